/- Lemmas for HistoryOrder. -/
import Derived.Test.YtmbahmpbmcfifaaGreatDoorAl
import Derived.Test.YtmbahmpbmcfifaaGreatDoorAn
noncomputable section
set_option linter.all false
set_option maxHeartbeats 4000000
set_option maxRecDepth 100000
namespace Go.Bx
open Go.Proofs Go.Proofs.Tryz
attribute [local irreducible] vc er dr b4 bV run iD iY i1 i6 iQ i7 i2 iu iS i4 gB i3 cW
def Z4:CF GL f100 [] [] 100:=ji
def BW{a:ID}:∀{k:Nat} {l:List aK},ox a k l=none->∀p∈l,p.id≠a
 |k,[],_=>by intro p E;cases E
 |k,q::r,h=>by
  unfold ox at h;split at h
  .cases h
  next d=>
   intro p E;rcases bC.1 E with rfl|E
   .simpa using d
   .exact BW h p E
def yW{a:ID}:∀{k:Nat} {l:List ee},oC a k l=none->∀p∈mu l,p.id≠a
 |k,[],_=>by intro p E;simp[mu]at E
 |k,q::r,h=>by
  unfold oC at h;split at h
  .cases h
  next d=>
   intro p E;simp only[mu,cf,aR]at E;rcases E with E|E
   .exact BW d p E
   .exact yW h p E
def yX{a:ID}:∀{k:Nat} {l:List eQ},ef a k l=none->∀p∈lP l,p.id≠a
 |k,[],_=>by intro p E;simp[lP]at E
 |k,q::r,h=>by
  unfold ef at h;split at h
  .cases h
  next d=>
   intro p E;simp only[lP,cf,aR]at E;rcases E with E|E
   .exact yW d p E
   .exact yX h p E
def DJ(w:cm){v a:Nat}(d:v<w.O.length)(f:a<w.O[v].O.length):0< (nh w w.O.length).length:=by
 refine List.length_pos_of_mem (a:=⟨v,a,0⟩) ?_;refine dC.2 ⟨v,dc.2 d,?_⟩;rw[ap,aa d,bf];exact cG.2 ⟨a,dc.2 f,rfl⟩
def rm(w:cm)(l:List Int)(k:Int)(a:ID):Op:={iW with kind:=6,W:=a,spot:=sh w l (k+2) a 1}
def oD(w:cm)(l:List Int)(k:Int):Op:=
 {iW with kind:=2,spot:=sh w l (k+2) ⟨-1,0,0⟩ 0,eB:=(my l (k+4) ⟨0,0,0⟩).eB,eh:=(my l (k+4) ⟨0,0,0⟩).eh,bW:=(my l (k+4) ⟨0,0,0⟩).bW,C:=gQ w l (k+5) (my l (k+4) ⟨0,0,0⟩).C.length}
def E3(w:cm)(l:List Int)(k:Int)(all:List aK)(p:aK)(v a i:Nat)(bL:List aK)(d:List Int)(A:Int):Op:=
 if A<=2 then oD w l k
 else if A<=4 then {iW with kind:=3,W:=p.id}
 else if A<=6 then if 0<d.length then {iW with kind:=4,W:=p.id,n:=d.getD (W l (k+2) d.length).toNat 0}else rm w l k p.id
 else if A<=8 then if i+1<bL.length/\(bL.getD (i+1) h8).eB=p.eB/\(bL.getD (i+1) h8).eh=p.eh then {iW with kind:=5,W:=p.id}else rm w l k p.id
 else if A<=10 then jb w l (k+2) ⟨v,a,i⟩
 else if A=11 then {iW with kind:=9,W:=p.id,C:=gQ w l (k+2) p.C.length}
 else if A=12 then {iW with kind:=7,W:=p.id,to:=(all.getD (W l (k+2) all.length).toNat h8).id}
 else if A=13 then {iW with kind:=1,spot:=⟨W l (k+2) w.O.length,0,0⟩,bW:=kj l (k+3)}
 else if A=14/\w.O.length<4 then iW
 else rm w l k p.id
def Gt(w:cm)(l:List Int)(k:Int):Op:=
 if(dx w).length=0 then sU w l k else
 let p:=(dx w).getD (W l (k+1) (dx w).length).toNat h8
 match ef p.id 0 w.O with
 |some (v,a,i)=>E3 w l k (dx w) p v a i (gV w v a).O (kG p.bW (cq p.bW).length) (W l k 16)
 |none=>iW
def vn(l:List Int)(k:Int)(a:ID):(my l k a).C.length<=2:=by
 simp only[my,vH,aq,List.length_range];have f:=ic l (k+1) 6 av;generalize W l (k+1) 6=d at*
 obtain⟨d,rfl⟩:∃j:Nat,d=j:=⟨d.toNat,av⟩;have hb:d=0\/d=1\/d=2\/d=3\/d=4\/d=5:=av;rcases hb with rfl|rfl|rfl|rfl|rfl|rfl<;>decide
def Sb(w:cm)(ad:w.fits)(l:List Int)(k:Int)(o:∀n∈l,jv n)(eN:0<=k/\k<=1000000):af 100 [w.v,fx l,I k] (Gt w l k).v:=by
 have D:=ad.1;have E:=ad.2.2.2;have dU:=ad.2.1;have c1:=uC w D;have b6:=Q0 w D l k o av;have d:Gt w l k=if(dx w).length=0 then sU w l k else
  (match ef ((dx w).getD (W l (k+1) (dx w).length).toNat h8).id 0 w.O with
  |some (v,a,i)=>E3 w l k (dx w) ((dx w).getD (W l (k+1) (dx w).length).toNat h8) v a i (gV w v a).O (kG ((dx w).getD (W l (k+1) (dx w).length).toNat h8).bW (cq ((dx w).getD (W l (k+1) (dx w).length).toNat h8).bW).length) (W l k 16)
  |none=>iW):=rfl
 generalize Gt w l k=R at*
 refine Pure.gg (by simp only[du]) (by simp only[du]) (eU hm Z4.ok (bF rfl) ?_);by_cases h0:(dx w).length=0
 .rw[ax h0]at d;subst d;repeat' first|simp only[dq,simprocAttr,h0]|refine lq c1 ?_|refine lq b6 ?_
  all_goals(refine fin1 ev rfl ?_;exact .refl _)
 rw[an h0]at d;have c3:=jk l (k+1) (dx w).length o av;have b7:=ic l (k+1) (dx w).length av;obtain⟨P,ca⟩:∃P:Nat,W l (k+1) (dx w).length=P:=⟨(W l (k+1) (dx w).length).toNat,av⟩;rw[ca]at c3 b7 d;have ai:P< (dx w).length:=av;simp only[bX]at d;have a8:(dx w).getD P h8=(dx w)[P]:=by rw[ap,aa ai,bf]
 rw[a8]at d;have aA:=E _ (ah ai);have a1:ef (dx w)[P].id 0 w.O≠none:=λh=>yX h (dx w)[P] (ah ai) rfl;have c4:=vg w (dx w)[P].id D;obtain⟨all,a4⟩:∃all,dx w=all:=⟨_,rfl⟩;simp only[a4]at*
 obtain⟨p,L4⟩:∃p,all[P]=p:=⟨_,rfl⟩;rw[L4]at d aA a1 c4;rcases a5:ef p.id 0 w.O with _|⟨v,a,i⟩
 .exact absurd a5 a1
 rw[a5]at c4 d;simp only[ka,fJ]at c4 d;obtain⟨N,ab,cb,_⟩:=kw a5;have c5:=qa w v a ⟨v,a,i⟩ N ab rfl rfl;have c6:=QR p.bW aA.2.1;have c7:=jk l k 16 o av;have e4:=ic l k 16 av;have cc:=Q5 w D l (k+2) v a i o av N ab cb;have c9:=JR w ad l (k+2) p.id 1 o av (DJ w N ab) av;rw[fF N ab]at d;have ea:w.O[v].O[a].O.length<=1000000:=((D.2.1 _ (ah N)).2 _ (ah ab)).2.1;generalize w.O[v].O[a].O=bL at*
 have eb:=yM p.bW (cq p.bW).length;have ch:(cq p.bW).length<=p.bW.length:=lJ p.bW _;generalize kG p.bW (cq p.bW).length=f at*
 have Xj:rm w l k p.id={iW with kind:=6,W:=p.id,spot:=sh w l (k+2) p.id 1}:=rfl;generalize ed:W l k 16=A at*
 have ci:A=0\/A=1\/A=2\/A=3\/A=4\/A=5\/A=6\/A=7\/A=8\/A=9\/A=10\/A=11\/A=12\/A=13\/A=14\/A=15:=av;have cp:p.v=.agg [I p.id.J,I p.id.seq,I p.id.k,I p.eB,I p.eh,S p.bW,eZ p.C]:=rfl;rcases ci with rfl|rfl|rfl|rfl|rfl|rfl|rfl|rfl|rfl|rfl|rfl|rfl|rfl|rfl|rfl|rfl
 case inr.inr.inr.inl|inr.inr.inr.inr.inl=>
  all_goals
   subst d;exact Xs
 case inr.inr.inr.inr.inr.inl|inr.inr.inr.inr.inr.inr.inl=>
  all_goals
   by_cases a2:0<f.length
   .have V7:=jk l (k+2) f.length o av;have a3:=ic l (k+2) f.length av;have wy:R={iW with kind:=4,W:=p.id,n:=f.getD (W l (k+2) f.length).toNat 0}:=by rw[d];unfold E3;rw[an av,an av,ax av,ax a2]
    clear d;generalize W l (k+2) f.length=Q at*
    obtain⟨Q,rfl⟩:∃j:Nat,Q=j:=⟨Q.toNat,av⟩;have hQ:Q<f.length:=av;exact Xm
   .have wy:R=rm w l k p.id:=by rw[d];unfold E3;rw[an av,an av,ax av,an a2]
    exact TV
 case inr.inr.inr.inr.inr.inr.inr.inl|inr.inr.inr.inr.inr.inr.inr.inr.inl=>
  all_goals
   have L:((i:Int)+1).toNat=i+1:=av;by_cases h1:i+1<bL.length
   .have wy:R=if bL[i+1].eB=p.eB/\bL[i+1].eh=p.eh then {iW with kind:=5,W:=p.id}else rm w l k p.id:=by
     rw[d];unfold E3;rw[an av,an av,an av,ax av,ap,aa h1,bf];by_cases u:bL[i+1].eB=p.eB/\bL[i+1].eh=p.eh
     .rw[ax u,ax ⟨h1,u⟩]
     .rw[an u,an λh=>u h.2]
    rw[Xj]at wy;by_cases u:bL[i+1].eB=p.eB
    .by_cases a0:bL[i+1].eh=p.eh
     .rw[ax ⟨u,a0⟩]at wy;subst wy;repeat' first|simp(disch:=try exact om) only[gE,simprocAttr,h0,L4,L,h1,u,a0]|(first|refine cz ?_ ?_|refine gz ?_ ?_)<;>intro H h<;>(try simp only[H])<;>try omega|refine lq c1 ?_|refine lq c3 ?_|refine lq c4 ?_|refine lq c5 ?_|refine lq c6 ?_|refine lq c7 ?_|refine ec ?_
      exact Mk
     .rw[an (λh=>a0 h.2)]at wy;subst wy;have a9:(bL[i+1].eh==p.eh)=false:=by simpa using a0
      repeat' first|simp(disch:=try exact om) only[gE,simprocAttr,h0,L4,L,h1,u,a9]|(first|refine cz ?_ ?_|refine gz ?_ ?_)<;>intro H h<;>(try simp only[H])<;>try omega|refine lq c1 ?_|refine lq c3 ?_|refine lq c4 ?_|refine lq c5 ?_|refine lq c6 ?_|refine lq c7 ?_|refine lq c9 ?_|refine ec ?_
      exact Mk
    .rw[an (λh=>u h.1)]at wy;subst wy;have bi:(bL[i+1].eB==p.eB)=false:=by simpa using u
     repeat' first|simp(disch:=try exact om) only[gE,simprocAttr,h0,L4,L,h1,bi]|(first|refine cz ?_ ?_|refine gz ?_ ?_)<;>intro H h<;>(try simp only[H])<;>try omega|refine lq c1 ?_|refine lq c3 ?_|refine lq c4 ?_|refine lq c5 ?_|refine lq c6 ?_|refine lq c7 ?_|refine lq c9 ?_|refine ec ?_
     exact Mk
   .have wy:R=rm w l k p.id:=by rw[d];unfold E3;rw[an av,an av,an av,ax av,an (λh=>h1 h.1)]
    rw[Xj]at wy;subst wy;repeat' first|simp(disch:=try exact om) only[gE,simprocAttr,h0,L4,L,h1]|(first|refine cz ?_ ?_|refine gz ?_ ?_)<;>intro H h<;>(try simp only[H])<;>try omega|refine lq c1 ?_|refine lq c3 ?_|refine lq c4 ?_|refine lq c5 ?_|refine lq c6 ?_|refine lq c7 ?_|refine lq c9 ?_|refine ec ?_
    exact Mk
 case inr.inr.inr.inr.inr.inr.inr.inr.inr.inl|inr.inr.inr.inr.inr.inr.inr.inr.inr.inr.inl=>
  all_goals
   have wy:R=jb w l (k+2) ⟨v,a,i⟩:=by rw[d];rfl
   subst wy;repeat' first|simp(disch:=try exact om) only[gE,simprocAttr,h0,L4]|refine cs ?_ ?_<;>intro h<;>try omega|refine lq c1 ?_|refine lq c3 ?_|refine lq c4 ?_|refine lq c5 ?_|refine lq c6 ?_|refine lq c7 ?_|refine lq cc ?_|refine ec ?_
   all_goals(refine fin1 ev rfl ?_;exact .refl _)
 case inl|inr.inl|inr.inr.inl=>
  all_goals
   have wy:R=oD w l k:=by rw[d];rfl
   clear d Xj;have V7:=H2 l (k+4) ⟨0,0,0⟩ o av;have aB:=JR w ad l (k+2) ⟨-1,0,0⟩ 0 o av (DJ w N ab) av;have bo:=vn l (k+4) ⟨0,0,0⟩;unfold oD at wy;generalize sh w l (k+2) ⟨-1,0,0⟩ 0=c2 at*
   generalize my l (k+4) ⟨0,0,0⟩=X at*
   obtain⟨br,bs,bu⟩:=c2;obtain⟨⟨dd,dg,dp⟩,bv,bU,b2,ac⟩:=X;simp only at bo wy;repeat' first|simp(disch:=try exact om) only[gE,simprocAttr,h0,L4]|refine cs ?_ ?_<;>intro h<;>try omega|refine lq c1 ?_|refine lq c3 ?_|refine lq c4 ?_|refine lq c5 ?_|refine lq c6 ?_|refine lq c7 ?_|refine lq V7 ?_|refine lq aB ?_|refine ec ?_
   refine dQ rfl rfl (λ(j:Nat) t=>j<=ac.length/\t.Z 15=I j/\t.G 3=1/\t.loc 3 0=[cd w.O]/\t.G 6=1/\t.loc 6 0=[I 0,I 0,I 0,I 0,I 0,I 0,I 0,I 0,I 0,I 0,I 0,I 0,I 0,S [],.aP,.aP,.aP]/\t.G 13=1/\t.loc 13 0=[I dd,I dg,I dp,I bv,I bU,S b2,eZ ac]/\t.G 14=1/\∃q,t.loc 14 0=[I 2,I 0,I 0,I 0,I 0,I 0,I 0,I br,I bs,I bu,I 0,I bv,I bU,S b2,.aP,.aP,q]/\((j=0/\q=.aP)\/(0<j/\q=eZ (gQ w l (k+5) j)/\t.fc 14 0 16=true))) (λj=>ac.length-j) 0 ?_ ?_
   .refine⟨aL _,?_⟩;simp only[da,simprocAttr,aO]
    and_intros
    all_goals first|rfl|(refine⟨.aP,?_,.inl ?_⟩<;>rfl)
   rintro j t ⟨ds,j2,j3,j4,j5,j6,j7,j8,j9,q,jA,jB⟩ r;have e1:t.Z 1=fx l:=by rw[r 1 dt];rfl
   have e2:t.Z 2=I k:=by rw[r 2 dt];rfl
   have e3:t.Z 3=.A 3 0 0:=by rw[r 3 dt];rfl
   have e6:t.Z 6=.A 6 0 0:=by rw[r 6 dt];rfl
   have Pk:t.Z 13=.A 13 0 0:=by rw[r 13 dt];rfl
   have Pl:t.Z 14=.A 14 0 0:=by rw[r 14 dt];rfl
   have aC:=jk l (k+5+j) 16 o av;have dF:=ic l (k+5+j) 16 av;have y:=rG w l (k+5) j;have b3:(gQ w l (k+5) j).length=j:=by simp[gQ]
   generalize W l (k+5+j) 16=a6 at*
   have aD:=ED w a6 D (by unfold jv;omega);rcases am j ac.length with K|K
   .rcases jB with⟨rfl,rfl⟩|⟨jB,rfl,a7⟩
    .repeat any_goals first|simp(disch:=first|omega|(simp only[me];omega)) only[dq,simprocAttr,bh,j2,j3,j4,j5,j6,j7,j8,j9,jA,e1,e2,e3,e6,Pk,Pl]|(refine bY (λh=>?_) (λh=>?_))<;>((try simp only[h]);(try simp only[jc]at h);(try omega))|((first|refine iT aC ?_ ?_|refine iT aD ?_ ?_);·simp only[dL,simprocAttr]<;>rfl)
     all_goals
      refine⟨0+1,⟨?_⟩,⟨av⟩⟩;simp only[da,simprocAttr,j2,j3,j4,j5,j6,j7,j8,j9,jA,e1,e2,e3,e6,Pk,Pl,xH]
     all_goals
      have z:=y;simp only[cA]at z
      and_intros
      all_goals first|exact K|rfl|(refine⟨_,by(simp only[aO,aw,ay]<;>rfl),.inr ⟨?_,rfl⟩⟩;rw[z];rfl)
    .repeat any_goals first|simp(disch:=first|omega|(simp only[me];omega)) only[dq,simprocAttr,xH,bh,j2,j3,j4,j5,j6,j7,j8,j9,jA,a7,e1,e2,e3,e6,Pk,Pl]|(refine bY (λh=>?_) (λh=>?_))<;>((try simp only[h]);(try simp only[jc]at h);(try omega))|((first|refine iT aC ?_ ?_|refine iT aD ?_ ?_);·simp only[dL,simprocAttr]<;>rfl)
     all_goals
      refine⟨j+1,⟨?_⟩,⟨av⟩⟩;simp only[da,simprocAttr,j2,j3,j4,j5,j6,j7,j8,j9,jA,e1,e2,e3,e6,Pk,Pl,xH]
     all_goals
      and_intros
      all_goals first|exact K|rfl|(refine⟨_,by(simp only[aO,aw,ay]<;>rfl),.inr ?_⟩;rw[y,aE];exact⟨jV _,rfl⟩)
   .obtain rfl:j=ac.length:=av;have Pw:q.one=true/\V.Le q (eZ (gQ w l (k+5) ac.length)):=by
     exact XR
    exact Xn
 case inr.inr.inr.inr.inr.inr.inr.inr.inr.inr.inr.inl=>
  all_goals
   have wy:R={iW with kind:=9,W:=p.id,C:=gQ w l (k+2) p.C.length}:=by rw[d];rfl
   clear d Xj;have el:=aA.1;repeat' first|simp(disch:=try exact om) only[gE,simprocAttr,h0,L4]|refine cs ?_ ?_<;>intro h<;>try omega|refine lq c1 ?_|refine lq c3 ?_|refine lq c4 ?_|refine lq c5 ?_|refine lq c6 ?_|refine lq c7 ?_|refine ec ?_
   refine dQ rfl rfl (λ(j:Nat) t=>j<=p.C.length/\t.Z 17=I j/\t.G 3=1/\t.loc 3 0=[cd w.O]/\t.G 6=1/\t.loc 6 0=[I 0,I 0,I 0,I 0,I 0,I 0,I 0,I 0,I 0,I 0,I 0,I 0,I 0,S [],.aP,.aP,.aP]/\t.G 8=1/\t.loc 8 0=[I p.id.J,I p.id.seq,I p.id.k,I p.eB,I p.eh,S p.bW,eZ p.C]/\t.G 16=1/\∃q,t.loc 16 0=[I 9,I p.id.J,I p.id.seq,I p.id.k,I 0,I 0,I 0,I 0,I 0,I 0,I 0,I 0,I 0,S [],.aP,.aP,q]/\((j=0/\q=.aP)\/(0<j/\q=eZ (gQ w l (k+2) j)/\t.fc 16 0 16=true))) (λj=>p.C.length-j) 0 ?_ ?_
   .refine⟨aL _,?_⟩;simp only[da,simprocAttr,aO]
    and_intros
    all_goals first|rfl|(refine⟨.aP,?_,.inl ?_⟩<;>rfl)
   rintro j t ⟨ds,j2,j3,j4,j5,j6,j7,j8,j9,q,jA,jB⟩ r;have e1:t.Z 1=fx l:=by rw[r 1 dt];rfl
   have e2:t.Z 2=I k:=by rw[r 2 dt];rfl
   have e3:t.Z 3=.A 3 0 0:=by rw[r 3 dt];rfl
   have e6:t.Z 6=.A 6 0 0:=by rw[r 6 dt];rfl
   have Pk:t.Z 8=.A 8 0 0:=by rw[r 8 dt];rfl
   have Pl:t.Z 16=.A 16 0 0:=by rw[r 16 dt];rfl
   have aC:=jk l (k+2+j) 16 o av;have dF:=ic l (k+2+j) 16 av;have y:=rG w l (k+2) j;have b3:(gQ w l (k+2) j).length=j:=by simp[gQ]
   generalize W l (k+2+j) 16=a6 at*
   have aD:=ED w a6 D (by unfold jv;omega);rcases am j p.C.length with K|K
   .rcases jB with⟨rfl,rfl⟩|⟨jB,rfl,a7⟩
    .repeat any_goals first|simp(disch:=first|omega|(simp only[me];omega)) only[dq,simprocAttr,bh,j2,j3,j4,j5,j6,j7,j8,j9,jA,e1,e2,e3,e6,Pk,Pl]|(refine bY (λh=>?_) (λh=>?_))<;>((try simp only[h]);(try simp only[jc]at h);(try omega))|((first|refine iT aC ?_ ?_|refine iT aD ?_ ?_);·simp only[dL,simprocAttr]<;>rfl)
     all_goals
      refine⟨0+1,⟨?_⟩,⟨av⟩⟩;simp only[da,simprocAttr,j2,j3,j4,j5,j6,j7,j8,j9,jA,e1,e2,e3,e6,Pk,Pl,xH]
     all_goals
      have z:=y;simp only[cA]at z
      and_intros
      all_goals first|exact K|rfl|(refine⟨_,by(simp only[aO,aw,ay]<;>rfl),.inr ⟨?_,rfl⟩⟩;rw[z];rfl)
    .repeat any_goals first|simp(disch:=first|omega|(simp only[me];omega)) only[dq,simprocAttr,xH,bh,j2,j3,j4,j5,j6,j7,j8,j9,jA,a7,e1,e2,e3,e6,Pk,Pl]|(refine bY (λh=>?_) (λh=>?_))<;>((try simp only[h]);(try simp only[jc]at h);(try omega))|((first|refine iT aC ?_ ?_|refine iT aD ?_ ?_);·simp only[dL,simprocAttr]<;>rfl)
     all_goals
      refine⟨j+1,⟨?_⟩,⟨av⟩⟩;simp only[da,simprocAttr,j2,j3,j4,j5,j6,j7,j8,j9,jA,e1,e2,e3,e6,Pk,Pl,xH]
     all_goals
      and_intros
      all_goals first|exact K|rfl|(refine⟨_,by(simp only[aO,aw,ay]<;>rfl),.inr ?_⟩;rw[y,aE];exact⟨jV _,rfl⟩)
   .obtain rfl:j=p.C.length:=av;have Pw:q.one=true/\V.Le q (eZ (gQ w l (k+2) p.C.length)):=by
     exact XR
    exact Xn
 case inr.inr.inr.inr.inr.inr.inr.inr.inr.inr.inr.inr.inl=>
  have V7:=jk l (k+2) all.length o av;have a3:=ic l (k+2) all.length av;have wy:R={iW with kind:=7,W:=p.id,to:=(all.getD (W l (k+2) all.length).toNat h8).id}:=by rw[d];rfl
  generalize W l (k+2) all.length=Q at*
  obtain⟨Q,rfl⟩:∃j:Nat,Q=j:=⟨Q.toNat,av⟩;have hQ:Q<all.length:=av;exact Xm
 case inr.inr.inr.inr.inr.inr.inr.inr.inr.inr.inr.inr.inr.inl=>
  have et:0<w.O.length:=av;have V7:=jk l (k+2) w.O.length o av;have a3:=ic l (k+2) w.O.length av;have aB:=Bl l (k+3) o av;have wy:R={iW with kind:=1,spot:=⟨W l (k+2) w.O.length,0,0⟩,bW:=kj l (k+3)}:=by rw[d];rfl
  subst wy;repeat' first|simp(disch:=try exact om) only[gE,simprocAttr,h0,L4]|refine cs ?_ ?_<;>intro h<;>try omega|refine lq c1 ?_|refine lq c3 ?_|refine lq c4 ?_|refine lq c5 ?_|refine lq c6 ?_|refine lq c7 ?_|refine lq V7 ?_|refine lq aB ?_|refine ec ?_
  exact Mk
 case inr.inr.inr.inr.inr.inr.inr.inr.inr.inr.inr.inr.inr.inr.inl=>
  by_cases b5:w.O.length<4
  .have wy:R=iW:=by rw[d];unfold E3;simp[b5]
   subst wy;exact Xs
  .have wy:R=rm w l k p.id:=by rw[d];unfold E3;simp[b5]
   exact TV
 case inr.inr.inr.inr.inr.inr.inr.inr.inr.inr.inr.inr.inr.inr.inr=>
  have wy:R=rm w l k p.id:=by rw[d];rfl
  exact TV
def TE:fL prog 85=true:=by kernel_rfl
def TF:CF GL f83 [5,7] [] 83:=ji
def Sc(l:List aV)(E:aJ)(j:l.length<=1000000):aI 83 [eI l] E λv _ a=>gh 32 a v (l.map aV.v)/\bt none E a/\∀i,bH v=some i->E.Y<=i:=by
 refine bq TF.ok rfl ?_;repeat' first|refine k9 ?_|(refine tM (by simp only[pU]<;>rfl) (by simp only[da]<;>rfl) ?_ (λh=>?_))
 .refine BS (fD:=E) sT ?_;have u:gh 32 (E.cM []) (.ms 32 E.Y 0 0 0) []:=⟨(by intro x hx;cases hx),.inr ⟨E.Y,0,[],rfl,dm _,by simp[aJ.cM,eR,b1],ao _,rfl⟩⟩;repeat' simp only[gE,simprocAttr]
  refine iE (xs:=[]) (ys:=l.map aV.v) ?_ ?_ ?_ ?_ ?_ rfl ?_ ?_ λd a o hb hi=>?_
  .exact sT
  .exact sT
  .exact lG.map (λy=>rfl) _
  .exact sT
  .simp only[da];intro l j;cases j
  .simp only[aq,aT];omega
  .simp only[da];intro r;cases r
  have f:gh 32 a d (l.map aV.v):=by simpa using o
  have p:bH d=some E.Y\/bH d=some (E.Y+1):=by revert hi;simp only[da];exact id
  have q:bt none E a:=by
   revert hb
   simp only[da];intro hb;have t:=hb.Y;simp only[aJ.cM]at t;exact⟨λi hi _=>by rw[hb.box i (by simp only[aJ.cM];omega) (by simp[bH];omega)];simp only[aJ.cM];exact bE _ _ (cr hi),λi hi=>by rw[hb.mp i (by simp only[aJ.cM];omega)];rfl,av⟩
  repeat' simp only[dq,simprocAttr,bh]
  refine⟨nE,d,_,bz rfl f.fS,f,q,λi hi=>?_⟩;rcases p with h|h<;>rw[h]at hi<;>simp at hi<;>omega
 .exact TZ
def DK(l:List aV):gl (l.take 1)++l.drop 1=l:=by
 cases l with
 |nil=>rfl
 |cons a r=>rfl
def Oj(S T:List aV)(x:aV)(k:Nat)(h:k<S.length):((S.take (k+1)++x::(S.drop (k+1)++T)).set (k+1) S[k]).set k x=S.take k++x::(S.drop k++T):=by
 have a:(S.take (k+1)).length=k+1:=by rw[aF];omega
 rw[nJ _ _ av,a,iM,aw,bj h,aG,nJ _ _ (by rw[aF];omega)];rw[show k-(S.take k).length=0 from by rw[aF];omega,List.singleton_append,aw,bI h,aZ]
def aV.zX(e:aV):∃c:List V,e.v=.agg c/\c.length=32/\c.all V.one=true:=⟨_,rfl,rfl,rfl⟩
def Z5:CF GL f177 [] [] 177:=ji
def Sd(v:V)(l:List aV)(E:aJ)(a4:gh 32 E v (l.map aV.v))(e7:l.length<=1000):
 aI 177 [v,I 0,I l.length,.fn 85 []] E λ_ _ d=>gh 32 d v ((gl l).map aV.v)/\bt (bH v) E d:=by
 refine bq Z5.ok rfl ?_;have q:=a4.one;have u:=a4.fS;repeat' simp(disch:=omega) only[dq,simprocAttr,bh,q,u]
 refine dQ rfl rfl (λ(i:Nat) t=>1<=i/\(i<=l.length\/i=1)/\t.Z 8=I i/\gh 32 t.E v ((gl (l.take i)++l.drop i).map aV.v)/\bt (bH v) E t.E) (λi=>l.length-i) 1 ?_ ?_
 .refine⟨ao _,.inr rfl,?_⟩;rw[DK];simp only[da,simprocAttr,q,u];exact⟨a4,rQ⟩
 rintro i t ⟨fa,el,bi,aD,ch⟩ bo;have b2:t.Z 0=v:=by rw[bo 0 (by decide)];rfl
 have b3:t.Z 1=I 0:=by rw[bo 1 dt];rfl
 have ci:t.Z 2=I l.length:=by rw[bo 2 dt];rfl
 have b5:t.Z 3=.fn 85 []:=by rw[bo 3 dt];rfl
 rcases am i l.length with P|P
 .have b6:=Bo P;have hS:=ya l i (k0 P);rw[bI P]at aD;generalize l[i]=x at b6 aD;generalize gl (l.take i)=S at b6 hS aD;repeat' first|simp only[gE,simprocAttr,bi,b2,b3,ci,b5,q,u]|refine cs ?_ ?_<;>intro h<;>try omega
  refine dQ rfl rfl (λ(k:Nat) f=>k<=i/\vu x S k=vu x S i/\f.Z 9=I k/\gh 32 f.E v ((S.take k++x::(S.drop k++l.drop (i+1))).map aV.v)/\bt (bH v) E f.E) (λk=>k) i ?_ ?_
  .refine⟨ao _,rfl,?_⟩;rw[az (c8 hS),m7 (c8 hS)];simp only[da,q,u,bi];exact⟨aD,ch⟩
  rintro k f ⟨fr,Q,z,b7,ca⟩ ab;have j:f.Z 0=v:=by rw[ab 0 dt];exact b2
  have D:f.Z 1=I 0:=by rw[ab 1 dt];exact b3
  have H:f.Z 3=.fn 85 []:=by rw[ab 3 dt];exact b5
  have K:f.Z 8=I i:=by rw[ab 8 (by decide)];exact bi
  have fin:∀d,gh 32 d v ((uF S x++l.drop (i+1)).map aV.v)->bt (bH v) E d->gh 32 d v ((gl (l.take (i+1))++l.drop (i+1)).map aV.v)/\bt (bH v) E d:=λd a b=>⟨by rw[b6];exact a,b⟩;rcases k with _|k
  .have a5:uF S x++l.drop (i+1)=S.take 0++x::(S.drop 0++l.drop (i+1)):=by
    rw[uF,hS,<-Q];rfl
   repeat' first|simp(disch:=omega) only[gE,simprocAttr,z,j,D,H,K,q,u]|refine cY ?_ ?_<;>intro h<;>(try simp only[bO,bD]at h)<;>(try simp only[h])<;>try simp only[jc]at h
   refine⟨i+1,⟨?_⟩,⟨by omega⟩⟩;refine⟨by omega,.inl P,?_⟩;simp only[da,z,j,D,H,K,q,u];refine⟨ar (V.int .i64) (by omega),fin _ ?_ ca⟩;rw[a5];exact b7
  .have cp:k<S.length:=av;have hC:(S.take (k+1)).length=k+1:=by rw[aF];omega
   obtain⟨L,⟨a6,cb⟩|⟨id,c,rest,a6,dV,dZ,c1,ac⟩⟩:=id b7
   .exact absurd cb bR
   have hlen:((S.take (k+1)++x::(S.drop (k+1)++l.drop (i+1))).map aV.v).length=l.length:=by
    exact XT
   have g1:((S.take (k+1)++x::(S.drop (k+1)++l.drop (i+1))).map aV.v)[k+1]'av=x.v:=by
    rw[dB,gM av];simp[hC]
   have et:((S.take (k+1)++x::(S.drop (k+1)++l.drop (i+1))).map aV.v)[k]'av=(S[k]).v:=by
    rw[dB,eK av,jz]
   have e4:k+1<l.length:=av;have a0:=iv L (i:=k+1) av rest;have a1:=iv L (i:=k) av rest;rw[g1]at a0;rw[et]at a1;rw[hlen]at c1 ac a6;replace j:=j.trans a6;have c2:=dM L;rw[hlen]at c2;have c5:=λ(i:Nat) h (x:V) (hx:jR 32 x=true)=>qK L (i:=i) h hx rest;generalize fs:b1 ((S.take (k+1)++x::(S.drop (k+1)++l.drop (i+1))).map aV.v)=M at dZ a0 a1 c2 c5;have c6:(k+1)*32<=M.length+rest.length:=av;have c7:k*32<=M.length+rest.length:=av;have a7:((k+1:Nat):Int)-1=k:=av;rw[vu,aa cp]at Q;simp only at Q;have N:=Vb x S[k];obtain⟨R,ex,c9,eN⟩:=x.zX;obtain⟨o,br,dd,e1⟩:=S[k].zX;rw[ex,br]at N;rw[ex]at a0;rw[br]at a1;simp only[V.cells]at a0 a1;have dg:∀r:List V,List.take 32 (R++r)=R:=λr=>l1 c9;have ty:∀r:List V,List.take 32 (o++r)=o:=λr=>l1 dd;have ad:(R.length==32&&R.all V.one)=true:=by rw[c9,eN];rfl
   have ai:(o.length==32&&o.all V.one)=true:=by rw[dd,e1];rfl
   cases aA:np x S[k]with
   |true=>
    rw[xj,aA,ax rfl]at N;repeat' first|simp(disch:=omega) only[gE,simprocAttr,z,j,D,H,K,dZ,a0,a1,c6,c7,a7,dg,ty,ad,ai]|(first|refine cz ?_ ?_|refine gz ?_ ?_)<;>intro cc h<;>(try simp only[cc])<;>(try exact absurd trivial h)<;>try omega|(refine w2 (by simp only[pU]<;>rfl) TE (N) (by simp only[pU]<;>rfl) ?_ ?_;(·refine nG ?_;simp only[dL]<;>rfl))
    refine cC (n:=32) (off:=(k+1)*32) (cells:=M++rest) ?_ ?_ (by rw[ae];omega) λa2 te tc tl tb tm e2 fB=>?_
    .exact sT
    .exact sT
    have aB:a2.E.box=eR f.E.box id (some (aO (M++rest) ((k+1)*32) o)):=tb.trans sT;rw[show aO (M++rest) ((k+1)*32) o=_ from c5 (k+1) av (.agg o) ai]at aB;repeat' simp(disch:=omega) only[gE,simprocAttr,te,tc,tl,z,j,D,H,K,a7]
    have bs:lG 32 (((S.take (k+1)++x::(S.drop (k+1)++l.drop (i+1))).map aV.v).set (k+1) (.agg o)):=L.set ai;have bu:=dM bs;rw[eT,hlen]at bu;have aC:=qK bs (i:=k) (by rw[eT];omega) (x:=.agg R) ad rest;rw[<-ex,<-br,<-kZ,<-kZ,Oj _ _ _ _ cp]at aC;rw[<-br,<-kZ]at aB bu;generalize e5:b1 (((S.take (k+1)++x::(S.drop (k+1)++l.drop (i+1))).set (k+1) S[k]).map aV.v)=dp at*
    refine cC (n:=32) (off:=k*32) (cells:=dp++rest) ?_ ?_ (by rw[ae];omega) λa3 ue ds ul ub e3 un gb=>?_
    .simp only[da];rw[aB,bl]
    .simp only[da,te,tc,tl];exact ad
    have a8:a3.E.box=eR a2.E.box id (some (aO (dp++rest) (k*32) R)):=ub.trans (by simp only[da,simprocAttr,te,tc,tl]);have bv:a2.E.Y=f.E.Y:=e2.trans (by simp only[da]);have dF:a2.E.mp=f.E.mp:=tm.trans sT;have bU:a3.E.Y=a2.E.Y:=un.trans sT;have dU:a3.E.mp=a2.E.mp:=e3.trans sT;rw[ex]at aC;simp only[V.cells]at aC;rw[aC]at a8;have ea:bt (some id) f.E a3.E:=(bt.HO aB dF bv).trans (bt.HO a8 dU bU);have p:((S.take k++x::(S.drop k++l.drop (i+1))).map aV.v).length=l.length:=by
     exact XT
    have eb:gh 32 a3.E v ((S.take k++x::(S.drop k++l.drop (i+1))).map aV.v):=
     ⟨lG.map (λy=>rfl) _,.inr ⟨id,c,rest,by rw[a6,p],by rw[bU,bv];exact dV,by rw[a8,bl],by rw[p];exact c1,by rw[p];exact ac⟩⟩
    have ed:bt (bH v) E a3.E:=ca.trans (by rw[a6];exact ea);rw[ax aA]at Q;repeat' simp(disch:=omega) only[gE,simprocAttr,te,tc,tl,ue,ds,ul,z,j,D,H,K,a7]
    refine⟨k,⟨?_⟩,⟨av⟩⟩;refine⟨by omega,Q,?_⟩;simp only[da,te,tc,tl,ue,ds,ul,z,j,D,H,K,a7];all_goals exact⟨eb,ed⟩
   |false=>
    have a9:∃r:Int,0<=r/\af 85 [.agg R,.agg o] (I r):=by
     rw[xj,an (by rw[aA];exact ky)]at N;refine⟨_,?_,N⟩;split<;>decide
    obtain⟨gf,e6,a9⟩:=a9;rw[an (by rw[aA];exact ky)]at Q;repeat' first|simp(disch:=omega) only[gE,simprocAttr,z,j,D,H,K,dZ,a0,a1,c6,c7,a7,dg,ty,ad,ai]|(first|refine cz ?_ ?_|refine gz ?_ ?_)<;>intro cc h<;>(try simp only[cc])<;>try omega|(refine w2 (by simp only[pU]<;>rfl) TE (a9) (by simp only[pU]<;>rfl) ?_ ?_;(·refine nG ?_;simp only[dL]<;>rfl))
    have a5:uF S x++l.drop (i+1)=S.take (k+1)++x::(S.drop (k+1)++l.drop (i+1)):=by
     rw[uF,hS,<-Q,aG];rfl
    refine⟨i+1,⟨?_⟩,⟨by omega⟩⟩;refine⟨by omega,.inl P,?_⟩;simp only[da,z,j,D,H,K,q,u];refine⟨ar (V.int .i64) (by omega),fin _ ?_ ca⟩;rw[a5];exact b7
 .repeat' first|simp only[gE,simprocAttr,bi,b2,b3,ci,b5,q,u]|refine cs ?_ ?_<;>intro h<;>try omega
  have a5:gl (l.take i)++l.drop i=gl l:=by
   rcases el with h|h
   .obtain rfl:i=l.length:=av;rw[be,je,cP]
   .rw[h,DK];cases l with
    |nil=>rfl
    |cons a r=>
     have:r=[]:=bJ.1 (by simp only[aM]at P;omega);subst this;rfl
  rw[a5]at aD;exact⟨nE,.hE [],_,rfl,aD,ch⟩
def Z6:CF GL f121 [] [3,6,10,15] 121:=ji
def abl:CF GL f84 [] [0] 84:=ji
def abm:CF GL f39 [8] [1,2] 39:=ji
def TG(v:V)(l:List aV)(E a:aJ):Prop:=gh 32 a v ((gl l).map aV.v)/\bt (bH v) E a
def Se(v:V)(l:List aV)(E:aJ)(a:gh 32 E v (l.map aV.v))(ac:l.length<20):
 aI 121 [v,I l.length,.fn 85 []] E λ_ _ r=>TG v l E r:=by
 have L:=Sd v l E a av;refine bq Z6.ok rfl ?_;have o:=a.one;have d:=a.fS;repeat' simp only[gE,simprocAttr,o,d]
 refine dQ rfl rfl (λ(_:Nat) t=>t.Z 7=I 0/\t.Z 8=I 20/\t.E=E) (λ_=>0) 0 ?_ ?_
 .exact sT;all_goals trivial
 rintro j t ⟨u,y,ad⟩ f;have z:t.Z 0=v:=by rw[f 0 dt];rfl
 have p:t.Z 1=I l.length:=by rw[f 1 dt];rfl
 have q:t.Z 2=.fn 85 []:=by rw[f 2 dt];rfl
 have D:t.Z 6=I 20:=by rw[f 6 dt];rfl
 repeat' first|simp only[gE,simprocAttr,u,y,z,p,q,D,o,d]|refine cs ?_ ?_<;>intro h<;>try omega
 refine bm (h0:=E) sT L ?_ ?_ ?_
 .simp only[bN,ce,sE,simprocAttr,d,q];rfl
 .refine nG ?_;simp only[dL]<;>rfl
 rintro _ _ H ⟨q1,N⟩;repeat' simp only[gE,simprocAttr,u,y,z,p,q,D,o,d]
 refine dQ rfl rfl (λ(_:Nat) t=>t.Z 6=I 20/\t.E=H) (λ_=>0) 0 ?_ ?_
 .exact sT;all_goals trivial
 rintro ai P ⟨Q,R⟩ K;have ab:P.Z 1=I l.length:=by rw[K 1 dt];exact p
 repeat' first|simp only[gE,simprocAttr,Q,ab]|refine cs ?_ ?_<;>intro h<;>try omega
 exact⟨nE,.hE [],_,rfl,by simp only[da,R];exact⟨q1,N⟩⟩
def Vs(v:V)(l:List aV)(E:aJ)(a:gh 32 E v (l.map aV.v))(j:l.length<20):
 aI 84 [v,.fn 85 []] E λ_ _ d=>TG v l E d:=by
 have o:=Se v l E a j;have p:=a.one;have o2:=a.fS;have f:=a.len;rw[aq]at f;refine bq abl.ok rfl ?_;repeat' simp only[gE,simprocAttr,p,o2,f]
 refine bm (h0:=E) sT o ?_ ?_ ?_
 .exact X5
 .refine nG ?_;simp only[dL]<;>rfl
 rintro _ _ r q;repeat' simp only[gE,simprocAttr]
 exact⟨nE,.hE [],_,rfl,q⟩
def tK(nx:ID->List ID)(th:ID->Bool)(p:ID):Nat->List ID×List cR->ID->List ID×List cR
 |0,s,_=>s
 |f+1,s,a=>if a∈s.1 then s else(nx a).foldl (tK nx th p f) (s.1++[a],if th a=true then s.2++[⟨p,a⟩]else s.2)
section
variable {nx:ID->List ID}{th:ID->Bool}{p:ID}
def BZ:∀(f:Nat)(s:List ID×List cR)(a:ID),(∀z∈s.1,z∈(tK nx th p f s a).1)/\s.1.length<=(tK nx th p f s a).1.length/\(tK nx th p f s a).2.length+s.1.length<=s.2.length+(tK nx th p f s a).1.length
 |0,s,a=>⟨λz h=>h,ao _,ao _⟩
 |f+1,s,a=>by
  unfold tK;split
  .exact⟨λz h=>h,ao _,ao _⟩
  .have key:∀(l:List ID)(u:List ID×List cR),(∀z∈u.1,z∈(l.foldl (tK nx th p f) u).1)/\u.1.length<=(l.foldl (tK nx th p f) u).1.length/\(l.foldl (tK nx th p f) u).2.length+u.1.length<=u.2.length+(l.foldl (tK nx th p f) u).1.length:=by
    intro l;induction l with
    |nil=>intro u;exact⟨λz h=>h,ao _,ao _⟩
    |cons b r ih=>
     intro u;obtain⟨h1,d,j⟩:=BZ f u b;obtain⟨h4,o,q⟩:=ih (tK nx th p f u b);exact Yf
   obtain⟨h1,d,j⟩:=key (nx a) (s.1++[a],if th a=true then s.2++[⟨p,a⟩]else s.2);simp only at h1 d j;have h4:(s.1++[a]).length=s.1.length+1:=bR;have o:(if th a=true then s.2++[(⟨p,a⟩:cR)]else s.2).length<=s.2.length+1:=by split<;>simp
   exact⟨λz h=>h1 z (ck _ h),av,av⟩
def DL(f:Nat):∀(l:List ID)(u:List ID×List cR),(∀z∈u.1,z∈(l.foldl (tK nx th p f) u).1)/\u.1.length<=(l.foldl (tK nx th p f) u).1.length/\(l.foldl (tK nx th p f) u).2.length+u.1.length<=u.2.length+(l.foldl (tK nx th p f) u).1.length
 |[],u=>⟨λz h=>h,ao _,ao _⟩
 |b::r,u=>by
  obtain⟨h1,a,d⟩:=BZ (nx:=nx) (th:=th) (p:=p) f u b;obtain⟨h4,j,o⟩:=DL f r (tK nx th p f u b);exact Yf
def tA(U:List ID)(m:List ID):Nat:=(U.filter λz=>decide (z∉m)).length
def Gu{U m d:List ID}(h:∀z∈m,z∈d):tA U d<=tA U m:=by
 unfold tA;induction U with
 |nil=>simp
 |cons x r ih=>
  by_cases a:x∈m
  .simp[a,h x a]at ih ⊢;exact ih
  .by_cases f:x∈d
   .simp[a,f]at ih ⊢;omega
   .simp[a,f]at ih ⊢;exact ih
def Gv{U m:List ID}{a:ID}(f:a∈U)(h:a∉m):tA U (m++[a])<tA U m:=by
 induction U with
 |nil=>cases f
 |cons x r ih=>
  have hle:tA r (m++[a])<=tA r m:=Gu λz j=>ck _ j;unfold tA at ih hle ⊢
  by_cases e:x=a
  .subst e;simp[h]at hle ⊢;omega
  .have:=ih (by rcases bC.1 f with d|d;exact absurd d.symm e;exact d);by_cases d:x∈m
   .simp[d]at this ⊢;exact this
   .simp[d,e]at this ⊢;omega
def Ig{U:List ID}(t:∀a∈U,∀b∈nx a,b∈U):∀(f:Nat)(s:List ID×List cR)(a:ID),a∈U->(∀z∈s.1,z∈U)->s.1.Nodup->(∀z∈(tK nx th p f s a).1,z∈U)/\(tK nx th p f s a).1.Nodup
 |0,s,a,_,h,j=>⟨h,j⟩
 |f+1,s,a,D,h,j=>by
  unfold tK;split
  .exact⟨h,j⟩
  next hm=>
   have key:∀(l:List ID)(u:List ID×List cR),(∀b∈l,b∈U)->(∀z∈u.1,z∈U)->u.1.Nodup->(∀z∈(l.foldl (tK nx th p f) u).1,z∈U)/\(l.foldl (tK nx th p f) u).1.Nodup:=by
    intro l;induction l with
    |nil=>intro u _ d o;exact⟨d,o⟩
    |cons b r ih=>
     intro u H d o;obtain⟨K,L⟩:=Ig t f u b (H b bR) d o;exact ih _ (λz q=>H z (by simp[q])) K L
   refine key (nx a) _ (t a D) (λz q=>?_) ?_
   .rcases aR.1 q with d|d
    .exact h z d
    .obtain rfl:=bg.1 d;exact D
   .exact aU.2 ⟨j,bR,λx hx y N e=>by obtain rfl:=bg.1 N;subst e;exact hm hx⟩
def J6{U:List ID}(o:∀a∈U,∀b∈nx a,b∈U)(f:Nat):∀(l:List ID)(u:List ID×List cR),(∀b∈l,b∈U)->(∀z∈u.1,z∈U)->u.1.Nodup->(∀z∈(l.foldl (tK nx th p f) u).1,z∈U)/\(l.foldl (tK nx th p f) u).1.Nodup
 |[],u,_,d,j=>⟨d,j⟩
 |b::r,u,q,d,j=>by
  obtain⟨t,y⟩:=Ig (th:=th) (p:=p) o f u b (q b bR) d j;exact J6 o f r _ (λz D=>q z (by simp[D])) t y
end
def im(n:List (ID×List ID))(a:ID):List ID:=(gR n a).getD []
def oF(n:List (ID×List ID)):List ID:=n.flatMap (·.2)
def Gw{n:List (ID×List ID)}{a b:ID}(h:b∈im n a):b∈oF n:=by
 unfold im at h;cases e:gR n a with
 |none=>rw[e]at h;cases h
 |some l=>rw[e]at h;exact dC.2 ⟨_,BK e,h⟩
def lF(n:List (ID×List ID))(th:List ID)(out:List cR)(p:aK):List cR:=(tK (im n) (λa=>decide (a∈th)) p.id ((oF n).length+1) ([],out) p.id).2
def B0(n:List (ID×List ID))(th:List ID)(out:List cR)(p:aK):(lF n th out p).length<=out.length+((oF n).length+1):=by
 have f:=(BZ (nx:=im n) (th:=λa=>decide (a∈th)) (p:=p.id) ((oF n).length+1) ([],out) p.id).2.2;have d:=Ig (nx:=im n) (th:=λa=>decide (a∈th)) (p:=p.id) (U:=p.id::oF n) (λa _ b hb=>eF _ (Gw hb)) ((oF n).length+1) ([],out) p.id bR bR .nil;have j:=d.2.length_le_of_subset (l₂:=p.id::oF n) d.1;unfold lF;simp only[aT,aM,dj]at f j ⊢
 omega
def uO(H:g9)(i k:Nat):List cR:=
 let f:=dx ((H.jx.getD i (⟨[]⟩,[])).1)
 let t:=(dx ((H.jx.getD k (⟨[]⟩,[])).1)).map (·.id)
 jN (f.foldl (lF H.next t) [])
def vN(l:List aV):Prop:=l.Pairwise λa b=>a.ei<b.ei
def xx{x y:aV}(h:x.ei≠y.ei):np x y=decide (x.ei<y.ei):=by
 unfold np;simp[h]
def DM(x:aV)(l:List aV):∀k,k<=l.length->(∀j (h:j<l.length),vu x l k<=j->j<k->np x l[j]=true)/\(∀h:vu x l k-1<l.length,0<vu x l k->np x l[vu x l k-1]=false)
 |0,_=>⟨λj _ _ h=>absurd h (gN _),λ_ h=>absurd h (ku _)⟩
 |k+1,h=>by
  have d:k<l.length:=h;have a:vu x l (k+1)=if np x l[k]=true then vu x l k else k+1:=by rw[vu,aa d]
  by_cases e:np x l[k]=true
  .rw[ax e]at a;simp only[a];obtain⟨r,t⟩:=DM x l k (k0 d);refine⟨λj f o p=>?_,t⟩;by_cases q:j=k
   .subst q;exact e
   .exact r j f o av
  .rw[an e]at a;simp only[a];exact⟨λj f o p=>absurd p av,λ_ _=>by simpa using e⟩
def Lz{l:List aV}{x:aV}(h:vN l)(hx:∀y∈l,y.ei≠x.ei):vN (uF l x):=by
 obtain⟨r,t⟩:=DM x l l.length (ao _);have u:=JA x l l.length;unfold uF;generalize vu x l l.length=i at*
 have big:∀z∈l.drop i,x.ei<z.ei:=λz d=>by
  obtain⟨j,f,rfl⟩:=ja d;rw[aS]at f;rw[mP];have:=r (i+j) av av av;rw[xx (hU (hx _ (ah _)))]at this;exact lA this
 have small:∀z∈l.take i,z.ei<x.ei:=λz d=>by
  obtain⟨j,f,rfl⟩:=ja d;rw[aF]at f;rw[jz];have o:=t av av;rw[xx (hU (hx _ (ah _)))]at o;have D:=pW o;have H:=hx _ (ah (show i-1<l.length by omega));by_cases p:j=i-1
  .subst p;omega
  .have:=List.pairwise_iff_getElem.1 h j (i-1) av av av;omega
 refine jI.2 ⟨h.sublist (List.take_sublist _ _),ej.2 ⟨big,h.sublist (List.drop_sublist _ _)⟩,λa q b hb=>?_⟩;rcases bC.1 hb with rfl|hb
 .exact small a q
 .exact qv (small a q) (big b hb)
def LA(l:List aV)(x:aV):(uF l x).Perm (x::l):=by
 unfold uF;refine List.perm_middle.trans ?_;rw[cu]
def B1:∀(b c:List aV),vN c->((c++b).map (·.ei)).Nodup->vN (b.foldl uF c)/\(b.foldl uF c).Perm (c++b)
 |[],c,h,_=>⟨h,bR⟩
 |x::r,c,h,a=>by
  have E:=LA c x;have d:((uF c x++r).map (·.ei)).Nodup:=by
   refine(List.Perm.nodup_iff ?_).1 a;refine List.Perm.map _ ?_;refine List.perm_middle.trans ?_;exact(E.symm.append_right r)
  have hx:∀y∈c,y.ei≠x.ei:=λy f e=>by
   rw[aE,aU]at a;exact a.2.2 _ (lR f) _ bR e
  obtain⟨j,l⟩:=B1 r (uF c x) (Lz h hx) d;exact⟨j,l.trans ((E.append_right r).trans List.perm_middle.symm)⟩
def Ih{a:List aV}(h:vN a):(a.map (·.ei)).Nodup:=by
 unfold List.Nodup;rw[mQ];exact h.imp λh=>av
def yY:∀{a b:List aV},vN a->vN b->a.Perm b->a=b
 |[],b,_,_,h=>h.nil_eq
 |x::r,[],_,_,h=>absurd h.length_eq bR
 |x::r,y::s,j,hb,h=>by
  obtain⟨l,o⟩:=ej.1 j;obtain⟨p,q⟩:=ej.1 hb;have f:x=y:=by
   rcases bC.1 (h.mem_iff.1 (mi ..))with e|e
   .exact e
   .rcases bC.1 (h.mem_iff.2 (mi ..))with d|d
    .exact d.symm
    .have:=l y d;have:=p x e;omega
  subst f;rw[yY o q (List.perm_cons _ |>.1 h)]
def Gx{a b:List aV}(h:vN a)(E:b.Perm a):gl b=a:=by
 have d:(([]++b).map aV.ei).Nodup:=(E.map aV.ei).nodup_iff.2 (Ih h);obtain⟨f,j⟩:=B1 b [] .nil d;exact yY f h (j.trans (by simpa using E))
structure GS where
 w:cm
 n:Nat
def Ol(g:GS)(e:aV):GS:=
 if e.kind=0 then⟨if(sg g.w e.op e.name).2=0 then(sg g.w e.op e.name).1 else g.w,g.n⟩
 else if e.kind=1 then⟨g.w,if 16<=g.n\/fy g.w≠0 then g.n else g.n+1⟩else g
def oR(b k:Int):aV:=⟨b,0,0,k,[],iW,EF,⟨0,0,0⟩,[],0⟩
def wo(g:GS)(n:Nat):ID:=if 0< (dx g.w).length/\0<n%16 then((dx g.w).getD (n/16%(dx g.w).length) h8).id else⟨5,60,0⟩
def zt(g:GS)(l:List Int)(c kind:Int)(n:Nat):aV:=
 if(kind=6\/kind=7)/\g.n<2 then oR 0 1
 else if kind=8 then {oR 5 2 with dy:=oA n}
 else if kind=9 then {oR 5 5 with id:=wo g n,n:=(n%7:Nat)}
 else if kind=10 then {oR 5 (5+(n/7%2:Nat))with id:=wo g n,n:=(n%7:Nat)}
 else if kind=11\/kind=12 then {oR (kind-10) 3 with id:=wo g n,cU:=pZ (wo g n) n (n%3)}
 else if kind=13 then {oR 3 4 with id:=wo g n,cU:=pZ (wo g n) (n/2) (n/2%3)}
 else {oR (4*(n%2:Nat)) 0 with op:=Gt g.w l (c+2)}
def Sf(g:GS)(l:List Int)(c:Int):aV:=zt g l c (W l c 14) (W l (c+1) 4096).toNat
def yk(l:List Int):List Op:=
 [iW,{iW with kind:=1,bW:=kj l 11},{iW with kind:=2,eB:=0,eh:=(my l 1 ⟨0,0,0⟩).eh,bW:=(my l 1 ⟨0,0,0⟩).bW,C:=(my l 1 ⟨0,0,0⟩).C},{iW with kind:=2,spot:=⟨0,0,1⟩,eB:=(my l 6 ⟨0,0,0⟩).eB,eh:=(my l 6 ⟨0,0,0⟩).eh,bW:=(my l 6 ⟨0,0,0⟩).bW,C:=(my l 6 ⟨0,0,0⟩).C}]
def zu(l:List Int)(n i:Nat)(g:GS):aV:=
 if i<4 then {oR 0 0 with op:=(yk l).getD i iW}else if i<4+n then Sf g l (14+16*((i:Int)-4))else oR 0 1
structure MS where
 g:GS
 out:List aV
 ei:Int
def TH(l:List Int)(n i:Nat)(s:MS):MS:=
 let e:=jK s.out (zu l n i s.g) s.ei
 ⟨Ol s.g e,s.out++[e],s.ei+1+W l (14+16*i) 2⟩
def l8(l:List Int)(n:Nat):Nat->MS
 |0=>⟨⟨⟨[]⟩,0⟩,[],1⟩
 |i+1=>TH l n i (l8 l n i)
def tC(l:List Int):Nat:=(W l 0 10).toNat
def uP(l:List Int):List aV:=(l8 l (tC l) (5+tC l)).out
end Go.Bx
