/- Lemmas for HistoryBegins. -/
import Derived.Test.YtmbahmpbmcfifaaGreatDoorCl
import Derived.Test.YtmbahmpbmcfifaaGreatDoorCn
noncomputable section
set_option linter.all false
set_option maxHeartbeats 4000000
set_option maxRecDepth 100000
namespace Go.Bx
open Go.Proofs Go.Proofs.Tryz
attribute [local irreducible] vc er dq b4 bU run iw iI iW i1 iG i2 iX iq iH iZ gA iY cS
def aal:CF GL f100 [] [] 100:=jo
def Cl{a:ID}:∀{k:Nat} {l:List aJ},oq a k l=none->∀p∈l,p.id≠a
 |k,[],_=>by intro p E;cases E
 |k,q::r,h=>by
  unfold oq at h;split at h
  .cases h
  next d=>
   intro p E;rcases bn.1 E with rfl|E
   .simpa using d
   .exact Cl h p E
def zu{a:ID}:∀{k:Nat} {l:List eg},oy a k l=none->∀p∈mi l,p.id≠a
 |k,[],_=>by intro p E;simp[mi]at E
 |k,q::r,h=>by
  unfold oy at h;split at h
  .cases h
  next d=>
   intro p E;simp only[mi,ck,aN]at E;rcases E with E|E
   .exact Cl d p E
   .exact zu h p E
def uU{a:ID}:∀{k:Nat} {l:List eM},ef a k l=none->∀p∈lA l,p.id≠a
 |k,[],_=>by intro p E;simp[lA]at E
 |k,q::r,h=>by
  unfold ef at h;split at h
  .cases h
  next d=>
   intro p E;simp only[lA,ck,aN]at E;rcases E with E|E
   .exact zu d p E
   .exact uU h p E
def D8(w:cg){v a:Nat}(d:v<w.O.length)(f:a<w.O[v].O.length):0< (nc w w.O.length).length:=by
 refine List.length_pos_of_mem (a:=⟨v,a,0⟩) ?_;refine dC.2 ⟨v,dm.2 d,?_⟩;rw[ap,aa d,bf];exact cB.2 ⟨a,dm.2 f,rfl⟩
def rh(w:cg)(l:List Int)(k:Int)(a:ID):Op:={iT with kind:=6,W:=a,spot:=sh w l (k+2) a 1}
def oA(w:cg)(l:List Int)(k:Int):Op:=
 {iT with kind:=2,spot:=sh w l (k+2) ⟨-1,0,0⟩ 0,eD:=(mq l (k+4) ⟨0,0,0⟩).eD,en:=(mq l (k+4) ⟨0,0,0⟩).en,bN:=(mq l (k+4) ⟨0,0,0⟩).bN,C:=gT w l (k+5) (mq l (k+4) ⟨0,0,0⟩).C.length}
def Ft(w:cg)(l:List Int)(k:Int)(all:List aJ)(p:aJ)(v a i:Nat)(bJ:List aJ)(d:List Int)(A:Int):Op:=
 if A<=2 then oA w l k
 else if A<=4 then {iT with kind:=3,W:=p.id}
 else if A<=6 then if 0<d.length then {iT with kind:=4,W:=p.id,n:=d.getD (W l (k+2) d.length).toNat 0}else rh w l k p.id
 else if A<=8 then if i+1<bJ.length/\(bJ.getD (i+1) ia).eD=p.eD/\(bJ.getD (i+1) ia).en=p.en then {iT with kind:=5,W:=p.id}else rh w l k p.id
 else if A<=10 then jb w l (k+2) ⟨v,a,i⟩
 else if A=11 then {iT with kind:=9,W:=p.id,C:=gT w l (k+2) p.C.length}
 else if A=12 then {iT with kind:=7,W:=p.id,to:=(all.getD (W l (k+2) all.length).toNat ia).id}
 else if A=13 then {iT with kind:=1,spot:=⟨W l (k+2) w.O.length,0,0⟩,bN:=km l (k+3)}
 else if A=14/\w.O.length<4 then iT
 else rh w l k p.id
def GT(w:cg)(l:List Int)(k:Int):Op:=
 if(dj w).length=0 then sW w l k else
 let p:=(dj w).getD (W l (k+1) (dj w).length).toNat ia
 match ef p.id 0 w.O with
 |some (v,a,i)=>Ft w l k (dj w) p v a i (gX w v a).O (kG p.bN (cr p.bN).length) (W l k 16)
 |none=>iT
def vu(l:List Int)(k:Int)(a:ID):(mq l k a).C.length<=2:=by
 simp only[mq,vT,au,List.length_range];have f:=ig l (k+1) 6 av;generalize W l (k+1) 6=d at*
 obtain⟨d,rfl⟩:∃j:Nat,d=j:=⟨d.toNat,av⟩;have hb:d=0\/d=1\/d=2\/d=3\/d=4\/d=5:=av;rcases hb with rfl|rfl|rfl|rfl|rfl|rfl<;>decide
def Sq(w:cg)(ad:w.fits)(l:List Int)(k:Int)(o:∀n∈l,jG n)(eK:0<=k/\k<=1000000):af 100 [w.v,fq l,I k] (GT w l k).v:=by
 have D:=ad.1;have E:=ad.2.2.2;have dU:=ad.2.1;have c1:=uI w D;have b6:=Rm w D l k o av;have d:GT w l k=if(dj w).length=0 then sW w l k else
  (match ef ((dj w).getD (W l (k+1) (dj w).length).toNat ia).id 0 w.O with
  |some (v,a,i)=>Ft w l k (dj w) ((dj w).getD (W l (k+1) (dj w).length).toNat ia) v a i (gX w v a).O (kG ((dj w).getD (W l (k+1) (dj w).length).toNat ia).bN (cr ((dj w).getD (W l (k+1) (dj w).length).toNat ia).bN).length) (W l k 16)
  |none=>iT):=rfl
 generalize GT w l k=R at*
 refine Pure.gg (by simp only[dx]) (by simp only[dx]) (eN hm aal.ok (bE rfl) ?_);by_cases h0:(dj w).length=0
 .rw[ax h0]at d;subst d;repeat' first|simp only[dt,simprocAttr,h0]|refine lq c1 ?_|refine lq b6 ?_
  all_goals(refine fin1 ev rfl ?_;exact .refl _)
 rw[al h0]at d;have c3:=jk l (k+1) (dj w).length o av;have b7:=ig l (k+1) (dj w).length av;obtain⟨P,ca⟩:∃P:Nat,W l (k+1) (dj w).length=P:=⟨(W l (k+1) (dj w).length).toNat,av⟩;rw[ca]at c3 b7 d;have ai:P< (dj w).length:=av;simp only[bX]at d;have a8:(dj w).getD P ia=(dj w)[P]:=by rw[ap,aa ai,bf]
 rw[a8]at d;have aA:=E _ (ah ai);have a1:ef (dj w)[P].id 0 w.O≠none:=λh=>uU h (dj w)[P] (ah ai) rfl;have c4:=vm w (dj w)[P].id D;obtain⟨all,a4⟩:∃all,dj w=all:=⟨_,rfl⟩;simp only[a4]at*
 obtain⟨p,Ms⟩:∃p,all[P]=p:=⟨_,rfl⟩;rw[Ms]at d aA a1 c4;rcases a5:ef p.id 0 w.O with _|⟨v,a,i⟩
 .exact absurd a5 a1
 rw[a5]at c4 d;simp only[jm,fg]at c4 d;obtain⟨N,ab,cb,_⟩:=jT a5;have c5:=p6 w v a ⟨v,a,i⟩ N ab rfl rfl;have c6:=Ra p.bN aA.2.1;have c7:=jk l k 16 o av;have e4:=ig l k 16 av;have cc:=Rl w D l (k+2) v a i o av N ab cb;have c9:=Ka w ad l (k+2) p.id 1 o av (D8 w N ab) av;rw[ff N ab]at d;have ea:w.O[v].O[a].O.length<=1000000:=((D.2.1 _ (ah N)).2 _ (ah ab)).2.1;generalize w.O[v].O[a].O=bJ at*
 have eb:=y9 p.bN (cr p.bN).length;have ch:(cr p.bN).length<=p.bN.length:=lC p.bN _;generalize kG p.bN (cr p.bN).length=f at*
 have XE:rh w l k p.id={iT with kind:=6,W:=p.id,spot:=sh w l (k+2) p.id 1}:=rfl;generalize ed:W l k 16=A at*
 have ci:A=0\/A=1\/A=2\/A=3\/A=4\/A=5\/A=6\/A=7\/A=8\/A=9\/A=10\/A=11\/A=12\/A=13\/A=14\/A=15:=av;have cp:p.v=.agg [I p.id.J,I p.id.seq,I p.id.k,I p.eD,I p.en,S p.bN,eW p.C]:=rfl;rcases ci with rfl|rfl|rfl|rfl|rfl|rfl|rfl|rfl|rfl|rfl|rfl|rfl|rfl|rfl|rfl|rfl
 case inr.inr.inr.inl|inr.inr.inr.inr.inl=>
  all_goals
   subst d;exact XN
 case inr.inr.inr.inr.inr.inl|inr.inr.inr.inr.inr.inr.inl=>
  all_goals
   by_cases a2:0<f.length
   .have Wp:=jk l (k+2) f.length o av;have a3:=ig l (k+2) f.length av;have wN:R={iT with kind:=4,W:=p.id,n:=f.getD (W l (k+2) f.length).toNat 0}:=by rw[d];unfold Ft;rw[al av,al av,ax av,ax a2]
    clear d;generalize W l (k+2) f.length=Q at*
    obtain⟨Q,rfl⟩:∃j:Nat,Q=j:=⟨Q.toNat,av⟩;have hQ:Q<f.length:=av;exact XH
   .have wN:R=rh w l k p.id:=by rw[d];unfold Ft;rw[al av,al av,ax av,al a2]
    exact Ua
 case inr.inr.inr.inr.inr.inr.inr.inl|inr.inr.inr.inr.inr.inr.inr.inr.inl=>
  all_goals
   have L:((i:Int)+1).toNat=i+1:=av;by_cases h1:i+1<bJ.length
   .have wN:R=if bJ[i+1].eD=p.eD/\bJ[i+1].en=p.en then {iT with kind:=5,W:=p.id}else rh w l k p.id:=by
     rw[d];unfold Ft;rw[al av,al av,al av,ax av,ap,aa h1,bf];by_cases u:bJ[i+1].eD=p.eD/\bJ[i+1].en=p.en
     .rw[ax u,ax ⟨h1,u⟩]
     .rw[al u,al λh=>u h.2]
    rw[XE]at wN;by_cases u:bJ[i+1].eD=p.eD
    .by_cases a0:bJ[i+1].en=p.en
     .rw[ax ⟨u,a0⟩]at wN;subst wN;repeat' first|simp(disch:=try exact om) only[gE,simprocAttr,h0,Ms,L,h1,u,a0]|(first|refine cz ?_ ?_|refine gz ?_ ?_)<;>intro H h<;>(try simp only[H])<;>try omega|refine lq c1 ?_|refine lq c3 ?_|refine lq c4 ?_|refine lq c5 ?_|refine lq c6 ?_|refine lq c7 ?_|refine ei ?_
      exact MH
     .rw[al (λh=>a0 h.2)]at wN;subst wN;have a9:(bJ[i+1].en==p.en)=false:=by simpa using a0
      repeat' first|simp(disch:=try exact om) only[gE,simprocAttr,h0,Ms,L,h1,u,a9]|(first|refine cz ?_ ?_|refine gz ?_ ?_)<;>intro H h<;>(try simp only[H])<;>try omega|refine lq c1 ?_|refine lq c3 ?_|refine lq c4 ?_|refine lq c5 ?_|refine lq c6 ?_|refine lq c7 ?_|refine lq c9 ?_|refine ei ?_
      exact MH
    .rw[al (λh=>u h.1)]at wN;subst wN;have bi:(bJ[i+1].eD==p.eD)=false:=by simpa using u
     repeat' first|simp(disch:=try exact om) only[gE,simprocAttr,h0,Ms,L,h1,bi]|(first|refine cz ?_ ?_|refine gz ?_ ?_)<;>intro H h<;>(try simp only[H])<;>try omega|refine lq c1 ?_|refine lq c3 ?_|refine lq c4 ?_|refine lq c5 ?_|refine lq c6 ?_|refine lq c7 ?_|refine lq c9 ?_|refine ei ?_
     exact MH
   .have wN:R=rh w l k p.id:=by rw[d];unfold Ft;rw[al av,al av,al av,ax av,al (λh=>h1 h.1)]
    rw[XE]at wN;subst wN;repeat' first|simp(disch:=try exact om) only[gE,simprocAttr,h0,Ms,L,h1]|(first|refine cz ?_ ?_|refine gz ?_ ?_)<;>intro H h<;>(try simp only[H])<;>try omega|refine lq c1 ?_|refine lq c3 ?_|refine lq c4 ?_|refine lq c5 ?_|refine lq c6 ?_|refine lq c7 ?_|refine lq c9 ?_|refine ei ?_
    exact MH
 case inr.inr.inr.inr.inr.inr.inr.inr.inr.inl|inr.inr.inr.inr.inr.inr.inr.inr.inr.inr.inl=>
  all_goals
   have wN:R=jb w l (k+2) ⟨v,a,i⟩:=by rw[d];rfl
   subst wN;repeat' first|simp(disch:=try exact om) only[gE,simprocAttr,h0,Ms]|refine cs ?_ ?_<;>intro h<;>try omega|refine lq c1 ?_|refine lq c3 ?_|refine lq c4 ?_|refine lq c5 ?_|refine lq c6 ?_|refine lq c7 ?_|refine lq cc ?_|refine ei ?_
   all_goals(refine fin1 ev rfl ?_;exact .refl _)
 case inl|inr.inl|inr.inr.inl=>
  all_goals
   have wN:R=oA w l k:=by rw[d];rfl
   clear d XE;have Wp:=Il l (k+4) ⟨0,0,0⟩ o av;have aB:=Ka w ad l (k+2) ⟨-1,0,0⟩ 0 o av (D8 w N ab) av;have bl:=vu l (k+4) ⟨0,0,0⟩;unfold oA at wN;generalize sh w l (k+2) ⟨-1,0,0⟩ 0=c2 at*
   generalize mq l (k+4) ⟨0,0,0⟩=X at*
   obtain⟨bo,bs,bu⟩:=c2;obtain⟨⟨dd,df,dr⟩,bv,bY,b2,ac⟩:=X;simp only at bl wN;repeat' first|simp(disch:=try exact om) only[gE,simprocAttr,h0,Ms]|refine cs ?_ ?_<;>intro h<;>try omega|refine lq c1 ?_|refine lq c3 ?_|refine lq c4 ?_|refine lq c5 ?_|refine lq c6 ?_|refine lq c7 ?_|refine lq Wp ?_|refine lq aB ?_|refine ei ?_
   refine dT rfl rfl (λ(j:Nat) t=>j<=ac.length/\t.Z 15=I j/\t.G 3=1/\t.loc 3 0=[cf w.O]/\t.G 6=1/\t.loc 6 0=[I 0,I 0,I 0,I 0,I 0,I 0,I 0,I 0,I 0,I 0,I 0,I 0,I 0,S [],.aP,.aP,.aP]/\t.G 13=1/\t.loc 13 0=[I dd,I df,I dr,I bv,I bY,S b2,eW ac]/\t.G 14=1/\∃q,t.loc 14 0=[I 2,I 0,I 0,I 0,I 0,I 0,I 0,I bo,I bs,I bu,I 0,I bv,I bY,S b2,.aP,.aP,q]/\((j=0/\q=.aP)\/(0<j/\q=eW (gT w l (k+5) j)/\t.fc 14 0 16=true))) (λj=>ac.length-j) 0 ?_ ?_
   .refine⟨aL _,?_⟩;simp only[da,simprocAttr,aQ]
    and_intros
    all_goals first|rfl|(refine⟨.aP,?_,.inl ?_⟩<;>rfl)
   rintro j t ⟨ds,j2,j3,j4,j5,j6,j7,j8,j9,q,jA,jB⟩ r;have e1:t.Z 1=fq l:=by rw[r 1 du];rfl
   have e2:t.Z 2=I k:=by rw[r 2 du];rfl
   have e3:t.Z 3=.lp 3 0 0:=by rw[r 3 du];rfl
   have e6:t.Z 6=.lp 6 0 0:=by rw[r 6 du];rfl
   have PB:t.Z 13=.lp 13 0 0:=by rw[r 13 du];rfl
   have PC:t.Z 14=.lp 14 0 0:=by rw[r 14 du];rfl
   have aC:=jk l (k+5+j) 16 o av;have dE:=ig l (k+5+j) 16 av;have y:=rB w l (k+5) j;have b3:(gT w l (k+5) j).length=j:=by simp[gT]
   generalize W l (k+5+j) 16=a6 at*
   have aD:=E2 w a6 D (by unfold jG;omega);rcases am j ac.length with K|K
   .rcases jB with⟨rfl,rfl⟩|⟨jB,rfl,a7⟩
    .repeat any_goals first|simp(disch:=first|omega|(simp only[l4];omega)) only[dt,simprocAttr,bx,j2,j3,j4,j5,j6,j7,j8,j9,jA,e1,e2,e3,e6,PB,PC]|(refine bZ (λh=>?_) (λh=>?_))<;>((try simp only[h]);(try simp only[jg]at h);(try omega))|((first|refine i0 aC ?_ ?_|refine i0 aD ?_ ?_);·simp only[ee,simprocAttr]<;>rfl)
     all_goals
      refine⟨0+1,⟨?_⟩,⟨av⟩⟩;simp only[da,simprocAttr,j2,j3,j4,j5,j6,j7,j8,j9,jA,e1,e2,e3,e6,PB,PC,xZ]
     all_goals
      have z:=y;simp only[cA]at z
      and_intros
      all_goals first|exact K|rfl|(refine⟨_,by(simp only[aQ,aw,ay]<;>rfl),.inr ⟨?_,rfl⟩⟩;rw[z];rfl)
    .repeat any_goals first|simp(disch:=first|omega|(simp only[l4];omega)) only[dt,simprocAttr,xZ,bx,j2,j3,j4,j5,j6,j7,j8,j9,jA,a7,e1,e2,e3,e6,PB,PC]|(refine bZ (λh=>?_) (λh=>?_))<;>((try simp only[h]);(try simp only[jg]at h);(try omega))|((first|refine i0 aC ?_ ?_|refine i0 aD ?_ ?_);·simp only[ee,simprocAttr]<;>rfl)
     all_goals
      refine⟨j+1,⟨?_⟩,⟨av⟩⟩;simp only[da,simprocAttr,j2,j3,j4,j5,j6,j7,j8,j9,jA,e1,e2,e3,e6,PB,PC,xZ]
     all_goals
      and_intros
      all_goals first|exact K|rfl|(refine⟨_,by(simp only[aQ,aw,ay]<;>rfl),.inr ?_⟩;rw[y,az];exact⟨jY _,rfl⟩)
   .obtain rfl:j=ac.length:=av;have PM:q.one=true/\V.Le q (eW (gT w l (k+5) ac.length)):=by
     exact Yc
    exact XI
 case inr.inr.inr.inr.inr.inr.inr.inr.inr.inr.inr.inl=>
  all_goals
   have wN:R={iT with kind:=9,W:=p.id,C:=gT w l (k+2) p.C.length}:=by rw[d];rfl
   clear d XE;have el:=aA.1;repeat' first|simp(disch:=try exact om) only[gE,simprocAttr,h0,Ms]|refine cs ?_ ?_<;>intro h<;>try omega|refine lq c1 ?_|refine lq c3 ?_|refine lq c4 ?_|refine lq c5 ?_|refine lq c6 ?_|refine lq c7 ?_|refine ei ?_
   refine dT rfl rfl (λ(j:Nat) t=>j<=p.C.length/\t.Z 17=I j/\t.G 3=1/\t.loc 3 0=[cf w.O]/\t.G 6=1/\t.loc 6 0=[I 0,I 0,I 0,I 0,I 0,I 0,I 0,I 0,I 0,I 0,I 0,I 0,I 0,S [],.aP,.aP,.aP]/\t.G 8=1/\t.loc 8 0=[I p.id.J,I p.id.seq,I p.id.k,I p.eD,I p.en,S p.bN,eW p.C]/\t.G 16=1/\∃q,t.loc 16 0=[I 9,I p.id.J,I p.id.seq,I p.id.k,I 0,I 0,I 0,I 0,I 0,I 0,I 0,I 0,I 0,S [],.aP,.aP,q]/\((j=0/\q=.aP)\/(0<j/\q=eW (gT w l (k+2) j)/\t.fc 16 0 16=true))) (λj=>p.C.length-j) 0 ?_ ?_
   .refine⟨aL _,?_⟩;simp only[da,simprocAttr,aQ]
    and_intros
    all_goals first|rfl|(refine⟨.aP,?_,.inl ?_⟩<;>rfl)
   rintro j t ⟨ds,j2,j3,j4,j5,j6,j7,j8,j9,q,jA,jB⟩ r;have e1:t.Z 1=fq l:=by rw[r 1 du];rfl
   have e2:t.Z 2=I k:=by rw[r 2 du];rfl
   have e3:t.Z 3=.lp 3 0 0:=by rw[r 3 du];rfl
   have e6:t.Z 6=.lp 6 0 0:=by rw[r 6 du];rfl
   have PB:t.Z 8=.lp 8 0 0:=by rw[r 8 du];rfl
   have PC:t.Z 16=.lp 16 0 0:=by rw[r 16 du];rfl
   have aC:=jk l (k+2+j) 16 o av;have dE:=ig l (k+2+j) 16 av;have y:=rB w l (k+2) j;have b3:(gT w l (k+2) j).length=j:=by simp[gT]
   generalize W l (k+2+j) 16=a6 at*
   have aD:=E2 w a6 D (by unfold jG;omega);rcases am j p.C.length with K|K
   .rcases jB with⟨rfl,rfl⟩|⟨jB,rfl,a7⟩
    .repeat any_goals first|simp(disch:=first|omega|(simp only[l4];omega)) only[dt,simprocAttr,bx,j2,j3,j4,j5,j6,j7,j8,j9,jA,e1,e2,e3,e6,PB,PC]|(refine bZ (λh=>?_) (λh=>?_))<;>((try simp only[h]);(try simp only[jg]at h);(try omega))|((first|refine i0 aC ?_ ?_|refine i0 aD ?_ ?_);·simp only[ee,simprocAttr]<;>rfl)
     all_goals
      refine⟨0+1,⟨?_⟩,⟨av⟩⟩;simp only[da,simprocAttr,j2,j3,j4,j5,j6,j7,j8,j9,jA,e1,e2,e3,e6,PB,PC,xZ]
     all_goals
      have z:=y;simp only[cA]at z
      and_intros
      all_goals first|exact K|rfl|(refine⟨_,by(simp only[aQ,aw,ay]<;>rfl),.inr ⟨?_,rfl⟩⟩;rw[z];rfl)
    .repeat any_goals first|simp(disch:=first|omega|(simp only[l4];omega)) only[dt,simprocAttr,xZ,bx,j2,j3,j4,j5,j6,j7,j8,j9,jA,a7,e1,e2,e3,e6,PB,PC]|(refine bZ (λh=>?_) (λh=>?_))<;>((try simp only[h]);(try simp only[jg]at h);(try omega))|((first|refine i0 aC ?_ ?_|refine i0 aD ?_ ?_);·simp only[ee,simprocAttr]<;>rfl)
     all_goals
      refine⟨j+1,⟨?_⟩,⟨av⟩⟩;simp only[da,simprocAttr,j2,j3,j4,j5,j6,j7,j8,j9,jA,e1,e2,e3,e6,PB,PC,xZ]
     all_goals
      and_intros
      all_goals first|exact K|rfl|(refine⟨_,by(simp only[aQ,aw,ay]<;>rfl),.inr ?_⟩;rw[y,az];exact⟨jY _,rfl⟩)
   .obtain rfl:j=p.C.length:=av;have PM:q.one=true/\V.Le q (eW (gT w l (k+2) p.C.length)):=by
     exact Yc
    exact XI
 case inr.inr.inr.inr.inr.inr.inr.inr.inr.inr.inr.inr.inl=>
  have Wp:=jk l (k+2) all.length o av;have a3:=ig l (k+2) all.length av;have wN:R={iT with kind:=7,W:=p.id,to:=(all.getD (W l (k+2) all.length).toNat ia).id}:=by rw[d];rfl
  generalize W l (k+2) all.length=Q at*
  obtain⟨Q,rfl⟩:∃j:Nat,Q=j:=⟨Q.toNat,av⟩;have hQ:Q<all.length:=av;exact XH
 case inr.inr.inr.inr.inr.inr.inr.inr.inr.inr.inr.inr.inr.inl=>
  have et:0<w.O.length:=av;have Wp:=jk l (k+2) w.O.length o av;have a3:=ig l (k+2) w.O.length av;have aB:=BN l (k+3) o av;have wN:R={iT with kind:=1,spot:=⟨W l (k+2) w.O.length,0,0⟩,bN:=km l (k+3)}:=by rw[d];rfl
  subst wN;repeat' first|simp(disch:=try exact om) only[gE,simprocAttr,h0,Ms]|refine cs ?_ ?_<;>intro h<;>try omega|refine lq c1 ?_|refine lq c3 ?_|refine lq c4 ?_|refine lq c5 ?_|refine lq c6 ?_|refine lq c7 ?_|refine lq Wp ?_|refine lq aB ?_|refine ei ?_
  exact MH
 case inr.inr.inr.inr.inr.inr.inr.inr.inr.inr.inr.inr.inr.inr.inl=>
  by_cases b5:w.O.length<4
  .have wN:R=iT:=by rw[d];unfold Ft;simp[b5]
   subst wN;exact XN
  .have wN:R=rh w l k p.id:=by rw[d];unfold Ft;simp[b5]
   exact Ua
 case inr.inr.inr.inr.inr.inr.inr.inr.inr.inr.inr.inr.inr.inr.inr=>
  have wN:R=rh w l k p.id:=by rw[d];rfl
  exact Ua
def uV(l:List aW):Prop:=l.Pairwise λa b=>a.eo<b.eo
def xK{x y:aW}(h:x.eo≠y.eo):nj x y=decide (x.eo<y.eo):=by
 unfold nj;simp[h]
def D9(x:aW)(l:List aW):∀k,k<=l.length->(∀j (h:j<l.length),vH x l k<=j->j<k->nj x l[j]=true)/\(∀h:vH x l k-1<l.length,0<vH x l k->nj x l[vH x l k-1]=false)
 |0,_=>⟨λj _ _ h=>absurd h (gQ _),λ_ h=>absurd h (kv _)⟩
 |k+1,h=>by
  have d:k<l.length:=h;have a:vH x l (k+1)=if nj x l[k]=true then vH x l k else k+1:=by rw[vH,aa d]
  by_cases e:nj x l[k]=true
  .rw[ax e]at a;simp only[a];obtain⟨r,t⟩:=D9 x l k (kY d);refine⟨λj f o p=>?_,t⟩;by_cases q:j=k
   .subst q;exact e
   .exact r j f o av
  .rw[al e]at a;simp only[a];exact⟨λj f o p=>absurd p av,λ_ _=>by simpa using e⟩
def LZ{l:List aW}{x:aW}(h:uV l)(hx:∀y∈l,y.eo≠x.eo):uV (uK l x):=by
 obtain⟨r,t⟩:=D9 x l l.length (an _);have u:=JN x l l.length;unfold uK;generalize vH x l l.length=i at*
 have big:∀z∈l.drop i,x.eo<z.eo:=λz d=>by
  obtain⟨j,f,rfl⟩:=ja d;rw[aS]at f;rw[mM];have:=r (i+j) av av av;rw[xK (hY (hx _ (ah _)))]at this;exact lu this
 have small:∀z∈l.take i,z.eo<x.eo:=λz d=>by
  obtain⟨j,f,rfl⟩:=ja d;rw[aG]at f;rw[iV];have o:=t av av;rw[xK (hY (hx _ (ah _)))]at o;have A:=pR o;have D:=hx _ (ah (show i-1<l.length by omega));by_cases p:j=i-1
  .subst p;omega
  .have:=List.pairwise_iff_getElem.1 h j (i-1) av av av;omega
 refine jK.2 ⟨h.sublist (List.take_sublist _ _),eu.2 ⟨big,h.sublist (List.drop_sublist _ _)⟩,λa q b hb=>?_⟩;rcases bn.1 hb with rfl|hb
 .exact small a q
 .exact qq (small a q) (big b hb)
def L0(l:List aW)(x:aW):(uK l x).Perm (x::l):=by
 unfold uK;refine List.perm_middle.trans ?_;rw[b8]
def Cm:∀(b c:List aW),uV c->((c++b).map (·.eo)).Nodup->uV (b.foldl uK c)/\(b.foldl uK c).Perm (c++b)
 |[],c,h,_=>⟨h,bT⟩
 |x::r,c,h,a=>by
  have E:=L0 c x;have d:((uK c x++r).map (·.eo)).Nodup:=by
   refine(List.Perm.nodup_iff ?_).1 a;refine List.Perm.map _ ?_;refine List.perm_middle.trans ?_;exact(E.symm.append_right r)
  have hx:∀y∈c,y.eo≠x.eo:=λy f e=>by
   rw[az,aO]at a;exact a.2.2 _ (lL f) _ bT e
  obtain⟨j,l⟩:=Cm r (uK c x) (LZ h hx) d;exact⟨j,l.trans ((E.append_right r).trans List.perm_middle.symm)⟩
def IA{a:List aW}(h:uV a):(a.map (·.eo)).Nodup:=by
 unfold List.Nodup;rw[List.pairwise_map];exact h.imp λh=>av
def zw:∀{a b:List aW},uV a->uV b->a.Perm b->a=b
 |[],b,_,_,h=>h.nil_eq
 |x::r,[],_,_,h=>absurd h.length_eq bT
 |x::r,y::s,j,hb,h=>by
  obtain⟨l,o⟩:=eu.1 j;obtain⟨p,q⟩:=eu.1 hb;have f:x=y:=by
   rcases bn.1 (h.mem_iff.1 (g9 ..))with e|e
   .exact e
   .rcases bn.1 (h.mem_iff.2 (g9 ..))with d|d
    .exact d.symm
    .have:=l y d;have:=p x e;omega
  subst f;rw[zw o q (List.perm_cons _ |>.1 h)]
def GU{a b:List aW}(h:uV a)(E:b.Perm a):gj b=a:=by
 have d:(([]++b).map aW.eo).Nodup:=(E.map aW.eo).nodup_iff.2 (IA h);obtain⟨f,j⟩:=Cm b [] .nil d;exact zw f h (j.trans (by simpa using E))
structure GS where
 w:cg
 n:Nat
def OG(g:GS)(e:aW):GS:=
 if e.kind=0 then⟨if(qj g.w e.op e.name).2=0 then(qj g.w e.op e.name).1 else g.w,g.n⟩
 else if e.kind=1 then⟨g.w,if 16<=g.n\/fu g.w≠0 then g.n else g.n+1⟩else g
def pi(b k:Int):aW:=⟨b,0,0,k,[],iT,E3,⟨0,0,0⟩,[],0⟩
def wF(g:GS)(n:Nat):ID:=if 0< (dj g.w).length/\0<n%16 then((dj g.w).getD (n/16%(dj g.w).length) ia).id else⟨5,60,0⟩
def zW(g:GS)(l:List Int)(c kind:Int)(n:Nat):aW:=
 if(kind=6\/kind=7)/\g.n<2 then pi 0 1
 else if kind=8 then {pi 5 2 with dy:=ox n}
 else if kind=9 then {pi 5 5 with id:=wF g n,n:=(n%7:Nat)}
 else if kind=10 then {pi 5 (5+(n/7%2:Nat))with id:=wF g n,n:=(n%7:Nat)}
 else if kind=11\/kind=12 then {pi (kind-10) 3 with id:=wF g n,cU:=pU (wF g n) n (n%3)}
 else if kind=13 then {pi 3 4 with id:=wF g n,cU:=pU (wF g n) (n/2) (n/2%3)}
 else {pi (4*(n%2:Nat)) 0 with op:=GT g.w l (c+2)}
def Sr(g:GS)(l:List Int)(c:Int):aW:=zW g l c (W l c 14) (W l (c+1) 4096).toNat
def yE(l:List Int):List Op:=
 [iT,{iT with kind:=1,bN:=km l 11},{iT with kind:=2,eD:=0,en:=(mq l 1 ⟨0,0,0⟩).en,bN:=(mq l 1 ⟨0,0,0⟩).bN,C:=(mq l 1 ⟨0,0,0⟩).C},{iT with kind:=2,spot:=⟨0,0,1⟩,eD:=(mq l 6 ⟨0,0,0⟩).eD,en:=(mq l 6 ⟨0,0,0⟩).en,bN:=(mq l 6 ⟨0,0,0⟩).bN,C:=(mq l 6 ⟨0,0,0⟩).C}]
def zX(l:List Int)(n i:Nat)(g:GS):aW:=
 if i<4 then {pi 0 0 with op:=(yE l).getD i iT}else if i<4+n then Sr g l (14+16*((i:Int)-4))else pi 0 1
structure MS where
 g:GS
 out:List aW
 eo:Int
def TT(l:List Int)(n i:Nat)(s:MS):MS:=
 let e:=jM s.out (zX l n i s.g) s.eo
 ⟨OG s.g e,s.out++[e],s.eo+1+W l (14+16*i) 2⟩
def l1(l:List Int)(n:Nat):Nat->MS
 |0=>⟨⟨⟨[]⟩,0⟩,[],1⟩
 |i+1=>TT l n i (l1 l n i)
def tD(l:List Int):Nat:=(W l 0 10).toNat
def uW(l:List Int):List aW:=(l1 l (tD l) (5+tD l)).out
def qW(nx:ID->List ID)(th:ID->Bool)(p:ID):Nat->List ID×List cI->ID->List ID×List cI
 |0,s,_=>s
 |f+1,s,a=>if a∈s.1 then s else(nx a).foldl (qW nx th p f) (s.1++[a],if th a=true then s.2++[⟨p,a⟩]else s.2)
section
variable {nx:ID->List ID}{th:ID->Bool}{p:ID}
def Cn:∀(f:Nat)(s:List ID×List cI)(a:ID),(∀z∈s.1,z∈(qW nx th p f s a).1)/\s.1.length<=(qW nx th p f s a).1.length/\(qW nx th p f s a).2.length+s.1.length<=s.2.length+(qW nx th p f s a).1.length
 |0,s,a=>⟨λz h=>h,an _,an _⟩
 |f+1,s,a=>by
  unfold qW;split
  .exact⟨λz h=>h,an _,an _⟩
  .have key:∀(l:List ID)(u:List ID×List cI),(∀z∈u.1,z∈(l.foldl (qW nx th p f) u).1)/\u.1.length<=(l.foldl (qW nx th p f) u).1.length/\(l.foldl (qW nx th p f) u).2.length+u.1.length<=u.2.length+(l.foldl (qW nx th p f) u).1.length:=by
    intro l;induction l with
    |nil=>intro u;exact⟨λz h=>h,an _,an _⟩
    |cons b r ih=>
     intro u;obtain⟨h1,d,j⟩:=Cn f u b;obtain⟨h4,o,q⟩:=ih (qW nx th p f u b);exact YA
   obtain⟨h1,d,j⟩:=key (nx a) (s.1++[a],if th a=true then s.2++[⟨p,a⟩]else s.2);simp only at h1 d j;have h4:(s.1++[a]).length=s.1.length+1:=bT;have o:(if th a=true then s.2++[(⟨p,a⟩:cI)]else s.2).length<=s.2.length+1:=by split<;>simp
   exact⟨λz h=>h1 z (bV _ h),av,av⟩
def Ea(f:Nat):∀(l:List ID)(u:List ID×List cI),(∀z∈u.1,z∈(l.foldl (qW nx th p f) u).1)/\u.1.length<=(l.foldl (qW nx th p f) u).1.length/\(l.foldl (qW nx th p f) u).2.length+u.1.length<=u.2.length+(l.foldl (qW nx th p f) u).1.length
 |[],u=>⟨λz h=>h,an _,an _⟩
 |b::r,u=>by
  obtain⟨h1,a,d⟩:=Cn (nx:=nx) (th:=th) (p:=p) f u b;obtain⟨h4,j,o⟩:=Ea f r (qW nx th p f u b);exact YA
def pW(U:List ID)(m:List ID):Nat:=(U.filter λz=>decide (z∉m)).length
def Co{U m d:List ID}(h:∀z∈m,z∈d):pW U d<=pW U m:=by
 unfold pW;induction U with
 |nil=>simp
 |cons x r ih=>
  by_cases a:x∈m
  .simp[a,h x a]at ih ⊢;exact ih
  .by_cases f:x∈d
   .simp[a,f]at ih ⊢;omega
   .simp[a,f]at ih ⊢;exact ih
def xL{U m:List ID}{a:ID}(f:a∈U)(h:a∉m):pW U (m++[a])<pW U m:=by
 induction U with
 |nil=>cases f
 |cons x r ih=>
  have hle:pW r (m++[a])<=pW r m:=Co λz j=>bV _ j;unfold pW at ih hle ⊢
  by_cases e:x=a
  .subst e;simp[h]at hle ⊢;omega
  .have:=ih (by rcases bn.1 f with d|d;exact absurd d.symm e;exact d);by_cases d:x∈m
   .simp[d]at this ⊢;exact this
   .simp[d,e]at this ⊢;omega
def IB{U:List ID}(t:∀a∈U,∀b∈nx a,b∈U):∀(f:Nat)(s:List ID×List cI)(a:ID),a∈U->(∀z∈s.1,z∈U)->s.1.Nodup->(∀z∈(qW nx th p f s a).1,z∈U)/\(qW nx th p f s a).1.Nodup
 |0,s,a,_,h,j=>⟨h,j⟩
 |f+1,s,a,A,h,j=>by
  unfold qW;split
  .exact⟨h,j⟩
  next hm=>
   have key:∀(l:List ID)(u:List ID×List cI),(∀b∈l,b∈U)->(∀z∈u.1,z∈U)->u.1.Nodup->(∀z∈(l.foldl (qW nx th p f) u).1,z∈U)/\(l.foldl (qW nx th p f) u).1.Nodup:=by
    intro l;induction l with
    |nil=>intro u _ d o;exact⟨d,o⟩
    |cons b r ih=>
     intro u D d o;obtain⟨H,K⟩:=IB t f u b (D b bT) d o;exact ih _ (λz q=>D z (by simp[q])) H K
   refine key (nx a) _ (t a A) (λz q=>?_) ?_
   .rcases aN.1 q with d|d
    .exact h z d
    .obtain rfl:=aR.1 d;exact A
   .exact aO.2 ⟨j,bT,λx hx y L e=>by obtain rfl:=aR.1 L;subst e;exact hm hx⟩
def Kp{U:List ID}(o:∀a∈U,∀b∈nx a,b∈U)(f:Nat):∀(l:List ID)(u:List ID×List cI),(∀b∈l,b∈U)->(∀z∈u.1,z∈U)->u.1.Nodup->(∀z∈(l.foldl (qW nx th p f) u).1,z∈U)/\(l.foldl (qW nx th p f) u).1.Nodup
 |[],u,_,d,j=>⟨d,j⟩
 |b::r,u,q,d,j=>by
  obtain⟨t,y⟩:=IB (th:=th) (p:=p) o f u b (q b bT) d j;exact Kp o f r _ (λz A=>q z (by simp[A])) t y
end
def fw(n:List (ID×List ID))(a:ID):List ID:=(fN n a).getD []
def nM(n:List (ID×List ID)):List ID:=n.flatMap (·.2)
def Cp{n:List (ID×List ID)}{a b:ID}(h:b∈fw n a):b∈nM n:=by
 unfold fw at h;cases e:fN n a with
 |none=>rw[e]at h;cases h
 |some l=>rw[e]at h;exact dC.2 ⟨_,Ca e,h⟩
def ki(n:List (ID×List ID))(th:List ID)(out:List cI)(p:aJ):List cI:=(qW (fw n) (λa=>decide (a∈th)) p.id ((nM n).length+1) ([],out) p.id).2
def Cq(n:List (ID×List ID))(th:List ID)(out:List cI)(p:aJ):(ki n th out p).length<=out.length+((nM n).length+1):=by
 have f:=(Cn (nx:=fw n) (th:=λa=>decide (a∈th)) (p:=p.id) ((nM n).length+1) ([],out) p.id).2.2;have d:=IB (nx:=fw n) (th:=λa=>decide (a∈th)) (p:=p.id) (U:=p.id::nM n) (λa _ b hb=>dw _ (Cp hb)) ((nM n).length+1) ([],out) p.id bT bT .nil;have j:=d.2.length_le_of_subset (l₂:=p.id::nM n) d.1;unfold ki;simp only[aX,aM,di]at f j ⊢
 omega
def qQ(H:gm)(i k:Nat):List cI:=
 let f:=dj ((H.hL.getD i (⟨[]⟩,[])).1)
 let t:=(dj ((H.hL.getD k (⟨[]⟩,[])).1)).map (·.id)
 kF (f.foldl (ki H.next t) [])
def TU:fK prog 85=true:=by kernel_rfl
def TV:CF GL f83 [5,7] [] 83:=jo
def Ss(l:List aW)(E:aK)(j:l.length<=1000000):aI 83 [fP l] E λv _ a=>gu 32 a v (l.map aW.v)/\bA none E a/\∀i,bI v=some i->E.Y<=i:=by
 refine bq TV.ok rfl ?_;repeat' first|refine k7 ?_|(refine tR (by simp only[pY]<;>rfl) (by simp only[da]<;>rfl) ?_ (λh=>?_))
 .refine Ch (fA:=E) sT ?_;have u:gu 32 (E.cO []) (.ms 32 E.Y 0 0 0) []:=⟨(by intro x hx;cases hx),.inr ⟨E.Y,0,[],rfl,dn _,by simp[aK.cO,eQ,b9],an _,rfl⟩⟩;repeat' simp only[gE,simprocAttr]
  refine iR (xs:=[]) (ys:=l.map aW.v) ?_ ?_ ?_ ?_ ?_ rfl ?_ ?_ λd a o hb hi=>?_
  .exact sT
  .exact sT
  .exact lG.map (λy=>rfl) _
  .exact sT
  .simp only[da];intro l j;cases j
  .simp only[au,aX];omega
  .simp only[da];intro r;cases r
  have f:gu 32 a d (l.map aW.v):=by simpa using o
  have p:bI d=some E.Y\/bI d=some (E.Y+1):=by revert hi;simp only[da];exact id
  have q:bA none E a:=by
   revert hb
   simp only[da];intro hb;have t:=hb.Y;simp only[aK.cO]at t;exact⟨λi hi _=>by rw[hb.box i (by simp only[aK.cO];omega) (by simp[bI];omega)];simp only[aK.cO];exact bD _ _ (ct hi),λi hi=>by rw[hb.mp i (by simp only[aK.cO];omega)];rfl,av⟩
  repeat' simp only[dt,simprocAttr,bx]
  refine⟨nE,d,_,bC rfl f.gD,f,q,λi hi=>?_⟩;rcases p with h|h<;>rw[h]at hi<;>simp at hi<;>omega
 .exact Ue
def Eb(l:List aW):gj (l.take 1)++l.drop 1=l:=by
 cases l with
 |nil=>rfl
 |cons a r=>rfl
def OH(S T:List aW)(x:aW)(k:Nat)(h:k<S.length):((S.take (k+1)++x::(S.drop (k+1)++T)).set (k+1) S[k]).set k x=S.take k++x::(S.drop k++T):=by
 have a:(S.take (k+1)).length=k+1:=by rw[aG];omega
 rw[nD _ _ av,a,iN,aw,br h,aF,nD _ _ (by rw[aG];omega)];rw[show k-(S.take k).length=0 from by rw[aG];omega,List.singleton_append,aw,bG h,aZ]
def aW.Kq(e:aW):∃c:List V,e.v=.agg c/\c.length=32/\c.all V.one=true:=⟨_,rfl,rfl,rfl⟩
def aam:CF GL f177 [] [] 177:=jo
def Su(v:V)(l:List aW)(E:aK)(a3:gu 32 E v (l.map aW.v))(e6:l.length<=1000):
 aI 177 [v,I 0,I l.length,.fn 85 []] E λ_ _ d=>gu 32 d v ((gj l).map aW.v)/\bA (bI v) E d:=by
 refine bq aam.ok rfl ?_;have q:=a3.one;have u:=a3.gD;repeat' simp(disch:=omega) only[dt,simprocAttr,bx,q,u]
 refine dT rfl rfl (λ(i:Nat) t=>1<=i/\(i<=l.length\/i=1)/\t.Z 8=I i/\gu 32 t.E v ((gj (l.take i)++l.drop i).map aW.v)/\bA (bI v) E t.E) (λi=>l.length-i) 1 ?_ ?_
 .refine⟨an _,.inr rfl,?_⟩;rw[Eb];simp only[da,simprocAttr,q,u];exact⟨a3,rQ⟩
 rintro i t ⟨e7,ed,a9,aC,cc⟩ bi;have bY:t.Z 0=v:=by rw[bi 0 (by decide)];rfl
 have b2:t.Z 1=I 0:=by rw[bi 1 du];rfl
 have ch:t.Z 2=I l.length:=by rw[bi 2 du];rfl
 have b3:t.Z 3=.fn 85 []:=by rw[bi 3 du];rfl
 rcases am i l.length with N|N
 .have b5:=BL N;have hS:=yp l i (kY N);rw[bG N]at aC;generalize l[i]=x at b5 aC;generalize gj (l.take i)=S at b5 hS aC;repeat' first|simp only[gE,simprocAttr,a9,bY,b2,ch,b3,q,u]|refine cs ?_ ?_<;>intro h<;>try omega
  refine dT rfl rfl (λ(k:Nat) f=>k<=i/\vH x S k=vH x S i/\f.Z 9=I k/\gu 32 f.E v ((S.take k++x::(S.drop k++l.drop (i+1))).map aW.v)/\bA (bI v) E f.E) (λk=>k) i ?_ ?_
  .refine⟨an _,rfl,?_⟩;rw[aE (c0 hS),mY (c0 hS)];simp only[da,q,u,a9];exact⟨aC,cc⟩
  rintro k f ⟨fa,P,z,b6,b7⟩ R;have j:f.Z 0=v:=by rw[R 0 du];exact bY
  have A:f.Z 1=I 0:=by rw[R 1 du];exact b2
  have D:f.Z 3=.fn 85 []:=by rw[R 3 du];exact b3
  have H:f.Z 8=I i:=by rw[R 8 (by decide)];exact a9
  have fin:∀d,gu 32 d v ((uK S x++l.drop (i+1)).map aW.v)->bA (bI v) E d->gu 32 d v ((gj (l.take (i+1))++l.drop (i+1)).map aW.v)/\bA (bI v) E d:=λd a b=>⟨by rw[b5];exact a,b⟩;rcases k with _|k
  .have a4:uK S x++l.drop (i+1)=S.take 0++x::(S.drop 0++l.drop (i+1)):=by
    rw[uK,hS,<-P];rfl
   repeat' first|simp(disch:=omega) only[gE,simprocAttr,z,j,A,D,H,q,u]|refine c8 ?_ ?_<;>intro h<;>(try simp only[bM,bB]at h)<;>(try simp only[h])<;>try simp only[jg]at h
   refine⟨i+1,⟨?_⟩,⟨by omega⟩⟩;refine⟨by omega,.inl N,?_⟩;simp only[da,z,j,A,D,H,q,u];refine⟨aq (V.int .i64) (by omega),fin _ ?_ b7⟩;rw[a4];exact b6
  .have ci:k<S.length:=av;have hC:(S.take (k+1)).length=k+1:=by rw[aG];omega
   obtain⟨K,⟨a5,ca⟩|⟨id,c,rest,a5,dW,eh,cp,ab⟩⟩:=id b6
   .exact absurd ca bT
   have hlen:((S.take (k+1)++x::(S.drop (k+1)++l.drop (i+1))).map aW.v).length=l.length:=by
    exact Ye
   have g1:((S.take (k+1)++x::(S.drop (k+1)++l.drop (i+1))).map aW.v)[k+1]'av=x.v:=by
    rw[dK,gP av];simp[hC]
   have el:((S.take (k+1)++x::(S.drop (k+1)++l.drop (i+1))).map aW.v)[k]'av=(S[k]).v:=by
    rw[dK,ej av,iV]
   have e3:k+1<l.length:=av;have aD:=i7 K (i:=k+1) av rest;have a0:=i7 K (i:=k) av rest;rw[g1]at aD;rw[el]at a0;rw[hlen]at cp ab a5;replace j:=j.trans a5;have c1:=dV K;rw[hlen]at c1;have c2:=λ(i:Nat) h (x:V) (hx:jW 32 x=true)=>uE K (i:=i) h hx rest;generalize fr:b9 ((S.take (k+1)++x::(S.drop (k+1)++l.drop (i+1))).map aW.v)=M at eh aD a0 c1 c2;have c5:(k+1)*32<=M.length+rest.length:=av;have c6:k*32<=M.length+rest.length:=av;have a6:((k+1:Nat):Int)-1=k:=av;rw[vH,aa ci]at P;simp only at P;have L:=Vp x S[k];obtain⟨Q,ex,c7,et⟩:=x.Kq;obtain⟨o,bl,c9,eK⟩:=S[k].Kq;rw[ex,bl]at L;rw[ex]at aD;rw[bl]at a0;simp only[V.cells]at aD a0;have dd:∀r:List V,List.take 32 (Q++r)=Q:=λr=>List.take_left' c7;have ty:∀r:List V,List.take 32 (o++r)=o:=λr=>List.take_left' c9;have ac:(Q.length==32&&Q.all V.one)=true:=by rw[c7,et];rfl
   have ad:(o.length==32&&o.all V.one)=true:=by rw[c9,eK];rfl
   cases ai:nj x S[k]with
   |true=>
    rw[xw,ai,ax rfl]at L;repeat' first|simp(disch:=omega) only[gE,simprocAttr,z,j,A,D,H,eh,aD,a0,c5,c6,a6,dd,ty,ac,ad]|(first|refine cz ?_ ?_|refine gz ?_ ?_)<;>intro cb h<;>(try simp only[cb])<;>(try exact absurd trivial h)<;>try omega|(refine xi (by simp only[pY]<;>rfl) TU (L) (by simp only[pY]<;>rfl) ?_ ?_;(·refine mV ?_;simp only[ee]<;>rfl))
    refine cJ (n:=32) (off:=(k+1)*32) (cells:=M++rest) ?_ ?_ (by rw[ae];omega) λa1 te tc tl tb tm e1 fs=>?_
    .exact sT
    .exact sT
    have aA:a1.E.box=eQ f.E.box id (some (aQ (M++rest) ((k+1)*32) o)):=tb.trans sT;rw[show aQ (M++rest) ((k+1)*32) o=_ from c2 (k+1) av (.agg o) ad]at aA;repeat' simp(disch:=omega) only[gE,simprocAttr,te,tc,tl,z,j,A,D,H,a6]
    have bo:lG 32 (((S.take (k+1)++x::(S.drop (k+1)++l.drop (i+1))).map aW.v).set (k+1) (.agg o)):=K.set ad;have bs:=dV bo;rw[fH,hlen]at bs;have aB:=uE bo (i:=k) (by rw[fH];omega) (x:=.agg Q) ac rest;rw[<-ex,<-bl,<-nV,<-nV,OH _ _ _ _ ci]at aB;rw[<-bl,<-nV]at aA bs;generalize e4:b9 (((S.take (k+1)++x::(S.drop (k+1)++l.drop (i+1))).set (k+1) S[k]).map aW.v)=df at*
    refine cJ (n:=32) (off:=k*32) (cells:=df++rest) ?_ ?_ (by rw[ae];omega) λa2 ue dr ul ub e2 un fB=>?_
    .simp only[da];rw[aA,bh]
    .simp only[da,te,tc,tl];exact ac
    have a7:a2.E.box=eQ a1.E.box id (some (aQ (df++rest) (k*32) Q)):=ub.trans (by simp only[da,simprocAttr,te,tc,tl]);have bu:a1.E.Y=f.E.Y:=e1.trans (by simp only[da]);have ds:a1.E.mp=f.E.mp:=tm.trans sT;have bv:a2.E.Y=a1.E.Y:=un.trans sT;have dE:a2.E.mp=a1.E.mp:=e2.trans sT;rw[ex]at aB;simp only[V.cells]at aB;rw[aB]at a7;have dU:bA (some id) f.E a2.E:=(bA.Ig aA ds bu).trans (bA.Ig a7 dE bv);have p:((S.take k++x::(S.drop k++l.drop (i+1))).map aW.v).length=l.length:=by
     exact Ye
    have ea:gu 32 a2.E v ((S.take k++x::(S.drop k++l.drop (i+1))).map aW.v):=
     ⟨lG.map (λy=>rfl) _,.inr ⟨id,c,rest,by rw[a5,p],by rw[bv,bu];exact dW,by rw[a7,bh],by rw[p];exact cp,by rw[p];exact ab⟩⟩
    have eb:bA (bI v) E a2.E:=b7.trans (by rw[a5];exact dU);rw[ax ai]at P;repeat' simp(disch:=omega) only[gE,simprocAttr,te,tc,tl,ue,dr,ul,z,j,A,D,H,a6]
    refine⟨k,⟨?_⟩,⟨av⟩⟩;refine⟨by omega,P,?_⟩;simp only[da,te,tc,tl,ue,dr,ul,z,j,A,D,H,a6];all_goals exact⟨ea,eb⟩
   |false=>
    have a8:∃r:Int,0<=r/\af 85 [.agg Q,.agg o] (I r):=by
     rw[xw,al (by rw[ai];exact ky)]at L;refine⟨_,?_,L⟩;split<;>decide
    obtain⟨gb,e5,a8⟩:=a8;rw[al (by rw[ai];exact ky)]at P;repeat' first|simp(disch:=omega) only[gE,simprocAttr,z,j,A,D,H,eh,aD,a0,c5,c6,a6,dd,ty,ac,ad]|(first|refine cz ?_ ?_|refine gz ?_ ?_)<;>intro cb h<;>(try simp only[cb])<;>try omega|(refine xi (by simp only[pY]<;>rfl) TU (a8) (by simp only[pY]<;>rfl) ?_ ?_;(·refine mV ?_;simp only[ee]<;>rfl))
    have a4:uK S x++l.drop (i+1)=S.take (k+1)++x::(S.drop (k+1)++l.drop (i+1)):=by
     rw[uK,hS,<-P,aF];rfl
    refine⟨i+1,⟨?_⟩,⟨by omega⟩⟩;refine⟨by omega,.inl N,?_⟩;simp only[da,z,j,A,D,H,q,u];refine⟨aq (V.int .i64) (by omega),fin _ ?_ b7⟩;rw[a4];exact b6
 .repeat' first|simp only[gE,simprocAttr,a9,bY,b2,ch,b3,q,u]|refine cs ?_ ?_<;>intro h<;>try omega
  have a4:gj (l.take i)++l.drop i=gj l:=by
   rcases ed with h|h
   .obtain rfl:i=l.length:=av;rw[bg,jd,cD]
   .rw[h,Eb];cases l with
    |nil=>rfl
    |cons a r=>
     have:r=[]:=bH.1 (by simp only[aM]at N;omega);subst this;rfl
  rw[a4]at aC;exact⟨nE,.hJ [],_,rfl,aC,cc⟩
def aan:CF GL f121 [] [3,6,10,15] 121:=jo
def abB:CF GL f84 [] [0] 84:=jo
def abC:CF GL f39 [8] [1,2] 39:=jo
def TW(v:V)(l:List aW)(E a:aK):Prop:=gu 32 a v ((gj l).map aW.v)/\bA (bI v) E a
def Sv(v:V)(l:List aW)(E:aK)(a:gu 32 E v (l.map aW.v))(ab:l.length<20):
 aI 121 [v,I l.length,.fn 85 []] E λ_ _ r=>TW v l E r:=by
 have K:=Su v l E a av;refine bq aan.ok rfl ?_;have o:=a.one;have d:=a.gD;repeat' simp only[gE,simprocAttr,o,d]
 refine dT rfl rfl (λ(_:Nat) t=>t.Z 7=I 0/\t.Z 8=I 20/\t.E=E) (λ_=>0) 0 ?_ ?_
 .exact sT;all_goals trivial
 rintro j t ⟨u,y,ac⟩ f;have z:t.Z 0=v:=by rw[f 0 du];rfl
 have p:t.Z 1=I l.length:=by rw[f 1 du];rfl
 have q:t.Z 2=.fn 85 []:=by rw[f 2 du];rfl
 have A:t.Z 6=I 20:=by rw[f 6 du];rfl
 repeat' first|simp only[gE,simprocAttr,u,y,z,p,q,A,o,d]|refine cs ?_ ?_<;>intro h<;>try omega
 refine bz (h0:=E) sT K ?_ ?_ ?_
 .simp only[bR,cm,sE,simprocAttr,d,q];rfl
 .refine mV ?_;simp only[ee]<;>rfl
 rintro _ _ D ⟨q1,L⟩;repeat' simp only[gE,simprocAttr,u,y,z,p,q,A,o,d]
 refine dT rfl rfl (λ(_:Nat) t=>t.Z 6=I 20/\t.E=D) (λ_=>0) 0 ?_ ?_
 .exact sT;all_goals trivial
 rintro ad N ⟨P,Q⟩ H;have R:N.Z 1=I l.length:=by rw[H 1 du];exact p
 repeat' first|simp only[gE,simprocAttr,P,R]|refine cs ?_ ?_<;>intro h<;>try omega
 exact⟨nE,.hJ [],_,rfl,by simp only[da,Q];exact⟨q1,L⟩⟩
def VJ(v:V)(l:List aW)(E:aK)(a:gu 32 E v (l.map aW.v))(j:l.length<20):
 aI 84 [v,.fn 85 []] E λ_ _ d=>TW v l E d:=by
 have o:=Sv v l E a j;have p:=a.one;have o2:=a.gD;have f:=a.len;rw[au]at f;refine bq abB.ok rfl ?_;repeat' simp only[gE,simprocAttr,p,o2,f]
 refine bz (h0:=E) sT o ?_ ?_ ?_
 .exact Yq
 .refine mV ?_;simp only[ee]<;>rfl
 rintro _ _ r q;repeat' simp only[gE,simprocAttr]
 exact⟨nE,.hJ [],_,rfl,q⟩
end Go.Bx
