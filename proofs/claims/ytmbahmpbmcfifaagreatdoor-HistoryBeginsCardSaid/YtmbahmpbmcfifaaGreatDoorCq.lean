/- Lemmas for HistoryBegins. -/
import Derived.Test.YtmbahmpbmcfifaaGreatDoorCl
import Derived.Test.YtmbahmpbmcfifaaGreatDoorCm
import Derived.Test.YtmbahmpbmcfifaaGreatDoorCn
noncomputable section
set_option linter.all false
set_option maxHeartbeats 4000000
set_option maxRecDepth 100000
namespace Go.Bx
open Go.Proofs Go.Proofs.Tryz
attribute [local irreducible] vc er dq b4 bU run iw iI iW i1 iG i2 iX iq iH iZ gA iY cS
def qa:Int->List aJ->Bool
 |_,[]=>true
 |b,p::r=>if p.eD=1/\b=2 then false else qa p.eD r
def zx:∀(l:List aJ)(b:Int),qa b l=(List.range l.length).all λi=> !decide (o0 l i=1/\(i=0/\b=2\/0<i/\o0 l (i-1)=2))
 |[],_=>rfl
 |p::r,b=>by
  have ih:=zx r p.eD;rw[aM,m0,bR,List.all_map];unfold qa;have a:o0 (p::r) 0=p.eD:=rfl;by_cases h:p.eD=1/\b=2
  .rw[ax h];simp[a,h.1,h.2]
  .rw[al h,ih];have e:(!decide (o0 (p::r) 0=1/\(0=0/\b=2\/0<0/\o0 (p::r) (0-1)=2)))=true:=by simp[a];omega
   rw[e,hI];congr 1;funext i;simp only[lI,Nat.succ_eq_add_one];have d:o0 (p::r) (i+1)=o0 r i:=rfl;rw[d];congr 1;rw[nZ];cases i with
   |zero=>simp[a]
   |succ i=>
    have f:o0 (p::r) (i+1)=o0 r i:=rfl;simp[f]
def Ec(l:List aJ):qa 2 l=ou l:=by
 rw[zx,ou];congr 1;funext i;congr 1;unfold ot;rw[nZ];cases i with
 |zero=>simp
 |succ i=>simp
def lR:Int->List (fW×aJ)->Bool
 |_,[]=>true
 |b,x::r=>if x.2.eD=1/\(x.1.idx=0\/b=2)then false else lR x.2.eD r
def GV:Int->List aJ->Int
 |b,[]=>b
 |_,p::r=>GV p.eD r
def Ed(v a:Nat)(R:List (fW×aJ)):∀(l:List aJ)(b:Int)(i:Nat),0<i->lR b (xG v a l i++R)=(qa b l&&lR (GV b l) R)
 |[],b,i,_=>by simp[xG,qa,GV]
 |p::r,b,i,h=>by
  have ih:=Ed v a R r p.eD (i+1) av;have f:¬((i:Int)=0):=av;simp only[xG,aZ,lR,qa,GV,f,rV];by_cases d:p.eD=1/\b=2
  .rw[ax d,ax d];rfl
  .rw[al d,al d,ih]
def IC(v a:Nat)(R:List (fW×aJ))(f:∀b j,lR b R=lR j R)(l:List aJ)(b:Int):lR b (xG v a l 0++R)=(ou l&&lR 2 R):=by
 cases l with
 |nil=>rw[<-Ec];simp only[xG,bm,qa,hI];exact f _ _
 |cons p r=>
  rw[<-Ec];simp only[xG,aZ,lR,qa,cA,Int.ofNat_zero,true_or,bL];by_cases d:p.eD=1
  .rw[ax d,ax d];rfl
  .rw[al d,al d,Ed v a R r p.eD 1 av,f (GV p.eD r) 2]
def zy(v:Nat)(R:List (fW×aJ))(f:∀b d,lR b R=lR d R):∀(l:List eg)(a:Nat)(b:Int),lR b (Cc v l a++R)=(l.all (λx=>ou x.O)&&lR 2 R)
 |[],a,b=>by simp only[Cc,bm,cm,hI];exact f _ _
 |x::r,a,b=>by
  have ih:=zy v R f r (a+1);simp only[Cc,aF,bR];rw[IC v a _ (λb d=>by rw[ih b,ih d]),ih,mz]
def Cr:∀(l:List eM)(v:Nat)(b:Int),lR b (tJ l v)=l.all sS
 |[],_,_=>rfl
 |x::r,v,b=>by
  have ih:=Cr r (v+1);simp only[tJ,bR,sS];rw[zy v _ (λb a=>by rw[ih b,ih a]),ih]
def s6:List ID->List ID->Bool
 |_,[]=>false
 |m,a::r=>if a∈m then true else s6 (m++[a]) r
def L1(l:List aJ):∀k,k<=l.length->s6 ((l.take k).map (·.id)) ((l.drop k).map (·.id))=(List.range l.length).any λi=>decide (k<=i)&&DN l i:=by
 intro k u;obtain⟨n,y⟩:∃n,l.length-k=n:=⟨_,rfl⟩;induction n generalizing k with
 |zero=>
  rw[cT av];rw[ix,cV,s6,mL];intro i d;have:=dm.1 d;simp;omega
 |succ n ih=>
  have a:k<l.length:=av;rw[bG a,bt,s6];have q:l[k].id∈(l.take k).map (·.id)↔DN l k=true:=by
   unfold DN;rw[gv];constructor
   .intro h;obtain⟨p,E,f⟩:=cB.1 h;obtain⟨i,d,rfl⟩:=hU.1 E;rw[aG]at d;rw[iV]at f;exact⟨i,dm.2 av,by simp only[cq];rw[q7 a,q7 av];exact f.symm⟩
   .rintro⟨i,d,f⟩;have d:=dm.1 d;simp only[cq]at f;rw[q7 a,q7 av]at f;exact cB.2 ⟨l[i],by rw[<-iV (j:=k) (h:=by rw[aG];omega)];exact ah _,f.symm⟩
  by_cases h:l[k].id∈(l.take k).map (·.id)
  .rw[ax h,ix,gv];exact⟨k,dm.2 a,by simp[q.1 h]⟩
  .rw[al h];have e:=ih (k+1) av av;rw[br a,az,bt,cV]at e;rw[e,db,gv,gv];constructor
   .rintro⟨i,r,o⟩;simp only[be,cq]at o;exact⟨i,r,by simp only[be,cq];exact⟨av,o.2⟩⟩
   .rintro⟨i,r,o⟩;simp only[be,cq]at o;refine⟨i,r,?_⟩;simp only[be,cq];refine⟨?_,o.2⟩;rcases am k i with t|t
    .omega
    .obtain rfl:i=k:=av;exact absurd (q.2 o.2) h
def OI(l:List aJ):s6 [] (l.map (·.id))=C0 l:=by
 have:=L1 l 0 (aL _);simp only[fi,cV,cy]at this;rw[this,C0];congr 1
def OJ(l:List ID)(a:ID):kP (l.map λx=>(x,B true)) a (B false)=B (decide (a∈l)):=by
 induction l with
 |nil=>rfl
 |cons x r ih=>
  simp only[bt,kP];by_cases h:a=x
  .rw[ax h];simp[h]
  .rw[al h,ih];simp[h]
def OK{α:Type}[DecidableEq α](l:List (α×V))(a:α)(v:V)(h:∀x∈l,a≠x.1):jh l a v=l++[(a,v)]:=by
 induction l with
 |nil=>rfl
 |cons x r ih=>
  rw[jh,al (h x g9),ih λy d=>h y (dw _ d)];rfl
def abD:CF GL f40 [100001,2,5,8] [] 40:=jo
def IE(w:cg)(bv:w.ok):af 40 [w.v] (I (fu w)):=by
 have bY:=s1 w bv;rw[qP]at bY;have hS:=uS w.O 0;have cp:=Cr w.O 0 2;have b5:=OI (dj w);have b6:=yC bv;replace hS:List.map (·.2) (tJ w.O 0)=dj w:=hS;have d:fu w=if lf w then 4 else if(dj w).all aJ.sa=false then 1 else if w.O.all l0=false then 1 else if C0 (dj w)then 7 else if w.O.all sS=false then 8 else 0:=rfl
 have hlen:=aq List.length hS;rw[au]at hlen;generalize tJ w.O 0=L at*
 rw[<-hS]at d b5 b6;rw[<-b5,<-cp]at d;have c1:=Vy w bv;have ca:=Fh w;have c2:=Vz w bv;generalize lf w=el at*
 generalize w.O.all l0=et at*
 generalize fu w=R at*
 refine Pure.gg (by simp only[dx]) (by simp only[dx]) (eN hm abD.ok (bE rfl) ?_);cases el with
 |true=>
  rw[ax rfl]at d;subst d;repeat' first|simp only[gE,simprocAttr,HX.act]|refine lq c1 ?_
  refine cJ (n:=1) (cells:=[I 0]) ?_ ?_ bT λt2 vI yL z7 Pz T7 T8 te7=>?_
  .exact sT
  .exact sT
  have tb:t2.E.box 0=some [I 4]:=by
   rw[Pz];(try simp only[sE]);rw[bh];rfl
  repeat' simp only[gE,simprocAttr,cR,vI,yL,z7]
  exact⟨nE,I 4,false,jH,t2.E,_,false,eA (by simp only[ee,simprocAttr,cR,bx,vI,tb]<;>rfl) rfl,.refl _,.refl _,λh=>(by cases h),rfl,rfl⟩
 |false=>
  rw[al du]at d;repeat' first|simp only[gE,simprocAttr,HX.act]|refine lq c1 ?_|refine lq ca ?_
  refine y4 (f:=123) (cap:=[.ep [cf w.O]]) (items:=L.map GN) (λj E=>E.Y=1/\E.box 0=some [I 0]/\∀x∈L.take j,x.2.sa=true) ?_ yB bY ?_ rfl rfl ?_ ?_ kM ?_
  .exact sT
  .exact Hx
  .simp only[da];intro x h;simp at h
  .rintro j E it ⟨D,a1,b2⟩ r;rw[bw]at r;obtain⟨x,hx,rfl⟩:=bS.1 r;obtain⟨a2,K⟩:=aH.1 hx;have c3:=Vx x.2 (b6 _ (cB.2 ⟨x,K▸ah a2,rfl⟩));unfold GN;by_cases o:x.2.sa=true
   .rw[o]at c3;repeat' first|simp only[gE,simprocAttr,cR,D,a1]|refine lq c3 ?_
    intro y b3;rw[br a2,K]at b3;rcases aN.1 b3 with h|h
    .exact b2 y h
    .simp at h;subst h;exact o
   .have c5:x.2.sa=false:=by simpa using o
    rw[c5]at c3;rw[ax (by rw[eG];exact⟨x.2,cB.2 ⟨x,K▸ah a2,rfl⟩,by simpa using o⟩)]at d;subst d;repeat' first|simp only[gE,simprocAttr,cR,D,a1]|refine lq c3 ?_
    exact XG
  .rintro E ⟨D,a1,b2⟩;rw[au,bg]at b2;rw[al (by rw[Bool.not_eq_false,bO];intro p E;obtain⟨x,hx,rfl⟩:=cB.1 E;exact b2 x hx)]at d;cases et with
   |false=>
    rw[ax rfl]at d;subst d;repeat' first|simp only[gE,simprocAttr,cR,D,a1]|refine lq c2 ?_
    exact XG
   |true=>
    rw[al du]at d;repeat' first|simp only[gE,simprocAttr,cR,HX.act,D,a1]|refine lq c2 ?_
    refine cJ (n:=1) (cells:=[.qs]) ?_ ?_ bT λt2 vI yL z7 Pz T7 T8 te7=>?_
    .simp only[sE,D]
    .exact sT
    have c6:t2.E.box 0=some [I 0]:=by rw[Pz];simp only[sE,simprocAttr,D,a1,eQ]
    have c7:t2.E.box 2=some [.mp 1]:=by rw[Pz];simp only[sE,D,eQ];rfl
    have tm:t2.E.mp 1=some (.map []):=by rw[T7];simp only[sE,D,eQ]
    have eK:t2.E.Y=3:=T8.trans sT;have aA:t2.Z 1=.ep [cf w.O]:=by rw[vI];simp only[sE];rfl
    have a3:t2.Z 5=.bp 2 0:=by rw[vI];simp only[sE,D]
    have Q:t2.Z 2=.bp 0 0:=by rw[vI];simp only[sE,simprocAttr]
    repeat' first|simp only[gE,simprocAttr,cR,yL,z7,Q,aA,a3]|refine lq ca ?_
    obtain⟨X,aB⟩:∃X,List.map (λx:aJ=>x.id) (List.map (λx:fW×aJ=>x.2) L)=X:=⟨_,rfl⟩;rw[aB]at d;have cb:X.length=L.length:=by rw[<-aB,au,au]
    refine y4 (f:=123) (cap:=[.ep [cf w.O]]) (items:=L.map GN) (λj E=>E.Y=3/\E.box 0=some [I 0]/\E.box 2=some [.mp 1]/\E.mp 1=some (.map (fk ID.v ((X.take j).map λx=>(x,B true))))/\s6 (X.take j) (X.drop j)=s6 [] X) ?_ yB bY ?_ rfl rfl ?_ ?_ kM ?_
    .exact sT
    .exact Hx
    .simp only[sE];exact⟨eK,c6,c7,tm⟩
    .rintro j E it ⟨H,aC,a4,aD,ab⟩ r;rw[bw]at r;obtain⟨x,hx,rfl⟩:=bS.1 r;obtain⟨a2,K⟩:=aH.1 hx;have c9:X[j]?=some x.2.id:=by rw[<-aB,bw,bw,hx];rfl
     obtain⟨a5,a6⟩:=aH.1 c9;have e1:=OJ (X.take j) x.2.id;rw[bG a5,a6,s6]at ab;unfold GN;repeat' simp only[gE,simprocAttr,cR,Q,aA,a3,H,aC,a4,aD]
     refine ju qJ (a:=x.2.id) (l:=(X.take j).map λx=>(x,B true)) (id:=1) (fA:=E) ?_ ?_ ?_ aD ?_
     .exact sT
     .exact sT
     .exact sT
     rw[e1];by_cases t:x.2.id∈X.take j
     .rw[ax t]at ab;rw[ax ab.symm]at d;subst d;repeat' simp only[gE,simprocAttr,cR,i6,t,wQ,Q,aA,a3,H,aC,a4,aD]
      refine cJ (n:=1) (cells:=[I 0]) ?_ ?_ bT λP ac a7 a8 a9 dd df dr=>?_
      .exact sT
      .exact sT
      have ub:P.E.box 0=some [I 7]:=by
       rw[a9];(try simp only[sE]);rw[bh];rfl
      repeat' simp only[gE,simprocAttr,cR,ac,a7,a8]
      exact⟨nE,I 7,false,jH,P.E,_,false,eA (by simp only[ee,simprocAttr,cR,bx,ac,ub,Q]<;>rfl) rfl,.refl _,.refl _,λh=>(by cases h),rfl,rfl⟩
     .rw[al t]at ab;repeat' simp only[gE,simprocAttr,cR,i6,t,m7,Q,aA,a3,H,aC,a4,aD]
      refine DY qJ (a:=x.2.id) (l:=(X.take j).map λx=>(x,B true)) (id:=1) (fA:=E) ?_ ?_ ?_ aD ?_ ?_
      .exact sT
      .exact sT
      .exact sT
      .exact sT
      repeat' simp only[gE,simprocAttr,cR,St.ret,Q,aA,a3,H,aC,a4]
      refine⟨aq (λx=>some (MO.map (fk ID.v x))) ?_,?_⟩
      .rw[OK _ _ _ (λy b3=>by obtain⟨z,e2,rfl⟩:=cB.1 b3;intro e3;exact t (e3▸e2)),br a5,a6,az];rfl
      .rw[br a5,a6];exact ab
    .rintro E ⟨H,aC,a4,aD,ab⟩;rw[au,<-cb,bg,jd]at ab;clear aD;rw[al (by rw[<-ab];simp[s6])]at d;repeat' simp only[gE,simprocAttr,cR,HX.act,Q,aA,a3,H,aC,a4]
     refine cJ (n:=1) (cells:=[I 0]) ?_ ?_ bT λbi bl ds dE b7 e7 fa fr=>?_
     .simp only[sE,H]
     .exact sT
     have dU:bi.E.box 0=some [I 0]:=by rw[b7];simp only[sE,simprocAttr,H,aC,eQ]
     have ea:bi.E.box 3=some [I 2]:=by rw[b7];simp only[sE,H,eQ];rfl
     have q1:bi.Z 1=.ep [cf w.O]:=by rw[bl];simp only[sE,simprocAttr,aA]
     have q0:bi.Z 2=.bp 0 0:=by rw[bl];simp only[sE,simprocAttr,Q]
     have q8:bi.Z 8=.bp 3 0:=by rw[bl];simp only[sE,H]
     repeat' first|simp only[gE,simprocAttr,cR,ds,dE,q0,q1,q8]|refine lq ca ?_
     refine y4 (f:=123) (cap:=[.ep [cf w.O]]) (items:=L.map GN) (λj E=>E.box 0=some [I 0]/\∃b,E.box 3=some [I b]/\lR b (L.drop j)=lR 2 L) ?_ yB bY ?_ rfl rfl ?_ ?_ (Bv kM kM) ?_
     .exact sT
     .exact Hx
     .simp only[sE];exact⟨dU,2,ea,rfl⟩
     .rintro j E it ⟨q,b,A,m3⟩ r;rw[bw]at r;obtain⟨x,hx,rfl⟩:=bS.1 r;obtain⟨a2,K⟩:=aH.1 hx;rw[bG a2,K,lR]at m3;unfold GN;by_cases N:x.1.idx=0
      .repeat' first|simp only[gE,simprocAttr,cR,q0,q1,q8,q,A,N]|refine ei ?_
       refine cJ (n:=1) (cells:=[I b]) ?_ ?_ bT λg g1 bo bs g4 g5 g6 fs=>?_
       .exact sT
       .exact sT
       have ad:g.E.box 0=some [I 0]:=by rw[g4];(simp only[sE,eQ,q,A,q8]<;>rfl)
       have a0:g.E.box 3=some [I 2]:=by rw[g4];(simp only[sE,eQ,q,A,q8]<;>rfl)
       by_cases o:x.2.eD=1
       .rw[ax ⟨o,.inl N⟩]at m3;rw[ax m3.symm]at d;subst d;repeat' simp only[gE,simprocAttr,cR,q0,q1,q8,g1,bo,bs,ad,a0,o]
        refine cJ (n:=1) (cells:=[I 0]) ?_ ?_ bT λu bu P cc ch e4 e5 e6=>?_
        .exact sT
        .exact sT
        have ub:u.E.box 0=some [I 8]:=by rw[ch];simp only[sE,eQ,g1,bo,bs,ad]<;>rfl
        repeat' simp only[gE,simprocAttr,cR,bu,P,cc]
        exact⟨nE,I 8,false,jH,u.E,_,false,eA (by simp only[ee,simprocAttr,cR,bx,bu,ub,g1,q0]<;>rfl) rfl,.refl _,.refl _,λh=>(by cases h),rfl,rfl⟩
       .rw[al (λh=>o h.1)]at m3;repeat' first|simp only[gE,simprocAttr,cR,q0,q1,q8,g1,bo,bs,ad,a0,o]|refine gz ?_ ?_<;>intro ci h<;>(try simp only[ci])<;>try omega
        refine cJ (n:=1) (cells:=[I 2]) ?_ ?_ (by simp) λy y1 y2 y3 ai eb ed y7=>?_
        .exact sT
        .exact sT
        have y0b:y.E.box 0=some [I 0]:=by rw[ai];simp only[sE,eQ,g1,bo,bs,ad,a0]<;>rfl
        have y3b:y.E.box 3=some [I x.2.eD]:=by rw[ai];simp only[sE,eQ,g1,bo,bs,ad,a0]<;>rfl
        exact Uj
      .by_cases o:x.2.eD=1
       .by_cases hb:b=2
        .rw[ax ⟨o,.inr hb⟩]at m3;rw[ax m3.symm]at d;subst d;subst hb;repeat' first|simp only[gE,simprocAttr,cR,q0,q1,q8,q,A,N,o]|refine cs ?_ ?_<;>intro h<;>try omega|refine ei ?_
         refine cJ (n:=1) (cells:=[I 0]) ?_ ?_ bT λu bu P cc ch e4 e5 e6=>?_
         .exact sT
         .exact sT
         have ub:u.E.box 0=some [I 8]:=by rw[ch];simp only[sE,eQ,q]<;>rfl
         repeat' simp only[gE,simprocAttr,cR,bu,P,cc]
         exact⟨nE,I 8,false,jH,u.E,_,false,eA (by simp only[ee,simprocAttr,cR,bx,bu,ub,q0]<;>rfl) rfl,.refl _,.refl _,λh=>(by cases h),rfl,rfl⟩
        .rw[al (λh=>h.2.elim N hb)]at m3;repeat' first|simp only[gE,simprocAttr,cR,q0,q1,q8,q,A,N,o,hb]|refine cs ?_ ?_<;>intro h<;>try omega|refine ei ?_
         refine cJ (n:=1) (cells:=[I b]) ?_ ?_ bT λy y1 y2 y3 ai eb ed y7=>?_
         .exact sT
         .exact sT
         have y0b:y.E.box 0=some [I 0]:=by rw[ai];simp only[sE,simprocAttr,eQ,q,A]<;>skip
         have y3b:y.E.box 3=some [I x.2.eD]:=by rw[ai];simp only[sE,eQ,q,A]<;>(rw[o];rfl)
         exact Uj
       .rw[al (λh=>o h.1)]at m3;repeat' first|simp only[gE,simprocAttr,cR,q0,q1,q8,q,A,N,o]|(first|refine cz ?_ ?_|refine gz ?_ ?_)<;>intro ci h<;>(try simp only[ci])<;>try omega|refine ei ?_
        refine cJ (n:=1) (cells:=[I b]) ?_ ?_ (by simp) λy y1 y2 y3 ai eb ed y7=>?_
        .exact sT
        .exact sT
        have y0b:y.E.box 0=some [I 0]:=by rw[ai];simp only[sE,eQ,q,A]<;>rfl
        have y3b:y.E.box 3=some [I x.2.eD]:=by rw[ai];simp only[sE,eQ,q,A]<;>rfl
        exact Uj
     .rintro E ⟨q,b,A,m3⟩;rw[au,jd,lR]at m3;rw[<-m3,al du]at d;subst d;repeat' simp only[gE,simprocAttr,cR,q0,q1,q8,q]
      refine cJ (n:=1) (cells:=[I 0]) ?_ ?_ bT λP ac a7 a8 a9 dd df dr=>?_
      .exact sT
      .exact sT
      have ub:P.E.box 0=some [I 0]:=by
       rw[a9];(try simp only[sE]);rw[bh];rfl
      repeat' simp only[gE,simprocAttr,cR,ac,a7,a8]
      exact⟨nE,I 0,false,jH,P.E,_,false,eA (by simp only[ee,simprocAttr,cR,bx,ac,ub,q0]<;>rfl) rfl,.refl _,.refl _,λh=>(by cases h),rfl,rfl⟩
def aao:CF GL f256 [61] [] 256:=jo
abbrev GW:List V:=[I 0,I 0,I 0,I 0,I 0,I 0,I 0,I 0,I 0,I 0,I 0,I 0,I 0,S [],V.aP,V.aP,V.aP]
abbrev VK(o:Op)(v:V)(pv:V):List V:=[I o.kind,I o.W.J,I o.W.seq,I o.W.k,I o.to.J,I o.to.seq,I o.to.k,I o.spot.i9,I o.spot.k0,I o.spot.idx,I o.n,I o.eD,I o.en,S o.bN,eZ o.F,pv,v]
abbrev oz2(o:Op):List V:=[I o.kind,I o.W.J,I o.W.seq,I o.W.k,I o.to.J,I o.to.seq,I o.to.k,I o.spot.i9,I o.spot.k0,I o.spot.idx,I o.n,I o.eD,I o.en,S o.bN,eZ o.F,V.aP,V.aP]
abbrev oz3(o:Op):List V:=[I o.kind,I o.W.J,I o.W.seq,I o.W.k,I o.to.J,I o.to.seq,I o.to.k,I o.spot.i9,I o.spot.k0,I o.spot.idx,I o.n,I o.eD,I o.en,S o.bN,V.aP,V.aP,V.aP]
abbrev oz4(o:Op)(v:V):List V:=[I o.kind,I o.W.J,I o.W.seq,I o.W.k,I o.to.J,I o.to.seq,I o.to.k,I o.spot.i9,I o.spot.k0,I o.spot.idx,I o.n,I o.eD,I o.en,S o.bN,eZ o.F,v,V.aP]
abbrev oz5(o:Op):List V:=[I o.kind,I o.W.J,I o.W.seq,I o.W.k,I o.to.J,I o.to.seq,I o.to.k,I o.spot.i9,I o.spot.k0,I o.spot.idx,I o.n,I o.eD,I o.en,S [],V.aP,V.aP,V.aP]
def Kr(l:List Int)(k:Int)(a:0<k):af 259 [fq l,I k] (.fn 304 [.ep [fq l],.ep [I k]]):=by
 refine pk f259 ?_ [100002,100003];repeat' first|refine k7 ?_|refine cs ?_ ?_<;>intro h<;>try omega|refine ei ?_|refine q1 ?_
 exact .refl _
def OL(id:Nat)(b:T)(E:aK)(W:Nat)(a:aK):Prop:=a.box=eQ E.box id (some [dc b,I W,I 0])/\a.mp=E.mp/\a.Y=E.Y
def Fu(id:Nat)(b r:T)(a:Nat)(l:List Int)(k:Nat)(j:Bool)(E:aK)(hb:E.box id=some [dc b,I a,I 0])(hd:b.drop a=cX l++r)(t:a<=b.length)(D:b.length<=10000000)(u:∀n∈l,jG n)
 (h0:0<k) (y:l.length%k=0) (p:j=true->l.length=k):aI 256 [.bp id 0,I k,B j] E λv _ d=>v=fq l/\OL id b E (a+(cX l).length) d:=by
 have hlen:b.length=a+((cX l).length+r.length):=by
  exact PP
 have q:=JX l r av u;have o:=nJ b a t;rw[hd]at o;simp only[dc]at q o hb;have f:Int.tmod (l.length:Int) k=0:=by rw[<-jQ,y];rfl
 generalize (cX l).length=A at*
 have main:(j=true->l.length=k)->aI 256 [.bp id 0,I k,B j] E λv _ d=>v=fq l/\OL id b E (a+A) d:=by
  intro p;refine bq aao.ok rfl ?_;cases j with
  |true=>
   have z:=p rfl;repeat' first|simp(disch:=try exact om) only[gE,simprocAttr,hb,o,f]|refine cs ?_ ?_<;>intro h<;>try omega|refine lq q ?_|refine ei ?_
   exact XF
  |false=>
   repeat' first|simp(disch:=try exact om) only[gE,simprocAttr,hb,o,f]|refine lq q ?_|refine ei ?_
   exact XF
 exact main p
def gu.lt{sz:Nat}{h:aK}{v:V}{xs:List V}(hm:gu sz h v xs){i:Nat}(e:bI v=some i):i<h.Y:=by
 obtain⟨_,⟨rfl,_⟩|⟨id,c,rest,rfl,dW,_⟩⟩:=hm
 .cases e
 .cases e;exact dW
def gu.aap{sz:Nat}{h:aK}{v:V}{xs:List V}{fz:aj}(hm:gu sz h v xs)(f:∀id,bI v=some id->fz id=h.box id):V.lF fz v (.sl sz xs):=by
 obtain⟨ho,⟨rfl,rfl⟩|⟨id,c,rest,rfl,dW,hb,o,p⟩⟩:=hm
 .exact .aP sz
 .refine .ms sz id 0 xs.length c (b9 xs++rest) (b9 xs++rest) xs (by rw[f id rfl,hb]) rfl (λj a b l d=>?_) rfl λi x hx=>?_
  .rw[l]at d;cases d;exact .refl _
  .exact XM
def IF{s:St}{t n t2 j:Nat}{ag:Bool}{a d f:V}(l:dv s (.load ag n (.tmp t))=some a)(h2:s.Z t2=d)(o:s.Z j=f)(p:a.dY=false)(q:d.dY=false)(r:f.dY=false):BF.result s [.cell t ag n,.tmp t2,.tmp j]=some (.hJ [a,d,f],false):=by
 subst h2 o;simp[BF.result,BR.pX,BR.get,l,p,q,r]
def aaq:CF GL f207 [2,6,20,160,178] [3,12] 207:=jo
def OM:fK prog 304=true:=by kernel_rfl
def itP(a:Int×Int):List V:=[fq [a.1,a.2]]
def itR(a:ID):List V:=[fq [a.J,a.seq,a.k]]
def Fv(l:List (Int×Int)):vZ (jl l) 2 l.length=l.map itP:=by
 have hd:∀(l:List (Int×Int))(j:Nat),(jl l).drop (2*j)=jl (l.drop j):=by
  intro l;induction l with
  |nil=>intro j;simp[jl]
  |cons a r ih=>
   intro j;cases j with
   |zero=>rfl
   |succ j=>exact ih j
 exact XO
def GX(l:List ID):vZ (k8 l) 3 l.length=l.map itR:=by
 have hd:∀(l:List ID)(j:Nat),(k8 l).drop (3*j)=k8 (l.drop j):=by
  intro l;induction l with
  |nil=>intro j;simp[k8]
  |cons a r ih=>
   intro j;cases j with
   |zero=>rfl
   |succ j=>exact ih j
 exact XO
def mv{a:List UInt8}{n:Nat}{l r:List UInt8}(h:a.drop n=l++r):a.drop (n+l.length)=r:=by rw[<-dF,h,fX]
def Sw(o:Op)(h3:o.enc)(r b:T)(c7:b=oN o++r)(a5:b.length<=10000000):af 207 [dc b] (.hJ [o.v,I (oN o).length,I 0]):=by
 obtain⟨a8,kd,kk,ks,ln,gn,e5,h4⟩:=h3;have h5:∀n∈o.head,jG n:=by
  intro n gp;simp only[Op.head,bn,cE,gL]at gp;rcases gp with rfl|rfl|rfl|rfl|rfl|rfl|rfl|rfl|rfl|rfl|rfl|rfl|rfl
  all_goals simp only[a8]
 have d0:b.drop 0=cX o.head++(dD o.bN++(g7 o.F++(cX (jl o.cW)++(cX (k8 o.C)++r)))):=by rw[c7];simp only[oN,cy,aF]
 have e6:=mv d0;have e7:=mv e6;have fa:=mv e7;have ha:=mv fa;have hlen:=aq List.length c7;simp only[oN,ae]at hlen;have j7:b.length=0+(cX o.head).length+(dD o.bN).length+(g7 o.F).length+(cX (jl o.cW)).length+(cX (k8 o.C)).length+r.length:=av;have h6:=qI o.cW;have ih:=sd o.C;have hc:=λE hb=>Fu 1 b _ _ o.head 13 true E hb d0 av a5 h5 av (by simp[Op.head]) (λ_=>by simp[Op.head]);have hd:=JV o.bN (g7 o.F++(cX (jl o.cW)++(cX (k8 o.C)++r))) (by simp only[ae];omega);have c3:=JW o.F (cX (jl o.cW)++(cX (k8 o.C)++r)) (by simp only[ae];omega);have c4:=λE hb=>Fu 1 b _ _ (jl o.cW) 2 false E hb fa av a5 gn av av (λh=>by cases h);have io:=λE hb=>Fu 1 b _ _ (k8 o.C) 3 false E hb ha av a5 h4 av av (λh=>by cases h);have he:=zj (jl o.cW) 2 o.cW.length av av h6 av;rw[Fv]at he;have hf:=zj (k8 o.C) 3 o.C.length av av ih av;rw[GX]at hf;have js:=Kr (jl o.cW) 2 av;have jA:=Kr (k8 o.C) 3 av;have u:=nJ b _ (show 0+(cX o.head).length<=b.length by omega);have z:=nJ b _ (show 0+(cX o.head).length+(dD o.bN).length<=b.length by omega);rw[e6]at u;rw[e7]at z;have hg:(oN o).length=0+(cX o.head).length+(dD o.bN).length+(g7 o.F).length+(cX (jl o.cW)).length+(cX (k8 o.C)).length:=by simp only[oN,ae];omega
 rw[hg];clear hg d0 e6 e7 fa ha hlen;simp only[dc]at hd c3 u z;generalize 0+(cX o.head).length=a at*
 generalize (dD o.bN).length=t at*
 generalize (g7 o.F).length=aB at*
 generalize (cX (jl o.cW)).length=a0 at*
 generalize (cX (k8 o.C)).length=a6 at*
 simp only[Op.head]at hc;refine Pure.gg (by simp only[dx]) (by simp only[dx]) (eN hm aaq.ok (bE rfl) ?_);repeat' first|simp only[gE,simprocAttr,HX.act]|refine ei ?_
 refine bz rfl (hc _ (by(try simp only[sE]);try rfl)) ?_ ?_ ?_
 .rfl
 .refine mV ?_;simp only[ee]<;>rfl
 rintro _ _ a8 ⟨rfl,c9,hh,a1⟩;have hi:a8.box 0=some GW/\a8.box 1=some [dc b,I (a:Nat),I 0]/\a8.box 2=some GW/\a8.Y=3:=by
  rw[c9,a1];simp only[sE,simprocAttr]
  and_intros
  all_goals rfl
 clear c9 hh a1;obtain⟨dd,df,dr,a1⟩:=hi;repeat' simp(disch:=try exact om) only[gE,simprocAttr,HX.act,u,z,dd,df,dr,a1]
 refine cJ (n:=17) (off:=0) (cells:=GW) ?_ ?_ bT λca rM rN rO ds hk a2 rP=>?_
 .exact sT
 .exact sT
 have hl:ca.E.box 0=some GW/\ca.E.box 1=some [dc b,I (a:Nat),I 0]/\ca.E.box 2=some (oz5 o)/\ca.E.Y=3:=by
  rw[ds,a2];simp only[sE,simprocAttr,dd,df,dr,a1]
  and_intros
  all_goals first|rfl|trivial
 clear ds hk a2;obtain⟨t10,t11,t12,a2⟩:=hl;repeat' first|simp(disch:=try exact om) only[gE,simprocAttr,HX.act,u,z,rM,rN,rO,rP,t10,t11,t12,a2]|refine lq hd ?_|refine ei ?_
 refine cJ (n:=1) (off:=13) (cells:=(oz5 o)) ?_ ?_ bT λN ss su sv dE hn Q sw=>?_
 .exact sT
 .exact sT
 have ho:N.E.box 0=some GW/\N.E.box 1=some [dc b,I (a:Nat),I 0]/\N.E.box 2=some (oz3 o)/\N.E.Y=3:=by
  rw[dE,Q];simp only[sE,simprocAttr,rM,rN,rO,rP,t10,t11,t12,a2]
  and_intros
  all_goals first|rfl|trivial
 clear dE hn Q;obtain⟨t20,t21,t22,Q⟩:=ho;repeat' simp only[gE,simprocAttr,HX.act,u,z,rM,rN,rO,rP,ss,su,sv,sw,t20,t21,t22,Q]
 refine cJ (n:=1) (off:=2) (cells:=[dc b,I (a:Nat),I 0]) ?_ ?_ bT λcb tL tM tO dU hq R tP=>?_
 .exact sT
 .simp only[sE,simprocAttr,rM,rN,rO,rP,ss,su,sv,sw,t20,t21,t22,Q];rfl
 have hr:cb.E.box 0=some GW/\cb.E.box 1=some [dc b,I (a:Nat),I 0]/\cb.E.box 2=some (oz3 o)/\cb.E.Y=3:=by
  rw[dU,R];simp only[sE,simprocAttr,rM,rN,rO,rP,ss,su,sv,sw,t20,t21,t22,Q]
  and_intros
  all_goals first|rfl|trivial
 clear dU hq R;obtain⟨t30,t31,t32,R⟩:=hr;repeat' simp only[gE,simprocAttr,HX.act,u,z,rM,rN,rO,rP,ss,su,sv,sw,tL,tM,tO,tP,t30,t31,t32,R]
 refine cJ (n:=1) (off:=1) (cells:=[dc b,I (a:Nat),I 0]) ?_ ?_ bT λcc vz vA vB ea hs a3 vC=>?_
 .exact sT
 .simp only[sE,simprocAttr,rM,rN,rO,rP,ss,su,sv,sw,tL,tM,tO,tP,t30,t31,t32,R];rfl
 have ht:cc.E.box 0=some GW/\cc.E.box 1=some [dc b,I (a+t:Nat),I 0]/\cc.E.box 2=some (oz3 o)/\cc.E.Y=3:=by
  rw[ea,a3];simp only[sE,simprocAttr,rM,rN,rO,rP,ss,su,sv,sw,tL,tM,tO,tP,t30,t31,t32,R]
  and_intros
  all_goals first|rfl|trivial
 clear ea hs a3;obtain⟨t40,t41,t42,a3⟩:=ht;repeat' first|simp(disch:=try exact om) only[gE,simprocAttr,HX.act,u,z,rM,rN,rO,rP,ss,su,sv,sw,tL,tM,tO,tP,vz,vA,vB,vC,t40,t41,t42,a3]|refine lq c3 ?_|refine ei ?_
 refine cJ (n:=1) (off:=14) (cells:=(oz3 o)) ?_ ?_ bT λch v1 v2 v6 eb hu ab v7=>?_
 .exact sT
 .exact sT
 have hv:ch.E.box 0=some GW/\ch.E.box 1=some [dc b,I (a+t:Nat),I 0]/\ch.E.box 2=some (oz2 o)/\ch.E.Y=3:=by
  rw[eb,ab];simp only[sE,simprocAttr,rM,rN,rO,rP,ss,su,sv,sw,tL,tM,tO,tP,vz,vA,vB,vC,t40,t41,t42,a3]
  and_intros
  all_goals first|rfl|trivial
 clear eb hu ab;obtain⟨t50,t51,t52,ab⟩:=hv;repeat' simp only[gE,simprocAttr,HX.act,u,z,rM,rN,rO,rP,ss,su,sv,sw,tL,tM,tO,tP,vz,vA,vB,vC,v1,v2,v6,v7,t50,t51,t52,ab]
 refine cJ (n:=1) (off:=2) (cells:=[dc b,I (a+t:Nat),I 0]) ?_ ?_ bT λci xV xW xX ed hw ac xY=>?_
 .exact sT
 .simp only[sE,simprocAttr,rM,rN,rO,rP,ss,su,sv,sw,tL,tM,tO,tP,vz,vA,vB,vC,v1,v2,v6,v7,t50,t51,t52,ab];rfl
 have hy:ci.E.box 0=some GW/\ci.E.box 1=some [dc b,I (a+t:Nat),I 0]/\ci.E.box 2=some (oz2 o)/\ci.E.Y=3:=by
  rw[ed,ac];simp only[sE,simprocAttr,rM,rN,rO,rP,ss,su,sv,sw,tL,tM,tO,tP,vz,vA,vB,vC,v1,v2,v6,v7,t50,t51,t52,ab]
  and_intros
  all_goals first|rfl|trivial
 clear ed hw ac;obtain⟨t60,t61,t62,ac⟩:=hy;repeat' simp only[gE,simprocAttr,HX.act,u,z,rM,rN,rO,rP,ss,su,sv,sw,tL,tM,tO,tP,vz,vA,vB,vC,v1,v2,v6,v7,xV,xW,xX,xY,t60,t61,t62,ac]
 refine cJ (n:=1) (off:=1) (cells:=[dc b,I (a+t:Nat),I 0]) ?_ ?_ bT λcp zF zG zH el hz ad zJ=>?_
 .exact sT
 .simp only[sE,simprocAttr,rM,rN,rO,rP,ss,su,sv,sw,tL,tM,tO,tP,vz,vA,vB,vC,v1,v2,v6,v7,xV,xW,xX,xY,t60,t61,t62,ac];rfl
 have hB:cp.E.box 0=some GW/\cp.E.box 1=some [dc b,I (a+t+aB:Nat),I 0]/\cp.E.box 2=some (oz2 o)/\cp.E.Y=3:=by
  rw[el,ad];simp only[sE,simprocAttr,rM,rN,rO,rP,ss,su,sv,sw,tL,tM,tO,tP,vz,vA,vB,vC,v1,v2,v6,v7,xV,xW,xX,xY,t60,t61,t62,ac]
  and_intros
  all_goals first|rfl|trivial
 clear el hz ad;obtain⟨t70,t71,t72,ad⟩:=hB;repeat' simp only[gE,simprocAttr,HX.act,u,z,rM,rN,rO,rP,ss,su,sv,sw,tL,tM,tO,tP,vz,vA,vB,vC,v1,v2,v6,v7,xV,xW,xX,xY,zF,zG,zH,zJ,t70,t71,t72,ad]
 refine bz rfl (c4 _ (by(try simp only[sE,rM,rN,rO,rP,ss,su,sv,sw,tL,tM,tO,tP,vz,vA,vB,vC,v1,v2,v6,v7,xV,xW,xX,xY,zF,zG,zH,zJ,t70,t71,t72,ad]);try rfl)) ?_ ?_ ?_
 .rfl
 .refine mV ?_;simp only[ee]<;>rfl
 rintro _ _ c1 ⟨rfl,et,hD,ai⟩;have hF:c1.box 0=some GW/\c1.box 1=some [dc b,I (a+t+aB+a0:Nat),I 0]/\c1.box 2=some (oz2 o)/\c1.Y=3:=by
  rw[et,ai];simp only[sE,simprocAttr,rM,rN,rO,rP,ss,su,sv,sw,tL,tM,tO,tP,vz,vA,vB,vC,v1,v2,v6,v7,xV,xW,xX,xY,zF,zG,zH,zJ,t70,t71,t72,ad]
  and_intros
  all_goals first|rfl|trivial
 clear et hD ai;obtain⟨bi,bl,bo,ai⟩:=hF;repeat' simp only[gE,simprocAttr,HX.act,u,z,rM,rN,rO,rP,ss,su,sv,sw,tL,tM,tO,tP,vz,vA,vB,vC,v1,v2,v6,v7,xV,xW,xX,xY,zF,zG,zH,zJ,bi,bl,bo,ai]
 refine bz rfl (io _ (by(try simp only[sE,rM,rN,rO,rP,ss,su,sv,sw,tL,tM,tO,tP,vz,vA,vB,vC,v1,v2,v6,v7,xV,xW,xX,xY,zF,zG,zH,zJ,bi,bl,bo,ai]);try rfl)) ?_ ?_ ?_
 .rfl
 .refine mV ?_;simp only[ee]<;>rfl
 rintro _ _ c2 ⟨rfl,eK,hH,aA⟩;have hK:c2.box 0=some GW/\c2.box 1=some [dc b,I (a+t+aB+a0+a6:Nat),I 0]/\c2.box 2=some (oz2 o)/\c2.Y=3:=by
  rw[eK,aA];simp only[sE,simprocAttr,rM,rN,rO,rP,ss,su,sv,sw,tL,tM,tO,tP,vz,vA,vB,vC,v1,v2,v6,v7,xV,xW,xX,xY,zF,zG,zH,zJ,bi,bl,bo,ai]
  and_intros
  all_goals first|rfl|trivial
 clear eK hH aA;obtain⟨bs,bu,bv,aA⟩:=hK;repeat' first|simp only[gE,simprocAttr,HX.act,u,z,rM,rN,rO,rP,ss,su,sv,sw,tL,tM,tO,tP,vz,vA,vB,vC,v1,v2,v6,v7,xV,xW,xX,xY,zF,zG,zH,zJ,bs,bu,bv,aA]|refine lq js ?_
 refine y4 (f:=304) (cap:=[.ep [fq (jl o.cW)],.ep [I 2]]) (items:=o.cW.map itP) (λj E=>E.Y>=3/\E.box 0=some GW/\E.box 1=some [dc b,I (a+t+aB+a0+a6:Nat),I 0]/\∃v,E.box 2=some (oz4 o v)/\gu 2 E v ((o.cW.take j).map nb)/\(∀i,bI v=some i->3<=i)) ?_ OM he ?_ rfl rfl ?_ ?_ ?_ ?_
 ·(try simp only[sE,rM,rN,rO,rP,ss,su,sv,sw,tL,tM,tO,tP,vz,vA,vB,vC,v1,v2,v6,v7,xV,xW,xX,xY,zF,zG,zH,zJ,bs,bu,bv,aA]);try rfl
 .exact Hx
 .simp only[sE,simprocAttr,rM,rN,rO,rP,ss,su,sv,sw,tL,tM,tO,tP,vz,vA,vB,vC,v1,v2,v6,v7,xV,xW,xX,xY,zF,zG,zH,zJ,bs,bu,bv,aA];exact⟨.aP,rfl,gu.nil,λi e=>(by cases e)⟩
 .rintro j E it ⟨c5,D,A,v,H,P,aC⟩ a4;rw[bw]at a4;obtain⟨x,hx,rfl⟩:=bS.1 a4;obtain⟨hj,hxe⟩:=aH.1 hx;have jB:=P.one;unfold itP;repeat' first|simp(disch:=try exact om) only[gE,simprocAttr,cR,D,A,H,rM,rN,rO,rP,ss,su,sv,sw,tL,tM,tO,tP,vz,vA,vB,vC,v1,v2,v6,v7,xV,xW,xX,xY,zF,zG,zH,zJ]|refine e9 ?_ ?_
  all_goals
   refine iR (xs:=(o.cW.take j).map nb) (ys:=[nb x]) ?_ ?_ ?_ ?_ ?_ rfl ?_ ?_ λK d Wq hb fr=>?_
   .exact sT
   .exact sT
   .intro y bY;simp at bY;subst bY;rfl
   .exact sT
   .simp only[da];intro l a5;cases a5
   .exact PQ
   .intro _ fs;cases fs
   have o2:=Wq.one;have o3:=Wq.kf;have L:∀i,bI v=some i->i≠0/\i≠1/\i≠2:=λi e=>by have:=aC i e;omega
   have q:bA (bI v) E d:=sR hb;have a7:bI K=bI v\/bI K=some E.Y:=sR fr;have fB:d.box 0=some GW:=by rw[q.box 0 av (λe=>(L _ e).1 rfl)];exact D
   have q1:d.box 1=some [dc b,I (a+t+aB+a0+a6:Nat),I 0]:=by rw[q.box 1 av (λe=>(L _ e).2.1 rfl)];exact A
   have j2:d.box 2=some (oz4 o v):=by rw[q.box 2 av (λe=>(L _ e).2.2 rfl)];exact H
   have j3:=q.Y;have ME:∀i,bI K=some i->3<=i:=λi e=>by
    rcases a7 with h|h
    .exact aC i (h▸e)
    .have:=ar (h.symm.trans e);omega
  all_goals repeat' simp only[gE,simprocAttr,cR,rM,rN,rO,rP,ss,su,sv,sw,tL,tM,tO,tP,vz,vA,vB,vC,v1,v2,v6,v7,xV,xW,xX,xY,zF,zG,zH,zJ]
  all_goals
   refine cJ (n:=1) (off:=15) (cells:=(oz4 o v)) ?_ ?_ bT λN b2 b3 b5 b6 hM b7 hO=>?_
   .exact sT
   .exact XV
   have tb:N.E.box=eQ d.box 2 (some [I o.kind,I o.W.J,I o.W.seq,I o.W.k,I o.to.J,I o.to.seq,I o.to.k,I o.spot.i9,I o.spot.k0,I o.spot.idx,I o.n,I o.eD,I o.en,S o.bN,eZ o.F,K,V.aP]):=by rw[b6];simp only[sE,simprocAttr,rM,rN,rO,rP,ss,su,sv,sw,tL,tM,tO,tP,vz,vA,vB,vC,v1,v2,v6,v7,xV,xW,xX,xY,zF,zG,zH,zJ];rw[o3];rfl
   have hQ:N.E.Y=d.Y:=b7.trans sT
  all_goals repeat' simp only[gE,simprocAttr,cR,b2,b3,b5,rM,rN,rO,rP,ss,su,sv,sw,tL,tM,tO,tP,vz,vA,vB,vC,v1,v2,v6,v7,xV,xW,xX,xY,zF,zG,zH,zJ]
  all_goals
   refine⟨av,by rw[tb,bD _ _ du];exact fB,by rw[tb,bD _ _ du];exact q1,K,by rw[tb,bh],?_,ME⟩
   .exact X6
 .exact kM
 .rintro E ⟨c5,D,A,v,H,P,aC⟩;rw[au,bg]at P;generalize j8:v=p at*
  repeat' first|simp only[gE,simprocAttr,HX.act,cR,D,A,H,rM,rN,rO,rP,ss,su,sv,sw,tL,tM,tO,tP,vz,vA,vB,vC,v1,v2,v6,v7,xV,xW,xX,xY,zF,zG,zH,zJ]|refine lq jA ?_
  refine y4 (f:=304) (cap:=[.ep [fq (k8 o.C)],.ep [I 3]]) (items:=o.C.map itR) (λj E=>E.Y>=3/\E.box 0=some GW/\E.box 1=some [dc b,I (a+t+aB+a0+a6:Nat),I 0]/\∃v,E.box 2=some (VK o v p)/\gu 3 E v ((o.C.take j).map ID.v)/\(∀i,bI v=some i->3<=i)/\(∀i,bI v=some i->bI p≠some i)/\gu 2 E p (o.cW.map nb)/\(∀i,bI p=some i->3<=i)) ?_ OM hf ?_ rfl rfl ?_ ?_ ?_ ?_
  ·(try simp only[sE,D,A,H,rM,rN,rO,rP,ss,su,sv,sw,tL,tM,tO,tP,vz,vA,vB,vC,v1,v2,v6,v7,xV,xW,xX,xY,zF,zG,zH,zJ]);try rfl
  .exact Hx
  .simp only[sE,simprocAttr,D,A,H,rM,rN,rO,rP,ss,su,sv,sw,tL,tM,tO,tP,vz,vA,vB,vC,v1,v2,v6,v7,xV,xW,xX,xY,zF,zG,zH,zJ];exact⟨c5,.aP,by rfl,gu.nil,λi e=>(by cases e),λi e=>(by cases e),P,aC⟩
  .rintro j E it ⟨c5,D,A,v,H,P,aC,gb,a9,c6⟩ a4;rw[bw]at a4;obtain⟨x,hx,rfl⟩:=bS.1 a4;obtain⟨hj,hxe⟩:=aH.1 hx;have jB:=P.one;unfold itR;repeat' first|simp(disch:=try exact om) only[gE,simprocAttr,cR,D,A,H,rM,rN,rO,rP,ss,su,sv,sw,tL,tM,tO,tP,vz,vA,vB,vC,v1,v2,v6,v7,xV,xW,xX,xY,zF,zG,zH,zJ]|refine e9 ?_ ?_
   all_goals
    refine iR (xs:=(o.C.take j).map ID.v) (ys:=[ID.v x]) ?_ ?_ ?_ ?_ ?_ rfl ?_ ?_ λK d Wq hb fr=>?_
    .exact sT
    .exact sT
    .intro y bY;simp at bY;subst bY;rfl
    .exact sT
    .simp only[da];intro l a5;cases a5
    .exact PQ
    .intro _ fs;cases fs
    have o2:=Wq.one;have o3:=Wq.kf;have L:∀i,bI v=some i->i≠0/\i≠1/\i≠2:=λi e=>by have:=aC i e;omega
    have q:bA (bI v) E d:=sR hb;have a7:bI K=bI v\/bI K=some E.Y:=sR fr;have fB:d.box 0=some GW:=by rw[q.box 0 av (λe=>(L _ e).1 rfl)];exact D
    have q1:d.box 1=some [dc b,I (a+t+aB+a0+a6:Nat),I 0]:=by rw[q.box 1 av (λe=>(L _ e).2.1 rfl)];exact A
    have j2:d.box 2=some (VK o v p):=by rw[q.box 2 av (λe=>(L _ e).2.2 rfl)];exact H
    have j3:=q.Y;have ME:∀i,bI K=some i->3<=i:=λi e=>by
     rcases a7 with h|h
     .exact aC i (h▸e)
     .have:=ar (h.symm.trans e);omega
   all_goals repeat' simp only[gE,simprocAttr,cR,rM,rN,rO,rP,ss,su,sv,sw,tL,tM,tO,tP,vz,vA,vB,vC,v1,v2,v6,v7,xV,xW,xX,xY,zF,zG,zH,zJ]
   all_goals
    refine cJ (n:=1) (off:=16) (cells:=(VK o v p)) ?_ ?_ bT λN b2 b3 b5 b6 hM b7 hO=>?_
    .exact sT
    .exact XV
    have tb:N.E.box=eQ d.box 2 (some [I o.kind,I o.W.J,I o.W.seq,I o.W.k,I o.to.J,I o.to.seq,I o.to.k,I o.spot.i9,I o.spot.k0,I o.spot.idx,I o.n,I o.eD,I o.en,S o.bN,eZ o.F,p,K]):=by rw[b6];simp only[sE,simprocAttr,rM,rN,rO,rP,ss,su,sv,sw,tL,tM,tO,tP,vz,vA,vB,vC,v1,v2,v6,v7,xV,xW,xX,xY,zF,zG,zH,zJ];rw[o3];rfl
    have hQ:N.E.Y=d.Y:=b7.trans sT
   all_goals repeat' simp only[gE,simprocAttr,cR,b2,b3,b5,rM,rN,rO,rP,ss,su,sv,sw,tL,tM,tO,tP,vz,vA,vB,vC,v1,v2,v6,v7,xV,xW,xX,xY,zF,zG,zH,zJ]
   all_goals
    refine⟨av,by rw[tb,bD _ _ du];exact fB,by rw[tb,bD _ _ du];exact q1,K,by rw[tb,bh],?_,ME,?_,?_,c6⟩
    .exact X6
    .intro i e hR;rcases a7 with h|h
     .exact gb i (h▸e) hR
     .have gn:=ar (h.symm.trans e);have e5:=a9.lt hR;omega
    .refine gu.frame a9 (λi X7=>?_) av;have e5:=a9.lt X7;rw[tb,bD _ _ (by rintro rfl;have:=c6 _ X7;omega)];exact q.box i e5 (λe=>gb i e X7)
  .exact kM
  .rintro E ⟨c5,D,A,v,H,P,aC,gb,a9,c6⟩;rw[au,bg]at P;have gf:=a9.one;have gk:=P.one;repeat' first|simp only[gE,simprocAttr,HX.act,cR,D,A,H,gf,gk,rM,rN,rO,rP,ss,su,sv,sw,tL,tM,tO,tP,vz,vA,vB,vC,v1,v2,v6,v7,xV,xW,xX,xY,zF,zG,zH,zJ]|refine e9 ?_ ?_
   all_goals
    refine cJ (n:=17) (off:=0) (cells:=GW) ?_ ?_ bT λaD e1 e2 e3 hS j9 h0 e4=>?_
    .exact sT
    .simp only[sE,simprocAttr,rM,rN,rO,rP,ss,su,sv,sw,tL,tM,tO,tP,vz,vA,vB,vC,v1,v2,v6,v7,xV,xW,xX,xY,zF,zG,zH,zJ];simp only[jW,V.cells,aM,aX,bR,cm,gf,gk];rfl
    have tb:aD.E.box=eQ E.box 0 (some (VK o v p)):=hS.trans sT;have hQ:aD.E.Y=E.Y:=h0.trans sT;have h2:aD.E.box 0=some (VK o v p):=by rw[tb,bh]
    have j4:aD.E.box 1=some [dc b,I (a+t+aB+a0+a6:Nat),I 0]:=by rw[tb,bD _ _ du];exact A
   all_goals repeat' simp only[gE,simprocAttr,HX.act,cR,h2,j4,e1,e2,e3,e4,gf,gk,rM,rN,rO,rP,ss,su,sv,sw,tL,tM,tO,tP,vz,vA,vB,vC,v1,v2,v6,v7,xV,xW,xX,xY,zF,zG,zH,zJ]
   all_goals
    have j5:V.lF (oC aD.E ((bI p).toList++(bI v).toList)) p (.sl 2 (o.cW.map nb)):=a9.aap λid e=>by rw[pg (by simp[e]),tb,bD _ _ (by rintro rfl;have:=c6 _ e;omega)]
    have j6:V.lF (oC aD.E ((bI p).toList++(bI v).toList)) v (.sl 3 (o.C.map ID.v)):=P.aap λid e=>by rw[pg (by simp[e]),tb,bD _ _ (by rintro rfl;have:=aC _ e;omega)]
    refine⟨nE,.hJ [.agg (VK o v p),I (a+t+aB+a0+a6:Nat),I 0],false,oC aD.E ((bI p).toList++(bI v).toList),aD.E.less ((bI p).toList++(bI v).toList),_,false,IF (by(first|(simp(disch:=try exact om) only[ee,simprocAttr,h2,bx,cR,e1,e2,e3,e4,rM,rN,rO,rP,ss,su,sv,sw,tL,tM,tO,tP,vz,vA,vB,vC,v1,v2,v6,v7,xV,xW,xX,xY,zF,zG,zH,zJ]<;>rfl)|rfl)) sT sT rfl rfl rfl,l6 _ _,?_,λh=>(by cases h),rfl,rfl⟩;have lo:V.lF (oC aD.E ((bI p).toList++(bI v).toList)) (.agg (VK o v p)) o.v:=.agg _ _ rfl (zE.cons (.refl _) (.cons (.refl _) (.cons (.refl _) (.cons (.refl _) (.cons (.refl _) (.cons (.refl _) (.cons (.refl _) (.cons (.refl _) (.cons (.refl _) (.cons (.refl _) (.cons (.refl _) (.cons (.refl _) (.cons (.refl _) (.cons (.refl _) (.cons (.refl _) (.cons j5 (.cons j6 .nil))))))))))))))))).2;exact .hJ _ _ rfl (zE.cons lo (.cons (.refl _) (.cons (.refl _) .nil))).2
def aar:CF GL f156 [] [1,4,17,19,23,28,30,31] 156:=jo
def L2(l:List Name)(j:Nat)(h:j<l.length):(lz l)[2*j]?=some l[j].J/\(lz l)[2*j+1]?=some l[j].seq:=by
 induction l generalizing j with
 |nil=>cases h
 |cons a r ih=>
  cases j with
  |zero=>exact⟨rfl,rfl⟩
  |succ j=>exact ih j (by simpa using h)
def Reads.trans{id:Nat}{b:T}{h f h2:aK}{x y:Nat}(a:Reads id b h x f)(d:Reads id b f y h2):Reads id b h y h2:=
 ⟨by rw[d.1,a.1];funext i;unfold eQ;split<;>rfl,by rw[d.2.1,a.2.1],by rw[d.2.2,a.2.2]⟩
def lkH:Option Loc->Option Loc
 |some l=>if PE l=true then none else some l
 |none=>none
def yF:(∀(s:St) h t,(s.cu h).lk t=lkH (s.lk t))/\(∀(s:St) h i j k,(s.cu h).fc i j k=s.fc i j k)/\lkH none=none/\(∀t,lkH (some (.var t))=some (.var t))/\(∀a b c,lkH (some (.cell a b c))=some (.cell a b c)):=
 ⟨λs h t=>by unfold lkH St.cu iP;rfl,λ_ _ _ _ _=>rfl,rfl,λ_=>rfl,λ_ _ _=>rfl⟩
def Sx(id:Nat)(e:aW)(a2:e.enc)(hz:e.plain)(e5:e.cU.length<=16)(b r:T)(a:Nat)(E:aK)(hb:E.box id=some [dc b,I a])(e6:b.drop a=pj e++r)(ho:a<=b.length)(a3:b.length<=10000000):
 aI 156 [.bp id 0] E λv _ e7=>v=e.v/\Reads id b E (a+(pj e).length) e7:=by
 have hlen:=aq List.length e6;rw[aS,pj,qX,ae,ae,ae]at hlen;have d0:b.drop a=cX [e.J,e.seq,e.eo,e.kind]++(cX (lz e.C)++(kg e++r)):=by rw[e6];simp only[pj,qX,aF]
 have fa:=mv d0;have ad:=mv fa;have R:=s5 e.C;have h0:=a2.C;have hq:=xF id b _ a [e.J,e.seq,e.eo,e.kind] E hb d0 ho a3 a2.head;have hr:=λE hb=>xF id b _ _ (lz e.C) E hb fa av a3 a2.VH;have a9:=xE;have hs:=kT e.kind;have ht:(pj e).length=(cX [e.J,e.seq,e.eo,e.kind]).length+(cX (lz e.C)).length+(kg e).length:=by simp only[pj,qX,ae]
 rw[ht];generalize (cX [e.J,e.seq,e.eo,e.kind]).length=L at*
 generalize (cX (lz e.C)).length=N at*
 refine eN hm aar.ok (bE rfl) ?_;repeat' simp only[gE,simprocAttr]
 refine bz rfl hq ?_ ?_ ?_
 .rfl
 .refine mV ?_;simp only[ee]<;>rfl
 rintro _ _ fr ⟨rfl,fs⟩;have b2:=fs.1;have fB:fr.box id=some [dc b,I (a+L:Nat)]:=by rw[b2,bh]
 repeat' first|refine qp ?_|refine lq a9 ?_
 refine bz rfl (hr _ fB) ?_ ?_ ?_
 .rfl
 .refine mV ?_;simp only[ee]<;>rfl
 rintro _ _ b3 ⟨rfl,gb⟩;have gf:=gb.1;have bv:=fs.trans gb;have a1:b3.box id=some [dc b,I (a+L+N:Nat)]:=by rw[gf,bh]
 have el:Int.tmod ((lz e.C).length:Int) 2=0:=by rw[R,show((2*e.C.length:Nat):Int)=2*(e.C.length:Int)from by omega];exact Int.mul_tmod_right _ _
 repeat' first|simp only[gE,simprocAttr,el]|refine lq a9 ?_
 refine dT rfl rfl (λ(j:Nat) t=>j<=e.C.length/\t.Z 6=I (2*j:Nat)/\t.E=b3/\t.G 2=1/\t.loc 2 0=[I 0,I 0,I 0,I 0,V.aP,I 0,I 0,I 0,I 0,I 0,I 0,I 0,I 0,I 0,I 0,I 0,I 0,I 0,S [],V.aP,V.aP,V.aP,S [],I 0,I 0,S [],V.aP,I 0,I 0,I 0,V.aP,I 0]/\t.G 4=1/\
  ∃ab,t.loc 4 0=[I e.J,I e.seq,I e.eo,I e.kind,ab,I 0,I 0,I 0,I 0,I 0,I 0,I 0,I 0,I 0,I 0,I 0,I 0,I 0,S [],V.aP,V.aP,V.aP,S [],I 0,I 0,S [],V.aP,I 0,I 0,I 0,V.aP,I 0]/\((j=0/\ab=.aP)\/(0<j/\ab=ka (e.C.take j)/\t.fc 4 0 4=true))) (λj=>e.C.length-j) 0 ?_ ?_
 .refine⟨aL _,?_⟩;simp only[sE,simprocAttr,aQ,aw,ay];exact⟨.aP,rfl,.inl rfl⟩
 rintro j t ⟨h3,H,d,q,y,z,ab,l,df⟩ ai;have A:t.Z 0=.bp id 0:=by rw[ai 0 du];rfl
 have o:t.Z 2=.lp 2 0 0:=by rw[ai 2 du];rfl
 have D:t.Z 4=.lp 4 0 0:=by rw[ai 4 du];rfl
 have K:t.Z 5=fq (lz e.C):=by rw[ai 5 du];rfl
 rcases am j e.C.length with Q|Q
 .obtain⟨hu,hw⟩:=L2 e.C j Q;have g1:=(aH.1 hu).2;have gk:=(aH.1 hw).2;have hy:((2*j:Nat)+1:Int).toNat=2*j+1:=av;rcases df with⟨rfl,rfl⟩|⟨df,rfl,gn⟩
  .repeat' first|simp(disch:=try exact om) only[gE,simprocAttr,R,g1,gk,H,d,q,y,z,l,A,o,D,K,xZ]|refine cs ?_ ?_<;>intro h<;>try omega
   all_goals
    refine⟨0+1,⟨?_⟩,⟨av⟩⟩;simp only[da,simprocAttr,H,d,q,y,z,l,A,o,D,K,xZ,aQ,aw,ay]
   all_goals
    refine⟨Q,_,rfl,.inr ?_⟩;rw[show e.C.take 1=[e.C[0]]from by rw[show(1:Nat)=0+1 from rfl,br Q];rfl];rfl
  .repeat' first|simp(disch:=try exact om) only[gE,simprocAttr,R,g1,gk,hy,H,d,q,y,z,l,gn,A,o,D,K,xZ]|refine cs ?_ ?_<;>intro h<;>try omega
   all_goals
    refine⟨j+1,⟨?_⟩,⟨av⟩⟩;simp only[da,simprocAttr,H,d,q,y,z,l,gn,A,o,D,K,xZ,aQ,aw,ay]
   all_goals
    refine⟨Q,aq (V.int .i64) av,_,rfl,.inr ⟨av,?_⟩⟩;rw[br Q,az];rfl
 .obtain rfl:j=e.C.length:=av;rw[bg]at df;have PM:ab.one=true/\V.Le ab (ka e.C):=by
   rcases df with⟨h,rfl⟩|⟨_,rfl,_⟩
   .exact YB
   .exact⟨rfl,.refl _⟩
  have f:=PM.1;have hB:af 147 [I 0] (.agg [B true,B false,B false,B false,B false]):=kT 0;have hD:af 147 [I 1] (.agg [B false,B false,B false,B false,B false]):=kT 1;have hF:af 147 [I 2] (.agg [B false,B true,B false,B false,B false]):=kT 2;have hH:af 147 [I 3] (.agg [B false,B false,B true,B true,B false]):=kT 3;have hM:af 147 [I 4] (.agg [B false,B false,B true,B true,B false]):=kT 4;have hO:af 147 [I 5] (.agg [B false,B false,B true,B false,B true]):=kT 5;have hQ:af 147 [I 6] (.agg [B false,B false,B true,B false,B true]):=kT 6;clear ai hs;by_cases bu:e.kind=3\/e.kind=4
  .have u:af 147 [I e.kind] (.agg [B false,B false,B true,B true,B false]):=by
    rcases bu with h|h<;>rw[h]
    .exact hH
    .exact hM
   have P:kg e=cX [e.id.J,e.id.seq,e.id.k]++(cC e.cU.length++e.cU.flatMap gK):=by
    unfold kg;rcases bu with h|h<;>rw[h]<;>rfl
   rw[P,aF,aF]at ad;rw[P,ae,ae]at hlen;have dr:=mv ad;have hR:=mv dr;have dW:∀n∈[e.id.J,e.id.seq,e.id.k],jG n:=λn gp=>a2.id n (by
    simp only[bn,cE,gL]at gp ⊢
    rcases gp with h|h|h
    .exact .inl h
    .exact .inr (.inl h)
    .exact .inr (.inr (.inl h)))
   have et:=λE hb=>xF id b _ _ [e.id.J,e.id.seq,e.id.k] E hb ad av a3 dW;have eK:=λE hb=>Ke id b _ _ e.cU.length 16 E hb dr av a3 e5 du;generalize ha:(cX [e.id.J,e.id.seq,e.id.k]).length=bY at*
   generalize hc:(cC (e.cU.length:Int)).length=b5 at*
   repeat' first|simp only[gE,simprocAttr,R,H,d,q,y,z,l,A,o,D,K,f,aQ,aw,ay]|refine cs ?_ ?_<;>intro h<;>try omega|refine lq u ?_|refine ei ?_
   refine bz rfl (et _ (by(try simp only[da,d]);exact a1)) ?_ ?_ ?_
   .rfl
   .refine mV ?_;simp only[ee]<;>rfl
   rintro _ _ bi ⟨rfl,ac⟩;have a4:=bv.trans (by(try simp only[da,d]at ac);exact ac);have b6:=a4.1;have b7:bi.box id=some [dc b,I (a+L+N+bY:Nat)]:=by rw[b6,bh]
   repeat' first|simp(disch:=try exact om) only[gE,simprocAttr,H,d,q,y,z,l,A,o,D,K,f,aQ,aw,ay]|refine lq a9 ?_
   refine bz rfl (eK _ (by(try simp only[sE,d]);exact b7)) ?_ ?_ ?_
   .rfl
   .refine mV ?_;simp only[ee]<;>rfl
   rintro _ _ hd ⟨rfl,ca⟩;have e1:=a4.trans (by(try simp only[sE,d]at ca);exact ca);repeat' simp only[gE,simprocAttr,H,d,q,y,z,l,A,o,D,K,f,aQ,aw,ay]
   refine dT rfl rfl (λ(j:Nat) t=>j<=e.cU.length/\t.Z 167=I j/\Reads id b E (a+L+N+bY+b5+((e.cU.take j).flatMap gK).length) t.E/\t.G 2=1/\t.loc 2 0=[I 0,I 0,I 0,I 0,V.aP,I 0,I 0,I 0,I 0,I 0,I 0,I 0,I 0,I 0,I 0,I 0,I 0,I 0,S [],V.aP,V.aP,V.aP,S [],I 0,I 0,S [],V.aP,I 0,I 0,I 0,V.aP,I 0]/\t.G 4=1/\
    ∃bs,t.loc 4 0=[I e.J,I e.seq,I e.eo,I e.kind,ab,I 0,I 0,I 0,I 0,I 0,I 0,I 0,I 0,I 0,I 0,I 0,I 0,I 0,S [],V.aP,V.aP,V.aP,S [],I 0,I 0,S [],V.aP,I e.id.J,I e.id.seq,I e.id.k,bs,I 0]/\((j=0/\bs=.aP)\/(0<j/\bs=nt (e.cU.take j)/\t.fc 4 0 30=true))) (λj=>e.cU.length-j) 0 ?_ ?_
   .refine⟨aL _,?_⟩;simp only[sE,simprocAttr,H,d,q,y,z,l,A,o,D,K,f,aQ,aw,ay];exact⟨e1,.aP,rfl,.inl rfl⟩
   rintro j cb ⟨h4,a5,cc,aA,aB,aC,bs,aD,ds⟩ ai;have a6:cb.Z 0=.bp id 0:=by rw[ai 0 du];exact A
   have a0:cb.Z 2=.lp 2 0 0:=by rw[ai 2 du];exact o
   have a7:cb.Z 4=.lp 4 0 0:=by rw[ai 4 du];exact D
   have a8:cb.Z 166=I e.cU.length:=by rw[ai 166 du];rfl
   have dE:((e.cU.take j).flatMap gK).length+((e.cU.drop j).flatMap gK).length=(e.cU.flatMap gK).length:=by rw[<-ae,<-cx,b8]
   have b2:=cc.1;have ea:cb.E.box id=some [dc b,I (a+L+N+bY+b5+((e.cU.take j).flatMap gK).length:Nat)]:=by rw[b2,bh]
   have ch:b.drop (a+L+N+bY+b5+((e.cU.take j).flatMap gK).length)=(e.cU.drop j).flatMap gK++r:=by
    apply mv;rw[<-aF,<-cx,b8];exact hR
   rcases am j e.cU.length with Q|Q
   .rw[bG Q,ck]at ch dE;have bl:((e.cU.take (j+1)).flatMap gK).length=((e.cU.take j).flatMap gK).length+(gK e.cU[j]).length:=by rw[br Q,cx,ae];simp
    have ci:=hz.pid _ (ah Q);have he:=a2.path _ (ah Q);have cp:e.cU.take (j+1)=e.cU.take j++[e.cU[j]]:=br Q;generalize e.cU[j]=p at ch dE bl ci he cp;generalize e2:(if p.main=true then 1 else 0:Nat)=mn at*
    have eb:gK p=cC (mn:Nat)++g7 p.path:=by rw[gK,<-e2,mJ];cases p.main<;>rfl
    have hf:mn<=1:=by rw[<-e2];split<;>decide
    have ed:(((mn:Nat):Int)==1)=p.main:=by rw[<-e2];cases p.main<;>rfl
    rw[eb,aF,aF]at ch;rw[eb]at bl dE;rw[ae]at bl;rw[ae,ae]at dE;have hg:=mv ch;have dU:=λE hb=>Ke id b _ _ mn 1 E hb ch av a3 hf du;have hh:=λE hb=>Kd id b _ _ p.path E hb hg av a3;rcases ds with⟨rfl,rfl⟩|⟨ds,rfl,hi⟩
    .repeat' first|simp only[gE,simprocAttr,a5,aA,aB,aC,aD,a6,a0,a7,a8,aQ,aw,ay]|refine cs ?_ ?_<;>intro h<;>try omega
     refine bz rfl (dU _ (by(try simp only[da]);exact ea)) ?_ ?_ ?_
     .rfl
     .refine mV ?_;simp only[ee]<;>rfl
     rintro _ _ hj ⟨rfl,c1⟩;have c2:=cc.trans (by(try simp only[da]at c1);exact c1);have c5:=c2.1;have c6:=(nF c5 id).trans (bh _ _ _);repeat' first|simp only[gE,simprocAttr,yF,a5,aA,aB,aC,aD,a6,a0,a7,a8,aQ,aw,ay,ed]|refine e9 ?_ ?_
     all_goals
      refine bz rfl (hh _ (by(try simp only[sE]);exact c6)) ?_ ?_ ?_
      .rfl
      .refine mV ?_;simp only[ee]<;>rfl
      rintro _ _ c7 ⟨rfl,bo⟩;have c9:=c2.trans (by(try simp only[sE]at bo);exact bo);have dd:Reads id b E (a+L+N+bY+b5+((e.cU.take (0+1)).flatMap gK).length) c7:=by rw[bl,<-cn,<-cn];exact c9
      repeat' simp(disch:=try exact om) only[gE,simprocAttr,yF,a5,aA,aB,aC,aD,a6,a0,a7,a8,aQ,aw,ay,xZ]
     all_goals
      refine⟨0+1,⟨?_⟩,⟨av⟩⟩;simp only[sE,simprocAttr,yF,a5,aA,aB,aC,aD,a6,a0,a7,a8,aQ,aw,ay,xZ];refine⟨Q,dd,_,rfl,.inr ?_⟩;rw[show e.cU.take 1=[p]from cp];show _=V.sl 5 [Post.v p];rw[Post.v,ci];rfl
    .repeat' first|simp only[gE,simprocAttr,a5,aA,aB,aC,aD,a6,a0,a7,a8,aQ,aw,ay]|refine cs ?_ ?_<;>intro h<;>try omega
     refine bz rfl (dU _ (by(try simp only[da]);exact ea)) ?_ ?_ ?_
     .rfl
     .refine mV ?_;simp only[ee]<;>rfl
     rintro _ _ hj ⟨rfl,c1⟩;have c2:=cc.trans (by(try simp only[da]at c1);exact c1);have c5:=c2.1;have c6:=(nF c5 id).trans (bh _ _ _);repeat' first|simp only[gE,simprocAttr,yF,a5,aA,aB,aC,aD,a6,a0,a7,a8,aQ,aw,ay,ed]|refine e9 ?_ ?_
     all_goals
      refine bz rfl (hh _ (by(try simp only[sE]);exact c6)) ?_ ?_ ?_
      .rfl
      .refine mV ?_;simp only[ee]<;>rfl
      rintro _ _ c7 ⟨rfl,bo⟩;have c9:=c2.trans (by(try simp only[sE]at bo);exact bo);have dd:Reads id b E (a+L+N+bY+b5+((e.cU.take (j+1)).flatMap gK).length) c7:=by rw[bl,<-cn,<-cn];exact c9
      repeat' simp(disch:=try exact om) only[gE,simprocAttr,yF,a5,aA,aB,aC,aD,a6,a0,a7,a8,aQ,aw,ay,hi,xZ]
     all_goals
      refine⟨j+1,⟨?_⟩,⟨av⟩⟩;simp only[sE,simprocAttr,yF,a5,aA,aB,aC,aD,a6,a0,a7,a8,aQ,aw,ay,hi,xZ];refine⟨Q,aq (V.int .i64) (by omega),dd,_,rfl,.inr ⟨by omega,?_⟩⟩;rw[cp,az];show _=V.sl 5 (List.map Post.v (e.cU.take j)++[Post.v p]);rw[Post.v,ci];rfl
   .obtain rfl:j=e.cU.length:=av;rw[bg]at cc ds;have yR:bs.one=true/\V.Le bs (nt e.cU):=by
     rcases ds with⟨h,rfl⟩|⟨_,rfl,_⟩
     .exact YB
     .exact⟨rfl,.refl _⟩
    have e3:=yR.1;repeat' first|simp only[gE,simprocAttr,a5,aA,aB,aC,aD,a6,a0,a7,a8,aQ,aw,ay,f,e3]|refine cs ?_ ?_<;>intro h<;>try omega
    have hv:e.v=.agg [I e.J,I e.seq,I e.eo,I e.kind,ka e.C,I 0,I 0,I 0,I 0,I 0,I 0,I 0,I 0,I 0,I 0,I 0,I 0,I 0,S [],eZ [],jz [],eW [],S [],I 0,I 0,S [],eZ [],I e.id.J,I e.id.seq,I e.id.k,nt e.cU,I 0]:=by
     simp only[aW.v,hz.op av,hz.dy av,hz.n av av];rfl
    refine⟨nE,.agg [I e.J,I e.seq,I e.eo,I e.kind,ab,I 0,I 0,I 0,I 0,I 0,I 0,I 0,I 0,I 0,I 0,I 0,I 0,I 0,S [],V.aP,V.aP,V.aP,S [],I 0,I 0,S [],V.aP,I e.id.J,I e.id.seq,I e.id.k,bs,I 0],false,jH,_,_,false,eA (by(first|(simp(disch:=try exact om) only[ee,simprocAttr,bx,bQ,a0,aA,aB,aC,aD,aQ,aw,ay]<;>rfl)|rfl)) rfl,.refl _,?_,λh=>(by cases h),rfl,?_⟩
    .show V.lF jH _ e.v;rw[hv];exact .agg _ _ rfl (zE.cons (.refl _) (.cons (.refl _) (.cons (.refl _) (.cons (.refl _) (.cons (PM.2.Mr _) (.cons (.refl _) (.cons (.refl _) (.cons (.refl _) (.cons (.refl _) (.cons (.refl _) (.cons (.refl _) (.cons (.refl _) (.cons (.refl _) (.cons (.refl _) (.cons (.refl _) (.cons (.refl _) (.cons (.refl _) (.cons (.refl _) (.cons (.refl _) (.cons (.aP _) (.cons (.aP _) (.cons (.aP _) (.cons (.refl _) (.cons (.refl _) (.cons (.refl _) (.cons (.refl _) (.cons (.aP _) (.cons (.refl _) (.cons (.refl _) (.cons (.refl _) (.cons (yR.2.Mr _) (.cons (.refl _) .nil)))))))))))))))))))))))))))))))).2
    .rw[P,ae,ae,ha,hc,<-cn,<-cn,<-cn,<-cn];exact cc
  rcases a2.kind with hK|hK|hK|hK|hK|hK|hK
  all_goals
   rw[hK]at l
  .have P:kg e=oN e.op:=by unfold kg;rw[hK];rfl
   rw[P]at ad hlen;have dU:=Sw e.op a2.op r (b.drop (a+L+N)) ad (by rw[aS];omega);have hcut:List.take (List.length b-(a+L+N)) (List.drop (a+L+N) (List.map (λb:UInt8=>V.int IntKind.u8 (b.toNat:Int)) b))=List.map (λb:UInt8=>V.int IntKind.u8 (b.toNat:Int)) (b.drop (a+L+N)):=by rw[aE bT,gG]
   repeat' first|simp(disch:=try exact om) only[gE,simprocAttr,R,hcut,H,d,q,y,z,l,A,o,D,K,f,aQ,aw,ay,a1]|refine cs ?_ ?_<;>intro h<;>try omega|refine lq hB ?_|refine lq dU ?_|refine lq a9 ?_|refine ei ?_
   refine cJ (n:=1) (off:=1) (cells:=[dc b,I (a+L+N:Nat)]) ?_ ?_ bT λhS te tc tl tb tm e4 h5=>?_
   ·(try simp only[da,d]);exact a1
   ·(try simp only[da,d]);rfl
   revert te tc tl tb tm e4
   simp only[sE,simprocAttr,H,d,q,y,z,l,A,o,D,K,aQ,aw,ay];intro te tc tl tb tm e4;repeat' simp(disch:=omega) only[gE,simprocAttr,te,tc,tl,H,d,q,y,z,l,A,o,D,K]
   have ac:Reads id b b3 (a+L+N+(oN e.op).length) hS.E:=⟨by rw[tb,Int.natCast_add (a+L+N) (oN e.op).length],tm,e4⟩;have hv:e.v=.agg [I e.J,I e.seq,I e.eo,I 0,ka e.C,I e.op.kind,I e.op.W.J,I e.op.W.seq,I e.op.W.k,I e.op.to.J,I e.op.to.seq,I e.op.to.k,I e.op.spot.i9,I e.op.spot.k0,I e.op.spot.idx,I e.op.n,I e.op.eD,I e.op.en,S e.op.bN,eZ e.op.F,jz e.op.cW,eW e.op.C,S [],I 0,I 0,S [],eZ [],I 0,I 0,I 0,nt [],I 0]:=by
    simp only[aW.v,hK,hz.dy av,hz.id av av av av,hz.cU av av,hz.n av av];rfl
   refine⟨nE,.agg [I e.J,I e.seq,I e.eo,I 0,ab,I e.op.kind,I e.op.W.J,I e.op.W.seq,I e.op.W.k,I e.op.to.J,I e.op.to.seq,I e.op.to.k,I e.op.spot.i9,I e.op.spot.k0,I e.op.spot.idx,I e.op.n,I e.op.eD,I e.op.en,S e.op.bN,eZ e.op.F,jz e.op.cW,eW e.op.C,S [],I 0,I 0,S [],V.aP,I 0,I 0,I 0,V.aP,I 0],false,jH,_,_,false,eA (by(first|(simp(disch:=try exact om) only[ee,simprocAttr,bx,bQ,te,tc,tl,cw,cP,o,q,y,z,l,aQ,aw,ay]<;>rfl)|rfl)) rfl,.refl _,?_,λh=>(by cases h),rfl,?_⟩
   .show V.lF jH _ e.v;rw[hv];exact .agg _ _ rfl (zE.cons (.refl _) (.cons (.refl _) (.cons (.refl _) (.cons (.refl _) (.cons (PM.2.Mr _) (.cons (.refl _) (.cons (.refl _) (.cons (.refl _) (.cons (.refl _) (.cons (.refl _) (.cons (.refl _) (.cons (.refl _) (.cons (.refl _) (.cons (.refl _) (.cons (.refl _) (.cons (.refl _) (.cons (.refl _) (.cons (.refl _) (.cons (.refl _) (.cons (.refl _) (.cons (.refl _) (.cons (.refl _) (.cons (.refl _) (.cons (.refl _) (.cons (.refl _) (.cons (.refl _) (.cons (.aP _) (.cons (.refl _) (.cons (.refl _) (.cons (.refl _) (.cons (.aP _) (.cons (.refl _) .nil)))))))))))))))))))))))))))))))).2
   .rw[P,<-cn,<-cn];exact bv.trans ac
  .repeat' first|simp only[gE,simprocAttr,R,H,d,q,y,z,l,A,o,D,K,f,aQ,aw,ay]|refine cs ?_ ?_<;>intro h<;>try omega|refine lq hD ?_|refine ei ?_
   have hv:e.v=.agg [I e.J,I e.seq,I e.eo,I 1,ka e.C,I 0,I 0,I 0,I 0,I 0,I 0,I 0,I 0,I 0,I 0,I 0,I 0,I 0,S [],eZ [],jz [],eW [],S [],I 0,I 0,S [],eZ [],I 0,I 0,I 0,nt [],I 0]:=by
    simp only[aW.v,hK,hz.op av,hz.dy av,hz.id av av av av,hz.cU av av,hz.n av av];rfl
   have P:kg e=[]:=by unfold kg;rw[hK];rfl
   refine⟨nE,.agg [I e.J,I e.seq,I e.eo,I 1,ab,I 0,I 0,I 0,I 0,I 0,I 0,I 0,I 0,I 0,I 0,I 0,I 0,I 0,S [],V.aP,V.aP,V.aP,S [],I 0,I 0,S [],V.aP,I 0,I 0,I 0,V.aP,I 0],false,jH,_,_,false,eA (by(first|(simp(disch:=try exact om) only[ee,simprocAttr,bx,o,q,y,z,l,aQ,aw,ay]<;>rfl)|rfl)) rfl,.refl _,?_,λh=>(by cases h),rfl,?_⟩
   .exact wb7
   .rw[P,show a+(L+N+([]:T).length)=a+L+N from by rw[aX];omega];exact bv
  .have P:kg e=cX [e.dy.kind,e.dy.en]++g7 (e.dy.name::e.dy.see::e.dy.eH):=by unfold kg;rw[hK];rfl
   rw[P,aF]at ad;rw[P,ae]at hlen;have dr:=mv ad;have et:=λE hb=>xF id b _ _ [e.dy.kind,e.dy.en] E hb ad av a3 a2.dy;have eK:=λE hb=>Kd id b _ _ (e.dy.name::e.dy.see::e.dy.eH) E hb dr av a3;repeat' first|simp only[gE,simprocAttr,R,H,d,q,y,z,l,A,o,D,K,f,aQ,aw,ay]|refine cs ?_ ?_<;>intro h<;>try omega|refine lq hF ?_|refine ei ?_
   refine bz rfl (et _ (by(try simp only[da,d]);exact a1)) ?_ ?_ ?_
   .rfl
   .refine mV ?_;simp only[ee]<;>rfl
   rintro _ _ bi ⟨rfl,ac⟩;have a4:=bv.trans (by(try simp only[da,d]at ac);exact ac);have b6:=a4.1;have b7:bi.box id=some [dc b,I (a+L+N+(cX [e.dy.kind,e.dy.en]).length:Nat)]:=by rw[b6,bh]
   repeat' first|simp only[gE,simprocAttr,H,d,q,y,z,l,A,o,D,K,f,aQ,aw,ay]|refine lq a9 ?_
   refine bz rfl (eK _ (by(try simp only[da,d]);exact b7)) ?_ ?_ ?_
   .rfl
   .refine mV ?_;simp only[ee]<;>rfl
   rintro _ _ hd ⟨rfl,ca⟩;have e1:=a4.trans (by(try simp only[da,d]at ca);exact ca);have h2:((e.dy.name::e.dy.see::e.dy.eH).length:Int)=e.dy.eH.length+2:=by simp only[aM];omega
   have hk:decide (((e.dy.eH.length+1+1:Nat):Int)>=2)=true:=dk av;repeat' first|simp(disch:=try exact om) only[gE,simprocAttr,hk,H,d,q,y,z,l,A,o,D,K,f,aQ,aw,ay]|refine lq a9 ?_
   have hl:List.take e.dy.eH.length (List.map S e.dy.eH)=List.map S e.dy.eH:=aE bT;have hv:e.v=.agg [I e.J,I e.seq,I e.eo,I 2,ka e.C,I 0,I 0,I 0,I 0,I 0,I 0,I 0,I 0,I 0,I 0,I 0,I 0,I 0,S [],eZ [],jz [],eW [],S e.dy.name,I e.dy.kind,I e.dy.en,S e.dy.see,eZ e.dy.eH,I 0,I 0,I 0,nt [],I 0]:=by
    simp only[aW.v,hK,hz.op av,hz.id av av av av,hz.cU av av,hz.n av av];rfl
   refine⟨nE,.agg [I e.J,I e.seq,I e.eo,I 2,ab,I 0,I 0,I 0,I 0,I 0,I 0,I 0,I 0,I 0,I 0,I 0,I 0,I 0,S [],V.aP,V.aP,V.aP,S e.dy.name,I e.dy.kind,I e.dy.en,S e.dy.see,eZ e.dy.eH,I 0,I 0,I 0,V.aP,I 0],false,jH,_,_,false,eA (by(first|(simp(disch:=try exact om) only[ee,simprocAttr,bx,bQ,hl,cw,cP,o,q,y,z,l,aQ,aw,ay]<;>rfl)|rfl)) rfl,.refl _,?_,λh=>(by cases h),rfl,?_⟩
   .show V.lF jH _ e.v;rw[hv];exact .agg _ _ rfl (zE.cons (.refl _) (.cons (.refl _) (.cons (.refl _) (.cons (.refl _) (.cons (PM.2.Mr _) (.cons (.refl _) (.cons (.refl _) (.cons (.refl _) (.cons (.refl _) (.cons (.refl _) (.cons (.refl _) (.cons (.refl _) (.cons (.refl _) (.cons (.refl _) (.cons (.refl _) (.cons (.refl _) (.cons (.refl _) (.cons (.refl _) (.cons (.refl _) (.cons (.aP _) (.cons (.aP _) (.cons (.aP _) (.cons (.refl _) (.cons (.refl _) (.cons (.refl _) (.cons (.refl _) (.cons (.refl _) (.cons (.refl _) (.cons (.refl _) (.cons (.refl _) (.cons (.aP _) (.cons (.refl _) .nil)))))))))))))))))))))))))))))))).2
   .rw[P,ae,<-cn,<-cn,<-cn];exact e1
  .exact absurd (.inl hK) bu
  .exact absurd (.inr hK) bu
  all_goals
   have P:kg e=cX [e.id.J,e.id.seq,e.id.k,e.n]:=by unfold kg;rw[hK];rfl
   rw[P]at ad hlen;have hn:=λE hb=>xF id b _ _ [e.id.J,e.id.seq,e.id.k,e.n] E hb ad av a3 a2.id
  .repeat' first|simp only[gE,simprocAttr,R,H,d,q,y,z,l,A,o,D,K,f,aQ,aw,ay]|refine cs ?_ ?_<;>intro h<;>try omega|refine lq hO ?_|refine ei ?_
   refine bz rfl (hn _ (by(try simp only[da,d]);exact a1)) ?_ ?_ ?_
   .rfl
   .refine mV ?_;simp only[ee]<;>rfl
   rintro _ _ bi ⟨rfl,ac⟩;have a4:=bv.trans (by(try simp only[da,d]at ac);exact ac);repeat' first|simp(disch:=try exact om) only[gE,simprocAttr,H,d,q,y,z,l,A,o,D,K,f,aQ,aw,ay]|refine lq a9 ?_
   have hv:e.v=.agg [I e.J,I e.seq,I e.eo,I 5,ka e.C,I 0,I 0,I 0,I 0,I 0,I 0,I 0,I 0,I 0,I 0,I 0,I 0,I 0,S [],eZ [],jz [],eW [],S [],I 0,I 0,S [],eZ [],I e.id.J,I e.id.seq,I e.id.k,nt [],I e.n]:=by
    exact Tp
   refine⟨nE,.agg [I e.J,I e.seq,I e.eo,I 5,ab,I 0,I 0,I 0,I 0,I 0,I 0,I 0,I 0,I 0,I 0,I 0,I 0,I 0,S [],V.aP,V.aP,V.aP,S [],I 0,I 0,S [],V.aP,I e.id.J,I e.id.seq,I e.id.k,V.aP,I e.n],false,jH,_,_,false,eA (by(first|(simp(disch:=try exact om) only[ee,simprocAttr,bx,bQ,o,q,y,z,l,aQ,aw,ay]<;>rfl)|rfl)) rfl,.refl _,?_,λh=>(by cases h),rfl,?_⟩
   .exact wb7
   .rw[P,<-cn,<-cn];exact a4
  .repeat' first|simp only[gE,simprocAttr,R,H,d,q,y,z,l,A,o,D,K,f,aQ,aw,ay]|refine cs ?_ ?_<;>intro h<;>try omega|refine lq hQ ?_|refine ei ?_
   refine bz rfl (hn _ (by(try simp only[da,d]);exact a1)) ?_ ?_ ?_
   .rfl
   .refine mV ?_;simp only[ee]<;>rfl
   rintro _ _ bi ⟨rfl,ac⟩;have a4:=bv.trans (by(try simp only[da,d]at ac);exact ac);repeat' first|simp(disch:=try exact om) only[gE,simprocAttr,H,d,q,y,z,l,A,o,D,K,f,aQ,aw,ay]|refine lq a9 ?_
   have hv:e.v=.agg [I e.J,I e.seq,I e.eo,I 6,ka e.C,I 0,I 0,I 0,I 0,I 0,I 0,I 0,I 0,I 0,I 0,I 0,I 0,I 0,S [],eZ [],jz [],eW [],S [],I 0,I 0,S [],eZ [],I e.id.J,I e.id.seq,I e.id.k,nt [],I e.n]:=by
    exact Tp
   refine⟨nE,.agg [I e.J,I e.seq,I e.eo,I 6,ab,I 0,I 0,I 0,I 0,I 0,I 0,I 0,I 0,I 0,I 0,I 0,I 0,I 0,S [],V.aP,V.aP,V.aP,S [],I 0,I 0,S [],V.aP,I e.id.J,I e.id.seq,I e.id.k,V.aP,I e.n],false,jH,_,_,false,eA (by(first|(simp(disch:=try exact om) only[ee,simprocAttr,bx,bQ,o,q,y,z,l,aQ,aw,ay]<;>rfl)|rfl)) rfl,.refl _,?_,λh=>(by cases h),rfl,?_⟩
   .exact wb7
   .rw[P,<-cn,<-cn];exact a4
def aas:CF GL f104 [] [] 104:=jo
def xM{a b:Int}(h:0<=a/\a<=b):af 150 [I a,I b] (B true):=by
 have:=J0 a b;rwa [dk h]at this
def Ks(e:aW)(f:e.good):af 104 [e.v] (I 0):=by
 have j:=f.plain;have Q:=Km e.op f.enc.op;have q:=wz e;have c3:=JY e.name;rw[f.name]at c3;have c4:=xM f.eo;have R:=xM f.n;have ab:=RD e.op op0 f.ok.2.1;have ac:=Rz e.dy TN (aT f.ok.2.2.1.2.2.1 (by decide));have a7:=f.VI;have a8:=f.Kn;have a9:=f.tC;have bi:=f.opl;obtain⟨_,_,⟨ad,ai,aA,aB⟩,_,aC⟩:=f.ok;have bl:e.kind=0\/e.kind=1\/e.kind=2\/e.kind=3\/e.kind=4\/e.kind=5\/e.kind=6:=f.enc.kind;have aD:af 150 [I e.kind,I 6] (B true):=xM (by omega);have a0:∀(k:Nat)(h:k<e.C.length),af 149 [e.C[k].v] (B true):=λk h=>by
  have:=JY e.C[k];rwa [(f.Sd _ (ah h)).1]at this
 have a1:∀(k:Nat)(h:k+1<e.C.length),af 122 [e.C[k].v,e.C[k+1].v] (B true):=λk h=>by
  have:=J1 e.C[k] e.C[k+1];rwa [f.C k h]at this
 have u:=kT e.kind;unfold Ol at u;have H:e.kind≠3->e.kind≠4->e.kind≠5->e.kind≠6->(e.id.J==0&&(e.id.seq==0&&e.id.k==0))=true:=λa b c d=>by rw[j.id a b c d];rfl
 have zp:e.kind≠3->e.kind≠4->e.cU.length=0:=λa b=>by rw[j.cU a b];rfl
 have zn:=j.n;have K:=λt (r:iS t=true) (y:t.length<=1000000)=>(by have:=TM t y;rwa [r]at this:af 153 [S t] (B true));have o:=λl (r:l.all iS=true) (y:l.length<=1000000) (hb:∀t∈l,t.length<=1000000)=>(by have:=RO TM l y hb;rwa [r]at this:af 154 [eZ l] (B true));refine pq aas.ok rfl (by simp only[dx]) ?_;simp only[aW.v];repeat any_goals first|simp only[dt,simprocAttr,aW.v,Op.v,Op.c,gU.v]|(first|refine bZ (λh=>?_) (λh=>?_)|refine c8 (λh=>?_) (λh=>?_))<;>((try simp only[bM,bB]at h);(try simp only[h]);(try simp only[jg]at h);(try omega))|((first|refine i0 u ?_ ?_|refine i0 Q ?_ ?_|refine i0 q ?_ ?_|refine i0 c3 ?_ ?_);·simp only[ee,simprocAttr]<;>rfl)|(refine i0 c4 ?_ ?_;·simp only[ee,simprocAttr]<;>rfl)|(refine i0 aD ?_ ?_;·simp only[ee,simprocAttr]<;>rfl)|(refine i0 R ?_ ?_;·simp only[ee,simprocAttr]<;>rfl)|(refine jj (ac) ?_ ?_;(·(repeat(first|exact aV.nil|(refine aV.cons (ak ?_) ?_;(simp only[ee,simprocAttr]<;>rfl))|(refine aV.cons ?_ ?_;(·(apply nf;(·(simp only[ee,simprocAttr]<;>rfl));(·(repeat(first|exact aV.nil|refine aV.cons (.refl _) ?_|refine aV.cons (.aP _) ?_))))))))))|(refine jj (ab) ?_ ?_;(·(repeat(first|exact aV.nil|(refine aV.cons (ak ?_) ?_;(simp only[ee,simprocAttr]<;>rfl))|(refine aV.cons ?_ ?_;(·(apply nf;(·(simp only[ee,simprocAttr]<;>rfl));(·(repeat(first|exact aV.nil|refine aV.cons (.refl _) ?_|refine aV.cons (.aP _) ?_))))))))))
 all_goals try(first|exact absurd (j.dy (by omega)) (by assumption)|exact absurd (j.op (by omega)) (by assumption)|exact Bool.noConfusion ((H (by omega) (by omega) (by omega) (by omega)).symm.trans (by assumption)))
 all_goals
  refine p2 (D:=[2,4,5,120,121,122,123,124,125,126,127,128,129,130,131,132,133,134,135,136,137,138,139,140,141,142,143,144,145,146,147,148,149]) (bJ:=[]) rfl (λk:Nat=>k<=e.C.length) (λk=>[(120,I k,false)]) (λk=>e.C.length-k) (0) rfl rfl (λ_=>rfl) (aL _) ?_ ?_ ?_;iterate 2 ·(simp only[fR,fM,bL,cK];and_intros;all_goals(try(simp only[mR,simprocAttr]));all_goals(try(first|with_reducible exact .refl _|(intro h;cases h;done))))
  rintro k a2;rcases am k e.C.length with g1|g1
  .have L:=a0 k g1;have a3:=(f.Sd _ (ah g1)).2;have N:(e.C[k].J==e.J&&e.C[k].seq==e.seq)=false:=by
    rw[Bool.eq_false_iff];intro h;rw[be,i4,i4]at h;apply a3;generalize e.C[k]=a at h;obtain⟨bo,bs⟩:=a;simp only[aW.name,Name.mk.injEq];exact h
   rcases k with _|k
   .repeat any_goals first|simp(disch:=first|omega|(simp only[l4];omega)) only[dt,simprocAttr,aW.name,N]|(first|refine bZ (λh=>?_) (λh=>?_)|refine c8 (λh=>?_) (λh=>?_))<;>((try simp only[bM,bB]at h);(try simp only[h]);(try simp only[jg]at h);(try omega))|(refine⟨0+1,⟨?_⟩,⟨by omega⟩,?_⟩;rotate_left;focus (simp only[fR,fM,bL,cK];and_intros;all_goals(try(simp only[mR,simprocAttr]));all_goals(try(first|with_reducible exact .refl _|(intro h;cases h;done)|((repeat first|with_reducible (first|exact Kept.refl _|refine eF ?_|refine eO ?_|refine eB ?_|refine ec ?_)|(with_reducible refine eC ?_ ?_;rotate_left;(simp only[pY,simprocAttr])));done)))))|(refine i0 L ?_ ?_;·simp only[ee,simprocAttr]<;>rfl)|(refine i0 q ?_ ?_;·simp only[ee,simprocAttr]<;>rfl)
    all_goals exact g1
   .have a4:=a1 k g1;have a5:((k+1:Nat)-1:Int).toNat=k:=by omega
    repeat any_goals first|simp(disch:=first|omega|(simp only[l4];omega)) only[dt,simprocAttr,aW.name,N,a5]|(first|refine bZ (λh=>?_) (λh=>?_)|refine c8 (λh=>?_) (λh=>?_))<;>((try simp only[bM,bB]at h);(try simp only[h]);(try simp only[jg]at h);(try omega))|(refine⟨k+1+1,⟨?_⟩,⟨by omega⟩,?_⟩;rotate_left;focus (simp only[fR,fM,bL,cK];and_intros;all_goals(try(simp only[mR,simprocAttr]));all_goals(try(first|(intro h;cases h;done)|(refine ak (aq I ?_);omega)|((repeat first|with_reducible (first|exact Kept.refl _|refine eF ?_|refine eO ?_|refine eB ?_|refine ec ?_)|(with_reducible refine eC ?_ ?_;rotate_left;(simp only[pY,simprocAttr])));done)))))|(refine i0 L ?_ ?_;·simp only[ee,simprocAttr]<;>rfl)|(refine i0 a4 ?_ ?_;·simp only[ee,simprocAttr]<;>rfl)|(refine i0 q ?_ ?_;·simp only[ee,simprocAttr]<;>rfl)
    all_goals exact g1
  .obtain rfl:k=e.C.length:=by omega
   repeat any_goals first|simp only[dt,simprocAttr,aW.name]|(first|refine bZ (λh=>?_) (λh=>?_)|refine c8 (λh=>?_) (λh=>?_))<;>((try simp only[bM,bB]at h);(try simp only[h]);(try simp only[jg]at h);(try omega))|(refine jj ((K e.dy.name (f.dy (by omega)).1 ad)) ?_ ?_;·refine mV ?_;simp only[ee,simprocAttr]<;>rfl)|(refine jj ((K e.dy.see ((f.dy (by omega)).2.1.resolve_left (by assumption)) ai)) ?_ ?_;·refine mV ?_;simp only[ee,simprocAttr]<;>rfl)|(refine jj ((xM (f.dy (by omega)).2.2.1)) ?_ ?_;·refine mV ?_;simp only[ee,simprocAttr]<;>rfl)|(refine jj ((xM (f.dy (by omega)).2.2.2.1)) ?_ ?_;·refine mV ?_;simp only[ee,simprocAttr]<;>rfl)|(refine jj ((o e.dy.eH (f.dy (by omega)).2.2.2.2 aA aB)) ?_ ?_;·refine mV ?_;simp only[ee,simprocAttr]<;>rfl)
   all_goals
    refine p2 (D:=[2,8,192,193,194,195,196,197,198,199,200,201,202,203,204,205,206,207,208,209,210,211,212,213,214,215,216,217,218,219]) (bJ:=[]) rfl (λk:Nat=>k<=e.cU.length) (λk=>[(192,I k,false)]) (λk=>e.cU.length-k) (0) rfl rfl (λ_=>rfl) (aL _) ?_ ?_ ?_;iterate 2 ·(simp only[fR,fM,bL,cK];and_intros;all_goals(try(simp only[mR,simprocAttr]));all_goals(try(first|with_reducible exact .refl _|(intro h;cases h;done))))
    rintro k a2;rcases am k e.cU.length with z|z
    .have m:=ah z;have q1:=j.pid _ m;have P:=f.cU _ m;have A:=aC _ m;generalize E:e.cU[k]=p at q1 P A;have pk:(p.id.J==e.id.J&&(p.id.seq==e.id.seq&&p.id.k==e.id.k))=true:=by rw[q1];simp
     obtain⟨⟨bu,bv⟩,a6⟩:=P;repeat any_goals first|simp(disch:=first|omega|(simp only[l4];omega)) only[dt,simprocAttr,E,Post.v,pk]|(first|refine bZ (λh=>?_) (λh=>?_)|refine c8 (λh=>?_) (λh=>?_))<;>((try simp only[bM,bB]at h);(try simp only[h]);(try simp only[jg]at h);(try omega))|(refine⟨k+1,⟨?_⟩,⟨by omega⟩,?_⟩;rotate_left;focus (simp only[fR,fM,bL,cK];and_intros;all_goals(try(simp only[mR,simprocAttr]));all_goals(try(first|(intro h;cases h;done)|(refine ak (aq I ?_);omega)|((repeat first|with_reducible (first|exact Kept.refl _|refine eF ?_|refine eB ?_|refine ec ?_)|(with_reducible refine eC ?_ ?_;rotate_left;(simp only[pY,simprocAttr])));done)))))|(refine i0 ((o p.path a6 A.1 A.2)) ?_ ?_;·simp only[ee,simprocAttr]<;>rfl)
     all_goals exact z
    .repeat any_goals first|simp only[dt,simprocAttr]|(refine bZ (λh=>?_) (λh=>?_))<;>((try simp only[h]);(try simp only[jg]at h);(try omega))|apply qD rfl rfl
     all_goals exact .refl _
def VL{P:Program}{GL:aj}{t:Nat}{s:St}{st:List Fr}{a:Ex->St->Prop}:vc P GL (.rG t) s (run P GL st a)=run P GL st a .normal (s.put t .unk none false):=by
 unfold vc;rfl
def IG{s:St}{t n t2 l o p:Nat}{ag PA a:Bool}{d f j:V}(q:dv s (.load ag n (.tmp t))=some d)(h2:dv s (.load PA l (.tmp t2))=some f)(r:dv s (.load a p (.tmp o))=some j)(u:d.dY=false)(y:f.dY=false)(z:j.dY=false):BF.result s [.cell t ag n,.cell t2 PA l,.cell o a p]=some (.hJ [d,f,j],false):=by
 simp[BF.result,BR.pX,BR.get,q,h2,r,u,y,z]
def L3(e:aW)(d:e.good):(pj e).length<=10000000:=by
 have a:=d.enc;have H:=s5 e.C;have o:=fL _ bT a.head;have K:=fL (lz e.C) (by have:=a.C;omega) a.VH;have L:(kg e).length<=2000000:=by
  have t:=d.opl;have u:=fL [e.dy.kind,e.dy.en] bT a.dy;have y:=k9 (e.dy.name::e.dy.see::e.dy.eH) (by have:=a.tC;simp only[aM];omega) a.words;have z:=fL [e.id.J,e.id.seq,e.id.k,e.n] bT a.id;have A:=fL [e.id.J,e.id.seq,e.id.k] bT (λn j=>a.id n (by
   simp only[bn,cE,gL]at j ⊢
   rcases j with h|h|h
   .exact .inl h
   .exact .inr (.inl h)
   .exact .inr (.inr (.inl h))))
  have N:=gB (e.cU.length:Nat) (by have:=a.cU;unfold jG;omega);have P:(e.cU.flatMap gK).length<=100000*e.cU.length:=by
   have:∀l:List Post,(∀p∈l,p.path.length<=10/\∀s∈p.path,s.length<=8192)->(l.flatMap gK).length<=100000*l.length:=by
    intro l f;induction l with
    |nil=>simp
    |cons p r ih=>
     have Q:=zt p (f p bT).1 (f p bT).2;have R:=ih λq D=>f q (by simp[D]);simp only[ck,ae,aM];omega
   exact this _ a.path
  have ab:=d.Kn;have ac:=d.tC;simp only[aM,aX]at u y z A;unfold kg;repeat' split
  all_goals(try simp only[ae,aX])
  all_goals omega
 have t:=d.VI;simp only[aM,aX]at o;simp only[pj,qX,ae];omega
def aat:CF GL f105 [9] [3] 105:=jo
def Sy(e:aW)(d:e.good):af 105 [dc (pj e)] (.hJ [e.v,I (pj e).length,I 0]):=by
 have hle:=L3 e d;have j:=λE hb=>Sx 0 e d.enc d.plain d.Kn (pj e) [] 0 E hb bT (aL _) hle;have l:=Ks e d;have o:=xE;refine Pure.gg (by simp only[dx]) (by simp only[dx]) (eN hm aat.ok (bE rfl) ?_);repeat' simp only[gE,simprocAttr,HX.act,VL]
 refine bz rfl (j ((aK.cO aK.bare [dc (pj e),I 0])) rfl) ?_ ?_ ?_
 .rfl
 .refine mV ?_;simp only[ee]<;>rfl
 rintro _ _ q ⟨rfl,p⟩;have f:=p.1;have a:=(nF f 0).trans (bh _ _ _);rw[cA]at a;repeat' first|simp only[gE,simprocAttr,aW.v,a]|refine lq l ?_|refine lq o ?_|refine e9 ?_ ?_
 all_goals
  exact⟨nE,.hJ [e.v,I (pj e).length,I 0],false,jH,_,_,false,IG (by(first|(simp(disch:=try exact om) only[ee,simprocAttr,bx,bQ,aW.v,a]<;>rfl)|rfl)) (by(first|(simp(disch:=try exact om) only[ee,simprocAttr,bx,bQ,a]<;>rfl)|rfl)) (by(first|(simp(disch:=try exact om) only[ee,simprocAttr,bx,bQ,a]<;>rfl)|rfl)) rfl rfl rfl,.refl _,.refl _,λh=>(by cases h),rfl,rfl⟩
def VM(e:aW)(a:e.good):af 55 [e.v] e.v:=by
 have d:=Sc e a.enc;have f:=Sy e a;refine pk f55 ?_;repeat' first|simp(disch:=try exact om) only[gE,simprocAttr,aW.v]|refine lq d ?_|refine lq f ?_|(refine ao nE ?_;refine tS ev rfl ?_;(all_goals(try(with_reducible exact .refl _))))
end Go.Bx
namespace Go.Bx
open Go.Proofs Go.Proofs.Tryz Go.RowKit Go.Sort Go.Shelf Go.Lib
def Cs(a b:Int):(qT a b= -1/\a<b)\/(qT a b=0/\a=b)\/(qT a b=1/\b<a):=by
 unfold qT;split
 .exact .inl ⟨rfl,by assumption⟩
 .split
  .exact .inr (.inr ⟨rfl,by assumption⟩)
  .exact .inr (.inl ⟨rfl,av⟩)
def Ee(a b:ID):(rb a b= -1/\tH a b=true)\/(rb a b=0/\a=b)\/(rb a b=1/\tH b a=true):=by
 obtain⟨q,r,t⟩:=a;obtain⟨u,y,z⟩:=b;rw[k4,k4];simp only[rb,PS,ID.mk.injEq];rcases Cs q u with⟨f,g1⟩|⟨f,g1⟩|⟨f,g1⟩
 .left;rw[f];exact⟨rfl,av⟩
 .rw[f];rcases Cs r y with⟨j,o⟩|⟨j,o⟩|⟨j,o⟩
  .left;rw[j];exact⟨rfl,av⟩
  .rw[j];rcases Cs t z with⟨l,p⟩|⟨l,p⟩|⟨l,p⟩
   .left;rw[l];exact⟨rfl,av⟩
   .right;left;rw[l];exact⟨rfl,g1,o,p⟩
   .right;right;rw[l];exact⟨rfl,av⟩
  .right;right;rw[j];exact⟨rfl,av⟩
 .right;right;rw[f];exact⟨rfl,av⟩
def wG:ltOf p8=kb:=by
 funext a b;obtain⟨f,j⟩:=a;obtain⟨q,r⟩:=b;rw[db,qL];show decide (p8 ⟨f,j⟩ ⟨q,r⟩<0)=true↔_;rw[cq];show(if rb f q≠0 then rb f q else if rb j r≠0 then rb j r else 0)<0↔_;simp only;rcases Ee f q with⟨l,g1⟩|⟨l,g1⟩|⟨l,g1⟩
 .rw[l];exact⟨λ_=>.inl g1,λ_=>bT⟩
 .rw[l];subst g1;have u:¬tH f f=true:=by rw[k4];omega
  rcases Ee j r with⟨o,p⟩|⟨o,p⟩|⟨o,p⟩
  .rw[o];exact⟨λ_=>.inr ⟨rfl,p⟩,λ_=>bT⟩
  .rw[o];subst p;have t:¬tH j j=true:=by rw[k4];omega
   exact⟨λh=>absurd h bT,λh=>by rcases h with h|⟨_,h⟩<;>contradiction⟩
  .rw[o];refine⟨λh=>absurd h bT,λh=>?_⟩;rcases h with h|⟨_,h⟩
   .contradiction
   .rw[k4]at h p;omega
 .rw[l];refine⟨λh=>absurd h bT,λh=>?_⟩;rcases h with h|⟨rfl,_⟩
  .rw[k4]at h g1;omega
  .rw[k4]at g1;omega
def ON:SWO (ltOf p8):=by
 rw[wG];refine⟨mu,λx y z=>jN,λx y z a j=>?_⟩;rw[<-gw]at*
 intro h;rcases nv x y with e|e|e
 .exact a e
 .subst e;exact j h
 .rcases nv y z with f|f|f
  .exact j f
  .subst f;exact a h
  .have:=jN h (jN f e);rw[mu]at this;cases this
def OO(x y:cI)(a:ltOf p8 x y=false)(h2:ltOf p8 y x=false):x=y:=by
 rw[wG]at*
 rcases nv x y with e|e|e
 .rw[e]at a;cases a
 .exact e
 .rw[e]at h2;cases h2
section
variable {α:Type}[Inhabited α]{enc:α->List Value}{k:Nat}{w:World}{b:Nat}{d0 d:Array α}
def C6(h0:HoldsK enc k w b 0 d0)(q:d.size=d0.size):oM w (putRowK enc k w b 0 d) b 0 (flatK enc k d).toList where
 same a o l:=cell?_putRow_other id w b 0 _ (cl a o) (by
  rcases Nat.decEq a b with h|h
  .exact .inl h
  .subst h;refine .inr (.inr ?_);show 0+(flatK enc k d).size<=o;refine cM λh=>l ⟨rfl,aL _,?_⟩;rw[oD];omega)
 new j x f:=by
  have p:j< (flatK enc k d).size:=by simpa using (aH.1 f).1
  have:=cell?_putRow id w b 0 (flatK enc k d0) (flatK enc k d) h0 (by simp[q]) j p;refine this.trans ?_;rw[<-f,dh,jP _ j p,iC p];rfl
 frozen a o:=frozen?_putRow id w b 0 _ _
 map a r t hb:=by
  unfold putRowK putRow mapBlock;simp only[dz];split
  .rw[hb];cases r<;>first|rfl|(simp[u9]at t)
  .exact hb
 size:=Sort.size_putRow id w b 0 _
 gY:=⟨rfl,rfl,rfl,λ_=>an _⟩
 oth a l:=by
  by_cases e:a=b
  .have u:=l e;have hF:flatK enc k d=#[]:=by simpa using u
   unfold putRowK;rw[hF,putRow_self id w b 0 #[] (λj f=>absurd f bT)]
  .unfold putRowK putRow mapBlock;simp only[dz];rw[al (hY e)]
def wH{g:aY}(W:World)(n:Nat)(os:Array Obj):Grow g W (grow (Sort.ahead W n) os) where
 size:=by show W.heap.size<=(W.heap++os).size;simp
 cell b o h:=by
  unfold World.cell?;show(match(W.heap++os)[b]? with|some (.cells c _ _)=>_|_=>_)=_;rw[il h];rfl
 Tu b o h _:=by
  unfold World.frozen?;show(match(W.heap++os)[b]? with|some (.cells _ _ (lo,a))=>_|_=>_)=_;rw[il h];rfl
 obj b f _ h:=by
  show(W.heap++os)[b]?=_;rw[il (cF.1 h).1];exact h
 gY:=⟨rfl,rfl,rfl,λ_=>lc _ _⟩
 whole b h:=by
  show(W.heap++os)[b]?=_;rw[il h]
end
def OP{g:aY}{x:cI}{r:Nat}{c:V}{y:Value}(h:x.v.cells[r]?=some c)(a:VR g c y):(uR x)[r]?=some y:=by
 match r,h with
 |0,h=>cases h;cases a;rfl
 |1,h=>cases h;cases a;rfl
 |2,h=>cases h;cases a;rfl
 |3,h=>cases h;cases a;rfl
 |4,h=>cases h;cases a;rfl
 |5,h=>cases h;cases a;rfl
 |n+6,h=>cases h
def sj(l:List cI):lG 6 (l.map cI.v):=by
 intro x hx;obtain⟨a,_,rfl⟩:=cB.1 hx;rfl
def Ct(l:List cI)(rest:List V){j:Nat}(a:j<l.length*6):∃h:j/6<l.length,(b9 (l.map cI.v)++rest)[j]?=(l[j/6]).v.cells[j%6]?:=by
 have h:j/6<l.length:=av;refine⟨h,?_⟩;have:=Ao (sj l) rest (i:=j/6) (r:=j%6) (by simpa using h) av;rw[show j/6*6+j%6=j by omega]at this;rw[this];simp
def Ef(l:List cI){j:Nat}(a:j<l.length*6)(h:j/6<l.length):(flatK uR 6 l.toArray).toList[j]?=(uR l[j/6])[j%6]?:=by
 have f:j< (flatK uR 6 l.toArray).size:=by simpa using a
 have p:=Sort.get_flatK uR 6 l.toArray j (by simpa using a);rw[dh,iC f,<-jP _ j f,p];have q:l.toArray[j/6]! =l[j/6]:=by rw[jP _ _ (by simpa using h)];simp
 have o:j%6< (uR l[j/6]).length:=by show j%6<6;omega
 rw[q,aa o,jP (uR l[j/6]) (j%6) o]
def IH{g:aY}{w:World}{b:Nat}{ow:eT}{l:List cI}{rest:List V}(h:fQ g w b ow (b9 (l.map cI.v)++rest)):HoldsK uR 6 w b 0 l.toArray:=by
 intro j a;have a:j<l.length*6:=by simpa using a
 obtain⟨r,f⟩:=Ct l rest a;have o:=Ef l a r;have p:j%6< (l[j/6]).v.cells.length:=by show j%6<6;omega
 rw[aa p]at f;obtain⟨_,x,t,u⟩:=h.cell j _ f;have y:=OP (aa p) u;rw[cA];refine⟨t.trans ?_,h.kl j⟩;have q:j< (flatK uR 6 l.toArray).size:=by simpa using a
 rw[y,dh,iC q]at o;rw[<-o,jP _ j q];rfl
def II(g:aY)(l:List cI):fJ g (b9 (l.map cI.v)) (flatK uR 6 l.toArray).toList:=by
 have a:(b9 (l.map cI.v)).length=l.length*6:=by rw[dV (sj l),au]
 refine⟨by rw[a];simp,λj c x f o=>?_⟩;have p:j<l.length*6:=by rw[<-a];exact(aH.1 f).1
 obtain⟨r,q⟩:=Ct l [] p;rw[cD,f]at q;rw[Ef l p r]at o;exact(Kh g _).2 _ c x q.symm o
def C7(A R V:List Bx.V)(h:V.length=A.length):aQ (A++R) 0 V=V++R:=by
 apply iU;intro j;rw[kC _ _ _ _ (by rw[ae];omega)];split
 next a=>rw[hA,dH av]
 next a=>rw[dR av,dR av,h]
def rp.rel{GL:aj}{g:aY}{w:World}{E:aK}{args:List V}{xs:Array Value}(h:rp GL g w E args xs):Rel GL {g with lb:=λ_ _=>none} (St.init 0 [] E) {tmps:=#[],defers:=[]} w where
 size:=rfl
 gi:=.nil
 Z t:=by simp only[St.init];exact VR.qn
 gF:=h.gF.lb rfl rfl
 heap:=h.heap.lb rfl rfl
 loc:=λst f a=>by simp[St.init]at a
 jc:=λ_ _ _=>rfl
 jx:=λt e=>by simp[St.init]at e
 gH:=λ_ _ _ _ _ _ e=>by simp[St.init]at e
 j0:=λ_ _ e=>by simp[St.init]at e
 gI:=λ_ _ _ _ e=>by simp[St.init]at e
 ie:=λ_ _ _ e=>by simp[St.init]at e
def Sz{g:aY}{w:World}:Step g w {g with lb:=λ_ _=>none} w:=
 ⟨λ_ _ _ h=>h,λ_ _ h=>h,λ_ _ h=>h,λ_ _ h=>⟨h,rfl,rfl⟩,λ_ _ _ _ h=>h,λ_ _ h _=>h,an _,.refl _,λ_ _ _=>rfl⟩
def PI(x y:cI):Bool:= !kb y x
def SA(v:V)(l:List cI)(E:aK)(N:gu 6 E v (l.map cI.v))(b3:l.length<=1000000):
 aI 172 [v,.fn 114 []] E λ_ _ P=>gu 6 P v ((l.mergeSort PI).map cI.v)/\bA (bI v) E P:=by
 intro g w aB q R aC;obtain⟨A,ai,rfl⟩:∃A ai,aB=#[A,ai]:=by
  have:=q.len;cases aB with|mk l=>match l,this with|[a,b],_=>exact⟨a,b,rfl⟩
 have z:=q.arg 0 v A rfl rfl;have h1:=q.arg 1 (.fn 114 []) ai rfl rfl;have bi:=q.rel;cases h1 with
 |fn _ _ bl aD _=>
 obtain rfl:bl=#[]:=by simpa using aD
 have f:∀p cap,A=.slice p 0 cap->l=[]->Calls prog 172 #[A,.func (.func 114) #[] #[]] w R:=by
  intro p cap hx D;subst hx D;refine(AnyF.slices_SortFunc_none Ov p cap (.func (.func 114) #[] #[]) w).mono ?_;rintro e a0 ⟨rfl,rfl⟩;exact aC (.hJ []) _ false E g a0 ⟨by simpa using N,rQ⟩ ⟨q.gF,q.heap,.hJ [] #[] rfl bT,.refl _ _,bT⟩
 obtain⟨_,⟨rfl,D⟩|⟨id,c,rest,rfl,dW,eh,K,u⟩⟩:=N
 .have D:l=[]:=by simpa using D
  cases z;exact f _ _ rfl D
 rw[au]at z K u;cases L:l with
 |nil=>
  rw[L]at z;cases z with
  |ms _ _ _ _ _ b e _=>exact f _ _ rfl L
  |FJ _ _ _ p _=>exact f _ _ rfl L
 |cons x r=>
 have bo:0<l.length:=by rw[L];simp
 clear f;generalize bs:l.length=n at z;cases z with
 |FJ=>omega
 |ms _ _ _ _ _ b e bu=>
 subst bs;obtain⟨H,Q,a1⟩:=q.heap.box id _ eh;obtain rfl:=ar (Q.symm.trans e);have ab:H<w.heap.size:=q.gF.ir H 0 (by rw[a1.mf 0];simp);have a2:HoldsK uR 6 w H 0 l.toArray:=IH a1;have ac:=AnyQ.slices_SortFunc_total Ov 6 Tryz.isAgg52 Tryz.sizeOf52 uR (λ_=>rfl) (λx v a3=>by simp[uR]at a3;rcases a3 with rfl|rfl|rfl|rfl|rfl|rfl<;>rfl) p8 ON 114 #[] H 0 c l.toArray w
  (enters_of func114 (by kernel_rfl) rfl) (LS _ _ _ _ (mc (aL _) ab)) a2 ab (by simp;omega) OO
 rw[kS]at ac;refine ac.mono ?_;rintro b5 a0 ⟨rfl,m,os,rfl⟩;rw[wG];obtain⟨s,aA⟩:∃s,l.mergeSort PI=s:=⟨_,rfl⟩;have a4:(l.toArray.toList.mergeSort λx y=> !kb y x)=s:=aA;rw[a4];have t:s.length=l.length:=by rw[<-aA,iz]
 have ad:(b9 (s.map cI.v)).length=(b9 (l.map cI.v)).length:=by rw[dV (sj s),dV (sj l),au,au,t]
 have bv:=C6 (d:=s.toArray) a2 (by simp[t]);obtain⟨a5,bY⟩:=bi.wr (off:=0) (vs:=b9 (s.map cI.v)) (id:=id) eh Q (by rw[ae,ad];omega) (II _ s) (by
  intro c K;obtain⟨j,a6⟩:=fZ.1 K;have a7:j<s.length*6:=by
   have:=(aH.1 a6).1;rw[dV (sj s),au]at this;exact this
  obtain⟨b6,o⟩:=Ct s [] a7;rw[cD,a6]at o
  match j%6,o with
  |0,o=>cases o;rfl
  |1,o=>cases o;rfl
  |2,o=>cases o;rfl
  |3,o=>cases o;rfl
  |4,o=>cases o;rfl
  |5,o=>cases o;rfl
  |n+6,o=>cases o) bv
 have G:=wH (g:=g) (putRowK uR 6 w H 0 s.toArray) m os;have a8:=a5.grow (g0:={g with lb:=λ_ _=>none}) ⟨λ_ _ _ h=>h,λ_ _ h=>h,λ_ _ h=>h⟩ (wH _ m os);have b2:=bY.grow a5.gF (wH _ m os);refine aC (.hJ []) _ false _ _ _ ⟨?_,?_⟩ ⟨a8.gF,a8.heap,.hJ [] #[] rfl bT,Sz.trans b2,bT⟩
 .rw[aA];refine⟨sj s,.inr ⟨id,c,rest,by rw[au,au,t],dW,?_,by rw[au,t];exact K,by rw[au,t];exact u⟩⟩;show eQ E.box id _ id=_;rw[bh,C7 _ _ _ ad]
 .refine⟨λi _ a9=>bD _ _ (λh=>a9 (by rw[h];rfl)),λ_ _=>rfl,an _⟩
end Go.Bx
namespace Go.Bx
open Go.Proofs Go.Proofs.Tryz
attribute [local irreducible] vc er dq b4 bU run iw iI iW i1 iG i2 iX iq iH iZ gA iY cS
def yG:∀(r acc:List cI),nk acc->(∀z∈acc,∀x∈r,kb x z=false)->r.Pairwise (λa b=>kb b a=false)->nk (r.foldl Fj acc)/\∀z,z∈r.foldl Fj acc↔z∈acc\/z∈r
 |[],acc,h,_,_=>⟨h,λz=>bT⟩
 |x::r,acc,h,l,t=>by
  obtain⟨g1,p⟩:=eu.1 t;rw[dL];unfold Fj;split
  next o=>
   have hx:x∈acc:=nW o;obtain⟨a,b⟩:=yG r acc h (λz d y f=>l z d y (by simp[f])) p;refine⟨a,λz=>(b z).trans ?_⟩;rw[bn];constructor
   .rintro(e|e)<;>simp[e]
   .rintro(e|e|e)
    .exact .inl e
    .subst e;exact .inl hx
    .exact .inr e
  next o=>
   have q:∀z∈acc,kb z x=true:=by
    rcases List.eq_nil_or_concat acc with rfl|⟨A,y,rfl⟩
    .intro z d;cases d
    .rw[List.concat_eq_append]at*
     have j:kb y x=true:=by
      rcases nv y x with e|e|e
      .exact e
      .exact absurd (by rw[e];simp) o
      .rw[l y bT x bT]at e;cases e
     intro z d;rcases aN.1 d with d|d
     .exact jN ((jK.1 h).2.2 z d y bT) j
     .obtain rfl:=aR.1 d;exact j
   have u:nk (acc++[x]):=jK.2 ⟨h,bT,λz d y f=>by obtain rfl:=aR.1 f;exact q z d⟩;obtain⟨a,b⟩:=yG r (acc++[x]) u (λz d y f=>by
    rcases aN.1 d with d|d
    .exact l z d y (by simp[f])
    .obtain rfl:=aR.1 d;exact g1 y f) p
   refine⟨a,λz=>(b z).trans ?_⟩;simp only[aN,bn,cE,gL];constructor
   .rintro((e|e)|e)<;>simp[e]
   .rintro(e|e|e)<;>simp[e]
def OQ(l:List cI):pG (l.mergeSort PI)=kF l:=by
 have E:(l.mergeSort PI).Pairwise λa b=>kb b a=false:=by
  have:=List.pairwise_mergeSort (le:=PI) (λa b c d f=>?_) (λa b=>?_) l
  .exact this.imp λh=>by simpa[PI]using h
  .simp only[PI,jC,<-gw]at*
   intro h;rcases nv b c with e|e|e
   .exact d (jN e h)
   .subst e;exact d h
   .exact f e
  .simp only[PI,ib,jC];rcases nv a b with e|e|e
   .left;rw[<-gw];intro h;have:=jN e h;rw[mu]at this;cases this
   .subst e;left;exact mu _
   .right;rw[<-gw];intro h;have:=jN e h;rw[mu]at this;cases this
 obtain⟨a,b⟩:=yG _ [] .nil (λz j=>by cases j) E;exact zU a λz=>by rw[show pG (l.mergeSort PI)=(l.mergeSort PI).foldl Fj []from rfl,b];simp
def AC(l:List cI):(kF l).length<=l.length:=by
 have h:=sb l _ (an _)
 rwa [bg]at h
def VN:CF GL f171 [5,7] [] 171:=jo
def aau:CF GL f113 [] [1,2,3] 113:=jo
def OR(l:List cI)(E:aK)(j:l.length<=1000000):aI 171 [hE l] E λv _ a=>gu 6 a v (l.map cI.v)/\bA none E a/\∀i,bI v=some i->E.Y<=i:=by
 refine bq VN.ok rfl ?_;repeat' first|refine k7 ?_|(refine tR (by simp only[pY]<;>rfl) (by simp only[da]<;>rfl) ?_ (λh=>?_))
 .refine Ch (fA:=E) sT ?_;have u:gu 6 (E.cO []) (.ms 6 E.Y 0 0 0) []:=⟨(by intro x hx;cases hx),.inr ⟨E.Y,0,[],rfl,dn _,by simp[aK.cO,eQ,b9],an _,rfl⟩⟩;repeat' simp only[gE,simprocAttr]
  refine iR (xs:=[]) (ys:=l.map cI.v) ?_ ?_ ?_ ?_ ?_ rfl ?_ ?_ λd a o hb hi=>?_
  .exact sT
  .exact sT
  .exact lG.map (λy=>rfl) _
  .exact sT
  .simp only[da];intro l j;cases j
  .simp only[au,aX];omega
  .simp only[da];intro r;cases r
  have f:gu 6 a d (l.map cI.v):=by simpa using o
  have p:bI d=some E.Y\/bI d=some (E.Y+1):=by revert hi;simp only[da,simprocAttr];exact id
  have q:bA none E a:=by
   revert hb
   simp only[da,simprocAttr];intro hb;have t:=hb.Y;simp only[aK.cO]at t;exact⟨λi hi _=>by rw[hb.box i (by simp only[aK.cO];omega) (by simp[bI];omega)];simp only[aK.cO];exact bD _ _ (ct hi),λi hi=>by rw[hb.mp i (by simp only[aK.cO];omega)];rfl,av⟩
  repeat any_goals simp only[dt,simprocAttr,bx]
  refine⟨nE,d,_,bC rfl f.gD,f,q,λi hi=>?_⟩;rcases p with h|h<;>rw[h]at hi<;>simp at hi<;>omega
 .exact Ue
def SB(l:List cI)(o:l.length<=1000000):af 113 [hE l,.fn 114 []] (hE (kF l)):=by
 refine Pure.gg (by simp only[dx]) (by simp only[dx]) (eN hm aau.ok (bE rfl) ?_);have r:=λE=>OR l E o;repeat' simp only[gE,simprocAttr]
 refine bz rfl (r _) ?_ ?_ ?_
 .rfl
 .refine mV ?_;simp only[ee]<;>rfl
 rintro v _ f ⟨a,hb,K⟩;have p:=a.one;have o2:=a.gD;have t:=SA v l f a o;repeat' simp only[gE,simprocAttr,p,o2]
 refine bz (h0:=f) sT t ?_ ?_ ?_
 .exact Yx
 .refine mV ?_;simp only[ee]<;>rfl
 rintro _ _ j ⟨q,A⟩;have c3:=Sb v _ j q (by rw[iz];exact o);rw[OQ]at c3;repeat' simp only[gE,simprocAttr,p,o2]
 refine bz (h0:=j) sT c3 ?_ ?_ ?_
 .exact Yx
 .refine mV ?_;simp only[ee]<;>rfl
 rintro u _ D ⟨d,H,_⟩;have y:=d.one;have z:=d.gD;repeat' simp only[gE,simprocAttr,y,z]
 exact⟨nE,yk sT d⟩
def Fw(l:List cI)(a:l.length<=1000000):af 64 [hE l] (hE (kF l)):=by
 have c:=SB l a;refine pk f64 ?_;repeat' first|refine k7 ?_|refine lq c ?_|refine q1 ?_
 all_goals exact ak rfl
def VO(w:cg)(d:w.ok):af 27 [w.v] (hE (kr w)):=by
 have f:=Cg w d;have j:=d.2.2;unfold kr;generalize dj w=A at*
 have l:=Fw (A.map λp=>⟨p.id,p.id⟩) (by simpa using j);refine pk f27 ?_;repeat' first|refine k7 ?_|refine lq f ?_
 refine sk (bJ:=[]) (λk:Nat=>k<=A.length) (λk=>[(9,I k,false),(3,hE ((A.take k).map λp=>⟨p.id,p.id⟩),true)]) (λk=>A.length-k) (0) (aL _) ?_;rintro k o;rcases am k A.length with a|a
 .repeat any_goals first|simp(disch:=try exact om) only[dt,simprocAttr,aJ.v,cI.v]|refine cs ?_ ?_<;>intro h<;>try omega|(refine⟨k+1,⟨?_⟩,⟨av⟩,?_⟩;rotate_left;focus (simp only[fR,fM,bL,cK];and_intros;all_goals(try(simp only[mR,simprocAttr]));all_goals(try(first|(intro h;cases h;done)|(intro _;(simp;done))|(refine ak (aq I ?_);omega)|((repeat first|with_reducible (first|exact Kept.refl _|refine eF ?_|refine eO ?_|refine eB ?_|refine gy ?_|refine ec ?_)|(with_reducible refine eC ?_ ?_;rotate_left;(simp only[pY,simprocAttr])));done)))))
  .exact ak (by rw[br a,az,az];rfl)
  .exact a
 .obtain rfl:k=A.length:=av;rw[bg];repeat' first|refine k7 ?_|refine cs ?_ ?_<;>intro h<;>try omega|refine lq l ?_|refine q1 ?_
  all_goals exact ak rfl
end Go.Bx
namespace Go.Bx
open Go.Proofs Go.Proofs.Tryz Go.RowKit Go.Maps Go.Sort Go.Shelf
def OS(m:Nat):AnyZ.SortsIn prog xC Fence.wide m:=
 ⟨
  λa off cap f W hH hblk d=>callsIn_wide.2 (AnyM.slices_Sort_string Kb a off cap f W hH hblk d),λp cap W=>callsIn_wide.2 (AnyM.slices_Sort_string_none Kb p cap W)⟩
section
variable {GL:Nat->Option (List V)}{g:aY}{w w':World}{gb:Nat}{ow:Nat->eT}
def xN(a:∀o,g.bJ gb o=.free):g.Le (g.block gb ow):=
 ⟨λb o x e=>by rw[aY.e8 _ _ _ (by rintro rfl;rw[a]at e;cases e)];exact e,λb d e=>by rw[aY.e8 _ _ _ (by rintro rfl;rw[a]at e;cases e)];exact e,λ_ _ e=>e⟩
def xO(a:∀o,g.bJ gb o=.free){b o:Nat}{u:eT}(e:g.bJ b o=u)(d:u≠.free):(g.block gb ow).bJ b o=u:=by
 rw[aY.e8 _ _ _ (by rintro rfl;rw[a]at e;exact d e.symm)];exact e
def OT(f:∀o,g.bJ gb o=.free)(a:qe GL g w)(d:gb<w.heap.size)(j:∀o x,ow o=.g3 x->w.cell? (cl gb o)=some x)(hm:∀o ob,ow o≠.eY ob):qe GL (g.block gb ow) w where
 kp n c e:=(a.kp n c e).mono (xN f)
 g3 b o x e:=by
  by_cases h:b=gb
  .subst h;rw[aY.eI]at e;exact j o x e
  .rw[aY.e8 _ _ _ h]at e;exact a.g3 b o x e
 eY b ob e:=by
  by_cases h:b=gb
  .subst h;rw[aY.eI]at e;exact absurd e (hm 0 ob)
  .rw[aY.e8 _ _ _ h]at e;exact a.eY b ob e
 ir b o e:=by
  by_cases h:b=gb
  .subst h;exact d
  .rw[aY.e8 _ _ _ h]at e;exact a.ir b o e
 kB:=a.kB
def L4{E:aK}(d:∀o,g.bJ gb o=.free)(h:HR g E w):HR (g.block gb ow) E w where
 box id cells e:=by
  obtain⟨b,h1,a⟩:=h.box id cells e;exact⟨b,h1,λj=>xO d (a.mf j) bT,λj c f=>let⟨l,y,p,q⟩:=a.cell j c f;⟨l,y,p,q.mono (xN d)⟩,a.kl⟩
 tail id cells j c b y r t u z A:=by
  intro sz D H len cap K hx k h1 a;obtain⟨f1,L⟩:=h.tail id cells j c b y r t u z A sz D H len cap K hx k h1 a;exact⟨xO d f1 bT,L⟩
 map id N e:=by
  obtain⟨b,o,h1,a,P,Q,R⟩:=h.map id N e;exact⟨b,o,h1,xO d a bT,P,Q,R.mono (xN d)⟩
 Y:=h.Y
def L5(a:∀o,g.bJ gb o=.free)(hx:∀o,ow o≠.ext):Step g w (g.block gb ow) w where
 g3:=(xN a).g3
 eY:=(xN a).eY
 hb _ _ e:=e
 ext b o e:=⟨xO a e bT,rfl,rfl⟩
 n5 _ _ _ _ e:=e
 rm b o e _:=by
  by_cases h:b=gb
  .subst h;rw[aY.eI]at e;exact absurd e (hx o)
  .rw[aY.e8 _ _ _ h]at e;exact e
 size:=an _
 gY:=.refl _
 whole _ _ _:=rfl
def IJ(h:Below w.heap.size w w')(a:g.bJ 0 0≠.ext):Grow g w w' where
 size:=h.size
 cell b o hb:=by unfold World.cell?;rw[show(cl b o).block=b from rfl,h.block b hb]
 Tu b o hb _:=by unfold World.frozen?;rw[show(cl b o).block=b from rfl,h.block b hb]
 obj b d _ e:=by rw[h.block b (cF.1 e).1];exact e
 gY:=⟨h.tape,h.os,h.output,λe=>absurd e a⟩
 whole b hb:=h.block b hb
def rp.grown{E:aK}{args:List V}{xs:Array Value}(a:rp GL g w E args xs)(h:Grow g w w'):qe GL g w'/\HR g E w'/\Step g w g w':=by
 have R:=a.rel.grow (g0:=g) (w':=w') ⟨λ_ _ _ e=>e,λ_ _ e=>e,λ_ _ e=>e⟩ h;exact⟨R.gF.lb rfl rfl,R.heap.lb rfl rfl,(Step.refl g w).grow a.gF h⟩
end
def OU{GL:aj}{g:aY}{w w':World}{E:aK}{args:List V}{xs:Array Value}(y:rp GL g w E args xs)(P:g.bJ 0 0≠.ext)(hb:Below w.heap.size w w'){v:Value}{l:List T}{t:TypeId}(Q:w'.ownsRow w.heap.size t 1 v l.length (l.map encStr)):
 ∃g',vf GL g w g' w' E (eZ l) false v:=by
 obtain⟨z,A,D⟩:=y.grown (IJ hb P);rcases Q.2 with⟨rfl,R⟩|⟨gb,cap,cur,rfl,aA,H,ab,aB,ac,K⟩
 .have:l=[]:=g2 R;subst this;exact⟨g,z,A,.slnil 1,D,bT⟩
 .have u:∀o,g.bJ gb o=.free:=λo=>cM λh=>by
   have:=y.gF.ir gb o h;omega
  rw[kK]at ac K;have q:∀o,o<l.length->cur[o]?=(l[o]?).map encStr:=λo r=>by
   rw[<-bw,<-K,dB,ax r,dh]
  refine⟨g.block gb λo=>if o<l.length then .g3 (cur.getD o undef)else .free,OT u z (cF.1 H).1 ?_ ?_,L4 u A,?_,D.trans (L5 u ?_),bT⟩
  .intro o x e;split at e
   next r=>
    injection e with e
    subst e;have f:=q o r;rw[aa r]at f;unfold World.cell?;rw[show(cl gb o).block=gb from rfl,H];show cur[o]?=_;rw[f];simp[cL,f]
   .cases e
  .intro o aC;split<;>simp
  .have L:=VR.sl (g:=g.block gb λo=>if o<l.length then .g3 (cur.getD o undef)else .free) 1 (l.map S) ⟨gb,0,none⟩ cap (λo=>cur.getD o undef) rfl (by simpa using ab) (λi v e=>by
    rw[bw,bS]at e;obtain⟨a,_,rfl⟩:=e;rfl) (λk ad=>by
    rw[aY.eI,cA];rw[ax (by simpa using ad)]) (λi v j c p d=>by
    rw[bw,bS]at p;obtain⟨a,_,rfl⟩:=p
    match j,d with
    |0,d=>cases d;rfl) (λi v j c p d=>by
    have N:i<l.length:=by have:=(aH.1 p).1;simpa using this
    rw[bw,bS]at p;obtain⟨a,ai,rfl⟩:=p
    match j,d with
    |0,d=>
     cases d;have f:=q i N;rw[ai]at f;rw[kK,di];simp only[cL,f,bF,bf];exact .str a)
   rw[au]at L;exact L
  .intro o;split<;>simp
def OV{g:aY}{l:List (T×Bx.V)}{es:Array MapEntry}{c:Nat}(h:wS g (fk S l) es c):es.toList.map (·.key)=l.map (λx=>encStr x.1)/\es.toList.map (·.born)=List.range l.length/\es.size=l.length:=by
 have a:es.size=l.length:=by rw[h.len];simp[fk]
 refine⟨nl (by simp[a]) λj d o=>?_,nl (by simp[a]) λj d o=>?_,a⟩
 .have f:j<es.size:=by simpa using d
  have p:j<l.length:=av;have:=h.key j (S l[j].1,l[j].2) es[j] (by simp[fk,p]) (by simp[f]);rw[dK,dK,lg];generalize es[j].key=y at this;cases this;rfl
 .have f:j<es.size:=by simpa using d
  have:=h.born j es[j] (by simp[f]);rw[dK,lg,this];simp
def IK{s:T}(h:s.length<=maxLen):keyOf prog 9 (encStr s)=some (.string s):=by
 have a:prog.underlying 9=some .string:=by kernel_rfl
 simp only[keyOf,a,mapKey,encStr];rw[ax (by simpa[ByteArray.size]using h)]
def OW(E:aK)(xP tid:Nat)(l:List (T×Bx.V))(hb:E.box xP=some [.mp tid])(aB:E.mp tid=some (.map (fk S l)))(c1:l.length<=1000)(bo:(l.map (·.1)).Nodup)(bs:∀x∈l,x.1.length<=1000000000):
 aI 108 [.fn 166 [.bp xP 0]] E λv _ aC=>v=eZ ((l.map (·.1)).mergeSort λx y=>decide (x<=y))/\aC=E:=by
 intro g w aD o R bu;obtain⟨P,rfl⟩:∃P,aD=#[P]:=by
  have:=o.len;cases aD with|mk l=>match l,this with|[a],_=>exact⟨a,rfl⟩
 have bv:=o.arg 0 (.fn 166 [.bp xP 0]) P rfl rfl;cases bv with
 |fn _ _ Q a0 a1=>
 obtain⟨ab,rfl⟩:∃ab,Q=#[ab]:=by
  cases Q with|mk l=>match l,a0 with|[a],_=>exact⟨a,rfl⟩
 have h1:=a1 0 (.bp xP 0) ab rfl rfl;cases h1 with
 |bp _ _ B bY=>
 obtain⟨r,a2,t⟩:=o.heap.box xP _ hb;obtain rfl:=ar (a2.symm.trans bY);obtain⟨_,x,hx,b2⟩:=t.cell 0 (.mp tid) rfl;cases b2 with
 |mp _ b a3=>
 obtain⟨a4,c2,b3,c5,b5,c6,b6⟩:=o.heap.map tid _ aB;obtain rfl:=ar (b3.symm.trans a3);obtain⟨d,c,rfl,ac⟩:=b6;obtain⟨u,a5,a6⟩:=OV ac;have b7:g.bJ 0 0≠.ext:=by
  have:=o.gF.kp 0 _ rfl;cases this with
  |ep _ _ Q _ ca _ _=>
   have:=ca 0 (by simp);rw[this];simp
 have q:∀x∈d.toList,∃s:T,x.key=encStr s/\s∈l.map (·.1):=λx hx=>by
  have:x.key∈d.toList.map (·.key):=lL hx;rw[u,cB]at this;obtain⟨y,ad,A⟩:=this;exact⟨y.1,A.symm,lL ad⟩
 let Rd:Value->Option (DataW Unit×List MemPlace):=λ_=>some (.lit (.bool true),[])
 have N:∀x∈d.toList,∀s:T,x.key=encStr s->WideElems.rd prog 9 Rd x=some (.string s,.lit (.bool true)):=λx hx s A=>by
  obtain⟨cb,a7,a8⟩:=q x hx;obtain rfl:s=cb:=encStr_inj (A.symm.trans a7);obtain⟨y,ad,rfl⟩:=cB.1 a8;have hlen:=bs y ad;have:keyOf prog 9 x.key=some (.string y.1):=by
   rw[A];exact IK (by simp only[maxLen];omega)
  obtain⟨kk,c7,bb⟩:=x;exact WideElems.rd_mk (R:=Rd) (yv:=(.lit (.bool true),[])) this rfl
 have ai:w.ownsMap prog 9 Rd a4 d.size (.map ((d.toList.map (WideElems.rg prog 9 Rd)).foldr DataW.insert [])):=
  ⟨d,c,b5,⟨by rw[a6];simp only[maxLen];omega,⟨λx hx=>by
   obtain⟨j,cc,rfl⟩:=ja hx;have:j<d.size:=by simpa using cc
   rw[ac.MI,lg,ac.born j d[j] (by simp[this])];exact this,by rw[a5];exact List.nodup_range,by
   rw[u];have:l.map (λx=>encStr x.1)=(l.map (·.1)).map encStr:=by rw[jV];rfl
   rw[this];exact List.pairwise_map.2 (bo.imp λh e=>h (encStr_inj e))⟩,λx hx=>by
   obtain⟨s,D,_⟩:=q x hx;exact⟨_,N x hx s D⟩⟩,an _,rfl⟩
 have H:(strKeys (.map ((d.toList.map (WideElems.rg prog 9 Rd)).foldr DataW.insert []):DataW Unit)).Perm (l.map (·.1)):=by
  refine List.Perm.trans ((WideShapes.sorted_perm (d.toList.map (WideElems.rg prog 9 Rd))).map (λp:Lit×DataW Unit=>strOf p.1)) ?_;rw[jV];have:d.toList.map ((λp=>strOf p.1)∘WideElems.rg prog 9 Rd)=l.map (·.1):=by
   have ch:(d.toList.map ((λp=>strOf p.1)∘WideElems.rg prog 9 Rd)).map encStr=(l.map (·.1)).map encStr:=by
    rw[jV,jV];refine Eq.trans ?_ u;refine kh λx hx=>?_;obtain⟨s,D,_⟩:=q x hx;show encStr (strOf (WideElems.rg prog 9 Rd x).1)=x.key;rw[WideElems.rg_of (N x hx s D),D];rfl
   exact(List.map_inj_right (f:=encStr) (λ_ _ e=>encStr_inj e)).1 ch
  rw[this]
 have a9:r<w.heap.size:=o.gF.ir r 0 (by rw[t.mf 0];simp);have aA:SeqGives Fence.wide 2 prog 166 #[.pointer (some ⟨r,0,none⟩)] encStr (λK=>K.Perm (strKeys _)) (Maps.size _) w:=
  AnyZ.keys_gives (ρ:=Cb) {VC with} Fence.wide _ trivial rfl (by omega) r a4 d.size _ w a9 hx ai
 have L:Maps.size (.map ((d.toList.map (WideElems.rg prog 9 Rd)).foldr DataW.insert []):DataW Unit)<=1000:=by
  show((d.toList.map (WideElems.rg prog 9 Rd)).foldr DataW.insert []).length<=1000;rw[(WideShapes.sorted_perm _).length_eq,au,oD];omega
 have ci:=AnyZ.sorted_in Ow Fence.wide 5 trivial trivial trivial trivial rfl (by omega) (OS _) (enters_of func165 (by kernel_rfl) rfl) 166 #[.pointer (some ⟨r,0,none⟩)] trivial (enters_of func166 (by kernel_rfl) rfl) _ _ (aT L (by simp only[maxLen];omega)) (by omega) _ aA;refine(callsIn_wide.1 ci).mono ?_;rintro e w' ⟨v,K,rfl,hS,z,_,bi⟩;have bl:=mergeSort_of_perm (hS.trans H);have hlen:K.length=(K.mergeSort λx y=>decide (x<=y)).length:=(iz _).symm;rw[hlen]at z;obtain⟨cp,out⟩:=OU o b7 bi z;exact bu _ _ false E cp w' ⟨by rw[bl],rfl⟩ out
end Go.Bx
namespace Go.Bx
open Go.Proofs Go.Proofs.Tryz
attribute [local irreducible] vc er dq b4 bU run iw iI iW i1 iG i2 iX iq iH iZ gA iY cS
def aav:CF GL f109 [1] [] 109:=jo
def SC(E:aK)(tid:Nat):aI 109 [.mp tid] E λv _ a=>v=.fn 166 [.bp E.Y 0]/\a=E.cO [.mp tid]:=by
 refine bq aav.ok rfl ?_;repeat any_goals simp only[gE,simprocAttr,HX.act]
 exact⟨nE,_,_,bC rfl rfl,by rfl⟩
def GY{α β:Type}(f:β->V)(l:List (α×β)):(gZ f l).map (·.1)=l.map (·.1):=by
 unfold gZ;rw[jV];rfl
def SD(E:aK)(xP tid:Nat)(ts:List (T×gU))(hb:E.box xP=some [.mp tid])(a:E.mp tid=some (.map (fk S (gZ gU.v ts))))(f:ts.length<=1000)(j:(ts.map (·.1)).Nodup)(l:∀x∈ts,x.1.length<=1000000000):
 aI 108 [.fn 166 [.bp xP 0]] E λv _ d=>v=eZ (D2 (ts.map (·.1)))/\d=E:=by
 have h:=OW E xP tid (gZ gU.v ts) hb a (by simpa[gZ]using f) (by rw[GY];exact j) (λx hx=>by
  obtain⟨y,o,rfl⟩:=cB.1 hx;exact l y o)
 rw[GY]at h;exact h
end Go.Bx
