/- Lemmas for HistoryBegins. -/
import Derived.Test.YtmbahmpbmcfifaaGreatDoorCo
import Derived.Test.YtmbahmpbmcfifaaGreatDoorCp
import Derived.Test.YtmbahmpbmcfifaaGreatDoorCq
noncomputable section
set_option linter.all false
set_option maxHeartbeats 4000000
set_option maxRecDepth 100000
namespace Go.Bx
open Go.Proofs Go.Proofs.Tryz
attribute [local irreducible] vc er dq b4 bU run iw iI iW i1 iG i2 iX iq iH iZ gA iY cS
def VP:fK prog 261=true:=by kernel_rfl
def VQ:fK prog 262=true:=by kernel_rfl
def VS:fK prog 263=true:=by kernel_rfl
def VT:fK prog 264=true:=by kernel_rfl
def VU:fK prog 265=true:=by kernel_rfl
def VV:fK prog 266=true:=by kernel_rfl
def VW:fK prog 267=true:=by kernel_rfl
def VX:fK prog 268=true:=by kernel_rfl
def VY:fK prog 269=true:=by kernel_rfl
def VZ:fK prog 270=true:=by kernel_rfl
def Et(w:cg)(o:Op)(b:Name):cg×Int:=if 2<o.kind then mr w o b else mE w o b
def V0(E:aK)(d:Nat)(w:cg)(o:Op)(b:Name)(s t:fW)(X:List Nat)(R:RX E d w o b s t X)(ac:w.fits)(D:o.ok)(ad:∀t∈o.F,t.length<=10000)(L:0<=o.kind/\o.kind<=9)
 (ai:2<o.kind->∃j,ef o.W 0 w.O=some j/\s=jm (some j)) (aA:o.kind=7->∃j,ef o.to 0 w.O=some j/\t=jm (some j)):
 aI (261+o.kind.toNat) [.bp d 0] E λu _ N=>Mv d o b s t (Et w o b) u N:=by
 obtain⟨a4,a5,⟨a3,H⟩,A⟩:=ac;rcases fp 2 o.kind with K|K
 .obtain⟨⟨v,a,i⟩,y,rfl⟩:=ai K;obtain⟨f,l,p,dW⟩:=jT y;obtain⟨a6,a7,aB,aC⟩:=A _ (Au f l p);have a8:=mF f l;unfold Et mr;rw[ax K,y];simp only[ff f l,ap,aa p,bf];have z:o.kind=3\/o.kind=4\/o.kind=5\/o.kind=6\/o.kind=7\/o.kind=8\/o.kind=9:=av;rcases z with h|h|h|h|h|h|h
  .rw[al av,ax h,h];exact Se E d w o b _ t X R v a i f l p av rfl
  .rw[al av,al av,ax h,h];exact Sm E d w o b _ t X R v a i f l p av rfl _ rfl av av aB aC
  .rw[al av,al av,al av,ax h,h];exact Sk E d w o b _ t X R v a i f l p av rfl λq aD=>by
    obtain⟨k,L,rfl⟩:=hU.1 aD;have:=A _ (Au f l L);exact⟨this.1,this.2.1⟩
  .rw[al av,al av,al av,al av,ax h,h];exact Sf E d w o b _ t X R v a i f l p av rfl
  .obtain⟨⟨a0,a1,a2⟩,r,rfl⟩:=aA h;obtain⟨P,Q,ab,_⟩:=jT r;rw[ax h,r,h];exact Sl E d w o b _ _ X R v a i a0 a1 a2 f l p P Q ab rfl rfl
  .rw[al av,al av,al av,al av,al av,ax h,h];exact So E d w o b _ t X R v a i f l p av rfl D ad
  .rw[al av,al av,al av,al av,al av,al av,h];exact Sg E d w o b _ t X R v a i f l p D.2.2.2.2 rfl
 .unfold Et mE;rw[al av];have z:o.kind=0\/o.kind=1\/o.kind=2:=av;rcases z with h|h|h
  .rw[ax h,h];exact Sh E d w o b s t X R av
  .rw[al av,ax h,h];exact Si E d w o b s t X R λv f=>by have:=H v f;omega
  .rw[al av,al av,h];exact Sj E d w o b s t X R av D.2.2.2.2
def hX(a:Nat)(cells:List V)(n:Nat):aK:=⟨λi=>if i=a then some cells else none,λ_ _=>false,λ_=>none,n⟩
def abE{h:aK}{a:Nat}{X:List Nat}{c d:V}{r:List V}(hx:h.box a=some (c::r))(f:a∉X)(l:V.lF (oC h X) c d):jE (oC h X) h (hX a (d::r) h.Y) where
 CU id cells e:=by
  unfold oC at e;split at e
  .exact e
  .cases e
 box id cells e:=by
  simp only[hX]at e;split at e
  next h1=>subst h1;cases e;exact⟨by unfold oC;rw[al f],_,hx,.cons l (.refl _)⟩
  .cases e
 fl id j e:=by cases e
 mp id o e:=by cases e
 Y:=an _
def TX(a:Nat)(c:List V)(n:Nat):(hX a c n).box a=some c:=ax rfl
def SE{fz:aj}{a b:V}(h:V.lF fz (.agg [a]) (.agg [b])):V.lF fz a b:=by
 cases h with
 |refl=>exact .refl _
 |agg _ _ _ h=>exact h 0 _ _ rfl rfl
def Ht(fz:aj):V.lF fz (.agg [.aP]) (cg.v ⟨[]⟩):=.agg _ _ rfl λj c d a f=>by
 match j with
 |0=>cases a;cases f;exact .aP _
 |j+1=>cases a
def V1{nr:aK}{a:V}{w:cg}{o:Op}{b:Name}{X:List Nat}(T:RW nr (.agg [a]) w X)(D:X.Nodup):
 RX (nr.cO (a::(o.c++[I b.J,I b.seq,I 0,I 0,I 0,I 0,I 0,I 0]))) nr.Y w o b ⟨0,0,0⟩ ⟨0,0,0⟩ X:=by
 have d:=Vf _ _ _ _ T;refine⟨a,by simp[aK.cO,eQ],?_,D,λh=>absurd (d _ h) (kv _),dn _⟩;exact Zm _ _ _ _ _ T (λj f=>⟨d j f,by simp only[aK.cO];exact bD _ _ (λe=>by have:=d j f;omega)⟩) (fO _)
def OX{E d:aK}{a:Nat}{w:cg}{o:Op}{b:Name}{s t s2 t2:fW}{X:List Nat}(R:RX E a w o b s t X){p:V}(hx:E.box a=some (p::(o.c++[I b.J,I b.seq,I s.i9,I s.k0,I s.idx,I t.i9,I t.k0,I t.idx])))
 (hb:d.box=eQ E.box a (some (p::(o.c++[I b.J,I b.seq,I s2.i9,I s2.k0,I s2.idx,I t2.i9,I t2.k0,I t2.idx])))) (q:d.Y=E.Y):RX d a w o b s2 t2 X:=by
 obtain⟨f,l,T,D,r,y⟩:=R;obtain rfl:f=p:=by rw[hx]at l;have:=ar l;injection this with h _;exact h.symm
 refine⟨f,by rw[hb,bh],?_,D,r,by rw[q];exact y⟩;exact Zm _ _ _ _ _ T (λj u=>⟨Vf _ _ _ _ T j u,by rw[hb];exact bD _ _ (λe=>r (e▸u))⟩) (c0 q.symm)
def aaw:CF GL f162 [39] [6,15,18] 162:=jo
def IL{w:cg}{o:Op}{b:Name}(h0:fu w=0)(a:b.mj=true/\0<=o.kind/\o.kind<=9/\o=nB o):qj w o b=if(Et w o b).2=0 then(if fu (Et w o b).1=0 then((Et w o b).1,0)else(⟨[]⟩,8))else(⟨[]⟩,(Et w o b).2):=by
 unfold qj;rw[al (by simpa using h0),ax a];rfl
def IM{w:cg}{o:Op}{b:Name}(h0:fu w=0)(a:¬(b.mj=true/\0<=o.kind/\o.kind<=9/\o=nB o)):qj w o b=(⟨[]⟩,1):=by
 unfold qj;rw[al (by simpa using h0),al a]
def Fx{w:cg}{o:Op}{b:Name}(h0:fu w≠0):qj w o b=(⟨[]⟩,fu w):=by
 unfold qj;rw[ax h0]
def Kt(w:cg)(cc:w.ok)(o:Op)(ho:o.ok)(ht:∀t∈o.F,t.length<=10000)(b:Name):
 af 162 [w.v,o.v,b.v] (ml (qj w o b)):=by
 have R:=IE w cc;have K:=Rv b;have c3:=RB o.kind;generalize l:ml (qj w o b)=gk;have c7:gk.free=true:=by rw[<-l];unfold ml;simp only[dx]
 refine Pure.gg (by simp only[dx]) c7 (eN hm aaw.ok (bE rfl) ?_);by_cases h0:fu w=0
 .rw[h0]at R;have hf:=nu cc h0;by_cases c9:b.mj=true/\0<=o.kind/\o.kind<=9/\o=nB o
  .rw[IL h0 c9]at l;obtain⟨g1,L,dE,g4⟩:=c9;have c4:=Kc o ho ⟨L,dE⟩;have e4:=R0 o.kind ⟨L,dE⟩;have gn:=Kj w cc;rw[g1]at K;rw[show decide (0<=o.kind/\o.kind<10)=true by simp;omega]at c3;rw[show decide (o=nB o)=true by simpa using g4]at c4;refine UX (UX (UX (UY (J:=λt=>∃(q:Nat)(X:List Nat),t.Z 9=.bp q 0/\RX t.E q w o b ⟨0,0,0⟩ ⟨0,0,0⟩ X/\t.Z 3=.lp 3 0 0/\t.G 3=1/\t.loc 3 0=[cf w.O]/\t.Z 4=.lp 4 0 0/\t.G 4=1/\t.loc 4 0=o.c/\t.G 10=0/\t.G 6=1/\t.loc 6 0=[.aP]/\t.Z 6=.lp 6 0 0) ?_ ?_)))
   .repeat' first|simp only[gE,simprocAttr,Op.v,Op.c]|refine lq R ?_|refine lq K ?_|refine lq c3 ?_|refine lq c4 ?_|refine e9 ?_ ?_
    all_goals
     refine bz (by simp only[sE]<;>done) (gn aK.bare) sT ag ?_;rintro hq _ hi ⟨X,e5,gp,_,_⟩;obtain⟨ab,rfl,T⟩:=id e5;have dU:=T.one
    repeat' first|simp only[gE,simprocAttr,HX.act,Op.v,Op.c,dU]|refine e9 ?_ ?_
    all_goals
     exact⟨_,X,rfl,V1 e5 gp⟩
   .have dd:Ox o.kind=.agg [.fn (261+o.kind.toNat) [],B (decide (3<=o.kind)),B (decide (o.kind=7))]:=rfl;rw[dd]at e4;rintro hr ⟨q,X,ac,ea,ad,ai,aA,aB,aC,aD,a0,a1,a2,a3⟩;have a4:=Cf w o.W cc;have a5:=Cf w o.to cc;repeat' first|simp only[gE,simprocAttr,ac,ad,ai,aA,a1,a3,aB,aC,aD,a0,a2,Op.v,Op.c]|refine lq e4 ?_
    refine ei (uD (J:=λt=>t.Z 9=.bp q 0/\t.Z 3=.lp 3 0 0/\t.G 3=1/\t.loc 3 0=[cf w.O]/\t.Z 4=.lp 4 0 0/\t.G 4=1/\t.loc 4 0=o.c/\t.Z 10=.lp 10 0 0/\t.G 10=1/\t.loc 10 0=[.fn (261+o.kind.toNat) [],B (decide (3<=o.kind)),B (decide (o.kind=7))]/\t.G 6=1/\t.loc 6 0=[.aP]/\t.Z 6=.lp 6 0 0/\
     ((t.Z 11=B false/\2<o.kind/\ef o.W 0 w.O=none)\/(t.Z 11=B true/\∃s X,RX t.E q w o b s ⟨0,0,0⟩ X/\(2<o.kind->∃j,ef o.W 0 w.O=some j/\s=jm (some j))))) ?_ ?_)
    .obtain⟨ab,hx,ha,dU⟩:=ea.cells;by_cases y:3<=o.kind
     .have p:decide (3<=o.kind)=true:=dk y;rcases A:ef o.W 0 w.O with _|⟨⟨v,a,i⟩⟩
      .rw[A]at a4;simp only[jm,cG]at a4;repeat' first|simp(disch:=try exact om) only[gE,simprocAttr,ac,ad,ai,aA,a1,a3,aB,aC,aD,a0,a2,p,Op.v,Op.c]|refine lq a4 ?_
       refine cJ (n:=3) (off:=20) (cells:=ab::(o.c++[I b.J,I b.seq,I 0,I 0,I 0,I 0,I 0,I 0])) ?_ ?_ (by simp[Op.c]) λeb te tc tl tb tm ch ed=>?_
       .exact sT
       .exact sT
       repeat' simp only[gE,simprocAttr,te,tc,tl,ac,ad,ai,aA,a1,a3,aB,aC,aD,a0,a2,Op.c]
       exact .inl av
      .rw[A]at a4;simp only[jm,fg]at a4;repeat' first|simp(disch:=try exact om) only[gE,simprocAttr,ac,ad,ai,aA,a1,a3,aB,aC,aD,a0,a2,p,Op.v,Op.c]|refine lq a4 ?_
       refine cJ (n:=3) (off:=20) (cells:=ab::(o.c++[I b.J,I b.seq,I 0,I 0,I 0,I 0,I 0,I 0])) ?_ ?_ (by simp[Op.c]) λeb te tc tl tb tm ch ed=>?_
       .exact sT
       .exact sT
       have ci:=tb.trans sT;have cp:=ch.trans sT;have a6:=OX (s2:=⟨v,a,i⟩) (t2:=⟨0,0,0⟩) ea hx ci cp;repeat' simp only[gE,simprocAttr,te,tc,tl,ac,ad,ai,aA,a1,a3,aB,aC,aD,a0,a2,Op.c]
       exact .inr ⟨_,X,a6,λ_=>⟨_,rfl,rfl⟩⟩
     .have p:decide (3<=o.kind)=false:=dZ y;repeat' simp only[gE,simprocAttr,ac,ad,ai,aA,a1,a3,aB,aC,aD,a0,a2,p,Op.v,Op.c]
      exact .inr ⟨_,X,ea,λh=>av⟩
    rintro hs ⟨a7,a8,a9,bi,bl,bo,bs,bu,bv,bY,N,P,Q,el⟩;rcases el with⟨D,y,c1⟩|⟨D,z,c2,et,dr⟩
    .rw[show Et w o b=(w,6)by unfold Et mr;rw[ax y,c1]]at l;rw[al bT]at l;subst l;repeat' first|simp only[gE,simprocAttr,a7,a8,a9,bi,bl,bo,bs,bu,bv,bY,N,P,Q,D,Op.v,Op.c]|refine gs ?_ ?_<;>intro h<;>try simp only[h,dtf]|refine ei ?_
     all_goals exact fin2 (by simp only[ee,simprocAttr,bx,bQ,N,P,Q]<;>rfl) rfl ev (l6 _ []) (Ht _)
    obtain⟨ab,hx,ha,dU⟩:=et.cells;refine ei (uD (J:=λt=>t.Z 9=.bp q 0/\t.Z 10=.lp 10 0 0/\t.G 10=1/\t.loc 10 0=[.fn (261+o.kind.toNat) [],B (decide (3<=o.kind)),B (decide (o.kind=7))]/\t.G 6=1/\t.loc 6 0=[.aP]/\t.Z 6=.lp 6 0 0/\
     ((t.Z 11=B false/\o.kind=7/\ef o.to 0 w.O=none)\/(t.Z 11=B true/\∃s2 X,RX t.E q w o b z s2 X/\(o.kind=7->∃j,ef o.to 0 w.O=some j/\s2=jm (some j))))) ?_ ?_)
    .by_cases y:o.kind=7
     .have p:decide (o.kind=7)=true:=dk y;rcases A:ef o.to 0 w.O with _|⟨⟨v,a,i⟩⟩
      .rw[A]at a5;simp only[jm,cG]at a5;repeat' first|simp(disch:=try exact om) only[gE,simprocAttr,a7,a8,a9,bi,bl,bo,bs,bu,bv,bY,N,P,Q,D,p,Op.v,Op.c]|refine lq a5 ?_
       refine cJ (n:=3) (off:=23) (cells:=ab::(o.c++[I b.J,I b.seq,I z.i9,I z.k0,I z.idx,I 0,I 0,I 0])) ?_ ?_ (by simp[Op.c]) λeb te tc tl tb tm ch ed=>?_
       .exact sT
       .exact sT
       repeat' simp only[gE,simprocAttr,te,tc,tl,a7,a8,a9,bi,bl,bo,bs,bu,bv,bY,N,P,Q,Op.c]
       exact⟨by rw[p],.inl y⟩
      .rw[A]at a5;simp only[jm,fg]at a5;repeat' first|simp(disch:=try exact om) only[gE,simprocAttr,a7,a8,a9,bi,bl,bo,bs,bu,bv,bY,N,P,Q,D,p,Op.v,Op.c]|refine lq a5 ?_
       refine cJ (n:=3) (off:=23) (cells:=ab::(o.c++[I b.J,I b.seq,I z.i9,I z.k0,I z.idx,I 0,I 0,I 0])) ?_ ?_ (by simp[Op.c]) λeb te tc tl tb tm ch ed=>?_
       .exact sT
       .exact sT
       have ci:=tb.trans sT;have cp:=ch.trans sT;have a6:=OX (s2:=z) (t2:=⟨v,a,i⟩) et hx ci cp;repeat' simp only[gE,simprocAttr,te,tc,tl,a7,a8,a9,bi,bl,bo,bs,bu,bv,bY,N,P,Q,Op.c]
       exact⟨by rw[p],.inr ⟨_,c2,a6,λ_=>⟨_,rfl,rfl⟩⟩⟩
     .have p:decide (o.kind=7)=false:=dZ y;repeat' simp only[gE,simprocAttr,a7,a8,a9,bi,bl,bo,bs,bu,bv,bY,N,P,Q,D,p,Op.v,Op.c]
      exact .inr ⟨_,c2,et,λh=>absurd h y⟩
    rintro t2 ⟨b2,b3,ca,cb,b5,b6,b7,el⟩;rcases el with⟨H,y,c1⟩|⟨H,s2,eK,hc,e6⟩
    .rw[show Et w o b=(w,6)by
      obtain⟨j,h,_⟩:=dr av;unfold Et mr;rw[ax av,h];simp only[ax y,c1]]at l
     rw[al bT]at l;subst l;repeat' simp only[gE,simprocAttr,b2,b3,ca,cb,b5,b6,b7,H,Op.v,Op.c]
     exact Ui
    have e1:fK prog (261+o.kind.toNat)=true:=by
     have e7:o.kind=0\/o.kind=1\/o.kind=2\/o.kind=3\/o.kind=4\/o.kind=5\/o.kind=6\/o.kind=7\/o.kind=8\/o.kind=9:=av;rcases e7 with h|h|h|h|h|h|h|h|h|h<;>rw[h]
     .exact VP
     .exact VQ
     .exact VS
     .exact VT
     .exact VU
     .exact VV
     .exact VW
     .exact VX
     .exact VY
     .exact VZ
    have fa:=V0 t2.E q w o b z s2 eK hc hf ho ht ⟨L,dE⟩ dr e6;have c5:(Et w o b).1.ok:=by
     exact Tm
    generalize Et w o b=r at fa l c5;obtain⟨W,e⟩:=r;simp only at l c5;repeat' simp only[gE,simprocAttr,b2,b3,ca,cb,b5,b6,b7,H]
    refine kw (h0:=t2.E) (f:=261+o.kind.toNat) (cap:=[]) ?_ ?_ e1 fa ?_ ?_ ?_
    .exact sT
    .exact sT
    .simp only[bR,cm,da,simprocAttr,bx,bQ];rfl
    .refine mV ?_;simp only[ee]<;>rfl
    rintro u _ hj ⟨rfl,hd⟩;by_cases e2:e=0
    .subst e2;obtain⟨e3,a6⟩:=hd rfl;obtain⟨fr,c6,hk,fs⟩:=a6.cells;obtain⟨fB,ds,he,hu,gb,hl⟩:=id a6;obtain rfl:fB=fr:=by rw[c6]at ds;have:=ar ds;injection this with h _;exact h.symm
     obtain⟨hn,hg,gf⟩:=he;cases hg;have hh:=IE W c5;repeat' simp only[gE,simprocAttr,b2,b3,ca,cb,b5,b6,b7,H,c6,fs]
     refine Ak (abE (X:=e3) (d:=cf W.O) c6 gb (SE (DT gf))) hh sT ?_ ?_
     .exact h9.cons (DT gf) .nil
     by_cases df:fu W=0
     .rw[ax rfl,ax df]at l;subst l;repeat' simp only[gE,simprocAttr,b2,b3,ca,cb,b5,b6,b7,df,TX]
      all_goals exact fin2 (by simp only[ee,simprocAttr,bx,bQ,b5,b6,b7]<;>rfl) rfl ev (l6 _ []) (.refl _)
     .rw[ax rfl,al df]at l;subst l;repeat' first|simp only[gE,simprocAttr,b2,b3,ca,cb,b5,b6,b7,df,TX]|refine cs ?_ ?_<;>intro h<;>try omega
      exact Ui
    .rw[al e2]at l;subst l;repeat' first|simp only[gE,simprocAttr,b2,b3,ca,cb,b5,b6,b7,H,e2]|refine cs ?_ ?_<;>intro h<;>try omega
     exact Ui
  .rw[IM h0 c9]at l;subst l;by_cases g1:b.mj=true
   .rw[g1]at K;by_cases L:0<=o.kind/\o.kind<=9
    .have c4:=Kc o ho L;rw[show decide (0<=o.kind/\o.kind<10)=true by simp;omega]at c3;rw[show decide (o=nB o)=false by simp;exact λe=>c9 ⟨g1,L.1,L.2,e⟩]at c4;repeat' first|simp only[gE,simprocAttr,Op.v,Op.c]|refine lq R ?_|refine lq K ?_|refine lq c3 ?_|refine lq c4 ?_
     exact PV
    .rw[show decide (0<=o.kind/\o.kind<10)=false by simp;omega]at c3;repeat' first|simp only[gE,simprocAttr,Op.v,Op.c]|refine lq R ?_|refine lq K ?_|refine lq c3 ?_
     exact PV
   .rw[show b.mj=false by simpa using g1]at K;repeat' first|simp only[gE,simprocAttr,Op.v,Op.c]|refine lq R ?_|refine lq K ?_
    exact PV
 .rw[Fx h0]at l;subst l;repeat' first|simp only[gE,simprocAttr,Op.v,Op.c,h0]|refine cs ?_ ?_<;>intro h<;>try omega|refine lq R ?_
  exact PV
def SF(w:cg)(d:w.ok)(o:Op)(f:o.ok)(j:∀t∈o.F,t.length<=10000)(b:Name):
 af 215 [w.v,o.v,b.v] (I (qj w o b).2):=by
 have a:=Kt w d o f j b;unfold ml at a;generalize qj w o b=r at*
 obtain⟨x,e⟩:=r;simp only at a;refine pk f215 ?_ [16];repeat' first|simp(disch:=try exact om) only[gE,simprocAttr,Op.v,Op.c]|refine lq a ?_|refine q1 ?_
 all_goals exact ak rfl
def Ku{w:cg}{o:Op}{b:Name}(h:(qj w o b).2=0):fu w=0/\(b.mj=true/\0<=o.kind/\o.kind<=9/\o=nB o)/\(Et w o b).2=0:=by
 by_cases a:fu w=0
 .by_cases d:b.mj=true/\0<=o.kind/\o.kind<=9/\o=nB o
  .rw[IL a d]at h;refine⟨a,d,?_⟩;by_cases f:(Et w o b).2=0
   .exact f
   .rw[al f]at h;exact h
  .rw[IM a d]at h;cases h
 .rw[Fx a]at h;exact absurd h a
def do8{w:cg}{o:Op}{b:Name}(h:(qj w o b).2=0)(f:o.kind=8):1<=o.n/\o.n<=4/\q9 o=true:=by
 obtain⟨_,_,a⟩:=Ku h;unfold Et mr at a;rw[ax av]at a;split at a
 .cases a
 .rw[al av,al av,al av,al av,al av,ax f]at a;unfold C2 at a;simp only at a;split at a
  next d=>exact⟨d.1,d.2.1,d.2.2.2.2.2⟩
  .cases a
def Kv{o:Op}(h:q9 o=true){i:Nat}(a:i<o.cW.length):0<=o.cW[i].1/\o.cW[i].1<o.n:=by
 have:=bO.1 h i (dm.2 a);simp only[o5,se a,be,cq]at this;exact⟨this.1.1,this.1.2.1⟩
def SG{w:cg}(d:w.ok)(a:ID):(0<=(jm (ef a 0 w.O)).i9)/\(0<=(jm (ef a 0 w.O)).k0)/\0<=(jm (ef a 0 w.O)).idx/\(jm (ef a 0 w.O)).idx<=1000000:=by
 rcases f:ef a 0 w.O with _|⟨v,b,i⟩
 .simp[jm]
 .obtain⟨j,l,o,_⟩:=jT f;have:=((d.2.1 _ (ah j)).2 _ (ah l)).2.1;simp only[jm];omega
def LY.mark{w:cg}{s:fW}{G:List ID}{L:List cI}{E:aK}(H:LY w s G L E)(a:ID):LY w s (tK G a) L (E.eJ 0 (fk ID.v (setOf (tK G a)))):=by
 obtain⟨q1,q,d,f,j,v,l,o,p⟩:=H;exact⟨q1,by simp[aK.eJ],d,f,j,v,l,o.frame (λ_ _=>rfl) (an _),p⟩
def LY.push{w:cg}{s:fW}{G:List ID}{L:List cI}{x:cI}{E a d:aK}{v v':V}(H:LY w s G L E)(u:E.box 4=some [v])(q:gu 6 a v' (L.map cI.v++[x.v]))(hb:bA (bI v) E a)(y:bI v'=bI v\/bI v'=some E.Y)
 (tb:d.box=eQ a.box 4 (some [v'])) (tm:d.mp=a.mp) (r:d.Y=a.Y):LY w s G (L++[x]) d:=by
 obtain⟨q1,z,A,D,N,K,o,P,t⟩:=H;obtain rfl:K=v:=by rw[u]at o;simpa using o.symm
 have Q:E.Y<=a.Y:=hb.Y;have l:∀j,j<=4->a.box j=E.box j:=λj f=>hb.box j av (λe=>by have:=t j e;omega);have p:∀j,bI v'=some j->4<j:=λj f=>by
  rcases y with h|h
  .exact t j (h▸f)
  .rw[h]at f;have:=ar f;omega
 have hx:∀j,j≠4->d.box j=a.box j:=λj f=>by rw[tb];exact bD _ _ f
 refine⟨?_,?_,?_,?_,?_,v',by rw[tb,bh],?_,p⟩
 .rw[hx 1 du,l 1 av];exact q1
 .rw[tm,hb.mp 0 av];exact z
 .rw[hx 2 du,l 2 av];exact A
 .rw[hx 3 du,l 3 av];exact D
 .rw[r];omega
 .rw[az];exact q.frame (λj f=>hx j (by have:=p j f;omega)) (c0 r.symm)
def SH(w:cg)(q:w.ok)(o:Op)(e3:o.ok)(e4:∀t∈o.F,t.length<=10000)(ho:o.cW.length<=100000)(b:Name)(a2:(qj w o b).2=0):
 af 163 [w.v,o.v,b.v] (.hJ [hE (LL w o b),I 0]):=by
 have c7:=SF w q o e3 e4 b;rw[a2]at c7;have c9:=Cf w o.W q;have c3:=VO w q;obtain⟨hq,hr,hs,ht⟩:=SG q o.W;have e5:=do8 a2;obtain⟨dd,e2,_⟩:=Ku a2;have hM:=(nu q dd).2.1;have hu:(kr w).length<=(dj w).length:=by
  exact Um
 generalize a8:V.hJ [hE (LL w o b),I 0]=e6;have a9:e6.free=true:=by rw[<-a8];simp only[dx]
 unfold LL at a8;simp only at a8;generalize (ef o.W 0 w.O).isSome=hv at c9;generalize jm (ef o.W 0 w.O)=s at*
 refine Pure.gg (by simp only[dx]) a9 (eN hm aak.ok (bE rfl) ?_);repeat' first|simp only[gE,simprocAttr,Op.v,Op.c,HX.act]|refine lq c7 ?_
 refine cJ (n:=1) (off:=0) (cells:=[.qs]) sT (by simp only[da]<;>rfl) bT λcp vI FH FI bu bv bY df=>?_;have e7:cp.E.box 1=some [.mp 0]:=by rw[bu];(simp only[da]);exact bh _ _ _
 have fa:cp.E.mp 0=some (.map []):=by rw[bv];simp only[da]
 have n1:cp.E.Y=2:=bY.trans sT;clear bu bv bY df;repeat' first|simp(disch:=try exact om) only[gE,simprocAttr,Op.v,Op.c,HX.act,vI,FH,FI,n1]|refine lq c9 ?_
 refine cJ (n:=3) (off:=0) (cells:=[I 0,I 0,I 0]) (by simp only[da,n1]) (by simp only[da]<;>rfl) (by simp) λbi yL Hk Hl P ad ai dr=>?_;have fr:bi.E.box 2=some [I s.i9,I s.k0,I s.idx]:=by rw[P];(simp only[da]);exact bh _ _ _
 have ds:bi.E.box 1=some [.mp 0]:=by rw[P,bD _ _ du];simp only[da,n1];exact e7
 have fs:bi.E.mp 0=some (.map []):=by rw[ad];simp only[da];exact fa
 have n2:bi.E.Y=3:=ai.trans sT;clear P ad ai dr;repeat' simp only[gE,simprocAttr,Op.v,Op.c,HX.act,vI,FH,FI,yL,Hk,Hl,n1,n2]
 refine cJ (n:=1) (off:=0) (cells:=[.wR]) (by simp only[da,n2]) (by simp only[da]<;>rfl) (by simp) λA z7 Hu Hv aA b2 b3 dE=>?_;have fB:A.E.box 3=some [.fn 216 [.ep [cf w.O],.bp 2 0,.bp 1 0]]:=by rw[aA];(simp only[da,vI,yL]);exact bh _ _ _
 have dU:A.E.box 1=some [.mp 0]:=by rw[aA,bD _ _ du];simp only[da,n2];exact ds
 have ea:A.E.box 2=some [I s.i9,I s.k0,I s.idx]:=by rw[aA,bD _ _ du];simp only[da,n2];exact fr
 have gb:A.E.mp 0=some (.map []):=by rw[b2];simp only[da];exact fs
 have n3:A.E.Y=4:=b3.trans sT;clear aA b2 b3 dE;have u:LY w s [] [] (A.E.cO [.aP]):=⟨by(simp only[da,n3]);exact dU,by(simp only[da]);exact gb,by(simp only[da,n3]);exact ea,by(simp only[da,n3]);exact fB,by simp only[da,n3],.aP,by simp only[da,n3],gu.nil,λi h=>by cases h⟩;generalize hH:A.E.cO [.aP]=fA at u;repeat' simp only[gE,simprocAttr,Op.v,Op.c,HX.act,vI,FH,FI,yL,Hk,Hl,z7,Hu,Hv,n1,n2,n3,hH]
 refine ei (uD (J:=λt=>LY w s ((qM w o s).foldl tK []) ((p9 o).map (uP w s b)) t.E/\t.Z 3=.ep [cf w.O]/\t.Z 9=.bp 1 0/\t.Z 13=.bp 4 0) ?_ ?_)
 .have hw: -1000000000<=s.idx/\s.idx<=1000000000:=av;have c1:=u.2.2.2.1;by_cases Q:o.kind=3
  .have D:qM w o s=[o8 w s 0]:=ax Q;have ep:p9 o=[]:=by unfold p9;simp[Q]
   rw[D,ep];repeat' simp only[gE,simprocAttr,Op.v,Op.c,HX.act,vI,FH,FI,yL,Hk,Hl,z7,Hu,Hv,n1,n2,n3,hH,Q,c1]
   refine kw (h0:=fA) (f:=216) (cap:=[.ep [cf w.O],.bp 2 0,.bp 1 0]) sT (by simp only[da]<;>rfl) Iy (Fs fA w q s 0 [] 2 1 0 u.2.2.1 u.1 u.2.1 ⟨av,av,av,av⟩) sT (aV.cons (.refl _) (aV.cons (.refl _) (aV.cons (.refl _) (aV.cons (.refl _) aV.nil)))) ?_;rintro _ _ p ⟨rfl,rfl⟩;repeat' simp only[gE,simprocAttr,Op.v,Op.c,HX.act,vI,FH,FI,yL,Hk,Hl,z7,Hu,Hv,n1,n2,n3,hH]
   exact u.mark _
  by_cases aD:o.kind=4
  .have ep:p9 o=[(0,0),(0,1)]:=ax aD;have D:qM w o s=[o8 w s 0,o8 w s 0]:=by unfold qM;rw[al Q,al av,ep];rfl
   rw[D,ep];repeat' simp only[gE,simprocAttr,Op.v,Op.c,HX.act,vI,FH,FI,yL,Hk,Hl,z7,Hu,Hv,n1,n2,n3,hH,aD]
   refine kw (h0:=fA) (f:=218) (cap:=[.bp 4 0,.bp 3 0,.ep [I b.J,I b.seq]]) sT sT Ck (xJ fA w q s b 0 0 [] [] u bT ⟨av,av,av,av⟩) sT (aV.cons (.refl _) (aV.cons (.refl _) (aV.cons (.refl _) (aV.cons (.refl _) (aV.cons (.refl _) aV.nil))))) ?_;rintro _ _ p a3;repeat' simp only[gE,simprocAttr,Op.v,Op.c,HX.act,vI,FH,FI,yL,Hk,Hl,z7,Hu,Hv,n1,n2,n3,hH]
   refine kw (h0:=p) (f:=218) (cap:=[.bp 4 0,.bp 3 0,.ep [I b.J,I b.seq]]) sT sT Ck (xJ p w q s b 0 1 _ _ a3 bT ⟨av,av,av,av⟩) sT (aV.cons (.refl _) (aV.cons (.refl _) (aV.cons (.refl _) (aV.cons (.refl _) (aV.cons (.refl _) aV.nil))))) ?_;exact X2
  by_cases a4:o.kind=5
  .have ep:p9 o=[(0,0),(1,0)]:=by unfold p9;rw[al aD,ax a4]
   have D:qM w o s=[o8 w s 0,o8 w s 1]:=by unfold qM;rw[al Q,al av,ep];rfl
   rw[D,ep];repeat' simp only[gE,simprocAttr,Op.v,Op.c,HX.act,vI,FH,FI,yL,Hk,Hl,z7,Hu,Hv,n1,n2,n3,hH,a4]
   refine kw (h0:=fA) (f:=218) (cap:=[.bp 4 0,.bp 3 0,.ep [I b.J,I b.seq]]) sT sT Ck (xJ fA w q s b 0 0 [] [] u bT ⟨av,av,av,av⟩) sT (aV.cons (.refl _) (aV.cons (.refl _) (aV.cons (.refl _) (aV.cons (.refl _) (aV.cons (.refl _) aV.nil))))) ?_;rintro _ _ p a3;repeat' simp only[gE,simprocAttr,Op.v,Op.c,HX.act,vI,FH,FI,yL,Hk,Hl,z7,Hu,Hv,n1,n2,n3,hH]
   refine kw (h0:=p) (f:=218) (cap:=[.bp 4 0,.bp 3 0,.ep [I b.J,I b.seq]]) sT sT Ck (xJ p w q s b 1 0 _ _ a3 bT ⟨av,av,av,av⟩) sT (aV.cons (.refl _) (aV.cons (.refl _) (aV.cons (.refl _) (aV.cons (.refl _) (aV.cons (.refl _) aV.nil))))) ?_;exact X2
  by_cases ab:o.kind=8
  .obtain⟨hy,hz,eb⟩:=e5 ab;have ep:p9 o=o.cW:=by unfold p9;rw[al aD,al a4,ax ab]
   have D:qM w o s=((List.range o.n.toNat).map λi:Nat=>o8 w s i)++o.cW.map λx=>o8 w s x.1:=by unfold qM;rw[al Q,ax ab]
   rw[D,ep];obtain⟨N,gf⟩:∃N:Nat,o.n=N:=⟨o.n.toNat,av⟩;repeat' simp only[gE,simprocAttr,Op.v,Op.c,HX.act,vI,FH,FI,yL,Hk,Hl,z7,Hu,Hv,n1,n2,n3,hH,ab,gf]
   refine dT rfl rfl (λ(j:Nat) z=>j<=N/\z.Z 59=I j/\LY w s (((List.range j).map λi:Nat=>o8 w s i).foldl tK []) [] z.E/\z.G 4=1/\z.loc 4 0=o.c) (λj=>N-j) 0 ?_ ?_
   .refine⟨aL _,?_⟩;simp only[sE,simprocAttr,q5,Op.v,Op.c,HX.act,vI,FH,FI,yL,Hk,Hl,z7,Hu,Hv,n1,n2,n3,hH];exact⟨u,rfl⟩
   rintro j z ⟨g1,bl,a0,g4,g5⟩ R;have b5:z.Z 12=.bp 3 0:=by rw[R 12 du];simp only[sE,simprocAttr,q5,Op.v,Op.c,HX.act,vI,FH,FI,yL,Hk,Hl,z7,Hu,Hv,n1,n2,n3,hH]
   have b6:z.Z 58=I N:=(R 58 du).trans sT;have hB:z.Z 14=.fn 218 [.bp 4 0,.bp 3 0,.ep [I b.J,I b.seq]]:=(R 14 du).trans sT;have gk:z.Z 4=.lp 4 0 0:=by rw[R 4 du];simp only[sE,simprocAttr,q5,Op.v,Op.c,HX.act,vI,FH,FI,yL,Hk,Hl,z7,Hu,Hv,n1,n2,n3,hH]
   have gn:z.Z 3=.ep [cf w.O]:=by rw[R 3 du];simp only[sE,q5,Op.v,Op.c,HX.act,vI,FH,FI,yL,Hk,Hl,z7,Hu,Hv,n1,n2,n3,hH]<;>rfl
   have hO:z.Z 9=.bp 1 0:=by rw[R 9 du];simp only[sE,simprocAttr,q5,Op.v,Op.c,HX.act,vI,FH,FI,yL,Hk,Hl,z7,Hu,Hv,n1,n2,n3,hH]
   have hD:z.Z 13=.bp 4 0:=(R 13 du).trans sT;have gp:=a0.2.2.2.1;clear R;rcases am j N with ac|ac
   .repeat' first|simp only[gE,simprocAttr,bl,b5,b6,gp]|refine cs ?_ ?_<;>intro h<;>try omega
    refine kw (h0:=z.E) (f:=216) (cap:=[.ep [cf w.O],.bp 2 0,.bp 1 0]) sT (by simp only[da]<;>rfl) Iy (Fs z.E w q s j _ 2 1 0 a0.2.2.1 a0.1 a0.2.1 ⟨av,av,av,av⟩) sT (aV.cons (ak (by simp only[ee,bl]<;>rfl)) (aV.cons (.refl _) (aV.cons (.refl _) (aV.cons (.refl _) aV.nil)))) ?_;rintro _ _ p ⟨rfl,rfl⟩;repeat' simp(disch:=omega) only[gE,simprocAttr,bl]
    refine⟨j+1,⟨?_⟩,⟨av⟩⟩;refine⟨ac,by(simp only[sE]);exact aq (V.int .i64) av,?_,by(simp only[sE]);exact g4,by(simp only[sE]);exact g5⟩;rw[dX,az,de];exact a0.mark _
   .obtain rfl:j=N:=av;repeat' first|simp only[gE,simprocAttr,bl,b5,b6,gk,g4,g5,Op.c]|refine cs ?_ ?_<;>intro h<;>try omega
    refine dT rfl rfl (λ(k:Nat) y=>k<=o.cW.length/\y.Z 69=I k/\LY w s ((((List.range j).map λi:Nat=>o8 w s i)++(o.cW.take k).map λx=>o8 w s x.1).foldl tK []) ((o.cW.take k).map (uP w s b)) y.E) (λk=>o.cW.length-k) 0 ?_ ?_
    .refine⟨aL _,?_⟩;simp only[da,simprocAttr];rw[cD];exact a0
    rintro k y ⟨ha,H,K⟩ d;have b7:y.Z 14=.fn 218 [.bp 4 0,.bp 3 0,.ep [I b.J,I b.seq]]:=(d 14 du).trans sT;have a67:y.Z 67=jz o.cW:=(d 67 du).trans sT;have ca:y.Z 68=I o.cW.length:=(d 68 du).trans sT;have hc:y.Z 3=.ep [cf w.O]:=by rw[d 3 du];simp only[da];exact gn
    have a1:y.Z 9=.bp 1 0:=(d 9 du).trans sT;have r:y.Z 13=.bp 4 0:=(d 13 du).trans sT;rcases am k o.cW.length with bo|bo
    .have hb:=Kv eb bo;have hQ:((o.cW.take k).map (uP w s b)).length=k:=by rw[au,aG];omega
     have cc:=xJ y.E w q s b o.cW[k].1 o.cW[k].2 _ _ K av ⟨av,av,av,av⟩;repeat' first|simp(disch:=try exact om) only[gE,simprocAttr,H,b7,a67,ca,nb,aQ,aw,ay]|refine cs ?_ ?_<;>intro h<;>try omega
     refine kw (h0:=y.E) (f:=218) (cap:=[.bp 4 0,.bp 3 0,.ep [I b.J,I b.seq]]) sT sT Ck cc sT (aV.cons (.refl _) (aV.cons (.refl _) (aV.cons (.refl _) (aV.cons (.refl _) (aV.cons (.refl _) aV.nil))))) ?_;rintro _ _ p a3;repeat' simp(disch:=omega) only[gE,simprocAttr,H]
     refine⟨k+1,⟨?_⟩,⟨av⟩⟩;refine⟨bo,by(simp only[sE]);exact aq (V.int .i64) av,?_⟩;rw[br bo,az,az,<-aF,de];exact a3
    .obtain rfl:k=o.cW.length:=av;rw[bg]at K;repeat' first|simp only[gE,simprocAttr,H,b7,a67,ca]|refine cs ?_ ?_<;>intro h<;>try omega
     exact⟨K,hc,a1,r⟩
  .have ep:p9 o=[]:=by unfold p9;rw[al aD,al a4,al ab]
   have D:qM w o s=[]:=by unfold qM;rw[al Q,al ab,ep];rfl
   rw[D,ep];repeat' first|simp only[gE,simprocAttr,Op.v,Op.c,HX.act,vI,FH,FI,yL,Hk,Hl,z7,Hu,Hv,n1,n2,n3,hH,Q,aD,a4,ab]|refine cs ?_ ?_<;>intro h<;>try omega
   exact u
 rintro hR ⟨hd,he,hS,f13⟩;have hF:((p9 o).map (uP w s b)).length<=100002:=by
  rw[au];unfold p9;split
  .simp
  .split
   .simp
   .split
    .omega
    .simp
 generalize (p9 o).map (uP w s b)=L at*
 generalize kr w=S at*
 have cb:∀c,(c∈(qM w o s).foldl tK [])↔c∈qM w o s:=λc=>by rw[uT];simp
 generalize qM w o s=gone at*
 generalize gone.foldl tK []=GG at*
 repeat' first|simp only[gE,simprocAttr,he]|refine lq c3 ?_
 refine dT rfl rfl (λ(k:Nat) y=>k<=S.length/\y.Z 83=I k/\LY w s GG (L++pF gone (S.take k)) y.E) (λk=>S.length-k) 0 ?_ ?_
 .refine⟨aL _,?_⟩;simp only[da,simprocAttr];rw[show pF gone []=[]from rfl,cD];exact hd
 rintro k y ⟨ha,H,K⟩ d;have a1:y.Z 9=.bp 1 0:=(d 9 du).trans sT;have r:y.Z 13=.bp 4 0:=(d 13 du).trans sT;have ch:y.Z 81=hE S:=(d 81 du).trans sT;have a82:y.Z 82=I S.length:=(d 82 du).trans sT;have hK:=vp gone S k;rcases am k S.length with ac|ac
 .have aB:=wB gone ac;obtain⟨q1,ed,hf,c1,el,v,a5,a6,et⟩:=id K;have c2:=a6.one;repeat' first|simp(disch:=try exact om) only[gE,simprocAttr,H,a1,r,ch,a82,q1,cI.v,aQ,aw,ay]|refine cs ?_ ?_<;>intro h<;>try omega|refine ei ?_
  refine ju qJ (a:=S[k].from_) (l:=setOf GG) (id:=0) (fA:=y.E) sT sT sT ed ?_;rw[Ix];by_cases bs:S[k].from_∈gone
  .rw[ax bs]at aB;rw[dk ((cb _).2 bs)];repeat' simp(disch:=omega) only[gE,simprocAttr,i6,H,a1,r]
   refine⟨k+1,⟨?_⟩,⟨av⟩⟩;refine⟨ac,by(simp only[sE]);exact aq (V.int .i64) av,?_⟩;rw[aB];exact K
  .rw[al bs]at aB;rw[dZ (λh=>bs ((cb _).1 h))];repeat' simp only[gE,simprocAttr,i6,H,a1,r,a5,c2]
   refine iR (xs:=(L++pF gone (S.take k)).map cI.v) (ys:=[S[k].v]) ?_ ?_ ?_ ?_ ?_ rfl ?_ ?_ λc5 aC a7 hb hg=>?_
   .exact sT
   .exact sT
   .intro y d;simp at d;subst d;rfl
   .exact sT
   .simp only[da];intro l hh;cases hh
   .simp only[au,ae,aM,aX];omega
   .intro _ hi;cases hi
   have hj:=a7.one;have eK:=a7.kf;have ci:bA (bI v) y.E aC:=sR hb;have e1:bI c5=bI v\/bI c5=some y.E.Y:=sR hg;repeat' simp only[gE,simprocAttr,r]
   refine cJ (n:=1) (off:=0) (cells:=[v]) ?_ ?_ bT λA te tc tl tb tm hk h2=>?_
   .simp only[sE];rw[ci.box 4 el (λe=>by have:=et 4 e;omega)];exact a5
   .simp only[sE];simp only[jW,eK];simp[hj]
   have P:A.E.box=eQ aC.box 4 (some [c5]):=tb.trans (by simp only[sE];rw[eK];rfl);have ai:=hk.trans sT;have ad:=tm.trans sT;repeat' simp(disch:=omega) only[gE,simprocAttr,te,tc,tl,H]
   refine⟨k+1,⟨?_⟩,⟨av⟩⟩;refine⟨ac,by(simp only[sE]);exact aq (V.int .i64) av,?_⟩;rw[aB,<-aF];exact K.push a5 a7 ci e1 P ad ai
 .obtain rfl:k=S.length:=av;rw[bg]at K;obtain⟨q1,ed,hf,c1,el,v,a5,a6,et⟩:=id K;have c2:=a6.one;have c6:=vp gone S S.length;rw[bg]at c6;have c4:=Fw (L++pF gone S) (by rw[ae];omega);obtain⟨fz,aC,hl,hn⟩:=a6.leF;repeat' first|simp only[gE,simprocAttr,H,a1,r,ch,a82,a5,c2]|refine cs ?_ ?_<;>intro h<;>try omega
  refine Ak (fz:=fz) (h0:=aC) (by(simp only[da]);exact hl) c4 (by simp only[bR,cm,sE,simprocAttr,a6.gD]<;>rfl) (h9.cons (by(simp only[da]);exact hn) .nil) ?_;repeat' simp only[gE,simprocAttr]
  exact⟨nE,_,false,jH,_,_,false,uM ev ev rfl rfl,.refl _,.refl _,λh=>(by cases h),a8,rfl⟩
def Kw(p:List aW)(e:aW):m4 (p++[e])=ke (m4 p) e.name e.eo:=by unfold m4;rw[de];rfl
def SI(p:List aW)(e:aW):m5 (p++[e])=ke (m5 p) e.J ((fN (m5 p) e.J).getD 0+1):=by unfold m5;rw[de];rfl
def SJ(p:List aW)(e:aW):m6 (p++[e])=ke (m6 p) e.J e.eo:=by unfold m6;rw[de];rfl
def GZ{p:List aW}{e:aW}(h:oz p)(d:qN p e):oz (p++[e]):=by
 intro k f;rw[ae,ew]at f;rcases am k p.length with a|a
 .rw[ej a,eX (kY a)];exact h k a
 .obtain rfl:k=p.length:=av;rw[gP (an _),eX (an _),bg];simpa using d
def G0(p:List aW)(e:aW)(b:Int):DZ (p++[e]) b (p++[e]).length=DZ p b p.length+if e.J=b then 1 else 0:=by
 have h:p.length< (p++[e]).length:=bT;have:=Gt (l:=p++[e]) (b:=b) h;rw[ae,ew,this];simp only[gP (an p.length),iN,cw];congr 1;unfold DZ;rw[eX (an _)]
structure Kx(p:List aW)(eo:Int):Prop where
 ticks:uV p
 tlt:∀e∈p,e.eo<eo
 closed:oz p
 g4:∀a,fN (m4 p) a=none\/∃x∈p,x.name=a/\fN (m4 p) a=some x.eo
 g4':∀x∈p,fN (m4 p) x.name≠none
 g5:∀b,(fN (m5 p) b).getD 0=DZ p b p.length
 g6:∀b t,fN (m6 p) b=some t->t<eo
 seq:∀x∈p,0<=x.seq/\x.seq<DZ p x.J p.length
 J:∀x∈p,0<=x.J/\x.J<=5
def Kx.nil:Kx [] 1 where
 ticks:=.nil
 tlt:=λ_ h=>by cases h
 closed:=λ_ h=>absurd h (gQ _)
 g4:=λ_=>.inl rfl
 g4':=λ_ h=>by cases h
 g5:=λ_=>rfl
 g6:=λ_ _ h=>by cases h
 seq:=λ_ h=>by cases h
 J:=λ_ h=>by cases h
def Kx.at{p:List aW}{t:Int}(h:Kx p t)(j:1<=t)(r:aW)(q:r.seq=0)(h0:r.C=[]):qN p (jM p r t) where
 new:=by
  rcases h.g4 (jM p r t).name with h1|⟨x,hx,h1,_⟩
  .exact h1
  .have f:=h.seq x hx;have l:x.J=r.J:=aq Name.J h1;have z:x.seq=r.seq+DZ p r.J p.length:=aq Name.seq h1;rw[l]at f;omega
 seq:=by
  show r.seq+DZ p r.J p.length=(fN (m5 p) r.J).getD 0;rw[h.g5];omega
 eo:=λ_=>by
  show(fN (m6 p) r.J).getD 0<t;cases e:fN (m6 p) r.J with
  |some u=>exact h.g6 _ _ e
  |none=>exact Int.lt_of_lt_of_le du j
 C:=by
  intro a d;have d:a∈(if 0<p.length/\t.tmod 3=0 then zh p else r.C):=d;rw[h0]at d;split at d
  .unfold zh at d;split at d
   next x hx=>
    obtain rfl:=aR.1 d;have hm:=bW hx;rcases h.g4 x.name with h1|⟨y,o,_,f⟩
    .exact absurd h1 (h.g4' x hm)
    .exact⟨_,f,h.tlt y o⟩
   .cases d
  .cases d
def Kx.push{p:List aW}{t y:Int}(h:Kx p t)(z:1<=t)(l:t<y)(r:aW)(A:r.seq=0)(h0:r.C=[])(hb:0<=r.J/\r.J<=5):Kx (p++[jM p r t]) y:=by
 have D:=h.at z r A h0;have H:(jM p r t).eo=t:=rfl;have o:(jM p r t).J=r.J:=rfl;have K:(jM p r t).seq=DZ p r.J p.length:=by show r.seq+_=_;omega
 generalize jM p r t=e at*
 refine⟨jK.2 ⟨h.ticks,List.pairwise_singleton _ _,λa q b hb=>?_⟩,λa q=>?_,GZ h.closed D,λa=>?_,λx hx=>?_,λb=>?_,λb u j=>?_,λx hx=>?_,λx hx=>?_⟩
 .obtain rfl:=aR.1 hb;rw[H];exact h.tlt a q
 .rcases aN.1 q with d|d
  .exact qq (h.tlt a d) l
  .obtain rfl:=aR.1 d;omega
 .rw[Kw,mG];split
  next d=>exact .inr ⟨e,bT,d.symm,rfl⟩
  .rcases h.g4 a with f|⟨x,hx,f,L⟩
   .exact .inl f
   .exact .inr ⟨x,bV _ hx,f,L⟩
 .rw[Kw,mG];split
  .simp
  next d=>
   rcases aN.1 hx with f|f
   .exact h.g4' x f
   .obtain rfl:=aR.1 f;exact absurd rfl d
 .rw[SI,mG,G0,h.g5,o];have:=h.g5 b;split
  next d=>rw[d,ax rfl];rfl
  next d=>rw[al (λf=>d f.symm),this];rfl
 .rw[SJ,mG]at j;split at j
  .cases j;omega
  .exact qq (h.g6 b u j) l
 .rw[G0];rcases aN.1 hx with d|d
  .have:=h.seq x d;split<;>omega
  .obtain rfl:=aR.1 d;rw[ax rfl,o,K];omega
 .rcases aN.1 hx with d|d
  .exact h.J x d
  .obtain rfl:=aR.1 d;rw[o];exact hb
def qb(a:ID):Prop:= -1<=a.J/\a.J<=5/\0<=a.seq/\a.seq<=63/\0<=a.k/\a.k<=16
def wI(Q:ID->Prop)(w:cg):Prop:=∀p∈dj w,Q p.id
abbrev uX(w:cg):Prop:=wI qb w
def Ky:qb ia.id:=by unfold qb ia;simp
def mw{w:cg}{p:aJ}:p∈dj w↔ ∃v∈w.O,∃a∈v.O,p∈a.O:=by
 simp only[dj,lA,mi,dC]
def sm{w:cg}{v a:Nat}{p:aJ}(h:p∈(gX w v a).O):p∈dj w:=by
 unfold gX at h;rw[ap,ap]at h;cases e:w.O[v]? with
 |none=>rw[e]at h;simp at h
 |some x=>
  rw[e,bf]at h;cases d:x.O[a]? with
  |none=>rw[d]at h;cases h
  |some y=>rw[d]at h;exact mw.2 ⟨x,bW e,y,bW d,h⟩
def OY{w:cg}{v a i:Nat}(h:uX w):qb ((gX w v a).O.getD i ia).id:=by
 rw[ap];cases e:(gX w v a).O[i]? with
 |none=>exact Ky
 |some x=>exact h x (sm (bW e))
def wJ{w:cg}{v a:Nat}{x:eg}{p:aJ}(h:p∈dj (k3 w v a x)):p∈dj w\/p∈x.O:=by
 obtain⟨u,j,y,f,E⟩:=mw.1 h;rcases cN j with l|rfl
 .exact .inl (mw.2 ⟨u,l,y,f,E⟩)
 .rcases cN f with d|rfl
  .rw[ap]at d;cases e:w.O[v]? with
   |none=>rw[e]at d;cases d
   |some u=>rw[e]at d;exact .inl (mw.2 ⟨u,bW e,y,d,E⟩)
  .exact .inr E
def Eg{a:ID}{w:cg}{v b i:Nat}(h:ef a 0 w.O=some (v,b,i)):(gX w v b).O.getD i ia∈dj w:=by
 obtain⟨d,f,j,l⟩:=jT h;rw[ff d f,ap,aa j,bf];exact mw.2 ⟨_,ah d,_,ah f,ah j⟩
def ny{Q:ID->Prop}{w:cg}(h:wI Q w){v a i n:Nat}{l:List aJ}(o:∀p∈l,Q p.id):wI Q (kO w v a i n l):=by
 intro p E;rcases wJ E with d|d
 .exact h p d
 .rcases aN.1 d with f|f
  .rcases aN.1 f with j|j
   .exact h p (sm (dQ j))
   .exact o p j
  .exact h p (sm (jJ f))
def Eh{Q:ID->Prop}{w:cg}(h:wI Q w){v a:Nat}{i:Int}{q:aJ}(d:Q q.id):wI Q (yo w v a i q).1:=by
 unfold yo;split
 .exact ny h λp E=>by obtain rfl:=aR.1 E;exact d
 .exact h
def G1{Q:ID->Prop}{w:cg}(h:wI Q w)(o:Op){b:Name}(hb:∀k,0<=k/\k<=16->Q ⟨b.J,b.seq,k⟩):wI Q (mr w o b).1:=by
 unfold mr;split
 .exact h
 next v a i u=>
  have l:=h _ (Eg u);split
  .split
   .exact h
   next A D H r=>
    have t:=h _ (Eg r);intro p E;have d:∀x:aJ,Q x.id->wI Q (k3 w v a ⟨(gX w v a).gR,(gX w v a).O.set i x⟩):=λx hx p E=>by
     rcases wJ E with d|d
     .exact h p d
     .rcases cN d with f|rfl
      .exact h p (sm f)
      .exact hx
    have f:=d _ t;rcases wJ E with q|q
    .exact f p q
    .rcases cN q with y|rfl
     .exact f p (sm y)
     .exact l
  .split
   .exact ny h λp E=>by cases E
   .split
    .unfold LJ;split
     .refine ny h λp E=>?_;simp only[bn,cE,gL]at E;rcases E with rfl|rfl
      .exact hb 0 av
      .exact hb 1 av
     .exact h
    .split
     .unfold zd;simp only;split
      .split
       .exact ny h λp E=>by obtain rfl:=aR.1 E;exact hb 0 av
       .exact h
      .exact h
     .split
      .unfold BK;split
       .exact Eh (ny h λp E=>by cases E) l
       .exact h
      .split
       .unfold C2;simp only;split
        next K=>
         split
         .refine ny h λp E=>?_;obtain⟨j,z,rfl⟩:=cB.1 E;have:=dm.1 z;exact hb j av
         .exact h
        .exact h
       .exact ny h λp E=>by obtain rfl:=aR.1 E;exact l
def Fy{Q:ID->Prop}{w:cg}(h:wI Q w)(o:Op){b:Name}(hb:∀k,0<=k/\k<=16->Q ⟨b.J,b.seq,k⟩):wI Q (mE w o b).1:=by
 unfold mE;split
 .intro p E;obtain⟨v,q,a,f,j⟩:=mw.1 E;rcases aN.1 q with l|l
  .exact h p (mw.2 ⟨v,l,a,f,j⟩)
  .obtain rfl:=aR.1 l;cases f
 .split
  .split
   .intro p E;obtain⟨v,q,a,f,j⟩:=mw.1 E;rcases cN q with l|rfl
    .exact h p (mw.2 ⟨v,l,a,f,j⟩)
    .rcases aN.1 f with d|d
     .rw[ap]at d;cases e:w.O[o.spot.i9.toNat]? with
      |none=>rw[e]at d;cases d
      |some u=>rw[e]at d;exact h p (mw.2 ⟨u,bW e,a,d,j⟩)
     .obtain rfl:=aR.1 d;cases j
   .exact h
  .split
   .exact Eh h (hb 0 av)
   .exact h
def G2{Q:ID->Prop}{w:cg}(h:wI Q w)(o:Op){b:Name}(hb:b.mj=true->∀k,0<=k/\k<=16->Q ⟨b.J,b.seq,k⟩):wI Q (qj w o b).1:=by
 have a:wI Q ⟨[]⟩:=λp E=>by cases E
 unfold qj;split
 .exact a
 .split
  next d=>
   have hb:=hb d.1;have f:wI Q (if 2<o.kind then mr w o b else mE w o b).1:=by
    split
    .exact G1 h o hb
    .exact Fy h o hb
   generalize (if 2<o.kind then mr w o b else mE w o b)=r at*
   simp only;split
   .split
    .exact f
    .exact a
   .exact a
  .exact a
def OZ{w:cg}(h:uX w)(o:Op)(b:Name):uX (qj w o b).1:=G2 h o λhb k a=>by
 simp only[Name.mj,cq]at hb;exact⟨by show -1<=b.J;omega,hb.2.1,hb.2.2.1,hb.2.2.2,a.1,a.2⟩
def Ei{w:cg}{o:Op}{b:Name}(h:(qj w o b).2=0):fu (qj w o b).1=0:=by
 unfold qj at h ⊢
 generalize (if 2<o.kind then mr w o b else mE w o b)=r at*
 simp only at h ⊢
 split at h
 next a=>exact absurd h a
 next a=>
  rw[al a];split at h
  next j=>
   rw[ax j];split at h
   next d=>
    rw[ax d];split at h
    next f=>rw[ax f];exact f
    .cases h
   next d=>exact absurd h d
  .cases h
structure Op.small(o:Op):Prop where
 W:qb o.W
 to:qb o.to
 kind:0<=o.kind/\o.kind<=9
 i9: -1000000<=o.spot.i9/\o.spot.i9<=1000000
 k0: -1000000<=o.spot.k0/\o.spot.k0<=1000000
 idx: -1000000<=o.spot.idx/\o.spot.idx<=1000000
 n: -1000<=o.n/\o.n<=1000
 eD: -1000000<=o.eD/\o.eD<=1000000
 en: -1000000<=o.en/\o.en<=1000000
 bN:o.bN.length<=200
 F:o.F.length<=3/\∀t∈o.F,t.length<=200
 cW:o.cW.length<=16/\∀x∈o.cW,(0<=x.1/\x.1<=100)/\(0<=x.2/\x.2<=100)
 C:o.C.length<=256/\∀r∈o.C,qb r
def Op.small.enc{o:Op}(h:o.small):o.enc:=by
 obtain⟨p,q,r,u,y,z,A,D,H,K,⟨hb,d⟩,⟨L,f⟩,N,j⟩:=h;unfold qb at*
 unfold Op.enc jG;refine⟨⟨?_,?_,?_,?_,?_,?_,?_,?_,?_,?_,?_,?_,?_⟩,av,av,λt l=>by have:=d t l;omega,av,λn a=>?_,av,λn a=>?_⟩;iterate 13 ·omega
 .obtain⟨x,hx,a⟩:=dC.1 a;have:=f x hx;simp only[bn,cE,gL]at a;rcases a with rfl|rfl<;>omega
 .obtain⟨x,hx,a⟩:=dC.1 a;have:=j x hx;simp only[bn,cE,gL]at a;rcases a with rfl|rfl|rfl<;>omega
def Op.small.ok{o:Op}(h:o.small):o.ok:=by
 obtain⟨l,p,q,r,u,y,z,A,D,H,⟨hb,a⟩,⟨K,f⟩,L,j⟩:=h;exact⟨av,av,λt d=>by have:=a t d;omega,av,av⟩
def Op.small.len{o:Op}(h:o.small):(oN o).length<=65536:=by
 obtain⟨h0,p,a,d,q,f,r,j⟩:=h.enc;have l:∀n∈o.head,jG n:=by
  exact XR
 have g1:=h.bN;have t:=h.F.1;have u:=h.cW.1;have g4:=h.C.1;have y:(cX o.head).length<=126:=fL o.head (by simp[Op.head]) l;have z:=my o.bN av;have A:=k9 o.F a d;have D:=qI o.cW;have H:=sd o.C;have K:=fL (jl o.cW) av f;have L:=fL (k8 o.C) av j;unfold oN;simp only[ae];omega
def Ej:qb ⟨0,0,0⟩:=by unfold qb;simp
def nz:iT.small:=by
 refine⟨Ej,Ej,?_,?_,?_,?_,?_,?_,?_,?_,⟨?_,?_⟩,⟨?_,?_⟩,?_,?_⟩<;>simp[iT]
def O0{w:cg}(h:uX w)(n:Int):qb (DO w n):=by
 unfold DO;cases e:(dj w)[(mO n ((dj w).length+1)).toNat]? with
 |none=>unfold qb oo;simp
 |some x=>exact h x (bW e)
def uY{w:cg}(h:uX w)(l:List Int)(k:Int)(n:Nat):(gT w l k n).length=n/\∀r∈gT w l k n,qb r:=by
 unfold gT;refine⟨bT,λr a=>?_⟩;obtain⟨i,_,rfl⟩:=cB.1 a;exact O0 h _
def Fz{w:cg}(h:uX w)(i:Nat):qb ((dj w).getD i ia).id:=by
 rw[ap];cases e:(dj w)[i]? with
 |none=>exact Ky
 |some x=>exact h x (bW e)
def G3{w:cg}(o:w.fits)(l:List Int)(k:Int)(a:ID)(less:Nat):(0<=(sh w l k a less).i9/\(sh w l k a less).i9<=8)/\(0<=(sh w l k a less).k0/\(sh w l k a less).k0<=64)/\(-2000<=(sh w l k a less).idx/\(sh w l k a less).idx<=2000):=by
 obtain⟨u,p,⟨z,q⟩,_⟩:=o;unfold sh;simp only;obtain⟨s,d⟩:∃s,(nc w w.O.length).getD (W l k ((nc w w.O.length).length:Int)).toNat ⟨0,0,0⟩=s:=⟨_,rfl⟩;rw[d];have f:(0<=s.i9/\s.i9<=8)/\(0<=s.k0/\s.k0<=64)/\(gX w s.i9.toNat s.k0.toNat).O.length<=1024:=by
  rw[ap]at d;have hlen:∀v a,(gX w v a).O.length<=1024:=λv a=>by
   unfold gX;rw[ap,ap];cases e:w.O[v]? with
   |none=>simp
   |some x=>
    rw[bf];cases r:x.O[a]? with
    |none=>simp
    |some y=>
     obtain⟨q1,rfl⟩:=aH.1 e;obtain⟨j,rfl⟩:=aH.1 r;rw[bf];exact aT (mF q1 j) p
  cases e:(nc w w.O.length)[(W l k ((nc w w.O.length).length:Int)).toNat]? with
  |none=>rw[e]at d;subst d;exact⟨bT,bT,hlen _ _⟩
  |some x=>
   rw[e,bf]at d;subst d;obtain⟨v,a,rfl,q1,j⟩:=yA w _ (an _) x (bW e);have:=q _ (ah q1);exact⟨⟨bT,by simp;omega⟩,⟨bT,by simp;omega⟩,hlen _ _⟩
 obtain⟨g1,t,A⟩:=f;have hb:=ig l (k+1) (((gX w s.i9.toNat s.k0.toNat).O.length-zq w s a less:Nat)+1:Int) av;refine⟨g1,t,?_⟩;generalize (gX w s.i9.toNat s.k0.toNat).O.length=n at*
 constructor<;>omega
def qY(l:List Int)(k:Int):(km l k).length<=200:=aT (sf l k) av
def wK(l:List Int)(k:Int)(a:ID):(mq l k a).bN.length<=200/\(0<=(mq l k a).eD/\(mq l k a).eD<=3)/\(0<=(mq l k a).en/\(mq l k a).en<=8)/\∀r∈(mq l k a).C,qb r:=by
 have p:=ig l k 8 av;have o:=ig l (k+1) 8 av;have q:=ig l (k+1) 6 av;have t:=sf l (k+2);refine⟨?_,?_,?_,λr f=>?_⟩
 .simp only[mq,ae,sg];generalize W l (k+1) 6=d at*
  obtain⟨d,rfl⟩:∃j:Nat,d=j:=⟨d.toNat,av⟩;have hb:d=0\/d=1\/d=2\/d=3\/d=4\/d=5:=av;have:(qH.getD (d:Int).toNat 0).toNat<=2:=by rcases hb with rfl|rfl|rfl|rfl|rfl|rfl<;>decide
  omega
 .show 0<=wy.getD (W l k 8).toNat 0/\wy.getD (W l k 8).toNat 0<=3;generalize W l k 8=d at*
  obtain⟨d,rfl⟩:∃j:Nat,d=j:=⟨d.toNat,av⟩;have hb:d=0\/d=1\/d=2\/d=3\/d=4\/d=5\/d=6\/d=7:=av;rcases hb with rfl|rfl|rfl|rfl|rfl|rfl|rfl|rfl<;>decide
 .show 0<=(W l (k+1) 8).tdiv 3/\(W l (k+1) 8).tdiv 3<=8;rw[jv o.1];omega
 .simp only[mq,vT,cB]at f;obtain⟨i,_,rfl⟩:=f;have b:=ig l (k+3+i) 9 av;unfold Rk;split
  .unfold qb oo;simp
  .unfold qb;simp only;omega
def Ek(i:Nat)(d:i<=4)(s:Int×List (Int×Int))(h:∀x∈s.2,(0<=x.1/\x.1<=100)/\(0<=x.2/\x.2<=100)):∀k,k<=4->∀x∈(pE i k s).2,(0<=x.1/\x.1<=100)/\(0<=x.2/\x.2<=100)
 |0,_=>h
 |k+1,f=>by
  have ih:=Ek i d s h k av;simp only[pE];split
  .intro x hx;rcases aN.1 hx with a|a
   .exact ih x a
   .obtain rfl:=aR.1 a;simp only;omega
  .exact ih
def Cu(many:Nat)(hm:many<=4)(s:Int×List (Int×Int))(h:∀x∈s.2,(0<=x.1/\x.1<=100)/\(0<=x.2/\x.2<=100)):∀i,i<=4->∀x∈(pV many i s).2,(0<=x.1/\x.1<=100)/\(0<=x.2/\x.2<=100)
 |0,_=>h
 |i+1,a=>Ek i av _ (Cu many hm s h i av) many hm
def Cv(l:List Int)(k:Int)(many m:Nat)(hm:m<=2):∀t∈jF l k many m,t.length<=200:=by
 intro t a;unfold jF at a;rcases cN a with d|rfl
 .obtain⟨i,_,rfl⟩:=cB.1 d;exact qY _ _
 .have:=sf l (k+4*((many-1:Nat):Int));rw[ae,sg];omega
def G4{w:cg}(d:w.fits)(l:List Int)(k:Int){a:ID}(f:qb a):(rh w l k a).small:=by
 have o:=G3 d l (k+2) a 1;have j:=nz;exact {j with W:=f,kind:=by simp[rh],i9:=by simp only[rh];omega,k0:=by simp only[rh];omega,idx:=by simp only[rh];omega}
def C8{w:cg}(d:w.fits)(f:uX w)(l:List Int)(k:Int):(oA w l k).small:=by
 have o:=G3 d l (k+2) ⟨-1,0,0⟩ 0;have j:=nz;have h1:=wK l (k+4) ⟨0,0,0⟩;have p:=vu l (k+4) ⟨0,0,0⟩;have a:=uY f l (k+5) (mq l (k+4) ⟨0,0,0⟩).C.length;exact {j with kind:=by simp[oA],i9:=by simp only[oA];omega,k0:=by simp only[oA];omega,idx:=by simp only[oA];omega,eD:=by simp only[oA];omega,en:=by simp only[oA];omega,bN:=h1.1,C:=⟨by simp only[oA];rw[a.1];omega,a.2⟩}
def Cw{w:cg}(d:uX w)(l:List Int)(k:Int){v a i:Nat}(z:i< (gX w v a).O.length):(jb w l k ⟨v,a,i⟩).small:=by
 have f:=nz;have D:=ig l k (min ((gX w v a).O.length-(i:Int)) 4) av;have H:=ig l (k+1) 3 av;have K:=ig l (k+2) 9 av;have L:=ig l (k+2) 4096 av;have j:=uY d l (k+3) (W l (k+2) 9-6).toNat;have E:=Cu (1+W l (k+1) 3).toNat av (W l (k+2) 4096,[]) (λx hx=>by cases hx) (1+W l k (min ((gX w v a).O.length-(i:Int)) 4)).toNat av;have p:=(BP (1+W l (k+1) 3).toNat av (W l (k+2) 4096,[]) (by simp only;omega) (1+W l k (min ((gX w v a).O.length-(i:Int)) 4)).toNat av).2;have q:=Cv l (k+3) (1+W l (k+1) 3).toNat (W l (k+2) 9-6).toNat av;have A:=xt l (k+3) (1+W l (k+1) 3).toNat (W l (k+2) 9-6).toNat;have dW:qb (((gX w v a).O).getD i ⟨⟨0,0,0⟩,0,0,[],[]⟩).id:=OY d;have t1:(jb w l k ⟨v,a,i⟩).n=1+W l k (min ((gX w v a).O.length-(i:Int)) 4):=rfl;have t2:(jb w l k ⟨v,a,i⟩).F=jF l (k+3) (1+W l (k+1) 3).toNat (W l (k+2) 9-6).toNat:=rfl;have r:(jb w l k ⟨v,a,i⟩).cW=(pV (1+W l (k+1) 3).toNat (1+W l k (min ((gX w v a).O.length-(i:Int)) 4)).toNat (W l (k+2) 4096,[])).2:=rfl;have t:(jb w l k ⟨v,a,i⟩).C=gT w l (k+3) (W l (k+2) 9-6).toNat:=rfl;have u:(jb w l k ⟨v,a,i⟩).W=(((gX w v a).O).getD i ⟨⟨0,0,0⟩,0,0,[],[]⟩).id:=rfl;have y:(jb w l k ⟨v,a,i⟩)={iT with kind:=8,W:=(jb w l k ⟨v,a,i⟩).W,n:=(jb w l k ⟨v,a,i⟩).n,F:=(jb w l k ⟨v,a,i⟩).F,cW:=(jb w l k ⟨v,a,i⟩).cW,C:=(jb w l k ⟨v,a,i⟩).C}:=rfl;generalize jb w l k ⟨v,a,i⟩=o at*
 rw[y];refine {f with W:=?_,kind:=?_,n:=?_,F:=?_,cW:=?_,C:=?_}
 .show qb o.W;rw[u];exact dW
 .simp
 .simp only[t1];omega
 .simp only[t2];exact⟨av,q⟩
 .simp only[r];exact⟨by simp only[aX]at p;omega,E⟩
 .simp only[t];exact⟨av,j.2⟩
def SK{w:cg}(d:w.fits){p:aJ}(E:p∈dj w):p.C.length<=256/\(cr p.bN).length<=256:=by
 obtain⟨_,_,a,f⟩:=d.2.2.2 p E;have j:gl p.bN<=(cr p.bN).length:=sN _ _ _;have l:(cr p.bN).length<=256:=by
  unfold g8 at a;repeat(split at a;cases a)
  omega
 omega
def IN{s:T}{n:Nat}{x:Int}(h:x∈kG s n):0<=x/\x<=n:=by
 unfold kG at h;obtain⟨i,a,rfl⟩:=cB.1 h;have:=dm.1 (jt.1 a).1;omega
def IP{w:cg}(d:w.fits)(f:uX w)(l:List Int)(k:Int):(GT w l k).small:=by
 have h0:=nz;unfold GT;split
 .unfold sW;split
  next v o=>
   have:∀(L:List eM)(j v:Nat),rC j L=some v->v<j+L.length:=by
    intro L;induction L with
    |nil=>intro j v h;cases h
    |cons x r ih=>
     intro j v h;unfold rC at h;split at h
     .cases h;simp
     .have:=ih _ _ h;simp;omega
   have:=this _ _ _ o;have:=d.2.2.1.1;exact Tj
  .split
   .exact {h0 with kind:=bT,bN:=qY _ _}
   .exact h0
 next D=>
  simp only;have E:=Fz f (W l (k+1) (dj w).length).toNat;have q:(dj w).getD (W l (k+1) (dj w).length).toNat ia∈dj w:=by
   have:=ig l (k+1) (dj w).length av;exact Yg
  generalize (dj w).getD (W l (k+1) (dj w).length).toNat ia=p at*
  have y:=SK d q;split
  next v a i o=>
   obtain⟨q1,z,A,K⟩:=jT o;have t:i< (gX w v a).O.length:=by rw[ff q1 z];exact A
   unfold Ft;have hm:=G4 d l k E;have H:=d.2.2.1.1;split
   .exact C8 d f l k
   split
   .exact {h0 with W:=E,kind:=by simp}
   split
   .split
    next N=>
     have hb:=ig l (k+2) (kG p.bN (cr p.bN).length).length av;have:(kG p.bN (cr p.bN).length).getD (W l (k+2) (kG p.bN (cr p.bN).length).length).toNat 0∈kG p.bN (cr p.bN).length:=by
      exact Yg
     have:=IN this;exact {h0 with W:=E,kind:=bT,n:=by simp only;omega}
    .exact hm
   split
   .split
    .exact {h0 with W:=E,kind:=by simp}
    .exact hm
   split
   .exact Cw f l (k+2) t
   split
   .have u:=uY f l (k+2) p.C.length;exact {h0 with W:=E,kind:=bT,C:=⟨by simp only;rw[u.1];exact y.1,u.2⟩}
   split
   .exact {h0 with W:=E,to:=Fz f _,kind:=by simp}
   split
   .have hb:=ig l (k+2) w.O.length av;exact Tj
   split
   .exact h0
   .exact hm
  .exact h0
def aax:CF GL f107 [61] [] 107:=jo
def HP(base E:aK)(dW:Nat)(H:gm)(tid:Nat)(ts:List (T×gU)):Prop:=∃ev f ed a d N,HQ base E dW ev f ed a d N H tid ts
def HP.one{base E:aK}{dW tid:Nat}{H:gm}{ts:List (T×gU)}(h:HP base E dW H tid ts):∃ev f ed a d N,HQ base E dW ev f ed a d N H tid ts/\ev.one=true/\f.one=true/\ed.one=true:=by
 obtain⟨ev,f,ed,a,d,N,Q⟩:=h;exact⟨ev,f,ed,a,d,N,Q,Q.fe.one,Q.fv.one,Q.fd.one⟩
def uZ(n:List (ID×List ID))(k:Nat):Prop:=∀a,((fN n a).getD []).length<=k
def L6{n:List (ID×List ID)}{k:Nat}(h:uZ n k)(x:cI):uZ (jO n x) (k+1):=by
 intro a;unfold jO;split
 .exact aT (h a) (fO _)
 .rw[mG];split
  .simp only[bf,ae,aM,aX];have:=h x.from_;omega
  .exact aT (h a) (fO _)
def wL{k:Nat}:∀(l:List cI) {n:List (ID×List ID)},uZ n k->uZ (l.foldl jO n) (k+l.length)
 |[],n,h=>h
 |x::r,n,h=>by
  have:=wL r (L6 h x);rw[dL,aM,show k+(r.length+1)=k+1+r.length by omega];exact this
def Kz{w:cg}{o:Op}(a:w.ok)(d:o.cW.length<=100000)(b:Name):(LL w o b).length<=1200000:=by
 unfold LL;refine aT (AC _) ?_;rw[ae,au];have f:(p9 o).length<=100002:=by
  unfold p9;split
  .simp
  .split
   .simp
   .split
    .omega
    .simp
 have j:(pF (qM w o (jm (ef o.W 0 w.O))) (kr w)).length<=(kr w).length:=fY _ _;have l:(kr w).length<=(dj w).length:=by
  exact Um
 have p:=a.2.2;omega
def u0{α:Type}[DecidableEq α]{p:List CK}{ag:Bool}{lH:α->V}{P:Program}{GL:aj}{s:St}{f:St->Prop}{pu:Bool}{d:Option Nat}{r:List BI}{m y st:eL}{id j:Nat}{l:List (α×V)}{a:α}{fA:aK}{yv:V}
 (K:yw p ag lH) (hm:s.val m=.mp id) (q:s.val st=.int .i64 (j:Nat)) (t:s.E=fA) (u:fA.mp id=some (.map (fk lH l))) (z:qV l a=some j) (o:s.val y=yv) (A:yv.dY=false)
 (h:er P GL pu r ((s.cu (fA.eJ id (fk lH (jh l a yv)))).ret d .qn false) f):iq P GL (HX.act s (.entryStore m st y)) d pu r s f:=by
 subst o;exact C4 K hm q t u z A h
def O1(a b:ID):dI [.i,.i,.i] [I a.J,I a.seq,I a.k] [I b.J,I b.seq,I b.k]=some (decide (a=b)):=qJ.eq a b
def FA{w:cg}(l:w.ok){o:Op}(ho:o.ok)(ht:∀t∈o.F,t.length<=10000)(b:Name):(qj w o b).1.ok:=by
 have a:(⟨[]⟩:cg).ok:=⟨bT,λv h=>(by cases h),by simp[dj,lA]⟩;by_cases d:fu w=0
 .by_cases f:b.mj=true/\0<=o.kind/\o.kind<=9/\o=nB o
  .rw[IL d f];have hf:=nu l d;have j:(Et w o b).1.ok:=by
    exact Tm
   split
   .split
    .exact j
    .exact a
   .exact a
  .rw[IM d f];exact a
 .rw[Fx d];exact a
def SL(base E:aK)(dW:Nat)(H:gm)(tid:Nat)(ts:List (T×gU))(hH:HP base E dW H tid ts)(ac:H.bN.ok)(K:Nat)(dE:uZ H.next K)(e1:K<=1000000000-2000000)(o:Op)(b3:o.ok)(b5:∀t∈o.F,t.length<=10000)(bY:o.cW.length<=100000)(b:Name):
 aI 107 [.bp dW 0,o.v,b.v] E λu _ q=>u=B (zo H o b).2/\HP base q dW (zo H o b).1 tid ts:=by
 have aA:=Kt H.bN ac o b3 b5 b;unfold ml at aA;refine bq aax.ok rfl ?_;obtain⟨ev,ad,ed,d,p,N,Q,o1,o2,ai⟩:=hH.one;have hx:=Q.box;unfold zo;by_cases r:(qj H.bN o b).2=0
 .rw[ax r];have dU:=SH H.bN ac o b3 b5 bY b r;have e2:=Kz ac bY b;have e3:=(Ku r).1;have aB:=FA ac b3 b5 b;generalize e4:qj H.bN o b=D at*
  obtain⟨W,e⟩:=D;simp only at r aA aB ⊢
  subst r;generalize LL H.bN o b=L at*
  repeat' first|simp(disch:=try exact om) only[gE,simprocAttr,Op.v,Op.c,hx,o1,o2,ai]|refine lq aA ?_|refine lq dU ?_
  refine dT rfl rfl (λ(k:Nat) t=>k<=L.length/\t.Z 41=I k/\HP base t.E dW {H with next:=(L.take k).foldl jO H.next} tid ts/\t.G 5=1/\t.loc 5 0=[I b.J,I b.seq]/\t.G 7=1/\t.loc 7 0=[cf W.O]) (λk=>L.length-k) 0 ?_ ?_
  .refine⟨aL _,?_⟩;simp only[da,simprocAttr,aQ,aw];exact⟨hH,rfl⟩
  rintro k t ⟨g1,a7,a8,g4,g5,g6,b6⟩ f;have b7:t.Z 0=.bp dW 0:=(f 0 du).trans sT;have e5:t.Z 5=.lp 5 0 0:=(f 5 du).trans sT;have e6:t.Z 7=.lp 7 0 0:=(f 7 du).trans sT;have a39:t.Z 39=hE L:=(f 39 du).trans sT;have a40:t.Z 40=I L.length:=(f 40 du).trans sT;clear f hx o1 o2 ai Q;obtain⟨ev,ad,ed,d,p,N,Q,o1,o2,ai⟩:=a8.one;have hx:=Q.box;rcases am k L.length with h1|h1
  .have b2:(L.take (k+1)).foldl jO H.next=jO ((L.take k).foldl jO H.next) L[k]:=by rw[br h1,de];rfl
   have c2:=wL (L.take k) dE;generalize (L.take k).foldl jO H.next=nx at*
   by_cases P:L[k].from_=L[k].to
   .have ca:=(O1 L[k].from_ L[k].to).trans (aq some (dk P));repeat' first|simp(disch:=try exact om) only[gE,simprocAttr,a7,b7,a39,a40,ca,cI.v,bF,aQ,aw,ay]|refine cs ?_ ?_<;>intro h<;>try omega|refine ei ?_
    refine⟨k+1,⟨?_⟩,⟨av⟩⟩;refine⟨h1,by(simp only[da]);exact aq (V.int .i64) av,?_,by(simp only[da]);exact g4,by(simp only[da]);exact g5,by(simp only[da]);exact g6,by(simp only[da]);exact b6⟩;rw[b2,jO,ax P];exact a8
   .have ca:=(O1 L[k].from_ L[k].to).trans (aq some (dZ P));have a9:=(Q.nx.get (a:=L[k].from_)).1;have aC:=c2 L[k].from_;obtain⟨u,bi⟩:∃u,kP N L[k].from_ .aP=u:=⟨_,rfl⟩;obtain⟨old,hold⟩:∃old,(fN nx L[k].from_).getD []=old:=⟨_,rfl⟩;rw[bi]at a9;simp only[hold]at a9 aC;have ea:=a9.one;have cb:jO nx L[k]=ke nx L[k].from_ (old++[L[k].to]):=by rw[jO,al P,hold]
    repeat' first|simp(disch:=try exact om) only[gE,simprocAttr,a7,b7,a39,a40,ca,hx,cI.v,bF,aQ,aw,ay]|refine cs ?_ ?_<;>intro h<;>try omega|refine ei ?_|refine e9 ?_ ?_
    all_goals
     refine zg qJ (a:=L[k].from_) (l:=N) (id:=d) (fA:=t.E) sT sT sT Q.nm (λj bl=>?_);rw[bi]at bl ⊢
     repeat' simp(disch:=try exact om) only[gE,simprocAttr,ea]
     refine iR (xs:=old.map ID.v) (ys:=[L[k].to.v]) ?_ ?_ ?_ ?_ ?_ rfl ?_ ?_ λbo q z hb eb=>?_
     .simp only[sE];exact a9.frame (λ_ _=>rfl) (an _)
     .exact sT
     .intro y c5;simp at c5;subst c5;rfl
     .exact sT
     .simp only[sE];intro l cc;cases cc
     .simp only[au,aM,aX,aG]at aC ⊢;omega
     .intro _ el;cases el
     have et:=z.one;have e7:=z.kf;have c6:=z.gD;have R:bA (bI u) (t.E.eJ d (fk ID.v (jh N L[k].from_ u))) q:=sR hb;have c7:bI bo=bI u\/bI bo=some t.E.Y:=sR eb;have c9:q.mp d=some (.map (fk ID.v (jh N L[k].from_ u))):=by rw[R.mp d Q.mb.1.2];simp[aK.eJ]
     repeat' simp only[gE,simprocAttr,et,c6]
     refine u0 qJ (a:=L[k].from_) (l:=jh N L[k].from_ u) (id:=d) (j:=j) (fA:=q) (yv:=bo) sT sT sT c9 bl sT c6 ?_;rw[yy];repeat' simp(disch:=omega) only[gE,simprocAttr,a7]
     refine⟨k+1,⟨?_⟩,⟨av⟩⟩;refine⟨h1,by(simp only[sE]);exact aq (V.int .i64) av,?_,by(simp only[sE]);exact g4,by(simp only[sE]);exact g5,by(simp only[sE]);exact g6,by(simp only[sE]);exact b6⟩;rw[b2,cb];refine⟨ev,ad,ed,d,p,jh N L[k].from_ bo,?_⟩;exact Q.next (nr:=q) (λj bl aD=>R.box j bl (by rw[<-bi];exact aD)) R.Y (by rw[az];exact z) (by rw[bi];exact c7) (λi h=>z.BG h) (λi aD cc=>by rw[R.mp i cc];simp only[aK.eJ];exact bD _ _ aD) rfl rfl rfl
  .obtain rfl:k=L.length:=av;rw[bg]at a8 Q;have c3:=Cg H.bN ac;have fa:=ac.2.2;repeat' first|simp only[gE,simprocAttr,a7,b7,a39,a40,hx]|refine cs ?_ ?_<;>intro h<;>try omega|refine lq c3 ?_
   generalize L.foldl jO H.next=dd at*
   generalize dj H.bN=A at*
   refine dT rfl rfl (λ(k:Nat) y=>k<=A.length/\y.Z 70=I k/\HP base y.E dW {H with next:=dd,left:=(A.take k).foldl (ly W b) H.left} tid ts/\y.G 5=1/\y.loc 5 0=[I b.J,I b.seq]/\y.G 7=1/\y.loc 7 0=[cf W.O]) (λk=>A.length-k) 0 ?_ ?_
   .exact⟨aL _,by simp only[da,simprocAttr],by(simp only[da,simprocAttr]);exact a8,by(simp only[da,simprocAttr]);exact g4,by(simp only[da,simprocAttr]);exact g5,by(simp only[da,simprocAttr]);exact g6,by(simp only[da,simprocAttr]);exact b6⟩
   clear hx o1 o2 ai Q;rintro k y ⟨fr,bs,ch,a0,a1,a2,a3⟩ f;have ci:y.Z 0=.bp dW 0:=(f 0 du).trans sT;have cp:y.Z 5=.lp 5 0 0:=(f 5 du).trans sT;have c1:y.Z 7=.lp 7 0 0:=(f 7 du).trans sT;have a4:y.Z 68=dA A:=(f 68 du).trans sT;have a5:y.Z 69=I A.length:=(f 69 du).trans sT;clear f;obtain⟨ev,ad,ed,d,p,N,Q,o1,o2,ai⟩:=ch.one;have hx:=Q.box;rcases am k A.length with bu|bu
   .have ab:(A.take (k+1)).foldl (ly W b) H.left=ly W b ((A.take k).foldl (ly W b) H.left) A[k]:=by rw[br bu,de];rfl
    generalize (A.take k).foldl (ly W b) H.left=a6 at*
    have c4:=Cf W A[k].id aB;cases bv:(ef A[k].id 0 W.O).isSome with
    |true=>
     rw[show ly W b a6 A[k]=a6 by unfold ly;rw[bv];rfl]at ab;rw[bv]at c4;repeat' first|simp(disch:=try exact om) only[gE,simprocAttr,bs,ci,cp,c1,a4,a5,a0,a1,a2,a3,aJ.v,fW.v,aQ,aw,ay]|refine cs ?_ ?_<;>intro h<;>try omega|refine lq c4 ?_|refine ei ?_
     refine⟨k+1,⟨?_⟩,⟨av⟩⟩;refine⟨bu,by(simp only[da]);exact aq (V.int .i64) av,by rw[ab];(simp only[da]);exact ch,by(simp only[da]);exact a0,by(simp only[da]);exact a1,by(simp only[da]);exact a2,by(simp only[da]);exact a3⟩
    |false=>
     rw[show ly W b a6 A[k]=ke a6 A[k].id b by unfold ly;rw[bv];rfl]at ab;rw[bv]at c4;repeat' first|simp(disch:=try exact om) only[gE,simprocAttr,bs,ci,cp,c1,a4,a5,a0,a1,a2,a3,hx,aJ.v,fW.v,aQ,aw,ay]|refine cs ?_ ?_<;>intro h<;>try omega|refine lq c4 ?_|refine ei ?_
     all_goals
      refine nw qJ (a:=A[k].id) (l:=gZ Name.v a6) (id:=p) (fA:=y.E) (yv:=b.v) sT sT sT Q.lm sT rfl ?_;rw[qm];repeat' simp(disch:=omega) only[gE,simprocAttr,bs]
      refine⟨k+1,⟨?_⟩,⟨av⟩⟩;refine⟨bu,by(simp only[sE]);exact aq (V.int .i64) av,?_,by(simp only[sE]);exact a0,by(simp only[sE]);exact a1,by(simp only[sE]);exact a2,by(simp only[sE]);exact a3⟩;rw[ab];exact⟨ev,ad,ed,d,p,N,Q.left A[k].id b⟩
   .obtain rfl:k=A.length:=av;rw[bg]at ch Q;repeat' first|simp only[gE,simprocAttr,bs,ci,cp,c1,a4,a5,a0,a1,a2,a3,hx]|refine cs ?_ ?_<;>intro h<;>try omega
    refine cJ (n:=1) (off:=2) (cells:=[ev,ad,cf H.bN.O,ed,.mp d,.mp p]) ?_ ?_ bT λfs te tc tl tb tm eK fB=>?_
    .exact sT
    .exact sT
    have df:=tb.trans sT;have dr:=eK.trans sT;have ds:=tm.trans sT;repeat' simp only[gE,simprocAttr,te,tc,tl]
    exact⟨nE,B true,_,bC rfl rfl,rfl,ev,ad,ed,d,p,N,Q.bN W df ds dr⟩
 .rw[al r];generalize qj H.bN o b=D at*
  obtain⟨W,e⟩:=D;simp only at r aA;repeat' first|simp(disch:=try exact om) only[gE,simprocAttr,Op.v,Op.c,hx,r,o1,o2,ai]|refine cs ?_ ?_<;>intro h<;>try omega|refine lq aA ?_
  all_goals exact⟨nE,B false,_,bC rfl rfl,rfl,hH⟩
end Go.Bx
