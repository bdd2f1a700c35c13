/- Lemmas for HistoryOrder. -/
import Derived.Test.YtmbahmpbmcfifaaGreatDoorAo
import Derived.Test.YtmbahmpbmcfifaaGreatDoorAp
import Derived.Test.YtmbahmpbmcfifaaGreatDoorAq
noncomputable section
set_option linter.all false
set_option maxHeartbeats 4000000
set_option maxRecDepth 100000
namespace Go.Bx
open Go.Proofs Go.Proofs.Tryz
attribute [local irreducible] vc er dr b4 bV run iD iY i1 i6 iQ i7 i2 iu iS i4 gB i3 cW
def Vx:fL prog 261=true:=by kernel_rfl
def Vy:fL prog 262=true:=by kernel_rfl
def Vz:fL prog 263=true:=by kernel_rfl
def VA:fL prog 264=true:=by kernel_rfl
def VB:fL prog 265=true:=by kernel_rfl
def VC:fL prog 266=true:=by kernel_rfl
def VD:fL prog 267=true:=by kernel_rfl
def VE:fL prog 268=true:=by kernel_rfl
def VF:fL prog 269=true:=by kernel_rfl
def VG:fL prog 270=true:=by kernel_rfl
def Fg(w:cm)(o:Op)(b:Name):cm×Int:=if 2<o.kind then mU w o b else mI w o b
def VH(E:aJ)(d:Nat)(w:cm)(o:Op)(b:Name)(s t:fW)(X:List Nat)(R:RX E d w o b s t X)(ad:w.fits)(H:o.ok)(ai:∀t∈o.F,t.length<=10000)(N:0<=o.kind/\o.kind<=9)
 (aA:2<o.kind->∃j,ef o.W 0 w.O=some j/\s=ka (some j)) (aB:o.kind=7->∃j,ef o.to 0 w.O=some j/\t=ka (some j)):
 aI (261+o.kind.toNat) [.bp d 0] E λu _ P=>L7 d o b s t (Fg w o b) u P:=by
 obtain⟨a5,a6,⟨a4,K⟩,D⟩:=ad;rcases fw 2 o.kind with L|L
 .obtain⟨⟨v,a,i⟩,y,rfl⟩:=aA L;obtain⟨f,l,p,dV⟩:=kw y;obtain⟨a7,a8,aC,aD⟩:=D _ (zV f l p);have a9:=mJ f l;unfold Fg mU;rw[ax L,y];simp only[fF f l,ap,aa p,bf];have z:o.kind=3\/o.kind=4\/o.kind=5\/o.kind=6\/o.kind=7\/o.kind=8\/o.kind=9:=av;rcases z with h|h|h|h|h|h|h
  .rw[an av,ax h,h];exact RZ E d w o b _ t X R v a i f l p av rfl
  .rw[an av,an av,ax h,h];exact R6 E d w o b _ t X R v a i f l p av rfl _ rfl av av aC aD
  .rw[an av,an av,an av,ax h,h];exact R4 E d w o b _ t X R v a i f l p av rfl λq a0=>by
    obtain⟨k,N,rfl⟩:=iL.1 a0;have:=D _ (zV f l N);exact⟨this.1,this.2.1⟩
  .rw[an av,an av,an av,an av,ax h,h];exact R0 E d w o b _ t X R v a i f l p av rfl
  .obtain⟨⟨a1,a2,a3⟩,r,rfl⟩:=aB h;obtain⟨Q,ab,ac,_⟩:=kw r;rw[ax h,r,h];exact R5 E d w o b _ _ X R v a i a1 a2 a3 f l p Q ab ac rfl rfl
  .rw[an av,an av,an av,an av,an av,ax h,h];exact Sa E d w o b _ t X R v a i f l p av rfl H ai
  .rw[an av,an av,an av,an av,an av,an av,h];exact R1 E d w o b _ t X R v a i f l p H.2.2.2.2 rfl
 .unfold Fg mI;rw[an av];have z:o.kind=0\/o.kind=1\/o.kind=2:=av;rcases z with h|h|h
  .rw[ax h,h];exact R2 E d w o b s t X R av
  .rw[an av,ax h,h];exact R3 E d w o b s t X R λv f=>by have:=K v f;omega
  .rw[an av,an av,h];exact R7 E d w o b s t X R av H.2.2.2.2
def hX(a:Nat)(cells:List V)(n:Nat):aJ:=⟨λi=>if i=a then some cells else none,λ_ _=>false,λ_=>none,n⟩
def abo{h:aJ}{a:Nat}{X:List Nat}{c d:V}{r:List V}(hx:h.box a=some (c::r))(f:a∉X)(l:V.lM (oE h X) c d):jD (oE h X) h (hX a (d::r) h.Y) where
 Cu id cells e:=by
  unfold oE at e;split at e
  .exact e
  .cases e
 box id cells e:=by
  simp only[hX]at e;split at e
  next h1=>subst h1;cases e;exact⟨by unfold oE;rw[an f],_,hx,.cons l (.refl _)⟩
  .cases e
 fl id j e:=by cases e
 mp id o e:=by cases e
 Y:=ao _
def TI(a:Nat)(c:List V)(n:Nat):(hX a c n).box a=some c:=ax rfl
def So{fz:ak}{a b:V}(h:V.lM fz (.agg [a]) (.agg [b])):V.lM fz a b:=by
 cases h with
 |refl=>exact .refl _
 |agg _ _ _ h=>exact h 0 _ _ rfl rfl
def G8(fz:ak):V.lM fz (.agg [.aP]) (cm.v ⟨[]⟩):=.agg _ _ rfl λj c d a f=>by
 match j with
 |0=>cases a;cases f;exact .aP _
 |j+1=>cases a
def VI{nv:aJ}{a:V}{w:cm}{o:Op}{b:Name}{X:List Nat}(T:RW nv (.agg [a]) w X)(D:X.Nodup):
 RX (nv.cM (a::(o.c++[I b.J,I b.seq,I 0,I 0,I 0,I 0,I 0,I 0]))) nv.Y w o b ⟨0,0,0⟩ ⟨0,0,0⟩ X:=by
 have d:=U0 _ _ _ _ T;refine⟨a,by simp[aJ.cM,eR],?_,D,λh=>absurd (d _ h) (ku _),dm _⟩;exact Y3 _ _ _ _ _ T (λj f=>⟨d j f,by simp only[aJ.cM];exact bE _ _ (λe=>by have:=d j f;omega)⟩) (fO _)
def OF{E d:aJ}{a:Nat}{w:cm}{o:Op}{b:Name}{s t s2 t2:fW}{X:List Nat}(R:RX E a w o b s t X){p:V}(hx:E.box a=some (p::(o.c++[I b.J,I b.seq,I s.i9,I s.k3,I s.idx,I t.i9,I t.k3,I t.idx])))
 (hb:d.box=eR E.box a (some (p::(o.c++[I b.J,I b.seq,I s2.i9,I s2.k3,I s2.idx,I t2.i9,I t2.k3,I t2.idx])))) (q:d.Y=E.Y):RX d a w o b s2 t2 X:=by
 obtain⟨f,l,T,D,r,y⟩:=R;obtain rfl:f=p:=by rw[hx]at l;have:=au l;injection this with h _;exact h.symm
 refine⟨f,by rw[hb,bl],?_,D,r,by rw[q];exact y⟩;exact Y3 _ _ _ _ _ T (λj u=>⟨U0 _ _ _ _ T j u,by rw[hb];exact bE _ _ (λe=>r (e▸u))⟩) (c8 q.symm)
def aag:CF GL f162 [39] [6,15,18] 162:=ji
def Iq{w:cm}{o:Op}{b:Name}(h0:fy w=0)(a:b.mv=true/\0<=o.kind/\o.kind<=9/\o=nH o):sg w o b=if(Fg w o b).2=0 then(if fy (Fg w o b).1=0 then((Fg w o b).1,0)else(⟨[]⟩,8))else(⟨[]⟩,(Fg w o b).2):=by
 unfold sg;rw[an (by simpa using h0),ax a];rfl
def Ir{w:cm}{o:Op}{b:Name}(h0:fy w=0)(a:¬(b.mv=true/\0<=o.kind/\o.kind<=9/\o=nH o)):sg w o b=(⟨[]⟩,1):=by
 unfold sg;rw[an (by simpa using h0),an a]
def E7{w:cm}{o:Op}{b:Name}(h0:fy w≠0):sg w o b=(⟨[]⟩,fy w):=by
 unfold sg;rw[ax h0]
def J9(w:cm)(ch:w.ok)(o:Op)(ho:o.ok)(ht:∀t∈o.F,t.length<=10000)(b:Name):
 af 162 [w.v,o.v,b.v] (mw (sg w o b)):=by
 have ab:=Ij w ch;have L:=Rf b;have c3:=Rk o.kind;generalize l:mw (sg w o b)=gn;have c9:gn.free=true:=by rw[<-l];unfold mw;simp only[du]
 refine Pure.gg (by simp only[du]) c9 (eU hm aag.ok (bF rfl) ?_);by_cases h0:fy w=0
 .rw[h0]at ab;have hf:=nz ch h0;by_cases dd:b.mv=true/\0<=o.kind/\o.kind<=9/\o=nH o
  .rw[Iq h0 dd]at l;obtain⟨g1,N,dU,g4⟩:=dd;have c4:=JW o ho ⟨N,dU⟩;have e5:=RM o.kind ⟨N,dU⟩;have gp:=J1 w ch;rw[g1]at L;rw[show decide (0<=o.kind/\o.kind<10)=true by simp;omega]at c3;rw[show decide (o=nH o)=true by simpa using g4]at c4;refine UI (UI (UI (UJ (J:=λt=>∃(q:Nat)(X:List Nat),t.Z 9=.bp q 0/\RX t.E q w o b ⟨0,0,0⟩ ⟨0,0,0⟩ X/\t.Z 3=.A 3 0 0/\t.G 3=1/\t.loc 3 0=[cd w.O]/\t.Z 4=.A 4 0 0/\t.G 4=1/\t.loc 4 0=o.c/\t.G 10=0/\t.G 6=1/\t.loc 6 0=[.aP]/\t.Z 6=.A 6 0 0) ?_ ?_)))
   .repeat' first|simp only[gE,simprocAttr,Op.v,Op.c]|refine lq ab ?_|refine lq L ?_|refine lq c3 ?_|refine lq c4 ?_|refine fg ?_ ?_
    all_goals
     refine bm (by simp only[sE]<;>done) (gp aJ.bare) sT ag ?_;rintro hr _ hj ⟨X,e6,ha,_,_⟩;obtain⟨ac,rfl,T⟩:=id e6;have ea:=T.one
    repeat' first|simp only[gE,simprocAttr,HX.act,Op.v,Op.c,ea]|refine fg ?_ ?_
    all_goals
     exact⟨_,X,rfl,VI e6 ha⟩
   .have dg:Ob o.kind=.agg [.fn (261+o.kind.toNat) [],B (decide (3<=o.kind)),B (decide (o.kind=7))]:=rfl;rw[dg]at e5;rintro hs ⟨q,X,ad,eb,ai,aA,aB,aC,aD,a0,a1,a2,a3,a4⟩;have a5:=BP w o.W ch;have a6:=BP w o.to ch;repeat' first|simp only[gE,simprocAttr,ad,ai,aA,aB,a2,a4,aC,aD,a0,a1,a3,Op.v,Op.c]|refine lq e5 ?_
    refine ec (sJ (J:=λt=>t.Z 9=.bp q 0/\t.Z 3=.A 3 0 0/\t.G 3=1/\t.loc 3 0=[cd w.O]/\t.Z 4=.A 4 0 0/\t.G 4=1/\t.loc 4 0=o.c/\t.Z 10=.A 10 0 0/\t.G 10=1/\t.loc 10 0=[.fn (261+o.kind.toNat) [],B (decide (3<=o.kind)),B (decide (o.kind=7))]/\t.G 6=1/\t.loc 6 0=[.aP]/\t.Z 6=.A 6 0 0/\
     ((t.Z 11=B false/\2<o.kind/\ef o.W 0 w.O=none)\/(t.Z 11=B true/\∃s X,RX t.E q w o b s ⟨0,0,0⟩ X/\(2<o.kind->∃j,ef o.W 0 w.O=some j/\s=ka (some j))))) ?_ ?_)
    .obtain⟨ac,hx,hc,ea⟩:=eb.cells;by_cases y:3<=o.kind
     .have p:decide (3<=o.kind)=true:=db y;rcases D:ef o.W 0 w.O with _|⟨⟨v,a,i⟩⟩
      .rw[D]at a5;simp only[ka,cL]at a5;repeat' first|simp(disch:=try exact om) only[gE,simprocAttr,ad,ai,aA,aB,a2,a4,aC,aD,a0,a1,a3,p,Op.v,Op.c]|refine lq a5 ?_
       refine cC (n:=3) (off:=20) (cells:=ac::(o.c++[I b.J,I b.seq,I 0,I 0,I 0,I 0,I 0,I 0])) ?_ ?_ (by simp[Op.c]) λed te tc tl tb tm ci el=>?_
       .exact sT
       .exact sT
       repeat' simp only[gE,simprocAttr,te,tc,tl,ad,ai,aA,aB,a2,a4,aC,aD,a0,a1,a3,Op.c]
       exact .inl av
      .rw[D]at a5;simp only[ka,fJ]at a5;repeat' first|simp(disch:=try exact om) only[gE,simprocAttr,ad,ai,aA,aB,a2,a4,aC,aD,a0,a1,a3,p,Op.v,Op.c]|refine lq a5 ?_
       refine cC (n:=3) (off:=20) (cells:=ac::(o.c++[I b.J,I b.seq,I 0,I 0,I 0,I 0,I 0,I 0])) ?_ ?_ (by simp[Op.c]) λed te tc tl tb tm ci el=>?_
       .exact sT
       .exact sT
       have cp:=tb.trans sT;have c1:=ci.trans sT;have a7:=OF (s2:=⟨v,a,i⟩) (t2:=⟨0,0,0⟩) eb hx cp c1;repeat' simp only[gE,simprocAttr,te,tc,tl,ad,ai,aA,aB,a2,a4,aC,aD,a0,a1,a3,Op.c]
       exact .inr ⟨_,X,a7,λ_=>⟨_,rfl,rfl⟩⟩
     .have p:decide (3<=o.kind)=false:=dY y;repeat' simp only[gE,simprocAttr,ad,ai,aA,aB,a2,a4,aC,aD,a0,a1,a3,p,Op.v,Op.c]
      exact .inr ⟨_,X,eb,λh=>av⟩
    rintro hu ⟨a8,a9,bi,bo,br,bs,bu,bv,bU,b2,P,Q,R,et⟩;rcases et with⟨H,y,c2⟩|⟨H,z,c5,eN,ds⟩
    .rw[show Fg w o b=(w,6)by unfold Fg mU;rw[ax y,c2]]at l;rw[an bR]at l;subst l;repeat' first|simp only[gE,simprocAttr,a8,a9,bi,bo,br,bs,bu,bv,bU,b2,P,Q,R,H,Op.v,Op.c]|refine gs ?_ ?_<;>intro h<;>try simp only[h,dtf]|refine ec ?_
     all_goals exact fin2 (by simp only[dL,simprocAttr,bh,bn,P,Q,R]<;>rfl) rfl ev (mf _ []) (G8 _)
    obtain⟨ac,hx,hc,ea⟩:=eN.cells;refine ec (sJ (J:=λt=>t.Z 9=.bp q 0/\t.Z 10=.A 10 0 0/\t.G 10=1/\t.loc 10 0=[.fn (261+o.kind.toNat) [],B (decide (3<=o.kind)),B (decide (o.kind=7))]/\t.G 6=1/\t.loc 6 0=[.aP]/\t.Z 6=.A 6 0 0/\
     ((t.Z 11=B false/\o.kind=7/\ef o.to 0 w.O=none)\/(t.Z 11=B true/\∃s2 X,RX t.E q w o b z s2 X/\(o.kind=7->∃j,ef o.to 0 w.O=some j/\s2=ka (some j))))) ?_ ?_)
    .by_cases y:o.kind=7
     .have p:decide (o.kind=7)=true:=db y;rcases D:ef o.to 0 w.O with _|⟨⟨v,a,i⟩⟩
      .rw[D]at a6;simp only[ka,cL]at a6;repeat' first|simp(disch:=try exact om) only[gE,simprocAttr,a8,a9,bi,bo,br,bs,bu,bv,bU,b2,P,Q,R,H,p,Op.v,Op.c]|refine lq a6 ?_
       refine cC (n:=3) (off:=23) (cells:=ac::(o.c++[I b.J,I b.seq,I z.i9,I z.k3,I z.idx,I 0,I 0,I 0])) ?_ ?_ (by simp[Op.c]) λed te tc tl tb tm ci el=>?_
       .exact sT
       .exact sT
       repeat' simp only[gE,simprocAttr,te,tc,tl,a8,a9,bi,bo,br,bs,bu,bv,bU,b2,P,Q,R,Op.c]
       exact⟨by rw[p],.inl y⟩
      .rw[D]at a6;simp only[ka,fJ]at a6;repeat' first|simp(disch:=try exact om) only[gE,simprocAttr,a8,a9,bi,bo,br,bs,bu,bv,bU,b2,P,Q,R,H,p,Op.v,Op.c]|refine lq a6 ?_
       refine cC (n:=3) (off:=23) (cells:=ac::(o.c++[I b.J,I b.seq,I z.i9,I z.k3,I z.idx,I 0,I 0,I 0])) ?_ ?_ (by simp[Op.c]) λed te tc tl tb tm ci el=>?_
       .exact sT
       .exact sT
       have cp:=tb.trans sT;have c1:=ci.trans sT;have a7:=OF (s2:=z) (t2:=⟨v,a,i⟩) eN hx cp c1;repeat' simp only[gE,simprocAttr,te,tc,tl,a8,a9,bi,bo,br,bs,bu,bv,bU,b2,P,Q,R,Op.c]
       exact⟨by rw[p],.inr ⟨_,c5,a7,λ_=>⟨_,rfl,rfl⟩⟩⟩
     .have p:decide (o.kind=7)=false:=dY y;repeat' simp only[gE,simprocAttr,a8,a9,bi,bo,br,bs,bu,bv,bU,b2,P,Q,R,H,p,Op.v,Op.c]
      exact .inr ⟨_,c5,eN,λh=>absurd h y⟩
    rintro t2 ⟨b3,ca,cb,cc,b5,b6,b7,et⟩;rcases et with⟨K,y,c2⟩|⟨K,s2,e1,hd,e7⟩
    .rw[show Fg w o b=(w,6)by
      obtain⟨j,h,_⟩:=ds av;unfold Fg mU;rw[ax av,h];simp only[ax y,c2]]at l
     rw[an bR]at l;subst l;repeat' simp only[gE,simprocAttr,b3,ca,cb,cc,b5,b6,b7,K,Op.v,Op.c]
     exact T4
    have e2:fL prog (261+o.kind.toNat)=true:=by
     have fa:o.kind=0\/o.kind=1\/o.kind=2\/o.kind=3\/o.kind=4\/o.kind=5\/o.kind=6\/o.kind=7\/o.kind=8\/o.kind=9:=av;rcases fa with h|h|h|h|h|h|h|h|h|h<;>rw[h]
     .exact Vx
     .exact Vy
     .exact Vz
     .exact VA
     .exact VB
     .exact VC
     .exact VD
     .exact VE
     .exact VF
     .exact VG
    have fr:=VH t2.E q w o b z s2 e1 hd hf ho ht ⟨N,dU⟩ ds e7;have c6:(Fg w o b).1.ok:=by
     exact S8
    generalize Fg w o b=r at fr l c6;obtain⟨W,e⟩:=r;simp only at l c6;repeat' simp only[gE,simprocAttr,b3,ca,cb,cc,b5,b6,b7,K]
    refine kv (h0:=t2.E) (f:=261+o.kind.toNat) (cap:=[]) ?_ ?_ e2 fr ?_ ?_ ?_
    .exact sT
    .exact sT
    .simp only[bN,ce,da,simprocAttr,bh,bn];rfl
    .refine nG ?_;simp only[dL]<;>rfl
    rintro u _ hk ⟨rfl,he⟩;by_cases e3:e=0
    .subst e3;obtain⟨e4,a7⟩:=he rfl;obtain⟨fs,c7,hl,fB⟩:=a7.cells;obtain⟨gb,dF,hg,hv,gf,hn⟩:=id a7;obtain rfl:gb=fs:=by rw[c7]at dF;have:=au dF;injection this with h _;exact h.symm
     obtain⟨hq,hh,gk⟩:=hg;cases hh;have hi:=Ij W c6;repeat' simp only[gE,simprocAttr,b3,ca,cb,cc,b5,b6,b7,K,c7,fB]
     refine zL (abo (X:=e4) (d:=cd W.O) c7 gf (So (Dw gk))) hi sT ?_ ?_
     .exact h7.cons (Dw gk) .nil
     by_cases dp:fy W=0
     .rw[ax rfl,ax dp]at l;subst l;repeat' simp only[gE,simprocAttr,b3,ca,cb,cc,b5,b6,b7,dp,TI]
      all_goals exact fin2 (by simp only[dL,simprocAttr,bh,bn,b5,b6,b7]<;>rfl) rfl ev (mf _ []) (.refl _)
     .rw[ax rfl,an dp]at l;subst l;repeat' first|simp only[gE,simprocAttr,b3,ca,cb,cc,b5,b6,b7,dp,TI]|refine cs ?_ ?_<;>intro h<;>try omega
      exact T4
    .rw[an e3]at l;subst l;repeat' first|simp only[gE,simprocAttr,b3,ca,cb,cc,b5,b6,b7,K,e3]|refine cs ?_ ?_<;>intro h<;>try omega
     exact T4
  .rw[Ir h0 dd]at l;subst l;by_cases g1:b.mv=true
   .rw[g1]at L;by_cases N:0<=o.kind/\o.kind<=9
    .have c4:=JW o ho N;rw[show decide (0<=o.kind/\o.kind<10)=true by simp;omega]at c3;rw[show decide (o=nH o)=false by simp;exact λe=>dd ⟨g1,N.1,N.2,e⟩]at c4;repeat' first|simp only[gE,simprocAttr,Op.v,Op.c]|refine lq ab ?_|refine lq L ?_|refine lq c3 ?_|refine lq c4 ?_
     exact PF
    .rw[show decide (0<=o.kind/\o.kind<10)=false by simp;omega]at c3;repeat' first|simp only[gE,simprocAttr,Op.v,Op.c]|refine lq ab ?_|refine lq L ?_|refine lq c3 ?_
     exact PF
   .rw[show b.mv=false by simpa using g1]at L;repeat' first|simp only[gE,simprocAttr,Op.v,Op.c]|refine lq ab ?_|refine lq L ?_
    exact PF
 .rw[E7 h0]at l;subst l;repeat' first|simp only[gE,simprocAttr,Op.v,Op.c,h0]|refine cs ?_ ?_<;>intro h<;>try omega|refine lq ab ?_
  exact PF
def Sp(w:cm)(d:w.ok)(o:Op)(f:o.ok)(j:∀t∈o.F,t.length<=10000)(b:Name):
 af 215 [w.v,o.v,b.v] (I (sg w o b).2):=by
 have a:=J9 w d o f j b;unfold mw at a;generalize sg w o b=r at*
 obtain⟨x,e⟩:=r;simp only at a;refine pk f215 ?_ [16];repeat' first|simp(disch:=try exact om) only[gE,simprocAttr,Op.v,Op.c]|refine lq a ?_|refine q1 ?_
 all_goals exact aj rfl
def OG{w:cm}{o:Op}{b:Name}(h:(sg w o b).2=0):fy w=0/\(b.mv=true/\0<=o.kind/\o.kind<=9/\o=nH o)/\(Fg w o b).2=0:=by
 by_cases a:fy w=0
 .by_cases d:b.mv=true/\0<=o.kind/\o.kind<=9/\o=nH o
  .rw[Iq a d]at h;refine⟨a,d,?_⟩;by_cases f:(Fg w o b).2=0
   .exact f
   .rw[an f]at h;exact h
  .rw[Ir a d]at h;cases h
 .rw[E7 a]at h;exact absurd h a
def do8{w:cm}{o:Op}{b:Name}(h:(sg w o b).2=0)(f:o.kind=8):1<=o.n/\o.n<=4/\ri o=true:=by
 obtain⟨_,_,a⟩:=OG h;unfold Fg mU at a;rw[ax av]at a;split at a
 .cases a
 .rw[an av,an av,an av,an av,an av,ax f]at a;unfold EH at a;simp only at a;split at a
  next d=>exact⟨d.1,d.2.1,d.2.2.2.2.2⟩
  .cases a
def Sq{o:Op}(h:ri o=true){i:Nat}(a:i<o.cX.length):0<=o.cX[i].1/\o.cX[i].1<o.n:=by
 have:=bP.1 h i (dc.2 a);simp only[pb,sd a,aX,cy]at this;exact⟨this.1.1,this.1.2.1⟩
def Sr{w:cm}(d:w.ok)(a:ID):(0<=(ka (ef a 0 w.O)).i9)/\(0<=(ka (ef a 0 w.O)).k3)/\0<=(ka (ef a 0 w.O)).idx/\(ka (ef a 0 w.O)).idx<=1000000:=by
 rcases f:ef a 0 w.O with _|⟨v,b,i⟩
 .simp[ka]
 .obtain⟨j,l,o,_⟩:=kw f;have:=((d.2.1 _ (ah j)).2 _ (ah l)).2.1;simp only[ka];omega
def Lx.mark{w:cm}{s:fW}{G:List ID}{L:List cR}{E:aJ}(H:Lx w s G L E)(a:ID):Lx w s (tJ G a) L (E.eM 0 (fp ID.v (setOf (tJ G a)))):=by
 obtain⟨q1,q,d,f,j,v,l,o,p⟩:=H;exact⟨q1,by simp[aJ.eM],d,f,j,v,l,o.frame (λ_ _=>rfl) (ao _),p⟩
def Lx.push{w:cm}{s:fW}{G:List ID}{L:List cR}{x:cR}{E a d:aJ}{v v':V}(H:Lx w s G L E)(u:E.box 4=some [v])(q:gh 6 a v' (L.map cR.v++[x.v]))(hb:bt (bH v) E a)(y:bH v'=bH v\/bH v'=some E.Y)
 (tb:d.box=eR a.box 4 (some [v'])) (tm:d.mp=a.mp) (r:d.Y=a.Y):Lx w s G (L++[x]) d:=by
 obtain⟨q1,z,D,K,P,N,o,Q,t⟩:=H;obtain rfl:N=v:=by rw[u]at o;simpa using o.symm
 have R:E.Y<=a.Y:=hb.Y;have l:∀j,j<=4->a.box j=E.box j:=λj f=>hb.box j av (λe=>by have:=t j e;omega);have p:∀j,bH v'=some j->4<j:=λj f=>by
  rcases y with h|h
  .exact t j (h▸f)
  .rw[h]at f;have:=au f;omega
 have hx:∀j,j≠4->d.box j=a.box j:=λj f=>by rw[tb];exact bE _ _ f
 refine⟨?_,?_,?_,?_,?_,v',by rw[tb,bl],?_,p⟩
 .rw[hx 1 dt,l 1 av];exact q1
 .rw[tm,hb.mp 0 av];exact z
 .rw[hx 2 dt,l 2 av];exact D
 .rw[hx 3 dt,l 3 av];exact K
 .rw[r];omega
 .rw[aE];exact q.frame (λj f=>hx j (by have:=p j f;omega)) (c8 r.symm)
def Ss(w:cm)(r:w.ok)(o:Op)(e5:o.ok)(e6:∀t∈o.F,t.length<=10000)(hr:o.cX.length<=100000)(b:Name)(a4:(sg w o b).2=0):
 af 163 [w.v,o.v,b.v] (.hE [g7 (RC w o b),I 0]):=by
 have dd:=Sp w r o e5 e6 b;rw[a4]at dd;have dg:=BP w o.W r;have c3:=Vw w r;obtain⟨hs,ht,hu,hv⟩:=Sr r o.W;have e7:=do8 a4;obtain⟨dp,e4,_⟩:=OG a4;have hQ:=(nz r dp).2.1;have hw:(k4 w).length<=(dx w).length:=by
  exact T8
 generalize bi:V.hE [g7 (RC w o b),I 0]=fa;have bo:fa.free=true:=by rw[<-bi];simp only[du]
 unfold RC at bi;simp only at bi;generalize (ef o.W 0 w.O).isSome=hy at dg;generalize ka (ef o.W 0 w.O)=s at*
 refine Pure.gg (by simp only[du]) bo (eU hm ZW.ok (bF rfl) ?_);repeat' first|simp only[gE,simprocAttr,Op.v,Op.c,HX.act]|refine lq dd ?_
 refine cC (n:=1) (off:=0) (cells:=[.qy]) sT (by simp only[da]<;>rfl) bR λc2 D3 tc1 tl1 bU b2 b3 ds=>?_;have fr:c2.E.box 1=some [.mp 0]:=by rw[bU];(simp only[da]);exact bl _ _ _
 have fs:c2.E.mp 0=some (.map []):=by rw[b2];simp only[da]
 have n1:c2.E.Y=2:=b3.trans sT;clear bU b2 b3 ds;repeat' first|simp(disch:=try exact om) only[gE,simprocAttr,Op.v,Op.c,HX.act,D3,tc1,tl1,n1]|refine lq dg ?_
 refine cC (n:=3) (off:=0) (cells:=[I 0,I 0,I 0]) (by simp only[da,n1]) (by simp only[da]<;>rfl) (by simp) λbr Ki tc2 tl2 R aA aB dF=>?_;have fB:br.E.box 2=some [I s.i9,I s.k3,I s.idx]:=by rw[R];(simp only[da]);exact bl _ _ _
 have dU:br.E.box 1=some [.mp 0]:=by rw[R,bE _ _ dt];simp only[da,n1];exact fr
 have gb:br.E.mp 0=some (.map []):=by rw[aA];simp only[da];exact fs
 have n2:br.E.Y=3:=aB.trans sT;clear R aA aB dF;repeat' simp only[gE,simprocAttr,Op.v,Op.c,HX.act,D3,tc1,tl1,Ki,tc2,tl2,n1,n2]
 refine cC (n:=1) (off:=0) (cells:=[.wC]) (by simp only[da,n2]) (by simp only[da]<;>rfl) (by simp) λH Mc tc3 tl3 aC b5 b6 ea=>?_;have gf:H.E.box 3=some [.fn 216 [.ep [cd w.O],.bp 2 0,.bp 1 0]]:=by rw[aC];(simp only[da,D3,Ki]);exact bl _ _ _
 have eb:H.E.box 1=some [.mp 0]:=by rw[aC,bE _ _ dt];simp only[da,n2];exact dU
 have ed:H.E.box 2=some [I s.i9,I s.k3,I s.idx]:=by rw[aC,bE _ _ dt];simp only[da,n2];exact fB
 have gk:H.E.mp 0=some (.map []):=by rw[b5];simp only[da];exact gb
 have n3:H.E.Y=4:=b6.trans sT;clear aC b5 b6 ea;have D:Lx w s [] [] (H.E.cM [.aP]):=⟨by(simp only[da,n3]);exact eb,by(simp only[da]);exact gk,by(simp only[da,n3]);exact ed,by(simp only[da,n3]);exact gf,by simp only[da,n3],.aP,by simp only[da,n3],gh.nil,λi h=>by cases h⟩;generalize hH:H.E.cM [.aP]=fD at D;have d:=al D3 (al tc1 (al tl1 (al Ki (al tc2 (al tl2 (al Mc (al tc3 (al tl3 (al n1 (al n2 n3))))))))));repeat' simp only[gE,simprocAttr,Op.v,Op.c,HX.act,d,hH]
 refine ec (sJ (J:=λt=>Lx w s ((qW w o s).foldl tJ []) ((s3 o).map (uJ w s b)) t.E/\t.Z 3=.ep [cd w.O]/\t.Z 9=.bp 1 0/\t.Z 13=.bp 4 0) ?_ ?_)
 .have hz: -1000000000<=s.idx/\s.idx<=1000000000:=av;have c5:=D.2.2.2.1;by_cases ab:o.kind=3
  .have K:qW w o s=[qd w s 0]:=ax ab;have ep:s3 o=[]:=by unfold s3;simp[ab]
   rw[K,ep];repeat' simp only[gE,simprocAttr,Op.v,Op.c,HX.act,d,hH,ab,c5]
   refine kv (h0:=fD) (f:=216) (cap:=[.ep [cd w.O],.bp 2 0,.bp 1 0]) sT (by simp only[da]<;>rfl) Ie (E1 fD w r s 0 [] 2 1 0 D.2.2.1 D.1 D.2.1 ⟨av,av,av,av⟩) sT (aN.cons (.refl _) (aN.cons (.refl _) (aN.cons (.refl _) (aN.cons (.refl _) aN.nil)))) ?_;rintro _ _ q ⟨rfl,rfl⟩;repeat' simp only[gE,simprocAttr,Op.v,Op.c,HX.act,d,hH]
   exact D.mark _
  by_cases a1:o.kind=4
  .have ep:s3 o=[(0,0),(0,1)]:=ax a1;have K:qW w o s=[qd w s 0,qd w s 0]:=by unfold qW;rw[an ab,an av,ep];rfl
   rw[K,ep];repeat' simp only[gE,simprocAttr,Op.v,Op.c,HX.act,d,hH,a1]
   refine kv (h0:=fD) (f:=218) (cap:=[.bp 4 0,.bp 3 0,.ep [I b.J,I b.seq]]) sT sT BV (xw fD w r s b 0 0 [] [] D bR ⟨av,av,av,av⟩) sT (aN.cons (.refl _) (aN.cons (.refl _) (aN.cons (.refl _) (aN.cons (.refl _) (aN.cons (.refl _) aN.nil))))) ?_;rintro _ _ q a5;repeat' simp only[gE,simprocAttr,Op.v,Op.c,HX.act,d,hH]
   refine kv (h0:=q) (f:=218) (cap:=[.bp 4 0,.bp 3 0,.ep [I b.J,I b.seq]]) sT sT BV (xw q w r s b 0 1 _ _ a5 bR ⟨av,av,av,av⟩) sT (aN.cons (.refl _) (aN.cons (.refl _) (aN.cons (.refl _) (aN.cons (.refl _) (aN.cons (.refl _) aN.nil))))) ?_;exact XH
  by_cases a6:o.kind=5
  .have ep:s3 o=[(0,0),(1,0)]:=by unfold s3;rw[an a1,ax a6]
   have K:qW w o s=[qd w s 0,qd w s 1]:=by unfold qW;rw[an ab,an av,ep];rfl
   rw[K,ep];repeat' simp only[gE,simprocAttr,Op.v,Op.c,HX.act,d,hH,a6]
   refine kv (h0:=fD) (f:=218) (cap:=[.bp 4 0,.bp 3 0,.ep [I b.J,I b.seq]]) sT sT BV (xw fD w r s b 0 0 [] [] D bR ⟨av,av,av,av⟩) sT (aN.cons (.refl _) (aN.cons (.refl _) (aN.cons (.refl _) (aN.cons (.refl _) (aN.cons (.refl _) aN.nil))))) ?_;rintro _ _ q a5;repeat' simp only[gE,simprocAttr,Op.v,Op.c,HX.act,d,hH]
   refine kv (h0:=q) (f:=218) (cap:=[.bp 4 0,.bp 3 0,.ep [I b.J,I b.seq]]) sT sT BV (xw q w r s b 1 0 _ _ a5 bR ⟨av,av,av,av⟩) sT (aN.cons (.refl _) (aN.cons (.refl _) (aN.cons (.refl _) (aN.cons (.refl _) (aN.cons (.refl _) aN.nil))))) ?_;exact XH
  by_cases ad:o.kind=8
  .obtain⟨hB,hD,el⟩:=e7 ad;have ep:s3 o=o.cX:=by unfold s3;rw[an a1,an a6,ax ad]
   have K:qW w o s=((List.range o.n.toNat).map λi:Nat=>qd w s i)++o.cX.map λx=>qd w s x.1:=by unfold qW;rw[an ab,ax ad]
   rw[K,ep];obtain⟨N,gn⟩:∃N:Nat,o.n=N:=⟨o.n.toNat,av⟩;repeat' simp only[gE,simprocAttr,Op.v,Op.c,HX.act,d,hH,ad,gn]
   refine dQ rfl rfl (λ(j:Nat) z=>j<=N/\z.Z 59=I j/\Lx w s (((List.range j).map λi:Nat=>qd w s i).foldl tJ []) [] z.E/\z.G 4=1/\z.loc 4 0=o.c) (λj=>N-j) 0 ?_ ?_
   .refine⟨aL _,?_⟩;simp only[sE,simprocAttr,rc,Op.v,Op.c,HX.act,d,hH];exact⟨D,rfl⟩
   rintro j z ⟨g1,bs,a2,g4,g5⟩ ac;have b7:z.Z 12=.bp 3 0:=by rw[ac 12 dt];simp only[sE,simprocAttr,rc,Op.v,Op.c,HX.act,d,hH]
   have ca:z.Z 58=I N:=(ac 58 dt).trans sT;have hF:z.Z 14=.fn 218 [.bp 4 0,.bp 3 0,.ep [I b.J,I b.seq]]:=(ac 14 dt).trans sT;have gp:z.Z 4=.A 4 0 0:=by rw[ac 4 dt];simp only[sE,simprocAttr,rc,Op.v,Op.c,HX.act,d,hH]
   have ha:z.Z 3=.ep [cd w.O]:=by rw[ac 3 dt];simp only[sE,rc,Op.v,Op.c,HX.act,d,hH]<;>rfl
   have hR:z.Z 9=.bp 1 0:=by rw[ac 9 dt];simp only[sE,simprocAttr,rc,Op.v,Op.c,HX.act,d,hH]
   have hK:z.Z 13=.bp 4 0:=(ac 13 dt).trans sT;have hc:=a2.2.2.2.1;clear ac;rcases am j N with ai|ai
   .repeat' first|simp only[gE,simprocAttr,bs,b7,ca,hc]|refine cs ?_ ?_<;>intro h<;>try omega
    refine kv (h0:=z.E) (f:=216) (cap:=[.ep [cd w.O],.bp 2 0,.bp 1 0]) sT (by simp only[da]<;>rfl) Ie (E1 z.E w r s j _ 2 1 0 a2.2.2.1 a2.1 a2.2.1 ⟨av,av,av,av⟩) sT (aN.cons (aj (by simp only[dL,bs]<;>rfl)) (aN.cons (.refl _) (aN.cons (.refl _) (aN.cons (.refl _) aN.nil)))) ?_;rintro _ _ q ⟨rfl,rfl⟩;repeat' simp(disch:=omega) only[gE,simprocAttr,bs]
    refine⟨j+1,⟨?_⟩,⟨av⟩⟩;refine⟨ai,by(simp only[sE]);exact ar (V.int .i64) av,?_,by(simp only[sE]);exact g4,by(simp only[sE]);exact g5⟩;rw[dE,aE,dl];exact a2.mark _
   .obtain rfl:j=N:=av;repeat' first|simp only[gE,simprocAttr,bs,b7,ca,gp,g4,g5,Op.c]|refine cs ?_ ?_<;>intro h<;>try omega
    refine dQ rfl rfl (λ(k:Nat) y=>k<=o.cX.length/\y.Z 69=I k/\Lx w s ((((List.range j).map λi:Nat=>qd w s i)++(o.cX.take k).map λx=>qd w s x.1).foldl tJ []) ((o.cX.take k).map (uJ w s b)) y.E) (λk=>o.cX.length-k) 0 ?_ ?_
    .refine⟨aL _,?_⟩;simp only[da,simprocAttr];rw[cP];exact a2
    rintro k y ⟨hd,P,Q⟩ p;have cb:y.Z 14=.fn 218 [.bp 4 0,.bp 3 0,.ep [I b.J,I b.seq]]:=(p 14 dt).trans sT;have a67:y.Z 67=jw o.cX:=(p 67 dt).trans sT;have ch:y.Z 68=I o.cX.length:=(p 68 dt).trans sT;have he:y.Z 3=.ep [cd w.O]:=by rw[p 3 dt];simp only[da];exact ha
    have a3:y.Z 9=.bp 1 0:=(p 9 dt).trans sT;have u:y.Z 13=.bp 4 0:=(p 13 dt).trans sT;rcases am k o.cX.length with bu|bu
    .have hb:=Sq el bu;have hS:((o.cX.take k).map (uJ w s b)).length=k:=by rw[aq,aF];omega
     have cc:=xw y.E w r s b o.cX[k].1 o.cX[k].2 _ _ Q av ⟨av,av,av,av⟩;repeat' first|simp(disch:=try exact om) only[gE,simprocAttr,P,cb,a67,ch,ng,aO,aw,ay]|refine cs ?_ ?_<;>intro h<;>try omega
     refine kv (h0:=y.E) (f:=218) (cap:=[.bp 4 0,.bp 3 0,.ep [I b.J,I b.seq]]) sT sT BV cc sT (aN.cons (.refl _) (aN.cons (.refl _) (aN.cons (.refl _) (aN.cons (.refl _) (aN.cons (.refl _) aN.nil))))) ?_;rintro _ _ q a5;repeat' simp(disch:=omega) only[gE,simprocAttr,P]
     refine⟨k+1,⟨?_⟩,⟨av⟩⟩;refine⟨bu,by(simp only[sE]);exact ar (V.int .i64) av,?_⟩;rw[bj bu,aE,aE,<-aG,dl];exact a5
    .obtain rfl:k=o.cX.length:=av;rw[be]at Q;repeat' first|simp only[gE,simprocAttr,P,cb,a67,ch]|refine cs ?_ ?_<;>intro h<;>try omega
     exact⟨Q,he,a3,u⟩
  .have ep:s3 o=[]:=by unfold s3;rw[an a1,an a6,an ad]
   have K:qW w o s=[]:=by unfold qW;rw[an ab,an ad,ep];rfl
   rw[K,ep];repeat' first|simp only[gE,simprocAttr,Op.v,Op.c,HX.act,d,hH,ab,a1,a6,ad]|refine cs ?_ ?_<;>intro h<;>try omega
   exact D
 rintro hV ⟨hf,hg,h2,f13⟩;have hM:((s3 o).map (uJ w s b)).length<=100002:=by
  rw[aq];unfold s3;split
  .simp
  .split
   .simp
   .split
    .omega
    .simp
 generalize (s3 o).map (uJ w s b)=L at*
 generalize k4 w=S at*
 have ci:∀c,(c∈(qW w o s).foldl tJ [])↔c∈qW w o s:=λc=>by rw[uN];simp
 generalize qW w o s=gone at*
 generalize gone.foldl tJ []=GG at*
 repeat' first|simp only[gE,simprocAttr,hg]|refine lq c3 ?_
 refine dQ rfl rfl (λ(k:Nat) y=>k<=S.length/\y.Z 83=I k/\Lx w s GG (L++pK gone (S.take k)) y.E) (λk=>S.length-k) 0 ?_ ?_
 .refine⟨aL _,?_⟩;simp only[da,simprocAttr];rw[show pK gone []=[]from rfl,cP];exact hf
 rintro k y ⟨hd,P,Q⟩ p;have a3:y.Z 9=.bp 1 0:=(p 9 dt).trans sT;have u:y.Z 13=.bp 4 0:=(p 13 dt).trans sT;have cp:y.Z 81=g7 S:=(p 81 dt).trans sT;have a82:y.Z 82=I S.length:=(p 82 dt).trans sT;have hO:=vi gone S k;rcases am k S.length with ai|ai
 .have aD:=wj gone ai;obtain⟨q1,et,hh,c5,eN,v,a7,a8,e1⟩:=id Q;have c6:=a8.one;repeat' first|simp(disch:=try exact om) only[gE,simprocAttr,P,a3,u,cp,a82,q1,cR.v,aO,aw,ay]|refine cs ?_ ?_<;>intro h<;>try omega|refine ec ?_
  refine jq qS (a:=S[k].from_) (l:=setOf GG) (id:=0) (fD:=y.E) sT sT sT et ?_;rw[Ic];by_cases bv:S[k].from_∈gone
  .rw[ax bv]at aD;rw[db ((ci _).2 bv)];repeat' simp(disch:=omega) only[gE,simprocAttr,i5,P,a3,u]
   refine⟨k+1,⟨?_⟩,⟨av⟩⟩;refine⟨ai,by(simp only[sE]);exact ar (V.int .i64) av,?_⟩;rw[aD];exact Q
  .rw[an bv]at aD;rw[dY (λh=>bv ((ci _).1 h))];repeat' simp only[gE,simprocAttr,i5,P,a3,u,a7,c6]
   refine iE (xs:=(L++pK gone (S.take k)).map cR.v) (ys:=[S[k].v]) ?_ ?_ ?_ ?_ ?_ rfl ?_ ?_ λc7 a0 a9 hb hi=>?_
   .exact sT
   .exact sT
   .intro y p;simp at p;subst p;rfl
   .exact sT
   .simp only[da];intro l hj;cases hj
   .simp only[aq,ae,aM,aT];omega
   .intro _ hk;cases hk
   have hl:=a9.one;have e2:=a9.kb;have c1:bt (bH v) y.E a0:=sR hb;have e3:bH c7=bH v\/bH c7=some y.E.Y:=sR hi;repeat' simp only[gE,simprocAttr,u]
   refine cC (n:=1) (off:=0) (cells:=[v]) ?_ ?_ bR λH te tc tl tb tm hn h3=>?_
   .simp only[sE];rw[c1.box 4 eN (λe=>by have:=e1 4 e;omega)];exact a7
   .simp only[sE];simp only[jR,e2];simp[hl]
   have R:H.E.box=eR a0.box 4 (some [c7]):=tb.trans (by simp only[sE];rw[e2];rfl);have aB:=hn.trans sT;have aA:=tm.trans sT;repeat' simp(disch:=omega) only[gE,simprocAttr,te,tc,tl,P]
   refine⟨k+1,⟨?_⟩,⟨av⟩⟩;refine⟨ai,by(simp only[sE]);exact ar (V.int .i64) av,?_⟩;rw[aD,<-aG];exact Q.push a7 a9 c1 e3 R aA aB
 .obtain rfl:k=S.length:=av;rw[be]at Q;obtain⟨q1,et,hh,c5,eN,v,a7,a8,e1⟩:=id Q;have c6:=a8.one;have c9:=vi gone S S.length;rw[be]at c9;have c4:=E6 (L++pK gone S) (by rw[ae];omega);obtain⟨fz,a0,ho,hq⟩:=a8.leF;repeat' first|simp only[gE,simprocAttr,P,a3,u,cp,a82,a7,c6]|refine cs ?_ ?_<;>intro h<;>try omega
  refine zL (fz:=fz) (h0:=a0) (by(simp only[da]);exact ho) c4 (by simp only[bN,ce,sE,simprocAttr,a8.fS]<;>rfl) (h7.cons (by(simp only[da]);exact hq) .nil) ?_;repeat' simp only[gE,simprocAttr]
  exact⟨nE,_,false,jF,_,_,false,uG ev ev rfl rfl,.refl _,.refl _,λh=>(by cases h),bi,rfl⟩
def aah:CF GL f107 [61] [] 107:=ji
def HP(base E:aJ)(dV:Nat)(H:g9)(tid:Nat)(ts:List (T×hG)):Prop:=∃ev f ed a d N,HQ base E dV ev f ed a d N H tid ts
def HP.one{base E:aJ}{dV tid:Nat}{H:g9}{ts:List (T×hG)}(h:HP base E dV H tid ts):∃ev f ed a d N,HQ base E dV ev f ed a d N H tid ts/\ev.one=true/\f.one=true/\ed.one=true:=by
 obtain⟨ev,f,ed,a,d,N,Q⟩:=h;exact⟨ev,f,ed,a,d,N,Q,Q.fe.one,Q.fv.one,Q.fd.one⟩
def uQ(n:List (ID×List ID))(k:Nat):Prop:=∀a,((gR n a).getD []).length<=k
def LH{n:List (ID×List ID)}{k:Nat}(h:uQ n k)(x:cR):uQ (lD n x) (k+1):=by
 intro a;unfold lD;split
 .exact aQ (h a) (fO _)
 .rw[qo];split
  .simp only[bf,ae,aM,aT];have:=h x.from_;omega
  .exact aQ (h a) (fO _)
def wt{k:Nat}:∀(l:List cR) {n:List (ID×List ID)},uQ n k->uQ (l.foldl lD n) (k+l.length)
 |[],n,h=>h
 |x::r,n,h=>by
  have:=wt r (LH h x);rw[fo,aM,show k+(r.length+1)=k+1+r.length by omega];exact this
def Ka{w:cm}{o:Op}(a:w.ok)(d:o.cX.length<=100000)(b:Name):(RC w o b).length<=1200000:=by
 unfold RC;refine aQ (Aa _) ?_;rw[ae,aq];have f:(s3 o).length<=100002:=by
  unfold s3;split
  .simp
  .split
   .simp
   .split
    .omega
    .simp
 have j:(pK (qW w o (ka (ef o.W 0 w.O))) (k4 w)).length<=(k4 w).length:=gS _ _;have l:(k4 w).length<=(dx w).length:=by
  exact T8
 have p:=a.2.2;omega
def uR{α:Type}[DecidableEq α]{p:List CK}{ag:Bool}{lN:α->V}{P:Program}{GL:ak}{s:St}{f:St->Prop}{pu:Bool}{d:Option Nat}{r:List BI}{m y st:eO}{id j:Nat}{l:List (α×V)}{a:α}{fD:aJ}{yv:V}
 (K:yc p ag lN) (hm:s.val m=.mp id) (q:s.val st=.int .i64 (j:Nat)) (t:s.E=fD) (u:fD.mp id=some (.map (fp lN l))) (z:q4 l a=some j) (o:s.val y=yv) (D:yv.dW=false)
 (h:er P GL pu r ((s.ct (fD.eM id (fp lN (jh l a yv)))).ret d .qr false) f):iu P GL (HX.act s (.entryStore m st y)) d pu r s f:=by
 subst o;exact CC K hm q t u z D h
def OH(a b:ID):dJ [.i,.i,.i] [I a.J,I a.seq,I a.k] [I b.J,I b.seq,I b.k]=some (decide (a=b)):=qS.eq a b
def E8{w:cm}(l:w.ok){o:Op}(ho:o.ok)(ht:∀t∈o.F,t.length<=10000)(b:Name):(sg w o b).1.ok:=by
 have a:(⟨[]⟩:cm).ok:=⟨bR,λv h=>(by cases h),by simp[dx,lP]⟩;by_cases d:fy w=0
 .by_cases f:b.mv=true/\0<=o.kind/\o.kind<=9/\o=nH o
  .rw[Iq d f];have hf:=nz l d;have j:(Fg w o b).1.ok:=by
    exact S8
   split
   .split
    .exact j
    .exact a
   .exact a
  .rw[Ir d f];exact a
 .rw[E7 d];exact a
def Su(base E:aJ)(dV:Nat)(H:g9)(tid:Nat)(ts:List (T×hG))(hH:HP base E dV H tid ts)(ac:H.bW.ok)(K:Nat)(dF:uQ H.next K)(e1:K<=1000000000-2000000)(o:Op)(b3:o.ok)(b5:∀t∈o.F,t.length<=10000)(bU:o.cX.length<=100000)(b:Name):
 aI 107 [.bp dV 0,o.v,b.v] E λu _ q=>u=B (BL H o b).2/\HP base q dV (BL H o b).1 tid ts:=by
 have aA:=J9 H.bW ac o b3 b5 b;unfold mw at aA;refine bq aah.ok rfl ?_;obtain⟨ev,ad,ed,d,p,N,Q,o1,o2,ai⟩:=hH.one;have hx:=Q.box;unfold BL;by_cases r:(sg H.bW o b).2=0
 .rw[ax r];have dU:=Ss H.bW ac o b3 b5 bU b r;have e2:=Ka ac bU b;have e3:=(OG r).1;have aB:=E8 ac b3 b5 b;generalize e4:sg H.bW o b=D at*
  obtain⟨W,e⟩:=D;simp only at r aA aB ⊢
  subst r;generalize RC H.bW o b=L at*
  repeat' first|simp(disch:=try exact om) only[gE,simprocAttr,Op.v,Op.c,hx,o1,o2,ai]|refine lq aA ?_|refine lq dU ?_
  refine dQ rfl rfl (λ(k:Nat) t=>k<=L.length/\t.Z 41=I k/\HP base t.E dV {H with next:=(L.take k).foldl lD H.next} tid ts/\t.G 5=1/\t.loc 5 0=[I b.J,I b.seq]/\t.G 7=1/\t.loc 7 0=[cd W.O]) (λk=>L.length-k) 0 ?_ ?_
  .refine⟨aL _,?_⟩;simp only[da,simprocAttr,aO,aw];exact⟨hH,rfl⟩
  rintro k t ⟨g1,a7,a8,g4,g5,g6,b6⟩ f;have b7:t.Z 0=.bp dV 0:=(f 0 dt).trans sT;have e5:t.Z 5=.A 5 0 0:=(f 5 dt).trans sT;have e6:t.Z 7=.A 7 0 0:=(f 7 dt).trans sT;have a39:t.Z 39=g7 L:=(f 39 dt).trans sT;have a40:t.Z 40=I L.length:=(f 40 dt).trans sT;clear f hx o1 o2 ai Q;obtain⟨ev,ad,ed,d,p,N,Q,o1,o2,ai⟩:=a8.one;have hx:=Q.box;rcases am k L.length with h1|h1
  .have b2:(L.take (k+1)).foldl lD H.next=lD ((L.take k).foldl lD H.next) L[k]:=by rw[bj h1,dl];rfl
   have c2:=wt (L.take k) dF;generalize (L.take k).foldl lD H.next=nx at*
   by_cases P:L[k].from_=L[k].to
   .have ca:=(OH L[k].from_ L[k].to).trans (ar some (db P));repeat' first|simp(disch:=try exact om) only[gE,simprocAttr,a7,b7,a39,a40,ca,cR.v,bG,aO,aw,ay]|refine cs ?_ ?_<;>intro h<;>try omega|refine ec ?_
    refine⟨k+1,⟨?_⟩,⟨av⟩⟩;refine⟨h1,by(simp only[da]);exact ar (V.int .i64) av,?_,by(simp only[da]);exact g4,by(simp only[da]);exact g5,by(simp only[da]);exact g6,by(simp only[da]);exact b6⟩;rw[b2,lD,ax P];exact a8
   .have ca:=(OH L[k].from_ L[k].to).trans (ar some (dY P));have a9:=(Q.nx.get (a:=L[k].from_)).1;have aC:=c2 L[k].from_;obtain⟨u,bi⟩:∃u,kQ N L[k].from_ .aP=u:=⟨_,rfl⟩;obtain⟨old,hold⟩:∃old,(gR nx L[k].from_).getD []=old:=⟨_,rfl⟩;rw[bi]at a9;simp only[hold]at a9 aC;have ea:=a9.one;have cb:lD nx L[k]=kg nx L[k].from_ (old++[L[k].to]):=by rw[lD,an P,hold]
    repeat' first|simp(disch:=try exact om) only[gE,simprocAttr,a7,b7,a39,a40,ca,hx,cR.v,bG,aO,aw,ay]|refine cs ?_ ?_<;>intro h<;>try omega|refine ec ?_|refine fg ?_ ?_
    all_goals
     refine yQ qS (a:=L[k].from_) (l:=N) (id:=d) (fD:=t.E) sT sT sT Q.nm (λj bo=>?_);rw[bi]at bo ⊢
     repeat' simp(disch:=try exact om) only[gE,simprocAttr,ea]
     refine iE (xs:=old.map ID.v) (ys:=[L[k].to.v]) ?_ ?_ ?_ ?_ ?_ rfl ?_ ?_ λbr q z hb eb=>?_
     .simp only[sE];exact a9.frame (λ_ _=>rfl) (ao _)
     .exact sT
     .intro y c5;simp at c5;subst c5;rfl
     .exact sT
     .simp only[sE];intro l cc;cases cc
     .simp only[aq,aM,aT,aF]at aC ⊢;omega
     .intro _ el;cases el
     have et:=z.one;have e7:=z.kb;have c6:=z.fS;have R:bt (bH u) (t.E.eM d (fp ID.v (jh N L[k].from_ u))) q:=sR hb;have c7:bH br=bH u\/bH br=some t.E.Y:=sR eb;have c9:q.mp d=some (.map (fp ID.v (jh N L[k].from_ u))):=by rw[R.mp d Q.mb.1.2];simp[aJ.eM]
     repeat' simp only[gE,simprocAttr,et,c6]
     refine uR qS (a:=L[k].from_) (l:=jh N L[k].from_ u) (id:=d) (j:=j) (fD:=q) (yv:=br) sT sT sT c9 bo sT c6 ?_;rw[yg];repeat' simp(disch:=omega) only[gE,simprocAttr,a7]
     refine⟨k+1,⟨?_⟩,⟨av⟩⟩;refine⟨h1,by(simp only[sE]);exact ar (V.int .i64) av,?_,by(simp only[sE]);exact g4,by(simp only[sE]);exact g5,by(simp only[sE]);exact g6,by(simp only[sE]);exact b6⟩;rw[b2,cb];refine⟨ev,ad,ed,d,p,jh N L[k].from_ br,?_⟩;exact Q.next (nv:=q) (λj bo aD=>R.box j bo (by rw[<-bi];exact aD)) R.Y (by rw[aE];exact z) (by rw[bi];exact c7) (λi h=>z.Bd h) (λi aD cc=>by rw[R.mp i cc];simp only[aJ.eM];exact bE _ _ aD) rfl rfl rfl
  .obtain rfl:k=L.length:=av;rw[be]at a8 Q;have c3:=BQ H.bW ac;have fa:=ac.2.2;repeat' first|simp only[gE,simprocAttr,a7,b7,a39,a40,hx]|refine cs ?_ ?_<;>intro h<;>try omega|refine lq c3 ?_
   generalize L.foldl lD H.next=dd at*
   generalize dx H.bW=A at*
   refine dQ rfl rfl (λ(k:Nat) y=>k<=A.length/\y.Z 70=I k/\HP base y.E dV {H with next:=dd,left:=(A.take k).foldl (pn W b) H.left} tid ts/\y.G 5=1/\y.loc 5 0=[I b.J,I b.seq]/\y.G 7=1/\y.loc 7 0=[cd W.O]) (λk=>A.length-k) 0 ?_ ?_
   .exact⟨aL _,by simp only[da,simprocAttr],by(simp only[da,simprocAttr]);exact a8,by(simp only[da,simprocAttr]);exact g4,by(simp only[da,simprocAttr]);exact g5,by(simp only[da,simprocAttr]);exact g6,by(simp only[da,simprocAttr]);exact b6⟩
   clear hx o1 o2 ai Q;rintro k y ⟨fr,bs,ch,a0,a1,a2,a3⟩ f;have ci:y.Z 0=.bp dV 0:=(f 0 dt).trans sT;have cp:y.Z 5=.A 5 0 0:=(f 5 dt).trans sT;have c1:y.Z 7=.A 7 0 0:=(f 7 dt).trans sT;have a4:y.Z 68=dv A:=(f 68 dt).trans sT;have a5:y.Z 69=I A.length:=(f 69 dt).trans sT;clear f;obtain⟨ev,ad,ed,d,p,N,Q,o1,o2,ai⟩:=ch.one;have hx:=Q.box;rcases am k A.length with bu|bu
   .have ab:(A.take (k+1)).foldl (pn W b) H.left=pn W b ((A.take k).foldl (pn W b) H.left) A[k]:=by rw[bj bu,dl];rfl
    generalize (A.take k).foldl (pn W b) H.left=a6 at*
    have c4:=BP W A[k].id aB;cases bv:(ef A[k].id 0 W.O).isSome with
    |true=>
     rw[show pn W b a6 A[k]=a6 by unfold pn;rw[bv];rfl]at ab;rw[bv]at c4;repeat' first|simp(disch:=try exact om) only[gE,simprocAttr,bs,ci,cp,c1,a4,a5,a0,a1,a2,a3,aK.v,fW.v,aO,aw,ay]|refine cs ?_ ?_<;>intro h<;>try omega|refine lq c4 ?_|refine ec ?_
     refine⟨k+1,⟨?_⟩,⟨av⟩⟩;refine⟨bu,by(simp only[da]);exact ar (V.int .i64) av,by rw[ab];(simp only[da]);exact ch,by(simp only[da]);exact a0,by(simp only[da]);exact a1,by(simp only[da]);exact a2,by(simp only[da]);exact a3⟩
    |false=>
     rw[show pn W b a6 A[k]=kg a6 A[k].id b by unfold pn;rw[bv];rfl]at ab;rw[bv]at c4;repeat' first|simp(disch:=try exact om) only[gE,simprocAttr,bs,ci,cp,c1,a4,a5,a0,a1,a2,a3,hx,aK.v,fW.v,aO,aw,ay]|refine cs ?_ ?_<;>intro h<;>try omega|refine lq c4 ?_|refine ec ?_
     all_goals
      refine nB qS (a:=A[k].id) (l:=gX Name.v a6) (id:=p) (fD:=y.E) (yv:=b.v) sT sT sT Q.lm sT rfl ?_;rw[qq];repeat' simp(disch:=omega) only[gE,simprocAttr,bs]
      refine⟨k+1,⟨?_⟩,⟨av⟩⟩;refine⟨bu,by(simp only[sE]);exact ar (V.int .i64) av,?_,by(simp only[sE]);exact a0,by(simp only[sE]);exact a1,by(simp only[sE]);exact a2,by(simp only[sE]);exact a3⟩;rw[ab];exact⟨ev,ad,ed,d,p,N,Q.left A[k].id b⟩
   .obtain rfl:k=A.length:=av;rw[be]at ch Q;repeat' first|simp only[gE,simprocAttr,bs,ci,cp,c1,a4,a5,a0,a1,a2,a3,hx]|refine cs ?_ ?_<;>intro h<;>try omega
    refine cC (n:=1) (off:=2) (cells:=[ev,ad,cd H.bW.O,ed,.mp d,.mp p]) ?_ ?_ bR λfs te tc tl tb tm eN fB=>?_
    .exact sT
    .exact sT
    have dg:=tb.trans sT;have dp:=eN.trans sT;have ds:=tm.trans sT;repeat' simp only[gE,simprocAttr,te,tc,tl]
    exact⟨nE,B true,_,bz rfl rfl,rfl,ev,ad,ed,d,p,N,Q.bW W dg ds dp⟩
 .rw[an r];generalize sg H.bW o b=D at*
  obtain⟨W,e⟩:=D;simp only at r aA;repeat' first|simp(disch:=try exact om) only[gE,simprocAttr,Op.v,Op.c,hx,r,o1,o2,ai]|refine cs ?_ ?_<;>intro h<;>try omega|refine lq aA ?_
  all_goals exact⟨nE,B false,_,bz rfl rfl,rfl,hH⟩
def Kb(p:List aV)(e:aV):m4 (p++[e])=kg (m4 p) e.name e.ei:=by unfold m4;rw[dl];rfl
def Sv(p:List aV)(e:aV):m5 (p++[e])=kg (m5 p) e.J ((gR (m5 p) e.J).getD 0+1):=by unfold m5;rw[dl];rfl
def Sw(p:List aV)(e:aV):m6 (p++[e])=kg (m6 p) e.J e.ei:=by unfold m6;rw[dl];rfl
def GC{p:List aV}{e:aV}(h:s4 p)(d:qX p e):s4 (p++[e]):=by
 intro k f;rw[ae,eu]at f;rcases am k p.length with a|a
 .rw[eK a,e0 (k0 a)];exact h k a
 .obtain rfl:k=p.length:=av;rw[gM (ao _),e0 (ao _),be];simpa using d
def GD(p:List aV)(e:aV)(b:Int):Dx (p++[e]) b (p++[e]).length=Dx p b p.length+if e.J=b then 1 else 0:=by
 have h:p.length< (p++[e]).length:=bR;have:=F5 (l:=p++[e]) (b:=b) h;rw[ae,eu,this];simp only[gM (ao p.length),iM,cw];congr 1;unfold Dx;rw[e0 (ao _)]
structure Kc(p:List aV)(ei:Int):Prop where
 ticks:vN p
 tlt:∀e∈p,e.ei<ei
 closed:s4 p
 g4:∀a,gR (m4 p) a=none\/∃x∈p,x.name=a/\gR (m4 p) a=some x.ei
 g4':∀x∈p,gR (m4 p) x.name≠none
 g5:∀b,(gR (m5 p) b).getD 0=Dx p b p.length
 g6:∀b t,gR (m6 p) b=some t->t<ei
 seq:∀x∈p,0<=x.seq/\x.seq<Dx p x.J p.length
 J:∀x∈p,0<=x.J/\x.J<=5
def Kc.nil:Kc [] 1 where
 ticks:=.nil
 tlt:=λ_ h=>by cases h
 closed:=λ_ h=>absurd h (gN _)
 g4:=λ_=>.inl rfl
 g4':=λ_ h=>by cases h
 g5:=λ_=>rfl
 g6:=λ_ _ h=>by cases h
 seq:=λ_ h=>by cases h
 J:=λ_ h=>by cases h
def Kc.at{p:List aV}{t:Int}(h:Kc p t)(j:1<=t)(r:aV)(q:r.seq=0)(h0:r.C=[]):qX p (jK p r t) where
 new:=by
  rcases h.g4 (jK p r t).name with h1|⟨x,hx,h1,_⟩
  .exact h1
  .have f:=h.seq x hx;have l:x.J=r.J:=ar Name.J h1;have z:x.seq=r.seq+Dx p r.J p.length:=ar Name.seq h1;rw[l]at f;omega
 seq:=by
  show r.seq+Dx p r.J p.length=(gR (m5 p) r.J).getD 0;rw[h.g5];omega
 ei:=λ_=>by
  show(gR (m6 p) r.J).getD 0<t;cases e:gR (m6 p) r.J with
  |some u=>exact h.g6 _ _ e
  |none=>exact Int.lt_of_lt_of_le dt j
 C:=by
  intro a d;have d:a∈(if 0<p.length/\t.tmod 3=0 then yP p else r.C):=d;rw[h0]at d;split at d
  .unfold yP at d;split at d
   next x hx=>
    obtain rfl:=bg.1 d;have hm:=bT hx;rcases h.g4 x.name with h1|⟨y,o,_,f⟩
    .exact absurd h1 (h.g4' x hm)
    .exact⟨_,f,h.tlt y o⟩
   .cases d
  .cases d
def Kc.push{p:List aV}{t y:Int}(h:Kc p t)(z:1<=t)(l:t<y)(r:aV)(D:r.seq=0)(h0:r.C=[])(hb:0<=r.J/\r.J<=5):Kc (p++[jK p r t]) y:=by
 have H:=h.at z r D h0;have K:(jK p r t).ei=t:=rfl;have o:(jK p r t).J=r.J:=rfl;have L:(jK p r t).seq=Dx p r.J p.length:=by show r.seq+_=_;omega
 generalize jK p r t=e at*
 refine⟨jI.2 ⟨h.ticks,List.pairwise_singleton _ _,λa q b hb=>?_⟩,λa q=>?_,GC h.closed H,λa=>?_,λx hx=>?_,λb=>?_,λb u j=>?_,λx hx=>?_,λx hx=>?_⟩
 .obtain rfl:=bg.1 hb;rw[K];exact h.tlt a q
 .rcases aR.1 q with d|d
  .exact qv (h.tlt a d) l
  .obtain rfl:=bg.1 d;omega
 .rw[Kb,qo];split
  next d=>exact .inr ⟨e,bR,d.symm,rfl⟩
  .rcases h.g4 a with f|⟨x,hx,f,N⟩
   .exact .inl f
   .exact .inr ⟨x,ck _ hx,f,N⟩
 .rw[Kb,qo];split
  .simp
  next d=>
   rcases aR.1 hx with f|f
   .exact h.g4' x f
   .obtain rfl:=bg.1 f;exact absurd rfl d
 .rw[Sv,qo,GD,h.g5,o];have:=h.g5 b;split
  next d=>rw[d,ax rfl];rfl
  next d=>rw[an (λf=>d f.symm),this];rfl
 .rw[Sw,qo]at j;split at j
  .cases j;omega
  .exact qv (h.g6 b u j) l
 .rw[GD];rcases aR.1 hx with d|d
  .have:=h.seq x d;split<;>omega
  .obtain rfl:=bg.1 d;rw[ax rfl,o,L];omega
 .rcases aR.1 hx with d|d
  .exact h.J x d
  .obtain rfl:=bg.1 d;rw[o];exact hb
def qf(a:ID):Prop:= -1<=a.J/\a.J<=5/\0<=a.seq/\a.seq<=63/\0<=a.k/\a.k<=16
def xC(Q:ID->Prop)(w:cm):Prop:=∀p∈dx w,Q p.id
abbrev uS(w:cm):Prop:=xC qf w
def Kd:qf h8.id:=by unfold qf h8;simp
def ni{w:cm}{p:aK}:p∈dx w↔ ∃v∈w.O,∃a∈v.O,p∈a.O:=by
 simp only[dx,lP,mu,dC]
def sm{w:cm}{v a:Nat}{p:aK}(h:p∈(gV w v a).O):p∈dx w:=by
 unfold gV at h;rw[ap,ap]at h;cases e:w.O[v]? with
 |none=>rw[e]at h;simp at h
 |some x=>
  rw[e,bf]at h;cases d:x.O[a]? with
  |none=>rw[d]at h;cases h
  |some y=>rw[d]at h;exact ni.2 ⟨x,bT e,y,bT d,h⟩
def OI{w:cm}{v a i:Nat}(h:uS w):qf ((gV w v a).O.getD i h8).id:=by
 rw[ap];cases e:(gV w v a).O[i]? with
 |none=>exact Kd
 |some x=>exact h x (sm (bT e))
def wu{w:cm}{v a:Nat}{x:ee}{p:aK}(h:p∈dx (k7 w v a x)):p∈dx w\/p∈x.O:=by
 obtain⟨u,j,y,f,E⟩:=ni.1 h;rcases cK j with l|rfl
 .exact .inl (ni.2 ⟨u,l,y,f,E⟩)
 .rcases cK f with d|rfl
  .rw[ap]at d;cases e:w.O[v]? with
   |none=>rw[e]at d;cases d
   |some u=>rw[e]at d;exact .inl (ni.2 ⟨u,bT e,y,d,E⟩)
  .exact .inr E
def DR{a:ID}{w:cm}{v b i:Nat}(h:ef a 0 w.O=some (v,b,i)):(gV w v b).O.getD i h8∈dx w:=by
 obtain⟨d,f,j,l⟩:=kw h;rw[fF d f,ap,aa j,bf];exact ni.2 ⟨_,ah d,_,ah f,ah j⟩
def nC{Q:ID->Prop}{w:cm}(h:xC Q w){v a i n:Nat}{l:List aK}(o:∀p∈l,Q p.id):xC Q (kP w v a i n l):=by
 intro p E;rcases wu E with d|d
 .exact h p d
 .rcases aR.1 d with f|f
  .rcases aR.1 f with j|j
   .exact h p (sm (eE j))
   .exact o p j
  .exact h p (sm (jH f))
def DS{Q:ID->Prop}{w:cm}(h:xC Q w){v a:Nat}{i:Int}{q:aK}(d:Q q.id):xC Q (x6 w v a i q).1:=by
 unfold x6;split
 .exact nC h λp E=>by obtain rfl:=bg.1 E;exact d
 .exact h
def GE{Q:ID->Prop}{w:cm}(h:xC Q w)(o:Op){b:Name}(hb:∀k,0<=k/\k<=16->Q ⟨b.J,b.seq,k⟩):xC Q (mU w o b).1:=by
 unfold mU;split
 .exact h
 next v a i u=>
  have l:=h _ (DR u);split
  .split
   .exact h
   next D H K r=>
    have t:=h _ (DR r);intro p E;have d:∀x:aK,Q x.id->xC Q (k7 w v a ⟨(gV w v a).gO,(gV w v a).O.set i x⟩):=λx hx p E=>by
     rcases wu E with d|d
     .exact h p d
     .rcases cK d with f|rfl
      .exact h p (sm f)
      .exact hx
    have f:=d _ t;rcases wu E with q|q
    .exact f p q
    .rcases cK q with y|rfl
     .exact f p (sm y)
     .exact l
  .split
   .exact nC h λp E=>by cases E
   .split
    .unfold Ll;split
     .refine nC h λp E=>?_;simp only[bC,cI,gI]at E;rcases E with rfl|rfl
      .exact hb 0 av
      .exact hb 1 av
     .exact h
    .split
     .unfold Bj;simp only;split
      .split
       .exact nC h λp E=>by obtain rfl:=bg.1 E;exact hb 0 av
       .exact h
      .exact h
     .split
      .unfold Bi;split
       .exact DS (nC h λp E=>by cases E) l
       .exact h
      .split
       .unfold EH;simp only;split
        next L=>
         split
         .refine nC h λp E=>?_;obtain⟨j,z,rfl⟩:=cG.1 E;have:=dc.1 z;exact hb j av
         .exact h
        .exact h
       .exact nC h λp E=>by obtain rfl:=bg.1 E;exact l
def E9{Q:ID->Prop}{w:cm}(h:xC Q w)(o:Op){b:Name}(hb:∀k,0<=k/\k<=16->Q ⟨b.J,b.seq,k⟩):xC Q (mI w o b).1:=by
 unfold mI;split
 .intro p E;obtain⟨v,q,a,f,j⟩:=ni.1 E;rcases aR.1 q with l|l
  .exact h p (ni.2 ⟨v,l,a,f,j⟩)
  .obtain rfl:=bg.1 l;cases f
 .split
  .split
   .intro p E;obtain⟨v,q,a,f,j⟩:=ni.1 E;rcases cK q with l|rfl
    .exact h p (ni.2 ⟨v,l,a,f,j⟩)
    .rcases aR.1 f with d|d
     .rw[ap]at d;cases e:w.O[o.spot.i9.toNat]? with
      |none=>rw[e]at d;cases d
      |some u=>rw[e]at d;exact h p (ni.2 ⟨u,bT e,a,d,j⟩)
     .obtain rfl:=bg.1 d;cases j
   .exact h
  .split
   .exact DS h (hb 0 av)
   .exact h
def OJ{Q:ID->Prop}{w:cm}(h:xC Q w)(o:Op){b:Name}(hb:b.mv=true->∀k,0<=k/\k<=16->Q ⟨b.J,b.seq,k⟩):xC Q (sg w o b).1:=by
 have a:xC Q ⟨[]⟩:=λp E=>by cases E
 unfold sg;split
 .exact a
 .split
  next d=>
   have hb:=hb d.1;have f:xC Q (if 2<o.kind then mU w o b else mI w o b).1:=by
    split
    .exact GE h o hb
    .exact E9 h o hb
   generalize (if 2<o.kind then mU w o b else mI w o b)=r at*
   simp only;split
   .split
    .exact f
    .exact a
   .exact a
  .exact a
def OK{w:cm}(h:uS w)(o:Op)(b:Name):uS (sg w o b).1:=OJ h o λhb k a=>by
 simp only[Name.mv,cy]at hb;exact⟨by show -1<=b.J;omega,hb.2.1,hb.2.2.1,hb.2.2.2,a.1,a.2⟩
def DT{w:cm}{o:Op}{b:Name}(h:(sg w o b).2=0):fy (sg w o b).1=0:=by
 unfold sg at h ⊢
 generalize (if 2<o.kind then mU w o b else mI w o b)=r at*
 simp only at h ⊢
 split at h
 next a=>exact absurd h a
 next a=>
  rw[an a];split at h
  next j=>
   rw[ax j];split at h
   next d=>
    rw[ax d];split at h
    next f=>rw[ax f];exact f
    .cases h
   next d=>exact absurd h d
  .cases h
structure Op.small(o:Op):Prop where
 W:qf o.W
 to:qf o.to
 kind:0<=o.kind/\o.kind<=9
 i9: -1000000<=o.spot.i9/\o.spot.i9<=1000000
 k3: -1000000<=o.spot.k3/\o.spot.k3<=1000000
 idx: -1000000<=o.spot.idx/\o.spot.idx<=1000000
 n: -1000<=o.n/\o.n<=1000
 eB: -1000000<=o.eB/\o.eB<=1000000
 eh: -1000000<=o.eh/\o.eh<=1000000
 bW:o.bW.length<=200
 F:o.F.length<=3/\∀t∈o.F,t.length<=200
 cX:o.cX.length<=16/\∀x∈o.cX,(0<=x.1/\x.1<=100)/\(0<=x.2/\x.2<=100)
 C:o.C.length<=256/\∀r∈o.C,qf r
def Op.small.enc{o:Op}(h:o.small):o.enc:=by
 obtain⟨p,q,r,u,y,z,D,H,K,L,⟨hb,d⟩,⟨N,f⟩,P,j⟩:=h;unfold qf at*
 unfold Op.enc jv;refine⟨⟨?_,?_,?_,?_,?_,?_,?_,?_,?_,?_,?_,?_,?_⟩,av,av,λt l=>by have:=d t l;omega,av,λn a=>?_,av,λn a=>?_⟩;iterate 13 ·omega
 .obtain⟨x,hx,a⟩:=dC.1 a;have:=f x hx;simp only[bC,cI,gI]at a;rcases a with rfl|rfl<;>omega
 .obtain⟨x,hx,a⟩:=dC.1 a;have:=j x hx;simp only[bC,cI,gI]at a;rcases a with rfl|rfl|rfl<;>omega
def Op.small.ok{o:Op}(h:o.small):o.ok:=by
 obtain⟨l,p,q,r,u,y,z,D,H,K,⟨hb,a⟩,⟨L,f⟩,N,j⟩:=h;exact⟨av,av,λt d=>by have:=a t d;omega,av,av⟩
def Op.small.len{o:Op}(h:o.small):(oQ o).length<=65536:=by
 obtain⟨h0,p,a,d,q,f,r,j⟩:=h.enc;have l:∀n∈o.head,jv n:=by
  exact Xw
 have g1:=h.bW;have t:=h.F.1;have u:=h.cX.1;have g4:=h.C.1;have y:(cZ o.head).length<=126:=fN o.head (by simp[Op.head]) l;have z:=mD o.bW av;have D:=lg o.F a d;have H:=qQ o.cX;have K:=sc o.C;have L:=fN (jl o.cX) av f;have N:=fN (lf o.C) av j;unfold oQ;simp only[ae];omega
def DU:qf ⟨0,0,0⟩:=by unfold qf;simp
def nD:iW.small:=by
 refine⟨DU,DU,?_,?_,?_,?_,?_,?_,?_,?_,⟨?_,?_⟩,⟨?_,?_⟩,?_,?_⟩<;>simp[iW]
def OL{w:cm}(h:uS w)(n:Int):qf (Dp w n):=by
 unfold Dp;cases e:(dx w)[(iU n ((dx w).length+1)).toNat]? with
 |none=>unfold qf ou;simp
 |some x=>exact h x (bT e)
def uT{w:cm}(h:uS w)(l:List Int)(k:Int)(n:Nat):(gQ w l k n).length=n/\∀r∈gQ w l k n,qf r:=by
 unfold gQ;refine⟨bR,λr a=>?_⟩;obtain⟨i,_,rfl⟩:=cG.1 a;exact OL h _
def Fa{w:cm}(h:uS w)(i:Nat):qf ((dx w).getD i h8).id:=by
 rw[ap];cases e:(dx w)[i]? with
 |none=>exact Kd
 |some x=>exact h x (bT e)
def GF{w:cm}(o:w.fits)(l:List Int)(k:Int)(a:ID)(less:Nat):(0<=(sh w l k a less).i9/\(sh w l k a less).i9<=8)/\(0<=(sh w l k a less).k3/\(sh w l k a less).k3<=64)/\(-2000<=(sh w l k a less).idx/\(sh w l k a less).idx<=2000):=by
 obtain⟨u,p,⟨z,q⟩,_⟩:=o;unfold sh;simp only;obtain⟨s,d⟩:∃s,(nh w w.O.length).getD (W l k ((nh w w.O.length).length:Int)).toNat ⟨0,0,0⟩=s:=⟨_,rfl⟩;rw[d];have f:(0<=s.i9/\s.i9<=8)/\(0<=s.k3/\s.k3<=64)/\(gV w s.i9.toNat s.k3.toNat).O.length<=1024:=by
  rw[ap]at d;have hlen:∀v a,(gV w v a).O.length<=1024:=λv a=>by
   unfold gV;rw[ap,ap];cases e:w.O[v]? with
   |none=>simp
   |some x=>
    rw[bf];cases r:x.O[a]? with
    |none=>simp
    |some y=>
     obtain⟨q1,rfl⟩:=aH.1 e;obtain⟨j,rfl⟩:=aH.1 r;rw[bf];exact aQ (mJ q1 j) p
  cases e:(nh w w.O.length)[(W l k ((nh w w.O.length).length:Int)).toNat]? with
  |none=>rw[e]at d;subst d;exact⟨bR,bR,hlen _ _⟩
  |some x=>
   rw[e,bf]at d;subst d;obtain⟨v,a,rfl,q1,j⟩:=ye w _ (ao _) x (bT e);have:=q _ (ah q1);exact⟨⟨bR,by simp;omega⟩,⟨bR,by simp;omega⟩,hlen _ _⟩
 obtain⟨g1,t,D⟩:=f;have hb:=ic l (k+1) (((gV w s.i9.toNat s.k3.toNat).O.length-yS w s a less:Nat)+1:Int) av;refine⟨g1,t,?_⟩;generalize (gV w s.i9.toNat s.k3.toNat).O.length=n at*
 constructor<;>omega
def q6(l:List Int)(k:Int):(kj l k).length<=200:=aQ (se l k) av
def wv(l:List Int)(k:Int)(a:ID):(my l k a).bW.length<=200/\(0<=(my l k a).eB/\(my l k a).eB<=3)/\(0<=(my l k a).eh/\(my l k a).eh<=8)/\∀r∈(my l k a).C,qf r:=by
 have p:=ic l k 8 av;have o:=ic l (k+1) 8 av;have q:=ic l (k+1) 6 av;have t:=se l (k+2);refine⟨?_,?_,?_,λr f=>?_⟩
 .simp only[my,ae,sf];generalize W l (k+1) 6=d at*
  obtain⟨d,rfl⟩:∃j:Nat,d=j:=⟨d.toNat,av⟩;have hb:d=0\/d=1\/d=2\/d=3\/d=4\/d=5:=av;have:(qO.getD (d:Int).toNat 0).toNat<=2:=by rcases hb with rfl|rfl|rfl|rfl|rfl|rfl<;>decide
  omega
 .show 0<=we.getD (W l k 8).toNat 0/\we.getD (W l k 8).toNat 0<=3;generalize W l k 8=d at*
  obtain⟨d,rfl⟩:∃j:Nat,d=j:=⟨d.toNat,av⟩;have hb:d=0\/d=1\/d=2\/d=3\/d=4\/d=5\/d=6\/d=7:=av;rcases hb with rfl|rfl|rfl|rfl|rfl|rfl|rfl|rfl<;>decide
 .show 0<=(W l (k+1) 8).tdiv 3/\(W l (k+1) 8).tdiv 3<=8;rw[jr o.1];omega
 .simp only[my,vH,cG]at f;obtain⟨i,_,rfl⟩:=f;have b:=ic l (k+3+i) 9 av;unfold QZ;split
  .unfold qf ou;simp
  .unfold qf;simp only;omega
def DV(i:Nat)(d:i<=4)(s:Int×List (Int×Int))(h:∀x∈s.2,(0<=x.1/\x.1<=100)/\(0<=x.2/\x.2<=100)):∀k,k<=4->∀x∈(pJ i k s).2,(0<=x.1/\x.1<=100)/\(0<=x.2/\x.2<=100)
 |0,_=>h
 |k+1,f=>by
  have ih:=DV i d s h k av;simp only[pJ];split
  .intro x hx;rcases aR.1 hx with a|a
   .exact ih x a
   .obtain rfl:=bg.1 a;simp only;omega
  .exact ih
def B5(many:Nat)(hm:many<=4)(s:Int×List (Int×Int))(h:∀x∈s.2,(0<=x.1/\x.1<=100)/\(0<=x.2/\x.2<=100)):∀i,i<=4->∀x∈(p0 many i s).2,(0<=x.1/\x.1<=100)/\(0<=x.2/\x.2<=100)
 |0,_=>h
 |i+1,a=>DV i av _ (B5 many hm s h i av) many hm
def B6(l:List Int)(k:Int)(many m:Nat)(hm:m<=2):∀t∈jE l k many m,t.length<=200:=by
 intro t a;unfold jE at a;rcases cK a with d|rfl
 .obtain⟨i,_,rfl⟩:=cG.1 d;exact q6 _ _
 .have:=se l (k+4*((many-1:Nat):Int));rw[ae,sf];omega
def GI{w:cm}(d:w.fits)(l:List Int)(k:Int){a:ID}(f:qf a):(rm w l k a).small:=by
 have o:=GF d l (k+2) a 1;have j:=nD;exact {j with W:=f,kind:=by simp[rm],i9:=by simp only[rm];omega,k3:=by simp only[rm];omega,idx:=by simp only[rm];omega}
def CH{w:cm}(d:w.fits)(f:uS w)(l:List Int)(k:Int):(oD w l k).small:=by
 have o:=GF d l (k+2) ⟨-1,0,0⟩ 0;have j:=nD;have h1:=wv l (k+4) ⟨0,0,0⟩;have p:=vn l (k+4) ⟨0,0,0⟩;have a:=uT f l (k+5) (my l (k+4) ⟨0,0,0⟩).C.length;exact {j with kind:=by simp[oD],i9:=by simp only[oD];omega,k3:=by simp only[oD];omega,idx:=by simp only[oD];omega,eB:=by simp only[oD];omega,eh:=by simp only[oD];omega,bW:=h1.1,C:=⟨by simp only[oD];rw[a.1];omega,a.2⟩}
def B7{w:cm}(d:uS w)(l:List Int)(k:Int){v a i:Nat}(z:i< (gV w v a).O.length):(jb w l k ⟨v,a,i⟩).small:=by
 have f:=nD;have H:=ic l k (min ((gV w v a).O.length-(i:Int)) 4) av;have K:=ic l (k+1) 3 av;have L:=ic l (k+2) 9 av;have N:=ic l (k+2) 4096 av;have j:=uT d l (k+3) (W l (k+2) 9-6).toNat;have E:=B5 (1+W l (k+1) 3).toNat av (W l (k+2) 4096,[]) (λx hx=>by cases hx) (1+W l k (min ((gV w v a).O.length-(i:Int)) 4)).toNat av;have p:=(Bn (1+W l (k+1) 3).toNat av (W l (k+2) 4096,[]) (by simp only;omega) (1+W l k (min ((gV w v a).O.length-(i:Int)) 4)).toNat av).2;have q:=B6 l (k+3) (1+W l (k+1) 3).toNat (W l (k+2) 9-6).toNat av;have D:=xg l (k+3) (1+W l (k+1) 3).toNat (W l (k+2) 9-6).toNat;have dV:qf (((gV w v a).O).getD i ⟨⟨0,0,0⟩,0,0,[],[]⟩).id:=OI d;have t1:(jb w l k ⟨v,a,i⟩).n=1+W l k (min ((gV w v a).O.length-(i:Int)) 4):=rfl;have t2:(jb w l k ⟨v,a,i⟩).F=jE l (k+3) (1+W l (k+1) 3).toNat (W l (k+2) 9-6).toNat:=rfl;have r:(jb w l k ⟨v,a,i⟩).cX=(p0 (1+W l (k+1) 3).toNat (1+W l k (min ((gV w v a).O.length-(i:Int)) 4)).toNat (W l (k+2) 4096,[])).2:=rfl;have t:(jb w l k ⟨v,a,i⟩).C=gQ w l (k+3) (W l (k+2) 9-6).toNat:=rfl;have u:(jb w l k ⟨v,a,i⟩).W=(((gV w v a).O).getD i ⟨⟨0,0,0⟩,0,0,[],[]⟩).id:=rfl;have y:(jb w l k ⟨v,a,i⟩)={iW with kind:=8,W:=(jb w l k ⟨v,a,i⟩).W,n:=(jb w l k ⟨v,a,i⟩).n,F:=(jb w l k ⟨v,a,i⟩).F,cX:=(jb w l k ⟨v,a,i⟩).cX,C:=(jb w l k ⟨v,a,i⟩).C}:=rfl;generalize jb w l k ⟨v,a,i⟩=o at*
 rw[y];refine {f with W:=?_,kind:=?_,n:=?_,F:=?_,cX:=?_,C:=?_}
 .show qf o.W;rw[u];exact dV
 .simp
 .simp only[t1];omega
 .simp only[t2];exact⟨av,q⟩
 .simp only[r];exact⟨by simp only[aT]at p;omega,E⟩
 .simp only[t];exact⟨av,j.2⟩
def Sx{w:cm}(d:w.fits){p:aK}(E:p∈dx w):p.C.length<=256/\(cq p.bW).length<=256:=by
 obtain⟨_,_,a,f⟩:=d.2.2.2 p E;have j:gm p.bW<=(cq p.bW).length:=sL _ _ _;have l:(cq p.bW).length<=256:=by
  unfold g3 at a;repeat(split at a;cases a)
  omega
 omega
def Is{s:T}{n:Nat}{x:Int}(h:x∈kG s n):0<=x/\x<=n:=by
 unfold kG at h;obtain⟨i,a,rfl⟩:=cG.1 h;have:=dc.1 (kz.1 a).1;omega
def It{w:cm}(d:w.fits)(f:uS w)(l:List Int)(k:Int):(Gt w l k).small:=by
 have h0:=nD;unfold Gt;split
 .unfold sU;split
  next v o=>
   have:∀(L:List eQ)(j v:Nat),rF j L=some v->v<j+L.length:=by
    intro L;induction L with
    |nil=>intro j v h;cases h
    |cons x r ih=>
     intro j v h;unfold rF at h;split at h
     .cases h;simp
     .have:=ih _ _ h;simp;omega
   have:=this _ _ _ o;have:=d.2.2.1.1;exact S5
  .split
   .exact {h0 with kind:=bR,bW:=q6 _ _}
   .exact h0
 next H=>
  simp only;have E:=Fa f (W l (k+1) (dx w).length).toNat;have q:(dx w).getD (W l (k+1) (dx w).length).toNat h8∈dx w:=by
   have:=ic l (k+1) (dx w).length av;exact XV
  generalize (dx w).getD (W l (k+1) (dx w).length).toNat h8=p at*
  have y:=Sx d q;split
  next v a i o=>
   obtain⟨q1,z,D,N⟩:=kw o;have t:i< (gV w v a).O.length:=by rw[fF q1 z];exact D
   unfold E3;have hm:=GI d l k E;have K:=d.2.2.1.1;split
   .exact CH d f l k
   split
   .exact {h0 with W:=E,kind:=by simp}
   split
   .split
    next P=>
     have hb:=ic l (k+2) (kG p.bW (cq p.bW).length).length av;have:(kG p.bW (cq p.bW).length).getD (W l (k+2) (kG p.bW (cq p.bW).length).length).toNat 0∈kG p.bW (cq p.bW).length:=by
      exact XV
     have:=Is this;exact {h0 with W:=E,kind:=bR,n:=by simp only;omega}
    .exact hm
   split
   .split
    .exact {h0 with W:=E,kind:=by simp}
    .exact hm
   split
   .exact B7 f l (k+2) t
   split
   .have u:=uT f l (k+2) p.C.length;exact {h0 with W:=E,kind:=bR,C:=⟨by simp only;rw[u.1];exact y.1,u.2⟩}
   split
   .exact {h0 with W:=E,to:=Fa f _,kind:=by simp}
   split
   .have hb:=ic l (k+2) w.O.length av;exact S5
   split
   .exact h0
   .exact hm
  .exact h0
end Go.Bx
