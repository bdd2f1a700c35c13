/- Lemmas for HistoryOrder. -/
import Derived.Test.YtmbahmpbmcfifaaGreatDoorAi
import Derived.Test.YtmbahmpbmcfifaaGreatDoorAj
import Derived.Test.YtmbahmpbmcfifaaGreatDoorAk
import Derived.Ground.GgzProg
import Derived.Ground.SlgmProg
import Derived.Ground.SlsfProg
import Derived.Shelf.SlGeneric
import Derived.Shelf.SlIter.Nil
import Derived.Shelf.SlSortCmp.NoneTotal
import Derived.Shelf.SortM.Plain
import Derived.Shelf.SortM.SortNone
noncomputable section
set_option linter.all false
set_option maxHeartbeats 4000000
set_option maxRecDepth 100000
namespace Go.Bx
open Go.Proofs Go.Proofs.Tryz
attribute [local irreducible] vc er dr b4 bV run iD iY i1 i6 iQ i7 i2 iu iS i4 gB i3 cW
def Bz(s:T)(k:Int):Bool:=decide (1<=k/\k< (cq s).length)&&lC (cq s) k.toNat
def nQ(s:T)(k:Int):T:=s.take (((cq s).getD k.toNat ⟨0,0,0⟩).W-1).toNat
def EP(s:T)(k:Int):T:=s.drop ((cq s).getD k.toNat ⟨0,0,0⟩).W.toNat
def Gb{s:T}{k:Int}(h0:g3 s=0)(h:Bz s k=true):tH s k=.hE [S (nQ s k),S (EP s k),I 0]:=by
 simp only[Bz,aX,cy]at h;unfold tH;rw[an (by simp[h0]),ax ⟨h.1.1,h.1.2,h.2⟩];rfl
def JO{s:T}{k:Int}(h0:g3 s=0)(h:Bz s k=false):tH s k=.hE [S [],S [],I 5]:=by
 unfold tH;rw[an (by simp[h0]),an];rintro⟨a,d,f⟩;simp[Bz,a,d,f]at h
def EQ(s:T)(k:Int):(nQ s k).length<=s.length/\(EP s k).length<=s.length:=by
 constructor
 .unfold nQ;rw[aF];omega
 .unfold EP;rw[aS];omega
def BA(s:T)(k:Int):gm (nQ s k)<=gm s:=by
 unfold nQ;rcases am (((cq s).getD k.toNat ⟨0,0,0⟩).W-1).toNat s.length with h|h
 .exact F9 s _ av
 .rw[az h];exact ao _
def Ll(w:cm)(v a i:Nat)(p:aK)(k:Int)(b:Name):cm×Int:=
 if Bz p.bW k=true then(kP w v a i 1 [k6 b 0 p (nQ p.bW k) (p.C.take (gm (nQ p.bW k))),k6 b 1 p (EP p.bW k) (p.C.drop (gm (nQ p.bW k)))],0)else(w,5)
def mU(w:cm)(o:Op)(b:Name):cm×Int:=
 match ef o.W 0 w.O with
 |none=>(w,6)
 |some (v,a,i)=>
  if o.kind=7 then(match ef o.to 0 w.O with
   |none=>(w,6)
   |some (d,f,j)=>(xh w v a i d f j,0))
  else if o.kind=3 then(kP w v a i 1 [],0)
  else if o.kind=4 then Ll w v a i ((gV w v a).O.getD i h8) o.n b
  else if o.kind=5 then Bj w v a i b
  else if o.kind=6 then Bi w o v a i ((gV w v a).O.getD i h8)
  else if o.kind=8 then EH w o v a i b
  else(kP w v a i 1 [{(gV w v a).O.getD i h8 with C:=o.C}],0)
def Ry(w:cm)(j:w.ok)(ac:(dx w).length<=10000)(E:∀p∈dx w,p.C.length<=10000/\p.bW.length<=10000/\g3 p.bW=0/\gm p.bW=p.C.length)(o:Op)(y:o.ok)(ad:∀t∈o.F,t.length<=10000)(a3:2<o.kind/\o.kind<=9)(b:Name):
 af 191 [w.v,o.v,b.v] (mw (mU w o b)):=by
 have c1:=vg w o.W j;have c2:=vg w o.to j;unfold mU;rcases r:ef o.W 0 w.O with _|⟨v,a,i⟩
 .rw[r]at c1;simp only[ka,cL]at c1;unfold mw;refine pk f191 ?_;repeat' first|simp(disch:=try exact om) only[gE,simprocAttr,Op.v,Op.c]|refine lq c1 ?_|refine lq c2 ?_|(((refine rT ?_;repeat' first|exact hP.nil|refine gt ?_ ?_|refine gc ?_ ?_);(all_goals(try(first|with_reducible exact .refl _|(apply aj;simp;done))))))
  all_goals skip
 .rw[r]at c1;simp only[ka,fJ]at c1;obtain⟨d,f,l,dV⟩:=kw r;have c3:=qa w v a ⟨v,a,i⟩ d f rfl rfl;simp only;rw[fF d f,ap,aa l,bf];have z:w.O[v].O[a].O[i]∈dx w:=dC.2 ⟨_,ah d,dC.2 ⟨_,ah f,ah l⟩⟩;obtain⟨p1,ai,D,a4⟩:=E _ z;have H:o.kind=3\/o.kind=4\/o.kind=5\/o.kind=6\/o.kind=7\/o.kind=8\/o.kind=9:=av;rcases H with h|h|h|h|h|h|h
  .rw[an av,ax h];have c4:=sQ w j v a i 1 d f av av [] bR;unfold mw;refine pk f191 ?_;repeat' first|simp(disch:=try exact om) only[gE,simprocAttr,Op.v,Op.c,h]|refine lq c1 ?_|((first|refine iR c2 ?_ ?_|refine iR c3 ?_ ?_|refine iR c4 ?_ ?_);·(repeat(first|exact aN.nil|(refine aN.cons (aj ?_) ?_;(simp only[dL]<;>rfl))|(refine aN.cons ?_ ?_;simp only[pU]<;>exact .aP _))))|(((refine rT ?_;repeat' first|exact hP.nil|refine gt ?_ ?_|refine gc ?_ ?_);(all_goals(try(first|with_reducible exact .refl _|(apply aj;simp;done))))))
   all_goals skip
  .rw[an av,an av,ax h];have c4:=QX w.O[v].O[a].O[i].bW o.n ai;unfold Ll;by_cases q:Bz w.O[v].O[a].O[i].bW o.n=true
   .rw[ax q];rw[Gb D q]at c4;have a5:=EQ w.O[v].O[a].O[i].bW o.n;have a6:=BA w.O[v].O[a].O[i].bW o.n;have aA:=zN (nQ w.O[v].O[a].O[i].bW o.n) av (sM _ av);have K:(lU 3 (cq (nQ w.O[v].O[a].O[i].bW o.n)) (cq (nQ w.O[v].O[a].O[i].bW o.n)).length).length=gm (nQ w.O[v].O[a].O[i].bW o.n):=rfl;generalize a1:gm (nQ w.O[v].O[a].O[i].bW o.n)=m at*
    have a2:m<=w.O[v].O[a].O[i].C.length:=av;have L:=xd b 0 w.O[v].O[a].O[i] (nQ w.O[v].O[a].O[i].bW o.n) (w.O[v].O[a].O[i].C.take m) (by rw[aF];omega);have N:=xd b 1 w.O[v].O[a].O[i] (EP w.O[v].O[a].O[i].bW o.n) (w.O[v].O[a].O[i].C.drop m) (by rw[aS];omega);have aB:=sQ w j v a i 1 d f av av [k6 b 0 w.O[v].O[a].O[i] (nQ w.O[v].O[a].O[i].bW o.n) (w.O[v].O[a].O[i].C.take m),k6 b 1 w.O[v].O[a].O[i] (EP w.O[v].O[a].O[i].bW o.n) (w.O[v].O[a].O[i].C.drop m)] bR;simp only[eZ,kt,gC]at L N;have P:List.take (w.O[v].O[a].O[i].C.length-m) (List.drop m (List.map ID.v w.O[v].O[a].O[i].C))=List.drop m (List.map ID.v w.O[v].O[a].O[i].C):=az bR;unfold mw;refine pk f191 ?_;repeat' first|simp(disch:=try exact om) only[gE,simprocAttr,Op.v,Op.c,h,K,P]|refine lq c1 ?_|refine lq c2 ?_|refine lq c3 ?_|refine lq c4 ?_|refine lq aA ?_|refine lq L ?_|refine lq N ?_|refine lq aB ?_|(((refine rT ?_;repeat' first|exact hP.nil|refine gt ?_ ?_|refine gc ?_ ?_);(all_goals(try(first|with_reducible exact .refl _|(apply aj;simp;done))))))
    all_goals skip
   .rw[an q];rw[JO D (by simpa using q)]at c4;unfold mw;exact V6
  .rw[an av,an av,an av,ax h];have c4:=QU w j v a i b d f l (λp h=>⟨(E p h).1,(E p h).2.1⟩);unfold mw at c4 ⊢
   exact V6
  .rw[an av,an av,an av,an av,ax h];have c4:=QT w j ac o v a i w.O[v].O[a].O[i] d f l;unfold mw at c4 ⊢
   simp only[Op.v,Op.c,h]at c4;exact V6
  .rw[ax h];rcases u:ef o.to 0 w.O with _|⟨aC,aD,a0⟩
   .rw[u]at c2;simp only[ka,cL]at c2;unfold mw;refine pk f191 ?_;repeat' first|simp(disch:=try exact om) only[gE,simprocAttr,Op.v,Op.c,h]|refine lq c1 ?_|refine lq c2 ?_|(((refine rT ?_;repeat' first|exact hP.nil|refine gt ?_ ?_|refine gc ?_ ?_);(all_goals(try(first|with_reducible exact .refl _|(apply aj;simp;done))))))
    all_goals skip
   .rw[u]at c2;simp only[ka,fJ]at c2;obtain⟨Q,R,ab,_⟩:=kw u;have c4:=Ra w j v a i aC aD a0 d f l Q R ab;unfold mw;exact V6
  .rw[an av,an av,an av,an av,an av,ax h];have c4:=Q4 w j o y ad v a i b d f l;unfold mw at c4 ⊢
   simp only[Op.v,Op.c,h]at c4;exact V6
  .rw[an av,an av,an av,an av,an av,an av];have c4:=sQ w j v a i 1 d f av av [{w.O[v].O[a].O[i]with C:=o.C}] bR;unfold mw;have a7:=y.2.2.2.2;exact V6
def cm.fits(w:cm):Prop:=w.ok/\(dx w).length<=1024/\(w.O.length<=8/\∀v∈w.O,v.O.length<=64)/\∀p∈dx w,p.C.length<=10000/\p.bW.length<=10000/\g3 p.bW=0/\gm p.bW=p.C.length
def Gc{w:cm}(h:fy w=0):lj w=false/\(dx w).all aK.sa=true:=by
 unfold fy at h;split at h
 .cases h
 .split at h
  .cases h
  next a d=>exact⟨by simpa using a,by simpa using d⟩
def H6{s:T}(h:g3 s=0):s.length<=4096:=by
 unfold g3 at h;split at h
 .cases h
 .omega
def nz{w:cm}(f:w.ok)(h:fy w=0):w.fits:=by
 obtain⟨a,j⟩:=Gc h;simp only[lj,nV,fi,mO]at a;refine⟨f,av,⟨av,λv l=>?_⟩,λp E=>?_⟩
 .have:=a.1.1 v l;simp at this;omega
 .have:=bP.1 j p E;simp only[aK.sa,aX,iA]at this;obtain⟨⟨⟨⟨_,_⟩,d⟩,o⟩,_⟩:=this;have q:=H6 d;have r:=x9 p.bW;exact⟨av,av,d,o⟩
def BB{w:cm}{v a:Nat}{x:ee}(d:v<w.O.length):(dx (k7 w v a x)).length<=(dx w).length+x.O.length:=by
 rw[qm d];exact Bh d FR
def mJ{w:cm}{v a:Nat}(hv:v<w.O.length)(ha:a<w.O[v].O.length):w.O[v].O[a].O.length<=(dx w).length:=by
 exact Xz
def DD{w:cm}{v a i n:Nat}{l:List aK}(hv:v<w.O.length)(ha:a<w.O[v].O.length):(dx (kP w v a i n l)).length<=3*(dx w).length+l.length:=by
 have:=mJ hv ha;refine aQ (BB hv) ?_;exact S1
def zV{w:cm}{v a i:Nat}(d:v<w.O.length)(f:a<w.O[v].O.length)(j:i<w.O[v].O[a].O.length):w.O[v].O[a].O[i]∈dx w:=
 dC.2 ⟨_,ah d,dC.2 ⟨_,ah f,ah j⟩⟩
def JP{w:cm}(d:w.ok)(f:2*(dx w).length+1<=1000000){v a:Nat}{i:Int}{p:aK}(j:v<w.O.length)(l:a<w.O[v].O.length)(E:p.ok):(x6 w v a i p).1.ok:=by
 unfold x6;split
 .exact pI d j l (by simpa using E) (by simpa using f)
 .exact d
def vP{w:cm}(K:w.fits){o:Op}(q:o.ok)(b:Name):(mI w o b).1.ok:=by
 obtain⟨D,L,⟨ad,r⟩,E⟩:=K;have f:=D;obtain⟨N,t,P⟩:=D;unfold mI;split
 .refine⟨by simp;omega,λv d=>?_,?_⟩
  .rcases aR.1 d with d|d
   .exact t v d
   .obtain rfl:=bg.1 d;exact⟨bR,λa Q=>by cases Q⟩
  .have e:dx (⟨w.O++[⟨[]⟩]⟩:cm)=dx w:=by simp[dx,lP,mu]
   rw[e];exact P
 split
 .split
  next h=>
   have d:o.spot.i9.toNat<w.O.length:=av;have H:=t _ (ah d);have ai:=r _ (ah d);have e:G9 w o.spot.i9.toNat ⟨o.bW,[]⟩=⟨w.O.set o.spot.i9.toNat ⟨w.O[o.spot.i9.toNat].O++[⟨o.bW,[]⟩]⟩⟩:=by
    simp only[G9,ap,aa d,bf]
   rw[e];refine⟨by simpa using N,λy u=>?_,?_⟩
   .rcases cK u with u|rfl
    .exact t y u
    .refine⟨by simp;omega,λz j=>?_⟩;rcases aR.1 j with j|j
     .exact H.2 z j
     .obtain rfl:=bg.1 j;exact⟨q.1,bR,λp E=>by cases E⟩
   .have R:=Bh (l:=w.O) (v:=o.spot.i9.toNat) (y:=⟨w.O[o.spot.i9.toNat].O++[⟨o.bW,[]⟩]⟩) (k:=0) d (by simp[mu]);exact aQ R (aQ L dt)
  .exact f
 .split
  next h=>obtain⟨_,_,ab,ac⟩:=EL h;exact JP f av ab ac ⟨q.1,q.2.2.2.2⟩
  .exact f
def CM{w:cm}(R:w.fits){o:Op}(aC:o.ok)(a3:∀t∈o.F,t.length<=10000)(b:Name):(mU w o b).1.ok:=by
 obtain⟨f,bi,_,E⟩:=R;unfold mU;split
 .exact f
 rename_i v a i R;obtain⟨d,r,L,dV⟩:=kw R;rw[fF d r,ap,aa L,bf];have aD:=zV d r L;obtain⟨bo,br,bs,bu⟩:=E _ aD;have N:(w.O[v].O[a].O[i]).ok:=⟨av,av⟩;split
 .split
  .exact f
  next ab ac ad a4=>
   obtain⟨y,z,P,_⟩:=kw a4;have ai:=(f.2.1 _ (ah d)).2 _ (ah r);have a0:=(f.2.1 _ (ah y)).2 _ (ah z);have a5:=mJ d r;have bv:=mJ y z;unfold xh;simp only[fF d r,fF y z,ap,aa L,aa P,bf];have a1:(k7 w v a ⟨w.O[v].O[a].gO,w.O[v].O[a].O.set i w.O[ab].O[ac].O[ad]⟩).ok:=x5 f d ⟨ai.1,by simpa using ai.2.1,λp h=>by
    rcases cK h with h|rfl
    .exact ai.2.2 p h
    .exact a0.2.2 _ (ah P)⟩ (by simp only[eT];omega)
   obtain⟨D,H,a9⟩:=yb (x:=⟨w.O[v].O[a].gO,w.O[v].O[a].O.set i w.O[ab].O[ac].O[ad]⟩) (a:=a) d y z;have aA:=BB (a:=a) (x:=⟨w.O[v].O[a].gO,w.O[v].O[a].O.set i w.O[ab].O[ac].O[ad]⟩) d;simp only[eT]at aA;rw[fF D H];have K:=(a1.2.1 _ (ah D)).2 _ (ah H);have bU:=mJ D H;exact x5 a1 D ⟨K.1,by simpa using K.2.1,λp h=>by
    rcases cK h with h|rfl
    .exact K.2.2 p h
    .exact N⟩ (by simp only[eT];omega)
 split
 .exact pI f d r bR (by simp;omega)
 split
 .unfold Ll;have a5:=EQ w.O[v].O[a].O[i].bW o.n;split
  .refine pI f d r (λq u=>?_) (by simp;omega);simp only[bC,cI,gI]at u;rcases u with rfl|rfl
   .exact⟨by show(nQ _ _).length<=_;omega,by show(List.take _ _).length<=_;rw[aF];omega⟩
   .exact⟨by show(EP _ _).length<=_;omega,by show(List.drop _ _).length<=_;rw[aS];omega⟩
  .exact f
 split
 .unfold Bj;rw[fF d r];simp only;split
  next p q a6 a7=>
   obtain⟨a2,rfl⟩:=aH.1 a6;obtain⟨aB,rfl⟩:=aH.1 a7;obtain⟨q1,b2,_⟩:=E _ (zV d r aB);split
   .refine pI f d r (λq u=>?_) (by simp;omega);obtain rfl:=bg.1 u
    and_intros
    .simp only[k6,ae,aM];omega
    .simp only[k6,ae];omega
   .exact f
  .exact f
 split
 .unfold Bi;split
  next h=>obtain⟨_,_,a2,aB⟩:=uD (a:=a) (i:=i) (n:=1) (l:=[]) d h;have aA:=DD (i:=i) (n:=1) (l:=[]) d r;simp only[aT]at aA;exact JP (pI f d r bR (by simp;omega)) av a2 aB N
  .exact f
 split
 .unfold EH;simp only[fF d r,ap,aa L,bf];split
  next h=>
   split
   .refine pI f d r (λq u=>?_) (by rw[xe];omega);obtain⟨j,a8,rfl⟩:=cG.1 u;have Q:j<o.F.length:=by simpa using a8
    and_intros
    .show(o.F.getD j []).length<=_;rw[ap,aa Q,bf];have:=a3 _ (ah Q);omega
    .show(List.take _ (List.drop _ _)).length<=_;rw[aF,aS];have:=aC.2.2.2.2;omega
   .exact f
  .exact f
 .refine pI f d r (λq u=>?_) (by simp;omega);obtain rfl:=bg.1 u;exact⟨by show(w.O[v].O[a].O[i].bW).length<=_;omega,aC.2.2.2.2⟩
def vL:CF GL f140 [] [] 140:=ji
def sg(w:cm)(o:Op)(b:Name):cm×Int:=
 if fy w≠0 then(⟨[]⟩,fy w)
 else if b.mv=true/\0<=o.kind/\o.kind<=9/\o=nH o then
  (
   let r:=if 2<o.kind then mU w o b else mI w o b
   if r.2=0 then(if fy r.1=0 then(r.1,0)else(⟨[]⟩,8))else(⟨[]⟩,r.2))
 else(⟨[]⟩,1)
def uH:V.Le (.agg [.aP]) (cm.v ⟨[]⟩):=ss (.cons (.aP _) .nil)
def JQ(w:cm)(K:w.ok)(o:Op)(y:o.ok)(N:∀t∈o.F,t.length<=10000)(b:Name):
 af 140 [w.v,o.v,b.v] (mw (sg w o b)):=by
 have l:=xb w K;have d:=Rg b;have c3:=QY o;have c4:=Jq o (nH o) y;unfold sg;by_cases j:fy w=0
 .rw[an (by simpa using j)];have D:=nz K j;have p:=Q9 w K o y b;have R:=xb _ (vP D y b);by_cases z:b.mv=true/\0<=o.kind/\o.kind<=9/\o=nH o
  .rw[ax z];obtain⟨z,ab,P,Q⟩:=z;rw[z]at d;rw[show decide (o=nH o)=true by simpa using Q]at c4;by_cases L:2<o.kind
   .simp only[ax L];have H:=Ry w K (by have:=D.2.1;omega) D.2.2.2 o y N ⟨L,P⟩ b;have q:=xb _ (CM D y N b);unfold mw at p H ⊢
    generalize mU w o b=r at*
    obtain⟨x,f⟩:=r;simp only at H q ⊢
    by_cases a:f=0
    .rw[ax a];by_cases u:fy x=0
     .rw[ax u];refine pq vL.ok rfl (by simp only[du]) ?_;repeat' first|simp(disch:=simp only[me];omega) only[dq,simprocAttr,Op.v,Op.c,cw,cN,a,u,j]|(first|refine bY ?_ ?_|refine cY ?_ ?_)<;>intro h<;>(try simp only[bD]at h)<;>(try simp only[h])<;>(try simp only[jc]at h)<;>try omega|((first|refine iT l ?_ ?_|refine iT d ?_ ?_|refine iT c3 ?_ ?_|refine iT c4 ?_ ?_|refine iT p ?_ ?_|refine iT H ?_ ?_);·simp only[dL]<;>rfl)|(refine iT q ?_ ?_;·simp only[dL]<;>rfl)|refine ec ?_|(((refine rT ?_;repeat' first|exact hP.nil|refine gt ?_ ?_|refine gc ?_ ?_);(all_goals(try(first|with_reducible exact .refl _|(apply aj;simp;done))))))
      all_goals skip
     .rw[an u];refine pq vL.ok rfl (by simp only[du]) ?_;repeat' first|simp(disch:=simp only[me];omega) only[dq,simprocAttr,Op.v,Op.c,cw,cN,a,j]|(first|refine bY ?_ ?_|refine cY ?_ ?_)<;>intro h<;>(try simp only[bD]at h)<;>(try simp only[h])<;>(try simp only[jc]at h)<;>try omega|((first|refine iT l ?_ ?_|refine iT d ?_ ?_|refine iT c3 ?_ ?_|refine iT c4 ?_ ?_|refine iT p ?_ ?_|refine iT H ?_ ?_);·simp only[dL]<;>rfl)|(refine iT q ?_ ?_;·simp only[dL]<;>rfl)|refine ec ?_|(((refine rT ?_;repeat' first|exact hP.nil|refine gt ?_ ?_|refine gc ?_ ?_);(all_goals(try((apply aj;simp;done))))))
      all_goals exact uH
    .rw[an a];refine pq vL.ok rfl (by simp only[du]) ?_;repeat' first|simp(disch:=simp only[me];omega) only[dq,simprocAttr,Op.v,Op.c,cw,cN,j]|(first|refine bY ?_ ?_|refine cY ?_ ?_)<;>intro h<;>(try simp only[bO,bD]at h)<;>(try simp only[h])<;>(try simp only[jc]at h)<;>try omega|((first|refine iT l ?_ ?_|refine iT d ?_ ?_|refine iT c3 ?_ ?_|refine iT c4 ?_ ?_|refine iT p ?_ ?_|refine iT H ?_ ?_);·simp only[dL]<;>rfl)|refine ec ?_|(((refine rT ?_;repeat' first|exact hP.nil|refine gt ?_ ?_|refine gc ?_ ?_);(all_goals(try((apply aj;simp;done))))))
     all_goals exact uH
   .simp only[an L];have q:=xb _ (vP D y b);unfold mw at p ⊢
    generalize mI w o b=r at*
    obtain⟨x,f⟩:=r;simp only at p q ⊢
    by_cases a:f=0
    .rw[ax a];by_cases u:fy x=0
     .rw[ax u];refine pq vL.ok rfl (by simp only[du]) ?_;repeat' first|simp(disch:=simp only[me];omega) only[dq,simprocAttr,Op.v,Op.c,cw,cN,a,u,j]|(first|refine bY ?_ ?_|refine cY ?_ ?_)<;>intro h<;>(try simp only[bD]at h)<;>(try simp only[h])<;>(try simp only[jc]at h)<;>try omega|((first|refine iT l ?_ ?_|refine iT d ?_ ?_|refine iT c3 ?_ ?_|refine iT c4 ?_ ?_|refine iT p ?_ ?_);·simp only[dL]<;>rfl)|(refine iT q ?_ ?_;·simp only[dL]<;>rfl)|refine ec ?_|(((refine rT ?_;repeat' first|exact hP.nil|refine gt ?_ ?_|refine gc ?_ ?_);(all_goals(try(first|with_reducible exact .refl _|(apply aj;simp;done))))))
      all_goals skip
     .rw[an u];refine pq vL.ok rfl (by simp only[du]) ?_;repeat' first|simp(disch:=simp only[me];omega) only[dq,simprocAttr,Op.v,Op.c,cw,cN,a,j]|(first|refine bY ?_ ?_|refine cY ?_ ?_)<;>intro h<;>(try simp only[bD]at h)<;>(try simp only[h])<;>(try simp only[jc]at h)<;>try omega|((first|refine iT l ?_ ?_|refine iT d ?_ ?_|refine iT c3 ?_ ?_|refine iT c4 ?_ ?_|refine iT p ?_ ?_);·simp only[dL]<;>rfl)|(refine iT q ?_ ?_;·simp only[dL]<;>rfl)|refine ec ?_|(((refine rT ?_;repeat' first|exact hP.nil|refine gt ?_ ?_|refine gc ?_ ?_);(all_goals(try((apply aj;simp;done))))))
      all_goals exact uH
    .rw[an a];refine pq vL.ok rfl (by simp only[du]) ?_;repeat' first|simp(disch:=simp only[me];omega) only[dq,simprocAttr,Op.v,Op.c,cw,cN,j]|(first|refine bY ?_ ?_|refine cY ?_ ?_)<;>intro h<;>(try simp only[bO,bD]at h)<;>(try simp only[h])<;>(try simp only[jc]at h)<;>try omega|((first|refine iT l ?_ ?_|refine iT d ?_ ?_|refine iT c3 ?_ ?_|refine iT c4 ?_ ?_|refine iT p ?_ ?_);·simp only[dL]<;>rfl)|refine ec ?_|(((refine rT ?_;repeat' first|exact hP.nil|refine gt ?_ ?_|refine gc ?_ ?_);(all_goals(try((apply aj;simp;done))))))
     all_goals exact uH
  .rw[an z];unfold mw;by_cases g1:b.mv=true
   .rw[g1]at d;by_cases g4:o=nH o
    .rw[show decide (o=nH o)=true by simpa using g4]at c4;refine pq vL.ok rfl (by simp only[du]) ?_;repeat' first|simp only[dq,simprocAttr,Op.v,Op.c,j]|refine cY ?_ ?_<;>intro h<;>(try simp only[bD]at h)<;>(try simp only[h])<;>try simp only[jc]at h|((first|refine iT l ?_ ?_|refine iT d ?_ ?_|refine iT c3 ?_ ?_|refine iT c4 ?_ ?_);·simp only[dL]<;>rfl)|(((refine rT ?_;repeat' first|exact hP.nil|refine gt ?_ ?_|refine gc ?_ ?_);(all_goals(try((apply aj;simp;done))))))
     all_goals first|exact uH|exact absurd ⟨g1,by omega,by omega,g4⟩ z
    .rw[show decide (o=nH o)=false by simpa using g4]at c4;refine pq vL.ok rfl (by simp only[du]) ?_;repeat' first|simp only[dq,simprocAttr,Op.v,Op.c,j]|refine cY ?_ ?_<;>intro h<;>(try simp only[bD]at h)<;>(try simp only[h])<;>try simp only[jc]at h|((first|refine iT l ?_ ?_|refine iT d ?_ ?_|refine iT c3 ?_ ?_|refine iT c4 ?_ ?_);·simp only[dL]<;>rfl)|(((refine rT ?_;repeat' first|exact hP.nil|refine gt ?_ ?_|refine gc ?_ ?_);(all_goals(try((apply aj;simp;done))))))
     all_goals exact uH
   .rw[show b.mv=false by simpa using g1]at d;refine pq vL.ok rfl (by simp only[du]) ?_;repeat' first|simp only[dq,simprocAttr,Op.v,Op.c,j]|((first|refine iT l ?_ ?_|refine iT d ?_ ?_);·simp only[dL]<;>rfl)|(((refine rT ?_;repeat' first|exact hP.nil|refine gt ?_ ?_|refine gc ?_ ?_);(all_goals(try((apply aj;simp;done))))))
    all_goals exact uH
 .rw[ax (by simpa using j)];unfold mw;refine pq vL.ok rfl (by simp only[du]) ?_;repeat' first|simp only[dq,simprocAttr,Op.v,Op.c]|refine bY ?_ ?_<;>intro h<;>(try simp only[h])<;>(try simp only[jc]at h)<;>try omega|(refine iT l ?_ ?_;·simp only[dL]<;>rfl)|(((refine rT ?_;repeat' first|exact hP.nil|refine gt ?_ ?_|refine gc ?_ ?_);(all_goals(try((apply aj;simp;done))))))
  all_goals exact uH
def takeN(o:Op):Int:=if o.kind=3\/o.kind=4 then 1 else if o.kind=5 then 2 else if o.kind=8 then o.n else 0
def uI(w:cm)(s:fW)(k:Nat):List ID:=(List.range k).map λj:Nat=>((Dq w ⟨s.i9,s.k3,s.idx+j⟩).getD h8).id
def s0(w:cm)(o:Op):List ID:=match ef o.W 0 w.O with
 |none=>[]
 |some j=>uI w (ka (some j)) (takeN o).toNat
def Gd(w:cm)(s:fW)(k:Nat):uI w s (k+1)=uI w s k++[((Dq w ⟨s.i9,s.k3,s.idx+k⟩).getD h8).id]:=by
 unfold uI;rw[dE,aE];rfl
def BD(w:cm)(s:fW)(k:Nat):(uI w s k).length=k:=by simp[uI]
def Rz(w:cm)(l:w.ok)(o:Op)(D:o.kind=8->o.n<=1000):af 192 [w.v,o.v] (eZ (s0 w o)) true:=by
 have d:=vg w o.W l;unfold s0;rcases q:ef o.W 0 w.O with _|⟨v,a,i⟩
 .rw[q]at d;simp only[ka,cL]at d;refine pk f192 ?_ [62];repeat' first|simp(disch:=try exact om) only[gE,simprocAttr,Op.v,Op.c]|(first|refine cz ?_ ?_|refine gz ?_ ?_)<;>intro f h<;>(try simp only[f])<;>try omega|refine lq d ?_|refine ec ?_
  all_goals
   refine sk (bL:=[]) (λ_:Unit=>True) (λ_=>[(9,I 0,false),(8,.aP,true)]) (λ_=>0) (()) (trivial) ?_;rintro - -
   repeat' first|refine k9 ?_|refine gz ?_ ?_<;>intro f h<;>(try simp only[f])<;>try exact absurd trivial h|apply rN rfl rfl rfl
   all_goals exact .aP _
 .rw[q]at d;simp only[ka,fJ]at d ⊢
  obtain⟨H,K,L,_⟩:=kw q;have P:=((l.2.1 _ (ah H)).2 _ (ah K)).2.1;have Q:takeN o<=1000:=by
   unfold takeN;split
   .omega
   .split
    .omega
    .split
     .exact D ‹_›
     .omega
  have u:=BD w ⟨v,a,i⟩;have r:(takeN o=1/\o.kind=3)\/(takeN o=1/\o.kind=4)\/(takeN o=2/\o.kind=5)\/(takeN o=o.n/\o.kind=8)\/(takeN o=0/\o.kind≠3/\o.kind≠4/\o.kind≠5/\o.kind≠8):=by
   unfold takeN;split<;>(try split)<;>(try split)<;>omega
  generalize R:takeN o=N at*
  rcases r with⟨p,j⟩|⟨p,j⟩|⟨p,j⟩|⟨p,j⟩|⟨p,j,ab,ac,ad⟩
  rotate_right
  .refine pk f192 ?_ [62];repeat' first|simp(disch:=try exact om) only[gE,simprocAttr,Op.v,Op.c]|(first|refine cz ?_ ?_|refine gz ?_ ?_)<;>intro f h<;>(try simp only[f])<;>try omega|refine lq d ?_|refine ec ?_
   refine sk (bL:=[]) (λk:Nat=>k<=N.toNat) (λk=>[(9,I k,false),(8,eZ (uI w ⟨v,a,i⟩ k),true)]) (λk=>N.toNat-k) (0) (aL _) ?_;rintro k r;have y:=u k;have z:=Js w ⟨v,a,(i:Int)+k⟩ l;rcases fw k N with t|t
   .repeat' first|refine k9 ?_|refine gs ?_ ?_<;>intro h<;>try omega
    all_goals skip
   .obtain rfl:k=N.toNat:=av;repeat any_goals first|simp only[dq,simprocAttr]|(refine cY (λh=>?_) (λh=>?_))<;>((try simp only[bO]at h);(try simp only[h]);(try simp only[jc]at h);(try omega))|apply rN rfl rfl rfl
    all_goals exact aj rfl
  all_goals
   refine pk f192 ?_ [62];repeat' first|simp(disch:=try exact om) only[gE,simprocAttr,Op.v,Op.c,j]|refine lq d ?_|refine ec ?_
   refine sk (bL:=[]) (λk:Nat=>k<=N.toNat) (λk=>[(9,I k,false),(8,eZ (uI w ⟨v,a,i⟩ k),true)]) (λk=>N.toNat-k) (0) (aL _) ?_;rintro k r;have y:=u k;have z:=Js w ⟨v,a,(i:Int)+k⟩ l;rcases fw k N with t|t
   .repeat any_goals first|simp(disch:=try exact om) only[gE,simprocAttr]|refine cY ?_ ?_<;>intro h<;>(try simp only[bO]at h)<;>(try simp only[h])<;>(try simp only[jc]at h)<;>try omega|(refine⟨k+1,⟨?_⟩,⟨av⟩,?_⟩;rotate_left;focus (simp only[fQ,fM,bK,cF];and_intros;all_goals(try(simp only[mS,simprocAttr]));all_goals(try(first|(intro h;cases h;done)|(intro _;(simp;done))|(refine aj (ar I ?_);omega)|((repeat first|with_reducible (first|exact Kept.refl _|refine ez ?_|refine eJ ?_|refine ek ?_|refine fX ?_|refine dT ?_)|(with_reducible refine en ?_ ?_;rotate_left;(simp only[pU,simprocAttr])));done)))))|refine lq z ?_
    all_goals first|omega|exact aj (by rw[Gd,aE];rfl)
   .obtain rfl:k=N.toNat:=av;repeat any_goals first|simp only[dq,simprocAttr]|(refine cY (λh=>?_) (λh=>?_))<;>((try simp only[bO]at h);(try simp only[h]);(try simp only[jc]at h);(try omega))|apply rN rfl rfl rfl
    all_goals exact aj rfl
def BE(b:Name)(gone:List ID)(x:Int×Int):List cR:=if 0<=x.1/\x.1<gone.length then [⟨gone.getD x.1.toNat ⟨0,0,0⟩,⟨b.J,b.seq,x.2⟩⟩]else []
def pK(gone:List ID)(l:List cR):List cR:=l.filter λx=> !decide (x.from_∈gone)
def vM(o:Op):List (Int×Int):=if o.kind=4 then [(0,0),(0,1)]else if o.kind=5 then [(0,0),(1,0)]else o.cX
def Wi(w:cm)(o:Op)(b:Name):List cR×Int:=
 if(sg w o b).2=0 then(jN (pK (s0 w o) (k4 w)++(vM o).flatMap (BE b (s0 w o))),0)else([],(sg w o b).2)
def wj(gone:List ID){l:List cR}{k:Nat}(h:k<l.length):pK gone (l.take (k+1))=if l[k].from_∈gone then pK gone (l.take k)else pK gone (l.take k)++[l[k]]:=by
 unfold pK;rw[bj h,gq];split<;>simp[*]
def vi(gone:List ID)(l:List cR)(k:Nat):(pK gone (l.take k)).length<=k:=by
 exact S7
def Ge(b:Name)(gone:List ID)(l:List (Int×Int)):(l.flatMap (BE b gone)).length<=l.length:=by
 have:=lc (BE b gone) 1 l (λx _=>by unfold BE;split<;>simp);omega
def H7(w:cm)(o:Op)(a:o.kind=8->o.n<=1000):(s0 w o).length<=1000:=by
 unfold s0;split
 .simp
 .rw[BD];unfold takeN;split
  .simp
  .split
   .simp
   .split
    .have:=a ‹_›;omega
    .simp
def RB(w:cm)(l:w.ok)(o:Op)(u:o.ok)(ab:∀t∈o.F,t.length<=10000)(b:Name)(y:o.kind=8->(sg w o b).2=0->o.n<=1000)(z:o.cX.length<=100000):
 af 141 [w.v,o.v,b.v] (.hE [g7 (Wi w o b).1,I (Wi w o b).2]):=by
 have q:=JQ w l o u ab b;have c3:=QH w l;have E:=u.2.2.2.1;have H:(k4 w).length<=(dx w).length:=by
  have h:=sb ((dx w).map λp=>⟨p.id,p.id⟩) _ (ao _);rw[be,aq]at h;exact h
 unfold Wi;unfold mw at q;by_cases a:(sg w o b).2=0
 .rw[ax a];have ac:=Rz w l o (λh=>y h a);have a0:=H7 w o (λh=>y h a);have K:fy w=0:=by
   rcases Decidable.em (fy w=0)with h|h
   .exact h
   .unfold sg at a;rw[ax (by simpa using h)]at a;exact a
  have ad:=(nz l K).2.1;replace H:(k4 w).length<=1024:=av;generalize a2:sg w o b=D at*
  obtain⟨x,f⟩:=D;simp only at a q;subst a;generalize a3:s0 w o=G at*
  generalize hS:k4 w=L at*
  refine pk f141 ?_;repeat' first|simp(disch:=try exact om) only[gE,simprocAttr,Op.v,Op.c]|refine lq q ?_|refine lq ac ?_|refine lq c3 ?_
  refine sl (λk:Nat=>k<=L.length) (λk=>[(13,I k,false),(11,g7 (pK G (L.take k)),true)]) (λk=>L.length-k) (0) (aL _) ?_;rintro k ai;have a1:=vi G L k;rcases am k L.length with d|d
  .have c4:=UW G L[k].from_ av;repeat' first|refine qu ?_|refine cs ?_ ?_<;>intro h<;>try omega|(refine⟨k+1,⟨?_⟩,⟨av⟩,?_⟩;rotate_left;focus (simp only[fQ,fM,bK];and_intros;all_goals(try(simp only[mS]));all_goals(try(first|(intro h;cases h;done)|(intro _;(simp;done))|(refine aj (ar I ?_);omega)))))|refine lq c4 ?_|refine ec ?_
   .exact aj (by rw[wj G d,an h,aE];rfl)
   .exact d
   .exact aj (by rw[wj G d,ax h])
   .exact d
  rw[az d];have N:=vi G L L.length;rw[be]at N;repeat' first|refine k9 ?_|refine cs ?_ ?_<;>intro h<;>try omega
  refine A5 (D:=[14,55,56,57,58,59,60]) (bL:=[11]) (λ_:Unit=>True) (λ_=>[(14,jw (if o.kind=4 then [(0,0),(0,1)]else o.cX),false)]) rfl rfl (λ_=>rfl) ?_ rfl ?_
  .repeat' first|simp(disch:=omega) only[dq,simprocAttr]|refine cs ?_ ?_<;>intro h|(refine⟨(),⟨?_⟩,?_⟩;rotate_left;focus (simp only[fQ,fM,bK];and_intros;all_goals(try(simp only[mS,simprocAttr]));all_goals(try(first|with_reducible exact .refl _|exact Or.inl trivial|(intro h;cases h;done)|((repeat with_reducible (first|exact Kept.refl _|refine ez ?_|refine eJ ?_));done)))))
   all_goals skip
  rintro - -
  repeat' simp only[dq,simprocAttr]
  have a4:(vM o).length<=100000:=by
   unfold vM;split
   .simp
   .split
    .simp
    .exact z
  refine A5 (D:=[14,61,62,63,64,65,66]) (bL:=[11]) (λ_:Unit=>True) (λ_=>[(14,jw (vM o),false)]) rfl rfl (λ_=>rfl) ?_ rfl ?_
  .repeat' first|simp(disch:=omega) only[dq,simprocAttr]|refine cs ?_ ?_<;>intro h|(refine⟨(),⟨?_⟩,?_⟩;rotate_left;focus (simp only[fQ,fM,bK];and_intros;all_goals(try(simp only[mS,simprocAttr]));all_goals(try(first|exact Or.inl trivial|(intro h;cases h;done)|((repeat with_reducible (first|exact Kept.refl _|refine ez ?_|refine eJ ?_));done)))))
   .exact aj (by unfold vM;rw[an av,ax h];rfl)
   .exact aj (by unfold vM;rw[an h])
  rintro - -
  generalize vM o=P at*
  repeat' simp only[dq,simprocAttr]
  refine sk (bL:=[]) (λk:Nat=>k<=P.length) (λk=>[(15,I k,false),(11,g7 (pK G L++(P.take k).flatMap (BE b G)),true)]) (λk=>P.length-k) (0) (aL _) ?_;rintro k ai;have r:=Ge b G (P.take k);rw[aF]at r;rcases am k P.length with j|j
  .have Q:=sK (BE b G) j;have aA:0<=P[k].1/\P[k].1<G.length->BE b G P[k]=[⟨G.getD P[k].1.toNat ⟨0,0,0⟩,⟨b.J,b.seq,P[k].2⟩⟩]:=λh=>by unfold BE;rw[ax h]
   have aB:¬(0<=P[k].1/\P[k].1<G.length)->BE b G P[k]=[]:=λh=>by unfold BE;rw[an h]
   repeat any_goals first|simp(disch:=try exact om) only[dq,simprocAttr,ng]|(first|refine cz ?_ ?_|refine gz ?_ ?_)<;>intro aC h<;>(try simp only[aC])<;>try omega|(refine⟨k+1,⟨?_⟩,⟨av⟩,?_⟩;rotate_left;focus (simp only[fQ,fM,bK,cF];and_intros;all_goals(try(simp only[mS,simprocAttr]));all_goals(try(first|(intro h;cases h;done)|(intro _;(simp;done))|(refine aj (ar I ?_);omega)|((repeat first|with_reducible (first|exact Kept.refl _|refine ez ?_|refine eJ ?_|refine ek ?_|refine fX ?_|refine dT ?_)|(with_reducible refine en ?_ ?_;rotate_left;(simp only[pU,simprocAttr])));done)))))|refine ec ?_
   any_goals exact j
   .have aD:P[k].1.toNat<G.length:=av;exact aj (by rw[Q,aA ⟨av,av⟩,ap,aa aD,bf,<-aG];simp only[aE];rfl)
   all_goals exact aj (by rw[Q,aB av,cP])
  .rw[az j];rw[az j]at r;have R:=NI (pK G L++P.flatMap (BE b G)) (by rw[ae];omega);simp only[g7,aE]at R;repeat' first|simp only[dq,simprocAttr,aE]|refine cs ?_ ?_<;>intro h<;>try omega|refine lq R ?_|apply rq2 rfl rfl rfl rfl
   all_goals exact aj rfl
 .rw[an a];refine pk f141 ?_;repeat' first|simp(disch:=try exact om) only[gE,simprocAttr,Op.v,Op.c]|refine cs ?_ ?_<;>intro h<;>try omega|refine lq q ?_|apply rq2 rfl rfl rfl rfl
  all_goals first|exact .aP _|exact aj rfl
def qU(w:cm)(v k:Nat):List fW:=(List.range k).map λa:Nat=>⟨v,a,0⟩
def nh(w:cm)(n:Nat):List fW:=(List.range n).flatMap λv=>qU w v (w.O.getD v ⟨[]⟩).O.length
def yS(w:cm)(s:fW)(id:ID)(less:Nat):Nat:=match ef id 0 w.O with
 |some (v,a,_)=>if(v:Int)=s.i9/\(a:Int)=s.k3 then less else 0
 |none=>0
def sh(w:cm)(l:List Int)(k:Int)(id:ID)(less:Nat):fW:=
 let all:=nh w w.O.length
 let s:=all.getD (W l k all.length).toNat ⟨0,0,0⟩
 let n:=(gV w s.i9.toNat s.k3.toNat).O.length-yS w s id less
 ⟨s.i9,s.k3,n-W l (k+1) (n+1)⟩
def Gf(w:cm)(v k:Nat):qU w v (k+1)=qU w v k++[⟨v,k,0⟩]:=by unfold qU;rw[dE,aE];rfl
def wk(w:cm)(n:Nat)(h:n<w.O.length):nh w (n+1)=nh w n++qU w n w.O[n].O.length:=by
 unfold nh;rw[dE,cg];simp[ap,h]
def yd(w:cm)(a:∀v∈w.O,v.O.length<=64):∀n,n<=w.O.length->(nh w n).length<=64*n
 |0,_=>by simp[nh]
 |n+1,h=>by
  rw[wk w n h,ae];have:=yd w a n av;have:=a _ (ah (show n<w.O.length by omega));simp[qU];omega
def ye(w:cm):∀n,n<=w.O.length->∀s∈nh w n,∃v a:Nat,s=⟨v,a,0⟩/\∃h:v<w.O.length,a<w.O[v].O.length
 |0,_=>by intro s h;simp[nh]at h
 |n+1,h=>by
  intro s d;rw[wk w n h]at d;rcases aR.1 d with d|d
  .exact ye w n av s d
  .simp only[qU,cG,dc]at d;obtain⟨a,f,rfl⟩:=d;exact⟨n,a,rfl,h,f⟩
def JR(w:cm)(ac:w.fits)(l:List Int)(k:Int)(id:ID)(less:Nat)(p:∀n∈l,jv n)(a5:0<=k/\k<=100000000)(aD:0< (nh w w.O.length).length)(a0:less<=1):
 af 137 [w.v,fx l,I k,id.v,I less] (sh w l k id less).v:=by
 obtain⟨P,_,⟨a6,o⟩,_⟩:=ac;have a1:=yd w o _ (ao _);have q:=jk l k (nh w w.O.length).length p av;have ad:=ic l k (nh w w.O.length).length av;have c3:=vg w id P;unfold sh;simp only;obtain⟨A,ai⟩:∃A:Nat,W l k (nh w w.O.length).length=A:=⟨(W l k (nh w w.O.length).length).toNat,av⟩;rw[ai]at q ad ⊢
 have z:A< (nh w w.O.length).length:=av;obtain⟨v,a,r,H,K⟩:=ye w _ (ao _) _ (ah z);simp only[bX,ap,aa z,bf];rw[r];simp only[bX];rw[fF H K];refine pk f137 ?_;repeat' simp only[dq,simprocAttr]
 refine sl (λn:Nat=>n<=w.O.length) (λn=>[(12,I n,false),(11,.sl 3 ((nh w n).map fW.v),true)]) (λn=>w.O.length-n) (0) (aL _) ?_;rintro n a7;rcases am n w.O.length with t|t
 .have a8:=o _ (ah t);have a9:=yd w o n av;repeat' first|refine k9 ?_|refine cs ?_ ?_<;>intro h<;>try omega
  refine nw (D:=[11,13,25,26,27,28,29,30,31,32,33,34,35,36,37,38,39,40,41]) (bL:=[]) (λj:Nat=>j<=w.O[n].O.length) (λj=>[(13,I j,false),(11,.sl 3 ((nh w n++qU w n j).map fW.v),true)]) (λj=>w.O[n].O.length-j) (0) rfl rfl rfl (λ_=>rfl) (aL _) ?_ ?_ ?_;(·((simp only[fQ,bK];and_intros;all_goals(try(simp only[mS,simprocAttr]));all_goals(try(first|with_reducible exact .refl _|(intro h;cases h;done)|(intro _;(simp;done))))));all_goals(exact aj (by simp[qU])));(·((simp only[fM];and_intros)));rintro j bi;have bo:(qU w n j).length=j:=by simp[qU]
  rcases am j w.O[n].O.length with Q|Q
  .repeat' first|refine qu ?_|refine cs ?_ ?_<;>intro h<;>try omega|(refine⟨j+1,⟨?_⟩,⟨av⟩,?_⟩;rotate_left;focus (simp only[fQ,fM,bK];and_intros;all_goals(try(simp only[mS]));all_goals(try(first|(intro h;cases h;done)|(intro _;(simp;done))|(refine aj (ar I ?_);omega)))))
   .exact aj (by rw[Gf,<-aG];simp only[aE];rfl)
   .exact Q
  .obtain rfl:j=w.O[n].O.length:=av;repeat' first|refine qu ?_|refine cs ?_ ?_<;>intro h<;>try omega|(refine⟨n+1,⟨?_⟩,⟨av⟩,?_⟩;rotate_left;focus (simp only[fQ,fM,bK];and_intros;all_goals(try(simp only[mS]));all_goals(try(first|(intro h;cases h;done)|(intro _;(simp;done))|(refine aj (ar I ?_);omega)))))
   .exact aj (by rw[wk w n t])
   .exact t
 .obtain rfl:n=w.O.length:=av;have L:=qa w v a ⟨v,a,0⟩ H K rfl rfl;have hlen:=((P.2.1 _ (ah H)).2 _ (ah K)).2.1;rcases f:ef id 0 w.O with _|⟨u,y,br⟩
  .rw[f]at c3;simp only[ka,cL]at c3;have d:yS w ⟨v,a,0⟩ id less=0:=by unfold yS;rw[f]
   rw[d,ig];have c4:=jk l (k+1) (w.O[v].O[a].O.length+1) p av;have R:=ic l (k+1) (w.O[v].O[a].O.length+1) av;repeat' first|simp(disch:=try exact om) only[gE,simprocAttr,r]|refine cs ?_ ?_<;>intro h<;>try omega|refine lq q ?_|refine lq L ?_|refine lq c3 ?_|refine lq c4 ?_|refine ec ?_|(refine al nE ?_;refine tO ev rfl ?_)
   all_goals exact .refl _
  .rw[f]at c3;simp only[ka,fJ]at c3;obtain⟨a2,a3,a4,_⟩:=kw f;by_cases ab:u=v/\y=a
   .obtain⟨rfl,rfl⟩:=ab;have d:yS w ⟨u,y,0⟩ id less=less:=by unfold yS;rw[f];simp
    rw[d];obtain⟨N,aA⟩:∃N:Nat,w.O[u].O[y].O.length-less=N:=⟨_,rfl⟩;have aB:(w.O[u].O[y].O.length:Int)-less=(N:Int):=av;rw[aA];have c4:=jk l (k+1) (N+1) p av;have R:=ic l (k+1) (N+1) av;repeat' first|simp(disch:=try exact om) only[gE,simprocAttr,r,aB]|refine cs ?_ ?_<;>intro h<;>try omega|refine lq q ?_|refine lq L ?_|refine lq c3 ?_|refine lq c4 ?_|refine ec ?_|(refine al nE ?_;refine tO ev rfl ?_)
    all_goals exact .refl _
   .have d:yS w ⟨v,a,0⟩ id less=0:=by
     unfold yS;rw[f];simp only;rw[an (λh=>ab ⟨av,av⟩)]
    rw[d,ig];have c4:=jk l (k+1) (w.O[v].O[a].O.length+1) p av;have R:=ic l (k+1) (w.O[v].O[a].O.length+1) av;repeat' first|simp(disch:=try exact om) only[gE,simprocAttr,r]|(first|refine cz ?_ ?_|refine gz ?_ ?_)<;>intro aC h<;>(try simp only[aC])<;>try omega|refine lq q ?_|refine lq L ?_|refine lq c3 ?_|refine lq c4 ?_|refine ec ?_|(refine al nE ?_;refine tO ev rfl ?_)
    all_goals exact .refl _
def k8(a b:ID):tG a b=true↔a.J<b.J\/a.J=b.J/\(a.seq<b.seq\/a.seq=b.seq/\a.k<b.k):=by
 unfold tG;by_cases d:a.J=b.J<;>by_cases f:a.seq=b.seq<;>simp[d,f]
def ID.ext'{a b:ID}(d:a.J=b.J)(h2:a.seq=b.seq)(f:a.k=b.k):a=b:=by
 cases a;cases b;simp_all
def Gg(a b:ID):tG a b=true\/a=b\/tG b a=true:=by
 rw[k8,k8];by_cases h:a=b
 .exact .inr (.inl h)
 .have:¬(a.J=b.J/\a.seq=b.seq/\a.k=b.k):=λ⟨d,f,j⟩=>h (ID.ext' d f j);omega
def BG{a b c:ID}(h:tG a b=true)(d:tG b c=true):tG a c=true:=by
 rw[k8]at h d ⊢;omega
def qV(a b:cR):j0 a b=true↔tG a.from_ b.from_=true\/a.from_=b.from_/\tG a.to b.to=true:=by
 unfold j0;by_cases h:a.from_=b.from_
 .have d:tG b.from_ b.from_=false:=by rw[<-gv,k8];omega
  simp[h,d]
 .simp[h]
def nA(a b:cR):j0 a b=true\/a=b\/j0 b a=true:=by
 rw[qV,qV];rcases Gg a.from_ b.from_ with h|h|h
 .exact .inl (.inl h)
 .rcases Gg a.to b.to with d|d|d
  .exact .inl (.inr ⟨h,d⟩)
  .exact .inr (.inl (by cases a;cases b;simp_all))
  .exact .inr (.inr (.inr ⟨h.symm,d⟩))
 .exact .inr (.inr (.inl h))
def mz(a:cR):j0 a a=false:=by
 rw[<-gv,qV,k8,k8];omega
def jL{a b c:cR}(h:j0 a b=true)(d:j0 b c=true):j0 a c=true:=by
 rw[qV]at h d ⊢
 rcases h with h|⟨f,l⟩<;>rcases d with d|⟨j,o⟩
 .exact .inl (BG h d)
 .exact .inl (j▸h)
 .exact .inl (f▸d)
 .exact .inr ⟨f.trans j,BG l o⟩
def BH(x:cR):∀(l:List cR)(k:Nat),p9 x k l=p9 x 0 l+k
 |[],k=>by simp[p9]
 |y::r,k=>by
  unfold p9;split
  .rw[BH x r (k+1),BH x r (0+1)];omega
  .omega
def yf(y:cR)(r:List cR)(x:cR):pQ (y::r) x=if j0 y x=true then y::pQ r x else if y=x then y::r else x::y::r:=by
 unfold pQ;rw[p9];by_cases h:j0 y x=true
 .rw[ax h,ax h,BH x r (0+1),cA,ey];split<;>simp
 .rw[an h,an h];simp
def nq(l:List cR):Prop:=l.Pairwise λa b=>j0 a b=true
def Gh{l:List cR}{x z:cR}:z∈pQ l x↔z=x\/z∈l:=by
 induction l with
 |nil=>simp[pQ,p9]
 |cons y r ih=>
  rw[yf];split
  .simp only[bC,ih];constructor
   .rintro(h|h|h)<;>simp[h]
   .rintro(h|h|h)<;>simp[h]
  .split
   next h=>subst h;simp
   .simp
def Gi{l:List cR}(h:nq l)(x:cR):nq (pQ l x):=by
 induction l with
 |nil=>simp[pQ,p9,nq]
 |cons y r ih=>
  obtain⟨j,p⟩:=ej.1 h;rw[yf];split
  next f=>
   refine ej.2 ⟨λz a=>?_,ih p⟩;rcases Gh.1 a with rfl|a
   .exact f
   .exact j z a
  next f=>
   split
   .exact h
   next o=>
    have d:j0 x y=true:=by
     rcases nA x y with h|h|h
     .exact h
     .exact absurd h.symm o
     .exact absurd h f
    refine ej.2 ⟨λz a=>?_,h⟩;rcases bC.1 a with rfl|a
    .exact d
    .exact jL d (j z a)
def BJ(l:List cR):∀a:List cR,nq a->nq (l.foldl pQ a)/\∀z,z∈l.foldl pQ a↔z∈a\/z∈l:=by
 induction l with
 |nil=>intro a h;exact⟨h,λz=>bR⟩
 |cons x r ih=>
  intro a h;obtain⟨d,f⟩:=ih (pQ a x) (Gi h x);refine⟨d,λz=>?_⟩;rw[fo,f,Gh,bC];exact S4
def s1(l:List cR):nq (jN l):=(BJ l [] .nil).1
def vj{l:List cR}{z:cR}:z∈jN l↔z∈l:=by
 have:=(BJ l [] .nil).2 z;simpa[jN]using this
def rH:∀{a b:List cR},nq a->nq b->(∀z,z∈a↔z∈b)->a=b
 |[],[],_,_,_=>rfl
 |[],y::s,_,_,h=>by have:=(h y).2 bR;cases this
 |x::r,[],_,_,h=>by have:=(h x).1 bR;cases this
 |x::r,y::s,p,hb,h=>by
  obtain⟨j,q⟩:=ej.1 p;obtain⟨l,t⟩:=ej.1 hb;have o:x=y:=by
   rcases bC.1 ((h x).1 bR)with e|e
   .exact e
   .rcases bC.1 ((h y).2 bR)with f|f
    .exact f.symm
    .have:=jL (l x e) (j y f);rw[mz]at this;cases this
  subst o;congr 1;refine rH q t λz=>?_;constructor
  .intro d;rcases bC.1 ((h z).1 (eF _ d))with e|e
   .subst e;have:=j z d;rw[mz]at this;cases this
   .exact e
  .intro d;rcases bC.1 ((h z).2 (eF _ d))with e|e
   .subst e;have:=l z d;rw[mz]at this;cases this
   .exact e
def Gj{a b:List cR}(h:∀z,z∈a↔z∈b):jN a=jN b:=
 rH (s1 a) (s1 b) λz=>by rw[vj,vj];exact h z
def zq{a b:List cR}(d:nq a)(h:∀z,z∈a↔z∈b):a=jN b:=
 rH d (s1 b) λz=>by rw[vj];exact h z
section
variable {α β:Type}[DecidableEq α]
def gR:List (α×β)->α->Option β
 |[],_=>none
 |x::r,a=>if a=x.1 then some x.2 else gR r a
def kg:List (α×β)->α->β->List (α×β)
 |[],a,b=>[(a,b)]
 |x::r,a,b=>if a=x.1 then(a,b)::r else x::kg r a b
def qo(l:List (α×β))(a c:α)(b:β):gR (kg l a b) c=if c=a then some b else gR l c:=by
 induction l with
 |nil=>simp[kg,gR]
 |cons x r ih=>
  unfold kg;split
  next h=>subst h;simp only[gR];split<;>simp_all
  next h=>
   simp only[gR,ih];by_cases d:c=x.1
   .have:c≠a:=λf=>h (f▸d);simp[d];intro j;exact absurd j.symm h
   .simp[d]
def Lm(l:List (α×β))(a:α)(b:β):(kg l a b).map (·.1)=if a∈l.map (·.1)then l.map (·.1)else l.map (·.1)++[a]:=by
 induction l with
 |nil=>simp[kg]
 |cons x r ih=>
  unfold kg;split
  next h=>subst h;simp
  next h=>simp only[bw,ih,bC,h,rV];split<;>simp
def H8{l:List (α×β)}(h:(l.map (·.1)).Nodup)(a:α)(b:β):((kg l a b).map (·.1)).Nodup:=by
 rw[Lm];split
 .exact h
 next f=>rw[aU];exact⟨h,bR,λx hx y d e=>by simp at d;subst d;exact f (e▸hx)⟩
def BK{l:List (α×β)}{a:α}{b:β}(h:gR l a=some b):(a,b)∈l:=by
 induction l with
 |nil=>cases h
 |cons x r ih=>
  unfold gR at h;split at h
  next e=>cases h;subst e;simp
  .exact eF _ (ih h)
end
structure g9 where
 eo:List aV
 void:List Name
 bW:cm
 jx:List (cm×List hG)
 next:List (ID×List ID)
 left:List (ID×Name)
def qd(w:cm)(s:fW)(i:Int):ID:=((Dq w ⟨s.i9,s.k3,s.idx+i⟩).getD h8).id
def uJ(w:cm)(s:fW)(b:Name)(x:Int×Int):cR:=⟨qd w s x.1,⟨b.J,b.seq,x.2⟩⟩
def s3(o:Op):List (Int×Int):=if o.kind=4 then [(0,0),(0,1)]else if o.kind=5 then [(0,0),(1,0)]else if o.kind=8 then o.cX else []
def qW(w:cm)(o:Op)(s:fW):List ID:=
 if o.kind=3 then [qd w s 0]else if o.kind=8 then((List.range o.n.toNat).map λi:Nat=>qd w s i)++o.cX.map λx=>qd w s x.1 else(s3 o).map λx=>qd w s x.1
def RC(w:cm)(o:Op)(b:Name):List cR:=
 let s:=ka (ef o.W 0 w.O)
 jN ((s3 o).map (uJ w s b)++pK (qW w o s) (k4 w))
def lD(n:List (ID×List ID))(x:cR):List (ID×List ID):=if x.from_=x.to then n else kg n x.from_ ((gR n x.from_).getD []++[x.to])
def pn(w:cm)(b:Name)(n:List (ID×Name))(p:aK):List (ID×Name):=if(ef p.id 0 w.O).isSome then n else kg n p.id b
def BL(h:g9)(o:Op)(b:Name):g9×Bool:=
 if(sg h.bW o b).2=0 then
  ({h with next:=(RC h.bW o b).foldl lD h.next,left:=(dx h.bW).foldl (pn (sg h.bW o b).1 b) h.left,bW:=(sg h.bW o b).1},true)
 else(h,false)
def uK(ts:List (T×hG))(s:T):hG:=(gR ts s).getD ⟨[],0,0,[],[]⟩
def DE(l:List T):List T:=l.mergeSort λx y=>decide (x<=y)
def Gk(ts:List (T×hG)):List hG:=(DE (ts.map (·.1))).map (uK ts)
def Ln(h:g9)(ts:List (T×hG))(e:aV):g9×List (T×hG)×Bool:=
 if e.kind=0 then((BL h e.op e.name).1,ts,(BL h e.op e.name).2)
 else if e.kind=1 then
  if h.jx.length=16\/fy h.bW≠0 then(h,ts,false)
  else({h with jx:=h.jx++[(h.bW,Gk ts)]},ts,true)
 else if e.kind=2 then(h,kg ts e.dy.name e.dy,true)
 else(h,ts,(ef e.id 0 h.bW.O).isSome)
def yT(x:g9×List (T×hG))(e:aV):g9×List (T×hG):=
 let r:=Ln {x.1 with eo:=x.1.eo++[e]} x.2 e
 (if r.2.2=true then r.1 else {r.1 with void:=r.1.void++[e.name]},r.2.1)
def xn:g9:=⟨[],[],⟨[]⟩,[],[],[]⟩
def kH(l:List aV):g9:=(l.foldl yT (xn,[])).1
def m4(p:List aV):List (Name×Int):=p.foldl (λm e=>kg m e.name e.ei) []
def m5(p:List aV):List (Int×Int):=p.foldl (λm e=>kg m e.J ((gR m e.J).getD 0+1)) []
def m6(p:List aV):List (Int×Int):=p.foldl (λm e=>kg m e.J e.ei) []
structure qX(p:List aV)(e:aV):Prop where
 new:gR (m4 p) e.name=none
 seq:e.seq=(gR (m5 p) e.J).getD 0
 ei:0< (gR (m5 p) e.J).getD 0->(gR (m6 p) e.J).getD 0<e.ei
 C:∀r∈e.C,∃t,gR (m4 p) r=some t/\t<e.ei
def s4(l:List aV):Prop:=∀k (h:k<l.length),qX (l.take k) l[k]
def RD{l:List aV}{k:Nat}(h:k<l.length):m4 (l.take (k+1))=kg (m4 (l.take k)) l[k].name l[k].ei:=by
 unfold m4;rw[bj h,dl];rfl
def JS{l:List aV}{k:Nat}(h:k<l.length):m5 (l.take (k+1))=kg (m5 (l.take k)) l[k].J ((gR (m5 (l.take k)) l[k].J).getD 0+1):=by
 unfold m5;rw[bj h,dl];rfl
def RE{l:List aV}{k:Nat}(h:k<l.length):m6 (l.take (k+1))=kg (m6 (l.take k)) l[k].J l[k].ei:=by
 unfold m6;rw[bj h,dl];rfl
def N9(l:List aV):∀k,k<=l.length->∀a,0<=(gR (m5 (l.take k)) a).getD 0/\(gR (m5 (l.take k)) a).getD 0<=k
 |0,_,a=>by simp[m5,gR]
 |k+1,h,a=>by
  have d:=N9 l k av a;have f:=N9 l k av l[k].J;rw[JS h,qo];split
  .simp only[bf];omega
  .omega
def L6(e:cm×List hG):V:=.agg [cd e.1.O,oo e.2]
def gy:List (ID×V)->List Nat
 |[]=>[]
 |x::r=>(bH x.2).toList++gy r
def Gl(E:aJ):List (ID×V)->List (ID×List ID)->Prop
 |[],[]=>True
 |x::r,y::s=>x.1=y.1/\gh 3 E x.2 (y.2.map ID.v)/\Gl E r s
 |_,_=>False
def Gl.frame{E wx:aJ}:∀{N:List (ID×V)} {nx:List (ID×List ID)},Gl E N nx->(∀j∈gy N,wx.box j=E.box j)->E.Y<=wx.Y->Gl wx N nx
 |[],[],_,_,_=>trivial
 |x::r,y::s,⟨f,l,o⟩,h,d=>⟨f,l.frame (λj a=>h j (by simp[gy,a])) d,Gl.frame o (λj a=>h j (by simp[gy,a])) d⟩
 |[],_::_,h,_,_=>h.elim
 |_::_,[],h,_,_=>h.elim
def xo{a:ID}{j:Nat}:∀{N:List (ID×V)},bH (kQ N a .aP)=some j->j∈gy N
 |[],h=>by cases h
 |x::r,h=>by
  unfold kQ at h;split at h
  .simp[gy,h]
  .exact aY _ (xo h)
def Gl.get{E:aJ}{a:ID}:∀{N:List (ID×V)} {nx:List (ID×List ID)},Gl E N nx->gh 3 E (kQ N a .aP) (((gR nx a).getD []).map ID.v)/\zo N a=(gR nx a).isSome
 |[],[],_=>⟨gh.nil,rfl⟩
 |x::r,y::s,⟨d,f,j⟩=>by
  unfold kQ gR zo;rw[<-d];split
  .exact⟨f,rfl⟩
  .exact Gl.get j
 |[],_::_,h=>h.elim
 |_::_,[],h=>h.elim
def Gl.set{E wx:aJ}{a:ID}{v':V}{l':List ID}(l:E.Y<=wx.Y)(o:gh 3 wx v' (l'.map ID.v)):∀{N:List (ID×V)} {nx:List (ID×List ID)},Gl E N nx->(gy N).Nodup->(∀j∈gy N,bH (kQ N a .aP)≠some j->wx.box j=E.box j)->Gl wx (jh N a v') (kg nx a l')
 |[],[],_,_,_=>⟨rfl,o,trivial⟩
 |x::r,y::s,⟨p,u,q⟩,z,d=>by
  obtain⟨L,D,t⟩:=aU.1 z;unfold jh kg;rw[<-p];by_cases h:a=x.1
  .rw[ax h,ax h];unfold kQ at d;rw[ax h]at d;exact⟨rfl,o,q.frame (λj f=>d j (aY _ f) (λe=>t j (by simp[e]) j f rfl)) l⟩
  .rw[an h,an h];unfold kQ at d;rw[an h]at d;refine⟨p,u.frame (λj f=>d j (ck _ (by simp[f])) (λe=>t j (by simp[f]) j (xo e) rfl)) l,Gl.set l o q D (λj f K=>d j (aY _ f) K)⟩
 |[],_::_,h,_,_=>h.elim
 |_::_,[],h,_,_=>h.elim
def wm{a:ID}{v':V}{j:Nat}:∀{N:List (ID×V)},j∈gy (jh N a v')->j∈gy N\/bH v'=some j
 |[],h=>by simp[jh,gy]at h;exact .inr h
 |x::r,h=>by
  unfold jh at h;split at h
  .simp only[gy,aR,jC]at h;rcases h with h|h
   .exact .inr h
   .exact .inl (by simp[gy,h])
  .simp only[gy,aR,jC]at h;rcases h with h|h
   .exact .inl (by simp[gy,h])
   .rcases wm h with h|h
    .exact .inl (by simp[gy,h])
    .exact .inr h
def qp(o:Option Nat):o.toList.Nodup:=by cases o<;>simp
def xp{a:ID}{v':V}:∀{N:List (ID×V)},(gy N).Nodup->(∀j,bH v'=some j->j∈gy N->bH (kQ N a .aP)=some j)->(gy (jh N a v')).Nodup
 |[],_,_=>by simp only[jh,gy,cP];exact qp _
 |x::r,u,d=>by
  obtain⟨y,q,o⟩:=aU.1 u;unfold jh;unfold kQ at d;by_cases h:a=x.1
  .rw[ax h]at d ⊢
   simp only[gy];refine aU.2 ⟨qp _,q,λi l j f e=>?_⟩;subst e;have t:bH v'=some i:=by simpa using l
   have:=d i t (aY _ f);exact o i (by simp[this]) i f rfl
  .rw[an h]at d ⊢
   simp only[gy];refine aU.2 ⟨qp _,xp q (λj f hm=>d j f (aY _ hm)),λi l j f e=>?_⟩;subst e;rcases wm f with p|p
   .exact o i l i p rfl
   .have:=d i p (ck _ l);exact o i l i (xo this) rfl
def yg{α:Type}[DecidableEq α]:∀(l:List (α×V))(a:α)(u v:V),jh (jh l a u) a v=jh l a v
 |[],a,u,v=>by simp[jh]
 |x::r,a,u,v=>by
  by_cases h:a=x.1
  .simp[jh,h]
  .simp[jh,h,yg r a u v]
def gX{α β:Type}(f:β->V)(l:List (α×β)):List (α×V):=l.map λx=>(x.1,f x.2)
def qq{α β:Type}[DecidableEq α](f:β->V):∀(l:List (α×β))(a:α)(b:β),jh (gX f l) a (f b)=gX f (kg l a b)
 |[],a,b=>rfl
 |x::r,a,b=>by
  have ih:=qq f r a b;unfold gX at ih ⊢
  rw[bw,jh,kg];split
  .rfl
  .rw[ih];rfl
def nP{α β:Type}[DecidableEq α](f:β->V)(z:V):∀(l:List (α×β))(a:α),kQ (gX f l) a z=((gR l a).map f).getD z/\zo (gX f l) a=(gR l a).isSome
 |[],a=>⟨rfl,rfl⟩
 |x::r,a=>by
  have ih:=nP f z r a;unfold gX at ih ⊢
  rw[bw,kQ,gR,zo];split
  .exact⟨rfl,rfl⟩
  .exact ih
def mV(dV:Nat)(ev vo ed:V)(N:List (ID×V)):List Nat:=dV::((bH ev).toList++((bH vo).toList++((bH ed).toList++gy N)))
structure HQ(base E:aJ)(dV:Nat)(ev vo ed:V)(kI kO:Nat)(N:List (ID×V))(H:g9)(tid:Nat)(ts:List (T×hG)):Prop where
 box:E.box dV=some [ev,vo,cd H.bW.O,ed,.mp kI,.mp kO]
 fe:gh 32 E ev (H.eo.map aV.v)
 fv:gh 2 E vo (H.void.map Name.v)
 fd:gh 2 E ed (H.jx.map L6)
 nm:E.mp kI=some (.map (fp ID.v N))
 nx:Gl E N H.next
 lm:E.mp kO=some (.map (fp ID.v (gX Name.v H.left)))
 tm:E.mp tid=some (.map (fp S (gX hG.v ts)))
 nd:(mV dV ev vo ed N).Nodup
 bd:∀j∈mV dV ev vo ed N,base.Y<=j/\j<E.Y
 md:kI≠kO/\kI≠tid/\kO≠tid
 mb:(base.Y<=kI/\kI<E.Y)/\(base.Y<=kO/\kO<E.Y)/\base.Y<=tid/\tid<E.Y
 same:bt none base E
section
variable {base E wx:aJ}{dV kI kO tid:Nat}{ev vo ed Lo Lp Lq:V}{N:List (ID×V)}{H:g9}{ts:List (T×hG)}
def HQ.mem(Q:HQ base E dV ev vo ed kI kO N H tid ts):(∀i,bH ev=some i->i≠dV)/\(∀i,bH vo=some i->i≠dV/\bH ev≠some i)/\(∀i,bH ed=some i->i≠dV/\bH ev≠some i/\bH vo≠some i)/\(∀i∈gy N,i≠dV/\bH ev≠some i/\bH vo≠some i/\bH ed≠some i)/\(gy N).Nodup:=by
 obtain⟨l,q⟩:=List.nodup_cons.1 Q.nd;obtain⟨y,r,o⟩:=aU.1 q;obtain⟨z,t,p⟩:=aU.1 r;obtain⟨D,u,c3⟩:=aU.1 t;have d:∀i,bH ev=some i->i∈(bH ev).toList:=λi h=>by simp[h]
 have f:∀i,bH vo=some i->i∈(bH vo).toList:=λi h=>by simp[h]
 have j:∀i,bH ed=some i->i∈(bH ed).toList:=λi h=>by simp[h]
 refine⟨λi h e=>l (e▸ck _ (d i h)),λi h=>⟨λe=>l (e▸aY _ (ck _ (f i h))),λa=>o i (d i a) i (ck _ (f i h)) rfl⟩,λi h=>⟨λe=>l (e▸aY _ (aY _ (ck _ (j i h)))),λa=>o i (d i a) i (aY _ (ck _ (j i h))) rfl,λa=>p i (f i a) i (ck _ (j i h)) rfl⟩,λi h=>⟨λe=>l (e▸aY _ (aY _ (aY _ h))),λa=>o i (d i a) i (aY _ (aY _ h)) rfl,λa=>p i (f i a) i (aY _ h) rfl,λa=>c3 i (j i a) i h rfl⟩,u⟩
def vk(o:∀i,bH ev=some i->i≠dV)(h2:∀i,bH vo=some i->i≠dV/\bH ev≠some i)(l:∀i,bH ed=some i->i≠dV/\bH ev≠some i/\bH vo≠some i)(f:∀i∈gy N,i≠dV/\bH ev≠some i/\bH vo≠some i/\bH ed≠some i)(p:(gy N).Nodup):(mV dV ev vo ed N).Nodup:=by
 refine List.nodup_cons.2 ⟨λh=>?_,aU.2 ⟨qp _,aU.2 ⟨qp _,aU.2 ⟨qp _,p,λi a j d e=>?_⟩,λi a j d e=>?_⟩,λi a j d e=>?_⟩⟩
 .simp only[aR,jC]at h;rcases h with h|h|h|h
  .exact o _ h rfl
  .exact(h2 _ h).1 rfl
  .exact(l _ h).1 rfl
  .exact(f _ h).1 rfl
 .subst e;exact(f i d).2.2.2 (by simpa using a)
 .subst e;simp only[aR,jC]at a d;rcases d with h|h
  .exact(l i h).2.2 a
  .exact(f i h).2.2.1 a
 .subst e;simp only[aR,jC]at a d;rcases d with h|h|h
  .exact(h2 i h).2 a
  .exact(l i h).2.1 a
  .exact(f i h).2.1 a
def dh{j:Nat}:j∈mV dV ev vo ed N↔j=dV\/bH ev=some j\/bH vo=some j\/bH ed=some j\/j∈gy N:=by
 simp[mV]
def HQ.left(Q:HQ base E dV ev vo ed kI kO N H tid ts)(a:ID)(b:Name):HQ base (E.eM kO (fp ID.v (gX Name.v (kg H.left a b)))) dV ev vo ed kI kO N {H with left:=kg H.left a b} tid ts where
 box:=Q.box
 fe:=Q.fe.frame (λ_ _=>rfl) (ao _)
 fv:=Q.fv.frame (λ_ _=>rfl) (ao _)
 fd:=Q.fd.frame (λ_ _=>rfl) (ao _)
 nm:=by simp only[aJ.eM];rw[bE _ _ Q.md.1];exact Q.nm
 nx:=Q.nx.frame (λ_ _=>rfl) (ao _)
 lm:=by simp only[aJ.eM];exact bl _ _ _
 tm:=by simp only[aJ.eM];rw[bE _ _ Q.md.2.2.symm];exact Q.tm
 nd:=Q.nd
 bd:=Q.bd
 md:=Q.md
 mb:=Q.mb
 same:=⟨Q.same.box,λi d=>by simp only[aJ.eM];rw[bE _ _ (by have:=Q.mb.2.1.1;omega)];exact Q.same.mp i d,Q.same.Y⟩
def HQ.dy(Q:HQ base E dV ev vo ed kI kO N H tid ts)(a:T)(b:hG):HQ base (E.eM tid (fp S (gX hG.v (kg ts a b)))) dV ev vo ed kI kO N H tid (kg ts a b) where
 box:=Q.box
 fe:=Q.fe.frame (λ_ _=>rfl) (ao _)
 fv:=Q.fv.frame (λ_ _=>rfl) (ao _)
 fd:=Q.fd.frame (λ_ _=>rfl) (ao _)
 nm:=by simp only[aJ.eM];rw[bE _ _ Q.md.2.1];exact Q.nm
 nx:=Q.nx.frame (λ_ _=>rfl) (ao _)
 lm:=by simp only[aJ.eM];rw[bE _ _ Q.md.2.2];exact Q.lm
 tm:=by simp only[aJ.eM];exact bl _ _ _
 nd:=Q.nd
 bd:=Q.bd
 md:=Q.md
 mb:=Q.mb
 same:=⟨Q.same.box,λi d=>by simp only[aJ.eM];rw[bE _ _ (by have:=Q.mb.2.2.1;omega)];exact Q.same.mp i d,Q.same.Y⟩
def HQ.lt(Q:HQ base E dV ev vo ed kI kO N H tid ts):dV<E.Y/\(∀i,bH ev=some i->i<E.Y)/\(∀i,bH vo=some i->i<E.Y)/\(∀i,bH ed=some i->i<E.Y)/\∀i∈gy N,i<E.Y:=
 ⟨(Q.bd _ (dh.2 (.inl rfl))).2,λi h=>(Q.bd _ (dh.2 (.inr (.inl h)))).2,λi h=>(Q.bd _ (dh.2 (.inr (.inr (.inl h))))).2,λi h=>(Q.bd _ (dh.2 (.inr (.inr (.inr (.inl h)))))).2,λi h=>(Q.bd _ (dh.2 (.inr (.inr (.inr (.inr h)))))).2⟩
def HQ.RF{nv d:aJ}{H':g9}{o:Option Nat}(Q:HQ base E dV ev vo ed kI kO N H tid ts)(hS:bt o E nv)(D:o≠some dV)(r:∀i∈gy N,o≠some i)(t:∀i,i<base.Y->o≠some i)
 (u:gh 32 nv Lo (H'.eo.map aV.v)) (fv:gh 2 nv Lp (H'.void.map Name.v)) (fd:gh 2 nv Lq (H'.jx.map L6)) (p:∀i,bH Lo=some i\/bH Lp=some i\/bH Lq=some i->i≠dV)
 (hx:H'.next=H.next/\H'.left=H.left) (nd:(mV dV Lo Lp Lq N).Nodup) (bd:∀j∈mV dV Lo Lp Lq N,base.Y<=j/\j<nv.Y)
 (tb:d.box=eR nv.box dV (some [Lo,Lp,cd H'.bW.O,Lq,.mp kI,.mp kO])) (tm:d.mp=nv.mp) (f:d.Y=nv.Y):HQ base d dV Lo Lp Lq kI kO N H' tid ts:=by
 have y:=Q.lt;have z:=hS.Y;have fr:∀j,j≠dV->d.box j=nv.box j:=λj a=>by rw[tb];exact bE _ _ a
 have l:∀j,j<E.Y->d.mp j=E.mp j:=λj a=>by rw[tm];exact hS.mp j a
 refine⟨by rw[tb,bl],u.frame (λj a=>fr j (p j (.inl a))) (c8 f.symm),fv.frame (λj a=>fr j (p j (.inr (.inl a)))) (c8 f.symm),fd.frame (λj a=>fr j (p j (.inr (.inr a)))) (c8 f.symm),by rw[l _ Q.mb.1.2];exact Q.nm,?_,by rw[l _ Q.mb.2.1.2,hx.2];exact Q.lm,by rw[l _ Q.mb.2.2.2];exact Q.tm,nd,λj a=>by rw[f];exact bd j a,Q.md,⟨⟨Q.mb.1.1,by rw[f];have:=Q.mb.1.2;omega⟩,⟨Q.mb.2.1.1,by rw[f];have:=Q.mb.2.1.2;omega⟩,Q.mb.2.2.1,by rw[f];have:=Q.mb.2.2.2;omega⟩,⟨λi q _=>?_,λi q=>?_,?_⟩⟩
 .rw[hx.1];exact Q.nx.frame (λj a=>by rw[fr j (Q.mem.2.2.2.1 j a).1,hS.box j (y.2.2.2.2 j a) (r j a)]) (by rw[f];exact z)
 .have:=Q.same.Y;have K:=(Q.bd dV (dh.2 (.inl rfl))).1;rw[fr i av,hS.box i av (t i q)];exact Q.same.box i q bR
 .have:=Q.same.Y;rw[l i av];exact Q.same.mp i q
 .have:=Q.same.Y;rw[f];omega
def HQ.bW(Q:HQ base E dV ev vo ed kI kO N H tid ts)(w:cm)(tb:wx.box=eR E.box dV (some [ev,vo,cd w.O,ed,.mp kI,.mp kO]))(tm:wx.mp=E.mp)(a:wx.Y=E.Y):HQ base wx dV ev vo ed kI kO N {H with bW:=w} tid ts:=
 Q.RF (o:=none) (H':={H with bW:=w}) ⟨λ_ _ _=>rfl,λ_ _=>rfl,ao _⟩ bR bR bR Q.fe Q.fv Q.fd (λi h=>by
  rcases h with h|h|h
  .exact Q.mem.1 i h
  .exact(Q.mem.2.1 i h).1
  .exact(Q.mem.2.2.1 i h).1) ⟨rfl,rfl⟩ Q.nd Q.bd tb tm a
def HQ.Zt{nv d:aJ}{x:aV}(Q:HQ base E dV ev vo ed kI kO N H tid ts)(hS:bt (bH ev) E nv)(hm:gh 32 nv Lo (H.eo.map aV.v++[x.v]))(z:bH Lo=bH ev\/bH Lo=some E.Y)(r:∀i,bH Lo=some i->i<nv.Y)
 (tb:d.box=eR nv.box dV (some [Lo,vo,cd H.bW.O,ed,.mp kI,.mp kO])) (tm:d.mp=nv.mp) (D:d.Y=nv.Y):HQ base d dV Lo vo ed kI kO N {H with eo:=H.eo++[x]} tid ts:=by
 obtain⟨m1,m2,l,m4,m5⟩:=Q.mem;obtain⟨L,P,t,u,K⟩:=Q.lt;have y:=hS.Y;have f:∀i,bH Lo=some i->i≠dV/\bH vo≠some i/\bH ed≠some i/\i∉gy N/\base.Y<=i:=λi h=>by
  rcases z with q|q
  .have p:=q▸h;exact⟨m1 i p,λe=>(m2 i e).2 p,λe=>(l i e).2.1 p,λe=>(m4 i e).2.1 p,(Q.bd i (dh.2 (.inr (.inl p)))).1⟩
  .rw[q]at h;cases h;exact⟨av,λe=>by have:=t _ e;omega,λe=>by have:=u _ e;omega,λe=>by have:=K _ e;omega,Q.same.Y⟩
 refine Q.RF (o:=bH ev) (H':={H with eo:=H.eo++[x]}) hS (λe=>m1 _ e rfl) (λi h=>(m4 i h).2.1) (λi hb e=>by have:=(Q.bd i (dh.2 (.inr (.inl e)))).1;omega) (by rw[aE];exact hm)
  (Q.fv.frame (λj a=>hS.box j (t j a) (m2 j a).2) y) (Q.fd.frame (λj a=>hS.box j (u j a) (l j a).2.1) y) (λi h=>?_) ⟨rfl,rfl⟩ (vk (λi h=>(f i h).1) (λi h=>⟨(m2 i h).1,λe=>(f i e).2.1 h⟩) (λi h=>⟨(l i h).1,λe=>(f i e).2.2.1 h,(l i h).2.2⟩) (λi h=>⟨(m4 i h).1,λe=>(f i e).2.2.2.1 h,(m4 i h).2.2⟩) m5) (λj a=>?_) tb tm D
 .rcases h with h|h|h
  .exact(f i h).1
  .exact(m2 i h).1
  .exact(l i h).1
 .rcases dh.1 a with h|h|h|h|h
  .have:=Q.bd j (dh.2 (.inl h));omega
  .exact⟨(f j h).2.2.2.2,r j h⟩
  .exact Uk
  .exact Ug
  .exact PE
def HQ.Zu{nv d:aJ}{x:Name}(Q:HQ base E dV ev vo ed kI kO N H tid ts)(hS:bt (bH vo) E nv)(hm:gh 2 nv Lp (H.void.map Name.v++[x.v]))(z:bH Lp=bH vo\/bH Lp=some E.Y)(r:∀i,bH Lp=some i->i<nv.Y)
 (tb:d.box=eR nv.box dV (some [ev,Lp,cd H.bW.O,ed,.mp kI,.mp kO])) (tm:d.mp=nv.mp) (D:d.Y=nv.Y):HQ base d dV ev Lp ed kI kO N {H with void:=H.void++[x]} tid ts:=by
 obtain⟨m1,m2,l,m4,m5⟩:=Q.mem;obtain⟨L,t,P,u,K⟩:=Q.lt;have y:=hS.Y;have f:∀i,bH Lp=some i->i≠dV/\bH ev≠some i/\bH ed≠some i/\i∉gy N/\base.Y<=i:=λi h=>by
  rcases z with q|q
  .have p:=q▸h;exact⟨(m2 i p).1,(m2 i p).2,λe=>(l i e).2.2 p,λe=>(m4 i e).2.2.1 p,(Q.bd i (dh.2 (.inr (.inr (.inl p))))).1⟩
  .rw[q]at h;cases h;exact⟨av,λe=>by have:=t _ e;omega,λe=>by have:=u _ e;omega,λe=>by have:=K _ e;omega,Q.same.Y⟩
 refine Q.RF (o:=bH vo) (H':={H with void:=H.void++[x]}) hS (λe=>(m2 _ e).1 rfl) (λi h=>(m4 i h).2.2.1) (λi hb e=>by have:=(Q.bd i (dh.2 (.inr (.inr (.inl e))))).1;omega) (Q.fe.frame (λj a=>hS.box j (t j a) (λe=>(m2 j e).2 a)) y)
  (by rw[aE];exact hm) (Q.fd.frame (λj a=>hS.box j (u j a) (l j a).2.2) y) (λi h=>?_) ⟨rfl,rfl⟩ (vk m1 (λi h=>⟨(f i h).1,(f i h).2.1⟩) (λi h=>⟨(l i h).1,(l i h).2.1,λe=>(f i e).2.2.1 h⟩) (λi h=>⟨(m4 i h).1,(m4 i h).2.1,λe=>(f i e).2.2.2.1 h,(m4 i h).2.2.2⟩) m5) (λj a=>?_) tb tm D
 .rcases h with h|h|h
  .exact m1 i h
  .exact(f i h).1
  .exact(l i h).1
 .rcases dh.1 a with h|h|h|h|h
  .have:=Q.bd j (dh.2 (.inl h));omega
  .have:=Q.bd j (dh.2 (.inr (.inl h)));omega
  .exact⟨(f j h).2.2.2.2,r j h⟩
  .exact Ug
  .exact PE
def HQ.Zv{nv d:aJ}{x:cm×List hG}(Q:HQ base E dV ev vo ed kI kO N H tid ts)(hS:bt (bH ed) E nv)(hm:gh 2 nv Lq (H.jx.map L6++[L6 x]))(z:bH Lq=bH ed\/bH Lq=some E.Y)(r:∀i,bH Lq=some i->i<nv.Y)
 (tb:d.box=eR nv.box dV (some [ev,vo,cd H.bW.O,Lq,.mp kI,.mp kO])) (tm:d.mp=nv.mp) (D:d.Y=nv.Y):HQ base d dV ev vo Lq kI kO N {H with jx:=H.jx++[x]} tid ts:=by
 obtain⟨m1,m2,f,m4,m5⟩:=Q.mem;obtain⟨L,t,u,P,K⟩:=Q.lt;have y:=hS.Y;have l:∀i,bH Lq=some i->i≠dV/\bH ev≠some i/\bH vo≠some i/\i∉gy N/\base.Y<=i:=λi h=>by
  rcases z with q|q
  .have p:=q▸h;exact⟨(f i p).1,(f i p).2.1,(f i p).2.2,λe=>(m4 i e).2.2.2 p,(Q.bd i (dh.2 (.inr (.inr (.inr (.inl p)))))).1⟩
  .rw[q]at h;cases h;exact⟨av,λe=>by have:=t _ e;omega,λe=>by have:=u _ e;omega,λe=>by have:=K _ e;omega,Q.same.Y⟩
 refine Q.RF (o:=bH ed) (H':={H with jx:=H.jx++[x]}) hS (λe=>(f _ e).1 rfl) (λi h=>(m4 i h).2.2.2) (λi hb e=>by have:=(Q.bd i (dh.2 (.inr (.inr (.inr (.inl e)))))).1;omega) (Q.fe.frame (λj a=>hS.box j (t j a) (λe=>(f j e).2.1 a)) y)
  (Q.fv.frame (λj a=>hS.box j (u j a) (λe=>(f j e).2.2 a)) y) (by rw[aE];exact hm) (λi h=>?_) ⟨rfl,rfl⟩ (vk m1 m2 (λi h=>⟨(l i h).1,(l i h).2.1,(l i h).2.2.1⟩) (λi h=>⟨(m4 i h).1,(m4 i h).2.1,(m4 i h).2.2.1,λe=>(l i e).2.2.2.1 h⟩) m5) (λj a=>?_) tb tm D
 .rcases h with h|h|h
  .exact m1 i h
  .exact(m2 i h).1
  .exact(l i h).1
 .rcases dh.1 a with h|h|h|h|h
  .have:=Q.bd j (dh.2 (.inl h));omega
  .have:=Q.bd j (dh.2 (.inr (.inl h)));omega
  .exact Uk
  .exact⟨(l j h).2.2.2.2,r j h⟩
  .exact PE
def HQ.next{nv f:aJ}{a:ID}{v':V}{l':List ID}(Q:HQ base E dV ev vo ed kI kO N H tid ts)(hS:∀j,j<E.Y->bH (kQ N a .aP)≠some j->nv.box j=E.box j)(ad:E.Y<=nv.Y)(hm:gh 3 nv v' (l'.map ID.v))(q:bH v'=bH (kQ N a .aP)\/bH v'=some E.Y)(K:∀i,bH v'=some i->i<nv.Y)
 (L:∀i,i≠kI->i<E.Y->nv.mp i=E.mp i) (tb:f.box=nv.box) (tm:f.mp=eR nv.mp kI (some (.map (fp ID.v (jh N a v'))))) (D:f.Y=nv.Y):HQ base f dV ev vo ed kI kO (jh N a v') {H with next:=kg H.next a l'} tid ts:=by
 obtain⟨m1,m2,ai,m4,m5⟩:=Q.mem;obtain⟨aA,P,R,ab,ac⟩:=Q.lt;have old:∀i,bH (kQ N a .aP)=some i->i∈gy N:=λi h=>xo h;have r:∀i,bH v'=some i->i≠dV/\bH ev≠some i/\bH vo≠some i/\bH ed≠some i/\base.Y<=i:=λi h=>by
  rcases q with o|o
  .have t:=old i (o▸h);exact⟨(m4 i t).1,(m4 i t).2.1,(m4 i t).2.2.1,(m4 i t).2.2.2,(Q.bd i (dh.2 (.inr (.inr (.inr (.inr t)))))).1⟩
  .rw[o]at h;cases h;exact⟨av,λe=>by have:=P _ e;omega,λe=>by have:=R _ e;omega,λe=>by have:=ab _ e;omega,Q.same.Y⟩
 have l:∀j,j<E.Y->bH (kQ N a .aP)≠some j->f.box j=E.box j:=λj d u=>by rw[tb];exact hS j d u
 have y:∀j,j≠kI->j<E.Y->f.mp j=E.mp j:=λj d aB=>by rw[tm,bE _ _ d];exact L j d aB
 have p:E.Y<=f.Y:=by rw[D];exact ad
 have z:∀j∈gy (jh N a v'),j∈gy N\/bH v'=some j:=λj h=>wm h;refine⟨by rw[l dV aA (λe=>(m4 _ (old _ e)).1 rfl)];exact Q.box,Q.fe.frame (λj d=>l j (P j d) (λe=>(m4 j (old _ e)).2.1 d)) p,Q.fv.frame (λj d=>l j (R j d) (λe=>(m4 j (old _ e)).2.2.1 d)) p,Q.fd.frame (λj d=>l j (ab j d) (λe=>(m4 j (old _ e)).2.2.2 d)) p,by rw[tm,bl],Gl.set p (hm.frame (λj _=>by rw[tb]) (c8 D.symm)) Q.nx m5 (λj d u=>l j (ac j d) u),by rw[y kO Q.md.1.symm Q.mb.2.1.2];exact Q.lm,by rw[y tid Q.md.2.1.symm Q.mb.2.2.2];exact Q.tm,vk m1 m2 ai (λi h=>?_) (xp m5 (λj d hm=>?_)),λj d=>?_,Q.md,⟨⟨Q.mb.1.1,by have:=Q.mb.1.2;omega⟩,⟨Q.mb.2.1.1,by have:=Q.mb.2.1.2;omega⟩,Q.mb.2.2.1,by have:=Q.mb.2.2.2;omega⟩,⟨λi q _=>?_,λi q=>?_,?_⟩⟩
 .rcases z i h with h|h
  .exact m4 i h
  .exact⟨(r i h).1,(r i h).2.1,(r i h).2.2.1,(r i h).2.2.2.1⟩
 .rcases q with o|o
  .rw[<-o];exact d
  .rw[o]at d;cases d;exact absurd (ac _ hm) (ku _)
 .rcases dh.1 d with h|h|h|h|h
  .have:=Q.bd j (dh.2 (.inl h));omega
  .have:=Q.bd j (dh.2 (.inr (.inl h)));omega
  .exact Uk
  .exact Ug
  .rcases z j h with h|h
   .exact PE
   .exact⟨(r j h).2.2.2.2,by rw[D];exact K j h⟩
 .have aC:=Q.same.Y;rw[l i av (λe=>by have:=(Q.bd i (dh.2 (.inr (.inr (.inr (.inr (old _ e))))))).1;omega)];exact Q.same.box i q bR
 .have aC:=Q.same.Y;rw[y i (by have:=Q.mb.1.1;omega) av];exact Q.same.mp i q
 .have:=Q.same.Y;omega
end
end Go.Bx
