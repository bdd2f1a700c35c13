/- Lemmas for HistoryBegins. -/
import Derived.Test.YtmbahmpbmcfifaaGreatDoorCi
import Derived.Test.YtmbahmpbmcfifaaGreatDoorCj
import Derived.Test.YtmbahmpbmcfifaaGreatDoorCk
import Derived.Ground.GgzProg
import Derived.Ground.SlgmProg
import Derived.Ground.SlsfProg
import Derived.Shelf.SlGeneric
import Derived.Shelf.SlIter.Nil
import Derived.Shelf.SlSortCmp.NoneTotal
import Derived.Shelf.SortM.Plain
import Derived.Shelf.SortM.SortNone
noncomputable section
set_option linter.all false
set_option maxHeartbeats 4000000
set_option maxRecDepth 100000
namespace Go.Bx
open Go.Proofs Go.Proofs.Tryz
attribute [local irreducible] vc er dq b4 bU run iw iI iW i1 iG i2 iX iq iH iZ gA iY cS
def B2(s:T)(k:Int):Bool:=decide (1<=k/\k< (cr s).length)&&lx (cr s) k.toNat
def nL(s:T)(k:Int):T:=s.take (((cr s).getD k.toNat ⟨0,0,0⟩).W-1).toNat
def Fe(s:T)(k:Int):T:=s.drop ((cr s).getD k.toNat ⟨0,0,0⟩).W.toNat
def Gx{s:T}{k:Int}(h0:g8 s=0)(h:B2 s k=true):tI s k=.hJ [S (nL s k),S (Fe s k),I 0]:=by
 simp only[B2,be,cq]at h;unfold tI;rw[al (by simp[h0]),ax ⟨h.1.1,h.1.2,h.2⟩];rfl
def J5{s:T}{k:Int}(h0:g8 s=0)(h:B2 s k=false):tI s k=.hJ [S [],S [],I 5]:=by
 unfold tI;rw[al (by simp[h0]),al];rintro⟨a,d,f⟩;simp[B2,a,d,f]at h
def Ff(s:T)(k:Int):(nL s k).length<=s.length/\(Fe s k).length<=s.length:=by
 constructor
 .unfold nL;rw[aG];omega
 .unfold Fe;rw[aS];omega
def B3(s:T)(k:Int):gl (nL s k)<=gl s:=by
 unfold nL;rcases am (((cr s).getD k.toNat ⟨0,0,0⟩).W-1).toNat s.length with h|h
 .exact Gs s _ av
 .rw[aE h];exact an _
def LJ(w:cg)(v a i:Nat)(p:aJ)(k:Int)(b:Name):cg×Int:=
 if B2 p.bN k=true then(kO w v a i 1 [k2 b 0 p (nL p.bN k) (p.C.take (gl (nL p.bN k))),k2 b 1 p (Fe p.bN k) (p.C.drop (gl (nL p.bN k)))],0)else(w,5)
def mr(w:cg)(o:Op)(b:Name):cg×Int:=
 match ef o.W 0 w.O with
 |none=>(w,6)
 |some (v,a,i)=>
  if o.kind=7 then(match ef o.to 0 w.O with
   |none=>(w,6)
   |some (d,f,j)=>(xu w v a i d f j,0))
  else if o.kind=3 then(kO w v a i 1 [],0)
  else if o.kind=4 then LJ w v a i ((gX w v a).O.getD i ia) o.n b
  else if o.kind=5 then zd w v a i b
  else if o.kind=6 then BK w o v a i ((gX w v a).O.getD i ia)
  else if o.kind=8 then C2 w o v a i b
  else(kO w v a i 1 [{(gX w v a).O.getD i ia with C:=o.C}],0)
def RQ(w:cg)(j:w.ok)(ab:(dj w).length<=10000)(E:∀p∈dj w,p.C.length<=10000/\p.bN.length<=10000/\g8 p.bN=0/\gl p.bN=p.C.length)(o:Op)(y:o.ok)(ac:∀t∈o.F,t.length<=10000)(a2:2<o.kind/\o.kind<=9)(b:Name):
 af 191 [w.v,o.v,b.v] (ml (mr w o b)):=by
 have c1:=vm w o.W j;have c2:=vm w o.to j;unfold mr;rcases r:ef o.W 0 w.O with _|⟨v,a,i⟩
 .rw[r]at c1;simp only[jm,cG]at c1;unfold ml;refine pk f191 ?_;repeat' first|simp(disch:=try exact om) only[gE,simprocAttr,Op.v,Op.c]|refine lq c1 ?_|refine lq c2 ?_|(((refine rT ?_;repeat' first|exact hW.nil|refine gt ?_ ?_|refine gc ?_ ?_);(all_goals(try(first|with_reducible exact .refl _|(apply ak;simp;done))))))
  all_goals skip
 .rw[r]at c1;simp only[jm,fg]at c1;obtain⟨d,f,l,dW⟩:=jT r;have c3:=p6 w v a ⟨v,a,i⟩ d f rfl rfl;simp only;rw[ff d f,ap,aa l,bf];have z:w.O[v].O[a].O[i]∈dj w:=dC.2 ⟨_,ah d,dC.2 ⟨_,ah f,ah l⟩⟩;obtain⟨p1,ad,A,a3⟩:=E _ z;have D:o.kind=3\/o.kind=4\/o.kind=5\/o.kind=6\/o.kind=7\/o.kind=8\/o.kind=9:=av;rcases D with h|h|h|h|h|h|h
  .rw[al av,ax h];have c4:=sU w j v a i 1 d f av av [] bT;unfold ml;refine pk f191 ?_;repeat' first|simp(disch:=try exact om) only[gE,simprocAttr,Op.v,Op.c,h]|refine lq c1 ?_|((first|refine jj c2 ?_ ?_|refine jj c3 ?_ ?_|refine jj c4 ?_ ?_);·(repeat(first|exact aV.nil|(refine aV.cons (ak ?_) ?_;(simp only[ee]<;>rfl))|(refine aV.cons ?_ ?_;simp only[pY]<;>exact .aP _))))|(((refine rT ?_;repeat' first|exact hW.nil|refine gt ?_ ?_|refine gc ?_ ?_);(all_goals(try(first|with_reducible exact .refl _|(apply ak;simp;done))))))
   all_goals skip
  .rw[al av,al av,ax h];have c4:=Rh w.O[v].O[a].O[i].bN o.n ad;unfold LJ;by_cases q:B2 w.O[v].O[a].O[i].bN o.n=true
   .rw[ax q];rw[Gx A q]at c4;have a4:=Ff w.O[v].O[a].O[i].bN o.n;have a5:=B3 w.O[v].O[a].O[i].bN o.n;have ai:=Am (nL w.O[v].O[a].O[i].bN o.n) av (sO _ av);have H:(lO 3 (cr (nL w.O[v].O[a].O[i].bN o.n)) (cr (nL w.O[v].O[a].O[i].bN o.n)).length).length=gl (nL w.O[v].O[a].O[i].bN o.n):=rfl;generalize a0:gl (nL w.O[v].O[a].O[i].bN o.n)=m at*
    have a1:m<=w.O[v].O[a].O[i].C.length:=av;have K:=xp b 0 w.O[v].O[a].O[i] (nL w.O[v].O[a].O[i].bN o.n) (w.O[v].O[a].O[i].C.take m) (by rw[aG];omega);have L:=xp b 1 w.O[v].O[a].O[i] (Fe w.O[v].O[a].O[i].bN o.n) (w.O[v].O[a].O[i].C.drop m) (by rw[aS];omega);have aA:=sU w j v a i 1 d f av av [k2 b 0 w.O[v].O[a].O[i] (nL w.O[v].O[a].O[i].bN o.n) (w.O[v].O[a].O[i].C.take m),k2 b 1 w.O[v].O[a].O[i] (Fe w.O[v].O[a].O[i].bN o.n) (w.O[v].O[a].O[i].C.drop m)] bT;simp only[eW,jw,gG]at K L;have N:List.take (w.O[v].O[a].O[i].C.length-m) (List.drop m (List.map ID.v w.O[v].O[a].O[i].C))=List.drop m (List.map ID.v w.O[v].O[a].O[i].C):=aE bT;unfold ml;refine pk f191 ?_;repeat' first|simp(disch:=try exact om) only[gE,simprocAttr,Op.v,Op.c,h,H,N]|refine lq c1 ?_|refine lq c2 ?_|refine lq c3 ?_|refine lq c4 ?_|refine lq ai ?_|refine lq K ?_|refine lq L ?_|refine lq aA ?_|(((refine rT ?_;repeat' first|exact hW.nil|refine gt ?_ ?_|refine gc ?_ ?_);(all_goals(try(first|with_reducible exact .refl _|(apply ak;simp;done))))))
    all_goals skip
   .rw[al q];rw[J5 A (by simpa using q)]at c4;unfold ml;exact Wo
  .rw[al av,al av,al av,ax h];have c4:=Re w j v a i b d f l (λp h=>⟨(E p h).1,(E p h).2.1⟩);unfold ml at c4 ⊢
   exact Wo
  .rw[al av,al av,al av,al av,ax h];have c4:=Rc w j ab o v a i w.O[v].O[a].O[i] d f l;unfold ml at c4 ⊢
   simp only[Op.v,Op.c,h]at c4;exact Wo
  .rw[ax h];rcases u:ef o.to 0 w.O with _|⟨aB,aC,aD⟩
   .rw[u]at c2;simp only[jm,cG]at c2;unfold ml;refine pk f191 ?_;repeat' first|simp(disch:=try exact om) only[gE,simprocAttr,Op.v,Op.c,h]|refine lq c1 ?_|refine lq c2 ?_|(((refine rT ?_;repeat' first|exact hW.nil|refine gt ?_ ?_|refine gc ?_ ?_);(all_goals(try(first|with_reducible exact .refl _|(apply ak;simp;done))))))
    all_goals skip
   .rw[u]at c2;simp only[jm,fg]at c2;obtain⟨P,Q,R,_⟩:=jT u;have c4:=Ro w j v a i aB aC aD d f l P Q R;unfold ml;exact Wo
  .rw[al av,al av,al av,al av,al av,ax h];have c4:=Rj w j o y ac v a i b d f l;unfold ml at c4 ⊢
   simp only[Op.v,Op.c,h]at c4;exact Wo
  .rw[al av,al av,al av,al av,al av,al av];have c4:=sU w j v a i 1 d f av av [{w.O[v].O[a].O[i]with C:=o.C}] bT;unfold ml;have a6:=y.2.2.2.2;exact Wo
def cg.fits(w:cg):Prop:=w.ok/\(dj w).length<=1024/\(w.O.length<=8/\∀v∈w.O,v.O.length<=64)/\∀p∈dj w,p.C.length<=10000/\p.bN.length<=10000/\g8 p.bN=0/\gl p.bN=p.C.length
def Gy{w:cg}(h:fu w=0):lf w=false/\(dj w).all aJ.sa=true:=by
 unfold fu at h;split at h
 .cases h
 .split at h
  .cases h
  next a d=>exact⟨by simpa using a,by simpa using d⟩
def Io{s:T}(h:g8 s=0):s.length<=4096:=by
 unfold g8 at h;split at h
 .cases h
 .omega
def nu{w:cg}(f:w.ok)(h:fu w=0):w.fits:=by
 obtain⟨a,j⟩:=Gy h;simp only[lf,nR,ij,mL]at a;refine⟨f,av,⟨av,λv l=>?_⟩,λp E=>?_⟩
 .have:=a.1.1 v l;simp at this;omega
 .have:=bO.1 j p E;simp only[aJ.sa,be,i4]at this;obtain⟨⟨⟨⟨_,_⟩,d⟩,o⟩,_⟩:=this;have q:=Io d;have r:=yq p.bN;exact⟨av,av,d,o⟩
def B4{w:cg}{v a:Nat}{x:eg}(d:v<w.O.length):(dj (k3 w v a x)).length<=(dj w).length+x.O.length:=by
 rw[qh d];exact BJ d Gf
def mF{w:cg}{v a:Nat}(hv:v<w.O.length)(ha:a<w.O[v].O.length):w.O[v].O[a].O.length<=(dj w).length:=by
 exact XU
def D1{w:cg}{v a i n:Nat}{l:List aJ}(hv:v<w.O.length)(ha:a<w.O[v].O.length):(dj (kO w v a i n l)).length<=3*(dj w).length+l.length:=by
 have:=mF hv ha;refine aT (B4 hv) ?_;exact Tf
def Au{w:cg}{v a i:Nat}(d:v<w.O.length)(f:a<w.O[v].O.length)(j:i<w.O[v].O[a].O.length):w.O[v].O[a].O[i]∈dj w:=
 dC.2 ⟨_,ah d,dC.2 ⟨_,ah f,ah j⟩⟩
def J6{w:cg}(d:w.ok)(f:2*(dj w).length+1<=1000000){v a:Nat}{i:Int}{p:aJ}(j:v<w.O.length)(l:a<w.O[v].O.length)(E:p.ok):(yo w v a i p).1.ok:=by
 unfold yo;split
 .exact pD d j l (by simpa using E) (by simpa using f)
 .exact d
def v8{w:cg}(H:w.fits){o:Op}(q:o.ok)(b:Name):(mE w o b).1.ok:=by
 obtain⟨A,K,⟨ac,r⟩,E⟩:=H;have f:=A;obtain⟨L,t,N⟩:=A;unfold mE;split
 .refine⟨by simp;omega,λv d=>?_,?_⟩
  .rcases aN.1 d with d|d
   .exact t v d
   .obtain rfl:=aR.1 d;exact⟨bT,λa P=>by cases P⟩
  .have e:dj (⟨w.O++[⟨[]⟩]⟩:cg)=dj w:=by simp[dj,lA,mi]
   rw[e];exact N
 split
 .split
  next h=>
   have d:o.spot.i9.toNat<w.O.length:=av;have D:=t _ (ah d);have ad:=r _ (ah d);have e:Hw w o.spot.i9.toNat ⟨o.bN,[]⟩=⟨w.O.set o.spot.i9.toNat ⟨w.O[o.spot.i9.toNat].O++[⟨o.bN,[]⟩]⟩⟩:=by
    simp only[Hw,ap,aa d,bf]
   rw[e];refine⟨by simpa using L,λy u=>?_,?_⟩
   .rcases cN u with u|rfl
    .exact t y u
    .refine⟨by simp;omega,λz j=>?_⟩;rcases aN.1 j with j|j
     .exact D.2 z j
     .obtain rfl:=aR.1 j;exact⟨q.1,bT,λp E=>by cases E⟩
   .have Q:=BJ (l:=w.O) (v:=o.spot.i9.toNat) (y:=⟨w.O[o.spot.i9.toNat].O++[⟨o.bN,[]⟩]⟩) (k:=0) d (by simp[mi]);exact aT Q (aT K du)
  .exact f
 .split
  next h=>obtain⟨_,_,R,ab⟩:=E9 h;exact J6 f av R ab ⟨q.1,q.2.2.2.2⟩
  .exact f
def Db{w:cg}(Q:w.fits){o:Op}(aB:o.ok)(a2:∀t∈o.F,t.length<=10000)(b:Name):(mr w o b).1.ok:=by
 obtain⟨f,a9,_,E⟩:=Q;unfold mr;split
 .exact f
 rename_i v a i Q;obtain⟨d,r,K,dW⟩:=jT Q;rw[ff d r,ap,aa K,bf];have aC:=Au d r K;obtain⟨bi,bl,bo,bs⟩:=E _ aC;have L:(w.O[v].O[a].O[i]).ok:=⟨av,av⟩;split
 .split
  .exact f
  next R ab ac a3=>
   obtain⟨y,z,N,_⟩:=jT a3;have ad:=(f.2.1 _ (ah d)).2 _ (ah r);have aD:=(f.2.1 _ (ah y)).2 _ (ah z);have a4:=mF d r;have bu:=mF y z;unfold xu;simp only[ff d r,ff y z,ap,aa K,aa N,bf];have a0:(k3 w v a ⟨w.O[v].O[a].gR,w.O[v].O[a].O.set i w.O[R].O[ab].O[ac]⟩).ok:=yn f d ⟨ad.1,by simpa using ad.2.1,λp h=>by
    rcases cN h with h|rfl
    .exact ad.2.2 p h
    .exact aD.2.2 _ (ah N)⟩ (by simp only[fH];omega)
   obtain⟨A,D,a8⟩:=yu (x:=⟨w.O[v].O[a].gR,w.O[v].O[a].O.set i w.O[R].O[ab].O[ac]⟩) (a:=a) d y z;have ai:=B4 (a:=a) (x:=⟨w.O[v].O[a].gR,w.O[v].O[a].O.set i w.O[R].O[ab].O[ac]⟩) d;simp only[fH]at ai;rw[ff A D];have H:=(a0.2.1 _ (ah A)).2 _ (ah D);have bv:=mF A D;exact yn a0 A ⟨H.1,by simpa using H.2.1,λp h=>by
    rcases cN h with h|rfl
    .exact H.2.2 p h
    .exact L⟩ (by simp only[fH];omega)
 split
 .exact pD f d r bT (by simp;omega)
 split
 .unfold LJ;have a4:=Ff w.O[v].O[a].O[i].bN o.n;split
  .refine pD f d r (λq u=>?_) (by simp;omega);simp only[bn,cE,gL]at u;rcases u with rfl|rfl
   .exact⟨by show(nL _ _).length<=_;omega,by show(List.take _ _).length<=_;rw[aG];omega⟩
   .exact⟨by show(Fe _ _).length<=_;omega,by show(List.drop _ _).length<=_;rw[aS];omega⟩
  .exact f
 split
 .unfold zd;rw[ff d r];simp only;split
  next p q a5 a6=>
   obtain⟨a1,rfl⟩:=aH.1 a5;obtain⟨aA,rfl⟩:=aH.1 a6;obtain⟨q1,bY,_⟩:=E _ (Au d r aA);split
   .refine pD f d r (λq u=>?_) (by simp;omega);obtain rfl:=aR.1 u
    and_intros
    .simp only[k2,ae,aM];omega
    .simp only[k2,ae];omega
   .exact f
  .exact f
 split
 .unfold BK;split
  next h=>obtain⟨_,_,a1,aA⟩:=uJ (a:=a) (i:=i) (n:=1) (l:=[]) d h;have ai:=D1 (i:=i) (n:=1) (l:=[]) d r;simp only[aX]at ai;exact J6 (pD f d r bT (by simp;omega)) av a1 aA L
  .exact f
 split
 .unfold C2;simp only[ff d r,ap,aa K,bf];split
  next h=>
   split
   .refine pD f d r (λq u=>?_) (by rw[xq];omega);obtain⟨j,a7,rfl⟩:=cB.1 u;have P:j<o.F.length:=by simpa using a7
    and_intros
    .show(o.F.getD j []).length<=_;rw[ap,aa P,bf];have:=a2 _ (ah P);omega
    .show(List.take _ (List.drop _ _)).length<=_;rw[aG,aS];have:=aB.2.2.2.2;omega
   .exact f
  .exact f
 .refine pD f d r (λq u=>?_) (by simp;omega);obtain rfl:=aR.1 u;exact⟨by show(w.O[v].O[a].O[i].bN).length<=_;omega,aB.2.2.2.2⟩
def vX:CF GL f140 [] [] 140:=jo
def qj(w:cg)(o:Op)(b:Name):cg×Int:=
 if fu w≠0 then(⟨[]⟩,fu w)
 else if b.mj=true/\0<=o.kind/\o.kind<=9/\o=nB o then
  (
   let r:=if 2<o.kind then mr w o b else mE w o b
   if r.2=0 then(if fu r.1=0 then(r.1,0)else(⟨[]⟩,8))else(⟨[]⟩,r.2))
 else(⟨[]⟩,1)
def uN:V.Le (.agg [.aP]) (cg.v ⟨[]⟩):=sr (.cons (.aP _) .nil)
def J7(w:cg)(H:w.ok)(o:Op)(y:o.ok)(L:∀t∈o.F,t.length<=10000)(b:Name):
 af 140 [w.v,o.v,b.v] (ml (qj w o b)):=by
 have l:=xn w H;have d:=Rw b;have c3:=Ri o;have c4:=Q9 o (nB o) y;unfold qj;by_cases j:fu w=0
 .rw[al (by simpa using j)];have A:=nu H j;have p:=Rn w H o y b;have Q:=xn _ (v8 A y b);by_cases z:b.mj=true/\0<=o.kind/\o.kind<=9/\o=nB o
  .rw[ax z];obtain⟨z,R,N,P⟩:=z;rw[z]at d;rw[show decide (o=nB o)=true by simpa using P]at c4;by_cases K:2<o.kind
   .simp only[ax K];have D:=RQ w H (by have:=A.2.1;omega) A.2.2.2 o y L ⟨K,N⟩ b;have q:=xn _ (Db A y L b);unfold ml at p D ⊢
    generalize mr w o b=r at*
    obtain⟨x,f⟩:=r;simp only at D q ⊢
    by_cases a:f=0
    .rw[ax a];by_cases u:fu x=0
     .rw[ax u];refine pq vX.ok rfl (by simp only[dx]) ?_;repeat' first|simp(disch:=simp only[l4];omega) only[dt,simprocAttr,Op.v,Op.c,cw,cP,a,u,j]|(first|refine bZ ?_ ?_|refine c8 ?_ ?_)<;>intro h<;>(try simp only[bB]at h)<;>(try simp only[h])<;>(try simp only[jg]at h)<;>try omega|((first|refine i0 l ?_ ?_|refine i0 d ?_ ?_|refine i0 c3 ?_ ?_|refine i0 c4 ?_ ?_|refine i0 p ?_ ?_|refine i0 D ?_ ?_);·simp only[ee]<;>rfl)|(refine i0 q ?_ ?_;·simp only[ee]<;>rfl)|refine ei ?_|(((refine rT ?_;repeat' first|exact hW.nil|refine gt ?_ ?_|refine gc ?_ ?_);(all_goals(try(first|with_reducible exact .refl _|(apply ak;simp;done))))))
      all_goals skip
     .rw[al u];refine pq vX.ok rfl (by simp only[dx]) ?_;repeat' first|simp(disch:=simp only[l4];omega) only[dt,simprocAttr,Op.v,Op.c,cw,cP,a,j]|(first|refine bZ ?_ ?_|refine c8 ?_ ?_)<;>intro h<;>(try simp only[bB]at h)<;>(try simp only[h])<;>(try simp only[jg]at h)<;>try omega|((first|refine i0 l ?_ ?_|refine i0 d ?_ ?_|refine i0 c3 ?_ ?_|refine i0 c4 ?_ ?_|refine i0 p ?_ ?_|refine i0 D ?_ ?_);·simp only[ee]<;>rfl)|(refine i0 q ?_ ?_;·simp only[ee]<;>rfl)|refine ei ?_|(((refine rT ?_;repeat' first|exact hW.nil|refine gt ?_ ?_|refine gc ?_ ?_);(all_goals(try((apply ak;simp;done))))))
      all_goals exact uN
    .rw[al a];refine pq vX.ok rfl (by simp only[dx]) ?_;repeat' first|simp(disch:=simp only[l4];omega) only[dt,simprocAttr,Op.v,Op.c,cw,cP,j]|(first|refine bZ ?_ ?_|refine c8 ?_ ?_)<;>intro h<;>(try simp only[bM,bB]at h)<;>(try simp only[h])<;>(try simp only[jg]at h)<;>try omega|((first|refine i0 l ?_ ?_|refine i0 d ?_ ?_|refine i0 c3 ?_ ?_|refine i0 c4 ?_ ?_|refine i0 p ?_ ?_|refine i0 D ?_ ?_);·simp only[ee]<;>rfl)|refine ei ?_|(((refine rT ?_;repeat' first|exact hW.nil|refine gt ?_ ?_|refine gc ?_ ?_);(all_goals(try((apply ak;simp;done))))))
     all_goals exact uN
   .simp only[al K];have q:=xn _ (v8 A y b);unfold ml at p ⊢
    generalize mE w o b=r at*
    obtain⟨x,f⟩:=r;simp only at p q ⊢
    by_cases a:f=0
    .rw[ax a];by_cases u:fu x=0
     .rw[ax u];refine pq vX.ok rfl (by simp only[dx]) ?_;repeat' first|simp(disch:=simp only[l4];omega) only[dt,simprocAttr,Op.v,Op.c,cw,cP,a,u,j]|(first|refine bZ ?_ ?_|refine c8 ?_ ?_)<;>intro h<;>(try simp only[bB]at h)<;>(try simp only[h])<;>(try simp only[jg]at h)<;>try omega|((first|refine i0 l ?_ ?_|refine i0 d ?_ ?_|refine i0 c3 ?_ ?_|refine i0 c4 ?_ ?_|refine i0 p ?_ ?_);·simp only[ee]<;>rfl)|(refine i0 q ?_ ?_;·simp only[ee]<;>rfl)|refine ei ?_|(((refine rT ?_;repeat' first|exact hW.nil|refine gt ?_ ?_|refine gc ?_ ?_);(all_goals(try(first|with_reducible exact .refl _|(apply ak;simp;done))))))
      all_goals skip
     .rw[al u];refine pq vX.ok rfl (by simp only[dx]) ?_;repeat' first|simp(disch:=simp only[l4];omega) only[dt,simprocAttr,Op.v,Op.c,cw,cP,a,j]|(first|refine bZ ?_ ?_|refine c8 ?_ ?_)<;>intro h<;>(try simp only[bB]at h)<;>(try simp only[h])<;>(try simp only[jg]at h)<;>try omega|((first|refine i0 l ?_ ?_|refine i0 d ?_ ?_|refine i0 c3 ?_ ?_|refine i0 c4 ?_ ?_|refine i0 p ?_ ?_);·simp only[ee]<;>rfl)|(refine i0 q ?_ ?_;·simp only[ee]<;>rfl)|refine ei ?_|(((refine rT ?_;repeat' first|exact hW.nil|refine gt ?_ ?_|refine gc ?_ ?_);(all_goals(try((apply ak;simp;done))))))
      all_goals exact uN
    .rw[al a];refine pq vX.ok rfl (by simp only[dx]) ?_;repeat' first|simp(disch:=simp only[l4];omega) only[dt,simprocAttr,Op.v,Op.c,cw,cP,j]|(first|refine bZ ?_ ?_|refine c8 ?_ ?_)<;>intro h<;>(try simp only[bM,bB]at h)<;>(try simp only[h])<;>(try simp only[jg]at h)<;>try omega|((first|refine i0 l ?_ ?_|refine i0 d ?_ ?_|refine i0 c3 ?_ ?_|refine i0 c4 ?_ ?_|refine i0 p ?_ ?_);·simp only[ee]<;>rfl)|refine ei ?_|(((refine rT ?_;repeat' first|exact hW.nil|refine gt ?_ ?_|refine gc ?_ ?_);(all_goals(try((apply ak;simp;done))))))
     all_goals exact uN
  .rw[al z];unfold ml;by_cases g1:b.mj=true
   .rw[g1]at d;by_cases g4:o=nB o
    .rw[show decide (o=nB o)=true by simpa using g4]at c4;refine pq vX.ok rfl (by simp only[dx]) ?_;repeat' first|simp only[dt,simprocAttr,Op.v,Op.c,j]|refine c8 ?_ ?_<;>intro h<;>(try simp only[bB]at h)<;>(try simp only[h])<;>try simp only[jg]at h|((first|refine i0 l ?_ ?_|refine i0 d ?_ ?_|refine i0 c3 ?_ ?_|refine i0 c4 ?_ ?_);·simp only[ee]<;>rfl)|(((refine rT ?_;repeat' first|exact hW.nil|refine gt ?_ ?_|refine gc ?_ ?_);(all_goals(try((apply ak;simp;done))))))
     all_goals first|exact uN|exact absurd ⟨g1,by omega,by omega,g4⟩ z
    .rw[show decide (o=nB o)=false by simpa using g4]at c4;refine pq vX.ok rfl (by simp only[dx]) ?_;repeat' first|simp only[dt,simprocAttr,Op.v,Op.c,j]|refine c8 ?_ ?_<;>intro h<;>(try simp only[bB]at h)<;>(try simp only[h])<;>try simp only[jg]at h|((first|refine i0 l ?_ ?_|refine i0 d ?_ ?_|refine i0 c3 ?_ ?_|refine i0 c4 ?_ ?_);·simp only[ee]<;>rfl)|(((refine rT ?_;repeat' first|exact hW.nil|refine gt ?_ ?_|refine gc ?_ ?_);(all_goals(try((apply ak;simp;done))))))
     all_goals exact uN
   .rw[show b.mj=false by simpa using g1]at d;refine pq vX.ok rfl (by simp only[dx]) ?_;repeat' first|simp only[dt,simprocAttr,Op.v,Op.c,j]|((first|refine i0 l ?_ ?_|refine i0 d ?_ ?_);·simp only[ee]<;>rfl)|(((refine rT ?_;repeat' first|exact hW.nil|refine gt ?_ ?_|refine gc ?_ ?_);(all_goals(try((apply ak;simp;done))))))
    all_goals exact uN
 .rw[ax (by simpa using j)];unfold ml;refine pq vX.ok rfl (by simp only[dx]) ?_;repeat' first|simp only[dt,simprocAttr,Op.v,Op.c]|refine bZ ?_ ?_<;>intro h<;>(try simp only[h])<;>(try simp only[jg]at h)<;>try omega|(refine i0 l ?_ ?_;·simp only[ee]<;>rfl)|(((refine rT ?_;repeat' first|exact hW.nil|refine gt ?_ ?_|refine gc ?_ ?_);(all_goals(try((apply ak;simp;done))))))
  all_goals exact uN
def takeN(o:Op):Int:=if o.kind=3\/o.kind=4 then 1 else if o.kind=5 then 2 else if o.kind=8 then o.n else 0
def uO(w:cg)(s:fW)(k:Nat):List ID:=(List.range k).map λj:Nat=>((C1 w ⟨s.i9,s.k0,s.idx+j⟩).getD ia).id
def s3(w:cg)(o:Op):List ID:=match ef o.W 0 w.O with
 |none=>[]
 |some j=>uO w (jm (some j)) (takeN o).toNat
def Gz(w:cg)(s:fW)(k:Nat):uO w s (k+1)=uO w s k++[((C1 w ⟨s.i9,s.k0,s.idx+k⟩).getD ia).id]:=by
 unfold uO;rw[dX,az];rfl
def B5(w:cg)(s:fW)(k:Nat):(uO w s k).length=k:=by simp[uO]
def RR(w:cg)(l:w.ok)(o:Op)(A:o.kind=8->o.n<=1000):af 192 [w.v,o.v] (eW (s3 w o)) true:=by
 have d:=vm w o.W l;unfold s3;rcases q:ef o.W 0 w.O with _|⟨v,a,i⟩
 .rw[q]at d;simp only[jm,cG]at d;refine pk f192 ?_ [62];repeat' first|simp(disch:=try exact om) only[gE,simprocAttr,Op.v,Op.c]|(first|refine cz ?_ ?_|refine gz ?_ ?_)<;>intro f h<;>(try simp only[f])<;>try omega|refine lq d ?_|refine ei ?_
  all_goals
   refine sk (bJ:=[]) (λ_:Unit=>True) (λ_=>[(9,I 0,false),(8,.aP,true)]) (λ_=>0) (()) (trivial) ?_;rintro - -
   repeat' first|refine k7 ?_|refine gz ?_ ?_<;>intro f h<;>(try simp only[f])<;>try exact absurd trivial h|apply rJ rfl rfl rfl
   all_goals exact .aP _
 .rw[q]at d;simp only[jm,fg]at d ⊢
  obtain⟨D,H,K,_⟩:=jT q;have L:=((l.2.1 _ (ah D)).2 _ (ah H)).2.1;have P:takeN o<=1000:=by
   unfold takeN;split
   .omega
   .split
    .omega
    .split
     .exact A ‹_›
     .omega
  have u:=B5 w ⟨v,a,i⟩;have r:(takeN o=1/\o.kind=3)\/(takeN o=1/\o.kind=4)\/(takeN o=2/\o.kind=5)\/(takeN o=o.n/\o.kind=8)\/(takeN o=0/\o.kind≠3/\o.kind≠4/\o.kind≠5/\o.kind≠8):=by
   unfold takeN;split<;>(try split)<;>(try split)<;>omega
  generalize Q:takeN o=N at*
  rcases r with⟨p,j⟩|⟨p,j⟩|⟨p,j⟩|⟨p,j⟩|⟨p,j,R,ab,ac⟩
  rotate_right
  .refine pk f192 ?_ [62];repeat' first|simp(disch:=try exact om) only[gE,simprocAttr,Op.v,Op.c]|(first|refine cz ?_ ?_|refine gz ?_ ?_)<;>intro f h<;>(try simp only[f])<;>try omega|refine lq d ?_|refine ei ?_
   refine sk (bJ:=[]) (λk:Nat=>k<=N.toNat) (λk=>[(9,I k,false),(8,eW (uO w ⟨v,a,i⟩ k),true)]) (λk=>N.toNat-k) (0) (aL _) ?_;rintro k r;have y:=u k;have z:=JJ w ⟨v,a,(i:Int)+k⟩ l;rcases fp k N with t|t
   .repeat' first|refine k7 ?_|refine gs ?_ ?_<;>intro h<;>try omega
    all_goals skip
   .obtain rfl:k=N.toNat:=av;repeat any_goals first|simp only[dt,simprocAttr]|(refine c8 (λh=>?_) (λh=>?_))<;>((try simp only[bM]at h);(try simp only[h]);(try simp only[jg]at h);(try omega))|apply rJ rfl rfl rfl
    all_goals exact ak rfl
  all_goals
   refine pk f192 ?_ [62];repeat' first|simp(disch:=try exact om) only[gE,simprocAttr,Op.v,Op.c,j]|refine lq d ?_|refine ei ?_
   refine sk (bJ:=[]) (λk:Nat=>k<=N.toNat) (λk=>[(9,I k,false),(8,eW (uO w ⟨v,a,i⟩ k),true)]) (λk=>N.toNat-k) (0) (aL _) ?_;rintro k r;have y:=u k;have z:=JJ w ⟨v,a,(i:Int)+k⟩ l;rcases fp k N with t|t
   .repeat any_goals first|simp(disch:=try exact om) only[gE,simprocAttr]|refine c8 ?_ ?_<;>intro h<;>(try simp only[bM]at h)<;>(try simp only[h])<;>(try simp only[jg]at h)<;>try omega|(refine⟨k+1,⟨?_⟩,⟨av⟩,?_⟩;rotate_left;focus (simp only[fR,fM,bL,cK];and_intros;all_goals(try(simp only[mR,simprocAttr]));all_goals(try(first|(intro h;cases h;done)|(intro _;(simp;done))|(refine ak (aq I ?_);omega)|((repeat first|with_reducible (first|exact Kept.refl _|refine eF ?_|refine eO ?_|refine eB ?_|refine gy ?_|refine ec ?_)|(with_reducible refine eC ?_ ?_;rotate_left;(simp only[pY,simprocAttr])));done)))))|refine lq z ?_
    all_goals first|omega|exact ak (by rw[Gz,az];rfl)
   .obtain rfl:k=N.toNat:=av;repeat any_goals first|simp only[dt,simprocAttr]|(refine c8 (λh=>?_) (λh=>?_))<;>((try simp only[bM]at h);(try simp only[h]);(try simp only[jg]at h);(try omega))|apply rJ rfl rfl rfl
    all_goals exact ak rfl
def B6(b:Name)(gone:List ID)(x:Int×Int):List cI:=if 0<=x.1/\x.1<gone.length then [⟨gone.getD x.1.toNat ⟨0,0,0⟩,⟨b.J,b.seq,x.2⟩⟩]else []
def pF(gone:List ID)(l:List cI):List cI:=l.filter λx=> !decide (x.from_∈gone)
def vY(o:Op):List (Int×Int):=if o.kind=4 then [(0,0),(0,1)]else if o.kind=5 then [(0,0),(1,0)]else o.cW
def WC(w:cg)(o:Op)(b:Name):List cI×Int:=
 if(qj w o b).2=0 then(kF (pF (s3 w o) (kr w)++(vY o).flatMap (B6 b (s3 w o))),0)else([],(qj w o b).2)
def wB(gone:List ID){l:List cI}{k:Nat}(h:k<l.length):pF gone (l.take (k+1))=if l[k].from_∈gone then pF gone (l.take k)else pF gone (l.take k)++[l[k]]:=by
 unfold pF;rw[br h,gq];split<;>simp[*]
def vp(gone:List ID)(l:List cI)(k:Nat):(pF gone (l.take k)).length<=k:=by
 exact Tl
def GA(b:Name)(gone:List ID)(l:List (Int×Int)):(l.flatMap (B6 b gone)).length<=l.length:=by
 have:=mh (B6 b gone) 1 l (λx _=>by unfold B6;split<;>simp);omega
def Ip(w:cg)(o:Op)(a:o.kind=8->o.n<=1000):(s3 w o).length<=1000:=by
 unfold s3;split
 .simp
 .rw[B5];unfold takeN;split
  .simp
  .split
   .simp
   .split
    .have:=a ‹_›;omega
    .simp
def RS(w:cg)(l:w.ok)(o:Op)(u:o.ok)(R:∀t∈o.F,t.length<=10000)(b:Name)(y:o.kind=8->(qj w o b).2=0->o.n<=1000)(z:o.cW.length<=100000):
 af 141 [w.v,o.v,b.v] (.hJ [hE (WC w o b).1,I (WC w o b).2]):=by
 have q:=J7 w l o u R b;have c3:=QY w l;have E:=u.2.2.2.1;have A:(kr w).length<=(dj w).length:=by
  have h:=sb ((dj w).map λp=>⟨p.id,p.id⟩) _ (an _);rw[bg,au]at h;exact h
 unfold WC;unfold ml at q;by_cases a:(qj w o b).2=0
 .rw[ax a];have ab:=RR w l o (λh=>y h a);have aD:=Ip w o (λh=>y h a);have H:fu w=0:=by
   rcases Decidable.em (fu w=0)with h|h
   .exact h
   .unfold qj at a;rw[ax (by simpa using h)]at a;exact a
  have ac:=(nu l H).2.1;replace A:(kr w).length<=1024:=av;generalize a1:qj w o b=D at*
  obtain⟨x,f⟩:=D;simp only at a q;subst a;generalize a2:s3 w o=G at*
  generalize hS:kr w=L at*
  refine pk f141 ?_;repeat' first|simp(disch:=try exact om) only[gE,simprocAttr,Op.v,Op.c]|refine lq q ?_|refine lq ab ?_|refine lq c3 ?_
  refine sl (λk:Nat=>k<=L.length) (λk=>[(13,I k,false),(11,hE (pF G (L.take k)),true)]) (λk=>L.length-k) (0) (aL _) ?_;rintro k ad;have a0:=vp G L k;rcases am k L.length with d|d
  .have c4:=Va G L[k].from_ av;repeat' first|refine qp ?_|refine cs ?_ ?_<;>intro h<;>try omega|(refine⟨k+1,⟨?_⟩,⟨av⟩,?_⟩;rotate_left;focus (simp only[fR,fM,bL];and_intros;all_goals(try(simp only[mR]));all_goals(try(first|(intro h;cases h;done)|(intro _;(simp;done))|(refine ak (aq I ?_);omega)))))|refine lq c4 ?_|refine ei ?_
   .exact ak (by rw[wB G d,al h,az];rfl)
   .exact d
   .exact ak (by rw[wB G d,ax h])
   .exact d
  rw[aE d];have K:=vp G L L.length;rw[bg]at K;repeat' first|refine k7 ?_|refine cs ?_ ?_<;>intro h<;>try omega
  refine Bw (D:=[14,55,56,57,58,59,60]) (bJ:=[11]) (λ_:Unit=>True) (λ_=>[(14,jz (if o.kind=4 then [(0,0),(0,1)]else o.cW),false)]) rfl rfl (λ_=>rfl) ?_ rfl ?_
  .repeat' first|simp(disch:=omega) only[dt,simprocAttr]|refine cs ?_ ?_<;>intro h|(refine⟨(),⟨?_⟩,?_⟩;rotate_left;focus (simp only[fR,fM,bL];and_intros;all_goals(try(simp only[mR,simprocAttr]));all_goals(try(first|with_reducible exact .refl _|exact Or.inl trivial|(intro h;cases h;done)|((repeat with_reducible (first|exact Kept.refl _|refine eF ?_|refine eO ?_));done)))))
   all_goals skip
  rintro - -
  repeat' simp only[dt,simprocAttr]
  have a3:(vY o).length<=100000:=by
   unfold vY;split
   .simp
   .split
    .simp
    .exact z
  refine Bw (D:=[14,61,62,63,64,65,66]) (bJ:=[11]) (λ_:Unit=>True) (λ_=>[(14,jz (vY o),false)]) rfl rfl (λ_=>rfl) ?_ rfl ?_
  .repeat' first|simp(disch:=omega) only[dt,simprocAttr]|refine cs ?_ ?_<;>intro h|(refine⟨(),⟨?_⟩,?_⟩;rotate_left;focus (simp only[fR,fM,bL];and_intros;all_goals(try(simp only[mR,simprocAttr]));all_goals(try(first|exact Or.inl trivial|(intro h;cases h;done)|((repeat with_reducible (first|exact Kept.refl _|refine eF ?_|refine eO ?_));done)))))
   .exact ak (by unfold vY;rw[al av,ax h];rfl)
   .exact ak (by unfold vY;rw[al h])
  rintro - -
  generalize vY o=P at*
  repeat' simp only[dt,simprocAttr]
  refine sk (bJ:=[]) (λk:Nat=>k<=P.length) (λk=>[(15,I k,false),(11,hE (pF G L++(P.take k).flatMap (B6 b G)),true)]) (λk=>P.length-k) (0) (aL _) ?_;rintro k ad;have r:=GA b G (P.take k);rw[aG]at r;rcases am k P.length with j|j
  .have N:=sM (B6 b G) j;have ai:0<=P[k].1/\P[k].1<G.length->B6 b G P[k]=[⟨G.getD P[k].1.toNat ⟨0,0,0⟩,⟨b.J,b.seq,P[k].2⟩⟩]:=λh=>by unfold B6;rw[ax h]
   have aA:¬(0<=P[k].1/\P[k].1<G.length)->B6 b G P[k]=[]:=λh=>by unfold B6;rw[al h]
   repeat any_goals first|simp(disch:=try exact om) only[dt,simprocAttr,nb]|(first|refine cz ?_ ?_|refine gz ?_ ?_)<;>intro aB h<;>(try simp only[aB])<;>try omega|(refine⟨k+1,⟨?_⟩,⟨av⟩,?_⟩;rotate_left;focus (simp only[fR,fM,bL,cK];and_intros;all_goals(try(simp only[mR,simprocAttr]));all_goals(try(first|(intro h;cases h;done)|(intro _;(simp;done))|(refine ak (aq I ?_);omega)|((repeat first|with_reducible (first|exact Kept.refl _|refine eF ?_|refine eO ?_|refine eB ?_|refine gy ?_|refine ec ?_)|(with_reducible refine eC ?_ ?_;rotate_left;(simp only[pY,simprocAttr])));done)))))|refine ei ?_
   any_goals exact j
   .have aC:P[k].1.toNat<G.length:=av;exact ak (by rw[N,ai ⟨av,av⟩,ap,aa aC,bf,<-aF];simp only[az];rfl)
   all_goals exact ak (by rw[N,aA av,cD])
  .rw[aE j];rw[aE j]at r;have Q:=N3 (pF G L++P.flatMap (B6 b G)) (by rw[ae];omega);simp only[hE,az]at Q;repeat' first|simp only[dt,simprocAttr,az]|refine cs ?_ ?_<;>intro h<;>try omega|refine lq Q ?_|apply rq2 rfl rfl rfl rfl
   all_goals exact ak rfl
 .rw[al a];refine pk f141 ?_;repeat' first|simp(disch:=try exact om) only[gE,simprocAttr,Op.v,Op.c]|refine cs ?_ ?_<;>intro h<;>try omega|refine lq q ?_|apply rq2 rfl rfl rfl rfl
  all_goals first|exact .aP _|exact ak rfl
def k4(a b:ID):tH a b=true↔a.J<b.J\/a.J=b.J/\(a.seq<b.seq\/a.seq=b.seq/\a.k<b.k):=by
 unfold tH;by_cases d:a.J=b.J<;>by_cases f:a.seq=b.seq<;>simp[d,f]
def ID.ext'{a b:ID}(d:a.J=b.J)(h2:a.seq=b.seq)(f:a.k=b.k):a=b:=by
 cases a;cases b;simp_all
def GB(a b:ID):tH a b=true\/a=b\/tH b a=true:=by
 rw[k4,k4];by_cases h:a=b
 .exact .inr (.inl h)
 .have:¬(a.J=b.J/\a.seq=b.seq/\a.k=b.k):=λ⟨d,f,j⟩=>h (ID.ext' d f j);omega
def B7{a b c:ID}(h:tH a b=true)(d:tH b c=true):tH a c=true:=by
 rw[k4]at h d ⊢;omega
def qL(a b:cI):kb a b=true↔tH a.from_ b.from_=true\/a.from_=b.from_/\tH a.to b.to=true:=by
 unfold kb;by_cases h:a.from_=b.from_
 .have d:tH b.from_ b.from_=false:=by rw[<-gw,k4];omega
  simp[h,d]
 .simp[h]
def nv(a b:cI):kb a b=true\/a=b\/kb b a=true:=by
 rw[qL,qL];rcases GB a.from_ b.from_ with h|h|h
 .exact .inl (.inl h)
 .rcases GB a.to b.to with d|d|d
  .exact .inl (.inr ⟨h,d⟩)
  .exact .inr (.inl (by cases a;cases b;simp_all))
  .exact .inr (.inr (.inr ⟨h.symm,d⟩))
 .exact .inr (.inr (.inl h))
def mu(a:cI):kb a a=false:=by
 rw[<-gw,qL,k4,k4];omega
def jN{a b c:cI}(h:kb a b=true)(d:kb b c=true):kb a c=true:=by
 rw[qL]at h d ⊢
 rcases h with h|⟨f,l⟩<;>rcases d with d|⟨j,o⟩
 .exact .inl (B7 h d)
 .exact .inl (j▸h)
 .exact .inl (f▸d)
 .exact .inr ⟨f.trans j,B7 l o⟩
def B8(x:cI):∀(l:List cI)(k:Nat),p5 x k l=p5 x 0 l+k
 |[],k=>by simp[p5]
 |y::r,k=>by
  unfold p5;split
  .rw[B8 x r (k+1),B8 x r (0+1)];omega
  .omega
def yx(y:cI)(r:List cI)(x:cI):pM (y::r) x=if kb y x=true then y::pM r x else if y=x then y::r else x::y::r:=by
 unfold pM;rw[p5];by_cases h:kb y x=true
 .rw[ax h,ax h,B8 x r (0+1),cA,ez];split<;>simp
 .rw[al h,al h];simp
def nk(l:List cI):Prop:=l.Pairwise λa b=>kb a b=true
def GC{l:List cI}{x z:cI}:z∈pM l x↔z=x\/z∈l:=by
 induction l with
 |nil=>simp[pM,p5]
 |cons y r ih=>
  rw[yx];split
  .simp only[bn,ih];constructor
   .rintro(h|h|h)<;>simp[h]
   .rintro(h|h|h)<;>simp[h]
  .split
   next h=>subst h;simp
   .simp
def GD{l:List cI}(h:nk l)(x:cI):nk (pM l x):=by
 induction l with
 |nil=>simp[pM,p5,nk]
 |cons y r ih=>
  obtain⟨j,p⟩:=eu.1 h;rw[yx];split
  next f=>
   refine eu.2 ⟨λz a=>?_,ih p⟩;rcases GC.1 a with rfl|a
   .exact f
   .exact j z a
  next f=>
   split
   .exact h
   next o=>
    have d:kb x y=true:=by
     rcases nv x y with h|h|h
     .exact h
     .exact absurd h.symm o
     .exact absurd h f
    refine eu.2 ⟨λz a=>?_,h⟩;rcases bn.1 a with rfl|a
    .exact d
    .exact jN d (j z a)
def B9(l:List cI):∀a:List cI,nk a->nk (l.foldl pM a)/\∀z,z∈l.foldl pM a↔z∈a\/z∈l:=by
 induction l with
 |nil=>intro a h;exact⟨h,λz=>bT⟩
 |cons x r ih=>
  intro a h;obtain⟨d,f⟩:=ih (pM a x) (GD h x);refine⟨d,λz=>?_⟩;rw[dL,f,GC,bn];exact Ti
def s4(l:List cI):nk (kF l):=(B9 l [] .nil).1
def qk{l:List cI}{z:cI}:z∈kF l↔z∈l:=by
 have:=(B9 l [] .nil).2 z;simpa[kF]using this
def rD:∀{a b:List cI},nk a->nk b->(∀z,z∈a↔z∈b)->a=b
 |[],[],_,_,_=>rfl
 |[],y::s,_,_,h=>by have:=(h y).2 bT;cases this
 |x::r,[],_,_,h=>by have:=(h x).1 bT;cases this
 |x::r,y::s,p,hb,h=>by
  obtain⟨j,q⟩:=eu.1 p;obtain⟨l,t⟩:=eu.1 hb;have o:x=y:=by
   rcases bn.1 ((h x).1 bT)with e|e
   .exact e
   .rcases bn.1 ((h y).2 bT)with f|f
    .exact f.symm
    .have:=jN (l x e) (j y f);rw[mu]at this;cases this
  subst o;congr 1;refine rD q t λz=>?_;constructor
  .intro d;rcases bn.1 ((h z).1 (dw _ d))with e|e
   .subst e;have:=j z d;rw[mu]at this;cases this
   .exact e
  .intro d;rcases bn.1 ((h z).2 (dw _ d))with e|e
   .subst e;have:=l z d;rw[mu]at this;cases this
   .exact e
def zk{a b:List cI}(h:∀z,z∈a↔z∈b):kF a=kF b:=
 rD (s4 a) (s4 b) λz=>by rw[qk,qk];exact h z
def zU{a b:List cI}(d:nk a)(h:∀z,z∈a↔z∈b):a=kF b:=
 rD d (s4 b) λz=>by rw[qk];exact h z
section
variable {α β:Type}[DecidableEq α]
def fN:List (α×β)->α->Option β
 |[],_=>none
 |x::r,a=>if a=x.1 then some x.2 else fN r a
def ke:List (α×β)->α->β->List (α×β)
 |[],a,b=>[(a,b)]
 |x::r,a,b=>if a=x.1 then(a,b)::r else x::ke r a b
def mG(l:List (α×β))(a c:α)(b:β):fN (ke l a b) c=if c=a then some b else fN l c:=by
 induction l with
 |nil=>simp[ke,fN]
 |cons x r ih=>
  unfold ke;split
  next h=>subst h;simp only[fN];split<;>simp_all
  next h=>
   simp only[fN,ih];by_cases d:c=x.1
   .have:c≠a:=λf=>h (f▸d);simp[d];intro j;exact absurd j.symm h
   .simp[d]
def LK(l:List (α×β))(a:α)(b:β):(ke l a b).map (·.1)=if a∈l.map (·.1)then l.map (·.1)else l.map (·.1)++[a]:=by
 induction l with
 |nil=>simp[ke]
 |cons x r ih=>
  unfold ke;split
  next h=>subst h;simp
  next h=>simp only[bt,ih,bn,h,rV];split<;>simp
def Iq{l:List (α×β)}(h:(l.map (·.1)).Nodup)(a:α)(b:β):((ke l a b).map (·.1)).Nodup:=by
 rw[LK];split
 .exact h
 next f=>rw[aO];exact⟨h,bT,λx hx y d e=>by simp at d;subst d;exact f (e▸hx)⟩
def Ca{l:List (α×β)}{a:α}{b:β}(h:fN l a=some b):(a,b)∈l:=by
 induction l with
 |nil=>cases h
 |cons x r ih=>
  unfold fN at h;split at h
  next e=>cases h;subst e;simp
  .exact dw _ (ih h)
end
structure gm where
 fF:List aW
 void:List Name
 bN:cg
 hL:List (cg×List gU)
 next:List (ID×List ID)
 left:List (ID×Name)
def o8(w:cg)(s:fW)(i:Int):ID:=((C1 w ⟨s.i9,s.k0,s.idx+i⟩).getD ia).id
def uP(w:cg)(s:fW)(b:Name)(x:Int×Int):cI:=⟨o8 w s x.1,⟨b.J,b.seq,x.2⟩⟩
def p9(o:Op):List (Int×Int):=if o.kind=4 then [(0,0),(0,1)]else if o.kind=5 then [(0,0),(1,0)]else if o.kind=8 then o.cW else []
def qM(w:cg)(o:Op)(s:fW):List ID:=
 if o.kind=3 then [o8 w s 0]else if o.kind=8 then((List.range o.n.toNat).map λi:Nat=>o8 w s i)++o.cW.map λx=>o8 w s x.1 else(p9 o).map λx=>o8 w s x.1
def LL(w:cg)(o:Op)(b:Name):List cI:=
 let s:=jm (ef o.W 0 w.O)
 kF ((p9 o).map (uP w s b)++pF (qM w o s) (kr w))
def jO(n:List (ID×List ID))(x:cI):List (ID×List ID):=if x.from_=x.to then n else ke n x.from_ ((fN n x.from_).getD []++[x.to])
def ly(w:cg)(b:Name)(n:List (ID×Name))(p:aJ):List (ID×Name):=if(ef p.id 0 w.O).isSome then n else ke n p.id b
def zo(h:gm)(o:Op)(b:Name):gm×Bool:=
 if(qj h.bN o b).2=0 then
  ({h with next:=(LL h.bN o b).foldl jO h.next,left:=(dj h.bN).foldl (ly (qj h.bN o b).1 b) h.left,bN:=(qj h.bN o b).1},true)
 else(h,false)
def uQ(ts:List (T×gU))(s:T):gU:=(fN ts s).getD ⟨[],0,0,[],[]⟩
def D2(l:List T):List T:=l.mergeSort λx y=>decide (x<=y)
def D3(ts:List (T×gU)):List gU:=(D2 (ts.map (·.1))).map (uQ ts)
def J8(h:gm)(ts:List (T×gU))(e:aW):gm×List (T×gU)×Bool:=
 if e.kind=0 then((zo h e.op e.name).1,ts,(zo h e.op e.name).2)
 else if e.kind=1 then
  if h.hL.length=16\/fu h.bN≠0 then(h,ts,false)
  else({h with hL:=h.hL++[(h.bN,D3 ts)]},ts,true)
 else if e.kind=2 then(h,ke ts e.dy.name e.dy,true)
 else(h,ts,(ef e.id 0 h.bN.O).isSome)
def tA(x:gm×List (T×gU))(e:aW):gm×List (T×gU):=
 let r:=J8 {x.1 with fF:=x.1.fF++[e]} x.2 e
 (if r.2.2=true then r.1 else {r.1 with void:=r.1.void++[e.name]},r.2.1)
def rc:gm:=⟨[],[],⟨[]⟩,[],[],[]⟩
def k5(l:List aW):gm:=(l.foldl tA (rc,[])).1
def m4(p:List aW):List (Name×Int):=p.foldl (λm e=>ke m e.name e.eo) []
def m5(p:List aW):List (Int×Int):=p.foldl (λm e=>ke m e.J ((fN m e.J).getD 0+1)) []
def m6(p:List aW):List (Int×Int):=p.foldl (λm e=>ke m e.J e.eo) []
structure qN(p:List aW)(e:aW):Prop where
 new:fN (m4 p) e.name=none
 seq:e.seq=(fN (m5 p) e.J).getD 0
 eo:0< (fN (m5 p) e.J).getD 0->(fN (m6 p) e.J).getD 0<e.eo
 C:∀r∈e.C,∃t,fN (m4 p) r=some t/\t<e.eo
def oz(l:List aW):Prop:=∀k (h:k<l.length),qN (l.take k) l[k]
def RT{l:List aW}{k:Nat}(h:k<l.length):m4 (l.take (k+1))=ke (m4 (l.take k)) l[k].name l[k].eo:=by
 unfold m4;rw[br h,de];rfl
def J9{l:List aW}{k:Nat}(h:k<l.length):m5 (l.take (k+1))=ke (m5 (l.take k)) l[k].J ((fN (m5 (l.take k)) l[k].J).getD 0+1):=by
 unfold m5;rw[br h,de];rfl
def RU{l:List aW}{k:Nat}(h:k<l.length):m6 (l.take (k+1))=ke (m6 (l.take k)) l[k].J l[k].eo:=by
 unfold m6;rw[br h,de];rfl
def Ou(l:List aW):∀k,k<=l.length->∀a,0<=(fN (m5 (l.take k)) a).getD 0/\(fN (m5 (l.take k)) a).getD 0<=k
 |0,_,a=>by simp[m5,fN]
 |k+1,h,a=>by
  have d:=Ou l k av a;have f:=Ou l k av l[k].J;rw[J9 h,mG];split
  .simp only[bf];omega
  .omega
def Mu(e:cg×List gU):V:=.agg [cf e.1.O,oi e.2]
def gC:List (ID×V)->List Nat
 |[]=>[]
 |x::r=>(bI x.2).toList++gC r
def GE(E:aK):List (ID×V)->List (ID×List ID)->Prop
 |[],[]=>True
 |x::r,y::s=>x.1=y.1/\gu 3 E x.2 (y.2.map ID.v)/\GE E r s
 |_,_=>False
def GE.frame{E FF:aK}:∀{N:List (ID×V)} {nx:List (ID×List ID)},GE E N nx->(∀j∈gC N,FF.box j=E.box j)->E.Y<=FF.Y->GE FF N nx
 |[],[],_,_,_=>trivial
 |x::r,y::s,⟨f,l,o⟩,h,d=>⟨f,l.frame (λj a=>h j (by simp[gC,a])) d,GE.frame o (λj a=>h j (by simp[gC,a])) d⟩
 |[],_::_,h,_,_=>h.elim
 |_::_,[],h,_,_=>h.elim
def xA{a:ID}{j:Nat}:∀{N:List (ID×V)},bI (kP N a .aP)=some j->j∈gC N
 |[],h=>by cases h
 |x::r,h=>by
  unfold kP at h;split at h
  .simp[gC,h]
  .exact aU _ (xA h)
def GE.get{E:aK}{a:ID}:∀{N:List (ID×V)} {nx:List (ID×List ID)},GE E N nx->gu 3 E (kP N a .aP) (((fN nx a).getD []).map ID.v)/\zT N a=(fN nx a).isSome
 |[],[],_=>⟨gu.nil,rfl⟩
 |x::r,y::s,⟨d,f,j⟩=>by
  unfold kP fN zT;rw[<-d];split
  .exact⟨f,rfl⟩
  .exact GE.get j
 |[],_::_,h=>h.elim
 |_::_,[],h=>h.elim
def GE.set{E FF:aK}{a:ID}{v':V}{l':List ID}(l:E.Y<=FF.Y)(o:gu 3 FF v' (l'.map ID.v)):∀{N:List (ID×V)} {nx:List (ID×List ID)},GE E N nx->(gC N).Nodup->(∀j∈gC N,bI (kP N a .aP)≠some j->FF.box j=E.box j)->GE FF (jh N a v') (ke nx a l')
 |[],[],_,_,_=>⟨rfl,o,trivial⟩
 |x::r,y::s,⟨p,u,q⟩,z,d=>by
  obtain⟨K,A,t⟩:=aO.1 z;unfold jh ke;rw[<-p];by_cases h:a=x.1
  .rw[ax h,ax h];unfold kP at d;rw[ax h]at d;exact⟨rfl,o,q.frame (λj f=>d j (aU _ f) (λe=>t j (by simp[e]) j f rfl)) l⟩
  .rw[al h,al h];unfold kP at d;rw[al h]at d;refine⟨p,u.frame (λj f=>d j (bV _ (by simp[f])) (λe=>t j (by simp[f]) j (xA e) rfl)) l,GE.set l o q A (λj f D=>d j (aU _ f) D)⟩
 |[],_::_,h,_,_=>h.elim
 |_::_,[],h,_,_=>h.elim
def wC{a:ID}{v':V}{j:Nat}:∀{N:List (ID×V)},j∈gC (jh N a v')->j∈gC N\/bI v'=some j
 |[],h=>by simp[jh,gC]at h;exact .inr h
 |x::r,h=>by
  unfold jh at h;split at h
  .simp only[gC,aN,jD]at h;rcases h with h|h
   .exact .inr h
   .exact .inl (by simp[gC,h])
  .simp only[gC,aN,jD]at h;rcases h with h|h
   .exact .inl (by simp[gC,h])
   .rcases wC h with h|h
    .exact .inl (by simp[gC,h])
    .exact .inr h
def ql(o:Option Nat):o.toList.Nodup:=by cases o<;>simp
def xB{a:ID}{v':V}:∀{N:List (ID×V)},(gC N).Nodup->(∀j,bI v'=some j->j∈gC N->bI (kP N a .aP)=some j)->(gC (jh N a v')).Nodup
 |[],_,_=>by simp only[jh,gC,cD];exact ql _
 |x::r,u,d=>by
  obtain⟨y,q,o⟩:=aO.1 u;unfold jh;unfold kP at d;by_cases h:a=x.1
  .rw[ax h]at d ⊢
   simp only[gC];refine aO.2 ⟨ql _,q,λi l j f e=>?_⟩;subst e;have t:bI v'=some i:=by simpa using l
   have:=d i t (aU _ f);exact o i (by simp[this]) i f rfl
  .rw[al h]at d ⊢
   simp only[gC];refine aO.2 ⟨ql _,xB q (λj f hm=>d j f (aU _ hm)),λi l j f e=>?_⟩;subst e;rcases wC f with p|p
   .exact o i l i p rfl
   .have:=d i p (bV _ l);exact o i l i (xA this) rfl
def yy{α:Type}[DecidableEq α]:∀(l:List (α×V))(a:α)(u v:V),jh (jh l a u) a v=jh l a v
 |[],a,u,v=>by simp[jh]
 |x::r,a,u,v=>by
  by_cases h:a=x.1
  .simp[jh,h]
  .simp[jh,h,yy r a u v]
def gZ{α β:Type}(f:β->V)(l:List (α×β)):List (α×V):=l.map λx=>(x.1,f x.2)
def qm{α β:Type}[DecidableEq α](f:β->V):∀(l:List (α×β))(a:α)(b:β),jh (gZ f l) a (f b)=gZ f (ke l a b)
 |[],a,b=>rfl
 |x::r,a,b=>by
  have ih:=qm f r a b;unfold gZ at ih ⊢
  rw[bt,jh,ke];split
  .rfl
  .rw[ih];rfl
def nK{α β:Type}[DecidableEq α](f:β->V)(z:V):∀(l:List (α×β))(a:α),kP (gZ f l) a z=((fN l a).map f).getD z/\zT (gZ f l) a=(fN l a).isSome
 |[],a=>⟨rfl,rfl⟩
 |x::r,a=>by
  have ih:=nK f z r a;unfold gZ at ih ⊢
  rw[bt,kP,fN,zT];split
  .exact⟨rfl,rfl⟩
  .exact ih
def mQ(dW:Nat)(ev vo ed:V)(N:List (ID×V)):List Nat:=dW::((bI ev).toList++((bI vo).toList++((bI ed).toList++gC N)))
structure HQ(base E:aK)(dW:Nat)(ev vo ed:V)(kH kN:Nat)(N:List (ID×V))(H:gm)(tid:Nat)(ts:List (T×gU)):Prop where
 box:E.box dW=some [ev,vo,cf H.bN.O,ed,.mp kH,.mp kN]
 fe:gu 32 E ev (H.fF.map aW.v)
 fv:gu 2 E vo (H.void.map Name.v)
 fd:gu 2 E ed (H.hL.map Mu)
 nm:E.mp kH=some (.map (fk ID.v N))
 nx:GE E N H.next
 lm:E.mp kN=some (.map (fk ID.v (gZ Name.v H.left)))
 tm:E.mp tid=some (.map (fk S (gZ gU.v ts)))
 nd:(mQ dW ev vo ed N).Nodup
 bd:∀j∈mQ dW ev vo ed N,base.Y<=j/\j<E.Y
 md:kH≠kN/\kH≠tid/\kN≠tid
 mb:(base.Y<=kH/\kH<E.Y)/\(base.Y<=kN/\kN<E.Y)/\base.Y<=tid/\tid<E.Y
 same:bA none base E
section
variable {base E FF:aK}{dW kH kN tid:Nat}{ev vo ed LM LN LO:V}{N:List (ID×V)}{H:gm}{ts:List (T×gU)}
def HQ.mem(Q:HQ base E dW ev vo ed kH kN N H tid ts):(∀i,bI ev=some i->i≠dW)/\(∀i,bI vo=some i->i≠dW/\bI ev≠some i)/\(∀i,bI ed=some i->i≠dW/\bI ev≠some i/\bI vo≠some i)/\(∀i∈gC N,i≠dW/\bI ev≠some i/\bI vo≠some i/\bI ed≠some i)/\(gC N).Nodup:=by
 obtain⟨l,q⟩:=List.nodup_cons.1 Q.nd;obtain⟨y,r,o⟩:=aO.1 q;obtain⟨z,t,p⟩:=aO.1 r;obtain⟨A,u,c3⟩:=aO.1 t;have d:∀i,bI ev=some i->i∈(bI ev).toList:=λi h=>by simp[h]
 have f:∀i,bI vo=some i->i∈(bI vo).toList:=λi h=>by simp[h]
 have j:∀i,bI ed=some i->i∈(bI ed).toList:=λi h=>by simp[h]
 refine⟨λi h e=>l (e▸bV _ (d i h)),λi h=>⟨λe=>l (e▸aU _ (bV _ (f i h))),λa=>o i (d i a) i (bV _ (f i h)) rfl⟩,λi h=>⟨λe=>l (e▸aU _ (aU _ (bV _ (j i h)))),λa=>o i (d i a) i (aU _ (bV _ (j i h))) rfl,λa=>p i (f i a) i (bV _ (j i h)) rfl⟩,λi h=>⟨λe=>l (e▸aU _ (aU _ (aU _ h))),λa=>o i (d i a) i (aU _ (aU _ h)) rfl,λa=>p i (f i a) i (aU _ h) rfl,λa=>c3 i (j i a) i h rfl⟩,u⟩
def vq(o:∀i,bI ev=some i->i≠dW)(h2:∀i,bI vo=some i->i≠dW/\bI ev≠some i)(l:∀i,bI ed=some i->i≠dW/\bI ev≠some i/\bI vo≠some i)(f:∀i∈gC N,i≠dW/\bI ev≠some i/\bI vo≠some i/\bI ed≠some i)(p:(gC N).Nodup):(mQ dW ev vo ed N).Nodup:=by
 refine List.nodup_cons.2 ⟨λh=>?_,aO.2 ⟨ql _,aO.2 ⟨ql _,aO.2 ⟨ql _,p,λi a j d e=>?_⟩,λi a j d e=>?_⟩,λi a j d e=>?_⟩⟩
 .simp only[aN,jD]at h;rcases h with h|h|h|h
  .exact o _ h rfl
  .exact(h2 _ h).1 rfl
  .exact(l _ h).1 rfl
  .exact(f _ h).1 rfl
 .subst e;exact(f i d).2.2.2 (by simpa using a)
 .subst e;simp only[aN,jD]at a d;rcases d with h|h
  .exact(l i h).2.2 a
  .exact(f i h).2.2.1 a
 .subst e;simp only[aN,jD]at a d;rcases d with h|h|h
  .exact(h2 i h).2 a
  .exact(l i h).2.1 a
  .exact(f i h).2.1 a
def dg{j:Nat}:j∈mQ dW ev vo ed N↔j=dW\/bI ev=some j\/bI vo=some j\/bI ed=some j\/j∈gC N:=by
 simp[mQ]
def HQ.left(Q:HQ base E dW ev vo ed kH kN N H tid ts)(a:ID)(b:Name):HQ base (E.eJ kN (fk ID.v (gZ Name.v (ke H.left a b)))) dW ev vo ed kH kN N {H with left:=ke H.left a b} tid ts where
 box:=Q.box
 fe:=Q.fe.frame (λ_ _=>rfl) (an _)
 fv:=Q.fv.frame (λ_ _=>rfl) (an _)
 fd:=Q.fd.frame (λ_ _=>rfl) (an _)
 nm:=by simp only[aK.eJ];rw[bD _ _ Q.md.1];exact Q.nm
 nx:=Q.nx.frame (λ_ _=>rfl) (an _)
 lm:=by simp only[aK.eJ];exact bh _ _ _
 tm:=by simp only[aK.eJ];rw[bD _ _ Q.md.2.2.symm];exact Q.tm
 nd:=Q.nd
 bd:=Q.bd
 md:=Q.md
 mb:=Q.mb
 same:=⟨Q.same.box,λi d=>by simp only[aK.eJ];rw[bD _ _ (by have:=Q.mb.2.1.1;omega)];exact Q.same.mp i d,Q.same.Y⟩
def HQ.dy(Q:HQ base E dW ev vo ed kH kN N H tid ts)(a:T)(b:gU):HQ base (E.eJ tid (fk S (gZ gU.v (ke ts a b)))) dW ev vo ed kH kN N H tid (ke ts a b) where
 box:=Q.box
 fe:=Q.fe.frame (λ_ _=>rfl) (an _)
 fv:=Q.fv.frame (λ_ _=>rfl) (an _)
 fd:=Q.fd.frame (λ_ _=>rfl) (an _)
 nm:=by simp only[aK.eJ];rw[bD _ _ Q.md.2.1];exact Q.nm
 nx:=Q.nx.frame (λ_ _=>rfl) (an _)
 lm:=by simp only[aK.eJ];rw[bD _ _ Q.md.2.2];exact Q.lm
 tm:=by simp only[aK.eJ];exact bh _ _ _
 nd:=Q.nd
 bd:=Q.bd
 md:=Q.md
 mb:=Q.mb
 same:=⟨Q.same.box,λi d=>by simp only[aK.eJ];rw[bD _ _ (by have:=Q.mb.2.2.1;omega)];exact Q.same.mp i d,Q.same.Y⟩
def HQ.lt(Q:HQ base E dW ev vo ed kH kN N H tid ts):dW<E.Y/\(∀i,bI ev=some i->i<E.Y)/\(∀i,bI vo=some i->i<E.Y)/\(∀i,bI ed=some i->i<E.Y)/\∀i∈gC N,i<E.Y:=
 ⟨(Q.bd _ (dg.2 (.inl rfl))).2,λi h=>(Q.bd _ (dg.2 (.inr (.inl h)))).2,λi h=>(Q.bd _ (dg.2 (.inr (.inr (.inl h))))).2,λi h=>(Q.bd _ (dg.2 (.inr (.inr (.inr (.inl h)))))).2,λi h=>(Q.bd _ (dg.2 (.inr (.inr (.inr (.inr h)))))).2⟩
def HQ.RY{nr d:aK}{H':gm}{o:Option Nat}(Q:HQ base E dW ev vo ed kH kN N H tid ts)(hS:bA o E nr)(A:o≠some dW)(r:∀i∈gC N,o≠some i)(t:∀i,i<base.Y->o≠some i)
 (u:gu 32 nr LM (H'.fF.map aW.v)) (fv:gu 2 nr LN (H'.void.map Name.v)) (fd:gu 2 nr LO (H'.hL.map Mu)) (p:∀i,bI LM=some i\/bI LN=some i\/bI LO=some i->i≠dW)
 (hx:H'.next=H.next/\H'.left=H.left) (nd:(mQ dW LM LN LO N).Nodup) (bd:∀j∈mQ dW LM LN LO N,base.Y<=j/\j<nr.Y)
 (tb:d.box=eQ nr.box dW (some [LM,LN,cf H'.bN.O,LO,.mp kH,.mp kN])) (tm:d.mp=nr.mp) (f:d.Y=nr.Y):HQ base d dW LM LN LO kH kN N H' tid ts:=by
 have y:=Q.lt;have z:=hS.Y;have fr:∀j,j≠dW->d.box j=nr.box j:=λj a=>by rw[tb];exact bD _ _ a
 have l:∀j,j<E.Y->d.mp j=E.mp j:=λj a=>by rw[tm];exact hS.mp j a
 refine⟨by rw[tb,bh],u.frame (λj a=>fr j (p j (.inl a))) (c0 f.symm),fv.frame (λj a=>fr j (p j (.inr (.inl a)))) (c0 f.symm),fd.frame (λj a=>fr j (p j (.inr (.inr a)))) (c0 f.symm),by rw[l _ Q.mb.1.2];exact Q.nm,?_,by rw[l _ Q.mb.2.1.2,hx.2];exact Q.lm,by rw[l _ Q.mb.2.2.2];exact Q.tm,nd,λj a=>by rw[f];exact bd j a,Q.md,⟨⟨Q.mb.1.1,by rw[f];have:=Q.mb.1.2;omega⟩,⟨Q.mb.2.1.1,by rw[f];have:=Q.mb.2.1.2;omega⟩,Q.mb.2.2.1,by rw[f];have:=Q.mb.2.2.2;omega⟩,⟨λi q _=>?_,λi q=>?_,?_⟩⟩
 .rw[hx.1];exact Q.nx.frame (λj a=>by rw[fr j (Q.mem.2.2.2.1 j a).1,hS.box j (y.2.2.2.2 j a) (r j a)]) (by rw[f];exact z)
 .have:=Q.same.Y;have D:=(Q.bd dW (dg.2 (.inl rfl))).1;rw[fr i av,hS.box i av (t i q)];exact Q.same.box i q bT
 .have:=Q.same.Y;rw[l i av];exact Q.same.mp i q
 .have:=Q.same.Y;rw[f];omega
def HQ.bN(Q:HQ base E dW ev vo ed kH kN N H tid ts)(w:cg)(tb:FF.box=eQ E.box dW (some [ev,vo,cf w.O,ed,.mp kH,.mp kN]))(tm:FF.mp=E.mp)(a:FF.Y=E.Y):HQ base FF dW ev vo ed kH kN N {H with bN:=w} tid ts:=
 Q.RY (o:=none) (H':={H with bN:=w}) ⟨λ_ _ _=>rfl,λ_ _=>rfl,an _⟩ bT bT bT Q.fe Q.fv Q.fd (λi h=>by
  rcases h with h|h|h
  .exact Q.mem.1 i h
  .exact(Q.mem.2.1 i h).1
  .exact(Q.mem.2.2.1 i h).1) ⟨rfl,rfl⟩ Q.nd Q.bd tb tm a
def HQ.ZM{nr d:aK}{x:aW}(Q:HQ base E dW ev vo ed kH kN N H tid ts)(hS:bA (bI ev) E nr)(hm:gu 32 nr LM (H.fF.map aW.v++[x.v]))(z:bI LM=bI ev\/bI LM=some E.Y)(r:∀i,bI LM=some i->i<nr.Y)
 (tb:d.box=eQ nr.box dW (some [LM,vo,cf H.bN.O,ed,.mp kH,.mp kN])) (tm:d.mp=nr.mp) (A:d.Y=nr.Y):HQ base d dW LM vo ed kH kN N {H with fF:=H.fF++[x]} tid ts:=by
 obtain⟨m1,m2,l,m4,m5⟩:=Q.mem;obtain⟨K,L,t,u,D⟩:=Q.lt;have y:=hS.Y;have f:∀i,bI LM=some i->i≠dW/\bI vo≠some i/\bI ed≠some i/\i∉gC N/\base.Y<=i:=λi h=>by
  rcases z with q|q
  .have p:=q▸h;exact⟨m1 i p,λe=>(m2 i e).2 p,λe=>(l i e).2.1 p,λe=>(m4 i e).2.1 p,(Q.bd i (dg.2 (.inr (.inl p)))).1⟩
  .rw[q]at h;cases h;exact⟨av,λe=>by have:=t _ e;omega,λe=>by have:=u _ e;omega,λe=>by have:=D _ e;omega,Q.same.Y⟩
 refine Q.RY (o:=bI ev) (H':={H with fF:=H.fF++[x]}) hS (λe=>m1 _ e rfl) (λi h=>(m4 i h).2.1) (λi hb e=>by have:=(Q.bd i (dg.2 (.inr (.inl e)))).1;omega) (by rw[az];exact hm)
  (Q.fv.frame (λj a=>hS.box j (t j a) (m2 j a).2) y) (Q.fd.frame (λj a=>hS.box j (u j a) (l j a).2.1) y) (λi h=>?_) ⟨rfl,rfl⟩ (vq (λi h=>(f i h).1) (λi h=>⟨(m2 i h).1,λe=>(f i e).2.1 h⟩) (λi h=>⟨(l i h).1,λe=>(f i e).2.2.1 h,(l i h).2.2⟩) (λi h=>⟨(m4 i h).1,λe=>(f i e).2.2.2.1 h,(m4 i h).2.2⟩) m5) (λj a=>?_) tb tm A
 .rcases h with h|h|h
  .exact(f i h).1
  .exact(m2 i h).1
  .exact(l i h).1
 .rcases dg.1 a with h|h|h|h|h
  .have:=Q.bd j (dg.2 (.inl h));omega
  .exact⟨(f j h).2.2.2.2,r j h⟩
  .exact Uy
  .exact Uu
  .exact PU
def HQ.ZN{nr d:aK}{x:Name}(Q:HQ base E dW ev vo ed kH kN N H tid ts)(hS:bA (bI vo) E nr)(hm:gu 2 nr LN (H.void.map Name.v++[x.v]))(z:bI LN=bI vo\/bI LN=some E.Y)(r:∀i,bI LN=some i->i<nr.Y)
 (tb:d.box=eQ nr.box dW (some [ev,LN,cf H.bN.O,ed,.mp kH,.mp kN])) (tm:d.mp=nr.mp) (A:d.Y=nr.Y):HQ base d dW ev LN ed kH kN N {H with void:=H.void++[x]} tid ts:=by
 obtain⟨m1,m2,l,m4,m5⟩:=Q.mem;obtain⟨K,t,L,u,D⟩:=Q.lt;have y:=hS.Y;have f:∀i,bI LN=some i->i≠dW/\bI ev≠some i/\bI ed≠some i/\i∉gC N/\base.Y<=i:=λi h=>by
  rcases z with q|q
  .have p:=q▸h;exact⟨(m2 i p).1,(m2 i p).2,λe=>(l i e).2.2 p,λe=>(m4 i e).2.2.1 p,(Q.bd i (dg.2 (.inr (.inr (.inl p))))).1⟩
  .rw[q]at h;cases h;exact⟨av,λe=>by have:=t _ e;omega,λe=>by have:=u _ e;omega,λe=>by have:=D _ e;omega,Q.same.Y⟩
 refine Q.RY (o:=bI vo) (H':={H with void:=H.void++[x]}) hS (λe=>(m2 _ e).1 rfl) (λi h=>(m4 i h).2.2.1) (λi hb e=>by have:=(Q.bd i (dg.2 (.inr (.inr (.inl e))))).1;omega) (Q.fe.frame (λj a=>hS.box j (t j a) (λe=>(m2 j e).2 a)) y)
  (by rw[az];exact hm) (Q.fd.frame (λj a=>hS.box j (u j a) (l j a).2.2) y) (λi h=>?_) ⟨rfl,rfl⟩ (vq m1 (λi h=>⟨(f i h).1,(f i h).2.1⟩) (λi h=>⟨(l i h).1,(l i h).2.1,λe=>(f i e).2.2.1 h⟩) (λi h=>⟨(m4 i h).1,(m4 i h).2.1,λe=>(f i e).2.2.2.1 h,(m4 i h).2.2.2⟩) m5) (λj a=>?_) tb tm A
 .rcases h with h|h|h
  .exact m1 i h
  .exact(f i h).1
  .exact(l i h).1
 .rcases dg.1 a with h|h|h|h|h
  .have:=Q.bd j (dg.2 (.inl h));omega
  .have:=Q.bd j (dg.2 (.inr (.inl h)));omega
  .exact⟨(f j h).2.2.2.2,r j h⟩
  .exact Uu
  .exact PU
def HQ.ZO{nr d:aK}{x:cg×List gU}(Q:HQ base E dW ev vo ed kH kN N H tid ts)(hS:bA (bI ed) E nr)(hm:gu 2 nr LO (H.hL.map Mu++[Mu x]))(z:bI LO=bI ed\/bI LO=some E.Y)(r:∀i,bI LO=some i->i<nr.Y)
 (tb:d.box=eQ nr.box dW (some [ev,vo,cf H.bN.O,LO,.mp kH,.mp kN])) (tm:d.mp=nr.mp) (A:d.Y=nr.Y):HQ base d dW ev vo LO kH kN N {H with hL:=H.hL++[x]} tid ts:=by
 obtain⟨m1,m2,f,m4,m5⟩:=Q.mem;obtain⟨K,t,u,L,D⟩:=Q.lt;have y:=hS.Y;have l:∀i,bI LO=some i->i≠dW/\bI ev≠some i/\bI vo≠some i/\i∉gC N/\base.Y<=i:=λi h=>by
  rcases z with q|q
  .have p:=q▸h;exact⟨(f i p).1,(f i p).2.1,(f i p).2.2,λe=>(m4 i e).2.2.2 p,(Q.bd i (dg.2 (.inr (.inr (.inr (.inl p)))))).1⟩
  .rw[q]at h;cases h;exact⟨av,λe=>by have:=t _ e;omega,λe=>by have:=u _ e;omega,λe=>by have:=D _ e;omega,Q.same.Y⟩
 refine Q.RY (o:=bI ed) (H':={H with hL:=H.hL++[x]}) hS (λe=>(f _ e).1 rfl) (λi h=>(m4 i h).2.2.2) (λi hb e=>by have:=(Q.bd i (dg.2 (.inr (.inr (.inr (.inl e)))))).1;omega) (Q.fe.frame (λj a=>hS.box j (t j a) (λe=>(f j e).2.1 a)) y)
  (Q.fv.frame (λj a=>hS.box j (u j a) (λe=>(f j e).2.2 a)) y) (by rw[az];exact hm) (λi h=>?_) ⟨rfl,rfl⟩ (vq m1 m2 (λi h=>⟨(l i h).1,(l i h).2.1,(l i h).2.2.1⟩) (λi h=>⟨(m4 i h).1,(m4 i h).2.1,(m4 i h).2.2.1,λe=>(l i e).2.2.2.1 h⟩) m5) (λj a=>?_) tb tm A
 .rcases h with h|h|h
  .exact m1 i h
  .exact(m2 i h).1
  .exact(l i h).1
 .rcases dg.1 a with h|h|h|h|h
  .have:=Q.bd j (dg.2 (.inl h));omega
  .have:=Q.bd j (dg.2 (.inr (.inl h)));omega
  .exact Uy
  .exact⟨(l j h).2.2.2.2,r j h⟩
  .exact PU
def HQ.next{nr f:aK}{a:ID}{v':V}{l':List ID}(Q:HQ base E dW ev vo ed kH kN N H tid ts)(hS:∀j,j<E.Y->bI (kP N a .aP)≠some j->nr.box j=E.box j)(ac:E.Y<=nr.Y)(hm:gu 3 nr v' (l'.map ID.v))(q:bI v'=bI (kP N a .aP)\/bI v'=some E.Y)(D:∀i,bI v'=some i->i<nr.Y)
 (K:∀i,i≠kH->i<E.Y->nr.mp i=E.mp i) (tb:f.box=nr.box) (tm:f.mp=eQ nr.mp kH (some (.map (fk ID.v (jh N a v'))))) (A:f.Y=nr.Y):HQ base f dW ev vo ed kH kN (jh N a v') {H with next:=ke H.next a l'} tid ts:=by
 obtain⟨m1,m2,ad,m4,m5⟩:=Q.mem;obtain⟨ai,L,P,R,ab⟩:=Q.lt;have old:∀i,bI (kP N a .aP)=some i->i∈gC N:=λi h=>xA h;have r:∀i,bI v'=some i->i≠dW/\bI ev≠some i/\bI vo≠some i/\bI ed≠some i/\base.Y<=i:=λi h=>by
  rcases q with o|o
  .have t:=old i (o▸h);exact⟨(m4 i t).1,(m4 i t).2.1,(m4 i t).2.2.1,(m4 i t).2.2.2,(Q.bd i (dg.2 (.inr (.inr (.inr (.inr t)))))).1⟩
  .rw[o]at h;cases h;exact⟨av,λe=>by have:=L _ e;omega,λe=>by have:=P _ e;omega,λe=>by have:=R _ e;omega,Q.same.Y⟩
 have l:∀j,j<E.Y->bI (kP N a .aP)≠some j->f.box j=E.box j:=λj d u=>by rw[tb];exact hS j d u
 have y:∀j,j≠kH->j<E.Y->f.mp j=E.mp j:=λj d aA=>by rw[tm,bD _ _ d];exact K j d aA
 have p:E.Y<=f.Y:=by rw[A];exact ac
 have z:∀j∈gC (jh N a v'),j∈gC N\/bI v'=some j:=λj h=>wC h;refine⟨by rw[l dW ai (λe=>(m4 _ (old _ e)).1 rfl)];exact Q.box,Q.fe.frame (λj d=>l j (L j d) (λe=>(m4 j (old _ e)).2.1 d)) p,Q.fv.frame (λj d=>l j (P j d) (λe=>(m4 j (old _ e)).2.2.1 d)) p,Q.fd.frame (λj d=>l j (R j d) (λe=>(m4 j (old _ e)).2.2.2 d)) p,by rw[tm,bh],GE.set p (hm.frame (λj _=>by rw[tb]) (c0 A.symm)) Q.nx m5 (λj d u=>l j (ab j d) u),by rw[y kN Q.md.1.symm Q.mb.2.1.2];exact Q.lm,by rw[y tid Q.md.2.1.symm Q.mb.2.2.2];exact Q.tm,vq m1 m2 ad (λi h=>?_) (xB m5 (λj d hm=>?_)),λj d=>?_,Q.md,⟨⟨Q.mb.1.1,by have:=Q.mb.1.2;omega⟩,⟨Q.mb.2.1.1,by have:=Q.mb.2.1.2;omega⟩,Q.mb.2.2.1,by have:=Q.mb.2.2.2;omega⟩,⟨λi q _=>?_,λi q=>?_,?_⟩⟩
 .rcases z i h with h|h
  .exact m4 i h
  .exact⟨(r i h).1,(r i h).2.1,(r i h).2.2.1,(r i h).2.2.2.1⟩
 .rcases q with o|o
  .rw[<-o];exact d
  .rw[o]at d;cases d;exact absurd (ab _ hm) (kv _)
 .rcases dg.1 d with h|h|h|h|h
  .have:=Q.bd j (dg.2 (.inl h));omega
  .have:=Q.bd j (dg.2 (.inr (.inl h)));omega
  .exact Uy
  .exact Uu
  .rcases z j h with h|h
   .exact PU
   .exact⟨(r j h).2.2.2.2,by rw[A];exact D j h⟩
 .have aB:=Q.same.Y;rw[l i av (λe=>by have:=(Q.bd i (dg.2 (.inr (.inr (.inr (.inr (old _ e))))))).1;omega)];exact Q.same.box i q bT
 .have aB:=Q.same.Y;rw[y i (by have:=Q.mb.1.1;omega) av];exact Q.same.mp i q
 .have:=Q.same.Y;omega
end
def qO(w:cg)(v k:Nat):List fW:=(List.range k).map λa:Nat=>⟨v,a,0⟩
def nc(w:cg)(n:Nat):List fW:=(List.range n).flatMap λv=>qO w v (w.O.getD v ⟨[]⟩).O.length
def zq(w:cg)(s:fW)(id:ID)(less:Nat):Nat:=match ef id 0 w.O with
 |some (v,a,_)=>if(v:Int)=s.i9/\(a:Int)=s.k0 then less else 0
 |none=>0
def sh(w:cg)(l:List Int)(k:Int)(id:ID)(less:Nat):fW:=
 let all:=nc w w.O.length
 let s:=all.getD (W l k all.length).toNat ⟨0,0,0⟩
 let n:=(gX w s.i9.toNat s.k0.toNat).O.length-zq w s id less
 ⟨s.i9,s.k0,n-W l (k+1) (n+1)⟩
def GF(w:cg)(v k:Nat):qO w v (k+1)=qO w v k++[⟨v,k,0⟩]:=by unfold qO;rw[dX,az];rfl
def wD(w:cg)(n:Nat)(h:n<w.O.length):nc w (n+1)=nc w n++qO w n w.O[n].O.length:=by
 unfold nc;rw[dX,cx];simp[ap,h]
def yz(w:cg)(a:∀v∈w.O,v.O.length<=64):∀n,n<=w.O.length->(nc w n).length<=64*n
 |0,_=>by simp[nc]
 |n+1,h=>by
  rw[wD w n h,ae];have:=yz w a n av;have:=a _ (ah (show n<w.O.length by omega));simp[qO];omega
def yA(w:cg):∀n,n<=w.O.length->∀s∈nc w n,∃v a:Nat,s=⟨v,a,0⟩/\∃h:v<w.O.length,a<w.O[v].O.length
 |0,_=>by intro s h;simp[nc]at h
 |n+1,h=>by
  intro s d;rw[wD w n h]at d;rcases aN.1 d with d|d
  .exact yA w n av s d
  .simp only[qO,cB,dm]at d;obtain⟨a,f,rfl⟩:=d;exact⟨n,a,rfl,h,f⟩
def Ka(w:cg)(ac:w.fits)(l:List Int)(k:Int)(id:ID)(less:Nat)(p:∀n∈l,jG n)(a5:0<=k/\k<=100000000)(aD:0< (nc w w.O.length).length)(a0:less<=1):
 af 137 [w.v,fq l,I k,id.v,I less] (sh w l k id less).v:=by
 obtain⟨P,_,⟨a6,o⟩,_⟩:=ac;have a1:=yz w o _ (an _);have q:=jk l k (nc w w.O.length).length p av;have ad:=ig l k (nc w w.O.length).length av;have c3:=vm w id P;unfold sh;simp only;obtain⟨A,ai⟩:∃A:Nat,W l k (nc w w.O.length).length=A:=⟨(W l k (nc w w.O.length).length).toNat,av⟩;rw[ai]at q ad ⊢
 have z:A< (nc w w.O.length).length:=av;obtain⟨v,a,r,H,K⟩:=yA w _ (an _) _ (ah z);simp only[bX,ap,aa z,bf];rw[r];simp only[bX];rw[ff H K];refine pk f137 ?_;repeat' simp only[dt,simprocAttr]
 refine sl (λn:Nat=>n<=w.O.length) (λn=>[(12,I n,false),(11,.sl 3 ((nc w n).map fW.v),true)]) (λn=>w.O.length-n) (0) (aL _) ?_;rintro n a7;rcases am n w.O.length with t|t
 .have a8:=o _ (ah t);have a9:=yz w o n av;repeat' first|refine k7 ?_|refine cs ?_ ?_<;>intro h<;>try omega
  refine ns (D:=[11,13,25,26,27,28,29,30,31,32,33,34,35,36,37,38,39,40,41]) (bJ:=[]) (λj:Nat=>j<=w.O[n].O.length) (λj=>[(13,I j,false),(11,.sl 3 ((nc w n++qO w n j).map fW.v),true)]) (λj=>w.O[n].O.length-j) (0) rfl rfl rfl (λ_=>rfl) (aL _) ?_ ?_ ?_;(·((simp only[fR,bL];and_intros;all_goals(try(simp only[mR,simprocAttr]));all_goals(try(first|with_reducible exact .refl _|(intro h;cases h;done)|(intro _;(simp;done))))));all_goals(exact ak (by simp[qO])));(·((simp only[fM];and_intros)));rintro j bi;have bl:(qO w n j).length=j:=by simp[qO]
  rcases am j w.O[n].O.length with Q|Q
  .repeat' first|refine qp ?_|refine cs ?_ ?_<;>intro h<;>try omega|(refine⟨j+1,⟨?_⟩,⟨av⟩,?_⟩;rotate_left;focus (simp only[fR,fM,bL];and_intros;all_goals(try(simp only[mR]));all_goals(try(first|(intro h;cases h;done)|(intro _;(simp;done))|(refine ak (aq I ?_);omega)))))
   .exact ak (by rw[GF,<-aF];simp only[az];rfl)
   .exact Q
  .obtain rfl:j=w.O[n].O.length:=av;repeat' first|refine qp ?_|refine cs ?_ ?_<;>intro h<;>try omega|(refine⟨n+1,⟨?_⟩,⟨av⟩,?_⟩;rotate_left;focus (simp only[fR,fM,bL];and_intros;all_goals(try(simp only[mR]));all_goals(try(first|(intro h;cases h;done)|(intro _;(simp;done))|(refine ak (aq I ?_);omega)))))
   .exact ak (by rw[wD w n t])
   .exact t
 .obtain rfl:n=w.O.length:=av;have L:=p6 w v a ⟨v,a,0⟩ H K rfl rfl;have hlen:=((P.2.1 _ (ah H)).2 _ (ah K)).2.1;rcases f:ef id 0 w.O with _|⟨u,y,bo⟩
  .rw[f]at c3;simp only[jm,cG]at c3;have d:zq w ⟨v,a,0⟩ id less=0:=by unfold zq;rw[f]
   rw[d,hA];have c4:=jk l (k+1) (w.O[v].O[a].O.length+1) p av;have R:=ig l (k+1) (w.O[v].O[a].O.length+1) av;repeat' first|simp(disch:=try exact om) only[gE,simprocAttr,r]|refine cs ?_ ?_<;>intro h<;>try omega|refine lq q ?_|refine lq L ?_|refine lq c3 ?_|refine lq c4 ?_|refine ei ?_|(refine ao nE ?_;refine tS ev rfl ?_)
   all_goals exact .refl _
  .rw[f]at c3;simp only[jm,fg]at c3;obtain⟨a2,a3,a4,_⟩:=jT f;by_cases ab:u=v/\y=a
   .obtain⟨rfl,rfl⟩:=ab;have d:zq w ⟨u,y,0⟩ id less=less:=by unfold zq;rw[f];simp
    rw[d];obtain⟨N,aA⟩:∃N:Nat,w.O[u].O[y].O.length-less=N:=⟨_,rfl⟩;have aB:(w.O[u].O[y].O.length:Int)-less=(N:Int):=av;rw[aA];have c4:=jk l (k+1) (N+1) p av;have R:=ig l (k+1) (N+1) av;repeat' first|simp(disch:=try exact om) only[gE,simprocAttr,r,aB]|refine cs ?_ ?_<;>intro h<;>try omega|refine lq q ?_|refine lq L ?_|refine lq c3 ?_|refine lq c4 ?_|refine ei ?_|(refine ao nE ?_;refine tS ev rfl ?_)
    all_goals exact .refl _
   .have d:zq w ⟨v,a,0⟩ id less=0:=by
     unfold zq;rw[f];simp only;rw[al (λh=>ab ⟨av,av⟩)]
    rw[d,hA];have c4:=jk l (k+1) (w.O[v].O[a].O.length+1) p av;have R:=ig l (k+1) (w.O[v].O[a].O.length+1) av;repeat' first|simp(disch:=try exact om) only[gE,simprocAttr,r]|(first|refine cz ?_ ?_|refine gz ?_ ?_)<;>intro aC h<;>(try simp only[aC])<;>try omega|refine lq q ?_|refine lq L ?_|refine lq c3 ?_|refine lq c4 ?_|refine ei ?_|(refine ao nE ?_;refine tS ev rfl ?_)
    all_goals exact .refl _
end Go.Bx
