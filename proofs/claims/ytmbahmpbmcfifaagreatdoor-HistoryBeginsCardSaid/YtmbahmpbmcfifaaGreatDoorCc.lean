/- Lemmas for HistoryBegins. -/
import Derived.Test.YtmbahmpbmcfifaaGreatDoorCb
import Derived.CallsIn
import Derived.Laws.Externs
import Derived.OrdersIn
import Derived.RangeFuncSeq
import Derived.Scope
import Derived.Sort.LoopGhostIn
import Derived.Test.YtmbahmpbmcfifaaGreatDoorProg
noncomputable section
set_option linter.all false
namespace Go.Bx
open Go.Proofs
section
variable {GL:Nat->Option (List V)}{P:Program}
def aK.Du(h:aK)(id:Nat)(mo:MO):aK:={h with mp:=eQ h.mp id (some mo)}
def aK.vM(h:aK)(mo:MO):aK:={h with mp:=eQ h.mp h.Y (some mo),Y:=h.Y+1}
def aK.wr(h:aK)(id:Nat)(cells:List V)(off:Nat)(vs:List V):aK:=h.set id (aQ cells off vs) (uh (h.fl id) off vs.length)
def aK.cells(h:aK)(id off n:Nat):Option (List V):=
 if n=0 then some []else match h.box id with
  |some cs=>if off+n<=cs.length then some ((cs.drop off).take n)else none
  |none=>none
inductive MX where
 |wn (sz:Nat) (zs:List V) (x y:eL)
 |yW (sz:Nat) (zs:List V) (x y:eL)
 |copy (sz:Nat) (x y:eL)
 |clear (sz:Nat) (zs:List V) (x:eL)
 |jG (x:eL)
 |next (x:eL)
 |entry (x:eL)
 |Wv (sz:Nat) (x y:eL)
 |KY (x y:eL)
 |Tt (sz:Nat) (z:V) (n:Nat) (ps:List (Nat×eL))
def qo(h:aK)(sz:Nat):V->Option (Nat×List V)
 |.sl d f=>if sz=d then some (f.length,(f.map V.cells).flatten)else none
 |.aP=>some (0,[])
 |.ms d id off n _=>if sz=d then(h.cells id off (n*sz)).map λcs=>(n,cs)else none
 |_=>none
def na(sz:Nat):V->Option (Nat×Nat×Nat×Nat)
 |.aP=>some (0,0,0,0)
 |.ms d id off n c=>if sz=d then some (id,off,n,c)else none
 |_=>none
def kn(n:Nat)(zs:List V):List V:=(List.replicate n zs).flatten
def A6(h:aK)(sz:Nat)(zs:List V)(id off n c m:Nat)(src:List V)(Q:V->Bool->aK->Prop):Prop:=
 n+m<=iv/\
  if m=0 then Q (.ms sz id off n c) false h
  else if n+m<=c then∃cells,h.box id=some cells/\off+(n+m)*sz<=cells.length/\Q (.ms sz id off (n+m) c) false (h.wr id cells (off+n*sz) src)
  else∃old,h.cells id off (n*sz)=some old/\∀d,n+m<=d->Q (.ms sz h.Y 0 (n+m) d) false (h.cO (old++src++kn (d-(n+m)) zs))
def ye(h:aK):V->Option (Nat×Nat×Nat×List Nat×List (V×V))
 |.bp id 0=>match h.mp id with
  |some (.walk m n seen)=>match h.mp m with
   |some (.map kvs)=>if kvs.length=n then some (id,m,n,seen,kvs)else none
   |_=>none
  |_=>none
 |_=>none
def Ae(h:aK):V->Bool
 |.bp id 0=>match h.mp id with
  |some (.raw (.mapIter none _ _ _))=>true
  |_=>false
 |_=>false
def FU(h:aK)(sz:Nat):V->V->Prop
 |.aP,.aP|.aP,.sl _ _|.sl _ _,.aP=>True
 |.aP,.ms .. |.ms ..,.aP=>True
 |.ms _ i _ n _,.ms _ k _ m _=>n=0\/m=0\/(i≠k/\(∃c r,h.box i=some (c::r))/\∃c r,h.box k=some (c::r))
 |.sl z d,.ms _ k _ m _|.ms _ k _ m _,.sl z d=>m=0\/d=[]\/(0<z/\∃c r,h.box k=some (c::r))
 |_,_=>False
def HU(l:List UInt8)(c:UInt8):Int:=firstIdx ⟨l.toArray⟩ c
def MX.wp(s:St)(Q:V->Bool->aK->Prop):MX->Prop
 |.wn sz zs x y=>match na sz (s.val x),qo s.E sz (s.val y)with
  |some (id,off,n,c),some (m,src)=>A6 s.E sz zs id off n c m src Q
  |_,_=>False
 |.yW sz zs x y=>match na sz (s.val x),s.val y with
  |some (id,off,n,c),.int .i64 m=>0<=m/\m<=iv/\A6 s.E sz zs id off n c m.toNat (kn m.toNat zs) Q
  |_,_=>False
 |.copy sz x y=>match na sz (s.val x),qo s.E sz (s.val y)with
  |some (id,off,n,_),some (m,src)=>if min m n=0 then Q (.int .i64 0) false s.E
   else∃cells,s.E.box id=some cells/\off+min m n*sz<=cells.length/\Q (.int .i64 (min m n:Nat)) false (s.E.wr id cells off (src.take (min m n*sz)))
  |_,_=>False
 |.clear sz zs x=>match na sz (s.val x)with
  |some (id,off,n,_)=>if n=0 then Q (.hJ []) false s.E
   else∃cells,s.E.box id=some cells/\off+n*sz<=cells.length/\Q (.hJ []) false (s.E.wr id cells off (kn n zs))
  |none=>False
 |.jG x=>match s.val x with
  |.mp id=>∃kvs,s.E.mp id=some (.map kvs)/\Q (.bp s.E.Y 0) false (s.E.vM (.walk id kvs.length []))
  |.qs=>Q (.bp s.E.Y 0) false (s.E.vM (.raw (.mapIter none 0 #[] 0)))
  |_=>False
 |.next x=>if Ae s.E (s.val x)=true then Q (.hJ [.bool false]) false s.E else match ye s.E (s.val x)with
  |some (id,m,n,seen,kvs)=>((∀j,j<n->j∈seen)->Q (.hJ [.bool false]) false s.E)/\
   ∀j u,j∉seen->kvs[j]?=some u->Q (.hJ [.bool true,u.1,u.2]) false (s.E.Du id (.walk m n (seen++[j])))
  |none=>False
 |.entry x=>match ye s.E (s.val x)with
  |some (_,_,_,seen,kvs)=>∃j u,seen.getLast?=some j/\kvs[j]?=some u/\Q (.hJ [u.1,u.2]) false s.E
  |none=>False
 |.Wv sz x y=>FU s.E sz (s.val x) (s.val y)/\Q (.bool false) false s.E
 |.KY x y=>match s.val x,s.val y with
  |.str l,.int .u8 c=>0<=c/\c<256/\Q (.int .i64 (HU l (UInt8.ofNat c.toNat))) false s.E
  |_,_=>False
 |.Tt sz z n d=>match iQ s sz (List.replicate n z) d with
  |some f=>Q (.ms sz s.E.Y 0 n n) false (s.E.cO (f.map V.cells).flatten)
  |none=>False
def Dv{h:aK}{sz:Nat}{zs:List V}{id off n c m:Nat}{src:List V}{Q q:V->Bool->aK->Prop}(f:∀v o E,Q v o E->q v o E)(r:A6 h sz zs id off n c m src Q):A6 h sz zs id off n c m src q:=by
 unfold A6 at*
 refine⟨r.1,?_⟩;have d:=r.2;split at d
 next hm=>rw[ax hm];exact f _ _ _ d
 next hm=>
  rw[al hm];split at d
  next j=>rw[ax j];obtain⟨cs,l,p,u⟩:=d;exact⟨cs,l,p,f _ _ _ u⟩
  next j=>rw[al j];obtain⟨old,l,p⟩:=d;exact⟨old,l,λy t=>f _ _ _ (p y t)⟩
def MX.mono{s:St}{Q d:V->Bool->aK->Prop}(hq:∀v o E,Q v o E->d v o E):∀{m:MX},m.wp s Q->m.wp s d:=by
 intro m h;cases m with
 |wn sz zs x y=>simp only[MX.wp]at*;split at h<;>first|exact Dv hq h|exact h
 |yW sz zs x y=>simp only[MX.wp]at*;split at h<;>first|exact⟨h.1,h.2.1,Dv hq h.2.2⟩|exact h
 |copy sz x y=>
  exact WR
 |clear sz zs x=>
  exact WR
 |jG x=>
  simp only[MX.wp]at*
  split at h
  .obtain⟨kvs,e1,e2⟩:=h;exact⟨kvs,e1,hq _ _ _ e2⟩
  .exact hq _ _ _ h
  .exact h
 |next x=>
  simp only[MX.wp]at*
  split at h
  next hc=>rw[ax hc];exact hq _ _ _ h
  next hc=>
   rw[al hc];split at h
   .exact⟨λe=>hq _ _ _ (h.1 e),λj u e1 e2=>hq _ _ _ (h.2 j u e1 e2)⟩
   .exact h
 |entry x=>
  simp only[MX.wp]at*
  split at h
  .obtain⟨j,u,e1,e2,e3⟩:=h;exact⟨j,u,e1,e2,hq _ _ _ e3⟩
  .exact h
 |Wv sz x y=>simp only[MX.wp]at*;exact⟨h.1,hq _ _ _ h.2⟩
 |KY x y=>simp only[MX.wp]at*;split at h<;>first|exact⟨h.1,h.2.1,hq _ _ _ h.2.2⟩|exact h
 |Tt sz z n f=>simp only[MX.wp]at*;split at h<;>first|exact hq _ _ _ h|exact h
def P5(P:Program)(GL:aj)(hs:List Nat)(o:Oper):Option MX:=
 match o.op with
 |.buildSlice t n parts=>match P.underlying t with
  |some (.slice e)=>match ng P e,Di P e,um GL parts.toList with
   |some sz,some z,some j=>if n*sz<=16777216/\0<sz/\jW sz z=true then some (.Tt sz z n j)else none
   |_,_,_=>none
  |_=>none
 |.range t x=>match P.underlying t with
  |some (.map _ _)=>(eE GL x).map .jG
  |_=>none
 |.next x isS=>if isS then none else(eE GL x).map .next
 |.entry x=>(eE GL x).map .entry
 |.call c=>match c.callee,c.argTypes.toList,c.args.toList with
  |.builtin .append,[t,u],[x,y]=>match P.underlying t,P.underlying u,eE GL x,eE GL y with
   |some (.slice e),some d,some x,some y=>match ng P e,zeroV P e with
    |some (sz+1),some zs=>if 65536<P.bytesOf e\/zs.length≠sz+1 then none else if AQ d=true then some (.yW (sz+1) zs x y)else some (.wn (sz+1) zs x y)
    |_,_=>none
   |_,_,_,_=>none
  |.builtin .copy,t::_,[x,y]=>match P.underlying t,eE GL x,eE GL y with
   |some (.slice e),some x,some y=>match ng P e with
    |some (sz+1)=>some (.copy (sz+1) x y)
    |_=>none
   |_,_,_=>none
  |.builtin .clear,[t],[x]=>match P.underlying t,eE GL x with
   |some (.slice e),some x=>match ng P e,zeroV P e with
    |some (sz+1),some zs=>if zs.length=sz+1 then some (.clear (sz+1) zs x)else none
    |_,_=>none
   |_,_=>none
  |.value (.func f),_,[x,y]=>match P.funcs[f]?,eE GL x,eE GL y with
   |some fn,some x,some y=>
    if fn.body.isNone=true then
     if fn.name=Tryz.f334.name/\fn.origin= "" then some (.KY x y)
     else if fn.name=Tryz.f337.name/\fn.origin= "slices.overlaps" then
      match fn.params.toList with
      |t::_=>match P.underlying t with
       |some (.slice e)=>match ng P e with
        |some (sz+1)=>some (.Wv (sz+1) x y)
        |_=>none
       |_=>none
      |_=>none
     else none
    else none
   |_,_,_=>none
  |_,_,_=>none
 |_=>none
section
variable {g:aY}{s:St}{a:Act}{w:World}{o:Oper}{hs:List Nat}
def A7(GL:aj)(P:Program)(o:Oper)(g:aY)(s:St)(a:Act)(w:World)(Q:V->Bool->aK->Prop):Prop:=
 ∃v bJ j,Q v bJ j/\∃x d f,((execOp a.eval o).run P w=.ok (.value x) d\/((execOp a.eval o).run P w=.ok .skip d/\x=undef))/\Rel GL f (s.cu j) a d/\Step g w f d/\VR f v x/\(bJ=true->∀l,dS f d l v x)
def fJ.nil{g:aY}:fJ g [] []:=⟨rfl,bT⟩
def fJ.append{g:aY}{cs ds:List V}{xs ys:List Value}(h:fJ g cs xs)(p:fJ g ds ys):fJ g (cs++ds) (xs++ys):=by
 refine⟨by simp[h.1,p.1],λj c x f d=>?_⟩;rw[fG]at f d;rw[<-h.1]at d;split at f
 next l=>rw[ax l]at d;exact h.2 j c x f d
 next l=>rw[al l]at d;exact p.2 _ c x f d
def ux{g:aY}{sz:Nat}:∀{xs:List V} {p:List Value},jy g sz xs p->fJ g (xs.map V.cells).flatten p/\(∀c∈(xs.map V.cells).flatten,c.one=true)/\(xs.map V.cells).flatten.length=xs.length*sz
 |[],p,h=>by
  have:p=[]:=by have:=h.len;simpa using this
  subst this;exact⟨.nil,by simp,by simp⟩
 |x::xs,p,h=>by
  have hx:=fb (h.ok 0 x rfl);have hlen:=h.len;simp only[aM,dG]at hlen;have l:jy g sz xs (p.drop sz):=⟨by simp;omega,λi v e=>h.ok (i+1) v (by simpa using e),λi v j c y q d r=>by
   rw[cY]at r;refine h.cell (i+1) v j c y (by simpa using q) d ?_;rw[dG,<-r];congr 1;omega⟩
  obtain⟨t,u,z⟩:=ux l;have E:p=p.take sz++p.drop sz:=(b8 sz p).symm;refine⟨?_,?_,?_⟩
  .rw[E];simp only[bt,dl];refine fJ.append ⟨by rw[hx.1];simp;omega,λj c y q d=>?_⟩ t;rw[dB]at d;split at d
   .exact(h.cell 0 x j c y rfl q (by simpa using d)).1
   .cases d
  .intro c f;simp only[bt,dl,aN]at f;rcases f with f|f
   .exact bO.1 hx.2 c f
   .exact u c f
  .simp only[bt,dl,ae,hx.1,z,aM,dG];omega
def w5(R:Rel GL g s a w){id off n:Nat}{cs:List V}(h:s.E.cells id off n=some cs):(∀c∈cs,c.one=true)/\cs.length=n/\
 ∃ys:List Value,fJ g cs ys/\∀b,g.hb id=some b->∀k,k<n->w.cell? (cl b (off+k))=some (ys.getD k undef):=by
 unfold aK.cells at h;split at h
 next p=>cases h;exact⟨bT,p.symm,[],.nil,λb _ k f=>av⟩
 .split at h
  next cells q=>
   split at h
   next hle=>
    cases h;obtain⟨b,hb,eh⟩:=R.heap.box id cells q;have get:∀(j:Nat) c,((cells.drop off).take n)[j]?=some c->cells[off+j]?=some c/\j<n:=by
     intro j c e;exact Xb
    refine⟨λc r=>?_,by simp;omega,(List.range n).map λk=>(w.cell? (cl b (off+k))).getD undef,⟨by simp;omega,λj c x t l=>?_⟩,λH e k f=>?_⟩
    .obtain⟨j,u⟩:=fZ.1 r;exact(eh.cell _ c (get j c u).1).1
    .obtain⟨z,A⟩:=get j c t;obtain⟨_,y,d,D⟩:=eh.cell _ c z;simp[A,d]at l;subst l;exact D
    .cases (hb.symm.trans e);obtain⟨_,y,d,_⟩:=eh.cell (off+k) cells[off+k] bT;simp[f,d]
   .cases h
  .cases h
def rq{sz n:Nat}{b off c:Nat}{l:Nat}{ys:List Value}(W:World)(f:ys.length=n*sz)(h:∀k,k<n*sz->W.cell? (cl b (off+k))=some (ys.getD k undef)):
 (Builtin.firstCells sz n (.slice (some ⟨b,off,none⟩) l c)).run P W=.ok ys.toArray W:=by
 simp only[Builtin.firstCells];rw[run_loadCells P _ W ⟨b,off,none⟩ (λk=>ys.getD k undef) rfl h];congr 1;apply jI;simp only[lN];apply iU;intro i;simp only[bw];by_cases d:i<n*sz
 .rw[lJ d];simp[ap,show i<ys.length by omega]
 .rw[b1 (by simp;omega),b1 av];rfl
def Ji(R:Rel GL g s a w){sz:Nat}{v:V}{x:Value}{m:Nat}{src:List V}(h:qo s.E sz v=some (m,src))(hx:ER g v x):∃q:List Value,fJ g src q/\(∀c∈src,c.one=true)/\src.length=m*sz/\
 (∀W:World,(Builtin.lenOf x).run P W=.ok m W)/\∀W:World,(∀ad,W.cell? ad=w.cell? ad)->∀k,k<=m->(Builtin.firstCells sz k x).run P W=.ok (q.take (k*sz)).toArray W:=by
 cases v<;>simp only[qo]at h<;>first|(cases h;done)|skip
 next t aD=>
  split at h
  next l=>
   subst l;simp only[co,ek]at h;obtain⟨rfl,rfl⟩:=h;obtain⟨p,u,a0,base,cap,rfl,N,hb,_⟩:=wi (P:=P) R hx;obtain⟨Q,ab,ac⟩:=ux u;refine⟨p,Q,ab,ac,λW=>rfl,λW f k d=>?_⟩;cases base with
   |none=>
    rcases hx.sl with⟨rfl,y⟩|⟨_,_,_,y,_⟩
    .simp at d;subst d;simp[Builtin.firstCells]
    .cases y
   |some ad=>
    obtain⟨hs,ai⟩:=hb ad rfl;have z:k*sz<=p.length:=by rw[u.len];exact cj _ d
    obtain⟨b,off,sp⟩:=ad;simp only at hs;subst hs;refine rq W (by simp;omega) (λj r=>?_);rw[f,R.gF.g3 _ _ _ (ai j p[j] bT)];simp[ap,r,show j<p.length by omega]
  .cases h
 .simp only[co,ek]at h;obtain⟨rfl,rfl⟩:=h;rw[hx.aP];exact⟨[],.nil,bT,bT,λW=>rfl,λW f k d=>by simp[Builtin.firstCells]⟩
 next t id off n c=>
  split at h
  next l=>
   subst l;obtain⟨cs,A,e⟩:=dp h;simp only[ek]at e;obtain⟨rfl,rfl⟩:=e;obtain⟨aA,D,H,K,aB⟩:=w5 R A;refine⟨H,K,aA,D,λW=>?_,λW f k d=>?_⟩
   .rcases hx.ms with⟨b,_,rfl,_⟩|⟨rfl,rfl,p,rfl,L⟩<;>rfl
   .rcases hx.ms with⟨b,hb,rfl,_⟩|⟨rfl,rfl,p,rfl,L⟩
    .have z:k*sz<=m*sz:=cj _ d;have aC:H.length=m*sz:=by rw[<-K.1,D]
     refine rq W (by simp;omega) (λj r=>?_);rw[f,aB b hb j av];simp[ap,r]
    .have:k=0:=av;subst this;exact W9
  .cases h
def Rel.wr(R:Rel GL g s a w){id off b:Nat}{cells vs:List V}{xs:List Value}{w':World}(f:s.E.box id=some cells)(hb:g.hb id=some b)(u:off+vs.length<=cells.length)(d:fJ g vs xs)(y:∀c∈vs,c.one=true)(p:oM w w' b off xs):
 Rel GL g (s.cu (s.E.wr id cells off vs)) a w'/\Step g w g w':=by
 have A:=R.j1 (off:=off) (xs:=xs) (vs:=vs) f hb u d.1.symm (λk v z q D=>⟨y v (bW q),d.2 k v z q D⟩) p;obtain⟨L,r,eh⟩:=R.heap.box id cells f;cases (r.symm.trans hb);refine⟨?_,Step.wrote (ow:=.eh id) p (λk N=>eh.bJ _ (by have:=d.1;omega)) bT bT⟩;have H:=A.same;have e:(s.j1 id off cells vs).cu (s.j1 id off cells vs).E=s.cu (s.E.wr id cells off vs):=by
  simp only[St.cu,St.j1,St.mk.injEq,cK,bL,aK.wr];funext t;simp only[iP];cases s.lk t with
  |none=>rfl
  |some l=>
   cases l with
   |iK i j=>by_cases K:Ab id off vs.length (.iK i j)=true<;>simp[K,PE]
   |_=>simp[Ab,PE]
 rw[<-e];exact H
def HV(R:Rel GL g s a w){id off b:Nat}{cells vs:List V}{xs:List Value}(f:s.E.box id=some cells)(hb:g.hb id=some b)(r:off+vs.length<=cells.length)(d:fJ g vs xs)(l:∀c∈vs,c.one=true):
 ∃w',(storeCells ⟨b,off,none⟩ xs).run P w=.ok () w'/\Rel GL g (s.cu (s.E.wr id cells off vs)) a w'/\Step g w g w':=by
 obtain⟨t,p,eh⟩:=R.heap.box id cells f;obtain rfl:=ar (p.symm.trans hb);have N:=d.1;obtain⟨w',y,z⟩:=oc P xs 0 w ⟨t,off,none⟩ rfl (λx hx=>by
  obtain⟨j,q⟩:=fZ.1 hx;have L:=b0 q;have A:vs[j]?=some vs[j]:=bT;exact((d.2 j _ x A q).one (l _ bT)).2) (λk Q=>by
  have:off+0+k<cells.length:=av;obtain⟨_,u,D,_⟩:=eh.cell (off+0+k) _ (aa this);exact⟨⟨u,D⟩,eh.free _ this⟩)
 obtain⟨H,K⟩:=R.wr (off:=off) f hb r d l z;exact⟨w',y,H,K⟩
def yX(n:Nat)(zs:List V):(kn n zs).length=n*zs.length:=by simp[kn]
def A8{n:Nat}{zs:List V}(h:∀c∈zs,c.one=true):∀c∈kn n zs,c.one=true:=by
 intro c d;simp only[kn,np,l9]at d;obtain⟨l,⟨_,rfl⟩,f⟩:=d;exact h c f
def yf(z:Array Value)(n:Nat)(d:0<z.size):(Builtin.zeroCells z n).toList=(List.replicate n z.toList).flatten:=by
 have:=range_zero n z.size z rfl d;simpa[Builtin.zeroCells]using this
def wo{g:aY}{zs:List V}{z:Value}(d:fJ g zs z.cells.toList)(E:0<zs.length)(n:Nat):fJ g (kn n zs) (Builtin.zeroCells z.cells n).toList:=by
 have f:0<z.cells.size:=by have:=d.1;simp at this;omega
 rw[yf _ _ f];induction n with
 |zero=>exact .nil
 |succ n ih=>
  simp only[kn,fS,dl];exact d.append ih
def A9{g:aY}{sz:Nat}{v:V}{x:Value}{id off n c:Nat}(h:na sz v=some (id,off,n,c))(hx:ER g v x):
 n<=c/\((∃b,g.hb id=some b/\x=.slice (some ⟨b,off,none⟩) n c)\/(n=0/\c=0/\∃p,x=.slice p 0 0/\∀a:Addr,p=some a->a.spot=none)):=by
 cases v<;>simp only[na]at h<;>first|(cases h;done)|skip
 .simp only[co,ek]at h;obtain⟨rfl,rfl,rfl,rfl⟩:=h;exact⟨an _,.inr ⟨rfl,rfl,none,hx.aP,bT⟩⟩
 .split at h
  .simp only[co,ek]at h;obtain⟨rfl,rfl,rfl,rfl⟩:=h;rcases hx.ms with⟨b,j,d,l⟩|⟨rfl,rfl,p,d,f⟩
   .exact⟨l,.inl ⟨b,j,d⟩⟩
   .exact⟨an _,.inr ⟨rfl,rfl,p,d,f⟩⟩
  .cases h
def FV{ts:Array TypeId}{t u e:TypeId}{Q:IntKind}{ty:TypeId}{sz:Nat}{base:Option Addr}{len cap n:Nat}{p:List Value}{zv:Value}
 (h1:ts[0]?=some t) (h2:ts[1]?=some u) (R:P.underlying t=some (.slice e)) (ab:P.underlying u=some (.int Q)) (q:ng P e=some (sz+1)) (H:P.bytesOf e<=65536)
 (K:(P.info? e).bind (·.zero)=some zv) (ac:zv.cells.size=sz+1)
 (hold:¬len+n<=cap->∀W:World,(∀r,W.cell? r=w.cell? r)->(Builtin.firstCells (sz+1) len (.slice base len cap)).run P W=.ok p.toArray W) (y:len+n<=iv):
 (Builtin.append_ ts ty #[.slice base len cap,.int .i64 n]).run P w=
  if len+n<=cap then(AU base (len*(sz+1)) (Builtin.zeroCells zv.cells n).toList (.slice base (len+n) cap)).run P w
  else .ok (.slice (some (cl w.heap.size 0)) (len+n) ((Question.appendCap (len+n) cap e).cut (w.tape w.drawn (.appendCap (len+n) cap e))))
   (w.drew.alloc (.cells (p.toArray++Builtin.zeroCells zv.cells n++Builtin.zeroCells zv.cells ((Question.appendCap (len+n) cap e).cut (w.tape w.drawn (.appendCap (len+n) cap e))-(len+n))) e)):=by
 unfold Builtin.append_;rw[h1,h2];simp only[fy,ey,ez];rw[Sem.run_bind,run_underlying R,Result.andThen_ok];simp only[];rw[Sem.run_bind,fh q,Result.andThen_ok,Sem.run_bind,run_underlying ab,Result.andThen_ok];cases A:P.info? e with
 |none=>simp[ng,A]at q
 |some i=>
  have f:∀W:World,(typeInfo e).run P W=.ok i W:=λW=>by simp[typeInfo,A]
  have Hp:i.bytes<=65536:=by simpa[Program.bytesOf,A]using H
  have D:IntKind.i64.max=9223372036854775807:=du;have N:len+n<=1073741824:=y;have l:IntKind.i64.wrap (n:Int)=n:=by
   exact aaN
  simp only[pure_bind,bP,asInt,asIntOf,l,bM,bK,cH];rw[al av];rw[Sem.run_bind,f,Result.andThen_ok];have ad:n*i.bytes<=1073741824*65536:=oP av Hp;rw[al av];simp only[pure_bind,bX];have j:∀W:World,(if n*(sz+1)=0 then pure #[]else(do let z<-zeroValue e;pure (Builtin.zeroCells z.cells n)):Sem (Array Value)).run P W=.ok (Builtin.zeroCells zv.cells n) W:=by
   intro W;by_cases L:n*(sz+1)=0
   .have:n=0:=by rcases Nat.mul_eq_zero.1 L with h|h<;>omega
    subst this;simp[Builtin.zeroCells]
   .rw[al L,Sem.run_bind,lD K,Result.andThen_ok];rfl
  by_cases d:len+n<=cap
  .rw[ax d,ax d,Sem.run_bind,j,Result.andThen_ok];cases base with
   |none=>rfl
   |some r=>rfl
  .rw[al d,al d];rw[Sem.run_bind,f,Result.andThen_ok,al (by rw[D];omega)];rw[Sem.run_bind,f,Result.andThen_ok];have ai:Builtin.nextslicecap (len+n) cap*i.bytes<=2^48:=by
    exact WX
   rw[al av,Sem.run_bind,run_choose];simp only[Question.forced,bK,cH,Result.andThen_ok];rw[Sem.run_bind,f,Result.andThen_ok,Sem.run_bind,run_askRoom,Result.andThen_ok,Sem.run_bind];rw[show({w with drawn:=w.drawn+1}:World)=w.drew from rfl,hold d w.drew (λ_=>rfl),Result.andThen_ok,Sem.run_bind,j,Result.andThen_ok,Sem.run_bind,lD K,Result.andThen_ok];simp[newRow,cl]<;>rfl
def Jj{e:TypeId}{sz id off n c m:Nat}{zs src:List V}{x:Value}{q zc:List Value}{Q:V->Bool->aK->Prop}{zv:Value}{aC:V}(hb:na (sz+1) aC=some (id,off,n,c))(hx:ER g aC x)(R:Rel GL g s a w)
 (ai:fJ g src q) (aD:∀c∈src,c.one=true) (a0:src.length=m*(sz+1)) (a1:fJ g zs zv.cells.toList) (a2:∀c∈zs,c.one=true) (bv:zs.length=sz+1)
 (f:A6 s.E (sz+1) zs id off n c m src Q)
 (z:∀(base:Option Addr)(p:List Value),x=.slice base n c->(¬n+m<=c->∀W:World,(∀ad,W.cell? ad=w.cell? ad)->(Builtin.firstCells (sz+1) n (.slice base n c)).run P W=.ok p.toArray W)->n+m<=iv->
  (execOp a.eval o).run P w=(if n+m<=c then(AU base (n*(sz+1)) q (.slice base (n+m) c)).run P w
   else .ok (.slice (some (cl w.heap.size 0)) (n+m) ((Question.appendCap (n+m) c e).cut (w.tape w.drawn (.appendCap (n+m) c e))))
    (w.drew.alloc (.cells (p.toArray++q.toArray++Builtin.zeroCells zv.cells ((Question.appendCap (n+m) c e).cut (w.tape w.drawn (.appendCap (n+m) c e))-(n+m))) e))).andThen λv w'=>.ok (.value v) w'):
 A7 GL P o g s a w Q:=by
 obtain⟨ac,u⟩:=A9 hb hx;obtain⟨A,f⟩:=f;have hold:∀{old},s.E.cells id off (n*(sz+1))=some old->∃(base:Option Addr)(p:List Value),x=.slice base n c/\fJ g old p/\(∀c∈old,c.one=true)/\old.length=n*(sz+1)/\∀W:World,(∀ad,W.cell? ad=w.cell? ad)->(Builtin.firstCells (sz+1) n (.slice base n c)).run P W=.ok p.toArray W:=by
  intro old aA;obtain⟨K,H,a7,a3,a8⟩:=w5 R aA;rcases u with⟨b,r,rfl⟩|⟨rfl,rfl,p,rfl,L⟩
  .refine⟨_,a7,rfl,a3,K,H,λW a4=>?_⟩;refine rq W (by rw[<-a3.1,H]) (λj a9=>?_);rw[a4];exact a8 b r j a9
  .simp[aK.cells]at aA;subst aA;refine⟨p,[],rfl,.nil,bT,bT,λW a4=>?_⟩;exact W9
 by_cases hm:m=0
 .subst hm;rw[ax rfl]at f;have a5:q=[]:=by have:=ai.1;rw[a0]at this;exact bH.1 av
  subst a5;have key:∀base,x=.slice base n c->(execOp a.eval o).run P w=.ok (.value (.slice base n c)) w:=by
   intro base N;rw[z base [] N (λh=>absurd ac h) A,ax av];cases base<;>simp[AU,storeCells]
  rcases u with⟨b,r,rfl⟩|⟨rfl,rfl,p,rfl,L⟩
  .exact⟨_,_,_,f,_,w,g,.inl (key _ rfl),R.same,Step.refl g w,.ms _ _ _ _ _ b r ac,bT⟩
  .exact⟨_,_,_,f,_,w,g,.inl (key _ rfl),R.same,Step.refl g w,.FJ _ _ _ _ L,bT⟩
 .rw[al hm]at f;by_cases l:n+m<=c
  .rw[ax l]at f;obtain⟨cells,eh,hle,f⟩:=f;rcases u with⟨b,r,rfl⟩|⟨rfl,rfl,p,rfl,L⟩
   .obtain⟨w',aB,K,H⟩:=HV (P:=P) (off:=off+n*(sz+1)) R eh r (by rw[a0,cn,<-dJ];exact hle) ai aD;refine⟨_,_,_,f,_,w',g,.inl ?_,K,H,.ms _ _ _ _ _ b r l,bT⟩;rw[z _ [] rfl (λh=>absurd l h) A,ax l];simp only[AU,Sem.run_bind];rw[add_eq (a:=⟨b,off,none⟩) rfl];simp only[cl,aB,Result.andThen_ok,Sem.run_pure]
   .omega
  .rw[al l]at f;obtain⟨old,a6,f⟩:=f;obtain⟨base,p,N,bi,bl,bY,bo⟩:=hold a6
   let D:=(Question.appendCap (n+m) c e).cut (w.tape w.drawn (.appendCap (n+m) c e))
   have ab:n+m<=D:=by simp[D,Question.cut]
   have bs:=wo a1 av (D-(n+m));obtain⟨bu,aB,K,H⟩:=Ad (t:=e) (xs:=p.toArray++q.toArray++Builtin.zeroCells zv.cells (D-(n+m))) R.drew (cells:=old++src++kn (D-(n+m)) zs) (by
    simpa using (bi.append ai).append bs) (by
    intro d y;simp only[aN]at y;rcases y with(y|y)|y
    .exact bl d y
    .exact aD d y
    .exact A8 a2 d y)
   refine⟨_,_,_,f D ab,.slice (some (cl w.heap.size 0)) (n+m) D,_,bu,.inl ?_,aB,(Step.drew g w).trans K,?_,bT⟩
   .rw[z base p N (λ_=>bo) A,al l];rfl
   .cases H with|bp _ _ b hb=>exact .ms _ _ _ _ _ _ hb ab
def Ba{m:Sem Value}{x:Value}{w w':World}(h:m.run P w=.ok x w'):(do pure (Next.value (<-m)):Sem Next).run P w=.ok (.value x) w':=by rw[Sem.run_bind,h];rfl
def pd{c:Call}{b:Builtin}{xs:List Operand}{f:Array TypeId->TypeId->Array Value->Sem Value}(hop:o.op=.call c)(j:c.callee=.builtin b)(d:c.args.toList=xs)
 (hb:∀cs ys,builtin b c.argTypes o.type cs ys=(do pure (.value (<-f c.argTypes o.type ys)))):
 (execOp a.eval o).run P w=((f c.argTypes o.type (xs.map a.eval).toArray).run P w).andThen λv w'=>.ok (.value v) w':=by
 unfold execOp;rw[hop];simp only[resolve,j,pure_bind,invoke];have:c.args.map a.eval=(xs.map a.eval).toArray:=by apply jI;simp[<-d]
 rw[this,hb,Sem.run_bind];rfl
def P6{c:Call}{t u e:TypeId}{d:TypeDesc}{x y:Operand}{K J:eL}{sz:Nat}{zs:List V}{Q:V->Bool->aK->Prop}(hop:o.op=.call c)(r:c.callee=.builtin .append)(l:c.argTypes.toList=[t,u])(f:c.args.toList=[x,y])
 (aB:P.underlying t=some (.slice e)) (aC:P.underlying u=some d) (hx:eE GL x=some K) (aD:eE GL y=some J) (L:ng P e=some (sz+1)) (a0:zeroV P e=some zs) (N:∀k,d≠.int k) (ab:P.bytesOf e<=65536) (ac:zs.length=sz+1)
 (j:(MX.wn (sz+1) zs K J).wp s Q) (R:Rel GL g s a w):A7 GL P o g s a w Q:=by
 obtain⟨bi,a1,a2,a3,bl⟩:=og a0 g;have hX:=cv R hx;have a4:=cv R aD;have z:c.argTypes[0]?=some t:=by rw[<-dh,l];rfl
 have A:c.argTypes[1]?=some u:=by rw[<-dh,l];rfl
 simp only[MX.wp]at j;split at j
 next id off n a5 m src hb hs=>obtain⟨q,q1,a6,ad,a7,a8⟩:=Ji (P:=P) R hs a4;have ai:q.take (m*(sz+1))=q:=aE (by rw[<-q1.1,ad];exact an _);refine Jj (e:=e) (zc:=[]) hb hX R q1 a6 ad a2 a3 ac j (λbase p aA hold D=>?_);have H:=wj (ty:=o.type) (p:=p) (q:=q) (base:=base) (len:=n) (cap:=a5) (n:=m) z A aB aC N L ab a1 (a7 w) (λW a9=>by have:=a8 W a9 m (an _);rwa [ai]at this) hold D;rw[pd hop r f (λ_ _=>rfl)];simp only[bt,cV,aA];rw[H]
 .exact j.elim
def M5{c:Call}{t u e:TypeId}{aA:IntKind}{x y:Operand}{K J:eL}{sz:Nat}{zs:List V}{Q:V->Bool->aK->Prop}(hop:o.op=.call c)(q:c.callee=.builtin .append)(l:c.argTypes.toList=[t,u])(j:c.args.toList=[x,y])
 (aB:P.underlying t=some (.slice e)) (aC:P.underlying u=some (.int aA)) (hx:eE GL x=some K) (aD:eE GL y=some J) (L:ng P e=some (sz+1)) (a0:zeroV P e=some zs) (N:P.bytesOf e<=65536) (f:zs.length=sz+1)
 (d:(MX.yW (sz+1) zs K J).wp s Q) (R:Rel GL g s a w):A7 GL P o g s a w Q:=by
 obtain⟨a1,a2,r,ab,a4⟩:=og a0 g;have hX:=cv R hx;have ac:=cv R aD;have z:c.argTypes[0]?=some t:=by rw[<-dh,l];rfl
 have A:c.argTypes[1]?=some u:=by rw[<-dh,l];rfl
 have ad:a1.cells.size=sz+1:=by have:=r.1;rw[f]at this;simpa using this.symm
 simp only[MX.wp]at d;split at d
 next id off n a3 m hb hs=>obtain⟨a5,hm,d⟩:=d;rw[hs]at ac;obtain⟨k,rfl⟩:∃k:Nat,m=k:=⟨m.toNat,av⟩;simp only[bX]at d;refine Jj (e:=e) (zc:=[]) hb hX R (wo r av k) (A8 ab) (by rw[yX,f]) r ab f d (λbase p ai hold D=>?_);have H:=FV (ty:=o.type) (p:=p) (base:=base) (len:=n) (cap:=a3) (n:=k) z A aB aC L N a2 ad hold D;rw[pd hop q j (λ_ _=>rfl)];simp only[bt,cV,ai,ac.int];rw[H]
 .exact d.elim
def P7{c:Call}{t e:TypeId}{ts:List TypeId}{x y:Operand}{N J:eL}{sz:Nat}{Q:V->Bool->aK->Prop}(hop:o.op=.call c)(H:c.callee=.builtin .copy)(ab:c.argTypes.toList=t::ts)(A:c.args.toList=[x,y])
 (aA:P.underlying t=some (.slice e)) (hx:eE GL x=some N) (aB:eE GL y=some J) (ac:ng P e=some (sz+1))
 (f:(MX.copy (sz+1) N J).wp s Q) (R:Rel GL g s a w):A7 GL P o g s a w Q:=by
 have hX:=cv R hx;have aC:=cv R aB;have K:c.argTypes[0]?=some t:=by rw[<-dh,ab];rfl
 simp only[MX.wp]at f;split at f
 next id off n aD m src hb hs=>
  obtain⟨a8,r⟩:=A9 hb hX;obtain⟨q,q1,a0,a1,a2,a3⟩:=Ji (P:=P) R hs aC;have j:∀(base:Option Addr)(l:World),a.eval x=.slice base n aD->(match base with|some ad=>(storeCells ad (q.take (min m n*(sz+1)))).run P w=.ok () l|none=>l=w)->(execOp a.eval o).run P w=.ok (.value (goInt (min m n:Nat))) l:=by
   intro base l d u;rw[pd hop H A (λ_ _=>rfl)];simp only[bt,cV,d];unfold Builtin.copy_;rw[K];simp only[fy,ey,ez];rw[Sem.run_bind,run_underlying aA,Result.andThen_ok];simp only[];rw[Sem.run_bind,a2,Result.andThen_ok,Sem.run_bind,fh ac,Result.andThen_ok,Sem.run_bind];have L:Nat.min m n=min m n:=rfl;rw[L,a3 w (λ_=>rfl) _ (lX _ _),Result.andThen_ok];cases base with
   |none=>simp only at u;subst u;rfl
   |some ad=>simp only at u;simp only[Sem.run_bind,lN,u,Result.andThen_ok,Sem.run_pure]
  split at f
  next z=>
   refine⟨_,_,_,f,goInt (min m n:Nat),w,g,.inl ?_,R.same,Step.refl g w,by rw[z];exact .int _ _,bT⟩;rcases r with⟨b,D,d⟩|⟨rfl,rfl,p,d,ai⟩
   .exact j _ w d (by simp[z,storeCells])
   .refine j p w d ?_;cases p<;>simp[z,storeCells]
  next z=>
   obtain⟨cells,eh,hle,f⟩:=f;rcases r with⟨b,D,d⟩|⟨rfl,rfl,p,d,ai⟩
   .have a9:min m n*(sz+1)<=src.length:=by rw[a1];exact cj _ (lX _ _)
    obtain⟨l,a4,a5,a6⟩:=HV (P:=P) (off:=off) R eh D (vs:=src.take (min m n*(sz+1))) (xs:=q.take (min m n*(sz+1))) (by simp;omega) (q1.take _) (λc a7=>a0 c (dQ a7));exact⟨_,_,_,f,_,l,g,.inl (j _ l d a4),a5,a6,.int _ _,bT⟩
   .simp at z
 .exact f.elim
def M6{c:Call}{t e:TypeId}{x:Operand}{H:eL}{sz:Nat}{zs:List V}{Q:V->Bool->aK->Prop}(hop:o.op=.call c)(A:c.callee=.builtin .clear)(K:c.argTypes.toList=[t])(u:c.args.toList=[x])
 (ad:P.underlying t=some (.slice e)) (hx:eE GL x=some H) (ai:zeroV P e=some zs) (L:zs.length=sz+1)
 (j:(MX.clear (sz+1) zs H).wp s Q) (R:Rel GL g s a w):A7 GL P o g s a w Q:=by
 obtain⟨N,aA,aB,aC,a4⟩:=og ai g;have hX:=cv R hx;have D:c.argTypes[0]?=some t:=by rw[<-dh,K];rfl
 simp only[MX.wp]at j;split at j
 next id off n aD hb=>
  obtain⟨a3,r⟩:=A9 hb hX;have q:∀(base:Option Addr)(l:World),a.eval x=.slice base n aD->(match base with|some ab=>if n=0 then l=w else(storeCells ab (Builtin.zeroCells N.cells n).toList).run P w=.ok () l|none=>l=w)->(execOp a.eval o).run P w=.ok (.value (.tuple #[])) l:=by
   intro base l d f;rw[pd hop A u (λ_ _=>rfl)];simp only[bt,cV,d];unfold Builtin.clear_;rw[D];simp only[fy,ey];rw[Sem.run_bind,run_underlying ad,Result.andThen_ok];cases base with
   |none=>simp only at f;subst f;rfl
   |some ab=>
    cases n with
    |zero=>simp only[bP]at f;subst f;rfl
    |succ n=>
     simp only[Nat.succ_ne_zero,cH]at f;simp only[Sem.run_bind,lD aA,Result.andThen_ok,f,Sem.run_pure]
  split at j
  next y=>
   refine⟨_,_,_,j,_,w,g,.inl ?_,R.same,Step.refl g w,.hJ [] #[] rfl bT,bT⟩;rcases r with⟨b,z,d⟩|⟨rfl,rfl,p,d,ac⟩
   .exact q _ w d (by simp[y])
   .refine q p w d ?_;cases p<;>simp
  next y=>
   obtain⟨cells,eh,hle,j⟩:=j;rcases r with⟨b,z,d⟩|⟨rfl,rfl,p,d,ac⟩
   .obtain⟨l,a0,a1,a2⟩:=HV (P:=P) (off:=off) R eh z (vs:=kn n zs) (xs:=(Builtin.zeroCells N.cells n).toList) (by rw[yX,L];exact hle) (wo aB av n) (A8 aC);exact⟨_,_,_,j,_,l,g,.inl (q _ l d (by simp only[al y];exact a0)),a1,a2,.hJ [] #[] rfl bT,bT⟩
   .exact absurd rfl y
 .exact j.elim
def l3(w:World)(b:Nat)(ob:Obj):World:={w with heap:=w.heap.setIfInBounds b ob}
section l3
variable {b:Nat}{ob pc:Obj}
def zZ(hb:w.heap[b]?=some ob):(l3 w b pc).heap[b]?=some pc:=by
 have:b<w.heap.size:=(cF.1 hb).1;simp[l3,this]
def kx{d:Nat}(h:d≠b):(l3 w b pc).heap[d]?=w.heap[d]?:=by
 simp only[l3,kj (hY h)]
def vg(hb:w.heap[b]?=some ob)(hi:u9 ob=false)(hi':u9 pc=false)(b' o:Nat):(l3 w b pc).cell? (cl b' o)=w.cell? (cl b' o):=by
 unfold World.cell?;exact WT
def q2(hb:w.heap[b]?=some ob)(hi:u9 ob=false)(hi':u9 pc=false)(b' o:Nat):(l3 w b pc).frozen? (cl b' o)=w.frozen? (cl b' o):=by
 unfold World.frozen?;exact WT
def r1:(l3 w b pc).heap.size=w.heap.size:=by simp[l3]
def Rel.l3(R:Rel GL g s a w){id:Nat}{Ww:MO}(hb:w.heap[b]?=some ob)(ac:u9 ob=false)(A:u9 pc=false)(p:g.bJ b 0=.oO id)(dW:g.hb id=some b)(hm:MR g Ww pc):
 Rel GL g (s.cu (s.E.Du id Ww)) a (l3 w b pc)/\Step g w g (l3 w b pc):=by
 have z:=vg (pc:=pc) hb ac A;have L:=q2 (pc:=pc) hb ac A;have eh:∀{d:Nat} {ow:eT} {cells:List V},fQ g w d ow cells->fQ g (Bx.l3 w b pc) d ow cells:=λh=>
  ⟨h.mf,λj u ad=>let⟨r,x,f,N⟩:=h.cell j u ad;⟨r,x,by rw[z];exact f,N⟩,λj=>by rw[L];exact h.kl j⟩
 have y:∀{l:Loc} {v:V} {x:Value},dS g w l v x->dS g (Bx.l3 w b pc) l v x:=by
  intro l v x h sz ai aA len cap aB hx k r f;obtain⟨t,⟨u,H⟩,Q⟩:=h sz ai aA len cap aB hx k r f;exact⟨t,⟨u,by rw[z];exact H⟩,by rw[L];exact Q⟩
 refine⟨R.yb (.refl g) rfl ⟨R.gF.kp,λd o x e=>by rw[z];exact R.gF.g3 d o x e,λd ab e=>?_,λd o e=>by rw[r1];exact R.gF.ir d o e,R.gF.kB⟩
  ⟨λi cs e=>let⟨d,r,f⟩:=R.heap.box i cs e;⟨d,r,eh f⟩,λi cs j u d x t H Q aC aD=>y (R.heap.tail i cs j u d x t H Q aC (by rw[<-z];exact aD)),λi a0 e=>?_,R.heap.Y⟩ eh (λ_ _=>z _ _) (λ_ h=>y h) (λD t H=>⟨t,by rw[kx (by rintro rfl;rw[p]at t;cases t)];exact H⟩),⟨λ_ _ _ e=>e,λ_ _ e=>e,λ_ _ e=>e,λd o e=>⟨e,z _ _,L _ _⟩,λd a4 e _ hm=>?_,λ_ _ e _=>e,by rw[r1];exact an _,⟨rfl,rfl,rfl,λ_=>an _⟩,λd _ e=>kx (by rintro rfl;rcases e 0 with q|⟨x,q⟩<;>rw[q]at p<;>cases p)⟩⟩
 .have:d≠b:=by rintro rfl;rw[p]at e;cases e
  rw[kx this];exact R.gF.eY d ab e
 .by_cases K:i=id
  .subst K;simp only[aK.Du,bh]at e;cases e;exact⟨b,pc,dW,p,zZ hb,A,hm⟩
  .simp only[aK.Du,bD _ _ K]at e;obtain⟨d,a1,r,f,N,a2,a3⟩:=R.heap.map i a0 e;have:d≠b:=by rintro rfl;rw[p]at f;injection f with f;exact K f.symm
   exact⟨d,a1,r,f,by rw[kx this];exact N,a2,a3⟩
 .have:d≠b:=by rintro rfl;rw[p]at e;cases e
  rw[kx this];exact hm
def r2{P:Program}(hb:w.heap[b]?=some ob)(d:u9 ob=false):(getObj b).run P w=.ok ob w:=by
 cases ob<;>first|(simp[u9]at d;done)|simp[getObj,Sem.run,hb]
def M7{P:Program}(hb:w.heap[b]?=some ob)(d:u9 ob=false):(setObj b pc).run P w=.ok () (Bx.l3 w b pc):=by
 cases ob<;>first|(simp[u9]at d;done)|simp[setObj,Sem.run,hb,Bx.l3]
end l3
def HR.vM{h:aK}(hh:HR g h w){b:Nat}{mo:MO}{ob:Obj}(f:g.bJ b 0=.oO h.Y)(hb:w.heap[b]?=some ob)(l:u9 ob=false)(hm:MR g mo ob):HR (g.w2 h.Y b) (h.vM mo) w where
 box id cs e:=by
  exact WZ
 tail id cs j c b' x e1 e2 e3 e4 e5:=by
  exact Xo
 map id kvs e:=by
  by_cases d:id=h.Y
  .subst d;simp only[aK.vM,bh]at e;cases e;exact⟨b,_,oV,f,hb,l,hm.mono (m9 (hh.Y _ (an _)))⟩
  .simp only[aK.vM,bD _ _ d]at e;obtain⟨b',o,h1,h2,p,q,r⟩:=hh.map id kvs e;exact⟨b',o,by rw[mU d];exact h1,h2,p,q,r.mono (m9 (hh.Y _ (an _)))⟩
 Y id e:=by
  simp only[aK.vM]at e;rw[mU av];exact hh.Y id av
def M8(R:Rel GL g s a w){mo:MO}{ob:Obj}(j:u9 ob=false)(hm:MR g mo ob):
 ∃g',Rel GL g' (s.cu (s.E.vM mo)) a (w.alloc ob)/\Step g w g' (w.alloc ob)/\g'.hb s.E.Y=some w.heap.size/\g'.bJ w.heap.size 0=.oO s.E.Y:=by
 let ow:Nat->eT:=λ_=>.oO s.E.Y
 have d:Rel GL (g.block w.heap.size ow) s a (w.alloc ob):=R.alloc (λo x e=>by simp only[ow]at e;cases e) (λob e=>by simp only[ow]at e;cases e);have l:Step g w (g.block w.heap.size ow) (w.alloc ob):=Step.alloc R.gF;have f:(g.block w.heap.size ow).hb s.E.Y=none:=d.heap.Y _ (an _);exact⟨_,d.yb (m9 f) rfl (yc f d.gF) (d.heap.vM (aY.eI _ _ _ _) (wU _ _) j (hm.mono R.gF.mT)) (qc f) (λ_ _=>rfl) (λ_ h=>h) (λ_ p q=>⟨p,q⟩),l.trans (wk f),oV,by show(g.block w.heap.size ow).bJ w.heap.size 0=_;exact aY.eI _ _ _ _⟩
def ER.mp'{id:Nat}{x:Value}(h:ER g (.mp id) x):∃b,g.hb id=some b/\x=.map (some b):=by
 cases h with|mp _ b h=>exact⟨b,h,rfl⟩
def ER.qs{x:Value}(h:ER g .qs x):x=.map none:=by cases h;rfl
def UH{t k e:TypeId}{x:Operand}{r:eL}{Q:V->Bool->aK->Prop}(hop:o.op=.range t x)(u:P.underlying t=some (.map k e))(hx:eE GL x=some r)
 (d:(MX.jG r).wp s Q) (R:Rel GL g s a w):A7 GL P o g s a w Q:=by
 have hX:=cv R hx;simp only[MX.wp]at d;split at d
 next id f=>
  rw[f]at hX;obtain⟨kvs,hm,d⟩:=d;obtain⟨b,hb,y⟩:=hX.mp';obtain⟨z,ob,D,ab,H,K,ac,c,rfl,A⟩:=R.heap.map id _ hm;obtain rfl:=ar (D.symm.trans hb);have L:c=kvs.length:=by rw[A.MI,A.len]
  obtain⟨j,l,p,q,N⟩:=M8 (mo:=.walk id kvs.length []) (ob:=.mapIter (some z) kvs.length #[] kvs.length) R rfl ⟨z,hb,rfl⟩;refine⟨_,_,_,d,.pointer (some ⟨w.heap.size,0,none⟩),_,j,.inl ?_,l,p,.bp _ _ _ q,bT⟩;unfold execOp;rw[hop];refine Ba ?_;rw[y];simp only[Instr.range,Sem.run_bind,run_underlying u,Result.andThen_ok,r2 H K,Sem.run_pure,run_newObj,L];rfl
 next f=>rw[f]at hX;obtain⟨j,l,p,q,N⟩:=M8 (mo:=.raw (.mapIter none 0 #[] 0)) (ob:=.mapIter none 0 #[] 0) R rfl rfl;refine⟨_,_,_,d,.pointer (some ⟨w.heap.size,0,none⟩),_,j,.inl ?_,l,p,.bp _ _ _ q,bT⟩;unfold execOp;rw[hop];refine Ba ?_;rw[hX.qs];simp only[Instr.range,Sem.run_bind,run_underlying u,Result.andThen_ok,Sem.run_pure,run_newObj];rfl
 .exact d.elim
def Dw(R:Rel GL g s a w){v:V}{x:Value}{id m n:Nat}{seen:List Nat}{kvs:List (V×V)}(h:ye s.E v=some (id,m,n,seen,kvs))(hx:ER g v x):
 s.E.mp id=some (.walk m n seen)/\s.E.mp m=some (.map kvs)/\kvs.length=n/\∃b d es,x=.pointer (some ⟨b,0,none⟩)/\g.hb id=some b/\g.bJ b 0=.oO id/\w.heap[b]?=some (.mapIter (some d) n seen.toArray n)/\
  g.hb m=some d/\w.heap[d]?=some (.map es n)/\wS g kvs es n:=by
 unfold ye at h;split at h
 next ab=>
  split at h
  next ai u t j=>
   split at h
   next y l=>
    split at h
    next p=>
     simp only[co,ek]at h;obtain⟨rfl,rfl,rfl,rfl,rfl⟩:=h;obtain⟨b,hb,q⟩:=hx.bp;obtain⟨z,ac,A,D,H,aA,d,r,rfl⟩:=R.heap.map _ _ j;obtain rfl:=ar (A.symm.trans hb);obtain⟨K,ad,L,aB,N,aC,es,c,rfl,f⟩:=R.heap.map _ _ l;obtain rfl:=ar (L.symm.trans r);have Q:c=u:=by rw[f.MI,f.len,p]
     subst Q;exact⟨j,l,p,z,K,es,q,hb,D,H,r,N,f⟩
    .cases h
   .cases h
  .cases h
 .cases h
def P8{x:Operand}{bs:eL}{Q:V->Bool->aK->Prop}(hop:o.op=.next x false)(hx:eE GL x=some bs)
 (L:(MX.next bs).wp s Q) (R:Rel GL g s a w):A7 GL P o g s a w Q:=by
 have hX:=cv R hx;have a5:∀bu,VR bu (.hJ [.bool false]) (.tuple #[.bool false]):=λbu=>.hJ _ _ rfl (λj c y a3 a9=>by
  cases j with
  |zero=>simp at a3 a9;subst a3 a9;exact .bool _
  |succ j=>simp at a3)
 simp only[MX.wp]at L;split at L
 next D=>
  unfold Ae at D;split at D
  next id ch=>
   rw[ch]at hX;split at D
   next p q r hm=>obtain⟨b,hb,aA⟩:=hX.bp;obtain⟨dr,c9,t,N,ci,cp,rfl⟩:=R.heap.map _ _ hm;cases (t.symm.trans hb);refine⟨_,_,_,L,_,w,g,.inl ?_,R.same,Step.refl g w,a5 g,bT⟩;unfold execOp;rw[hop];refine Ba ?_;rw[aA];simp only[Instr.next,Sem.run_bind,r2 ci cp,Result.andThen_ok,Sem.run_pure]
   .cases D
  .cases D
 .split at L
  next id m n seen kvs c1=>
   obtain⟨a3,a9,bv,b,a4,d,aA,hb,c2,a6,bY,oO,H⟩:=Dw R c1 hX
   let left:=d.filter λe=> !seen.toArray.contains e.born
   have aB:∀(j:Nat) e,d[j]?=some e->e.born<n:=by
    intro j e u;rw[H.born j e u,<-bv,<-H.len];exact(cF.1 u).1
   have hold:left.filter (λe=>decide (e.born<n))=left:=by
    rw[Array.filter_eq_self];intro e u;obtain⟨K,_⟩:=lh.1 u;obtain⟨j,aC,rfl⟩:=gV.1 K;exact dk (aB j _ bT)
   have bi:left.filter (λe=>decide (e.born>=n))=#[]:=by
    rw[Array.filter_eq_empty_iff];intro e u;obtain⟨K,_⟩:=lh.1 u;obtain⟨j,aC,rfl⟩:=gV.1 K;have:=aB j d[j] bT;simp;omega
   have aD:(!seen.toArray.isEmpty&& !d.isEmpty&&d.all λe=>decide (e.born>=n))=false:=by
    by_cases u:d.isEmpty=true
    .simp[u]
    .have ab:0<d.size:=by
      rcases cZ d.size with ac|ac
      .exact absurd (by simp[Array.isEmpty,ac]) u
      .exact ac
     have:(d.all λe=>decide (e.born>=n))=false:=by
      rw[Array.all_eq_false];refine⟨0,ab,?_⟩;have:=aB 0 d[0] bT;simp;omega
     rw[this];simp
   let f:Array (Option MapEntry):=(if left.isEmpty then #[none]else #[])++(left++ #[]).map some
   obtain⟨idx,z,b2,a0,hidx⟩:∃idx z,(choose (.mapNext f.size)).run P w=.ok idx z/\(z=w\/z=w.drew)/\(0<f.size->idx<f.size):=by
    rw[run_choose];split
    .exact⟨0,w,rfl,.inl rfl,λh=>h⟩
    .exact⟨_,w.drew,rfl,.inr rfl,λh=>fI _ h⟩
   have b3:Rel GL g s a z:=by
    rcases a0 with rfl|rfl
    .exact R
    .exact R.drew
   have b5:Step g w g z:=by
    rcases a0 with rfl|rfl
    .exact Step.refl g _
    .exact Step.drew g w
   have a1:z.heap[b]?=some (.mapIter (some a4) n seen.toArray n):=by rcases a0 with rfl|rfl<;>exact a6
   have a2:∀x,f[idx]?=some x->∀r bl,(match x with
    |some e=>(do setObj b (.mapIter (some a4) n (seen.toArray.push e.born) n);pure (.tuple #[.bool true,e.key,e.val]):Sem Value)
    |none=>pure (.tuple #[.bool false])).run P z=.ok r bl->(execOp a.eval o).run P w=.ok (.value r) bl:=by
    intro x hx r bl c5;unfold execOp;rw[hop];refine Ba ?_;rw[aA];simp only[Instr.next,Sem.run_bind,r2 a6 rfl,r2 oO rfl,Result.andThen_ok,aD,bK,cH,pure_bind];rw[hold,bi,b2,Result.andThen_ok,hx];cases x<;>exact c5
   by_cases A:left=#[]
   .have l:f=#[none]:=by simp[f,A]
    have b6:idx=0:=by rw[l]at hidx;simpa using hidx
    refine⟨_,_,_,L.1 (λj aC=>?_),.tuple #[.bool false],z,g,.inl (a2 none (by rw[l,b6];rfl) _ _ ?_),b3.same,b5,a5 g,bT⟩
    .have dd:j<d.size:=by rw[H.len,bv];exact aC
     have:d[j]∉left:=by rw[A];simp
     have D:¬(d[j]∈d/\(!seen.toArray.contains d[j].born)=true):=λh=>this (lh.2 h);have ai:=H.born j d[j] bT;rw[ai]at D;have ad:d[j]∈d:=bT;simpa[ad]using D
    .rfl
   .have l:f=left.map some:=by simp[f,A]
    have ab:0<left.size:=by
     rcases cZ left.size with ac|ac
     .exact absurd (Array.eq_empty_of_size_eq_zero ac) A
     .exact ac
    have b7:idx<left.size:=by
     have:=hidx (by rw[l];simpa using ab);rw[l]at this;simpa using this
    have ad:left[idx]∈left:=bT;obtain⟨K,a7⟩:=lh.1 ad;obtain⟨j,aC,a8⟩:=gV.1 K;have ai:=H.born j d[j] bT;have df:j<kvs.length:=by rw[<-H.len];exact aC
    have bo:kvs[j]?=some kvs[j]:=bT;have ca:j∉seen:=by
     rw[<-a8,ai]at a7;simpa using a7
    have cb:=H.key j _ d[j] bo bT;have cc:=H.val j _ d[j] bo bT;obtain⟨c6,c7⟩:=b3.l3 (Ww:=.walk m n (seen++[j])) (pc:=.mapIter (some a4) n (seen++[j]).toArray n) a1 rfl rfl c2 hb ⟨a4,bY,rfl⟩;refine⟨_,_,_,L.2 j _ ca bo,.tuple #[.bool true,d[j].key,d[j].val],_,g,.inl (a2 (some d[j]) (by rw[l];simp[b7,a8]) _ _ ?_),c6,b5.trans c7,?_,bT⟩
    .simp only[Sem.run_bind,M7 a1 rfl,Result.andThen_ok,Sem.run_pure,ai];simp
    .refine .hJ _ _ rfl (λi c y t N=>?_)
     match i with
     |0=>simp at t N;subst t N;exact .bool _
     |1=>simp at t N;subst t N;exact cb
     |2=>simp at t N;subst t N;exact cc
     |i+3=>simp at t
  .exact L.elim
def M9{x:Operand}{z:eL}{Q:V->Bool->aK->Prop}(hop:o.op=.entry x)(hx:eE GL x=some z)
 (p:(MX.entry z).wp s Q) (R:Rel GL g s a w):A7 GL P o g s a w Q:=by
 have hX:=cv R hx;simp only[MX.wp]at p;split at p
 next id m n seen kvs L=>
  obtain⟨j,u,f,l,p⟩:=p;obtain⟨ac,ad,ai,b,aA,d,A,hb,aB,D,ab,oO,q⟩:=Dw R L hX;have N:j<d.size:=by rw[q.len];exact b0 l
  have H:=q.key j _ d[j] l bT;have K:=q.val j _ d[j] l bT;refine⟨_,_,_,p,.tuple #[d[j].key,d[j].val],w,g,.inl ?_,R.same,Step.refl g w,?_,bT⟩
  .unfold execOp;rw[hop];refine Ba ?_;rw[A];have r:seen.toArray.back?=some j:=by rw[Array.back?_eq_getElem?];rw[List.getLast?_eq_getElem?]at f;simpa using f
   have t:d.find? (λe=>e.born==j)=some d[j]:=by
    rw[Array.find?_eq_some_iff_getElem];refine⟨by rw[q.born j _ (by simp:d[j]?=some d[j])];simp,j,N,rfl,λi aC=>?_⟩;rw[q.born i d[i] bT];simp;omega
   simp only[Instr.entry,Sem.run_bind,r2 D rfl,Result.andThen_ok,r,r2 oO rfl,bne_self_eq_false,bK,cH,pure_bind,t,Sem.run_pure]
  .refine .hJ _ _ rfl (λi c y f l=>?_)
   match i with
   |0=>simp at f l;subst f l;exact H
   |1=>simp at f l;subst f l;exact K
   |i+2=>simp at f
 .exact p.elim
def P9{d:TypeDesc}(h:¬AQ d=true):∀k,d≠.int k:=by
 rintro k rfl;exact h rfl
def FX{d:TypeDesc}(h:AQ d=true):∃k,d=.int k:=by
 cases d<;>first|(simp[AQ]at h;done)|exact⟨_,rfl⟩
def Bb{w:World}{b o:Nat}{x:Value}(h:w.cell? (cl b o)=some x):∃t k,w.shape? b=some (t,k+1):=by
 unfold World.cell? at h;unfold World.shape?;split at h
 next c t fz e=>
  simp only[cl]at e h;rw[e];have:o<c.size:=by
   simp only[cG,bK,cH]at h;exact(cF.1 h).1
  exact⟨t,c.size-1,by simp only[co,ek,cK];omega⟩
 .cases h
def CT(params results:Array TypeId){t e:TypeId}{sz:Nat}(h0:params[0]?=some t)(r:P.underlying t=some (.slice e))(u:ng P e=some sz)
 (a b:Addr) (j ca lb cb:Nat) (f:a.block≠b.block) {y z:TypeId} {l p:Nat} (hsa:w.shape? a.block=some (y,l+1)) (hsb:w.shape? b.block=some (z,p+1))
 (d:(∀o,w.frozen? (cl a.block o)=false)\/∀o,w.frozen? (cl b.block o)=false):
 (Extern.SlicesOverlaps.overlaps params results #[.slice (some a) j ca,.slice (some b) lb cb]).run P w=.ok (.bool false) w:=by
 have hnb:(a.block !=b.block)=true:=by simpa using f
 have aaP:(a.block==b.block)=false:=by simpa using f
 have q1:∀c:Addr,w.frozen? c=w.frozen? (cl c.block c.off):=λc=>rfl
 conv=>lhs;arg 2;whnf
 simp only[h0,Sem.run_bind,run_underlying r,Result.andThen_ok,fh u];by_cases q:j=0\/lb=0\/sz=0
 .simp[q]
 .rw[al q];rcases d with d|d
  .have f1:w.frozen? a=false:=by rw[q1];exact d _
   have f2:w.frozen? {block:=a.block,off:=l+1}=false:=d _;exact Xg
  .have f1:w.frozen? b=false:=by rw[q1];exact d _
   have f2:w.frozen? {block:=b.block,off:=p+1}=false:=d _;exact Xg
def FY(params results:Array TypeId){t e:TypeId}{sz:Nat}(h0:params[0]?=some t)(f:P.underlying t=some (.slice e))(j:ng P e=some sz)(p q:Option Addr)(d ca lb cb:Nat)
 (h:p=none\/q=none\/d=0\/lb=0):(Extern.SlicesOverlaps.overlaps params results #[.slice p d ca,.slice q lb cb]).run P w=.ok (.bool false) w:=by
 conv=>lhs;arg 2;whnf
 simp only[h0,Sem.run_bind,run_underlying f,Result.andThen_ok,fh j];rcases h with rfl|rfl|rfl|rfl
 .rfl
 .cases p<;>rfl
 .cases p<;>cases q<;>simp
 .cases p<;>cases q<;>simp
def Qa(params results:Array TypeId){t e:TypeId}{sz:Nat}(h0:params[0]?=some t)(a2:P.underlying t=some (.slice e))(aC:ng P e=some sz){u v:V}{x y:Value}{h:aK}(L:FU h sz u v)(bl:HR g h w)(bo:qe GL g w)(H:VR g u x)(h2:VR g v y):
 (Extern.SlicesOverlaps.overlaps params results #[x,y]).run P w=.ok (.bool false) w:=by
 have d:=@FY P w params results t e sz h0 a2 aC;have aD:=@CT P w params results t e sz h0 a2 aC;have box:∀{id b:Nat} {c:V} {r:List V},h.box id=some (c::r)->g.hb id=some b->(∀j,g.bJ b j=.eh id)/\(∀o,w.frozen? (cl b o)=false)/\∃t k,w.shape? b=some (t,k+1):=by
  intro id b c r a0 K;obtain⟨b6,bs,a1⟩:=bl.box id _ a0;cases (bs.symm.trans K);obtain⟨_,x,bu,_⟩:=a1.cell 0 c rfl;exact⟨a1.mf,a1.kl,Bb bu⟩
 have A:∀{z:Nat} {R:List V} {x:Value},VR g (.sl z R) x->(∃l c,x=.slice none l c)\/(∃a c,x=.slice (some a) R.length c/\(R=[]\/z=0\/((∃v,g.bJ a.block a.off=.g3 v)/\∃t k,w.shape? a.block=some (t,k+1)))):=by
  intro z R x hx;cases hx with
  |slnil=>exact .inl ⟨_,_,rfl⟩
  |sl _ _ a cap b7 hs bv aC bY ca cb=>
   refine .inr ⟨a,cap,rfl,?_⟩;cases R with
   |nil=>exact .inl rfl
   |cons v r=>
    rcases cZ z with h|h
    .exact .inr (.inl h)
    .have N:=bY 0 (Nat.mul_pos (jY _) h);exact .inr (.inr ⟨⟨_,N⟩,Bb (bo.g3 _ _ _ N)⟩)
 have f:∀{z id off n c:Nat} {x:Value},VR g (.ms z id off n c) x->(∃p,x=.slice p 0 0)\/∃b,x=.slice (some (cl b off)) n c/\g.hb id=some b:=by
  intro z id off n c x hx;cases hx with
  |ms _ _ _ _ _ b h bv=>exact .inr ⟨b,rfl,h⟩
  |FJ=>exact .inl ⟨_,rfl⟩
 have D:∀{x:Value},VR g .aP x->x=.slice none 0 0:=λhx=>by cases hx;rfl
 unfold FU at L;split at L
 .rw[D H,D h2];exact d _ _ _ _ _ _ (.inl rfl)
 .rw[D H];rcases A h2 with⟨l,c,rfl⟩|⟨a,c,rfl,_⟩<;>exact d _ _ _ _ _ _ (.inl rfl)
 .rw[D h2];rcases A H with⟨l,c,rfl⟩|⟨a,c,rfl,_⟩<;>exact d _ _ _ _ _ _ (.inr (.inl rfl))
 .rw[D H];rcases f h2 with⟨l,rfl⟩|⟨a,rfl,_⟩<;>exact d _ _ _ _ _ _ (.inl rfl)
 .rw[D h2];rcases f H with⟨l,rfl⟩|⟨a,rfl,_⟩<;>exact d _ _ _ _ _ _ (.inr (.inl rfl))
 .rcases f H with⟨p,rfl⟩|⟨b2,rfl,a0⟩
  .rcases f h2 with⟨q,rfl⟩|⟨Q,rfl,K⟩<;>exact d _ _ _ _ _ _ (.inr (.inr (.inl rfl)))
  rcases f h2 with⟨q,rfl⟩|⟨Q,rfl,K⟩
  .exact d _ _ _ _ _ _ (.inr (.inr (.inr rfl)))
  rcases L with rfl|rfl|⟨a3,⟨cc,ch,b3⟩,a4,a5,ab⟩
  .exact d _ _ _ _ _ _ (.inr (.inr (.inl rfl)))
  .exact d _ _ _ _ _ _ (.inr (.inr (.inr rfl)))
  obtain⟨ac,b5,a6,a7,ad⟩:=box b3 a0;obtain⟨ai,aB,a8,a9,aA⟩:=box ab K;exact aD _ _ _ _ _ _ (by rintro(rfl:b2=Q);have:=(ac 0).symm.trans (ai 0);injection this with h;exact a3 h) ad aA (.inl b5)
 .rcases f h2 with⟨q,rfl⟩|⟨Q,rfl,K⟩
  .rcases A H with⟨l,c,rfl⟩|⟨a,c,rfl,_⟩<;>exact d _ _ _ _ _ _ (.inr (.inr (.inr rfl)))
  rcases A H with⟨l,c,rfl⟩|⟨a,c,rfl,N⟩
  .exact d _ _ _ _ _ _ (.inl rfl)
  rcases L with rfl|rfl|⟨bi,a4,a5,ab⟩
  .exact d _ _ _ _ _ _ (.inr (.inr (.inr rfl)))
  .exact d _ _ _ _ _ _ (.inr (.inr (.inl rfl)))
  rcases N with rfl|rfl|⟨⟨v,ac⟩,a6,a7,ad⟩
  .exact d _ _ _ _ _ _ (.inr (.inr (.inl rfl)))
  .omega
  obtain⟨ai,aB,a8,a9,aA⟩:=box ab K;exact aD _ _ _ _ _ _ (by rintro(h:a.block=Q);have:=(h▸ac).symm.trans (ai _);cases this) ad aA (.inr aB)
 .rcases f H with⟨q,rfl⟩|⟨Q,rfl,K⟩
  .rcases A h2 with⟨l,c,rfl⟩|⟨a,c,rfl,_⟩<;>exact d _ _ _ _ _ _ (.inr (.inr (.inl rfl)))
  rcases A h2 with⟨l,c,rfl⟩|⟨a,c,rfl,N⟩
  .exact d _ _ _ _ _ _ (.inr (.inl rfl))
  rcases L with rfl|rfl|⟨bi,a4,a5,ab⟩
  .exact d _ _ _ _ _ _ (.inr (.inr (.inl rfl)))
  .exact d _ _ _ _ _ _ (.inr (.inr (.inr rfl)))
  rcases N with rfl|rfl|⟨⟨v,ac⟩,a6,a7,ad⟩
  .exact d _ _ _ _ _ _ (.inr (.inr (.inr rfl)))
  .omega
  obtain⟨ai,aB,a8,a9,aA⟩:=box ab K;exact aD _ _ _ _ _ _ (by rintro(h:Q=a.block);have:=(h▸ac).symm.trans (ai _);cases this) aA ad (.inl aB)
 .exact L.elim
set_option maxRecDepth 100000 in
def Na(fn:Func)(d:fn.name=Tryz.f337.name)(h2:fn.origin= "slices.overlaps"):Extern.find fn=some (Extern.SlicesOverlaps.overlaps fn.params fn.resultTypes)/\Extern.findNext fn=none:=by
 unfold Extern.find Extern.findNext;rw[d,h2];exact⟨rfl,rfl⟩
set_option maxRecDepth 100000 in
def Dx(fn:Func)(d:fn.name=Tryz.f334.name)(h2:fn.origin= ""):Extern.find fn=some Extern.BytealgIndexByte.indexByte/\Extern.findNext fn=none:=by
 unfold Extern.find Extern.findNext;rw[d,h2];exact⟨rfl,rfl⟩
def Nb{l:List UInt8}{c:Int}(h0:0<=c)(d:c<256):(Extern.BytealgIndexByte.indexByte #[.string ⟨l.toArray⟩,.int .u8 c]).run P w=.ok (.int .i64 (HU l (UInt8.ofNat c.toNat))) w:=by
 exact run_indexByte_string _ _ _
def Nc{c:Call}{f:FuncId}{x y:Operand}{fn:Func}{e:Array Value->Sem Value}{Q:V->Bool->aK->Prop}(hop:o.op=.call c)(p:c.callee=.value (.func f))(j:c.args.toList=[x,y])(r:P.funcs[f]?=some fn)
 (hb:fn.body.isNone=true) (l:(fn.name== "runtime.NumGoroutine")=false) (t:Extern.findNext fn=none) (u:Extern.find fn=some e) {v:V} {z:Value} (q:(e #[a.eval x,a.eval y]).run P w=.ok z w) (A:VR g v z)
 (D:Q v false s.E) (R:Rel GL g s a w):A7 GL P o g s a w Q:=by
 refine⟨_,_,_,D,z,w,g,.inl ?_,R.same,Step.refl g w,A,bT⟩;have hm:c.args.map a.eval=#[a.eval x,a.eval y]:=by apply jI;simp[j]
 unfold execOp;rw[hop];simp only[resolve,p,hm];show(do let d<-Deferred.ofValue (.func (.func f) #[] #[]) #[a.eval x,a.eval y];invoke d.target d.args:Sem Next).run P w=_;simp only[Deferred.ofValue,pure_bind,invoke];rw[show(#[]++ #[a.eval x,a.eval y]++ #[]:Array Value)=#[a.eval x,a.eval y]from bT,run_callFunc_extern r l hb t u,q];rfl
def UI{t e:TypeId}{sz n:Nat}{z:V}{parts:Array (Nat×Operand)}{ps:List (Nat×eL)}{Q:V->Bool->aK->Prop}(hop:o.op=.buildSlice t n parts)
 (r:P.underlying t=some (.slice e)) (l:ng P e=some sz) (u:Di P e=some z) (p:um GL parts.toList=some ps) (y:n*sz<=16777216) (f:0<sz) (j:jW sz z=true)
 (d:(MX.Tt sz z n ps).wp s Q) (R:Rel GL g s a w):A7 GL P o g s a w Q:=by
 simp only[MX.wp]at d;split at d
 next xs A=>
  obtain⟨q,z1,D,aB,H⟩:=FO u g;obtain⟨zs,f1,K,L⟩:=uo (g:=g) R (ys:=(Array.range (n*sz)).map (λi=>q.cells[i%q.cells.size]!)) p (jy.replicate j f D H) A;have hlen:xs.length=n:=by rw[L];simp
  obtain⟨N,ab,_⟩:=ux K;obtain⟨ac,ad,ai,aA⟩:=Ad (t:=e) (xs:=zs) R (cells:=(xs.map V.cells).flatten) N ab;refine⟨_,_,_,d,.slice (some (cl w.heap.size 0)) n n,_,ac,.inl ?_,ad,ai,?_,bT⟩
  .unfold execOp;rw[hop];refine(by
    rw[Sem.run_bind];have:(Instr.buildSlice t n (parts.map λ(i,x)=>(i,a.eval x))).run P w=.ok (.slice (some (cl w.heap.size 0)) n n) (w.alloc (.cells zs e)):=by
     simp only[Instr.buildSlice,Sem.run_bind,run_underlying r,Result.andThen_ok,fh l];rw[al av];have fin:∀{c:Array Value},(do let a<-newRow e c;pure (Value.slice (some a) n n):Sem Value).run P w=.ok (.slice (some (cl w.heap.size 0)) n n) (w.alloc (.cells c e)):=by
      intro c;simp[newRow,cl]
     exact bb2
    rw[this];rfl)
  .cases aA with|bp _ _ b hb=>exact .ms _ _ _ _ _ _ hb (an _)
 .exact d.elim
def YE{m:MX}{Q:V->Bool->aK->Prop}(h:P5 P GL hs o=some m)(q:m.wp s Q)(R:Rel GL g s a w):A7 GL P o g s a w Q:=by
 unfold P5 at h;split at h
 next t n parts hop=>
  split at h
  next e D=>
   split at h
   next sz z bi r N aB=>
    split at h
    next ab=>cases h;exact UI hop D r N aB ab.1 ab.2.1 ab.2.2 q R
    .cases h
   .cases h
  .cases h
 next t x hop=>
  split at h
  next k e D=>obtain⟨K,hx,rfl⟩:=dp h;exact UH hop D hx q R
  .cases h
 next x isS hop=>
  split at h
  .cases h
  next aC=>
   obtain⟨K,hx,rfl⟩:=dp h;have:isS=false:=by simpa using aC
   subst this;exact P8 hop hx q R
 next x hop=>obtain⟨K,hx,rfl⟩:=dp h;exact M9 hop hx q R
 next c hop=>
  split at h
  next t u x y p H j=>
   split at h
   next e d K ai D aD hx L=>
    split at h
    next sz zs r N=>
     split at h
     .cases h
     next ab=>
      rw[lS]at ab;split at h
      next aA=>cases h;obtain⟨k,rfl⟩:=FX aA;exact M5 hop p H j D aD hx L r N av av q R
      next aA=>cases h;exact P6 hop p H j D aD hx L r N (P9 aA) av av q R
    .cases h
   .cases h
  next t ts x y p H j=>
   split at h
   next e K ai D hx L=>
    split at h
    next sz r=>cases h;exact P7 hop p H j D hx L r q R
    .cases h
   .cases h
  next t x p H j=>
   split at h
   next e K D hx=>
    split at h
    next sz zs r N=>
     split at h
     next a3=>cases h;exact M6 hop p H j D hx N a3 q R
     .cases h
    .cases h
   .cases h
  next f x y p j=>
   split at h
   next fn K ai a0 hx L=>
    split at h
    next hb=>
     split at h
     next A=>
      cases h;simp only[MX.wp]at q;split at q
      next l c a4 ac=>have a1:=cv R hx;have a2:=cv R L;rw[a4]at a1;rw[ac]at a2;refine Nc hop p j a0 hb (by rw[A.1];rfl) (Dx fn A.1 A.2).2 (Dx fn A.1 A.2).1 ?_ (.int _ _) q.2.2 R;rw[a1.str,a2.int];exact Nb q.1 q.2.1
      .exact q.elim
     .split at h
      next A=>
       split at h
       next t a9 E=>
        split at h
        next e D=>
         split at h
         next sz r=>
          cases h;obtain⟨a5,a6⟩:=Na fn A.1 A.2;simp only[MX.wp]at q;have ad:(s.val K).dY=false/\(s.val ai).dY=false:=by
           have:=q.1;unfold FU at this;split at this<;>first|exact this.elim|(rename_i a7 a8;rw[a7,a8];exact⟨rfl,rfl⟩)
          refine Nc hop p j a0 hb (by rw[A.1];rfl) a6 a5 (Qa (sz:=sz+1) fn.params fn.resultTypes (by rw[<-dh,E];rfl) D r q.1 R.heap R.gF ((cv R hx).od ?_) ((cv R L).od ?_)) (.bool _) q.2 R
          .intro i k m ac;have:=ad.1;rw[ac]at this;cases this
          .intro i k m ac;have:=ad.2;rw[ac]at this;cases this
         .cases h
        .cases h
       .cases h
      .cases h
    .cases h
   .cases h
  .cases h
 .cases h
end
end
end Go.Bx
namespace Go.Bx
section
variable {GL:Nat->Option (List V)}{P:Program}
def WV(fz:aj)(v u:V):Prop:=u=.unk\/V.lF fz v u
def h9(fz:aj)(cs ds:List V):Prop:=cs.length=ds.length/\∀(j:Nat) c d,cs[j]?=some c->ds[j]?=some d->V.lF fz c d
section
variable {fz:Nat->Option (List V)}
def h9.refl(cs:List V):h9 fz cs cs:=⟨rfl,λj c d a f=>by obtain rfl:=ar (a.symm.trans f);exact .refl c⟩
def h9.nil:h9 fz [] []:=.refl []
def h9.cons{c d:V}{l m:List V}(h:V.lF fz c d)(o:h9 fz l m):h9 fz (c::l) (d::m):=
 ⟨by simp[o.1],λj x y a f=>by
  cases j with
  |zero=>simp at a f;subst a f;exact h
  |succ j=>simp at a f;exact o.2 j x y a f⟩
end
def MOW(fz:aj):MO->MO->Prop
 |.map kvs,.map a=>kvs.length=a.length/\∀(j:Nat) c d,kvs[j]?=some c->a[j]?=some d->V.lF fz c.1 d.1/\V.lF fz c.2 d.2
 |m,f=>m=f
def MOW.refl{fz:aj}(m:MO):MOW fz m m:=by
 cases m with
 |map kvs=>exact⟨rfl,λj c d a f=>by obtain rfl:=ar (a.symm.trans f);exact⟨.refl _,.refl _⟩⟩
 |_=>rfl
def V.YF:V->Bool
 |.ms .. =>true
 |_=>false
def PF(fz:aj)(v:V):Prop:=(∀id,fz id=none)\/v.YF=false
structure jE(fz:aj)(h k:aK):Prop where
 CU:∀id cells,fz id=some cells->h.box id=some cells
 box:∀id cells,k.box id=some cells->fz id=none/\∃cs,h.box id=some cs/\h9 fz cs cells
 fl:∀id j,k.fl id j=true->(h.fl id j=true/\((∀cs c,h.box id=some cs->cs[j]?=some c->PF fz c)\/k.box id=h.box id))\/∃cs,h.box id=some cs/\cs[j]?=some .aP
 mp:∀id mo,k.mp id=some mo->∃Ww,h.mp id=some Ww/\MOW fz Ww mo
 Y:h.Y<=k.Y
def jE.refl(h:aK):jE jH h h:=⟨λ_ _ e=>(by cases e),λ_ c e=>⟨rfl,c,e,.refl c⟩,λ_ _ e=>.inl ⟨e,.inr rfl⟩,λ_ m e=>⟨m,e,.refl m⟩,an _⟩
structure Nd(fz:aj)(s t:St):Prop where
 n:t.n=s.n
 Z:∀x,WV fz (s.Z x) (t.Z x)
 lk:∀x,t.lk x=none
 fl:∀x,t.fl x=true->(s.fl x=true/\(PF fz (s.Z x)\/t.Z x=s.Z x))\/s.Z x=.aP\/t.Z x=.unk
 G:∀i,t.G i<=s.G i
 lp:∀x i gn off,t.Z x=.lp i gn off->gn<t.G i
 loc:∀i gn,gn<t.G i->h9 fz (s.loc i gn) (t.loc i gn)
 fc:∀i gn j,gn<t.G i->t.fc i gn j=true->(s.fc i gn j=true/\((∀c,(s.loc i gn)[j]?=some c->PF fz c)\/t.loc i gn=s.loc i gn))\/(s.loc i gn)[j]?=some .aP
 E:jE fz s.E t.E
def EG(s t:St):Prop:=∃fz,Nd fz s t
def EG.n{s t:St}(h:EG s t):t.n=s.n:=h.elim λ_ h=>h.n
def aY.cut(g:aY)(w:World)(fz:aj)(G:Nat->Nat):aY:=
 {
  bJ:=λb o=>match g.bJ b o with
   |.sx i a=>if a<G i then .sx i a else .junk
   |.eh id=>match fz id with
    |some _=>match w.cell? (cl b o)with
     |some x=>.g3 x
     |none=>.junk
    |none=>.eh id
   |x=>x
  lb:=λi a=>if a<G i then g.lb i a else none
  hb:=g.hb}
section
variable {g:aY}{w:World}{fz:Nat->Option (List V)}{c:Nat->Nat}
def Af{b o:Nat}{ow:eT}(h:g.bJ b o=ow)(d:∀i a,ow=.sx i a->a<c i)(f:∀id,ow=.eh id->fz id=none):(g.cut w fz c).bJ b o=ow:=by
 subst h;simp only[aY.cut];split
 next i a e=>rw[ax (d i a e)];exact e.symm
 next id e=>rw[f id e];exact e.symm
 .rfl
def UJ{b o id:Nat}{cells:List V}{x:Value}(h:g.bJ b o=.eh id)(a:fz id=some cells)(hx:w.cell? (cl b o)=some x):(g.cut w fz c).bJ b o=.g3 x:=by
 simp only[aY.cut,h,a,hx]
def Nf{b o:Nat}{x:Value}(h:(g.cut w fz c).bJ b o=.g3 x):g.bJ b o=.g3 x\/w.cell? (cl b o)=some x:=by
 simp only[aY.cut]at h;split at h
 .split at h<;>cases h
 .split at h
  .split at h
   .injection h with h;subst h;right;assumption
   .cases h
  .cases h
 .exact .inl h
def Bc{b o:Nat}{ob:Obj}:(g.cut w fz c).bJ b o=.eY ob↔g.bJ b o=.eY ob:=by
 exact bb3
def Ng{b o i:Nat}:(g.cut w fz c).bJ b o=.oO i↔g.bJ b o=.oO i:=by
 exact bb3
def w6{b o:Nat}:(g.cut w fz c).bJ b o=.ext↔g.bJ b o=.ext:=by
 exact bb3
def Nh{b o:Nat}:(g.cut w fz c).bJ b o=.free↔g.bJ b o=.free:=by
 exact bb3
def rr:g.Le (g.cut w fz c):=⟨λ_ _ _ e=>Af e (by intro _ _ h;cases h) (by intro _ h;cases h),λ_ _ e=>Bc.2 e,λ_ _ e=>e⟩
def Step.cut:Step g w (g.cut w fz c) w where
 g3 _ _ _ e:=rr.g3 _ _ _ e
 eY _ _ e:=Bc.2 e
 n5 _ _ _ _ e:=e
 hb _ _ e:=e
 ext _ _ e:=⟨w6.2 e,rfl,rfl⟩
 rm _ _ e _:=w6.1 e
 size:=an _
 gY:=.refl _
 whole _ _ _:=rfl
end
section
variable {g g':aY}{w:World}{fz:Nat->Option (List V)}{c:Nat->Nat}
def dS.le{l:Loc}{v u:V}{x:Value}(h:dS g w l v x)(z:V.lF fz v u)(A:VR g v x)(r:PF fz v\/u=v):dS g w l u x:=by
 rcases r with r|rfl
 case inr=>exact h
 cases z with
 |refl=>exact h
 |aP sz=>
  intro q t a len cap d j;have:=A.e0.aP;rw[this]at j;cases j
 |agg cs o=>intro _ _ _ _ _ d;cases d
 |hJ cs o=>intro _ _ _ _ _ d;cases d
 |ep cs o=>intro _ _ _ _ _ d;cases d
 |fn f cs o=>intro _ _ _ _ _ d;cases d
 |sl sz cs o z H=>
  intro q t a len cap d j;simp only[V.sl.injEq]at d;obtain⟨rfl,rfl⟩:=d;exact h _ _ a len cap rfl j
 |FJ sz id off=>
  intro q t a len cap d j k K L;rcases A.e0.ms with⟨b,_,rfl,_⟩|⟨_,_,p,rfl,_⟩
  .simp at j;obtain⟨_,rfl,rfl⟩:=j;omega
  .simp at j;obtain⟨_,rfl,rfl⟩:=j;omega
 |ms sz id off n c cells o t D=>
  rcases r with y|y
  .rw[y id]at D;cases D
  .simp[V.YF]at y
 |bp=>intro _ _ _ _ _ d;cases d
def dS.cut{l:Loc}{v:V}{x:Value}(h:dS g w l v x):dS (g.cut w fz c) w l v x:=by
 intro sz d a len cap f j k o p;obtain⟨q,r⟩:=h sz d a len cap f j k o p;exact⟨Af q (by intro i t e;cases e) (by intro i e;cases e),r⟩
def dS.nil{l:Loc}{u:V}{x:Value}(f:WV fz .aP u)(hx:VR g .aP x):dS g w l u x:=by
 intro sz j a len cap o d;have:=hx.e0.aP;rw[this]at d;cases d
def dS.unk{l:Loc}{x:Value}:dS g w l .unk x:=by intro sz f a len cap d;cases d
def fQ.weak{b:Nat}{ow:eT}{cs ds:List V}(h:fQ g w b ow cs)(a:h9 fz cs ds)
 (q:∀id cells,fz id=some cells->∃b,g.hb id=some b/\∀(j:Nat) u,cells[j]?=some u->u.one=true/\∃y,(g.cut w fz c).bJ b j=.g3 y/\VR g u y)
 (r:∀i f,ow=.sx i f->f<c i) (l:∀id,ow=.eh id->fz id=none):fQ (g.cut w fz c) w b ow ds where
 mf j:=Af (h.mf j) r l
 cell j d o:=by
  have A:j<cs.length:=by rw[a.1];exact b0 o
  obtain⟨h1,x,t,z⟩:=h.cell j cs[j] bT;have p:=a.2 j cs[j] d bT o;exact⟨p.one h1,x,t,VR.ur rr q p z⟩
 kl:=h.kl
end
section
variable {g:aY}{w:World}{fz:Nat->Option (List V)}{c:Nat->Nat}{h k:aK}
def w7(f:HR g h w)(l:∀id cells,fz id=some cells->h.box id=some cells):
 ∀id cells,fz id=some cells->∃b,g.hb id=some b/\∀(j:Nat) u,cells[j]?=some u->u.one=true/\∃y,(g.cut w fz c).bJ b j=.g3 y/\VR g u y:=by
 intro id cells e;obtain⟨b,o,a⟩:=f.box id cells (l id cells e);refine⟨b,o,λj u d=>?_⟩;obtain⟨p,y,q,r⟩:=a.cell j u d;exact⟨p,y,UJ (a.bJ j (b0 d)) e q,r⟩
def qe.cut(a:qe GL g w):qe GL (g.cut w fz c) w where
 kp n cells e:=(a.kp n cells e).mono rr
 kB:=a.kB
 eY b o e:=a.eY b o (Bc.1 e)
 g3 b o x e:=by
  rcases Nf e with e|e
  .exact a.g3 b o x e
  .exact e
 ir b o e:=a.ir b o (λd=>e (Nh.2 d))
def HR.cut(l:HR g h w)(p:jE fz h k):HR (g.cut w fz c) k w:=by
 have H:=w7 (c:=c) l p.CU;have Q:∀{v u:V} {x:Value},V.lF fz v u->VR g v x->VR (g.cut w fz c) u x:=λt hx=>VR.ur rr H t hx;exact {
  box:=λid cells e=>by
   obtain⟨R,cs,h1,q⟩:=p.box id cells e;obtain⟨b,z,A⟩:=l.box id cs h1;exact⟨b,z,A.weak q H (by intro i a4 e;cases e) (by rintro i e;cases e;exact R)⟩
  tail:=λid cells j c b x ab aB L ac ad=>by
   obtain⟨R,cs,h1,q⟩:=p.box id cells ab;have N:j<cs.length:=by rw[q.1];exact b0 L
   have t:=q.2 j cs[j] c bT L;obtain⟨ai,z,A⟩:=l.box id cs h1;obtain rfl:ai=b:=ar (z.symm.trans ac);obtain⟨_,y,a,d⟩:=A.cell j cs[j] bT;obtain rfl:=ar (a.symm.trans ad);rcases p.fl id j aB with⟨f,r⟩|⟨a3,f,aC⟩
   .refine((l.tail id cs j cs[j] ai y h1 f (by simp) ac ad).le t d ?_).cut;rcases r with r|r
    .exact .inl (r cs _ h1 bT)
    .rw[ab,h1]at r;cases r;right;have:=(aH.1 L).2;exact this.symm
   .cases (h1.symm.trans f);have aD:cs[j]=.aP:=by simpa[N]using aC
    rw[aD]at d t;exact(dS.nil (.inr t) d).cut
  map:=λid aA e=>by
   obtain⟨K,a0,hm⟩:=p.mp id aA e;obtain⟨b,o,h1,q,z,A,f⟩:=l.map id K a0;refine⟨b,o,h1,Ng.2 q,z,A,?_⟩;cases K with
   |map kvs=>
    cases aA with
    |map a1=>
     obtain⟨a2,c,rfl,D⟩:=f;refine⟨a2,c,rfl,⟨by rw[D.len,hm.1],λj u e a d=>?_,λj u e a d=>?_,D.born,D.MI⟩⟩
     .have N:j<kvs.length:=by rw[hm.1];exact b0 a
      exact Q (hm.2 j kvs[j] u bT a).1 (D.key j kvs[j] e bT d)
     .have N:j<kvs.length:=by rw[hm.1];exact b0 a
      exact Q (hm.2 j kvs[j] u bT a).2 (D.val j kvs[j] e bT d)
    |walk=>cases hm
    |raw=>cases hm
   |walk m n seen=>cases hm;exact f.mono rr
   |raw a5=>cases hm;exact f.mono rr
  Y:=λid e=>l.Y id (aT p.Y e)}
end
def Rel.ur{g:aY}{s t:St}{a:Act}{w:World}{fz:aj}(R:Rel GL g s a w)(h:Nd fz s t):Rel GL (g.cut w fz t.G) t a w:=by
 have H:=w7 (c:=t.G) R.heap h.E.CU;have aA:∀{v u:V} {x:Value},V.lF fz v u->VR g v x->VR (g.cut w fz t.G) u x:=λf hx=>VR.ur rr H f hx;exact {
 size:=by rw[R.size,h.n]
 gi:=R.gi.mono λD z q=>⟨Af z (by intro _ _ h;cases h) (by intro _ h;cases h),q⟩
 Z:=λx=>by
  have hx:=R.Z x;rcases h.Z x with e|f
  .rw[e];exact .unk _
  .have p:=h.lp x;generalize aB:s.Z x=v at hx f;generalize aC:t.Z x=u at f p;by_cases A:∃i d off,v=.lp i d off
   .obtain⟨i,d,off,rfl⟩:=A;cases f;obtain⟨b,h1,K⟩:=hx;exact⟨b,by simp only[aY.cut,ax (p i d off rfl)];exact h1,K⟩
   .exact(aA f (hx.od (λi d off e=>A ⟨i,d,off,e⟩))).e0
 gF:=R.gF.cut
 heap:=R.heap.cut h.E
 loc:=λi d l=>by
  obtain⟨b,h1,K⟩:=R.loc i d (bj l (h.G i));exact⟨b,by simp only[aY.cut,ax l];exact h1,K.weak (h.loc i d l) H (by intro a5 a4 e;cases e;exact l) (by intro i e;cases e)⟩
 jc:=λi d l=>by simp only[aY.cut];rw[al av]
 jx:=λx e=>by
  have hx:=R.Z x;have p:=h.lp x;rcases h.Z x with z|f
  .rw[z];exact dS.unk
  .rcases h.fl x e with⟨h1,o⟩|h1|h1
   .have Q:=R.jx x h1;generalize aB:s.Z x=v at hx f Q o;generalize aC:t.Z x=u at f p o;by_cases A:∃i d off,v=.lp i d off
    .obtain⟨i,d,off,rfl⟩:=A;cases f;intro _ _ _ _ _ e;cases e
    .exact(Q.le f (hx.od (λi d off e=>A ⟨i,d,off,e⟩)) o).cut
   .rw[h1]at hx f;exact(dS.nil (.inr f) (hx.od (by intro _ _ _ e;cases e))).cut
   .rw[h1];exact dS.unk
 gH:=λi d j c b x z q r ab=>by
  have l:d<t.G i:=by
   rcases am d (t.G i)with ac|ac
   .exact ac
   .simp only[aY.cut]at r;rw[al av]at r;cases r
  simp only[aY.cut,ax l]at r;have ad:=h.loc i d l;have aD:j< (s.loc i d).length:=by rw[ad.1];exact b0 q
  have f:=ad.2 j (s.loc i d)[j] c bT q;obtain⟨ai,a0,a1⟩:=R.loc i d (bj l (h.G i));obtain rfl:ai=b:=ar (a0.symm.trans r);obtain⟨_,y,a2,L⟩:=a1.cell j (s.loc i d)[j] bT;obtain rfl:=ar (a2.symm.trans ab);rcases h.fc i d j l z with⟨N,o⟩|N
  .refine((R.gH i d j (s.loc i d)[j] ai y N (by simp) r ab).le f L ?_).cut;rcases o with o|o
   .exact .inl (o _ bT)
   .rw[o]at q;right;exact((aH.1 q).2).symm
  .have a3:(s.loc i d)[j]=.aP:=by simpa[aD]using N
   rw[a3]at L f;exact(dS.nil (.inr f) L).cut
 j0:=λx u e=>by rw[h.lk x]at e;cases e
 gI:=λx i d j e=>by rw[h.lk x]at e;cases e
 ie:=λx id j e=>by rw[h.lk x]at e;cases e}
def Rel.weak{g:aY}{s t:St}{a:Act}{w:World}(R:Rel GL g s a w)(h:EG s t):∃g',Rel GL g' t a w/\Step g w g' w:=by
 obtain⟨fz,h⟩:=h;exact⟨_,R.ur h,Step.cut⟩
def Rel.aa8{g:aY}{s:St}{a:Act}{w:World}{fz:aj}{E:aK}(R:Rel GL g s a w)(h:jE fz s.E E):Rel GL (g.cut w fz s.G) (s.cu E) a w:=by
 have B:Rel GL (g.cut w fz s.G) {s with E:=E,lk:=λ_=>none} a w:=R.ur (t:={s with E:=E,lk:=λ_=>none})
  {
   n:=rfl
   Z:=λx=>.inr (.refl _)
   lk:=λ_=>rfl
   fl:=λx e=>.inl ⟨e,.inr rfl⟩
   G:=λ_=>an _
   lp:=λx i d off e=>by
    have:=R.Z x;rw[show s.Z x=.lp i d off from e]at this;obtain⟨b,h1,_⟩:=this;rcases am d (s.G i)with f|f
    .exact f
    .rw[R.jc i d f]at h1;cases h1
   loc:=λi d _=>.refl _
   fc:=λi d j _ e=>.inl ⟨e,.inr rfl⟩
   E:=h}
 exact {
  size:=B.size,gi:=B.gi,Z:=B.Z,gF:=B.gF,heap:=B.heap,loc:=B.loc,jc:=B.jc,jx:=B.jx,gH:=B.gH
  j0:=λt u e=>R.j0 t u (fC e).1
  gI:=λt st d j e=>by
   obtain⟨h1,o⟩:=R.gI t st d j (fC e).1;refine⟨h1,λb l=>o b ?_⟩;simp only[aY.cut,ax h1]at l;exact l
  ie:=λt id j e=>by
   have:=(fC e).2;simp[PE]at this}
end
section
variable {GL:Nat->Option (List V)}{P:Program}
inductive BY where
 |ex (b:BX)
 |call (f:FuncId) (args:List eL)
 |qB (x:eL) (args:List eL)
 |bad
 |hx (h:HX)
 |mx (m:MX)
def YG(P:Program)(GL:aj)(hs:List Nat)(o:Oper):Option BY:=
 match o.op with
 |.call c=>match c.callee with
  |.value (.func f)=>if fK P f then(yM GL c.args.toList).map (.call f)else none
  |.value x=>match eE GL x with
   |some x=>(yM GL c.args.toList).map (.qB x)
   |none=>none
  |_=>(Wu P GL hs o).map .ex
 |_=>(Wu P GL hs o).map .ex
def Ni(P:Program)(GL:aj)(hs:List Nat)(o:Oper):Option BY:=some (match YG P GL hs o with
 |some b=>b
 |none=>match P4 P GL hs o with
  |some h=>.hx h
  |none=>match P5 P GL hs o with
   |some m=>.mx m
   |none=>.bad)
def ER.qn{g:aY}{x:Value}(h:ER g .qn x):x=undef:=by cases h;rfl
def ER.fn{g:aY}{f cap}{x:Value}(h:ER g (.fn f cap) x):∃xs:Array Value,x=.func (.func f) #[] xs/\xs.size=cap.length/\∀(j:Nat) c y,cap[j]?=some c->xs[j]?=some y->VR g c y:=by
 cases h with|fn _ _ xs d l=>exact⟨xs,rfl,d,l⟩
structure BI where
 guard:Option (Nat×Bool)
 dst:Option Nat
 op:BY
def St.ret(s:St)(dst:Option Nat)(v:V)(bJ:Bool):St:=
 match dst with
 |some d=>s.put d v none bJ
 |none=>s
abbrev Ag(fz:aj)(args d:List V):Prop:=h9 fz args d
def aV(args f:List V):Prop:=args.length=f.length/\∀(j:Nat) c d,args[j]?=some c->f[j]?=some d->V.Le c d
def aV.refl(args:List V):aV args args:=⟨rfl,λj c d f l=>by obtain rfl:=ar (f.symm.trans l);exact .refl c⟩
def aV.nil:aV [] []:=.refl []
def aV.cons{c d:V}{l m:List V}(h:V.Le c d)(q:aV l m):aV (c::l) (d::m):=
 ⟨by simp[q.1],λj x y f p=>by
  cases j with
  |zero=>simp at f p;subst f p;exact h
  |succ j=>simp at f p;exact q.2 j x y f p⟩
def EH(P:Program)(GL:aj)(f:FuncId)(args:List V)(s:St)(dst:Option Nat)(K:St->Prop):Prop:=
 (∃d v bJ,aV args d/\Pure P GL f d v bJ/\K (s.ret dst v bJ))\/
 (∃d,aV args d/\lB P GL f d s.E λv bJ j=>K ((s.cu j).ret dst v bJ))\/
 (∃fz E d,jE fz s.E E/\Ag fz args d/\((∃v bJ,Pure P GL f d v bJ/\K ((s.cu E).ret dst v bJ))\/lB P GL f d E λv bJ j=>K ((s.cu j).ret dst v bJ)))
def St.skip(s:St)(dst:Option Nat):St:=s.ret dst .qn false
def HX.outs(h:HX)(s:St)(dst:Option Nat):Option (List St):=(h.act s).map λl=>l.map λp=>(s.cu p.2.2).ret dst p.1 p.2.1
def KZ:List St->(St->Prop)->Prop
 |[],_=>True
 |s::r,K=>K s/\KZ r K
def uy:∀{l:List St} {K:St->Prop},KZ l K->∀s∈l,K s
 |_::_,_,h,s,hs=>by
  rcases bn.1 hs with rfl|hs
  .exact h.1
  .exact uy h.2 s hs
def Ah:∀{l:List St} {K:St->Prop},(∀s∈l,K s)->KZ l K
 |[],_,_=>trivial
 |s::_,_,h=>⟨h s bT,Ah λt d=>h t (by simp[d])⟩
def CV(P:Program)(GL:aj)(s:St)(dst:Option Nat)(op:BY)(K:St->Prop):Prop:=
 match op with
 |.call f args=>args.all (λx=> !(s.val x).dY)=true/\EH P GL f (args.map s.val) s dst K
 |.qB x args=>match s.val x with
  |.fn f cap=>fK P f=true/\args.all (λx=> !(s.val x).dY)=true/\EH P GL f (args.map s.val++cap) s dst K
  |_=>False
 |.ex op=>match iF s dst op with
  |some s'=>K s'
  |none=>False
 |.bad=>False
 |.hx h=>match h.outs s dst with
  |some l=>KZ l K
  |none=>False
 |.mx m=>m.wp s λv o E=>K ((s.cu E).ret dst v o)
def vN(P:Program)(GL:aj):List BI->St->(St->Prop)->Prop
 |[],s,K=>K s
 |i::r,s,K=>match i.guard with
  |none=>CV P GL s i.dst i.op λs'=>vN P GL r s' K
  |some (t,want)=>match s.Z t with
   |.bool b=>if b=want then CV P GL s i.dst i.op λs'=>vN P GL r s' K else vN P GL r (s.skip i.dst) K
   |.qn=>vN P GL r (s.skip i.dst) K
   |_=>False
def w8(P:Program)(GL:aj)(hs:List Nat)(n:Nat)(ops:Array Oper)(o:Oper):Option BI:=
 match Ni P GL hs o,(match o.guard with
  |none=>some none
  |some (j,want)=>((ops[j]?).bind (·.dst)).map λt=>some (t,want))with
 |some d,some g=>if o.dst.all (· <n)then some ⟨g,o.dst,d⟩else none
 |_,_=>none
def Dy(P:Program)(GL:aj)(hs:List Nat)(n:Nat)(ops:Array Oper):List Nat->Option (List BI)
 |[]=>some []
 |i::r=>match(ops[i]?).bind (w8 P GL hs n ops),Dy P GL hs n ops r with
  |some b,some l=>some (b::l)
  |_,_=>none
section
variable {g:aY}{s s':St}{a:Act}{w:World}{o:Oper}{hs:List Nat}
def HW(s:St)(l:Loc):(s.dP l).n=s.n:=by cases l<;>rfl
def YH(s:St)(d:Nat)(x:eL):(s.x7 d x).n=s.n:=by cases x<;>rfl
def Qb{n:Nat}{v:V}{x:eL}(h:s.store n v x=some s'):s'.n=s.n:=by
 exact WL
def YI{d sz:Nat}{x y:eL}(h:s.app d sz x y=some s'):s'.n=s.n:=by
 unfold St.app at h;split at h
 .split at h
  .cases h;rfl
  .cases h
 .split at h
  .split at h
   .split at h
    .cases h;simp[HW]
    .cases h
   .cases h
  .cases h
 .cases h
def Jk{d:Option Nat}{f:BX}(h:iF s d f=some s'):s'.n=s.n:=by
 cases f<;>simp only[iF]at h
 .split at h
  .cases h;rfl
  .cases h;rfl
  .cases h
 .split at h
  .cases h;rfl
  .cases h
 .split at h
  .cases h;rfl
  .cases h
 .split at h
  .cases h;exact YH _ _ _
  .cases h
 .split at h
  .cases h;rfl
  .cases h
 .split at h
  .split at h
   .cases h;rfl
   .cases h
  .cases h
 .split at h
  .exact Qb h
  .cases h
 .split at h
  .obtain⟨_,_,rfl⟩:=dp h;rfl
  .cases h
 .split at h
  .split at h
   .cases h;rfl
   .cases h
  .cases h
 .split at h
  .exact YI h
  .cases h
 .split at h
  .split at h
   .cases h;rfl
   .cases h
  .cases h
def Ay(s:St)(d:Option Nat)(v:V)(bJ:Bool):(s.ret d v bJ).n=s.n:=by cases d<;>rfl
def Rel.retv(R:Rel GL g s a w){dst:Option Nat}(f:∀d,dst=some d->d<s.n){v:V}{bJ:Bool}{x:Value}(j:VR g v x)(l:∀d,dst=some d->bJ=true->dS g w (.var d) v x):
 Rel GL g (s.ret dst v bJ) (a.put dst x) w:=by
 cases dst with
 |none=>exact R
 |some d=>exact R.put (f d rfl) j.e0 bT (l d rfl)
abbrev FW(ro:Option Nat):Fence:={Fence.wide with round:=ro}
def FW.calls{ro:Option Nat}{n:Nat}{f:FuncId}{xs:Array Value}{w:World}{R:Ending->World->Prop}(h:Calls P f xs w R):CallsIn (FW ro) n P f xs w R:=(callsIn_wide (n:=n)).2 h
def K1(s:St)(h d:aK):(s.cu h).cu d=s.cu d:=by
 simp only[St.cu,St.mk.injEq,cK,bL];funext t;simp only[iP];cases s.lk t with
 |none=>rfl
 |some l=>by_cases h:PE l=true<;>simp[h]
def Oper.go(ro:Option Nat)(m:Nat)(P:Program)(o:Oper)(a:Act)(w:World)(next:Act->World->Prop)(Q:Exit->Act->World->Prop):Prop:=
 o.uponIn (FW ro) m P a next Q ((execOp a.eval o).run P w)
section
variable {ro:Option Nat}{m:Nat}
def Dz{f:FuncId}{args:List V}{xs:Array Value}{K:St->Prop}(h:EH P GL f args s o.dst K)(y:∀d,o.dst=some d->d<s.n)(R:Rel GL g s a w)
 (H:(execOp a.eval o).run P w=.ok (.enter f xs) w) (ai:xs.size=args.length) (aA:∀(j:Nat) v x,args[j]?=some v->xs[j]?=some x->VR g v x)
 {next:Act->World->Prop} {Q:Exit->Act->World->Prop} (D:∀g' s' a' w',K s'->s'.n=s.n->Rel GL g' s' a' w'->Step g w g' w'->next a' w'):Oper.go ro m P o a w next Q:=by
 have weak:∀{p:List V},aV args p->xs.size=p.length/\∀(j:Nat) v x,p[j]?=some v->xs[j]?=some x->VR g v x:=by
  intro p hle;refine⟨by rw[ai,hle.1],λj v x A L=>?_⟩;have aC:j<args.length:=by rw[hle.1];exact b0 A
  exact VR.weak (hle.2 j args[j] v bT A) (aA j args[j] x bT L)
 let l:Loc:=match o.dst with|some d=>.var d|none=>.ret
 unfold Oper.go;rw[H,Oper.uponIn_enter];refine⟨λe=>(by cases e),FW.calls ?_⟩;have pure:∀{g:aY} {s:St} {p:List V} {v:V} {bJ:Bool},Rel GL g s a w->(∀d,o.dst=some d->d<s.n)->xs.size=p.length->(∀(j:Nat) v x,p[j]?=some v->xs[j]?=some x->VR g v x)->Pure P GL f p v bJ->
  ∀{N:Ending->World->Prop},(∀x g' w',Rel GL g' (s.ret o.dst v bJ) (a.put o.dst x) w'->Step g w g' w'->N (.returned x) w')->Calls P f xs w N:=by
  intro g s p v bJ R y q z E N ab;obtain⟨aD,fv,E⟩:=E;refine E (g.dW true) w xs (Dn R true (λ_=>aD) q z) _ ?_;rintro a1 x a0 t g1 w' ⟨rfl,rfl⟩ out;have ac:=R.KT (l:=l) out.step out.gF;refine ab _ _ _ (ac.retv y (out.res.x0 (Dl out.step).1 (Dl out.step).2 fv) (λd hd' ho=>?_)) (Dm out.step);exact Xp
 have call:∀{g:aY} {s:St} {p:List V} {ad:V->Bool->aK->Prop},Rel GL g s a w->(∀d,o.dst=some d->d<s.n)->xs.size=p.length->(∀(j:Nat) v x,p[j]?=some v->xs[j]?=some x->VR g v x)->lB P GL f p s.E ad->
  ∀{N:Ending->World->Prop},(∀v bJ t x g' w',ad v bJ t->Rel GL g' ((s.cu t).ret o.dst v bJ) (a.put o.dst x) w'->Step g w g' w'->N (.returned x) w')->Calls P f xs w N:=by
  intro g s p ad R y q z hb N ab;refine hb (g.dW false) w xs (Dn R false bT q z) _ ?_;intro v x bJ t g1 w' u out;have ac:=R.KS (l:=l) out.step out.gF out.heap;refine ab _ _ _ _ _ _ u (ac.retv y (out.res.mono (AY out.step)) (λd hd' ho=>?_)) (Dm out.step);exact Xp
 rcases h with⟨p,v,bJ,hle,E,u⟩|⟨p,hle,hb⟩|⟨fz,E,p,aB,hle,hb⟩
 .obtain⟨q,z⟩:=weak hle;exact pure R y q z E λx g' w' r S=>D _ _ _ _ u (Ay _ _ _ _) r S
 .obtain⟨q,z⟩:=weak hle;exact call R y q z hb λv bJ t x g' w' u r S=>D _ _ _ _ u (Ay _ _ _ _) r S
 .have r:=R.aa8 aB;have q:xs.size=p.length/\∀(j:Nat) v x,p[j]?=some v->xs[j]?=some x->VR (g.cut w fz s.G) v x:=by
   refine⟨by rw[ai,hle.1],λj v x A L=>?_⟩;have aC:j<args.length:=by rw[hle.1];exact b0 A
   exact VR.ur rr (w7 R.heap aB.CU) (hle.2 j args[j] v bT A) (aA j args[j] x bT L)
  rcases hb with⟨v,bJ,E,u⟩|hb
  .exact pure r y q.1 q.2 E λx g' w' r S=>D _ _ _ _ u (Ay _ _ _ _) r (Step.cut.trans S)
  .exact call r y q.1 q.2 hb λv bJ t x g' w' u r S=>D _ _ _ _ u (Ay _ _ _ _) (by rw[K1]at r;exact r) (Step.cut.trans S)
end
section
variable {ro:Option Nat}{m:Nat}
def p0{f:FuncId}(h:fK P f=true)(xs:Array Value)(w:World):(callFunc f xs).run P w=.ok (.enter f xs) w:=by
 unfold fK at h;cases d:P.funcs[f]? with
 |none=>simp[d]at h
 |some fn=>
  simp only[d,be,tY,ne_eq]at h;have hb:fn.body.isNone=false:=by
   cases e:fn.body with
   |none=>simp[e]at h
   |some c=>rfl
  have j:(fn.name== "runtime.NumGoroutine")=false:=by simpa using h.2
  simp only[callFunc,Sem.run_bind,run_program,Result.andThen_ok,d,j,hb,bK,cH,Sem.run_pure]
def Jl(R:Rel GL g s a w){l:List Operand}{d:List eL}(h:yM GL l=some d)(r:d.all (λx=> !(s.val x).dY)=true):
 (l.map a.eval).toArray.size=(d.map s.val).length/\∀(j:Nat) v x,(d.map s.val)[j]?=some v->(l.map a.eval).toArray[j]?=some x->VR g v x:=by
 obtain⟨t,u⟩:=AK R h;refine⟨by simp[t],λj v x f p=>?_⟩;rw[bw]at f;simp only[fy,bw]at p;obtain⟨y,q,rfl⟩:=bS.1 f;obtain⟨z,A,rfl⟩:=bS.1 p;refine(u j y z q A).od ?_;intro i k m D;have:=bO.1 r y (bW q);rw[D]at this;simp[V.dY]at this
def Qc{H:BY}{K:St->Prop}(h:YG P GL hs o=some H)(L:∀d,o.dst=some d->d<s.n)(l:CV P GL s o.dst H K)(R:Rel GL g s a w)
 {next:Act->World->Prop} {Q:Exit->Act->World->Prop} (z:∀g' s' a' w',K s'->s'.n=s.n->Rel GL g' s' a' w'->Step g w g' w'->next a' w'):Oper.go ro m P o a w next Q:=by
 have p:(Wu P GL hs o).map BY.ex=some H->Oper.go ro m P o a w next Q:=by
  intro hm;obtain⟨b,hb,rfl⟩:=dp hm;simp only[CV]at l;split at l
  next s' N=>
   obtain⟨x,w',g',u,aC,aD⟩:=MZ hb L N R;unfold Oper.go;rcases u with u|⟨u,rfl⟩
   .rw[u,Oper.uponIn_value];exact z g' s' _ w' l (Jk N) aC aD
   .rw[u,Oper.uponIn_skip];exact z g' s' _ w' l (Jk N) aC aD
  .cases l
 unfold YG at h;split at h
 next c hop=>
  have hm:c.args.map a.eval=(c.args.toList.map a.eval).toArray:=by apply jI;simp
  split at h
  next f q=>
   split at h
   next r=>obtain⟨args,ab,rfl⟩:=dp h;obtain⟨ac,ad⟩:=l;obtain⟨A,ai⟩:=Jl R ab ac;refine Dz ad L R ?_ A ai z;unfold execOp;rw[hop];simp only[resolve,q,hm];show(do let d<-Deferred.ofValue (.func (.func f) #[] #[]) (c.args.toList.map a.eval).toArray;invoke d.target d.args:Sem Next).run P w=_;simp only[Deferred.ofValue,pure_bind,invoke];rw[p0 r];simp
   .cases h
  next x a4 q=>
   split at h
   next y a1=>
    obtain⟨args,ab,rfl⟩:=dp h;simp only[CV]at l;split at l
    next f cap aA=>
     obtain⟨r,ac,ad⟩:=l;obtain⟨A,ai⟩:=Jl R ab ac;have hx:=cv R a1;rw[aA]at hx;obtain⟨xs,a0,a2,a3⟩:=hx.fn
     .refine Dz (xs:=(c.args.toList.map a.eval).toArray++xs) ad L R ?_ (by
       simp only[kR,ae,A,a2]) (λj v x D t=>?_) z
      .unfold execOp;rw[hop];simp only[resolve,q,hm,a0,Deferred.ofValue,pure_bind,invoke];rw[p0 r];simp
      .rw[fG]at D;rw[kX]at t;rw[A]at t;split at D
       next aB=>rw[ax aB]at t;exact ai j v x D t
       next aB=>rw[al aB]at t;exact a3 _ v x D t
    .cases l
   .cases h
  .exact p h
 .exact p h
def HY{c:Call}(h:o.op=.defer c):Ni P GL hs o=some .bad:=by
 simp[Ni,YG,Wu,yR,P4,P5,h]
def FZ{r:BY}{K:St->Prop}(h:Ni P GL hs o=some r)(hd:∀d,o.dst=some d->d<s.n)(f:CV P GL s o.dst r K)(R:Rel GL g s a w)
 {next:Act->World->Prop} {Q:Exit->Act->World->Prop} (hn:∀g' s' a' w',K s'->s'.n=s.n->Rel GL g' s' a' w'->Step g w g' w'->next a' w'):o.wpIn (FW ro) m P a w next Q:=by
 refine⟨λ_ _=>trivial,?_⟩;have q:Oper.semAt ro a.eval o=execOp a.eval o:=by
  refine Oper.semAt_eq _ _ _ λc u=>?_;rw[HY u]at h;cases h;exact f
 show o.uponIn (FW ro) m P a next Q ((Oper.semAt ro a.eval o).run P w);rw[q];show Oper.go ro m P o a w next Q;simp only[Ni,co]at h;cases ho:YG P GL hs o with
 |none=>
  rw[ho]at h;simp only at h;split at h
  next hx t=>
   subst h;simp only[CV,HX.outs]at f;cases j:hx.act s with
   |none=>simp[j]at f
   |some l=>
    simp only[j,bF]at f;obtain⟨p,E,x,w',g',h1,h2,h3,h4,h5⟩:=YD t j R;have hK:=uy f ((s.cu p.2.2).ret o.dst p.1 p.2.1) (cB.2 ⟨p,E,rfl⟩);exact WK
  .split at h
   next m hm=>subst h;obtain⟨v,bJ,y,hK,x,w',g',h1,h2,h3,h4,h5⟩:=YE hm f R;exact WK
   .subst h;exact f.elim
 |some b=>rw[ho]at h;simp at h;subst h;exact Qc ho hd f R hn
def Jm(R:Rel GL g s a w){dst:Option Nat}(f:∀d,dst=some d->d<s.n):Rel GL g (s.skip dst) (a.put dst undef) w:=
 R.retv f .qn bT
def HZ(s:St)(d:Option Nat):(s.skip d).n=s.n:=Ay _ _ _ _
def Bd{ops:Array Oper}:∀{l:List Nat} {L:List BI} {s:St} {K:St->Prop} {g:aY} {a:Act} {w:World},Dy P GL hs s.n ops l=some L->vN P GL L s K->Rel GL g s a w->
 ∀{Q:Exit->Act->World->Prop},(∀g' s' a' w',K s'->s'.n=s.n->Rel GL g' s' a' w'->Step g w g' w'->Q .normal a' w')->wpOpsIn (FW ro) m P ops Q l a w
 |[],L,s,K,g,a,w,j,hv,R,Q,N=>by
  simp[Dy]at j;subst j;exact N g s a w hv rfl R (Step.refl g w)
 |i::l,L,s,K,g,a,w,j,hv,R,Q,N=>by
  simp only[Dy]at j;split at j
  next b ac p aA=>
   cases j;cases ai:ops[i]? with
   |none=>simp[ai]at p
   |some o=>
    simp only[ai,gx,w8]at p;split at p
    next aC gd aB WG=>
     split at p
     next t=>
      cases p;have ab:∀d,o.dst=some d->d<s.n:=by
       intro d ab;rw[ab]at t;simpa using t
      have Ep:CV P GL s o.dst aC (λs'=>vN P GL ac s' K)->o.wpIn (FW ro) m P a w (wpOpsIn (FW ro) m P ops Q l) Q:=λf=>
       FZ aB ab f R (λg' s' a' w' aD ad a0 a1=>Bd (by rw[ad];exact aA) aD a0 (λu y z A q r D H=>N u y z A q (r.trans ad) D (a1.trans H)))
      have Ax:vN P GL ac (s.skip o.dst) K->wpOpsIn (FW ro) m P ops Q l (a.put o.dst undef) w:=λf=>
       Bd (by rw[HZ];exact aA) f (Jm R ab) (λu y z A q r D H=>N u y z A q (r.trans (HZ _ _)) D H)
      simp only[wpOpsIn,ai];simp only[vN]at hv;exact bb0
     .cases p
    .cases p
  .cases j
end
end
end
section
variable {GL:Nat->Option (List V)}{P:Program}
def eL.reads:eL->List Nat
 |.tmp t=>[t]
 |_=>[]
def uz:Option eL->List Nat
 |some x=>x.reads
 |none=>[]
def ru:List eL->List Nat
 |[]=>[]
 |x::r=>x.reads++ru r
def EI:List (Nat×Nat×eL)->List Nat
 |[]=>[]
 |(_,_,x)::r=>x.reads++EI r
def Be:List (Nat×eL)->List Nat
 |[]=>[]
 |(_,x)::r=>x.reads++Be r
def wa.reads:wa->List Nat
 |.move x|.same x|.nilCheck x|.un _ x|.toInt _ x|.Dc x|.nL _ x|.fieldAddr _ x|.field _ _ _ x|.len x|.cap x|.MJ x|.extract x _|.wT _ x|.load _ _ x=>x.reads
 |.pick c a b=>c.reads++(a.reads++b.reads)
 |.bin _ x y|.Ws _ x y|.Wt _ x y|.eqc _ _ x y|.sy _ x y|.rX _ _ x y|.x1 x y|.uc _ _ _ x y|.min2 x y|.max2 x y=>x.reads++y.reads
 |.cut _ x lo d|.Eu x lo d=>x.reads++(uz lo++uz d)
 |.MK _=>[]
 |.build _ parts=>EI parts
 |.AG _ caps=>ru caps
def ga(s s':St)(l:List Nat):Prop:=∀t∈l,s'.Z t=s.Z t
def ga.append{s s':St}{l m:List Nat}:ga s s' (l++m)↔ga s s' l/\ga s s' m:=by
 simp only[ga,aN,or_imp,forall_and]
def ga.val{s s':St}{x:eL}(h:ga s s' x.reads):s'.val x=s.val x:=by
 cases x with
 |tmp t=>exact h t (by simp[eL.reads])
 |const v=>rfl
 |kp c=>rfl
def Bf{s s':St}{lo a:Option eL}(d:ga s s' (uz lo))(h2:ga s s' (uz a))(n:Nat):tu s' n lo a=tu s n lo a:=by
 cases lo<;>cases a<;>simp only[uz]at d h2<;>simp only[tu]
 .rw[h2.val]
 .rw[d.val]
 .rw[d.val,h2.val]
def F0{s s':St}{lo a:Option eL}(d:ga s s' (uz lo))(h2:ga s s' (uz a))(n c:Nat):ud s' n c lo a=ud s n c lo a:=by
 cases lo<;>cases a<;>simp only[uz]at d h2<;>simp only[ud]
 .rw[h2.val]
 .rw[d.val]
 .rw[d.val,h2.val]
def uA{s s':St}:∀{parts:List (Nat×Nat×eL)} {cells:List V},ga s s' (EI parts)->jS s' cells parts=jS s cells parts
 |[],_,_=>rfl
 |(off,n,x)::r,cells,h=>by
  simp only[EI,ga.append]at h;simp only[jS,h.1.val];split
  .exact uA h.2
  .rfl
def rv{s s':St}{sz:Nat}:∀{parts:List (Nat×eL)} {xs:List V},ga s s' (Be parts)->iQ s' sz xs parts=iQ s sz xs parts
 |[],_,_=>rfl
 |(i,x)::r,xs,h=>by
  simp only[Be,ga.append]at h;simp only[iQ,h.1.val];split
  .exact rv h.2
  .rfl
def r3{s s':St}:∀{l:List eL},ga s s' (ru l)->l.map s'.val=l.map s.val
 |[],_=>rfl
 |x::r,h=>by
  simp only[ru,ga.append]at h;simp only[bt,h.1.val,r3 h.2]
def r4{s s':St}(p:V->Bool):∀{l:List eL},ga s s' (ru l)->l.all (λx=>p (s'.val x))=l.all (λx=>p (s.val x))
 |[],_=>rfl
 |x::r,h=>by
  simp only[ru,ga.append]at h;simp only[bR,h.1.val,r4 p h.2]
def iD(s s':St):Prop:=∀u cs,s.iO u=some cs->s'.iO u=some cs
def K2{s s':St}{b:wa}{v:V}(h:ga s s' b.reads)(j:(∃g n x,b=.load g n x)->iD s s')(E:dv s b=some v):dv s' b=some v:=by
 cases b with
 |load ag n x=>
  have hx:=ga.val (x:=x) h;have d:=j ⟨_,_,_,rfl⟩;cases ag
  .simp only[dv]at E ⊢
   rw[hx];split at E
   next c r e=>rw[d _ _ e];exact E
   .cases E
  .simp only[dv]at E ⊢
   rw[hx];split at E
   next cs e=>rw[d _ _ e];exact E
   .cases E
 |pick c a b=>
  simp only[wa.reads,ga.append]at h;simpa only[dv,h.1.val,h.2.1.val,h.2.2.val]using E
 |build z parts=>simpa only[dv,uA (parts:=parts) h]using E
 |AG f caps=>simpa only[dv,r3 (l:=caps) h,r4 V.one (l:=caps) h]using E
 |cut sz x lo o=>
  simp only[wa.reads,ga.append]at h;simpa only[dv,h.1.val,Bf h.2.1 h.2.2,F0 h.2.1 h.2.2]using E
 |Eu x lo o=>
  simp only[wa.reads,ga.append]at h;simpa only[dv,h.1.val,Bf h.2.1 h.2.2]using E
 |MK n=>exact E
 |bin op x y=>simp only[wa.reads,ga.append]at h;simpa only[dv,h.1.val,h.2.val]using E
 |Ws op x y=>simp only[wa.reads,ga.append]at h;simpa only[dv,h.1.val,h.2.val]using E
 |Wt op x y=>simp only[wa.reads,ga.append]at h;simpa only[dv,h.1.val,h.2.val]using E
 |eqc op p x y=>simp only[wa.reads,ga.append]at h;simpa only[dv,h.1.val,h.2.val]using E
 |sy sz x y=>simp only[wa.reads,ga.append]at h;simpa only[dv,h.1.val,h.2.val]using E
 |rX n sz x y=>simp only[wa.reads,ga.append]at h;simpa only[dv,h.1.val,h.2.val]using E
 |x1 x y=>simp only[wa.reads,ga.append]at h;simpa only[dv,h.1.val,h.2.val]using E
 |uc ag n sz x y=>simp only[wa.reads,ga.append]at h;cases ag<;>simpa only[dv,h.1.val,h.2.val]using E
 |min2 x y=>simp only[wa.reads,ga.append]at h;simpa only[dv,h.1.val,h.2.val]using E
 |max2 x y=>simp only[wa.reads,ga.append]at h;simpa only[dv,h.1.val,h.2.val]using E
 |field ag off n x=>have hx:=ga.val (x:=x) h;cases ag<;>simpa only[dv,hx]using E
 |move x=>have hx:=ga.val (x:=x) h;simpa only[dv,hx]using E
 |same x=>have hx:=ga.val (x:=x) h;simpa only[dv,hx]using E
 |nilCheck x=>have hx:=ga.val (x:=x) h;simpa only[dv,hx]using E
 |un op x=>have hx:=ga.val (x:=x) h;simpa only[dv,hx]using E
 |toInt k x=>have hx:=ga.val (x:=x) h;simpa only[dv,hx]using E
 |Dc x=>have hx:=ga.val (x:=x) h;simpa only[dv,hx]using E
 |nL n x=>have hx:=ga.val (x:=x) h;simpa only[dv,hx]using E
 |fieldAddr off x=>have hx:=ga.val (x:=x) h;simpa only[dv,hx]using E
 |len x=>have hx:=ga.val (x:=x) h;simpa only[dv,hx]using E
 |cap x=>have hx:=ga.val (x:=x) h;simpa only[dv,hx]using E
 |MJ x=>have hx:=ga.val (x:=x) h;simpa only[dv,hx]using E
 |extract x i=>have hx:=ga.val (x:=x) h;simpa only[dv,hx]using E
 |wT t x=>have hx:=ga.val (x:=x) h;simpa only[dv,hx]using E
def BX.reads:BX->List Nat
 |.val b=>b.reads
 |.Jd x|.ld x|.x7 x|.box _ x|.HK _ x|.sA x=>x.reads
 |.alloc _=>[]
 |.store _ x y|.app _ x y=>x.reads++y.reads
 |.uk _ _ _ parts=>Be parts
def HX.reads:HX->List Nat
 |.A2 _|.mkMap=>[]
 |.eh _ x|.wZ _ x=>x.reads
 |.lookup _ _ _ _ m k|.mapEntry _ _ _ m k=>m.reads++k.reads
 |.sD _ _ m k v|.entryStore m k v=>m.reads++(k.reads++v.reads)
def K3{s s':St}{h:HX}(a:ga s s' h.reads)(d:s'.E=s.E):h.act s'=h.act s:=by
 cases h with
 |A2 zs=>simp only[HX.act,d]
 |mkMap=>simp only[HX.act,d]
 |eh n x=>have:=ga.val (x:=x) a;simp only[HX.act,d,this]
 |wZ n x=>have:=ga.val (x:=x) a;simp only[HX.act,d,this]
 |lookup f ag z ok m k=>simp only[HX.reads,ga.append]at a;simp only[HX.act,d,a.1.val,a.2.val]
 |mapEntry f ag z m k=>simp only[HX.reads,ga.append]at a;simp only[HX.act,d,a.1.val,a.2.val]
 |sD f ag m k v=>simp only[HX.reads,ga.append]at a;simp only[HX.act,d,a.1.val,a.2.1.val,a.2.2.val]
 |entryStore m k v=>simp only[HX.reads,ga.append]at a;simp only[HX.act,d,a.1.val,a.2.1.val,a.2.2.val]
def MX.reads:MX->List Nat
 |.wn _ _ x y|.yW _ _ x y|.copy _ x y|.Wv _ x y|.KY x y=>x.reads++y.reads
 |.clear _ _ x|.jG x|.next x|.entry x=>x.reads
 |.Tt _ _ _ a=>Be a
def Nj{s s':St}{m:MX}{Q:V->Bool->aK->Prop}(a:ga s s' m.reads)(d:s'.E=s.E):m.wp s' Q=m.wp s Q:=by
 cases m with
 |wn sz zs x y=>simp only[MX.reads,ga.append]at a;simp only[MX.wp,d,a.1.val,a.2.val]
 |yW sz zs x y=>simp only[MX.reads,ga.append]at a;simp only[MX.wp,d,a.1.val,a.2.val]
 |copy sz x y=>simp only[MX.reads,ga.append]at a;simp only[MX.wp,d,a.1.val,a.2.val]
 |clear sz zs x=>have:=ga.val (x:=x) a;simp only[MX.wp,d,this]
 |jG x=>have:=ga.val (x:=x) a;simp only[MX.wp,d,this]
 |Wv sz x y=>simp only[MX.reads,ga.append]at a;simp only[MX.wp,d,a.1.val,a.2.val]
 |KY x y=>simp only[MX.reads,ga.append]at a;simp only[MX.wp,d,a.1.val,a.2.val]
 |Tt sz z n f=>simp only[MX.wp,d,rv (parts:=f) a]
 |next x=>have:=ga.val (x:=x) a;simp only[MX.wp,d,this]
 |entry x=>have:=ga.val (x:=x) a;simp only[MX.wp,d,this]
def BY.reads:BY->List Nat
 |.ex b=>b.reads
 |.call _ args=>ru args
 |.qB x args=>x.reads++ru args
 |.bad=>[]
 |.hx h=>h.reads
 |.mx m=>m.reads
def Bg:Option (Nat×Bool)->List Nat
 |some (t,_)=>[t]
 |none=>[]
def BI.reads(b:BI):List Nat:=Bg b.guard++b.op.reads
def BX.qC:Option Nat->BX->Bool
 |_,.val _=>true
 |some _,.Jd _|some _,.ld _|some _,.uk .. |some _,.HK .. |some _,.sA _=>true
 |_,_=>false
def BX.sI:BX->Bool
 |.ld _|.val (.load ..)=>true
 |_=>false
def BX.sJ:BX->Bool
 |.store .. =>true
 |_=>false
def BX.act(s:St):BX->Option (V×Option Loc×Bool)
 |.val b=>(dv s b).map λv=>(v,none,false)
 |.Jd x=>some (s.val x,varOf x,false)
 |.ld a=>match s.iO (s.val a)with
  |some (c::_)=>some (c,yT (s.val a),false)
  |_=>none
 |.uk sz z n parts=>(iQ s sz (List.replicate n z) parts).map λd=>(.sl sz d,none,true)
 |.HK n x=>if jW n (s.val x)=true then some (.ep (s.val x).cells,none,false)else none
 |.sA x=>match s.val x with
  |.str l=>if l.length<=iv then some (.sl 1 (l.map λb=>.int .u8 b.toNat),none,true)else none
  |_=>none
 |_=>none
def St.Bh(s:St)(dst:Option Nat)(v:V)(l:Option Loc)(bJ:Bool):St:=
 match dst with
 |some d=>s.put d v l bJ
 |none=>s
def yg{s:St}{dst:Option Nat}{a:BX}(h:a.qC dst=true):iF s dst a=(a.act s).map λ(v,l,o)=>s.Bh dst v l o:=by
 cases dst with
 |none=>cases a<;>simp[BX.qC]at h<;>simp only[iF,BX.act]<;>(rename_i b;cases dv s b<;>rfl)
 |some d=>
  cases a<;>simp[BX.qC]at h<;>simp only[iF,BX.act]
  next b=>cases dv s b<;>rfl
  .rfl
  next x=>rcases s.iO (s.val x)with _|_|⟨c,r⟩<;>rfl
  next sz z n parts=>cases iQ s sz (List.replicate n z) parts<;>rfl
  next n x=>by_cases h:jW n (s.val x)=true<;>simp[h]<;>rfl
  next x=>cases s.val x<;>simp;rename_i l;by_cases f:l.length<=iv<;>simp[f]<;>rfl
def F1{s s':St}{d:BX}{r:V×Option Loc×Bool}(h:ga s s' d.reads)(f:d.sI=true->iD s s')(a:d.act s=some r):d.act s'=some r:=by
 cases d<;>simp only[BX.act]at a ⊢ <;>try(cases a;done)
 next b=>obtain⟨v,j,rfl⟩:=dp a;rw[K2 h (by rintro⟨_,_,_,rfl⟩;exact f rfl) j];rfl
 next x=>rw[ga.val (x:=x) h];exact a
 next x=>
  rw[ga.val (x:=x) h];split at a
  next c l e=>rw[f rfl _ _ e];exact a
  .cases a
 next sz z n parts=>rw[rv (parts:=parts) h];exact a
 next n x=>rw[ga.val (x:=x) h];exact a
 next x=>rw[ga.val (x:=x) h];exact a
def F2{s:St}{d:BX}{v:V}{l:Loc}{o:Bool}(a:d.act s=some (v,some l,o)):(∃t,l=.var t/\t∈d.reads)\/(d.sI=true/\∀t,l≠.var t):=by
 cases d<;>simp only[BX.act]at a<;>try(cases a;done)
 .obtain⟨_,_,e⟩:=dp a;cases e
 next x=>cases x<;>simp[varOf]at a;obtain⟨_,rfl,_⟩:=a;exact .inl ⟨_,rfl,by simp[BX.reads,eL.reads]⟩
 next x=>
  split at a
  .simp only[co,ek]at a;obtain⟨_,e,_⟩:=a;refine .inr ⟨rfl,?_⟩;intro t f;subst f
   revert e;cases s.val x<;>simp[yT]
  .cases a
 .obtain⟨_,_,e⟩:=dp a;cases e
 .split at a<;>cases a
 .split at a
  .split at a<;>cases a
  .cases a
def put_comm{s:St}{d e:Nat}{v v':V}{l l':Option Loc}{o o':Bool}(hde:d≠e)(f:l≠some (.var e))(h2:l'≠some (.var d)):
 (s.put d v l o).put e v' l' o'=(s.put e v' l' o').put d v l o:=by
 have hed:e≠d:=λh=>hde h.symm;unfold St.put;simp only[St.mk.injEq,cK,bL]
 and_intros
 .exact Xf
 .funext t;by_cases ht:t=e
  .subst ht;simp only[eQ,unlink,al hed,bP];by_cases a:l'=some (.var t)
   .simp[a]
   .simp[a,h2]
  .by_cases ht':t=d
   .subst ht';simp only[eQ,unlink,al hde,bP];by_cases a:l=some (.var t)
    .simp[a]
    .simp[a,f]
   .simp only[eQ,unlink,al ht,al ht'];by_cases a:s.lk t=some (.var d)<;>by_cases j:s.lk t=some (.var e)<;>simp[a,j,hed,hde]
 .exact Xf
def w9{s:St}{d:Nat}{v:V}{l:Option Loc}{o:Bool}{r:List Nat}(h:d∉r):ga (s.put d v l o) s r:=by
 intro t a;have:t≠d:=λe=>h (e▸a);simp[this]
def K4{s:St}{d:Nat}{v:V}{l:Option Loc}{o:Bool}:iD (s.put d v l o) s:=λu cs h=>by
 cases u<;>simp only[St.iO]at h ⊢ <;>exact h
def iD.refl(s:St):iD s s:=λ_ _ h=>h
def iD.put(s:St)(d:Nat)(v:V)(l:Option Loc)(o:Bool):iD s (s.put d v l o):=λu cs h=>by
 cases u<;>simp only[St.iO]at h ⊢ <;>exact h
def xb(s:St)(d:Nat)(cells:List V):iD s (s.fD d cells):=λu cs h=>by
 cases u<;>simp only[St.iO]at h ⊢ <;>try exact h
 rename_i st a off;split at h
 next l=>
  have f:¬(st=d/\a=s.G d):=λo=>by obtain⟨rfl,rfl⟩:=o;omega
  have j:a< (s.fD d cells).G st:=by
   simp only[St.fD,eQ];split
   next p=>subst p;omega
   .exact l
  simp only[j,bP];have:(s.fD d cells).loc st a=s.loc st a:=by simp only[St.fD,l2,al f]
  rw[this];exact h
 .cases h
def Bi{s:St}{d e:Nat}{v:V}{l:Option Loc}{o:Bool}{cells:List V}:(s.put d v l o).fD e cells=(s.fD e cells).put d v l o:=rfl
def Qd{s:St}{d e:Nat}{v:V}{l:Option Loc}{o:Bool}{x:eL}(a:d≠e)(hx:d∉x.reads)(j:l≠some (.var e)):
 (s.put d v l o).x7 e x=(s.x7 e x).put d v l o:=by
 cases x with
 |tmp t=>
  have f:t≠d:=λh=>hx (by simp[eL.reads,h]);simp only[St.x7];rw[show(s.put d v l o).Z t=s.Z t by simp[f]];have:=put_comm (s:=s) (v:=v) (v':=s.Z t) (l:=l) (l':=none) (o:=o) (o':=false) a j bT;have p:((s.put d v l o).put e (s.Z t) none false).Z=((s.put e (s.Z t) none false).put d v l o).Z:=by rw[this]
  have q:((s.put d v l o).put e (s.Z t) none false).lk=((s.put e (s.Z t) none false).put d v l o).lk:=by rw[this]
  unfold St.put at p q ⊢
  simp only[St.mk.injEq,cK,bL];refine⟨p,q,?_⟩;funext k;simp only[eQ];by_cases r:k=e
  .subst r;simp[f,hY a]
  .by_cases u:k=d
   .subst u;simp[a,hY f]
   .simp[r,u]
 |const c=>exact put_comm a j bT
 |kp c=>exact put_comm a j bT
def xc{lk:Nat->Option Loc}{d:Nat}{l:Option Loc}(q:∀k,l=some k->∃t,k=.var t)(inr:Loc->Bool)(o:∀t,inr (.var t)=false):
 iP (eQ (unlink lk (.var d)) d (if l=some (.var d)then none else l)) inr=eQ (unlink (iP lk inr) (.var d)) d (if l=some (.var d)then none else l):=by
 funext t;by_cases f:t=d
 .subst f;simp only[iP,bh];by_cases a:l=some (.var t)
  .simp[a]
  .simp only[al a];cases l with
   |none=>rfl
   |some k=>obtain⟨u,rfl⟩:=q k rfl;simp[o]
 .rw[bD _ _ f];by_cases a:lk t=some (.var d)
  .have p:eQ (unlink lk (.var d)) d (if l=some (.var d)then none else l) t=none:=by rw[bD _ _ f];simp[unlink,a]
   have j:iP lk inr t=some (.var d):=by unfold iP;rw[a];simp[o]
   unfold iP at j ⊢;rw[p];simp only[unlink];unfold iP at*;rw[j];simp
  .have p:eQ (unlink lk (.var d)) d (if l=some (.var d)then none else l) t=lk t:=by rw[bD _ _ f];simp[unlink,a]
   have j:iP lk inr t≠some (.var d):=λe=>a (fC e).1;simp only[unlink,al j];unfold iP;rw[p]
def K5{s a:St}{d n:Nat}{v u:V}{l:Option Loc}{o:Bool}{x:eL}(hx:d∉x.reads)(p:∀k,l=some k->∃t,k=.var t)(h:(s.put d v l o).store n u x=some a):
 ∃s2,s.store n u x=some s2/\a=s2.put d v l o/\∀t,s2.Z t=s.Z t:=by
 have f:(s.put d v l o).val x=s.val x:=by
  cases x with
  |tmp t=>
   have:t≠d:=λe=>hx (by simp[eL.reads,e]);simp[St.val,this]
  |const c=>rfl
  |kp c=>rfl
 have hcut:=λinr j=>xc (lk:=s.lk) (d:=d) p inr j;have hfl:∀t,t≠d->eQ (eQ s.fl d o) t false=eQ (eQ s.fl t false) d o:=by
  intro t q;funext k;simp only[eQ];by_cases r:k=t<;>by_cases y:k=d<;>simp_all
 unfold St.store at h ⊢
 cases u with
 |lp st z off=>
  simp only[f,St.I9,St.I8]at h ⊢
  split at h
  next hcnd=>
   rw[ax hcnd];cases h;refine⟨_,rfl,?_,?_⟩
   .split
    .cases x with
     |tmp t=>
      have htd:t≠d:=λe=>hx (by simp[eL.reads,e]);simp only[St.oh,St.h8,St.put,St.mk.injEq,cK,bL];exact Xz
     |const c=>simp only[St.oh,St.h8,St.put,St.mk.injEq,cK,bL];exact hcut _ (λ_=>rfl)
     |kp c=>simp only[St.oh,St.h8,St.put,St.mk.injEq,cK,bL];exact hcut _ (λ_=>rfl)
    .simp only[St.h8,St.put,St.mk.injEq,cK,bL];exact hcut _ (λ_=>rfl)
   .intro t;split<;>(try cases x)<;>rfl
  .cases h
 |bp id off=>
  simp only[f,St.MM]at h ⊢
  split at h
  next cells hb=>
   split at h
   next hcnd=>
    rw[ax hcnd];cases h;refine⟨_,rfl,?_,?_⟩
    .split
     .cases x with
      |tmp t=>
       have htd:t≠d:=λe=>hx (by simp[eL.reads,e]);simp only[St.wX,St.j1,St.put,St.mk.injEq,cK,bL];exact Xz
      |const c=>simp only[St.wX,St.j1,St.put,St.mk.injEq,cK,bL];exact hcut _ (λ_=>rfl)
      |kp c=>simp only[St.wX,St.j1,St.put,St.mk.injEq,cK,bL];exact hcut _ (λ_=>rfl)
     .simp only[St.j1,St.put,St.mk.injEq,cK,bL];exact hcut _ (λ_=>rfl)
    .intro t;split<;>(try cases x)<;>rfl
   .cases h
  .cases h
 |_=>simp at h
end
section
variable {GL:Nat->Option (List V)}{P:Program}
def yY(s:St)(l:Loc):(s.dP l).Z=s.Z:=by cases l<;>rfl
def CW(s:St)(l:Loc):iD s (s.dP l):=λu cs h=>by
 cases l<;>exact h
def F3{s:St}{d:Nat}{v:V}{l:Option Loc}{o:Bool}{k:Loc}(h:k≠.var d):(s.put d v l o).dP k=(s.dP k).put d v l o:=by
 cases k with
 |var t=>
  have a:t≠d:=λe=>h (by rw[e]);simp only[St.dP,St.put,St.mk.injEq,cK,bL];funext j;simp only[eQ];by_cases f:j=t<;>by_cases p:j=d<;>simp_all
 |cell st q j=>rfl
 |iK id j=>rfl
 |ret=>rfl
def K6{s:St}{d t:Nat}{v:V}{l:Option Loc}{o:Bool}{k:Loc}(a:t≠d)(h:(s.put d v l o).pZ t=some k):s.pZ t=some k/\k≠.var d:=by
 unfold St.pZ at*
 simp only[St.AH,al a]at h;by_cases p:s.fl t=true
 .simp only[p,bP]at h ⊢
  cases h;exact⟨rfl,λe=>a (by injection e)⟩
 .simp only[p]at h ⊢
  have r:(s.put d v l o).lk t=if s.lk t=some (.var d)then none else s.lk t:=by
   simp only[St.put,bD _ _ a,unlink]
  rw[r]at h;by_cases f:s.lk t=some (.var d)
  .simp[f]at h
  .simp only[f,cH]at h;cases j:s.lk t with
   |none=>simp[j]at h
   |some q=>
    simp only[j]at h ⊢
    have y:q≠.var d:=λe=>f (by rw[j,e]);have z:(s.put d v l o).iE q=s.iE q:=by
     cases q with
     |var u=>
      have:u≠d:=λe=>y (by rw[e]);simp[St.iE,this]
     |_=>rfl
    rw[z]at h;by_cases A:s.iE q=true
    .simp only[A,bP]at h ⊢
     cases h;exact⟨rfl,y⟩
    .simp[A]at h
def Ai{s:St}{d:Nat}{v:V}{l:Option Loc}{o:Bool}{x:eL}(h:d∉x.reads):(s.put d v l o).val x=s.val x:=(ga.val (x:=x) (w9 h)).symm
def Qe{s q:St}{d e sz:Nat}{v:V}{l:Option Loc}{o:Bool}{x y:eL}(a:d≠e)(hx:d∉x.reads)(H:d∉y.reads)(r:l≠some (.var e))
 (h:(s.put d v l o).app e sz x y=some q):∃s2,s.app e sz x y=some s2/\q=s2.put d v l o/\(∀t,t≠e->s2.Z t=s.Z t)/\iD s s2:=by
 unfold St.app at h ⊢
 simp only[Ai hx,Ai H]at h;split at h
 next K f j=>
  split at h
  next hlen=>cases h;simp only[f,j,ax hlen];exact⟨_,rfl,put_comm a r bT,λt p=>by simp[p],.put _ _ _ _ _⟩
  .cases h
 next R ab K f j=>
  split at h
  next L=>
   split at h
   next t=>
    have z:t≠d:=λe=>hx (by simp[eL.reads,e]);split at h
    next k N=>cases h;obtain⟨A,D⟩:=K6 z N;simp only[f,j,ax L,A];refine⟨_,rfl,?_,λt p=>by simp[p,yY],λu cs Q=>iD.put _ _ _ _ _ _ _ (CW s k u cs Q)⟩;rw[F3 D];exact put_comm a r bT
    .cases h
   .cases h
  .cases h
 .cases h
def H0{s Q:St}{d:Nat}{v:V}{l:Option Loc}{o:Bool}{dst:Option Nat}{p:BX}(h:iF (s.put d v l o) dst p=some Q)(A:d∉p.reads)(R:dst≠some d)
 (D:∀e,dst=some e->l≠some (.var e)) (ai:p.sJ=true->∀k,l=some k->∃t,k=.var t):
 ∃s2,iF s dst p=some s2/\Q=s2.put d v l o/\(∀t,dst≠some t->s2.Z t=s.Z t)/\(p.sJ=false->iD s s2):=by
 by_cases r:p.qC dst=true
 .rw[yg r]at h ⊢
  obtain⟨⟨aC,aD,a0⟩,ab,rfl⟩:=dp h;have ac:=F1 (w9 A) (λ_=>K4) ab;rw[ac];refine⟨_,rfl,?_⟩;cases dst with
  |none=>exact⟨rfl,λ_ _=>rfl,λ_=>.refl s⟩
  |some e=>
   have f:d≠e:=λa=>R (by rw[a]);refine⟨put_comm f (D e rfl) ?_,λt j=>?_,λ_=>.put _ _ _ _ _⟩
   .intro a;subst a;rcases F2 ab with⟨t,aA,H⟩|⟨_,H⟩
    .cases aA;exact A H
    .exact H _ rfl
   .have:t≠e:=λa=>j (by rw[a]);simp[St.Bh,this]
 .cases dst with
  |none=>
   cases p<;>simp[BX.qC]at r<;>simp only[iF]at h<;>try(cases h;done)
   rename_i n addr x;have q:d∉addr.reads/\d∉x.reads:=by simpa[BX.reads]using A
   rw[Ai q.1]at h;obtain⟨s2,K,L,N⟩:=K5 q.2 (ai rfl) h;exact⟨s2,K,L,λt _=>N t,λa=>by simp[BX.sJ]at a⟩
  |some e=>
   have f:d≠e:=λa=>R (by rw[a]);cases p<;>simp[BX.qC]at r<;>simp only[iF]at h ⊢ <;>try(cases h;done)
   next x=>
    cases h;refine⟨_,rfl,Qd f A (D e rfl),λt j=>?_,λ_ u cs z=>?_⟩
    .have:t≠e:=λa=>j (by rw[a]);cases x<;>simp[St.x7,this]
    .cases x with
     |tmp t=>exact iD.put s e (s.Z t) none false u cs z
     |const c=>exact iD.put s e c none false u cs z
     |kp c=>exact iD.put s e (.ep c) none false u cs z
   next zs=>
    cases h;refine⟨_,rfl,?_,λt j=>?_,λ_ u cs z=>iD.put _ _ _ _ _ u cs (xb s e zs u cs z)⟩
    .rw[Bi];exact put_comm f (D e rfl) bT
    .have:t≠e:=λa=>j (by rw[a]);simp[this,St.fD]
   next n x=>
    rw[Ai A]at h;split at h
    next ad=>
     cases h;rw[ax ad];refine⟨_,rfl,?_,λt j=>?_,λ_ u cs z=>iD.put _ _ _ _ _ u cs (xb s e _ u cs z)⟩
     .rw[Bi];exact put_comm f (D e rfl) bT
     .have:t≠e:=λa=>j (by rw[a]);simp[this,St.fD]
    .cases h
   next sz x y=>
    have q:d∉x.reads/\d∉y.reads:=by simpa[BX.reads]using A
    obtain⟨s2,K,L,N,aB⟩:=Qe f q.1 q.2 (D e rfl) h;exact⟨s2,K,L,λt j=>N t (λa=>j (by rw[a])),λ_=>aB⟩
def r5(P:Program)(GL:aj)(pu:Bool)(f:FuncId)(args:List V)(s:St)(dst:Option Nat)(K:St->Prop):Prop:=
 (∃a v bJ,aV args a/\Pure P GL f a v bJ/\K (s.ret dst v bJ))\/
 (pu=false/\∃a,aV args a/\lB P GL f a s.E λv bJ d=>K ((s.cu d).ret dst v bJ))\/
 (pu=false/\∃fz E a,jE fz s.E E/\Ag fz args a/\((∃v bJ,Pure P GL f a v bJ/\K ((s.cu E).ret dst v bJ))\/lB P GL f a E λv bJ d=>K ((s.cu d).ret dst v bJ)))
def r5.op{pu:Bool}{f:FuncId}{args:List V}{s:St}{dst:Option Nat}{K:St->Prop}(h:r5 P GL pu f args s dst K):EH P GL f args s dst K:=
 h.imp id λh=>h.imp (λh=>h.2) (λh=>h.2)
def r5.mono{pu:Bool}{f:FuncId}{args:List V}{s:St}{dst:Option Nat}{K K':St->Prop}(h:r5 P GL pu f args s dst K)(p:∀s,K s->K' s):r5 P GL pu f args s dst K':=by
 rcases h with⟨a,v,o,d,j,l⟩|⟨q,a,d,j⟩|⟨q,fz,E,a,d,j,⟨v,o,l,r⟩|l⟩
 .exact .inl ⟨a,v,o,d,j,p _ l⟩
 .exact .inr (.inl ⟨q,a,d,j.mono λ_ _ _ h=>p _ h⟩)
 .exact .inr (.inr ⟨q,fz,E,a,d,j,.inl ⟨v,o,l,p _ r⟩⟩)
 .exact .inr (.inr ⟨q,fz,E,a,d,j,.inr (l.mono λ_ _ _ h=>p _ h)⟩)
def b4(P:Program)(GL:aj)(pu:Bool)(s:St)(dst:Option Nat)(op:BY)(K:St->Prop):Prop:=
 match op with
 |.call f args=>args.all (λx=> !(s.val x).dY)=true/\r5 P GL pu f (args.map s.val) s dst K
 |.qB x args=>match s.val x with
  |.fn f cap=>fK P f=true/\args.all (λx=> !(s.val x).dY)=true/\r5 P GL pu f (args.map s.val++cap) s dst K
  |_=>False
 |.ex op=>match iF s dst op with
  |some a=>K a
  |none=>False
 |.bad=>False
 |.hx h=>match h.outs s dst with
  |some l=>KZ l K
  |none=>False
 |.mx m=>m.wp s λv o E=>K ((s.cu E).ret dst v o)
def Bj{pu:Bool}{s:St}{dst:Option Nat}{op:BY}{K:St->Prop}(h:b4 P GL pu s dst op K):CV P GL s dst op K:=by
 cases op with
 |ex b=>exact h
 |call f args=>exact⟨h.1,h.2.op⟩
 |bad=>exact h
 |hx a=>exact h
 |mx m=>exact h
 |qB x args=>
  simp only[b4]at h;simp only[CV]
  revert h
  cases s.val x<;>intro h<;>first|exact⟨h.1,h.2.1,h.2.2.op⟩|exact h
def Bk{pu:Bool}{s:St}{dst:Option Nat}{op:BY}{K K':St->Prop}(h:b4 P GL pu s dst op K)(a:∀s,K s->K' s):b4 P GL pu s dst op K':=by
 cases op with
 |ex b=>
  simp only[b4]at h ⊢
  split at h
  .exact a _ h
  .exact h
 |call f args=>exact⟨h.1,h.2.mono a⟩
 |bad=>exact h
 |hx d=>
  simp only[b4]at h ⊢
  cases e:d.outs s dst with
  |none=>rw[e]at h;exact h
  |some l=>rw[e]at h;exact Ah λt j=>a _ (uy h t j)
 |mx m=>exact MX.mono (λ_ _ _ h=>a _ h) h
 |qB x args=>
  simp only[b4]at h ⊢
  revert h
  cases s.val x<;>intro h<;>first|exact⟨h.1,h.2.1,h.2.2.mono a⟩|exact h
def dq(P:Program)(GL:aj)(pu:Bool)(i:BI)(s:St)(K:St->Prop):Prop:=
 match i.guard with
 |none=>b4 P GL pu s i.dst i.op K
 |some (t,want)=>match s.Z t with
  |.bool b=>if b=want then b4 P GL pu s i.dst i.op K else K (s.skip i.dst)
  |.qn=>K (s.skip i.dst)
  |_=>False
def gW{pu:Bool}{i:BI}{s:St}{K K':St->Prop}(h:dq P GL pu i s K)(a:∀s,K s->K' s):dq P GL pu i s K':=by
 unfold dq at*
 split at h
 .exact Bk h a
 .split at h
  .split at h
   next hb=>rw[ax hb];exact Bk h a
   next hb=>rw[al hb];exact a _ h
  .exact a _ h
  .exact h
def BI.qC(b:BI):Bool:=b.dst.isSome&&match b.op with
 |.ex x=>x.qC b.dst
 |.hx _=>false
 |.mx _=>false
 |_=>true
def BI.sI(b:BI):Bool:=match b.op with
 |.ex x=>x.sI
 |_=>false
def BI.mem(pu:Bool)(b:BI):Bool:=match b.op with
 |.ex x=>x.sJ
 |.hx _=>true
 |.mx _=>true
 |_=> !pu
def Nk(a b:BI):Bool:=
 (match a.dst with|some d=> !(b.reads.contains d)&&b.dst !=some d|none=>true)&&
 (match b.dst with|some d=> !(a.reads.contains d)|none=>true)
def BI.UK(b:BI):Bool:=match b.op with
 |.call .. =>true
 |.qB .. =>true
 |_=>false
def wq(pu:Bool)(a b:BI):Bool:=(pu|| !a.UK)&&(a.qC&&Nk a b&& !(a.sI&&b.mem pu))
def Nl{i:BI}{s:St}{K:St->Prop}(E:i.qC=true)(h:dq P GL true i s K):∃v l o,K (s.Bh i.dst v l o)/\
 (∀k,l=some k->(∃t,k=.var t/\t∈i.reads)\/(i.sI=true/\∀t,k≠.var t))/\
 ∀(s2:St)(p:St->Prop),ga s s2 i.reads->(i.sI=true->iD s s2)->p (s2.Bh i.dst v l o)->dq P GL true i s2 p:=by
 have H:b4 P GL true s i.dst i.op K->∃v l o,K (s.Bh i.dst v l o)/\
  (∀k,l=some k->(∃t,k=.var t/\t∈i.op.reads)\/(i.sI=true/\∀t,k≠.var t))/\
  ∀(s2:St)(p:St->Prop),ga s s2 i.op.reads->(i.sI=true->iD s s2)->p (s2.Bh i.dst v l o)->b4 P GL true s2 i.dst i.op p:=by
  intro h;obtain⟨gd,dst,op⟩:=i;have j:∀(s:St)(v:V)(o:Bool),s.Bh dst v none o=s.ret dst v o:=by intro s v o;cases dst<;>rfl
  cases op with
  |bad=>exact h.elim
  |hx aC=>simp[BI.qC]at E
  |mx m=>simp[BI.qC]at E
  |ex b=>
   simp only[BI.qC,be]at E;replace E:=E.2;simp only[b4]at h;rw[yg E]at h;cases L:b.act s with
   |none=>simp[L]at h
   |some r=>
    obtain⟨v,l,o⟩:=r;simp only[L,bF]at h;refine⟨v,l,o,h,?_,?_⟩
    .rintro k rfl;exact F2 L
    .intro s2 p a A d;simp only[b4];rw[yg E,F1 a A L];exact d
  |call f args=>
   obtain⟨q,⟨D,v,o,u,N,Q⟩|⟨R,_⟩|⟨R,_⟩⟩:=h
   .refine⟨v,none,o,by rw[j];exact Q,bT,?_⟩;intro s2 p a A d;have hm:=r3 (l:=args) a;have L:=r4 (λx=> !x.dY) (l:=args) a;refine⟨by rw[L];exact q,.inl ⟨D,v,o,by rw[hm];exact u,N,by rw[<-j];exact d⟩⟩
   .cases R
   .cases R
  |qB x args=>
   simp only[b4]at h;split at h
   next f cap ac=>
    obtain⟨ad,q,⟨D,v,o,u,N,Q⟩|⟨R,_⟩|⟨R,_⟩⟩:=h
    .refine⟨v,none,o,by rw[j];exact Q,bT,?_⟩;intro s2 p a A d;simp only[BY.reads,ga.append]at a;have hm:=r3 (l:=args) a.2;have L:=r4 (λx=> !x.dY) (l:=args) a.2;simp only[b4,a.1.val,ac];refine⟨ad,by rw[L];exact q,.inl ⟨D,v,o,by rw[hm];exact u,N,by rw[<-j];exact d⟩⟩
    .cases R
    .cases R
   .cases h
 have y:K (s.skip i.dst)->∃v l o,K (s.Bh i.dst v l o)/\v=.qn/\l=none/\o=false:=by
  intro h;refine⟨.qn,none,false,?_,rfl,rfl,rfl⟩
  revert h;cases i.dst<;>exact id
 have z:∀s:St,s.Bh i.dst .qn none false=s.skip i.dst:=by intro s;cases i.dst<;>rfl
 unfold dq at h;cases q:i.guard with
 |none=>
  simp only[q]at h;obtain⟨v,l,o,u,N,Q⟩:=H h;refine⟨v,l,o,u,λk d=>(N k d).imp (λ⟨t,ai,aA⟩=>⟨t,ai,by simp[BI.reads,aA]⟩) id,λs2 p a A d=>?_⟩;simp only[BI.reads,ga.append]at a;unfold dq;simp only[q];exact Q s2 p a.2 A d
 |some aB=>
  obtain⟨t,want⟩:=aB;simp only[q]at h;split at h
  next b hb=>
   split at h
   next ab=>obtain⟨v,l,o,u,N,Q⟩:=H h;refine⟨v,l,o,u,λk d=>(N k d).imp (λ⟨t,ai,aA⟩=>⟨t,ai,by simp[BI.reads,aA]⟩) id,λs2 p a A d=>?_⟩;simp only[BI.reads,ga.append,q,Bg]at a;unfold dq;simp only[q,a.1 t bT,hb,ax ab];exact Q s2 p a.2 A d
   next ab=>obtain⟨v,l,o,u,rfl,rfl,rfl⟩:=y h;refine⟨_,_,_,u,bT,λs2 p a A d=>?_⟩;simp only[BI.reads,ga.append,q,Bg]at a;unfold dq;simp only[q,a.1 t bT,hb,al ab];rw[<-z];exact d
  next hb=>obtain⟨v,l,o,u,rfl,rfl,rfl⟩:=y h;refine⟨_,_,_,u,bT,λs2 p a A d=>?_⟩;simp only[BI.reads,ga.append,q,Bg]at a;unfold dq;simp only[q,a.1 t bT,hb];rw[<-z];exact d
  .cases h
def z6{s:St}{d:Nat}{v u:V}{l:Option Loc}{o bJ:Bool}{dst:Option Nat}(a:dst≠some d)(f:∀e,dst=some e->l≠some (.var e)):
 (s.put d v l o).ret dst u bJ=(s.ret dst u bJ).put d v l o:=by
 cases dst with
 |none=>rfl
 |some e=>exact put_comm (λj=>a (by rw[j])) (f e rfl) bT
def sK{s:St}{u:V}{bJ:Bool}{dst:Option Nat}(t:Nat)(a:dst≠some t):(s.ret dst u bJ).Z t=s.Z t:=by
 cases dst with
 |none=>rfl
 |some e=>
  have:t≠e:=λd=>a (by rw[d]);simp[St.ret,this]
def DA(s:St)(u:V)(bJ:Bool)(dst:Option Nat):iD s (s.ret dst u bJ):=by
 cases dst with
 |none=>exact .refl s
 |some e=>exact .put _ _ _ _ _
def wO{s:St}{d:Nat}{v:V}{l:Option Loc}{o:Bool}{E:aK}(a:∀k,l=some k->∃t,k=.var t):(s.put d v l o).cu E=(s.cu E).put d v l o:=by
 simp only[St.cu,St.put,St.mk.injEq,cK,bL];exact xc a PE (λ_=>rfl)
def push{pu:Bool}{j:BI}{s:St}{d:Nat}{v:V}{l:Option Loc}{o:Bool}{K:St->Prop}(h:dq P GL pu j (s.put d v l o) K)(ad:d∉j.reads)(hd:j.dst≠some d)
 (hl:∀e,j.dst=some e->l≠some (.var e)) (hs:j.mem pu=true->∀k,l=some k->∃t,k=.var t):
 dq P GL pu j s λs2=>(∀t,j.dst≠some t->s2.Z t=s.Z t)/\(j.mem pu=false->iD s s2)/\K (s2.put d v l o):=by
 obtain⟨gd,dst,op⟩:=j;have D:d∉op.reads:=λa=>ad (by simp[BI.reads,a]);have y:∀{f:FuncId} {args:List V},(BI.mem pu ⟨gd,dst,op⟩= !pu)->r5 P GL pu f args (s.put d v l o) dst K->
  r5 P GL pu f args s dst λs2=>(∀t,dst≠some t->s2.Z t=s.Z t)/\(BI.mem pu ⟨gd,dst,op⟩=false->iD s s2)/\K (s2.put d v l o):=by
  intro f args hm a;rcases a with⟨r,u,bJ,L,N,Q⟩|⟨h0,r,L,N⟩|⟨h0,fz,E,r,L,N,⟨u,bJ,Q,hk⟩|Q⟩
  .exact .inl ⟨r,u,bJ,L,N,λt q=>sK t q,λ_=>DA _ _ _ _,by rw[<-z6 hd hl];exact Q⟩
  .refine .inr (.inl ⟨h0,r,L,N.mono λu bJ ai hk=>⟨λt q=>?_,λa=>?_,?_⟩⟩)
   .rw[sK t q];rfl
   .rw[hm,h0]at a;cases a
   .exact T5
  .refine .inr (.inr ⟨h0,fz,E,r,L,N,.inl ⟨u,bJ,Q,λt q=>?_,λa=>?_,?_⟩⟩)
   .rw[sK t q];rfl
   .rw[hm,h0]at a;cases a
   .exact T5
  .refine .inr (.inr ⟨h0,fz,E,r,L,N,.inr (Q.mono λu bJ ai hk=>⟨λt q=>?_,λa=>?_,?_⟩)⟩)
   .rw[sK t q];rfl
   .rw[hm,h0]at a;cases a
   .exact T5
 have H:b4 P GL pu (s.put d v l o) dst op K->b4 P GL pu s dst op λs2=>(∀t,dst≠some t->s2.Z t=s.Z t)/\(BI.mem pu ⟨gd,dst,op⟩=false->iD s s2)/\K (s2.put d v l o):=by
  intro h;cases op with
  |bad=>exact h
  |hx aA=>
   simp only[b4,HX.outs]at h ⊢
   have R:=K3 (h:=aA) (s:=s) (s':=s.put d v l o) (λt q=>by
    have:t≠d:=λe=>D (by rw[<-e];exact q);simp[this]) rfl
   rw[R]at h;cases e:aA.act s with
   |none=>rw[e]at h;exact h
   |some a5=>
    rw[e]at h;simp only[bF]at h ⊢
    refine Ah λt q=>?_;obtain⟨p,E,rfl⟩:=cB.1 q;have hk:=uy h _ (cB.2 ⟨p,E,rfl⟩);refine⟨λt q=>?_,λa=>by simp[BI.mem]at a,?_⟩
    .rw[sK t q];rfl
    .exact Xv
  |mx m=>
   simp only[b4]at h ⊢
   rw[Nj (m:=m) (s:=s) (s':=s.put d v l o) (λt q=>by
    have:t≠d:=λe=>D (by rw[<-e];exact q);simp[this]) rfl]at h
   refine MX.mono (λu bJ E hk=>⟨λt q=>?_,λa=>by simp[BI.mem]at a,?_⟩) h
   .rw[sK t q];rfl
   .exact Xv
  |ex b=>
   simp only[b4]at h ⊢
   split at h
   next a6 aC=>obtain⟨s2,aD,a0,a1,a2⟩:=H0 aC D hd hl hs;rw[aD];exact⟨a1,a2,by rw[<-a0];exact h⟩
   .cases h
  |call f args=>
   obtain⟨ab,a⟩:=h;have z:ga (s.put d v l o) s (ru args):=w9 D;rw[<-r3 z]at a;exact⟨by rw[r4 (λx=> !x.dY) z];exact ab,y rfl a⟩
  |qB x args=>
   have z:ga (s.put d v l o) s (x.reads++ru args):=w9 D;rw[ga.append]at z;simp only[b4]at h ⊢
   rw[z.1.val];split at h
   next f cap a3=>obtain⟨ac,ab,a⟩:=h;rw[<-r3 z.2]at a;exact⟨ac,by rw[r4 (λx=> !x.dY) z.2];exact ab,y rfl a⟩
   .cases h
 have A:K ((s.put d v l o).skip dst)->(∀t,dst≠some t->(s.skip dst).Z t=s.Z t)/\(BI.mem pu ⟨gd,dst,op⟩=false->iD s (s.skip dst))/\K ((s.skip dst).put d v l o):=by
  intro hk;exact⟨λt q=>sK t q,λ_=>DA _ _ _ _,by unfold St.skip;rw[<-z6 hd hl];exact hk⟩
 unfold dq at h ⊢
 cases gd with
 |none=>exact H h
 |some a4=>
  obtain⟨t,want⟩:=a4;have aB:t≠d:=λe=>ad (by simp[BI.reads,Bg,e]);simp only at h ⊢
  rw[show(s.put d v l o).Z t=s.Z t by simp[aB]]at h;split at h
  .split at h
   next hb=>rw[ax hb];exact H h
   next hb=>rw[al hb];exact A h
  .exact A h
  .exact h
def exchange{pu:Bool}{i j:BI}{s:St}{K:St->Prop}(p:wq pu i j=true)(h:dq P GL true i s λab=>dq P GL pu j ab K):
 dq P GL pu j s λs2=>dq P GL true i s2 K:=by
 obtain⟨_,p⟩:=nQ.1 p;simp only[be,jC]at p;obtain⟨⟨E,z⟩,hm⟩:=p;obtain⟨v,l,o,A,N,D⟩:=Nl E h;simp only[Nk,be]at z;obtain⟨a,f⟩:=z;have y:∀s2:St,(∀t,j.dst≠some t->s2.Z t=s.Z t)->ga s s2 i.reads:=by
  intro s2 H t ac;refine H t ?_;intro q;rw[q]at f;simp[ac]at f
 cases q:i.dst with
 |none=>
  obtain⟨gd,dst,op⟩:=i;simp only at q;subst q;simp[BI.qC]at E
 |some d=>
  rw[q]at A D a;simp only[St.Bh]at A D;simp only[be,jC,tY,ne_eq]at a;have ad:d∉j.reads:=by
   intro p;have:=a.1;simp[p]at this
  have ai:∀e,j.dst=some e->l≠some (.var e):=by
   intro e H hle;rcases N _ hle with⟨t,r,L⟩|⟨_,L⟩
   .cases r;rw[H]at f;simp[L]at f
   .exact L e rfl
  have aA:j.mem pu=true->∀k,l=some k->∃t,k=.var t:=by
   intro Q k u;rcases N k u with⟨t,r,_⟩|⟨r,_⟩
   .exact⟨t,r⟩
   .rw[r,Q]at hm;cases hm
  refine gW (push A ad a.2 ai aA) λs2 u=>D s2 K (y s2 u.1) (λR=>u.2.1 ?_) u.2.2;simpa[R]using hm
end
section
variable {GL:Nat->Option (List V)}{P:Program}
def Jn{α:Type}{p:α->Bool}{xs:Array α}:xs.any p=true↔ ∃e,e∈xs/\p e=true:=by
 rw[Array.any_eq_true];constructor
 .rintro⟨i,h,e⟩;exact⟨xs[i],bT,e⟩
 .rintro⟨e,d,E⟩;obtain⟨i,h,rfl⟩:=gV.1 d;exact⟨i,h,E⟩
inductive k6 where
 |done
 |one (abW:Bool) (b:BI) (p:k6)
 |alt (b:BI) (p q:k6)
 |stop
def waits(ops:Array Oper)(j i:Nat):Bool:=match ops[j]? with
 |some o=>o.after.any λe=>Region.binds .any e&&e.on==i
 |none=>true
def Nm(ops:Array Oper)(listed:Array Bool)(i:Nat):Bool:=
 (List.range ops.size).all λj=>j==i||listed.getD j true||waits ops j i
def Nn(pu:Bool)(ops:Array Oper)(bis:Array (Option BI))(listed:Array Bool)(i:Nat)(bi:BI):Bool:=
 (List.range ops.size).all λj=>j==i||listed.getD j true||waits ops j i||(match bis[j]? with
  |some (some d)=>wq pu bi d
  |_=>false)
def Jo(pu:Bool)(ops:Array Oper)(bis:Array (Option BI))(listed:Array Bool):List Nat->Option (Bool×Nat×BI)
 |[]=>none
 |i::r=>match bis[i]? with
  |some (some bi)=>if Nm ops listed i then some (true,i,bi)else if Nn pu ops bis listed i bi then some (false,i,bi)else Jo pu ops bis listed r
  |_=>none
def alts(bis:Array (Option BI))(rec:Nat->Option k6):List Nat->Option k6
 |[]=>some .stop
 |i::r=>match bis[i]?,rec i,alts bis rec r with
  |some (some bi),some p,some q=>some (.alt bi p q)
  |_,_,_=>none
def yh(pu:Bool)(ops:Array Oper)(bis:Array (Option BI)):Nat->Array Bool->Option k6
 |0,listed=>if(Region.ready .any ops listed).isEmpty then some .done else none
 |f+1,listed=>
  if(Region.ready .any ops listed).isEmpty then some .done
  else match Jo pu ops bis listed (Region.ready .any ops listed)with
   |some (d,i,bi)=>(yh pu ops bis f (listed.setIfInBounds i true)).map (.one d bi)
   |none=>alts bis (λi=>yh pu ops bis f (listed.setIfInBounds i true)) (Region.ready .any ops listed)
def bU(P:Program)(GL:aj)(pu:Bool):k6->St->(St->Prop)->Prop
 |.done,s,K=>K s
 |.one d b p,s,K=>dq P GL (if d then pu else true) b s λf=>bU P GL pu p f K
 |.alt b p q,s,K=>dq P GL pu b s (λf=>bU P GL pu p f K)/\bU P GL pu q s K
 |.stop,_,_=>True
def Bl(P:Program)(GL:aj)(pu:Bool)(ops:Array Oper)(bis:Array (Option BI)):Nat->Array Bool->St->(St->Prop)->Prop
 |0,listed,s,K=>Region.ready .any ops listed=[]/\K s
 |f+1,listed,s,K=>(Region.ready .any ops listed=[]->K s)/\
  ∀i∈Region.ready .any ops listed,∃bi,bis[i]?=some (some bi)/\dq P GL pu bi s λd=>Bl P GL pu ops bis f (listed.setIfInBounds i true) d K
def Jp{pu:Bool}{i:BI}{s:St}{K:St->Prop}(h:dq P GL true i s K):dq P GL pu i s K:=by
 have j:∀{f args dst},r5 P GL true f args s dst K->r5 P GL pu f args s dst K:=λh=>by
  rcases h with h|⟨d,_⟩|⟨d,_⟩
  .exact .inl h
  .cases d
  .cases d
 have l:∀{dst op},b4 P GL true s dst op K->b4 P GL pu s dst op K:=λ{dst op} h=>by
  cases op with
  |ex b=>exact h
  |call f args=>exact⟨h.1,j h.2⟩
  |bad=>exact h
  |hx o=>exact h
  |mx m=>exact h
  |qB x args=>
   simp only[b4]at h ⊢
   split at h
   .exact⟨h.1,h.2.1,j h.2.2⟩
   .exact h
 unfold dq at*
 split at h
 .exact l h
 .split at h
  .split at h
   next hb=>rw[ax hb];exact l h
   next hb=>rw[al hb];exact h
  .exact h
  .exact h
def F4{pu:Bool}{ops:Array Oper}{bis:Array (Option BI)}{K:St->Prop}{i:Nat}{bi:BI}(Q:bis[i]?=some (some bi)):
 ∀(f:Nat)(listed:Array Bool)(s:St),(∀j o,ops[j]?=some o->j≠i->listed.getD j true=false->(∀e∈o.after,Region.binds .any e=true->e.on≠i)->∃p,bis[j]?=some (some p)/\wq pu bi p=true)->
  i∈Region.ready .any ops listed->
  dq P GL true bi s (λs'=>Bl P GL pu ops bis f (listed.setIfInBounds i true) s' K)->Bl P GL pu ops bis (f+1) listed s K:=by
 intro f;induction f with
 |zero=>
  intro listed s l q H;refine⟨λh=>(by rw[h]at q;cases q),λj t=>?_⟩;by_cases d:j=i
  .subst d;exact⟨bi,Q,Jp H⟩
  .obtain⟨p,y,u⟩:=other l q t d;have E:bi.qC=true:=by
    obtain⟨_,u⟩:=nQ.1 u;simp only[be]at u;exact u.1.1
   obtain⟨_,_,_,r,_⟩:=Nl E H;have:=ready_mono t d;rw[r.1]at this;cases this
 |succ f ih=>
  intro listed s l q H;refine⟨λh=>(by rw[h]at q;cases q),λj t=>?_⟩;by_cases d:j=i
  .subst d;exact⟨bi,Q,Jp H⟩
  .obtain⟨p,y,u⟩:=other l q t d;have R:=ready_mono t d;have H1:dq P GL true bi s λab=>dq P GL pu p ab λaC=>Bl P GL pu ops bis f ((listed.setIfInBounds i true).setIfInBounds j true) aC K:=by
    refine gW H λab r=>?_;obtain⟨a5,ac,aD⟩:=r.2 j R;rw[y]at ac;cases (ar ac);exact aD
   refine⟨p,y,gW (exchange u H1) λa0 a1=>?_⟩;refine ih (listed.setIfInBounds j true) a0 ?_ (ready_mono q (hY d)) ?_
   .intro k o a2 ad z ai;refine l k o a2 ad ?_ ai;by_cases A:j=k
    .subst A;exact(mem_ready.1 t).1
    .rw[getD_set_ne true A]at z;exact z
   .rw[Array.setIfInBounds_comm _ _ d];exact a1
where
 other {pu:Bool} {ops:Array Oper} {bis:Array (Option BI)} {i:Nat} {bi:BI} {listed:Array Bool}
  (l:∀j o,ops[j]?=some o->j≠i->listed.getD j true=false->(∀e∈o.after,Region.binds .any e=true->e.on≠i)->∃p,bis[j]?=some (some p)/\wq pu bi p=true)
  (q:i∈Region.ready .any ops listed) {j:Nat} (t:j∈Region.ready .any ops listed) (d:j≠i):∃p,bis[j]?=some (some p)/\wq pu bi p=true:=by
  obtain⟨D,a3,aA,L⟩:=mem_ready.1 t;refine l j a3 aA d D λe a4 hb heq=>?_;have r:=L e a4 hb;have aB:=(mem_ready.1 q).1;rw[heq]at r;rcases am i listed.size with N|N
  .simp[N]at aB r;rw[aB]at r;cases r
  .simp[gM N]at r
def H2{ops:Array Oper}{listed:Array Bool}{i:Nat}(h:Nm ops listed i=true)(y:i∈Region.ready .any ops listed):∀j∈Region.ready .any ops listed,j=i:=by
 intro j z;obtain⟨o,D,l,p⟩:=mem_ready.1 z;have r:j<ops.size:=(cF.1 l).1;have:=bO.1 h j (dm.2 r);simp only[ib,i4,o,bK,gL]at this;rcases this with d|d
 .exact d
 .exfalso;unfold waits at d;rw[l]at d;simp only[Jn,be,i4]at d;obtain⟨e,A,hb,t⟩:=d;have f:=p e A hb;have u:=(mem_ready.1 y).1;rw[t]at f;rcases am i listed.size with q|q
  .simp[q]at u f;rw[u]at f;cases f
  .simp[gM q]at f
def H3{pu:Bool}{ops:Array Oper}{bis:Array (Option BI)}{listed:Array Bool}{i:Nat}{bi:BI}(h:Nn pu ops bis listed i bi=true):
 ∀j o,ops[j]?=some o->j≠i->listed.getD j true=false->(∀e∈o.after,Region.binds .any e=true->e.on≠i)->∃f,bis[j]?=some (some f)/\wq pu bi f=true:=by
 intro j o l p q r;have t:j<ops.size:=(cF.1 l).1;have:=bO.1 h j (dm.2 t);simp only[ib,i4,q,bK,gL]at this;rcases this with(d|d)|d
 .exact absurd d p
 .exfalso;unfold waits at d;rw[l]at d;simp only[Jn,be,i4]at d;obtain⟨e,z,hb,u⟩:=d;exact r e z hb u
 .split at d
  next f y=>exact⟨f,y,d⟩
  .cases d
def Bm{pu:Bool}{ops:Array Oper}{bis:Array (Option BI)}{listed:Array Bool}:∀{l:List Nat} {d:Bool} {i:Nat} {bi:BI},Jo pu ops bis listed l=some (d,i,bi)->
 i∈l/\bis[i]?=some (some bi)/\(if d then Nm ops listed i=true else Nn pu ops bis listed i bi=true)
 |[],_,_,_,h=>by cases h
 |k::r,d,i,bi,h=>by
  simp only[Jo]at h;split at h
  next bk f=>
   split at h
   next hs=>simp only[co,ek]at h;obtain⟨rfl,rfl,rfl⟩:=h;exact⟨bT,f,by simpa using hs⟩
   .split at h
    next j=>simp only[co,ek]at h;obtain⟨rfl,rfl,rfl⟩:=h;exact⟨bT,f,by simpa using j⟩
    .obtain⟨o,p⟩:=Bm h;exact⟨by simp[o],p⟩
  .cases h
def DB{pu:Bool}{bis:Array (Option BI)}{rec:Nat->Option k6}:∀{l:List Nat} {p:k6} {s:St} {K:St->Prop},alts bis rec l=some p->bU P GL pu p s K->
 ∀i∈l,∃bi q,bis[i]?=some (some bi)/\rec i=some q/\dq P GL pu bi s λs'=>bU P GL pu q s' K
 |[],_,_,_,_,_,_,d=>by cases d
 |k::r,p,s,K,h,f,i,d=>by
  simp only[alts]at h;split at h
  next bk q z j o t=>
   cases h;obtain⟨u,y⟩:=f;rcases bn.1 d with rfl|d
   .exact⟨bk,q,j,o,u⟩
   .exact DB t y i d
  .cases h
def Aj{pu:Bool}{ops:Array Oper}{bis:Array (Option BI)}:∀{f:Nat} {listed:Array Bool} {p:k6} {s:St} {K:St->Prop},yh pu ops bis f listed=some p->bU P GL pu p s K->Bl P GL pu ops bis f listed s K
 |0,listed,p,s,K,h,d=>by
  simp only[yh]at h;split at h
  next o=>cases h;exact⟨by simpa using o,d⟩
  .cases h
 |f+1,listed,p,s,K,h,d=>by
  simp only[yh]at h;split at h
  next o=>
   cases h;have A:Region.ready .any ops listed=[]:=by simpa using o
   exact⟨λ_=>d,λi u=>by rw[A]at u;cases u⟩
  next D=>
   split at h
   next z i bi E=>
    obtain⟨q,H,rfl⟩:=dp h;obtain⟨r,y,t⟩:=Bm E;simp only[bU]at d;cases z with
    |true=>
     simp only[bP]at t d;refine⟨λo=>(by rw[o]at r;cases r),λj N=>?_⟩;obtain rfl:=H2 t r j N;exact⟨bi,y,gW d λL l=>Aj H l⟩
    |false=>
     simp only[bK,cH]at t d;exact F4 y f listed s (H3 t) r (gW d λL l=>Aj H l)
   .refine⟨λo=>absurd (by simpa using o) D,λi u=>?_⟩;obtain⟨bi,q,r,y,t⟩:=DB h d i u;exact⟨bi,r,gW t λL l=>Aj y l⟩
section
variable {g:aY}{s:St}{a:Act}{w:World}{hs:List Nat}{ro:Option Nat}{m:Nat}
def Qf{ops:Array Oper}{o:Oper}{pu:Bool}{bi:BI}{K:St->Prop}{i:Nat}(t:ops[i]?=some o)(l:w8 P GL hs s.n ops o=some bi)(hv:dq P GL pu bi s K)(R:Rel GL g s a w)
 {next:Act->World->Prop} {Q:Exit->Act->World->Prop} (q:∀g' s' a' w',K s'->s'.n=s.n->Rel GL g' s' a' w'->Step g w g' w'->next a' w'):wpOpIn (FW ro) m P ops Q i next a w:=by
 unfold wpOpIn;simp only[t];simp only[w8]at l;split at l
 next u gd r WG=>
  split at l
  next j=>
   cases l;have p:∀d,o.dst=some d->d<s.n:=by
    intro d p;rw[p]at j;simpa using j
   have Ep:b4 P GL pu s o.dst u K->o.wpIn (FW ro) m P a w next Q:=λf=>FZ r p (Bj f) R q;have Ax:K (s.skip o.dst)->next (a.put o.dst undef) w:=λf=>q g _ _ w f (HZ _ _) (Jm R p) (Step.refl g w);unfold dq at hv;exact bb0
  .cases l
 .cases l
def Bn{ops:Array Oper}{pu:Bool}:∀{f:Nat} {listed:Array Bool} {s:St} {K:St->Prop} {g:aY} {a:Act} {w:World},Bl P GL pu ops (ops.map (w8 P GL hs s.n ops)) f listed s K->Rel GL g s a w->
 ∀{Q:Exit->Act->World->Prop},(∀g' s' a' w',K s'->s'.n=s.n->Rel GL g' s' a' w'->Step g w g' w'->Q .normal a' w')->wpAnyIn (FW ro) m P .any ops Q f listed a w
 |0,listed,s,K,g,a,w,d,R,Q,j=>⟨d.1,j g s a w d.2 rfl R (Step.refl g w)⟩
 |f+1,listed,s,K,g,a,w,d,R,Q,j=>by
  refine⟨λN=>j g s a w (d.1 N) rfl R (Step.refl g w),λi p=>?_⟩;obtain⟨bi,l,ab⟩:=d.2 i p;obtain⟨_,o,q,_⟩:=mem_ready.1 p;rw[pn,q]at l;simp only[bF,co]at l;refine Qf q l ab R λg' s' a' w' r t ac S=>?_;rw[<-t]at r;exact Bn r ac λu y z A D H L ad=>j u y z A D (H.trans t) L (S.trans ad)
end
end
section
variable {GL:Nat->Option (List V)}{P:Program}
structure Grow(g:aY)(w w':World):Prop where
 size:w.heap.size<=w'.heap.size
 cell:∀b o,b<w.heap.size->w'.cell? (cl b o)=w.cell? (cl b o)
 Tu:∀b o,b<w.heap.size->(∀x,g.bJ b o≠.g3 x)->w'.frozen? (cl b o)=w.frozen? (cl b o)
 obj:∀(b:Nat) ob,u9 ob=false->w.heap[b]?=some ob->w'.heap[b]?=some ob
 gY:CM (g.bJ 0 0=.ext) w w'
 whole:∀b,b<w.heap.size->w'.heap[b]?=w.heap[b]?
def Iter(P:Program)(f:FuncId)(cap:List V)(items:List (List V)):Prop:=
 ∀(l m:Nat)(g:aY)(w:World)(p:Array Value)(J:Nat->World->Prop)(d:World->Prop),p.size=cap.length->(∀(j:Nat) c x,cap[j]?=some c->p[j]?=some x->VR g c x)->
  (∀j w,J j w->∀b o x,g.bJ b o=.g3 x->w.cell? (cl b o)=some x)->
  (∀j w w',J j w->Grow g w w'->J j w')->(∀w w',d w->Grow g w w'->d w')->
  (∀j w it (q:Array Value),J j w->items[j]?=some it->q.size=it.length->(∀(k:Nat) c y,it[k]?=some c->q[k]?=some y->VR g c y)->
   YieldAt (FW none) (m-1) P l q w λe w'=>(e=.returned (.bool true)/\J (j+1) w')\/(e=.returned (.bool false)/\d w'))->
  J 0 w->CallsIn (FW none) m P f (#[.func (.yield l) #[] #[]]++p) w λe w'=>∃v,e=.returned v/\(J items.length w'\/d w')
def St.base(s:St)(E:aK):St:={n:=s.n,Z:=λt=>if(s.Z t).dY then .unk else s.Z t,lk:=λ_=>none,fl:=λ_=>false,loc:=λ_ _=>[],fc:=λ_ _ _=>false,G:=λ_=>0,E:=E}
def St.xd(s:St):List Nat->List V->St
 |p::d,v::f=>St.xd (s.put p v none false) d f
 |_,_=>s
def St.begin(s:St)(E:aK)(ps:List Nat)(it:List V):St:=(s.base E).xd ps it
section
variable {g g' g0:aY}{s:St}{a:Act}{w w' w0:World}
def Rel.Tv{a':Act}(R:Rel GL g s a w){b:Nat}{ob pc:Obj}(hb:w.heap[b]?=some ob)(N:u9 ob=false)(K:u9 pc=false)(hx:g.bJ b 0=.ext\/g.bJ b 0=.rG)(ac:rW g (Bx.l3 w b pc) a'.defers)(y:a'.tmps=a.tmps):Rel GL g s a' (Bx.l3 w b pc):=by
 have r:=vg (pc:=pc) hb N K;have Q:=q2 (pc:=pc) hb N K;have eh:∀{d:Nat} {ow:eT} {cells:List V},fQ g w d ow cells->fQ g (Bx.l3 w b pc) d ow cells:=λh=>
  ⟨h.mf,λj u ad=>let⟨h1,x,f,A⟩:=h.cell j u ad;⟨h1,x,by rw[r];exact f,A⟩,λj=>by rw[Q];exact h.kl j⟩
 have p:∀{l:Loc} {v:V} {x:Value},dS g w l v x->dS g (Bx.l3 w b pc) l v x:=by
  intro l v x h sz ai aA len cap aB hx k h1 f;obtain⟨q,⟨u,D⟩,H⟩:=h sz ai aA len cap aB hx k h1 f;exact⟨q,⟨u,by rw[r];exact D⟩,by rw[Q];exact H⟩
 exact {
  size:=by rw[y];exact R.size
  gi:=ac
  Z:=by rw[y];exact R.Z
  gF:=⟨R.gF.kp,λd o x e=>by rw[r];exact R.gF.g3 d o x e,λd ab e=>by
   rw[kx (by rintro rfl;rcases hx with hx|hx<;>(rw[hx]at e;cases e))];exact R.gF.eY d ab e,λd o e=>by rw[r1];exact R.gF.ir d o e,R.gF.kB⟩
  heap:=⟨λi cs e=>let⟨d,h1,f⟩:=R.heap.box i cs e;⟨d,h1,eh f⟩,λi cs j u d x q D H L aC=>p (R.heap.tail i cs j u d x q D H L (by rw[<-r];exact aC)),λi aD e=>by
   obtain⟨d,a0,h1,f,A,a1,a2⟩:=R.heap.map i aD e;exact⟨d,a0,h1,f,by rw[kx (by rintro rfl;rcases hx with hx|hx<;>(rw[hx]at f;cases f))];exact A,a1,a2⟩,R.heap.Y⟩
  loc:=λst z e=>let⟨d,h1,f⟩:=R.loc st z e;⟨d,h1,eh f⟩
  jc:=R.jc
  jx:=λt e=>by rw[y];exact p (R.jx t e)
  gH:=λst z j c d x q D H L=>p (R.gH st z j c d x q D H (by rw[<-r];exact L))
  j0:=by rw[y];exact R.j0
  gI:=λt st z j e=>by rw[y];exact⟨(R.gI t st z j e).1,λd q=>let⟨h1,f⟩:=(R.gI t st z j e).2 d q;⟨by rw[r];exact h1,f⟩⟩
  ie:=λt i j e=>let⟨cs,h1,f,A⟩:=R.ie t i j e;⟨cs,h1,f,λd q=>by rw[r,y];exact A d q⟩}
def Rel.H4(R:Rel GL g s a w){b:Nat}{ob pc:Obj}(hb:w.heap[b]?=some ob)(j:u9 ob=false)(f:u9 pc=false)(hx:g.bJ b 0=.ext)(l:ob≠.deferred (some [])):Rel GL g s a (Bx.l3 w b pc):=
 R.Tv hb j f (.inl hx) (R.gi.mono λD o d=>⟨o,by rw[kx (by rintro rfl;rw[hb]at d;exact l (ar d))];exact d⟩) rfl
def Rel.swap{a':Act}(R:Rel GL g s a w)(A:a'.tmps=a.tmps)(ab:rW g' w a'.defers)(N:∀b o,g'.bJ b o=g.bJ b o\/((g.bJ b o=.ext\/g.bJ b o=.rG)/\(g'.bJ b o=.ext\/g'.bJ b o=.rG)))(y:g'.lb=g.lb)(p:g'.hb=g.hb):Rel GL g' s a' w:=by
 have ow:∀{b o:Nat} {ow:eT},g.bJ b o=ow->ow≠.ext->ow≠.rG->g'.bJ b o=ow:=by
  intro b o ow e h1 f;rcases N b o with h|⟨h|h,_⟩
  .rw[h,e]
  .exact absurd (e.symm.trans h) h1
  .exact absurd (e.symm.trans h) f
 have Q:∀{b o:Nat} {ow:eT},g'.bJ b o=ow->ow≠.ext->ow≠.rG->g.bJ b o=ow:=by
  intro b o ow e h1 f;rcases N b o with h|⟨_,h|h⟩
  .rw[<-h,e]
  .exact absurd (e.symm.trans h) h1
  .exact absurd (e.symm.trans h) f
 have hle:g.Le g':=⟨λ_ _ _ e=>ow e bT bT,λ_ _ e=>ow e bT bT,λ_ _ e=>by rw[p];exact e⟩;have eh:∀{d:Nat} {k:eT} {cells:List V},fQ g w d k cells->k≠.ext->k≠.rG->fQ g' w d k cells:=λh h1 f=>
  ⟨λj=>ow (h.mf j) h1 f,λj u ac=>let⟨f1,x,ad,ai⟩:=h.cell j u ac;⟨f1,x,ad,ai.mono hle⟩,h.kl⟩
 have q:∀{l:Loc} {v:V} {x:Value},dS g w l v x->dS g' w l v x:=by
  intro l v x h sz aA aB len cap aC hx k h1 f;obtain⟨r,D⟩:=h sz aA aB len cap aC hx k h1 f;exact⟨ow r bT bT,D⟩
 exact {
  size:=by rw[A];exact R.size
  gi:=ab
  Z:=λt=>by rw[A];exact(R.Z t).mono hle (λ_ _ _ e=>by rw[y];exact e)
  gF:=⟨λn c e=>(R.gF.kp n c e).mono hle,λb o x e=>R.gF.g3 b o x (Q e bT bT),λb aD e=>R.gF.eY b aD (Q e bT bT),λb o e=>R.gF.ir b o (λa0=>e (ow a0 bT bT)),R.gF.kB⟩
  heap:=⟨λi cs e=>let⟨d,h1,f⟩:=R.heap.box i cs e;⟨d,by rw[p];exact h1,eh f bT bT⟩,λi cs j u d x r D H K a1=>q (R.heap.tail i cs j u d x r D H (by rw[<-p];exact K) a1),λi a2 e=>by
   obtain⟨d,a3,h1,f,L,a4,a5⟩:=R.heap.map i a2 e;exact⟨d,a3,by rw[p];exact h1,ow f bT bT,L,a4,a5.mono hle⟩,λi e=>by rw[p];exact R.heap.Y i e⟩
  loc:=λst z e=>let⟨d,h1,f⟩:=R.loc st z e;⟨d,by rw[y];exact h1,eh f bT bT⟩
  jc:=λst z e=>by rw[y];exact R.jc st z e
  jx:=λt e=>by rw[A];exact q (R.jx t e)
  gH:=λst z j c d x r D H K=>q (R.gH st z j c d x r D (by rw[<-y];exact H) K)
  j0:=λt u e=>by rw[A];exact R.j0 t u e
  gI:=λt st z j e=>by rw[A];exact⟨(R.gI t st z j e).1,λd r=>(R.gI t st z j e).2 d (by rw[<-y];exact r)⟩
  ie:=λt i j e=>let⟨cs,h1,f,L⟩:=R.ie t i j e;⟨cs,h1,f,λd r=>by rw[A];exact L d (by rw[<-p];exact r)⟩}
def Step.H4(S:Step g0 w0 g w)(j:qe GL g0 w0){b:Nat}{ob pc:Obj}(t:w0.heap.size<=b)(hb:w.heap[b]?=some ob)(l:u9 ob=false)(f:u9 pc=false):Step g0 w0 g (l3 w b pc) where
 g3:=S.g3
 eY:=S.eY
 hb:=S.hb
 ext d o e:=by rw[vg hb l f,q2 hb l f];exact S.ext d o e
 n5 d p e h1 r:=by
  have:d<w0.heap.size:=j.ir d 0 (by rw[e];simp);rw[kx av];exact S.n5 d p e h1 r
 rm:=S.rm
 size:=by rw[r1];exact S.size
 gY:=⟨S.gY.tape,S.gY.os,S.gY.out,S.gY.drawn⟩
 whole d q e:=by rw[kx av];exact S.whole d q e
def Step.aa9(S:Step g0 w0 g w){b:Nat}{ob pc:Obj}(hx:g.bJ b 0≠.ext)(j:∀x,g.bJ b 0≠.g3 x)(hb:w.heap[b]?=some ob)(l:u9 ob=false)(f:u9 pc=false):Step g0 w0 g (l3 w b pc) where
 g3:=S.g3
 eY:=S.eY
 hb:=S.hb
 ext d o e:=by rw[vg hb l f,q2 hb l f];exact S.ext d o e
 n5 d p e h1 t:=by
  rw[kx (by rintro rfl;exact hx (S.ext _ 0 e).1)];exact S.n5 d p e h1 t
 rm:=S.rm
 size:=by rw[r1];exact S.size
 gY:=⟨S.gY.tape,S.gY.os,S.gY.out,S.gY.drawn⟩
 whole d r e:=by rw[kx (by rintro rfl;exact(e 0).elim (λq=>hx (S.ext _ 0 q).1) λ⟨x,q⟩=>j x (S.g3 _ 0 x q))];exact S.whole d r e
def Rel.grow(R:Rel GL g s a w)(aA:g0.Le g)(h:Grow g0 w w'):Rel GL g s a w':=by
 have A:∀{b o:Nat} {ow:eT},g.bJ b o=ow->ow≠.free->w'.cell? (cl b o)=w.cell? (cl b o):=λe q=>h.cell _ _ (R.gF.ir _ _ (by rw[e];exact q));have ab:∀{b o:Nat} {ow:eT},g.bJ b o=ow->ow≠.free->(∀x,ow≠.g3 x)->w'.frozen? (cl b o)=w.frozen? (cl b o):=λ{b o ow} e q N=>
  h.Tu _ _ (R.gF.ir _ _ (by rw[e];exact q)) (λx hx=>N x (by rw[<-e];exact aA.g3 _ _ _ hx))
 have eh:∀{d:Nat} {ow:eT} {cells:List V},fQ g w d ow cells->ow≠.free->(∀x,ow≠.g3 x)->fQ g w' d ow cells:=λhb q N=>
  ⟨hb.mf,λj u ac=>let⟨h1,x,f,y⟩:=hb.cell j u ac;⟨h1,x,by rw[A (hb.bJ j (b0 ac)) q];exact f,y⟩,λj=>by rw[ab (hb.mf j) q N];exact hb.kl j⟩
 have r:∀{l:Loc} {v:V} {x:Value},dS g w l v x->dS g w' l v x:=by
  intro l v x aB sz aC aD len cap a0 hx k h1 f;obtain⟨p,⟨u,z⟩,e3⟩:=aB sz aC aD len cap a0 hx k h1 f;exact⟨p,⟨u,by rw[A p bT];exact z⟩,by rw[ab p bT bT];exact e3⟩
 exact {
  size:=R.size
  gi:=R.gi.mono λD p z=>⟨p,h.obj _ _ rfl z⟩
  Z:=R.Z
  gF:=⟨R.gF.kp,λd o x e=>by rw[A e bT];exact R.gF.g3 d o x e,λd H e=>⟨h.obj _ _ (R.gF.eY d H e).2 (R.gF.eY d H e).1,(R.gF.eY d H e).2⟩,λd o e=>bj (R.gF.ir d o e) h.size,R.gF.kB⟩
  heap:=⟨λi cs e=>let⟨d,h1,f⟩:=R.heap.box i cs e;⟨d,h1,eh f bT bT⟩,λi cs j u d x p z e3 L a1=>by
   obtain⟨K,h1,f⟩:=R.heap.box i cs p;obtain rfl:=ar (h1.symm.trans L);exact r (R.heap.tail i cs j u K x p z e3 L (by rw[<-A (f.bJ j (b0 e3)) (by simp)];exact a1)),λi a2 e=>by
   obtain⟨d,a3,h1,f,y,ad,a4⟩:=R.heap.map i a2 e;exact⟨d,a3,h1,f,h.obj _ _ ad y,ad,a4⟩,R.heap.Y⟩
  loc:=λst gn e=>let⟨d,h1,f⟩:=R.loc st gn e;⟨d,h1,eh f bT bT⟩
  jc:=R.jc
  jx:=λt e=>r (R.jx t e)
  gH:=λst gn j c d x p z e3 L=>by
   have a5:gn<s.G st:=by
    exact WJ
   obtain⟨K,h1,f⟩:=R.loc st gn a5;obtain rfl:=ar (h1.symm.trans e3);exact r (R.gH st gn j c K x p z e3 (by rw[<-A (f.bJ j (b0 z)) (by simp)];exact L))
  j0:=R.j0
  gI:=λt st gn j e=>by
   obtain⟨ai,h1⟩:=R.gI t st gn j e;refine⟨ai,λd p=>?_⟩;obtain⟨f,y⟩:=h1 d p;obtain⟨K,f1,Q⟩:=R.loc st gn ai;cases (f1.symm.trans p);exact⟨by rw[A (Q.bJ j (b0 y)) bT];exact f,y⟩
  ie:=λt i j e=>by
   obtain⟨cs,h1,f,y⟩:=R.ie t i j e;refine⟨cs,h1,f,λd p=>?_⟩;obtain⟨K,f1,Q⟩:=R.heap.box i cs h1;cases (f1.symm.trans p);rw[A (Q.bJ j (b0 f)) bT];exact y _ p}
def Step.grow(S:Step g0 w0 g w)(j:qe GL g w)(h:Grow g0 w w'):Step g0 w0 g w' where
 g3:=S.g3
 eY:=S.eY
 hb:=S.hb
 ext b o e:=by
  obtain⟨h1,d,l⟩:=S.ext b o e;have hb:=j.ir b o (by rw[h1];simp);exact⟨h1,(h.cell b o hb).trans d,(h.Tu b o hb (by rw[e];simp)).trans l⟩
 n5 b f e h1 d:=h.obj b f h1 (S.n5 b f e h1 d)
 rm:=S.rm
 size:=aT S.size h.size
 gY:=S.gY.trans h.gY id
 whole b hb e:=(h.whole b (bj hb S.size)).trans (S.whole b hb e)
def Rel.base{E:aK}(f:a.tmps.size=s.n)(l:rW g w a.defers)(o:∀t,VR g ((s.base E).Z t) (a.tmps.getD t undef))(p:qe GL g w)(q:HR g E w)(r:∀i d,g.lb i d=none):Rel GL g (s.base E) a w where
 size:=f
 gi:=l
 Z t:=(o t).e0
 gF:=p
 heap:=q
 loc st d h:=by simp[St.base]at h
 jc st d _:=r st d
 jx t e:=by simp[St.base]at e
 gH st d j c b x e:=by simp[St.base]at e
 j0 t u e:=by simp[St.base]at e
 gI t st d j e:=by simp[St.base]at e
 ie t i j e:=by simp[St.base]at e
def K7{fz:aj}{E:aK}(h:jE fz s.E E):Nd fz s (s.base E) where
 n:=rfl
 Z x:=by
  show WV fz (s.Z x) (if(s.Z x).dY then .unk else s.Z x);split
  .exact .inl rfl
  .exact .inr (.refl _)
 lk _:=rfl
 fl x e:=by simp[St.base]at e
 G _:=aL _
 lp x i d off e:=by
  have f:(if(s.Z x).dY then V.unk else s.Z x)=.lp i d off:=e;split at f
  .cases f
  next l=>rw[f]at l;simp[V.dY]at l
 loc i d h:=by simp[St.base]at h
 fc i d j h:=by simp[St.base]at h
 E:=h
def Qg{E:aK}(R:Rel GL g (s.base E) a w)(t:Nat):VR g ((s.base E).Z t) (a.tmps.getD t undef):=
 (R.Z t).od (by
  intro i k m e;have d:(if(s.Z t).dY then V.unk else s.Z t)=.lp i k m:=e;split at d
  .cases d
  next f=>rw[d]at f;simp[V.dY]at f)
def No:∀(ps:List Nat)(vs:List V)(s:St),(s.xd ps vs).n=s.n
 |[],_,_=>by simp[St.xd]
 |_::_,[],_=>by simp[St.xd]
 |p::ps,v::vs,s=>by simp only[St.xd];rw[No ps vs];rfl
def Rel.xd:∀{ps:List Nat} {vs:List V} {ys:List Value} {s:St} {a:Act},Rel GL g s a w->ps.all (· <s.n)=true->vs.length=ps.length->ys.length=ps.length->(∀(k:Nat) c y,vs[k]?=some c->ys[k]?=some y->VR g c y)->
 Rel GL g (s.xd ps vs) {a with tmps:=(ps.zip ys).foldl (λt p=>t.setIfInBounds p.1 p.2) a.tmps} w
 |[],[],[],s,a,R,_,_,_,_=>R
 |p::ps,v::vs,y::ys,s,a,R,E,h1,f,h=>by
  simp only[bR,be,cq]at E;have j:=R.put (d:=p) (l:=none) (bJ:=false) E.1 (h 0 v y rfl rfl).e0 bT bT;exact Rel.xd (a:=a.put (some p) y) j E.2 (by simpa using h1) (by simpa using f) (λk c z o q=>h (k+1) c z (by simpa using o) (by simpa using q))
 |[],_::_,_,_,_,_,_,h1,_,_=>by simp at h1
 |_::_,[],_,_,_,_,_,h1,_,_=>by simp at h1
 |[],_,_::_,_,_,_,_,_,f,_=>by simp at f
 |_::_,_,[],_,_,_,_,_,f,_=>by simp at f
end
end
section
variable {GL:Nat->Option (List V)}{P:Program}
def Np(o:Oper):List Nat:=(o.after.toList.filter λe=>Region.binds .any e).map (·.on)
def K8:List Oper->List (Option BI)->Option (List (BI×List Nat))
 |[],[]=>some []
 |o::r,some b::q=>(K8 r q).map ((b,Np o)::·)
 |_,_=>none
def xe:∀{os:List Oper} {d:List (Option BI)} {l:List (BI×List Nat)},K8 os d=some l->os.length=l.length/\∀(i:Nat) o,os[i]?=some o->∃b,d[i]?=some (some b)/\l[i]?=some (b,Np o)
 |[],[],l,h=>by
  cases h;exact⟨rfl,λi o h=>by simp at h⟩
 |o::r,some b::q,l,h=>by
  obtain⟨u,f,rfl⟩:=bS.1 h;obtain⟨j,p⟩:=xe f;refine⟨by simp[j],λi t a=>?_⟩;cases i with
  |zero=>simp at a;subst a;exact⟨b,rfl,rfl⟩
  |succ i=>exact p i t (by simpa using a)
 |[],_::_,_,h=>by cases h
 |_::_,[],_,h=>by cases h
 |_::_,none::_,_,h=>by cases h
def YJ(l:List (BI×List Nat))(L:Array Bool)(i:Nat):Prop:=L.getD i true=false/\∃x,l[i]?=some x/\∀j∈x.2,L.getD j false=true
def cS(P:Program)(GL:aj)(l:List (BI×List Nat)):Nat->Array Bool->St->(St->Prop)->Prop
 |0,L,s,K=>(∀i,¬YJ l L i)/\K s
 |f+1,L,s,K=>((∀i,¬YJ l L i)->K s)/\∀i x,YJ l L i->l[i]?=some x->dq P GL false x.1 s λa=>cS P GL l f (L.setIfInBounds i true) a K
def EJ{ops:Array Oper}{bis:Array (Option BI)}{l:List (BI×List Nat)}{L:Array Bool}{i:Nat}(h:K8 ops.toList bis.toList=some l):i∈Region.ready .any ops L↔YJ l L i:=by
 obtain⟨z,r⟩:=xe h;rw[mem_ready];constructor
 .rintro⟨f,o,a,p⟩;obtain⟨b,_,d⟩:=r i o (by simpa using a);refine⟨f,_,d,λj A=>?_⟩;obtain⟨e,q,rfl⟩:=cB.1 A;obtain⟨t,u⟩:=jt.1 q;exact p e (by simpa using t) u
 .rintro⟨f,x,a,p⟩;have y:i<ops.toList.length:=by rw[z];exact(aH.1 a).1
  obtain⟨b,_,d⟩:=r i _ (aa y);rw[a]at d;cases d;refine⟨f,ops.toList[i],by simpa using aa y,λe q hb=>p _ ?_⟩;exact cB.2 ⟨e,jt.2 ⟨by simpa using q,hb⟩,rfl⟩
def Nq{ops:Array Oper}{bis:Array (Option BI)}{l:List (BI×List Nat)}(h:K8 ops.toList bis.toList=some l){K:St->Prop}:∀{f:Nat} {L:Array Bool} {s:St},cS P GL l f L s K->Bl P GL false ops bis f L s K
 |0,L,s,a=>⟨List.eq_nil_iff_forall_not_mem.2 λi d=>a.1 i ((EJ h).1 d),a.2⟩
 |f+1,L,s,a=>by
  refine⟨λr=>a.1 λi d=>(by have:=(EJ h).2 d;rw[r]at this;cases this),λi d=>?_⟩;have o:=(EJ h).1 d;obtain⟨y,x,j,z⟩:=id o;have t:i<ops.toList.length:=by rw[(xe h).1];exact(aH.1 j).1
  obtain⟨b,u,p⟩:=(xe h).2 i _ (aa t);rw[j]at p;cases p;exact⟨b,by simpa using u,gW (a.2 i _ o j) λA q=>Nq h q⟩
def Bo{l:List (BI×List Nat)}:∀{f:Nat} {L:Array Bool} {s:St} {K K':St->Prop},cS P GL l f L s K->(∀s,K s->K' s)->cS P GL l f L s K'
 |0,_,_,_,_,h,a=>⟨h.1,a _ h.2⟩
 |_+1,_,_,_,_,h,a=>⟨λd=>a _ (h.1 d),λi x j hx=>gW (h.2 i x j hx) λ_ o=>Bo o a⟩
end
section
variable {GL:Nat->Option (List V)}{P:Program}
inductive Ex where
 |normal
 |exit (id:Nat)
 |ret
 deriving DecidableEq
def Ex.real:Ex->Exit
 |.normal=>.normal
 |.exit id=>.exit id
 |.ret=>.ret
inductive BC where
 |skip
 |ops (pu:Bool) (l:List BI)
 |ws (pu:Bool) (p:k6)
 |seq (a b:BC)
 |cond (c:eL) (a b:BC)
 |block (id:Nat) (b:BC)
 |loop (b:BC)
 |exit (id:Nat)
 |ret
 |Mt (x:eL) (ps:List Nat) (a b:BC)
 |jn (a b:BC)
 |rG (t:Nat)
 |set (l:List (BI×List Nat))
def BC.DC(id:Nat):BC->Nat
 |.seq a b|.jn a b|.cond _ a b=>a.DC id+b.DC id
 |.block _ b|.loop b=>b.DC id
 |.exit d=>if d=id then 1 else 0
 |_=>0
def BC.yZ:BC->Bool
 |.skip|.ops .. |.ws .. |.Mt .. |.rG _|.set _=>true
 |.seq a b|.jn a b=>a.yZ&&b.yZ
 |.cond _ a b=>a.yZ||b.yZ
 |.block id b=>b.yZ||b.DC id !=0
 |.loop _|.exit _|.ret=>false
def BC.DD:BC->Bool
 |.seq _ b|.jn _ b=>b.DD
 |.cond _ a b=>a.yZ&&b.yZ||a.DD||b.DD
 |.block id b=>(b.yZ||b.DD)&&b.DC id !=0||b.DC id>1||b.DD
 |_=>false
def Jq(ops:Array Oper):Option Nat:=match ops.toList with
 |[d,j]=>match d.op,d.dst,d.guard,j.op,j.dst,j.guard with
  |.makeFunc (.func f) first cap,some t,none,.defer c,none,none=>match first.toList,cap.toList,c.callee,c.args.toList with
   |[],[_,_,_],.value (.tmp u),[]=>if dfK f=true/\u=t then some t else none
   |_,_,_,_=>none
  |_,_,_,_,_,_=>none
 |_=>none
def comp(P:Program)(GL:aj)(j d:List Nat)(n:Nat):Code->Option BC
 |.skip|.label _=>some .skip
 |.region id ops draw=>
  if draw&&d.contains (id+1000)then(K8 ops.toList (ops.map (w8 P GL j n ops)).toList).map .set
  else if draw then(yh (!d.contains id) ops (ops.map (w8 P GL j n ops)) ops.size (Array.replicate ops.size false)).map (.ws (!d.contains id))
  else match Jq ops with
   |some t=>if t<n then some (.rG t)else none
   |none=>(Dy P GL j n ops (List.range ops.size)).map (.ops (!d.contains id))
 |.seq a b=>match comp P GL j d n a,comp P GL j d n b with
  |some x,some y=>some (if x.DD then .jn x y else .seq x y)
  |_,_=>none
 |.cond c a b=>match eE GL c,comp P GL j d n a,comp P GL j d n b with
  |some c,some x,some y=>some (.cond c x y)
  |_,_,_=>none
 |.block id b=>(comp P GL j d n b).map (.block id)
 |.loop b=>(comp P GL j d n b).map .loop
 |.scope b=>comp P GL j d n b
 |.exit id=>some (.exit id)
 |.ret=>some .ret
 |.rangeFunc f l a b=>match eE GL f,comp P GL j d n a,comp P GL j d n b with
  |some x,some a,some b=>if l.toList.all (· <n)then some (.Mt x l.toList a b)else none
  |_,_,_=>none
 |_=>none
def BI.iJ(b:BI):List Nat:=b.dst.toList
def Jr:List BI->List Nat
 |[]=>[]
 |b::r=>b.iJ++Jr r
def k6.iJ:k6->List Nat
 |.done|.stop=>[]
 |.one _ b p=>b.iJ++p.iJ
 |.alt b p q=>b.iJ++(p.iJ++q.iJ)
def BC.iJ:BC->List Nat
 |.skip|.exit _|.ret=>[]
 |.ops _ l=>Jr l
 |.ws _ p=>p.iJ
 |.seq a b|.cond _ a b|.jn a b=>a.iJ++b.iJ
 |.block _ b|.loop b=>b.iJ
 |.Mt .. =>[]
 |.rG t=>[t]
 |.set l=>l.flatMap λx=>x.1.iJ
def BC.vO:BC->Bool
 |.seq a b|.cond _ a b|.jn a b=>a.vO&&b.vO
 |.block _ b|.loop b=>b.vO
 |.Mt .. |.rG _|.set _=>false
 |_=>true
def HX.quiet:HX->Bool
 |.lookup .. |.wZ .. =>true
 |_=>false
def MX.quiet:MX->Bool
 |.entry _=>true
 |_=>false
def BI.quiet(b:BI):Bool:=match b.op with
 |.ex x=> !x.sJ
 |.hx h=>h.quiet
 |.mx m=>m.quiet
 |_=>true
def EK:List BI->Bool
 |[]=>true
 |b::r=>b.quiet&&EK r
def k6.quiet:k6->Bool
 |.done|.stop=>true
 |.one _ b p=>b.quiet&&p.quiet
 |.alt b p q=>b.quiet&&(p.quiet&&q.quiet)
def BC.quiet:BC->Bool
 |.skip|.exit _|.ret=>true
 |.ops d l=>d&&EK l
 |.ws d p=>d&&p.quiet
 |.seq a b|.cond _ a b|.jn a b=>a.quiet&&b.quiet
 |.block _ b|.loop b=>b.quiet
 |.Mt .. |.rG _|.set _=>false
def K9(s:St):Prop:=∀x i d off,s.Z x=.lp i d off->d<s.G i
structure Kept(s t:St):Prop where
 n:t.n=s.n
 G:∀i,s.G i<=t.G i
 loc:∀i gn,gn<s.G i->t.loc i gn=s.loc i gn
 box:t.E.box=s.E.box
 mp:t.E.mp=s.E.mp
 Y:t.E.Y=s.E.Y
def Kept.refl(s:St):Kept s s:=⟨rfl,λ_=>an _,λ_ _ _=>rfl,rfl,rfl,rfl⟩
def Kept.trans{s t u:St}(h:Kept s t)(d:Kept t u):Kept s u:=
 ⟨d.n.trans h.n,λi=>aT (h.G i) (d.G i),λi f j=>(d.loc i f (bj j (h.G i))).trans (h.loc i f j),d.box.trans h.box,d.mp.trans h.mp,d.Y.trans h.Y⟩
def Rel.UL{g:aY}{s:St}{a:Act}{w:World}(R:Rel GL g s a w):K9 s:=by
 intro x i d off e;have:=R.Z x;rw[e]at this;obtain⟨b,f,_⟩:=this;rcases am d (s.G i)with h|h
 .exact h
 .rw[R.jc i d h]at f;cases f
def er(P:Program)(GL:aj)(pu:Bool):List BI->St->(St->Prop)->Prop
 |[],s,K=>K s
 |i::r,s,K=>dq P GL pu i s λd=>er P GL pu r d K
def Tw(v:V)(A B:Prop):Prop:=∃b,v=.bool b/\(b=true->A)/\(b=false->B)
def Ex.andThen(e:Ex)(s:St)(next:St->Prop)(K:Ex->St->Prop):Prop:=match e with
 |.normal=>next s
 |e=>K e s
def vc(P:Program)(GL:aj):BC->St->(Ex->St->Prop)->Prop
 |.skip,s,K=>K .normal s
 |.ops q l,s,K=>er P GL q l s (K .normal)
 |.ws q p,s,K=>bU P GL q p s (K .normal)
 |.seq a b,s,K=>vc P GL a s λe d=>e.andThen d (λd=>vc P GL b d K) K
 |.jn a b,s,K=>K9 s->vc P GL a s λe d=>e.andThen d (λd=>vc P GL b d K\/∃t,EG d t/\(∀x,x∉a.iJ->t.Z x=d.Z x)/\(a.quiet=true->Kept s t)/\vc P GL b t K) K
 |.cond c a b,s,K=>Tw (s.val c) (vc P GL a s K) (vc P GL b s K)
 |.block id b,s,K=>vc P GL b s λe d=>if e=.exit id then K .normal d else K e d
 |.loop b,s,K=>K9 s->∃(I:Nat->St->Prop),(∃k t,EG s t/\I k t)/\(b.quiet=true->∀k t,I k t->Kept s t)/\(∀k t,I k t->∀x,x∉b.iJ->t.Z x=s.Z x)/\
  ∀k t,I k t->vc P GL b t λe d=>e.andThen d (λd=>K9 d->∃r u,r<k/\EG d u/\I r u) K
 |.exit id,s,K=>K (.exit id) s
 |.ret,s,K=>K .ret s
 |.rG t,s,K=>K .normal (s.put t .unk none false)
 |.set l,s,K=>cS P GL l l.length (Array.replicate l.length false) s (K .normal)
 |.Mt x y a b,s,K=>∃f cap items,s.val x=.fn f cap/\fK P f=true/\Iter P f cap items/\(∀it∈items,it.length=y.length)/\a.vO=true/\b.vO=true/\
  ∃J:Nat->aK->Prop,(∃fz E,jE fz s.E E/\J 0 E)/\
   (∀j E it,J j E->items[j]?=some it->vc P GL a (s.begin E y it) λe t=>e=.normal/\vc P GL b t λe t=>match e with
    |.normal=>∃fz o,jE fz t.E o/\J (j+1) o
    |.ret=>K .ret (s.base t.E)
    |.exit id=>K (.exit id) (s.base t.E))/\
   ∀E,J items.length E->K .normal (s.base E)
def Js{pu:Bool}:∀{l:List BI} {s:St} {K:St->Prop},er P GL pu l s K->vN P GL l s K
 |[],_,_,h=>h
 |i::r,s,K,h=>by
  simp only[er]at h;simp only[vN];have d:=gW h λo f=>Js f;unfold dq at d;cases j:i.guard with
  |none=>simp only[j]at d ⊢;exact Bj d
  |some p=>
   obtain⟨t,want⟩:=p;simp only[j]at d ⊢
   revert d
   cases s.Z t with
   |bool b=>
    intro d;simp only at d ⊢
    by_cases hb:b=want
    .rw[ax hb]at d ⊢;exact Bj d
    .rw[al hb]at d ⊢;exact d
   |_=>exact id
def H5{F:Fence}{n:Nat}{c:Code}{Q:Exit->Act->World->Prop}{a:Act}{w:World}(h:c.wpIn F n P (Exit.noGoto Q) a w):(Code.scope c).wpIn F n P Q a w:=by
 intro b k cs q hb p;have j:StepsIn (Machine.fenced P F) P (lone (b.atR a (.code (.scope c)::k)) cs w) (lone (b.atR a (.code c::.inScope c::k)) cs w):=
  .one (fenced_calm hb p rfl) (step_lone_go (by simp[stepG,stepG.exec,Frame.atR]))
 obtain⟨e,a₁,f,o,d⟩:=h b (.inScope c::k) cs q hb p;cases e with
 |normal=>exact⟨.normal,a₁,f,o,StepsIn.trans j (StepsIn.trans d (.one (fenced_calm hb p rfl) (step_lone_go (by simp[stepG,stepG.exec,Frame.atR]))))⟩
 |exit id=>
  have r:exitTo id (.inScope c::k)=exitTo id k:=by simp[exitTo]
  refine⟨.exit id,a₁,f,o,λt u=>StepsIn.trans j (d.1 t (by rw[r];exact u)),λy z=>?_⟩;obtain⟨k₁,A,D⟩:=d.2 y (by rw[r];exact z);exact⟨k₁,A,StepsIn.trans j D⟩
 |goto l=>exact o.elim
 |ret=>exact⟨_,a₁,f,o,.of_steps j d⟩
 |panic ch=>exact⟨_,a₁,f,o,.of_steps j d⟩
 |outgrown=>exact⟨_,a₁,f,o,.of_steps j d⟩
def uB{pu:Bool}:∀{l:List BI} {s:St} {K K':St->Prop},er P GL pu l s K->(∀s,K s->K' s)->er P GL pu l s K'
 |[],_,_,_,h,d=>d _ h
 |_::_,_,_,_,h,d=>gW h λ_ f=>uB f d
def kD{pu:Bool}:∀{p:k6} {s:St} {K K':St->Prop},bU P GL pu p s K->(∀s,K s->K' s)->bU P GL pu p s K'
 |.done,_,_,_,h,d=>d _ h
 |.stop,_,_,_,_,_=>trivial
 |.one _ _ _,_,_,_,h,d=>gW h λ_ f=>kD f d
 |.alt _ _ _,_,_,_,h,d=>⟨gW h.1 λ_ f=>kD f d,kD h.2 d⟩
def im{e:Ex}{s:St}{N d:St->Prop}{K K':Ex->St->Prop}(h:e.andThen s N K)(f:N s->d s)(j:K e s->K' e s):e.andThen s d K':=by
 cases e with
 |normal=>exact f h
 |_=>exact j h
def fV:∀{b:BC} {s:St} {K K':Ex->St->Prop},vc P GL b s K->(∀e s,K e s->K' e s)->vc P GL b s K':=by
 intro b;induction b with
 |skip=>intro s K K' h d;exact d _ _ h
 |ops Q l=>intro s K K' h d;exact uB h (d _)
 |ws Q p=>intro s K K' h d;exact kD h (d _)
 |seq a b q o=>intro s K K' h d;exact q h λe t r=>im r (λD=>o D d) (d e t)
 |jn a b q o=>intro s K K' h d L;exact q (h L) λe t r=>im r (λD=>D.imp (λD=>o D d) λ⟨t,y,z,A,H⟩=>⟨t,y,z,A,o H d⟩) (d e t)
 |cond c a b q o=>intro s K K' h d;obtain⟨t,y,z,A⟩:=h;exact⟨t,y,λe=>q (z e) d,λe=>o (A e) d⟩
 |block id b ih=>
  intro s K K' h d;refine ih h λe t r=>?_;by_cases N:e=.exit id
  .simp only[N,bP]at r ⊢;exact d _ _ r
  .simp only[N,cH]at r ⊢;exact d _ _ r
 |loop b ih=>
  intro s K K' h d L;obtain⟨I,y,z,A,H⟩:=h L;exact⟨I,y,z,A,λk t R=>ih (H k t R) λe u ab=>im ab id (d e u)⟩
 |exit id=>intro s K K' h d;exact d _ _ h
 |ret=>intro s K K' h d;exact d _ _ h
 |rG t=>intro s K K' h d;exact d _ _ h
 |set l=>intro s K K' h d;exact Bo h (d _)
 |Mt x a0 a b q o=>
  intro s K K' h d;obtain⟨f,cap,items,y,z,A,H,ac,ad,J,ai,aA,aB⟩:=h;exact⟨f,cap,items,y,z,A,H,ac,ad,J,ai,λj E it aC aD=>q (aA j E it aC aD) λe t h=>⟨h.1,o h.2 λe t=>by cases e<;>intro h<;>first|exact h|exact d _ _ h⟩,λE e=>d _ _ (aB E e)⟩
def OKc(P:Program)(GL:aj)(l o:List Nat)(c:Code):Prop:=∀{bc:BC} {s:St} {K:Ex->St->Prop} {g:aY} {a:Act} {w:World} {ro:Option Nat} {m:Nat},comp P GL l o s.n c=some bc->(ro=none\/bc.vO=true)->vc P GL bc s K->Rel GL g s a w->
 ∀{Q:Exit->Act->World->Prop},(∀e j d a' f,K e d->d.n=s.n->Rel GL j d a' f->Step g w j f->Q e.real a' f)->c.wpIn (FW ro) m P Q a w
def UM{c7 u:List Nat}{f:Operand}{ps:Array Tmp}{assign body:Code}{ab bb:BC}{s:St}{K:Ex->St->Prop}{z:aY}{a:Act}{w:World}{m:Nat}{gf:FuncId}{cap:List V}{items:List (List V)}{J:Nat->aK->Prop}{fA:aK}{xs:Array Value}
 (hv:comp P GL c7 u s.n assign=some ab) (hb:comp P GL c7 u s.n body=some bb) (e4:ab.vO=true) (e5:bb.vO=true) (e6:ps.toList.all (· <s.n)=true) (bY:Rel GL z (s.base fA) a w)
 {Q:Exit->Act->World->Prop} (e7:∀e g' s' a' w',K e s'->s'.n=s.n->Rel GL g' s' a' w'->Step z w g' w'->Q e.real a' w')
 (fa:a.eval f=.func (.func gf) #[] xs) (fr:xs.size=cap.length) (fs:∀(j:Nat) c x,cap[j]?=some c->xs[j]?=some x->VR z c x) (ed:fK P gf=true) (fB:Iter P gf cap items) (hlen:∀it∈items,it.length=ps.toList.length)
 (gb:J 0 fA)
 (b2:∀j E it,J j E->items[j]?=some it->vc P GL ab (s.begin E ps.toList it) λe t=>e=.normal/\vc P GL bb t λe t=>match e with
  |.normal=>∃fz L,jE fz t.E L/\J (j+1) L
  |.ret=>K .ret (s.base t.E)
  |.exit id=>K (.exit id) (s.base t.E))
 (c9:∀E,J items.length E->K .normal (s.base E)) (gk:OKc P GL c7 u assign) (gn:OKc P GL c7 u body):(Code.rangeFunc f ps assign body).wpIn (FW none) m P Q a w:=by
 refine wpIn_rangeFunc ?_;intro fn hO;obtain⟨D,bu⟩:∃D,D=w.heap.size:=⟨_,rfl⟩;obtain⟨rec,q⟩:∃rec:LoopState->Option Code->Loop,rec=λst aB=>{state:=st,pending:=aB,fn,tmps:=a.tmps,params:=ps,assign,body,defers:=D}:=⟨_,rfl⟩;obtain⟨aC,a6⟩:∃aC,aC=(w.alloc (.deferred (some []))).alloc (.loop (rec .ready none)):=⟨_,rfl⟩;obtain⟨b3,a1⟩:∃b3:Act,b3={tmps:=a.tmps,defers:=[]}:=⟨_,rfl⟩;obtain⟨g0,a2⟩:∃g0:aY,g0={z with bJ:=λb o=>match z.bJ b o with|.rG=>.ext|x=>x}:=⟨_,rfl⟩;have o1:∀b o,g0.bJ b o=z.bJ b o\/(z.bJ b o=.rG/\g0.bJ b o=.ext):=by
  intro b o;rw[a2];simp only;split
  next h=>exact .inr ⟨h,rfl⟩
  .exact .inl rfl
 have a7:Rel GL g0 (s.base fA) {tmps:=a.tmps,defers:=[]} w:=
  bY.swap rfl .nil (λb o=>(o1 b o).imp id λh=>⟨.inr h.1,.inl h.2⟩) (by rw[a2]) (by rw[a2])
 have b5:z.Le g0:=by
  have k:∀{b o ow},z.bJ b o=ow->ow≠.rG->g0.bJ b o=ow:=λ{b o ow} e h=>by
   rcases o1 b o with h1|h1
   .rw[h1,e]
   .exact absurd (e.symm.trans h1.1) h
  exact⟨λ_ _ _ e=>k e bT,λ_ _ e=>k e bT,λ_ _ e=>by rw[a2];exact e⟩
 have gp:Rel GL ((g0.block w.heap.size λ_=>.ext).block (w.alloc (.deferred (some []))).heap.size λ_=>.ext) (s.base fA) {tmps:=a.tmps,defers:=[]} aC:=by
  rw[a6];exact(a7.alloc (ow:=λ_=>.ext) (ob:=.deferred (some [])) (λ_ _ e=>by cases e) (λ_ e=>by cases e)).alloc (λ_ _ e=>by cases e) (λ_ e=>by cases e)
 have ha:Step g0 w ((g0.block w.heap.size λ_=>.ext).block (w.alloc (.deferred (some []))).heap.size λ_=>.ext) aC:=by
  rw[a6];exact(Step.alloc a7.gF).trans (Step.alloc (a7.alloc (ow:=λ_=>.ext) (ob:=.deferred (some [])) (λ_ _ e=>by cases e) (λ_ e=>by cases e)).gF)
 have dr:((g0.block w.heap.size λ_=>.ext).block (w.alloc (.deferred (some []))).heap.size λ_=>.ext).bJ (D+1) 0=.ext:=by
  have:D+1=(w.alloc (.deferred (some []))).heap.size:=by simp[bu]
  rw[this];exact aY.eI _ _ _ _
 have ds:((g0.block w.heap.size λ_=>.ext).block (w.alloc (.deferred (some []))).heap.size λ_=>.ext).bJ D 0=.ext:=by
  rw[aY.e8 _ _ _ (by simp[bu]),bu];exact aY.eI _ _ _ _
 have hc:aC.heap[D+1]?=some (.loop (rec .ready none)):=by
  have:D+1=(w.alloc (.deferred (some []))).heap.size:=by simp[bu]
  rw[a6,this];exact wU _ _
 have hd:aC.heap[D]?=some (.deferred (some [])):=by
  rw[a6];refine py _ _ ?_;rw[bu];exact wU _ _
 generalize (g0.block w.heap.size λ_=>.ext).block (w.alloc (.deferred (some []))).heap.size (λ_=>.ext)=g1 at gp ha dr ds;obtain⟨ad,A⟩:∃ad:LoopState->Option Code->aY->aK->World->Prop,ad=λst aB g E W=>Rel GL g (s.base E) b3 W/\Step g0 w g W/\g.bJ (D+1) 0=.ext/\g.bJ D 0=.ext/\W.heap[D+1]?=some (.loop (rec st aB))/\W.heap[D]?=some (.deferred (some [])):=⟨_,rfl⟩;have bare:∀{g:aY} {s':St} {W:World},Rel GL g s' {tmps:=a.tmps,defers:=[]} W->Rel GL g s' b3 W:=λR=>by
  subst a1;exact R
 have grow:∀{st aB g E W bv},ad st aB g E W->Grow g0 W bv->ad st aB g E bv:=by
  intro st aB g E W bv h a8;rw[A]at h ⊢
  obtain⟨R,S,h1,aD,a3,b6⟩:=h;exact⟨R.grow S.le a8,S.grow R.gF a8,h1,aD,a8.obj _ _ rfl a3,a8.obj _ _ rfl b6⟩
 have outer:∀{g E W} {st aB},ad st aB g E W->∀ai aA,∃ac,Rel GL ac (s.base E) {a with defers:=[{target:=.collected D,args:=#[]}]++a.defers} (l3 W (D+1) (.loop (rec ai aA)))/\Step z w ac (l3 W (D+1) (.loop (rec ai aA))):=by
  intro g E W st aB h ai aA;rw[A]at h;obtain⟨R,S,h1,aD,a3,b6⟩:=h;have H:=S.H4 (pc:=.loop (rec ai aA)) a7.gF av a3 rfl rfl;have he:=R.H4 (pc:=.loop (rec ai aA)) a3 rfl rfl h1 bT;have dE:(l3 W (D+1) (.loop (rec ai aA))).heap[D]?=some (.deferred (some [])):=by rw[kx av];exact b6
  generalize l3 W (D+1) (.loop (rec ai aA))=bv at H he dE;obtain⟨ac,a9⟩:∃ac:aY,ac={g with bJ:=λb o=>match z.bJ b o with|.rG=>.rG|_=>if b=D/\o=0 then .rG else g.bJ b o}:=⟨_,rfl⟩;have key:∀b o,(z.bJ b o=.rG\/(b=D/\o=0))->g.bJ b o=.ext/\ac.bJ b o=.rG:=by
   intro b o r;refine⟨?_,by
    rw[a9];simp only;split
    .rfl
    next bl=>
     rcases r with r|r
     .exact absurd r bl
     .rw[ax r]⟩
   rcases r with r|⟨rfl,rfl⟩
   .rcases o1 b o with l|l
    .rw[a2]at l;simp only[r]at l;cases l
    .exact(H.ext b o l.2).1
   .exact aD
  have b7:∀b o,¬(z.bJ b o=.rG\/(b=D/\o=0))->ac.bJ b o=g.bJ b o/\g0.bJ b o=z.bJ b o:=by
   intro b o r;refine⟨by
    rw[a9];simp only;split
    next bl=>exact absurd (.inl bl) r
    .rw[al (λbl=>r (.inr bl))],?_⟩
   rcases o1 b o with l|l
   .exact l
   .exact absurd (.inl l.1) r
  have hR:w.heap.size<=D:=av;have hf:∀o,z.bJ D o=.free:=by
   intro o;refine cM λca=>?_;have:=bY.gF.ir D o ca;omega
  have up:∀{b o ow},z.bJ b o=ow->ow≠.rG->ow≠.free->(g0.bJ b o=ow->g.bJ b o=ow)->ac.bJ b o=ow:=by
   intro b o ow e l bo hw;have r:¬(z.bJ b o=.rG\/(b=D/\o=0)):=by
    rintro(el|⟨rfl,rfl⟩)
    .exact l (e.symm.trans el)
    .exact bo (e.symm.trans (hf 0))
   obtain⟨el,bl⟩:=b7 b o r;rw[el];exact hw (bl.trans e)
  refine⟨ac,he.swap (by subst a1;rfl) ?_ (λb o=>?_) (by rw[a9]) (by rw[a9]),?_⟩
  .refine⟨λd cb=>?_,?_⟩
   .rcases bn.1 cb with rfl|cb
    .exact .inl ⟨D,rfl,(key D 0 (.inr ⟨rfl,rfl⟩)).2,dE⟩
    .rcases bY.gi.1 d cb with⟨dd,bi,a4,hg⟩|ca
     .exact .inl ⟨dd,bi,(key dd 0 (.inl a4)).2,H.n5 dd _ (by rw[a2];simp only[a4]) rfl hg⟩
     .exact .inr ca
   .refine eu.2 ⟨λd cb=>.inl ?_,bY.gi.2⟩;rcases bY.gi.1 d cb with⟨dd,bi,a4,hg⟩|⟨k,hS,h0,h2,_,ca⟩
    .rintro rfl;simp at bi;subst bi;rw[hf 0]at a4;cases a4
    .rintro rfl;simp at ca
  .by_cases r:z.bJ b o=.rG\/(b=D/\o=0)
   .obtain⟨l,bo⟩:=key b o r;exact .inr ⟨.inl l,.inr bo⟩
   .exact .inl (b7 b o r).1
  .exact {
    g3:=λb o x e=>up e bT bT (H.g3 b o x)
    eY:=λb ob e=>up e bT bT (H.eY b ob)
    hb:=λi b e=>by rw[a9];exact H.hb i b (b5.hb i b e)
    ext:=λb o e=>by
     have r:g0.bJ b o=.ext:=by
      rcases o1 b o with l|l
      .rw[l,e]
      .exact l.2
     exact⟨up e bT bT (λh=>(H.ext b o h).1),(H.ext b o r).2⟩
    n5:=λb ob e l bo=>by
     have r:g0.bJ b 0=.ext:=by
      rcases o1 b 0 with l|l
      .rw[l,e]
      .exact l.2
     exact H.n5 b ob r l bo
    rm:=λb o e hb=>by
     by_cases r:z.bJ b o=.rG\/(b=D/\o=0)
     .rw[(key b o r).2]at e;cases e
     .obtain⟨l,bo⟩:=b7 b o r;rw[<-bo];exact H.rm b o (l.symm.trans e) hb
    size:=H.size
    gY:=⟨H.gY.tape,H.gY.os,H.gY.out,λe=>H.gY.drawn (by
     rcases o1 0 0 with l|l
     .rw[l,e]
     .exact l.2)⟩
    whole:=λb hb e=>H.whole b hb λo=>by
     rcases o1 b o with l|l
     .rw[l];exact e o
     .exact .inl l.2}
 refine⟨D+1,[{target:=.collected D,args:=#[]}],aC,{target:=.fn (.func gf) xs,args:=#[.func (.yield (D+1)) #[] #[]]},aC,gf,#[.func (.yield (D+1)) #[] #[]]++xs,aC,?_,?_,λ_ _=>trivial,?_,λe=>(by cases e),?_⟩
 .rw[a6,q,bu];exact run_enterLoop_outer _ _ _ _ _
 .simp only[resolve,fa];simp[go_sem]
 .simp[invoke,go_sem,p0 ed]
 .refine(fB (D+1) (m-1) g0 aC xs (λj W=>∃g E,J j E/\ad .ready none g E W) (λW=>∃(e:Ex)(c:Code)(g:aY)(E:aK),K e (s.base E)/\((e=.ret/\c=.ret)\/∃id,e=.exit id/\c=.exit id)/\ad .done (some c) g E W) fr (λj c x bi a4=>(fs j c x bi a4).mono b5) ?_ ?_ ?_ ?_ ?_).mono ?_
  .rintro j W ⟨g,E,_,h⟩ b o x e;rw[A]at h;exact h.1.gF.g3 b o x (h.2.1.g3 b o x e)
  .rintro j W bv ⟨g,E,h1,aD⟩ a8;exact⟨g,E,h1,grow aD a8⟩
  .rintro W bv ⟨e,c,g,E,h1,aD,a3⟩ a8;exact⟨e,c,g,E,h1,aD,grow a3 a8⟩
  .rintro j W it ys ⟨g,E,et,N⟩ hh dU hi;rw[A]at N;obtain⟨R,S,h1,aD,a3,b6⟩:=N;have cc:it.length=ps.toList.length:=hlen it (bW hh);have hj:=run_yield (P:=P) (args:=ys) a3 (by rw[q];simp only;rw[dU,cc];simp);rw[q]at hj;refine⟨fn,_,assign,body,hj,?_⟩;have hy:(ps.zip ys).foldl (λtmps (t,v)=>tmps.setIfInBounds t v) a.tmps=(ps.toList.zip ys.toList).foldl (λt p=>t.setIfInBounds p.1 p.2) a.tmps:=by
    rw[<-l7,Array.toList_zip]
   have hz:Rel GL g (s.begin E ps.toList it) {tmps:=(ps.toList.zip ys.toList).foldl (λt p=>t.setIfInBounds p.1 p.2) a.tmps,defers:=[]} W:=by
    have:=R.xd (ps:=ps.toList) (vs:=it) (ys:=ys.toList) e6 cc (by simp[dU,cc]) (λk c y bi a4=>(hi k c y bi (by simpa using a4)).mono S.le);subst a1;exact this
   refine roundIn_of_wpIn trivial ?_;have ea:(s.begin E ps.toList it).n=s.n:=No _ _ _;simp only[hy];refine gk (ro:=some (D+1)) (m:=m-1-1) (by rw[ea];exact hv) (.inr e4) (b2 j E it et hh) hz ?_;rintro e hk t hB hl ⟨rfl,hn⟩ ho hD ch;have ci:=(ch.ext _ _ h1).1;have bs:=ch.n5 _ _ h1 rfl a3;have eb:=(ch.ext _ _ aD).1;have hq:=ch.n5 _ _ aD rfl b6;refine⟨_,run_beginRound bs (by rw[q]),?_⟩;have df:({rec .ready none with state:=.busy}:Loop)=rec .busy none:=by rw[q]
   rw[df];have hF:Rel GL hk t hB (l3 hl (D+1) (.loop (rec .busy none))):=hD.H4 bs rfl rfl ci bT;have hH:Step g0 w hk (l3 hl (D+1) (.loop (rec .busy none))):=(S.trans ch).H4 a7.gF av bs rfl rfl;refine gn (ro:=some (D+1)) (m:=m-1-1) (by rw[ho,ea];exact hb) (.inr e5) hn hF ?_;rintro e g4 cp h3 a0 c1 hQ hr c2;have c5:=(c2.ext _ _ ci).1;have a5:a0.heap[D+1]?=some (.loop (rec .busy none)):=c2.n5 _ _ ci rfl (zZ bs);have eK:=(c2.ext _ _ eb).1;have e1:a0.heap[D]?=some (.deferred (some [])):=c2.n5 _ _ eb rfl (by rw[kx av];exact hq);have fin:∀(jump:Option Code)(fz:aj)(L:aK),jE fz cp.E L->
    (Instr.endRound (D+1) jump).run P a0=.ok (.bool jump.isNone) (l3 a0 (D+1) (.loop (rec (if jump.isNone then .ready else .done) jump)))/\
    ∃g5,ad (if jump.isNone then .ready else .done) jump g5 L (l3 a0 (D+1) (.loop (rec (if jump.isNone then .ready else .done) jump))):=by
    intro jump fz L e2;have u:=run_endRound (P:=P) jump a5;have c6:({rec .busy none with state:=if jump.isNone then .ready else .done,pending:=jump}:Loop)=rec (if jump.isNone then .ready else .done) jump:=by rw[q]
    rw[c6]at u;refine⟨u,g4.cut a0 fz (λ_=>0),?_⟩;have hs:Step g0 w (g4.cut a0 fz λ_=>0) a0:=(hH.trans c2).trans Step.cut;have hK:Rel GL (g4.cut a0 fz λ_=>0) (s.base L) b3 a0:=by
     refine Rel.base (by subst a1;exact a7.size) (by subst a1;exact .nil) (λt=>?_) hr.gF.cut (hr.heap.cut e2) (λi h4=>by simp[aY.cut]);have:=(Qg a7 t).mono hs.le;subst a1;exact this
    rw[A];refine⟨hK.H4 a5 rfl rfl (w6.2 c5) bT,hs.H4 a7.gF av a5 rfl rfl,w6.2 c5,w6.2 eK,zZ a5,by rw[kx av];exact e1⟩
   cases e with
   |normal=>
    obtain⟨fz,L,e2,ht⟩:=c1;obtain⟨u,g5,l⟩:=fin none fz L e2;exact⟨_,_,u,.inl ⟨rfl,g5,L,ht,l⟩⟩
   |ret=>
    obtain⟨u,g5,l⟩:=fin (some .ret) jH cp.E (.refl _);exact⟨_,_,u,.inr ⟨rfl,.ret,.ret,g5,cp.E,c1,.inl ⟨rfl,rfl⟩,l⟩⟩
   |exit id=>
    obtain⟨u,g5,l⟩:=fin (some (.exit id)) jH cp.E (.refl _);exact⟨_,_,u,.inr ⟨rfl,.exit id,.exit id,g5,cp.E,c1,.inr ⟨id,rfl,rfl⟩,l⟩⟩
  .exact⟨g1,fA,gb,by rw[A];exact⟨bare gp,ha,dr,ds,hc,hd⟩⟩
  .rintro e W ⟨v,rfl,h⟩;rcases h with⟨g,E,et,N⟩|⟨e,c,g,E,hM,hu,N⟩
   .have e3:W.heap[D+1]?=some (.loop (rec .ready none)):=by rw[A]at N;exact N.2.2.2.2.1
    obtain⟨ac,R,S⟩:=outer N .exhausted none;have u:=run_endLoop (P:=P) e3 (by rw[q];simp);have c6:({rec .ready none with state:=.exhausted}:Loop)=rec .exhausted none:=by rw[q]
    rw[c6]at u;refine⟨none,l3 W (D+1) (.loop (rec .exhausted none)),by rw[u,show(rec .ready none).pending=none by rw[q]];rfl,?_⟩;exact e7 .normal ac _ _ _ (c9 E et) rfl R S
   .have e3:W.heap[D+1]?=some (.loop (rec .done (some c))):=by rw[A]at N;exact N.2.2.2.2.1
    obtain⟨ac,R,S⟩:=outer N .exhausted (some c);have u:=run_endLoop (P:=P) e3 (by rw[q];simp);have c6:({rec .done (some c)with state:=.exhausted}:Loop)=rec .exhausted (some c):=by rw[q]
    rw[c6]at u;refine⟨some c,l3 W (D+1) (.loop (rec .exhausted (some c))),by rw[u,show(rec .done (some c)).pending=some c by rw[q]];rfl,?_⟩;have:=e7 e ac _ _ _ hM rfl R S;rcases hu with⟨rfl,rfl⟩|⟨id,rfl,rfl⟩
    .exact wpIn_ret this
    .exact wpIn_exit this
def UN{ops:Array Oper}{t:Nat}{s:St}{K:Ex->St->Prop}{g:aY}{a:Act}{w:World}{m:Nat}(h:Jq ops=some t)(H:t<s.n)(a2:vc P GL (.rG t) s K)(R:Rel GL g s a w)
 {Q:Exit->Act->World->Prop} (a3:∀g' s' a' w',K .normal s'->s'.n=s.n->Rel GL g' s' a' w'->Step g w g' w'->Q .normal a' w'):wpOpsIn (FW none) m P ops Q (List.range ops.size) a w:=by
 unfold Jq at h;split at h
 next o1 o2 L=>
  split at h
  next f first cap bu c N ab ac ad ai aA=>
   split at h
   next j o p u f1 aB a4 aC=>
    split at h
    next y=>
     obtain⟨y,rfl⟩:=y;obtain rfl:=ar h;have z:ops=#[o1,o2]:=li.1 (by simpa using L);have q:first=#[]:=li.1 (by simpa using f1)
     have A:cap=#[j,o,p]:=li.1 (by simpa using aB);have r:c.args=#[]:=li.1 (by simpa using aC);subst z q A;clear L f1 aB aC;obtain⟨bv,p1,a5,q1,a6,bo⟩:=o1;obtain⟨bY,b2,aD,a7,a8,bs⟩:=o2;simp only at N ab ac ad ai aA;subst N ab ac ad ai aA;have a0:=R.put (d:=u) (v:=.unk) (x:=.func (.func f) #[] #[a.eval j,a.eval o,a.eval p]) (l:=none) (bJ:=false) H (.unk _) (by simp) (by simp);have a1:(a.put (some u) (.func (.func f) #[] #[a.eval j,a.eval o,a.eval p])).eval (.tmp u)=.func (.func f) #[] #[a.eval j,a.eval o,a.eval p]:=by
      have:=rn a.tmps u (.func (.func f) #[] #[a.eval j,a.eval o,a.eval p]) (by rw[R.size];exact H);simpa[Act.put,Act.eval]using this
     show wpOpsIn (FW none) m P _ Q [0,1] a w;simp only[wpOpsIn,fy,ey,ez];rw[ax (by simp[Region.wanted])];refine⟨λ_ _=>trivial,?_⟩;have a9:(Oper.semAt (FW none).round a.eval {dst:=some u,op:=.makeFunc (.func f) #[] #[j,o,p],type:=a5,pos:=q1,after:=a6,guard:=none}).run P w=.ok (.value (.func (.func f) #[] #[a.eval j,a.eval o,a.eval p])) w:=by
      rw[show(FW none).round=none from rfl,Oper.semAt_none];simp[execOp,Instr.makeFunc,go_sem]
     rw[a9,Oper.uponIn_value];rw[ax (by simp[Region.wanted])];refine⟨λ_ _=>trivial,?_⟩;have bi:(Oper.semAt (FW none).round (a.put (some u) (.func (.func f) #[] #[a.eval j,a.eval o,a.eval p])).eval {dst:=none,op:=.defer c,type:=aD,pos:=a7,after:=a8,guard:=none}).run P w=.ok (.defer {target:=.fn (.func f) #[a.eval j,a.eval o,a.eval p],args:=#[]}) w:=by
      rw[show(FW none).round=none from rfl,Oper.semAt_none];generalize (a.put (some u) (.func (.func f) #[] #[a.eval j,a.eval o,a.eval p])).eval=D at a1;have bl:resolve D c aD=pure {target:=.fn (.func f) #[a.eval j,a.eval o,a.eval p],args:=#[]}:=by
       unfold resolve;rw[a4];show Deferred.ofValue (D (.tmp u)) (c.args.map D)=_;rw[a1,r];simp[Deferred.ofValue]
      simp only[execOp,bl];rfl
     rw[bi,Oper.uponIn_defer];exact a3 g _ _ w a2 rfl {a0 with gi:=a0.gi.cons ⟨f,_,_,_,y,rfl⟩} (Step.refl g w)
    .cases h
   .cases h
  .cases h
 .cases h
def YK(hm:P.follows .mixedOrders=true){eb ed:List Nat}:∀{c:Code},OKc P GL eb ed c:=by
 intro c;induction c with
 |skip=>
  intro bc s K g a w ro m d _ A R Q o;simp[comp]at d;subst d;exact wpIn_skip (o .normal g s a w A rfl R (Step.refl g w))
 |label l=>
  intro bc s K g a w ro m d _ A R Q o;simp[comp]at d;subst d;exact wpIn_label (o .normal g s a w A rfl R (Step.refl g w))
 |region id ops draw=>
  intro bc s K g a w ro m d u A R Q o;simp only[comp]at d;split at d
  next a2=>
   rw[be]at a2;obtain⟨rfl,_⟩:=a2;obtain⟨l,bo,rfl⟩:=dp d;have cc:l.length=ops.size:=by have:=(xe bo).1;simpa using this.symm
   have a3:cS P GL l l.length (Array.replicate l.length false) s (K .normal):=A;rw[cc]at a3;refine wpIn_region_any hm ?_;exact Bn (Nq bo a3) R.drew λD q a' H r z L S=>o .normal D q a' H r z L ((Step.drew g w).trans S)
  split at d
  next a2=>subst a2;obtain⟨p,E,rfl⟩:=dp d;have a3:=Aj E A;refine wpIn_region_any hm ?_;exact Bn a3 R.drew λD q a' H r z L S=>o .normal D q a' H r z L ((Step.drew g w).trans S)
  next a2=>
   have ch:draw=false:=by simpa using a2
   subst ch;refine wpIn_region ?_;split at d
   next t a5=>
    split at d
    next a6=>cases d;obtain rfl:ro=none:=u.resolve_right (by simp[BC.vO]);exact UN a5 a6 A R λD q a' H r z L S=>o .normal D q a' H r z L S
    .cases d
   .obtain⟨l,bo,rfl⟩:=dp d;exact Bd bo (Js A) R λD q a' H r z L S=>o .normal D q a' H r z L S
 |seq x y a7 a1=>
  intro bc s K g a w ro m d u A R Q o;simp only[comp]at d;split at d
  next a8 bs hx bu=>
   have aD:(ro=none\/a8.vO=true)/\(ro=none\/bs.vO=true):=by
    cases d;split at u<;>(simp only[BC.vO,be]at u;exact⟨u.imp id (·.1),u.imp id (·.2)⟩)
   have ci:vc P GL a8 s λe q=>e.andThen q (λq=>vc P GL bs q K\/∃t,EG q t/\(∀x,x∉a8.iJ->t.Z x=q.Z x)/\(a8.quiet=true->Kept s t)/\vc P GL bs t K) K:=by
    cases d;split at A
    .exact A R.UL
    .exact fV A λe t a5=>im a5 .inl id
   refine wpIn_seq (a7 hx aD.1 ci R ?_);intro e D q a' H r z L S;cases e with
   |normal=>
    rcases r with r|⟨t,a4,_,_,r⟩
    .exact a1 (by rw[z];exact bu) aD.2 r L λe ai aA aB aC a9 N ac a0=>o e ai aA aB aC a9 (N.trans z) ac (S.trans a0)
    .obtain⟨fs,el,et⟩:=L.weak a4;exact a1 (by rw[a4.n,z];exact bu) aD.2 r el λe ai aA aB aC a9 N ac a0=>o e ai aA aB aC a9 (N.trans (a4.n.trans z)) ac ((S.trans et).trans a0)
   |exit id=>exact o (.exit id) D q a' H r z L S
   |ret=>exact o .ret D q a' H r z L S
  .cases d
 |cond c x y a7 a1=>
  intro bc s K g a w ro m d u A R Q o;simp only[comp]at d;split at d
  next cb a8 bs cp hx bu=>cases d;simp only[BC.vO,be]at u;obtain⟨b,hb,a3,eK⟩:=A;have:=cv R cp;rw[hb]at this;refine wpIn_cond_split this.bool (λa5=>a7 hx (u.imp id (·.1)) (a3 a5) R o) (λe1=>a1 bu (u.imp id (·.2)) (eK e1) R o)
  .cases d
 |block id b ih=>
  intro bc s K g a w ro m d u A R Q o;simp only[comp]at d;obtain⟨bb,hb,rfl⟩:=dp d;refine wpIn_block (ih hb u A R ?_);intro e D q a' H r z L S;cases e with
  |normal=>exact o .normal D q a' H (by simpa using r) z L S
  |ret=>exact o .ret D q a' H (by simpa using r) z L S
  |exit bi=>
   by_cases h:bi=id
   .subst h;simp only[bP]at r;simp only[Ex.real,Exit.inBlock,bP];exact o .normal D q a' H r z L S
   .have:Ex.exit bi≠Ex.exit id:=λe=>h (by injection e);rw[al this]at r;simp only[Ex.real,Exit.inBlock,al h];exact o (.exit bi) D q a' H r z L S
 |loop b ih=>
  intro bc s K g a w ro m d u A R Q o;simp only[comp]at d;obtain⟨bb,hb,rfl⟩:=dp d;obtain⟨I,⟨k,t,a4,e2⟩,_,_,ad⟩:=A R.UL;obtain⟨g0,b5,bv⟩:=R.weak a4;refine wpIn_loop_ghost (λk a' H=>∃D q,I k q/\q.n=s.n/\Rel GL D q a' H/\Step g w D H) k
   ⟨_,t,e2,a4.n,b5,bv⟩ ?_
  rintro k a' H ⟨D,q,c1,N,L,a0⟩;refine ih (bc:=bb) (by rw[N];exact hb) u (ad k q c1) L ?_;intro e ai aA aB aC r z ac bl;cases e with
  |normal=>
   obtain⟨e3,e4,a6,b2,b6⟩:=r ac.UL;obtain⟨fB,e5,e6⟩:=ac.weak b2;exact⟨e3,a6,_,e4,b6,by rw[b2.n,z,N],e5,(a0.trans bl).trans e6⟩
  |exit id=>exact o (.exit id) ai aA aB aC r (z.trans N) ac (a0.trans bl)
  |ret=>exact o .ret ai aA aB aC r (z.trans N) ac (a0.trans bl)
 |scope b ih=>
  intro bc s K g a w ro m d u A R Q o;simp only[comp]at d;refine H5 (ih d u A R ?_);intro e D q a' H r z L S;cases e<;>exact o _ D q a' H r z L S
 |exit id=>
  intro bc s K g a w ro m d _ A R Q o;simp[comp]at d;subst d;exact wpIn_exit (o (.exit id) g s a w A rfl R (Step.refl g w))
 |ret=>
  intro bc s K g a w ro m d _ A R Q o;simp[comp]at d;subst d;exact wpIn_ret (o .ret g s a w A rfl R (Step.refl g w))
 |rangeFunc f gb assign body c2 c5=>
  intro bc s K g a w ro m d u A R Q o;simp only[comp]at d;split at d
  next x ab bb hx e7 hb=>
   split at d
   next c6=>cases d;simp only[BC.vO,bK,gL]at u;subst u;obtain⟨gf,cap,items,b7,ca,c7,hlen,c9,dd,J,⟨fz,df,dr,ds⟩,ad,bY⟩:=A;have b3:=cv R hx;rw[b7]at b3;obtain⟨gk,dE,dU,ea⟩:=b3.fn;have b5:=R.ur (K7 dr);have bv:Step g w (g.cut w fz (s.base df).G) w:=Step.cut;exact UM e7 hb c9 dd c6 b5 (λe D q a' H r z L S=>o e D q a' H r z L (bv.trans S)) dE dU (λj c x fa fr=>(ea j c x fa fr).mono bv.le) ca c7 hlen ds ad bY c2 c5
   .cases d
  .cases d
 |_=>intro bc s K g a w ro m d;simp[comp]at d
inductive BR where
 |tmp (t:Nat)
 |cell (t:Nat) (ag:Bool) (n:Nat)
def BR.get(s:St):BR->Option V
 |.tmp t=>if(s.Z t).dY then none else some (s.Z t)
 |.cell t ag n=>match dv s (.load ag n (.tmp t))with
  |some v=>if v.dY then none else some v
  |none=>none
def BR.pX(s:St):List BR->Option (List V)
 |[]=>some []
 |r::l=>match r.get s,BR.pX s l with
  |some v,some d=>some (v::d)
  |_,_=>none
def BR.DE(P:Program):ResultVar->Option BR
 |.tmp t=>some (.tmp t)
 |.cell t ty=>match fm P ty,ng P ty with
  |some ag,some n=>some (.cell t ag n)
  |_,_=>none
def BR.ofVars(P:Program):List ResultVar->Option (List BR)
 |[]=>some []
 |r::l=>match BR.DE P r,BR.ofVars P l with
  |some b,some d=>some (b::d)
  |_,_=>none
structure BF where
 n:Nat
 body:BC
 res:List BR
def r6(P:Program)(GL:aj)(d j:List Nat)(f:FuncId):Option BF:=
 match P.funcs[f]? with
 |some fn=>match fn.body with
  |some c=>match comp P GL d j fn.ntmps c,BR.ofVars P fn.results.toList with
   |some bc,some l=>some ⟨fn.ntmps,bc,l⟩
   |_,_=>none
  |none=>none
 |none=>none
def St.init(n:Nat)(args:List V)(E:aK):St:=
 {n:=n,Z:=λt=>args.getD t .qn,lk:=λ_=>none,fl:=λ_=>false,loc:=λ_ _=>[],fc:=λ_ _ _=>false,G:=λ_=>0,E:=E}
def BF.result(s:St):List BR->Option (V×Bool)
 |[.tmp t]=>if(s.Z t).dY then none else some (s.Z t,s.fl t)
 |[r]=>(r.get s).map λv=>(v,false)
 |d=>(BR.pX s d).map λf=>(.hJ f,false)
def pH(t:Nat):eT->eT
 |.tail (.var u)=>if u=t then .tail .ret else .tail (.var u)
 |x=>x
def aY.leave(g:aY)(t:Nat):aY:={bJ:=λb o=>pH t (g.bJ b o),lb:=g.lb,hb:=g.hb}
def wt{t:Nat}{o:eT}{x:Value}:pH t o=.g3 x↔o=.g3 x:=by
 exact bb8
def uC{t:Nat}{o:eT}{ob:Obj}:pH t o=.eY ob↔o=.eY ob:=by
 exact bb8
def Bp{t:Nat}{o:eT}:pH t o=.ext↔o=.ext:=by
 exact bb8
def F5{t:Nat}{o:eT}:pH t o=.free↔o=.free:=by
 exact bb8
def xf{g:aY}{t:Nat}:g.Le (g.leave t):=⟨λ_ _ _ e=>wt.2 e,λ_ _ e=>uC.2 e,λ_ _ e=>e⟩
def La{g:aY}{w:World}{t:Nat}(h:qe GL g w):qe GL (g.leave t) w where
 kp n c e:=(h.kp n c e).mono xf
 g3 b o x e:=h.g3 b o x (wt.1 e)
 eY b o e:=h.eY b o (uC.1 e)
 kB:=h.kB
 ir b o e:=h.ir b o (λd=>e (F5.2 d))
def H6{g:aY}{w:World}{t:Nat}:Step g w (g.leave t) w where
 g3 _ _ _ e:=wt.2 e
 eY _ _ e:=uC.2 e
 n5 _ _ _ _ e:=e
 hb _ _ e:=e
 ext _ _ e:=⟨Bp.2 e,rfl,rfl⟩
 rm _ _ e _:=Bp.1 e
 size:=an _
 gY:=.refl _
 whole _ _ _:=rfl
def H7{g:aY}{w:World}{E:aK}{t:Nat}(h:HR g E w):HR (g.leave t) E w where
 box id cells e:=by
  obtain⟨b,h1,d⟩:=h.box id cells e;refine⟨b,h1,⟨λj=>?_,λj c f=>?_,d.kl⟩⟩
  .show pH t (g.bJ b j)=_;rw[d.mf j];rfl
  .obtain⟨l,y,p,q⟩:=d.cell j c f;exact⟨l,y,p,q.mono xf⟩
 tail id cells j c b y r u z A D:=by
  intro sz H K len cap L hx k h1 d;obtain⟨f1,N⟩:=h.tail id cells j c b y r u z A D sz H K len cap L hx k h1 d;exact⟨by show pH t (g.bJ _ _)=_;rw[f1];rfl,N⟩
 map id kvs e:=let⟨b,o,h1,d,Q,R,ab⟩:=h.map id kvs e;⟨b,o,h1,by show pH t (g.bJ b 0)=_;rw[d];rfl,Q,R,ab.mono xf⟩
 Y:=h.Y
section
variable {g:aY}{s:St}{a:Act}{w:World}
def Bq(tmps:Array Value):ResultVar->Sem Value
 |.tmp t=>pure (tmps.getD t undef)
 |.cell a t=>do loadVar t (<-asAddr (tmps.getD a undef))
def YL(R:Rel GL g s a w){r:ResultVar}{b:BR}{v:V}(h:BR.DE P r=some b)(d:b.get s=some v):∃x,(Bq a.tmps r).run P w=.ok x w/\VR g v x:=by
 cases r with
 |tmp t=>
  simp only[BR.DE]at h;cases h;simp only[BR.get]at d;split at d
  .cases d
  next f=>cases d;exact⟨_,rfl,(R.Z t).od (by intro i k m j;rw[j]at f;simp[V.dY]at f)⟩
 |cell t ty=>
  simp only[BR.DE]at h;split at h
  next ag n p q=>
   cases h;simp only[BR.get]at d;split at d
   next u z=>
    split at d
    .cases d
    next f=>
     cases d;obtain⟨y,l,A⟩:=yN R p q (addr:=.tmp t) (x:=a.tmps.getD t undef) (R.Z t) z;have l:(Bq a.tmps (.cell t ty)).run P w=.ok y w:=by
      revert l
      simp only[Bq,Instr.loadAt];cases a.tmps.getD t undef with
      |pointer o=>cases o with
       |some D=>exact id
       |none=>exact λh=>by simp[Instr.sureAddr]at h
      |_=>exact λh=>by simp[Instr.sureAddr]at h
     exact⟨y,l,A.od (by intro i k m j;rw[j]at f;simp[V.dY]at f)⟩
   .cases d
  .cases h
def H8(R:Rel GL g s a w):∀{p:List ResultVar} {f:List BR} {vs:List V},BR.ofVars P p=some f->BR.pX s f=some vs->
 ∃xs:List Value,(p.mapM (Bq a.tmps)).run P w=.ok xs w/\xs.length=vs.length/\∀(j:Nat) v x,vs[j]?=some v->xs[j]?=some x->VR g v x
 |[],f,vs,h,d=>by
  simp[BR.ofVars]at h;subst h;simp[BR.pX]at d;subst d;exact⟨[],rfl,rfl,bT⟩
 |r::p,f,vs,h,d=>by
  simp only[BR.ofVars]at h;split at h
  next b Q q t=>
   cases h;simp only[BR.pX]at d;split at d
   next v ab z A=>
    cases d;obtain⟨x,D,H⟩:=YL R q z;obtain⟨xs,K,L,N⟩:=H8 R t A;refine⟨x::xs,by simp[mA,D,K],by simp[L],λj u y l o=>?_⟩;cases j with
    |zero=>simp at l o;subst l o;exact H
    |succ j=>simp at l o;exact N j u y l o
   .cases d
  .cases h
def Br(fn:Func)(tmps:Array Value):results fn tmps=(fn.results.toList.mapM (Bq tmps))>>=λxs=>pure (if h:xs.toArray.size=1 then xs.toArray[0]else .tuple xs.toArray):=by
 have:results fn tmps=(fn.results.mapM (Bq tmps))>>=λd=>pure (if h:d.size=1 then d[0]else .tuple d):=rfl;rw[this,lT];simp
def UO{vs:List V}{xs:List Value}(d:xs.length=vs.length)(f:∀(j:Nat) v x,vs[j]?=some v->xs[j]?=some x->VR g v x):VR g (.hJ vs) (.tuple xs.toArray):=
 .hJ vs _ (by simp[d]) (λj c y l o=>f j c y l (by simpa using o))
def Lb(R:Rel GL g s a w){fn:Func}{f:List BR}{v:V}{bJ:Bool}(h:BR.ofVars P fn.results.toList=some f)(o:BF.result s f=some (v,bJ)):
 ∃x g',(results fn a.tmps).run P w=.ok x w/\vf GL g w g' w s.E v bJ x:=by
 have one:∀(r:BR)(u:V),f=[r]->r.get s=some u->∃x,(results fn a.tmps).run P w=.ok x w/\VR g u x/\∀t,r=.tmp t->x=a.tmps.getD t undef:=by
  intro r u ab N;subst ab;obtain⟨z,d,j,A⟩:=H8 R h (vs:=[u]) (by simp[BR.pX,N]);obtain⟨x,rfl⟩:∃x,z=[x]:=by
   rcases z with _|⟨x,_|⟨y,r⟩⟩<;>simp at j
   exact⟨x,rfl⟩
  refine⟨x,by rw[Br];simp[d],A 0 u x rfl rfl,?_⟩;rintro t rfl;cases L:fn.results.toList with
  |nil=>rw[L]at h;simp[BR.ofVars]at h
  |cons ad ac=>
   rw[L]at h d;simp only[BR.ofVars]at h;split at h
   next b a3 p D=>
    simp only[co,List.cons.injEq]at h;obtain⟨rfl,rfl⟩:=h;cases ac with
    |cons a4 a1=>simp only[BR.ofVars]at D;split at D<;>simp at D
    |nil=>
     cases ad with
     |tmp ai=>
      simp[BR.DE]at p;subst p;simp[mA,Bq]at d;rw[cL];exact d.symm
     |cell ai ty=>simp only[BR.DE]at p;split at p<;>simp at p
   .cases h
 have many:∀vs,BR.pX s f=some vs->f.length≠1->∃x,(results fn a.tmps).run P w=.ok x w/\VR g (.hJ vs) x:=by
  intro vs H K;obtain⟨z,d,j,A⟩:=H8 R h H;have hlen:∀{f:List BR} {vs:List V},BR.pX s f=some vs->f.length=vs.length:=by
   intro f;induction f with
   |nil=>intro vs h;simp[BR.pX]at h;subst h;rfl
   |cons r l ih=>
    intro vs h;simp only[BR.pX]at h;split at h
    next a5 a2 p D=>cases h;simp[ih D]
    .cases h
  have hx:z.length≠1:=by rw[j,<-hlen H];exact K
  refine⟨.tuple z.toArray,?_,UO j A⟩;rw[Br];simp[d,hx]
 have plain:∀x u,(results fn a.tmps).run P w=.ok x w->VR g u x->∃x g',(results fn a.tmps).run P w=.ok x w/\vf GL g w g' w s.E u false x:=λx u d j=>
  ⟨x,g,d,R.gF,R.heap,j,Step.refl g w,bT⟩
 unfold BF.result at o;split at o
 next t=>
  split at o
  .cases o
  next L=>simp only[co,ek]at o;obtain⟨rfl,rfl⟩:=o;obtain⟨x,d,j,A⟩:=one (.tmp t) (s.Z t) rfl (by simp[BR.get,L]);obtain rfl:=A t rfl;refine⟨_,g.leave t,d,La R.gF,H7 R.heap,j.mono xf,H6,λaA=>?_⟩;intro sz z aB len cap p D k Q aC;obtain⟨aD,a0⟩:=R.jx t aA sz z aB len cap p D k Q aC;exact⟨by show pH t (g.bJ _ _)=_;rw[aD];simp[pH],a0⟩
 next r _=>obtain⟨u,N,e⟩:=dp o;simp only[ek]at e;obtain⟨rfl,rfl⟩:=e;obtain⟨x,d,j,_⟩:=one r _ rfl N;exact plain x _ d j
 next d j=>
  obtain⟨vs,H,e⟩:=dp o;simp only[ek]at e;obtain⟨rfl,rfl⟩:=e;have K:f.length≠1:=by
   rcases f with _|⟨r,_|⟨q,l⟩⟩
   .simp
   .exact absurd rfl (j r)
   .simp
  obtain⟨x,A,Q⟩:=many vs H K;exact plain x _ A Q
end
def Tx(P:Program):Prop:=∀k,dfK k=true->fK P k=true/\∀(d f j:Value)(m:Nat)(w:World),CallsDIn (FW none) m P k #[d,f,j] .returning w λe u l=>(∃x,e=.returned x)/\u=.returning/\l=w
structure Wx(P:Program):Prop where
 fol:P.follows .mixedOrders=true
 idle:Tx P
def yi(p:Tx P){fn:Func}{L:List BR}{s:St}{v:V}{bJ:Bool}{m:Nat}{R:Ending->World->Prop}{g0:aY}{N:World}(h:BR.ofVars P fn.results.toList=some L)(q:BF.result s L=some (v,bJ)):
 ∀{ds:List Deferred} {ts:Array Value} {g:aY} {w:World},Rel GL g s {tmps:=ts,defers:=ds} w->Step g0 N g w->(∀g' w' x,vf GL g0 N g' w' s.E v bJ x->R (.returned x) w')->LeavesInM (FW none) m P fn ts R ds .returning w
 |[],ts,g,w,f,S,j=>by
  obtain⟨x,g',hx,out⟩:=Lb f h q;exact⟨x,hx,j g' w x ⟨out.gF,out.heap,out.res,S.trans out.step,out.tail⟩⟩
 |d::ds,ts,g,w,f,S,j=>by
  have E:=eu.1 f.gi.2;rcases f.gi.1 d bT with⟨D,rfl,r,t⟩|⟨k,y,z,A,ab,rfl⟩
  .refine⟨bT,.inl ⟨D,l3 w D (.deferred none),rfl,run_takeDeferred t,?_⟩⟩;refine yi p h q (f.Tv (a':={tmps:=ts,defers:=ds}) t rfl rfl (.inr r) ⟨λd l=>?_,E.2⟩ rfl) (S.aa9 (by rw[r];simp) (by rw[r];simp) t rfl rfl) j;rcases f.gi.1 d (by simp[l])with⟨ac,f1,ad,ai⟩|aA
   .refine .inl ⟨ac,f1,ad,?_⟩;rw[kx];·exact ai
    rintro rfl;rcases E.1 d l with H|⟨_,_,_,_,_,H⟩
    .exact H f1.symm
    .simp at H
   .exact .inr aA
  .obtain⟨K,o⟩:=p k ab;refine⟨bT,.inr ⟨(λh=>by cases h),.func k,#[y,z,A],k,#[y,z,A],rfl,by simp[invoke,go_sem,p0 K],λ_ _=>trivial,?_⟩⟩;refine(o y z A _ w).mono ?_;rintro e u w' ⟨⟨x,rfl⟩,rfl,rfl⟩;have Q:rW g w' ds:=⟨λd l=>f.gi.1 d (dw _ l),E.2⟩;have aB:Rel GL g s {tmps:=ts,defers:=ds} w':={size:=f.size,gi:=Q,Z:=f.Z,gF:=f.gF,heap:=f.heap,loc:=f.loc,jc:=f.jc,jx:=f.jx,gH:=f.gH,j0:=f.j0,gI:=f.gI,ie:=f.ie};exact yi p h q aB S j
def xg(hm:Wx P){L N:List Nat}{f:FuncId}{p:BF}{args:List V}{E:aK}{Q:V->Bool->aK->Prop}
 (l:r6 P GL L N f=some p) (ab:args.length<=p.n)
 (h:vc P GL p.body (St.init p.n args E) λe s'=>(∀id,e≠.exit id)/\∃v bJ fz o v' j,BF.result s' p.res=some (v,bJ)/\jE fz s'.E o/\V.lF fz v v'/\(j=true->(bJ=true/\(PF fz v\/v'=v))\/v=.aP)/\Q v' j o):lB P GL f args E Q:=by
 intro g w q d ac ad;unfold r6 at l;split at l
 next fn ai=>
  split at l
  next c hb=>
   split at l
   next bc a5 h1 aA=>
    cases l;refine callsIn_wide.1 (callsIn_of_wp_marks (F:=FW none) (n:=0) ai hb trivial ?_);have R:Rel GL {g with lb:=λ_ _=>none} (St.init fn.ntmps args E) {tmps:=q++Array.replicate (fn.ntmps-q.size) undef,defers:=[]} w:=
     {
      size:=by
       have:=d.len;simp only[St.init,kR,Array.size_replicate];simp only at ab;omega
      gi:=.nil
      Z:=λt=>by
       simp only[St.init,cL,ap,kX];split
       next u=>
        have r:t<args.length:=by rw[<-d.len];exact u
        have:=(d.arg t args[t] q[t] bT (by simp[u])).mono (g:=g) (g':={g with lb:=λ_ _=>none}) ⟨λ_ _ _ e=>e,λ_ _ e=>e,λ_ _ e=>e⟩;simpa[u,r]using this.e0
       next u=>
        have r:args.length<=t:=by rw[<-d.len];omega
        have:(Array.replicate (fn.ntmps-q.size) undef)[t-q.size]?.getD undef=undef:=by
         rw[iL];split<;>rfl
        rw[this];simp[r];exact VR.qn
      gF:=d.gF.lb rfl rfl
      heap:=d.heap.lb rfl rfl
      loc:=λst a6 aB=>by simp[St.init]at aB
      jc:=λ_ _ _=>rfl
      jx:=λt e=>by simp[St.init]at e
      gH:=λ_ _ _ _ _ _ e=>by simp[St.init]at e
      j0:=λ_ _ e=>by simp[St.init]at e
      gI:=λ_ _ _ _ e=>by simp[St.init]at e
      ie:=λ_ _ _ e=>by simp[St.init]at e}
    refine YK (s:=St.init fn.ntmps args E) hm.fol (ro:=none) h1 (.inl rfl) h R ?_;rintro e g' s' a' aC ⟨A,v,bJ,fz,o,v',j,y,D,hle,H,aD⟩ a7 a0 S;have a1:Step g w {g with lb:=λ_ _=>none} w:=⟨λ_ _ _ h=>h,λ_ _ h=>h,λ_ _ h=>h,λ_ _ h=>⟨h,rfl,rfl⟩,λ_ _ _ _ h=>h,λ_ _ h _=>h,an _,.refl _,λ_ _ _=>rfl⟩;have key:LeavesInM (FW none) 0 P fn a'.tmps ac a'.defers .returning aC:=by
     refine yi hm.idle aA y (ds:=a'.defers) (ts:=a'.tmps) a0 (a1.trans S) λa2 K x out=>?_;refine ad v' x j o (a2.cut K fz λ_=>0) K aD ⟨out.gF.cut,out.heap.cut D,VR.ur rr (w7 out.heap D.CU) hle out.res,out.step.trans Step.cut,λa3=>?_⟩;rcases H a3 with⟨z,a4⟩|z
     .exact((out.tail z).le hle out.res a4).cut
     .subst z;exact(dS.nil (.inr hle) out.res).cut
    cases e with
    |normal=>exact key
    |ret=>exact key
    |exit id=>exact absurd rfl (A id)
   .cases l
  .cases l
 .cases l
def y0(hm:Wx P){j l:List Nat}{f:FuncId}{d:BF}{args:List V}{E:aK}{Q:V->Bool->aK->Prop}
 (o:r6 P GL j l f=some d) (p:args.length<=d.n)
 (h:vc P GL d.body (St.init d.n args E) λe s'=>(∀id,e≠.exit id)/\∃v bJ,BF.result s' d.res=some (v,bJ)/\Q v bJ s'.E):lB P GL f args E Q:=by
 refine xg hm o p (fV h ?_);rintro e s' ⟨q,v,bJ,r,t⟩;exact⟨q,v,bJ,jH,s'.E,v,bJ,r,.refl _,.refl _,λh=>.inl ⟨h,.inr rfl⟩,t⟩
end
section
variable {GL:Nat->Option (List V)}{P:Program}
def Lc{s s':St}{n:Nat}{v:V}{x:eL}(h:s.store n v x=some s'):s'.Z=s.Z:=by
 exact WL
def Qh(s:St)(d:Nat)(x:eL)(t:Nat):(s.x7 d x).Z t=if t=d then s.val x else s.Z t:=by cases x<;>rfl
def Nr(s:St)(d:Nat)(x:eL):(s.x7 d x).n=s.n/\(s.x7 d x).G=s.G/\(s.x7 d x).loc=s.loc/\(s.x7 d x).E=s.E:=by cases x<;>exact⟨rfl,rfl,rfl,rfl⟩
def Ld{s s':St}{d:Option Nat}{a:BX}(h:iF s d a=some s')(x:Nat)(hx:d≠some x):s'.Z x=s.Z x:=by
 have ne:∀e,d=some e->x≠e:=λe f j=>hx (by rw[f,j]);cases a<;>simp only[iF]at h
 .split at h
  .cases h;simp[ne _ rfl]
  .cases h;rfl
  .cases h
 .split at h
  .cases h;simp[ne _ rfl]
  .cases h
 .split at h
  .cases h;simp[ne _ rfl]
  .cases h
 .split at h
  .cases h;rw[Qh,al (ne _ rfl)]
  .cases h
 .split at h
  .cases h;simp[St.fD,ne _ rfl]
  .cases h
 .split at h
  .split at h
   .cases h;simp[St.fD,ne _ rfl]
   .cases h
  .cases h
 .split at h
  .rw[Lc h]
  .cases h
 .split at h
  .obtain⟨_,_,rfl⟩:=dp h;simp[ne _ rfl]
  .cases h
 .exact Xq
 .split at h
  .unfold St.app at h;split at h
   .split at h
    .cases h;simp[ne _ rfl]
    .cases h
   .split at h
    .split at h
     .split at h
      .cases h;simp[ne _ rfl,yY]
      .cases h
     .cases h
    .cases h
   .cases h
  .cases h
 .exact Xq
def Kept.put(s:St)(d:Nat)(v:V)(l:Option Loc)(o:Bool):Kept s (s.put d v l o):=⟨rfl,λ_=>an _,λ_ _ _=>rfl,rfl,rfl,rfl⟩
def Kept.fD(s:St)(d:Nat)(cs:List V):Kept s (s.fD d cs):=
 ⟨rfl,λi=>by simp only[St.fD,eQ];split<;>(try subst_vars)<;>omega,λi a j=>by
  have:¬(i=d/\a=s.G d):=λf=>by obtain⟨rfl,rfl⟩:=f;omega
  simp only[St.fD,l2,al this],rfl,rfl,rfl⟩
def Kept.dP(s:St)(l:Loc):Kept s (s.dP l):=by
 cases l<;>exact⟨rfl,λ_=>an _,λ_ _ _=>rfl,rfl,rfl,rfl⟩
def H9{s s':St}{d:Option Nat}{a:BX}(h:iF s d a=some s')(j:a.sJ=false):Kept s s':=by
 cases a<;>simp only[iF]at h
 .split at h
  .cases h;exact .put ..
  .cases h;exact .refl _
  .cases h
 .split at h
  .cases h;exact .put ..
  .cases h
 .split at h
  .cases h;exact .put ..
  .cases h
 .split at h
  .cases h;obtain⟨l,o,p,f⟩:=Nr s _ _;exact⟨l,λi=>by rw[o];exact an _,λi q _=>by rw[p],by rw[f],by rw[f],by rw[f]⟩
  .cases h
 .exact XB
 .split at h
  .exact XB
  .cases h
 .simp[BX.sJ]at j
 .split at h
  .obtain⟨_,_,rfl⟩:=dp h;exact .put ..
  .cases h
 .exact Xt
 .split at h
  .unfold St.app at h;split at h
   .split at h
    .cases h;exact .put ..
    .cases h
   .split at h
    .split at h
     .split at h
      .cases h;exact(Kept.dP ..).trans (.put ..)
      .cases h
     .cases h
    .cases h
   .cases h
  .cases h
 .exact Xt
def xh(s:St)(d:Option Nat)(v:V)(o:Bool)(x:Nat)(hx:d≠some x):(s.ret d v o).Z x=s.Z x:=by
 cases d with
 |none=>rfl
 |some e=>
  have:x≠e:=λa=>hx (by rw[a]);simp[St.ret,this]
def Bs(s:St)(d:Option Nat)(v:V)(o:Bool):Kept s (s.ret d v o):=by
 cases d with
 |none=>exact .refl s
 |some e=>exact .put ..
def Ia{h:HX}{s:St}{l:List (V×Bool×aK)}(d:h.quiet=true)(a:h.act s=some l):∀p∈l,p.2.2=s.E:=by
 intro p E;cases h with
 |A2=>simp[HX.quiet]at d
 |eh=>simp[HX.quiet]at d
 |mkMap=>simp[HX.quiet]at d
 |sD=>simp[HX.quiet]at d
 |mapEntry=>simp[HX.quiet]at d
 |entryStore=>simp[HX.quiet]at d
 |lookup f ag z ok m k=>
  simp only[HX.act]at a;split at a
  .split at a
   .obtain⟨_,_,rfl⟩:=dp a;simp at E;rw[E]
   .cases a;simp at E;rw[E]
   .cases a
  .cases a
 |wZ n x=>
  simp only[HX.act]at a;split at a
  .cases a;simp at E;rw[E]
  .cases a;simp at E;rw[E]
  .cases a;simp at E;rw[E]
  .cases a;simp at E;rcases E with rfl|rfl<;>rfl
  .cases a
def Ns{m:MX}{s:St}{Q:V->Bool->aK->Prop}(a:m.quiet=true)(h:m.wp s Q):m.wp s λv o E=>Q v o E/\E=s.E:=by
 cases m<;>simp only[MX.quiet,bK]at a
 .simp only[MX.wp]at h ⊢
  split at h
  .obtain⟨j,u,d,f,l⟩:=h;exact⟨j,u,d,f,l,trivial⟩
  .exact h
def DF{pu:Bool}{i:BI}{s:St}{K:St->Prop}(R:St->Prop)(j:∀v o,R (s.ret i.dst v o))(d:pu=false->∀E v o,R ((s.cu E).ret i.dst v o))
 (hex:∀z s',i.op=.ex z->iF s i.dst z=some s'->R s') (H:∀z l,i.op=.hx z->z.act s=some l->∀p∈l,R ((s.cu p.2.2).ret i.dst p.1 p.2.1))
 (L:∀m,i.op=.mx m->∀{Q:V->Bool->aK->Prop},m.wp s Q->m.wp s λv o E=>Q v o E/\R ((s.cu E).ret i.dst v o)) (h:dq P GL pu i s K):dq P GL pu i s λt=>K t/\R t:=by
 have r:∀{f args},r5 P GL pu f args s i.dst K->r5 P GL pu f args s i.dst λt=>K t/\R t:=by
  intro f args h;rcases h with⟨a,v,o,u,y,A⟩|⟨q,a,u,y⟩|⟨q,fz,E,a,u,y,⟨v,o,A,ac⟩|A⟩
  .exact .inl ⟨a,v,o,u,y,A,j v o⟩
  .exact .inr (.inl ⟨q,a,u,y.mono λv o E h=>⟨h,d q E v o⟩⟩)
  .exact .inr (.inr ⟨q,fz,E,a,u,y,.inl ⟨v,o,A,ac,d q E v o⟩⟩)
  .exact .inr (.inr ⟨q,fz,E,a,u,y,.inr (A.mono λv o E h=>⟨h,d q E v o⟩)⟩)
 have hop:b4 P GL pu s i.dst i.op K->b4 P GL pu s i.dst i.op λt=>K t/\R t:=by
  obtain⟨gd,dst,op⟩:=i;cases op with
  |ex b=>
   intro h;simp only[b4]at h ⊢
   cases D:iF s dst b with
   |none=>rw[D]at h;exact h
   |some s'=>rw[D]at h;exact⟨h,hex b s' rfl D⟩
  |call f args=>exact λh=>⟨h.1,r h.2⟩
  |bad=>exact λh=>h
  |hx N=>
   intro h;simp only[b4,HX.outs]at h ⊢
   cases e:N.act s with
   |none=>rw[e]at h;exact h
   |some l=>
    rw[e]at h;simp only[bF]at h ⊢
    refine Ah λt ab=>⟨uy h t ab,?_⟩;obtain⟨p,E,rfl⟩:=cB.1 ab;exact H N l rfl e p E
  |mx m=>exact λh=>L m rfl h
  |qB x args=>
   simp only[b4];cases s.val x<;>intro h<;>first|exact⟨h.1,h.2.1,r h.2.2⟩|exact h
 unfold dq at*
 split at h
 .exact hop h
 .split at h
  .split at h
   next hb=>rw[ax hb];exact hop h
   next hb=>rw[al hb];exact⟨h,j _ _⟩
  .exact⟨h,j _ _⟩
  .exact h
def Bt{pu:Bool}{i:BI}{s:St}{K:St->Prop}(h:dq P GL pu i s K):dq P GL pu i s λt=>K t/\∀x,x∉i.iJ->t.Z x=s.Z x:=by
 have nd:∀x,x∉i.iJ->i.dst≠some x:=λx hx a=>hx (by simp[BI.iJ,a]);refine DF (λt=>∀x,x∉i.iJ->t.Z x=s.Z x) ?_ ?_ ?_ (λd l _ _ p _ x hx=>xh _ _ _ _ _ (nd x hx))
  (λm _ _ hm=>MX.mono (λv o E f=>⟨f,λx hx=>xh _ _ _ _ _ (nd x hx)⟩) hm) h
 .intro v o x hx;exact xh _ _ _ _ _ (nd x hx)
 .intro _ E v o x hx;exact xh _ _ _ _ _ (nd x hx)
 .intro d q _ j x hx;exact Ld j x (nd x hx)
def yj{i:BI}{s:St}{K:St->Prop}(a:i.quiet=true)(h:dq P GL true i s K):dq P GL true i s λt=>K t/\Kept s t:=by
 refine DF (λt=>Kept s t) ?_ ?_ ?_ (λf l d j p E=>?_) (λm d Q hm=>?_) h
 .intro v o;exact Bs ..
 .intro h;cases h
 .intro f r d q;refine H9 q ?_;simpa[BI.quiet,d]using a
 .have:=Ia (h:=f) (by simpa[BI.quiet,d]using a) j p E;refine Kept.trans ?_ (Bs ..);exact⟨rfl,λ_=>an _,λ_ _ _=>rfl,by rw[<-this];rfl,by rw[<-this];rfl,by rw[<-this];rfl⟩
 .refine MX.mono (λv o E a=>⟨a.1,?_⟩) (Ns (by simpa[BI.quiet,d]using a) hm);refine Kept.trans ?_ (Bs ..);obtain⟨_,rfl⟩:=a;exact⟨rfl,λ_=>an _,λ_ _ _=>rfl,rfl,rfl,rfl⟩
def Jt{pu:Bool}:∀{l:List BI} {s:St} {K:St->Prop},er P GL pu l s K->er P GL pu l s λt=>K t/\∀x,x∉Jr l->t.Z x=s.Z x
 |[],_,_,h=>⟨h,λ_ _=>rfl⟩
 |i::r,s,K,h=>by
  refine gW (Bt h) λt a=>uB (Jt a.1) λu d=>⟨d.1,λx hx=>?_⟩;simp only[Jr,aN,lS]at hx;rw[d.2 x hx.2,a.2 x hx.1]
def sL{pu:Bool}:∀{p:k6} {s:St} {K:St->Prop},bU P GL pu p s K->bU P GL pu p s λt=>K t/\∀x,x∉p.iJ->t.Z x=s.Z x
 |.done,_,_,h=>⟨h,λ_ _=>rfl⟩
 |.stop,_,_,_=>trivial
 |.one _ b p,s,K,h=>by
  refine gW (Bt h) λt d=>kD (sL d.1) λu a=>⟨a.1,λx hx=>?_⟩;simp only[k6.iJ,aN,lS]at hx;rw[a.2 x hx.2,d.2 x hx.1]
 |.alt b p q,s,K,h=>by
  refine⟨gW (Bt h.1) λt d=>kD (sL d.1) λu a=>⟨a.1,λx hx=>?_⟩,kD (sL h.2) λu a=>⟨a.1,λx hx=>?_⟩⟩
  .simp only[k6.iJ,aN,lS]at hx;rw[a.2 x hx.2.1,d.2 x hx.1]
  .simp only[k6.iJ,aN,lS]at hx;exact a.2 x hx.2.2
def F6:∀{l:List BI} {s:St} {K:St->Prop},EK l=true->er P GL true l s K->er P GL true l s λt=>K t/\Kept s t
 |[],s,_,_,h=>⟨h,.refl s⟩
 |i::r,s,K,a,h=>by
  simp only[EK,be]at a;exact gW (yj a.1 h) λt d=>uB (F6 a.2 d.1) λu f=>⟨f.1,d.2.trans f.2⟩
def q3:∀{p:k6} {s:St} {K:St->Prop},p.quiet=true->bU P GL true p s K->bU P GL true p s λt=>K t/\Kept s t
 |.done,s,_,_,h=>⟨h,.refl s⟩
 |.stop,_,_,_,_=>trivial
 |.one d b p,s,K,a,h=>by
  simp only[k6.quiet,be]at a;have l:(if d=true then true else true)=true:=by cases d<;>rfl
  simp only[bU,l]at h ⊢
  exact gW (yj a.1 h) λt f=>kD (q3 a.2 f.1) λu j=>⟨j.1,f.2.trans j.2⟩
 |.alt b p q,s,K,a,h=>by
  simp only[k6.quiet,be]at a;exact⟨gW (yj a.1 h.1) λt f=>kD (q3 a.2.1 f.1) λu j=>⟨j.1,f.2.trans j.2⟩,q3 a.2.2 h.2⟩
def q4{e:Ex}{s:St}{N:St->Prop}{K:Ex->St->Prop}{R:Prop}(h:e.andThen s N K)(r:R):e.andThen s (λs=>N s/\R) (λe s=>K e s/\R):=by
 cases e<;>exact⟨h,r⟩
def EL:∀{b:BC} {s:St} {K:Ex->St->Prop},b.vO=true->vc P GL b s K->vc P GL b s λe t=>K e t/\∀x,x∉b.iJ->t.Z x=s.Z x:=by
 intro b;induction b with
 |skip=>intro s K _ h;exact⟨h,λ_ _=>rfl⟩
 |ops D l=>intro s K _ h;exact Jt h
 |ws D p=>intro s K _ h;exact sL h
 |seq a b q o=>
  intro s K d h;simp only[BC.vO,be]at d;have h:vc P GL a s (λe j=>e.andThen j (λj=>vc P GL b j K) K):=h;show vc P GL a s (λe j=>e.andThen j (λj=>vc P GL b j λe t=>K e t/\∀x,x∉ (BC.seq a b).iJ->t.Z x=s.Z x) λe t=>K e t/\∀x,x∉ (BC.seq a b).iJ->t.Z x=s.Z x);refine fV (q d.1 h) λe t ht=>im (q4 ht.1 ht.2) (λ⟨f,h2⟩=>fV (o d.2 f) λe u hu=>⟨hu.1,λx hx=>?_⟩) (λ⟨f,h2⟩=>⟨f,λx hx=>?_⟩)
  .exact Xr
  .simp only[BC.iJ,aN,lS]at hx;exact h2 x hx.1
 |jn a b q o=>
  intro s K d h y;simp only[BC.vO,be]at d;refine fV (q d.1 (h y)) λe t ht=>im (q4 ht.1 ht.2) (λ⟨f,h2⟩=>?_) (λ⟨f,h2⟩=>⟨f,λx hx=>?_⟩)
  .rcases f with f|⟨H,L,z,N,f⟩
   .refine .inl (fV (o d.2 f) λe u hu=>⟨hu.1,λx hx=>?_⟩);exact Xr
   .refine .inr ⟨H,L,z,N,fV (o d.2 f) λe u hu=>⟨hu.1,λx hx=>?_⟩⟩;simp only[BC.iJ,aN,lS]at hx;rw[hu.2 x hx.2,z x hx.1,h2 x hx.1]
  .simp only[BC.iJ,aN,lS]at hx;exact h2 x hx.1
 |cond c a b q o=>
  intro s K d h;simp only[BC.vO,be]at d;obtain⟨t,f,h2,r⟩:=h;refine⟨t,f,λe=>fV (q d.1 (h2 e)) λe u hu=>⟨hu.1,λx hx=>?_⟩,λe=>fV (o d.2 (r e)) λe u hu=>⟨hu.1,λx hx=>?_⟩⟩
  .simp only[BC.iJ,aN,lS]at hx;exact hu.2 x hx.1
  .simp only[BC.iJ,aN,lS]at hx;exact hu.2 x hx.2
 |block id b ih=>
  intro s K d h;show vc P GL b s (λe j=>if e=.exit id then(K .normal j/\_)else(K e j/\_));refine fV (ih d h) λe t ht=>?_;exact W4
 |loop b ih=>
  intro s K d h y;obtain⟨I,f,h2,r,Q⟩:=h y;refine⟨I,f,h2,r,λk t A=>fV (ih d (Q k t A)) λe u hu=>im hu.1 id λR=>⟨R,λx hx=>?_⟩⟩;rw[hu.2 x hx,r k t A x hx]
 |exit id=>intro s K _ h;exact⟨h,λ_ _=>rfl⟩
 |ret=>intro s K _ h;exact⟨h,λ_ _=>rfl⟩
 |Mt x ab a b=>intro s K d;simp[BC.vO]at d
 |rG t=>intro s K d;simp[BC.vO]at d
 |set l=>intro s K d;simp[BC.vO]at d
def Qi:∀{b:BC} {s:St} {K:Ex->St->Prop},b.quiet=true->vc P GL b s K->vc P GL b s λe t=>K e t/\Kept s t:=by
 intro b;induction b with
 |skip=>intro s K _ h;exact⟨h,.refl s⟩
 |ops L l=>
  intro s K d h;simp only[BC.quiet,be]at d;obtain⟨rfl,d⟩:=d;exact F6 d h
 |ws L p=>
  intro s K d h;simp only[BC.quiet,be]at d;obtain⟨rfl,d⟩:=d;exact q3 d h
 |seq a b y r=>
  intro s K d h;simp only[BC.quiet,be]at d;have h:vc P GL a s (λe q=>e.andThen q (λq=>vc P GL b q K) K):=h;show vc P GL a s (λe q=>e.andThen q (λq=>vc P GL b q λe t=>K e t/\Kept s t) λe t=>K e t/\Kept s t);exact fV (y d.1 h) λe t ht=>im (q4 ht.1 ht.2) (λ⟨f,j⟩=>fV (r d.2 f) λe u o=>⟨o.1,j.trans o.2⟩) (λ⟨f,j⟩=>⟨f,j⟩)
 |jn a b y r=>
  intro s K d h z;simp only[BC.quiet,be]at d;exact fV (y d.1 (h z)) λe t ht=>im (q4 ht.1 ht.2) (λ⟨f,j⟩=>f.imp (λf=>fV (r d.2 f) λe u o=>⟨o.1,j.trans o.2⟩) λ⟨N,Q,R,D,f⟩=>⟨N,Q,R,D,fV (r d.2 f) λe u o=>⟨o.1,(D d.1).trans o.2⟩⟩) (λ⟨f,j⟩=>⟨f,j⟩)
 |cond c a b y r=>
  intro s K d h;simp only[BC.quiet,be]at d;obtain⟨t,f,j,A⟩:=h;exact⟨t,f,λe=>y d.1 (j e),λe=>r d.2 (A e)⟩
 |block id b ih=>
  intro s K d h;show vc P GL b s (λe q=>if e=.exit id then(K .normal q/\_)else(K e q/\_));refine fV (ih d h) λe t ht=>?_;exact W4
 |loop b ih=>
  intro s K d h z;obtain⟨I,f,j,A,ab⟩:=h z;exact⟨I,f,j,A,λk t H=>fV (ih d (ab k t H)) λe u o=>im o.1 id λac=>⟨ac,(j d k t H).trans o.2⟩⟩
 |exit id=>intro s K _ h;exact⟨h,.refl s⟩
 |ret=>intro s K _ h;exact⟨h,.refl s⟩
 |Mt x ad a b=>intro s K d;simp[BC.quiet]at d
 |rG t=>intro s K d;simp[BC.quiet]at d
 |set l=>intro s K d;simp[BC.quiet]at d
def Lf:∀{b:BC},b.quiet=true->b.vO=true:=by
 intro b;induction b with
 |seq a b d f=>intro h;simp only[BC.quiet,BC.vO,be]at*;exact⟨d h.1,f h.2⟩
 |jn a b d f=>intro h;simp only[BC.quiet,BC.vO,be]at*;exact⟨d h.1,f h.2⟩
 |cond c a b d f=>intro h;simp only[BC.quiet,BC.vO,be]at*;exact⟨d h.1,f h.2⟩
 |block id b ih=>intro h;exact ih h
 |loop b ih=>intro h;exact ih h
 |Mt=>intro h;simp[BC.quiet]at h
 |rG=>intro h;simp[BC.quiet]at h
 |set=>intro h;simp[BC.quiet]at h
 |_=>intro _;rfl
def look:List (Nat×V×Bool)->Nat->Option (V×Bool)
 |[],_=>none
 |(t,v,o)::r,x=>if x=t then some (v,o)else look r x
def St.head(s:St)(D bJ:List Nat)(vals:List (Nat×V×Bool)):St:=
 {
  s with
  Z:=λt=>match look vals t with
   |some (v,_)=>v
   |none=>if D.contains t then .unk else s.Z t
  lk:=λ_=>none
  fl:=λt=>match look vals t with
   |some (_,o)=>o
   |none=>bJ.contains t
  fc:=λ_ _ _=>false
  E:={s.E with fl:=λ_ _=>false}}
def fR(s:St):List (Nat×V×Bool)->Prop
 |[]=>True
 |(t,v,o)::r=>(V.Le (s.Z t) v/\(o=true->s.fl t=true\/s.Z t=.aP))/\fR s r
def fM(s:St):List Nat->Prop
 |[]=>True
 |t::r=>(s.fl t=true\/s.Z t=.aP)/\fM s r
def mK(D:List Nat):List (Nat×V×Bool)->Bool
 |[]=>true
 |(t,v,_)::r=>D.contains t&& !v.dY&&mK D r
def fR.look{s:St}:∀{vals:List (Nat×V×Bool)},fR s vals->∀{t v o},look vals t=some (v,o)->V.Le (s.Z t) v/\(o=true->s.fl t=true\/s.Z t=.aP)
 |[],_,_,_,_,h=>by cases h
 |(x,u,q)::r,a,t,v,o,h=>by
  simp only[Bx.look]at h;split at h
  next d=>subst d;simp only[co,ek]at h;obtain⟨rfl,rfl⟩:=h;exact a.1
  .exact fR.look a.2 h
def mK.look{D:List Nat}:∀{vals:List (Nat×V×Bool)},mK D vals=true->∀{t v o},look vals t=some (v,o)->t∈D/\v.dY=false
 |[],_,_,_,_,h=>by cases h
 |(x,u,q)::r,a,t,v,o,h=>by
  simp only[mK,be]at a;simp only[Bx.look]at h;split at h
  next d=>subst d;simp only[co,ek]at h;obtain⟨rfl,rfl⟩:=h;exact⟨by simpa using a.1.1,by simpa using a.1.2⟩
  .exact mK.look a.2 h
def fM.mem{s:St}:∀{l:List Nat},fM s l->∀{t},t∈l->s.fl t=true\/s.Z t=.aP
 |[],_,_,h=>by cases h
 |_::r,a,t,h=>by
  rcases bn.1 h with rfl|h
  .exact a.1
  .exact fM.mem a.2 h
def r7{s u:St}{D bJ:List Nat}{vals:List (Nat×V×Bool)}(j:mK D vals=true)(l:K9 s)(q:∀x,x∉D->u.Z x=s.Z x)(a:Kept s u)(f:fR u vals)(r:fM u bJ):EG u (s.head D bJ vals):=⟨jH,{
 n:=a.n.symm
 Z:=λx=>by
  simp only[St.head];cases e:look vals x with
  |some p=>obtain⟨v,o⟩:=p;exact .inr (f.look e).1
  |none=>
   simp only;split
   .exact .inl rfl
   next hx=>rw[q x (by simpa using hx)];exact .inr (.refl _)
 lk:=λ_=>rfl
 fl:=λx h=>by
  simp only[St.head]at h ⊢
  cases e:look vals x with
  |some p=>
   obtain⟨v,o⟩:=p;simp only[e]at h;rcases(f.look e).2 h with h|h
   .exact .inl ⟨h,.inl (.inl λ_=>rfl)⟩
   .exact .inr (.inl h)
  |none=>
   simp only[e]at h;rcases r.mem (by simpa using h)with h|h
   .exact .inl ⟨h,.inl (.inl λ_=>rfl)⟩
   .exact .inr (.inl h)
 G:=a.G
 lp:=λx i d off h=>by
  simp only[St.head]at h;cases e:look vals x with
  |some p=>
   obtain⟨v,o⟩:=p;simp only[e]at h;have:=(mK.look j e).2;rw[h]at this;simp[V.dY]at this
  |none=>
   simp only[e]at h;split at h
   .cases h
   .exact l x i d off h
 loc:=λi d t=>by rw[a.loc i d t];exact .refl _
 fc:=λ_ _ _ _ h=>by simp[St.head]at h
 E:=⟨λ_ _ e=>(by cases e),λid cells e=>⟨rfl,cells,by rw[a.box];exact e,.refl _⟩,λ_ _ h=>by simp[St.head]at h,λid y e=>⟨y,by rw[a.mp];exact e,.refl _⟩,by rw[a.Y];exact an _⟩}⟩
def Qj{b:BC}{s:St}{K:Ex->St->Prop}{D bJ:List Nat}(z:b.quiet=true)(ab:b.iJ.all D.contains=true)(A:D.all b.iJ.contains=true){α:Type}(p:α->Prop)(vals:α->List (Nat×V×Bool))(j:α->Nat)(l:α)
 (hk:∀a,mK D (vals a)=true) (h0:p l) (ac:fR s (vals l)) (ad:fM s bJ)
 (d:∀a,p a->vc P GL b (s.head D bJ (vals a)) λe s'=>e.andThen s' (λs'=>∃a',p a'/\j a'<j a/\fR s' (vals a')/\fM s' bJ) K):vc P GL (.loop b) s K:=by
 have sub:∀x,x∉D->x∉b.iJ:=λx hx q=>hx (by have:=bO.1 ab x q;simpa using this);have r:∀x,x∉b.iJ->x∉D:=λx hx q=>hx (by have:=bO.1 A x q;simpa using this);have f:∀a x,x∉D->(s.head D bJ (vals a)).Z x=s.Z x:=by
  exact W1
 have o:∀a,Kept s (s.head D bJ (vals a)):=λa=>⟨rfl,λ_=>an _,λ_ _ _=>rfl,rfl,rfl,rfl⟩;intro H;refine⟨λk t=>∃a,p a/\j a=k/\t=s.head D bJ (vals a),⟨_,_,r7 (hk l) H (λ_ _=>rfl) (.refl s) ac ad,l,h0,rfl,rfl⟩,?_,?_,?_⟩
 .rintro _ k t ⟨a,_,_,rfl⟩;exact o a
 .rintro k t ⟨a,_,_,rfl⟩ x hx;exact f a x (r x hx)
 .rintro k t ⟨a,ai,rfl,rfl⟩;refine fV (Qi z (EL (Lf z) (d a ai))) ?_;rintro e u ⟨⟨aA,aB⟩,y⟩;refine im aA ?_ id;rintro⟨a',L,N,Q,R⟩ _;exact⟨j a',_,N,r7 (hk a') H (λx hx=>by rw[aB x (sub x hx),f a x hx]) ((o a).trans y) Q R,a',L,rfl,rfl⟩
def St.Bu(s:St):St:={s with lk:=λ_=>none}
def Nt{b:BC}{s:St}{K:Ex->St->Prop}(H:b.quiet=false)(l:b.vO=true){α:Type}(p:α->St->Prop)(f:α->Nat)(o:α)(h0:p o s.Bu)
 (d:∀a t,p a t->(∀x,x∉b.iJ->t.Z x=s.Z x)->vc P GL b t λe s'=>e.andThen s' (λs'=>∃a',p a' s'.Bu/\f a'<f a) K):vc P GL (.loop b) s K:=by
 have q:∀{t:St},K9 t->EG t t.Bu:=λ{t} j=>⟨jH,{
   n:=rfl
   Z:=λ_=>.inr (.refl _)
   lk:=λ_=>rfl
   fl:=λ_ h=>.inl ⟨h,.inl (.inl λ_=>rfl)⟩
   G:=λ_=>an _
   lp:=λx i L off h=>j x i L off h
   loc:=λ_ _ _=>.refl _
   fc:=λ_ _ _ _ h=>.inl ⟨h,.inr rfl⟩
   E:=.refl _}⟩
 intro j;refine⟨λk t=>∃a,p a t/\f a=k/\∀x,x∉b.iJ->t.Z x=s.Z x,⟨_,_,q j,o,h0,rfl,λ_ _=>rfl⟩,λh=>(by rw[H]at h;cases h),λk t ⟨a,_,_,h⟩=>h,?_⟩;rintro k t ⟨a,N,rfl,r⟩;refine fV (EL l (d a t N r)) ?_;rintro e u ⟨Q,y⟩;refine im Q ?_ id;rintro⟨a',z,A⟩ D;exact⟨f a',_,A,q D,a',z,rfl,λx hx=>(y x hx).trans (r x hx)⟩
end
section
variable {GL:Nat->Option (List V)}{P:Program}
inductive Fr where
 |seq (b:BC)
 |block (id:Nat)
 |back (N:St->Prop)
def run(P:Program)(GL:aj):List Fr->(Ex->St->Prop)->Ex->St->Prop
 |[],K,e,s=>K e s
 |.seq b::st,K,.normal,s=>vc P GL b s (run P GL st K)
 |.seq _::st,K,e,s=>run P GL st K e s
 |.block id::st,K,e,s=>if e=.exit id then run P GL st K .normal s else run P GL st K e s
 |.back N::_,_,.normal,s=>N s
 |.back _::st,K,e,s=>run P GL st K e s
section
variable {s:St}{st:List Fr}{K:Ex->St->Prop}{a b:BC}{id id':Nat}{pu:Bool}
def EM(h:vc P GL b s (run P GL [] K)):vc P GL b s K:=h
def ei(h:vc P GL a s (run P GL (.seq b::st) K)):vc P GL (.jn a b) s (run P GL st K):=λ_=>fV h λe t f=>by
 cases e with
 |normal=>exact .inl f
 |exit id=>exact f
 |ret=>exact f
def Nu(h:vc P GL a s (run P GL (.seq b::st) K)):vc P GL (.seq a b) s (run P GL st K):=
 show vc P GL a s (λe f=>e.andThen f (λf=>vc P GL b f (run P GL st K)) (run P GL st K))from
 fV h λe t j=>by cases e<;>exact j
structure Hd(p:Prop):Prop where
 h:p
def ns{D bJ:List Nat}{α:Type}(p:α->Prop)(vals:α->List (Nat×V×Bool))(j:α->Nat)(l:α)(r:b.quiet=true)(u:b.iJ.all D.contains=true)(q:D.all b.iJ.contains=true)
 (z:∀a,mK D (vals a)=true) (h0:p l) (A:fR s (vals l)) (H:fM s bJ)
 (f:∀a,p a->vc P GL b (s.head D bJ (vals a)) (run P GL (.back (λs'=>∃a',Hd (p a')/\Hd (j a'<j a)/\fR s' (vals a')/\fM s' bJ)::st) K)):vc P GL (.loop b) s (run P GL st K):=
 Qj r u q p vals j l z h0 A H λa L=>fV (f a L) λe t o=>by
  cases e with
  |normal=>obtain⟨a',N,Q,R⟩:=o;exact⟨a',N.h,Q.h,R⟩
  |exit id=>exact o
  |ret=>exact o
def dT(r:b.quiet=false)(o:b.vO=true){α:Type}(p:α->St->Prop)(j:α->Nat)(q:α)(h0:p q s.Bu)
 (f:∀a t,p a t->(∀x,x∉b.iJ->t.Z x=s.Z x)->vc P GL b t (run P GL (.back (λs'=>∃a',Hd (p a' s'.Bu)/\Hd (j a'<j a))::st) K)):vc P GL (.loop b) s (run P GL st K):=
 Nt r o p j q h0 λa t u z=>fV (f a t u z) λe t l=>by
  cases e with
  |normal=>obtain⟨a',A,D⟩:=l;exact⟨a',A.h,D.h⟩
  |exit id=>exact l
  |ret=>exact l
def y4{x:eL}{ps:List Nat}{f:FuncId}{cap:List V}{items:List (List V)}(J:Nat->aK->Prop)(hx:s.val x=.fn f cap)(q:fK P f=true)(r:Iter P f cap items)(u:∀it∈items,it.length=ps.length)(z:a.vO=true)(hb:b.vO=true)(h0:J 0 s.E)
 (l:∀j E it,J j E->items[j]?=some it->vc P GL a (s.begin E ps it) (run P GL [.seq b] λe t=>match e with
  |.normal=>J (j+1) t.E
  |.ret=>run P GL st K .ret (s.base t.E)
  |.exit id=>run P GL st K (.exit id) (s.base t.E)))
 (p:∀s K,vc P GL a s K->vc P GL a s λe t=>e=.normal/\K e t)
 (o:∀E,J items.length E->run P GL st K .normal (s.base E)):vc P GL (.Mt x ps a b) s (run P GL st K):=by
 refine⟨f,cap,items,hx,q,r,u,z,hb,J,⟨jH,s.E,.refl _,h0⟩,λj E it A D=>?_,o⟩;refine fV (p _ _ (l j E it A D)) ?_;rintro e t ⟨rfl,h⟩;refine⟨rfl,fV h λe t h=>?_⟩;cases e with
 |normal=>exact⟨jH,t.E,.refl _,h⟩
 |ret=>exact h
 |exit id=>exact h
end
def kM{pu:Bool}{l:List BI}:∀(s:St)(K:Ex->St->Prop),vc P GL (.ops pu l) s K->vc P GL (.ops pu l) s λe t=>e=.normal/\K e t:=
 λs K h=>uB (K':=λt=>Ex.normal=.normal/\K .normal t) h λt f=>⟨rfl,f⟩
def Bv{a b:BC}(f:∀(s:St)(K:Ex->St->Prop),vc P GL a s K->vc P GL a s λe t=>e=.normal/\K e t)(hb:∀(s:St)(K:Ex->St->Prop),vc P GL b s K->vc P GL b s λe t=>e=.normal/\K e t):
 ∀(s:St)(K:Ex->St->Prop),vc P GL (.seq a b) s K->vc P GL (.seq a b) s λe t=>e=.normal/\K e t:=λs K h=>by
 refine fV (f _ _ h) (K':=λe t=>e.andThen t (λt=>vc P GL b t λe t=>e=.normal/\K e t) λe t=>e=.normal/\K e t) ?_;rintro e t ⟨rfl,h⟩;exact hb _ _ h
section
variable {s:St}{K:St->Prop}{pu:Bool}{d t:Nat}{v:V}{x y:eL}
def YM{i:BI}{p q:k6}(h:dq P GL pu i s λs'=>bU P GL pu p s' K)(f:bU P GL pu q s K):bU P GL pu (.alt i p q) s K:=⟨h,f⟩
def St.zQ(s:St)(d t:Nat)(v:V):St:={s.put d v none false with fl:=λk=>if k=d then s.fl t else if k=t then false else s.fl k}
@[simp] def YN (s:St) (d t:Nat) (v:V) (k:Nat):(s.zQ d t v).Z k=if k=d then v else s.Z k:=rfl
@[simp] def aaM (s:St) (d t:Nat) (v:V) (k:Nat):(s.zQ d t v).fl k=if k=d then s.fl t else if k=t then false else s.fl k:=rfl
def UP{f:FuncId}{args:List eL}{j:List V}{bJ:Bool}(E:Pure P GL f j v bJ)(l:args.all (λx=> !(s.val x).dY)=true)(o:aV (args.map s.val) j)(h:K (s.put d v none bJ)):
 b4 P GL pu s (some d) (.call f args) K:=⟨l,.inl ⟨j,v,bJ,o,E,h⟩⟩
def Qk{f:FuncId}{cap:List V}{args:List eL}{j:List V}{bJ:Bool}(hx:s.val x=.fn f cap)(l:fK P f=true)(E:Pure P GL f j v bJ)(o:args.all (λx=> !(s.val x).dY)=true)
 (p:aV (args.map s.val++cap) j) (h:K (s.put d v none bJ)):b4 P GL pu s (some d) (.qB x args) K:=by
 simp only[b4,hx];exact⟨l,o,.inl ⟨j,v,bJ,p,E,h⟩⟩
def ak{u v:V}(h:u=v):V.Le u v:=h▸ .refl u
end
def nN(s:St)(d v l o)(t:Nat):(s.put d v l o).Z t=if t=d then v else s.Z t:=rfl
def AH(s:St)(d v l o)(t:Nat):(s.put d v l o).fl t=if t=d then o else s.fl t:=rfl
def wrap_i64{n:Int}(f: -9223372036854775808<=n)(h2:n<=9223372036854775807):IntKind.wrap .i64 n=n:=by
 show(let m:=n%(2^64:Int);if true&&decide (m>=(2^63:Int))then m-(2^64:Int)else m)=n;simp only[hI,cq];split<;>omega
def wrap_u8{n:Int}(f:0<=n)(h2:n<=255):IntKind.wrap .u8 n=n:=by
 show(let m:=n%(2^8:Int);if false&&decide (m>=(2^7:Int))then m-(2^8:Int)else m)=n;simp only[Bool.false_and,bK,cH];omega
end
section
abbrev T:=List UInt8
structure Name where
 J:Int
 seq:Int
 deriving DecidableEq
structure ID where
 J:Int
 seq:Int
 k:Int
 deriving DecidableEq
structure fW where
 i9:Int
 k0:Int
 idx:Int
 deriving DecidableEq
structure aJ where
 id:ID
 eD:Int
 en:Int
 bN:T
 C:List ID
 deriving DecidableEq
structure eg where
 gR:T
 O:List aJ
 deriving DecidableEq
structure eM where
 O:List eg
 deriving DecidableEq
structure cg where
 O:List eM
 deriving DecidableEq
structure Op where
 kind:Int
 W:ID
 to:ID
 spot:fW
 n:Int
 eD:Int
 en:Int
 bN:T
 F:List T
 cW:List (Int×Int)
 C:List ID
 deriving DecidableEq
structure gU where
 name:T
 kind:Int
 en:Int
 see:T
 eH:List T
 deriving DecidableEq
structure Post where
 id:ID
 path:List T
 main:Bool
 deriving DecidableEq
structure aW where
 J:Int
 seq:Int
 eo:Int
 kind:Int
 C:List Name
 op:Op
 dy:gU
 id:ID
 cU:List Post
 n:Int
 deriving DecidableEq
structure cI where
 from_:ID
 to:ID
 deriving DecidableEq
structure gS where
 W:Int
 end_:Int
 kind:Int
 deriving DecidableEq
abbrev I(n:Int):V:=.int .i64 n
abbrev S(s:T):V:=.str s
abbrev B(b:Bool):V:=.bool b
def Name.v(a:Name):V:=.agg [I a.J,I a.seq]
def ID.v(a:ID):V:=.agg [I a.J,I a.seq,I a.k]
def fW.v(a:fW):V:=.agg [I a.i9,I a.k0,I a.idx]
def nb(a:Int×Int):V:=.agg [I a.1,I a.2]
def eZ(l:List T):V:=.sl 1 (l.map S)
def eW(l:List ID):V:=.sl 3 (l.map ID.v)
def ka(l:List Name):V:=.sl 2 (l.map Name.v)
def fq(l:List Int):V:=.sl 1 (l.map I)
def dc(l:T):V:=.sl 1 (l.map λb=>.int .u8 b.toNat)
def jz(l:List (Int×Int)):V:=.sl 2 (l.map nb)
def aJ.v(p:aJ):V:=.agg [I p.id.J,I p.id.seq,I p.id.k,I p.eD,I p.en,S p.bN,eW p.C]
def dA(l:List aJ):V:=.sl 7 (l.map aJ.v)
def eg.v(a:eg):V:=.agg [S a.gR,dA a.O]
def mC(l:List eg):V:=.sl 2 (l.map eg.v)
def eM.v(a:eM):V:=.agg [mC a.O]
def cf(l:List eM):V:=.sl 1 (l.map eM.v)
def cg.v(a:cg):V:=.agg [cf a.O]
def Op.c(o:Op):List V:=[I o.kind,I o.W.J,I o.W.seq,I o.W.k,I o.to.J,I o.to.seq,I o.to.k,I o.spot.i9,I o.spot.k0,I o.spot.idx,I o.n,I o.eD,I o.en,S o.bN,eZ o.F,jz o.cW,eW o.C]
def Op.v(o:Op):V:=.agg o.c
def gU.v(t:gU):V:=.agg [S t.name,I t.kind,I t.en,S t.see,eZ t.eH]
def oi(l:List gU):V:=.sl 5 (l.map gU.v)
def Post.v(p:Post):V:=.agg [I p.id.J,I p.id.seq,I p.id.k,eZ p.path,B p.main]
def nt(l:List Post):V:=.sl 5 (l.map Post.v)
def aW.v(e:aW):V:=.agg [I e.J,I e.seq,I e.eo,I e.kind,ka e.C,I e.op.kind,I e.op.W.J,I e.op.W.seq,I e.op.W.k,I e.op.to.J,I e.op.to.seq,I e.op.to.k,I e.op.spot.i9,I e.op.spot.k0,I e.op.spot.idx,I e.op.n,I e.op.eD,I e.op.en,S e.op.bN,eZ e.op.F,jz e.op.cW,eW e.op.C,S e.dy.name,I e.dy.kind,I e.dy.en,S e.dy.see,eZ e.dy.eH,I e.id.J,I e.id.seq,I e.id.k,nt e.cU,I e.n]
def fP(l:List aW):V:=.sl 32 (l.map aW.v)
def cI.v(a:cI):V:=.agg [I a.from_.J,I a.from_.seq,I a.from_.k,I a.to.J,I a.to.seq,I a.to.k]
def hE(l:List cI):V:=.sl 6 (l.map cI.v)
def gS.v(a:gS):V:=.agg [I a.W,I a.end_,I a.kind]
def pf(l:List gS):V:=.sl 3 (l.map gS.v)
def hV{α:Type}{f:α->V}(h:∀y,(f y).free=true):∀l:List α,hZ (l.map f)=true
 |[]=>rfl
 |y::r=>by simp only[bt,hZ,h y,hV h r,ku]
def Nv:(∀k n,(V.int k n).free=true)/\(∀b,(V.bool b).free=true)/\(∀b,(V.str b).free=true)/\(V.aP.free=true)/\(∀a:Name,a.v.free=true)/\(∀a:ID,a.v.free=true)/\(∀a:fW,a.v.free=true)/\(∀a,(nb a).free=true)/\(∀l,(eZ l).free=true)/\(∀l,(eW l).free=true)/\(∀l,(ka l).free=true)/\(∀l,(fq l).free=true)/\(∀l,(dc l).free=true)/\
 (∀l,(jz l).free=true)/\(∀a:aJ,a.v.free=true)/\(∀l,(dA l).free=true)/\(∀a:eg,a.v.free=true)/\(∀l,(mC l).free=true)/\(∀a:eM,a.v.free=true)/\(∀l,(cf l).free=true)/\(∀a:cg,a.v.free=true)/\(∀a:Op,a.v.free=true)/\(∀a:gU,a.v.free=true)/\
 (∀l,(oi l).free=true)/\(∀a:Post,a.v.free=true)/\(∀l,(nt l).free=true)/\(∀a:aW,a.v.free=true)/\(∀l,(fP l).free=true)/\(∀a:cI,a.v.free=true)/\(∀l,(hE l).free=true)/\(∀a:gS,a.v.free=true)/\(∀l,(pf l).free=true)/\
 (hZ []=true)/\(∀u r,hZ (u::r)=(u.free&&hZ r))/\(∀l,(V.agg l).free=hZ l)/\(∀l,(V.hJ l).free=hZ l)/\(∀n l,(V.sl n l).free=hZ l):=by
 have ai:∀k n,(V.int k n).free=true:=λ_ _=>rfl;have aA:∀b,(V.str b).free=true:=λ_=>rfl;have aB:∀b,(V.bool b).free=true:=λ_=>rfl;have o:∀a:Name,a.v.free=true:=λa=>by simp[Name.v,V.free,hZ]
 have p:∀a:ID,a.v.free=true:=λa=>by simp[ID.v,V.free,hZ]
 have aC:∀a:fW,a.v.free=true:=λa=>by simp[fW.v,V.free,hZ]
 have q:∀a,(nb a).free=true:=λa=>by simp[nb,V.free,hZ]
 have d:∀l,(eZ l).free=true:=λl=>by simp only[eZ,V.free];exact hV (λ_=>rfl) l
 have f:∀l,(eW l).free=true:=λl=>by simp only[eW,V.free];exact hV p l
 have y:∀l,(ka l).free=true:=λl=>by simp only[ka,V.free];exact hV o l
 have aD:∀l,(fq l).free=true:=λl=>by simp only[fq,V.free];exact hV (λ_=>rfl) l
 have a0:∀l,(dc l).free=true:=λl=>by simp only[dc,V.free];exact hV (λ_=>rfl) l
 have j:∀l,(jz l).free=true:=λl=>by simp only[jz,V.free];exact hV q l
 have z:∀a:aJ,a.v.free=true:=λa=>by simp[aJ.v,V.free,hZ,f]
 have A:∀l,(dA l).free=true:=λl=>by simp only[dA,V.free];exact hV z l
 have D:∀a:eg,a.v.free=true:=λa=>by simp[eg.v,V.free,hZ,A]
 have H:∀l,(mC l).free=true:=λl=>by simp only[mC,V.free];exact hV D l
 have K:∀a:eM,a.v.free=true:=λa=>by simp[eM.v,V.free,hZ,H]
 have L:∀l,(cf l).free=true:=λl=>by simp only[cf,V.free];exact hV K l
 have a1:∀a:cg,a.v.free=true:=λa=>by simp[cg.v,V.free,hZ,L]
 have a2:∀a:Op,a.v.free=true:=λa=>by simp[Op.v,Op.c,V.free,hZ,d,f,j]
 have N:∀a:gU,a.v.free=true:=λa=>by simp[gU.v,V.free,hZ,d]
 have a3:∀l,(oi l).free=true:=λl=>by simp only[oi,V.free];exact hV N l
 have Q:∀a:Post,a.v.free=true:=λa=>by simp[Post.v,V.free,hZ,d]
 have R:∀l,(nt l).free=true:=λl=>by simp only[nt,V.free];exact hV Q l
 have ab:∀a:aW,a.v.free=true:=λa=>by simp[aW.v,V.free,hZ,d,f,y,j,R]
 have a4:∀l,(fP l).free=true:=λl=>by simp only[fP,V.free];exact hV ab l
 have ac:∀a:cI,a.v.free=true:=λa=>by simp[cI.v,V.free,hZ]
 have a5:∀l,(hE l).free=true:=λl=>by simp only[hE,V.free];exact hV ac l
 have ad:∀a:gS,a.v.free=true:=λa=>by simp[gS.v,V.free,hZ]
 have a6:∀l,(pf l).free=true:=λl=>by simp only[pf,V.free];exact hV ad l
 exact⟨ai,aB,aA,rfl,o,p,aC,q,d,f,y,aD,a0,j,z,A,D,H,K,L,a1,a2,N,a3,Q,R,ab,a4,ac,a5,ad,a6,rfl,λ_ _=>rfl,λ_=>rfl,λ_=>rfl,λ_ _=>rfl⟩
instance:Inhabited ID:=⟨⟨0,0,0⟩⟩
instance:Inhabited Op:=⟨⟨0,default,default,⟨0,0,0⟩,0,0,0,[],[],[],[]⟩⟩
abbrev x(t:Nat):eL:=.tmp t
abbrev i(n:Int):eL:=.const (.int .i64 n)
abbrev m(d:Nat)(y:eL):BI:=⟨none,some d,.ex (.Jd y)⟩
abbrev v(d:Nat)(b:wa):BI:=⟨none,some d,.ex (.val b)⟩
abbrev g(d:Nat)(y:eL):BI:=⟨none,some d,.ex (.x7 y)⟩
abbrev e(d:Nat)(b:BX):BI:=⟨none,some d,.ex b⟩
abbrev c(d:Nat)(f:FuncId)(l:List eL):BI:=⟨none,some d,.call f l⟩
def oj(s:St)(d:List BR)(u:V)(bJ:Bool):Prop:=∃a o,BF.result s d=some (a,o)/\V.Le a u/\(bJ=true->o=true\/a=.aP)
def Ql{P:Program}{GL:aj}(hm:Wx P){A D:List Nat}{f:FuncId}{n:Nat}{b:BC}{q:List BR}{args:List V}{u:V}{bJ:Bool}
 (H:r6 P GL A D f=some ⟨n,b,q⟩) (K:args.length<=n) (L:hZ args=true) (N:u.free=true)
 (h:vc P GL b (St.init n args aK.bare) (run P GL [] λe s'=>(∀id,e≠.exit id)/\oj s' q u bJ)):Pure P GL f args u bJ:=by
 refine⟨L,N,?_⟩;have l:lB P GL f args aK.bare λa o _=>V.Le a u/\(bJ=true->o=true\/a=.aP):=by
  refine y0 hm H K (fV (EM h) ?_);rintro e s' ⟨l,a,o,d,p,j⟩;exact⟨l,a,o,d,p,j⟩
 intro g w Q r R ab;refine l g w Q r R ?_;rintro a y o z ac ad ⟨d,p⟩ out;refine ab u y bJ z ac ad ⟨rfl,rfl⟩ ⟨out.gF,out.heap,out.res.weak d,out.step,λai=>?_⟩;rcases p ai with j|j
 .exact(out.tail j).le d out.res (.inl (.inl λ_=>rfl))
 .subst j;exact dS.nil (.inr d) out.res
def Nw{P:Program}{GL:aj}(hm:Wx P){j l:List Nat}{f:FuncId}{n:Nat}{b:BC}{d:List BR}{args:List V}{E:aK}{Q:V->Bool->aK->Prop}
 (o:r6 P GL j l f=some ⟨n,b,d⟩) (p:args.length<=n)
 (h:vc P GL b (St.init n args E) (run P GL [] λe s'=>(∀id,e≠.exit id)/\∃v bJ,BF.result s' d=some (v,bJ)/\Q v bJ s'.E)):lB P GL f args E Q:=
 y0 hm o p (EM h)
def eN{P:Program}{GL:aj}(hm:Wx P){o p:List Nat}{f:FuncId}{n:Nat}{b:BC}{l:List BR}{args:List V}{E:aK}{Q:V->Bool->aK->Prop}
 (q:r6 P GL o p f=some ⟨n,b,l⟩) (r:args.length<=n)
 (h:vc P GL b (St.init n args E) (run P GL [] λe s'=>(∀id,e≠.exit id)/\∃v bJ fz j v' d,BF.result s' l=some (v,bJ)/\jE fz s'.E j/\V.lF fz v v'/\(d=true->(bJ=true/\(PF fz v\/v'=v))\/v=.aP)/\Q v' d j)):lB P GL f args E Q:=
 xg hm q r (EM h)
def Pure.gg{P:Program}{GL:aj}{f:FuncId}{args:List V}{u:V}{bJ:Bool}(d:hZ args=true)(j:u.free=true)(h:lB P GL f args aK.bare λr o _=>r=u/\o=bJ):Pure P GL f args u bJ:=⟨d,j,h⟩
section
variable {s:St}{t t' Wy:Nat}{a a' UR u u' YO:V}{bJ:Bool}
def US(h:s.Z t=a)(d:a.dY=false)(f:bJ=true->s.fl t=true\/a=.aP)(j:V.Le a u):oj s [.tmp t] u bJ:=by
 subst h;exact⟨_,_,by simp[BF.result,d],j,f⟩
def YP(h:s.Z t=a)(d:a.dY=false)(f:V.Le a u):oj s [.tmp t] u false:=US h d (λj=>absurd j ky) f
def S9(h:s.Z t=a)(d:a.dY=false)(f:s.fl t=true)(j:V.Le a u):oj s [.tmp t] u bJ:=US h d (λ_=>.inl f) j
def XD(h:s.Z t=a)(d:a.dY=false)(f:a=.aP)(j:V.Le a u):oj s [.tmp t] u bJ:=US h d (λ_=>.inr f) j
def aba:oj s [] (.hJ []) false:=⟨_,_,rfl,.refl _,bT⟩
def abb(h:s.Z t=a)(j:s.Z t'=a')(l:a.dY=false)(d:a'.dY=false)(o:V.Le a u)(f:V.Le a' u'):oj s [.tmp t,.tmp t'] (.hJ [u,u']) false:=by
 subst h j;refine⟨.hJ [s.Z t,s.Z t'],false,by simp[BF.result,BR.pX,BR.get,l,d],?_,bT⟩;have:=aV.cons o (aV.cons f aV.nil);exact .hJ _ _ this.1 this.2
def abc(h:s.Z t=a)(p:s.Z t'=a')(j:s.Z Wy=UR)(q:a.dY=false)(l:a'.dY=false)(d:UR.dY=false)(r:V.Le a u)(o:V.Le a' u')(f:V.Le UR YO):
 oj s [.tmp t,.tmp t',.tmp Wy] (.hJ [u,u',YO]) false:=by
 subst h p j;refine⟨.hJ [s.Z t,s.Z t',s.Z Wy],false,by simp[BF.result,BR.pX,BR.get,q,l,d],?_,bT⟩;have:=aV.cons r (aV.cons o (aV.cons f aV.nil));exact .hJ _ _ this.1 this.2
end
section
variable {GL:Nat->Option (List V)}{P:Program}{s:St}{st:List Fr}{pu:Bool}
def eF{s t:St}{d v l o}(h:Kept s t):Kept s (t.put d v l o):=h.trans (.put ..)
def eO{s t:St}{d k v}(h:Kept s t):Kept s (t.zQ d k v):=h.trans ⟨rfl,λ_=>an _,λ_ _ _=>rfl,rfl,rfl,rfl⟩
def eB{s t:St}{d cs}(h:Kept s t):Kept s (t.fD d cs):=h.trans (.fD ..)
def gy{s t:St}{l}(h:Kept s t):Kept s (t.dP l):=h.trans (.dP ..)
def ec{s t:St}{D bJ vals}(h:Kept s t):Kept s (t.head D bJ vals):=h.trans ⟨rfl,λ_=>an _,λ_ _ _=>rfl,rfl,rfl,rfl⟩
def eC{s t:St}{j k off vs}(h:Kept s t)(p:s.G j<=k):Kept s (t.h8 j k off vs):=
 ⟨h.n,h.G,λd f l=>by
  have:¬(d=j/\f=k):=λo=>by obtain⟨rfl,rfl⟩:=o;omega
  have e:(t.h8 j k off vs).loc d f=t.loc d f:=by simp only[St.h8,l2,al this]
  rw[e];exact h.loc d f l,h.box,h.mp,h.Y⟩
def Bw{a b:BC}{K:Ex->St->Prop}{D bJ:List Nat}{α:Type}(p:α->Prop)(vals:α->List (Nat×V×Bool))(H:a.iJ.all D.contains=true)(o:D.all a.iJ.contains=true)
 (r:∀i,mK D (vals i)=true)
 (L:vc P GL a s (run P GL (.back (λs'=>∃i,Hd (p i)/\fR s' (vals i)/\fM s' bJ/\Kept s s')::st) K)) (y:a.vO=true)
 (hb:∀i,p i->vc P GL b (s.head D bJ (vals i)) (run P GL st K)):vc P GL (.jn a b) s (run P GL st K):=by
 have sub:∀x,x∉D->x∉a.iJ:=λx hx d=>hx (by have:=bO.1 H x d;simpa using this);have f:∀x,x∉a.iJ->x∉D:=λx hx d=>hx (by have:=bO.1 o x d;simpa using this);have j:∀i x,x∉D->(s.head D bJ (vals i)).Z x=s.Z x:=by
  intro i x hx;simp only[St.head];cases e:look (vals i) x with
  |some q=>exact absurd (mK.look (r i) e).1 hx
  |none=>simp[hx]
 intro N;refine fV (EL y L) ?_;rintro e u ⟨l,z⟩;cases e with
 |normal=>
  obtain⟨i,E,Q,R,A⟩:=l;refine .inr ⟨_,r7 (r i) N (λx hx=>z x (sub x hx)) A Q R,λx hx=>?_,λ_=>?_,hb i E.h⟩
  .rw[j i x (f x hx),z x hx]
  .exact ec (.refl s)
 |exit id=>exact l
 |ret=>exact l
def p2{b:BC}{K:Ex->St->Prop}{D bJ:List Nat}(y:b.vO=true){α:Type}(p:α->Prop)(vals:α->List (Nat×V×Bool))(j:α->Nat)(l:α)(ab:b.iJ.all D.contains=true)(z:D.all b.iJ.contains=true)
 (hk:∀a,mK D (vals a)=true) (h0:p l) (ac:fR s (vals l)) (ad:fM s bJ)
 (d:∀a,p a->vc P GL b (s.head D bJ (vals a)) (run P GL (.back (λs'=>∃a',Hd (p a')/\Hd (j a'<j a)/\fR s' (vals a')/\fM s' bJ/\Kept s s')::st) K)):vc P GL (.loop b) s (run P GL st K):=by
 have sub:∀x,x∉D->x∉b.iJ:=λx hx o=>hx (by have:=bO.1 ab x o;simpa using this);have q:∀x,x∉b.iJ->x∉D:=λx hx o=>hx (by have:=bO.1 z x o;simpa using this);have f:∀a x,x∉D->(s.head D bJ (vals a)).Z x=s.Z x:=by
  exact W1
 intro A;refine⟨λk t=>∃a,p a/\j a=k/\t=s.head D bJ (vals a),⟨_,_,r7 (hk l) A (λ_ _=>rfl) (.refl s) ac ad,l,h0,rfl,rfl⟩,?_,?_,?_⟩
 .rintro _ k t ⟨a,_,_,rfl⟩;exact ec (.refl s)
 .rintro k t ⟨a,_,_,rfl⟩ x hx;exact f a x (q x hx)
 .rintro k t ⟨a,ai,rfl,rfl⟩;refine fV (EL y (d a ai)) ?_;rintro e u ⟨r,aA⟩;cases e with
  |normal=>
   obtain⟨a',H,L,N,Q,R⟩:=r;exact λ_=>⟨j a',_,L.h,r7 (hk a') A (λx hx=>by rw[aA x (sub x hx),f a x hx]) R N Q,a',H.h,rfl,rfl⟩
  |exit id=>exact r
  |ret=>exact r
end
def I9(s:St)(d v l o):(s.put d v l o).G=s.G:=rfl
def I8(s:St)(d v l o):(s.put d v l o).loc=s.loc:=rfl
def MM(s:St)(d v l o):(s.put d v l o).E=s.E:=rfl
end
section
variable {GL:Nat->Option (List V)}{P:Program}
def iW(P:Program)(GL:aj)(o:Option V)(d:Option Nat)(pu:Bool)(r:List BI)(s:St)(K:St->Prop):Prop:=match o with
 |some u=>er P GL pu r (s.Bh d u none false) K
 |none=>False
def i1(P:Program)(GL:aj)(o:Option (List V))(l:Option Loc)(d:Nat)(pu:Bool)(r:List BI)(s:St)(K:St->Prop):Prop:=match o with
 |some (u::_)=>er P GL pu r (s.put d u l false) K
 |_=>False
def iG(P:Program)(GL:aj)(o:Option St)(pu:Bool)(r:List BI)(K:St->Prop):Prop:=match o with
 |some s=>er P GL pu r s K
 |none=>False
def i2(P:Program)(GL:aj)(o:Option (List V))(sz d:Nat)(pu:Bool)(r:List BI)(s:St)(K:St->Prop):Prop:=match o with
 |some a=>er P GL pu r (s.put d (.sl sz a) none true) K
 |none=>False
def iX(P:Program)(GL:aj)(b:Bool)(cs:List V)(d:Nat)(pu:Bool)(r:List BI)(s:St)(K:St->Prop):Prop:=
 b=true/\er P GL pu r ((s.fD d cs).put d (.lp d (s.G d) 0) none false) K
def iw(P:Program)(GL:aj)(u:V)(want:Bool)(dst:Option Nat)(op:BY)(pu:Bool)(r:List BI)(s:St)(K:St->Prop):Prop:=match u with
 |.bool b=>if b=want then er P GL pu (⟨none,dst,op⟩::r) s K else er P GL pu r (s.skip dst) K
 |.qn=>er P GL pu r (s.skip dst) K
 |_=>False
def YQ(P:Program)(GL:aj)(d:Option Nat)(pu:Bool)(r:List BI)(s:St)(K:St->Prop):List (V×Bool×aK)->Prop
 |[]=>True
 |p::l=>er P GL pu r ((s.cu p.2.2).ret d p.1 p.2.1) K/\YQ P GL d pu r s K l
def iq(P:Program)(GL:aj)(o:Option (List (V×Bool×aK)))(d:Option Nat)(pu:Bool)(r:List BI)(s:St)(K:St->Prop):Prop:=match o with
 |some l=>YQ P GL d pu r s K l
 |none=>False
def plK(P:Program)(GL:aj)(pu:Bool)(p:k6)(K:St->Prop):St->Prop:=λs=>bU P GL pu p s K
def iI(P:Program)(GL:aj)(u:V)(a b:BC)(s:St)(st:List Fr)(K:Ex->St->Prop):Prop:=Tw u (vc P GL a s (run P GL st K)) (vc P GL b s (run P GL st K))
section
variable {pu:Bool}{s s':St}{K:St->Prop}{b:BC}{st:List Fr}{K0:Ex->St->Prop}{e:Ex}
def bZ{t:Bool}{a b:BC}(d:t=true->vc P GL a s (run P GL st K0))(f:t=false->vc P GL b s (run P GL st K0)):iI P GL (.bool t) a b s st K0:=⟨t,rfl,d,f⟩
def c8{t w:Bool}{dst:Option Nat}{op:BY}{r:List BI}(a:t=w->er P GL pu (⟨none,dst,op⟩::r) s K)(d:t=(!w)->er P GL pu r (s.skip dst) K):iw P GL (.bool t) w dst op pu r s K:=by
 unfold iw;by_cases h:t=w
 .simp[h,a]
 .simp only[al h];exact d (by cases t<;>cases w<;>simp_all)
def q5:
 (∀(s:St),vc P GL .skip s (run P GL st K0)=run P GL st K0 .normal s)/\
 (∀(s:St) pu l,vc P GL (.ops pu l) s (run P GL st K0)=er P GL pu l s (run P GL st K0 .normal))/\
 (∀(s:St) pu p,vc P GL (.ws pu p) s (run P GL st K0)=bU P GL pu p s (run P GL st K0 .normal))/\
 (∀(s:St) a b,vc P GL (.seq a b) s (run P GL st K0)=vc P GL a s (run P GL (.seq b::st) K0))/\
 (∀(s:St) c a b,vc P GL (.cond c a b) s (run P GL st K0)=iI P GL (s.val c) a b s st K0)/\
 (∀(s:St) id b,vc P GL (.block id b) s (run P GL st K0)=vc P GL b s (run P GL (.block id::st) K0))/\
 (∀(s:St) id,vc P GL (.exit id) s (run P GL st K0)=run P GL st K0 (.exit id) s)/\
 (∀(s:St),vc P GL .ret s (run P GL st K0)=run P GL st K0 .ret s)/\
 (∀(s:St) b,run P GL (.seq b::st) K0 .normal s=vc P GL b s (run P GL st K0))/\
 (∀(s:St) b id,run P GL (.seq b::st) K0 (.exit id) s=run P GL st K0 (.exit id) s)/\
 (∀(s:St) b,run P GL (.seq b::st) K0 .ret s=run P GL st K0 .ret s)/\
 (∀(s:St) id,run P GL (.block id::st) K0 .normal s=run P GL st K0 .normal s)/\
 (∀(s:St) id,run P GL (.block id::st) K0 .ret s=run P GL st K0 .ret s)/\
 (∀(s:St) id d,run P GL (.block id::st) K0 (.exit d) s=if d=id then run P GL st K0 .normal s else run P GL st K0 (.exit d) s)/\
 (∀(s:St) N,run P GL (.back N::st) K0 .normal s=N s)/\
 (∀(s:St) N,run P GL (.back N::st) K0 .ret s=run P GL st K0 .ret s)/\
 (∀(s:St) N id,run P GL (.back N::st) K0 (.exit id) s=run P GL st K0 (.exit id) s)/\
 (∀(s:St) a b,iI P GL (.bool true) a b s st K0=vc P GL a s (run P GL st K0))/\(∀(s:St) a b,iI P GL (.bool false) a b s st K0=vc P GL b s (run P GL st K0)):=by
 refine⟨λ_=>rfl,λ_ _ _=>rfl,λ_ _ _=>rfl,?_,λ_ _ _ _=>rfl,?_,λ_ _=>rfl,λ_=>rfl,λ_ _=>rfl,λ_ _ _=>rfl,λ_ _=>rfl,?_,?_,?_,λ_ _=>rfl,λ_ _=>rfl,λ_ _ _=>rfl,?_,?_⟩
 .intro s a b;show vc P GL a s _=_;congr 1;funext e s';cases e<;>rfl
 .intro s id b;show vc P GL b s _=_;rfl
 .intro s id;simp[run]
 .intro s id;simp[run]
 .intro s id d;by_cases h:d=id
  .simp[run,h]
  .simp[run,h]
 .intro s A B;exact propext ⟨λ⟨t,f,j,o⟩=>by cases f;exact j rfl,λh=>⟨true,rfl,λ_=>h,λe=>by cases e⟩⟩
 .intro s A B;exact propext ⟨λ⟨t,f,j,o⟩=>by cases f;exact o rfl,λh=>⟨false,rfl,λe=>(by cases e),λ_=>h⟩⟩
def Qm:run P GL [] K0 e s=K0 e s:=rfl
def UT:
 (∀(s:St),er P GL pu [] s K=K s)/\
 (∀(s:St) d y r,er P GL pu (⟨none,some d,.ex (.Jd y)⟩::r) s K=er P GL pu r (s.put d (s.val y) (varOf y) false) K)/\
 (∀(s:St) d b r,er P GL pu (⟨none,d,.ex (.val b)⟩::r) s K=iW P GL (dv s b) d pu r s K)/\
 (∀(s:St) d a r,er P GL pu (⟨none,some d,.ex (.ld a)⟩::r) s K=i1 P GL (s.iO (s.val a)) (yT (s.val a)) d pu r s K)/\
 (∀(s:St) d t r,er P GL pu (⟨none,some d,.ex (.x7 (.tmp t))⟩::r) s K=er P GL pu r (s.zQ d t (s.Z t)) K)/\
 (∀(s:St) d u r,er P GL pu (⟨none,some d,.ex (.x7 (.const u))⟩::r) s K=er P GL pu r (s.put d u none false) K)/\
 (∀(s:St) d u r,er P GL pu (⟨none,some d,.ex (.x7 (.kp u))⟩::r) s K=er P GL pu r (s.put d (.ep u) none false) K)/\
 (∀(s:St) d zs r,er P GL pu (⟨none,some d,.ex (.alloc zs)⟩::r) s K=er P GL pu r ((s.fD d zs).put d (.lp d (s.G d) 0) none false) K)/\
 (∀(s:St) d n y r,er P GL pu (⟨none,some d,.ex (.box n y)⟩::r) s K=iX P GL (jW n (s.val y)) (s.val y).cells d pu r s K)/\
 (∀(s:St) n a y r,er P GL pu (⟨none,none,.ex (.store n a y)⟩::r) s K=iG P GL (s.store n (s.val a) y) pu r K)/\
 (∀(s:St) d sz z n ps r,er P GL pu (⟨none,some d,.ex (.uk sz z n ps)⟩::r) s K=i2 P GL (iQ s sz (List.replicate n z) ps) sz d pu r s K)/\
 (∀(s:St) t w dst op r,er P GL pu (⟨some (t,w),dst,op⟩::r) s K=iw P GL (s.Z t) w dst op pu r s K)/\
 (∀(s:St),bU P GL pu .done s K=K s)/\
 (∀(s:St),bU P GL pu .stop s K=True)/\
 (∀(s:St) i p,bU P GL pu (.one true i p) s K=er P GL pu [i] s (plK P GL pu p K))/\
 (∀(s:St) i p,bU P GL pu (.one false i p) s K=er P GL true [i] s (plK P GL pu p K))/\
 (∀(s:St) p,plK P GL pu p K s=bU P GL pu p s K)/\
 (∀(s:St) u d r,iW P GL (some u) (some d) pu r s K=er P GL pu r (s.put d u none false) K)/\
 (∀(s:St) u r,iW P GL (some u) none pu r s K=er P GL pu r s K)/\
 (∀(s:St) u cs l d r,i1 P GL (some (u::cs)) l d pu r s K=er P GL pu r (s.put d u l false) K)/\
 (∀(s:St) r,iG P GL (some s) pu r K=er P GL pu r s K)/\
 (∀(s:St) xs sz d r,i2 P GL (some xs) sz d pu r s K=er P GL pu r (s.put d (.sl sz xs) none true) K)/\
 (∀(s:St) cs d r,iX P GL true cs d pu r s K=er P GL pu r ((s.fD d cs).put d (.lp d (s.G d) 0) none false) K)/\
 (∀(s:St) w dst op r,iw P GL .qn w dst op pu r s K=er P GL pu r (s.skip dst) K)/\
 (∀(s:St) w dst op r,iw P GL (.bool w) w dst op pu r s K=er P GL pu (⟨none,dst,op⟩::r) s K)/\
 (∀(s:St) dst op r,iw P GL (.bool false) true dst op pu r s K=er P GL pu r (s.skip dst) K)/\
 (∀(s:St) dst op r,iw P GL (.bool true) false dst op pu r s K=er P GL pu r (s.skip dst) K):=by
 refine⟨λ_=>rfl,λ_ _ _ _=>rfl,?_,?_,λ_ _ _ _=>rfl,λ_ _ _ _=>rfl,λ_ _ _ _=>rfl,λ_ _ _ _=>rfl,?_,?_,?_,?_,λ_=>rfl,λ_=>rfl,λ_ _ _=>rfl,λ_ _ _=>rfl,λ_ _=>rfl,λ_ _ _ _=>rfl,λ_ _ _=>rfl,λ_ _ _ _ _ _=>rfl,λ_ _=>rfl,λ_ _ _ _ _=>rfl,λ_ _ _ _=>by simp[iX],λ_ _ _ _ _=>rfl,λ_ _ _ _ _=>by simp[iw],λ_ _ _ _=>by simp[iw],λ_ _ _ _=>by simp[iw]⟩
 .intro s d b r;show b4 P GL pu s d (.ex (.val b)) _=_;simp only[b4,iF,iW];cases dv s b<;>cases d<;>rfl
 .intro s d a r;show b4 P GL pu s (some d) (.ex (.ld a)) _=_;simp only[b4,iF,i1];rcases s.iO (s.val a)with _|_|⟨u,r⟩<;>rfl
 .intro s d n y r;show b4 P GL pu s (some d) (.ex (.box n y)) _=_;simp only[b4,iF,iX];by_cases h:jW n (s.val y)=true<;>simp[h]
 .intro s n a y r;show b4 P GL pu s none (.ex (.store n a y)) _=_;simp only[b4,iF,iG]<;>cases s.store n (s.val a) y<;>rfl
 .intro s d sz z n ps r;show b4 P GL pu s (some d) (.ex (.uk sz z n ps)) _=_;simp only[b4,iF,i2];cases iQ s sz (List.replicate n z) ps<;>rfl
 .intro s t w dst op r;show dq P GL pu ⟨some (t,w),dst,op⟩ s _=_;simp only[dq,iw];cases s.Z t<;>rfl
def Nx:
 (∀(s:St) d h r,er P GL pu (⟨none,d,.hx h⟩::r) s K=iq P GL (h.act s) d pu r s K)/\
 (∀(s:St) d r u o E,iq P GL (some [(u,o,E)]) (some d) pu r s K=er P GL pu r ((s.cu E).put d u none o) K)/\
 (∀(s:St) r u o E,iq P GL (some [(u,o,E)]) none pu r s K=er P GL pu r (s.cu E) K):=by
 refine⟨λs d h r=>?_,λs d r u o E=>by simp[iq,YQ,St.ret],λs r u o E=>by simp[iq,YQ,St.ret]⟩;show b4 P GL pu s d (.hx h) _=_;simp only[b4,HX.outs,iq];cases h.act s with
 |none=>rfl
 |some l=>
  simp only[bF];induction l with
  |nil=>rfl
  |cons p l ih=>simp only[bt,KZ,YQ,ih]
def UU{d:Option Nat}{r:List BI}{u f:V}{o o':Bool}{E a:aK}(h:er P GL pu r ((s.cu E).ret d u o) K)(j:er P GL pu r ((s.cu a).ret d f o') K):iq P GL (some [(u,o,E),(f,o',a)]) d pu r s K:=⟨h,j,trivial⟩
def gA(P:Program)(GL:aj)(d:Option Nat)(pu:Bool)(r:List BI)(s:St)(K:St->Prop):V->Bool->aK->Prop:=λv o E=>er P GL pu r ((s.cu E).ret d v o) K
def By:
 (∀(s:St) d m r,er P GL pu (⟨none,d,.mx m⟩::r) s K=m.wp s (gA P GL d pu r s K))/\
 (∀(s:St) d r u o E,gA P GL (some d) pu r s K u o E=er P GL pu r ((s.cu E).put d u none o) K)/\
 (∀(s:St) r u o E,gA P GL none pu r s K u o E=er P GL pu r (s.cu E) K):=
 ⟨λ_ _ _ _=>rfl,λ_ _ _ _ _ _=>rfl,λ_ _ _ _ _=>rfl⟩
def l_op{dst:Option Nat}{op:BY}{r:List BI}(h:b4 P GL pu s dst op λs'=>er P GL pu r s' K):er P GL pu (⟨none,dst,op⟩::r) s K:=h
def gD{a a':V}(h:V.Le a a')(d:a'.free=true):a.dY=false:=by
 cases h with
 |refl=>cases a<;>first|rfl|(simp[V.free]at d)
 |_=>rfl
def UV{s:St}{args:List eL}{a:List V}(d:aV (args.map s.val) a)(o:hZ a=true):args.all (λx=> !(s.val x).dY)=true:=by
 rw[bO];intro y p;obtain⟨j,f,rfl⟩:=hU.1 p;have q:(args.map s.val)[j]?=some (s.val args[j]):=by simp[f]
 have r:j<a.length:=by rw[<-d.1];simpa using f
 have l:a[j]?=some a[j]:=by simp[r]
 rw[gD (d.2 j _ _ q l) (kZ o l)];rfl
def jj{d:Nat}{f:FuncId}{args:List eL}{a:List V}{u:V}{bJ:Bool}{r:List BI}(E:Pure P GL f a u bJ)(j:aV (args.map s.val) a)(h:er P GL pu r (s.put d u none bJ) K):
 er P GL pu (⟨none,some d,.call f args⟩::r) s K:=l_op (UP E (UV j E.1) j h)
def Qn{d:Option Nat}{f:FuncId}{args:List eL}{a:List V}{Q:V->Bool->aK->Prop}{r:List BI}(E:lB P GL f a s.E Q)(l:args.all (λx=> !(s.val x).dY)=true)(o:aV (args.map s.val) a)
 (h:∀v bJ j,Q v bJ j->er P GL false r ((s.cu j).ret d v bJ) K):er P GL false (⟨none,d,.call f args⟩::r) s K:=
 l_op ⟨l,.inr (.inl ⟨rfl,a,o,E.mono h⟩)⟩
def Ny{d:Option Nat}{f:FuncId}{args:List eL}{a:List V}{Q:V->Bool->aK->Prop}{r:List BI}{fz:aj}{h0:aK}(l:jE fz s.E h0)(E:lB P GL f a h0 Q)(o:args.all (λx=> !(s.val x).dY)=true)(p:Ag fz (args.map s.val) a)
 (h:∀v bJ j,Q v bJ j->er P GL false r ((s.cu j).ret d v bJ) K):er P GL false (⟨none,d,.call f args⟩::r) s K:=
 l_op ⟨o,.inr (.inr ⟨rfl,fz,h0,a,l,p,.inr (E.mono h)⟩)⟩
def Ak{d:Nat}{f:FuncId}{args:List eL}{a:List V}{u:V}{bJ:Bool}{r:List BI}{fz:aj}{h0:aK}(j:jE fz s.E h0)(E:Pure P GL f a u bJ)(l:args.all (λx=> !(s.val x).dY)=true)(o:Ag fz (args.map s.val) a)
 (h:er P GL false r ((s.cu h0).put d u none bJ) K):er P GL false (⟨none,some d,.call f args⟩::r) s K:=
 l_op ⟨l,.inr (.inr ⟨rfl,fz,h0,a,j,o,.inl ⟨u,bJ,E,h⟩⟩)⟩
def xi{d:Nat}{y:eL}{f:FuncId}{cap:List V}{args:List eL}{a:List V}{u:V}{bJ:Bool}{r:List BI}(hx:s.val y=.fn f cap)(j:fK P f=true)(E:Pure P GL f a u bJ)(l:args.all (λx=> !(s.val x).dY)=true)
 (o:aV (args.map s.val++cap) a) (h:er P GL pu r (s.put d u none bJ) K):er P GL pu (⟨none,some d,.qB y args⟩::r) s K:=l_op (Qk hx j E l o h)
def Nz{d:Option Nat}{y:eL}{f:FuncId}{cap:List V}{args:List eL}{a:List V}{Q:V->Bool->aK->Prop}{r:List BI}(hx:s.val y=.fn f cap)(l:fK P f=true)(E:lB P GL f a s.E Q)(o:args.all (λx=> !(s.val x).dY)=true)
 (p:aV (args.map s.val++cap) a) (h:∀v bJ j,Q v bJ j->er P GL false r ((s.cu j).ret d v bJ) K):er P GL false (⟨none,d,.qB y args⟩::r) s K:=
 l_op (by simp only[b4,hx];exact⟨l,o,.inr (.inl ⟨rfl,a,p,E.mono h⟩)⟩)
end
def br{α:Type}{l:List α}{k:Nat}(h:k<l.length):l.take (k+1)=l.take k++[l[k]]:=by
 rw[List.take_add_one,aa h];rfl
def UW:
 (∀(s:St) t,s.val (.tmp t)=s.Z t)/\(∀(s:St) u,s.val (.const u)=u)/\(∀(s:St) cs,s.val (.kp cs)=.ep cs)/\
 (∀(s:St)(d u l o t),(s.put d u l o).Z t=if t=d then u else s.Z t)/\
 (∀(s:St)(d k u t),(s.zQ d k u).Z t=if t=d then u else s.Z t)/\
 (∀(s:St)(d cs),(s.fD d cs).Z=s.Z)/\
 (∀(s:St)(j k o vs),(s.h8 j k o vs).Z=s.Z)/\
 (∀(s:St)(D bJ vals t),(s.head D bJ vals).Z t=match look vals t with
  |some (u,_)=>u
  |none=>if D.contains t then .unk else s.Z t)/\
 (∀(n:Nat) args E t,(St.init n args E).Z t=args.getD t .qn)/\
 (∀(s:St) u,(s.dP (.var u)).Z=s.Z)/\
 (∀(s:St) d,s.skip (some d)=s.put d .qn none false)/\(∀(s:St),s.skip none=s)/\
 (∀t,look [] t=none)/\(∀t u o r k,look ((t,u,o)::r) k=if k=t then some (u,o)else look r k)/\
 (∀(s:St)(d u l o),(s.put d u l o).G=s.G)/\(∀(s:St)(d u l o),(s.put d u l o).loc=s.loc)/\
 (∀(s:St)(d k u),(s.zQ d k u).G=s.G)/\(∀(s:St)(d k u),(s.zQ d k u).loc=s.loc)/\
 (∀(s:St)(d cs j),(s.fD d cs).G j=if j=d then s.G d+1 else s.G j)/\
 (∀(s:St)(d cs j k),(s.fD d cs).loc j k=if j=d/\k=s.G d then cs else s.loc j k)/\
 (∀(s:St)(j k o vs),(s.h8 j k o vs).G=s.G)/\
 (∀(s:St)(j k o vs a f),(s.h8 j k o vs).loc a f=if a=j/\f=k then aQ (s.loc j k) o vs else s.loc a f)/\
 (∀(s:St)(D bJ vals),(s.head D bJ vals).G=s.G)/\(∀(s:St)(D bJ vals),(s.head D bJ vals).loc=s.loc)/\
 (∀(n:Nat) args E j,(St.init n args E).G j=0)/\(∀(n:Nat) args E j k,(St.init n args E).loc j k=[])/\
 (∀(s:St) u,(s.dP (.var u)).G=s.G)/\(∀(s:St) u,(s.dP (.var u)).loc=s.loc)/\
 (∀(s:St) j k off,s.iO (.lp j k off)=if k<s.G j then(if off<=(s.loc j k).length then some ((s.loc j k).drop off)else none)else none)/\
 (∀(s:St) cs,s.iO (.ep cs)=some cs)/\(∀cs,V.cells (.agg cs)=cs)/\(∀k n,V.cells (.int k n)=[.int k n])/\(∀n,V.cells (.bool n)=[.bool n])/\(∀n,V.cells (.str n)=[.str n])/\(∀n l,V.cells (.sl n l)=[.sl n l])/\
 (∀t,varOf (.tmp t)=some (.var t)):=by
 and_intros<;>intros<;>rfl
def bx:
 (∀(s:St) E,(s.cu E).Z=s.Z)/\(∀(s:St) E,(s.cu E).fl=s.fl)/\(∀(s:St) E,(s.cu E).loc=s.loc)/\(∀(s:St) E,(s.cu E).G=s.G)/\(∀(s:St) E,(s.cu E).E=E)/\
 (∀(s:St)(d u l o),(s.put d u l o).E=s.E)/\(∀(s:St)(d k u),(s.zQ d k u).E=s.E)/\(∀(s:St)(d cs),(s.fD d cs).E=s.E)/\(∀(s:St)(j k o vs),(s.h8 j k o vs).E=s.E)/\
 (∀(s:St) u,(s.dP (.var u)).E=s.E)/\(∀(s:St)(j k o y),(s.oh j k o y).E=s.E)/\(∀(n:Nat) args E,(St.init n args E).E=E)/\
 (∀(s:St)(D bJ vals),(s.head D bJ vals).E.box=s.E.box)/\(∀(s:St)(D bJ vals),(s.head D bJ vals).E.mp=s.E.mp)/\(∀(s:St)(D bJ vals),(s.head D bJ vals).E.Y=s.E.Y)/\
 (∀(h:aK) cs i,(h.cO cs).box i=if i=h.Y then some cs else h.box i)/\(∀(h:aK) cs,(h.cO cs).mp=h.mp)/\(∀(h:aK) cs,(h.cO cs).Y=h.Y+1)/\
 (∀(h:aK) i,h.hN.mp i=if i=h.Y then some (.map [])else h.mp i)/\(∀(h:aK),h.hN.box=h.box)/\(∀(h:aK),h.hN.Y=h.Y+1)/\
 (∀(h:aK) i kvs j,(h.eJ i kvs).mp j=if j=i then some (.map kvs)else h.mp j)/\(∀(h:aK) i kvs,(h.eJ i kvs).box=h.box)/\(∀(h:aK) i kvs,(h.eJ i kvs).Y=h.Y)/\
 (aK.bare.Y=0)/\(∀i,aK.bare.box i=none)/\(∀i,aK.bare.mp i=none)/\
 (∀(s:St) id off,s.iO (.bp id off)=match s.E.box id with|some cs=>if off<=cs.length then some (cs.drop off)else none|none=>none):=by
 and_intros<;>intros<;>first|rfl|(rename_i y;cases y<;>rfl)
def Lg:
 (∀(s:St)(j k o y),(s.oh j k o y).Z=s.Z)/\(∀(s:St)(j k o y),(s.oh j k o y).G=s.G)/\(∀(s:St)(j k o y),(s.oh j k o y).loc=s.loc)/\
 (∀(s:St)(j k o u),s.oh j k o (.const u)=s)/\(∀(s:St)(j k o u),s.oh j k o (.kp u)=s)/\
 (∀(s:St)(j k o t x),(s.oh j k o (.tmp t)).fl x=if x=t then false else s.fl x)/\(∀(s:St)(j k o vs),(s.h8 j k o vs).fl=s.fl):=by
 and_intros<;>intro s j k o y<;>first|(intro x;rfl)|(cases y<;>rfl)|rfl
def NA:
 (∀(s:St)(d u l o t),(s.put d u l o).fl t=if t=d then o else s.fl t)/\
 (∀(s:St)(d k u t),(s.zQ d k u).fl t=if t=d then s.fl k else if t=k then false else s.fl t)/\
 (∀(s:St)(d cs),(s.fD d cs).fl=s.fl)/\
 (∀(s:St)(D bJ vals t),(s.head D bJ vals).fl t=match look vals t with
  |some (_,o)=>o
  |none=>bJ.contains t)/\
 (∀(n:Nat) args E t,(St.init n args E).fl t=false)/\
 (∀(s:St) u t,(s.dP (.var u)).fl t=if t=u then false else s.fl t):=by
 and_intros<;>intros<;>rfl
end
section
variable {P:Program}{GL:Nat->Option (List V)}{a b c:BC}{s:St}{st:List Fr}{K:Ex->St->Prop}{J:St->Prop}
def uD(d:vc P GL a s (run P GL (.back J::st) K))(hb:∀t,J t->vc P GL b t (run P GL st K)):vc P GL a s (run P GL (.seq b::st) K):=
 fV d λe t h=>by
  cases e with
  |normal=>exact hb t h
  |exit _=>exact h
  |ret=>exact h
def YR(f:vc P GL (.seq a b) s (run P GL (.back J::st) K))(hb:∀t,J t->vc P GL c t (run P GL st K)):vc P GL (.seq a (.seq b c)) s (run P GL st K):=by
 refine Nu ?_;refine fV (show vc P GL a s (λe d=>e.andThen d (λd=>vc P GL b d (run P GL (.back J::st) K)) (run P GL (.back J::st) K))from f) λe t h=>?_;cases e with
 |normal=>exact Nu (uD h hb)
 |exit _=>exact h
 |ret=>exact h
def UX{K:Ex->St->Prop}(h:vc P GL (.seq (.seq a b) c) s K):vc P GL (.seq a (.seq b c)) s K:=by
 show vc P GL a s (λe d=>e.andThen d (λd=>vc P GL (.seq b c) d K) K);refine fV (show vc P GL a s (λe d=>e.andThen d (λd=>vc P GL b d (λe d=>e.andThen d (λd=>vc P GL c d K) K)) (λe d=>e.andThen d (λd=>vc P GL c d K) K))from h) λe t h=>?_;cases e with
 |normal=>exact h
 |exit _=>exact h
 |ret=>exact h
def UY(d:vc P GL a s (run P GL (.back J::st) K))(hb:∀t,J t->vc P GL b t (run P GL st K)):vc P GL (.seq a b) s (run P GL st K):=Nu (uD d hb)
end
def hC:Option Loc->Option Loc
 |some (.iK _ _)=>none
 |l=>l
def vh:(∀(s:St) E t,(s.cu E).lk t=hC (s.lk t))/\(hC none=none)/\(∀u,hC (some (.var u))=some (.var u))/\(∀a b c,hC (some (.cell a b c))=some (.cell a b c))/\(∀a b,hC (some (.iK a b))=none):=by
 refine⟨λs E t=>?_,rfl,λ_=>rfl,λ_ _ _=>rfl,λ_ _=>rfl⟩;show iP s.lk PE t=_;unfold iP hC;cases s.lk t with
 |none=>rfl
 |some l=>cases l<;>rfl
end Go.Bx
