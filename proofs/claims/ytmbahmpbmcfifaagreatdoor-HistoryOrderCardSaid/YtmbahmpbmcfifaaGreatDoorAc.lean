/- Lemmas for HistoryOrder. -/
import Derived.Test.YtmbahmpbmcfifaaGreatDoorAb
import Derived.CallsIn
import Derived.Laws.Externs
import Derived.OrdersIn
import Derived.RangeFuncSeq
import Derived.Scope
import Derived.Sort.LoopGhostIn
import Derived.Test.YtmbahmpbmcfifaaGreatDoorProg
noncomputable section
set_option linter.all false
namespace Go.Bx
open Go.Proofs
section
variable {GL:Nat->Option (List V)}{P:Program}
def aJ.C5(h:aJ)(id:Nat)(mo:MO):aJ:={h with mp:=eR h.mp id (some mo)}
def aJ.vA(h:aJ)(mo:MO):aJ:={h with mp:=eR h.mp h.Y (some mo),Y:=h.Y+1}
def aJ.wr(h:aJ)(id:Nat)(cells:List V)(off:Nat)(vs:List V):aJ:=h.set id (aO cells off vs) (uc (h.fl id) off vs.length)
def aJ.cells(h:aJ)(id off n:Nat):Option (List V):=
 if n=0 then some []else match h.box id with
  |some cs=>if off+n<=cs.length then some ((cs.drop off).take n)else none
  |none=>none
inductive MX where
 |v1 (sz:Nat) (zs:List V) (x y:eO)
 |yD (sz:Nat) (zs:List V) (x y:eO)
 |copy (sz:Nat) (x y:eO)
 |clear (sz:Nat) (zs:List V) (x:eO)
 |jv (x:eO)
 |next (x:eO)
 |entry (x:eO)
 |Wb (sz:Nat) (x y:eO)
 |Kz (x y:eO)
 |Tf (sz:Nat) (z:V) (n:Nat) (ps:List (Nat×eO))
def qs(h:aJ)(sz:Nat):V->Option (Nat×List V)
 |.sl d f=>if sz=d then some (f.length,(f.map V.cells).flatten)else none
 |.aP=>some (0,[])
 |.ms d id off n _=>if sz=d then(h.cells id off (n*sz)).map λcs=>(n,cs)else none
 |_=>none
def nf(sz:Nat):V->Option (Nat×Nat×Nat×Nat)
 |.aP=>some (0,0,0,0)
 |.ms d id off n c=>if sz=d then some (id,off,n,c)else none
 |_=>none
def kl(n:Nat)(zs:List V):List V:=(List.replicate n zs).flatten
def AF(h:aJ)(sz:Nat)(zs:List V)(id off n c m:Nat)(src:List V)(Q:V->Bool->aJ->Prop):Prop:=
 n+m<=ir/\
  if m=0 then Q (.ms sz id off n c) false h
  else if n+m<=c then∃cells,h.box id=some cells/\off+(n+m)*sz<=cells.length/\Q (.ms sz id off (n+m) c) false (h.wr id cells (off+n*sz) src)
  else∃old,h.cells id off (n*sz)=some old/\∀d,n+m<=d->Q (.ms sz h.Y 0 (n+m) d) false (h.cM (old++src++kl (d-(n+m)) zs))
def xW(h:aJ):V->Option (Nat×Nat×Nat×List Nat×List (V×V))
 |.bp id 0=>match h.mp id with
  |some (.walk m n seen)=>match h.mp m with
   |some (.map kvs)=>if kvs.length=n then some (id,m,n,seen,kvs)else none
   |_=>none
  |_=>none
 |_=>none
def zE(h:aJ):V->Bool
 |.bp id 0=>match h.mp id with
  |some (.raw (.mapIter none _ _ _))=>true
  |_=>false
 |_=>false
def Fv(h:aJ)(sz:Nat):V->V->Prop
 |.aP,.aP|.aP,.sl _ _|.sl _ _,.aP=>True
 |.aP,.ms .. |.ms ..,.aP=>True
 |.ms _ i _ n _,.ms _ k _ m _=>n=0\/m=0\/(i≠k/\(∃c r,h.box i=some (c::r))/\∃c r,h.box k=some (c::r))
 |.sl z d,.ms _ k _ m _|.ms _ k _ m _,.sl z d=>m=0\/d=[]\/(0<z/\∃c r,h.box k=some (c::r))
 |_,_=>False
def Hu(l:List UInt8)(c:UInt8):Int:=firstIdx ⟨l.toArray⟩ c
def MX.wp(s:St)(Q:V->Bool->aJ->Prop):MX->Prop
 |.v1 sz zs x y=>match nf sz (s.val x),qs s.E sz (s.val y)with
  |some (id,off,n,c),some (m,src)=>AF s.E sz zs id off n c m src Q
  |_,_=>False
 |.yD sz zs x y=>match nf sz (s.val x),s.val y with
  |some (id,off,n,c),.int .i64 m=>0<=m/\m<=ir/\AF s.E sz zs id off n c m.toNat (kl m.toNat zs) Q
  |_,_=>False
 |.copy sz x y=>match nf sz (s.val x),qs s.E sz (s.val y)with
  |some (id,off,n,_),some (m,src)=>if min m n=0 then Q (.int .i64 0) false s.E
   else∃cells,s.E.box id=some cells/\off+min m n*sz<=cells.length/\Q (.int .i64 (min m n:Nat)) false (s.E.wr id cells off (src.take (min m n*sz)))
  |_,_=>False
 |.clear sz zs x=>match nf sz (s.val x)with
  |some (id,off,n,_)=>if n=0 then Q (.hE []) false s.E
   else∃cells,s.E.box id=some cells/\off+n*sz<=cells.length/\Q (.hE []) false (s.E.wr id cells off (kl n zs))
  |none=>False
 |.jv x=>match s.val x with
  |.mp id=>∃kvs,s.E.mp id=some (.map kvs)/\Q (.bp s.E.Y 0) false (s.E.vA (.walk id kvs.length []))
  |.qy=>Q (.bp s.E.Y 0) false (s.E.vA (.raw (.mapIter none 0 #[] 0)))
  |_=>False
 |.next x=>if zE s.E (s.val x)=true then Q (.hE [.bool false]) false s.E else match xW s.E (s.val x)with
  |some (id,m,n,seen,kvs)=>((∀j,j<n->j∈seen)->Q (.hE [.bool false]) false s.E)/\
   ∀j u,j∉seen->kvs[j]?=some u->Q (.hE [.bool true,u.1,u.2]) false (s.E.C5 id (.walk m n (seen++[j])))
  |none=>False
 |.entry x=>match xW s.E (s.val x)with
  |some (_,_,_,seen,kvs)=>∃j u,seen.getLast?=some j/\kvs[j]?=some u/\Q (.hE [u.1,u.2]) false s.E
  |none=>False
 |.Wb sz x y=>Fv s.E sz (s.val x) (s.val y)/\Q (.bool false) false s.E
 |.Kz x y=>match s.val x,s.val y with
  |.str l,.int .u8 c=>0<=c/\c<256/\Q (.int .i64 (Hu l (UInt8.ofNat c.toNat))) false s.E
  |_,_=>False
 |.Tf sz z n d=>match iP s sz (List.replicate n z) d with
  |some f=>Q (.ms sz s.E.Y 0 n n) false (s.E.cM (f.map V.cells).flatten)
  |none=>False
def C6{h:aJ}{sz:Nat}{zs:List V}{id off n c m:Nat}{src:List V}{Q q:V->Bool->aJ->Prop}(f:∀v o E,Q v o E->q v o E)(r:AF h sz zs id off n c m src Q):AF h sz zs id off n c m src q:=by
 unfold AF at*
 refine⟨r.1,?_⟩;have d:=r.2;split at d
 next hm=>rw[ax hm];exact f _ _ _ d
 next hm=>
  rw[an hm];split at d
  next j=>rw[ax j];obtain⟨cs,l,p,u⟩:=d;exact⟨cs,l,p,f _ _ _ u⟩
  next j=>rw[an j];obtain⟨old,l,p⟩:=d;exact⟨old,l,λy t=>f _ _ _ (p y t)⟩
def MX.mono{s:St}{Q d:V->Bool->aJ->Prop}(hq:∀v o E,Q v o E->d v o E):∀{m:MX},m.wp s Q->m.wp s d:=by
 intro m h;cases m with
 |v1 sz zs x y=>simp only[MX.wp]at*;split at h<;>first|exact C6 hq h|exact h
 |yD sz zs x y=>simp only[MX.wp]at*;split at h<;>first|exact⟨h.1,h.2.1,C6 hq h.2.2⟩|exact h
 |copy sz x y=>
  exact Ww
 |clear sz zs x=>
  exact Ww
 |jv x=>
  simp only[MX.wp]at*
  split at h
  .obtain⟨kvs,e1,e2⟩:=h;exact⟨kvs,e1,hq _ _ _ e2⟩
  .exact hq _ _ _ h
  .exact h
 |next x=>
  simp only[MX.wp]at*
  split at h
  next hc=>rw[ax hc];exact hq _ _ _ h
  next hc=>
   rw[an hc];split at h
   .exact⟨λe=>hq _ _ _ (h.1 e),λj u e1 e2=>hq _ _ _ (h.2 j u e1 e2)⟩
   .exact h
 |entry x=>
  simp only[MX.wp]at*
  split at h
  .obtain⟨j,u,e1,e2,e3⟩:=h;exact⟨j,u,e1,e2,hq _ _ _ e3⟩
  .exact h
 |Wb sz x y=>simp only[MX.wp]at*;exact⟨h.1,hq _ _ _ h.2⟩
 |Kz x y=>simp only[MX.wp]at*;split at h<;>first|exact⟨h.1,h.2.1,hq _ _ _ h.2.2⟩|exact h
 |Tf sz z n f=>simp only[MX.wp]at*;split at h<;>first|exact hq _ _ _ h|exact h
def PP(P:Program)(GL:ak)(hs:List Nat)(o:Oper):Option MX:=
 match o.op with
 |.buildSlice t n parts=>match P.underlying t with
  |some (.slice e)=>match nk P e,CT P e,uh GL parts.toList with
   |some sz,some z,some j=>if n*sz<=16777216/\0<sz/\jR sz z=true then some (.Tf sz z n j)else none
   |_,_,_=>none
  |_=>none
 |.range t x=>match P.underlying t with
  |some (.map _ _)=>(eC GL x).map .jv
  |_=>none
 |.next x isS=>if isS then none else(eC GL x).map .next
 |.entry x=>(eC GL x).map .entry
 |.call c=>match c.callee,c.argTypes.toList,c.args.toList with
  |.builtin .append,[t,u],[x,y]=>match P.underlying t,P.underlying u,eC GL x,eC GL y with
   |some (.slice e),some d,some x,some y=>match nk P e,zeroV P e with
    |some (sz+1),some zs=>if 65536<P.bytesOf e\/zs.length≠sz+1 then none else if Ao d=true then some (.yD (sz+1) zs x y)else some (.v1 (sz+1) zs x y)
    |_,_=>none
   |_,_,_,_=>none
  |.builtin .copy,t::_,[x,y]=>match P.underlying t,eC GL x,eC GL y with
   |some (.slice e),some x,some y=>match nk P e with
    |some (sz+1)=>some (.copy (sz+1) x y)
    |_=>none
   |_,_,_=>none
  |.builtin .clear,[t],[x]=>match P.underlying t,eC GL x with
   |some (.slice e),some x=>match nk P e,zeroV P e with
    |some (sz+1),some zs=>if zs.length=sz+1 then some (.clear (sz+1) zs x)else none
    |_,_=>none
   |_,_=>none
  |.value (.func f),_,[x,y]=>match P.funcs[f]?,eC GL x,eC GL y with
   |some fn,some x,some y=>
    if fn.body.isNone=true then
     if fn.name=Tryz.f334.name/\fn.origin= "" then some (.Kz x y)
     else if fn.name=Tryz.f337.name/\fn.origin= "slices.overlaps" then
      match fn.params.toList with
      |t::_=>match P.underlying t with
       |some (.slice e)=>match nk P e with
        |some (sz+1)=>some (.Wb (sz+1) x y)
        |_=>none
       |_=>none
      |_=>none
     else none
    else none
   |_,_,_=>none
  |_,_,_=>none
 |_=>none
section
variable {g:aW}{s:St}{a:Act}{w:World}{o:Oper}{hs:List Nat}
def AG(GL:ak)(P:Program)(o:Oper)(g:aW)(s:St)(a:Act)(w:World)(Q:V->Bool->aJ->Prop):Prop:=
 ∃v bL j,Q v bL j/\∃x d f,((execOp a.eval o).run P w=.ok (.value x) d\/((execOp a.eval o).run P w=.ok .skip d/\x=undef))/\Rel GL f (s.ct j) a d/\Step g w f d/\VR f v x/\(bL=true->∀l,dS f d l v x)
def fK.nil{g:aW}:fK g [] []:=⟨rfl,bR⟩
def fK.append{g:aW}{cs ds:List V}{xs ys:List Value}(h:fK g cs xs)(p:fK g ds ys):fK g (cs++ds) (xs++ys):=by
 refine⟨by simp[h.1,p.1],λj c x f d=>?_⟩;rw[fI]at f d;rw[<-h.1]at d;split at f
 next l=>rw[ax l]at d;exact h.2 j c x f d
 next l=>rw[an l]at d;exact p.2 _ c x f d
def ut{g:aW}{sz:Nat}:∀{xs:List V} {p:List Value},ju g sz xs p->fK g (xs.map V.cells).flatten p/\(∀c∈(xs.map V.cells).flatten,c.one=true)/\(xs.map V.cells).flatten.length=xs.length*sz
 |[],p,h=>by
  have:p=[]:=by have:=h.len;simpa using this
  subst this;exact⟨.nil,by simp,by simp⟩
 |x::xs,p,h=>by
  have hx:=fh (h.ok 0 x rfl);have hlen:=h.len;simp only[aM,dH]at hlen;have l:ju g sz xs (p.drop sz):=⟨by simp;omega,λi v e=>h.ok (i+1) v (by simpa using e),λi v j c y q d r=>by
   rw[c0]at r;refine h.cell (i+1) v j c y (by simpa using q) d ?_;rw[dH,<-r];congr 1;omega⟩
  obtain⟨t,u,z⟩:=ut l;have E:p=p.take sz++p.drop sz:=(cu sz p).symm;refine⟨?_,?_,?_⟩
  .rw[E];simp only[bw,dk];refine fK.append ⟨by rw[hx.1];simp;omega,λj c y q d=>?_⟩ t;rw[dA]at d;split at d
   .exact(h.cell 0 x j c y rfl q (by simpa using d)).1
   .cases d
  .intro c f;simp only[bw,dk,aR]at f;rcases f with f|f
   .exact bP.1 hx.2 c f
   .exact u c f
  .simp only[bw,dk,ae,hx.1,z,aM,dH];omega
def wO(R:Rel GL g s a w){id off n:Nat}{cs:List V}(h:s.E.cells id off n=some cs):(∀c∈cs,c.one=true)/\cs.length=n/\
 ∃ys:List Value,fK g cs ys/\∀b,g.hb id=some b->∀k,k<n->w.cell? (cl b (off+k))=some (ys.getD k undef):=by
 unfold aJ.cells at h;split at h
 next p=>cases h;exact⟨bR,p.symm,[],.nil,λb _ k f=>av⟩
 .split at h
  next cells q=>
   split at h
   next hle=>
    cases h;obtain⟨b,hb,dZ⟩:=R.heap.box id cells q;have get:∀(j:Nat) c,((cells.drop off).take n)[j]?=some c->cells[off+j]?=some c/\j<n:=by
     intro j c e;exact WP
    refine⟨λc r=>?_,by simp;omega,(List.range n).map λk=>(w.cell? (cl b (off+k))).getD undef,⟨by simp;omega,λj c x t l=>?_⟩,λK e k f=>?_⟩
    .obtain⟨j,u⟩:=fZ.1 r;exact(dZ.cell _ c (get j c u).1).1
    .obtain⟨z,D⟩:=get j c t;obtain⟨_,y,d,H⟩:=dZ.cell _ c z;simp[D,d]at l;subst l;exact H
    .cases (hb.symm.trans e);obtain⟨_,y,d,_⟩:=dZ.cell (off+k) cells[off+k] bR;simp[f,d]
   .cases h
  .cases h
def rz{sz n:Nat}{b off c:Nat}{l:Nat}{ys:List Value}(W:World)(f:ys.length=n*sz)(h:∀k,k<n*sz->W.cell? (cl b (off+k))=some (ys.getD k undef)):
 (Builtin.firstCells sz n (.slice (some ⟨b,off,none⟩) l c)).run P W=.ok ys.toArray W:=by
 simp only[Builtin.firstCells];rw[run_loadCells P _ W ⟨b,off,none⟩ (λk=>ys.getD k undef) rfl h];congr 1;apply jG;simp only[lT];apply iX;intro i;simp only[bB];by_cases d:i<n*sz
 .rw[lQ d];simp[ap,show i<ys.length by omega]
 .rw[b0 (by simp;omega),b0 av];rfl
def I0(R:Rel GL g s a w){sz:Nat}{v:V}{x:Value}{m:Nat}{src:List V}(h:qs s.E sz v=some (m,src))(hx:ER g v x):∃q:List Value,fK g src q/\(∀c∈src,c.one=true)/\src.length=m*sz/\
 (∀W:World,(Builtin.lenOf x).run P W=.ok m W)/\∀W:World,(∀ad,W.cell? ad=w.cell? ad)->∀k,k<=m->(Builtin.firstCells sz k x).run P W=.ok (q.take (k*sz)).toArray W:=by
 cases v<;>simp only[qs]at h<;>first|(cases h;done)|skip
 next t a0=>
  split at h
  next l=>
   subst l;simp only[co,eg]at h;obtain⟨rfl,rfl⟩:=h;obtain⟨p,u,a1,base,cap,rfl,Q,hb,_⟩:=vW (P:=P) R hx;obtain⟨ab,ac,ai⟩:=ut u;refine⟨p,ab,ac,ai,λW=>rfl,λW f k d=>?_⟩;cases base with
   |none=>
    rcases hx.sl with⟨rfl,y⟩|⟨_,_,_,y,_⟩
    .simp at d;subst d;simp[Builtin.firstCells]
    .cases y
   |some ad=>
    obtain⟨hs,aA⟩:=hb ad rfl;have z:k*sz<=p.length:=by rw[u.len];exact cj _ d
    obtain⟨b,off,sp⟩:=ad;simp only at hs;subst hs;refine rz W (by simp;omega) (λj r=>?_);rw[f,R.gA.gZ _ _ _ (aA j p[j] bR)];simp[ap,r,show j<p.length by omega]
  .cases h
 .simp only[co,eg]at h;obtain⟨rfl,rfl⟩:=h;rw[hx.aP];exact⟨[],.nil,bR,bR,λW=>rfl,λW f k d=>by simp[Builtin.firstCells]⟩
 next t id off n c=>
  split at h
  next l=>
   subst l;obtain⟨cs,D,e⟩:=dn h;simp only[eg]at e;obtain⟨rfl,rfl⟩:=e;obtain⟨aB,H,K,L,aC⟩:=wO R D;refine⟨K,L,aB,H,λW=>?_,λW f k d=>?_⟩
   .rcases hx.ms with⟨b,_,rfl,_⟩|⟨rfl,rfl,p,rfl,N⟩<;>rfl
   .rcases hx.ms with⟨b,hb,rfl,_⟩|⟨rfl,rfl,p,rfl,N⟩
    .have z:k*sz<=m*sz:=cj _ d;have aD:K.length=m*sz:=by rw[<-L.1,H]
     refine rz W (by simp;omega) (λj r=>?_);rw[f,aC b hb j av];simp[ap,r]
    .have:k=0:=av;subst this;exact WN
  .cases h
def Rel.wr(R:Rel GL g s a w){id off b:Nat}{cells vs:List V}{xs:List Value}{w':World}(f:s.E.box id=some cells)(hb:g.hb id=some b)(u:off+vs.length<=cells.length)(d:fK g vs xs)(y:∀c∈vs,c.one=true)(p:oP w w' b off xs):
 Rel GL g (s.ct (s.E.wr id cells off vs)) a w'/\Step g w g w':=by
 have D:=R.jY (off:=off) (xs:=xs) (vs:=vs) f hb u d.1.symm (λk v z q H=>⟨y v (bT q),d.2 k v z q H⟩) p;obtain⟨N,r,dZ⟩:=R.heap.box id cells f;cases (r.symm.trans hb);refine⟨?_,Step.wrote (ow:=.dZ id) p (λk Q=>dZ.bL _ (by have:=d.1;omega)) bR bR⟩;have K:=D.same;have e:(s.jY id off cells vs).ct (s.jY id off cells vs).E=s.ct (s.E.wr id cells off vs):=by
  simp only[St.ct,St.jY,St.mk.injEq,cF,bK,aJ.wr];funext t;simp only[iO];cases s.lk t with
  |none=>rfl
  |some l=>
   cases l with
   |iI i j=>by_cases L:zB id off vs.length (.iI i j)=true<;>simp[L,Pn]
   |_=>simp[zB,Pn]
 rw[<-e];exact K
def Hv(R:Rel GL g s a w){id off b:Nat}{cells vs:List V}{xs:List Value}(f:s.E.box id=some cells)(hb:g.hb id=some b)(r:off+vs.length<=cells.length)(d:fK g vs xs)(l:∀c∈vs,c.one=true):
 ∃w',(storeCells ⟨b,off,none⟩ xs).run P w=.ok () w'/\Rel GL g (s.ct (s.E.wr id cells off vs)) a w'/\Step g w g w':=by
 obtain⟨t,p,dZ⟩:=R.heap.box id cells f;obtain rfl:=au (p.symm.trans hb);have Q:=d.1;obtain⟨w',y,z⟩:=og P xs 0 w ⟨t,off,none⟩ rfl (λx hx=>by
  obtain⟨j,q⟩:=fZ.1 hx;have N:=bZ q;have D:vs[j]?=some vs[j]:=bR;exact((d.2 j _ x D q).one (l _ bR)).2) (λk ab=>by
  have:off+0+k<cells.length:=av;obtain⟨_,u,H,_⟩:=dZ.cell (off+0+k) _ (aa this);exact⟨⟨u,H⟩,dZ.free _ this⟩)
 obtain⟨K,L⟩:=R.wr (off:=off) f hb r d l z;exact⟨w',y,K,L⟩
def yE(n:Nat)(zs:List V):(kl n zs).length=n*zs.length:=by simp[kl]
def AH{n:Nat}{zs:List V}(h:∀c∈zs,c.one=true):∀c∈kl n zs,c.one=true:=by
 intro c d;simp only[kl,nt,mj]at d;obtain⟨l,⟨_,rfl⟩,f⟩:=d;exact h c f
def xX(z:Array Value)(n:Nat)(d:0<z.size):(Builtin.zeroCells z n).toList=(List.replicate n z.toList).flatten:=by
 have:=range_zero n z.size z rfl d;simpa[Builtin.zeroCells]using this
def v2{g:aW}{zs:List V}{z:Value}(d:fK g zs z.cells.toList)(E:0<zs.length)(n:Nat):fK g (kl n zs) (Builtin.zeroCells z.cells n).toList:=by
 have f:0<z.cells.size:=by have:=d.1;simp at this;omega
 rw[xX _ _ f];induction n with
 |zero=>exact .nil
 |succ n ih=>
  simp only[kl,fR,dk];exact d.append ih
def AI{g:aW}{sz:Nat}{v:V}{x:Value}{id off n c:Nat}(h:nf sz v=some (id,off,n,c))(hx:ER g v x):
 n<=c/\((∃b,g.hb id=some b/\x=.slice (some ⟨b,off,none⟩) n c)\/(n=0/\c=0/\∃p,x=.slice p 0 0/\∀a:Addr,p=some a->a.spot=none)):=by
 cases v<;>simp only[nf]at h<;>first|(cases h;done)|skip
 .simp only[co,eg]at h;obtain⟨rfl,rfl,rfl,rfl⟩:=h;exact⟨ao _,.inr ⟨rfl,rfl,none,hx.aP,bR⟩⟩
 .split at h
  .simp only[co,eg]at h;obtain⟨rfl,rfl,rfl,rfl⟩:=h;rcases hx.ms with⟨b,j,d,l⟩|⟨rfl,rfl,p,d,f⟩
   .exact⟨l,.inl ⟨b,j,d⟩⟩
   .exact⟨ao _,.inr ⟨rfl,rfl,p,d,f⟩⟩
  .cases h
def Fw{ts:Array TypeId}{t u e:TypeId}{R:IntKind}{ty:TypeId}{sz:Nat}{base:Option Addr}{len cap n:Nat}{p:List Value}{zv:Value}
 (h1:ts[0]?=some t) (h2:ts[1]?=some u) (ab:P.underlying t=some (.slice e)) (ac:P.underlying u=some (.int R)) (q:nk P e=some (sz+1)) (K:P.bytesOf e<=65536)
 (L:(P.info? e).bind (·.zero)=some zv) (ad:zv.cells.size=sz+1)
 (hold:¬len+n<=cap->∀W:World,(∀r,W.cell? r=w.cell? r)->(Builtin.firstCells (sz+1) len (.slice base len cap)).run P W=.ok p.toArray W) (y:len+n<=ir):
 (Builtin.append_ ts ty #[.slice base len cap,.int .i64 n]).run P w=
  if len+n<=cap then(As base (len*(sz+1)) (Builtin.zeroCells zv.cells n).toList (.slice base (len+n) cap)).run P w
  else .ok (.slice (some (cl w.heap.size 0)) (len+n) ((Question.appendCap (len+n) cap e).cut (w.tape w.drawn (.appendCap (len+n) cap e))))
   (w.drew.alloc (.cells (p.toArray++Builtin.zeroCells zv.cells n++Builtin.zeroCells zv.cells ((Question.appendCap (len+n) cap e).cut (w.tape w.drawn (.appendCap (len+n) cap e))-(len+n))) e)):=by
 unfold Builtin.append_;rw[h1,h2];simp only[fC,ew,ey];rw[Sem.run_bind,run_underlying ab,Result.andThen_ok];simp only[];rw[Sem.run_bind,fj q,Result.andThen_ok,Sem.run_bind,run_underlying ac,Result.andThen_ok];cases D:P.info? e with
 |none=>simp[nk,D]at q
 |some i=>
  have f:∀W:World,(typeInfo e).run P W=.ok i W:=λW=>by simp[typeInfo,D]
  have G4:i.bytes<=65536:=by simpa[Program.bytesOf,D]using K
  have H:IntKind.i64.max=9223372036854775807:=dt;have Q:len+n<=1073741824:=y;have l:IntKind.i64.wrap (n:Int)=n:=by
   exact aay
  simp only[pure_bind,bQ,asInt,asIntOf,l,bO,bM,cE];rw[an av];rw[Sem.run_bind,f,Result.andThen_ok];have ai:n*i.bytes<=1073741824*65536:=oT av G4;rw[an av];simp only[pure_bind,bX];have j:∀W:World,(if n*(sz+1)=0 then pure #[]else(do let z<-zeroValue e;pure (Builtin.zeroCells z.cells n)):Sem (Array Value)).run P W=.ok (Builtin.zeroCells zv.cells n) W:=by
   intro W;by_cases N:n*(sz+1)=0
   .have:n=0:=by rcases Nat.mul_eq_zero.1 N with h|h<;>omega
    subst this;simp[Builtin.zeroCells]
   .rw[an N,Sem.run_bind,lK L,Result.andThen_ok];rfl
  by_cases d:len+n<=cap
  .rw[ax d,ax d,Sem.run_bind,j,Result.andThen_ok];cases base with
   |none=>rfl
   |some r=>rfl
  .rw[an d,an d];rw[Sem.run_bind,f,Result.andThen_ok,an (by rw[H];omega)];rw[Sem.run_bind,f,Result.andThen_ok];have aA:Builtin.nextslicecap (len+n) cap*i.bytes<=2^48:=by
    exact WB
   rw[an av,Sem.run_bind,run_choose];simp only[Question.forced,bM,cE,Result.andThen_ok];rw[Sem.run_bind,f,Result.andThen_ok,Sem.run_bind,run_askRoom,Result.andThen_ok,Sem.run_bind];rw[show({w with drawn:=w.drawn+1}:World)=w.drew from rfl,hold d w.drew (λ_=>rfl),Result.andThen_ok,Sem.run_bind,j,Result.andThen_ok,Sem.run_bind,lK L,Result.andThen_ok];simp[newRow,cl]<;>rfl
def I1{e:TypeId}{sz id off n c m:Nat}{zs src:List V}{x:Value}{q zc:List Value}{Q:V->Bool->aJ->Prop}{zv:Value}{aD:V}(hb:nf (sz+1) aD=some (id,off,n,c))(hx:ER g aD x)(R:Rel GL g s a w)
 (aA:fK g src q) (a0:∀c∈src,c.one=true) (a1:src.length=m*(sz+1)) (a2:fK g zs zv.cells.toList) (a3:∀c∈zs,c.one=true) (bU:zs.length=sz+1)
 (f:AF s.E (sz+1) zs id off n c m src Q)
 (z:∀(base:Option Addr)(p:List Value),x=.slice base n c->(¬n+m<=c->∀W:World,(∀ad,W.cell? ad=w.cell? ad)->(Builtin.firstCells (sz+1) n (.slice base n c)).run P W=.ok p.toArray W)->n+m<=ir->
  (execOp a.eval o).run P w=(if n+m<=c then(As base (n*(sz+1)) q (.slice base (n+m) c)).run P w
   else .ok (.slice (some (cl w.heap.size 0)) (n+m) ((Question.appendCap (n+m) c e).cut (w.tape w.drawn (.appendCap (n+m) c e))))
    (w.drew.alloc (.cells (p.toArray++q.toArray++Builtin.zeroCells zv.cells ((Question.appendCap (n+m) c e).cut (w.tape w.drawn (.appendCap (n+m) c e))-(n+m))) e))).andThen λv w'=>.ok (.value v) w'):
 AG GL P o g s a w Q:=by
 obtain⟨ai,u⟩:=AI hb hx;obtain⟨D,f⟩:=f;have hold:∀{old},s.E.cells id off (n*(sz+1))=some old->∃(base:Option Addr)(p:List Value),x=.slice base n c/\fK g old p/\(∀c∈old,c.one=true)/\old.length=n*(sz+1)/\∀W:World,(∀ad,W.cell? ad=w.cell? ad)->(Builtin.firstCells (sz+1) n (.slice base n c)).run P W=.ok p.toArray W:=by
  intro old aB;obtain⟨L,K,a8,a4,a9⟩:=wO R aB;rcases u with⟨b,r,rfl⟩|⟨rfl,rfl,p,rfl,N⟩
  .refine⟨_,a8,rfl,a4,L,K,λW a5=>?_⟩;refine rz W (by rw[<-a4.1,K]) (λj bi=>?_);rw[a5];exact a9 b r j bi
  .simp[aJ.cells]at aB;subst aB;refine⟨p,[],rfl,.nil,bR,bR,λW a5=>?_⟩;exact WN
 by_cases hm:m=0
 .subst hm;rw[ax rfl]at f;have a6:q=[]:=by have:=aA.1;rw[a1]at this;exact bJ.1 av
  subst a6;have key:∀base,x=.slice base n c->(execOp a.eval o).run P w=.ok (.value (.slice base n c)) w:=by
   intro base ab;rw[z base [] ab (λh=>absurd ai h) D,ax av];cases base<;>simp[As,storeCells]
  rcases u with⟨b,r,rfl⟩|⟨rfl,rfl,p,rfl,N⟩
  .exact⟨_,_,_,f,_,w,g,.inl (key _ rfl),R.same,Step.refl g w,.ms _ _ _ _ _ b r ai,bR⟩
  .exact⟨_,_,_,f,_,w,g,.inl (key _ rfl),R.same,Step.refl g w,.Fj _ _ _ _ N,bR⟩
 .rw[an hm]at f;by_cases l:n+m<=c
  .rw[ax l]at f;obtain⟨cells,dZ,hle,f⟩:=f;rcases u with⟨b,r,rfl⟩|⟨rfl,rfl,p,rfl,N⟩
   .obtain⟨w',aC,L,K⟩:=Hv (P:=P) (off:=off+n*(sz+1)) R dZ r (by rw[a1,cn,<-dK];exact hle) aA a0;refine⟨_,_,_,f,_,w',g,.inl ?_,L,K,.ms _ _ _ _ _ b r l,bR⟩;rw[z _ [] rfl (λh=>absurd l h) D,ax l];simp only[As,Sem.run_bind];rw[add_eq (a:=⟨b,off,none⟩) rfl];simp only[cl,aC,Result.andThen_ok,Sem.run_pure]
   .omega
  .rw[an l]at f;obtain⟨old,a7,f⟩:=f;obtain⟨base,p,ab,bo,br,b2,bs⟩:=hold a7
   let H:=(Question.appendCap (n+m) c e).cut (w.tape w.drawn (.appendCap (n+m) c e))
   have ac:n+m<=H:=by simp[H,Question.cut]
   have bu:=v2 a2 av (H-(n+m));obtain⟨bv,aC,L,K⟩:=zD (t:=e) (xs:=p.toArray++q.toArray++Builtin.zeroCells zv.cells (H-(n+m))) R.drew (cells:=old++src++kl (H-(n+m)) zs) (by
    simpa using (bo.append aA).append bu) (by
    intro d y;simp only[aR]at y;rcases y with(y|y)|y
    .exact br d y
    .exact a0 d y
    .exact AH a3 d y)
   refine⟨_,_,_,f H ac,.slice (some (cl w.heap.size 0)) (n+m) H,_,bv,.inl ?_,aC,(Step.drew g w).trans L,?_,bR⟩
   .rw[z base p ab (λ_=>bs) D,an l];rfl
   .cases K with|bp _ _ b hb=>exact .ms _ _ _ _ _ _ hb ac
def AJ{m:Sem Value}{x:Value}{w w':World}(h:m.run P w=.ok x w'):(do pure (Next.value (<-m)):Sem Next).run P w=.ok (.value x) w':=by rw[Sem.run_bind,h];rfl
def pi{c:Call}{b:Builtin}{xs:List Operand}{f:Array TypeId->TypeId->Array Value->Sem Value}(hop:o.op=.call c)(j:c.callee=.builtin b)(d:c.args.toList=xs)
 (hb:∀cs ys,builtin b c.argTypes o.type cs ys=(do pure (.value (<-f c.argTypes o.type ys)))):
 (execOp a.eval o).run P w=((f c.argTypes o.type (xs.map a.eval).toArray).run P w).andThen λv w'=>.ok (.value v) w':=by
 unfold execOp;rw[hop];simp only[resolve,j,pure_bind,invoke];have:c.args.map a.eval=(xs.map a.eval).toArray:=by apply jG;simp[<-d]
 rw[this,hb,Sem.run_bind];rfl
def PQ{c:Call}{t u e:TypeId}{d:TypeDesc}{x y:Operand}{L J:eO}{sz:Nat}{zs:List V}{Q:V->Bool->aJ->Prop}(hop:o.op=.call c)(r:c.callee=.builtin .append)(l:c.argTypes.toList=[t,u])(f:c.args.toList=[x,y])
 (aC:P.underlying t=some (.slice e)) (aD:P.underlying u=some d) (hx:eC GL x=some L) (a0:eC GL y=some J) (N:nk P e=some (sz+1)) (a1:zeroV P e=some zs) (ab:∀k,d≠.int k) (ac:P.bytesOf e<=65536) (ad:zs.length=sz+1)
 (j:(MX.v1 (sz+1) zs L J).wp s Q) (R:Rel GL g s a w):AG GL P o g s a w Q:=by
 obtain⟨bo,a2,a3,a4,br⟩:=oj a1 g;have hX:=cv R hx;have a5:=cv R a0;have z:c.argTypes[0]?=some t:=by rw[<-di,l];rfl
 have D:c.argTypes[1]?=some u:=by rw[<-di,l];rfl
 simp only[MX.wp]at j;split at j
 next id off n a6 m src hb hs=>obtain⟨q,q1,a7,ai,a8,a9⟩:=I0 (P:=P) R hs a5;have aA:q.take (m*(sz+1))=q:=az (by rw[<-q1.1,ai];exact ao _);refine I1 (e:=e) (zc:=[]) hb hX R q1 a7 ai a3 a4 ad j (λbase p aB hold H=>?_);have K:=vX (ty:=o.type) (p:=p) (q:=q) (base:=base) (len:=n) (cap:=a6) (n:=m) z D aC aD ab N ac a2 (a8 w) (λW bi=>by have:=a9 W bi m (ao _);rwa [aA]at this) hold H;rw[pi hop r f (λ_ _=>rfl)];simp only[bw,cV,aB];rw[K]
 .exact j.elim
def ME{c:Call}{t u e:TypeId}{aB:IntKind}{x y:Operand}{L J:eO}{sz:Nat}{zs:List V}{Q:V->Bool->aJ->Prop}(hop:o.op=.call c)(q:c.callee=.builtin .append)(l:c.argTypes.toList=[t,u])(j:c.args.toList=[x,y])
 (aC:P.underlying t=some (.slice e)) (aD:P.underlying u=some (.int aB)) (hx:eC GL x=some L) (a0:eC GL y=some J) (N:nk P e=some (sz+1)) (a1:zeroV P e=some zs) (ab:P.bytesOf e<=65536) (f:zs.length=sz+1)
 (d:(MX.yD (sz+1) zs L J).wp s Q) (R:Rel GL g s a w):AG GL P o g s a w Q:=by
 obtain⟨a2,a3,r,ac,a5⟩:=oj a1 g;have hX:=cv R hx;have ad:=cv R a0;have z:c.argTypes[0]?=some t:=by rw[<-di,l];rfl
 have D:c.argTypes[1]?=some u:=by rw[<-di,l];rfl
 have ai:a2.cells.size=sz+1:=by have:=r.1;rw[f]at this;simpa using this.symm
 simp only[MX.wp]at d;split at d
 next id off n a4 m hb hs=>obtain⟨a6,hm,d⟩:=d;rw[hs]at ad;obtain⟨k,rfl⟩:∃k:Nat,m=k:=⟨m.toNat,av⟩;simp only[bX]at d;refine I1 (e:=e) (zc:=[]) hb hX R (v2 r av k) (AH ac) (by rw[yE,f]) r ac f d (λbase p aA hold H=>?_);have K:=Fw (ty:=o.type) (p:=p) (base:=base) (len:=n) (cap:=a4) (n:=k) z D aC aD N ab a3 ai hold H;rw[pi hop q j (λ_ _=>rfl)];simp only[bw,cV,aA,ad.int];rw[K]
 .exact d.elim
def PR{c:Call}{t e:TypeId}{ts:List TypeId}{x y:Operand}{ab J:eO}{sz:Nat}{Q:V->Bool->aJ->Prop}(hop:o.op=.call c)(K:c.callee=.builtin .copy)(ac:c.argTypes.toList=t::ts)(D:c.args.toList=[x,y])
 (aB:P.underlying t=some (.slice e)) (hx:eC GL x=some ab) (aC:eC GL y=some J) (ad:nk P e=some (sz+1))
 (f:(MX.copy (sz+1) ab J).wp s Q) (R:Rel GL g s a w):AG GL P o g s a w Q:=by
 have hX:=cv R hx;have aD:=cv R aC;have L:c.argTypes[0]?=some t:=by rw[<-di,ac];rfl
 simp only[MX.wp]at f;split at f
 next id off n a0 m src hb hs=>
  obtain⟨a9,r⟩:=AI hb hX;obtain⟨q,q1,a1,a2,a3,a4⟩:=I0 (P:=P) R hs aD;have j:∀(base:Option Addr)(l:World),a.eval x=.slice base n a0->(match base with|some ai=>(storeCells ai (q.take (min m n*(sz+1)))).run P w=.ok () l|none=>l=w)->(execOp a.eval o).run P w=.ok (.value (goInt (min m n:Nat))) l:=by
   intro base l d u;rw[pi hop K D (λ_ _=>rfl)];simp only[bw,cV,d];unfold Builtin.copy_;rw[L];simp only[fC,ew,ey];rw[Sem.run_bind,run_underlying aB,Result.andThen_ok];simp only[];rw[Sem.run_bind,a3,Result.andThen_ok,Sem.run_bind,fj ad,Result.andThen_ok,Sem.run_bind];have N:Nat.min m n=min m n:=rfl;rw[N,a4 w (λ_=>rfl) _ (l3 _ _),Result.andThen_ok];cases base with
   |none=>simp only at u;subst u;rfl
   |some ai=>simp only at u;simp only[Sem.run_bind,lT,u,Result.andThen_ok,Sem.run_pure]
  split at f
  next z=>
   refine⟨_,_,_,f,goInt (min m n:Nat),w,g,.inl ?_,R.same,Step.refl g w,by rw[z];exact .int _ _,bR⟩;rcases r with⟨b,H,d⟩|⟨rfl,rfl,p,d,aA⟩
   .exact j _ w d (by simp[z,storeCells])
   .refine j p w d ?_;cases p<;>simp[z,storeCells]
  next z=>
   obtain⟨cells,dZ,hle,f⟩:=f;rcases r with⟨b,H,d⟩|⟨rfl,rfl,p,d,aA⟩
   .have bi:min m n*(sz+1)<=src.length:=by rw[a2];exact cj _ (l3 _ _)
    obtain⟨l,a5,a6,a7⟩:=Hv (P:=P) (off:=off) R dZ H (vs:=src.take (min m n*(sz+1))) (xs:=q.take (min m n*(sz+1))) (by simp;omega) (q1.take _) (λc a8=>a1 c (eE a8));exact⟨_,_,_,f,_,l,g,.inl (j _ l d a5),a6,a7,.int _ _,bR⟩
   .simp at z
 .exact f.elim
def MF{c:Call}{t e:TypeId}{x:Operand}{K:eO}{sz:Nat}{zs:List V}{Q:V->Bool->aJ->Prop}(hop:o.op=.call c)(D:c.callee=.builtin .clear)(L:c.argTypes.toList=[t])(u:c.args.toList=[x])
 (ai:P.underlying t=some (.slice e)) (hx:eC GL x=some K) (aA:zeroV P e=some zs) (N:zs.length=sz+1)
 (j:(MX.clear (sz+1) zs K).wp s Q) (R:Rel GL g s a w):AG GL P o g s a w Q:=by
 obtain⟨ab,aB,aC,aD,a5⟩:=oj aA g;have hX:=cv R hx;have H:c.argTypes[0]?=some t:=by rw[<-di,L];rfl
 simp only[MX.wp]at j;split at j
 next id off n a0 hb=>
  obtain⟨a4,r⟩:=AI hb hX;have q:∀(base:Option Addr)(l:World),a.eval x=.slice base n a0->(match base with|some ac=>if n=0 then l=w else(storeCells ac (Builtin.zeroCells ab.cells n).toList).run P w=.ok () l|none=>l=w)->(execOp a.eval o).run P w=.ok (.value (.tuple #[])) l:=by
   intro base l d f;rw[pi hop D u (λ_ _=>rfl)];simp only[bw,cV,d];unfold Builtin.clear_;rw[H];simp only[fC,ew];rw[Sem.run_bind,run_underlying ai,Result.andThen_ok];cases base with
   |none=>simp only at f;subst f;rfl
   |some ac=>
    cases n with
    |zero=>simp only[bQ]at f;subst f;rfl
    |succ n=>
     simp only[Nat.succ_ne_zero,cE]at f;simp only[Sem.run_bind,lK aB,Result.andThen_ok,f,Sem.run_pure]
  split at j
  next y=>
   refine⟨_,_,_,j,_,w,g,.inl ?_,R.same,Step.refl g w,.hE [] #[] rfl bR,bR⟩;rcases r with⟨b,z,d⟩|⟨rfl,rfl,p,d,ad⟩
   .exact q _ w d (by simp[y])
   .refine q p w d ?_;cases p<;>simp
  next y=>
   obtain⟨cells,dZ,hle,j⟩:=j;rcases r with⟨b,z,d⟩|⟨rfl,rfl,p,d,ad⟩
   .obtain⟨l,a1,a2,a3⟩:=Hv (P:=P) (off:=off) R dZ z (vs:=kl n zs) (xs:=(Builtin.zeroCells ab.cells n).toList) (by rw[yE,N];exact hle) (v2 aC av n) (AH aD);exact⟨_,_,_,j,_,l,g,.inl (q _ l d (by simp only[an y];exact a1)),a2,a3,.hE [] #[] rfl bR,bR⟩
   .exact absurd rfl y
 .exact j.elim
def mc(w:World)(b:Nat)(ob:Obj):World:={w with heap:=w.heap.setIfInBounds b ob}
section mc
variable {b:Nat}{ob pg:Obj}
def zx(hb:w.heap[b]?=some ob):(mc w b pg).heap[b]?=some pg:=by
 have:b<w.heap.size:=(cD.1 hb).1;simp[mc,this]
def kx{d:Nat}(h:d≠b):(mc w b pg).heap[d]?=w.heap[d]?:=by
 simp only[mc,kh (hU h)]
def u9(hb:w.heap[b]?=some ob)(hi:uZ ob=false)(hi':uZ pg=false)(b' o:Nat):(mc w b pg).cell? (cl b' o)=w.cell? (cl b' o):=by
 unfold World.cell?;exact Wy
def q9(hb:w.heap[b]?=some ob)(hi:uZ ob=false)(hi':uZ pg=false)(b' o:Nat):(mc w b pg).frozen? (cl b' o)=w.frozen? (cl b' o):=by
 unfold World.frozen?;exact Wy
def r1:(mc w b pg).heap.size=w.heap.size:=by simp[mc]
def Rel.mc(R:Rel GL g s a w){id:Nat}{Wc:MO}(hb:w.heap[b]?=some ob)(ad:uZ ob=false)(H:uZ pg=false)(p:g.bL b 0=.oS id)(dV:g.hb id=some b)(hm:MR g Wc pg):
 Rel GL g (s.ct (s.E.C5 id Wc)) a (mc w b pg)/\Step g w g (mc w b pg):=by
 have z:=u9 (pg:=pg) hb ad H;have N:=q9 (pg:=pg) hb ad H;have dZ:∀{d:Nat} {ow:eX} {cells:List V},fP g w d ow cells->fP g (Bx.mc w b pg) d ow cells:=λh=>
  ⟨h.mq,λj u ai=>let⟨r,x,f,Q⟩:=h.cell j u ai;⟨r,x,by rw[z];exact f,Q⟩,λj=>by rw[N];exact h.ki j⟩
 have y:∀{l:Loc} {v:V} {x:Value},dS g w l v x->dS g (Bx.mc w b pg) l v x:=by
  intro l v x h sz aA aB len cap aC hx k r f;obtain⟨t,⟨u,K⟩,ab⟩:=h sz aA aB len cap aC hx k r f;exact⟨t,⟨u,by rw[z];exact K⟩,by rw[N];exact ab⟩
 refine⟨R.xT (.refl g) rfl ⟨R.gA.kn,λd o x e=>by rw[z];exact R.gA.gZ d o x e,λd ac e=>?_,λd o e=>by rw[r1];exact R.gA.il d o e,R.gA.kC⟩
  ⟨λi cs e=>let⟨d,r,f⟩:=R.heap.box i cs e;⟨d,r,dZ f⟩,λi cs j u d x t K ab aD a0=>y (R.heap.tail i cs j u d x t K ab aD (by rw[<-z];exact a0)),λi a1 e=>?_,R.heap.Y⟩ dZ (λ_ _=>z _ _) (λ_ h=>y h) (λD t K=>⟨t,by rw[kx (by rintro rfl;rw[p]at t;cases t)];exact K⟩),⟨λ_ _ _ e=>e,λ_ _ e=>e,λ_ _ e=>e,λd o e=>⟨e,z _ _,N _ _⟩,λd a5 e _ hm=>?_,λ_ _ e _=>e,by rw[r1];exact ao _,⟨rfl,rfl,rfl,λ_=>ao _⟩,λd _ e=>kx (by rintro rfl;rcases e 0 with q|⟨x,q⟩<;>rw[q]at p<;>cases p)⟩⟩
 .have:d≠b:=by rintro rfl;rw[p]at e;cases e
  rw[kx this];exact R.gA.e8 d ac e
 .by_cases L:i=id
  .subst L;simp only[aJ.C5,bl]at e;cases e;exact⟨b,pg,dV,p,zx hb,H,hm⟩
  .simp only[aJ.C5,bE _ _ L]at e;obtain⟨d,a2,r,f,Q,a3,a4⟩:=R.heap.map i a1 e;have:d≠b:=by rintro rfl;rw[p]at f;injection f with f;exact L f.symm
   exact⟨d,a2,r,f,by rw[kx this];exact Q,a3,a4⟩
 .have:d≠b:=by rintro rfl;rw[p]at e;cases e
  rw[kx this];exact hm
def r2{P:Program}(hb:w.heap[b]?=some ob)(d:uZ ob=false):(getObj b).run P w=.ok ob w:=by
 cases ob<;>first|(simp[uZ]at d;done)|simp[getObj,Sem.run,hb]
def MG{P:Program}(hb:w.heap[b]?=some ob)(d:uZ ob=false):(setObj b pg).run P w=.ok () (Bx.mc w b pg):=by
 cases ob<;>first|(simp[uZ]at d;done)|simp[setObj,Sem.run,hb,Bx.mc]
end mc
def HR.vA{h:aJ}(hh:HR g h w){b:Nat}{mo:MO}{ob:Obj}(f:g.bL b 0=.oS h.Y)(hb:w.heap[b]?=some ob)(l:uZ ob=false)(hm:MR g mo ob):HR (g.wL h.Y b) (h.vA mo) w where
 box id cs e:=by
  exact WD
 tail id cs j c b' x e1 e2 e3 e4 e5:=by
  exact W3
 map id kvs e:=by
  by_cases d:id=h.Y
  .subst d;simp only[aJ.vA,bl]at e;cases e;exact⟨b,_,oZ,f,hb,l,hm.mono (nc (hh.Y _ (ao _)))⟩
  .simp only[aJ.vA,bE _ _ d]at e;obtain⟨b',o,h1,h2,p,q,r⟩:=hh.map id kvs e;exact⟨b',o,by rw[mY d];exact h1,h2,p,q,r.mono (nc (hh.Y _ (ao _)))⟩
 Y id e:=by
  simp only[aJ.vA]at e;rw[mY av];exact hh.Y id av
def MH(R:Rel GL g s a w){mo:MO}{ob:Obj}(j:uZ ob=false)(hm:MR g mo ob):
 ∃g',Rel GL g' (s.ct (s.E.vA mo)) a (w.alloc ob)/\Step g w g' (w.alloc ob)/\g'.hb s.E.Y=some w.heap.size/\g'.bL w.heap.size 0=.oS s.E.Y:=by
 let ow:Nat->eX:=λ_=>.oS s.E.Y
 have d:Rel GL (g.block w.heap.size ow) s a (w.alloc ob):=R.alloc (λo x e=>by simp only[ow]at e;cases e) (λob e=>by simp only[ow]at e;cases e);have l:Step g w (g.block w.heap.size ow) (w.alloc ob):=Step.alloc R.gA;have f:(g.block w.heap.size ow).hb s.E.Y=none:=d.heap.Y _ (ao _);exact⟨_,d.xT (nc f) rfl (xU f d.gA) (d.heap.vA (aW.eL _ _ _ _) (wF _ _) j (hm.mono R.gA.mX)) (qg f) (λ_ _=>rfl) (λ_ h=>h) (λ_ p q=>⟨p,q⟩),l.trans (vY f),oZ,by show(g.block w.heap.size ow).bL w.heap.size 0=_;exact aW.eL _ _ _ _⟩
def ER.mp'{id:Nat}{x:Value}(h:ER g (.mp id) x):∃b,g.hb id=some b/\x=.map (some b):=by
 cases h with|mp _ b h=>exact⟨b,h,rfl⟩
def ER.qy{x:Value}(h:ER g .qy x):x=.map none:=by cases h;rfl
def Ut{t k e:TypeId}{x:Operand}{r:eO}{Q:V->Bool->aJ->Prop}(hop:o.op=.range t x)(u:P.underlying t=some (.map k e))(hx:eC GL x=some r)
 (d:(MX.jv r).wp s Q) (R:Rel GL g s a w):AG GL P o g s a w Q:=by
 have hX:=cv R hx;simp only[MX.wp]at d;split at d
 next id f=>
  rw[f]at hX;obtain⟨kvs,hm,d⟩:=d;obtain⟨b,hb,y⟩:=hX.mp';obtain⟨z,ob,H,ac,K,L,ad,c,rfl,D⟩:=R.heap.map id _ hm;obtain rfl:=au (H.symm.trans hb);have N:c=kvs.length:=by rw[D.Ml,D.len]
  obtain⟨j,l,p,q,ab⟩:=MH (mo:=.walk id kvs.length []) (ob:=.mapIter (some z) kvs.length #[] kvs.length) R rfl ⟨z,hb,rfl⟩;refine⟨_,_,_,d,.pointer (some ⟨w.heap.size,0,none⟩),_,j,.inl ?_,l,p,.bp _ _ _ q,bR⟩;unfold execOp;rw[hop];refine AJ ?_;rw[y];simp only[Instr.range,Sem.run_bind,run_underlying u,Result.andThen_ok,r2 K L,Sem.run_pure,run_newObj,N];rfl
 next f=>rw[f]at hX;obtain⟨j,l,p,q,ab⟩:=MH (mo:=.raw (.mapIter none 0 #[] 0)) (ob:=.mapIter none 0 #[] 0) R rfl rfl;refine⟨_,_,_,d,.pointer (some ⟨w.heap.size,0,none⟩),_,j,.inl ?_,l,p,.bp _ _ _ q,bR⟩;unfold execOp;rw[hop];refine AJ ?_;rw[hX.qy];simp only[Instr.range,Sem.run_bind,run_underlying u,Result.andThen_ok,Sem.run_pure,run_newObj];rfl
 .exact d.elim
def C7(R:Rel GL g s a w){v:V}{x:Value}{id m n:Nat}{seen:List Nat}{kvs:List (V×V)}(h:xW s.E v=some (id,m,n,seen,kvs))(hx:ER g v x):
 s.E.mp id=some (.walk m n seen)/\s.E.mp m=some (.map kvs)/\kvs.length=n/\∃b d es,x=.pointer (some ⟨b,0,none⟩)/\g.hb id=some b/\g.bL b 0=.oS id/\w.heap[b]?=some (.mapIter (some d) n seen.toArray n)/\
  g.hb m=some d/\w.heap[d]?=some (.map es n)/\wD g kvs es n:=by
 unfold xW at h;split at h
 next ac=>
  split at h
  next aA u t j=>
   split at h
   next y l=>
    split at h
    next p=>
     simp only[co,eg]at h;obtain⟨rfl,rfl,rfl,rfl,rfl⟩:=h;obtain⟨b,hb,q⟩:=hx.bp;obtain⟨z,ad,D,H,K,aB,d,r,rfl⟩:=R.heap.map _ _ j;obtain rfl:=au (D.symm.trans hb);obtain⟨L,ai,N,aC,Q,aD,es,c,rfl,f⟩:=R.heap.map _ _ l;obtain rfl:=au (N.symm.trans r);have ab:c=u:=by rw[f.Ml,f.len,p]
     subst ab;exact⟨j,l,p,z,L,es,q,hb,H,K,r,Q,f⟩
    .cases h
   .cases h
  .cases h
 .cases h
def PS{x:Operand}{bu:eO}{Q:V->Bool->aJ->Prop}(hop:o.op=.next x false)(hx:eC GL x=some bu)
 (N:(MX.next bu).wp s Q) (R:Rel GL g s a w):AG GL P o g s a w Q:=by
 have hX:=cv R hx;have a6:∀bv,VR bv (.hE [.bool false]) (.tuple #[.bool false]):=λbv=>.hE _ _ rfl (λj c y a4 bi=>by
  cases j with
  |zero=>simp at a4 bi;subst a4 bi;exact .bool _
  |succ j=>simp at a4)
 simp only[MX.wp]at N;split at N
 next H=>
  unfold zE at H;split at H
  next id ci=>
   rw[ci]at hX;split at H
   next p q r hm=>obtain⟨b,hb,aB⟩:=hX.bp;obtain⟨ds,dd,t,ab,cp,c1,rfl⟩:=R.heap.map _ _ hm;cases (t.symm.trans hb);refine⟨_,_,_,N,_,w,g,.inl ?_,R.same,Step.refl g w,a6 g,bR⟩;unfold execOp;rw[hop];refine AJ ?_;rw[aB];simp only[Instr.next,Sem.run_bind,r2 cp c1,Result.andThen_ok,Sem.run_pure]
   .cases H
  .cases H
 .split at N
  next id m n seen kvs c2=>
   obtain⟨a4,bi,bU,b,a5,d,aB,hb,c5,a7,b2,oS,K⟩:=C7 R c2 hX
   let left:=d.filter λe=> !seen.toArray.contains e.born
   have aC:∀(j:Nat) e,d[j]?=some e->e.born<n:=by
    intro j e u;rw[K.born j e u,<-bU,<-K.len];exact(cD.1 u).1
   have hold:left.filter (λe=>decide (e.born<n))=left:=by
    rw[Array.filter_eq_self];intro e u;obtain⟨L,_⟩:=lr.1 u;obtain⟨j,aD,rfl⟩:=gT.1 L;exact db (aC j _ bR)
   have bo:left.filter (λe=>decide (e.born>=n))=#[]:=by
    rw[Array.filter_eq_empty_iff];intro e u;obtain⟨L,_⟩:=lr.1 u;obtain⟨j,aD,rfl⟩:=gT.1 L;have:=aC j d[j] bR;simp;omega
   have a0:(!seen.toArray.isEmpty&& !d.isEmpty&&d.all λe=>decide (e.born>=n))=false:=by
    by_cases u:d.isEmpty=true
    .simp[u]
    .have ac:0<d.size:=by
      rcases cS d.size with ad|ad
      .exact absurd (by simp[Array.isEmpty,ad]) u
      .exact ad
     have:(d.all λe=>decide (e.born>=n))=false:=by
      rw[Array.all_eq_false];refine⟨0,ac,?_⟩;have:=aC 0 d[0] bR;simp;omega
     rw[this];simp
   let f:Array (Option MapEntry):=(if left.isEmpty then #[none]else #[])++(left++ #[]).map some
   obtain⟨idx,z,b3,a1,hidx⟩:∃idx z,(choose (.mapNext f.size)).run P w=.ok idx z/\(z=w\/z=w.drew)/\(0<f.size->idx<f.size):=by
    rw[run_choose];split
    .exact⟨0,w,rfl,.inl rfl,λh=>h⟩
    .exact⟨_,w.drew,rfl,.inr rfl,λh=>eG _ h⟩
   have b5:Rel GL g s a z:=by
    rcases a1 with rfl|rfl
    .exact R
    .exact R.drew
   have b6:Step g w g z:=by
    rcases a1 with rfl|rfl
    .exact Step.refl g _
    .exact Step.drew g w
   have a2:z.heap[b]?=some (.mapIter (some a5) n seen.toArray n):=by rcases a1 with rfl|rfl<;>exact a7
   have a3:∀x,f[idx]?=some x->∀r br,(match x with
    |some e=>(do setObj b (.mapIter (some a5) n (seen.toArray.push e.born) n);pure (.tuple #[.bool true,e.key,e.val]):Sem Value)
    |none=>pure (.tuple #[.bool false])).run P z=.ok r br->(execOp a.eval o).run P w=.ok (.value r) br:=by
    intro x hx r br c6;unfold execOp;rw[hop];refine AJ ?_;rw[aB];simp only[Instr.next,Sem.run_bind,r2 a7 rfl,r2 oS rfl,Result.andThen_ok,a0,bM,cE,pure_bind];rw[hold,bo,b3,Result.andThen_ok,hx];cases x<;>exact c6
   by_cases D:left=#[]
   .have l:f=#[none]:=by simp[f,D]
    have b7:idx=0:=by rw[l]at hidx;simpa using hidx
    refine⟨_,_,_,N.1 (λj aD=>?_),.tuple #[.bool false],z,g,.inl (a3 none (by rw[l,b7];rfl) _ _ ?_),b5.same,b6,a6 g,bR⟩
    .have dg:j<d.size:=by rw[K.len,bU];exact aD
     have:d[j]∉left:=by rw[D];simp
     have H:¬(d[j]∈d/\(!seen.toArray.contains d[j].born)=true):=λh=>this (lr.2 h);have aA:=K.born j d[j] bR;rw[aA]at H;have ai:d[j]∈d:=bR;simpa[ai]using H
    .rfl
   .have l:f=left.map some:=by simp[f,D]
    have ac:0<left.size:=by
     rcases cS left.size with ad|ad
     .exact absurd (Array.eq_empty_of_size_eq_zero ad) D
     .exact ad
    have ca:idx<left.size:=by
     have:=hidx (by rw[l];simpa using ac);rw[l]at this;simpa using this
    have ai:left[idx]∈left:=bR;obtain⟨L,a8⟩:=lr.1 ai;obtain⟨j,aD,a9⟩:=gT.1 L;have aA:=K.born j d[j] bR;have dp:j<kvs.length:=by rw[<-K.len];exact aD
    have bs:kvs[j]?=some kvs[j]:=bR;have cb:j∉seen:=by
     rw[<-a9,aA]at a8;simpa using a8
    have cc:=K.key j _ d[j] bs bR;have ch:=K.val j _ d[j] bs bR;obtain⟨c7,c9⟩:=b5.mc (Wc:=.walk m n (seen++[j])) (pg:=.mapIter (some a5) n (seen++[j]).toArray n) a2 rfl rfl c5 hb ⟨a5,b2,rfl⟩;refine⟨_,_,_,N.2 j _ cb bs,.tuple #[.bool true,d[j].key,d[j].val],_,g,.inl (a3 (some d[j]) (by rw[l];simp[ca,a9]) _ _ ?_),c7,b6.trans c9,?_,bR⟩
    .simp only[Sem.run_bind,MG a2 rfl,Result.andThen_ok,Sem.run_pure,aA];simp
    .refine .hE _ _ rfl (λi c y t ab=>?_)
     match i with
     |0=>simp at t ab;subst t ab;exact .bool _
     |1=>simp at t ab;subst t ab;exact cc
     |2=>simp at t ab;subst t ab;exact ch
     |i+3=>simp at t
  .exact N.elim
def MI{x:Operand}{z:eO}{Q:V->Bool->aJ->Prop}(hop:o.op=.entry x)(hx:eC GL x=some z)
 (p:(MX.entry z).wp s Q) (R:Rel GL g s a w):AG GL P o g s a w Q:=by
 have hX:=cv R hx;simp only[MX.wp]at p;split at p
 next id m n seen kvs N=>
  obtain⟨j,u,f,l,p⟩:=p;obtain⟨ad,ai,aA,b,aB,d,D,hb,aC,H,ac,oS,q⟩:=C7 R N hX;have ab:j<d.size:=by rw[q.len];exact bZ l
  have K:=q.key j _ d[j] l bR;have L:=q.val j _ d[j] l bR;refine⟨_,_,_,p,.tuple #[d[j].key,d[j].val],w,g,.inl ?_,R.same,Step.refl g w,?_,bR⟩
  .unfold execOp;rw[hop];refine AJ ?_;rw[D];have r:seen.toArray.back?=some j:=by rw[Array.back?_eq_getElem?];rw[List.getLast?_eq_getElem?]at f;simpa using f
   have t:d.find? (λe=>e.born==j)=some d[j]:=by
    rw[Array.find?_eq_some_iff_getElem];refine⟨by rw[q.born j _ (by simp:d[j]?=some d[j])];simp,j,ab,rfl,λi aD=>?_⟩;rw[q.born i d[i] bR];simp;omega
   simp only[Instr.entry,Sem.run_bind,r2 H rfl,Result.andThen_ok,r,r2 oS rfl,bne_self_eq_false,bM,cE,pure_bind,t,Sem.run_pure]
  .refine .hE _ _ rfl (λi c y f l=>?_)
   match i with
   |0=>simp at f l;subst f l;exact K
   |1=>simp at f l;subst f l;exact L
   |i+2=>simp at f
 .exact p.elim
def PT{d:TypeDesc}(h:¬Ao d=true):∀k,d≠.int k:=by
 rintro k rfl;exact h rfl
def Fx{d:TypeDesc}(h:Ao d=true):∃k,d=.int k:=by
 cases d<;>first|(simp[Ao]at h;done)|exact⟨_,rfl⟩
def AK{w:World}{b o:Nat}{x:Value}(h:w.cell? (cl b o)=some x):∃t k,w.shape? b=some (t,k+1):=by
 unfold World.cell? at h;unfold World.shape?;split at h
 next c t fz e=>
  simp only[cl]at e h;rw[e];have:o<c.size:=by
   simp only[cL,bM,cE]at h;exact(cD.1 h).1
  exact⟨t,c.size-1,by simp only[co,eg,cF];omega⟩
 .cases h
def Ct(params results:Array TypeId){t e:TypeId}{sz:Nat}(h0:params[0]?=some t)(r:P.underlying t=some (.slice e))(u:nk P e=some sz)
 (a b:Addr) (j ca lb cb:Nat) (f:a.block≠b.block) {y z:TypeId} {l p:Nat} (hsa:w.shape? a.block=some (y,l+1)) (hsb:w.shape? b.block=some (z,p+1))
 (d:(∀o,w.frozen? (cl a.block o)=false)\/∀o,w.frozen? (cl b.block o)=false):
 (Extern.SlicesOverlaps.overlaps params results #[.slice (some a) j ca,.slice (some b) lb cb]).run P w=.ok (.bool false) w:=by
 have hnb:(a.block !=b.block)=true:=by simpa using f
 have aaA:(a.block==b.block)=false:=by simpa using f
 have q1:∀c:Addr,w.frozen? c=w.frozen? (cl c.block c.off):=λc=>rfl
 conv=>lhs;arg 2;whnf
 simp only[h0,Sem.run_bind,run_underlying r,Result.andThen_ok,fj u];by_cases q:j=0\/lb=0\/sz=0
 .simp[q]
 .rw[an q];rcases d with d|d
  .have f1:w.frozen? a=false:=by rw[q1];exact d _
   have f2:w.frozen? {block:=a.block,off:=l+1}=false:=d _;exact WU
  .have f1:w.frozen? b=false:=by rw[q1];exact d _
   have f2:w.frozen? {block:=b.block,off:=p+1}=false:=d _;exact WU
def Fy(params results:Array TypeId){t e:TypeId}{sz:Nat}(h0:params[0]?=some t)(f:P.underlying t=some (.slice e))(j:nk P e=some sz)(p q:Option Addr)(d ca lb cb:Nat)
 (h:p=none\/q=none\/d=0\/lb=0):(Extern.SlicesOverlaps.overlaps params results #[.slice p d ca,.slice q lb cb]).run P w=.ok (.bool false) w:=by
 conv=>lhs;arg 2;whnf
 simp only[h0,Sem.run_bind,run_underlying f,Result.andThen_ok,fj j];rcases h with rfl|rfl|rfl|rfl
 .rfl
 .cases p<;>rfl
 .cases p<;>cases q<;>simp
 .cases p<;>cases q<;>simp
def PU(params results:Array TypeId){t e:TypeId}{sz:Nat}(h0:params[0]?=some t)(a3:P.underlying t=some (.slice e))(aD:nk P e=some sz){u v:V}{x y:Value}{h:aJ}(N:Fv h sz u v)(br:HR g h w)(bs:qi GL g w)(K:VR g u x)(h2:VR g v y):
 (Extern.SlicesOverlaps.overlaps params results #[x,y]).run P w=.ok (.bool false) w:=by
 have d:=@Fy P w params results t e sz h0 a3 aD;have a0:=@Ct P w params results t e sz h0 a3 aD;have box:∀{id b:Nat} {c:V} {r:List V},h.box id=some (c::r)->g.hb id=some b->(∀j,g.bL b j=.dZ id)/\(∀o,w.frozen? (cl b o)=false)/\∃t k,w.shape? b=some (t,k+1):=by
  intro id b c r a1 L;obtain⟨b7,bu,a2⟩:=br.box id _ a1;cases (bu.symm.trans L);obtain⟨_,x,bv,_⟩:=a2.cell 0 c rfl;exact⟨a2.mq,a2.ki,AK bv⟩
 have D:∀{z:Nat} {ab:List V} {x:Value},VR g (.sl z ab) x->(∃l c,x=.slice none l c)\/(∃a c,x=.slice (some a) ab.length c/\(ab=[]\/z=0\/((∃v,g.bL a.block a.off=.gZ v)/\∃t k,w.shape? a.block=some (t,k+1)))):=by
  intro z ab x hx;cases hx with
  |slnil=>exact .inl ⟨_,_,rfl⟩
  |sl _ _ a cap ca hs bU aD b2 cb cc=>
   refine .inr ⟨a,cap,rfl,?_⟩;cases ab with
   |nil=>exact .inl rfl
   |cons v r=>
    rcases cS z with h|h
    .exact .inr (.inl h)
    .have Q:=b2 0 (Nat.mul_pos (jV _) h);exact .inr (.inr ⟨⟨_,Q⟩,AK (bs.gZ _ _ _ Q)⟩)
 have f:∀{z id off n c:Nat} {x:Value},VR g (.ms z id off n c) x->(∃p,x=.slice p 0 0)\/∃b,x=.slice (some (cl b off)) n c/\g.hb id=some b:=by
  intro z id off n c x hx;cases hx with
  |ms _ _ _ _ _ b h bU=>exact .inr ⟨b,rfl,h⟩
  |Fj=>exact .inl ⟨_,rfl⟩
 have H:∀{x:Value},VR g .aP x->x=.slice none 0 0:=λhx=>by cases hx;rfl
 unfold Fv at N;split at N
 .rw[H K,H h2];exact d _ _ _ _ _ _ (.inl rfl)
 .rw[H K];rcases D h2 with⟨l,c,rfl⟩|⟨a,c,rfl,_⟩<;>exact d _ _ _ _ _ _ (.inl rfl)
 .rw[H h2];rcases D K with⟨l,c,rfl⟩|⟨a,c,rfl,_⟩<;>exact d _ _ _ _ _ _ (.inr (.inl rfl))
 .rw[H K];rcases f h2 with⟨l,rfl⟩|⟨a,rfl,_⟩<;>exact d _ _ _ _ _ _ (.inl rfl)
 .rw[H h2];rcases f K with⟨l,rfl⟩|⟨a,rfl,_⟩<;>exact d _ _ _ _ _ _ (.inr (.inl rfl))
 .rcases f K with⟨p,rfl⟩|⟨b3,rfl,a1⟩
  .rcases f h2 with⟨q,rfl⟩|⟨R,rfl,L⟩<;>exact d _ _ _ _ _ _ (.inr (.inr (.inl rfl)))
  rcases f h2 with⟨q,rfl⟩|⟨R,rfl,L⟩
  .exact d _ _ _ _ _ _ (.inr (.inr (.inr rfl)))
  rcases N with rfl|rfl|⟨a4,⟨ch,ci,b5⟩,a5,a6,ac⟩
  .exact d _ _ _ _ _ _ (.inr (.inr (.inl rfl)))
  .exact d _ _ _ _ _ _ (.inr (.inr (.inr rfl)))
  obtain⟨ad,b6,a7,a8,ai⟩:=box b5 a1;obtain⟨aA,aC,a9,bi,aB⟩:=box ac L;exact a0 _ _ _ _ _ _ (by rintro(rfl:b3=R);have:=(ad 0).symm.trans (aA 0);injection this with h;exact a4 h) ai aB (.inl b6)
 .rcases f h2 with⟨q,rfl⟩|⟨R,rfl,L⟩
  .rcases D K with⟨l,c,rfl⟩|⟨a,c,rfl,_⟩<;>exact d _ _ _ _ _ _ (.inr (.inr (.inr rfl)))
  rcases D K with⟨l,c,rfl⟩|⟨a,c,rfl,Q⟩
  .exact d _ _ _ _ _ _ (.inl rfl)
  rcases N with rfl|rfl|⟨bo,a5,a6,ac⟩
  .exact d _ _ _ _ _ _ (.inr (.inr (.inr rfl)))
  .exact d _ _ _ _ _ _ (.inr (.inr (.inl rfl)))
  rcases Q with rfl|rfl|⟨⟨v,ad⟩,a7,a8,ai⟩
  .exact d _ _ _ _ _ _ (.inr (.inr (.inl rfl)))
  .omega
  obtain⟨aA,aC,a9,bi,aB⟩:=box ac L;exact a0 _ _ _ _ _ _ (by rintro(h:a.block=R);have:=(h▸ad).symm.trans (aA _);cases this) ai aB (.inr aC)
 .rcases f K with⟨q,rfl⟩|⟨R,rfl,L⟩
  .rcases D h2 with⟨l,c,rfl⟩|⟨a,c,rfl,_⟩<;>exact d _ _ _ _ _ _ (.inr (.inr (.inl rfl)))
  rcases D h2 with⟨l,c,rfl⟩|⟨a,c,rfl,Q⟩
  .exact d _ _ _ _ _ _ (.inr (.inl rfl))
  rcases N with rfl|rfl|⟨bo,a5,a6,ac⟩
  .exact d _ _ _ _ _ _ (.inr (.inr (.inl rfl)))
  .exact d _ _ _ _ _ _ (.inr (.inr (.inr rfl)))
  rcases Q with rfl|rfl|⟨⟨v,ad⟩,a7,a8,ai⟩
  .exact d _ _ _ _ _ _ (.inr (.inr (.inr rfl)))
  .omega
  obtain⟨aA,aC,a9,bi,aB⟩:=box ac L;exact a0 _ _ _ _ _ _ (by rintro(h:R=a.block);have:=(h▸ad).symm.trans (aA _);cases this) aB ai (.inl aC)
 .exact N.elim
set_option maxRecDepth 100000 in
def MJ(fn:Func)(d:fn.name=Tryz.f337.name)(h2:fn.origin= "slices.overlaps"):Extern.find fn=some (Extern.SlicesOverlaps.overlaps fn.params fn.resultTypes)/\Extern.findNext fn=none:=by
 unfold Extern.find Extern.findNext;rw[d,h2];exact⟨rfl,rfl⟩
set_option maxRecDepth 100000 in
def C8(fn:Func)(d:fn.name=Tryz.f334.name)(h2:fn.origin= ""):Extern.find fn=some Extern.BytealgIndexByte.indexByte/\Extern.findNext fn=none:=by
 unfold Extern.find Extern.findNext;rw[d,h2];exact⟨rfl,rfl⟩
def MK{l:List UInt8}{c:Int}(h0:0<=c)(d:c<256):(Extern.BytealgIndexByte.indexByte #[.string ⟨l.toArray⟩,.int .u8 c]).run P w=.ok (.int .i64 (Hu l (UInt8.ofNat c.toNat))) w:=by
 exact run_indexByte_string _ _ _
def ML{c:Call}{f:FuncId}{x y:Operand}{fn:Func}{e:Array Value->Sem Value}{Q:V->Bool->aJ->Prop}(hop:o.op=.call c)(p:c.callee=.value (.func f))(j:c.args.toList=[x,y])(r:P.funcs[f]?=some fn)
 (hb:fn.body.isNone=true) (l:(fn.name== "runtime.NumGoroutine")=false) (t:Extern.findNext fn=none) (u:Extern.find fn=some e) {v:V} {z:Value} (q:(e #[a.eval x,a.eval y]).run P w=.ok z w) (D:VR g v z)
 (H:Q v false s.E) (R:Rel GL g s a w):AG GL P o g s a w Q:=by
 refine⟨_,_,_,H,z,w,g,.inl ?_,R.same,Step.refl g w,D,bR⟩;have hm:c.args.map a.eval=#[a.eval x,a.eval y]:=by apply jG;simp[j]
 unfold execOp;rw[hop];simp only[resolve,p,hm];show(do let d<-Deferred.ofValue (.func (.func f) #[] #[]) #[a.eval x,a.eval y];invoke d.target d.args:Sem Next).run P w=_;simp only[Deferred.ofValue,pure_bind,invoke];rw[show(#[]++ #[a.eval x,a.eval y]++ #[]:Array Value)=#[a.eval x,a.eval y]from bR,run_callFunc_extern r l hb t u,q];rfl
def Uu{t e:TypeId}{sz n:Nat}{z:V}{parts:Array (Nat×Operand)}{ps:List (Nat×eO)}{Q:V->Bool->aJ->Prop}(hop:o.op=.buildSlice t n parts)
 (r:P.underlying t=some (.slice e)) (l:nk P e=some sz) (u:CT P e=some z) (p:uh GL parts.toList=some ps) (y:n*sz<=16777216) (f:0<sz) (j:jR sz z=true)
 (d:(MX.Tf sz z n ps).wp s Q) (R:Rel GL g s a w):AG GL P o g s a w Q:=by
 simp only[MX.wp]at d;split at d
 next xs D=>
  obtain⟨q,z1,H,aC,K⟩:=Fp u g;obtain⟨zs,f1,L,N⟩:=ui (g:=g) R (ys:=(Array.range (n*sz)).map (λi=>q.cells[i%q.cells.size]!)) p (ju.replicate j f H K) D;have hlen:xs.length=n:=by rw[N];simp
  obtain⟨ab,ac,_⟩:=ut L;obtain⟨ad,ai,aA,aB⟩:=zD (t:=e) (xs:=zs) R (cells:=(xs.map V.cells).flatten) ab ac;refine⟨_,_,_,d,.slice (some (cl w.heap.size 0)) n n,_,ad,.inl ?_,ai,aA,?_,bR⟩
  .unfold execOp;rw[hop];refine(by
    rw[Sem.run_bind];have:(Instr.buildSlice t n (parts.map λ(i,x)=>(i,a.eval x))).run P w=.ok (.slice (some (cl w.heap.size 0)) n n) (w.alloc (.cells zs e)):=by
     simp only[Instr.buildSlice,Sem.run_bind,run_underlying r,Result.andThen_ok,fj l];rw[an av];have fin:∀{c:Array Value},(do let a<-newRow e c;pure (Value.slice (some a) n n):Sem Value).run P w=.ok (.slice (some (cl w.heap.size 0)) n n) (w.alloc (.cells c e)):=by
      intro c;simp[newRow,cl]
     exact bb2
    rw[this];rfl)
  .cases aB with|bp _ _ b hb=>exact .ms _ _ _ _ _ _ hb (ao _)
 .exact d.elim
def Yj{m:MX}{Q:V->Bool->aJ->Prop}(h:PP P GL hs o=some m)(q:m.wp s Q)(R:Rel GL g s a w):AG GL P o g s a w Q:=by
 unfold PP at h;split at h
 next t n parts hop=>
  split at h
  next e H=>
   split at h
   next sz z bo r ab aC=>
    split at h
    next ac=>cases h;exact Uu hop H r ab aC ac.1 ac.2.1 ac.2.2 q R
    .cases h
   .cases h
  .cases h
 next t x hop=>
  split at h
  next k e H=>obtain⟨L,hx,rfl⟩:=dn h;exact Ut hop H hx q R
  .cases h
 next x isS hop=>
  split at h
  .cases h
  next aD=>
   obtain⟨L,hx,rfl⟩:=dn h;have:isS=false:=by simpa using aD
   subst this;exact PS hop hx q R
 next x hop=>obtain⟨L,hx,rfl⟩:=dn h;exact MI hop hx q R
 next c hop=>
  split at h
  next t u x y p K j=>
   split at h
   next e d L aA H a0 hx N=>
    split at h
    next sz zs r ab=>
     split at h
     .cases h
     next ac=>
      rw[mC]at ac;split at h
      next aB=>cases h;obtain⟨k,rfl⟩:=Fx aB;exact ME hop p K j H a0 hx N r ab av av q R
      next aB=>cases h;exact PQ hop p K j H a0 hx N r ab (PT aB) av av q R
    .cases h
   .cases h
  next t ts x y p K j=>
   split at h
   next e L aA H hx N=>
    split at h
    next sz r=>cases h;exact PR hop p K j H hx N r q R
    .cases h
   .cases h
  next t x p K j=>
   split at h
   next e L H hx=>
    split at h
    next sz zs r ab=>
     split at h
     next a4=>cases h;exact MF hop p K j H hx ab a4 q R
     .cases h
    .cases h
   .cases h
  next f x y p j=>
   split at h
   next fn L aA a1 hx N=>
    split at h
    next hb=>
     split at h
     next D=>
      cases h;simp only[MX.wp]at q;split at q
      next l c a5 ad=>have a2:=cv R hx;have a3:=cv R N;rw[a5]at a2;rw[ad]at a3;refine ML hop p j a1 hb (by rw[D.1];rfl) (C8 fn D.1 D.2).2 (C8 fn D.1 D.2).1 ?_ (.int _ _) q.2.2 R;rw[a2.str,a3.int];exact MK q.1 q.2.1
      .exact q.elim
     .split at h
      next D=>
       split at h
       next t bi E=>
        split at h
        next e H=>
         split at h
         next sz r=>
          cases h;obtain⟨a6,a7⟩:=MJ fn D.1 D.2;simp only[MX.wp]at q;have ai:(s.val L).dW=false/\(s.val aA).dW=false:=by
           have:=q.1;unfold Fv at this;split at this<;>first|exact this.elim|(rename_i a8 a9;rw[a8,a9];exact⟨rfl,rfl⟩)
          refine ML hop p j a1 hb (by rw[D.1];rfl) a7 a6 (PU (sz:=sz+1) fn.params fn.resultTypes (by rw[<-di,E];rfl) H r q.1 R.heap R.gA ((cv R hx).oh ?_) ((cv R N).oh ?_)) (.bool _) q.2 R
          .intro i k m ad;have:=ai.1;rw[ad]at this;cases this
          .intro i k m ad;have:=ai.2;rw[ad]at this;cases this
         .cases h
        .cases h
       .cases h
      .cases h
    .cases h
   .cases h
  .cases h
 .cases h
end
end
end Go.Bx
namespace Go.Bx
section
variable {GL:Nat->Option (List V)}{P:Program}
def WV(fz:ak)(v u:V):Prop:=u=.unk\/V.lM fz v u
def h7(fz:ak)(cs ds:List V):Prop:=cs.length=ds.length/\∀(j:Nat) c d,cs[j]?=some c->ds[j]?=some d->V.lM fz c d
section
variable {fz:Nat->Option (List V)}
def h7.refl(cs:List V):h7 fz cs cs:=⟨rfl,λj c d a f=>by obtain rfl:=au (a.symm.trans f);exact .refl c⟩
def h7.nil:h7 fz [] []:=.refl []
def h7.cons{c d:V}{l m:List V}(h:V.lM fz c d)(o:h7 fz l m):h7 fz (c::l) (d::m):=
 ⟨by simp[o.1],λj x y a f=>by
  cases j with
  |zero=>simp at a f;subst a f;exact h
  |succ j=>simp at a f;exact o.2 j x y a f⟩
end
def MOW(fz:ak):MO->MO->Prop
 |.map kvs,.map a=>kvs.length=a.length/\∀(j:Nat) c d,kvs[j]?=some c->a[j]?=some d->V.lM fz c.1 d.1/\V.lM fz c.2 d.2
 |m,f=>m=f
def MOW.refl{fz:ak}(m:MO):MOW fz m m:=by
 cases m with
 |map kvs=>exact⟨rfl,λj c d a f=>by obtain rfl:=au (a.symm.trans f);exact⟨.refl _,.refl _⟩⟩
 |_=>rfl
def V.Yk:V->Bool
 |.ms .. =>true
 |_=>false
def Po(fz:ak)(v:V):Prop:=(∀id,fz id=none)\/v.Yk=false
structure jD(fz:ak)(h k:aJ):Prop where
 Cu:∀id cells,fz id=some cells->h.box id=some cells
 box:∀id cells,k.box id=some cells->fz id=none/\∃cs,h.box id=some cs/\h7 fz cs cells
 fl:∀id j,k.fl id j=true->(h.fl id j=true/\((∀cs c,h.box id=some cs->cs[j]?=some c->Po fz c)\/k.box id=h.box id))\/∃cs,h.box id=some cs/\cs[j]?=some .aP
 mp:∀id mo,k.mp id=some mo->∃Wc,h.mp id=some Wc/\MOW fz Wc mo
 Y:h.Y<=k.Y
def jD.refl(h:aJ):jD jF h h:=⟨λ_ _ e=>(by cases e),λ_ c e=>⟨rfl,c,e,.refl c⟩,λ_ _ e=>.inl ⟨e,.inr rfl⟩,λ_ m e=>⟨m,e,.refl m⟩,ao _⟩
structure MM(fz:ak)(s t:St):Prop where
 n:t.n=s.n
 Z:∀x,WV fz (s.Z x) (t.Z x)
 lk:∀x,t.lk x=none
 fl:∀x,t.fl x=true->(s.fl x=true/\(Po fz (s.Z x)\/t.Z x=s.Z x))\/s.Z x=.aP\/t.Z x=.unk
 G:∀i,t.G i<=s.G i
 A:∀x i gn off,t.Z x=.A i gn off->gn<t.G i
 loc:∀i gn,gn<t.G i->h7 fz (s.loc i gn) (t.loc i gn)
 fc:∀i gn j,gn<t.G i->t.fc i gn j=true->(s.fc i gn j=true/\((∀c,(s.loc i gn)[j]?=some c->Po fz c)\/t.loc i gn=s.loc i gn))\/(s.loc i gn)[j]?=some .aP
 E:jD fz s.E t.E
def Eg(s t:St):Prop:=∃fz,MM fz s t
def Eg.n{s t:St}(h:Eg s t):t.n=s.n:=h.elim λ_ h=>h.n
def aW.cut(g:aW)(w:World)(fz:ak)(G:Nat->Nat):aW:=
 {
  bL:=λb o=>match g.bL b o with
   |.su i a=>if a<G i then .su i a else .junk
   |.dZ id=>match fz id with
    |some _=>match w.cell? (cl b o)with
     |some x=>.gZ x
     |none=>.junk
    |none=>.dZ id
   |x=>x
  lb:=λi a=>if a<G i then g.lb i a else none
  hb:=g.hb}
section
variable {g:aW}{w:World}{fz:Nat->Option (List V)}{c:Nat->Nat}
def zF{b o:Nat}{ow:eX}(h:g.bL b o=ow)(d:∀i a,ow=.su i a->a<c i)(f:∀id,ow=.dZ id->fz id=none):(g.cut w fz c).bL b o=ow:=by
 subst h;simp only[aW.cut];split
 next i a e=>rw[ax (d i a e)];exact e.symm
 next id e=>rw[f id e];exact e.symm
 .rfl
def Uv{b o id:Nat}{cells:List V}{x:Value}(h:g.bL b o=.dZ id)(a:fz id=some cells)(hx:w.cell? (cl b o)=some x):(g.cut w fz c).bL b o=.gZ x:=by
 simp only[aW.cut,h,a,hx]
def MN{b o:Nat}{x:Value}(h:(g.cut w fz c).bL b o=.gZ x):g.bL b o=.gZ x\/w.cell? (cl b o)=some x:=by
 simp only[aW.cut]at h;split at h
 .split at h<;>cases h
 .split at h
  .split at h
   .injection h with h;subst h;right;assumption
   .cases h
  .cases h
 .exact .inl h
def AL{b o:Nat}{ob:Obj}:(g.cut w fz c).bL b o=.e8 ob↔g.bL b o=.e8 ob:=by
 exact bb3
def MP{b o i:Nat}:(g.cut w fz c).bL b o=.oS i↔g.bL b o=.oS i:=by
 exact bb3
def wP{b o:Nat}:(g.cut w fz c).bL b o=.ext↔g.bL b o=.ext:=by
 exact bb3
def MQ{b o:Nat}:(g.cut w fz c).bL b o=.free↔g.bL b o=.free:=by
 exact bb3
def rA:g.Le (g.cut w fz c):=⟨λ_ _ _ e=>zF e (by intro _ _ h;cases h) (by intro _ h;cases h),λ_ _ e=>AL.2 e,λ_ _ e=>e⟩
def Step.cut:Step g w (g.cut w fz c) w where
 gZ _ _ _ e:=rA.gZ _ _ _ e
 e8 _ _ e:=AL.2 e
 od _ _ _ _ e:=e
 hb _ _ e:=e
 ext _ _ e:=⟨wP.2 e,rfl,rfl⟩
 ru _ _ e _:=wP.1 e
 size:=ao _
 gW:=.refl _
 whole _ _ _:=rfl
end
section
variable {g g':aW}{w:World}{fz:Nat->Option (List V)}{c:Nat->Nat}
def dS.le{l:Loc}{v u:V}{x:Value}(h:dS g w l v x)(z:V.lM fz v u)(D:VR g v x)(r:Po fz v\/u=v):dS g w l u x:=by
 rcases r with r|rfl
 case inr=>exact h
 cases z with
 |refl=>exact h
 |aP sz=>
  intro q t a len cap d j;have:=D.fb.aP;rw[this]at j;cases j
 |agg cs o=>intro _ _ _ _ _ d;cases d
 |hE cs o=>intro _ _ _ _ _ d;cases d
 |ep cs o=>intro _ _ _ _ _ d;cases d
 |fn f cs o=>intro _ _ _ _ _ d;cases d
 |sl sz cs o z K=>
  intro q t a len cap d j;simp only[V.sl.injEq]at d;obtain⟨rfl,rfl⟩:=d;exact h _ _ a len cap rfl j
 |Fj sz id off=>
  intro q t a len cap d j k L N;rcases D.fb.ms with⟨b,_,rfl,_⟩|⟨_,_,p,rfl,_⟩
  .simp at j;obtain⟨_,rfl,rfl⟩:=j;omega
  .simp at j;obtain⟨_,rfl,rfl⟩:=j;omega
 |ms sz id off n c cells o t H=>
  rcases r with y|y
  .rw[y id]at H;cases H
  .simp[V.Yk]at y
 |bp=>intro _ _ _ _ _ d;cases d
def dS.cut{l:Loc}{v:V}{x:Value}(h:dS g w l v x):dS (g.cut w fz c) w l v x:=by
 intro sz d a len cap f j k o p;obtain⟨q,r⟩:=h sz d a len cap f j k o p;exact⟨zF q (by intro i t e;cases e) (by intro i e;cases e),r⟩
def dS.nil{l:Loc}{u:V}{x:Value}(f:WV fz .aP u)(hx:VR g .aP x):dS g w l u x:=by
 intro sz j a len cap o d;have:=hx.fb.aP;rw[this]at d;cases d
def dS.unk{l:Loc}{x:Value}:dS g w l .unk x:=by intro sz f a len cap d;cases d
def fP.weak{b:Nat}{ow:eX}{cs ds:List V}(h:fP g w b ow cs)(a:h7 fz cs ds)
 (q:∀id cells,fz id=some cells->∃b,g.hb id=some b/\∀(j:Nat) u,cells[j]?=some u->u.one=true/\∃y,(g.cut w fz c).bL b j=.gZ y/\VR g u y)
 (r:∀i f,ow=.su i f->f<c i) (l:∀id,ow=.dZ id->fz id=none):fP (g.cut w fz c) w b ow ds where
 mq j:=zF (h.mq j) r l
 cell j d o:=by
  have D:j<cs.length:=by rw[a.1];exact bZ o
  obtain⟨h1,x,t,z⟩:=h.cell j cs[j] bR;have p:=a.2 j cs[j] d bR o;exact⟨p.one h1,x,t,VR.uk rA q p z⟩
 ki:=h.ki
end
section
variable {g:aW}{w:World}{fz:Nat->Option (List V)}{c:Nat->Nat}{h k:aJ}
def wQ(f:HR g h w)(l:∀id cells,fz id=some cells->h.box id=some cells):
 ∀id cells,fz id=some cells->∃b,g.hb id=some b/\∀(j:Nat) u,cells[j]?=some u->u.one=true/\∃y,(g.cut w fz c).bL b j=.gZ y/\VR g u y:=by
 intro id cells e;obtain⟨b,o,a⟩:=f.box id cells (l id cells e);refine⟨b,o,λj u d=>?_⟩;obtain⟨p,y,q,r⟩:=a.cell j u d;exact⟨p,y,Uv (a.bL j (bZ d)) e q,r⟩
def qi.cut(a:qi GL g w):qi GL (g.cut w fz c) w where
 kn n cells e:=(a.kn n cells e).mono rA
 kC:=a.kC
 e8 b o e:=a.e8 b o (AL.1 e)
 gZ b o x e:=by
  rcases MN e with e|e
  .exact a.gZ b o x e
  .exact e
 il b o e:=a.il b o (λd=>e (MQ.2 d))
def HR.cut(l:HR g h w)(p:jD fz h k):HR (g.cut w fz c) k w:=by
 have K:=wQ (c:=c) l p.Cu;have R:∀{v u:V} {x:Value},V.lM fz v u->VR g v x->VR (g.cut w fz c) u x:=λt hx=>VR.uk rA K t hx;exact {
  box:=λid cells e=>by
   obtain⟨ab,cs,h1,q⟩:=p.box id cells e;obtain⟨b,z,D⟩:=l.box id cs h1;exact⟨b,z,D.weak q K (by intro i a5 e;cases e) (by rintro i e;cases e;exact ab)⟩
  tail:=λid cells j c b x ac aC N ad ai=>by
   obtain⟨ab,cs,h1,q⟩:=p.box id cells ac;have Q:j<cs.length:=by rw[q.1];exact bZ N
   have t:=q.2 j cs[j] c bR N;obtain⟨aA,z,D⟩:=l.box id cs h1;obtain rfl:aA=b:=au (z.symm.trans ad);obtain⟨_,y,a,d⟩:=D.cell j cs[j] bR;obtain rfl:=au (a.symm.trans ai);rcases p.fl id j aC with⟨f,r⟩|⟨a4,f,aD⟩
   .refine((l.tail id cs j cs[j] aA y h1 f (by simp) ad ai).le t d ?_).cut;rcases r with r|r
    .exact .inl (r cs _ h1 bR)
    .rw[ac,h1]at r;cases r;right;have:=(aH.1 N).2;exact this.symm
   .cases (h1.symm.trans f);have a0:cs[j]=.aP:=by simpa[Q]using aD
    rw[a0]at d t;exact(dS.nil (.inr t) d).cut
  map:=λid aB e=>by
   obtain⟨L,a1,hm⟩:=p.mp id aB e;obtain⟨b,o,h1,q,z,D,f⟩:=l.map id L a1;refine⟨b,o,h1,MP.2 q,z,D,?_⟩;cases L with
   |map kvs=>
    cases aB with
    |map a2=>
     obtain⟨a3,c,rfl,H⟩:=f;refine⟨a3,c,rfl,⟨by rw[H.len,hm.1],λj u e a d=>?_,λj u e a d=>?_,H.born,H.Ml⟩⟩
     .have Q:j<kvs.length:=by rw[hm.1];exact bZ a
      exact R (hm.2 j kvs[j] u bR a).1 (H.key j kvs[j] e bR d)
     .have Q:j<kvs.length:=by rw[hm.1];exact bZ a
      exact R (hm.2 j kvs[j] u bR a).2 (H.val j kvs[j] e bR d)
    |walk=>cases hm
    |raw=>cases hm
   |walk m n seen=>cases hm;exact f.mono rA
   |raw a6=>cases hm;exact f.mono rA
  Y:=λid e=>l.Y id (aQ p.Y e)}
end
def Rel.uk{g:aW}{s t:St}{a:Act}{w:World}{fz:ak}(R:Rel GL g s a w)(h:MM fz s t):Rel GL (g.cut w fz t.G) t a w:=by
 have K:=wQ (c:=t.G) R.heap h.E.Cu;have aB:∀{v u:V} {x:Value},V.lM fz v u->VR g v x->VR (g.cut w fz t.G) u x:=λf hx=>VR.uk rA K f hx;exact {
 size:=by rw[R.size,h.n]
 gj:=R.gj.mono λD z q=>⟨zF z (by intro _ _ h;cases h) (by intro _ h;cases h),q⟩
 Z:=λx=>by
  have hx:=R.Z x;rcases h.Z x with e|f
  .rw[e];exact .unk _
  .have p:=h.A x;generalize aC:s.Z x=v at hx f;generalize aD:t.Z x=u at f p;by_cases H:∃i d off,v=.A i d off
   .obtain⟨i,d,off,rfl⟩:=H;cases f;obtain⟨b,h1,L⟩:=hx;exact⟨b,by simp only[aW.cut,ax (p i d off rfl)];exact h1,L⟩
   .exact(aB f (hx.oh (λi d off e=>H ⟨i,d,off,e⟩))).fb
 gA:=R.gA.cut
 heap:=R.heap.cut h.E
 loc:=λi d l=>by
  obtain⟨b,h1,L⟩:=R.loc i d (bA l (h.G i));exact⟨b,by simp only[aW.cut,ax l];exact h1,L.weak (h.loc i d l) K (by intro a6 a5 e;cases e;exact l) (by intro i e;cases e)⟩
 jd:=λi d l=>by simp only[aW.cut];rw[an av]
 jt:=λx e=>by
  have hx:=R.Z x;have p:=h.A x;rcases h.Z x with z|f
  .rw[z];exact dS.unk
  .rcases h.fl x e with⟨h1,o⟩|h1|h1
   .have ab:=R.jt x h1;generalize aC:s.Z x=v at hx f ab o;generalize aD:t.Z x=u at f p o;by_cases H:∃i d off,v=.A i d off
    .obtain⟨i,d,off,rfl⟩:=H;cases f;intro _ _ _ _ _ e;cases e
    .exact(ab.le f (hx.oh (λi d off e=>H ⟨i,d,off,e⟩)) o).cut
   .rw[h1]at hx f;exact(dS.nil (.inr f) (hx.oh (by intro _ _ _ e;cases e))).cut
   .rw[h1];exact dS.unk
 gD:=λi d j c b x z q r ac=>by
  have l:d<t.G i:=by
   rcases am d (t.G i)with ad|ad
   .exact ad
   .simp only[aW.cut]at r;rw[an av]at r;cases r
  simp only[aW.cut,ax l]at r;have ai:=h.loc i d l;have a0:j< (s.loc i d).length:=by rw[ai.1];exact bZ q
  have f:=ai.2 j (s.loc i d)[j] c bR q;obtain⟨aA,a1,a2⟩:=R.loc i d (bA l (h.G i));obtain rfl:aA=b:=au (a1.symm.trans r);obtain⟨_,y,a3,N⟩:=a2.cell j (s.loc i d)[j] bR;obtain rfl:=au (a3.symm.trans ac);rcases h.fc i d j l z with⟨Q,o⟩|Q
  .refine((R.gD i d j (s.loc i d)[j] aA y Q (by simp) r ac).le f N ?_).cut;rcases o with o|o
   .exact .inl (o _ bR)
   .rw[o]at q;right;exact((aH.1 q).2).symm
  .have a4:(s.loc i d)[j]=.aP:=by simpa[a0]using Q
   rw[a4]at N f;exact(dS.nil (.inr f) N).cut
 jX:=λx u e=>by rw[h.lk x]at e;cases e
 gF:=λx i d j e=>by rw[h.lk x]at e;cases e
 ib:=λx id j e=>by rw[h.lk x]at e;cases e}
def Rel.weak{g:aW}{s t:St}{a:Act}{w:World}(R:Rel GL g s a w)(h:Eg s t):∃g',Rel GL g' t a w/\Step g w g' w:=by
 obtain⟨fz,h⟩:=h;exact⟨_,R.uk h,Step.cut⟩
def Rel.aaS{g:aW}{s:St}{a:Act}{w:World}{fz:ak}{E:aJ}(R:Rel GL g s a w)(h:jD fz s.E E):Rel GL (g.cut w fz s.G) (s.ct E) a w:=by
 have B:Rel GL (g.cut w fz s.G) {s with E:=E,lk:=λ_=>none} a w:=R.uk (t:={s with E:=E,lk:=λ_=>none})
  {
   n:=rfl
   Z:=λx=>.inr (.refl _)
   lk:=λ_=>rfl
   fl:=λx e=>.inl ⟨e,.inr rfl⟩
   G:=λ_=>ao _
   A:=λx i d off e=>by
    have:=R.Z x;rw[show s.Z x=.A i d off from e]at this;obtain⟨b,h1,_⟩:=this;rcases am d (s.G i)with f|f
    .exact f
    .rw[R.jd i d f]at h1;cases h1
   loc:=λi d _=>.refl _
   fc:=λi d j _ e=>.inl ⟨e,.inr rfl⟩
   E:=h}
 exact {
  size:=B.size,gj:=B.gj,Z:=B.Z,gA:=B.gA,heap:=B.heap,loc:=B.loc,jd:=B.jd,jt:=B.jt,gD:=B.gD
  jX:=λt u e=>R.jX t u (fE e).1
  gF:=λt st d j e=>by
   obtain⟨h1,o⟩:=R.gF t st d j (fE e).1;refine⟨h1,λb l=>o b ?_⟩;simp only[aW.cut,ax h1]at l;exact l
  ib:=λt id j e=>by
   have:=(fE e).2;simp[Pn]at this}
end
section
variable {GL:Nat->Option (List V)}{P:Program}
inductive BY where
 |ex (b:BX)
 |call (f:FuncId) (args:List eO)
 |qH (x:eO) (args:List eO)
 |bad
 |hx (h:HX)
 |mx (m:MX)
def Yl(P:Program)(GL:ak)(hs:List Nat)(o:Oper):Option BY:=
 match o.op with
 |.call c=>match c.callee with
  |.value (.func f)=>if fL P f then(yr GL c.args.toList).map (.call f)else none
  |.value x=>match eC GL x with
   |some x=>(yr GL c.args.toList).map (.qH x)
   |none=>none
  |_=>(Wa P GL hs o).map .ex
 |_=>(Wa P GL hs o).map .ex
def MT(P:Program)(GL:ak)(hs:List Nat)(o:Oper):Option BY:=some (match Yl P GL hs o with
 |some b=>b
 |none=>match PO P GL hs o with
  |some h=>.hx h
  |none=>match PP P GL hs o with
   |some m=>.mx m
   |none=>.bad)
def ER.qr{g:aW}{x:Value}(h:ER g .qr x):x=undef:=by cases h;rfl
def ER.fn{g:aW}{f cap}{x:Value}(h:ER g (.fn f cap) x):∃xs:Array Value,x=.func (.func f) #[] xs/\xs.size=cap.length/\∀(j:Nat) c y,cap[j]?=some c->xs[j]?=some y->VR g c y:=by
 cases h with|fn _ _ xs d l=>exact⟨xs,rfl,d,l⟩
structure BI where
 guard:Option (Nat×Bool)
 dst:Option Nat
 op:BY
def St.ret(s:St)(dst:Option Nat)(v:V)(bL:Bool):St:=
 match dst with
 |some d=>s.put d v none bL
 |none=>s
abbrev zG(fz:ak)(args d:List V):Prop:=h7 fz args d
def aN(args f:List V):Prop:=args.length=f.length/\∀(j:Nat) c d,args[j]?=some c->f[j]?=some d->V.Le c d
def aN.refl(args:List V):aN args args:=⟨rfl,λj c d f l=>by obtain rfl:=au (f.symm.trans l);exact .refl c⟩
def aN.nil:aN [] []:=.refl []
def aN.cons{c d:V}{l m:List V}(h:V.Le c d)(q:aN l m):aN (c::l) (d::m):=
 ⟨by simp[q.1],λj x y f p=>by
  cases j with
  |zero=>simp at f p;subst f p;exact h
  |succ j=>simp at f p;exact q.2 j x y f p⟩
def Eh(P:Program)(GL:ak)(f:FuncId)(args:List V)(s:St)(dst:Option Nat)(K:St->Prop):Prop:=
 (∃d v bL,aN args d/\Pure P GL f d v bL/\K (s.ret dst v bL))\/
 (∃d,aN args d/\lI P GL f d s.E λv bL j=>K ((s.ct j).ret dst v bL))\/
 (∃fz E d,jD fz s.E E/\zG fz args d/\((∃v bL,Pure P GL f d v bL/\K ((s.ct E).ret dst v bL))\/lI P GL f d E λv bL j=>K ((s.ct j).ret dst v bL)))
def St.skip(s:St)(dst:Option Nat):St:=s.ret dst .qr false
def HX.outs(h:HX)(s:St)(dst:Option Nat):Option (List St):=(h.act s).map λl=>l.map λp=>(s.ct p.2.2).ret dst p.1 p.2.1
def KA:List St->(St->Prop)->Prop
 |[],_=>True
 |s::r,K=>K s/\KA r K
def uu:∀{l:List St} {K:St->Prop},KA l K->∀s∈l,K s
 |_::_,_,h,s,hs=>by
  rcases bC.1 hs with rfl|hs
  .exact h.1
  .exact uu h.2 s hs
def zH:∀{l:List St} {K:St->Prop},(∀s∈l,K s)->KA l K
 |[],_,_=>trivial
 |s::_,_,h=>⟨h s bR,zH λt d=>h t (by simp[d])⟩
def Cv(P:Program)(GL:ak)(s:St)(dst:Option Nat)(op:BY)(K:St->Prop):Prop:=
 match op with
 |.call f args=>args.all (λx=> !(s.val x).dW)=true/\Eh P GL f (args.map s.val) s dst K
 |.qH x args=>match s.val x with
  |.fn f cap=>fL P f=true/\args.all (λx=> !(s.val x).dW)=true/\Eh P GL f (args.map s.val++cap) s dst K
  |_=>False
 |.ex op=>match iG s dst op with
  |some s'=>K s'
  |none=>False
 |.bad=>False
 |.hx h=>match h.outs s dst with
  |some l=>KA l K
  |none=>False
 |.mx m=>m.wp s λv o E=>K ((s.ct E).ret dst v o)
def vB(P:Program)(GL:ak):List BI->St->(St->Prop)->Prop
 |[],s,K=>K s
 |i::r,s,K=>match i.guard with
  |none=>Cv P GL s i.dst i.op λs'=>vB P GL r s' K
  |some (t,want)=>match s.Z t with
   |.bool b=>if b=want then Cv P GL s i.dst i.op λs'=>vB P GL r s' K else vB P GL r (s.skip i.dst) K
   |.qr=>vB P GL r (s.skip i.dst) K
   |_=>False
def wR(P:Program)(GL:ak)(hs:List Nat)(n:Nat)(ops:Array Oper)(o:Oper):Option BI:=
 match MT P GL hs o,(match o.guard with
  |none=>some none
  |some (j,want)=>((ops[j]?).bind (·.dst)).map λt=>some (t,want))with
 |some d,some g=>if o.dst.all (· <n)then some ⟨g,o.dst,d⟩else none
 |_,_=>none
def C9(P:Program)(GL:ak)(hs:List Nat)(n:Nat)(ops:Array Oper):List Nat->Option (List BI)
 |[]=>some []
 |i::r=>match(ops[i]?).bind (wR P GL hs n ops),C9 P GL hs n ops r with
  |some b,some l=>some (b::l)
  |_,_=>none
section
variable {g:aW}{s s':St}{a:Act}{w:World}{o:Oper}{hs:List Nat}
def Hw(s:St)(l:Loc):(s.dP l).n=s.n:=by cases l<;>rfl
def Ym(s:St)(d:Nat)(x:eO):(s.xP d x).n=s.n:=by cases x<;>rfl
def PV{n:Nat}{v:V}{x:eO}(h:s.store n v x=some s'):s'.n=s.n:=by
 exact Wq
def Yn{d sz:Nat}{x y:eO}(h:s.app d sz x y=some s'):s'.n=s.n:=by
 unfold St.app at h;split at h
 .split at h
  .cases h;rfl
  .cases h
 .split at h
  .split at h
   .split at h
    .cases h;simp[Hw]
    .cases h
   .cases h
  .cases h
 .cases h
def I2{d:Option Nat}{f:BX}(h:iG s d f=some s'):s'.n=s.n:=by
 cases f<;>simp only[iG]at h
 .split at h
  .cases h;rfl
  .cases h;rfl
  .cases h
 .split at h
  .cases h;rfl
  .cases h
 .split at h
  .cases h;rfl
  .cases h
 .split at h
  .cases h;exact Ym _ _ _
  .cases h
 .split at h
  .cases h;rfl
  .cases h
 .split at h
  .split at h
   .cases h;rfl
   .cases h
  .cases h
 .split at h
  .exact PV h
  .cases h
 .split at h
  .obtain⟨_,_,rfl⟩:=dn h;rfl
  .cases h
 .split at h
  .split at h
   .cases h;rfl
   .cases h
  .cases h
 .split at h
  .exact Yn h
  .cases h
 .split at h
  .split at h
   .cases h;rfl
   .cases h
  .cases h
def zZ(s:St)(d:Option Nat)(v:V)(bL:Bool):(s.ret d v bL).n=s.n:=by cases d<;>rfl
def Rel.retv(R:Rel GL g s a w){dst:Option Nat}(f:∀d,dst=some d->d<s.n){v:V}{bL:Bool}{x:Value}(j:VR g v x)(l:∀d,dst=some d->bL=true->dS g w (.var d) v x):
 Rel GL g (s.ret dst v bL) (a.put dst x) w:=by
 cases dst with
 |none=>exact R
 |some d=>exact R.put (f d rfl) j.fb bR (l d rfl)
abbrev FW(ro:Option Nat):Fence:={Fence.wide with round:=ro}
def FW.calls{ro:Option Nat}{n:Nat}{f:FuncId}{xs:Array Value}{w:World}{R:Ending->World->Prop}(h:Calls P f xs w R):CallsIn (FW ro) n P f xs w R:=(callsIn_wide (n:=n)).2 h
def KB(s:St)(h d:aJ):(s.ct h).ct d=s.ct d:=by
 simp only[St.ct,St.mk.injEq,cF,bK];funext t;simp only[iO];cases s.lk t with
 |none=>rfl
 |some l=>by_cases h:Pn l=true<;>simp[h]
def Oper.go(ro:Option Nat)(m:Nat)(P:Program)(o:Oper)(a:Act)(w:World)(next:Act->World->Prop)(Q:Exit->Act->World->Prop):Prop:=
 o.uponIn (FW ro) m P a next Q ((execOp a.eval o).run P w)
section
variable {ro:Option Nat}{m:Nat}
def Da{f:FuncId}{args:List V}{xs:Array Value}{K:St->Prop}(h:Eh P GL f args s o.dst K)(y:∀d,o.dst=some d->d<s.n)(R:Rel GL g s a w)
 (L:(execOp a.eval o).run P w=.ok (.enter f xs) w) (aA:xs.size=args.length) (aB:∀(j:Nat) v x,args[j]?=some v->xs[j]?=some x->VR g v x)
 {next:Act->World->Prop} {Q:Exit->Act->World->Prop} (H:∀g' s' a' w',K s'->s'.n=s.n->Rel GL g' s' a' w'->Step g w g' w'->next a' w'):Oper.go ro m P o a w next Q:=by
 have weak:∀{p:List V},aN args p->xs.size=p.length/\∀(j:Nat) v x,p[j]?=some v->xs[j]?=some x->VR g v x:=by
  intro p hle;refine⟨by rw[aA,hle.1],λj v x D ab=>?_⟩;have aD:j<args.length:=by rw[hle.1];exact bZ D
  exact VR.weak (hle.2 j args[j] v bR D) (aB j args[j] x bR ab)
 let l:Loc:=match o.dst with|some d=>.var d|none=>.ret
 unfold Oper.go;rw[L,Oper.uponIn_enter];refine⟨λe=>(by cases e),FW.calls ?_⟩;have pure:∀{g:aW} {s:St} {p:List V} {v:V} {bL:Bool},Rel GL g s a w->(∀d,o.dst=some d->d<s.n)->xs.size=p.length->(∀(j:Nat) v x,p[j]?=some v->xs[j]?=some x->VR g v x)->Pure P GL f p v bL->
  ∀{N:Ending->World->Prop},(∀x g' w',Rel GL g' (s.ret o.dst v bL) (a.put o.dst x) w'->Step g w g' w'->N (.returned x) w')->Calls P f xs w N:=by
  intro g s p v bL R y q z E N ac;obtain⟨a0,fv,E⟩:=E;refine E (g.dV true) w xs (CY R true (λ_=>a0) q z) _ ?_;rintro a2 x a1 t g1 w' ⟨rfl,rfl⟩ out;have ad:=R.Ku (l:=l) out.step out.gA;refine ac _ _ _ (ad.retv y (out.res.xI (CW out.step).1 (CW out.step).2 fv) (λd hd' ho=>?_)) (CX out.step);exact W4
 have call:∀{g:aW} {s:St} {p:List V} {ai:V->Bool->aJ->Prop},Rel GL g s a w->(∀d,o.dst=some d->d<s.n)->xs.size=p.length->(∀(j:Nat) v x,p[j]?=some v->xs[j]?=some x->VR g v x)->lI P GL f p s.E ai->
  ∀{N:Ending->World->Prop},(∀v bL t x g' w',ai v bL t->Rel GL g' ((s.ct t).ret o.dst v bL) (a.put o.dst x) w'->Step g w g' w'->N (.returned x) w')->Calls P f xs w N:=by
  intro g s p ai R y q z hb N ac;refine hb (g.dV false) w xs (CY R false bR q z) _ ?_;intro v x bL t g1 w' u out;have ad:=R.Kt (l:=l) out.step out.gA out.heap;refine ac _ _ _ _ _ _ u (ad.retv y (out.res.mono (Ax out.step)) (λd hd' ho=>?_)) (CX out.step);exact W4
 rcases h with⟨p,v,bL,hle,E,u⟩|⟨p,hle,hb⟩|⟨fz,E,p,aC,hle,hb⟩
 .obtain⟨q,z⟩:=weak hle;exact pure R y q z E λx g' w' r S=>H _ _ _ _ u (zZ _ _ _ _) r S
 .obtain⟨q,z⟩:=weak hle;exact call R y q z hb λv bL t x g' w' u r S=>H _ _ _ _ u (zZ _ _ _ _) r S
 .have r:=R.aaS aC;have q:xs.size=p.length/\∀(j:Nat) v x,p[j]?=some v->xs[j]?=some x->VR (g.cut w fz s.G) v x:=by
   refine⟨by rw[aA,hle.1],λj v x D ab=>?_⟩;have aD:j<args.length:=by rw[hle.1];exact bZ D
   exact VR.uk rA (wQ R.heap aC.Cu) (hle.2 j args[j] v bR D) (aB j args[j] x bR ab)
  rcases hb with⟨v,bL,E,u⟩|hb
  .exact pure r y q.1 q.2 E λx g' w' r S=>H _ _ _ _ u (zZ _ _ _ _) r (Step.cut.trans S)
  .exact call r y q.1 q.2 hb λv bL t x g' w' u r S=>H _ _ _ _ u (zZ _ _ _ _) (by rw[KB]at r;exact r) (Step.cut.trans S)
end
section
variable {ro:Option Nat}{m:Nat}
def p5{f:FuncId}(h:fL P f=true)(xs:Array Value)(w:World):(callFunc f xs).run P w=.ok (.enter f xs) w:=by
 unfold fL at h;cases d:P.funcs[f]? with
 |none=>simp[d]at h
 |some fn=>
  simp only[d,aX,tU,ne_eq]at h;have hb:fn.body.isNone=false:=by
   cases e:fn.body with
   |none=>simp[e]at h
   |some c=>rfl
  have j:(fn.name== "runtime.NumGoroutine")=false:=by simpa using h.2
  simp only[callFunc,Sem.run_bind,run_program,Result.andThen_ok,d,j,hb,bM,cE,Sem.run_pure]
def I3(R:Rel GL g s a w){l:List Operand}{d:List eO}(h:yr GL l=some d)(r:d.all (λx=> !(s.val x).dW)=true):
 (l.map a.eval).toArray.size=(d.map s.val).length/\∀(j:Nat) v x,(d.map s.val)[j]?=some v->(l.map a.eval).toArray[j]?=some x->VR g v x:=by
 obtain⟨t,u⟩:=Ai R h;refine⟨by simp[t],λj v x f p=>?_⟩;rw[bB]at f;simp only[fC,bB]at p;obtain⟨y,q,rfl⟩:=bS.1 f;obtain⟨z,D,rfl⟩:=bS.1 p;refine(u j y z q D).oh ?_;intro i k m H;have:=bP.1 r y (bT q);rw[H]at this;simp[V.dW]at this
def PW{L:BY}{K:St->Prop}(h:Yl P GL hs o=some L)(N:∀d,o.dst=some d->d<s.n)(l:Cv P GL s o.dst L K)(R:Rel GL g s a w)
 {next:Act->World->Prop} {Q:Exit->Act->World->Prop} (z:∀g' s' a' w',K s'->s'.n=s.n->Rel GL g' s' a' w'->Step g w g' w'->next a' w'):Oper.go ro m P o a w next Q:=by
 have p:(Wa P GL hs o).map BY.ex=some L->Oper.go ro m P o a w next Q:=by
  intro hm;obtain⟨b,hb,rfl⟩:=dn hm;simp only[Cv]at l;split at l
  next s' ab=>
   obtain⟨x,w',g',u,aD,a0⟩:=My hb N ab R;unfold Oper.go;rcases u with u|⟨u,rfl⟩
   .rw[u,Oper.uponIn_value];exact z g' s' _ w' l (I2 ab) aD a0
   .rw[u,Oper.uponIn_skip];exact z g' s' _ w' l (I2 ab) aD a0
  .cases l
 unfold Yl at h;split at h
 next c hop=>
  have hm:c.args.map a.eval=(c.args.toList.map a.eval).toArray:=by apply jG;simp
  split at h
  next f q=>
   split at h
   next r=>obtain⟨args,ac,rfl⟩:=dn h;obtain⟨ad,ai⟩:=l;obtain⟨D,aA⟩:=I3 R ac ad;refine Da ai N R ?_ D aA z;unfold execOp;rw[hop];simp only[resolve,q,hm];show(do let d<-Deferred.ofValue (.func (.func f) #[] #[]) (c.args.toList.map a.eval).toArray;invoke d.target d.args:Sem Next).run P w=_;simp only[Deferred.ofValue,pure_bind,invoke];rw[p5 r];simp
   .cases h
  next x a5 q=>
   split at h
   next y a2=>
    obtain⟨args,ac,rfl⟩:=dn h;simp only[Cv]at l;split at l
    next f cap aB=>
     obtain⟨r,ad,ai⟩:=l;obtain⟨D,aA⟩:=I3 R ac ad;have hx:=cv R a2;rw[aB]at hx;obtain⟨xs,a1,a3,a4⟩:=hx.fn
     .refine Da (xs:=(c.args.toList.map a.eval).toArray++xs) ai N R ?_ (by
       simp only[kS,ae,D,a3]) (λj v x H t=>?_) z
      .unfold execOp;rw[hop];simp only[resolve,q,hm,a1,Deferred.ofValue,pure_bind,invoke];rw[p5 r];simp
      .rw[fI]at H;rw[kY]at t;rw[D]at t;split at H
       next aC=>rw[ax aC]at t;exact aA j v x H t
       next aC=>rw[an aC]at t;exact a4 _ v x H t
    .cases l
   .cases h
  .exact p h
 .exact p h
def Hx{c:Call}(h:o.op=.defer c):MT P GL hs o=some .bad:=by
 simp[MT,Yl,Wa,yy,PO,PP,h]
def Fz{r:BY}{K:St->Prop}(h:MT P GL hs o=some r)(hd:∀d,o.dst=some d->d<s.n)(f:Cv P GL s o.dst r K)(R:Rel GL g s a w)
 {next:Act->World->Prop} {Q:Exit->Act->World->Prop} (hn:∀g' s' a' w',K s'->s'.n=s.n->Rel GL g' s' a' w'->Step g w g' w'->next a' w'):o.wpIn (FW ro) m P a w next Q:=by
 refine⟨λ_ _=>trivial,?_⟩;have q:Oper.semAt ro a.eval o=execOp a.eval o:=by
  refine Oper.semAt_eq _ _ _ λc u=>?_;rw[Hx u]at h;cases h;exact f
 show o.uponIn (FW ro) m P a next Q ((Oper.semAt ro a.eval o).run P w);rw[q];show Oper.go ro m P o a w next Q;simp only[MT,co]at h;cases ho:Yl P GL hs o with
 |none=>
  rw[ho]at h;simp only at h;split at h
  next hx t=>
   subst h;simp only[Cv,HX.outs]at f;cases j:hx.act s with
   |none=>simp[j]at f
   |some l=>
    simp only[j,bG]at f;obtain⟨p,E,x,w',g',h1,h2,h3,h4,h5⟩:=Yi t j R;have hK:=uu f ((s.ct p.2.2).ret o.dst p.1 p.2.1) (cG.2 ⟨p,E,rfl⟩);exact Wp
  .split at h
   next m hm=>subst h;obtain⟨v,bL,y,hK,x,w',g',h1,h2,h3,h4,h5⟩:=Yj hm f R;exact Wp
   .subst h;exact f.elim
 |some b=>rw[ho]at h;simp at h;subst h;exact PW ho hd f R hn
def I4(R:Rel GL g s a w){dst:Option Nat}(f:∀d,dst=some d->d<s.n):Rel GL g (s.skip dst) (a.put dst undef) w:=
 R.retv f .qr bR
def Hy(s:St)(d:Option Nat):(s.skip d).n=s.n:=zZ _ _ _ _
def AM{ops:Array Oper}:∀{l:List Nat} {N:List BI} {s:St} {K:St->Prop} {g:aW} {a:Act} {w:World},C9 P GL hs s.n ops l=some N->vB P GL N s K->Rel GL g s a w->
 ∀{Q:Exit->Act->World->Prop},(∀g' s' a' w',K s'->s'.n=s.n->Rel GL g' s' a' w'->Step g w g' w'->Q .normal a' w')->wpOpsIn (FW ro) m P ops Q l a w
 |[],N,s,K,g,a,w,j,hv,R,Q,ab=>by
  simp[C9]at j;subst j;exact ab g s a w hv rfl R (Step.refl g w)
 |i::l,N,s,K,g,a,w,j,hv,R,Q,ab=>by
  simp only[C9]at j;split at j
  next b ad p aB=>
   cases j;cases aA:ops[i]? with
   |none=>simp[aA]at p
   |some o=>
    simp only[aA,gw,wR]at p;split at p
    next aD gd aC Wl=>
     split at p
     next t=>
      cases p;have ac:∀d,o.dst=some d->d<s.n:=by
       intro d ac;rw[ac]at t;simpa using t
      have D1:Cv P GL s o.dst aD (λs'=>vB P GL ad s' K)->o.wpIn (FW ro) m P a w (wpOpsIn (FW ro) m P ops Q l) Q:=λf=>
       Fz aC ac f R (λg' s' a' w' a0 ai a1 a2=>AM (by rw[ai];exact aB) a0 a1 (λu y z D q r H L=>ab u y z D q (r.trans ai) H (a2.trans L)))
      have zY:vB P GL ad (s.skip o.dst) K->wpOpsIn (FW ro) m P ops Q l (a.put o.dst undef) w:=λf=>
       AM (by rw[Hy];exact aB) f (I4 R ac) (λu y z D q r H L=>ab u y z D q (r.trans (Hy _ _)) H L)
      simp only[wpOpsIn,aA];simp only[vB]at hv;exact bb0
     .cases p
    .cases p
  .cases j
end
end
end
section
variable {GL:Nat->Option (List V)}{P:Program}
def eO.reads:eO->List Nat
 |.tmp t=>[t]
 |_=>[]
def uv:Option eO->List Nat
 |some x=>x.reads
 |none=>[]
def rB:List eO->List Nat
 |[]=>[]
 |x::r=>x.reads++rB r
def Ei:List (Nat×Nat×eO)->List Nat
 |[]=>[]
 |(_,_,x)::r=>x.reads++Ei r
def AN:List (Nat×eO)->List Nat
 |[]=>[]
 |(_,x)::r=>x.reads++AN r
def vQ.reads:vQ->List Nat
 |.move x|.same x|.nilCheck x|.un _ x|.toInt _ x|.CN x|.nQ _ x|.fieldAddr _ x|.field _ _ _ x|.len x|.cap x|.Mm x|.extract x _|.wE _ x|.load _ _ x=>x.reads
 |.pick c a b=>c.reads++(a.reads++b.reads)
 |.bin _ x y|.V8 _ x y|.V9 _ x y|.eqc _ _ x y|.sv _ x y|.rX _ _ x y|.xJ x y|.tX _ _ _ x y|.min2 x y|.max2 x y=>x.reads++y.reads
 |.cut _ x lo d|.D5 x lo d=>x.reads++(uv lo++uv d)
 |.Mn _=>[]
 |.build _ parts=>Ei parts
 |.Ae _ caps=>rB caps
def ga(s s':St)(l:List Nat):Prop:=∀t∈l,s'.Z t=s.Z t
def ga.append{s s':St}{l m:List Nat}:ga s s' (l++m)↔ga s s' l/\ga s s' m:=by
 simp only[ga,aR,or_imp,forall_and]
def ga.val{s s':St}{x:eO}(h:ga s s' x.reads):s'.val x=s.val x:=by
 cases x with
 |tmp t=>exact h t (by simp[eO.reads])
 |const v=>rfl
 |kn c=>rfl
def AO{s s':St}{lo a:Option eO}(d:ga s s' (uv lo))(h2:ga s s' (uv a))(n:Nat):tr s' n lo a=tr s n lo a:=by
 cases lo<;>cases a<;>simp only[uv]at d h2<;>simp only[tr]
 .rw[h2.val]
 .rw[d.val]
 .rw[d.val,h2.val]
def FA{s s':St}{lo a:Option eO}(d:ga s s' (uv lo))(h2:ga s s' (uv a))(n c:Nat):tY s' n c lo a=tY s n c lo a:=by
 cases lo<;>cases a<;>simp only[uv]at d h2<;>simp only[tY]
 .rw[h2.val]
 .rw[d.val]
 .rw[d.val,h2.val]
def uw{s s':St}:∀{parts:List (Nat×Nat×eO)} {cells:List V},ga s s' (Ei parts)->jQ s' cells parts=jQ s cells parts
 |[],_,_=>rfl
 |(off,n,x)::r,cells,h=>by
  simp only[Ei,ga.append]at h;simp only[jQ,h.1.val];split
  .exact uw h.2
  .rfl
def rC{s s':St}{sz:Nat}:∀{parts:List (Nat×eO)} {xs:List V},ga s s' (AN parts)->iP s' sz xs parts=iP s sz xs parts
 |[],_,_=>rfl
 |(i,x)::r,xs,h=>by
  simp only[AN,ga.append]at h;simp only[iP,h.1.val];split
  .exact rC h.2
  .rfl
def r3{s s':St}:∀{l:List eO},ga s s' (rB l)->l.map s'.val=l.map s.val
 |[],_=>rfl
 |x::r,h=>by
  simp only[rB,ga.append]at h;simp only[bw,h.1.val,r3 h.2]
def r4{s s':St}(p:V->Bool):∀{l:List eO},ga s s' (rB l)->l.all (λx=>p (s'.val x))=l.all (λx=>p (s.val x))
 |[],_=>rfl
 |x::r,h=>by
  simp only[rB,ga.append]at h;simp only[bN,h.1.val,r4 p h.2]
def iC(s s':St):Prop:=∀u cs,s.iN u=some cs->s'.iN u=some cs
def KC{s s':St}{b:vQ}{v:V}(h:ga s s' b.reads)(j:(∃g n x,b=.load g n x)->iC s s')(E:dw s b=some v):dw s' b=some v:=by
 cases b with
 |load ag n x=>
  have hx:=ga.val (x:=x) h;have d:=j ⟨_,_,_,rfl⟩;cases ag
  .simp only[dw]at E ⊢
   rw[hx];split at E
   next c r e=>rw[d _ _ e];exact E
   .cases E
  .simp only[dw]at E ⊢
   rw[hx];split at E
   next cs e=>rw[d _ _ e];exact E
   .cases E
 |pick c a b=>
  simp only[vQ.reads,ga.append]at h;simpa only[dw,h.1.val,h.2.1.val,h.2.2.val]using E
 |build z parts=>simpa only[dw,uw (parts:=parts) h]using E
 |Ae f caps=>simpa only[dw,r3 (l:=caps) h,r4 V.one (l:=caps) h]using E
 |cut sz x lo o=>
  simp only[vQ.reads,ga.append]at h;simpa only[dw,h.1.val,AO h.2.1 h.2.2,FA h.2.1 h.2.2]using E
 |D5 x lo o=>
  simp only[vQ.reads,ga.append]at h;simpa only[dw,h.1.val,AO h.2.1 h.2.2]using E
 |Mn n=>exact E
 |bin op x y=>simp only[vQ.reads,ga.append]at h;simpa only[dw,h.1.val,h.2.val]using E
 |V8 op x y=>simp only[vQ.reads,ga.append]at h;simpa only[dw,h.1.val,h.2.val]using E
 |V9 op x y=>simp only[vQ.reads,ga.append]at h;simpa only[dw,h.1.val,h.2.val]using E
 |eqc op p x y=>simp only[vQ.reads,ga.append]at h;simpa only[dw,h.1.val,h.2.val]using E
 |sv sz x y=>simp only[vQ.reads,ga.append]at h;simpa only[dw,h.1.val,h.2.val]using E
 |rX n sz x y=>simp only[vQ.reads,ga.append]at h;simpa only[dw,h.1.val,h.2.val]using E
 |xJ x y=>simp only[vQ.reads,ga.append]at h;simpa only[dw,h.1.val,h.2.val]using E
 |tX ag n sz x y=>simp only[vQ.reads,ga.append]at h;cases ag<;>simpa only[dw,h.1.val,h.2.val]using E
 |min2 x y=>simp only[vQ.reads,ga.append]at h;simpa only[dw,h.1.val,h.2.val]using E
 |max2 x y=>simp only[vQ.reads,ga.append]at h;simpa only[dw,h.1.val,h.2.val]using E
 |field ag off n x=>have hx:=ga.val (x:=x) h;cases ag<;>simpa only[dw,hx]using E
 |move x=>have hx:=ga.val (x:=x) h;simpa only[dw,hx]using E
 |same x=>have hx:=ga.val (x:=x) h;simpa only[dw,hx]using E
 |nilCheck x=>have hx:=ga.val (x:=x) h;simpa only[dw,hx]using E
 |un op x=>have hx:=ga.val (x:=x) h;simpa only[dw,hx]using E
 |toInt k x=>have hx:=ga.val (x:=x) h;simpa only[dw,hx]using E
 |CN x=>have hx:=ga.val (x:=x) h;simpa only[dw,hx]using E
 |nQ n x=>have hx:=ga.val (x:=x) h;simpa only[dw,hx]using E
 |fieldAddr off x=>have hx:=ga.val (x:=x) h;simpa only[dw,hx]using E
 |len x=>have hx:=ga.val (x:=x) h;simpa only[dw,hx]using E
 |cap x=>have hx:=ga.val (x:=x) h;simpa only[dw,hx]using E
 |Mm x=>have hx:=ga.val (x:=x) h;simpa only[dw,hx]using E
 |extract x i=>have hx:=ga.val (x:=x) h;simpa only[dw,hx]using E
 |wE t x=>have hx:=ga.val (x:=x) h;simpa only[dw,hx]using E
def BX.reads:BX->List Nat
 |.val b=>b.reads
 |.IV x|.ld x|.xP x|.box _ x|.Hn _ x|.sw x=>x.reads
 |.alloc _=>[]
 |.store _ x y|.app _ x y=>x.reads++y.reads
 |.ug _ _ _ parts=>AN parts
def HX.reads:HX->List Nat
 |.AB _|.mkMap=>[]
 |.dZ _ x|.wK _ x=>x.reads
 |.lookup _ _ _ _ m k|.mapEntry _ _ _ m k=>m.reads++k.reads
 |.sA _ _ m k v|.entryStore m k v=>m.reads++(k.reads++v.reads)
def KD{s s':St}{h:HX}(a:ga s s' h.reads)(d:s'.E=s.E):h.act s'=h.act s:=by
 cases h with
 |AB zs=>simp only[HX.act,d]
 |mkMap=>simp only[HX.act,d]
 |dZ n x=>have:=ga.val (x:=x) a;simp only[HX.act,d,this]
 |wK n x=>have:=ga.val (x:=x) a;simp only[HX.act,d,this]
 |lookup f ag z ok m k=>simp only[HX.reads,ga.append]at a;simp only[HX.act,d,a.1.val,a.2.val]
 |mapEntry f ag z m k=>simp only[HX.reads,ga.append]at a;simp only[HX.act,d,a.1.val,a.2.val]
 |sA f ag m k v=>simp only[HX.reads,ga.append]at a;simp only[HX.act,d,a.1.val,a.2.1.val,a.2.2.val]
 |entryStore m k v=>simp only[HX.reads,ga.append]at a;simp only[HX.act,d,a.1.val,a.2.1.val,a.2.2.val]
def MX.reads:MX->List Nat
 |.v1 _ _ x y|.yD _ _ x y|.copy _ x y|.Wb _ x y|.Kz x y=>x.reads++y.reads
 |.clear _ _ x|.jv x|.next x|.entry x=>x.reads
 |.Tf _ _ _ a=>AN a
def MU{s s':St}{m:MX}{Q:V->Bool->aJ->Prop}(a:ga s s' m.reads)(d:s'.E=s.E):m.wp s' Q=m.wp s Q:=by
 cases m with
 |v1 sz zs x y=>simp only[MX.reads,ga.append]at a;simp only[MX.wp,d,a.1.val,a.2.val]
 |yD sz zs x y=>simp only[MX.reads,ga.append]at a;simp only[MX.wp,d,a.1.val,a.2.val]
 |copy sz x y=>simp only[MX.reads,ga.append]at a;simp only[MX.wp,d,a.1.val,a.2.val]
 |clear sz zs x=>have:=ga.val (x:=x) a;simp only[MX.wp,d,this]
 |jv x=>have:=ga.val (x:=x) a;simp only[MX.wp,d,this]
 |Wb sz x y=>simp only[MX.reads,ga.append]at a;simp only[MX.wp,d,a.1.val,a.2.val]
 |Kz x y=>simp only[MX.reads,ga.append]at a;simp only[MX.wp,d,a.1.val,a.2.val]
 |Tf sz z n f=>simp only[MX.wp,d,rC (parts:=f) a]
 |next x=>have:=ga.val (x:=x) a;simp only[MX.wp,d,this]
 |entry x=>have:=ga.val (x:=x) a;simp only[MX.wp,d,this]
def BY.reads:BY->List Nat
 |.ex b=>b.reads
 |.call _ args=>rB args
 |.qH x args=>x.reads++rB args
 |.bad=>[]
 |.hx h=>h.reads
 |.mx m=>m.reads
def AP:Option (Nat×Bool)->List Nat
 |some (t,_)=>[t]
 |none=>[]
def BI.reads(b:BI):List Nat:=AP b.guard++b.op.reads
def BX.qI:Option Nat->BX->Bool
 |_,.val _=>true
 |some _,.IV _|some _,.ld _|some _,.ug .. |some _,.Hn .. |some _,.sw _=>true
 |_,_=>false
def BX.sF:BX->Bool
 |.ld _|.val (.load ..)=>true
 |_=>false
def BX.sG:BX->Bool
 |.store .. =>true
 |_=>false
def BX.act(s:St):BX->Option (V×Option Loc×Bool)
 |.val b=>(dw s b).map λv=>(v,none,false)
 |.IV x=>some (s.val x,varOf x,false)
 |.ld a=>match s.iN (s.val a)with
  |some (c::_)=>some (c,yA (s.val a),false)
  |_=>none
 |.ug sz z n parts=>(iP s sz (List.replicate n z) parts).map λd=>(.sl sz d,none,true)
 |.Hn n x=>if jR n (s.val x)=true then some (.ep (s.val x).cells,none,false)else none
 |.sw x=>match s.val x with
  |.str l=>if l.length<=ir then some (.sl 1 (l.map λb=>.int .u8 b.toNat),none,true)else none
  |_=>none
 |_=>none
def St.AQ(s:St)(dst:Option Nat)(v:V)(l:Option Loc)(bL:Bool):St:=
 match dst with
 |some d=>s.put d v l bL
 |none=>s
def xY{s:St}{dst:Option Nat}{a:BX}(h:a.qI dst=true):iG s dst a=(a.act s).map λ(v,l,o)=>s.AQ dst v l o:=by
 cases dst with
 |none=>cases a<;>simp[BX.qI]at h<;>simp only[iG,BX.act]<;>(rename_i b;cases dw s b<;>rfl)
 |some d=>
  cases a<;>simp[BX.qI]at h<;>simp only[iG,BX.act]
  next b=>cases dw s b<;>rfl
  .rfl
  next x=>rcases s.iN (s.val x)with _|_|⟨c,r⟩<;>rfl
  next sz z n parts=>cases iP s sz (List.replicate n z) parts<;>rfl
  next n x=>by_cases h:jR n (s.val x)=true<;>simp[h]<;>rfl
  next x=>cases s.val x<;>simp;rename_i l;by_cases f:l.length<=ir<;>simp[f]<;>rfl
def FB{s s':St}{d:BX}{r:V×Option Loc×Bool}(h:ga s s' d.reads)(f:d.sF=true->iC s s')(a:d.act s=some r):d.act s'=some r:=by
 cases d<;>simp only[BX.act]at a ⊢ <;>try(cases a;done)
 next b=>obtain⟨v,j,rfl⟩:=dn a;rw[KC h (by rintro⟨_,_,_,rfl⟩;exact f rfl) j];rfl
 next x=>rw[ga.val (x:=x) h];exact a
 next x=>
  rw[ga.val (x:=x) h];split at a
  next c l e=>rw[f rfl _ _ e];exact a
  .cases a
 next sz z n parts=>rw[rC (parts:=parts) h];exact a
 next n x=>rw[ga.val (x:=x) h];exact a
 next x=>rw[ga.val (x:=x) h];exact a
def FC{s:St}{d:BX}{v:V}{l:Loc}{o:Bool}(a:d.act s=some (v,some l,o)):(∃t,l=.var t/\t∈d.reads)\/(d.sF=true/\∀t,l≠.var t):=by
 cases d<;>simp only[BX.act]at a<;>try(cases a;done)
 .obtain⟨_,_,e⟩:=dn a;cases e
 next x=>cases x<;>simp[varOf]at a;obtain⟨_,rfl,_⟩:=a;exact .inl ⟨_,rfl,by simp[BX.reads,eO.reads]⟩
 next x=>
  split at a
  .simp only[co,eg]at a;obtain⟨_,e,_⟩:=a;refine .inr ⟨rfl,?_⟩;intro t f;subst f
   revert e;cases s.val x<;>simp[yA]
  .cases a
 .obtain⟨_,_,e⟩:=dn a;cases e
 .split at a<;>cases a
 .split at a
  .split at a<;>cases a
  .cases a
def put_comm{s:St}{d e:Nat}{v v':V}{l l':Option Loc}{o o':Bool}(hde:d≠e)(f:l≠some (.var e))(h2:l'≠some (.var d)):
 (s.put d v l o).put e v' l' o'=(s.put e v' l' o').put d v l o:=by
 have hed:e≠d:=λh=>hde h.symm;unfold St.put;simp only[St.mk.injEq,cF,bK]
 and_intros
 .exact WT
 .funext t;by_cases ht:t=e
  .subst ht;simp only[eR,unlink,an hed,bQ];by_cases a:l'=some (.var t)
   .simp[a]
   .simp[a,h2]
  .by_cases ht':t=d
   .subst ht';simp only[eR,unlink,an hde,bQ];by_cases a:l=some (.var t)
    .simp[a]
    .simp[a,f]
   .simp only[eR,unlink,an ht,an ht'];by_cases a:s.lk t=some (.var d)<;>by_cases j:s.lk t=some (.var e)<;>simp[a,j,hed,hde]
 .exact WT
def wS{s:St}{d:Nat}{v:V}{l:Option Loc}{o:Bool}{r:List Nat}(h:d∉r):ga (s.put d v l o) s r:=by
 intro t a;have:t≠d:=λe=>h (e▸a);simp[this]
def KE{s:St}{d:Nat}{v:V}{l:Option Loc}{o:Bool}:iC (s.put d v l o) s:=λu cs h=>by
 cases u<;>simp only[St.iN]at h ⊢ <;>exact h
def iC.refl(s:St):iC s s:=λ_ _ h=>h
def iC.put(s:St)(d:Nat)(v:V)(l:Option Loc)(o:Bool):iC s (s.put d v l o):=λu cs h=>by
 cases u<;>simp only[St.iN]at h ⊢ <;>exact h
def wT(s:St)(d:Nat)(cells:List V):iC s (s.fG d cells):=λu cs h=>by
 cases u<;>simp only[St.iN]at h ⊢ <;>try exact h
 rename_i st a off;split at h
 next l=>
  have f:¬(st=d/\a=s.G d):=λo=>by obtain⟨rfl,rfl⟩:=o;omega
  have j:a< (s.fG d cells).G st:=by
   simp only[St.fG,eR];split
   next p=>subst p;omega
   .exact l
  simp only[j,bQ];have:(s.fG d cells).loc st a=s.loc st a:=by simp only[St.fG,l9,an f]
  rw[this];exact h
 .cases h
def AR{s:St}{d e:Nat}{v:V}{l:Option Loc}{o:Bool}{cells:List V}:(s.put d v l o).fG e cells=(s.fG e cells).put d v l o:=rfl
def PX{s:St}{d e:Nat}{v:V}{l:Option Loc}{o:Bool}{x:eO}(a:d≠e)(hx:d∉x.reads)(j:l≠some (.var e)):
 (s.put d v l o).xP e x=(s.xP e x).put d v l o:=by
 cases x with
 |tmp t=>
  have f:t≠d:=λh=>hx (by simp[eO.reads,h]);simp only[St.xP];rw[show(s.put d v l o).Z t=s.Z t by simp[f]];have:=put_comm (s:=s) (v:=v) (v':=s.Z t) (l:=l) (l':=none) (o:=o) (o':=false) a j bR;have p:((s.put d v l o).put e (s.Z t) none false).Z=((s.put e (s.Z t) none false).put d v l o).Z:=by rw[this]
  have q:((s.put d v l o).put e (s.Z t) none false).lk=((s.put e (s.Z t) none false).put d v l o).lk:=by rw[this]
  unfold St.put at p q ⊢
  simp only[St.mk.injEq,cF,bK];refine⟨p,q,?_⟩;funext k;simp only[eR];by_cases r:k=e
  .subst r;simp[f,hU a]
  .by_cases u:k=d
   .subst u;simp[a,hU f]
   .simp[r,u]
 |const c=>exact put_comm a j bR
 |kn c=>exact put_comm a j bR
def wU{lk:Nat->Option Loc}{d:Nat}{l:Option Loc}(q:∀k,l=some k->∃t,k=.var t)(inr:Loc->Bool)(o:∀t,inr (.var t)=false):
 iO (eR (unlink lk (.var d)) d (if l=some (.var d)then none else l)) inr=eR (unlink (iO lk inr) (.var d)) d (if l=some (.var d)then none else l):=by
 funext t;by_cases f:t=d
 .subst f;simp only[iO,bl];by_cases a:l=some (.var t)
  .simp[a]
  .simp only[an a];cases l with
   |none=>rfl
   |some k=>obtain⟨u,rfl⟩:=q k rfl;simp[o]
 .rw[bE _ _ f];by_cases a:lk t=some (.var d)
  .have p:eR (unlink lk (.var d)) d (if l=some (.var d)then none else l) t=none:=by rw[bE _ _ f];simp[unlink,a]
   have j:iO lk inr t=some (.var d):=by unfold iO;rw[a];simp[o]
   unfold iO at j ⊢;rw[p];simp only[unlink];unfold iO at*;rw[j];simp
  .have p:eR (unlink lk (.var d)) d (if l=some (.var d)then none else l) t=lk t:=by rw[bE _ _ f];simp[unlink,a]
   have j:iO lk inr t≠some (.var d):=λe=>a (fE e).1;simp only[unlink,an j];unfold iO;rw[p]
def KF{s a:St}{d n:Nat}{v u:V}{l:Option Loc}{o:Bool}{x:eO}(hx:d∉x.reads)(p:∀k,l=some k->∃t,k=.var t)(h:(s.put d v l o).store n u x=some a):
 ∃s2,s.store n u x=some s2/\a=s2.put d v l o/\∀t,s2.Z t=s.Z t:=by
 have f:(s.put d v l o).val x=s.val x:=by
  cases x with
  |tmp t=>
   have:t≠d:=λe=>hx (by simp[eO.reads,e]);simp[St.val,this]
  |const c=>rfl
  |kn c=>rfl
 have hcut:=λinr j=>wU (lk:=s.lk) (d:=d) p inr j;have hfl:∀t,t≠d->eR (eR s.fl d o) t false=eR (eR s.fl t false) d o:=by
  intro t q;funext k;simp only[eR];by_cases r:k=t<;>by_cases y:k=d<;>simp_all
 unfold St.store at h ⊢
 cases u with
 |A st z off=>
  simp only[f,St.IR,St.IQ]at h ⊢
  split at h
  next hcnd=>
   rw[ax hcnd];cases h;refine⟨_,rfl,?_,?_⟩
   .split
    .cases x with
     |tmp t=>
      have htd:t≠d:=λe=>hx (by simp[eO.reads,e]);simp only[St.ol,St.hZ,St.put,St.mk.injEq,cF,bK];exact Xe
     |const c=>simp only[St.ol,St.hZ,St.put,St.mk.injEq,cF,bK];exact hcut _ (λ_=>rfl)
     |kn c=>simp only[St.ol,St.hZ,St.put,St.mk.injEq,cF,bK];exact hcut _ (λ_=>rfl)
    .simp only[St.hZ,St.put,St.mk.injEq,cF,bK];exact hcut _ (λ_=>rfl)
   .intro t;split<;>(try cases x)<;>rfl
  .cases h
 |bp id off=>
  simp only[f,St.Mp]at h ⊢
  split at h
  next cells hb=>
   split at h
   next hcnd=>
    rw[ax hcnd];cases h;refine⟨_,rfl,?_,?_⟩
    .split
     .cases x with
      |tmp t=>
       have htd:t≠d:=λe=>hx (by simp[eO.reads,e]);simp only[St.wI,St.jY,St.put,St.mk.injEq,cF,bK];exact Xe
      |const c=>simp only[St.wI,St.jY,St.put,St.mk.injEq,cF,bK];exact hcut _ (λ_=>rfl)
      |kn c=>simp only[St.wI,St.jY,St.put,St.mk.injEq,cF,bK];exact hcut _ (λ_=>rfl)
     .simp only[St.jY,St.put,St.mk.injEq,cF,bK];exact hcut _ (λ_=>rfl)
    .intro t;split<;>(try cases x)<;>rfl
   .cases h
  .cases h
 |_=>simp at h
end
section
variable {GL:Nat->Option (List V)}{P:Program}
def yF(s:St)(l:Loc):(s.dP l).Z=s.Z:=by cases l<;>rfl
def Cw(s:St)(l:Loc):iC s (s.dP l):=λu cs h=>by
 cases l<;>exact h
def FD{s:St}{d:Nat}{v:V}{l:Option Loc}{o:Bool}{k:Loc}(h:k≠.var d):(s.put d v l o).dP k=(s.dP k).put d v l o:=by
 cases k with
 |var t=>
  have a:t≠d:=λe=>h (by rw[e]);simp only[St.dP,St.put,St.mk.injEq,cF,bK];funext j;simp only[eR];by_cases f:j=t<;>by_cases p:j=d<;>simp_all
 |cell st q j=>rfl
 |iI id j=>rfl
 |ret=>rfl
def KG{s:St}{d t:Nat}{v:V}{l:Option Loc}{o:Bool}{k:Loc}(a:t≠d)(h:(s.put d v l o).p4 t=some k):s.p4 t=some k/\k≠.var d:=by
 unfold St.p4 at*
 simp only[St.Af,an a]at h;by_cases p:s.fl t=true
 .simp only[p,bQ]at h ⊢
  cases h;exact⟨rfl,λe=>a (by injection e)⟩
 .simp only[p]at h ⊢
  have r:(s.put d v l o).lk t=if s.lk t=some (.var d)then none else s.lk t:=by
   simp only[St.put,bE _ _ a,unlink]
  rw[r]at h;by_cases f:s.lk t=some (.var d)
  .simp[f]at h
  .simp only[f,cE]at h;cases j:s.lk t with
   |none=>simp[j]at h
   |some q=>
    simp only[j]at h ⊢
    have y:q≠.var d:=λe=>f (by rw[j,e]);have z:(s.put d v l o).iF q=s.iF q:=by
     cases q with
     |var u=>
      have:u≠d:=λe=>y (by rw[e]);simp[St.iF,this]
     |_=>rfl
    rw[z]at h;by_cases D:s.iF q=true
    .simp only[D,bQ]at h ⊢
     cases h;exact⟨rfl,y⟩
    .simp[D]at h
def zJ{s:St}{d:Nat}{v:V}{l:Option Loc}{o:Bool}{x:eO}(h:d∉x.reads):(s.put d v l o).val x=s.val x:=(ga.val (x:=x) (wS h)).symm
def PY{s q:St}{d e sz:Nat}{v:V}{l:Option Loc}{o:Bool}{x y:eO}(a:d≠e)(hx:d∉x.reads)(K:d∉y.reads)(r:l≠some (.var e))
 (h:(s.put d v l o).app e sz x y=some q):∃s2,s.app e sz x y=some s2/\q=s2.put d v l o/\(∀t,t≠e->s2.Z t=s.Z t)/\iC s s2:=by
 unfold St.app at h ⊢
 simp only[zJ hx,zJ K]at h;split at h
 next L f j=>
  split at h
  next hlen=>cases h;simp only[f,j,ax hlen];exact⟨_,rfl,put_comm a r bR,λt p=>by simp[p],.put _ _ _ _ _⟩
  .cases h
 next ab ac L f j=>
  split at h
  next N=>
   split at h
   next t=>
    have z:t≠d:=λe=>hx (by simp[eO.reads,e]);split at h
    next k Q=>cases h;obtain⟨D,H⟩:=KG z Q;simp only[f,j,ax N,D];refine⟨_,rfl,?_,λt p=>by simp[p,yF],λu cs R=>iC.put _ _ _ _ _ _ _ (Cw s k u cs R)⟩;rw[FD H];exact put_comm a r bR
    .cases h
   .cases h
  .cases h
 .cases h
def Hz{s R:St}{d:Nat}{v:V}{l:Option Loc}{o:Bool}{dst:Option Nat}{p:BX}(h:iG (s.put d v l o) dst p=some R)(D:d∉p.reads)(ab:dst≠some d)
 (H:∀e,dst=some e->l≠some (.var e)) (aA:p.sG=true->∀k,l=some k->∃t,k=.var t):
 ∃s2,iG s dst p=some s2/\R=s2.put d v l o/\(∀t,dst≠some t->s2.Z t=s.Z t)/\(p.sG=false->iC s s2):=by
 by_cases r:p.qI dst=true
 .rw[xY r]at h ⊢
  obtain⟨⟨aD,a0,a1⟩,ac,rfl⟩:=dn h;have ad:=FB (wS D) (λ_=>KE) ac;rw[ad];refine⟨_,rfl,?_⟩;cases dst with
  |none=>exact⟨rfl,λ_ _=>rfl,λ_=>.refl s⟩
  |some e=>
   have f:d≠e:=λa=>ab (by rw[a]);refine⟨put_comm f (H e rfl) ?_,λt j=>?_,λ_=>.put _ _ _ _ _⟩
   .intro a;subst a;rcases FC ac with⟨t,aB,K⟩|⟨_,K⟩
    .cases aB;exact D K
    .exact K _ rfl
   .have:t≠e:=λa=>j (by rw[a]);simp[St.AQ,this]
 .cases dst with
  |none=>
   cases p<;>simp[BX.qI]at r<;>simp only[iG]at h<;>try(cases h;done)
   rename_i n addr x;have q:d∉addr.reads/\d∉x.reads:=by simpa[BX.reads]using D
   rw[zJ q.1]at h;obtain⟨s2,L,N,Q⟩:=KF q.2 (aA rfl) h;exact⟨s2,L,N,λt _=>Q t,λa=>by simp[BX.sG]at a⟩
  |some e=>
   have f:d≠e:=λa=>ab (by rw[a]);cases p<;>simp[BX.qI]at r<;>simp only[iG]at h ⊢ <;>try(cases h;done)
   next x=>
    cases h;refine⟨_,rfl,PX f D (H e rfl),λt j=>?_,λ_ u cs z=>?_⟩
    .have:t≠e:=λa=>j (by rw[a]);cases x<;>simp[St.xP,this]
    .cases x with
     |tmp t=>exact iC.put s e (s.Z t) none false u cs z
     |const c=>exact iC.put s e c none false u cs z
     |kn c=>exact iC.put s e (.ep c) none false u cs z
   next zs=>
    cases h;refine⟨_,rfl,?_,λt j=>?_,λ_ u cs z=>iC.put _ _ _ _ _ u cs (wT s e zs u cs z)⟩
    .rw[AR];exact put_comm f (H e rfl) bR
    .have:t≠e:=λa=>j (by rw[a]);simp[this,St.fG]
   next n x=>
    rw[zJ D]at h;split at h
    next ai=>
     cases h;rw[ax ai];refine⟨_,rfl,?_,λt j=>?_,λ_ u cs z=>iC.put _ _ _ _ _ u cs (wT s e _ u cs z)⟩
     .rw[AR];exact put_comm f (H e rfl) bR
     .have:t≠e:=λa=>j (by rw[a]);simp[this,St.fG]
    .cases h
   next sz x y=>
    have q:d∉x.reads/\d∉y.reads:=by simpa[BX.reads]using D
    obtain⟨s2,L,N,Q,aC⟩:=PY f q.1 q.2 (H e rfl) h;exact⟨s2,L,N,λt j=>Q t (λa=>j (by rw[a])),λ_=>aC⟩
def r5(P:Program)(GL:ak)(pu:Bool)(f:FuncId)(args:List V)(s:St)(dst:Option Nat)(K:St->Prop):Prop:=
 (∃a v bL,aN args a/\Pure P GL f a v bL/\K (s.ret dst v bL))\/
 (pu=false/\∃a,aN args a/\lI P GL f a s.E λv bL d=>K ((s.ct d).ret dst v bL))\/
 (pu=false/\∃fz E a,jD fz s.E E/\zG fz args a/\((∃v bL,Pure P GL f a v bL/\K ((s.ct E).ret dst v bL))\/lI P GL f a E λv bL d=>K ((s.ct d).ret dst v bL)))
def r5.op{pu:Bool}{f:FuncId}{args:List V}{s:St}{dst:Option Nat}{K:St->Prop}(h:r5 P GL pu f args s dst K):Eh P GL f args s dst K:=
 h.imp id λh=>h.imp (λh=>h.2) (λh=>h.2)
def r5.mono{pu:Bool}{f:FuncId}{args:List V}{s:St}{dst:Option Nat}{K K':St->Prop}(h:r5 P GL pu f args s dst K)(p:∀s,K s->K' s):r5 P GL pu f args s dst K':=by
 rcases h with⟨a,v,o,d,j,l⟩|⟨q,a,d,j⟩|⟨q,fz,E,a,d,j,⟨v,o,l,r⟩|l⟩
 .exact .inl ⟨a,v,o,d,j,p _ l⟩
 .exact .inr (.inl ⟨q,a,d,j.mono λ_ _ _ h=>p _ h⟩)
 .exact .inr (.inr ⟨q,fz,E,a,d,j,.inl ⟨v,o,l,p _ r⟩⟩)
 .exact .inr (.inr ⟨q,fz,E,a,d,j,.inr (l.mono λ_ _ _ h=>p _ h)⟩)
def b4(P:Program)(GL:ak)(pu:Bool)(s:St)(dst:Option Nat)(op:BY)(K:St->Prop):Prop:=
 match op with
 |.call f args=>args.all (λx=> !(s.val x).dW)=true/\r5 P GL pu f (args.map s.val) s dst K
 |.qH x args=>match s.val x with
  |.fn f cap=>fL P f=true/\args.all (λx=> !(s.val x).dW)=true/\r5 P GL pu f (args.map s.val++cap) s dst K
  |_=>False
 |.ex op=>match iG s dst op with
  |some a=>K a
  |none=>False
 |.bad=>False
 |.hx h=>match h.outs s dst with
  |some l=>KA l K
  |none=>False
 |.mx m=>m.wp s λv o E=>K ((s.ct E).ret dst v o)
def AS{pu:Bool}{s:St}{dst:Option Nat}{op:BY}{K:St->Prop}(h:b4 P GL pu s dst op K):Cv P GL s dst op K:=by
 cases op with
 |ex b=>exact h
 |call f args=>exact⟨h.1,h.2.op⟩
 |bad=>exact h
 |hx a=>exact h
 |mx m=>exact h
 |qH x args=>
  simp only[b4]at h;simp only[Cv]
  revert h
  cases s.val x<;>intro h<;>first|exact⟨h.1,h.2.1,h.2.2.op⟩|exact h
def AT{pu:Bool}{s:St}{dst:Option Nat}{op:BY}{K K':St->Prop}(h:b4 P GL pu s dst op K)(a:∀s,K s->K' s):b4 P GL pu s dst op K':=by
 cases op with
 |ex b=>
  simp only[b4]at h ⊢
  split at h
  .exact a _ h
  .exact h
 |call f args=>exact⟨h.1,h.2.mono a⟩
 |bad=>exact h
 |hx d=>
  simp only[b4]at h ⊢
  cases e:d.outs s dst with
  |none=>rw[e]at h;exact h
  |some l=>rw[e]at h;exact zH λt j=>a _ (uu h t j)
 |mx m=>exact MX.mono (λ_ _ _ h=>a _ h) h
 |qH x args=>
  simp only[b4]at h ⊢
  revert h
  cases s.val x<;>intro h<;>first|exact⟨h.1,h.2.1,h.2.2.mono a⟩|exact h
def dr(P:Program)(GL:ak)(pu:Bool)(i:BI)(s:St)(K:St->Prop):Prop:=
 match i.guard with
 |none=>b4 P GL pu s i.dst i.op K
 |some (t,want)=>match s.Z t with
  |.bool b=>if b=want then b4 P GL pu s i.dst i.op K else K (s.skip i.dst)
  |.qr=>K (s.skip i.dst)
  |_=>False
def gU{pu:Bool}{i:BI}{s:St}{K K':St->Prop}(h:dr P GL pu i s K)(a:∀s,K s->K' s):dr P GL pu i s K':=by
 unfold dr at*
 split at h
 .exact AT h a
 .split at h
  .split at h
   next hb=>rw[ax hb];exact AT h a
   next hb=>rw[an hb];exact a _ h
  .exact a _ h
  .exact h
def BI.qI(b:BI):Bool:=b.dst.isSome&&match b.op with
 |.ex x=>x.qI b.dst
 |.hx _=>false
 |.mx _=>false
 |_=>true
def BI.sF(b:BI):Bool:=match b.op with
 |.ex x=>x.sF
 |_=>false
def BI.mem(pu:Bool)(b:BI):Bool:=match b.op with
 |.ex x=>x.sG
 |.hx _=>true
 |.mx _=>true
 |_=> !pu
def MV(a b:BI):Bool:=
 (match a.dst with|some d=> !(b.reads.contains d)&&b.dst !=some d|none=>true)&&
 (match b.dst with|some d=> !(a.reads.contains d)|none=>true)
def BI.Uw(b:BI):Bool:=match b.op with
 |.call .. =>true
 |.qH .. =>true
 |_=>false
def v6(pu:Bool)(a b:BI):Bool:=(pu|| !a.Uw)&&(a.qI&&MV a b&& !(a.sF&&b.mem pu))
def MW{i:BI}{s:St}{K:St->Prop}(E:i.qI=true)(h:dr P GL true i s K):∃v l o,K (s.AQ i.dst v l o)/\
 (∀k,l=some k->(∃t,k=.var t/\t∈i.reads)\/(i.sF=true/\∀t,k≠.var t))/\
 ∀(s2:St)(p:St->Prop),ga s s2 i.reads->(i.sF=true->iC s s2)->p (s2.AQ i.dst v l o)->dr P GL true i s2 p:=by
 have L:b4 P GL true s i.dst i.op K->∃v l o,K (s.AQ i.dst v l o)/\
  (∀k,l=some k->(∃t,k=.var t/\t∈i.op.reads)\/(i.sF=true/\∀t,k≠.var t))/\
  ∀(s2:St)(p:St->Prop),ga s s2 i.op.reads->(i.sF=true->iC s s2)->p (s2.AQ i.dst v l o)->b4 P GL true s2 i.dst i.op p:=by
  intro h;obtain⟨gd,dst,op⟩:=i;have j:∀(s:St)(v:V)(o:Bool),s.AQ dst v none o=s.ret dst v o:=by intro s v o;cases dst<;>rfl
  cases op with
  |bad=>exact h.elim
  |hx aD=>simp[BI.qI]at E
  |mx m=>simp[BI.qI]at E
  |ex b=>
   simp only[BI.qI,aX]at E;replace E:=E.2;simp only[b4]at h;rw[xY E]at h;cases N:b.act s with
   |none=>simp[N]at h
   |some r=>
    obtain⟨v,l,o⟩:=r;simp only[N,bG]at h;refine⟨v,l,o,h,?_,?_⟩
    .rintro k rfl;exact FC N
    .intro s2 p a D d;simp only[b4];rw[xY E,FB a D N];exact d
  |call f args=>
   obtain⟨q,⟨H,v,o,u,Q,R⟩|⟨ab,_⟩|⟨ab,_⟩⟩:=h
   .refine⟨v,none,o,by rw[j];exact R,bR,?_⟩;intro s2 p a D d;have hm:=r3 (l:=args) a;have N:=r4 (λx=> !x.dW) (l:=args) a;refine⟨by rw[N];exact q,.inl ⟨H,v,o,by rw[hm];exact u,Q,by rw[<-j];exact d⟩⟩
   .cases ab
   .cases ab
  |qH x args=>
   simp only[b4]at h;split at h
   next f cap ad=>
    obtain⟨ai,q,⟨H,v,o,u,Q,R⟩|⟨ab,_⟩|⟨ab,_⟩⟩:=h
    .refine⟨v,none,o,by rw[j];exact R,bR,?_⟩;intro s2 p a D d;simp only[BY.reads,ga.append]at a;have hm:=r3 (l:=args) a.2;have N:=r4 (λx=> !x.dW) (l:=args) a.2;simp only[b4,a.1.val,ad];refine⟨ai,by rw[N];exact q,.inl ⟨H,v,o,by rw[hm];exact u,Q,by rw[<-j];exact d⟩⟩
    .cases ab
    .cases ab
   .cases h
 have y:K (s.skip i.dst)->∃v l o,K (s.AQ i.dst v l o)/\v=.qr/\l=none/\o=false:=by
  intro h;refine⟨.qr,none,false,?_,rfl,rfl,rfl⟩
  revert h;cases i.dst<;>exact id
 have z:∀s:St,s.AQ i.dst .qr none false=s.skip i.dst:=by intro s;cases i.dst<;>rfl
 unfold dr at h;cases q:i.guard with
 |none=>
  simp only[q]at h;obtain⟨v,l,o,u,Q,R⟩:=L h;refine⟨v,l,o,u,λk d=>(Q k d).imp (λ⟨t,aA,aB⟩=>⟨t,aA,by simp[BI.reads,aB]⟩) id,λs2 p a D d=>?_⟩;simp only[BI.reads,ga.append]at a;unfold dr;simp only[q];exact R s2 p a.2 D d
 |some aC=>
  obtain⟨t,want⟩:=aC;simp only[q]at h;split at h
  next b hb=>
   split at h
   next ac=>obtain⟨v,l,o,u,Q,R⟩:=L h;refine⟨v,l,o,u,λk d=>(Q k d).imp (λ⟨t,aA,aB⟩=>⟨t,aA,by simp[BI.reads,aB]⟩) id,λs2 p a D d=>?_⟩;simp only[BI.reads,ga.append,q,AP]at a;unfold dr;simp only[q,a.1 t bR,hb,ax ac];exact R s2 p a.2 D d
   next ac=>obtain⟨v,l,o,u,rfl,rfl,rfl⟩:=y h;refine⟨_,_,_,u,bR,λs2 p a D d=>?_⟩;simp only[BI.reads,ga.append,q,AP]at a;unfold dr;simp only[q,a.1 t bR,hb,an ac];rw[<-z];exact d
  next hb=>obtain⟨v,l,o,u,rfl,rfl,rfl⟩:=y h;refine⟨_,_,_,u,bR,λs2 p a D d=>?_⟩;simp only[BI.reads,ga.append,q,AP]at a;unfold dr;simp only[q,a.1 t bR,hb];rw[<-z];exact d
  .cases h
def zy{s:St}{d:Nat}{v u:V}{l:Option Loc}{o bL:Bool}{dst:Option Nat}(a:dst≠some d)(f:∀e,dst=some e->l≠some (.var e)):
 (s.put d v l o).ret dst u bL=(s.ret dst u bL).put d v l o:=by
 cases dst with
 |none=>rfl
 |some e=>exact put_comm (λj=>a (by rw[j])) (f e rfl) bR
def sH{s:St}{u:V}{bL:Bool}{dst:Option Nat}(t:Nat)(a:dst≠some t):(s.ret dst u bL).Z t=s.Z t:=by
 cases dst with
 |none=>rfl
 |some e=>
  have:t≠e:=λd=>a (by rw[d]);simp[St.ret,this]
def Db(s:St)(u:V)(bL:Bool)(dst:Option Nat):iC s (s.ret dst u bL):=by
 cases dst with
 |none=>exact .refl s
 |some e=>exact .put _ _ _ _ _
def wz{s:St}{d:Nat}{v:V}{l:Option Loc}{o:Bool}{E:aJ}(a:∀k,l=some k->∃t,k=.var t):(s.put d v l o).ct E=(s.ct E).put d v l o:=by
 simp only[St.ct,St.put,St.mk.injEq,cF,bK];exact wU a Pn (λ_=>rfl)
def push{pu:Bool}{j:BI}{s:St}{d:Nat}{v:V}{l:Option Loc}{o:Bool}{K:St->Prop}(h:dr P GL pu j (s.put d v l o) K)(ai:d∉j.reads)(hd:j.dst≠some d)
 (hl:∀e,j.dst=some e->l≠some (.var e)) (hs:j.mem pu=true->∀k,l=some k->∃t,k=.var t):
 dr P GL pu j s λs2=>(∀t,j.dst≠some t->s2.Z t=s.Z t)/\(j.mem pu=false->iC s s2)/\K (s2.put d v l o):=by
 obtain⟨gd,dst,op⟩:=j;have H:d∉op.reads:=λa=>ai (by simp[BI.reads,a]);have y:∀{f:FuncId} {args:List V},(BI.mem pu ⟨gd,dst,op⟩= !pu)->r5 P GL pu f args (s.put d v l o) dst K->
  r5 P GL pu f args s dst λs2=>(∀t,dst≠some t->s2.Z t=s.Z t)/\(BI.mem pu ⟨gd,dst,op⟩=false->iC s s2)/\K (s2.put d v l o):=by
  intro f args hm a;rcases a with⟨r,u,bL,N,Q,R⟩|⟨h0,r,N,Q⟩|⟨h0,fz,E,r,N,Q,⟨u,bL,R,hk⟩|R⟩
  .exact .inl ⟨r,u,bL,N,Q,λt q=>sH t q,λ_=>Db _ _ _ _,by rw[<-zy hd hl];exact R⟩
  .refine .inr (.inl ⟨h0,r,N,Q.mono λu bL aA hk=>⟨λt q=>?_,λa=>?_,?_⟩⟩)
   .rw[sH t q];rfl
   .rw[hm,h0]at a;cases a
   .exact TP
  .refine .inr (.inr ⟨h0,fz,E,r,N,Q,.inl ⟨u,bL,R,λt q=>?_,λa=>?_,?_⟩⟩)
   .rw[sH t q];rfl
   .rw[hm,h0]at a;cases a
   .exact TP
  .refine .inr (.inr ⟨h0,fz,E,r,N,Q,.inr (R.mono λu bL aA hk=>⟨λt q=>?_,λa=>?_,?_⟩)⟩)
   .rw[sH t q];rfl
   .rw[hm,h0]at a;cases a
   .exact TP
 have L:b4 P GL pu (s.put d v l o) dst op K->b4 P GL pu s dst op λs2=>(∀t,dst≠some t->s2.Z t=s.Z t)/\(BI.mem pu ⟨gd,dst,op⟩=false->iC s s2)/\K (s2.put d v l o):=by
  intro h;cases op with
  |bad=>exact h
  |hx aB=>
   simp only[b4,HX.outs]at h ⊢
   have ab:=KD (h:=aB) (s:=s) (s':=s.put d v l o) (λt q=>by
    have:t≠d:=λe=>H (by rw[<-e];exact q);simp[this]) rfl
   rw[ab]at h;cases e:aB.act s with
   |none=>rw[e]at h;exact h
   |some a6=>
    rw[e]at h;simp only[bG]at h ⊢
    refine zH λt q=>?_;obtain⟨p,E,rfl⟩:=cG.1 q;have hk:=uu h _ (cG.2 ⟨p,E,rfl⟩);refine⟨λt q=>?_,λa=>by simp[BI.mem]at a,?_⟩
    .rw[sH t q];rfl
    .exact Xa
  |mx m=>
   simp only[b4]at h ⊢
   rw[MU (m:=m) (s:=s) (s':=s.put d v l o) (λt q=>by
    have:t≠d:=λe=>H (by rw[<-e];exact q);simp[this]) rfl]at h
   refine MX.mono (λu bL E hk=>⟨λt q=>?_,λa=>by simp[BI.mem]at a,?_⟩) h
   .rw[sH t q];rfl
   .exact Xa
  |ex b=>
   simp only[b4]at h ⊢
   split at h
   next a7 aD=>obtain⟨s2,a0,a1,a2,a3⟩:=Hz aD H hd hl hs;rw[a0];exact⟨a2,a3,by rw[<-a1];exact h⟩
   .cases h
  |call f args=>
   obtain⟨ac,a⟩:=h;have z:ga (s.put d v l o) s (rB args):=wS H;rw[<-r3 z]at a;exact⟨by rw[r4 (λx=> !x.dW) z];exact ac,y rfl a⟩
  |qH x args=>
   have z:ga (s.put d v l o) s (x.reads++rB args):=wS H;rw[ga.append]at z;simp only[b4]at h ⊢
   rw[z.1.val];split at h
   next f cap a4=>obtain⟨ad,ac,a⟩:=h;rw[<-r3 z.2]at a;exact⟨ad,by rw[r4 (λx=> !x.dW) z.2];exact ac,y rfl a⟩
   .cases h
 have D:K ((s.put d v l o).skip dst)->(∀t,dst≠some t->(s.skip dst).Z t=s.Z t)/\(BI.mem pu ⟨gd,dst,op⟩=false->iC s (s.skip dst))/\K ((s.skip dst).put d v l o):=by
  intro hk;exact⟨λt q=>sH t q,λ_=>Db _ _ _ _,by unfold St.skip;rw[<-zy hd hl];exact hk⟩
 unfold dr at h ⊢
 cases gd with
 |none=>exact L h
 |some a5=>
  obtain⟨t,want⟩:=a5;have aC:t≠d:=λe=>ai (by simp[BI.reads,AP,e]);simp only at h ⊢
  rw[show(s.put d v l o).Z t=s.Z t by simp[aC]]at h;split at h
  .split at h
   next hb=>rw[ax hb];exact L h
   next hb=>rw[an hb];exact D h
  .exact D h
  .exact h
def exchange{pu:Bool}{i j:BI}{s:St}{K:St->Prop}(p:v6 pu i j=true)(h:dr P GL true i s λac=>dr P GL pu j ac K):
 dr P GL pu j s λs2=>dr P GL true i s2 K:=by
 obtain⟨_,p⟩:=nU.1 p;simp only[aX,jy]at p;obtain⟨⟨E,z⟩,hm⟩:=p;obtain⟨v,l,o,D,Q,H⟩:=MW E h;simp only[MV,aX]at z;obtain⟨a,f⟩:=z;have y:∀s2:St,(∀t,j.dst≠some t->s2.Z t=s.Z t)->ga s s2 i.reads:=by
  intro s2 L t ad;refine L t ?_;intro q;rw[q]at f;simp[ad]at f
 cases q:i.dst with
 |none=>
  obtain⟨gd,dst,op⟩:=i;simp only at q;subst q;simp[BI.qI]at E
 |some d=>
  rw[q]at D H a;simp only[St.AQ]at D H;simp only[aX,jy,tU,ne_eq]at a;have ai:d∉j.reads:=by
   intro p;have:=a.1;simp[p]at this
  have aA:∀e,j.dst=some e->l≠some (.var e):=by
   intro e L hle;rcases Q _ hle with⟨t,r,N⟩|⟨_,N⟩
   .cases r;rw[L]at f;simp[N]at f
   .exact N e rfl
  have aB:j.mem pu=true->∀k,l=some k->∃t,k=.var t:=by
   intro R k u;rcases Q k u with⟨t,r,_⟩|⟨r,_⟩
   .exact⟨t,r⟩
   .rw[r,R]at hm;cases hm
  refine gU (push D ai a.2 aA aB) λs2 u=>H s2 K (y s2 u.1) (λab=>u.2.1 ?_) u.2.2;simpa[ab]using hm
end
section
variable {GL:Nat->Option (List V)}{P:Program}
def I5{α:Type}{p:α->Bool}{xs:Array α}:xs.any p=true↔ ∃e,e∈xs/\p e=true:=by
 rw[Array.any_eq_true];constructor
 .rintro⟨i,h,e⟩;exact⟨xs[i],bR,e⟩
 .rintro⟨e,d,E⟩;obtain⟨i,h,rfl⟩:=gT.1 d;exact⟨i,h,E⟩
inductive la where
 |done
 |one (abJ:Bool) (b:BI) (p:la)
 |alt (b:BI) (p q:la)
 |stop
def waits(ops:Array Oper)(j i:Nat):Bool:=match ops[j]? with
 |some o=>o.after.any λe=>Region.binds .any e&&e.on==i
 |none=>true
def MY(ops:Array Oper)(listed:Array Bool)(i:Nat):Bool:=
 (List.range ops.size).all λj=>j==i||listed.getD j true||waits ops j i
def MZ(pu:Bool)(ops:Array Oper)(bis:Array (Option BI))(listed:Array Bool)(i:Nat)(bi:BI):Bool:=
 (List.range ops.size).all λj=>j==i||listed.getD j true||waits ops j i||(match bis[j]? with
  |some (some d)=>v6 pu bi d
  |_=>false)
def I6(pu:Bool)(ops:Array Oper)(bis:Array (Option BI))(listed:Array Bool):List Nat->Option (Bool×Nat×BI)
 |[]=>none
 |i::r=>match bis[i]? with
  |some (some bi)=>if MY ops listed i then some (true,i,bi)else if MZ pu ops bis listed i bi then some (false,i,bi)else I6 pu ops bis listed r
  |_=>none
def alts(bis:Array (Option BI))(rec:Nat->Option la):List Nat->Option la
 |[]=>some .stop
 |i::r=>match bis[i]?,rec i,alts bis rec r with
  |some (some bi),some p,some q=>some (.alt bi p q)
  |_,_,_=>none
def xZ(pu:Bool)(ops:Array Oper)(bis:Array (Option BI)):Nat->Array Bool->Option la
 |0,listed=>if(Region.ready .any ops listed).isEmpty then some .done else none
 |f+1,listed=>
  if(Region.ready .any ops listed).isEmpty then some .done
  else match I6 pu ops bis listed (Region.ready .any ops listed)with
   |some (d,i,bi)=>(xZ pu ops bis f (listed.setIfInBounds i true)).map (.one d bi)
   |none=>alts bis (λi=>xZ pu ops bis f (listed.setIfInBounds i true)) (Region.ready .any ops listed)
def bV(P:Program)(GL:ak)(pu:Bool):la->St->(St->Prop)->Prop
 |.done,s,K=>K s
 |.one d b p,s,K=>dr P GL (if d then pu else true) b s λf=>bV P GL pu p f K
 |.alt b p q,s,K=>dr P GL pu b s (λf=>bV P GL pu p f K)/\bV P GL pu q s K
 |.stop,_,_=>True
def AU(P:Program)(GL:ak)(pu:Bool)(ops:Array Oper)(bis:Array (Option BI)):Nat->Array Bool->St->(St->Prop)->Prop
 |0,listed,s,K=>Region.ready .any ops listed=[]/\K s
 |f+1,listed,s,K=>(Region.ready .any ops listed=[]->K s)/\
  ∀i∈Region.ready .any ops listed,∃bi,bis[i]?=some (some bi)/\dr P GL pu bi s λd=>AU P GL pu ops bis f (listed.setIfInBounds i true) d K
def I7{pu:Bool}{i:BI}{s:St}{K:St->Prop}(h:dr P GL true i s K):dr P GL pu i s K:=by
 have j:∀{f args dst},r5 P GL true f args s dst K->r5 P GL pu f args s dst K:=λh=>by
  rcases h with h|⟨d,_⟩|⟨d,_⟩
  .exact .inl h
  .cases d
  .cases d
 have l:∀{dst op},b4 P GL true s dst op K->b4 P GL pu s dst op K:=λ{dst op} h=>by
  cases op with
  |ex b=>exact h
  |call f args=>exact⟨h.1,j h.2⟩
  |bad=>exact h
  |hx o=>exact h
  |mx m=>exact h
  |qH x args=>
   simp only[b4]at h ⊢
   split at h
   .exact⟨h.1,h.2.1,j h.2.2⟩
   .exact h
 unfold dr at*
 split at h
 .exact l h
 .split at h
  .split at h
   next hb=>rw[ax hb];exact l h
   next hb=>rw[an hb];exact h
  .exact h
  .exact h
def FE{pu:Bool}{ops:Array Oper}{bis:Array (Option BI)}{K:St->Prop}{i:Nat}{bi:BI}(R:bis[i]?=some (some bi)):
 ∀(f:Nat)(listed:Array Bool)(s:St),(∀j o,ops[j]?=some o->j≠i->listed.getD j true=false->(∀e∈o.after,Region.binds .any e=true->e.on≠i)->∃p,bis[j]?=some (some p)/\v6 pu bi p=true)->
  i∈Region.ready .any ops listed->
  dr P GL true bi s (λs'=>AU P GL pu ops bis f (listed.setIfInBounds i true) s' K)->AU P GL pu ops bis (f+1) listed s K:=by
 intro f;induction f with
 |zero=>
  intro listed s l q H;refine⟨λh=>(by rw[h]at q;cases q),λj t=>?_⟩;by_cases d:j=i
  .subst d;exact⟨bi,R,I7 H⟩
  .obtain⟨p,y,u⟩:=other l q t d;have E:bi.qI=true:=by
    obtain⟨_,u⟩:=nU.1 u;simp only[aX]at u;exact u.1.1
   obtain⟨_,_,_,r,_⟩:=MW E H;have:=ready_mono t d;rw[r.1]at this;cases this
 |succ f ih=>
  intro listed s l q H;refine⟨λh=>(by rw[h]at q;cases q),λj t=>?_⟩;by_cases d:j=i
  .subst d;exact⟨bi,R,I7 H⟩
  .obtain⟨p,y,u⟩:=other l q t d;have ab:=ready_mono t d;have H1:dr P GL true bi s λac=>dr P GL pu p ac λaD=>AU P GL pu ops bis f ((listed.setIfInBounds i true).setIfInBounds j true) aD K:=by
    refine gU H λac r=>?_;obtain⟨a6,ad,a0⟩:=r.2 j ab;rw[y]at ad;cases (au ad);exact a0
   refine⟨p,y,gU (exchange u H1) λa1 a2=>?_⟩;refine ih (listed.setIfInBounds j true) a1 ?_ (ready_mono q (hU d)) ?_
   .intro k o a3 ai z aA;refine l k o a3 ai ?_ aA;by_cases D:j=k
    .subst D;exact(mem_ready.1 t).1
    .rw[getD_set_ne true D]at z;exact z
   .rw[Array.setIfInBounds_comm _ _ d];exact a2
where
 other {pu:Bool} {ops:Array Oper} {bis:Array (Option BI)} {i:Nat} {bi:BI} {listed:Array Bool}
  (l:∀j o,ops[j]?=some o->j≠i->listed.getD j true=false->(∀e∈o.after,Region.binds .any e=true->e.on≠i)->∃p,bis[j]?=some (some p)/\v6 pu bi p=true)
  (q:i∈Region.ready .any ops listed) {j:Nat} (t:j∈Region.ready .any ops listed) (d:j≠i):∃p,bis[j]?=some (some p)/\v6 pu bi p=true:=by
  obtain⟨L,a4,aB,N⟩:=mem_ready.1 t;refine l j a4 aB d L λe a5 hb heq=>?_;have r:=N e a5 hb;have aC:=(mem_ready.1 q).1;rw[heq]at r;rcases am i listed.size with Q|Q
  .simp[Q]at aC r;rw[aC]at r;cases r
  .simp[gJ Q]at r
def HB{ops:Array Oper}{listed:Array Bool}{i:Nat}(h:MY ops listed i=true)(y:i∈Region.ready .any ops listed):∀j∈Region.ready .any ops listed,j=i:=by
 intro j z;obtain⟨o,H,l,p⟩:=mem_ready.1 z;have r:j<ops.size:=(cD.1 l).1;have:=bP.1 h j (dc.2 r);simp only[h9,iA,o,bM,gI]at this;rcases this with d|d
 .exact d
 .exfalso;unfold waits at d;rw[l]at d;simp only[I5,aX,iA]at d;obtain⟨e,D,hb,t⟩:=d;have f:=p e D hb;have u:=(mem_ready.1 y).1;rw[t]at f;rcases am i listed.size with q|q
  .simp[q]at u f;rw[u]at f;cases f
  .simp[gJ q]at f
def HC{pu:Bool}{ops:Array Oper}{bis:Array (Option BI)}{listed:Array Bool}{i:Nat}{bi:BI}(h:MZ pu ops bis listed i bi=true):
 ∀j o,ops[j]?=some o->j≠i->listed.getD j true=false->(∀e∈o.after,Region.binds .any e=true->e.on≠i)->∃f,bis[j]?=some (some f)/\v6 pu bi f=true:=by
 intro j o l p q r;have t:j<ops.size:=(cD.1 l).1;have:=bP.1 h j (dc.2 t);simp only[h9,iA,q,bM,gI]at this;rcases this with(d|d)|d
 .exact absurd d p
 .exfalso;unfold waits at d;rw[l]at d;simp only[I5,aX,iA]at d;obtain⟨e,z,hb,u⟩:=d;exact r e z hb u
 .split at d
  next f y=>exact⟨f,y,d⟩
  .cases d
def AV{pu:Bool}{ops:Array Oper}{bis:Array (Option BI)}{listed:Array Bool}:∀{l:List Nat} {d:Bool} {i:Nat} {bi:BI},I6 pu ops bis listed l=some (d,i,bi)->
 i∈l/\bis[i]?=some (some bi)/\(if d then MY ops listed i=true else MZ pu ops bis listed i bi=true)
 |[],_,_,_,h=>by cases h
 |k::r,d,i,bi,h=>by
  simp only[I6]at h;split at h
  next bk f=>
   split at h
   next hs=>simp only[co,eg]at h;obtain⟨rfl,rfl,rfl⟩:=h;exact⟨bR,f,by simpa using hs⟩
   .split at h
    next j=>simp only[co,eg]at h;obtain⟨rfl,rfl,rfl⟩:=h;exact⟨bR,f,by simpa using j⟩
    .obtain⟨o,p⟩:=AV h;exact⟨by simp[o],p⟩
  .cases h
def Dc{pu:Bool}{bis:Array (Option BI)}{rec:Nat->Option la}:∀{l:List Nat} {p:la} {s:St} {K:St->Prop},alts bis rec l=some p->bV P GL pu p s K->
 ∀i∈l,∃bi q,bis[i]?=some (some bi)/\rec i=some q/\dr P GL pu bi s λs'=>bV P GL pu q s' K
 |[],_,_,_,_,_,_,d=>by cases d
 |k::r,p,s,K,h,f,i,d=>by
  simp only[alts]at h;split at h
  next bk q z j o t=>
   cases h;obtain⟨u,y⟩:=f;rcases bC.1 d with rfl|d
   .exact⟨bk,q,j,o,u⟩
   .exact Dc t y i d
  .cases h
def zK{pu:Bool}{ops:Array Oper}{bis:Array (Option BI)}:∀{f:Nat} {listed:Array Bool} {p:la} {s:St} {K:St->Prop},xZ pu ops bis f listed=some p->bV P GL pu p s K->AU P GL pu ops bis f listed s K
 |0,listed,p,s,K,h,d=>by
  simp only[xZ]at h;split at h
  next o=>cases h;exact⟨by simpa using o,d⟩
  .cases h
 |f+1,listed,p,s,K,h,d=>by
  simp only[xZ]at h;split at h
  next o=>
   cases h;have D:Region.ready .any ops listed=[]:=by simpa using o
   exact⟨λ_=>d,λi u=>by rw[D]at u;cases u⟩
  next H=>
   split at h
   next z i bi E=>
    obtain⟨q,L,rfl⟩:=dn h;obtain⟨r,y,t⟩:=AV E;simp only[bV]at d;cases z with
    |true=>
     simp only[bQ]at t d;refine⟨λo=>(by rw[o]at r;cases r),λj Q=>?_⟩;obtain rfl:=HB t r j Q;exact⟨bi,y,gU d λN l=>zK L l⟩
    |false=>
     simp only[bM,cE]at t d;exact FE y f listed s (HC t) r (gU d λN l=>zK L l)
   .refine⟨λo=>absurd (by simpa using o) H,λi u=>?_⟩;obtain⟨bi,q,r,y,t⟩:=Dc h d i u;exact⟨bi,r,gU t λN l=>zK y l⟩
section
variable {g:aW}{s:St}{a:Act}{w:World}{hs:List Nat}{ro:Option Nat}{m:Nat}
def PZ{ops:Array Oper}{o:Oper}{pu:Bool}{bi:BI}{K:St->Prop}{i:Nat}(t:ops[i]?=some o)(l:wR P GL hs s.n ops o=some bi)(hv:dr P GL pu bi s K)(R:Rel GL g s a w)
 {next:Act->World->Prop} {Q:Exit->Act->World->Prop} (q:∀g' s' a' w',K s'->s'.n=s.n->Rel GL g' s' a' w'->Step g w g' w'->next a' w'):wpOpIn (FW ro) m P ops Q i next a w:=by
 unfold wpOpIn;simp only[t];simp only[wR]at l;split at l
 next u gd r Wl=>
  split at l
  next j=>
   cases l;have p:∀d,o.dst=some d->d<s.n:=by
    intro d p;rw[p]at j;simpa using j
   have D1:b4 P GL pu s o.dst u K->o.wpIn (FW ro) m P a w next Q:=λf=>Fz r p (AS f) R q;have zY:K (s.skip o.dst)->next (a.put o.dst undef) w:=λf=>q g _ _ w f (Hy _ _) (I4 R p) (Step.refl g w);unfold dr at hv;exact bb0
  .cases l
 .cases l
def AW{ops:Array Oper}{pu:Bool}:∀{f:Nat} {listed:Array Bool} {s:St} {K:St->Prop} {g:aW} {a:Act} {w:World},AU P GL pu ops (ops.map (wR P GL hs s.n ops)) f listed s K->Rel GL g s a w->
 ∀{Q:Exit->Act->World->Prop},(∀g' s' a' w',K s'->s'.n=s.n->Rel GL g' s' a' w'->Step g w g' w'->Q .normal a' w')->wpAnyIn (FW ro) m P .any ops Q f listed a w
 |0,listed,s,K,g,a,w,d,R,Q,j=>⟨d.1,j g s a w d.2 rfl R (Step.refl g w)⟩
 |f+1,listed,s,K,g,a,w,d,R,Q,j=>by
  refine⟨λab=>j g s a w (d.1 ab) rfl R (Step.refl g w),λi p=>?_⟩;obtain⟨bi,l,ac⟩:=d.2 i p;obtain⟨_,o,q,_⟩:=mem_ready.1 p;rw[pt,q]at l;simp only[bG,co]at l;refine PZ q l ac R λg' s' a' w' r t ad S=>?_;rw[<-t]at r;exact AW r ad λu y z D H L N ai=>j u y z D H (L.trans t) N (S.trans ai)
end
end
section
variable {GL:Nat->Option (List V)}{P:Program}
structure Grow(g:aW)(w w':World):Prop where
 size:w.heap.size<=w'.heap.size
 cell:∀b o,b<w.heap.size->w'.cell? (cl b o)=w.cell? (cl b o)
 Tg:∀b o,b<w.heap.size->(∀x,g.bL b o≠.gZ x)->w'.frozen? (cl b o)=w.frozen? (cl b o)
 obj:∀(b:Nat) ob,uZ ob=false->w.heap[b]?=some ob->w'.heap[b]?=some ob
 gW:Cm (g.bL 0 0=.ext) w w'
 whole:∀b,b<w.heap.size->w'.heap[b]?=w.heap[b]?
def Iter(P:Program)(f:FuncId)(cap:List V)(items:List (List V)):Prop:=
 ∀(l m:Nat)(g:aW)(w:World)(p:Array Value)(J:Nat->World->Prop)(d:World->Prop),p.size=cap.length->(∀(j:Nat) c x,cap[j]?=some c->p[j]?=some x->VR g c x)->
  (∀j w,J j w->∀b o x,g.bL b o=.gZ x->w.cell? (cl b o)=some x)->
  (∀j w w',J j w->Grow g w w'->J j w')->(∀w w',d w->Grow g w w'->d w')->
  (∀j w it (q:Array Value),J j w->items[j]?=some it->q.size=it.length->(∀(k:Nat) c y,it[k]?=some c->q[k]?=some y->VR g c y)->
   YieldAt (FW none) (m-1) P l q w λe w'=>(e=.returned (.bool true)/\J (j+1) w')\/(e=.returned (.bool false)/\d w'))->
  J 0 w->CallsIn (FW none) m P f (#[.func (.yield l) #[] #[]]++p) w λe w'=>∃v,e=.returned v/\(J items.length w'\/d w')
def St.base(s:St)(E:aJ):St:={n:=s.n,Z:=λt=>if(s.Z t).dW then .unk else s.Z t,lk:=λ_=>none,fl:=λ_=>false,loc:=λ_ _=>[],fc:=λ_ _ _=>false,G:=λ_=>0,E:=E}
def St.wV(s:St):List Nat->List V->St
 |p::d,v::f=>St.wV (s.put p v none false) d f
 |_,_=>s
def St.begin(s:St)(E:aJ)(ps:List Nat)(it:List V):St:=(s.base E).wV ps it
section
variable {g g' g0:aW}{s:St}{a:Act}{w w' w0:World}
def Rel.Th{a':Act}(R:Rel GL g s a w){b:Nat}{ob pg:Obj}(hb:w.heap[b]?=some ob)(Q:uZ ob=false)(L:uZ pg=false)(hx:g.bL b 0=.ext\/g.bL b 0=.rK)(ad:rW g (Bx.mc w b pg) a'.defers)(y:a'.tmps=a.tmps):Rel GL g s a' (Bx.mc w b pg):=by
 have r:=u9 (pg:=pg) hb Q L;have ab:=q9 (pg:=pg) hb Q L;have dZ:∀{d:Nat} {ow:eX} {cells:List V},fP g w d ow cells->fP g (Bx.mc w b pg) d ow cells:=λh=>
  ⟨h.mq,λj u ai=>let⟨h1,x,f,D⟩:=h.cell j u ai;⟨h1,x,by rw[r];exact f,D⟩,λj=>by rw[ab];exact h.ki j⟩
 have p:∀{l:Loc} {v:V} {x:Value},dS g w l v x->dS g (Bx.mc w b pg) l v x:=by
  intro l v x h sz aA aB len cap aC hx k h1 f;obtain⟨q,⟨u,H⟩,K⟩:=h sz aA aB len cap aC hx k h1 f;exact⟨q,⟨u,by rw[r];exact H⟩,by rw[ab];exact K⟩
 exact {
  size:=by rw[y];exact R.size
  gj:=ad
  Z:=by rw[y];exact R.Z
  gA:=⟨R.gA.kn,λd o x e=>by rw[r];exact R.gA.gZ d o x e,λd ac e=>by
   rw[kx (by rintro rfl;rcases hx with hx|hx<;>(rw[hx]at e;cases e))];exact R.gA.e8 d ac e,λd o e=>by rw[r1];exact R.gA.il d o e,R.gA.kC⟩
  heap:=⟨λi cs e=>let⟨d,h1,f⟩:=R.heap.box i cs e;⟨d,h1,dZ f⟩,λi cs j u d x q H K N aD=>p (R.heap.tail i cs j u d x q H K N (by rw[<-r];exact aD)),λi a0 e=>by
   obtain⟨d,a1,h1,f,D,a2,a3⟩:=R.heap.map i a0 e;exact⟨d,a1,h1,f,by rw[kx (by rintro rfl;rcases hx with hx|hx<;>(rw[hx]at f;cases f))];exact D,a2,a3⟩,R.heap.Y⟩
  loc:=λst z e=>let⟨d,h1,f⟩:=R.loc st z e;⟨d,h1,dZ f⟩
  jd:=R.jd
  jt:=λt e=>by rw[y];exact p (R.jt t e)
  gD:=λst z j c d x q H K N=>p (R.gD st z j c d x q H K (by rw[<-r];exact N))
  jX:=by rw[y];exact R.jX
  gF:=λt st z j e=>by rw[y];exact⟨(R.gF t st z j e).1,λd q=>let⟨h1,f⟩:=(R.gF t st z j e).2 d q;⟨by rw[r];exact h1,f⟩⟩
  ib:=λt i j e=>let⟨cs,h1,f,D⟩:=R.ib t i j e;⟨cs,h1,f,λd q=>by rw[r,y];exact D d q⟩}
def Rel.HD(R:Rel GL g s a w){b:Nat}{ob pg:Obj}(hb:w.heap[b]?=some ob)(j:uZ ob=false)(f:uZ pg=false)(hx:g.bL b 0=.ext)(l:ob≠.deferred (some [])):Rel GL g s a (Bx.mc w b pg):=
 R.Th hb j f (.inl hx) (R.gj.mono λD o d=>⟨o,by rw[kx (by rintro rfl;rw[hb]at d;exact l (au d))];exact d⟩) rfl
def Rel.swap{a':Act}(R:Rel GL g s a w)(D:a'.tmps=a.tmps)(ac:rW g' w a'.defers)(Q:∀b o,g'.bL b o=g.bL b o\/((g.bL b o=.ext\/g.bL b o=.rK)/\(g'.bL b o=.ext\/g'.bL b o=.rK)))(y:g'.lb=g.lb)(p:g'.hb=g.hb):Rel GL g' s a' w:=by
 have ow:∀{b o:Nat} {ow:eX},g.bL b o=ow->ow≠.ext->ow≠.rK->g'.bL b o=ow:=by
  intro b o ow e h1 f;rcases Q b o with h|⟨h|h,_⟩
  .rw[h,e]
  .exact absurd (e.symm.trans h) h1
  .exact absurd (e.symm.trans h) f
 have ab:∀{b o:Nat} {ow:eX},g'.bL b o=ow->ow≠.ext->ow≠.rK->g.bL b o=ow:=by
  intro b o ow e h1 f;rcases Q b o with h|⟨_,h|h⟩
  .rw[<-h,e]
  .exact absurd (e.symm.trans h) h1
  .exact absurd (e.symm.trans h) f
 have hle:g.Le g':=⟨λ_ _ _ e=>ow e bR bR,λ_ _ e=>ow e bR bR,λ_ _ e=>by rw[p];exact e⟩;have dZ:∀{d:Nat} {k:eX} {cells:List V},fP g w d k cells->k≠.ext->k≠.rK->fP g' w d k cells:=λh h1 f=>
  ⟨λj=>ow (h.mq j) h1 f,λj u ad=>let⟨f1,x,ai,aA⟩:=h.cell j u ad;⟨f1,x,ai,aA.mono hle⟩,h.ki⟩
 have q:∀{l:Loc} {v:V} {x:Value},dS g w l v x->dS g' w l v x:=by
  intro l v x h sz aB aC len cap aD hx k h1 f;obtain⟨r,H⟩:=h sz aB aC len cap aD hx k h1 f;exact⟨ow r bR bR,H⟩
 exact {
  size:=by rw[D];exact R.size
  gj:=ac
  Z:=λt=>by rw[D];exact(R.Z t).mono hle (λ_ _ _ e=>by rw[y];exact e)
  gA:=⟨λn c e=>(R.gA.kn n c e).mono hle,λb o x e=>R.gA.gZ b o x (ab e bR bR),λb a0 e=>R.gA.e8 b a0 (ab e bR bR),λb o e=>R.gA.il b o (λa1=>e (ow a1 bR bR)),R.gA.kC⟩
  heap:=⟨λi cs e=>let⟨d,h1,f⟩:=R.heap.box i cs e;⟨d,by rw[p];exact h1,dZ f bR bR⟩,λi cs j u d x r H K L a2=>q (R.heap.tail i cs j u d x r H K (by rw[<-p];exact L) a2),λi a3 e=>by
   obtain⟨d,a4,h1,f,N,a5,a6⟩:=R.heap.map i a3 e;exact⟨d,a4,by rw[p];exact h1,ow f bR bR,N,a5,a6.mono hle⟩,λi e=>by rw[p];exact R.heap.Y i e⟩
  loc:=λst z e=>let⟨d,h1,f⟩:=R.loc st z e;⟨d,by rw[y];exact h1,dZ f bR bR⟩
  jd:=λst z e=>by rw[y];exact R.jd st z e
  jt:=λt e=>by rw[D];exact q (R.jt t e)
  gD:=λst z j c d x r H K L=>q (R.gD st z j c d x r H (by rw[<-y];exact K) L)
  jX:=λt u e=>by rw[D];exact R.jX t u e
  gF:=λt st z j e=>by rw[D];exact⟨(R.gF t st z j e).1,λd r=>(R.gF t st z j e).2 d (by rw[<-y];exact r)⟩
  ib:=λt i j e=>let⟨cs,h1,f,N⟩:=R.ib t i j e;⟨cs,h1,f,λd r=>by rw[D];exact N d (by rw[<-p];exact r)⟩}
def Step.HD(S:Step g0 w0 g w)(j:qi GL g0 w0){b:Nat}{ob pg:Obj}(t:w0.heap.size<=b)(hb:w.heap[b]?=some ob)(l:uZ ob=false)(f:uZ pg=false):Step g0 w0 g (mc w b pg) where
 gZ:=S.gZ
 e8:=S.e8
 hb:=S.hb
 ext d o e:=by rw[u9 hb l f,q9 hb l f];exact S.ext d o e
 od d p e h1 r:=by
  have:d<w0.heap.size:=j.il d 0 (by rw[e];simp);rw[kx av];exact S.od d p e h1 r
 ru:=S.ru
 size:=by rw[r1];exact S.size
 gW:=⟨S.gW.tape,S.gW.os,S.gW.out,S.gW.drawn⟩
 whole d q e:=by rw[kx av];exact S.whole d q e
def Step.aaT(S:Step g0 w0 g w){b:Nat}{ob pg:Obj}(hx:g.bL b 0≠.ext)(j:∀x,g.bL b 0≠.gZ x)(hb:w.heap[b]?=some ob)(l:uZ ob=false)(f:uZ pg=false):Step g0 w0 g (mc w b pg) where
 gZ:=S.gZ
 e8:=S.e8
 hb:=S.hb
 ext d o e:=by rw[u9 hb l f,q9 hb l f];exact S.ext d o e
 od d p e h1 t:=by
  rw[kx (by rintro rfl;exact hx (S.ext _ 0 e).1)];exact S.od d p e h1 t
 ru:=S.ru
 size:=by rw[r1];exact S.size
 gW:=⟨S.gW.tape,S.gW.os,S.gW.out,S.gW.drawn⟩
 whole d r e:=by rw[kx (by rintro rfl;exact(e 0).elim (λq=>hx (S.ext _ 0 q).1) λ⟨x,q⟩=>j x (S.gZ _ 0 x q))];exact S.whole d r e
def Rel.grow(R:Rel GL g s a w)(aB:g0.Le g)(h:Grow g0 w w'):Rel GL g s a w':=by
 have H:∀{b o:Nat} {ow:eX},g.bL b o=ow->ow≠.free->w'.cell? (cl b o)=w.cell? (cl b o):=λe q=>h.cell _ _ (R.gA.il _ _ (by rw[e];exact q));have ac:∀{b o:Nat} {ow:eX},g.bL b o=ow->ow≠.free->(∀x,ow≠.gZ x)->w'.frozen? (cl b o)=w.frozen? (cl b o):=λ{b o ow} e q Q=>
  h.Tg _ _ (R.gA.il _ _ (by rw[e];exact q)) (λx hx=>Q x (by rw[<-e];exact aB.gZ _ _ _ hx))
 have dZ:∀{d:Nat} {ow:eX} {cells:List V},fP g w d ow cells->ow≠.free->(∀x,ow≠.gZ x)->fP g w' d ow cells:=λhb q Q=>
  ⟨hb.mq,λj u ad=>let⟨h1,x,f,y⟩:=hb.cell j u ad;⟨h1,x,by rw[H (hb.bL j (bZ ad)) q];exact f,y⟩,λj=>by rw[ac (hb.mq j) q Q];exact hb.ki j⟩
 have r:∀{l:Loc} {v:V} {x:Value},dS g w l v x->dS g w' l v x:=by
  intro l v x aC sz aD a0 len cap a1 hx k h1 f;obtain⟨p,⟨u,z⟩,e3⟩:=aC sz aD a0 len cap a1 hx k h1 f;exact⟨p,⟨u,by rw[H p bR];exact z⟩,by rw[ac p bR bR];exact e3⟩
 exact {
  size:=R.size
  gj:=R.gj.mono λD p z=>⟨p,h.obj _ _ rfl z⟩
  Z:=R.Z
  gA:=⟨R.gA.kn,λd o x e=>by rw[H e bR];exact R.gA.gZ d o x e,λd K e=>⟨h.obj _ _ (R.gA.e8 d K e).2 (R.gA.e8 d K e).1,(R.gA.e8 d K e).2⟩,λd o e=>bA (R.gA.il d o e) h.size,R.gA.kC⟩
  heap:=⟨λi cs e=>let⟨d,h1,f⟩:=R.heap.box i cs e;⟨d,h1,dZ f bR bR⟩,λi cs j u d x p z e3 N a2=>by
   obtain⟨L,h1,f⟩:=R.heap.box i cs p;obtain rfl:=au (h1.symm.trans N);exact r (R.heap.tail i cs j u L x p z e3 N (by rw[<-H (f.bL j (bZ e3)) (by simp)];exact a2)),λi a3 e=>by
   obtain⟨d,a4,h1,f,y,ai,a5⟩:=R.heap.map i a3 e;exact⟨d,a4,h1,f,h.obj _ _ ai y,ai,a5⟩,R.heap.Y⟩
  loc:=λst gn e=>let⟨d,h1,f⟩:=R.loc st gn e;⟨d,h1,dZ f bR bR⟩
  jd:=R.jd
  jt:=λt e=>r (R.jt t e)
  gD:=λst gn j c d x p z e3 N=>by
   have a6:gn<s.G st:=by
    exact Wo
   obtain⟨L,h1,f⟩:=R.loc st gn a6;obtain rfl:=au (h1.symm.trans e3);exact r (R.gD st gn j c L x p z e3 (by rw[<-H (f.bL j (bZ z)) (by simp)];exact N))
  jX:=R.jX
  gF:=λt st gn j e=>by
   obtain⟨aA,h1⟩:=R.gF t st gn j e;refine⟨aA,λd p=>?_⟩;obtain⟨f,y⟩:=h1 d p;obtain⟨L,f1,ab⟩:=R.loc st gn aA;cases (f1.symm.trans p);exact⟨by rw[H (ab.bL j (bZ y)) bR];exact f,y⟩
  ib:=λt i j e=>by
   obtain⟨cs,h1,f,y⟩:=R.ib t i j e;refine⟨cs,h1,f,λd p=>?_⟩;obtain⟨L,f1,ab⟩:=R.heap.box i cs h1;cases (f1.symm.trans p);rw[H (ab.bL j (bZ f)) bR];exact y _ p}
def Step.grow(S:Step g0 w0 g w)(j:qi GL g w)(h:Grow g0 w w'):Step g0 w0 g w' where
 gZ:=S.gZ
 e8:=S.e8
 hb:=S.hb
 ext b o e:=by
  obtain⟨h1,d,l⟩:=S.ext b o e;have hb:=j.il b o (by rw[h1];simp);exact⟨h1,(h.cell b o hb).trans d,(h.Tg b o hb (by rw[e];simp)).trans l⟩
 od b f e h1 d:=h.obj b f h1 (S.od b f e h1 d)
 ru:=S.ru
 size:=aQ S.size h.size
 gW:=S.gW.trans h.gW id
 whole b hb e:=(h.whole b (bA hb S.size)).trans (S.whole b hb e)
def Rel.base{E:aJ}(f:a.tmps.size=s.n)(l:rW g w a.defers)(o:∀t,VR g ((s.base E).Z t) (a.tmps.getD t undef))(p:qi GL g w)(q:HR g E w)(r:∀i d,g.lb i d=none):Rel GL g (s.base E) a w where
 size:=f
 gj:=l
 Z t:=(o t).fb
 gA:=p
 heap:=q
 loc st d h:=by simp[St.base]at h
 jd st d _:=r st d
 jt t e:=by simp[St.base]at e
 gD st d j c b x e:=by simp[St.base]at e
 jX t u e:=by simp[St.base]at e
 gF t st d j e:=by simp[St.base]at e
 ib t i j e:=by simp[St.base]at e
def KH{fz:ak}{E:aJ}(h:jD fz s.E E):MM fz s (s.base E) where
 n:=rfl
 Z x:=by
  show WV fz (s.Z x) (if(s.Z x).dW then .unk else s.Z x);split
  .exact .inl rfl
  .exact .inr (.refl _)
 lk _:=rfl
 fl x e:=by simp[St.base]at e
 G _:=aL _
 A x i d off e:=by
  have f:(if(s.Z x).dW then V.unk else s.Z x)=.A i d off:=e;split at f
  .cases f
  next l=>rw[f]at l;simp[V.dW]at l
 loc i d h:=by simp[St.base]at h
 fc i d j h:=by simp[St.base]at h
 E:=h
def P0{E:aJ}(R:Rel GL g (s.base E) a w)(t:Nat):VR g ((s.base E).Z t) (a.tmps.getD t undef):=
 (R.Z t).oh (by
  intro i k m e;have d:(if(s.Z t).dW then V.unk else s.Z t)=.A i k m:=e;split at d
  .cases d
  next f=>rw[d]at f;simp[V.dW]at f)
def M0:∀(ps:List Nat)(vs:List V)(s:St),(s.wV ps vs).n=s.n
 |[],_,_=>by simp[St.wV]
 |_::_,[],_=>by simp[St.wV]
 |p::ps,v::vs,s=>by simp only[St.wV];rw[M0 ps vs];rfl
def Rel.wV:∀{ps:List Nat} {vs:List V} {ys:List Value} {s:St} {a:Act},Rel GL g s a w->ps.all (· <s.n)=true->vs.length=ps.length->ys.length=ps.length->(∀(k:Nat) c y,vs[k]?=some c->ys[k]?=some y->VR g c y)->
 Rel GL g (s.wV ps vs) {a with tmps:=(ps.zip ys).foldl (λt p=>t.setIfInBounds p.1 p.2) a.tmps} w
 |[],[],[],s,a,R,_,_,_,_=>R
 |p::ps,v::vs,y::ys,s,a,R,E,h1,f,h=>by
  simp only[bN,aX,cy]at E;have j:=R.put (d:=p) (l:=none) (bL:=false) E.1 (h 0 v y rfl rfl).fb bR bR;exact Rel.wV (a:=a.put (some p) y) j E.2 (by simpa using h1) (by simpa using f) (λk c z o q=>h (k+1) c z (by simpa using o) (by simpa using q))
 |[],_::_,_,_,_,_,_,h1,_,_=>by simp at h1
 |_::_,[],_,_,_,_,_,h1,_,_=>by simp at h1
 |[],_,_::_,_,_,_,_,_,f,_=>by simp at f
 |_::_,_,[],_,_,_,_,_,f,_=>by simp at f
end
end
section
variable {GL:Nat->Option (List V)}{P:Program}
def M1(o:Oper):List Nat:=(o.after.toList.filter λe=>Region.binds .any e).map (·.on)
def KI:List Oper->List (Option BI)->Option (List (BI×List Nat))
 |[],[]=>some []
 |o::r,some b::q=>(KI r q).map ((b,M1 o)::·)
 |_,_=>none
def wW:∀{os:List Oper} {d:List (Option BI)} {l:List (BI×List Nat)},KI os d=some l->os.length=l.length/\∀(i:Nat) o,os[i]?=some o->∃b,d[i]?=some (some b)/\l[i]?=some (b,M1 o)
 |[],[],l,h=>by
  cases h;exact⟨rfl,λi o h=>by simp at h⟩
 |o::r,some b::q,l,h=>by
  obtain⟨u,f,rfl⟩:=bS.1 h;obtain⟨j,p⟩:=wW f;refine⟨by simp[j],λi t a=>?_⟩;cases i with
  |zero=>simp at a;subst a;exact⟨b,rfl,rfl⟩
  |succ i=>exact p i t (by simpa using a)
 |[],_::_,_,h=>by cases h
 |_::_,[],_,h=>by cases h
 |_::_,none::_,_,h=>by cases h
def Yo(l:List (BI×List Nat))(L:Array Bool)(i:Nat):Prop:=L.getD i true=false/\∃x,l[i]?=some x/\∀j∈x.2,L.getD j false=true
def cW(P:Program)(GL:ak)(l:List (BI×List Nat)):Nat->Array Bool->St->(St->Prop)->Prop
 |0,L,s,K=>(∀i,¬Yo l L i)/\K s
 |f+1,L,s,K=>((∀i,¬Yo l L i)->K s)/\∀i x,Yo l L i->l[i]?=some x->dr P GL false x.1 s λa=>cW P GL l f (L.setIfInBounds i true) a K
def Ej{ops:Array Oper}{bis:Array (Option BI)}{l:List (BI×List Nat)}{L:Array Bool}{i:Nat}(h:KI ops.toList bis.toList=some l):i∈Region.ready .any ops L↔Yo l L i:=by
 obtain⟨z,r⟩:=wW h;rw[mem_ready];constructor
 .rintro⟨f,o,a,p⟩;obtain⟨b,_,d⟩:=r i o (by simpa using a);refine⟨f,_,d,λj D=>?_⟩;obtain⟨e,q,rfl⟩:=cG.1 D;obtain⟨t,u⟩:=kz.1 q;exact p e (by simpa using t) u
 .rintro⟨f,x,a,p⟩;have y:i<ops.toList.length:=by rw[z];exact(aH.1 a).1
  obtain⟨b,_,d⟩:=r i _ (aa y);rw[a]at d;cases d;refine⟨f,ops.toList[i],by simpa using aa y,λe q hb=>p _ ?_⟩;exact cG.2 ⟨e,kz.2 ⟨by simpa using q,hb⟩,rfl⟩
def M2{ops:Array Oper}{bis:Array (Option BI)}{l:List (BI×List Nat)}(h:KI ops.toList bis.toList=some l){K:St->Prop}:∀{f:Nat} {L:Array Bool} {s:St},cW P GL l f L s K->AU P GL false ops bis f L s K
 |0,L,s,a=>⟨List.eq_nil_iff_forall_not_mem.2 λi d=>a.1 i ((Ej h).1 d),a.2⟩
 |f+1,L,s,a=>by
  refine⟨λr=>a.1 λi d=>(by have:=(Ej h).2 d;rw[r]at this;cases this),λi d=>?_⟩;have o:=(Ej h).1 d;obtain⟨y,x,j,z⟩:=id o;have t:i<ops.toList.length:=by rw[(wW h).1];exact(aH.1 j).1
  obtain⟨b,u,p⟩:=(wW h).2 i _ (aa t);rw[j]at p;cases p;exact⟨b,by simpa using u,gU (a.2 i _ o j) λD q=>M2 h q⟩
def AX{l:List (BI×List Nat)}:∀{f:Nat} {L:Array Bool} {s:St} {K K':St->Prop},cW P GL l f L s K->(∀s,K s->K' s)->cW P GL l f L s K'
 |0,_,_,_,_,h,a=>⟨h.1,a _ h.2⟩
 |_+1,_,_,_,_,h,a=>⟨λd=>a _ (h.1 d),λi x j hx=>gU (h.2 i x j hx) λ_ o=>AX o a⟩
end
section
variable {GL:Nat->Option (List V)}{P:Program}
inductive Ex where
 |normal
 |exit (id:Nat)
 |ret
 deriving DecidableEq
def Ex.real:Ex->Exit
 |.normal=>.normal
 |.exit id=>.exit id
 |.ret=>.ret
inductive BC where
 |skip
 |ops (pu:Bool) (l:List BI)
 |v7 (pu:Bool) (p:la)
 |seq (a b:BC)
 |cond (c:eO) (a b:BC)
 |block (id:Nat) (b:BC)
 |loop (b:BC)
 |exit (id:Nat)
 |ret
 |L5 (x:eO) (ps:List Nat) (a b:BC)
 |jn (a b:BC)
 |rK (t:Nat)
 |set (l:List (BI×List Nat))
def BC.Dd(id:Nat):BC->Nat
 |.seq a b|.jn a b|.cond _ a b=>a.Dd id+b.Dd id
 |.block _ b|.loop b=>b.Dd id
 |.exit d=>if d=id then 1 else 0
 |_=>0
def BC.yG:BC->Bool
 |.skip|.ops .. |.v7 .. |.L5 .. |.rK _|.set _=>true
 |.seq a b|.jn a b=>a.yG&&b.yG
 |.cond _ a b=>a.yG||b.yG
 |.block id b=>b.yG||b.Dd id !=0
 |.loop _|.exit _|.ret=>false
def BC.De:BC->Bool
 |.seq _ b|.jn _ b=>b.De
 |.cond _ a b=>a.yG&&b.yG||a.De||b.De
 |.block id b=>(b.yG||b.De)&&b.Dd id !=0||b.Dd id>1||b.De
 |_=>false
def I8(ops:Array Oper):Option Nat:=match ops.toList with
 |[d,j]=>match d.op,d.dst,d.guard,j.op,j.dst,j.guard with
  |.makeFunc (.func f) first cap,some t,none,.defer c,none,none=>match first.toList,cap.toList,c.callee,c.args.toList with
   |[],[_,_,_],.value (.tmp u),[]=>if dfK f=true/\u=t then some t else none
   |_,_,_,_=>none
  |_,_,_,_,_,_=>none
 |_=>none
def comp(P:Program)(GL:ak)(j d:List Nat)(n:Nat):Code->Option BC
 |.skip|.label _=>some .skip
 |.region id ops draw=>
  if draw&&d.contains (id+1000)then(KI ops.toList (ops.map (wR P GL j n ops)).toList).map .set
  else if draw then(xZ (!d.contains id) ops (ops.map (wR P GL j n ops)) ops.size (Array.replicate ops.size false)).map (.v7 (!d.contains id))
  else match I8 ops with
   |some t=>if t<n then some (.rK t)else none
   |none=>(C9 P GL j n ops (List.range ops.size)).map (.ops (!d.contains id))
 |.seq a b=>match comp P GL j d n a,comp P GL j d n b with
  |some x,some y=>some (if x.De then .jn x y else .seq x y)
  |_,_=>none
 |.cond c a b=>match eC GL c,comp P GL j d n a,comp P GL j d n b with
  |some c,some x,some y=>some (.cond c x y)
  |_,_,_=>none
 |.block id b=>(comp P GL j d n b).map (.block id)
 |.loop b=>(comp P GL j d n b).map .loop
 |.scope b=>comp P GL j d n b
 |.exit id=>some (.exit id)
 |.ret=>some .ret
 |.rangeFunc f l a b=>match eC GL f,comp P GL j d n a,comp P GL j d n b with
  |some x,some a,some b=>if l.toList.all (· <n)then some (.L5 x l.toList a b)else none
  |_,_,_=>none
 |_=>none
def BI.iH(b:BI):List Nat:=b.dst.toList
def I9:List BI->List Nat
 |[]=>[]
 |b::r=>b.iH++I9 r
def la.iH:la->List Nat
 |.done|.stop=>[]
 |.one _ b p=>b.iH++p.iH
 |.alt b p q=>b.iH++(p.iH++q.iH)
def BC.iH:BC->List Nat
 |.skip|.exit _|.ret=>[]
 |.ops _ l=>I9 l
 |.v7 _ p=>p.iH
 |.seq a b|.cond _ a b|.jn a b=>a.iH++b.iH
 |.block _ b|.loop b=>b.iH
 |.L5 .. =>[]
 |.rK t=>[t]
 |.set l=>l.flatMap λx=>x.1.iH
def BC.vC:BC->Bool
 |.seq a b|.cond _ a b|.jn a b=>a.vC&&b.vC
 |.block _ b|.loop b=>b.vC
 |.L5 .. |.rK _|.set _=>false
 |_=>true
def HX.quiet:HX->Bool
 |.lookup .. |.wK .. =>true
 |_=>false
def MX.quiet:MX->Bool
 |.entry _=>true
 |_=>false
def BI.quiet(b:BI):Bool:=match b.op with
 |.ex x=> !x.sG
 |.hx h=>h.quiet
 |.mx m=>m.quiet
 |_=>true
def Ek:List BI->Bool
 |[]=>true
 |b::r=>b.quiet&&Ek r
def la.quiet:la->Bool
 |.done|.stop=>true
 |.one _ b p=>b.quiet&&p.quiet
 |.alt b p q=>b.quiet&&(p.quiet&&q.quiet)
def BC.quiet:BC->Bool
 |.skip|.exit _|.ret=>true
 |.ops d l=>d&&Ek l
 |.v7 d p=>d&&p.quiet
 |.seq a b|.cond _ a b|.jn a b=>a.quiet&&b.quiet
 |.block _ b|.loop b=>b.quiet
 |.L5 .. |.rK _|.set _=>false
def KJ(s:St):Prop:=∀x i d off,s.Z x=.A i d off->d<s.G i
structure Kept(s t:St):Prop where
 n:t.n=s.n
 G:∀i,s.G i<=t.G i
 loc:∀i gn,gn<s.G i->t.loc i gn=s.loc i gn
 box:t.E.box=s.E.box
 mp:t.E.mp=s.E.mp
 Y:t.E.Y=s.E.Y
def Kept.refl(s:St):Kept s s:=⟨rfl,λ_=>ao _,λ_ _ _=>rfl,rfl,rfl,rfl⟩
def Kept.trans{s t u:St}(h:Kept s t)(d:Kept t u):Kept s u:=
 ⟨d.n.trans h.n,λi=>aQ (h.G i) (d.G i),λi f j=>(d.loc i f (bA j (h.G i))).trans (h.loc i f j),d.box.trans h.box,d.mp.trans h.mp,d.Y.trans h.Y⟩
def Rel.Ux{g:aW}{s:St}{a:Act}{w:World}(R:Rel GL g s a w):KJ s:=by
 intro x i d off e;have:=R.Z x;rw[e]at this;obtain⟨b,f,_⟩:=this;rcases am d (s.G i)with h|h
 .exact h
 .rw[R.jd i d h]at f;cases f
def er(P:Program)(GL:ak)(pu:Bool):List BI->St->(St->Prop)->Prop
 |[],s,K=>K s
 |i::r,s,K=>dr P GL pu i s λd=>er P GL pu r d K
def Ti(v:V)(A B:Prop):Prop:=∃b,v=.bool b/\(b=true->A)/\(b=false->B)
def Ex.andThen(e:Ex)(s:St)(next:St->Prop)(K:Ex->St->Prop):Prop:=match e with
 |.normal=>next s
 |e=>K e s
def vc(P:Program)(GL:ak):BC->St->(Ex->St->Prop)->Prop
 |.skip,s,K=>K .normal s
 |.ops q l,s,K=>er P GL q l s (K .normal)
 |.v7 q p,s,K=>bV P GL q p s (K .normal)
 |.seq a b,s,K=>vc P GL a s λe d=>e.andThen d (λd=>vc P GL b d K) K
 |.jn a b,s,K=>KJ s->vc P GL a s λe d=>e.andThen d (λd=>vc P GL b d K\/∃t,Eg d t/\(∀x,x∉a.iH->t.Z x=d.Z x)/\(a.quiet=true->Kept s t)/\vc P GL b t K) K
 |.cond c a b,s,K=>Ti (s.val c) (vc P GL a s K) (vc P GL b s K)
 |.block id b,s,K=>vc P GL b s λe d=>if e=.exit id then K .normal d else K e d
 |.loop b,s,K=>KJ s->∃(I:Nat->St->Prop),(∃k t,Eg s t/\I k t)/\(b.quiet=true->∀k t,I k t->Kept s t)/\(∀k t,I k t->∀x,x∉b.iH->t.Z x=s.Z x)/\
  ∀k t,I k t->vc P GL b t λe d=>e.andThen d (λd=>KJ d->∃r u,r<k/\Eg d u/\I r u) K
 |.exit id,s,K=>K (.exit id) s
 |.ret,s,K=>K .ret s
 |.rK t,s,K=>K .normal (s.put t .unk none false)
 |.set l,s,K=>cW P GL l l.length (Array.replicate l.length false) s (K .normal)
 |.L5 x y a b,s,K=>∃f cap items,s.val x=.fn f cap/\fL P f=true/\Iter P f cap items/\(∀it∈items,it.length=y.length)/\a.vC=true/\b.vC=true/\
  ∃J:Nat->aJ->Prop,(∃fz E,jD fz s.E E/\J 0 E)/\
   (∀j E it,J j E->items[j]?=some it->vc P GL a (s.begin E y it) λe t=>e=.normal/\vc P GL b t λe t=>match e with
    |.normal=>∃fz o,jD fz t.E o/\J (j+1) o
    |.ret=>K .ret (s.base t.E)
    |.exit id=>K (.exit id) (s.base t.E))/\
   ∀E,J items.length E->K .normal (s.base E)
def Ja{pu:Bool}:∀{l:List BI} {s:St} {K:St->Prop},er P GL pu l s K->vB P GL l s K
 |[],_,_,h=>h
 |i::r,s,K,h=>by
  simp only[er]at h;simp only[vB];have d:=gU h λo f=>Ja f;unfold dr at d;cases j:i.guard with
  |none=>simp only[j]at d ⊢;exact AS d
  |some p=>
   obtain⟨t,want⟩:=p;simp only[j]at d ⊢
   revert d
   cases s.Z t with
   |bool b=>
    intro d;simp only at d ⊢
    by_cases hb:b=want
    .rw[ax hb]at d ⊢;exact AS d
    .rw[an hb]at d ⊢;exact d
   |_=>exact id
def HE{F:Fence}{n:Nat}{c:Code}{Q:Exit->Act->World->Prop}{a:Act}{w:World}(h:c.wpIn F n P (Exit.noGoto Q) a w):(Code.scope c).wpIn F n P Q a w:=by
 intro b k cs q hb p;have j:StepsIn (Machine.fenced P F) P (lone (b.atR a (.code (.scope c)::k)) cs w) (lone (b.atR a (.code c::.inScope c::k)) cs w):=
  .one (fenced_calm hb p rfl) (step_lone_go (by simp[stepG,stepG.exec,Frame.atR]))
 obtain⟨e,a₁,f,o,d⟩:=h b (.inScope c::k) cs q hb p;cases e with
 |normal=>exact⟨.normal,a₁,f,o,StepsIn.trans j (StepsIn.trans d (.one (fenced_calm hb p rfl) (step_lone_go (by simp[stepG,stepG.exec,Frame.atR]))))⟩
 |exit id=>
  have r:exitTo id (.inScope c::k)=exitTo id k:=by simp[exitTo]
  refine⟨.exit id,a₁,f,o,λt u=>StepsIn.trans j (d.1 t (by rw[r];exact u)),λy z=>?_⟩;obtain⟨k₁,D,H⟩:=d.2 y (by rw[r];exact z);exact⟨k₁,D,StepsIn.trans j H⟩
 |goto l=>exact o.elim
 |ret=>exact⟨_,a₁,f,o,.of_steps j d⟩
 |panic ch=>exact⟨_,a₁,f,o,.of_steps j d⟩
 |outgrown=>exact⟨_,a₁,f,o,.of_steps j d⟩
def ux{pu:Bool}:∀{l:List BI} {s:St} {K K':St->Prop},er P GL pu l s K->(∀s,K s->K' s)->er P GL pu l s K'
 |[],_,_,_,h,d=>d _ h
 |_::_,_,_,_,h,d=>gU h λ_ f=>ux f d
def kE{pu:Bool}:∀{p:la} {s:St} {K K':St->Prop},bV P GL pu p s K->(∀s,K s->K' s)->bV P GL pu p s K'
 |.done,_,_,_,h,d=>d _ h
 |.stop,_,_,_,_,_=>trivial
 |.one _ _ _,_,_,_,h,d=>gU h λ_ f=>kE f d
 |.alt _ _ _,_,_,_,h,d=>⟨gU h.1 λ_ f=>kE f d,kE h.2 d⟩
def ik{e:Ex}{s:St}{N d:St->Prop}{K K':Ex->St->Prop}(h:e.andThen s N K)(f:N s->d s)(j:K e s->K' e s):e.andThen s d K':=by
 cases e with
 |normal=>exact f h
 |_=>exact j h
def fV:∀{b:BC} {s:St} {K K':Ex->St->Prop},vc P GL b s K->(∀e s,K e s->K' e s)->vc P GL b s K':=by
 intro b;induction b with
 |skip=>intro s K K' h d;exact d _ _ h
 |ops R l=>intro s K K' h d;exact ux h (d _)
 |v7 R p=>intro s K K' h d;exact kE h (d _)
 |seq a b q o=>intro s K K' h d;exact q h λe t r=>ik r (λH=>o H d) (d e t)
 |jn a b q o=>intro s K K' h d N;exact q (h N) λe t r=>ik r (λH=>H.imp (λH=>o H d) λ⟨t,y,z,D,L⟩=>⟨t,y,z,D,o L d⟩) (d e t)
 |cond c a b q o=>intro s K K' h d;obtain⟨t,y,z,D⟩:=h;exact⟨t,y,λe=>q (z e) d,λe=>o (D e) d⟩
 |block id b ih=>
  intro s K K' h d;refine ih h λe t r=>?_;by_cases Q:e=.exit id
  .simp only[Q,bQ]at r ⊢;exact d _ _ r
  .simp only[Q,cE]at r ⊢;exact d _ _ r
 |loop b ih=>
  intro s K K' h d N;obtain⟨I,y,z,D,L⟩:=h N;exact⟨I,y,z,D,λk t ab=>ih (L k t ab) λe u ac=>ik ac id (d e u)⟩
 |exit id=>intro s K K' h d;exact d _ _ h
 |ret=>intro s K K' h d;exact d _ _ h
 |rK t=>intro s K K' h d;exact d _ _ h
 |set l=>intro s K K' h d;exact AX h (d _)
 |L5 x a1 a b q o=>
  intro s K K' h d;obtain⟨f,cap,items,y,z,D,L,ad,ai,J,aA,aB,aC⟩:=h;exact⟨f,cap,items,y,z,D,L,ad,ai,J,aA,λj E it aD a0=>q (aB j E it aD a0) λe t h=>⟨h.1,o h.2 λe t=>by cases e<;>intro h<;>first|exact h|exact d _ _ h⟩,λE e=>d _ _ (aC E e)⟩
def OKc(P:Program)(GL:ak)(l o:List Nat)(c:Code):Prop:=∀{bc:BC} {s:St} {K:Ex->St->Prop} {g:aW} {a:Act} {w:World} {ro:Option Nat} {m:Nat},comp P GL l o s.n c=some bc->(ro=none\/bc.vC=true)->vc P GL bc s K->Rel GL g s a w->
 ∀{Q:Exit->Act->World->Prop},(∀e j d a' f,K e d->d.n=s.n->Rel GL j d a' f->Step g w j f->Q e.real a' f)->c.wpIn (FW ro) m P Q a w
def Uy{c9 u:List Nat}{f:Operand}{ps:Array Tmp}{assign body:Code}{ab bb:BC}{s:St}{K:Ex->St->Prop}{z:aW}{a:Act}{w:World}{m:Nat}{gf:FuncId}{cap:List V}{items:List (List V)}{J:Nat->aJ->Prop}{fD:aJ}{xs:Array Value}
 (hw:comp P GL c9 u s.n assign=some ab) (hb:comp P GL c9 u s.n body=some bb) (e5:ab.vC=true) (e6:bb.vC=true) (e7:ps.toList.all (· <s.n)=true) (b2:Rel GL z (s.base fD) a w)
 {Q:Exit->Act->World->Prop} (fa:∀e g' s' a' w',K e s'->s'.n=s.n->Rel GL g' s' a' w'->Step z w g' w'->Q e.real a' w')
 (fr:a.eval f=.func (.func gf) #[] xs) (fs:xs.size=cap.length) (fB:∀(j:Nat) c x,cap[j]?=some c->xs[j]?=some x->VR z c x) (el:fL P gf=true) (gb:Iter P gf cap items) (hlen:∀it∈items,it.length=ps.toList.length)
 (gk:J 0 fD)
 (b3:∀j E it,J j E->items[j]?=some it->vc P GL ab (s.begin E ps.toList it) λe t=>e=.normal/\vc P GL bb t λe t=>match e with
  |.normal=>∃fz N,jD fz t.E N/\J (j+1) N
  |.ret=>K .ret (s.base t.E)
  |.exit id=>K (.exit id) (s.base t.E))
 (dd:∀E,J items.length E->K .normal (s.base E)) (gn:OKc P GL c9 u assign) (gp:OKc P GL c9 u body):(Code.rangeFunc f ps assign body).wpIn (FW none) m P Q a w:=by
 refine wpIn_rangeFunc ?_;intro fn hQ;obtain⟨D,bv⟩:∃D,D=w.heap.size:=⟨_,rfl⟩;obtain⟨rec,q⟩:∃rec:LoopState->Option Code->Loop,rec=λst aC=>{state:=st,pending:=aC,fn,tmps:=a.tmps,params:=ps,assign,body,defers:=D}:=⟨_,rfl⟩;obtain⟨aD,a7⟩:∃aD,aD=(w.alloc (.deferred (some []))).alloc (.loop (rec .ready none)):=⟨_,rfl⟩;obtain⟨b5,a2⟩:∃b5:Act,b5={tmps:=a.tmps,defers:=[]}:=⟨_,rfl⟩;obtain⟨g0,a3⟩:∃g0:aW,g0={z with bL:=λb o=>match z.bL b o with|.rK=>.ext|x=>x}:=⟨_,rfl⟩;have o1:∀b o,g0.bL b o=z.bL b o\/(z.bL b o=.rK/\g0.bL b o=.ext):=by
  intro b o;rw[a3];simp only;split
  next h=>exact .inr ⟨h,rfl⟩
  .exact .inl rfl
 have a8:Rel GL g0 (s.base fD) {tmps:=a.tmps,defers:=[]} w:=
  b2.swap rfl .nil (λb o=>(o1 b o).imp id λh=>⟨.inr h.1,.inl h.2⟩) (by rw[a3]) (by rw[a3])
 have b6:z.Le g0:=by
  have k:∀{b o ow},z.bL b o=ow->ow≠.rK->g0.bL b o=ow:=λ{b o ow} e h=>by
   rcases o1 b o with h1|h1
   .rw[h1,e]
   .exact absurd (e.symm.trans h1.1) h
  exact⟨λ_ _ _ e=>k e bR,λ_ _ e=>k e bR,λ_ _ e=>by rw[a3];exact e⟩
 have ha:Rel GL ((g0.block w.heap.size λ_=>.ext).block (w.alloc (.deferred (some []))).heap.size λ_=>.ext) (s.base fD) {tmps:=a.tmps,defers:=[]} aD:=by
  rw[a7];exact(a8.alloc (ow:=λ_=>.ext) (ob:=.deferred (some [])) (λ_ _ e=>by cases e) (λ_ e=>by cases e)).alloc (λ_ _ e=>by cases e) (λ_ e=>by cases e)
 have hc:Step g0 w ((g0.block w.heap.size λ_=>.ext).block (w.alloc (.deferred (some []))).heap.size λ_=>.ext) aD:=by
  rw[a7];exact(Step.alloc a8.gA).trans (Step.alloc (a8.alloc (ow:=λ_=>.ext) (ob:=.deferred (some [])) (λ_ _ e=>by cases e) (λ_ e=>by cases e)).gA)
 have ds:((g0.block w.heap.size λ_=>.ext).block (w.alloc (.deferred (some []))).heap.size λ_=>.ext).bL (D+1) 0=.ext:=by
  have:D+1=(w.alloc (.deferred (some []))).heap.size:=by simp[bv]
  rw[this];exact aW.eL _ _ _ _
 have dF:((g0.block w.heap.size λ_=>.ext).block (w.alloc (.deferred (some []))).heap.size λ_=>.ext).bL D 0=.ext:=by
  rw[aW.ff _ _ _ (by simp[bv]),bv];exact aW.eL _ _ _ _
 have hd:aD.heap[D+1]?=some (.loop (rec .ready none)):=by
  have:D+1=(w.alloc (.deferred (some []))).heap.size:=by simp[bv]
  rw[a7,this];exact wF _ _
 have he:aD.heap[D]?=some (.deferred (some [])):=by
  rw[a7];refine pE _ _ ?_;rw[bv];exact wF _ _
 generalize (g0.block w.heap.size λ_=>.ext).block (w.alloc (.deferred (some []))).heap.size (λ_=>.ext)=g1 at ha hc ds dF;obtain⟨ai,H⟩:∃ai:LoopState->Option Code->aW->aJ->World->Prop,ai=λst aC g E W=>Rel GL g (s.base E) b5 W/\Step g0 w g W/\g.bL (D+1) 0=.ext/\g.bL D 0=.ext/\W.heap[D+1]?=some (.loop (rec st aC))/\W.heap[D]?=some (.deferred (some [])):=⟨_,rfl⟩;have bare:∀{g:aW} {s':St} {W:World},Rel GL g s' {tmps:=a.tmps,defers:=[]} W->Rel GL g s' b5 W:=λR=>by
  subst a2;exact R
 have grow:∀{st aC g E W bU},ai st aC g E W->Grow g0 W bU->ai st aC g E bU:=by
  intro st aC g E W bU h a9;rw[H]at h ⊢
  obtain⟨R,S,h1,a0,a4,b7⟩:=h;exact⟨R.grow S.le a9,S.grow R.gA a9,h1,a0,a9.obj _ _ rfl a4,a9.obj _ _ rfl b7⟩
 have outer:∀{g E W} {st aC},ai st aC g E W->∀aA aB,∃ad,Rel GL ad (s.base E) {a with defers:=[{target:=.collected D,args:=#[]}]++a.defers} (mc W (D+1) (.loop (rec aA aB)))/\Step z w ad (mc W (D+1) (.loop (rec aA aB))):=by
  intro g E W st aC h aA aB;rw[H]at h;obtain⟨R,S,h1,a0,a4,b7⟩:=h;have L:=S.HD (pg:=.loop (rec aA aB)) a8.gA av a4 rfl rfl;have hf:=R.HD (pg:=.loop (rec aA aB)) a4 rfl rfl h1 bR;have dU:(mc W (D+1) (.loop (rec aA aB))).heap[D]?=some (.deferred (some [])):=by rw[kx av];exact b7
  generalize mc W (D+1) (.loop (rec aA aB))=bU at L hf dU;obtain⟨ad,bi⟩:∃ad:aW,ad={g with bL:=λb o=>match z.bL b o with|.rK=>.rK|_=>if b=D/\o=0 then .rK else g.bL b o}:=⟨_,rfl⟩;have key:∀b o,(z.bL b o=.rK\/(b=D/\o=0))->g.bL b o=.ext/\ad.bL b o=.rK:=by
   intro b o r;refine⟨?_,by
    rw[bi];simp only;split
    .rfl
    next br=>
     rcases r with r|r
     .exact absurd r br
     .rw[ax r]⟩
   rcases r with r|⟨rfl,rfl⟩
   .rcases o1 b o with l|l
    .rw[a3]at l;simp only[r]at l;cases l
    .exact(L.ext b o l.2).1
   .exact a0
  have ca:∀b o,¬(z.bL b o=.rK\/(b=D/\o=0))->ad.bL b o=g.bL b o/\g0.bL b o=z.bL b o:=by
   intro b o r;refine⟨by
    rw[bi];simp only;split
    next br=>exact absurd (.inl br) r
    .rw[an (λbr=>r (.inr br))],?_⟩
   rcases o1 b o with l|l
   .exact l
   .exact absurd (.inl l.1) r
  have hS:w.heap.size<=D:=av;have hg:∀o,z.bL D o=.free:=by
   intro o;refine cJ λcb=>?_;have:=b2.gA.il D o cb;omega
  have up:∀{b o ow},z.bL b o=ow->ow≠.rK->ow≠.free->(g0.bL b o=ow->g.bL b o=ow)->ad.bL b o=ow:=by
   intro b o ow e l bs hy;have r:¬(z.bL b o=.rK\/(b=D/\o=0)):=by
    rintro(et|⟨rfl,rfl⟩)
    .exact l (e.symm.trans et)
    .exact bs (e.symm.trans (hg 0))
   obtain⟨et,br⟩:=ca b o r;rw[et];exact hy (br.trans e)
  refine⟨ad,hf.swap (by subst a2;rfl) ?_ (λb o=>?_) (by rw[bi]) (by rw[bi]),?_⟩
  .refine⟨λd cc=>?_,?_⟩
   .rcases bC.1 cc with rfl|cc
    .exact .inl ⟨D,rfl,(key D 0 (.inr ⟨rfl,rfl⟩)).2,dU⟩
    .rcases b2.gj.1 d cc with⟨dg,bo,a5,hh⟩|cb
     .exact .inl ⟨dg,bo,(key dg 0 (.inl a5)).2,L.od dg _ (by rw[a3];simp only[a5]) rfl hh⟩
     .exact .inr cb
   .refine ej.2 ⟨λd cc=>.inl ?_,b2.gj.2⟩;rcases b2.gj.1 d cc with⟨dg,bo,a5,hh⟩|⟨k,hV,h0,h2,_,cb⟩
    .rintro rfl;simp at bo;subst bo;rw[hg 0]at a5;cases a5
    .rintro rfl;simp at cb
  .by_cases r:z.bL b o=.rK\/(b=D/\o=0)
   .obtain⟨l,bs⟩:=key b o r;exact .inr ⟨.inl l,.inr bs⟩
   .exact .inl (ca b o r).1
  .exact {
    gZ:=λb o x e=>up e bR bR (L.gZ b o x)
    e8:=λb ob e=>up e bR bR (L.e8 b ob)
    hb:=λi b e=>by rw[bi];exact L.hb i b (b6.hb i b e)
    ext:=λb o e=>by
     have r:g0.bL b o=.ext:=by
      rcases o1 b o with l|l
      .rw[l,e]
      .exact l.2
     exact⟨up e bR bR (λh=>(L.ext b o h).1),(L.ext b o r).2⟩
    od:=λb ob e l bs=>by
     have r:g0.bL b 0=.ext:=by
      rcases o1 b 0 with l|l
      .rw[l,e]
      .exact l.2
     exact L.od b ob r l bs
    ru:=λb o e hb=>by
     by_cases r:z.bL b o=.rK\/(b=D/\o=0)
     .rw[(key b o r).2]at e;cases e
     .obtain⟨l,bs⟩:=ca b o r;rw[<-bs];exact L.ru b o (l.symm.trans e) hb
    size:=L.size
    gW:=⟨L.gW.tape,L.gW.os,L.gW.out,λe=>L.gW.drawn (by
     rcases o1 0 0 with l|l
     .rw[l,e]
     .exact l.2)⟩
    whole:=λb hb e=>L.whole b hb λo=>by
     rcases o1 b o with l|l
     .rw[l];exact e o
     .exact .inl l.2}
 refine⟨D+1,[{target:=.collected D,args:=#[]}],aD,{target:=.fn (.func gf) xs,args:=#[.func (.yield (D+1)) #[] #[]]},aD,gf,#[.func (.yield (D+1)) #[] #[]]++xs,aD,?_,?_,λ_ _=>trivial,?_,λe=>(by cases e),?_⟩
 .rw[a7,q,bv];exact run_enterLoop_outer _ _ _ _ _
 .simp only[resolve,fr];simp[go_sem]
 .simp[invoke,go_sem,p5 el]
 .refine(gb (D+1) (m-1) g0 aD xs (λj W=>∃g E,J j E/\ai .ready none g E W) (λW=>∃(e:Ex)(c:Code)(g:aW)(E:aJ),K e (s.base E)/\((e=.ret/\c=.ret)\/∃id,e=.exit id/\c=.exit id)/\ai .done (some c) g E W) fs (λj c x bo a5=>(fB j c x bo a5).mono b6) ?_ ?_ ?_ ?_ ?_).mono ?_
  .rintro j W ⟨g,E,_,h⟩ b o x e;rw[H]at h;exact h.1.gA.gZ b o x (h.2.1.gZ b o x e)
  .rintro j W bU ⟨g,E,h1,a0⟩ a9;exact⟨g,E,h1,grow a0 a9⟩
  .rintro W bU ⟨e,c,g,E,h1,a0,a4⟩ a9;exact⟨e,c,g,E,h1,a0,grow a4 a9⟩
  .rintro j W it ys ⟨g,E,eN,ac⟩ hi ea hj;rw[H]at ac;obtain⟨R,S,h1,a0,a4,b7⟩:=ac;have ch:it.length=ps.toList.length:=hlen it (bT hi);have hk:=run_yield (P:=P) (args:=ys) a4 (by rw[q];simp only;rw[ea,ch];simp);rw[q]at hk;refine⟨fn,_,assign,body,hk,?_⟩;have hz:(ps.zip ys).foldl (λtmps (t,v)=>tmps.setIfInBounds t v) a.tmps=(ps.toList.zip ys.toList).foldl (λt p=>t.setIfInBounds p.1 p.2) a.tmps:=by
    rw[<-mg,Array.toList_zip]
   have hB:Rel GL g (s.begin E ps.toList it) {tmps:=(ps.toList.zip ys.toList).foldl (λt p=>t.setIfInBounds p.1 p.2) a.tmps,defers:=[]} W:=by
    have:=R.wV (ps:=ps.toList) (vs:=it) (ys:=ys.toList) e7 ch (by simp[ea,ch]) (λk c y bo a5=>(hj k c y bo (by simpa using a5)).mono S.le);subst a2;exact this
   refine roundIn_of_wpIn trivial ?_;have eb:(s.begin E ps.toList it).n=s.n:=M0 _ _ _;simp only[hz];refine gn (ro:=some (D+1)) (m:=m-1-1) (by rw[eb];exact hw) (.inr e5) (b3 j E it eN hi) hB ?_;rintro e hl t hD hn ⟨rfl,ho⟩ hq hF ci;have cp:=(ci.ext _ _ h1).1;have bu:=ci.od _ _ h1 rfl a4;have ed:=(ci.ext _ _ a0).1;have hr:=ci.od _ _ a0 rfl b7;refine⟨_,run_beginRound bu (by rw[q]),?_⟩;have dp:({rec .ready none with state:=.busy}:Loop)=rec .busy none:=by rw[q]
   rw[dp];have hH:Rel GL hl t hD (mc hn (D+1) (.loop (rec .busy none))):=hF.HD bu rfl rfl cp bR;have hK:Step g0 w hl (mc hn (D+1) (.loop (rec .busy none))):=(S.trans ci).HD a8.gA av bu rfl rfl;refine gp (ro:=some (D+1)) (m:=m-1-1) (by rw[hq,eb];exact hb) (.inr e6) ho hH ?_;rintro e g4 c1 h3 a1 c2 hR hs c5;have c6:=(c5.ext _ _ cp).1;have a6:a1.heap[D+1]?=some (.loop (rec .busy none)):=c5.od _ _ cp rfl (zx bu);have e1:=(c5.ext _ _ ed).1;have e2:a1.heap[D]?=some (.deferred (some [])):=c5.od _ _ ed rfl (by rw[kx av];exact hr);have fin:∀(jump:Option Code)(fz:ak)(N:aJ),jD fz c1.E N->
    (Instr.endRound (D+1) jump).run P a1=.ok (.bool jump.isNone) (mc a1 (D+1) (.loop (rec (if jump.isNone then .ready else .done) jump)))/\
    ∃g5,ai (if jump.isNone then .ready else .done) jump g5 N (mc a1 (D+1) (.loop (rec (if jump.isNone then .ready else .done) jump))):=by
    intro jump fz N e3;have u:=run_endRound (P:=P) jump a6;have c7:({rec .busy none with state:=if jump.isNone then .ready else .done,pending:=jump}:Loop)=rec (if jump.isNone then .ready else .done) jump:=by rw[q]
    rw[c7]at u;refine⟨u,g4.cut a1 fz (λ_=>0),?_⟩;have ht:Step g0 w (g4.cut a1 fz λ_=>0) a1:=(hK.trans c5).trans Step.cut;have hM:Rel GL (g4.cut a1 fz λ_=>0) (s.base N) b5 a1:=by
     refine Rel.base (by subst a2;exact a8.size) (by subst a2;exact .nil) (λt=>?_) hs.gA.cut (hs.heap.cut e3) (λi h4=>by simp[aW.cut]);have:=(P0 a8 t).mono ht.le;subst a2;exact this
    rw[H];refine⟨hM.HD a6 rfl rfl (wP.2 c6) bR,ht.HD a8.gA av a6 rfl rfl,wP.2 c6,wP.2 e1,zx a6,by rw[kx av];exact e2⟩
   cases e with
   |normal=>
    obtain⟨fz,N,e3,hu⟩:=c2;obtain⟨u,g5,l⟩:=fin none fz N e3;exact⟨_,_,u,.inl ⟨rfl,g5,N,hu,l⟩⟩
   |ret=>
    obtain⟨u,g5,l⟩:=fin (some .ret) jF c1.E (.refl _);exact⟨_,_,u,.inr ⟨rfl,.ret,.ret,g5,c1.E,c2,.inl ⟨rfl,rfl⟩,l⟩⟩
   |exit id=>
    obtain⟨u,g5,l⟩:=fin (some (.exit id)) jF c1.E (.refl _);exact⟨_,_,u,.inr ⟨rfl,.exit id,.exit id,g5,c1.E,c2,.inr ⟨id,rfl,rfl⟩,l⟩⟩
  .exact⟨g1,fD,gk,by rw[H];exact⟨bare ha,hc,ds,dF,hd,he⟩⟩
  .rintro e W ⟨v,rfl,h⟩;rcases h with⟨g,E,eN,ac⟩|⟨e,c,g,E,hO,hv,ac⟩
   .have e4:W.heap[D+1]?=some (.loop (rec .ready none)):=by rw[H]at ac;exact ac.2.2.2.2.1
    obtain⟨ad,R,S⟩:=outer ac .exhausted none;have u:=run_endLoop (P:=P) e4 (by rw[q];simp);have c7:({rec .ready none with state:=.exhausted}:Loop)=rec .exhausted none:=by rw[q]
    rw[c7]at u;refine⟨none,mc W (D+1) (.loop (rec .exhausted none)),by rw[u,show(rec .ready none).pending=none by rw[q]];rfl,?_⟩;exact fa .normal ad _ _ _ (dd E eN) rfl R S
   .have e4:W.heap[D+1]?=some (.loop (rec .done (some c))):=by rw[H]at ac;exact ac.2.2.2.2.1
    obtain⟨ad,R,S⟩:=outer ac .exhausted (some c);have u:=run_endLoop (P:=P) e4 (by rw[q];simp);have c7:({rec .done (some c)with state:=.exhausted}:Loop)=rec .exhausted (some c):=by rw[q]
    rw[c7]at u;refine⟨some c,mc W (D+1) (.loop (rec .exhausted (some c))),by rw[u,show(rec .done (some c)).pending=some c by rw[q]];rfl,?_⟩;have:=fa e ad _ _ _ hO rfl R S;rcases hv with⟨rfl,rfl⟩|⟨id,rfl,rfl⟩
    .exact wpIn_ret this
    .exact wpIn_exit this
def Uz{ops:Array Oper}{t:Nat}{s:St}{K:Ex->St->Prop}{g:aW}{a:Act}{w:World}{m:Nat}(h:I8 ops=some t)(L:t<s.n)(a3:vc P GL (.rK t) s K)(R:Rel GL g s a w)
 {Q:Exit->Act->World->Prop} (a4:∀g' s' a' w',K .normal s'->s'.n=s.n->Rel GL g' s' a' w'->Step g w g' w'->Q .normal a' w'):wpOpsIn (FW none) m P ops Q (List.range ops.size) a w:=by
 unfold I8 at h;split at h
 next o1 o2 N=>
  split at h
  next f first cap bv c ab ac ad ai aA aB=>
   split at h
   next j o p u f1 aC a5 aD=>
    split at h
    next y=>
     obtain⟨y,rfl⟩:=y;obtain rfl:=au h;have z:ops=#[o1,o2]:=lu.1 (by simpa using N);have q:first=#[]:=lu.1 (by simpa using f1)
     have D:cap=#[j,o,p]:=lu.1 (by simpa using aC);have r:c.args=#[]:=lu.1 (by simpa using aD);subst z q D;clear N f1 aC aD;obtain⟨bU,p1,a6,q1,a7,bs⟩:=o1;obtain⟨b2,b3,a0,a8,a9,bu⟩:=o2;simp only at ab ac ad ai aA aB;subst ab ac ad ai aA aB;have a1:=R.put (d:=u) (v:=.unk) (x:=.func (.func f) #[] #[a.eval j,a.eval o,a.eval p]) (l:=none) (bL:=false) L (.unk _) (by simp) (by simp);have a2:(a.put (some u) (.func (.func f) #[] #[a.eval j,a.eval o,a.eval p])).eval (.tmp u)=.func (.func f) #[] #[a.eval j,a.eval o,a.eval p]:=by
      have:=rv a.tmps u (.func (.func f) #[] #[a.eval j,a.eval o,a.eval p]) (by rw[R.size];exact L);simpa[Act.put,Act.eval]using this
     show wpOpsIn (FW none) m P _ Q [0,1] a w;simp only[wpOpsIn,fC,ew,ey];rw[ax (by simp[Region.wanted])];refine⟨λ_ _=>trivial,?_⟩;have bi:(Oper.semAt (FW none).round a.eval {dst:=some u,op:=.makeFunc (.func f) #[] #[j,o,p],type:=a6,pos:=q1,after:=a7,guard:=none}).run P w=.ok (.value (.func (.func f) #[] #[a.eval j,a.eval o,a.eval p])) w:=by
      rw[show(FW none).round=none from rfl,Oper.semAt_none];simp[execOp,Instr.makeFunc,go_sem]
     rw[bi,Oper.uponIn_value];rw[ax (by simp[Region.wanted])];refine⟨λ_ _=>trivial,?_⟩;have bo:(Oper.semAt (FW none).round (a.put (some u) (.func (.func f) #[] #[a.eval j,a.eval o,a.eval p])).eval {dst:=none,op:=.defer c,type:=a0,pos:=a8,after:=a9,guard:=none}).run P w=.ok (.defer {target:=.fn (.func f) #[a.eval j,a.eval o,a.eval p],args:=#[]}) w:=by
      rw[show(FW none).round=none from rfl,Oper.semAt_none];generalize (a.put (some u) (.func (.func f) #[] #[a.eval j,a.eval o,a.eval p])).eval=H at a2;have br:resolve H c a0=pure {target:=.fn (.func f) #[a.eval j,a.eval o,a.eval p],args:=#[]}:=by
       unfold resolve;rw[a5];show Deferred.ofValue (H (.tmp u)) (c.args.map H)=_;rw[a2,r];simp[Deferred.ofValue]
      simp only[execOp,br];rfl
     rw[bo,Oper.uponIn_defer];exact a4 g _ _ w a3 rfl {a1 with gj:=a1.gj.cons ⟨f,_,_,_,y,rfl⟩} (Step.refl g w)
    .cases h
   .cases h
  .cases h
 .cases h
def Yp(hm:P.follows .mixedOrders=true){ed el:List Nat}:∀{c:Code},OKc P GL ed el c:=by
 intro c;induction c with
 |skip=>
  intro bc s K g a w ro m d _ D R Q o;simp[comp]at d;subst d;exact wpIn_skip (o .normal g s a w D rfl R (Step.refl g w))
 |label l=>
  intro bc s K g a w ro m d _ D R Q o;simp[comp]at d;subst d;exact wpIn_label (o .normal g s a w D rfl R (Step.refl g w))
 |region id ops draw=>
  intro bc s K g a w ro m d u D R Q o;simp only[comp]at d;split at d
  next a3=>
   rw[aX]at a3;obtain⟨rfl,_⟩:=a3;obtain⟨l,bs,rfl⟩:=dn d;have ch:l.length=ops.size:=by have:=(wW bs).1;simpa using this.symm
   have a4:cW P GL l l.length (Array.replicate l.length false) s (K .normal):=D;rw[ch]at a4;refine wpIn_region_any hm ?_;exact AW (M2 bs a4) R.drew λH q a' L r z N S=>o .normal H q a' L r z N ((Step.drew g w).trans S)
  split at d
  next a3=>subst a3;obtain⟨p,E,rfl⟩:=dn d;have a4:=zK E D;refine wpIn_region_any hm ?_;exact AW a4 R.drew λH q a' L r z N S=>o .normal H q a' L r z N ((Step.drew g w).trans S)
  next a3=>
   have ci:draw=false:=by simpa using a3
   subst ci;refine wpIn_region ?_;split at d
   next t a6=>
    split at d
    next a7=>cases d;obtain rfl:ro=none:=u.resolve_right (by simp[BC.vC]);exact Uz a6 a7 D R λH q a' L r z N S=>o .normal H q a' L r z N S
    .cases d
   .obtain⟨l,bs,rfl⟩:=dn d;exact AM bs (Ja D) R λH q a' L r z N S=>o .normal H q a' L r z N S
 |seq x y a8 a2=>
  intro bc s K g a w ro m d u D R Q o;simp only[comp]at d;split at d
  next a9 bu hx bv=>
   have a0:(ro=none\/a9.vC=true)/\(ro=none\/bu.vC=true):=by
    cases d;split at u<;>(simp only[BC.vC,aX]at u;exact⟨u.imp id (·.1),u.imp id (·.2)⟩)
   have cp:vc P GL a9 s λe q=>e.andThen q (λq=>vc P GL bu q K\/∃t,Eg q t/\(∀x,x∉a9.iH->t.Z x=q.Z x)/\(a9.quiet=true->Kept s t)/\vc P GL bu t K) K:=by
    cases d;split at D
    .exact D R.Ux
    .exact fV D λe t a6=>ik a6 .inl id
   refine wpIn_seq (a8 hx a0.1 cp R ?_);intro e H q a' L r z N S;cases e with
   |normal=>
    rcases r with r|⟨t,a5,_,_,r⟩
    .exact a2 (by rw[z];exact bv) a0.2 r N λe aA aB aC aD bi ac ad a1=>o e aA aB aC aD bi (ac.trans z) ad (S.trans a1)
    .obtain⟨fB,et,eN⟩:=N.weak a5;exact a2 (by rw[a5.n,z];exact bv) a0.2 r et λe aA aB aC aD bi ac ad a1=>o e aA aB aC aD bi (ac.trans (a5.n.trans z)) ad ((S.trans eN).trans a1)
   |exit id=>exact o (.exit id) H q a' L r z N S
   |ret=>exact o .ret H q a' L r z N S
  .cases d
 |cond c x y a8 a2=>
  intro bc s K g a w ro m d u D R Q o;simp only[comp]at d;split at d
  next cb a9 bu c1 hx bv=>cases d;simp only[BC.vC,aX]at u;obtain⟨b,hb,a4,e1⟩:=D;have:=cv R c1;rw[hb]at this;refine wpIn_cond_split this.bool (λa6=>a8 hx (u.imp id (·.1)) (a4 a6) R o) (λe2=>a2 bv (u.imp id (·.2)) (e1 e2) R o)
  .cases d
 |block id b ih=>
  intro bc s K g a w ro m d u D R Q o;simp only[comp]at d;obtain⟨bb,hb,rfl⟩:=dn d;refine wpIn_block (ih hb u D R ?_);intro e H q a' L r z N S;cases e with
  |normal=>exact o .normal H q a' L (by simpa using r) z N S
  |ret=>exact o .ret H q a' L (by simpa using r) z N S
  |exit bo=>
   by_cases h:bo=id
   .subst h;simp only[bQ]at r;simp only[Ex.real,Exit.inBlock,bQ];exact o .normal H q a' L r z N S
   .have:Ex.exit bo≠Ex.exit id:=λe=>h (by injection e);rw[an this]at r;simp only[Ex.real,Exit.inBlock,an h];exact o (.exit bo) H q a' L r z N S
 |loop b ih=>
  intro bc s K g a w ro m d u D R Q o;simp only[comp]at d;obtain⟨bb,hb,rfl⟩:=dn d;obtain⟨I,⟨k,t,a5,e3⟩,_,_,ai⟩:=D R.Ux;obtain⟨g0,b6,bU⟩:=R.weak a5;refine wpIn_loop_ghost (λk a' L=>∃H q,I k q/\q.n=s.n/\Rel GL H q a' L/\Step g w H L) k
   ⟨_,t,e3,a5.n,b6,bU⟩ ?_
  rintro k a' L ⟨H,q,c2,ac,N,a1⟩;refine ih (bc:=bb) (by rw[ac];exact hb) u (ai k q c2) N ?_;intro e aA aB aC aD r z ad br;cases e with
  |normal=>
   obtain⟨e4,e5,a7,b3,b7⟩:=r ad.Ux;obtain⟨gb,e6,e7⟩:=ad.weak b3;exact⟨e4,a7,_,e5,b7,by rw[b3.n,z,ac],e6,(a1.trans br).trans e7⟩
  |exit id=>exact o (.exit id) aA aB aC aD r (z.trans ac) ad (a1.trans br)
  |ret=>exact o .ret aA aB aC aD r (z.trans ac) ad (a1.trans br)
 |scope b ih=>
  intro bc s K g a w ro m d u D R Q o;simp only[comp]at d;refine HE (ih d u D R ?_);intro e H q a' L r z N S;cases e<;>exact o _ H q a' L r z N S
 |exit id=>
  intro bc s K g a w ro m d _ D R Q o;simp[comp]at d;subst d;exact wpIn_exit (o (.exit id) g s a w D rfl R (Step.refl g w))
 |ret=>
  intro bc s K g a w ro m d _ D R Q o;simp[comp]at d;subst d;exact wpIn_ret (o .ret g s a w D rfl R (Step.refl g w))
 |rangeFunc f gk assign body c5 c6=>
  intro bc s K g a w ro m d u D R Q o;simp only[comp]at d;split at d
  next x ab bb hx fa hb=>
   split at d
   next c7=>cases d;simp only[BC.vC,bM,gI]at u;subst u;obtain⟨gf,cap,items,ca,cc,c9,hlen,dd,dg,J,⟨fz,dp,ds,dF⟩,ai,b2⟩:=D;have b5:=cv R hx;rw[ca]at b5;obtain⟨gn,dU,ea,eb⟩:=b5.fn;have b6:=R.uk (KH ds);have bU:Step g w (g.cut w fz (s.base dp).G) w:=Step.cut;exact Uy fa hb dd dg c7 b6 (λe H q a' L r z N S=>o e H q a' L r z N (bU.trans S)) dU ea (λj c x fr fs=>(eb j c x fr fs).mono bU.le) cc c9 hlen dF ai b2 c5 c6
   .cases d
  .cases d
 |_=>intro bc s K g a w ro m d;simp[comp]at d
inductive BR where
 |tmp (t:Nat)
 |cell (t:Nat) (ag:Bool) (n:Nat)
def BR.get(s:St):BR->Option V
 |.tmp t=>if(s.Z t).dW then none else some (s.Z t)
 |.cell t ag n=>match dw s (.load ag n (.tmp t))with
  |some v=>if v.dW then none else some v
  |none=>none
def BR.p2(s:St):List BR->Option (List V)
 |[]=>some []
 |r::l=>match r.get s,BR.p2 s l with
  |some v,some d=>some (v::d)
  |_,_=>none
def BR.Df(P:Program):ResultVar->Option BR
 |.tmp t=>some (.tmp t)
 |.cell t ty=>match fq P ty,nk P ty with
  |some ag,some n=>some (.cell t ag n)
  |_,_=>none
def BR.ofVars(P:Program):List ResultVar->Option (List BR)
 |[]=>some []
 |r::l=>match BR.Df P r,BR.ofVars P l with
  |some b,some d=>some (b::d)
  |_,_=>none
structure BF where
 n:Nat
 body:BC
 res:List BR
def r6(P:Program)(GL:ak)(d j:List Nat)(f:FuncId):Option BF:=
 match P.funcs[f]? with
 |some fn=>match fn.body with
  |some c=>match comp P GL d j fn.ntmps c,BR.ofVars P fn.results.toList with
   |some bc,some l=>some ⟨fn.ntmps,bc,l⟩
   |_,_=>none
  |none=>none
 |none=>none
def St.init(n:Nat)(args:List V)(E:aJ):St:=
 {n:=n,Z:=λt=>args.getD t .qr,lk:=λ_=>none,fl:=λ_=>false,loc:=λ_ _=>[],fc:=λ_ _ _=>false,G:=λ_=>0,E:=E}
def BF.result(s:St):List BR->Option (V×Bool)
 |[.tmp t]=>if(s.Z t).dW then none else some (s.Z t,s.fl t)
 |[r]=>(r.get s).map λv=>(v,false)
 |d=>(BR.p2 s d).map λf=>(.hE f,false)
def pM(t:Nat):eX->eX
 |.tail (.var u)=>if u=t then .tail .ret else .tail (.var u)
 |x=>x
def aW.leave(g:aW)(t:Nat):aW:={bL:=λb o=>pM t (g.bL b o),lb:=g.lb,hb:=g.hb}
def v8{t:Nat}{o:eX}{x:Value}:pM t o=.gZ x↔o=.gZ x:=by
 exact bb8
def uy{t:Nat}{o:eX}{ob:Obj}:pM t o=.e8 ob↔o=.e8 ob:=by
 exact bb8
def AY{t:Nat}{o:eX}:pM t o=.ext↔o=.ext:=by
 exact bb8
def FF{t:Nat}{o:eX}:pM t o=.free↔o=.free:=by
 exact bb8
def wX{g:aW}{t:Nat}:g.Le (g.leave t):=⟨λ_ _ _ e=>v8.2 e,λ_ _ e=>uy.2 e,λ_ _ e=>e⟩
def KK{g:aW}{w:World}{t:Nat}(h:qi GL g w):qi GL (g.leave t) w where
 kn n c e:=(h.kn n c e).mono wX
 gZ b o x e:=h.gZ b o x (v8.1 e)
 e8 b o e:=h.e8 b o (uy.1 e)
 kC:=h.kC
 il b o e:=h.il b o (λd=>e (FF.2 d))
def HF{g:aW}{w:World}{t:Nat}:Step g w (g.leave t) w where
 gZ _ _ _ e:=v8.2 e
 e8 _ _ e:=uy.2 e
 od _ _ _ _ e:=e
 hb _ _ e:=e
 ext _ _ e:=⟨AY.2 e,rfl,rfl⟩
 ru _ _ e _:=AY.1 e
 size:=ao _
 gW:=.refl _
 whole _ _ _:=rfl
def HG{g:aW}{w:World}{E:aJ}{t:Nat}(h:HR g E w):HR (g.leave t) E w where
 box id cells e:=by
  obtain⟨b,h1,d⟩:=h.box id cells e;refine⟨b,h1,⟨λj=>?_,λj c f=>?_,d.ki⟩⟩
  .show pM t (g.bL b j)=_;rw[d.mq j];rfl
  .obtain⟨l,y,p,q⟩:=d.cell j c f;exact⟨l,y,p,q.mono wX⟩
 tail id cells j c b y r u z D H:=by
  intro sz K L len cap N hx k h1 d;obtain⟨f1,Q⟩:=h.tail id cells j c b y r u z D H sz K L len cap N hx k h1 d;exact⟨by show pM t (g.bL _ _)=_;rw[f1];rfl,Q⟩
 map id kvs e:=let⟨b,o,h1,d,R,ab,ac⟩:=h.map id kvs e;⟨b,o,h1,by show pM t (g.bL b 0)=_;rw[d];rfl,R,ab,ac.mono wX⟩
 Y:=h.Y
section
variable {g:aW}{s:St}{a:Act}{w:World}
def AZ(tmps:Array Value):ResultVar->Sem Value
 |.tmp t=>pure (tmps.getD t undef)
 |.cell a t=>do loadVar t (<-asAddr (tmps.getD a undef))
def Yq(R:Rel GL g s a w){r:ResultVar}{b:BR}{v:V}(h:BR.Df P r=some b)(d:b.get s=some v):∃x,(AZ a.tmps r).run P w=.ok x w/\VR g v x:=by
 cases r with
 |tmp t=>
  simp only[BR.Df]at h;cases h;simp only[BR.get]at d;split at d
  .cases d
  next f=>cases d;exact⟨_,rfl,(R.Z t).oh (by intro i k m j;rw[j]at f;simp[V.dW]at f)⟩
 |cell t ty=>
  simp only[BR.Df]at h;split at h
  next ag n p q=>
   cases h;simp only[BR.get]at d;split at d
   next u z=>
    split at d
    .cases d
    next f=>
     cases d;obtain⟨y,l,D⟩:=yt R p q (addr:=.tmp t) (x:=a.tmps.getD t undef) (R.Z t) z;have l:(AZ a.tmps (.cell t ty)).run P w=.ok y w:=by
      revert l
      simp only[AZ,Instr.loadAt];cases a.tmps.getD t undef with
      |pointer o=>cases o with
       |some H=>exact id
       |none=>exact λh=>by simp[Instr.sureAddr]at h
      |_=>exact λh=>by simp[Instr.sureAddr]at h
     exact⟨y,l,D.oh (by intro i k m j;rw[j]at f;simp[V.dW]at f)⟩
   .cases d
  .cases h
def HH(R:Rel GL g s a w):∀{p:List ResultVar} {f:List BR} {vs:List V},BR.ofVars P p=some f->BR.p2 s f=some vs->
 ∃xs:List Value,(p.mapM (AZ a.tmps)).run P w=.ok xs w/\xs.length=vs.length/\∀(j:Nat) v x,vs[j]?=some v->xs[j]?=some x->VR g v x
 |[],f,vs,h,d=>by
  simp[BR.ofVars]at h;subst h;simp[BR.p2]at d;subst d;exact⟨[],rfl,rfl,bR⟩
 |r::p,f,vs,h,d=>by
  simp only[BR.ofVars]at h;split at h
  next b ab q t=>
   cases h;simp only[BR.p2]at d;split at d
   next v ac z D=>
    cases d;obtain⟨x,H,K⟩:=Yq R q z;obtain⟨xs,L,N,Q⟩:=HH R t D;refine⟨x::xs,by simp[mF,H,L],by simp[N],λj u y l o=>?_⟩;cases j with
    |zero=>simp at l o;subst l o;exact K
    |succ j=>simp at l o;exact Q j u y l o
   .cases d
  .cases h
def A0(fn:Func)(tmps:Array Value):results fn tmps=(fn.results.toList.mapM (AZ tmps))>>=λxs=>pure (if h:xs.toArray.size=1 then xs.toArray[0]else .tuple xs.toArray):=by
 have:results fn tmps=(fn.results.mapM (AZ tmps))>>=λd=>pure (if h:d.size=1 then d[0]else .tuple d):=rfl;rw[this,lY];simp
def UA{vs:List V}{xs:List Value}(d:xs.length=vs.length)(f:∀(j:Nat) v x,vs[j]?=some v->xs[j]?=some x->VR g v x):VR g (.hE vs) (.tuple xs.toArray):=
 .hE vs _ (by simp[d]) (λj c y l o=>f j c y l (by simpa using o))
def KM(R:Rel GL g s a w){fn:Func}{f:List BR}{v:V}{bL:Bool}(h:BR.ofVars P fn.results.toList=some f)(o:BF.result s f=some (v,bL)):
 ∃x g',(results fn a.tmps).run P w=.ok x w/\u7 GL g w g' w s.E v bL x:=by
 have one:∀(r:BR)(u:V),f=[r]->r.get s=some u->∃x,(results fn a.tmps).run P w=.ok x w/\VR g u x/\∀t,r=.tmp t->x=a.tmps.getD t undef:=by
  intro r u ac Q;subst ac;obtain⟨z,d,j,D⟩:=HH R h (vs:=[u]) (by simp[BR.p2,Q]);obtain⟨x,rfl⟩:∃x,z=[x]:=by
   rcases z with _|⟨x,_|⟨y,r⟩⟩<;>simp at j
   exact⟨x,rfl⟩
  refine⟨x,by rw[A0];simp[d],D 0 u x rfl rfl,?_⟩;rintro t rfl;cases N:fn.results.toList with
  |nil=>rw[N]at h;simp[BR.ofVars]at h
  |cons ai ad=>
   rw[N]at h d;simp only[BR.ofVars]at h;split at h
   next b a4 p H=>
    simp only[co,List.cons.injEq]at h;obtain⟨rfl,rfl⟩:=h;cases ad with
    |cons a5 a2=>simp only[BR.ofVars]at H;split at H<;>simp at H
    |nil=>
     cases ai with
     |tmp aA=>
      simp[BR.Df]at p;subst p;simp[mF,AZ]at d;rw[cH];exact d.symm
     |cell aA ty=>simp only[BR.Df]at p;split at p<;>simp at p
   .cases h
 have many:∀vs,BR.p2 s f=some vs->f.length≠1->∃x,(results fn a.tmps).run P w=.ok x w/\VR g (.hE vs) x:=by
  intro vs K L;obtain⟨z,d,j,D⟩:=HH R h K;have hlen:∀{f:List BR} {vs:List V},BR.p2 s f=some vs->f.length=vs.length:=by
   intro f;induction f with
   |nil=>intro vs h;simp[BR.p2]at h;subst h;rfl
   |cons r l ih=>
    intro vs h;simp only[BR.p2]at h;split at h
    next a6 a3 p H=>cases h;simp[ih H]
    .cases h
  have hx:z.length≠1:=by rw[j,<-hlen K];exact L
  refine⟨.tuple z.toArray,?_,UA j D⟩;rw[A0];simp[d,hx]
 have plain:∀x u,(results fn a.tmps).run P w=.ok x w->VR g u x->∃x g',(results fn a.tmps).run P w=.ok x w/\u7 GL g w g' w s.E u false x:=λx u d j=>
  ⟨x,g,d,R.gA,R.heap,j,Step.refl g w,bR⟩
 unfold BF.result at o;split at o
 next t=>
  split at o
  .cases o
  next N=>simp only[co,eg]at o;obtain⟨rfl,rfl⟩:=o;obtain⟨x,d,j,D⟩:=one (.tmp t) (s.Z t) rfl (by simp[BR.get,N]);obtain rfl:=D t rfl;refine⟨_,g.leave t,d,KK R.gA,HG R.heap,j.mono wX,HF,λaB=>?_⟩;intro sz z aC len cap p H k ab aD;obtain⟨a0,a1⟩:=R.jt t aB sz z aC len cap p H k ab aD;exact⟨by show pM t (g.bL _ _)=_;rw[a0];simp[pM],a1⟩
 next r _=>obtain⟨u,Q,e⟩:=dn o;simp only[eg]at e;obtain⟨rfl,rfl⟩:=e;obtain⟨x,d,j,_⟩:=one r _ rfl Q;exact plain x _ d j
 next d j=>
  obtain⟨vs,K,e⟩:=dn o;simp only[eg]at e;obtain⟨rfl,rfl⟩:=e;have L:f.length≠1:=by
   rcases f with _|⟨r,_|⟨q,l⟩⟩
   .simp
   .exact absurd rfl (j r)
   .simp
  obtain⟨x,D,ab⟩:=many vs K L;exact plain x _ D ab
end
def Tj(P:Program):Prop:=∀k,dfK k=true->fL P k=true/\∀(d f j:Value)(m:Nat)(w:World),CallsDIn (FW none) m P k #[d,f,j] .returning w λe u l=>(∃x,e=.returned x)/\u=.returning/\l=w
structure Wd(P:Program):Prop where
 fol:P.follows .mixedOrders=true
 idle:Tj P
def x0(p:Tj P){fn:Func}{N:List BR}{s:St}{v:V}{bL:Bool}{m:Nat}{R:Ending->World->Prop}{g0:aW}{Q:World}(h:BR.ofVars P fn.results.toList=some N)(q:BF.result s N=some (v,bL)):
 ∀{ds:List Deferred} {ts:Array Value} {g:aW} {w:World},Rel GL g s {tmps:=ts,defers:=ds} w->Step g0 Q g w->(∀g' w' x,u7 GL g0 Q g' w' s.E v bL x->R (.returned x) w')->LeavesInM (FW none) m P fn ts R ds .returning w
 |[],ts,g,w,f,S,j=>by
  obtain⟨x,g',hx,out⟩:=KM f h q;exact⟨x,hx,j g' w x ⟨out.gA,out.heap,out.res,S.trans out.step,out.tail⟩⟩
 |d::ds,ts,g,w,f,S,j=>by
  have E:=ej.1 f.gj.2;rcases f.gj.1 d bR with⟨D,rfl,r,t⟩|⟨k,y,z,H,ac,rfl⟩
  .refine⟨bR,.inl ⟨D,mc w D (.deferred none),rfl,run_takeDeferred t,?_⟩⟩;refine x0 p h q (f.Th (a':={tmps:=ts,defers:=ds}) t rfl rfl (.inr r) ⟨λd l=>?_,E.2⟩ rfl) (S.aaT (by rw[r];simp) (by rw[r];simp) t rfl rfl) j;rcases f.gj.1 d (by simp[l])with⟨ad,f1,ai,aA⟩|aB
   .refine .inl ⟨ad,f1,ai,?_⟩;rw[kx];·exact aA
    rintro rfl;rcases E.1 d l with K|⟨_,_,_,_,_,K⟩
    .exact K f1.symm
    .simp at K
   .exact .inr aB
  .obtain⟨L,o⟩:=p k ac;refine⟨bR,.inr ⟨(λh=>by cases h),.func k,#[y,z,H],k,#[y,z,H],rfl,by simp[invoke,go_sem,p5 L],λ_ _=>trivial,?_⟩⟩;refine(o y z H _ w).mono ?_;rintro e u w' ⟨⟨x,rfl⟩,rfl,rfl⟩;have ab:rW g w' ds:=⟨λd l=>f.gj.1 d (eF _ l),E.2⟩;have aC:Rel GL g s {tmps:=ts,defers:=ds} w':={size:=f.size,gj:=ab,Z:=f.Z,gA:=f.gA,heap:=f.heap,loc:=f.loc,jd:=f.jd,jt:=f.jt,gD:=f.gD,jX:=f.jX,gF:=f.gF,ib:=f.ib};exact x0 p h q aC S j
def wY(hm:Wd P){N ab:List Nat}{f:FuncId}{p:BF}{args:List V}{E:aJ}{Q:V->Bool->aJ->Prop}
 (l:r6 P GL N ab f=some p) (ac:args.length<=p.n)
 (h:vc P GL p.body (St.init p.n args E) λe s'=>(∀id,e≠.exit id)/\∃v bL fz o v' j,BF.result s' p.res=some (v,bL)/\jD fz s'.E o/\V.lM fz v v'/\(j=true->(bL=true/\(Po fz v\/v'=v))\/v=.aP)/\Q v' j o):lI P GL f args E Q:=by
 intro g w q d ad ai;unfold r6 at l;split at l
 next fn aA=>
  split at l
  next c hb=>
   split at l
   next bc a6 h1 aB=>
    cases l;refine callsIn_wide.1 (callsIn_of_wp_marks (F:=FW none) (n:=0) aA hb trivial ?_);have R:Rel GL {g with lb:=λ_ _=>none} (St.init fn.ntmps args E) {tmps:=q++Array.replicate (fn.ntmps-q.size) undef,defers:=[]} w:=
     {
      size:=by
       have:=d.len;simp only[St.init,kS,Array.size_replicate];simp only at ac;omega
      gj:=.nil
      Z:=λt=>by
       simp only[St.init,cH,ap,kY];split
       next u=>
        have r:t<args.length:=by rw[<-d.len];exact u
        have:=(d.arg t args[t] q[t] bR (by simp[u])).mono (g:=g) (g':={g with lb:=λ_ _=>none}) ⟨λ_ _ _ e=>e,λ_ _ e=>e,λ_ _ e=>e⟩;simpa[u,r]using this.fb
       next u=>
        have r:args.length<=t:=by rw[<-d.len];omega
        have:(Array.replicate (fn.ntmps-q.size) undef)[t-q.size]?.getD undef=undef:=by
         rw[iJ];split<;>rfl
        rw[this];simp[r];exact VR.qr
      gA:=d.gA.lb rfl rfl
      heap:=d.heap.lb rfl rfl
      loc:=λst a7 aC=>by simp[St.init]at aC
      jd:=λ_ _ _=>rfl
      jt:=λt e=>by simp[St.init]at e
      gD:=λ_ _ _ _ _ _ e=>by simp[St.init]at e
      jX:=λ_ _ e=>by simp[St.init]at e
      gF:=λ_ _ _ _ e=>by simp[St.init]at e
      ib:=λ_ _ _ e=>by simp[St.init]at e}
    refine Yp (s:=St.init fn.ntmps args E) hm.fol (ro:=none) h1 (.inl rfl) h R ?_;rintro e g' s' a' aD ⟨D,v,bL,fz,o,v',j,y,H,hle,K,a0⟩ a8 a1 S;have a2:Step g w {g with lb:=λ_ _=>none} w:=⟨λ_ _ _ h=>h,λ_ _ h=>h,λ_ _ h=>h,λ_ _ h=>⟨h,rfl,rfl⟩,λ_ _ _ _ h=>h,λ_ _ h _=>h,ao _,.refl _,λ_ _ _=>rfl⟩;have key:LeavesInM (FW none) 0 P fn a'.tmps ad a'.defers .returning aD:=by
     refine x0 hm.idle aB y (ds:=a'.defers) (ts:=a'.tmps) a1 (a2.trans S) λa3 L x out=>?_;refine ai v' x j o (a3.cut L fz λ_=>0) L a0 ⟨out.gA.cut,out.heap.cut H,VR.uk rA (wQ out.heap H.Cu) hle out.res,out.step.trans Step.cut,λa4=>?_⟩;rcases K a4 with⟨z,a5⟩|z
     .exact((out.tail z).le hle out.res a5).cut
     .subst z;exact(dS.nil (.inr hle) out.res).cut
    cases e with
    |normal=>exact key
    |ret=>exact key
    |exit id=>exact absurd rfl (D id)
   .cases l
  .cases l
 .cases l
def yH(hm:Wd P){j l:List Nat}{f:FuncId}{d:BF}{args:List V}{E:aJ}{Q:V->Bool->aJ->Prop}
 (o:r6 P GL j l f=some d) (p:args.length<=d.n)
 (h:vc P GL d.body (St.init d.n args E) λe s'=>(∀id,e≠.exit id)/\∃v bL,BF.result s' d.res=some (v,bL)/\Q v bL s'.E):lI P GL f args E Q:=by
 refine wY hm o p (fV h ?_);rintro e s' ⟨q,v,bL,r,t⟩;exact⟨q,v,bL,jF,s'.E,v,bL,r,.refl _,.refl _,λh=>.inl ⟨h,.inr rfl⟩,t⟩
end
section
variable {GL:Nat->Option (List V)}{P:Program}
def KN{s s':St}{n:Nat}{v:V}{x:eO}(h:s.store n v x=some s'):s'.Z=s.Z:=by
 exact Wq
def P1(s:St)(d:Nat)(x:eO)(t:Nat):(s.xP d x).Z t=if t=d then s.val x else s.Z t:=by cases x<;>rfl
def M3(s:St)(d:Nat)(x:eO):(s.xP d x).n=s.n/\(s.xP d x).G=s.G/\(s.xP d x).loc=s.loc/\(s.xP d x).E=s.E:=by cases x<;>exact⟨rfl,rfl,rfl,rfl⟩
def KO{s s':St}{d:Option Nat}{a:BX}(h:iG s d a=some s')(x:Nat)(hx:d≠some x):s'.Z x=s.Z x:=by
 have ne:∀e,d=some e->x≠e:=λe f j=>hx (by rw[f,j]);cases a<;>simp only[iG]at h
 .split at h
  .cases h;simp[ne _ rfl]
  .cases h;rfl
  .cases h
 .split at h
  .cases h;simp[ne _ rfl]
  .cases h
 .split at h
  .cases h;simp[ne _ rfl]
  .cases h
 .split at h
  .cases h;rw[P1,an (ne _ rfl)]
  .cases h
 .split at h
  .cases h;simp[St.fG,ne _ rfl]
  .cases h
 .split at h
  .split at h
   .cases h;simp[St.fG,ne _ rfl]
   .cases h
  .cases h
 .split at h
  .rw[KN h]
  .cases h
 .split at h
  .obtain⟨_,_,rfl⟩:=dn h;simp[ne _ rfl]
  .cases h
 .exact W5
 .split at h
  .unfold St.app at h;split at h
   .split at h
    .cases h;simp[ne _ rfl]
    .cases h
   .split at h
    .split at h
     .split at h
      .cases h;simp[ne _ rfl,yF]
      .cases h
     .cases h
    .cases h
   .cases h
  .cases h
 .exact W5
def Kept.put(s:St)(d:Nat)(v:V)(l:Option Loc)(o:Bool):Kept s (s.put d v l o):=⟨rfl,λ_=>ao _,λ_ _ _=>rfl,rfl,rfl,rfl⟩
def Kept.fG(s:St)(d:Nat)(cs:List V):Kept s (s.fG d cs):=
 ⟨rfl,λi=>by simp only[St.fG,eR];split<;>(try subst_vars)<;>omega,λi a j=>by
  have:¬(i=d/\a=s.G d):=λf=>by obtain⟨rfl,rfl⟩:=f;omega
  simp only[St.fG,l9,an this],rfl,rfl,rfl⟩
def Kept.dP(s:St)(l:Loc):Kept s (s.dP l):=by
 cases l<;>exact⟨rfl,λ_=>ao _,λ_ _ _=>rfl,rfl,rfl,rfl⟩
def HI{s s':St}{d:Option Nat}{a:BX}(h:iG s d a=some s')(j:a.sG=false):Kept s s':=by
 cases a<;>simp only[iG]at h
 .split at h
  .cases h;exact .put ..
  .cases h;exact .refl _
  .cases h
 .split at h
  .cases h;exact .put ..
  .cases h
 .split at h
  .cases h;exact .put ..
  .cases h
 .split at h
  .cases h;obtain⟨l,o,p,f⟩:=M3 s _ _;exact⟨l,λi=>by rw[o];exact ao _,λi q _=>by rw[p],by rw[f],by rw[f],by rw[f]⟩
  .cases h
 .exact Xg
 .split at h
  .exact Xg
  .cases h
 .simp[BX.sG]at j
 .split at h
  .obtain⟨_,_,rfl⟩:=dn h;exact .put ..
  .cases h
 .exact W8
 .split at h
  .unfold St.app at h;split at h
   .split at h
    .cases h;exact .put ..
    .cases h
   .split at h
    .split at h
     .split at h
      .cases h;exact(Kept.dP ..).trans (.put ..)
      .cases h
     .cases h
    .cases h
   .cases h
  .cases h
 .exact W8
def wZ(s:St)(d:Option Nat)(v:V)(o:Bool)(x:Nat)(hx:d≠some x):(s.ret d v o).Z x=s.Z x:=by
 cases d with
 |none=>rfl
 |some e=>
  have:x≠e:=λa=>hx (by rw[a]);simp[St.ret,this]
def A1(s:St)(d:Option Nat)(v:V)(o:Bool):Kept s (s.ret d v o):=by
 cases d with
 |none=>exact .refl s
 |some e=>exact .put ..
def HJ{h:HX}{s:St}{l:List (V×Bool×aJ)}(d:h.quiet=true)(a:h.act s=some l):∀p∈l,p.2.2=s.E:=by
 intro p E;cases h with
 |AB=>simp[HX.quiet]at d
 |dZ=>simp[HX.quiet]at d
 |mkMap=>simp[HX.quiet]at d
 |sA=>simp[HX.quiet]at d
 |mapEntry=>simp[HX.quiet]at d
 |entryStore=>simp[HX.quiet]at d
 |lookup f ag z ok m k=>
  simp only[HX.act]at a;split at a
  .split at a
   .obtain⟨_,_,rfl⟩:=dn a;simp at E;rw[E]
   .cases a;simp at E;rw[E]
   .cases a
  .cases a
 |wK n x=>
  simp only[HX.act]at a;split at a
  .cases a;simp at E;rw[E]
  .cases a;simp at E;rw[E]
  .cases a;simp at E;rw[E]
  .cases a;simp at E;rcases E with rfl|rfl<;>rfl
  .cases a
def M4{m:MX}{s:St}{Q:V->Bool->aJ->Prop}(a:m.quiet=true)(h:m.wp s Q):m.wp s λv o E=>Q v o E/\E=s.E:=by
 cases m<;>simp only[MX.quiet,bM]at a
 .simp only[MX.wp]at h ⊢
  split at h
  .obtain⟨j,u,d,f,l⟩:=h;exact⟨j,u,d,f,l,trivial⟩
  .exact h
def Dg{pu:Bool}{i:BI}{s:St}{K:St->Prop}(R:St->Prop)(j:∀v o,R (s.ret i.dst v o))(d:pu=false->∀E v o,R ((s.ct E).ret i.dst v o))
 (hex:∀z s',i.op=.ex z->iG s i.dst z=some s'->R s') (L:∀z l,i.op=.hx z->z.act s=some l->∀p∈l,R ((s.ct p.2.2).ret i.dst p.1 p.2.1))
 (N:∀m,i.op=.mx m->∀{Q:V->Bool->aJ->Prop},m.wp s Q->m.wp s λv o E=>Q v o E/\R ((s.ct E).ret i.dst v o)) (h:dr P GL pu i s K):dr P GL pu i s λt=>K t/\R t:=by
 have r:∀{f args},r5 P GL pu f args s i.dst K->r5 P GL pu f args s i.dst λt=>K t/\R t:=by
  intro f args h;rcases h with⟨a,v,o,u,y,D⟩|⟨q,a,u,y⟩|⟨q,fz,E,a,u,y,⟨v,o,D,ad⟩|D⟩
  .exact .inl ⟨a,v,o,u,y,D,j v o⟩
  .exact .inr (.inl ⟨q,a,u,y.mono λv o E h=>⟨h,d q E v o⟩⟩)
  .exact .inr (.inr ⟨q,fz,E,a,u,y,.inl ⟨v,o,D,ad,d q E v o⟩⟩)
  .exact .inr (.inr ⟨q,fz,E,a,u,y,.inr (D.mono λv o E h=>⟨h,d q E v o⟩)⟩)
 have hop:b4 P GL pu s i.dst i.op K->b4 P GL pu s i.dst i.op λt=>K t/\R t:=by
  obtain⟨gd,dst,op⟩:=i;cases op with
  |ex b=>
   intro h;simp only[b4]at h ⊢
   cases H:iG s dst b with
   |none=>rw[H]at h;exact h
   |some s'=>rw[H]at h;exact⟨h,hex b s' rfl H⟩
  |call f args=>exact λh=>⟨h.1,r h.2⟩
  |bad=>exact λh=>h
  |hx ab=>
   intro h;simp only[b4,HX.outs]at h ⊢
   cases e:ab.act s with
   |none=>rw[e]at h;exact h
   |some l=>
    rw[e]at h;simp only[bG]at h ⊢
    refine zH λt ac=>⟨uu h t ac,?_⟩;obtain⟨p,E,rfl⟩:=cG.1 ac;exact L ab l rfl e p E
  |mx m=>exact λh=>N m rfl h
  |qH x args=>
   simp only[b4];cases s.val x<;>intro h<;>first|exact⟨h.1,h.2.1,r h.2.2⟩|exact h
 unfold dr at*
 split at h
 .exact hop h
 .split at h
  .split at h
   next hb=>rw[ax hb];exact hop h
   next hb=>rw[an hb];exact⟨h,j _ _⟩
  .exact⟨h,j _ _⟩
  .exact h
def A2{pu:Bool}{i:BI}{s:St}{K:St->Prop}(h:dr P GL pu i s K):dr P GL pu i s λt=>K t/\∀x,x∉i.iH->t.Z x=s.Z x:=by
 have nd:∀x,x∉i.iH->i.dst≠some x:=λx hx a=>hx (by simp[BI.iH,a]);refine Dg (λt=>∀x,x∉i.iH->t.Z x=s.Z x) ?_ ?_ ?_ (λd l _ _ p _ x hx=>wZ _ _ _ _ _ (nd x hx))
  (λm _ _ hm=>MX.mono (λv o E f=>⟨f,λx hx=>wZ _ _ _ _ _ (nd x hx)⟩) hm) h
 .intro v o x hx;exact wZ _ _ _ _ _ (nd x hx)
 .intro _ E v o x hx;exact wZ _ _ _ _ _ (nd x hx)
 .intro d q _ j x hx;exact KO j x (nd x hx)
def x1{i:BI}{s:St}{K:St->Prop}(a:i.quiet=true)(h:dr P GL true i s K):dr P GL true i s λt=>K t/\Kept s t:=by
 refine Dg (λt=>Kept s t) ?_ ?_ ?_ (λf l d j p E=>?_) (λm d Q hm=>?_) h
 .intro v o;exact A1 ..
 .intro h;cases h
 .intro f r d q;refine HI q ?_;simpa[BI.quiet,d]using a
 .have:=HJ (h:=f) (by simpa[BI.quiet,d]using a) j p E;refine Kept.trans ?_ (A1 ..);exact⟨rfl,λ_=>ao _,λ_ _ _=>rfl,by rw[<-this];rfl,by rw[<-this];rfl,by rw[<-this];rfl⟩
 .refine MX.mono (λv o E a=>⟨a.1,?_⟩) (M4 (by simpa[BI.quiet,d]using a) hm);refine Kept.trans ?_ (A1 ..);obtain⟨_,rfl⟩:=a;exact⟨rfl,λ_=>ao _,λ_ _ _=>rfl,rfl,rfl,rfl⟩
def Jb{pu:Bool}:∀{l:List BI} {s:St} {K:St->Prop},er P GL pu l s K->er P GL pu l s λt=>K t/\∀x,x∉I9 l->t.Z x=s.Z x
 |[],_,_,h=>⟨h,λ_ _=>rfl⟩
 |i::r,s,K,h=>by
  refine gU (A2 h) λt a=>ux (Jb a.1) λu d=>⟨d.1,λx hx=>?_⟩;simp only[I9,aR,mC]at hx;rw[d.2 x hx.2,a.2 x hx.1]
def sI{pu:Bool}:∀{p:la} {s:St} {K:St->Prop},bV P GL pu p s K->bV P GL pu p s λt=>K t/\∀x,x∉p.iH->t.Z x=s.Z x
 |.done,_,_,h=>⟨h,λ_ _=>rfl⟩
 |.stop,_,_,_=>trivial
 |.one _ b p,s,K,h=>by
  refine gU (A2 h) λt d=>kE (sI d.1) λu a=>⟨a.1,λx hx=>?_⟩;simp only[la.iH,aR,mC]at hx;rw[a.2 x hx.2,d.2 x hx.1]
 |.alt b p q,s,K,h=>by
  refine⟨gU (A2 h.1) λt d=>kE (sI d.1) λu a=>⟨a.1,λx hx=>?_⟩,kE (sI h.2) λu a=>⟨a.1,λx hx=>?_⟩⟩
  .simp only[la.iH,aR,mC]at hx;rw[a.2 x hx.2.1,d.2 x hx.1]
  .simp only[la.iH,aR,mC]at hx;exact a.2 x hx.2.2
def FG:∀{l:List BI} {s:St} {K:St->Prop},Ek l=true->er P GL true l s K->er P GL true l s λt=>K t/\Kept s t
 |[],s,_,_,h=>⟨h,.refl s⟩
 |i::r,s,K,a,h=>by
  simp only[Ek,aX]at a;exact gU (x1 a.1 h) λt d=>ux (FG a.2 d.1) λu f=>⟨f.1,d.2.trans f.2⟩
def ra:∀{p:la} {s:St} {K:St->Prop},p.quiet=true->bV P GL true p s K->bV P GL true p s λt=>K t/\Kept s t
 |.done,s,_,_,h=>⟨h,.refl s⟩
 |.stop,_,_,_,_=>trivial
 |.one d b p,s,K,a,h=>by
  simp only[la.quiet,aX]at a;have l:(if d=true then true else true)=true:=by cases d<;>rfl
  simp only[bV,l]at h ⊢
  exact gU (x1 a.1 h) λt f=>kE (ra a.2 f.1) λu j=>⟨j.1,f.2.trans j.2⟩
 |.alt b p q,s,K,a,h=>by
  simp only[la.quiet,aX]at a;exact⟨gU (x1 a.1 h.1) λt f=>kE (ra a.2.1 f.1) λu j=>⟨j.1,f.2.trans j.2⟩,ra a.2.2 h.2⟩
def rb{e:Ex}{s:St}{N:St->Prop}{K:Ex->St->Prop}{R:Prop}(h:e.andThen s N K)(r:R):e.andThen s (λs=>N s/\R) (λe s=>K e s/\R):=by
 cases e<;>exact⟨h,r⟩
def El:∀{b:BC} {s:St} {K:Ex->St->Prop},b.vC=true->vc P GL b s K->vc P GL b s λe t=>K e t/\∀x,x∉b.iH->t.Z x=s.Z x:=by
 intro b;induction b with
 |skip=>intro s K _ h;exact⟨h,λ_ _=>rfl⟩
 |ops H l=>intro s K _ h;exact Jb h
 |v7 H p=>intro s K _ h;exact sI h
 |seq a b q o=>
  intro s K d h;simp only[BC.vC,aX]at d;have h:vc P GL a s (λe j=>e.andThen j (λj=>vc P GL b j K) K):=h;show vc P GL a s (λe j=>e.andThen j (λj=>vc P GL b j λe t=>K e t/\∀x,x∉ (BC.seq a b).iH->t.Z x=s.Z x) λe t=>K e t/\∀x,x∉ (BC.seq a b).iH->t.Z x=s.Z x);refine fV (q d.1 h) λe t ht=>ik (rb ht.1 ht.2) (λ⟨f,h2⟩=>fV (o d.2 f) λe u hu=>⟨hu.1,λx hx=>?_⟩) (λ⟨f,h2⟩=>⟨f,λx hx=>?_⟩)
  .exact W6
  .simp only[BC.iH,aR,mC]at hx;exact h2 x hx.1
 |jn a b q o=>
  intro s K d h y;simp only[BC.vC,aX]at d;refine fV (q d.1 (h y)) λe t ht=>ik (rb ht.1 ht.2) (λ⟨f,h2⟩=>?_) (λ⟨f,h2⟩=>⟨f,λx hx=>?_⟩)
  .rcases f with f|⟨L,N,z,Q,f⟩
   .refine .inl (fV (o d.2 f) λe u hu=>⟨hu.1,λx hx=>?_⟩);exact W6
   .refine .inr ⟨L,N,z,Q,fV (o d.2 f) λe u hu=>⟨hu.1,λx hx=>?_⟩⟩;simp only[BC.iH,aR,mC]at hx;rw[hu.2 x hx.2,z x hx.1,h2 x hx.1]
  .simp only[BC.iH,aR,mC]at hx;exact h2 x hx.1
 |cond c a b q o=>
  intro s K d h;simp only[BC.vC,aX]at d;obtain⟨t,f,h2,r⟩:=h;refine⟨t,f,λe=>fV (q d.1 (h2 e)) λe u hu=>⟨hu.1,λx hx=>?_⟩,λe=>fV (o d.2 (r e)) λe u hu=>⟨hu.1,λx hx=>?_⟩⟩
  .simp only[BC.iH,aR,mC]at hx;exact hu.2 x hx.1
  .simp only[BC.iH,aR,mC]at hx;exact hu.2 x hx.2
 |block id b ih=>
  intro s K d h;show vc P GL b s (λe j=>if e=.exit id then(K .normal j/\_)else(K e j/\_));refine fV (ih d h) λe t ht=>?_;exact WI
 |loop b ih=>
  intro s K d h y;obtain⟨I,f,h2,r,R⟩:=h y;refine⟨I,f,h2,r,λk t D=>fV (ih d (R k t D)) λe u hu=>ik hu.1 id λab=>⟨ab,λx hx=>?_⟩⟩;rw[hu.2 x hx,r k t D x hx]
 |exit id=>intro s K _ h;exact⟨h,λ_ _=>rfl⟩
 |ret=>intro s K _ h;exact⟨h,λ_ _=>rfl⟩
 |L5 x ac a b=>intro s K d;simp[BC.vC]at d
 |rK t=>intro s K d;simp[BC.vC]at d
 |set l=>intro s K d;simp[BC.vC]at d
def P2:∀{b:BC} {s:St} {K:Ex->St->Prop},b.quiet=true->vc P GL b s K->vc P GL b s λe t=>K e t/\Kept s t:=by
 intro b;induction b with
 |skip=>intro s K _ h;exact⟨h,.refl s⟩
 |ops N l=>
  intro s K d h;simp only[BC.quiet,aX]at d;obtain⟨rfl,d⟩:=d;exact FG d h
 |v7 N p=>
  intro s K d h;simp only[BC.quiet,aX]at d;obtain⟨rfl,d⟩:=d;exact ra d h
 |seq a b y r=>
  intro s K d h;simp only[BC.quiet,aX]at d;have h:vc P GL a s (λe q=>e.andThen q (λq=>vc P GL b q K) K):=h;show vc P GL a s (λe q=>e.andThen q (λq=>vc P GL b q λe t=>K e t/\Kept s t) λe t=>K e t/\Kept s t);exact fV (y d.1 h) λe t ht=>ik (rb ht.1 ht.2) (λ⟨f,j⟩=>fV (r d.2 f) λe u o=>⟨o.1,j.trans o.2⟩) (λ⟨f,j⟩=>⟨f,j⟩)
 |jn a b y r=>
  intro s K d h z;simp only[BC.quiet,aX]at d;exact fV (y d.1 (h z)) λe t ht=>ik (rb ht.1 ht.2) (λ⟨f,j⟩=>f.imp (λf=>fV (r d.2 f) λe u o=>⟨o.1,j.trans o.2⟩) λ⟨Q,R,ab,H,f⟩=>⟨Q,R,ab,H,fV (r d.2 f) λe u o=>⟨o.1,(H d.1).trans o.2⟩⟩) (λ⟨f,j⟩=>⟨f,j⟩)
 |cond c a b y r=>
  intro s K d h;simp only[BC.quiet,aX]at d;obtain⟨t,f,j,D⟩:=h;exact⟨t,f,λe=>y d.1 (j e),λe=>r d.2 (D e)⟩
 |block id b ih=>
  intro s K d h;show vc P GL b s (λe q=>if e=.exit id then(K .normal q/\_)else(K e q/\_));refine fV (ih d h) λe t ht=>?_;exact WI
 |loop b ih=>
  intro s K d h z;obtain⟨I,f,j,D,ac⟩:=h z;exact⟨I,f,j,D,λk t L=>fV (ih d (ac k t L)) λe u o=>ik o.1 id λad=>⟨ad,(j d k t L).trans o.2⟩⟩
 |exit id=>intro s K _ h;exact⟨h,.refl s⟩
 |ret=>intro s K _ h;exact⟨h,.refl s⟩
 |L5 x ai a b=>intro s K d;simp[BC.quiet]at d
 |rK t=>intro s K d;simp[BC.quiet]at d
 |set l=>intro s K d;simp[BC.quiet]at d
def KP:∀{b:BC},b.quiet=true->b.vC=true:=by
 intro b;induction b with
 |seq a b d f=>intro h;simp only[BC.quiet,BC.vC,aX]at*;exact⟨d h.1,f h.2⟩
 |jn a b d f=>intro h;simp only[BC.quiet,BC.vC,aX]at*;exact⟨d h.1,f h.2⟩
 |cond c a b d f=>intro h;simp only[BC.quiet,BC.vC,aX]at*;exact⟨d h.1,f h.2⟩
 |block id b ih=>intro h;exact ih h
 |loop b ih=>intro h;exact ih h
 |L5=>intro h;simp[BC.quiet]at h
 |rK=>intro h;simp[BC.quiet]at h
 |set=>intro h;simp[BC.quiet]at h
 |_=>intro _;rfl
def look:List (Nat×V×Bool)->Nat->Option (V×Bool)
 |[],_=>none
 |(t,v,o)::r,x=>if x=t then some (v,o)else look r x
def St.head(s:St)(D bL:List Nat)(vals:List (Nat×V×Bool)):St:=
 {
  s with
  Z:=λt=>match look vals t with
   |some (v,_)=>v
   |none=>if D.contains t then .unk else s.Z t
  lk:=λ_=>none
  fl:=λt=>match look vals t with
   |some (_,o)=>o
   |none=>bL.contains t
  fc:=λ_ _ _=>false
  E:={s.E with fl:=λ_ _=>false}}
def fQ(s:St):List (Nat×V×Bool)->Prop
 |[]=>True
 |(t,v,o)::r=>(V.Le (s.Z t) v/\(o=true->s.fl t=true\/s.Z t=.aP))/\fQ s r
def fM(s:St):List Nat->Prop
 |[]=>True
 |t::r=>(s.fl t=true\/s.Z t=.aP)/\fM s r
def mN(D:List Nat):List (Nat×V×Bool)->Bool
 |[]=>true
 |(t,v,_)::r=>D.contains t&& !v.dW&&mN D r
def fQ.look{s:St}:∀{vals:List (Nat×V×Bool)},fQ s vals->∀{t v o},look vals t=some (v,o)->V.Le (s.Z t) v/\(o=true->s.fl t=true\/s.Z t=.aP)
 |[],_,_,_,_,h=>by cases h
 |(x,u,q)::r,a,t,v,o,h=>by
  simp only[Bx.look]at h;split at h
  next d=>subst d;simp only[co,eg]at h;obtain⟨rfl,rfl⟩:=h;exact a.1
  .exact fQ.look a.2 h
def mN.look{D:List Nat}:∀{vals:List (Nat×V×Bool)},mN D vals=true->∀{t v o},look vals t=some (v,o)->t∈D/\v.dW=false
 |[],_,_,_,_,h=>by cases h
 |(x,u,q)::r,a,t,v,o,h=>by
  simp only[mN,aX]at a;simp only[Bx.look]at h;split at h
  next d=>subst d;simp only[co,eg]at h;obtain⟨rfl,rfl⟩:=h;exact⟨by simpa using a.1.1,by simpa using a.1.2⟩
  .exact mN.look a.2 h
def fM.mem{s:St}:∀{l:List Nat},fM s l->∀{t},t∈l->s.fl t=true\/s.Z t=.aP
 |[],_,_,h=>by cases h
 |_::r,a,t,h=>by
  rcases bC.1 h with rfl|h
  .exact a.1
  .exact fM.mem a.2 h
def r7{s u:St}{D bL:List Nat}{vals:List (Nat×V×Bool)}(j:mN D vals=true)(l:KJ s)(q:∀x,x∉D->u.Z x=s.Z x)(a:Kept s u)(f:fQ u vals)(r:fM u bL):Eg u (s.head D bL vals):=⟨jF,{
 n:=a.n.symm
 Z:=λx=>by
  simp only[St.head];cases e:look vals x with
  |some p=>obtain⟨v,o⟩:=p;exact .inr (f.look e).1
  |none=>
   simp only;split
   .exact .inl rfl
   next hx=>rw[q x (by simpa using hx)];exact .inr (.refl _)
 lk:=λ_=>rfl
 fl:=λx h=>by
  simp only[St.head]at h ⊢
  cases e:look vals x with
  |some p=>
   obtain⟨v,o⟩:=p;simp only[e]at h;rcases(f.look e).2 h with h|h
   .exact .inl ⟨h,.inl (.inl λ_=>rfl)⟩
   .exact .inr (.inl h)
  |none=>
   simp only[e]at h;rcases r.mem (by simpa using h)with h|h
   .exact .inl ⟨h,.inl (.inl λ_=>rfl)⟩
   .exact .inr (.inl h)
 G:=a.G
 A:=λx i d off h=>by
  simp only[St.head]at h;cases e:look vals x with
  |some p=>
   obtain⟨v,o⟩:=p;simp only[e]at h;have:=(mN.look j e).2;rw[h]at this;simp[V.dW]at this
  |none=>
   simp only[e]at h;split at h
   .cases h
   .exact l x i d off h
 loc:=λi d t=>by rw[a.loc i d t];exact .refl _
 fc:=λ_ _ _ _ h=>by simp[St.head]at h
 E:=⟨λ_ _ e=>(by cases e),λid cells e=>⟨rfl,cells,by rw[a.box];exact e,.refl _⟩,λ_ _ h=>by simp[St.head]at h,λid y e=>⟨y,by rw[a.mp];exact e,.refl _⟩,by rw[a.Y];exact ao _⟩}⟩
def P3{b:BC}{s:St}{K:Ex->St->Prop}{D bL:List Nat}(z:b.quiet=true)(ac:b.iH.all D.contains=true)(H:D.all b.iH.contains=true){α:Type}(p:α->Prop)(vals:α->List (Nat×V×Bool))(j:α->Nat)(l:α)
 (hk:∀a,mN D (vals a)=true) (h0:p l) (ad:fQ s (vals l)) (ai:fM s bL)
 (d:∀a,p a->vc P GL b (s.head D bL (vals a)) λe s'=>e.andThen s' (λs'=>∃a',p a'/\j a'<j a/\fQ s' (vals a')/\fM s' bL) K):vc P GL (.loop b) s K:=by
 have sub:∀x,x∉D->x∉b.iH:=λx hx q=>hx (by have:=bP.1 ac x q;simpa using this);have r:∀x,x∉b.iH->x∉D:=λx hx q=>hx (by have:=bP.1 H x q;simpa using this);have f:∀a x,x∉D->(s.head D bL (vals a)).Z x=s.Z x:=by
  exact WF
 have o:∀a,Kept s (s.head D bL (vals a)):=λa=>⟨rfl,λ_=>ao _,λ_ _ _=>rfl,rfl,rfl,rfl⟩;intro L;refine⟨λk t=>∃a,p a/\j a=k/\t=s.head D bL (vals a),⟨_,_,r7 (hk l) L (λ_ _=>rfl) (.refl s) ad ai,l,h0,rfl,rfl⟩,?_,?_,?_⟩
 .rintro _ k t ⟨a,_,_,rfl⟩;exact o a
 .rintro k t ⟨a,_,_,rfl⟩ x hx;exact f a x (r x hx)
 .rintro k t ⟨a,aA,rfl,rfl⟩;refine fV (P2 z (El (KP z) (d a aA))) ?_;rintro e u ⟨⟨aB,aC⟩,y⟩;refine ik aB ?_ id;rintro⟨a',N,Q,R,ab⟩ _;exact⟨j a',_,Q,r7 (hk a') L (λx hx=>by rw[aC x (sub x hx),f a x hx]) ((o a).trans y) R ab,a',N,rfl,rfl⟩
def St.A3(s:St):St:={s with lk:=λ_=>none}
def M5{b:BC}{s:St}{K:Ex->St->Prop}(L:b.quiet=false)(l:b.vC=true){α:Type}(p:α->St->Prop)(f:α->Nat)(o:α)(h0:p o s.A3)
 (d:∀a t,p a t->(∀x,x∉b.iH->t.Z x=s.Z x)->vc P GL b t λe s'=>e.andThen s' (λs'=>∃a',p a' s'.A3/\f a'<f a) K):vc P GL (.loop b) s K:=by
 have q:∀{t:St},KJ t->Eg t t.A3:=λ{t} j=>⟨jF,{
   n:=rfl
   Z:=λ_=>.inr (.refl _)
   lk:=λ_=>rfl
   fl:=λ_ h=>.inl ⟨h,.inl (.inl λ_=>rfl)⟩
   G:=λ_=>ao _
   A:=λx i N off h=>j x i N off h
   loc:=λ_ _ _=>.refl _
   fc:=λ_ _ _ _ h=>.inl ⟨h,.inr rfl⟩
   E:=.refl _}⟩
 intro j;refine⟨λk t=>∃a,p a t/\f a=k/\∀x,x∉b.iH->t.Z x=s.Z x,⟨_,_,q j,o,h0,rfl,λ_ _=>rfl⟩,λh=>(by rw[L]at h;cases h),λk t ⟨a,_,_,h⟩=>h,?_⟩;rintro k t ⟨a,Q,rfl,r⟩;refine fV (El l (d a t Q r)) ?_;rintro e u ⟨R,y⟩;refine ik R ?_ id;rintro⟨a',z,D⟩ H;exact⟨f a',_,D,q H,a',z,rfl,λx hx=>(y x hx).trans (r x hx)⟩
end
section
variable {GL:Nat->Option (List V)}{P:Program}
inductive Fr where
 |seq (b:BC)
 |block (id:Nat)
 |back (N:St->Prop)
def run(P:Program)(GL:ak):List Fr->(Ex->St->Prop)->Ex->St->Prop
 |[],K,e,s=>K e s
 |.seq b::st,K,.normal,s=>vc P GL b s (run P GL st K)
 |.seq _::st,K,e,s=>run P GL st K e s
 |.block id::st,K,e,s=>if e=.exit id then run P GL st K .normal s else run P GL st K e s
 |.back N::_,_,.normal,s=>N s
 |.back _::st,K,e,s=>run P GL st K e s
section
variable {s:St}{st:List Fr}{K:Ex->St->Prop}{a b:BC}{id id':Nat}{pu:Bool}
def Em(h:vc P GL b s (run P GL [] K)):vc P GL b s K:=h
def ec(h:vc P GL a s (run P GL (.seq b::st) K)):vc P GL (.jn a b) s (run P GL st K):=λ_=>fV h λe t f=>by
 cases e with
 |normal=>exact .inl f
 |exit id=>exact f
 |ret=>exact f
def M6(h:vc P GL a s (run P GL (.seq b::st) K)):vc P GL (.seq a b) s (run P GL st K):=
 show vc P GL a s (λe f=>e.andThen f (λf=>vc P GL b f (run P GL st K)) (run P GL st K))from
 fV h λe t j=>by cases e<;>exact j
structure Hd(p:Prop):Prop where
 h:p
def nw{D bL:List Nat}{α:Type}(p:α->Prop)(vals:α->List (Nat×V×Bool))(j:α->Nat)(l:α)(r:b.quiet=true)(u:b.iH.all D.contains=true)(q:D.all b.iH.contains=true)
 (z:∀a,mN D (vals a)=true) (h0:p l) (H:fQ s (vals l)) (L:fM s bL)
 (f:∀a,p a->vc P GL b (s.head D bL (vals a)) (run P GL (.back (λs'=>∃a',Hd (p a')/\Hd (j a'<j a)/\fQ s' (vals a')/\fM s' bL)::st) K)):vc P GL (.loop b) s (run P GL st K):=
 P3 r u q p vals j l z h0 H L λa N=>fV (f a N) λe t o=>by
  cases e with
  |normal=>obtain⟨a',Q,R,ab⟩:=o;exact⟨a',Q.h,R.h,ab⟩
  |exit id=>exact o
  |ret=>exact o
def dQ(r:b.quiet=false)(o:b.vC=true){α:Type}(p:α->St->Prop)(j:α->Nat)(q:α)(h0:p q s.A3)
 (f:∀a t,p a t->(∀x,x∉b.iH->t.Z x=s.Z x)->vc P GL b t (run P GL (.back (λs'=>∃a',Hd (p a' s'.A3)/\Hd (j a'<j a))::st) K)):vc P GL (.loop b) s (run P GL st K):=
 M5 r o p j q h0 λa t u z=>fV (f a t u z) λe t l=>by
  cases e with
  |normal=>obtain⟨a',D,H⟩:=l;exact⟨a',D.h,H.h⟩
  |exit id=>exact l
  |ret=>exact l
def yI{x:eO}{ps:List Nat}{f:FuncId}{cap:List V}{items:List (List V)}(J:Nat->aJ->Prop)(hx:s.val x=.fn f cap)(q:fL P f=true)(r:Iter P f cap items)(u:∀it∈items,it.length=ps.length)(z:a.vC=true)(hb:b.vC=true)(h0:J 0 s.E)
 (l:∀j E it,J j E->items[j]?=some it->vc P GL a (s.begin E ps it) (run P GL [.seq b] λe t=>match e with
  |.normal=>J (j+1) t.E
  |.ret=>run P GL st K .ret (s.base t.E)
  |.exit id=>run P GL st K (.exit id) (s.base t.E)))
 (p:∀s K,vc P GL a s K->vc P GL a s λe t=>e=.normal/\K e t)
 (o:∀E,J items.length E->run P GL st K .normal (s.base E)):vc P GL (.L5 x ps a b) s (run P GL st K):=by
 refine⟨f,cap,items,hx,q,r,u,z,hb,J,⟨jF,s.E,.refl _,h0⟩,λj E it D H=>?_,o⟩;refine fV (p _ _ (l j E it D H)) ?_;rintro e t ⟨rfl,h⟩;refine⟨rfl,fV h λe t h=>?_⟩;cases e with
 |normal=>exact⟨jF,t.E,.refl _,h⟩
 |ret=>exact h
 |exit id=>exact h
end
def kN{pu:Bool}{l:List BI}:∀(s:St)(K:Ex->St->Prop),vc P GL (.ops pu l) s K->vc P GL (.ops pu l) s λe t=>e=.normal/\K e t:=
 λs K h=>ux (K':=λt=>Ex.normal=.normal/\K .normal t) h λt f=>⟨rfl,f⟩
def A4{a b:BC}(f:∀(s:St)(K:Ex->St->Prop),vc P GL a s K->vc P GL a s λe t=>e=.normal/\K e t)(hb:∀(s:St)(K:Ex->St->Prop),vc P GL b s K->vc P GL b s λe t=>e=.normal/\K e t):
 ∀(s:St)(K:Ex->St->Prop),vc P GL (.seq a b) s K->vc P GL (.seq a b) s λe t=>e=.normal/\K e t:=λs K h=>by
 refine fV (f _ _ h) (K':=λe t=>e.andThen t (λt=>vc P GL b t λe t=>e=.normal/\K e t) λe t=>e=.normal/\K e t) ?_;rintro e t ⟨rfl,h⟩;exact hb _ _ h
section
variable {s:St}{K:St->Prop}{pu:Bool}{d t:Nat}{v:V}{x y:eO}
def Yr{i:BI}{p q:la}(h:dr P GL pu i s λs'=>bV P GL pu p s' K)(f:bV P GL pu q s K):bV P GL pu (.alt i p q) s K:=⟨h,f⟩
def St.zj(s:St)(d t:Nat)(v:V):St:={s.put d v none false with fl:=λk=>if k=d then s.fl t else if k=t then false else s.fl k}
@[simp] def Ys (s:St) (d t:Nat) (v:V) (k:Nat):(s.zj d t v).Z k=if k=d then v else s.Z k:=rfl
@[simp] def aax (s:St) (d t:Nat) (v:V) (k:Nat):(s.zj d t v).fl k=if k=d then s.fl t else if k=t then false else s.fl k:=rfl
def UB{f:FuncId}{args:List eO}{j:List V}{bL:Bool}(E:Pure P GL f j v bL)(l:args.all (λx=> !(s.val x).dW)=true)(o:aN (args.map s.val) j)(h:K (s.put d v none bL)):
 b4 P GL pu s (some d) (.call f args) K:=⟨l,.inl ⟨j,v,bL,o,E,h⟩⟩
def P4{f:FuncId}{cap:List V}{args:List eO}{j:List V}{bL:Bool}(hx:s.val x=.fn f cap)(l:fL P f=true)(E:Pure P GL f j v bL)(o:args.all (λx=> !(s.val x).dW)=true)
 (p:aN (args.map s.val++cap) j) (h:K (s.put d v none bL)):b4 P GL pu s (some d) (.qH x args) K:=by
 simp only[b4,hx];exact⟨l,o,.inl ⟨j,v,bL,p,E,h⟩⟩
def aj{u v:V}(h:u=v):V.Le u v:=h▸ .refl u
end
def nR(s:St)(d v l o)(t:Nat):(s.put d v l o).Z t=if t=d then v else s.Z t:=rfl
def Af(s:St)(d v l o)(t:Nat):(s.put d v l o).fl t=if t=d then o else s.fl t:=rfl
def wrap_i64{n:Int}(f: -9223372036854775808<=n)(h2:n<=9223372036854775807):IntKind.wrap .i64 n=n:=by
 show(let m:=n%(2^64:Int);if true&&decide (m>=(2^63:Int))then m-(2^64:Int)else m)=n;simp only[hA,cy];split<;>omega
def wrap_u8{n:Int}(f:0<=n)(h2:n<=255):IntKind.wrap .u8 n=n:=by
 show(let m:=n%(2^8:Int);if false&&decide (m>=(2^7:Int))then m-(2^8:Int)else m)=n;simp only[Bool.false_and,bM,cE];omega
end
section
abbrev T:=List UInt8
structure Name where
 J:Int
 seq:Int
 deriving DecidableEq
structure ID where
 J:Int
 seq:Int
 k:Int
 deriving DecidableEq
structure fW where
 i9:Int
 k3:Int
 idx:Int
 deriving DecidableEq
structure aK where
 id:ID
 eB:Int
 eh:Int
 bW:T
 C:List ID
 deriving DecidableEq
structure ee where
 gO:T
 O:List aK
 deriving DecidableEq
structure eQ where
 O:List ee
 deriving DecidableEq
structure cm where
 O:List eQ
 deriving DecidableEq
structure Op where
 kind:Int
 W:ID
 to:ID
 spot:fW
 n:Int
 eB:Int
 eh:Int
 bW:T
 F:List T
 cX:List (Int×Int)
 C:List ID
 deriving DecidableEq
structure hG where
 name:T
 kind:Int
 eh:Int
 see:T
 eH:List T
 deriving DecidableEq
structure Post where
 id:ID
 path:List T
 main:Bool
 deriving DecidableEq
structure aV where
 J:Int
 seq:Int
 ei:Int
 kind:Int
 C:List Name
 op:Op
 dy:hG
 id:ID
 cU:List Post
 n:Int
 deriving DecidableEq
structure cR where
 from_:ID
 to:ID
 deriving DecidableEq
structure gP where
 W:Int
 end_:Int
 kind:Int
 deriving DecidableEq
abbrev I(n:Int):V:=.int .i64 n
abbrev S(s:T):V:=.str s
abbrev B(b:Bool):V:=.bool b
def Name.v(a:Name):V:=.agg [I a.J,I a.seq]
def ID.v(a:ID):V:=.agg [I a.J,I a.seq,I a.k]
def fW.v(a:fW):V:=.agg [I a.i9,I a.k3,I a.idx]
def ng(a:Int×Int):V:=.agg [I a.1,I a.2]
def e9(l:List T):V:=.sl 1 (l.map S)
def eZ(l:List ID):V:=.sl 3 (l.map ID.v)
def jZ(l:List Name):V:=.sl 2 (l.map Name.v)
def fx(l:List Int):V:=.sl 1 (l.map I)
def df(l:T):V:=.sl 1 (l.map λb=>.int .u8 b.toNat)
def jw(l:List (Int×Int)):V:=.sl 2 (l.map ng)
def aK.v(p:aK):V:=.agg [I p.id.J,I p.id.seq,I p.id.k,I p.eB,I p.eh,S p.bW,eZ p.C]
def dv(l:List aK):V:=.sl 7 (l.map aK.v)
def ee.v(a:ee):V:=.agg [S a.gO,dv a.O]
def mG(l:List ee):V:=.sl 2 (l.map ee.v)
def eQ.v(a:eQ):V:=.agg [mG a.O]
def cd(l:List eQ):V:=.sl 1 (l.map eQ.v)
def cm.v(a:cm):V:=.agg [cd a.O]
def Op.c(o:Op):List V:=[I o.kind,I o.W.J,I o.W.seq,I o.W.k,I o.to.J,I o.to.seq,I o.to.k,I o.spot.i9,I o.spot.k3,I o.spot.idx,I o.n,I o.eB,I o.eh,S o.bW,e9 o.F,jw o.cX,eZ o.C]
def Op.v(o:Op):V:=.agg o.c
def hG.v(t:hG):V:=.agg [S t.name,I t.kind,I t.eh,S t.see,e9 t.eH]
def oo(l:List hG):V:=.sl 5 (l.map hG.v)
def Post.v(p:Post):V:=.agg [I p.id.J,I p.id.seq,I p.id.k,e9 p.path,B p.main]
def ny(l:List Post):V:=.sl 5 (l.map Post.v)
def aV.v(e:aV):V:=.agg [I e.J,I e.seq,I e.ei,I e.kind,jZ e.C,I e.op.kind,I e.op.W.J,I e.op.W.seq,I e.op.W.k,I e.op.to.J,I e.op.to.seq,I e.op.to.k,I e.op.spot.i9,I e.op.spot.k3,I e.op.spot.idx,I e.op.n,I e.op.eB,I e.op.eh,S e.op.bW,e9 e.op.F,jw e.op.cX,eZ e.op.C,S e.dy.name,I e.dy.kind,I e.dy.eh,S e.dy.see,e9 e.dy.eH,I e.id.J,I e.id.seq,I e.id.k,ny e.cU,I e.n]
def eI(l:List aV):V:=.sl 32 (l.map aV.v)
def cR.v(a:cR):V:=.agg [I a.from_.J,I a.from_.seq,I a.from_.k,I a.to.J,I a.to.seq,I a.to.k]
def g7(l:List cR):V:=.sl 6 (l.map cR.v)
def gP.v(a:gP):V:=.agg [I a.W,I a.end_,I a.kind]
def pj(l:List gP):V:=.sl 3 (l.map gP.v)
def hN{α:Type}{f:α->V}(h:∀y,(f y).free=true):∀l:List α,hW (l.map f)=true
 |[]=>rfl
 |y::r=>by simp only[bw,hW,h y,hN h r,kr]
def M7:(∀k n,(V.int k n).free=true)/\(∀b,(V.bool b).free=true)/\(∀b,(V.str b).free=true)/\(V.aP.free=true)/\(∀a:Name,a.v.free=true)/\(∀a:ID,a.v.free=true)/\(∀a:fW,a.v.free=true)/\(∀a,(ng a).free=true)/\(∀l,(e9 l).free=true)/\(∀l,(eZ l).free=true)/\(∀l,(jZ l).free=true)/\(∀l,(fx l).free=true)/\(∀l,(df l).free=true)/\
 (∀l,(jw l).free=true)/\(∀a:aK,a.v.free=true)/\(∀l,(dv l).free=true)/\(∀a:ee,a.v.free=true)/\(∀l,(mG l).free=true)/\(∀a:eQ,a.v.free=true)/\(∀l,(cd l).free=true)/\(∀a:cm,a.v.free=true)/\(∀a:Op,a.v.free=true)/\(∀a:hG,a.v.free=true)/\
 (∀l,(oo l).free=true)/\(∀a:Post,a.v.free=true)/\(∀l,(ny l).free=true)/\(∀a:aV,a.v.free=true)/\(∀l,(eI l).free=true)/\(∀a:cR,a.v.free=true)/\(∀l,(g7 l).free=true)/\(∀a:gP,a.v.free=true)/\(∀l,(pj l).free=true)/\
 (hW []=true)/\(∀u r,hW (u::r)=(u.free&&hW r))/\(∀l,(V.agg l).free=hW l)/\(∀l,(V.hE l).free=hW l)/\(∀n l,(V.sl n l).free=hW l):=by
 have aA:∀k n,(V.int k n).free=true:=λ_ _=>rfl;have aB:∀b,(V.str b).free=true:=λ_=>rfl;have aC:∀b,(V.bool b).free=true:=λ_=>rfl;have o:∀a:Name,a.v.free=true:=λa=>by simp[Name.v,V.free,hW]
 have p:∀a:ID,a.v.free=true:=λa=>by simp[ID.v,V.free,hW]
 have aD:∀a:fW,a.v.free=true:=λa=>by simp[fW.v,V.free,hW]
 have q:∀a,(ng a).free=true:=λa=>by simp[ng,V.free,hW]
 have d:∀l,(e9 l).free=true:=λl=>by simp only[e9,V.free];exact hN (λ_=>rfl) l
 have f:∀l,(eZ l).free=true:=λl=>by simp only[eZ,V.free];exact hN p l
 have y:∀l,(jZ l).free=true:=λl=>by simp only[jZ,V.free];exact hN o l
 have a0:∀l,(fx l).free=true:=λl=>by simp only[fx,V.free];exact hN (λ_=>rfl) l
 have a1:∀l,(df l).free=true:=λl=>by simp only[df,V.free];exact hN (λ_=>rfl) l
 have j:∀l,(jw l).free=true:=λl=>by simp only[jw,V.free];exact hN q l
 have z:∀a:aK,a.v.free=true:=λa=>by simp[aK.v,V.free,hW,f]
 have D:∀l,(dv l).free=true:=λl=>by simp only[dv,V.free];exact hN z l
 have H:∀a:ee,a.v.free=true:=λa=>by simp[ee.v,V.free,hW,D]
 have K:∀l,(mG l).free=true:=λl=>by simp only[mG,V.free];exact hN H l
 have L:∀a:eQ,a.v.free=true:=λa=>by simp[eQ.v,V.free,hW,K]
 have N:∀l,(cd l).free=true:=λl=>by simp only[cd,V.free];exact hN L l
 have a2:∀a:cm,a.v.free=true:=λa=>by simp[cm.v,V.free,hW,N]
 have a3:∀a:Op,a.v.free=true:=λa=>by simp[Op.v,Op.c,V.free,hW,d,f,j]
 have Q:∀a:hG,a.v.free=true:=λa=>by simp[hG.v,V.free,hW,d]
 have a4:∀l,(oo l).free=true:=λl=>by simp only[oo,V.free];exact hN Q l
 have R:∀a:Post,a.v.free=true:=λa=>by simp[Post.v,V.free,hW,d]
 have ab:∀l,(ny l).free=true:=λl=>by simp only[ny,V.free];exact hN R l
 have ac:∀a:aV,a.v.free=true:=λa=>by simp[aV.v,V.free,hW,d,f,y,j,ab]
 have a5:∀l,(eI l).free=true:=λl=>by simp only[eI,V.free];exact hN ac l
 have ad:∀a:cR,a.v.free=true:=λa=>by simp[cR.v,V.free,hW]
 have a6:∀l,(g7 l).free=true:=λl=>by simp only[g7,V.free];exact hN ad l
 have ai:∀a:gP,a.v.free=true:=λa=>by simp[gP.v,V.free,hW]
 have a7:∀l,(pj l).free=true:=λl=>by simp only[pj,V.free];exact hN ai l
 exact⟨aA,aC,aB,rfl,o,p,aD,q,d,f,y,a0,a1,j,z,D,H,K,L,N,a2,a3,Q,a4,R,ab,ac,a5,ad,a6,ai,a7,rfl,λ_ _=>rfl,λ_=>rfl,λ_=>rfl,λ_ _=>rfl⟩
instance:Inhabited ID:=⟨⟨0,0,0⟩⟩
instance:Inhabited Op:=⟨⟨0,default,default,⟨0,0,0⟩,0,0,0,[],[],[],[]⟩⟩
abbrev x(t:Nat):eO:=.tmp t
abbrev i(n:Int):eO:=.const (.int .i64 n)
abbrev m(d:Nat)(y:eO):BI:=⟨none,some d,.ex (.IV y)⟩
abbrev v(d:Nat)(b:vQ):BI:=⟨none,some d,.ex (.val b)⟩
abbrev g(d:Nat)(y:eO):BI:=⟨none,some d,.ex (.xP y)⟩
abbrev e(d:Nat)(b:BX):BI:=⟨none,some d,.ex b⟩
abbrev c(d:Nat)(f:FuncId)(l:List eO):BI:=⟨none,some d,.call f l⟩
def oq(s:St)(d:List BR)(u:V)(bL:Bool):Prop:=∃a o,BF.result s d=some (a,o)/\V.Le a u/\(bL=true->o=true\/a=.aP)
def P5{P:Program}{GL:ak}(hm:Wd P){D H:List Nat}{f:FuncId}{n:Nat}{b:BC}{q:List BR}{args:List V}{u:V}{bL:Bool}
 (K:r6 P GL D H f=some ⟨n,b,q⟩) (L:args.length<=n) (N:hW args=true) (Q:u.free=true)
 (h:vc P GL b (St.init n args aJ.bare) (run P GL [] λe s'=>(∀id,e≠.exit id)/\oq s' q u bL)):Pure P GL f args u bL:=by
 refine⟨N,Q,?_⟩;have l:lI P GL f args aJ.bare λa o _=>V.Le a u/\(bL=true->o=true\/a=.aP):=by
  refine yH hm K L (fV (Em h) ?_);rintro e s' ⟨l,a,o,d,p,j⟩;exact⟨l,a,o,d,p,j⟩
 intro g w ab r R ac;refine l g w ab r R ?_;rintro a y o z ad ai ⟨d,p⟩ out;refine ac u y bL z ad ai ⟨rfl,rfl⟩ ⟨out.gA,out.heap,out.res.weak d,out.step,λaA=>?_⟩;rcases p aA with j|j
 .exact(out.tail j).le d out.res (.inl (.inl λ_=>rfl))
 .subst j;exact dS.nil (.inr d) out.res
def M8{P:Program}{GL:ak}(hm:Wd P){j l:List Nat}{f:FuncId}{n:Nat}{b:BC}{d:List BR}{args:List V}{E:aJ}{Q:V->Bool->aJ->Prop}
 (o:r6 P GL j l f=some ⟨n,b,d⟩) (p:args.length<=n)
 (h:vc P GL b (St.init n args E) (run P GL [] λe s'=>(∀id,e≠.exit id)/\∃v bL,BF.result s' d=some (v,bL)/\Q v bL s'.E)):lI P GL f args E Q:=
 yH hm o p (Em h)
def eU{P:Program}{GL:ak}(hm:Wd P){o p:List Nat}{f:FuncId}{n:Nat}{b:BC}{l:List BR}{args:List V}{E:aJ}{Q:V->Bool->aJ->Prop}
 (q:r6 P GL o p f=some ⟨n,b,l⟩) (r:args.length<=n)
 (h:vc P GL b (St.init n args E) (run P GL [] λe s'=>(∀id,e≠.exit id)/\∃v bL fz j v' d,BF.result s' l=some (v,bL)/\jD fz s'.E j/\V.lM fz v v'/\(d=true->(bL=true/\(Po fz v\/v'=v))\/v=.aP)/\Q v' d j)):lI P GL f args E Q:=
 wY hm q r (Em h)
def Pure.gg{P:Program}{GL:ak}{f:FuncId}{args:List V}{u:V}{bL:Bool}(d:hW args=true)(j:u.free=true)(h:lI P GL f args aJ.bare λr o _=>r=u/\o=bL):Pure P GL f args u bL:=⟨d,j,h⟩
section
variable {s:St}{t t' We:Nat}{a a' UC u u' Yt:V}{bL:Bool}
def UD(h:s.Z t=a)(d:a.dW=false)(f:bL=true->s.fl t=true\/a=.aP)(j:V.Le a u):oq s [.tmp t] u bL:=by
 subst h;exact⟨_,_,by simp[BF.result,d],j,f⟩
def Yu(h:s.Z t=a)(d:a.dW=false)(f:V.Le a u):oq s [.tmp t] u false:=UD h d (λj=>absurd j ky) f
def SR(h:s.Z t=a)(d:a.dW=false)(f:s.fl t=true)(j:V.Le a u):oq s [.tmp t] u bL:=UD h d (λ_=>.inl f) j
def Xh(h:s.Z t=a)(d:a.dW=false)(f:a=.aP)(j:V.Le a u):oq s [.tmp t] u bL:=UD h d (λ_=>.inr f) j
def aaU:oq s [] (.hE []) false:=⟨_,_,rfl,.refl _,bR⟩
def aaV(h:s.Z t=a)(j:s.Z t'=a')(l:a.dW=false)(d:a'.dW=false)(o:V.Le a u)(f:V.Le a' u'):oq s [.tmp t,.tmp t'] (.hE [u,u']) false:=by
 subst h j;refine⟨.hE [s.Z t,s.Z t'],false,by simp[BF.result,BR.p2,BR.get,l,d],?_,bR⟩;have:=aN.cons o (aN.cons f aN.nil);exact .hE _ _ this.1 this.2
def aaW(h:s.Z t=a)(p:s.Z t'=a')(j:s.Z We=UC)(q:a.dW=false)(l:a'.dW=false)(d:UC.dW=false)(r:V.Le a u)(o:V.Le a' u')(f:V.Le UC Yt):
 oq s [.tmp t,.tmp t',.tmp We] (.hE [u,u',Yt]) false:=by
 subst h p j;refine⟨.hE [s.Z t,s.Z t',s.Z We],false,by simp[BF.result,BR.p2,BR.get,q,l,d],?_,bR⟩;have:=aN.cons r (aN.cons o (aN.cons f aN.nil));exact .hE _ _ this.1 this.2
end
section
variable {GL:Nat->Option (List V)}{P:Program}{s:St}{st:List Fr}{pu:Bool}
def ez{s t:St}{d v l o}(h:Kept s t):Kept s (t.put d v l o):=h.trans (.put ..)
def eJ{s t:St}{d k v}(h:Kept s t):Kept s (t.zj d k v):=h.trans ⟨rfl,λ_=>ao _,λ_ _ _=>rfl,rfl,rfl,rfl⟩
def ek{s t:St}{d cs}(h:Kept s t):Kept s (t.fG d cs):=h.trans (.fG ..)
def fX{s t:St}{l}(h:Kept s t):Kept s (t.dP l):=h.trans (.dP ..)
def dT{s t:St}{D bL vals}(h:Kept s t):Kept s (t.head D bL vals):=h.trans ⟨rfl,λ_=>ao _,λ_ _ _=>rfl,rfl,rfl,rfl⟩
def en{s t:St}{j k off vs}(h:Kept s t)(p:s.G j<=k):Kept s (t.hZ j k off vs):=
 ⟨h.n,h.G,λd f l=>by
  have:¬(d=j/\f=k):=λo=>by obtain⟨rfl,rfl⟩:=o;omega
  have e:(t.hZ j k off vs).loc d f=t.loc d f:=by simp only[St.hZ,l9,an this]
  rw[e];exact h.loc d f l,h.box,h.mp,h.Y⟩
def A5{a b:BC}{K:Ex->St->Prop}{D bL:List Nat}{α:Type}(p:α->Prop)(vals:α->List (Nat×V×Bool))(L:a.iH.all D.contains=true)(o:D.all a.iH.contains=true)
 (r:∀i,mN D (vals i)=true)
 (N:vc P GL a s (run P GL (.back (λs'=>∃i,Hd (p i)/\fQ s' (vals i)/\fM s' bL/\Kept s s')::st) K)) (y:a.vC=true)
 (hb:∀i,p i->vc P GL b (s.head D bL (vals i)) (run P GL st K)):vc P GL (.jn a b) s (run P GL st K):=by
 have sub:∀x,x∉D->x∉a.iH:=λx hx d=>hx (by have:=bP.1 L x d;simpa using this);have f:∀x,x∉a.iH->x∉D:=λx hx d=>hx (by have:=bP.1 o x d;simpa using this);have j:∀i x,x∉D->(s.head D bL (vals i)).Z x=s.Z x:=by
  intro i x hx;simp only[St.head];cases e:look (vals i) x with
  |some q=>exact absurd (mN.look (r i) e).1 hx
  |none=>simp[hx]
 intro Q;refine fV (El y N) ?_;rintro e u ⟨l,z⟩;cases e with
 |normal=>
  obtain⟨i,E,R,ab,H⟩:=l;refine .inr ⟨_,r7 (r i) Q (λx hx=>z x (sub x hx)) H R ab,λx hx=>?_,λ_=>?_,hb i E.h⟩
  .rw[j i x (f x hx),z x hx]
  .exact dT (.refl s)
 |exit id=>exact l
 |ret=>exact l
def p6{b:BC}{K:Ex->St->Prop}{D bL:List Nat}(y:b.vC=true){α:Type}(p:α->Prop)(vals:α->List (Nat×V×Bool))(j:α->Nat)(l:α)(ac:b.iH.all D.contains=true)(z:D.all b.iH.contains=true)
 (hk:∀a,mN D (vals a)=true) (h0:p l) (ad:fQ s (vals l)) (ai:fM s bL)
 (d:∀a,p a->vc P GL b (s.head D bL (vals a)) (run P GL (.back (λs'=>∃a',Hd (p a')/\Hd (j a'<j a)/\fQ s' (vals a')/\fM s' bL/\Kept s s')::st) K)):vc P GL (.loop b) s (run P GL st K):=by
 have sub:∀x,x∉D->x∉b.iH:=λx hx o=>hx (by have:=bP.1 ac x o;simpa using this);have q:∀x,x∉b.iH->x∉D:=λx hx o=>hx (by have:=bP.1 z x o;simpa using this);have f:∀a x,x∉D->(s.head D bL (vals a)).Z x=s.Z x:=by
  exact WF
 intro H;refine⟨λk t=>∃a,p a/\j a=k/\t=s.head D bL (vals a),⟨_,_,r7 (hk l) H (λ_ _=>rfl) (.refl s) ad ai,l,h0,rfl,rfl⟩,?_,?_,?_⟩
 .rintro _ k t ⟨a,_,_,rfl⟩;exact dT (.refl s)
 .rintro k t ⟨a,_,_,rfl⟩ x hx;exact f a x (q x hx)
 .rintro k t ⟨a,aA,rfl,rfl⟩;refine fV (El y (d a aA)) ?_;rintro e u ⟨r,aB⟩;cases e with
  |normal=>
   obtain⟨a',L,N,Q,R,ab⟩:=r;exact λ_=>⟨j a',_,N.h,r7 (hk a') H (λx hx=>by rw[aB x (sub x hx),f a x hx]) ab Q R,a',L.h,rfl,rfl⟩
  |exit id=>exact r
  |ret=>exact r
end
def IR(s:St)(d v l o):(s.put d v l o).G=s.G:=rfl
def IQ(s:St)(d v l o):(s.put d v l o).loc=s.loc:=rfl
def Mp(s:St)(d v l o):(s.put d v l o).E=s.E:=rfl
end
section
variable {GL:Nat->Option (List V)}{P:Program}
def i1(P:Program)(GL:ak)(o:Option V)(d:Option Nat)(pu:Bool)(r:List BI)(s:St)(K:St->Prop):Prop:=match o with
 |some u=>er P GL pu r (s.AQ d u none false) K
 |none=>False
def i6(P:Program)(GL:ak)(o:Option (List V))(l:Option Loc)(d:Nat)(pu:Bool)(r:List BI)(s:St)(K:St->Prop):Prop:=match o with
 |some (u::_)=>er P GL pu r (s.put d u l false) K
 |_=>False
def iQ(P:Program)(GL:ak)(o:Option St)(pu:Bool)(r:List BI)(K:St->Prop):Prop:=match o with
 |some s=>er P GL pu r s K
 |none=>False
def i7(P:Program)(GL:ak)(o:Option (List V))(sz d:Nat)(pu:Bool)(r:List BI)(s:St)(K:St->Prop):Prop:=match o with
 |some a=>er P GL pu r (s.put d (.sl sz a) none true) K
 |none=>False
def i2(P:Program)(GL:ak)(b:Bool)(cs:List V)(d:Nat)(pu:Bool)(r:List BI)(s:St)(K:St->Prop):Prop:=
 b=true/\er P GL pu r ((s.fG d cs).put d (.A d (s.G d) 0) none false) K
def iD(P:Program)(GL:ak)(u:V)(want:Bool)(dst:Option Nat)(op:BY)(pu:Bool)(r:List BI)(s:St)(K:St->Prop):Prop:=match u with
 |.bool b=>if b=want then er P GL pu (⟨none,dst,op⟩::r) s K else er P GL pu r (s.skip dst) K
 |.qr=>er P GL pu r (s.skip dst) K
 |_=>False
def Yv(P:Program)(GL:ak)(d:Option Nat)(pu:Bool)(r:List BI)(s:St)(K:St->Prop):List (V×Bool×aJ)->Prop
 |[]=>True
 |p::l=>er P GL pu r ((s.ct p.2.2).ret d p.1 p.2.1) K/\Yv P GL d pu r s K l
def iu(P:Program)(GL:ak)(o:Option (List (V×Bool×aJ)))(d:Option Nat)(pu:Bool)(r:List BI)(s:St)(K:St->Prop):Prop:=match o with
 |some l=>Yv P GL d pu r s K l
 |none=>False
def plK(P:Program)(GL:ak)(pu:Bool)(p:la)(K:St->Prop):St->Prop:=λs=>bV P GL pu p s K
def iY(P:Program)(GL:ak)(u:V)(a b:BC)(s:St)(st:List Fr)(K:Ex->St->Prop):Prop:=Ti u (vc P GL a s (run P GL st K)) (vc P GL b s (run P GL st K))
section
variable {pu:Bool}{s s':St}{K:St->Prop}{b:BC}{st:List Fr}{K0:Ex->St->Prop}{e:Ex}
def bY{t:Bool}{a b:BC}(d:t=true->vc P GL a s (run P GL st K0))(f:t=false->vc P GL b s (run P GL st K0)):iY P GL (.bool t) a b s st K0:=⟨t,rfl,d,f⟩
def cY{t w:Bool}{dst:Option Nat}{op:BY}{r:List BI}(a:t=w->er P GL pu (⟨none,dst,op⟩::r) s K)(d:t=(!w)->er P GL pu r (s.skip dst) K):iD P GL (.bool t) w dst op pu r s K:=by
 unfold iD;by_cases h:t=w
 .simp[h,a]
 .simp only[an h];exact d (by cases t<;>cases w<;>simp_all)
def rc:
 (∀(s:St),vc P GL .skip s (run P GL st K0)=run P GL st K0 .normal s)/\
 (∀(s:St) pu l,vc P GL (.ops pu l) s (run P GL st K0)=er P GL pu l s (run P GL st K0 .normal))/\
 (∀(s:St) pu p,vc P GL (.v7 pu p) s (run P GL st K0)=bV P GL pu p s (run P GL st K0 .normal))/\
 (∀(s:St) a b,vc P GL (.seq a b) s (run P GL st K0)=vc P GL a s (run P GL (.seq b::st) K0))/\
 (∀(s:St) c a b,vc P GL (.cond c a b) s (run P GL st K0)=iY P GL (s.val c) a b s st K0)/\
 (∀(s:St) id b,vc P GL (.block id b) s (run P GL st K0)=vc P GL b s (run P GL (.block id::st) K0))/\
 (∀(s:St) id,vc P GL (.exit id) s (run P GL st K0)=run P GL st K0 (.exit id) s)/\
 (∀(s:St),vc P GL .ret s (run P GL st K0)=run P GL st K0 .ret s)/\
 (∀(s:St) b,run P GL (.seq b::st) K0 .normal s=vc P GL b s (run P GL st K0))/\
 (∀(s:St) b id,run P GL (.seq b::st) K0 (.exit id) s=run P GL st K0 (.exit id) s)/\
 (∀(s:St) b,run P GL (.seq b::st) K0 .ret s=run P GL st K0 .ret s)/\
 (∀(s:St) id,run P GL (.block id::st) K0 .normal s=run P GL st K0 .normal s)/\
 (∀(s:St) id,run P GL (.block id::st) K0 .ret s=run P GL st K0 .ret s)/\
 (∀(s:St) id d,run P GL (.block id::st) K0 (.exit d) s=if d=id then run P GL st K0 .normal s else run P GL st K0 (.exit d) s)/\
 (∀(s:St) N,run P GL (.back N::st) K0 .normal s=N s)/\
 (∀(s:St) N,run P GL (.back N::st) K0 .ret s=run P GL st K0 .ret s)/\
 (∀(s:St) N id,run P GL (.back N::st) K0 (.exit id) s=run P GL st K0 (.exit id) s)/\
 (∀(s:St) a b,iY P GL (.bool true) a b s st K0=vc P GL a s (run P GL st K0))/\(∀(s:St) a b,iY P GL (.bool false) a b s st K0=vc P GL b s (run P GL st K0)):=by
 refine⟨λ_=>rfl,λ_ _ _=>rfl,λ_ _ _=>rfl,?_,λ_ _ _ _=>rfl,?_,λ_ _=>rfl,λ_=>rfl,λ_ _=>rfl,λ_ _ _=>rfl,λ_ _=>rfl,?_,?_,?_,λ_ _=>rfl,λ_ _=>rfl,λ_ _ _=>rfl,?_,?_⟩
 .intro s a b;show vc P GL a s _=_;congr 1;funext e s';cases e<;>rfl
 .intro s id b;show vc P GL b s _=_;rfl
 .intro s id;simp[run]
 .intro s id;simp[run]
 .intro s id d;by_cases h:d=id
  .simp[run,h]
  .simp[run,h]
 .intro s A B;exact propext ⟨λ⟨t,f,j,o⟩=>by cases f;exact j rfl,λh=>⟨true,rfl,λ_=>h,λe=>by cases e⟩⟩
 .intro s A B;exact propext ⟨λ⟨t,f,j,o⟩=>by cases f;exact o rfl,λh=>⟨false,rfl,λe=>(by cases e),λ_=>h⟩⟩
def P6:run P GL [] K0 e s=K0 e s:=rfl
def UE:
 (∀(s:St),er P GL pu [] s K=K s)/\
 (∀(s:St) d y r,er P GL pu (⟨none,some d,.ex (.IV y)⟩::r) s K=er P GL pu r (s.put d (s.val y) (varOf y) false) K)/\
 (∀(s:St) d b r,er P GL pu (⟨none,d,.ex (.val b)⟩::r) s K=i1 P GL (dw s b) d pu r s K)/\
 (∀(s:St) d a r,er P GL pu (⟨none,some d,.ex (.ld a)⟩::r) s K=i6 P GL (s.iN (s.val a)) (yA (s.val a)) d pu r s K)/\
 (∀(s:St) d t r,er P GL pu (⟨none,some d,.ex (.xP (.tmp t))⟩::r) s K=er P GL pu r (s.zj d t (s.Z t)) K)/\
 (∀(s:St) d u r,er P GL pu (⟨none,some d,.ex (.xP (.const u))⟩::r) s K=er P GL pu r (s.put d u none false) K)/\
 (∀(s:St) d u r,er P GL pu (⟨none,some d,.ex (.xP (.kn u))⟩::r) s K=er P GL pu r (s.put d (.ep u) none false) K)/\
 (∀(s:St) d zs r,er P GL pu (⟨none,some d,.ex (.alloc zs)⟩::r) s K=er P GL pu r ((s.fG d zs).put d (.A d (s.G d) 0) none false) K)/\
 (∀(s:St) d n y r,er P GL pu (⟨none,some d,.ex (.box n y)⟩::r) s K=i2 P GL (jR n (s.val y)) (s.val y).cells d pu r s K)/\
 (∀(s:St) n a y r,er P GL pu (⟨none,none,.ex (.store n a y)⟩::r) s K=iQ P GL (s.store n (s.val a) y) pu r K)/\
 (∀(s:St) d sz z n ps r,er P GL pu (⟨none,some d,.ex (.ug sz z n ps)⟩::r) s K=i7 P GL (iP s sz (List.replicate n z) ps) sz d pu r s K)/\
 (∀(s:St) t w dst op r,er P GL pu (⟨some (t,w),dst,op⟩::r) s K=iD P GL (s.Z t) w dst op pu r s K)/\
 (∀(s:St),bV P GL pu .done s K=K s)/\
 (∀(s:St),bV P GL pu .stop s K=True)/\
 (∀(s:St) i p,bV P GL pu (.one true i p) s K=er P GL pu [i] s (plK P GL pu p K))/\
 (∀(s:St) i p,bV P GL pu (.one false i p) s K=er P GL true [i] s (plK P GL pu p K))/\
 (∀(s:St) p,plK P GL pu p K s=bV P GL pu p s K)/\
 (∀(s:St) u d r,i1 P GL (some u) (some d) pu r s K=er P GL pu r (s.put d u none false) K)/\
 (∀(s:St) u r,i1 P GL (some u) none pu r s K=er P GL pu r s K)/\
 (∀(s:St) u cs l d r,i6 P GL (some (u::cs)) l d pu r s K=er P GL pu r (s.put d u l false) K)/\
 (∀(s:St) r,iQ P GL (some s) pu r K=er P GL pu r s K)/\
 (∀(s:St) xs sz d r,i7 P GL (some xs) sz d pu r s K=er P GL pu r (s.put d (.sl sz xs) none true) K)/\
 (∀(s:St) cs d r,i2 P GL true cs d pu r s K=er P GL pu r ((s.fG d cs).put d (.A d (s.G d) 0) none false) K)/\
 (∀(s:St) w dst op r,iD P GL .qr w dst op pu r s K=er P GL pu r (s.skip dst) K)/\
 (∀(s:St) w dst op r,iD P GL (.bool w) w dst op pu r s K=er P GL pu (⟨none,dst,op⟩::r) s K)/\
 (∀(s:St) dst op r,iD P GL (.bool false) true dst op pu r s K=er P GL pu r (s.skip dst) K)/\
 (∀(s:St) dst op r,iD P GL (.bool true) false dst op pu r s K=er P GL pu r (s.skip dst) K):=by
 refine⟨λ_=>rfl,λ_ _ _ _=>rfl,?_,?_,λ_ _ _ _=>rfl,λ_ _ _ _=>rfl,λ_ _ _ _=>rfl,λ_ _ _ _=>rfl,?_,?_,?_,?_,λ_=>rfl,λ_=>rfl,λ_ _ _=>rfl,λ_ _ _=>rfl,λ_ _=>rfl,λ_ _ _ _=>rfl,λ_ _ _=>rfl,λ_ _ _ _ _ _=>rfl,λ_ _=>rfl,λ_ _ _ _ _=>rfl,λ_ _ _ _=>by simp[i2],λ_ _ _ _ _=>rfl,λ_ _ _ _ _=>by simp[iD],λ_ _ _ _=>by simp[iD],λ_ _ _ _=>by simp[iD]⟩
 .intro s d b r;show b4 P GL pu s d (.ex (.val b)) _=_;simp only[b4,iG,i1];cases dw s b<;>cases d<;>rfl
 .intro s d a r;show b4 P GL pu s (some d) (.ex (.ld a)) _=_;simp only[b4,iG,i6];rcases s.iN (s.val a)with _|_|⟨u,r⟩<;>rfl
 .intro s d n y r;show b4 P GL pu s (some d) (.ex (.box n y)) _=_;simp only[b4,iG,i2];by_cases h:jR n (s.val y)=true<;>simp[h]
 .intro s n a y r;show b4 P GL pu s none (.ex (.store n a y)) _=_;simp only[b4,iG,iQ]<;>cases s.store n (s.val a) y<;>rfl
 .intro s d sz z n ps r;show b4 P GL pu s (some d) (.ex (.ug sz z n ps)) _=_;simp only[b4,iG,i7];cases iP s sz (List.replicate n z) ps<;>rfl
 .intro s t w dst op r;show dr P GL pu ⟨some (t,w),dst,op⟩ s _=_;simp only[dr,iD];cases s.Z t<;>rfl
def M9:
 (∀(s:St) d h r,er P GL pu (⟨none,d,.hx h⟩::r) s K=iu P GL (h.act s) d pu r s K)/\
 (∀(s:St) d r u o E,iu P GL (some [(u,o,E)]) (some d) pu r s K=er P GL pu r ((s.ct E).put d u none o) K)/\
 (∀(s:St) r u o E,iu P GL (some [(u,o,E)]) none pu r s K=er P GL pu r (s.ct E) K):=by
 refine⟨λs d h r=>?_,λs d r u o E=>by simp[iu,Yv,St.ret],λs r u o E=>by simp[iu,Yv,St.ret]⟩;show b4 P GL pu s d (.hx h) _=_;simp only[b4,HX.outs,iu];cases h.act s with
 |none=>rfl
 |some l=>
  simp only[bG];induction l with
  |nil=>rfl
  |cons p l ih=>simp only[bw,KA,Yv,ih]
def UF{d:Option Nat}{r:List BI}{u f:V}{o o':Bool}{E a:aJ}(h:er P GL pu r ((s.ct E).ret d u o) K)(j:er P GL pu r ((s.ct a).ret d f o') K):iu P GL (some [(u,o,E),(f,o',a)]) d pu r s K:=⟨h,j,trivial⟩
def gB(P:Program)(GL:ak)(d:Option Nat)(pu:Bool)(r:List BI)(s:St)(K:St->Prop):V->Bool->aJ->Prop:=λv o E=>er P GL pu r ((s.ct E).ret d v o) K
def A6:
 (∀(s:St) d m r,er P GL pu (⟨none,d,.mx m⟩::r) s K=m.wp s (gB P GL d pu r s K))/\
 (∀(s:St) d r u o E,gB P GL (some d) pu r s K u o E=er P GL pu r ((s.ct E).put d u none o) K)/\
 (∀(s:St) r u o E,gB P GL none pu r s K u o E=er P GL pu r (s.ct E) K):=
 ⟨λ_ _ _ _=>rfl,λ_ _ _ _ _ _=>rfl,λ_ _ _ _ _=>rfl⟩
def l_op{dst:Option Nat}{op:BY}{r:List BI}(h:b4 P GL pu s dst op λs'=>er P GL pu r s' K):er P GL pu (⟨none,dst,op⟩::r) s K:=h
def fS{a a':V}(h:V.Le a a')(d:a'.free=true):a.dW=false:=by
 cases h with
 |refl=>cases a<;>first|rfl|(simp[V.free]at d)
 |_=>rfl
def UG{s:St}{args:List eO}{a:List V}(d:aN (args.map s.val) a)(o:hW a=true):args.all (λx=> !(s.val x).dW)=true:=by
 rw[bP];intro y p;obtain⟨j,f,rfl⟩:=iL.1 p;have q:(args.map s.val)[j]?=some (s.val args[j]):=by simp[f]
 have r:j<a.length:=by rw[<-d.1];simpa using f
 have l:a[j]?=some a[j]:=by simp[r]
 rw[fS (d.2 j _ _ q l) (k2 o l)];rfl
def iR{d:Nat}{f:FuncId}{args:List eO}{a:List V}{u:V}{bL:Bool}{r:List BI}(E:Pure P GL f a u bL)(j:aN (args.map s.val) a)(h:er P GL pu r (s.put d u none bL) K):
 er P GL pu (⟨none,some d,.call f args⟩::r) s K:=l_op (UB E (UG j E.1) j h)
def P7{d:Option Nat}{f:FuncId}{args:List eO}{a:List V}{Q:V->Bool->aJ->Prop}{r:List BI}(E:lI P GL f a s.E Q)(l:args.all (λx=> !(s.val x).dW)=true)(o:aN (args.map s.val) a)
 (h:∀v bL j,Q v bL j->er P GL false r ((s.ct j).ret d v bL) K):er P GL false (⟨none,d,.call f args⟩::r) s K:=
 l_op ⟨l,.inr (.inl ⟨rfl,a,o,E.mono h⟩)⟩
def Na{d:Option Nat}{f:FuncId}{args:List eO}{a:List V}{Q:V->Bool->aJ->Prop}{r:List BI}{fz:ak}{h0:aJ}(l:jD fz s.E h0)(E:lI P GL f a h0 Q)(o:args.all (λx=> !(s.val x).dW)=true)(p:zG fz (args.map s.val) a)
 (h:∀v bL j,Q v bL j->er P GL false r ((s.ct j).ret d v bL) K):er P GL false (⟨none,d,.call f args⟩::r) s K:=
 l_op ⟨o,.inr (.inr ⟨rfl,fz,h0,a,l,p,.inr (E.mono h)⟩)⟩
def zL{d:Nat}{f:FuncId}{args:List eO}{a:List V}{u:V}{bL:Bool}{r:List BI}{fz:ak}{h0:aJ}(j:jD fz s.E h0)(E:Pure P GL f a u bL)(l:args.all (λx=> !(s.val x).dW)=true)(o:zG fz (args.map s.val) a)
 (h:er P GL false r ((s.ct h0).put d u none bL) K):er P GL false (⟨none,some d,.call f args⟩::r) s K:=
 l_op ⟨l,.inr (.inr ⟨rfl,fz,h0,a,j,o,.inl ⟨u,bL,E,h⟩⟩)⟩
def w2{d:Nat}{y:eO}{f:FuncId}{cap:List V}{args:List eO}{a:List V}{u:V}{bL:Bool}{r:List BI}(hx:s.val y=.fn f cap)(j:fL P f=true)(E:Pure P GL f a u bL)(l:args.all (λx=> !(s.val x).dW)=true)
 (o:aN (args.map s.val++cap) a) (h:er P GL pu r (s.put d u none bL) K):er P GL pu (⟨none,some d,.qH y args⟩::r) s K:=l_op (P4 hx j E l o h)
def Nb{d:Option Nat}{y:eO}{f:FuncId}{cap:List V}{args:List eO}{a:List V}{Q:V->Bool->aJ->Prop}{r:List BI}(hx:s.val y=.fn f cap)(l:fL P f=true)(E:lI P GL f a s.E Q)(o:args.all (λx=> !(s.val x).dW)=true)
 (p:aN (args.map s.val++cap) a) (h:∀v bL j,Q v bL j->er P GL false r ((s.ct j).ret d v bL) K):er P GL false (⟨none,d,.qH y args⟩::r) s K:=
 l_op (by simp only[b4,hx];exact⟨l,o,.inr (.inl ⟨rfl,a,p,E.mono h⟩)⟩)
end
def bj{α:Type}{l:List α}{k:Nat}(h:k<l.length):l.take (k+1)=l.take k++[l[k]]:=by
 rw[List.take_add_one,aa h];rfl
def UH:
 (∀(s:St) t,s.val (.tmp t)=s.Z t)/\(∀(s:St) u,s.val (.const u)=u)/\(∀(s:St) cs,s.val (.kn cs)=.ep cs)/\
 (∀(s:St)(d u l o t),(s.put d u l o).Z t=if t=d then u else s.Z t)/\
 (∀(s:St)(d k u t),(s.zj d k u).Z t=if t=d then u else s.Z t)/\
 (∀(s:St)(d cs),(s.fG d cs).Z=s.Z)/\
 (∀(s:St)(j k o vs),(s.hZ j k o vs).Z=s.Z)/\
 (∀(s:St)(D bL vals t),(s.head D bL vals).Z t=match look vals t with
  |some (u,_)=>u
  |none=>if D.contains t then .unk else s.Z t)/\
 (∀(n:Nat) args E t,(St.init n args E).Z t=args.getD t .qr)/\
 (∀(s:St) u,(s.dP (.var u)).Z=s.Z)/\
 (∀(s:St) d,s.skip (some d)=s.put d .qr none false)/\(∀(s:St),s.skip none=s)/\
 (∀t,look [] t=none)/\(∀t u o r k,look ((t,u,o)::r) k=if k=t then some (u,o)else look r k)/\
 (∀(s:St)(d u l o),(s.put d u l o).G=s.G)/\(∀(s:St)(d u l o),(s.put d u l o).loc=s.loc)/\
 (∀(s:St)(d k u),(s.zj d k u).G=s.G)/\(∀(s:St)(d k u),(s.zj d k u).loc=s.loc)/\
 (∀(s:St)(d cs j),(s.fG d cs).G j=if j=d then s.G d+1 else s.G j)/\
 (∀(s:St)(d cs j k),(s.fG d cs).loc j k=if j=d/\k=s.G d then cs else s.loc j k)/\
 (∀(s:St)(j k o vs),(s.hZ j k o vs).G=s.G)/\
 (∀(s:St)(j k o vs a f),(s.hZ j k o vs).loc a f=if a=j/\f=k then aO (s.loc j k) o vs else s.loc a f)/\
 (∀(s:St)(D bL vals),(s.head D bL vals).G=s.G)/\(∀(s:St)(D bL vals),(s.head D bL vals).loc=s.loc)/\
 (∀(n:Nat) args E j,(St.init n args E).G j=0)/\(∀(n:Nat) args E j k,(St.init n args E).loc j k=[])/\
 (∀(s:St) u,(s.dP (.var u)).G=s.G)/\(∀(s:St) u,(s.dP (.var u)).loc=s.loc)/\
 (∀(s:St) j k off,s.iN (.A j k off)=if k<s.G j then(if off<=(s.loc j k).length then some ((s.loc j k).drop off)else none)else none)/\
 (∀(s:St) cs,s.iN (.ep cs)=some cs)/\(∀cs,V.cells (.agg cs)=cs)/\(∀k n,V.cells (.int k n)=[.int k n])/\(∀n,V.cells (.bool n)=[.bool n])/\(∀n,V.cells (.str n)=[.str n])/\(∀n l,V.cells (.sl n l)=[.sl n l])/\
 (∀t,varOf (.tmp t)=some (.var t)):=by
 and_intros<;>intros<;>rfl
def bh:
 (∀(s:St) E,(s.ct E).Z=s.Z)/\(∀(s:St) E,(s.ct E).fl=s.fl)/\(∀(s:St) E,(s.ct E).loc=s.loc)/\(∀(s:St) E,(s.ct E).G=s.G)/\(∀(s:St) E,(s.ct E).E=E)/\
 (∀(s:St)(d u l o),(s.put d u l o).E=s.E)/\(∀(s:St)(d k u),(s.zj d k u).E=s.E)/\(∀(s:St)(d cs),(s.fG d cs).E=s.E)/\(∀(s:St)(j k o vs),(s.hZ j k o vs).E=s.E)/\
 (∀(s:St) u,(s.dP (.var u)).E=s.E)/\(∀(s:St)(j k o y),(s.ol j k o y).E=s.E)/\(∀(n:Nat) args E,(St.init n args E).E=E)/\
 (∀(s:St)(D bL vals),(s.head D bL vals).E.box=s.E.box)/\(∀(s:St)(D bL vals),(s.head D bL vals).E.mp=s.E.mp)/\(∀(s:St)(D bL vals),(s.head D bL vals).E.Y=s.E.Y)/\
 (∀(h:aJ) cs i,(h.cM cs).box i=if i=h.Y then some cs else h.box i)/\(∀(h:aJ) cs,(h.cM cs).mp=h.mp)/\(∀(h:aJ) cs,(h.cM cs).Y=h.Y+1)/\
 (∀(h:aJ) i,h.hI.mp i=if i=h.Y then some (.map [])else h.mp i)/\(∀(h:aJ),h.hI.box=h.box)/\(∀(h:aJ),h.hI.Y=h.Y+1)/\
 (∀(h:aJ) i kvs j,(h.eM i kvs).mp j=if j=i then some (.map kvs)else h.mp j)/\(∀(h:aJ) i kvs,(h.eM i kvs).box=h.box)/\(∀(h:aJ) i kvs,(h.eM i kvs).Y=h.Y)/\
 (aJ.bare.Y=0)/\(∀i,aJ.bare.box i=none)/\(∀i,aJ.bare.mp i=none)/\
 (∀(s:St) id off,s.iN (.bp id off)=match s.E.box id with|some cs=>if off<=cs.length then some (cs.drop off)else none|none=>none):=by
 and_intros<;>intros<;>first|rfl|(rename_i y;cases y<;>rfl)
def KQ:
 (∀(s:St)(j k o y),(s.ol j k o y).Z=s.Z)/\(∀(s:St)(j k o y),(s.ol j k o y).G=s.G)/\(∀(s:St)(j k o y),(s.ol j k o y).loc=s.loc)/\
 (∀(s:St)(j k o u),s.ol j k o (.const u)=s)/\(∀(s:St)(j k o u),s.ol j k o (.kn u)=s)/\
 (∀(s:St)(j k o t x),(s.ol j k o (.tmp t)).fl x=if x=t then false else s.fl x)/\(∀(s:St)(j k o vs),(s.hZ j k o vs).fl=s.fl):=by
 and_intros<;>intro s j k o y<;>first|(intro x;rfl)|(cases y<;>rfl)|rfl
def Nc:
 (∀(s:St)(d u l o t),(s.put d u l o).fl t=if t=d then o else s.fl t)/\
 (∀(s:St)(d k u t),(s.zj d k u).fl t=if t=d then s.fl k else if t=k then false else s.fl t)/\
 (∀(s:St)(d cs),(s.fG d cs).fl=s.fl)/\
 (∀(s:St)(D bL vals t),(s.head D bL vals).fl t=match look vals t with
  |some (_,o)=>o
  |none=>bL.contains t)/\
 (∀(n:Nat) args E t,(St.init n args E).fl t=false)/\
 (∀(s:St) u t,(s.dP (.var u)).fl t=if t=u then false else s.fl t):=by
 and_intros<;>intros<;>rfl
end
section
variable {P:Program}{GL:Nat->Option (List V)}{a b c:BC}{s:St}{st:List Fr}{K:Ex->St->Prop}{J:St->Prop}
def sJ(d:vc P GL a s (run P GL (.back J::st) K))(hb:∀t,J t->vc P GL b t (run P GL st K)):vc P GL a s (run P GL (.seq b::st) K):=
 fV d λe t h=>by
  cases e with
  |normal=>exact hb t h
  |exit _=>exact h
  |ret=>exact h
def Yw(f:vc P GL (.seq a b) s (run P GL (.back J::st) K))(hb:∀t,J t->vc P GL c t (run P GL st K)):vc P GL (.seq a (.seq b c)) s (run P GL st K):=by
 refine M6 ?_;refine fV (show vc P GL a s (λe d=>e.andThen d (λd=>vc P GL b d (run P GL (.back J::st) K)) (run P GL (.back J::st) K))from f) λe t h=>?_;cases e with
 |normal=>exact M6 (sJ h hb)
 |exit _=>exact h
 |ret=>exact h
def UI{K:Ex->St->Prop}(h:vc P GL (.seq (.seq a b) c) s K):vc P GL (.seq a (.seq b c)) s K:=by
 show vc P GL a s (λe d=>e.andThen d (λd=>vc P GL (.seq b c) d K) K);refine fV (show vc P GL a s (λe d=>e.andThen d (λd=>vc P GL b d (λe d=>e.andThen d (λd=>vc P GL c d K) K)) (λe d=>e.andThen d (λd=>vc P GL c d K) K))from h) λe t h=>?_;cases e with
 |normal=>exact h
 |exit _=>exact h
 |ret=>exact h
def UJ(d:vc P GL a s (run P GL (.back J::st) K))(hb:∀t,J t->vc P GL b t (run P GL st K)):vc P GL (.seq a b) s (run P GL st K):=M6 (sJ d hb)
end
def hC:Option Loc->Option Loc
 |some (.iI _ _)=>none
 |l=>l
def va:(∀(s:St) E t,(s.ct E).lk t=hC (s.lk t))/\(hC none=none)/\(∀u,hC (some (.var u))=some (.var u))/\(∀a b c,hC (some (.cell a b c))=some (.cell a b c))/\(∀a b,hC (some (.iI a b))=none):=by
 refine⟨λs E t=>?_,rfl,λ_=>rfl,λ_ _ _=>rfl,λ_ _=>rfl⟩;show iO s.lk Pn t=_;unfold iO hC;cases s.lk t with
 |none=>rfl
 |some l=>cases l<;>rfl
end Go.Bx
