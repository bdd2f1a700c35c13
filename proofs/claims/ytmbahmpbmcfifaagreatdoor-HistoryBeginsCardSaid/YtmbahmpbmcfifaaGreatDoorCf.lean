/- Lemmas for HistoryBegins. -/
import Derived.Test.YtmbahmpbmcfifaaGreatDoorCd
import Derived.Deep.DeepHandedRow
import Derived.Lib.LaidTab
import Derived.OpenShut
import Derived.ProofKit
import Derived.Test.YtmbahmpbmcfifaaGreatDoorCards
import Derived.Test.YtmbahmpbmcfifaaGreatDoorTie
import Derived.WalkKit
noncomputable section
set_option linter.all false
set_option maxHeartbeats 4000000
set_option maxRecDepth 100000
namespace Go.Bx
def mI(w:World):aY:={bJ:=λb o=>match w.cell? (cl b o)with
 |some x=>.g3 x
 |none=>if b<w.heap.size then .ext else .free,hb:=λ_=>none,lb:=λ_ _=>none}
def BE{w:World}{b o:Nat}{x:Value}(h:w.cell? (cl b o)=some x):(mI w).bJ b o=.g3 x:=by simp only[mI,h]
def Lp{w:World}{b:Nat}(hb:b<w.heap.size)(o:Nat):((mI w).bJ b o).old:=by
 simp only[mI];split
 .exact .inr ⟨_,rfl⟩
 .rw[ax hb];exact .inl rfl
def QK{w:World}{b o:Nat}{x:Value}(h:w.cell? (cl b o)=some x):b<w.heap.size:=by
 unfold World.cell? at h;refine cM λhb=>?_;rw[show(cl b o).block=b from rfl,gM (Nat.not_lt.1 hb)]at h;cases h
def Lq{w:World}{b o:Nat}{x:Value}(h:(mI w).bJ b o=.g3 x):w.cell? (cl b o)=some x:=by
 simp only[mI]at h;split at h
 next q=>rw[q];cases h;rfl
 .split at h<;>cases h
def Gb{w:World}{b o:Nat}(h:(mI w).bJ b o≠.free):b<w.heap.size:=by
 simp only[mI]at h;split at h
 next q=>exact QK q
 .split at h
  .assumption
  .exact absurd rfl h
def Lr{w:World}{b:Nat}{ob:Obj}(h:(mI w).bJ b 0=.eY ob):False:=by
 simp only[mI]at h;split at h
 .cases h
 .split at h<;>cases h
def If{GL:aj}{w:World}{args:List V}{xs:Array Value}(a:∀n cells,GL n=some cells->VR (mI w) (.ep cells) (.pointer (some ⟨n,0,none⟩)))(d:∀n cells,GL n=some cells->(V.ep cells).free=true)
 (f:xs.size=args.length) (l:∀(j:Nat) v x,args[j]?=some v->xs[j]?=some x->VR (mI w) v x):rp GL (mI w) w aK.bare args xs where
 gF:=⟨a,λ_ _ _ e=>Lq e,λ_ _ e=>(Lr e).elim,λ_ _ e=>Gb e,d⟩
 heap:=⟨λ_ _ e=>(by cases e),λ_ _ _ _ _ _ e=>(by cases e),λ_ _ e=>(by cases e),λ_ _=>rfl⟩
 len:=f
 arg:=l
def NR{w w':World}{g':aY}(h:Step (mI w) w g' w'):(∀b,b<w.heap.size->w'.heap[b]?=w.heap[b]?)/\w.heap.size<=w'.heap.size/\w'.os=w.os/\w'.output=w.output:=
 ⟨λb hb=>h.whole b hb (Lp hb),h.size,h.gY.os,h.gY.out⟩
def NS{w:World}{n:Nat}{cells:List V}(val:Nat->Value)(h:∀j,j<cells.length->w.cell? ⟨n,j,none⟩=some (val j))(a:∀(j:Nat) c,cells[j]?=some c->c.one=true)
 (d:∀(j:Nat) c,cells[j]?=some c->VR (mI w) c (val j)):VR (mI w) (.ep cells) (.pointer (some ⟨n,0,none⟩)):=
 .ep cells ⟨n,0,none⟩ val rfl (λk f=>by rw[cA];exact BE (h k f)) a d
def NT{w:World}{a:Addr}{cap:Nat}{zs:List Int}(f:a.spot=none)(o:zs.length<=cap)(h:∀i,i<zs.length->w.cell? (a.add i)=some (.int .i64 (zs.getD i 0))):VR (mI w) (.sl 1 (zs.map λn=>.int .i64 n)) (.slice (some a) zs.length cap):=by
 have:=VR.sl (g:=mI w) 1 (zs.map λn=>V.int .i64 n) a cap (λk=>.int .i64 (zs.getD k 0)) f (by simpa using o) (λi v e=>by
  rw[bw]at e;obtain⟨x,_,rfl⟩:=bS.1 e;rfl) (λk p=>?_) (λi v j c e d=>by
  rw[bw]at e;obtain⟨x,_,rfl⟩:=bS.1 e;cases j with
  |zero=>cases d;rfl
  |succ j=>cases d) (λi v j c e d=>by
  rw[bw]at e;obtain⟨x,hx,rfl⟩:=bS.1 e;cases j with
  |zero=>
   cases d;have:zs.getD (i*1+0) 0=x:=by rw[kK,di,ap,hx];rfl
   rw[this];exact .int _ _
  |succ j=>cases d)
 .simpa using this
 .have l:k<zs.length:=by simpa using p
  have:=h k l;refine BE ?_;obtain⟨ab,q,sp⟩:=a;subst f;cases k with
  |zero=>simpa[Addr.add,cl]using this
  |succ k=>simpa[Addr.add,cl]using this
section
def ce{α:Type}(sz:Nat)(R:aK->V->α->List Nat->Prop)(h:aK)(v:V)(l:List α)(X:List Nat):Prop:=
 ∃(d:List V)(is:List (List Nat)),gu sz h v d/\d.length=l.length/\is.length=l.length/\
  (∀(i:Nat) x a js,d[i]?=some x->l[i]?=some a->is[i]?=some js->R h x a js)/\X=(bI v).toList++is.flatten
def lP{α:Type}(R:aK->V->α->List Nat->Prop):Prop:=
 ∀h h' v a X,R h v a X->(∀i∈X,i<h.Y/\h'.box i=h.box i)->h.Y<=h'.Y->R h' v a X
def JA{α:Type}(R:aK->V->α->List Nat->Prop):Prop:=∀h v a X,R h v a X->∀i∈X,i<h.Y
def gu.frame{sz:Nat}{h h':aK}{v:V}{xs:List V}(hm:gu sz h v xs)(hb:∀i,bI v=some i->h'.box i=h.box i)(f:h.Y<=h'.Y):gu sz h' v xs:=by
 obtain⟨d,j|⟨id,c,rest,rfl,o,p,q,r⟩⟩:=hm
 .exact⟨d,.inl j⟩
 .exact⟨d,.inr ⟨id,c,rest,rfl,bj o f,by rw[hb id rfl];exact p,q,r⟩⟩
def gu.BG{sz:Nat}{h:aK}{v:V}{xs:List V}(hm:gu sz h v xs){i:Nat}(d:bI v=some i):i<h.Y:=by
 obtain⟨j,⟨rfl,_⟩|⟨id,c,rest,rfl,f,_⟩⟩:=hm
 .cases d
 .cases d;exact f
section
variable {α:Type}{sz:Nat}{R:aK->V->α->List Nat->Prop}{h h':aK}{v v' x:V}{l:List α}{X js:List Nat}{a:α}
def hG{is:List (List Nat)}{i k:Nat}{js:List Nat}(h:is[k]?=some js)(d:i∈js):i∈is.flatten:=
 np.2 ⟨js,bW h,d⟩
def ce.qG(o:lP R):lP (ce sz R):=by
 rintro h h' v l X ⟨p,is,q,r,t,u,rfl⟩ hb d;refine⟨p,is,q.frame (λi y=>(hb i (by simp[y])).2) d,r,t,λi x a js z A f=>o _ _ _ _ _ (u i x a js z A f) (λj D=>hb j ?_) d,rfl⟩;exact aU _ (hG f D)
def ce.vF(j:JA R):JA (ce sz R):=by
 rintro h v l X ⟨o,is,p,u,y,q,rfl⟩ i d;rcases aN.1 d with d|d
 .exact p.BG (by simpa using d)
 .obtain⟨js,r,d⟩:=np.1 d;obtain⟨k,f⟩:=fZ.1 r;have t:=(aH.1 f).1;exact j _ _ _ _ (q k o[k] l[k] js (aa _) (aa _) f) i d
def ce.nil:ce sz R h .aP ([]:List α) []:=⟨[],[],.nil,rfl,rfl,λi x a js e=>(by cases e),rfl⟩
def ce.len(d:ce sz R h v l X):xj v=some (.int .i64 (l.length:Int)):=by
 obtain⟨o,is,f,j,_⟩:=d;rw[<-j];exact f.len
def ce.one(d:ce sz R h v l X):v.one=true:=by
 obtain⟨f,is,⟨_,⟨rfl,_⟩|⟨id,c,rest,rfl,_⟩⟩,_⟩:=d<;>rfl
def ce.cells(d:ce sz R h v l X):v.cells=[v]/\([v].length==1&&[v].all V.one)=true:=by
 obtain⟨f,is,⟨_,⟨rfl,_⟩|⟨id,c,rest,rfl,_⟩⟩,_⟩:=d<;>exact⟨rfl,rfl⟩
def ce.gD(d:ce sz R h v l X):v.dY=false:=by obtain⟨j,is,f,_⟩:=d;exact f.gD
def ce.get(o:ce sz R h v l X){i:Nat}(p:i<l.length):∃id c cells x js rest,v=.ms sz id 0 l.length c/\id<h.Y/\h.box id=some cells/\cells.drop (i*sz)=x.cells++rest/\(i+1)*sz<=cells.length/\jW sz x=true/\R h x l[i] js/\id∈X/\(∀j∈js,j∈X):=by
 obtain⟨d,is,⟨ho,q⟩,r,A,t,rfl⟩:=o;have hx:i<d.length:=av;have f:i<is.length:=av;rcases q with⟨_,rfl⟩|⟨id,c,rest,rfl,u,y,D,H⟩
 .exact absurd hx (gQ _)
 .refine⟨id,c,_,d[i],is[i],_,by rw[r],u,y,i7 ho hx rest,?_,ho _ (ah hx),t i _ _ _ (aa hx) (aa p) (aa f),by simp[bI],λj z=>aU _ (hG (aa f) z)⟩;exact T2
def ce.push(ai:lP R)(D:JA R){r:List V}{is:List (List Nat)}(aB:gu sz h v r)(h2:r.length=l.length)(ab:is.length=l.length)
 (aA:∀(i:Nat) x a js,r[i]?=some x->l[i]?=some a->is[i]?=some js->R h x a js) (hx:R h x a js) (aC:(((bI v).toList++is.flatten)++js).Nodup)
 (hm:gu sz h' v' (r++[x])) (ac:bA (bI v) h h') (f:bI v'=bI v\/bI v'=some h.Y):
 ∃t,ce sz R h' v' (l++[a]) t/\t.Nodup/\(∀i∈t,i∈(bI v).toList++is.flatten\/i∈js\/i=h.Y):=by
 have H:=ce.vF D (sz:=sz) h v l _ ⟨r,is,aB,h2,ab,aA,rfl⟩;have L:=D h x a js hx;have p:=aO.1 aC;have N:∀i,i∈is.flatten\/i∈js->i<h.Y/\h'.box i=h.box i:=by
  rintro i o;have Q:i<h.Y:=o.elim (λo=>H i (aU _ o)) (L i);refine⟨Q,ac.box i Q λe=>?_⟩;rcases o with o|o
  .have:=(aO.1 p.1).2.2 i (by simp[e]) i o;exact this rfl
  .exact p.2.2 i (bV _ (by simp[e])) i o rfl
 refine⟨(bI v').toList++(is++[js]).flatten,⟨r++[x],is++[js],hm,by simp[h2],by simp[ab],λi y b aD A u z=>?_,rfl⟩,?_,?_⟩
 .rcases am i l.length with a0|a0
  .rw[dH av]at A u z;exact ai _ _ _ _ _ (aA i y b aD A u z) (λj q=>N j (.inl (hG z q))) ac.Y
  .rw[dR av]at A u z;have ad:i-l.length=0:=by
    have:=(aH.1 u).1;simp at this;omega
   rw[h2,ad]at A;rw[ad]at u;rw[ab,ad]at z;cases A;cases u;cases z;exact ai _ _ _ _ _ hx (λj q=>N j (.inr q)) ac.Y
 .rw[fx,<-aF];simp only[dl,jf,cD];refine aO.2 ⟨aO.2 ⟨by cases bI v'<;>simp,(aO.1 p.1).2.1,λi d j q=>?_⟩,p.2.1,λi d j q=>?_⟩
  .rintro rfl;rcases f with f|f
   .rw[f]at d;exact(aO.1 p.1).2.2 i d i q rfl
   .rw[f]at d;have:=H i (aU _ q);simp at d;omega
  .rintro rfl;rcases aN.1 d with d|d
   .rcases f with f|f
    .rw[f]at d;exact p.2.2 i (bV _ d) i q rfl
    .rw[f]at d;have:=L i q;simp at d;omega
   .exact p.2.2 i (aU _ d) i q rfl
 .intro i d;rw[fx]at d;rcases aN.1 d with d|d
  .rcases f with f|f
   .rw[f]at d;exact .inl (bV _ d)
   .rw[f]at d;simp at d;exact .inr (.inr d)
  .rcases aN.1 d with d|d
   .exact .inl (aU _ d)
   .simp at d;exact .inr (.inl d)
def ce.same(q:lP R)(j:JA R){o:Option Nat}(d:ce sz R h v l X)(p:bA o h h')(r:∀i∈X,o≠some i):ce sz R h' v l X:=
 ce.qG q _ _ _ _ _ d (λi f=>⟨ce.vF j _ _ _ _ d i f,p.box i (ce.vF j _ _ _ _ d i f) (r i f)⟩) p.Y
def sP{A B C D:List Nat}{n:Nat}(p:(A++(B++C)).Nodup)(h':D.Nodup)(hb:∀i∈A,i<n)(q:∀i∈D,i∈B\/i∈C\/i=n):(A++D).Nodup:=by
 obtain⟨r,u,o⟩:=aO.1 p;refine aO.2 ⟨r,h',λi f j t e=>?_⟩;subst e;rcases q i t with d|d|d
 .exact o i f i (bV _ d) rfl
 .exact o i f i (aU _ d) rfl
 .have:=hb i f;omega
def eA{s:St}{t n:Nat}{ag:Bool}{a:V}(h:dv s (.load ag n (.tmp t))=some a)(d:a.dY=false):BF.result s [.cell t ag n]=some (a,false):=by simp[BF.result,BR.get,h,d]
def Frz{α:Type}(R:aK->V->α->List Nat->Prop)(lH:α->V):Prop:=∀h v a X (fz:aj),R h v a X->(∀i∈X,fz i=h.box i)->V.lF fz v (lH a)
def Ls{α:Type}(sz:Nat)(R:aK->V->α->List Nat->Prop)(lH:α->V):Prop:=∀h v a X (fz:aj),R h v a X->(∀i∈X,fz i=h.box i)->
 jW sz (lH a)=true/\∀(j:Nat) c d,v.cells[j]?=some c->(lH a).cells[j]?=some d->V.lF fz c d
def Ao{xs:List V}(h:lG sz xs)(rest:List V){i r:Nat}(d:i<xs.length)(j:r<sz):(b9 xs++rest)[i*sz+r]?=xs[i].cells[r]?:=by
 have f:=i7 h d rest;have o:=(fb (h _ (ah d))).1;have:(b9 xs++rest)[i*sz+r]?=((b9 xs++rest).drop (i*sz))[r]?:=by rw[cY]
 rw[this,f,dH av]
def ce.TD(z:0<sz){lH:α->V}(ai:Ls sz R lH):Frz (ce sz R) (λl=>.sl sz (l.map lH)):=by
 rintro h v l X fz ⟨o,is,⟨L,aA⟩,D,a2,aB,rfl⟩ N;rcases aA with⟨rfl,rfl⟩|⟨id,c,rest,rfl,a3,aC,a4,a5⟩
 .obtain rfl:l=[]:=bH.1 D.symm;exact .aP sz
 have A:∀(i:Nat)(p:i<o.length),jW sz (lH (l[i]'av))=true/\∀(j:Nat) c d,o[i].cells[j]?=some c->(lH (l[i]'av)).cells[j]?=some d->V.lF fz c d:=λi p=>by
  have Q:i<is.length:=av;have q:i<l.length:=av;exact ai _ _ _ _ fz (aB i _ _ _ (aa p) (aa q) (aa Q)) λk aD=>N k (aU _ (hG (aa Q) aD))
 have f:lG sz (l.map lH):=λy a0=>by
  obtain⟨a,a1,rfl⟩:=cB.1 a0;obtain⟨i,p,rfl⟩:=hU.1 a1;exact(A i av).1
 have ab:=dV L;have H:=dV f;rw[au,<-D]at H;refine .ms sz id 0 o.length c (b9 o++rest) (b9 (l.map lH)++rest) (l.map lH) ?_ (by rw[ae,ae,ab,H]) (λj x y t u=>?_) (by simp[D]) λi x hx=>?_
 .rw[N id (by simp[bI]),aC]
 .rcases am j (o.length*sz)with r|r
  .have p:j/sz<o.length:=by rw[iB z];exact r
   have ac:j%sz<sz:=fI _ z;have e:j=j/sz*sz+j%sz:=by rw[jX];exact(lW j sz).symm
   rw[e,Ao L rest p ac]at t;rw[e,Ao f rest (by simp;omega) ac,dK]at u;exact(A _ p).2 _ _ _ t u
  .rw[dR av,ab]at t;rw[dR av,H]at u;cases (t.symm.trans u);exact .refl _
 .obtain⟨q,rfl⟩:=aH.1 hx;refine⟨f _ (ah q),λj a6 r=>?_⟩;have ad:j<sz:=by
   have:=(aH.1 r).1;rw[(fb (f _ (ah q))).1]at this;exact this
  rw[cA,Ao f rest q ad];exact r
def aK.less(h:aK)(X:List Nat):aK:={h with box:=λi=>if i∈X then none else h.box i,fl:=λi j=>if i∈X then false else h.fl i j}
def oC(h:aK)(X:List Nat):Nat->Option (List V):=λi=>if i∈X then h.box i else none
def l6(h:aK)(X:List Nat):jE (oC h X) h (h.less X) where
 CU id cells e:=by
  unfold oC at e;split at e
  .exact e
  .cases e
 box id cells e:=by
  simp only[aK.less]at e;split at e
  .cases e
  next h1=>exact⟨by unfold oC;rw[al h1],cells,e,.refl _⟩
 fl id j e:=by
  simp only[aK.less]at e ⊢
  split at e
  .cases e
  next h1=>exact .inl ⟨e,.inr (by simp only[al h1])⟩
 mp id d e:=⟨d,e,.refl _⟩
 Y:=an _
def pg{h:aK}{X:List Nat}{i:Nat}(d:i∈X):oC h X i=h.box i:=by unfold oC;rw[ax d]
def ce.mono{d:aK->V->α->List Nat->Prop}(f:ce sz R h v l X)(j:∀x a js,R h x a js->d h x a js):ce sz d h v l X:=by
 obtain⟨o,is,p,q,r,t,rfl⟩:=f;exact⟨o,is,p,q,r,λi x a js u y z=>j _ _ _ (t i x a js u y z),rfl⟩
def oW:∀{is:List (List Nat)} {i k:Nat} {js o:List Nat},is.flatten.Nodup->is[i]?=some js->is[k]?=some o->k≠i->∀j∈o,j∉js
 |[],_,_,_,_,_,e,_,_=>by cases e
 |a::r,0,0,_,_,_,_,_,h=>absurd rfl h
 |a::r,0,k+1,js,o,p,d,f,_=>by
  intro j t q;simp at d;subst d;exact(aO.1 p).2.2 j q j (hG (by simpa using f) t) rfl
 |a::r,i+1,0,js,o,p,d,f,_=>by
  intro j t q;simp at f;subst f;exact(aO.1 p).2.2 j t j (hG (by simpa using d) q) rfl
 |a::r,i+1,k+1,js,o,p,d,f,u=>oW (is:=r) (aO.1 p).2.1 (by simpa using d) (by simpa using f) av
def ce.eQ(u:lP R){xs:List V}{is:List (List Nat)}(z:gu sz h v xs)(h2:xs.length=l.length)(A:is.length=l.length)
 (D:∀(i:Nat) x a js,xs[i]?=some x->l[i]?=some a->is[i]?=some js->R h x a js) {i:Nat} (L:i<l.length) {a':α} {rz:List Nat} (hb:∀j,bI v=some j->h'.box j=h.box j) (r:h.Y<=h'.Y)
 (H:∀(k:Nat) d,k≠i->is[k]?=some d->∀j∈d,j<h.Y/\h'.box j=h.box j) {x:V} (t:xs[i]?=some x) (hx:R h' x a' rz):ce sz R h' v (l.set i a') ((bI v).toList++(is.set i rz).flatten):=by
 refine⟨xs,is.set i rz,z.frame hb r,by simp[h2],by simp[A],λk y b d p o f=>?_,rfl⟩;by_cases q:k=i
 .subst q;rw[ii av]at o f;rw[t]at p;cases p;cases o;cases f;exact hx
 .rw[iM (hY q)]at o f;exact u _ _ _ _ _ (D k y b d p o f) (H k d q f) r
def ce.set(H:lP R){xs:List V}{is:List (List Nat)}(L:gu sz h v xs)(h2:xs.length=l.length)(N:is.length=l.length)
 (Q:∀(i:Nat) x a js,xs[i]?=some x->l[i]?=some a->is[i]?=some js->R h x a js) {i id:Nat} (aC:i<l.length) {x':V} {a':α} {rz:List Nat} (dW:bI v=some id) (t:jW sz x'=true)
 {cells:List V} (ab:h.box id=some cells) (u:h'.box id=some (aQ cells (i*sz) x'.cells)) (z:h.Y<=h'.Y)
 (ac:∀(k:Nat) d,k≠i->is[k]?=some d->∀j∈d,j<h.Y/\h'.box j=h.box j) (hx:R h' x' a' rz):ce sz R h' v (l.set i a') ((bI v).toList++(is.set i rz).flatten):=by
 obtain⟨q,⟨rfl,rfl⟩|⟨id2,c,rest,rfl,ad,ai,aA,aB⟩⟩:=L
 .cases dW
 obtain rfl:id2=id:=ar dW;have A:i<xs.length:=av;have D:cells=b9 xs++rest:=ar (ab.symm.trans ai);subst D;refine⟨xs.set i x',is.set i rz,⟨q.set t,.inr ⟨id2,c,rest,bT,bj ad z,by rw[u,uE q A t],by simpa using aA,by simpa using aB⟩⟩,by simp[h2],by simp[N],λk y b d o p f=>?_,rfl⟩;by_cases r:k=i
 .subst r;rw[ii av]at o p f;cases o;cases p;cases f;exact hx
 .rw[iM (hY r)]at o p f;exact H _ _ _ _ _ (Q k y b d o p f) (ac k d r f) z
def ce.at(ai:lP R)(aD:JA R)(T:ce sz R h v l X)(D:X.Nodup){i:Nat}(L:i<l.length):∃id c cells x js rest,v=.ms sz id 0 l.length c/\id<h.Y/\h.box id=some cells/\cells.drop (i*sz)=x.cells++rest/\(i+1)*sz<=cells.length/\jW sz x=true/\R h x l[i] js/\
 js.Nodup/\id∉js/\id∈X/\(∀j∈js,j∈X)/\
 (∀f x' a' rz,h.Y<=f.Y->f.box id=some (aQ cells (i*sz) x'.cells)->(∀j,j∈X->j≠id->j∉js->f.box j=h.box j)->jW sz x'=true->R f x' a' rz->∃o,ce sz R f v (l.set i a') o/\(rz=js->o=X))/\
 (∀f a' rz,h.Y<=f.Y->(∀j,j∈X->j∉js->f.box j=h.box j)->R f x a' rz->∃o,ce sz R f v (l.set i a') o/\(rz=js->o=X)):=by
 have hb:=ce.vF aD _ _ _ _ T;obtain⟨t,is,⟨ho,h1⟩,N,f,Q,rfl⟩:=T;have hx:i<t.length:=av;have u:i<is.length:=av;have z:=(aO.1 D).2.1;rcases h1 with⟨_,rfl⟩|⟨id,c,rest,rfl,aA,ab,a0,a1⟩
 .exact absurd hx (gQ _)
 have dW:∀(k:Nat) y,is[k]?=some y->∀j∈y,j≠id:=λk y p j d e=>(aO.1 D).2.2 id (by simp[bI]) j (hG p d) e.symm;have aB:is[i].Nodup:=by
  have h1:=z;rw[show is=is.take i++is[i]::is.drop (i+1)by simp]at h1;exact Xc
 have hm:gu sz h (.ms sz id 0 t.length c) t:=⟨ho,.inr ⟨id,c,rest,rfl,aA,ab,a0,a1⟩⟩;have r:∀rz,rz=is[i]->(bI (.ms sz id 0 t.length c)).toList++(is.set i rz).flatten=(bI (.ms sz id 0 t.length c)).toList++is.flatten:=λrz e=>by rw[e,iA]
 refine⟨id,c,_,t[i],is[i],_,by rw[N],aA,ab,i7 ho hx rest,?_,ho _ (ah hx),Q i _ _ _ (aa hx) (aa L) (aa u),aB,λd=>dW i _ (aa u) id d rfl,by simp[bI],λj d=>aU _ (hG (aa u) d),?_,?_⟩
 .exact T2
 .intro k x' a' rz ac a2 H aC ad;refine⟨_,ce.set ai hm N f Q L rfl aC ab a2 ac (λm y A p j d=>⟨hb j (aU _ (hG p d)),H j (aU _ (hG p d)) (dW m y p j d) λq=>oW z (aa u) p A j d q⟩) ad,r rz⟩
 .intro k a' rz ac H ad;refine⟨_,ce.eQ ai hm N f Q L (λj d=>H j (bV _ (by simp[d])) λq=>dW i _ (aa u) j q (by simpa[bI]using d.symm)) ac (λm y A p j d=>⟨hb j (aU _ (hG p d)),H j (aU _ (hG p d)) λq=>oW z (aa u) p A j d q⟩) (aa hx) ad,r rz⟩
end
section
variable {GL:Nat->Option (List V)}{P:Program}{s:St}{K:St->Prop}{pu:Bool}
def St.PH(s:St)(n id off:Nat)(y:eL):St:=match s.store n (.bp id off) y with
 |some t=>t
 |none=>s
def Gc{n id off:Nat}{y:eL}{cells:List V}(hb:s.E.box id=some cells)(d:jW n (s.val y)=true)(f:off+n<=cells.length):s.store n (.bp id off) y=some (s.PH n id off y):=by
 unfold St.PH;simp[St.store,hb,d,f]
def JB{n id off:Nat}{y:eL}{cells:List V}(hb:s.E.box id=some cells)(ho:jW n (s.val y)=true)(hl:off+n<=cells.length):
 (s.PH n id off y).Z=s.Z/\(s.PH n id off y).G=s.G/\(s.PH n id off y).loc=s.loc/\(s.PH n id off y).E.box=eQ s.E.box id (some (aQ cells off (s.val y).cells))/\(s.PH n id off y).E.mp=s.E.mp/\(s.PH n id off y).E.Y=s.E.Y:=by
 unfold St.PH;exact WY
def xk{n:Nat}{y:eL}{id off:Nat}{cells:List V}{r:List BI}(hb:s.E.box id=some cells)(d:jW n (s.val y)=true)(f:off+n<=cells.length)
 (h:∀t:St,t.Z=s.Z->t.G=s.G->t.loc=s.loc->t.E.box=eQ s.E.box id (some (aQ cells off (s.val y).cells))->t.E.mp=s.E.mp->t.E.Y=s.E.Y->er P GL pu r t K):iG P GL (s.store n (.bp id off) y) pu r K:=by
 obtain⟨j,o,p,q,u,z⟩:=JB hb d f;rw[Gc hb d f];exact h _ j o p q u z
def oX{α:Type}{R:aK->V->α->List Nat->Prop}{l:List α}{X js:List Nat}{a:α}{e v0:V}{fA:aK}{d:Option Nat}{sz:Nat}{zs:List V}{x y:eL}{r:List BI}(u:lP R)(A:JA R)
 (t:s.val x=v0) (D:s.E=fA) (o:s.val y=.sl (sz+1) [e]) (H:ce (sz+1) R fA v0 l X) (L:jW (sz+1) e=true) (hx:R fA e a js) (N:(X++js).Nodup) (p:zs.length=sz+1) (hlen:l.length<=1000000)
 (h:∀v j f,ce (sz+1) R j v (l++[a]) f->f.Nodup->(∀i∈f,i∈X\/i∈js\/i=fA.Y)->bA (bI v0) fA j->(∀i,bI v0=some i->i∈X)->gA P GL d pu r s K v false j):(MX.wn (sz+1) zs x y).wp s (gA P GL d pu r s K):=by
 subst D;subst t;obtain⟨xs,is,q1,Q,ab,ac,rfl⟩:=H;refine iR (xs:=xs) (ys:=[e]) q1 (by rw[o];simp[nA]) (λz p=>by simp at p;subst p;exact L) (by rw[o];rfl) (by rw[o];intro _ h;cases h) p (by simp;omega) (λ_=>bT) λv j hm hb q=>?_;obtain⟨f,g1,ad,ai⟩:=ce.push u A q1 Q ab ac hx N hm hb q;exact h v j f g1 ad ai hb λi q=>by simp[q]
end
end
set_option linter.unusedVariables false
def ni{α:Type}(f:Nat->α)(k:Nat)(a b:α):eQ (eQ f k a) k b=eQ f k b:=by funext i;unfold eQ;split<;>rfl
def xl{A W D:List V}(h:W.length<=D.length):aQ (A++D) A.length W=A++(W++D.drop W.length):=by
 rw[ic (by rw[ae];omega),gN,List.drop_length_add_append,aF]
def Zf{A W C D:List V}(h:W.length+C.length<=D.length):aQ (aQ (A++D) (A.length+W.length) C) A.length W=A++(W++(C++D.drop (W.length+C.length))):=by
 have f:A++D=(A++D.take W.length)++D.drop W.length:=by rw[aF,b8]
 have a:(D.take W.length).length=W.length:=by rw[aG];omega
 have j:A.length+W.length=(A++D.take W.length).length:=by rw[ae,a]
 rw[f,j,xl (by rw[aS];omega),aF,xl (by simp only[ae,a];omega)];have l:(D.take W.length++(C++(D.drop W.length).drop C.length)).drop W.length=C++(D.drop W.length).drop C.length:=by
  rw[List.drop_append,a,iN,mY (c0 a)];rfl
 rw[l,dF]
def r9{h:aK}{id:Nat}{A C R:List V}(hb:h.box id=some (A++(C++R))):h.cells id A.length C.length=some C:=by
 unfold aK.cells;split
 next a=>rw[bH.1 a]
 .rw[hb];simp only;rw[ax (by simp only[ae];omega),fX,gN]
def ol{xs:List V}(i:Nat):b9 xs=b9 (xs.take i)++b9 (xs.drop i):=by rw[<-fU,b8]
def oY{zs:List V}{sz:Nat}(hz:zs.length=sz)(n:Nat):(kn n zs).length=n*sz:=by
 exact WU
def gu.mk{sz:Nat}{h:aK}{id c:Nat}{xs rest:List V}(a:lG sz xs)(dW:id<h.Y)(hb:h.box id=some (b9 xs++rest))(f:xs.length<=c)(j:rest.length=(c-xs.length)*sz)(n:Nat)(l:n=xs.length):gu sz h (.ms sz id 0 n c) xs:=
 ⟨a,.inr ⟨id,c,rest,by rw[l],dW,hb,f,j⟩⟩
section
variable {P:Program}{GL:Nat->Option (List V)}{d:Option Nat}{pu:Bool}{r:List BI}{K:St->Prop}{s:St}{x y:eL}{sz id off n c m:Nat}{src cells zs:List V}{fA:aK}
def sQ(l:s.E=fA)(hx:s.val x=.ms (sz+1) id off n c)(o:qo fA (sz+1) (s.val y)=some (m,src))(p:src.length=m*(sz+1))(hb:fA.box id=some cells)(hm:m<=n)(f:off+m*(sz+1)<=cells.length)
 (h:∀a,a.box=eQ fA.box id (some (aQ cells off src))->a.mp=fA.mp->a.Y=fA.Y->gA P GL d pu r s K (.int .i64 (m:Nat)) false a):(MX.copy (sz+1) x y).wp s (gA P GL d pu r s K):=by
 subst l;simp only[MX.wp,hx,na,bP,o,dM hm];by_cases j:m=0
 .subst j;rw[ax rfl];have e:src=[]:=bH.1 av;subst e;have e2:aQ cells off []=cells:=by rw[ic (by simpa using f)];simp
  exact PK
 .rw[al j];refine⟨cells,hb,f,?_⟩;rw[aE av];exact h _ rfl rfl rfl
def QL{QM:List V}(l:s.E=fA)(hx:s.val x=.ms (sz+1) id off n c)(o:qo fA (sz+1) (s.val y)=some (m,src))(p:n<=m)(q:src.take (n*(sz+1))=QM)(t:QM.length=n*(sz+1))(hb:fA.box id=some cells)(f:off+n*(sz+1)<=cells.length)
 (h:∀a,a.box=eQ fA.box id (some (aQ cells off QM))->a.mp=fA.mp->a.Y=fA.Y->gA P GL d pu r s K (.int .i64 (n:Nat)) false a):(MX.copy (sz+1) x y).wp s (gA P GL d pu r s K):=by
 subst l q;simp only[MX.wp,hx,na,bP,o,Nat.min_eq_right p];by_cases j:n=0
 .subst j;rw[ax rfl];have e2:aQ cells off (src.take (0*(sz+1)))=cells:=by rw[Nat.zero_mul,fi,ic (by simpa using f)];simp
  exact PK
 .rw[al j];exact⟨cells,hb,f,h _ rfl rfl rfl⟩
def EV(l:s.E=fA)(hx:s.val x=.ms (sz+1) id off n c)(o:zs.length=sz+1)(hb:fA.box id=some cells)(f:off+n*(sz+1)<=cells.length)
 (h:∀a,a.box=eQ fA.box id (some (aQ cells off (kn n zs)))->a.mp=fA.mp->a.Y=fA.Y->gA P GL d pu r s K (.hJ []) false a):(MX.clear (sz+1) zs x).wp s (gA P GL d pu r s K):=by
 subst l;simp only[MX.wp,hx,na,bP];by_cases j:n=0
 .subst j;rw[ax rfl];have e2:aQ cells off (kn 0 zs)=cells:=by rw[show kn 0 zs=[]from rfl,ic (by simpa using f)];simp
  exact PK
 .rw[al j];exact⟨cells,hb,f,h _ rfl rfl rfl⟩
def NU{k:Nat}{ys:List V}(o:s.E=fA)(hx:s.val x=.ms (sz+1) id 0 k c)(hy:nA (sz+1) (s.val y)=some ys)(u:lG (sz+1) ys)(WO:∀l,s.val y≠.str l)(hm:ys.length=m)(hb:fA.box id=some cells)(p:k+m<=c)(q:(k+m)*(sz+1)<=cells.length)(t:k+m<=1073741824)
 (h:∀a,a.box=eQ fA.box id (some (aQ cells (k*(sz+1)) (b9 ys)))->a.mp=fA.mp->a.Y=fA.Y->gA P GL d pu r s K (.ms (sz+1) id 0 (k+m) c) false a):(MX.wn (sz+1) zs x y).wp s (gA P GL d pu r s K):=by
 subst o hm;have f:qo s.E (sz+1) (s.val y)=some (ys.length,b9 ys):=by
  exact WN
 simp only[MX.wp,hx,na,bP,f,A6];refine⟨by unfold iv;omega,?_⟩;by_cases j:ys.length=0
 .rw[ax j];have e:ys=[]:=bH.1 j;subst e;have e2:aQ cells (k*(sz+1)) (b9 [])=cells:=by rw[show b9 []=[]from rfl,ic (by simpa using q)];simp
  exact PK
 .rw[al j,ax p];exact⟨cells,hb,av,by rw[cA];exact h _ rfl rfl rfl⟩
def JC{k:Nat}{xs rest:List V}(l:s.E=fA)(hx:s.val x=.ms (sz+1) id 0 k c)(o:xs.length=k)(p:lG (sz+1) xs)(q:s.val y=.int .i64 (m:Nat))(hb:fA.box id=some (b9 xs++rest))(hm:0<m)(t:c<k+m)(u:k+m<=1073741824)
 (h:∀a c',k+m<=c'->a.box=eQ fA.box fA.Y (some (b9 xs++kn m zs++kn (c'-(k+m)) zs))->a.mp=fA.mp->a.Y=fA.Y+1->gA P GL d pu r s K (.ms (sz+1) fA.Y 0 (k+m) c') false a):(MX.yW (sz+1) zs x y).wp s (gA P GL d pu r s K):=by
 subst l o;have f:=dV p;simp only[MX.wp,hx,na,bP,q,bX,A6];refine⟨av,by unfold iv;omega,by unfold iv;omega,?_⟩;rw[al av,al av];refine⟨b9 xs,?_,λc' j=>h _ c' j rfl rfl rfl⟩;have:=r9 (h:=s.E) (id:=id) (A:=[]) (C:=b9 xs) (R:=rest) hb;rw[aX,f]at this;exact this
def TE(h0:FU s.E sz (s.val x) (s.val y))(h:gA P GL d pu r s K (.bool false) false s.E):(MX.Wv sz x y).wp s (gA P GL d pu r s K):=⟨h0,h⟩
end
def rQ{o:Option Nat}{E:aK}:bA o E E:=⟨λ_ _ _=>rfl,λ_ _=>rfl,an _⟩
def bA.Ig{id:Nat}{c:List V}{E a:aK}(hb:a.box=eQ E.box id (some c))(hm:a.mp=E.mp)(d:a.Y=E.Y):bA (some id) E a:=
 ⟨λi _ h=>by rw[hb];exact bD _ _ (λe=>h (by rw[e])),λi _=>by rw[hm],c0 d.symm⟩
def bA.trans{o:Option Nat}{h f h2:aK}(a:bA o h f)(b:bA o f h2):bA o h h2:=
 ⟨λi d j=>(b.box i (bj d a.Y) j).trans (a.box i d j),λi d=>(b.mp i (bj d a.Y)).trans (a.mp i d),aT a.Y b.Y⟩
def Lt{A:List Nat}{is:List (List Nat)}{i n:Nat}{js rz:List Nat}(D:(A++is.flatten).Nodup)(hb:∀j∈A++is.flatten,j<n)(r:is[i]?=some js)(t:rz.Nodup)(h2:∀j∈rz,j∈js\/n<=j):
 (A++(is.set i rz).flatten).Nodup/\∀j∈A++(is.set i rz).flatten,j∈A++is.flatten\/n<=j:=by
 obtain⟨u,y⟩:=aH.1 r;have z:is=is.take i++js::is.drop (i+1):=by rw[<-y];simp
 have H:is.set i rz=is.take i++rz::is.drop (i+1):=by rw[gh,ax u]
 rw[H];generalize is.take i=X at*
 generalize is.drop (i+1)=Y at*
 subst z;simp only[fx,dl,<-aF]at D hb ⊢
 generalize A++X.flatten=P at*
 generalize Y.flatten=Q at*
 rw[aF]at D hb ⊢
 obtain⟨K,L,q⟩:=aO.1 D;obtain⟨ad,N,ab⟩:=aO.1 L;refine⟨aO.2 ⟨K,aO.2 ⟨t,N,λa f b d e=>?_⟩,λa f b d e=>?_⟩,λj ac=>?_⟩
 .rcases h2 a f with h|h
  .exact ab a h b d e
  .have:=hb b (by simp[d]);omega
 .rcases aN.1 d with o|o
  .rcases h2 b o with h|h
   .exact q a f b (by simp[h]) e
   .have:=hb a (by simp[f]);omega
  .exact q a f b (by simp[o]) e
 .rcases aN.1 ac with h|h
  .exact .inl (by simp[h])
  .rcases aN.1 h with h|h
   .rcases h2 j h with p|p
    .exact .inl (by simp[p])
    .exact .inr p
   .exact .inl (by simp[h])
section
variable {α:Type}{R:aK->V->α->List Nat->Prop}{sz:Nat}{h:aK}{v:V}{l:List α}{X:List Nat}
def ce.WA(ac:lP R)(aC:JA R)(T:ce sz R h v l X)(D:X.Nodup){i:Nat}(H:i<l.length):∃id c cells x js rest,v=.ms sz id 0 l.length c/\id<h.Y/\h.box id=some cells/\cells.drop (i*sz)=x.cells++rest/\(i+1)*sz<=cells.length/\jW sz x=true/\R h x l[i] js/\
 js.Nodup/\id∉js/\id∈X/\(∀j∈js,j∈X)/\
 (∀f x' a' rz,h.Y<=f.Y->f.box id=some (aQ cells (i*sz) x'.cells)->(∀j,j∈X->j≠id->j∉js->f.box j=h.box j)->jW sz x'=true->R f x' a' rz->rz.Nodup->(∀j∈rz,j∈js\/h.Y<=j)->
  ∃d,ce sz R f v (l.set i a') d/\d.Nodup/\∀j∈d,j∈X\/h.Y<=j)/\
 (∀f a' rz,h.Y<=f.Y->(∀j,j∈X->j∉js->f.box j=h.box j)->R f x a' rz->rz.Nodup->(∀j∈rz,j∈js\/h.Y<=j)->∃d,ce sz R f v (l.set i a') d/\d.Nodup/\∀j∈d,j∈X\/h.Y<=j):=by
 have hb:=ce.vF aC _ _ _ _ T;obtain⟨z,is,⟨ho,h1⟩,K,f,L,rfl⟩:=T;have hx:i<z.length:=av;have q:i<is.length:=av;have t:=(aO.1 D).2.1;rcases h1 with⟨_,rfl⟩|⟨id,c,rest,rfl,ad,N,aD,a0⟩
 .exact absurd hx (gQ _)
 have dW:∀(k:Nat) r,is[k]?=some r->∀j∈r,j≠id:=λk r o j a e=>(aO.1 D).2.2 id (by simp[bI]) j (hG o a) e.symm;have ai:is[i].Nodup:=by
  have h1:=t;rw[show is=is.take i++is[i]::is.drop (i+1)by simp]at h1;exact Xc
 have hm:gu sz h (.ms sz id 0 z.length c) z:=⟨ho,.inr ⟨id,c,rest,rfl,ad,N,aD,a0⟩⟩;have aA:=λrz=>Lt (rz:=rz) D hb (aa q);refine⟨id,c,_,z[i],is[i],_,by rw[K],ad,N,i7 ho hx rest,?_,ho _ (ah hx),L i _ _ _ (aa hx) (aa H) (aa q),ai,λa=>dW i _ (aa q) id a rfl,by simp[bI],λj a=>aU _ (hG (aa q) a),?_,?_⟩
 .exact T2
 .intro k x' a' rz P a1 A aB Q ab u;exact⟨_,ce.set ac hm K f L H rfl aB N a1 P (λm r y o j a=>⟨hb j (aU _ (hG o a)),A j (aU _ (hG o a)) (dW m r o j a) λp=>oW t (aa q) o y j a p⟩) Q,aA rz ab u⟩
 .intro k a' rz P A Q ab u;exact⟨_,ce.eQ ac hm K f L H (λj a=>A j (bV _ (by simp[a])) λp=>dW i _ (aa q) j p (by simpa[bI]using a.symm)) P (λm r y o j a=>⟨hb j (aU _ (hG o a)),A j (aU _ (hG o a)) λp=>oW t (aa q) o y j a p⟩) (aa hx) Q,aA rz ab u⟩
end
end Go.Bx
namespace Go.Bx
section
variable {GL:Nat->Option (List V)}{P:Program}
set_option linter.unusedVariables false
def uG{L:Array Bool}{i:Nat}{b:Bool}(h:i<L.size):(L.setIfInBounds i true).getD i b=true:=by
 simp[cL,hP,h]
def mD{L:Array Bool}{i j:Nat}{b:Bool}(h:j≠i):(L.setIfInBounds i true).getD j b=L.getD j b:=by
 simp[cL,hP,hY h]
def JD{L:Array Bool}{i:Nat}(h:i<L.size):L.getD i true=L.getD i false:=by
 simp[cL,h]
def xm{L:Array Bool}{i:Nat}(h:L.getD i true=false):i<L.size/\L.getD i false=false:=by
 rcases am i L.size with a|a
 .exact⟨a,by rw[<-JD a];exact h⟩
 .simp[cL,gM a]at h
def QN(l:List (BI×List Nat)):Bool:=(List.range l.length).all λk=>match l[k]? with|some x=>x.2.all λj=>decide (j<k)|none=>true
def U9(l:List (BI×List Nat))(m:Nat):Bool:=(List.range m).all λi=>(List.range (m+1)).any λk=>decide (i<k)&&(match l[k]? with|some x=>x.2.contains i|none=>false)
def QO(l:List (BI×List Nat))(m:Nat):Bool:=(List.range l.length).all λk=>decide (k<=m)||(match l[k]? with|some x=>x.2.contains (k-1)|none=>false)
def EW{l:List (BI×List Nat)}(h:QN l=true){k:Nat}{x:BI×List Nat}(hx:l[k]?=some x):∀j∈x.2,j<k:=by
 have a:=(aH.1 hx).1;have:=bO.1 h k (dm.2 a);simp only[hx,bO,cq]at this;exact this
def QP{l:List (BI×List Nat)}{m:Nat}(h:U9 l m=true){i:Nat}(d:i<m):∃k x,i<k/\k<=m/\l[k]?=some x/\i∈x.2:=by
 have:=bO.1 h i (dm.2 d);obtain⟨k,f,e⟩:=gv.1 this;rw[be,cq]at e;obtain⟨j,a⟩:=e;split at a
 next x hx=>exact⟨k,x,j,by have:=dm.1 f;omega,hx,by simpa using a⟩
 .cases a
def JE{l:List (BI×List Nat)}{m:Nat}(h:QO l m=true){k:Nat}{x:BI×List Nat}(f:m<k)(hx:l[k]?=some x):k-1∈x.2:=by
 have d:=(aH.1 hx).1;have:=bO.1 h k (dm.2 d);simp only[hx,ib,cq]at this;rcases this with a|a
 .omega
 .simpa using a
def set_tail{l:List (BI×List Nat)}{m:Nat}{K:St->Prop}(u:QO l m=true)(y:QN l=true):∀(r k:Nat)(L:Array Bool)(s:St),k+r=l.length->m<=k->L.size=l.length->(∀j,j<k->L.getD j false=true)->(∀j,k<=j->j<l.length->L.getD j true=false)->
 er P GL false ((l.drop k).map Prod.fst) s K->cS P GL l r L s K
 |0,k,L,s,ac,hm,z,a,o,d=>by
  refine⟨λi ⟨p,_⟩=>?_,?_⟩
  .obtain⟨A,q⟩:=xm p;rw[a i av]at q;cases q
  .rw[cT av]at d;exact d
 |r+1,k,L,s,ac,hm,z,a,o,d=>by
  have f:k<l.length:=av;have D:YJ l L k:=⟨o k (an _) f,_,aa f,λj t=>a j (EW y (aa f) j t)⟩;rw[bG f,bt]at d;refine⟨λh=>absurd D (h k),λi x ⟨p,aB,ad,A⟩ hx=>?_⟩;obtain⟨q,H⟩:=xm p;have N:i=k:=by
   rcases Nat.lt_trichotomy i k with h|h|h
   .rw[a i h]at H;cases H
   .exact h
   .exfalso;have ai:=A _ (JE u av ad);rcases am (i-1) k with Q|Q
    .omega
    .have:=(xm (o (i-1) Q av)).2;rw[ai]at this;cases this
  subst N;rw[aa f]at hx;cases hx;refine gW d λaA R=>set_tail u y r (i+1) _ aA av av (by simpa using z) (λj t=>?_) (λj t ab=>?_) R
  .by_cases e:j=i
   .subst e;exact uG av
   .rw[mD e];exact a j av
  .rw[mD av];exact o j av ab
def NV{l:List (BI×List Nat)}{p:St}{K:St->Prop}(m:Nat)(val:Nat->V)(d:Nat->Nat)(B:St->Prop)(hm:m<l.length)(a6:QN l=true)(E:U9 l m=true)(bu:QO l m=true)
 (hinj:∀i j,i<m->j<m->d i=d j->i=j) (c5:B p)
 (aA:∀(i:Nat)(b:BI)(ds:List Nat)(s:St),i<m->l[i]?=some (b,ds)->B s->(∀j∈ds,s.Z (d j)=val j)->(∀t,(∀j,j<m->d j≠t)->s.Z t=p.Z t)->s.Z (d i)=p.Z (d i)->
  dq P GL false b s λs'=>B s'/\s'.Z (d i)=val i/\∀t,t≠d i->s'.Z t=s.Z t)
 (a7:∀s:St,B s->(∀j,j<m->s.Z (d j)=val j)->(∀t,(∀j,j<m->d j≠t)->s.Z t=p.Z t)->er P GL false ((l.drop m).map Prod.fst) s K):
 cS P GL l l.length (Array.replicate l.length false) p K:=by
 have go:∀(u:Nat)(U:List Nat)(L:Array Bool)(s:St),U.length=u->U.Nodup->(∀j∈U,j<m)->L.size=l.length->(∀j,j<m->(L.getD j false=true↔j∉U))->(∀j,m<=j->j<l.length->L.getD j true=false)->
  (∀i x,l[i]?=some x->L.getD i false=true->∀j∈x.2,L.getD j false=true)->B s->(∀j,j<m->j∉U->s.Z (d j)=val j)->(∀t,(∀j,j<m->d j≠t)->s.Z t=p.Z t)->(∀j∈U,s.Z (d j)=p.Z (d j))->cS P GL l (l.length-m+u) L s K:=by
  intro u;induction u with
  |zero=>
   intro U L s D _ _ aB q aC _ N aD a0 _;obtain rfl:=bH.1 D;refine set_tail bu a6 (l.length-m) m L s av (an _) aB (λj f=>(q j f).2 bT) aC (a7 s N (λj f=>aD j f bT) a0)
  |succ u ih=>
   intro U L s D Q z aB q aC bv N aD a0 R;have bY:∀j,j∈U->L.getD j true=false:=λj f=>by
    have o:j<L.size:=by rw[aB];have:=z j f;omega
    rw[JD o];cases e:L.getD j false with
    |false=>rfl
    |true=>exact absurd f ((q j (z j f)).1 e)
   refine⟨λh=>?_,λi x ⟨c6,c7,H,a1⟩ hx=>?_⟩
   .exfalso;have a2:U≠[]:=by rintro rfl;cases D
    obtain⟨i,a8,a9⟩:∃i∈U,∀j∈U,i<=j:=by
     have c9:∀(V:List Nat),V≠[]->∃i∈V,∀j∈V,i<=j:=by
      intro V;induction V with
      |nil=>intro h;exact absurd rfl h
      |cons a r b2=>
       intro _;by_cases b3:r=[]
       .subst b3;exact⟨a,bT,bT⟩
       .obtain⟨i,ab,ac⟩:=b2 b3;rcases Nat.le_total a i with ad|ad
        .exact⟨a,bT,λj f=>by
          rcases bn.1 f with rfl|f
          .exact an _
          .exact aT ad (ac j f)⟩
        .exact⟨i,by simp[ab],λj f=>by
          rcases bn.1 f with rfl|f
          .exact ad
          .exact ac j f⟩
     exact c9 U a2
    have a3:i<l.length:=by have:=z i a8;omega
    refine h i ⟨bY i a8,_,aa a3,λj f=>?_⟩;have b5:=EW a6 (aa a3) j f;exact(q j (by have:=z i a8;omega)).2 λai=>by have:=a9 j ai;omega
   .rw[H]at hx;obtain rfl:=ar hx;obtain⟨b6,b7⟩:=xm c6;have A:i<m:=by
     refine cM λdf=>?_;have ca:i=m:=by
      refine cM λa2=>?_;have ac:=a1 _ (JE bu (by omega) H);have:=(xm (aC (i-1) (by omega) (by omega))).2;rw[ac]at this;cases this
     subst ca;have all:∀n j,j<i->i-j<=n->L.getD j false=true:=by
      intro n;induction n with
      |zero=>intro j ab ac;omega
      |succ n cb=>
       intro j f dr;obtain⟨k,y,dE,dU,bi,cc⟩:=QP E f;rcases am k i with ab|ab
       .exact bv k y bi (cb k ab (by omega)) j cc
       .obtain rfl:k=i:=by omega
        rw[H]at bi;obtain rfl:=ar bi;exact a1 j cc
     cases a4:U with
     |nil=>rw[a4]at D;cases D
     |cons a r=>
      have bl:a∈U:=by rw[a4];simp
      exact(q a (z a bl)).1 (all i a (z a bl) (by omega)) bl
    have a5:i∈U:=cM λch=>by rw[(q i A).2 ch]at b7;cases b7
    obtain⟨b,ds⟩:=c7;refine gW (aA i b ds s A H N (λj f=>?_) a0 (R i a5)) λs' ⟨q1,dd,bo⟩=>?_
    .have b5:=EW a6 H j f;exact aD j av ((q j av).1 (a1 j f))
    .refine ih (U.erase i) _ s' (by rw[List.length_erase_of_mem a5,D];rfl) (Q.erase i) (λj f=>z j (List.mem_of_mem_erase f)) (by simpa using aB) (λj f=>?_) (λj f o=>?_) (λk y bs ci j f=>?_) q1 (λj f ai=>?_) (λt cp=>?_) (λj f=>?_)
     .by_cases e:j=i
      .subst e;simp only[uG b6,true_iff];exact λh=>(Q.mem_erase_iff.1 h).1 rfl
      .rw[mD e,q j f,Q.mem_erase_iff];simp[e]
     .rw[mD av];exact aC j f o
     .by_cases e:j=i
      .subst e;exact uG b6
      .rw[mD e];by_cases c1:k=i
       .subst c1;rw[H]at bs;cases bs;exact a1 j f
       .rw[mD c1]at ci;exact bv k y bs ci j f
     .by_cases e:j=i
      .subst e;exact dd
      .rw[bo _ (λh=>e (hinj j i f A h))];exact aD j f λh=>ai (Q.mem_erase_iff.2 ⟨e,h⟩)
     .rw[bo t (λh=>cp i A h.symm)];exact a0 t cp
     .have o:=Q.mem_erase_iff.1 f;rw[bo _ (λh=>o.1 (hinj j i (z j o.2) A h))];exact R j o.2
 have:=go m (List.range m) (Array.replicate l.length false) p bT List.nodup_range (λj f=>dm.1 f) bT
  (λj f=>by simp[cL,iL,f,(show j<l.length by omega)])
  (λj f o=>by simp[cL,iL,o])
  (λi x hx h=>by simp[cL,iL]at h;split at h<;>simp at h)
  c5 (λj f c2=>absurd (dm.2 f) c2) (λ_ _=>rfl) (λ_ _=>rfl)
 rwa [Nat.sub_add_cancel (kY hm)]at this
def uH(P:Program)(GL:aj)(m:Nat)(val:Nat->V)(d:Nat->Nat)(B:St->Prop)(a:St):Nat->List (BI×List Nat)->Prop
 |_,[]=>True
 |i,x::r=>(∀s:St,B s->(∀j∈x.2,s.Z (d j)=val j)->(∀t,(∀j,j<m->d j≠t)->s.Z t=a.Z t)->s.Z (d i)=a.Z (d i)->
  er P GL false [x.1] s λf=>B f/\f.Z (d i)=val i/\∀t,t≠d i->f.Z t=s.Z t)/\uH P GL m val d B a (i+1) r
def uH.at{m:Nat}{val:Nat->V}{d:Nat->Nat}{B:St->Prop}{a:St}:∀{l:List (BI×List Nat)} {k:Nat},uH P GL m val d B a k l->∀(i:Nat)(b:BI)(ds:List Nat),l[i]?=some (b,ds)->∀s:St,B s->(∀j∈ds,s.Z (d j)=val j)->(∀t,(∀j,j<m->d j≠t)->s.Z t=a.Z t)->s.Z (d (k+i))=a.Z (d (k+i))->
 dq P GL false b s λs'=>B s'/\s'.Z (d (k+i))=val (k+i)/\∀t,t≠d (k+i)->s'.Z t=s.Z t
 |[],_,_,i,b,ds,h=>by simp at h
 |x::r,k,h,0,b,ds,hx=>by
  simp at hx;obtain⟨f,_⟩:=h;subst hx;exact f
 |x::r,k,h,i+1,b,ds,hx=>by
  have:=uH.at h.2 i b ds (by simpa using hx)
  rwa [cn,Nat.add_comm 1 i]at this
def DL{l:List (BI×List Nat)}{a:St}{st:List Fr}{K:Ex->St->Prop}(m:Nat)(val:Nat->V)(d:Nat->Nat)(B:St->Prop)(hm:m<l.length)(p:QN l=true)(E:U9 l m=true)(q:QO l m=true)
 (hinj:∀i j,i<m->j<m->d i=d j->i=j) (r:B a) (f:uH P GL m val d B a 0 (l.take m))
 (o:∀s:St,B s->(∀j,j<m->s.Z (d j)=val j)->(∀t,(∀j,j<m->d j≠t)->s.Z t=a.Z t)->er P GL false ((l.drop m).map Prod.fst) s (run P GL st K .normal)):
 vc P GL (.set l) a (run P GL st K):=by
 show cS P GL l l.length (Array.replicate l.length false) a (run P GL st K .normal);refine NV m val d B hm p E q hinj r (λi b u s y hx z A D H=>?_) o;have:=f.at i b u (by rw[dB,ax y];exact hx) s z A D (by rw[cA];exact H)
 rwa [cA]at this
end
open Go.Proofs Go.Proofs.Tryz
attribute [local irreducible] vc er dq b4 bU run iw iI iW i1 iG i2 iX iq iH iZ gA iY cS
def oZ(a b:ID):af 70 [a.v,b.v] (B (decide (a=b))):=by
 obtain⟨d,f,j⟩:=a;obtain⟨l,o,p⟩:=b;refine pk f70 ?_;repeat' first|simp only[dt,simprocAttr]|refine c8 ?_ ?_<;>intro h<;>(try simp only[bM]at h)<;>(try simp only[h])<;>try simp only[jg]at h|apply qD rfl rfl
 all_goals exact ak (aq V.bool (by rw[db];simp<;>omega))
def tH(a b:ID):Bool:=if a.J≠b.J then a.J<b.J else if a.seq≠b.seq then a.seq<b.seq else a.k<b.k
def JF(a b:ID):af 170 [a.v,b.v] (B (tH a b)):=by
 refine pk f170 ?_;repeat' first|refine k7 ?_|refine cs ?_ ?_<;>intro h|refine q1 ?_
 all_goals exact ak (aq V.bool (by simp_all[tH]))
def NW(a b:cI):af 69 [a.v,b.v] (B (decide (a=b))):=by
 obtain⟨d,f⟩:=a;obtain⟨j,l⟩:=b;refine pk f69 ?_;repeat' first|simp only[dt,simprocAttr]|refine gs ?_ ?_<;>intro h<;>try simp only[h,dtf]|refine lq (oZ d j) ?_|refine lq (oZ f l) ?_|refine q1 ?_
 all_goals exact ak (aq V.bool (by simp_all))
def kb(a b:cI):Bool:=if a.from_≠b.from_ then tH a.from_ b.from_ else tH a.to b.to
def QQ(a b:cI):af 112 [a.v,b.v] (B (kb a b)):=by
 refine pk f112 ?_;repeat' first|refine k7 ?_|refine cs ?_ ?_<;>intro h|refine lq (oZ a.from_ b.from_) ?_|refine lq (JF a.from_ b.from_) ?_|refine lq (JF a.to b.to) ?_|refine q1 ?_
 all_goals exact ak (aq V.bool (by simp_all[kb]))
def Va(l:List ID)(a:ID)(o:l.length<=1000000000):af 68 [eW l,a.v] (B (decide (a∈l))):=by
 refine pk f68 ?_;repeat' simp only[dt,simprocAttr]
 refine sl (λk:Nat=>k<=l.length/\a∉l.take k) (λk=>[(5,I k,false)]) (λk=>l.length-k) (0) (⟨bT,bT⟩) ?_;rintro k ⟨p,d⟩;rcases am k l.length with j|j
 .repeat' first|refine qp ?_|refine cs ?_ ?_<;>intro h<;>try omega|refine ba (k+1) ?_|refine lq (oZ l[k] a) ?_|refine q1 ?_
  .exact ak (aq V.bool (by subst h;simp))
  .exact⟨av,by rw[br j];simp only[aN,aR];rintro(f|f);exact d f;exact h f.symm⟩
 .repeat' first|refine k7 ?_|refine cs ?_ ?_<;>intro h<;>try omega|refine q1 ?_
  exact ak (aq V.bool (by rw[aE av]at d;simp[d]))
def JG(a b:List ID)(f:a.length<=1000000000):af 176 [eW a,eW b] (B (decide (a=b))):=by
 refine pk f176 ?_;repeat' first|refine k7 ?_|refine cs ?_ ?_<;>intro h|refine q1 ?_
 .exact Us
 have d:a.length=b.length:=av;refine sl (λk:Nat=>k<=a.length/\a.take k=b.take k) (λk=>[(5,I k,false)]) (λk=>a.length-k) (0) (⟨bT,bT⟩) ?_;rintro k ⟨j,he⟩;rcases am k a.length with h1|h1
 .have h2:k<b.length:=av;repeat' first|refine qp ?_|refine cs ?_ ?_<;>intro h<;>try omega|refine ba (k+1) ?_|refine lq (oZ a[k] b[k]) ?_|refine q1 ?_
  .exact Yo
  .exact MG
 .repeat' first|refine k7 ?_|refine cs ?_ ?_<;>intro h<;>try omega|refine q1 ?_
  exact wc7
def QR(a b:aJ)(d:a.C.length<=1000000000):af 174 [a.v,b.v] (B (decide (a=b))):=by
 obtain⟨f,q,r,t,j⟩:=a;obtain⟨l,u,y,z,o⟩:=b;refine pk f174 ?_;repeat' first|simp only[dt,simprocAttr]|refine gz ?_ ?_<;>intro p h<;>try simp only[p]|refine lq (oZ f l) ?_|refine lq (JG j o d) ?_|refine q1 ?_
 all_goals exact ak (aq V.bool (by simp_all))
def Vb(a b:List cI)(f:a.length<=1000000000):af 16 [hE a,hE b] (B (decide (a=b))):=by
 refine pk f16 ?_;repeat' first|refine k7 ?_|refine cs ?_ ?_<;>intro h|refine q1 ?_
 .exact Us
 have d:a.length=b.length:=av;refine sl (λk:Nat=>k<=a.length/\a.take k=b.take k) (λk=>[(5,I k,false)]) (λk=>a.length-k) (0) (⟨bT,bT⟩) ?_;rintro k ⟨j,he⟩;rcases am k a.length with h1|h1
 .have h2:k<b.length:=av;repeat' first|refine qp ?_|refine cs ?_ ?_<;>intro h<;>try omega|refine ba (k+1) ?_|refine lq (NW a[k] b[k]) ?_|refine q1 ?_
  .exact Yo
  .exact MG
 .repeat' first|refine k7 ?_|refine cs ?_ ?_<;>intro h<;>try omega|refine q1 ?_
  exact wc7
end Go.Bx
namespace Go.Bx
open Go.Proofs Go.Proofs.Tryz Go.ChangeShapes
def nm(i:Nat):String:=((prog.globals[i]?).map (·.name)).getD ""
def g0:prog.globalNamed (nm 0)=some 0:=by kernel_rfl
def g1:prog.globalNamed (nm 1)=some 1:=by kernel_rfl
def g0t:(prog.globals[0]?).map (·.type)=some 24:=by kernel_rfl
def g1t:(prog.globals[1]?).map (·.type)=some 327:=by kernel_rfl
def c3:prog.cellsOf 3=1:=by kernel_rfl
def c4:prog.cellsOf 4=1:=by kernel_rfl
def c24:prog.cellsOf 24=3:=by kernel_rfl
def Zg:prog.cellsOf 326=9:=by kernel_rfl
def abi:prog.cellsOf 327=90:=by kernel_rfl
def wu:List (List Bool):=[[false,false,false,false,false,false,false,false,false],[false,false,true,false,false,false,true,false,false],[false,false,true,true,false,true,true,false,true],[true,false,false,false,false,false,false,false,false],[true,false,false,false,true,false,false,false,false],[true,false,false,false,false,false,false,false,false],[true,false,true,true,false,false,false,false,false],[true,true,false,false,false,false,false,false,false],[true,false,false,false,true,false,false,true,true],[true,false,false,false,false,false,false,false,true]]
section
variable {H:Type}{enc:TypeId×Value->H}{w:World}{base:Nat}{sp:Nat->Bool}{held:Bool}
def y6:DataW H->Value
 |.lit (.bool b)=>.bool b
 |.lit (.int k n)=>.int k n
 |_=>.nilFunc
def Zh{fuel:Nat}{cs:List Value}{x:DataW H×List MemPlace}(h:DataW.trod enc prog w base sp held fuel 3 cs=some x):cs=[y6 x.1]:=by
 obtain⟨m,a,d,_⟩:=DataW.trod_int underlying3 h;rw[a,d];rfl
def Zi{fuel:Nat}{cs:List Value}{x:DataW H×List MemPlace}(h:DataW.trod enc prog w base sp held fuel 4 cs=some x):cs=[y6 x.1]:=by
 cases fuel with
 |zero=>simp[DataW.trod]at h
 |succ fuel=>
  simp only[DataW.trod,underlying4]at h;split at h<;>simp_all;subst h;rfl
def y8{fuel:Nat}{cs:List Value}{ds:List (DataW H)}{p:List MemPlace}{t tb:TypeId}{fs:List Field}(q:prog.underlying t=some (.struct fs.toArray))(r:prog.cellsOf t=fs.length)(hb:prog.cellsOf tb=1)
 (u:∀(i:Nat) f,fs[i]?=some f->f.offset=i/\f.type=tb) (leaf:∀(fuel:Nat)(cs:List Value)(x:DataW H×List MemPlace),DataW.trod enc prog w base sp held fuel tb cs=some x->cs=[y6 x.1])
 (h:DataW.trod enc prog w base sp held fuel t cs=some (.agg ds,p)):cs=ds.map y6:=by
 cases fuel with
 |zero=>simp[DataW.trod]at h
 |succ fuel=>
  simp only[DataW.trod,q,r]at h;split at h
  next L=>
   obtain⟨d,hm,hx⟩:=bS.1 h;have j:d.map (·.1)=ds:=by
    have:=aq Prod.fst hx;simpa using this
   have K:d.length=fs.length:=by simpa using Lib.mapM_length hm
   apply iU;intro i;rw[<-j];by_cases l:i<fs.length
   .obtain⟨b,o,a⟩:=Lib.mapM_at hm i fs[i] (by simp[l]);obtain⟨y,z⟩:=u i fs[i] (by simp[l]);rw[y,z,hb]at a;have A:=leaf _ _ _ a;have D:cs[i]?=some (y6 b.1):=by
     have:=aq (·[0]?) A;simpa[dB,cY]using this
    rw[D,bw,bw,o];rfl
   .rw[b1 (by omega),b1 (by simp;omega)]
  .cases h
def Ih{fuel:Nat}{cs:List Value}{ds:List (DataW H)}{p:List MemPlace}(h:DataW.trod enc prog w base sp held fuel 24 cs=some (.agg ds,p)):cs=ds.map y6:=
 y8 (fs:=[{name:= "By",type:=3,offset:=0,embedded:=false,tag:= "",pkgPath:= "",byteOffset:=0},{name:= "Seq",type:=3,offset:=1,embedded:=false,tag:= "",pkgPath:= "",byteOffset:=8},{name:= "K",type:=3,offset:=2,embedded:=false,tag:= "",pkgPath:= "",byteOffset:=16}]) underlying24 c24 c3
  (λi f a=>by match i with|0|1|2=>cases a;exact⟨rfl,rfl⟩|i+3=>cases a) (λ_ _ _=>Zh) h
def Lu:∃fs:List Field,prog.underlying 326=some (.struct fs.toArray)/\fs.length=9/\∀(i:Nat) f,fs[i]?=some f->f.offset=i/\f.type=4:=by
 refine⟨_,underlying326,rfl,λi f a=>?_⟩
 match i with
 |0|1|2|3|4|5|6|7|8=>cases a;exact⟨rfl,rfl⟩
 |i+9=>cases a
def QS{fuel:Nat}{cs:List Value}{ds:List (DataW H)}{p:List MemPlace}(h:DataW.trod enc prog w base sp held fuel 326 cs=some (.agg ds,p)):cs=ds.map y6:=by
 obtain⟨j,a,d,f⟩:=Lu;exact y8 a (by rw[d];exact Zg) c4 f (λ_ _ _=>Zi) h
def abj(cs:List Value)(m:Nat):∀n,cs.length=n*m->(List.range n).flatMap (λi=>(cs.drop (i*m)).take m)=cs:=by
 have:∀k,(List.range k).flatMap (λi=>(cs.drop (i*m)).take m)=cs.take (k*m):=by
  intro k;induction k with
  |zero=>simp
  |succ k ih=>rw[dX,cx,ih,dG,List.take_add];simp
 intro n h;rw[this,aE (by omega)]
def NY{α:Type}(l:List α):(List.range l.length).flatMap (λj=>(l[j]?).toList)=l:=by
 have:∀k,k<=l.length->(List.range k).flatMap (λj=>(l[j]?).toList)=l.take k:=by
  intro k;induction k with
  |zero=>simp
  |succ k ih=>
   intro h;have a:k<l.length:=h;rw[dX,cx,ih (by omega),iu a];simp[a]
 rw[this _ (an _),bg]
def NZ{fuel:Nat}{cs:List Value}{bss:List (List Bool)}{p:List MemPlace}(h:DataW.trod enc prog w base sp held fuel 327 cs=some (.agg (bss.map λa=>.agg (a.map λb=>.lit (.bool b))),p)):cs=bss.flatMap λa=>a.map Value.bool:=by
 cases fuel with
 |zero=>simp[DataW.trod]at h
 |succ fuel=>
  simp only[DataW.trod,underlying327,abi,Zg]at h;split at h
  next r=>
   obtain⟨f,hm,hx⟩:=bS.1 h;have d:f.map (·.1)=bss.map λa=>(.agg (a.map λb=>.lit (.bool b)):DataW H):=by
    have:=aq Prod.fst hx;simpa using this
   have t:f.length=10:=by simpa using Lib.mapM_length hm
   have j:bss.length=10:=by have:=aq List.length d;simp at this;omega
   rw[<-abj cs 9 10 r,<-NY bss,j,List.flatMap_assoc];rw[List.flatMap_def,List.flatMap_def];congr 1;refine kh λi l=>?_;rw[dm]at l;obtain⟨b,hb,o⟩:=Lib.mapM_at hm i i (by simp[l]);have q:(f.map (·.1))[i]?=some b.1:=by simp[hb]
   rw[d,bw,aa (by omega)]at q;have e:b=(.agg (bss[i].map λb=>.lit (.bool b)),b.2):=by
    obtain⟨u,y⟩:=b;have:=ar q;simp only at this;rw[<-this]
   rw[e]at o;rw[QS o,aa (by omega)];simp[y6,Function.comp_def]
  .cases h
end
end Go.Bx
namespace Go.Bx
open Go.Proofs Go.Proofs.Tryz Go.Proofs.YtmbahmpbmcfifaaGreatDoor Go.ChangeShapes Go.WideShapes Go.ChangeAt Go.RowKit
def Gd{W:World}(h:laidMetH prog Rows.historyOrderRow.laid W):∀n cells,GL n=some cells->VR (mI W) (.ep cells) (.pointer (some ⟨n,0,none⟩)):=by
 obtain⟨ab,⟨ac,ad,cs,fuel,p,q,y,z,A,D,⟨ai,aA,R,u,aB,aC,l,o,r,t,_,_⟩,_⟩,_⟩:=h;obtain rfl:=ar (g0.symm.trans y);obtain rfl:=ar (g0t.symm.trans z);obtain rfl:=ar (g1.symm.trans l);obtain rfl:=ar (g1t.symm.trans o);have H:=Ih D;have K:=NZ (bss:=wu) t;intro n cells a;unfold GL at a;split at a
 next L=>
  subst L;cases a;have key:∀j,W.cell? ⟨0,j,none⟩=([.int .i64 (-1),.int .i64 0,.int .i64 0]:List Value)[j]?:=λj=>by
   have:=World.var?_cell g0 A j;rw[show W.cell? ⟨0,j,none⟩=_ from this,<-dh,H];rfl
  refine NS (λj=>([.int .i64 (-1),.int .i64 0,.int .i64 0]:List Value).getD j .nilFunc) (λj d=>?_) (λj c e=>?_) (λj c e=>?_)
  .match j,d with
   |0,_=>exact key 0
   |1,_=>exact key 1
   |2,_=>exact key 2
  .match j with
   |0|1|2=>cases e;rfl
   |j+3=>cases e
  .match j with
   |0|1|2=>cases e;exact .int _ _
   |j+3=>cases e
 .split at a
  next N=>
   subst N;cases a;have P:NH=wu.flatten.map V.bool:=by kernel_rfl
   have Q:(wu.flatMap λf=>f.map Value.bool)=wu.flatten.map Value.bool:=by kernel_rfl
   have key:∀j,W.cell? ⟨1,j,none⟩=(wu.flatten.map Value.bool)[j]?:=λj=>by
    have:=World.var?_cell g1 r j;rw[show W.cell? ⟨1,j,none⟩=_ from this,<-dh,K,Q]
   rw[P];generalize wu.flatten=f at*
   refine NS (λj=>.bool (f.getD j false)) (λj d=>?_) (λj c e=>?_) (λj c e=>?_)
   .rw[au]at d;rw[key j,bw,ap,aa d];rfl
   .rw[bw]at e;obtain⟨b,_,rfl⟩:=bS.1 e;rfl
   .rw[bw]at e;obtain⟨b,hb,rfl⟩:=bS.1 e;rw[ap,hb];exact .bool _
  .cases a
def EX:∀n cells,GL n=some cells->(V.ep cells).free=true:=by
 intro n cells a;unfold GL at a;split at a
 .cases a;rfl
 .split at a
  .cases a;kernel_rfl
  .cases a
def Lv{w w':World}{g':aY}(h:Step (mI w) w g' w'):Below w.heap.size w w':=
 ⟨h.gY.os,h.gY.tape,h.gY.out,h.size,(NR h).1⟩
def EY{w w':World}(h:Below w.heap.size w w'){a:Addr}(d:a.block<w.heap.size):w'.frozen? a=w.frozen? a:=by
 unfold World.frozen?;rw[h.block _ d]
def CZ{H:Type}{enc:TypeId×Value->H}{P:Program}{f:Func}{s:ChangeSpec}{apart fresh handsOn again:Bool}{W o:World}{args:Array Value}{v:Value}{ds gs:List (DataW H)}{before pa pv:List MemPlace}
 (u:DataW.Whole enc P f.params.toList s.vars apart W args.toList ds gs before)
 (q:∀(b:Nat)(sp:Nat->Bool)(D:Bool),DataW.TrodAll enc P o b sp D f.resultTypes.toList (v.resultList f.resultTypes.size) (s.fn H (ds++gs)).results [])
 (a:∀sp:Nat->Bool,(∀p∈before,sp p.block=true)->DataW.TrodAll enc P o 0 sp true f.params.toList args.toList (s.fn H (ds++gs)).args pa)
 (d:∀sp:Nat->Bool,(∀p∈before,sp p.block=true)->DataW.TrodVars enc P o sp s.vars (s.fn H (ds++gs)).vars pv)
 (l:before=pa++pv) (hb:Below W.heap.size W o)
 (z:∀(j:Nat)(t:TypeId)(r:Value),f.resultTypes[j]?=some t->(v.resultList f.resultTypes.size)[j]?=some r->Value.okWide P o .any 0 t r):
 s.post enc P f apart fresh handsOn again W args v o:=by
 have hold:∀p∈before,(λb=>decide (b<W.heap.size)) p.block=true:=λp E=>by simpa using u.lt p E
 have A:∀p∈before,p.block<W.heap.size:=λp E=>by simpa using u.lt p E
 refine⟨ds,gs,before,[],pa,pv,u,q _ _ _,a _ hold,d _ hold,World.keptBut_mono (λp E=>⟨E,?_⟩) (hb.frame (· ∈before)),λ_=>?_⟩
 .rw[l,aN]at E;exact Or.inr E
 .obtain⟨_,_,_,_,_,K,L⟩:=u;refine⟨z,_,_,([]++pa)++pv,⟨[]++pa,pv,trodAll_append (a _ (λ_ _=>rfl)) (q _ _ _),d _ (λ_ _=>rfl),rfl,?_,?_⟩,?_⟩
  .intro b off E;have y:MemPlace.cell b off∈before:=by rw[l];simpa using E
   rw[EY hb (A _ y)];exact K b off y
  .intro N;have:=L N;rw[l]at this;simpa using this
  .intro p E _;rw[l];simpa using E
def N0:laidOutB prog=true:=by kernel_rfl
def zR(walk:∀(a:List Int)(b:Int),(∀n∈a,-9223372036854775808<=n/\n<=9223372036854775807)->(-9223372036854775808<=b/\b<=9223372036854775807)->af 6 [fq a,I b] (B true))(H:Type)(enc:TypeId×Value->H)(W:World)(base:Nat)(args:Array Value)(ds gs:List (DataW H))(before:List MemPlace)
 (d:∀(j:Nat) t v,f6.params[j]?=some t->args[j]?=some v->Value.okWide prog W .any base t v)
 (N:DataW.Whole enc prog f6.params.toList Rows.historyBeginsSpec.vars false W args.toList ds gs before) (a4:laidMetH prog Rows.historyBeginsRow.laid W):
 Calls prog 6 args W λe z=>∃v,e=.returned v/\Rows.historyBeginsSpec.post enc prog f6 false true false false W args v z:=by
 have l:=N;obtain⟨p,q,Q,a5,rfl,bu,bv⟩:=N;have R:DataW.TrodAll enc prog W 0 (λ_=>true) true f6.params.toList args.toList ds p:=Q;rw[Tryz.params6]at R d;obtain⟨ab,bY,d0,b2,ac,b7,a3,rfl,rfl,ad,a6⟩:=trodAll_cons R;obtain⟨D,b3,ca,b5,cb,q1,rfl,rfl,rfl,ai,a7⟩:=trodAll_cons a6;obtain⟨rfl,rfl,rfl⟩:=trodAll_nil a7;obtain rfl:args=#[ab,D]:=by cases args;simp_all
 obtain⟨rfl,rfl⟩:=trodVars_none a5;have cc:=open_int underlying3 (d 1 3 D rfl rfl) ai;obtain⟨fuel,a8⟩:=id ad;obtain⟨K,len,cap,rfl⟩:=okWide_slice underlying22 (d 0 22 ab rfl rfl);obtain⟨L,rfl,rfl,rfl,aA⟩:=open_int underlying3 (d 1 3 D rfl rfl) ai;have aB:∀n:Int,(Lit.int .i64 n).wf=true-> -9223372036854775808<=n/\n<=9223372036854775807:=λn h=>by
  have u:IntKind.i64.min= -9223372036854775808:=by decide
  have A:IntKind.i64.max=9223372036854775807:=by decide
  simpa[Lit.wf,u,A]using h
 have aC:=ad;simp only[cD]at l;have aD:∀x∈ac,x.block<W.heap.size:=λx hx=>by simpa using l.lt x hx
 have fin:∀(zs:List Int),(∀n∈zs,-9223372036854775808<=n/\n<=9223372036854775807)->VR (mI W) (fq zs) (.slice K len cap)->Calls prog 6 #[.slice K len cap,.int .i64 L] W λe z=>∃v,e=.returned v/\Rows.historyBeginsSpec.post enc prog f6 false true false false W #[.slice K len cap,.int .i64 L] v z:=by
  intro zs a0 a9;refine(walk zs L a0 (aB _ aA)).2.2 (mI W) W _ (If (Gd a4) EX rfl ?_) _ ?_
  .intro j v x u A
   match j with
   |0=>cases u;cases A;exact a9
   |1=>cases u;cases A;exact .int _ _
   |j+2=>cases u
  .rintro r x o b6 ch z ⟨rfl,rfl⟩ out;have hx:x=.bool true:=by cases out.res;rfl
   subst hx;have hb:=Lv out.step;have wf:∀n:Int,(Lit.int .i64 n).wf=true->(Lit.int .i64 n).wf=true:=λ_ h=>h;refine⟨_,rfl,CZ (pa:=ac++([]++[])) (pv:=[]) l ?_ ?_ ?_ (by simp) hb ?_⟩
   .exact λ_ _ _=>trodAll_cons_mk (shut_bool underlying4 _) trodAll_mk0
   .intro sp y;have bi:=WideElems.Trod_stays (P:=prog) N0 (by kernel_rfl) (lu (by kernel_rfl)) aC (λx hx=>hb.same (aD x hx)) (sp':=sp) (λx hx=>y x (by simpa using hx));exact trodAll_cons_mk bi (trodAll_cons_mk (shut_int underlying3 aA) trodAll_mk0)
   .exact λ_ _=>rfl
   .exact ok_one (by kernel_rfl) rfl (okWide_bool_mk underlying4 _)
 rcases open_ints underlying22 underlying3 c3 a8 with⟨f,hx⟩|⟨a,bl,bo,zs,f,_,ci,hm,bs,hx,iK,a1⟩
 .simp[Value.cells]at f;obtain⟨rfl,rfl,rfl⟩:=f;exact fin [] (λn h=>by cases h) (.slnil 1)
 .simp[Value.cells]at f;obtain⟨rfl,rfl,rfl⟩:=f;simp only[bP]at bs;have hlen:(zs.take len).length=len:=by rw[aG];omega
  refine fin (zs.take len) (λn h=>aB n (a1 n (dQ h))) ?_;have y:a.spot=none:=by
   have a2:=d 0 22 _ rfl rfl;simp only[Value.okWide,underlying22,Cell.okWide,Cell.ok,World.has]at a2;exact a2.2.2.2.1
  have:=NT (w:=W) (a:=a) (cap:=cap) (zs:=zs.take len) y (by omega) (λi cp=>by
   rw[iK i (by omega)];congr 2;rw[ap,ap,dB,ax (by omega)])
  rw[hlen]at this;exact this
end Go.Bx
