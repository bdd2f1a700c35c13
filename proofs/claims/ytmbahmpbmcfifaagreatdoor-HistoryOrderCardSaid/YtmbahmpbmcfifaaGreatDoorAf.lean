/- Lemmas for HistoryOrder. -/
import Derived.Test.YtmbahmpbmcfifaaGreatDoorAd
import Derived.Deep.DeepHandedRow
import Derived.Lib.LaidTab
import Derived.OpenShut
import Derived.ProofKit
import Derived.Test.YtmbahmpbmcfifaaGreatDoorCards
import Derived.Test.YtmbahmpbmcfifaaGreatDoorTie
import Derived.WalkKit
noncomputable section
set_option linter.all false
set_option maxHeartbeats 4000000
set_option maxRecDepth 100000
namespace Go.Bx
def mL(w:World):aW:={bL:=λb o=>match w.cell? (cl b o)with
 |some x=>.gZ x
 |none=>if b<w.heap.size then .ext else .free,hb:=λ_=>none,lb:=λ_ _=>none}
def Bc{w:World}{b o:Nat}{x:Value}(h:w.cell? (cl b o)=some x):(mL w).bL b o=.gZ x:=by simp only[mL,h]
def KZ{w:World}{b:Nat}(hb:b<w.heap.size)(o:Nat):((mL w).bL b o).old:=by
 simp only[mL];split
 .exact .inr ⟨_,rfl⟩
 .rw[ax hb];exact .inl rfl
def Qr{w:World}{b o:Nat}{x:Value}(h:w.cell? (cl b o)=some x):b<w.heap.size:=by
 unfold World.cell? at h;refine cJ λhb=>?_;rw[show(cl b o).block=b from rfl,gJ (Nat.not_lt.1 hb)]at h;cases h
def K1{w:World}{b o:Nat}{x:Value}(h:(mL w).bL b o=.gZ x):w.cell? (cl b o)=some x:=by
 simp only[mL]at h;split at h
 next q=>rw[q];cases h;rfl
 .split at h<;>cases h
def FK{w:World}{b o:Nat}(h:(mL w).bL b o≠.free):b<w.heap.size:=by
 simp only[mL]at h;split at h
 next q=>exact Qr q
 .split at h
  .assumption
  .exact absurd rfl h
def K2{w:World}{b:Nat}{ob:Obj}(h:(mL w).bL b 0=.e8 ob):False:=by
 simp only[mL]at h;split at h
 .cases h
 .split at h<;>cases h
def HN{GL:ak}{w:World}{args:List V}{xs:Array Value}(a:∀n cells,GL n=some cells->VR (mL w) (.ep cells) (.pointer (some ⟨n,0,none⟩)))(d:∀n cells,GL n=some cells->(V.ep cells).free=true)
 (f:xs.size=args.length) (l:∀(j:Nat) v x,args[j]?=some v->xs[j]?=some x->VR (mL w) v x):ry GL (mL w) w aJ.bare args xs where
 gA:=⟨a,λ_ _ _ e=>K1 e,λ_ _ e=>(K2 e).elim,λ_ _ e=>FK e,d⟩
 heap:=⟨λ_ _ e=>(by cases e),λ_ _ _ _ _ _ e=>(by cases e),λ_ _ e=>(by cases e),λ_ _=>rfl⟩
 len:=f
 arg:=l
def Nq{w w':World}{g':aW}(h:Step (mL w) w g' w'):(∀b,b<w.heap.size->w'.heap[b]?=w.heap[b]?)/\w.heap.size<=w'.heap.size/\w'.os=w.os/\w'.output=w.output:=
 ⟨λb hb=>h.whole b hb (KZ hb),h.size,h.gW.os,h.gW.out⟩
def Nr{w:World}{n:Nat}{cells:List V}(val:Nat->Value)(h:∀j,j<cells.length->w.cell? ⟨n,j,none⟩=some (val j))(a:∀(j:Nat) c,cells[j]?=some c->c.one=true)
 (d:∀(j:Nat) c,cells[j]?=some c->VR (mL w) c (val j)):VR (mL w) (.ep cells) (.pointer (some ⟨n,0,none⟩)):=
 .ep cells ⟨n,0,none⟩ val rfl (λk f=>by rw[cA];exact Bc (h k f)) a d
def Ns{w:World}{a:Addr}{cap:Nat}{zs:List Int}(f:a.spot=none)(o:zs.length<=cap)(h:∀i,i<zs.length->w.cell? (a.add i)=some (.int .i64 (zs.getD i 0))):VR (mL w) (.sl 1 (zs.map λn=>.int .i64 n)) (.slice (some a) zs.length cap):=by
 have:=VR.sl (g:=mL w) 1 (zs.map λn=>V.int .i64 n) a cap (λk=>.int .i64 (zs.getD k 0)) f (by simpa using o) (λi v e=>by
  rw[bB]at e;obtain⟨x,_,rfl⟩:=bS.1 e;rfl) (λk p=>?_) (λi v j c e d=>by
  rw[bB]at e;obtain⟨x,_,rfl⟩:=bS.1 e;cases j with
  |zero=>cases d;rfl
  |succ j=>cases d) (λi v j c e d=>by
  rw[bB]at e;obtain⟨x,hx,rfl⟩:=bS.1 e;cases j with
  |zero=>
   cases d;have:zs.getD (i*1+0) 0=x:=by rw[kL,dj,ap,hx];rfl
   rw[this];exact .int _ _
  |succ j=>cases d)
 .simpa using this
 .have l:k<zs.length:=by simpa using p
  have:=h k l;refine Bc ?_;obtain⟨ab,q,sp⟩:=a;subst f;cases k with
  |zero=>simpa[Addr.add,cl]using this
  |succ k=>simpa[Addr.add,cl]using this
section
def b9{α:Type}(sz:Nat)(R:aJ->V->α->List Nat->Prop)(h:aJ)(v:V)(l:List α)(X:List Nat):Prop:=
 ∃(d:List V)(is:List (List Nat)),gh sz h v d/\d.length=l.length/\is.length=l.length/\
  (∀(i:Nat) x a js,d[i]?=some x->l[i]?=some a->is[i]?=some js->R h x a js)/\X=(bH v).toList++is.flatten
def lV{α:Type}(R:aJ->V->α->List Nat->Prop):Prop:=
 ∀h h' v a X,R h v a X->(∀i∈X,i<h.Y/\h'.box i=h.box i)->h.Y<=h'.Y->R h' v a X
def Jh{α:Type}(R:aJ->V->α->List Nat->Prop):Prop:=∀h v a X,R h v a X->∀i∈X,i<h.Y
def gh.frame{sz:Nat}{h h':aJ}{v:V}{xs:List V}(hm:gh sz h v xs)(hb:∀i,bH v=some i->h'.box i=h.box i)(f:h.Y<=h'.Y):gh sz h' v xs:=by
 obtain⟨d,j|⟨id,c,rest,rfl,o,p,q,r⟩⟩:=hm
 .exact⟨d,.inl j⟩
 .exact⟨d,.inr ⟨id,c,rest,rfl,bA o f,by rw[hb id rfl];exact p,q,r⟩⟩
def gh.Bd{sz:Nat}{h:aJ}{v:V}{xs:List V}(hm:gh sz h v xs){i:Nat}(d:bH v=some i):i<h.Y:=by
 obtain⟨j,⟨rfl,_⟩|⟨id,c,rest,rfl,f,_⟩⟩:=hm
 .cases d
 .cases d;exact f
section
variable {α:Type}{sz:Nat}{R:aJ->V->α->List Nat->Prop}{h h':aJ}{v v' x:V}{l:List α}{X js:List Nat}{a:α}
def g8{is:List (List Nat)}{i k:Nat}{js:List Nat}(h:is[k]?=some js)(d:i∈js):i∈is.flatten:=
 nt.2 ⟨js,bT h,d⟩
def b9.qN(o:lV R):lV (b9 sz R):=by
 rintro h h' v l X ⟨p,is,q,r,t,u,rfl⟩ hb d;refine⟨p,is,q.frame (λi y=>(hb i (by simp[y])).2) d,r,t,λi x a js z D f=>o _ _ _ _ _ (u i x a js z D f) (λj H=>hb j ?_) d,rfl⟩;exact aY _ (g8 f H)
def b9.vr(j:Jh R):Jh (b9 sz R):=by
 rintro h v l X ⟨o,is,p,u,y,q,rfl⟩ i d;rcases aR.1 d with d|d
 .exact p.Bd (by simpa using d)
 .obtain⟨js,r,d⟩:=nt.1 d;obtain⟨k,f⟩:=fZ.1 r;have t:=(aH.1 f).1;exact j _ _ _ _ (q k o[k] l[k] js (aa _) (aa _) f) i d
def b9.nil:b9 sz R h .aP ([]:List α) []:=⟨[],[],.nil,rfl,rfl,λi x a js e=>(by cases e),rfl⟩
def b9.len(d:b9 sz R h v l X):w4 v=some (.int .i64 (l.length:Int)):=by
 obtain⟨o,is,f,j,_⟩:=d;rw[<-j];exact f.len
def b9.one(d:b9 sz R h v l X):v.one=true:=by
 obtain⟨f,is,⟨_,⟨rfl,_⟩|⟨id,c,rest,rfl,_⟩⟩,_⟩:=d<;>rfl
def b9.cells(d:b9 sz R h v l X):v.cells=[v]/\([v].length==1&&[v].all V.one)=true:=by
 obtain⟨f,is,⟨_,⟨rfl,_⟩|⟨id,c,rest,rfl,_⟩⟩,_⟩:=d<;>exact⟨rfl,rfl⟩
def b9.fS(d:b9 sz R h v l X):v.dW=false:=by obtain⟨j,is,f,_⟩:=d;exact f.fS
def b9.get(o:b9 sz R h v l X){i:Nat}(p:i<l.length):∃id c cells x js rest,v=.ms sz id 0 l.length c/\id<h.Y/\h.box id=some cells/\cells.drop (i*sz)=x.cells++rest/\(i+1)*sz<=cells.length/\jR sz x=true/\R h x l[i] js/\id∈X/\(∀j∈js,j∈X):=by
 obtain⟨d,is,⟨ho,q⟩,r,D,t,rfl⟩:=o;have hx:i<d.length:=av;have f:i<is.length:=av;rcases q with⟨_,rfl⟩|⟨id,c,rest,rfl,u,y,H,L⟩
 .exact absurd hx (gN _)
 .refine⟨id,c,_,d[i],is[i],_,by rw[r],u,y,iv ho hx rest,?_,ho _ (ah hx),t i _ _ _ (aa hx) (aa p) (aa f),by simp[bH],λj z=>aY _ (g8 (aa f) z)⟩;exact TM
def b9.push(aA:lV R)(H:Jh R){r:List V}{is:List (List Nat)}(aC:gh sz h v r)(h2:r.length=l.length)(ac:is.length=l.length)
 (aB:∀(i:Nat) x a js,r[i]?=some x->l[i]?=some a->is[i]?=some js->R h x a js) (hx:R h x a js) (aD:(((bH v).toList++is.flatten)++js).Nodup)
 (hm:gh sz h' v' (r++[x])) (ad:bt (bH v) h h') (f:bH v'=bH v\/bH v'=some h.Y):
 ∃t,b9 sz R h' v' (l++[a]) t/\t.Nodup/\(∀i∈t,i∈(bH v).toList++is.flatten\/i∈js\/i=h.Y):=by
 have L:=b9.vr H (sz:=sz) h v l _ ⟨r,is,aC,h2,ac,aB,rfl⟩;have N:=H h x a js hx;have p:=aU.1 aD;have Q:∀i,i∈is.flatten\/i∈js->i<h.Y/\h'.box i=h.box i:=by
  rintro i o;have ab:i<h.Y:=o.elim (λo=>L i (aY _ o)) (N i);refine⟨ab,ad.box i ab λe=>?_⟩;rcases o with o|o
  .have:=(aU.1 p.1).2.2 i (by simp[e]) i o;exact this rfl
  .exact p.2.2 i (ck _ (by simp[e])) i o rfl
 refine⟨(bH v').toList++(is++[js]).flatten,⟨r++[x],is++[js],hm,by simp[h2],by simp[ac],λi y b a0 D u z=>?_,rfl⟩,?_,?_⟩
 .rcases am i l.length with a1|a1
  .rw[dI av]at D u z;exact aA _ _ _ _ _ (aB i y b a0 D u z) (λj q=>Q j (.inl (g8 z q))) ad.Y
  .rw[dR av]at D u z;have ai:i-l.length=0:=by
    have:=(aH.1 u).1;simp at this;omega
   rw[h2,ai]at D;rw[ai]at u;rw[ac,ai]at z;cases D;cases u;cases z;exact aA _ _ _ _ _ hx (λj q=>Q j (.inr q)) ad.Y
 .rw[fA,<-aG];simp only[dk,jg,cP];refine aU.2 ⟨aU.2 ⟨by cases bH v'<;>simp,(aU.1 p.1).2.1,λi d j q=>?_⟩,p.2.1,λi d j q=>?_⟩
  .rintro rfl;rcases f with f|f
   .rw[f]at d;exact(aU.1 p.1).2.2 i d i q rfl
   .rw[f]at d;have:=L i (aY _ q);simp at d;omega
  .rintro rfl;rcases aR.1 d with d|d
   .rcases f with f|f
    .rw[f]at d;exact p.2.2 i (ck _ d) i q rfl
    .rw[f]at d;have:=N i q;simp at d;omega
   .exact p.2.2 i (aY _ d) i q rfl
 .intro i d;rw[fA]at d;rcases aR.1 d with d|d
  .rcases f with f|f
   .rw[f]at d;exact .inl (ck _ d)
   .rw[f]at d;simp at d;exact .inr (.inr d)
  .rcases aR.1 d with d|d
   .exact .inl (aY _ d)
   .simp at d;exact .inr (.inl d)
def b9.same(q:lV R)(j:Jh R){o:Option Nat}(d:b9 sz R h v l X)(p:bt o h h')(r:∀i∈X,o≠some i):b9 sz R h' v l X:=
 b9.qN q _ _ _ _ _ d (λi f=>⟨b9.vr j _ _ _ _ d i f,p.box i (b9.vr j _ _ _ _ d i f) (r i f)⟩) p.Y
def sN{A B C D:List Nat}{n:Nat}(p:(A++(B++C)).Nodup)(h':D.Nodup)(hb:∀i∈A,i<n)(q:∀i∈D,i∈B\/i∈C\/i=n):(A++D).Nodup:=by
 obtain⟨r,u,o⟩:=aU.1 p;refine aU.2 ⟨r,h',λi f j t e=>?_⟩;subst e;rcases q i t with d|d|d
 .exact o i f i (ck _ d) rfl
 .exact o i f i (aY _ d) rfl
 .have:=hb i f;omega
def eA{s:St}{t n:Nat}{ag:Bool}{a:V}(h:dw s (.load ag n (.tmp t))=some a)(d:a.dW=false):BF.result s [.cell t ag n]=some (a,false):=by simp[BF.result,BR.get,h,d]
def Frz{α:Type}(R:aJ->V->α->List Nat->Prop)(lN:α->V):Prop:=∀h v a X (fz:ak),R h v a X->(∀i∈X,fz i=h.box i)->V.lM fz v (lN a)
def K3{α:Type}(sz:Nat)(R:aJ->V->α->List Nat->Prop)(lN:α->V):Prop:=∀h v a X (fz:ak),R h v a X->(∀i∈X,fz i=h.box i)->
 jR sz (lN a)=true/\∀(j:Nat) c d,v.cells[j]?=some c->(lN a).cells[j]?=some d->V.lM fz c d
def zQ{xs:List V}(h:lG sz xs)(rest:List V){i r:Nat}(d:i<xs.length)(j:r<sz):(b1 xs++rest)[i*sz+r]?=xs[i].cells[r]?:=by
 have f:=iv h d rest;have o:=(fh (h _ (ah d))).1;have:(b1 xs++rest)[i*sz+r]?=((b1 xs++rest).drop (i*sz))[r]?:=by rw[c0]
 rw[this,f,dI av]
def b9.Tp(z:0<sz){lN:α->V}(aA:K3 sz R lN):Frz (b9 sz R) (λl=>.sl sz (l.map lN)):=by
 rintro h v l X fz ⟨o,is,⟨N,aB⟩,H,a3,aC,rfl⟩ Q;rcases aB with⟨rfl,rfl⟩|⟨id,c,rest,rfl,a4,aD,a5,a6⟩
 .obtain rfl:l=[]:=bJ.1 H.symm;exact .aP sz
 have D:∀(i:Nat)(p:i<o.length),jR sz (lN (l[i]'av))=true/\∀(j:Nat) c d,o[i].cells[j]?=some c->(lN (l[i]'av)).cells[j]?=some d->V.lM fz c d:=λi p=>by
  have ab:i<is.length:=av;have q:i<l.length:=av;exact aA _ _ _ _ fz (aC i _ _ _ (aa p) (aa q) (aa ab)) λk a0=>Q k (aY _ (g8 (aa ab) a0))
 have f:lG sz (l.map lN):=λy a1=>by
  obtain⟨a,a2,rfl⟩:=cG.1 a1;obtain⟨i,p,rfl⟩:=iL.1 a2;exact(D i av).1
 have ac:=dM N;have L:=dM f;rw[aq,<-H]at L;refine .ms sz id 0 o.length c (b1 o++rest) (b1 (l.map lN)++rest) (l.map lN) ?_ (by rw[ae,ae,ac,L]) (λj x y t u=>?_) (by simp[H]) λi x hx=>?_
 .rw[Q id (by simp[bH]),aD]
 .rcases am j (o.length*sz)with r|r
  .have p:j/sz<o.length:=by rw[iz z];exact r
   have ad:j%sz<sz:=eG _ z;have e:j=j/sz*sz+j%sz:=by rw[jU];exact(l2 j sz).symm
   rw[e,zQ N rest p ad]at t;rw[e,zQ f rest (by simp;omega) ad,dB]at u;exact(D _ p).2 _ _ _ t u
  .rw[dR av,ac]at t;rw[dR av,L]at u;cases (t.symm.trans u);exact .refl _
 .obtain⟨q,rfl⟩:=aH.1 hx;refine⟨f _ (ah q),λj a7 r=>?_⟩;have ai:j<sz:=by
   have:=(aH.1 r).1;rw[(fh (f _ (ah q))).1]at this;exact this
  rw[cA,zQ f rest q ai];exact r
def aJ.less(h:aJ)(X:List Nat):aJ:={h with box:=λi=>if i∈X then none else h.box i,fl:=λi j=>if i∈X then false else h.fl i j}
def oE(h:aJ)(X:List Nat):Nat->Option (List V):=λi=>if i∈X then h.box i else none
def mf(h:aJ)(X:List Nat):jD (oE h X) h (h.less X) where
 Cu id cells e:=by
  unfold oE at e;split at e
  .exact e
  .cases e
 box id cells e:=by
  simp only[aJ.less]at e;split at e
  .cases e
  next h1=>exact⟨by unfold oE;rw[an h1],cells,e,.refl _⟩
 fl id j e:=by
  simp only[aJ.less]at e ⊢
  split at e
  .cases e
  next h1=>exact .inl ⟨e,.inr (by simp only[an h1])⟩
 mp id d e:=⟨d,e,.refl _⟩
 Y:=ao _
def pm{h:aJ}{X:List Nat}{i:Nat}(d:i∈X):oE h X i=h.box i:=by unfold oE;rw[ax d]
def b9.mono{d:aJ->V->α->List Nat->Prop}(f:b9 sz R h v l X)(j:∀x a js,R h x a js->d h x a js):b9 sz d h v l X:=by
 obtain⟨o,is,p,q,r,t,rfl⟩:=f;exact⟨o,is,p,q,r,λi x a js u y z=>j _ _ _ (t i x a js u y z),rfl⟩
def o0:∀{is:List (List Nat)} {i k:Nat} {js o:List Nat},is.flatten.Nodup->is[i]?=some js->is[k]?=some o->k≠i->∀j∈o,j∉js
 |[],_,_,_,_,_,e,_,_=>by cases e
 |a::r,0,0,_,_,_,_,_,h=>absurd rfl h
 |a::r,0,k+1,js,o,p,d,f,_=>by
  intro j t q;simp at d;subst d;exact(aU.1 p).2.2 j q j (g8 (by simpa using f) t) rfl
 |a::r,i+1,0,js,o,p,d,f,_=>by
  intro j t q;simp at f;subst f;exact(aU.1 p).2.2 j t j (g8 (by simpa using d) q) rfl
 |a::r,i+1,k+1,js,o,p,d,f,u=>o0 (is:=r) (aU.1 p).2.1 (by simpa using d) (by simpa using f) av
def b9.eR(u:lV R){xs:List V}{is:List (List Nat)}(z:gh sz h v xs)(h2:xs.length=l.length)(D:is.length=l.length)
 (H:∀(i:Nat) x a js,xs[i]?=some x->l[i]?=some a->is[i]?=some js->R h x a js) {i:Nat} (N:i<l.length) {a':α} {rD:List Nat} (hb:∀j,bH v=some j->h'.box j=h.box j) (r:h.Y<=h'.Y)
 (L:∀(k:Nat) d,k≠i->is[k]?=some d->∀j∈d,j<h.Y/\h'.box j=h.box j) {x:V} (t:xs[i]?=some x) (hx:R h' x a' rD):b9 sz R h' v (l.set i a') ((bH v).toList++(is.set i rD).flatten):=by
 refine⟨xs,is.set i rD,z.frame hb r,by simp[h2],by simp[D],λk y b d p o f=>?_,rfl⟩;by_cases q:k=i
 .subst q;rw[ie av]at o f;rw[t]at p;cases p;cases o;cases f;exact hx
 .rw[iK (hU q)]at o f;exact u _ _ _ _ _ (H k y b d p o f) (L k d q f) r
def b9.set(L:lV R){xs:List V}{is:List (List Nat)}(N:gh sz h v xs)(h2:xs.length=l.length)(Q:is.length=l.length)
 (ab:∀(i:Nat) x a js,xs[i]?=some x->l[i]?=some a->is[i]?=some js->R h x a js) {i id:Nat} (aD:i<l.length) {x':V} {a':α} {rD:List Nat} (dV:bH v=some id) (t:jR sz x'=true)
 {cells:List V} (ac:h.box id=some cells) (u:h'.box id=some (aO cells (i*sz) x'.cells)) (z:h.Y<=h'.Y)
 (ad:∀(k:Nat) d,k≠i->is[k]?=some d->∀j∈d,j<h.Y/\h'.box j=h.box j) (hx:R h' x' a' rD):b9 sz R h' v (l.set i a') ((bH v).toList++(is.set i rD).flatten):=by
 obtain⟨q,⟨rfl,rfl⟩|⟨id2,c,rest,rfl,ai,aA,aB,aC⟩⟩:=N
 .cases dV
 obtain rfl:id2=id:=au dV;have D:i<xs.length:=av;have H:cells=b1 xs++rest:=au (ac.symm.trans aA);subst H;refine⟨xs.set i x',is.set i rD,⟨q.set t,.inr ⟨id2,c,rest,bR,bA ai z,by rw[u,qK q D t],by simpa using aB,by simpa using aC⟩⟩,by simp[h2],by simp[Q],λk y b d o p f=>?_,rfl⟩;by_cases r:k=i
 .subst r;rw[ie av]at o p f;cases o;cases p;cases f;exact hx
 .rw[iK (hU r)]at o p f;exact L _ _ _ _ _ (ab k y b d o p f) (ad k d r f) z
def b9.at(aA:lV R)(a0:Jh R)(T:b9 sz R h v l X)(D:X.Nodup){i:Nat}(N:i<l.length):∃id c cells x js rest,v=.ms sz id 0 l.length c/\id<h.Y/\h.box id=some cells/\cells.drop (i*sz)=x.cells++rest/\(i+1)*sz<=cells.length/\jR sz x=true/\R h x l[i] js/\
 js.Nodup/\id∉js/\id∈X/\(∀j∈js,j∈X)/\
 (∀f x' a' rD,h.Y<=f.Y->f.box id=some (aO cells (i*sz) x'.cells)->(∀j,j∈X->j≠id->j∉js->f.box j=h.box j)->jR sz x'=true->R f x' a' rD->∃o,b9 sz R f v (l.set i a') o/\(rD=js->o=X))/\
 (∀f a' rD,h.Y<=f.Y->(∀j,j∈X->j∉js->f.box j=h.box j)->R f x a' rD->∃o,b9 sz R f v (l.set i a') o/\(rD=js->o=X)):=by
 have hb:=b9.vr a0 _ _ _ _ T;obtain⟨t,is,⟨ho,h1⟩,Q,f,ab,rfl⟩:=T;have hx:i<t.length:=av;have u:i<is.length:=av;have z:=(aU.1 D).2.1;rcases h1 with⟨_,rfl⟩|⟨id,c,rest,rfl,aB,ac,a1,a2⟩
 .exact absurd hx (gN _)
 have dV:∀(k:Nat) y,is[k]?=some y->∀j∈y,j≠id:=λk y p j d e=>(aU.1 D).2.2 id (by simp[bH]) j (g8 p d) e.symm;have aC:is[i].Nodup:=by
  have h1:=z;rw[show is=is.take i++is[i]::is.drop (i+1)by simp]at h1;exact WQ
 have hm:gh sz h (.ms sz id 0 t.length c) t:=⟨ho,.inr ⟨id,c,rest,rfl,aB,ac,a1,a2⟩⟩;have r:∀rD,rD=is[i]->(bH (.ms sz id 0 t.length c)).toList++(is.set i rD).flatten=(bH (.ms sz id 0 t.length c)).toList++is.flatten:=λrD e=>by rw[e,iy]
 refine⟨id,c,_,t[i],is[i],_,by rw[Q],aB,ac,iv ho hx rest,?_,ho _ (ah hx),ab i _ _ _ (aa hx) (aa N) (aa u),aC,λd=>dV i _ (aa u) id d rfl,by simp[bH],λj d=>aY _ (g8 (aa u) d),?_,?_⟩
 .exact TM
 .intro k x' a' rD ad a3 L aD ai;refine⟨_,b9.set aA hm Q f ab N rfl aD ac a3 ad (λm y H p j d=>⟨hb j (aY _ (g8 p d)),L j (aY _ (g8 p d)) (dV m y p j d) λq=>o0 z (aa u) p H j d q⟩) ai,r rD⟩
 .intro k a' rD ad L ai;refine⟨_,b9.eR aA hm Q f ab N (λj d=>L j (ck _ (by simp[d])) λq=>dV i _ (aa u) j q (by simpa[bH]using d.symm)) ad (λm y H p j d=>⟨hb j (aY _ (g8 p d)),L j (aY _ (g8 p d)) λq=>o0 z (aa u) p H j d q⟩) (aa hx) ai,r rD⟩
end
section
variable {GL:Nat->Option (List V)}{P:Program}{s:St}{K:St->Prop}{pu:Bool}
def St.Pq(s:St)(n id off:Nat)(y:eO):St:=match s.store n (.bp id off) y with
 |some t=>t
 |none=>s
def FL{n id off:Nat}{y:eO}{cells:List V}(hb:s.E.box id=some cells)(d:jR n (s.val y)=true)(f:off+n<=cells.length):s.store n (.bp id off) y=some (s.Pq n id off y):=by
 unfold St.Pq;simp[St.store,hb,d,f]
def Ji{n id off:Nat}{y:eO}{cells:List V}(hb:s.E.box id=some cells)(ho:jR n (s.val y)=true)(hl:off+n<=cells.length):
 (s.Pq n id off y).Z=s.Z/\(s.Pq n id off y).G=s.G/\(s.Pq n id off y).loc=s.loc/\(s.Pq n id off y).E.box=eR s.E.box id (some (aO cells off (s.val y).cells))/\(s.Pq n id off y).E.mp=s.E.mp/\(s.Pq n id off y).E.Y=s.E.Y:=by
 unfold St.Pq;exact WC
def w5{n:Nat}{y:eO}{id off:Nat}{cells:List V}{r:List BI}(hb:s.E.box id=some cells)(d:jR n (s.val y)=true)(f:off+n<=cells.length)
 (h:∀t:St,t.Z=s.Z->t.G=s.G->t.loc=s.loc->t.E.box=eR s.E.box id (some (aO cells off (s.val y).cells))->t.E.mp=s.E.mp->t.E.Y=s.E.Y->er P GL pu r t K):iQ P GL (s.store n (.bp id off) y) pu r K:=by
 obtain⟨j,o,p,q,u,z⟩:=Ji hb d f;rw[FL hb d f];exact h _ j o p q u z
def o5{α:Type}{R:aJ->V->α->List Nat->Prop}{l:List α}{X js:List Nat}{a:α}{e v0:V}{fD:aJ}{d:Option Nat}{sz:Nat}{zs:List V}{x y:eO}{r:List BI}(u:lV R)(D:Jh R)
 (t:s.val x=v0) (H:s.E=fD) (o:s.val y=.sl (sz+1) [e]) (L:b9 (sz+1) R fD v0 l X) (N:jR (sz+1) e=true) (hx:R fD e a js) (Q:(X++js).Nodup) (p:zs.length=sz+1) (hlen:l.length<=1000000)
 (h:∀v j f,b9 (sz+1) R j v (l++[a]) f->f.Nodup->(∀i∈f,i∈X\/i∈js\/i=fD.Y)->bt (bH v0) fD j->(∀i,bH v0=some i->i∈X)->gB P GL d pu r s K v false j):(MX.v1 (sz+1) zs x y).wp s (gB P GL d pu r s K):=by
 subst H;subst t;obtain⟨xs,is,q1,ab,ac,ad,rfl⟩:=L;refine iE (xs:=xs) (ys:=[e]) q1 (by rw[o];simp[nF]) (λz p=>by simp at p;subst p;exact N) (by rw[o];rfl) (by rw[o];intro _ h;cases h) p (by simp;omega) (λ_=>bR) λv j hm hb q=>?_;obtain⟨f,g1,ai,aA⟩:=b9.push u D q1 ab ac ad hx Q hm hb q;exact h v j f g1 ai aA hb λi q=>by simp[q]
end
end
section
variable {GL:Nat->Option (List V)}{P:Program}
set_option linter.unusedVariables false
def uA{L:Array Bool}{i:Nat}{b:Bool}(h:i<L.size):(L.setIfInBounds i true).getD i b=true:=by
 simp[cH,hJ,h]
def mH{L:Array Bool}{i j:Nat}{b:Bool}(h:j≠i):(L.setIfInBounds i true).getD j b=L.getD j b:=by
 simp[cH,hJ,hU h]
def Jj{L:Array Bool}{i:Nat}(h:i<L.size):L.getD i true=L.getD i false:=by
 simp[cH,h]
def w6{L:Array Bool}{i:Nat}(h:L.getD i true=false):i<L.size/\L.getD i false=false:=by
 rcases am i L.size with a|a
 .exact⟨a,by rw[<-Jj a];exact h⟩
 .simp[cH,gJ a]at h
def Qs(l:List (BI×List Nat)):Bool:=(List.range l.length).all λk=>match l[k]? with|some x=>x.2.all λj=>decide (j<k)|none=>true
def UV(l:List (BI×List Nat))(m:Nat):Bool:=(List.range m).all λi=>(List.range (m+1)).any λk=>decide (i<k)&&(match l[k]? with|some x=>x.2.contains i|none=>false)
def Qt(l:List (BI×List Nat))(m:Nat):Bool:=(List.range l.length).all λk=>decide (k<=m)||(match l[k]? with|some x=>x.2.contains (k-1)|none=>false)
def Ev{l:List (BI×List Nat)}(h:Qs l=true){k:Nat}{x:BI×List Nat}(hx:l[k]?=some x):∀j∈x.2,j<k:=by
 have a:=(aH.1 hx).1;have:=bP.1 h k (dc.2 a);simp only[hx,bP,cy]at this;exact this
def Qu{l:List (BI×List Nat)}{m:Nat}(h:UV l m=true){i:Nat}(d:i<m):∃k x,i<k/\k<=m/\l[k]?=some x/\i∈x.2:=by
 have:=bP.1 h i (dc.2 d);obtain⟨k,f,e⟩:=gu.1 this;rw[aX,cy]at e;obtain⟨j,a⟩:=e;split at a
 next x hx=>exact⟨k,x,j,by have:=dc.1 f;omega,hx,by simpa using a⟩
 .cases a
def Jk{l:List (BI×List Nat)}{m:Nat}(h:Qt l m=true){k:Nat}{x:BI×List Nat}(f:m<k)(hx:l[k]?=some x):k-1∈x.2:=by
 have d:=(aH.1 hx).1;have:=bP.1 h k (dc.2 d);simp only[hx,h9,cy]at this;rcases this with a|a
 .omega
 .simpa using a
def set_tail{l:List (BI×List Nat)}{m:Nat}{K:St->Prop}(u:Qt l m=true)(y:Qs l=true):∀(r k:Nat)(L:Array Bool)(s:St),k+r=l.length->m<=k->L.size=l.length->(∀j,j<k->L.getD j false=true)->(∀j,k<=j->j<l.length->L.getD j true=false)->
 er P GL false ((l.drop k).map Prod.fst) s K->cW P GL l r L s K
 |0,k,L,s,ad,hm,z,a,o,d=>by
  refine⟨λi ⟨p,_⟩=>?_,?_⟩
  .obtain⟨D,q⟩:=w6 p;rw[a i av]at q;cases q
  .rw[cT av]at d;exact d
 |r+1,k,L,s,ad,hm,z,a,o,d=>by
  have f:k<l.length:=av;have H:Yo l L k:=⟨o k (ao _) f,_,aa f,λj t=>a j (Ev y (aa f) j t)⟩;rw[bI f,bw]at d;refine⟨λh=>absurd H (h k),λi x ⟨p,aC,ai,D⟩ hx=>?_⟩;obtain⟨q,N⟩:=w6 p;have Q:i=k:=by
   rcases Nat.lt_trichotomy i k with h|h|h
   .rw[a i h]at N;cases N
   .exact h
   .exfalso;have aA:=D _ (Jk u av ai);rcases am (i-1) k with R|R
    .omega
    .have:=(w6 (o (i-1) R av)).2;rw[aA]at this;cases this
  subst Q;rw[aa f]at hx;cases hx;refine gU d λaB ab=>set_tail u y r (i+1) _ aB av av (by simpa using z) (λj t=>?_) (λj t ac=>?_) ab
  .by_cases e:j=i
   .subst e;exact uA av
   .rw[mH e];exact a j av
  .rw[mH av];exact o j av ac
def Nt{l:List (BI×List Nat)}{p:St}{K:St->Prop}(m:Nat)(val:Nat->V)(d:Nat->Nat)(B:St->Prop)(hm:m<l.length)(a7:Qs l=true)(E:UV l m=true)(bv:Qt l m=true)
 (hinj:∀i j,i<m->j<m->d i=d j->i=j) (c6:B p)
 (aB:∀(i:Nat)(b:BI)(ds:List Nat)(s:St),i<m->l[i]?=some (b,ds)->B s->(∀j∈ds,s.Z (d j)=val j)->(∀t,(∀j,j<m->d j≠t)->s.Z t=p.Z t)->s.Z (d i)=p.Z (d i)->
  dr P GL false b s λs'=>B s'/\s'.Z (d i)=val i/\∀t,t≠d i->s'.Z t=s.Z t)
 (a8:∀s:St,B s->(∀j,j<m->s.Z (d j)=val j)->(∀t,(∀j,j<m->d j≠t)->s.Z t=p.Z t)->er P GL false ((l.drop m).map Prod.fst) s K):
 cW P GL l l.length (Array.replicate l.length false) p K:=by
 have go:∀(u:Nat)(U:List Nat)(L:Array Bool)(s:St),U.length=u->U.Nodup->(∀j∈U,j<m)->L.size=l.length->(∀j,j<m->(L.getD j false=true↔j∉U))->(∀j,m<=j->j<l.length->L.getD j true=false)->
  (∀i x,l[i]?=some x->L.getD i false=true->∀j∈x.2,L.getD j false=true)->B s->(∀j,j<m->j∉U->s.Z (d j)=val j)->(∀t,(∀j,j<m->d j≠t)->s.Z t=p.Z t)->(∀j∈U,s.Z (d j)=p.Z (d j))->cW P GL l (l.length-m+u) L s K:=by
  intro u;induction u with
  |zero=>
   intro U L s H _ _ aC q aD _ Q a0 a1 _;obtain rfl:=bJ.1 H;refine set_tail bv a7 (l.length-m) m L s av (ao _) aC (λj f=>(q j f).2 bR) aD (a8 s Q (λj f=>a0 j f bR) a1)
  |succ u ih=>
   intro U L s H R z aC q aD bU Q a0 a1 ab;have b2:∀j,j∈U->L.getD j true=false:=λj f=>by
    have o:j<L.size:=by rw[aC];have:=z j f;omega
    rw[Jj o];cases e:L.getD j false with
    |false=>rfl
    |true=>exact absurd f ((q j (z j f)).1 e)
   refine⟨λh=>?_,λi x ⟨c7,c9,N,a2⟩ hx=>?_⟩
   .exfalso;have a3:U≠[]:=by rintro rfl;cases H
    obtain⟨i,a9,bi⟩:∃i∈U,∀j∈U,i<=j:=by
     have dd:∀(V:List Nat),V≠[]->∃i∈V,∀j∈V,i<=j:=by
      intro V;induction V with
      |nil=>intro h;exact absurd rfl h
      |cons a r b3=>
       intro _;by_cases b5:r=[]
       .subst b5;exact⟨a,bR,bR⟩
       .obtain⟨i,ac,ad⟩:=b3 b5;rcases Nat.le_total a i with ai|ai
        .exact⟨a,bR,λj f=>by
          rcases bC.1 f with rfl|f
          .exact ao _
          .exact aQ ai (ad j f)⟩
        .exact⟨i,by simp[ac],λj f=>by
          rcases bC.1 f with rfl|f
          .exact ai
          .exact ad j f⟩
     exact dd U a3
    have a4:i<l.length:=by have:=z i a9;omega
    refine h i ⟨b2 i a9,_,aa a4,λj f=>?_⟩;have b6:=Ev a7 (aa a4) j f;exact(q j (by have:=z i a9;omega)).2 λaA=>by have:=bi j aA;omega
   .rw[N]at hx;obtain rfl:=au hx;obtain⟨b7,ca⟩:=w6 c7;have D:i<m:=by
     refine cJ λdp=>?_;have cb:i=m:=by
      refine cJ λa3=>?_;have ad:=a2 _ (Jk bv (by omega) N);have:=(w6 (aD (i-1) (by omega) (by omega))).2;rw[ad]at this;cases this
     subst cb;have all:∀n j,j<i->i-j<=n->L.getD j false=true:=by
      intro n;induction n with
      |zero=>intro j ac ad;omega
      |succ n cc=>
       intro j f dF;obtain⟨k,y,dU,ea,bo,ch⟩:=Qu E f;rcases am k i with ac|ac
       .exact bU k y bo (cc k ac (by omega)) j ch
       .obtain rfl:k=i:=by omega
        rw[N]at bo;obtain rfl:=au bo;exact a2 j ch
     cases a5:U with
     |nil=>rw[a5]at H;cases H
     |cons a r=>
      have br:a∈U:=by rw[a5];simp
      exact(q a (z a br)).1 (all i a (z a br) (by omega)) br
    have a6:i∈U:=cJ λci=>by rw[(q i D).2 ci]at ca;cases ca
    obtain⟨b,ds⟩:=c9;refine gU (aB i b ds s D N Q (λj f=>?_) a1 (ab i a6)) λs' ⟨q1,dg,bs⟩=>?_
    .have b6:=Ev a7 N j f;exact a0 j av ((q j av).1 (a2 j f))
    .refine ih (U.erase i) _ s' (by rw[List.length_erase_of_mem a6,H];rfl) (R.erase i) (λj f=>z j (List.mem_of_mem_erase f)) (by simpa using aC) (λj f=>?_) (λj f o=>?_) (λk y bu cp j f=>?_) q1 (λj f aA=>?_) (λt c1=>?_) (λj f=>?_)
     .by_cases e:j=i
      .subst e;simp only[uA b7,true_iff];exact λh=>(R.mem_erase_iff.1 h).1 rfl
      .rw[mH e,q j f,R.mem_erase_iff];simp[e]
     .rw[mH av];exact aD j f o
     .by_cases e:j=i
      .subst e;exact uA b7
      .rw[mH e];by_cases c2:k=i
       .subst c2;rw[N]at bu;cases bu;exact a2 j f
       .rw[mH c2]at cp;exact bU k y bu cp j f
     .by_cases e:j=i
      .subst e;exact dg
      .rw[bs _ (λh=>e (hinj j i f D h))];exact a0 j f λh=>aA (R.mem_erase_iff.2 ⟨e,h⟩)
     .rw[bs t (λh=>c1 i D h.symm)];exact a1 t c1
     .have o:=R.mem_erase_iff.1 f;rw[bs _ (λh=>o.1 (hinj j i (z j o.2) D h))];exact ab j o.2
 have:=go m (List.range m) (Array.replicate l.length false) p bR lw (λj f=>dc.1 f) bR
  (λj f=>by simp[cH,iJ,f,(show j<l.length by omega)])
  (λj f o=>by simp[cH,iJ,o])
  (λi x hx h=>by simp[cH,iJ]at h;split at h<;>simp at h)
  c6 (λj f c5=>absurd (dc.2 f) c5) (λ_ _=>rfl) (λ_ _=>rfl)
 rwa [Nat.sub_add_cancel (k0 hm)]at this
def uB(P:Program)(GL:ak)(m:Nat)(val:Nat->V)(d:Nat->Nat)(B:St->Prop)(a:St):Nat->List (BI×List Nat)->Prop
 |_,[]=>True
 |i,x::r=>(∀s:St,B s->(∀j∈x.2,s.Z (d j)=val j)->(∀t,(∀j,j<m->d j≠t)->s.Z t=a.Z t)->s.Z (d i)=a.Z (d i)->
  er P GL false [x.1] s λf=>B f/\f.Z (d i)=val i/\∀t,t≠d i->f.Z t=s.Z t)/\uB P GL m val d B a (i+1) r
def uB.at{m:Nat}{val:Nat->V}{d:Nat->Nat}{B:St->Prop}{a:St}:∀{l:List (BI×List Nat)} {k:Nat},uB P GL m val d B a k l->∀(i:Nat)(b:BI)(ds:List Nat),l[i]?=some (b,ds)->∀s:St,B s->(∀j∈ds,s.Z (d j)=val j)->(∀t,(∀j,j<m->d j≠t)->s.Z t=a.Z t)->s.Z (d (k+i))=a.Z (d (k+i))->
 dr P GL false b s λs'=>B s'/\s'.Z (d (k+i))=val (k+i)/\∀t,t≠d (k+i)->s'.Z t=s.Z t
 |[],_,_,i,b,ds,h=>by simp at h
 |x::r,k,h,0,b,ds,hx=>by
  simp at hx;obtain⟨f,_⟩:=h;subst hx;exact f
 |x::r,k,h,i+1,b,ds,hx=>by
  have:=uB.at h.2 i b ds (by simpa using hx)
  rwa [cn,Nat.add_comm 1 i]at this
def Dl{l:List (BI×List Nat)}{a:St}{st:List Fr}{K:Ex->St->Prop}(m:Nat)(val:Nat->V)(d:Nat->Nat)(B:St->Prop)(hm:m<l.length)(p:Qs l=true)(E:UV l m=true)(q:Qt l m=true)
 (hinj:∀i j,i<m->j<m->d i=d j->i=j) (r:B a) (f:uB P GL m val d B a 0 (l.take m))
 (o:∀s:St,B s->(∀j,j<m->s.Z (d j)=val j)->(∀t,(∀j,j<m->d j≠t)->s.Z t=a.Z t)->er P GL false ((l.drop m).map Prod.fst) s (run P GL st K .normal)):
 vc P GL (.set l) a (run P GL st K):=by
 show cW P GL l l.length (Array.replicate l.length false) a (run P GL st K .normal);refine Nt m val d B hm p E q hinj r (λi b u s y hx z D H L=>?_) o;have:=f.at i b u (by rw[dA,ax y];exact hx) s z D H (by rw[cA];exact L)
 rwa [cA]at this
end
set_option linter.unusedVariables false
def nn{α:Type}(f:Nat->α)(k:Nat)(a b:α):eR (eR f k a) k b=eR f k b:=by funext i;unfold eR;split<;>rfl
def w7{A W D:List V}(h:W.length<=D.length):aO (A++D) A.length W=A++(W++D.drop W.length):=by
 rw[ia (by rw[ae];omega),gK,List.drop_length_add_append,aG]
def YU{A W C D:List V}(h:W.length+C.length<=D.length):aO (aO (A++D) (A.length+W.length) C) A.length W=A++(W++(C++D.drop (W.length+C.length))):=by
 have f:A++D=(A++D.take W.length)++D.drop W.length:=by rw[aG,cu]
 have a:(D.take W.length).length=W.length:=by rw[aF];omega
 have j:A.length+W.length=(A++D.take W.length).length:=by rw[ae,a]
 rw[f,j,w7 (by rw[aS];omega),aG,w7 (by simp only[ae,a];omega)];have l:(D.take W.length++(C++(D.drop W.length).drop C.length)).drop W.length=C++(D.drop W.length).drop C.length:=by
  rw[List.drop_append,a,iM,m7 (c8 a)];rfl
 rw[l,dG]
def r9{h:aJ}{id:Nat}{A C R:List V}(hb:h.box id=some (A++(C++R))):h.cells id A.length C.length=some C:=by
 unfold aJ.cells;split
 next a=>rw[bJ.1 a]
 .rw[hb];simp only;rw[ax (by simp only[ae];omega),fY,gK]
def ot{xs:List V}(i:Nat):b1 xs=b1 (xs.take i)++b1 (xs.drop i):=by rw[<-fU,cu]
def o6{zs:List V}{sz:Nat}(hz:zs.length=sz)(n:Nat):(kl n zs).length=n*sz:=by
 exact Wz
def gh.mk{sz:Nat}{h:aJ}{id c:Nat}{xs rest:List V}(a:lG sz xs)(dV:id<h.Y)(hb:h.box id=some (b1 xs++rest))(f:xs.length<=c)(j:rest.length=(c-xs.length)*sz)(n:Nat)(l:n=xs.length):gh sz h (.ms sz id 0 n c) xs:=
 ⟨a,.inr ⟨id,c,rest,by rw[l],dV,hb,f,j⟩⟩
section
variable {P:Program}{GL:Nat->Option (List V)}{d:Option Nat}{pu:Bool}{r:List BI}{K:St->Prop}{s:St}{x y:eO}{sz id off n c m:Nat}{src cells zs:List V}{fD:aJ}
def sO(l:s.E=fD)(hx:s.val x=.ms (sz+1) id off n c)(o:qs fD (sz+1) (s.val y)=some (m,src))(p:src.length=m*(sz+1))(hb:fD.box id=some cells)(hm:m<=n)(f:off+m*(sz+1)<=cells.length)
 (h:∀a,a.box=eR fD.box id (some (aO cells off src))->a.mp=fD.mp->a.Y=fD.Y->gB P GL d pu r s K (.int .i64 (m:Nat)) false a):(MX.copy (sz+1) x y).wp s (gB P GL d pu r s K):=by
 subst l;simp only[MX.wp,hx,nf,bQ,o,dX hm];by_cases j:m=0
 .subst j;rw[ax rfl];have e:src=[]:=bJ.1 av;subst e;have e2:aO cells off []=cells:=by rw[ia (by simpa using f)];simp
  exact Pu
 .rw[an j];refine⟨cells,hb,f,?_⟩;rw[az av];exact h _ rfl rfl rfl
def Qv{Qw:List V}(l:s.E=fD)(hx:s.val x=.ms (sz+1) id off n c)(o:qs fD (sz+1) (s.val y)=some (m,src))(p:n<=m)(q:src.take (n*(sz+1))=Qw)(t:Qw.length=n*(sz+1))(hb:fD.box id=some cells)(f:off+n*(sz+1)<=cells.length)
 (h:∀a,a.box=eR fD.box id (some (aO cells off Qw))->a.mp=fD.mp->a.Y=fD.Y->gB P GL d pu r s K (.int .i64 (n:Nat)) false a):(MX.copy (sz+1) x y).wp s (gB P GL d pu r s K):=by
 subst l q;simp only[MX.wp,hx,nf,bQ,o,Nat.min_eq_right p];by_cases j:n=0
 .subst j;rw[ax rfl];have e2:aO cells off (src.take (0*(sz+1)))=cells:=by rw[qx,fk,ia (by simpa using f)];simp
  exact Pu
 .rw[an j];exact⟨cells,hb,f,h _ rfl rfl rfl⟩
def Ew(l:s.E=fD)(hx:s.val x=.ms (sz+1) id off n c)(o:zs.length=sz+1)(hb:fD.box id=some cells)(f:off+n*(sz+1)<=cells.length)
 (h:∀a,a.box=eR fD.box id (some (aO cells off (kl n zs)))->a.mp=fD.mp->a.Y=fD.Y->gB P GL d pu r s K (.hE []) false a):(MX.clear (sz+1) zs x).wp s (gB P GL d pu r s K):=by
 subst l;simp only[MX.wp,hx,nf,bQ];by_cases j:n=0
 .subst j;rw[ax rfl];have e2:aO cells off (kl 0 zs)=cells:=by rw[show kl 0 zs=[]from rfl,ia (by simpa using f)];simp
  exact Pu
 .rw[an j];exact⟨cells,hb,f,h _ rfl rfl rfl⟩
def Nu{k:Nat}{ys:List V}(o:s.E=fD)(hx:s.val x=.ms (sz+1) id 0 k c)(hy:nF (sz+1) (s.val y)=some ys)(u:lG (sz+1) ys)(Wt:∀l,s.val y≠.str l)(hm:ys.length=m)(hb:fD.box id=some cells)(p:k+m<=c)(q:(k+m)*(sz+1)<=cells.length)(t:k+m<=1073741824)
 (h:∀a,a.box=eR fD.box id (some (aO cells (k*(sz+1)) (b1 ys)))->a.mp=fD.mp->a.Y=fD.Y->gB P GL d pu r s K (.ms (sz+1) id 0 (k+m) c) false a):(MX.v1 (sz+1) zs x y).wp s (gB P GL d pu r s K):=by
 subst o hm;have f:qs s.E (sz+1) (s.val y)=some (ys.length,b1 ys):=by
  exact Ws
 simp only[MX.wp,hx,nf,bQ,f,AF];refine⟨by unfold ir;omega,?_⟩;by_cases j:ys.length=0
 .rw[ax j];have e:ys=[]:=bJ.1 j;subst e;have e2:aO cells (k*(sz+1)) (b1 [])=cells:=by rw[show b1 []=[]from rfl,ia (by simpa using q)];simp
  exact Pu
 .rw[an j,ax p];exact⟨cells,hb,av,by rw[cA];exact h _ rfl rfl rfl⟩
def Jl{k:Nat}{xs rest:List V}(l:s.E=fD)(hx:s.val x=.ms (sz+1) id 0 k c)(o:xs.length=k)(p:lG (sz+1) xs)(q:s.val y=.int .i64 (m:Nat))(hb:fD.box id=some (b1 xs++rest))(hm:0<m)(t:c<k+m)(u:k+m<=1073741824)
 (h:∀a c',k+m<=c'->a.box=eR fD.box fD.Y (some (b1 xs++kl m zs++kl (c'-(k+m)) zs))->a.mp=fD.mp->a.Y=fD.Y+1->gB P GL d pu r s K (.ms (sz+1) fD.Y 0 (k+m) c') false a):(MX.yD (sz+1) zs x y).wp s (gB P GL d pu r s K):=by
 subst l o;have f:=dM p;simp only[MX.wp,hx,nf,bQ,q,bX,AF];refine⟨av,by unfold ir;omega,by unfold ir;omega,?_⟩;rw[an av,an av];refine⟨b1 xs,?_,λc' j=>h _ c' j rfl rfl rfl⟩;have:=r9 (h:=s.E) (id:=id) (A:=[]) (C:=b1 xs) (R:=rest) hb;rw[aT,f]at this;exact this
def Tq(h0:Fv s.E sz (s.val x) (s.val y))(h:gB P GL d pu r s K (.bool false) false s.E):(MX.Wb sz x y).wp s (gB P GL d pu r s K):=⟨h0,h⟩
end
def rQ{o:Option Nat}{E:aJ}:bt o E E:=⟨λ_ _ _=>rfl,λ_ _=>rfl,ao _⟩
def bt.HO{id:Nat}{c:List V}{E a:aJ}(hb:a.box=eR E.box id (some c))(hm:a.mp=E.mp)(d:a.Y=E.Y):bt (some id) E a:=
 ⟨λi _ h=>by rw[hb];exact bE _ _ (λe=>h (by rw[e])),λi _=>by rw[hm],c8 d.symm⟩
def bt.trans{o:Option Nat}{h f h2:aJ}(a:bt o h f)(b:bt o f h2):bt o h h2:=
 ⟨λi d j=>(b.box i (bA d a.Y) j).trans (a.box i d j),λi d=>(b.mp i (bA d a.Y)).trans (a.mp i d),aQ a.Y b.Y⟩
def K4{A:List Nat}{is:List (List Nat)}{i n:Nat}{js rD:List Nat}(D:(A++is.flatten).Nodup)(hb:∀j∈A++is.flatten,j<n)(r:is[i]?=some js)(t:rD.Nodup)(h2:∀j∈rD,j∈js\/n<=j):
 (A++(is.set i rD).flatten).Nodup/\∀j∈A++(is.set i rD).flatten,j∈A++is.flatten\/n<=j:=by
 obtain⟨u,y⟩:=aH.1 r;have z:is=is.take i++js::is.drop (i+1):=by rw[<-y];simp
 have H:is.set i rD=is.take i++rD::is.drop (i+1):=by rw[gi,ax u]
 rw[H];generalize is.take i=X at*
 generalize is.drop (i+1)=Y at*
 subst z;simp only[fA,dk,<-aG]at D hb ⊢
 generalize A++X.flatten=P at*
 generalize Y.flatten=Q at*
 rw[aG]at D hb ⊢
 obtain⟨K,L,q⟩:=aU.1 D;obtain⟨ad,N,ab⟩:=aU.1 L;refine⟨aU.2 ⟨K,aU.2 ⟨t,N,λa f b d e=>?_⟩,λa f b d e=>?_⟩,λj ac=>?_⟩
 .rcases h2 a f with h|h
  .exact ab a h b d e
  .have:=hb b (by simp[d]);omega
 .rcases aR.1 d with o|o
  .rcases h2 b o with h|h
   .exact q a f b (by simp[h]) e
   .have:=hb a (by simp[f]);omega
  .exact q a f b (by simp[o]) e
 .rcases aR.1 ac with h|h
  .exact .inl (by simp[h])
  .rcases aR.1 h with h|h
   .rcases h2 j h with p|p
    .exact .inl (by simp[p])
    .exact .inr p
   .exact .inl (by simp[h])
section
variable {α:Type}{R:aJ->V->α->List Nat->Prop}{sz:Nat}{h:aJ}{v:V}{l:List α}{X:List Nat}
def b9.Wg(ad:lV R)(aD:Jh R)(T:b9 sz R h v l X)(D:X.Nodup){i:Nat}(K:i<l.length):∃id c cells x js rest,v=.ms sz id 0 l.length c/\id<h.Y/\h.box id=some cells/\cells.drop (i*sz)=x.cells++rest/\(i+1)*sz<=cells.length/\jR sz x=true/\R h x l[i] js/\
 js.Nodup/\id∉js/\id∈X/\(∀j∈js,j∈X)/\
 (∀f x' a' rD,h.Y<=f.Y->f.box id=some (aO cells (i*sz) x'.cells)->(∀j,j∈X->j≠id->j∉js->f.box j=h.box j)->jR sz x'=true->R f x' a' rD->rD.Nodup->(∀j∈rD,j∈js\/h.Y<=j)->
  ∃d,b9 sz R f v (l.set i a') d/\d.Nodup/\∀j∈d,j∈X\/h.Y<=j)/\
 (∀f a' rD,h.Y<=f.Y->(∀j,j∈X->j∉js->f.box j=h.box j)->R f x a' rD->rD.Nodup->(∀j∈rD,j∈js\/h.Y<=j)->∃d,b9 sz R f v (l.set i a') d/\d.Nodup/\∀j∈d,j∈X\/h.Y<=j):=by
 have hb:=b9.vr aD _ _ _ _ T;obtain⟨z,is,⟨ho,h1⟩,L,f,N,rfl⟩:=T;have hx:i<z.length:=av;have q:i<is.length:=av;have t:=(aU.1 D).2.1;rcases h1 with⟨_,rfl⟩|⟨id,c,rest,rfl,ai,P,a0,a1⟩
 .exact absurd hx (gN _)
 have dV:∀(k:Nat) r,is[k]?=some r->∀j∈r,j≠id:=λk r o j a e=>(aU.1 D).2.2 id (by simp[bH]) j (g8 o a) e.symm;have aA:is[i].Nodup:=by
  have h1:=t;rw[show is=is.take i++is[i]::is.drop (i+1)by simp]at h1;exact WQ
 have hm:gh sz h (.ms sz id 0 z.length c) z:=⟨ho,.inr ⟨id,c,rest,rfl,ai,P,a0,a1⟩⟩;have aB:=λrD=>K4 (rD:=rD) D hb (aa q);refine⟨id,c,_,z[i],is[i],_,by rw[L],ai,P,iv ho hx rest,?_,ho _ (ah hx),N i _ _ _ (aa hx) (aa K) (aa q),aA,λa=>dV i _ (aa q) id a rfl,by simp[bH],λj a=>aY _ (g8 (aa q) a),?_,?_⟩
 .exact TM
 .intro k x' a' rD Q a2 H aC ab ac u;exact⟨_,b9.set ad hm L f N K rfl aC P a2 Q (λm r y o j a=>⟨hb j (aY _ (g8 o a)),H j (aY _ (g8 o a)) (dV m r o j a) λp=>o0 t (aa q) o y j a p⟩) ab,aB rD ac u⟩
 .intro k a' rD Q H ab ac u;exact⟨_,b9.eR ad hm L f N K (λj a=>H j (ck _ (by simp[a])) λp=>dV i _ (aa q) j p (by simpa[bH]using a.symm)) Q (λm r y o j a=>⟨hb j (aY _ (g8 o a)),H j (aY _ (g8 o a)) λp=>o0 t (aa q) o y j a p⟩) (aa hx) ab,aB rD ac u⟩
end
end Go.Bx
namespace Go.Bx
open Go.Proofs Go.Proofs.Tryz
attribute [local irreducible] vc er dr b4 bV run iD iY i1 i6 iQ i7 i2 iu iS i4 gB i3 cW
def o7(a b:ID):af 70 [a.v,b.v] (B (decide (a=b))):=by
 obtain⟨d,f,j⟩:=a;obtain⟨l,o,p⟩:=b;refine pk f70 ?_;repeat' first|simp only[dq,simprocAttr]|refine cY ?_ ?_<;>intro h<;>(try simp only[bO]at h)<;>(try simp only[h])<;>try simp only[jc]at h|apply p7 rfl rfl
 all_goals exact aj (ar V.bool (by rw[de];simp<;>omega))
def tG(a b:ID):Bool:=if a.J≠b.J then a.J<b.J else if a.seq≠b.seq then a.seq<b.seq else a.k<b.k
def Jm(a b:ID):af 170 [a.v,b.v] (B (tG a b)):=by
 refine pk f170 ?_;repeat' first|refine k9 ?_|refine cs ?_ ?_<;>intro h|refine q1 ?_
 all_goals exact aj (ar V.bool (by simp_all[tG]))
def Nv(a b:cR):af 69 [a.v,b.v] (B (decide (a=b))):=by
 obtain⟨d,f⟩:=a;obtain⟨j,l⟩:=b;refine pk f69 ?_;repeat' first|simp only[dq,simprocAttr]|refine gs ?_ ?_<;>intro h<;>try simp only[h,dtf]|refine lq (o7 d j) ?_|refine lq (o7 f l) ?_|refine q1 ?_
 all_goals exact aj (ar V.bool (by simp_all))
def j0(a b:cR):Bool:=if a.from_≠b.from_ then tG a.from_ b.from_ else tG a.to b.to
def Qx(a b:cR):af 112 [a.v,b.v] (B (j0 a b)):=by
 refine pk f112 ?_;repeat' first|refine k9 ?_|refine cs ?_ ?_<;>intro h|refine lq (o7 a.from_ b.from_) ?_|refine lq (Jm a.from_ b.from_) ?_|refine lq (Jm a.to b.to) ?_|refine q1 ?_
 all_goals exact aj (ar V.bool (by simp_all[j0]))
def UW(l:List ID)(a:ID)(o:l.length<=1000000000):af 68 [eZ l,a.v] (B (decide (a∈l))):=by
 refine pk f68 ?_;repeat' simp only[dq,simprocAttr]
 refine sl (λk:Nat=>k<=l.length/\a∉l.take k) (λk=>[(5,I k,false)]) (λk=>l.length-k) (0) (⟨bR,bR⟩) ?_;rintro k ⟨p,d⟩;rcases am k l.length with j|j
 .repeat' first|refine qu ?_|refine cs ?_ ?_<;>intro h<;>try omega|refine ba (k+1) ?_|refine lq (o7 l[k] a) ?_|refine q1 ?_
  .exact aj (ar V.bool (by subst h;simp))
  .exact⟨av,by rw[bj j];simp only[aR,bg];rintro(f|f);exact d f;exact h f.symm⟩
 .repeat' first|refine k9 ?_|refine cs ?_ ?_<;>intro h<;>try omega|refine q1 ?_
  exact aj (ar V.bool (by rw[az av]at d;simp[d]))
def Jn(a b:List ID)(f:a.length<=1000000000):af 176 [eZ a,eZ b] (B (decide (a=b))):=by
 refine pk f176 ?_;repeat' first|refine k9 ?_|refine cs ?_ ?_<;>intro h|refine q1 ?_
 .exact Ue
 have d:a.length=b.length:=av;refine sl (λk:Nat=>k<=a.length/\a.take k=b.take k) (λk=>[(5,I k,false)]) (λk=>a.length-k) (0) (⟨bR,bR⟩) ?_;rintro k ⟨j,he⟩;rcases am k a.length with h1|h1
 .have h2:k<b.length:=av;repeat' first|refine qu ?_|refine cs ?_ ?_<;>intro h<;>try omega|refine ba (k+1) ?_|refine lq (o7 a[k] b[k]) ?_|refine q1 ?_
  .exact X3
  .exact Mj
 .repeat' first|refine k9 ?_|refine cs ?_ ?_<;>intro h<;>try omega|refine q1 ?_
  exact wc7
def Qy(a b:aK)(d:a.C.length<=1000000000):af 174 [a.v,b.v] (B (decide (a=b))):=by
 obtain⟨f,q,r,t,j⟩:=a;obtain⟨l,u,y,z,o⟩:=b;refine pk f174 ?_;repeat' first|simp only[dq,simprocAttr]|refine gz ?_ ?_<;>intro p h<;>try simp only[p]|refine lq (o7 f l) ?_|refine lq (Jn j o d) ?_|refine q1 ?_
 all_goals exact aj (ar V.bool (by simp_all))
def Nw(a b:List cR)(f:a.length<=1000000000):af 16 [g7 a,g7 b] (B (decide (a=b))):=by
 refine pk f16 ?_;repeat' first|refine k9 ?_|refine cs ?_ ?_<;>intro h|refine q1 ?_
 .exact Ue
 have d:a.length=b.length:=av;refine sl (λk:Nat=>k<=a.length/\a.take k=b.take k) (λk=>[(5,I k,false)]) (λk=>a.length-k) (0) (⟨bR,bR⟩) ?_;rintro k ⟨j,he⟩;rcases am k a.length with h1|h1
 .have h2:k<b.length:=av;repeat' first|refine qu ?_|refine cs ?_ ?_<;>intro h<;>try omega|refine ba (k+1) ?_|refine lq (Nv a[k] b[k]) ?_|refine q1 ?_
  .exact X3
  .exact Mj
 .repeat' first|refine k9 ?_|refine cs ?_ ?_<;>intro h<;>try omega|refine q1 ?_
  exact wc7
end Go.Bx
namespace Go.Bx
open Go.Proofs Go.Proofs.Tryz Go.ChangeShapes
def nm(i:Nat):String:=((prog.globals[i]?).map (·.name)).getD ""
def g0:prog.globalNamed (nm 0)=some 0:=by kernel_rfl
def g1:prog.globalNamed (nm 1)=some 1:=by kernel_rfl
def g0t:(prog.globals[0]?).map (·.type)=some 24:=by kernel_rfl
def g1t:(prog.globals[1]?).map (·.type)=some 327:=by kernel_rfl
def c3:prog.cellsOf 3=1:=by kernel_rfl
def c4:prog.cellsOf 4=1:=by kernel_rfl
def c24:prog.cellsOf 24=3:=by kernel_rfl
def YV:prog.cellsOf 326=9:=by kernel_rfl
def aa2:prog.cellsOf 327=90:=by kernel_rfl
def wa:List (List Bool):=[[false,false,false,false,false,false,false,false,false],[false,false,true,false,false,false,true,false,false],[false,false,true,true,false,true,true,false,true],[true,false,false,false,false,false,false,false,false],[true,false,false,false,true,false,false,false,false],[true,false,false,false,false,false,false,false,false],[true,false,true,true,false,false,false,false,false],[true,true,false,false,false,false,false,false,false],[true,false,false,false,true,false,false,true,true],[true,false,false,false,false,false,false,false,true]]
section
variable {H:Type}{enc:TypeId×Value->H}{w:World}{base:Nat}{sp:Nat->Bool}{held:Bool}
def yK:DataW H->Value
 |.lit (.bool b)=>.bool b
 |.lit (.int k n)=>.int k n
 |_=>.nilFunc
def YW{fuel:Nat}{cs:List Value}{x:DataW H×List MemPlace}(h:DataW.trod enc prog w base sp held fuel 3 cs=some x):cs=[yK x.1]:=by
 obtain⟨m,a,d,_⟩:=DataW.trod_int underlying3 h;rw[a,d];rfl
def YX{fuel:Nat}{cs:List Value}{x:DataW H×List MemPlace}(h:DataW.trod enc prog w base sp held fuel 4 cs=some x):cs=[yK x.1]:=by
 cases fuel with
 |zero=>simp[DataW.trod]at h
 |succ fuel=>
  simp only[DataW.trod,underlying4]at h;split at h<;>simp_all;subst h;rfl
def yL{fuel:Nat}{cs:List Value}{ds:List (DataW H)}{p:List MemPlace}{t tb:TypeId}{fs:List Field}(q:prog.underlying t=some (.struct fs.toArray))(r:prog.cellsOf t=fs.length)(hb:prog.cellsOf tb=1)
 (u:∀(i:Nat) f,fs[i]?=some f->f.offset=i/\f.type=tb) (leaf:∀(fuel:Nat)(cs:List Value)(x:DataW H×List MemPlace),DataW.trod enc prog w base sp held fuel tb cs=some x->cs=[yK x.1])
 (h:DataW.trod enc prog w base sp held fuel t cs=some (.agg ds,p)):cs=ds.map yK:=by
 cases fuel with
 |zero=>simp[DataW.trod]at h
 |succ fuel=>
  simp only[DataW.trod,q,r]at h;split at h
  next N=>
   obtain⟨d,hm,hx⟩:=bS.1 h;have j:d.map (·.1)=ds:=by
    have:=ar Prod.fst hx;simpa using this
   have L:d.length=fs.length:=by simpa using Lib.mapM_length hm
   apply iX;intro i;rw[<-j];by_cases l:i<fs.length
   .obtain⟨b,o,a⟩:=Lib.mapM_at hm i fs[i] (by simp[l]);obtain⟨y,z⟩:=u i fs[i] (by simp[l]);rw[y,z,hb]at a;have D:=leaf _ _ _ a;have K:cs[i]?=some (yK b.1):=by
     have:=ar (·[0]?) D;simpa[dA,c0]using this
    rw[K,bB,bB,o];rfl
   .rw[b0 (by omega),b0 (by simp;omega)]
  .cases h
def HS{fuel:Nat}{cs:List Value}{ds:List (DataW H)}{p:List MemPlace}(h:DataW.trod enc prog w base sp held fuel 24 cs=some (.agg ds,p)):cs=ds.map yK:=
 yL (fs:=[{name:= "By",type:=3,offset:=0,embedded:=false,tag:= "",pkgPath:= "",byteOffset:=0},{name:= "Seq",type:=3,offset:=1,embedded:=false,tag:= "",pkgPath:= "",byteOffset:=8},{name:= "K",type:=3,offset:=2,embedded:=false,tag:= "",pkgPath:= "",byteOffset:=16}]) underlying24 c24 c3
  (λi f a=>by match i with|0|1|2=>cases a;exact⟨rfl,rfl⟩|i+3=>cases a) (λ_ _ _=>YW) h
def K5:∃fs:List Field,prog.underlying 326=some (.struct fs.toArray)/\fs.length=9/\∀(i:Nat) f,fs[i]?=some f->f.offset=i/\f.type=4:=by
 refine⟨_,underlying326,rfl,λi f a=>?_⟩
 match i with
 |0|1|2|3|4|5|6|7|8=>cases a;exact⟨rfl,rfl⟩
 |i+9=>cases a
def Qz{fuel:Nat}{cs:List Value}{ds:List (DataW H)}{p:List MemPlace}(h:DataW.trod enc prog w base sp held fuel 326 cs=some (.agg ds,p)):cs=ds.map yK:=by
 obtain⟨j,a,d,f⟩:=K5;exact yL a (by rw[d];exact YV) c4 f (λ_ _ _=>YX) h
def aa3(cs:List Value)(m:Nat):∀n,cs.length=n*m->(List.range n).flatMap (λi=>(cs.drop (i*m)).take m)=cs:=by
 have:∀k,(List.range k).flatMap (λi=>(cs.drop (i*m)).take m)=cs.take (k*m):=by
  intro k;induction k with
  |zero=>simp
  |succ k ih=>rw[dE,cg,ih,dH,List.take_add];simp
 intro n h;rw[this,az (by omega)]
def Nx{α:Type}(l:List α):(List.range l.length).flatMap (λj=>(l[j]?).toList)=l:=by
 have:∀k,k<=l.length->(List.range k).flatMap (λj=>(l[j]?).toList)=l.take k:=by
  intro k;induction k with
  |zero=>simp
  |succ k ih=>
   intro h;have a:k<l.length:=h;rw[dE,cg,ih (by omega),iq a];simp[a]
 rw[this _ (ao _),be]
def Ny{fuel:Nat}{cs:List Value}{bss:List (List Bool)}{p:List MemPlace}(h:DataW.trod enc prog w base sp held fuel 327 cs=some (.agg (bss.map λa=>.agg (a.map λb=>.lit (.bool b))),p)):cs=bss.flatMap λa=>a.map Value.bool:=by
 cases fuel with
 |zero=>simp[DataW.trod]at h
 |succ fuel=>
  simp only[DataW.trod,underlying327,aa2,YV]at h;split at h
  next r=>
   obtain⟨f,hm,hx⟩:=bS.1 h;have d:f.map (·.1)=bss.map λa=>(.agg (a.map λb=>.lit (.bool b)):DataW H):=by
    have:=ar Prod.fst hx;simpa using this
   have t:f.length=10:=by simpa using Lib.mapM_length hm
   have j:bss.length=10:=by have:=ar List.length d;simp at this;omega
   rw[<-aa3 cs 9 10 r,<-Nx bss,j,List.flatMap_assoc];rw[List.flatMap_def,List.flatMap_def];congr 1;refine ke λi l=>?_;rw[dc]at l;obtain⟨b,hb,o⟩:=Lib.mapM_at hm i i (by simp[l]);have q:(f.map (·.1))[i]?=some b.1:=by simp[hb]
   rw[d,bB,aa (by omega)]at q;have e:b=(.agg (bss[i].map λb=>.lit (.bool b)),b.2):=by
    obtain⟨u,y⟩:=b;have:=au q;simp only at this;rw[<-this]
   rw[e]at o;rw[Qz o,aa (by omega)];simp[yK,Function.comp_def]
  .cases h
end
end Go.Bx
namespace Go.Bx
open Go.Proofs Go.Proofs.Tryz Go.Proofs.YtmbahmpbmcfifaaGreatDoor Go.ChangeShapes Go.WideShapes Go.ChangeAt Go.RowKit
def FM{W:World}(h:laidMetH prog Rows.historyOrderRow.laid W):∀n cells,GL n=some cells->VR (mL W) (.ep cells) (.pointer (some ⟨n,0,none⟩)):=by
 obtain⟨ac,⟨ad,ai,cs,fuel,p,q,y,z,D,H,⟨aA,aB,ab,u,aC,aD,l,o,r,t,_,_⟩,_⟩,_⟩:=h;obtain rfl:=au (g0.symm.trans y);obtain rfl:=au (g0t.symm.trans z);obtain rfl:=au (g1.symm.trans l);obtain rfl:=au (g1t.symm.trans o);have K:=HS H;have L:=Ny (bss:=wa) t;intro n cells a;unfold GL at a;split at a
 next N=>
  subst N;cases a;have key:∀j,W.cell? ⟨0,j,none⟩=([.int .i64 (-1),.int .i64 0,.int .i64 0]:List Value)[j]?:=λj=>by
   have:=World.var?_cell g0 D j;rw[show W.cell? ⟨0,j,none⟩=_ from this,<-di,K];rfl
  refine Nr (λj=>([.int .i64 (-1),.int .i64 0,.int .i64 0]:List Value).getD j .nilFunc) (λj d=>?_) (λj c e=>?_) (λj c e=>?_)
  .match j,d with
   |0,_=>exact key 0
   |1,_=>exact key 1
   |2,_=>exact key 2
  .match j with
   |0|1|2=>cases e;rfl
   |j+3=>cases e
  .match j with
   |0|1|2=>cases e;exact .int _ _
   |j+3=>cases e
 .split at a
  next P=>
   subst P;cases a;have Q:Nk=wa.flatten.map V.bool:=by kernel_rfl
   have R:(wa.flatMap λf=>f.map Value.bool)=wa.flatten.map Value.bool:=by kernel_rfl
   have key:∀j,W.cell? ⟨1,j,none⟩=(wa.flatten.map Value.bool)[j]?:=λj=>by
    have:=World.var?_cell g1 r j;rw[show W.cell? ⟨1,j,none⟩=_ from this,<-di,L,R]
   rw[Q];generalize wa.flatten=f at*
   refine Nr (λj=>.bool (f.getD j false)) (λj d=>?_) (λj c e=>?_) (λj c e=>?_)
   .rw[aq]at d;rw[key j,bB,ap,aa d];rfl
   .rw[bB]at e;obtain⟨b,_,rfl⟩:=bS.1 e;rfl
   .rw[bB]at e;obtain⟨b,hb,rfl⟩:=bS.1 e;rw[ap,hb];exact .bool _
  .cases a
def Ey:∀n cells,GL n=some cells->(V.ep cells).free=true:=by
 intro n cells a;unfold GL at a;split at a
 .cases a;rfl
 .split at a
  .cases a;kernel_rfl
  .cases a
def K6{w w':World}{g':aW}(h:Step (mL w) w g' w'):Below w.heap.size w w':=
 ⟨h.gW.os,h.gW.tape,h.gW.out,h.size,(Nq h).1⟩
def Ez{w w':World}(h:Below w.heap.size w w'){a:Addr}(d:a.block<w.heap.size):w'.frozen? a=w.frozen? a:=by
 unfold World.frozen?;rw[h.block _ d]
def Cz{H:Type}{enc:TypeId×Value->H}{P:Program}{f:Func}{s:ChangeSpec}{apart fresh handsOn again:Bool}{W o:World}{args:Array Value}{v:Value}{ds gs:List (DataW H)}{before pa pv:List MemPlace}
 (u:DataW.Whole enc P f.params.toList s.vars apart W args.toList ds gs before)
 (q:∀(b:Nat)(sp:Nat->Bool)(K:Bool),DataW.TrodAll enc P o b sp K f.resultTypes.toList (v.resultList f.resultTypes.size) (s.fn H (ds++gs)).results [])
 (a:∀sp:Nat->Bool,(∀p∈before,sp p.block=true)->DataW.TrodAll enc P o 0 sp true f.params.toList args.toList (s.fn H (ds++gs)).args pa)
 (d:∀sp:Nat->Bool,(∀p∈before,sp p.block=true)->DataW.TrodVars enc P o sp s.vars (s.fn H (ds++gs)).vars pv)
 (l:before=pa++pv) (hb:Below W.heap.size W o)
 (z:∀(j:Nat)(t:TypeId)(r:Value),f.resultTypes[j]?=some t->(v.resultList f.resultTypes.size)[j]?=some r->Value.okWide P o .any 0 t r):
 s.post enc P f apart fresh handsOn again W args v o:=by
 have hold:∀p∈before,(λb=>decide (b<W.heap.size)) p.block=true:=λp E=>by simpa using u.lt p E
 have D:∀p∈before,p.block<W.heap.size:=λp E=>by simpa using u.lt p E
 refine⟨ds,gs,before,[],pa,pv,u,q _ _ _,a _ hold,d _ hold,World.keptBut_mono (λp E=>⟨E,?_⟩) (hb.frame (· ∈before)),λ_=>?_⟩
 .rw[l,aR]at E;exact Or.inr E
 .obtain⟨_,_,_,_,_,L,N⟩:=u;refine⟨z,_,_,([]++pa)++pv,⟨[]++pa,pv,trodAll_append (a _ (λ_ _=>rfl)) (q _ _ _),d _ (λ_ _=>rfl),rfl,?_,?_⟩,?_⟩
  .intro b off E;have y:MemPlace.cell b off∈before:=by rw[l];simpa using E
   rw[Ez hb (D _ y)];exact L b off y
  .intro Q;have:=N Q;rw[l]at this;simpa using this
  .intro p E _;rw[l];simpa using E
def Nz:laidOutB prog=true:=by kernel_rfl
def Be(walk:∀(a:List Int)(b c:Int),(∀n∈a,-9223372036854775808<=n/\n<=9223372036854775807)->(-9223372036854775808<=b/\b<=9223372036854775807)->(-9223372036854775808<=c/\c<=9223372036854775807)->af 8 [fx a,I b,I c] (B true))(H:Type)(enc:TypeId×Value->H)(W:World)(base:Nat)(args:Array Value)(ds gs:List (DataW H))(before:List MemPlace)
 (d:∀(j:Nat) t v,f8.params[j]?=some t->args[j]?=some v->Value.okWide prog W .any base t v)
 (ac:DataW.Whole enc prog f8.params.toList Rows.historyOrderSpec.vars false W args.toList ds gs before) (a9:laidMetH prog Rows.historyOrderRow.laid W):
 Calls prog 8 args W λe D=>∃v,e=.returned v/\Rows.historyOrderSpec.post enc prog f8 false true false false W args v D:=by
 have u:=ac;obtain⟨p,q,ad,bi,rfl,b6,b7⟩:=ac;have ai:DataW.TrodAll enc prog W 0 (λ_=>true) true f8.params.toList args.toList ds p:=ad;rw[Tryz.params8]at ai d;obtain⟨aA,ca,d0,cb,aB,c2,a8,rfl,rfl,aC,bo⟩:=trodAll_cons ai;obtain⟨K,cc,c5,ch,c6,q1,rfl,rfl,rfl,aD,br⟩:=trodAll_cons bo;obtain⟨L,ci,c7,cp,c9,dd,rfl,rfl,rfl,a0,bs⟩:=trodAll_cons br;obtain⟨rfl,rfl,rfl⟩:=trodAll_nil bs;obtain rfl:args=#[aA,K,L]:=by cases args;simp_all
 obtain⟨rfl,rfl⟩:=trodVars_none bi;have dg:=open_int underlying3 (d 1 3 K rfl rfl) aD;have dp:=open_int underlying3 (d 2 3 L rfl rfl) a0;obtain⟨fuel,bu⟩:=id aC;obtain⟨N,len,cap,rfl⟩:=okWide_slice underlying22 (d 0 22 aA rfl rfl);obtain⟨Q,rfl,rfl,rfl,a1⟩:=open_int underlying3 (d 1 3 K rfl rfl) aD;obtain⟨R,rfl,rfl,rfl,a2⟩:=open_int underlying3 (d 2 3 L rfl rfl) a0;have ab:∀n:Int,(Lit.int .i64 n).wf=true-> -9223372036854775808<=n/\n<=9223372036854775807:=λn h=>by
  have l:IntKind.i64.min= -9223372036854775808:=by decide
  have y:IntKind.i64.max=9223372036854775807:=by decide
  simpa[Lit.wf,l,y]using h
 have a3:=aC;simp only[cP]at u;have a4:∀x∈aB,x.block<W.heap.size:=λx hx=>by simpa using u.lt x hx
 have fin:∀(zs:List Int),(∀n∈zs,-9223372036854775808<=n/\n<=9223372036854775807)->VR (mL W) (fx zs) (.slice N len cap)->Calls prog 8 #[.slice N len cap,.int .i64 Q,.int .i64 R] W λe D=>∃v,e=.returned v/\Rows.historyOrderSpec.post enc prog f8 false true false false W #[.slice N len cap,.int .i64 Q,.int .i64 R] v D:=by
  intro zs a5 bv;refine(walk zs Q R a5 (ab _ a1) (ab _ a2)).2.2 (mL W) W _ (HN (FM a9) Ey rfl ?_) _ ?_
  .intro j v x l y
   match j with
   |0=>cases l;cases y;exact bv
   |1=>cases l;cases y;exact .int _ _
   |2=>cases l;cases y;exact .int _ _
   |j+3=>cases l
  .rintro r x o c1 dF D ⟨rfl,rfl⟩ out;have hx:x=.bool true:=by cases out.res;rfl
   subst hx;have hb:=K6 out.step;have wf:∀n:Int,(Lit.int .i64 n).wf=true->(Lit.int .i64 n).wf=true:=λ_ h=>h;refine⟨_,rfl,Cz (pa:=aB++([]++([]++[]))) (pv:=[]) u ?_ ?_ ?_ (by simp) hb ?_⟩
   .exact λ_ _ _=>trodAll_cons_mk (shut_bool underlying4 _) trodAll_mk0
   .intro sp z;have bU:=WideElems.Trod_stays (P:=prog) Nz (by kernel_rfl) (lA (by kernel_rfl)) a3 (λx hx=>hb.same (a4 x hx)) (sp':=sp) (λx hx=>z x (by simpa using hx));exact trodAll_cons_mk bU (trodAll_cons_mk (shut_int underlying3 a1) (trodAll_cons_mk (shut_int underlying3 a2) trodAll_mk0))
   .exact λ_ _=>rfl
   .exact ok_one (by kernel_rfl) rfl (okWide_bool_mk underlying4 _)
 rcases open_ints underlying22 underlying3 c3 bu with⟨f,hx⟩|⟨a,b2,b3,zs,f,_,dU,hm,b5,hx,iI,a6⟩
 .simp[Value.cells]at f;obtain⟨rfl,rfl,rfl⟩:=f;exact fin [] (λn h=>by cases h) (.slnil 1)
 .simp[Value.cells]at f;obtain⟨rfl,rfl,rfl⟩:=f;simp only[bQ]at b5;have hlen:(zs.take len).length=len:=by rw[aF];omega
  refine fin (zs.take len) (λn h=>ab n (a6 n (eE h))) ?_;have z:a.spot=none:=by
   have a7:=d 0 22 _ rfl rfl;simp only[Value.okWide,underlying22,Cell.okWide,Cell.ok,World.has]at a7;exact a7.2.2.2.1
  have:=Ns (w:=W) (a:=a) (cap:=cap) (zs:=zs.take len) z (by omega) (λi ea=>by
   rw[iI i (by omega)];congr 2;rw[ap,ap,dA,ax (by omega)])
  rw[hlen]at this;exact this
end Go.Bx
