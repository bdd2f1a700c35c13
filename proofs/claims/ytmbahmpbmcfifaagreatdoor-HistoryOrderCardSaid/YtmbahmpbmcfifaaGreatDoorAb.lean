/- Lemmas for HistoryOrder. -/
import Derived.Test.YtmbahmpbmcfifaaGreatDoorAa
import Derived.Carry
import Derived.Deep.LoopGhost
import Derived.Laws.Build
noncomputable section
set_option linter.all false
namespace Go.Bx
section
variable {GL:Nat->Option (List V)}{P:Program}
def G2{g:aW}{neg:Bool}{t:TypeId}{f:List CK}{s:St}{v:V}{x y:Value}{q u:Operand}{D bo:eO}{w:World}(R:gG P 8 t=some f)(ab:fq P t=some true)
 (ac:P.eqGuardType P.depth t=false) (hx:ER g (s.val D) x) (H:ER g (s.val bo) y) (h:dw s (.eqc neg f D bo)=some v):
 ∃z,(do eqGuard (if neg then .neq else .eql) t q u x y;binOp (if neg then .neq else .eql) t x y:Sem Value).run P w=.ok z w/\ER g v z:=by
 simp only[dw]at h;split at h
 next a b K L=>
  rw[K]at hx;rw[L]at H;cases l:dJ f a b with
  |none=>simp[l]at h
  |some r=>
   simp[l]at h;subst h;obtain⟨N,rfl,ad,aC,ai⟩:=hx.agg;obtain⟨Q,rfl,aA,aD,aB⟩:=H.agg;have d:=tv (g:=g) w 8 (9999+1) t f R av a b N.toList Q.toList r ⟨by simp[ad],λj c x o p=>ai j c x o (by simpa using p)⟩ ⟨by simp[aA],λj c x o p=>aB j c x o (by simpa using p)⟩ l;simp only[xM,ab,bQ,Array.toArray_toList]at d;exact⟨_,oY neg (run_eqGuard_agg w _ t q u N Q ac) rfl rfl d,VR.fb (.bool _)⟩
 .cases h
def kV(GL:ak):Option Operand->Option (Option eO)
 |none=>some none
 |some x=>(eC GL x).map some
def run_sliceBound{P:Program}{a:IntKind}{k y:Nat}(h:k<=y)(c:BoundsCode)(w:World):(Instr.sliceBound (.int a k) y c).run P w=.ok k w:=by
 simp only[Instr.sliceBound,asIntOf,Sem.run_bind,Sem.run_pure,Result.andThen_ok];rw[ax ⟨av,by exact_mod_cast h⟩];simp
def lB{g:aW}{s:St}{a:Act}{w:World}(R:Rel GL g s a w){lo hi:Option Operand}{d f:Option eO}{len cap l h:Nat}{isS:Bool}(j:len<=cap)
 (h1:kV GL lo=some d) (h2:kV GL hi=some f) (hc:tr s len d f=some (l,h)):
 (Instr.sliceBounds isS len cap (lo.map a.eval) (hi.map a.eval) none).run P w=.ok (l,h,cap) w/\l<=h/\h<=len:=by
 unfold tr at hc;exact bb1
def pX{g:aW}{s:St}{a:Act}{w:World}(R:Rel GL g s a w){lo hi:Option Operand}{d f:Option eO}{len cap l h:Nat}{isS:Bool}(j:len<=cap)
 (h1:kV GL lo=some d) (h2:kV GL hi=some f) (hc:tY s len cap d f=some (l,h)):
 (Instr.sliceBounds isS len cap (lo.map a.eval) (hi.map a.eval) none).run P w=.ok (l,h,cap) w/\l<=h/\h<=cap:=by
 unfold tY at hc;exact bb1
def VR.sub{g:aW}{sz:Nat}{xs:List V}{a:Addr}{cap:Nat}{ys:Nat->Value}(y:a.spot=none)(z:xs.length<=cap)
 (o:∀(i:Nat) v,xs[i]?=some v->v.cells.length=sz) (p:∀k,k<xs.length*sz->g.bL a.block (a.off+k)=.gZ (ys k))
 (q:∀(i:Nat) v (j:Nat) c,xs[i]?=some v->v.cells[j]?=some c->c.one=true)
 (r:∀(i:Nat) v (j:Nat) c,xs[i]?=some v->v.cells[j]?=some c->VR g c (ys (i*sz+j))) {l h m:Nat} (D:l<=h) (h2:h<=xs.length) (t:h-l<=m):
 VR g (.sl sz ((xs.drop l).take (h-l))) (.slice (some (cl a.block (a.off+l*sz))) (h-l) m):=by
 have hlen:((xs.drop l).take (h-l)).length=h-l:=by simp;omega
 have get:∀(i:Nat) v,((xs.drop l).take (h-l))[i]?=some v->xs[l+i]?=some v/\i<h-l:=by
  intro i v e;exact WP
 have:=VR.sl (g:=g) sz ((xs.drop l).take (h-l)) (cl a.block (a.off+l*sz)) m (λk=>ys (l*sz+k)) rfl (by rw[hlen];exact t)
  (λi v e=>o _ v (get i v e).1) (λk u=>by
   rw[hlen]at u;have hle:l*sz+(h-l)*sz<=xs.length*sz:=by rw[<-dK];exact cj _ av
   have:=p (l*sz+k) av;simpa[cl,cn]using this) (λi v j c d f=>q _ v j c (get i v d).1 f) (λi v j c d f=>by
   have:=r _ v j c (get i v d).1 f;rw[dK,cn]at this;exact this)
 rwa [hlen]at this
def Fk{g:aW}{s:St}{a:Act}{w:World}(R:Rel GL g s a w){t:TypeId}{x lo q}{r:eO}{d f:Option eO}{v:V}
 (D:P.underlying t=some .string) (h0:eC GL x=some r) (H:kV GL lo=some d) (h2:kV GL q=some f) (E:dw s (.D5 r d f)=some v):
 ∃y,(Instr.sliceAt t (a.eval x) (lo.map a.eval) (q.map a.eval) none).run P w=.ok y w/\ER g v y:=by
 have hx:=cv R h0;simp only[dw]at E;split at E
 next l K=>
  rw[K]at hx;cases o:tr s l.length d f with
  |none=>simp[o]at E
  |some p=>
   obtain⟨i,j⟩:=p;simp[o]at E;subst E;obtain⟨hb,L,N⟩:=lB (P:=P) (isS:=false) R (ao l.length) H h2 o;have u:=hx.str;rw[u];refine⟨.string ⟨((l.drop i).take (j-i)).toArray⟩,?_,VR.fb (.str _)⟩;have z:(⟨l.toArray⟩:ByteArray).size=l.length:=by simp[ByteArray.size]
   simp only[Instr.sliceAt,Instr.slice,Sem.run_bind,run_underlying D,Result.andThen_ok,cL,bM,cE,z,hb,Sem.run_pure];congr 2;apply ByteArray.ext;simp[m0]
 .cases E
def Hl{g:aW}{s:St}{a:Act}{w:World}(R:Rel GL g s a w){t e:TypeId}{sz:Nat}{x lo ab}{ai:eO}{z D:Option eO}{v:V}
 (a1:P.underlying t=some (.slice e)) (a2:nk P e=some sz) (h0:eC GL x=some ai) (L:kV GL lo=some z) (h2:kV GL ab=some D)
 (E:dw s (.cut sz ai z D)=some v):
 ∃y,(Instr.sliceAt t (a.eval x) (lo.map a.eval) (ab.map a.eval) none).run P w=.ok y w/\ER g v y:=by
 have hx:=cv R h0;simp only[dw]at E
 .skip;have o:∀(base:Option Addr)(len cap l h:Nat),(Instr.sliceBounds true len cap (lo.map a.eval) (ab.map a.eval) none).run P w=.ok (l,h,cap) w->
   (Instr.sliceAt t (.slice base len cap) (lo.map a.eval) (ab.map a.eval) none).run P w=.ok (.slice (if cap=l then base else base.map (·.add (l*sz))) (h-l) (cap-l)) w:=by
   intro base len cap l h hb;simp only[Instr.sliceAt,Instr.slice,Sem.run_bind,run_underlying a1,Result.andThen_ok,hb,fj a2,Sem.run_pure]
  split at E
  next aA aB N=>
   split at E
   next Q=>
    subst Q;cases f:tr s aB.length z D with
    |none=>simp[f]at E
    |some p=>
     obtain⟨i,j⟩:=p;simp[f]at E;subst E;rw[N]at hx;rcases hx.sl with⟨rfl,r⟩|⟨a3,cap,a4,r,ac,u,a5,aC,a6,a7⟩
     .obtain⟨hb,H,d⟩:=lB (P:=P) (isS:=true) R (ao 0) L h2 f;simp at d;subst d;have:i=0:=av;subst this;rw[r,o none 0 0 0 0 hb];exact⟨_,rfl,by simpa using VR.fb (VR.slnil (g:=g) sz)⟩
     .obtain⟨hb,H,d⟩:=lB (P:=P) (isS:=true) R u L h2 f;rw[r,o _ _ _ _ _ hb];refine⟨_,rfl,?_⟩;by_cases K:cap=i
      .subst K;have ad:j=cap:=av;subst ad;have:(aB.drop j).take (j-j)=[]:=bR;rw[ax rfl,this];have:=VR.sl (g:=g) sz [] a3 (j-j) a4 ac bR bR bR bR bR;simpa using this.fb
      .rw[an K];simp only[bG,add_eq ac];exact(VR.sub ac u a5 aC a6 a7 H d av).fb
   .cases E
  next N=>
   cases f:tr s 0 z D with
   |none=>simp[f]at E
   |some p=>
    obtain⟨i,j⟩:=p;simp[f]at E;subst E;rw[N]at hx;obtain⟨hb,H,d⟩:=lB (P:=P) (isS:=true) R (ao 0) L h2 f;simp at d;subst d;have:i=0:=av;subst this;rw[hx.aP,o none 0 0 0 0 hb];exact⟨_,rfl,by simpa using VR.fb (VR.aP (g:=g))⟩
  next aA id off n c N=>
   split at E
   next Q=>
    subst Q;cases f:tY s n c z D with
    |none=>simp[f]at E
    |some p=>
     obtain⟨i,j⟩:=p;simp[f]at E;subst E;rw[N]at hx;rcases hx.ms with⟨b,aD,r,u⟩|⟨rfl,rfl,q,r,a0⟩
     .obtain⟨hb,H,d⟩:=pX (P:=P) (isS:=true) R u L h2 f;rw[r,o _ _ _ _ _ hb];refine⟨_,rfl,?_⟩;by_cases K:c=i
      .subst K;have ad:j=c:=av;subst ad;rw[iM];exact VR.fb (.Fj _ _ _ _ (by rintro a e;simp at e;subst e;rfl))
      .rw[an K];simp only[bG,add_eq (a:=⟨b,off,none⟩) rfl];exact VR.fb (.ms _ _ _ _ _ b aD av)
     .obtain⟨hb,H,d⟩:=pX (P:=P) (isS:=true) R (ao 0) L h2 f;simp at d;subst d;have:i=0:=av;subst this;rw[r,o q 0 0 0 0 hb];exact⟨_,rfl,VR.fb (.Fj _ _ _ _ (by simpa using a0))⟩
   .cases E
  .cases E
def V.Al{v:V}(h:v.one=true):v.cells=[v]:=by cases v<;>first|rfl|(simp[V.one]at h)
def yw{lo:Option Operand}(h:kV GL lo=some none):lo=none:=by
 cases lo with
 |none=>rfl
 |some x=>cases e:eC GL x<;>simp[kV,e]at h
def Fl{g:aW}{s:St}{a:Act}{w:World}(R:Rel GL g s a w){t e:TypeId}{n:Nat}{x lo u}{H:eO}{v:V}
 (K:P.underlying t=some (.array n e)) (L:nk P e=some 1) (h0:eC GL x=some H) (N:kV GL lo=some none) (h2:kV GL u=some none)
 (E:dw s (.nQ n H)=some v):
 ∃y,(Instr.sliceAt t (a.eval x) (lo.map a.eval) (u.map a.eval) none).run P w=.ok y w/\ER g v y:=by
 have hx:=cv R h0;obtain rfl:=yw N;obtain rfl:=yw h2;have run:∀(p:Addr),p.spot=none->(Instr.sliceAt t (.pointer (some p)) none none none).run P w=.ok (.slice (some p) n n) w:=by
  intro p l;have:(Instr.sureAddr (.pointer (some p))).run P w=.ok p w:=by simp[Instr.sureAddr]
  simp only[Instr.sliceAt,Sem.run_bind,run_underlying K,Result.andThen_ok,this,Instr.sliceBounds,fj L,pure_bind,Sem.run_pure];simp[add_eq l,cl];obtain⟨b,o,q⟩:=p;subst l;exact λ_=>rfl
 simp only[dw]at E;split at E
 next id o z=>cases E;rw[z]at hx;obtain⟨b,hb,r⟩:=hx.bp;simp only[jp,r];exact⟨_,run _ rfl,VR.fb (.ms _ _ _ _ _ b hb (ao _))⟩
 next cells z=>
  split at E
  next ad=>
   cases E;rw[z]at hx;obtain⟨p,Q,r,l,u,D,ab⟩:=hx.ep;simp only[jp,r];refine⟨_,run _ l,?_⟩;have hlen:(cells.take n).length=n:=by rw[aF];omega
   have get:∀(i:Nat) v (j:Nat) c,(cells.take n)[i]?=some v->v.cells[j]?=some c->cells[i]?=some c/\j=0:=by
    intro i v j c d f;rw[dA]at d;split at d
    .rw[V.Al (D _ _ d)]at f;cases j with
     |zero=>simp at f;subst f;exact⟨d,rfl⟩
     |succ j=>simp at f
    .cases d
   have:=VR.sl (g:=g) 1 (cells.take n) p n Q l (by rw[hlen];exact ao _) (λi v d=>by
    rw[dA]at d;split at d
    .rw[V.Al (D _ _ d)];rfl
    .cases d) (λk ai=>u k av) (λi v j c d f=>D _ _ (get i v j c d f).1) (λi v j c d f=>by
    obtain⟨ac,rfl⟩:=get i v j c d f;simpa using ab _ _ ac)
   rw[hlen]at this;exact this.fb
  .cases E
 .cases E
end
section
variable {GL:Nat->Option (List V)}{P:Program}
def VR.sublist{g:aW}{cs:List V}{xs:Array Value}(o:xs.size=cs.length)(d:∀(j:Nat) c,cs[j]?=some c->c.one=true)(f:∀(j:Nat) c y,cs[j]?=some c->xs[j]?=some y->VR g c y)
 (off n:Nat) (h:off+n<=cs.length):VR g (.agg ((cs.drop off).take n)) (.agg (xs.extract off (off+n))):=by
 refine .agg _ _ (by simp;omega) (λj c a=>?_) (λj c x a hx=>?_)
 .rw[dA]at a;split at a
  .rw[c0]at a;exact d _ c a
  .cases a
 .rw[dA]at a;split at a
  next l=>
   rw[c0]at a;rw[mZ]at hx;split at hx
   .exact f _ c x a hx
   .cases hx
  .cases a
def yx{g:aW}{t:TypeId}{ag:Bool}{n off:Nat}{cs:List V}{xs:Array Value}{v:V}(w:World)(d:fq P t=some ag)(l:nk P t=some n)
 (o:xs.size=cs.length) (p:∀(j:Nat) c,cs[j]?=some c->c.one=true) (f:∀(j:Nat) c y,cs[j]?=some c->xs[j]?=some y->VR g c y)
 (a:(if ag then(if off+n<=cs.length then some (V.agg ((cs.drop off).take n))else none)else cs[off]?)=some v):
 ∃y,(part t xs off).run P w=.ok y w/\ER g v y:=by
 cases ag with
 |true=>
  simp only[bQ]at a;split at a
  next hle=>cases a;refine⟨.agg (xs.extract off (off+n)),?_,(VR.sublist o p f off n hle).fb⟩;simp[part,nu d,fj l]
  .cases a
 |false=>
  simp only[bM,cE]at a;have q:=bZ a;have hx:xs[off]?=some xs[off]:=bR;exact⟨xs[off],by simp only[part,Sem.run_bind,nu d,Result.andThen_ok,bM,cE,hx,Sem.run_pure],(f off v _ a hx).fb⟩
def D7{g:aW}{s:St}{fs:Array Field}{t:TypeId}{f:Field}{i n:Nat}{ag:Bool}{x:Value}{v:V}{a:eO}{w:World}
 (d:P.underlying t=some (.struct fs)) (j:fs[i]?=some f) (l:fq P f.type=some ag) (o:nk P f.type=some n) (hx:ER g (s.val a) x) (E:dw s (.field ag f.offset n a)=some v):
 ∃y,(Instr.field t x i).run P w=.ok y w/\ER g v y:=by
 have key:∀cs,s.val a=.agg cs->(if ag then(if f.offset+n<=cs.length then some (V.agg ((cs.drop f.offset).take n))else none)else cs[f.offset]?)=some v->
  ∃y,(Instr.field t x i).run P w=.ok y w/\ER g v y:=by
  intro cs hv p;rw[hv]at hx;obtain⟨D,rfl,q,r,u⟩:=hx.agg;obtain⟨y,z,hv⟩:=yx w l o q r u p;exact⟨y,by simp[Instr.field,run_underlying d,j,asAgg,z],hv⟩
 cases ag with
 |true=>
  exact WS
 |false=>
  exact WS
def Cn{g:aW}{s:St}{t e:TypeId}{len n:Nat}{ag:Bool}{x i:Value}{v:V}{j io:eO}{w:World}
 (p:P.underlying t=some (.array len e)) (q:fq P e=some ag) (l:nk P e=some n) (hx:ER g (s.val j) x) (r:ER g (s.val io) i) (E:dw s (.tX ag len n j io)=some v):
 ∃y,(Instr.index t x i).run P w=.ok y w/\ER g v y:=by
 have key:∀cs k,s.val j=.agg cs->idxOf (s.val io)=some k->k<len->(if ag then(if k*n+n<=cs.length then some (V.agg ((cs.drop (k*n)).take n))else none)else cs[k*n]?)=some v->
  ∃y,(Instr.index t x i).run P w=.ok y w/\ER g v y:=by
  intro cs k a d o u;rw[a]at hx;obtain⟨L,rfl⟩:=mW d r;obtain⟨N,rfl,z,D,H⟩:=hx.agg;obtain⟨y,K,a⟩:=yx w q l z D H u;refine⟨y,?_,a⟩;simp only[Instr.index,asIntOf,Sem.run_bind,Sem.run_pure,Result.andThen_ok,run_underlying p];rw[ax ⟨av,by exact_mod_cast o⟩];simp[fj l,K]
 cases ag with
 |true=>
  simp only[dw]at E;split at E
  next cs k a d=>
   split at E
   next f=>exact key cs k a d f.1 (by simpa[f.2]using E)
   .cases E
  .cases E
 |false=>
  simp only[dw]at E;split at E
  next cs k a d=>
   split at E
   next f=>exact key cs k a d f (by simpa using E)
   .cases E
  .cases E
def Co{g:aW}{s:St}{t:TypeId}{x i:Value}{v:V}{d io:eO}{w:World}
 (f:P.underlying t=some .string) (hx:ER g (s.val d) x) (j:ER g (s.val io) i) (E:dw s (.xJ d io)=some v):
 ∃y,(Instr.index t x i).run P w=.ok y w/\ER g v y:=by
 simp only[dw]at E;split at E
 next l k o p=>
  rw[o]at hx;obtain⟨r,rfl⟩:=mW p j;cases e:l[k]? with
  |none=>simp[e]at E
  |some b=>
   simp[e]at E;subst E;have a:=bZ e;refine⟨.int .u8 b.toNat,?_,VR.fb (.int _ _)⟩;rw[hx.str];have hb:(⟨l.toArray⟩:ByteArray)[k]?=some b:=by
    have q:k< (⟨l.toArray⟩:ByteArray).size:=by simpa[ByteArray.size]using a
    rw[getElem?_pos (⟨l.toArray⟩:ByteArray) k q];rw[getElem?_pos l k a]at e;exact e
   simp[Instr.index,asIntOf,run_underlying f,hb]
 .cases E
def ze{g:aW}{s:St}{t e:TypeId}{len sz:Nat}{x i:Value}{v:V}{D io:eO}{w:World}
 (H:P.underlying t=some (.array len e)) (K:nk P e=some sz) (hx:ER g (s.val D) x) (q:ER g (s.val io) i) (E:dw s (.rX len sz D io)=some v):
 ∃y,(Instr.indexAt t x i).run P w=.ok y w/\ER g v y:=by
 have run:∀(f:Addr)(a:IntKind)(k:Nat),f.spot=none->k<len->(Instr.indexAt t (.pointer (some f)) (.int a k)).run P w=.ok (.pointer (some (cl f.block (f.off+k*sz)))) w:=by
  intro f a k u l;simp only[Instr.indexAt,asIntOf,Sem.run_bind,Sem.run_pure,Result.andThen_ok,run_underlying H,Instr.sureAddr];rw[ax ⟨av,by exact_mod_cast l⟩];simp[fj K,add_eq u]
 simp only[dw]at E;split at E
 next st R o k r l=>
  split at E
  next d=>cases E;rw[r]at hx;obtain⟨a,rfl⟩:=mW l q;obtain⟨b,z,rfl⟩:=hx;exact⟨_,run _ a k rfl d,b,z,rfl⟩
  .cases E
 next id o k r l=>
  split at E
  next d=>cases E;rw[r]at hx;obtain⟨a,rfl⟩:=mW l q;obtain⟨b,z,rfl⟩:=hx.bp;exact⟨_,run _ a k rfl d,VR.fb (.bp _ _ b z)⟩
  .cases E
 next cells k r l=>
  split at E
  next d=>
   cases E;rw[r]at hx;obtain⟨a,rfl⟩:=mW l q;obtain⟨f,L,rfl,u,q,N,Q⟩:=hx.ep;refine⟨_,run f a k u d.1,VR.fb (.ep _ _ (λj=>L (k*sz+j)) rfl (λj p=>?_) (λj c p=>?_) (λj c p=>?_))⟩
   .simp at p;have:=q (k*sz+j) av;simpa[cl,cn]using this
   .rw[c0]at p;exact N _ _ p
   .rw[c0]at p;exact Q _ _ p
  .cases E
 .cases E
def D8{g:aW}{s:St}{a:Act}{w:World}(R:Rel GL g s a w){src dst e:TypeId}{x:Value}{v:V}{D:eO}
 (hs:P.underlying src=some (.slice e)) (he:P.underlying e=some (.int .u8)) (hd:P.underlying dst=some .string) (hx:ER g (s.val D) x) (E:dw s (.CN D)=some v):
 ∃y,(convert src dst x).run P w=.ok y w/\ER g v y:=by
 simp only[dw]at E;split at E
 next f t=>
  cases hb:Bx.bytesOf f with
  |none=>simp[hb]at E
  |some l=>
   simp[hb]at E;subst E;rw[t]at hx;rcases hx.sl with⟨rfl,rfl⟩|⟨u,cap,ac,rfl,H,L,ad,K,ai,N⟩
   .simp[Bx.bytesOf]at hb;subst hb;exact WH
   ·
    have conv:∀(f:List V)(l:List UInt8),Bx.bytesOf f=some l->∃d:List Int,f=d.map (V.int .u8)/\l=d.map λn=>UInt8.ofNat n.toNat:=by
     intro f;induction f with
     |nil=>intro l h;simp[Bx.bytesOf]at h;subst h;exact⟨[],rfl,rfl⟩
     |cons c f ih=>
      intro l h;cases c<;>first|(simp[Bx.bytesOf]at h;done)|skip
      rename_i k n;cases k<;>first|(simp[Bx.bytesOf]at h;done)|skip
      simp only[Bx.bytesOf]at h;cases o:Bx.bytesOf f with
      |none=>simp[o]at h
      |some Q=>
       simp[o]at h;subst h;obtain⟨d,rfl,rfl⟩:=ih Q o;exact⟨n::d,rfl,rfl⟩
    obtain⟨d,rfl,rfl⟩:=conv f l hb;have p:(loadCells u (d.map (V.int IntKind.u8)).length).run P w=.ok (d.map (Value.int .u8)).toArray w:=by
     rw[run_loadCells P _ w u (λk=>.int .u8 (d.getD k 0)) H]
     .congr 2;apply iX;intro j;simp only[aq,bB,List.getElem?_range'];by_cases z:j<d.length
      .simp[z]
      .simp[z,b0 (Nat.le_of_not_lt z)]
     .intro k q;simp at q;have ab:=R.gA.gZ _ _ _ (K k (by simpa using q));rw[ab];have o:=N k (.int .u8 d[k]) 0 (.int .u8 d[k]) (by simp[q]) (by simp[V.cells]);simp only[kL,dj]at o;rw[o.fb.int];simp[q]
    rw[run_convert_bytes_string w src dst e _ _ _ hs he hd,run_bytesToString w u _ cap d p];refine⟨_,rfl,?_⟩;have:(d.foldl (λr n=>r.push (UInt8.ofNat n.toNat)) ByteArray.empty)=⟨(d.map λn=>UInt8.ofNat n.toNat).toArray⟩:=by
     have gen:∀(d:List Int)(r:ByteArray),d.foldl (λr n=>r.push (UInt8.ofNat n.toNat)) r=⟨r.data++(d.map λn=>UInt8.ofNat n.toNat).toArray⟩:=by
      intro d;induction d with
      |nil=>intro r;simp
      |cons n d ih=>intro r;rw[fo,ih];simp[ByteArray.push]
     rw[gen];simp
    rw[this];exact VR.fb (.str _)
 next t=>cases E;rw[t]at hx;rw[hx.aP];exact WH
 .cases E
end
section
variable {GL:Nat->Option (List V)}{P:Program}
def pG{g:aW}{v:V}{x:Value}(h:ER g v x)(D:v.cells.all V.one=true):fK g v.cells x.cells.toList/\(∀y∈x.cells,y.oneCell'=true)/\∀c∈v.cells,c.one=true:=by
 have l:∀c∈v.cells,c.one=true:=bP.1 D;by_cases t:∃cs,v=.agg cs
 .obtain⟨cs,rfl⟩:=t;obtain⟨H,rfl,o,q,u⟩:=h.agg;refine⟨⟨by simp[V.cells,Value.cells,o],λj c x f hx=>u j c x f (by simpa[Value.cells]using hx)⟩,λy d=>?_,l⟩;simp only[Value.cells]at d;obtain⟨j,f,rfl⟩:=gT.1 d;have K:j<cs.length:=av;exact((u j cs[j] H[j] bR bR).one (q j cs[j] bR)).2
 .have r:v.cells=[v]:=by cases v<;>first|rfl|exact absurd ⟨_,rfl⟩ t
  have p:v.one=true:=l v (by rw[r];simp);have z:VR g v x:=h.oh (by rintro a b c rfl;simp[V.one]at p);obtain⟨o,q⟩:=z.one p;refine⟨⟨by rw[r,o];rfl,λj c y f d=>?_⟩,λy d=>?_,l⟩
  .rw[r]at f;rw[o]at d;cases j with
   |zero=>simp at f d;subst f d;exact z
   |succ j=>simp at f
  .rw[o]at d;simp at d;subst d;exact q
def fh{n:Nat}{v:V}(h:jR n v=true):v.cells.length=n/\v.cells.all V.one=true:=by
 unfold jR at h;rw[aX]at h;exact⟨by simpa using h.1,h.2⟩
def nl(cells:List Value)(off:Nat):List Value->List Value
 |[]=>cells
 |c::r=>nl (cells.set off c) (off+1) r
def Am{g:aW}:∀(vs:List V)(xs:List Value)(cs:List V)(ys:List Value)(off:Nat),fK g vs xs->fK g cs ys->fK g (aO cs off vs) (nl ys off xs)
 |[],[],cs,ys,off,_,h=>h
 |v::vs,x::xs,cs,ys,off,f,l=>by
  refine Am vs xs _ _ _ ⟨by simpa using f.1,λj c y a d=>f.2 (j+1) c y (by simpa using a) (by simpa using d)⟩ ⟨by simp[l.1],λj c y a d=>?_⟩;rw[kR]at a d;by_cases o:off=j
  .subst o;rw[ax rfl]at a d;split at a
   .split at d
    .simp at a d;subst a d;exact f.2 0 v x rfl rfl
    .cases d
   .cases a
  .rw[an o]at a d;exact l.2 j c y a d
 |[],_::_,_,_,_,h,_=>by have:=h.1;simp at this
 |_::_,[],_,_,_,h,_=>by have:=h.1;simp at this
def CS(xs:List Value):∀(k off:Nat)(cells:Array Value),((xs.zipIdx k).foldl (λcs (p:Value×Nat)=>cs.setIfInBounds (off+p.2) p.1) cells).toList=nl cells.toList (off+k) xs:=by
 induction xs with
 |nil=>intro k off cells;rfl
 |cons x xs ih=>
  intro k off cells;simp only[List.zipIdx_cons,fo,nl];rw[ih (k+1) off];simp[cn]
def D9{vs:List V}:∀{cs:List V} {off:Nat},(∀c∈cs,c.one=true)->(∀c∈vs,c.one=true)->∀c∈aO cs off vs,c.one=true:=by
 induction vs with
 |nil=>intro cs off h _;exact h
 |cons v vs ih=>
  intro cs off f d;refine ih (λc a=>?_) (λc a=>d c (by simp[a]));rcases cK a with h|h
  .exact f c h
  .subst h;exact d _ bR
def xN(GL:ak)(place:Nat->Option (Nat×Nat)):List (Nat×Operand)->Option (List (Nat×Nat×eO))
 |[]=>some []
 |(i,x)::r=>match place i,eC GL x,xN GL place r with
  |some (off,n),some y,some l=>some ((off,n,y)::l)
  |_,_,_=>none
def IU{g:aW}{s:St}{a:Act}{w:World}(R:Rel GL g s a w){place:Nat->Option (Nat×Nat)}:∀{parts:List (Nat×Operand)} {ps:List (Nat×Nat×eO)} {cs:List V} {ys:Array Value} {out:List V},xN GL place parts=some ps->fK g cs ys.toList->(∀c∈cs,c.one=true)->jQ s cs ps=some out->
 ∃zs,Instr.fill place ys (parts.map λ(i,x)=>(i,a.eval x))=some zs/\fK g out zs.toList/\∀c∈out,c.one=true
 |[],ps,cs,ys,out,d,o,q,f=>by
  simp[xN]at d;subst d;simp[jQ]at f;subst f;exact⟨ys,rfl,o,q⟩
 |(i,x)::parts,ps,cs,ys,out,d,o,q,f=>by
  simp only[xN]at d;split at d
  next off n y l u z D=>
   cases d;simp only[jQ]at f;split at f
   next H=>
    have r:=fh H.1;obtain⟨t,N,c3⟩:=pG (cv R z) r.2;have K:(a.eval x).cells.size=n:=by rw[<-r.1,t.1];simp
    have L:ys.size=cs.length:=by simpa using o.1.symm
    simp only[bw,Instr.fill,u];rw[an (by simp;omega)];refine IU R D ?_ (D9 q c3) f;have p:=CS (a.eval x).cells.toList 0 off ys;simp only[dj]at p;have:(Array.foldl (λcs (x:Value×Nat)=>match x with|(c,j)=>cs.setIfInBounds (off+j) c) ys (a.eval x).cells.zipIdx).toList=nl ys.toList off (a.eval x).cells.toList:=by
     rw[<-p,<-mg,oI]
    rw[this];exact Am _ _ _ _ _ t o
   .cases f
  .cases d
def fK.agg{g:aW}{cs:List V}{xs:Array Value}(h:fK g cs xs.toList)(a:∀c∈cs,c.one=true):VR g (.agg cs) (.agg xs):=
 .agg cs xs (by simpa using h.1.symm) (λj c d=>a c (bT d)) (λj c y f l=>h.2 j c y f (by simpa using l))
def zeroV(P:Program)(t:TypeId):Option (List V):=((P.info? t).bind (·.zero)).bind λz=>qz z.cells.toList
def oj{t:TypeId}{zs:List V}(h:zeroV P t=some zs)(g:aW):∃z:Value,(P.info? t).bind (·.zero)=some z/\fK g zs z.cells.toList/\(∀c∈zs,c.one=true)/\∀y∈z.cells,y.oneCell'=true:=by
 unfold zeroV at h;cases e:(P.info? t).bind (·.zero)with
 |none=>simp[e]at h
 |some z=>
  simp only[e,gw]at h;obtain⟨d,f⟩:=ud h;refine⟨z,rfl,⟨d,λj c x o l=>(f g j c x o l).1⟩,λc p=>?_,λy q=>?_⟩
  .obtain⟨j,a⟩:=fZ.1 p;have:j<z.cells.toList.length:=by rw[<-d];exact bZ a
   exact(f g j c _ a (aa this)).2
  .obtain⟨j,a,rfl⟩:=gT.1 q;have o:j<zs.length:=by rw[d];simpa using a
   obtain⟨l,r⟩:=f g j zs[j] z.cells[j] bR bR;exact(l.one r).2
def run_places{fs:List Field}{d:List (Nat×Nat)}(w:World)(h:fs.mapM (λf=>(nk P f.type).map λn=>(f.offset,n))=some d):
 (fs.mapM λf=>do pure (f.offset,<-sizeOf f.type):Sem (List (Nat×Nat))).run P w=.ok d w:=by
 induction fs generalizing d with
 |nil=>simp at h;subst h;simp
 |cons f fs ih=>
  rw[mF]at h;cases a:nk P f.type with
  |none=>simp[a]at h
  |some n=>
   cases j:fs.mapM (λf=>(nk P f.type).map λn=>(f.offset,n))with
   |none=>simp[a,j]at h
   |some l=>
    simp[a,j]at h;subst h;rw[mF];simp only[Sem.run_bind,fj a,Result.andThen_ok,Sem.run_pure,ih j]
def Ea(P:Program)(t:TypeId):Option (Nat->Option (Nat×Nat)):=
 match P.underlying t with
 |some (.struct a)=>(a.toList.mapM (λf=>(nk P f.type).map λn=>(f.offset,n))).map λl=>(l[·]?)
 |some (.array _ e)=>(nk P e).map λn=>λi=>some (i*n,n)
 |_=>none
def Eb{g:aW}{s:St}{a:Act}{w:World}(R:Rel GL g s a w){t:TypeId}{place:Nat->Option (Nat×Nat)}{zs:List V}{parts:Array (Nat×Operand)}{ps:List (Nat×Nat×eO)}{v:V}
 (d:Ea P t=some place) (D:zeroV P t=some zs) (p:xN GL place parts.toList=some ps) (E:dw s (.build zs ps)=some v):
 ∃y,(Instr.build t (parts.map λ(i,x)=>(i,a.eval x))).run P w=.ok y w/\ER g v y:=by
 obtain⟨z,q,H,K,ab⟩:=oj D g;simp only[dw]at E;cases j:jQ s zs ps with
 |none=>simp[j]at E
 |some out=>
  simp[j]at E;subst E;obtain⟨cells,r,L,N⟩:=IU R p H K j;refine⟨.agg cells,?_,(L.agg N).fb⟩;unfold Ea at d;split at d
  next u l=>
   cases e:u.toList.mapM (λf=>(nk P f.type).map λn=>(f.offset,n))with
   |none=>simp[e]at d
   |some Q=>
    simp[e]at d;subst d;have hm:(u.mapM λf=>do pure (f.offset,<-sizeOf f.type):Sem (Array (Nat×Nat))).run P w=.ok Q.toArray w:=by
     have:=run_places (P:=P) w e;rw[lY,Sem.run_map,this];rfl
    simp only[Instr.build,Sem.run_bind,lK q,Result.andThen_ok,run_underlying l,hm,jS];simp only[fC,r,Sem.run_pure]
  next len e l=>
   cases o:nk P e with
   |none=>simp[o]at d
   |some n=>
    simp[o]at d;subst d;simp only[Instr.build,Sem.run_bind,lK q,Result.andThen_ok,run_underlying l,fj o,jS,r,Sem.run_pure]
  .cases d
end
section
variable {GL:Nat->Option (List V)}{P:Program}
def xO(GL:ak)(x y:Operand)(f:eO->eO->vQ):Option vQ:=
 match eC GL x,eC GL y with
 |some a,some b=>some (f a b)
 |_,_=>none
def PG(P:Program)(GL:ak)(neg:Bool)(op:BinOp)(t:TypeId)(x y:Operand):Option vQ:=
 match P.underlying t with
 |some .bool=>xO GL x y (.V8 neg)
 |some (.pointer _)=>xO GL x y (.V9 neg)
 |some (.struct _)|some (.array _ _)=>match gG P 8 t with
  |some d=>if P.eqGuardType P.depth t=false then xO GL x y (.eqc neg d)else none
  |none=>none
 |some (.int _)|some .string=>xO GL x y (.bin op)
 |_=>none
def An(P:Program)(GL:ak)(c:Call):Option vQ:=
 match c.callee,c.args.toList,c.argTypes[0]? with
 |.builtin .len,[x],some t=>match P.underlying t with
  |some .string=>(eC GL x).map .Mm
  |some (.slice _)=>(eC GL x).map .len
  |some (.array n _)=>some (.Mn n)
  |_=>none
 |.builtin .cap,[x],some t=>match P.underlying t with
  |some (.slice _)=>(eC GL x).map .cap
  |_=>none
 |.builtin .min,[x,y],_=>xO GL x y .min2
 |.builtin .max,[x,y],_=>xO GL x y .max2
 |_,_,_=>none
def Hm(P:Program)(GL:ak)(src dst:TypeId)(x:Operand):Option vQ:=
 match P.underlying src,P.underlying dst with
 |some (.int _),some (.int k)=>(eC GL x).map (.toInt k)
 |some (.slice e),some .string=>if P.underlying e matches some (.int .u8)then(eC GL x).map .CN else none
 |_,_=>none
def Td(P:Program)(GL:ak)(t:TypeId)(x:Operand)(lo d:Option Operand):Option vQ:=
 match P.underlying t,eC GL x,kV GL lo,kV GL d with
 |some .string,some x,some lo,some d=>some (.D5 x lo d)
 |some (.slice e),some x,some lo,some d=>(nk P e).map λn=>.cut n x lo d
 |some (.array len e),some x,some none,some none=>if nk P e=some 1 then some (.nQ len x)else none
 |_,_,_,_=>none
def zC(P:Program)(s:TypeId)(f:Nat):Option (Nat×Bool×Nat):=
 match P.underlying s with
 |some (.struct d)=>match d[f]? with
  |some fd=>match fq P fd.type,nk P fd.type with
   |some g,some (n+1)=>some (fd.offset,g,n+1)
   |_,_=>none
  |none=>none
 |_=>none
def yy(P:Program)(GL:ak):Op->Option vQ
 |.move x=>(eC GL x).map .move
 |.pick c a b=>match eC GL c,eC GL a,eC GL b with
  |some c,some a,some b=>some (.pick c a b)
  |_,_,_=>none
 |.load t x=>match eC GL x,fq P t,nk P t with
  |some x,some g,some n=>some (.load g n x)
  |_,_,_=>none
 |.nilCheck x=>(eC GL x).map .nilCheck
 |.binOp op t x y _=>match op with
  |.eql=>PG P GL false .eql t x y
  |.neq=>PG P GL true .neq t x y
  |op=>xO GL x y (.bin op)
 |.unOp op _ x=>(eC GL x).map (.un op)
 |.convert src dst x=>Hm P GL src dst x
 |.slice t x lo d none=>Td P GL t x lo d
 |.fieldAddr s x f=>match zC P s f,eC GL x with
  |some (off,_,_),some x=>some (.fieldAddr off x)
  |_,_=>none
 |.field s x f=>match zC P s f,eC GL x with
  |some (off,g,n),some x=>some (.field g off n x)
  |_,_=>none
 |.indexAddr t x i=>match P.underlying t with
  |some (.slice e)=>match nk P e with
   |some n=>xO GL x i (.sv n)
   |none=>none
  |some (.array len e)=>match nk P e with
   |some n=>xO GL x i (.rX len n)
   |none=>none
  |_=>none
 |.index t x i=>match P.underlying t with
  |some .string=>xO GL x i .xJ
  |some (.array len e)=>match fq P e,nk P e with
   |some g,some n=>xO GL x i (.tX g len n)
   |_,_=>none
  |_=>none
 |.extract x i=>(eC GL x).map λx=>.extract x i
 |.build t parts=>match Ea P t,zeroV P t with
  |some pl,some zs=>(xN GL pl parts.toList).map (.build zs)
  |_,_=>none
 |.makeFunc (.func f) first caps=>if first.isEmpty then(yr GL caps.toList).map (.Ae f)else none
 |.makeInterface t x=>if P.concrete t then(eC GL x).map (.wE t)else none
 |.call c=>An P GL c
 |_=>none
def kW{x y:Operand}{f:eO->eO->vQ}{b:vQ}(h:xO GL x y f=some b):∃p q,eC GL x=some p/\eC GL y=some q/\b=f p q:=by
 unfold xO at h;split at h
 next p q d j=>exact⟨p,q,d,j,(au h).symm⟩
 .cases h
def dn{α β:Type}{o:Option α}{f:α->β}{b:β}(h:o.map f=some b):∃p,o=some p/\b=f p:=by
 cases o with
 |none=>cases h
 |some p=>exact⟨p,rfl,(au h).symm⟩
def yz{m:Sem Value}{x:Value}{w:World}(h:m.run P w=.ok x w):(do pure (Next.value (<-m)):Sem Next).run P w=.ok (.value x) w:=by
 rw[Sem.run_bind,h];rfl
def wH{s:TypeId}{f off n:Nat}{ag:Bool}(h:zC P s f=some (off,ag,n)):∃fs fd m,P.underlying s=some (.struct fs)/\fs[f]?=some fd/\fq P fd.type=some ag/\nk P fd.type=some (m+1)/\n=m+1/\off=fd.offset:=by
 unfold zC at h;split at h
 next fs d=>
  split at h
  next fd j=>
   split at h
   next g m l p=>simp at h;obtain⟨rfl,rfl,rfl⟩:=h;exact⟨fs,fd,m,d,j,l,p,rfl,rfl⟩
   .cases h
  .cases h
 .cases h
section
variable {g:aW}{s:St}{a:Act}{w:World}{o:Oper}{b:vQ}{v:V}
def Te(R:Rel GL g s a w){neg:Bool}{op:BinOp}(hop:op=if neg then .neq else .eql){t:TypeId}{x y:Operand}(h:PG P GL neg op t x y=some b)(E:dw s b=some v):
 ∃z,(do eqGuard op t x y (a.eval x) (a.eval y);binOp op t (a.eval x) (a.eval y):Sem Value).run P w=.ok z w/\ER g v z:=by
 subst hop;unfold PG at h;split at h
 next hd=>obtain⟨p,q,e1,e2,rfl⟩:=kW h;exact Hj hd (cv R e1) (cv R e2) E
 next hd=>obtain⟨p,q,e1,e2,rfl⟩:=kW h;exact Hk hd (cv R e1) (cv R e2) E
 .exact Wr
 .exact Wr
 .exact WW
 .exact WW
 .cases h
def PH(R:Rel GL g s a w){src dst:TypeId}{x:Operand}(h:Hm P GL src dst x=some b)(E:dw s b=some v):
 ∃z,(convert src dst (a.eval x)).run P w=.ok z w/\ER g v z:=by
 unfold Hm at h;split at h
 next k f j=>
  obtain⟨p,l,rfl⟩:=dn h;have hx:=cv R l;simp only[dw]at E;split at E
  next y n u=>cases E;rw[u]at hx;rw[hx.int];exact⟨_,by simp[convert,run_underlying f,run_underlying j,Conv.intToInt],VR.fb (.int _ _)⟩
  .cases E
 next e f j=>
  split at h
  next q=>
   obtain⟨p,l,rfl⟩:=dn h;have r:P.underlying e=some (.int .u8):=by
    cases t:P.underlying e with
    |none=>simp[t]at q
    |some d=>cases d<;>simp[t]at q;subst q;rfl
   exact D8 R f r j (cv R l) E
  .cases h
 .cases h
def PI{ts:Array TypeId}{t ty:TypeId}{d:TypeDesc}{x:Value}{n:Nat}(f:ts[0]?=some t)(hd:P.underlying t=some d)
 (h:(d=.string/\∃b:ByteArray,x=.string b/\b.size=n)\/(∃e,d=.slice e/\∃a c,x=.slice a n c)\/(∃e,d=.array n e)) (w:World):
 (Builtin.len_ ts ty #[x]).run P w=.ok (.int .i64 n) w:=by
 unfold Builtin.len_;rw[f];rcases h with⟨rfl,b,rfl,rfl⟩|⟨e,rfl,a,c,rfl⟩|⟨e,rfl⟩
 .exact bb5
 .exact bb5
 .exact bb5
def PJ{ts:Array TypeId}{t ty e:TypeId}{a:Option Addr}{n c:Nat}(d:ts[0]?=some t)(hd:P.underlying t=some (.slice e))(w:World):
 (Builtin.cap_ ts ty #[.slice a n c]).run P w=.ok (.int .i64 c) w:=by
 unfold Builtin.cap_;rw[d];exact bb5
def Fm(R:Rel GL g s a w){c:Call}(h:An P GL c=some b)(E:dw s b=some v)(ty:TypeId):
 ∃z,(do let d<-resolve a.eval c ty;invoke d.target d.args:Sem Next).run P w=.ok (.value z) w/\ER g v z:=by
 unfold An at h;have r:∀{l:List Operand},c.args.toList=l->c.args.map a.eval=(l.map a.eval).toArray:=by
  intro l H;subst H;apply jG;simp
 split at h
 next t x ts f H Q=>
  have fin:∀(d:TypeDesc)(n:Nat)(z:Value),P.underlying ts=some d->z=a.eval x->((d=.string/\∃b:ByteArray,z=.string b/\b.size=n)\/(∃e,d=.slice e/\∃a c,z=.slice a n c)\/(∃e,d=.array n e))->
   (do let d<-resolve a.eval c ty;invoke d.target d.args:Sem Next).run P w=.ok (.value (.int .i64 n)) w:=by
   intro d n z u ad ai;simp only[resolve,f,pure_bind,invoke,builtin,r H,bw,cV,<-ad];exact yz (PI Q u ai w)
  split at h
  next u=>
   obtain⟨p,K,rfl⟩:=dn h;have hx:=cv R K;simp only[dw]at E;split at E
   next l j=>cases E;rw[j]at hx;exact⟨_,fin _ l.length _ u rfl (.inl ⟨rfl,_,hx.str,by simp[ByteArray.size]⟩),VR.fb (.int _ _)⟩
   .cases E
  next e u=>
   obtain⟨p,K,rfl⟩:=dn h;have hx:=cv R K;simp only[dw]at E;split at E
   next sz aA j=>
    cases E;rw[j]at hx;refine⟨_,fin _ aA.length _ u rfl (.inr (.inl ⟨e,rfl,?_⟩)),VR.fb (.int _ _)⟩;rcases hx.sl with⟨rfl,D⟩|⟨aD,cap,a0,D,_⟩
    .exact⟨_,_,D⟩
    .exact⟨_,_,D⟩
   next j=>cases E;rw[j]at hx;exact⟨_,fin _ 0 _ u rfl (.inr (.inl ⟨e,rfl,_,_,hx.aP⟩)),VR.fb (.int _ _)⟩
   next sz id off n c j=>
    cases E;rw[j]at hx;refine⟨_,fin _ n _ u rfl (.inr (.inl ⟨e,rfl,?_⟩)),VR.fb (.int _ _)⟩;rcases hx.ms with⟨b,_,D,_⟩|⟨rfl,rfl,p,D,ac⟩
    .exact⟨_,_,D⟩
    .exact⟨_,_,D⟩
   .cases E
  next n e u=>cases h;simp only[dw]at E;cases E;exact⟨_,fin _ n _ u rfl (.inr (.inr ⟨e,rfl⟩)),VR.fb (.int _ _)⟩
  .cases h
 next x t f H Q=>
  split at h
  next e u=>
   obtain⟨p,K,rfl⟩:=dn h;have hx:=cv R K;have fin:∀(p:Option Addr)(n m:Nat),a.eval x=.slice p n m->(do let d<-resolve a.eval c ty;invoke d.target d.args:Sem Next).run P w=.ok (.value (.int .i64 m)) w:=by
    intro p n m aB;simp only[resolve,f,pure_bind,invoke,builtin,r H,bw,cV,aB];exact yz (PJ Q u w)
   simp only[dw]at E;split at E
   next j=>cases E;rw[j]at hx;exact⟨_,fin _ _ 0 hx.aP,VR.fb (.int _ _)⟩
   next sz id off n m j=>
    cases E;rw[j]at hx;rcases hx.ms with⟨b,_,D,_⟩|⟨rfl,rfl,p,D,ac⟩
    .exact⟨_,fin _ _ m D,VR.fb (.int _ _)⟩
    .exact⟨_,fin _ _ 0 D,VR.fb (.int _ _)⟩
   .cases E
  .cases h
 next x y f H=>
  obtain⟨p,q,K,ab,rfl⟩:=kW h;have hx:=cv R K;have L:=cv R ab;simp only[dw]at E;split at E
  next k m aC n j N=>cases E;rw[j]at hx;rw[N]at L;refine⟨_,?_,VR.fb (.int _ _)⟩;simp only[resolve,f,pure_bind,invoke,builtin,r H,bw,cV,hx.int,L.int];exact yz (by simp[Builtin.min_,Builtin.min2])
  .cases E
 next x y f H=>
  obtain⟨p,q,K,ab,rfl⟩:=kW h;have hx:=cv R K;have L:=cv R ab;simp only[dw]at E;split at E
  next k m aC n j N=>cases E;rw[j]at hx;rw[N]at L;refine⟨_,?_,VR.fb (.int _ _)⟩;simp only[resolve,f,pure_bind,invoke,builtin,r H,bw,cV,hx.int,L.int];exact yz (by simp[Builtin.max_,Builtin.max2])
  .cases E
 .cases h
def Um(R:Rel GL g s a w)(h:yy P GL o.op=some b)(E:dw s b=some v):∃x,(execOp a.eval o).run P w=.ok (.value x) w/\ER g v x:=by
 have d:∀{m:Sem Value},(∃x,m.run P w=.ok x w/\ER g v x)->execOp a.eval o=(do pure (Next.value (<-m)))->∃x,(execOp a.eval o).run P w=.ok (.value x) w/\ER g v x:=by
  intro m ⟨x,H,u⟩ a5;exact⟨x,by rw[a5];exact yz H,u⟩
 obtain⟨dst,op,ty,pos,after,guard⟩:=o;cases op with
 |move x=>
  obtain⟨p,l,rfl⟩:=dn h;cases E;exact⟨_,rfl,cv R l⟩
 |pick c x y=>
  simp only[yy]at h;split at h
  next bv ac bU l r L=>
   cases h;simp only[dw]at E;split at E
   next t D=>
    cases E;have ab:=cv R l;rw[D]at ab;refine⟨if t then a.eval x else a.eval y,?_,?_⟩
    .simp[execOp,ab.bool,asBool]
    .cases t
     .exact cv R L
     .exact cv R r
   .cases E
  .cases h
 |load t x=>
  simp only[yy]at h;split at h
  next ac aA n l r L=>cases h;exact d (yt R r L (cv R l) E) rfl
  .cases h
 |nilCheck x=>
  obtain⟨p,l,rfl⟩:=dn h;have hx:=cv R l;simp only[dw]at E;split at E
  next st b2 off D=>cases E;rw[D]at hx;have bu:=hx;obtain⟨b,H,u⟩:=hx;exact⟨_,by simp[execOp,u],⟨b,H,rfl⟩⟩
  next id off D=>cases E;rw[D]at hx;obtain⟨b,H,u⟩:=hx.bp;exact⟨_,by simp[execOp,u],VR.fb (.bp _ _ b H)⟩
  next cells D=>cases E;rw[D]at hx;obtain⟨b3,b5,u,ad⟩:=hx.ep;exact⟨a.eval x,by simp[execOp,u],hx⟩
  .cases E
 |binOp op t x y b6=>
  cases op
  case eql=>exact d (Te R (neg:=false) rfl h E) rfl
  case neq=>exact d (Te R (neg:=true) rfl h E) rfl
  all_goals
   obtain⟨p,q,l,r,rfl⟩:=kW h;simp only[dw]at E;exact d (z6 (cv R l) (cv R r) E) rfl
 |unOp op t x=>
  obtain⟨p,l,rfl⟩:=dn h;have hx:=cv R l;simp only[dw]at E;split at E
  next k n D=>cases E;rw[D]at hx;exact d ⟨_,by rw[hx.int];simp[Op.unary,Op.intArith],VR.fb (.int _ _)⟩ rfl
  next t D=>cases E;rw[D]at hx;exact d ⟨_,by rw[hx.bool];simp[Op.unary],VR.fb (.bool _)⟩ rfl
  next k n D=>cases E;rw[D]at hx;exact d ⟨_,by rw[hx.int];simp[Op.unary,Op.intBits],VR.fb (.int _ _)⟩ rfl
  .cases E
 |convert src dst x=>exact d (PH R h E) rfl
 |slice t x lo a6 mx=>
  cases mx with
  |some m=>cases h
  |none=>
   simp only[yy,Td]at h;split at h
   next ac a0 a1 K l r L=>cases h;exact d (Fk R K l r L E) rfl
   next e ac a0 a1 K l r L=>obtain⟨n,N,rfl⟩:=dn h;exact d (Hl R K N l r L E) rfl
   next len e ac K l r L=>
    split at h
    next N=>cases h;exact d (Fl R K N l r L E) rfl
    .cases h
   .cases h
 |fieldAddr t x f=>
  simp only[yy]at h;split at h
  next off aA n ac l r=>cases h;obtain⟨a7,fd,m,H,u,ad,aB,a2,aC⟩:=wH l;subst aC;exact d (Aj H u aB (cv R r) E) rfl
  .cases h
 |field t x f=>
  simp only[yy]at h;split at h
  next off aA n ac l r=>cases h;obtain⟨a7,fd,m,H,u,ad,aB,a2,aC⟩:=wH l;subst aC;subst a2;exact d (D7 H u ad aB (cv R r) E) rfl
  .cases h
 |indexAddr t x i=>
  simp only[yy]at h;split at h
  next e K=>
   split at h
   next n N=>obtain⟨p,q,l,r,rfl⟩:=kW h;exact d (Ak K N (cv R l) (cv R r) E) rfl
   .cases h
  next len e K=>
   split at h
   next n N=>obtain⟨p,q,l,r,rfl⟩:=kW h;exact d (ze K N (cv R l) (cv R r) E) rfl
   .cases h
  .cases h
 |index t x i=>
  simp only[yy]at h;split at h
  next K=>obtain⟨p,q,l,r,rfl⟩:=kW h;exact d (Co K (cv R l) (cv R r) E) rfl
  next len e K=>
   split at h
   next aA n a8 N=>obtain⟨p,q,l,r,rfl⟩:=kW h;exact d (Cn K a8 N (cv R l) (cv R r) E) rfl
   .cases h
  .cases h
 |extract x i=>
  obtain⟨p,l,rfl⟩:=dn h;have hx:=cv R l;simp only[dw]at E;split at E
  next b7 D=>rw[D]at hx;obtain⟨aD,H,u,ad⟩:=hx.hE;have a6:=bZ E;have ai:aD[i]?=some aD[i]:=bR;exact d ⟨aD[i],by rw[H];simp only[Instr.extract,ai,Sem.run_pure],(ad i v _ E ai).fb⟩ rfl
  .cases E
 |build t parts=>
  simp only[yy]at h;split at h
  next pl zs l r=>obtain⟨a9,L,rfl⟩:=dn h;exact d (Eb R l r L E) rfl
  .cases h
 |makeFunc f first caps=>
  cases f with
  |func f=>
   simp only[yy]at h;split at h
   next bi=>
    obtain⟨a9,l,rfl⟩:=dn h;obtain⟨bo,br⟩:=Ai R l;simp only[dw]at E;split at E
    next Q=>
     cases E;have a3:first=#[]:=by simpa using bi
     subst a3;refine d ⟨.func (.func f) #[] (caps.map a.eval),by simp[Instr.makeFunc],VR.fb (.fn f _ _ (by simp[bo]) (λj c y H u=>?_))⟩ rfl;rw[bB]at H;rw[pt]at u;obtain⟨q,a4,rfl⟩:=bS.1 H;obtain⟨z,bs,rfl⟩:=bS.1 u;refine(br j q z a4 (by simpa using bs)).oh ?_;intro a b c ab;have:=bP.1 Q q (bT a4);rw[ab]at this;simp[V.one]at this
    .cases E
   .cases h
  |_=>cases h
 |makeInterface t x=>
  simp only[yy]at h;split at h
  next ab=>
   obtain⟨p,l,rfl⟩:=dn h;have hx:=cv R l;simp only[dw]at E;split at E
   next Q=>cases E;exact d ⟨_,run_makeInterface w t _ ab,VR.fb (.Hc _ _ _ (hx.oh (by intro a b c ab;rw[ab]at Q;simp[V.one]at Q)))⟩ rfl
   .cases E
  .cases h
 |call c=>exact Fm R h E ty
 |_=>cases h
end
end
section
variable {GL:Nat->Option (List V)}{P:Program}
inductive BX where
 |val (b:vQ)
 |IV (x:eO)
 |ld (addr:eO)
 |xP (x:eO)
 |alloc (zs:List V)
 |box (n:Nat) (x:eO)
 |store (n:Nat) (addr x:eO)
 |ug (sz:Nat) (zero:V) (n:Nat) (parts:List (Nat×eO))
 |Hn (n:Nat) (x:eO)
 |app (sz:Nat) (base src:eO)
 |sw (x:eO)
def yA:V->Option Loc
 |.A st a off=>some (.cell st a off)
 |.bp id off=>some (.iI id off)
 |_=>none
def varOf:eO->Option Loc
 |.tmp t=>some (.var t)
 |_=>none
def St.xP(s:St)(d:Nat):eO->St
 |.tmp t=>{s.put d (s.Z t) none false with fl:=λk=>if k=d then s.fl t else if k=t then false else s.fl k}
 |x=>s.put d (s.val x) none false
def St.ol(s:St)(st a j:Nat):eO->St
 |.tmp t=>{s with fc:=l9 s.fc st a (eR (s.fc st a) j (s.fl t)),fl:=eR s.fl t false}
 |_=>s
def St.wI(s:St)(id j:Nat):eO->St
 |.tmp t=>{s with E:={s.E with fl:=eR s.E.fl id (eR (s.E.fl id) j (s.fl t))},fl:=eR s.fl t false}
 |_=>s
def St.store(s:St)(n:Nat)(addr:V)(x:eO):Option St:=
 match addr with
 |.A st a off=>
  if jR n (s.val x)=true/\a<s.G st/\off+n<=(s.loc st a).length then
   some (if(s.val x).one=true then(s.hZ st a off (s.val x).cells).ol st a off x else s.hZ st a off (s.val x).cells)
  else none
 |.bp id off=>match s.E.box id with
  |some cells=>if jR n (s.val x)=true/\off+n<=cells.length then
   some (if(s.val x).one=true then(s.jY id off cells (s.val x).cells).wI id off x else s.jY id off cells (s.val x).cells)
   else none
  |none=>none
 |_=>none
def nF(sz:Nat):V->Option (List V)
 |.sl a d=>if sz=a then some d else none
 |.aP=>some []
 |.str l=>if sz=1 then some (l.map λb=>.int .u8 b.toNat)else none
 |_=>none
def St.p4(s:St)(t:Nat):Option Loc:=
 if s.fl t then some (.var t)else match s.lk t with
  |some l=>if s.iF l then some l else none
  |none=>none
def ir:Nat:=1073741824
def St.app(s:St)(d:Nat)(sz:Nat)(base src:eO):Option St:=
 match s.val base,nF sz (s.val src)with
 |.aP,some a=>if a.length<=ir then some (s.put d (.sl sz a) none true)else none
 |.sl f j,some a=>
  if sz=f/\j.length+a.length<=ir then
   match base with
   |.tmp t=>match s.p4 t with
    |some l=>some ((s.dP l).put d (.sl sz (j++a)) none true)
    |none=>none
   |_=>none
  else none
 |_,_=>none
def iP(s:St)(sz:Nat):List V->List (Nat×eO)->Option (List V)
 |a,[]=>some a
 |a,(i,x)::r=>if jR sz (s.val x)=true/\i<a.length then iP s sz (a.set i (s.val x)) r else none
def iG(s:St)(d:Option Nat):BX->Option St
 |.val b=>match dw s b,d with
  |some v,some d=>some (s.put d v none false)
  |some _,none=>some s
  |none,_=>none
 |.IV x=>match d with
  |some d=>some (s.put d (s.val x) (varOf x) false)
  |none=>none
 |.ld addr=>match d,s.iN (s.val addr)with
  |some d,some (c::_)=>some (s.put d c (yA (s.val addr)) false)
  |_,_=>none
 |.xP x=>match d with
  |some d=>some (s.xP d x)
  |none=>none
 |.alloc zs=>match d with
  |some d=>some ((s.fG d zs).put d (.A d (s.G d) 0) none false)
  |none=>none
 |.box n x=>match d with
  |some d=>if jR n (s.val x)=true then some ((s.fG d (s.val x).cells).put d (.A d (s.G d) 0) none false)else none
  |none=>none
 |.Hn n x=>match d with
  |some d=>if jR n (s.val x)=true then some (s.put d (.ep (s.val x).cells) none false)else none
  |none=>none
 |.store n addr x=>match d with
  |none=>s.store n (s.val addr) x
  |some _=>none
 |.ug sz zero n parts=>match d with
  |some d=>(iP s sz (List.replicate n zero) parts).map λa=>s.put d (.sl sz a) none true
  |none=>none
 |.app sz base src=>match d with
  |some d=>s.app d sz base src
  |none=>none
 |.sw x=>match d,s.val x with
  |some d,.str l=>if l.length<=ir then some (s.put d (.sl 1 (l.map λb=>.int .u8 b.toNat)) none true)else none
  |_,_=>none
def uh(GL:ak):List (Nat×Operand)->Option (List (Nat×eO))
 |[]=>some []
 |(i,x)::r=>match eC GL x,uh GL r with
  |some y,some l=>some ((i,y)::l)
  |_,_=>none
def fL(P:Program)(f:FuncId):Bool:=
 match P.funcs[f]? with
 |some fn=>fn.body.isSome&&fn.name != "runtime.NumGoroutine"
 |none=>false
def CT(P:Program)(t:TypeId):Option V:=
 match fq P t,zeroV P t with
 |some true,some zs=>some (.agg zs)
 |some false,some [z]=>some z
 |_,_=>none
def Ao:TypeDesc->Bool
 |.int _=>true
 |_=>false
def Wa(P:Program)(GL:ak)(a:List Nat)(o:Oper):Option BX:=
 match o.op with
 |.move x=>if o.dst.any a.contains then(eC GL x).map .xP else(eC GL x).map .IV
 |.load t x=>match fq P t,eC GL x with
  |some false,some x=>if nk P t=some 1 then some (.ld x)else none
  |_,_=>(yy P GL o.op).map .val
 |.assign x=>(eC GL x).map .xP
 |.alloc t=>if o.dst.any a.contains then none else(zeroV P t).map .alloc
 |.box t x=>if o.dst.any a.contains then none else match nk P t,eC GL x with
  |some n,some x=>if o.dst.any λd=>a.contains (d+100000)then some (.Hn n x)else some (.box n x)
  |_,_=>none
 |.store t addr x=>match nk P t,eC GL addr,eC GL x with
  |some n,some addr,some x=>some (.store n addr x)
  |_,_,_=>none
 |.buildSlice t n parts=>if o.dst.any a.contains then none else match P.underlying t with
  |some (.slice e)=>match nk P e,CT P e,uh GL parts.toList with
   |some sz,some z,some f=>if n*sz<=16777216/\0<sz/\jR sz z=true then some (.ug sz z n f)else none
   |_,_,_=>none
  |_=>none
 |.convert src dst x=>match P.underlying src,P.underlying dst with
  |some .string,some (.slice e)=>if o.dst.any a.contains then none else if P.underlying e matches some (.int .u8)then(eC GL x).map .sw else none
  |_,_=>if o.dst.any a.contains then none else(yy P GL o.op).map .val
 |.call c=>match c.callee with
  |.builtin .append=>if o.dst.any a.contains then none else match c.argTypes.toList,c.args.toList with
   |[t,u],[x,y]=>match P.underlying t,P.underlying u,eC GL x,eC GL y with
    |some (.slice e),some d,some x,some y=>match nk P e,zeroV P e with
     |some (sz+1),some zs=>if Ao d=true\/65536<P.bytesOf e\/zs.length≠sz+1 then none else some (.app (sz+1) x y)
     |_,_=>none
    |_,_,_,_=>none
   |_,_=>none
  |_=>(yy P GL o.op).map .val
 |_=>(yy P GL o.op).map .val
end
section
variable {GL:Nat->Option (List V)}{P:Program}
def qC(GL:ak)(P:Program)(o:Oper)(g:aW)(a:Act)(w:World)(s':St):Prop:=
 ∃x d f,((execOp a.eval o).run P w=.ok (.value x) d\/((execOp a.eval o).run P w=.ok .skip d/\x=undef))/\Rel GL f s' (a.put o.dst x) d/\Step g w f d
section
variable {g:aW}{s s':St}{a:Act}{w:World}{o:Oper}
def Ms(R:Rel GL g s a w){v:V}{x:Value}{l:Loc}{c:V}{rest:List V}{y:Value}(h:yA v=some l)(hx:ER g v x)(d:s.iN v=some (c::rest))
 (q:∀r,x=.pointer (some r)->w.cell? r=some y):vR g s a w l c y:=by
 cases v<;>simp only[yA]at h<;>first|(cases h;done)|skip
 next st D off=>
  cases h;simp only[St.iN]at d;split at d
  next t=>
   split at d
   next H=>have hc':=au d;obtain⟨b,f,j⟩:=hx;refine⟨t,λu p=>?_⟩;cases (f.symm.trans p);refine⟨q _ j,?_⟩;exact W9
   .cases d
  .cases d
 next id off=>
  cases h;simp only[St.iN]at d;split at d
  next cells z=>
   split at d
   .have hc':=au d;obtain⟨b,f,j⟩:=hx.bp;refine⟨cells,z,?_,λu p=>?_⟩
    .exact W9
    .cases (f.symm.trans p);exact q _ j
   .cases d
  .cases d
def Un{b:vQ}{v:V}(h:yy P GL o.op=some b)(E:dw s b=some v)(R:Rel GL g s a w)(j:∀d,o.dst=some d->d<s.n):
 qC GL P o g a w (match o.dst with|some d=>s.put d v none false|none=>s):=by
 obtain⟨x,l,p⟩:=Um R h E;refine⟨x,w,g,.inl l,?_,Step.refl g w⟩;cases f:o.dst with
 |none=>exact R
 |some d=>exact R.put (j d f) p bR bR
def Uo{x:Operand}{y:eO}{d:Nat}(hop:o.op=.move x)(f:o.dst=some d)(l:d<s.n)(h:eC GL x=some y)(R:Rel GL g s a w):
 qC GL P o g a w (s.put d (s.val y) (varOf y) false):=by
 refine⟨a.eval x,w,g,.inl (by unfold execOp;rw[hop];rfl),?_,Step.refl g w⟩;rw[f];refine R.put l (cv R h) (λk j=>?_) bR;cases y<;>simp only[varOf]at j<;>first|(cases j;done)|skip
 rename_i t;cases j;cases x<;>simp only[eC]at h
 .injection h with h;injection h with h;subst h;exact⟨rfl,rfl⟩
 .obtain⟨_,_,h⟩:=dn h;cases h
 .obtain⟨_,_,h⟩:=dn h;cases h
 .injection h with h;cases h
def Yh{t:TypeId}{x:Operand}{y:eO}{d:Nat}{c:V}{rest:List V}(hop:o.op=.load t x)(l:o.dst=some d)(z:d<s.n)(D:fq P t=some false)
 (h:eC GL x=some y) (p:s.iN (s.val y)=some (c::rest)) (R:Rel GL g s a w):
 qC GL P o g a w (s.put d c (yA (s.val y)) false):=by
 obtain⟨f,H,q,r,K,ab,L⟩:=vU R (cv R h) p;have j:=K 0 bR;rw[dj]at j;have u:cl f.block f.off=f:=by cases f;simp at r;simp[cl,r]
 rw[u]at j;refine⟨H 0,w,g,.inl ?_,?_,Step.refl g w⟩
 .unfold execOp;rw[hop];exact yz (by simp[Instr.loadAt,Instr.sureAddr,q,loadVar,nu D,j])
 .rw[l];refine R.put z (L 0 c bR).fb (λk N=>?_) bR;exact Ms R N (cv R h) p (λQ e=>by rw[q]at e;injection e with e;injection e with e;subst e;exact j)
def Mt{x:Operand}{y:eO}{d:Nat}(hop:o.op=.assign x\/o.op=.move x)(j:o.dst=some d)(N:d<s.n)(h:eC GL x=some y)(R:Rel GL g s a w):
 qC GL P o g a w (s.xP d y):=by
 have p:(execOp a.eval o).run P w=.ok (.value (a.eval x)) w:=by unfold execOp;rcases hop with hop|hop<;>(rw[hop];rfl)
 have f:=R.put (l:=none) (bL:=false) N (cv R h) bR bR;cases y with
 |const v=>exact⟨_,w,g,.inl p,by rw[j];exact f,Step.refl g w⟩
 |kn cs=>exact⟨_,w,g,.inl p,by rw[j];exact f,Step.refl g w⟩
 |tmp t=>
  have hx:x=.tmp t:=by
   exact bb4
  subst hx;have K:d<a.tmps.size:=by rw[R.size];exact N
  by_cases q:t=d
  ·
   subst q;have u:a.put (some t) (a.eval (.tmp t))=a:=by
    simp only[Act.put,Act.eval];congr 1;apply pr;intro i;rw[hJ];split
    next ab=>subst ab;simp[K]
    .rfl
   refine⟨_,w,g,.inl p,?_,Step.refl g w⟩;rw[j,u];rw[u]at f;refine {
    size:=f.size,gj:=f.gj,Z:=f.Z,gA:=f.gA,heap:=f.heap,loc:=f.loc,jd:=f.jd,jt:=λk e=>?_,gD:=f.gD,jX:=f.jX,gF:=f.gF,ib:=f.ib}
   have H:s.fl k=true:=by
    simp only[St.xP]at e;by_cases H:k=t
    .subst H;simpa using e
    .simpa[H]using e
   have:=R.jt k H;have L:(s.xP t (.tmp t)).Z k=s.Z k:=by
    simp only[St.xP,St.nR];split
    next z=>subst z;rfl
    .rfl
   rw[L];exact this
  .by_cases D:s.fl t=true
   .have Q:=f.move (l:=.var t) (l':=.var d) (v:=s.Z t) (x:=a.tmps.getD t undef) (by simp[St.iF,q,D])
     ⟨by simp only[Act.put];rw[tZ _ _ _ _ q],by simp[q]⟩ ⟨by simp only[Act.put];rw[rv _ _ _ K];rfl,by simp[St.val]⟩
    refine⟨_,w,g.ii (.var t) (.var d),.inl p,?_,Step.ii⟩;rw[j];have ac:(((s.put d (s.val (.tmp t)) none false).dP (.var t)).vw (.var d))=s.xP d (.tmp t):=by
     simp only[St.xP,St.dP,St.vw,St.val,St.put];congr 1;funext k;simp only[eR];by_cases r:k=d
     .simp[r,D]
     .by_cases z:k=t
      .simp[r,z,q]
      .simp[r,z]
    rw[<-ac];exact Q
   .refine⟨_,w,g,.inl p,?_,Step.refl g w⟩;rw[j];refine f.CQ rfl rfl rfl rfl rfl rfl rfl rfl (λk e=>?_) (λ_ _ _ e=>e) (λ_ _ e=>e);simp only[St.xP]at e;simp only[St.Af];split at e
    .exact absurd e D
    next r=>
     rw[an r];split at e
     .cases e
     .exact e
def CU{cells:List V}{xs:Array Value}{t:TypeId}{d:Nat}(r:d<s.n)(R:Rel GL g s a w)(hc:fK g cells xs.toList)(u:∀c∈cells,c.one=true):
 ∃g',Rel GL g' ((s.fG d cells).put d (.A d (s.G d) 0) none false) (a.put (some d) (.pointer (some ⟨w.heap.size,0,none⟩))) (w.alloc (.cells xs t))/\Step g w g' (w.alloc (.cells xs t)):=by
 let ow:Nat->eX:=λ_=>.su d (s.G d)
 have y:Rel GL (g.block w.heap.size ow) s a (w.alloc (.cells xs t)):=R.alloc (λo x e=>by
  simp only[ow]at e;cases e) (λH e=>by simp only[ow]at e;cases e)
 have f:Step g w (g.block w.heap.size ow) (w.alloc (.cells xs t)):=Step.alloc R.gA;have dZ:fP (g.block w.heap.size ow) (w.alloc (.cells xs t)) w.heap.size (.su d (s.G d)) cells:=by
  refine⟨λj=>?_,λj c hj=>⟨u c (bT hj),?_⟩,λj=>World.frozen?_alloc_new w xs t j⟩
  .rw[aW.eL]
  .have p:=bZ hj;have q:j<xs.toList.length:=by rw[<-hc.1];exact p
   have hx:xs.toList[j]?=some xs.toList[j]:=by simp[q]
   exact WA
 have z:=y.fG dZ;have D:=z.put (d:=d) (v:=.A d (s.G d) 0) (x:=.pointer (some ⟨w.heap.size,0,none⟩)) (l:=none) (bL:=false) r ⟨w.heap.size,by simp[aW.wG,l9],rfl⟩ bR bR;exact⟨_,D,⟨f.gZ,f.e8,f.hb,f.ext,f.od,f.ru,f.size,f.gW,f.whole⟩⟩
def qD(t:TypeId)(v:Value)(w:World):(newVar t v).run P w=.ok ⟨w.heap.size,0,none⟩ (w.alloc (.cells v.cells t)):=by
 simp[newVar,newRow]
def Mu{t:TypeId}{zs:List V}{d:Nat}(hop:o.op=.alloc t)(f:o.dst=some d)(j:d<s.n)(h:zeroV P t=some zs)(R:Rel GL g s a w):
 qC GL P o g a w ((s.fG d zs).put d (.A d (s.G d) 0) none false):=by
 obtain⟨z,l,p,q,D⟩:=oj h g;obtain⟨r,u,y⟩:=CU (t:=t) j R p q;refine⟨_,_,r,.inl ?_,by rw[f];exact u,y⟩;unfold execOp;rw[hop];simp[Instr.alloc,lK l,qD]
def PK{t:TypeId}{n:Nat}{x:Operand}{y:eO}{d:Nat}(hop:o.op=.box t x)(r:o.dst=some d)(K:d<s.n)(h:eC GL x=some y)(z:jR n (s.val y)=true)(R:Rel GL g s a w):
 qC GL P o g a w (s.put d (.ep (s.val y).cells) none false):=by
 obtain⟨q,ab,c3⟩:=pG (cv R h) (fh z).2;generalize (s.val y).cells=cells at q c3;generalize D:(a.eval x).cells=f at q
 let ow:Nat->eX:=λj=>if j<cells.length then .gZ (f.getD j undef)else .junk
 have iI:∀j,j<cells.length->(w.alloc (.cells f t)).cell? (cl w.heap.size j)=some (f.getD j undef):=by
  intro j l;have p:j<f.size:=by have:=q.1;simp at this;omega
  rw[show cl w.heap.size j=⟨w.heap.size,j,none⟩from rfl,World.cell?_alloc_new];simp[p]
 have L:Rel GL (g.block w.heap.size ow) s a (w.alloc (.cells f t)):=R.alloc (λo u e=>by
  simp only[ow]at e;split at e
  next l=>
   injection e with e;subst e
   exact iI o l
  .cases e) (λac e=>by simp only[ow]at e;split at e<;>cases e)
 have N:Step g w (g.block w.heap.size ow) (w.alloc (.cells f t)):=Step.alloc R.gA;have Q:VR (g.block w.heap.size ow) (.ep cells) (.pointer (some ⟨w.heap.size,0,none⟩)):=by
  refine .ep cells ⟨w.heap.size,0,none⟩ (λj=>f.getD j undef) rfl (λk z=>?_) (λj c l=>c3 c (bT l)) (λj c l=>?_)
  .rw[cA,aW.eL];simp only[ow,ax z]
  .have H:=bZ l;have p:j<f.toList.length:=by rw[<-q.1];exact H
   have hx:f.toList[j]?=some (f.getD j undef):=by simp at p;simp[p]
   exact(q.2 j c _ l hx).mono R.gA.mX
 refine⟨_,_,_,.inl ?_,by rw[r];exact L.put K Q.fb bR bR,N⟩;unfold execOp;rw[hop];simp[Instr.box,qD,D]
def Up{t:TypeId}{n:Nat}{x:Operand}{y:eO}{d:Nat}(hop:o.op=.box t x)(f:o.dst=some d)(j:d<s.n)(h:eC GL x=some y)(l:jR n (s.val y)=true)(R:Rel GL g s a w):
 qC GL P o g a w ((s.fG d (s.val y).cells).put d (.A d (s.G d) 0) none false):=by
 obtain⟨p,z,c3⟩:=pG (cv R h) (fh l).2;obtain⟨q,r,u⟩:=CU (t:=t) j R p c3;refine⟨_,_,q,.inl ?_,by rw[f];exact r,u⟩;unfold execOp;rw[hop];simp[Instr.box,qD]
end
end
section
variable {GL:Nat->Option (List V)}{P:Program}
section
variable {g:aW}{s s':St}{a:Act}{w:World}{o:Oper}
def u3{v:V}(h:v.one=true):v.cells=[v]:=by cases v<;>first|rfl|(simp[V.one]at h)
def D2{t:TypeId}{n:Nat}{d:Addr}{x:Value}{w w':World}(f:nk P t=some n)(hx:x.cells.size=n)(j:(storeCells d x.cells.toList).run P w=.ok () w'):
 (storeVar t d x).run P w=.ok () w':=by
 simp only[storeVar,Sem.run_bind,fj f,Result.andThen_ok];rw[an (by rw[hx];simp)];exact j
def Kl{st f off n:Nat}{x:Operand}{y:eO}{ad:Value}{t:TypeId}(hn:nk P t=some n)(h:eC GL x=some y)(R:Rel GL g s a w)(D:jR n (s.val y)=true)(Q:f<s.G st)
 (ab:off+n<=(s.loc st f).length) (ai:ER g (.A st f off) ad):
 ∃w' g',(Instr.storeAt t ad (a.eval x)).run P w=.ok () w'/\
  Rel GL g' (if(s.val y).one=true then(s.hZ st f off (s.val y).cells).ol st f off y else s.hZ st f off (s.val y).cells) a w'/\Step g w g' w':=by
 obtain⟨H,aA⟩:=fh D;obtain⟨aB,a4,c3⟩:=pG (cv R h) aA;obtain⟨b,hb,rfl⟩:=ai;obtain⟨aC,a5,dZ⟩:=R.loc st f Q;obtain rfl:=au (a5.symm.trans hb);have V4:(a.eval x).cells.size=n:=by rw[<-H,aB.1];simp
 obtain⟨w',W1,ac⟩:=og P (a.eval x).cells.toList 0 w ⟨aC,off,none⟩ rfl (λy a6=>a4 y (by simpa using a6)) (λk D=>by
  have N:off+0+k< (s.loc st f).length:=by simp at D;omega
  obtain⟨_,u,L,_⟩:=dZ.cell (off+0+k) _ (aa N);exact⟨⟨u,L⟩,dZ.free _ N⟩)
 have hrel:=R.hZ (off:=off) (xs:=(a.eval x).cells.toList) (vs:=(s.val y).cells) Q hb av (by simp;omega)
  (λk v z L a7=>⟨c3 v (bT L),aB.2 k v z L a7⟩) ac
 have p:Step g w g w':=Step.wrote (ow:=.su st f) ac (λk D=>dZ.bL _ (by
  have br:k< (a.eval x).cells.size:=by simpa using D
  show off+0+k<_;omega)) bR bR
 have d:(Instr.storeAt t (.pointer (some ⟨aC,off,none⟩)) (a.eval x)).run P w=.ok () w':=by
  exact W0
 by_cases r:(s.val y).one=true
 .simp only[r,bQ];cases y with
  |const v=>exact⟨w',g,d,hrel,p⟩
  |kn v=>exact⟨w',g,d,hrel,p⟩
  |tmp u=>
   simp only[St.val]at*
   have hx:x=.tmp u:=by
    exact bb4
   subst hx;by_cases K:s.fl u=true
   .have q:=u3 r;have aD:n=1:=by rw[q]at H;simpa using H.symm
    subst aD;have a8:ER g (s.Z u) (a.tmps.getD u undef):=R.Z u;have a0:VR g (s.Z u) (a.tmps.getD u undef):=a8.oh (by intro i j k e;rw[e]at r;simp[V.one]at r);have a1:=(a0.one r).1;have a2:=hrel.move (l:=.var u) (l':=.cell st f off) (v:=s.Z u) (x:=a.tmps.getD u undef) K ⟨rfl,rfl⟩ ⟨Q,λbs e=>by
     cases (e.symm.trans hb);constructor
     .have:=ac.new 0 (a.tmps.getD u undef) (by rw[show(a.eval (.tmp u)).cells=_ from a1];rfl);simpa using this
     .simp only[St.hZ,l9,oU,bQ];rw[kD _ _ _ _ (by rw[q];simpa using ab),ax (by rw[q];simp),q];simp⟩
    refine⟨w',g.ii (.var u) (.cell st f off),d,?_,p.trans Step.ii⟩;have a9:(((s.hZ st f off (s.Z u).cells).dP (.var u)).vw (.cell st f off))=(s.hZ st f off (s.Z u).cells).ol st f off (.tmp u):=by
     simp only[St.ol,St.dP,St.vw,St.hZ,K]
    rw[<-a9];exact a2
   .refine⟨w',g,d,?_,p⟩;refine hrel.CQ rfl rfl rfl rfl rfl rfl rfl rfl (λk e=>?_) (λbi bo j e=>?_) (λ_ _ e=>e)
    .simp only[St.ol,eR]at e;split at e
     .cases e
     .exact e
    .simp only[St.ol,l9]at e;split at e
     next a3=>
      obtain⟨rfl,rfl⟩:=a3;simp only[eR]at e;split at e
      .exact absurd e K
      .exact e
     .exact e
 .rw[an r];exact⟨w',g,d,hrel,p⟩
def Km{id off n:Nat}{cells:List V}{x:Operand}{y:eO}{ab:Value}{t:TypeId}(hn:nk P t=some n)(h:eC GL x=some y)(R:Rel GL g s a w)(r:jR n (s.val y)=true)(ac:s.E.box id=some cells)
 (N:off+n<=cells.length) (ad:ER g (.bp id off) ab):
 ∃w' g',(Instr.storeAt t ab (a.eval x)).run P w=.ok () w'/\
  Rel GL g' (if(s.val y).one=true then(s.jY id off cells (s.val y).cells).wI id off y else s.jY id off cells (s.val y).cells) a w'/\Step g w g' w':=by
 obtain⟨D,ai⟩:=fh r;obtain⟨aA,a3,c3⟩:=pG (cv R h) ai;obtain⟨b,hb,rfl⟩:=ad.bp;obtain⟨aB,a4,dZ⟩:=R.heap.box id cells ac;obtain rfl:=au (a4.symm.trans hb);have V4:(a.eval x).cells.size=n:=by rw[<-D,aA.1];simp
 obtain⟨w',W1,Q⟩:=og P (a.eval x).cells.toList 0 w ⟨aB,off,none⟩ rfl (λy a5=>a3 y (by simpa using a5)) (λk r=>by
  have L:off+0+k<cells.length:=by simp at r;omega
  obtain⟨_,u,K,_⟩:=dZ.cell (off+0+k) _ (aa L);exact⟨⟨u,K⟩,dZ.free _ L⟩)
 have hrel:=R.jY (off:=off) (xs:=(a.eval x).cells.toList) (vs:=(s.val y).cells) ac hb av (by simp;omega)
  (λk v z K a6=>⟨c3 v (bT K),aA.2 k v z K a6⟩) Q
 have f:Step g w g w':=Step.wrote (ow:=.dZ id) Q (λk r=>dZ.bL _ (by
  have a9:k< (a.eval x).cells.size:=by simpa using r
  show off+0+k<_;omega)) bR bR
 have d:(Instr.storeAt t (.pointer (some ⟨aB,off,none⟩)) (a.eval x)).run P w=.ok () w':=by
  exact W0
 by_cases q:(s.val y).one=true
 .simp only[q,bQ];cases y with
  |const v=>exact⟨w',g,d,hrel,f⟩
  |kn v=>exact⟨w',g,d,hrel,f⟩
  |tmp u=>
   simp only[St.val]at*
   have hx:x=.tmp u:=by
    exact bb4
   subst hx;by_cases H:s.fl u=true
   .have p:=u3 q;have aC:n=1:=by rw[p]at D;simpa using D.symm
    subst aC;have a7:ER g (s.Z u) (a.tmps.getD u undef):=R.Z u;have aD:VR g (s.Z u) (a.tmps.getD u undef):=a7.oh (by intro i j k e;rw[e]at q;simp[V.one]at q);have a0:=(aD.one q).1;have a1:=hrel.move (l:=.var u) (l':=.iI id off) (v:=s.Z u) (x:=a.tmps.getD u undef) H ⟨rfl,rfl⟩ ⟨aO cells off (s.Z u).cells,by simp[St.jY,aJ.set,eR],by rw[kD _ _ _ _ (by rw[p];simpa using N),ax (by rw[p];simp),p];simp,λbi e=>by
     cases (e.symm.trans hb);have:=Q.new 0 (a.tmps.getD u undef) (by rw[show(a.eval (.tmp u)).cells=_ from a0];rfl);simpa using this⟩
    refine⟨w',g.ii (.var u) (.iI id off),d,?_,f.trans Step.ii⟩;have a8:(((s.jY id off cells (s.Z u).cells).dP (.var u)).vw (.iI id off))=(s.jY id off cells (s.Z u).cells).wI id off (.tmp u):=by
     simp only[St.wI,St.dP,St.vw,St.jY,H]
    rw[<-a8];exact a1
   .refine⟨w',g,d,?_,f⟩;refine hrel.CQ rfl rfl rfl rfl rfl rfl rfl rfl (λk e=>?_) (λ_ _ _ e=>e) (λa2 j e=>?_)
    .simp only[St.wI,eR]at e;split at e
     .cases e
     .exact e
    .simp only[St.wI]at e;by_cases dV:a2=id
     .subst dV;rw[bl]at e;simp only[eR]at e;split at e
      .exact absurd e H
      .exact e
     .rw[bE _ _ dV]at e;exact e
 .rw[an q];exact⟨w',g,d,hrel,f⟩
def Mv{t:TypeId}{n:Nat}{z x:Operand}{bad y:eO}(hop:o.op=.store t z x)(D:o.dst=none)(K:nk P t=some n)(L:eC GL z=some bad)(h:eC GL x=some y)
 (d:s.store n (s.val bad) y=some s') (R:Rel GL g s a w):qC GL P o g a w s':=by
 have u:=cv R L;have fin:∀{f l},(Instr.storeAt t (a.eval z) (a.eval x)).run P w=.ok () f->Rel GL l s' a f->Step g w l f->qC GL P o g a w s':=by
  intro f l q j r;refine⟨undef,f,l,.inr ⟨?_,rfl⟩,by rw[D];exact j,r⟩;unfold execOp;rw[hop];simp[q]
 unfold St.store at d;split at d
 next st Q off H=>
  split at d
  next p=>rw[H]at u;obtain⟨f,l,q,j,r⟩:=Kl K h R p.1 p.2.1 p.2.2 u;rw[au d]at j;exact fin q j r
  .cases d
 next id off H=>
  split at d
  next cells N=>
   split at d
   next p=>rw[H]at u;obtain⟨f,l,q,j,r⟩:=Km K h R p.1 N p.2 u;rw[au d]at j;exact fin q j r
   .cases d
  .cases d
 .cases d
end
end
section
variable {GL:Nat->Option (List V)}{P:Program}
structure ju(g:aW)(sz:Nat)(xs:List V)(ys:List Value):Prop where
 len:ys.length=xs.length*sz
 ok:∀(i:Nat) v,xs[i]?=some v->jR sz v=true
 cell:∀(i:Nat) v (j:Nat) c y,xs[i]?=some v->v.cells[j]?=some c->ys[i*sz+j]?=some y->VR g c y/\y.oneCell'=true
def Ap(vs:List Value):∀(cells:List Value)(off:Nat),(nl cells off vs).length=cells.length:=by
 induction vs with
 |nil=>intro cells off;rfl
 |cons v vs ih=>intro cells off;simp[nl,ih]
def Fo(vs:List Value):∀(cells:List Value)(off j:Nat),off+vs.length<=cells.length->
 (nl cells off vs)[j]?=if off<=j/\j<off+vs.length then vs[j-off]? else cells[j]?:=by
 induction vs with
 |nil=>intro cells off j _;simp only[nl,aT];rw[an av]
 |cons v vs ih=>
  intro cells off j h;simp only[aM]at h;rw[nl,ih _ _ _ (by simp;omega)];exact Wn
def u6{i n sz j:Nat}(d:i<n)(f:j<sz):i*sz+j<n*sz:=by
 have:(i+1)*sz<=n*sz:=cj _ d;rw[dH]at this;omega
def ju.set{g:aW}{sz:Nat}{xs:List V}{ys:List Value}(h:ju g sz xs ys){i:Nat}(z:i<xs.length){v:V}{x:Value}(p:jR sz v=true)(hx:fK g v.cells x.cells.toList)(h1:∀y∈x.cells,y.oneCell'=true):
 ju g sz (xs.set i v) (nl ys (i*sz) x.cells.toList) where
 len:=by rw[Ap,h.len];simp
 ok j u e:=by
  rw[kR]at e;split at e
  .cases e;exact p
  .exact h.ok j u e
 cell j u k c y d l f:=by
  have hlen:x.cells.toList.length=sz:=by rw[<-hx.1,(fh p).1]
  have hle:i*sz+sz<=ys.length:=by
   rw[h.len];have:(i+1)*sz<=xs.length*sz:=cj _ z
   rwa [dH]at this
  rw[Fo _ _ _ _ av]at f;rw[kR]at d;split at d
  next q=>
   subst q;cases d;have D:k<sz:=by rw[<- (fh p).1];exact bZ l
   rw[ax av,show i*sz+k-i*sz=k from av]at f;exact⟨hx.2 k c y l f,h1 y (by simpa using bT f)⟩
  next q=>
   have K:=bZ d;have D:k<sz:=by rw[<- (fh (h.ok j u d)).1];exact bZ l
   have r:¬(i*sz<=j*sz+k/\j*sz+k<i*sz+x.cells.toList.length):=by
    rintro⟨L,H⟩;rw[hlen]at H;rcases Nat.lt_or_gt_of_ne q with t|t
    .have:(i+1)*sz<=j*sz:=cj _ t;rw[dH]at this;omega
    .have:(j+1)*sz<=i*sz:=cj _ t;rw[dH]at this;omega
   rw[an r]at f;exact h.cell j u k c y d l f
def ju.oh{g g':aW}{sz:Nat}{xs:List V}{ys:List Value}(h:ju g sz xs ys)(hle:g.Le g'){b off cap:Nat}(p:xs.length<=cap)
 (q:∀(k:Nat) y,ys[k]?=some y->g'.bL b (off+k)=.gZ y):VR g' (.sl sz xs) (.slice (some (cl b off)) xs.length cap):=by
 refine .sl sz xs (cl b off) cap (λk=>ys.getD k undef) rfl p (λi v e=>(fh (h.ok i v e)).1) (λk r=>?_) (λi v j c d l=>?_) (λi v j c d l=>?_)
 .have:k<ys.length:=by rw[h.len];exact r
  have f:ys[k]?=some ys[k]:=bR;simpa[cl,f]using q k ys[k] f
 .exact bP.1 (fh (h.ok i v d)).2 c (bT l)
 .have t:j<sz:=by rw[<- (fh (h.ok i v d)).1];exact bZ l
  have:i*sz+j<ys.length:=by rw[h.len];exact u6 (bZ d) t
  have f:ys[i*sz+j]?=some ys[i*sz+j]:=bR;have:=(h.cell i v j c _ d l f).1.mono hle;simpa[f]using this
def ui{g:aW}{s:St}{a:Act}{w:World}(R:Rel GL g s a w){sz:Nat}:∀{parts:List (Nat×Operand)} {ps:List (Nat×eO)} {xs out:List V} {ys:Array Value},uh GL parts=some ps->ju g sz xs ys.toList->iP s sz xs ps=some out->
 ∃zs,Instr.fill (λi=>some (i*sz,sz)) ys (parts.map λ(i,x)=>(i,a.eval x))=some zs/\ju g sz out zs.toList/\out.length=xs.length
 |[],ps,xs,out,ys,d,p,f=>by
  simp[uh]at d;subst d;simp[iP]at f;subst f;exact⟨ys,rfl,p,rfl⟩
 |(i,x)::parts,ps,xs,out,ys,d,p,f=>by
  simp only[uh]at d;split at d
  next y l H K=>
   cases d;simp only[iP]at f;split at f
   next q=>
    obtain⟨u,z⟩:=fh q.1;obtain⟨D,L,c3⟩:=pG (cv R H) z;have ad:(a.eval x).cells.size=sz:=by rw[<-u,D.1];simp
    have hle:i*sz+sz<=ys.size:=by
     have N:=p.len;have:(i+1)*sz<=xs.length*sz:=cj _ q.2;rw[dH]at this;simp at N;omega
    simp only[bw,Instr.fill];rw[an (by simp;omega)];have r:=CS (a.eval x).cells.toList 0 (i*sz) ys;simp only[dj]at r;have t:(Array.foldl (λcs (x:Value×Nat)=>match x with|(c,j)=>cs.setIfInBounds (i*sz+j) c) ys (a.eval x).cells.zipIdx).toList=nl ys.toList (i*sz) (a.eval x).cells.toList:=by
     rw[<-r,<-mg,oI]
    obtain⟨zs,Q,ab,ac⟩:=ui R K (by rw[t];exact p.set q.2 q.1 D L) f;exact⟨zs,Q,ab,by rw[ac];simp⟩
   .cases f
  .cases d
def Fp{t:TypeId}{z:V}(h:CT P t=some z)(g:aW):∃zv:Value,(P.info? t).bind (·.zero)=some zv/\fK g z.cells zv.cells.toList/\(∀c∈z.cells,c.one=true)/\∀y∈zv.cells,y.oneCell'=true:=by
 unfold CT at h;split at h
 next zs _ f=>cases h;exact oj f g
 next j _ f=>obtain rfl:=au h;obtain⟨zv,p,q,l,r⟩:=oj f g;have d:j.one=true:=l j (by simp);exact⟨zv,p,by rw[u3 d];exact q,by rw[u3 d];exact l,r⟩
 .cases h
section
variable {g:aW}{s s':St}{a:Act}{w:World}{o:Oper}
def uj{sz:Nat}{xs:List V}{cells:Array Value}{t:TypeId}{d cap:Nat}(K:d<s.n)(R:Rel GL g s a w)(r:xs.length<=cap)(p:cells.size=cap*sz)
 (h:ju g sz xs (cells.toList.take (xs.length*sz))):
 ∃g',Rel GL g' (s.put d (.sl sz xs) none true) (a.put (some d) (.slice (some (cl w.heap.size 0)) xs.length cap)) (w.alloc (.cells cells t))/\Step g w g' (w.alloc (.cells cells t))/\
  (∀o,cells.size<=o->g'.bL w.heap.size o=.junk):=by
 let ow:Nat->eX:=λj=>match cells[j]? with
  |some x=>if j<xs.length*sz then .gZ x else .tail (.var d)
  |none=>.junk
 have L:Rel GL (g.block w.heap.size ow) s a (w.alloc (.cells cells t)):=R.alloc (λo x e=>by
  show(w.alloc _).cell? ⟨w.heap.size,o,none⟩=_;rw[World.cell?_alloc_new];simp only[ow]at e;split at e
  next y f=>
   split at e
   .injection e with e;subst e;exact f
   .cases e
  .cases e) (λaD e=>by
  simp only[ow]at e;split at e
  .split at e<;>cases e
  .cases e)
 have N:Step g w (g.block w.heap.size ow) (w.alloc (.cells cells t)):=Step.alloc R.gA;have hle:xs.length*sz<=cells.size:=by rw[p];exact cj _ r
 have Q:VR (g.block w.heap.size ow) (.sl sz xs) (.slice (some (cl w.heap.size 0)) xs.length cap):=by
  refine h.oh R.gA.mX r (λk y f=>?_);rw[dA]at f;split at f
  next u=>
   have z:cells[k]?=some y:=by simpa using f
   rw[aW.eL];simp only[ow,cA,z,u,bQ]
  .cases f
 refine⟨_,L.put K Q.fb bR (λ_=>?_),N,λo ab=>?_⟩
 .intro aB aC a0 len ac q l k a1 ad;injection q with q D
  injection l with l ai aA
  injection l with l
  subst q D l ai aA;have u:k<cells.size:=by rw[p];exact ad
  have H:cells[k]?=some cells[k]:=bR;refine⟨?_,⟨cells[k],?_⟩,?_⟩
  .simp only[cl,cA];rw[aW.eL];simp only[ow,H];rw[an av]
  .simp only[cl,cA];rw[World.cell?_alloc_new];exact H
  .simp only[cl,cA];exact World.frozen?_alloc_new _ _ _ _
 .rw[aW.eL];simp only[ow,gJ ab]
def range_zero(n sz:Nat)(z:Array Value)(d:z.size=sz)(t:0<sz):((Array.range (n*sz)).map (λi=>z[i%z.size]!)).toList=(List.replicate n z.toList).flatten:=by
 apply iX;intro j;simp only[jS,pw,bB];by_cases p:j<n*sz
 .have f:j%sz<z.size:=by rw[d];exact eG _ t
  rw[lQ p];have key:∀(m k:Nat),k<m*sz->(List.replicate m z.toList).flatten[k]?=z[k%sz]?:=by
   intro m;induction m with
   |zero=>intro k q;simp at q
   |succ m ih=>
    intro k q;rw[fR,dk,fI];have r:z.toList.length=sz:=by simpa using d
    rw[r];split
    next l=>rw[ly l];simp
    next l=>rw[ih (k-sz) (by rw[dH]at q;omega),pC (a:=k) av]
  rw[key n j p];rw[d,bG,jM z (j%sz) f,iB f]
 .rw[b0 (by simpa using p),b0 (by simp[d];omega)];rfl
def ju.replicate{g:aW}{sz n:Nat}{z:V}{zv:Value}(l:jR sz z=true)(L:0<sz)(p:fK g z.cells zv.cells.toList)(H:∀y∈zv.cells,y.oneCell'=true):
 ju g sz (List.replicate n z) ((Array.range (n*sz)).map (λi=>zv.cells[i%zv.cells.size]!)).toList:=by
 have q:zv.cells.size=sz:=by rw[<- (fh l).1,p.1];simp
 refine⟨bR,λi v e=>?_,λi v j c y r t d=>?_⟩
 .obtain⟨_,rfl⟩:=mj.1 (bT e);exact l
 .obtain⟨_,rfl⟩:=mj.1 (bT r);have u:j<sz:=by rw[<- (fh l).1];exact bZ t
  have K:i<n:=by simpa using bZ r
  have D:i*sz+j<n*sz:=u6 K u;simp only[jS,pw,bB,lQ D,bG]at d;have hm:(i*sz+j)%zv.cells.size=j:=by rw[q,jU,Nat.mul_add_mod,ly u]
  rw[hm]at d;have f:j<zv.cells.size:=av;rw[jM zv.cells j f]at d;cases d;exact⟨p.2 j c _ t (by simp[f]),H _ bR⟩
def Kn{t e:TypeId}{sz n:Nat}{z:V}{parts:Array (Nat×Operand)}{ps:List (Nat×eO)}{xs:List V}{d:Nat}(hop:o.op=.buildSlice t n parts)(j:o.dst=some d)(D:d<s.n)
 (H:P.underlying t=some (.slice e)) (q:nk P e=some sz) (K:CT P e=some z) (r:uh GL parts.toList=some ps) (L:n*sz<=16777216) (l:0<sz) (p:jR sz z=true)
 (N:iP s sz (List.replicate n z) ps=some xs) (R:Rel GL g s a w):qC GL P o g a w (s.put d (.sl sz xs) none true):=by
 obtain⟨u,z1,Q,aB,ab⟩:=Fp K g;obtain⟨zs,f1,y,ac⟩:=ui (g:=g) R (ys:=(Array.range (n*sz)).map (λi=>u.cells[i%u.cells.size]!)) r (ju.replicate p l Q ab) N;have hlen:xs.length=n:=by rw[ac];simp
 have f:zs.size=n*sz:=by have:=y.len;rw[hlen]at this;simpa using this
 obtain⟨ad,ai,aA,_⟩:=uj (sz:=sz) (xs:=xs) (cells:=zs) (t:=e) (cap:=n) D R av f (by
  rw[az (by rw[hlen];simp[f])];exact y)
 refine⟨_,_,ad,.inl ?_,by rw[j];exact ai,aA⟩;unfold execOp;rw[hop];refine(by
  rw[Sem.run_bind];have:(Instr.buildSlice t n (parts.map λ(i,x)=>(i,a.eval x))).run P w=.ok (.slice (some (cl w.heap.size 0)) xs.length n) (w.alloc (.cells zs e)):=by
   simp only[Instr.buildSlice,Sem.run_bind,run_underlying H,Result.andThen_ok,fj q];rw[an av];have fin:∀{c:Array Value},(do let a<-newRow e c;pure (Value.slice (some a) n n):Sem Value).run P w=.ok (.slice (some (cl w.heap.size 0)) xs.length n) (w.alloc (.cells c e)):=by
    intro c;simp[newRow,hlen,cl]
   exact bb2
  rw[this];rfl)
end
end
section
variable {GL:Nat->Option (List V)}{P:Program}
def Aq(s:St)(l:Loc):(s.dP l).iF l=false:=by
 cases l<;>simp[St.dP,St.iF,l9]
section
variable {g:aW}{s s':St}{a:Act}{w w':World}{o:Oper}
def Rel.Ko(h:Rel GL g s a w){b off:Nat}{ys:List Value}{l:Loc}(H:s.iF l=false)(hw:oP w w' b off ys)(ho:∀k,k<ys.length->g.bL b (off+k)=.tail l):Rel GL g s a w':=by
 refine {size:=h.size,gj:=h.gj.mono λD d f=>⟨d,hw.map D _ rfl f⟩,Z:=h.Z,gA:=h.gA.wrote hw ho bR,heap:=?_,loc:=?_,jd:=h.jd,jt:=?_,gD:=?_,jX:=h.jX,gF:=?_,ib:=?_}
 .refine⟨λid cells e=>let⟨q,d,f⟩:=h.heap.box id cells e;⟨q,d,f.eW hw ho bR⟩,λid cells j c q x d f e3 p z=>?_,λid kvs e=>let⟨q,o,d,f,e3,p,z⟩:=h.heap.map id kvs e;⟨q,o,d,f,hw.map _ _ p e3,p,z⟩,h.heap.Y⟩;obtain⟨u,e6,e7⟩:=h.heap.box id cells d;obtain rfl:=au (e6.symm.trans p);rw[eW hw ho (e7.bL j (bZ e3)) (by simp)]at z;refine(h.heap.tail id cells j c u x d f e3 p z).wrote hw ho ?_;intro e;injection e with e;subst e;simp[St.iF,f]at H
 .intro st gn y;obtain⟨q,d,f⟩:=h.loc st gn y;exact⟨q,d,f.eW hw ho bR⟩
 .intro t e;refine(h.jt t e).wrote hw ho ?_;intro r;injection r with r;subst r;simp[St.iF,e]at H
 .intro st gn j c q x d f e3 p;have y:gn<s.G st:=by
   exact WO
  obtain⟨u,e6,e7⟩:=h.loc st gn y;obtain rfl:=au (e6.symm.trans e3);rw[eW hw ho (e7.bL j (bZ f)) (by simp)]at p;refine(h.gD st gn j c u x d f e3 p).wrote hw ho ?_;intro r;injection r with r;subst r;simp[St.iF,d]at H
 .intro t st gn j e;obtain⟨y,K⟩:=h.gF t st gn j e;refine⟨y,λq e3=>?_⟩;obtain⟨h4,h5⟩:=K q e3;obtain⟨u,e6,e7⟩:=h.loc st gn y;exact aaz
 .intro t id j e;obtain⟨cells,d,f,e3⟩:=h.ib t id j e;refine⟨cells,d,f,λq p=>?_⟩;obtain⟨u,e6,e7⟩:=h.heap.box id cells d;obtain rfl:=au (e6.symm.trans p);rw[eW hw ho (e7.bL j (bZ f)) bR];exact e3 u p
def aW.pY(g:aW)(b off:Nat)(ys:List Value):aW:=
 {g with bL:=λd o=>if d=b/\off<=o/\o<off+ys.length then .gZ (ys.getD (o-off) undef)else g.bL d o}
def IW(g:aW)(b off:Nat)(ys:List Value){k:Nat}{y:Value}(h:ys[k]?=some y):(g.pY b off ys).bL b (off+k)=.gZ y:=by
 have d:=bZ h;show(if b=b/\off<=off+k/\off+k<off+ys.length then eX.gZ (ys.getD (off+k-off) undef)else _)=_;rw[ax ⟨rfl,av,av⟩,show off+k-off=k from av];simp[h]
def qE{g:aW}{b off:Nat}{ys:List Value}{d o:Nat}{ow:eX}{l:Loc}(ho:∀k,k<ys.length->g.bL b (off+k)=.tail l)(h:g.bL d o=ow)(hne:ow≠.tail l):(g.pY b off ys).bL d o=ow:=by
 simp only[aW.pY];rw[an]
 .exact h
 .exact WM
def qF(g:aW)(b off:Nat)(ys:List Value)(d o:Nat):(∃k y,d=b/\o=off+k/\ys[k]?=some y/\(g.pY b off ys).bL d o=.gZ y)\/(¬(d=b/\off<=o/\o<off+ys.length)/\(g.pY b off ys).bL d o=g.bL d o):=by
 by_cases h:d=b/\off<=o/\o<off+ys.length
 .obtain⟨rfl,j,l⟩:=h;have f:ys[o-off]?=some ys[o-off]:=bR;refine .inl ⟨o-off,ys[o-off],rfl,av,f,?_⟩;have:=IW g d off ys f
  rwa [show off+(o-off)=o from av]at this
 .exact .inr ⟨h,by simp only[aW.pY,an h]⟩
def Rel.pY(h:Rel GL g s a w){b off:Nat}{ys:List Value}{l:Loc}(K:s.iF l=false)(u:∀k,k<ys.length->g.bL b (off+k)=.tail l)
 (ab:∀(k:Nat) y,ys[k]?=some y->w.cell? (cl b (off+k))=some y):Rel GL (g.pY b off ys) s a w/\Step g w (g.pY b off ys) w:=by
 have hle:g.Le (g.pY b off ys):=⟨λ_ _ _ e=>qE u e bR,λ_ _ e=>qE u e bR,λ_ _ e=>e⟩;have dZ:∀{d:Nat} {ow:eX} {cells:List V},fP g w d ow cells->ow≠.tail l->fP (g.pY b off ys) w d ow cells:=λhb Q=>
  ⟨λj=>qE u (hb.mq j) Q,λj c ac=>let⟨h1,x,f,ad⟩:=hb.cell j c ac;⟨h1,x,f,ad.mono hle⟩,hb.ki⟩
 have r:∀{k v x},dS g w k v x->k≠l->dS (g.pY b off ys) w k v x:=by
  intro k v x ai R sz aA aB len cap aC hx j h1 f;obtain⟨p,q,z⟩:=ai sz aA aB len cap aC hx j h1 f;exact⟨qE u p (by intro e;injection e with e;exact R e),q,z⟩
 refine⟨{
  size:=h.size,gj:=h.gj.mono λD p q=>⟨qE u p bR,q⟩,Z:=λt=>(h.Z t).mono hle (λ_ _ _ e=>e),gA:=⟨λn c e=>(h.gA.kn n c e).mono hle,λd o x e=>?_,λd aD e=>?_,λd o e=>?_,h.gA.kC⟩,heap:=⟨λid cells e=>let⟨d,p,q⟩:=h.heap.box id cells e;⟨d,p,dZ q bR⟩,λid cells j c d x p q z H L=>r (h.heap.tail id cells j c d x p q z H L) ?_,λid kvs e=>let⟨d,o,p,q,z,H,L⟩:=h.heap.map id kvs e;⟨d,o,p,qE u q bR,z,H,L.mono hle⟩,h.heap.Y⟩,loc:=λst N a0=>let⟨d,p,q⟩:=h.loc st N a0;⟨d,p,dZ q bR⟩,jd:=h.jd,jt:=λt e=>r (h.jt t e) ?_,gD:=λst N j c d x p q z H=>r (h.gD st N j c d x p q z H) ?_,jX:=h.jX,gF:=h.gF,ib:=h.ib},⟨hle.gZ,hle.e8,hle.hb,λd o e=>⟨qE u e bR,rfl,rfl⟩,λ_ _ _ _ e=>e,λd o e _=>?_,ao _,.refl _,λ_ _ _=>rfl⟩⟩
 .rcases qF g b off ys d o with⟨k,y,rfl,rfl,h1,f⟩|⟨_,f⟩
  .rw[f]at e;injection e with e;subst e;exact ab k y h1
  .rw[f]at e;exact h.gA.gZ d o x e
 .rcases qF g b off ys d 0 with⟨k,y,rfl,R,h1,f⟩|⟨_,f⟩
  .rw[f]at e;cases e
  .rw[f]at e;exact h.gA.e8 d aD e
 .rcases qF g b off ys d o with⟨k,y,rfl,rfl,h1,f⟩|⟨_,f⟩
  .exact h.gA.il d _ (by rw[u k (bZ h1)];simp)
  .rw[f]at e;exact h.gA.il d o e
 .rintro rfl;simp[St.iF,q]at K
 .rintro rfl;simp[St.iF,e]at K
 .rintro rfl;simp[St.iF,p]at K
 .rcases qF g b off ys d o with⟨k,y,rfl,rfl,h1,f⟩|⟨_,f⟩
  .rw[f]at e;cases e
  .rw[f]at e;exact e
def Rel.Kp(h:Rel GL g s a w){l:Loc}(l':Loc)(q:s.iF l=false):Rel GL (g.ii l l') s a w:=by
 refine {
  size:=h.size,gj:=h.gj.mono λD d f=>⟨CO.2 d,f⟩,Z:=λt=>(h.Z t).mono pF (λ_ _ _ e=>e),gA:=h.gA.ii,heap:=⟨λid cells e=>let⟨b,h1,p⟩:=h.heap.box id cells e;⟨b,h1,p.IT⟩,λid cells j c b y d f r u H=>(h.heap.tail id cells j c b y d f r u H).nL ?_,λid kvs e=>let⟨b,o,h1,p,K,L,N⟩:=h.heap.map id kvs e;⟨b,o,h1,Ag.2 p,K,L,N.mono pF⟩,h.heap.Y⟩,loc:=λst z e=>let⟨b,h1,p⟩:=h.loc st z e;⟨b,h1,p.IS⟩,jd:=h.jd,jt:=λt e=>(h.jt t e).nL ?_,gD:=λst z j c b y d f r u=>(h.gD st z j c b y d f r u).nL ?_,jX:=h.jX,gF:=h.gF,ib:=h.ib}
 .rintro rfl;simp[St.iF,f]at q
 .rintro rfl;simp[St.iF,e]at q
 .rintro rfl;simp[St.iF,d]at q
def ju.append{sz:Nat}{xs ys:List V}{p q:List Value}(h:ju g sz xs p)(l:ju g sz ys q):ju g sz (xs++ys) (p++q) where
 len:=by rw[ae,ae,h.len,l.len,dK]
 ok i v e:=by
  rw[fI]at e;split at e
  .exact h.ok i v e
  .exact l.ok _ v e
 cell i v j c y f r d:=by
  rw[fI]at f d;rw[h.len]at d;split at f
  next t=>
   have u:j<sz:=by rw[<- (fh (h.ok i v f)).1];exact bZ r
   rw[ax (u6 t u)]at d;exact h.cell i v j c y f r d
  next t=>have hle:xs.length*sz<=i*sz:=cj _ av;rw[an av]at d;refine l.cell (i-xs.length) v j c y f r ?_;rw[<-d,Nat.sub_mul];congr 1;omega
def vW(R:Rel GL g s a w){sz:Nat}{xs:List V}{x:Value}(h:ER g (.sl sz xs) x):∃p:List Value,ju g sz xs p/\(Builtin.firstCells sz xs.length x).run P w=.ok p.toArray w/\
 ∃base cap,x=.slice base xs.length cap/\xs.length<=cap/\(∀d,base=some d->d.spot=none/\∀(k:Nat) y,p[k]?=some y->g.bL d.block (d.off+k)=.gZ y)/\(base=none->cap=0):=by
 rcases h.sl with⟨rfl,rfl⟩|⟨d,cap,z,rfl,D,r,H,q,K,ab⟩
 .exact⟨[],⟨bR,bR,bR⟩,rfl,none,0,rfl,bR,bR,λ_=>rfl⟩
 .refine⟨(List.range (xs.length*sz)).map z,⟨bR,λi v e=>?_,λi v j c y l t L=>?_⟩,?_,some d,cap,rfl,r,λad e=>?_,bR⟩
  .simp only[jR,aX,iA,bP];refine⟨H i v e,λc ac=>?_⟩;obtain⟨j,u⟩:=fZ.1 ac;exact K i v j c e u
  .have u:j<sz:=by rw[<-H i v l];exact bZ t
   have N:=u6 (bZ l) u;simp[N]at L;subst L;have Q:=ab i v j c l t;exact⟨Q,(Q.one (K i v j c l t)).2⟩
  .simp only[Builtin.firstCells];exact run_loadCells P _ w d z D (λk f=>R.gA.gZ _ _ _ (q k f))
  .injection e with e;subst e
   refine⟨D,λk y e=>?_⟩;have f:=bZ e;simp at f;simp[f]at e;subst e;exact q k f
def Mw(R:Rel GL g s a w){sz:Nat}{v:V}{x:Value}{ys:List V}(h:nF sz v=some ys)(hx:ER g v x):∃q:List Value,ju g sz ys q/\(Builtin.lenOf x).run P w=.ok ys.length w/\
 (Builtin.firstCells sz ys.length x).run P w=.ok q.toArray w:=by
 cases v<;>simp only[nF]at h<;>first|(cases h;done)|skip
 next l=>
  split at h
  next d=>
   subst d;cases h;rw[hx.str];refine⟨l.map λb=>.int .u8 b.toNat,⟨bR,λi v e=>?_,λi v j c y f e2 e3=>?_⟩,by simp[Builtin.lenOf,ByteArray.size],?_⟩
   .simp at e;obtain⟨b,_,rfl⟩:=e;rfl
   .simp at f;obtain⟨b,hb,rfl⟩:=f;cases j with
    |zero=>
     exact W2
    |succ j=>simp[V.cells]at e2
   .simp only[Builtin.firstCells,aq,Sem.run_pure];congr 1;have:(⟨l.toArray⟩:ByteArray).extract 0 l.length=⟨l.toArray⟩:=by
     apply ByteArray.ext;simp[m0]
    rw[this];apply jG;simp
  .cases h
 next t u=>
  split at h
  next d=>subst d;cases h;obtain⟨p,d,r,base,cap,rfl,_⟩:=vW (P:=P) R hx;exact⟨p,d,rfl,r⟩
  .cases h
 .cases h;rw[hx.aP];exact⟨[],⟨bR,bR,bR⟩,rfl,rfl⟩
def Kq(n:Nat):∀(r c:Nat),c<n->Builtin.growBy n r c<=n+(n+768)/4:=by
 intro r;induction r with
 |zero=>intro c h;simp only[Builtin.growBy];omega
 |succ r ih=>
  intro c h;simp only[Builtin.growBy];rw[an av];by_cases d:c+(c+768)/4<n
  .exact ih _ d
  .cases r with
   |zero=>simp only[Builtin.growBy];omega
   |succ r=>simp only[Builtin.growBy];rw[ax av];omega
def G3{L9 cap:Nat}(h:cap<L9):Builtin.nextslicecap L9 cap<=2*L9+512:=by
 unfold Builtin.nextslicecap;split
 .omega
 .split
  .omega
  .have:=Kq L9 4 cap h;omega
def Ar(z:Array Value)(n:Nat):(Builtin.zeroCells z n).size=n*z.size:=by simp[Builtin.zeroCells]
def Uq(d:TypeDesc)(h:∀k,d≠.int k):(match d with|TypeDesc.int _=>true|_=>false)=false:=by
 cases d<;>first|rfl|exact absurd rfl (h _)
def As(base:Option Addr)(off:Nat)(q:List Value)(v:Value):Sem Value:=
 match base with
 |some d=>do storeCells (d.add off) q;pure v
 |none=>pure v
def vX{ts:Array TypeId}{t u e:TypeId}{d:TypeDesc}{ty:TypeId}{sz:Nat}{base:Option Addr}{len cap n:Nat}{x:Value}{p q:List Value}{zv:Value}
 (h1:ts[0]?=some t) (h2:ts[1]?=some u) (L:P.underlying t=some (.slice e)) (N:P.underlying u=some d) (Q:∀k,d≠.int k) (y:nk P e=some sz) (K:P.bytesOf e<=65536)
 (R:(P.info? e).bind (·.zero)=some zv) (hlen:(Builtin.lenOf x).run P w=.ok n w) (l:∀W:World,(∀j,W.cell? j=w.cell? j)->(Builtin.firstCells sz n x).run P W=.ok q.toArray W)
 (hold:¬len+n<=cap->∀W:World,(∀j,W.cell? j=w.cell? j)->(Builtin.firstCells sz len (.slice base len cap)).run P W=.ok p.toArray W) (z:len+n<=ir):
 (Builtin.append_ ts ty #[.slice base len cap,x]).run P w=
  if len+n<=cap then(As base (len*sz) q (.slice base (len+n) cap)).run P w
  else .ok (.slice (some (cl w.heap.size 0)) (len+n) ((Question.appendCap (len+n) cap e).cut (w.tape w.drawn (.appendCap (len+n) cap e))))
   (w.drew.alloc (.cells (p.toArray++q.toArray++Builtin.zeroCells zv.cells ((Question.appendCap (len+n) cap e).cut (w.tape w.drawn (.appendCap (len+n) cap e))-(len+n))) e)):=by
 unfold Builtin.append_;rw[h1,h2];have hint:=Uq d Q;simp only[fC,ew,ey];rw[Sem.run_bind,run_underlying L,Result.andThen_ok];simp only[];rw[Sem.run_bind,fj y,Result.andThen_ok,Sem.run_bind,run_underlying N,Result.andThen_ok];simp only[hint,pure_bind,bM,cE,bD,bQ];rw[Sem.run_bind,hlen,Result.andThen_ok];by_cases f:len+n<=cap
 .rw[ax f,ax f,Sem.run_bind,l w (λ_=>rfl),Result.andThen_ok];cases base with
  |none=>rfl
  |some j=>rfl
 .rw[an f,an f];cases D:P.info? e with
  |none=>simp[nk,D]at y
  |some i=>
   have r:∀W:World,(typeInfo e).run P W=.ok i W:=λW=>by simp[typeInfo,D]
   have G4:i.bytes<=65536:=by simpa[Program.bytesOf,D]using K
   have H:IntKind.i64.max=9223372036854775807:=dt;unfold ir at z;rw[Sem.run_bind,r,Result.andThen_ok,an (by rw[H];omega)];rw[Sem.run_bind,r,Result.andThen_ok];have ab:Builtin.nextslicecap (len+n) cap*i.bytes<=2^48:=by
    exact WB
   rw[an av,Sem.run_bind,run_choose];simp only[Question.forced,bM,cE,Result.andThen_ok];rw[Sem.run_bind,r,Result.andThen_ok,Sem.run_bind,run_askRoom,Result.andThen_ok,Sem.run_bind];rw[show({w with drawn:=w.drawn+1}:World)=w.drew from rfl,hold f w.drew (λ_=>rfl),Result.andThen_ok,Sem.run_bind,l w.drew (λ_=>rfl),Result.andThen_ok,Sem.run_bind,lK R,Result.andThen_ok];simp[newRow,cl];rfl
end
end
section
variable {GL:Nat->Option (List V)}{P:Program}
section
variable {g:aW}{s s':St}{a:Act}{w w':World}{o:Oper}
def qG{n:Nat}{x:Value}{sz:Nat}{p:List Value}(h:(Builtin.firstCells sz n x).run P w=.ok p.toArray w)(W:World)(r:∀d,W.cell? d=w.cell? d)
 (hx:(∃l,x=.string l)\/(∃l c,x=.slice none l c)\/∃d l c,x=.slice (some d) l c/\d.spot=none/\∀k,k<n*sz->∃y,w.cell? (cl d.block (d.off+k))=some y):
 (Builtin.firstCells sz n x).run P W=.ok p.toArray W:=by
 rcases hx with⟨l,rfl⟩|⟨l,c,rfl⟩|⟨d,l,c,rfl,q,t⟩
 .exact WZ
 .exact WZ
 .simp only[Builtin.firstCells]at h ⊢
  have f:∀k,k<n*sz->w.cell? (cl d.block (d.off+k))=some ((w.cell? (cl d.block (d.off+k))).getD undef):=λk j=>by
   obtain⟨y,f⟩:=t k j;rw[f];rfl
  rw[run_loadCells P _ w d _ q f]at h;rw[run_loadCells P _ W d _ q (λk j=>by rw[r];exact f k j)];injection h with h1 h2
  rw[h1]
def Ec(R:Rel GL g s a w){sz:Nat}{v:V}{x:Value}{ys:List V}(h:nF sz v=some ys)(hx:ER g v x):
 (∃l,x=.string l)\/(∃l c,x=.slice none l c)\/∃d l c,x=.slice (some d) l c/\d.spot=none/\∀k,k<ys.length*sz->∃y,w.cell? (cl d.block (d.off+k))=some y:=by
 cases v<;>simp only[nF]at h<;>first|(cases h;done)|skip
 .exact .inl ⟨_,hx.str⟩
 .split at h
  next j=>
   subst j;cases h;rcases hx.sl with⟨rfl,rfl⟩|⟨d,cap,ys,rfl,p,q,t,f,u,z⟩
   .exact .inr (.inl ⟨_,_,rfl⟩)
   .exact .inr (.inr ⟨d,_,cap,rfl,p,λk r=>⟨_,R.gA.gZ _ _ _ (f k r)⟩⟩)
  .cases h
 .exact .inr (.inl ⟨_,_,hx.aP⟩)
def IX{sz sx:Nat}{xs ys:List V}{p q:List Value}{zv:Value}{t:TypeId}{d:Nat}(u:d<s.n)(R:Rel GL g s a w)(E:ju g sz xs p)(l:ju g sz ys q)(y:zv.cells.size=sz)
 (j:xs.length+ys.length<=sx):
 ∃g',Rel GL g' (s.put d (.sl sz (xs++ys)) none true) (a.put (some d) (.slice (some (cl w.heap.size 0)) (xs.length+ys.length) sx)) (w.drew.alloc (.cells (p.toArray++q.toArray++Builtin.zeroCells zv.cells (sx-(xs.length+ys.length))) t))/\
  Step g w g' (w.drew.alloc (.cells (p.toArray++q.toArray++Builtin.zeroCells zv.cells (sx-(xs.length+ys.length))) t)):=by
 have f:=E.append l;obtain⟨g',r,z,_⟩:=uj (s:=s) (t:=t) (sz:=sz) (xs:=xs++ys) (cells:=p.toArray++q.toArray++Builtin.zeroCells zv.cells (sx-(xs.length+ys.length))) (cap:=sx) u R.drew
  (by simpa using j) (by
   simp only[kS,Ar,y,kT,E.len,l.len];rw[<-dK,<-dK];congr 1;omega) (by
   have:((p.toArray++q.toArray++Builtin.zeroCells zv.cells (sx-(xs.length+ys.length))).toList.take ((xs++ys).length*sz))=p++q:=by
    simp only[oH,lT];rw[e0 (by rw[<-f.len];simp),az (by rw[f.len];simp)]
   rw[this];exact f)
 rw[ae]at r;exact⟨g',r,(Step.drew g w).trans z⟩
def Mx{sz cap:Nat}{xs ys:List V}{p q:List Value}{f:Addr}{d:Nat}{l:Loc}(a5:d<s.n)(R:Rel GL g s a w)(z:ju g sz ys q)(Q:f.spot=none)
 (E:ju g sz xs p) (aD:∀(k:Nat) y,p[k]?=some y->g.bL f.block (f.off+k)=.gZ y)
 (a0:dS g w l (.sl sz xs) (.slice (some f) xs.length cap)) (ab:s.iF l=false) (D:xs.length+ys.length<=cap):
 ∃w' g',(do storeCells (f.add (xs.length*sz)) q;pure (.slice (some f) (xs.length+ys.length) cap):Sem Value).run P w=.ok (.slice (some f) (xs.length+ys.length) cap) w'/\
  Rel GL g' (s.put d (.sl sz (xs++ys)) none true) (a.put (some d) (.slice (some f) (xs.length+ys.length) cap)) w'/\Step g w g' w':=by
 have tl:∀k,k<q.length->g.bL f.block (f.off+xs.length*sz+k)=.tail l/\(∃u,w.cell? (cl f.block (f.off+xs.length*sz+k))=some u)/\w.frozen? (cl f.block (f.off+xs.length*sz+k))=false:=by
  intro k r;rw[z.len]at r;have a6:xs.length*sz+k<cap*sz:=by
   have:(xs.length+ys.length)*sz<=cap*sz:=cj _ D;rw[dK]at this;omega
  have:=a0 sz xs f xs.length cap rfl rfl (xs.length*sz+k) av a6
  rwa [<-cn]at this
 have ac:∀y∈q,y.oneCell'=true:=by
  intro y a7;obtain⟨k,r⟩:=fZ.1 a7;have H:=bZ r;rw[z.len]at H;have K:0<sz:=by
   rcases cS sz with ad|ad
   .subst ad;simp at H
   .exact ad
  have ch:k/sz<ys.length:=(iz K).2 H;have ci:k%sz<sz:=eG _ K;have b7:=(fh (z.ok (k/sz) ys[k/sz] bR)).1;have a1:(ys[k/sz]).cells[k%sz]?=some (ys[k/sz]).cells[k%sz]:=bR;exact(z.cell (k/sz) ys[k/sz] (k%sz) _ y bR a1 (by rw[jU,l2];exact r)).2
 obtain⟨w',ai,a8⟩:=og P q 0 w (cl f.block (f.off+xs.length*sz)) rfl ac (λk r=>(tl k r).2);have t:oP w w' f.block (f.off+xs.length*sz) q:=a8;have aA:∀k,k<q.length->g.bL f.block (f.off+xs.length*sz+k)=.tail l:=λk r=>(tl k r).1;have a9:=R.Ko ab t aA;obtain⟨bi,a2⟩:=a9.pY ab aA t.new;have bo:=bi.Kp (.var d) ab;have hle:g.Le ((g.pY f.block (f.off+xs.length*sz) q).ii l (.var d)):=a2.le.trans pF;have br:VR ((g.pY f.block (f.off+xs.length*sz) q).ii l (.var d)) (.sl sz (xs++ys)) (.slice (some f) (xs.length+ys.length) cap):=by
  have:=(E.append z).oh (b:=f.block) (off:=f.off) (cap:=cap) hle (by simpa using D) (λk y r=>by
   rw[fI,E.len]at r;split at r
   .exact hle.gZ _ _ _ (aD k y r)
   next ca=>have:=IW g f.block (f.off+xs.length*sz) q r;rw[show f.off+xs.length*sz+(k-xs.length*sz)=f.off+k from av]at this;exact u0.2 this)
  have a3:cl f.block f.off=f:=by cases f;simp at Q;simp[cl,Q]
  rw[a3,ae]at this;exact this
 refine⟨w',_,?_,bo.put a5 br.fb bR (λ_=>?_),(Step.wrote t aA bR bR).trans (a2.trans Step.ii)⟩
 .rw[Sem.run_bind,add_eq Q,ai];rfl
 .intro cb zs cc len bs aB L k bu bv;injection aB with aB a4
  injection L with L bU b2
  injection L with L
  subst aB a4 L bU b2;rw[dK]at bu;obtain⟨b3,⟨u,b5⟩,b6⟩:=a0 sz xs f xs.length cap rfl rfl k av bv;have N:¬(f.block=f.block/\f.off+xs.length*sz<=f.off+k/\f.off+k<f.off+xs.length*sz+q.length):=by
   rw[z.len];omega
  refine⟨?_,⟨u,?_⟩,by rw[t.frozen];exact b6⟩
  .have:(g.pY f.block (f.off+xs.length*sz) q).bL f.block (f.off+k)=.tail l:=by
    rcases qF g f.block (f.off+xs.length*sz) q f.block (f.off+k)with⟨j,y,_,cp,aC,_⟩|⟨_,aC⟩
    .exact absurd ⟨rfl,av,by have:=bZ aC;omega⟩ N
    .rw[aC];exact b3
   rw[vT this];simp
  .rw[t.same _ _ N];exact b5
def xQ(s:St)(l:Loc):(s.dP l).n=s.n:=by cases l<;>rfl
def Ur{c:Call}{t u e:TypeId}{dd:TypeDesc}{sz:Nat}{zs:List V}{x y:Operand}{cc ch:eO}{d:Nat}(hop:o.op=.call c)(b2:c.callee=.builtin .append)(bi:c.argTypes.toList=[t,u])(a5:c.args.toList=[x,y])
 (ci:P.underlying t=some (.slice e)) (cp:P.underlying u=some dd) (hx:eC GL x=some cc) (et:eC GL y=some ch) (bo:nk P e=some sz) (eN:zeroV P e=some zs)
 (br:∀k,dd≠.int k) (bs:P.bytesOf e<=65536) (c1:zs.length=sz) (K:o.dst=some d) (aC:d<s.n) (z:s.app d sz cc ch=some s') (R:Rel GL g s a w):qC GL P o g a w s':=by
 obtain⟨zv,c2,e1,fr,fs⟩:=oj eN g;have bu:zv.cells.size=sz:=by rw[<-c1,e1.1];simp
 have hX:=cv R hx;have a6:=cv R et;have r:∀{v:Value} {w':World},(Builtin.append_ c.argTypes o.type #[a.eval x,a.eval y]).run P w=.ok v w'->(execOp a.eval o).run P w=.ok (.value v) w':=by
  intro v w' h;unfold execOp;rw[hop];simp only[resolve,b2,pure_bind,invoke,builtin];have:c.args.map a.eval=#[a.eval x,a.eval y]:=by
   apply jG;simp[a5]
  rw[this,Sem.run_bind,h];rfl
 have aD:c.argTypes[0]?=some t:=by rw[<-di,bi];rfl
 have a0:c.argTypes[1]?=some u:=by rw[<-di,bi];rfl
 unfold St.app at z;split at z
 next D ab L=>
  split at z
  next ai=>
   cases z;obtain⟨q,q1,b3,b5⟩:=Mw (P:=P) R L a6;have ac:a.eval x=.slice none 0 0:=by rw[ab]at hX;exact hX.aP
   have f:=vX (ty:=o.type) (p:=[]) (q:=q) (base:=none) (len:=0) (cap:=0) (n:=D.length) aD a0 ci cp br bo bs c2 b3 (λW a1=>qG b5 W a1 (Ec R L a6)) (λ_ W _=>rfl) (by simpa using ai);rw[<-ac]at f;have c5:ju g sz [] []:=⟨bR,bR,bR⟩;by_cases c6:D=[]
   .subst c6;simp only[aT,dj,ao,bQ,As,Sem.run_pure]at f;refine⟨_,w,g,.inl (r f),?_,Step.refl g w⟩;rw[K];exact R.put aC (VR.slnil sz).fb bR (λ_=>by intro bv c7 N len cap b6 Q;injection Q with Q;cases Q)
   .have e2:0<D.length:=oL.2 c6;rw[an av]at f;obtain⟨a2,a3,a4⟩:=IX (t:=e) (zv:=zv) aC R c5 q1 bu (sx:=(Question.appendCap (0+D.length) 0 e).cut (w.tape w.drawn (.appendCap (0+D.length) 0 e))) (by simp[Question.cut]);refine⟨_,_,a2,.inl (r f),?_,a4⟩;rw[K];exact a3
  .cases z
 next bv H D ab L=>
  split at z
  next e3=>
   obtain⟨rfl,ai⟩:=e3;split at z
   next tt=>
    split at z
    next l ad=>
     cases z;obtain⟨q,q1,b3,b5⟩:=Mw (P:=P) R L a6;have c9:x=.tmp tt:=by
      cases x<;>simp only[eC]at hx
      .injection hx with h;injection h with h;subst h;rfl
      .obtain⟨_,_,h⟩:=dn hx;cases h
      .obtain⟨_,_,h⟩:=dn hx;cases h
      .injection hx with h;cases h
     subst c9;simp only[St.val]at ab;have bU:ER g (.sl sz H) (a.tmps.getD tt undef):=by rw[<-ab];exact R.Z tt
     obtain⟨p,dg,e4,base,cap,ac,e5,a7,a8⟩:=vW (P:=P) R bU;have aB:s.iF l=true/\vR g s a w l (.sl sz H) (a.tmps.getD tt undef):=by
      unfold St.p4 at ad;split at ad
      next dp=>cases ad;exact⟨dp,rfl,ab.symm⟩
      .split at ad
       next k b7=>
        split at ad
        next ds=>
         obtain rfl:=au ad;refine⟨ds,?_⟩;cases k with
         |ret=>trivial
         |var u=>
          obtain⟨b6,Q⟩:=R.jX tt u b7;exact⟨b6,by rw[<-ab];exact Q⟩
         |cell st e6 j=>
          have:=R.gF tt st e6 j b7;rw[ab]at this;exact this
         |iI id j=>
          have:=R.ib tt id j b7;rw[ab]at this;exact this
        .cases ad
       .cases ad
     have dF:=R.Mq aB.1 aB.2;have a9:(∃l,a.tmps.getD tt undef=.string l)\/(∃l c,a.tmps.getD tt undef=.slice none l c)\/∃N l c,a.tmps.getD tt undef=.slice (some N) l c/\N.spot=none/\∀k,k<H.length*sz->∃y,w.cell? (cl N.block (N.off+k))=some y:=
      Ec R (v:=.sl sz H) (by simp[nF]) bU
     have f:=vX (ty:=o.type) (p:=p) (q:=q) (base:=base) (len:=H.length) (cap:=cap) (n:=D.length) aD a0 ci cp br bo bs c2 b3 (λW a1=>qG b5 W a1 (Ec R L a6))
      (λ_ W a1=>by rw[<-ac];exact qG e4 W a1 a9) ai
     have ca:a.eval (.tmp tt)=.slice base H.length cap:=ac;rw[<-ca]at f;have cb:=R.dP l;by_cases aA:H.length+D.length<=cap
     .rw[ax aA]at f;cases base with
      |none=>
       have dU:=a8 rfl;have ea:H=[]:=gY av;have eb:D=[]:=gY av;subst ea eb;refine⟨_,w,g,.inl (r f),?_,Step.refl g w⟩;rw[K];refine cb.put (by rw[xQ];exact aC) ?_ bR (λ_=>by intro bv c7 N len cap b6 Q;injection Q with Q;cases Q);rw[dU];exact(VR.slnil sz).fb
      |some N=>
       obtain⟨e7,ed⟩:=a7 N rfl;rw[ac]at dF;obtain⟨w',a2,a3,a4,fa⟩:=Mx (P:=P) (d:=d) (by rw[xQ];exact aC) cb q1 e7 dg ed dF (Aq s l) aA;have el:(As (some N) (H.length*sz) q (.slice (some N) (H.length+D.length) cap)).run P w=_:=a3;rw[el]at f;refine⟨_,w',a2,.inl (r f),?_,fa⟩;rw[K];exact a4
     .rw[an aA]at f;obtain⟨a2,a3,a4⟩:=IX (t:=e) (zv:=zv) (by rw[xQ];exact aC) cb dg q1 bu (sx:=(Question.appendCap (H.length+D.length) cap e).cut (w.tape w.drawn (.appendCap (H.length+D.length) cap e))) (by simp[Question.cut]);refine⟨_,_,a2,.inl (r f),?_,a4⟩;rw[K];exact a3
    .cases z
   .cases z
  .cases z
 .cases z
end
end
section
variable {GL:Nat->Option (List V)}{P:Program}
section
variable {g:aW}{s s':St}{a:Act}{w w':World}{o:Oper}
def yB(w:World)(d:Addr)(n:Nat)(b o:Nat):(w.freeze d n).cell? (cl b o)=w.cell? (cl b o):=by
 unfold World.freeze;split
 .rfl
 .simp only[World.cell?,dz];by_cases hb:d.block=b
  .subst hb;simp only[cl,bQ];cases f:w.heap[d.block]? with
   |none=>simp
   |some x=>cases x<;>simp
  .simp[cl,hb]
def vz(w:World)(b n:Nat)(c:Array Value)(t:TypeId)(h:w.heap[b]?=some (.cells c t (0,0)))(d o:Nat)(f:¬(d=b/\o=n)):
 (w.freeze {block:=b,off:=n} 1).frozen? (cl d o)=w.frozen? (cl d o):=by
 unfold World.freeze;simp only[Nat.succ_ne_self,cE,World.frozen?,dz,cl];by_cases hb:b=d
 .subst hb;simp only[bQ,h];simp;intro h1;have j:n<=o:=lA h1;have:¬o=n:=λe=>f ⟨rfl,e⟩;exact dY (by show¬o<n+1;omega)
 .simp[hb]
def Au(w:World)(d:Addr)(n:Nat){b:Nat}{ob:Obj}(hi:uZ ob=false)(h:w.heap[b]?=some ob):(w.freeze d n).heap[b]?=some ob:=by
 unfold World.freeze;split
 .exact h
 .simp only[dz];exact Xd
def Fq{c:Prop}(w:World)(d:Addr)(n:Nat):Cm c w (w.freeze d n):=by
 unfold World.freeze;split<;>exact⟨rfl,rfl,rfl,λ_=>ao _⟩
def Kr(w:World)(d:Addr)(n:Nat){b:Nat}(h:b≠d.block):(w.freeze d n).heap[b]?=w.heap[b]?:=by
 unfold World.freeze;split
 .rfl
 .simp only[dz];rw[an (hU h)]
def yC(w:World)(d:Addr)(n:Nat):(w.freeze d n).heap.size=w.heap.size:=by
 unfold World.freeze;split<;>simp
def Rel.frozen(h:Rel GL g s a w){w':World}{b n:Nat}(y:∀b o,w'.cell? (cl b o)=w.cell? (cl b o))(ab:∀d o,¬(d=b/\o=n)->w'.frozen? (cl d o)=w.frozen? (cl d o))(hm:∀(b:Nat) ob,uZ ob=false->w.heap[b]?=some ob->w'.heap[b]?=some ob)(ac:w'.heap.size=w.heap.size)
 (ad:g.bL b n=.junk):Rel GL g s a w':=by
 have L:∀{d o:Nat} {ow:eX},g.bL d o=ow->ow≠.junk->w'.frozen? (cl d o)=w.frozen? (cl d o):=λe H=>ab _ _ (by rintro⟨rfl,rfl⟩;rw[ad]at e;exact H e.symm);have dZ:∀{d:Nat} {ow:eX} {cells:List V},fP g w d ow cells->ow≠.junk->fP g w' d ow cells:=λhb H=>
  ⟨hb.mq,λj c R=>let⟨h1,x,K,N⟩:=hb.cell j c R;⟨h1,x,by rw[y];exact K,N⟩,λj=>by rw[L (hb.mq j) H];exact hb.ki j⟩
 have p:∀{k v x},dS g w k v x->dS g w' k v x:=by
  intro k v x ai sz aA aB len cap aC hx j h1 K;obtain⟨f,⟨u,l⟩,q⟩:=ai sz aA aB len cap aC hx j h1 K;exact⟨f,⟨u,by rw[y];exact l⟩,by rw[L f bR];exact q⟩
 exact {
  size:=h.size,gj:=h.gj.mono λD f l=>⟨f,hm D _ rfl l⟩,Z:=h.Z,gA:=⟨h.gA.kn,λb o x e=>by rw[y];exact h.gA.gZ b o x e,λb ob e=>⟨hm b ob (h.gA.e8 b ob e).2 (h.gA.e8 b ob e).1,(h.gA.e8 b ob e).2⟩,λb o e=>by rw[ac];exact h.gA.il b o e,h.gA.kC⟩,heap:=⟨λid cells e=>let⟨d,f,l⟩:=h.heap.box id cells e;⟨d,f,dZ l bR⟩,λid cells j c d x f l q r Q=>p (h.heap.tail id cells j c d x f l q r (by rw[<-y];exact Q)),λid kvs e=>let⟨d,o,f,l,q,r,Q⟩:=h.heap.map id kvs e;⟨d,o,f,l,hm _ _ r q,r,Q⟩,h.heap.Y⟩,loc:=λst z aD=>let⟨d,f,l⟩:=h.loc st z aD;⟨d,f,dZ l bR⟩,jd:=h.jd,jt:=λt e=>p (h.jt t e),gD:=λst z j c d x f l q r=>p (h.gD st z j c d x f l q (by rw[<-y];exact r)),jX:=h.jX,gF:=λt st z j e=>⟨(h.gF t st z j e).1,λd q=>by rw[y];exact(h.gF t st z j e).2 d q⟩,ib:=λt id j e=>let⟨cells,h1,K,N⟩:=h.ib t id j e;⟨cells,h1,K,λd r=>by rw[y];exact N d r⟩}
def Ho{src dst e:TypeId}{x:Operand}{K:eO}{l:List UInt8}{d:Nat}(hop:o.op=.convert src dst x)(aB:P.underlying src=some .string)(aC:P.underlying dst=some (.slice e))(aD:P.underlying e=some (.int .u8))
 (hx:eC GL x=some K) (a0:s.val K=.str l) (u:o.dst=some d) (L:d<s.n) (R:Rel GL g s a w):qC GL P o g a w (s.put d (.sl 1 (l.map λb=>.int .u8 b.toNat)) none true):=by
 have hX:=cv R hx;rw[a0]at hX;have N:=hX.str
 let cap:=(Question.appendCap l.length 0 e).cut (w.tape w.drawn (.appendCap l.length 0 e))
 have z:l.length<=cap:=by simp only[cap,Question.cut];omega
 let cells:Array Value:=(l.map λb=>Value.int .u8 b.toNat).toArray++Array.replicate (cap-l.length) (.int .u8 0)
 have p:cells.size=cap*1:=by simp[cells];omega
 obtain⟨a1,h1,a2,D⟩:=uj (s:=s) (w:=w.drew) (t:=e) (sz:=1) (xs:=l.map λb=>V.int .u8 b.toNat) (cells:=cells) (cap:=cap) L R.drew (by simpa using z) p (by
  have:cells.toList.take ((l.map λb=>V.int .u8 b.toNat).length*1)=l.map λb=>Value.int .u8 b.toNat:=by
   simp only[cells,oH,aq,kL];rw[e0 bR,az bR]
  rw[this];refine⟨bR,λi v e=>?_,λi v j c y Q e2 e3=>?_⟩
  .simp at e;obtain⟨b,_,rfl⟩:=e;rfl
  .simp at Q;obtain⟨b,hb,rfl⟩:=Q;cases j with
   |zero=>
    exact W2
   |succ j=>simp[V.cells]at e2)
 have f:(w.drew.alloc (.cells cells e)).heap[w.heap.size]?=some (.cells cells e (0,0)):=by
  show(w.heap.push (Obj.cells cells e (0,0)))[w.heap.size]?=_;simp
 refine⟨_,(w.drew.alloc (.cells cells e)).freeze {block:=w.heap.size,off:=cells.size} 1,a1,.inl ?_,by
  rw[u];exact h1.frozen (b:=w.heap.size) (n:=cells.size) (λb o=>yB _ _ _ _ _) (λa3 o ab=>vz _ _ _ _ _ f a3 o ab) (λ_ _ i e=>Au _ _ _ i e) (yC _ _ _) (D _ (ao _)),(Step.drew g w).trans (a2.trans ⟨λ_ _ _ e=>e,λ_ _ e=>e,λ_ _ e=>e,λb o e=>⟨e,yB _ _ _ _ _,vz _ _ _ _ _ f b o (by rintro⟨rfl,rfl⟩;have r:=D _ (ao _);rw[show w.drew.heap.size=w.heap.size from rfl,e]at r;cases r)⟩,λ_ _ _ i e=>Au _ _ _ i e,λ_ _ e _=>e,by rw[yC];exact ao _,Fq _ _ _,λb _ e=>Kr _ _ _ (by rintro rfl;have r:=D _ (ao _);rcases e cells.size with q|⟨x,q⟩<;>(have ac:=q.symm.trans r;cases ac))⟩)⟩
 unfold execOp;rw[hop];have H:(convert src dst (a.eval x)).run P w=.ok (.slice (some (cl w.drew.heap.size 0)) (l.map λb=>V.int IntKind.u8 b.toNat).length cap) ((w.drew.alloc (.cells cells e)).freeze {block:=w.heap.size,off:=cells.size} 1):=by
  rw[N];have ad:(⟨l.toArray⟩:ByteArray).size=l.length:=by simp[ByteArray.size]
  simp only[convert,Sem.run_bind,run_underlying aB,run_underlying aC,run_underlying aD,Result.andThen_ok,Conv.stringToBytes,run_choose,Question.forced,bM,cE,ad];have ai:(Array.map (λb:UInt8=>Value.int IntKind.u8 b.toNat) (⟨l.toArray⟩:ByteArray).data)=(l.map λb=>Value.int .u8 b.toNat).toArray:=bR;rw[ai];have aA:(w.drew.alloc (.cells cells e)).shape? w.heap.size=some (e,cells.size):=by
   unfold World.shape?;rw[f]
  simp only[newRow,Sem.run_bind,run_newObj,Result.andThen_ok,Sem.run_pure,markStringish];rw[show({heap:=w.heap.push (.cells ((l.map λb=>Value.int IntKind.u8 b.toNat).toArray++Array.replicate ((Question.appendCap l.length 0 e).cut (w.tape w.drawn (Question.appendCap l.length 0 e))-l.length) (Value.int IntKind.u8 0)) e),tape:=w.tape,drawn:=w.drawn+1,os:=w.os,output:=w.output}:World)=w.drew.alloc (.cells cells e)from rfl];rw[run_shape,aA];simp[cl,cap]
 exact(by rw[Sem.run_bind,H];rfl)
def My{bi:List Nat}{ai:BX}(h:Wa P GL bi o=some ai)(r:∀d,o.dst=some d->d<s.n)(j:iG s o.dst ai=some s')(R:Rel GL g s a w):qC GL P o g a w s':=by
 have L:∀{b:vQ},yy P GL o.op=some b->iG s o.dst (.val b)=some s'->qC GL P o g a w s':=by
  intro b hb D;simp only[iG]at D;cases E:dw s b with
  |none=>simp[E]at D
  |some v=>
   have:=Un hb E R r;cases f:o.dst with
   |none=>simp[E,f]at D;subst D;simpa[f]using this
   |some d=>simp[E,f]at D;subst D;simpa[f]using this
 have q:(yy P GL o.op).map .val=some ai->qC GL P o g a w s':=by
  intro hm;obtain⟨b,hb,rfl⟩:=dn hm;exact L hb j
 unfold Wa at h;split at h
 next x hop=>
  split at h
  .obtain⟨y,p,rfl⟩:=dn h;simp only[iG]at j;cases f:o.dst with
   |none=>simp[f]at j
   |some d=>simp[f]at j;subst j;exact Mt (.inr hop) f (r d f) p R
  .obtain⟨y,p,rfl⟩:=dn h;simp only[iG]at j;cases f:o.dst with
   |none=>simp[f]at j
   |some d=>simp[f]at j;subst j;exact Uo hop f (r d f) p R
 next t x hop=>
  split at h
  next y bo p=>
   split at h
   .cases h;simp only[iG]at j;split at j
    next d c rest f br=>cases j;exact Yh hop f (r d f) bo p br R
    .cases j
   .cases h
  .exact q h
 next x hop=>
  obtain⟨y,p,rfl⟩:=dn h;simp only[iG]at j;cases f:o.dst with
  |none=>simp[f]at j
  |some d=>simp[f]at j;subst j;exact Mt (.inl hop) f (r d f) p R
 next t hop=>
  split at h
  .cases h
  .obtain⟨zs,N,rfl⟩:=dn h;simp only[iG]at j;cases f:o.dst with
   |none=>simp[f]at j
   |some d=>simp[f]at j;subst j;exact Mu hop f (r d f) N R
 next t x hop=>
  split at h
  .cases h
  .split at h
   next n y aD p=>
    split at h
    .cases h;simp only[iG]at j;cases f:o.dst with
     |none=>simp[f]at j
     |some d=>
      simp only[f]at j;split at j
      next aA=>cases j;exact PK hop f (r d f) p aA R
      .cases j
    .cases h;simp only[iG]at j;cases f:o.dst with
     |none=>simp[f]at j
     |some d=>
      simp only[f]at j;split at j
      next aA=>cases j;exact Up hop f (r d f) p aA R
      .cases j
   .cases h
 next t addr x hop=>
  split at h
  next n bu y aD a0 p=>
   cases h;simp only[iG]at j;cases f:o.dst with
   |none=>simp only[f]at j;exact Mv hop f aD a0 p j R
   |some d=>simp[f]at j
  .cases h
 next t n parts hop=>
  split at h
  .cases h
  split at h
  next e aB=>
   split at h
   next sz z bv Q N a1=>
    split at h
    next H=>
     cases h;simp only[iG]at j;cases f:o.dst with
     |none=>simp[f]at j
     |some d=>
      simp only[f]at j;obtain⟨bU,a2,rfl⟩:=dn j;exact Kn hop f (r d f) aB Q N a1 H.1 H.2.1 H.2.2 a2 R
    .cases h
   .cases h
  .cases h
 next src dst x hop=>
  split at h
  next e a3 a4=>
   split at h
   .cases h
   split at h
   next ab=>
    obtain⟨y,p,rfl⟩:=dn h;have a5:P.underlying e=some (.int .u8):=by
     cases ac:P.underlying e with
     |none=>simp[ac]at ab
     |some d=>cases d<;>simp[ac]at ab;subst ab;rfl
    simp only[iG]at j;split at j
    next d l f D=>
     split at j
     .cases j;exact Ho hop a3 a4 a5 p D f (r d f) R
     .cases j
    .cases j
   .cases h
  .split at h
   .cases h
   .exact q h
 next c hop=>
  split at h
  next aC=>
   split at h
   .cases h
   split at h
   next t u x y a6 ad=>
    split at h
    next e dd bs b2 aB ac hx p=>
     split at h
     next sz zs Q N=>
      split at h
      .cases h
      next H=>
       cases h;simp only[iG]at j;cases f:o.dst with
       |none=>simp[f]at j
       |some d=>
        simp only[f]at j;have a7:∀k,dd≠.int k:=by rintro k rfl;exact H (.inl rfl)
        have a8:P.bytesOf e<=65536:=by
         rcases am 65536 (P.bytesOf e)with K|K
         .exact absurd (.inr (.inl K)) H
         .exact K
        have a9:zs.length=sz+1:=by
         by_cases K:zs.length=sz+1
         .exact K
         .exact absurd (.inr (.inr K)) H
        exact Ur hop aC a6 ad aB ac hx p Q N a7 a8 a9 f (r d f) j R
     .cases h
    .cases h
   .cases h
  .exact q h
 .exact q h
end
end
inductive V.lM(fz:ak):V->V->Prop where
 |refl (v):V.lM fz v v
 |aP (sz):V.lM fz .aP (.sl sz [])
 |agg (cs ds:List V) (hl:cs.length=ds.length) (h:∀(j:Nat) c d,cs[j]?=some c->ds[j]?=some d->V.lM fz c d):V.lM fz (.agg cs) (.agg ds)
 |hE (cs ds:List V) (hl:cs.length=ds.length) (h:∀(j:Nat) c d,cs[j]?=some c->ds[j]?=some d->V.lM fz c d):V.lM fz (.hE cs) (.hE ds)
 |sl (sz:Nat) (cs ds:List V) (hl:cs.length=ds.length) (h:∀(j:Nat) c d,cs[j]?=some c->ds[j]?=some d->V.lM fz c d):V.lM fz (.sl sz cs) (.sl sz ds)
 |ep (cs ds:List V) (hl:cs.length=ds.length) (h:∀(j:Nat) c d,cs[j]?=some c->ds[j]?=some d->V.lM fz c d):V.lM fz (.ep cs) (.ep ds)
 |fn (f:FuncId) (cs ds:List V) (hl:cs.length=ds.length) (h:∀(j:Nat) c d,cs[j]?=some c->ds[j]?=some d->V.lM fz c d):V.lM fz (.fn f cs) (.fn f ds)
 |Fj (sz id off):V.lM fz (.ms sz id off 0 0) (.sl sz [])
 |ms (sz id off n c) (cells ds xs:List V) (hf:fz id=some cells) (hl:cells.length=ds.length) (h:∀(j:Nat) c d,cells[j]?=some c->ds[j]?=some d->V.lM fz c d)
  (hn:xs.length=n) (hx:∀(i:Nat) v,xs[i]?=some v->jR sz v=true/\∀(j:Nat) c,v.cells[j]?=some c->ds[off+(i*sz+j)]?=some c):V.lM fz (.ms sz id off n c) (.sl sz xs)
 |bp (id off) (cells ds:List V) (hf:fz id=some cells) (hl:cells.length=ds.length) (h:∀(j:Nat) c d,cells[j]?=some c->ds[j]?=some d->V.lM fz c d):V.lM fz (.bp id off) (.ep (ds.drop off))
def jF:Nat->Option (List V):=λ_=>none
abbrev V.Le(v u:V):Prop:=V.lM jF v u
def V.Le.refl(v:V):V.Le v v:=V.lM.refl v
def V.Le.aP(sz:Nat):V.Le .aP (.sl sz []):=V.lM.aP sz
section
variable {fz:Nat->Option (List V)}{g g':aW}
def V.lM.one{v u:V}(h:V.lM fz v u)(a:v.one=true):u.one=true:=by
 cases h<;>first|exact a|rfl|(simp[V.one]at a)
def V.lM.PL{cs:List V}{u:V}(h:V.lM fz (.agg cs) u):∃ds,u=.agg ds:=by
 cases h with
 |refl=>exact⟨cs,rfl⟩
 |agg _ ds=>exact⟨ds,rfl⟩
def V.lM.Us{v u:V}(h:V.lM fz v u)(a:v.cells=[v]):u.cells=[u]:=by
 cases h<;>first|exact a|rfl|(exfalso;simp only[V.cells]at a;have d:=ar (λl:List V=>SizeOf.sizeOf l) a;simp at d;omega)
def V.lM.len{v u:V}(h:V.lM fz v u):v.cells.length=u.cells.length:=by
 cases h<;>first|rfl|assumption
def Mz(v:V):(∃cs,v=.agg cs)\/v.cells=[v]:=by cases v<;>first|exact .inl ⟨_,rfl⟩|exact .inr rfl
def Hp{v u:V}(h:V.lM fz v u)(ih:∀{x:Value},VR g v x->VR g' u x){zs:Nat->Value}(a:∀(j:Nat) c,v.cells[j]?=some c->c.one=true/\VR g c (zs j)):
 ∀(j:Nat) c,u.cells[j]?=some c->c.one=true/\VR g' c (zs j):=by
 rcases Mz v with⟨cs,rfl⟩|l
 .obtain⟨z,rfl⟩:=h.PL;have o:=h.len;simp only[V.cells]at o a;have hx:VR g (.agg cs) (.agg (Array.ofFn λi:Fin cs.length=>zs i)):=.agg cs _ bR (λj c e=>(a j c e).1) (λj c x p q=>by
   have d:=bZ p;simp[d]at q;subst q;exact(a j c p).2)
  intro j c e;simp only[V.cells]at e;cases ih hx with
  |agg _ _ r f t=>
   have d:=bZ e;exact⟨f j c e,t j c (zs j) e (by simp[o,d])⟩
 .have y:=h.Us l;rw[l]at a;intro j c e;rw[y]at e;cases j with
  |zero=>
   simp at e;subst e;obtain⟨r,f⟩:=a 0 v rfl;exact⟨h.one r,ih f⟩
  |succ j=>simp at e
def VR.uk(hle:g.Le g')(R:∀id cells,fz id=some cells->∃b,g.hb id=some b/\∀(j:Nat) c,cells[j]?=some c->c.one=true/\∃y,g'.bL b j=.gZ y/\VR g c y){v u:V}(h:V.lM fz v u):∀{x:Value},VR g v x->VR g' u x:=by
 induction h with
 |refl v=>exact λh=>h.mono hle
 |aP sz=>intro x h;rw[h.fb.aP];exact .slnil sz
 |agg cs l hl h ih=>
  intro x hx;cases hx with
  |agg _ o N aB h3=>
   refine .agg l o av (λj d hd=>?_) (λj d y hd hy=>?_)
   .have hj:j<cs.length:=by rw[hl];exact bZ hd
    exact(h j cs[j] d bR hd).one (aB j cs[j] bR)
   .exact TN
 |hE cs l hl h ih=>
  intro x hx;cases hx with
  |hE _ o N h3=>
   refine .hE l o av (λj d y hd hy=>?_);exact TN
 |fn f cs l hl h ih=>
  intro x hx;cases hx with
  |fn _ _ o N h3=>
   refine .fn f l o av (λj d y hd hy=>?_);exact TN
 |sl sz cs l hl h ih=>
  intro x hx;have key:∀(r:Nat->Value),(∀(i:Nat) v (j:Nat) c,cs[i]?=some v->v.cells[j]?=some c->c.one=true)->(∀(i:Nat) v (j:Nat) c,cs[i]?=some v->v.cells[j]?=some c->VR g c (r (i*sz+j)))->
   ∀(i:Nat) v (j:Nat) c,l[i]?=some v->v.cells[j]?=some c->c.one=true/\VR g' c (r (i*sz+j)):=by
   intro r H K i v j c q t;have L:i<cs.length:=by rw[hl];exact bZ q
   exact Hp (h i cs[i] v bR q) (λhx=>ih i cs[i] v bR q hx) (zs:=λj=>r (i*sz+j)) (λj c e=>⟨H i _ j c bR e,K i _ j c bR e⟩) j c t
  cases hx with
  |slnil=>
   have:l=[]:=by cases l with
    |nil=>rfl
    |cons=>simp at hl
   subst this;exact .slnil sz
  |sl _ _ a cap r ab a0 Q L H K=>
   rw[hl];refine .sl sz l a cap r ab av (λi v e=>?_) (λk z=>hle.gZ _ _ _ (L k (by rw[hl];exact z))) (λi v j c q t=>(key r H K i v j c q t).1) (λi v j c q t=>(key r H K i v j c q t).2);have L:i<cs.length:=by rw[hl];exact bZ e
   rw[<- (h i cs[i] v bR e).len];exact Q i _ bR
 |ep cs l hl h ih=>
  intro x hx;cases hx with
  |ep _ a r ab L H K=>
   refine .ep l a r ab (λk z=>hle.gZ _ _ _ (L k (by rw[hl];exact z))) (λj c e=>?_) (λj c e=>?_)
   .have hj:j<cs.length:=by rw[hl];exact bZ e
    exact(h j cs[j] c bR e).one (H j cs[j] bR)
   .have hj:j<cs.length:=by rw[hl];exact bZ e
    exact ih j cs[j] c bR e (K j cs[j] bR)
 |Fj sz id off=>
  intro x hx;rcases hx.fb.ms with⟨b,N,rfl,h3⟩|⟨_,_,p,rfl,E⟩
  .exact .sl sz [] _ 0 (λ_=>undef) rfl bR bR bR bR bR
  .exact WJ
 |ms sz id off n c cells l o ac hl h ai D ih=>
  intro x hx;obtain⟨b,hb,L8⟩:=R id cells ac;have nil:∀p:Option Addr,(∀a:Addr,p=some a->a.spot=none)->o=[]->VR g' (.sl sz o) (.slice p 0 0):=by
   rintro p E rfl;exact WJ
  rcases hx.fb.ms with⟨aC,N,rfl,h3⟩|⟨rfl,_,p,rfl,E⟩
  .cases (hb.symm.trans N);have cell:∀(j:Nat) d,l[j]?=some d->d.one=true/\∃y,g'.bL b j=.gZ y/\VR g' d y:=by
    exact Wx
   subst ai;refine .sl sz o ⟨b,off,none⟩ c (λk=>match g'.bL b (off+k)with|.gZ y=>y|_=>undef) rfl h3 (λi v e=>(fh (D i v e).1).1) (λk z=>?_) (λi v j c q t=>(cell _ c ((D i v q).2 j c t)).1) (λi v j c q t=>?_)
   .have Q:0<sz:=by
     rcases cS sz with ad|ad
     .subst ad;simp at z
     .exact ad
    have L:k/sz<o.length:=by rw[iz Q];exact z
    have aA:=D (k/sz) o[k/sz] bR;have hj:k%sz< (o[k/sz]).cells.length:=by rw[(fh aA.1).1];exact eG _ Q
    have hd:=aA.2 (k%sz) (o[k/sz]).cells[k%sz] bR;rw[show k/sz*sz+k%sz=k by rw[jU];exact l2 k sz]at hd;obtain⟨_,y,f2,_⟩:=cell _ _ hd;show g'.bL b (off+k)=_;simp only[f2]
   .obtain⟨_,y,f2,f3⟩:=cell _ c ((D i v q).2 j c t);show VR g' c (match g'.bL b (off+(i*sz+j))with|.gZ y=>y|_=>undef);rw[f2];exact f3
  .exact nil p E (bJ.1 ai)
 |bp id off cells l ac hl h ih=>
  intro x hx;obtain⟨b,hb,L8⟩:=R id cells ac;cases hx with
  |bp _ _ aC e=>
   cases (hb.symm.trans e);have cell:∀(j:Nat) d,l[j]?=some d->d.one=true/\∃y,g'.bL b j=.gZ y/\VR g' d y:=by
    exact Wx
   refine .ep _ ⟨b,off,none⟩ (λk=>match g'.bL b (off+k)with|.gZ y=>y|_=>undef) rfl (λk z=>?_) (λj c e=>(cell (off+j) c (by simpa using e)).1) (λj c e=>?_)
   .have aD:off+k<l.length:=by simp at z;omega
    obtain⟨_,y,f2,_⟩:=cell (off+k) l[off+k] bR;show g'.bL b (off+k)=_;simp only[f2]
   .obtain⟨_,y,f2,f3⟩:=cell (off+j) c (by simpa using e);show VR g' c (match g'.bL b (off+j)with|.gZ y=>y|_=>undef);rw[f2];exact f3
def VR.weak{v u:V}(h:V.Le v u):∀{x:Value},VR g v x->VR g u x:=VR.uk (.refl g) (λ_ _ e=>by cases e) h
end
structure ry(GL:ak)(g:aW)(w:World)(E:aJ)(args:List V)(xs:Array Value):Prop where
 gA:qi GL g w
 heap:HR g E w
 len:xs.size=args.length
 arg:∀(j:Nat) v x,args[j]?=some v->xs[j]?=some x->VR g v x
structure u7(GL:ak)(g:aW)(w:World)(g':aW)(w':World)(wx:aJ)(v:V)(bL:Bool)(x:Value):Prop where
 gA:qi GL g' w'
 heap:HR g' wx w'
 res:VR g' v x
 step:Step g w g' w'
 tail:bL=true->dS g' w' .ret v x
def lI(P:Program)(GL:ak)(f:FuncId)(args:List V)(E:aJ)(Q:V->Bool->aJ->Prop):Prop:=
 ∀g w d,ry GL g w E args d->∀R:Ending->World->Prop,(∀v x bL a g' j,Q v bL a->u7 GL g w g' j a v bL x->R (.returned x) j)->Calls P f d w R
def lI.mono{P:Program}{GL:ak}{f:FuncId}{args:List V}{E:aJ}{Q a:V->Bool->aJ->Prop}(h:lI P GL f args E Q)(j:∀v o E,Q v o E->a v o E):lI P GL f args E a:=
 λg w l p R q=>h g w l p R (λv x bL d g' r t u=>q v x bL d g' r (j _ _ _ t) u)
def aJ.bare:aJ:=⟨λ_=>none,λ_ _=>false,λ_=>none,0⟩
def Pure(P:Program)(GL:ak)(f:FuncId)(args:List V)(v:V)(bL:Bool:=false):Prop:=
 hW args=true/\v.free=true/\lI P GL f args aJ.bare λr o _=>r=v/\o=bL
section
variable {GL:Nat->Option (List V)}{P:Program}
def hidden(a:Bool):eX->Bool
 |.su _ _|.tail (.var _)|.tail (.cell _ _ _)|.tail .ret|.rK=>true
 |.dZ _|.tail (.iI _ _)|.oS _=>a
 |_=>false
def lh(a:Bool)(o:eX):eX:=if hidden a o=true then .ext else o
def aW.dV(g:aW)(a:Bool):aW:={bL:=λb o=>lh a (g.bL b o),lb:=λ_ _=>none,hb:=if a then λ_=>none else g.hb}
def lL(a:Bool)(l:Loc):eX->eX
 |.su _ _|.rK=>.junk
 |.tail .ret=>.tail l
 |.tail (.iI i j)=>if a then .junk else .tail (.iI i j)
 |.tail _=>.junk
 |.dZ i=>if a then .junk else .dZ i
 |.oS i=>if a then .junk else .oS i
 |x=>x
def back(a:Bool)(l:Loc)(o o':eX):eX:=if hidden a o=true then o else lL a l o'
def aW.back(g g':aW)(a:Bool)(l:Loc):aW:={bL:=λb o=>Bx.back a l (g.bL b o) (g'.bL b o),lb:=g.lb,hb:=if a then g.hb else g'.hb}
def Av{ph:Bool}{o:eX}{x:Value}:lh ph o=.gZ x↔o=.gZ x:=by
 exact bb6
def xR{ph:Bool}{o:eX}{ob:Obj}:lh ph o=.e8 ob↔o=.e8 ob:=by
 exact bb6
def CV{ph:Bool}{o:eX}:lh ph o=.free↔o=.free:=by
 exact bb6
def tL{a:Bool}{l:Loc}{o o':eX}(h:lh a o=.ext)(d:o≠.ext):back a l o o'=o:=by
 unfold lh at h;unfold back;split at h
 next f=>rw[ax f]
 .exact absurd h d
def kJ{a:Bool}{l:Loc}{o o':eX}(h:lh a o≠.ext\/o=.ext):back a l o o'=lL a l o':=by
 unfold back;rw[an];rcases h with h|h
 .intro d;exact h (by simp[lh,d])
 .subst h;simp[hidden]
def Cp{ph:Bool}{l:Loc}{o:eX}{x:Value}:lL ph l o=.gZ x↔o=.gZ x:=by
 exact bb9
def Aw{ph:Bool}{l:Loc}{o:eX}{ob:Obj}:lL ph l o=.e8 ob↔o=.e8 ob:=by
 exact bb9
def Cq{ph:Bool}{l:Loc}{o:eX}:lL ph l o=.ext↔o=.ext:=by
 exact bb9
end
section
variable {GL:Nat->Option (List V)}{P:Program}
def Pn:Loc->Bool
 |.iI _ _=>true
 |_=>false
def St.ct(s:St)(E:aJ):St:={s with E:=E,lk:=iO s.lk Pn}
section
variable {g g1:aW}{s:St}{a:Act}{w w1:World}{E nv:aJ}{v:V}{bL ph:Bool}{x:Value}{l:Loc}
def CW(h:Step (g.dV ph) w g1 w1):(∀b o x,g1.bL b o=.gZ x->(g.back g1 ph l).bL b o=.gZ x)/\∀b ob,g1.bL b 0=.e8 ob->(g.back g1 ph l).bL b 0=.e8 ob:=by
 have key:∀b o ow,g1.bL b o=ow->ow≠.ext->(g.back g1 ph l).bL b o=lL ph l ow:=by
  intro b o ow e d;show back ph l (g.bL b o) (g1.bL b o)=_;rw[kJ,e];by_cases f:lh ph (g.bL b o)=.ext
  .have:=(h.ext b o f).1;rw[e]at this;exact absurd this d
  .exact .inl f
 exact⟨λb o x e=>by rw[key b o _ e bR];rfl,λb ob e=>by rw[key b 0 _ e bR];rfl⟩
def q7(h:Step (g.dV ph) w g1 w1):g.Le (g.back g1 ph l) where
 gZ b o x e:=(CW h).1 b o x (h.gZ b o x (Av.2 e))
 e8 b d e:=(CW h).2 b d (h.e8 b d (xR.2 e))
 hb id b e:=by
  show(if ph then g.hb else g1.hb) id=some b;cases ph with
  |true=>exact e
  |false=>exact h.hb id b e
def Ax(h:Step (g.dV false) w g1 w1):g1.Le (g.back g1 false l):=⟨(CW h).1,(CW h).2,λ_ _ e=>e⟩
def kp(h:Step (g.dV ph) w g1 w1){b o:Nat}{ow:eX}(e:g.bL b o=ow)(d:lh ph ow=.ext)(f:ow≠.ext):
 (g.back g1 ph l).bL b o=ow/\w1.cell? (cl b o)=w.cell? (cl b o)/\w1.frozen? (cl b o)=w.frozen? (cl b o):=by
 have j:(g.dV ph).bL b o=.ext:=by show lh ph (g.bL b o)=_;rw[e];exact d
 obtain⟨_,p,q⟩:=h.ext b o j;refine⟨?_,p,q⟩;show back ph l (g.bL b o) (g1.bL b o)=_;rw[e];exact tL d f
def Fs(R:qi GL g w)(h:Step (g.dV ph) w g1 w1)(h1:qi GL g1 w1):qi GL (g.back g1 ph l) w1 where
 kC:=R.kC
 e8 b j e:=by
  have e':back ph l (g.bL b 0) (g1.bL b 0)=.e8 j:=e;by_cases hh:lh ph (g.bL b 0)=.ext/\g.bL b 0≠.ext
  .exact Xc
  .rw[kJ (by
    by_cases d:lh ph (g.bL b 0)=.ext
    .exact .inr (cJ λf=>hh ⟨d,f⟩)
    .exact .inl d),Aw]at e'
   exact h1.e8 b j e'
 kn n c e:=(R.kn n c e).mono (q7 h)
 gZ b o x e:=by
  have e':back ph l (g.bL b o) (g1.bL b o)=.gZ x:=e;by_cases hh:lh ph (g.bL b o)=.ext/\g.bL b o≠.ext
  .exact Xc
  .rw[kJ (by
    by_cases d:lh ph (g.bL b o)=.ext
    .exact .inr (cJ λf=>hh ⟨d,f⟩)
    .exact .inl d),Cp]at e'
   exact h1.gZ b o x e'
 il b o e:=by
  by_cases p:g.bL b o=.free
  .refine h1.il b o (λq=>e ?_);show back ph l (g.bL b o) (g1.bL b o)=_;rw[kJ (.inl (by rw[CV.2 p];simp)),q];rfl
  .exact bA (R.il b o p) h.size
def Ay(h:Step (g.dV ph) w g1 w1){b:Nat}{ow:eX}{cells:List V}(hb:fP g w b ow cells)(f:lh ph ow=.ext)(d:ow≠.ext):fP (g.back g1 ph l) w1 b ow cells where
 mq j:=(kp h (hb.mq j) f d).1
 cell j c o:=by
  obtain⟨h1,y,p,q⟩:=hb.cell j c o;exact⟨h1,y,by rw[(kp (l:=l) h (hb.bL j (bZ o)) f d).2.1];exact p,q.mono (q7 h)⟩
 ki j:=by rw[(kp (l:=l) h (hb.mq j) f d).2.2];exact hb.ki j
def rZ(h:Step (g.dV ph) w g1 w1){k:Loc}{v:V}{x:Value}(d:dS g w k v x)(f:lh ph (.tail k)=.ext):dS (g.back g1 ph l) w1 k v x:=by
 intro sz o p len cap q hx j r t;obtain⟨y,⟨u,z⟩,D⟩:=d sz o p len cap q hx j r t;obtain⟨H,K,L⟩:=kp (l:=l) h y f bR;exact⟨H,⟨u,by rw[K];exact z⟩,by rw[L];exact D⟩
def Ks(h:Step (g.dV false) w g1 w1)(hH:HR g1 nv w1):HR (g.back g1 false l) nv w1 where
 box id cells e:=by
  obtain⟨b,h1,d⟩:=hH.box id cells e;refine⟨b,h1,⟨λj=>?_,λj c r=>?_,d.ki⟩⟩
  .have q:=d.mq j;show back false l (g.bL b j) (g1.bL b j)=_;rw[kJ,q];·rfl
   by_cases f:lh false (g.bL b j)=.ext
   .have:=(h.ext b j f).1;rw[q]at this;cases this
   .exact .inl f
  .obtain⟨t,y,u,z⟩:=d.cell j c r;exact⟨t,y,u,z.mono (Ax h)⟩
 tail id cells j c b y q D H K L:=by
  intro sz N p len cap Q hx k h1 d;obtain⟨f1,R,ab⟩:=hH.tail id cells j c b y q D H K L sz N p len cap Q hx k h1 d;refine⟨?_,R,ab⟩;show back false l (g.bL p.block (p.off+k)) (g1.bL p.block (p.off+k))=_;rw[kJ,f1];·rfl
  by_cases f:lh false (g.bL p.block (p.off+k))=.ext
  .have:=(h.ext _ _ f).1;rw[f1]at this;cases this
  .exact .inl f
 map id kvs e:=by
  obtain⟨b,o,h1,d,ac,ad,ai⟩:=hH.map id kvs e;refine⟨b,o,h1,?_,ac,ad,ai.mono (Ax h)⟩;show back false l (g.bL b 0) (g1.bL b 0)=_;rw[kJ,d];·rfl
  by_cases f:lh false (g.bL b 0)=.ext
  .have:=(h.ext b 0 f).1;rw[d]at this;cases this
  .exact .inl f
 Y id e:=hH.Y id e
def CX(h:Step (g.dV ph) w g1 w1):Step g w (g.back g1 ph l) w1 where
 gZ:=(q7 h).gZ
 e8:=(q7 h).e8
 hb:=(q7 h).hb
 od b r e i hm:=h.od b r (by show lh ph (g.bL b 0)=_;rw[e];rfl) i hm
 ext b o e:=by
  have h1:(g.dV ph).bL b o=.ext:=by show lh ph (g.bL b o)=_;rw[e];rfl
  obtain⟨f1,t,u⟩:=h.ext b o h1;refine⟨?_,t,u⟩;exact aaB
 ru b o e hb:=by
  have d:back ph l (g.bL b o) (g1.bL b o)=.ext:=e;by_cases f:lh ph (g.bL b o)=.ext/\g.bL b o≠.ext
  .rw[tL f.1 f.2]at d;exact d
  .rw[kJ (by
    by_cases j:lh ph (g.bL b o)=.ext
    .exact .inr (cJ λp=>f ⟨j,p⟩)
    .exact .inl j),Cq]at d
   have j:=h.ru b o d hb;have p:lh ph (g.bL b o)=.ext:=j;exact cJ λy=>f ⟨p,y⟩
 size:=h.size
 gW:=⟨h.gW.tape,h.gW.os,h.gW.out,λe=>h.gW.drawn (by show lh ph (g.bL 0 0)=_;rw[e];rfl)⟩
 whole b hb e:=h.whole b hb λo=>by
  show(lh ph (g.bL b o)).old;rcases e o with q|⟨x,q⟩<;>rw[q]
  .exact .inl rfl
  .exact .inr ⟨x,rfl⟩
def Rel.Kt(R:Rel GL g s a w)(h:Step (g.dV false) w g1 w1)(h1:qi GL g1 w1)(hH:HR g1 nv w1):Rel GL (g.back g1 false l) (s.ct nv) a w1 where
 size:=R.size
 gj:=R.gj.mono λD d f=>⟨(kp h d rfl bR).1,h.od D _ (by show lh _ (g.bL D 0)=_;rw[d];rfl) rfl f⟩
 Z t:=(R.Z t).mono (q7 h) (λ_ _ _ e=>e)
 gA:=Fs R.gA h h1
 heap:=Ks h hH
 loc st gn hg:=let⟨b,d,f⟩:=R.loc st gn hg;⟨b,d,Ay h f rfl bR⟩
 jd:=R.jd
 jt t e:=rZ h (R.jt t e) rfl
 gD st gn j c b y d f e3 p:=by
  have hg:gn<s.G st:=by
   rcases am gn (s.G st)with o|o
   .exact o
   .exact absurd ((R.jd st gn o).symm.trans e3) bR
  obtain⟨b2,e6,e7⟩:=R.loc st gn hg;obtain rfl:=au (e6.symm.trans e3);rw[(kp (l:=l) h (e7.bL j (bZ f)) rfl bR).2.1]at p;exact rZ h (R.gD st gn j c b2 y d f e3 p) rfl
 jX t u e:=R.jX t u (fE e).1
 gF t st gn j e:=by
  obtain⟨hg,hh⟩:=R.gF t st gn j (fE e).1;exact Wu
 ib t id j e:=by
  have:=(fE e).2;simp[Pn]at this
def Rel.Ku(R:Rel GL g s a w)(h:Step (g.dV true) w g1 w1)(h1:qi GL g1 w1):Rel GL (g.back g1 true l) s a w1 where
 size:=R.size
 gj:=R.gj.mono λD d f=>⟨(kp h d rfl bR).1,h.od D _ (by show lh _ (g.bL D 0)=_;rw[d];rfl) rfl f⟩
 Z t:=(R.Z t).mono (q7 h) (λ_ _ _ e=>e)
 gA:=Fs R.gA h h1
 heap:=by
  refine⟨λid cells e=>?_,λid cells j c b y d f e3 p u=>?_,λid kvs e=>?_,λid e=>R.heap.Y id e⟩
  .obtain⟨b,d,f⟩:=R.heap.box id cells e;exact⟨b,d,Ay h f rfl bR⟩
  .obtain⟨b2,e6,e7⟩:=R.heap.box id cells d;have q:g.hb id=some b:=p;obtain rfl:=au (e6.symm.trans q);rw[(kp (l:=l) h (e7.bL j (bZ e3)) rfl (by simp)).2.1]at u;exact rZ h (R.heap.tail id cells j c b2 y d f e3 e6 u) rfl
  .obtain⟨b,o,h1,z,H,h4,h5⟩:=R.heap.map id kvs e;obtain⟨f1,_⟩:=kp (l:=l) h z rfl bR;exact⟨b,o,h1,f1,h.od b o (by show lh true (g.bL b 0)=_;rw[z];rfl) h4 H,h4,h5.mono (q7 h)⟩
 loc st gn hg:=let⟨b,d,f⟩:=R.loc st gn hg;⟨b,d,Ay h f rfl bR⟩
 jd:=R.jd
 jt t e:=rZ h (R.jt t e) rfl
 gD st gn j c b y d f e3 p:=by
  have hg:gn<s.G st:=by
   rcases am gn (s.G st)with r|r
   .exact r
   .exact absurd ((R.jd st gn r).symm.trans e3) bR
  obtain⟨b2,e6,e7⟩:=R.loc st gn hg;obtain rfl:=au (e6.symm.trans e3);rw[(kp (l:=l) h (e7.bL j (bZ f)) rfl bR).2.1]at p;exact rZ h (R.gD st gn j c b2 y d f e3 p) rfl
 jX:=R.jX
 gF t st gn j e:=by
  obtain⟨hg,hh⟩:=R.gF t st gn j e;exact Wu
 ib t id j e:=by
  obtain⟨cells,d,f,e3⟩:=R.ib t id j e;refine⟨cells,d,f,λb p=>?_⟩;obtain⟨b2,e6,e7⟩:=R.heap.box id cells d;have q:g.hb id=some b:=p;obtain rfl:=au (e6.symm.trans q);rw[(kp (l:=l) h (e7.bL j (bZ f)) rfl (by simp)).2.1];exact e3 b2 e6
def Mb(h:Step (g.dV ph) w g1 w1)(o:dS g1 w1 .ret v x):dS (g.back g1 ph l) w1 l v x:=by
 intro sz p d len cap q hx k r t;obtain⟨f,u,y⟩:=o sz p d len cap q hx k r t;refine⟨?_,u,y⟩;show back ph l (g.bL d.block (d.off+k)) (g1.bL d.block (d.off+k))=_;rw[kJ,f];·rfl
 by_cases j:lh ph (g.bL d.block (d.off+k))=.ext
 .have:=(h.ext _ _ j).1;rw[f]at this;cases this
 .exact .inl j
def CY(R:Rel GL g s a w)(ph:Bool){args:List V}{xs:Array Value}(t:ph=true->hW args=true)(K:xs.size=args.length)(H:∀(j:Nat) v x,args[j]?=some v->xs[j]?=some x->VR g v x):
 ry GL (g.dV ph) w (if ph then aJ.bare else s.E) args xs:=by
 have p:∀b o x,g.bL b o=.gZ x->(g.dV ph).bL b o=.gZ x:=λ_ _ _ e=>Av.2 e;have q:∀b r,g.bL b 0=.e8 r->(g.dV ph).bL b 0=.e8 r:=λ_ _ e=>xR.2 e;refine⟨⟨λn c e=>(R.gA.kn n c e).xI p q (R.gA.kC n c e),λb o x e=>R.gA.gZ b o x (Av.1 e),λb r e=>R.gA.e8 b r (xR.1 e),λb o e=>R.gA.il b o (λt=>e (CV.2 t)),R.gA.kC⟩,?_,K,?_⟩
 .cases ph with
  |true=>exact⟨λid cells e=>by simp[aJ.bare]at e,λid cells j c b x e=>by simp[aJ.bare]at e,λid kvs e=>by simp[aJ.bare]at e,λid _=>rfl⟩
  |false=>
   have hle:g.Le (g.dV false):=⟨p,q,λ_ _ e=>e⟩;refine⟨λid cells e=>?_,λid cells j c b y f d u z D=>?_,λid kvs e=>?_,λid e=>R.heap.Y id e⟩
   .obtain⟨b,f,d⟩:=R.heap.box id cells e;refine⟨b,f,⟨λj=>?_,λj c L=>?_,d.ki⟩⟩
    .show lh false (g.bL b j)=_;rw[d.mq j];rfl
    .obtain⟨N,y,Q,ab⟩:=d.cell j c L;exact⟨N,y,Q,ab.mono hle⟩
   .intro sz xs ac len cap ad hx k p q;obtain⟨ai,aA,aB⟩:=R.heap.tail id cells j c b y f d u z D sz xs ac len cap ad hx k p q;exact⟨by show lh false (g.bL _ _)=_;rw[ai];rfl,aA,aB⟩
   .obtain⟨b,o,f,d,u,z,D⟩:=R.heap.map id kvs e;exact⟨b,o,f,by show lh false (g.bL _ _)=_;rw[d];rfl,u,z,D.mono hle⟩
 .intro j v x f d;cases ph with
  |true=>exact(H j v x f d).xI p q (k2 (t rfl) f)
  |false=>exact(H j v x f d).mono ⟨p,q,λ_ _ e=>e⟩
end
end
section
variable {GL:Nat->Option (List V)}{P:Program}
def V.isAgg:V->Bool
 |.agg _=>true
 |_=>false
def sy(P:Program)(t:TypeId):Bool:=match P.underlying t with
 |some (.int _)|some .bool|some .string=>true
 |_=>false
def xS(P:Program)(t:TypeId):Option (List CK):=match P.underlying t with
 |some (.int _)|some .string=>gG P 8 t
 |some (.struct a)=>if a.toList.all (λf=>sy P f.type)then gG P 8 t else none
 |_=>none
def mR{t:TypeId}(h:sy P t=true)(em:Bool)(n:Nat)(x:Value)(w:World):(Instr.checkKey em (n+1) t x).run P w=.ok () w:=by
 unfold sy at h;unfold Instr.checkKey;split at h
 next k hd=>simp only[Sem.run_bind,run_underlying hd,Result.andThen_ok];cases x<;>rfl
 .exact WX
 .exact WX
 .cases h
def vq{t:TypeId}{fs:Array Field}(u:P.underlying t=some (.struct fs))(j:fs.toList.all (λf=>sy P f.type)=true){d:Nat}{p all:List CK}(E:gG.l6 (gG P d) fs.toList p=some all)
 (em:Bool) (n:Nat) (xs:Array Value) (hx:xs.size=all.length) (w:World):(Instr.checkKey em (n+2) t (.agg xs)).run P w=.ok () w:=by
 unfold Instr.checkKey;simp only[Sem.run_bind,run_underlying u,Result.andThen_ok];rw[<-Array.forIn_toList]
 revert j E
 generalize fs.toList=l;intro j E;have key:∀(l:List Field)(acc:List CK),l.all (λf=>sy P f.type)=true->gG.l6 (gG P d) l acc=some all->
  (forIn (m:=Sem) l PUnit.unit λf (_:PUnit)=>do
   if f.name≠ "_" then
    Instr.checkKey em (n+1) f.type (<-part f.type xs f.offset)
    pure (ForInStep.yield PUnit.unit)
   else pure (ForInStep.yield PUnit.unit)).run P w=.ok PUnit.unit w:=by
  intro l;induction l with
  |nil=>intro acc _ _;simp
  |cons f l ih=>
   intro acc j E;simp only[bN,aX]at j;simp only[gG.l6]at E;split at E
   next y q=>
    split at E
    next o=>
     obtain⟨ag,g1,z,D⟩:=vV q;have hle:acc.length+y.length<=all.length:=by
      have:∀(l:List Field)(a:List CK),gG.l6 (gG P d) l a=some all->a.length<=all.length:=by
       intro l;induction l with
       |nil=>intro a h;simp[gG.l6]at h;rw[h];exact ao _
       |cons f l ih=>
        intro a h;simp only[gG.l6]at h;split at h
        .split at h
         .have:=ih _ h;simp at this;omega
         .cases h
        .cases h
      have:=this l _ E;simpa using this
     have r:=rY (xs:=xs) (off:=f.offset) w g1 z D (by rw[o.1];omega);simp only[List.forIn_cons,ax o.2,Sem.run_bind,r,Result.andThen_ok,mR j.1,Sem.run_pure];exact ih _ j.2 E
    .cases E
   .cases E
 rw[key l p j E];rfl
def zg{g:aW}{t:TypeId}{j:List CK}(a:xS P t=some j){k:V}{x:Value}(hx:VR g k x)(l:jR j.length k=true)(f:fq P t=some k.isAgg)(em:Bool)(w:World):
 (Instr.checkKey em 10000 t x).run P w=.ok () w:=by
 unfold xS at a;split at a
 next q d=>exact mR (by simp[sy,d]) em 9999 x w
 next d=>exact mR (by simp[sy,d]) em 9999 x w
 next o d=>
  split at a
  next p=>
   have r:fq P t=some true:=by simp[fq,d]
   rw[r]at f;cases k<;>simp[V.isAgg]at f;rename_i cs;obtain⟨u,rfl,y,D,H⟩:=hx.fb.agg;unfold gG at a;simp only[d]at a;split at a
   .cases e:gG.l6 (gG P 7) o.toList []with
    |none=>simp[e]at a
    |some z=>
     simp only[e,gw]at a;split at a
     .cases a;refine vq d p e em 9998 u ?_ w;rw[y];have:=(fh l).1;simpa[V.cells]using this
     .cases a
   .cases a
  .cases a
 .cases a
def nb(a:List CK)(d:List V):List (V×V)->Nat->Option (Option Nat)
 |[],_=>some none
 |(u,_)::r,i=>match dJ a d u.cells with
  |some true=>some (some i)
  |some false=>nb a d r (i+1)
  |none=>none
def keysOf(ag:Bool)(n:Nat)(kvs:List (V×V)):Bool:=kvs.all λ(u,_)=>jR n u&&(u.isAgg==ag)
def IY{g:aW}{t:TypeId}{k:V}{x:Value}(hx:VR g k x){n:Nat}(l:jR n k=true)(a:fq P t=some k.isAgg):x=xM P t x.cells.toList/\fK g k.cells x.cells.toList:=by
 have j:=(fh l).2;refine⟨?_,(pG hx.fb j).1⟩;unfold xM;by_cases f:k.isAgg=true
 .rw[f]at a;rw[ax a];cases k<;>simp[V.isAgg]at f;obtain⟨p,rfl,_⟩:=hx.fb.agg;simp[Value.cells]
 .have d:k.isAgg=false:=by simpa using f
  rw[d]at a;rw[an (by rw[a];simp)];have:k.one=true:=by
   cases k<;>first|rfl|(simp[V.cells,V.one]at j;done)|(simp[V.isAgg]at d)
  obtain⟨o,_⟩:=VR.one hx this;rw[o];rfl
def Az{d:TypeDesc}{fs:Array Field}(a:d=.struct fs)(k:Value)(es:List MapEntry)(i:Nat):Instr.findNow d k es i=if es=[]then some none else none:=by
 subst a;cases es with
 |nil=>rfl
 |cons e es=>simp[Instr.findNow,Instr.sameNow]
def um{g:aW}{t:TypeId}{f:List CK}(y:gG P 8 t=some f){k:V}{x:Value}(hx:VR g k x)(D:jR f.length k=true)(o:fq P t=some k.isAgg)(w:World):
 ∀(kvs:List (V×V))(es:List MapEntry)(i:Nat)(r:Option Nat),es.length=kvs.length->(∀(j:Nat) u e,kvs[j]?=some u->es[j]?=some e->VR g u.1 e.key)->keysOf k.isAgg f.length kvs=true->nb f k.cells kvs i=some r->
  (Instr.findAsking t x es i).run P w=.ok (r.map λj=>(j,((es[j-i]?).map (·.val)).getD undef)) w
 |[],[],i,r,_,_,_,h=>by simp[nb]at h;subst h;rfl
 |u::kvs,e::es,i,r,p,H,d,h=>by
  obtain⟨u,z⟩:=u;simp only[keysOf,bN,aX]at d;have N:=H 0 (u,z) e rfl rfl;have K:=d.1.1;have L:fq P t=some u.isAgg:=by rw[o];congr 1;exact(eq_of_beq d.1.2).symm
  obtain⟨Q,R⟩:=IY (P:=P) hx D o;obtain⟨ab,ac⟩:=IY (P:=P) N K L;have q:=λr ad=>um y hx D o w kvs es (i+1) r (by simpa using p) (λj u e ai aA=>H (j+1) u e (by simpa using ai) (by simpa using aA)) (by simp only[keysOf];exact d.2) ad;simp only[nb]at h;have heq:∀b,dJ f k.cells u.cells=some b->(Op.equal t x e.key).run P w=.ok b w:=by
   intro b hb;have:=tv (g:=g) w 8 10000 t f y av _ _ _ _ b R ac hb;rw[<-Q,<-ab]at this;exact this
  split at h
  next hb=>cases h;simp only[Instr.findAsking,Sem.run_bind,heq _ hb,Result.andThen_ok,bQ,Sem.run_pure,bG,iM];rfl
  next hb=>
   simp only[Instr.findAsking,Sem.run_bind,heq _ hb,Result.andThen_ok,bM,cE];rw[q r h];congr 1;cases r with
   |none=>rfl
   |some j=>
    have aB:i+1<=j:=by
     have:∀(l:List (V×V))(i:Nat) j,nb f k.cells l i=some (some j)->i<=j:=by
      intro l;induction l with
      |nil=>intro i j h;simp[nb]at h
      |cons a l ih=>
       intro i j h;obtain⟨a,b⟩:=a;simp only[nb]at h;split at h
       .simp at h;omega
       .have:=ih _ _ h;omega
       .cases h
     exact this _ _ _ h
    exact W7
  .cases h
 |[],_::_,_,_,p,_,_,_=>by simp at p
 |_::_,[],_,_,p,_,_,_=>by simp at p
def wJ{d:List CK}{f:List V}:∀{l:List (V×V)} {i j:Nat},nb d f l i=some (some j)->i<=j/\j<i+l.length
 |[],i,j,h=>by simp[nb]at h
 |(a,b)::l,i,j,h=>by
  simp only[nb]at h;split at h
  .simp at h;subst h;simp
  .have:=wJ h;simp;omega
  .cases h
def bytes_beq(p q:List UInt8):((⟨p.toArray⟩:ByteArray)==⟨q.toArray⟩)=(p==q):=by
 show ByteArray.beq _ _=_;unfold ByteArray.beq;by_cases a:p=q
 .subst a;simp
 .have d:(p==q)=false:=by simpa using a
  rw[d];simpa using a
def uo{g:aW}{d:TypeDesc}{l:CK}(t:(∃q,d=.int q)/\l=.i\/d=.string/\l=.s){k:V}{x:Value}(hx:VR g k x)(K:jR 1 k=true)(o:k.isAgg=false):
 ∀(kvs:List (V×V))(es:List MapEntry)(i:Nat)(r:Option Nat),es.length=kvs.length->(∀(j:Nat) u e,kvs[j]?=some u->es[j]?=some e->VR g u.1 e.key)->keysOf false 1 kvs=true->nb [l] k.cells kvs i=some r->
  Instr.findNow d x es i=some (r.map λj=>(j,((es[j-i]?).map (·.val)).getD undef))
 |[],[],i,r,_,_,_,h=>by simp[nb]at h;subst h;rfl
 |u::kvs,e::es,i,r,f,y,a,h=>by
  obtain⟨u,z⟩:=u;simp only[keysOf,bN,aX]at a;have D:=y 0 (u,z) e rfl rfl;have H:u.isAgg=false:=eq_of_beq a.1.2;have L:k.cells=[k]:=by cases k<;>first|rfl|(simp[V.isAgg]at o)
  have N:u.cells=[u]:=by cases u<;>first|rfl|(simp[V.isAgg]at H)
  have p:=λr Q=>uo t hx K o kvs es (i+1) r (by simpa using f) (λj u e R ab=>y (j+1) u e (by simpa using R) (by simpa using ab)) (by simp only[keysOf];exact a.2) Q;have heq:∀b,dJ [l] k.cells u.cells=some b->Instr.sameNow d x e.key=some b:=by
   intro b hb;rw[L,N]at hb;have hb:=oi hb;rcases t with⟨⟨q,rfl⟩,rfl⟩|⟨rfl,rfl⟩
   .cases k<;>simp only[oV]at hb<;>first|(cases hb;done)|skip
    cases u<;>simp only at hb<;>first|(cases hb;done)|skip
    obtain rfl:=hx.fb.int;rw[D.fb.int];simp only[Instr.sameNow];exact hb
   .cases k<;>simp only[oV]at hb<;>first|(cases hb;done)|skip
    cases u<;>simp only at hb<;>first|(cases hb;done)|skip
    obtain rfl:=hx.fb.str;rw[D.fb.str];simp only[Instr.sameNow];rw[<-hb];exact ar some (bytes_beq _ _)
  simp only[nb]at h;split at h
  next hb=>cases h;simp only[Instr.findNow,heq _ hb,bG,iM];rfl
  next hb=>
   simp only[Instr.findNow,heq _ hb];rw[p r h];congr 1;cases r with
   |none=>rfl
   |some j=>
    have ac:=(wJ h).1;exact W7
  .cases h
 |[],_::_,_,_,f,_,_,_=>by simp at f
 |_::_,[],_,_,f,_,_,_=>by simp at f
def Hq{t:TypeId}{a:List CK}(h:xS P t=some a):gG P 8 t=some a:=by
 unfold xS at h;split at h
 .exact h
 .exact h
 .split at h
  .exact h
  .cases h
 .cases h
def AA{g:aW}{t:TypeId}{p:List CK}(a:xS P t=some p){k:V}{x:Value}(hx:VR g k x)(L:jR p.length k=true)(o:fq P t=some k.isAgg)(w:World)
 {kvs:List (V×V)} {es:List MapEntry} {r:Option Nat} (K:es.length=kvs.length) (N:∀(j:Nat) u e,kvs[j]?=some u->es[j]?=some e->VR g u.1 e.key) (H:keysOf k.isAgg p.length kvs=true) (z:nb p k.cells kvs 0=some r):
 (Instr.findKey t x es).run P w=.ok (r.map λj=>(j,((es[j]?).map (·.val)).getD undef)) w:=by
 have y:=um (Hq a) hx L o w kvs es 0 r K N H z;simp only[ig]at y;have scalar:∀d D,P.underlying t=some d->((∃q,d=.int q)/\D=CK.i\/d=.string/\D=CK.s)->p=[D]->k.isAgg=false->(Instr.findKey t x es).run P w=.ok (r.map λj=>(j,((es[j]?).map (·.val)).getD undef)) w:=by
  intro d D f Q R l;subst R;have:=uo Q hx L l kvs es 0 r K N (by rw[<-l];exact H) z;simp only[Instr.findKey,Sem.run_bind,run_underlying f,Result.andThen_ok,this,ig,Sem.run_pure]
 have ac:=a;unfold xS at a;split at a
 next q f=>
  have l:k.isAgg=false:=by simp[fq,f]at o;exact o
  unfold gG at a;simp only[f]at a;split at a
  .exact scalar _ .i f (.inl ⟨⟨q,rfl⟩,rfl⟩) (au a).symm l
  .cases a
 next f=>
  have l:k.isAgg=false:=by simp[fq,f]at o;exact o
  unfold gG at a;simp only[f]at a;split at a
  .exact scalar _ .s f (.inr ⟨rfl,rfl⟩) (au a).symm l
  .cases a
 next ad f=>
  simp only[Instr.findKey,Sem.run_bind,run_underlying f,Result.andThen_ok,Az rfl];by_cases ab:es=[]
  .subst ab;have:kvs=[]:=by simpa using K.symm
   subst this;simp[nb]at z;subst z;simp
  .simp only[an ab];exact y
 .cases a
end
section
variable {GL:Nat->Option (List V)}{P:Program}
def V.dW:V->Bool
 |.A _ _ _=>true
 |_=>false
def aJ.cM(h:aJ)(cells:List V):aJ:={h with box:=eR h.box h.Y (some cells),fl:=eR h.fl h.Y (λ_=>false),Y:=h.Y+1}
def aJ.hI(h:aJ):aJ:={h with mp:=eR h.mp h.Y (some (.map [])),Y:=h.Y+1}
def aJ.eM(h:aJ)(id:Nat)(kvs:List (V×V)):aJ:={h with mp:=eR h.mp id (some (.map kvs))}
inductive HX where
 |AB (zs:List V)
 |dZ (n:Nat) (x:eO)
 |mkMap
 |lookup (ks:List CK) (ag:Bool) (zero:V) (ok:Bool) (m k:eO)
 |sA (ks:List CK) (ag:Bool) (m k v:eO)
 |mapEntry (ks:List CK) (ag:Bool) (zero:V) (m k:eO)
 |entryStore (m st v:eO)
 |wK (neg:Bool) (x:eO)
def Ft(h:aJ):V->Option (List (V×V))
 |.mp id=>match h.mp id with
  |some (.map kvs)=>some kvs
  |_=>none
 |.qy=>some []
 |.em d f=>if d.length=f.length then some (d.zip f)else none
 |_=>none
def i5(ok:Bool)(v:V)(b:Bool):V:=if ok then .hE [v,.bool b]else v
def rL(d:List CK)(ag:Bool)(k:V)(kvs:List (V×V)):Option (Option Nat):=
 if jR d.length k=true/\k.isAgg=ag/\keysOf ag d.length kvs=true then nb d k.cells kvs 0 else none
def HX.act(s:St):HX->Option (List (V×Bool×aJ))
 |.AB zs=>some [(.bp s.E.Y 0,false,s.E.cM zs)]
 |.dZ n x=>if jR n (s.val x)=true then some [(.bp s.E.Y 0,false,s.E.cM (s.val x).cells)]else none
 |.mkMap=>some [(.mp s.E.Y,false,s.E.hI)]
 |.lookup d ag zero ok m k=>match Ft s.E (s.val m)with
  |some kvs=>match rL d ag (s.val k) kvs with
   |some (some j)=>(kvs[j]?).map λp=>[(i5 ok p.2 true,false,s.E)]
   |some none=>some [(i5 ok zero false,false,s.E)]
   |none=>none
  |none=>none
 |.sA d ag m k v=>match s.val m with
  |.mp id=>match s.E.mp id with
   |some (.map kvs)=>if(s.val v).dW=true then none else match rL d ag (s.val k) kvs with
    |some (some j)=>some [(.qr,false,s.E.eM id (kvs.set j (s.val k,s.val v)))]
    |some none=>some [(.qr,false,s.E.eM id (kvs++[(s.val k,s.val v)]))]
    |none=>none
   |_=>none
  |_=>none
 |.mapEntry d ag zero m k=>match s.val m with
  |.mp id=>match s.E.mp id with
   |some (.map kvs)=>match rL d ag (s.val k) kvs with
    |some (some j)=>(kvs[j]?).map λp=>[(.hE [p.2,.int .i64 j],false,s.E.eM id (kvs.set j (s.val k,p.2)))]
    |some none=>some [(.hE [zero,.int .i64 kvs.length],false,s.E.eM id (kvs++[(s.val k,zero)]))]
    |none=>none
   |_=>none
  |_=>none
 |.entryStore m st v=>match s.val m,idxOf (s.val st)with
  |.mp id,some j=>match s.E.mp id with
   |some (.map kvs)=>if(s.val v).dW=true then none else(kvs[j]?).map λp=>[(.qr,false,s.E.eM id (kvs.set j (p.1,s.val v)))]
   |_=>none
  |_,_=>none
 |.wK neg x=>match s.val x with
  |.aP=>some [(.bool (!neg),false,s.E)]
  |.ms _ _ _ _ (_+1)=>some [(.bool neg,false,s.E)]
  |.sl _ (_::_)=>some [(.bool neg,false,s.E)]
  |.sl _ []=>some [(.bool (!neg),false,s.E),(.bool neg,false,s.E)]
  |_=>none
section
variable {g g':aW}{s:St}{a:Act}{w w':World}{o:Oper}{wx:aJ}
def Rel.xT(R:Rel GL g s a w)(hle:g.Le g')(d:g'.lb=g.lb)(ab:qi GL g' w')(r:HR g' wx w')
 (dZ:∀{b st gn cells},fP g w b (.su st gn) cells->fP g' w' b (.su st gn) cells) (iI:∀{b st gn cells j},fP g w b (.su st gn) cells->j<cells.length->w'.cell? (cl b j)=w.cell? (cl b j))
 (p:∀{l v x},(∀i j,l≠Loc.iI i j)->dS g w l v x->dS g' w' l v x)
 (ac:∀D,g.bL D 0=.rK->w.heap[D]?=some (.deferred (some []))->g'.bL D 0=.rK/\w'.heap[D]?=some (.deferred (some []))):Rel GL g' (s.ct wx) a w' where
 size:=R.size
 gj:=R.gj.mono ac
 Z t:=(R.Z t).mono hle (λ_ _ _ e=>by rw[d];exact e)
 gA:=ab
 heap:=r
 loc st gn f:=let⟨b,z,q⟩:=R.loc st gn f;⟨b,by rw[d];exact z,dZ q⟩
 jd st gn f:=by rw[d];exact R.jd st gn f
 jt t e:=p bR (R.jt t e)
 gD st gn j c b y z q e3 L:=by
  rw[d]at e3;have f:gn<s.G st:=by
   exact Wo
  obtain⟨N,H,K⟩:=R.loc st gn f;obtain rfl:=au (H.symm.trans e3);rw[iI K (bZ q)]at L;exact p (by simp) (R.gD st gn j c N y z q e3 L)
 jX t u e:=R.jX t u (fE e).1
 gF t st gn j e:=by
  obtain⟨f,r⟩:=R.gF t st gn j (fE e).1;refine⟨f,λb e3=>?_⟩;rw[d]at e3;obtain⟨ad,Q⟩:=r b e3;obtain⟨N,H,K⟩:=R.loc st gn f;cases (H.symm.trans e3);exact⟨by rw[iI K (bZ Q)];exact ad,Q⟩
 ib t id j e:=by
  have:=(fE e).2;simp[Pn]at this
def Rel.same(R:Rel GL g s a w):Rel GL g (s.ct s.E) a w:=
 R.xT (.refl g) rfl R.gA R.heap (λh=>h) (λ_ _=>rfl) (λ_ h=>h) (λ_ d f=>⟨d,f⟩)
def aW.wL(g:aW)(id b:Nat):aW:={g with hb:=eR g.hb id (some b)}
def nc{id b:Nat}(h:g.hb id=none):g.Le (g.wL id b) where
 gZ _ _ _ e:=e
 e8 _ _ e:=e
 hb i c e:=by
  show eR g.hb id (some b) i=some c;by_cases d:i=id
  .subst d;rw[h]at e;cases e
  .rw[bE _ _ d];exact e
def xU{id b:Nat}(h:g.hb id=none)(d:qi GL g w):qi GL (g.wL id b) w:=
 ⟨λn c e=>(d.kn n c e).mono (nc h),d.gZ,d.e8,d.il,d.kC⟩
def qg{id b d:Nat}{ow:eX}{cells:List V}(h:g.hb id=none)(hb:fP g w d ow cells):fP (g.wL id b) w d ow cells:=
 ⟨hb.mq,λj c f=>let⟨l,x,p,q⟩:=hb.cell j c f;⟨l,x,p,q.mono (nc h)⟩,hb.ki⟩
def vY{id b:Nat}(h:g.hb id=none):Step g w (g.wL id b) w:=
 ⟨λ_ _ _ e=>e,λ_ _ e=>e,(nc h).hb,λ_ _ e=>⟨e,rfl,rfl⟩,λ_ _ _ _ e=>e,λ_ _ e _=>e,ao _,.refl _,λ_ _ _=>rfl⟩
def mY{id b i:Nat}(d:i≠id):(g.wL id b).hb i=g.hb i:=bE _ _ d
def oZ{id b:Nat}:(g.wL id b).hb id=some b:=bl _ _ _
def IP{h:aJ}(d:HR g h w){id:Nat}{cells:List V}(e:h.box id=some cells):id≠h.Y:=by
 rintro rfl;obtain⟨b,f,_⟩:=d.box _ _ e;rw[d.Y _ (ao _)]at f;cases f
def PM{h:aJ}(d:HR g h w){id:Nat}{kvs:MO}(e:h.mp id=some kvs):id≠h.Y:=by
 rintro rfl;obtain⟨b,_,f,_⟩:=d.map _ _ e;rw[d.Y _ (ao _)]at f;cases f
def HR.cM{h:aJ}(d:HR g h w){b:Nat}{cells:List V}(hb:fP g w b (.dZ h.Y) cells):HR (g.wL h.Y b) (h.cM cells) w where
 box id cs e:=by
  have r:=d.Y _ (ao h.Y);by_cases f:id=h.Y
  .subst f;simp only[aJ.cM,bl]at e;cases e;exact⟨b,oZ,qg r hb⟩
  .simp only[aJ.cM,bE _ _ f]at e;obtain⟨l,h1,p⟩:=d.box id cs e;exact⟨l,by rw[mY f];exact h1,qg r p⟩
 tail id cs j c l x t q y u z:=by
  by_cases f:id=h.Y
  .subst f;simp[aJ.cM]at q
  .simp only[aJ.cM,bE _ _ f]at t q;rw[mY f]at u;exact d.tail id cs j c l x t q y u z
 map id kvs e:=by
  obtain⟨l,o,h1,p,D,H,K⟩:=d.map id kvs e;exact⟨l,o,by rw[mY (PM d e)];exact h1,p,D,H,K.mono (nc (d.Y _ (ao _)))⟩
 Y id e:=by
  simp only[aJ.cM]at e;rw[mY av];exact d.Y id av
def HR.hI{h:aJ}(hh:HR g h w){b:Nat}(f:g.bL b 0=.oS h.Y)(hb:w.heap[b]?=some (.map #[] 0)):HR (g.wL h.Y b) h.hI w where
 box id cs e:=by
  exact WD
 tail id cs j c b' x e1 e2 e3 e4 e5:=by
  exact W3
 map id kvs e:=by
  by_cases d:id=h.Y
  .subst d;simp only[aJ.hI,bl]at e;cases e;exact⟨b,_,oZ,f,hb,rfl,#[],0,rfl,rfl,bR,bR,bR,rfl⟩
  .simp only[aJ.hI,bE _ _ d]at e;obtain⟨b',o,h1,h2,l,p,q⟩:=hh.map id kvs e;exact⟨b',o,by rw[mY d];exact h1,h2,l,p,q.mono (nc (hh.Y _ (ao _)))⟩
 Y id e:=by
  simp only[aJ.hI]at e;rw[mY av];exact hh.Y id av
def zD{cells:List V}{xs:Array Value}{t:TypeId}(R:Rel GL g s a w)(hc:fK g cells xs.toList)(p:∀c∈cells,c.one=true):
 ∃g',Rel GL g' (s.ct (s.E.cM cells)) a (w.alloc (.cells xs t))/\Step g w g' (w.alloc (.cells xs t))/\VR g' (.bp s.E.Y 0) (.pointer (some ⟨w.heap.size,0,none⟩)):=by
 let ow:Nat->eX:=λ_=>.dZ s.E.Y
 have d:Rel GL (g.block w.heap.size ow) s a (w.alloc (.cells xs t)):=R.alloc (λo x e=>by
  simp only[ow]at e;cases e) (λz e=>by simp only[ow]at e;cases e)
 have q:Step g w (g.block w.heap.size ow) (w.alloc (.cells xs t)):=Step.alloc R.gA;have dZ:fP (g.block w.heap.size ow) (w.alloc (.cells xs t)) w.heap.size (.dZ s.E.Y) cells:=by
  refine⟨λj=>?_,λj c hj=>⟨p c (bT hj),?_⟩,λj=>World.frozen?_alloc_new w xs t j⟩
  .rw[aW.eL]
  .have l:=bZ hj;have y:j<xs.toList.length:=by rw[<-hc.1];exact l
   have hx:xs.toList[j]?=some xs.toList[j]:=bR;exact WA
 have f:(g.block w.heap.size ow).hb s.E.Y=none:=d.heap.Y _ (ao _);exact⟨_,d.xT (nc f) rfl (xU f d.gA) (d.heap.cM dZ) (qg f) (λ_ _=>rfl) (λ_ h=>h) (λ_ r u=>⟨r,u⟩),q.trans (vY f),.bp _ _ _ oZ⟩
def PN(R:Rel GL g s a w):
 ∃g',Rel GL g' (s.ct s.E.hI) a (w.alloc (.map #[] 0))/\Step g w g' (w.alloc (.map #[] 0))/\VR g' (.mp s.E.Y) (.map (some w.heap.size)):=by
 let ow:Nat->eX:=λ_=>.oS s.E.Y
 have d:Rel GL (g.block w.heap.size ow) s a (w.alloc (.map #[] 0)):=R.alloc (λo x e=>by simp only[ow]at e;cases e) (λq e=>by simp only[ow]at e;cases e);have j:Step g w (g.block w.heap.size ow) (w.alloc (.map #[] 0)):=Step.alloc R.gA;have f:(g.block w.heap.size ow).hb s.E.Y=none:=d.heap.Y _ (ao _);exact⟨_,d.xT (nc f) rfl (xU f d.gA) (d.heap.hI (aW.eL _ _ _ _) (wF _ _)) (qg f) (λ_ _=>rfl) (λ_ h=>h) (λ_ l p=>⟨l,p⟩),j.trans (vY f),.mp _ _ oZ⟩
def sB(w:World)(b:Nat)(es:Array MapEntry)(c:Nat):World:={w with heap:=w.heap.setIfInBounds b (.map es c)}
section sB
variable {b:Nat}{es CZ:Array MapEntry}{c c':Nat}
def Ed(hb:w.heap[b]?=some (.map es c)):(sB w b CZ c').heap[b]?=some (.map CZ c'):=by
 have:b<w.heap.size:=(cD.1 hb).1;simp[sB,this]
def sC{d:Nat}(h:d≠b):(sB w b CZ c').heap[d]?=w.heap[d]?:=by
 simp only[sB,kh (hU h)]
def qj(hb:w.heap[b]?=some (.map es c))(d:Addr):(sB w b CZ c').cell? d=w.cell? d:=by
 unfold World.cell?;by_cases h:d.block=b
 .rw[h,Ed hb,hb]
 .rw[sC h]
def uq(hb:w.heap[b]?=some (.map es c))(d:Addr):(sB w b CZ c').frozen? d=w.frozen? d:=by
 unfold World.frozen?;by_cases h:d.block=b
 .rw[h,Ed hb,hb]
 .rw[sC h]
def C0:(sB w b CZ c').heap.size=w.heap.size:=by simp[sB]
def Kv{id:Nat}(hb:w.heap[b]?=some (.map es c))(d:g.bL b 0=.oS id):Step g w g (sB w b CZ c') where
 gZ _ _ _ e:=e
 e8 _ _ e:=e
 hb _ _ e:=e
 ext f o e:=⟨e,qj hb _,uq hb _⟩
 od f j e _ hm:=by
  have:f≠b:=by rintro rfl;rw[d]at e;cases e
  rw[sC this];exact hm
 ru _ _ e _:=e
 size:=by rw[C0];exact ao _
 gW:=⟨rfl,rfl,rfl,λ_=>ao _⟩
 whole f _ e:=sC (by rintro rfl;rcases e 0 with q|⟨x,q⟩<;>rw[q]at d<;>cases d)
def MA{id:Nat}(hb:w.heap[b]?=some (.map es c))(f:g.bL b 0=.oS id)(h:qi GL g w):qi GL g (sB w b CZ c') where
 kn:=h.kn
 gZ d o x e:=by rw[qj hb];exact h.gZ d o x e
 e8 d j e:=by
  have:d≠b:=by rintro rfl;rw[f]at e;cases e
  rw[sC this];exact h.e8 d j e
 il d o e:=by rw[C0];exact h.il d o e
 kC:=h.kC
def Fu{d:Nat}{ow:eX}{cells:List V}(hb:w.heap[b]?=some (.map es c))(h:fP g w d ow cells):fP g (sB w b CZ c') d ow cells:=
 ⟨h.mq,λj u f=>let⟨l,x,p,q⟩:=h.cell j u f;⟨l,x,by rw[qj hb];exact p,q⟩,λj=>by rw[uq hb];exact h.ki j⟩
def C1{l:Loc}{v:V}{x:Value}(hb:w.heap[b]?=some (.map es c))(h:dS g w l v x):dS g (sB w b CZ c') l v x:=by
 intro sz d f len cap j hx k p q;obtain⟨r,⟨u,t⟩,y⟩:=h sz d f len cap j hx k p q;exact⟨r,⟨u,by rw[qj hb];exact t⟩,by rw[uq hb];exact y⟩
def Kw{h:aJ}(p:HR g h w){id:Nat}{l:List (V×V)}(hb:w.heap[b]?=some (.map es c))(r:g.bL b 0=.oS id)(dV:g.hb id=some b)(hm:wD g l CZ c'):HR g (h.eM id l) (sB w b CZ c') where
 box i cs e:=let⟨f,h1,d⟩:=p.box i cs e;⟨f,h1,Fu hb d⟩
 tail i cs j u f x t y z D H:=C1 hb (p.tail i cs j u f x t y z D (by rw[<-qj (CZ:=CZ) (c':=c') hb];exact H))
 map i kvs e:=by
  by_cases q:i=id
  .subst q;simp only[aJ.eM,bl]at e;cases e;exact⟨b,_,dV,r,Ed hb,rfl,CZ,c',rfl,hm⟩
  .simp only[aJ.eM,bE _ _ q]at e;obtain⟨f,o,h1,d,K,L,N⟩:=p.map i kvs e;have:f≠b:=by rintro rfl;rw[r]at d;injection d with d;exact q d.symm
   exact⟨f,o,h1,d,by rw[sC this];exact K,L,N⟩
 Y:=p.Y
def Rel.eM(R:Rel GL g s a w){id:Nat}{d:List (V×V)}(hb:w.heap[b]?=some (.map es c))(f:g.bL b 0=.oS id)(dV:g.hb id=some b)(hm:wD g d CZ c'):
 Rel GL g (s.ct (s.E.eM id d)) a (sB w b CZ c')/\Step g w g (sB w b CZ c'):=
 ⟨R.xT (.refl g) rfl (MA hb f R.gA) (Kw R.heap hb f dV hm) (Fu hb) (λ_ _=>qj hb _) (λ_ h=>C1 hb h) (λD j l=>⟨j,by rw[sC (by rintro rfl;rw[f]at j;cases j)];exact l⟩),Kv hb f⟩
def r0{P:Program}(hb:w.heap[b]?=some (.map es c)):(getObj b).run P w=.ok (.map es c) w:=by simp[getObj,Sem.run,hb]
def ur{P:Program}(hb:w.heap[b]?=some (.map es c)):(setObj b (.map CZ c')).run P w=.ok () (sB w b CZ c'):=by simp[setObj,Sem.run,hb,sB]
def wD.set{kvs:List (V×V)}(h:wD g kvs es c){j:Nat}{k v:V}{e:MapEntry}{q vx:Value}(l:es[j]?=some e)(r:VR g k q)(t:VR g v vx):
 wD g (kvs.set j (k,v)) (es.modify j λe=>{e with key:=q,val:=vx}) c where
 len:=by simp[h.len]
 key i u p h1 d:=by
  rw[dz]at d;by_cases f:j=i
  .subst f;rw[ie (by rw[<-h.len];exact(cD.1 l).1)]at h1;cases h1;simp[l]at d;subst d;exact r
  .rw[iK f]at h1;simp only[an f]at d;exact h.key i u p h1 d
 val i u p h1 d:=by
  rw[dz]at d;by_cases f:j=i
  .subst f;rw[ie (by rw[<-h.len];exact(cD.1 l).1)]at h1;cases h1;simp[l]at d;subst d;exact t
  .rw[iK f]at h1;simp only[an f]at d;exact h.val i u p h1 d
 born i p d:=by
  rw[dz]at d;by_cases f:j=i
  .subst f;simp[l]at d;subst d;exact h.born j e l
  .simp only[an f]at d;exact h.born i p d
 Ml:=by simp[h.Ml]
def wD.push{kvs:List (V×V)}(h:wD g kvs es c){k v:V}{l vx:Value}(p:VR g k l)(q:VR g v vx):
 wD g (kvs++[(k,v)]) (es.push {key:=l,val:=vx,born:=c}) (c+1) where
 len:=by simp[h.len]
 key i u j h1 d:=by
  rw[gL]at d;rw[fI]at h1;by_cases f:i=es.size
  .subst f;simp[h.len]at h1 d;subst h1;rw[<-d];exact p
  .simp only[an f]at d;have:i<kvs.length:=by rw[<-h.len];exact(cD.1 d).1
   rw[ax this]at h1;exact h.key i u j h1 d
 val i u j h1 d:=by
  rw[gL]at d;rw[fI]at h1;by_cases f:i=es.size
  .subst f;simp[h.len]at h1 d;subst h1;rw[<-d];exact q
  .simp only[an f]at d;have:i<kvs.length:=by rw[<-h.len];exact(cD.1 d).1
   rw[ax this]at h1;exact h.val i u j h1 d
 born i j d:=by
  rw[gL]at d;by_cases f:i=es.size
  .subst f;simp at d;rw[<-d];exact h.Ml
  .simp only[an f]at d;exact h.born i j d
 Ml:=by simp[h.Ml]
end sB
end
end
section
variable {GL:Nat->Option (List V)}{P:Program}
def V.exact:V->Bool
 |.int _ _|.bool _|.str _=>true
 |_=>false
def wM:∀{j:List CK} {a b:List V},dJ j a b=some true->a=b/\∀c∈a,c.exact=true
 |[],[],[],_=>⟨rfl,bR⟩
 |k::j,x::a,y::b,h=>by
  simp only[dJ]at h;split at h
  next p q d l=>
   simp only[co,aX]at h;obtain⟨rfl,rfl⟩:=h;obtain⟨r,t⟩:=wM l;have:x=y/\x.exact=true:=by
    cases k<;>cases x<;>simp only[oV]at d<;>first|(cases d;done)|skip
    all_goals(cases y<;>simp only at d<;>first|(cases d;done)|skip)
    .split at d
     next u=>subst u;simp at d;subst d;exact⟨rfl,rfl⟩
     .cases d
    .simp at d;subst d;exact⟨rfl,rfl⟩
    .simp at d;subst d;exact⟨rfl,rfl⟩
   refine⟨by rw[this.1,r],λc f=>?_⟩;rcases bC.1 f with rfl|f
   .exact this.2
   .exact t c f
  .cases h
 |[],_::_,_,h=>by simp[dJ]at h
 |[],[],_::_,h=>by simp[dJ]at h
 |_::_,[],_,h=>by simp[dJ]at h
 |_::_,_::_,[],h=>by simp[dJ]at h
def VR.exact{g:aW}{c:V}{x y:Value}(f:c.exact=true)(hx:VR g c x)(d:VR g c y):x=y:=by
 cases c<;>simp[V.exact]at f
 .rw[hx.fb.int,d.fb.int]
 .rw[hx.fb.bool,d.fb.bool]
 .rw[hx.fb.str,d.fb.str]
def MB{g:aW}{k:V}{x y:Value}(f:∀c∈k.cells,c.exact=true)(hx:VR g k x)(j:VR g k y):x=y:=by
 by_cases l:k.isAgg=true
 .cases k<;>simp[V.isAgg]at l;rename_i cs;obtain⟨u,rfl,z,D,q⟩:=hx.fb.agg;obtain⟨H,rfl,K,L,r⟩:=j.fb.agg;congr 1;apply Array.ext av;intro i t p;have d:cs[i]?=some cs[i]:=bR;exact VR.exact (f _ (bT d)) (q i _ _ d (by simp[t])) (r i _ _ d (by simp[p]))
 .have:k.cells=[k]:=by cases k<;>first|rfl|(simp[V.isAgg]at l)
  exact VR.exact (f k (by rw[this];simp)) hx j
def tw{g:aW}{c:V}{x:Value}(d:c.exact=true)(hx:VR g c x)(n:Nat):Instr.sameBits n x x=true:=by
 cases c<;>simp[V.exact]at d
 .rw[hx.fb.int];cases n<;>simp[Instr.sameBits]
 .rw[hx.fb.bool];cases n<;>simp[Instr.sameBits]
 .rw[hx.fb.str];cases n<;>simp[Instr.sameBits,bytes_beq]
def Ee{g:aW}{k:V}{x:Value}(d:∀c∈k.cells,c.exact=true)(hx:VR g k x):Instr.sameBits 10000 x x=true:=by
 by_cases f:k.isAgg=true
 .cases k<;>simp[V.isAgg]at f;rename_i cs;obtain⟨r,rfl,t,z,u⟩:=hx.fb.agg;simp only[Instr.sameBits,l4,hA,bP];rintro⟨p,q⟩ E;obtain⟨i,y,e⟩:=iL.1 E;simp only[List.getElem_zip,eg]at e;obtain⟨rfl,rfl⟩:=e;have j:i<r.toList.length:=by simpa using y
  have l:cs[i]?=some (cs[i]'(by rw[<-t];simpa using j)):=bR;exact tw (d _ (bT l)) (u i _ _ l bR) _
 .have:k.cells=[k]:=by cases k<;>first|rfl|(simp[V.isAgg]at f)
  exact tw (d k (by rw[this];simp)) hx _
def AC{d:List CK}{f:List V}:∀{l:List (V×V)} {i j:Nat},nb d f l i=some (some j)->∃u v,l[j-i]?=some (u,v)/\dJ d f u.cells=some true
 |[],i,j,h=>by simp[nb]at h
 |(a,b)::l,i,j,h=>by
  have t:=(wJ h).1;simp only[nb]at h;split at h
  next p=>simp at h;subst h;exact⟨a,b,bR,p⟩
  .obtain⟨u,v,q,r⟩:=AC h;have:=(wJ h).1;exact⟨u,v,by rw[show j-i=(j-(i+1))+1 from av];simpa using q,r⟩
  .cases h
def Kx{k u:V}(h:k.cells=u.cells)(d:k.isAgg=u.isAgg):k=u:=by
 by_cases j:k.isAgg=true
 .rw[j]at d;cases k<;>simp[V.isAgg]at j;cases u<;>simp[V.isAgg]at d;simpa[V.cells]using h
 .have f:k.isAgg=false:=by simpa using j
  have l:k.cells=[k]:=by cases k<;>first|rfl|(simp[V.isAgg]at f)
  have p:u.cells=[u]:=by rw[f]at d;cases u<;>first|rfl|(simp[V.isAgg]at d)
  rw[l,p]at h;simpa using h
def vZ{l:List CK}{ag:Bool}{k:V}{kvs:List (V×V)}{j:Nat}(h:rL l ag k kvs=some (some j)):∃v,kvs[j]?=some (k,v)/\∀c∈k.cells,c.exact=true:=by
 unfold rL at h;split at h
 next d=>
  obtain⟨u,v,f,p⟩:=AC h;obtain⟨q,r⟩:=wM p;have t:u.isAgg=ag:=by
   have:=bP.1 d.2.2 (u,v) (bT f);simp only[aX]at this;exact eq_of_beq this.2
  have:=Kx q (by rw[d.2.1,t]);subst this;exact⟨v,by simpa using f,r⟩
 .cases h
def C2(P:Program)(t:TypeId):Option V:=((P.info? t).bind (·.zero)).bind Ad
def sD:Operand->Bool
 |.const (.slice none 0 0)=>true
 |_=>false
def PO(P:Program)(GL:ak)(hs:List Nat)(o:Oper):Option HX:=
 match o.op with
 |.alloc t=>if o.dst.any hs.contains then(zeroV P t).map .AB else none
 |.box t x=>if o.dst.any hs.contains then match nk P t,eC GL x with
  |some n,some x=>some (.dZ n x)
  |_,_=>none
  else none
 |.makeMap _ none=>some .mkMap
 |.lookup t m k ok=>match P.underlying t with
  |some (.map d et)=>match xS P d,fq P d,C2 P et,eC GL m,eC GL k with
   |some f,some ag,some z,some m,some k=>some (.lookup f ag z ok m k)
   |_,_,_,_,_=>none
  |_=>none
 |.mapUpdate t m k v=>match P.underlying t with
  |some (.map d _)=>match xS P d,fq P d,eC GL m,eC GL k,eC GL v with
   |some f,some ag,some m,some k,some v=>some (.sA f ag m k v)
   |_,_,_,_,_=>none
  |_=>none
 |.mapEntry t m k=>match P.underlying t with
  |some (.map d et)=>match xS P d,fq P d,C2 P et,eC GL m,eC GL k with
   |some f,some ag,some z,some m,some k=>some (.mapEntry f ag z m k)
   |_,_,_,_,_=>none
  |_=>none
 |.entryStore _ m st v=>match eC GL m,eC GL st,eC GL v with
  |some m,some st,some v=>some (.entryStore m st v)
  |_,_,_=>none
 |.binOp op t x y _=>match P.underlying t with
  |some (.slice _)=>if sD y=true then match op,eC GL x with
   |.eql,some x=>some (.wK false x)
   |.neq,some x=>some (.wK true x)
   |_,_=>none
   else none
  |_=>none
 |_=>none
section
variable {g:aW}{s:St}{a:Act}{w:World}{o:Oper}{hs:List Nat}
def Cr(GL:ak)(P:Program)(o:Oper)(g:aW)(s:St)(a:Act)(w:World)(l:List (V×Bool×aJ)):Prop:=
 ∃p∈l,∃x d f,((execOp a.eval o).run P w=.ok (.value x) d\/((execOp a.eval o).run P w=.ok .skip d/\x=undef))/\Rel GL f (s.ct p.2.2) a d/\Step g w f d/\VR f p.1 x/\(p.2.1=true->∀l,dS f d l p.1 x)
def C3{v:V}(h:¬v.dW=true):∀i j k,v≠.A i j k:=by
 rintro i j k rfl;exact h rfl
def Hr{t:TypeId}{zs:List V}(hop:o.op=.alloc t)(h:zeroV P t=some zs)(R:Rel GL g s a w):Cr GL P o g s a w [(.bp s.E.Y 0,false,s.E.cM zs)]:=by
 obtain⟨z,d,f,j,u⟩:=oj h g;obtain⟨l,p,q,r⟩:=zD (t:=t) R f j;refine⟨_,bg.2 rfl,_,_,l,.inl ?_,p,q,r,bR⟩;unfold execOp;rw[hop];simp[Instr.alloc,lK d,qD]
def MC{t:TypeId}{n:Nat}{x:Operand}{y:eO}(hop:o.op=.box t x)(h:eC GL x=some y)(d:jR n (s.val y)=true)(R:Rel GL g s a w):Cr GL P o g s a w [(.bp s.E.Y 0,false,s.E.cM (s.val y).cells)]:=by
 obtain⟨f,r,c3⟩:=pG (cv R h) (fh d).2;obtain⟨j,l,p,q⟩:=zD (t:=t) R f c3;refine⟨_,bg.2 rfl,_,_,j,.inl ?_,l,p,q,bR⟩;unfold execOp;rw[hop];simp[Instr.box,qD]
def Ky{t:TypeId}(hop:o.op=.makeMap t none)(R:Rel GL g s a w):Cr GL P o g s a w [(.mp s.E.Y,false,s.E.hI)]:=by
 obtain⟨d,f,j,l⟩:=PN R;refine⟨_,bg.2 rfl,_,_,d,.inl ?_,f,j,l,bR⟩;unfold execOp;rw[hop];simp only[Sem.run_bind,show(Instr.makeMap t (Option.map a.eval none)).run P w=.ok (.map (some w.heap.size)) (w.alloc (.map #[] 0))from rfl,Result.andThen_ok,Sem.run_pure]
def MD(R:Rel GL g s a w){u:V}{x:Value}{kvs:List (V×V)}(hx:VR g u x)(h:Ft s.E u=some kvs):∃es c,(x=.map none/\es=#[]\/∃b,x=.map (some b)/\w.heap[b]?=some (.map es c))/\es.size=kvs.length/\
 (∀(j:Nat) u e,kvs[j]?=some u->es[j]?=some e->VR g u.1 e.key)/\∀(j:Nat) u e,kvs[j]?=some u->es[j]?=some e->VR g u.2 e.val:=by
 cases hx<;>simp only[Ft]at h<;>first|(cases h;done)|skip
 next id b hb=>
  split at h
  next t p=>cases h;obtain⟨K,o,d,f,y,_,es,c,rfl,l⟩:=R.heap.map id _ p;cases (d.symm.trans hb);exact⟨es,c,.inr ⟨_,rfl,y⟩,l.len,l.key,l.val⟩
  .cases h
 .cases h;exact⟨#[],0,.inl ⟨rfl,rfl⟩,rfl,bR,bR⟩
 next L N b es c z D Q q r=>
  split at h
  next H=>
   cases h;refine⟨es,c,.inr ⟨_,rfl,(R.gA.e8 _ _ z).1⟩,by simp[D,H],λj u e d f=>?_,λj u e d f=>?_⟩
   .rw[lZ]at d;exact q j _ e d.1 f
   .rw[lZ]at d;exact r j _ e d.2 f
  .cases h
def xV{t:TypeId}{z:V}(h:C2 P t=some z)(g:aW)(w:World):∃zv,(zeroValue t).run P w=.ok zv w/\VR g z zv:=by
 unfold C2 at h;cases e:(P.info? t).bind (·.zero)with
 |none=>simp[e]at h
 |some zv=>
  simp only[e,gw]at h;exact⟨zv,lK e w,CR h g⟩
def AD{ok b:Bool}{v:V}{x:Value}(hx:VR g v x):VR g (i5 ok v b) (if ok then .tuple #[x,.bool b]else x):=by
 unfold i5;cases ok with
 |false=>exact hx
 |true=>
  refine .hE _ _ rfl (λj c y d f=>?_)
  match j with
  |0=>simp at d f;subst d f;exact hx
  |1=>simp at d f;subst d f;exact .bool b
  |j+2=>simp at d
def wN{d:TypeId}{t:List CK}{ag:Bool}{u:V}{x:Value}{kvs:List (V×V)}{es:Array MapEntry}{r:Option Nat}(y:xS P d=some t)(z:fq P d=some ag)(hx:VR g u x)
 (p:rL t ag u kvs=some r) (hlen:es.size=kvs.length) (q:∀(j:Nat) u e,kvs[j]?=some u->es[j]?=some e->VR g u.1 e.key):
 (∀em w,(Instr.checkKey em 10000 d x).run P w=.ok () w)/\∀w,(Instr.findKey d x es.toList).run P w=.ok (r.map λj=>(j,((es[j]?).map (·.val)).getD undef)) w:=by
 unfold rL at p;split at p
 next f=>
  have l:fq P d=some u.isAgg:=by rw[f.2.1];exact z
  refine⟨λem w=>zg y hx f.1 l em w,λw=>?_⟩;have:=AA (P:=P) y hx f.1 l w (kvs:=kvs) (es:=es.toList) (r:=r) (by simpa using hlen) (λj u e D H=>q j u e D (by simpa using H)) (by rw[f.2.1];exact f.2.2) p;simpa using this
 .cases p
def Hs{t y et:TypeId}{K:List CK}{ag ok:Bool}{z:V}{mo L:Operand}{m k:eO}{l:List (V×Bool×aJ)}(hop:o.op=.lookup t mo L ok)(a4:P.underlying t=some (.map y et))(a5:xS P y=some K)(aA:fq P y=some ag)
 (aB:C2 P et=some z) (hm:eC GL mo=some m) (aC:eC GL L=some k) (d:HX.act s (.lookup K ag z ok m k)=some l) (R:Rel GL g s a w):Cr GL P o g s a w l:=by
 have hX:=cv R hm;have a6:=cv R aC;simp only[HX.act]at d;split at d
 next kvs f=>
  have aD:∀i j D,s.val m≠.A i j D:=by intro i j D e;rw[e]at f;simp[Ft]at f
  obtain⟨u,c,oS,hlen,ac,ad⟩:=MD R (hX.oh aD) f;have a0:∀r,rL K ag (s.val k) kvs=some r->∀i j D,s.val k≠.A i j D:=by
   intro r hr i j D e;exact WG
  have run:∀r,rL K ag (s.val k) kvs=some r->∀x b,(∀p,(zeroValue et).run P w=.ok p w->(match r with|some j=>(((u[j]?).map (·.val)).getD undef,true)|none=>(p,false))=(x,b))->
   (execOp a.eval o).run P w=.ok (.value (if ok then .tuple #[x,.bool b]else x)) w:=by
   intro r hr x b q;obtain⟨a7,a8⟩:=wN a5 aA (a6.oh (a0 r hr)) hr hlen ac;obtain⟨p,N,_⟩:=xV aB g w;have q:=q p N;unfold execOp;rw[hop];refine yz ?_;have fin:∀(m:Sem Value),m=(do
    Instr.checkKey u.isEmpty 10000 y (a.eval L)
    let(v,a1)<-match<-Instr.findKey y (a.eval L) u.toList with
     |some (_,v)=>pure (v,true)
     |none=>pure (<-zeroValue et,false)
    pure (if ok then .tuple #[v,.bool a1]else v))->m.run P w=.ok (if ok then .tuple #[x,.bool b]else x) w:=by
    rintro _ rfl;simp only[Sem.run_bind,a7,Result.andThen_ok,a8];cases r with
    |none=>obtain⟨rfl,rfl⟩:=Prod.mk.inj q;simp only[jp,Sem.run_bind,N,Result.andThen_ok,Sem.run_pure]
    |some j=>obtain⟨rfl,rfl⟩:=Prod.mk.inj q;simp only[bG,Sem.run_bind,Sem.run_pure,Result.andThen_ok]
   unfold Instr.lookup;rw[Sem.run_bind,run_underlying a4,Result.andThen_ok];rcases oS with⟨H,a2⟩|⟨bo,H,a3⟩
   .rw[H];subst a2;exact fin _ rfl
   .rw[H];simp only[bind_assoc];rw[Sem.run_bind,r0 a3,Result.andThen_ok];exact fin _ rfl
  split at d
  next j Q=>
   obtain⟨v,ai,_⟩:=vZ Q;simp only[ai,bG,co]at d;subst d;have ab:j<u.size:=by rw[hlen];exact bZ ai
   refine⟨_,bg.2 rfl,_,w,g,.inl (run _ Q u[j].val true (λp _=>by simp[ab])),R.same,Step.refl g w,AD (ad j _ u[j] ai (by simp[ab])),bR⟩
  next Q=>cases d;obtain⟨p,N,a9⟩:=xV aB g w;refine⟨_,bg.2 rfl,_,w,g,.inl (run _ Q p false (λbi h=>by rw[N]at h;injection h with h;rw[h])),R.same,Step.refl g w,AD a9,bR⟩
  .cases d
 .cases d
def ER.mp{id b:Nat}{x:Value}(h:ER g (.mp id) x)(hb:g.hb id=some b):x=.map (some b):=by
 cases h with|mp _ d h=>obtain rfl:=au (h.symm.trans hb);rfl
def stays{k:V}{x y:Value}(d:∀c∈k.cells,c.exact=true)(hx:VR g k x)(f:VR g k y)(w:World):(Instr.keyThatStays y x).run P w=.ok x w:=by
 have:=MB d hx f;subst this;unfold Instr.keyThatStays;rw[ax (Ee d hx)];rfl
def nM{f:List CK}{ag:Bool}{u:V}{kvs:List (V×V)}{r:Option Nat}(hr:rL f ag u kvs=some r):∀i j d,u≠.A i j d:=by
 intro i j d e;exact WG
def Ht{t H et:TypeId}{ai:List CK}{ag:Bool}{mo aA aB:Operand}{m k v:eO}{l:List (V×Bool×aJ)}(hop:o.op=.mapUpdate t mo aA aB)(aC:P.underlying t=some (.map H et))(aD:xS P H=some ai)(z:fq P H=some ag)
 (hm:eC GL mo=some m) (a0:eC GL aA=some k) (a1:eC GL aB=some v) (d:HX.act s (.sA ai ag m k v)=some l) (R:Rel GL g s a w):Cr GL P o g s a w l:=by
 have hX:=cv R hm;have r:=cv R a0;have y:=cv R a1;simp only[HX.act]at d;split at d
 next id a2=>
  rw[a2]at hX;split at d
  next kvs K=>
   split at d
   .cases d
   next a3=>
    replace y:=y.oh (C3 a3);obtain⟨b,_,dV,a4,hb,_,L,c,rfl,f⟩:=R.heap.map id _ K;have D:a.eval mo=.map (some b):=hX.mp dV;split at d
    next j p=>
     cases d;obtain⟨N,Q⟩:=wN aD z (r.oh (nM p)) p f.len f.key;obtain⟨u,a5,hex⟩:=vZ p;have a6:j<L.size:=by rw[f.len];exact bZ a5
     have ab:L[j]?=some L[j]:=by simp[a6]
     have q:=r.oh (nM p);obtain⟨ac,ad⟩:=R.eM hb a4 dV (f.set (k:=s.val k) (v:=s.val v) ab q y);refine⟨_,bg.2 rfl,undef,_,g,.inr ⟨?_,rfl⟩,ac,ad,.qr,bR⟩;unfold execOp;rw[hop];simp only[Instr.mapUpdate,Sem.run_bind,run_underlying aC,Result.andThen_ok,D,r0 hb,N,Q,bG,ab,bf,stays hex q (f.key j _ _ a5 ab),ur hb,Sem.run_pure]
    next p=>cases d;obtain⟨N,Q⟩:=wN aD z (r.oh (nM p)) p f.len f.key;have q:=r.oh (nM p);obtain⟨ac,ad⟩:=R.eM hb a4 dV (f.push (k:=s.val k) (v:=s.val v) q y);refine⟨_,bg.2 rfl,undef,_,g,.inr ⟨?_,rfl⟩,ac,ad,.qr,bR⟩;unfold execOp;rw[hop];simp only[Instr.mapUpdate,Sem.run_bind,run_underlying aC,Result.andThen_ok,D,r0 hb,N,Q,jp,ur hb,Sem.run_pure]
    .cases d
  .cases d
 .cases d
def IZ{v:V}{x:Value}(hx:VR g v x)(n:Nat):VR g (.hE [v,.int .i64 n]) (.tuple #[x,goInt n]):=by
 refine .hE _ _ rfl (λj c y d f=>?_)
 match j with
 |0=>simp at d f;subst d f;exact hx
 |1=>simp at d f;subst d f;exact .int _ _
 |j+2=>simp at d
def Ef{t ad et:TypeId}{aD:List CK}{ag:Bool}{z:V}{mo D:Operand}{m k:eO}{l:List (V×Bool×aJ)}(hop:o.op=.mapEntry t mo D)(a0:P.underlying t=some (.map ad et))(a1:xS P ad=some aD)(Q:fq P ad=some ag)
 (a7:C2 P et=some z) (hm:eC GL mo=some m) (a2:eC GL D=some k) (f:HX.act s (.mapEntry aD ag z m k)=some l) (R:Rel GL g s a w):Cr GL P o g s a w l:=by
 have hX:=cv R hm;have H:=cv R a2;simp only[HX.act]at f;split at f
 next id a3=>
  rw[a3]at hX;split at f
  next kvs ai=>
   obtain⟨b,_,dV,a4,hb,_,q,c,rfl,d⟩:=R.heap.map id _ ai;have ab:a.eval mo=.map (some b):=hX.mp dV;split at f
   next j p=>
    obtain⟨aA,aB⟩:=wN a1 Q (H.oh (nM p)) p d.len d.key;obtain⟨u,K,hex⟩:=vZ p;simp only[K,bG,co]at f;subst f;have a5:j<q.size:=by rw[d.len];exact bZ K
    have y:q[j]?=some q[j]:=by simp[a5]
    have r:=H.oh (nM p);have ac:=d.val j _ _ K y;obtain⟨L,N⟩:=R.eM hb a4 dV (d.set (k:=s.val k) (v:=u) y r ac);have aC:(q.modify j λe=>{e with key:=a.eval D})=q.modify j λe=>{e with key:=a.eval D,val:=q[j].val}:=by
     exact WK
    rw[<-aC]at L N;refine⟨_,bg.2 rfl,.tuple #[q[j].val,goInt (j:Nat)],_,g,.inl ?_,L,N,IZ ac j,bR⟩;unfold execOp;rw[hop];simp only[Instr.mapEntry,Sem.run_bind,run_underlying a0,Result.andThen_ok,ab,r0 hb,aA,aB,bG,y,bf,stays hex r (d.key j _ _ K y),ur hb,Sem.run_pure,d.born j _ y]
   next p=>cases f;obtain⟨aA,aB⟩:=wN a1 Q (H.oh (nM p)) p d.len d.key;have r:=H.oh (nM p);obtain⟨a8,a9,a6⟩:=xV a7 g w;obtain⟨L,N⟩:=R.eM hb a4 dV (d.push (k:=s.val k) (v:=z) r a6);refine⟨_,bg.2 rfl,.tuple #[a8,goInt (kvs.length:Nat)],_,g,.inl ?_,L,N,IZ a6 _,bR⟩;unfold execOp;rw[hop];simp only[Instr.mapEntry,Sem.run_bind,run_underlying a0,Result.andThen_ok,ab,r0 hb,aA,aB,jp,a9,ur hb,Sem.run_pure];rw[d.Ml,d.len]
   .cases f
  .cases f
 .cases f
def AE{t:TypeId}{mo so r:Operand}{m st v:eO}{l:List (V×Bool×aJ)}(hop:o.op=.entryStore t mo so r)
 (hm:eC GL mo=some m) (L:eC GL so=some st) (N:eC GL r=some v) (d:HX.act s (.entryStore m st v)=some l) (R:Rel GL g s a w):Cr GL P o g s a w l:=by
 have hX:=cv R hm;have hS:=cv R L;have z:=cv R N;simp only[HX.act]at d;split at d
 next id j Q ab=>
  rw[Q]at hX;obtain⟨aD,ac⟩:=mW ab hS;split at d
  next kvs D=>
   split at d
   .cases d
   next ad=>
    replace z:=z.oh (C3 ad);obtain⟨b,_,dV,aC,hb,_,f,c,rfl,q⟩:=R.heap.map id _ D;have ai:a.eval mo=.map (some b):=hX.mp dV;obtain⟨p,E,rfl⟩:=dn d;obtain⟨pk,a0⟩:=p;have y:j<f.size:=by rw[q.len];exact bZ E
    have H:f[j]?=some f[j]:=by simp[y]
    obtain⟨aA,aB⟩:=R.eM hb aC dV (q.set (k:=pk) (v:=s.val v) H (q.key j _ _ E H) z);have K:(f.modify j λe=>{e with val:=a.eval r})=f.modify j λe=>{e with key:=f[j].key,val:=a.eval r}:=by
     exact WK
    rw[<-K]at aA aB;have u:f.findIdx? (λe=>(e.born:Int)==(j:Int))=some j:=by
     rw[Array.findIdx?_eq_some_iff_getElem];refine⟨y,by rw[q.born j _ H];simp,λi hi=>?_⟩;rw[q.born i f[i] bR];simp;omega
    refine⟨_,bg.2 rfl,undef,_,g,.inr ⟨?_,rfl⟩,aA,aB,.qr,bR⟩;unfold execOp;rw[hop];simp only[Instr.entryStore,Sem.run_bind,Result.andThen_ok,ai,r0 hb,ac,asInt,asIntOf,Sem.run_pure,u,ur hb]
  .cases d
 .cases d
def Cs(d:Nat)(t e:TypeId)(base:Option Addr)(len cap:Nat)(w:World)(f:P.underlying t=some (.slice e)):(Op.equalIn (d+1) t (.slice base len cap) (.slice none 0 0)).run P w=.ok base.isNone w:=by
 cases base<;>simp[Op.equalIn,run_underlying f]
def zh{y:Operand}(h:sD y=true):a.eval y=.slice none 0 0:=by
 unfold sD at h;split at h
 .rfl
 .cases h
def C4{t e:TypeId}{neg:Bool}{op:BinOp}{x y:Operand}{z:TypeId}{q:eO}{l:List (V×Bool×aJ)}(hop:o.op=.binOp op t x y z)(D:op=if neg then .neq else .eql)(H:P.underlying t=some (.slice e))(K:sD y=true)
 (hx:eC GL x=some q) (j:HX.act s (.wK neg q)=some l) (R:Rel GL g s a w):Cr GL P o g s a w l:=by
 have hX:=cv R hx;have d:∀(base:Option Addr)(len cap:Nat),a.eval x=.slice base len cap->(execOp a.eval o).run P w=.ok (.value (.bool (if neg then !base.isNone else base.isNone))) w:=by
  intro base len cap L;unfold execOp;rw[hop,D];refine yz ?_;rw[zh K,L];exact oY neg (by cases neg<;>simp[eqGuard]) rfl rfl (Cs 9999 t e base len cap w H)
 have put:∀b,((V.bool b),false,s.E)∈l->(execOp a.eval o).run P w=.ok (.value (.bool b)) w->Cr GL P o g s a w l:=λb hm N=>
  ⟨_,hm,_,w,g,.inl N,R.same,Step.refl g w,.bool b,bR⟩
 simp only[HX.act]at j;split at j
 next p=>rw[p]at hX;cases j;refine put (!neg) bR ?_;rw[d none 0 0 hX.aP];cases neg<;>rfl
 next sz id off len c p=>
  rw[p]at hX;cases j;refine put neg bR ?_;rcases hX.ms with⟨b,_,f,_⟩|⟨_,f,_⟩
  .rw[d _ _ _ f];cases neg<;>rfl
  .cases f
 next sz u r p=>
  rw[p]at hX;cases j;refine put neg bR ?_;rcases hX.sl with⟨f,_⟩|⟨Q,cap,ab,f,_⟩
  .cases f
  .rw[d _ _ _ f];cases neg<;>rfl
 next sz p=>
  rw[p]at hX;cases j;rcases hX.sl with⟨_,f⟩|⟨Q,cap,ab,f,_⟩
  .refine put (!neg) bR ?_;rw[d none 0 0 f];cases neg<;>rfl
  .refine put neg bR ?_;rw[d _ _ _ f];cases neg<;>rfl
 .cases j
def Yi{K:HX}{l:List (V×Bool×aJ)}(h:PO P GL hs o=some K)(d:K.act s=some l)(R:Rel GL g s a w):Cr GL P o g s a w l:=by
 unfold PO at h;split at h
 next t hop=>
  split at h
  .obtain⟨zs,ad,rfl⟩:=dn h;simp only[HX.act,co]at d;subst d;exact Hr hop ad R
  .cases h
 next t x hop=>
  split at h
  .split at h
   next n y aC D=>
    cases h;simp only[HX.act]at d;split at d
    next ai=>cases d;exact MC hop D ai R
    .cases d
   .cases h
  .cases h
 next t hop=>cases h;simp only[HX.act,co]at d;subst d;exact Ky hop R
 next t m k ok hop=>
  split at h
  next L et q=>
   split at h
   next N ag z H Q f j p r u=>cases h;exact Hs hop q f j p r u d R
   .cases h
  .cases h
 next t m k v hop=>
  split at h
  next L et q=>
   split at h
   next N ag H Q aA f j p r u=>cases h;exact Ht hop q f j p r u d R
   .cases h
  .cases h
 next t m k hop=>
  split at h
  next L et q=>
   split at h
   next N ag z H Q f j p r u=>cases h;exact Ef hop q f j p r u d R
   .cases h
  .cases h
 next t m st v hop=>
  split at h
  next H aB aA f j p=>cases h;exact AE hop f j p d R
  .cases h
 next op t x y aD hop=>
  split at h
  next e ab=>
   split at h
   next D=>
    split at h
    next ac hx=>cases h;exact C4 (neg:=false) hop rfl ab D hx d R
    next ac hx=>cases h;exact C4 (neg:=true) hop rfl ab D hx d R
    .cases h
   .cases h
  .cases h
 .cases h
end
end
end Go.Bx
