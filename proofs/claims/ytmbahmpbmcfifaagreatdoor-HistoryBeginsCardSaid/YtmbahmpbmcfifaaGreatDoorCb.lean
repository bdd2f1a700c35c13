/- Lemmas for HistoryBegins. -/
import Derived.Test.YtmbahmpbmcfifaaGreatDoorCa
import Derived.Carry
import Derived.Deep.LoopGhost
import Derived.Laws.Build
noncomputable section
set_option linter.all false
namespace Go.Bx
section
variable {GL:Nat->Option (List V)}{P:Program}
def Hn{g:aY}{neg:Bool}{t:TypeId}{f:List CK}{s:St}{v:V}{x y:Value}{q u:Operand}{A bo:eL}{w:World}(Q:gJ P 8 t=some f)(R:fm P t=some true)
 (ab:P.eqGuardType P.depth t=false) (hx:ER g (s.val A) x) (D:ER g (s.val bo) y) (h:dv s (.eqc neg f A bo)=some v):
 ∃z,(do eqGuard (if neg then .neq else .eql) t q u x y;binOp (if neg then .neq else .eql) t x y:Sem Value).run P w=.ok z w/\ER g v z:=by
 simp only[dv]at h;split at h
 next a b H K=>
  rw[H]at hx;rw[K]at D;cases l:dI f a b with
  |none=>simp[l]at h
  |some r=>
   simp[l]at h;subst h;obtain⟨L,rfl,ac,aB,ad⟩:=hx.agg;obtain⟨N,rfl,ai,aC,aA⟩:=D.agg;have d:=tw (g:=g) w 8 (9999+1) t f Q av a b L.toList N.toList r ⟨by simp[ac],λj c x o p=>ad j c x o (by simpa using p)⟩ ⟨by simp[ai],λj c x o p=>aA j c x o (by simpa using p)⟩ l;simp only[x4,R,bP,Array.toArray_toList]at d;exact⟨_,oU neg (run_eqGuard_agg w _ t q u L N ab) rfl rfl d,VR.e0 (.bool _)⟩
 .cases h
def kU(GL:aj):Option Operand->Option (Option eL)
 |none=>some none
 |some x=>(eE GL x).map some
def run_sliceBound{P:Program}{a:IntKind}{k y:Nat}(h:k<=y)(c:BoundsCode)(w:World):(Instr.sliceBound (.int a k) y c).run P w=.ok k w:=by
 simp only[Instr.sliceBound,asIntOf,Sem.run_bind,Sem.run_pure,Result.andThen_ok];rw[ax ⟨av,by exact_mod_cast h⟩];simp
def lw{g:aY}{s:St}{a:Act}{w:World}(R:Rel GL g s a w){lo hi:Option Operand}{d f:Option eL}{len cap l h:Nat}{isS:Bool}(j:len<=cap)
 (h1:kU GL lo=some d) (h2:kU GL hi=some f) (hc:tu s len d f=some (l,h)):
 (Instr.sliceBounds isS len cap (lo.map a.eval) (hi.map a.eval) none).run P w=.ok (l,h,cap) w/\l<=h/\h<=len:=by
 unfold tu at hc;exact bb1
def pS{g:aY}{s:St}{a:Act}{w:World}(R:Rel GL g s a w){lo hi:Option Operand}{d f:Option eL}{len cap l h:Nat}{isS:Bool}(j:len<=cap)
 (h1:kU GL lo=some d) (h2:kU GL hi=some f) (hc:ud s len cap d f=some (l,h)):
 (Instr.sliceBounds isS len cap (lo.map a.eval) (hi.map a.eval) none).run P w=.ok (l,h,cap) w/\l<=h/\h<=cap:=by
 unfold ud at hc;exact bb1
def VR.sub{g:aY}{sz:Nat}{xs:List V}{a:Addr}{cap:Nat}{ys:Nat->Value}(y:a.spot=none)(z:xs.length<=cap)
 (o:∀(i:Nat) v,xs[i]?=some v->v.cells.length=sz) (p:∀k,k<xs.length*sz->g.bJ a.block (a.off+k)=.g3 (ys k))
 (q:∀(i:Nat) v (j:Nat) c,xs[i]?=some v->v.cells[j]?=some c->c.one=true)
 (r:∀(i:Nat) v (j:Nat) c,xs[i]?=some v->v.cells[j]?=some c->VR g c (ys (i*sz+j))) {l h m:Nat} (A:l<=h) (h2:h<=xs.length) (t:h-l<=m):
 VR g (.sl sz ((xs.drop l).take (h-l))) (.slice (some (cl a.block (a.off+l*sz))) (h-l) m):=by
 have hlen:((xs.drop l).take (h-l)).length=h-l:=by simp;omega
 have get:∀(i:Nat) v,((xs.drop l).take (h-l))[i]?=some v->xs[l+i]?=some v/\i<h-l:=by
  intro i v e;exact Xb
 have:=VR.sl (g:=g) sz ((xs.drop l).take (h-l)) (cl a.block (a.off+l*sz)) m (λk=>ys (l*sz+k)) rfl (by rw[hlen];exact t)
  (λi v e=>o _ v (get i v e).1) (λk u=>by
   rw[hlen]at u;have hle:l*sz+(h-l)*sz<=xs.length*sz:=by rw[<-dJ];exact cj _ av
   have:=p (l*sz+k) av;simpa[cl,cn]using this) (λi v j c d f=>q _ v j c (get i v d).1 f) (λi v j c d f=>by
   have:=r _ v j c (get i v d).1 f;rw[dJ,cn]at this;exact this)
 rwa [hlen]at this
def FK{g:aY}{s:St}{a:Act}{w:World}(R:Rel GL g s a w){t:TypeId}{x lo q}{r:eL}{d f:Option eL}{v:V}
 (A:P.underlying t=some .string) (h0:eE GL x=some r) (D:kU GL lo=some d) (h2:kU GL q=some f) (E:dv s (.Eu r d f)=some v):
 ∃y,(Instr.sliceAt t (a.eval x) (lo.map a.eval) (q.map a.eval) none).run P w=.ok y w/\ER g v y:=by
 have hx:=cv R h0;simp only[dv]at E;split at E
 next l H=>
  rw[H]at hx;cases o:tu s l.length d f with
  |none=>simp[o]at E
  |some p=>
   obtain⟨i,j⟩:=p;simp[o]at E;subst E;obtain⟨hb,K,L⟩:=lw (P:=P) (isS:=false) R (an l.length) D h2 o;have u:=hx.str;rw[u];refine⟨.string ⟨((l.drop i).take (j-i)).toArray⟩,?_,VR.e0 (.str _)⟩;have z:(⟨l.toArray⟩:ByteArray).size=l.length:=by simp[ByteArray.size]
   simp only[Instr.sliceAt,Instr.slice,Sem.run_bind,run_underlying A,Result.andThen_ok,cG,bK,cH,z,hb,Sem.run_pure];congr 2;apply ByteArray.ext;simp[mX]
 .cases E
def HI{g:aY}{s:St}{a:Act}{w:World}(R:Rel GL g s a w){t e:TypeId}{sz:Nat}{x lo Q}{ad:eL}{z A:Option eL}{v:V}
 (a0:P.underlying t=some (.slice e)) (a1:ng P e=some sz) (h0:eE GL x=some ad) (K:kU GL lo=some z) (h2:kU GL Q=some A)
 (E:dv s (.cut sz ad z A)=some v):
 ∃y,(Instr.sliceAt t (a.eval x) (lo.map a.eval) (Q.map a.eval) none).run P w=.ok y w/\ER g v y:=by
 have hx:=cv R h0;simp only[dv]at E
 .skip;have o:∀(base:Option Addr)(len cap l h:Nat),(Instr.sliceBounds true len cap (lo.map a.eval) (Q.map a.eval) none).run P w=.ok (l,h,cap) w->
   (Instr.sliceAt t (.slice base len cap) (lo.map a.eval) (Q.map a.eval) none).run P w=.ok (.slice (if cap=l then base else base.map (·.add (l*sz))) (h-l) (cap-l)) w:=by
   intro base len cap l h hb;simp only[Instr.sliceAt,Instr.slice,Sem.run_bind,run_underlying a0,Result.andThen_ok,hb,fh a1,Sem.run_pure]
  split at E
  next ai aA L=>
   split at E
   next N=>
    subst N;cases f:tu s aA.length z A with
    |none=>simp[f]at E
    |some p=>
     obtain⟨i,j⟩:=p;simp[f]at E;subst E;rw[L]at hx;rcases hx.sl with⟨rfl,r⟩|⟨a2,cap,a3,r,ab,u,a4,aB,a5,a6⟩
     .obtain⟨hb,D,d⟩:=lw (P:=P) (isS:=true) R (an 0) K h2 f;simp at d;subst d;have:i=0:=av;subst this;rw[r,o none 0 0 0 0 hb];exact⟨_,rfl,by simpa using VR.e0 (VR.slnil (g:=g) sz)⟩
     .obtain⟨hb,D,d⟩:=lw (P:=P) (isS:=true) R u K h2 f;rw[r,o _ _ _ _ _ hb];refine⟨_,rfl,?_⟩;by_cases H:cap=i
      .subst H;have ac:j=cap:=av;subst ac;have:(aA.drop j).take (j-j)=[]:=bT;rw[ax rfl,this];have:=VR.sl (g:=g) sz [] a2 (j-j) a3 ab bT bT bT bT bT;simpa using this.e0
      .rw[al H];simp only[bF,add_eq ab];exact(VR.sub ab u a4 aB a5 a6 D d av).e0
   .cases E
  next L=>
   cases f:tu s 0 z A with
   |none=>simp[f]at E
   |some p=>
    obtain⟨i,j⟩:=p;simp[f]at E;subst E;rw[L]at hx;obtain⟨hb,D,d⟩:=lw (P:=P) (isS:=true) R (an 0) K h2 f;simp at d;subst d;have:i=0:=av;subst this;rw[hx.aP,o none 0 0 0 0 hb];exact⟨_,rfl,by simpa using VR.e0 (VR.aP (g:=g))⟩
  next ai id off n c L=>
   split at E
   next N=>
    subst N;cases f:ud s n c z A with
    |none=>simp[f]at E
    |some p=>
     obtain⟨i,j⟩:=p;simp[f]at E;subst E;rw[L]at hx;rcases hx.ms with⟨b,aC,r,u⟩|⟨rfl,rfl,q,r,aD⟩
     .obtain⟨hb,D,d⟩:=pS (P:=P) (isS:=true) R u K h2 f;rw[r,o _ _ _ _ _ hb];refine⟨_,rfl,?_⟩;by_cases H:c=i
      .subst H;have ac:j=c:=av;subst ac;rw[iN];exact VR.e0 (.FJ _ _ _ _ (by rintro a e;simp at e;subst e;rfl))
      .rw[al H];simp only[bF,add_eq (a:=⟨b,off,none⟩) rfl];exact VR.e0 (.ms _ _ _ _ _ b aC av)
     .obtain⟨hb,D,d⟩:=pS (P:=P) (isS:=true) R (an 0) K h2 f;simp at d;subst d;have:i=0:=av;subst this;rw[r,o q 0 0 0 0 hb];exact⟨_,rfl,VR.e0 (.FJ _ _ _ _ (by simpa using aD))⟩
   .cases E
  .cases E
def V.AN{v:V}(h:v.one=true):v.cells=[v]:=by cases v<;>first|rfl|(simp[V.one]at h)
def yP{lo:Option Operand}(h:kU GL lo=some none):lo=none:=by
 cases lo with
 |none=>rfl
 |some x=>cases e:eE GL x<;>simp[kU,e]at h
def FL{g:aY}{s:St}{a:Act}{w:World}(R:Rel GL g s a w){t e:TypeId}{n:Nat}{x lo u}{D:eL}{v:V}
 (H:P.underlying t=some (.array n e)) (K:ng P e=some 1) (h0:eE GL x=some D) (L:kU GL lo=some none) (h2:kU GL u=some none)
 (E:dv s (.nL n D)=some v):
 ∃y,(Instr.sliceAt t (a.eval x) (lo.map a.eval) (u.map a.eval) none).run P w=.ok y w/\ER g v y:=by
 have hx:=cv R h0;obtain rfl:=yP L;obtain rfl:=yP h2;have run:∀(p:Addr),p.spot=none->(Instr.sliceAt t (.pointer (some p)) none none none).run P w=.ok (.slice (some p) n n) w:=by
  intro p l;have:(Instr.sureAddr (.pointer (some p))).run P w=.ok p w:=by simp[Instr.sureAddr]
  simp only[Instr.sliceAt,Sem.run_bind,run_underlying H,Result.andThen_ok,this,Instr.sliceBounds,fh K,pure_bind,Sem.run_pure];simp[add_eq l,cl];obtain⟨b,o,q⟩:=p;subst l;exact λ_=>rfl
 simp only[dv]at E;split at E
 next id o z=>cases E;rw[z]at hx;obtain⟨b,hb,r⟩:=hx.bp;simp only[jr,r];exact⟨_,run _ rfl,VR.e0 (.ms _ _ _ _ _ b hb (an _))⟩
 next cells z=>
  split at E
  next ac=>
   cases E;rw[z]at hx;obtain⟨p,N,r,l,u,A,Q⟩:=hx.ep;simp only[jr,r];refine⟨_,run _ l,?_⟩;have hlen:(cells.take n).length=n:=by rw[aG];omega
   have get:∀(i:Nat) v (j:Nat) c,(cells.take n)[i]?=some v->v.cells[j]?=some c->cells[i]?=some c/\j=0:=by
    intro i v j c d f;rw[dB]at d;split at d
    .rw[V.AN (A _ _ d)]at f;cases j with
     |zero=>simp at f;subst f;exact⟨d,rfl⟩
     |succ j=>simp at f
    .cases d
   have:=VR.sl (g:=g) 1 (cells.take n) p n N l (by rw[hlen];exact an _) (λi v d=>by
    rw[dB]at d;split at d
    .rw[V.AN (A _ _ d)];rfl
    .cases d) (λk ad=>u k av) (λi v j c d f=>A _ _ (get i v j c d f).1) (λi v j c d f=>by
    obtain⟨ab,rfl⟩:=get i v j c d f;simpa using Q _ _ ab)
   rw[hlen]at this;exact this.e0
  .cases E
 .cases E
end
section
variable {GL:Nat->Option (List V)}{P:Program}
def VR.sublist{g:aY}{cs:List V}{xs:Array Value}(o:xs.size=cs.length)(d:∀(j:Nat) c,cs[j]?=some c->c.one=true)(f:∀(j:Nat) c y,cs[j]?=some c->xs[j]?=some y->VR g c y)
 (off n:Nat) (h:off+n<=cs.length):VR g (.agg ((cs.drop off).take n)) (.agg (xs.extract off (off+n))):=by
 refine .agg _ _ (by simp;omega) (λj c a=>?_) (λj c x a hx=>?_)
 .rw[dB]at a;split at a
  .rw[cY]at a;exact d _ c a
  .cases a
 .rw[dB]at a;split at a
  next l=>
   rw[cY]at a;rw[mW]at hx;split at hx
   .exact f _ c x a hx
   .cases hx
  .cases a
def yQ{g:aY}{t:TypeId}{ag:Bool}{n off:Nat}{cs:List V}{xs:Array Value}{v:V}(w:World)(d:fm P t=some ag)(l:ng P t=some n)
 (o:xs.size=cs.length) (p:∀(j:Nat) c,cs[j]?=some c->c.one=true) (f:∀(j:Nat) c y,cs[j]?=some c->xs[j]?=some y->VR g c y)
 (a:(if ag then(if off+n<=cs.length then some (V.agg ((cs.drop off).take n))else none)else cs[off]?)=some v):
 ∃y,(part t xs off).run P w=.ok y w/\ER g v y:=by
 cases ag with
 |true=>
  simp only[bP]at a;split at a
  next hle=>cases a;refine⟨.agg (xs.extract off (off+n)),?_,(VR.sublist o p f off n hle).e0⟩;simp[part,nq d,fh l]
  .cases a
 |false=>
  simp only[bK,cH]at a;have q:=b0 a;have hx:xs[off]?=some xs[off]:=bT;exact⟨xs[off],by simp only[part,Sem.run_bind,nq d,Result.andThen_ok,bK,cH,hx,Sem.run_pure],(f off v _ a hx).e0⟩
def Ew{g:aY}{s:St}{fs:Array Field}{t:TypeId}{f:Field}{i n:Nat}{ag:Bool}{x:Value}{v:V}{a:eL}{w:World}
 (d:P.underlying t=some (.struct fs)) (j:fs[i]?=some f) (l:fm P f.type=some ag) (o:ng P f.type=some n) (hx:ER g (s.val a) x) (E:dv s (.field ag f.offset n a)=some v):
 ∃y,(Instr.field t x i).run P w=.ok y w/\ER g v y:=by
 have key:∀cs,s.val a=.agg cs->(if ag then(if f.offset+n<=cs.length then some (V.agg ((cs.drop f.offset).take n))else none)else cs[f.offset]?)=some v->
  ∃y,(Instr.field t x i).run P w=.ok y w/\ER g v y:=by
  intro cs hv p;rw[hv]at hx;obtain⟨A,rfl,q,r,u⟩:=hx.agg;obtain⟨y,z,hv⟩:=yQ w l o q r u p;exact⟨y,by simp[Instr.field,run_underlying d,j,asAgg,z],hv⟩
 cases ag with
 |true=>
  exact Xe
 |false=>
  exact Xe
def CN{g:aY}{s:St}{t e:TypeId}{len n:Nat}{ag:Bool}{x i:Value}{v:V}{j io:eL}{w:World}
 (p:P.underlying t=some (.array len e)) (q:fm P e=some ag) (l:ng P e=some n) (hx:ER g (s.val j) x) (r:ER g (s.val io) i) (E:dv s (.uc ag len n j io)=some v):
 ∃y,(Instr.index t x i).run P w=.ok y w/\ER g v y:=by
 have key:∀cs k,s.val j=.agg cs->idxOf (s.val io)=some k->k<len->(if ag then(if k*n+n<=cs.length then some (V.agg ((cs.drop (k*n)).take n))else none)else cs[k*n]?)=some v->
  ∃y,(Instr.index t x i).run P w=.ok y w/\ER g v y:=by
  intro cs k a d o u;rw[a]at hx;obtain⟨K,rfl⟩:=mS d r;obtain⟨L,rfl,z,A,D⟩:=hx.agg;obtain⟨y,H,a⟩:=yQ w q l z A D u;refine⟨y,?_,a⟩;simp only[Instr.index,asIntOf,Sem.run_bind,Sem.run_pure,Result.andThen_ok,run_underlying p];rw[ax ⟨av,by exact_mod_cast o⟩];simp[fh l,H]
 cases ag with
 |true=>
  simp only[dv]at E;split at E
  next cs k a d=>
   split at E
   next f=>exact key cs k a d f.1 (by simpa[f.2]using E)
   .cases E
  .cases E
 |false=>
  simp only[dv]at E;split at E
  next cs k a d=>
   split at E
   next f=>exact key cs k a d f (by simpa using E)
   .cases E
  .cases E
def CO{g:aY}{s:St}{t:TypeId}{x i:Value}{v:V}{d io:eL}{w:World}
 (f:P.underlying t=some .string) (hx:ER g (s.val d) x) (j:ER g (s.val io) i) (E:dv s (.x1 d io)=some v):
 ∃y,(Instr.index t x i).run P w=.ok y w/\ER g v y:=by
 simp only[dv]at E;split at E
 next l k o p=>
  rw[o]at hx;obtain⟨r,rfl⟩:=mS p j;cases e:l[k]? with
  |none=>simp[e]at E
  |some b=>
   simp[e]at E;subst E;have a:=b0 e;refine⟨.int .u8 b.toNat,?_,VR.e0 (.int _ _)⟩;rw[hx.str];have hb:(⟨l.toArray⟩:ByteArray)[k]?=some b:=by
    have q:k< (⟨l.toArray⟩:ByteArray).size:=by simpa[ByteArray.size]using a
    rw[getElem?_pos (⟨l.toArray⟩:ByteArray) k q];rw[getElem?_pos l k a]at e;exact e
   simp[Instr.index,asIntOf,run_underlying f,hb]
 .cases E
def zM{g:aY}{s:St}{t e:TypeId}{len sz:Nat}{x i:Value}{v:V}{A io:eL}{w:World}
 (D:P.underlying t=some (.array len e)) (H:ng P e=some sz) (hx:ER g (s.val A) x) (q:ER g (s.val io) i) (E:dv s (.rX len sz A io)=some v):
 ∃y,(Instr.indexAt t x i).run P w=.ok y w/\ER g v y:=by
 have run:∀(f:Addr)(a:IntKind)(k:Nat),f.spot=none->k<len->(Instr.indexAt t (.pointer (some f)) (.int a k)).run P w=.ok (.pointer (some (cl f.block (f.off+k*sz)))) w:=by
  intro f a k u l;simp only[Instr.indexAt,asIntOf,Sem.run_bind,Sem.run_pure,Result.andThen_ok,run_underlying D,Instr.sureAddr];rw[ax ⟨av,by exact_mod_cast l⟩];simp[fh H,add_eq u]
 simp only[dv]at E;split at E
 next st Q o k r l=>
  split at E
  next d=>cases E;rw[r]at hx;obtain⟨a,rfl⟩:=mS l q;obtain⟨b,z,rfl⟩:=hx;exact⟨_,run _ a k rfl d,b,z,rfl⟩
  .cases E
 next id o k r l=>
  split at E
  next d=>cases E;rw[r]at hx;obtain⟨a,rfl⟩:=mS l q;obtain⟨b,z,rfl⟩:=hx.bp;exact⟨_,run _ a k rfl d,VR.e0 (.bp _ _ b z)⟩
  .cases E
 next cells k r l=>
  split at E
  next d=>
   cases E;rw[r]at hx;obtain⟨a,rfl⟩:=mS l q;obtain⟨f,K,rfl,u,q,L,N⟩:=hx.ep;refine⟨_,run f a k u d.1,VR.e0 (.ep _ _ (λj=>K (k*sz+j)) rfl (λj p=>?_) (λj c p=>?_) (λj c p=>?_))⟩
   .simp at p;have:=q (k*sz+j) av;simpa[cl,cn]using this
   .rw[cY]at p;exact L _ _ p
   .rw[cY]at p;exact N _ _ p
  .cases E
 .cases E
def Ey{g:aY}{s:St}{a:Act}{w:World}(R:Rel GL g s a w){src dst e:TypeId}{x:Value}{v:V}{A:eL}
 (hs:P.underlying src=some (.slice e)) (he:P.underlying e=some (.int .u8)) (hd:P.underlying dst=some .string) (hx:ER g (s.val A) x) (E:dv s (.Dc A)=some v):
 ∃y,(convert src dst x).run P w=.ok y w/\ER g v y:=by
 simp only[dv]at E;split at E
 next f t=>
  cases hb:Bx.bytesOf f with
  |none=>simp[hb]at E
  |some l=>
   simp[hb]at E;subst E;rw[t]at hx;rcases hx.sl with⟨rfl,rfl⟩|⟨u,cap,ab,rfl,D,K,ac,H,ad,L⟩
   .simp[Bx.bytesOf]at hb;subst hb;exact W3
   ·
    have conv:∀(f:List V)(l:List UInt8),Bx.bytesOf f=some l->∃d:List Int,f=d.map (V.int .u8)/\l=d.map λn=>UInt8.ofNat n.toNat:=by
     intro f;induction f with
     |nil=>intro l h;simp[Bx.bytesOf]at h;subst h;exact⟨[],rfl,rfl⟩
     |cons c f ih=>
      intro l h;cases c<;>first|(simp[Bx.bytesOf]at h;done)|skip
      rename_i k n;cases k<;>first|(simp[Bx.bytesOf]at h;done)|skip
      simp only[Bx.bytesOf]at h;cases o:Bx.bytesOf f with
      |none=>simp[o]at h
      |some N=>
       simp[o]at h;subst h;obtain⟨d,rfl,rfl⟩:=ih N o;exact⟨n::d,rfl,rfl⟩
    obtain⟨d,rfl,rfl⟩:=conv f l hb;have p:(loadCells u (d.map (V.int IntKind.u8)).length).run P w=.ok (d.map (Value.int .u8)).toArray w:=by
     rw[run_loadCells P _ w u (λk=>.int .u8 (d.getD k 0)) D]
     .congr 2;apply iU;intro j;simp only[au,bw,List.getElem?_range'];by_cases z:j<d.length
      .simp[z]
      .simp[z,b1 (Nat.le_of_not_lt z)]
     .intro k q;simp at q;have Q:=R.gF.g3 _ _ _ (H k (by simpa using q));rw[Q];have o:=L k (.int .u8 d[k]) 0 (.int .u8 d[k]) (by simp[q]) (by simp[V.cells]);simp only[kK,di]at o;rw[o.e0.int];simp[q]
    rw[run_convert_bytes_string w src dst e _ _ _ hs he hd,run_bytesToString w u _ cap d p];refine⟨_,rfl,?_⟩;have:(d.foldl (λr n=>r.push (UInt8.ofNat n.toNat)) ByteArray.empty)=⟨(d.map λn=>UInt8.ofNat n.toNat).toArray⟩:=by
     have gen:∀(d:List Int)(r:ByteArray),d.foldl (λr n=>r.push (UInt8.ofNat n.toNat)) r=⟨r.data++(d.map λn=>UInt8.ofNat n.toNat).toArray⟩:=by
      intro d;induction d with
      |nil=>intro r;simp
      |cons n d ih=>intro r;rw[dL,ih];simp[ByteArray.push]
     rw[gen];simp
    rw[this];exact VR.e0 (.str _)
 next t=>cases E;rw[t]at hx;rw[hx.aP];exact W3
 .cases E
end
section
variable {GL:Nat->Option (List V)}{P:Program}
def pA{g:aY}{v:V}{x:Value}(h:ER g v x)(A:v.cells.all V.one=true):fJ g v.cells x.cells.toList/\(∀y∈x.cells,y.oneCell'=true)/\∀c∈v.cells,c.one=true:=by
 have l:∀c∈v.cells,c.one=true:=bO.1 A;by_cases t:∃cs,v=.agg cs
 .obtain⟨cs,rfl⟩:=t;obtain⟨D,rfl,o,q,u⟩:=h.agg;refine⟨⟨by simp[V.cells,Value.cells,o],λj c x f hx=>u j c x f (by simpa[Value.cells]using hx)⟩,λy d=>?_,l⟩;simp only[Value.cells]at d;obtain⟨j,f,rfl⟩:=gV.1 d;have H:j<cs.length:=av;exact((u j cs[j] D[j] bT bT).one (q j cs[j] bT)).2
 .have r:v.cells=[v]:=by cases v<;>first|rfl|exact absurd ⟨_,rfl⟩ t
  have p:v.one=true:=l v (by rw[r];simp);have z:VR g v x:=h.od (by rintro a b c rfl;simp[V.one]at p);obtain⟨o,q⟩:=z.one p;refine⟨⟨by rw[r,o];rfl,λj c y f d=>?_⟩,λy d=>?_,l⟩
  .rw[r]at f;rw[o]at d;cases j with
   |zero=>simp at f d;subst f d;exact z
   |succ j=>simp at f
  .rw[o]at d;simp at d;subst d;exact q
def fb{n:Nat}{v:V}(h:jW n v=true):v.cells.length=n/\v.cells.all V.one=true:=by
 unfold jW at h;rw[be]at h;exact⟨by simpa using h.1,h.2⟩
def nh(cells:List Value)(off:Nat):List Value->List Value
 |[]=>cells
 |c::r=>nh (cells.set off c) (off+1) r
def AO{g:aY}:∀(vs:List V)(xs:List Value)(cs:List V)(ys:List Value)(off:Nat),fJ g vs xs->fJ g cs ys->fJ g (aQ cs off vs) (nh ys off xs)
 |[],[],cs,ys,off,_,h=>h
 |v::vs,x::xs,cs,ys,off,f,l=>by
  refine AO vs xs _ _ _ ⟨by simpa using f.1,λj c y a d=>f.2 (j+1) c y (by simpa using a) (by simpa using d)⟩ ⟨by simp[l.1],λj c y a d=>?_⟩;rw[kQ]at a d;by_cases o:off=j
  .subst o;rw[ax rfl]at a d;split at a
   .split at d
    .simp at a d;subst a d;exact f.2 0 v x rfl rfl
    .cases d
   .cases a
  .rw[al o]at a d;exact l.2 j c y a d
 |[],_::_,_,_,_,h,_=>by have:=h.1;simp at this
 |_::_,[],_,_,_,h,_=>by have:=h.1;simp at this
def Dh(xs:List Value):∀(k off:Nat)(cells:Array Value),((xs.zipIdx k).foldl (λcs (p:Value×Nat)=>cs.setIfInBounds (off+p.2) p.1) cells).toList=nh cells.toList (off+k) xs:=by
 induction xs with
 |nil=>intro k off cells;rfl
 |cons x xs ih=>
  intro k off cells;simp only[List.zipIdx_cons,dL,nh];rw[ih (k+1) off];simp[cn]
def Ez{vs:List V}:∀{cs:List V} {off:Nat},(∀c∈cs,c.one=true)->(∀c∈vs,c.one=true)->∀c∈aQ cs off vs,c.one=true:=by
 induction vs with
 |nil=>intro cs off h _;exact h
 |cons v vs ih=>
  intro cs off f d;refine ih (λc a=>?_) (λc a=>d c (by simp[a]));rcases cN a with h|h
  .exact f c h
  .subst h;exact d _ bT
def x5(GL:aj)(place:Nat->Option (Nat×Nat)):List (Nat×Operand)->Option (List (Nat×Nat×eL))
 |[]=>some []
 |(i,x)::r=>match place i,eE GL x,x5 GL place r with
  |some (off,n),some y,some l=>some ((off,n,y)::l)
  |_,_,_=>none
def Jc{g:aY}{s:St}{a:Act}{w:World}(R:Rel GL g s a w){place:Nat->Option (Nat×Nat)}:∀{parts:List (Nat×Operand)} {ps:List (Nat×Nat×eL)} {cs:List V} {ys:Array Value} {out:List V},x5 GL place parts=some ps->fJ g cs ys.toList->(∀c∈cs,c.one=true)->jS s cs ps=some out->
 ∃zs,Instr.fill place ys (parts.map λ(i,x)=>(i,a.eval x))=some zs/\fJ g out zs.toList/\∀c∈out,c.one=true
 |[],ps,cs,ys,out,d,o,q,f=>by
  simp[x5]at d;subst d;simp[jS]at f;subst f;exact⟨ys,rfl,o,q⟩
 |(i,x)::parts,ps,cs,ys,out,d,o,q,f=>by
  simp only[x5]at d;split at d
  next off n y l u z A=>
   cases d;simp only[jS]at f;split at f
   next D=>
    have r:=fb D.1;obtain⟨t,L,c3⟩:=pA (cv R z) r.2;have H:(a.eval x).cells.size=n:=by rw[<-r.1,t.1];simp
    have K:ys.size=cs.length:=by simpa using o.1.symm
    simp only[bt,Instr.fill,u];rw[al (by simp;omega)];refine Jc R A ?_ (Ez q c3) f;have p:=Dh (a.eval x).cells.toList 0 off ys;simp only[di]at p;have:(Array.foldl (λcs (x:Value×Nat)=>match x with|(c,j)=>cs.setIfInBounds (off+j) c) ys (a.eval x).cells.zipIdx).toList=nh ys.toList off (a.eval x).cells.toList:=by
     rw[<-p,<-l7,oF]
    rw[this];exact AO _ _ _ _ _ t o
   .cases f
  .cases d
def fJ.agg{g:aY}{cs:List V}{xs:Array Value}(h:fJ g cs xs.toList)(a:∀c∈cs,c.one=true):VR g (.agg cs) (.agg xs):=
 .agg cs xs (by simpa using h.1.symm) (λj c d=>a c (bW d)) (λj c y f l=>h.2 j c y f (by simpa using l))
def zeroV(P:Program)(t:TypeId):Option (List V):=((P.info? t).bind (·.zero)).bind λz=>qt z.cells.toList
def og{t:TypeId}{zs:List V}(h:zeroV P t=some zs)(g:aY):∃z:Value,(P.info? t).bind (·.zero)=some z/\fJ g zs z.cells.toList/\(∀c∈zs,c.one=true)/\∀y∈z.cells,y.oneCell'=true:=by
 unfold zeroV at h;cases e:(P.info? t).bind (·.zero)with
 |none=>simp[e]at h
 |some z=>
  simp only[e,gx]at h;obtain⟨d,f⟩:=ui h;refine⟨z,rfl,⟨d,λj c x o l=>(f g j c x o l).1⟩,λc p=>?_,λy q=>?_⟩
  .obtain⟨j,a⟩:=fZ.1 p;have:j<z.cells.toList.length:=by rw[<-d];exact b0 a
   exact(f g j c _ a (aa this)).2
  .obtain⟨j,a,rfl⟩:=gV.1 q;have o:j<zs.length:=by rw[d];simpa using a
   obtain⟨l,r⟩:=f g j zs[j] z.cells[j] bT bT;exact(l.one r).2
def run_places{fs:List Field}{d:List (Nat×Nat)}(w:World)(h:fs.mapM (λf=>(ng P f.type).map λn=>(f.offset,n))=some d):
 (fs.mapM λf=>do pure (f.offset,<-sizeOf f.type):Sem (List (Nat×Nat))).run P w=.ok d w:=by
 induction fs generalizing d with
 |nil=>simp at h;subst h;simp
 |cons f fs ih=>
  rw[mA]at h;cases a:ng P f.type with
  |none=>simp[a]at h
  |some n=>
   cases j:fs.mapM (λf=>(ng P f.type).map λn=>(f.offset,n))with
   |none=>simp[a,j]at h
   |some l=>
    simp[a,j]at h;subst h;rw[mA];simp only[Sem.run_bind,fh a,Result.andThen_ok,Sem.run_pure,ih j]
def EA(P:Program)(t:TypeId):Option (Nat->Option (Nat×Nat)):=
 match P.underlying t with
 |some (.struct a)=>(a.toList.mapM (λf=>(ng P f.type).map λn=>(f.offset,n))).map λl=>(l[·]?)
 |some (.array _ e)=>(ng P e).map λn=>λi=>some (i*n,n)
 |_=>none
def EB{g:aY}{s:St}{a:Act}{w:World}(R:Rel GL g s a w){t:TypeId}{place:Nat->Option (Nat×Nat)}{zs:List V}{parts:Array (Nat×Operand)}{ps:List (Nat×Nat×eL)}{v:V}
 (d:EA P t=some place) (A:zeroV P t=some zs) (p:x5 GL place parts.toList=some ps) (E:dv s (.build zs ps)=some v):
 ∃y,(Instr.build t (parts.map λ(i,x)=>(i,a.eval x))).run P w=.ok y w/\ER g v y:=by
 obtain⟨z,q,D,H,Q⟩:=og A g;simp only[dv]at E;cases j:jS s zs ps with
 |none=>simp[j]at E
 |some out=>
  simp[j]at E;subst E;obtain⟨cells,r,K,L⟩:=Jc R p D H j;refine⟨.agg cells,?_,(K.agg L).e0⟩;unfold EA at d;split at d
  next u l=>
   cases e:u.toList.mapM (λf=>(ng P f.type).map λn=>(f.offset,n))with
   |none=>simp[e]at d
   |some N=>
    simp[e]at d;subst d;have hm:(u.mapM λf=>do pure (f.offset,<-sizeOf f.type):Sem (Array (Nat×Nat))).run P w=.ok N.toArray w:=by
     have:=run_places (P:=P) w e;rw[lT,Sem.run_map,this];rfl
    simp only[Instr.build,Sem.run_bind,lD q,Result.andThen_ok,run_underlying l,hm,jU];simp only[fy,r,Sem.run_pure]
  next len e l=>
   cases o:ng P e with
   |none=>simp[o]at d
   |some n=>
    simp[o]at d;subst d;simp only[Instr.build,Sem.run_bind,lD q,Result.andThen_ok,run_underlying l,fh o,jU,r,Sem.run_pure]
  .cases d
end
section
variable {GL:Nat->Option (List V)}{P:Program}
def x6(GL:aj)(x y:Operand)(f:eL->eL->wa):Option wa:=
 match eE GL x,eE GL y with
 |some a,some b=>some (f a b)
 |_,_=>none
def PW(P:Program)(GL:aj)(neg:Bool)(op:BinOp)(t:TypeId)(x y:Operand):Option wa:=
 match P.underlying t with
 |some .bool=>x6 GL x y (.Ws neg)
 |some (.pointer _)=>x6 GL x y (.Wt neg)
 |some (.struct _)|some (.array _ _)=>match gJ P 8 t with
  |some d=>if P.eqGuardType P.depth t=false then x6 GL x y (.eqc neg d)else none
  |none=>none
 |some (.int _)|some .string=>x6 GL x y (.bin op)
 |_=>none
def AP(P:Program)(GL:aj)(c:Call):Option wa:=
 match c.callee,c.args.toList,c.argTypes[0]? with
 |.builtin .len,[x],some t=>match P.underlying t with
  |some .string=>(eE GL x).map .MJ
  |some (.slice _)=>(eE GL x).map .len
  |some (.array n _)=>some (.MK n)
  |_=>none
 |.builtin .cap,[x],some t=>match P.underlying t with
  |some (.slice _)=>(eE GL x).map .cap
  |_=>none
 |.builtin .min,[x,y],_=>x6 GL x y .min2
 |.builtin .max,[x,y],_=>x6 GL x y .max2
 |_,_,_=>none
def HJ(P:Program)(GL:aj)(src dst:TypeId)(x:Operand):Option wa:=
 match P.underlying src,P.underlying dst with
 |some (.int _),some (.int k)=>(eE GL x).map (.toInt k)
 |some (.slice e),some .string=>if P.underlying e matches some (.int .u8)then(eE GL x).map .Dc else none
 |_,_=>none
def Tr(P:Program)(GL:aj)(t:TypeId)(x:Operand)(lo d:Option Operand):Option wa:=
 match P.underlying t,eE GL x,kU GL lo,kU GL d with
 |some .string,some x,some lo,some d=>some (.Eu x lo d)
 |some (.slice e),some x,some lo,some d=>(ng P e).map λn=>.cut n x lo d
 |some (.array len e),some x,some none,some none=>if ng P e=some 1 then some (.nL len x)else none
 |_,_,_,_=>none
def Ac(P:Program)(s:TypeId)(f:Nat):Option (Nat×Bool×Nat):=
 match P.underlying s with
 |some (.struct d)=>match d[f]? with
  |some fd=>match fm P fd.type,ng P fd.type with
   |some g,some (n+1)=>some (fd.offset,g,n+1)
   |_,_=>none
  |none=>none
 |_=>none
def yR(P:Program)(GL:aj):Op->Option wa
 |.move x=>(eE GL x).map .move
 |.pick c a b=>match eE GL c,eE GL a,eE GL b with
  |some c,some a,some b=>some (.pick c a b)
  |_,_,_=>none
 |.load t x=>match eE GL x,fm P t,ng P t with
  |some x,some g,some n=>some (.load g n x)
  |_,_,_=>none
 |.nilCheck x=>(eE GL x).map .nilCheck
 |.binOp op t x y _=>match op with
  |.eql=>PW P GL false .eql t x y
  |.neq=>PW P GL true .neq t x y
  |op=>x6 GL x y (.bin op)
 |.unOp op _ x=>(eE GL x).map (.un op)
 |.convert src dst x=>HJ P GL src dst x
 |.slice t x lo d none=>Tr P GL t x lo d
 |.fieldAddr s x f=>match Ac P s f,eE GL x with
  |some (off,_,_),some x=>some (.fieldAddr off x)
  |_,_=>none
 |.field s x f=>match Ac P s f,eE GL x with
  |some (off,g,n),some x=>some (.field g off n x)
  |_,_=>none
 |.indexAddr t x i=>match P.underlying t with
  |some (.slice e)=>match ng P e with
   |some n=>x6 GL x i (.sy n)
   |none=>none
  |some (.array len e)=>match ng P e with
   |some n=>x6 GL x i (.rX len n)
   |none=>none
  |_=>none
 |.index t x i=>match P.underlying t with
  |some .string=>x6 GL x i .x1
  |some (.array len e)=>match fm P e,ng P e with
   |some g,some n=>x6 GL x i (.uc g len n)
   |_,_=>none
  |_=>none
 |.extract x i=>(eE GL x).map λx=>.extract x i
 |.build t parts=>match EA P t,zeroV P t with
  |some pl,some zs=>(x5 GL pl parts.toList).map (.build zs)
  |_,_=>none
 |.makeFunc (.func f) first caps=>if first.isEmpty then(yM GL caps.toList).map (.AG f)else none
 |.makeInterface t x=>if P.concrete t then(eE GL x).map (.wT t)else none
 |.call c=>AP P GL c
 |_=>none
def kV{x y:Operand}{f:eL->eL->wa}{b:wa}(h:x6 GL x y f=some b):∃p q,eE GL x=some p/\eE GL y=some q/\b=f p q:=by
 unfold x6 at h;split at h
 next p q d j=>exact⟨p,q,d,j,(ar h).symm⟩
 .cases h
def dp{α β:Type}{o:Option α}{f:α->β}{b:β}(h:o.map f=some b):∃p,o=some p/\b=f p:=by
 cases o with
 |none=>cases h
 |some p=>exact⟨p,rfl,(ar h).symm⟩
def yS{m:Sem Value}{x:Value}{w:World}(h:m.run P w=.ok x w):(do pure (Next.value (<-m)):Sem Next).run P w=.ok (.value x) w:=by
 rw[Sem.run_bind,h];rfl
def wW{s:TypeId}{f off n:Nat}{ag:Bool}(h:Ac P s f=some (off,ag,n)):∃fs fd m,P.underlying s=some (.struct fs)/\fs[f]?=some fd/\fm P fd.type=some ag/\ng P fd.type=some (m+1)/\n=m+1/\off=fd.offset:=by
 unfold Ac at h;split at h
 next fs d=>
  split at h
  next fd j=>
   split at h
   next g m l p=>simp at h;obtain⟨rfl,rfl,rfl⟩:=h;exact⟨fs,fd,m,d,j,l,p,rfl,rfl⟩
   .cases h
  .cases h
 .cases h
section
variable {g:aY}{s:St}{a:Act}{w:World}{o:Oper}{b:wa}{v:V}
def Ts(R:Rel GL g s a w){neg:Bool}{op:BinOp}(hop:op=if neg then .neq else .eql){t:TypeId}{x y:Operand}(h:PW P GL neg op t x y=some b)(E:dv s b=some v):
 ∃z,(do eqGuard op t x y (a.eval x) (a.eval y);binOp op t (a.eval x) (a.eval y):Sem Value).run P w=.ok z w/\ER g v z:=by
 subst hop;unfold PW at h;split at h
 next hd=>obtain⟨p,q,e1,e2,rfl⟩:=kV h;exact HG hd (cv R e1) (cv R e2) E
 next hd=>obtain⟨p,q,e1,e2,rfl⟩:=kV h;exact HH hd (cv R e1) (cv R e2) E
 .exact WM
 .exact WM
 .exact Xh
 .exact Xh
 .cases h
def PX(R:Rel GL g s a w){src dst:TypeId}{x:Operand}(h:HJ P GL src dst x=some b)(E:dv s b=some v):
 ∃z,(convert src dst (a.eval x)).run P w=.ok z w/\ER g v z:=by
 unfold HJ at h;split at h
 next k f j=>
  obtain⟨p,l,rfl⟩:=dp h;have hx:=cv R l;simp only[dv]at E;split at E
  next y n u=>cases E;rw[u]at hx;rw[hx.int];exact⟨_,by simp[convert,run_underlying f,run_underlying j,Conv.intToInt],VR.e0 (.int _ _)⟩
  .cases E
 next e f j=>
  split at h
  next q=>
   obtain⟨p,l,rfl⟩:=dp h;have r:P.underlying e=some (.int .u8):=by
    cases t:P.underlying e with
    |none=>simp[t]at q
    |some d=>cases d<;>simp[t]at q;subst q;rfl
   exact Ey R f r j (cv R l) E
  .cases h
 .cases h
def PY{ts:Array TypeId}{t ty:TypeId}{d:TypeDesc}{x:Value}{n:Nat}(f:ts[0]?=some t)(hd:P.underlying t=some d)
 (h:(d=.string/\∃b:ByteArray,x=.string b/\b.size=n)\/(∃e,d=.slice e/\∃a c,x=.slice a n c)\/(∃e,d=.array n e)) (w:World):
 (Builtin.len_ ts ty #[x]).run P w=.ok (.int .i64 n) w:=by
 unfold Builtin.len_;rw[f];rcases h with⟨rfl,b,rfl,rfl⟩|⟨e,rfl,a,c,rfl⟩|⟨e,rfl⟩
 .exact bb5
 .exact bb5
 .exact bb5
def PZ{ts:Array TypeId}{t ty e:TypeId}{a:Option Addr}{n c:Nat}(d:ts[0]?=some t)(hd:P.underlying t=some (.slice e))(w:World):
 (Builtin.cap_ ts ty #[.slice a n c]).run P w=.ok (.int .i64 c) w:=by
 unfold Builtin.cap_;rw[d];exact bb5
def FM(R:Rel GL g s a w){c:Call}(h:AP P GL c=some b)(E:dv s b=some v)(ty:TypeId):
 ∃z,(do let d<-resolve a.eval c ty;invoke d.target d.args:Sem Next).run P w=.ok (.value z) w/\ER g v z:=by
 unfold AP at h;have r:∀{l:List Operand},c.args.toList=l->c.args.map a.eval=(l.map a.eval).toArray:=by
  intro l D;subst D;apply jI;simp
 split at h
 next t x ts f D N=>
  have fin:∀(d:TypeDesc)(n:Nat)(z:Value),P.underlying ts=some d->z=a.eval x->((d=.string/\∃b:ByteArray,z=.string b/\b.size=n)\/(∃e,d=.slice e/\∃a c,z=.slice a n c)\/(∃e,d=.array n e))->
   (do let d<-resolve a.eval c ty;invoke d.target d.args:Sem Next).run P w=.ok (.value (.int .i64 n)) w:=by
   intro d n z u ac ad;simp only[resolve,f,pure_bind,invoke,builtin,r D,bt,cV,<-ac];exact yS (PY N u ad w)
  split at h
  next u=>
   obtain⟨p,H,rfl⟩:=dp h;have hx:=cv R H;simp only[dv]at E;split at E
   next l j=>cases E;rw[j]at hx;exact⟨_,fin _ l.length _ u rfl (.inl ⟨rfl,_,hx.str,by simp[ByteArray.size]⟩),VR.e0 (.int _ _)⟩
   .cases E
  next e u=>
   obtain⟨p,H,rfl⟩:=dp h;have hx:=cv R H;simp only[dv]at E;split at E
   next sz ai j=>
    cases E;rw[j]at hx;refine⟨_,fin _ ai.length _ u rfl (.inr (.inl ⟨e,rfl,?_⟩)),VR.e0 (.int _ _)⟩;rcases hx.sl with⟨rfl,A⟩|⟨aC,cap,aD,A,_⟩
    .exact⟨_,_,A⟩
    .exact⟨_,_,A⟩
   next j=>cases E;rw[j]at hx;exact⟨_,fin _ 0 _ u rfl (.inr (.inl ⟨e,rfl,_,_,hx.aP⟩)),VR.e0 (.int _ _)⟩
   next sz id off n c j=>
    cases E;rw[j]at hx;refine⟨_,fin _ n _ u rfl (.inr (.inl ⟨e,rfl,?_⟩)),VR.e0 (.int _ _)⟩;rcases hx.ms with⟨b,_,A,_⟩|⟨rfl,rfl,p,A,ab⟩
    .exact⟨_,_,A⟩
    .exact⟨_,_,A⟩
   .cases E
  next n e u=>cases h;simp only[dv]at E;cases E;exact⟨_,fin _ n _ u rfl (.inr (.inr ⟨e,rfl⟩)),VR.e0 (.int _ _)⟩
  .cases h
 next x t f D N=>
  split at h
  next e u=>
   obtain⟨p,H,rfl⟩:=dp h;have hx:=cv R H;have fin:∀(p:Option Addr)(n m:Nat),a.eval x=.slice p n m->(do let d<-resolve a.eval c ty;invoke d.target d.args:Sem Next).run P w=.ok (.value (.int .i64 m)) w:=by
    intro p n m aA;simp only[resolve,f,pure_bind,invoke,builtin,r D,bt,cV,aA];exact yS (PZ N u w)
   simp only[dv]at E;split at E
   next j=>cases E;rw[j]at hx;exact⟨_,fin _ _ 0 hx.aP,VR.e0 (.int _ _)⟩
   next sz id off n m j=>
    cases E;rw[j]at hx;rcases hx.ms with⟨b,_,A,_⟩|⟨rfl,rfl,p,A,ab⟩
    .exact⟨_,fin _ _ m A,VR.e0 (.int _ _)⟩
    .exact⟨_,fin _ _ 0 A,VR.e0 (.int _ _)⟩
   .cases E
  .cases h
 next x y f D=>
  obtain⟨p,q,H,Q,rfl⟩:=kV h;have hx:=cv R H;have K:=cv R Q;simp only[dv]at E;split at E
  next k m aB n j L=>cases E;rw[j]at hx;rw[L]at K;refine⟨_,?_,VR.e0 (.int _ _)⟩;simp only[resolve,f,pure_bind,invoke,builtin,r D,bt,cV,hx.int,K.int];exact yS (by simp[Builtin.min_,Builtin.min2])
  .cases E
 next x y f D=>
  obtain⟨p,q,H,Q,rfl⟩:=kV h;have hx:=cv R H;have K:=cv R Q;simp only[dv]at E;split at E
  next k m aB n j L=>cases E;rw[j]at hx;rw[L]at K;refine⟨_,?_,VR.e0 (.int _ _)⟩;simp only[resolve,f,pure_bind,invoke,builtin,r D,bt,cV,hx.int,K.int];exact yS (by simp[Builtin.max_,Builtin.max2])
  .cases E
 .cases h
def UA(R:Rel GL g s a w)(h:yR P GL o.op=some b)(E:dv s b=some v):∃x,(execOp a.eval o).run P w=.ok (.value x) w/\ER g v x:=by
 have d:∀{m:Sem Value},(∃x,m.run P w=.ok x w/\ER g v x)->execOp a.eval o=(do pure (Next.value (<-m)))->∃x,(execOp a.eval o).run P w=.ok (.value x) w/\ER g v x:=by
  intro m ⟨x,D,u⟩ a4;exact⟨x,by rw[a4];exact yS D,u⟩
 obtain⟨dst,op,ty,pos,after,guard⟩:=o;cases op with
 |move x=>
  obtain⟨p,l,rfl⟩:=dp h;cases E;exact⟨_,rfl,cv R l⟩
 |pick c x y=>
  simp only[yR]at h;split at h
  next bu ab bv l r K=>
   cases h;simp only[dv]at E;split at E
   next t A=>
    cases E;have Q:=cv R l;rw[A]at Q;refine⟨if t then a.eval x else a.eval y,?_,?_⟩
    .simp[execOp,Q.bool,asBool]
    .cases t
     .exact cv R K
     .exact cv R r
   .cases E
  .cases h
 |load t x=>
  simp only[yR]at h;split at h
  next ab ai n l r K=>cases h;exact d (yN R r K (cv R l) E) rfl
  .cases h
 |nilCheck x=>
  obtain⟨p,l,rfl⟩:=dp h;have hx:=cv R l;simp only[dv]at E;split at E
  next st bY off A=>cases E;rw[A]at hx;have bs:=hx;obtain⟨b,D,u⟩:=hx;exact⟨_,by simp[execOp,u],⟨b,D,rfl⟩⟩
  next id off A=>cases E;rw[A]at hx;obtain⟨b,D,u⟩:=hx.bp;exact⟨_,by simp[execOp,u],VR.e0 (.bp _ _ b D)⟩
  next cells A=>cases E;rw[A]at hx;obtain⟨b2,b3,u,ac⟩:=hx.ep;exact⟨a.eval x,by simp[execOp,u],hx⟩
  .cases E
 |binOp op t x y b5=>
  cases op
  case eql=>exact d (Ts R (neg:=false) rfl h E) rfl
  case neq=>exact d (Ts R (neg:=true) rfl h E) rfl
  all_goals
   obtain⟨p,q,l,r,rfl⟩:=kV h;simp only[dv]at E;exact d (Az (cv R l) (cv R r) E) rfl
 |unOp op t x=>
  obtain⟨p,l,rfl⟩:=dp h;have hx:=cv R l;simp only[dv]at E;split at E
  next k n A=>cases E;rw[A]at hx;exact d ⟨_,by rw[hx.int];simp[Op.unary,Op.intArith],VR.e0 (.int _ _)⟩ rfl
  next t A=>cases E;rw[A]at hx;exact d ⟨_,by rw[hx.bool];simp[Op.unary],VR.e0 (.bool _)⟩ rfl
  next k n A=>cases E;rw[A]at hx;exact d ⟨_,by rw[hx.int];simp[Op.unary,Op.intBits],VR.e0 (.int _ _)⟩ rfl
  .cases E
 |convert src dst x=>exact d (PX R h E) rfl
 |slice t x lo a5 mx=>
  cases mx with
  |some m=>cases h
  |none=>
   simp only[yR,Tr]at h;split at h
   next ab aD a0 H l r K=>cases h;exact d (FK R H l r K E) rfl
   next e ab aD a0 H l r K=>obtain⟨n,L,rfl⟩:=dp h;exact d (HI R H L l r K E) rfl
   next len e ab H l r K=>
    split at h
    next L=>cases h;exact d (FL R H L l r K E) rfl
    .cases h
   .cases h
 |fieldAddr t x f=>
  simp only[yR]at h;split at h
  next off ai n ab l r=>cases h;obtain⟨a6,fd,m,D,u,ac,aA,a1,aB⟩:=wW l;subst aB;exact d (AL D u aA (cv R r) E) rfl
  .cases h
 |field t x f=>
  simp only[yR]at h;split at h
  next off ai n ab l r=>cases h;obtain⟨a6,fd,m,D,u,ac,aA,a1,aB⟩:=wW l;subst aB;subst a1;exact d (Ew D u ac aA (cv R r) E) rfl
  .cases h
 |indexAddr t x i=>
  simp only[yR]at h;split at h
  next e H=>
   split at h
   next n L=>obtain⟨p,q,l,r,rfl⟩:=kV h;exact d (AM H L (cv R l) (cv R r) E) rfl
   .cases h
  next len e H=>
   split at h
   next n L=>obtain⟨p,q,l,r,rfl⟩:=kV h;exact d (zM H L (cv R l) (cv R r) E) rfl
   .cases h
  .cases h
 |index t x i=>
  simp only[yR]at h;split at h
  next H=>obtain⟨p,q,l,r,rfl⟩:=kV h;exact d (CO H (cv R l) (cv R r) E) rfl
  next len e H=>
   split at h
   next ai n a7 L=>obtain⟨p,q,l,r,rfl⟩:=kV h;exact d (CN H a7 L (cv R l) (cv R r) E) rfl
   .cases h
  .cases h
 |extract x i=>
  obtain⟨p,l,rfl⟩:=dp h;have hx:=cv R l;simp only[dv]at E;split at E
  next b6 A=>rw[A]at hx;obtain⟨aC,D,u,ac⟩:=hx.hJ;have a5:=b0 E;have ad:aC[i]?=some aC[i]:=bT;exact d ⟨aC[i],by rw[D];simp only[Instr.extract,ad,Sem.run_pure],(ac i v _ E ad).e0⟩ rfl
  .cases E
 |build t parts=>
  simp only[yR]at h;split at h
  next pl zs l r=>obtain⟨a8,K,rfl⟩:=dp h;exact d (EB R l r K E) rfl
  .cases h
 |makeFunc f first caps=>
  cases f with
  |func f=>
   simp only[yR]at h;split at h
   next a9=>
    obtain⟨a8,l,rfl⟩:=dp h;obtain⟨bi,bl⟩:=AK R l;simp only[dv]at E;split at E
    next N=>
     cases E;have a2:first=#[]:=by simpa using a9
     subst a2;refine d ⟨.func (.func f) #[] (caps.map a.eval),by simp[Instr.makeFunc],VR.e0 (.fn f _ _ (by simp[bi]) (λj c y D u=>?_))⟩ rfl;rw[bw]at D;rw[pn]at u;obtain⟨q,a3,rfl⟩:=bS.1 D;obtain⟨z,bo,rfl⟩:=bS.1 u;refine(bl j q z a3 (by simpa using bo)).od ?_;intro a b c Q;have:=bO.1 N q (bW a3);rw[Q]at this;simp[V.one]at this
    .cases E
   .cases h
  |_=>cases h
 |makeInterface t x=>
  simp only[yR]at h;split at h
  next Q=>
   obtain⟨p,l,rfl⟩:=dp h;have hx:=cv R l;simp only[dv]at E;split at E
   next N=>cases E;exact d ⟨_,run_makeInterface w t _ Q,VR.e0 (.Hz _ _ _ (hx.od (by intro a b c Q;rw[Q]at N;simp[V.one]at N)))⟩ rfl
   .cases E
  .cases h
 |call c=>exact FM R h E ty
 |_=>cases h
end
end
section
variable {GL:Nat->Option (List V)}{P:Program}
inductive BX where
 |val (b:wa)
 |Jd (x:eL)
 |ld (addr:eL)
 |x7 (x:eL)
 |alloc (zs:List V)
 |box (n:Nat) (x:eL)
 |store (n:Nat) (addr x:eL)
 |uk (sz:Nat) (zero:V) (n:Nat) (parts:List (Nat×eL))
 |HK (n:Nat) (x:eL)
 |app (sz:Nat) (base src:eL)
 |sA (x:eL)
def yT:V->Option Loc
 |.lp st a off=>some (.cell st a off)
 |.bp id off=>some (.iK id off)
 |_=>none
def varOf:eL->Option Loc
 |.tmp t=>some (.var t)
 |_=>none
def St.x7(s:St)(d:Nat):eL->St
 |.tmp t=>{s.put d (s.Z t) none false with fl:=λk=>if k=d then s.fl t else if k=t then false else s.fl k}
 |x=>s.put d (s.val x) none false
def St.oh(s:St)(st a j:Nat):eL->St
 |.tmp t=>{s with fc:=l2 s.fc st a (eQ (s.fc st a) j (s.fl t)),fl:=eQ s.fl t false}
 |_=>s
def St.wX(s:St)(id j:Nat):eL->St
 |.tmp t=>{s with E:={s.E with fl:=eQ s.E.fl id (eQ (s.E.fl id) j (s.fl t))},fl:=eQ s.fl t false}
 |_=>s
def St.store(s:St)(n:Nat)(addr:V)(x:eL):Option St:=
 match addr with
 |.lp st a off=>
  if jW n (s.val x)=true/\a<s.G st/\off+n<=(s.loc st a).length then
   some (if(s.val x).one=true then(s.h8 st a off (s.val x).cells).oh st a off x else s.h8 st a off (s.val x).cells)
  else none
 |.bp id off=>match s.E.box id with
  |some cells=>if jW n (s.val x)=true/\off+n<=cells.length then
   some (if(s.val x).one=true then(s.j1 id off cells (s.val x).cells).wX id off x else s.j1 id off cells (s.val x).cells)
   else none
  |none=>none
 |_=>none
def nA(sz:Nat):V->Option (List V)
 |.sl a d=>if sz=a then some d else none
 |.aP=>some []
 |.str l=>if sz=1 then some (l.map λb=>.int .u8 b.toNat)else none
 |_=>none
def St.pZ(s:St)(t:Nat):Option Loc:=
 if s.fl t then some (.var t)else match s.lk t with
  |some l=>if s.iE l then some l else none
  |none=>none
def iv:Nat:=1073741824
def St.app(s:St)(d:Nat)(sz:Nat)(base src:eL):Option St:=
 match s.val base,nA sz (s.val src)with
 |.aP,some a=>if a.length<=iv then some (s.put d (.sl sz a) none true)else none
 |.sl f j,some a=>
  if sz=f/\j.length+a.length<=iv then
   match base with
   |.tmp t=>match s.pZ t with
    |some l=>some ((s.dP l).put d (.sl sz (j++a)) none true)
    |none=>none
   |_=>none
  else none
 |_,_=>none
def iQ(s:St)(sz:Nat):List V->List (Nat×eL)->Option (List V)
 |a,[]=>some a
 |a,(i,x)::r=>if jW sz (s.val x)=true/\i<a.length then iQ s sz (a.set i (s.val x)) r else none
def iF(s:St)(d:Option Nat):BX->Option St
 |.val b=>match dv s b,d with
  |some v,some d=>some (s.put d v none false)
  |some _,none=>some s
  |none,_=>none
 |.Jd x=>match d with
  |some d=>some (s.put d (s.val x) (varOf x) false)
  |none=>none
 |.ld addr=>match d,s.iO (s.val addr)with
  |some d,some (c::_)=>some (s.put d c (yT (s.val addr)) false)
  |_,_=>none
 |.x7 x=>match d with
  |some d=>some (s.x7 d x)
  |none=>none
 |.alloc zs=>match d with
  |some d=>some ((s.fD d zs).put d (.lp d (s.G d) 0) none false)
  |none=>none
 |.box n x=>match d with
  |some d=>if jW n (s.val x)=true then some ((s.fD d (s.val x).cells).put d (.lp d (s.G d) 0) none false)else none
  |none=>none
 |.HK n x=>match d with
  |some d=>if jW n (s.val x)=true then some (s.put d (.ep (s.val x).cells) none false)else none
  |none=>none
 |.store n addr x=>match d with
  |none=>s.store n (s.val addr) x
  |some _=>none
 |.uk sz zero n parts=>match d with
  |some d=>(iQ s sz (List.replicate n zero) parts).map λa=>s.put d (.sl sz a) none true
  |none=>none
 |.app sz base src=>match d with
  |some d=>s.app d sz base src
  |none=>none
 |.sA x=>match d,s.val x with
  |some d,.str l=>if l.length<=iv then some (s.put d (.sl 1 (l.map λb=>.int .u8 b.toNat)) none true)else none
  |_,_=>none
def um(GL:aj):List (Nat×Operand)->Option (List (Nat×eL))
 |[]=>some []
 |(i,x)::r=>match eE GL x,um GL r with
  |some y,some l=>some ((i,y)::l)
  |_,_=>none
def fK(P:Program)(f:FuncId):Bool:=
 match P.funcs[f]? with
 |some fn=>fn.body.isSome&&fn.name != "runtime.NumGoroutine"
 |none=>false
def Di(P:Program)(t:TypeId):Option V:=
 match fm P t,zeroV P t with
 |some true,some zs=>some (.agg zs)
 |some false,some [z]=>some z
 |_,_=>none
def AQ:TypeDesc->Bool
 |.int _=>true
 |_=>false
def Wu(P:Program)(GL:aj)(a:List Nat)(o:Oper):Option BX:=
 match o.op with
 |.move x=>if o.dst.any a.contains then(eE GL x).map .x7 else(eE GL x).map .Jd
 |.load t x=>match fm P t,eE GL x with
  |some false,some x=>if ng P t=some 1 then some (.ld x)else none
  |_,_=>(yR P GL o.op).map .val
 |.assign x=>(eE GL x).map .x7
 |.alloc t=>if o.dst.any a.contains then none else(zeroV P t).map .alloc
 |.box t x=>if o.dst.any a.contains then none else match ng P t,eE GL x with
  |some n,some x=>if o.dst.any λd=>a.contains (d+100000)then some (.HK n x)else some (.box n x)
  |_,_=>none
 |.store t addr x=>match ng P t,eE GL addr,eE GL x with
  |some n,some addr,some x=>some (.store n addr x)
  |_,_,_=>none
 |.buildSlice t n parts=>if o.dst.any a.contains then none else match P.underlying t with
  |some (.slice e)=>match ng P e,Di P e,um GL parts.toList with
   |some sz,some z,some f=>if n*sz<=16777216/\0<sz/\jW sz z=true then some (.uk sz z n f)else none
   |_,_,_=>none
  |_=>none
 |.convert src dst x=>match P.underlying src,P.underlying dst with
  |some .string,some (.slice e)=>if o.dst.any a.contains then none else if P.underlying e matches some (.int .u8)then(eE GL x).map .sA else none
  |_,_=>if o.dst.any a.contains then none else(yR P GL o.op).map .val
 |.call c=>match c.callee with
  |.builtin .append=>if o.dst.any a.contains then none else match c.argTypes.toList,c.args.toList with
   |[t,u],[x,y]=>match P.underlying t,P.underlying u,eE GL x,eE GL y with
    |some (.slice e),some d,some x,some y=>match ng P e,zeroV P e with
     |some (sz+1),some zs=>if AQ d=true\/65536<P.bytesOf e\/zs.length≠sz+1 then none else some (.app (sz+1) x y)
     |_,_=>none
    |_,_,_,_=>none
   |_,_=>none
  |_=>(yR P GL o.op).map .val
 |_=>(yR P GL o.op).map .val
end
section
variable {GL:Nat->Option (List V)}{P:Program}
def qw(GL:aj)(P:Program)(o:Oper)(g:aY)(a:Act)(w:World)(s':St):Prop:=
 ∃x d f,((execOp a.eval o).run P w=.ok (.value x) d\/((execOp a.eval o).run P w=.ok .skip d/\x=undef))/\Rel GL f s' (a.put o.dst x) d/\Step g w f d
section
variable {g:aY}{s s':St}{a:Act}{w:World}{o:Oper}
def MQ(R:Rel GL g s a w){v:V}{x:Value}{l:Loc}{c:V}{rest:List V}{y:Value}(h:yT v=some l)(hx:ER g v x)(d:s.iO v=some (c::rest))
 (q:∀r,x=.pointer (some r)->w.cell? r=some y):wb g s a w l c y:=by
 cases v<;>simp only[yT]at h<;>first|(cases h;done)|skip
 next st A off=>
  cases h;simp only[St.iO]at d;split at d
  next t=>
   split at d
   next D=>have hc':=ar d;obtain⟨b,f,j⟩:=hx;refine⟨t,λu p=>?_⟩;cases (f.symm.trans p);refine⟨q _ j,?_⟩;exact Xu
   .cases d
  .cases d
 next id off=>
  cases h;simp only[St.iO]at d;split at d
  next cells z=>
   split at d
   .have hc':=ar d;obtain⟨b,f,j⟩:=hx.bp;refine⟨cells,z,?_,λu p=>?_⟩
    .exact Xu
    .cases (f.symm.trans p);exact q _ j
   .cases d
  .cases d
def UB{b:wa}{v:V}(h:yR P GL o.op=some b)(E:dv s b=some v)(R:Rel GL g s a w)(j:∀d,o.dst=some d->d<s.n):
 qw GL P o g a w (match o.dst with|some d=>s.put d v none false|none=>s):=by
 obtain⟨x,l,p⟩:=UA R h E;refine⟨x,w,g,.inl l,?_,Step.refl g w⟩;cases f:o.dst with
 |none=>exact R
 |some d=>exact R.put (j d f) p bT bT
def UC{x:Operand}{y:eL}{d:Nat}(hop:o.op=.move x)(f:o.dst=some d)(l:d<s.n)(h:eE GL x=some y)(R:Rel GL g s a w):
 qw GL P o g a w (s.put d (s.val y) (varOf y) false):=by
 refine⟨a.eval x,w,g,.inl (by unfold execOp;rw[hop];rfl),?_,Step.refl g w⟩;rw[f];refine R.put l (cv R h) (λk j=>?_) bT;cases y<;>simp only[varOf]at j<;>first|(cases j;done)|skip
 rename_i t;cases j;cases x<;>simp only[eE]at h
 .injection h with h;injection h with h;subst h;exact⟨rfl,rfl⟩
 .obtain⟨_,_,h⟩:=dp h;cases h
 .obtain⟨_,_,h⟩:=dp h;cases h
 .injection h with h;cases h
def YC{t:TypeId}{x:Operand}{y:eL}{d:Nat}{c:V}{rest:List V}(hop:o.op=.load t x)(l:o.dst=some d)(z:d<s.n)(A:fm P t=some false)
 (h:eE GL x=some y) (p:s.iO (s.val y)=some (c::rest)) (R:Rel GL g s a w):
 qw GL P o g a w (s.put d c (yT (s.val y)) false):=by
 obtain⟨f,D,q,r,H,Q,K⟩:=wg R (cv R h) p;have j:=H 0 bT;rw[di]at j;have u:cl f.block f.off=f:=by cases f;simp at r;simp[cl,r]
 rw[u]at j;refine⟨D 0,w,g,.inl ?_,?_,Step.refl g w⟩
 .unfold execOp;rw[hop];exact yS (by simp[Instr.loadAt,Instr.sureAddr,q,loadVar,nq A,j])
 .rw[l];refine R.put z (K 0 c bT).e0 (λk L=>?_) bT;exact MQ R L (cv R h) p (λN e=>by rw[q]at e;injection e with e;injection e with e;subst e;exact j)
def MT{x:Operand}{y:eL}{d:Nat}(hop:o.op=.assign x\/o.op=.move x)(j:o.dst=some d)(L:d<s.n)(h:eE GL x=some y)(R:Rel GL g s a w):
 qw GL P o g a w (s.x7 d y):=by
 have p:(execOp a.eval o).run P w=.ok (.value (a.eval x)) w:=by unfold execOp;rcases hop with hop|hop<;>(rw[hop];rfl)
 have f:=R.put (l:=none) (bJ:=false) L (cv R h) bT bT;cases y with
 |const v=>exact⟨_,w,g,.inl p,by rw[j];exact f,Step.refl g w⟩
 |kp cs=>exact⟨_,w,g,.inl p,by rw[j];exact f,Step.refl g w⟩
 |tmp t=>
  have hx:x=.tmp t:=by
   exact bb4
  subst hx;have H:d<a.tmps.size:=by rw[R.size];exact L
  by_cases q:t=d
  ·
   subst q;have u:a.put (some t) (a.eval (.tmp t))=a:=by
    simp only[Act.put,Act.eval];congr 1;apply pm;intro i;rw[hP];split
    next Q=>subst Q;simp[H]
    .rfl
   refine⟨_,w,g,.inl p,?_,Step.refl g w⟩;rw[j,u];rw[u]at f;refine {
    size:=f.size,gi:=f.gi,Z:=f.Z,gF:=f.gF,heap:=f.heap,loc:=f.loc,jc:=f.jc,jx:=λk e=>?_,gH:=f.gH,j0:=f.j0,gI:=f.gI,ie:=f.ie}
   have D:s.fl k=true:=by
    simp only[St.x7]at e;by_cases D:k=t
    .subst D;simpa using e
    .simpa[D]using e
   have:=R.jx k D;have K:(s.x7 t (.tmp t)).Z k=s.Z k:=by
    simp only[St.x7,St.nN];split
    next z=>subst z;rfl
    .rfl
   rw[K];exact this
  .by_cases A:s.fl t=true
   .have N:=f.move (l:=.var t) (l':=.var d) (v:=s.Z t) (x:=a.tmps.getD t undef) (by simp[St.iE,q,A])
     ⟨by simp only[Act.put];rw[uf _ _ _ _ q],by simp[q]⟩ ⟨by simp only[Act.put];rw[rn _ _ _ H];rfl,by simp[St.val]⟩
    refine⟨_,w,g.ik (.var t) (.var d),.inl p,?_,Step.ik⟩;rw[j];have ab:(((s.put d (s.val (.tmp t)) none false).dP (.var t)).vK (.var d))=s.x7 d (.tmp t):=by
     simp only[St.x7,St.dP,St.vK,St.val,St.put];congr 1;funext k;simp only[eQ];by_cases r:k=d
     .simp[r,A]
     .by_cases z:k=t
      .simp[r,z,q]
      .simp[r,z]
    rw[<-ab];exact N
   .refine⟨_,w,g,.inl p,?_,Step.refl g w⟩;rw[j];refine f.Df rfl rfl rfl rfl rfl rfl rfl rfl (λk e=>?_) (λ_ _ _ e=>e) (λ_ _ e=>e);simp only[St.x7]at e;simp only[St.AH];split at e
    .exact absurd e A
    next r=>
     rw[al r];split at e
     .cases e
     .exact e
def Dj{cells:List V}{xs:Array Value}{t:TypeId}{d:Nat}(r:d<s.n)(R:Rel GL g s a w)(hc:fJ g cells xs.toList)(u:∀c∈cells,c.one=true):
 ∃g',Rel GL g' ((s.fD d cells).put d (.lp d (s.G d) 0) none false) (a.put (some d) (.pointer (some ⟨w.heap.size,0,none⟩))) (w.alloc (.cells xs t))/\Step g w g' (w.alloc (.cells xs t)):=by
 let ow:Nat->eT:=λ_=>.sx d (s.G d)
 have y:Rel GL (g.block w.heap.size ow) s a (w.alloc (.cells xs t)):=R.alloc (λo x e=>by
  simp only[ow]at e;cases e) (λD e=>by simp only[ow]at e;cases e)
 have f:Step g w (g.block w.heap.size ow) (w.alloc (.cells xs t)):=Step.alloc R.gF;have eh:fQ (g.block w.heap.size ow) (w.alloc (.cells xs t)) w.heap.size (.sx d (s.G d)) cells:=by
  refine⟨λj=>?_,λj c hj=>⟨u c (bW hj),?_⟩,λj=>World.frozen?_alloc_new w xs t j⟩
  .rw[aY.eI]
  .have p:=b0 hj;have q:j<xs.toList.length:=by rw[<-hc.1];exact p
   have hx:xs.toList[j]?=some xs.toList[j]:=by simp[q]
   exact WW
 have z:=y.fD eh;have A:=z.put (d:=d) (v:=.lp d (s.G d) 0) (x:=.pointer (some ⟨w.heap.size,0,none⟩)) (l:=none) (bJ:=false) r ⟨w.heap.size,by simp[aY.wV,l2],rfl⟩ bT bT;exact⟨_,A,⟨f.g3,f.eY,f.hb,f.ext,f.n5,f.rm,f.size,f.gY,f.whole⟩⟩
def qx(t:TypeId)(v:Value)(w:World):(newVar t v).run P w=.ok ⟨w.heap.size,0,none⟩ (w.alloc (.cells v.cells t)):=by
 simp[newVar,newRow]
def MU{t:TypeId}{zs:List V}{d:Nat}(hop:o.op=.alloc t)(f:o.dst=some d)(j:d<s.n)(h:zeroV P t=some zs)(R:Rel GL g s a w):
 qw GL P o g a w ((s.fD d zs).put d (.lp d (s.G d) 0) none false):=by
 obtain⟨z,l,p,q,A⟩:=og h g;obtain⟨r,u,y⟩:=Dj (t:=t) j R p q;refine⟨_,_,r,.inl ?_,by rw[f];exact u,y⟩;unfold execOp;rw[hop];simp[Instr.alloc,lD l,qx]
def P0{t:TypeId}{n:Nat}{x:Operand}{y:eL}{d:Nat}(hop:o.op=.box t x)(r:o.dst=some d)(H:d<s.n)(h:eE GL x=some y)(z:jW n (s.val y)=true)(R:Rel GL g s a w):
 qw GL P o g a w (s.put d (.ep (s.val y).cells) none false):=by
 obtain⟨q,Q,c3⟩:=pA (cv R h) (fb z).2;generalize (s.val y).cells=cells at q c3;generalize A:(a.eval x).cells=f at q
 let ow:Nat->eT:=λj=>if j<cells.length then .g3 (f.getD j undef)else .junk
 have iK:∀j,j<cells.length->(w.alloc (.cells f t)).cell? (cl w.heap.size j)=some (f.getD j undef):=by
  intro j l;have p:j<f.size:=by have:=q.1;simp at this;omega
  rw[show cl w.heap.size j=⟨w.heap.size,j,none⟩from rfl,World.cell?_alloc_new];simp[p]
 have K:Rel GL (g.block w.heap.size ow) s a (w.alloc (.cells f t)):=R.alloc (λo u e=>by
  simp only[ow]at e;split at e
  next l=>
   injection e with e;subst e
   exact iK o l
  .cases e) (λab e=>by simp only[ow]at e;split at e<;>cases e)
 have L:Step g w (g.block w.heap.size ow) (w.alloc (.cells f t)):=Step.alloc R.gF;have N:VR (g.block w.heap.size ow) (.ep cells) (.pointer (some ⟨w.heap.size,0,none⟩)):=by
  refine .ep cells ⟨w.heap.size,0,none⟩ (λj=>f.getD j undef) rfl (λk z=>?_) (λj c l=>c3 c (bW l)) (λj c l=>?_)
  .rw[cA,aY.eI];simp only[ow,ax z]
  .have D:=b0 l;have p:j<f.toList.length:=by rw[<-q.1];exact D
   have hx:f.toList[j]?=some (f.getD j undef):=by simp at p;simp[p]
   exact(q.2 j c _ l hx).mono R.gF.mT
 refine⟨_,_,_,.inl ?_,by rw[r];exact K.put H N.e0 bT bT,L⟩;unfold execOp;rw[hop];simp[Instr.box,qx,A]
def UD{t:TypeId}{n:Nat}{x:Operand}{y:eL}{d:Nat}(hop:o.op=.box t x)(f:o.dst=some d)(j:d<s.n)(h:eE GL x=some y)(l:jW n (s.val y)=true)(R:Rel GL g s a w):
 qw GL P o g a w ((s.fD d (s.val y).cells).put d (.lp d (s.G d) 0) none false):=by
 obtain⟨p,z,c3⟩:=pA (cv R h) (fb l).2;obtain⟨q,r,u⟩:=Dj (t:=t) j R p c3;refine⟨_,_,q,.inl ?_,by rw[f];exact r,u⟩;unfold execOp;rw[hop];simp[Instr.box,qx]
end
end
section
variable {GL:Nat->Option (List V)}{P:Program}
section
variable {g:aY}{s s':St}{a:Act}{w:World}{o:Oper}
def vd{v:V}(h:v.one=true):v.cells=[v]:=by cases v<;>first|rfl|(simp[V.one]at h)
def Er{t:TypeId}{n:Nat}{d:Addr}{x:Value}{w w':World}(f:ng P t=some n)(hx:x.cells.size=n)(j:(storeCells d x.cells.toList).run P w=.ok () w'):
 (storeVar t d x).run P w=.ok () w':=by
 simp only[storeVar,Sem.run_bind,fh f,Result.andThen_ok];rw[al (by rw[hx];simp)];exact j
def KJ{st f off n:Nat}{x:Operand}{y:eL}{ac:Value}{t:TypeId}(hn:ng P t=some n)(h:eE GL x=some y)(R:Rel GL g s a w)(A:jW n (s.val y)=true)(N:f<s.G st)
 (Q:off+n<=(s.loc st f).length) (ad:ER g (.lp st f off) ac):
 ∃w' g',(Instr.storeAt t ac (a.eval x)).run P w=.ok () w'/\
  Rel GL g' (if(s.val y).one=true then(s.h8 st f off (s.val y).cells).oh st f off y else s.h8 st f off (s.val y).cells) a w'/\Step g w g' w':=by
 obtain⟨D,ai⟩:=fb A;obtain⟨aA,a3,c3⟩:=pA (cv R h) ai;obtain⟨b,hb,rfl⟩:=ad;obtain⟨aB,a4,eh⟩:=R.loc st f N;obtain rfl:=ar (a4.symm.trans hb);have Wn:(a.eval x).cells.size=n:=by rw[<-D,aA.1];simp
 obtain⟨w',Xm,ab⟩:=oc P (a.eval x).cells.toList 0 w ⟨aB,off,none⟩ rfl (λy a5=>a3 y (by simpa using a5)) (λk A=>by
  have L:off+0+k< (s.loc st f).length:=by simp at A;omega
  obtain⟨_,u,K,_⟩:=eh.cell (off+0+k) _ (aa L);exact⟨⟨u,K⟩,eh.free _ L⟩)
 have hrel:=R.h8 (off:=off) (xs:=(a.eval x).cells.toList) (vs:=(s.val y).cells) N hb av (by simp;omega)
  (λk v z K a6=>⟨c3 v (bW K),aA.2 k v z K a6⟩) ab
 have p:Step g w g w':=Step.wrote (ow:=.sx st f) ab (λk A=>eh.bJ _ (by
  have bl:k< (a.eval x).cells.size:=by simpa using A
  show off+0+k<_;omega)) bT bT
 have d:(Instr.storeAt t (.pointer (some ⟨aB,off,none⟩)) (a.eval x)).run P w=.ok () w':=by
  exact Xl
 by_cases r:(s.val y).one=true
 .simp only[r,bP];cases y with
  |const v=>exact⟨w',g,d,hrel,p⟩
  |kp v=>exact⟨w',g,d,hrel,p⟩
  |tmp u=>
   simp only[St.val]at*
   have hx:x=.tmp u:=by
    exact bb4
   subst hx;by_cases H:s.fl u=true
   .have q:=vd r;have aC:n=1:=by rw[q]at D;simpa using D.symm
    subst aC;have a7:ER g (s.Z u) (a.tmps.getD u undef):=R.Z u;have aD:VR g (s.Z u) (a.tmps.getD u undef):=a7.od (by intro i j k e;rw[e]at r;simp[V.one]at r);have a0:=(aD.one r).1;have a1:=hrel.move (l:=.var u) (l':=.cell st f off) (v:=s.Z u) (x:=a.tmps.getD u undef) H ⟨rfl,rfl⟩ ⟨N,λbo e=>by
     cases (e.symm.trans hb);constructor
     .have:=ab.new 0 (a.tmps.getD u undef) (by rw[show(a.eval (.tmp u)).cells=_ from a0];rfl);simpa using this
     .simp only[St.h8,l2,oQ,bP];rw[kC _ _ _ _ (by rw[q];simpa using Q),ax (by rw[q];simp),q];simp⟩
    refine⟨w',g.ik (.var u) (.cell st f off),d,?_,p.trans Step.ik⟩;have a8:(((s.h8 st f off (s.Z u).cells).dP (.var u)).vK (.cell st f off))=(s.h8 st f off (s.Z u).cells).oh st f off (.tmp u):=by
     simp only[St.oh,St.dP,St.vK,St.h8,H]
    rw[<-a8];exact a1
   .refine⟨w',g,d,?_,p⟩;refine hrel.Df rfl rfl rfl rfl rfl rfl rfl rfl (λk e=>?_) (λa9 bi j e=>?_) (λ_ _ e=>e)
    .simp only[St.oh,eQ]at e;split at e
     .cases e
     .exact e
    .simp only[St.oh,l2]at e;split at e
     next a2=>
      obtain⟨rfl,rfl⟩:=a2;simp only[eQ]at e;split at e
      .exact absurd e H
      .exact e
     .exact e
 .rw[al r];exact⟨w',g,d,hrel,p⟩
def KK{id off n:Nat}{cells:List V}{x:Operand}{y:eL}{Q:Value}{t:TypeId}(hn:ng P t=some n)(h:eE GL x=some y)(R:Rel GL g s a w)(r:jW n (s.val y)=true)(ab:s.E.box id=some cells)
 (L:off+n<=cells.length) (ac:ER g (.bp id off) Q):
 ∃w' g',(Instr.storeAt t Q (a.eval x)).run P w=.ok () w'/\
  Rel GL g' (if(s.val y).one=true then(s.j1 id off cells (s.val y).cells).wX id off y else s.j1 id off cells (s.val y).cells) a w'/\Step g w g' w':=by
 obtain⟨A,ad⟩:=fb r;obtain⟨ai,a2,c3⟩:=pA (cv R h) ad;obtain⟨b,hb,rfl⟩:=ac.bp;obtain⟨aA,a3,eh⟩:=R.heap.box id cells ab;obtain rfl:=ar (a3.symm.trans hb);have Wn:(a.eval x).cells.size=n:=by rw[<-A,ai.1];simp
 obtain⟨w',Xm,N⟩:=oc P (a.eval x).cells.toList 0 w ⟨aA,off,none⟩ rfl (λy a4=>a2 y (by simpa using a4)) (λk r=>by
  have K:off+0+k<cells.length:=by simp at r;omega
  obtain⟨_,u,H,_⟩:=eh.cell (off+0+k) _ (aa K);exact⟨⟨u,H⟩,eh.free _ K⟩)
 have hrel:=R.j1 (off:=off) (xs:=(a.eval x).cells.toList) (vs:=(s.val y).cells) ab hb av (by simp;omega)
  (λk v z H a5=>⟨c3 v (bW H),ai.2 k v z H a5⟩) N
 have f:Step g w g w':=Step.wrote (ow:=.eh id) N (λk r=>eh.bJ _ (by
  have a8:k< (a.eval x).cells.size:=by simpa using r
  show off+0+k<_;omega)) bT bT
 have d:(Instr.storeAt t (.pointer (some ⟨aA,off,none⟩)) (a.eval x)).run P w=.ok () w':=by
  exact Xl
 by_cases q:(s.val y).one=true
 .simp only[q,bP];cases y with
  |const v=>exact⟨w',g,d,hrel,f⟩
  |kp v=>exact⟨w',g,d,hrel,f⟩
  |tmp u=>
   simp only[St.val]at*
   have hx:x=.tmp u:=by
    exact bb4
   subst hx;by_cases D:s.fl u=true
   .have p:=vd q;have aB:n=1:=by rw[p]at A;simpa using A.symm
    subst aB;have a6:ER g (s.Z u) (a.tmps.getD u undef):=R.Z u;have aC:VR g (s.Z u) (a.tmps.getD u undef):=a6.od (by intro i j k e;rw[e]at q;simp[V.one]at q);have aD:=(aC.one q).1;have a0:=hrel.move (l:=.var u) (l':=.iK id off) (v:=s.Z u) (x:=a.tmps.getD u undef) D ⟨rfl,rfl⟩ ⟨aQ cells off (s.Z u).cells,by simp[St.j1,aK.set,eQ],by rw[kC _ _ _ _ (by rw[p];simpa using L),ax (by rw[p];simp),p];simp,λa9 e=>by
     cases (e.symm.trans hb);have:=N.new 0 (a.tmps.getD u undef) (by rw[show(a.eval (.tmp u)).cells=_ from aD];rfl);simpa using this⟩
    refine⟨w',g.ik (.var u) (.iK id off),d,?_,f.trans Step.ik⟩;have a7:(((s.j1 id off cells (s.Z u).cells).dP (.var u)).vK (.iK id off))=(s.j1 id off cells (s.Z u).cells).wX id off (.tmp u):=by
     simp only[St.wX,St.dP,St.vK,St.j1,D]
    rw[<-a7];exact a0
   .refine⟨w',g,d,?_,f⟩;refine hrel.Df rfl rfl rfl rfl rfl rfl rfl rfl (λk e=>?_) (λ_ _ _ e=>e) (λa1 j e=>?_)
    .simp only[St.wX,eQ]at e;split at e
     .cases e
     .exact e
    .simp only[St.wX]at e;by_cases dW:a1=id
     .subst dW;rw[bh]at e;simp only[eQ]at e;split at e
      .exact absurd e D
      .exact e
     .rw[bD _ _ dW]at e;exact e
 .rw[al q];exact⟨w',g,d,hrel,f⟩
def MV{t:TypeId}{n:Nat}{z x:Operand}{bad y:eL}(hop:o.op=.store t z x)(A:o.dst=none)(H:ng P t=some n)(K:eE GL z=some bad)(h:eE GL x=some y)
 (d:s.store n (s.val bad) y=some s') (R:Rel GL g s a w):qw GL P o g a w s':=by
 have u:=cv R K;have fin:∀{f l},(Instr.storeAt t (a.eval z) (a.eval x)).run P w=.ok () f->Rel GL l s' a f->Step g w l f->qw GL P o g a w s':=by
  intro f l q j r;refine⟨undef,f,l,.inr ⟨?_,rfl⟩,by rw[A];exact j,r⟩;unfold execOp;rw[hop];simp[q]
 unfold St.store at d;split at d
 next st N off D=>
  split at d
  next p=>rw[D]at u;obtain⟨f,l,q,j,r⟩:=KJ H h R p.1 p.2.1 p.2.2 u;rw[ar d]at j;exact fin q j r
  .cases d
 next id off D=>
  split at d
  next cells L=>
   split at d
   next p=>rw[D]at u;obtain⟨f,l,q,j,r⟩:=KK H h R p.1 L p.2 u;rw[ar d]at j;exact fin q j r
   .cases d
  .cases d
 .cases d
end
end
section
variable {GL:Nat->Option (List V)}{P:Program}
structure jy(g:aY)(sz:Nat)(xs:List V)(ys:List Value):Prop where
 len:ys.length=xs.length*sz
 ok:∀(i:Nat) v,xs[i]?=some v->jW sz v=true
 cell:∀(i:Nat) v (j:Nat) c y,xs[i]?=some v->v.cells[j]?=some c->ys[i*sz+j]?=some y->VR g c y/\y.oneCell'=true
def AR(vs:List Value):∀(cells:List Value)(off:Nat),(nh cells off vs).length=cells.length:=by
 induction vs with
 |nil=>intro cells off;rfl
 |cons v vs ih=>intro cells off;simp[nh,ih]
def FN(vs:List Value):∀(cells:List Value)(off j:Nat),off+vs.length<=cells.length->
 (nh cells off vs)[j]?=if off<=j/\j<off+vs.length then vs[j-off]? else cells[j]?:=by
 induction vs with
 |nil=>intro cells off j _;simp only[nh,aX];rw[al av]
 |cons v vs ih=>
  intro cells off j h;simp only[aM]at h;rw[nh,ih _ _ _ (by simp;omega)];exact WI
def ve{i n sz j:Nat}(d:i<n)(f:j<sz):i*sz+j<n*sz:=by
 have:(i+1)*sz<=n*sz:=cj _ d;rw[dG]at this;omega
def jy.set{g:aY}{sz:Nat}{xs:List V}{ys:List Value}(h:jy g sz xs ys){i:Nat}(z:i<xs.length){v:V}{x:Value}(p:jW sz v=true)(hx:fJ g v.cells x.cells.toList)(h1:∀y∈x.cells,y.oneCell'=true):
 jy g sz (xs.set i v) (nh ys (i*sz) x.cells.toList) where
 len:=by rw[AR,h.len];simp
 ok j u e:=by
  rw[kQ]at e;split at e
  .cases e;exact p
  .exact h.ok j u e
 cell j u k c y d l f:=by
  have hlen:x.cells.toList.length=sz:=by rw[<-hx.1,(fb p).1]
  have hle:i*sz+sz<=ys.length:=by
   rw[h.len];have:(i+1)*sz<=xs.length*sz:=cj _ z
   rwa [dG]at this
  rw[FN _ _ _ _ av]at f;rw[kQ]at d;split at d
  next q=>
   subst q;cases d;have A:k<sz:=by rw[<- (fb p).1];exact b0 l
   rw[ax av,show i*sz+k-i*sz=k from av]at f;exact⟨hx.2 k c y l f,h1 y (by simpa using bW f)⟩
  next q=>
   have H:=b0 d;have A:k<sz:=by rw[<- (fb (h.ok j u d)).1];exact b0 l
   have r:¬(i*sz<=j*sz+k/\j*sz+k<i*sz+x.cells.toList.length):=by
    rintro⟨K,D⟩;rw[hlen]at D;rcases Nat.lt_or_gt_of_ne q with t|t
    .have:(i+1)*sz<=j*sz:=cj _ t;rw[dG]at this;omega
    .have:(j+1)*sz<=i*sz:=cj _ t;rw[dG]at this;omega
   rw[al r]at f;exact h.cell j u k c y d l f
def jy.od{g g':aY}{sz:Nat}{xs:List V}{ys:List Value}(h:jy g sz xs ys)(hle:g.Le g'){b off cap:Nat}(p:xs.length<=cap)
 (q:∀(k:Nat) y,ys[k]?=some y->g'.bJ b (off+k)=.g3 y):VR g' (.sl sz xs) (.slice (some (cl b off)) xs.length cap):=by
 refine .sl sz xs (cl b off) cap (λk=>ys.getD k undef) rfl p (λi v e=>(fb (h.ok i v e)).1) (λk r=>?_) (λi v j c d l=>?_) (λi v j c d l=>?_)
 .have:k<ys.length:=by rw[h.len];exact r
  have f:ys[k]?=some ys[k]:=bT;simpa[cl,f]using q k ys[k] f
 .exact bO.1 (fb (h.ok i v d)).2 c (bW l)
 .have t:j<sz:=by rw[<- (fb (h.ok i v d)).1];exact b0 l
  have:i*sz+j<ys.length:=by rw[h.len];exact ve (b0 d) t
  have f:ys[i*sz+j]?=some ys[i*sz+j]:=bT;have:=(h.cell i v j c _ d l f).1.mono hle;simpa[f]using this
def uo{g:aY}{s:St}{a:Act}{w:World}(R:Rel GL g s a w){sz:Nat}:∀{parts:List (Nat×Operand)} {ps:List (Nat×eL)} {xs out:List V} {ys:Array Value},um GL parts=some ps->jy g sz xs ys.toList->iQ s sz xs ps=some out->
 ∃zs,Instr.fill (λi=>some (i*sz,sz)) ys (parts.map λ(i,x)=>(i,a.eval x))=some zs/\jy g sz out zs.toList/\out.length=xs.length
 |[],ps,xs,out,ys,d,p,f=>by
  simp[um]at d;subst d;simp[iQ]at f;subst f;exact⟨ys,rfl,p,rfl⟩
 |(i,x)::parts,ps,xs,out,ys,d,p,f=>by
  simp only[um]at d;split at d
  next y l D H=>
   cases d;simp only[iQ]at f;split at f
   next q=>
    obtain⟨u,z⟩:=fb q.1;obtain⟨A,K,c3⟩:=pA (cv R D) z;have ac:(a.eval x).cells.size=sz:=by rw[<-u,A.1];simp
    have hle:i*sz+sz<=ys.size:=by
     have L:=p.len;have:(i+1)*sz<=xs.length*sz:=cj _ q.2;rw[dG]at this;simp at L;omega
    simp only[bt,Instr.fill];rw[al (by simp;omega)];have r:=Dh (a.eval x).cells.toList 0 (i*sz) ys;simp only[di]at r;have t:(Array.foldl (λcs (x:Value×Nat)=>match x with|(c,j)=>cs.setIfInBounds (i*sz+j) c) ys (a.eval x).cells.zipIdx).toList=nh ys.toList (i*sz) (a.eval x).cells.toList:=by
     rw[<-r,<-l7,oF]
    obtain⟨zs,N,Q,ab⟩:=uo R H (by rw[t];exact p.set q.2 q.1 A K) f;exact⟨zs,N,Q,by rw[ab];simp⟩
   .cases f
  .cases d
def FO{t:TypeId}{z:V}(h:Di P t=some z)(g:aY):∃zv:Value,(P.info? t).bind (·.zero)=some zv/\fJ g z.cells zv.cells.toList/\(∀c∈z.cells,c.one=true)/\∀y∈zv.cells,y.oneCell'=true:=by
 unfold Di at h;split at h
 next zs _ f=>cases h;exact og f g
 next j _ f=>obtain rfl:=ar h;obtain⟨zv,p,q,l,r⟩:=og f g;have d:j.one=true:=l j (by simp);exact⟨zv,p,by rw[vd d];exact q,by rw[vd d];exact l,r⟩
 .cases h
section
variable {g:aY}{s s':St}{a:Act}{w:World}{o:Oper}
def uq{sz:Nat}{xs:List V}{cells:Array Value}{t:TypeId}{d cap:Nat}(H:d<s.n)(R:Rel GL g s a w)(r:xs.length<=cap)(p:cells.size=cap*sz)
 (h:jy g sz xs (cells.toList.take (xs.length*sz))):
 ∃g',Rel GL g' (s.put d (.sl sz xs) none true) (a.put (some d) (.slice (some (cl w.heap.size 0)) xs.length cap)) (w.alloc (.cells cells t))/\Step g w g' (w.alloc (.cells cells t))/\
  (∀o,cells.size<=o->g'.bJ w.heap.size o=.junk):=by
 let ow:Nat->eT:=λj=>match cells[j]? with
  |some x=>if j<xs.length*sz then .g3 x else .tail (.var d)
  |none=>.junk
 have K:Rel GL (g.block w.heap.size ow) s a (w.alloc (.cells cells t)):=R.alloc (λo x e=>by
  show(w.alloc _).cell? ⟨w.heap.size,o,none⟩=_;rw[World.cell?_alloc_new];simp only[ow]at e;split at e
  next y f=>
   split at e
   .injection e with e;subst e;exact f
   .cases e
  .cases e) (λaC e=>by
  simp only[ow]at e;split at e
  .split at e<;>cases e
  .cases e)
 have L:Step g w (g.block w.heap.size ow) (w.alloc (.cells cells t)):=Step.alloc R.gF;have hle:xs.length*sz<=cells.size:=by rw[p];exact cj _ r
 have N:VR (g.block w.heap.size ow) (.sl sz xs) (.slice (some (cl w.heap.size 0)) xs.length cap):=by
  refine h.od R.gF.mT r (λk y f=>?_);rw[dB]at f;split at f
  next u=>
   have z:cells[k]?=some y:=by simpa using f
   rw[aY.eI];simp only[ow,cA,z,u,bP]
  .cases f
 refine⟨_,K.put H N.e0 bT (λ_=>?_),L,λo Q=>?_⟩
 .intro aA aB aD len ab q l k a0 ac;injection q with q A
  injection l with l ad ai
  injection l with l
  subst q A l ad ai;have u:k<cells.size:=by rw[p];exact ac
  have D:cells[k]?=some cells[k]:=bT;refine⟨?_,⟨cells[k],?_⟩,?_⟩
  .simp only[cl,cA];rw[aY.eI];simp only[ow,D];rw[al av]
  .simp only[cl,cA];rw[World.cell?_alloc_new];exact D
  .simp only[cl,cA];exact World.frozen?_alloc_new _ _ _ _
 .rw[aY.eI];simp only[ow,gM Q]
def range_zero(n sz:Nat)(z:Array Value)(d:z.size=sz)(t:0<sz):((Array.range (n*sz)).map (λi=>z[i%z.size]!)).toList=(List.replicate n z.toList).flatten:=by
 apply iU;intro j;simp only[jU,po,bw];by_cases p:j<n*sz
 .have f:j%sz<z.size:=by rw[d];exact fI _ t
  rw[lJ p];have key:∀(m k:Nat),k<m*sz->(List.replicate m z.toList).flatten[k]?=z[k%sz]?:=by
   intro m;induction m with
   |zero=>intro k q;simp at q
   |succ m ih=>
    intro k q;rw[fS,dl,fG];have r:z.toList.length=sz:=by simpa using d
    rw[r];split
    next l=>rw[Nat.mod_eq_of_lt l];simp
    next l=>rw[ih (k-sz) (by rw[dG]at q;omega),Nat.mod_eq_sub_mod (a:=k) av]
  rw[key n j p];rw[d,bF,jP z (j%sz) f,iC f]
 .rw[b1 (by simpa using p),b1 (by simp[d];omega)];rfl
def jy.replicate{g:aY}{sz n:Nat}{z:V}{zv:Value}(l:jW sz z=true)(K:0<sz)(p:fJ g z.cells zv.cells.toList)(D:∀y∈zv.cells,y.oneCell'=true):
 jy g sz (List.replicate n z) ((Array.range (n*sz)).map (λi=>zv.cells[i%zv.cells.size]!)).toList:=by
 have q:zv.cells.size=sz:=by rw[<- (fb l).1,p.1];simp
 refine⟨bT,λi v e=>?_,λi v j c y r t d=>?_⟩
 .obtain⟨_,rfl⟩:=l9.1 (bW e);exact l
 .obtain⟨_,rfl⟩:=l9.1 (bW r);have u:j<sz:=by rw[<- (fb l).1];exact b0 t
  have H:i<n:=by simpa using b0 r
  have A:i*sz+j<n*sz:=ve H u;simp only[jU,po,bw,lJ A,bF]at d;have hm:(i*sz+j)%zv.cells.size=j:=by rw[q,jX,Nat.mul_add_mod,Nat.mod_eq_of_lt u]
  rw[hm]at d;have f:j<zv.cells.size:=av;rw[jP zv.cells j f]at d;cases d;exact⟨p.2 j c _ t (by simp[f]),D _ bT⟩
def KM{t e:TypeId}{sz n:Nat}{z:V}{parts:Array (Nat×Operand)}{ps:List (Nat×eL)}{xs:List V}{d:Nat}(hop:o.op=.buildSlice t n parts)(j:o.dst=some d)(A:d<s.n)
 (D:P.underlying t=some (.slice e)) (q:ng P e=some sz) (H:Di P e=some z) (r:um GL parts.toList=some ps) (K:n*sz<=16777216) (l:0<sz) (p:jW sz z=true)
 (L:iQ s sz (List.replicate n z) ps=some xs) (R:Rel GL g s a w):qw GL P o g a w (s.put d (.sl sz xs) none true):=by
 obtain⟨u,z1,N,aA,Q⟩:=FO H g;obtain⟨zs,f1,y,ab⟩:=uo (g:=g) R (ys:=(Array.range (n*sz)).map (λi=>u.cells[i%u.cells.size]!)) r (jy.replicate p l N Q) L;have hlen:xs.length=n:=by rw[ab];simp
 have f:zs.size=n*sz:=by have:=y.len;rw[hlen]at this;simpa using this
 obtain⟨ac,ad,ai,_⟩:=uq (sz:=sz) (xs:=xs) (cells:=zs) (t:=e) (cap:=n) A R av f (by
  rw[aE (by rw[hlen];simp[f])];exact y)
 refine⟨_,_,ac,.inl ?_,by rw[j];exact ad,ai⟩;unfold execOp;rw[hop];refine(by
  rw[Sem.run_bind];have:(Instr.buildSlice t n (parts.map λ(i,x)=>(i,a.eval x))).run P w=.ok (.slice (some (cl w.heap.size 0)) xs.length n) (w.alloc (.cells zs e)):=by
   simp only[Instr.buildSlice,Sem.run_bind,run_underlying D,Result.andThen_ok,fh q];rw[al av];have fin:∀{c:Array Value},(do let a<-newRow e c;pure (Value.slice (some a) n n):Sem Value).run P w=.ok (.slice (some (cl w.heap.size 0)) xs.length n) (w.alloc (.cells c e)):=by
    intro c;simp[newRow,hlen,cl]
   exact bb2
  rw[this];rfl)
end
end
section
variable {GL:Nat->Option (List V)}{P:Program}
def AS(s:St)(l:Loc):(s.dP l).iE l=false:=by
 cases l<;>simp[St.dP,St.iE,l2]
section
variable {g:aY}{s s':St}{a:Act}{w w':World}{o:Oper}
def Rel.KN(h:Rel GL g s a w){b off:Nat}{ys:List Value}{l:Loc}(A:s.iE l=false)(hw:oM w w' b off ys)(ho:∀k,k<ys.length->g.bJ b (off+k)=.tail l):Rel GL g s a w':=by
 refine {size:=h.size,gi:=h.gi.mono λD d f=>⟨d,hw.map D _ rfl f⟩,Z:=h.Z,gF:=h.gF.wrote hw ho bT,heap:=?_,loc:=?_,jc:=h.jc,jx:=?_,gH:=?_,j0:=h.j0,gI:=?_,ie:=?_}
 .refine⟨λid cells e=>let⟨q,d,f⟩:=h.heap.box id cells e;⟨q,d,f.eR hw ho bT⟩,λid cells j c q x d f e3 p z=>?_,λid kvs e=>let⟨q,o,d,f,e3,p,z⟩:=h.heap.map id kvs e;⟨q,o,d,f,hw.map _ _ p e3,p,z⟩,h.heap.Y⟩;obtain⟨u,e6,e7⟩:=h.heap.box id cells d;obtain rfl:=ar (e6.symm.trans p);rw[eR hw ho (e7.bJ j (b0 e3)) (by simp)]at z;refine(h.heap.tail id cells j c u x d f e3 p z).wrote hw ho ?_;intro e;injection e with e;subst e;simp[St.iE,f]at A
 .intro st gn y;obtain⟨q,d,f⟩:=h.loc st gn y;exact⟨q,d,f.eR hw ho bT⟩
 .intro t e;refine(h.jx t e).wrote hw ho ?_;intro r;injection r with r;subst r;simp[St.iE,e]at A
 .intro st gn j c q x d f e3 p;have y:gn<s.G st:=by
   exact Xa
  obtain⟨u,e6,e7⟩:=h.loc st gn y;obtain rfl:=ar (e6.symm.trans e3);rw[eR hw ho (e7.bJ j (b0 f)) (by simp)]at p;refine(h.gH st gn j c u x d f e3 p).wrote hw ho ?_;intro r;injection r with r;subst r;simp[St.iE,d]at A
 .intro t st gn j e;obtain⟨y,H⟩:=h.gI t st gn j e;refine⟨y,λq e3=>?_⟩;obtain⟨h4,h5⟩:=H q e3;obtain⟨u,e6,e7⟩:=h.loc st gn y;exact aaO
 .intro t id j e;obtain⟨cells,d,f,e3⟩:=h.ie t id j e;refine⟨cells,d,f,λq p=>?_⟩;obtain⟨u,e6,e7⟩:=h.heap.box id cells d;obtain rfl:=ar (e6.symm.trans p);rw[eR hw ho (e7.bJ j (b0 f)) bT];exact e3 u p
def aY.pT(g:aY)(b off:Nat)(ys:List Value):aY:=
 {g with bJ:=λd o=>if d=b/\off<=o/\o<off+ys.length then .g3 (ys.getD (o-off) undef)else g.bJ d o}
def Je(g:aY)(b off:Nat)(ys:List Value){k:Nat}{y:Value}(h:ys[k]?=some y):(g.pT b off ys).bJ b (off+k)=.g3 y:=by
 have d:=b0 h;show(if b=b/\off<=off+k/\off+k<off+ys.length then eT.g3 (ys.getD (off+k-off) undef)else _)=_;rw[ax ⟨rfl,av,av⟩,show off+k-off=k from av];simp[h]
def qy{g:aY}{b off:Nat}{ys:List Value}{d o:Nat}{ow:eT}{l:Loc}(ho:∀k,k<ys.length->g.bJ b (off+k)=.tail l)(h:g.bJ d o=ow)(hne:ow≠.tail l):(g.pT b off ys).bJ d o=ow:=by
 simp only[aY.pT];rw[al]
 .exact h
 .exact W8
def qz(g:aY)(b off:Nat)(ys:List Value)(d o:Nat):(∃k y,d=b/\o=off+k/\ys[k]?=some y/\(g.pT b off ys).bJ d o=.g3 y)\/(¬(d=b/\off<=o/\o<off+ys.length)/\(g.pT b off ys).bJ d o=g.bJ d o):=by
 by_cases h:d=b/\off<=o/\o<off+ys.length
 .obtain⟨rfl,j,l⟩:=h;have f:ys[o-off]?=some ys[o-off]:=bT;refine .inl ⟨o-off,ys[o-off],rfl,av,f,?_⟩;have:=Je g d off ys f
  rwa [show off+(o-off)=o from av]at this
 .exact .inr ⟨h,by simp only[aY.pT,al h]⟩
def Rel.pT(h:Rel GL g s a w){b off:Nat}{ys:List Value}{l:Loc}(H:s.iE l=false)(u:∀k,k<ys.length->g.bJ b (off+k)=.tail l)
 (R:∀(k:Nat) y,ys[k]?=some y->w.cell? (cl b (off+k))=some y):Rel GL (g.pT b off ys) s a w/\Step g w (g.pT b off ys) w:=by
 have hle:g.Le (g.pT b off ys):=⟨λ_ _ _ e=>qy u e bT,λ_ _ e=>qy u e bT,λ_ _ e=>e⟩;have eh:∀{d:Nat} {ow:eT} {cells:List V},fQ g w d ow cells->ow≠.tail l->fQ (g.pT b off ys) w d ow cells:=λhb N=>
  ⟨λj=>qy u (hb.mf j) N,λj c ab=>let⟨h1,x,f,ac⟩:=hb.cell j c ab;⟨h1,x,f,ac.mono hle⟩,hb.kl⟩
 have r:∀{k v x},dS g w k v x->k≠l->dS (g.pT b off ys) w k v x:=by
  intro k v x ad Q sz ai aA len cap aB hx j h1 f;obtain⟨p,q,z⟩:=ad sz ai aA len cap aB hx j h1 f;exact⟨qy u p (by intro e;injection e with e;exact Q e),q,z⟩
 refine⟨{
  size:=h.size,gi:=h.gi.mono λD p q=>⟨qy u p bT,q⟩,Z:=λt=>(h.Z t).mono hle (λ_ _ _ e=>e),gF:=⟨λn c e=>(h.gF.kp n c e).mono hle,λd o x e=>?_,λd aC e=>?_,λd o e=>?_,h.gF.kB⟩,heap:=⟨λid cells e=>let⟨d,p,q⟩:=h.heap.box id cells e;⟨d,p,eh q bT⟩,λid cells j c d x p q z A K=>r (h.heap.tail id cells j c d x p q z A K) ?_,λid kvs e=>let⟨d,o,p,q,z,A,K⟩:=h.heap.map id kvs e;⟨d,o,p,qy u q bT,z,A,K.mono hle⟩,h.heap.Y⟩,loc:=λst L aD=>let⟨d,p,q⟩:=h.loc st L aD;⟨d,p,eh q bT⟩,jc:=h.jc,jx:=λt e=>r (h.jx t e) ?_,gH:=λst L j c d x p q z A=>r (h.gH st L j c d x p q z A) ?_,j0:=h.j0,gI:=h.gI,ie:=h.ie},⟨hle.g3,hle.eY,hle.hb,λd o e=>⟨qy u e bT,rfl,rfl⟩,λ_ _ _ _ e=>e,λd o e _=>?_,an _,.refl _,λ_ _ _=>rfl⟩⟩
 .rcases qz g b off ys d o with⟨k,y,rfl,rfl,h1,f⟩|⟨_,f⟩
  .rw[f]at e;injection e with e;subst e;exact R k y h1
  .rw[f]at e;exact h.gF.g3 d o x e
 .rcases qz g b off ys d 0 with⟨k,y,rfl,Q,h1,f⟩|⟨_,f⟩
  .rw[f]at e;cases e
  .rw[f]at e;exact h.gF.eY d aC e
 .rcases qz g b off ys d o with⟨k,y,rfl,rfl,h1,f⟩|⟨_,f⟩
  .exact h.gF.ir d _ (by rw[u k (b0 h1)];simp)
  .rw[f]at e;exact h.gF.ir d o e
 .rintro rfl;simp[St.iE,q]at H
 .rintro rfl;simp[St.iE,e]at H
 .rintro rfl;simp[St.iE,p]at H
 .rcases qz g b off ys d o with⟨k,y,rfl,rfl,h1,f⟩|⟨_,f⟩
  .rw[f]at e;cases e
  .rw[f]at e;exact e
def Rel.KO(h:Rel GL g s a w){l:Loc}(l':Loc)(q:s.iE l=false):Rel GL (g.ik l l') s a w:=by
 refine {
  size:=h.size,gi:=h.gi.mono λD d f=>⟨Dd.2 d,f⟩,Z:=λt=>(h.Z t).mono pz (λ_ _ _ e=>e),gF:=h.gF.ik,heap:=⟨λid cells e=>let⟨b,h1,p⟩:=h.heap.box id cells e;⟨b,h1,p.Jb⟩,λid cells j c b y d f r u A=>(h.heap.tail id cells j c b y d f r u A).nG ?_,λid kvs e=>let⟨b,o,h1,p,H,K,L⟩:=h.heap.map id kvs e;⟨b,o,h1,AI.2 p,H,K,L.mono pz⟩,h.heap.Y⟩,loc:=λst z e=>let⟨b,h1,p⟩:=h.loc st z e;⟨b,h1,p.Ja⟩,jc:=h.jc,jx:=λt e=>(h.jx t e).nG ?_,gH:=λst z j c b y d f r u=>(h.gH st z j c b y d f r u).nG ?_,j0:=h.j0,gI:=h.gI,ie:=h.ie}
 .rintro rfl;simp[St.iE,f]at q
 .rintro rfl;simp[St.iE,e]at q
 .rintro rfl;simp[St.iE,d]at q
def jy.append{sz:Nat}{xs ys:List V}{p q:List Value}(h:jy g sz xs p)(l:jy g sz ys q):jy g sz (xs++ys) (p++q) where
 len:=by rw[ae,ae,h.len,l.len,dJ]
 ok i v e:=by
  rw[fG]at e;split at e
  .exact h.ok i v e
  .exact l.ok _ v e
 cell i v j c y f r d:=by
  rw[fG]at f d;rw[h.len]at d;split at f
  next t=>
   have u:j<sz:=by rw[<- (fb (h.ok i v f)).1];exact b0 r
   rw[ax (ve t u)]at d;exact h.cell i v j c y f r d
  next t=>have hle:xs.length*sz<=i*sz:=cj _ av;rw[al av]at d;refine l.cell (i-xs.length) v j c y f r ?_;rw[<-d,Nat.sub_mul];congr 1;omega
def wi(R:Rel GL g s a w){sz:Nat}{xs:List V}{x:Value}(h:ER g (.sl sz xs) x):∃p:List Value,jy g sz xs p/\(Builtin.firstCells sz xs.length x).run P w=.ok p.toArray w/\
 ∃base cap,x=.slice base xs.length cap/\xs.length<=cap/\(∀d,base=some d->d.spot=none/\∀(k:Nat) y,p[k]?=some y->g.bJ d.block (d.off+k)=.g3 y)/\(base=none->cap=0):=by
 rcases h.sl with⟨rfl,rfl⟩|⟨d,cap,z,rfl,A,r,D,q,H,Q⟩
 .exact⟨[],⟨bT,bT,bT⟩,rfl,none,0,rfl,bT,bT,λ_=>rfl⟩
 .refine⟨(List.range (xs.length*sz)).map z,⟨bT,λi v e=>?_,λi v j c y l t K=>?_⟩,?_,some d,cap,rfl,r,λac e=>?_,bT⟩
  .simp only[jW,be,i4,bO];refine⟨D i v e,λc ab=>?_⟩;obtain⟨j,u⟩:=fZ.1 ab;exact H i v j c e u
  .have u:j<sz:=by rw[<-D i v l];exact b0 t
   have L:=ve (b0 l) u;simp[L]at K;subst K;have N:=Q i v j c l t;exact⟨N,(N.one (H i v j c l t)).2⟩
  .simp only[Builtin.firstCells];exact run_loadCells P _ w d z A (λk f=>R.gF.g3 _ _ _ (q k f))
  .injection e with e;subst e
   refine⟨A,λk y e=>?_⟩;have f:=b0 e;simp at f;simp[f]at e;subst e;exact q k f
def MW(R:Rel GL g s a w){sz:Nat}{v:V}{x:Value}{ys:List V}(h:nA sz v=some ys)(hx:ER g v x):∃q:List Value,jy g sz ys q/\(Builtin.lenOf x).run P w=.ok ys.length w/\
 (Builtin.firstCells sz ys.length x).run P w=.ok q.toArray w:=by
 cases v<;>simp only[nA]at h<;>first|(cases h;done)|skip
 next l=>
  split at h
  next d=>
   subst d;cases h;rw[hx.str];refine⟨l.map λb=>.int .u8 b.toNat,⟨bT,λi v e=>?_,λi v j c y f e2 e3=>?_⟩,by simp[Builtin.lenOf,ByteArray.size],?_⟩
   .simp at e;obtain⟨b,_,rfl⟩:=e;rfl
   .simp at f;obtain⟨b,hb,rfl⟩:=f;cases j with
    |zero=>
     exact Xn
    |succ j=>simp[V.cells]at e2
   .simp only[Builtin.firstCells,au,Sem.run_pure];congr 1;have:(⟨l.toArray⟩:ByteArray).extract 0 l.length=⟨l.toArray⟩:=by
     apply ByteArray.ext;simp[mX]
    rw[this];apply jI;simp
  .cases h
 next t u=>
  split at h
  next d=>subst d;cases h;obtain⟨p,d,r,base,cap,rfl,_⟩:=wi (P:=P) R hx;exact⟨p,d,rfl,r⟩
  .cases h
 .cases h;rw[hx.aP];exact⟨[],⟨bT,bT,bT⟩,rfl,rfl⟩
def KP(n:Nat):∀(r c:Nat),c<n->Builtin.growBy n r c<=n+(n+768)/4:=by
 intro r;induction r with
 |zero=>intro c h;simp only[Builtin.growBy];omega
 |succ r ih=>
  intro c h;simp only[Builtin.growBy];rw[al av];by_cases d:c+(c+768)/4<n
  .exact ih _ d
  .cases r with
   |zero=>simp only[Builtin.growBy];omega
   |succ r=>simp only[Builtin.growBy];rw[ax av];omega
def Ho{Mx cap:Nat}(h:cap<Mx):Builtin.nextslicecap Mx cap<=2*Mx+512:=by
 unfold Builtin.nextslicecap;split
 .omega
 .split
  .omega
  .have:=KP Mx 4 cap h;omega
def AT(z:Array Value)(n:Nat):(Builtin.zeroCells z n).size=n*z.size:=by simp[Builtin.zeroCells]
def UE(d:TypeDesc)(h:∀k,d≠.int k):(match d with|TypeDesc.int _=>true|_=>false)=false:=by
 cases d<;>first|rfl|exact absurd rfl (h _)
def AU(base:Option Addr)(off:Nat)(q:List Value)(v:Value):Sem Value:=
 match base with
 |some d=>do storeCells (d.add off) q;pure v
 |none=>pure v
def wj{ts:Array TypeId}{t u e:TypeId}{d:TypeDesc}{ty:TypeId}{sz:Nat}{base:Option Addr}{len cap n:Nat}{x:Value}{p q:List Value}{zv:Value}
 (h1:ts[0]?=some t) (h2:ts[1]?=some u) (K:P.underlying t=some (.slice e)) (L:P.underlying u=some d) (N:∀k,d≠.int k) (y:ng P e=some sz) (H:P.bytesOf e<=65536)
 (Q:(P.info? e).bind (·.zero)=some zv) (hlen:(Builtin.lenOf x).run P w=.ok n w) (l:∀W:World,(∀j,W.cell? j=w.cell? j)->(Builtin.firstCells sz n x).run P W=.ok q.toArray W)
 (hold:¬len+n<=cap->∀W:World,(∀j,W.cell? j=w.cell? j)->(Builtin.firstCells sz len (.slice base len cap)).run P W=.ok p.toArray W) (z:len+n<=iv):
 (Builtin.append_ ts ty #[.slice base len cap,x]).run P w=
  if len+n<=cap then(AU base (len*sz) q (.slice base (len+n) cap)).run P w
  else .ok (.slice (some (cl w.heap.size 0)) (len+n) ((Question.appendCap (len+n) cap e).cut (w.tape w.drawn (.appendCap (len+n) cap e))))
   (w.drew.alloc (.cells (p.toArray++q.toArray++Builtin.zeroCells zv.cells ((Question.appendCap (len+n) cap e).cut (w.tape w.drawn (.appendCap (len+n) cap e))-(len+n))) e)):=by
 unfold Builtin.append_;rw[h1,h2];have hint:=UE d N;simp only[fy,ey,ez];rw[Sem.run_bind,run_underlying K,Result.andThen_ok];simp only[];rw[Sem.run_bind,fh y,Result.andThen_ok,Sem.run_bind,run_underlying L,Result.andThen_ok];simp only[hint,pure_bind,bK,cH,bB,bP];rw[Sem.run_bind,hlen,Result.andThen_ok];by_cases f:len+n<=cap
 .rw[ax f,ax f,Sem.run_bind,l w (λ_=>rfl),Result.andThen_ok];cases base with
  |none=>rfl
  |some j=>rfl
 .rw[al f,al f];cases A:P.info? e with
  |none=>simp[ng,A]at y
  |some i=>
   have r:∀W:World,(typeInfo e).run P W=.ok i W:=λW=>by simp[typeInfo,A]
   have Hp:i.bytes<=65536:=by simpa[Program.bytesOf,A]using H
   have D:IntKind.i64.max=9223372036854775807:=du;unfold iv at z;rw[Sem.run_bind,r,Result.andThen_ok,al (by rw[D];omega)];rw[Sem.run_bind,r,Result.andThen_ok];have R:Builtin.nextslicecap (len+n) cap*i.bytes<=2^48:=by
    exact WX
   rw[al av,Sem.run_bind,run_choose];simp only[Question.forced,bK,cH,Result.andThen_ok];rw[Sem.run_bind,r,Result.andThen_ok,Sem.run_bind,run_askRoom,Result.andThen_ok,Sem.run_bind];rw[show({w with drawn:=w.drawn+1}:World)=w.drew from rfl,hold f w.drew (λ_=>rfl),Result.andThen_ok,Sem.run_bind,l w.drew (λ_=>rfl),Result.andThen_ok,Sem.run_bind,lD Q,Result.andThen_ok];simp[newRow,cl];rfl
end
end
section
variable {GL:Nat->Option (List V)}{P:Program}
section
variable {g:aY}{s s':St}{a:Act}{w w':World}{o:Oper}
def qA{n:Nat}{x:Value}{sz:Nat}{p:List Value}(h:(Builtin.firstCells sz n x).run P w=.ok p.toArray w)(W:World)(r:∀d,W.cell? d=w.cell? d)
 (hx:(∃l,x=.string l)\/(∃l c,x=.slice none l c)\/∃d l c,x=.slice (some d) l c/\d.spot=none/\∀k,k<n*sz->∃y,w.cell? (cl d.block (d.off+k))=some y):
 (Builtin.firstCells sz n x).run P W=.ok p.toArray W:=by
 rcases hx with⟨l,rfl⟩|⟨l,c,rfl⟩|⟨d,l,c,rfl,q,t⟩
 .exact Xk
 .exact Xk
 .simp only[Builtin.firstCells]at h ⊢
  have f:∀k,k<n*sz->w.cell? (cl d.block (d.off+k))=some ((w.cell? (cl d.block (d.off+k))).getD undef):=λk j=>by
   obtain⟨y,f⟩:=t k j;rw[f];rfl
  rw[run_loadCells P _ w d _ q f]at h;rw[run_loadCells P _ W d _ q (λk j=>by rw[r];exact f k j)];injection h with h1 h2
  rw[h1]
def EC(R:Rel GL g s a w){sz:Nat}{v:V}{x:Value}{ys:List V}(h:nA sz v=some ys)(hx:ER g v x):
 (∃l,x=.string l)\/(∃l c,x=.slice none l c)\/∃d l c,x=.slice (some d) l c/\d.spot=none/\∀k,k<ys.length*sz->∃y,w.cell? (cl d.block (d.off+k))=some y:=by
 cases v<;>simp only[nA]at h<;>first|(cases h;done)|skip
 .exact .inl ⟨_,hx.str⟩
 .split at h
  next j=>
   subst j;cases h;rcases hx.sl with⟨rfl,rfl⟩|⟨d,cap,ys,rfl,p,q,t,f,u,z⟩
   .exact .inr (.inl ⟨_,_,rfl⟩)
   .exact .inr (.inr ⟨d,_,cap,rfl,p,λk r=>⟨_,R.gF.g3 _ _ _ (f k r)⟩⟩)
  .cases h
 .exact .inr (.inl ⟨_,_,hx.aP⟩)
def Jf{sz sB:Nat}{xs ys:List V}{p q:List Value}{zv:Value}{t:TypeId}{d:Nat}(u:d<s.n)(R:Rel GL g s a w)(E:jy g sz xs p)(l:jy g sz ys q)(y:zv.cells.size=sz)
 (j:xs.length+ys.length<=sB):
 ∃g',Rel GL g' (s.put d (.sl sz (xs++ys)) none true) (a.put (some d) (.slice (some (cl w.heap.size 0)) (xs.length+ys.length) sB)) (w.drew.alloc (.cells (p.toArray++q.toArray++Builtin.zeroCells zv.cells (sB-(xs.length+ys.length))) t))/\
  Step g w g' (w.drew.alloc (.cells (p.toArray++q.toArray++Builtin.zeroCells zv.cells (sB-(xs.length+ys.length))) t)):=by
 have f:=E.append l;obtain⟨g',r,z,_⟩:=uq (s:=s) (t:=t) (sz:=sz) (xs:=xs++ys) (cells:=p.toArray++q.toArray++Builtin.zeroCells zv.cells (sB-(xs.length+ys.length))) (cap:=sB) u R.drew
  (by simpa using j) (by
   simp only[kR,AT,y,kS,E.len,l.len];rw[<-dJ,<-dJ];congr 1;omega) (by
   have:((p.toArray++q.toArray++Builtin.zeroCells zv.cells (sB-(xs.length+ys.length))).toList.take ((xs++ys).length*sz))=p++q:=by
    simp only[oE,lN];rw[eX (by rw[<-f.len];simp),aE (by rw[f.len];simp)]
   rw[this];exact f)
 rw[ae]at r;exact⟨g',r,(Step.drew g w).trans z⟩
def MY{sz cap:Nat}{xs ys:List V}{p q:List Value}{f:Addr}{d:Nat}{l:Loc}(a4:d<s.n)(R:Rel GL g s a w)(z:jy g sz ys q)(N:f.spot=none)
 (E:jy g sz xs p) (aC:∀(k:Nat) y,p[k]?=some y->g.bJ f.block (f.off+k)=.g3 y)
 (aD:dS g w l (.sl sz xs) (.slice (some f) xs.length cap)) (Q:s.iE l=false) (A:xs.length+ys.length<=cap):
 ∃w' g',(do storeCells (f.add (xs.length*sz)) q;pure (.slice (some f) (xs.length+ys.length) cap):Sem Value).run P w=.ok (.slice (some f) (xs.length+ys.length) cap) w'/\
  Rel GL g' (s.put d (.sl sz (xs++ys)) none true) (a.put (some d) (.slice (some f) (xs.length+ys.length) cap)) w'/\Step g w g' w':=by
 have tl:∀k,k<q.length->g.bJ f.block (f.off+xs.length*sz+k)=.tail l/\(∃u,w.cell? (cl f.block (f.off+xs.length*sz+k))=some u)/\w.frozen? (cl f.block (f.off+xs.length*sz+k))=false:=by
  intro k r;rw[z.len]at r;have a5:xs.length*sz+k<cap*sz:=by
   have:(xs.length+ys.length)*sz<=cap*sz:=cj _ A;rw[dJ]at this;omega
  have:=aD sz xs f xs.length cap rfl rfl (xs.length*sz+k) av a5
  rwa [<-cn]at this
 have ab:∀y∈q,y.oneCell'=true:=by
  intro y a6;obtain⟨k,r⟩:=fZ.1 a6;have D:=b0 r;rw[z.len]at D;have H:0<sz:=by
   rcases cZ sz with ac|ac
   .subst ac;simp at D
   .exact ac
  have cc:k/sz<ys.length:=(iB H).2 D;have ch:k%sz<sz:=fI _ H;have b6:=(fb (z.ok (k/sz) ys[k/sz] bT)).1;have a0:(ys[k/sz]).cells[k%sz]?=some (ys[k/sz]).cells[k%sz]:=bT;exact(z.cell (k/sz) ys[k/sz] (k%sz) _ y bT a0 (by rw[jX,lW];exact r)).2
 obtain⟨w',ad,a7⟩:=oc P q 0 w (cl f.block (f.off+xs.length*sz)) rfl ab (λk r=>(tl k r).2);have t:oM w w' f.block (f.off+xs.length*sz) q:=a7;have ai:∀k,k<q.length->g.bJ f.block (f.off+xs.length*sz+k)=.tail l:=λk r=>(tl k r).1;have a8:=R.KN Q t ai;obtain⟨a9,a1⟩:=a8.pT Q ai t.new;have bi:=a9.KO (.var d) Q;have hle:g.Le ((g.pT f.block (f.off+xs.length*sz) q).ik l (.var d)):=a1.le.trans pz;have bl:VR ((g.pT f.block (f.off+xs.length*sz) q).ik l (.var d)) (.sl sz (xs++ys)) (.slice (some f) (xs.length+ys.length) cap):=by
  have:=(E.append z).od (b:=f.block) (off:=f.off) (cap:=cap) hle (by simpa using A) (λk y r=>by
   rw[fG,E.len]at r;split at r
   .exact hle.g3 _ _ _ (aC k y r)
   next b7=>have:=Je g f.block (f.off+xs.length*sz) q r;rw[show f.off+xs.length*sz+(k-xs.length*sz)=f.off+k from av]at this;exact va.2 this)
  have a2:cl f.block f.off=f:=by cases f;simp at N;simp[cl,N]
  rw[a2,ae]at this;exact this
 refine⟨w',_,?_,bi.put a4 bl.e0 bT (λ_=>?_),(Step.wrote t ai bT bT).trans (a1.trans Step.ik)⟩
 .rw[Sem.run_bind,add_eq N,ad];rfl
 .intro ca zs cb len bo aA K k bs bu;injection aA with aA a3
  injection K with K bv bY
  injection K with K
  subst aA a3 K bv bY;rw[dJ]at bs;obtain⟨b2,⟨u,b3⟩,b5⟩:=aD sz xs f xs.length cap rfl rfl k av bu;have L:¬(f.block=f.block/\f.off+xs.length*sz<=f.off+k/\f.off+k<f.off+xs.length*sz+q.length):=by
   rw[z.len];omega
  refine⟨?_,⟨u,?_⟩,by rw[t.frozen];exact b5⟩
  .have:(g.pT f.block (f.off+xs.length*sz) q).bJ f.block (f.off+k)=.tail l:=by
    rcases qz g f.block (f.off+xs.length*sz) q f.block (f.off+k)with⟨j,y,_,ci,aB,_⟩|⟨_,aB⟩
    .exact absurd ⟨rfl,av,by have:=b0 aB;omega⟩ L
    .rw[aB];exact b2
   rw[we this];simp
  .rw[t.same _ _ L];exact b3
def x8(s:St)(l:Loc):(s.dP l).n=s.n:=by cases l<;>rfl
def UF{c:Call}{t u e:TypeId}{dd:TypeDesc}{sz:Nat}{zs:List V}{x y:Operand}{cb cc:eL}{d:Nat}(hop:o.op=.call c)(bY:c.callee=.builtin .append)(a9:c.argTypes.toList=[t,u])(a4:c.args.toList=[x,y])
 (ch:P.underlying t=some (.slice e)) (ci:P.underlying u=some dd) (hx:eE GL x=some cb) (el:eE GL y=some cc) (bi:ng P e=some sz) (et:zeroV P e=some zs)
 (bl:∀k,dd≠.int k) (bo:P.bytesOf e<=65536) (cp:zs.length=sz) (H:o.dst=some d) (aB:d<s.n) (z:s.app d sz cb cc=some s') (R:Rel GL g s a w):qw GL P o g a w s':=by
 obtain⟨zv,c1,eK,fa,fr⟩:=og et g;have bs:zv.cells.size=sz:=by rw[<-cp,eK.1];simp
 have hX:=cv R hx;have a5:=cv R el;have r:∀{v:Value} {w':World},(Builtin.append_ c.argTypes o.type #[a.eval x,a.eval y]).run P w=.ok v w'->(execOp a.eval o).run P w=.ok (.value v) w':=by
  intro v w' h;unfold execOp;rw[hop];simp only[resolve,bY,pure_bind,invoke,builtin];have:c.args.map a.eval=#[a.eval x,a.eval y]:=by
   apply jI;simp[a4]
  rw[this,Sem.run_bind,h];rfl
 have aC:c.argTypes[0]?=some t:=by rw[<-dh,a9];rfl
 have aD:c.argTypes[1]?=some u:=by rw[<-dh,a9];rfl
 unfold St.app at z;split at z
 next A Q K=>
  split at z
  next ad=>
   cases z;obtain⟨q,q1,b2,b3⟩:=MW (P:=P) R K a5;have ab:a.eval x=.slice none 0 0:=by rw[Q]at hX;exact hX.aP
   have f:=wj (ty:=o.type) (p:=[]) (q:=q) (base:=none) (len:=0) (cap:=0) (n:=A.length) aC aD ch ci bl bi bo c1 b2 (λW a0=>qA b3 W a0 (EC R K a5)) (λ_ W _=>rfl) (by simpa using ad);rw[<-ab]at f;have c2:jy g sz [] []:=⟨bT,bT,bT⟩;by_cases c5:A=[]
   .subst c5;simp only[aX,di,an,bP,AU,Sem.run_pure]at f;refine⟨_,w,g,.inl (r f),?_,Step.refl g w⟩;rw[H];exact R.put aB (VR.slnil sz).e0 bT (λ_=>by intro bu c6 L len cap b5 N;injection N with N;cases N)
   .have e1:0<A.length:=oI.2 c5;rw[al av]at f;obtain⟨a1,a2,a3⟩:=Jf (t:=e) (zv:=zv) aB R c2 q1 bs (sB:=(Question.appendCap (0+A.length) 0 e).cut (w.tape w.drawn (.appendCap (0+A.length) 0 e))) (by simp[Question.cut]);refine⟨_,_,a1,.inl (r f),?_,a3⟩;rw[H];exact a2
  .cases z
 next bu D A Q K=>
  split at z
  next e2=>
   obtain⟨rfl,ad⟩:=e2;split at z
   next tt=>
    split at z
    next l ac=>
     cases z;obtain⟨q,q1,b2,b3⟩:=MW (P:=P) R K a5;have c7:x=.tmp tt:=by
      cases x<;>simp only[eE]at hx
      .injection hx with h;injection h with h;subst h;rfl
      .obtain⟨_,_,h⟩:=dp hx;cases h
      .obtain⟨_,_,h⟩:=dp hx;cases h
      .injection hx with h;cases h
     subst c7;simp only[St.val]at Q;have bv:ER g (.sl sz D) (a.tmps.getD tt undef):=by rw[<-Q];exact R.Z tt
     obtain⟨p,c9,e3,base,cap,ab,e4,a6,a7⟩:=wi (P:=P) R bv;have aA:s.iE l=true/\wb g s a w l (.sl sz D) (a.tmps.getD tt undef):=by
      unfold St.pZ at ac;split at ac
      next df=>cases ac;exact⟨df,rfl,Q.symm⟩
      .split at ac
       next k b6=>
        split at ac
        next dr=>
         obtain rfl:=ar ac;refine⟨dr,?_⟩;cases k with
         |ret=>trivial
         |var u=>
          obtain⟨b5,N⟩:=R.j0 tt u b6;exact⟨b5,by rw[<-Q];exact N⟩
         |cell st e5 j=>
          have:=R.gI tt st e5 j b6;rw[Q]at this;exact this
         |iK id j=>
          have:=R.ie tt id j b6;rw[Q]at this;exact this
        .cases ac
       .cases ac
     have ds:=R.MN aA.1 aA.2;have a8:(∃l,a.tmps.getD tt undef=.string l)\/(∃l c,a.tmps.getD tt undef=.slice none l c)\/∃L l c,a.tmps.getD tt undef=.slice (some L) l c/\L.spot=none/\∀k,k<D.length*sz->∃y,w.cell? (cl L.block (L.off+k))=some y:=
      EC R (v:=.sl sz D) (by simp[nA]) bv
     have f:=wj (ty:=o.type) (p:=p) (q:=q) (base:=base) (len:=D.length) (cap:=cap) (n:=A.length) aC aD ch ci bl bi bo c1 b2 (λW a0=>qA b3 W a0 (EC R K a5))
      (λ_ W a0=>by rw[<-ab];exact qA e3 W a0 a8) ad
     have b7:a.eval (.tmp tt)=.slice base D.length cap:=ab;rw[<-b7]at f;have ca:=R.dP l;by_cases ai:D.length+A.length<=cap
     .rw[ax ai]at f;cases base with
      |none=>
       have dE:=a7 rfl;have dU:D=[]:=g2 av;have ea:A=[]:=g2 av;subst dU ea;refine⟨_,w,g,.inl (r f),?_,Step.refl g w⟩;rw[H];refine ca.put (by rw[x8];exact aB) ?_ bT (λ_=>by intro bu c6 L len cap b5 N;injection N with N;cases N);rw[dE];exact(VR.slnil sz).e0
      |some L=>
       obtain⟨e6,eb⟩:=a6 L rfl;rw[ab]at ds;obtain⟨w',a1,a2,a3,e7⟩:=MY (P:=P) (d:=d) (by rw[x8];exact aB) ca q1 e6 c9 eb ds (AS s l) ai;have ed:(AU (some L) (D.length*sz) q (.slice (some L) (D.length+A.length) cap)).run P w=_:=a2;rw[ed]at f;refine⟨_,w',a1,.inl (r f),?_,e7⟩;rw[H];exact a3
     .rw[al ai]at f;obtain⟨a1,a2,a3⟩:=Jf (t:=e) (zv:=zv) (by rw[x8];exact aB) ca c9 q1 bs (sB:=(Question.appendCap (D.length+A.length) cap e).cut (w.tape w.drawn (.appendCap (D.length+A.length) cap e))) (by simp[Question.cut]);refine⟨_,_,a1,.inl (r f),?_,a3⟩;rw[H];exact a2
    .cases z
   .cases z
  .cases z
 .cases z
end
end
section
variable {GL:Nat->Option (List V)}{P:Program}
section
variable {g:aY}{s s':St}{a:Act}{w w':World}{o:Oper}
def yU(w:World)(d:Addr)(n:Nat)(b o:Nat):(w.freeze d n).cell? (cl b o)=w.cell? (cl b o):=by
 unfold World.freeze;split
 .rfl
 .simp only[World.cell?,dz];by_cases hb:d.block=b
  .subst hb;simp only[cl,bP];cases f:w.heap[d.block]? with
   |none=>simp
   |some x=>cases x<;>simp
  .simp[cl,hb]
def vL(w:World)(b n:Nat)(c:Array Value)(t:TypeId)(h:w.heap[b]?=some (.cells c t (0,0)))(d o:Nat)(f:¬(d=b/\o=n)):
 (w.freeze {block:=b,off:=n} 1).frozen? (cl d o)=w.frozen? (cl d o):=by
 unfold World.freeze;simp only[Nat.succ_ne_self,cH,World.frozen?,dz,cl];by_cases hb:b=d
 .subst hb;simp only[bP,h];simp;intro h1;have j:n<=o:=lu h1;have:¬o=n:=λe=>f ⟨rfl,e⟩;exact dZ (by show¬o<n+1;omega)
 .simp[hb]
def AV(w:World)(d:Addr)(n:Nat){b:Nat}{ob:Obj}(hi:u9 ob=false)(h:w.heap[b]?=some ob):(w.freeze d n).heap[b]?=some ob:=by
 unfold World.freeze;split
 .exact h
 .simp only[dz];exact Xy
def FP{c:Prop}(w:World)(d:Addr)(n:Nat):CM c w (w.freeze d n):=by
 unfold World.freeze;split<;>exact⟨rfl,rfl,rfl,λ_=>an _⟩
def KQ(w:World)(d:Addr)(n:Nat){b:Nat}(h:b≠d.block):(w.freeze d n).heap[b]?=w.heap[b]?:=by
 unfold World.freeze;split
 .rfl
 .simp only[dz];rw[al (hY h)]
def yV(w:World)(d:Addr)(n:Nat):(w.freeze d n).heap.size=w.heap.size:=by
 unfold World.freeze;split<;>simp
def Rel.frozen(h:Rel GL g s a w){w':World}{b n:Nat}(y:∀b o,w'.cell? (cl b o)=w.cell? (cl b o))(R:∀d o,¬(d=b/\o=n)->w'.frozen? (cl d o)=w.frozen? (cl d o))(hm:∀(b:Nat) ob,u9 ob=false->w.heap[b]?=some ob->w'.heap[b]?=some ob)(ab:w'.heap.size=w.heap.size)
 (ac:g.bJ b n=.junk):Rel GL g s a w':=by
 have K:∀{d o:Nat} {ow:eT},g.bJ d o=ow->ow≠.junk->w'.frozen? (cl d o)=w.frozen? (cl d o):=λe A=>R _ _ (by rintro⟨rfl,rfl⟩;rw[ac]at e;exact A e.symm);have eh:∀{d:Nat} {ow:eT} {cells:List V},fQ g w d ow cells->ow≠.junk->fQ g w' d ow cells:=λhb A=>
  ⟨hb.mf,λj c Q=>let⟨h1,x,H,L⟩:=hb.cell j c Q;⟨h1,x,by rw[y];exact H,L⟩,λj=>by rw[K (hb.mf j) A];exact hb.kl j⟩
 have p:∀{k v x},dS g w k v x->dS g w' k v x:=by
  intro k v x ad sz ai aA len cap aB hx j h1 H;obtain⟨f,⟨u,l⟩,q⟩:=ad sz ai aA len cap aB hx j h1 H;exact⟨f,⟨u,by rw[y];exact l⟩,by rw[K f bT];exact q⟩
 exact {
  size:=h.size,gi:=h.gi.mono λD f l=>⟨f,hm D _ rfl l⟩,Z:=h.Z,gF:=⟨h.gF.kp,λb o x e=>by rw[y];exact h.gF.g3 b o x e,λb ob e=>⟨hm b ob (h.gF.eY b ob e).2 (h.gF.eY b ob e).1,(h.gF.eY b ob e).2⟩,λb o e=>by rw[ab];exact h.gF.ir b o e,h.gF.kB⟩,heap:=⟨λid cells e=>let⟨d,f,l⟩:=h.heap.box id cells e;⟨d,f,eh l bT⟩,λid cells j c d x f l q r N=>p (h.heap.tail id cells j c d x f l q r (by rw[<-y];exact N)),λid kvs e=>let⟨d,o,f,l,q,r,N⟩:=h.heap.map id kvs e;⟨d,o,f,l,hm _ _ r q,r,N⟩,h.heap.Y⟩,loc:=λst z aC=>let⟨d,f,l⟩:=h.loc st z aC;⟨d,f,eh l bT⟩,jc:=h.jc,jx:=λt e=>p (h.jx t e),gH:=λst z j c d x f l q r=>p (h.gH st z j c d x f l q (by rw[<-y];exact r)),j0:=h.j0,gI:=λt st z j e=>⟨(h.gI t st z j e).1,λd q=>by rw[y];exact(h.gI t st z j e).2 d q⟩,ie:=λt id j e=>let⟨cells,h1,H,L⟩:=h.ie t id j e;⟨cells,h1,H,λd r=>by rw[y];exact L d r⟩}
def HL{src dst e:TypeId}{x:Operand}{H:eL}{l:List UInt8}{d:Nat}(hop:o.op=.convert src dst x)(aA:P.underlying src=some .string)(aB:P.underlying dst=some (.slice e))(aC:P.underlying e=some (.int .u8))
 (hx:eE GL x=some H) (aD:s.val H=.str l) (u:o.dst=some d) (K:d<s.n) (R:Rel GL g s a w):qw GL P o g a w (s.put d (.sl 1 (l.map λb=>.int .u8 b.toNat)) none true):=by
 have hX:=cv R hx;rw[aD]at hX;have L:=hX.str
 let cap:=(Question.appendCap l.length 0 e).cut (w.tape w.drawn (.appendCap l.length 0 e))
 have z:l.length<=cap:=by simp only[cap,Question.cut];omega
 let cells:Array Value:=(l.map λb=>Value.int .u8 b.toNat).toArray++Array.replicate (cap-l.length) (.int .u8 0)
 have p:cells.size=cap*1:=by simp[cells];omega
 obtain⟨a0,h1,a1,A⟩:=uq (s:=s) (w:=w.drew) (t:=e) (sz:=1) (xs:=l.map λb=>V.int .u8 b.toNat) (cells:=cells) (cap:=cap) K R.drew (by simpa using z) p (by
  have:cells.toList.take ((l.map λb=>V.int .u8 b.toNat).length*1)=l.map λb=>Value.int .u8 b.toNat:=by
   simp only[cells,oE,au,kK];rw[eX bT,aE bT]
  rw[this];refine⟨bT,λi v e=>?_,λi v j c y N e2 e3=>?_⟩
  .simp at e;obtain⟨b,_,rfl⟩:=e;rfl
  .simp at N;obtain⟨b,hb,rfl⟩:=N;cases j with
   |zero=>
    exact Xn
   |succ j=>simp[V.cells]at e2)
 have f:(w.drew.alloc (.cells cells e)).heap[w.heap.size]?=some (.cells cells e (0,0)):=by
  show(w.heap.push (Obj.cells cells e (0,0)))[w.heap.size]?=_;simp
 refine⟨_,(w.drew.alloc (.cells cells e)).freeze {block:=w.heap.size,off:=cells.size} 1,a0,.inl ?_,by
  rw[u];exact h1.frozen (b:=w.heap.size) (n:=cells.size) (λb o=>yU _ _ _ _ _) (λa2 o Q=>vL _ _ _ _ _ f a2 o Q) (λ_ _ i e=>AV _ _ _ i e) (yV _ _ _) (A _ (an _)),(Step.drew g w).trans (a1.trans ⟨λ_ _ _ e=>e,λ_ _ e=>e,λ_ _ e=>e,λb o e=>⟨e,yU _ _ _ _ _,vL _ _ _ _ _ f b o (by rintro⟨rfl,rfl⟩;have r:=A _ (an _);rw[show w.drew.heap.size=w.heap.size from rfl,e]at r;cases r)⟩,λ_ _ _ i e=>AV _ _ _ i e,λ_ _ e _=>e,by rw[yV];exact an _,FP _ _ _,λb _ e=>KQ _ _ _ (by rintro rfl;have r:=A _ (an _);rcases e cells.size with q|⟨x,q⟩<;>(have ab:=q.symm.trans r;cases ab))⟩)⟩
 unfold execOp;rw[hop];have D:(convert src dst (a.eval x)).run P w=.ok (.slice (some (cl w.drew.heap.size 0)) (l.map λb=>V.int IntKind.u8 b.toNat).length cap) ((w.drew.alloc (.cells cells e)).freeze {block:=w.heap.size,off:=cells.size} 1):=by
  rw[L];have ac:(⟨l.toArray⟩:ByteArray).size=l.length:=by simp[ByteArray.size]
  simp only[convert,Sem.run_bind,run_underlying aA,run_underlying aB,run_underlying aC,Result.andThen_ok,Conv.stringToBytes,run_choose,Question.forced,bK,cH,ac];have ad:(Array.map (λb:UInt8=>Value.int IntKind.u8 b.toNat) (⟨l.toArray⟩:ByteArray).data)=(l.map λb=>Value.int .u8 b.toNat).toArray:=bT;rw[ad];have ai:(w.drew.alloc (.cells cells e)).shape? w.heap.size=some (e,cells.size):=by
   unfold World.shape?;rw[f]
  simp only[newRow,Sem.run_bind,run_newObj,Result.andThen_ok,Sem.run_pure,markStringish];rw[show({heap:=w.heap.push (.cells ((l.map λb=>Value.int IntKind.u8 b.toNat).toArray++Array.replicate ((Question.appendCap l.length 0 e).cut (w.tape w.drawn (Question.appendCap l.length 0 e))-l.length) (Value.int IntKind.u8 0)) e),tape:=w.tape,drawn:=w.drawn+1,os:=w.os,output:=w.output}:World)=w.drew.alloc (.cells cells e)from rfl];rw[run_shape,ai];simp[cl,cap]
 exact(by rw[Sem.run_bind,D];rfl)
def MZ{a9:List Nat}{ad:BX}(h:Wu P GL a9 o=some ad)(r:∀d,o.dst=some d->d<s.n)(j:iF s o.dst ad=some s')(R:Rel GL g s a w):qw GL P o g a w s':=by
 have K:∀{b:wa},yR P GL o.op=some b->iF s o.dst (.val b)=some s'->qw GL P o g a w s':=by
  intro b hb A;simp only[iF]at A;cases E:dv s b with
  |none=>simp[E]at A
  |some v=>
   have:=UB hb E R r;cases f:o.dst with
   |none=>simp[E,f]at A;subst A;simpa[f]using this
   |some d=>simp[E,f]at A;subst A;simpa[f]using this
 have q:(yR P GL o.op).map .val=some ad->qw GL P o g a w s':=by
  intro hm;obtain⟨b,hb,rfl⟩:=dp hm;exact K hb j
 unfold Wu at h;split at h
 next x hop=>
  split at h
  .obtain⟨y,p,rfl⟩:=dp h;simp only[iF]at j;cases f:o.dst with
   |none=>simp[f]at j
   |some d=>simp[f]at j;subst j;exact MT (.inr hop) f (r d f) p R
  .obtain⟨y,p,rfl⟩:=dp h;simp only[iF]at j;cases f:o.dst with
   |none=>simp[f]at j
   |some d=>simp[f]at j;subst j;exact UC hop f (r d f) p R
 next t x hop=>
  split at h
  next y bi p=>
   split at h
   .cases h;simp only[iF]at j;split at j
    next d c rest f bl=>cases j;exact YC hop f (r d f) bi p bl R
    .cases j
   .cases h
  .exact q h
 next x hop=>
  obtain⟨y,p,rfl⟩:=dp h;simp only[iF]at j;cases f:o.dst with
  |none=>simp[f]at j
  |some d=>simp[f]at j;subst j;exact MT (.inl hop) f (r d f) p R
 next t hop=>
  split at h
  .cases h
  .obtain⟨zs,L,rfl⟩:=dp h;simp only[iF]at j;cases f:o.dst with
   |none=>simp[f]at j
   |some d=>simp[f]at j;subst j;exact MU hop f (r d f) L R
 next t x hop=>
  split at h
  .cases h
  .split at h
   next n y aC p=>
    split at h
    .cases h;simp only[iF]at j;cases f:o.dst with
     |none=>simp[f]at j
     |some d=>
      simp only[f]at j;split at j
      next ai=>cases j;exact P0 hop f (r d f) p ai R
      .cases j
    .cases h;simp only[iF]at j;cases f:o.dst with
     |none=>simp[f]at j
     |some d=>
      simp only[f]at j;split at j
      next ai=>cases j;exact UD hop f (r d f) p ai R
      .cases j
   .cases h
 next t addr x hop=>
  split at h
  next n bs y aC aD p=>
   cases h;simp only[iF]at j;cases f:o.dst with
   |none=>simp only[f]at j;exact MV hop f aC aD p j R
   |some d=>simp[f]at j
  .cases h
 next t n parts hop=>
  split at h
  .cases h
  split at h
  next e aA=>
   split at h
   next sz z bu N L a0=>
    split at h
    next D=>
     cases h;simp only[iF]at j;cases f:o.dst with
     |none=>simp[f]at j
     |some d=>
      simp only[f]at j;obtain⟨bv,a1,rfl⟩:=dp j;exact KM hop f (r d f) aA N L a0 D.1 D.2.1 D.2.2 a1 R
    .cases h
   .cases h
  .cases h
 next src dst x hop=>
  split at h
  next e a2 a3=>
   split at h
   .cases h
   split at h
   next Q=>
    obtain⟨y,p,rfl⟩:=dp h;have a4:P.underlying e=some (.int .u8):=by
     cases ab:P.underlying e with
     |none=>simp[ab]at Q
     |some d=>cases d<;>simp[ab]at Q;subst Q;rfl
    simp only[iF]at j;split at j
    next d l f A=>
     split at j
     .cases j;exact HL hop a2 a3 a4 p A f (r d f) R
     .cases j
    .cases j
   .cases h
  .split at h
   .cases h
   .exact q h
 next c hop=>
  split at h
  next aB=>
   split at h
   .cases h
   split at h
   next t u x y a5 ac=>
    split at h
    next e dd bo bY aA ab hx p=>
     split at h
     next sz zs N L=>
      split at h
      .cases h
      next D=>
       cases h;simp only[iF]at j;cases f:o.dst with
       |none=>simp[f]at j
       |some d=>
        simp only[f]at j;have a6:∀k,dd≠.int k:=by rintro k rfl;exact D (.inl rfl)
        have a7:P.bytesOf e<=65536:=by
         rcases am 65536 (P.bytesOf e)with H|H
         .exact absurd (.inr (.inl H)) D
         .exact H
        have a8:zs.length=sz+1:=by
         by_cases H:zs.length=sz+1
         .exact H
         .exact absurd (.inr (.inr H)) D
        exact UF hop aB a5 ac aA ab hx p N L a6 a7 a8 f (r d f) j R
     .cases h
    .cases h
   .cases h
  .exact q h
 .exact q h
end
end
inductive V.lF(fz:aj):V->V->Prop where
 |refl (v):V.lF fz v v
 |aP (sz):V.lF fz .aP (.sl sz [])
 |agg (cs ds:List V) (hl:cs.length=ds.length) (h:∀(j:Nat) c d,cs[j]?=some c->ds[j]?=some d->V.lF fz c d):V.lF fz (.agg cs) (.agg ds)
 |hJ (cs ds:List V) (hl:cs.length=ds.length) (h:∀(j:Nat) c d,cs[j]?=some c->ds[j]?=some d->V.lF fz c d):V.lF fz (.hJ cs) (.hJ ds)
 |sl (sz:Nat) (cs ds:List V) (hl:cs.length=ds.length) (h:∀(j:Nat) c d,cs[j]?=some c->ds[j]?=some d->V.lF fz c d):V.lF fz (.sl sz cs) (.sl sz ds)
 |ep (cs ds:List V) (hl:cs.length=ds.length) (h:∀(j:Nat) c d,cs[j]?=some c->ds[j]?=some d->V.lF fz c d):V.lF fz (.ep cs) (.ep ds)
 |fn (f:FuncId) (cs ds:List V) (hl:cs.length=ds.length) (h:∀(j:Nat) c d,cs[j]?=some c->ds[j]?=some d->V.lF fz c d):V.lF fz (.fn f cs) (.fn f ds)
 |FJ (sz id off):V.lF fz (.ms sz id off 0 0) (.sl sz [])
 |ms (sz id off n c) (cells ds xs:List V) (hf:fz id=some cells) (hl:cells.length=ds.length) (h:∀(j:Nat) c d,cells[j]?=some c->ds[j]?=some d->V.lF fz c d)
  (hn:xs.length=n) (hx:∀(i:Nat) v,xs[i]?=some v->jW sz v=true/\∀(j:Nat) c,v.cells[j]?=some c->ds[off+(i*sz+j)]?=some c):V.lF fz (.ms sz id off n c) (.sl sz xs)
 |bp (id off) (cells ds:List V) (hf:fz id=some cells) (hl:cells.length=ds.length) (h:∀(j:Nat) c d,cells[j]?=some c->ds[j]?=some d->V.lF fz c d):V.lF fz (.bp id off) (.ep (ds.drop off))
def jH:Nat->Option (List V):=λ_=>none
abbrev V.Le(v u:V):Prop:=V.lF jH v u
def V.Le.refl(v:V):V.Le v v:=V.lF.refl v
def V.Le.aP(sz:Nat):V.Le .aP (.sl sz []):=V.lF.aP sz
section
variable {fz:Nat->Option (List V)}{g g':aY}
def V.lF.one{v u:V}(h:V.lF fz v u)(a:v.one=true):u.one=true:=by
 cases h<;>first|exact a|rfl|(simp[V.one]at a)
def V.lF.P1{cs:List V}{u:V}(h:V.lF fz (.agg cs) u):∃ds,u=.agg ds:=by
 cases h with
 |refl=>exact⟨cs,rfl⟩
 |agg _ ds=>exact⟨ds,rfl⟩
def V.lF.UG{v u:V}(h:V.lF fz v u)(a:v.cells=[v]):u.cells=[u]:=by
 cases h<;>first|exact a|rfl|(exfalso;simp only[V.cells]at a;have d:=aq (λl:List V=>SizeOf.sizeOf l) a;simp at d;omega)
def V.lF.len{v u:V}(h:V.lF fz v u):v.cells.length=u.cells.length:=by
 cases h<;>first|rfl|assumption
def M0(v:V):(∃cs,v=.agg cs)\/v.cells=[v]:=by cases v<;>first|exact .inl ⟨_,rfl⟩|exact .inr rfl
def HM{v u:V}(h:V.lF fz v u)(ih:∀{x:Value},VR g v x->VR g' u x){zs:Nat->Value}(a:∀(j:Nat) c,v.cells[j]?=some c->c.one=true/\VR g c (zs j)):
 ∀(j:Nat) c,u.cells[j]?=some c->c.one=true/\VR g' c (zs j):=by
 rcases M0 v with⟨cs,rfl⟩|l
 .obtain⟨z,rfl⟩:=h.P1;have o:=h.len;simp only[V.cells]at o a;have hx:VR g (.agg cs) (.agg (Array.ofFn λi:Fin cs.length=>zs i)):=.agg cs _ bT (λj c e=>(a j c e).1) (λj c x p q=>by
   have d:=b0 p;simp[d]at q;subst q;exact(a j c p).2)
  intro j c e;simp only[V.cells]at e;cases ih hx with
  |agg _ _ r f t=>
   have d:=b0 e;exact⟨f j c e,t j c (zs j) e (by simp[o,d])⟩
 .have y:=h.UG l;rw[l]at a;intro j c e;rw[y]at e;cases j with
  |zero=>
   simp at e;subst e;obtain⟨r,f⟩:=a 0 v rfl;exact⟨h.one r,ih f⟩
  |succ j=>simp at e
def VR.ur(hle:g.Le g')(Q:∀id cells,fz id=some cells->∃b,g.hb id=some b/\∀(j:Nat) c,cells[j]?=some c->c.one=true/\∃y,g'.bJ b j=.g3 y/\VR g c y){v u:V}(h:V.lF fz v u):∀{x:Value},VR g v x->VR g' u x:=by
 induction h with
 |refl v=>exact λh=>h.mono hle
 |aP sz=>intro x h;rw[h.e0.aP];exact .slnil sz
 |agg cs l hl h ih=>
  intro x hx;cases hx with
  |agg _ o L aA h3=>
   refine .agg l o av (λj d hd=>?_) (λj d y hd hy=>?_)
   .have hj:j<cs.length:=by rw[hl];exact b0 hd
    exact(h j cs[j] d bT hd).one (aA j cs[j] bT)
   .exact T3
 |hJ cs l hl h ih=>
  intro x hx;cases hx with
  |hJ _ o L h3=>
   refine .hJ l o av (λj d y hd hy=>?_);exact T3
 |fn f cs l hl h ih=>
  intro x hx;cases hx with
  |fn _ _ o L h3=>
   refine .fn f l o av (λj d y hd hy=>?_);exact T3
 |sl sz cs l hl h ih=>
  intro x hx;have key:∀(r:Nat->Value),(∀(i:Nat) v (j:Nat) c,cs[i]?=some v->v.cells[j]?=some c->c.one=true)->(∀(i:Nat) v (j:Nat) c,cs[i]?=some v->v.cells[j]?=some c->VR g c (r (i*sz+j)))->
   ∀(i:Nat) v (j:Nat) c,l[i]?=some v->v.cells[j]?=some c->c.one=true/\VR g' c (r (i*sz+j)):=by
   intro r D H i v j c q t;have K:i<cs.length:=by rw[hl];exact b0 q
   exact HM (h i cs[i] v bT q) (λhx=>ih i cs[i] v bT q hx) (zs:=λj=>r (i*sz+j)) (λj c e=>⟨D i _ j c bT e,H i _ j c bT e⟩) j c t
  cases hx with
  |slnil=>
   have:l=[]:=by cases l with
    |nil=>rfl
    |cons=>simp at hl
   subst this;exact .slnil sz
  |sl _ _ a cap r R aD N K D H=>
   rw[hl];refine .sl sz l a cap r R av (λi v e=>?_) (λk z=>hle.g3 _ _ _ (K k (by rw[hl];exact z))) (λi v j c q t=>(key r D H i v j c q t).1) (λi v j c q t=>(key r D H i v j c q t).2);have K:i<cs.length:=by rw[hl];exact b0 e
   rw[<- (h i cs[i] v bT e).len];exact N i _ bT
 |ep cs l hl h ih=>
  intro x hx;cases hx with
  |ep _ a r R K D H=>
   refine .ep l a r R (λk z=>hle.g3 _ _ _ (K k (by rw[hl];exact z))) (λj c e=>?_) (λj c e=>?_)
   .have hj:j<cs.length:=by rw[hl];exact b0 e
    exact(h j cs[j] c bT e).one (D j cs[j] bT)
   .have hj:j<cs.length:=by rw[hl];exact b0 e
    exact ih j cs[j] c bT e (H j cs[j] bT)
 |FJ sz id off=>
  intro x hx;rcases hx.e0.ms with⟨b,L,rfl,h3⟩|⟨_,_,p,rfl,E⟩
  .exact .sl sz [] _ 0 (λ_=>undef) rfl bT bT bT bT bT
  .exact W5
 |ms sz id off n c cells l o ab hl h ad A ih=>
  intro x hx;obtain⟨b,hb,Mw⟩:=Q id cells ab;have nil:∀p:Option Addr,(∀a:Addr,p=some a->a.spot=none)->o=[]->VR g' (.sl sz o) (.slice p 0 0):=by
   rintro p E rfl;exact W5
  rcases hx.e0.ms with⟨aB,L,rfl,h3⟩|⟨rfl,_,p,rfl,E⟩
  .cases (hb.symm.trans L);have cell:∀(j:Nat) d,l[j]?=some d->d.one=true/\∃y,g'.bJ b j=.g3 y/\VR g' d y:=by
    exact WS
   subst ad;refine .sl sz o ⟨b,off,none⟩ c (λk=>match g'.bJ b (off+k)with|.g3 y=>y|_=>undef) rfl h3 (λi v e=>(fb (A i v e).1).1) (λk z=>?_) (λi v j c q t=>(cell _ c ((A i v q).2 j c t)).1) (λi v j c q t=>?_)
   .have N:0<sz:=by
     rcases cZ sz with ac|ac
     .subst ac;simp at z
     .exact ac
    have K:k/sz<o.length:=by rw[iB N];exact z
    have ai:=A (k/sz) o[k/sz] bT;have hj:k%sz< (o[k/sz]).cells.length:=by rw[(fb ai.1).1];exact fI _ N
    have hd:=ai.2 (k%sz) (o[k/sz]).cells[k%sz] bT;rw[show k/sz*sz+k%sz=k by rw[jX];exact lW k sz]at hd;obtain⟨_,y,f2,_⟩:=cell _ _ hd;show g'.bJ b (off+k)=_;simp only[f2]
   .obtain⟨_,y,f2,f3⟩:=cell _ c ((A i v q).2 j c t);show VR g' c (match g'.bJ b (off+(i*sz+j))with|.g3 y=>y|_=>undef);rw[f2];exact f3
  .exact nil p E (bH.1 ad)
 |bp id off cells l ab hl h ih=>
  intro x hx;obtain⟨b,hb,Mw⟩:=Q id cells ab;cases hx with
  |bp _ _ aB e=>
   cases (hb.symm.trans e);have cell:∀(j:Nat) d,l[j]?=some d->d.one=true/\∃y,g'.bJ b j=.g3 y/\VR g' d y:=by
    exact WS
   refine .ep _ ⟨b,off,none⟩ (λk=>match g'.bJ b (off+k)with|.g3 y=>y|_=>undef) rfl (λk z=>?_) (λj c e=>(cell (off+j) c (by simpa using e)).1) (λj c e=>?_)
   .have aC:off+k<l.length:=by simp at z;omega
    obtain⟨_,y,f2,_⟩:=cell (off+k) l[off+k] bT;show g'.bJ b (off+k)=_;simp only[f2]
   .obtain⟨_,y,f2,f3⟩:=cell (off+j) c (by simpa using e);show VR g' c (match g'.bJ b (off+j)with|.g3 y=>y|_=>undef);rw[f2];exact f3
def VR.weak{v u:V}(h:V.Le v u):∀{x:Value},VR g v x->VR g u x:=VR.ur (.refl g) (λ_ _ e=>by cases e) h
end
structure rp(GL:aj)(g:aY)(w:World)(E:aK)(args:List V)(xs:Array Value):Prop where
 gF:qe GL g w
 heap:HR g E w
 len:xs.size=args.length
 arg:∀(j:Nat) v x,args[j]?=some v->xs[j]?=some x->VR g v x
structure vf(GL:aj)(g:aY)(w:World)(g':aY)(w':World)(FF:aK)(v:V)(bJ:Bool)(x:Value):Prop where
 gF:qe GL g' w'
 heap:HR g' FF w'
 res:VR g' v x
 step:Step g w g' w'
 tail:bJ=true->dS g' w' .ret v x
def lB(P:Program)(GL:aj)(f:FuncId)(args:List V)(E:aK)(Q:V->Bool->aK->Prop):Prop:=
 ∀g w d,rp GL g w E args d->∀R:Ending->World->Prop,(∀v x bJ a g' j,Q v bJ a->vf GL g w g' j a v bJ x->R (.returned x) j)->Calls P f d w R
def lB.mono{P:Program}{GL:aj}{f:FuncId}{args:List V}{E:aK}{Q a:V->Bool->aK->Prop}(h:lB P GL f args E Q)(j:∀v o E,Q v o E->a v o E):lB P GL f args E a:=
 λg w l p R q=>h g w l p R (λv x bJ d g' r t u=>q v x bJ d g' r (j _ _ _ t) u)
def aK.bare:aK:=⟨λ_=>none,λ_ _=>false,λ_=>none,0⟩
def Pure(P:Program)(GL:aj)(f:FuncId)(args:List V)(v:V)(bJ:Bool:=false):Prop:=
 hZ args=true/\v.free=true/\lB P GL f args aK.bare λr o _=>r=v/\o=bJ
section
variable {GL:Nat->Option (List V)}{P:Program}
def hidden(a:Bool):eT->Bool
 |.sx _ _|.tail (.var _)|.tail (.cell _ _ _)|.tail .ret|.rG=>true
 |.eh _|.tail (.iK _ _)|.oO _=>a
 |_=>false
def la(a:Bool)(o:eT):eT:=if hidden a o=true then .ext else o
def aY.dW(g:aY)(a:Bool):aY:={bJ:=λb o=>la a (g.bJ b o),lb:=λ_ _=>none,hb:=if a then λ_=>none else g.hb}
def lE(a:Bool)(l:Loc):eT->eT
 |.sx _ _|.rG=>.junk
 |.tail .ret=>.tail l
 |.tail (.iK i j)=>if a then .junk else .tail (.iK i j)
 |.tail _=>.junk
 |.eh i=>if a then .junk else .eh i
 |.oO i=>if a then .junk else .oO i
 |x=>x
def back(a:Bool)(l:Loc)(o o':eT):eT:=if hidden a o=true then o else lE a l o'
def aY.back(g g':aY)(a:Bool)(l:Loc):aY:={bJ:=λb o=>Bx.back a l (g.bJ b o) (g'.bJ b o),lb:=g.lb,hb:=if a then g.hb else g'.hb}
def AW{ph:Bool}{o:eT}{x:Value}:la ph o=.g3 x↔o=.g3 x:=by
 exact bb6
def x9{ph:Bool}{o:eT}{ob:Obj}:la ph o=.eY ob↔o=.eY ob:=by
 exact bb6
def Dk{ph:Bool}{o:eT}:la ph o=.free↔o=.free:=by
 exact bb6
def tQ{a:Bool}{l:Loc}{o o':eT}(h:la a o=.ext)(d:o≠.ext):back a l o o'=o:=by
 unfold la at h;unfold back;split at h
 next f=>rw[ax f]
 .exact absurd h d
def kI{a:Bool}{l:Loc}{o o':eT}(h:la a o≠.ext\/o=.ext):back a l o o'=lE a l o':=by
 unfold back;rw[al];rcases h with h|h
 .intro d;exact h (by simp[la,d])
 .subst h;simp[hidden]
def CP{ph:Bool}{l:Loc}{o:eT}{x:Value}:lE ph l o=.g3 x↔o=.g3 x:=by
 exact bb9
def AX{ph:Bool}{l:Loc}{o:eT}{ob:Obj}:lE ph l o=.eY ob↔o=.eY ob:=by
 exact bb9
def CQ{ph:Bool}{l:Loc}{o:eT}:lE ph l o=.ext↔o=.ext:=by
 exact bb9
end
section
variable {GL:Nat->Option (List V)}{P:Program}
def PE:Loc->Bool
 |.iK _ _=>true
 |_=>false
def St.cu(s:St)(E:aK):St:={s with E:=E,lk:=iP s.lk PE}
section
variable {g g1:aY}{s:St}{a:Act}{w w1:World}{E nr:aK}{v:V}{bJ ph:Bool}{x:Value}{l:Loc}
def Dl(h:Step (g.dW ph) w g1 w1):(∀b o x,g1.bJ b o=.g3 x->(g.back g1 ph l).bJ b o=.g3 x)/\∀b ob,g1.bJ b 0=.eY ob->(g.back g1 ph l).bJ b 0=.eY ob:=by
 have key:∀b o ow,g1.bJ b o=ow->ow≠.ext->(g.back g1 ph l).bJ b o=lE ph l ow:=by
  intro b o ow e d;show back ph l (g.bJ b o) (g1.bJ b o)=_;rw[kI,e];by_cases f:la ph (g.bJ b o)=.ext
  .have:=(h.ext b o f).1;rw[e]at this;exact absurd this d
  .exact .inl f
 exact⟨λb o x e=>by rw[key b o _ e bT];rfl,λb ob e=>by rw[key b 0 _ e bT];rfl⟩
def qZ(h:Step (g.dW ph) w g1 w1):g.Le (g.back g1 ph l) where
 g3 b o x e:=(Dl h).1 b o x (h.g3 b o x (AW.2 e))
 eY b d e:=(Dl h).2 b d (h.eY b d (x9.2 e))
 hb id b e:=by
  show(if ph then g.hb else g1.hb) id=some b;cases ph with
  |true=>exact e
  |false=>exact h.hb id b e
def AY(h:Step (g.dW false) w g1 w1):g1.Le (g.back g1 false l):=⟨(Dl h).1,(Dl h).2,λ_ _ e=>e⟩
def kt(h:Step (g.dW ph) w g1 w1){b o:Nat}{ow:eT}(e:g.bJ b o=ow)(d:la ph ow=.ext)(f:ow≠.ext):
 (g.back g1 ph l).bJ b o=ow/\w1.cell? (cl b o)=w.cell? (cl b o)/\w1.frozen? (cl b o)=w.frozen? (cl b o):=by
 have j:(g.dW ph).bJ b o=.ext:=by show la ph (g.bJ b o)=_;rw[e];exact d
 obtain⟨_,p,q⟩:=h.ext b o j;refine⟨?_,p,q⟩;show back ph l (g.bJ b o) (g1.bJ b o)=_;rw[e];exact tQ d f
def FQ(R:qe GL g w)(h:Step (g.dW ph) w g1 w1)(h1:qe GL g1 w1):qe GL (g.back g1 ph l) w1 where
 kB:=R.kB
 eY b j e:=by
  have e':back ph l (g.bJ b 0) (g1.bJ b 0)=.eY j:=e;by_cases hh:la ph (g.bJ b 0)=.ext/\g.bJ b 0≠.ext
  .exact Xx
  .rw[kI (by
    by_cases d:la ph (g.bJ b 0)=.ext
    .exact .inr (cM λf=>hh ⟨d,f⟩)
    .exact .inl d),AX]at e'
   exact h1.eY b j e'
 kp n c e:=(R.kp n c e).mono (qZ h)
 g3 b o x e:=by
  have e':back ph l (g.bJ b o) (g1.bJ b o)=.g3 x:=e;by_cases hh:la ph (g.bJ b o)=.ext/\g.bJ b o≠.ext
  .exact Xx
  .rw[kI (by
    by_cases d:la ph (g.bJ b o)=.ext
    .exact .inr (cM λf=>hh ⟨d,f⟩)
    .exact .inl d),CP]at e'
   exact h1.g3 b o x e'
 ir b o e:=by
  by_cases p:g.bJ b o=.free
  .refine h1.ir b o (λq=>e ?_);show back ph l (g.bJ b o) (g1.bJ b o)=_;rw[kI (.inl (by rw[Dk.2 p];simp)),q];rfl
  .exact bj (R.ir b o p) h.size
def AZ(h:Step (g.dW ph) w g1 w1){b:Nat}{ow:eT}{cells:List V}(hb:fQ g w b ow cells)(f:la ph ow=.ext)(d:ow≠.ext):fQ (g.back g1 ph l) w1 b ow cells where
 mf j:=(kt h (hb.mf j) f d).1
 cell j c o:=by
  obtain⟨h1,y,p,q⟩:=hb.cell j c o;exact⟨h1,y,by rw[(kt (l:=l) h (hb.bJ j (b0 o)) f d).2.1];exact p,q.mono (qZ h)⟩
 kl j:=by rw[(kt (l:=l) h (hb.mf j) f d).2.2];exact hb.kl j
def rZ(h:Step (g.dW ph) w g1 w1){k:Loc}{v:V}{x:Value}(d:dS g w k v x)(f:la ph (.tail k)=.ext):dS (g.back g1 ph l) w1 k v x:=by
 intro sz o p len cap q hx j r t;obtain⟨y,⟨u,z⟩,A⟩:=d sz o p len cap q hx j r t;obtain⟨D,H,K⟩:=kt (l:=l) h y f bT;exact⟨D,⟨u,by rw[H];exact z⟩,by rw[K];exact A⟩
def KR(h:Step (g.dW false) w g1 w1)(hH:HR g1 nr w1):HR (g.back g1 false l) nr w1 where
 box id cells e:=by
  obtain⟨b,h1,d⟩:=hH.box id cells e;refine⟨b,h1,⟨λj=>?_,λj c r=>?_,d.kl⟩⟩
  .have q:=d.mf j;show back false l (g.bJ b j) (g1.bJ b j)=_;rw[kI,q];·rfl
   by_cases f:la false (g.bJ b j)=.ext
   .have:=(h.ext b j f).1;rw[q]at this;cases this
   .exact .inl f
  .obtain⟨t,y,u,z⟩:=d.cell j c r;exact⟨t,y,u,z.mono (AY h)⟩
 tail id cells j c b y q A D H K:=by
  intro sz L p len cap N hx k h1 d;obtain⟨f1,Q,R⟩:=hH.tail id cells j c b y q A D H K sz L p len cap N hx k h1 d;refine⟨?_,Q,R⟩;show back false l (g.bJ p.block (p.off+k)) (g1.bJ p.block (p.off+k))=_;rw[kI,f1];·rfl
  by_cases f:la false (g.bJ p.block (p.off+k))=.ext
  .have:=(h.ext _ _ f).1;rw[f1]at this;cases this
  .exact .inl f
 map id kvs e:=by
  obtain⟨b,o,h1,d,ab,ac,ad⟩:=hH.map id kvs e;refine⟨b,o,h1,?_,ab,ac,ad.mono (AY h)⟩;show back false l (g.bJ b 0) (g1.bJ b 0)=_;rw[kI,d];·rfl
  by_cases f:la false (g.bJ b 0)=.ext
  .have:=(h.ext b 0 f).1;rw[d]at this;cases this
  .exact .inl f
 Y id e:=hH.Y id e
def Dm(h:Step (g.dW ph) w g1 w1):Step g w (g.back g1 ph l) w1 where
 g3:=(qZ h).g3
 eY:=(qZ h).eY
 hb:=(qZ h).hb
 n5 b r e i hm:=h.n5 b r (by show la ph (g.bJ b 0)=_;rw[e];rfl) i hm
 ext b o e:=by
  have h1:(g.dW ph).bJ b o=.ext:=by show la ph (g.bJ b o)=_;rw[e];rfl
  obtain⟨f1,t,u⟩:=h.ext b o h1;refine⟨?_,t,u⟩;exact aaQ
 rm b o e hb:=by
  have d:back ph l (g.bJ b o) (g1.bJ b o)=.ext:=e;by_cases f:la ph (g.bJ b o)=.ext/\g.bJ b o≠.ext
  .rw[tQ f.1 f.2]at d;exact d
  .rw[kI (by
    by_cases j:la ph (g.bJ b o)=.ext
    .exact .inr (cM λp=>f ⟨j,p⟩)
    .exact .inl j),CQ]at d
   have j:=h.rm b o d hb;have p:la ph (g.bJ b o)=.ext:=j;exact cM λy=>f ⟨p,y⟩
 size:=h.size
 gY:=⟨h.gY.tape,h.gY.os,h.gY.out,λe=>h.gY.drawn (by show la ph (g.bJ 0 0)=_;rw[e];rfl)⟩
 whole b hb e:=h.whole b hb λo=>by
  show(la ph (g.bJ b o)).old;rcases e o with q|⟨x,q⟩<;>rw[q]
  .exact .inl rfl
  .exact .inr ⟨x,rfl⟩
def Rel.KS(R:Rel GL g s a w)(h:Step (g.dW false) w g1 w1)(h1:qe GL g1 w1)(hH:HR g1 nr w1):Rel GL (g.back g1 false l) (s.cu nr) a w1 where
 size:=R.size
 gi:=R.gi.mono λD d f=>⟨(kt h d rfl bT).1,h.n5 D _ (by show la _ (g.bJ D 0)=_;rw[d];rfl) rfl f⟩
 Z t:=(R.Z t).mono (qZ h) (λ_ _ _ e=>e)
 gF:=FQ R.gF h h1
 heap:=KR h hH
 loc st gn hg:=let⟨b,d,f⟩:=R.loc st gn hg;⟨b,d,AZ h f rfl bT⟩
 jc:=R.jc
 jx t e:=rZ h (R.jx t e) rfl
 gH st gn j c b y d f e3 p:=by
  have hg:gn<s.G st:=by
   rcases am gn (s.G st)with o|o
   .exact o
   .exact absurd ((R.jc st gn o).symm.trans e3) bT
  obtain⟨b2,e6,e7⟩:=R.loc st gn hg;obtain rfl:=ar (e6.symm.trans e3);rw[(kt (l:=l) h (e7.bJ j (b0 f)) rfl bT).2.1]at p;exact rZ h (R.gH st gn j c b2 y d f e3 p) rfl
 j0 t u e:=R.j0 t u (fC e).1
 gI t st gn j e:=by
  obtain⟨hg,hh⟩:=R.gI t st gn j (fC e).1;exact WP
 ie t id j e:=by
  have:=(fC e).2;simp[PE]at this
def Rel.KT(R:Rel GL g s a w)(h:Step (g.dW true) w g1 w1)(h1:qe GL g1 w1):Rel GL (g.back g1 true l) s a w1 where
 size:=R.size
 gi:=R.gi.mono λD d f=>⟨(kt h d rfl bT).1,h.n5 D _ (by show la _ (g.bJ D 0)=_;rw[d];rfl) rfl f⟩
 Z t:=(R.Z t).mono (qZ h) (λ_ _ _ e=>e)
 gF:=FQ R.gF h h1
 heap:=by
  refine⟨λid cells e=>?_,λid cells j c b y d f e3 p u=>?_,λid kvs e=>?_,λid e=>R.heap.Y id e⟩
  .obtain⟨b,d,f⟩:=R.heap.box id cells e;exact⟨b,d,AZ h f rfl bT⟩
  .obtain⟨b2,e6,e7⟩:=R.heap.box id cells d;have q:g.hb id=some b:=p;obtain rfl:=ar (e6.symm.trans q);rw[(kt (l:=l) h (e7.bJ j (b0 e3)) rfl (by simp)).2.1]at u;exact rZ h (R.heap.tail id cells j c b2 y d f e3 e6 u) rfl
  .obtain⟨b,o,h1,z,A,h4,h5⟩:=R.heap.map id kvs e;obtain⟨f1,_⟩:=kt (l:=l) h z rfl bT;exact⟨b,o,h1,f1,h.n5 b o (by show la true (g.bJ b 0)=_;rw[z];rfl) h4 A,h4,h5.mono (qZ h)⟩
 loc st gn hg:=let⟨b,d,f⟩:=R.loc st gn hg;⟨b,d,AZ h f rfl bT⟩
 jc:=R.jc
 jx t e:=rZ h (R.jx t e) rfl
 gH st gn j c b y d f e3 p:=by
  have hg:gn<s.G st:=by
   rcases am gn (s.G st)with r|r
   .exact r
   .exact absurd ((R.jc st gn r).symm.trans e3) bT
  obtain⟨b2,e6,e7⟩:=R.loc st gn hg;obtain rfl:=ar (e6.symm.trans e3);rw[(kt (l:=l) h (e7.bJ j (b0 f)) rfl bT).2.1]at p;exact rZ h (R.gH st gn j c b2 y d f e3 p) rfl
 j0:=R.j0
 gI t st gn j e:=by
  obtain⟨hg,hh⟩:=R.gI t st gn j e;exact WP
 ie t id j e:=by
  obtain⟨cells,d,f,e3⟩:=R.ie t id j e;refine⟨cells,d,f,λb p=>?_⟩;obtain⟨b2,e6,e7⟩:=R.heap.box id cells d;have q:g.hb id=some b:=p;obtain rfl:=ar (e6.symm.trans q);rw[(kt (l:=l) h (e7.bJ j (b0 f)) rfl (by simp)).2.1];exact e3 b2 e6
def Mz(h:Step (g.dW ph) w g1 w1)(o:dS g1 w1 .ret v x):dS (g.back g1 ph l) w1 l v x:=by
 intro sz p d len cap q hx k r t;obtain⟨f,u,y⟩:=o sz p d len cap q hx k r t;refine⟨?_,u,y⟩;show back ph l (g.bJ d.block (d.off+k)) (g1.bJ d.block (d.off+k))=_;rw[kI,f];·rfl
 by_cases j:la ph (g.bJ d.block (d.off+k))=.ext
 .have:=(h.ext _ _ j).1;rw[f]at this;cases this
 .exact .inl j
def Dn(R:Rel GL g s a w)(ph:Bool){args:List V}{xs:Array Value}(t:ph=true->hZ args=true)(H:xs.size=args.length)(D:∀(j:Nat) v x,args[j]?=some v->xs[j]?=some x->VR g v x):
 rp GL (g.dW ph) w (if ph then aK.bare else s.E) args xs:=by
 have p:∀b o x,g.bJ b o=.g3 x->(g.dW ph).bJ b o=.g3 x:=λ_ _ _ e=>AW.2 e;have q:∀b r,g.bJ b 0=.eY r->(g.dW ph).bJ b 0=.eY r:=λ_ _ e=>x9.2 e;refine⟨⟨λn c e=>(R.gF.kp n c e).x0 p q (R.gF.kB n c e),λb o x e=>R.gF.g3 b o x (AW.1 e),λb r e=>R.gF.eY b r (x9.1 e),λb o e=>R.gF.ir b o (λt=>e (Dk.2 t)),R.gF.kB⟩,?_,H,?_⟩
 .cases ph with
  |true=>exact⟨λid cells e=>by simp[aK.bare]at e,λid cells j c b x e=>by simp[aK.bare]at e,λid kvs e=>by simp[aK.bare]at e,λid _=>rfl⟩
  |false=>
   have hle:g.Le (g.dW false):=⟨p,q,λ_ _ e=>e⟩;refine⟨λid cells e=>?_,λid cells j c b y f d u z A=>?_,λid kvs e=>?_,λid e=>R.heap.Y id e⟩
   .obtain⟨b,f,d⟩:=R.heap.box id cells e;refine⟨b,f,⟨λj=>?_,λj c K=>?_,d.kl⟩⟩
    .show la false (g.bJ b j)=_;rw[d.mf j];rfl
    .obtain⟨L,y,N,Q⟩:=d.cell j c K;exact⟨L,y,N,Q.mono hle⟩
   .intro sz xs ab len cap ac hx k p q;obtain⟨ad,ai,aA⟩:=R.heap.tail id cells j c b y f d u z A sz xs ab len cap ac hx k p q;exact⟨by show la false (g.bJ _ _)=_;rw[ad];rfl,ai,aA⟩
   .obtain⟨b,o,f,d,u,z,A⟩:=R.heap.map id kvs e;exact⟨b,o,f,by show la false (g.bJ _ _)=_;rw[d];rfl,u,z,A.mono hle⟩
 .intro j v x f d;cases ph with
  |true=>exact(D j v x f d).x0 p q (kZ (t rfl) f)
  |false=>exact(D j v x f d).mono ⟨p,q,λ_ _ e=>e⟩
end
end
section
variable {GL:Nat->Option (List V)}{P:Program}
def V.isAgg:V->Bool
 |.agg _=>true
 |_=>false
def sC(P:Program)(t:TypeId):Bool:=match P.underlying t with
 |some (.int _)|some .bool|some .string=>true
 |_=>false
def ya(P:Program)(t:TypeId):Option (List CK):=match P.underlying t with
 |some (.int _)|some .string=>gJ P 8 t
 |some (.struct a)=>if a.toList.all (λf=>sC P f.type)then gJ P 8 t else none
 |_=>none
def mN{t:TypeId}(h:sC P t=true)(em:Bool)(n:Nat)(x:Value)(w:World):(Instr.checkKey em (n+1) t x).run P w=.ok () w:=by
 unfold sC at h;unfold Instr.checkKey;split at h
 next k hd=>simp only[Sem.run_bind,run_underlying hd,Result.andThen_ok];cases x<;>rfl
 .exact Xi
 .exact Xi
 .cases h
def vD{t:TypeId}{fs:Array Field}(u:P.underlying t=some (.struct fs))(j:fs.toList.all (λf=>sC P f.type)=true){d:Nat}{p all:List CK}(E:gJ.lZ (gJ P d) fs.toList p=some all)
 (em:Bool) (n:Nat) (xs:Array Value) (hx:xs.size=all.length) (w:World):(Instr.checkKey em (n+2) t (.agg xs)).run P w=.ok () w:=by
 unfold Instr.checkKey;simp only[Sem.run_bind,run_underlying u,Result.andThen_ok];rw[<-Array.forIn_toList]
 revert j E
 generalize fs.toList=l;intro j E;have key:∀(l:List Field)(acc:List CK),l.all (λf=>sC P f.type)=true->gJ.lZ (gJ P d) l acc=some all->
  (forIn (m:=Sem) l PUnit.unit λf (_:PUnit)=>do
   if f.name≠ "_" then
    Instr.checkKey em (n+1) f.type (<-part f.type xs f.offset)
    pure (ForInStep.yield PUnit.unit)
   else pure (ForInStep.yield PUnit.unit)).run P w=.ok PUnit.unit w:=by
  intro l;induction l with
  |nil=>intro acc _ _;simp
  |cons f l ih=>
   intro acc j E;simp only[bR,be]at j;simp only[gJ.lZ]at E;split at E
   next y q=>
    split at E
    next o=>
     obtain⟨ag,g1,z,A⟩:=wh q;have hle:acc.length+y.length<=all.length:=by
      have:∀(l:List Field)(a:List CK),gJ.lZ (gJ P d) l a=some all->a.length<=all.length:=by
       intro l;induction l with
       |nil=>intro a h;simp[gJ.lZ]at h;rw[h];exact an _
       |cons f l ih=>
        intro a h;simp only[gJ.lZ]at h;split at h
        .split at h
         .have:=ih _ h;simp at this;omega
         .cases h
        .cases h
      have:=this l _ E;simpa using this
     have r:=rY (xs:=xs) (off:=f.offset) w g1 z A (by rw[o.1];omega);simp only[List.forIn_cons,ax o.2,Sem.run_bind,r,Result.andThen_ok,mN j.1,Sem.run_pure];exact ih _ j.2 E
    .cases E
   .cases E
 rw[key l p j E];rfl
def zN{g:aY}{t:TypeId}{j:List CK}(a:ya P t=some j){k:V}{x:Value}(hx:VR g k x)(l:jW j.length k=true)(f:fm P t=some k.isAgg)(em:Bool)(w:World):
 (Instr.checkKey em 10000 t x).run P w=.ok () w:=by
 unfold ya at a;split at a
 next q d=>exact mN (by simp[sC,d]) em 9999 x w
 next d=>exact mN (by simp[sC,d]) em 9999 x w
 next o d=>
  split at a
  next p=>
   have r:fm P t=some true:=by simp[fm,d]
   rw[r]at f;cases k<;>simp[V.isAgg]at f;rename_i cs;obtain⟨u,rfl,y,A,D⟩:=hx.e0.agg;unfold gJ at a;simp only[d]at a;split at a
   .cases e:gJ.lZ (gJ P 7) o.toList []with
    |none=>simp[e]at a
    |some z=>
     simp only[e,gx]at a;split at a
     .cases a;refine vD d p e em 9998 u ?_ w;rw[y];have:=(fb l).1;simpa[V.cells]using this
     .cases a
   .cases a
  .cases a
 .cases a
def m8(a:List CK)(d:List V):List (V×V)->Nat->Option (Option Nat)
 |[],_=>some none
 |(u,_)::r,i=>match dI a d u.cells with
  |some true=>some (some i)
  |some false=>m8 a d r (i+1)
  |none=>none
def keysOf(ag:Bool)(n:Nat)(kvs:List (V×V)):Bool:=kvs.all λ(u,_)=>jW n u&&(u.isAgg==ag)
def Jg{g:aY}{t:TypeId}{k:V}{x:Value}(hx:VR g k x){n:Nat}(l:jW n k=true)(a:fm P t=some k.isAgg):x=x4 P t x.cells.toList/\fJ g k.cells x.cells.toList:=by
 have j:=(fb l).2;refine⟨?_,(pA hx.e0 j).1⟩;unfold x4;by_cases f:k.isAgg=true
 .rw[f]at a;rw[ax a];cases k<;>simp[V.isAgg]at f;obtain⟨p,rfl,_⟩:=hx.e0.agg;simp[Value.cells]
 .have d:k.isAgg=false:=by simpa using f
  rw[d]at a;rw[al (by rw[a];simp)];have:k.one=true:=by
   cases k<;>first|rfl|(simp[V.cells,V.one]at j;done)|(simp[V.isAgg]at d)
  obtain⟨o,_⟩:=VR.one hx this;rw[o];rfl
def A0{d:TypeDesc}{fs:Array Field}(a:d=.struct fs)(k:Value)(es:List MapEntry)(i:Nat):Instr.findNow d k es i=if es=[]then some none else none:=by
 subst a;cases es with
 |nil=>rfl
 |cons e es=>simp[Instr.findNow,Instr.sameNow]
def ut{g:aY}{t:TypeId}{f:List CK}(y:gJ P 8 t=some f){k:V}{x:Value}(hx:VR g k x)(A:jW f.length k=true)(o:fm P t=some k.isAgg)(w:World):
 ∀(kvs:List (V×V))(es:List MapEntry)(i:Nat)(r:Option Nat),es.length=kvs.length->(∀(j:Nat) u e,kvs[j]?=some u->es[j]?=some e->VR g u.1 e.key)->keysOf k.isAgg f.length kvs=true->m8 f k.cells kvs i=some r->
  (Instr.findAsking t x es i).run P w=.ok (r.map λj=>(j,((es[j-i]?).map (·.val)).getD undef)) w
 |[],[],i,r,_,_,_,h=>by simp[m8]at h;subst h;rfl
 |u::kvs,e::es,i,r,p,D,d,h=>by
  obtain⟨u,z⟩:=u;simp only[keysOf,bR,be]at d;have L:=D 0 (u,z) e rfl rfl;have H:=d.1.1;have K:fm P t=some u.isAgg:=by rw[o];congr 1;exact(eq_of_beq d.1.2).symm
  obtain⟨N,Q⟩:=Jg (P:=P) hx A o;obtain⟨R,ab⟩:=Jg (P:=P) L H K;have q:=λr ac=>ut y hx A o w kvs es (i+1) r (by simpa using p) (λj u e ad ai=>D (j+1) u e (by simpa using ad) (by simpa using ai)) (by simp only[keysOf];exact d.2) ac;simp only[m8]at h;have heq:∀b,dI f k.cells u.cells=some b->(Op.equal t x e.key).run P w=.ok b w:=by
   intro b hb;have:=tw (g:=g) w 8 10000 t f y av _ _ _ _ b Q ab hb;rw[<-N,<-R]at this;exact this
  split at h
  next hb=>cases h;simp only[Instr.findAsking,Sem.run_bind,heq _ hb,Result.andThen_ok,bP,Sem.run_pure,bF,iN];rfl
  next hb=>
   simp only[Instr.findAsking,Sem.run_bind,heq _ hb,Result.andThen_ok,bK,cH];rw[q r h];congr 1;cases r with
   |none=>rfl
   |some j=>
    have aA:i+1<=j:=by
     have:∀(l:List (V×V))(i:Nat) j,m8 f k.cells l i=some (some j)->i<=j:=by
      intro l;induction l with
      |nil=>intro i j h;simp[m8]at h
      |cons a l ih=>
       intro i j h;obtain⟨a,b⟩:=a;simp only[m8]at h;split at h
       .simp at h;omega
       .have:=ih _ _ h;omega
       .cases h
     exact this _ _ _ h
    exact Xs
  .cases h
 |[],_::_,_,_,p,_,_,_=>by simp at p
 |_::_,[],_,_,p,_,_,_=>by simp at p
def wY{d:List CK}{f:List V}:∀{l:List (V×V)} {i j:Nat},m8 d f l i=some (some j)->i<=j/\j<i+l.length
 |[],i,j,h=>by simp[m8]at h
 |(a,b)::l,i,j,h=>by
  simp only[m8]at h;split at h
  .simp at h;subst h;simp
  .have:=wY h;simp;omega
  .cases h
def bytes_beq(p q:List UInt8):((⟨p.toArray⟩:ByteArray)==⟨q.toArray⟩)=(p==q):=by
 show ByteArray.beq _ _=_;unfold ByteArray.beq;by_cases a:p=q
 .subst a;simp
 .have d:(p==q)=false:=by simpa using a
  rw[d];simpa using a
def uu{g:aY}{d:TypeDesc}{l:CK}(t:(∃q,d=.int q)/\l=.i\/d=.string/\l=.s){k:V}{x:Value}(hx:VR g k x)(H:jW 1 k=true)(o:k.isAgg=false):
 ∀(kvs:List (V×V))(es:List MapEntry)(i:Nat)(r:Option Nat),es.length=kvs.length->(∀(j:Nat) u e,kvs[j]?=some u->es[j]?=some e->VR g u.1 e.key)->keysOf false 1 kvs=true->m8 [l] k.cells kvs i=some r->
  Instr.findNow d x es i=some (r.map λj=>(j,((es[j-i]?).map (·.val)).getD undef))
 |[],[],i,r,_,_,_,h=>by simp[m8]at h;subst h;rfl
 |u::kvs,e::es,i,r,f,y,a,h=>by
  obtain⟨u,z⟩:=u;simp only[keysOf,bR,be]at a;have A:=y 0 (u,z) e rfl rfl;have D:u.isAgg=false:=eq_of_beq a.1.2;have K:k.cells=[k]:=by cases k<;>first|rfl|(simp[V.isAgg]at o)
  have L:u.cells=[u]:=by cases u<;>first|rfl|(simp[V.isAgg]at D)
  have p:=λr N=>uu t hx H o kvs es (i+1) r (by simpa using f) (λj u e Q R=>y (j+1) u e (by simpa using Q) (by simpa using R)) (by simp only[keysOf];exact a.2) N;have heq:∀b,dI [l] k.cells u.cells=some b->Instr.sameNow d x e.key=some b:=by
   intro b hb;rw[K,L]at hb;have hb:=oe hb;rcases t with⟨⟨q,rfl⟩,rfl⟩|⟨rfl,rfl⟩
   .cases k<;>simp only[oR]at hb<;>first|(cases hb;done)|skip
    cases u<;>simp only at hb<;>first|(cases hb;done)|skip
    obtain rfl:=hx.e0.int;rw[A.e0.int];simp only[Instr.sameNow];exact hb
   .cases k<;>simp only[oR]at hb<;>first|(cases hb;done)|skip
    cases u<;>simp only at hb<;>first|(cases hb;done)|skip
    obtain rfl:=hx.e0.str;rw[A.e0.str];simp only[Instr.sameNow];rw[<-hb];exact aq some (bytes_beq _ _)
  simp only[m8]at h;split at h
  next hb=>cases h;simp only[Instr.findNow,heq _ hb,bF,iN];rfl
  next hb=>
   simp only[Instr.findNow,heq _ hb];rw[p r h];congr 1;cases r with
   |none=>rfl
   |some j=>
    have ab:=(wY h).1;exact Xs
  .cases h
 |[],_::_,_,_,f,_,_,_=>by simp at f
 |_::_,[],_,_,f,_,_,_=>by simp at f
def HN{t:TypeId}{a:List CK}(h:ya P t=some a):gJ P 8 t=some a:=by
 unfold ya at h;split at h
 .exact h
 .exact h
 .split at h
  .exact h
  .cases h
 .cases h
def A1{g:aY}{t:TypeId}{p:List CK}(a:ya P t=some p){k:V}{x:Value}(hx:VR g k x)(K:jW p.length k=true)(o:fm P t=some k.isAgg)(w:World)
 {kvs:List (V×V)} {es:List MapEntry} {r:Option Nat} (H:es.length=kvs.length) (L:∀(j:Nat) u e,kvs[j]?=some u->es[j]?=some e->VR g u.1 e.key) (D:keysOf k.isAgg p.length kvs=true) (z:m8 p k.cells kvs 0=some r):
 (Instr.findKey t x es).run P w=.ok (r.map λj=>(j,((es[j]?).map (·.val)).getD undef)) w:=by
 have y:=ut (HN a) hx K o w kvs es 0 r H L D z;simp only[hA]at y;have scalar:∀d A,P.underlying t=some d->((∃q,d=.int q)/\A=CK.i\/d=.string/\A=CK.s)->p=[A]->k.isAgg=false->(Instr.findKey t x es).run P w=.ok (r.map λj=>(j,((es[j]?).map (·.val)).getD undef)) w:=by
  intro d A f N Q l;subst Q;have:=uu N hx K l kvs es 0 r H L (by rw[<-l];exact D) z;simp only[Instr.findKey,Sem.run_bind,run_underlying f,Result.andThen_ok,this,hA,Sem.run_pure]
 have ab:=a;unfold ya at a;split at a
 next q f=>
  have l:k.isAgg=false:=by simp[fm,f]at o;exact o
  unfold gJ at a;simp only[f]at a;split at a
  .exact scalar _ .i f (.inl ⟨⟨q,rfl⟩,rfl⟩) (ar a).symm l
  .cases a
 next f=>
  have l:k.isAgg=false:=by simp[fm,f]at o;exact o
  unfold gJ at a;simp only[f]at a;split at a
  .exact scalar _ .s f (.inr ⟨rfl,rfl⟩) (ar a).symm l
  .cases a
 next ac f=>
  simp only[Instr.findKey,Sem.run_bind,run_underlying f,Result.andThen_ok,A0 rfl];by_cases R:es=[]
  .subst R;have:kvs=[]:=by simpa using H.symm
   subst this;simp[m8]at z;subst z;simp
  .simp only[al R];exact y
 .cases a
end
section
variable {GL:Nat->Option (List V)}{P:Program}
def V.dY:V->Bool
 |.lp _ _ _=>true
 |_=>false
def aK.cO(h:aK)(cells:List V):aK:={h with box:=eQ h.box h.Y (some cells),fl:=eQ h.fl h.Y (λ_=>false),Y:=h.Y+1}
def aK.hN(h:aK):aK:={h with mp:=eQ h.mp h.Y (some (.map [])),Y:=h.Y+1}
def aK.eJ(h:aK)(id:Nat)(kvs:List (V×V)):aK:={h with mp:=eQ h.mp id (some (.map kvs))}
inductive HX where
 |A2 (zs:List V)
 |eh (n:Nat) (x:eL)
 |mkMap
 |lookup (ks:List CK) (ag:Bool) (zero:V) (ok:Bool) (m k:eL)
 |sD (ks:List CK) (ag:Bool) (m k v:eL)
 |mapEntry (ks:List CK) (ag:Bool) (zero:V) (m k:eL)
 |entryStore (m st v:eL)
 |wZ (neg:Bool) (x:eL)
def FR(h:aK):V->Option (List (V×V))
 |.mp id=>match h.mp id with
  |some (.map kvs)=>some kvs
  |_=>none
 |.qs=>some []
 |.em d f=>if d.length=f.length then some (d.zip f)else none
 |_=>none
def i6(ok:Bool)(v:V)(b:Bool):V:=if ok then .hJ [v,.bool b]else v
def rH(d:List CK)(ag:Bool)(k:V)(kvs:List (V×V)):Option (Option Nat):=
 if jW d.length k=true/\k.isAgg=ag/\keysOf ag d.length kvs=true then m8 d k.cells kvs 0 else none
def HX.act(s:St):HX->Option (List (V×Bool×aK))
 |.A2 zs=>some [(.bp s.E.Y 0,false,s.E.cO zs)]
 |.eh n x=>if jW n (s.val x)=true then some [(.bp s.E.Y 0,false,s.E.cO (s.val x).cells)]else none
 |.mkMap=>some [(.mp s.E.Y,false,s.E.hN)]
 |.lookup d ag zero ok m k=>match FR s.E (s.val m)with
  |some kvs=>match rH d ag (s.val k) kvs with
   |some (some j)=>(kvs[j]?).map λp=>[(i6 ok p.2 true,false,s.E)]
   |some none=>some [(i6 ok zero false,false,s.E)]
   |none=>none
  |none=>none
 |.sD d ag m k v=>match s.val m with
  |.mp id=>match s.E.mp id with
   |some (.map kvs)=>if(s.val v).dY=true then none else match rH d ag (s.val k) kvs with
    |some (some j)=>some [(.qn,false,s.E.eJ id (kvs.set j (s.val k,s.val v)))]
    |some none=>some [(.qn,false,s.E.eJ id (kvs++[(s.val k,s.val v)]))]
    |none=>none
   |_=>none
  |_=>none
 |.mapEntry d ag zero m k=>match s.val m with
  |.mp id=>match s.E.mp id with
   |some (.map kvs)=>match rH d ag (s.val k) kvs with
    |some (some j)=>(kvs[j]?).map λp=>[(.hJ [p.2,.int .i64 j],false,s.E.eJ id (kvs.set j (s.val k,p.2)))]
    |some none=>some [(.hJ [zero,.int .i64 kvs.length],false,s.E.eJ id (kvs++[(s.val k,zero)]))]
    |none=>none
   |_=>none
  |_=>none
 |.entryStore m st v=>match s.val m,idxOf (s.val st)with
  |.mp id,some j=>match s.E.mp id with
   |some (.map kvs)=>if(s.val v).dY=true then none else(kvs[j]?).map λp=>[(.qn,false,s.E.eJ id (kvs.set j (p.1,s.val v)))]
   |_=>none
  |_,_=>none
 |.wZ neg x=>match s.val x with
  |.aP=>some [(.bool (!neg),false,s.E)]
  |.ms _ _ _ _ (_+1)=>some [(.bool neg,false,s.E)]
  |.sl _ (_::_)=>some [(.bool neg,false,s.E)]
  |.sl _ []=>some [(.bool (!neg),false,s.E),(.bool neg,false,s.E)]
  |_=>none
section
variable {g g':aY}{s:St}{a:Act}{w w':World}{o:Oper}{FF:aK}
def Rel.yb(R:Rel GL g s a w)(hle:g.Le g')(d:g'.lb=g.lb)(Q:qe GL g' w')(r:HR g' FF w')
 (eh:∀{b st gn cells},fQ g w b (.sx st gn) cells->fQ g' w' b (.sx st gn) cells) (iK:∀{b st gn cells j},fQ g w b (.sx st gn) cells->j<cells.length->w'.cell? (cl b j)=w.cell? (cl b j))
 (p:∀{l v x},(∀i j,l≠Loc.iK i j)->dS g w l v x->dS g' w' l v x)
 (ab:∀D,g.bJ D 0=.rG->w.heap[D]?=some (.deferred (some []))->g'.bJ D 0=.rG/\w'.heap[D]?=some (.deferred (some []))):Rel GL g' (s.cu FF) a w' where
 size:=R.size
 gi:=R.gi.mono ab
 Z t:=(R.Z t).mono hle (λ_ _ _ e=>by rw[d];exact e)
 gF:=Q
 heap:=r
 loc st gn f:=let⟨b,z,q⟩:=R.loc st gn f;⟨b,by rw[d];exact z,eh q⟩
 jc st gn f:=by rw[d];exact R.jc st gn f
 jx t e:=p bT (R.jx t e)
 gH st gn j c b y z q e3 K:=by
  rw[d]at e3;have f:gn<s.G st:=by
   exact WJ
  obtain⟨L,A,H⟩:=R.loc st gn f;obtain rfl:=ar (A.symm.trans e3);rw[iK H (b0 q)]at K;exact p (by simp) (R.gH st gn j c L y z q e3 K)
 j0 t u e:=R.j0 t u (fC e).1
 gI t st gn j e:=by
  obtain⟨f,r⟩:=R.gI t st gn j (fC e).1;refine⟨f,λb e3=>?_⟩;rw[d]at e3;obtain⟨ac,N⟩:=r b e3;obtain⟨L,A,H⟩:=R.loc st gn f;cases (A.symm.trans e3);exact⟨by rw[iK H (b0 N)];exact ac,N⟩
 ie t id j e:=by
  have:=(fC e).2;simp[PE]at this
def Rel.same(R:Rel GL g s a w):Rel GL g (s.cu s.E) a w:=
 R.yb (.refl g) rfl R.gF R.heap (λh=>h) (λ_ _=>rfl) (λ_ h=>h) (λ_ d f=>⟨d,f⟩)
def aY.w2(g:aY)(id b:Nat):aY:={g with hb:=eQ g.hb id (some b)}
def m9{id b:Nat}(h:g.hb id=none):g.Le (g.w2 id b) where
 g3 _ _ _ e:=e
 eY _ _ e:=e
 hb i c e:=by
  show eQ g.hb id (some b) i=some c;by_cases d:i=id
  .subst d;rw[h]at e;cases e
  .rw[bD _ _ d];exact e
def yc{id b:Nat}(h:g.hb id=none)(d:qe GL g w):qe GL (g.w2 id b) w:=
 ⟨λn c e=>(d.kp n c e).mono (m9 h),d.g3,d.eY,d.ir,d.kB⟩
def qc{id b d:Nat}{ow:eT}{cells:List V}(h:g.hb id=none)(hb:fQ g w d ow cells):fQ (g.w2 id b) w d ow cells:=
 ⟨hb.mf,λj c f=>let⟨l,x,p,q⟩:=hb.cell j c f;⟨l,x,p,q.mono (m9 h)⟩,hb.kl⟩
def wk{id b:Nat}(h:g.hb id=none):Step g w (g.w2 id b) w:=
 ⟨λ_ _ _ e=>e,λ_ _ e=>e,(m9 h).hb,λ_ _ e=>⟨e,rfl,rfl⟩,λ_ _ _ _ e=>e,λ_ _ e _=>e,an _,.refl _,λ_ _ _=>rfl⟩
def mU{id b i:Nat}(d:i≠id):(g.w2 id b).hb i=g.hb i:=bD _ _ d
def oV{id b:Nat}:(g.w2 id b).hb id=some b:=bh _ _ _
def I7{h:aK}(d:HR g h w){id:Nat}{cells:List V}(e:h.box id=some cells):id≠h.Y:=by
 rintro rfl;obtain⟨b,f,_⟩:=d.box _ _ e;rw[d.Y _ (an _)]at f;cases f
def P2{h:aK}(d:HR g h w){id:Nat}{kvs:MO}(e:h.mp id=some kvs):id≠h.Y:=by
 rintro rfl;obtain⟨b,_,f,_⟩:=d.map _ _ e;rw[d.Y _ (an _)]at f;cases f
def HR.cO{h:aK}(d:HR g h w){b:Nat}{cells:List V}(hb:fQ g w b (.eh h.Y) cells):HR (g.w2 h.Y b) (h.cO cells) w where
 box id cs e:=by
  have r:=d.Y _ (an h.Y);by_cases f:id=h.Y
  .subst f;simp only[aK.cO,bh]at e;cases e;exact⟨b,oV,qc r hb⟩
  .simp only[aK.cO,bD _ _ f]at e;obtain⟨l,h1,p⟩:=d.box id cs e;exact⟨l,by rw[mU f];exact h1,qc r p⟩
 tail id cs j c l x t q y u z:=by
  by_cases f:id=h.Y
  .subst f;simp[aK.cO]at q
  .simp only[aK.cO,bD _ _ f]at t q;rw[mU f]at u;exact d.tail id cs j c l x t q y u z
 map id kvs e:=by
  obtain⟨l,o,h1,p,A,D,H⟩:=d.map id kvs e;exact⟨l,o,by rw[mU (P2 d e)];exact h1,p,A,D,H.mono (m9 (d.Y _ (an _)))⟩
 Y id e:=by
  simp only[aK.cO]at e;rw[mU av];exact d.Y id av
def HR.hN{h:aK}(hh:HR g h w){b:Nat}(f:g.bJ b 0=.oO h.Y)(hb:w.heap[b]?=some (.map #[] 0)):HR (g.w2 h.Y b) h.hN w where
 box id cs e:=by
  exact WZ
 tail id cs j c b' x e1 e2 e3 e4 e5:=by
  exact Xo
 map id kvs e:=by
  by_cases d:id=h.Y
  .subst d;simp only[aK.hN,bh]at e;cases e;exact⟨b,_,oV,f,hb,rfl,#[],0,rfl,rfl,bT,bT,bT,rfl⟩
  .simp only[aK.hN,bD _ _ d]at e;obtain⟨b',o,h1,h2,l,p,q⟩:=hh.map id kvs e;exact⟨b',o,by rw[mU d];exact h1,h2,l,p,q.mono (m9 (hh.Y _ (an _)))⟩
 Y id e:=by
  simp only[aK.hN]at e;rw[mU av];exact hh.Y id av
def Ad{cells:List V}{xs:Array Value}{t:TypeId}(R:Rel GL g s a w)(hc:fJ g cells xs.toList)(p:∀c∈cells,c.one=true):
 ∃g',Rel GL g' (s.cu (s.E.cO cells)) a (w.alloc (.cells xs t))/\Step g w g' (w.alloc (.cells xs t))/\VR g' (.bp s.E.Y 0) (.pointer (some ⟨w.heap.size,0,none⟩)):=by
 let ow:Nat->eT:=λ_=>.eh s.E.Y
 have d:Rel GL (g.block w.heap.size ow) s a (w.alloc (.cells xs t)):=R.alloc (λo x e=>by
  simp only[ow]at e;cases e) (λz e=>by simp only[ow]at e;cases e)
 have q:Step g w (g.block w.heap.size ow) (w.alloc (.cells xs t)):=Step.alloc R.gF;have eh:fQ (g.block w.heap.size ow) (w.alloc (.cells xs t)) w.heap.size (.eh s.E.Y) cells:=by
  refine⟨λj=>?_,λj c hj=>⟨p c (bW hj),?_⟩,λj=>World.frozen?_alloc_new w xs t j⟩
  .rw[aY.eI]
  .have l:=b0 hj;have y:j<xs.toList.length:=by rw[<-hc.1];exact l
   have hx:xs.toList[j]?=some xs.toList[j]:=bT;exact WW
 have f:(g.block w.heap.size ow).hb s.E.Y=none:=d.heap.Y _ (an _);exact⟨_,d.yb (m9 f) rfl (yc f d.gF) (d.heap.cO eh) (qc f) (λ_ _=>rfl) (λ_ h=>h) (λ_ r u=>⟨r,u⟩),q.trans (wk f),.bp _ _ _ oV⟩
def P3(R:Rel GL g s a w):
 ∃g',Rel GL g' (s.cu s.E.hN) a (w.alloc (.map #[] 0))/\Step g w g' (w.alloc (.map #[] 0))/\VR g' (.mp s.E.Y) (.map (some w.heap.size)):=by
 let ow:Nat->eT:=λ_=>.oO s.E.Y
 have d:Rel GL (g.block w.heap.size ow) s a (w.alloc (.map #[] 0)):=R.alloc (λo x e=>by simp only[ow]at e;cases e) (λq e=>by simp only[ow]at e;cases e);have j:Step g w (g.block w.heap.size ow) (w.alloc (.map #[] 0)):=Step.alloc R.gF;have f:(g.block w.heap.size ow).hb s.E.Y=none:=d.heap.Y _ (an _);exact⟨_,d.yb (m9 f) rfl (yc f d.gF) (d.heap.hN (aY.eI _ _ _ _) (wU _ _)) (qc f) (λ_ _=>rfl) (λ_ h=>h) (λ_ l p=>⟨l,p⟩),j.trans (wk f),.mp _ _ oV⟩
def sF(w:World)(b:Nat)(es:Array MapEntry)(c:Nat):World:={w with heap:=w.heap.setIfInBounds b (.map es c)}
section sF
variable {b:Nat}{es Do:Array MapEntry}{c c':Nat}
def ED(hb:w.heap[b]?=some (.map es c)):(sF w b Do c').heap[b]?=some (.map Do c'):=by
 have:b<w.heap.size:=(cF.1 hb).1;simp[sF,this]
def sG{d:Nat}(h:d≠b):(sF w b Do c').heap[d]?=w.heap[d]?:=by
 simp only[sF,kj (hY h)]
def qf(hb:w.heap[b]?=some (.map es c))(d:Addr):(sF w b Do c').cell? d=w.cell? d:=by
 unfold World.cell?;by_cases h:d.block=b
 .rw[h,ED hb,hb]
 .rw[sG h]
def uv(hb:w.heap[b]?=some (.map es c))(d:Addr):(sF w b Do c').frozen? d=w.frozen? d:=by
 unfold World.frozen?;by_cases h:d.block=b
 .rw[h,ED hb,hb]
 .rw[sG h]
def Dp:(sF w b Do c').heap.size=w.heap.size:=by simp[sF]
def KU{id:Nat}(hb:w.heap[b]?=some (.map es c))(d:g.bJ b 0=.oO id):Step g w g (sF w b Do c') where
 g3 _ _ _ e:=e
 eY _ _ e:=e
 hb _ _ e:=e
 ext f o e:=⟨e,qf hb _,uv hb _⟩
 n5 f j e _ hm:=by
  have:f≠b:=by rintro rfl;rw[d]at e;cases e
  rw[sG this];exact hm
 rm _ _ e _:=e
 size:=by rw[Dp];exact an _
 gY:=⟨rfl,rfl,rfl,λ_=>an _⟩
 whole f _ e:=sG (by rintro rfl;rcases e 0 with q|⟨x,q⟩<;>rw[q]at d<;>cases d)
def M1{id:Nat}(hb:w.heap[b]?=some (.map es c))(f:g.bJ b 0=.oO id)(h:qe GL g w):qe GL g (sF w b Do c') where
 kp:=h.kp
 g3 d o x e:=by rw[qf hb];exact h.g3 d o x e
 eY d j e:=by
  have:d≠b:=by rintro rfl;rw[f]at e;cases e
  rw[sG this];exact h.eY d j e
 ir d o e:=by rw[Dp];exact h.ir d o e
 kB:=h.kB
def FT{d:Nat}{ow:eT}{cells:List V}(hb:w.heap[b]?=some (.map es c))(h:fQ g w d ow cells):fQ g (sF w b Do c') d ow cells:=
 ⟨h.mf,λj u f=>let⟨l,x,p,q⟩:=h.cell j u f;⟨l,x,by rw[qf hb];exact p,q⟩,λj=>by rw[uv hb];exact h.kl j⟩
def Dq{l:Loc}{v:V}{x:Value}(hb:w.heap[b]?=some (.map es c))(h:dS g w l v x):dS g (sF w b Do c') l v x:=by
 intro sz d f len cap j hx k p q;obtain⟨r,⟨u,t⟩,y⟩:=h sz d f len cap j hx k p q;exact⟨r,⟨u,by rw[qf hb];exact t⟩,by rw[uv hb];exact y⟩
def KV{h:aK}(p:HR g h w){id:Nat}{l:List (V×V)}(hb:w.heap[b]?=some (.map es c))(r:g.bJ b 0=.oO id)(dW:g.hb id=some b)(hm:wS g l Do c'):HR g (h.eJ id l) (sF w b Do c') where
 box i cs e:=let⟨f,h1,d⟩:=p.box i cs e;⟨f,h1,FT hb d⟩
 tail i cs j u f x t y z A D:=Dq hb (p.tail i cs j u f x t y z A (by rw[<-qf (Do:=Do) (c':=c') hb];exact D))
 map i kvs e:=by
  by_cases q:i=id
  .subst q;simp only[aK.eJ,bh]at e;cases e;exact⟨b,_,dW,r,ED hb,rfl,Do,c',rfl,hm⟩
  .simp only[aK.eJ,bD _ _ q]at e;obtain⟨f,o,h1,d,H,K,L⟩:=p.map i kvs e;have:f≠b:=by rintro rfl;rw[r]at d;injection d with d;exact q d.symm
   exact⟨f,o,h1,d,by rw[sG this];exact H,K,L⟩
 Y:=p.Y
def Rel.eJ(R:Rel GL g s a w){id:Nat}{d:List (V×V)}(hb:w.heap[b]?=some (.map es c))(f:g.bJ b 0=.oO id)(dW:g.hb id=some b)(hm:wS g d Do c'):
 Rel GL g (s.cu (s.E.eJ id d)) a (sF w b Do c')/\Step g w g (sF w b Do c'):=
 ⟨R.yb (.refl g) rfl (M1 hb f R.gF) (KV R.heap hb f dW hm) (FT hb) (λ_ _=>qf hb _) (λ_ h=>Dq hb h) (λD j l=>⟨j,by rw[sG (by rintro rfl;rw[f]at j;cases j)];exact l⟩),KU hb f⟩
def r0{P:Program}(hb:w.heap[b]?=some (.map es c)):(getObj b).run P w=.ok (.map es c) w:=by simp[getObj,Sem.run,hb]
def uw{P:Program}(hb:w.heap[b]?=some (.map es c)):(setObj b (.map Do c')).run P w=.ok () (sF w b Do c'):=by simp[setObj,Sem.run,hb,sF]
def wS.set{kvs:List (V×V)}(h:wS g kvs es c){j:Nat}{k v:V}{e:MapEntry}{q vx:Value}(l:es[j]?=some e)(r:VR g k q)(t:VR g v vx):
 wS g (kvs.set j (k,v)) (es.modify j λe=>{e with key:=q,val:=vx}) c where
 len:=by simp[h.len]
 key i u p h1 d:=by
  rw[dz]at d;by_cases f:j=i
  .subst f;rw[ii (by rw[<-h.len];exact(cF.1 l).1)]at h1;cases h1;simp[l]at d;subst d;exact r
  .rw[iM f]at h1;simp only[al f]at d;exact h.key i u p h1 d
 val i u p h1 d:=by
  rw[dz]at d;by_cases f:j=i
  .subst f;rw[ii (by rw[<-h.len];exact(cF.1 l).1)]at h1;cases h1;simp[l]at d;subst d;exact t
  .rw[iM f]at h1;simp only[al f]at d;exact h.val i u p h1 d
 born i p d:=by
  rw[dz]at d;by_cases f:j=i
  .subst f;simp[l]at d;subst d;exact h.born j e l
  .simp only[al f]at d;exact h.born i p d
 MI:=by simp[h.MI]
def wS.push{kvs:List (V×V)}(h:wS g kvs es c){k v:V}{l vx:Value}(p:VR g k l)(q:VR g v vx):
 wS g (kvs++[(k,v)]) (es.push {key:=l,val:=vx,born:=c}) (c+1) where
 len:=by simp[h.len]
 key i u j h1 d:=by
  rw[gO]at d;rw[fG]at h1;by_cases f:i=es.size
  .subst f;simp[h.len]at h1 d;subst h1;rw[<-d];exact p
  .simp only[al f]at d;have:i<kvs.length:=by rw[<-h.len];exact(cF.1 d).1
   rw[ax this]at h1;exact h.key i u j h1 d
 val i u j h1 d:=by
  rw[gO]at d;rw[fG]at h1;by_cases f:i=es.size
  .subst f;simp[h.len]at h1 d;subst h1;rw[<-d];exact q
  .simp only[al f]at d;have:i<kvs.length:=by rw[<-h.len];exact(cF.1 d).1
   rw[ax this]at h1;exact h.val i u j h1 d
 born i j d:=by
  rw[gO]at d;by_cases f:i=es.size
  .subst f;simp at d;rw[<-d];exact h.MI
  .simp only[al f]at d;exact h.born i j d
 MI:=by simp[h.MI]
end sF
end
end
section
variable {GL:Nat->Option (List V)}{P:Program}
def V.exact:V->Bool
 |.int _ _|.bool _|.str _=>true
 |_=>false
def w3:∀{j:List CK} {a b:List V},dI j a b=some true->a=b/\∀c∈a,c.exact=true
 |[],[],[],_=>⟨rfl,bT⟩
 |k::j,x::a,y::b,h=>by
  simp only[dI]at h;split at h
  next p q d l=>
   simp only[co,be]at h;obtain⟨rfl,rfl⟩:=h;obtain⟨r,t⟩:=w3 l;have:x=y/\x.exact=true:=by
    cases k<;>cases x<;>simp only[oR]at d<;>first|(cases d;done)|skip
    all_goals(cases y<;>simp only at d<;>first|(cases d;done)|skip)
    .split at d
     next u=>subst u;simp at d;subst d;exact⟨rfl,rfl⟩
     .cases d
    .simp at d;subst d;exact⟨rfl,rfl⟩
    .simp at d;subst d;exact⟨rfl,rfl⟩
   refine⟨by rw[this.1,r],λc f=>?_⟩;rcases bn.1 f with rfl|f
   .exact this.2
   .exact t c f
  .cases h
 |[],_::_,_,h=>by simp[dI]at h
 |[],[],_::_,h=>by simp[dI]at h
 |_::_,[],_,h=>by simp[dI]at h
 |_::_,_::_,[],h=>by simp[dI]at h
def VR.exact{g:aY}{c:V}{x y:Value}(f:c.exact=true)(hx:VR g c x)(d:VR g c y):x=y:=by
 cases c<;>simp[V.exact]at f
 .rw[hx.e0.int,d.e0.int]
 .rw[hx.e0.bool,d.e0.bool]
 .rw[hx.e0.str,d.e0.str]
def M2{g:aY}{k:V}{x y:Value}(f:∀c∈k.cells,c.exact=true)(hx:VR g k x)(j:VR g k y):x=y:=by
 by_cases l:k.isAgg=true
 .cases k<;>simp[V.isAgg]at l;rename_i cs;obtain⟨u,rfl,z,A,q⟩:=hx.e0.agg;obtain⟨D,rfl,H,K,r⟩:=j.e0.agg;congr 1;apply Array.ext av;intro i t p;have d:cs[i]?=some cs[i]:=bT;exact VR.exact (f _ (bW d)) (q i _ _ d (by simp[t])) (r i _ _ d (by simp[p]))
 .have:k.cells=[k]:=by cases k<;>first|rfl|(simp[V.isAgg]at l)
  exact VR.exact (f k (by rw[this];simp)) hx j
def tx{g:aY}{c:V}{x:Value}(d:c.exact=true)(hx:VR g c x)(n:Nat):Instr.sameBits n x x=true:=by
 cases c<;>simp[V.exact]at d
 .rw[hx.e0.int];cases n<;>simp[Instr.sameBits]
 .rw[hx.e0.bool];cases n<;>simp[Instr.sameBits]
 .rw[hx.e0.str];cases n<;>simp[Instr.sameBits,bytes_beq]
def EE{g:aY}{k:V}{x:Value}(d:∀c∈k.cells,c.exact=true)(hx:VR g k x):Instr.sameBits 10000 x x=true:=by
 by_cases f:k.isAgg=true
 .cases k<;>simp[V.isAgg]at f;rename_i cs;obtain⟨r,rfl,t,z,u⟩:=hx.e0.agg;simp only[Instr.sameBits,lY,hI,bO];rintro⟨p,q⟩ E;obtain⟨i,y,e⟩:=hU.1 E;simp only[List.getElem_zip,ek]at e;obtain⟨rfl,rfl⟩:=e;have j:i<r.toList.length:=by simpa using y
  have l:cs[i]?=some (cs[i]'(by rw[<-t];simpa using j)):=bT;exact tx (d _ (bW l)) (u i _ _ l bT) _
 .have:k.cells=[k]:=by cases k<;>first|rfl|(simp[V.isAgg]at f)
  exact tx (d k (by rw[this];simp)) hx _
def A3{d:List CK}{f:List V}:∀{l:List (V×V)} {i j:Nat},m8 d f l i=some (some j)->∃u v,l[j-i]?=some (u,v)/\dI d f u.cells=some true
 |[],i,j,h=>by simp[m8]at h
 |(a,b)::l,i,j,h=>by
  have t:=(wY h).1;simp only[m8]at h;split at h
  next p=>simp at h;subst h;exact⟨a,b,bT,p⟩
  .obtain⟨u,v,q,r⟩:=A3 h;have:=(wY h).1;exact⟨u,v,by rw[show j-i=(j-(i+1))+1 from av];simpa using q,r⟩
  .cases h
def KW{k u:V}(h:k.cells=u.cells)(d:k.isAgg=u.isAgg):k=u:=by
 by_cases j:k.isAgg=true
 .rw[j]at d;cases k<;>simp[V.isAgg]at j;cases u<;>simp[V.isAgg]at d;simpa[V.cells]using h
 .have f:k.isAgg=false:=by simpa using j
  have l:k.cells=[k]:=by cases k<;>first|rfl|(simp[V.isAgg]at f)
  have p:u.cells=[u]:=by rw[f]at d;cases u<;>first|rfl|(simp[V.isAgg]at d)
  rw[l,p]at h;simpa using h
def wm{l:List CK}{ag:Bool}{k:V}{kvs:List (V×V)}{j:Nat}(h:rH l ag k kvs=some (some j)):∃v,kvs[j]?=some (k,v)/\∀c∈k.cells,c.exact=true:=by
 unfold rH at h;split at h
 next d=>
  obtain⟨u,v,f,p⟩:=A3 h;obtain⟨q,r⟩:=w3 p;have t:u.isAgg=ag:=by
   have:=bO.1 d.2.2 (u,v) (bW f);simp only[be]at this;exact eq_of_beq this.2
  have:=KW q (by rw[d.2.1,t]);subst this;exact⟨v,by simpa using f,r⟩
 .cases h
def Dr(P:Program)(t:TypeId):Option V:=((P.info? t).bind (·.zero)).bind AF
def sH:Operand->Bool
 |.const (.slice none 0 0)=>true
 |_=>false
def P4(P:Program)(GL:aj)(hs:List Nat)(o:Oper):Option HX:=
 match o.op with
 |.alloc t=>if o.dst.any hs.contains then(zeroV P t).map .A2 else none
 |.box t x=>if o.dst.any hs.contains then match ng P t,eE GL x with
  |some n,some x=>some (.eh n x)
  |_,_=>none
  else none
 |.makeMap _ none=>some .mkMap
 |.lookup t m k ok=>match P.underlying t with
  |some (.map d et)=>match ya P d,fm P d,Dr P et,eE GL m,eE GL k with
   |some f,some ag,some z,some m,some k=>some (.lookup f ag z ok m k)
   |_,_,_,_,_=>none
  |_=>none
 |.mapUpdate t m k v=>match P.underlying t with
  |some (.map d _)=>match ya P d,fm P d,eE GL m,eE GL k,eE GL v with
   |some f,some ag,some m,some k,some v=>some (.sD f ag m k v)
   |_,_,_,_,_=>none
  |_=>none
 |.mapEntry t m k=>match P.underlying t with
  |some (.map d et)=>match ya P d,fm P d,Dr P et,eE GL m,eE GL k with
   |some f,some ag,some z,some m,some k=>some (.mapEntry f ag z m k)
   |_,_,_,_,_=>none
  |_=>none
 |.entryStore _ m st v=>match eE GL m,eE GL st,eE GL v with
  |some m,some st,some v=>some (.entryStore m st v)
  |_,_,_=>none
 |.binOp op t x y _=>match P.underlying t with
  |some (.slice _)=>if sH y=true then match op,eE GL x with
   |.eql,some x=>some (.wZ false x)
   |.neq,some x=>some (.wZ true x)
   |_,_=>none
   else none
  |_=>none
 |_=>none
section
variable {g:aY}{s:St}{a:Act}{w:World}{o:Oper}{hs:List Nat}
def CR(GL:aj)(P:Program)(o:Oper)(g:aY)(s:St)(a:Act)(w:World)(l:List (V×Bool×aK)):Prop:=
 ∃p∈l,∃x d f,((execOp a.eval o).run P w=.ok (.value x) d\/((execOp a.eval o).run P w=.ok .skip d/\x=undef))/\Rel GL f (s.cu p.2.2) a d/\Step g w f d/\VR f p.1 x/\(p.2.1=true->∀l,dS f d l p.1 x)
def Ds{v:V}(h:¬v.dY=true):∀i j k,v≠.lp i j k:=by
 rintro i j k rfl;exact h rfl
def HO{t:TypeId}{zs:List V}(hop:o.op=.alloc t)(h:zeroV P t=some zs)(R:Rel GL g s a w):CR GL P o g s a w [(.bp s.E.Y 0,false,s.E.cO zs)]:=by
 obtain⟨z,d,f,j,u⟩:=og h g;obtain⟨l,p,q,r⟩:=Ad (t:=t) R f j;refine⟨_,aR.2 rfl,_,_,l,.inl ?_,p,q,r,bT⟩;unfold execOp;rw[hop];simp[Instr.alloc,lD d,qx]
def M3{t:TypeId}{n:Nat}{x:Operand}{y:eL}(hop:o.op=.box t x)(h:eE GL x=some y)(d:jW n (s.val y)=true)(R:Rel GL g s a w):CR GL P o g s a w [(.bp s.E.Y 0,false,s.E.cO (s.val y).cells)]:=by
 obtain⟨f,r,c3⟩:=pA (cv R h) (fb d).2;obtain⟨j,l,p,q⟩:=Ad (t:=t) R f c3;refine⟨_,aR.2 rfl,_,_,j,.inl ?_,l,p,q,bT⟩;unfold execOp;rw[hop];simp[Instr.box,qx]
def KX{t:TypeId}(hop:o.op=.makeMap t none)(R:Rel GL g s a w):CR GL P o g s a w [(.mp s.E.Y,false,s.E.hN)]:=by
 obtain⟨d,f,j,l⟩:=P3 R;refine⟨_,aR.2 rfl,_,_,d,.inl ?_,f,j,l,bT⟩;unfold execOp;rw[hop];simp only[Sem.run_bind,show(Instr.makeMap t (Option.map a.eval none)).run P w=.ok (.map (some w.heap.size)) (w.alloc (.map #[] 0))from rfl,Result.andThen_ok,Sem.run_pure]
def M4(R:Rel GL g s a w){u:V}{x:Value}{kvs:List (V×V)}(hx:VR g u x)(h:FR s.E u=some kvs):∃es c,(x=.map none/\es=#[]\/∃b,x=.map (some b)/\w.heap[b]?=some (.map es c))/\es.size=kvs.length/\
 (∀(j:Nat) u e,kvs[j]?=some u->es[j]?=some e->VR g u.1 e.key)/\∀(j:Nat) u e,kvs[j]?=some u->es[j]?=some e->VR g u.2 e.val:=by
 cases hx<;>simp only[FR]at h<;>first|(cases h;done)|skip
 next id b hb=>
  split at h
  next t p=>cases h;obtain⟨H,o,d,f,y,_,es,c,rfl,l⟩:=R.heap.map id _ p;cases (d.symm.trans hb);exact⟨es,c,.inr ⟨_,rfl,y⟩,l.len,l.key,l.val⟩
  .cases h
 .cases h;exact⟨#[],0,.inl ⟨rfl,rfl⟩,rfl,bT,bT⟩
 next K L b es c z A N q r=>
  split at h
  next D=>
   cases h;refine⟨es,c,.inr ⟨_,rfl,(R.gF.eY _ _ z).1⟩,by simp[A,D],λj u e d f=>?_,λj u e d f=>?_⟩
   .rw[lU]at d;exact q j _ e d.1 f
   .rw[lU]at d;exact r j _ e d.2 f
  .cases h
def yd{t:TypeId}{z:V}(h:Dr P t=some z)(g:aY)(w:World):∃zv,(zeroValue t).run P w=.ok zv w/\VR g z zv:=by
 unfold Dr at h;cases e:(P.info? t).bind (·.zero)with
 |none=>simp[e]at h
 |some zv=>
  simp only[e,gx]at h;exact⟨zv,lD e w,Dg h g⟩
def A4{ok b:Bool}{v:V}{x:Value}(hx:VR g v x):VR g (i6 ok v b) (if ok then .tuple #[x,.bool b]else x):=by
 unfold i6;cases ok with
 |false=>exact hx
 |true=>
  refine .hJ _ _ rfl (λj c y d f=>?_)
  match j with
  |0=>simp at d f;subst d f;exact hx
  |1=>simp at d f;subst d f;exact .bool b
  |j+2=>simp at d
def w4{d:TypeId}{t:List CK}{ag:Bool}{u:V}{x:Value}{kvs:List (V×V)}{es:Array MapEntry}{r:Option Nat}(y:ya P d=some t)(z:fm P d=some ag)(hx:VR g u x)
 (p:rH t ag u kvs=some r) (hlen:es.size=kvs.length) (q:∀(j:Nat) u e,kvs[j]?=some u->es[j]?=some e->VR g u.1 e.key):
 (∀em w,(Instr.checkKey em 10000 d x).run P w=.ok () w)/\∀w,(Instr.findKey d x es.toList).run P w=.ok (r.map λj=>(j,((es[j]?).map (·.val)).getD undef)) w:=by
 unfold rH at p;split at p
 next f=>
  have l:fm P d=some u.isAgg:=by rw[f.2.1];exact z
  refine⟨λem w=>zN y hx f.1 l em w,λw=>?_⟩;have:=A1 (P:=P) y hx f.1 l w (kvs:=kvs) (es:=es.toList) (r:=r) (by simpa using hlen) (λj u e A D=>q j u e A (by simpa using D)) (by rw[f.2.1];exact f.2.2) p;simpa using this
 .cases p
def HS{t y et:TypeId}{H:List CK}{ag ok:Bool}{z:V}{mo K:Operand}{m k:eL}{l:List (V×Bool×aK)}(hop:o.op=.lookup t mo K ok)(a3:P.underlying t=some (.map y et))(a4:ya P y=some H)(ai:fm P y=some ag)
 (aA:Dr P et=some z) (hm:eE GL mo=some m) (aB:eE GL K=some k) (d:HX.act s (.lookup H ag z ok m k)=some l) (R:Rel GL g s a w):CR GL P o g s a w l:=by
 have hX:=cv R hm;have a5:=cv R aB;simp only[HX.act]at d;split at d
 next kvs f=>
  have aC:∀i j A,s.val m≠.lp i j A:=by intro i j A e;rw[e]at f;simp[FR]at f
  obtain⟨u,c,oO,hlen,ab,ac⟩:=M4 R (hX.od aC) f;have aD:∀r,rH H ag (s.val k) kvs=some r->∀i j A,s.val k≠.lp i j A:=by
   intro r hr i j A e;exact W2
  have run:∀r,rH H ag (s.val k) kvs=some r->∀x b,(∀p,(zeroValue et).run P w=.ok p w->(match r with|some j=>(((u[j]?).map (·.val)).getD undef,true)|none=>(p,false))=(x,b))->
   (execOp a.eval o).run P w=.ok (.value (if ok then .tuple #[x,.bool b]else x)) w:=by
   intro r hr x b q;obtain⟨a6,a7⟩:=w4 a4 ai (a5.od (aD r hr)) hr hlen ab;obtain⟨p,L,_⟩:=yd aA g w;have q:=q p L;unfold execOp;rw[hop];refine yS ?_;have fin:∀(m:Sem Value),m=(do
    Instr.checkKey u.isEmpty 10000 y (a.eval K)
    let(v,a0)<-match<-Instr.findKey y (a.eval K) u.toList with
     |some (_,v)=>pure (v,true)
     |none=>pure (<-zeroValue et,false)
    pure (if ok then .tuple #[v,.bool a0]else v))->m.run P w=.ok (if ok then .tuple #[x,.bool b]else x) w:=by
    rintro _ rfl;simp only[Sem.run_bind,a6,Result.andThen_ok,a7];cases r with
    |none=>obtain⟨rfl,rfl⟩:=Prod.mk.inj q;simp only[jr,Sem.run_bind,L,Result.andThen_ok,Sem.run_pure]
    |some j=>obtain⟨rfl,rfl⟩:=Prod.mk.inj q;simp only[bF,Sem.run_bind,Sem.run_pure,Result.andThen_ok]
   unfold Instr.lookup;rw[Sem.run_bind,run_underlying a3,Result.andThen_ok];rcases oO with⟨D,a1⟩|⟨bi,D,a2⟩
   .rw[D];subst a1;exact fin _ rfl
   .rw[D];simp only[bind_assoc];rw[Sem.run_bind,r0 a2,Result.andThen_ok];exact fin _ rfl
  split at d
  next j N=>
   obtain⟨v,ad,_⟩:=wm N;simp only[ad,bF,co]at d;subst d;have Q:j<u.size:=by rw[hlen];exact b0 ad
   refine⟨_,aR.2 rfl,_,w,g,.inl (run _ N u[j].val true (λp _=>by simp[Q])),R.same,Step.refl g w,A4 (ac j _ u[j] ad (by simp[Q])),bT⟩
  next N=>cases d;obtain⟨p,L,a8⟩:=yd aA g w;refine⟨_,aR.2 rfl,_,w,g,.inl (run _ N p false (λa9 h=>by rw[L]at h;injection h with h;rw[h])),R.same,Step.refl g w,A4 a8,bT⟩
  .cases d
 .cases d
def ER.mp{id b:Nat}{x:Value}(h:ER g (.mp id) x)(hb:g.hb id=some b):x=.map (some b):=by
 cases h with|mp _ d h=>obtain rfl:=ar (h.symm.trans hb);rfl
def stays{k:V}{x y:Value}(d:∀c∈k.cells,c.exact=true)(hx:VR g k x)(f:VR g k y)(w:World):(Instr.keyThatStays y x).run P w=.ok x w:=by
 have:=M2 d hx f;subst this;unfold Instr.keyThatStays;rw[ax (EE d hx)];rfl
def nH{f:List CK}{ag:Bool}{u:V}{kvs:List (V×V)}{r:Option Nat}(hr:rH f ag u kvs=some r):∀i j d,u≠.lp i j d:=by
 intro i j d e;exact W2
def HT{t D et:TypeId}{ad:List CK}{ag:Bool}{mo ai aA:Operand}{m k v:eL}{l:List (V×Bool×aK)}(hop:o.op=.mapUpdate t mo ai aA)(aB:P.underlying t=some (.map D et))(aC:ya P D=some ad)(z:fm P D=some ag)
 (hm:eE GL mo=some m) (aD:eE GL ai=some k) (a0:eE GL aA=some v) (d:HX.act s (.sD ad ag m k v)=some l) (R:Rel GL g s a w):CR GL P o g s a w l:=by
 have hX:=cv R hm;have r:=cv R aD;have y:=cv R a0;simp only[HX.act]at d;split at d
 next id a1=>
  rw[a1]at hX;split at d
  next kvs H=>
   split at d
   .cases d
   next a2=>
    replace y:=y.od (Ds a2);obtain⟨b,_,dW,a3,hb,_,K,c,rfl,f⟩:=R.heap.map id _ H;have A:a.eval mo=.map (some b):=hX.mp dW;split at d
    next j p=>
     cases d;obtain⟨L,N⟩:=w4 aC z (r.od (nH p)) p f.len f.key;obtain⟨u,a4,hex⟩:=wm p;have a5:j<K.size:=by rw[f.len];exact b0 a4
     have Q:K[j]?=some K[j]:=by simp[a5]
     have q:=r.od (nH p);obtain⟨ab,ac⟩:=R.eJ hb a3 dW (f.set (k:=s.val k) (v:=s.val v) Q q y);refine⟨_,aR.2 rfl,undef,_,g,.inr ⟨?_,rfl⟩,ab,ac,.qn,bT⟩;unfold execOp;rw[hop];simp only[Instr.mapUpdate,Sem.run_bind,run_underlying aB,Result.andThen_ok,A,r0 hb,L,N,bF,Q,bf,stays hex q (f.key j _ _ a4 Q),uw hb,Sem.run_pure]
    next p=>cases d;obtain⟨L,N⟩:=w4 aC z (r.od (nH p)) p f.len f.key;have q:=r.od (nH p);obtain⟨ab,ac⟩:=R.eJ hb a3 dW (f.push (k:=s.val k) (v:=s.val v) q y);refine⟨_,aR.2 rfl,undef,_,g,.inr ⟨?_,rfl⟩,ab,ac,.qn,bT⟩;unfold execOp;rw[hop];simp only[Instr.mapUpdate,Sem.run_bind,run_underlying aB,Result.andThen_ok,A,r0 hb,L,N,jr,uw hb,Sem.run_pure]
    .cases d
  .cases d
 .cases d
def Jh{v:V}{x:Value}(hx:VR g v x)(n:Nat):VR g (.hJ [v,.int .i64 n]) (.tuple #[x,goInt n]):=by
 refine .hJ _ _ rfl (λj c y d f=>?_)
 match j with
 |0=>simp at d f;subst d f;exact hx
 |1=>simp at d f;subst d f;exact .int _ _
 |j+2=>simp at d
def EF{t ac et:TypeId}{aC:List CK}{ag:Bool}{z:V}{mo A:Operand}{m k:eL}{l:List (V×Bool×aK)}(hop:o.op=.mapEntry t mo A)(aD:P.underlying t=some (.map ac et))(a0:ya P ac=some aC)(N:fm P ac=some ag)
 (a6:Dr P et=some z) (hm:eE GL mo=some m) (a1:eE GL A=some k) (f:HX.act s (.mapEntry aC ag z m k)=some l) (R:Rel GL g s a w):CR GL P o g s a w l:=by
 have hX:=cv R hm;have D:=cv R a1;simp only[HX.act]at f;split at f
 next id a2=>
  rw[a2]at hX;split at f
  next kvs ad=>
   obtain⟨b,_,dW,a3,hb,_,q,c,rfl,d⟩:=R.heap.map id _ ad;have Q:a.eval mo=.map (some b):=hX.mp dW;split at f
   next j p=>
    obtain⟨ai,aA⟩:=w4 a0 N (D.od (nH p)) p d.len d.key;obtain⟨u,H,hex⟩:=wm p;simp only[H,bF,co]at f;subst f;have a4:j<q.size:=by rw[d.len];exact b0 H
    have y:q[j]?=some q[j]:=by simp[a4]
    have r:=D.od (nH p);have ab:=d.val j _ _ H y;obtain⟨K,L⟩:=R.eJ hb a3 dW (d.set (k:=s.val k) (v:=u) y r ab);have aB:(q.modify j λe=>{e with key:=a.eval A})=q.modify j λe=>{e with key:=a.eval A,val:=q[j].val}:=by
     exact W6
    rw[<-aB]at K L;refine⟨_,aR.2 rfl,.tuple #[q[j].val,goInt (j:Nat)],_,g,.inl ?_,K,L,Jh ab j,bT⟩;unfold execOp;rw[hop];simp only[Instr.mapEntry,Sem.run_bind,run_underlying aD,Result.andThen_ok,Q,r0 hb,ai,aA,bF,y,bf,stays hex r (d.key j _ _ H y),uw hb,Sem.run_pure,d.born j _ y]
   next p=>cases f;obtain⟨ai,aA⟩:=w4 a0 N (D.od (nH p)) p d.len d.key;have r:=D.od (nH p);obtain⟨a7,a8,a5⟩:=yd a6 g w;obtain⟨K,L⟩:=R.eJ hb a3 dW (d.push (k:=s.val k) (v:=z) r a5);refine⟨_,aR.2 rfl,.tuple #[a7,goInt (kvs.length:Nat)],_,g,.inl ?_,K,L,Jh a5 _,bT⟩;unfold execOp;rw[hop];simp only[Instr.mapEntry,Sem.run_bind,run_underlying aD,Result.andThen_ok,Q,r0 hb,ai,aA,jr,a8,uw hb,Sem.run_pure];rw[d.MI,d.len]
   .cases f
  .cases f
 .cases f
def A5{t:TypeId}{mo so r:Operand}{m st v:eL}{l:List (V×Bool×aK)}(hop:o.op=.entryStore t mo so r)
 (hm:eE GL mo=some m) (K:eE GL so=some st) (L:eE GL r=some v) (d:HX.act s (.entryStore m st v)=some l) (R:Rel GL g s a w):CR GL P o g s a w l:=by
 have hX:=cv R hm;have hS:=cv R K;have z:=cv R L;simp only[HX.act]at d;split at d
 next id j N Q=>
  rw[N]at hX;obtain⟨aC,ab⟩:=mS Q hS;split at d
  next kvs A=>
   split at d
   .cases d
   next ac=>
    replace z:=z.od (Ds ac);obtain⟨b,_,dW,aB,hb,_,f,c,rfl,q⟩:=R.heap.map id _ A;have ad:a.eval mo=.map (some b):=hX.mp dW;obtain⟨p,E,rfl⟩:=dp d;obtain⟨pk,aD⟩:=p;have y:j<f.size:=by rw[q.len];exact b0 E
    have D:f[j]?=some f[j]:=by simp[y]
    obtain⟨ai,aA⟩:=R.eJ hb aB dW (q.set (k:=pk) (v:=s.val v) D (q.key j _ _ E D) z);have H:(f.modify j λe=>{e with val:=a.eval r})=f.modify j λe=>{e with key:=f[j].key,val:=a.eval r}:=by
     exact W6
    rw[<-H]at ai aA;have u:f.findIdx? (λe=>(e.born:Int)==(j:Int))=some j:=by
     rw[Array.findIdx?_eq_some_iff_getElem];refine⟨y,by rw[q.born j _ D];simp,λi hi=>?_⟩;rw[q.born i f[i] bT];simp;omega
    refine⟨_,aR.2 rfl,undef,_,g,.inr ⟨?_,rfl⟩,ai,aA,.qn,bT⟩;unfold execOp;rw[hop];simp only[Instr.entryStore,Sem.run_bind,Result.andThen_ok,ad,r0 hb,ab,asInt,asIntOf,Sem.run_pure,u,uw hb]
  .cases d
 .cases d
def CS(d:Nat)(t e:TypeId)(base:Option Addr)(len cap:Nat)(w:World)(f:P.underlying t=some (.slice e)):(Op.equalIn (d+1) t (.slice base len cap) (.slice none 0 0)).run P w=.ok base.isNone w:=by
 cases base<;>simp[Op.equalIn,run_underlying f]
def zO{y:Operand}(h:sH y=true):a.eval y=.slice none 0 0:=by
 unfold sH at h;split at h
 .rfl
 .cases h
def Dt{t e:TypeId}{neg:Bool}{op:BinOp}{x y:Operand}{z:TypeId}{q:eL}{l:List (V×Bool×aK)}(hop:o.op=.binOp op t x y z)(A:op=if neg then .neq else .eql)(D:P.underlying t=some (.slice e))(H:sH y=true)
 (hx:eE GL x=some q) (j:HX.act s (.wZ neg q)=some l) (R:Rel GL g s a w):CR GL P o g s a w l:=by
 have hX:=cv R hx;have d:∀(base:Option Addr)(len cap:Nat),a.eval x=.slice base len cap->(execOp a.eval o).run P w=.ok (.value (.bool (if neg then !base.isNone else base.isNone))) w:=by
  intro base len cap K;unfold execOp;rw[hop,A];refine yS ?_;rw[zO H,K];exact oU neg (by cases neg<;>simp[eqGuard]) rfl rfl (CS 9999 t e base len cap w D)
 have put:∀b,((V.bool b),false,s.E)∈l->(execOp a.eval o).run P w=.ok (.value (.bool b)) w->CR GL P o g s a w l:=λb hm L=>
  ⟨_,hm,_,w,g,.inl L,R.same,Step.refl g w,.bool b,bT⟩
 simp only[HX.act]at j;split at j
 next p=>rw[p]at hX;cases j;refine put (!neg) bT ?_;rw[d none 0 0 hX.aP];cases neg<;>rfl
 next sz id off len c p=>
  rw[p]at hX;cases j;refine put neg bT ?_;rcases hX.ms with⟨b,_,f,_⟩|⟨_,f,_⟩
  .rw[d _ _ _ f];cases neg<;>rfl
  .cases f
 next sz u r p=>
  rw[p]at hX;cases j;refine put neg bT ?_;rcases hX.sl with⟨f,_⟩|⟨N,cap,Q,f,_⟩
  .cases f
  .rw[d _ _ _ f];cases neg<;>rfl
 next sz p=>
  rw[p]at hX;cases j;rcases hX.sl with⟨_,f⟩|⟨N,cap,Q,f,_⟩
  .refine put (!neg) bT ?_;rw[d none 0 0 f];cases neg<;>rfl
  .refine put neg bT ?_;rw[d _ _ _ f];cases neg<;>rfl
 .cases j
def YD{H:HX}{l:List (V×Bool×aK)}(h:P4 P GL hs o=some H)(d:H.act s=some l)(R:Rel GL g s a w):CR GL P o g s a w l:=by
 unfold P4 at h;split at h
 next t hop=>
  split at h
  .obtain⟨zs,ac,rfl⟩:=dp h;simp only[HX.act,co]at d;subst d;exact HO hop ac R
  .cases h
 next t x hop=>
  split at h
  .split at h
   next n y aB A=>
    cases h;simp only[HX.act]at d;split at d
    next ad=>cases d;exact M3 hop A ad R
    .cases d
   .cases h
  .cases h
 next t hop=>cases h;simp only[HX.act,co]at d;subst d;exact KX hop R
 next t m k ok hop=>
  split at h
  next K et q=>
   split at h
   next L ag z D N f j p r u=>cases h;exact HS hop q f j p r u d R
   .cases h
  .cases h
 next t m k v hop=>
  split at h
  next K et q=>
   split at h
   next L ag D N ai f j p r u=>cases h;exact HT hop q f j p r u d R
   .cases h
  .cases h
 next t m k hop=>
  split at h
  next K et q=>
   split at h
   next L ag z D N f j p r u=>cases h;exact EF hop q f j p r u d R
   .cases h
  .cases h
 next t m st v hop=>
  split at h
  next D aA ai f j p=>cases h;exact A5 hop f j p d R
  .cases h
 next op t x y aC hop=>
  split at h
  next e Q=>
   split at h
   next A=>
    split at h
    next ab hx=>cases h;exact Dt (neg:=false) hop rfl Q A hx d R
    next ab hx=>cases h;exact Dt (neg:=true) hop rfl Q A hx d R
    .cases h
   .cases h
  .cases h
 .cases h
end
end
end Go.Bx
