/- Lemmas for HistoryBegins. -/
import Derived.Test.YtmbahmpbmcfifaaGreatDoorCc
import Derived.KernelRfl
import Derived.RecoverIn
import Derived.TacticsInMore
noncomputable section
set_option linter.all false
set_option maxHeartbeats 4000000
set_option maxRecDepth 100000
namespace Go.Bx
def F7:V->V->V->Option V
 |.bool t,a,b=>some (if t then a else b)
 |_,_,_=>none
def ldA(n:Nat):Option (List V)->Option V
 |some cs=>if n<=cs.length then some (.agg (cs.take n))else none
 |none=>none
def ld1:Option (List V)->Option V
 |some (c::_)=>some c
 |_=>none
def NB:V->Option V
 |.lp a b c=>some (.lp a b c)
 |.bp a b=>some (.bp a b)
 |.ep cs=>some (.ep cs)
 |_=>none
def Qo(neg:Bool):V->V->Option V
 |.bool a,.bool b=>some (.bool (if neg then !(a==b)else a==b))
 |_,_=>none
def ry(neg:Bool)(a b:V):Option V:=match x2 a,x2 b with
 |some true,some b=>some (.bool (if neg then !b else b))
 |some b,some true=>some (.bool (if neg then !b else b))
 |_,_=>none
def Qp(neg:Bool)(d:List CK):V->V->Option V
 |.agg a,.agg b=>(dI d a b).map λt=>.bool (if neg then !t else t)
 |_,_=>none
def YS:UnOp->V->Option V
 |.neg,.int k n=>some (.int k (k.wrap (0-n)))
 |.not,.bool b=>some (.bool !b)
 |.xor,.int k n=>some (.int k (k.wrap ((BitVec.ofInt k.bits (if k.signed then -1 else k.max) ^^^ BitVec.ofInt k.bits n).toNat:Nat)))
 |_,_=>none
def Ib(k:IntKind):V->Option V
 |.int _ n=>some (.int k (k.wrap n))
 |_=>none
def EN:V->Option V
 |.sl 1 a=>(bytesOf a).map .str
 |.aP=>some (.str [])
 |_=>none
def vE(n c:Nat)(lo a:Option V):Option (Nat×Nat):=
 match(match a with|some h=>idxOf h|none=>some n),(match lo with|some l=>idxOf l|none=>some 0)with
 |some h,some l=>if l<=h/\h<=c then some (l,h)else none
 |_,_=>none
def EO(sz:Nat)(v:V)(lo f:Option V):Option V:=match v with
 |.sl d j=>if sz=d then(vE j.length j.length lo f).map λ(a,b)=>.sl d ((j.drop a).take (b-a))else none
 |.aP=>(vE 0 0 lo f).map λ_=>.aP
 |.ms d id off n c=>if sz=d then(vE n c lo f).map λ(a,b)=>.ms d id (off+a*sz) (b-a) (c-a)else none
 |_=>none
def DG(v:V)(lo d:Option V):Option V:=match v with
 |.str l=>(vE l.length l.length lo d).map λ(a,b)=>.str ((l.drop a).take (b-a))
 |_=>none
def Ju(n:Nat):V->Option V
 |.bp id o=>some (.ms 1 id o n n)
 |.ep cells=>if n<=cells.length then some (.sl 1 (cells.take n))else none
 |_=>none
def YT(off:Nat):V->Option V
 |.lp st a o=>some (.lp st a (o+off))
 |.bp id o=>some (.bp id (o+off))
 |.ep cells=>if off<=cells.length then some (.ep (cells.drop off))else none
 |_=>none
def YU(ag:Bool)(off n:Nat):V->Option V
 |.agg cs=>if ag then(if off+n<=cs.length then some (.agg ((cs.drop off).take n))else none)else cs[off]?
 |_=>none
def YV(sz:Nat):V->V->Option V
 |.sl a d,.int _ n=>if 0<=n then(if sz=a then(d[n.toNat]?).map λv=>.ep v.cells else none)else none
 |.ms a id off m _,.int _ n=>if 0<=n then(if sz=a/\n.toNat<m then some (.bp id (off+n.toNat*sz))else none)else none
 |_,_=>none
def Lh(len sz:Nat):V->V->Option V
 |.lp st a o,.int _ n=>if 0<=n then(if n.toNat<len then some (.lp st a (o+n.toNat*sz))else none)else none
 |.bp id o,.int _ n=>if 0<=n then(if n.toNat<len then some (.bp id (o+n.toNat*sz))else none)else none
 |.ep cells,.int _ n=>if 0<=n then(if n.toNat<len/\n.toNat*sz<=cells.length then some (.ep (cells.drop (n.toNat*sz)))else none)else none
 |_,_=>none
def isV:V->V->Option V
 |.str l,.int _ n=>if 0<=n then(l[n.toNat]?).map λb=>.int .u8 b.toNat else none
 |_,_=>none
def Li(ag:Bool)(len sz:Nat):V->V->Option V
 |.agg cs,.int _ n=>if 0<=n then(if ag then(if n.toNat<len/\n.toNat*sz+sz<=cs.length then some (.agg ((cs.drop (n.toNat*sz)).take sz))else none)else if n.toNat<len then cs[n.toNat*sz]? else none)else none
 |_,_=>none
def xj:V->Option V
 |.sl _ a=>some (.int .i64 a.length)
 |.aP=>some (.int .i64 0)
 |.ms _ _ _ n _=>some (.int .i64 n)
 |_=>none
def Qq:V->Option V
 |.aP=>some (.int .i64 0)
 |.ms _ _ _ _ c=>some (.int .i64 c)
 |_=>none
def NC:V->Option V
 |.str l=>some (.int .i64 l.length)
 |_=>none
def UZ(i:Nat):V->Option V
 |.hJ a=>a[i]?
 |_=>none
def ND:V->V->Option V
 |.int k a,.int _ b=>some (.int k (if b<a then b else a))
 |_,_=>none
def NE:V->V->Option V
 |.int k a,.int _ b=>some (.int k (if b>a then b else a))
 |_,_=>none
def Lj(v:V):idxOf v=match v with|.int _ n=>if 0<=n then some n.toNat else none|_=>none:=by cases v<;>rfl
def abd:
 (∀(s:St) x,dv s (.move x)=some (s.val x))/\
 (∀(s:St) x,dv s (.same x)=some (s.val x))/\
 (∀(s:St) c a b,dv s (.pick c a b)=F7 (s.val c) (s.val a) (s.val b))/\
 (∀(s:St) n a,dv s (.load true n a)=ldA n (s.iO (s.val a)))/\
 (∀(s:St) n a,dv s (.load false n a)=ld1 (s.iO (s.val a)))/\
 (∀(s:St) x,dv s (.nilCheck x)=NB (s.val x))/\
 (∀(s:St) op x y,dv s (.bin op x y)=oa op (s.val x) (s.val y))/\
 (∀(s:St) g x y,dv s (.Ws g x y)=Qo g (s.val x) (s.val y))/\
 (∀(s:St) g x y,dv s (.Wt g x y)=ry g (s.val x) (s.val y))/\
 (∀(s:St) g d x y,dv s (.eqc g d x y)=Qp g d (s.val x) (s.val y))/\
 (∀(s:St) op x,dv s (.un op x)=YS op (s.val x))/\
 (∀(s:St) k x,dv s (.toInt k x)=Ib k (s.val x))/\
 (∀(s:St) x,dv s (.Dc x)=EN (s.val x))/\
 (∀(s:St)(z:Nat) x,dv s (.cut z x none none)=EO z (s.val x) none none)/\
 (∀(s:St) x,dv s (.Eu x none none)=DG (s.val x) none none)/\
 (∀(s:St)(z:Nat) x h,dv s (.cut z x none (some h))=EO z (s.val x) none (some (s.val h)))/\
 (∀(s:St) x h,dv s (.Eu x none (some h))=DG (s.val x) none (some (s.val h)))/\
 (∀(s:St)(z:Nat) x l,dv s (.cut z x (some l) none)=EO z (s.val x) (some (s.val l)) none)/\
 (∀(s:St) x l,dv s (.Eu x (some l) none)=DG (s.val x) (some (s.val l)) none)/\
 (∀(s:St)(z:Nat) x l h,dv s (.cut z x (some l) (some h))=EO z (s.val x) (some (s.val l)) (some (s.val h)))/\
 (∀(s:St) x l h,dv s (.Eu x (some l) (some h))=DG (s.val x) (some (s.val l)) (some (s.val h)))/\
 (∀(s:St) n x,dv s (.nL n x)=Ju n (s.val x))/\
 (∀(s:St) o x,dv s (.fieldAddr o x)=YT o (s.val x))/\
 (∀(s:St) o n x,dv s (.field true o n x)=YU true o n (s.val x))/\
 (∀(s:St) o n x,dv s (.field false o n x)=YU false o n (s.val x))/\
 (∀(s:St) z x j,dv s (.sy z x j)=YV z (s.val x) (s.val j))/\
 (∀(s:St) l z x j,dv s (.rX l z x j)=Lh l z (s.val x) (s.val j))/\
 (∀(s:St) x j,dv s (.x1 x j)=isV (s.val x) (s.val j))/\
 (∀(s:St) l z x j,dv s (.uc true l z x j)=Li true l z (s.val x) (s.val j))/\
 (∀(s:St) l z x j,dv s (.uc false l z x j)=Li false l z (s.val x) (s.val j))/\
 (∀(s:St) x,dv s (.len x)=xj (s.val x))/\
 (∀(s:St) x,dv s (.cap x)=Qq (s.val x))/\
 (∀(s:St) x,dv s (.MJ x)=NC (s.val x))/\
 (∀(s:St) n,dv s (.MK n)=some (.int .i64 (n:Nat)))/\
 (∀(s:St) x j,dv s (.extract x j)=UZ j (s.val x))/\
 (∀(s:St) z p,dv s (.build z p)=(jS s z p).map .agg)/\
 (∀(s:St) f c,dv s (.AG f c)=(if c.all (λx=>(s.val x).one)then some (.fn f (c.map s.val))else none))/\
 (∀(s:St) t x,dv s (.wT t x)=(if(s.val x).one then some (.Hz t (s.val x))else none))/\
 (∀(s:St) x y,dv s (.min2 x y)=ND (s.val x) (s.val y))/\
 (∀(s:St) x y,dv s (.max2 x y)=NE (s.val x) (s.val y)):=by
 and_intros<;>intro s<;>intros<;>first
  |rfl
  |(simp only[dv,F7,ldA,ld1,NB,Qo,ry,Qp,YS,Ib,EN,Ju,YT,YU,xj,Qq,NC,UZ,ND,NE]<;>rfl)
  |(simp only[dv,EO,DG,tu,ud,vE]<;>rfl)
  |(rename_i p q r;simp only[dv];generalize s.val p=u;cases u<;>rfl)
  |(rename_i p q;simp only[dv,Lj];generalize s.val p=u;generalize s.val q=w;cases u<;>cases w<;>first|rfl|(rename_i n;simp only[YV,Lh,isV,Li];by_cases A:(0:Int)<=n<;>simp[A]))
def abe:
 (∀a b,F7 (.bool true) a b=some a)/\
 (∀a b,F7 (.bool false) a b=some b)/\
 (∀t a b,F7 (.bool t) a b=some (if t then a else b))/\
 (∀n cs,ldA n (some cs)=if n<=cs.length then some (.agg (cs.take n))else none)/\
 (∀c cs,ld1 (some (c::cs))=some c)/\
 (∀a b c,NB (.lp a b c)=some (.lp a b c))/\
 (∀a b,NB (.bp a b)=some (.bp a b))/\
 (∀a,NB (.ep a)=some (.ep a))/\
 (∀a b,Qo false (.bool a) (.bool b)=some (.bool (a==b)))/\
 (∀a b,Qo true (.bool a) (.bool b)=some (.bool (!(a==b))))/\
 (ry false .lv .lv=some (.bool true))/\
 (∀a b,ry false (.bp a b) .lv=some (.bool false))/\
 (∀a b,ry false .lv (.bp a b)=some (.bool false))/\
 (∀a b c,ry false (.lp a b c) .lv=some (.bool false))/\
 (∀a b c,ry false .lv (.lp a b c)=some (.bool false))/\
 (∀a,ry false (.ep a) .lv=some (.bool false))/\
 (∀a,ry false .lv (.ep a)=some (.bool false))/\
 (∀r a b,Qp false r (.agg a) (.agg b)=(dI r a b).map λt=>.bool (t))/\
 (ry true .lv .lv=some (.bool false))/\
 (∀a b,ry true (.bp a b) .lv=some (.bool true))/\
 (∀a b,ry true .lv (.bp a b)=some (.bool true))/\
 (∀a b c,ry true (.lp a b c) .lv=some (.bool true))/\
 (∀a b c,ry true .lv (.lp a b c)=some (.bool true))/\
 (∀a,ry true (.ep a) .lv=some (.bool true))/\
 (∀a,ry true .lv (.ep a)=some (.bool true))/\
 (∀r a b,Qp true r (.agg a) (.agg b)=(dI r a b).map λt=>.bool (!t))/\
 (dI [] [] []=some true)/\
 (∀k n,YS .neg (.int k n)=some (.int k (k.wrap (0-n))))/\
 (∀c,YS .not (.bool c)=some (.bool !c))/\
 (∀k n,YS .xor (.int k n)=some (.int k (k.wrap ((BitVec.ofInt k.bits (if k.signed then -1 else k.max) ^^^ BitVec.ofInt k.bits n).toNat:Nat))))/\
 (∀k p n,Ib k (.int p n)=some (.int k (k.wrap n)))/\
 (∀xs,EN (.sl 1 xs)=(bytesOf xs).map .str)/\
 (EN .aP=some (.str []))/\
 (∀n c,vE n c none none=if 0<=n/\n<=c then some (0,n)else none)/\
 (∀n c k h,0<=h->vE n c none (some (.int k h))=if 0<=h.toNat/\h.toNat<=c then some (0,h.toNat)else none)/\
 (∀n c k l,0<=l->vE n c (some (.int k l)) none=if l.toNat<=n/\n<=c then some (l.toNat,n)else none)/\
 (∀n c k l p h,0<=l->0<=h->vE n c (some (.int k l)) (some (.int p h))=if l.toNat<=h.toNat/\h.toNat<=c then some (l.toNat,h.toNat)else none)/\
 (∀z xs lo q,EO z (.sl z xs) lo q=(vE xs.length xs.length lo q).map λ(a,b)=>.sl z ((xs.drop a).take (b-a)))/\
 (∀z lo q,EO z .aP lo q=(vE 0 0 lo q).map λ_=>.aP)/\
 (∀z j o n c lo q,EO z (.ms z j o n c) lo q=(vE n c lo q).map λ(a,b)=>.ms z j (o+a*z) (b-a) (c-a))/\
 (∀l lo q,DG (.str l) lo q=(vE l.length l.length lo q).map λ(a,b)=>.str ((l.drop a).take (b-a)))/\
 (∀n a b,Ju n (.bp a b)=some (.ms 1 a b n n))/\
 (∀n cs,Ju n (.ep cs)=if n<=cs.length then some (.sl 1 (cs.take n))else none)/\
 (∀o a b c,YT o (.lp a b c)=some (.lp a b (c+o)))/\
 (∀o a b,YT o (.bp a b)=some (.bp a (b+o)))/\
 (∀o cs,YT o (.ep cs)=if o<=cs.length then some (.ep (cs.drop o))else none)/\
 (∀o n cs,YU true o n (.agg cs)=if o+n<=cs.length then some (.agg ((cs.drop o).take n))else none)/\
 (∀o n cs,YU false o n (.agg cs)=cs[o]?)/\
 (∀z xs k n,0<=n->YV z (.sl z xs) (.int k n)=(xs[n.toNat]?).map λv=>.ep v.cells)/\
 (∀z j o m c k n,0<=n->YV z (.ms z j o m c) (.int k n)=if n.toNat<m then some (.bp j (o+n.toNat*z))else none)/\
 (∀l z a b c k n,0<=n->Lh l z (.lp a b c) (.int k n)=if n.toNat<l then some (.lp a b (c+n.toNat*z))else none)/\
 (∀l z a b k n,0<=n->Lh l z (.bp a b) (.int k n)=if n.toNat<l then some (.bp a (b+n.toNat*z))else none)/\
 (∀l z cs k n,0<=n->Lh l z (.ep cs) (.int k n)=if n.toNat<l/\n.toNat*z<=cs.length then some (.ep (cs.drop (n.toNat*z)))else none)/\
 (∀l k n,0<=n->isV (.str l) (.int k n)=(l[n.toNat]?).map λb=>.int .u8 b.toNat)/\
 (∀l z cs k n,0<=n->Li true l z (.agg cs) (.int k n)=if n.toNat<l/\n.toNat*z+z<=cs.length then some (.agg ((cs.drop (n.toNat*z)).take z))else none)/\
 (∀l z cs k n,0<=n->Li false l z (.agg cs) (.int k n)=if n.toNat<l then cs[n.toNat*z]? else none)/\
 (∀z xs,xj (.sl z xs)=some (.int .i64 xs.length))/\
 (xj .aP=some (.int .i64 0))/\
 (∀z j o n c,xj (.ms z j o n c)=some (.int .i64 n))/\
 (Qq .aP=some (.int .i64 0))/\
 (∀z j o n c,Qq (.ms z j o n c)=some (.int .i64 c))/\
 (∀l,NC (.str l)=some (.int .i64 l.length))/\
 (∀j vs,UZ j (.hJ vs)=vs[j]?)/\
 (∀k m p n,ND (.int k m) (.int p n)=some (.int k (if n<m then n else m)))/\
 (∀k m p n,NE (.int k m) (.int p n)=some (.int k (if n>m then n else m)))/\
 (∀k (x y:Int),oa .add (.int k x) (.int k y)=some (.int k (k.wrap (x+y))))/\
 (∀k (x y:Int),oa .sub (.int k x) (.int k y)=some (.int k (k.wrap (x-y))))/\
 (∀k (x y:Int),oa .mul (.int k x) (.int k y)=some (.int k (k.wrap (x*y))))/\
 (∀k (x y:Int),oa .quo (.int k x) (.int k y)=if y=0 then none else some (.int k (k.wrap (x.tdiv y))))/\
 (∀k (x y:Int),oa .rem (.int k x) (.int k y)=if y=0 then none else some (.int k (x.tmod y)))/\
 (∀k (x y:Int),oa .eql (.int k x) (.int k y)=some (.bool (x==y)))/\
 (∀k (x y:Int),oa .neq (.int k x) (.int k y)=some (.bool (x !=y)))/\
 (∀k (x y:Int),oa .lss (.int k x) (.int k y)=some (.bool (x<y)))/\
 (∀k (x y:Int),oa .leq (.int k x) (.int k y)=some (.bool (x<=y)))/\
 (∀k (x y:Int),oa .gtr (.int k x) (.int k y)=some (.bool (x>y)))/\
 (∀k (x y:Int),oa .geq (.int k x) (.int k y)=some (.bool (x>=y)))/\
 (∀k (x y:Int),oa .and (.int k x) (.int k y)=some (.int k (k.wrap ((BitVec.ofInt k.bits x&&& BitVec.ofInt k.bits y).toNat:Nat))))/\
 (∀k (x y:Int),oa .or (.int k x) (.int k y)=some (.int k (k.wrap ((BitVec.ofInt k.bits x|||BitVec.ofInt k.bits y).toNat:Nat))))/\
 (∀k (x y:Int),oa .xor (.int k x) (.int k y)=some (.int k (k.wrap ((BitVec.ofInt k.bits x ^^^ BitVec.ofInt k.bits y).toNat:Nat))))/\
 (∀k (x y:Int),oa .andNot (.int k x) (.int k y)=some (.int k (k.wrap ((BitVec.ofInt k.bits x&&& ~~~(BitVec.ofInt k.bits y)).toNat:Nat))))/\
 (∀k p (x y:Int),oa .shl (.int k x) (.int p y)=if y<0 then none else some (.int k (k.wrap (x*2 ^(min y.toNat k.bits)))))/\
 (∀k p (x y:Int),oa .shr (.int k x) (.int p y)=if y<0 then none else some (.int k (x.fdiv (2 ^(min y.toNat k.bits)))))/\
 (∀x y,oa .add (.str x) (.str y)=if x.length+y.length<=4611686018427387904 then some (.str (x++y))else none)/\
 (∀x y,oa .eql (.str x) (.str y)=some (.bool (x==y)))/\
 (∀x y,oa .neq (.str x) (.str y)=some (.bool (!(x==y))))/\
 (∀x y,oa .lss (.str x) (.str y)=some (.bool (Op.bytesLess x y)))/\
 (∀x y,oa .leq (.str x) (.str y)=some (.bool (Op.bytesLess x y||x==y)))/\
 (∀x y,oa .gtr (.str x) (.str y)=some (.bool (!(Op.bytesLess x y||x==y))))/\
 (∀x y,oa .geq (.str x) (.str y)=some (.bool (!(Op.bytesLess x y))))/\
 (∀k n,V.cells (.int k n)=[.int k n])/\
 (∀k n,V.one (.int k n)=true)/\
 (∀k n,V.dY (.int k n)=false)/\
 (∀b,V.cells (.bool b)=[.bool b])/\
 (∀b,V.one (.bool b)=true)/\
 (∀b,V.dY (.bool b)=false)/\
 (∀b,V.cells (.str b)=[.str b])/\
 (∀b,V.one (.str b)=true)/\
 (∀b,V.dY (.str b)=false)/\
 (∀n l,V.cells (.sl n l)=[.sl n l])/\
 (∀n l,V.one (.sl n l)=true)/\
 (∀n l,V.dY (.sl n l)=false)/\
 (V.cells (.aP)=[.aP])/\
 (V.one (.aP)=true)/\
 (V.dY (.aP)=false)/\
 (V.cells (.lv)=[.lv])/\
 (V.one (.lv)=true)/\
 (V.dY (.lv)=false)/\
 (∀a b,V.cells (.bp a b)=[.bp a b])/\
 (∀a b,V.one (.bp a b)=true)/\
 (∀a b,V.dY (.bp a b)=false)/\
 (∀a,V.cells (.ep a)=[.ep a])/\
 (∀a,V.one (.ep a)=true)/\
 (∀a,V.dY (.ep a)=false)/\
 (∀a,V.cells (.mp a)=[.mp a])/\
 (∀a,V.one (.mp a)=true)/\
 (∀a,V.dY (.mp a)=false)/\
 (V.cells (.qs)=[.qs])/\
 (V.one (.qs)=true)/\
 (V.dY (.qs)=false)/\
 (∀f c,V.cells (.fn f c)=[.fn f c])/\
 (∀f c,V.one (.fn f c)=true)/\
 (∀f c,V.dY (.fn f c)=false)/\
 (V.cells (.wR)=[.wR])/\
 (V.one (.wR)=true)/\
 (V.dY (.wR)=false)/\
 (∀t v,V.cells (.Hz t v)=[.Hz t v])/\
 (∀t v,V.one (.Hz t v)=true)/\
 (∀t v,V.dY (.Hz t v)=false)/\
 (V.cells (.zL)=[.zL])/\
 (V.one (.zL)=true)/\
 (V.dY (.zL)=false)/\
 (∀a b c d e,V.cells (.ms a b c d e)=[.ms a b c d e])/\
 (∀a b c d e,V.one (.ms a b c d e)=true)/\
 (∀a b c d e,V.dY (.ms a b c d e)=false)/\
 (∀c,V.cells (.agg c)=c)/\
 (∀c,V.dY (.agg c)=false)/\
 (∀a b c,V.dY (.lp a b c)=true):=by
 and_intros<;>intros<;>first
  |rfl
  |(simp only[EO,bP];done)
  |(simp[vE,YV,Lh,isV,Li,idxOf,oa,ML, *];done)
def abf:
 (∀d (k:IntKind)(x y:Int) r q,dI (.i::d) (.int k x::r) (.int k y::q)=(dI d r q).map λt=>(x==y)&&t)/\
 (∀d x y r q,dI (.s::d) (.str x::r) (.str y::q)=(dI d r q).map λt=>(x==y)&&t)/\
 (∀d x y r q,dI (.b::d) (.bool x::r) (.bool y::q)=(dI d r q).map λt=>(x==y)&&t)/\
 (∀(s:St) cs,jS s cs []=some cs)/\
 (∀(s:St) cs o n x r,jS s cs ((o,n,x)::r)=if jW n (s.val x)=true/\o+n<=cs.length then jS s (aQ cs o (s.val x).cells) r else none)/\
 (∀(s:St) z xs,iQ s z xs []=some xs)/\
 (∀(s:St) z xs k x r,iQ s z xs ((k,x)::r)=if jW z (s.val x)=true/\k<xs.length then iQ s z (xs.set k (s.val x)) r else none)/\
 (∀cs o,aQ cs o []=cs)/\
 (∀cs o c r,aQ cs o (c::r)=aQ (cs.set o c) (o+1) r)/\
 (∀n v,jW n v=(v.cells.length==n&&v.cells.all V.one))/\
 (∀(s:St) n a b c x,s.store n (.lp a b c) x=if jW n (s.val x)=true/\b<s.G a/\c+n<=(s.loc a b).length then some (if(s.val x).one=true then(s.h8 a b c (s.val x).cells).oh a b c x else s.h8 a b c (s.val x).cells)else none):=by
 and_intros<;>intros<;>first
  |rfl
  |(rename_i r q;simp only[dI,oR,bP];cases dI _ r q<;>rfl)
def pvE:=(ao (ao (ao (ao (ao @abd (ao @abe @abf)) (ao @aM.{0} (ao @aX.{0} @cd.{0}))) (ao (ao @cy.{0} (ao @fT.{0} @fi.{0})) (ao (ao @ey.{0} @ez.{0}) (ao @dO.{0} @dN.{0})))) (ao (ao (ao @tr.{0} (ao @pp.{0} @pQ.{0})) (ao @bR.{0} (ao @cm.{0} @bt.{0,0}))) (ao (ao @cV.{0,0} (ao @aw.{0} @ay.{0})) (ao (ao @pK @pJ) (ao @tU @tV))))) (ao (ao (ao (ao @pI (ao @hI @lY.{0})) (ao @bF.{0,0} (ao @cA @rU))) (ao (ao @an (ao @aL @kv)) (ao (ao @nY @cK) (ao @bL @AE)))) (ao (ao (ao @AD (ao @bP.{1} @cH.{1})) (ao @bK (ao @bw.{0,0} @au.{0,0}))) (ao (ao @ae.{0} (ao @bX @rR)) (ao (ao @bB @bM) (ao @fS.{0} @lM.{0}))))))
def tvE:(∀a:ID,a.v=.agg [I a.J,I a.seq,I a.k])/\(∀a:Name,a.v=.agg [I a.J,I a.seq])/\(∀a:fW,a.v=.agg [I a.i9,I a.k0,I a.idx])/\(∀a,nb a=.agg [I a.1,I a.2])/\
 (∀p:aJ,p.v=.agg [I p.id.J,I p.id.seq,I p.id.k,I p.eD,I p.en,S p.bN,eW p.C])/\(∀a:eg,a.v=.agg [S a.gR,dA a.O])/\(∀a:eM,a.v=.agg [mC a.O])/\(∀a:cg,a.v=.agg [cf a.O])/\
 (∀o:Op,o.v=.agg [I o.kind,I o.W.J,I o.W.seq,I o.W.k,I o.to.J,I o.to.seq,I o.to.k,I o.spot.i9,I o.spot.k0,I o.spot.idx,I o.n,I o.eD,I o.en,S o.bN,eZ o.F,jz o.cW,eW o.C])/\
 (∀t:gU,t.v=.agg [S t.name,I t.kind,I t.en,S t.see,eZ t.eH])/\(∀p:Post,p.v=.agg [I p.id.J,I p.id.seq,I p.id.k,eZ p.path,B p.main])/\
 (∀e:aW,e.v=.agg [I e.J,I e.seq,I e.eo,I e.kind,ka e.C,I e.op.kind,I e.op.W.J,I e.op.W.seq,I e.op.W.k,I e.op.to.J,I e.op.to.seq,I e.op.to.k,I e.op.spot.i9,I e.op.spot.k0,I e.op.spot.idx,I e.op.n,I e.op.eD,I e.op.en,S e.op.bN,eZ e.op.F,jz e.op.cW,eW e.op.C,S e.dy.name,I e.dy.kind,I e.dy.en,S e.dy.see,eZ e.dy.eH,I e.id.J,I e.id.seq,I e.id.k,nt e.cU,I e.n])/\
 (∀a:cI,a.v=.agg [I a.from_.J,I a.from_.seq,I a.from_.k,I a.to.J,I a.to.seq,I a.to.k])/\(∀a:gS,a.v=.agg [I a.W,I a.end_,I a.kind]):=
 ⟨λ_=>rfl,λ_=>rfl,λ_=>rfl,λ_=>rfl,λ_=>rfl,λ_=>rfl,λ_=>rfl,λ_=>rfl,λ_=>rfl,λ_=>rfl,λ_=>rfl,λ_=>rfl,λ_=>rfl,λ_=>rfl⟩
def pY:=(ao (ao (ao (ao (ao @UW (ao @Lg @aM.{0})) (ao @aX.{0} (ao @cd.{0} @cy.{0}))) (ao (ao @fT.{0} (ao @fi.{0} @ey.{0})) (ao @ez.{0} (ao @dO.{0} @dN.{0})))) (ao (ao (ao @tr.{0} (ao @pp.{0} @pQ.{0})) (ao @bR.{0} (ao @cm.{0} @bt.{0,0}))) (ao (ao @cV.{0,0} (ao @aw.{0} @ay.{0})) (ao (ao @pK @pJ) (ao @tU @tV))))) (ao (ao (ao (ao @pI (ao @hI @lY.{0})) (ao @bF.{0,0} (ao @cA @rU))) (ao (ao @an (ao @aL @kv)) (ao (ao @nY @cK) (ao @bL @AE)))) (ao (ao (ao @AD (ao @bP.{1} @cH.{1})) (ao @bK (ao @bw.{0,0} @au.{0,0}))) (ao (ao @ae.{0} (ao @bX @rR)) (ao (ao @bB @bM) (ao @fS.{0} @lM.{0}))))))
section
variable {GL:Nat->Option (List V)}{P:Program}
def iH(P:Program)(GL:aj)(j:V)(ys:Option (List V))(o:Option Loc)(sz d:Nat)(pu:Bool)(r:List BI)(s:St)(K:St->Prop):Prop:=match j,ys with
 |.aP,some ys=>ys.length<=iv/\er P GL pu r (s.put d (.sl sz ys) none true) K
 |.sl a f,some ys=>sz=a/\f.length+ys.length<=iv/\match o with
  |some l=>er P GL pu r ((s.dP l).put d (.sl sz (f++ys)) none true) K
  |none=>False
 |_,_=>False
def iY(P:Program)(GL:aj)(b:Bool)(cs:List V)(d:Nat)(pu:Bool)(r:List BI)(s:St)(K:St->Prop):Prop:=b=true/\er P GL pu r (s.put d (.ep cs) none false) K
def iZ(P:Program)(GL:aj)(v:V)(d:Nat)(pu:Bool)(r:List BI)(s:St)(K:St->Prop):Prop:=match v with
 |.str l=>l.length<=iv/\er P GL pu r (s.put d (.sl 1 (l.map λb=>.int .u8 b.toNat)) none true) K
 |_=>False
def YW:Bool->Nat->Option Loc->St->Option Loc
 |true,t,_,_=>some (.var t)
 |false,_,some k,s=>if s.iE k then some k else none
 |false,_,none,_=>none
def My(l:Option Loc)(d:Nat):Option Loc:=match l with
 |some (.var u)=>if u=d then none else some (.var u)
 |l=>l
section
variable {pu:Bool}{K:St->Prop}
def U0:
 (∀(s:St) d n y r,er P GL pu (⟨none,some d,.ex (.HK n y)⟩::r) s K=iY P GL (jW n (s.val y)) (s.val y).cells d pu r s K)/\
 (∀(s:St) cs d r,iY P GL true cs d pu r s K=er P GL pu r (s.put d (.ep cs) none false) K):=by
 refine⟨λs d n y r=>?_,λs cs d r=>by simp[iY]⟩;show b4 P GL pu s (some d) (.ex (.HK n y)) _=_;simp only[b4,iF,iY];by_cases h:jW n (s.val y)=true<;>simp[h]
def Qr:
 (∀(s:St) d sz t y r,er P GL pu (⟨none,some d,.ex (.app sz (.tmp t) y)⟩::r) s K=iH P GL (s.Z t) (nA sz (s.val y)) (s.pZ t) sz d pu r s K)/\
 (∀(s:St) d sz y r,er P GL pu (⟨none,some d,.ex (.app sz (.const .aP) y)⟩::r) s K=iH P GL .aP (nA sz (s.val y)) none sz d pu r s K)/\
 (∀(s:St) ys o sz d r,ys.length<=1073741824->iH P GL .aP (some ys) o sz d pu r s K=er P GL pu r (s.put d (.sl sz ys) none true) K)/\
 (∀(s:St) xs ys l sz d r,xs.length+ys.length<=1073741824->iH P GL (.sl sz xs) (some ys) (some l) sz d pu r s K=er P GL pu r ((s.dP l).put d (.sl sz (xs++ys)) none true) K)/\
 (∀(s:St) d y r,er P GL pu (⟨none,some d,.ex (.sA y)⟩::r) s K=iZ P GL (s.val y) d pu r s K)/\
 (∀(s:St) l d r,l.length<=1073741824->iZ P GL (.str l) d pu r s K=er P GL pu r (s.put d (.sl 1 (l.map λb=>.int .u8 b.toNat)) none true) K):=by
 refine⟨λs d sz t y r=>?_,λs d sz y r=>?_,λs ys o sz d r h=>?_,λs xs ys l sz d r h=>?_,λs d y r=>?_,λs l d r h=>?_⟩
 .show b4 P GL pu s (some d) (.ex (.app sz (.tmp t) y)) _=_;simp only[b4,iF,St.app,iH,show s.val (.tmp t)=s.Z t from rfl];cases s.Z t<;>cases nA sz (s.val y)<;>try rfl
  next f xs ys=>
   simp only;by_cases h:sz=f/\xs.length+ys.length<=iv
   .rw[ax h];cases s.pZ t<;>simp[h.1,h.2]
   .rw[al h,eq_iff_iff];simp only[false_iff];exact λj=>h ⟨j.1,j.2.1⟩
  next ys=>simp only;by_cases h:ys.length<=iv<;>simp[h]
 .show b4 P GL pu s (some d) (.ex (.app sz (.const .aP) y)) _=_;simp only[b4,iF,St.app,iH,show s.val (.const .aP)=.aP from rfl];cases nA sz (s.val y)with
  |none=>rfl
  |some ys=>by_cases h:ys.length<=iv<;>simp[h]
 .have a:ys.length<=iv:=h;simp[iH,a]
 .have a:xs.length+ys.length<=iv:=h;simp[iH,a]
 .show b4 P GL pu s (some d) (.ex (.sA y)) _=_;simp only[b4,iF,iZ];cases s.val y<;>try rfl
  rename_i l;by_cases h:l.length<=iv<;>simp[h]
 .have a:l.length<=iv:=h;simp[iZ,a]
end
def Qs:(∀sz ys,nA sz (.sl sz ys)=some ys)/\(∀sz,nA sz .aP=some [])/\(∀l,nA 1 (.str l)=some (l.map λb=>.int .u8 b.toNat)):=
 ⟨λsz ys=>by simp[nA],λsz=>rfl,λl=>by simp[nA]⟩
def Jv:
 (∀(s:St) t,s.pZ t=YW (s.fl t) t (s.lk t) s)/\(∀t l s,YW true t l s=some (.var t))/\(∀t k s,YW false t (some k) s=if s.iE k then some k else none)/\(∀t s,YW false t none s=none)/\
 (∀(s:St) u,s.iE (.var u)=s.fl u)/\(∀(s:St) i g j,s.iE (.cell i g j)=s.fc i g j)/\(∀(s:St) i j,s.iE (.iK i j)=s.E.fl i j)/\
 (∀(s:St) d u l o t,(s.put d u l o).lk t=if t=d then My l d else My (s.lk t) d)/\(∀(s:St) d k u t,(s.zQ d k u).lk t=if t=d then none else My (s.lk t) d)/\
 (∀d,My none d=none)/\(∀u d,My (some (.var u)) d=if u=d then none else some (.var u))/\(∀i g j d,My (some (.cell i g j)) d=some (.cell i g j))/\(∀i j d,My (some (.iK i j)) d=some (.iK i j))/\
 (∀(s:St) d cs,(s.fD d cs).lk=s.lk)/\(∀(s:St) D bJ vals t,(s.head D bJ vals).lk t=none)/\(∀n args E t,(St.init n args E).lk t=none)/\(∀(s:St) u t,(s.dP (.var u)).lk t=s.lk t):=by
 refine⟨λs t=>?_,λ_ _ _=>rfl,λ_ _ _=>rfl,λ_ _=>rfl,λ_ _=>rfl,λ_ _ _ _=>rfl,λ_ _ _=>rfl,λs d u l o t=>?_,λs d k u t=>?_,λ_=>rfl,λ_ _=>rfl,λ_ _ _ _=>rfl,λ_ _ _=>rfl,λ_ _ _=>rfl,λ_ _ _ _ _=>rfl,λ_ _ _ _=>rfl,λ_ _ _=>rfl⟩
 .unfold St.pZ;cases h:s.fl t
  .simp only[bK,cH];cases s.lk t<;>rfl
  .simp[YW]
 .have key:∀l:Option Loc,(if l=some (.var d)then none else l)=My l d:=by
   exact W0
  simp only[St.put,eQ,unlink];split
  .exact key l
  .exact key (s.lk t)
 .have key:∀l:Option Loc,(if l=some (.var d)then none else l)=My l d:=by
   exact W0
  simp only[St.zQ,St.put,eQ,unlink];split
  .simp
  .exact key (s.lk t)
def Qt:=@Nx
def CX:(∀l,dc l=.sl 1 (l.map λb=>.int .u8 b.toNat))/\(∀l,fq l=.sl 1 (l.map I))/\(∀l,eZ l=.sl 1 (l.map S))/\(∀l,eW l=.sl 3 (l.map ID.v))/\(∀l,ka l=.sl 2 (l.map Name.v))/\(∀l,jz l=.sl 2 (l.map nb))/\
 (∀l,dA l=.sl 7 (l.map aJ.v))/\(∀l,mC l=.sl 2 (l.map eg.v))/\(∀l,cf l=.sl 1 (l.map eM.v))/\(∀l,oi l=.sl 5 (l.map gU.v))/\(∀l,nt l=.sl 5 (l.map Post.v))/\(∀l,fP l=.sl 32 (l.map aW.v))/\
 (∀l,hE l=.sl 6 (l.map cI.v))/\(∀l,pf l=.sl 3 (l.map gS.v)):=
 ⟨λ_=>rfl,λ_=>rfl,λ_=>rfl,λ_=>rfl,λ_=>rfl,λ_=>rfl,λ_=>rfl,λ_=>rfl,λ_=>rfl,λ_=>rfl,λ_=>rfl,λ_=>rfl,λ_=>rfl,λ_=>rfl⟩
def Qu:(∀c,V.one (.agg c)=false)/\(∀c,V.one (.hJ c)=false)/\(∀c,V.cells (.hJ c)=[.hJ c])/\(∀c,V.dY (.hJ c)=false)/\(V.dY .unk=false)/\(V.dY .qn=false):=⟨λ_=>rfl,λ_=>rfl,λ_=>rfl,λ_=>rfl,rfl,rfl⟩
def Lk:(∀l,(V.ep l).free=hZ l)/\(∀f l,(V.fn f l).free=hZ l)/\(V.wR.free=true)/\(V.lv.free=true)/\(∀t v,(V.Hz t v).free=v.free)/\(V.zL.free=true):=
 ⟨λ_=>rfl,λ_ _=>rfl,rfl,rfl,λ_ _=>rfl,rfl⟩
def dt:=(ao (ao (ao (ao (ao @q5 @Qm) @UT) (ao (ao @By @Qt) @Qr)) (ao (ao (ao @U0 @Qu) @Qs) (ao @NA @Jv))) (ao (ao (ao (ao @CX @pY) @pvE) (ao @tvE @ax.{1})) (ao (ao (ao @al.{1} @aa.{0}) @dK.{0,0}) (ao @wrap_i64 @wrap_u8))))
def ee:=(ao (ao (ao (ao @CX @pY) @pvE) (ao @tvE @ax.{1})) (ao (ao (ao @al.{1} @aa.{0}) @dK.{0,0}) (ao @wrap_i64 @wrap_u8)))
def mR:=(ao (ao @pY @NA) @Jv)
def dx:=(ao (ao @Nv @Lk) @ku)
def jg:=(ao (ao (ao (ao (ao @cq @ij) @Int.not_lt) (ao @Int.not_le @i4.{0})) (ao (ao @tY.{0} @ne_eq.{1}) (ao @jC @tT))) (ao (ao (ao @kA.{0} @tX.{0}) (ao @Decidable.not_not @Int.natCast_inj)) (ao (ao @tW @Int.ofNat_le) (ao @bM @bB))))
def l4:=(ao (ao (ao @au.{0,0} @ae.{0}) (ao @aM.{0} @aX.{0})) (ao (ao @aG.{0} @aS.{0}) (ao @rS.{0} @oJ.{0})))
end
section
variable {GL:Nat->Option (List V)}{P:Program}
def b9(xs:List V):List V:=(xs.map V.cells).flatten
def lG(sz:Nat)(xs:List V):Prop:=∀x∈xs,jW sz x=true
def dV{sz:Nat}:∀{xs:List V},lG sz xs->(b9 xs).length=xs.length*sz
 |[],_=>by simp[b9]
 |x::r,h=>by
  have d:=dV (sz:=sz) (xs:=r) λy a=>h y (by simp[a]);have f:=(fb (h x bT)).1;simp only[b9,bt,dl,ae,aM,dG]at*
  omega
def fU(xs ys:List V):b9 (xs++ys)=b9 xs++b9 ys:=by simp[b9]
def DH(x:V)(ys:List V):b9 (x::ys)=x.cells++b9 ys:=by simp[b9]
def lG.append{sz:Nat}{xs ys:List V}(h:lG sz xs)(d:lG sz ys):lG sz (xs++ys):=λx hx=>by
 rcases aN.1 hx with a|a
 .exact h x a
 .exact d x a
def lG.take{sz:Nat}{xs:List V}(h:lG sz xs)(n:Nat):lG sz (xs.take n):=λx hx=>h x (dQ hx)
def lG.drop{sz:Nat}{xs:List V}(h:lG sz xs)(n:Nat):lG sz (xs.drop n):=λx hx=>h x (jJ hx)
def lG.set{sz:Nat}{xs:List V}(h:lG sz xs){n:Nat}{x:V}(hx:jW sz x=true):lG sz (xs.set n x):=λy d=>by
 rcases cN d with a|a
 .exact h y a
 .subst a;exact hx
def lG.map{α:Type}{sz:Nat}{f:α->V}(h:∀y,jW sz (f y)=true)(l:List α):lG sz (l.map f):=λx hx=>by
 obtain⟨y,_,rfl⟩:=cB.1 hx;exact h y
def ic:∀{cs vs:List V} {o:Nat},o+vs.length<=cs.length->aQ cs o vs=cs.take o++vs++cs.drop (o+vs.length)
 |cs,[],o,_=>by simp[aQ]
 |cs,v::r,o,h=>by
  simp only[aM]at h;simp only[aQ];rw[ic (by simp;omega)];have a:o<cs.length:=av;rw[iu (by simpa using a)];simp only[List.take_set,nC,aM,List.drop_set,aF,aZ,bm];rw[List.set_eq_of_length_le (by rw[aG];exact lX _ _)];simp only[show o<o+1+r.length by omega,bP];rw[show o+1+r.length=o+(r.length+1)by omega]
def i7{sz:Nat}{xs:List V}(h:lG sz xs){i:Nat}(j:i<xs.length)(rest:List V):(b9 xs++rest).drop (i*sz)=xs[i].cells++(b9 (xs.drop (i+1))++rest):=by
 have a:xs=xs.take i++xs[i]::xs.drop (i+1):=bT;have d:(b9 (xs.take i)).length=i*sz:=by rw[dV (h.take i),aG];congr 1;omega
 have f:b9 xs=b9 (xs.take i)++(xs[i].cells++b9 (xs.drop (i+1))):=by
  conv=>lhs;rw[a]
  rw[fU,DH]
 rw[f,aF,<-d,fX,aF]
def uE{sz:Nat}{xs:List V}(h:lG sz xs){i:Nat}(a:i<xs.length){x:V}(hx:jW sz x=true)(rest:List V):aQ (b9 xs++rest) (i*sz) x.cells=b9 (xs.set i x)++rest:=by
 have p:=dV h;have d:=(fb hx).1;have q:i*sz+sz<=xs.length*sz:=by rw[<-dG];exact cj _ a
 rw[ic (by rw[ae];omega),d,<-dG];have f:(b9 (xs.take i)).length=i*sz:=by rw[dV (h.take i),aG];congr 1;omega
 have j:xs=xs.take i++xs.drop i:=bT;have l:(b9 xs++rest).take (i*sz)=b9 (xs.take i):=by
  conv=>lhs;rw[j,fU,aF,<-f]
  rw[gN]
 rw[l];have o:(b9 xs++rest).drop (i.succ*sz)=b9 (xs.drop (i+1))++rest:=by
  have:i.succ*sz=i*sz+sz:=dG i sz;rw[this,<-dF,i7 h a];rw[show sz=xs[i].cells.length from(fb (h xs[i] (ah a))).1.symm,fX]
 rw[o,gh,ax a,fU,DH];simp
def NF:(∀s:St,s.Bu.Z=s.Z)/\(∀s:St,s.Bu.E=s.E)/\(∀s:St,s.Bu.G=s.G)/\(∀s:St,s.Bu.loc=s.loc)/\(∀s:St,s.Bu.fl=s.fl):=⟨λ_=>rfl,λ_=>rfl,λ_=>rfl,λ_=>rfl,λ_=>rfl⟩
def da:=ao (ao @NF @pY) @bx
def gu(sz:Nat)(h:aK)(v:V)(xs:List V):Prop:=lG sz xs/\
 ((v=.aP/\xs=[])\/∃id c rest,v=.ms sz id 0 xs.length c/\id<h.Y/\h.box id=some (b9 xs++rest)/\xs.length<=c/\rest.length=(c-xs.length)*sz)
def gu.nil{sz:Nat}{h:aK}:gu sz h .aP []:=⟨(by intro x hx;cases hx),.inl ⟨rfl,rfl⟩⟩
def gu.len{sz:Nat}{h:aK}{v:V}{xs:List V}(hm:gu sz h v xs):xj v=some (.int .i64 (xs.length:Int)):=by
 exact XA
def gu.gD{sz:Nat}{h:aK}{v:V}{xs:List V}(hm:gu sz h v xs):v.dY=false:=by
 exact XA
def bI:V->Option Nat
 |.ms _ id _ _ _=>some id
 |_=>none
structure bA(o:Option Nat)(h h':aK):Prop where
 box:∀i,i<h.Y->o≠some i->h'.box i=h.box i
 mp:∀i,i<h.Y->h'.mp i=h.mp i
 Y:h.Y<=h'.Y
section
variable {s:St}{K:St->Prop}{pu:Bool}
def U1{d:Option Nat}{sz:Nat}{zs xs ys:List V}{x y:eL}{r:List BI}(hx:gu (sz+1) s.E (s.val x) xs)(hy:nA (sz+1) (s.val y)=some ys)(q:lG (sz+1) ys)(ab:(s.val y).dY=false)(WO:∀l,s.val y≠.str l)(hz:zs.length=sz+1)
 (t:xs.length+ys.length<=1073741824) (u:s.val x=.aP->ys≠[])
 (h:∀v z,gu (sz+1) z v (xs++ys)->bA (bI (s.val x)) s.E z->(bI v=bI (s.val x)\/bI v=some s.E.Y)->er P GL pu r ((s.cu z).ret d v false) K):er P GL pu (⟨none,d,.mx (.wn (sz+1) zs x y)⟩::r) s K:=by
 rw[By.1];obtain⟨p,hx⟩:=hx;have A:qo s.E (sz+1) (s.val y)=some (ys.length,b9 ys):=by
  exact WN
 have N:=dV q;have j:=dV p;have H:∀n,(kn n zs).length=n*(sz+1):=by
  intro n;exact WU
 have new:∀{old:List V},old=b9 xs->∀f,xs.length+ys.length<=f->gA P GL d pu r s K (.ms (sz+1) s.E.Y 0 (xs.length+ys.length) f) false (s.E.cO (old++b9 ys++kn (f-(xs.length+ys.length)) zs)):=by
  rintro old rfl f o;refine h _ _ ⟨p.append q,.inr ⟨s.E.Y,f,kn (f-(xs.length+ys.length)) zs,bT,dn _,?_,by simpa using o,by simp[H]⟩⟩ ⟨λi L _=>?_,λi L=>rfl,fO _⟩ (.inr rfl)
  .simp[aK.cO,eQ,fU]
  .simp only[aK.cO];exact bD _ _ (ct L)
 rcases hx with⟨hv,rfl⟩|⟨id,c,rest,hv,dW,eh,Q,a⟩
 .simp only[MX.wp,hv,na,A];refine⟨by simpa[iv]using t,?_⟩;by_cases hm:ys.length=0
  .have:ys=[]:=bH.1 hm;exact absurd this (u hv)
  .rw[al hm,al av];refine⟨[],by simp[aK.cells],λf o=>?_⟩;have:=new (old:=[]) (by simp[b9]) f (by simpa using o);simpa using this
 .simp only[MX.wp,hv,na,bP,A];refine⟨by simpa[iv]using t,?_⟩;by_cases hm:ys.length=0
  .have:ys=[]:=bH.1 hm;subst this;simp only[aX,bP];refine h _ _ ⟨by simpa using p,.inr ⟨id,c,rest,bT,dW,by simpa using eh,by simpa using Q,by simpa using a⟩⟩ ⟨λ_ _ _=>rfl,λ_ _=>rfl,an _⟩ (.inl (by rw[hv]))
  .rw[al hm];split
   next D=>
    have ac:(c-xs.length)*(sz+1)=ys.length*(sz+1)+(c-(xs.length+ys.length))*(sz+1):=by
     rw[<-dJ];congr 1;omega
    refine⟨_,eh,by rw[ae,j,a,dJ];omega,?_⟩;refine h _ _ ⟨p.append q,.inr ⟨id,c,rest.drop (ys.length*(sz+1)),bT,dW,?_,by simpa using D,by simp[a];omega⟩⟩ ⟨λi L u=>?_,λi L=>rfl,an _⟩ (.inl (by rw[hv];rfl))
    .simp only[aK.wr,aK.set,bh];rw[ic (by rw[ae,j,N,a];omega),cA,<-j,gN,N,<-dF,fX,fU]
    .simp only[aK.wr,aK.set];exact bD _ _ (λe=>u (by rw[hv,e];rfl))
   next D=>
    refine⟨b9 xs,?_,λf o=>new rfl f o⟩;unfold aK.cells;split
    next R=>rw[R]at j;rw[bH.1 j]
    .rw[eh];simp only;rw[ax (by rw[ae];omega),cy,<-j,gN]
def iR{d:Option Nat}{sz:Nat}{zs xs ys:List V}{x y:eL}{r:List BI}(hx:gu (sz+1) s.E (s.val x) xs)(t:nA (sz+1) (s.val y)=some ys)(o:lG (sz+1) ys)(p:(s.val y).dY=false)(f:∀l,s.val y≠.str l)(u:zs.length=sz+1)
 (j:xs.length+ys.length<=1073741824) (q:s.val x=.aP->ys≠[])
 (h:∀v a,gu (sz+1) a v (xs++ys)->bA (bI (s.val x)) s.E a->(bI v=bI (s.val x)\/bI v=some s.E.Y)->gA P GL d pu r s K v false a):(MX.wn (sz+1) zs x y).wp s (gA P GL d pu r s K):=by
 have:=U1 (d:=d) (zs:=zs) hx t o p f u j q h
 rwa [By.1]at this
def St.PG(s:St)(id off:Nat)(y:eL):St:=match s.store 1 (.bp id off) y with
 |some t=>t
 |none=>s
def NG{id off:Nat}{y:eL}{cells:List V}(hb:s.E.box id=some cells)(a:jW 1 (s.val y)=true)(d:off+1<=cells.length):s.store 1 (.bp id off) y=some (s.PG id off y):=by
 unfold St.PG;simp[St.store,hb,a,d]
def Qv{id off:Nat}{y:eL}{cells:List V}(hb:s.E.box id=some cells)(ho:jW 1 (s.val y)=true)(hl:off+1<=cells.length):
 (s.PG id off y).Z=s.Z/\(s.PG id off y).G=s.G/\(s.PG id off y).loc=s.loc/\(s.PG id off y).E.box=eQ s.E.box id (some (aQ cells off (s.val y).cells))/\(s.PG id off y).E.mp=s.E.mp/\(s.PG id off y).E.Y=s.E.Y:=by
 unfold St.PG;exact WY
def Qw{y:eL}{id off:Nat}{cells:List V}{r:List BI}(hb:s.E.box id=some cells)(a:jW 1 (s.val y)=true)(d:off+1<=cells.length)
 (h:er P GL pu r (s.PG id off y) K):iG P GL (s.store 1 (.bp id off) y) pu r K:=by
 rw[NG hb a d];exact h
def AA{y:eL}{id off:Nat}{cells:List V}{r:List BI}(hb:s.E.box id=some cells)(a:jW 1 (s.val y)=true)(d:off+1<=cells.length)
 (h:∀t:St,t.Z=s.Z->t.G=s.G->t.loc=s.loc->t.E.box=eQ s.E.box id (some (aQ cells off (s.val y).cells))->t.E.mp=s.E.mp->t.E.Y=s.E.Y->er P GL pu r t K):iG P GL (s.store 1 (.bp id off) y) pu r K:=by
 obtain⟨f,j,l,o,p,q⟩:=Qv hb a d;exact Qw hb a d (h _ f j l o p q)
def Qx{sz:Nat}{cs:List V}{j:Nat}{c:V}(h:jW sz (.agg cs)=true)(f:c.one=true):jW sz (.agg (cs.set j c))=true:=by
 obtain⟨a,d⟩:=fb h;unfold jW;simp only[V.cells,fH]at a d ⊢
 rw[be];refine⟨by simp[a],bO.2 λx hx=>?_⟩;rcases cN hx with l|rfl
 .exact bO.1 d x l
 .exact f
def Ll{sz:Nat}{xs:List V}(h:lG sz xs){i j:Nat}{cs:List V}(p:xs[i]?=some (.agg cs)){c:V}(q:j<cs.length)(r:c.one=true)(rest:List V):
 aQ (b9 xs++rest) (i*sz+j) [c]=b9 (xs.set i (.agg (cs.set j c)))++rest:=by
 obtain⟨l,o⟩:=aH.1 p;have f:=h _ (ah l);rw[o]at f;rw[<-uE h l (Qx f r) rest];have d:=i7 h l rest;have z:=dV h;have t:=(fb f).1;rw[o]at d;simp only[V.cells]at d t ⊢
 have A:i*sz+sz<=xs.length*sz:=by rw[<-dG];exact cj _ l
 rw[ic (by simp only[ae,aM,aX];omega),ic (by simp only[ae,fH];omega)];generalize b9 xs++rest=a at d;generalize b9 (xs.drop (i+1))++rest=b at d;generalize i*sz=k at d;simp only[fH,aM,aX,cA];have u:a.drop (k+j+1)=cs.drop (j+1)++b:=by rw[cn,<-dF,d,i5 av]
 have y:a.drop (k+cs.length)=b:=by rw[<-dF,d,fX]
 rw[u,y,List.take_add,d,eX av,gh,ax q];simp
end
def gu.leF{sz:Nat}{h:aK}{v:V}{xs:List V}(hm:gu sz h v xs):∃fz d,jE fz h d/\V.lF fz v (.sl sz xs):=by
 obtain⟨f,⟨rfl,rfl⟩|⟨id,c,rest,rfl,dW,hb,t,u⟩⟩:=hm
 .exact⟨jH,h,.refl h,.aP sz⟩
 .refine⟨λi=>if i=id then some (b9 xs++rest)else none,{aK.bare with Y:=h.Y},⟨λi cs e=>?_,λi cs e=>(by cases e),λi j e=>(by cases e),λi m e=>(by cases e),an _⟩,.ms sz id 0 xs.length c (b9 xs++rest) (b9 xs++rest) xs bT rfl (λj a b q l=>?_) rfl λi x hx=>?_⟩
  .split at e
   next r=>subst r;rw[hb];exact e
   .cases e
  .rw[q]at l;cases l;exact .refl _
  .obtain⟨o,rfl⟩:=aH.1 hx;refine⟨f _ (ah o),λj y p=>?_⟩;have h1:=i7 f o rest;have:(b9 xs++rest)[i*sz+j]?=((b9 xs++rest).drop (i*sz))[j]?:=by rw[cY]
   rw[cA,this,h1,dH (aH.1 p).1];exact p
def yk{s:St}{t sz:Nat}{v:V}{xs:List V}(f:s.Z t=v)(hm:gu sz s.E v xs):∃v bJ fz a v' d,BF.result s [.tmp t]=some (v,bJ)/\jE fz s.E a/\V.lF fz v v'/\(d=true->(bJ=true/\(PF fz v\/v'=v))\/v=.aP)/\v'=.sl sz xs/\d=false:=by
 obtain⟨fz,a,j,l⟩:=hm.leF;exact⟨v,s.fl t,fz,a,_,false,by simp[BF.result,BR.pX,BR.get,f,hm.gD],j,l,λh=>(by cases h),rfl,rfl⟩
def tS{s:St}{t n:Nat}{ag:Bool}{a u:V}(h:dv s (.load ag n (.tmp t))=some a)(d:a.dY=false)(f:V.Le a u):oj s [.cell t ag n] u false:=
 ⟨a,false,by simp[BF.result,BR.get,h,d],f,λh=>(by cases h)⟩
inductive hW(s:St):List BR->List V->Prop where
 |nil:hW s [] []
 |tmp {t:Nat} {a u:V} {rs:List BR} {us:List V} (h:s.Z t=a) (hl:a.dY=false) (hu:V.Le a u) (r:hW s rs us):hW s (.tmp t::rs) (u::us)
 |cell {t n:Nat} {ag:Bool} {a u:V} {rs:List BR} {us:List V} (h:dv s (.load ag n (.tmp t))=some a) (hl:a.dY=false) (hu:V.Le a u) (r:hW s rs us):hW s (.cell t ag n::rs) (u::us)
def hW.pX{s:St}{l:List BR}{f:List V}(h:hW s l f):∃vs,BR.pX s l=some vs/\vs.length=f.length/\∀(j:Nat) c d,vs[j]?=some c->f[j]?=some d->V.Le c d:=by
 induction h with
 |nil=>exact⟨[],rfl,rfl,λj c d e=>(by cases e)⟩
 |@tmp t a u l f h hl hu r ih=>
  exact WQ
 |@cell t n ag a u l f h hl hu r ih=>
  exact WQ
def FG{s:St}{r d:BR}{f:List BR}{a:List V}(h:hW s (r::d::f) a):oj s (r::d::f) (.hJ a) false:=by
 obtain⟨j,l,o,p⟩:=h.pX;exact⟨.hJ j,false,by cases r<;>simp[BF.result,l],.hJ j a o p,λh=>(by cases h)⟩
end
open Go.Proofs Go.Proofs.Tryz
def NH:List V:=
 [B false,B false,B false,B false,B false,B false,B false,B false,B false,B false,B false,B true,B false,B false,B false,B true,B false,B false,B false,B false,B true,B true,B false,B true,B true,B false,B true,B true,B false,B false,B false,B false,B false,B false,B false,B false,B true,B false,B false,B false,B true,B false,B false,B false,B false,B true,B false,B false,B false,B false,B false,B false,B false,B false,B true,B false,B true,B true,B false,B false,B false,B false,B false,B true,B true,B false,B false,B false,B false,B false,B false,B false,B true,B false,B false,B false,B true,B false,B false,B true,B true,B true,B false,B false,B false,B false,B false,B false,B false,B true]
def GL:Nat->Option (List V):=λn=>if n=0 then some [.int .i64 (-1),.int .i64 0,.int .i64 0]else if n=1 then some NH else none
abbrev af(f:FuncId)(args:List V)(u:V)(bJ:Bool:=false):Prop:=Pure prog GL f args u bJ
abbrev aI:=lB prog GL
def U2:fK prog 155=true:=by kernel_rfl
def Qy(a d f:Value)(m:Nat)(w:World):CallsDIn (FW none) m prog 155 #[a,d,f] .returning w λe u w'=>(∃x,e=.returned x)/\u=.returning/\w'=w:=by
 refine callsDIn_of_wpSIn func155 rfl trivial λc₀ cs j=>?_;apply wpSIn_seq;apply wpSIn_region;simp[wpOpsSIn,go_sem,recoverD,j,Tryz.ntmps155,Exit.thenS];apply wpSIn_seq;apply wpSIn_region;simp[wpOpsSIn,go_sem,Tryz.ntmps155,Exit.thenS];refine wpSIn_cond (t:=false) (by simp[Act.eval,Array.replicate]) ?_;simp only[bK,cH];refine wpSIn_of_wpIn rfl (wpIn_skip ?_);cases c₀;simp_all[bodyPostS,results,Tryz.results155]
def hm:Wx prog where
 fol:=by kernel_rfl
 idle k a:=by
  obtain rfl:k=155:=by simpa[dfK]using a
  exact⟨U2,λd f j m w=>Qy d f j m w⟩
def ID.F8{a b:ID}:a=b↔a.J=b.J/\a.seq=b.seq/\a.k=b.k:=by cases a;cases b;simp
def ty(d:TypeDesc)(n:Nat)(z:Value):TypeInfo:=⟨d,"",n,0,false,0,0,some z,false,#[]⟩
def zi:Value:=.int .i64 0
def zc:Value:=.int .u8 0
def zI:Value:=.int .u64 0
def zb:Value:=.bool false
def zs:Value:=.string ⟨#[]⟩
def zl:Value:=.slice none 0 0
def zp:Value:=.pointer none
def zm:Value:=.map none
def zf:Value:=.nilFunc
def zn:Value:=.nilIface
def fd(t o:Nat):Field:=⟨ "",t,o,false,"","",0⟩
def f_(t o:Nat):Field:=⟨ "_",t,o,false,"","",0⟩
def td:TypeInfo:=ty .invalid 1 zi
def ti:TypeInfo:=ty (.int .i64) 1 zi
def tc:TypeInfo:=ty (.int .u8) 1 zc
def tk(k:IntKind):TypeInfo:=ty (.int k) 1 (.int k 0)
def tb:TypeInfo:=ty .bool 1 zb
def ts:TypeInfo:=ty .string 1 zs
def tp(e:Nat):TypeInfo:=ty (.pointer e) 1 zp
def tl(e:Nat):TypeInfo:=ty (.slice e) 1 zl
def tm(k e:Nat):TypeInfo:=ty (.map k e) 1 zm
def ta(n e:Nat)(z:List Value):TypeInfo:=ty (.array n e) z.length (.agg z.toArray)
def tt(z:List Value)(f:List Field):TypeInfo:=ty (.struct f.toArray) z.length (.agg z.toArray)
def M:TypeInfo:=ty .invalid 1 zf
def tN:TypeInfo:=ty .invalid 1 zn
def y7:TypeInfo:=tt [zi,zi,zb,zc] [fd 2 0,fd 3 1,fd 4 2,fd 6 3]
def U3:TypeInfo:=tt [zs,zI] [fd 9 0,fd 12 1]
def y18:TypeInfo:=tt [zp] [fd 17 0]
def y23:TypeInfo:=tt [zi,zi,zi] [fd 3 0,fd 3 1,fd 3 2]
def y36:TypeInfo:=tt [zl] [fd 35 0]
def y41:TypeInfo:=tt [zl,zl,zl,zl,zl,zl] [fd 25 0,fd 34 1,fd 37 2,fd 38 3,fd 39 4,fd 40 5]
def y51:TypeInfo:=tt [zi,zi,zi,zi,zi,zi] [fd 24 0,fd 24 3]
def y53:TypeInfo:=tt [zi,zi] [fd 3 0,fd 3 1]
def y55:TypeInfo:=tt [zi,zi,zi,zi,zi] [fd 24 0,fd 54 3]
def y77:TypeInfo:=tt [zi,zi,zi,zi,zi,zs,zl] [fd 24 0,fd 3 3,fd 3 4,fd 9 5,fd 50 6]
def y88:TypeInfo:=tt [zi,zi,zi] [fd 3 0,fd 3 1,fd 3 2]
def y91:TypeInfo:=tt [zi,zi,zi,zi,zi,zi,zi,zi,zi,zi,zi,zi,zi,zs,zl,zl,zl] [fd 3 0,fd 24 1,fd 24 4,fd 89 7,fd 3 10,fd 3 11,fd 3 12,fd 9 13,fd 90 14,fd 45 15,fd 50 16]
def y93:TypeInfo:=tt [zs,zi,zi,zs,zl] [fd 9 0,fd 3 1,fd 3 2,fd 9 3,fd 90 4]
def y96:TypeInfo:=tt [zi,zi,zi,zi,zl,zi,zi,zi,zi,zi,zi,zi,zi,zi,zi,zi,zi,zi,zs,zl,zl,zl,zs,zi,zi,zs,zl,zi,zi,zi,zl,zi] [fd 3 0,fd 3 1,fd 3 2,fd 3 3,fd 34 4,fd 92 5,fd 94 22,fd 24 27,fd 95 30,fd 3 31]
def YX:TypeInfo:=tt [zs,zl] [fd 9 0,fd 75 1]
def YY:TypeInfo:=tt [zl] [fd 112 0]
def YZ:TypeInfo:=tt [zl,zl,zl,zl,zm,zm] [fd 25 0,fd 34 1,fd 37 2,fd 127 3,fd 125 4,fd 126 5]
def Y0:TypeInfo:=tt [zl,zl] [fd 37 0,fd 63 1]
def Y1:TypeInfo:=tt [zl,zi] [fd 37 0,fd 3 1]
def Y2:TypeInfo:=tt [zi,zi,zi,zl,zb] [fd 24 0,fd 90 3,fd 4 4]
def Y3:TypeInfo:=tt [zb,zb,zb,zb,zb] [fd 4 0,fd 4 1,fd 4 2,fd 4 3,fd 4 4]
def Y4:TypeInfo:=tt [zl,zi] [fd 181 0,fd 3 1]
def Y5:TypeInfo:=tt [zl,zi,zi,zi,zi,zi,zi,zi,zi,zi,zi,zi,zi,zi,zs,zl,zl,zl,zi,zi,zi,zi,zi,zi,zi,zi] [fd 37 0,fd 92 1,fd 54 18,fd 89 20,fd 89 23]
def Y6:TypeInfo:=tt [zf,zb,zb] [fd 270 0,fd 4 1,fd 4 2]
def U4:TypeInfo:=tt [zi,zi,zi] [fd 3 0,fd 3 1,fd 3 2]
def Y7:TypeInfo:=tt [zl,zi,zi] [fd 181 0,fd 3 1,fd 28 2]
def Y8:TypeInfo:=tt [zb,zb,zb,zb,zb,zb,zb,zb,zb] [fd 4 0,fd 4 1,fd 4 2,fd 4 3,fd 4 4,fd 4 5,fd 4 6,fd 4 7,fd 4 8]
def Y9:TypeInfo:=tt [zp,zp,zp,zs] [fd 17 0,fd 17 1,fd 17 2,fd 9 3]
def Za:TypeInfo:=tt [] [f_ 381 0]
def Zb:TypeInfo:=tt [zI,zI,zI,zc,zc,zc,zc,zf,zp,zI,zI] [fd 12 0,fd 12 1,fd 293 2,fd 384 3,fd 5 4,fd 5 5,fd 385 6,fd 386 7,fd 387 8,fd 388 9,fd 389 10]
def tys:List TypeInfo:=[td,M,ti,ti,tb,tc,tc,y7,y7,ts,ts,ts,(tk .u64),U3,U3,(tp 380),(tp 383),(tp 391),y18,y18,tN,(tk .i32),(tl 3),y23,y23,(tl 97),M,(tp 129),ti,td,M,(tp 42),td,M,(tl 54),(tl 114),y36,y36,(tl 142),(tl 52),(tl 56),y41,y41,(ta 2 3 [zi,zi]),M,(tl 43),td,M,M,M,(tl 24),y51,y51,y53,y53,y55,y55,td,M,M,M,M,M,(tl 94),td,M,M,M,M,M,td,M,M,M,M,(tl 78),M,y77,y77,M,M,M,(tl 25),M,M,M,M,M,y88,y88,(tl 9),y91,y91,y93,y93,(tl 195),y96,y96,M,M,M,M,M,M,M,td,M,M,M,M,YX,YX,(tl 111),YY,YY,M,M,M,(tl 92),M,M,M,M,td,M,(tm 24 50),(tm 24 54),(tl 138),YZ,YZ,(tm 9 94),M,M,M,M,M,(tm 24 4),Y0,Y0,M,M,Y1,Y1,M,M,M,M,M,M,M,M,M,M,M,M,M,M,M,M,M,M,M,M,M,M,M,M,M,M,M,M,M,M,M,M,(tm 54 3),(tm 3 3),M,td,td,M,(tl 5),M,M,M,M,M,M,M,M,M,M,M,M,Y2,Y2,M,M,M,M,M,M,M,M,M,M,M,M,M,M,M,M,M,M,M,M,M,Y3,Y3,M,M,M,M,M,td,(tp 227),Y4,Y4,M,M,M,M,M,M,M,M,M,M,M,M,M,(tl 284),M,M,M,M,(tk .u64),(tl 295),M,M,(tl 89),M,M,M,M,M,M,M,M,td,M,M,M,(tl 90),M,(tk .u64),M,(tp 269),Y5,Y5,M,Y6,Y6,M,M,td,M,M,M,M,M,M,M,U4,U4,M,ti,td,M,M,M,M,M,(tk .u32),M,U4,M,M,M,M,td,M,M,M,M,M,(tl 181),M,M,M,td,M,(tp 314),Y7,Y7,M,td,M,td,M,M,M,M,td,M,Y8,Y8,(ta 10 326 [zb,zb,zb,zb,zb,zb,zb,zb,zb,zb,zb,zb,zb,zb,zb,zb,zb,zb,zb,zb,zb,zb,zb,zb,zb,zb,zb,zb,zb,zb,zb,zb,zb,zb,zb,zb,zb,zb,zb,zb,zb,zb,zb,zb,zb,zb,zb,zb,zb,zb,zb,zb,zb,zb,zb,zb,zb,zb,zb,zb,zb,zb,zb,zb,zb,zb,zb,zb,zb,zb,zb,zb,zb,zb,zb,zb,zb,zb,zb,zb,zb,zb,zb,zb,zb,zb,zb,zb,zb,zb]),(ta 10 270 [zf,zf,zf,zf,zf,zf,zf,zf,zf,zf]),M,M,M,M,M,M,M,M,M,M,M,M,(tk .u64),M,M,M,(tp 3),M,M,M,M,M,M,M,M,(tp 75),M,M,M,M,M,M,(tp 341),td,M,M,M,(tl 50),M,M,M,M,td,M,M,M,M,(tp 78),M,M,Y9,Y9,(ta 0 16 []),Za,Za,tc,tc,M,(tp 5),(tk .i32),(tk .i32),Zb,Zb]
def d0:Func:={name:= "",origin:= "",params:=#[],resultTypes:=#[],nfree:=0,ntmps:=0,results:=#[],body:=some .skip,norace:=false,tmpNames:=#[]}
def d10(l:List Func):List Func:=d0::d0::d0::d0::d0::d0::d0::d0::d0::d0::l
def d100(l:List Func):List Func:=d10 (d10 (d10 (d10 (d10 (d10 (d10 (d10 (d10 (d10 l)))))))))
def tq:Program:={goVersion:= "",platform:= "",initOrder:= "",godebug:= "",types:=tys.toArray,rt:=⟨0,0,0,0,0,0,0,0,0,0,0,0,0⟩,cutTypes:=#[],globals:=#[],inits:=#[],main:=0,follow:=[],funcs:=(d100 (d100 (d100 (d10 (d10 [d0,d0,d0,d0,d0,f325,d0,d0,d0,d0,d0,d0,d0,d0,f334,d0,d0,f337,d0,d0,d0,d0,d0,d0,d0]))))).toArray}
abbrev QI:=Nat×BI×List Nat
def U5(p:QI->Bool):List QI->Bool
 |[]=>true
 |x::r=>if p x then U5 p r else false
def Qz(i:Nat):List Nat->Bool
 |[]=>false
 |j::r=>if Nat.beq j i then true else Qz i r
def U6(i:Nat):List Nat->List Nat
 |[]=>[]
 |j::r=>if Nat.beq j i then U6 i r else j::U6 i r
def Jw(i:Nat):List QI->List QI
 |[]=>[]
 |(j,b,d)::r=>if Nat.beq j i then Jw i r else(j,b,U6 i d)::Jw i r
def qRd:List QI->List (Nat×BI)
 |[]=>[]
 |(i,b,[])::r=>(i,b)::qRd r
 |_::r=>qRd r
def Ty(pu:Bool)(L:List QI):List (Nat×BI)->Option (Bool×Nat×BI)
 |[]=>none
 |(i,b)::r=>
  if U5 (λx=>Nat.beq x.1 i||Qz i x.2.2) L then some (true,i,b)
  else if U5 (λx=>Nat.beq x.1 i||(Qz i x.2.2||wq pu b x.2.1)) L then some (false,i,b)else Ty pu L r
def Tz(rec:Nat->k6):List (Nat×BI)->k6
 |[]=>.stop
 |(i,b)::r=>.alt b (rec i) (Tz rec r)
def NI(pu:Bool):Nat->List QI->k6
 |0,_=>.done
 |f+1,L=>match qRd L with
  |[]=>.done
  |x::r=>match Ty pu L (x::r)with
   |some (s,i,b)=>.one s b (NI pu f (Jw i L))
   |none=>Tz (λi=>NI pu f (Jw i L)) (x::r)
def TA:Nat->List Oper->List (Option BI)->List QI
 |i,o::r,some b::q=>(i,b,Np o)::TA (i+1) r q
 |_,_,_=>[]
def Wz(id:Nat):BC->Nat
 |.seq a b|.jn a b|.cond _ a b=>Wz id a+Wz id b
 |.block _ b|.loop b=>Wz id b
 |.exit j=>bif Nat.beq j id then 1 else 0
 |_=>0
def TB:BC->Bool
 |.seq a b|.jn a b=>bif TB a then TB b else false
 |.cond _ a b=>bif TB a then true else TB b
 |.block id b=>bif TB b then true else !(Nat.beq (Wz id b) 0)
 |.loop _|.exit _|.ret=>false
 |_=>true
def Zc:BC->Bool
 |.seq _ b|.jn _ b=>Zc b
 |.cond _ a b=>bif TB a&&TB b then true else bif Zc a then true else Zc b
 |.block id b=>bif Zc b then true else bif TB b&&Nat.ble 1 (Wz id b)then true else Nat.ble 2 (Wz id b)
 |_=>false
def qR(P:Program)(GL:aj)(d a:List Nat)(n id:Nat)(ops:Array Oper)(draw:Bool):Option BC:=
 if draw&&a.contains (id+1000)then(K8 ops.toList (ops.map (w8 P GL d n ops)).toList).map .set
 else if draw then some (.ws (!a.contains id) (NI (!a.contains id) ops.size (TA 0 ops.toList (ops.map (w8 P GL d n ops)).toList)))
 else match Jq ops with
  |some t=>if t<n then some (.rG t)else none
  |none=>(Dy P GL d n ops (List.range ops.size)).map (.ops (!a.contains id))
def vP(P:Program)(GL:aj)(d j:List Nat)(n:Nat):Code->Option BC
 |.skip|.label _=>some .skip
 |.region id ops draw=>qR P GL d j n id ops draw
 |.seq a b=>match vP P GL d j n a,vP P GL d j n b with
  |some x,some y=>some (bif Zc x then .jn x y else .seq x y)
  |_,_=>none
 |.cond c a b=>match eE GL c,vP P GL d j n a,vP P GL d j n b with
  |some c,some x,some y=>some (.cond c x y)
  |_,_,_=>none
 |.block id b=>(vP P GL d j n b).map (.block id)
 |.loop b=>(vP P GL d j n b).map .loop
 |.scope b=>vP P GL d j n b
 |.exit id=>some (.exit id)
 |.ret=>some .ret
 |.rangeFunc f l a b=>match eE GL f,vP P GL d j n a,vP P GL d j n b with
  |some x,some a,some b=>if l.toList.all (· <n)then some (.Mt x l.toList a b)else none
  |_,_,_=>none
 |_=>none
def cQ(G:aj)(a d:List Nat)(fn:Func):Option BF:=match fn.body with
 |some c=>match vP tq G a d fn.ntmps c,BR.ofVars tq fn.results.toList with
  |some bc,some f=>some ⟨fn.ntmps,bc,f⟩
  |_,_=>none
 |none=>none
structure CF(G:aj)(fn:Func)(hs hr:List Nat)(f:Nat) where
 b:BF
 h:cQ G hs hr fn=some b
 ok:r6 prog G hs hr f=some b
def jo{G:aj}{fn:Func}{a d:List Nat}{f:Nat}{b:BF}(h:cQ G a d fn=some b:=by cbv)(ok:r6 prog G a d f=some b:=by kernel_rfl):CF G fn a d f:=⟨b,h,ok⟩
def BC.sets:BC->List (List (BI×List Nat))
 |.seq a b|.cond _ a b|.jn a b=>a.sets++b.sets
 |.block _ b|.loop b=>b.sets
 |.set l=>[l]
 |_=>[]
def BC.Jx:BC->List k6
 |.seq a b|.cond _ a b|.jn a b=>a.Jx++b.Jx
 |.block _ b|.loop b=>b.Jx
 |.ws _ p=>[p]
 |_=>[]
class NX(e:Ex):Prop where
 h:∀id,e≠.exit id
instance:NX .ret:=⟨λ_ h=>Ex.noConfusion h⟩
instance:NX .normal:=⟨λ_ h=>Ex.noConfusion h⟩
section
variable {s:St}{t t' Wy:Nat}{a a' UR u u' YO:V}{bJ:Bool}{e:Ex}[NX e]
def nE{e:Ex}[h:NX e]:∀id,e≠.exit id:=h.h
def rq0:(∀id,e≠.exit id)/\oj s [] (.hJ []) false:=⟨nE,aba⟩
def qD(h:s.Z t=a)(d:a.dY=false)(f:V.Le a u):(∀id,e≠.exit id)/\oj s [.tmp t] u false:=⟨nE,YP h d f⟩
def rJ(h:s.Z t=a)(d:a.dY=false)(f:s.fl t=true)(j:V.Le a u):(∀id,e≠.exit id)/\oj s [.tmp t] u bJ:=⟨nE,S9 h d f j⟩
def rq2(h:s.Z t=a)(j:s.Z t'=a')(l:a.dY=false)(d:a'.dY=false)(o:V.Le a u)(f:V.Le a' u'):(∀id,e≠.exit id)/\oj s [.tmp t,.tmp t'] (.hJ [u,u']) false:=⟨nE,abb h j l d o f⟩
def Hm(h:s.Z t=a)(q:s.Z t'=a')(j:s.Z Wy=UR)(y:a.dY=false)(l:a'.dY=false)(d:UR.dY=false)(z:V.Le a u)(o:V.Le a' u')(f:V.Le UR YO):
 (∀id,e≠.exit id)/\oj s [.tmp t,.tmp t',.tmp Wy] (.hJ [u,u',YO]) false:=⟨nE,abc h q j y l d z o f⟩
end
def pq{G:aj}{j l:List Nat}{f n:Nat}{b:BC}{rs:List BR}{args:List V}{u:V}{bJ:Bool}(o:r6 prog G j l f=some ⟨n,b,rs⟩)(q:Nat.ble args.length n=true)(d:(hZ args&&u.free)=true)
 (h:vc prog G b (St.init n args aK.bare) (run prog G [] λe s'=>(∀id,e≠.exit id)/\oj s' rs u bJ)):Pure prog G f args u bJ:=by
 rw[be]at d;exact Ql hm o (bE q) d.1 d.2 h
def bq{G:aj}{d j:List Nat}{f n:Nat}{b:BC}{rs:List BR}{args:List V}{E:aK}{Q:V->Bool->aK->Prop}(l:r6 prog G d j f=some ⟨n,b,rs⟩)(o:Nat.ble args.length n=true)
 (h:vc prog G b (St.init n args E) (run prog G [] λe s'=>(∀id,e≠.exit id)/\∃v bJ,BF.result s' rs=some (v,bJ)/\Q v bJ s'.E)):lB prog G f args E Q:=Nw hm l (bE o) h
def i0{G:aj}{P:Program}{pu:Bool}{s:St}{K:St->Prop}{d:Nat}{f:FuncId}{args:List eL}{j:List V}{u:V}{bJ:Bool}{r:List BI}(E:Pure P G f j u bJ)(l:args.map s.val=j)(h:er P G pu r (s.put d u none bJ) K):
 er P G pu (⟨none,some d,.call f args⟩::r) s K:=jj E (l▸aV.refl _) h
def mV{a b:List V}(h:a=b):aV a b:=h▸aV.refl _
def lq{G:aj}{P:Program}{pu:Bool}{s:St}{K:St->Prop}{d:Nat}{f:FuncId}{args:List eL}{TC:List V}{u:V}{bJ:Bool}{r:List BI}(E:Pure P G f TC u bJ)(h:er P G pu r (s.put d u none bJ) K)
 (ha:args.map s.val=TC:=by first|(simp only[ee,simprocAttr]<;>rfl)|rfl):er P G pu (⟨none,some d,.call f args⟩::r) s K:=jj E (ha▸aV.refl _) h
def nub:List Nat->List Nat->List Nat
 |a,[]=>a
 |a,x::r=>nub (if Qz x a then a else x::a) r
def pk(fn:Func){f n:Nat}{b:BC}{rs:List BR}{args:List V}{u:V}{bJ:Bool}(h:vc prog GL b (St.init n args aK.bare) (run prog GL [] λe s'=>(∀id,e≠.exit id)/\oj s' rs u bJ))(hs:List Nat:=[])(hr:List Nat:=[])
 (_hq:cQ GL hs hr fn=some ⟨n,b,rs⟩:=by cbv) (hc:r6 prog GL hs hr f=some ⟨n,b,rs⟩:=by kernel_rfl) (hl:Nat.ble args.length n=true:=by rfl) (fa:(hZ args&&u.free)=true:=by simp only[dx]):af f args u bJ:=pq hc hl fa h
def bk(fn:Func){f n:Nat}{b:BC}{rs:List BR}{args:List V}{E:aK}{Q:V->Bool->aK->Prop}(h:vc prog GL b (St.init n args E) (run prog GL [] λe s'=>(∀id,e≠.exit id)/\∃v bJ,BF.result s' rs=some (v,bJ)/\Q v bJ s'.E))(hs:List Nat:=[])(hr:List Nat:=[])
 (_hq:cQ GL hs hr fn=some ⟨n,b,rs⟩:=by cbv) (hc:r6 prog GL hs hr f=some ⟨n,b,rs⟩:=by kernel_rfl) (hl:Nat.ble args.length n=true:=by rfl):aI f args E Q:=bq hc hl h
section
variable {P:Program}{G:Nat->Option (List V)}{s:St}{st:List Fr}{K:Ex->St->Prop}{pu:Bool}{KL:St->Prop}{a b:BC}
def cs{t:Bool}{A B:Prop}(ht:A->vc P G a s (run P G st K))(hf:B->vc P G b s (run P G st K))(h1:(t=true)=A:=by first|(simp only[jg];exact rfl)|exact rfl)(h2:(t=false)=B:=by first|(simp only[jg];exact rfl)|exact rfl):iI P G (.bool t) a b s st K:=
 bZ (λh=>ht (h1▸h)) λh=>hf (h2▸h)
def gs{t w:Bool}{dst:Option Nat}{op:BY}{r:List BI}{A B:Prop}(ht:A->er P G pu (⟨none,dst,op⟩::r) s KL)(hf:B->er P G pu r (s.skip dst) KL)(h1:(t=w)=A:=by first|(simp only[jg];exact rfl)|exact rfl)(h2:(t=(!w))=B:=by first|(simp only[bM,bB,jg];exact rfl)|(simp only[bM,bB];exact rfl)|exact rfl):iw P G (.bool t) w dst op pu r s KL:=
 c8 (λh=>ht (h1▸h)) λh=>hf (h2▸h)
def cz{t:Bool}{A B:Prop}(ht:t=true->A->vc P G a s (run P G st K))(hf:t=false->B->vc P G b s (run P G st K))(h1:(t=true)=A:=by first|(simp only[jg];exact rfl)|exact rfl)(h2:(t=false)=B:=by first|(simp only[jg];exact rfl)|exact rfl):iI P G (.bool t) a b s st K:=
 bZ (λh=>ht h (h1▸h)) λh=>hf h (h2▸h)
def gz{t w w':Bool}{dst:Option Nat}{op:BY}{r:List BI}{A B:Prop}(ht:t=w->A->er P G pu (⟨none,dst,op⟩::r) s KL)(hf:t=w'->B->er P G pu r (s.skip dst) KL)(hw:(!w)=w':=by(simp only[bM,bB];exact rfl))(h1:(t=w)=A:=by first|(simp only[jg];exact rfl)|exact rfl)(h2:(t=w')=B:=by first|(simp only[jg];exact rfl)|exact rfl):iw P G (.bool t) w dst op pu r s KL:=
 c8 (λh=>ht h (h1▸h)) λh=>hf (h.trans hw) (h2▸h.trans hw)
end
def leR(a:V):V.Le a a=True:=ua (.refl a)
def leN(n:Nat):V.Le .aP (.sl n [])=True:=ua (.aP _)
def leI(a b:Int):V.Le (I a) (I b)=(a=b):=by
 apply propext;constructor
 .intro h;cases h;rfl
 .rintro rfl;exact .refl _
def abg:(∀s,fR s []=True)/\(∀s t v o r,fR s ((t,v,o)::r)=((V.Le (s.Z t) v/\(o=true->s.fl t=true\/s.Z t=.aP))/\fR s r))/\(∀s,fM s []=True)/\(∀s t r,fM s (t::r)=((s.fl t=true\/s.Z t=.aP)/\fM s r)):=
 ⟨λ_=>rfl,λ_ _ _ _ _=>rfl,λ_=>rfl,λ_ _ _=>rfl⟩
def ft:=(ao (ao (ao @abg @mR) (ao @leR (ao @leN @leI))) (ao (ao @bL (ao @cK @true_or)) (ao (ao @or_true @forall_const.{0}) (ao @bK (ao @jZ @kL.{0})))))
def bQ(s:St)(d:Nat)(u:V)(o:Bool):s.ret (some d) u o=s.put d u none o:=rfl
def Bz(s:St)(u:V)(o:Bool):s.ret none u o=s:=rfl
def cR:(∀(s:St) E t,(s.base E).Z t=if(s.Z t).dY=true then .unk else s.Z t)/\(∀(s:St) E t,(s.base E).fl t=false)/\(∀(s:St) E i,(s.base E).G i=0)/\(∀(s:St) E,(s.base E).E=E)/\(∀(s:St) E i j,(s.base E).loc i j=[])/\
 (∀(s:St) E ps it,s.begin E ps it=(s.base E).xd ps it)/\(∀(s:St) p ps v vs,s.xd (p::ps) (v::vs)=(s.put p v none false).xd ps vs)/\(∀(s:St) vs,s.xd [] vs=s)/\(∀a b c,(V.lp a b c).dY=true)/\(∀a b,(V.bp a b).dY=false)/\(∀a,(V.ep a).dY=false)/\(∀f c,(V.fn f c).dY=false):=
 ⟨λ_ _ _=>rfl,λ_ _ _=>rfl,λ_ _ _=>rfl,λ_ _=>rfl,λ_ _ _ _=>rfl,λ_ _ _ _=>rfl,λ_ _ _ _ _=>rfl,λ_ _=>rfl,λ_ _ _=>rfl,λ_ _=>rfl,λ_=>rfl,λ_ _=>rfl⟩
def gE:=(ao (ao @dt @bx) (ao (ao @bQ @Bz) (ao (ao @cw.{0} @cP.{0}) (ao (ao @cy.{0} @cd.{0}) @bP.{1}))))
def sE:=ao @da (ao @bQ (ao @Bz @cR))
def sT{P:Prop}(h:P:=by first|(simp only[sE,simprocAttr]<;>first|assumption|rfl)|(simp only[sE,simprocAttr,bR,cm]<;>rfl)|rfl|assumption):P:=h
def ev{P:Prop}(h:P:=by first|(simp only[ee,simprocAttr]<;>rfl)|(simp only[ee,simprocAttr,bx,bQ]<;>rfl)):P:=h
def ag{P:Prop}(h:P:=by repeat first|exact aV.nil|(refine aV.cons (ak ?_) ?_;first|(simp only[ee,simprocAttr]<;>rfl)|rfl)):P:=h
def PA{P:Prop}(h:P:=by repeat first|exact aV.nil|refine aV.cons (.refl _) ?_|refine aV.cons (.aP _) ?_):P:=h
def fz{P:Prop}(h:P:=by first|(simp only[ft,simprocAttr]<;>omega)|(simp only[fR,fM,bL,cK];and_intros<;>(try simp only[mR,simprocAttr])<;>first|with_reducible exact .refl _|exact .aP _|exact .inl trivial|(intro h;cases h;done)|(intro _;simp;done)|(refine ak (aq I ?_);omega)|(apply ak;simp[CX];done))):P:=h
section
variable {P:Program}{G:Nat->Option (List V)}{s:St}{st:List Fr}{K:Ex->St->Prop}{b:BC}{α:Type}{D:List Nat}(p:α->Prop)(vals:α->List (Nat×V×Bool))(μ:α->Nat)(a0:α)
def sl(h0:p a0)(BA:∀a,p a->vc P G b (s.head D [] (vals a)) (run P G (.back (λs'=>∃a',Hd (p a')/\Hd (μ a'<μ a)/\fR s' (vals a')/\fM s' [])::st) K))(_hD:nub [] b.iJ=D:=by cbv)(hq:b.quiet=true:=by rfl)(hD:b.iJ.all D.contains=true:=by rfl)(Zd:D.all b.iJ.contains=true:=by rfl)
 (hk:∀a,mK D (vals a)=true:=by exact λ_=>rfl) (hf:fR s (vals a0):=by exact fz):vc P G (.loop b) s (run P G st K):=ns (bJ:=[]) p vals μ a0 hq hD Zd hk h0 hf trivial BA
def so{bJ:List Nat}(h0:p a0)(BA:∀a,p a->vc P G b (s.head D bJ (vals a)) (run P G (.back (λs'=>∃a',Hd (p a')/\Hd (μ a'<μ a)/\fR s' (vals a')/\fM s' bJ)::st) K))(_hD:nub [] b.iJ=D:=by cbv)(hq:b.quiet=true:=by rfl)(hD:b.iJ.all D.contains=true:=by rfl)(Zd:D.all b.iJ.contains=true:=by rfl)
 (hk:∀a,mK D (vals a)=true:=by exact λ_=>rfl) (hf:fR s (vals a0):=by exact fz) (ho:fM s bJ:=by exact fz):vc P G (.loop b) s (run P G st K):=ns p vals μ a0 hq hD Zd hk h0 hf ho BA
def sk{bJ:List Nat}(h0:p a0)(BA:∀a,p a->vc P G b (s.head D bJ (vals a)) (run P G (.back (λs'=>∃a',Hd (p a')/\Hd (μ a'<μ a)/\fR s' (vals a')/\fM s' bJ/\Kept s s')::st) K))(_hD:nub [] b.iJ=D:=by cbv)(hno:b.vO=true:=by rfl)(hD:b.iJ.all D.contains=true:=by rfl)(Zd:D.all b.iJ.contains=true:=by rfl)
 (hk:∀a,mK D (vals a)=true:=by exact λ_=>rfl) (hf:fR s (vals a0):=by exact fz) (ho:fM s bJ:=by exact fz):vc P G (.loop b) s (run P G st K):=p2 hno p vals μ a0 hD Zd hk h0 hf ho BA
end
def ba{α:Type}{p F:α->Prop}{μ:α->Nat}{m:Nat}(a:α)(h:p a)(hm:μ a<m:=by omega)(hf:F a:=by exact fz):∃a',Hd (p a')/\Hd (μ a'<m)/\F a':=⟨a,⟨h⟩,⟨hm⟩,hf⟩
def q1{s:St}{t:Nat}{u:V}{e:Ex}[NX e](hu:V.Le (s.Z t) u)(hl:(s.Z t).dY=false:=by rfl):(∀id,e≠.exit id)/\oj s [.tmp t] u false:=qD rfl hl hu
def dtf:=ao @wQ @m7
def om{P:Prop}(h:P:=by first|omega|(simp only[l4];omega)):P:=h
def k7{G d:Prop}(h:d)(e:G=d:=by simp only[gE,simprocAttr];exact rfl):G:=e.mpr h
def qp{G d:Prop}(h:d)(e:G=d:=by simp(disch:=first|omega|(simp only[l4];omega)) only[gE,simprocAttr];exact rfl):G:=e.mpr h
def sR{P Q:Prop}(h:Q)(e:Q=P:=by simp only[sE,simprocAttr]):P:=e.mp h
section
variable {s:St}{r r':BR}{rs:List BR}{u:V}{us:List V}
def rT{e:Ex}[NX e](h:hW s (r::r'::rs) us):(∀id,e≠.exit id)/\oj s (r::r'::rs) (.hJ us) false:=⟨nE,FG h⟩
def gt{t:Nat}(d:V.Le (s.Z t) u)(q:hW s rs us)(f:(s.Z t).dY=false:=by rfl):hW s (.tmp t::rs) (u::us):=.tmp rfl f d q
def gc{t n:Nat}{ag:Bool}{a:V}(d:V.Le a u)(q:hW s rs us)(h:dv s (.load ag n (.tmp t))=some a:=by simp only[ee,simprocAttr]<;>rfl)(f:a.dY=false:=by rfl):hW s (.cell t ag n::rs) (u::us):=.cell h f d q
end
attribute [local irreducible] vc er dq b4 bU run iw iI iW i1 iG i2 iX iq iH iZ gA iY cS
def jG(n:Int):Prop:= -9223372036854775808<=n/\n<=9223372036854775807
def mO(n a:Int):Int:=(if n<0 then -(n+1)else n).tmod a
def EP(n a:Int)(h:jG n)(d:a≠0):af 13 [I n,I a] (I (mO n a)):=by
 obtain⟨f,j⟩:=h;refine pk f13 ?_;repeat' first|simp(disch:=omega) only[dt,simprocAttr,d]|refine cs ?_ ?_<;>intro h|refine ei ?_|refine q1 ?_
 .exact ak (by
   have:n<0:=av;simp[mO,this])
 .exact ak (by
   have:¬n<0:=av;simp[mO,this])
def abh:CF GL f50 [] [] 50:=jo
def W(l:List Int)(i a:Int):Int:=if i<0\/i>=l.length then 0 else mO (l.getD i.toNat 0) a
def jk(l:List Int)(i a:Int)(f:∀n∈l,jG n)(d:a≠0):af 50 [fq l,I i,I a] (I (W l i a)):=by
 refine pq abh.ok rfl (by simp only[dx]) ?_;repeat any_goals first|simp(disch:=try exact om) only[dt,simprocAttr,fq]|(first|refine cz ?_ ?_|refine gz ?_ ?_)<;>intro j h<;>try simp only[j]|refine lq (EP (l[i.toNat]'av) a (f _ (ah _)) d) ?_|refine q1 ?_
 .exact ak (by simp[W];omega)
 .exact ak (by
   have:¬(i<0\/(l.length:Int)<=i):=by omega
   simp[W,this,ap,show i.toNat<l.length by omega])
 .exact ak (by simp[W];omega)
def Jy(a b:List T)(f:a.length<=1000000000):af 115 [eZ a,eZ b] (B (decide (a=b))):=by
 refine pk f115 ?_;repeat' first|simp only[dt,simprocAttr,eZ]|refine cs ?_ ?_<;>intro h|refine q1 ?_
 .exact Us
 have d:a.length=b.length:=av;refine sl (λk:Nat=>k<=a.length/\a.take k=b.take k) (λk=>[(5,I k,false)]) (λk=>a.length-k) (0) (⟨bT,bT⟩) ?_;rintro k ⟨j,he⟩;repeat' first|refine qp ?_|refine cs ?_ ?_<;>intro h|refine ba (k+1) ?_|refine q1 ?_
 .exact ak (by
   have:a≠b:=λe=>h (by subst e;rfl);simp[this])
 .exact⟨av,by rw[br (l:=a) av,br (l:=b) av];simp_all⟩
 .exact wc7
def i3(m:Nat):List Nat:=if h:m=0 then []else m%256::i3 (m/256)
 termination_by m
 decreasing_by omega
def uF{m:Nat}(h:m≠0):i3 m=m%256::i3 (m/256):=by rw[i3,dif_neg h]
def vi:i3 0=[]:=by rw[i3];rfl
def QA:∀(m d:Nat),d∈i3 m->d<256:=by
 intro m;induction m using Nat.strongRecOn with
 |_ m ih=>
  intro d a;by_cases h:m=0
  .subst h;rw[vi]at a;cases a
  .rw[uF h]at a;rcases bn.1 a with rfl|a
   .omega
   .exact ih _ av d a
def r8:∀(k m:Nat),m<256^k->(i3 m).length<=k
 |0,m,h=>by
  have:m=0:=av;subst this;rw[vi];simp
 |k+1,m,h=>by
  by_cases hm:m=0
  .subst hm;rw[vi];simp
  .rw[uF hm,aM];have:m/256<256^k:=by rw[iB av,<-nX];exact h
   have:=r8 k _ this;omega
def jp(n:Int):Nat:=(if n<0 then -1-n else n).toNat
def cC(n:Int):T:=
 if n<0 then UInt8.ofNat (127-(i3 (jp n)).length)::(i3 (jp n)).reverse.map λd=>UInt8.ofNat (255-d)
 else UInt8.ofNat (128+(i3 (jp n)).length)::(i3 (jp n)).reverse.map λd=>UInt8.ofNat d
def rI{d:Nat}(h:d<256):((UInt8.ofNat d).toNat:Int)=d:=by
 rw[px];omega
def gB(n:Int)(h:jG n):(cC n).length<=9:=by
 obtain⟨a,d⟩:=h;have:(i3 (jp n)).length<=8:=r8 8 _ (by unfold jp;split<;>omega);unfold cC;split<;>(simp only[aM,au,oJ];omega)
def cX(l:List Int):T:=cC l.length++l.flatMap cC
def dD(s:T):T:=cC s.length++s
def g7(l:List T):T:=cC l.length++l.flatMap dD
def my(s:T)(h:s.length<=1000000000):(dD s).length<=s.length+9:=by
 have:=gB s.length (by unfold jG;omega);simp only[dD,ae];omega
def mh{α β:Type}(f:α->List β)(k:Nat):∀(l:List α),(∀x∈l,(f x).length<=k)->(l.flatMap f).length<=k*l.length
 |[],_=>bT
 |x::r,h=>by
  have d:=mh f k r (λy a=>h y (by simp[a]));have j:=h x bT;simp only[ck,ae,aM,qr];omega
def sM{α β:Type}(f:α->List β){l:List α}{k:Nat}(h:k<l.length):(l.take (k+1)).flatMap f=(l.take k).flatMap f++f l[k]:=by
 rw[br h,cx];simp
end Go.Bx
