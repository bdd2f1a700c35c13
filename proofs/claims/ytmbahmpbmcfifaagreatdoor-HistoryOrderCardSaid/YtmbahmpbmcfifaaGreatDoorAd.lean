/- Lemmas for HistoryOrder. -/
import Derived.Test.YtmbahmpbmcfifaaGreatDoorAc
import Derived.KernelRfl
import Derived.RecoverIn
import Derived.TacticsInMore
noncomputable section
set_option linter.all false
set_option maxHeartbeats 4000000
set_option maxRecDepth 100000
namespace Go.Bx
def FH:V->V->V->Option V
 |.bool t,a,b=>some (if t then a else b)
 |_,_,_=>none
def ldA(n:Nat):Option (List V)->Option V
 |some cs=>if n<=cs.length then some (.agg (cs.take n))else none
 |none=>none
def ld1:Option (List V)->Option V
 |some (c::_)=>some c
 |_=>none
def Nd:V->Option V
 |.A a b c=>some (.A a b c)
 |.bp a b=>some (.bp a b)
 |.ep cs=>some (.ep cs)
 |_=>none
def P8(neg:Bool):V->V->Option V
 |.bool a,.bool b=>some (.bool (if neg then !(a==b)else a==b))
 |_,_=>none
def qJ(neg:Bool)(a b:V):Option V:=match xK a,xK b with
 |some true,some b=>some (.bool (if neg then !b else b))
 |some b,some true=>some (.bool (if neg then !b else b))
 |_,_=>none
def P9(neg:Bool)(d:List CK):V->V->Option V
 |.agg a,.agg b=>(dJ d a b).map λt=>.bool (if neg then !t else t)
 |_,_=>none
def Yx:UnOp->V->Option V
 |.neg,.int k n=>some (.int k (k.wrap (0-n)))
 |.not,.bool b=>some (.bool !b)
 |.xor,.int k n=>some (.int k (k.wrap ((BitVec.ofInt k.bits (if k.signed then -1 else k.max) ^^^ BitVec.ofInt k.bits n).toNat:Nat)))
 |_,_=>none
def HK(k:IntKind):V->Option V
 |.int _ n=>some (.int k (k.wrap n))
 |_=>none
def En:V->Option V
 |.sl 1 a=>(bytesOf a).map .str
 |.aP=>some (.str [])
 |_=>none
def w3(n c:Nat)(lo a:Option V):Option (Nat×Nat):=
 match(match a with|some h=>idxOf h|none=>some n),(match lo with|some l=>idxOf l|none=>some 0)with
 |some h,some l=>if l<=h/\h<=c then some (l,h)else none
 |_,_=>none
def Eo(sz:Nat)(v:V)(lo f:Option V):Option V:=match v with
 |.sl d j=>if sz=d then(w3 j.length j.length lo f).map λ(a,b)=>.sl d ((j.drop a).take (b-a))else none
 |.aP=>(w3 0 0 lo f).map λ_=>.aP
 |.ms d id off n c=>if sz=d then(w3 n c lo f).map λ(a,b)=>.ms d id (off+a*sz) (b-a) (c-a)else none
 |_=>none
def Dh(v:V)(lo d:Option V):Option V:=match v with
 |.str l=>(w3 l.length l.length lo d).map λ(a,b)=>.str ((l.drop a).take (b-a))
 |_=>none
def Jc(n:Nat):V->Option V
 |.bp id o=>some (.ms 1 id o n n)
 |.ep cells=>if n<=cells.length then some (.sl 1 (cells.take n))else none
 |_=>none
def Yy(off:Nat):V->Option V
 |.A st a o=>some (.A st a (o+off))
 |.bp id o=>some (.bp id (o+off))
 |.ep cells=>if off<=cells.length then some (.ep (cells.drop off))else none
 |_=>none
def Yz(ag:Bool)(off n:Nat):V->Option V
 |.agg cs=>if ag then(if off+n<=cs.length then some (.agg ((cs.drop off).take n))else none)else cs[off]?
 |_=>none
def YA(sz:Nat):V->V->Option V
 |.sl a d,.int _ n=>if 0<=n then(if sz=a then(d[n.toNat]?).map λv=>.ep v.cells else none)else none
 |.ms a id off m _,.int _ n=>if 0<=n then(if sz=a/\n.toNat<m then some (.bp id (off+n.toNat*sz))else none)else none
 |_,_=>none
def KR(len sz:Nat):V->V->Option V
 |.A st a o,.int _ n=>if 0<=n then(if n.toNat<len then some (.A st a (o+n.toNat*sz))else none)else none
 |.bp id o,.int _ n=>if 0<=n then(if n.toNat<len then some (.bp id (o+n.toNat*sz))else none)else none
 |.ep cells,.int _ n=>if 0<=n then(if n.toNat<len/\n.toNat*sz<=cells.length then some (.ep (cells.drop (n.toNat*sz)))else none)else none
 |_,_=>none
def isV:V->V->Option V
 |.str l,.int _ n=>if 0<=n then(l[n.toNat]?).map λb=>.int .u8 b.toNat else none
 |_,_=>none
def KS(ag:Bool)(len sz:Nat):V->V->Option V
 |.agg cs,.int _ n=>if 0<=n then(if ag then(if n.toNat<len/\n.toNat*sz+sz<=cs.length then some (.agg ((cs.drop (n.toNat*sz)).take sz))else none)else if n.toNat<len then cs[n.toNat*sz]? else none)else none
 |_,_=>none
def w4:V->Option V
 |.sl _ a=>some (.int .i64 a.length)
 |.aP=>some (.int .i64 0)
 |.ms _ _ _ n _=>some (.int .i64 n)
 |_=>none
def Qa:V->Option V
 |.aP=>some (.int .i64 0)
 |.ms _ _ _ _ c=>some (.int .i64 c)
 |_=>none
def Nf:V->Option V
 |.str l=>some (.int .i64 l.length)
 |_=>none
def UK(i:Nat):V->Option V
 |.hE a=>a[i]?
 |_=>none
def Ng:V->V->Option V
 |.int k a,.int _ b=>some (.int k (if b<a then b else a))
 |_,_=>none
def Nh:V->V->Option V
 |.int k a,.int _ b=>some (.int k (if b>a then b else a))
 |_,_=>none
def KT(v:V):idxOf v=match v with|.int _ n=>if 0<=n then some n.toNat else none|_=>none:=by cases v<;>rfl
def aaX:
 (∀(s:St) x,dw s (.move x)=some (s.val x))/\
 (∀(s:St) x,dw s (.same x)=some (s.val x))/\
 (∀(s:St) c a b,dw s (.pick c a b)=FH (s.val c) (s.val a) (s.val b))/\
 (∀(s:St) n a,dw s (.load true n a)=ldA n (s.iN (s.val a)))/\
 (∀(s:St) n a,dw s (.load false n a)=ld1 (s.iN (s.val a)))/\
 (∀(s:St) x,dw s (.nilCheck x)=Nd (s.val x))/\
 (∀(s:St) op x y,dw s (.bin op x y)=oe op (s.val x) (s.val y))/\
 (∀(s:St) g x y,dw s (.V8 g x y)=P8 g (s.val x) (s.val y))/\
 (∀(s:St) g x y,dw s (.V9 g x y)=qJ g (s.val x) (s.val y))/\
 (∀(s:St) g d x y,dw s (.eqc g d x y)=P9 g d (s.val x) (s.val y))/\
 (∀(s:St) op x,dw s (.un op x)=Yx op (s.val x))/\
 (∀(s:St) k x,dw s (.toInt k x)=HK k (s.val x))/\
 (∀(s:St) x,dw s (.CN x)=En (s.val x))/\
 (∀(s:St)(z:Nat) x,dw s (.cut z x none none)=Eo z (s.val x) none none)/\
 (∀(s:St) x,dw s (.D5 x none none)=Dh (s.val x) none none)/\
 (∀(s:St)(z:Nat) x h,dw s (.cut z x none (some h))=Eo z (s.val x) none (some (s.val h)))/\
 (∀(s:St) x h,dw s (.D5 x none (some h))=Dh (s.val x) none (some (s.val h)))/\
 (∀(s:St)(z:Nat) x l,dw s (.cut z x (some l) none)=Eo z (s.val x) (some (s.val l)) none)/\
 (∀(s:St) x l,dw s (.D5 x (some l) none)=Dh (s.val x) (some (s.val l)) none)/\
 (∀(s:St)(z:Nat) x l h,dw s (.cut z x (some l) (some h))=Eo z (s.val x) (some (s.val l)) (some (s.val h)))/\
 (∀(s:St) x l h,dw s (.D5 x (some l) (some h))=Dh (s.val x) (some (s.val l)) (some (s.val h)))/\
 (∀(s:St) n x,dw s (.nQ n x)=Jc n (s.val x))/\
 (∀(s:St) o x,dw s (.fieldAddr o x)=Yy o (s.val x))/\
 (∀(s:St) o n x,dw s (.field true o n x)=Yz true o n (s.val x))/\
 (∀(s:St) o n x,dw s (.field false o n x)=Yz false o n (s.val x))/\
 (∀(s:St) z x j,dw s (.sv z x j)=YA z (s.val x) (s.val j))/\
 (∀(s:St) l z x j,dw s (.rX l z x j)=KR l z (s.val x) (s.val j))/\
 (∀(s:St) x j,dw s (.xJ x j)=isV (s.val x) (s.val j))/\
 (∀(s:St) l z x j,dw s (.tX true l z x j)=KS true l z (s.val x) (s.val j))/\
 (∀(s:St) l z x j,dw s (.tX false l z x j)=KS false l z (s.val x) (s.val j))/\
 (∀(s:St) x,dw s (.len x)=w4 (s.val x))/\
 (∀(s:St) x,dw s (.cap x)=Qa (s.val x))/\
 (∀(s:St) x,dw s (.Mm x)=Nf (s.val x))/\
 (∀(s:St) n,dw s (.Mn n)=some (.int .i64 (n:Nat)))/\
 (∀(s:St) x j,dw s (.extract x j)=UK j (s.val x))/\
 (∀(s:St) z p,dw s (.build z p)=(jQ s z p).map .agg)/\
 (∀(s:St) f c,dw s (.Ae f c)=(if c.all (λx=>(s.val x).one)then some (.fn f (c.map s.val))else none))/\
 (∀(s:St) t x,dw s (.wE t x)=(if(s.val x).one then some (.Hc t (s.val x))else none))/\
 (∀(s:St) x y,dw s (.min2 x y)=Ng (s.val x) (s.val y))/\
 (∀(s:St) x y,dw s (.max2 x y)=Nh (s.val x) (s.val y)):=by
 and_intros<;>intro s<;>intros<;>first
  |rfl
  |(simp only[dw,FH,ldA,ld1,Nd,P8,qJ,P9,Yx,HK,En,Jc,Yy,Yz,w4,Qa,Nf,UK,Ng,Nh]<;>rfl)
  |(simp only[dw,Eo,Dh,tr,tY,w3]<;>rfl)
  |(rename_i p q r;simp only[dw];generalize s.val p=u;cases u<;>rfl)
  |(rename_i p q;simp only[dw,KT];generalize s.val p=u;generalize s.val q=w;cases u<;>cases w<;>first|rfl|(rename_i n;simp only[YA,KR,isV,KS];by_cases D:(0:Int)<=n<;>simp[D]))
def aaY:
 (∀a b,FH (.bool true) a b=some a)/\
 (∀a b,FH (.bool false) a b=some b)/\
 (∀t a b,FH (.bool t) a b=some (if t then a else b))/\
 (∀n cs,ldA n (some cs)=if n<=cs.length then some (.agg (cs.take n))else none)/\
 (∀c cs,ld1 (some (c::cs))=some c)/\
 (∀a b c,Nd (.A a b c)=some (.A a b c))/\
 (∀a b,Nd (.bp a b)=some (.bp a b))/\
 (∀a,Nd (.ep a)=some (.ep a))/\
 (∀a b,P8 false (.bool a) (.bool b)=some (.bool (a==b)))/\
 (∀a b,P8 true (.bool a) (.bool b)=some (.bool (!(a==b))))/\
 (qJ false .k1 .k1=some (.bool true))/\
 (∀a b,qJ false (.bp a b) .k1=some (.bool false))/\
 (∀a b,qJ false .k1 (.bp a b)=some (.bool false))/\
 (∀a b c,qJ false (.A a b c) .k1=some (.bool false))/\
 (∀a b c,qJ false .k1 (.A a b c)=some (.bool false))/\
 (∀a,qJ false (.ep a) .k1=some (.bool false))/\
 (∀a,qJ false .k1 (.ep a)=some (.bool false))/\
 (∀r a b,P9 false r (.agg a) (.agg b)=(dJ r a b).map λt=>.bool (t))/\
 (qJ true .k1 .k1=some (.bool false))/\
 (∀a b,qJ true (.bp a b) .k1=some (.bool true))/\
 (∀a b,qJ true .k1 (.bp a b)=some (.bool true))/\
 (∀a b c,qJ true (.A a b c) .k1=some (.bool true))/\
 (∀a b c,qJ true .k1 (.A a b c)=some (.bool true))/\
 (∀a,qJ true (.ep a) .k1=some (.bool true))/\
 (∀a,qJ true .k1 (.ep a)=some (.bool true))/\
 (∀r a b,P9 true r (.agg a) (.agg b)=(dJ r a b).map λt=>.bool (!t))/\
 (dJ [] [] []=some true)/\
 (∀k n,Yx .neg (.int k n)=some (.int k (k.wrap (0-n))))/\
 (∀c,Yx .not (.bool c)=some (.bool !c))/\
 (∀k n,Yx .xor (.int k n)=some (.int k (k.wrap ((BitVec.ofInt k.bits (if k.signed then -1 else k.max) ^^^ BitVec.ofInt k.bits n).toNat:Nat))))/\
 (∀k p n,HK k (.int p n)=some (.int k (k.wrap n)))/\
 (∀xs,En (.sl 1 xs)=(bytesOf xs).map .str)/\
 (En .aP=some (.str []))/\
 (∀n c,w3 n c none none=if 0<=n/\n<=c then some (0,n)else none)/\
 (∀n c k h,0<=h->w3 n c none (some (.int k h))=if 0<=h.toNat/\h.toNat<=c then some (0,h.toNat)else none)/\
 (∀n c k l,0<=l->w3 n c (some (.int k l)) none=if l.toNat<=n/\n<=c then some (l.toNat,n)else none)/\
 (∀n c k l p h,0<=l->0<=h->w3 n c (some (.int k l)) (some (.int p h))=if l.toNat<=h.toNat/\h.toNat<=c then some (l.toNat,h.toNat)else none)/\
 (∀z xs lo q,Eo z (.sl z xs) lo q=(w3 xs.length xs.length lo q).map λ(a,b)=>.sl z ((xs.drop a).take (b-a)))/\
 (∀z lo q,Eo z .aP lo q=(w3 0 0 lo q).map λ_=>.aP)/\
 (∀z j o n c lo q,Eo z (.ms z j o n c) lo q=(w3 n c lo q).map λ(a,b)=>.ms z j (o+a*z) (b-a) (c-a))/\
 (∀l lo q,Dh (.str l) lo q=(w3 l.length l.length lo q).map λ(a,b)=>.str ((l.drop a).take (b-a)))/\
 (∀n a b,Jc n (.bp a b)=some (.ms 1 a b n n))/\
 (∀n cs,Jc n (.ep cs)=if n<=cs.length then some (.sl 1 (cs.take n))else none)/\
 (∀o a b c,Yy o (.A a b c)=some (.A a b (c+o)))/\
 (∀o a b,Yy o (.bp a b)=some (.bp a (b+o)))/\
 (∀o cs,Yy o (.ep cs)=if o<=cs.length then some (.ep (cs.drop o))else none)/\
 (∀o n cs,Yz true o n (.agg cs)=if o+n<=cs.length then some (.agg ((cs.drop o).take n))else none)/\
 (∀o n cs,Yz false o n (.agg cs)=cs[o]?)/\
 (∀z xs k n,0<=n->YA z (.sl z xs) (.int k n)=(xs[n.toNat]?).map λv=>.ep v.cells)/\
 (∀z j o m c k n,0<=n->YA z (.ms z j o m c) (.int k n)=if n.toNat<m then some (.bp j (o+n.toNat*z))else none)/\
 (∀l z a b c k n,0<=n->KR l z (.A a b c) (.int k n)=if n.toNat<l then some (.A a b (c+n.toNat*z))else none)/\
 (∀l z a b k n,0<=n->KR l z (.bp a b) (.int k n)=if n.toNat<l then some (.bp a (b+n.toNat*z))else none)/\
 (∀l z cs k n,0<=n->KR l z (.ep cs) (.int k n)=if n.toNat<l/\n.toNat*z<=cs.length then some (.ep (cs.drop (n.toNat*z)))else none)/\
 (∀l k n,0<=n->isV (.str l) (.int k n)=(l[n.toNat]?).map λb=>.int .u8 b.toNat)/\
 (∀l z cs k n,0<=n->KS true l z (.agg cs) (.int k n)=if n.toNat<l/\n.toNat*z+z<=cs.length then some (.agg ((cs.drop (n.toNat*z)).take z))else none)/\
 (∀l z cs k n,0<=n->KS false l z (.agg cs) (.int k n)=if n.toNat<l then cs[n.toNat*z]? else none)/\
 (∀z xs,w4 (.sl z xs)=some (.int .i64 xs.length))/\
 (w4 .aP=some (.int .i64 0))/\
 (∀z j o n c,w4 (.ms z j o n c)=some (.int .i64 n))/\
 (Qa .aP=some (.int .i64 0))/\
 (∀z j o n c,Qa (.ms z j o n c)=some (.int .i64 c))/\
 (∀l,Nf (.str l)=some (.int .i64 l.length))/\
 (∀j vs,UK j (.hE vs)=vs[j]?)/\
 (∀k m p n,Ng (.int k m) (.int p n)=some (.int k (if n<m then n else m)))/\
 (∀k m p n,Nh (.int k m) (.int p n)=some (.int k (if n>m then n else m)))/\
 (∀k (x y:Int),oe .add (.int k x) (.int k y)=some (.int k (k.wrap (x+y))))/\
 (∀k (x y:Int),oe .sub (.int k x) (.int k y)=some (.int k (k.wrap (x-y))))/\
 (∀k (x y:Int),oe .mul (.int k x) (.int k y)=some (.int k (k.wrap (x*y))))/\
 (∀k (x y:Int),oe .quo (.int k x) (.int k y)=if y=0 then none else some (.int k (k.wrap (x.tdiv y))))/\
 (∀k (x y:Int),oe .rem (.int k x) (.int k y)=if y=0 then none else some (.int k (x.tmod y)))/\
 (∀k (x y:Int),oe .eql (.int k x) (.int k y)=some (.bool (x==y)))/\
 (∀k (x y:Int),oe .neq (.int k x) (.int k y)=some (.bool (x !=y)))/\
 (∀k (x y:Int),oe .lss (.int k x) (.int k y)=some (.bool (x<y)))/\
 (∀k (x y:Int),oe .leq (.int k x) (.int k y)=some (.bool (x<=y)))/\
 (∀k (x y:Int),oe .gtr (.int k x) (.int k y)=some (.bool (x>y)))/\
 (∀k (x y:Int),oe .geq (.int k x) (.int k y)=some (.bool (x>=y)))/\
 (∀k (x y:Int),oe .and (.int k x) (.int k y)=some (.int k (k.wrap ((BitVec.ofInt k.bits x&&& BitVec.ofInt k.bits y).toNat:Nat))))/\
 (∀k (x y:Int),oe .or (.int k x) (.int k y)=some (.int k (k.wrap ((BitVec.ofInt k.bits x|||BitVec.ofInt k.bits y).toNat:Nat))))/\
 (∀k (x y:Int),oe .xor (.int k x) (.int k y)=some (.int k (k.wrap ((BitVec.ofInt k.bits x ^^^ BitVec.ofInt k.bits y).toNat:Nat))))/\
 (∀k (x y:Int),oe .andNot (.int k x) (.int k y)=some (.int k (k.wrap ((BitVec.ofInt k.bits x&&& ~~~(BitVec.ofInt k.bits y)).toNat:Nat))))/\
 (∀k p (x y:Int),oe .shl (.int k x) (.int p y)=if y<0 then none else some (.int k (k.wrap (x*2 ^(min y.toNat k.bits)))))/\
 (∀k p (x y:Int),oe .shr (.int k x) (.int p y)=if y<0 then none else some (.int k (x.fdiv (2 ^(min y.toNat k.bits)))))/\
 (∀x y,oe .add (.str x) (.str y)=if x.length+y.length<=4611686018427387904 then some (.str (x++y))else none)/\
 (∀x y,oe .eql (.str x) (.str y)=some (.bool (x==y)))/\
 (∀x y,oe .neq (.str x) (.str y)=some (.bool (!(x==y))))/\
 (∀x y,oe .lss (.str x) (.str y)=some (.bool (Op.bytesLess x y)))/\
 (∀x y,oe .leq (.str x) (.str y)=some (.bool (Op.bytesLess x y||x==y)))/\
 (∀x y,oe .gtr (.str x) (.str y)=some (.bool (!(Op.bytesLess x y||x==y))))/\
 (∀x y,oe .geq (.str x) (.str y)=some (.bool (!(Op.bytesLess x y))))/\
 (∀k n,V.cells (.int k n)=[.int k n])/\
 (∀k n,V.one (.int k n)=true)/\
 (∀k n,V.dW (.int k n)=false)/\
 (∀b,V.cells (.bool b)=[.bool b])/\
 (∀b,V.one (.bool b)=true)/\
 (∀b,V.dW (.bool b)=false)/\
 (∀b,V.cells (.str b)=[.str b])/\
 (∀b,V.one (.str b)=true)/\
 (∀b,V.dW (.str b)=false)/\
 (∀n l,V.cells (.sl n l)=[.sl n l])/\
 (∀n l,V.one (.sl n l)=true)/\
 (∀n l,V.dW (.sl n l)=false)/\
 (V.cells (.aP)=[.aP])/\
 (V.one (.aP)=true)/\
 (V.dW (.aP)=false)/\
 (V.cells (.k1)=[.k1])/\
 (V.one (.k1)=true)/\
 (V.dW (.k1)=false)/\
 (∀a b,V.cells (.bp a b)=[.bp a b])/\
 (∀a b,V.one (.bp a b)=true)/\
 (∀a b,V.dW (.bp a b)=false)/\
 (∀a,V.cells (.ep a)=[.ep a])/\
 (∀a,V.one (.ep a)=true)/\
 (∀a,V.dW (.ep a)=false)/\
 (∀a,V.cells (.mp a)=[.mp a])/\
 (∀a,V.one (.mp a)=true)/\
 (∀a,V.dW (.mp a)=false)/\
 (V.cells (.qy)=[.qy])/\
 (V.one (.qy)=true)/\
 (V.dW (.qy)=false)/\
 (∀f c,V.cells (.fn f c)=[.fn f c])/\
 (∀f c,V.one (.fn f c)=true)/\
 (∀f c,V.dW (.fn f c)=false)/\
 (V.cells (.wC)=[.wC])/\
 (V.one (.wC)=true)/\
 (V.dW (.wC)=false)/\
 (∀t v,V.cells (.Hc t v)=[.Hc t v])/\
 (∀t v,V.one (.Hc t v)=true)/\
 (∀t v,V.dW (.Hc t v)=false)/\
 (V.cells (.zd)=[.zd])/\
 (V.one (.zd)=true)/\
 (V.dW (.zd)=false)/\
 (∀a b c d e,V.cells (.ms a b c d e)=[.ms a b c d e])/\
 (∀a b c d e,V.one (.ms a b c d e)=true)/\
 (∀a b c d e,V.dW (.ms a b c d e)=false)/\
 (∀c,V.cells (.agg c)=c)/\
 (∀c,V.dW (.agg c)=false)/\
 (∀a b c,V.dW (.A a b c)=true):=by
 and_intros<;>intros<;>first
  |rfl
  |(simp only[Eo,bQ];done)
  |(simp[w3,YA,KR,isV,KS,idxOf,oe,Mo, *];done)
def aaZ:
 (∀d (k:IntKind)(x y:Int) r q,dJ (.i::d) (.int k x::r) (.int k y::q)=(dJ d r q).map λt=>(x==y)&&t)/\
 (∀d x y r q,dJ (.s::d) (.str x::r) (.str y::q)=(dJ d r q).map λt=>(x==y)&&t)/\
 (∀d x y r q,dJ (.b::d) (.bool x::r) (.bool y::q)=(dJ d r q).map λt=>(x==y)&&t)/\
 (∀(s:St) cs,jQ s cs []=some cs)/\
 (∀(s:St) cs o n x r,jQ s cs ((o,n,x)::r)=if jR n (s.val x)=true/\o+n<=cs.length then jQ s (aO cs o (s.val x).cells) r else none)/\
 (∀(s:St) z xs,iP s z xs []=some xs)/\
 (∀(s:St) z xs k x r,iP s z xs ((k,x)::r)=if jR z (s.val x)=true/\k<xs.length then iP s z (xs.set k (s.val x)) r else none)/\
 (∀cs o,aO cs o []=cs)/\
 (∀cs o c r,aO cs o (c::r)=aO (cs.set o c) (o+1) r)/\
 (∀n v,jR n v=(v.cells.length==n&&v.cells.all V.one))/\
 (∀(s:St) n a b c x,s.store n (.A a b c) x=if jR n (s.val x)=true/\b<s.G a/\c+n<=(s.loc a b).length then some (if(s.val x).one=true then(s.hZ a b c (s.val x).cells).ol a b c x else s.hZ a b c (s.val x).cells)else none):=by
 and_intros<;>intros<;>first
  |rfl
  |(rename_i r q;simp only[dJ,oV,bQ];cases dJ _ r q<;>rfl)
def pvE:=(al (al (al (al (al @aaX (al @aaY @aaZ)) (al @aM.{0} (al @aT.{0} @b8.{0}))) (al (al @cx.{0} (al @fT.{0} @fk.{0})) (al (al @ew.{0} @ey.{0}) (al @dO.{0} @dN.{0})))) (al (al (al @tj.{0} (al @px.{0} @pV.{0})) (al @bN.{0} (al @ce.{0} @bw.{0,0}))) (al (al @cV.{0,0} (al @aw.{0} @ay.{0})) (al (al @pP @pO) (al @tQ @tR))))) (al (al (al (al @pN (al @hA @l4.{0})) (al @bG.{0,0} (al @cA @rU))) (al (al @ao (al @aL @ku)) (al (al @oa @cF) (al @bK @Ac)))) (al (al (al @Ab (al @bQ.{1} @cE.{1})) (al @bM (al @bB.{0,0} @aq.{0,0}))) (al (al @ae.{0} (al @bX @rR)) (al (al @bD @bO) (al @fR.{0} @lS.{0}))))))
def tvE:(∀a:ID,a.v=.agg [I a.J,I a.seq,I a.k])/\(∀a:Name,a.v=.agg [I a.J,I a.seq])/\(∀a:fW,a.v=.agg [I a.i9,I a.k3,I a.idx])/\(∀a,ng a=.agg [I a.1,I a.2])/\
 (∀p:aK,p.v=.agg [I p.id.J,I p.id.seq,I p.id.k,I p.eB,I p.eh,S p.bW,eZ p.C])/\(∀a:ee,a.v=.agg [S a.gO,dv a.O])/\(∀a:eQ,a.v=.agg [mG a.O])/\(∀a:cm,a.v=.agg [cd a.O])/\
 (∀o:Op,o.v=.agg [I o.kind,I o.W.J,I o.W.seq,I o.W.k,I o.to.J,I o.to.seq,I o.to.k,I o.spot.i9,I o.spot.k3,I o.spot.idx,I o.n,I o.eB,I o.eh,S o.bW,e9 o.F,jw o.cX,eZ o.C])/\
 (∀t:hG,t.v=.agg [S t.name,I t.kind,I t.eh,S t.see,e9 t.eH])/\(∀p:Post,p.v=.agg [I p.id.J,I p.id.seq,I p.id.k,e9 p.path,B p.main])/\
 (∀e:aV,e.v=.agg [I e.J,I e.seq,I e.ei,I e.kind,jZ e.C,I e.op.kind,I e.op.W.J,I e.op.W.seq,I e.op.W.k,I e.op.to.J,I e.op.to.seq,I e.op.to.k,I e.op.spot.i9,I e.op.spot.k3,I e.op.spot.idx,I e.op.n,I e.op.eB,I e.op.eh,S e.op.bW,e9 e.op.F,jw e.op.cX,eZ e.op.C,S e.dy.name,I e.dy.kind,I e.dy.eh,S e.dy.see,e9 e.dy.eH,I e.id.J,I e.id.seq,I e.id.k,ny e.cU,I e.n])/\
 (∀a:cR,a.v=.agg [I a.from_.J,I a.from_.seq,I a.from_.k,I a.to.J,I a.to.seq,I a.to.k])/\(∀a:gP,a.v=.agg [I a.W,I a.end_,I a.kind]):=
 ⟨λ_=>rfl,λ_=>rfl,λ_=>rfl,λ_=>rfl,λ_=>rfl,λ_=>rfl,λ_=>rfl,λ_=>rfl,λ_=>rfl,λ_=>rfl,λ_=>rfl,λ_=>rfl,λ_=>rfl,λ_=>rfl⟩
def pU:=(al (al (al (al (al @UH (al @KQ @aM.{0})) (al @aT.{0} (al @b8.{0} @cx.{0}))) (al (al @fT.{0} (al @fk.{0} @ew.{0})) (al @ey.{0} (al @dO.{0} @dN.{0})))) (al (al (al @tj.{0} (al @px.{0} @pV.{0})) (al @bN.{0} (al @ce.{0} @bw.{0,0}))) (al (al @cV.{0,0} (al @aw.{0} @ay.{0})) (al (al @pP @pO) (al @tQ @tR))))) (al (al (al (al @pN (al @hA @l4.{0})) (al @bG.{0,0} (al @cA @rU))) (al (al @ao (al @aL @ku)) (al (al @oa @cF) (al @bK @Ac)))) (al (al (al @Ab (al @bQ.{1} @cE.{1})) (al @bM (al @bB.{0,0} @aq.{0,0}))) (al (al @ae.{0} (al @bX @rR)) (al (al @bD @bO) (al @fR.{0} @lS.{0}))))))
section
variable {GL:Nat->Option (List V)}{P:Program}
def iS(P:Program)(GL:ak)(j:V)(ys:Option (List V))(o:Option Loc)(sz d:Nat)(pu:Bool)(r:List BI)(s:St)(K:St->Prop):Prop:=match j,ys with
 |.aP,some ys=>ys.length<=ir/\er P GL pu r (s.put d (.sl sz ys) none true) K
 |.sl a f,some ys=>sz=a/\f.length+ys.length<=ir/\match o with
  |some l=>er P GL pu r ((s.dP l).put d (.sl sz (f++ys)) none true) K
  |none=>False
 |_,_=>False
def i3(P:Program)(GL:ak)(b:Bool)(cs:List V)(d:Nat)(pu:Bool)(r:List BI)(s:St)(K:St->Prop):Prop:=b=true/\er P GL pu r (s.put d (.ep cs) none false) K
def i4(P:Program)(GL:ak)(v:V)(d:Nat)(pu:Bool)(r:List BI)(s:St)(K:St->Prop):Prop:=match v with
 |.str l=>l.length<=ir/\er P GL pu r (s.put d (.sl 1 (l.map λb=>.int .u8 b.toNat)) none true) K
 |_=>False
def YB:Bool->Nat->Option Loc->St->Option Loc
 |true,t,_,_=>some (.var t)
 |false,_,some k,s=>if s.iF k then some k else none
 |false,_,none,_=>none
def Ma(l:Option Loc)(d:Nat):Option Loc:=match l with
 |some (.var u)=>if u=d then none else some (.var u)
 |l=>l
section
variable {pu:Bool}{K:St->Prop}
def UL:
 (∀(s:St) d n y r,er P GL pu (⟨none,some d,.ex (.Hn n y)⟩::r) s K=i3 P GL (jR n (s.val y)) (s.val y).cells d pu r s K)/\
 (∀(s:St) cs d r,i3 P GL true cs d pu r s K=er P GL pu r (s.put d (.ep cs) none false) K):=by
 refine⟨λs d n y r=>?_,λs cs d r=>by simp[i3]⟩;show b4 P GL pu s (some d) (.ex (.Hn n y)) _=_;simp only[b4,iG,i3];by_cases h:jR n (s.val y)=true<;>simp[h]
def Qb:
 (∀(s:St) d sz t y r,er P GL pu (⟨none,some d,.ex (.app sz (.tmp t) y)⟩::r) s K=iS P GL (s.Z t) (nF sz (s.val y)) (s.p4 t) sz d pu r s K)/\
 (∀(s:St) d sz y r,er P GL pu (⟨none,some d,.ex (.app sz (.const .aP) y)⟩::r) s K=iS P GL .aP (nF sz (s.val y)) none sz d pu r s K)/\
 (∀(s:St) ys o sz d r,ys.length<=1073741824->iS P GL .aP (some ys) o sz d pu r s K=er P GL pu r (s.put d (.sl sz ys) none true) K)/\
 (∀(s:St) xs ys l sz d r,xs.length+ys.length<=1073741824->iS P GL (.sl sz xs) (some ys) (some l) sz d pu r s K=er P GL pu r ((s.dP l).put d (.sl sz (xs++ys)) none true) K)/\
 (∀(s:St) d y r,er P GL pu (⟨none,some d,.ex (.sw y)⟩::r) s K=i4 P GL (s.val y) d pu r s K)/\
 (∀(s:St) l d r,l.length<=1073741824->i4 P GL (.str l) d pu r s K=er P GL pu r (s.put d (.sl 1 (l.map λb=>.int .u8 b.toNat)) none true) K):=by
 refine⟨λs d sz t y r=>?_,λs d sz y r=>?_,λs ys o sz d r h=>?_,λs xs ys l sz d r h=>?_,λs d y r=>?_,λs l d r h=>?_⟩
 .show b4 P GL pu s (some d) (.ex (.app sz (.tmp t) y)) _=_;simp only[b4,iG,St.app,iS,show s.val (.tmp t)=s.Z t from rfl];cases s.Z t<;>cases nF sz (s.val y)<;>try rfl
  next f xs ys=>
   simp only;by_cases h:sz=f/\xs.length+ys.length<=ir
   .rw[ax h];cases s.p4 t<;>simp[h.1,h.2]
   .rw[an h,eq_iff_iff];simp only[false_iff];exact λj=>h ⟨j.1,j.2.1⟩
  next ys=>simp only;by_cases h:ys.length<=ir<;>simp[h]
 .show b4 P GL pu s (some d) (.ex (.app sz (.const .aP) y)) _=_;simp only[b4,iG,St.app,iS,show s.val (.const .aP)=.aP from rfl];cases nF sz (s.val y)with
  |none=>rfl
  |some ys=>by_cases h:ys.length<=ir<;>simp[h]
 .have a:ys.length<=ir:=h;simp[iS,a]
 .have a:xs.length+ys.length<=ir:=h;simp[iS,a]
 .show b4 P GL pu s (some d) (.ex (.sw y)) _=_;simp only[b4,iG,i4];cases s.val y<;>try rfl
  rename_i l;by_cases h:l.length<=ir<;>simp[h]
 .have a:l.length<=ir:=h;simp[i4,a]
end
def Qc:(∀sz ys,nF sz (.sl sz ys)=some ys)/\(∀sz,nF sz .aP=some [])/\(∀l,nF 1 (.str l)=some (l.map λb=>.int .u8 b.toNat)):=
 ⟨λsz ys=>by simp[nF],λsz=>rfl,λl=>by simp[nF]⟩
def Jd:
 (∀(s:St) t,s.p4 t=YB (s.fl t) t (s.lk t) s)/\(∀t l s,YB true t l s=some (.var t))/\(∀t k s,YB false t (some k) s=if s.iF k then some k else none)/\(∀t s,YB false t none s=none)/\
 (∀(s:St) u,s.iF (.var u)=s.fl u)/\(∀(s:St) i g j,s.iF (.cell i g j)=s.fc i g j)/\(∀(s:St) i j,s.iF (.iI i j)=s.E.fl i j)/\
 (∀(s:St) d u l o t,(s.put d u l o).lk t=if t=d then Ma l d else Ma (s.lk t) d)/\(∀(s:St) d k u t,(s.zj d k u).lk t=if t=d then none else Ma (s.lk t) d)/\
 (∀d,Ma none d=none)/\(∀u d,Ma (some (.var u)) d=if u=d then none else some (.var u))/\(∀i g j d,Ma (some (.cell i g j)) d=some (.cell i g j))/\(∀i j d,Ma (some (.iI i j)) d=some (.iI i j))/\
 (∀(s:St) d cs,(s.fG d cs).lk=s.lk)/\(∀(s:St) D bL vals t,(s.head D bL vals).lk t=none)/\(∀n args E t,(St.init n args E).lk t=none)/\(∀(s:St) u t,(s.dP (.var u)).lk t=s.lk t):=by
 refine⟨λs t=>?_,λ_ _ _=>rfl,λ_ _ _=>rfl,λ_ _=>rfl,λ_ _=>rfl,λ_ _ _ _=>rfl,λ_ _ _=>rfl,λs d u l o t=>?_,λs d k u t=>?_,λ_=>rfl,λ_ _=>rfl,λ_ _ _ _=>rfl,λ_ _ _=>rfl,λ_ _ _=>rfl,λ_ _ _ _ _=>rfl,λ_ _ _ _=>rfl,λ_ _ _=>rfl⟩
 .unfold St.p4;cases h:s.fl t
  .simp only[bM,cE];cases s.lk t<;>rfl
  .simp[YB]
 .have key:∀l:Option Loc,(if l=some (.var d)then none else l)=Ma l d:=by
   exact WE
  simp only[St.put,eR,unlink];split
  .exact key l
  .exact key (s.lk t)
 .have key:∀l:Option Loc,(if l=some (.var d)then none else l)=Ma l d:=by
   exact WE
  simp only[St.zj,St.put,eR,unlink];split
  .simp
  .exact key (s.lk t)
def Qd:=@M9
def Cx:(∀l,df l=.sl 1 (l.map λb=>.int .u8 b.toNat))/\(∀l,fx l=.sl 1 (l.map I))/\(∀l,e9 l=.sl 1 (l.map S))/\(∀l,eZ l=.sl 3 (l.map ID.v))/\(∀l,jZ l=.sl 2 (l.map Name.v))/\(∀l,jw l=.sl 2 (l.map ng))/\
 (∀l,dv l=.sl 7 (l.map aK.v))/\(∀l,mG l=.sl 2 (l.map ee.v))/\(∀l,cd l=.sl 1 (l.map eQ.v))/\(∀l,oo l=.sl 5 (l.map hG.v))/\(∀l,ny l=.sl 5 (l.map Post.v))/\(∀l,eI l=.sl 32 (l.map aV.v))/\
 (∀l,g7 l=.sl 6 (l.map cR.v))/\(∀l,pj l=.sl 3 (l.map gP.v)):=
 ⟨λ_=>rfl,λ_=>rfl,λ_=>rfl,λ_=>rfl,λ_=>rfl,λ_=>rfl,λ_=>rfl,λ_=>rfl,λ_=>rfl,λ_=>rfl,λ_=>rfl,λ_=>rfl,λ_=>rfl,λ_=>rfl⟩
def Qe:(∀c,V.one (.agg c)=false)/\(∀c,V.one (.hE c)=false)/\(∀c,V.cells (.hE c)=[.hE c])/\(∀c,V.dW (.hE c)=false)/\(V.dW .unk=false)/\(V.dW .qr=false):=⟨λ_=>rfl,λ_=>rfl,λ_=>rfl,λ_=>rfl,rfl,rfl⟩
def KU:(∀l,(V.ep l).free=hW l)/\(∀f l,(V.fn f l).free=hW l)/\(V.wC.free=true)/\(V.k1.free=true)/\(∀t v,(V.Hc t v).free=v.free)/\(V.zd.free=true):=
 ⟨λ_=>rfl,λ_ _=>rfl,rfl,rfl,λ_ _=>rfl,rfl⟩
def dq:=(al (al (al (al (al @rc @P6) @UE) (al (al @A6 @Qd) @Qb)) (al (al (al @UL @Qe) @Qc) (al @Nc @Jd))) (al (al (al (al @Cx @pU) @pvE) (al @tvE @ax.{1})) (al (al (al @an.{1} @aa.{0}) @dB.{0,0}) (al @wrap_i64 @wrap_u8))))
def dL:=(al (al (al (al @Cx @pU) @pvE) (al @tvE @ax.{1})) (al (al (al @an.{1} @aa.{0}) @dB.{0,0}) (al @wrap_i64 @wrap_u8)))
def mS:=(al (al @pU @Nc) @Jd)
def du:=(al (al @M7 @KU) @kr)
def jc:=(al (al (al (al (al @cy @fi) @Int.not_lt) (al @Int.not_le @iA.{0})) (al (al @tU.{0} @ne_eq.{1}) (al @jy @tP))) (al (al (al @kB.{0} @tT.{0}) (al @Decidable.not_not @Int.natCast_inj)) (al (al @tS @Int.ofNat_le) (al @bO @bD))))
def me:=(al (al (al @aq.{0,0} @ae.{0}) (al @aM.{0} @aT.{0})) (al (al @aF.{0} @aS.{0}) (al @rS.{0} @oM.{0})))
end
section
variable {GL:Nat->Option (List V)}{P:Program}
def b1(xs:List V):List V:=(xs.map V.cells).flatten
def lG(sz:Nat)(xs:List V):Prop:=∀x∈xs,jR sz x=true
def dM{sz:Nat}:∀{xs:List V},lG sz xs->(b1 xs).length=xs.length*sz
 |[],_=>by simp[b1]
 |x::r,h=>by
  have d:=dM (sz:=sz) (xs:=r) λy a=>h y (by simp[a]);have f:=(fh (h x bR)).1;simp only[b1,bw,dk,ae,aM,dH]at*
  omega
def fU(xs ys:List V):b1 (xs++ys)=b1 xs++b1 ys:=by simp[b1]
def Di(x:V)(ys:List V):b1 (x::ys)=x.cells++b1 ys:=by simp[b1]
def lG.append{sz:Nat}{xs ys:List V}(h:lG sz xs)(d:lG sz ys):lG sz (xs++ys):=λx hx=>by
 rcases aR.1 hx with a|a
 .exact h x a
 .exact d x a
def lG.take{sz:Nat}{xs:List V}(h:lG sz xs)(n:Nat):lG sz (xs.take n):=λx hx=>h x (eE hx)
def lG.drop{sz:Nat}{xs:List V}(h:lG sz xs)(n:Nat):lG sz (xs.drop n):=λx hx=>h x (jH hx)
def lG.set{sz:Nat}{xs:List V}(h:lG sz xs){n:Nat}{x:V}(hx:jR sz x=true):lG sz (xs.set n x):=λy d=>by
 rcases cK d with a|a
 .exact h y a
 .subst a;exact hx
def lG.map{α:Type}{sz:Nat}{f:α->V}(h:∀y,jR sz (f y)=true)(l:List α):lG sz (l.map f):=λx hx=>by
 obtain⟨y,_,rfl⟩:=cG.1 hx;exact h y
def ia:∀{cs vs:List V} {o:Nat},o+vs.length<=cs.length->aO cs o vs=cs.take o++vs++cs.drop (o+vs.length)
 |cs,[],o,_=>by simp[aO]
 |cs,v::r,o,h=>by
  simp only[aM]at h;simp only[aO];rw[ia (by simp;omega)];have a:o<cs.length:=av;rw[iq (by simpa using a)];simp only[List.take_set,nI,aM,List.drop_set,aG,aZ,bx];rw[List.set_eq_of_length_le (by rw[aF];exact l3 _ _)];simp only[show o<o+1+r.length by omega,bQ];rw[show o+1+r.length=o+(r.length+1)by omega]
def iv{sz:Nat}{xs:List V}(h:lG sz xs){i:Nat}(j:i<xs.length)(rest:List V):(b1 xs++rest).drop (i*sz)=xs[i].cells++(b1 (xs.drop (i+1))++rest):=by
 have a:xs=xs.take i++xs[i]::xs.drop (i+1):=bR;have d:(b1 (xs.take i)).length=i*sz:=by rw[dM (h.take i),aF];congr 1;omega
 have f:b1 xs=b1 (xs.take i)++(xs[i].cells++b1 (xs.drop (i+1))):=by
  conv=>lhs;rw[a]
  rw[fU,Di]
 rw[f,aG,<-d,fY,aG]
def qK{sz:Nat}{xs:List V}(h:lG sz xs){i:Nat}(a:i<xs.length){x:V}(hx:jR sz x=true)(rest:List V):aO (b1 xs++rest) (i*sz) x.cells=b1 (xs.set i x)++rest:=by
 have p:=dM h;have d:=(fh hx).1;have q:i*sz+sz<=xs.length*sz:=by rw[<-dH];exact cj _ a
 rw[ia (by rw[ae];omega),d,<-dH];have f:(b1 (xs.take i)).length=i*sz:=by rw[dM (h.take i),aF];congr 1;omega
 have j:xs=xs.take i++xs.drop i:=bR;have l:(b1 xs++rest).take (i*sz)=b1 (xs.take i):=by
  conv=>lhs;rw[j,fU,aG,<-f]
  rw[gK]
 rw[l];have o:(b1 xs++rest).drop (i.succ*sz)=b1 (xs.drop (i+1))++rest:=by
  have:i.succ*sz=i*sz+sz:=dH i sz;rw[this,<-dG,iv h a];rw[show sz=xs[i].cells.length from(fh (h xs[i] (ah a))).1.symm,fY]
 rw[o,gi,ax a,fU,Di];simp
def Ni:(∀s:St,s.A3.Z=s.Z)/\(∀s:St,s.A3.E=s.E)/\(∀s:St,s.A3.G=s.G)/\(∀s:St,s.A3.loc=s.loc)/\(∀s:St,s.A3.fl=s.fl):=⟨λ_=>rfl,λ_=>rfl,λ_=>rfl,λ_=>rfl,λ_=>rfl⟩
def da:=al (al @Ni @pU) @bh
def gh(sz:Nat)(h:aJ)(v:V)(xs:List V):Prop:=lG sz xs/\
 ((v=.aP/\xs=[])\/∃id c rest,v=.ms sz id 0 xs.length c/\id<h.Y/\h.box id=some (b1 xs++rest)/\xs.length<=c/\rest.length=(c-xs.length)*sz)
def gh.nil{sz:Nat}{h:aJ}:gh sz h .aP []:=⟨(by intro x hx;cases hx),.inl ⟨rfl,rfl⟩⟩
def gh.len{sz:Nat}{h:aJ}{v:V}{xs:List V}(hm:gh sz h v xs):w4 v=some (.int .i64 (xs.length:Int)):=by
 exact Xf
def gh.fS{sz:Nat}{h:aJ}{v:V}{xs:List V}(hm:gh sz h v xs):v.dW=false:=by
 exact Xf
def bH:V->Option Nat
 |.ms _ id _ _ _=>some id
 |_=>none
structure bt(o:Option Nat)(h h':aJ):Prop where
 box:∀i,i<h.Y->o≠some i->h'.box i=h.box i
 mp:∀i,i<h.Y->h'.mp i=h.mp i
 Y:h.Y<=h'.Y
section
variable {s:St}{K:St->Prop}{pu:Bool}
def UM{d:Option Nat}{sz:Nat}{zs xs ys:List V}{x y:eO}{r:List BI}(hx:gh (sz+1) s.E (s.val x) xs)(hy:nF (sz+1) (s.val y)=some ys)(q:lG (sz+1) ys)(ac:(s.val y).dW=false)(Wt:∀l,s.val y≠.str l)(hz:zs.length=sz+1)
 (t:xs.length+ys.length<=1073741824) (u:s.val x=.aP->ys≠[])
 (h:∀v z,gh (sz+1) z v (xs++ys)->bt (bH (s.val x)) s.E z->(bH v=bH (s.val x)\/bH v=some s.E.Y)->er P GL pu r ((s.ct z).ret d v false) K):er P GL pu (⟨none,d,.mx (.v1 (sz+1) zs x y)⟩::r) s K:=by
 rw[A6.1];obtain⟨p,hx⟩:=hx;have D:qs s.E (sz+1) (s.val y)=some (ys.length,b1 ys):=by
  exact Ws
 have Q:=dM q;have j:=dM p;have L:∀n,(kl n zs).length=n*(sz+1):=by
  intro n;exact Wz
 have new:∀{old:List V},old=b1 xs->∀f,xs.length+ys.length<=f->gB P GL d pu r s K (.ms (sz+1) s.E.Y 0 (xs.length+ys.length) f) false (s.E.cM (old++b1 ys++kl (f-(xs.length+ys.length)) zs)):=by
  rintro old rfl f o;refine h _ _ ⟨p.append q,.inr ⟨s.E.Y,f,kl (f-(xs.length+ys.length)) zs,bR,dm _,?_,by simpa using o,by simp[L]⟩⟩ ⟨λi N _=>?_,λi N=>rfl,fO _⟩ (.inr rfl)
  .simp[aJ.cM,eR,fU]
  .simp only[aJ.cM];exact bE _ _ (cr N)
 rcases hx with⟨hv,rfl⟩|⟨id,c,rest,hv,dV,dZ,R,a⟩
 .simp only[MX.wp,hv,nf,D];refine⟨by simpa[ir]using t,?_⟩;by_cases hm:ys.length=0
  .have:ys=[]:=bJ.1 hm;exact absurd this (u hv)
  .rw[an hm,an av];refine⟨[],by simp[aJ.cells],λf o=>?_⟩;have:=new (old:=[]) (by simp[b1]) f (by simpa using o);simpa using this
 .simp only[MX.wp,hv,nf,bQ,D];refine⟨by simpa[ir]using t,?_⟩;by_cases hm:ys.length=0
  .have:ys=[]:=bJ.1 hm;subst this;simp only[aT,bQ];refine h _ _ ⟨by simpa using p,.inr ⟨id,c,rest,bR,dV,by simpa using dZ,by simpa using R,by simpa using a⟩⟩ ⟨λ_ _ _=>rfl,λ_ _=>rfl,ao _⟩ (.inl (by rw[hv]))
  .rw[an hm];split
   next H=>
    have ad:(c-xs.length)*(sz+1)=ys.length*(sz+1)+(c-(xs.length+ys.length))*(sz+1):=by
     rw[<-dK];congr 1;omega
    refine⟨_,dZ,by rw[ae,j,a,dK];omega,?_⟩;refine h _ _ ⟨p.append q,.inr ⟨id,c,rest.drop (ys.length*(sz+1)),bR,dV,?_,by simpa using H,by simp[a];omega⟩⟩ ⟨λi N u=>?_,λi N=>rfl,ao _⟩ (.inl (by rw[hv];rfl))
    .simp only[aJ.wr,aJ.set,bl];rw[ia (by rw[ae,j,Q,a];omega),cA,<-j,gK,Q,<-dG,fY,fU]
    .simp only[aJ.wr,aJ.set];exact bE _ _ (λe=>u (by rw[hv,e];rfl))
   next H=>
    refine⟨b1 xs,?_,λf o=>new rfl f o⟩;unfold aJ.cells;split
    next ab=>rw[ab]at j;rw[bJ.1 j]
    .rw[dZ];simp only;rw[ax (by rw[ae];omega),cx,<-j,gK]
def iE{d:Option Nat}{sz:Nat}{zs xs ys:List V}{x y:eO}{r:List BI}(hx:gh (sz+1) s.E (s.val x) xs)(t:nF (sz+1) (s.val y)=some ys)(o:lG (sz+1) ys)(p:(s.val y).dW=false)(f:∀l,s.val y≠.str l)(u:zs.length=sz+1)
 (j:xs.length+ys.length<=1073741824) (q:s.val x=.aP->ys≠[])
 (h:∀v a,gh (sz+1) a v (xs++ys)->bt (bH (s.val x)) s.E a->(bH v=bH (s.val x)\/bH v=some s.E.Y)->gB P GL d pu r s K v false a):(MX.v1 (sz+1) zs x y).wp s (gB P GL d pu r s K):=by
 have:=UM (d:=d) (zs:=zs) hx t o p f u j q h
 rwa [A6.1]at this
def St.Pp(s:St)(id off:Nat)(y:eO):St:=match s.store 1 (.bp id off) y with
 |some t=>t
 |none=>s
def Nj{id off:Nat}{y:eO}{cells:List V}(hb:s.E.box id=some cells)(a:jR 1 (s.val y)=true)(d:off+1<=cells.length):s.store 1 (.bp id off) y=some (s.Pp id off y):=by
 unfold St.Pp;simp[St.store,hb,a,d]
def Qf{id off:Nat}{y:eO}{cells:List V}(hb:s.E.box id=some cells)(ho:jR 1 (s.val y)=true)(hl:off+1<=cells.length):
 (s.Pp id off y).Z=s.Z/\(s.Pp id off y).G=s.G/\(s.Pp id off y).loc=s.loc/\(s.Pp id off y).E.box=eR s.E.box id (some (aO cells off (s.val y).cells))/\(s.Pp id off y).E.mp=s.E.mp/\(s.Pp id off y).E.Y=s.E.Y:=by
 unfold St.Pp;exact WC
def Qg{y:eO}{id off:Nat}{cells:List V}{r:List BI}(hb:s.E.box id=some cells)(a:jR 1 (s.val y)=true)(d:off+1<=cells.length)
 (h:er P GL pu r (s.Pp id off y) K):iQ P GL (s.store 1 (.bp id off) y) pu r K:=by
 rw[Nj hb a d];exact h
def z7{y:eO}{id off:Nat}{cells:List V}{r:List BI}(hb:s.E.box id=some cells)(a:jR 1 (s.val y)=true)(d:off+1<=cells.length)
 (h:∀t:St,t.Z=s.Z->t.G=s.G->t.loc=s.loc->t.E.box=eR s.E.box id (some (aO cells off (s.val y).cells))->t.E.mp=s.E.mp->t.E.Y=s.E.Y->er P GL pu r t K):iQ P GL (s.store 1 (.bp id off) y) pu r K:=by
 obtain⟨f,j,l,o,p,q⟩:=Qf hb a d;exact Qg hb a d (h _ f j l o p q)
def Qh{sz:Nat}{cs:List V}{j:Nat}{c:V}(h:jR sz (.agg cs)=true)(f:c.one=true):jR sz (.agg (cs.set j c))=true:=by
 obtain⟨a,d⟩:=fh h;unfold jR;simp only[V.cells,eT]at a d ⊢
 rw[aX];refine⟨by simp[a],bP.2 λx hx=>?_⟩;rcases cK hx with l|rfl
 .exact bP.1 d x l
 .exact f
def KV{sz:Nat}{xs:List V}(h:lG sz xs){i j:Nat}{cs:List V}(p:xs[i]?=some (.agg cs)){c:V}(q:j<cs.length)(r:c.one=true)(rest:List V):
 aO (b1 xs++rest) (i*sz+j) [c]=b1 (xs.set i (.agg (cs.set j c)))++rest:=by
 obtain⟨l,o⟩:=aH.1 p;have f:=h _ (ah l);rw[o]at f;rw[<-qK h l (Qh f r) rest];have d:=iv h l rest;have z:=dM h;have t:=(fh f).1;rw[o]at d;simp only[V.cells]at d t ⊢
 have D:i*sz+sz<=xs.length*sz:=by rw[<-dH];exact cj _ l
 rw[ia (by simp only[ae,aM,aT];omega),ia (by simp only[ae,eT];omega)];generalize b1 xs++rest=a at d;generalize b1 (xs.drop (i+1))++rest=b at d;generalize i*sz=k at d;simp only[eT,aM,aT,cA];have u:a.drop (k+j+1)=cs.drop (j+1)++b:=by rw[cn,<-dG,d,i0 av]
 have y:a.drop (k+cs.length)=b:=by rw[<-dG,d,fY]
 rw[u,y,List.take_add,d,e0 av,gi,ax q];simp
end
def gh.leF{sz:Nat}{h:aJ}{v:V}{xs:List V}(hm:gh sz h v xs):∃fz d,jD fz h d/\V.lM fz v (.sl sz xs):=by
 obtain⟨f,⟨rfl,rfl⟩|⟨id,c,rest,rfl,dV,hb,t,u⟩⟩:=hm
 .exact⟨jF,h,.refl h,.aP sz⟩
 .refine⟨λi=>if i=id then some (b1 xs++rest)else none,{aJ.bare with Y:=h.Y},⟨λi cs e=>?_,λi cs e=>(by cases e),λi j e=>(by cases e),λi m e=>(by cases e),ao _⟩,.ms sz id 0 xs.length c (b1 xs++rest) (b1 xs++rest) xs bR rfl (λj a b q l=>?_) rfl λi x hx=>?_⟩
  .split at e
   next r=>subst r;rw[hb];exact e
   .cases e
  .rw[q]at l;cases l;exact .refl _
  .obtain⟨o,rfl⟩:=aH.1 hx;refine⟨f _ (ah o),λj y p=>?_⟩;have h1:=iv f o rest;have:(b1 xs++rest)[i*sz+j]?=((b1 xs++rest).drop (i*sz))[j]?:=by rw[c0]
   rw[cA,this,h1,dI (aH.1 p).1];exact p
def x2{s:St}{t sz:Nat}{v:V}{xs:List V}(f:s.Z t=v)(hm:gh sz s.E v xs):∃v bL fz a v' d,BF.result s [.tmp t]=some (v,bL)/\jD fz s.E a/\V.lM fz v v'/\(d=true->(bL=true/\(Po fz v\/v'=v))\/v=.aP)/\v'=.sl sz xs/\d=false:=by
 obtain⟨fz,a,j,l⟩:=hm.leF;exact⟨v,s.fl t,fz,a,_,false,by simp[BF.result,BR.p2,BR.get,f,hm.fS],j,l,λh=>(by cases h),rfl,rfl⟩
def tO{s:St}{t n:Nat}{ag:Bool}{a u:V}(h:dw s (.load ag n (.tmp t))=some a)(d:a.dW=false)(f:V.Le a u):oq s [.cell t ag n] u false:=
 ⟨a,false,by simp[BF.result,BR.get,h,d],f,λh=>(by cases h)⟩
inductive hP(s:St):List BR->List V->Prop where
 |nil:hP s [] []
 |tmp {t:Nat} {a u:V} {rs:List BR} {us:List V} (h:s.Z t=a) (hl:a.dW=false) (hu:V.Le a u) (r:hP s rs us):hP s (.tmp t::rs) (u::us)
 |cell {t n:Nat} {ag:Bool} {a u:V} {rs:List BR} {us:List V} (h:dw s (.load ag n (.tmp t))=some a) (hl:a.dW=false) (hu:V.Le a u) (r:hP s rs us):hP s (.cell t ag n::rs) (u::us)
def hP.p2{s:St}{l:List BR}{f:List V}(h:hP s l f):∃vs,BR.p2 s l=some vs/\vs.length=f.length/\∀(j:Nat) c d,vs[j]?=some c->f[j]?=some d->V.Le c d:=by
 induction h with
 |nil=>exact⟨[],rfl,rfl,λj c d e=>(by cases e)⟩
 |@tmp t a u l f h hl hu r ih=>
  exact Wv
 |@cell t n ag a u l f h hl hu r ih=>
  exact Wv
def Fh{s:St}{r d:BR}{f:List BR}{a:List V}(h:hP s (r::d::f) a):oq s (r::d::f) (.hE a) false:=by
 obtain⟨j,l,o,p⟩:=h.p2;exact⟨.hE j,false,by cases r<;>simp[BF.result,l],.hE j a o p,λh=>(by cases h)⟩
end
open Go.Proofs Go.Proofs.Tryz
def Nk:List V:=
 [B false,B false,B false,B false,B false,B false,B false,B false,B false,B false,B false,B true,B false,B false,B false,B true,B false,B false,B false,B false,B true,B true,B false,B true,B true,B false,B true,B true,B false,B false,B false,B false,B false,B false,B false,B false,B true,B false,B false,B false,B true,B false,B false,B false,B false,B true,B false,B false,B false,B false,B false,B false,B false,B false,B true,B false,B true,B true,B false,B false,B false,B false,B false,B true,B true,B false,B false,B false,B false,B false,B false,B false,B true,B false,B false,B false,B true,B false,B false,B true,B true,B true,B false,B false,B false,B false,B false,B false,B false,B true]
def GL:Nat->Option (List V):=λn=>if n=0 then some [.int .i64 (-1),.int .i64 0,.int .i64 0]else if n=1 then some Nk else none
abbrev af(f:FuncId)(args:List V)(u:V)(bL:Bool:=false):Prop:=Pure prog GL f args u bL
abbrev aI:=lI prog GL
def UN:fL prog 155=true:=by kernel_rfl
def Qi(a d f:Value)(m:Nat)(w:World):CallsDIn (FW none) m prog 155 #[a,d,f] .returning w λe u w'=>(∃x,e=.returned x)/\u=.returning/\w'=w:=by
 refine callsDIn_of_wpSIn func155 rfl trivial λc₀ cs j=>?_;apply wpSIn_seq;apply wpSIn_region;simp[wpOpsSIn,go_sem,recoverD,j,Tryz.ntmps155,Exit.thenS];apply wpSIn_seq;apply wpSIn_region;simp[wpOpsSIn,go_sem,Tryz.ntmps155,Exit.thenS];refine wpSIn_cond (t:=false) (by simp[Act.eval,Array.replicate]) ?_;simp only[bM,cE];refine wpSIn_of_wpIn rfl (wpIn_skip ?_);cases c₀;simp_all[bodyPostS,results,Tryz.results155]
def hm:Wd prog where
 fol:=by kernel_rfl
 idle k a:=by
  obtain rfl:k=155:=by simpa[dfK]using a
  exact⟨UN,λd f j m w=>Qi d f j m w⟩
def ID.FI{a b:ID}:a=b↔a.J=b.J/\a.seq=b.seq/\a.k=b.k:=by cases a;cases b;simp
def ty(d:TypeDesc)(n:Nat)(z:Value):TypeInfo:=⟨d,"",n,0,false,0,0,some z,false,#[]⟩
def zi:Value:=.int .i64 0
def zc:Value:=.int .u8 0
def zI:Value:=.int .u64 0
def zb:Value:=.bool false
def zs:Value:=.string ⟨#[]⟩
def zl:Value:=.slice none 0 0
def zp:Value:=.pointer none
def zm:Value:=.map none
def zf:Value:=.nilFunc
def zn:Value:=.nilIface
def fd(t o:Nat):Field:=⟨ "",t,o,false,"","",0⟩
def f_(t o:Nat):Field:=⟨ "_",t,o,false,"","",0⟩
def td:TypeInfo:=ty .invalid 1 zi
def ti:TypeInfo:=ty (.int .i64) 1 zi
def tc:TypeInfo:=ty (.int .u8) 1 zc
def tk(k:IntKind):TypeInfo:=ty (.int k) 1 (.int k 0)
def tb:TypeInfo:=ty .bool 1 zb
def ts:TypeInfo:=ty .string 1 zs
def tp(e:Nat):TypeInfo:=ty (.pointer e) 1 zp
def tl(e:Nat):TypeInfo:=ty (.slice e) 1 zl
def tm(k e:Nat):TypeInfo:=ty (.map k e) 1 zm
def ta(n e:Nat)(z:List Value):TypeInfo:=ty (.array n e) z.length (.agg z.toArray)
def tt(z:List Value)(f:List Field):TypeInfo:=ty (.struct f.toArray) z.length (.agg z.toArray)
def M:TypeInfo:=ty .invalid 1 zf
def tN:TypeInfo:=ty .invalid 1 zn
def y7:TypeInfo:=tt [zi,zi,zb,zc] [fd 2 0,fd 3 1,fd 4 2,fd 6 3]
def UO:TypeInfo:=tt [zs,zI] [fd 9 0,fd 12 1]
def y18:TypeInfo:=tt [zp] [fd 17 0]
def y23:TypeInfo:=tt [zi,zi,zi] [fd 3 0,fd 3 1,fd 3 2]
def y36:TypeInfo:=tt [zl] [fd 35 0]
def y41:TypeInfo:=tt [zl,zl,zl,zl,zl,zl] [fd 25 0,fd 34 1,fd 37 2,fd 38 3,fd 39 4,fd 40 5]
def y51:TypeInfo:=tt [zi,zi,zi,zi,zi,zi] [fd 24 0,fd 24 3]
def y53:TypeInfo:=tt [zi,zi] [fd 3 0,fd 3 1]
def y55:TypeInfo:=tt [zi,zi,zi,zi,zi] [fd 24 0,fd 54 3]
def y77:TypeInfo:=tt [zi,zi,zi,zi,zi,zs,zl] [fd 24 0,fd 3 3,fd 3 4,fd 9 5,fd 50 6]
def y88:TypeInfo:=tt [zi,zi,zi] [fd 3 0,fd 3 1,fd 3 2]
def y91:TypeInfo:=tt [zi,zi,zi,zi,zi,zi,zi,zi,zi,zi,zi,zi,zi,zs,zl,zl,zl] [fd 3 0,fd 24 1,fd 24 4,fd 89 7,fd 3 10,fd 3 11,fd 3 12,fd 9 13,fd 90 14,fd 45 15,fd 50 16]
def y93:TypeInfo:=tt [zs,zi,zi,zs,zl] [fd 9 0,fd 3 1,fd 3 2,fd 9 3,fd 90 4]
def y96:TypeInfo:=tt [zi,zi,zi,zi,zl,zi,zi,zi,zi,zi,zi,zi,zi,zi,zi,zi,zi,zi,zs,zl,zl,zl,zs,zi,zi,zs,zl,zi,zi,zi,zl,zi] [fd 3 0,fd 3 1,fd 3 2,fd 3 3,fd 34 4,fd 92 5,fd 94 22,fd 24 27,fd 95 30,fd 3 31]
def YC:TypeInfo:=tt [zs,zl] [fd 9 0,fd 75 1]
def YD:TypeInfo:=tt [zl] [fd 112 0]
def YE:TypeInfo:=tt [zl,zl,zl,zl,zm,zm] [fd 25 0,fd 34 1,fd 37 2,fd 127 3,fd 125 4,fd 126 5]
def YF:TypeInfo:=tt [zl,zl] [fd 37 0,fd 63 1]
def YG:TypeInfo:=tt [zl,zi] [fd 37 0,fd 3 1]
def YH:TypeInfo:=tt [zi,zi,zi,zl,zb] [fd 24 0,fd 90 3,fd 4 4]
def YI:TypeInfo:=tt [zb,zb,zb,zb,zb] [fd 4 0,fd 4 1,fd 4 2,fd 4 3,fd 4 4]
def YJ:TypeInfo:=tt [zl,zi] [fd 181 0,fd 3 1]
def YK:TypeInfo:=tt [zl,zi,zi,zi,zi,zi,zi,zi,zi,zi,zi,zi,zi,zi,zs,zl,zl,zl,zi,zi,zi,zi,zi,zi,zi,zi] [fd 37 0,fd 92 1,fd 54 18,fd 89 20,fd 89 23]
def YL:TypeInfo:=tt [zf,zb,zb] [fd 270 0,fd 4 1,fd 4 2]
def UP:TypeInfo:=tt [zi,zi,zi] [fd 3 0,fd 3 1,fd 3 2]
def YM:TypeInfo:=tt [zl,zi,zi] [fd 181 0,fd 3 1,fd 28 2]
def YN:TypeInfo:=tt [zb,zb,zb,zb,zb,zb,zb,zb,zb] [fd 4 0,fd 4 1,fd 4 2,fd 4 3,fd 4 4,fd 4 5,fd 4 6,fd 4 7,fd 4 8]
def YO:TypeInfo:=tt [zp,zp,zp,zs] [fd 17 0,fd 17 1,fd 17 2,fd 9 3]
def YP:TypeInfo:=tt [] [f_ 381 0]
def YQ:TypeInfo:=tt [zI,zI,zI,zc,zc,zc,zc,zf,zp,zI,zI] [fd 12 0,fd 12 1,fd 293 2,fd 384 3,fd 5 4,fd 5 5,fd 385 6,fd 386 7,fd 387 8,fd 388 9,fd 389 10]
def tys:List TypeInfo:=[td,M,ti,ti,tb,tc,tc,y7,y7,ts,ts,ts,(tk .u64),UO,UO,(tp 380),(tp 383),(tp 391),y18,y18,tN,(tk .i32),(tl 3),y23,y23,(tl 97),M,(tp 129),ti,td,M,(tp 42),td,M,(tl 54),(tl 114),y36,y36,(tl 142),(tl 52),(tl 56),y41,y41,(ta 2 3 [zi,zi]),M,(tl 43),td,M,M,M,(tl 24),y51,y51,y53,y53,y55,y55,td,M,M,M,M,M,(tl 94),td,M,M,M,M,M,td,M,M,M,M,(tl 78),M,y77,y77,M,M,M,(tl 25),M,M,M,M,M,y88,y88,(tl 9),y91,y91,y93,y93,(tl 195),y96,y96,M,M,M,M,M,M,M,td,M,M,M,M,YC,YC,(tl 111),YD,YD,M,M,M,(tl 92),M,M,M,M,td,M,(tm 24 50),(tm 24 54),(tl 138),YE,YE,(tm 9 94),M,M,M,M,M,(tm 24 4),YF,YF,M,M,YG,YG,M,M,M,M,M,M,M,M,M,M,M,M,M,M,M,M,M,M,M,M,M,M,M,M,M,M,M,M,M,M,M,M,(tm 54 3),(tm 3 3),M,td,td,M,(tl 5),M,M,M,M,M,M,M,M,M,M,M,M,YH,YH,M,M,M,M,M,M,M,M,M,M,M,M,M,M,M,M,M,M,M,M,M,YI,YI,M,M,M,M,M,td,(tp 227),YJ,YJ,M,M,M,M,M,M,M,M,M,M,M,M,M,(tl 284),M,M,M,M,(tk .u64),(tl 295),M,M,(tl 89),M,M,M,M,M,M,M,M,td,M,M,M,(tl 90),M,(tk .u64),M,(tp 269),YK,YK,M,YL,YL,M,M,td,M,M,M,M,M,M,M,UP,UP,M,ti,td,M,M,M,M,M,(tk .u32),M,UP,M,M,M,M,td,M,M,M,M,M,(tl 181),M,M,M,td,M,(tp 314),YM,YM,M,td,M,td,M,M,M,M,td,M,YN,YN,(ta 10 326 [zb,zb,zb,zb,zb,zb,zb,zb,zb,zb,zb,zb,zb,zb,zb,zb,zb,zb,zb,zb,zb,zb,zb,zb,zb,zb,zb,zb,zb,zb,zb,zb,zb,zb,zb,zb,zb,zb,zb,zb,zb,zb,zb,zb,zb,zb,zb,zb,zb,zb,zb,zb,zb,zb,zb,zb,zb,zb,zb,zb,zb,zb,zb,zb,zb,zb,zb,zb,zb,zb,zb,zb,zb,zb,zb,zb,zb,zb,zb,zb,zb,zb,zb,zb,zb,zb,zb,zb,zb,zb]),(ta 10 270 [zf,zf,zf,zf,zf,zf,zf,zf,zf,zf]),M,M,M,M,M,M,M,M,M,M,M,M,(tk .u64),M,M,M,(tp 3),M,M,M,M,M,M,M,M,(tp 75),M,M,M,M,M,M,(tp 341),td,M,M,M,(tl 50),M,M,M,M,td,M,M,M,M,(tp 78),M,M,YO,YO,(ta 0 16 []),YP,YP,tc,tc,M,(tp 5),(tk .i32),(tk .i32),YQ,YQ]
def d0:Func:={name:= "",origin:= "",params:=#[],resultTypes:=#[],nfree:=0,ntmps:=0,results:=#[],body:=some .skip,norace:=false,tmpNames:=#[]}
def d10(l:List Func):List Func:=d0::d0::d0::d0::d0::d0::d0::d0::d0::d0::l
def d100(l:List Func):List Func:=d10 (d10 (d10 (d10 (d10 (d10 (d10 (d10 (d10 (d10 l)))))))))
def tq:Program:={goVersion:= "",platform:= "",initOrder:= "",godebug:= "",types:=tys.toArray,rt:=⟨0,0,0,0,0,0,0,0,0,0,0,0,0⟩,cutTypes:=#[],globals:=#[],inits:=#[],main:=0,follow:=[],funcs:=(d100 (d100 (d100 (d10 (d10 [d0,d0,d0,d0,d0,f325,d0,d0,d0,d0,d0,d0,d0,d0,f334,d0,d0,f337,d0,d0,d0,d0,d0,d0,d0]))))).toArray}
abbrev QI:=Nat×BI×List Nat
def UR(p:QI->Bool):List QI->Bool
 |[]=>true
 |x::r=>if p x then UR p r else false
def Qj(i:Nat):List Nat->Bool
 |[]=>false
 |j::r=>if Nat.beq j i then true else Qj i r
def US(i:Nat):List Nat->List Nat
 |[]=>[]
 |j::r=>if Nat.beq j i then US i r else j::US i r
def Je(i:Nat):List QI->List QI
 |[]=>[]
 |(j,b,d)::r=>if Nat.beq j i then Je i r else(j,b,US i d)::Je i r
def qRd:List QI->List (Nat×BI)
 |[]=>[]
 |(i,b,[])::r=>(i,b)::qRd r
 |_::r=>qRd r
def Tk(pu:Bool)(L:List QI):List (Nat×BI)->Option (Bool×Nat×BI)
 |[]=>none
 |(i,b)::r=>
  if UR (λx=>Nat.beq x.1 i||Qj i x.2.2) L then some (true,i,b)
  else if UR (λx=>Nat.beq x.1 i||(Qj i x.2.2||v6 pu b x.2.1)) L then some (false,i,b)else Tk pu L r
def Tl(rec:Nat->la):List (Nat×BI)->la
 |[]=>.stop
 |(i,b)::r=>.alt b (rec i) (Tl rec r)
def Nl(pu:Bool):Nat->List QI->la
 |0,_=>.done
 |f+1,L=>match qRd L with
  |[]=>.done
  |x::r=>match Tk pu L (x::r)with
   |some (s,i,b)=>.one s b (Nl pu f (Je i L))
   |none=>Tl (λi=>Nl pu f (Je i L)) (x::r)
def Tm:Nat->List Oper->List (Option BI)->List QI
 |i,o::r,some b::q=>(i,b,M1 o)::Tm (i+1) r q
 |_,_,_=>[]
def Wf(id:Nat):BC->Nat
 |.seq a b|.jn a b|.cond _ a b=>Wf id a+Wf id b
 |.block _ b|.loop b=>Wf id b
 |.exit j=>bif Nat.beq j id then 1 else 0
 |_=>0
def Tn:BC->Bool
 |.seq a b|.jn a b=>bif Tn a then Tn b else false
 |.cond _ a b=>bif Tn a then true else Tn b
 |.block id b=>bif Tn b then true else !(Nat.beq (Wf id b) 0)
 |.loop _|.exit _|.ret=>false
 |_=>true
def YR:BC->Bool
 |.seq _ b|.jn _ b=>YR b
 |.cond _ a b=>bif Tn a&&Tn b then true else bif YR a then true else YR b
 |.block id b=>bif YR b then true else bif Tn b&&Nat.ble 1 (Wf id b)then true else Nat.ble 2 (Wf id b)
 |_=>false
def qR(P:Program)(GL:ak)(d a:List Nat)(n id:Nat)(ops:Array Oper)(draw:Bool):Option BC:=
 if draw&&a.contains (id+1000)then(KI ops.toList (ops.map (wR P GL d n ops)).toList).map .set
 else if draw then some (.v7 (!a.contains id) (Nl (!a.contains id) ops.size (Tm 0 ops.toList (ops.map (wR P GL d n ops)).toList)))
 else match I8 ops with
  |some t=>if t<n then some (.rK t)else none
  |none=>(C9 P GL d n ops (List.range ops.size)).map (.ops (!a.contains id))
def vD(P:Program)(GL:ak)(d j:List Nat)(n:Nat):Code->Option BC
 |.skip|.label _=>some .skip
 |.region id ops draw=>qR P GL d j n id ops draw
 |.seq a b=>match vD P GL d j n a,vD P GL d j n b with
  |some x,some y=>some (bif YR x then .jn x y else .seq x y)
  |_,_=>none
 |.cond c a b=>match eC GL c,vD P GL d j n a,vD P GL d j n b with
  |some c,some x,some y=>some (.cond c x y)
  |_,_,_=>none
 |.block id b=>(vD P GL d j n b).map (.block id)
 |.loop b=>(vD P GL d j n b).map .loop
 |.scope b=>vD P GL d j n b
 |.exit id=>some (.exit id)
 |.ret=>some .ret
 |.rangeFunc f l a b=>match eC GL f,vD P GL d j n a,vD P GL d j n b with
  |some x,some a,some b=>if l.toList.all (· <n)then some (.L5 x l.toList a b)else none
  |_,_,_=>none
 |_=>none
def cQ(G:ak)(a d:List Nat)(fn:Func):Option BF:=match fn.body with
 |some c=>match vD tq G a d fn.ntmps c,BR.ofVars tq fn.results.toList with
  |some bc,some f=>some ⟨fn.ntmps,bc,f⟩
  |_,_=>none
 |none=>none
structure CF(G:ak)(fn:Func)(hs hr:List Nat)(f:Nat) where
 b:BF
 h:cQ G hs hr fn=some b
 ok:r6 prog G hs hr f=some b
def ji{G:ak}{fn:Func}{a d:List Nat}{f:Nat}{b:BF}(h:cQ G a d fn=some b:=by cbv)(ok:r6 prog G a d f=some b:=by kernel_rfl):CF G fn a d f:=⟨b,h,ok⟩
def BC.sets:BC->List (List (BI×List Nat))
 |.seq a b|.cond _ a b|.jn a b=>a.sets++b.sets
 |.block _ b|.loop b=>b.sets
 |.set l=>[l]
 |_=>[]
def BC.Jf:BC->List la
 |.seq a b|.cond _ a b|.jn a b=>a.Jf++b.Jf
 |.block _ b|.loop b=>b.Jf
 |.v7 _ p=>[p]
 |_=>[]
class NX(e:Ex):Prop where
 h:∀id,e≠.exit id
instance:NX .ret:=⟨λ_ h=>Ex.noConfusion h⟩
instance:NX .normal:=⟨λ_ h=>Ex.noConfusion h⟩
section
variable {s:St}{t t' We:Nat}{a a' UC u u' Yt:V}{bL:Bool}{e:Ex}[NX e]
def nE{e:Ex}[h:NX e]:∀id,e≠.exit id:=h.h
def rq0:(∀id,e≠.exit id)/\oq s [] (.hE []) false:=⟨nE,aaU⟩
def p7(h:s.Z t=a)(d:a.dW=false)(f:V.Le a u):(∀id,e≠.exit id)/\oq s [.tmp t] u false:=⟨nE,Yu h d f⟩
def rN(h:s.Z t=a)(d:a.dW=false)(f:s.fl t=true)(j:V.Le a u):(∀id,e≠.exit id)/\oq s [.tmp t] u bL:=⟨nE,SR h d f j⟩
def rq2(h:s.Z t=a)(j:s.Z t'=a')(l:a.dW=false)(d:a'.dW=false)(o:V.Le a u)(f:V.Le a' u'):(∀id,e≠.exit id)/\oq s [.tmp t,.tmp t'] (.hE [u,u']) false:=⟨nE,aaV h j l d o f⟩
def G0(h:s.Z t=a)(q:s.Z t'=a')(j:s.Z We=UC)(y:a.dW=false)(l:a'.dW=false)(d:UC.dW=false)(z:V.Le a u)(o:V.Le a' u')(f:V.Le UC Yt):
 (∀id,e≠.exit id)/\oq s [.tmp t,.tmp t',.tmp We] (.hE [u,u',Yt]) false:=⟨nE,aaW h q j y l d z o f⟩
end
def pq{G:ak}{j l:List Nat}{f n:Nat}{b:BC}{rs:List BR}{args:List V}{u:V}{bL:Bool}(o:r6 prog G j l f=some ⟨n,b,rs⟩)(q:Nat.ble args.length n=true)(d:(hW args&&u.free)=true)
 (h:vc prog G b (St.init n args aJ.bare) (run prog G [] λe s'=>(∀id,e≠.exit id)/\oq s' rs u bL)):Pure prog G f args u bL:=by
 rw[aX]at d;exact P5 hm o (bF q) d.1 d.2 h
def bq{G:ak}{d j:List Nat}{f n:Nat}{b:BC}{rs:List BR}{args:List V}{E:aJ}{Q:V->Bool->aJ->Prop}(l:r6 prog G d j f=some ⟨n,b,rs⟩)(o:Nat.ble args.length n=true)
 (h:vc prog G b (St.init n args E) (run prog G [] λe s'=>(∀id,e≠.exit id)/\∃v bL,BF.result s' rs=some (v,bL)/\Q v bL s'.E)):lI prog G f args E Q:=M8 hm l (bF o) h
def iT{G:ak}{P:Program}{pu:Bool}{s:St}{K:St->Prop}{d:Nat}{f:FuncId}{args:List eO}{j:List V}{u:V}{bL:Bool}{r:List BI}(E:Pure P G f j u bL)(l:args.map s.val=j)(h:er P G pu r (s.put d u none bL) K):
 er P G pu (⟨none,some d,.call f args⟩::r) s K:=iR E (l▸aN.refl _) h
def nG{a b:List V}(h:a=b):aN a b:=h▸aN.refl _
def lq{G:ak}{P:Program}{pu:Bool}{s:St}{K:St->Prop}{d:Nat}{f:FuncId}{args:List eO}{To:List V}{u:V}{bL:Bool}{r:List BI}(E:Pure P G f To u bL)(h:er P G pu r (s.put d u none bL) K)
 (ha:args.map s.val=To:=by first|(simp only[dL,simprocAttr]<;>rfl)|rfl):er P G pu (⟨none,some d,.call f args⟩::r) s K:=iR E (ha▸aN.refl _) h
def nub:List Nat->List Nat->List Nat
 |a,[]=>a
 |a,x::r=>nub (if Qj x a then a else x::a) r
def pk(fn:Func){f n:Nat}{b:BC}{rs:List BR}{args:List V}{u:V}{bL:Bool}(h:vc prog GL b (St.init n args aJ.bare) (run prog GL [] λe s'=>(∀id,e≠.exit id)/\oq s' rs u bL))(hs:List Nat:=[])(hr:List Nat:=[])
 (_hq:cQ GL hs hr fn=some ⟨n,b,rs⟩:=by cbv) (hc:r6 prog GL hs hr f=some ⟨n,b,rs⟩:=by kernel_rfl) (hl:Nat.ble args.length n=true:=by rfl) (fa:(hW args&&u.free)=true:=by simp only[du]):af f args u bL:=pq hc hl fa h
def bk(fn:Func){f n:Nat}{b:BC}{rs:List BR}{args:List V}{E:aJ}{Q:V->Bool->aJ->Prop}(h:vc prog GL b (St.init n args E) (run prog GL [] λe s'=>(∀id,e≠.exit id)/\∃v bL,BF.result s' rs=some (v,bL)/\Q v bL s'.E))(hs:List Nat:=[])(hr:List Nat:=[])
 (_hq:cQ GL hs hr fn=some ⟨n,b,rs⟩:=by cbv) (hc:r6 prog GL hs hr f=some ⟨n,b,rs⟩:=by kernel_rfl) (hl:Nat.ble args.length n=true:=by rfl):aI f args E Q:=bq hc hl h
section
variable {P:Program}{G:Nat->Option (List V)}{s:St}{st:List Fr}{K:Ex->St->Prop}{pu:Bool}{KL:St->Prop}{a b:BC}
def cs{t:Bool}{A B:Prop}(ht:A->vc P G a s (run P G st K))(hf:B->vc P G b s (run P G st K))(h1:(t=true)=A:=by first|(simp only[jc];exact rfl)|exact rfl)(h2:(t=false)=B:=by first|(simp only[jc];exact rfl)|exact rfl):iY P G (.bool t) a b s st K:=
 bY (λh=>ht (h1▸h)) λh=>hf (h2▸h)
def gs{t w:Bool}{dst:Option Nat}{op:BY}{r:List BI}{A B:Prop}(ht:A->er P G pu (⟨none,dst,op⟩::r) s KL)(hf:B->er P G pu r (s.skip dst) KL)(h1:(t=w)=A:=by first|(simp only[jc];exact rfl)|exact rfl)(h2:(t=(!w))=B:=by first|(simp only[bO,bD,jc];exact rfl)|(simp only[bO,bD];exact rfl)|exact rfl):iD P G (.bool t) w dst op pu r s KL:=
 cY (λh=>ht (h1▸h)) λh=>hf (h2▸h)
def cz{t:Bool}{A B:Prop}(ht:t=true->A->vc P G a s (run P G st K))(hf:t=false->B->vc P G b s (run P G st K))(h1:(t=true)=A:=by first|(simp only[jc];exact rfl)|exact rfl)(h2:(t=false)=B:=by first|(simp only[jc];exact rfl)|exact rfl):iY P G (.bool t) a b s st K:=
 bY (λh=>ht h (h1▸h)) λh=>hf h (h2▸h)
def gz{t w w':Bool}{dst:Option Nat}{op:BY}{r:List BI}{A B:Prop}(ht:t=w->A->er P G pu (⟨none,dst,op⟩::r) s KL)(hf:t=w'->B->er P G pu r (s.skip dst) KL)(hw:(!w)=w':=by(simp only[bO,bD];exact rfl))(h1:(t=w)=A:=by first|(simp only[jc];exact rfl)|exact rfl)(h2:(t=w')=B:=by first|(simp only[jc];exact rfl)|exact rfl):iD P G (.bool t) w dst op pu r s KL:=
 cY (λh=>ht h (h1▸h)) λh=>hf (h.trans hw) (h2▸h.trans hw)
end
def leR(a:V):V.Le a a=True:=tW (.refl a)
def leN(n:Nat):V.Le .aP (.sl n [])=True:=tW (.aP _)
def leI(a b:Int):V.Le (I a) (I b)=(a=b):=by
 apply propext;constructor
 .intro h;cases h;rfl
 .rintro rfl;exact .refl _
def aa0:(∀s,fQ s []=True)/\(∀s t v o r,fQ s ((t,v,o)::r)=((V.Le (s.Z t) v/\(o=true->s.fl t=true\/s.Z t=.aP))/\fQ s r))/\(∀s,fM s []=True)/\(∀s t r,fM s (t::r)=((s.fl t=true\/s.Z t=.aP)/\fM s r)):=
 ⟨λ_=>rfl,λ_ _ _ _ _=>rfl,λ_=>rfl,λ_ _ _=>rfl⟩
def ft:=(al (al (al @aa0 @mS) (al @leR (al @leN @leI))) (al (al @bK (al @cF @true_or)) (al (al @or_true @forall_const.{0}) (al @bM (al @jW @kM.{0})))))
def bn(s:St)(d:Nat)(u:V)(o:Bool):s.ret (some d) u o=s.put d u none o:=rfl
def A7(s:St)(u:V)(o:Bool):s.ret none u o=s:=rfl
def cO:(∀(s:St) E t,(s.base E).Z t=if(s.Z t).dW=true then .unk else s.Z t)/\(∀(s:St) E t,(s.base E).fl t=false)/\(∀(s:St) E i,(s.base E).G i=0)/\(∀(s:St) E,(s.base E).E=E)/\(∀(s:St) E i j,(s.base E).loc i j=[])/\
 (∀(s:St) E ps it,s.begin E ps it=(s.base E).wV ps it)/\(∀(s:St) p ps v vs,s.wV (p::ps) (v::vs)=(s.put p v none false).wV ps vs)/\(∀(s:St) vs,s.wV [] vs=s)/\(∀a b c,(V.A a b c).dW=true)/\(∀a b,(V.bp a b).dW=false)/\(∀a,(V.ep a).dW=false)/\(∀f c,(V.fn f c).dW=false):=
 ⟨λ_ _ _=>rfl,λ_ _ _=>rfl,λ_ _ _=>rfl,λ_ _=>rfl,λ_ _ _ _=>rfl,λ_ _ _ _=>rfl,λ_ _ _ _ _=>rfl,λ_ _=>rfl,λ_ _ _=>rfl,λ_ _=>rfl,λ_=>rfl,λ_ _=>rfl⟩
def gE:=(al (al @dq @bh) (al (al @bn @A7) (al (al @cw.{0} @cN.{0}) (al (al @cx.{0} @b8.{0}) @bQ.{1}))))
def sE:=al @da (al @bn (al @A7 @cO))
def sT{P:Prop}(h:P:=by first|(simp only[sE,simprocAttr]<;>first|assumption|rfl)|(simp only[sE,simprocAttr,bN,ce]<;>rfl)|rfl|assumption):P:=h
def ev{P:Prop}(h:P:=by first|(simp only[dL,simprocAttr]<;>rfl)|(simp only[dL,simprocAttr,bh,bn]<;>rfl)):P:=h
def ag{P:Prop}(h:P:=by repeat first|exact aN.nil|(refine aN.cons (aj ?_) ?_;first|(simp only[dL,simprocAttr]<;>rfl)|rfl)):P:=h
def Pj{P:Prop}(h:P:=by repeat first|exact aN.nil|refine aN.cons (.refl _) ?_|refine aN.cons (.aP _) ?_):P:=h
def fz{P:Prop}(h:P:=by first|(simp only[ft,simprocAttr]<;>omega)|(simp only[fQ,fM,bK,cF];and_intros<;>(try simp only[mS,simprocAttr])<;>first|with_reducible exact .refl _|exact .aP _|exact .inl trivial|(intro h;cases h;done)|(intro _;simp;done)|(refine aj (ar I ?_);omega)|(apply aj;simp[Cx];done))):P:=h
section
variable {P:Program}{G:Nat->Option (List V)}{s:St}{st:List Fr}{K:Ex->St->Prop}{b:BC}{α:Type}{D:List Nat}(p:α->Prop)(vals:α->List (Nat×V×Bool))(μ:α->Nat)(a0:α)
def sl(h0:p a0)(A8:∀a,p a->vc P G b (s.head D [] (vals a)) (run P G (.back (λs'=>∃a',Hd (p a')/\Hd (μ a'<μ a)/\fQ s' (vals a')/\fM s' [])::st) K))(_hD:nub [] b.iH=D:=by cbv)(hq:b.quiet=true:=by rfl)(hD:b.iH.all D.contains=true:=by rfl)(YS:D.all b.iH.contains=true:=by rfl)
 (hk:∀a,mN D (vals a)=true:=by exact λ_=>rfl) (hf:fQ s (vals a0):=by exact fz):vc P G (.loop b) s (run P G st K):=nw (bL:=[]) p vals μ a0 hq hD YS hk h0 hf trivial A8
def so{bL:List Nat}(h0:p a0)(A8:∀a,p a->vc P G b (s.head D bL (vals a)) (run P G (.back (λs'=>∃a',Hd (p a')/\Hd (μ a'<μ a)/\fQ s' (vals a')/\fM s' bL)::st) K))(_hD:nub [] b.iH=D:=by cbv)(hq:b.quiet=true:=by rfl)(hD:b.iH.all D.contains=true:=by rfl)(YS:D.all b.iH.contains=true:=by rfl)
 (hk:∀a,mN D (vals a)=true:=by exact λ_=>rfl) (hf:fQ s (vals a0):=by exact fz) (ho:fM s bL:=by exact fz):vc P G (.loop b) s (run P G st K):=nw p vals μ a0 hq hD YS hk h0 hf ho A8
def sk{bL:List Nat}(h0:p a0)(A8:∀a,p a->vc P G b (s.head D bL (vals a)) (run P G (.back (λs'=>∃a',Hd (p a')/\Hd (μ a'<μ a)/\fQ s' (vals a')/\fM s' bL/\Kept s s')::st) K))(_hD:nub [] b.iH=D:=by cbv)(hno:b.vC=true:=by rfl)(hD:b.iH.all D.contains=true:=by rfl)(YS:D.all b.iH.contains=true:=by rfl)
 (hk:∀a,mN D (vals a)=true:=by exact λ_=>rfl) (hf:fQ s (vals a0):=by exact fz) (ho:fM s bL:=by exact fz):vc P G (.loop b) s (run P G st K):=p6 hno p vals μ a0 hD YS hk h0 hf ho A8
end
def ba{α:Type}{p F:α->Prop}{μ:α->Nat}{m:Nat}(a:α)(h:p a)(hm:μ a<m:=by omega)(hf:F a:=by exact fz):∃a',Hd (p a')/\Hd (μ a'<m)/\F a':=⟨a,⟨h⟩,⟨hm⟩,hf⟩
def q1{s:St}{t:Nat}{u:V}{e:Ex}[NX e](hu:V.Le (s.Z t) u)(hl:(s.Z t).dW=false:=by rfl):(∀id,e≠.exit id)/\oq s [.tmp t] u false:=p7 rfl hl hu
def dtf:=al @wB @na
def om{P:Prop}(h:P:=by first|omega|(simp only[me];omega)):P:=h
def k9{G d:Prop}(h:d)(e:G=d:=by simp only[gE,simprocAttr];exact rfl):G:=e.mpr h
def qu{G d:Prop}(h:d)(e:G=d:=by simp(disch:=first|omega|(simp only[me];omega)) only[gE,simprocAttr];exact rfl):G:=e.mpr h
def sR{P Q:Prop}(h:Q)(e:Q=P:=by simp only[sE,simprocAttr]):P:=e.mp h
section
variable {s:St}{r r':BR}{rs:List BR}{u:V}{us:List V}
def rT{e:Ex}[NX e](h:hP s (r::r'::rs) us):(∀id,e≠.exit id)/\oq s (r::r'::rs) (.hE us) false:=⟨nE,Fh h⟩
def gt{t:Nat}(d:V.Le (s.Z t) u)(q:hP s rs us)(f:(s.Z t).dW=false:=by rfl):hP s (.tmp t::rs) (u::us):=.tmp rfl f d q
def gc{t n:Nat}{ag:Bool}{a:V}(d:V.Le a u)(q:hP s rs us)(h:dw s (.load ag n (.tmp t))=some a:=by simp only[dL,simprocAttr]<;>rfl)(f:a.dW=false:=by rfl):hP s (.cell t ag n::rs) (u::us):=.cell h f d q
end
attribute [local irreducible] vc er dr b4 bV run iD iY i1 i6 iQ i7 i2 iu iS i4 gB i3 cW
def jv(n:Int):Prop:= -9223372036854775808<=n/\n<=9223372036854775807
def iU(n a:Int):Int:=(if n<0 then -(n+1)else n).tmod a
def A9(n a:Int)(h:jv n)(d:a≠0):af 13 [I n,I a] (I (iU n a)):=by
 obtain⟨f,j⟩:=h;refine pk f13 ?_;repeat' first|simp(disch:=omega) only[dq,simprocAttr,d]|refine cs ?_ ?_<;>intro h|refine ec ?_|refine q1 ?_
 .exact aj (by
   have:n<0:=av;simp[iU,this])
 .exact aj (by
   have:¬n<0:=av;simp[iU,this])
def aa1:CF GL f50 [] [] 50:=ji
def W(l:List Int)(i a:Int):Int:=if i<0\/i>=l.length then 0 else iU (l.getD i.toNat 0) a
def jk(l:List Int)(i a:Int)(f:∀n∈l,jv n)(d:a≠0):af 50 [fx l,I i,I a] (I (W l i a)):=by
 refine pq aa1.ok rfl (by simp only[du]) ?_;repeat any_goals first|simp(disch:=try exact om) only[dq,simprocAttr,fx]|(first|refine cz ?_ ?_|refine gz ?_ ?_)<;>intro j h<;>try simp only[j]|refine lq (A9 (l[i.toNat]'av) a (f _ (ah _)) d) ?_|refine q1 ?_
 .exact aj (by simp[W];omega)
 .exact aj (by
   have:¬(i<0\/(l.length:Int)<=i):=by omega
   simp[W,this,ap,show i.toNat<l.length by omega])
 .exact aj (by simp[W];omega)
def Ep(a b:List T)(f:a.length<=1000000000):af 115 [e9 a,e9 b] (B (decide (a=b))):=by
 refine pk f115 ?_;repeat' first|simp only[dq,simprocAttr,e9]|refine cs ?_ ?_<;>intro h|refine q1 ?_
 .exact Ue
 have d:a.length=b.length:=av;refine sl (λk:Nat=>k<=a.length/\a.take k=b.take k) (λk=>[(5,I k,false)]) (λk=>a.length-k) (0) (⟨bR,bR⟩) ?_;rintro k ⟨j,he⟩;repeat' first|refine qu ?_|refine cs ?_ ?_<;>intro h|refine ba (k+1) ?_|refine q1 ?_
 .exact aj (by
   have:a≠b:=λe=>h (by subst e;rfl);simp[this])
 .exact⟨av,by rw[bj (l:=a) av,bj (l:=b) av];simp_all⟩
 .exact wc7
def iZ(m:Nat):List Nat:=if h:m=0 then []else m%256::iZ (m/256)
 termination_by m
 decreasing_by omega
def uz{m:Nat}(h:m≠0):iZ m=m%256::iZ (m/256):=by rw[iZ,dif_neg h]
def vb:iZ 0=[]:=by rw[iZ];rfl
def Qk:∀(m d:Nat),d∈iZ m->d<256:=by
 intro m;induction m using Nat.strongRecOn with
 |_ m ih=>
  intro d a;by_cases h:m=0
  .subst h;rw[vb]at a;cases a
  .rw[uz h]at a;rcases bC.1 a with rfl|a
   .omega
   .exact ih _ av d a
def r8:∀(k m:Nat),m<256^k->(iZ m).length<=k
 |0,m,h=>by
  have:m=0:=av;subst this;rw[vb];simp
 |k+1,m,h=>by
  by_cases hm:m=0
  .subst hm;rw[vb];simp
  .rw[uz hm,aM];have:m/256<256^k:=by rw[iz av,<-n5];exact h
   have:=r8 k _ this;omega
def jm(n:Int):Nat:=(if n<0 then -1-n else n).toNat
def cB(n:Int):T:=
 if n<0 then UInt8.ofNat (127-(iZ (jm n)).length)::(iZ (jm n)).reverse.map λd=>UInt8.ofNat (255-d)
 else UInt8.ofNat (128+(iZ (jm n)).length)::(iZ (jm n)).reverse.map λd=>UInt8.ofNat d
def rM{d:Nat}(h:d<256):((UInt8.ofNat d).toNat:Int)=d:=by
 rw[pD];omega
def gx(n:Int)(h:jv n):(cB n).length<=9:=by
 obtain⟨a,d⟩:=h;have:(iZ (jm n)).length<=8:=r8 8 _ (by unfold jm;split<;>omega);unfold cB;split<;>(simp only[aM,aq,oM];omega)
def cZ(l:List Int):T:=cB l.length++l.flatMap cB
def dD(s:T):T:=cB s.length++s
def g2(l:List T):T:=cB l.length++l.flatMap dD
def mD(s:T)(h:s.length<=1000000000):(dD s).length<=s.length+9:=by
 have:=gx s.length (by unfold jv;omega);simp only[dD,ae];omega
def lc{α β:Type}(f:α->List β)(k:Nat):∀(l:List α),(∀x∈l,(f x).length<=k)->(l.flatMap f).length<=k*l.length
 |[],_=>bR
 |x::r,h=>by
  have d:=lc f k r (λy a=>h y (by simp[a]));have j:=h x bR;simp only[cf,ae,aM,qw];omega
def sK{α β:Type}(f:α->List β){l:List α}{k:Nat}(h:k<l.length):(l.take (k+1)).flatMap f=(l.take k).flatMap f++f l[k]:=by
 rw[bj h,cg];simp
end Go.Bx
