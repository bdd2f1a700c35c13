/- HistoryBegins: for every list of integers and every number the law's function returns true, does not panic, and its arguments read as they did. Conditions: those of the given row alone. -/
import Derived.Test.YtmbahmpbmcfifaaGreatDoorCh
import Derived.Test.YtmbahmpbmcfifaaGreatDoorCu
noncomputable section
set_option linter.all false
set_option maxHeartbeats 4000000
set_option maxRecDepth 100000
namespace Go.Bx
open Go.Proofs Go.Proofs.Tryz
attribute [local irreducible] vc er dq b4 bU run iw iI iW i1 iG i2 iX iq iH iZ gA iY cS
def jE.cells{h:aK}{id:Nat}{cells a:List V}(hx:h.box id=some cells)(f:h9 jH cells a):jE jH h {h with box:=eQ h.box id (some a)} where
 CU _ _ e:=by cases e
 box i cs e:=by
  by_cases d:i=id
  .subst d;rw[show(({h with box:=eQ h.box i (some a)}:aK).box i)=some a from bh _ _ _]at e;cases e;exact⟨rfl,cells,hx,f⟩
  .rw[show(({h with box:=eQ h.box id (some a)}:aK).box i)=h.box i from bD _ _ d]at e;exact⟨rfl,cs,e,h9.refl _⟩
 fl i k e:=.inl ⟨e,.inl λ_ _ _ _=>.inl λ_=>rfl⟩
 mp i m e:=⟨m,e,.refl m⟩
 Y:=an _
def zY:List Op:=[iT,{iT with kind:=1,bN:=[79,100,101,115]},{iT with kind:=2,bN:=[116,104,101,32,107,105,110,103]},iT,{iT with kind:=4,W:=⟨0,2,0⟩,n:=1},{iT with kind:=3,W:=⟨0,4,1⟩},iT]
def CH(k:Nat):aW:={pi 0 (if k=3\/k=6 then 1 else 0)with seq:=k,eo:=k+1,op:=zY.getD k iT}
def CI:List aW:=(List.range 7).map CH
def opR(o:Op):V:=.agg [I o.kind,I o.W.J,I o.W.seq,I o.W.k,I o.to.J,I o.to.seq,I o.to.k,I o.spot.i9,I o.spot.k0,I o.spot.idx,I o.n,I o.eD,I o.en,S o.bN,.aP,.aP,.aP]
def I0(e:aW):V:=.agg [I e.J,I e.seq,I e.eo,I e.kind,.aP,I e.op.kind,I e.op.W.J,I e.op.W.seq,I e.op.W.k,I e.op.to.J,I e.op.to.seq,I e.op.to.k,I e.op.spot.i9,I e.op.spot.k0,I e.op.spot.idx,I e.op.n,I e.op.eD,I e.op.en,S e.op.bN,.aP,.aP,.aP,S [],I 0,I 0,S [],.aP,I 0,I 0,I 0,.aP,I 0]
def h9.append{fz:aj}{a b c d:List V}(h:h9 fz a b)(p:h9 fz c d):h9 fz (a++c) (b++d):=by
 refine⟨by rw[ae,ae,h.1,p.1],λj x y l o=>?_⟩;rcases am j a.length with f|f
 .rw[dH f]at l;rw[dH (by rw[<-h.1];exact f)]at o;exact h.2 j x y l o
 .rw[dR f]at l;rw[dR (by rw[<-h.1];exact f),<-h.1]at o;exact p.2 _ x y l o
def Mg(k:Nat):(zY.getD k iT).F=[]/\(zY.getD k iT).cW=[]/\(zY.getD k iT).C=[]:=by
 match k with
 |0|1|2|3|4|5|6=>exact⟨rfl,rfl,rfl⟩
 |k+7=>exact⟨rfl,rfl,rfl⟩
def Wj(k:Nat):h9 jH (I0 (CH k)).cells (CH k).v.cells:=by
 obtain⟨a,d,f⟩:=Mg k;unfold I0 CH pi;simp only[aW.v,V.cells,a,d,f];repeat' first|exact h9.nil|refine h9.cons (.refl _) ?_|refine h9.cons (.aP _) ?_
def Pt(n:Nat)(rest:List V):h9 jH (b9 (((List.range n).map CH).map I0)++rest) (b9 (((List.range n).map CH).map aW.v)++rest):=by
 refine h9.append ?_ (.refl _);induction n with
 |zero=>exact h9.refl _
 |succ n ih=>
  rw[dX];simp only[az,fU,bt,cV];refine h9.append ih ?_;have:∀v:V,b9 [v]=v.cells:=λv=>by simp[b9]
  rw[this,this];exact Wj n
def abS:CF GL f71 [39,40] [] 71:=jo
def Wk(E:aK):aI 71 [] E λv _ a=>gu 32 a v (CI.map aW.v)/\bA none E a/\∀i,bI v=some i->E.Y<=i:=by
 refine eN hm abS.ok (bE rfl) ?_;repeat' simp only[gE,simprocAttr]
 refine dT rfl rfl (λ(k:Nat) y=>k<=7/\y.Z 3=I k/\gu 32 y.E (y.Z 2) (((List.range k).map CH).map I0)/\bA none E y.E/\∀i,bI (y.Z 2)=some i->E.Y<=i) (λk=>7-k) 0 ?_ ?_
 .refine⟨aL _,?_,?_,?_,?_⟩
  .exact sT
  .simp only[sE];exact gu.nil
  .simp only[sE];exact bA.T0 _
  .simp only[sE];intro i hi;cases hi
 rintro k y ⟨a9,o,P,u4,u5⟩ j;have u:y.Z 1=.sl 17 (zY.map opR):=(j 1 du).trans sT;clear j;have D:zY.length=7:=rfl;obtain⟨p,q⟩:∃v,y.Z 2=v:=⟨_,rfl⟩;rw[q]at P u5;have A:=P.one;have aD:=P.gD;rcases am k 7 with h1|h1
 .have a0:zY.getD k iT=zY[k]:=by rw[ap,aa (by rw[D];exact h1)];rfl
  have key:∀z:Int,(if k=3\/k=6 then 1 else 0)=z->I0 (CH k)=.agg [I 0,I k,I (k+1),I z,.aP,I zY[k].kind,I zY[k].W.J,I zY[k].W.seq,I zY[k].W.k,I zY[k].to.J,I zY[k].to.seq,I zY[k].to.k,I zY[k].spot.i9,I zY[k].spot.k0,I zY[k].spot.idx,I zY[k].n,I zY[k].eD,I zY[k].en,S zY[k].bN,.aP,.aP,.aP,S [],I 0,I 0,S [],.aP,I 0,I 0,I 0,.aP,I 0]:=λz a1=>by
   unfold I0 CH pi;rw[a0];simp only[a1]
  have a2:(List.range (k+1)).map CH=(List.range k).map CH++[CH k]:=by rw[dX,az];rfl
  have done:∀(d:V)(a:aK),gu 32 a d (((List.range k).map CH).map I0++[I0 (CH k)])->bA (bI p) y.E a->(bI d=bI p\/bI d=some y.E.Y)->gu 32 a d (((List.range (k+1)).map CH).map I0)/\bA none E a/\∀i,bI d=some i->E.Y<=i:=λd a a3 m2 m3=>by
   refine⟨by rw[a2,az];exact a3,⟨λi hi _=>?_,λi hi=>?_,aT u4.Y m2.Y⟩,λi hi=>?_⟩
   .exact aaY
   .rw[m2.mp i (bj hi u4.Y)];exact u4.mp i hi
   .exact Yh
  by_cases ac:k=3\/k=6
  .rw[ax ac]at key;have Q:=key 1 rfl;rcases ac with rfl|rfl
   .repeat' first|simp(disch:=try exact om) only[gE,simprocAttr,o,u,q,A,h1,D,au,dK,opR]|refine cs ?_ ?_<;>intro h<;>try exact absurd trivial h
    refine ei ?_;repeat' simp only[gE,simprocAttr,o,u,q,A]
    refine iR (xs:=((List.range 3).map CH).map I0) (ys:=[I0 (CH 3)]) ?_ ?_ ?_ ?_ ?_ rfl ?_ ?_ λd a f hb hi=>?_
    .exact sT
    .simp only[sE];rw[Q];rfl
    .intro y j;simp at j;subst j;rfl
    .exact sT
    .simp only[sE];intro l H;cases H
    .exact Up
    .intro _ K;cases K
    have r:bA (bI p) y.E a:=sR hb;have t:bI d=bI p\/bI d=some y.E.Y:=sR hi;obtain⟨z1,z2,z3⟩:=done d a f r t;have L:=f.one;have N:=f.gD;repeat' simp(disch:=omega) only[gE,simprocAttr,o,L,N]
    refine⟨3+1,⟨?_⟩,⟨av⟩⟩;exact Ud
   .repeat' first|simp(disch:=try exact om) only[gE,simprocAttr,o,u,q,A,h1,D,au,dK,opR]|refine cs ?_ ?_<;>intro h<;>try exact absurd trivial h
    refine ei ?_;repeat' simp only[gE,simprocAttr,o,u,q,A]
    refine iR (xs:=((List.range 6).map CH).map I0) (ys:=[I0 (CH 6)]) ?_ ?_ ?_ ?_ ?_ rfl ?_ ?_ λd a f hb hi=>?_
    .exact sT
    .simp only[sE];rw[Q];rfl
    .intro y j;simp at j;subst j;rfl
    .exact sT
    .simp only[sE];intro l H;cases H
    .exact Up
    .intro _ K;cases K
    have r:bA (bI p) y.E a:=sR hb;have t:bI d=bI p\/bI d=some y.E.Y:=sR hi;obtain⟨z1,z2,z3⟩:=done d a f r t;have L:=f.one;have N:=f.gD;repeat' simp(disch:=omega) only[gE,simprocAttr,o,L,N]
    refine⟨6+1,⟨?_⟩,⟨av⟩⟩;exact Ud
  .rw[al ac]at key;have Q:=key 0 rfl;have aA:(k:Int)≠3:=av;have aB:(k:Int)≠6:=av;repeat' first|simp(disch:=try exact om) only[gE,simprocAttr,o,u,q,A,h1,D,au,dK,opR]|refine cs ?_ ?_<;>intro h<;>try omega
   refine ei ?_;repeat' first|simp only[gE,simprocAttr,o,u,q,A,aA,aB]|(first|refine cz ?_ ?_|refine gz ?_ ?_)<;>intro a4 h<;>(try simp only[a4])<;>try omega
   refine iR (xs:=((List.range k).map CH).map I0) (ys:=[I0 (CH k)]) ?_ ?_ ?_ ?_ ?_ rfl ?_ ?_ λd a f hb hi=>?_
   .exact sT
   .simp only[sE];rw[Q];rfl
   .intro y j;simp at j;subst j;rfl
   .exact sT
   .simp only[sE];intro l H;cases H
   .exact Up
   .intro _ K;cases K
   have r:bA (bI p) y.E a:=sR hb;have t:bI d=bI p\/bI d=some y.E.Y:=sR hi;obtain⟨z1,z2,z3⟩:=done d a f r t;have L:=f.one;have N:=f.gD;repeat' simp(disch:=omega) only[gE,simprocAttr,o,L,N]
   refine⟨k+1,⟨?_⟩,⟨av⟩⟩;exact Ud
 .obtain rfl:k=7:=av;repeat any_goals first|simp only[gE,simprocAttr,o,u,q,A,D,au]|refine bZ ?_ ?_<;>intro h<;>(try simp only[h])<;>try simp only[jg]at h
  obtain⟨a7,⟨ad,ai⟩|⟨ab,a5,rest,ad,dW,eh,aC,R⟩⟩:=id P
  .cases ai
  have a8:=u5 ab (by rw[ad];rfl);refine⟨nE,p,_,jH,_,p,false,bC (by simp only[da,simprocAttr,bQ]) aD,jE.cells eh (Pt 7 rest),.refl _,λh=>(by cases h),⟨lG.map (λy=>rfl) _,.inr ⟨ab,a5,rest,ad,dW,bh _ _ _,aC,R⟩⟩,⟨λi hi a6=>?_,u4.mp,u4.Y⟩,u5⟩;exact(bD _ _ (by omega)).trans (u4.box i hi a6)
def Kx.none(t:Int):Kx [] t:={Kx.nil with tlt:=λ_ h=>(by cases h),g6:=λ_ _ h=>(by cases h)}
def Hh{e:aW}(h:e.good)(s:Int)(hb:0<=e.J/\e.J<=5)(j:e.C=[])(l:0<=s/\s<=60):aW.good {e with seq:=s}:=
 {
  h with
  enc:={h.enc with
   head:=by
    intro n d;simp only[bn,cE,gL]at d;rcases d with rfl|rfl|rfl|rfl
    .exact h.enc.head _ bT
    .unfold jG;omega
    .exact h.enc.head _ bT
    .exact h.enc.head _ bT}
  plain:=⟨h.plain.op,h.plain.dy,h.plain.id,h.plain.cU,h.plain.n,h.plain.pid⟩
  name:=dk (by show 0<=e.J/\e.J<=5/\0<=s/\s<=63;omega)
  Sd:=λa (f:a∈e.C)=>by rw[j]at f;cases f}
def pb(k:Nat):(zY.getD k iT).small:=by
 have a:=nz
 match k with
 |0=>exact a
 |1=>exact {a with kind:=du,bN:=by decide}
 |2=>exact {a with kind:=du,bN:=by decide}
 |3=>exact a
 |4=>exact {a with kind:=du,W:=by unfold qb;decide,n:=by decide}
 |5=>exact {a with kind:=du,W:=by unfold qb;decide}
 |6=>exact a
 |k+7=>exact a
def vw{o:Op}(a:o.small)(s t:Int)(d:0<=s/\s<=60)(f:1<=t/\t<=1000000):aW.good {pi 0 0 with seq:=s,eo:=t,op:=o}:=
 Hh (CB (Kx.none t) f bT (IT (b:=0) av a)) s (by show(0:Int)<=0/\(0:Int)<=5;omega) rfl d
def Hi(s t:Int)(a:0<=s/\s<=60)(d:1<=t/\t<=1000000):aW.good {pi 0 1 with seq:=s,eo:=t}:=
 Hh (CB (Kx.none t) d bT (s8 (b:=0) av (.inr rfl))) s (by show(0:Int)<=0/\(0:Int)<=5;omega) rfl a
def Pu(k:Nat)(a:k<7):(CH k).good:=by
 match k,a with
 |0,_=>exact vw (pb 0) 0 1 du du
 |1,_=>exact vw (pb 1) 1 2 du du
 |2,_=>exact vw (pb 2) 2 3 du du
 |3,_=>exact Hi 3 4 du du
 |4,_=>exact vw (pb 4) 4 5 du du
 |5,_=>exact vw (pb 5) 5 6 du du
 |6,_=>exact Hi 6 7 du du
def ex5:aW:={CH 5 with op:={zY.getD 5 iT with W:=⟨0,2,0⟩}}
def pP:List aW:=CI.set 5 ex5
def u6:List aW:=CI.take 3++pP.drop 4
def Mh:Op.small {zY.getD 5 iT with W:=⟨0,2,0⟩}:={pb 5 with W:=by unfold qb;decide}
def Pv:ex5.good:=vw Mh 5 6 du du
def xT:∀e∈CI,e.good:=λe a=>by
 obtain⟨k,d,rfl⟩:=cB.1 a;exact Pu k (dm.1 d)
def yJ:∀e∈pP,e.good:=λe a=>by
 rcases cN a with h|rfl
 .exact xT e h
 .exact Pv
def Mi:∀e∈u6,e.good:=λe a=>by
 rcases aN.1 a with h|h
 .exact xT e (dQ h)
 .exact yJ e (jJ h)
def CJ:gj CI=CI:=by decide+kernel
def yK:gj pP=pP:=by decide+kernel
def Eo:gj u6=u6:=by decide+kernel
def tf(l:List aW)(k:Nat):Prop:=fN (m4 (l.take k)) (l.getD k (pi 0 0)).name=none/\(l.getD k (pi 0 0)).seq=(fN (m5 (l.take k)) (l.getD k (pi 0 0)).J).getD 0/\
 (0< (fN (m5 (l.take k)) (l.getD k (pi 0 0)).J).getD 0->(fN (m6 (l.take k)) (l.getD k (pi 0 0)).J).getD 0< (l.getD k (pi 0 0)).eo)/\(l.getD k (pi 0 0)).C=[]
def wM{l:List aW}{k:Nat}(d:k<l.length)(h:tf l k):qN (l.take k) l[k]:=by
 unfold tf at h;rw[ap,aa d]at h;obtain⟨f,j,o,p⟩:=h;exact⟨f,j,o,λr a=>by rw[show l[k].C=[]from p]at a;cases a⟩
instance (l:List aW)(k:Nat):Decidable (tf l k):=by unfold tf;infer_instance
def tg:CI.length=7:=by decide+kernel
def u7:pP.length=7:=by decide+kernel
def xU:u6.length=6:=by decide+kernel
def I1:oz CI:=λk h=>wM h ((by decide+kernel:∀k,k<7->tf CI k) k (tg▸h))
def Hj:oz pP:=λk h=>wM h ((by decide+kernel:∀k,k<7->tf pP k) k (u7▸h))
def S5(k:Nat)(h:k<u6.length)(a:k<3):qN (u6.take k) u6[k]:=wM h ((by decide+kernel:∀k,k<3->tf u6 k) k a)
def Mj(rest:List V):aQ (b9 (CI.map aW.v)++rest) 166 [I 0,I 2,I 0]=b9 (pP.map aW.v)++rest:=by kernel_rfl
def I2(rest:List V):aQ (b9 (pP.map aW.v)++rest) 96 (((b9 (pP.map aW.v)++rest).drop 128).take 96)=b9 (u6.map aW.v)++(b9 ((pP.drop 6).map aW.v)++rest):=by kernel_rfl
def Mk:(b9 (pP.map aW.v)).length=224:=by kernel_rfl
def I3:(b9 ((pP.drop 6).map aW.v)).length=32:=by kernel_rfl
def tj:3< (gj u6).length:=by decide+kernel
def Pw:fN (m4 ((gj u6).take 3)) ((gj u6)[3]'tj).name=none/\((gj u6)[3]'tj).seq≠(fN (m5 ((gj u6).take 3)) ((gj u6)[3]'tj).J).getD 0:=by decide+kernel
def Ml:∀e∈CI,e.op.cW.length<=16:=by decide+kernel
def I4:∀e∈pP,e.op.cW.length<=16:=by decide+kernel
def I5:(kF (xQ (k5 CI).next)).length=2:=by decide+kernel
def Mm:qQ (k5 CI) 0 1=[⟨⟨0,2,0⟩,⟨0,4,0⟩⟩]:=by decide+kernel
def Mn:fN (k5 CI).left ⟨0,2,0⟩=some ⟨0,4⟩:=by decide+kernel
def Mo:fN (k5 CI).left ⟨0,4,1⟩=some ⟨0,5⟩:=by decide+kernel
def Mp:fN (k5 CI).left ⟨0,4,0⟩=none:=by decide+kernel
def S6:(k5 CI).hL.length=2:=by decide+kernel
def Px:(k5 CI).void=[]:=by decide+kernel
def Mq:(k5 pP).void=[⟨0,5⟩]:=by decide+kernel
end Go.Bx
namespace Go.Bx
open Go.Proofs Go.Proofs.Tryz
def Py{P:Program}{GL:aj}{pu:Bool}{s:St}{K:St->Prop}{i:BI}{p:k6}(h:bU P GL pu (.one true i p) s K):bU P GL pu (.alt i p .stop) s K:=⟨h,trivial⟩
def S7{P:Program}{GL:aj}{d:Option Nat}{pu:Bool}{r:List BI}{K:St->Prop}{s:St}{zs cells:List V}{x y:eL}{h0:aK}{xP cp c2:Nat}(a:s.E=h0)(hx:s.val x=.ms 32 xP 0 3 cp)(f:s.val y=.ms 32 xP 128 3 c2)
 (hb:h0.box xP=some cells) (l:224<=cells.length) (j:6<=cp) (h:gA P GL d pu r s K (.ms 32 xP 0 6 cp) false (h0.wr xP cells 96 ((cells.drop 128).take 96))):(MX.wn 32 zs x y).wp s (gA P GL d pu r s K):=by
 subst a;simp only[MX.wp,hx,f,na,qo,bP,aK.cells,hb];rw[al du,ax av];refine⟨du,?_⟩;rw[al du,ax j];exact⟨cells,hb,av,h⟩
attribute [local irreducible] vc er dq b4 bU run iw iI iW i1 iG i2 iX iq iH iZ gA iY cS
def abT:CF GL f20 [130] [1,2,5,6,7,8,9,10,13,14,17] 20:=jo
def Wl:af 20 [] (B true):=by
 refine Pure.gg (by simp only[dx]) (by simp only[dx]) ?_;have a9:=Wk aK.bare;have F:(k5 CI).fit:=xS (by rw[tg];decide) xT Ml;have cb:(k5 pP).fit:=xS (by rw[u7];decide) yJ I4;have bi:=I5;have cc:=Mm;have ch:=Mn;have ci:=Mo;have R:=Mp;have bl:=S6;have c1:=Px;have c5:=Mq;refine bq abT.ok rfl ?_;repeat' simp only[gE,simprocAttr]
 refine bz (h0:=aK.bare) sT a9 sT .nil ?_;rintro v _ bo ⟨z,c6,_⟩;have f:=z.one;have d:=z.gD;have bs:=z.len;rw[au]at bs;have bu:=FD bo v f d CI bs (KA.ms du (by rw[tg];decide) z) (by rw[tg];decide) (by rw[CJ];exact xT) (by rw[CJ];exact I1);repeat' simp only[gE,simprocAttr,f,d]
 refine bz (h0:=bo) (by simp only[da,simprocAttr,bQ]) bu (by simp only[bR,cm,da,simprocAttr,bx,bQ,d];try rfl) (aV.cons (ak (by simp only[ee,simprocAttr,bx,bQ,d]<;>rfl)) .nil) ?_;rintro _ _ bv ⟨p,q,rfl,r,bY⟩;rw[CJ]at r ⊢
 rw[tg];generalize k5 CI=H at*
 have a:(H.v p q).one=true:=rfl;have c7:ry false (H.v p q) V.lv=some (.bool false):=rfl;have aB:=IS bv H p q r F.Hs F.edp F.Wg 0 1 (by rw[bl];decide) du;rw[cc]at aB;repeat' simp(disch:=try exact om) only[gE,simprocAttr,f,d,a,c7]
 refine bz (h0:=bv) sT aB sT (aV.cons (ak (by simp only[ee,bx,bQ,a]<;>rfl)) (aV.cons (ak (by simp only[ee,bx,bQ,a]<;>rfl)) (aV.cons (ak (by simp only[ee,bx,bQ,a]<;>rfl)) .nil))) ?_;rintro _ _ b2 ⟨rfl,A⟩;have aC:=V5 b2 H p q (r.mono A) (by rw[Pn];have:=F.Wg;omega);generalize kF (xQ H.next)=D at bi aC;repeat' simp(disch:=try exact om) only[gE,simprocAttr,f,d,a]
 refine bz (h0:=b2) sT aC sT (aV.cons (ak (by simp only[ee,bx,bQ,a]<;>rfl)) .nil) ?_;rintro _ _ l ⟨rfl,K⟩;have aD:=Cx l H p q (r.mono (A.o9 K)) ⟨0,2,0⟩;have a0:=Cx l H p q (r.mono (A.o9 K)) ⟨0,4,1⟩;have a1:=Cx l H p q (r.mono (A.o9 K)) ⟨0,4,0⟩;rw[ch]at aD;rw[ci]at a0;rw[R]at a1;repeat' simp only[gE,simprocAttr,f,d,a]
 refine bz (h0:=l) sT aD sT (aV.cons (ak (by simp only[ee,bx,bQ,a]<;>rfl)) (aV.cons (ak (by simp only[ee,bx,bQ,a]<;>rfl)) .nil)) ?_;rintro _ _ L ⟨rfl,j⟩;rw[j];clear j;repeat' simp(disch:=try exact om) only[gE,simprocAttr,f,d,a,Name.v]
 refine bz (h0:=l) sT a0 sT (aV.cons (ak (by simp only[ee,bx,bQ,a]<;>rfl)) (aV.cons (ak (by simp only[ee,bx,bQ,a]<;>rfl)) .nil)) ?_;rintro _ _ L ⟨rfl,j⟩;rw[j];clear j;repeat' simp(disch:=try exact om) only[gE,simprocAttr,f,d,a,Name.v]
 refine bz (h0:=l) sT a1 sT (aV.cons (ak (by simp only[ee,bx,bQ,a]<;>rfl)) (aV.cons (ak (by simp only[ee,bx,bQ,a]<;>rfl)) .nil)) ?_;rintro _ _ L ⟨rfl,j⟩;rw[j];clear j;have a2:=yH l H p q;have a3:=O2 l H p q (by have:=F.void;omega);rw[bl]at a2;rw[c1]at a3;repeat' simp(disch:=try exact om) only[gE,simprocAttr,f,d,a,Name.v,cI.v,Option.getD,Option.isSome,bi]
 refine bz (h0:=l) sT a2 sT (aV.cons (ak (by simp only[ee,bx,bQ,a]<;>rfl)) .nil) ?_;rintro _ _ L ⟨rfl,j⟩;rw[j];clear j;repeat' simp only[gE,simprocAttr,f,d,a]
 refine bz (h0:=l) sT a3 sT (aV.cons (ak (by simp only[ee,bx,bQ,a]<;>rfl)) .nil) ?_;rintro _ _ L ⟨rfl,j⟩;rw[j];clear j;have b3:=(bY.o9 A).o9 K;have b5:=bA.WD z b3;obtain⟨ac,⟨t,a4⟩|⟨xP,cp,rest,t,dW,eh,ad,u⟩⟩:=id b5
 .cases a4
 rw[au,tg]at t ad u;have c9:=dV ac;rw[au,tg]at c9;have dd:169<=(b9 (CI.map aW.v)++rest).length:=by rw[ae];omega
 repeat' simp(disch:=omega) only[gE,simprocAttr,f,d,a,t]
 refine cJ (n:=3) (off:=166) (cells:=b9 (CI.map aW.v)++rest) ?_ ?_ dd λN te tc tl tb tm df eb=>?_
 .exact sT
 .exact sT
 have ai:N.E.box=eQ l.box xP (some (b9 (pP.map aW.v)++rest)):=tb.trans (by simp only[sE,simprocAttr];rw[<-Mj]);have b6:N.E.Y=l.Y:=df.trans sT;have b7:gu 32 N.E (.ms 32 xP 0 7 cp) (pP.map aW.v):=⟨lG.map (λy=>rfl) _,.inr ⟨xP,cp,rest,rfl,by rw[b6];exact dW,by rw[ai,bh],ad,u⟩⟩;have dr:=FD N.E (.ms 32 xP 0 7 cp) rfl rfl pP rfl (KA.ms du (by rw[u7];decide) b7) (by rw[u7];decide) (by rw[yK];exact yJ) (by rw[yK];exact Hj);repeat' simp only[gE,simprocAttr,f,d,a,t,te,tc,tl]
 refine bz (h0:=N.E) sT dr sT (aV.cons (ak (by simp only[ee,bx,bQ,te,t]<;>rfl)) .nil) ?_;rintro _ _ ab ⟨a5,a6,rfl,ds,a7⟩;rw[yK]at ds ⊢
 rw[u7];generalize k5 pP=a8 at*
 have o:(a8.v a5 a6).one=true:=rfl;have dE:ry false (a8.v a5 a6) V.lv=some (.bool false):=rfl;have m4:=bA.WD b7 a7;clear a9 c6 z bu r bY aB A aC K aD a0 a1 a2 a3 b3 b5 ac eh;have R:xP<ab.Y/\ab.box xP=some (b9 (pP.map aW.v)++rest):=⟨by have:=a7.Y;omega,by rw[a7.box xP av bT,ai,bh]⟩;repeat' simp(disch:=try exact om) only[gE,simprocAttr,f,d,a,t,o,te,tc,tl]
 refine Py ?_;repeat' simp only[gE,simprocAttr,f,d,a,t,o,te,tc,tl]
 refine S7 (h0:=ab) (xP:=xP) (cp:=cp) (c2:=cp-4) (cells:=b9 (pP.map aW.v)++rest) ?_ ?_ ?_ R.2 (by rw[ae,Mk];omega) av ?_
 .exact sT
 .exact sT
 .simp only[sE];try rfl
 obtain⟨P,Q⟩:∃P,ab.wr xP (b9 (pP.map aW.v)++rest) 96 (((b9 (pP.map aW.v)++rest).drop 128).take 96)=P:=⟨_,rfl⟩;have m5:gu 32 P (.ms 32 xP 0 6 cp) (u6.map aW.v):=by
  refine⟨lG.map (λy=>rfl) _,.inr ⟨xP,cp,b9 ((pP.drop 6).map aW.v)++rest,rfl,by rw[<-Q];exact R.1,?_,by rw[au,xU];omega,?_⟩⟩
  .rw[<-Q];simp only[aK.wr,aK.set,bh];rw[I2]
  .rw[ae,au,xU,I3];omega
 rw[Q];have d10:=Wf P (.ms 32 xP 0 6 cp) rfl rfl u6 rfl (KA.ms du (by rw[xU];decide) m5) (by rw[xU];decide) 3 tj (by rw[Eo];exact Mi) (by rw[Eo];exact λk h dU=>S5 k h dU) Pw;repeat' simp only[gE,simprocAttr,f,d,a,o,te,tc,tl]
 refine Py ?_;repeat' simp only[gE,simprocAttr,f,d,a,o,te,tc,tl]
 refine bz (h0:=P) sT d10 sT (aV.cons (ak (by simp only[ee,bx,bQ,te]<;>rfl)) .nil) ?_;rintro _ _ ca ⟨rfl,ed⟩;have ea:ry true V.lv V.lv=some (.bool false):=rfl;have d11:=O2 ca a8 a5 a6 (by have:=cb.void;omega);rw[c5]at d11;have aA:=Vc [⟨0,5⟩] [⟨0,5⟩] du;rw[dk rfl]at aA;repeat' simp(disch:=try exact om) only[gE,simprocAttr,f,d,a,o,te,tc,tl,dE,ea]
 refine bz (h0:=ca) sT d11 sT (aV.cons (ak (by simp only[ee,bx,bQ,te]<;>rfl)) .nil) ?_;rintro _ _ L ⟨rfl,j⟩;rw[j];clear j;repeat' first|simp only[gE,simprocAttr,f,d,a,o,te,tc,tl,Name.v]|refine lq aA ?_
 exact⟨nE,_,_,bC rfl rfl,rfl,by rfl⟩
def aaK:CF GL f30 [] [2,4,5,6,7,13,14] 30:=jo
def S8(E:aK)(G H:gm)(l o r A:Nat)(F:G.fit)(L:H.fit)(R:G.pre H)(bs:G.maps E l o)(bu:H.maps E r A):
 aI 30 [G.v l o,H.v r A] E λu _ a3=>u=B true/\bA none E a3:=by
 refine bq aaK.ok rfl ?_;have a:(G.v l o).one=true:=rfl;have d:(H.v r A).one=true:=rfl;have ca:=F.hL;repeat' simp only[gE,simprocAttr,a,d]
 refine dT rfl rfl (λ(k:Nat) y=>k<=G.hL.length/\y.Z 5=I k/\bA none E y.E) (λk=>G.hL.length-k) 0 ?_ ?_
 .exact⟨aL _,by simp only[sE,simprocAttr],by(simp only[sE,simprocAttr]);exact bA.T0 _⟩
 rintro k y ⟨cb,f,a4⟩ aB;have j:y.Z 0=G.v l o:=(aB 0 du).trans sT;have p:y.Z 1=H.v r A:=(aB 1 du).trans sT;clear aB;have bv:=yH y.E G l o;repeat' simp only[gE,simprocAttr,f,j,p,a,d]
 refine bz (h0:=y.E) sT bv sT (aV.cons (ak (by simp only[ee,bx,bQ,j]<;>rfl)) .nil) ?_;rintro _ _ a5 ⟨rfl,D⟩;rw[D];clear D;rcases am k G.hL.length with q|q
 .have K:=ah q;have a6:=IR y.E G l o k F.Hs;rw[tZ ⟨av,av⟩]at a6;have c3:=IR y.E H r A k L.Hs;have ai:=bj q R.len;rw[tZ ⟨av,av⟩]at c3;simp only[bX,R.hL k q]at c3;have c4:=Pr y.E G l o k q F.edl (λe aC t aD=>(F.edt e aC t aD).2.2.1);have a0:=Vv G.hL[k].1 G.hL[k].1 (F.Hs _ K);have a7:=Vq G.hL[k].2 G.hL[k].2 (by have:=F.edl _ K;omega) (F.edt _ K);rw[dk rfl]at a0 a7;have a1:(G.hL[k]'av).1.v=.agg [cf G.hL[k].1.O]:=rfl;rw[a1]at a0;repeat' first|simp only[gE,simprocAttr,f,j,p,a,d]|(first|refine cz ?_ ?_|refine gz ?_ ?_)<;>intro a2 h<;>(try simp only[a2])<;>try omega
  refine bz (h0:=y.E) sT a6 sT (aV.cons (ak (by simp only[ee,bx,bQ,j]<;>rfl)) (aV.cons (ak (by simp only[ee,bx,bQ,f]<;>rfl)) .nil)) ?_;rintro _ _ a5 ⟨rfl,D⟩;rw[D];clear D;repeat' simp(disch:=try exact om) only[gE,simprocAttr,f,j,p,a,d,a1]
  refine bz (h0:=y.E) sT c3 sT (aV.cons (ak (by simp only[ee,bx,bQ,p]<;>rfl)) (aV.cons (ak (by simp only[ee,bx,bQ,f]<;>rfl)) .nil)) ?_;rintro _ _ a5 ⟨rfl,D⟩;rw[D];clear D;repeat' simp(disch:=try exact om) only[gE,simprocAttr,f,j,p,a,d,a1]
  refine bz (h0:=y.E) sT c4 sT (aV.cons (ak (by simp only[ee,bx,bQ,j]<;>rfl)) (aV.cons (ak (by simp only[ee,bx,bQ,f]<;>rfl)) .nil)) ?_;rintro _ _ a8 ⟨rfl,bY⟩;have a9:=Pr a8 H r A k ai L.edl (λe aC t aD=>(L.edt e aC t aD).2.2.1);rw[R.hL k q]at a9;repeat' simp(disch:=try exact om) only[gE,simprocAttr,f,j,p,a,d]
  refine bz (h0:=a8) sT a9 sT (aV.cons (ak (by simp only[ee,bx,bQ,p]<;>rfl)) (aV.cons (ak (by simp only[ee,bx,bQ,f]<;>rfl)) .nil)) ?_;rintro _ _ cc ⟨rfl,b2⟩;have b3:=(a4.o9 bY).o9 b2;repeat' first|simp(disch:=try exact om) only[gE,simprocAttr,f,j,p,a,d]|refine lq a0 ?_|refine lq a7 ?_
  refine dT rfl rfl (λ(i:Nat) z=>i<=k+1/\z.Z 14=I i/\bA none E z.E) (λi=>k+1-i) 0 ?_ ?_
  .exact⟨aL _,by simp only[sE,simprocAttr],by(simp only[sE,simprocAttr]);exact b3⟩
  rintro i z ⟨ch,N,ab⟩ ac;have d0:z.Z 0=G.v l o:=(ac 0 du).trans sT;have Q:z.Z 1=H.v r A:=(ac 1 du).trans sT;have P:z.Z 5=I k:=(ac 5 du).trans sT;clear ac;rcases am k i with ad|ad
  .repeat' first|simp(disch:=omega) only[gE,simprocAttr,N,d0,Q,P,a,d]|refine cs ?_ ?_<;>intro h<;>try omega
   refine⟨k+1,⟨?_⟩,⟨av⟩⟩;exact⟨q,by(simp only[sE]);try exact aq (V.int .i64) av,by(simp only[sE]);exact ab⟩
  .have b5:=IS z.E G l o (bs.mono ab) F.Hs F.edp F.Wg i k q ad;have aA:=Vb (qQ G i k) (qQ G i k) (F.Po i k av);rw[dk rfl]at aA;repeat' first|simp only[gE,simprocAttr,N,d0,Q,P,a,d]|refine cs ?_ ?_<;>intro h<;>try omega
   refine bz (h0:=z.E) sT b5 sT (aV.cons (ak (by simp only[ee,bx,bQ,d0]<;>rfl)) (aV.cons (ak (by simp only[ee,bx,bQ,N]<;>rfl)) (aV.cons (ak (by simp only[ee,bx,bQ,P]<;>rfl)) .nil))) ?_;rintro _ _ bi ⟨rfl,bl⟩;have bo:=IS bi H r A (bu.mono (ab.o9 bl)) L.Hs L.edp L.Wg i k ai ad;rw[R.Po i k ad q]at bo;repeat' simp(disch:=try exact om) only[gE,simprocAttr,N,d0,Q,P,a,d]
   refine bz (h0:=bi) sT bo sT (aV.cons (ak (by simp only[ee,bx,bQ,Q]<;>rfl)) (aV.cons (ak (by simp only[ee,bx,bQ,N]<;>rfl)) (aV.cons (ak (by simp only[ee,bx,bQ,P]<;>rfl)) .nil))) ?_;rintro _ _ ci ⟨rfl,b6⟩;have b7:=(ab.o9 bl).o9 b6;repeat' first|simp(disch:=try exact om) only[gE,simprocAttr,N,d0,Q,P,a,d]|refine lq aA ?_
   refine⟨i+1,⟨?_⟩,⟨av⟩⟩;exact⟨av,by(simp only[sE]);try exact aq (V.int .i64) av,by(simp only[sE]);exact b7⟩
 .obtain rfl:k=G.hL.length:=av;repeat' first|simp only[gE,simprocAttr,f,j,p,a,d]|refine gz ?_ ?_<;>intro a2 h<;>(try simp only[a2])<;>try omega
  exact⟨nE,_,_,bC rfl rfl,rfl,a4⟩
def f6c:CF GL f6 [] [3,4,5,7,11,12,15] 6:=jo
def aaL(a:List Int)(bv:∀n∈a,jG n)(b:Int)(hb:jG b):af 6 [fq a,I b] (B true):=by
 refine Pure.gg (by simp only[dx]) (by simp only[dx]) ?_;obtain⟨g1,aA,aB,g4,g5,g6,ci⟩:=Ph a;have bY:=We a bv;generalize uW a=L at*
 have a3:=EP b (L.length+1) hb av;have hx:=sc b (L.length+1) av;obtain⟨X,hX⟩:∃X:Nat,mO b (L.length+1)=X:=⟨(mO b (L.length+1)).toNat,av⟩;rw[hX]at a3 hx;have a4:=Wl;have cp:(L.take X).length=X:=by rw[aG];omega
 have a5:uV (L.take X):=List.Pairwise.sublist (List.take_sublist ..) g1;have a6:oz (L.take X):=λk h=>by
  have aC:=aA k (by omega);rw[List.take_take,dM (by omega),iV];exact aC
 have ai:∀e∈L.take X,e.good:=λe aD=>aB e (dQ aD);have q:=xS (l:=L.take X) av ai λe aD=>g4 e (dQ aD);have b2:=xS (l:=L) av aB g4;have a0:=Wi aA X;have Q:=GU a5 (.refl _);have R:=GU g1 (.refl L);have a7:vE L.length L.length none (some (I (X:Int)))=some (0,X):=by
  unfold vE;have:idxOf (I (X:Int))=some X:=by
   simp[idxOf]
  simp only[this];rw[ax ⟨aL _,av⟩]
 have a8:List.take X (List.map aW.v L)=List.map aW.v (L.take X):=by rw[jw]
 have A:=FD aK.bare (fP (L.take X)) rfl rfl (L.take X) (by simp only[fP,xj,au]) (KA.sl _ av) av (by rw[Q];exact ai) (by rw[Q];exact a6);refine bq f6c.ok rfl ?_;repeat' first|simp(disch:=try exact om) only[gE,simprocAttr,a7,hA,a8]|refine lq bY ?_|refine lq a3 ?_
 refine bz (h0:=aK.bare) sT A sT ag ?_;rintro _ _ a9 ⟨r,t,rfl,bi,c1⟩;rw[Q]at bi ⊢
 generalize k5 (L.take X)=G at*
 have ab:=FD a9 (fP L) rfl rfl L (by simp only[fP,xj,au]) (KA.sl _ av) av (by rw[R];exact aB) (by rw[R];exact aA);have d:(G.v r t).one=true:=rfl;repeat' simp(disch:=try exact om) only[gE,simprocAttr,d]
 refine bz (h0:=a9) sT ab sT ag ?_;rintro _ _ u ⟨D,K,rfl,bl,b3⟩;rw[R]at bl ⊢
 generalize k5 L=H at*
 have f:(H.v D K).one=true:=rfl;have b5:ry false (G.v r t) V.lv=some (.bool false):=rfl;have b6:ry false (H.v D K) V.lv=some (.bool false):=rfl;have c3:=yH u G r t;have c4:=yH u H D K;repeat' first|simp(disch:=try exact om) only[gE,simprocAttr,d,f,b5,b6]|refine gz ?_ ?_<;>intro aC h<;>(try simp only[aC])<;>try exact absurd trivial h
 refine bz (h0:=u) sT c3 sT ag ?_;rintro _ _ a1 ⟨rfl,j⟩;rw[j];clear j;repeat' simp(disch:=try exact om) only[gE,simprocAttr,d,f]
 refine bz (h0:=u) sT c4 sT ag ?_;rintro _ _ a1 ⟨rfl,j⟩;rw[j];clear j;have hle:=a0.len;have bo:¬((H.hL.length:Int)<G.hL.length):=av;have b7:=Wh u G r t q.bN q.Hs (by have:=q.hL;omega);repeat' first|simp(disch:=try exact om) only[gE,simprocAttr,d,f,bo]|refine cs ?_ ?_<;>intro h<;>try exact h.elim
 refine bz (h0:=u) sT b7 sT ag ?_;rintro _ _ c2 ⟨rfl,ca⟩;have cc:=yI q.bN q.Hs G.hL.length (an _);have ch:=q.hL;generalize tE G G.hL.length=l at*
 repeat' simp(disch:=try exact om) only[gE,simprocAttr,d,f]
 refine dT rfl rfl (λ(k:Nat) y=>k<=l.length/\y.Z 14=I k/\bA none u y.E) (λk=>l.length-k) 0 ?_ ?_
 .exact⟨aL _,by simp only[sE,simprocAttr],by(simp only[sE,simprocAttr]);exact ca⟩
 rintro k y ⟨c5,N,ac⟩ ad;have o:y.Z 7=G.v r t:=(ad 7 du).trans sT;have p:y.Z 10=H.v D K:=(ad 10 du).trans sT;have P:y.Z 13=dA l:=(ad 13 du).trans sT;clear ad;have bs:=bi.mono (b3.o9 ac);have bu:=bl.mono ac;rcases am k l.length with z|z
 .have A:=Cx y.E G r t bs l[k].id;have ab:=Cx y.E H D K bu l[k].id;have a2:=a0.left l[k].id;generalize fN G.left l[k].id=cb at A a2;generalize fN H.left l[k].id=c6 at ab a2;repeat' first|simp(disch:=try exact om) only[gE,simprocAttr,d,f,N,o,p,P,z,aJ.v,ID.v]|refine cs ?_ ?_<;>intro h<;>try omega
  refine bz (h0:=y.E) sT A sT (mV (by simp only[ee,bx,bQ,o]<;>rfl)) ?_;rintro _ _ a1 ⟨rfl,j⟩;rw[j];clear j;repeat' simp(disch:=try exact om) only[gE,simprocAttr,d,f,N,o,p,P,z,Name.v,ID.v]
  refine bz (h0:=y.E) sT ab sT (mV (by simp only[ee,bx,bQ,o,p]<;>rfl)) ?_;rintro _ _ a1 ⟨rfl,j⟩;rw[j];clear j;cases cb with
  |none=>
   repeat' simp(disch:=try exact om) only[gE,simprocAttr,d,f,N,o,p,P,z,Name.v,ID.v,cG]
   refine⟨k+1,⟨?_⟩,⟨av⟩⟩;exact⟨z,by(simp only[sE]);try exact aq (V.int .i64) av,by(simp only[sE]);exact ac⟩
  |some m=>
   obtain rfl:=a2 m rfl;obtain⟨c7,c9⟩:=m;repeat' simp(disch:=try exact om) only[gE,simprocAttr,d,f,N,o,p,P,z,Name.v,ID.v,fg,bf]
   refine⟨k+1,⟨?_⟩,⟨av⟩⟩;exact⟨z,by(simp only[sE]);try exact aq (V.int .i64) av,by(simp only[sE]);exact ac⟩
 .obtain rfl:k=l.length:=av;have A:=S8 y.E G H r t D K q b2 a0 bs bu;repeat' first|simp only[gE,simprocAttr,d,f,N,o,p,P]|refine cs ?_ ?_<;>intro h<;>try omega
  refine bz (h0:=y.E) sT A sT (mV (by simp only[ee,bx,bQ,o,p]<;>rfl)) ?_;rintro _ _ dd ⟨rfl,df⟩;repeat' first|simp only[gE,simprocAttr,d,f,N,o,p,P]|refine lq a4 ?_
  exact⟨nE,_,_,bC rfl rfl,rfl,by rfl⟩
def CL(a:List Int)(d:∀n∈a,jG n)(b:Int)(hb:jG b):af 6 [fq a,I b] (B true):=aaL a d b hb
end Go.Bx
namespace Go.Proofs.YtmbahmpbmcfifaaGreatDoor
theorem historyBegins_holds:Rows.HistoryBeginsCardSaid:=Go.Bx.abp λa b d hb=>Go.Bx.CL a d b hb
end Go.Proofs.YtmbahmpbmcfifaaGreatDoor
#print axioms Go.Proofs.YtmbahmpbmcfifaaGreatDoor.historyBegins_holds
