/- Lemmas for HistoryOrder. -/
import Derived.Test.YtmbahmpbmcfifaaGreatDoorAr
noncomputable section
set_option linter.all false
set_option maxHeartbeats 4000000
set_option maxRecDepth 100000
namespace Go.Bx
open Go.Proofs Go.Proofs.Tryz
attribute [local irreducible] vc er dr b4 bV run iD iY i1 i6 iQ i7 i2 iu iS i4 gB i3 cW
def abp:CF GL f56 [72,91] [7,11] 56:=ji
def Iu(w:cm)(a:w.ok):af 77 [w.v] w.v:=by
 refine Pure.gg (by simp only[du]) (by simp only[du]) ((J1 w a aJ.bare).Tp ?_);rintro v bL E ⟨X,⟨d,rfl,T⟩,D,_,_⟩;exact⟨oE E X,E.less X,w.v,false,mf _ _,Dw T,λh=>(by cases h),rfl,rfl⟩
def HQ.more{base E a:aJ}{dV d f tid:Nat}{ev l ed:V}{N:List (ID×V)}{H:g9}{ts:List (T×hG)}(Q:HQ base E dV ev l ed d f N H tid ts)(hS:bt none E a):HQ base a dV ev l ed d f N H tid ts where
 box:=(hS.box _ (Q.bd dV (dh.2 (.inl rfl))).2 bR).trans Q.box
 fe:=Q.fe.frame (λi h=>hS.box i (Q.bd i (dh.2 (.inr (.inl h)))).2 bR) hS.Y
 fv:=Q.fv.frame (λi h=>hS.box i (Q.bd i (dh.2 (.inr (.inr (.inl h))))).2 bR) hS.Y
 fd:=Q.fd.frame (λi h=>hS.box i (Q.bd i (dh.2 (.inr (.inr (.inr (.inl h)))))).2 bR) hS.Y
 nm:=(hS.mp _ Q.mb.1.2).trans Q.nm
 nx:=Q.nx.frame (λi h=>hS.box i (Q.bd i (dh.2 (.inr (.inr (.inr (.inr h)))))).2 bR) hS.Y
 lm:=(hS.mp _ Q.mb.2.1.2).trans Q.lm
 tm:=(hS.mp _ Q.mb.2.2.2).trans Q.tm
 nd:=Q.nd
 bd:=λj o=>⟨(Q.bd j o).1,bA (Q.bd j o).2 hS.Y⟩
 md:=Q.md
 mb:=⟨⟨Q.mb.1.1,bA Q.mb.1.2 hS.Y⟩,⟨Q.mb.2.1.1,bA Q.mb.2.1.2 hS.Y⟩,Q.mb.2.2.1,bA Q.mb.2.2.2 hS.Y⟩
 same:=Q.same.trans hS
def rn(s:St)(D bL:List Nat)(l:List (Nat×V×Bool)):(s.head D bL l).E={s.E with fl:=λ_ _=>false}:=rfl
def y4{c d:V}(h:V.Le c d):∀l:List V,aN (l++[c]) (l++[d])
 |[]=>.cons h .nil
 |x::l=>.cons (.refl x) (y4 h l)
def bt.add(E:aJ)(c:List V):bt none E (E.cM c):=
 ⟨λi a _=>by simp only[aJ.cM];exact bE _ _ (cr a),λ_ _=>rfl,fO _⟩
def LI(l:List T):(DE l).length=l.length:=ix _
def VJ(base E:aJ)(dV:Nat)(H:g9)(tid:Nat)(ts:List (T×hG))(hH:HP base E dV H tid ts)(aC:H.bW.ok)(K:Nat)(c7:uQ H.next K)(bu:K<=1000000000-2000000)(bU:ts.length<=1000)(c9:(ts.map (·.1)).Nodup)(b2:∀x∈ts,x.1.length<=1000000000)(e3:H.jx.length<=1000)(e:aV)(dd:e.op.ok)(dg:∀t∈e.op.F,t.length<=10000)(b3:e.op.cX.length<=100000):
 aI 56 [.bp dV 0,e.v,.mp tid] E λu _ r=>u=B (Ln H ts e).2.2/\HP base r dV (Ln H ts e).1 tid (Ln H ts e).2.1:=by
 have dp:=wh e;have ds:=Su base E dV H tid ts hH aC K c7 bu e.op dd dg b3 e.name;have c3:=Ij H.bW aC;have c4:=BP H.bW e.id aC;have dF:=Iu H.bW aC;refine bq abp.ok rfl ?_;obtain⟨ev,aD,ed,z,L,N,Q,o1,o2,p⟩:=hH.one;have hx:=Q.box;unfold Ln;obtain⟨e5,e6,e7,kind,fa,op,tm,b5,fr,fs⟩:=e;simp only at*
 by_cases a4:kind=0
 .subst a4;rw[ax rfl];repeat any_goals first|simp only[gE,simprocAttr,aV.v,hx,o1,o2,p]|refine lq dp ?_|refine ec ?_|refine fg ?_ ?_
  all_goals
   refine bm (h0:=E) sT ds sT ag ?_;rintro _ _ a0 ⟨rfl,R⟩;repeat any_goals simp only[gE,simprocAttr]
   exact⟨nE,_,_,bz rfl rfl,rfl,R⟩
 rw[an a4];by_cases a5:kind=1
 .subst a5;rw[ax rfl];have le:=Q.fd.len;rw[aq]at le;by_cases ad:H.jx.length=16\/fy H.bW≠0
  .rw[ax ad];by_cases a1:H.jx.length=16
   .have j:decide ((H.jx.length:Int)=16)=true:=db av;repeat any_goals first|simp only[gE,simprocAttr,aV.v,hx,o1,o2,p,le,j]|refine gz ?_ ?_<;>intro ai h<;>(try simp only[ai])<;>try omega|refine ec ?_
    all_goals exact⟨nE,_,_,bz rfl rfl,rfl,hH⟩
   .have aA:fy H.bW≠0:=ad.resolve_left a1;have j:decide ((H.jx.length:Int)=16)=false:=dY av;repeat any_goals first|simp only[gE,simprocAttr,aV.v,hx,o1,o2,p,le,j,aA]|(first|refine cz ?_ ?_|refine gz ?_ ?_)<;>intro ai h<;>(try simp only[ai])<;>try omega|refine lq c3 ?_|refine ec ?_
    all_goals exact⟨nE,_,_,bz rfl rfl,rfl,hH⟩
  .rw[an ad];have a1:H.jx.length≠16:=λh=>ad (.inl h);have aA:fy H.bW=0:=cJ λh=>ad (.inr h);rw[aA]at c3;have j:decide ((H.jx.length:Int)=16)=false:=dY av;have dU:=Sm E tid;repeat any_goals first|simp only[gE,simprocAttr,aV.v,hx,o1,o2,p,le,j]|refine gz ?_ ?_<;>intro ai h<;>(try simp only[ai])<;>try omega|refine lq c3 ?_|refine ec ?_
   refine bm (h0:=E) (by simp only[da,simprocAttr,bn]) dU (by simp only[bN,ce,da,simprocAttr,bh,bn];rfl) (by(repeat(first|exact aN.nil|(refine aN.cons (aj ?_) ?_;(simp only[dL,simprocAttr]<;>rfl))))) ?_;rintro _ _ _ ⟨rfl,rfl⟩;have Q2:=Q.more (bt.add E [.mp tid]);generalize a0:E.cM [.mp tid]=R at*
   have ea:=Sn R E.Y tid ts (by rw[<-a0];exact bl _ _ _) Q2.tm bU c9 b2;refine bm (h0:=R) sT ea sT ag ?_;rintro _ _ R ⟨rfl,rfl⟩;have eb:Gk ts=(DE (ts.map (·.1))).map (uK ts):=rfl;have b6:=LI (ts.map (·.1));rw[aq]at b6;generalize DE (ts.map (·.1))=d at*
   have P:=Q2.box;repeat any_goals simp only[gE,simprocAttr,e9,P,o1,o2,p,le,j]
   refine nw (D:=[7,9,48,49,50,51,52,53,54,55,56,57,58]) (bL:=[]) (λk:Nat=>k<=d.length) (λk=>[(48,I k,false),(7,oo ((d.take k).map (uK ts)),true)]) (λk=>d.length-k) (0) rfl rfl rfl (λ_=>rfl) (aL _) ?_ ?_ ?_;iterate 2 ·(simp only[fQ,fM,bK,cF];and_intros;all_goals(try(simp only[mS,simprocAttr]));all_goals(try(first|with_reducible exact .refl _|exact .aP _|(intro h;cases h;done)|(intro _;exact Or.inr rfl))))
   obtain⟨ab,f⟩:∃ab:aJ,{R with fl:=λ_ _=>false}=ab:=⟨_,rfl⟩;have ac:HQ base ab dV ev aD ed z L N H tid ts:=Q2.more (by subst f;exact⟨λ_ _ _=>rfl,λ_ _=>rfl,ao _⟩);have P:=ac.box;rintro k fB;have b7:(d.take k).length=k:=by rw[aF];omega
   rcases am k d.length with aB|aB
   .have gk:=(nP hG.v (.agg [.str [],.int .i64 0,.int .i64 0,.str [],.aP]) ts d[k]).1;obtain⟨a6,a7,a8,a9,bv,ca,cb,bi⟩:∃a6 a7 a8 a9 bv,((gR ts d[k]).map hG.v).getD (.agg [.str [],.int .i64 0,.int .i64 0,.str [],.aP])=.agg [S a6,I a7,I a8,S a9,bv]/\bv.one=true/\V.Le (.agg [S a6,I a7,I a8,S a9,bv]) (uK ts d[k]).v:=by
     unfold uK;cases gR ts d[k]with
     |some t=>exact⟨_,_,_,_,_,rfl,rfl,.refl _⟩
     |none=>exact⟨[],0,0,[],.aP,rfl,rfl,nj rfl (.cons (.refl _) (.cons (.refl _) (.cons (.refl _) (.cons (.refl _) (.cons (.aP _) .nil)))))⟩
    repeat any_goals first|simp(disch:=try exact om) only[gE,simprocAttr,oo,e9,aB,b7,rn,f]|refine cs ?_ ?_<;>intro h<;>try omega
    refine jq Zo (a:=d[k]) (l:=gX hG.v ts) (id:=tid) (fD:=ab) sT sT sT ac.tm ?_;rw[gk];simp only[i5];rw[ca];repeat any_goals first|simp(disch:=try exact om) only[dq,simprocAttr,oo,cb,bh,va,rn,f,bn,b7]|(refine⟨k+1,⟨?_⟩,⟨av⟩,?_⟩;rotate_left;focus (simp only[fQ,fM,bK,cF];and_intros;all_goals(try(simp only[mS,simprocAttr]));all_goals(try(first|(intro h;cases h;done)|(intro _;(simp;done))|(refine aj (ar I ?_);omega)))))
    .rw[List.take_add_one,aa aB,Option.toList_some,aE,aE];have cc:=y4 bi (List.map hG.v (List.map (uK ts) (List.take k d)));exact .sl 5 _ _ cc.1 cc.2
    .omega
   .have ch:k=d.length:=av;subst ch;rw[be,<-eb];repeat any_goals first|simp only[gE,simprocAttr,oo,rn,f,P,o1,o2,p]|refine cs ?_ ?_<;>intro h<;>try omega|refine lq dF ?_|refine fg ?_ ?_
    refine iE (xs:=H.jx.map L6) (ys:=[L6 (H.bW,Gk ts)]) ?_ ?_ ?_ ?_ ?_ rfl ?_ ?_ λbo r o hb el=>?_
    .simp only[sE,simprocAttr,rn,f];exact ac.fd
    .exact sT
    .intro y ci;simp at ci;subst ci;rfl
    .exact sT
    .simp only[sE,simprocAttr];intro l et;cases et
    .simp only[aq,aM,aT];omega
    .intro _ eN;cases eN
    have cp:=o.one;have e1:=o.fS;have a2:bt (bH ed) ab r:=by revert hb;simp only[sE,simprocAttr,rn,f];exact id
    have c1:bH bo=bH ed\/bH bo=some ab.Y:=by revert el;simp only[sE,simprocAttr,rn,f];exact id
    obtain⟨e4,br⟩:=ac.bd dV (dh.2 (.inl rfl));have c2:r.box dV=some [ev,aD,cd H.bW.O,ed,.mp z,.mp L]:=(a2.box dV br (λe=>ac.mem.2.2.1 dV e |>.1 rfl)).trans P;repeat any_goals simp only[gE,simprocAttr,c2,cp,e1]
    refine cC (n:=1) (off:=3) (cells:=[ev,aD,cd H.bW.O,ed,.mp z,.mp L]) ?_ ?_ bR λgb te tc tl tb tm e2 gf=>?_
    .exact sT
    .simp only[sE,simprocAttr];simp[jR,cp,o.kb]
    have a3:=tb.trans sT;simp only[o.kb,aO,aw,ay]at a3;have c5:=e2.trans sT;have c6:=tm.trans sT;repeat any_goals simp only[gE,simprocAttr,te,tc,tl]
    exact⟨nE,B true,_,bz rfl rfl,rfl,ev,aD,bo,z,L,N,ac.Zv a2 o c1 (λi h=>o.Bd h) a3 c6 c5⟩
 rw[an a5];by_cases bs:kind=2
 .subst bs;rw[ax rfl];repeat any_goals first|simp only[gE,simprocAttr,aV.v,hx,o1,o2,p]|refine ec ?_
  all_goals
   refine nB Zo (a:=tm.name) (l:=gX hG.v ts) (id:=tid) (fD:=E) (yv:=tm.v) ?_ ?_ ?_ Q.tm ?_ rfl ?_
   .exact sT
   .exact sT
   .exact sT
   ·(simp only[da,simprocAttr]);rfl
   rw[qq];repeat any_goals simp only[gE,simprocAttr]
   exact⟨nE,_,_,bz rfl rfl,rfl,⟨_,_,_,_,_,_,Q.dy _ _⟩⟩
 rw[an bs];generalize (ef b5 0 H.bW.O).isSome=q at*
 generalize ka (ef b5 0 H.bW.O)=s at*
 repeat any_goals first|simp(disch:=try exact om) only[gE,simprocAttr,aV.v,hx,o1,o2,p,a4,a5,bs]|refine cs ?_ ?_<;>intro h<;>try omega|refine lq c4 ?_|refine ec ?_
 all_goals exact⟨nE,_,_,bz rfl rfl,rfl,hH⟩
def CI(l:List (cm×List hG)):V:=.sl 2 (l.map L6)
def g9.v(H:g9)(a d:Nat):V:=.ep [eI H.eo,jZ H.void,cd H.bW.O,CI H.jx,.mp a,.mp d]
def OM(E a:aJ):Prop:=a.box=E.box/\a.mp=E.mp/\a.Y=E.Y
def Kk{s:St}{t d n:Nat}{ag:Bool}{a a':V}(h:dw s (.load ag n (.tmp t))=some a)(f:s.Z d=a')(l:a.dW=false)(l':a'.dW=false):BF.result s [.cell t ag n,.tmp d]=some (.hE [a,a'],false):=by
 simp[BF.result,BR.p2,BR.get,h,f,l,l']
def abq:CF GL f24 [] [] 24:=ji
def abr:CF GL f62 [] [1] 62:=ji
def abs:CF GL f36 [] [] 36:=ji
def abt:CF GL f35 [] [] 35:=ji
def abu:CF GL f34 [23] [] 34:=ji
def abv:CF GL f25 [] [1] 25:=ji
def yn(E:aJ)(H:g9)(a d:Nat):aI 24 [H.v a d] E λu _ f=>u=I H.jx.length/\f=E:=by
 refine bq abq.ok rfl ?_;repeat any_goals simp only[dq,simprocAttr,g9.v,CI,bQ]
 all_goals exact⟨nE,_,_,bz rfl rfl,by exact⟨rfl,rfl⟩⟩
def Fb(E:aJ)(H:g9)(a d:Nat)(k:Int):aI 62 [H.v a d,I k] E λu _ f=>u=B (decide (0<=k/\k<H.jx.length))/\f=E:=by
 have c:=yn E H a d;refine bq abr.ok rfl ?_;repeat' first|refine k9 ?_|refine gz ?_ ?_<;>intro j h<;>try simp only[j]
 .refine bm (h0:=E) sT c sT ag ?_;rintro _ _ _ ⟨rfl,rfl⟩;repeat' simp only[gE,simprocAttr]
  exact X7
 .exact X7
def Iv(E:aJ)(H:g9)(a d:Nat)(j:H.bW.ok):aI 36 [H.v a d] E λu _ f=>u=H.bW.v/\f=E:=by
 have c:=Iu H.bW j;refine bq abs.ok rfl ?_;repeat any_goals first|simp only[dq,simprocAttr,g9.v,bQ]|refine lq c ?_
 exact⟨nE,_,_,eA (by simp only[dL,simprocAttr,bh]<;>rfl) rfl,by exact⟨rfl,rfl⟩⟩
def Fc(E:aJ)(H:g9)(a d:Nat)(h:H.void.length<=1000000000):aI 35 [H.v a d] E λu _ f=>u=jZ H.void/\f=E:=by
 refine bq abt.ok rfl ?_;repeat any_goals first|simp only[dq,simprocAttr,g9.v,bQ]|refine lq (Ve H.void h) ?_
 all_goals exact⟨nE,_,_,bz rfl rfl,by exact⟨rfl,rfl⟩⟩
def Iw(E:aJ)(H:g9)(d f:Nat)(h:H.eo.length<=1000000)(o:∀e∈H.eo,e.good):aI 34 [H.v d f] E λu _ j=>V.Le u (eI H.eo)/\OM E j:=by
 refine bq abu.ok rfl ?_;repeat' simp only[gE,simprocAttr,g9.v,eI]
 refine sk (bL:=[]) (λk:Nat=>k<=H.eo.length) (λk=>[(13,I k,false),(3,eI (H.eo.take k),true)]) (λk=>H.eo.length-k) (0) (aL _) ?_;rintro k p;have l:(H.eo.take k).length=k:=by rw[aF];omega
 rcases am k H.eo.length with a|a
 .have c:=Ou H.eo[k] (o _ (ah a));repeat' first|simp(disch:=try exact om) only[dq,simprocAttr,eI,a,l]|refine cs ?_ ?_<;>intro h<;>try omega|(refine⟨k+1,⟨?_⟩,⟨av⟩,?_⟩;rotate_left;focus (simp only[fQ,fM,bK,cF];and_intros;all_goals(try(simp only[mS]));all_goals(try(first|(intro h;cases h;done)|(intro _;(simp;done))|(refine aj (ar I ?_);omega)|((repeat first|with_reducible (first|exact Kept.refl _|refine ez ?_|refine eJ ?_|refine ek ?_|refine fX ?_|refine dT ?_)|(with_reducible refine en ?_ ?_;rotate_left;(simp only[pU])));done)))))|refine lq c ?_
  .exact aj (by rw[bj a,aE];rfl)
  .omega
 .repeat' first|simp only[dq,simprocAttr,eI,a,l]|refine cs ?_ ?_<;>intro h<;>try omega
  rw[az a];exact⟨nE,_,_,bz rfl rfl,.refl _,rfl,rfl,rfl⟩
def Ix(E:aJ)(H:g9)(a d:Nat)(k:Int)(l:∀e∈H.jx,e.1.ok):aI 25 [H.v a d,I k] E λu _ f=>u=(.hE (if h:0<=k/\k<H.jx.length then [(H.jx[k.toNat]'av).1.v,I 0]else [.agg [.aP],I 6]))/\f=E:=by
 have c:=Fb E H a d k;refine bq abv.ok rfl ?_;repeat' simp only[gE,simprocAttr]
 refine bm (h0:=E) sT c sT ag ?_;rintro _ _ _ ⟨rfl,rfl⟩;by_cases h:0<=k/\k<H.jx.length
 .rw[tV h,db h];obtain⟨n,rfl⟩:=fH h.1;have j:n<H.jx.length:=av;have o:=Iu H.jx[n].1 (l _ (ah j));repeat' first|simp(disch:=try exact om) only[gE,simprocAttr,g9.v,CI,L6,j]|refine lq o ?_
  exact Uh
 .rw[dif_neg h,dY h];repeat' simp only[gE,simprocAttr,g9.v,CI,L6]
  exact Uh
section
variable {GL:Nat->Option (List V)}{P:Program}{s:St}{K:St->Prop}{pu:Bool}{d:Option Nat}{r:List BI}{x:eO}{fD:aJ}{kvs:List (V×V)}{id wid n:Nat}{seen:List Nat}
def aai(a:s.E=fD)(hx:s.val x=.mp id)(f:fD.mp id=some (.map kvs))(h:gB P GL d pu r s K (.bp fD.Y 0) false (fD.vA (.walk id kvs.length []))):(MX.jv x).wp s (gB P GL d pu r s K):=by
 subst a;simp only[MX.wp,hx];exact⟨kvs,f,h⟩
def Ke(a:fD.mp wid=some (.walk id n seen))(f:fD.mp id=some (.map kvs))(j:kvs.length=n):xW fD (.bp wid 0)=some (wid,id,n,seen,kvs):=by
 simp only[xW,a,f,j,bQ]
def VK(f:s.E=fD)(hx:s.val x=.bp wid 0)(a:fD.mp wid=some (.walk id n seen))(l:fD.mp id=some (.map kvs))(o:kvs.length=n)
 (h0:(∀j,j<n->j∈seen)->gB P GL d pu r s K (.hE [.bool false]) false fD)
 (p:∀j u,j∉seen->kvs[j]?=some u->gB P GL d pu r s K (.hE [.bool true,u.1,u.2]) false (fD.C5 wid (.walk id n (seen++[j])))):(MX.next x).wp s (gB P GL d pu r s K):=by
 subst f;have q:zE s.E (.bp wid 0)=false:=by simp only[zE,a]
 simp only[MX.wp,hx,q,Ke a l o,bM,cE];exact⟨h0,p⟩
def Sy{j:Nat}{u:V×V}(a:s.E=fD)(hx:s.val x=.bp wid 0)(f:fD.mp wid=some (.walk id n (seen++[j])))(l:fD.mp id=some (.map kvs))(o:kvs.length=n)(p:kvs[j]?=some u)
 (h:gB P GL d pu r s K (.hE [u.1,u.2]) false fD):(MX.entry x).wp s (gB P GL d pu r s K):=by
 subst a;simp only[MX.wp,hx,Ke f l o];exact⟨j,u,bR,p,h⟩
end
def g9.maps(H:g9)(E:aJ)(a f:Nat):Prop:=E.mp a=some (.map (fp ID.v (gX eZ H.next)))/\E.mp f=some (.map (fp ID.v (gX Name.v H.left)))/\a<E.Y/\f<E.Y
def abw:CF GL f17 [] [] 17:=ji
def abx:CF GL f19 [] [] 19:=ji
def B8(E:aJ)(H:g9)(j f:Nat)(p:H.maps E j f)(a:ID):aI 17 [H.v j f,a.v] E λu _ o=>u=.hE [((gR H.left a).getD ⟨0,0⟩).v,B (gR H.left a).isSome]/\o=E:=by
 refine bq abw.ok rfl ?_;obtain⟨g1,q⟩:=nP Name.v (.agg [I 0,I 0]) H.left a;have t:((gR H.left a).map Name.v).getD (.agg [I 0,I 0])=((gR H.left a).getD ⟨0,0⟩).v:=by cases gR H.left a<;>rfl
 repeat' first|simp only[gE,simprocAttr,g9.v,ID.v]|refine fg ?_ ?_
 all_goals
  refine jq qS (a:=a) (l:=gX Name.v H.left) (id:=f) (fD:=E) sT sT sT p.2.1 ?_;rw[g1,q,t];simp only[i5];repeat' simp(disch:=try exact om) only[gE,simprocAttr,Name.v]
  exact Uh
def po(n:List (ID×List ID)):List cR:=n.flatMap λx=>x.2.map λb=>⟨x.1,b⟩
def rJ(n:List (ID×List ID))(j:Nat):List cR:=match n[j]? with
 |some x=>x.2.map λb=>⟨x.1,b⟩
 |none=>[]
def ON(n:List (ID×List ID))(seen:List Nat)(h:∀j,j<n.length->j∈seen)(z:cR):z∈seen.flatMap (rJ n)↔z∈po n:=by
 unfold po;simp only[dC];constructor
 .rintro⟨j,_,a⟩;unfold rJ at a;split at a
  next x hx=>exact⟨x,bT hx,a⟩
  .cases a
 .rintro⟨x,hx,a⟩;obtain⟨j,f,rfl⟩:=ja hx;exact⟨j,h j f,by unfold rJ;rw[aa f];exact a⟩
def aaj(f:Nat->Nat)(j:Nat):∀l:List Nat,j∈l->((l.filter (· ≠j)).map f).sum+f j<=(l.map f).sum
 |x::l,h=>by
  by_cases e:x=j
  .subst e;have:((l.filter (· ≠x)).map f).sum<=(l.map f).sum:=by
    clear h;induction l with
    |nil=>simp
    |cons y l ih=>
     by_cases e:y=x
     .subst e;simp at ih ⊢;omega
     .simp[e]at ih ⊢;omega
   simp at this ⊢;omega
  .have a:j∈l:=by
    rcases bC.1 h with h|h
    .exact absurd h.symm e
    .exact h
   have:=aaj f j l a;simp[e]at this ⊢;omega
def B9(n:List (ID×List ID))(l:List Nat):Nat:=(l.map λj=>(rJ n j).length).sum
def Iy(E:aJ)(H:g9)(f ad:Nat)(br:H.maps E f ad)(a2:B9 H.next (List.range H.next.length)<=1000000):aI 19 [H.v f ad] E λu _ a3=>u=g7 (jN (po H.next))/\bt none E a3:=by
 obtain⟨aD,_,a4,_⟩:=br;obtain⟨a,ai⟩:∃a,H.next=a:=⟨_,rfl⟩;rw[ai]at aD a2;rw[ai];refine bq abx.ok rfl ?_;have L:(fp ID.v (gX eZ a)).length=a.length:=by simp[fp,gX]
 repeat' simp only[gE,simprocAttr,g9.v]
 refine aai (fD:=E) (kvs:=fp ID.v (gX eZ a)) (id:=f) sT sT aD ?_;rw[L];repeat' simp only[gE,simprocAttr]
 refine dQ rfl rfl (λ(q:List Nat×List Nat) t=>t.E.box=E.box/\t.E.mp E.Y=some (.walk f a.length q.1)/\(∀i,i<E.Y->t.E.mp i=E.mp i)/\t.E.Y=E.Y+1/\V.Le (t.Z 3) (g7 (q.1.flatMap (rJ a)))/\(t.fl 3=true\/t.Z 3=.aP)/\(∀j,j<a.length->j∉q.1->j∈q.2)/\(q.1.flatMap (rJ a)).length+B9 a q.2<=1000000) (λq=>q.2.length) ([],List.range a.length) ?_ ?_
 .simp only[da,simprocAttr];refine⟨rfl,?_,?_,rfl,?_,.inr trivial,?_,?_⟩
  .exact bl _ _ _
  .intro i y;exact bE _ _ (cr y)
  .exact .aP _
  .intro j R _;exact dc.2 R
  .simpa using a2
 rintro⟨seen,un⟩ t ⟨g1,a5,ab,g4,g5,g6,ac,a6⟩ a7;simp only at g1 a5 ab g4 g5 g6 ac a6;have N:t.Z 14=.bp E.Y 0:=(a7 14 dt).trans sT;have a8:t.E.mp f=_:=(ab f a4).trans aD;clear a7;repeat' simp only[gE,simprocAttr,N]
 refine VK (fD:=t.E) sT sT a5 a8 L (λa0=>?_) (λj u R l=>?_)
 .have bs:=Gj (ON a seen a0);have c:=E6 (seen.flatMap (rJ a)) av;rw[bs]at c;repeat' simp(disch:=try exact om) only[gE,simprocAttr]
  refine iR c (.cons ?_ .nil) ?_
  .exact sT
  repeat' simp only[gE,simprocAttr]
  exact⟨nE,_,_,bz rfl rfl,rfl,λi _ _=>nK g1 i,ab,(by show E.Y<=t.E.Y;omega)⟩
 .obtain⟨x,hx,rfl⟩:∃x,a[j]?=some x/\u=(x.1.v,eZ x.2):=by
   have l:=l;simp only[fp,gX,bB]at l;cases h:a[j]? with
   |none=>rw[h]at l;cases l
   |some x=>rw[h]at l;exact⟨x,rfl,(au l).symm⟩
  have aA:rJ a j=x.2.map λb=>⟨x.1,b⟩:=by simp only[rJ,hx]
  have aB:j<a.length:=(aH.1 hx).1;have b3:=aaj (λj=>(rJ a j).length) j un (ac j aB R);have b5:(rJ a j).length=x.2.length:=by rw[aA,aq]
  have a1:B9 a un=(un.map λj=>(rJ a j).length).sum:=rfl;rw[a1]at a6;obtain⟨o,z⟩:∃o:aJ,t.E.C5 E.Y (.walk f a.length (seen++[j]))=o:=⟨_,rfl⟩;have bu:o.mp f=some (.map (fp ID.v (gX eZ a))):=by rw[<-z];exact(bE _ _ (cr a4)).trans a8
  have a9:o.mp E.Y=some (.walk f a.length (seen++[j])):=by rw[<-z];exact bl _ _ _
  have bv:o.box=E.box:=by rw[<-z];exact g1
  have bU:∀i,i<E.Y->o.mp i=E.mp i:=λi y=>by rw[<-z];exact(bE _ _ (cr y)).trans (ab i y)
  have b2:o.Y=E.Y+1:=by rw[<-z];exact g4
  rw[z];repeat' simp(disch:=try exact om) only[gE,simprocAttr,N]
  refine Sy (fD:=o) (j:=j) sT sT a9 bu L l ?_;repeat' simp(disch:=try exact om) only[gE,simprocAttr,N,eZ]
  refine p6 (D:=[3,7,22,23,24,25,26,27,28,29,30,31,32]) (bL:=[]) rfl (λk:Nat=>k<=x.2.length) (λk=>[(22,I k,false),(3,g7 (seen.flatMap (rJ a)++(x.2.take k).map λb=>⟨x.1,b⟩),true)]) (λk=>x.2.length-k) (0) rfl rfl (λ_=>rfl) (aL _) ?_ ?_ ?_;(·((simp only[fQ,fM,bK,cF];and_intros;all_goals(try(simp only[mS,simprocAttr]));all_goals(try(first|with_reducible exact .refl _|(intro h;cases h;done)))));all_goals(first|exact g5|(rw[cP];exact g5)|(intro _;exact g6)));(·((simp only[fQ,fM,bK,cF];and_intros)));rintro k b6;have bi:((x.2.take k).map λb=>(⟨x.1,b⟩:cR)).length=k:=by rw[aq,aF];omega
  rcases am k x.2.length with p|p
  .repeat' first|simp(disch:=try exact om) only[gE,simprocAttr,g7,p,bi]|refine cs ?_ ?_<;>intro h<;>try omega|(refine⟨k+1,⟨?_⟩,⟨av⟩,?_⟩;rotate_left;focus (simp only[fQ,fM,bK,cF];and_intros;all_goals(try(simp only[mS]));all_goals(try(first|(intro h;cases h;done)|(intro _;(simp;done))|(refine aj (ar I ?_);omega)))))
   .exact aj (ar (V.sl 6) (by rw[bj p];simp only[aE,aG];rfl))
   ·(repeat first|with_reducible (first|exact Kept.refl _|refine ez ?_|refine eJ ?_|refine ek ?_|refine fX ?_|refine dT ?_)|(with_reducible refine en ?_ ?_;rotate_left;(simp only[pU,simprocAttr,bh])))
   .omega
  .obtain rfl:k=x.2.length:=av;rw[be,<-aA];have aC:(seen++[j]).flatMap (rJ a)=seen.flatMap (rJ a)++rJ a j:=bR;repeat' first|simp only[gE,simprocAttr,g7,bi]|refine cs ?_ ?_<;>intro h<;>try omega
   have bo:(un.filter (· ≠j)).length<un.length:=by
    refine List.length_filter_lt_length_iff_exists.2 ⟨j,ac j aB R,bR⟩
   refine⟨(seen++[j],un.filter (· ≠j)),⟨?_⟩,⟨bo⟩⟩;refine⟨bv,a9,bU,b2,?_,.inl rfl,?_,?_⟩
   .rw[aC];exact .refl _
   .intro i y Q;simp only[aR,bg,mC]at Q;exact kz.2 ⟨ac i y Q.1,by simpa using Q.2⟩
   .have:B9 a (un.filter (· ≠j))=((un.filter (· ≠j)).map λj=>(rJ a j).length).sum:=rfl;show((seen++[j]).flatMap (rJ a)).length+B9 a (un.filter (· ≠j))<=1000000;rw[aC,ae,this];omega
def Sz{s t:St}{E:aJ}(h:Kept s t)(a:E.box=t.E.box)(d:E.mp=t.E.mp)(f:E.Y=t.E.Y):Kept s (t.ct E):=⟨h.n,h.G,h.loc,a.trans h.box,d.trans h.mp,f.trans h.Y⟩
def G1(f:V)(l:List aV)(E:aJ):Prop:=∀a,bt none E a->aI 39 [f] a λu _ d=>u=eI (gl l)/\bt none a d
def forget{G:St->Prop}{s:St}(J:St->Prop)(h0:J s)(h:∀t,J t->G t):G s:=h s h0
def s7(l:List aV):(gl l).length=l.length:=by
 have:=ya l l.length (ao _)
 rwa [be]at this
def aak:CF GL f54 [45,53,83,93] [5] 54:=ji
def Fe:{p:la // aak.b.body.Jf[0]?=some p}:=⟨_,by cbv⟩
def OO(E:aJ)(M q:Nat)(a6:E.Y<=M)(e:aV)(p:List aV)(u:St)(K:u.Z 4=.mp M)(f:u.Z 5=.mp (M+1))(L:u.Z 6=.mp (M+2))(o:u.Z 8=.A 8 q 0)(r:u.G 8=q+1)(ul:u.loc 8 q=e.v.cells)
 (ad:u.E.mp M=some (.map (fp Name.v (gX I (m4 p))))) (ai:u.E.mp (M+1)=some (.map (fp I (gX I (m5 p))))) (aA:u.E.mp (M+2)=some (.map (fp I (gX I (m6 p))))) (Q:bt none E u.E) (aB:kQ (gX I (m4 p)) e.name (I 0)=I 0) (ab:St->Prop)
 (aC:∀v:St,(v.Z 5=.mp (M+1)/\v.Z 26=u.Z 26/\v.Z 8=.A 8 q 0/\v.G 8=q+1/\v.loc 8 q=e.v.cells/\v.E.mp M=some (.map (fp Name.v (gX I (kg (m4 p) e.name e.ei))))/\v.E.mp (M+1)=some (.map (fp I (gX I (m5 p))))/\v.E.mp (M+2)=some (.map (fp I (gX I (kg (m6 p) e.J e.ei))))/\bt none E v.E)->ab v):bV prog GL true Fe.1 u ab:=by
 have c3:=wh e;simp only[aV.v,V.cells]at ul;have N:=dm q;have ac:M≠M+1:=av;have R:M≠M+2:=av;have aD:M+1≠M+2:=av;obtain⟨t,y⟩:∃t,u.E.eM M (fp Name.v (jh (gX I (m4 p)) e.name (I 0)))=t:=⟨_,rfl⟩;have a0:t.mp M=some (.map (fp Name.v (jh (gX I (m4 p)) e.name (I 0)))):=by rw[<-y];exact bl _ _ _
 obtain⟨z,D⟩:∃z,t.eM M (fp Name.v (gX I (kg (m4 p) e.name e.ei)))=z:=⟨_,rfl⟩;have a1:z.mp (M+2)=some (.map (fp I (gX I (m6 p)))):=by rw[<-D,<-y];exact((bE _ _ R.symm).trans (bE _ _ R.symm)).trans aA
 obtain⟨d,H⟩:∃d,z.eM (M+2) (fp I (gX I (kg (m6 p) e.J e.ei)))=d:=⟨_,rfl⟩;have a2:d.mp M=some (.map (fp Name.v (gX I (kg (m4 p) e.name e.ei)))):=by rw[<-H,<-D];exact(bE _ _ R).trans (bl _ _ _)
 have a3:d.mp (M+1)=some (.map (fp I (gX I (m5 p)))):=by rw[<-H,<-D,<-y];exact((bE _ _ aD).trans ((bE _ _ ac.symm).trans (bE _ _ ac.symm))).trans ai
 have a4:d.mp (M+2)=some (.map (fp I (gX I (kg (m6 p) e.J e.ei)))):=by rw[<-H];exact bl _ _ _
 have a5:bt none E d:=by
  rw[<-H,<-D,<-y];exact⟨Q.box,λi P=>((bE _ _ av).trans ((bE _ _ av).trans (bE _ _ av))).trans (Q.mp i P),Q.Y⟩
 repeat any_goals first|simp only[gE,simprocAttr,Fe,K,f,L,o,r,ul,N]|refine lq c3 ?_|refine fg ?_ ?_
 all_goals refine yQ zU (a:=e.name) (l:=gX I (m4 p)) (id:=M) (fD:=u.E) sT sT sT ad (λi P=>?_);rw[aB]at P ⊢;rw[y];(repeat any_goals first|simp(disch:=try exact om) only[gE,simprocAttr,K,f,L,o,r,ul,N]|refine fg ?_ ?_)
 all_goals refine uR zU (a:=e.name) (l:=jh (gX I (m4 p)) e.name (I 0)) (id:=M) (j:=i) (fD:=t) (yv:=I e.ei) sT sT sT a0 P sT rfl ?_;rw[yg,qq,D];(repeat any_goals simp only[gE,simprocAttr,K,f,L,o,r,ul,N])
 all_goals refine nB Lh (a:=e.J) (l:=gX I (m6 p)) (id:=M+2) (fD:=z) (yv:=I e.ei) sT sT sT a1 sT rfl ?_;rw[qq,H];(repeat any_goals simp only[gE,simprocAttr,K,f,L,o,r,ul,N])
 all_goals first
  |exact aC _ ⟨by simp only[da,simprocAttr,f],by simp only[da,simprocAttr],by simp only[da,simprocAttr,o],by simp only[da,simprocAttr,r],by(simp only[da,simprocAttr];exact ul),by(simp only[da,simprocAttr];exact a2),by(simp only[da,simprocAttr];exact a3),by(simp only[da,simprocAttr];exact a4),by(simp only[da,simprocAttr];exact a5)⟩
  |skip
def OP(E:aJ)(Q:V)(o1:Q.one=true)(o2:Q.dW=false)(l:List aV)(bv:w4 Q=some (I l.length))(bU:G1 Q l E)(K:Nat)(e3:K<=l.length)(ci:∀k (h:k< (gl l).length),k<=K->(gl l)[k].good)(e5:l.length<20)
 (b2:∀k (h:k< (gl l).length),k<K->qX ((gl l).take k) (gl l)[k])
 (hb:∀h:K< (gl l).length,gR (m4 ((gl l).take K)) (gl l)[K].name=none/\(gl l)[K].seq≠(gR (m5 ((gl l).take K)) (gl l)[K].J).getD 0):aI 54 [Q] E λu _ b3=>u=.hE [I K,I (if K<l.length then 10 else 0)]/\bt none E b3:=by
 have hlen:=s7 l;refine bq aak.ok rfl ?_;repeat any_goals first|simp only[gE,simprocAttr,o1,o2,bv,HX.act]|refine cs ?_ ?_<;>intro h<;>try omega
 have aD:bt none E E.hI.hI.hI:=⟨λi a4 _=>rfl,λi a4=>by simp only[aJ.hI];rw[bE _ _ av,bE _ _ av,bE _ _ av],by simp only[aJ.hI];omega⟩;refine bm (h0:=E.hI.hI.hI) (by simp only[da,simprocAttr]) (bU _ aD) (by simp only[bN,ce,da,simprocAttr,bh,o2]) ag ?_;rintro _ _ h1 ⟨rfl,z⟩;have hS:bt none E h1:=aD.trans z;obtain⟨M,q⟩:∃M,E.Y=M:=⟨_,rfl⟩;have b5:E.Y<=M:=c8 q;have cp:h1.mp M=some (.map []):=by
  rw[z.mp M (by rw[<-q];simp only[aJ.hI];omega),<-q];simp only[aJ.hI];rw[bE _ _ av,bE _ _ av,bl]
 have p1:h1.mp (M+1)=some (.map []):=by
  rw[z.mp _ (by rw[<-q];simp only[aJ.hI];omega),<-q];simp only[aJ.hI];rw[bE _ _ av,bl]
 have c1:h1.mp (M+2)=some (.map []):=by
  rw[z.mp _ (by rw[<-q];simp only[aJ.hI];omega),<-q];simp only[aJ.hI];exact bl _ _ _
 rw[q];generalize e6:gl l=L at*
 repeat any_goals simp only[gE,simprocAttr,eI]
 refine dQ rfl rfl (λ(k:Nat) t=>k<=K/\t.Z 26=I k/\t.E.mp M=some (.map (fp Name.v (gX I (m4 (L.take k)))))/\t.E.mp (M+1)=some (.map (fp I (gX I (m5 (L.take k)))))/\t.E.mp (M+2)=some (.map (fp I (gX I (m6 (L.take k)))))/\bt none E t.E) (λk=>K-k) 0 ?_ ?_
 .refine⟨aL _,?_⟩;simp only[da,simprocAttr,bn];exact⟨cp,p1,c1,hS⟩
 rintro k t ⟨g1,a5,a6,g4,g5,R⟩ y;have ab:t.Z 4=.mp M:=by rw[y 4 dt];simp only[sE,simprocAttr];(done)
 have r:t.Z 5=.mp (M+1):=by rw[y 5 dt];simp only[sE,simprocAttr];(done)
 have o:t.Z 6=.mp (M+2):=by rw[y 6 dt];simp only[sE,simprocAttr];(done)
 have c2:t.Z 0=Q:=by rw[y 0 dt];simp only[sE,simprocAttr];(done)
 have a24:t.Z 24=eI L:=by rw[y 24 dt];simp only[sE,simprocAttr];(rfl)
 have a25:t.Z 25=I L.length:=by rw[y 25 dt];simp only[sE,simprocAttr];(done)
 clear y;rcases am k L.length with d|d
 .have a0:L[k].good:=ci k d g1;have c5:=J7 L[k] a0;have e4:=a0.enc.C;have c3:=wh L[k];have b6:=N9 L k (k0 d) L[k].J;have aB:=nP I (I 0) (m4 (L.take k));have c6:=nP I (I 0) (m5 (L.take k));have c7:=nP I (I 0) (m6 (L.take k));obtain⟨H,f⟩:∃c,(gR (m5 (L.take k)) L[k].J).getD 0=c:=⟨_,rfl⟩;obtain⟨a1,ac⟩:∃c,(gR (m6 (L.take k)) L[k].J).getD 0=c:=⟨_,rfl⟩;have c9:gR (m4 (L.take k)) L[k].name=none:=by
   rcases am k K with h|h
   .exact(b2 k d h).new
   .obtain rfl:k=K:=av;exact(hb d).1
  rw[f]at b6;have a7:kQ (gX I (m4 (L.take k))) L[k].name (I 0)=I 0/\zo (gX I (m4 (L.take k))) L[k].name=false:=by rw[(aB L[k].name).1,(aB L[k].name).2,c9];exact⟨rfl,rfl⟩
  have a8:kQ (gX I (m5 (L.take k))) L[k].J (I 0)=I H:=by rw[(c6 L[k].J).1,<-f];cases gR (m5 (L.take k)) L[k].J<;>rfl
  have dd:kQ (gX I (m6 (L.take k))) L[k].J (I 0)=I a1:=by rw[(c7 L[k].J).1,<-ac];cases gR (m6 (L.take k)) L[k].J<;>rfl
  repeat any_goals first|simp(disch:=try exact om) only[gE,simprocAttr,a5,ab,r,o,a24,a25,d,eI,aV.v,Op.v,Op.c,hG.v]|refine cs ?_ ?_<;>intro h<;>try omega|refine lq c5 ?_|refine lq c3 ?_
  refine jq zU (a:=L[k].name) (l:=gX I (m4 (L.take k))) (id:=M) (fD:=t.E) sT sT sT a6 ?_;rw[a7.1,a7.2];simp only[i5];repeat any_goals simp(disch:=try exact om) only[gE,simprocAttr,r,o]
  refine jq Lh (a:=L[k].J) (l:=gX I (m5 (L.take k))) (id:=M+1) (fD:=t.E) sT sT sT g4 ?_;rw[a8];simp only[i5];rcases am k K with ad|ad
  .obtain⟨_,a9,bi,dg⟩:=b2 k d ad;rw[f]at a9 bi;rw[ac]at bi;have b7:=RD d;have a2:=JS d;have ca:=RE d;rw[f]at a2;generalize L.take k=p at*
   have e7:H<=0\/a1<L[k].ei:=by
    by_cases h:0<H
    .exact .inr (bi h)
    .exact .inl av
   generalize L[k]=e at*
   repeat any_goals first|simp only[gE,simprocAttr,r,o,a9]|refine cs ?_ ?_<;>intro h<;>try exact absurd trivial h
   refine jq Lh (a:=e.J) (l:=gX I (m5 p)) (id:=M+1) (fD:=t.E) sT sT sT g4 ?_;rw[a8];simp only[i5];repeat any_goals first|simp only[gE,simprocAttr,r,o]|refine gz ?_ ?_<;>intro dp h<;>try simp only[dp]
   all_goals try(refine jq Lh (a:=e.J) (l:=gX I (m6 p)) (id:=M+2) (fD:=t.E) (by simp only[da,simprocAttr,o]) (by simp only[da,simprocAttr];try rfl) (by simp only[da,simprocAttr]) g5 ?_;rw[dd];simp only[i5];(repeat any_goals simp only[dq,simprocAttr,bh,r,o,bn,bQ,cw,cN,cx,b8]))
   all_goals
    refine p6 (D:=[2,3,12,14,15,16,71,72,73,74,75,76,77,78,79,80,81,82,83,84,85,86,87,88,89,90,91]) (bL:=[]) rfl (λj:Nat=>j<=e.C.length) (λj=>[(71,I j,false),(12,B false,false)]) (λj=>e.C.length-j) (0) rfl rfl (λ_=>rfl) (aL _) ?_ ?_ ?_;(·((simp only[fQ,fM,bK,cF];and_intros;all_goals(try(simp only[mS,simprocAttr]));all_goals(try(first|with_reducible exact .refl _|(intro h;cases h;done)))));all_goals(exact aj (ar V.bool (dY (by omega)))));(·((simp only[fQ,fM,bK,cF];and_intros)));rintro j fa;rcases am j e.C.length with ai|ai
    .obtain⟨tk,h1,fr⟩:=dg e.C[j] (ah _);have cb:kQ (gX I (m4 p)) e.C[j] (I 0)=I tk/\zo (gX I (m4 p)) e.C[j]=true:=by rw[(aB e.C[j]).1,(aB e.C[j]).2,h1];exact⟨rfl,rfl⟩
     repeat any_goals first|simp(disch:=try exact om) only[gE,simprocAttr,ai,ab]|refine bY ?_ ?_<;>intro h<;>(try simp only[h])<;>(try simp only[jc]at h)<;>try omega
     refine jq zU (a:=e.C[j]) (l:=gX I (m4 p)) (id:=M) (fD:={t.E with fl:=λ_ _=>false}) (by simp only[da,simprocAttr,ab]) (by simp only[da,simprocAttr];rfl) (by simp only[da,simprocAttr,rn]) a6 ?_;rw[cb.1,cb.2];simp only[i5];repeat any_goals first|simp(disch:=try exact om) only[dq,simprocAttr,bh,bn,bQ,cw,cN,cx,b8]|(refine⟨j+1,⟨?_⟩,⟨av⟩,?_⟩;rotate_left;focus (simp only[fQ,fM,bK,cF];and_intros;all_goals(try(simp only[mS,simprocAttr]));all_goals(try(first|(intro h;cases h;done)|(refine aj (ar I ?_);omega)))))
     all_goals first
      |omega
      |exact aj (ar V.bool (dY av))
      |(repeat first|with_reducible (first|exact Kept.refl _|refine ez ?_|refine eJ ?_|refine ek ?_|refine fX ?_|refine dT ?_)|(with_reducible refine en ?_ ?_;rotate_left;(simp only[pU,simprocAttr,bh]<;>first|done|omega|decide))|(with_reducible refine Sz ?_ sT sT sT))
    .obtain⟨pl,aA⟩:∃pl,Fe.1=pl:=⟨_,rfl⟩;have cc:=aA;simp only[Fe]at aA;simp only[aA];repeat any_goals first|simp only[dq,simprocAttr,ai,bh,ab,r,o,bn,bQ,cw,cN,cx,b8]|refine bY ?_ ?_<;>intro h<;>(try simp only[h])<;>(try simp only[jc]at h)<;>try omega
     refine forget (G:=λu=>bV prog GL true pl u _) (λu=>u.Z 4=.mp M/\u.Z 5=.mp (M+1)/\u.Z 6=.mp (M+2)/\u.Z 26=I k/\u.Z 8=.A 8 (t.G 8) 0/\u.G 8=t.G 8+1/\u.loc 8 (t.G 8)=e.v.cells/\u.E.mp M=some (.map (fp Name.v (gX I (m4 p))))/\u.E.mp (M+1)=some (.map (fp I (gX I (m5 p))))/\u.E.mp (M+2)=some (.map (fp I (gX I (m6 p))))/\bt none E u.E) ?_ ?_
     .simp only[da,simprocAttr,rn,ab,r,o,a5,aV.v,V.cells,Cx,a6,g4,g5];simp only[aO,aw,ay,cA,Nat.reduceAdd,a9];exact⟨trivial,⟨R.box,R.mp,R.Y⟩⟩
     rintro u ⟨ds,dF,dU,N,ea,eb,ul,ed,el,et,eN⟩;rw[<-cc];refine OO E M (t.G 8) b5 e p u ds dF dU ea eb ul ed el et eN a7.1 _ ?_;rintro v ⟨bo,P,br,bc,aC,e1,ch,e2,bs⟩;simp only[aV.v,V.cells]at aC;have bu:=dm (t.G 8);repeat any_goals simp only[gE,simprocAttr,bo,P,br,bc,aC,bu,N]
     refine jq Lh (a:=e.J) (l:=gX I (m5 p)) (id:=M+1) (fD:=v.E) sT sT sT ch ?_;rw[a8];simp only[i5];repeat any_goals simp(disch:=omega) only[gE,simprocAttr,bo,P,br,bc,aC,bu,N]
     refine nB Lh (a:=e.J) (l:=gX I (m5 p)) (id:=M+1) (fD:=v.E) (yv:=I (H+1)) sT sT sT ch sT rfl ?_;rw[qq];repeat any_goals simp(disch:=omega) only[gE,simprocAttr,bo,P,br,bc,aC,bu,N]
     refine⟨k+1,⟨?_⟩,⟨av⟩⟩;rw[b7,a2,ca];refine⟨ad,by(simp only[sE,simprocAttr,P,N]);exact ar (V.int .i64) av,?_,?_,?_,?_⟩
     .simp only[sE,simprocAttr];exact(bE _ _ (show M≠M+1 by omega)).trans e1
     .simp only[sE,simprocAttr];try exact bl _ _ _
     .simp only[sE,simprocAttr];exact(an av).trans e2
     .simp only[da,simprocAttr,bn];exact⟨bs.box,λi a4=>(bE _ _ (show i≠M+1 by omega)).trans (bs.mp i a4),bs.Y⟩
  .obtain rfl:k=K:=av;have a3:=(hb d).2;rw[f]at a3;rw[show(if k<l.length then(10:Int)else 0)=10 from ax av];repeat any_goals first|simp only[gE,simprocAttr,r,o,a3]|refine cs ?_ ?_<;>intro h<;>try omega
   exact⟨nE,_,_,uG rfl rfl rfl rfl,rfl,R⟩
 .obtain rfl:k=L.length:=av;obtain rfl:L.length=K:=av;rw[show(if L.length<l.length then(10:Int)else 0)=0 from an av];repeat any_goals first|simp only[gE,simprocAttr,a5,c2,a24,a25,o1,o2,bv,eI]|refine cs ?_ ?_<;>intro h<;>try omega
  exact⟨nE,_,_,uG rfl rfl rfl rfl,by(simp only[da,simprocAttr]);rw[hlen],R⟩
def gh.OQ{sz:Nat}{h:aJ}{v:V}{xs:List V}{fz:ak}(hm:gh sz h v xs)(f:∀i,bH v=some i->fz i=h.box i):V.lM fz v (.sl sz xs):=by
 obtain⟨ho,⟨rfl,rfl⟩|⟨id,c,rest,rfl,dV,hb,o,p⟩⟩:=hm
 .exact .aP sz
 .refine .ms sz id 0 xs.length c (b1 xs++rest) (b1 xs++rest) xs ((f id rfl).trans hb) rfl (λj a b l d=>?_) rfl λi x hx=>?_
  .rw[l]at d;cases d;exact .refl _
  .exact Xr
def qZ{h:aJ}{X:List Nat}{n:Nat}(a:∀i∈X,n<=i)(i:Nat)(d:i<n):(h.less X).box i=h.box i:=by
 simp only[aJ.less];rw[an (λe=>by have:=a i e;omega)]
def Gl.OQ{E:aJ}{fz:ak}:∀{N:List (ID×V)} {nx:List (ID×List ID)},Gl E N nx->(∀i∈gy N,fz i=E.box i)->N.length=nx.length/\∀(j:Nat) c d,(fp ID.v N)[j]?=some c->(fp ID.v (gX eZ nx))[j]?=some d->V.lM fz c.1 d.1/\V.lM fz c.2 d.2
 |[],[],_,_=>⟨rfl,λj c d h=>by simp[fp]at h⟩
 |x::r,y::s,⟨p,q,t⟩,o=>by
  obtain⟨q1,u⟩:=Gl.OQ t (λi a=>o i (aY _ a));refine⟨by simp[q1],λj c d f l=>?_⟩;cases j with
  |zero=>
   simp only[fp,gX,bw,ew,co]at f l;subst f;subst l;exact⟨by simp only[p];exact .refl _,q.OQ λi a=>o i (ck _ (by simp[a]))⟩
  |succ j=>exact u j c d (by simpa[fp]using f) (by simpa[fp,gX]using l)
 |[],_::_,h,_=>h.elim
 |_::_,[],h,_=>h.elim
def HQ.give{base E:aJ}{dV f q tid:Nat}{ev l ed:V}{N:List (ID×V)}{H:g9}{ts:List (T×hG)}(Q:HQ base E dV ev l ed f q N H tid ts):
 ∃fz t,jD fz E t/\V.lM fz (.bp dV 0) (H.v f q)/\H.maps t f q/\bt none base t:=by
 have D:∀i∈mV dV ev l ed N,base.Y<=i:=λi a=>(Q.bd i a).1;have o:∀i∈mV dV ev l ed N,oE E (mV dV ev l ed N) i=E.box i:=λi a=>pm a;have y:=mf E (mV dV ev l ed N);have K:=Q.nx.OQ (fz:=oE E (mV dV ev l ed N)) (λi a=>o i (dh.2 (.inr (.inr (.inr (.inr a))))));refine⟨oE E (mV dV ev l ed N),{(E.less (mV dV ev l ed N))with mp:=eR E.mp f (some (.map (fp ID.v (gX eZ H.next))))},⟨y.Cu,y.box,y.fl,λi z e=>?_,ao _⟩,?_,⟨bl _ _ _,(bE _ _ Q.md.1.symm).trans Q.lm,Q.mb.1.2,Q.mb.2.1.2⟩,⟨λi a _=>?_,λi a=>?_,Q.same.Y⟩⟩
 .by_cases a:i=f
  .subst a;have u:eR E.mp i (some (.map (fp ID.v (gX eZ H.next)))) i=some z:=e;rw[bl]at u;obtain rfl:=au u;refine⟨_,Q.nm,?_,K.2⟩;simp only[fp,gX,aq];exact K.1
  .have u:eR E.mp f (some (.map (fp ID.v (gX eZ H.next)))) i=some z:=e;rw[bE _ _ a]at u;exact⟨z,u,.refl _⟩
 .have hb:=o dV (dh.2 (.inl rfl));rw[Q.box]at hb;refine V.lM.bp dV 0 _ [eI H.eo,jZ H.void,cd H.bW.O,CI H.jx,.mp f,.mp q] hb rfl λj c d p r=>?_
  match j with
  |0=>cases p;cases r;exact Q.fe.OQ λi a=>o i (dh.2 (.inr (.inl a)))
  |1=>cases p;cases r;exact Q.fv.OQ λi a=>o i (dh.2 (.inr (.inr (.inl a))))
  |2=>cases p;cases r;exact .refl _
  |3=>cases p;cases r;exact Q.fd.OQ λi a=>o i (dh.2 (.inr (.inr (.inr (.inl a)))))
  |4=>cases p;cases r;exact .refl _
  |5=>cases p;cases r;exact .refl _
  |j+6=>cases p
 .exact(qZ D i a).trans (Q.same.box i a bR)
 .exact(bE _ _ (by have:=Q.mb.1.1;omega)).trans (Q.same.mp i a)
structure y5(x:g9×List (T×hG))(p:List aV):Prop where
 eo:x.1.eo=p
 void:x.1.void.length<=p.length
 bW:x.1.bW.ok
 next:uQ x.1.next (p.length*1200000)
 jx:x.1.jx.length<=p.length
 G7:∀e∈x.1.jx,e.1.ok/\fy e.1=0
 ts:x.2.length<=p.length
 nd:(x.2.map (·.1)).Nodup
 key:∀y∈x.2,y.1.length<=1000000
def Kf{e:aV}(h:e.good):e.op.ok/\(∀t∈e.op.F,t.length<=10000)/\e.op.cX.length<=100000:=by
 obtain⟨_,_,_,a,d,_⟩:=h.enc.op;exact⟨h.ok.2.1,λt f=>by have:=a t f;omega,d⟩
def GJ{α β:Type}[DecidableEq α](l:List (α×β))(a:α)(b:β):(kg l a b).length<=l.length+1:=by
 induction l with
 |nil=>simp[kg]
 |cons x r ih=>unfold kg;split<;>simp<;>omega
def GK{α β:Type}[DecidableEq α]{l:List (α×β)}{a:α}{b:β}{y:α×β}(h:y∈kg l a b):y=(a,b)\/y∈l:=by
 induction l with
 |nil=>simp[kg]at h;exact .inl h
 |cons x r ih=>
  unfold kg at h;split at h
  .rcases bC.1 h with h|h
   .exact .inl h
   .exact .inr (eF _ h)
  .rcases bC.1 h with h|h
   .exact .inr (by simp[h])
   .rcases ih h with h|h
    .exact .inl h
    .exact .inr (eF _ h)
def Ca{n:List (ID×List ID)}{k d:Nat}(h:uQ n k)(f:k<=d):uQ n d:=λa=>aQ (h a) f
def y5.step{x:g9×List (T×hG)}{p:List aV}(h:y5 x p){e:aV}(d:e.good):y5 (yT x e) (p++[e]):=by
 obtain⟨g1,t,u⟩:=Kf d;have z:(p++[e]).length=p.length+1:=bR;have key:∀(b:Bool)(H:g9)(ts:List (T×hG)),H.eo=p++[e]->H.void.length<=p.length->H.bW.ok->uQ H.next ((p++[e]).length*1200000)->H.jx.length<=p.length+1->(∀e∈H.jx,e.1.ok/\fy e.1=0)->ts.length<=p.length+1->(ts.map (·.1)).Nodup->(∀y∈ts,y.1.length<=1000000)->y5 (if b=true then H else {H with void:=H.void++[e.name]},ts) (p++[e]):=by
  intro b H ts h1 f j l L o N q r;cases b with
  |true=>exact⟨h1,by simp only[bQ];omega,j,l,by simp only[bQ];omega,o,by simp only;omega,q,r⟩
  |false=>exact⟨h1,by simp;omega,j,l,by simp;omega,o,by simp;omega,q,r⟩
 have hn:uQ x.1.next ((p++[e]).length*1200000):=Ca h.next av;unfold yT Ln;simp only;have P:=h.void;have K:=h.jx;have Px:=h.ts;split
 .unfold BL;simp only;split
  .refine key _ _ _ (by simp only[h.eo]) (by simp only;omega) (E8 h.bW g1 t _) ?_ (by simp only;omega) h.G7 (eY Px) h.nd h.key;have Q:=Ka h.bW u e.name;refine Ca (wt _ h.next) ?_;simp only[z];omega
  .exact T2
 .split
  .split
   .exact T2
   next D=>
    refine key _ _ _ (by simp only[h.eo]) (by simp only;omega) h.bW hn (by simp only[ae,eu];omega) (λy a=>?_) (eY Px) h.nd h.key;rcases aR.1 a with h1|h1
    .exact h.G7 y h1
    .obtain rfl:=bg.1 h1;exact⟨h.bW,cJ λf=>D (.inr f)⟩
  .split
   .refine key _ _ _ (by simp only[h.eo]) (by simp only;omega) h.bW hn (by simp only;omega) h.G7 (aQ (GJ _ _ _) (lz Px)) (H8 h.nd _ _) (λy a=>?_);rcases GK a with rfl|a
    .exact d.ok.2.2.1.1
    .exact h.key y a
   .exact T2
def y5.zero:y5 (xn,[]) []:=⟨rfl,ao _,⟨by simp[xn],λv h=>(by cases h),by simp[xn,dx,lP]⟩,λa=>by simp[xn,gR],ao _,λe h=>(by cases h),ao _,.nil,λy h=>(by cases h)⟩
def pS(l:List aV)(k:Nat):g9×List (T×hG):=(l.take k).foldl yT (xn,[])
def uU{l:List aV}{k:Nat}(h:k<l.length):pS l (k+1)=yT (pS l k) l[k]:=by
 unfold pS;rw[bj h,dl];rfl
def sn{l:List aV}(a:∀e∈l,e.good):∀k,k<=l.length->y5 (pS l k) (l.take k)
 |0,_=>by simpa[pS]using y5.zero
 |k+1,h=>by
  rw[uU (show k<l.length from h),bj (show k<l.length from h)];exact(sn a k av).step (a _ (ah _))
def uV(l:List aV):kH l=(pS l l.length).1:=by unfold kH pS;rw[be]
def sq(l:List ID):List (ID×V):=l.map λa=>(a,B true)
def xD(a:ID):∀l:List ID,kQ (sq l) a (B false)=B (decide (a∈l))
 |[]=>rfl
 |x::r=>by
  have ih:=xD a r;unfold sq at ih ⊢
  rw[bw,kQ];by_cases h:a=x
  .simp[h]
  .simp only[h,cE,ih,bC,rV]
def GM(a:ID):∀l:List ID,a∉l->jh (sq l) a (B true)=sq (l++[a])
 |[],_=>rfl
 |x::r,h=>by
  have ih:=GM a r (λd=>h (eF _ d));unfold sq at ih ⊢
  have d:a≠x:=λe=>h (by simp[e]);rw[bw,jh];simp only[d,cE,ih,aZ,bw]
def GN(a:ID):∀l:List ID,jh (sq l) a (B true)=sq (if a∈l then l else l++[a])
 |[]=>rfl
 |x::r=>by
  have ih:=GN a r;unfold sq at ih ⊢
  rw[bw,jh];by_cases h:a=x
  .subst h;simp
  .simp only[h,cE,ih,bC,rV];split<;>simp
def Cb(mB tB oB pB hB fB:Nat):List V:=[.bp mB 0,.bp tB 0,.bp oB 0,.bp pB 0,.bp hB 0,.bp fB 0]
structure LQ(base E:aJ)(mB tB oB pB hB fB M T kI kO:Nat)(H:g9)(th:List ID)(p:aK)(met:List ID)(ov:V)(out:List cR):Prop where
 m1:E.box mB=some [.mp M]
 m2:E.mp M=some (.map (fp ID.v (sq met)))
 t1:E.box tB=some [.mp T]
 t2:E.mp T=some (.map (fp ID.v (sq th)))
 o1:E.box oB=some [ov]
 o2:gh 6 E ov (out.map cR.v)
 p1:E.box pB=some p.v.cells
 h1:E.box hB=some [H.v kI kO]
 f1:E.box fB=some [.fn 63 (Cb mB tB oB pB hB fB)]
 mp:H.maps E kI kO
 ne:oB≠mB/\oB≠tB/\oB≠pB/\oB≠hB/\oB≠fB
 ov:∀i,bH ov=some i->i≠oB/\i≠mB/\i≠tB/\i≠pB/\i≠hB/\i≠fB/\base.Y<=i
 bd:mB<E.Y/\tB<E.Y/\oB<E.Y/\pB<E.Y/\hB<E.Y/\fB<E.Y
 mm:M≠T/\M≠kI/\M≠kO/\base.Y<=M/\M<E.Y/\base.Y<=oB/\T<E.Y
 same:bt none base E
section
variable {base E nv Uc:aJ}{mB tB oB pB hB fB M T kI kO:Nat}{H:g9}{th:List ID}{p:aK}{met:List ID}{ov:V}{out:List cR}
def LQ.meet(Q:LQ base E mB tB oB pB hB fB M T kI kO H th p met ov out){a:ID}(d:a∉met):LQ base (E.eM M (fp ID.v (jh (sq met) a (B true)))) mB tB oB pB hB fB M T kI kO H th p (met++[a]) ov out:=
 {
  Q with
  m2:=by rw[GM a met d];exact bl _ _ _
  t2:=(bE _ _ Q.mm.1.symm).trans Q.t2
  o2:=Q.o2.frame (λ_ _=>rfl) (ao _)
  mp:=⟨(bE _ _ Q.mm.2.1.symm).trans Q.mp.1,(bE _ _ Q.mm.2.2.1.symm).trans Q.mp.2.1,Q.mp.2.2⟩
  same:=⟨Q.same.box,λi f=>(bE _ _ (by have:=Q.mm.2.2.2.1;omega)).trans (Q.same.mp i f),Q.same.Y⟩}
def LQ.link(Q:LQ base E mB tB oB pB hB fB M T kI kO H th p met ov out){v':V}{x:cR}(hS:bt (bH ov) E nv)(hm:gh 6 nv v' (out.map cR.v++[x.v]))(o:bH v'=bH ov\/bH v'=some E.Y)
 (tb:Uc.box=eR nv.box oB (some [v'])) (tm:Uc.mp=nv.mp) (a:Uc.Y=nv.Y):LQ base Uc mB tB oB pB hB fB M T kI kO H th p met v' (out++[x]):=by
 obtain⟨q,r,aC,t,u,y⟩:=Q.bd;obtain⟨z,D,K,L,N⟩:=Q.ne;obtain⟨q1,P,R,ab,ac,ad,ai⟩:=Q.mm;have aD:=hS.Y;have a0:=Q.same.Y;have fr:∀j c,j<E.Y->oB≠j->(∀i,bH ov=some i->i≠j)->E.box j=c->Uc.box j=c:=λj c f h1 aA aB=>by
  rw[tb,bE _ _ h1.symm,hS.box j f (λe=>aA j e rfl)];exact aB
 have d:∀j c,j<E.Y->E.mp j=c->Uc.mp j=c:=λj c f h=>by rw[tm,hS.mp j f];exact h
 have l:∀i,bH v'=some i->i≠oB/\i≠mB/\i≠tB/\i≠pB/\i≠hB/\i≠fB/\base.Y<=i:=λi h=>by
  rcases o with h1|h1
  .exact Q.ov i (h1▸h)
  .rw[h1]at h;cases h;omega
 exact {
  m1:=fr _ _ q z (λi h=>(Q.ov i h).2.1) Q.m1
  m2:=d _ _ ac Q.m2
  t1:=fr _ _ r D (λi h=>(Q.ov i h).2.2.1) Q.t1
  t2:=d _ _ ai Q.t2
  o1:=by rw[tb,bl]
  o2:=by
   rw[aE];exact hm.frame (λi h=>by rw[tb];exact bE _ _ (l i h).1) (c8 a.symm)
  p1:=fr _ _ t K (λi h=>(Q.ov i h).2.2.2.1) Q.p1
  h1:=fr _ _ u L (λi h=>(Q.ov i h).2.2.2.2.1) Q.h1
  f1:=fr _ _ y N (λi h=>(Q.ov i h).2.2.2.2.2.1) Q.f1
  mp:=⟨d _ _ Q.mp.2.2.1 Q.mp.1,d _ _ Q.mp.2.2.2 Q.mp.2.1,by rw[a];have:=Q.mp.2.2;omega⟩
  ne:=Q.ne
  ov:=l
  bd:=by rw[a];omega
  mm:=⟨q1,P,R,ab,by rw[a];omega,ad,by rw[a];omega⟩
  same:=⟨λi h _=>by
   rw[tb,bE _ _ av,hS.box i av (λe=>by have:=(Q.ov i e).2.2.2.2.2.2;omega)];exact Q.same.box i h bR,λi h=>by rw[tm,hS.mp i av];exact Q.same.mp i h,by rw[a];omega⟩}
end
def TJ:fL prog 63=true:=by kernel_rfl
def aal:CF GL f63 [24] [8] 63:=ji
def VL(base:aJ)(mB tB oB pB hB fB M T kI kO:Nat)(H:g9)(th:List ID)(p:aK)(U:List ID)(a0:∀a∈U,∀b∈im H.next a,b∈U)(a5:∀a,(im H.next a).length<=1000000)(C:Nat)(hC:C+U.length<=1000000000):
 ∀(f:Nat)(E:aJ)(met:List ID)(ov:V)(out:List cR)(a:ID),LQ base E mB tB oB pB hB fB M T kI kO H th p met ov out->a∈U->tA U met<=f->(∀z∈met,z∈U)->met.Nodup->out.length<=met.length+C->
 aI 63 (a.v::Cb mB tB oB pB hB fB) E λ_ _ r=>∃j,LQ base r mB tB oB pB hB fB M T kI kO H th p (tK (im H.next) (λa=>decide (a∈th)) p.id f (met,out) a).1 j (tK (im H.next) (λa=>decide (a∈th)) p.id f (met,out) a).2:=by
 intro f;induction f with
 |zero=>
  intro E met ov out a Q K b6 N a1 b7;have d:a∈met:=by
   refine cJ λh=>?_;have:=Gv K h;omega
  refine bq aal.ok rfl ?_;have q1:=Q.m1;repeat' simp only[gE,simprocAttr,Cb,ID.v,q1]
  refine jq qS (a:=a) (l:=sq met) (id:=M) (fD:=E) sT sT sT Q.m2 ?_;rw[xD,db d];simp only[i5];repeat' simp only[gE,simprocAttr]
  exact⟨nE,.hE [],_,rfl,ov,Q⟩
 |succ f ih=>
  intro E met ov out a Q K b6 N a1 b7;refine bq aal.ok rfl ?_;have q1:=Q.m1;repeat' simp only[gE,simprocAttr,Cb,ID.v,q1]
  refine jq qS (a:=a) (l:=sq met) (id:=M) (fD:=E) sT sT sT Q.m2 ?_;rw[xD];simp only[i5];by_cases d:a∈met
  .rw[db d];repeat' simp only[gE,simprocAttr]
   rw[show tK (im H.next) (λa=>decide (a∈th)) p.id (f+1) (met,out) a=(met,out)by rw[tK,ax d]];exact⟨nE,.hE [],_,rfl,ov,Q⟩
  rw[dY d];have a6:tK (im H.next) (λa=>decide (a∈th)) p.id (f+1) (met,out) a=(im H.next a).foldl (tK (im H.next) (λa=>decide (a∈th)) p.id f) (met++[a],if decide (a∈th)=true then out++[⟨p.id,a⟩]else out):=by rw[tK,an d]
  rw[a6];repeat' simp only[gE,simprocAttr,q1]
  refine nB qS (a:=a) (l:=sq met) (id:=M) (fD:=E) (yv:=B true) sT sT sT Q.m2 sT rfl ?_;have Q1:=Q.meet d;generalize E.eM M (fp ID.v (jh (sq met) a (B true)))=h1 at*
  repeat' simp only[gE,simprocAttr]
  refine ec (sJ (J:=λt=>t.Z 5=.bp hB 0/\t.Z 6=.bp fB 0/\t.Z 7=.A 7 0 0/\t.G 7=1/\t.loc 7 0=[I a.J,I a.seq,I a.k]/\∃j,LQ base t.E mB tB oB pB hB fB M T kI kO H th p (met++[a]) j (if decide (a∈th)=true then out++[⟨p.id,a⟩]else out)) ?_ ?_)
  .have ca:=Q1.t1;have a7:=Q1.o1;have a8:=Q1.p1;simp only[aK.v,V.cells]at a8;have o1:=Q1.o2.one;repeat' simp only[gE,simprocAttr,ca]
   refine jq qS (a:=a) (l:=sq th) (id:=T) (fD:=h1) sT sT sT Q1.t2 ?_;rw[xD];simp only[i5];by_cases a9:a∈th
   .rw[db a9];repeat' simp only[gE,simprocAttr,a7,a8,o1]
    refine iE (xs:=out.map cR.v) (ys:=[(⟨p.id,a⟩:cR).v]) ?_ ?_ ?_ ?_ ?_ rfl ?_ ?_ λa2 r o hb cb=>?_
    .simp only[sE];exact Q1.o2.frame (λ_ _=>rfl) (ao _)
    .exact sT
    .intro y ac;simp at ac;subst ac;rfl
    .exact sT
    .simp only[sE];intro l cc;cases cc
    .have et:=a1.length_le_of_subset (l₂:=U) N;exact PD
    .intro _ ch;cases ch
    have bi:=o.one;have ci:=o.fS;have ad:bt (bH ov) h1 r:=sR hb;have bo:bH a2=bH ov\/bH a2=some h1.Y:=sR cb;have eN:r.box oB=some [ov]:=(ad.box oB Q1.bd.2.2.1 (λe=>(Q1.ov oB e).1 rfl)).trans a7;repeat' simp only[gE,simprocAttr,bi,ci]
    refine cC (n:=1) (off:=0) (cells:=[ov]) ?_ ?_ bR λe1 te tc tl tb tm cp e2=>?_
    .exact sT
    .simp only[sE];simp[jR,bi,o.kb]
    have ai:=tb.trans sT;simp only[o.kb,aO,aw,ay]at ai;have br:=cp.trans sT;have bs:=tm.trans sT;repeat' simp only[gE,simprocAttr,te,tc,tl]
    exact⟨a2,Q1.link ad (by rw[<-List.map_singleton];exact o) bo ai bs br⟩
   .rw[dY a9];repeat' simp only[gE,simprocAttr]
    exact⟨ov,Q1⟩
  .rintro t ⟨c1,c2,c5,c6,c7,j,Q2⟩;have bu:=Q2.h1;simp only[g9.v]at bu;repeat' first|simp only[gE,simprocAttr,c1,c2,c5,c6,c7,bu]|refine fg ?_ ?_
   obtain⟨q,P⟩:∃q,kQ (gX eZ H.next) a .aP=q:=⟨_,rfl⟩;have bv:0< (im H.next a).length->q=eZ (im H.next a):=by
    rw[<-P,(nP eZ .aP H.next a).1];unfold im;cases gR H.next a with
    |none=>intro h;exact absurd h bR
    |some l=>intro _;rfl
   have bU:w4 q=some (I (im H.next a).length)/\q.one=true/\q.dW=false:=by
    rw[<-P,(nP eZ .aP H.next a).1];unfold im;cases gR H.next a with
    |none=>exact⟨rfl,rfl,rfl⟩
    |some l=>exact⟨by simp[eZ,w4],rfl,rfl⟩
   obtain⟨c9,dd,dg⟩:=bU;all_goals
    refine jq qS (a:=a) (l:=gX eZ H.next) (id:=kI) (fD:=t.E) sT sT sT Q2.mp.1 ?_;rw[P];simp only[i5];repeat' simp only[gE,simprocAttr,c9,dd,dg]
    obtain⟨o1,aA⟩:∃o1,(if decide (a∈th)=true then out++[(⟨p.id,a⟩:cR)]else out)=o1:=⟨_,rfl⟩;have dU:o1.length<=out.length+1:=by rw[<-aA];split<;>simp
    rw[aA]at Q2 ⊢
    have ea:=Gv K d;refine dQ rfl rfl (λ(k:Nat) u=>k<=(im H.next a).length/\u.Z 32=I k/\∃D,LQ base u.E mB tB oB pB hB fB M T kI kO H th p (((im H.next a).take k).foldl (tK (im H.next) (λa=>decide (a∈th)) p.id f) (met++[a],o1)).1 D (((im H.next a).take k).foldl (tK (im H.next) (λa=>decide (a∈th)) p.id f) (met++[a],o1)).2) (λk=>(im H.next a).length-k) 0 ?_ ?_
    .exact⟨aL _,by simp only[sE,simprocAttr],j,by(simp only[sE,simprocAttr]);exact Q2⟩
    rintro k u ⟨g1,a3,D,Q3⟩ L;have dp:u.Z 6=.bp fB 0:=(L 6 dt).trans sT;have aB:u.Z 30=q:=(L 30 dt).trans sT;have aC:u.Z 31=I (im H.next a).length:=(L 31 dt).trans sT;clear L;rcases am k (im H.next a).length with R|R
    .have a4:=bv av;rw[a4]at aB;have aD:=DL (nx:=im H.next) (th:=λa=>decide (a∈th)) (p:=p.id) f ((im H.next a).take k) (met++[a],o1);have ab:=J6 (nx:=im H.next) (th:=λa=>decide (a∈th)) (p:=p.id) a0 f ((im H.next a).take k) (met++[a],o1) (λb hb=>a0 a K b (eE hb)) (λz L=>by
      rcases aR.1 L with h1|h1
      .exact N z h1
      .obtain rfl:=bg.1 h1;exact K) (aU.2 ⟨a1,bR,λx hx y ac e=>by obtain rfl:=bg.1 ac;subst e;exact d hx⟩)
     have b2:((im H.next a).take (k+1)).foldl (tK (im H.next) (λa=>decide (a∈th)) p.id f) (met++[a],o1)=tK (im H.next) (λa=>decide (a∈th)) p.id f (((im H.next a).take k).foldl (tK (im H.next) (λa=>decide (a∈th)) p.id f) (met++[a],o1)) (im H.next a)[k]:=by rw[bj R,dl];rfl
     generalize ((im H.next a).take k).foldl (tK (im H.next) (λa=>decide (a∈th)) p.id f) (met++[a],o1)=S at*
     obtain⟨m2,o2⟩:=S;simp only at aD ab Q3;have eb:tA U m2<=tA U (met++[a]):=Gu aD.1;have ed:(met++[a]).length=met.length+1:=bR;have c:=ih u.E m2 D o2 (im H.next a)[k] Q3 (a0 a K _ (ah R)) av ab.1 ab.2 av;have b3:=Q3.f1;simp only[Cb]at b3;have ds:=a5 a;repeat' first|simp(disch:=try exact om) only[gE,simprocAttr,a3,dp,aB,aC,b3,R,eZ]|refine cs ?_ ?_<;>intro h<;>try omega
     refine kv (h0:=u.E) sT sT TJ c ?_ ?_ ?_
     .exact sT
     .refine nG ?_;simp only[dL]<;>rfl
     rintro _ _ el ⟨b5,dF⟩;repeat' simp(disch:=omega) only[gE,simprocAttr,a3]
     refine⟨k+1,⟨?_⟩,⟨av⟩⟩;refine⟨R,by(simp only[sE]);exact ar (V.int .i64) av,b5,?_⟩;rw[b2];simp only[da,bn];exact dF
    .obtain rfl:k=(im H.next a).length:=av;rw[be]at Q3;repeat' first|simp only[gE,simprocAttr,a3,aC]|refine cs ?_ ?_<;>intro h<;>try omega
     exact⟨nE,.hE [],_,rfl,D,Q3⟩
def CJ(l:List ID)(a:ID):List ID:=if a∈l then l else l++[a]
def OR{l:List ID}{a z:ID}:z∈CJ l a↔z∈l\/z=a:=by
 unfold CJ;split
 next h=>exact⟨.inl,λd=>d.elim id λe=>e▸h⟩
 .simp
def LJ(l:List ID):∀(s:List ID)(z:ID),z∈l.foldl CJ s↔z∈s\/z∈l:=by
 induction l with
 |nil=>intro s z;simp
 |cons a r ih=>intro s z;rw[fo,ih,OR,bC,or_assoc]
structure TQ(base h:aJ)(b kI kO:Nat)(H:g9)(th:List ID):Prop where
 h1:h.box b=some [H.v kI kO]
 t1:h.box (b+2)=some [.mp (b+1)]
 t2:h.mp (b+1)=some (.map (fp ID.v (sq th)))
 mp:H.maps h kI kO
 same:bt none base h
 Y:b+3<=h.Y
 bb:base.Y<=b
 mm:kI<b/\kO<b
def TQ.add{base h:aJ}{b kI kO:Nat}{H:g9}{th:List ID}(Q:TQ base h b kI kO H th)(a:ID):TQ base (h.eM (b+1) (fp ID.v (jh (sq th) a (B true)))) b kI kO H (CJ th a):=by
 have f:=Q.bb;have j:=Q.mm;exact {Q with
  t2:=by rw[GN];exact bl _ _ _
  mp:=⟨(bE _ _ (show kI≠b+1 by omega)).trans Q.mp.1,(bE _ _ (show kO≠b+1 by omega)).trans Q.mp.2.1,Q.mp.2.2⟩
  same:=⟨Q.same.box,λi d=>(bE _ _ (show i≠b+1 by omega)).trans (Q.same.mp i d),Q.same.Y⟩}
structure UQ(base h:aJ)(b c kI kO:Nat)(H:g9)(th:List ID)(ov:V)(out:List cR):Prop where
 h1:h.box b=some [H.v kI kO]
 t1:h.box (b+2)=some [.mp (b+1)]
 t2:h.mp (b+1)=some (.map (fp ID.v (sq th)))
 o1:h.box c=some [ov]
 o2:gh 6 h ov (out.map cR.v)
 ovn:∀i,bH ov=some i->i≠c/\i≠b/\i≠b+2/\base.Y<=i
 mp:H.maps h kI kO
 same:bt none base h
 Y:c<h.Y
 bc:b+3<=c
 bb:base.Y<=b
 mm:kI<b/\kO<b
def UQ.start{base h d:aJ}{b c kI kO:Nat}{H:g9}{th:List ID}{ov:V}{out:List cR}(Q:UQ base h b c kI kO H th ov out)(p:aK)
 (l:d.box=eR (eR (eR h.box h.Y (some p.v.cells)) (h.Y+2) (some [.mp (h.Y+1)])) (h.Y+3) (some [.fn 63 (Cb (h.Y+2) (b+2) c h.Y b (h.Y+3))]))
 (q:d.mp=eR h.mp (h.Y+1) (some (.map []))) (t:d.Y=h.Y+4):LQ base d (h.Y+2) (b+2) c h.Y b (h.Y+3) (h.Y+1) (b+1) kI kO H th p [] ov out:=by
 have r:=Q.Y;have u:=Q.bc;have y:=Q.bb;have z:=Q.mm;have D:=Q.same.Y;have old:∀j,j<h.Y->d.box j=h.box j:=λj f=>by rw[l,bE _ _ av,bE _ _ av,bE _ _ av]
 have a:∀j,j<h.Y->d.mp j=h.mp j:=λj f=>by rw[q,bE _ _ av]
 exact {
  m1:=by rw[l,bE _ _ av,bl]
  m2:=by rw[q,bl];rfl
  t1:=(old _ av).trans Q.t1
  t2:=(a _ av).trans Q.t2
  o1:=(old _ r).trans Q.o1
  o2:=Q.o2.frame (λi o=>old i (Q.o2.Bd o)) av
  p1:=by rw[l,bE _ _ av,bE _ _ av,bl]
  h1:=(old _ av).trans Q.h1
  f1:=by rw[l,bl]
  mp:=⟨(a _ av).trans Q.mp.1,(a _ av).trans Q.mp.2.1,av,av⟩
  ne:=av
  ov:=λi o=>by
   have:=Q.ovn i o;have:=Q.o2.Bd o;omega
  bd:=av
  mm:=av
  same:=⟨λj f _=>(old j av).trans (Q.same.box j f bR),λj f=>(a j av).trans (Q.same.mp j f),av⟩}
def UQ.back{base h f:aJ}{b c kI kO mB pB fB M:Nat}{H:g9}{th:List ID}{ov d:V}{out a:List cR}{p:aK}{met:List ID}(Q:UQ base h b c kI kO H th ov out)(L:LQ base f mB (b+2) c pB b fB M (b+1) kI kO H th p met d a):UQ base f b c kI kO H th d a:=
 ⟨L.h1,L.t1,L.t2,L.o1,L.o2,λi j=>by have:=L.ov i j;omega,L.mp,L.same,L.bd.2.2.1,Q.bc,Q.bb,Q.mm⟩
def Iz(E:aJ)(H:g9)(kI kO:Nat)(bv:H.maps E kI kO)(dp:∀e∈H.jx,e.1.ok)(ds:∀e∈H.jx,(dx e.1).length<=1024)(hF:(oF H.next).length<=900)(i k:Nat)(bU:k<H.jx.length)(hv:i<=k):
 aI 14 [H.v kI kO,I i,I k] E λu _ dF=>u=.hE [g7 (uO H i k),I 0]/\bt none E dF:=by
 have ac:i<H.jx.length:=by omega
 obtain⟨N,e3⟩:∃N,E.cM [H.v kI kO]=N:=⟨_,rfl⟩;have dU:=Fb N H kI kO i;have ea:=Fb N H kI kO k;have c3:=BQ H.jx[i].1 (dp _ (ah ac));have c4:=BQ H.jx[k].1 (dp _ (ah bU));have b2:N.box E.Y=some [H.v kI kO]:=by rw[<-e3];exact bl _ _ _
 rw[db (show 0<=(i:Int)/\(i:Int)<H.jx.length by omega)]at dU;rw[db (show 0<=(k:Int)/\(k:Int)<H.jx.length by omega)]at ea;refine bk f14 ?_ [3,8,11,13,14,15] [1,18,20];have eb:(H.v kI kO).cells=[H.v kI kO]:=rfl;have ed:(H.v kI kO).one=true:=rfl;have hw:(H.v kI kO).dW=false:=rfl;repeat' simp only[gE,simprocAttr,HX.act,e3,b2,eb,ed,eu,l4,bN,ce,kr]
 refine bm (h0:=N) sT dU sT ag ?_;rintro _ _ hh ⟨rfl,a4⟩;rw[a4];clear a4;repeat' simp only[gE,simprocAttr,HX.act,b2]
 refine bm (h0:=N) sT ea sT ag ?_;rintro _ _ hh ⟨rfl,a4⟩;rw[a4];clear a4;obtain⟨ai,e4⟩:∃ai,(N.hI).cM [.qy]=ai:=⟨_,rfl⟩;have el:N.Y=E.Y+1:=by rw[<-e3];rfl
 have et:ai.box (E.Y+2)=some [.qy]:=by rw[<-e4,show E.Y+2=N.hI.Y by simp only[aJ.hI];omega];exact bl _ _ _
 have a5:ai.box E.Y=some [H.v kI kO]:=by rw[<-e4];exact(bE _ _ (by simp only[aJ.hI];omega)).trans b2
 have hy:i<H.jx.length:=ac;have eN:H.v kI kO=.ep [eI H.eo,jZ H.void,cd H.bW.O,CI H.jx,.mp kI,.mp kO]:=rfl;repeat' first|simp only[gE,simprocAttr,HX.act,b2,et,a5,e4,el]|refine cs ?_ ?_<;>intro h<;>try omega
 refine cC (n:=1) (off:=0) (cells:=[.qy]) ?_ ?_ bR λaA te tc tl tb tm Q a1=>?_
 .exact sT
 .exact sT
 have ad:aA.E.box=eR ai.box (E.Y+2) (some [.mp (E.Y+1)]):=tb.trans sT;have Pm:aA.E.Y=ai.Y:=Q.trans sT;have R:aA.E.mp=ai.mp:=tm.trans sT;have b3:TQ E aA.E E.Y kI kO H []:=by
  have m4:ai.mp=eR N.mp (E.Y+1) (some (.map [])):=by rw[<-e4,<-el];rfl
  have b5:N.mp=E.mp:=by rw[<-e3];rfl
  have hi:ai.box=eR (eR E.box E.Y (some [H.v kI kO])) (E.Y+2) (some [.qy]):=by rw[<-e4,<-e3];rfl
  have b6:=bv.2.2.1;have c2:=bv.2.2.2;refine⟨by rw[ad,bE _ _ av];exact a5,by rw[ad,bl],by rw[R,m4,bl];rfl,⟨?_,?_,?_⟩,⟨λj P _=>?_,λj P=>?_,?_⟩,?_,ao _,b6,c2⟩
  .rw[R,m4,bE _ _ av,b5];exact bv.1
  .rw[R,m4,bE _ _ av,b5];exact bv.2.1
  .exact Uf
  .rw[ad,bE _ _ av,hi,bE _ _ av,bE _ _ av]
  .rw[R,m4,bE _ _ av,b5]
  .exact Uf
  .exact Uf
 obtain⟨b,hb⟩:∃b,E.Y=b:=⟨_,rfl⟩;rw[hb]at b3;have a2:=b3.h1;rw[eN]at a2;have a6:aA.Z 3=.bp b 0:=by rw[te];simp only[sE,simprocAttr,hb]
 have a7:aA.Z 1=I i:=by rw[te];simp only[sE,simprocAttr]
 have a8:aA.Z 2=I k:=by rw[te];simp only[sE,simprocAttr]
 have a9:aA.Z 8=.bp (b+2) 0:=by rw[te];simp only[sE,hb]
 clear tb ad Q Pm tm R e4 et a5 te tc tl;repeat' first|simp(disch:=try exact om) only[gE,simprocAttr,a7,a8,a6,a9,a2,CI,L6,bU,ac]|refine lq c4 ?_
 have e1:=ds _ (ah bU);have e2:=ds _ (ah ac);obtain⟨A,e5⟩:∃A,dx H.jx[k].1=A:=⟨_,rfl⟩;rw[e5]at e1 ⊢
 refine dQ rfl rfl (λ(k:Nat) t=>k<=A.length/\t.Z 40=I k/\TQ E t.E b kI kO H (((A.take k).map aK.id).foldl CJ [])) (λk=>A.length-k) 0 ?_ ?_
 .exact⟨aL _,by simp only[sE,simprocAttr],by(simp only[sE,simprocAttr]);exact b3⟩
 rintro j t ⟨g1,c5,o⟩ y;have hj:t.Z 1=I i:=(y 1 dt).trans sT;have hk:t.Z 3=.bp b 0:=(y 3 dt).trans sT;have e6:t.Z 8=.bp (b+2) 0:=(y 8 dt).trans sT;have ca:t.Z 38=dv A:=(y 38 dt).trans sT;have a39:t.Z 39=I A.length:=(y 39 dt).trans sT;clear y a7 a8 a6 a9 a2 b3;rcases am j A.length with P|P
 .have q1:=o.t1;have bi:((A.take (j+1)).map aK.id).foldl CJ []=CJ (((A.take j).map aK.id).foldl CJ []) A[j].id:=by rw[bj P,aE,dl];rfl
  generalize ((A.take j).map aK.id).foldl CJ []=th at*
  repeat' first|simp(disch:=try exact om) only[gE,simprocAttr,c5,e6,ca,a39,q1,P,dv,aK.v]|refine cs ?_ ?_<;>intro h<;>try omega
  refine nB qS (a:=A[j].id) (l:=sq th) (id:=b+1) (fD:=t.E) (yv:=B true) sT sT sT o.t2 sT rfl ?_;repeat' simp(disch:=omega) only[gE,simprocAttr,c5]
  refine⟨j+1,⟨?_⟩,⟨av⟩⟩;rw[bi];exact⟨P,by(simp only[sE]);exact ar (V.int .i64) av,by(simp only[sE]);exact o.add _⟩
 .obtain rfl:j=A.length:=av;rw[be]at o;obtain⟨th,cb⟩:∃th,(A.map aK.id).foldl CJ []=th:=⟨_,rfl⟩;have e7:(λa=>decide (a∈th))=λa=>decide (a∈A.map aK.id):=by
   funext a;rw[<-cb];exact oc.2 (by rw[LJ];simp)
  rw[cb]at o;have a2:=o.h1;rw[eN]at a2;have hH:=o.Y;have hl:(t.E.cM [.aP]).box b=some [.ep [eI H.eo,jZ H.void,cd H.bW.O,CI H.jx,.mp kI,.mp kO]]:=(bE _ _ av).trans a2;repeat' first|simp(disch:=try exact om) only[dq,simprocAttr,c5,hj,hk,e6,ca,a39,hl,CI,L6,ac,HX.act,bh,rc,bn,A7,cx,b8,bQ]|refine bY ?_ ?_<;>intro h<;>(try simp only[h])<;>(try simp only[jc]at h)<;>try omega|(refine iT c3 ?_ ?_;·simp only[dL]<;>rfl)
  obtain⟨c,cc⟩:∃c,t.E.Y=c:=⟨_,rfl⟩;have hn:UQ E (t.E.cM [.aP]) b c kI kO H th .aP []:=by
   have ho:=o.mm;have hq:=o.bb;have b5:=o.same.Y;have old:∀j,j<c->(t.E.cM [.aP]).box j=t.E.box j:=λj P=>bE _ _ (by omega);exact⟨(old _ (by omega)).trans o.h1,(old _ (by omega)).trans o.t1,o.t2,by rw[<-cc];exact bl _ _ _,gh.nil,λi h=>(by cases h),⟨o.mp.1,o.mp.2.1,by simp only[aJ.cM];omega,by simp only[aJ.cM];omega⟩,⟨λj P _=>(old j (by omega)).trans (o.same.box j P (by simp)),o.same.mp,by simp only[aJ.cM];omega⟩,by simp only[aJ.cM];omega,by omega,hq,ho⟩
  obtain⟨f,ch⟩:∃A,dx H.jx[i].1=A:=⟨_,rfl⟩;rw[ch]at e2 ⊢
  refine dQ rfl rfl (λ(k:Nat) t=>k<=f.length/\t.Z 58=I k/\∃ov,UQ E t.E b c kI kO H th ov ((f.take k).foldl (lF H.next th) [])) (λk=>f.length-k) 0 ?_ ?_
  .exact⟨aL _,by simp only[sE,simprocAttr],.aP,by(simp only[sE,simprocAttr]);exact hn⟩
  rintro q u ⟨hK,c6,ov,K⟩ y;have fa:u.Z 3=.bp b 0:=(y 3 dt).trans sT;have fr:u.Z 8=.bp (b+2) 0:=(y 8 dt).trans sT;have bo:u.Z 11=.bp c 0:=by rw[y 11 dt];simp only[sE,simprocAttr,cc]
  have fs:u.Z 56=dv f:=(y 56 dt).trans sT;have ci:u.Z 57=I f.length:=(y 57 dt).trans sT;clear y;have hlen:∀q,q<=f.length->((f.take q).foldl (lF H.next th) []).length<=q*901:=by
   intro q;induction q with
   |zero=>intro _;simp
   |succ q ih=>
    intro a3;have h1:=ih av;rw[bj (show q<f.length from a3),dl];have hM:=B0 H.next th ((f.take q).foldl (lF H.next th) []) f[q];simp only[fo,List.foldl_nil];omega
  rcases am q f.length with a3|a3
  .have b6:=K.h1;have hz:=hlen q av;repeat' first|simp(disch:=try exact om) only[gE,simprocAttr,c6,fa,fr,bo,fs,ci,a3,dv,aK.v,HX.act]|refine cs ?_ ?_<;>intro h<;>try omega
   have bi:(f.take (q+1)).foldl (lF H.next th) []=lF H.next th ((f.take q).foldl (lF H.next th) []) f[q]:=by rw[bj a3,dl];rfl
   generalize f[q]=p at*
   generalize (f.take q).foldl (lF H.next th) []=out at*
   obtain⟨n,br⟩:∃n,u.E.Y=n:=⟨_,rfl⟩;have un:=K.Y;have ub:=K.bc;refine cC (n:=7) (off:=0) (cells:=[.int .i64 0,.int .i64 0,.int .i64 0,.int .i64 0,.int .i64 0,.str [],.aP]) ?_ ?_ bR λL te tc tl tb tm Q a1=>?_
   .simp only[sE];try exact bl _ _ _
   .exact sT
   have ad:L.E.box=eR u.E.box n (some p.v.cells):=tb.trans (by(simp only[sE]);subst br;exact nn _ _ _ _);have Pm:L.E.Y=n+1:=Q.trans (by(simp only[sE]);omega);have R:L.E.mp=u.E.mp:=tm.trans sT;have c7:L.Z 3=.bp b 0:=by rw[te];simp only[sE,simprocAttr,fa]
   have c9:L.Z 8=.bp (b+2) 0:=by rw[te];simp only[sE,simprocAttr,fr]
   have v11:L.Z 11=.bp c 0:=by rw[te];simp only[sE,simprocAttr,bo]
   have aB:L.Z 13=.bp n 0:=by rw[te];simp only[sE,br]
   have v58:L.Z 58=I q:=by rw[te];simp only[sE,simprocAttr,c6]
   clear te tc tl tb tm Q a1;repeat' simp only[gE,simprocAttr,HX.act,c7,c9,v11,aB,Pm]
   refine cC (n:=1) (off:=0) (cells:=[.qy]) ?_ ?_ bR λD te tc tl tb tm Q a1=>?_
   .simp only[sE,Pm];try exact bl _ _ _
   .exact sT
   have gb:D.E.box=eR L.E.box (n+2) (some [.mp (n+1)]):=tb.trans (by(simp only[sE,Pm]);show eR (eR L.E.box (L.E.Y+1) _) (n+1+1) _=_;rw[Pm];exact nn _ _ _ _);have aC:D.E.Y=n+3:=Q.trans (by(simp only[sE,Pm]));have gf:D.E.mp=eR u.E.mp (n+1) (some (.map [])):=tm.trans (by(simp only[sE]);show eR L.E.mp L.E.Y _=_;rw[Pm,R]);have cp:D.Z 3=.bp b 0:=by rw[te];simp only[sE,simprocAttr,c7]
   have c1:D.Z 8=.bp (b+2) 0:=by rw[te];simp only[sE,simprocAttr,c9]
   have aD:D.Z 11=.bp c 0:=by rw[te];simp only[sE,simprocAttr,v11]
   have a0:D.Z 13=.bp n 0:=by rw[te];simp only[sE,simprocAttr,aB]
   have bs:D.Z 14=.bp (n+2) 0:=by rw[te];simp only[sE,Pm]
   have bu:D.Z 58=I q:=by rw[te];simp only[sE,simprocAttr,v58]
   clear te tc tl tb tm Q a1 c7 c9 v11 aB v58;repeat' simp only[gE,simprocAttr,HX.act,cp,c1,aD,a0,bs,aC]
   refine cC (n:=1) (off:=0) (cells:=[.wC]) ?_ ?_ bR λab te tc tl tb tm Q a1=>?_
   .simp only[sE];show eR D.E.box D.E.Y _ (n+3)=_;rw[aC];exact bl _ _ _
   .exact sT
   have gk:ab.E.box=eR D.E.box (n+3) (some [.fn 63 (Cb (n+2) (b+2) c n b (n+3))]):=tb.trans (by(simp only[sE]);show eR (eR D.E.box D.E.Y _) (n+3) _=_;rw[aC];exact nn _ _ _ _);have gn:ab.E.Y=n+4:=Q.trans (by(simp only[sE,aC]));have gp:ab.E.mp=D.E.mp:=tm.trans (by(simp only[sE]));have v11:ab.Z 11=.bp c 0:=by rw[te];simp only[sE,simprocAttr,aD]
   have aB:ab.Z 13=.bp n 0:=by rw[te];simp only[sE,simprocAttr,a0]
   have ha:ab.Z 15=.bp (n+3) 0:=by rw[te];simp only[sE,simprocAttr,aC]
   have v58:ab.Z 58=I q:=by rw[te];simp only[sE,simprocAttr,bu]
   clear te tc tl tb tm Q a1 cp c1 aD a0 bs bu;have dd:LQ E ab.E (n+2) (b+2) c n b (n+3) (n+1) (b+1) kI kO H th p [] ov out:=by
    subst br;exact K.start p (by rw[gk,gb,ad]) (by rw[gp,gf]) gn
   have q1:=dd.f1;have hc:=dd.p1;simp only[aK.v,V.cells]at hc;have hr:=VL E (n+2) (b+2) c n b (n+3) (n+1) (b+1) kI kO H th p (p.id::oF H.next) (λa _ d hs=>eF _ (Gw hs)) (λa=>by
    have:(im H.next a).length<=(oF H.next).length:=by
     unfold im;cases e:gR H.next a with
     |none=>simp
     |some l=>
      have h:=BK e;clear e
      revert h
      generalize H.next=ht;intro h;induction ht with
      |nil=>cases h
      |cons x r ih=>
       simp only[oF,cf,ae]at ih ⊢
       rcases bC.1 h with h|h
       .subst h;simp
       .have:=ih h;omega
    omega) (1024*901) (by simp only[aM];omega) ((oF H.next).length+1) ab.E [] ov out p.id dd bR (by unfold tA;exact aQ (gS _ _) bR) (λz y=>by cases y) .nil (by
     have:q*901<=1024*901:=cj _ av;simp only[aT];omega)
   repeat' simp only[gE,simprocAttr,HX.act,v11,aB,ha,q1,hc]
   refine kv (h0:=ab.E) sT sT TJ hr ?_ ?_ ?_
   .exact sT
   .exact aN.cons (aj (by simp only[dL,bh]<;>rfl)) (aN.refl _)
   rintro _ _ hD ⟨hd,hu⟩;repeat' simp(disch:=omega) only[gE,simprocAttr,v58]
   refine⟨q+1,⟨?_⟩,⟨av⟩⟩;rw[bi];exact⟨a3,by(simp only[sE]);exact ar (V.int .i64) av,hd,by(simp only[sE]);exact K.back hu⟩
  .obtain rfl:q=f.length:=av;have he:=hlen _ (ao _);rw[be]at K he;have b6:=K.o1;have c2:=K.o2.one;have hf:=K.o2.fS;have dg:uO H i k=jN (f.foldl (lF H.next th) []):=by
    unfold uO;simp only[ap,aa ac,aa bU,bf,e5,ch];congr 2;funext out p;unfold lF;rw[e7]
   have hg:=E6 (f.foldl (lF H.next th) []) av;rw[<-dg]at hg;repeat' first|simp only[gE,simprocAttr,c6,ci,bo,b6,c2,hf]|refine cs ?_ ?_<;>intro h<;>try omega
   refine zL (fz:=oE u.E (bH ov).toList) (h0:=u.E.less (bH ov).toList) (by(simp only[da]);exact mf _ _) hg (by simp only[bN,ce,da,simprocAttr,bh,hf];try rfl) (h7.cons (by(simp only[da]);exact K.o2.OQ λi b7=>pm (by simp[b7])) .nil) ?_;repeat' simp only[gE,simprocAttr]
   exact⟨nE,_,_,uG rfl rfl rfl rfl,rfl,λj P _=>(qZ (n:=E.Y) (λi b7=>by simp at b7;exact(K.ovn i b7).2.2.2) j P).trans (K.same.box j P bR),K.same.mp,K.same.Y⟩
end Go.Bx
