/- Lemmas for HistoryBegins. -/
import Derived.Test.YtmbahmpbmcfifaaGreatDoorCr
noncomputable section
set_option linter.all false
set_option maxHeartbeats 4000000
set_option maxRecDepth 100000
namespace Go.Bx
open Go.Proofs Go.Proofs.Tryz
attribute [local irreducible] vc er dq b4 bU run iw iI iW i1 iG i2 iX iq iH iZ gA iY cS
def abF:CF GL f56 [72,91] [7,11] 56:=jo
def IQ(w:cg)(a:w.ok):af 77 [w.v] w.v:=by
 refine Pure.gg (by simp only[dx]) (by simp only[dx]) ((Kj w a aK.bare).TD ?_);rintro v bJ E ⟨X,⟨d,rfl,T⟩,D,_,_⟩;exact⟨oC E X,E.less X,w.v,false,l6 _ _,DT T,λh=>(by cases h),rfl,rfl⟩
def HQ.more{base E a:aK}{dW d f tid:Nat}{ev l ed:V}{N:List (ID×V)}{H:gm}{ts:List (T×gU)}(Q:HQ base E dW ev l ed d f N H tid ts)(hS:bA none E a):HQ base a dW ev l ed d f N H tid ts where
 box:=(hS.box _ (Q.bd dW (dg.2 (.inl rfl))).2 bT).trans Q.box
 fe:=Q.fe.frame (λi h=>hS.box i (Q.bd i (dg.2 (.inr (.inl h)))).2 bT) hS.Y
 fv:=Q.fv.frame (λi h=>hS.box i (Q.bd i (dg.2 (.inr (.inr (.inl h))))).2 bT) hS.Y
 fd:=Q.fd.frame (λi h=>hS.box i (Q.bd i (dg.2 (.inr (.inr (.inr (.inl h)))))).2 bT) hS.Y
 nm:=(hS.mp _ Q.mb.1.2).trans Q.nm
 nx:=Q.nx.frame (λi h=>hS.box i (Q.bd i (dg.2 (.inr (.inr (.inr (.inr h)))))).2 bT) hS.Y
 lm:=(hS.mp _ Q.mb.2.1.2).trans Q.lm
 tm:=(hS.mp _ Q.mb.2.2.2).trans Q.tm
 nd:=Q.nd
 bd:=λj o=>⟨(Q.bd j o).1,bj (Q.bd j o).2 hS.Y⟩
 md:=Q.md
 mb:=⟨⟨Q.mb.1.1,bj Q.mb.1.2 hS.Y⟩,⟨Q.mb.2.1.1,bj Q.mb.2.1.2 hS.Y⟩,Q.mb.2.2.1,bj Q.mb.2.2.2 hS.Y⟩
 same:=Q.same.trans hS
def ri(s:St)(D bJ:List Nat)(l:List (Nat×V×Bool)):(s.head D bJ l).E={s.E with fl:=λ_ _=>false}:=rfl
def zz{c d:V}(h:V.Le c d):∀l:List V,aV (l++[c]) (l++[d])
 |[]=>.cons h .nil
 |x::l=>.cons (.refl x) (zz h l)
def bA.add(E:aK)(c:List V):bA none E (E.cO c):=
 ⟨λi a _=>by simp only[aK.cO];exact bD _ _ (ct a),λ_ _=>rfl,fO _⟩
def L7(l:List T):(D2 l).length=l.length:=iz _
def V2(base E:aK)(dW:Nat)(H:gm)(tid:Nat)(ts:List (T×gU))(hH:HP base E dW H tid ts)(aB:H.bN.ok)(K:Nat)(c6:uZ H.next K)(bs:K<=1000000000-2000000)(bu:ts.length<=1000)(c7:(ts.map (·.1)).Nodup)(bY:∀x∈ts,x.1.length<=1000000000)(e2:H.hL.length<=1000)(e:aW)(c9:e.op.ok)(dd:∀t∈e.op.F,t.length<=10000)(b2:e.op.cW.length<=100000):
 aI 56 [.bp dW 0,e.v,.mp tid] E λu _ r=>u=B (J8 H ts e).2.2/\HP base r dW (J8 H ts e).1 tid (J8 H ts e).2.1:=by
 have df:=wz e;have dr:=SL base E dW H tid ts hH aB K c6 bs e.op c9 dd b2 e.name;have c3:=IE H.bN aB;have c4:=Cf H.bN e.id aB;have ds:=IQ H.bN aB;refine bq abF.ok rfl ?_;obtain⟨ev,aC,ed,z,A,N,Q,o1,o2,p⟩:=hH.one;have hx:=Q.box;unfold J8;obtain⟨e4,e5,e6,kind,e7,op,tm,b3,fa,fr⟩:=e;simp only at*
 by_cases a3:kind=0
 .subst a3;rw[ax rfl];repeat any_goals first|simp only[gE,simprocAttr,aW.v,hx,o1,o2,p]|refine lq df ?_|refine ei ?_|refine e9 ?_ ?_
  all_goals
   refine bz (h0:=E) sT dr sT ag ?_;rintro _ _ aD ⟨rfl,P⟩;repeat any_goals simp only[gE,simprocAttr]
   exact⟨nE,_,_,bC rfl rfl,rfl,P⟩
 rw[al a3];by_cases a4:kind=1
 .subst a4;rw[ax rfl];have le:=Q.fd.len;rw[au]at le;by_cases ac:H.hL.length=16\/fu H.bN≠0
  .rw[ax ac];by_cases a0:H.hL.length=16
   .have j:decide ((H.hL.length:Int)=16)=true:=dk av;repeat any_goals first|simp only[gE,simprocAttr,aW.v,hx,o1,o2,p,le,j]|refine gz ?_ ?_<;>intro ad h<;>(try simp only[ad])<;>try omega|refine ei ?_
    all_goals exact⟨nE,_,_,bC rfl rfl,rfl,hH⟩
   .have ai:fu H.bN≠0:=ac.resolve_left a0;have j:decide ((H.hL.length:Int)=16)=false:=dZ av;repeat any_goals first|simp only[gE,simprocAttr,aW.v,hx,o1,o2,p,le,j,ai]|(first|refine cz ?_ ?_|refine gz ?_ ?_)<;>intro ad h<;>(try simp only[ad])<;>try omega|refine lq c3 ?_|refine ei ?_
    all_goals exact⟨nE,_,_,bC rfl rfl,rfl,hH⟩
  .rw[al ac];have a0:H.hL.length≠16:=λh=>ac (.inl h);have ai:fu H.bN=0:=cM λh=>ac (.inr h);rw[ai]at c3;have j:decide ((H.hL.length:Int)=16)=false:=dZ av;have dE:=SC E tid;repeat any_goals first|simp only[gE,simprocAttr,aW.v,hx,o1,o2,p,le,j]|refine gz ?_ ?_<;>intro ad h<;>(try simp only[ad])<;>try omega|refine lq c3 ?_|refine ei ?_
   refine bz (h0:=E) (by simp only[da,simprocAttr,bQ]) dE (by simp only[bR,cm,da,simprocAttr,bx,bQ];rfl) (by(repeat(first|exact aV.nil|(refine aV.cons (ak ?_) ?_;(simp only[ee,simprocAttr]<;>rfl))))) ?_;rintro _ _ _ ⟨rfl,rfl⟩;have Q2:=Q.more (bA.add E [.mp tid]);generalize aD:E.cO [.mp tid]=P at*
   have dU:=SD P E.Y tid ts (by rw[<-aD];exact bh _ _ _) Q2.tm bu c7 bY;refine bz (h0:=P) sT dU sT ag ?_;rintro _ _ P ⟨rfl,rfl⟩;have ea:D3 ts=(D2 (ts.map (·.1))).map (uQ ts):=rfl;have b5:=L7 (ts.map (·.1));rw[au]at b5;generalize D2 (ts.map (·.1))=d at*
   have L:=Q2.box;repeat any_goals simp only[gE,simprocAttr,eZ,L,o1,o2,p,le,j]
   refine ns (D:=[7,9,48,49,50,51,52,53,54,55,56,57,58]) (bJ:=[]) (λk:Nat=>k<=d.length) (λk=>[(48,I k,false),(7,oi ((d.take k).map (uQ ts)),true)]) (λk=>d.length-k) (0) rfl rfl rfl (λ_=>rfl) (aL _) ?_ ?_ ?_;iterate 2 ·(simp only[fR,fM,bL,cK];and_intros;all_goals(try(simp only[mR,simprocAttr]));all_goals(try(first|with_reducible exact .refl _|exact .aP _|(intro h;cases h;done)|(intro _;exact Or.inr rfl))))
   obtain⟨R,f⟩:∃R:aK,{P with fl:=λ_ _=>false}=R:=⟨_,rfl⟩;have ab:HQ base R dW ev aC ed z A N H tid ts:=Q2.more (by subst f;exact⟨λ_ _ _=>rfl,λ_ _=>rfl,an _⟩);have L:=ab.box;rintro k fs;have b6:(d.take k).length=k:=by rw[aG];omega
   rcases am k d.length with aA|aA
   .have gk:=(nK gU.v (.agg [.str [],.int .i64 0,.int .i64 0,.str [],.aP]) ts d[k]).1;obtain⟨a5,a6,a7,a8,bv,b7,ca,a9⟩:∃a5 a6 a7 a8 bv,((fN ts d[k]).map gU.v).getD (.agg [.str [],.int .i64 0,.int .i64 0,.str [],.aP])=.agg [S a5,I a6,I a7,S a8,bv]/\bv.one=true/\V.Le (.agg [S a5,I a6,I a7,S a8,bv]) (uQ ts d[k]).v:=by
     unfold uQ;cases fN ts d[k]with
     |some t=>exact⟨_,_,_,_,_,rfl,rfl,.refl _⟩
     |none=>exact⟨[],0,0,[],.aP,rfl,rfl,nf rfl (.cons (.refl _) (.cons (.refl _) (.cons (.refl _) (.cons (.refl _) (.cons (.aP _) .nil)))))⟩
    repeat any_goals first|simp(disch:=try exact om) only[gE,simprocAttr,oi,eZ,aA,b6,ri,f]|refine cs ?_ ?_<;>intro h<;>try omega
    refine ju ZH (a:=d[k]) (l:=gZ gU.v ts) (id:=tid) (fA:=R) sT sT sT ab.tm ?_;rw[gk];simp only[i6];rw[b7];repeat any_goals first|simp(disch:=try exact om) only[dt,simprocAttr,oi,ca,bx,vh,ri,f,bQ,b6]|(refine⟨k+1,⟨?_⟩,⟨av⟩,?_⟩;rotate_left;focus (simp only[fR,fM,bL,cK];and_intros;all_goals(try(simp only[mR,simprocAttr]));all_goals(try(first|(intro h;cases h;done)|(intro _;(simp;done))|(refine ak (aq I ?_);omega)))))
    .rw[List.take_add_one,aa aA,Option.toList_some,az,az];have cb:=zz a9 (List.map gU.v (List.map (uQ ts) (List.take k d)));exact .sl 5 _ _ cb.1 cb.2
    .omega
   .have cc:k=d.length:=av;subst cc;rw[bg,<-ea];repeat any_goals first|simp only[gE,simprocAttr,oi,ri,f,L,o1,o2,p]|refine cs ?_ ?_<;>intro h<;>try omega|refine lq ds ?_|refine e9 ?_ ?_
    refine iR (xs:=H.hL.map Mu) (ys:=[Mu (H.bN,D3 ts)]) ?_ ?_ ?_ ?_ ?_ rfl ?_ ?_ λbi r o hb eb=>?_
    .simp only[sE,simprocAttr,ri,f];exact ab.fd
    .exact sT
    .intro y ch;simp at ch;subst ch;rfl
    .exact sT
    .simp only[sE,simprocAttr];intro l el;cases el
    .simp only[au,aM,aX];omega
    .intro _ et;cases et
    have ci:=o.one;have eK:=o.gD;have a1:bA (bI ed) R r:=by revert hb;simp only[sE,simprocAttr,ri,f];exact id
    have cp:bI bi=bI ed\/bI bi=some R.Y:=by revert eb;simp only[sE,simprocAttr,ri,f];exact id
    obtain⟨e3,bl⟩:=ab.bd dW (dg.2 (.inl rfl));have c1:r.box dW=some [ev,aC,cf H.bN.O,ed,.mp z,.mp A]:=(a1.box dW bl (λe=>ab.mem.2.2.1 dW e |>.1 rfl)).trans L;repeat any_goals simp only[gE,simprocAttr,c1,ci,eK]
    refine cJ (n:=1) (off:=3) (cells:=[ev,aC,cf H.bN.O,ed,.mp z,.mp A]) ?_ ?_ bT λfB te tc tl tb tm e1 gb=>?_
    .exact sT
    .simp only[sE,simprocAttr];simp[jW,ci,o.kf]
    have a2:=tb.trans sT;simp only[o.kf,aQ,aw,ay]at a2;have c2:=e1.trans sT;have c5:=tm.trans sT;repeat any_goals simp only[gE,simprocAttr,te,tc,tl]
    exact⟨nE,B true,_,bC rfl rfl,rfl,ev,aC,bi,z,A,N,ab.ZO a1 o cp (λi h=>o.BG h) a2 c5 c2⟩
 rw[al a4];by_cases bo:kind=2
 .subst bo;rw[ax rfl];repeat any_goals first|simp only[gE,simprocAttr,aW.v,hx,o1,o2,p]|refine ei ?_
  all_goals
   refine nw ZH (a:=tm.name) (l:=gZ gU.v ts) (id:=tid) (fA:=E) (yv:=tm.v) ?_ ?_ ?_ Q.tm ?_ rfl ?_
   .exact sT
   .exact sT
   .exact sT
   ·(simp only[da,simprocAttr]);rfl
   rw[qm];repeat any_goals simp only[gE,simprocAttr]
   exact⟨nE,_,_,bC rfl rfl,rfl,⟨_,_,_,_,_,_,Q.dy _ _⟩⟩
 rw[al bo];generalize (ef b3 0 H.bN.O).isSome=q at*
 generalize jm (ef b3 0 H.bN.O)=s at*
 repeat any_goals first|simp(disch:=try exact om) only[gE,simprocAttr,aW.v,hx,o1,o2,p,a3,a4,bo]|refine cs ?_ ?_<;>intro h<;>try omega|refine lq c4 ?_|refine ei ?_
 all_goals exact⟨nE,_,_,bC rfl rfl,rfl,hH⟩
def C9(l:List (cg×List gU)):V:=.sl 2 (l.map Mu)
def gm.v(H:gm)(a d:Nat):V:=.ep [fP H.fF,ka H.void,cf H.bN.O,C9 H.hL,.mp a,.mp d]
def KI{s:St}{t d n:Nat}{ag:Bool}{a a':V}(h:dv s (.load ag n (.tmp t))=some a)(f:s.Z d=a')(l:a.dY=false)(l':a'.dY=false):BF.result s [.cell t ag n,.tmp d]=some (.hJ [a,a'],false):=by
 simp[BF.result,BR.pX,BR.get,h,f,l,l']
def abG:CF GL f24 [] [] 24:=jo
def abH:CF GL f62 [] [1] 62:=jo
def abI:CF GL f36 [] [] 36:=jo
def abJ:CF GL f35 [] [] 35:=jo
def abK:CF GL f25 [] [1] 25:=jo
def yH(E:aK)(H:gm)(a d:Nat):aI 24 [H.v a d] E λu _ f=>u=I H.hL.length/\f=E:=by
 refine bq abG.ok rfl ?_;repeat any_goals simp only[dt,simprocAttr,gm.v,C9,bP]
 all_goals exact⟨nE,_,_,bC rfl rfl,by exact⟨rfl,rfl⟩⟩
def FB(E:aK)(H:gm)(a d:Nat)(k:Int):aI 62 [H.v a d,I k] E λu _ f=>u=B (decide (0<=k/\k<H.hL.length))/\f=E:=by
 have c:=yH E H a d;refine bq abH.ok rfl ?_;repeat' first|refine k7 ?_|refine gz ?_ ?_<;>intro j h<;>try simp only[j]
 .refine bz (h0:=E) sT c sT ag ?_;rintro _ _ _ ⟨rfl,rfl⟩;repeat' simp only[gE,simprocAttr]
  exact Ys
 .exact Ys
def V3(E:aK)(H:gm)(a d:Nat)(j:H.bN.ok):aI 36 [H.v a d] E λu _ f=>u=H.bN.v/\f=E:=by
 have c:=IQ H.bN j;refine bq abI.ok rfl ?_;repeat any_goals first|simp only[dt,simprocAttr,gm.v,bP]|refine lq c ?_
 exact⟨nE,_,_,eA (by simp only[ee,simprocAttr,bx]<;>rfl) rfl,by exact⟨rfl,rfl⟩⟩
def O2(E:aK)(H:gm)(a d:Nat)(h:H.void.length<=1000000000):aI 35 [H.v a d] E λu _ f=>u=ka H.void/\f=E:=by
 refine bq abJ.ok rfl ?_;repeat any_goals first|simp only[dt,simprocAttr,gm.v,bP]|refine lq (Vs H.void h) ?_
 all_goals exact⟨nE,_,_,bC rfl rfl,by exact⟨rfl,rfl⟩⟩
def IR(E:aK)(H:gm)(a d:Nat)(k:Int)(l:∀e∈H.hL,e.1.ok):aI 25 [H.v a d,I k] E λu _ f=>u=(.hJ (if h:0<=k/\k<H.hL.length then [(H.hL[k.toNat]'av).1.v,I 0]else [.agg [.aP],I 6]))/\f=E:=by
 have c:=FB E H a d k;refine bq abK.ok rfl ?_;repeat' simp only[gE,simprocAttr]
 refine bz (h0:=E) sT c sT ag ?_;rintro _ _ _ ⟨rfl,rfl⟩;by_cases h:0<=k/\k<H.hL.length
 .rw[tZ h,dk h];obtain⟨n,rfl⟩:=fE h.1;have j:n<H.hL.length:=av;have o:=IQ H.hL[n].1 (l _ (ah j));repeat' first|simp(disch:=try exact om) only[gE,simprocAttr,gm.v,C9,Mu,j]|refine lq o ?_
  exact Uv
 .rw[dif_neg h,dZ h];repeat' simp only[gE,simprocAttr,gm.v,C9,Mu]
  exact Uv
def SM{s t:St}{E:aK}(h:Kept s t)(a:E.box=t.E.box)(d:E.mp=t.E.mp)(f:E.Y=t.E.Y):Kept s (t.cu E):=⟨h.n,h.G,h.loc,a.trans h.box,d.trans h.mp,f.trans h.Y⟩
def KA(f:V)(l:List aW)(E:aK):Prop:=∀a,bA none E a->aI 39 [f] a λu _ d=>u=fP (gj l)/\bA none a d
def forget{G:St->Prop}{s:St}(J:St->Prop)(h0:J s)(h:∀t,J t->G t):G s:=h s h0
def s7(l:List aW):(gj l).length=l.length:=by
 have:=yp l l.length (an _)
 rwa [bg]at this
def aay:CF GL f54 [45,53,83,93] [5] 54:=jo
def FC:{p:k6 // aay.b.body.Jx[0]?=some p}:=⟨_,by cbv⟩
def O3(E:aK)(M q:Nat)(a5:E.Y<=M)(e:aW)(p:List aW)(u:St)(H:u.Z 4=.mp M)(f:u.Z 5=.mp (M+1))(K:u.Z 6=.mp (M+2))(o:u.Z 8=.lp 8 q 0)(r:u.G 8=q+1)(ul:u.loc 8 q=e.v.cells)
 (ac:u.E.mp M=some (.map (fk Name.v (gZ I (m4 p))))) (ad:u.E.mp (M+1)=some (.map (fk I (gZ I (m5 p))))) (ai:u.E.mp (M+2)=some (.map (fk I (gZ I (m6 p))))) (P:bA none E u.E) (aA:kP (gZ I (m4 p)) e.name (I 0)=I 0) (R:St->Prop)
 (aB:∀v:St,(v.Z 5=.mp (M+1)/\v.Z 26=u.Z 26/\v.Z 8=.lp 8 q 0/\v.G 8=q+1/\v.loc 8 q=e.v.cells/\v.E.mp M=some (.map (fk Name.v (gZ I (ke (m4 p) e.name e.eo))))/\v.E.mp (M+1)=some (.map (fk I (gZ I (m5 p))))/\v.E.mp (M+2)=some (.map (fk I (gZ I (ke (m6 p) e.J e.eo))))/\bA none E v.E)->R v):bU prog GL true FC.1 u R:=by
 have c3:=wz e;simp only[aW.v,V.cells]at ul;have L:=dn q;have ab:M≠M+1:=av;have Q:M≠M+2:=av;have aC:M+1≠M+2:=av;obtain⟨t,y⟩:∃t,u.E.eJ M (fk Name.v (jh (gZ I (m4 p)) e.name (I 0)))=t:=⟨_,rfl⟩;have aD:t.mp M=some (.map (fk Name.v (jh (gZ I (m4 p)) e.name (I 0)))):=by rw[<-y];exact bh _ _ _
 obtain⟨z,A⟩:∃z,t.eJ M (fk Name.v (gZ I (ke (m4 p) e.name e.eo)))=z:=⟨_,rfl⟩;have a0:z.mp (M+2)=some (.map (fk I (gZ I (m6 p)))):=by rw[<-A,<-y];exact((bD _ _ Q.symm).trans (bD _ _ Q.symm)).trans ai
 obtain⟨d,D⟩:∃d,z.eJ (M+2) (fk I (gZ I (ke (m6 p) e.J e.eo)))=d:=⟨_,rfl⟩;have a1:d.mp M=some (.map (fk Name.v (gZ I (ke (m4 p) e.name e.eo)))):=by rw[<-D,<-A];exact(bD _ _ Q).trans (bh _ _ _)
 have a2:d.mp (M+1)=some (.map (fk I (gZ I (m5 p)))):=by rw[<-D,<-A,<-y];exact((bD _ _ aC).trans ((bD _ _ ab.symm).trans (bD _ _ ab.symm))).trans ad
 have a3:d.mp (M+2)=some (.map (fk I (gZ I (ke (m6 p) e.J e.eo)))):=by rw[<-D];exact bh _ _ _
 have a4:bA none E d:=by
  rw[<-D,<-A,<-y];exact⟨P.box,λi N=>((bD _ _ av).trans ((bD _ _ av).trans (bD _ _ av))).trans (P.mp i N),P.Y⟩
 repeat any_goals first|simp only[gE,simprocAttr,FC,H,f,K,o,r,ul,L]|refine lq c3 ?_|refine e9 ?_ ?_
 all_goals refine zg As (a:=e.name) (l:=gZ I (m4 p)) (id:=M) (fA:=u.E) sT sT sT ac (λi N=>?_);rw[aA]at N ⊢;rw[y];(repeat any_goals first|simp(disch:=try exact om) only[gE,simprocAttr,H,f,K,o,r,ul,L]|refine e9 ?_ ?_)
 all_goals refine u0 As (a:=e.name) (l:=jh (gZ I (m4 p)) e.name (I 0)) (id:=M) (j:=i) (fA:=t) (yv:=I e.eo) sT sT sT aD N sT rfl ?_;rw[yy,qm,A];(repeat any_goals simp only[gE,simprocAttr,H,f,K,o,r,ul,L])
 all_goals refine nw LH (a:=e.J) (l:=gZ I (m6 p)) (id:=M+2) (fA:=z) (yv:=I e.eo) sT sT sT a0 sT rfl ?_;rw[qm,D];(repeat any_goals simp only[gE,simprocAttr,H,f,K,o,r,ul,L])
 all_goals first
  |exact aB _ ⟨by simp only[da,simprocAttr,f],by simp only[da,simprocAttr],by simp only[da,simprocAttr,o],by simp only[da,simprocAttr,r],by(simp only[da,simprocAttr];exact ul),by(simp only[da,simprocAttr];exact a1),by(simp only[da,simprocAttr];exact a2),by(simp only[da,simprocAttr];exact a3),by(simp only[da,simprocAttr];exact a4)⟩
  |skip
def O4(E:aK)(P:V)(o1:P.one=true)(o2:P.dY=false)(l:List aW)(bu:xj P=some (I l.length))(bv:KA P l E)(K:Nat)(e2:K<=l.length)(ch:∀k (h:k< (gj l).length),k<=K->(gj l)[k].good)(e4:l.length<20)
 (bY:∀k (h:k< (gj l).length),k<K->qN ((gj l).take k) (gj l)[k])
 (hb:∀h:K< (gj l).length,fN (m4 ((gj l).take K)) (gj l)[K].name=none/\(gj l)[K].seq≠(fN (m5 ((gj l).take K)) (gj l)[K].J).getD 0):aI 54 [P] E λu _ b2=>u=.hJ [I K,I (if K<l.length then 10 else 0)]/\bA none E b2:=by
 have hlen:=s7 l;refine bq aay.ok rfl ?_;repeat any_goals first|simp only[gE,simprocAttr,o1,o2,bu,HX.act]|refine cs ?_ ?_<;>intro h<;>try omega
 have aC:bA none E E.hN.hN.hN:=⟨λi a3 _=>rfl,λi a3=>by simp only[aK.hN];rw[bD _ _ av,bD _ _ av,bD _ _ av],by simp only[aK.hN];omega⟩;refine bz (h0:=E.hN.hN.hN) (by simp only[da,simprocAttr]) (bv _ aC) (by simp only[bR,cm,da,simprocAttr,bx,o2]) ag ?_;rintro _ _ h1 ⟨rfl,z⟩;have hS:bA none E h1:=aC.trans z;obtain⟨M,q⟩:∃M,E.Y=M:=⟨_,rfl⟩;have b3:E.Y<=M:=c0 q;have ci:h1.mp M=some (.map []):=by
  rw[z.mp M (by rw[<-q];simp only[aK.hN];omega),<-q];simp only[aK.hN];rw[bD _ _ av,bD _ _ av,bh]
 have p1:h1.mp (M+1)=some (.map []):=by
  rw[z.mp _ (by rw[<-q];simp only[aK.hN];omega),<-q];simp only[aK.hN];rw[bD _ _ av,bh]
 have cp:h1.mp (M+2)=some (.map []):=by
  rw[z.mp _ (by rw[<-q];simp only[aK.hN];omega),<-q];simp only[aK.hN];exact bh _ _ _
 rw[q];generalize e5:gj l=L at*
 repeat any_goals simp only[gE,simprocAttr,fP]
 refine dT rfl rfl (λ(k:Nat) t=>k<=K/\t.Z 26=I k/\t.E.mp M=some (.map (fk Name.v (gZ I (m4 (L.take k)))))/\t.E.mp (M+1)=some (.map (fk I (gZ I (m5 (L.take k)))))/\t.E.mp (M+2)=some (.map (fk I (gZ I (m6 (L.take k)))))/\bA none E t.E) (λk=>K-k) 0 ?_ ?_
 .refine⟨aL _,?_⟩;simp only[da,simprocAttr,bQ];exact⟨ci,p1,cp,hS⟩
 rintro k t ⟨g1,a4,a5,g4,g5,Q⟩ y;have R:t.Z 4=.mp M:=by rw[y 4 du];simp only[sE,simprocAttr];(done)
 have r:t.Z 5=.mp (M+1):=by rw[y 5 du];simp only[sE,simprocAttr];(done)
 have o:t.Z 6=.mp (M+2):=by rw[y 6 du];simp only[sE,simprocAttr];(done)
 have c1:t.Z 0=P:=by rw[y 0 du];simp only[sE,simprocAttr];(done)
 have a24:t.Z 24=fP L:=by rw[y 24 du];simp only[sE,simprocAttr];(rfl)
 have a25:t.Z 25=I L.length:=by rw[y 25 du];simp only[sE,simprocAttr];(done)
 clear y;rcases am k L.length with d|d
 .have aD:L[k].good:=ch k d g1;have c2:=Ks L[k] aD;have e3:=aD.enc.C;have c3:=wz L[k];have b5:=Ou L k (kY d) L[k].J;have aA:=nK I (I 0) (m4 (L.take k));have c5:=nK I (I 0) (m5 (L.take k));have c6:=nK I (I 0) (m6 (L.take k));obtain⟨A,f⟩:∃c,(fN (m5 (L.take k)) L[k].J).getD 0=c:=⟨_,rfl⟩;obtain⟨a0,ab⟩:∃c,(fN (m6 (L.take k)) L[k].J).getD 0=c:=⟨_,rfl⟩;have c7:fN (m4 (L.take k)) L[k].name=none:=by
   rcases am k K with h|h
   .exact(bY k d h).new
   .obtain rfl:k=K:=av;exact(hb d).1
  rw[f]at b5;have a6:kP (gZ I (m4 (L.take k))) L[k].name (I 0)=I 0/\zT (gZ I (m4 (L.take k))) L[k].name=false:=by rw[(aA L[k].name).1,(aA L[k].name).2,c7];exact⟨rfl,rfl⟩
  have a7:kP (gZ I (m5 (L.take k))) L[k].J (I 0)=I A:=by rw[(c5 L[k].J).1,<-f];cases fN (m5 (L.take k)) L[k].J<;>rfl
  have c9:kP (gZ I (m6 (L.take k))) L[k].J (I 0)=I a0:=by rw[(c6 L[k].J).1,<-ab];cases fN (m6 (L.take k)) L[k].J<;>rfl
  repeat any_goals first|simp(disch:=try exact om) only[gE,simprocAttr,a4,R,r,o,a24,a25,d,fP,aW.v,Op.v,Op.c,gU.v]|refine cs ?_ ?_<;>intro h<;>try omega|refine lq c2 ?_|refine lq c3 ?_
  refine ju As (a:=L[k].name) (l:=gZ I (m4 (L.take k))) (id:=M) (fA:=t.E) sT sT sT a5 ?_;rw[a6.1,a6.2];simp only[i6];repeat any_goals simp(disch:=try exact om) only[gE,simprocAttr,r,o]
  refine ju LH (a:=L[k].J) (l:=gZ I (m5 (L.take k))) (id:=M+1) (fA:=t.E) sT sT sT g4 ?_;rw[a7];simp only[i6];rcases am k K with ac|ac
  .obtain⟨_,a8,a9,dd⟩:=bY k d ac;rw[f]at a8 a9;rw[ab]at a9;have b6:=RT d;have a1:=J9 d;have b7:=RU d;rw[f]at a1;generalize L.take k=p at*
   have e6:A<=0\/a0<L[k].eo:=by
    by_cases h:0<A
    .exact .inr (a9 h)
    .exact .inl av
   generalize L[k]=e at*
   repeat any_goals first|simp only[gE,simprocAttr,r,o,a8]|refine cs ?_ ?_<;>intro h<;>try exact absurd trivial h
   refine ju LH (a:=e.J) (l:=gZ I (m5 p)) (id:=M+1) (fA:=t.E) sT sT sT g4 ?_;rw[a7];simp only[i6];repeat any_goals first|simp only[gE,simprocAttr,r,o]|refine gz ?_ ?_<;>intro df h<;>try simp only[df]
   all_goals try(refine ju LH (a:=e.J) (l:=gZ I (m6 p)) (id:=M+2) (fA:=t.E) (by simp only[da,simprocAttr,o]) (by simp only[da,simprocAttr];try rfl) (by simp only[da,simprocAttr]) g5 ?_;rw[c9];simp only[i6];(repeat any_goals simp only[dt,simprocAttr,bx,r,o,bQ,bP,cw,cP,cy,cd]))
   all_goals
    refine p2 (D:=[2,3,12,14,15,16,71,72,73,74,75,76,77,78,79,80,81,82,83,84,85,86,87,88,89,90,91]) (bJ:=[]) rfl (λj:Nat=>j<=e.C.length) (λj=>[(71,I j,false),(12,B false,false)]) (λj=>e.C.length-j) (0) rfl rfl (λ_=>rfl) (aL _) ?_ ?_ ?_;(·((simp only[fR,fM,bL,cK];and_intros;all_goals(try(simp only[mR,simprocAttr]));all_goals(try(first|with_reducible exact .refl _|(intro h;cases h;done)))));all_goals(exact ak (aq V.bool (dZ (by omega)))));(·((simp only[fR,fM,bL,cK];and_intros)));rintro j e7;rcases am j e.C.length with ad|ad
    .obtain⟨tk,h1,fa⟩:=dd e.C[j] (ah _);have ca:kP (gZ I (m4 p)) e.C[j] (I 0)=I tk/\zT (gZ I (m4 p)) e.C[j]=true:=by rw[(aA e.C[j]).1,(aA e.C[j]).2,h1];exact⟨rfl,rfl⟩
     repeat any_goals first|simp(disch:=try exact om) only[gE,simprocAttr,ad,R]|refine bZ ?_ ?_<;>intro h<;>(try simp only[h])<;>(try simp only[jg]at h)<;>try omega
     refine ju As (a:=e.C[j]) (l:=gZ I (m4 p)) (id:=M) (fA:={t.E with fl:=λ_ _=>false}) (by simp only[da,simprocAttr,R]) (by simp only[da,simprocAttr];rfl) (by simp only[da,simprocAttr,ri]) a5 ?_;rw[ca.1,ca.2];simp only[i6];repeat any_goals first|simp(disch:=try exact om) only[dt,simprocAttr,bx,bQ,bP,cw,cP,cy,cd]|(refine⟨j+1,⟨?_⟩,⟨av⟩,?_⟩;rotate_left;focus (simp only[fR,fM,bL,cK];and_intros;all_goals(try(simp only[mR,simprocAttr]));all_goals(try(first|(intro h;cases h;done)|(refine ak (aq I ?_);omega)))))
     all_goals first
      |omega
      |exact ak (aq V.bool (dZ av))
      |(repeat first|with_reducible (first|exact Kept.refl _|refine eF ?_|refine eO ?_|refine eB ?_|refine gy ?_|refine ec ?_)|(with_reducible refine eC ?_ ?_;rotate_left;(simp only[pY,simprocAttr,bx]<;>first|done|omega|decide))|(with_reducible refine SM ?_ sT sT sT))
    .obtain⟨pl,ai⟩:∃pl,FC.1=pl:=⟨_,rfl⟩;have cb:=ai;simp only[FC]at ai;simp only[ai];repeat any_goals first|simp only[dt,simprocAttr,ad,bx,R,r,o,bQ,bP,cw,cP,cy,cd]|refine bZ ?_ ?_<;>intro h<;>(try simp only[h])<;>(try simp only[jg]at h)<;>try omega
     refine forget (G:=λu=>bU prog GL true pl u _) (λu=>u.Z 4=.mp M/\u.Z 5=.mp (M+1)/\u.Z 6=.mp (M+2)/\u.Z 26=I k/\u.Z 8=.lp 8 (t.G 8) 0/\u.G 8=t.G 8+1/\u.loc 8 (t.G 8)=e.v.cells/\u.E.mp M=some (.map (fk Name.v (gZ I (m4 p))))/\u.E.mp (M+1)=some (.map (fk I (gZ I (m5 p))))/\u.E.mp (M+2)=some (.map (fk I (gZ I (m6 p))))/\bA none E u.E) ?_ ?_
     .simp only[da,simprocAttr,ri,R,r,o,a4,aW.v,V.cells,CX,a5,g4,g5];simp only[aQ,aw,ay,cA,Nat.reduceAdd,a8];exact⟨trivial,⟨Q.box,Q.mp,Q.Y⟩⟩
     rintro u ⟨dr,ds,dE,H,dU,ea,ul,eb,ed,el,et⟩;rw[<-cb];refine O3 E M (t.G 8) b3 e p u dr ds dE dU ea ul eb ed el et a6.1 _ ?_;rintro v ⟨bi,N,bl,bc,aB,eK,cc,e1,bo⟩;simp only[aW.v,V.cells]at aB;have bs:=dn (t.G 8);repeat any_goals simp only[gE,simprocAttr,bi,N,bl,bc,aB,bs,H]
     refine ju LH (a:=e.J) (l:=gZ I (m5 p)) (id:=M+1) (fA:=v.E) sT sT sT cc ?_;rw[a7];simp only[i6];repeat any_goals simp(disch:=omega) only[gE,simprocAttr,bi,N,bl,bc,aB,bs,H]
     refine nw LH (a:=e.J) (l:=gZ I (m5 p)) (id:=M+1) (fA:=v.E) (yv:=I (A+1)) sT sT sT cc sT rfl ?_;rw[qm];repeat any_goals simp(disch:=omega) only[gE,simprocAttr,bi,N,bl,bc,aB,bs,H]
     refine⟨k+1,⟨?_⟩,⟨av⟩⟩;rw[b6,a1,b7];refine⟨ac,by(simp only[sE,simprocAttr,N,H]);exact aq (V.int .i64) av,?_,?_,?_,?_⟩
     .simp only[sE,simprocAttr];exact(bD _ _ (show M≠M+1 by omega)).trans eK
     .simp only[sE,simprocAttr];try exact bh _ _ _
     .simp only[sE,simprocAttr];exact(al av).trans e1
     .simp only[da,simprocAttr,bQ];exact⟨bo.box,λi a3=>(bD _ _ (show i≠M+1 by omega)).trans (bo.mp i a3),bo.Y⟩
  .obtain rfl:k=K:=av;have a2:=(hb d).2;rw[f]at a2;rw[show(if k<l.length then(10:Int)else 0)=10 from ax av];repeat any_goals first|simp only[gE,simprocAttr,r,o,a2]|refine cs ?_ ?_<;>intro h<;>try omega
   exact⟨nE,_,_,uM rfl rfl rfl rfl,rfl,Q⟩
 .obtain rfl:k=L.length:=av;obtain rfl:L.length=K:=av;rw[show(if L.length<l.length then(10:Int)else 0)=0 from al av];repeat any_goals first|simp only[gE,simprocAttr,a4,c1,a24,a25,o1,o2,bu,fP]|refine cs ?_ ?_<;>intro h<;>try omega
  exact⟨nE,_,_,uM rfl rfl rfl rfl,by(simp only[da,simprocAttr]);rw[hlen],Q⟩
section
variable {GL:Nat->Option (List V)}{P:Program}{s:St}{K:St->Prop}{pu:Bool}{d:Option Nat}{r:List BI}{x:eL}{fA:aK}{kvs:List (V×V)}{id wid n:Nat}{seen:List Nat}
def aaz(a:s.E=fA)(hx:s.val x=.mp id)(f:fA.mp id=some (.map kvs))(h:gA P GL d pu r s K (.bp fA.Y 0) false (fA.vM (.walk id kvs.length []))):(MX.jG x).wp s (gA P GL d pu r s K):=by
 subst a;simp only[MX.wp,hx];exact⟨kvs,f,h⟩
def KB(a:fA.mp wid=some (.walk id n seen))(f:fA.mp id=some (.map kvs))(j:kvs.length=n):ye fA (.bp wid 0)=some (wid,id,n,seen,kvs):=by
 simp only[ye,a,f,j,bP]
def V4(f:s.E=fA)(hx:s.val x=.bp wid 0)(a:fA.mp wid=some (.walk id n seen))(l:fA.mp id=some (.map kvs))(o:kvs.length=n)
 (h0:(∀j,j<n->j∈seen)->gA P GL d pu r s K (.hJ [.bool false]) false fA)
 (p:∀j u,j∉seen->kvs[j]?=some u->gA P GL d pu r s K (.hJ [.bool true,u.1,u.2]) false (fA.Du wid (.walk id n (seen++[j])))):(MX.next x).wp s (gA P GL d pu r s K):=by
 subst f;have q:Ae s.E (.bp wid 0)=false:=by simp only[Ae,a]
 simp only[MX.wp,hx,q,KB a l o,bK,cH];exact⟨h0,p⟩
def SN{j:Nat}{u:V×V}(a:s.E=fA)(hx:s.val x=.bp wid 0)(f:fA.mp wid=some (.walk id n (seen++[j])))(l:fA.mp id=some (.map kvs))(o:kvs.length=n)(p:kvs[j]?=some u)
 (h:gA P GL d pu r s K (.hJ [u.1,u.2]) false fA):(MX.entry x).wp s (gA P GL d pu r s K):=by
 subst a;simp only[MX.wp,hx,KB f l o];exact⟨j,u,bT,p,h⟩
end
def gm.maps(H:gm)(E:aK)(a f:Nat):Prop:=E.mp a=some (.map (fk ID.v (gZ eW H.next)))/\E.mp f=some (.map (fk ID.v (gZ Name.v H.left)))/\a<E.Y/\f<E.Y
def abL:CF GL f17 [] [] 17:=jo
def abM:CF GL f19 [] [] 19:=jo
def Cx(E:aK)(H:gm)(j f:Nat)(p:H.maps E j f)(a:ID):aI 17 [H.v j f,a.v] E λu _ o=>u=.hJ [((fN H.left a).getD ⟨0,0⟩).v,B (fN H.left a).isSome]/\o=E:=by
 refine bq abL.ok rfl ?_;obtain⟨g1,q⟩:=nK Name.v (.agg [I 0,I 0]) H.left a;have t:((fN H.left a).map Name.v).getD (.agg [I 0,I 0])=((fN H.left a).getD ⟨0,0⟩).v:=by cases fN H.left a<;>rfl
 repeat' first|simp only[gE,simprocAttr,gm.v,ID.v]|refine e9 ?_ ?_
 all_goals
  refine ju qJ (a:=a) (l:=gZ Name.v H.left) (id:=f) (fA:=E) sT sT sT p.2.1 ?_;rw[g1,q,t];simp only[i6];repeat' simp(disch:=try exact om) only[gE,simprocAttr,Name.v]
  exact Uv
def xQ(n:List (ID×List ID)):List cI:=n.flatMap λx=>x.2.map λb=>⟨x.1,b⟩
def rF(n:List (ID×List ID))(j:Nat):List cI:=match n[j]? with
 |some x=>x.2.map λb=>⟨x.1,b⟩
 |none=>[]
def O5(n:List (ID×List ID))(seen:List Nat)(h:∀j,j<n.length->j∈seen)(z:cI):z∈seen.flatMap (rF n)↔z∈xQ n:=by
 unfold xQ;simp only[dC];constructor
 .rintro⟨j,_,a⟩;unfold rF at a;split at a
  next x hx=>exact⟨x,bW hx,a⟩
  .cases a
 .rintro⟨x,hx,a⟩;obtain⟨j,f,rfl⟩:=ja hx;exact⟨j,h j f,by unfold rF;rw[aa f];exact a⟩
def aaA(f:Nat->Nat)(j:Nat):∀l:List Nat,j∈l->((l.filter (· ≠j)).map f).sum+f j<=(l.map f).sum
 |x::l,h=>by
  by_cases e:x=j
  .subst e;have:((l.filter (· ≠x)).map f).sum<=(l.map f).sum:=by
    clear h;induction l with
    |nil=>simp
    |cons y l ih=>
     by_cases e:y=x
     .subst e;simp at ih ⊢;omega
     .simp[e]at ih ⊢;omega
   simp at this ⊢;omega
  .have a:j∈l:=by
    rcases bn.1 h with h|h
    .exact absurd h.symm e
    .exact h
   have:=aaA f j l a;simp[e]at this ⊢;omega
def Cy(n:List (ID×List ID))(l:List Nat):Nat:=(l.map λj=>(rF n j).length).sum
def V5(E:aK)(H:gm)(f ac:Nat)(bl:H.maps E f ac)(a1:Cy H.next (List.range H.next.length)<=1000000):aI 19 [H.v f ac] E λu _ a2=>u=hE (kF (xQ H.next))/\bA none E a2:=by
 obtain⟨aC,_,a3,_⟩:=bl;obtain⟨a,ad⟩:∃a,H.next=a:=⟨_,rfl⟩;rw[ad]at aC a1;rw[ad];refine bq abM.ok rfl ?_;have A:(fk ID.v (gZ eW a)).length=a.length:=by simp[fk,gZ]
 repeat' simp only[gE,simprocAttr,gm.v]
 refine aaz (fA:=E) (kvs:=fk ID.v (gZ eW a)) (id:=f) sT sT aC ?_;rw[A];repeat' simp only[gE,simprocAttr]
 refine dT rfl rfl (λ(q:List Nat×List Nat) t=>t.E.box=E.box/\t.E.mp E.Y=some (.walk f a.length q.1)/\(∀i,i<E.Y->t.E.mp i=E.mp i)/\t.E.Y=E.Y+1/\V.Le (t.Z 3) (hE (q.1.flatMap (rF a)))/\(t.fl 3=true\/t.Z 3=.aP)/\(∀j,j<a.length->j∉q.1->j∈q.2)/\(q.1.flatMap (rF a)).length+Cy a q.2<=1000000) (λq=>q.2.length) ([],List.range a.length) ?_ ?_
 .simp only[da,simprocAttr];refine⟨rfl,?_,?_,rfl,?_,.inr trivial,?_,?_⟩
  .exact bh _ _ _
  .intro i y;exact bD _ _ (ct y)
  .exact .aP _
  .intro j Q _;exact dm.2 Q
  .simpa using a1
 rintro⟨seen,un⟩ t ⟨g1,a4,R,g4,g5,g6,ab,a5⟩ a6;simp only at g1 a4 R g4 g5 g6 ab a5;have L:t.Z 14=.bp E.Y 0:=(a6 14 du).trans sT;have a7:t.E.mp f=_:=(R f a3).trans aC;clear a6;repeat' simp only[gE,simprocAttr,L]
 refine V4 (fA:=t.E) sT sT a4 a7 A (λaD=>?_) (λj u Q l=>?_)
 .have bo:=zk (O5 a seen aD);have c:=Fw (seen.flatMap (rF a)) av;rw[bo]at c;repeat' simp(disch:=try exact om) only[gE,simprocAttr]
  refine jj c (.cons ?_ .nil) ?_
  .exact sT
  repeat' simp only[gE,simprocAttr]
  exact⟨nE,_,_,bC rfl rfl,rfl,λi _ _=>nF g1 i,R,(by show E.Y<=t.E.Y;omega)⟩
 .obtain⟨x,hx,rfl⟩:∃x,a[j]?=some x/\u=(x.1.v,eW x.2):=by
   have l:=l;simp only[fk,gZ,bw]at l;cases h:a[j]? with
   |none=>rw[h]at l;cases l
   |some x=>rw[h]at l;exact⟨x,rfl,(ar l).symm⟩
  have ai:rF a j=x.2.map λb=>⟨x.1,b⟩:=by simp only[rF,hx]
  have aA:j<a.length:=(aH.1 hx).1;have b2:=aaA (λj=>(rF a j).length) j un (ab j aA Q);have b3:(rF a j).length=x.2.length:=by rw[ai,au]
  have a0:Cy a un=(un.map λj=>(rF a j).length).sum:=rfl;rw[a0]at a5;obtain⟨o,z⟩:∃o:aK,t.E.Du E.Y (.walk f a.length (seen++[j]))=o:=⟨_,rfl⟩;have bs:o.mp f=some (.map (fk ID.v (gZ eW a))):=by rw[<-z];exact(bD _ _ (ct a3)).trans a7
  have a8:o.mp E.Y=some (.walk f a.length (seen++[j])):=by rw[<-z];exact bh _ _ _
  have bu:o.box=E.box:=by rw[<-z];exact g1
  have bv:∀i,i<E.Y->o.mp i=E.mp i:=λi y=>by rw[<-z];exact(bD _ _ (ct y)).trans (R i y)
  have bY:o.Y=E.Y+1:=by rw[<-z];exact g4
  rw[z];repeat' simp(disch:=try exact om) only[gE,simprocAttr,L]
  refine SN (fA:=o) (j:=j) sT sT a8 bs A l ?_;repeat' simp(disch:=try exact om) only[gE,simprocAttr,L,eW]
  refine p2 (D:=[3,7,22,23,24,25,26,27,28,29,30,31,32]) (bJ:=[]) rfl (λk:Nat=>k<=x.2.length) (λk=>[(22,I k,false),(3,hE (seen.flatMap (rF a)++(x.2.take k).map λb=>⟨x.1,b⟩),true)]) (λk=>x.2.length-k) (0) rfl rfl (λ_=>rfl) (aL _) ?_ ?_ ?_;(·((simp only[fR,fM,bL,cK];and_intros;all_goals(try(simp only[mR,simprocAttr]));all_goals(try(first|with_reducible exact .refl _|(intro h;cases h;done)))));all_goals(first|exact g5|(rw[cD];exact g5)|(intro _;exact g6)));(·((simp only[fR,fM,bL,cK];and_intros)));rintro k b5;have a9:((x.2.take k).map λb=>(⟨x.1,b⟩:cI)).length=k:=by rw[au,aG];omega
  rcases am k x.2.length with p|p
  .repeat' first|simp(disch:=try exact om) only[gE,simprocAttr,hE,p,a9]|refine cs ?_ ?_<;>intro h<;>try omega|(refine⟨k+1,⟨?_⟩,⟨av⟩,?_⟩;rotate_left;focus (simp only[fR,fM,bL,cK];and_intros;all_goals(try(simp only[mR]));all_goals(try(first|(intro h;cases h;done)|(intro _;(simp;done))|(refine ak (aq I ?_);omega)))))
   .exact ak (aq (V.sl 6) (by rw[br p];simp only[az,aF];rfl))
   ·(repeat first|with_reducible (first|exact Kept.refl _|refine eF ?_|refine eO ?_|refine eB ?_|refine gy ?_|refine ec ?_)|(with_reducible refine eC ?_ ?_;rotate_left;(simp only[pY,simprocAttr,bx])))
   .omega
  .obtain rfl:k=x.2.length:=av;rw[bg,<-ai];have aB:(seen++[j]).flatMap (rF a)=seen.flatMap (rF a)++rF a j:=bT;repeat' first|simp only[gE,simprocAttr,hE,a9]|refine cs ?_ ?_<;>intro h<;>try omega
   have bi:(un.filter (· ≠j)).length<un.length:=by
    refine List.length_filter_lt_length_iff_exists.2 ⟨j,ab j aA Q,bT⟩
   refine⟨(seen++[j],un.filter (· ≠j)),⟨?_⟩,⟨bi⟩⟩;refine⟨bu,a8,bv,bY,?_,.inl rfl,?_,?_⟩
   .rw[aB];exact .refl _
   .intro i y N;simp only[aN,aR,lS]at N;exact jt.2 ⟨ab i y N.1,by simpa using N.2⟩
   .have:Cy a (un.filter (· ≠j))=((un.filter (· ≠j)).map λj=>(rF a j).length).sum:=rfl;show((seen++[j]).flatMap (rF a)).length+Cy a (un.filter (· ≠j))<=1000000;rw[aB,ae,this];omega
def gu.O6{sz:Nat}{h:aK}{v:V}{xs:List V}{fz:aj}(hm:gu sz h v xs)(f:∀i,bI v=some i->fz i=h.box i):V.lF fz v (.sl sz xs):=by
 obtain⟨ho,⟨rfl,rfl⟩|⟨id,c,rest,rfl,dW,hb,o,p⟩⟩:=hm
 .exact .aP sz
 .refine .ms sz id 0 xs.length c (b9 xs++rest) (b9 xs++rest) xs ((f id rfl).trans hb) rfl (λj a b l d=>?_) rfl λi x hx=>?_
  .rw[l]at d;cases d;exact .refl _
  .exact XM
def qS{h:aK}{X:List Nat}{n:Nat}(a:∀i∈X,n<=i)(i:Nat)(d:i<n):(h.less X).box i=h.box i:=by
 simp only[aK.less];rw[al (λe=>by have:=a i e;omega)]
def GE.O6{E:aK}{fz:aj}:∀{N:List (ID×V)} {nx:List (ID×List ID)},GE E N nx->(∀i∈gC N,fz i=E.box i)->N.length=nx.length/\∀(j:Nat) c d,(fk ID.v N)[j]?=some c->(fk ID.v (gZ eW nx))[j]?=some d->V.lF fz c.1 d.1/\V.lF fz c.2 d.2
 |[],[],_,_=>⟨rfl,λj c d h=>by simp[fk]at h⟩
 |x::r,y::s,⟨p,q,t⟩,o=>by
  obtain⟨q1,u⟩:=GE.O6 t (λi a=>o i (aU _ a));refine⟨by simp[q1],λj c d f l=>?_⟩;cases j with
  |zero=>
   simp only[fk,gZ,bt,ey,co]at f l;subst f;subst l;exact⟨by simp only[p];exact .refl _,q.O6 λi a=>o i (bV _ (by simp[a]))⟩
  |succ j=>exact u j c d (by simpa[fk]using f) (by simpa[fk,gZ]using l)
 |[],_::_,h,_=>h.elim
 |_::_,[],h,_=>h.elim
def HQ.give{base E:aK}{dW f q tid:Nat}{ev l ed:V}{N:List (ID×V)}{H:gm}{ts:List (T×gU)}(Q:HQ base E dW ev l ed f q N H tid ts):
 ∃fz t,jE fz E t/\V.lF fz (.bp dW 0) (H.v f q)/\H.maps t f q/\bA none base t:=by
 have A:∀i∈mQ dW ev l ed N,base.Y<=i:=λi a=>(Q.bd i a).1;have o:∀i∈mQ dW ev l ed N,oC E (mQ dW ev l ed N) i=E.box i:=λi a=>pg a;have y:=l6 E (mQ dW ev l ed N);have D:=Q.nx.O6 (fz:=oC E (mQ dW ev l ed N)) (λi a=>o i (dg.2 (.inr (.inr (.inr (.inr a))))));refine⟨oC E (mQ dW ev l ed N),{(E.less (mQ dW ev l ed N))with mp:=eQ E.mp f (some (.map (fk ID.v (gZ eW H.next))))},⟨y.CU,y.box,y.fl,λi z e=>?_,an _⟩,?_,⟨bh _ _ _,(bD _ _ Q.md.1.symm).trans Q.lm,Q.mb.1.2,Q.mb.2.1.2⟩,⟨λi a _=>?_,λi a=>?_,Q.same.Y⟩⟩
 .by_cases a:i=f
  .subst a;have u:eQ E.mp i (some (.map (fk ID.v (gZ eW H.next)))) i=some z:=e;rw[bh]at u;obtain rfl:=ar u;refine⟨_,Q.nm,?_,D.2⟩;simp only[fk,gZ,au];exact D.1
  .have u:eQ E.mp f (some (.map (fk ID.v (gZ eW H.next)))) i=some z:=e;rw[bD _ _ a]at u;exact⟨z,u,.refl _⟩
 .have hb:=o dW (dg.2 (.inl rfl));rw[Q.box]at hb;refine V.lF.bp dW 0 _ [fP H.fF,ka H.void,cf H.bN.O,C9 H.hL,.mp f,.mp q] hb rfl λj c d p r=>?_
  match j with
  |0=>cases p;cases r;exact Q.fe.O6 λi a=>o i (dg.2 (.inr (.inl a)))
  |1=>cases p;cases r;exact Q.fv.O6 λi a=>o i (dg.2 (.inr (.inr (.inl a))))
  |2=>cases p;cases r;exact .refl _
  |3=>cases p;cases r;exact Q.fd.O6 λi a=>o i (dg.2 (.inr (.inr (.inr (.inl a)))))
  |4=>cases p;cases r;exact .refl _
  |5=>cases p;cases r;exact .refl _
  |j+6=>cases p
 .exact(qS A i a).trans (Q.same.box i a bT)
 .exact(bD _ _ (by have:=Q.mb.1.1;omega)).trans (Q.same.mp i a)
structure zA(x:gm×List (T×gU))(p:List aW):Prop where
 fF:x.1.fF=p
 void:x.1.void.length<=p.length
 bN:x.1.bN.ok
 next:uZ x.1.next (p.length*1200000)
 hL:x.1.hL.length<=p.length
 Hs:∀e∈x.1.hL,e.1.ok/\fu e.1=0
 ts:x.2.length<=p.length
 nd:(x.2.map (·.1)).Nodup
 key:∀y∈x.2,y.1.length<=1000000
def KC{e:aW}(h:e.good):e.op.ok/\(∀t∈e.op.F,t.length<=10000)/\e.op.cW.length<=100000:=by
 obtain⟨_,_,_,a,d,_⟩:=h.enc.op;exact⟨h.ok.2.1,λt f=>by have:=a t f;omega,d⟩
def G5{α β:Type}[DecidableEq α](l:List (α×β))(a:α)(b:β):(ke l a b).length<=l.length+1:=by
 induction l with
 |nil=>simp[ke]
 |cons x r ih=>unfold ke;split<;>simp<;>omega
def G6{α β:Type}[DecidableEq α]{l:List (α×β)}{a:α}{b:β}{y:α×β}(h:y∈ke l a b):y=(a,b)\/y∈l:=by
 induction l with
 |nil=>simp[ke]at h;exact .inl h
 |cons x r ih=>
  unfold ke at h;split at h
  .rcases bn.1 h with h|h
   .exact .inl h
   .exact .inr (dw _ h)
  .rcases bn.1 h with h|h
   .exact .inr (by simp[h])
   .rcases ih h with h|h
    .exact .inl h
    .exact .inr (dw _ h)
def Cz{n:List (ID×List ID)}{k d:Nat}(h:uZ n k)(f:k<=d):uZ n d:=λa=>aT (h a) f
def zA.step{x:gm×List (T×gU)}{p:List aW}(h:zA x p){e:aW}(d:e.good):zA (tA x e) (p++[e]):=by
 obtain⟨g1,t,u⟩:=KC d;have z:(p++[e]).length=p.length+1:=bT;have key:∀(b:Bool)(H:gm)(ts:List (T×gU)),H.fF=p++[e]->H.void.length<=p.length->H.bN.ok->uZ H.next ((p++[e]).length*1200000)->H.hL.length<=p.length+1->(∀e∈H.hL,e.1.ok/\fu e.1=0)->ts.length<=p.length+1->(ts.map (·.1)).Nodup->(∀y∈ts,y.1.length<=1000000)->zA (if b=true then H else {H with void:=H.void++[e.name]},ts) (p++[e]):=by
  intro b H ts h1 f j l K o L q r;cases b with
  |true=>exact⟨h1,by simp only[bP];omega,j,l,by simp only[bP];omega,o,by simp only;omega,q,r⟩
  |false=>exact⟨h1,by simp;omega,j,l,by simp;omega,o,by simp;omega,q,r⟩
 have hn:uZ x.1.next ((p++[e]).length*1200000):=Cz h.next av;unfold tA J8;simp only;have N:=h.void;have D:=h.hL;have PN:=h.ts;split
 .unfold zo;simp only;split
  .refine key _ _ _ (by simp only[h.fF]) (by simp only;omega) (FA h.bN g1 t _) ?_ (by simp only;omega) h.Hs (eU PN) h.nd h.key;have P:=Kz h.bN u e.name;refine Cz (wL _ h.next) ?_;simp only[z];omega
  .exact Ug
 .split
  .split
   .exact Ug
   next A=>
    refine key _ _ _ (by simp only[h.fF]) (by simp only;omega) h.bN hn (by simp only[ae,ew];omega) (λy a=>?_) (eU PN) h.nd h.key;rcases aN.1 a with h1|h1
    .exact h.Hs y h1
    .obtain rfl:=aR.1 h1;exact⟨h.bN,cM λf=>A (.inr f)⟩
  .split
   .refine key _ _ _ (by simp only[h.fF]) (by simp only;omega) h.bN hn (by simp only;omega) h.Hs (aT (G5 _ _ _) (lr PN)) (Iq h.nd _ _) (λy a=>?_);rcases G6 a with rfl|a
    .exact d.ok.2.2.1.1
    .exact h.key y a
   .exact Ug
def zA.zero:zA (rc,[]) []:=⟨rfl,an _,⟨by simp[rc],λv h=>(by cases h),by simp[rc,dj,lA]⟩,λa=>by simp[rc,fN],an _,λe h=>(by cases h),an _,.nil,λy h=>(by cases h)⟩
def pO(l:List aW)(k:Nat):gm×List (T×gU):=(l.take k).foldl tA (rc,[])
def u1{l:List aW}{k:Nat}(h:k<l.length):pO l (k+1)=tA (pO l k) l[k]:=by
 unfold pO;rw[br h,de];rfl
def vv{l:List aW}(a:∀e∈l,e.good):∀k,k<=l.length->zA (pO l k) (l.take k)
 |0,_=>by simpa[pO]using zA.zero
 |k+1,h=>by
  rw[u1 (show k<l.length from h),br (show k<l.length from h)];exact(vv a k av).step (a _ (ah _))
def zB(l:List aW):k5 l=(pO l l.length).1:=by unfold k5 pO;rw[bg]
def sn(l:List ID):List (ID×V):=l.map λa=>(a,B true)
def xR(a:ID):∀l:List ID,kP (sn l) a (B false)=B (decide (a∈l))
 |[]=>rfl
 |x::r=>by
  have ih:=xR a r;unfold sn at ih ⊢
  rw[bt,kP];by_cases h:a=x
  .simp[h]
  .simp only[h,cH,ih,bn,rV]
def G7(a:ID):∀l:List ID,a∉l->jh (sn l) a (B true)=sn (l++[a])
 |[],_=>rfl
 |x::r,h=>by
  have ih:=G7 a r (λd=>h (dw _ d));unfold sn at ih ⊢
  have d:a≠x:=λe=>h (by simp[e]);rw[bt,jh];simp only[d,cH,ih,aZ,bt]
def G8(a:ID):∀l:List ID,jh (sn l) a (B true)=sn (if a∈l then l else l++[a])
 |[]=>rfl
 |x::r=>by
  have ih:=G8 a r;unfold sn at ih ⊢
  rw[bt,jh];by_cases h:a=x
  .subst h;simp
  .simp only[h,cH,ih,bn,rV];split<;>simp
def CA(mB tB oB pB hB fB:Nat):List V:=[.bp mB 0,.bp tB 0,.bp oB 0,.bp pB 0,.bp hB 0,.bp fB 0]
structure LQ(base E:aK)(mB tB oB pB hB fB M T kH kN:Nat)(H:gm)(th:List ID)(p:aJ)(met:List ID)(ov:V)(out:List cI):Prop where
 m1:E.box mB=some [.mp M]
 m2:E.mp M=some (.map (fk ID.v (sn met)))
 t1:E.box tB=some [.mp T]
 t2:E.mp T=some (.map (fk ID.v (sn th)))
 o1:E.box oB=some [ov]
 o2:gu 6 E ov (out.map cI.v)
 p1:E.box pB=some p.v.cells
 h1:E.box hB=some [H.v kH kN]
 f1:E.box fB=some [.fn 63 (CA mB tB oB pB hB fB)]
 mp:H.maps E kH kN
 ne:oB≠mB/\oB≠tB/\oB≠pB/\oB≠hB/\oB≠fB
 ov:∀i,bI ov=some i->i≠oB/\i≠mB/\i≠tB/\i≠pB/\i≠hB/\i≠fB/\base.Y<=i
 bd:mB<E.Y/\tB<E.Y/\oB<E.Y/\pB<E.Y/\hB<E.Y/\fB<E.Y
 mm:M≠T/\M≠kH/\M≠kN/\base.Y<=M/\M<E.Y/\base.Y<=oB/\T<E.Y
 same:bA none base E
section
variable {base E nr Uq:aK}{mB tB oB pB hB fB M T kH kN:Nat}{H:gm}{th:List ID}{p:aJ}{met:List ID}{ov:V}{out:List cI}
def LQ.meet(Q:LQ base E mB tB oB pB hB fB M T kH kN H th p met ov out){a:ID}(d:a∉met):LQ base (E.eJ M (fk ID.v (jh (sn met) a (B true)))) mB tB oB pB hB fB M T kH kN H th p (met++[a]) ov out:=
 {
  Q with
  m2:=by rw[G7 a met d];exact bh _ _ _
  t2:=(bD _ _ Q.mm.1.symm).trans Q.t2
  o2:=Q.o2.frame (λ_ _=>rfl) (an _)
  mp:=⟨(bD _ _ Q.mm.2.1.symm).trans Q.mp.1,(bD _ _ Q.mm.2.2.1.symm).trans Q.mp.2.1,Q.mp.2.2⟩
  same:=⟨Q.same.box,λi f=>(bD _ _ (by have:=Q.mm.2.2.2.1;omega)).trans (Q.same.mp i f),Q.same.Y⟩}
def LQ.link(Q:LQ base E mB tB oB pB hB fB M T kH kN H th p met ov out){v':V}{x:cI}(hS:bA (bI ov) E nr)(hm:gu 6 nr v' (out.map cI.v++[x.v]))(o:bI v'=bI ov\/bI v'=some E.Y)
 (tb:Uq.box=eQ nr.box oB (some [v'])) (tm:Uq.mp=nr.mp) (a:Uq.Y=nr.Y):LQ base Uq mB tB oB pB hB fB M T kH kN H th p met v' (out++[x]):=by
 obtain⟨q,r,aB,t,u,y⟩:=Q.bd;obtain⟨z,A,D,K,L⟩:=Q.ne;obtain⟨q1,N,P,R,ab,ac,ad⟩:=Q.mm;have aC:=hS.Y;have aD:=Q.same.Y;have fr:∀j c,j<E.Y->oB≠j->(∀i,bI ov=some i->i≠j)->E.box j=c->Uq.box j=c:=λj c f h1 ai aA=>by
  rw[tb,bD _ _ h1.symm,hS.box j f (λe=>ai j e rfl)];exact aA
 have d:∀j c,j<E.Y->E.mp j=c->Uq.mp j=c:=λj c f h=>by rw[tm,hS.mp j f];exact h
 have l:∀i,bI v'=some i->i≠oB/\i≠mB/\i≠tB/\i≠pB/\i≠hB/\i≠fB/\base.Y<=i:=λi h=>by
  rcases o with h1|h1
  .exact Q.ov i (h1▸h)
  .rw[h1]at h;cases h;omega
 exact {
  m1:=fr _ _ q z (λi h=>(Q.ov i h).2.1) Q.m1
  m2:=d _ _ ab Q.m2
  t1:=fr _ _ r A (λi h=>(Q.ov i h).2.2.1) Q.t1
  t2:=d _ _ ad Q.t2
  o1:=by rw[tb,bh]
  o2:=by
   rw[az];exact hm.frame (λi h=>by rw[tb];exact bD _ _ (l i h).1) (c0 a.symm)
  p1:=fr _ _ t D (λi h=>(Q.ov i h).2.2.2.1) Q.p1
  h1:=fr _ _ u K (λi h=>(Q.ov i h).2.2.2.2.1) Q.h1
  f1:=fr _ _ y L (λi h=>(Q.ov i h).2.2.2.2.2.1) Q.f1
  mp:=⟨d _ _ Q.mp.2.2.1 Q.mp.1,d _ _ Q.mp.2.2.2 Q.mp.2.1,by rw[a];have:=Q.mp.2.2;omega⟩
  ne:=Q.ne
  ov:=l
  bd:=by rw[a];omega
  mm:=⟨q1,N,P,R,by rw[a];omega,ac,by rw[a];omega⟩
  same:=⟨λi h _=>by
   rw[tb,bD _ _ av,hS.box i av (λe=>by have:=(Q.ov i e).2.2.2.2.2.2;omega)];exact Q.same.box i h bT,λi h=>by rw[tm,hS.mp i av];exact Q.same.mp i h,by rw[a];omega⟩}
end
def TY:fK prog 63=true:=by kernel_rfl
def aaB:CF GL f63 [24] [8] 63:=jo
def V6(base:aK)(mB tB oB pB hB fB M T kH kN:Nat)(H:gm)(th:List ID)(p:aJ)(U:List ID)(aD:∀a∈U,∀b∈fw H.next a,b∈U)(a4:∀a,(fw H.next a).length<=1000000)(C:Nat)(hC:C+U.length<=1000000000):
 ∀(f:Nat)(E:aK)(met:List ID)(ov:V)(out:List cI)(a:ID),LQ base E mB tB oB pB hB fB M T kH kN H th p met ov out->a∈U->pW U met<=f->(∀z∈met,z∈U)->met.Nodup->out.length<=met.length+C->
 aI 63 (a.v::CA mB tB oB pB hB fB) E λ_ _ r=>∃j,LQ base r mB tB oB pB hB fB M T kH kN H th p (qW (fw H.next) (λa=>decide (a∈th)) p.id f (met,out) a).1 j (qW (fw H.next) (λa=>decide (a∈th)) p.id f (met,out) a).2:=by
 intro f;induction f with
 |zero=>
  intro E met ov out a Q D b5 L a0 b6;have d:a∈met:=by
   refine cM λh=>?_;have:=xL D h;omega
  refine bq aaB.ok rfl ?_;have q1:=Q.m1;repeat' simp only[gE,simprocAttr,CA,ID.v,q1]
  refine ju qJ (a:=a) (l:=sn met) (id:=M) (fA:=E) sT sT sT Q.m2 ?_;rw[xR,dk d];simp only[i6];repeat' simp only[gE,simprocAttr]
  exact⟨nE,.hJ [],_,rfl,ov,Q⟩
 |succ f ih=>
  intro E met ov out a Q D b5 L a0 b6;refine bq aaB.ok rfl ?_;have q1:=Q.m1;repeat' simp only[gE,simprocAttr,CA,ID.v,q1]
  refine ju qJ (a:=a) (l:=sn met) (id:=M) (fA:=E) sT sT sT Q.m2 ?_;rw[xR];simp only[i6];by_cases d:a∈met
  .rw[dk d];repeat' simp only[gE,simprocAttr]
   rw[show qW (fw H.next) (λa=>decide (a∈th)) p.id (f+1) (met,out) a=(met,out)by rw[qW,ax d]];exact⟨nE,.hJ [],_,rfl,ov,Q⟩
  rw[dZ d];have a5:qW (fw H.next) (λa=>decide (a∈th)) p.id (f+1) (met,out) a=(fw H.next a).foldl (qW (fw H.next) (λa=>decide (a∈th)) p.id f) (met++[a],if decide (a∈th)=true then out++[⟨p.id,a⟩]else out):=by rw[qW,al d]
  rw[a5];repeat' simp only[gE,simprocAttr,q1]
  refine nw qJ (a:=a) (l:=sn met) (id:=M) (fA:=E) (yv:=B true) sT sT sT Q.m2 sT rfl ?_;have Q1:=Q.meet d;generalize E.eJ M (fk ID.v (jh (sn met) a (B true)))=h1 at*
  repeat' simp only[gE,simprocAttr]
  refine ei (uD (J:=λt=>t.Z 5=.bp hB 0/\t.Z 6=.bp fB 0/\t.Z 7=.lp 7 0 0/\t.G 7=1/\t.loc 7 0=[I a.J,I a.seq,I a.k]/\∃j,LQ base t.E mB tB oB pB hB fB M T kH kN H th p (met++[a]) j (if decide (a∈th)=true then out++[⟨p.id,a⟩]else out)) ?_ ?_)
  .have b7:=Q1.t1;have a6:=Q1.o1;have a7:=Q1.p1;simp only[aJ.v,V.cells]at a7;have o1:=Q1.o2.one;repeat' simp only[gE,simprocAttr,b7]
   refine ju qJ (a:=a) (l:=sn th) (id:=T) (fA:=h1) sT sT sT Q1.t2 ?_;rw[xR];simp only[i6];by_cases a8:a∈th
   .rw[dk a8];repeat' simp only[gE,simprocAttr,a6,a7,o1]
    refine iR (xs:=out.map cI.v) (ys:=[(⟨p.id,a⟩:cI).v]) ?_ ?_ ?_ ?_ ?_ rfl ?_ ?_ λa1 r o hb ca=>?_
    .simp only[sE];exact Q1.o2.frame (λ_ _=>rfl) (an _)
    .exact sT
    .intro y ab;simp at ab;subst ab;rfl
    .exact sT
    .simp only[sE];intro l cb;cases cb
    .have el:=a0.length_le_of_subset (l₂:=U) L;exact PT
    .intro _ cc;cases cc
    have a9:=o.one;have ch:=o.gD;have ac:bA (bI ov) h1 r:=sR hb;have bi:bI a1=bI ov\/bI a1=some h1.Y:=sR ca;have et:r.box oB=some [ov]:=(ac.box oB Q1.bd.2.2.1 (λe=>(Q1.ov oB e).1 rfl)).trans a6;repeat' simp only[gE,simprocAttr,a9,ch]
    refine cJ (n:=1) (off:=0) (cells:=[ov]) ?_ ?_ bT λeK te tc tl tb tm ci e1=>?_
    .exact sT
    .simp only[sE];simp[jW,a9,o.kf]
    have ad:=tb.trans sT;simp only[o.kf,aQ,aw,ay]at ad;have bl:=ci.trans sT;have bo:=tm.trans sT;repeat' simp only[gE,simprocAttr,te,tc,tl]
    exact⟨a1,Q1.link ac (by rw[<-pt];exact o) bi ad bo bl⟩
   .rw[dZ a8];repeat' simp only[gE,simprocAttr]
    exact⟨ov,Q1⟩
  .rintro t ⟨cp,c1,c2,c5,c6,j,Q2⟩;have bs:=Q2.h1;simp only[gm.v]at bs;repeat' first|simp only[gE,simprocAttr,cp,c1,c2,c5,c6,bs]|refine e9 ?_ ?_
   obtain⟨q,N⟩:∃q,kP (gZ eW H.next) a .aP=q:=⟨_,rfl⟩;have bu:0< (fw H.next a).length->q=eW (fw H.next a):=by
    rw[<-N,(nK eW .aP H.next a).1];unfold fw;cases fN H.next a with
    |none=>intro h;exact absurd h bT
    |some l=>intro _;rfl
   have bv:xj q=some (I (fw H.next a).length)/\q.one=true/\q.dY=false:=by
    rw[<-N,(nK eW .aP H.next a).1];unfold fw;cases fN H.next a with
    |none=>exact⟨rfl,rfl,rfl⟩
    |some l=>exact⟨by simp[eW,xj],rfl,rfl⟩
   obtain⟨c7,c9,dd⟩:=bv;all_goals
    refine ju qJ (a:=a) (l:=gZ eW H.next) (id:=kH) (fA:=t.E) sT sT sT Q2.mp.1 ?_;rw[N];simp only[i6];repeat' simp only[gE,simprocAttr,c7,c9,dd]
    obtain⟨o1,ai⟩:∃o1,(if decide (a∈th)=true then out++[(⟨p.id,a⟩:cI)]else out)=o1:=⟨_,rfl⟩;have dE:o1.length<=out.length+1:=by rw[<-ai];split<;>simp
    rw[ai]at Q2 ⊢
    have dU:=xL D d;refine dT rfl rfl (λ(k:Nat) u=>k<=(fw H.next a).length/\u.Z 32=I k/\∃A,LQ base u.E mB tB oB pB hB fB M T kH kN H th p (((fw H.next a).take k).foldl (qW (fw H.next) (λa=>decide (a∈th)) p.id f) (met++[a],o1)).1 A (((fw H.next a).take k).foldl (qW (fw H.next) (λa=>decide (a∈th)) p.id f) (met++[a],o1)).2) (λk=>(fw H.next a).length-k) 0 ?_ ?_
    .exact⟨aL _,by simp only[sE,simprocAttr],j,by(simp only[sE,simprocAttr]);exact Q2⟩
    rintro k u ⟨g1,a2,A,Q3⟩ K;have df:u.Z 6=.bp fB 0:=(K 6 du).trans sT;have aA:u.Z 30=q:=(K 30 du).trans sT;have aB:u.Z 31=I (fw H.next a).length:=(K 31 du).trans sT;clear K;rcases am k (fw H.next a).length with P|P
    .have a3:=bu av;rw[a3]at aA;have aC:=Ea (nx:=fw H.next) (th:=λa=>decide (a∈th)) (p:=p.id) f ((fw H.next a).take k) (met++[a],o1);have R:=Kp (nx:=fw H.next) (th:=λa=>decide (a∈th)) (p:=p.id) aD f ((fw H.next a).take k) (met++[a],o1) (λb hb=>aD a D b (dQ hb)) (λz K=>by
      rcases aN.1 K with h1|h1
      .exact L z h1
      .obtain rfl:=aR.1 h1;exact D) (aO.2 ⟨a0,bT,λx hx y ab e=>by obtain rfl:=aR.1 ab;subst e;exact d hx⟩)
     have bY:((fw H.next a).take (k+1)).foldl (qW (fw H.next) (λa=>decide (a∈th)) p.id f) (met++[a],o1)=qW (fw H.next) (λa=>decide (a∈th)) p.id f (((fw H.next a).take k).foldl (qW (fw H.next) (λa=>decide (a∈th)) p.id f) (met++[a],o1)) (fw H.next a)[k]:=by rw[br P,de];rfl
     generalize ((fw H.next a).take k).foldl (qW (fw H.next) (λa=>decide (a∈th)) p.id f) (met++[a],o1)=S at*
     obtain⟨m2,o2⟩:=S;simp only at aC R Q3;have ea:pW U m2<=pW U (met++[a]):=Co aC.1;have eb:(met++[a]).length=met.length+1:=bT;have c:=ih u.E m2 A o2 (fw H.next a)[k] Q3 (aD a D _ (ah P)) av R.1 R.2 av;have b2:=Q3.f1;simp only[CA]at b2;have dr:=a4 a;repeat' first|simp(disch:=try exact om) only[gE,simprocAttr,a2,df,aA,aB,b2,P,eW]|refine cs ?_ ?_<;>intro h<;>try omega
     refine kw (h0:=u.E) sT sT TY c ?_ ?_ ?_
     .exact sT
     .refine mV ?_;simp only[ee]<;>rfl
     rintro _ _ ed ⟨b3,ds⟩;repeat' simp(disch:=omega) only[gE,simprocAttr,a2]
     refine⟨k+1,⟨?_⟩,⟨av⟩⟩;refine⟨P,by(simp only[sE]);exact aq (V.int .i64) av,b3,?_⟩;rw[bY];simp only[da,bQ];exact ds
    .obtain rfl:k=(fw H.next a).length:=av;rw[bg]at Q3;repeat' first|simp only[gE,simprocAttr,a2,aB]|refine cs ?_ ?_<;>intro h<;>try omega
     exact⟨nE,.hJ [],_,rfl,A,Q3⟩
def Da(l:List ID)(a:ID):List ID:=if a∈l then l else l++[a]
def O7{l:List ID}{a z:ID}:z∈Da l a↔z∈l\/z=a:=by
 unfold Da;split
 next h=>exact⟨.inl,λd=>d.elim id λe=>e▸h⟩
 .simp
def L8(l:List ID):∀(s:List ID)(z:ID),z∈l.foldl Da s↔z∈s\/z∈l:=by
 induction l with
 |nil=>intro s z;simp
 |cons a r ih=>intro s z;rw[dL,ih,O7,bn,or_assoc]
structure TQ(base h:aK)(b kH kN:Nat)(H:gm)(th:List ID):Prop where
 h1:h.box b=some [H.v kH kN]
 t1:h.box (b+2)=some [.mp (b+1)]
 t2:h.mp (b+1)=some (.map (fk ID.v (sn th)))
 mp:H.maps h kH kN
 same:bA none base h
 Y:b+3<=h.Y
 bb:base.Y<=b
 mm:kH<b/\kN<b
def TQ.add{base h:aK}{b kH kN:Nat}{H:gm}{th:List ID}(Q:TQ base h b kH kN H th)(a:ID):TQ base (h.eJ (b+1) (fk ID.v (jh (sn th) a (B true)))) b kH kN H (Da th a):=by
 have f:=Q.bb;have j:=Q.mm;exact {Q with
  t2:=by rw[G8];exact bh _ _ _
  mp:=⟨(bD _ _ (show kH≠b+1 by omega)).trans Q.mp.1,(bD _ _ (show kN≠b+1 by omega)).trans Q.mp.2.1,Q.mp.2.2⟩
  same:=⟨Q.same.box,λi d=>(bD _ _ (show i≠b+1 by omega)).trans (Q.same.mp i d),Q.same.Y⟩}
structure UQ(base h:aK)(b c kH kN:Nat)(H:gm)(th:List ID)(ov:V)(out:List cI):Prop where
 h1:h.box b=some [H.v kH kN]
 t1:h.box (b+2)=some [.mp (b+1)]
 t2:h.mp (b+1)=some (.map (fk ID.v (sn th)))
 o1:h.box c=some [ov]
 o2:gu 6 h ov (out.map cI.v)
 ovn:∀i,bI ov=some i->i≠c/\i≠b/\i≠b+2/\base.Y<=i
 mp:H.maps h kH kN
 same:bA none base h
 Y:c<h.Y
 bc:b+3<=c
 bb:base.Y<=b
 mm:kH<b/\kN<b
def UQ.start{base h d:aK}{b c kH kN:Nat}{H:gm}{th:List ID}{ov:V}{out:List cI}(Q:UQ base h b c kH kN H th ov out)(p:aJ)
 (l:d.box=eQ (eQ (eQ h.box h.Y (some p.v.cells)) (h.Y+2) (some [.mp (h.Y+1)])) (h.Y+3) (some [.fn 63 (CA (h.Y+2) (b+2) c h.Y b (h.Y+3))]))
 (q:d.mp=eQ h.mp (h.Y+1) (some (.map []))) (t:d.Y=h.Y+4):LQ base d (h.Y+2) (b+2) c h.Y b (h.Y+3) (h.Y+1) (b+1) kH kN H th p [] ov out:=by
 have r:=Q.Y;have u:=Q.bc;have y:=Q.bb;have z:=Q.mm;have A:=Q.same.Y;have old:∀j,j<h.Y->d.box j=h.box j:=λj f=>by rw[l,bD _ _ av,bD _ _ av,bD _ _ av]
 have a:∀j,j<h.Y->d.mp j=h.mp j:=λj f=>by rw[q,bD _ _ av]
 exact {
  m1:=by rw[l,bD _ _ av,bh]
  m2:=by rw[q,bh];rfl
  t1:=(old _ av).trans Q.t1
  t2:=(a _ av).trans Q.t2
  o1:=(old _ r).trans Q.o1
  o2:=Q.o2.frame (λi o=>old i (Q.o2.BG o)) av
  p1:=by rw[l,bD _ _ av,bD _ _ av,bh]
  h1:=(old _ av).trans Q.h1
  f1:=by rw[l,bh]
  mp:=⟨(a _ av).trans Q.mp.1,(a _ av).trans Q.mp.2.1,av,av⟩
  ne:=av
  ov:=λi o=>by
   have:=Q.ovn i o;have:=Q.o2.BG o;omega
  bd:=av
  mm:=av
  same:=⟨λj f _=>(old j av).trans (Q.same.box j f bT),λj f=>(a j av).trans (Q.same.mp j f),av⟩}
def UQ.back{base h f:aK}{b c kH kN mB pB fB M:Nat}{H:gm}{th:List ID}{ov d:V}{out a:List cI}{p:aJ}{met:List ID}(Q:UQ base h b c kH kN H th ov out)(L:LQ base f mB (b+2) c pB b fB M (b+1) kH kN H th p met d a):UQ base f b c kH kN H th d a:=
 ⟨L.h1,L.t1,L.t2,L.o1,L.o2,λi j=>by have:=L.ov i j;omega,L.mp,L.same,L.bd.2.2.1,Q.bc,Q.bb,Q.mm⟩
def IS(E:aK)(H:gm)(kH kN:Nat)(bv:H.maps E kH kN)(dr:∀e∈H.hL,e.1.ok)(ds:∀e∈H.hL,(dj e.1).length<=1024)(hF:(nM H.next).length<=900)(i k:Nat)(bY:k<H.hL.length)(hv:i<=k):
 aI 14 [H.v kH kN,I i,I k] E λu _ dE=>u=.hJ [hE (qQ H i k),I 0]/\bA none E dE:=by
 have ac:i<H.hL.length:=by omega
 obtain⟨N,e3⟩:∃N,E.cO [H.v kH kN]=N:=⟨_,rfl⟩;have dU:=FB N H kH kN i;have ea:=FB N H kH kN k;have c3:=Cg H.hL[i].1 (dr _ (ah ac));have c4:=Cg H.hL[k].1 (dr _ (ah bY));have b2:N.box E.Y=some [H.v kH kN]:=by rw[<-e3];exact bh _ _ _
 rw[dk (show 0<=(i:Int)/\(i:Int)<H.hL.length by omega)]at dU;rw[dk (show 0<=(k:Int)/\(k:Int)<H.hL.length by omega)]at ea;refine bk f14 ?_ [3,8,11,13,14,15] [1,18,20];have eb:(H.v kH kN).cells=[H.v kH kN]:=rfl;have ed:(H.v kH kN).one=true:=rfl;have hw:(H.v kH kN).dY=false:=rfl;repeat' simp only[gE,simprocAttr,HX.act,e3,b2,eb,ed,ew,lY,bR,cm,ku]
 refine bz (h0:=N) sT dU sT ag ?_;rintro _ _ hh ⟨rfl,a4⟩;rw[a4];clear a4;repeat' simp only[gE,simprocAttr,HX.act,b2]
 refine bz (h0:=N) sT ea sT ag ?_;rintro _ _ hh ⟨rfl,a4⟩;rw[a4];clear a4;obtain⟨ai,e4⟩:∃ai,(N.hN).cO [.qs]=ai:=⟨_,rfl⟩;have el:N.Y=E.Y+1:=by rw[<-e3];rfl
 have et:ai.box (E.Y+2)=some [.qs]:=by rw[<-e4,show E.Y+2=N.hN.Y by simp only[aK.hN];omega];exact bh _ _ _
 have a5:ai.box E.Y=some [H.v kH kN]:=by rw[<-e4];exact(bD _ _ (by simp only[aK.hN];omega)).trans b2
 have hy:i<H.hL.length:=ac;have eK:H.v kH kN=.ep [fP H.fF,ka H.void,cf H.bN.O,C9 H.hL,.mp kH,.mp kN]:=rfl;repeat' first|simp only[gE,simprocAttr,HX.act,b2,et,a5,e4,el]|refine cs ?_ ?_<;>intro h<;>try omega
 refine cJ (n:=1) (off:=0) (cells:=[.qs]) ?_ ?_ bT λaA te tc tl tb tm Q a1=>?_
 .exact sT
 .exact sT
 have ad:aA.E.box=eQ ai.box (E.Y+2) (some [.mp (E.Y+1)]):=tb.trans sT;have PD:aA.E.Y=ai.Y:=Q.trans sT;have R:aA.E.mp=ai.mp:=tm.trans sT;have b3:TQ E aA.E E.Y kH kN H []:=by
  have m4:ai.mp=eQ N.mp (E.Y+1) (some (.map [])):=by rw[<-e4,<-el];rfl
  have b5:N.mp=E.mp:=by rw[<-e3];rfl
  have hi:ai.box=eQ (eQ E.box E.Y (some [H.v kH kN])) (E.Y+2) (some [.qs]):=by rw[<-e4,<-e3];rfl
  have b6:=bv.2.2.1;have c2:=bv.2.2.2;refine⟨by rw[ad,bD _ _ av];exact a5,by rw[ad,bh],by rw[R,m4,bh];rfl,⟨?_,?_,?_⟩,⟨λj P _=>?_,λj P=>?_,?_⟩,?_,an _,b6,c2⟩
  .rw[R,m4,bD _ _ av,b5];exact bv.1
  .rw[R,m4,bD _ _ av,b5];exact bv.2.1
  .exact Ut
  .rw[ad,bD _ _ av,hi,bD _ _ av,bD _ _ av]
  .rw[R,m4,bD _ _ av,b5]
  .exact Ut
  .exact Ut
 obtain⟨b,hb⟩:∃b,E.Y=b:=⟨_,rfl⟩;rw[hb]at b3;have a2:=b3.h1;rw[eK]at a2;have a6:aA.Z 3=.bp b 0:=by rw[te];simp only[sE,simprocAttr,hb]
 have a7:aA.Z 1=I i:=by rw[te];simp only[sE,simprocAttr]
 have a8:aA.Z 2=I k:=by rw[te];simp only[sE,simprocAttr]
 have a9:aA.Z 8=.bp (b+2) 0:=by rw[te];simp only[sE,hb]
 clear tb ad Q PD tm R e4 et a5 te tc tl;repeat' first|simp(disch:=try exact om) only[gE,simprocAttr,a7,a8,a6,a9,a2,C9,Mu,bY,ac]|refine lq c4 ?_
 have e1:=ds _ (ah bY);have e2:=ds _ (ah ac);obtain⟨A,e5⟩:∃A,dj H.hL[k].1=A:=⟨_,rfl⟩;rw[e5]at e1 ⊢
 refine dT rfl rfl (λ(k:Nat) t=>k<=A.length/\t.Z 40=I k/\TQ E t.E b kH kN H (((A.take k).map aJ.id).foldl Da [])) (λk=>A.length-k) 0 ?_ ?_
 .exact⟨aL _,by simp only[sE,simprocAttr],by(simp only[sE,simprocAttr]);exact b3⟩
 rintro j t ⟨g1,c5,o⟩ y;have hj:t.Z 1=I i:=(y 1 du).trans sT;have hk:t.Z 3=.bp b 0:=(y 3 du).trans sT;have e6:t.Z 8=.bp (b+2) 0:=(y 8 du).trans sT;have ca:t.Z 38=dA A:=(y 38 du).trans sT;have a39:t.Z 39=I A.length:=(y 39 du).trans sT;clear y a7 a8 a6 a9 a2 b3;rcases am j A.length with P|P
 .have q1:=o.t1;have bi:((A.take (j+1)).map aJ.id).foldl Da []=Da (((A.take j).map aJ.id).foldl Da []) A[j].id:=by rw[br P,az,de];rfl
  generalize ((A.take j).map aJ.id).foldl Da []=th at*
  repeat' first|simp(disch:=try exact om) only[gE,simprocAttr,c5,e6,ca,a39,q1,P,dA,aJ.v]|refine cs ?_ ?_<;>intro h<;>try omega
  refine nw qJ (a:=A[j].id) (l:=sn th) (id:=b+1) (fA:=t.E) (yv:=B true) sT sT sT o.t2 sT rfl ?_;repeat' simp(disch:=omega) only[gE,simprocAttr,c5]
  refine⟨j+1,⟨?_⟩,⟨av⟩⟩;rw[bi];exact⟨P,by(simp only[sE]);exact aq (V.int .i64) av,by(simp only[sE]);exact o.add _⟩
 .obtain rfl:j=A.length:=av;rw[bg]at o;obtain⟨th,cb⟩:∃th,(A.map aJ.id).foldl Da []=th:=⟨_,rfl⟩;have e7:(λa=>decide (a∈th))=λa=>decide (a∈A.map aJ.id):=by
   funext a;rw[<-cb];exact nZ.2 (by rw[L8];simp)
  rw[cb]at o;have a2:=o.h1;rw[eK]at a2;have hH:=o.Y;have hl:(t.E.cO [.aP]).box b=some [.ep [fP H.fF,ka H.void,cf H.bN.O,C9 H.hL,.mp kH,.mp kN]]:=(bD _ _ av).trans a2;repeat' first|simp(disch:=try exact om) only[dt,simprocAttr,c5,hj,hk,e6,ca,a39,hl,C9,Mu,ac,HX.act,bx,q5,bQ,Bz,cy,cd,bP]|refine bZ ?_ ?_<;>intro h<;>(try simp only[h])<;>(try simp only[jg]at h)<;>try omega|(refine i0 c3 ?_ ?_;·simp only[ee]<;>rfl)
  obtain⟨c,cc⟩:∃c,t.E.Y=c:=⟨_,rfl⟩;have hn:UQ E (t.E.cO [.aP]) b c kH kN H th .aP []:=by
   have ho:=o.mm;have hq:=o.bb;have b5:=o.same.Y;have old:∀j,j<c->(t.E.cO [.aP]).box j=t.E.box j:=λj P=>bD _ _ (by omega);exact⟨(old _ (by omega)).trans o.h1,(old _ (by omega)).trans o.t1,o.t2,by rw[<-cc];exact bh _ _ _,gu.nil,λi h=>(by cases h),⟨o.mp.1,o.mp.2.1,by simp only[aK.cO];omega,by simp only[aK.cO];omega⟩,⟨λj P _=>(old j (by omega)).trans (o.same.box j P (by simp)),o.same.mp,by simp only[aK.cO];omega⟩,by simp only[aK.cO];omega,by omega,hq,ho⟩
  obtain⟨f,ch⟩:∃A,dj H.hL[i].1=A:=⟨_,rfl⟩;rw[ch]at e2 ⊢
  refine dT rfl rfl (λ(k:Nat) t=>k<=f.length/\t.Z 58=I k/\∃ov,UQ E t.E b c kH kN H th ov ((f.take k).foldl (ki H.next th) [])) (λk=>f.length-k) 0 ?_ ?_
  .exact⟨aL _,by simp only[sE,simprocAttr],.aP,by(simp only[sE,simprocAttr]);exact hn⟩
  rintro q u ⟨hK,c6,ov,K⟩ y;have fa:u.Z 3=.bp b 0:=(y 3 du).trans sT;have fr:u.Z 8=.bp (b+2) 0:=(y 8 du).trans sT;have bl:u.Z 11=.bp c 0:=by rw[y 11 du];simp only[sE,simprocAttr,cc]
  have fs:u.Z 56=dA f:=(y 56 du).trans sT;have ci:u.Z 57=I f.length:=(y 57 du).trans sT;clear y;have hlen:∀q,q<=f.length->((f.take q).foldl (ki H.next th) []).length<=q*901:=by
   intro q;induction q with
   |zero=>intro _;simp
   |succ q ih=>
    intro a3;have h1:=ih av;rw[br (show q<f.length from a3),de];have hM:=Cq H.next th ((f.take q).foldl (ki H.next th) []) f[q];simp only[dL,List.foldl_nil];omega
  rcases am q f.length with a3|a3
  .have b6:=K.h1;have hz:=hlen q av;repeat' first|simp(disch:=try exact om) only[gE,simprocAttr,c6,fa,fr,bl,fs,ci,a3,dA,aJ.v,HX.act]|refine cs ?_ ?_<;>intro h<;>try omega
   have bi:(f.take (q+1)).foldl (ki H.next th) []=ki H.next th ((f.take q).foldl (ki H.next th) []) f[q]:=by rw[br a3,de];rfl
   generalize f[q]=p at*
   generalize (f.take q).foldl (ki H.next th) []=out at*
   obtain⟨n,bo⟩:∃n,u.E.Y=n:=⟨_,rfl⟩;have un:=K.Y;have ub:=K.bc;refine cJ (n:=7) (off:=0) (cells:=[.int .i64 0,.int .i64 0,.int .i64 0,.int .i64 0,.int .i64 0,.str [],.aP]) ?_ ?_ bT λL te tc tl tb tm Q a1=>?_
   .simp only[sE];try exact bh _ _ _
   .exact sT
   have ad:L.E.box=eQ u.E.box n (some p.v.cells):=tb.trans (by(simp only[sE]);subst bo;exact ni _ _ _ _);have PD:L.E.Y=n+1:=Q.trans (by(simp only[sE]);omega);have R:L.E.mp=u.E.mp:=tm.trans sT;have c7:L.Z 3=.bp b 0:=by rw[te];simp only[sE,simprocAttr,fa]
   have c9:L.Z 8=.bp (b+2) 0:=by rw[te];simp only[sE,simprocAttr,fr]
   have v11:L.Z 11=.bp c 0:=by rw[te];simp only[sE,simprocAttr,bl]
   have aB:L.Z 13=.bp n 0:=by rw[te];simp only[sE,bo]
   have v58:L.Z 58=I q:=by rw[te];simp only[sE,simprocAttr,c6]
   clear te tc tl tb tm Q a1;repeat' simp only[gE,simprocAttr,HX.act,c7,c9,v11,aB,PD]
   refine cJ (n:=1) (off:=0) (cells:=[.qs]) ?_ ?_ bT λD te tc tl tb tm Q a1=>?_
   .simp only[sE,PD];try exact bh _ _ _
   .exact sT
   have gb:D.E.box=eQ L.E.box (n+2) (some [.mp (n+1)]):=tb.trans (by(simp only[sE,PD]);show eQ (eQ L.E.box (L.E.Y+1) _) (n+1+1) _=_;rw[PD];exact ni _ _ _ _);have aC:D.E.Y=n+3:=Q.trans (by(simp only[sE,PD]));have gf:D.E.mp=eQ u.E.mp (n+1) (some (.map [])):=tm.trans (by(simp only[sE]);show eQ L.E.mp L.E.Y _=_;rw[PD,R]);have cp:D.Z 3=.bp b 0:=by rw[te];simp only[sE,simprocAttr,c7]
   have c1:D.Z 8=.bp (b+2) 0:=by rw[te];simp only[sE,simprocAttr,c9]
   have aD:D.Z 11=.bp c 0:=by rw[te];simp only[sE,simprocAttr,v11]
   have a0:D.Z 13=.bp n 0:=by rw[te];simp only[sE,simprocAttr,aB]
   have bs:D.Z 14=.bp (n+2) 0:=by rw[te];simp only[sE,PD]
   have bu:D.Z 58=I q:=by rw[te];simp only[sE,simprocAttr,v58]
   clear te tc tl tb tm Q a1 c7 c9 v11 aB v58;repeat' simp only[gE,simprocAttr,HX.act,cp,c1,aD,a0,bs,aC]
   refine cJ (n:=1) (off:=0) (cells:=[.wR]) ?_ ?_ bT λab te tc tl tb tm Q a1=>?_
   .simp only[sE];show eQ D.E.box D.E.Y _ (n+3)=_;rw[aC];exact bh _ _ _
   .exact sT
   have gk:ab.E.box=eQ D.E.box (n+3) (some [.fn 63 (CA (n+2) (b+2) c n b (n+3))]):=tb.trans (by(simp only[sE]);show eQ (eQ D.E.box D.E.Y _) (n+3) _=_;rw[aC];exact ni _ _ _ _);have gn:ab.E.Y=n+4:=Q.trans (by(simp only[sE,aC]));have gp:ab.E.mp=D.E.mp:=tm.trans (by(simp only[sE]));have v11:ab.Z 11=.bp c 0:=by rw[te];simp only[sE,simprocAttr,aD]
   have aB:ab.Z 13=.bp n 0:=by rw[te];simp only[sE,simprocAttr,a0]
   have ha:ab.Z 15=.bp (n+3) 0:=by rw[te];simp only[sE,simprocAttr,aC]
   have v58:ab.Z 58=I q:=by rw[te];simp only[sE,simprocAttr,bu]
   clear te tc tl tb tm Q a1 cp c1 aD a0 bs bu;have dd:LQ E ab.E (n+2) (b+2) c n b (n+3) (n+1) (b+1) kH kN H th p [] ov out:=by
    subst bo;exact K.start p (by rw[gk,gb,ad]) (by rw[gp,gf]) gn
   have q1:=dd.f1;have hc:=dd.p1;simp only[aJ.v,V.cells]at hc;have hr:=V6 E (n+2) (b+2) c n b (n+3) (n+1) (b+1) kH kN H th p (p.id::nM H.next) (λa _ d hs=>dw _ (Cp hs)) (λa=>by
    have:(fw H.next a).length<=(nM H.next).length:=by
     unfold fw;cases e:fN H.next a with
     |none=>simp
     |some l=>
      have h:=Ca e;clear e
      revert h
      generalize H.next=ht;intro h;induction ht with
      |nil=>cases h
      |cons x r ih=>
       simp only[nM,ck,ae]at ih ⊢
       rcases bn.1 h with h|h
       .subst h;simp
       .have:=ih h;omega
    omega) (1024*901) (by simp only[aM];omega) ((nM H.next).length+1) ab.E [] ov out p.id dd bT (by unfold pW;exact aT (fY _ _) bT) (λz y=>by cases y) .nil (by
     have:q*901<=1024*901:=cj _ av;simp only[aX];omega)
   repeat' simp only[gE,simprocAttr,HX.act,v11,aB,ha,q1,hc]
   refine kw (h0:=ab.E) sT sT TY hr ?_ ?_ ?_
   .exact sT
   .exact aV.cons (ak (by simp only[ee,bx]<;>rfl)) (aV.refl _)
   rintro _ _ hD ⟨hd,hu⟩;repeat' simp(disch:=omega) only[gE,simprocAttr,v58]
   refine⟨q+1,⟨?_⟩,⟨av⟩⟩;rw[bi];exact⟨a3,by(simp only[sE]);exact aq (V.int .i64) av,hd,by(simp only[sE]);exact K.back hu⟩
  .obtain rfl:q=f.length:=av;have he:=hlen _ (an _);rw[bg]at K he;have b6:=K.o1;have c2:=K.o2.one;have hf:=K.o2.gD;have df:qQ H i k=kF (f.foldl (ki H.next th) []):=by
    unfold qQ;simp only[ap,aa ac,aa bY,bf,e5,ch];congr 2;funext out p;unfold ki;rw[e7]
   have hg:=Fw (f.foldl (ki H.next th) []) av;rw[<-df]at hg;repeat' first|simp only[gE,simprocAttr,c6,ci,bl,b6,c2,hf]|refine cs ?_ ?_<;>intro h<;>try omega
   refine Ak (fz:=oC u.E (bI ov).toList) (h0:=u.E.less (bI ov).toList) (by(simp only[da]);exact l6 _ _) hg (by simp only[bR,cm,da,simprocAttr,bx,hf];try rfl) (h9.cons (by(simp only[da]);exact K.o2.O6 λi b7=>pg (by simp[b7])) .nil) ?_;repeat' simp only[gE,simprocAttr]
   exact⟨nE,_,_,uM rfl rfl rfl rfl,rfl,λj P _=>(qS (n:=E.Y) (λi b7=>by simp at b7;exact(K.ovn i b7).2.2.2) j P).trans (K.same.box j P bT),K.same.mp,K.same.Y⟩
end Go.Bx
