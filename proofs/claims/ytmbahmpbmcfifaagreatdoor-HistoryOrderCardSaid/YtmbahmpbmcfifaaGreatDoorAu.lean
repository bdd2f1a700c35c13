/- HistoryOrder: for every list of integers and every two numbers the law's function returns true, does not panic, and its arguments read as they did. Conditions: those of the given row alone. -/
import Derived.Test.YtmbahmpbmcfifaaGreatDoorAh
import Derived.Test.YtmbahmpbmcfifaaGreatDoorAs
import Derived.Test.YtmbahmpbmcfifaaGreatDoorAt
noncomputable section
set_option linter.all false
set_option maxHeartbeats 4000000
set_option maxRecDepth 100000
namespace Go.Bx
open Go.Proofs Go.Proofs.Tryz
section
variable {P:Program}{GL:Nat->Option (List V)}{s:St}{K:St->Prop}{pu:Bool}
def SH{d:Option Nat}{sz:Nat}{zs xs ys:List V}{x y:eO}{r:List BI}(hx:gh (sz+1) s.E (s.val x) xs)(q:qs s.E (sz+1) (s.val y)=some (ys.length,b1 ys))(t:lG (sz+1) ys)(hz:zs.length=sz+1)
 (u:xs.length+ys.length<=1073741824) (z:s.val x=.aP->ys≠[])
 (h:∀v D,gh (sz+1) D v (xs++ys)->bt (bH (s.val x)) s.E D->(bH v=bH (s.val x)\/bH v=some s.E.Y)->er P GL pu r ((s.ct D).ret d v false) K):er P GL pu (⟨none,d,.mx (.v1 (sz+1) zs x y)⟩::r) s K:=by
 rw[A6.1];obtain⟨p,hx⟩:=hx;have Q:=dM t;have j:=dM p;have L:∀n,(kl n zs).length=n*(sz+1):=by
  exact XB
 have new:∀{old:List V},old=b1 xs->∀f,xs.length+ys.length<=f->gB P GL d pu r s K (.ms (sz+1) s.E.Y 0 (xs.length+ys.length) f) false (s.E.cM (old++b1 ys++kl (f-(xs.length+ys.length)) zs)):=by
  rintro old rfl f l;refine h _ _ ⟨p.append t,.inr ⟨s.E.Y,f,kl (f-(xs.length+ys.length)) zs,bR,dm _,?_,by simpa using l,by simp[L]⟩⟩ ⟨λi N _=>?_,λi N=>rfl,fO _⟩ (.inr rfl)
  .simp[aJ.cM,eR,fU]
  .simp only[aJ.cM];exact bE _ _ (cr N)
 rcases hx with⟨o,rfl⟩|⟨id,c,rest,o,dV,dZ,R,a⟩
 .simp only[MX.wp,o,nf,q];refine⟨by simpa[ir]using u,?_⟩;by_cases hm:ys.length=0
  .have:ys=[]:=bJ.1 hm;exact absurd this (z o)
  .rw[an hm,an av];refine⟨[],by simp[aJ.cells],λf l=>?_⟩;have:=new (old:=[]) (by simp[b1]) f (by simpa using l);simpa using this
 .simp only[MX.wp,o,nf,bQ,q];refine⟨by simpa[ir]using u,?_⟩;by_cases hm:ys.length=0
  .have:ys=[]:=bJ.1 hm;subst this;simp only[aT,bQ];refine h _ _ ⟨by simpa using p,.inr ⟨id,c,rest,bR,dV,by simpa using dZ,by simpa using R,by simpa using a⟩⟩ ⟨λ_ _ _=>rfl,λ_ _=>rfl,ao _⟩ (.inl (by rw[o]))
  .rw[an hm];split
   next H=>
    have ac:(c-xs.length)*(sz+1)=ys.length*(sz+1)+(c-(xs.length+ys.length))*(sz+1):=by
     rw[<-dK];congr 1;omega
    refine⟨_,dZ,by rw[ae,j,a,dK];omega,?_⟩;refine h _ _ ⟨p.append t,.inr ⟨id,c,rest.drop (ys.length*(sz+1)),bR,dV,?_,by simpa using H,by simp[a];omega⟩⟩ ⟨λi N z=>?_,λi N=>rfl,ao _⟩ (.inl (by rw[o];rfl))
    .simp only[aJ.wr,aJ.set,bl];rw[ia (by rw[ae,j,Q,a];omega),cA,<-j,gK,Q,<-dG,fY,fU]
    .simp only[aJ.wr,aJ.set];exact bE _ _ (λe=>z (by rw[o,e];rfl))
   next H=>
    refine⟨b1 xs,?_,λf l=>new rfl f l⟩;unfold aJ.cells;split
    next ab=>rw[ab]at j;rw[bJ.1 j]
    .rw[dZ];simp only;rw[ax (by rw[ae];omega),cx,<-j,gK]
def Kg{d:Option Nat}{sz:Nat}{zs xs ys:List V}{x y:eO}{r:List BI}(hx:gh (sz+1) s.E (s.val x) xs)(f:qs s.E (sz+1) (s.val y)=some (ys.length,b1 ys))(l:lG (sz+1) ys)(p:zs.length=sz+1)
 (j:xs.length+ys.length<=1073741824) (o:s.val x=.aP->ys≠[])
 (h:∀v a,gh (sz+1) a v (xs++ys)->bt (bH (s.val x)) s.E a->(bH v=bH (s.val x)\/bH v=some s.E.Y)->gB P GL d pu r s K v false a):(MX.v1 (sz+1) zs x y).wp s (gB P GL d pu r s K):=by
 have:=SH (d:=d) (zs:=zs) hx f l p j o h
 rwa [A6.1]at this
end
def gh.src{sz:Nat}{h:aJ}{v:V}{xs:List V}(hm:gh sz h v xs):qs h sz v=some (xs.length,b1 xs):=by
 obtain⟨d,⟨rfl,rfl⟩|⟨id,c,rest,rfl,dV,hb,j,l⟩⟩:=hm
 .rfl
 .have a:=dM d;simp only[qs,bQ,aJ.cells,hb];split
  next f=>rw[f]at a;rw[bJ.1 a];rfl
  .rw[ax (by rw[ae];omega),cx,<-a,gK];rfl
attribute [local irreducible] vc er dr b4 bV run iD iY i1 i6 iQ i7 i2 iu iS i4 gB i3 cW
def bt.Vq{sz:Nat}{h a:aJ}{v:V}{xs:List V}(hm:gh sz h v xs)(hS:bt none h a):gh sz a v xs:=hm.frame (λi d=>hS.box i (hm.Bd d) bR) hS.Y
def SI(r:V)(l:List aV)(E:aJ)(f:gh 32 E r (l.map aV.v))(o:l≠[])(ac:l.length<=1000000):aI 83 [r] E λv _ a=>gh 32 a v (l.map aV.v)/\bt none E a/\∀i,bH v=some i->E.Y<=i:=by
 have ad:=f.one;have ai:=f.fS;refine bq TF.ok rfl ?_;have p:=f;have H:0<l.length:=oL.2 o;obtain⟨aA,⟨rfl,t⟩|⟨ab,c,rest,rfl,q1,aB,L,aC⟩⟩:=f
 .rw[kf]at t;exact absurd t o
 rw[aq]at L p;obtain⟨c,rfl⟩:∃k,c=k+1:=⟨c-1,av⟩
 .repeat' simp only[gE,simprocAttr,HX.act]
  refine BS (fD:=E) sT ?_;have aD:gh 32 (E.cM []) (.ms 32 E.Y 0 0 0) []:=⟨(by intro x hx;cases hx),.inr ⟨E.Y,0,[],rfl,dm _,by simp[aJ.cM,eR,b1],ao _,rfl⟩⟩;have N:bt none E (E.cM []):=bt.add E [];repeat' simp only[gE,simprocAttr]
  refine Kg (xs:=[]) (ys:=l.map aV.v) ?_ ?_ ?_ rfl ?_ ?_ λj a u hb d=>?_
  .exact sT
  .simp only[da];simpa only[aq]using (bt.Vq p N).src
  .exact lG.map (λy=>rfl) _
  .simp only[aq,aT];omega
  .simp only[da];intro Q;cases Q
  have q:gh 32 a j (l.map aV.v):=by simpa using u
  have z:bH j=some E.Y\/bH j=some (E.Y+1):=by revert d;simp only[da,simprocAttr];exact id
  have D:bt none E a:=by
   revert hb
   simp only[da,simprocAttr];intro hb;have R:=hb.Y;simp only[aJ.cM]at R;exact⟨λi d _=>by rw[hb.box i (by simp only[aJ.cM];omega) (by simp[bH];omega)];simp only[aJ.cM];exact bE _ _ (cr d),λi d=>by rw[hb.mp i (by simp only[aJ.cM];omega)];rfl,av⟩
  repeat any_goals simp only[dq,simprocAttr,bh]
  refine⟨nE,j,_,bz rfl q.fS,q,D,λi d=>?_⟩;rcases z with h|h<;>rw[h]at d<;>simp at d<;>omega
def G1.of{j:V}{l:List aV}{E:aJ}(N:l.length<20)(Q:j.one=true)(z:j.dW=false)(h:∀o,bt none E o->aI 83 [j] o λv _ r=>gh 32 r v (l.map aV.v)/\bt none o r/\∀i,bH v=some i->o.Y<=i):G1 j l E:=by
 intro y D;have R:=h y D;refine eU hm abm.ok (bF rfl) ?_;repeat' simp only[gE,simprocAttr,Q,z]
 refine bm (h0:=y) (by simp only[da,simprocAttr]) R (by simp only[bN,ce,da,simprocAttr,bh,z];try rfl) ag ?_;rintro v _ t ⟨d,hb,p⟩;have H:=d.one;have q:=d.fS;have ab:=Vs v l t d N;repeat' simp only[gE,simprocAttr,H,q]
 refine bm (h0:=t) (by simp only[da,simprocAttr,bn]) ab (by simp only[bN,ce,da,simprocAttr,bh,bn,q];try rfl) ag ?_;rintro _ _ u ⟨L,f⟩;repeat' simp only[gE,simprocAttr,H,q]
 refine⟨nE,v,_,oE u (bH v).toList,u.less (bH v).toList,eI (gl l),false,bz sT q,mf _ _,L.OQ λi p=>pm (by simp[p]),λh=>(by cases h),rfl,λi a _=>?_,λi a=>?_,aQ hb.Y f.Y⟩
 .rw[qZ (n:=y.Y) (λi h=>p i (by simpa using h)) i a,f.box i (bA a hb.Y) (λe=>by have:=p i e;omega)];exact hb.box i a bR
 .exact(f.mp i (bA a hb.Y)).trans (hb.mp i a)
def G1.sl{l:List aV}(E:aJ)(a:l.length<20):G1 (eI l) l E:=.of a rfl rfl λd _=>Sc l d av
def G1.ms{d:V}{l:List aV}{E:aJ}(f:l≠[])(j:l.length<20)(a:gh 32 E d (l.map aV.v)):G1 d l E:=.of j a.one a.fS λo hS=>SI d l o (bt.Vq a hS) f av
def bt.ko{h f h2:aJ}(a:bt none h f)(b:bt none f h2):bt none h h2:=
 ⟨λi d j=>(b.box i (bA d a.Y) j).trans (a.box i d j),λi d=>(b.mp i (bA d a.Y)).trans (a.mp i d),aQ a.Y b.Y⟩
def bt.TL(h:aJ):bt none h h:=⟨λ_ _ _=>rfl,λ_ _=>rfl,ao _⟩
def g9.maps.mono{H:g9}{h j:aJ}{d f:Nat}(a:H.maps h d f)(hS:bt none h j):H.maps j d f:=
 ⟨(hS.mp _ a.2.2.1).trans a.1,(hS.mp _ a.2.2.2).trans a.2.1,bA a.2.2.1 hS.Y,bA a.2.2.2 hS.Y⟩
def OM.but{h d:aJ}(a:OM h d):bt none h d:=⟨λ_ _ _=>by rw[a.1],λ_ _=>by rw[a.2.1],by rw[a.2.2];exact ao _⟩
def SJ(sz:Nat)(E h:aJ)(v:V)(xs:List V):Prop:=bt none E h/\((gh sz h v xs/\∀i,bH v=some i->E.Y<=i)\/(v=.ms sz 0 0 0 0/\xs=[]))
def SJ.one{sz:Nat}{E h:aJ}{v:V}{xs:List V}(d:SJ sz E h v xs):v.one=true:=by
 obtain⟨_,⟨a,_⟩|⟨rfl,_⟩⟩:=d
 .exact a.one
 .rfl
def SJ.fS{sz:Nat}{E h:aJ}{v:V}{xs:List V}(d:SJ sz E h v xs):v.dW=false:=by
 obtain⟨_,⟨a,_⟩|⟨rfl,_⟩⟩:=d
 .exact a.fS
 .rfl
def aaq{sz:Nat}{h:aJ}{zs ys:List V}{Q:V->Bool->aJ->Prop}(l:lG (sz+1) ys)(hz:zs.length=sz+1)(f:ys.length<=1073741824)(h0:ys=[]->Q (.ms (sz+1) 0 0 0 0) false h)
 (q:∀v j,gh (sz+1) j v ys->bt none h j->bH v=some h.Y->Q v false j):AF h (sz+1) zs 0 0 0 0 ys.length (b1 ys) Q:=by
 have a:∀n,(kl n zs).length=n*(sz+1):=by
  exact XB
 refine⟨by simpa[ir]using f,?_⟩;by_cases hm:ys.length=0
 .rw[ax hm];exact h0 (bJ.1 hm)
 .rw[an hm,an av];refine⟨[],by simp[aJ.cells],λo d=>?_⟩;rw[cA]at d ⊢
  refine q _ _ ⟨l,.inr ⟨h.Y,o,kl (o-ys.length) zs,rfl,dm _,?_,d,a _⟩⟩ ⟨λi p _=>?_,λi p=>rfl,fO _⟩ rfl
  .simp[aJ.cM,eR]
  .simp only[aJ.cM];exact bE _ _ (cr p)
section
variable {P:Program}{GL:Nat->Option (List V)}{s:St}{K:St->Prop}{pu:Bool}
def SK{d:Option Nat}{sz:Nat}{zs xs ys:List V}{x y:eO}{r:List BI}{E h0:aJ}{vx vy:V}(L:s.E=h0)(u:s.val x=vx)(z:s.val y=vy)(hx:SJ (sz+1) E h0 vx xs)(j:qs h0 (sz+1) vy=some (ys.length,b1 ys))(o:lG (sz+1) ys)(t:zs.length=sz+1)
 (p:xs.length+ys.length<=1073741824) (h:∀v l,SJ (sz+1) E l v (xs++ys)->gB P GL d pu r s K v false l):(MX.v1 (sz+1) zs x y).wp s (gB P GL d pu r s K):=by
 subst L u z;obtain⟨hS,⟨hm,D⟩|⟨N,rfl⟩⟩:=hx
 .by_cases q:s.val x=.aP/\ys=[]
  .obtain⟨q,rfl⟩:=q;have H:xs=[]:=by
    obtain⟨_,⟨_,e⟩|⟨id,c,rest,e,_⟩⟩:=hm
    .exact e
    .rw[q]at e;cases e
   subst H;simp only[MX.wp,q,nf,j];exact aaq o t bR (λ_=>h _ _ ⟨hS,.inr ⟨rfl,rfl⟩⟩) (λv R a b c=>h _ _ ⟨hS.ko b,.inl ⟨a,λi f=>by rw[c]at f;have:=au f;have:=hS.Y;omega⟩⟩)
  .refine Kg hm j o t p (λe ab=>q ⟨e,ab⟩) λv l a b c=>h v l ⟨⟨λi f _=>?_,λi f=>?_,?_⟩,.inl ⟨a,λi f=>?_⟩⟩
   .rw[b.box i (bA f hS.Y) (λe=>by have:=D i e;omega)];exact hS.box i f bR
   .rw[b.mp i (bA f hS.Y)];exact hS.mp i f
   .exact aQ hS.Y b.Y
   .rcases c with c|c
    .exact D i (c▸f)
    .rw[c]at f;have:=au f;have:=hS.Y;omega
 .simp only[MX.wp,N,nf,j,bQ];have:=aaq (h:=s.E) (Q:=gB P GL d pu r s K) o t (by simpa using p) (λe=>h _ _ ⟨hS,.inr ⟨rfl,by rw[e];rfl⟩⟩) (λv R a b c=>h _ _ ⟨hS.ko b,.inl ⟨a,λi f=>by rw[c]at f;have:=au f;have:=hS.Y;omega⟩⟩);exact this
end
def SJ.fz{sz:Nat}{E h:aJ}{v:V}{xs:List V}(f:SJ sz E h v xs):∃fz d,jD fz h d/\V.lM fz v (.sl sz xs)/\bt none E d:=by
 obtain⟨hS,⟨m,j⟩|⟨rfl,rfl⟩⟩:=f
 .refine⟨oE h (bH v).toList,h.less (bH v).toList,mf _ _,m.OQ λi l=>pm (by simp[l]),λi a _=>?_,λi a=>?_,hS.Y⟩
  .rw[qZ (n:=E.Y) (λi h=>j i (by simpa using h)) i a];exact hS.box i a bR
  .exact hS.mp i a
 .exact⟨jF,h,.refl h,.Fj sz 0 0,hS⟩
def SL(w:cm)(R:w.ok)(E:aJ):aI 41 [w.v] E λv _ d=>gh 7 d v ((dx w).map aK.v)/\bt none E d/\∀i,bH v=some i->E.Y<=i:=by
 have ac:=sZ w R;rw[qY]at ac;have hS:=uM w.O 0;have ad:=yi R;have hlen:=ar List.length hS;rw[aq]at hlen;have hle:=R.2.2;have hlen:(tI w.O 0).length=(dx w).length:=hlen;replace hS:List.map (·.2) (tI w.O 0)=dx w:=hS;generalize tI w.O 0=L at*
 generalize dx w=A at*
 have a9:=ET w;refine bq ZD.ok rfl ?_;repeat' first|simp only[gE,simprocAttr,HX.act]|refine lq a9 ?_
 refine yI (f:=123) (cap:=[.ep [cd w.O]]) (items:=L.map Gq) (λj h=>bt none E h/\E.Y<h.Y/\∃v,h.box E.Y=some [v]/\gh 7 h v ((A.take j).map aK.v)/\∀i,bH v=some i->E.Y<i) ?_ yh ac ?_ rfl rfl ?_ ?_ ?_ ?_
 .exact sT
 .exact Ha
 .simp only[da,simprocAttr];exact⟨bt.add E [.aP],.aP,rfl,gh.nil,λi a=>by cases a⟩
 .rintro j h it ⟨g1,ai,v,D,q,r⟩ H;rw[bB]at H;obtain⟨x,hx,rfl⟩:=bS.1 H;obtain⟨b5,bU⟩:=aH.1 hx;have aA:A[j]?=some x.2:=by rw[<-hS,bB,hx];rfl
  obtain⟨N,t⟩:=aH.1 aA;obtain⟨⟨b6,b7,ca⟩,p⟩:=x;simp only at t;have aB:=ad p (t▸ah N);have bi:=EO p aB;have bo:=q.one;unfold Gq;repeat' first|simp only[gE,simprocAttr,cO,D]|refine lq bi ?_|refine fg ?_ ?_
  all_goals
   refine iE (xs:=(A.take j).map aK.v) (ys:=[p.v]) ?_ ?_ ?_ ?_ ?_ rfl ?_ ?_ λu d z hb a=>?_
   .exact sT
   .exact sT
   .intro y aC;simp at aC;subst aC;rfl
   .exact sT
   .simp only[da];intro l br;cases br
   .exact PA
   .intro _ bs;cases bs
   have bu:=z.one;have aD:=z.kb;have o:bt (bH v) h d:=sR hb;have a0:bH u=bH v\/bH u=some h.Y:=sR a;have a1:d.box E.Y=some [v]:=by
    rw[o.box _ ai (λe=>by have:=r _ e;omega)];exact D
   have b2:=o.Y
  all_goals repeat' simp only[gE,simprocAttr,cO]
  all_goals
   refine cC (n:=1) (cells:=[v]) ?_ ?_ bR λab a2 a3 a4 a5 a6 a7 b3=>?_
   .simp only[sE,simprocAttr];exact a1
   .simp only[sE];simp only[jR,aD];simp[bu]
   have tb:ab.E.box=eR d.box E.Y (some [u]):=by rw[a5];simp only[sE];rw[aD];rfl
   have cb:ab.E.Y=d.Y:=a7.trans sT;have tm:ab.E.mp=d.mp:=a6.trans sT;have Q:∀i,bH u=some i->E.Y<i:=λi a=>by
    rcases a0 with e|e
    .exact r i (e▸a)
    .rw[e]at a;have:=au a;omega
  all_goals repeat' simp only[gE,simprocAttr,cO,a2,a3,a4]
  all_goals
   refine⟨⟨λi a _=>?_,λi a=>?_,by have:=g1.Y;omega⟩,av,u,by rw[tb,bl],?_,Q⟩
   .rw[tb,bE _ _ (cr a),o.box i av (λe=>by have:=r _ e;omega)];exact g1.box i a bR
   .rw[tm,o.mp i av];exact g1.mp i a
   .rw[bj N,t,aE];refine gh.frame z (λi a8=>?_) av;rw[tb,bE];rintro rfl;have:=Q _ a8;omega
 .exact kN
 .rintro h ⟨g1,ai,v,D,q,r⟩;have bo:=q.one;repeat' simp only[gE,simprocAttr,cO,D]
  have bv:(L.map Gq).length=A.length:=by rw[aq,hlen]
  rw[bv,be]at q;exact⟨nE,v,_,bz sT q.fS,q,g1,λi a=>k0 (r i a)⟩
def abB:CF GL f29 [29,30] [1,3,5] 29:=ji
def tD(H:g9)(k:Nat):List aK:=dx H.bW++(H.jx.take k).flatMap λe=>dx e.1
def Cf{H:g9}{k:Nat}(h:k<H.jx.length):tD H (k+1)=tD H k++dx H.jx[k].1:=by
 unfold tD;rw[iq h,cg,aG];simp
def yo{H:g9}(a:H.bW.ok)(d:∀e∈H.jx,e.1.ok):∀k,k<=H.jx.length->(tD H k).length<=1000000*(k+1)
 |0,_=>by have:=a.2.2;simp[tD];omega
 |k+1,h=>by
  have f:=yo a d k av;have j:=(d _ (ah (show k<H.jx.length from h))).2.2;rw[Cf (show k<H.jx.length from h),ae];omega
def VV(E:aJ)(H:g9)(a d:Nat)(N:H.bW.ok)(z:∀e∈H.jx,e.1.ok)(bo:H.jx.length<=17):
 aI 29 [H.v a d] E λu _ L=>u=dv (tD H H.jx.length)/\bt none E L:=by
 have aB:=Iv E H a d N;have aC:=SL H.bW N E;refine eU hm abB.ok (bF rfl) ?_;have f:(H.v a d).one=true:=rfl;repeat' simp only[gE,simprocAttr,f]
 refine bm (h0:=E) sT aB sT ag ?_;rintro _ _ ab ⟨rfl,j⟩;rw[j];clear j;repeat' simp only[gE,simprocAttr,f]
 refine bm (h0:=E) sT aC sT ag ?_;rintro v _ br ⟨Q,aD,a0⟩;have a1:=Q.one;have a2:=Q.fS;repeat' simp only[gE,simprocAttr,a1,a2]
 refine dQ rfl rfl (λ(k:Nat) y=>k<=H.jx.length/\y.Z 4=I k/\SJ 7 E y.E (y.Z 3) ((tD H k).map aK.v)) (λk=>H.jx.length-k) 0 ?_ ?_
 .refine⟨aL _,by simp only[sE,simprocAttr],?_⟩;simp only[sE];rw[show tD H 0=dx H.bW by simp[tD]];exact⟨aD,.inl ⟨Q,a0⟩⟩
 rintro k y ⟨a3,l,q⟩ ac;have o:y.Z 0=H.v a d:=(ac 0 dt).trans sT;clear ac;obtain⟨ad,D⟩:∃v,y.Z 3=v:=⟨_,rfl⟩;rw[D]at q;have R:=q.one;have ai:=q.fS;have c4:=yn y.E H a d;repeat' simp only[gE,simprocAttr,l,o,f]
 refine bm (h0:=y.E) sT c4 sT (aN.cons (aj (by simp only[dL,bh,o]<;>rfl)) .nil) ?_;rintro _ _ ab ⟨rfl,j⟩;rw[j];clear j;rcases am k H.jx.length with r|r
 .have aA:=Ix y.E H a d k z;rw[tV ⟨av,av⟩]at aA;have a4:=BQ H.jx[k].1 (z _ (ah r));have bs:=yo N z k a3;have bi:=(z _ (ah r)).2.2;repeat any_goals first|simp only[gE,simprocAttr,l,o,D,R,f]|(first|refine cz ?_ ?_|refine gz ?_ ?_)<;>intro t h<;>(try simp only[t])<;>try omega
  refine bm (h0:=y.E) (by simp only[da,simprocAttr,bn]) aA (by simp only[bN,ce,da,simprocAttr,bh,bn,o,l];rfl) (aN.cons (aj (by simp only[dL,simprocAttr,bh,o]<;>rfl)) (aN.cons (aj (by simp only[dL,simprocAttr,bh,l]<;>rfl)) .nil)) ?_;rintro _ _ ab ⟨rfl,j⟩;rw[j];clear j;repeat' first|simp(disch:=try exact om) only[gE,simprocAttr,l,o,D,R,f,cm.v]|refine lq a4 ?_
  refine SK (E:=E) (h0:=y.E) (vx:=ad) (vy:=dv (dx H.jx[k].1)) (xs:=(tD H k).map aK.v) (ys:=(dx H.jx[k].1).map aK.v) ?_ ?_ ?_ q ?_ ?_ rfl ?_ λbu L p=>?_
  .exact sT
  .exact sT
  .exact sT
  .simp only[dv,qs,bQ];rfl
  .exact lG.map (λy=>rfl) _
  .simp only[aq];omega
  rw[<-aE,<-Cf r]at p;have a5:=p.one;have a6:=p.fS;repeat' simp(disch:=omega) only[gE,simprocAttr,l,a5,a6]
  refine⟨k+1,⟨?_⟩,⟨av⟩⟩;exact⟨r,by(simp only[sE]);try exact ar (V.int .i64) av,by(simp only[sE]);exact p⟩
 .obtain rfl:k=H.jx.length:=av;repeat any_goals first|simp only[gE,simprocAttr,l,o,D,R,ai,f]|refine gz ?_ ?_<;>intro t h<;>(try simp only[t])<;>try omega
  obtain⟨fz,t,a7,a8,a9⟩:=q.fz;exact⟨nE,ad,_,fz,t,dv (tD H H.jx.length),false,bz (by simp only[da,simprocAttr,bn]) ai,a7,a8,λh=>(by cases h),rfl,a9⟩
def aar:CF GL f32 [40,41] [] 32:=ji
def SM(l:List aV)(b:Int)(E:aJ)(hl:l.length<=1000000)(hb:jv b):aI 32 [eI l,I b] E λv _ wx=>gh 32 wx v ((qt l b l.length).map aV.v)/\bt none E wx/\∀i,bH v=some i->E.Y<=i:=by
 have d:=A9 b (l.length+1) hb av;have p:=ql b (l.length+1) av;obtain⟨A,f⟩:∃A:Nat,iU b (l.length+1)=A:=⟨(iU b (l.length+1)).toNat,av⟩;rw[f]at d p;refine bq aar.ok rfl ?_;repeat any_goals first|simp(disch:=omega) only[gE,simprocAttr]|refine lq d ?_
 refine dQ rfl rfl (λ(k:Nat) y=>k<=l.length/\y.Z 7=I k/\gh 32 y.E (y.Z 6) ((qt l b k).map aV.v)/\bt none E y.E/\∀i,bH (y.Z 6)=some i->E.Y<=i) (λk=>l.length-k) 0 ?_ ?_
 .refine⟨aL _,?_,?_,?_,?_⟩
  .exact sT
  .simp only[sE,simprocAttr];exact gh.nil
  .simp only[sE,simprocAttr];exact⟨λ_ _ _=>rfl,λ_ _=>rfl,ao _⟩
  .simp only[sE,simprocAttr];intro i hi;cases hi
 rintro k y ⟨D,u2,a,u4,u5⟩ hy;have a0:y.Z 0=eI l:=by rw[hy 0 dt];simp only[sE,simprocAttr];try rfl
 have a1:y.Z 1=I b:=by rw[hy 1 dt];simp only[sE,simprocAttr];try rfl
 have a5:y.Z 5=I A:=by rw[hy 5 dt];simp only[sE,simprocAttr];try rfl
 clear hy;have H:=Lb l b k;obtain⟨V0,hV⟩:∃v,y.Z 6=v:=⟨_,rfl⟩;rw[hV]at a u5;have o1:=a.one;have q:=a.fS;rcases am k l.length with h1|h1
 .have t1:((k:Int)+A).tmod (l.length:Int)=(((k+A)%l.length:Nat):Int):=rfl;have K:=eG (k+A) (show 0<l.length by omega);have h3:=FU l.length b k av;have r:=H3 l b k h3;have j:qP l.length b k=if b.tmod 2≠0 then l.length-1-(k+A)%l.length else(k+A)%l.length:=by unfold qP;rw[f,bX]
  generalize qP l.length b k=J at*
  have t:b.tmod 2≠0->(l.length:Int)-1-((k+A)%l.length:Nat)=(J:Int):=λh=>by rw[ax h]at j;omega
  have u:¬b.tmod 2≠0->(((k+A)%l.length:Nat):Int)=(J:Int):=λh=>by rw[an h]at j;omega
  have done:∀(v':V)(wx:aJ),gh 32 wx v' ((qt l b k).map aV.v++[l[J].v])->bt (bH V0) y.E wx->(bH v'=bH V0\/bH v'=some y.E.Y)->gh 32 wx v' ((qt l b (k+1)).map aV.v)/\bt none E wx/\∀i,bH v'=some i->E.Y<=i:=λv' wx z m2 m3=>by
   refine⟨by rw[r,aE];exact z,⟨λi hi _=>?_,λi hi=>?_,aQ u4.Y m2.Y⟩,λi hi=>?_⟩
   .exact XW
   .rw[m2.mp i (bA hi u4.Y)];exact u4.mp i hi
   .exact SV
  by_cases o:b.tmod 2≠0
  .have e3:=t o;exact Xi
  .have e3:=u o;exact Xi
 .obtain rfl:k=l.length:=av;repeat any_goals first|simp only[gE,simprocAttr,u2,hV,o1,a0,a1,a5]|refine cs ?_ ?_<;>intro h<;>try omega
  exact⟨nE,V0,_,bz sT q,a,u4,u5⟩
def aas:CF GL f73 [5,7] [] 73:=ji
def SN(l:List hG)(E:aJ)(j:l.length<=1000000):aI 73 [oo l] E λv _ a=>gh 5 a v (l.map hG.v)/\bt none E a/\∀i,bH v=some i->E.Y<=i:=by
 refine bq aas.ok rfl ?_;repeat' first|refine k9 ?_|(refine tM (by simp only[pU]<;>rfl) (by simp only[da]<;>rfl) ?_ (λh=>?_))
 .refine BS (fD:=E) sT ?_;have u:gh 5 (E.cM []) (.ms 5 E.Y 0 0 0) []:=⟨(by intro x hx;cases hx),.inr ⟨E.Y,0,[],rfl,dm _,by simp[aJ.cM,eR,b1],ao _,rfl⟩⟩;repeat' simp only[gE,simprocAttr]
  refine iE (xs:=[]) (ys:=l.map hG.v) ?_ ?_ ?_ ?_ ?_ rfl ?_ ?_ λd a o hb hi=>?_
  .exact sT
  .exact sT
  .exact lG.map (λy=>rfl) _
  .exact sT
  .simp only[da];intro l j;cases j
  .simp only[aq,aT];omega
  .simp only[da];intro r;cases r
  have f:gh 5 a d (l.map hG.v):=by simpa using o
  have p:bH d=some E.Y\/bH d=some (E.Y+1):=by revert hi;simp only[da,simprocAttr];exact id
  have q:bt none E a:=by
   revert hb
   simp only[da,simprocAttr];intro hb;have t:=hb.Y;simp only[aJ.cM]at t;exact⟨λi hi _=>by rw[hb.box i (by simp only[aJ.cM];omega) (by simp[bH];omega)];simp only[aJ.cM];exact bE _ _ (cr hi),λi hi=>by rw[hb.mp i (by simp only[aJ.cM];omega)];rfl,av⟩
  repeat any_goals simp only[dq,simprocAttr,bh]
  refine⟨nE,d,_,bz rfl f.fS,f,q,λi hi=>?_⟩;rcases p with h|h<;>rw[h]at hi<;>simp at hi<;>omega
 .exact TZ
def O4{cells r:List V}{o:Nat}{x:V}(h:cells.drop o=x::r):aO cells o [x]=cells:=by
 have a:cells[o]?=some x:=by rw[<-List.head?_drop,h];rfl
 obtain⟨d,rfl⟩:=aH.1 a;exact iy d
def O5{α:Type}{f:Nat->α}{i:Nat}{v:α}(h:f i=v):eR f i v=f:=by
 funext j;unfold eR;split
 next e=>rw[e,h]
 .rfl
def abC:CF GL f21 [37] [1,3] 21:=ji
def O6(E:aJ)(H:g9)(K N:Nat)(k:Nat)(o:k<H.jx.length)(ac:∀e∈H.jx,e.2.length<=1000000)(hb:∀e∈H.jx,∀t∈e.2,t.eH.length<=1000000):
 aI 21 [H.v K N,I k] E λu _ ad=>u=.hE [oo H.jx[k].2,I 0]/\bt none E ad:=by
 have ai:=Fb E H K N k;rw[db (show 0<=(k:Int)/\(k:Int)<H.jx.length by omega)]at ai;have bo:=SN H.jx[k].2 E (ac _ (ah o));have b5:=ac _ (ah o);have aA:=hb _ (ah o);refine eU hm abC.ok (bF rfl) ?_;repeat' simp only[gE,simprocAttr]
 refine bm (h0:=E) sT ai sT ag ?_;rintro _ _ b6 ⟨rfl,aB⟩;rw[aB];clear aB;repeat' simp(disch:=try exact om) only[gE,simprocAttr,g9.v,CI,L6,o]
 refine bm (h0:=E) sT bo sT ag ?_;rintro v _ p ⟨l,hS,P⟩;have aC:=l.one;have Q:=l.fS;have aD:=l.len;rw[aq]at aD;generalize H.jx[k].2=L at*
 repeat' simp only[gE,simprocAttr,aC,Q,aD]
 refine dQ rfl rfl (λ(j:Nat) t=>j<=L.length/\t.Z 24=I j/\t.E.box=p.box/\t.E.mp=p.mp/\t.E.Y=p.Y) (λj=>L.length-j) 0 ?_ ?_
 .exact⟨aL _,by simp only[sE,simprocAttr],by(simp only[sE,simprocAttr]),by(simp only[sE,simprocAttr]),by(simp only[sE,simprocAttr])⟩
 rintro j t ⟨g1,r,y,g4,g5⟩ z;have a0:t.Z 6=v:=(z 6 dt).trans sT;have a22:t.Z 22=v:=(z 22 dt).trans sT;have a23:t.Z 23=I L.length:=(z 23 dt).trans sT;clear z;rcases am j L.length with f|f
 .obtain⟨a1,⟨_,h0⟩|⟨id,c,rest,a2,q1,br,bs,b7⟩⟩:=l
  .rw[kf]at h0;subst h0;exact absurd f (gN _)
  subst a2;have D:=iv a1 (i:=j) (by simpa using f) rest;rw[dB]at D;have a3:=dM a1;rw[aq]at a3;have R:t.E.box id=some (b1 (L.map hG.v)++rest):=(nK y id).trans br;have c3:=Vd L[j].eH (aQ (aA _ (ah f)) dt);rw[aq]at bs;have bu:(b1 (L.map hG.v)++rest).length=L.length*5+rest.length:=by rw[ae,a3]
  obtain⟨cells,a4⟩:∃cs,b1 (L.map hG.v)++rest=cs:=⟨_,rfl⟩;rw[a4]at D R bu;have a5:List.take 5 (List.drop (j*5) cells)=L[j].v.cells:=by rw[D];rfl
  simp only[hG.v,V.cells]at a5;have bv:j*5+5<=cells.length:=av;repeat' first|simp(disch:=try exact om) only[gE,simprocAttr,r,a0,a22,a23,f,R,a5,bv,aq]|refine cs ?_ ?_<;>intro h<;>try omega|refine lq c3 ?_
  refine cC (n:=1) (off:=j*5+4) (cells:=cells) ?_ ?_ av λbU te tc tl tb tm b2 ca=>?_
  .exact sT
  .exact sT
  have b3:cells.drop (j*5+4)=e9 L[j].eH::(b1 (List.drop (j+1) (L.map hG.v))++rest):=by
   rw[<-dG,D];rfl
  have a6:bU.E.box=p.box:=tb.trans (by
   (simp only[da])
   show eR t.E.box id (some (aO cells (j*5+4) [e9 L[j].eH]))=_;rw[O4 b3,O5 R];exact y)
  have a7:=b2.trans sT;have a8:=tm.trans sT;repeat' simp(disch:=omega) only[gE,simprocAttr,te,tc,tl,r]
  refine⟨j+1,⟨?_⟩,⟨av⟩⟩;exact⟨f,by(simp only[da,te,r]);exact ar (V.int .i64) av,by(simp only[da]);exact a6,by(simp only[da]);exact a8,by(simp only[da]);exact a7⟩
 .obtain rfl:j=L.length:=av;repeat' first|simp only[gE,simprocAttr,r,a0,a22,a23,aC,Q]|refine cs ?_ ?_<;>intro h<;>try omega
  have a9:gh 5 t.E v (L.map hG.v):=l.frame (λi _=>by rw[y]) (c8 g5.symm);refine⟨nE,_,_,oE t.E (bH v).toList,t.E.less (bH v).toList,.hE [oo L,I 0],false,uG rfl rfl Q rfl,mf _ _,.hE _ _ rfl λq c d ab bi=>?_,λh=>(by cases h),rfl,λi a _=>?_,λi a=>(nK g4 i).trans (hS.mp i a),aQ hS.Y (c8 g5.symm)⟩
  .match q with
   |0=>cases ab;cases bi;exact a9.OQ λi P=>pm (by simp[P])
   |1=>cases ab;cases bi;exact .refl _
   |q+2=>cases ab
  .exact(qZ (n:=E.Y) (λi h=>P i (by simpa using h)) i a).trans ((nK y i).trans (hS.box i a bR))
def aat:CF GL f11 [23,41,57] [1,6,11] 11:=ji
def aau(E:aJ)(l:List aV)(u:V)(a:aJ):Prop:=∃d f,u=.hE [(kH (gl l)).v d f,I l.length,I 0]/\(kH (gl l)).maps a d f/\bt none E a
def Kh(h:aJ):aJ:=(h.hI.hI.cM [.aP,.aP,.aP,.aP,.mp h.Y,.mp (h.Y+1)]).hI
def DW(h:aJ):aJ:={(Kh h)with box:=eR (Kh h).box (h.Y+2) (some ([.aP,.aP,.aP,.aP,.mp h.Y,.mp (h.Y+1)].set 2 (cd [])))}
def LK(h:aJ):(Kh h).box (h.Y+2)=some [.aP,.aP,.aP,.aP,.mp h.Y,.mp (h.Y+1)]:=bl _ _ _
def O7{E h:aJ}(hS:bt none E h):HQ E (DW h) (h.Y+2) .aP .aP .aP h.Y (h.Y+1) [] xn (h.Y+3) []:=by
 have q:=hS.Y;have l:(DW h).mp h.Y=some (.map []):=(bE _ _ (show h.Y≠h.Y+3 by omega)).trans ((bE _ _ (show h.Y≠h.Y+1 by omega)).trans (bl _ _ _));have o:(DW h).mp (h.Y+1)=some (.map []):=(bE _ _ (show h.Y+1≠h.Y+3 by omega)).trans (bl _ _ _);have p:(DW h).mp (h.Y+3)=some (.map []):=bl _ _ _;have a:(DW h).Y=h.Y+4:=rfl;exact⟨bl _ _ _,gh.nil,gh.nil,gh.nil,l,trivial,o,p,by simp[mV,gy,bH],λj f=>by
  simp[mV,gy,bH]at f;subst f;rw[a];omega,⟨av,av,av⟩,by rw[a];omega,⟨
   λi d _=>((bE _ _ (show i≠h.Y+2 by omega)).trans (bE _ _ (show i≠h.Y+2 by omega))).trans (hS.box i d bR),λi d=>((bE _ _ (show i≠h.Y+3 by omega)).trans ((bE _ _ (show i≠h.Y+1 by omega)).trans (bE _ _ (show i≠h.Y by omega)))).trans (hS.mp i d),by rw[a];omega⟩⟩
def Ff(E:aJ)(ad:V)(o1:ad.one=true)(o2:ad.dW=false)(l:List aV)(hg:w4 ad=some (I l.length))(bs:G1 ad l E)(aA:l.length<20)(bi:∀e∈gl l,e.good)(aB:s4 (gl l)):
 aI 11 [ad] E λu _ ab=>aau E l u ab:=by
 have hlen:=s7 l;have dg:=OP E ad o1 o2 l hg bs l.length (ao _) (λk h _=>bi _ (ah h)) aA (λk h _=>aB k h) (λh=>absurd h av);rw[show(if l.length<l.length then(10:Int)else 0)=0 from an (ku _)]at dg;refine eU hm aat.ok (bF rfl) ?_;repeat' simp only[gE,simprocAttr,o1,o2]
 refine bm (h0:=E) (by simp only[da,simprocAttr]) dg (by simp only[bN,ce,sE,simprocAttr,o2]) ag ?_;rintro _ _ h1 ⟨rfl,dp⟩;repeat' simp(disch:=try exact om) only[gE,simprocAttr,HX.act,o1,o2]
 have Q1:=O7 dp;refine Na (fz:=jF) (h0:=DW h1) (jD.cell (h:=Kh h1) (j:=2) (c:=.aP) (LK h1) rfl (.aP _)) (bs _ Q1.same) (by simp only[bN,ce,sE,simprocAttr,o2]) (h7.cons (by(simp only[sE,simprocAttr]);exact .refl _) .nil) ?_;rintro _ _ hF ⟨rfl,ds⟩;have Q2:=Q1.more ds;obtain⟨B,ca⟩:∃B,h1.Y=B:=⟨_,rfl⟩;rw[ca]at Q2;have cb:=uV (gl l);generalize dF:gl l=L at*
 repeat' simp only[gE,simprocAttr,eI]
 refine dQ rfl rfl (λ(k:Nat) t=>k<=L.length/\t.Z 28=I k/\HP E t.E (B+2) (pS L k).1 (B+3) (pS L k).2) (λk=>L.length-k) 0 ?_ ?_
 .exact⟨aL _,by simp only[sE,simprocAttr],by(simp only[sE,simprocAttr]);exact⟨_,_,_,_,_,_,Q2⟩⟩
 rintro k t ⟨g1,K,hh⟩ ai;have dU:t.Z 5=I l.length:=(ai 5 dt).trans sT;have P:t.Z 7=.bp (B+2) 0:=by rw[ai 7 dt];simp only[sE,simprocAttr,ca]
 have aC:t.Z 8=.mp (B+3):=by rw[ai 8 dt];simp only[sE,simprocAttr,ca]
 have a26:t.Z 26=eI L:=(ai 26 dt).trans sT;have a27:t.Z 27=I L.length:=(ai 27 dt).trans sT;clear ai;obtain⟨ev,cc,ed,o,p,N,Q,p1,hi,hj⟩:=hh.one;have hx:=Q.box;have q:=sn bi k g1;rcases am k L.length with R|R
 .have ea:=bi _ (ah R);have z:=uU R;have aD:(L.take k).length=k:=by rw[aF];omega
  have hk:=Ou L[k] ea;obtain⟨⟨H,ts⟩,eb⟩:∃x,pS L k=x:=⟨_,rfl⟩;rw[eb]at q Q hx z;simp only at Q hx;have hl:H.eo.length=k:=by rw[show H.eo=L.take k from q.eo,aD]
  repeat' first|simp(disch:=try exact om) only[gE,simprocAttr,K,dU,P,aC,a26,a27,R,eI,hx,p1,hi,hj,aV.v]|refine cs ?_ ?_<;>intro h<;>try omega|refine lq hk ?_|refine ec ?_|refine fg ?_ ?_
  generalize L[k]=e at*
  refine iE (xs:=H.eo.map aV.v) (ys:=[e.v]) ?_ ?_ ?_ ?_ ?_ rfl ?_ ?_ λch ab a hb hn=>?_
  .simp only[sE];exact Q.fe.frame (λ_ _=>rfl) (ao _)
  .exact sT
  .intro y a0;simp at a0;subst a0;rfl
  .exact sT
  .simp only[sE];intro l aA;cases aA
  .exact PD
  .intro _ aB;cases aB
  have el:=a.one;have ho:=a.fS;have bu:bt (bH ev) t.E ab:=sR hb;have et:bH ch=bH ev\/bH ch=some t.E.Y:=sR hn;obtain⟨hy,ci⟩:=Q.bd (B+2) (dh.2 (.inl rfl));have hz:ab.box (B+2)=some [ev,cc,cd H.bW.O,ed,.mp o,.mp p]:=(bu.box _ ci (λe=>Q.mem.1 _ e rfl)).trans hx;repeat' simp only[gE,simprocAttr,P,el,ho]
  refine cC (n:=1) (off:=0) (cells:=[ev,cc,cd H.bW.O,ed,.mp o,.mp p]) ?_ ?_ bR λcp te tc tl tb tm hq hH=>?_
  .exact sT
  .simp only[sE];simp[jR,el,a.kb]
  have bv:=tb.trans sT;simp only[a.kb,aO,aw,ay]at bv;have eN:=hq.trans sT;have e1:=tm.trans sT;have Q3:HQ E cp.E (B+2) ch cc ed o p N {H with eo:=H.eo++[e]} (B+3) ts:=Q.Zt bu a et (λi h=>a.Bd h) bv e1 eN;obtain⟨e2,e3,e4⟩:=Kf ea;have a1:=q.ts;have a2:=q.jx;rw[aD]at a1 a2;have hr:=VJ E cp.E (B+2) {H with eo:=H.eo++[e]} (B+3) ts ⟨_,_,_,_,_,_,Q3⟩ q.bW (k*1200000) (by have:=q.next;rwa [aD]at this) av (by simp only at a1;omega) q.nd (λx h=>aQ (q.key x h) dt) (by simp only at a2 ⊢;omega) e e2 e3 e4;have hs:=wh e;repeat' simp only[gE,simprocAttr,te,tc,tl,P,aC,aV.v]
  refine bm (h0:=cp.E) sT hr sT ag ?_;rintro _ _ e5 ⟨rfl,e6⟩;have a3:=sn bi (k+1) R;rw[z]at a3;have c1:yT (H,ts) e=(if(Ln {H with eo:=H.eo++[e]} ts e).2.2=true then(Ln {H with eo:=H.eo++[e]} ts e).1 else {(Ln {H with eo:=H.eo++[e]} ts e).1 with void:=(Ln {H with eo:=H.eo++[e]} ts e).1.void++[e.name]},(Ln {H with eo:=H.eo++[e]} ts e).2.1):=rfl;rw[c1]at z a3;generalize Ln {H with eo:=H.eo++[e]} ts e=D at*
  obtain⟨c2,hB,r⟩:=D;cases r with
  |true=>
   repeat' simp(disch:=omega) only[gE,simprocAttr,te,tc,tl,P,aC,K]
   refine⟨k+1,⟨?_⟩,⟨av⟩⟩;rw[z];exact⟨R,by(simp only[sE,te,K]);exact ar (V.int .i64) av,by(simp only[sE]);exact e6⟩
  |false=>
   obtain⟨bU,ac,b2,a4,a5,hK,a6,e7,fa,fr⟩:=e6.one;have a7:=a6.box;have b3:=a3.void;simp only[bM,cE,ae,eu]at b3;have c5:(L.take (k+1)).length=k+1:=by rw[aF];omega
   rw[c5]at b3;simp only at a7;repeat' first|simp only[gE,simprocAttr,te,tc,tl,P,aC,a7,e7,fa,fr,K,aV.v]|refine lq hs ?_|refine fg ?_ ?_
   refine iE (xs:=c2.void.map Name.v) (ys:=[e.name.v]) ?_ ?_ ?_ ?_ ?_ rfl ?_ ?_ λfs b5 f fB gb=>?_
   .simp only[sE];exact a6.fv.frame (λ_ _=>rfl) (ao _)
   .exact sT
   .intro y a0;simp at a0;subst a0;rfl
   .exact sT
   .simp only[sE];intro l aA;cases aA
   .exact PD
   .intro _ aB;cases aB
   have b6:=f.one;have gf:=f.fS;have a8:bt (bH ac) e5 b5:=sR fB;have c6:bH fs=bH ac\/bH fs=some e5.Y:=sR gb;obtain⟨ht,bo⟩:=a6.bd (B+2) (dh.2 (.inl rfl));have hu:b5.box (B+2)=some [bU,ac,cd c2.bW.O,b2,.mp a4,.mp a5]:=(a8.box _ bo (λe=>(a6.mem.2.1 _ e).1 rfl)).trans a7;repeat' simp only[gE,simprocAttr,te,tc,tl,P,b6,gf]
   refine cC (n:=1) (off:=1) (cells:=[bU,ac,cd c2.bW.O,b2,.mp a4,.mp a5]) ?_ ?_ bR λhM b7 gk gn gp ha hc hD=>?_
   .exact sT
   .simp only[sE];simp[jR,b6,f.kb]
   have a9:=gp.trans sT;simp only[f.kb,aO,aw,ay]at a9;have c7:=hc.trans sT;have c9:=ha.trans sT;repeat' simp(disch:=omega) only[gE,simprocAttr,b7,gk,gn,te,tc,tl,K]
   refine⟨k+1,⟨?_⟩,⟨av⟩⟩;rw[z];exact⟨R,by(simp only[sE,b7,te,K]);exact ar (V.int .i64) av,by(simp only[sE]);exact⟨_,_,_,_,_,_,a6.Zu a8 f c6 (λi h=>f.Bd h) a9 c9 c7⟩⟩
 .obtain rfl:k=L.length:=av;repeat' first|simp only[gE,simprocAttr,K,dU,P,aC,a26,a27]|refine cs ?_ ?_<;>intro h<;>try omega
  obtain⟨fz,hd,hv,he,hf,hw⟩:=Q.give;rw[<-cb]at he hf;refine⟨nE,_,_,fz,hd,.hE [(kH L).v o p,I l.length,I 0],false,xi rfl rfl rfl rfl rfl rfl,hv,.hE _ _ rfl λj c d br dd=>?_,λh=>(by cases h),o,p,by rw[dF],by rw[dF];exact hf,hw⟩
  match j with
  |0=>cases br;cases dd;exact he
  |1=>cases br;cases dd;exact .refl _
  |2=>cases br;cases dd;exact .refl _
  |j+3=>cases br
def VW(E:aJ)(a:V)(f:a.one=true)(d:a.dW=false)(l:List aV)(r:w4 a=some (I l.length))(j:G1 a l E)(t:l.length<20)(K:Nat)(D:K< (gl l).length)(y:∀e∈gl l,e.good)
 (z:∀k (h:k< (gl l).length),k<K->qX ((gl l).take k) (gl l)[k]) (hb:gR (m4 ((gl l).take K)) (gl l)[K].name=none/\(gl l)[K].seq≠(gR (m5 ((gl l).take K)) (gl l)[K].J).getD 0):
 aI 11 [a] E λu _ o=>u=.hE [.k1,I K,I 10]/\bt none E o:=by
 have hlen:=s7 l;have p:=OP E a f d l r j K av (λk h _=>y _ (ah h)) t z (λ_=>hb);rw[show(if K<l.length then(10:Int)else 0)=10 from ax av]at p;refine bq aat.ok rfl ?_;repeat' simp only[gE,simprocAttr,f,d]
 refine bm (h0:=E) (by simp only[da,simprocAttr]) p (by simp only[bN,ce,sE,simprocAttr,d]) ag ?_;rintro _ _ H ⟨rfl,q⟩;repeat' simp(disch:=try exact om) only[gE,simprocAttr,HX.act,f,d]
 exact⟨nE,_,_,xi rfl rfl rfl rfl rfl rfl,rfl,q⟩
def rot(n A i:Nat)(a:i<n):(i+A)%n=if i+A%n<n then i+A%n else i+A%n-n:=by
 have h:=eG A (show 0<n by omega);rw[<-Nat.add_mod_mod];split
 .exact ly (by assumption)
 .rw[pC av,ly av]
def IE(n:Nat)(b:Int):((List.range n).map (qP n b)).Perm (List.range n):=by
 rcases cS n with rfl|l
 .exact .refl _
 have q:=eG (iU b (n+1)).toNat l;have key:∀i,i<n->qP n b i=if b.tmod 2≠0 then n-1-(if i+(iU b (n+1)).toNat%n<n then i+(iU b (n+1)).toNat%n else i+(iU b (n+1)).toNat%n-n)else(if i+(iU b (n+1)).toNat%n<n then i+(iU b (n+1)).toNat%n else i+(iU b (n+1)).toNat%n-n):=λi a=>by
  unfold qP;rw[rot n _ i a]
 generalize (iU b (n+1)).toNat%n=r at*
 have o:((List.range n).map (qP n b)).Nodup:=by
  rw[lH,mQ];refine(lH.1 lw).imp_of_mem ?_;intro i j a f p;rw[dc]at a f;rw[key i a,key j f]
  (repeat' split)<;>omega
 rw[List.perm_ext_iff_of_nodup o lw];intro j;simp only[cG,dc];constructor
 .rintro⟨i,a,rfl⟩;exact FU n b i l
 .intro f;by_cases E:b.tmod 2≠0
  .have d:(if r<=n-1-j then n-1-j-r else n-1-j+n-r)<n:=by split<;>omega
   refine⟨_,d,?_⟩;rw[key _ d,ax E]
   (repeat' split)<;>omega
  .have d:(if r<=j then j-r else j+n-r)<n:=by split<;>omega
   refine⟨_,d,?_⟩;rw[key _ d,an E]
   (repeat' split)<;>omega
def LL{α:Type}(l:List α):(List.range l.length).flatMap (λj=>(l[j]?).toList)=l:=by
 have:∀k,k<=l.length->(List.range k).flatMap (λj=>(l[j]?).toList)=l.take k:=by
  intro k;induction k with
  |zero=>simp
  |succ k ih=>
   intro h;have a:k<l.length:=h;rw[dE,cg,ih av,bj a];simp[a]
 rw[this _ (ao _),be]
def DX(l:List aV)(b:Int):(qt l b l.length).Perm l:=by
 have a:qt l b l.length=((List.range l.length).map (qP l.length b)).flatMap λj=>(l[j]?).toList:=by
  unfold qt;rw[List.flatMap_map]
 rw[a];exact((IE l.length b).flatMap_right _).trans (.of_eq (LL l))
def GV(l:List aV)(b:Int):(qt l b l.length).length=l.length:=(DX l b).length_eq
def xE(l:List aV)(x:Nat):List aV:=(l.set 0 (l.getD x (oR 0 0))).set x (l.getD 0 (oR 0 0))
def swap_perm(l:List aV)(x:Nat)(h:x<l.length):(xE l x).Perm l:=by
 unfold xE;rw[ap,ap,aa h,aa (show 0<l.length by omega)];exact List.set_set_perm (show 0<l.length by omega) h
def IF(p:cR->Bool)(l:List cR)(x:cR):(pQ l x).countP p<=l.countP p+if p x=true then 1 else 0:=by
 induction l with
 |nil=>simp[pQ,p9,lv]
 |cons y r ih=>
  rw[yf]
  (repeat' split)<;>simp only[lv]at* <;>(repeat' split)<;>simp_all<;>omega
def GW(p:cR->Bool)(l:List cR):(jN l).countP p<=l.countP p:=by
 unfold jN;have:∀(l a:List cR),(l.foldl pQ a).countP p<=a.countP p+l.countP p:=by
  intro l;induction l with
  |nil=>simp
  |cons x r ih=>
   intro a;have d:=ih (pQ a x);have f:=IF p a x;rw[fo,lv];omega
 have h:=this l []
 rwa [List.countP_nil,cA]at h
def Cg(x:cR):Bool:=decide (x.from_≠x.to)
def O8(n:List (ID×List ID))(a b:ID):(oF (kg n a ((gR n a).getD []++[b]))).length=(oF n).length+1:=by
 unfold oF;induction n with
 |nil=>simp[kg,gR]
 |cons x r ih=>
  unfold kg gR;split
  .simp;omega
  .simp only[cf,ae];omega
def LM(L:List cR):∀n,(oF (L.foldl lD n)).length=(oF n).length+L.countP Cg:=by
 induction L with
 |nil=>simp
 |cons x r ih=>
  intro n;rw[fo,ih,lv];unfold lD Cg;by_cases h:x.from_=x.to
  .rw[ax h];simp[h]
  .rw[an h,O8];simp[h];omega
def IG(w:cm)(g:List ID):(pK g (k4 w)).countP Cg=0:=by
 rw[List.countP_eq_zero];intro x hx;have a:x∈k4 w:=(kz.1 hx).1;unfold k4 at a;rw[vj,cG]at a;obtain⟨p,_,rfl⟩:=a;simp[Cg]
def O9(o:Op)(h:o.cX.length<=16):(s3 o).length<=16:=by
 unfold s3
 (repeat' split)<;>(try simp only[aM,aT])<;>omega
def LN(w:cm)(o:Op)(b:Name)(h:o.cX.length<=16):(RC w o b).countP Cg<=16:=by
 unfold RC;refine aQ (GW _ _) ?_;rw[List.countP_append,IG];have:=O9 o h;exact aQ List.countP_le_length (by simpa using this)
def LO{ts:List (T×hG)}(h:∀y∈ts,y.2.ok)(s:T):(uK ts s).ok:=by
 unfold uK;cases e:gR ts s with
 |none=>exact⟨bR,bR,bR,λx hx=>(by cases hx)⟩
 |some t=>exact h _ (BK e)
structure y6(x:g9×List (T×hG))(p:List aV):Prop where
 Ps:(oF x.1.next).length<=16*p.length
 ts:x.2.length<=p.length
 abK:∀y∈x.2,y.2.ok
 edl:∀e∈x.1.jx,e.2.length<=p.length
 edt:∀e∈x.1.jx,∀t∈e.2,t.ok
def y6.step{x:g9×List (T×hG)}{p:List aV}(h:y6 x p){e:aV}(d:e.ok)(f:e.op.cX.length<=16):y6 (yT x e) (p++[e]):=by
 have key:∀(b:Bool)(H:g9)(ts:List (T×hG)),(oF H.next).length<=16*(p.length+1)->ts.length<=p.length+1->(∀y∈ts,y.2.ok)->(∀e∈H.jx,e.2.length<=p.length+1)->(∀e∈H.jx,∀t∈e.2,t.ok)->y6 (if b=true then H else {H with void:=H.void++[e.name]},ts) (p++[e]):=by
  intro b H ts h1 h2 h3 h4 h5;cases b<;>exact⟨by simpa using h1,by simpa using h2,h3,by simpa using h4,h5⟩
 obtain⟨h1,h2,h3,h4,h5⟩:=h;unfold yT Ln;simp only;split
 .unfold BL;simp only;split
  .refine key _ _ _ ?_ (eY h2) h3 (λy hy=>eY (h4 y hy)) h5;simp only[LM];have:=LN x.1.bW e.op e.name f;omega
  .exact T6
 .split
  .split
   .exact T6
   .refine key _ _ _ (by simp only;omega) (eY h2) h3 (λy hy=>?_) (λy hy=>?_)
    .rcases aR.1 hy with hy|hy
     .exact eY (h4 y hy)
     .obtain rfl:=bg.1 hy;simp only[Gk,DE,aq,ix];omega
    .rcases aR.1 hy with hy|hy
     .exact h5 y hy
     .obtain rfl:=bg.1 hy;intro t a;simp only[Gk,cG]at a;obtain⟨s,_,rfl⟩:=a;exact LO h3 s
  .split
   .refine key _ _ _ (by simp only;omega) (aQ (GJ _ _ _) av) (λy hy=>?_) (λy hy=>eY (h4 y hy)) h5;rcases GK hy with rfl|hy
    .exact d.2.2.1
    .exact h3 y hy
   .exact T6
def y6.zero:y6 (xn,[]) []:=⟨by simp[xn,oF],bR,λy h=>(by cases h),λy h=>(by cases h),λy h=>(by cases h)⟩
def DY{l:List aV}(a:∀e∈l,e.ok)(d:∀e∈l,e.op.cX.length<=16):∀k,k<=l.length->y6 (pS l k) (l.take k)
 |0,_=>by simpa[pS]using y6.zero
 |k+1,h=>by
  rw[uU (show k<l.length from h),bj (show k<l.length from h)];exact(DY a d k av).step (a _ (ah _)) (d _ (ah _))
def Ch(n:List (ID×List ID)):B9 n (List.range n.length)=(oF n).length:=by
 have:∀k,k<=n.length->B9 n (List.range k)=(oF (n.take k)).length:=by
  intro k;induction k with
  |zero=>simp[B9,oF]
  |succ k ih=>
   intro h;have a:k<n.length:=h;have e:B9 n (List.range (k+1))=B9 n (List.range k)+(rJ n k).length:=by simp[B9,dE]
   rw[e,ih av,bj a];have d:(rJ n k).length=n[k].2.length:=by unfold rJ;rw[aa a];simp
   rw[d];simp only[oF,cg,ae,cf,jf,cP]
 rw[this _ (ao _),be]
def LP{w:cm}(h:fy w=0):(dx w).length<=1024:=by
 unfold fy at h;split at h
 .cases h
 next a=>unfold lj at a;simp only[h9,cy,mC]at a;omega
def DZ(l:List cR):(jN l).length<=l.length:=by
 have:=sb l l.length (ao _);rwa [be]at this
def y8(n:List (ID×List ID))(th:List ID):∀(l:List aK)(o:List cR),(l.foldl (lF n th) o).length<=o.length+l.length*((oF n).length+1)
 |[],o=>bR
 |p::r,o=>by
  have a:=y8 n th r (lF n th o p);have d:=B0 n th o p;rw[fo,aM,dH];omega
structure g9.fit(H:g9):Prop where
 bW:H.bW.ok
 jx:H.jx.length<=16
 G7:∀e∈H.jx,e.1.ok
 edp:∀e∈H.jx,(dx e.1).length<=1024
 edl:∀e∈H.jx,e.2.length<=1000000
 edt:∀e∈H.jx,∀t∈e.2,t.ok
 Ps:(oF H.next).length<=900
 ev:H.eo.length<=1000000
 good:∀e∈H.eo,e.good
 void:H.void.length<=1000000
def g9.fit.aav{H:g9}(F:H.fit)(i k:Nat)(a:i<H.jx.length):(uO H i k).length<=1000000000:=by
 unfold uO;simp only;refine aQ (DZ _) (aQ (y8 _ _ _ _) ?_);rw[ap,aa a];have d:=F.edp _ (ah a);have f:=F.Ps;simp only[bf,aT,cA];exact aQ (oT d (lz f)) dt
def g9.fit.direct{H:g9}(F:H.fit):(jN (po H.next)).length<=1000000000:=by
 refine aQ (DZ _) ?_;have h:(po H.next).length=(oF H.next).length:=by
  unfold po oF;induction H.next with
  |nil=>rfl
  |cons x r ih=>simp only[cf,ae,aq,ih]
 have:=F.Ps;omega
def Ci{l:List aV}(p:l.length<=16)(j:∀e∈l,e.good)(o:∀e∈l,e.op.cX.length<=16):(kH l).fit:=by
 have d:=sn j l.length (ao _);have f:=DY (λe a=>(j e a).ok) o l.length (ao _);rw[uV];rw[be]at d f;have:=d.void;have:=d.jx;have:=f.Ps;exact⟨d.bW,av,λe a=>(d.G7 e a).1,λe a=>LP (d.G7 e a).2,λe a=>by have:=f.edl e a;omega,f.edt,av,by rw[d.eo];omega,λe a=>j e (d.eo▸a),av⟩
def jD.cells{h:aJ}{id:Nat}{cells a:List V}(hx:h.box id=some cells)(f:h7 jF cells a):jD jF h {h with box:=eR h.box id (some a)} where
 Cu _ _ e:=by cases e
 box i cs e:=by
  by_cases d:i=id
  .subst d;rw[show(({h with box:=eR h.box i (some a)}:aJ).box i)=some a from bl _ _ _]at e;cases e;exact⟨rfl,cells,hx,f⟩
  .rw[show(({h with box:=eR h.box id (some a)}:aJ).box i)=h.box i from bE _ _ d]at e;exact⟨rfl,cs,e,h7.refl _⟩
 fl i k e:=.inl ⟨e,.inl λ_ _ _ _=>.inl λ_=>rfl⟩
 mp i m e:=⟨m,e,.refl m⟩
 Y:=ao _
def zw:List Op:=[iW,{iW with kind:=1,bW:=[79,100,101,115]},{iW with kind:=2,bW:=[116,104,101,32,107,105,110,103]},iW,{iW with kind:=4,W:=⟨0,2,0⟩,n:=1},{iW with kind:=3,W:=⟨0,4,1⟩},iW]
def Cj(k:Nat):aV:={oR 0 (if k=3\/k=6 then 1 else 0)with seq:=k,ei:=k+1,op:=zw.getD k iW}
def Ck:List aV:=(List.range 7).map Cj
def opR(o:Op):V:=.agg [I o.kind,I o.W.J,I o.W.seq,I o.W.k,I o.to.J,I o.to.seq,I o.to.k,I o.spot.i9,I o.spot.k3,I o.spot.idx,I o.n,I o.eB,I o.eh,S o.bW,.aP,.aP,.aP]
def IH(e:aV):V:=.agg [I e.J,I e.seq,I e.ei,I e.kind,.aP,I e.op.kind,I e.op.W.J,I e.op.W.seq,I e.op.W.k,I e.op.to.J,I e.op.to.seq,I e.op.to.k,I e.op.spot.i9,I e.op.spot.k3,I e.op.spot.idx,I e.op.n,I e.op.eB,I e.op.eh,S e.op.bW,.aP,.aP,.aP,S [],I 0,I 0,S [],.aP,I 0,I 0,I 0,.aP,I 0]
def h7.append{fz:ak}{a b c d:List V}(h:h7 fz a b)(p:h7 fz c d):h7 fz (a++c) (b++d):=by
 refine⟨by rw[ae,ae,h.1,p.1],λj x y l o=>?_⟩;rcases am j a.length with f|f
 .rw[dI f]at l;rw[dI (by rw[<-h.1];exact f)]at o;exact h.2 j x y l o
 .rw[dR f]at l;rw[dR (by rw[<-h.1];exact f),<-h.1]at o;exact p.2 _ x y l o
def LR(k:Nat):(zw.getD k iW).F=[]/\(zw.getD k iW).cX=[]/\(zw.getD k iW).C=[]:=by
 match k with
 |0|1|2|3|4|5|6=>exact⟨rfl,rfl,rfl⟩
 |k+7=>exact⟨rfl,rfl,rfl⟩
def VX(k:Nat):h7 jF (IH (Cj k)).cells (Cj k).v.cells:=by
 obtain⟨a,d,f⟩:=LR k;unfold IH Cj oR;simp only[aV.v,V.cells,a,d,f];repeat' first|exact h7.nil|refine h7.cons (.refl _) ?_|refine h7.cons (.aP _) ?_
def Pa(n:Nat)(rest:List V):h7 jF (b1 (((List.range n).map Cj).map IH)++rest) (b1 (((List.range n).map Cj).map aV.v)++rest):=by
 refine h7.append ?_ (.refl _);induction n with
 |zero=>exact h7.refl _
 |succ n ih=>
  rw[dE];simp only[aE,fU,bw,cV];refine h7.append ih ?_;have:∀v:V,b1 [v]=v.cells:=λv=>by simp[b1]
  rw[this,this];exact VX n
def abD:CF GL f71 [39,40] [] 71:=ji
def VY(E:aJ):aI 71 [] E λv _ a=>gh 32 a v (Ck.map aV.v)/\bt none E a/\∀i,bH v=some i->E.Y<=i:=by
 refine eU hm abD.ok (bF rfl) ?_;repeat' simp only[gE,simprocAttr]
 refine dQ rfl rfl (λ(k:Nat) y=>k<=7/\y.Z 3=I k/\gh 32 y.E (y.Z 2) (((List.range k).map Cj).map IH)/\bt none E y.E/\∀i,bH (y.Z 2)=some i->E.Y<=i) (λk=>7-k) 0 ?_ ?_
 .refine⟨aL _,?_,?_,?_,?_⟩
  .exact sT
  .simp only[sE];exact gh.nil
  .simp only[sE];exact bt.TL _
  .simp only[sE];intro i hi;cases hi
 rintro k y ⟨bi,o,Q,u4,u5⟩ j;have u:y.Z 1=.sl 17 (zw.map opR):=(j 1 dt).trans sT;clear j;have H:zw.length=7:=rfl;obtain⟨p,q⟩:∃v,y.Z 2=v:=⟨_,rfl⟩;rw[q]at Q u5;have D:=Q.one;have a0:=Q.fS;rcases am k 7 with h1|h1
 .have a1:zw.getD k iW=zw[k]:=by rw[ap,aa (by rw[H];exact h1)];rfl
  have key:∀z:Int,(if k=3\/k=6 then 1 else 0)=z->IH (Cj k)=.agg [I 0,I k,I (k+1),I z,.aP,I zw[k].kind,I zw[k].W.J,I zw[k].W.seq,I zw[k].W.k,I zw[k].to.J,I zw[k].to.seq,I zw[k].to.k,I zw[k].spot.i9,I zw[k].spot.k3,I zw[k].spot.idx,I zw[k].n,I zw[k].eB,I zw[k].eh,S zw[k].bW,.aP,.aP,.aP,S [],I 0,I 0,S [],.aP,I 0,I 0,I 0,.aP,I 0]:=λz a2=>by
   unfold IH Cj oR;rw[a1];simp only[a2]
  have a3:(List.range (k+1)).map Cj=(List.range k).map Cj++[Cj k]:=by rw[dE,aE];rfl
  have done:∀(d:V)(a:aJ),gh 32 a d (((List.range k).map Cj).map IH++[IH (Cj k)])->bt (bH p) y.E a->(bH d=bH p\/bH d=some y.E.Y)->gh 32 a d (((List.range (k+1)).map Cj).map IH)/\bt none E a/\∀i,bH d=some i->E.Y<=i:=λd a a4 m2 m3=>by
   refine⟨by rw[a3,aE];exact a4,⟨λi hi _=>?_,λi hi=>?_,aQ u4.Y m2.Y⟩,λi hi=>?_⟩
   .exact XW
   .rw[m2.mp i (bA hi u4.Y)];exact u4.mp i hi
   .exact SV
  by_cases ad:k=3\/k=6
  .rw[ax ad]at key;have R:=key 1 rfl;rcases ad with rfl|rfl
   .repeat' first|simp(disch:=try exact om) only[gE,simprocAttr,o,u,q,D,h1,H,aq,dB,opR]|refine cs ?_ ?_<;>intro h<;>try exact absurd trivial h
    refine ec ?_;repeat' simp only[gE,simprocAttr,o,u,q,D]
    refine iE (xs:=((List.range 3).map Cj).map IH) (ys:=[IH (Cj 3)]) ?_ ?_ ?_ ?_ ?_ rfl ?_ ?_ λd a f hb hi=>?_
    .exact sT
    .simp only[sE];rw[R];rfl
    .intro y j;simp at j;subst j;rfl
    .exact sT
    .simp only[sE];intro l K;cases K
    .exact Ub
    .intro _ L;cases L
    have r:bt (bH p) y.E a:=sR hb;have t:bH d=bH p\/bH d=some y.E.Y:=sR hi;obtain⟨z1,z2,z3⟩:=done d a f r t;have N:=f.one;have P:=f.fS;repeat' simp(disch:=omega) only[gE,simprocAttr,o,N,P]
    refine⟨3+1,⟨?_⟩,⟨av⟩⟩;exact TY
   .repeat' first|simp(disch:=try exact om) only[gE,simprocAttr,o,u,q,D,h1,H,aq,dB,opR]|refine cs ?_ ?_<;>intro h<;>try exact absurd trivial h
    refine ec ?_;repeat' simp only[gE,simprocAttr,o,u,q,D]
    refine iE (xs:=((List.range 6).map Cj).map IH) (ys:=[IH (Cj 6)]) ?_ ?_ ?_ ?_ ?_ rfl ?_ ?_ λd a f hb hi=>?_
    .exact sT
    .simp only[sE];rw[R];rfl
    .intro y j;simp at j;subst j;rfl
    .exact sT
    .simp only[sE];intro l K;cases K
    .exact Ub
    .intro _ L;cases L
    have r:bt (bH p) y.E a:=sR hb;have t:bH d=bH p\/bH d=some y.E.Y:=sR hi;obtain⟨z1,z2,z3⟩:=done d a f r t;have N:=f.one;have P:=f.fS;repeat' simp(disch:=omega) only[gE,simprocAttr,o,N,P]
    refine⟨6+1,⟨?_⟩,⟨av⟩⟩;exact TY
  .rw[an ad]at key;have R:=key 0 rfl;have aB:(k:Int)≠3:=av;have aC:(k:Int)≠6:=av;repeat' first|simp(disch:=try exact om) only[gE,simprocAttr,o,u,q,D,h1,H,aq,dB,opR]|refine cs ?_ ?_<;>intro h<;>try omega
   refine ec ?_;repeat' first|simp only[gE,simprocAttr,o,u,q,D,aB,aC]|(first|refine cz ?_ ?_|refine gz ?_ ?_)<;>intro a5 h<;>(try simp only[a5])<;>try omega
   refine iE (xs:=((List.range k).map Cj).map IH) (ys:=[IH (Cj k)]) ?_ ?_ ?_ ?_ ?_ rfl ?_ ?_ λd a f hb hi=>?_
   .exact sT
   .simp only[sE];rw[R];rfl
   .intro y j;simp at j;subst j;rfl
   .exact sT
   .simp only[sE];intro l K;cases K
   .exact Ub
   .intro _ L;cases L
   have r:bt (bH p) y.E a:=sR hb;have t:bH d=bH p\/bH d=some y.E.Y:=sR hi;obtain⟨z1,z2,z3⟩:=done d a f r t;have N:=f.one;have P:=f.fS;repeat' simp(disch:=omega) only[gE,simprocAttr,o,N,P]
   refine⟨k+1,⟨?_⟩,⟨av⟩⟩;exact TY
 .obtain rfl:k=7:=av;repeat any_goals first|simp only[gE,simprocAttr,o,u,q,D,H,aq]|refine bY ?_ ?_<;>intro h<;>(try simp only[h])<;>try simp only[jc]at h
  obtain⟨a8,⟨ai,aA⟩|⟨ac,a6,rest,ai,dV,dZ,aD,ab⟩⟩:=id Q
  .cases aA
  have a9:=u5 ac (by rw[ai];rfl);refine⟨nE,p,_,jF,_,p,false,bz (by simp only[da,simprocAttr,bn]) a0,jD.cells dZ (Pa 7 rest),.refl _,λh=>(by cases h),⟨lG.map (λy=>rfl) _,.inr ⟨ac,a6,rest,ai,dV,bl _ _ _,aD,ab⟩⟩,⟨λi hi a7=>?_,u4.mp,u4.Y⟩,u5⟩;exact(bE _ _ (by omega)).trans (u4.box i hi a7)
def abE:CF GL f30 [] [2,4,5,6,7,13,14] 30:=ji
def VZ(E:aJ)(H:g9)(l o q r:Nat)(F:H.fit)(a9:H.maps E l o)(bi:H.maps E q r):
 aI 30 [H.v l o,H.v q r] E λu _ a1=>u=B true/\bt none E a1:=by
 refine bq abE.ok rfl ?_;have a:(H.v l o).one=true:=rfl;have d:(H.v q r).one=true:=rfl;have b6:=F.jx;repeat' simp only[gE,simprocAttr,a,d]
 refine dQ rfl rfl (λ(k:Nat) y=>k<=H.jx.length/\y.Z 5=I k/\bt none E y.E) (λk=>H.jx.length-k) 0 ?_ ?_
 .exact⟨aL _,by simp only[sE,simprocAttr],by(simp only[sE,simprocAttr]);exact bt.TL _⟩
 rintro k y ⟨b7,f,a2⟩ ad;have j:y.Z 0=H.v l o:=(ad 0 dt).trans sT;have p:y.Z 1=H.v q r:=(ad 1 dt).trans sT;clear ad;have bo:=yn y.E H l o;repeat' simp only[gE,simprocAttr,f,j,p,a,d]
 refine bm (h0:=y.E) sT bo sT (aN.cons (aj (by simp only[dL,bh,bn,j]<;>rfl)) .nil) ?_;rintro _ _ a3 ⟨rfl,D⟩;rw[D];clear D;rcases am k H.jx.length with K|K
 .have L:=ah K;have a4:=Ix y.E H l o k F.G7;rw[tV ⟨av,av⟩]at a4;have c3:=Ix y.E H q r k F.G7;rw[tV ⟨av,av⟩]at c3;have c4:=O6 y.E H l o k K F.edl (λe ai t aA=>(F.edt e ai t aA).2.2.1);have aB:=N3 H.jx[k].1 H.jx[k].1 (F.G7 _ L);have a5:=Vc H.jx[k].2 H.jx[k].2 (by have:=F.edl _ L;omega) (F.edt _ L);rw[db rfl]at aB a5;have aC:(H.jx[k]'av).1.v=.agg [cd H.jx[k].1.O]:=rfl;rw[aC]at aB;repeat' first|simp only[gE,simprocAttr,f,j,p,a,d]|(first|refine cz ?_ ?_|refine gz ?_ ?_)<;>intro aD h<;>(try simp only[aD])<;>try omega
  refine bm (h0:=y.E) sT a4 sT (aN.cons (aj (by simp only[dL,bh,bn,j]<;>rfl)) (aN.cons (aj (by simp only[dL,bh,bn,f]<;>rfl)) .nil)) ?_;rintro _ _ a3 ⟨rfl,D⟩;rw[D];clear D;repeat' simp(disch:=try exact om) only[gE,simprocAttr,f,j,p,a,d,aC]
  refine bm (h0:=y.E) sT c3 sT (aN.cons (aj (by simp only[dL,bh,bn,p]<;>rfl)) (aN.cons (aj (by simp only[dL,bh,bn,f]<;>rfl)) .nil)) ?_;rintro _ _ a3 ⟨rfl,D⟩;rw[D];clear D;repeat' simp(disch:=try exact om) only[gE,simprocAttr,f,j,p,a,d,aC]
  refine bm (h0:=y.E) sT c4 sT (aN.cons (aj (by simp only[dL,bh,bn,j]<;>rfl)) (aN.cons (aj (by simp only[dL,bh,bn,f]<;>rfl)) .nil)) ?_;rintro _ _ a6 ⟨rfl,br⟩;have bs:=O6 a6 H q r k K F.edl (λe ai t aA=>(F.edt e ai t aA).2.2.1);repeat' simp(disch:=try exact om) only[gE,simprocAttr,f,j,p,a,d]
  refine bm (h0:=a6) sT bs sT (aN.cons (aj (by simp only[dL,bh,bn,p]<;>rfl)) (aN.cons (aj (by simp only[dL,bh,bn,f]<;>rfl)) .nil)) ?_;rintro _ _ ca ⟨rfl,bu⟩;have bv:=(a2.ko br).ko bu;repeat' first|simp(disch:=try exact om) only[gE,simprocAttr,f,j,p,a,d]|refine lq aB ?_|refine lq a5 ?_
  refine dQ rfl rfl (λ(i:Nat) z=>i<=k+1/\z.Z 14=I i/\bt none E z.E) (λi=>k+1-i) 0 ?_ ?_
  .exact⟨aL _,by simp only[sE,simprocAttr],by(simp only[sE,simprocAttr]);exact bv⟩
  rintro i z ⟨cb,N,R⟩ ab;have d0:z.Z 0=H.v l o:=(ab 0 dt).trans sT;have Q:z.Z 1=H.v q r:=(ab 1 dt).trans sT;have P:z.Z 5=I k:=(ab 5 dt).trans sT;clear ab;rcases am k i with a0|a0
  .repeat' first|simp(disch:=omega) only[gE,simprocAttr,N,d0,Q,P,a,d]|refine cs ?_ ?_<;>intro h<;>try omega
   refine⟨k+1,⟨?_⟩,⟨av⟩⟩;exact⟨K,by(simp only[sE]);try exact ar (V.int .i64) av,by(simp only[sE]);exact R⟩
  .have bU:=Iz z.E H l o (a9.mono R) F.G7 F.edp F.Ps i k K a0;have ac:=Nw (uO H i k) (uO H i k) (F.aav i k av);rw[db rfl]at ac;repeat' first|simp only[gE,simprocAttr,N,d0,Q,P,a,d]|refine cs ?_ ?_<;>intro h<;>try omega
   refine bm (h0:=z.E) sT bU sT (aN.cons (aj (by simp only[dL,bh,bn,d0]<;>rfl)) (aN.cons (aj (by simp only[dL,bh,bn,N]<;>rfl)) (aN.cons (aj (by simp only[dL,bh,bn,P]<;>rfl)) .nil))) ?_;rintro _ _ a7 ⟨rfl,a8⟩;have b2:=Iz a7 H q r (bi.mono (R.ko a8)) F.G7 F.edp F.Ps i k K a0;repeat' simp(disch:=try exact om) only[gE,simprocAttr,N,d0,Q,P,a,d]
   refine bm (h0:=a7) sT b2 sT (aN.cons (aj (by simp only[dL,bh,bn,Q]<;>rfl)) (aN.cons (aj (by simp only[dL,bh,bn,N]<;>rfl)) (aN.cons (aj (by simp only[dL,bh,bn,P]<;>rfl)) .nil))) ?_;rintro _ _ cc ⟨rfl,b3⟩;have b5:=(R.ko a8).ko b3;repeat' first|simp(disch:=try exact om) only[gE,simprocAttr,N,d0,Q,P,a,d]|refine lq ac ?_
   refine⟨i+1,⟨?_⟩,⟨av⟩⟩;exact⟨av,by(simp only[sE]);try exact ar (V.int .i64) av,by(simp only[sE]);exact b5⟩
 .obtain rfl:k=H.jx.length:=av;repeat' first|simp only[gE,simprocAttr,f,j,p,a,d]|refine gz ?_ ?_<;>intro aD h<;>(try simp only[aD])<;>try omega
  exact⟨nE,_,_,bz rfl rfl,rfl,a2⟩
def abF:CF GL f37 [] [3,8,9,12] 37:=ji
def Pb{u:V}{n:Nat}{xs:List V}(h:V.Le u (.sl n xs)):u.dW=false:=by
 cases h<;>rfl
def V1(E:aJ)(H:g9)(j o p q:Nat)(l:List aK)(cb:l.length<=1000000000)(F:H.fit)(ai:H.maps E j o)(aA:H.maps E p q):
 aI 37 [H.v j o,H.v p q,dv l] E λu _ aC=>u=B true/\bt none E aC:=by
 refine bq abF.ok rfl ?_;have a:(H.v j o).one=true:=rfl;have d:(H.v p q).one=true:=rfl;have aD:qJ false (H.v j o) V.k1=some (.bool false):=rfl;have a0:qJ false (H.v p q) V.k1=some (.bool false):=rfl;have bi:=Iw E H j o F.ev F.good;have c3:=NU H.eo H.eo (by have:=F.ev;omega) (λe bo=>(F.good e bo).ok);have c4:=HW H.void H.void (by have:=F.void;omega);have a1:=N3 H.bW H.bW F.bW;have a2:=Nw (jN (po H.next)) (jN (po H.next)) F.direct;rw[db rfl]at c3 c4 a1 a2;repeat' simp only[gE,simprocAttr,a,d,aD,a0]
 refine bm (h0:=E) sT bi sT (aN.cons (aj (by simp only[dL,bh,bn,a]<;>rfl)) .nil) ?_;rintro cc _ a3 ⟨q1,br⟩;have bs:=br.but;have z:=Pb q1;have bu:=Iw a3 H p q F.ev F.good;repeat' simp only[gE,simprocAttr,a,d,z]
 refine bm (h0:=a3) sT bu sT (aN.cons (aj (by simp only[dL,bh,bn,d]<;>rfl)) .nil) ?_;rintro ch _ t ⟨a4,bv⟩;have aB:=bs.ko bv.but;have K:=Pb a4;have bU:=Fc t H j o (by have:=F.void;omega);have b2:=Fc t H p q (by have:=F.void;omega);have b3:=Iv t H j o F.bW;have a5:=Iv t H p q F.bW;repeat' simp only[gE,simprocAttr,a,d,z,K]
 refine iR c3 (aN.cons (by(simp only[sE]);exact q1) (aN.cons (by(simp only[sE]);exact a4) .nil)) ?_;repeat' simp only[gE,simprocAttr,a,d,z,K]
 refine bm (h0:=t) sT bU sT (aN.cons (aj (by simp only[dL,bh,bn,a]<;>rfl)) .nil) ?_;rintro _ _ L ⟨rfl,f⟩;rw[f];clear f;repeat' simp only[gE,simprocAttr,a,d,z,K]
 refine bm (h0:=t) sT b2 sT (aN.cons (aj (by simp only[dL,bh,bn,d]<;>rfl)) .nil) ?_;rintro _ _ L ⟨rfl,f⟩;rw[f];clear f;repeat' first|simp only[gE,simprocAttr,a,d,z,K]|refine lq c4 ?_
 refine bm (h0:=t) sT b3 sT (aN.cons (aj (by simp only[dL,bh,bn,a]<;>rfl)) .nil) ?_;rintro _ _ L ⟨rfl,f⟩;rw[f];clear f;repeat' simp only[gE,simprocAttr,a,d,z,K,cm.v]
 refine bm (h0:=t) sT a5 sT (aN.cons (aj (by simp only[dL,bh,bn,d]<;>rfl)) .nil) ?_;rintro _ _ L ⟨rfl,f⟩;rw[f];clear f;have a6:=Iy t H j o (ai.mono aB) (by rw[Ch];have:=F.Ps;omega);repeat' first|simp only[gE,simprocAttr,a,d,z,K,cm.v]|refine lq a1 ?_
 refine bm (h0:=t) sT a6 sT (aN.cons (aj (by simp only[dL,bh,bn,a]<;>rfl)) .nil) ?_;rintro _ _ a7 ⟨rfl,a8⟩;have a9:=Iy a7 H p q (aA.mono (aB.ko a8)) (by rw[Ch];have:=F.Ps;omega);repeat' simp only[gE,simprocAttr,a,d,z,K]
 refine bm (h0:=a7) sT a9 sT (aN.cons (aj (by simp only[dL,bh,bn,d]<;>rfl)) .nil) ?_;rintro _ _ ci ⟨rfl,b5⟩;have b6:=(aB.ko a8).ko b5;repeat' first|simp only[gE,simprocAttr,a,d,z,K]|refine lq a2 ?_
 refine dQ rfl rfl (λ(k:Nat) y=>k<=l.length/\y.Z 7=I k/\bt none E y.E) (λk=>l.length-k) 0 ?_ ?_
 .exact⟨aL _,by simp only[sE,simprocAttr],by(simp only[sE,simprocAttr]);exact b6⟩
 rintro k y ⟨cp,N,P⟩ ad;have r:y.Z 0=H.v j o:=(ad 0 dt).trans sT;have D:y.Z 1=H.v p q:=(ad 1 dt).trans sT;have Q:y.Z 2=dv l:=(ad 2 dt).trans sT;clear ad;rcases am k l.length with R|R
 .have ab:=B8 y.E H j o (ai.mono P) l[k].id;have ac:=B8 y.E H p q (aA.mono P) l[k].id;generalize c1:(gR H.left l[k].id).getD ⟨0,0⟩=nm at ab ac;generalize (gR H.left l[k].id).isSome=fd at ab ac;obtain⟨c2,c5⟩:=nm;repeat' first|simp(disch:=try exact om) only[gE,simprocAttr,a,d,N,r,D,Q,R,aK.v,ID.v]|refine cs ?_ ?_<;>intro h<;>try omega
  refine bm (h0:=y.E) sT ab sT (aN.cons (aj (by simp only[dL,bh,bn,r]<;>rfl)) (aN.cons (aj (by simp only[dL,bh,bn,r]<;>rfl)) .nil)) ?_;rintro _ _ L ⟨rfl,f⟩;rw[f];clear f;repeat' simp(disch:=try exact om) only[gE,simprocAttr,a,d,N,r,D,Q,R,Name.v,ID.v]
  refine bm (h0:=y.E) sT ac sT (aN.cons (aj (by simp only[dL,bh,bn,D]<;>rfl)) (aN.cons (aj (by simp only[dL,bh,bn,r]<;>rfl)) .nil)) ?_;rintro _ _ L ⟨rfl,f⟩;rw[f];clear f;repeat' simp(disch:=try exact om) only[gE,simprocAttr,a,d,N,r,D,Q,R,Name.v,ID.v]
  refine⟨k+1,⟨?_⟩,⟨av⟩⟩;exact⟨R,by(simp only[sE]);try exact ar (V.int .i64) av,by(simp only[sE]);exact P⟩
 .obtain rfl:k=l.length:=av;have ab:=yn y.E H j o;have ac:=yn y.E H p q;have b7:=VZ y.E H j o p q F (ai.mono P) (aA.mono P);repeat' first|simp only[gE,simprocAttr,a,d,N,r,D,Q]|refine cs ?_ ?_<;>intro h<;>try omega
  refine bm (h0:=y.E) sT ab sT (aN.cons (aj (by simp only[dL,bh,bn,r]<;>rfl)) .nil) ?_;rintro _ _ L ⟨rfl,f⟩;rw[f];clear f;repeat' simp only[gE,simprocAttr,a,d,N,r,D,Q]
  refine bm (h0:=y.E) sT ac sT (aN.cons (aj (by simp only[dL,bh,bn,D]<;>rfl)) .nil) ?_;rintro _ _ L ⟨rfl,f⟩;rw[f];clear f;repeat' simp only[gE,simprocAttr,a,d,N,r,D,Q]
  refine bm (h0:=y.E) sT b7 sT (aN.cons (aj (by simp only[dL,bh,bn,r]<;>rfl)) (aN.cons (aj (by simp only[dL,bh,bn,D]<;>rfl)) .nil)) ?_;rintro _ _ c6 ⟨rfl,ca⟩;repeat' simp only[gE,simprocAttr]
  exact⟨nE,_,_,bz sT rfl,rfl,P.ko ca⟩
def f8c:CF GL f8 [] [2,6,7,10] 8:=ji
def aaw(ca:af 20 [] (B true))(a:List Int)(e4:∀n∈a,jv n)(b c:Int)(hb:jv b)(e5:jv c):af 8 [fx a,I b,I c] (B true):=by
 refine Pure.gg (by simp only[du]) (by simp only[du]) ?_;obtain⟨g1,cb,R,g4,g5,g6,ho⟩:=O1 a;have e6:=VU a e4;generalize uP a=L at*
 have e7:=SM L b aJ.bare av hb;have c3:=A9 c L.length e5 av;have hx:=ql c L.length av;obtain⟨X,hX⟩:∃X:Nat,iU c L.length=X:=⟨(iU c L.length).toNat,av⟩;rw[hX]at c3 hx;have cc:=DX L b;have t:=GV L b;generalize qt L b L.length=T at*
 refine bq f8c.ok rfl ?_;repeat' first|refine k9 ?_|refine lq e6 ?_
 refine bm (h0:=aJ.bare) sT e7 sT ag ?_;rintro v _ ch ⟨a2,hq,hr⟩;have p:=a2.one;have f:=a2.fS;have ab:=a2.len;rw[aq,t]at ab;have hk:(1:Int)<L.length:=av;repeat' simp only[gE,simprocAttr,p,f,ab]
 refine ec (sJ (J:=λu=>u.Z 7=eI L/\u.Z 8=v/\gh 32 u.E v ((xE T X).map aV.v)) ?_ ?_)
 .obtain⟨H,⟨b3,ac⟩|⟨N,ci,rest,b3,dV,dZ,bi,P⟩⟩:=id a2
  .rw[kf]at ac;rw[ac]at t;simp at t;omega
  have bo:X<T.length:=av;have cp:0<T.length:=av;have ad:=iv H (i:=X) (by rw[aq];omega) rest;have ai:=iv H (i:=0) (by rw[aq];omega) rest;rw[dB]at ad ai;rw[aq,t]at b3 bi P;have c1:=dM H;rw[aq,t]at c1;have c2:=λ(i:Nat) h (x:V) (hx:jR 32 x=true)=>qK H (i:=i) h hx rest;obtain⟨M,fa⟩:∃M,b1 (T.map aV.v)=M:=⟨_,rfl⟩;rw[fa]at dZ ad ai c1 c2;have a3:X*32<=M.length+rest.length:=av;have a4:0<=M.length+rest.length:=av;obtain⟨z,ex,c5,fr⟩:=T[X].zX;obtain⟨K,c6,c7,fs⟩:=T[0].zX;rw[ex]at ad;rw[c6]at ai;simp only[V.cells,qx]at ad ai;have fB:∀r:List V,List.take 32 (z++r)=z:=λr=>l1 c5;have ty:∀r:List V,List.take 32 (K++r)=K:=λr=>l1 c7;have aA:(z.length==32&&z.all V.one)=true:=by rw[c5,fr];rfl
  have aB:(K.length==32&&K.all V.one)=true:=by rw[c7,fs];rfl
  repeat' first|simp(disch:=omega) only[gE,simprocAttr,p,f,ab,b3,dZ,ad,ai,a3,a4,fB,ty,aA,aB]|refine cs ?_ ?_<;>intro h<;>try omega|refine lq c3 ?_
  refine cC (n:=32) (off:=0) (cells:=M++rest) ?_ ?_ (by rw[ae];omega) λa5 te tc tl tb tm gb hs=>?_
  .exact sT
  .exact sT
  have br:a5.E.box=eR ch.box N (some (aO (M++rest) 0 z)):=tb.trans sT;have q1:=c2 0 (by rw[aq];omega) (.agg z) aA;rw[qx]at q1;rw[show aO (M++rest) 0 z=_ from q1]at br;have c9:a5.E.Y=ch.Y:=gb.trans sT;repeat' simp(disch:=omega) only[gE,simprocAttr,te,tc,tl]
  have bs:lG 32 ((T.map aV.v).set 0 (.agg z)):=H.set aA;have dd:=dM bs;rw[eT,aq,t]at dd;have aC:=qK bs (i:=X) (by rw[eT,aq];omega) (x:=.agg K) aB rest;have dg:((T.map aV.v).set 0 (.agg z)).set X (.agg K)=(xE T X).map aV.v:=by
   rw[<-ex,<-c6,<-kZ,<-kZ];unfold xE;rw[ap,ap,aa bo,aa cp];rfl
  rw[dg]at aC;have j:((xE T X).map aV.v).length=L.length:=by rw[aq,(swap_perm T X bo).length_eq,t]
  generalize b1 ((T.map aV.v).set 0 (.agg z))=aD at*
  refine cC (n:=32) (off:=X*32) (cells:=aD++rest) ?_ ?_ (by rw[ae];omega) λb5 ue gf ul ub ht un hu=>?_
  .simp only[da];rw[br,bl]
  .simp only[da,simprocAttr,bn,te,tc,tl];exact aB
  have bu:b5.E.box=eR a5.E.box N (some (aO (aD++rest) (X*32) K)):=ub.trans (by simp only[da,simprocAttr,bn,te,tc,tl]);have dp:b5.E.Y=a5.E.Y:=un.trans sT;simp only[V.cells]at aC;rw[aC]at bu;have ds:gh 32 b5.E (.ms 32 N 0 L.length ci) ((xE T X).map aV.v):=
   ⟨lG.map (λy=>rfl) _,.inr ⟨N,ci,rest,by rw[j],by rw[dp,c9];exact dV,by rw[bu,bl],by rw[j];exact bi,by rw[j];exact P⟩⟩
  repeat' simp only[gE,simprocAttr,te,tc,tl,ue,gf,ul]
  all_goals exact ds
 rintro u ⟨D,q,a0⟩;have bv:(xE T X).Perm L:=(swap_perm T X av).trans cc;have j:=bv.length_eq;generalize xE T X=S at*
 have Q:=Gx g1 bv;have a1:=Gx g1 (.refl L);have bU:S≠[]:=λe=>by rw[e]at j;simp at j;omega
 have F:=Ci (l:=L) av R g4;have dF:(kH L).eo=L:=by
  have h:=(sn R L.length (ao _)).eo;rw[uV];rwa [be]at h
 have p:=a0.one;have f:=a0.fS;have dU:w4 (eI L)=some (I L.length):=by simp only[eI,w4,aq]
 have gk:=Ff u.E (eI L) rfl rfl L dU (G1.sl u.E av) av (by rw[a1];exact R) (by rw[a1];exact cb);repeat' simp only[gE,simprocAttr,D,q,p,f]
 refine bm (h0:=u.E) sT gk sT (aN.cons (aj (by simp only[dL,bh,bn,D]<;>rfl)) .nil) ?_;rintro _ _ ea ⟨a6,a7,rfl,eb,a3⟩;rw[a1]at eb ⊢
 have b2:=a0.len;rw[aq,j]at b2;have ed:G1 v S u.E:=G1.ms bU av a0;have gn:=Ff ea v p f S (by rw[j];exact b2) (G1.ms bU av (bt.Vq a0 a3)) av (by rw[Q];exact R) (by rw[Q];exact cb);have d:((kH L).v a6 a7).one=true:=rfl;repeat' simp(disch:=try exact om) only[gE,simprocAttr,D,q,p,f,d]
 refine bm (h0:=ea) (by simp only[da,simprocAttr,bn]) gn (by simp only[bN,ce,da,simprocAttr,bh,bn,q,f];try rfl) (aN.cons (aj (by simp only[dL,simprocAttr,bh,bn,q]<;>rfl)) .nil) ?_;rintro _ _ el ⟨a8,a9,rfl,aD,a4⟩;rw[Q]at aD ⊢
 rw[j];have o:((kH L).v a8 a9).one=true:=rfl;have gp:qJ false ((kH L).v a6 a7) V.k1=some (.bool false):=rfl;have ha:qJ false ((kH L).v a8 a9) V.k1=some (.bool false):=rfl;have hc:=VV el (kH L) a6 a7 F.bW F.G7 (by have:=F.jx;omega);repeat' first|simp(disch:=try exact om) only[gE,simprocAttr,D,q,p,f,d,o,gp,ha]|refine gz ?_ ?_<;>intro hd h<;>(try simp only[hd])<;>try exact absurd trivial h
 refine bm (h0:=el) sT hc sT (aN.cons (aj (by simp only[dL,bh,bn,d]<;>rfl)) .nil) ?_;rintro _ _ et ⟨rfl,b6⟩;have hl:=yo F.bW F.G7 (kH L).jx.length (ao _);have hn:=F.jx;have he:=V1 et (kH L) a6 a7 a8 a9 (tD (kH L) (kH L).jx.length) av F (eb.mono ((a4.ko b6))) (aD.mono b6);repeat' simp only[gE,simprocAttr,D,q,p,f,d,o]
 refine bm (h0:=et) sT he sT (aN.cons (aj (by simp only[dL,bh,bn,d]<;>rfl)) (aN.cons (aj (by simp only[dL,bh,bn,o]<;>rfl)) (aN.cons (aj (by simp only[dL,bh,bn,d]<;>rfl)) .nil))) ?_;rintro _ _ eN ⟨rfl,hf⟩;have hg:=Iw eN (kH L) a8 a9 F.ev F.good;repeat' simp only[gE,simprocAttr,D,q,p,f,d,o]
 refine bm (h0:=eN) sT hg sT (aN.cons (aj (by simp only[dL,bh,bn,o]<;>rfl)) .nil) ?_;rintro w _ e1 ⟨q1,hh⟩;have b7:=Pb q1;have hi:=(((a3.ko a4).ko b6).ko hf).ko hh.but;have e2:=ed e1 hi;rw[Q]at e2;rw[dF]at q1;have e3:=NU L L av (λe hj=>(R e hj).ok);rw[db rfl]at e3;repeat' simp only[gE,simprocAttr,D,q,p,f,d,o,b7]
 refine bm (h0:=e1) (by simp only[da,simprocAttr,bn]) e2 (by simp only[bN,ce,da,simprocAttr,bh,bn,q,f];try rfl) (aN.cons (aj (by simp only[dL,simprocAttr,bh,bn,q]<;>rfl)) .nil) ?_;rintro _ _ hv ⟨rfl,hw⟩;repeat' simp only[gE,simprocAttr,D,q,p,f,d,o,b7]
 refine iR e3 (aN.cons (by(simp only[sE]);exact q1) (aN.cons (by(simp only[sE]);exact .refl _) .nil)) ?_;repeat' first|simp only[gE,simprocAttr,D,q,p,f,d,o,b7]|(refine iR ca ?_ ?_;·(repeat(exact aN.nil)))
 exact⟨nE,_,_,bz rfl rfl,rfl,by rfl⟩
def Kc.none(t:Int):Kc [] t:={Kc.nil with tlt:=λ_ h=>(by cases h),g6:=λ_ _ h=>(by cases h)}
def GX{e:aV}(h:e.good)(s:Int)(hb:0<=e.J/\e.J<=5)(j:e.C=[])(l:0<=s/\s<=60):aV.good {e with seq:=s}:=
 {
  h with
  enc:={h.enc with
   head:=by
    intro n d;simp only[bC,cI,gI]at d;rcases d with rfl|rfl|rfl|rfl
    .exact h.enc.head _ bR
    .unfold jv;omega
    .exact h.enc.head _ bR
    .exact h.enc.head _ bR}
  plain:=⟨h.plain.op,h.plain.dy,h.plain.id,h.plain.cU,h.plain.n,h.plain.pid⟩
  name:=db (by show 0<=e.J/\e.J<=5/\0<=s/\s<=63;omega)
  RY:=λa (f:a∈e.C)=>by rw[j]at f;cases f}
def pf(k:Nat):(zw.getD k iW).small:=by
 have a:=nD
 match k with
 |0=>exact a
 |1=>exact {a with kind:=dt,bW:=by decide}
 |2=>exact {a with kind:=dt,bW:=by decide}
 |3=>exact a
 |4=>exact {a with kind:=dt,W:=by unfold qf;decide,n:=by decide}
 |5=>exact {a with kind:=dt,W:=by unfold qf;decide}
 |6=>exact a
 |k+7=>exact a
def vp{o:Op}(a:o.small)(s t:Int)(d:0<=s/\s<=60)(f:1<=t/\t<=1000000):aV.good {oR 0 0 with seq:=s,ei:=t,op:=o}:=
 GX (Cc (Kc.none t) f bR (IA (b:=0) av a)) s (by show(0:Int)<=0/\(0:Int)<=5;omega) rfl d
def GY(s t:Int)(a:0<=s/\s<=60)(d:1<=t/\t<=1000000):aV.good {oR 0 1 with seq:=s,ei:=t}:=
 GX (Cc (Kc.none t) d bR (s8 (b:=0) av (.inr rfl))) s (by show(0:Int)<=0/\(0:Int)<=5;omega) rfl a
def Pc(k:Nat)(a:k<7):(Cj k).good:=by
 match k,a with
 |0,_=>exact vp (pf 0) 0 1 dt dt
 |1,_=>exact vp (pf 1) 1 2 dt dt
 |2,_=>exact vp (pf 2) 2 3 dt dt
 |3,_=>exact GY 3 4 dt dt
 |4,_=>exact vp (pf 4) 4 5 dt dt
 |5,_=>exact vp (pf 5) 5 6 dt dt
 |6,_=>exact GY 6 7 dt dt
def ex5:aV:={Cj 5 with op:={zw.getD 5 iW with W:=⟨0,2,0⟩}}
def pT:List aV:=Ck.set 5 ex5
def uX:List aV:=Ck.take 3++pT.drop 4
def LS:Op.small {zw.getD 5 iW with W:=⟨0,2,0⟩}:={pf 5 with W:=by unfold qf;decide}
def Pd:ex5.good:=vp LS 5 6 dt dt
def xF:∀e∈Ck,e.good:=λe a=>by
 obtain⟨k,d,rfl⟩:=cG.1 a;exact Pc k (dc.1 d)
def yp:∀e∈pT,e.good:=λe a=>by
 rcases cK a with h|rfl
 .exact xF e h
 .exact Pd
def LU:∀e∈uX,e.good:=λe a=>by
 rcases aR.1 a with h|h
 .exact xF e (eE h)
 .exact yp e (jH h)
def Cl:gl Ck=Ck:=by decide+kernel
def yq:gl pT=pT:=by decide+kernel
def D0:gl uX=uX:=by decide+kernel
def s9(l:List aV)(k:Nat):Prop:=gR (m4 (l.take k)) (l.getD k (oR 0 0)).name=none/\(l.getD k (oR 0 0)).seq=(gR (m5 (l.take k)) (l.getD k (oR 0 0)).J).getD 0/\
 (0< (gR (m5 (l.take k)) (l.getD k (oR 0 0)).J).getD 0->(gR (m6 (l.take k)) (l.getD k (oR 0 0)).J).getD 0< (l.getD k (oR 0 0)).ei)/\(l.getD k (oR 0 0)).C=[]
def ww{l:List aV}{k:Nat}(d:k<l.length)(h:s9 l k):qX (l.take k) l[k]:=by
 unfold s9 at h;rw[ap,aa d]at h;obtain⟨f,j,o,p⟩:=h;exact⟨f,j,o,λr a=>by rw[show l[k].C=[]from p]at a;cases a⟩
instance (l:List aV)(k:Nat):Decidable (s9 l k):=by unfold s9;infer_instance
def tf:Ck.length=7:=by decide+kernel
def uY:pT.length=7:=by decide+kernel
def xG:uX.length=6:=by decide+kernel
def II:s4 Ck:=λk h=>ww h ((by decide+kernel:∀k,k<7->s9 Ck k) k (tf▸h))
def GZ:s4 pT:=λk h=>ww h ((by decide+kernel:∀k,k<7->s9 pT k) k (uY▸h))
def SO(k:Nat)(h:k<uX.length)(a:k<3):qX (uX.take k) uX[k]:=ww h ((by decide+kernel:∀k,k<3->s9 uX k) k a)
def LV(rest:List V):aO (b1 (Ck.map aV.v)++rest) 166 [I 0,I 2,I 0]=b1 (pT.map aV.v)++rest:=by kernel_rfl
def IJ(rest:List V):aO (b1 (pT.map aV.v)++rest) 96 (((b1 (pT.map aV.v)++rest).drop 128).take 96)=b1 (uX.map aV.v)++(b1 ((pT.drop 6).map aV.v)++rest):=by kernel_rfl
def LW:(b1 (pT.map aV.v)).length=224:=by kernel_rfl
def IK:(b1 ((pT.drop 6).map aV.v)).length=32:=by kernel_rfl
def tg:3< (gl uX).length:=by decide+kernel
def Pe:gR (m4 ((gl uX).take 3)) ((gl uX)[3]'tg).name=none/\((gl uX)[3]'tg).seq≠(gR (m5 ((gl uX).take 3)) ((gl uX)[3]'tg).J).getD 0:=by decide+kernel
def LX:∀e∈Ck,e.op.cX.length<=16:=by decide+kernel
def IL:∀e∈pT,e.op.cX.length<=16:=by decide+kernel
def IM:(jN (po (kH Ck).next)).length=2:=by decide+kernel
def LY:uO (kH Ck) 0 1=[⟨⟨0,2,0⟩,⟨0,4,0⟩⟩]:=by decide+kernel
def LZ:gR (kH Ck).left ⟨0,2,0⟩=some ⟨0,4⟩:=by decide+kernel
def L0:gR (kH Ck).left ⟨0,4,1⟩=some ⟨0,5⟩:=by decide+kernel
def L1:gR (kH Ck).left ⟨0,4,0⟩=none:=by decide+kernel
def SP:(kH Ck).jx.length=2:=by decide+kernel
def Pf:(kH Ck).void=[]:=by decide+kernel
def L2:(kH pT).void=[⟨0,5⟩]:=by decide+kernel
end Go.Bx
namespace Go.Bx
open Go.Proofs Go.Proofs.Tryz
def Pg{P:Program}{GL:ak}{pu:Bool}{s:St}{K:St->Prop}{i:BI}{p:la}(h:bV P GL pu (.one true i p) s K):bV P GL pu (.alt i p .stop) s K:=⟨h,trivial⟩
def SQ{P:Program}{GL:ak}{d:Option Nat}{pu:Bool}{r:List BI}{K:St->Prop}{s:St}{zs cells:List V}{x y:eO}{h0:aJ}{xB cp c2:Nat}(a:s.E=h0)(hx:s.val x=.ms 32 xB 0 3 cp)(f:s.val y=.ms 32 xB 128 3 c2)
 (hb:h0.box xB=some cells) (l:224<=cells.length) (j:6<=cp) (h:gB P GL d pu r s K (.ms 32 xB 0 6 cp) false (h0.wr xB cells 96 ((cells.drop 128).take 96))):(MX.v1 32 zs x y).wp s (gB P GL d pu r s K):=by
 subst a;simp only[MX.wp,hx,f,nf,qs,bQ,aJ.cells,hb];rw[an dt,ax av];refine⟨dt,?_⟩;rw[an dt,ax j];exact⟨cells,hb,av,h⟩
attribute [local irreducible] vc er dr b4 bV run iD iY i1 i6 iQ i7 i2 iu iS i4 gB i3 cW
def abG:CF GL f20 [130] [1,2,5,6,7,8,9,10,13,14,17] 20:=ji
def V2:af 20 [] (B true):=by
 refine Pure.gg (by simp only[du]) (by simp only[du]) ?_;have bo:=VY aJ.bare;have F:(kH Ck).fit:=Ci (by rw[tf];decide) xF LX;have ch:(kH pT).fit:=Ci (by rw[uY];decide) yp IL;have br:=IM;have ci:=LY;have c1:=LZ;have c5:=L0;have ab:=L1;have bs:=SP;have c6:=Pf;have c7:=L2;refine bq abG.ok rfl ?_;repeat' simp only[gE,simprocAttr]
 refine bm (h0:=aJ.bare) sT bo sT .nil ?_;rintro v _ bu ⟨u,c9,_⟩;have aC:=u.one;have K:=u.fS;have bv:=u.len;rw[aq]at bv;have bU:=Ff bu v aC K Ck bv (G1.ms dt (by rw[tf];decide) u) (by rw[tf];decide) (by rw[Cl];exact xF) (by rw[Cl];exact II);repeat' simp only[gE,simprocAttr,aC,K]
 refine bm (h0:=bu) (by simp only[da,simprocAttr,bn]) bU (by simp only[bN,ce,da,simprocAttr,bh,bn,K];try rfl) (aN.cons (aj (by simp only[dL,simprocAttr,bh,bn,K]<;>rfl)) .nil) ?_;rintro _ _ b2 ⟨o,p,rfl,q,b3⟩;rw[Cl]at q ⊢
 rw[tf];generalize kH Ck=H at*
 have a:(H.v o p).one=true:=rfl;have dd:qJ false (H.v o p) V.k1=some (.bool false):=rfl;have aD:=Iz b2 H o p q F.G7 F.edp F.Ps 0 1 (by rw[bs];decide) dt;rw[ci]at aD;have f:=al aC (al K a);repeat' simp(disch:=try exact om) only[gE,simprocAttr,f,dd]
 refine bm (h0:=b2) sT aD sT (aN.cons (aj (by simp only[dL,bh,bn,a]<;>rfl)) (aN.cons (aj (by simp only[dL,bh,bn,a]<;>rfl)) (aN.cons (aj (by simp only[dL,bh,bn,a]<;>rfl)) .nil))) ?_;rintro _ _ b5 ⟨rfl,z⟩;have a0:=Iy b5 H o p (q.mono z) (by rw[Ch];have:=F.Ps;omega);generalize jN (po H.next)=D at br a0;repeat' simp(disch:=try exact om) only[gE,simprocAttr,f]
 refine bm (h0:=b5) sT a0 sT (aN.cons (aj (by simp only[dL,bh,bn,a]<;>rfl)) .nil) ?_;rintro _ _ j ⟨rfl,L⟩;have a1:=B8 j H o p (q.mono (z.ko L)) ⟨0,2,0⟩;have a2:=B8 j H o p (q.mono (z.ko L)) ⟨0,4,1⟩;have a3:=B8 j H o p (q.mono (z.ko L)) ⟨0,4,0⟩;rw[c1]at a1;rw[c5]at a2;rw[ab]at a3;repeat' simp only[gE,simprocAttr,f]
 refine bm (h0:=j) sT a1 sT (aN.cons (aj (by simp only[dL,bh,bn,a]<;>rfl)) (aN.cons (aj (by simp only[dL,bh,bn,a]<;>rfl)) .nil)) ?_;rintro _ _ N ⟨rfl,d⟩;rw[d];clear d;repeat' simp(disch:=try exact om) only[gE,simprocAttr,f,Name.v]
 refine bm (h0:=j) sT a2 sT (aN.cons (aj (by simp only[dL,bh,bn,a]<;>rfl)) (aN.cons (aj (by simp only[dL,bh,bn,a]<;>rfl)) .nil)) ?_;rintro _ _ N ⟨rfl,d⟩;rw[d];clear d;repeat' simp(disch:=try exact om) only[gE,simprocAttr,f,Name.v]
 refine bm (h0:=j) sT a3 sT (aN.cons (aj (by simp only[dL,bh,bn,a]<;>rfl)) (aN.cons (aj (by simp only[dL,bh,bn,a]<;>rfl)) .nil)) ?_;rintro _ _ N ⟨rfl,d⟩;rw[d];clear d;have a4:=yn j H o p;have a5:=Fc j H o p (by have:=F.void;omega);rw[bs]at a4;rw[c6]at a5;repeat' simp(disch:=try exact om) only[gE,simprocAttr,f,Name.v,cR.v,Option.getD,Option.isSome,br]
 refine bm (h0:=j) sT a4 sT (aN.cons (aj (by simp only[dL,bh,bn,a]<;>rfl)) .nil) ?_;rintro _ _ N ⟨rfl,d⟩;rw[d];clear d;repeat' simp only[gE,simprocAttr,f]
 refine bm (h0:=j) sT a5 sT (aN.cons (aj (by simp only[dL,bh,bn,a]<;>rfl)) .nil) ?_;rintro _ _ N ⟨rfl,d⟩;rw[d];clear d;have b6:=(b3.ko z).ko L;have b7:=bt.Vq u b6;obtain⟨ad,⟨r,a6⟩|⟨xB,cp,rest,r,dV,dZ,ai,t⟩⟩:=id b7
 .cases a6
 rw[aq,tf]at r ai t;have dg:=dM ad;rw[aq,tf]at dg;have dp:169<=(b1 (Ck.map aV.v)++rest).length:=by rw[ae];omega
 repeat' simp(disch:=omega) only[gE,simprocAttr,f,r]
 refine cC (n:=3) (off:=166) (cells:=b1 (Ck.map aV.v)++rest) ?_ ?_ dp λP te tc tl tb tm ds el=>?_
 .exact sT
 .exact sT
 have aA:P.E.box=eR j.box xB (some (b1 (pT.map aV.v)++rest)):=tb.trans (by simp only[sE,simprocAttr];rw[<-LV]);have ca:P.E.Y=j.Y:=ds.trans sT;have cb:gh 32 P.E (.ms 32 xB 0 7 cp) (pT.map aV.v):=⟨lG.map (λy=>rfl) _,.inr ⟨xB,cp,rest,rfl,by rw[ca];exact dV,by rw[aA,bl],ai,t⟩⟩;have dF:=Ff P.E (.ms 32 xB 0 7 cp) rfl rfl pT rfl (G1.ms dt (by rw[uY];decide) cb) (by rw[uY];decide) (by rw[yq];exact yp) (by rw[yq];exact GZ);repeat' simp only[gE,simprocAttr,f,r,te,tc,tl]
 refine bm (h0:=P.E) sT dF sT (aN.cons (aj (by simp only[dL,bh,bn,te,r]<;>rfl)) .nil) ?_;rintro _ _ ac ⟨a7,a8,rfl,dU,a9⟩;rw[yq]at dU ⊢
 rw[uY];generalize kH pT=bi at*
 have l:(bi.v a7 a8).one=true:=rfl;have ea:qJ false (bi.v a7 a8) V.k1=some (.bool false):=rfl;have m4:=bt.Vq cb a9;clear bo c9 u bU q b3 aD z a0 L a1 a2 a3 a4 a5 b6 b7 ad dZ;have ab:xB<ac.Y/\ac.box xB=some (b1 (pT.map aV.v)++rest):=⟨by have:=a9.Y;omega,by rw[a9.box xB av bR,aA,bl]⟩;repeat' simp(disch:=try exact om) only[gE,simprocAttr,f,r,l,te,tc,tl]
 refine Pg ?_;repeat' simp only[gE,simprocAttr,f,r,l,te,tc,tl]
 refine SQ (h0:=ac) (xB:=xB) (cp:=cp) (c2:=cp-4) (cells:=b1 (pT.map aV.v)++rest) ?_ ?_ ?_ ab.2 (by rw[ae,LW];omega) av ?_
 .exact sT
 .exact sT
 .simp only[sE];try rfl
 obtain⟨Q,R⟩:∃Q,ac.wr xB (b1 (pT.map aV.v)++rest) 96 (((b1 (pT.map aV.v)++rest).drop 128).take 96)=Q:=⟨_,rfl⟩;have m5:gh 32 Q (.ms 32 xB 0 6 cp) (uX.map aV.v):=by
  refine⟨lG.map (λy=>rfl) _,.inr ⟨xB,cp,b1 ((pT.drop 6).map aV.v)++rest,rfl,by rw[<-R];exact ab.1,?_,by rw[aq,xG];omega,?_⟩⟩
  .rw[<-R];simp only[aJ.wr,aJ.set,bl];rw[IJ]
  .rw[ae,aq,xG,IK];omega
 rw[R];have d10:=VW Q (.ms 32 xB 0 6 cp) rfl rfl uX rfl (G1.ms dt (by rw[xG];decide) m5) (by rw[xG];decide) 3 tg (by rw[D0];exact LU) (by rw[D0];exact λk h eb=>SO k h eb) Pe;repeat' simp only[gE,simprocAttr,f,l,te,tc,tl]
 refine Pg ?_;repeat' simp only[gE,simprocAttr,f,l,te,tc,tl]
 refine bm (h0:=Q) sT d10 sT (aN.cons (aj (by simp only[dL,bh,bn,te]<;>rfl)) .nil) ?_;rintro _ _ cc ⟨rfl,et⟩;have ed:qJ true V.k1 V.k1=some (.bool false):=rfl;have d11:=Fc cc bi a7 a8 (by have:=ch.void;omega);rw[c7]at d11;have aB:=HW [⟨0,5⟩] [⟨0,5⟩] dt;rw[db rfl]at aB;repeat' simp(disch:=try exact om) only[gE,simprocAttr,f,l,te,tc,tl,ea,ed]
 refine bm (h0:=cc) sT d11 sT (aN.cons (aj (by simp only[dL,bh,bn,te]<;>rfl)) .nil) ?_;rintro _ _ N ⟨rfl,d⟩;rw[d];clear d;repeat' first|simp only[gE,simprocAttr,f,l,te,tc,tl,Name.v]|refine lq aB ?_
 exact⟨nE,_,_,bz rfl rfl,rfl,by rfl⟩
def CL(a:List Int)(d:∀n∈a,jv n)(b c:Int)(hb:jv b)(f:jv c):af 8 [fx a,I b,I c] (B true):=aaw V2 a d b c hb f
end Go.Bx
namespace Go.Proofs.YtmbahmpbmcfifaaGreatDoor
theorem historyOrder_holds:Rows.HistoryOrderCardSaid:=Go.Bx.aa9 λa b c d hb f=>Go.Bx.CL a d b c hb f
end Go.Proofs.YtmbahmpbmcfifaaGreatDoor
#print axioms Go.Proofs.YtmbahmpbmcfifaaGreatDoor.historyOrder_holds
