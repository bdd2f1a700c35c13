/- Lemmas for HistoryBegins. -/
import Derived.Test.YtmbahmpbmcfifaaGreatDoorCs
import Derived.Test.YtmbahmpbmcfifaaGreatDoorCt
noncomputable section
set_option linter.all false
set_option maxHeartbeats 4000000
set_option maxRecDepth 100000
namespace Go.Bx
open Go.Proofs Go.Proofs.Tryz
attribute [local irreducible] vc er dq b4 bU run iw iI iW i1 iG i2 iX iq iH iZ gA iY cS
def aaG:CF GL f11 [23,41,57] [1,6,11] 11:=jo
def aaH(E:aK)(l:List aW)(u:V)(a:aK):Prop:=∃d f,u=.hJ [(k5 (gj l)).v d f,I l.length,I 0]/\(k5 (gj l)).maps a d f/\bA none E a
def KD(h:aK):aK:=(h.hN.hN.cO [.aP,.aP,.aP,.aP,.mp h.Y,.mp (h.Y+1)]).hN
def El(h:aK):aK:={(KD h)with box:=eQ (KD h).box (h.Y+2) (some ([.aP,.aP,.aP,.aP,.mp h.Y,.mp (h.Y+1)].set 2 (cf [])))}
def L9(h:aK):(KD h).box (h.Y+2)=some [.aP,.aP,.aP,.aP,.mp h.Y,.mp (h.Y+1)]:=bh _ _ _
def Pk{E h:aK}(hS:bA none E h):HQ E (El h) (h.Y+2) .aP .aP .aP h.Y (h.Y+1) [] rc (h.Y+3) []:=by
 have q:=hS.Y;have l:(El h).mp h.Y=some (.map []):=(bD _ _ (show h.Y≠h.Y+3 by omega)).trans ((bD _ _ (show h.Y≠h.Y+1 by omega)).trans (bh _ _ _));have o:(El h).mp (h.Y+1)=some (.map []):=(bD _ _ (show h.Y+1≠h.Y+3 by omega)).trans (bh _ _ _);have p:(El h).mp (h.Y+3)=some (.map []):=bh _ _ _;have a:(El h).Y=h.Y+4:=rfl;exact⟨bh _ _ _,gu.nil,gu.nil,gu.nil,l,trivial,o,p,by simp[mQ,gC,bI],λj f=>by
  simp[mQ,gC,bI]at f;subst f;rw[a];omega,⟨av,av,av⟩,by rw[a];omega,⟨
   λi d _=>((bD _ _ (show i≠h.Y+2 by omega)).trans (bD _ _ (show i≠h.Y+2 by omega))).trans (hS.box i d bT),λi d=>((bD _ _ (show i≠h.Y+3 by omega)).trans ((bD _ _ (show i≠h.Y+1 by omega)).trans (bD _ _ (show i≠h.Y by omega)))).trans (hS.mp i d),by rw[a];omega⟩⟩
def FD(E:aK)(ac:V)(o1:ac.one=true)(o2:ac.dY=false)(l:List aW)(hf:xj ac=some (I l.length))(bo:KA ac l E)(ai:l.length<20)(a9:∀e∈gj l,e.good)(aA:oz (gj l)):
 aI 11 [ac] E λu _ R=>aaH E l u R:=by
 have hlen:=s7 l;have dd:=O4 E ac o1 o2 l hf bo l.length (an _) (λk h _=>a9 _ (ah h)) ai (λk h _=>aA k h) (λh=>absurd h av);rw[show(if l.length<l.length then(10:Int)else 0)=0 from al (kv _)]at dd;refine eN hm aaG.ok (bE rfl) ?_;repeat' simp only[gE,simprocAttr,o1,o2]
 refine bz (h0:=E) (by simp only[da,simprocAttr]) dd (by simp only[bR,cm,sE,simprocAttr,o2]) ag ?_;rintro _ _ h1 ⟨rfl,df⟩;repeat' simp(disch:=try exact om) only[gE,simprocAttr,HX.act,o1,o2]
 have Q1:=Pk df;refine Ny (fz:=jH) (h0:=El h1) (jE.cell (h:=KD h1) (j:=2) (c:=.aP) (L9 h1) rfl (.aP _)) (bo _ Q1.same) (by simp only[bR,cm,sE,simprocAttr,o2]) (h9.cons (by(simp only[sE,simprocAttr]);exact .refl _) .nil) ?_;rintro _ _ hD ⟨rfl,dr⟩;have Q2:=Q1.more dr;obtain⟨B,b7⟩:∃B,h1.Y=B:=⟨_,rfl⟩;rw[b7]at Q2;have ca:=zB (gj l);generalize ds:gj l=L at*
 repeat' simp only[gE,simprocAttr,fP]
 refine dT rfl rfl (λ(k:Nat) t=>k<=L.length/\t.Z 28=I k/\HP E t.E (B+2) (pO L k).1 (B+3) (pO L k).2) (λk=>L.length-k) 0 ?_ ?_
 .exact⟨aL _,by simp only[sE,simprocAttr],by(simp only[sE,simprocAttr]);exact⟨_,_,_,_,_,_,Q2⟩⟩
 rintro k t ⟨g1,A,hg⟩ ad;have dE:t.Z 5=I l.length:=(ad 5 du).trans sT;have K:t.Z 7=.bp (B+2) 0:=by rw[ad 7 du];simp only[sE,simprocAttr,b7]
 have aB:t.Z 8=.mp (B+3):=by rw[ad 8 du];simp only[sE,simprocAttr,b7]
 have a26:t.Z 26=fP L:=(ad 26 du).trans sT;have a27:t.Z 27=I L.length:=(ad 27 du).trans sT;clear ad;obtain⟨ev,cb,ed,o,p,N,Q,p1,hh,hi⟩:=hg.one;have hx:=Q.box;have q:=vv a9 k g1;rcases am k L.length with P|P
 .have dU:=a9 _ (ah P);have z:=u1 P;have aC:(L.take k).length=k:=by rw[aG];omega
  have hj:=VM L[k] dU;obtain⟨⟨H,ts⟩,ea⟩:∃x,pO L k=x:=⟨_,rfl⟩;rw[ea]at q Q hx z;simp only at Q hx;have hk:H.fF.length=k:=by rw[show H.fF=L.take k from q.fF,aC]
  repeat' first|simp(disch:=try exact om) only[gE,simprocAttr,A,dE,K,aB,a26,a27,P,fP,hx,p1,hh,hi,aW.v]|refine cs ?_ ?_<;>intro h<;>try omega|refine lq hj ?_|refine ei ?_|refine e9 ?_ ?_
  generalize L[k]=e at*
  refine iR (xs:=H.fF.map aW.v) (ys:=[e.v]) ?_ ?_ ?_ ?_ ?_ rfl ?_ ?_ λcc R a hb hl=>?_
  .simp only[sE];exact Q.fe.frame (λ_ _=>rfl) (an _)
  .exact sT
  .intro y aD;simp at aD;subst aD;rfl
  .exact sT
  .simp only[sE];intro l ai;cases ai
  .exact PT
  .intro _ aA;cases aA
  have eb:=a.one;have hn:=a.gD;have bs:bA (bI ev) t.E R:=sR hb;have el:bI cc=bI ev\/bI cc=some t.E.Y:=sR hl;obtain⟨hw,ch⟩:=Q.bd (B+2) (dg.2 (.inl rfl));have hy:R.box (B+2)=some [ev,cb,cf H.bN.O,ed,.mp o,.mp p]:=(bs.box _ ch (λe=>Q.mem.1 _ e rfl)).trans hx;repeat' simp only[gE,simprocAttr,K,eb,hn]
  refine cJ (n:=1) (off:=0) (cells:=[ev,cb,cf H.bN.O,ed,.mp o,.mp p]) ?_ ?_ bT λci te tc tl tb tm ho hF=>?_
  .exact sT
  .simp only[sE];simp[jW,eb,a.kf]
  have bu:=tb.trans sT;simp only[a.kf,aQ,aw,ay]at bu;have et:=ho.trans sT;have eK:=tm.trans sT;have Q3:HQ E ci.E (B+2) cc cb ed o p N {H with fF:=H.fF++[e]} (B+3) ts:=Q.ZM bs a el (λi h=>a.BG h) bu eK et;obtain⟨e1,e2,e3⟩:=KC dU;have a0:=q.ts;have a1:=q.hL;rw[aC]at a0 a1;have hq:=V2 E ci.E (B+2) {H with fF:=H.fF++[e]} (B+3) ts ⟨_,_,_,_,_,_,Q3⟩ q.bN (k*1200000) (by have:=q.next;rwa [aC]at this) av (by simp only at a0;omega) q.nd (λx h=>aT (q.key x h) du) (by simp only at a1 ⊢;omega) e e1 e2 e3;have hr:=wz e;repeat' simp only[gE,simprocAttr,te,tc,tl,K,aB,aW.v]
  refine bz (h0:=ci.E) sT hq sT ag ?_;rintro _ _ e4 ⟨rfl,e5⟩;have a2:=vv a9 (k+1) P;rw[z]at a2;have cp:tA (H,ts) e=(if(J8 {H with fF:=H.fF++[e]} ts e).2.2=true then(J8 {H with fF:=H.fF++[e]} ts e).1 else {(J8 {H with fF:=H.fF++[e]} ts e).1 with void:=(J8 {H with fF:=H.fF++[e]} ts e).1.void++[e.name]},(J8 {H with fF:=H.fF++[e]} ts e).2.1):=rfl;rw[cp]at z a2;generalize J8 {H with fF:=H.fF++[e]} ts e=D at*
  obtain⟨c1,hz,r⟩:=D;cases r with
  |true=>
   repeat' simp(disch:=omega) only[gE,simprocAttr,te,tc,tl,K,aB,A]
   refine⟨k+1,⟨?_⟩,⟨av⟩⟩;rw[z];exact⟨P,by(simp only[sE,te,A]);exact aq (V.int .i64) av,by(simp only[sE]);exact e5⟩
  |false=>
   obtain⟨bv,ab,bY,a3,a4,hH,a5,e6,e7,fa⟩:=e5.one;have a6:=a5.box;have b2:=a2.void;simp only[bK,cH,ae,ew]at b2;have c2:(L.take (k+1)).length=k+1:=by rw[aG];omega
   rw[c2]at b2;simp only at a6;repeat' first|simp only[gE,simprocAttr,te,tc,tl,K,aB,a6,e6,e7,fa,A,aW.v]|refine lq hr ?_|refine e9 ?_ ?_
   refine iR (xs:=c1.void.map Name.v) (ys:=[e.name.v]) ?_ ?_ ?_ ?_ ?_ rfl ?_ ?_ λfr b3 f fs fB=>?_
   .simp only[sE];exact a5.fv.frame (λ_ _=>rfl) (an _)
   .exact sT
   .intro y aD;simp at aD;subst aD;rfl
   .exact sT
   .simp only[sE];intro l ai;cases ai
   .exact PT
   .intro _ aA;cases aA
   have b5:=f.one;have gb:=f.gD;have a7:bA (bI ab) e4 b3:=sR fs;have c5:bI fr=bI ab\/bI fr=some e4.Y:=sR fB;obtain⟨hs,bi⟩:=a5.bd (B+2) (dg.2 (.inl rfl));have ht:b3.box (B+2)=some [bv,ab,cf c1.bN.O,bY,.mp a3,.mp a4]:=(a7.box _ bi (λe=>(a5.mem.2.1 _ e).1 rfl)).trans a6;repeat' simp only[gE,simprocAttr,te,tc,tl,K,b5,gb]
   refine cJ (n:=1) (off:=1) (cells:=[bv,ab,cf c1.bN.O,bY,.mp a3,.mp a4]) ?_ ?_ bT λhK b6 gf gk gn gp ha hB=>?_
   .exact sT
   .simp only[sE];simp[jW,b5,f.kf]
   have a8:=gn.trans sT;simp only[f.kf,aQ,aw,ay]at a8;have c6:=ha.trans sT;have c7:=gp.trans sT;repeat' simp(disch:=omega) only[gE,simprocAttr,b6,gf,gk,te,tc,tl,A]
   refine⟨k+1,⟨?_⟩,⟨av⟩⟩;rw[z];exact⟨P,by(simp only[sE,b6,te,A]);exact aq (V.int .i64) av,by(simp only[sE]);exact⟨_,_,_,_,_,_,a5.ZN a7 f c5 (λi h=>f.BG h) a8 c7 c6⟩⟩
 .obtain rfl:k=L.length:=av;repeat' first|simp only[gE,simprocAttr,A,dE,K,aB,a26,a27]|refine cs ?_ ?_<;>intro h<;>try omega
  obtain⟨fz,hc,hu,hd,he,hv⟩:=Q.give;rw[<-ca]at hd he;refine⟨nE,_,_,fz,hc,.hJ [(k5 L).v o p,I l.length,I 0],false,xv rfl rfl rfl rfl rfl rfl,hu,.hJ _ _ rfl λj c d bl c9=>?_,λh=>(by cases h),o,p,by rw[ds],by rw[ds];exact he,hv⟩
  match j with
  |0=>cases bl;cases c9;exact hd
  |1=>cases bl;cases c9;exact .refl _
  |2=>cases bl;cases c9;exact .refl _
  |j+3=>cases bl
def Wf(E:aK)(a:V)(f:a.one=true)(d:a.dY=false)(l:List aW)(r:xj a=some (I l.length))(j:KA a l E)(t:l.length<20)(K:Nat)(A:K< (gj l).length)(y:∀e∈gj l,e.good)
 (z:∀k (h:k< (gj l).length),k<K->qN ((gj l).take k) (gj l)[k]) (hb:fN (m4 ((gj l).take K)) (gj l)[K].name=none/\(gj l)[K].seq≠(fN (m5 ((gj l).take K)) (gj l)[K].J).getD 0):
 aI 11 [a] E λu _ o=>u=.hJ [.lv,I K,I 10]/\bA none E o:=by
 have hlen:=s7 l;have p:=O4 E a f d l r j K av (λk h _=>y _ (ah h)) t z (λ_=>hb);rw[show(if K<l.length then(10:Int)else 0)=10 from ax av]at p;refine bq aaG.ok rfl ?_;repeat' simp only[gE,simprocAttr,f,d]
 refine bz (h0:=E) (by simp only[da,simprocAttr]) p (by simp only[bR,cm,sE,simprocAttr,d]) ag ?_;rintro _ _ D ⟨rfl,q⟩;repeat' simp(disch:=try exact om) only[gE,simprocAttr,HX.act,f,d]
 exact⟨nE,_,_,xv rfl rfl rfl rfl rfl rfl,rfl,q⟩
def IW(p:cI->Bool)(l:List cI)(x:cI):(pM l x).countP p<=l.countP p+if p x=true then 1 else 0:=by
 induction l with
 |nil=>simp[pM,p5,lj]
 |cons y r ih=>
  rw[yx]
  (repeat' split)<;>simp only[lj]at* <;>(repeat' split)<;>simp_all<;>omega
def Hf(p:cI->Bool)(l:List cI):(kF l).countP p<=l.countP p:=by
 unfold kF;have:∀(l a:List cI),(l.foldl pM a).countP p<=a.countP p+l.countP p:=by
  intro l;induction l with
  |nil=>simp
  |cons x r ih=>
   intro a;have d:=ih (pM a x);have f:=IW p a x;rw[dL,lj];omega
 have h:=this l []
 rwa [List.countP_nil,cA]at h
def CE(x:cI):Bool:=decide (x.from_≠x.to)
def Pl(n:List (ID×List ID))(a b:ID):(nM (ke n a ((fN n a).getD []++[b]))).length=(nM n).length+1:=by
 unfold nM;induction n with
 |nil=>simp[ke,fN]
 |cons x r ih=>
  unfold ke fN;split
  .simp;omega
  .simp only[ck,ae];omega
def Ma(L:List cI):∀n,(nM (L.foldl jO n)).length=(nM n).length+L.countP CE:=by
 induction L with
 |nil=>simp
 |cons x r ih=>
  intro n;rw[dL,ih,lj];unfold jO CE;by_cases h:x.from_=x.to
  .rw[ax h];simp[h]
  .rw[al h,Pl];simp[h];omega
def IX(w:cg)(g:List ID):(pF g (kr w)).countP CE=0:=by
 rw[List.countP_eq_zero];intro x hx;have a:x∈kr w:=(jt.1 hx).1;unfold kr at a;rw[qk,cB]at a;obtain⟨p,_,rfl⟩:=a;simp[CE]
def Pm(o:Op)(h:o.cW.length<=16):(p9 o).length<=16:=by
 unfold p9
 (repeat' split)<;>(try simp only[aM,aX])<;>omega
def Mb(w:cg)(o:Op)(b:Name)(h:o.cW.length<=16):(LL w o b).countP CE<=16:=by
 unfold LL;refine aT (Hf _ _) ?_;rw[List.countP_append,IX];have:=Pm o h;exact aT List.countP_le_length (by simpa using this)
def Mc{ts:List (T×gU)}(h:∀y∈ts,y.2.ok)(s:T):(uQ ts s).ok:=by
 unfold uQ;cases e:fN ts s with
 |none=>exact⟨bT,bT,bT,λx hx=>(by cases hx)⟩
 |some t=>exact h _ (Ca e)
structure zC(x:gm×List (T×gU))(p:List aW):Prop where
 Wg:(nM x.1.next).length<=16*p.length
 ts:x.2.length<=p.length
 abX:∀y∈x.2,y.2.ok
 edl:∀e∈x.1.hL,e.2.length<=p.length
 edt:∀e∈x.1.hL,∀t∈e.2,t.ok
def zC.step{x:gm×List (T×gU)}{p:List aW}(h:zC x p){e:aW}(d:e.ok)(f:e.op.cW.length<=16):zC (tA x e) (p++[e]):=by
 have key:∀(b:Bool)(H:gm)(ts:List (T×gU)),(nM H.next).length<=16*(p.length+1)->ts.length<=p.length+1->(∀y∈ts,y.2.ok)->(∀e∈H.hL,e.2.length<=p.length+1)->(∀e∈H.hL,∀t∈e.2,t.ok)->zC (if b=true then H else {H with void:=H.void++[e.name]},ts) (p++[e]):=by
  intro b H ts h1 h2 h3 h4 h5;cases b<;>exact⟨by simpa using h1,by simpa using h2,h3,by simpa using h4,h5⟩
 obtain⟨h1,h2,h3,h4,h5⟩:=h;unfold tA J8;simp only;split
 .unfold zo;simp only;split
  .refine key _ _ _ ?_ (eU h2) h3 (λy hy=>eU (h4 y hy)) h5;simp only[Ma];have:=Mb x.1.bN e.op e.name f;omega
  .exact Uk
 .split
  .split
   .exact Uk
   .refine key _ _ _ (by simp only;omega) (eU h2) h3 (λy hy=>?_) (λy hy=>?_)
    .rcases aN.1 hy with hy|hy
     .exact eU (h4 y hy)
     .obtain rfl:=aR.1 hy;simp only[D3,D2,au,iz];omega
    .rcases aN.1 hy with hy|hy
     .exact h5 y hy
     .obtain rfl:=aR.1 hy;intro t a;simp only[D3,cB]at a;obtain⟨s,_,rfl⟩:=a;exact Mc h3 s
  .split
   .refine key _ _ _ (by simp only;omega) (aT (G5 _ _ _) av) (λy hy=>?_) (λy hy=>eU (h4 y hy)) h5;rcases G6 hy with rfl|hy
    .exact d.2.2.1
    .exact h3 y hy
   .exact Uk
def zC.zero:zC (rc,[]) []:=⟨by simp[rc,nM],bT,λy h=>(by cases h),λy h=>(by cases h),λy h=>(by cases h)⟩
def Em{l:List aW}(a:∀e∈l,e.ok)(d:∀e∈l,e.op.cW.length<=16):∀k,k<=l.length->zC (pO l k) (l.take k)
 |0,_=>by simpa[pO]using zC.zero
 |k+1,h=>by
  rw[u1 (show k<l.length from h),br (show k<l.length from h)];exact(Em a d k av).step (a _ (ah _)) (d _ (ah _))
def Pn(n:List (ID×List ID)):Cy n (List.range n.length)=(nM n).length:=by
 have:∀k,k<=n.length->Cy n (List.range k)=(nM (n.take k)).length:=by
  intro k;induction k with
  |zero=>simp[Cy,nM]
  |succ k ih=>
   intro h;have a:k<n.length:=h;have e:Cy n (List.range (k+1))=Cy n (List.range k)+(rF n k).length:=by simp[Cy,dX]
   rw[e,ih av,br a];have d:(rF n k).length=n[k].2.length:=by unfold rF;rw[aa a];simp
   rw[d];simp only[nM,cx,ae,ck,je,cD]
 rw[this _ (an _),bg]
def Md{w:cg}(h:fu w=0):(dj w).length<=1024:=by
 unfold fu at h;split at h
 .cases h
 next a=>unfold lf at a;simp only[ib,cq,lS]at a;omega
def Me(l:List cI):(kF l).length<=l.length:=by
 have:=sb l l.length (an _);rwa [bg]at this
def zD(n:List (ID×List ID))(th:List ID):∀(l:List aJ)(o:List cI),(l.foldl (ki n th) o).length<=o.length+l.length*((nM n).length+1)
 |[],o=>bT
 |p::r,o=>by
  have a:=zD n th r (ki n th o p);have d:=Cq n th o p;rw[dL,aM,dG];omega
structure gm.fit(H:gm):Prop where
 bN:H.bN.ok
 hL:H.hL.length<=16
 Hs:∀e∈H.hL,e.1.ok
 edp:∀e∈H.hL,(dj e.1).length<=1024
 edl:∀e∈H.hL,e.2.length<=1000000
 edt:∀e∈H.hL,∀t∈e.2,t.ok
 Wg:(nM H.next).length<=900
 ev:H.fF.length<=1000000
 good:∀e∈H.fF,e.good
 void:H.void.length<=1000000
def gm.fit.Po{H:gm}(F:H.fit)(i k:Nat)(a:i<H.hL.length):(qQ H i k).length<=1000000000:=by
 unfold qQ;simp only;refine aT (Me _) (aT (zD _ _ _ _) ?_);rw[ap,aa a];have d:=F.edp _ (ah a);have f:=F.Wg;simp only[bf,aX,cA];exact aT (oP d (lr f)) du
def xS{l:List aW}(p:l.length<=16)(j:∀e∈l,e.good)(o:∀e∈l,e.op.cW.length<=16):(k5 l).fit:=by
 have d:=vv j l.length (an _);have f:=Em (λe a=>(j e a).ok) o l.length (an _);rw[zB];rw[bg]at d f;have:=d.void;have:=d.hL;have:=f.Wg;exact⟨d.bN,av,λe a=>(d.Hs e a).1,λe a=>Md (d.Hs e a).2,λe a=>by have:=f.edl e a;omega,f.edt,av,by rw[d.fF];omega,λe a=>j e (d.fF▸a),av⟩
end Go.Bx
namespace Go.Bx
open Go.Proofs Go.Proofs.Tryz
section
variable {P:Program}{GL:Nat->Option (List V)}{s:St}{K:St->Prop}{pu:Bool}
def SX{d:Option Nat}{sz:Nat}{zs xs ys:List V}{x y:eL}{r:List BI}(hx:gu (sz+1) s.E (s.val x) xs)(q:qo s.E (sz+1) (s.val y)=some (ys.length,b9 ys))(t:lG (sz+1) ys)(hz:zs.length=sz+1)
 (u:xs.length+ys.length<=1073741824) (z:s.val x=.aP->ys≠[])
 (h:∀v A,gu (sz+1) A v (xs++ys)->bA (bI (s.val x)) s.E A->(bI v=bI (s.val x)\/bI v=some s.E.Y)->er P GL pu r ((s.cu A).ret d v false) K):er P GL pu (⟨none,d,.mx (.wn (sz+1) zs x y)⟩::r) s K:=by
 rw[By.1];obtain⟨p,hx⟩:=hx;have N:=dV t;have j:=dV p;have H:∀n,(kn n zs).length=n*(sz+1):=by
  exact XW
 have new:∀{old:List V},old=b9 xs->∀f,xs.length+ys.length<=f->gA P GL d pu r s K (.ms (sz+1) s.E.Y 0 (xs.length+ys.length) f) false (s.E.cO (old++b9 ys++kn (f-(xs.length+ys.length)) zs)):=by
  rintro old rfl f l;refine h _ _ ⟨p.append t,.inr ⟨s.E.Y,f,kn (f-(xs.length+ys.length)) zs,bT,dn _,?_,by simpa using l,by simp[H]⟩⟩ ⟨λi L _=>?_,λi L=>rfl,fO _⟩ (.inr rfl)
  .simp[aK.cO,eQ,fU]
  .simp only[aK.cO];exact bD _ _ (ct L)
 rcases hx with⟨o,rfl⟩|⟨id,c,rest,o,dW,eh,Q,a⟩
 .simp only[MX.wp,o,na,q];refine⟨by simpa[iv]using u,?_⟩;by_cases hm:ys.length=0
  .have:ys=[]:=bH.1 hm;exact absurd this (z o)
  .rw[al hm,al av];refine⟨[],by simp[aK.cells],λf l=>?_⟩;have:=new (old:=[]) (by simp[b9]) f (by simpa using l);simpa using this
 .simp only[MX.wp,o,na,bP,q];refine⟨by simpa[iv]using u,?_⟩;by_cases hm:ys.length=0
  .have:ys=[]:=bH.1 hm;subst this;simp only[aX,bP];refine h _ _ ⟨by simpa using p,.inr ⟨id,c,rest,bT,dW,by simpa using eh,by simpa using Q,by simpa using a⟩⟩ ⟨λ_ _ _=>rfl,λ_ _=>rfl,an _⟩ (.inl (by rw[o]))
  .rw[al hm];split
   next D=>
    have ab:(c-xs.length)*(sz+1)=ys.length*(sz+1)+(c-(xs.length+ys.length))*(sz+1):=by
     rw[<-dJ];congr 1;omega
    refine⟨_,eh,by rw[ae,j,a,dJ];omega,?_⟩;refine h _ _ ⟨p.append t,.inr ⟨id,c,rest.drop (ys.length*(sz+1)),bT,dW,?_,by simpa using D,by simp[a];omega⟩⟩ ⟨λi L z=>?_,λi L=>rfl,an _⟩ (.inl (by rw[o];rfl))
    .simp only[aK.wr,aK.set,bh];rw[ic (by rw[ae,j,N,a];omega),cA,<-j,gN,N,<-dF,fX,fU]
    .simp only[aK.wr,aK.set];exact bD _ _ (λe=>z (by rw[o,e];rfl))
   next D=>
    refine⟨b9 xs,?_,λf l=>new rfl f l⟩;unfold aK.cells;split
    next R=>rw[R]at j;rw[bH.1 j]
    .rw[eh];simp only;rw[ax (by rw[ae];omega),cy,<-j,gN]
def KE{d:Option Nat}{sz:Nat}{zs xs ys:List V}{x y:eL}{r:List BI}(hx:gu (sz+1) s.E (s.val x) xs)(f:qo s.E (sz+1) (s.val y)=some (ys.length,b9 ys))(l:lG (sz+1) ys)(p:zs.length=sz+1)
 (j:xs.length+ys.length<=1073741824) (o:s.val x=.aP->ys≠[])
 (h:∀v a,gu (sz+1) a v (xs++ys)->bA (bI (s.val x)) s.E a->(bI v=bI (s.val x)\/bI v=some s.E.Y)->gA P GL d pu r s K v false a):(MX.wn (sz+1) zs x y).wp s (gA P GL d pu r s K):=by
 have:=SX (d:=d) (zs:=zs) hx f l p j o h
 rwa [By.1]at this
end
def gu.src{sz:Nat}{h:aK}{v:V}{xs:List V}(hm:gu sz h v xs):qo h sz v=some (xs.length,b9 xs):=by
 obtain⟨d,⟨rfl,rfl⟩|⟨id,c,rest,rfl,dW,hb,j,l⟩⟩:=hm
 .rfl
 .have a:=dV d;simp only[qo,bP,aK.cells,hb];split
  next f=>rw[f]at a;rw[bH.1 a];rfl
  .rw[ax (by rw[ae];omega),cy,<-a,gN];rfl
attribute [local irreducible] vc er dq b4 bU run iw iI iW i1 iG i2 iX iq iH iZ gA iY cS
def bA.WD{sz:Nat}{h a:aK}{v:V}{xs:List V}(hm:gu sz h v xs)(hS:bA none h a):gu sz a v xs:=hm.frame (λi d=>hS.box i (hm.BG d) bT) hS.Y
def SY(r:V)(l:List aW)(E:aK)(f:gu 32 E r (l.map aW.v))(o:l≠[])(ab:l.length<=1000000):aI 83 [r] E λv _ a=>gu 32 a v (l.map aW.v)/\bA none E a/\∀i,bI v=some i->E.Y<=i:=by
 have ac:=f.one;have ad:=f.gD;refine bq TV.ok rfl ?_;have p:=f;have D:0<l.length:=oI.2 o;obtain⟨ai,⟨rfl,t⟩|⟨R,c,rest,rfl,q1,aA,H,aB⟩⟩:=f
 .rw[lK]at t;exact absurd t o
 rw[au]at H p;obtain⟨c,rfl⟩:∃k,c=k+1:=⟨c-1,av⟩
 .repeat' simp only[gE,simprocAttr,HX.act]
  refine Ch (fA:=E) sT ?_;have aC:gu 32 (E.cO []) (.ms 32 E.Y 0 0 0) []:=⟨(by intro x hx;cases hx),.inr ⟨E.Y,0,[],rfl,dn _,by simp[aK.cO,eQ,b9],an _,rfl⟩⟩;have L:bA none E (E.cO []):=bA.add E [];repeat' simp only[gE,simprocAttr]
  refine KE (xs:=[]) (ys:=l.map aW.v) ?_ ?_ ?_ rfl ?_ ?_ λj a u hb d=>?_
  .exact sT
  .simp only[da];simpa only[au]using (bA.WD p L).src
  .exact lG.map (λy=>rfl) _
  .simp only[au,aX];omega
  .simp only[da];intro N;cases N
  have q:gu 32 a j (l.map aW.v):=by simpa using u
  have z:bI j=some E.Y\/bI j=some (E.Y+1):=by revert d;simp only[da,simprocAttr];exact id
  have A:bA none E a:=by
   revert hb
   simp only[da,simprocAttr];intro hb;have Q:=hb.Y;simp only[aK.cO]at Q;exact⟨λi d _=>by rw[hb.box i (by simp only[aK.cO];omega) (by simp[bI];omega)];simp only[aK.cO];exact bD _ _ (ct d),λi d=>by rw[hb.mp i (by simp only[aK.cO];omega)];rfl,av⟩
  repeat any_goals simp only[dt,simprocAttr,bx]
  refine⟨nE,j,_,bC rfl q.gD,q,A,λi d=>?_⟩;rcases z with h|h<;>rw[h]at d<;>simp at d<;>omega
def KA.of{j:V}{l:List aW}{E:aK}(L:l.length<20)(N:j.one=true)(z:j.dY=false)(h:∀o,bA none E o->aI 83 [j] o λv _ r=>gu 32 r v (l.map aW.v)/\bA none o r/\∀i,bI v=some i->o.Y<=i):KA j l E:=by
 intro y A;have Q:=h y A;refine eN hm abC.ok (bE rfl) ?_;repeat' simp only[gE,simprocAttr,N,z]
 refine bz (h0:=y) (by simp only[da,simprocAttr]) Q (by simp only[bR,cm,da,simprocAttr,bx,z];try rfl) ag ?_;rintro v _ t ⟨d,hb,p⟩;have D:=d.one;have q:=d.gD;have R:=VJ v l t d L;repeat' simp only[gE,simprocAttr,D,q]
 refine bz (h0:=t) (by simp only[da,simprocAttr,bQ]) R (by simp only[bR,cm,da,simprocAttr,bx,bQ,q];try rfl) ag ?_;rintro _ _ u ⟨H,f⟩;repeat' simp only[gE,simprocAttr,D,q]
 refine⟨nE,v,_,oC u (bI v).toList,u.less (bI v).toList,fP (gj l),false,bC sT q,l6 _ _,H.O6 λi p=>pg (by simp[p]),λh=>(by cases h),rfl,λi a _=>?_,λi a=>?_,aT hb.Y f.Y⟩
 .rw[qS (n:=y.Y) (λi h=>p i (by simpa using h)) i a,f.box i (bj a hb.Y) (λe=>by have:=p i e;omega)];exact hb.box i a bT
 .exact(f.mp i (bj a hb.Y)).trans (hb.mp i a)
def KA.sl{l:List aW}(E:aK)(a:l.length<20):KA (fP l) l E:=.of a rfl rfl λd _=>Ss l d av
def KA.ms{d:V}{l:List aW}{E:aK}(f:l≠[])(j:l.length<20)(a:gu 32 E d (l.map aW.v)):KA d l E:=.of j a.one a.gD λo hS=>SY d l o (bA.WD a hS) f av
def bA.o9{h f h2:aK}(a:bA none h f)(b:bA none f h2):bA none h h2:=
 ⟨λi d j=>(b.box i (bj d a.Y) j).trans (a.box i d j),λi d=>(b.mp i (bj d a.Y)).trans (a.mp i d),aT a.Y b.Y⟩
def bA.T0(h:aK):bA none h h:=⟨λ_ _ _=>rfl,λ_ _=>rfl,an _⟩
def gm.maps.mono{H:gm}{h j:aK}{d f:Nat}(a:H.maps h d f)(hS:bA none h j):H.maps j d f:=
 ⟨(hS.mp _ a.2.2.1).trans a.1,(hS.mp _ a.2.2.2).trans a.2.1,bj a.2.2.1 hS.Y,bj a.2.2.2 hS.Y⟩
def SZ(sz:Nat)(E h:aK)(v:V)(xs:List V):Prop:=bA none E h/\((gu sz h v xs/\∀i,bI v=some i->E.Y<=i)\/(v=.ms sz 0 0 0 0/\xs=[]))
def SZ.one{sz:Nat}{E h:aK}{v:V}{xs:List V}(d:SZ sz E h v xs):v.one=true:=by
 obtain⟨_,⟨a,_⟩|⟨rfl,_⟩⟩:=d
 .exact a.one
 .rfl
def SZ.gD{sz:Nat}{E h:aK}{v:V}{xs:List V}(d:SZ sz E h v xs):v.dY=false:=by
 obtain⟨_,⟨a,_⟩|⟨rfl,_⟩⟩:=d
 .exact a.gD
 .rfl
def aaI{sz:Nat}{h:aK}{zs ys:List V}{Q:V->Bool->aK->Prop}(l:lG (sz+1) ys)(hz:zs.length=sz+1)(f:ys.length<=1073741824)(h0:ys=[]->Q (.ms (sz+1) 0 0 0 0) false h)
 (q:∀v j,gu (sz+1) j v ys->bA none h j->bI v=some h.Y->Q v false j):A6 h (sz+1) zs 0 0 0 0 ys.length (b9 ys) Q:=by
 have a:∀n,(kn n zs).length=n*(sz+1):=by
  exact XW
 refine⟨by simpa[iv]using f,?_⟩;by_cases hm:ys.length=0
 .rw[ax hm];exact h0 (bH.1 hm)
 .rw[al hm,al av];refine⟨[],by simp[aK.cells],λo d=>?_⟩;rw[cA]at d ⊢
  refine q _ _ ⟨l,.inr ⟨h.Y,o,kn (o-ys.length) zs,rfl,dn _,?_,d,a _⟩⟩ ⟨λi p _=>?_,λi p=>rfl,fO _⟩ rfl
  .simp[aK.cO,eQ]
  .simp only[aK.cO];exact bD _ _ (ct p)
section
variable {P:Program}{GL:Nat->Option (List V)}{s:St}{K:St->Prop}{pu:Bool}
def S0{d:Option Nat}{sz:Nat}{zs xs ys:List V}{x y:eL}{r:List BI}{E h0:aK}{vx vy:V}(H:s.E=h0)(u:s.val x=vx)(z:s.val y=vy)(hx:SZ (sz+1) E h0 vx xs)(j:qo h0 (sz+1) vy=some (ys.length,b9 ys))(o:lG (sz+1) ys)(t:zs.length=sz+1)
 (p:xs.length+ys.length<=1073741824) (h:∀v l,SZ (sz+1) E l v (xs++ys)->gA P GL d pu r s K v false l):(MX.wn (sz+1) zs x y).wp s (gA P GL d pu r s K):=by
 subst H u z;obtain⟨hS,⟨hm,A⟩|⟨L,rfl⟩⟩:=hx
 .by_cases q:s.val x=.aP/\ys=[]
  .obtain⟨q,rfl⟩:=q;have D:xs=[]:=by
    obtain⟨_,⟨_,e⟩|⟨id,c,rest,e,_⟩⟩:=hm
    .exact e
    .rw[q]at e;cases e
   subst D;simp only[MX.wp,q,na,j];exact aaI o t bT (λ_=>h _ _ ⟨hS,.inr ⟨rfl,rfl⟩⟩) (λv N a b c=>h _ _ ⟨hS.o9 b,.inl ⟨a,λi f=>by rw[c]at f;have:=ar f;have:=hS.Y;omega⟩⟩)
  .refine KE hm j o t p (λe R=>q ⟨e,R⟩) λv l a b c=>h v l ⟨⟨λi f _=>?_,λi f=>?_,?_⟩,.inl ⟨a,λi f=>?_⟩⟩
   .rw[b.box i (bj f hS.Y) (λe=>by have:=A i e;omega)];exact hS.box i f bT
   .rw[b.mp i (bj f hS.Y)];exact hS.mp i f
   .exact aT hS.Y b.Y
   .rcases c with c|c
    .exact A i (c▸f)
    .rw[c]at f;have:=ar f;have:=hS.Y;omega
 .simp only[MX.wp,L,na,j,bP];have:=aaI (h:=s.E) (Q:=gA P GL d pu r s K) o t (by simpa using p) (λe=>h _ _ ⟨hS,.inr ⟨rfl,by rw[e];rfl⟩⟩) (λv N a b c=>h _ _ ⟨hS.o9 b,.inl ⟨a,λi f=>by rw[c]at f;have:=ar f;have:=hS.Y;omega⟩⟩);exact this
end
def SZ.fz{sz:Nat}{E h:aK}{v:V}{xs:List V}(f:SZ sz E h v xs):∃fz d,jE fz h d/\V.lF fz v (.sl sz xs)/\bA none E d:=by
 obtain⟨hS,⟨m,j⟩|⟨rfl,rfl⟩⟩:=f
 .refine⟨oC h (bI v).toList,h.less (bI v).toList,l6 _ _,m.O6 λi l=>pg (by simp[l]),λi a _=>?_,λi a=>?_,hS.Y⟩
  .rw[qS (n:=E.Y) (λi h=>j i (by simpa using h)) i a];exact hS.box i a bT
  .exact hS.mp i a
 .exact⟨jH,h,.refl h,.FJ sz 0 0,hS⟩
def S1(w:cg)(R:w.ok)(E:aK):aI 41 [w.v] E λv _ d=>gu 7 d v ((dj w).map aJ.v)/\bA none E d/\∀i,bI v=some i->E.Y<=i:=by
 have ac:=s1 w R;rw[qP]at ac;have hS:=uS w.O 0;have ad:=yC R;have hlen:=aq List.length hS;rw[au]at hlen;have hle:=R.2.2;have hlen:(tJ w.O 0).length=(dj w).length:=hlen;replace hS:List.map (·.2) (tJ w.O 0)=dj w:=hS;generalize tJ w.O 0=L at*
 generalize dj w=A at*
 have a9:=Fh w;refine bq ZX.ok rfl ?_;repeat' first|simp only[gE,simprocAttr,HX.act]|refine lq a9 ?_
 refine y4 (f:=123) (cap:=[.ep [cf w.O]]) (items:=L.map GN) (λj h=>bA none E h/\E.Y<h.Y/\∃v,h.box E.Y=some [v]/\gu 7 h v ((A.take j).map aJ.v)/\∀i,bI v=some i->E.Y<i) ?_ yB ac ?_ rfl rfl ?_ ?_ ?_ ?_
 .exact sT
 .exact Hx
 .simp only[da,simprocAttr];exact⟨bA.add E [.aP],.aP,rfl,gu.nil,λi a=>by cases a⟩
 .rintro j h it ⟨g1,ai,v,D,q,r⟩ H;rw[bw]at H;obtain⟨x,hx,rfl⟩:=bS.1 H;obtain⟨b5,bY⟩:=aH.1 hx;have aA:A[j]?=some x.2:=by rw[<-hS,bw,hx];rfl
  obtain⟨N,t⟩:=aH.1 aA;obtain⟨⟨b6,b7,ca⟩,p⟩:=x;simp only at t;have aB:=ad p (t▸ah N);have bi:=Fc p aB;have bl:=q.one;unfold GN;repeat' first|simp only[gE,simprocAttr,cR,D]|refine lq bi ?_|refine e9 ?_ ?_
  all_goals
   refine iR (xs:=(A.take j).map aJ.v) (ys:=[p.v]) ?_ ?_ ?_ ?_ ?_ rfl ?_ ?_ λu d z hb a=>?_
   .exact sT
   .exact sT
   .intro y aC;simp at aC;subst aC;rfl
   .exact sT
   .simp only[da];intro l bo;cases bo
   .exact PQ
   .intro _ bs;cases bs
   have bu:=z.one;have aD:=z.kf;have o:bA (bI v) h d:=sR hb;have a0:bI u=bI v\/bI u=some h.Y:=sR a;have a1:d.box E.Y=some [v]:=by
    rw[o.box _ ai (λe=>by have:=r _ e;omega)];exact D
   have b2:=o.Y
  all_goals repeat' simp only[gE,simprocAttr,cR]
  all_goals
   refine cJ (n:=1) (cells:=[v]) ?_ ?_ bT λab a2 a3 a4 a5 a6 a7 b3=>?_
   .simp only[sE,simprocAttr];exact a1
   .simp only[sE];simp only[jW,aD];simp[bu]
   have tb:ab.E.box=eQ d.box E.Y (some [u]):=by rw[a5];simp only[sE];rw[aD];rfl
   have cb:ab.E.Y=d.Y:=a7.trans sT;have tm:ab.E.mp=d.mp:=a6.trans sT;have Q:∀i,bI u=some i->E.Y<i:=λi a=>by
    rcases a0 with e|e
    .exact r i (e▸a)
    .rw[e]at a;have:=ar a;omega
  all_goals repeat' simp only[gE,simprocAttr,cR,a2,a3,a4]
  all_goals
   refine⟨⟨λi a _=>?_,λi a=>?_,by have:=g1.Y;omega⟩,av,u,by rw[tb,bh],?_,Q⟩
   .rw[tb,bD _ _ (ct a),o.box i av (λe=>by have:=r _ e;omega)];exact g1.box i a bT
   .rw[tm,o.mp i av];exact g1.mp i a
   .rw[br N,t,az];refine gu.frame z (λi a8=>?_) av;rw[tb,bD];rintro rfl;have:=Q _ a8;omega
 .exact kM
 .rintro h ⟨g1,ai,v,D,q,r⟩;have bl:=q.one;repeat' simp only[gE,simprocAttr,cR,D]
  have bv:(L.map GN).length=A.length:=by rw[au,hlen]
  rw[bv,bg]at q;exact⟨nE,v,_,bC sT q.gD,q,g1,λi a=>kY (r i a)⟩
def abQ:CF GL f29 [29,30] [1,3,5] 29:=jo
def tE(H:gm)(k:Nat):List aJ:=dj H.bN++(H.hL.take k).flatMap λe=>dj e.1
def CG{H:gm}{k:Nat}(h:k<H.hL.length):tE H (k+1)=tE H k++dj H.hL[k].1:=by
 unfold tE;rw[iu h,cx,aF];simp
def yI{H:gm}(a:H.bN.ok)(d:∀e∈H.hL,e.1.ok):∀k,k<=H.hL.length->(tE H k).length<=1000000*(k+1)
 |0,_=>by have:=a.2.2;simp[tE];omega
 |k+1,h=>by
  have f:=yI a d k av;have j:=(d _ (ah (show k<H.hL.length from h))).2.2;rw[CG (show k<H.hL.length from h),ae];omega
def Wh(E:aK)(H:gm)(a d:Nat)(L:H.bN.ok)(z:∀e∈H.hL,e.1.ok)(bi:H.hL.length<=17):
 aI 29 [H.v a d] E λu _ D=>u=dA (tE H H.hL.length)/\bA none E D:=by
 have aA:=V3 E H a d L;have aB:=S1 H.bN L E;refine eN hm abQ.ok (bE rfl) ?_;have f:(H.v a d).one=true:=rfl;repeat' simp only[gE,simprocAttr,f]
 refine bz (h0:=E) sT aA sT ag ?_;rintro _ _ R ⟨rfl,j⟩;rw[j];clear j;repeat' simp only[gE,simprocAttr,f]
 refine bz (h0:=E) sT aB sT ag ?_;rintro v _ bl ⟨N,aC,aD⟩;have a0:=N.one;have a1:=N.gD;repeat' simp only[gE,simprocAttr,a0,a1]
 refine dT rfl rfl (λ(k:Nat) y=>k<=H.hL.length/\y.Z 4=I k/\SZ 7 E y.E (y.Z 3) ((tE H k).map aJ.v)) (λk=>H.hL.length-k) 0 ?_ ?_
 .refine⟨aL _,by simp only[sE,simprocAttr],?_⟩;simp only[sE];rw[show tE H 0=dj H.bN by simp[tE]];exact⟨aC,.inl ⟨N,aD⟩⟩
 rintro k y ⟨a2,l,q⟩ ab;have o:y.Z 0=H.v a d:=(ab 0 du).trans sT;clear ab;obtain⟨ac,A⟩:∃v,y.Z 3=v:=⟨_,rfl⟩;rw[A]at q;have Q:=q.one;have ad:=q.gD;have c4:=yH y.E H a d;repeat' simp only[gE,simprocAttr,l,o,f]
 refine bz (h0:=y.E) sT c4 sT (aV.cons (ak (by simp only[ee,bx,o]<;>rfl)) .nil) ?_;rintro _ _ R ⟨rfl,j⟩;rw[j];clear j;rcases am k H.hL.length with r|r
 .have ai:=IR y.E H a d k z;rw[tZ ⟨av,av⟩]at ai;have a3:=Cg H.hL[k].1 (z _ (ah r));have bo:=yI L z k a2;have a9:=(z _ (ah r)).2.2;repeat any_goals first|simp only[gE,simprocAttr,l,o,A,Q,f]|(first|refine cz ?_ ?_|refine gz ?_ ?_)<;>intro t h<;>(try simp only[t])<;>try omega
  refine bz (h0:=y.E) (by simp only[da,simprocAttr,bQ]) ai (by simp only[bR,cm,da,simprocAttr,bx,bQ,o,l];rfl) (aV.cons (ak (by simp only[ee,simprocAttr,bx,o]<;>rfl)) (aV.cons (ak (by simp only[ee,simprocAttr,bx,l]<;>rfl)) .nil)) ?_;rintro _ _ R ⟨rfl,j⟩;rw[j];clear j;repeat' first|simp(disch:=try exact om) only[gE,simprocAttr,l,o,A,Q,f,cg.v]|refine lq a3 ?_
  refine S0 (E:=E) (h0:=y.E) (vx:=ac) (vy:=dA (dj H.hL[k].1)) (xs:=(tE H k).map aJ.v) (ys:=(dj H.hL[k].1).map aJ.v) ?_ ?_ ?_ q ?_ ?_ rfl ?_ λbs D p=>?_
  .exact sT
  .exact sT
  .exact sT
  .simp only[dA,qo,bP];rfl
  .exact lG.map (λy=>rfl) _
  .simp only[au];omega
  rw[<-az,<-CG r]at p;have a4:=p.one;have a5:=p.gD;repeat' simp(disch:=omega) only[gE,simprocAttr,l,a4,a5]
  refine⟨k+1,⟨?_⟩,⟨av⟩⟩;exact⟨r,by(simp only[sE]);try exact aq (V.int .i64) av,by(simp only[sE]);exact p⟩
 .obtain rfl:k=H.hL.length:=av;repeat any_goals first|simp only[gE,simprocAttr,l,o,A,Q,ad,f]|refine gz ?_ ?_<;>intro t h<;>(try simp only[t])<;>try omega
  obtain⟨fz,t,a6,a7,a8⟩:=q.fz;exact⟨nE,ac,_,fz,t,dA (tE H H.hL.length),false,bC (by simp only[da,simprocAttr,bQ]) ad,a6,a7,λh=>(by cases h),rfl,a8⟩
def aaJ:CF GL f73 [5,7] [] 73:=jo
def S2(l:List gU)(E:aK)(j:l.length<=1000000):aI 73 [oi l] E λv _ a=>gu 5 a v (l.map gU.v)/\bA none E a/\∀i,bI v=some i->E.Y<=i:=by
 refine bq aaJ.ok rfl ?_;repeat' first|refine k7 ?_|(refine tR (by simp only[pY]<;>rfl) (by simp only[da]<;>rfl) ?_ (λh=>?_))
 .refine Ch (fA:=E) sT ?_;have u:gu 5 (E.cO []) (.ms 5 E.Y 0 0 0) []:=⟨(by intro x hx;cases hx),.inr ⟨E.Y,0,[],rfl,dn _,by simp[aK.cO,eQ,b9],an _,rfl⟩⟩;repeat' simp only[gE,simprocAttr]
  refine iR (xs:=[]) (ys:=l.map gU.v) ?_ ?_ ?_ ?_ ?_ rfl ?_ ?_ λd a o hb hi=>?_
  .exact sT
  .exact sT
  .exact lG.map (λy=>rfl) _
  .exact sT
  .simp only[da];intro l j;cases j
  .simp only[au,aX];omega
  .simp only[da];intro r;cases r
  have f:gu 5 a d (l.map gU.v):=by simpa using o
  have p:bI d=some E.Y\/bI d=some (E.Y+1):=by revert hi;simp only[da,simprocAttr];exact id
  have q:bA none E a:=by
   revert hb
   simp only[da,simprocAttr];intro hb;have t:=hb.Y;simp only[aK.cO]at t;exact⟨λi hi _=>by rw[hb.box i (by simp only[aK.cO];omega) (by simp[bI];omega)];simp only[aK.cO];exact bD _ _ (ct hi),λi hi=>by rw[hb.mp i (by simp only[aK.cO];omega)];rfl,av⟩
  repeat any_goals simp only[dt,simprocAttr,bx]
  refine⟨nE,d,_,bC rfl f.gD,f,q,λi hi=>?_⟩;rcases p with h|h<;>rw[h]at hi<;>simp at hi<;>omega
 .exact Ue
def Pp{cells r:List V}{o:Nat}{x:V}(h:cells.drop o=x::r):aQ cells o [x]=cells:=by
 have a:cells[o]?=some x:=by rw[<-List.head?_drop,h];rfl
 obtain⟨d,rfl⟩:=aH.1 a;exact iA d
def Pq{α:Type}{f:Nat->α}{i:Nat}{v:α}(h:f i=v):eQ f i v=f:=by
 funext j;unfold eQ;split
 next e=>rw[e,h]
 .rfl
def abR:CF GL f21 [37] [1,3] 21:=jo
def Pr(E:aK)(H:gm)(D K:Nat)(k:Nat)(o:k<H.hL.length)(ab:∀e∈H.hL,e.2.length<=1000000)(hb:∀e∈H.hL,∀t∈e.2,t.eH.length<=1000000):
 aI 21 [H.v D K,I k] E λu _ ac=>u=.hJ [oi H.hL[k].2,I 0]/\bA none E ac:=by
 have ad:=FB E H D K k;rw[dk (show 0<=(k:Int)/\(k:Int)<H.hL.length by omega)]at ad;have bi:=S2 H.hL[k].2 E (ab _ (ah o));have b3:=ab _ (ah o);have ai:=hb _ (ah o);refine eN hm abR.ok (bE rfl) ?_;repeat' simp only[gE,simprocAttr]
 refine bz (h0:=E) sT ad sT ag ?_;rintro _ _ b5 ⟨rfl,aA⟩;rw[aA];clear aA;repeat' simp(disch:=try exact om) only[gE,simprocAttr,gm.v,C9,Mu,o]
 refine bz (h0:=E) sT bi sT ag ?_;rintro v _ p ⟨l,hS,N⟩;have aB:=l.one;have P:=l.gD;have aC:=l.len;rw[au]at aC;generalize H.hL[k].2=L at*
 repeat' simp only[gE,simprocAttr,aB,P,aC]
 refine dT rfl rfl (λ(j:Nat) t=>j<=L.length/\t.Z 24=I j/\t.E.box=p.box/\t.E.mp=p.mp/\t.E.Y=p.Y) (λj=>L.length-j) 0 ?_ ?_
 .exact⟨aL _,by simp only[sE,simprocAttr],by(simp only[sE,simprocAttr]),by(simp only[sE,simprocAttr]),by(simp only[sE,simprocAttr])⟩
 rintro j t ⟨g1,r,y,g4,g5⟩ z;have aD:t.Z 6=v:=(z 6 du).trans sT;have a22:t.Z 22=v:=(z 22 du).trans sT;have a23:t.Z 23=I L.length:=(z 23 du).trans sT;clear z;rcases am j L.length with f|f
 .obtain⟨a0,⟨_,h0⟩|⟨id,c,rest,a1,q1,bl,bo,b6⟩⟩:=l
  .rw[lK]at h0;subst h0;exact absurd f (gQ _)
  subst a1;have A:=i7 a0 (i:=j) (by simpa using f) rest;rw[dK]at A;have a2:=dV a0;rw[au]at a2;have Q:t.E.box id=some (b9 (L.map gU.v)++rest):=(nF y id).trans bl;have c3:=Vr L[j].eH (aT (ai _ (ah f)) du);rw[au]at bo;have bs:(b9 (L.map gU.v)++rest).length=L.length*5+rest.length:=by rw[ae,a2]
  obtain⟨cells,a3⟩:∃cs,b9 (L.map gU.v)++rest=cs:=⟨_,rfl⟩;rw[a3]at A Q bs;have a4:List.take 5 (List.drop (j*5) cells)=L[j].v.cells:=by rw[A];rfl
  simp only[gU.v,V.cells]at a4;have bu:j*5+5<=cells.length:=av;repeat' first|simp(disch:=try exact om) only[gE,simprocAttr,r,aD,a22,a23,f,Q,a4,bu,au]|refine cs ?_ ?_<;>intro h<;>try omega|refine lq c3 ?_
  refine cJ (n:=1) (off:=j*5+4) (cells:=cells) ?_ ?_ av λbv te tc tl tb tm bY b7=>?_
  .exact sT
  .exact sT
  have b2:cells.drop (j*5+4)=eZ L[j].eH::(b9 (List.drop (j+1) (L.map gU.v))++rest):=by
   rw[<-dF,A];rfl
  have a5:bv.E.box=p.box:=tb.trans (by
   (simp only[da])
   show eQ t.E.box id (some (aQ cells (j*5+4) [eZ L[j].eH]))=_;rw[Pp b2,Pq Q];exact y)
  have a6:=bY.trans sT;have a7:=tm.trans sT;repeat' simp(disch:=omega) only[gE,simprocAttr,te,tc,tl,r]
  refine⟨j+1,⟨?_⟩,⟨av⟩⟩;exact⟨f,by(simp only[da,te,r]);exact aq (V.int .i64) av,by(simp only[da]);exact a5,by(simp only[da]);exact a7,by(simp only[da]);exact a6⟩
 .obtain rfl:j=L.length:=av;repeat' first|simp only[gE,simprocAttr,r,aD,a22,a23,aB,P]|refine cs ?_ ?_<;>intro h<;>try omega
  have a8:gu 5 t.E v (L.map gU.v):=l.frame (λi _=>by rw[y]) (c0 g5.symm);refine⟨nE,_,_,oC t.E (bI v).toList,t.E.less (bI v).toList,.hJ [oi L,I 0],false,uM rfl rfl P rfl,l6 _ _,.hJ _ _ rfl λq c d R a9=>?_,λh=>(by cases h),rfl,λi a _=>?_,λi a=>(nF g4 i).trans (hS.mp i a),aT hS.Y (c0 g5.symm)⟩
  .match q with
   |0=>cases R;cases a9;exact a8.O6 λi N=>pg (by simp[N])
   |1=>cases R;cases a9;exact .refl _
   |q+2=>cases R
  .exact(qS (n:=E.Y) (λi h=>N i (by simpa using h)) i a).trans ((nF y i).trans (hS.box i a bT))
def ID.nm(a:ID):Name:=⟨a.J,a.seq⟩
def Ps{w:cg}{o:Op}{b:Name}(h:(qj w o b).2=0){x:Int×Int}(hx:x∈p9 o):∃p∈dj w,p.id=o8 w (jm (ef o.W 0 w.O)) x.1:=by
 obtain⟨_,_,d⟩:=Ku h;have A:o.kind=4\/o.kind=5\/o.kind=8:=by
  unfold p9 at hx;split at hx
  .omega
  .split at hx
   .omega
   .split at hx
    .omega
    .cases hx
 unfold Et mr at d;rw[ax (by omega)]at d;split at d
 .cases d
 next v a i l=>
  obtain⟨g1,f,L,g4⟩:=jT l;have key:∀j:Int,0<=j->(i:Int)+j<w.O[v].O[a].O.length->∃p∈dj w,p.id=o8 w (jm (some (v,a,i))) j:=by
   intro j N r;have e:((i:Int)+j).toNat=i+j.toNat:=by omega
   have t:i+j.toNat<w.O[v].O[a].O.length:=by omega
   refine⟨w.O[v].O[a].O[i+j.toNat],mw.2 ⟨_,ah g1,_,ah f,ah _⟩,?_⟩;unfold o8 C1;rw[al (by simp only[jm];omega)];simp only[jm,bX,e,aa g1,aa f,aa t,bf]
  rw[l];rcases A with D|u|y
  .have:x.1=0:=by
    unfold p9 at hx;rw[ax D]at hx;simp at hx;rcases hx with rfl|rfl<;>rfl
   rw[this];exact key 0 (by omega) (by omega)
  .rw[al (by omega),al (by omega),al (by omega),ax u]at d;unfold zd at d;simp only at d;split at d
   next p q P z=>
    rw[ff g1 f]at z;obtain⟨Q,_⟩:=aH.1 z;unfold p9 at hx;rw[al (by omega),ax u]at hx;simp at hx;rcases hx with rfl|rfl
    .exact key 0 (by omega) (by omega)
    .exact key 1 (by omega) (by omega)
   .cases d
  .rw[al (by omega),al (by omega),al (by omega),al (by omega),al (by omega),ax y]at d;unfold C2 at d;simp only at d;split at d
   next H=>obtain⟨R,ab,c3,c4,ac,K⟩:=H;rw[ff g1 f]at c3;unfold p9 at hx;rw[al (by omega),al (by omega),ax y]at hx;obtain⟨j,r,rfl⟩:=hU.1 hx;have:=Kv K r;exact key _ this.1 (by omega)
   .cases d
def S3{w:cg}{o:Op}{b:Name}(h:(qj w o b).2=0){x:cI}(hx:x∈LL w o b)(d:x.from_≠x.to):(∃p∈dj w,p.id=x.from_)/\x.to.nm=b:=by
 unfold LL at hx;simp only[qk,aN,cB]at hx;rcases hx with⟨y,f,rfl⟩|hx
 .exact⟨Ps h f,rfl⟩
 .have a:x∈kr w:=(jt.1 hx).1;unfold kr at a;rw[qk,cB]at a;obtain⟨p,_,rfl⟩:=a;exact absurd rfl d
def Mf(n:List (ID×List ID))(x:cI)(a b:ID):b∈fw (jO n x) a↔b∈fw n a\/(x.from_=a/\x.to=b/\x.from_≠x.to):=by
 unfold jO fw;by_cases h:x.from_=x.to
 .rw[ax h];simp[h]
 .rw[al h,mG];by_cases e:a=x.from_
  .subst e;rw[ax rfl];simp[h];exact pL ix
  .rw[al e];exact⟨.inl,λh=>h.elim id λh=>absurd h.1.symm e⟩
def s9(L:List cI):∀(n:List (ID×List ID))(a b:ID),b∈fw (L.foldl jO n) a↔b∈fw n a\/∃x∈L,x.from_=a/\x.to=b/\x.from_≠x.to:=by
 induction L with
 |nil=>intro n a b;simp
 |cons x r ih=>
  intro n a b;rw[dL,ih,Mf,or_assoc];simp only[bn,exists_eq_or_imp]
def En{w:cg}{b:Name}(l:List aJ):∀(n:List (ID×Name))(a:ID),fN (l.foldl (ly w b) n) a=fN n a\/(fN (l.foldl (ly w b) n) a=some b/\(∃p∈l,p.id=a)/\ef a 0 w.O=none):=by
 induction l with
 |nil=>intro n a;exact .inl rfl
 |cons p r ih=>
  intro n a;rw[dL];rcases ih (ly w b n p) a with h|⟨d,⟨q,f,j⟩,o⟩
  .rw[h];unfold ly;split
   .exact .inl rfl
   next t=>
    rw[mG];split
    next e=>exact .inr ⟨rfl,⟨p,g9 ..,e.symm⟩,by rw[e];simpa using t⟩
    .exact .inl rfl
  .exact .inr ⟨d,⟨q,dw _ f,j⟩,o⟩
structure Aw(G H:gm)(N R:List Name):Prop where
 bN:∀q∈dj H.bN,q.id.nm∈N
 key:∀a b,b∈fw H.next a->a.nm∈N
 left:∀a n,fN H.left a=some n->a.nm∈N/\∀q∈dj H.bN,q.id≠a
 edn:∀e∈H.hL,∀q∈dj e.1,q.id.nm∈N
 hL:∃l,H.hL=G.hL++l
 kept:∀a n,fN G.left a=some n->fN H.left a=some n
 next:∀a b,b∈fw G.next a->b∈fw H.next a
 old:∀a b,b∈fw H.next a->b∈fw G.next a\/b.nm∈R
 new:∀a b,b∈fw H.next a->a.nm∈R->b.nm∈R
def Aw.more{G H:gm}{N R:List Name}(h:Aw G H N R){n:Name}(u:n∉N)(l:List (cg×List gU))(y:∀e∈l,∀q∈dj e.1,q.id.nm∈N){H':gm}(o:H'.bN=H.bN)(h2:H'.next=H.next)(r:H'.left=H.left)(t:H'.hL=H.hL++l):Aw G H' (N++[n]) (R++[n]):=by
 have up:∀{m:Name},m∈N->m∈N++[n]:=bV _;refine⟨?_,?_,?_,?_,?_,?_,?_,?_,?_⟩
 .rw[o];exact λq d=>up (h.bN q d)
 .rw[h2];exact λa b hb=>up (h.key a b hb)
 .rw[o,r];exact λa m hm=>⟨up (h.left a m hm).1,(h.left a m hm).2⟩
 .rw[t];intro e f;rcases aN.1 f with f|f
  .exact λq d=>up (h.edn e f q d)
  .exact λq d=>up (y e f q d)
 .obtain⟨k,z⟩:=h.hL;exact⟨k++l,by rw[t,z,aF]⟩
 .rw[r];exact h.kept
 .rw[h2];exact h.next
 .rw[h2];exact λa b hb=>(h.old a b hb).imp id (bV _)
 .rw[h2];intro a b hb j;rcases aN.1 j with j|j
  .exact bV _ (h.new a b hb j)
  .exact absurd (aR.1 j▸h.key a b hb) u
def Aw.edit{G H:gm}{N R:List Name}(h:Aw G H N R){b:Name}(z:b∉N){o:Op}(h0:(qj H.bN o b).2=0){H':gm}(A:H'.bN=(qj H.bN o b).1)(h2:H'.next=(LL H.bN o b).foldl jO H.next)
 (D:H'.left=(dj H.bN).foldl (ly (qj H.bN o b).1 b) H.left) (K:H'.hL=H.hL):Aw G H' (N++[b]) (R++[b]):=by
 have up:∀{m:Name},m∈N->m∈N++[b]:=bV _;have hb:b∈N++[b]:=aU _ (aR.2 rfl);have u:b∈R++[b]:=aU _ (aR.2 rfl);have L:wI (λa=>(∃p∈dj H.bN,p.id=a)\/a.nm=b) (qj H.bN o b).1:=G2 (λp E=>.inl ⟨p,E,rfl⟩) o λ_ _ _=>.inr rfl;have hx:∀{x:cI},x∈LL H.bN o b->x.from_≠x.to->x.from_.nm∈N/\x.to.nm=b:=λhx P=>by
  obtain⟨⟨p,E,e⟩,f⟩:=S3 h0 hx P;exact⟨e▸h.bN p E,f⟩
 have Q:∀a n,fN H.left a=some n->fN H'.left a=some n:=λa n j=>by
  rw[D];rcases En (dj H.bN) H.left a with d|⟨_,⟨p,E,f⟩,_⟩
  .rw[d];exact j
  .exact absurd f ((h.left a n j).2 p E)
 refine⟨?_,?_,?_,?_,?_,?_,?_,?_,?_⟩
 .rw[A];intro q r;rcases L q r with⟨p,E,e⟩|e
  .exact up (e▸h.bN p E)
  .rw[e];exact hb
 .rw[h2];intro a c l;rcases(s9 _ _ _ _).1 l with d|⟨x,d,rfl,rfl,f⟩
  .exact up (h.key a c d)
  .exact up (hx d f).1
 .rw[A,D];intro a n j;rcases En (w:=(qj H.bN o b).1) (b:=b) (dj H.bN) H.left a with d|⟨_,⟨p,E,f⟩,y⟩
  .rw[d]at j;obtain⟨f,y⟩:=h.left a n j;refine⟨up f,λq r e=>?_⟩;rcases L q r with⟨p,E,t⟩|t
   .exact y p E (t.trans e)
   .rw[e]at t;exact z (t▸f)
  .exact⟨up (f▸h.bN p E),uU y⟩
 .rw[K];exact λe ab q r=>up (h.edn e ab q r)
 .rw[K];exact h.hL
 .exact λa n j=>Q a n (h.kept a n j)
 .rw[h2];exact λa c l=>(s9 _ _ _ _).2 (.inl (h.next a c l))
 .rw[h2];intro a c l;rcases(s9 _ _ _ _).1 l with d|⟨x,d,rfl,rfl,f⟩
  .exact(h.old a c d).imp id (bV _)
  .rw[(hx d f).2];exact .inr u
 .rw[h2];intro a c l j;rcases(s9 _ _ _ _).1 l with d|⟨x,d,rfl,rfl,f⟩
  .rcases aN.1 j with j|j
   .exact bV _ (h.new a c d j)
   .exact absurd (aR.1 j▸h.key a c d) z
  .rw[(hx d f).2];exact u
def Aw.step{G:gm}{x:gm×List (T×gU)}{N R:List Name}(h:Aw G x.1 N R){e:aW}(j:e.name∉N):Aw G (tA x e).1 (N++[e.name]) (R++[e.name]):=by
 have key:∀(c:Bool)(H:gm),Aw G H (N++[e.name]) (R++[e.name])->Aw G (if c=true then H else {H with void:=H.void++[e.name]}) (N++[e.name]) (R++[e.name]):=by
  intro c H g;cases c
  .exact⟨g.bN,g.key,g.left,g.edn,g.hL,g.kept,g.next,g.old,g.new⟩
  .exact g
 have same:∀{f:gm},f.bN=x.1.bN->f.next=x.1.next->f.left=x.1.left->f.hL=x.1.hL->Aw G f (N++[e.name]) (R++[e.name]):=λa b c d=>h.more j [] (λ_ h=>by cases h) a b c (by rw[d,cD]);unfold tA;simp only;refine key _ _ ?_;unfold J8;split
 .unfold zo;simp only;split
  next o=>exact h.edit j o rfl rfl rfl rfl
  .exact same rfl rfl rfl rfl
 .split
  .split
   .exact same rfl rfl rfl rfl
   .exact h.more j [(x.1.bN,D3 x.2)] (λe r q l=>by rw[aR.1 r]at l;exact h.bN q l) rfl rfl rfl rfl
  .split<;>exact same rfl rfl rfl rfl
def Aw.fold{G:gm}(l:List aW):∀{x:gm×List (T×gU)} {N R:List Name},Aw G x.1 N R->(N++l.map aW.name).Nodup->Aw G (l.foldl tA x).1 (N++l.map aW.name) (R++l.map aW.name):=by
 induction l with
 |nil=>intro x N R h _;simpa using h
 |cons e r ih=>
  intro x N R h a;have d:N++(e::r).map aW.name=(N++[e.name])++r.map aW.name:=by simp
  have f:R++(e::r).map aW.name=(R++[e.name])++r.map aW.name:=by simp
  rw[d]at a;rw[d,f,dL];have j:e.name∉N:=λhm=>(aO.1 (aO.1 a).1).2.2 _ hm _ (aR.2 rfl) rfl;exact ih (h.step j) a
def Aw.zero:Aw rc rc [] []:=by
 refine⟨?_,?_,?_,?_,⟨[],rfl⟩,?_,?_,?_,?_⟩<;>intros<;>simp_all[rc,dj,lA,fw,fN]
def Aw.self{G H:gm}{N R:List Name}(h:Aw G H N R):Aw H H N []:=⟨h.bN,h.key,h.left,h.edn,⟨[],(cD _).symm⟩,λ_ _ h=>h,λ_ _ h=>h,λ_ _ h=>.inl h,λ_ _ _ h=>(by cases h)⟩
def S4{p:List aW}{n:Name}(h:fN (m4 p) n=none):n∉p.map aW.name:=by
 suffices ∀(p:List aW)(m:List (Name×Int)),fN (p.foldl (λm e=>ke m e.name e.eo) m) n=none->fN m n=none/\n∉p.map aW.name from(this p [] h).2
 intro p;induction p with
 |nil=>intro m h;exact⟨h,cE⟩
 |cons e r ih=>
  intro m h;obtain⟨a,j⟩:=ih _ h;rw[mG]at a;split at a
  .cases a
  next f=>exact⟨a,λhm=>by rcases bn.1 hm with d|d;exact f d;exact j d⟩
def FE{l:List aW}(h:oz l):(l.map aW.name).Nodup:=by
 have:∀k,k<=l.length->((l.take k).map aW.name).Nodup:=by
  intro k;induction k with
  |zero=>intro _;simp
  |succ k ih=>
   intro d;rw[br d,az,aO];exact⟨ih (by omega),by simp,λa f b hb e=>S4 (h k d).new (by rw[pt,aR]at hb;rw[<-hb,<-e];exact f)⟩
 have j:=this l.length (an _)
 rwa [bg]at j
def Hg{l:List aW}(h:oz l)(k:Nat):Aw (k5 (l.take k)) (k5 l) (l.map aW.name) ((l.drop k).map aW.name)/\∀e∈(k5 (l.take k)).hL,∀q∈dj e.1,q.id.nm∉ (l.drop k).map aW.name:=by
 have a:=FE h;rw[<-b8 k l,az]at a;have d:=Aw.zero.fold (l.take k) (x:=(rc,[])) (by simpa using (aO.1 a).1);rw[bm]at d;have f:=d.self.fold (l.drop k) (x:=(l.take k).foldl tA (rc,[])) a;rw[<-de,b8,<-az,b8,bm]at f;exact⟨f,λe j q o hm=>(aO.1 a).2.2 _ (d.edn e j q o) _ hm rfl⟩
inductive Reach(nx:ID->List ID):ID->ID->Prop
 |refl (a:ID):Reach nx a a
 |step {a b c:ID} (h:b∈nx a) (r:Reach nx b c):Reach nx a c
section
variable {nx:ID->List ID}{th:ID->Bool}{p:ID}{U:List ID}
structure Met(nx:ID->List ID)(th:ID->Bool)(p:ID)(s r:List ID×List cI)(A:ID->Prop):Prop where
 mono:∀v∈s.1,v∈r.1
 clo:∀v∈r.1,v∉s.1->∀b∈nx v,b∈r.1
 from_:∀v∈r.1,v∈s.1\/∃a,A a/\Reach nx a v
 out:∀z,z∈r.2↔z∈s.2\/∃c∈r.1,c∉s.1/\th c=true/\z=⟨p,c⟩
def Met.refl(s:List ID×List cI)(A:ID->Prop):Met nx th p s s A:=⟨λ_ h=>h,λv h a=>absurd h a,λv h=>.inl h,λz=>⟨.inl,λh=>h.elim id λ⟨c,d,f,_⟩=>absurd d f⟩⟩
def Met.trans{s r t:List ID×List cI}{A B C:ID->Prop}(h:Met nx th p s r A)(g:Met nx th p r t B)(y:∀a,A a->C a)(hb:∀a,B a->C a):Met nx th p s t C:=by
 refine⟨λv l=>g.mono v (h.mono v l),λv l u b q=>?_,λv l=>?_,λz=>?_⟩
 .by_cases o:v∈r.1
  .exact g.mono b (h.clo v o u b q)
  .exact g.clo v l o b q
 .rcases g.from_ v l with d|⟨a,d,f⟩
  .rcases h.from_ v d with d|⟨a,d,f⟩
   .exact .inl d
   .exact .inr ⟨a,y a d,f⟩
  .exact .inr ⟨a,hb a d,f⟩
 .rw[g.out,h.out];constructor
  .rintro((d|⟨c,d,f,j⟩)|⟨c,d,f,j⟩)
   .exact .inl d
   .exact .inr ⟨c,g.mono c d,f,j⟩
   .exact .inr ⟨c,d,λu=>f (h.mono c u),j⟩
  .rintro(d|⟨c,d,f,j⟩)
   .exact .inl (.inl d)
   .by_cases o:c∈r.1
    .exact .inl (.inr ⟨c,o,f,j⟩)
    .exact .inr ⟨c,d,o,j⟩
def IY{U m:List ID}{a:ID}(f:a∈U)(h:pW U m<=0):a∈m:=by
 rcases Classical.em (a∈m)with d|d
 .exact d
 .have:=xL f d;omega
def KF(H:∀a∈U,∀b∈nx a,b∈U):∀(f:Nat)(s:List ID×List cI)(a:ID),a∈U->pW U s.1<=f->a∈(qW nx th p f s a).1/\Met nx th p s (qW nx th p f s a) (· =a)
 |0,s,a,q,h=>⟨IY q h,.refl _ _⟩
 |f+1,s,a,q,h=>by
  unfold qW;split
  next hm=>exact⟨hm,.refl _ _⟩
  next hm=>
   have key:∀(l:List ID)(u:List ID×List cI),(∀b∈l,b∈U)->pW U u.1<=f->(∀b∈l,b∈(l.foldl (qW nx th p f) u).1)/\Met nx th p u (l.foldl (qW nx th p f) u) (· ∈l):=by
    intro l;induction l with
    |nil=>intro u _ _;exact⟨λ_ h=>(by cases h),.refl _ _⟩
    |cons b r ih=>
     intro u K L;obtain⟨D,o⟩:=KF H f u b (K b (g9 ..)) L;obtain⟨d,j⟩:=ih (qW nx th p f u b) (λc t=>K c (dw _ t)) (aT (Co o.mono) L);rw[dL];exact⟨λc t=>by rcases bn.1 t with rfl|t;exact j.mono _ D;exact d c t,o.trans j (λa e=>e▸g9 ..) λa q=>dw _ q⟩
   have ab:=xL q hm;obtain⟨D,o⟩:=key (nx a) (s.1++[a],if th a=true then s.2++[⟨p,a⟩]else s.2) (H a q) (by simp only;omega);generalize (nx a).foldl (qW nx th p f) _=r at*
   have N:a∈r.1:=o.mono a (by simp);refine⟨N,λv y=>o.mono v (by simp[y]),λv y Q=>?_,λv y=>?_,λz=>?_⟩
   .by_cases e:v=a
    .subst e;exact D
    .exact o.clo v y (by simp[Q,e])
   .rcases o.from_ v y with d|⟨b,d,j⟩
    .rcases aN.1 d with d|d
     .exact .inl d
     .rw[aR.1 d];exact .inr ⟨a,rfl,.refl a⟩
    .exact .inr ⟨a,rfl,.step d j⟩
   .rw[o.out];have R:z∈(if th a=true then s.2++[(⟨p,a⟩:cI)]else s.2)↔z∈s.2\/(th a=true/\z=⟨p,a⟩):=by
     split<;>simp[*]
    simp only[R,aN,aR,lS];constructor
    .rintro((d|⟨d,j⟩)|⟨c,d,⟨j,_⟩,A⟩)
     .exact .inl d
     .exact .inr ⟨a,N,hm,d,j⟩
     .exact .inr ⟨c,d,j,A⟩
    .rintro(d|⟨c,d,j,A,P⟩)
     .exact .inl (.inl d)
     .by_cases e:c=a
      .subst e;exact .inl (.inr ⟨A,P⟩)
      .exact .inr ⟨c,d,⟨j,e⟩,A,P⟩
end
def IZ(n:List (ID×List ID))(th:List ID)(out:List cI)(p:aJ)(z:cI):z∈ki n th out p↔z∈out\/∃c,Reach (fw n) p.id c/\c∈th/\z=⟨p.id,c⟩:=by
 have d:pW (p.id::nM n) []<=(nM n).length+1:=aT (fY _ _) (an _);obtain⟨l,f⟩:=KF (nx:=fw n) (th:=λa=>decide (a∈th)) (p:=p.id) (U:=p.id::nM n) (λa _ b hb=>dw _ (Cp hb)) ((nM n).length+1) ([],out) p.id (g9 ..) d;unfold ki;rw[f.out];generalize qW (fw n) _ _ _ _ _=r at*
 have o:∀c,c∈r.1↔Reach (fw n) p.id c:=λc=>by
  constructor
  .intro d;rcases f.from_ c d with j|⟨a,rfl,j⟩
   .cases j
   .exact j
  .intro d;have:∀{a c},Reach (fw n) a c->a∈r.1->c∈r.1:=λh=>by
    induction h with
    |refl a=>exact id
    |step h _ ih=>exact λq=>ih (f.clo _ q (λh=>by cases h) _ h)
   exact this d l
 simp only[o,cq];exact pL ⟨λ⟨c,a,_,b⟩=>⟨c,a,b⟩,λ⟨c,a,b⟩=>⟨c,a,(λh=>by cases h),b⟩⟩
def u3(n:List (ID×List ID))(th:List ID)(z:cI):∀(l:List aJ)(o:List cI),z∈l.foldl (ki n th) o↔z∈o\/∃p∈l,∃c,Reach (fw n) p.id c/\c∈th/\z=⟨p.id,c⟩
 |[],o=>by simp
 |p::r,o=>by
  rw[dL,u3 n th z r,IZ,or_assoc];simp only[bn,exists_eq_or_imp]
def Aw.reach{G H:gm}{N R:List Name}(h:Aw G H N R){a c:ID}(f:c.nm∉R):Reach (fw G.next) a c↔Reach (fw H.next) a c:=by
 constructor
 .intro r;induction r with
  |refl a=>exact .refl a
  |step d _ ih=>exact .step (h.next _ _ d) (ih f)
 .intro r
  suffices Reach (fw G.next) a c/\a.nm∉R from this.1
  induction r with
  |refl a=>exact⟨.refl a,f⟩
  |step d _ ih=>
   obtain⟨l,j⟩:=ih f;exact⟨.step ((h.old _ _ d).resolve_right j) l,λo=>j (h.new _ _ d o)⟩
structure gm.pre(G H:gm):Prop where
 len:G.hL.length<=H.hL.length
 hL:∀k (h:k<G.hL.length),H.hL[k]'(bj h len)=G.hL[k]
 Po:∀i k,i<=k->k<G.hL.length->qQ H i k=qQ G i k
 left:∀a n,fN G.left a=some n->fN H.left a=some n
def Wi{l:List aW}(h:oz l)(k:Nat):(k5 (l.take k)).pre (k5 l):=by
 obtain⟨d,A⟩:=Hg h k;generalize k5 (l.take k)=G at*
 generalize k5 l=H at*
 obtain⟨r,j⟩:=d.hL;have len:G.hL.length<=H.hL.length:=by rw[j,ae];omega
 have hL:∀k (h:k<G.hL.length),H.hL[k]'(bj h len)=G.hL[k]:=λk a=>by
  simp only[j];exact ej a
 refine⟨len,hL,λi k D a=>?_,d.kept⟩;have e:∀k,k<G.hL.length->H.hL.getD k (⟨[]⟩,[])=G.hL.getD k (⟨[]⟩,[]):=λk a=>by
  rw[ap,ap,aa a,aa (bj a len),hL k a]
 unfold qQ;simp only;rw[e i (mc D a),e k a];refine zk λz=>?_;rw[u3,u3];refine pL ⟨?_,?_⟩;all_goals
  rintro⟨p,E,c,o,t,K⟩;refine⟨p,E,c,?_,t,K⟩;obtain⟨q,u,y⟩:=cB.1 t;rw[ap,aa a]at u;have f:=A _ (ah a) q u;rw[y]at f;first|exact(d.reach f).2 o|exact(d.reach f).1 o
end Go.Bx
