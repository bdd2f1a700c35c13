/- Lemmas for HistoryBegins. -/
import Derived.Test.YtmbahmpbmcfifaaGreatDoorCg
noncomputable section
set_option linter.all false
set_option maxHeartbeats 4000000
set_option maxRecDepth 100000
namespace Go.Bx
open Go.Proofs Go.Proofs.Tryz
attribute [local irreducible] vc er dq b4 bU run iw iI iW i1 iG i2 iX iq iH iZ gA iY cS
def fin2{s:St}{t t2 n:Nat}{ag:Bool}{a u:V}{k:Int}{fz:aj}{f:aK}(h:dv s (.load ag n (.tmp t))=some a)(q:a.dY=false)(h2:s.Z t2=I k)(r:jE fz s.E f)(y:V.lF fz a u):
 (∀id,Ex.ret≠.exit id)/\∃v bJ fz f v' l,BF.result s [.cell t ag n,.tmp t2]=some (v,bJ)/\jE fz s.E f/\V.lF fz v v'/\(l=true->(bJ=true/\(PF fz v\/v'=v))\/v=.aP)/\v'=.hJ [u,I k]/\l=false:=by
 refine⟨nE,.hJ [a,I k],false,fz,f,.hJ [u,I k],false,by simp only[BF.result,BR.pX,BR.get,h,h2];rw[al (by rw[q];exact ky)];rfl,r,.hJ _ _ rfl λj c d o p=>?_,λh=>(by cases h),rfl,rfl⟩
 match j with
 |0=>cases o;cases p;exact y
 |1=>cases o;cases p;exact .refl _
 |j+2=>cases o
def DT{h:aK}{a:V}{l:List eM}{X:List Nat}(T:ce 1 RV h a l X):V.lF (oC h X) (.agg [a]) (cg.v ⟨l⟩):=TH (T.mono λ_ _ _=>RV.weak)
def Zy:CF GL f190 [19,51] [1] 190:=jo
def E9{w:cg}{s:fW}(h:k1 w s=true):s.i9=s.i9.toNat/\s.k0=s.k0.toNat/\∃a:s.i9.toNat<w.O.length,s.k0.toNat< (w.O[s.i9.toNat]).O.length:=by
 simp only[k1,be,cq,vQ,me]at h;obtain⟨a,x,d⟩:=h;obtain⟨y,f,j⟩:=mH.1 d;obtain⟨l,rfl⟩:=aH.1 f;obtain⟨o,rfl⟩:=aH.1 j;exact⟨av,av,l,o⟩
def Hw(w:cg)(v:Nat)(x:eg):cg:=⟨w.O.set v ⟨(w.O.getD v ⟨[]⟩).O++[x]⟩⟩
def mE(w:cg)(o:Op)(b:Name):cg×Int:=
 if o.kind=0 then(⟨w.O++[⟨[]⟩]⟩,0)
 else if o.kind=1 then(if 0<=o.spot.i9/\o.spot.i9<w.O.length then(Hw w o.spot.i9.toNat ⟨o.bN,[]⟩,0)else(w,6))
 else if k1 w o.spot=true then yo w o.spot.i9.toNat o.spot.k0.toNat o.spot.idx (k2 b 0 ⟨⟨0,0,0⟩,o.eD,o.en,[],[]⟩ o.bN o.C)else(w,6)
def Rn(w:cg)(r:w.ok)(o:Op)(bl:o.ok)(b:Name):af 190 [w.v,o.v,b.v] (ml (mE w o b)):=by
 have bo:=E4 w r;have u:=JI w o.spot r;have aD:=r;obtain⟨bs,bu,dd⟩:=aD;unfold ml;refine Pure.gg (by simp only[dx]) (by simp only[dx]) (eN hm Zy.ok (bE rfl) ?_);repeat' simp only[dt,simprocAttr,Op.v,Op.c]
 refine bz (h0:=aK.bare) ?_ bo ?_ ?_ ?_
 .exact sT
 .rfl
 .refine mV ?_;simp only[ee]<;>rfl
 rintro df bJ Q ⟨X,⟨bv,rfl,T⟩,D⟩;have y:=T.one;unfold mE;by_cases ad:o.kind=0
 .rw[ax ad];repeat' simp only[gE,simprocAttr,y,ad]
  refine oX (e:=.agg [.aP]) (fA:=Q) (v0:=bv) (a:=(⟨[]⟩:eM)) (js:=[]) vG p7 ?_ ?_ ?_ T rfl ⟨.aP,rfl,ce.nil⟩ (by simpa using D) rfl bs λv p f g1 bY a0 g4 g5=>?_
  .exact sT
  .simp only[simprocAttr,bx]
  .exact sT
  obtain⟨z,b2⟩:=g1.cells;have A:=g1.one;repeat' simp only[gE,simprocAttr,z,A]
  exact fin2 ev rfl ev (l6 _ f) (DT g1)
 .rw[al ad];by_cases H:o.kind=1
  .rw[ax H];by_cases ai:0<=o.spot.i9/\o.spot.i9<w.O.length
   .rw[ax ai];obtain⟨c2,c5⟩:=ai;obtain⟨v,Ya⟩:∃v:Nat,o.spot.i9=v:=⟨o.spot.i9.toNat,av⟩;have ME:v<w.O.length:=av;obtain⟨l,c6,d,x,js,K,L,b3,a1,b5,dr,ds,⟨a2,rfl,b6⟩,b7,a3,dE,c7,ca,_⟩:=ce.at vG p7 T D ME;have cb:List.drop (v*1+0) d=a2::K:=kc (j:=0) b5 (aL _);have cc:v*1+0<=d.length:=av;have ch:Hw w o.spot.i9.toNat ⟨o.bN,[]⟩=⟨w.O.set v ⟨w.O[v].O++[⟨o.bN,[]⟩]⟩⟩:=by
     exact X9
    rw[ch];have lp:=T.len;have a4:=(bu _ (ah ME)).1;repeat' first|simp(disch:=omega) only[gE,simprocAttr,H,Ya,L,a1,cb,cc]|(first|refine cs ?_ ?_|refine gs ?_ ?_)<;>intro h<;>try omega|refine e9 ?_ ?_
    all_goals
     refine oX (e:=.agg [S o.bN,.aP]) (fA:=Q) (v0:=a2) (a:=(⟨o.bN,[]⟩:eg)) (js:=[]) ym wv ?_ ?_ ?_ b6 rfl ⟨.aP,rfl,ce.nil⟩ (by simpa using b7) rfl a4 λN p f g1 bY a0 g4 g5=>?_
     .exact sT
     .simp only[simprocAttr,bx]
     .exact sT
     obtain⟨z,b2⟩:=g1.cells;have A:=g1.one;have a5:p.box l=some d:=by rw[g4.box l b3 λe=>a3 (g5 l e)];exact a1
     repeat' simp(disch:=omega) only[gE,simprocAttr]
     all_goals
      refine xk (n:=1) (cells:=d) ?_ ?_ av λt R ab ac a6 c9 a7=>?_
      .simp only[simprocAttr,bx];exact a5
      .simp only[da];simp[jW,z,A]
      have tb:t.E.box=eQ p.box l (some (aQ d (v*1) [N])):=by rw[a6];simp only[da,simprocAttr,z,di]
      have a8:t.E.Y=p.Y:=a7.trans sT;have a9:l∉f:=λhm=>by
       rcases a0 l hm with h|h|h
       .exact a3 h
       .cases h
       .omega
      have bi:ce 2 RA t.E N (w.O[v].O++[⟨o.bN,[]⟩]) f:=ce.qG ym _ _ _ _ _ g1 (λj P=>⟨ce.vF wv _ _ _ _ g1 j P,by rw[tb];exact bD _ _ (λe=>a9 (e▸P))⟩) (c0 a8.symm);obtain⟨aA,ci,_⟩:=ca t.E (.agg [N]) ⟨w.O[v].O++[⟨o.bN,[]⟩]⟩ f (by rw[a8];exact g4.Y) (by rw[tb,bh];rfl) (λj P aB aC=>by rw[tb,bD _ _ aB];exact g4.box j (ce.vF p7 _ _ _ _ T j P) λe=>aC (g5 j e)) (by simp[jW,V.cells,A]) ⟨N,rfl,bi⟩;repeat' simp only[gE,simprocAttr,R,ab,ac]
      exact fin2 (by simp only[ee,simprocAttr,R,ab,ac,bx]<;>rfl) rfl ev (l6 _ aA) (by rw[<-L];exact DT ci)
   .rw[al ai];have lp:=T.len;repeat' first|simp only[gE,simprocAttr,y,H,lp]|(first|refine cz ?_ ?_|refine gz ?_ ?_)<;>intro cp h<;>(try simp only[cp])<;>try omega
    all_goals exact fin2 ev rfl ev (.refl _) (.refl _)
  .rw[al H];by_cases q:k1 w o.spot=true
   .rw[ax q];rw[q]at u;obtain⟨L,c1,aB,aC⟩:=E9 q;have c3:=xp b 0 ⟨⟨0,0,0⟩,o.eD,o.en,[],[]⟩ o.bN o.C bl.2.2.2.2;have c4:=JM w r _ _ o.spot.idx (k2 b 0 ⟨⟨0,0,0⟩,o.eD,o.en,[],[]⟩ o.bN o.C) aB aC;simp only[<-L,<-c1]at c4;unfold ml at c4;repeat' first|simp(disch:=try exact om) only[gE,simprocAttr,y]|refine cs ?_ ?_<;>intro h<;>try omega|refine lq u ?_|(refine jj (c3) ?_ ?_;(·(repeat(first|exact aV.nil|(refine aV.cons (ak ?_) ?_;(simp only[ee]<;>rfl))|(refine aV.cons ?_ ?_;(·(apply nf;(·(simp only[ee]<;>rfl));(·(repeat(first|exact aV.nil|refine aV.cons (.refl _) ?_|refine aV.cons (.aP _) ?_))))))))))|refine lq c4 ?_
    all_goals exact fin2 ev rfl ev (.refl _) (.refl _)
   .rw[al q];rw[show k1 w o.spot=false by simpa using q]at u;repeat' first|simp only[gE,simprocAttr,y]|refine cs ?_ ?_<;>intro h<;>try omega|refine lq u ?_
    all_goals exact fin2 ev rfl ev (.refl _) (.refl _)
def Gl{h:aK}{K:V}{l:List eM}{X:List Nat}(T:ce 1 RV h K l X)(D:X.Nodup){v a i:Nat}(R:v<l.length)(ab:a<l[v].O.length)(a4:i<l[v].O[a].O.length):
 ∃L pid N d f,za h 1 K l.length v (.agg [L])/\za h 2 L l[v].O.length a (.agg [S l[v].O[a].gR,.ms 7 pid 0 l[v].O[a].O.length N])/\pid<h.Y/\h.box pid=some d/\d.drop (i*7)=(aJ.v l[v].O[a].O[i]).cells++f/\(i+1)*7<=d.length/\
  ∀o q,h.Y<=o.Y->o.box pid=some (aQ d (i*7) (aJ.v q).cells)->(∀j,j<h.Y->j≠pid->o.box j=h.box j)->ce 1 RV o K (l.set v ⟨l[v].O.set a ⟨l[v].O[a].gR,l[v].O[a].O.set i q⟩⟩) X:=by
 have hb:=ce.vF p7 _ _ _ _ T;obtain⟨ad,ai,p,x,c1,A,rfl,c2,a5,a6,a7,c5,⟨L,rfl,a8⟩,a9,c6,c7,aA,_,bi⟩:=ce.at vG p7 T D R;obtain⟨aB,ac,r,y,c9,H,rfl,q1,bl,bo,bs,dd,⟨df,rfl,bu⟩,bv,dr,ds,aC,_,bY⟩:=ce.at ym wv a8 a9 ab;obtain⟨pid,N,d,z,ms,f,rfl,b2,b3,b5,b6,dE,⟨rfl,rfl⟩,dU,ea,aD,eb,b7,_⟩:=ce.at Lw N5 bu bv a4;refine⟨_,pid,N,d,f,⟨ad,ai,p,A,rfl,R,a5,a6,a7⟩,⟨aB,ac,r,H,rfl,ab,bl,bo,bs⟩,b2,b3,b5,b6,λo q P ca Q=>?_⟩;obtain⟨a0,a1,cb⟩:=b7 o (aJ.v q) q [] P ca (λj t u _=>Q j (hb j (aA j (aC j t))) u) rfl ⟨rfl,rfl⟩;obtain rfl:=cb rfl;obtain⟨a2,a3,cc⟩:=bY o ⟨l[v].O[a].gR,l[v].O[a].O.set i q⟩ a0 P (λj t u=>Q j (hb j (aA j t)) λe=>u (e▸aD)) ⟨_,rfl,by simpa using a1⟩;obtain rfl:=cc rfl;obtain⟨ch,ci,cp⟩:=bi o ⟨l[v].O.set a ⟨l[v].O[a].gR,l[v].O[a].O.set i q⟩⟩ a2 P (λj t u=>Q j (hb j t) λe=>u (e▸aC pid aD)) ⟨_,rfl,by simpa using a3⟩;obtain rfl:=cp rfl;exact ci
def Zz:CF GL f249 [] [1,4,5] 249:=jo
def xu(w:cg)(v a i d f l:Nat):cg:=
 let p:=(gX w v a).O.getD i ia
 let q:=(gX w d f).O.getD l ia
 let j:=k3 w v a ⟨(gX w v a).gR,(gX w v a).O.set i q⟩
 k3 j d f ⟨(gX j d f).gR,(gX j d f).O.set l p⟩
def yu{w:cg}{v a:Nat}{x:eg}(q:v<w.O.length){d f:Nat}(o:d<w.O.length)(j:f<w.O[d].O.length):
 ∃p:d< (k3 w v a x).O.length,∃h2:f< ((k3 w v a x).O[d]).O.length,((k3 w v a x).O[d]).O[f]=if d=v/\f=a then x else w.O[d].O[f]:=by
 rw[qh q];refine⟨by simpa using o,?_⟩;simp only[nn];by_cases e:v=d
 .subst e;refine⟨by simpa using j,?_⟩;simp only[bP,nn,cK];by_cases l:a=f
  .subst l;simp
  .rw[al l,al (hY l)]
 .refine⟨by rw[al e];exact j,?_⟩;simp only[al e];exact(al (by rintro⟨p,_⟩;exact e p.symm)).symm
def Ro(w:cg)(aC:w.ok)(v a i d f l:Nat)(P:v<w.O.length)(ab:a<w.O[v].O.length)(aD:i<w.O[v].O[a].O.length)
 (q:d<w.O.length) (u:f<w.O[d].O.length) (Wr:l<w.O[d].O[f].O.length):
 af 249 [w.v,fW.v ⟨v,a,i⟩,fW.v ⟨d,f,l⟩] (xu w v a i d f l).v:=by
 have b7:=E4 w aC;have ca:=p6 w v a ⟨v,a,i⟩ P ab rfl rfl;have c3:=p6 w d f ⟨d,f,l⟩ q u rfl rfl;refine Pure.gg (by simp only[dx]) (by simp only[dx]) (eN hm Zz.ok (bE rfl) ?_);repeat' simp only[dt,simprocAttr]
 refine bz (h0:=aK.bare) ?_ b7 ?_ ?_ ?_
 .exact sT
 .rfl
 .refine mV ?_;simp only[ee]<;>rfl
 rintro ea bJ z ⟨X,⟨a0,rfl,T⟩,D⟩;have a5:=T.one;obtain⟨cb,pid,eb,p,b6,cc,ch,g1,ci,ed,g4,g5⟩:=Gl T D P ab aD;have c4:=N6 z a0 cb _ _ _ _ v a ⟨v,a,i⟩ cc ch rfl rfl rfl;repeat' first|simp(disch:=try exact om) only[gE,simprocAttr,a5]|refine lq ca ?_|refine lq c3 ?_|refine e9 ?_ ?_
 all_goals
  refine bz (h0:=z) ?_ c4 ?_ ?_ ?_
  .simp only[simprocAttr,bx]
  .simp only[bR,cm,pY,bx];rfl
  .exact Uh
  rintro r cp c1 ⟨a1,a2⟩;subst a1;obtain rfl:=a2.symm;repeat' simp(disch:=omega) only[gE,simprocAttr,aD]
  refine xk (n:=7) (cells:=p) ?_ ?_ av λt A H K a6 df a7=>?_
  .simp only[simprocAttr,bx];exact ci
  .exact sT
  have tb:t.E.box=eQ z.box pid (some (aQ p (i*7) (aJ.v w.O[d].O[f].O[l]).cells)):=a6.trans sT;have a8:t.E.Y=z.Y:=a7.trans sT;have ac:=g5 t.E w.O[d].O[f].O[l] (c0 a8.symm) (by rw[tb,bh]) (λj c2 Q=>by rw[tb];exact bD _ _ Q);generalize a9:t.E=L at ac tb a8;obtain⟨W,a3⟩:∃W,W=k3 w v a ⟨w.O[v].O[a].gR,w.O[v].O[a].O.set i w.O[d].O[f].O[l]⟩:=⟨_,rfl⟩;have bi:W.O=w.O.set v ⟨w.O[v].O.set a ⟨w.O[v].O[a].gR,w.O[v].O[a].O.set i w.O[d].O[f].O[l]⟩⟩:=by rw[a3,qh P]
  rw[<-bi]at ac;obtain⟨N,R,Yi⟩:=yu (x:=⟨w.O[v].O[a].gR,w.O[v].O[a].O.set i w.O[d].O[f].O[l]⟩) (a:=a) P q u;simp only[<-a3]at N R Yi;have ad:l<W.O[d].O[f].O.length:=by
   exact Tg
  have hlen:W.O[d].O[f].O.length<=1000000:=by
   rw[Yi];split
   .simpa using ((aC.2.1 _ (ah P)).2 _ (ah ab)).2.1
   .exact((aC.2.1 _ (ah q)).2 _ (ah u)).2.1
  have el:=ac.one;obtain⟨bl,a4,dr,o,bo,bs,bu,ds,bv,dE,g4',bY⟩:=Gl ac D N R ad;have c5:=N6 L a0 bl _ _ _ _ d f ⟨d,f,l⟩ bs bu rfl rfl rfl;repeat' first|simp only[gE,simprocAttr,A,H,K]|refine e9 ?_ ?_
  all_goals
   refine bz (h0:=L) ?_ c5 ?_ ?_ ?_
   .simp only[simprocAttr,bx,a9]
   .simp only[bR,cm,pY];rfl
   .exact Uh
   rintro r c6 c1 ⟨a1,a2⟩;subst a1;obtain rfl:=a2.symm;repeat' simp(disch:=omega) only[gE,simprocAttr,A,H,K,ad]
   refine xk (n:=7) (cells:=o) ?_ ?_ av λy ai aA aB b2 dU b3=>?_
   .simp only[simprocAttr,bx];exact bv
   .exact sT
   have b5:y.E.box=eQ L.box a4 (some (aQ o (l*7) (aJ.v w.O[v].O[a].O[i]).cells)):=b2.trans sT;have c7:y.E.Y=L.Y:=b3.trans sT;have c9:=bY y.E w.O[v].O[a].O[i] (c0 c7.symm) (by rw[b5,bh]) (λj c2 Q=>by rw[b5];exact bD _ _ Q);have dd:xu w v a i d f l=⟨W.O.set d ⟨W.O[d].O.set f ⟨W.O[d].O[f].gR,W.O[d].O[f].O.set l w.O[v].O[a].O[i]⟩⟩⟩:=by
    simp only[xu,ff P ab,ff q u,ap,aa aD,aa Wr,bf,<-a3];rw[ff N R,qh N]
   rw[dd];repeat' simp only[gE,simprocAttr,A,H,K,ai,aA,aB,a5]
   exact⟨nE,.agg [a0],false,oC y.E X,y.E.less X,_,false,eA (by simp only[ee,simprocAttr,A,H,K,ai,aA,aB,bx]<;>rfl) rfl,l6 _ _,DT c9,λh=>(by cases h),rfl,rfl⟩
def Vl(v:V)(E a:aK)(r:V)(zs:List V):Prop:=gu 7 a r zs/\bA (bI v) E a/\∀k,bI r=some k->bI v=some k\/E.Y<=k
def Rp(v:V)(xs ys:List V)(i:Nat)(E:aK)(hm0:gu 7 E v xs)(d:i<=xs.length)(u:lG 7 ys)(hx:xs.length<=1000000)(a1:ys.length<=1000000):
 aI 336 [v,I i,.sl 7 ys] E λr _ f=>Vl v E f r (xs.take i++ys++xs.drop i):=by
 refine bk f336 ?_ [25,17,55,83,94];rcases cZ ys.length with y|y
 .obtain rfl:ys=[]:=bH.1 y;rw[cD,b8];obtain⟨zK,⟨rfl,rfl⟩|⟨id,c,rest,rfl,dW,eh,Q,j⟩⟩:=id hm0
  .obtain rfl:i=0:=rk.1 d;exact X3
  .exact X3
 rcases pw d with K|K
 .have e1:xs.take i++ys++xs.drop i=xs++ys:=by rw[K,bg,jd,cD]
  rw[e1];have fin:∀w f,gu 7 f w (xs++ys)->bA (bI v) E f->(bI w=bI v\/bI w=some E.Y)->Vl v E f w (xs++ys):=λw f a b c=>⟨a,b,λk h=>by rcases c with c|c<;>rw[c]at h;exact .inl h;cases h;exact .inr (an _)⟩;obtain⟨zK,⟨rfl,rfl⟩|⟨id,c,rest,rfl,dW,eh,Q,j⟩⟩:=id hm0
  .obtain rfl:i=0:=K;repeat' first|simp(disch:=omega) only[dt,simprocAttr]|refine cs ?_ ?_<;>intro h<;>try omega
   refine iR (xs:=[]) (ys:=ys) ?_ ?_ u ?_ ?_ rfl ?_ ?_ λw f o hb d=>?_
   .exact sT
   .exact sT
   .exact sT
   .simp only[da];intro l N;cases N
   .simp only[aX];omega
   .intro _ e;rw[e]at y;cases y
   revert hb d
   simp only[da];intro hb d;repeat' simp only[dt,simprocAttr,bx]
   exact⟨nE,_,_,bC rfl o.gD,fin _ _ o hb d⟩
  .repeat' first|simp(disch:=omega) only[dt,simprocAttr]|refine cs ?_ ?_<;>intro h<;>try omega
   refine iR (xs:=xs) (ys:=ys) ?_ ?_ u ?_ ?_ rfl ?_ ?_ λw f o hb d=>?_
   .exact sT
   .exact sT
   .exact sT
   .simp only[da];intro l N;cases N
   .omega
   .intro _ e;rw[e]at y;cases y
   revert hb d
   simp only[da];intro hb d;repeat' simp only[dt,simprocAttr,bx]
   exact⟨nE,_,_,bC rfl o.gD,fin _ _ o hb d⟩
 obtain⟨zK,⟨rfl,rfl⟩|⟨id,c,rest,rfl,dW,eh,Q,j⟩⟩:=id hm0
 .cases K
 rcases am c (xs.length+ys.length)with ai|ai
 .have z:b9 xs=b9 (xs.take i)++b9 (xs.drop i):=ol i;have aD:gu 7 E (.ms 7 id 0 i c) (xs.take i):=gu.mk (lG.take zK i) dW (by rw[eh,z,aF]) (by rw[aG];omega) (by rw[ae,dV (lG.drop zK i),j,aS,aG,dM d,<-dJ];congr 1;omega) i (by rw[aG];omega);repeat' first|simp(disch:=omega) only[dt,simprocAttr]|refine cs ?_ ?_<;>intro h<;>try omega
  refine JC (fA:=E) (m:=xs.length+ys.length-i) (k:=i) (xs:=xs.take i) (rest:=b9 (xs.drop i)++rest) (by simp only[simprocAttr,bx]) sT (by rw[aG];omega) (lG.take zK i) (by simp only[da];(congr 1;omega)) (by rw[eh,z,aF]) av av av λH P a0 q b2 b3=>?_;have A:(b9 (xs.take i)).length=i*7:=by rw[dV (lG.take zK i),aG,dM d]
  have L:=dV u;have D:(b9 (xs.drop i)).length=(xs.length-i)*7:=by rw[dV (lG.drop zK i),aS]
  generalize R:kn (xs.length+ys.length-i) [I 0,I 0,I 0,I 0,I 0,S [],V.aP]++kn (P-(i+(xs.length+ys.length-i))) [I 0,I 0,I 0,I 0,I 0,S [],V.aP]=Z;have a2:Z.length=(P-i)*7:=by rw[<-R,ae,oY rfl,oY rfl,<-dJ];congr 1;omega
  rw[aF,R]at q;repeat' simp(disch:=omega) only[gE,simprocAttr]
  refine sQ (fA:=H) (m:=ys.length) (src:=b9 ys) (cells:=b9 (xs.take i)++Z) (by simp only[simprocAttr,bx]) sT sT L (by rw[q,bh]) av (by rw[ae];omega) λt p d2 d3=>?_;rw[<-A,xl av,q,ni]at p;have ab:id≠E.Y:=ct dW;have bi:t.box id=some (b9 (xs.take i)++(b9 (xs.drop i)++rest)):=by rw[p,bD _ _ ab,eh,z,aF]
  have ci:=r9 bi;rw[A,D]at ci;repeat' simp(disch:=omega) only[gE,simprocAttr]
  refine sQ (fA:=t) (m:=xs.length-i) (src:=b9 (xs.drop i)) (cells:=b9 (xs.take i)++(b9 ys++Z.drop (b9 ys).length)) (by simp only[simprocAttr,bx]) sT (by simp only[da];simp only[qo,bP,ci,bF]) D (by rw[p,bh]) av (by simp only[ae,aS];omega) λac e1 e2 e3=>?_;rw[show((i:Int)+ys.length).toNat*7=(b9 (xs.take i)++b9 ys).length from by rw[ae,A,L,<-dJ];congr 1,<-aF,xl (by rw[aS];omega),p,ni]at e1;repeat' simp only[gE,simprocAttr]
  have hM:gu 7 ac (.ms 7 E.Y 0 (i+(xs.length+ys.length-i)) P) (xs.take i++ys++xs.drop i):=
   gu.mk (rest:=(Z.drop (b9 ys).length).drop (b9 (xs.drop i)).length) (((lG.take zK i).append u).append (lG.drop zK i)) (by rw[e3,d3,b3];exact dn _) (by rw[e1,bh];simp only[fU,aF])
    (by simp only[ae,aG,aS];omega) (by simp only[ae,aG,aS];omega) _ (by simp only[ae,aG,aS];omega)
  exact XT
 .have ad:∃c r,E.box id=some (c::r):=by
   exact X1
  repeat' first|simp(disch:=omega) only[dt,simprocAttr]|refine cs ?_ ?_<;>intro h<;>try omega
  refine TE (by simp only[da];exact .inr (.inr ⟨du,ad⟩)) ?_;have z:b9 xs=b9 (xs.take i)++b9 (xs.drop i):=ol i;have A:(b9 (xs.take i)).length=i*7:=by rw[dV (lG.take zK i),aG,dM d]
  have L:=dV u;have D:(b9 (xs.drop i)).length=(xs.length-i)*7:=by rw[dV (lG.drop zK i),aS]
  have bi:E.box id=some (b9 (xs.take i)++((b9 (xs.drop i)++rest.take (ys.length*7))++rest.drop (ys.length*7))):=by rw[eh,z,aF,aF,b8]
  have ci:=r9 bi;have aA:(b9 (xs.drop i)++rest.take (ys.length*7)).length=(xs.length+ys.length-i)*7:=by
   have aB:ys.length*7<=(c-xs.length)*7:=cj _ av;rw[ae,D,aG,j,dM aB,<-dJ];congr 1;omega
  rw[A,aA]at ci;repeat' simp(disch:=omega) only[gE,simprocAttr]
  have aC:((xs.length:Int)+ys.length).toNat-0-i=xs.length+ys.length-i:=av;refine QL (fA:=E) (m:=xs.length+ys.length-i) (src:=b9 (xs.drop i)++rest.take (ys.length*7)) (QM:=b9 (xs.drop i)) (cells:=b9 (xs.take i)++(b9 (xs.drop i)++rest)) (by simp only[simprocAttr,bx]) sT (by simp only[da];simp only[qo,bP,aC,ci,bF]) av ?_ (by rw[D];omega) (by rw[eh,z,aF]) (by simp only[ae];omega) λH q b2 b3=>?_
  .rw[show(((xs.length:Int)+ys.length).toNat-0-((i:Int)+ys.length).toNat)*(6+1)=(b9 (xs.drop i)).length from by rw[D];omega,gN]
  rw[show((i:Int)+ys.length).toNat*7=(b9 (xs.take i)).length+(b9 ys).length from by omega]at q;repeat' simp(disch:=omega) only[gE,simprocAttr]
  refine sQ (fA:=H) (m:=ys.length) (src:=b9 ys) (by simp only[simprocAttr,bx]) sT sT L (by rw[q,bh]) av ?_ λt p d2 d3=>?_
  .exact Yv
  rw[<-A,Zf (by rw[ae];omega),q,ni]at p;repeat' simp only[gE,simprocAttr]
  have hM:gu 7 t (.ms 7 id 0 (((xs.length:Int)+ys.length).toNat-0) c) (xs.take i++ys++xs.drop i):=
   gu.mk (rest:=(b9 (xs.drop i)++rest).drop ((b9 ys).length+(b9 (xs.drop i)).length)) (((lG.take zK i).append u).append (lG.drop zK i)) (by rw[d3,b3];exact dW) (by rw[p,bh];simp only[fU,aF])
    (by simp only[ae,aG,aS];omega) (by simp only[ae,aG,aS];omega) _ (by simp only[ae,aG,aS];omega)
  exact⟨nE,.ms 7 id 0 (((xs.length:Int)+ys.length).toNat-0) c,_,bC sT rfl,hM,bA.Ig p (by rw[d2,b2]) (by rw[d3,b3]),λk h=>.inl h⟩
def Rq(v:V)(xs ys:List V)(i n:Nat)(E:aK)(z:gu 7 E v xs)(t:i+n<=xs.length)(u:lG 7 ys)(hx:xs.length<=1000000)(a7:ys.length<=1000000):
 aI 329 [v,I i,I (i+n:Nat),.sl 7 ys] E λr _ H=>Vl v E H r (xs.take i++ys++xs.drop (i+n)):=by
 refine bk f329 ?_ [34,44,83,111,136,171,200,223] [3];have a8:=Rp v xs ys i E z av u hx a7;rcases cZ n with a0|a0
 .subst a0;rw[di];obtain⟨zK,⟨rfl,rfl⟩|⟨id,c,rest,rfl,dW,eh,a9,p⟩⟩:=id z;all_goals
   repeat' simp(disch:=omega) only[dt,simprocAttr]
   refine bz rfl a8 ?_ ?_ ?_
   .rfl
   .refine mV ?_;simp only[ee]<;>rfl
   rintro r _ H hM;repeat' simp only[gE,simprocAttr]
   exact⟨nE,r,_,bC sT hM.1.gD,hM⟩
 obtain⟨zK,⟨rfl,rfl⟩|⟨id,c,rest,rfl,dW,eh,a9,p⟩⟩:=id z
 .simp at t;omega
 have q:i<=xs.length:=av;have K:b9 xs=b9 (xs.take i)++b9 (xs.drop i):=ol i;have L:(b9 (xs.take i)).length=i*7:=by rw[dV (lG.take zK i),aG,dM q]
 have Q:=dV u;have a1:(b9 (xs.drop i)).length=(xs.length-i)*7:=by rw[dV (lG.drop zK i),aS]
 have bY:gu 7 E (.ms 7 id 0 i c) (xs.take i):=gu.mk (lG.take zK i) dW (by rw[eh,K,aF]) (by rw[aG];omega) (by rw[ae,a1,p,aG,dM q,<-dJ];congr 1;omega) i (by rw[aG];omega);have fd:b9 (xs.drop i)=b9 ((xs.drop i).take n)++b9 (xs.drop (i+n)):=by rw[ol (xs:=xs.drop i) n,dF]
 have bl:(b9 ((xs.drop i).take n)).length=n*7:=by rw[dV (lG.take (lG.drop zK i) n),aG,aS,dM av]
 have N:(b9 (xs.drop (i+n))).length=(xs.length-(i+n))*7:=by rw[dV (lG.drop zK (i+n)),aS]
 have bi:E.box id=some ((b9 (xs.take i)++b9 ((xs.drop i).take n))++(b9 (xs.drop (i+n))++rest)):=by rw[eh,K,fd];simp only[aF]
 have ci:=r9 bi;rw[ae,L,bl,N,<-dJ]at ci;have a2:∃c r,E.box id=some (c::r):=by
  exact X1
 rcases pw t with a3|a3
 .have e1:xs.take i++ys++xs.drop (i+n)=xs.take i++ys:=by rw[a3,jd,cD]
  rw[e1];rcases am c (i+ys.length)with R|R
  .repeat' first|simp(disch:=omega) only[dt,simprocAttr]|refine cs ?_ ?_<;>intro h<;>try omega
   refine iR (xs:=xs.take i) (ys:=ys) ?_ ?_ u ?_ ?_ rfl ?_ ?_ λw H P hb t=>?_
   .exact sT
   .exact sT
   .exact sT
   .simp only[da];intro l y;cases y
   .rw[aG];omega
   .simp only[da];intro e;cases e
   revert hb t
   simp only[da];intro hb t;have y:=P.len;rw[show(xs.take i++ys).length=i+ys.length from by rw[ae,aG,dM q]]at y;repeat' first|simp only[gE,simprocAttr,y]|refine cs ?_ ?_<;>intro h<;>try omega|refine ei ?_
   exact⟨nE,w,_,bC sT P.gD,P,hb,λk h=>by rcases t with e|e<;>rw[e]at h<;>cases h;exact .inl rfl;exact .inr (an _)⟩
  .repeat' first|simp(disch:=omega) only[dt,simprocAttr]|refine cs ?_ ?_<;>intro h<;>try omega
   refine NU (fA:=E) (m:=ys.length) (ys:=ys) (k:=i) (cells:=b9 (xs.take i)++(b9 (xs.drop i)++rest)) (by simp only[simprocAttr,bx]) sT sT u (by simp only[da];intro l y;cases y) rfl (by rw[eh,K,aF]) R (by simp only[ae];omega) av λf a b2 b3=>?_;rw[<-L,xl (by rw[ae];omega)]at a;have hO:=(lG.take zK i).append u;have j:(xs.take i++ys).length=i+ys.length:=by rw[ae,aG,dM q]
   have ai:((b9 (xs.drop i)++rest).drop (b9 ys).length).length=(c-(i+ys.length))*7:=by rw[aS,ae,a1,p,Q];omega
   generalize (b9 (xs.drop i)++rest).drop (b9 ys).length=X at a ai;rcases am (i+ys.length) xs.length with aA|aA
   .repeat' first|simp(disch:=omega) only[gE,simprocAttr]|refine cs ?_ ?_<;>intro h<;>try omega|refine ei ?_
    refine EV (fA:=f) (cells:=b9 (xs.take i)++(b9 ys++X)) (by simp only[simprocAttr,bx]) sT rfl (by rw[a,bh]) (by simp only[ae];omega) λo d d2 d3=>?_;rw[<-aF,show(i+ys.length)*7=(b9 (xs.take i)++b9 ys).length from by rw[ae];omega]at d;have b6:=oY (zs:=[I 0,I 0,I 0,I 0,I 0,S [],V.aP]) (sz:=7) rfl (xs.length-(i+ys.length));have e2:=xl (A:=b9 (xs.take i)++b9 ys) (W:=kn (xs.length-(i+ys.length)) [I 0,I 0,I 0,I 0,I 0,S [],V.aP]) (D:=X) av;rw[show aQ (b9 (xs.take i)++b9 ys++X) (b9 (xs.take i)++b9 ys).length (kn (xs.length-(i+ys.length)) [V.int IntKind.i64 0,V.int IntKind.i64 0,V.int IntKind.i64 0,V.int IntKind.i64 0,V.int IntKind.i64 0,V.str [],V.aP])=_ from e2,a,ni]at d;repeat' simp only[gE,simprocAttr]
    refine⟨nE,.ms 7 id 0 (i+ys.length) c,_,bC sT rfl,gu.mk hO (by rw[d3,b3];exact dW) (by rw[d,bh,fU]) av ?_ _ j.symm,bA.Ig d (by rw[d2,b2]) (by rw[d3,b3]),λk h=>.inl h⟩;rw[ae,aS,j];omega
   .repeat' first|refine k7 ?_|refine cs ?_ ?_<;>intro h<;>try omega|refine ei ?_
    exact⟨nE,.ms 7 id 0 (i+ys.length) c,_,bC sT rfl,gu.mk hO (by rw[b3];exact dW) (by rw[a,bh,fU,aF]) av (by rw[ai,j]) _ j.symm,bA.Ig a b2 b3,λk h=>.inl h⟩
 have hO:=((lG.take zK i).append u).append (lG.drop zK (i+n));have j:(xs.take i++ys++xs.drop (i+n)).length=i+ys.length+(xs.length-(i+n)):=by rw[ae,ae,aG,dM q,aS]
 have aB:((i:Int)+ys.length).toNat*7=(b9 (xs.take i)++b9 ys).length:=by rw[ae];omega
 rcases am c (i+ys.length+(xs.length-(i+n)))with R|R
 .repeat' first|simp(disch:=omega) only[dt,simprocAttr]|refine cs ?_ ?_<;>intro h<;>try omega
  refine JC (fA:=E) (m:=ys.length+(xs.length-(i+n))) (k:=i) (xs:=xs.take i) (rest:=b9 (xs.drop i)++rest) (by simp only[simprocAttr,bx]) sT (by rw[aG];omega) (lG.take zK i) (by simp only[da];(congr 1;omega)) (by rw[eh,K,aF]) av av av λf aC b5 a b2 b3=>?_;generalize a4:kn (ys.length+(xs.length-(i+n))) [I 0,I 0,I 0,I 0,I 0,S [],V.aP]++kn (aC-(i+(ys.length+(xs.length-(i+n))))) [I 0,I 0,I 0,I 0,I 0,S [],V.aP]=Z;have b7:Z.length=(aC-i)*7:=by rw[<-a4,ae,oY rfl,oY rfl,<-dJ];congr 1;omega
  rw[aF,a4]at a;repeat' simp(disch:=omega) only[gE,simprocAttr]
  refine sQ (fA:=f) (m:=ys.length) (src:=b9 ys) (cells:=b9 (xs.take i)++Z) (by simp only[simprocAttr,bx]) sT sT Q (by rw[a,bh]) av (by rw[ae];omega) λo d d2 d3=>?_;rw[<-L,xl av,a,ni]at d;have a5:id≠E.Y:=ct dW;have ab:o.cells id ((i+n)*7) ((xs.length-(i+n))*7)=some (b9 (xs.drop (i+n))):=by
   rw[<-ci];unfold aK.cells;rw[d,bD _ _ a5]
  repeat' simp(disch:=omega) only[gE,simprocAttr]
  refine sQ (fA:=o) (m:=xs.length-(i+n)) (src:=b9 (xs.drop (i+n))) (cells:=b9 (xs.take i)++(b9 ys++Z.drop (b9 ys).length)) (by simp only[simprocAttr,bx]) sT (by simp only[da];simp only[qo,bP,ab,bF]) N (by rw[d,bh]) av (by simp only[ae,aS];omega) λac e1 e2 e3=>?_;rw[aB,<-aF,xl (by rw[aS];omega),d,ni]at e1;repeat' simp only[gE,simprocAttr]
  have hM:gu 7 ac (.ms 7 E.Y 0 (i+(ys.length+(xs.length-(i+n)))) aC) (xs.take i++ys++xs.drop (i+n)):=
   gu.mk (rest:=(Z.drop (b9 ys).length).drop (b9 (xs.drop (i+n))).length) hO (by rw[e3,d3,b3];exact dn _) (by rw[e1,bh];simp only[fU,aF])
    (by rw[j];omega) (by rw[j];simp only[aS];omega) _ (by rw[j];omega)
  exact XT
 have ad:b9 xs++rest=b9 (xs.take i)++(b9 (xs.drop i)++rest):=by rw[K,aF]
 rcases am n ys.length with aA|aA
 .repeat' first|simp(disch:=omega) only[dt,simprocAttr]|refine cs ?_ ?_<;>intro h<;>try omega
  refine TE (by simp only[da];exact .inr (.inr ⟨du,a2⟩)) ?_;repeat' simp(disch:=omega) only[gE,simprocAttr]
  refine sQ (fA:=E) (m:=xs.length-(i+n)) (src:=b9 (xs.drop (i+n))) (cells:=b9 (xs.take i)++(b9 (xs.drop i)++rest)) (by simp only[simprocAttr,bx]) sT (by simp only[da];simp only[qo,bP,ci,bF]) N (by rw[eh,ad]) av (by simp only[ae];omega) λf a b2 b3=>?_;rw[aB,ae]at a;repeat' simp(disch:=omega) only[gE,simprocAttr]
  refine sQ (fA:=f) (m:=ys.length) (src:=b9 ys) (by simp only[simprocAttr,bx]) sT sT Q (by rw[a,bh]) av ?_ λo d d2 d3=>?_
  .exact Yv
  rw[<-L,Zf (by rw[ae];omega),a,ni]at d;repeat' simp only[gE,simprocAttr]
  refine⟨nE,.ms 7 id 0 ((((i-0:Nat):Int)+ys.length+(xs.length-(i+n):Nat)).toNat-0) (c-0),_,bC sT rfl,gu.mk (rest:=(b9 (xs.drop i)++rest).drop ((b9 ys).length+(b9 (xs.drop (i+n))).length)) hO (by rw[d3,b3];exact dW) (by rw[d,bh];simp only[fU,aF]) av ?_ _ av,bA.Ig d (by rw[d2,b2]) (by rw[d3,b3]),λk h=>.inl h⟩;rw[j,aS,ae];omega
 .repeat' first|simp(disch:=omega) only[dt,simprocAttr]|refine cs ?_ ?_<;>intro h<;>try omega
  refine sQ (fA:=E) (m:=ys.length) (src:=b9 ys) (cells:=b9 (xs.take i)++(b9 (xs.drop i)++rest)) (by simp only[simprocAttr,bx]) sT sT Q (by rw[eh,ad]) av (by simp only[ae];omega) λf a b2 b3=>?_;rw[<-L,xl (by simp only[ae];omega),fd,aF,i5 av]at a;have bo:f.box id=some ((b9 (xs.take i)++(b9 ys++(b9 ((xs.drop i).take n)).drop (b9 ys).length))++(b9 (xs.drop (i+n))++rest)):=by rw[a,bh];simp only[aF]
  have ab:=r9 bo;rw[show(b9 (xs.take i)++(b9 ys++(b9 ((xs.drop i).take n)).drop (b9 ys).length)).length=(i+n)*7 from by simp only[ae,aS];omega,N]at ab;repeat' simp(disch:=omega) only[gE,simprocAttr]
  refine sQ (fA:=f) (m:=xs.length-(i+n)) (src:=b9 (xs.drop (i+n))) (cells:=(b9 (xs.take i)++b9 ys)++((b9 ((xs.drop i).take n)).drop (b9 ys).length++(b9 (xs.drop (i+n))++rest))) (by simp only[simprocAttr,bx]) sT (by simp only[da];simp only[qo,bP,ab,bF]) N (by rw[a,bh,aF]) av (by simp only[ae,aS];omega) λo d d2 d3=>?_;rw[aB,xl (by simp only[ae,aS];omega),a,ni]at d;generalize hX:((b9 ((xs.drop i).take n)).drop (b9 ys).length++(b9 (xs.drop (i+n))++rest)).drop (b9 (xs.drop (i+n))).length=X at d;have ai:X.length=(c-(i+ys.length+(xs.length-(i+n))))*7:=by rw[<-hX];simp only[ae,aS];omega
  repeat' simp(disch:=omega) only[gE,simprocAttr]
  have bs:(((i-0:Nat):Int)+ys.length+(xs.length-(i+n):Nat)).toNat=i+ys.length+(xs.length-(i+n)):=av;refine EV (fA:=o) (cells:=b9 (xs.take i)++b9 ys++(b9 (xs.drop (i+n))++X)) (by simp only[simprocAttr,bx]) sT rfl (by rw[d,bh]) (by simp only[ae];omega) λac aD bu a6=>?_;have ca:=oY (zs:=[V.int IntKind.i64 0,V.int IntKind.i64 0,V.int IntKind.i64 0,V.int IntKind.i64 0,V.int IntKind.i64 0,V.str [],V.aP]) (sz:=7) rfl (xs.length-(i+ys.length+(xs.length-(i+n))));have bv:aQ (b9 (xs.take i)++b9 ys++b9 (xs.drop (i+n))++X) (b9 (xs.take i)++b9 ys++b9 (xs.drop (i+n))).length (kn (xs.length-(i+ys.length+(xs.length-(i+n)))) [V.int IntKind.i64 0,V.int IntKind.i64 0,V.int IntKind.i64 0,V.int IntKind.i64 0,V.int IntKind.i64 0,V.str [],V.aP])=_:=xl av;rw[bs,show(i+ys.length+(xs.length-(i+n)))*7=(b9 (xs.take i)++b9 ys++b9 (xs.drop (i+n))).length from by simp only[ae];omega,<-aF,bv,d,ni]at aD;repeat' simp only[gE,simprocAttr]
  refine⟨nE,.ms 7 id 0 ((((i-0:Nat):Int)+ys.length+(xs.length-(i+n):Nat)).toNat-0) (c-0),_,bC sT rfl,gu.mk hO (by rw[a6,d3,b3];exact dW) (by rw[aD,bh,fU,fU]) av ?_ _ av,bA.Ig aD (by rw[bu,d2,b2]) (by rw[a6,d3,b3]),λk h=>.inl h⟩;rw[j,ae,aS];omega
def BQ{q:Nat}(h:q<18446744073709551616):(BitVec.ofInt 64 18446744073709551615 ^^^ BitVec.ofInt 64 (q:Int)).toNat=18446744073709551615-q:=by
 have e:BitVec.ofInt 64 18446744073709551615=BitVec.allOnes 64:=du;rw[e,BitVec.allOnes_xor,BitVec.toNat_not,ji];omega
def LA{q:Nat}(h:q<256):(BitVec.ofInt 8 (q:Int) ^^^ BitVec.ofInt 8 255).toNat=255-q:=by
 have e:BitVec.ofInt 8 255=BitVec.allOnes 8:=du;rw[e,BitVec.xor_allOnes,BitVec.toNat_not,ji];omega
def LB{q:Nat}(h:q<256):(BitVec.ofInt 8 (q:Int) ^^^ BitVec.ofInt 8 0).toNat=q:=by
 have e:BitVec.ofInt 8 0=0#8:=du;rw[e,BitVec.xor_zero,ji];omega
def Gm{q:Nat}(h:q<256)(b:Prop)[Decidable b]:IntKind.u8.wrap ((BitVec.ofInt IntKind.u8.bits (q:Int) ^^^ BitVec.ofInt IntKind.u8.bits (if b then 255 else 0)).toNat:Int)=if b then 255-(q:Int)else q:=by
 by_cases hb:b
 .rw[ax hb,ax hb];have:=LA h;rw[show(BitVec.ofInt IntKind.u8.bits (q:Int) ^^^ BitVec.ofInt IntKind.u8.bits 255).toNat=255-q from this,wrap_u8 av av];omega
 .rw[al hb,al hb];have:=LB h;rw[show(BitVec.ofInt IntKind.u8.bits (q:Int) ^^^ BitVec.ofInt IntKind.u8.bits 0).toNat=q from this,wrap_u8 av av]
def DU(q:Nat):IntKind.u8.wrap (q:Int)=((q%256:Nat):Int):=by
 show(let m:=(q:Int)%(2^8:Int);if false&&decide (m>=(2^7:Int))then m-(2^8:Int)else m)=_;exact Uw
def qi{n:Int}(a:0<=n)(h2:n<=18446744073709551615):IntKind.wrap .u64 n=n:=by
 show(let m:=n%(2^64:Int);if false&&decide (m>=(2^63:Int))then m-(2^64:Int)else m)=n;exact Uw
def Im{n:Int}(a:n<0)(h2: -18446744073709551616<=n):IntKind.wrap .u64 n=n+18446744073709551616:=by
 show(let m:=n%(2^64:Int);if false&&decide (m>=(2^63:Int))then m-(2^64:Int)else m)=_;exact Uw
def ZA{n:Int}(h:n<0)(f: -9223372036854775808<=n):IntKind.u64.wrap ((BitVec.ofInt IntKind.u64.bits (if IntKind.u64.signed=true then -1 else IntKind.u64.max) ^^^ BitVec.ofInt IntKind.u64.bits (IntKind.u64.wrap n)).toNat:Int)=jp n:=by
 obtain⟨q,rfl⟩:∃q:Nat,n=(q:Int)-18446744073709551616:=⟨(n+18446744073709551616).toNat,av⟩;have a:q<18446744073709551616:=av;rw[Im h av];have e:=BQ a;have d:((q:Int)-18446744073709551616+18446744073709551616)=q:=av;rw[d,show(BitVec.ofInt IntKind.u64.bits (if IntKind.u64.signed=true then -1 else IntKind.u64.max) ^^^ BitVec.ofInt IntKind.u64.bits (q:Int)).toNat=18446744073709551615-q from e,qi av av];unfold jp;rw[ax h];omega
def BS:∀(m i:Nat)(h:i< (i3 m).length),(i3 m)[i]=m/256^i%256:=by
 intro m;induction m using Nat.strongRecOn with
 |_ m ih=>
  intro i h;by_cases a:m=0
  .subst a;simp[vi]at h
  .have e:=uF a;cases i with
   |zero=>simp[e]
   |succ i=>
    have d:i< (i3 (m/256)).length:=by rw[e]at h;simpa using h
    have:=ih (m/256) av i d;simp only[e,cP,this,kJ,nX,jX]
def JS{k m:Nat}(h:256^k<=m):k< (i3 m).length:=by
 induction k generalizing m with
 |zero=>rw[uF (by simpa using oL.1 h)];simp
 |succ k ih=>
  have a:m≠0:=by have:=rl (n:=k+1) (show 0<256 by omega);omega
  rw[uF a,aM];have:256^k<=m/256:=by rw[Nat.le_div_iff_mul_le av,<-nX];exact h
  have:=ih this;omega
def Gn(m i:Nat)(f:i<8):(m:Int).fdiv (2^min (8*(i:Int)).toNat IntKind.u64.bits)=((m/256^i:Nat):Int):=by
 have e:min (8*(i:Int)).toNat IntKind.u64.bits=8*i:=by
  show min (8*(i:Int)).toNat 64=_;omega
 have a:(2 ^(8*i):Int)=((256^i:Nat):Int):=by
  have d:(2 ^(8*i):Nat)=256^i:=by rw[Nat.pow_mul]
  rw[<-d];norm_cast
 rw[e,a,<-Int.ofNat_fdiv]
def JT{k m:Nat}(h:m<256^k)(a:k=0\/256 ^(k-1)<=m):(i3 m).length=k:=by
 have d:=r8 k m h;rcases a with rfl|a
 .omega
 .have:=JS a;omega
def Rr{n:Int}{m:Nat}(a:jp n=m)(f:(i3 m).length<=8):V.sl 1 (.int .u8 (if n<0 then 127-(i3 m).length else 128+(i3 m).length)::((i3 m).reverse.map λd:Nat=>V.int .u8 (if n<0 then 255-d else d)))=dc (cC n):=by
 have l5:∀d∈(i3 m).reverse,d<256:=λd hd=>QA m d (List.mem_reverse.1 hd);simp only[dc,cC,a];exact aaS
def ZB:CF GL f161 [46] [] 161:=jo
def sX(n:Int)(h:jG n):af 161 [I n] (dc (cC n)) true:=by
 obtain⟨u,q⟩:=h;refine pq ZB.ok rfl (by simp only[dx]) ?_;simp only[dt,simprocAttr];refine Bw (D:=[3,4,10,11,12,13]) (bJ:=[]) (λm:Nat=>m=jp n) (λm=>[(3,.int .u64 m,false),(4,.int .u8 (if n<0 then 255 else 0),false)]) rfl rfl (λ_=>rfl) ?_ rfl ?_
 .repeat' first|simp(disch:=omega) only[dt,simprocAttr]|refine cs ?_ ?_<;>intro h|(refine⟨jp n,⟨?_⟩,?_⟩;rotate_left;focus (simp only[fR,fM,bL,cK];and_intros;all_goals(try(simp only[mR,simprocAttr]));all_goals(try(first|with_reducible exact .refl _|(intro h;cases h;done)|((repeat with_reducible (first|exact Kept.refl _|refine eF ?_|refine eO ?_));done)))))
  all_goals first|exact ak (aq (V.int .u64) (ZA h u))|(refine ak (aq (V.int .u64) ?_);rw[qi h av];unfold jp;rw[al av];omega)
 rintro m hm;have hb:m<256^8:=by subst hm;unfold jp;split<;>omega
 have y:(i3 m).length<=8:=r8 8 m hb;have A:∀k:Nat,k< (i3 m).length->(i3 m)[k]?=some (m/256^k%256):=λk l=>by rw[aa l,BS]
 repeat' simp only[dt,simprocAttr]
 refine Bw (D:=[5,14,15,16,17,18,19,20,21,22,23]) (bJ:=[]) (λ_:Unit=>True) (λ_=>[(5,I (i3 m).length,false)]) rfl rfl (λ_=>rfl) ?_ rfl ?_
 .repeat' simp only[dt,simprocAttr]
  refine sl (λk:Nat=>k<=8/\m<256^k) (λk=>[(5,I k,false)]) (λk=>k) (8) (⟨av,hb⟩) ?_;rintro k ⟨l,j⟩;rcases k with _|k
  .repeat any_goals first|simp only[dt,simprocAttr]|refine bZ ?_ ?_<;>intro h<;>(try simp only[h])<;>try simp only[jg]at h|(refine⟨(),⟨?_⟩,?_⟩;rotate_left;focus (simp only[fR,fM,bL,cK];and_intros;all_goals(try(simp only[mR,simprocAttr]));all_goals(try(first|(intro h;cases h;done)|((repeat with_reducible (first|exact Kept.refl _|refine eF ?_|refine ec ?_));done)))))
   all_goals exact ak (aq I (by rw[JT j (.inl rfl)]<;>rfl))
  have o:((k+1:Nat):Int)-1=(k:Int):=av;have p:=Gn m k av;repeat' first|simp(disch:=omega) only[dt,simprocAttr,o,p]|refine cs ?_ ?_<;>intro h<;>try omega|refine ba k ?_|(refine⟨(),⟨?_⟩,?_⟩;rotate_left;focus (simp only[fR,fM,bL,cK];and_intros;all_goals(try(simp only[mR]));all_goals(try(first|(intro h;cases h;done)|((repeat with_reducible (first|exact Kept.refl _|refine eF ?_|refine ec ?_));done)))))
  .have r:0<m/256^k:=av;have q:256^k<=m:=by
    rcases am m (256^k)with a|a
    .rw[ll a]at r;omega
    .exact a
   exact ak (aq I (by rw[JT j (.inr q)]))
  .have r:m/256^k=0:=rk.1 (by exact_mod_cast h);refine⟨av,?_⟩;rcases am m (256^k)with a|a
   .exact a
   .have:=Nat.div_pos a (rl av);omega
 rintro - -
 have z:IntKind.u8.wrap ((BitVec.ofInt IntKind.u8.bits (128+((i3 m).length:Int)) ^^^ BitVec.ofInt IntKind.u8.bits (if n<0 then 255 else 0)).toNat:Int)=if n<0 then 127-((i3 m).length:Int)else 128+(i3 m).length:=by
  rw[show(128+((i3 m).length:Int))=((128+(i3 m).length:Nat):Int)by omega,Gm (by omega)];rcases Decidable.em (n<0)with f|f
  .rw[ax f,ax f];omega
  .rw[al f,al f]
 repeat' simp(disch:=omega) only[dt,simprocAttr]
 refine ns (D:=[6,7,32,33,34,35,36,37,38,39,40,41,42,43,44,45]) (bJ:=[]) (λk:Nat=>k<=(i3 m).length) (λk=>[(7,I (k-1),false),(6,.sl 1 (.int .u8 (if n<0 then 127-(i3 m).length else 128+(i3 m).length)::((i3 m).drop k).reverse.map λd:Nat=>.int .u8 (if n<0 then 255-d else d)),true)]) (λk=>k) ((i3 m).length) rfl rfl rfl (λ_=>rfl) (an _) ?_ ?_ ?_;(·((simp only[ft,simprocAttr];and_intros<;>try first|exact .aP _|omega));all_goals((refine ak ?_;rw[jd,z];rfl)));(·((simp only[fM];and_intros)));rintro k l;rcases k with _|k
 .repeat' first|simp(disch:=omega) only[dt,simprocAttr]|refine bZ ?_ ?_<;>intro h<;>(try simp only[h])<;>try simp only[jg]at h|apply rJ rfl rfl rfl
  exact ak (Rr hm.symm y)
 have o:((k+1:Nat):Int)-1=(k:Int):=av;have p:=Gn m k av;repeat' first|simp(disch:=try exact om) only[dt,simprocAttr,o,p,DU]|refine cs ?_ ?_<;>intro h<;>try omega|(refine⟨k,⟨?_⟩,⟨av⟩,?_⟩;rotate_left;focus (simp only[ft,simprocAttr];try omega))
 .refine ak ?_;have t:k< (i3 m).length:=av;rw[bG t,BS];simp only[List.reverse_cons,az,bt,cV,aZ];rw[<-DU,Gm (fI _ av)]
 .omega
def JU(s:T)(h:s.length<=1000000000):af 199 [S s] (dc (dD s)) true:=by
 have:=gB s.length (by unfold jG;omega);refine pk f199 ?_;repeat' first|simp(disch:=try exact om) only[dt,simprocAttr,dc]|refine lq (sX s.length (by unfold jG;omega)) ?_|apply rJ rfl rfl rfl
 exact ak (by simp only[dD,az])
def ra(l:List Int)(h:l.length<=10000000)(a:∀n∈l,jG n):af 158 [fq l] (dc (cX l)) true:=by
 have:=gB l.length (by unfold jG;omega);refine pk f158 ?_ [20];repeat' first|simp only[dt,simprocAttr,fq,dc]|refine lq (sX l.length (by unfold jG;omega)) ?_
 refine sl (λk:Nat=>k<=l.length) (λk=>[(11,I k,false),(3,dc (cC l.length++(l.take k).flatMap cC),true)]) (λk=>l.length-k) (0) (aL _) ?_;rintro k f;have d:((l.take k).flatMap cC).length<=9*(l.take k).length:=mh _ _ _ λx hx=>gB x (a x (dQ hx));rw[aG]at d;rcases am k l.length with Uo|Uo
 .have j:=gB l[k] (a _ (ah _));repeat' first|simp(disch:=try exact om) only[dt,simprocAttr,dc]|refine cs ?_ ?_<;>intro h<;>try omega|(refine⟨k+1,⟨?_⟩,⟨av⟩,?_⟩;rotate_left;focus (simp only[ft,simprocAttr];and_intros<;>try first|exact .aP _|omega))|refine lq (sX l[k] (a _ (ah _))) ?_
  .exact ak (by rw[sM _ Uo];simp)
  .omega
 .exact XY
def Ar(l:List T)(h:l.length<=100000)(hr:∀s∈l,s.length<=8192):af 159 [eZ l] (dc (g7 l)) true:=by
 have:=gB l.length (by unfold jG;omega);refine pk f159 ?_ [20];repeat' first|simp only[dt,simprocAttr,eZ,dc]|refine lq (sX l.length (by unfold jG;omega)) ?_
 refine sl (λk:Nat=>k<=l.length) (λk=>[(11,I k,false),(3,dc (cC l.length++(l.take k).flatMap dD),true)]) (λk=>l.length-k) (0) (aL _) ?_;rintro k d;have a:((l.take k).flatMap dD).length<=8201*(l.take k).length:=mh _ _ _ λx hx=>by
  exact Yj
 rw[aG]at a;rcases am k l.length with Uo|Uo
 .have f:=hr _ (ah Uo);have j:=my l[k] av;repeat' first|simp(disch:=try exact om) only[dt,simprocAttr,dc]|refine cs ?_ ?_<;>intro h<;>try omega|(refine⟨k+1,⟨?_⟩,⟨av⟩,?_⟩;rotate_left;focus (simp only[ft,simprocAttr];and_intros<;>try first|exact .aP _|omega))|refine lq (JU l[k] av) ?_
  .exact ak (by rw[sM _ Uo];simp)
  .omega
 .exact XY
def Vm{m c:Nat}(a:c<256):m<<<8|||c=m*256+c:=by
 have:=Nat.two_pow_add_eq_or_of_lt (i:=8) (b:=c) av m;rw[Nat.shiftLeft_eq,jX,<-this]
def LC(n:Int)(h:jG n)(r:T):∃k:Nat,k=(i3 (jp n)).length/\k<=8/\(cC n++r).length=1+k+r.length/\(cC n).length=1+k/\jp n<256^k/\jp n<9223372036854775808/\
 (∀h0:0< (cC n++r).length,((cC n++r)[0].toNat:Int)=if n<0 then 127-k else 128+k)/\
 (∀i,i<k->∀p:1+i< (cC n++r).length,((cC n++r)[1+i].toNat:Int)=if n<0 then 255-(jp n/256 ^(k-1-i)%256:Nat)else(jp n/256 ^(k-1-i)%256:Nat))/\
 (0<k->jp n/256 ^(k-1)%256≠0):=by
 obtain⟨p,H⟩:=h;have q:jp n<9223372036854775808:=by unfold jp;split<;>omega
 have t:(i3 (jp n)).length<=8:=r8 8 _ av;have a:jp n<256 ^(i3 (jp n)).length:=by
  rcases am (jp n) (256 ^(i3 (jp n)).length)with h|h
  .exact h
  .exact absurd (JS h) av
 have f:(cC n).length=1+(i3 (jp n)).length:=by unfold cC;split<;>simp<;>omega
 refine⟨_,rfl,t,by rw[ae,f],f,a,q,λh0=>?_,λi u l=>?_,λK=>?_⟩
 .have e:(cC n++r)[0]?=some (UInt8.ofNat (if n<0 then 127-(i3 (jp n)).length else 128+(i3 (jp n)).length)):=by unfold cC;split<;>rfl
  rw[aa h0]at e;rw[ar e];split<;>(rw[rI av];try omega)
 .have y:∀j (d:j< (i3 (jp n)).length),(i3 (jp n))[j]?=some (jp n/256^j%256):=λj d=>by rw[aa d,BS _ _ d]
  have z:=y ((i3 (jp n)).length-1-i) av;have A:jp n/256 ^((i3 (jp n)).length-1-i)%256<256:=fI _ av;have e:(cC n++r)[1+i]?=some (UInt8.ofNat (if n<0 then 255-jp n/256 ^((i3 (jp n)).length-1-i)%256 else jp n/256 ^((i3 (jp n)).length-1-i)%256)):=by
   rw[dH av,Nat.add_comm];unfold cC;split<;>simp only[ez,bw,List.getElem?_reverse u,z,bF]
  rw[aa l]at e;rw[ar e];split<;>(rw[rI (by omega)];try omega)
 .have D:256 ^((i3 (jp n)).length-1)<=jp n:=by
   rcases am (jp n) (256 ^((i3 (jp n)).length-1))with h|h
   .have:=r8 _ _ h;omega
   .exact h
  have o:0<256 ^((i3 (jp n)).length-1):=rl av;have L:1<=jp n/256 ^((i3 (jp n)).length-1):=(Nat.one_le_div_iff o).2 D;have N:jp n/256 ^((i3 (jp n)).length-1)<256:=by
   rw[iB o,<-Nat.pow_succ',show((i3 (jp n)).length-1).succ=(i3 (jp n)).length by omega];exact a
  omega
def Rs{q:Nat}(h:q<9223372036854775808):IntKind.i64.wrap (IntKind.u64.wrap ↑(BitVec.ofInt IntKind.u64.bits (if IntKind.u64.signed=true then -1 else IntKind.u64.max) ^^^ BitVec.ofInt IntKind.u64.bits (q:Int)).toNat)= -1-q:=by
 have e:=BQ (q:=q) av;rw[show(BitVec.ofInt IntKind.u64.bits (if IntKind.u64.signed=true then -1 else IntKind.u64.max) ^^^ BitVec.ofInt IntKind.u64.bits (q:Int)).toNat=18446744073709551615-q from e,qi av av];show(let m:=((18446744073709551615-q:Nat):Int)%(2^64:Int);if true&&decide (m>=(2^63:Int))then m-(2^64:Int)else m)=_;simp only[hI,cq];rw[ax av];omega
def Vn{q:Nat}(h:q<9223372036854775808):Int.fdiv (q:Int) (2^min 63 IntKind.u64.bits)=0:=by
 rw[show(2^min 63 IntKind.u64.bits:Int)=((9223372036854775808:Nat):Int)by rfl,<-Int.ofNat_fdiv,ll h];rfl
def abt(K:Nat)(L:T):List.take (((K:Int)+1).toNat-1) (List.drop 1 (List.map (λb=>V.int IntKind.u8 b.toNat) L))=List.map (λb=>V.int IntKind.u8 b.toNat) ((L.drop 1).take K):=by
 rw[show((K:Int)+1).toNat-1=K by omega,jw,gG]
def TI{m c:Nat}(hm:m<72057594037927936)(a:c<256):IntKind.u64.wrap ↑(BitVec.ofInt IntKind.u64.bits (IntKind.u64.wrap ((m:Int)*2^min 8 IntKind.u64.bits))|||BitVec.ofInt IntKind.u64.bits (IntKind.u64.wrap (c:Int))).toNat=((m*256+c:Nat):Int):=by
 have d:((m:Int)*2^min 8 IntKind.u64.bits)=((m*256:Nat):Int):=by
  rw[show(2^min 8 IntKind.u64.bits:Int)=256 by rfl];omega
 rw[d,qi (n:=((m*256:Nat):Int)) av av,qi (n:=(c:Int)) av av];have f:(BitVec.ofInt IntKind.u64.bits ((m*256:Nat):Int)|||BitVec.ofInt IntKind.u64.bits (c:Int)).toNat=m*256+c:=by
  rw[BitVec.toNat_or,ji,ji];rw[show(((m*256:Nat):Int)%((2^IntKind.u64.bits:Nat):Int)).toNat=m*256 by
   show(((m*256:Nat):Int)%((2^64:Nat):Int)).toNat=m*256;omega]
  rw[show((c:Int)%((2^IntKind.u64.bits:Nat):Int)).toNat=c by
   show((c:Int)%((2^64:Nat):Int)).toNat=c;omega]
  have:=Vm (m:=m) a;rw[Nat.shiftLeft_eq]at this;exact this
 rw[f,qi av av]
def BT(q j:Nat):q/256 ^(j+1)*256+q/256^j%256=q/256^j:=by
 rw[nX,<-kJ,jX];exact lW _ _
def Gp{q:Nat}(h:q<9223372036854775808)(j:Nat):q/256 ^(j+1)<72057594037927936:=by
 rw[Nat.pow_succ',<-kJ];exact mc (Nat.div_le_self _ _) av
def Fa(n:Int)(h:jG n)(r:T)(ca:r.length<=1000000000):af 260 [dc (cC n++r)] (.hJ [I n,I (cC n).length,I 0]):=by
 obtain⟨k,b6,b7,a4,b3,z,a5,g0,K,gt⟩:=LC n h r;rw[b3];generalize cC n++r=L at*
 have bu:0<L.length:=av;replace g0:=g0 bu;have a6:jp n=(if n<0 then -1-n else n).toNat:=rfl;generalize jp n=q at*
 have N:=abt k L;obtain⟨M,P⟩:∃M,(L.drop 1).take k=M:=⟨_,rfl⟩;rw[P]at N;have A:M.length=k:=by rw[<-P,aG,aS];omega
 have a7:∀i (Q:i<k)(bi:i<M.length),M[i]=L[1+i]'av:=λi Q bi=>by subst P;rw[iV,mM]
 have l:=Vn a5;have R:=Rs a5;by_cases bv:n<0
 .simp only[ax bv]at g0 K a6;have a8: -1-(q:Int)=n:=av;have o:=Gm (q:=127-k) av True;simp only[bP]at o;obtain⟨H,hH⟩:∃H:Nat,127-k=H:=⟨_,rfl⟩;simp only[hH]at g0 o;have a:255-(H:Int)-128=k:=av;have bl:∀D,0<k->255-q/256 ^(k-1)%256=D->¬255-(D:Int)=0:=λD d bi=>by have:=gt d;have:q/256 ^(k-1)%256<256:=fI _ av;omega
  rcases cZ k with p|p
  .have ab:q=0:=by rw[p]at z;omega
   have ac:n= -1:=av;subst ac;rw[ab]at R l;have ad:M=[]:=bH.1 av;have f:(k:Int)=0:=av;have ai:=N;rw[f,ad]at ai;rw[f]at a;rw[p];have a9:IntKind.i64.wrap 0=0:=rfl;refine pk f260 ?_;repeat' first|simp(disch:=try exact om) only[dt,simprocAttr,g0,a4,o,a]|(first|refine bZ ?_ ?_|refine c8 ?_ ?_)<;>intro h<;>(try simp only[bM]at h)<;>(try simp only[h])<;>(try simp only[jg]at h)<;>try omega|refine ei ?_
   refine ns (D:=[7,9,48,49,50,51,52,53,54,55,56,57,58,59]) (bJ:=[]) (λi:Nat=>i<=0) (λi=>[(48,I i,false),(7,.int .u64 0,false)]) (λi=>0-i) (0) rfl rfl rfl (λ_=>rfl) (an _) ?_ ?_ ?_;iterate 2 ·(simp only[ft,simprocAttr];try omega)
   rintro i Q;obtain rfl:i=0:=av;repeat' first|simp(disch:=omega) only[dt,simprocAttr,show Int.fdiv 0 (2^min 63 IntKind.u64.bits)=0 from rfl]|refine bZ ?_ ?_<;>intro h<;>(try simp only[jg]at h)<;>try(exact absurd trivial h)|refine ei ?_|apply Hm rfl rfl rfl rfl rfl rfl
   all_goals exact .refl _
  .have g1:=K 0 av av;have t:=Gm (q:=255-q/256 ^(k-1-0)%256) (by have:q/256 ^(k-1-0)%256<256:=fI _ av;omega) True;simp only[bP]at t;simp only[di,hA]at g1 t;obtain⟨D,aA⟩:∃D:Nat,255-q/256 ^(k-1)%256=D:=⟨_,rfl⟩;simp only[aA]at g1 t;have bY:=bl D p aA;have b2:IntKind.i64.wrap (q:Int)=q:=wrap_i64 av av;refine pk f260 ?_;repeat' first|simp(disch:=try exact om) only[dt,simprocAttr,g0,g1,a4,o,t,a,N]|(first|refine cz ?_ ?_|refine gz ?_ ?_)<;>intro bo h<;>(try simp only[bo])<;>try omega|refine ei ?_
   refine ns (D:=[7,9,48,49,50,51,52,53,54,55,56,57,58,59]) (bJ:=[]) (λi:Nat=>i<=k) (λi=>[(48,I i,false),(7,.int .u64 (q/256 ^(k-i):Nat),false)]) (λi=>k-i) (0) rfl rfl rfl (λ_=>rfl) (aL _) ?_ ?_ ?_;(·((simp only[ft,simprocAttr];try omega));all_goals(exact ak (aq (V.int .u64) (by rw[hA,ll z];rfl))));(·((simp only[fM];and_intros)));rintro i Q;rcases am i k with d|d
   .have aB:=K i d av;have aC:q/256 ^(k-1-i)%256<256:=fI _ av;have u:=Gm (q:=255-q/256 ^(k-1-i)%256) av True;simp only[bP]at u;have y:=a7 i d av;obtain⟨j,bs⟩:∃j,k-1-i=j:=⟨_,rfl⟩;have aD:k-i=j+1:=av;have a0:k-(i+1)=j:=av;have a1:=BT q j;have a2:=Gp a5 j;simp only[bs]at aB aC u;have b5:255-((255-q/256^j%256:Nat):Int)=((q/256^j%256:Nat):Int):=av;have a3:=TI a2 aC;repeat' first|simp(disch:=try exact om) only[dt,simprocAttr,aB,y,A,u,b5,aD,a3]|refine cs ?_ ?_<;>intro h<;>try omega|(refine⟨i+1,⟨?_⟩,⟨av⟩,?_⟩;rotate_left;focus (simp only[ft,simprocAttr];and_intros<;>try first|exact .aP _|omega))
    .exact ak (aq (V.int .u64) (by rw[a0,a1]))
    .omega
   .obtain rfl:i=k:=av;simp only[iN,Nat.pow_zero,rj];repeat' first|simp(disch:=omega) only[dt,simprocAttr,A,l,R,a8]|refine bZ ?_ ?_<;>intro h<;>(try simp only[jg]at h)<;>(try(exact absurd trivial h))<;>try omega|refine ei ?_|apply Hm rfl rfl rfl rfl rfl rfl
    all_goals first|exact .refl _|exact ak (aq I (by omega))
 .simp only[al bv]at g0 K a6;have a8:(q:Int)=n:=av;have o:=Gm (q:=128+k) av False;simp only[cH]at o;obtain⟨H,hH⟩:∃H:Nat,128+k=H:=⟨_,rfl⟩;simp only[hH]at g0 o;have a:(H:Int)-128=k:=av;have bl:∀D,0<k->q/256 ^(k-1)%256=D->¬(D:Int)=0:=λD d bi=>by have:=gt d;have:q/256 ^(k-1)%256<256:=fI _ av;omega
  rcases cZ k with p|p
  .have ab:q=0:=by rw[p]at z;omega
   have ac:n=0:=av;subst ac;rw[ab]at R l;have ad:M=[]:=bH.1 av;have f:(k:Int)=0:=av;have ai:=N;rw[f,ad]at ai;rw[f]at a;rw[p];have a9:IntKind.i64.wrap 0=0:=rfl;refine pk f260 ?_;repeat' first|simp(disch:=try exact om) only[dt,simprocAttr,g0,a4,o,a]|(first|refine bZ ?_ ?_|refine c8 ?_ ?_)<;>intro h<;>(try simp only[bM]at h)<;>(try simp only[h])<;>(try simp only[jg]at h)<;>try omega|refine ei ?_
   refine ns (D:=[7,9,48,49,50,51,52,53,54,55,56,57,58,59]) (bJ:=[]) (λi:Nat=>i<=0) (λi=>[(48,I i,false),(7,.int .u64 0,false)]) (λi=>0-i) (0) rfl rfl rfl (λ_=>rfl) (an _) ?_ ?_ ?_;iterate 2 ·(simp only[ft,simprocAttr];try omega)
   rintro i Q;obtain rfl:i=0:=av;repeat' first|simp(disch:=omega) only[dt,simprocAttr,a9,show Int.fdiv 0 (2^min 63 IntKind.u64.bits)=0 from rfl]|refine bZ ?_ ?_<;>intro h<;>try simp only[jg]at h|refine ei ?_|apply Hm rfl rfl rfl rfl rfl rfl
   all_goals exact .refl _
  .have g1:=K 0 av av;have t:=Gm (q:=q/256 ^(k-1-0)%256) (by have:q/256 ^(k-1-0)%256<256:=fI _ av;omega) False;simp only[cH]at t;simp only[di,hA]at g1 t;obtain⟨D,aA⟩:∃D:Nat,q/256 ^(k-1)%256=D:=⟨_,rfl⟩;simp only[aA]at g1 t;have bY:=bl D p aA;have b2:IntKind.i64.wrap (q:Int)=q:=wrap_i64 av av;refine pk f260 ?_;repeat' first|simp(disch:=try exact om) only[dt,simprocAttr,g0,g1,a4,o,t,a,N]|(first|refine cz ?_ ?_|refine gz ?_ ?_)<;>intro bo h<;>(try simp only[bo])<;>try omega|refine ei ?_
   refine ns (D:=[7,9,48,49,50,51,52,53,54,55,56,57,58,59]) (bJ:=[]) (λi:Nat=>i<=k) (λi=>[(48,I i,false),(7,.int .u64 (q/256 ^(k-i):Nat),false)]) (λi=>k-i) (0) rfl rfl rfl (λ_=>rfl) (aL _) ?_ ?_ ?_;(·((simp only[ft,simprocAttr];try omega));all_goals(exact ak (aq (V.int .u64) (by rw[hA,ll z];rfl))));(·((simp only[fM];and_intros)));rintro i Q;rcases am i k with d|d
   .have aB:=K i d av;have aC:q/256 ^(k-1-i)%256<256:=fI _ av;have u:=Gm (q:=q/256 ^(k-1-i)%256) av False;simp only[cH]at u;have y:=a7 i d av;obtain⟨j,bs⟩:∃j,k-1-i=j:=⟨_,rfl⟩;have aD:k-i=j+1:=av;have a0:k-(i+1)=j:=av;have a1:=BT q j;have a2:=Gp a5 j;simp only[bs]at aB aC u;skip;have a3:=TI a2 aC;repeat' first|simp(disch:=try exact om) only[dt,simprocAttr,aB,y,A,u,aD,a3]|refine cs ?_ ?_<;>intro h<;>try omega|(refine⟨i+1,⟨?_⟩,⟨av⟩,?_⟩;rotate_left;focus (simp only[ft,simprocAttr];and_intros<;>try first|exact .aP _|omega))
    .exact ak (aq (V.int .u64) (by rw[a0,a1]))
    .omega
   .obtain rfl:i=k:=av;simp only[iN,Nat.pow_zero,rj];repeat' first|simp(disch:=omega) only[dt,simprocAttr,A,l,b2]|refine bZ ?_ ?_<;>intro h<;>(try simp only[jg]at h)<;>try omega|refine ei ?_|apply Hm rfl rfl rfl rfl rfl rfl
    all_goals first|exact .refl _|exact ak (aq I (by omega))
def kw{s:St}{K:St->Prop}{P:Program}{GL:aj}{d:Option Nat}{y:eL}{f:FuncId}{cap:List V}{args:List eL}{a:List V}{Q:V->Bool->aK->Prop}{r:List BI}{h0:aK}(l:s.E=h0)(hx:s.val y=.fn f cap)(o:fK P f=true)(E:lB P GL f a h0 Q)
 (p:args.all (λx=> !(s.val x).dY)=true) (q:aV (args.map s.val++cap) a) (h:∀v bJ j,Q v bJ j->er P GL false r ((s.cu j).ret d v bJ) K):er P GL false (⟨none,d,.qB y args⟩::r) s K:=by
 subst l;exact Nz hx o E p q h
def uM{s:St}{f t2:Nat}{a d:V}(j:s.Z f=a)(h2:s.Z t2=d)(l:a.dY=false)(o:d.dY=false):BF.result s [.tmp f,.tmp t2]=some (.hJ [a,d],false):=by
 subst j h2;simp[BF.result,BR.pX,BR.get,l,o]
def xv{s:St}{j t2 l:Nat}{a d f:V}(o:s.Z j=a)(h2:s.Z t2=d)(p:s.Z l=f)(q:a.dY=false)(r:d.dY=false)(t:f.dY=false):BF.result s [.tmp j,.tmp t2,.tmp l]=some (.hJ [a,d,f],false):=by
 subst o h2 p;simp[BF.result,BR.pX,BR.get,q,r,t]
def nJ(b:T)(k:Nat)(a:k<=b.length):List.take (b.length-k) (List.drop k (List.map (λb=>V.int IntKind.u8 b.toNat) b))=List.map (λb=>V.int IntKind.u8 b.toNat) (b.drop k):=by
 rw[<-gG,aE bT]
def Gq(s:T):bytesOf (List.map (λb=>V.int IntKind.u8 b.toNat) s)=some s:=by
 induction s with
 |nil=>rfl
 |cons b r ih=>
  simp only[bt,bytesOf,ih];simp
def Fb(n:Nat)(r:T)(j:n<=r.length)(l:r.length<=100000000):af 302 [dc (cC n++r),I 1] (.hJ [I n,I (cC n).length,I 0]):=by
 have f:=Fa n (by unfold jG;omega) r av;have o:=gB (n:Int) (by unfold jG;omega);have a:(cC (n:Int)++r).length=(cC (n:Int)).length+r.length:=ae;generalize cC (n:Int)++r=B at*
 generalize (cC (n:Int)).length=A at*
 have d:(((B.length:Nat):Int)-A).tdiv 1=r.length:=by rw[Int.tdiv_one];omega
 rw[a]at d;refine pk f302 ?_;repeat' first|simp(disch:=try exact om) only[gE,simprocAttr,a,d]|refine cs ?_ ?_<;>intro h<;>try omega|refine lq f ?_|refine ei ?_|apply Hm rfl rfl rfl rfl rfl rfl
 all_goals exact .refl _
def JV(s r:T)(p:s.length+r.length<=100000000):af 257 [dc (dD s++r)] (.hJ [S s,I (dD s).length,I 0]):=by
 have d:=Fb s.length (s++r) (by rw[ae];omega) (by rw[ae];omega);have q:=gB (s.length:Int) (by unfold jG;omega);have f:dD s++r=cC s.length++(s++r):=by unfold dD;rw[aF]
 have j:(dD s).length=(cC s.length).length+s.length:=by unfold dD;rw[ae]
 rw[f,j];have a:(cC (s.length:Int)++(s++r)).length=(cC (s.length:Int)).length+(s.length+r.length):=by simp
 have l:(cC (s.length:Int)++(s++r)).drop (cC (s.length:Int)).length=s++r:=bT;generalize cC (s.length:Int)++(s++r)=B at*
 generalize (cC (s.length:Int)).length=A at*
 have o:List.take (((A:Int)+s.length).toNat-A) (List.drop A (List.map (λb=>V.int IntKind.u8 b.toNat) B))=List.map (λb=>V.int IntKind.u8 b.toNat) s:=by
  rw[show((A:Int)+s.length).toNat-A=s.length by omega,<-gG,l,<-jw,gN]
 have hb:=Gq s;refine pk f257 ?_;repeat' first|simp(disch:=try exact om) only[gE,simprocAttr,a,o,hb]|refine lq d ?_|apply Hm rfl rfl rfl rfl rfl rfl
 all_goals exact .refl _
def BU(n:Int):0< (cC n).length:=by unfold cC;split<;>simp
def LD(l:List T):l.length<=(l.flatMap dD).length:=by
 induction l with
 |nil=>simp
 |cons a r ih=>
  have:=BU a.length;simp only[ck,ae,aM,dD];omega
def JW(l:List T)(r:T)(L:(g7 l).length+r.length<=10000000):af 258 [dc (g7 l++r)] (.hJ [eZ l,I (g7 l).length,I 0]):=by
 have N:=LD l;have q:(g7 l).length=(cC l.length).length+(l.flatMap dD).length:=by unfold g7;rw[ae]
 have t:=Fb l.length (l.flatMap dD++r) (by rw[ae];omega) (by rw[ae];omega);have u:g7 l++r=cC l.length++(l.flatMap dD++r):=by unfold g7;rw[aF]
 rw[u,q];have P:=gB (l.length:Int) (by unfold jG;omega);have y:∀k,k<=l.length->(cC (l.length:Int)++(l.flatMap dD++r)).drop ((cC (l.length:Int)).length+((l.take k).flatMap dD).length)=(l.drop k).flatMap dD++r:=by
  exact XS
 have hlen:(cC (l.length:Int)++(l.flatMap dD++r)).length=(cC (l.length:Int)).length+((l.flatMap dD).length+r.length):=bT;generalize cC (l.length:Int)++(l.flatMap dD++r)=B at*
 generalize (cC (l.length:Int)).length=A at*
 have z:∀k,k<l.length->((l.take (k+1)).flatMap dD).length=((l.take k).flatMap dD).length+(dD (l[k]?.getD [])).length:=λk hk=>by
  rw[br hk,cx,ae,aa hk,bf];simp
 have f:∀k,((l.take k).flatMap dD).length<=(l.flatMap dD).length:=λk=>by
  exact Te
 have Q:(V.aP).Le (eZ (l.take 0)):=.aP _;refine pk f258 ?_;repeat' first|refine qp ?_|refine lq t ?_
 refine so (bJ:=[8]) (λk:Nat=>k<=l.length) (λk=>[(22,I k,false),(8,eZ (l.take k),true),(6,I (A+((l.take k).flatMap dD).length:Nat),false)]) (λk=>l.length-k) (0) (aL _) ?_;rintro k hk;have H:=f k;have d:=y k hk;have K:(A:Int)+((l.take k).flatMap dD).length=((A+((l.take k).flatMap dD).length:Nat):Int):=av;rcases am k l.length with a|a
 .rw[bG a,ck,aF]at d;have o:=z k a;rw[aa a,bf]at o;have D:=f (k+1);have hb:l[k].length+((l.drop (k+1)).flatMap dD++r).length<=10000000:=by
   have e:=aq List.length d;have R:(dD l[k]).length=(cC l[k].length).length+l[k].length:=by unfold dD;rw[ae]
   simp only[aS,ae]at e ⊢
   omega
  have j:=JV l[k] ((l.drop (k+1)).flatMap dD++r) av;rw[<-d]at j;generalize hO:A+((l.take k).flatMap dD).length=O at*
  have p:=nJ B O av;rw[hlen]at p;simp only[dc]at j;generalize (dD l[k]).length=Z at*
  repeat' first|simp(disch:=try exact om) only[gE,simprocAttr,hlen,p]|refine cs ?_ ?_<;>intro h<;>try omega|(refine⟨k+1,⟨?_⟩,⟨av⟩,?_⟩;rotate_left;focus (simp only[ft,simprocAttr];and_intros<;>try first|exact .aP _|omega))|refine lq j ?_
  all_goals first|exact a|exact ak (by rw[br a,az];rfl)
 .obtain rfl:k=l.length:=av;rw[bg]at*
  repeat' first|refine k7 ?_|refine cs ?_ ?_<;>intro h<;>try omega|apply Hm rfl rfl rfl rfl rfl rfl
  all_goals exact .refl _
def ZC:CF GL f328 [] [] 328:=jo
def ZD:CF GL f303 [2,3] [] 303:=jo
def Rt(B r:T)(W:Nat)(n:Int)(o:jG n)(E:aK)(f a:Nat)(p:E.box f=some [dc B])(h2:E.box a=some [I W])(L:f≠a)(q:B.drop W=cC n++r)(Q:B.length<=100000000)(H:W<=B.length):
 aI 328 [.bp f 0,.bp a 0] E λv _ d=>v=.hJ [I n,I (W+(cC n).length:Nat),I 0]/\d.box=eQ E.box a (some [I (W+(cC n).length:Nat)])/\d.mp=E.mp/\d.Y=E.Y:=by
 have hlen:B.length=W+((cC n).length+r.length):=by
  have e:=aq List.length q;rw[aS,ae]at e;omega
 have t:=Fa n o r av;have j:=nJ B W H;have R:=gB n o;rw[q]at j;simp only[dc]at t j p;generalize (cC n).length=A at*
 refine bq ZC.ok rfl ?_;repeat' first|simp(disch:=try exact om) only[gE,simprocAttr,p,h2,j]|refine lq t ?_
 refine AA (cells:=[I W]) ?_ ?_ bT λl u N P y z D=>?_
 .simp only[simprocAttr,bx,h2]
 .exact sT
 have tb:l.E.box=eQ E.box a (some [I (W+A:Nat)]):=y.trans sT;have tm:l.E.mp=E.mp:=z.trans sT;have K:l.E.Y=E.Y:=D.trans sT;repeat' simp only[gE,simprocAttr,u,tb,bh]
 exact⟨nE,_,_,xv rfl rfl rfl rfl rfl rfl,rfl,tm,K⟩
def Ru(b:T)(W:Int)(E:aK):aI 303 [dc b,I W] E λv _ a=>v=.fn 328 [.bp E.Y 0,.bp (E.Y+1) 0]/\a.box (E.Y)=some [dc b]/\a.box (E.Y+1)=some [I W]:=by
 refine bq ZD.ok rfl ?_;repeat' simp(disch:=omega) only[gE,simprocAttr,HX.act,jW,V.cells,V.one,ku]
 exact⟨nE,_,_,bC rfl rfl,rfl⟩
def ZE:CF GL f255 [] [4,8] 255:=jo
def Vo:fK prog 328=true:=by kernel_rfl
def JX(l:List Int)(r:T)(bu:(cX l).length+r.length<=10000000)(ai:∀n∈l,jG n):af 255 [dc (cX l++r)] (.hJ [fq l,I (cX l).length,I 0]):=by
 have Q:∀l:List Int,l.length<=(l.flatMap cC).length:=λl=>by
  induction l with
  |nil=>simp
  |cons a r ih=>have:=BU a;simp only[ck,ae,aM];omega
 have bv:=Q l;have aA:(cX l).length=(cC l.length).length+(l.flatMap cC).length:=by unfold cX;rw[ae]
 have aB:=Fb l.length (l.flatMap cC++r) (by rw[ae];omega) (by rw[ae];omega);have aC:cX l++r=cC l.length++(l.flatMap cC++r):=by unfold cX;rw[aF]
 rw[aC,aA];have bY:=gB (l.length:Int) (by unfold jG;omega);have aD:∀k,k<=l.length->(cC (l.length:Int)++(l.flatMap cC++r)).drop ((cC (l.length:Int)).length+((l.take k).flatMap cC).length)=(l.drop k).flatMap cC++r:=by
  exact XS
 have hlen:(cC (l.length:Int)++(l.flatMap cC++r)).length=(cC (l.length:Int)).length+((l.flatMap cC).length+r.length):=bT;generalize cC (l.length:Int)++(l.flatMap cC++r)=B at*
 generalize (cC (l.length:Int)).length=A at*
 have a0:∀k (h:k<l.length),((l.take (k+1)).flatMap cC).length=((l.take k).flatMap cC).length+(cC l[k]).length:=λk hk=>by
  rw[br hk,cx,ae];simp
 have R:∀k,((l.take k).flatMap cC).length<=(l.flatMap cC).length:=λk=>by
  exact Te
 refine Pure.gg (by simp only[dx]) (by simp only[dx]) (eN hm ZE.ok (bE rfl) ?_);have ab:=Ru B A aK.bare;simp only[dc]at ab;repeat' first|refine qp ?_|refine lq aB ?_
 refine bz (h0:=aK.bare) ?_ ab ?_ ?_ ?_
 .exact sT
 .exact sT
 .refine mV ?_;simp only[ee]<;>rfl
 rintro a1 bJ a7 ⟨rfl,u,y⟩;simp only[bx]at u y;repeat' simp only[gE,simprocAttr]
 refine dT rfl rfl (λ(k:Nat) t=>k<=l.length/\t.Z 26=I k/\t.Z 6=I (A+((l.take k).flatMap cC).length:Nat)/\t.E.box 0=some [dc B]/\t.E.box 1=some [I (A+((l.take k).flatMap cC).length:Nat)]/\
  ∃o,t.Z 9=o/\((k=0/\o=.aP)\/(0<k/\o=fq (l.take k)/\t.fl 9=true))) (λk=>l.length-k) 0 ?_ ?_
 .refine⟨aL _,?_⟩;simp only[da]
  and_intros
  all_goals first|rfl|exact u|exact y|(refine⟨.aP,rfl,.inl ?_⟩;rfl)
 rintro k t ⟨hk,p,a2,L,a3,o,N,P⟩ ac;have a4:t.Z 8=.fn 328 [.bp 0 0,.bp 1 0]:=by rw[ac 8 du];rfl
 have z:t.Z 25=I l.length:=by rw[ac 25 du];rfl
 have a8:=R k;have D:=aD k hk;rcases am k l.length with d|d
 .rw[bG d,ck,aF]at D;have a9:=a0 k d;have c3:=Rt B ((l.drop (k+1)).flatMap cC++r) (A+((l.take k).flatMap cC).length) l[k] (ai _ (ah d)) t.E 0 1 L a3 du D av av;have hO:A+((l.take k).flatMap cC).length+(cC l[k]).length=A+((l.take (k+1)).flatMap cC).length:=av;obtain⟨O,j⟩:∃O,A+((l.take (k+1)).flatMap cC).length=O:=⟨_,rfl⟩;rw[hO,j]at c3;have q:fq (l.take (k+1))=.sl 1 (List.map I (l.take k)++[I l[k]]):=by rw[br d];simp only[fq,az,bt,cV]
  have bi:(l.take k).length<=l.length:=by rw[aG];omega
  repeat' first|simp only[dt,simprocAttr,a4,z,p]|refine cs ?_ ?_<;>intro h<;>try omega
  refine kw (h0:=t.E) (f:=328) (cap:=[.bp 0 0,.bp 1 0]) ?_ ?_ Vo c3 ?_ ?_ ?_
  .exact sT
  .exact sT
  .exact sT
  ·(repeat(first|exact aV.nil|(refine aV.cons (ak ?_) ?_;(simp only[simprocAttr]<;>rfl))))
  rintro a1 a5 bl ⟨rfl,H,bo,bs⟩;rcases P with⟨rfl,rfl⟩|⟨P,rfl,a6⟩
  .simp only[fi,cV,bm]at q;repeat' simp(disch:=try exact om) only[gE,simprocAttr,p,N]
   refine⟨0+1,⟨?_⟩,⟨av⟩⟩;simp only[cA]at q j;simp only[da,simprocAttr,j,H,bh];rw[bD _ _ (by decide)]
   and_intros
   all_goals first|exact d|exact L|(refine⟨_,rfl,.inr ?_⟩;(and_intros)<;>first|rfl|exact q.symm)
  .repeat' simp(disch:=try exact om) only[gE,simprocAttr,p,N,a6]
   refine⟨k+1,⟨?_⟩,⟨av⟩⟩;simp only[da,j,H,bh];rw[bD _ _ (by decide)]
   and_intros
   all_goals first|exact d|rfl|exact L|(refine⟨_,rfl,.inr ?_⟩;(and_intros)<;>first|rfl|exact q.symm|omega)
 .obtain rfl:k=l.length:=av;rw[bg]at*
  have K:o.dY=false/\V.Le o (fq l):=by
   rcases P with⟨h,rfl⟩|⟨_,rfl,_⟩
   .rw[bH.1 h];exact⟨rfl,.aP _⟩
   .exact⟨rfl,.refl _⟩
  repeat' first|simp only[gE,simprocAttr,z,p,a2,N]|refine cs ?_ ?_<;>intro h<;>try omega
  have ad:=aV.cons K.2 (aV.cons (.refl (I ((A+(l.flatMap cC).length:Nat):Int))) (aV.cons (.refl (I 0)) .nil));exact⟨nE,_,_,jH,_,_,false,xv rfl rfl rfl K.1 rfl rfl,.refl _,.hJ _ _ ad.1 ad.2,λh=>(by cases h),rfl,rfl⟩
def jl(l:List (Int×Int)):List Int:=l.flatMap λa=>[a.1,a.2]
def qI(l:List (Int×Int)):(jl l).length=2*l.length:=by
 induction l with
 |nil=>rfl
 |cons a r ih=>simp only[jl,ck,ae,aM,aX]at ih ⊢;omega
def Op.enc(o:Op):Prop:=(jG o.kind/\jG o.W.J/\jG o.W.seq/\jG o.W.k/\jG o.to.J/\jG o.to.seq/\jG o.to.k/\jG o.spot.i9/\jG o.spot.k0/\jG o.spot.idx/\jG o.n/\jG o.eD/\jG o.en)/\
 o.bN.length<=8192/\o.F.length<=10000/\(∀t∈o.F,t.length<=8192)/\o.cW.length<=100000/\(∀n∈jl o.cW,jG n)/\o.C.length<=100000/\∀n∈k8 o.C,jG n
def Op.head(o:Op):List Int:=[o.kind,o.W.J,o.W.seq,o.W.k,o.to.J,o.to.seq,o.to.k,o.spot.i9,o.spot.k0,o.spot.idx,o.n,o.eD,o.en]
def oN(o:Op):T:=cX o.head++(dD o.bN++(g7 o.F++(cX (jl o.cW)++cX (k8 o.C))))
def fL(l:List Int)(h:l.length<=10000000)(a:∀n∈l,jG n):(cX l).length<=9+9*l.length:=by
 have d:=gB l.length (by unfold jG;omega);have f:=mh cC 9 l λx hx=>gB x (a x hx);simp only[cX,ae];omega
def k9(l:List T)(h:l.length<=10000)(a:∀s∈l,s.length<=8192):(g7 l).length<=9+8201*l.length:=by
 have d:=gB l.length (by unfold jG;omega);have f:=mh dD 8201 l λx hx=>by have:=a x hx;have:=my x av;omega
 simp only[g7,ae];omega
end Go.Bx
