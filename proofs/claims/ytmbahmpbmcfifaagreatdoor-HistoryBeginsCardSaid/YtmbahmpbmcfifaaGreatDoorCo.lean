/- Lemmas for HistoryBegins. -/
import Derived.Test.YtmbahmpbmcfifaaGreatDoorCl
import Derived.Test.YtmbahmpbmcfifaaGreatDoorCm
import Derived.Test.YtmbahmpbmcfifaaGreatDoorCn
noncomputable section
set_option linter.all false
set_option maxHeartbeats 4000000
set_option maxRecDepth 100000
namespace Go.Bx
open Go.Proofs Go.Proofs.Tryz
attribute [local irreducible] vc er dq b4 bU run iw iI iW i1 iG i2 iX iq iH iZ gA iY cS
def Mv(d:Nat)(o:Op)(b:Name)(s t:fW)(r:cg×Int)(u:V)(f:aK):Prop:=u=I r.2/\(r.2=0->∃a,RX f d r.1 o b s t a)
def Z8:CF GL f264 [] [1] 264:=jo
def Z9:CF GL f267 [] [1,3,4,5] 267:=jo
def aaa:CF GL f270 [] [1] 270:=jo
def RX.cells{E:aK}{d:Nat}{w:cg}{o:Op}{b:Name}{s t:fW}{X:List Nat}(R:RX E d w o b s t X):∃a,E.box d=some (a::(o.c++[I b.J,I b.seq,I s.i9,I s.k0,I s.idx,I t.i9,I t.k0,I t.idx]))/\RW E (.agg [a]) w X/\a.one=true:=by
 obtain⟨a,hx,T,_⟩:=R;obtain⟨j,e,f⟩:=id T;cases e;exact⟨_,hx,T,f.one⟩
def Se(E:aK)(d:Nat)(w:cg)(o:Op)(b:Name)(s t:fW)(X:List Nat)(R:RX E d w o b s t X)(v a i:Nat)(l:v<w.O.length)(p:a<w.O[v].O.length)(A:i<w.O[v].O[a].O.length)(f:w.O[v].O[a].O.length<=1000000)(q:s=⟨v,a,i⟩):
 aI 264 [.bp d 0] E λu _ j=>Mv d o b s t (kO w v a i 1 [],0) u j:=by
 have r:=vr E d w o b s t X R v a i 1 l p av f [] bT;subst q;obtain⟨D,hx,T,y⟩:=R.cells;refine bq Z8.ok rfl ?_;repeat' simp only[gE,simprocAttr,hx,y,Op.c,aZ,bm,vJ]
 refine bz rfl r ?_ ?_ ?_
 .rfl
 .exact XX
 rintro u _ z ⟨tG,R'⟩;repeat' simp only[gE,simprocAttr]
 exact MD
def Sf(E:aK)(d:Nat)(w:cg)(o:Op)(b:Name)(s t:fW)(X:List Nat)(R:RX E d w o b s t X)(v a i:Nat)(f:v<w.O.length)(j:a<w.O[v].O.length)(D:i<w.O[v].O[a].O.length)
 (ab:(dj w).length<=10000) (q:s=⟨v,a,i⟩):
 aI 267 [.bp d 0] E λu _ r=>Mv d o b s t (BK w o v a i (w.O[v].O[a].O[i])) u r:=by
 have c3:=Fi E d w o b s t X R v a i f j D q;have c4:=vr E d w o b s t X R v a i 1 f j av (aT (mF f j) av) [] bT;subst q;obtain⟨H,hx,T,o1⟩:=R.cells;have c1:=Kk E H w X T o.spot;refine bq Z9.ok rfl ?_;unfold BK;cases hh:k1 w o.spot with
 |false=>
  exact XJ
 |true=>
  rw[hh]at c1;repeat' simp only[gE,simprocAttr,hx,o1,Op.c,aZ,bm,vJ]
  refine bz rfl c1 ?_ ?_ ?_
  .simp only[da];simp;exact⟨rfl,rfl⟩
  .refine mV ?_;simp only[ee]<;>rfl
  rintro _ _ E ⟨rfl,rfl⟩;repeat' simp only[gE,simprocAttr]
  refine bz rfl c3 ?_ ?_ ?_
  .rfl
  .refine mV ?_;simp only[ee]<;>rfl
  rintro _ _ E ⟨rfl,rfl⟩;repeat' simp only[gE,simprocAttr,hx,o1,Op.c,aJ.v,aZ,bm,vJ]
  refine bz rfl c4 ?_ ?_ ?_
  .rfl
  .exact XX
  rintro u _ y ⟨p,K⟩;obtain⟨L,N,z,A⟩:=uJ (v:=v) (a:=a) (i:=i) (n:=1) (l:=[]) f hh;have P:=D1 (n:=1) (i:=i) (l:=[]) f j;have Q:=Kl y d _ o b _ t p K o.spot.i9.toNat o.spot.k0.toNat z A (aT (mF z A) (by rw[aX]at P;omega)) L N (w.O[v].O[a].O[i]);repeat' simp only[gE,simprocAttr]
  refine bz rfl Q ?_ ?_ ?_
  .rfl
  .refine mV ?_;simp only[ee]<;>rfl
  exact X8
def C5{cells W r:List V}{k:Nat}(h:cells.drop k=W++r)(a:k<=cells.length):aQ cells k W=cells:=by
 have d:W.length+r.length+k=cells.length:=by have:=aq List.length h;simp only[aS,ae]at this;omega
 rw[ic av,<-dF,h,fX,aF,<-h,b8]
def xI{h:aK}{H:V}{w:cg}{X:List Nat}(T:RW h (.agg [H]) w X)(D:X.Nodup){v a i:Nat}(aD:v<w.O.length)(a0:a<w.O[v].O.length)(a1:i<w.O[v].O[a].O.length):
 ∃t l f pv c pid K d rest,za h 1 H w.O.length v (.agg [t])/\za h 2 t w.O[v].O.length a (.agg [S w.O[v].O[a].gR,pv])/\t=.ms 2 l 0 w.O[v].O.length c/\h.box l=some f/\
  pv=.ms 7 pid 0 w.O[v].O[a].O.length K/\h.box pid=some d/\d.drop (i*7)=(w.O[v].O[a].O[i]).v.cells++rest/\(i+1)*7<=d.length/\pid∈X/\
  ∀(p:aK)(u:aJ),p.box=eQ h.box pid (some (aQ d (i*7) u.v.cells))->p.Y=h.Y->∃o,RW p (.agg [H]) (k3 w v a ⟨w.O[v].O[a].gR,w.O[v].O[a].O.set i u⟩) o/\o.Nodup/\∀j∈o,j∈X\/h.Y<=j:=by
 obtain⟨t,l,f,pv,a2,c,a3,Q,pe,p3,a4,a5,a6,ma,L,put⟩:=si T D aD a0;obtain⟨a7,ac,q,y,Ub,bo,Uc,A,R⟩:=id Q;have ab:q=f:=by
  exact KH
 rw[ab]at A R;obtain⟨pid,K,d,x,bs,rest,rfl,bu,a8,g4,g5,g6,⟨rfl,rfl⟩,bv,bY,N,g10,a9,b2⟩:=a4.WA Lw N5 a5 a1;refine⟨t,l,f,_,c,pid,K,d,rest,a3,Q,pe,p3,rfl,a8,g4,g5,L _ N,λp u hb ad=>?_⟩;have ai:l≠pid:=λe=>a6 (e▸N);obtain⟨z,bi,aA,aB⟩:=a9 p u.v u [] (c0 ad.symm) (by rw[hb,bh]) (λj P aC _=>by rw[hb];exact bD _ _ aC) rfl ⟨rfl,rfl⟩ jR (λj P=>by cases P);refine put p _ _ z (c0 ad.symm) ?_ (λj P aC bl=>by rw[hb];exact bD _ _ (λe=>bl (e▸N))) bi aA aB;rw[hb,bD _ _ ai,p3];exact aq some (C5 (r:=y) A av).symm
def abA{cells rest:List V}{k:Nat}{a b c d e f g x:V}(h:cells.drop k=[a,b,c,d,e,f,g]++rest)(o:k<=cells.length):aQ cells (k+6) [x]=aQ cells k [a,b,c,d,e,f,x]:=by
 have j:cells=cells.take k++([a,b,c,d,e,f,g]++rest):=by rw[<-h,b8]
 have l:(cells.take k).length=k:=by rw[aG];omega
 generalize cells.take k=A at*
 subst j l;rw[xl bT];have:=xl (A:=A++[a,b,c,d,e,f]) (W:=[x]) (D:=g::rest) bT;simp only[aF,ae,aZ,bm,aM,aX,cd,cy]at this ⊢
 exact this
def Sg(E:aK)(l:Nat)(w:cg)(o:Op)(b:Name)(s t:fW)(X:List Nat)(R:RX E l w o b s t X)(v a i:Nat)(A:v<w.O.length)(H:a<w.O[v].O.length)(K:i<w.O[v].O[a].O.length)(a3:o.C.length<=1000000)(a4:s=⟨v,a,i⟩):
 aI 270 [.bp l 0] E λu _ L=>Mv l o b s t (kO w v a i 1 [{w.O[v].O[a].O[i]with C:=o.C}],0) u L:=by
 subst a4;obtain⟨N,hx,T,D,y,P⟩:=id R;obtain⟨a5,Q,d,ab,c,pid,b2,f,rest,p1,ad,pe,p3,ai,b3,g4,g5,mp,put⟩:=xI T D A H K;have a6:=rf E l N a5 ab _ _ _ _ v a Q c i hx p1 ad pe;have a7:=vl o.C (aT a3 du);obtain⟨a8,ac,p,r,Ub,bv,Uc,z,aA⟩:=ad;have aB:p=d:=by
  exact KH
 rw[aB]at z aA;have a9:List.drop (a*2+1) d=ab::r:=kc (j:=1) z (by simp[V.cells]);have bi:a*2+1<=d.length:=av;subst ai;obtain⟨_,_,_,o1⟩:=R.cells;have fin:∀q:aK,q.box=eQ E.box pid (some (aQ f (i*7+6) [eW o.C]))->q.Y=E.Y->∃tG,RX q l (kO w v a i 1 [{w.O[v].O[a].O[i]with C:=o.C}]) o b ⟨v,a,i⟩ t tG:=by
  intro q hb aC;have aD:l≠pid:=λe=>y (e▸mp);rw[abA (show f.drop (i*7)=[_,_,_,_,_,_,_]++rest from g4) av]at hb;obtain⟨tG,a0,bl,bo⟩:=put q {w.O[v].O[a].O[i]with C:=o.C} hb aC;refine⟨tG,N,by rw[hb,bD _ _ aD];exact hx,?_,bl,λh=>?_,by rw[aC];exact P⟩
  .rw[kO,ff A H];rw[gh,ax K]at a0;simpa using a0
  .rcases bo _ h with h|h
   .exact y h
   .omega
 refine bq aaa.ok rfl ?_;repeat' first|simp only[gE,simprocAttr,hx,o1,Op.c,aZ,bm,vJ]|refine e9 ?_ ?_
 all_goals
  refine bz rfl a6 ?_ ?_ ?_
  .rfl
  .refine mV ?_;simp only[ee]<;>rfl
  rintro _ _ bY ⟨rfl,bs⟩;subst bs;repeat' first|simp(disch:=omega) only[gE,simprocAttr,hx,p3,a9,bi,Op.c,aZ,bm,vJ]|refine lq a7 ?_|refine e9 ?_ ?_
 all_goals
  refine cJ (n:=1) (off:=i*7+6) (cells:=f) ?_ ?_ av λt te tc tl tb tm bu b5=>?_
  .exact sT
  .exact sT
  have a1:=tb.trans sT;have a2:=bu.trans sT;obtain⟨tG,R'⟩:=fin t.E a1 a2;repeat' simp only[gE,simprocAttr,te,tc,tl]
  exact MD
def aab:CF GL f261 [11] [] 261:=jo
def aac:CF GL f262 [44] [] 262:=jo
def Sh(E:aK)(d:Nat)(w:cg)(o:Op)(b:Name)(s t:fW)(X:List Nat)(R:RX E d w o b s t X)(ac:w.O.length<=1000000):
 aI 261 [.bp d 0] E λu _ K=>Mv d o b s t (⟨w.O++[⟨[]⟩]⟩,0) u K:=by
 obtain⟨l,hx,⟨L,e,T⟩,D,q,r⟩:=R;obtain rfl:l=L:=by cases e;rfl
 have N:=T.one;refine bq aab.ok rfl ?_;repeat' simp only[gE,simprocAttr,hx,N]
 refine oX (e:=.agg [.aP]) (fA:=E) (v0:=l) (a:=(⟨[]⟩:eM)) (js:=[]) vG p7 ?_ ?_ ?_ T rfl ⟨.aP,rfl,ce.nil⟩ (by simpa using D) rfl ac λv f tG g1 ad ai g4 g5=>?_
 .exact sT
 .exact sT
 .exact sT
 obtain⟨H,aC⟩:=g1.cells;have P:=g1.one;have Q:f.box d=some (l::(o.c++[I b.J,I b.seq,I s.i9,I s.k0,I s.idx,I t.i9,I t.k0,I t.idx])):=by
  rw[g4.box d r (λe=>q (g5 d e))];exact hx
 repeat' simp only[gE,simprocAttr,Q,N,H,P]
 refine cJ (n:=1) (off:=0) (cells:=l::(o.c++[I b.J,I b.seq,I s.i9,I s.k0,I s.idx,I t.i9,I t.k0,I t.idx])) ?_ ?_ bT λp te tc tl tb tm aA aD=>?_
 .exact sT
 .simp only[sE];simp[jW,H,P]
 have y:p.E.box=eQ f.box d (some (v::(o.c++[I b.J,I b.seq,I s.i9,I s.k0,I s.idx,I t.i9,I t.k0,I t.idx]))):=tb.trans (by simp only[da,simprocAttr,bQ,H,aQ,aw]);have z:p.E.Y=f.Y:=aA.trans sT;have A:d∉tG:=λh=>by
  rcases ai d h with h|h|h
  .exact q h
  .cases h
  .omega
 have aB:ce 1 RV p.E v (w.O++[⟨[]⟩]) tG:=ce.qG vG _ _ _ _ _ g1 (λj ab=>⟨ce.vF p7 _ _ _ _ g1 j ab,by rw[y];exact bD _ _ (λe=>A (e▸ab))⟩) (c0 z.symm);have R':RX p.E d ⟨w.O++[⟨[]⟩]⟩ o b s t tG:=⟨v,by rw[y,bh],⟨v,rfl,aB⟩,ad,A,by rw[z];exact bj r g4.Y⟩;repeat' simp only[gE,simprocAttr,te,tc,tl]
 exact MD
def Si(E:aK)(f:Nat)(w:cg)(o:Op)(b:Name)(s t:fW)(X:List Nat)(R:RX E f w o b s t X)(bu:∀v∈w.O,v.O.length<=1000000):
 aI 262 [.bp f 0] E λu _ aD=>Mv f o b s t (if 0<=o.spot.i9/\o.spot.i9<w.O.length then(Hw w o.spot.i9.toNat ⟨o.bN,[]⟩,0)else(w,6)) u aD:=by
 obtain⟨bv,hx,⟨a0,e,T⟩,D,z,Q⟩:=R;obtain rfl:bv=a0:=by cases e;rfl
 have L:=T.one;have lp:=T.len;refine bq aac.ok rfl ?_;by_cases ad:0<=o.spot.i9/\o.spot.i9<w.O.length
 .rw[ax ad];obtain⟨c5,c6⟩:=ad;obtain⟨v,Ya⟩:∃v:Nat,o.spot.i9=v:=⟨o.spot.i9.toNat,av⟩;have ME:v<w.O.length:=av;obtain⟨l,c7,d,x,js,N,bY,b2,a1,b3,c9,dd,⟨a2,rfl,a3⟩,b5,a4,b6,a5,b7,_⟩:=ce.WA vG p7 T D ME;have a6:List.drop (v*1+0) d=a2::N:=kc (j:=0) b3 (aL _);have a7:v*1+0<=d.length:=av;have ca:Hw w o.spot.i9.toNat ⟨o.bN,[]⟩=⟨w.O.set v ⟨w.O[v].O++[⟨o.bN,[]⟩]⟩⟩:=by
   exact X9
  rw[ca];have a8:=bu _ (ah ME);have a9:=a3.one;have bi:f≠l:=λh=>z (h▸b6);subst bY;repeat' first|simp(disch:=omega) only[gE,simprocAttr,hx,L,a9,lp,Ya,a1,a6,a7,Op.c,aZ,bm]|(first|refine cs ?_ ?_|refine gs ?_ ?_)<;>intro h<;>try omega|refine e9 ?_ ?_
  all_goals
   refine oX (e:=.agg [S o.bN,.aP]) (fA:=E) (v0:=a2) (a:=(⟨o.bN,[]⟩:eg)) (js:=[]) ym wv ?_ ?_ ?_ a3 rfl ⟨.aP,rfl,ce.nil⟩ (by simpa using b5) rfl a8 λP q p g1 cb bl g4 g5=>?_
   .exact sT
   .exact sT
   .exact sT
   obtain⟨ai,df⟩:=g1.cells;have aA:=g1.one;have ab:q.box l=some d:=by rw[g4.box l b2 λe=>a4 (g5 l e)];exact a1
   have ac:q.box f=_:=(g4.box f Q (λe=>z (a5 _ (g5 f e)))).trans hx;repeat' simp(disch:=omega) only[gE,simprocAttr,ac,L,a9,lp,Ya,ab,a6,a7,ai,aA,Op.c,aZ,bm]
   have bo:l∉p:=λhm=>by
    rcases bl l hm with h|h|h
    .exact a4 h
    .cases h
    .omega
   refine cJ (n:=1) (off:=v*1+0) (cells:=d) ?_ ?_ av λA te tc tl tb tm cc dr=>?_
   .simp only[sE];exact ab
   .simp only[sE];simp[jW,ai,aA]
   have r:A.E.box=eQ q.box l (some (aQ d (v*1) [P])):=tb.trans (by simp only[da,simprocAttr,bQ,ai,di]);have H:A.E.Y=q.Y:=cc.trans sT;have bs:ce 2 RA A.E P (w.O[v].O++[⟨o.bN,[]⟩]) p:=ce.qG ym _ _ _ _ _ g1 (λj y=>⟨ce.vF wv _ _ _ _ g1 j y,by rw[r];exact bD _ _ (λe=>bo (e▸y))⟩) (c0 H.symm);obtain⟨K,ch,ci,cp⟩:=b7 A.E (.agg [P]) ⟨w.O[v].O++[⟨o.bN,[]⟩]⟩ p (by rw[H];exact g4.Y) (by rw[r,bh];rfl) (λj y aB c1=>by rw[r,bD _ _ aB];exact g4.box j (ce.vF p7 _ _ _ _ T j y) λe=>c1 (g5 j e)) (by simp[jW,V.cells,aA]) ⟨P,rfl,bs⟩ cb (λj y=>by
    rcases bl j y with h|h|h
    .exact .inl h
    .cases h
    .exact .inr av)
   have c2:RX A.E f ⟨w.O.set v ⟨w.O[v].O++[⟨o.bN,[]⟩]⟩⟩ o b s t K:=⟨_,by rw[r,bD _ _ bi];exact ac,⟨_,rfl,ch⟩,ci,λh=>by
    rcases cp f h with h|h
    .exact z h
    .omega,by rw[H];exact bj Q g4.Y⟩
   repeat' simp only[gE,simprocAttr,te,tc,tl]
   exact⟨nE,I 0,_,bC rfl rfl,rfl,λ_=>⟨K,c2⟩⟩
 .rw[al ad];rcases fp o.spot.i9 0 with aB|aB
  .repeat' first|simp only[gE,simprocAttr,hx,L,lp,Op.c,aZ,bm]|refine gz ?_ ?_<;>intro aC h<;>(try simp only[aC])<;>try omega
   exact Yw
  .repeat' first|simp only[gE,simprocAttr,hx,L,lp,Op.c,aZ,bm]|(first|refine cz ?_ ?_|refine gz ?_ ?_)<;>intro aC h<;>(try simp only[aC])<;>try omega
   exact Yw
def TO:CF GL f263 [] [1,3,1003] 263:=jo
def Fk:{l:List (BI×List Nat) // TO.b.body.sets[0]?=some l}:=⟨_,by cbv⟩
def aad(w:cg)(o:Op)(b:Name):cg×Int:=
 if k1 w o.spot=true then yo w o.spot.i9.toNat o.spot.k0.toNat o.spot.idx (k2 b 0 ⟨⟨0,0,0⟩,o.eD,o.en,[],[]⟩ o.bN o.C)else(w,6)
def OC(a:Nat)(o:Op)(b:Name):List V:=
 [.bp a 0,.bp a 0,.agg [I b.J,I b.seq,I 0],.bp a 0,.bp a 0,.bp a 1,.bp a 12,I o.eD,.bp a 0,.bp a 0,.bp a 1,.bp a 13,I o.en,.bp a 0,.bp a 0,.bp a 1,.bp a 14,S o.bN,.bp a 0,.bp a 0,.bp a 1,.bp a 17,eW o.C,eW o.C,.agg [I b.J,I b.seq,I 0,I o.eD,I o.en,S o.bN,eW o.C]]
def Sj(E:aK)(a:Nat)(w:cg)(o:Op)(b:Name)(s t:fW)(X:List Nat)(R:RX E a w o b s t X)(ad:(dj w).length<=10000)(D:o.C.length<=1000000):
 aI 263 [.bp a 0] E λu _ r=>Mv a o b s t (aad w o b) u r:=by
 obtain⟨H,hx,T,o1⟩:=R.cells;have c1:=Kk E H w X T o.spot;have K:=vl o.C (aT D du);have c3:=xH E a w o b s t X 0 R;refine bq TO.ok rfl ?_;unfold aad;cases hh:k1 w o.spot with
 |false=>
  exact XJ
 |true=>
  rw[hh]at c1;obtain⟨L,N,y,z⟩:=E9 hh;have P:=Kl E a w o b s t X R o.spot.i9.toNat o.spot.k0.toNat y z (aT (mF y z) av) L N (k2 b 0 ⟨⟨0,0,0⟩,o.eD,o.en,[],[]⟩ o.bN o.C);repeat any_goals simp only[gE,simprocAttr,hx,o1,Op.c,aZ,bm,vJ]
  refine bz rfl c1 ?_ ?_ ?_
  .simp only[da,simprocAttr];simp;exact⟨rfl,rfl⟩
  .refine mV ?_;simp only[ee,simprocAttr]<;>rfl
  rintro _ _ E ⟨rfl,rfl⟩;repeat any_goals simp only[gE,simprocAttr]
  refine DL 25 (λi=>(OC a o b).getD i .qn) (λi=>14+i) (λs=>s.E=E) du du du du (λi j _ _ h=>av) ?_ ?_ ?_
  .exact sT
  .show uH _ _ _ _ _ _ _ 0 (Fk.1.take 25);simp only[Fk,fT,fi,uH]
   and_intros
   all_goals first|trivial|intro l f d A aA
   all_goals
    have Q:l.Z 0=.bp a 0:=(A 0 (λj _=>av)).trans rfl;simp only[hT,cE,jZ,kL,bL,OC,dO,dN,Nat.reduceAdd]at d
   all_goals
    repeat any_goals simp only[gE,simprocAttr,f,d,Q,hx,Op.c,aZ,bm,vJ]
   all_goals try(refine jj K (aV.cons (ak (by simp only[ee,simprocAttr,d]<;>rfl)) aV.nil) ?_;repeat any_goals simp only[gE,simprocAttr,f])
   all_goals try(refine bz f c3 (by simp only[bR,cm,da,simprocAttr,d];rfl) (aV.cons (ak (by simp only[ee,simprocAttr,d]<;>rfl)) (aV.cons (ak (by simp only[ee,simprocAttr,d]<;>rfl)) aV.nil)) ?_;rintro _ _ ai ⟨rfl,ab⟩;repeat any_goals simp only[dt,simprocAttr,bx,bQ,ab])
   all_goals exact⟨rfl,λt ac=>al ac⟩
  .intro l f d A;have p:l.Z 14=.bp a 0:=d 0 du;have q:l.Z 38=.agg [I b.J,I b.seq,I 0,I o.eD,I o.en,S o.bN,eW o.C]:=d 24 du;simp only[Fk,cd,cy,bt,cV];refine bz f P ?_ ?_ ?_
   .simp only[da,simprocAttr];simp[p,q];exact⟨rfl,rfl⟩
   .exact aV.cons (ak (by simp only[ee,simprocAttr,p]<;>rfl)) (aV.cons (ak (by simp only[ee,simprocAttr,q]<;>rfl)) aV.nil)
   exact X8
def TP:CF GL f266 [] [1,7,1007] 266:=jo
def Av:{l:List (BI×List Nat) // TP.b.body.sets[0]?=some l}:=⟨_,by cbv⟩
def Iv(d:Nat)(b:Name)(v a i:Int)(p q:aJ):List V:=
 [.bp d 0,.bp d 0,.bp d 0,.bp d 20,.agg [I v,I a,I i],.bp d 0,.agg [I b.J,I b.seq,I 0],.lp 4 0 3,I p.eD,.lp 4 0 4,I p.en,.lp 4 0 5,S p.bN,.lp 5 0 5,S q.bN,S (p.bN++32::q.bN),.lp 4 0 6,eW p.C,.lp 5 0 6,eW q.C,.sl 1 [eW p.C,eW q.C],eW (p.C++q.C),.agg [I b.J,I b.seq,I 0,I p.eD,I p.en,S (p.bN++32::q.bN),eW (p.C++q.C)],.sl 7 [.agg [I b.J,I b.seq,I 0,I p.eD,I p.en,S (p.bN++32::q.bN),eW (p.C++q.C)]]]
def Sk(E:aK)(f:Nat)(w:cg)(o:Op)(b:Name)(s t:fW)(X:List Nat)(R:RX E f w o b s t X)(v a i:Nat)(K:v<w.O.length)(L:a<w.O[v].O.length)(a3:i<w.O[v].O[a].O.length)(fa:(dj w).length<=10000)(dd:s=⟨v,a,i⟩)
 (a6:∀p∈w.O[v].O[a].O,p.C.length<=10000/\p.bN.length<=10000):
 aI 266 [.bp f 0] E λu _ b5=>Mv f o b s t (zd w v a i b) u b5:=by
 subst dd;obtain⟨df,hx,T,D,fr,fs⟩:=id R;obtain⟨_,_,_,dr⟩:=R.cells;obtain⟨ds,b6,y,b7,dE,c,dU,ca,pe,p3,a4,gk,gn,ma,eb,put⟩:=si T D K L;have ed:=rf E f df ds b7 _ _ _ _ v a b6 c i hx dU ca pe;obtain⟨el,ac,A,a5,Ub,fB,Uc,a7,cb⟩:=ca;have cc:A=y:=by
  exact KH
 rw[cc]at a7 cb;have bl:List.drop (a*2+1) y=b7::a5:=kc (j:=1) a7 (by simp[V.cells]);have bo:a*2+1<=y.length:=av;have bs:=a4.one;have bu:=a4.len;have ea:=ff K L;have hlen:=mF K L;have N:((i:Int)+1)=((i+1:Nat):Int):=av;refine bq TP.ok rfl ?_;unfold zd;rw[ea];repeat' simp(disch:=omega) only[gE,simprocAttr,hx,dr,Op.c,aZ,bm,vJ]
 refine bz rfl ed ?_ ?_ ?_
 .rfl
 .refine mV ?_;simp only[ee]<;>rfl
 rintro _ _ z ⟨rfl,ch⟩;rcases am (i+1) w.O[v].O[a].O.length with P|P
 .have gp:=a6 _ (ah a3);have ha:=a6 _ (ah P);obtain⟨pid,et,Q,x,hc,c9,a8,hd,bv,g4,g5,g6,⟨rfl,rfl⟩,he,hf⟩:=a4.get a3;obtain⟨bY,ci,l,hg,gb,cp,ab,hh,c1,c2,hi,hj,⟨rfl,rfl⟩,hk,hl⟩:=a4.get P;obtain⟨rfl,rfl⟩:bY=pid/\ci=et:=by rw[a8]at ab;injection ab with _ e1 _ _ eK;exact⟨e1.symm,eK.symm⟩
  obtain rfl:l=Q:=by rw[bv]at c1;exact(ar c1).symm
  simp only[aa a3,aa P];have e2:=vr E f w o b _ t X R v a i 2 K L av (aT (mF K L) av) [k2 b 0 w.O[v].O[a].O[i] (w.O[v].O[a].O[i].bN++32::w.O[v].O[a].O[i+1].bN) (w.O[v].O[a].O[i].C++w.O[v].O[a].O[i+1].C)] bT;generalize w.O[v].O[a].O[i]=p at*
  generalize w.O[v].O[a].O[i+1]=q at*
  have c5:i*7<=l.length:=av;have c6:(i+1)*7<=l.length:=av;subst a8;subst ch;by_cases b2:p.eD=q.eD/\p.en=q.en
  .rw[ax b2];obtain⟨a9,bi⟩:=b2;have c3:=QC p.bN q.bN av av;have c4:=RK [p.C,q.C] (by simp;omega) bT;rw[show [p.C,q.C].flatten=p.C++q.C from by simp]at c4;have e3:=xH z f w o b _ t X 0 R;have fin:∀d:St,d.E=z/\d.G 4=1/\d.loc 4 0=p.v.cells/\d.G 5=1/\d.loc 5 0=q.v.cells/\d.Z 0=.bp f 0/\d.Z 4=.lp 4 0 0/\d.Z 5=.lp 5 0 0->
    vc prog GL (BC.set Av.1) d (run prog GL [Fr.seq ((BC.ops true [g 2 (Bx.i 0)]).seq BC.ret)] λe c7=>(∀id,e≠Ex.exit id)/\∃u bJ,BF.result c7 [BR.tmp 2]=some (u,bJ)/\Mv f o b ⟨v,a,i⟩ t (kO w v a i 2 [k2 b 0 p (p.bN++32::q.bN) (p.C++q.C)],0) u c7.E):=by
    intro d hF;refine DL 24 (λn=>(Iv f b v a i p q).getD n .qn) (λi=>52+i) (λd=>d.E=z/\d.G 4=1/\d.loc 4 0=p.v.cells/\d.G 5=1/\d.loc 5 0=q.v.cells/\d.Z 0=.bp f 0/\d.Z 4=.lp 4 0 0/\d.Z 5=.lp 5 0 0) du du du du (λi j _ _ h=>av) hF ?_ ?_
    .show uH _ _ _ _ _ _ _ 0 (Av.1.take 24);simp only[Av,fT,fi,uH]
     and_intros
     all_goals first|trivial|rintro e4 ⟨H,ad,ai,aA,aB,aC,aD,a0⟩ r e5 hn
     all_goals
      simp only[hT,cE,jZ,kL,bL,Iv,dO,dN,Nat.reduceAdd]at r
     all_goals try(repeat any_goals simp only[gE,simprocAttr,H,ad,ai,aA,aB,aC,aD,a0,r,hx,Op.c,aJ.v,aZ,bm,vJ])
     all_goals try(refine jj c3 (aV.cons (ak (by simp only[ee,r]<;>rfl)) (aV.cons (ak (by simp only[ee,r]<;>rfl)) aV.nil)) ?_;repeat any_goals simp only[gE,simprocAttr,H,ad,ai,aA,aB,aC,aD,a0])
     all_goals try(refine jj c4 (aV.cons (ak (by simp only[ee,r]<;>rfl)) aV.nil) ?_;repeat any_goals simp only[gE,simprocAttr,H,ad,ai,aA,aB,aC,aD,a0])
     all_goals try(refine bz H e3 (by simp only[bR,cm,da,simprocAttr,r];rfl) (aV.cons (ak (by simp only[ee,simprocAttr,r]<;>rfl)) (aV.cons (ak (by simp only[ee,simprocAttr,r]<;>rfl)) aV.nil)) ?_;rintro _ _ z ⟨rfl,e6⟩;repeat any_goals simp only[dt,simprocAttr,bx,bQ,e6,ad,ai,aA,aB,aC,aD,a0])
     all_goals exact⟨rfl,λt e7=>al e7⟩
    .rintro e4 ⟨H,ad,ai,aA,aB,aC,aD,a0⟩ r e5;have a1:=r 0 du;have a2:=r 4 du;have z75:=r 23 du;simp only[Iv,dO,dN,Nat.reduceAdd]at a1 a2 z75;simp only[Av,cd,cy,bt,cV];refine bz H e2 (by simp only[bR,cm,da,simprocAttr,a1,a2,z75];rfl) (aV.cons (ak (by simp only[ee,simprocAttr,a1]<;>rfl)) (aV.cons (ak (by simp only[ee,simprocAttr,a2]<;>rfl)) (aV.cons (ak rfl) (aV.cons (ak (by simp only[ee,simprocAttr,z75]<;>rfl)) aV.nil)))) ?_;rintro u _ gf ⟨tG,R'⟩;repeat' simp only[gE,simprocAttr]
     exact MD
   repeat' first|simp(disch:=omega) only[gE,simprocAttr,hx,p3,bl,bo,bs,bu,N,bv,g4,c2,c5,c6,a9,bi,Op.c,aJ.v,Zs,ok7,aQ,aw,ay,aZ,bm,vJ]|(first|refine cz ?_ ?_|refine gz ?_ ?_)<;>intro b3 h<;>(try simp only[b3])<;>(try exact absurd trivial h)<;>try omega|refine e9 ?_ ?_
   all_goals
    refine fin _ ?_;simp only[da,simprocAttr,bQ,a9,bi,aJ.v,V.cells,aQ,aw,ay];all_goals trivial
  .rw[al b2];repeat' first|simp(disch:=omega) only[gE,simprocAttr,hx,p3,bl,bo,bs,bu,N,bv,g4,c2,c5,c6,Op.c,aJ.v,Zs,ok7,aQ,aw,ay,aZ,bm,vJ]|(first|refine cz ?_ ?_|refine gz ?_ ?_)<;>intro b3 h<;>(try simp only[b3])<;>try omega|refine e9 ?_ ?_
   all_goals exact⟨nE,I 12,_,bC rfl rfl,rfl,λh=>by cases h⟩
 .simp only[b1 P,aa a3];subst ch;repeat' first|simp(disch:=omega) only[gE,simprocAttr,hx,p3,bl,bo,bs,bu,N,Op.c,aZ,bm,vJ]|refine cs ?_ ?_<;>intro h<;>try omega
  all_goals exact⟨nE,I 6,_,bC rfl rfl,rfl,λh=>by cases h⟩
def ce.two{α:Type}{R:aK->V->α->List Nat->Prop}{sz:Nat}{h:aK}{v:V}{l:List α}{X:List Nat}(T:ce sz R h v l X)(D:X.Nodup){i k:Nat}(H:i<l.length)(K:k<l.length)(t:i≠k):
 ∃id c cells x y js u L N,v=.ms sz id 0 l.length c/\h.box id=some cells/\cells.drop (i*sz)=x.cells++L/\cells.drop (k*sz)=y.cells++N/\R h x l[i] js/\R h y l[k] u/\(∀j∈js,j∉u)/\id∉js/\js.Nodup/\(i+1)*sz<=cells.length/\(k+1)*sz<=cells.length:=by
 obtain⟨d,is,⟨f,h1⟩,P,ab,z,rfl⟩:=T;have hx:i<d.length:=by omega
 have q:i<is.length:=av;have a:k<d.length:=av;have o:k<is.length:=av;have p:=(aO.1 D).2.1;rcases h1 with⟨_,rfl⟩|⟨id,c,rest,rfl,ac,Q,ad,ai⟩
 .exact absurd hx (gQ _)
 refine⟨id,c,_,d[i],d[k],is[i],is[k],_,_,by rw[P],Q,i7 f hx rest,i7 f a rest,z i _ _ _ (aa hx) (aa H) (aa q),z k _ _ _ (aa a) (aa K) (aa o),λj r A=>?_,λr=>?_,?_,?_,?_⟩
 .exact oW p (aa o) (aa q) t j r A
 .exact(aO.1 D).2.2 id (by simp[bI]) id (hG (aa q) r) rfl
 .have h1:=p;rw[show is=is.take i++is[i]::is.drop (i+1)by simp]at h1;exact Yf
 .rw[ae,dV f];exact aT (cj _ hx) (lc _ _)
 .rw[ae,dV f];exact aT (cj _ a) (lc _ _)
def za.uniq{h:aK}{sz:Nat}{v:V}{n m i:Nat}{x y:V}(o:x.cells.length=y.cells.length)(a:za h sz v n i x)(b:za h sz v m i y):x.cells=y.cells:=by
 obtain⟨id,c,cells,r,p,u,q,t,z⟩:=a;obtain⟨id2,A,d,D,f,H,j,l,K⟩:=b;rw[p]at f;injection f with _ g1 _ _ _
 subst g1;rw[q]at j;cases j;rw[t]at l;exact(List.append_inj l o).1
def spine{h:aK}{u:V}{w:cg}{X:List Nat}(T:RW h (.agg [u]) w X)(D:X.Nodup){v a L bY:Nat}(N:v<w.O.length)(a6:a<w.O[v].O.length)(ad:L<w.O.length)(ds:bY<w.O[L].O.length)
 {j pv l t:V} {n m b2 b3 ai c pid b5 k z c2:Nat} (aD:za h 1 u n v (.agg [j])) (b6:za h 2 j m a (.agg [t,pv])) (a0:j=.ms 2 ai 0 m c) (b7:pv=.ms 7 pid 0 k b5) (a7:za h 1 u b2 L (.agg [l])) (a1:l=.ms 2 z 0 b3 c2):
 bI u≠some pid/\z≠pid:=by
 obtain⟨a8,e,a9⟩:=T;obtain rfl:u=a8:=by cases e;rfl
 have low:∀(d:V)(o:List Nat),d=j->ce 2 RA h d w.O[v].O o->o.Nodup->pid∈o/\ai≠pid:=by
  rintro d o rfl A ca;obtain⟨a2,ac,H,xa,bi,P,g1,dE,cb,cc,ch,dU,⟨aA,rfl,ci⟩,ea,cp,eb,c1,_⟩:=A.WA ym wv ca a6;have bl:aA=pv:=by
   have:=za.uniq (x:=.agg [S w.O[v].O[a].gR,aA]) (y:=.agg [t,pv]) rfl ⟨a2,ac,H,P,g1,a6,cb,cc,ch⟩ b6;simp[V.cells]at this;exact this.2
  subst bl;have E:pid∈bi:=ci.R7 (by rw[b7];rfl);refine⟨c1 _ E,?_⟩;rw[g1]at a0;injection a0 with _ c5 _ _ _
  subst c5;exact λe=>cp (e▸E)
 by_cases aB:v=L
 .subst aB;obtain⟨q,r,f,ed,o,Q,g1,el,R,a3,a4,et,⟨d,rfl,A⟩,c6,a5,_⟩:=a9.WA vG p7 D N;have K:d=j:=by
   have:=za.uniq (x:=.agg [d]) (y:=.agg [j]) rfl ⟨q,r,f,Q,g1,N,R,a3,a4⟩ aD;simpa[V.cells]using this
  have p:l=j:=by
   have:=za.uniq (x:=.agg [l]) (y:=.agg [j]) rfl a7 aD;simpa[V.cells]using this
  obtain⟨ab,bo⟩:=low d o K A c6;refine⟨λh=>a5 ?_,?_⟩
  .rw[g1]at h;cases h;exact ab
  .rw[p,a0]at a1;injection a1 with _ c7 _ _ _
   rw[<-c7];exact bo
 .obtain⟨q,r,f,x,y,o,bi,c9,dd,g1,R,a3,a4,⟨d,rfl,A⟩,⟨aC,rfl,df⟩,a5,dr,bs,bu,bv⟩:=a9.two D N ad aB;have K:d=j:=by
   have:=za.uniq (x:=.agg [d]) (y:=.agg [j]) rfl ⟨q,r,f,c9,g1,N,R,a3,bu⟩ aD;simpa[V.cells]using this
  have p:aC=l:=by
   have:=za.uniq (x:=.agg [aC]) (y:=.agg [l]) rfl ⟨q,r,f,dd,g1,ad,R,a4,bv⟩ a7;simpa[V.cells]using this
  obtain⟨ab,bo⟩:=low d o K A bs;refine⟨λh=>dr ?_,λh=>a5 _ ab ?_⟩
  .rw[g1]at h;cases h;exact ab
  .rw[<-h];exact df.R7 (by rw[p,a1];rfl)
def aae:CF GL f268 [] [1] 268:=jo
def Sl(E:aK)(r:Nat)(w:cg)(o:Op)(b:Name)(s t:fW)(X:List Nat)(R:RX E r w o b s t X)(v a i f d p:Nat)(a4:v<w.O.length)(b5:a<w.O[v].O.length)(ed:i<w.O[v].O[a].O.length)
 (P:f<w.O.length) (Q:d<w.O[f].O.length) (Wr:p<w.O[f].O[d].O.length) (ht:s=⟨v,a,i⟩) (hu:t=⟨f,d,p⟩):
 aI 268 [.bp r 0] E λu _ el=>Mv r o b s t (xu w v a i f d p,0) u el:=by
 subst ht hu;obtain⟨b6,hx,T,D,ac,et⟩:=id R;obtain⟨hv,eK,z,e1,c,pid,j7,H,rest,e2,b7,ca,cb,a9,e3,g4,g5,mp,put⟩:=xI T D a4 b5 ed;obtain⟨ad,cc,q,bi,hw,A,bl,ea,hr,q1,ch,a5,ci,e4,e5,e6,j8,e7,hy⟩:=xI T D P Q Wr;obtain⟨fa,fr⟩:=spine T D a4 b5 P Q e2 b7 ca a9 q1 a5;have hz:=rf E r b6 hv e1 _ _ _ _ v a eK c i hx e2 b7 ca;have hB:=rf E r b6 ad bi _ _ _ _ f d cc hw p hx q1 ch a5;obtain⟨_,_,fs,a6,bo,jB,ai,bs,fB⟩:=id b7;obtain⟨_,_,gb,aA,bu,j2,aB,K,gf⟩:=id ch;have gk:fs=z:=by
  rw[ca]at bo;injection bo with _ aC _ _ _;rw[<-aC,cb]at ai;exact(ar ai).symm
 rw[gk]at bs fB;have cp:gb=q:=by
  rw[a5]at bu;injection bu with _ aC _ _ _;rw[<-aC,ci]at aB;exact(ar aB).symm
 rw[cp]at K gf;have gn:List.drop (a*2+1) z=e1::a6:=kc (j:=1) bs (by simp[V.cells]);have c1:a*2+1<=z.length:=av;have gp:List.drop (d*2+1) q=bi::aA:=kc (j:=1) K (by simp[V.cells]);have c2:d*2+1<=q.length:=av;subst a9 e4;have fin:∀L:aK,L.box=eQ E.box pid (some (aQ H (i*7) (w.O[f].O[d].O[p]).v.cells))->L.Y=E.Y->∃l,L.box A=some l/\p*7+7<=l.length/\
  ∀aD:aK,aD.box=eQ L.box A (some (aQ l (p*7) (w.O[v].O[a].O[i]).v.cells))->aD.Y=L.Y->∃tG,RX aD r (xu w v a i f d p) o b ⟨v,a,i⟩ ⟨f,d,p⟩ tG:=by
  intro L hb ha;obtain⟨hD,T1,hF,hH⟩:=put L _ hb ha;obtain⟨W,c5⟩:∃W,W=k3 w v a ⟨w.O[v].O[a].gR,w.O[v].O[a].O.set i w.O[f].O[d].O[p]⟩:=⟨_,rfl⟩;rw[<-c5]at T1;obtain⟨a0,N,Yi⟩:=yu (x:=⟨w.O[v].O[a].gR,w.O[v].O[a].O.set i w.O[f].O[d].O[p]⟩) (a:=a) a4 P Q;simp only[<-c5]at a0 N Yi;have hc:p<W.O[f].O[d].O.length:=by
   exact Tg
  obtain⟨bv,hK,eb,bY,c3,c6,j3,ab,hs,hM,hO,re,j9,hd,hQ,m4,m5,j4,c7⟩:=xI T1 hF a0 N hc;have he:bv=ad:=by
   obtain⟨hf,hg,a1,a7,a2,c9,dd,df,dr⟩:=q1;have:=za.uniq (x:=.agg [bv]) (y:=.agg [ad]) rfl hM ⟨hf,hg,a1,a7,a2,c9,by rw[hb,bD _ _ (λe=>fa (by rw[a2];exact aq some e))];exact dd,df,dr⟩;simpa[V.cells]using this
  subst he;have b2:bY=.ms 7 A 0 w.O[f].O[d].O.length bl:=by
   obtain⟨ds,hR,a3,a8,a2,c9,dd,df,dr⟩:=ch;have:=za.uniq (x:=.agg [S _,bY]) (y:=.agg [S _,V.ms 7 A 0 _ bl]) rfl hO ⟨ds,hR,a3,a8,a2,c9,by
    rw[hb,bD _ _ (λe=>fr (by rw[<-e];have:=a2.symm.trans a5;injection this with _ aC _ _ _;exact aC.symm))];exact dd,df,dr⟩
   simp[V.cells]at this;exact this.2
  rw[hd]at b2;injection b2 with _ hS _ _ _
  subst hS;refine⟨ab,hQ,av,λaD K b3=>?_⟩;obtain⟨dE,h0,h2,h3⟩:=c7 aD _ K b3;have h4:xu w v a i f d p=k3 W f d ⟨W.O[f].O[d].gR,W.O[f].O[d].O.set p w.O[v].O[a].O[i]⟩:=by
   simp only[xu,ff a4 b5,ff P Q,ap,aa ed,aa Wr,bf,<-c5];rw[ff a0 N]
  have h5:r≠pid:=λe=>ac (e▸mp);have h6:r≠c6:=λe=>ac (e▸e7);refine⟨dE,b6,by rw[K,bD _ _ h6,hb,bD _ _ h5];exact hx,by rw[h4];exact h0,h2,λh=>?_,by rw[b3,ha];exact et⟩;rcases h3 _ h with h|h
  .rcases hH _ h with h|h
   .exact ac h
   .omega
  .omega
 refine bq aae.ok rfl ?_;repeat' first|simp only[gE,simprocAttr,hx,Op.c,aZ,bm,vJ]|refine e9 ?_ ?_
 all_goals
  refine bz rfl hz ?_ ?_ ?_
  .rfl
  .refine mV ?_;simp only[ee]<;>rfl
  rintro _ _ hh ⟨rfl,dU⟩;subst dU;repeat' first|simp only[gE,simprocAttr,hx,cb,ci,gn,c1,gp,c2,e3,g4,e5,e6,Op.c,aZ,bm,vJ]|refine e9 ?_ ?_
 all_goals
  refine bz rfl hB ?_ ?_ ?_
  .rfl
  .refine mV ?_;simp only[ee]<;>rfl
  rintro _ _ hh ⟨rfl,dU⟩;subst dU;repeat' simp(disch:=omega) only[gE,simprocAttr,hx,cb,ci,gn,c1,gp,c2,e3,g4,e5,e6,Op.c,aZ,bm,vJ]
 all_goals
  refine cJ (n:=7) (off:=i*7) (cells:=H) ?_ ?_ av λt te tc tl tb tm ih kd=>?_
  .exact sT
  .exact sT
  have hi:=tb.trans sT;have hj:=ih.trans sT;obtain⟨l,io,it,js⟩:=fin t.E hi hj;repeat' simp(disch:=omega) only[gE,simprocAttr,te,tc,tl,io,c2,c1]
 all_goals
  refine cJ (n:=7) (off:=p*7) (cells:=l) ?_ ?_ it λjA hk hl hn ho j5 hq j6=>?_
  .exact sT
  .simp only[da,simprocAttr,bQ,te,tc,tl];rfl
  obtain⟨tG,R'⟩:=js jA.E (ho.trans (by simp only[da,simprocAttr,bQ,te,tc,tl];try rfl)) (hq.trans (by simp only[da,simprocAttr,bQ];try rfl));repeat' simp only[gE,simprocAttr,hk,hl,hn,te,tc,tl]
  exact MD
def Ko:CF GL f265 [] [1,6,1006,7,1007,8,1008] 265:=jo
def Fl:{l:List (BI×List Nat) // Ko.b.body.sets[0]?=some l}:=⟨_,by cbv⟩
def Fm:{l:List (BI×List Nat) // Ko.b.body.sets[1]?=some l}:=⟨_,by cbv⟩
def Fo:{l:List (BI×List Nat) // Ko.b.body.sets[2]?=some l}:=⟨_,by cbv⟩
def zP:List V:=[I 0,I 0,I 0,I 0,I 0,S [],V.aP]
def d265(k a:Nat)(i:Nat):Nat:=if i=13 then a else k+i
def yD(f:Nat)(b:Name)(j:Int)(q:aJ)(l:T)(m:Int)(d:List ID)(a:Nat):List V:=
 [.bp f 0,.agg [I b.J,I b.seq,I j],.lp 3 0 3,I q.eD,.lp 3 0 4,I q.en,S l,.lp 3 0 6,eW q.C,I m,eW d,eW d,.agg [I b.J,I b.seq,I j,I q.eD,I q.en,S l,eW d],.lp a 0 0]
def Sm(E:aK)(f:Nat)(w:cg)(o:Op)(b:Name)(s t:fW)(X:List Nat)(R:RX E f w o b s t X)(v a i:Nat)(a2:v<w.O.length)(a3:a<w.O[v].O.length)(cp:i<w.O[v].O[a].O.length)(ea:(dj w).length<=10000)(a8:s=⟨v,a,i⟩)
 (q:aJ) (c1:w.O[v].O[a].O[i]=q) (q1:q.C.length<=10000) (c2:q.bN.length<=10000) (a9:g8 q.bN=0) (el:gl q.bN=q.C.length):
 aI 265 [.bp f 0] E λu _ bi=>Mv f o b s t (LJ w v a i q o.n b) u bi:=by
 have bl:=Fi E f w o b s t X R v a i a2 a3 cp a8;subst a8;rw[c1]at bl;have aC:=RZ q.bN o.n c2;obtain⟨et,hx,T,a4⟩:=R.cells;refine bq Ko.ok rfl ?_;unfold LJ;repeat any_goals simp only[dt,simprocAttr,bx,hx,a4,Op.c,aZ,bm,cy,cd,bP,vJ]
 refine bz rfl bl ?_ ?_ ?_
 .rfl
 .refine mV ?_;simp only[ee,simprocAttr]<;>rfl
 rintro _ _ E ⟨rfl,rfl⟩;cases bo:B2 q.bN o.n with
 |false=>
  rw[J5 a9 bo]at aC;repeat any_goals first|simp(disch:=(simp only[l4];omega)) only[dt,simprocAttr,bx,bQ,hx,a4,Op.c,aJ.v,aQ,aw,ay,cw,cP,aZ,bm,cy,cd,bP,vJ]|(refine i0 aC ?_ ?_;·simp only[ee,simprocAttr]<;>rfl)
  all_goals exact⟨nE,I 5,_,bC rfl rfl,rfl,λh=>by cases h⟩
 |true=>
  rw[Gx a9 bo]at aC;have eK:=Ff q.bN o.n;have e1:=B3 q.bN o.n;have c3:=Al (nL q.bN o.n) (by omega);have ai:(lO 3 (cr (nL q.bN o.n)) (cr (nL q.bN o.n)).length).length=gl (nL q.bN o.n):=rfl;generalize eb:gl (nL q.bN o.n)=m at*
  have c5:=vr E f w o b _ t X R v a i 1 a2 a3 (by omega) (aT (mF a2 a3) (by omega)) [k2 b 0 q (nL q.bN o.n) (q.C.take m),k2 b 1 q (Fe q.bN o.n) (q.C.drop m)] (by simp);generalize nL q.bN o.n=ac at*
  generalize Fe q.bN o.n=ad at*
  have c6:=vl (q.C.take m) (by rw[aG];omega);have c7:=vl (q.C.drop m) (by rw[aS];omega);have c9:=xH E f w o b _ t X 0 R;have bs:=xH E f w o b _ t X 1 R;have bu:List.take (q.C.length-m) (List.drop m (List.map ID.v q.C))=List.map ID.v (q.C.drop m):=by rw[aE (by simp),gG]
  have dd:List.take (m-0) (List.map ID.v q.C)=List.map ID.v (q.C.take m):=List.map_take.symm;repeat any_goals first|simp(disch:=(simp only[l4];omega)) only[dt,simprocAttr,bx,bQ,hx,a4,ai,Op.c,aJ.v,aQ,aw,ay,cw,cP,aZ,bm,cy,cd,bP,vJ]|((first|refine i0 aC ?_ ?_|refine i0 c3 ?_ ?_);·simp only[ee,simprocAttr]<;>rfl)
  all_goals
   refine DL 14 (λi=>(yD f b 0 q ac m (q.C.take m) 8).getD i .qn) (d265 29 8) (λs=>s.E=E/\s.G 3=1/\s.loc 3 0=q.v.cells/\((s.Z 8=.qn/\s.G 8=0)\/(s.Z 8=.lp 8 0 0/\s.G 8=1/\s.loc 8 0=zP))/\s.G 9=0/\s.Z 9=.qn/\s.Z 0=.bp f 0/\s.Z 3=.lp 3 0 0/\s.Z 4=S ac/\s.Z 5=S ad/\s.Z 7=I m/\True) (by decide) (by decide) (by decide) (by decide) (λi j df dr h=>by unfold d265 at h;split at h<;>split at h<;>omega) ?_ ?_ ?_
  .simp only[da,simprocAttr,bQ,aJ.v,V.cells,aQ,aw,ay];exact⟨rfl,.inl trivial⟩
  .show uH _ _ _ _ _ _ _ 0 (Fl.1.take 14);simp only[Fl,fT,fi,uH]
   and_intros
   all_goals first|trivial|rintro ab ⟨l,p,r,N,D,y,z,A,H,K,L,P⟩ d aA aD
   all_goals
    simp only[hT,cE,jZ,kL,bL,yD,d265,dO,dN,Nat.reduceAdd,Nat.reduceEqDiff,cH,bP]at d
   all_goals try(repeat any_goals simp(disch:=omega) only[dt,simprocAttr,bx,l,p,r,z,A,H,K,L,P,d,hx,ai,dd,aJ.v,Op.c,aZ,bm,cy,cd,bP,vJ])
   all_goals try(refine jj c6 (aV.cons (ak (by simp only[ee,simprocAttr,d]<;>rfl)) aV.nil) ?_;repeat any_goals simp only[dt,simprocAttr,bx,l,p,r,z,A,H,K,L,P,bQ])
   all_goals try(refine bz l c9 (by simp only[bR,cm,da,simprocAttr,d];rfl) (aV.cons (ak (by simp only[ee,simprocAttr,d]<;>rfl)) (aV.cons (ak (by simp only[ee,simprocAttr,d]<;>rfl)) aV.nil)) ?_;rintro _ _ bv ⟨rfl,a5⟩;repeat any_goals simp only[dt,simprocAttr,bx,bQ,a5,p,r,z,A,H,K,L,P])
   all_goals try(exact⟨⟨N,D,y⟩,rfl,λt Q=>al Q⟩)
   all_goals try(rcases N with⟨_,h⟩|⟨h,_⟩)
   all_goals try(exact absurd (h.symm.trans aD) (by simp only[da,simprocAttr,bQ,d265,Nat.reduceEqDiff,bP];simp))
   all_goals try(rw[h];exact⟨⟨.inr ⟨rfl,rfl,rfl⟩,D,y⟩,rfl,λt Q=>al Q⟩)
   all_goals skip
  .rintro ab ⟨l,p,r,N,D,y,z,A,H,K,L,P⟩ d aA;have z41:=d 12 (by decide);have a0:=d 13 (by decide);simp only[yD,d265,dO,dN,Nat.reduceAdd,Nat.reduceEqDiff,cH,bP]at z41 a0;obtain⟨bY,b2⟩:ab.G 8=1/\ab.loc 8 0=zP:=by
    rcases N with⟨h,_⟩|⟨_,h⟩
    .rw[a0]at h;cases h
    .exact h
   simp only[Fl,cd,cy,bt,cV];repeat any_goals simp only[dt,simprocAttr,bx,l,p,r,a0,z41,bY,b2,zP,aQ,aw,ay]
   have ds:=y;refine DL 14 (λi=>(yD f b 1 q ad m (q.C.drop m) 9).getD i .qn) (d265 42 9) (λs=>s.E=E/\s.G 3=1/\s.loc 3 0=q.v.cells/\((s.Z 9=.qn/\s.G 9=0)\/(s.Z 9=.lp 9 0 0/\s.G 9=1/\s.loc 9 0=zP))/\s.G 8=1/\s.loc 8 0=[I b.J,I b.seq,I 0,I q.eD,I q.en,S ac,eW (q.C.take m)]/\s.Z 8=.lp 8 0 0/\s.Z 0=.bp f 0/\s.Z 3=.lp 3 0 0/\s.Z 5=S ad/\s.Z 7=I m/\True) (by decide) (by decide) (by decide) (by decide) (λi j df dr h=>by unfold d265 at h;split at h<;>split at h<;>omega) ?_ ?_ ?_
   .simp only[da,simprocAttr,bQ,l,p,r,D,y,z,A,H,K,L,a0,bY,b2,zP,aQ,aw,ay];all_goals trivial
   .show uH _ _ _ _ _ _ _ 0 (Fm.1.take 14);simp only[Fm,fT,fi,uH]
    and_intros
    all_goals first|trivial|rintro ab ⟨l,p,r,N,D,y,z,A,H,K,L,P⟩ d aA aD
    all_goals
     simp only[hT,cE,jZ,kL,bL,yD,d265,dO,dN,Nat.reduceAdd,Nat.reduceEqDiff,cH,bP]at d
    all_goals try(repeat any_goals simp(disch:=omega) only[dt,simprocAttr,bx,l,p,r,D,y,z,A,H,K,L,P,d,hx,ai,bu,aJ.v,Op.c,aZ,bm,cy,cd,bP,vJ])
    all_goals try(refine jj c7 (aV.cons (ak (by simp only[ee,simprocAttr,d]<;>rfl)) aV.nil) ?_;repeat any_goals simp only[dt,simprocAttr,bx,l,p,r,D,y,z,A,H,K,L,P,bQ])
    all_goals try(refine bz l bs (by simp only[bR,cm,da,simprocAttr,d];rfl) (aV.cons (ak (by simp only[ee,simprocAttr,d]<;>rfl)) (aV.cons (ak (by simp only[ee,simprocAttr,d]<;>rfl)) aV.nil)) ?_;rintro _ _ bv ⟨rfl,a5⟩;repeat any_goals simp only[dt,simprocAttr,bx,bQ,a5,p,r,D,y,z,A,H,K,L,P])
    all_goals try(exact⟨N,rfl,λt Q=>al Q⟩)
    all_goals try(rcases N with⟨_,h⟩|⟨h,_⟩)
    all_goals try(exact absurd (h.symm.trans aD) (by simp only[da,simprocAttr,bQ,d265,Nat.reduceEqDiff,bP,ds];simp))
    all_goals try(rw[h];exact⟨.inr ⟨rfl,rfl,rfl⟩,rfl,λt Q=>al Q⟩)
    all_goals skip
   .rintro ab ⟨l,p,r,N,D,y,z,A,H,K,L,P⟩ d aA;have z54:=d 12 (by decide);have a1:=d 13 (by decide);simp only[yD,d265,dO,dN,Nat.reduceAdd,Nat.reduceEqDiff,cH,bP]at z54 a1;obtain⟨b3,b5⟩:ab.G 9=1/\ab.loc 9 0=zP:=by
     rcases N with⟨h,_⟩|⟨_,h⟩
     .rw[a1]at h;cases h
     .exact h
    simp only[Fm,cd,cy,bt,cV];repeat any_goals simp only[dt,simprocAttr,bx,l,p,r,a1,z54,b3,b5,zP,aQ,aw,ay]
    refine DL 8 (λn=>([.bp f 0,.bp f 0,.bp f 0,.bp f 20,.agg [I v,I a,I i],.agg [I b.J,I b.seq,I 0,I q.eD,I q.en,S ac,eW (q.C.take m)],.agg [I b.J,I b.seq,I 1,I q.eD,I q.en,S ad,eW (q.C.drop m)],.sl 7 [.agg [I b.J,I b.seq,I 0,I q.eD,I q.en,S ac,eW (q.C.take m)],.agg [I b.J,I b.seq,I 1,I q.eD,I q.en,S ad,eW (q.C.drop m)]]]:List V).getD n .qn) (λi=>55+i) (λs=>s.E=E/\s.G 8=1/\s.loc 8 0=[I b.J,I b.seq,I 0,I q.eD,I q.en,S ac,eW (q.C.take m)]/\s.G 9=1/\s.loc 9 0=[I b.J,I b.seq,I 1,I q.eD,I q.en,S ad,eW (q.C.drop m)]/\s.Z 8=.lp 8 0 0/\s.Z 9=.lp 9 0 0/\s.Z 0=.bp f 0) (by decide) (by decide) (by decide) (by decide) (λi j _ _ h=>by omega) ?_ ?_ ?_
    .simp only[da,simprocAttr,bQ,l,p,r,D,y,z,A,a1,b3,b5,zP,aQ,aw,ay];all_goals rfl
    .show uH _ _ _ _ _ _ _ 0 (Fo.1.take 8);simp only[Fo,fT,fi,uH]
     and_intros
     all_goals first|trivial|rintro dE ⟨a6,b6,b7,ca,cb,cc,ch,ci⟩ d aA aD
     all_goals
      simp only[hT,cE,jZ,kL,bL,dO,dN,Nat.reduceAdd]at d;repeat any_goals simp only[dt,simprocAttr,bx,a6,b6,b7,ca,cb,cc,ch,ci,d,hx,Op.c,aZ,bm,cy,cd,bP,vJ]
     all_goals exact λt Q=>al Q
    .rintro dE ⟨a6,b6,b7,ca,cb,cc,ch,ci⟩ d aA;have z55:=d 0 (by decide);have z59:=d 4 (by decide);have aB:=d 7 (by decide);simp only[dO,dN,Nat.reduceAdd]at z55 z59 aB;simp only[Fo,cd,cy,bt,cV];refine bz a6 c5 (by simp only[bR,cm,da,simprocAttr,z55,z59,aB];rfl) (aV.cons (ak (by simp only[ee,simprocAttr,z55]<;>rfl)) (aV.cons (ak (by simp only[ee,simprocAttr,z59]<;>rfl)) (aV.cons (ak rfl) (aV.cons (ak (by simp only[ee,simprocAttr,aB]<;>rfl)) aV.nil)))) ?_;rintro u _ ed ⟨a7,dU⟩;repeat any_goals simp only[dt,simprocAttr,bx,bQ]
     exact⟨nE,I 0,_,bC rfl rfl,rfl,λ_=>⟨a7,dU⟩⟩
abbrev fr2:List V:=[(.int .i64 0),(.int .i64 0),(.int .i64 0),(.int .i64 0),(.int .i64 0),(.str []),.aP]
abbrev fr0:k6:=(.one false (v 112 (.build fr2 [(0,3,(x 102)),(3,1,(x 104)),(4,1,(x 106)),(5,1,(x 107)),(6,1,(x 111))])) (.one true (e 113 (.uk 7 (.agg fr2) 1 [(0,(x 112))])) (.one true (e 114 (.app 7 (x 99) (x 113))) (.one true (g 6 (x 114)) (.done)))))
abbrev aaf:k6:=(.one true (⟨none,none,.ex (.store 7 (x 3) (x 11))⟩) (.one true (g 4 (x 20)) (.done)))
abbrev rE:k6:=(.stop)
abbrev fr1:k6:=(.alt (e 19 (.ld (x 18))) (.one false (v 20 (.len (x 19))) aaf) (.alt (⟨none,none,.ex (.store 7 (x 3) (x 11))⟩) (.one true (e 19 (.ld (x 18))) (.one true (v 20 (.len (x 19))) (.one true (g 4 (x 20)) (.done)))) rE))
abbrev LX:BI:=(e 3 (.alloc fr2))
abbrev fr4:k6:=(.alt (c 17 311 [(x 12),(x 16)]) (.one false (v 18 (.nilCheck (x 17))) fr1) rE)
abbrev fr3:k6:=(.alt (c 17 311 [(x 12),(x 16)]) (.one false (v 18 (.nilCheck (x 17))) (.alt (e 19 (.ld (x 18))) (.one false (v 20 (.len (x 19))) (.one true LX aaf)) (.alt LX fr1 rE))) (.alt LX fr4 rE))
abbrev Sn:BI:=(c 111 127 [(x 110)])
abbrev fr5:k6:=(.alt Sn fr0 rE)
abbrev WE:BI:=(e 104 (.ld (x 103)))
abbrev WF:BI:=(e 106 (.ld (x 105)))
abbrev fr8:BI:=(c 102 307 [(x 100),(x 101)])
abbrev fr9:BI:=(v 16 (.load true 3 (x 15)))
abbrev OD:BI:=(c 11 309 [(x 10)])
abbrev aag:k6:=(.alt WF fr5 (.alt Sn (.one false WF fr0) rE))
abbrev aah:k6:=(.alt WE fr5 (.alt Sn (.one false WE fr0) rE))
def Fp:BC:=(.seq (.ops true [v 88 (.bin .lss (x 87) (x 86))]) (.seq (.cond (x 88) .skip (.exit 0)) (.seq (.block 1 (.seq (.ops true [m 89 (x 87),v 90 (.sy 1 (x 85) (x 87)),e 91 (.ld (x 90)),g 7 (x 89),g 8 (x 91)]) (.seq (.ops true [m 92 (x 8),c 93 126 [(x 92)],v 94 (.len (x 93)),g 9 (x 94)]) (.seq (.seq (.ops true [m 95 (x 9),m 96 (x 5),v 97 (.len (x 96)),v 98 (.bin .gtr (x 95) (x 97))]) (.cond (x 98) (.seq (.ops true [g 2 (i 8)]) .ret) .skip)) (.seq (.ws false (.one false (m 99 (x 6)) (.one false (m 100 (x 0)) (.one false (m 101 (x 7)) (.one false (v 103 (.fieldAddr 3 (x 3))) (.one false (v 105 (.fieldAddr 4 (x 3))) (.one false (m 107 (x 8)) (.one false (m 108 (x 5)) (.one false (m 109 (x 9)) (.one false (v 110 (.cut 3 (x 108) none (some (x 109)))) (.alt fr8 (.alt WE aag (.alt WF aah (.alt Sn (.one false WE (.one false WF fr0)) rE))) (.alt WE (.alt fr8 aag (.alt WF (.alt fr8 fr5 rE) rE)) (.alt WF (.alt fr8 aah (.alt WE (.alt fr8 fr5 rE) rE)) rE))))))))))))) (.ops true [m 115 (x 5),m 116 (x 9),v 117 (.cut 3 (x 115) (some (x 116)) none),g 5 (x 117)])))))) (.ops true [v 118 (.bin .add (x 87) (i 1)),m 87 (x 118)]))))
def TR:BC:=(.seq (.ops true [g 2 (i 0)]) (.seq (.ws false (.one false (m 10 (x 0)) (.one false (m 12 (x 0)) (.one false (m 13 (x 0)) (.one false (v 14 (.nilCheck (x 13))) (.one false (v 15 (.fieldAddr 20 (x 14))) (.alt OD (.alt fr9 fr3 (.alt LX (.alt fr9 fr4 rE) rE)) (.alt fr9 (.alt OD fr3 (.alt LX (.alt OD fr4 rE) rE)) (.alt LX (.alt OD (.alt fr9 fr4 rE) (.alt fr9 (.alt OD fr4 rE) rE)) rE))))))))) (.seq (.seq (.ws true (.one false (m 21 (x 0)) (.one false (v 22 (.nilCheck (x 21))) (.one false (v 23 (.fieldAddr 1 (x 22))) (.one false (v 24 (.fieldAddr 10 (x 23))) (.one false (e 25 (.ld (x 24))) (.one false (v 26 (.bin .lss (x 25) (i 1))) (.one false (m 27 (x 26)) (.one false (⟨some (27,false),some 28,.ex (.Jd (x 0))⟩) (.one false (⟨some (27,false),some 29,.ex (.val (.nilCheck (x 28)))⟩) (.one false (⟨some (27,false),some 30,.ex (.val (.fieldAddr 1 (x 29)))⟩) (.one false (⟨some (27,false),some 31,.ex (.val (.fieldAddr 10 (x 30)))⟩) (.one false (⟨some (27,false),some 32,.ex (.ld (x 31))⟩) (.one false (⟨some (27,false),some 33,.ex (.val (.bin .gtr (x 32) (i 4)))⟩) (.one false (v 34 (.pick (x 27) (.const (.bool true)) (x 33))) (.one false (m 35 (x 34)) (.one false (⟨some (35,false),some 36,.ex (.Jd (x 0))⟩) (.one false (⟨some (35,false),some 37,.ex (.val (.nilCheck (x 36)))⟩) (.one false (⟨some (35,false),some 38,.ex (.val (.fieldAddr 20 (x 37)))⟩) (.one false (⟨some (35,false),some 39,.ex (.val (.fieldAddr 2 (x 38)))⟩) (.one false (⟨some (35,false),some 40,.ex (.ld (x 39))⟩) (.one false (⟨some (35,false),some 41,.ex (.Jd (x 0))⟩) (.one false (⟨some (35,false),some 42,.ex (.val (.nilCheck (x 41)))⟩) (.one false (⟨some (35,false),some 43,.ex (.val (.fieldAddr 1 (x 42)))⟩) (.one false (⟨some (35,false),some 44,.ex (.val (.fieldAddr 10 (x 43)))⟩) (.one false (⟨some (35,false),some 45,.ex (.ld (x 44))⟩) (.one false (⟨some (35,false),some 46,.ex (.val (.bin .add (x 40) (x 45)))⟩) (.one false (⟨some (35,false),some 47,.ex (.Jd (x 4))⟩) (.one false (⟨some (35,false),some 48,.ex (.val (.bin .gtr (x 46) (x 47)))⟩) (.one false (v 49 (.pick (x 35) (.const (.bool true)) (x 48))) (.one false (m 50 (x 49)) (.one false (⟨some (50,false),some 51,.ex (.Jd (x 0))⟩) (.one false (⟨some (50,false),some 52,.ex (.val (.nilCheck (x 51)))⟩) (.one false (⟨some (50,false),some 53,.ex (.val (.fieldAddr 1 (x 52)))⟩) (.one false (⟨some (50,false),some 54,.ex (.val (.fieldAddr 14 (x 53)))⟩) (.one false (⟨some (50,false),some 55,.ex (.ld (x 54))⟩) (.one false (⟨some (50,false),some 56,.ex (.val (.len (x 55)))⟩) (.one false (⟨some (50,false),some 57,.ex (.val (.bin .lss (x 56) (i 1)))⟩) (.one false (v 58 (.pick (x 50) (.const (.bool true)) (x 57))) (.one false (m 59 (x 58)) (.one false (⟨some (59,false),some 60,.ex (.Jd (x 0))⟩) (.one false (⟨some (59,false),some 61,.ex (.val (.nilCheck (x 60)))⟩) (.one false (⟨some (59,false),some 62,.ex (.val (.fieldAddr 1 (x 61)))⟩) (.one false (⟨some (59,false),some 63,.ex (.val (.fieldAddr 14 (x 62)))⟩) (.one false (⟨some (59,false),some 64,.ex (.ld (x 63))⟩) (.one false (⟨some (59,false),some 65,.ex (.val (.len (x 64)))⟩) (.one false (⟨some (59,false),some 66,.ex (.val (.bin .gtr (x 65) (i 4)))⟩) (.one false (v 67 (.pick (x 59) (.const (.bool true)) (x 66))) (.one true (m 68 (x 67)) (.one false (⟨some (68,false),some 69,.ex (.Jd (x 0))⟩) (.one false (⟨some (68,false),some 70,.ex (.val (.nilCheck (x 69)))⟩) (.one false (⟨some (68,false),some 71,.ex (.val (.fieldAddr 1 (x 70)))⟩) (.one false (⟨some (68,false),some 72,.ex (.val (.load true 17 (x 71)))⟩) (.one false (⟨some (68,false),some 73,.call 314 [(x 72)]⟩) (.one true (⟨some (68,false),some 74,.ex (.val (.un .not (x 73)))⟩) (.one true (v 75 (.pick (x 68) (.const (.bool true)) (x 74))) (.done))))))))))))))))))))))))))))))))))))))))))))))))))))))))) (.cond (x 75) (.seq (.ops true [g 2 (i 5)]) .ret) .skip)) (.seq (.ops true [m 76 (x 0),v 77 (.nilCheck (x 76)),v 78 (.fieldAddr 1 (x 77)),v 79 (.fieldAddr 16 (x 78)),e 80 (.ld (x 79)),g 5 (x 80)]) (.seq (.ops true [g 6 (.const .aP)]) (.seq (.seq (.ops true [m 81 (x 0),v 82 (.nilCheck (x 81)),v 83 (.fieldAddr 1 (x 82)),v 84 (.fieldAddr 14 (x 83)),e 85 (.ld (x 84)),v 86 (.len (x 85)),m 87 (i 0)]) (.block 0 (.loop Fp))) (.seq (.seq (.ops true [m 119 (x 5),v 120 (.len (x 119)),v 121 (.bin .gtr (x 120) (i 0))]) (.cond (x 121) (.seq (.ops true [g 2 (i 8)]) .ret) .skip)) (.seq (.ws false (.one false (m 122 (x 0)) (.one false (m 123 (x 0)) (.one false (v 124 (.nilCheck (x 123))) (.one false (v 125 (.fieldAddr 20 (x 124))) (.one false (v 126 (.load true 3 (x 125))) (.one false (m 127 (x 0)) (.one false (v 128 (.nilCheck (x 127))) (.one false (v 129 (.fieldAddr 1 (x 128))) (.one false (v 130 (.fieldAddr 10 (x 129))) (.one false (e 131 (.ld (x 130))) (.one true (m 132 (x 6)) (.one true (c 133 308 [(x 122),(x 126),(x 131),(x 132)]) (.done)))))))))))))) (.seq (.ops true [g 2 (i 0)]) .ret)))))))))
def aai:r6 prog GL [] [1,12,17] 269=some ⟨134,TR,[.tmp 2]⟩:=by kernel_rfl
def OE{F:List T}{j k:Nat}(h:j<=k)(a:k<=F.length):qU F j<=qU F k:=by
 induction k with
 |zero=>rw[rk.1 h];exact an _
 |succ k ih=>
  rcases gr h with h|rfl
  .have:=ih av av;rw[uL av];omega
  .exact an _
def So(E:aK)(d:Nat)(w:cg)(o:Op)(b:Name)(s t:fW)(X:List Nat)(R:RX E d w o b s t X)(v a i:Nat)(Q:v<w.O.length)(ab:a<w.O[v].O.length)(bo:i<w.O[v].O[a].O.length)(e7:(dj w).length<=10000)(ca:s=⟨v,a,i⟩)
 (cb:o.ok) (ea:∀t∈o.F,t.length<=10000):
 aI 269 [.bp d 0] E λu _ cc=>Mv d o b s t (C2 w o v a i b) u cc:=by
 have ch:=Fi E d w o b s t X R v a i Q ab bo ca;subst ca;obtain⟨eb,hx,T,D,fa,fr⟩:=id R;obtain⟨ed,ci,f,bs,el,c,et,cp,pe,p3,bu,_⟩:=si T D Q ab;have eK:=rf E d eb ed bs _ _ _ _ v a ci c i hx et cp pe;obtain⟨e1,ac,K,a4,Ub,fs,Uc,a8,c1⟩:=id cp;have c2:K=f:=by
  exact KH
 rw[c2]at a8 c1;have c5:List.drop (a*2+1) f=bs::a4:=kc (j:=1) a8 (by simp[V.cells]);have a9:a*2+1<=f.length:=av;obtain⟨pid,a5,bi⟩:∃pid a5,bs=.ms 7 pid 0 w.O[v].O[a].O.length a5:=by
  obtain⟨pid,a5,_,_,_,_,bi,_⟩:=bu.get bo;exact⟨pid,a5,bi⟩
 have bv:=Sa o cb;obtain⟨p,bl⟩:∃p,w.O[v].O[a].O[i]=p:=⟨_,rfl⟩;have e2:C2 w o v a i b=(if 1<=o.n/\o.n<=4/\(i:Int)+o.n<=w.O[v].O[a].O.length/\1<=o.F.length/\o.F.length<=4/\q9 o=true then(if qU o.F o.F.length=o.C.length then(kO w v a i o.n.toNat (ww b p o.F o.C o.F.length),0)else(w,8))else(w,5)):=by
  unfold C2;rw[ff Q ab];simp only[ap,aa bo,bf,bl]
 rw[e2];rw[bl]at ch;have c6:=bu.one;have fB:=mF Q ab;have c7:=bu.len;refine bq aai rfl ?_;simp only[TR];refine YR (J:=λt=>t.E=E/\t.G 3=1/\t.loc 3 0=p.v.cells/\t.Z 0=.bp d 0/\t.Z 3=.lp 3 0 0/\t.Z 4=I w.O[v].O[a].O.length) ?_ ?_
 .repeat' first|simp only[gE,simprocAttr,hx,p3,c5,a9,c6,c7,Op.c,aJ.v,zP,aQ,aw,ay,aZ,bm,vJ]|refine e9 ?_ ?_
  iterate 2
   all_goals try(first|(refine bz (by simp only[sE]<;>done) ch sT ag ?_;rintro _ _ ad ⟨rfl,rfl⟩)|(refine bz (by simp only[sE]<;>done) eK sT ag ?_;rintro _ _ ad ⟨rfl,rfl⟩))
   repeat' first|simp only[gE,simprocAttr,hx,p3,c5,a9,c6,c7,Op.c,aJ.v,zP,aQ,aw,ay,aZ,bm,vJ]|refine e9 ?_ ?_
  all_goals skip
 rintro ha ⟨bY,b2,b3,c9,dd,df⟩;by_cases L:1<=o.n/\o.n<=4/\(i:Int)+o.n<=w.O[v].O[a].O.length/\1<=o.F.length/\o.F.length<=4/\q9 o=true
 .rw[ax L];obtain⟨hc,hd,he,hf,hg,e3⟩:=L;rw[e3]at bv;repeat' first|simp(disch:=omega) only[gE,simprocAttr,bY,c9,dd,df,b2,b3,hx,aJ.v,Op.c,aZ,bm,vJ]|refine gz ?_ ?_<;>intro b5 h<;>(try simp only[b5])<;>try omega|refine lq bv ?_
  obtain⟨N,L⟩:∃N:Nat,o.n=N:=⟨o.n.toNat,av⟩;have hh:=cb.2.2.2.2;have fin:qU o.F o.F.length≠o.C.length->(if qU o.F o.F.length=o.C.length then(kO w v a i o.n.toNat (ww b p o.F o.C o.F.length),(0:Int))else(w,8)).2=8:=λh=>by rw[al h]
  refine dT rfl rfl (λ(k:Nat) t=>k<=o.F.length/\qU o.F k<=o.C.length/\t.Z 87=I k/\t.Z 5=eW (o.C.drop (qU o.F k))/\t.E=E/\t.G 3=1/\t.loc 3 0=p.v.cells/\∃a6,t.Z 6=a6/\((k=0/\a6=.aP)\/(0<k/\a6=dA (ww b p o.F o.C k)/\t.fl 6=true))) (λk=>o.F.length-k) 0 ?_ ?_
  .refine⟨aL _,aL _,?_⟩;simp only[da,simprocAttr,bY,b2,b3];exact⟨rfl,_,rfl,.inl rfl⟩
  rintro k z ⟨hi,dr,q,ai,P,r,y,a6,b6,ds⟩ a7;have aA:z.Z 0=.bp d 0:=(a7 0 du).trans sT;have aB:z.Z 3=.lp 3 0 0:=(a7 3 du).trans sT;have aC:z.Z 85=eZ o.F:=(a7 85 du).trans sT;have aD:z.Z 86=I o.F.length:=(a7 86 du).trans sT;rcases am k o.F.length with A|A
  .have gb:=ea _ (ah A);have c3:=Al o.F[k] av;have a0:(lO 3 (cr o.F[k]) (cr o.F[k]).length).length=gl o.F[k]:=rfl;have a1:=uL A;have a2:qU o.F (k+1)<=o.C.length->ww b p o.F o.C (k+1)=ww b p o.F o.C k++[k2 b k p o.F[k] ((o.C.drop (qU o.F k)).take (gl o.F[k]))]:=λh=>by
    rw[DR A,dM dr,dM (by rw[<-a1];exact h),ko]
   generalize gl o.F[k]=m at a0 a1 a2;have H:V.sl 3 (List.take ((List.drop (qU o.F k) o.C).length-m) (List.drop m (List.map ID.v (List.drop (qU o.F k) o.C))))=V.sl 3 (List.map ID.v (List.drop (qU o.F (k+1)) o.C)):=by
    rw[aE (by simp only[aS,au];omega),<-gG,dF,a1]
   have c4:=xH E d w o b _ t X k R;have dE:=vl ((o.C.drop (qU o.F k)).take m) (by rw[aG,aS];omega);have gf:((o.C.drop (qU o.F k)).length:Int)<m->qU o.F o.F.length≠o.C.length:=λh e=>by
    have:=OE (j:=k+1) (k:=o.F.length) A (an _);rw[aS]at h;omega
   have hle:(¬(o.C.drop (qU o.F k)).length<m)->qU o.F (k+1)<=o.C.length:=λh=>by rw[aS]at h;omega
   have hcut:List.take (m-0) (List.map ID.v (List.drop (qU o.F k) o.C))=List.map ID.v ((o.C.drop (qU o.F k)).take m):=List.map_take.symm;have gk:=xq b p o.F o.C k;rcases ds with⟨rfl,rfl⟩|⟨gn,rfl,dU⟩
   .repeat' first|simp(disch:=try exact om) only[gE,simprocAttr,Fp,q,ai,P,r,y,b6,aA,aB,aC,aD,a0,aJ.v,hcut]|refine cs ?_ ?_<;>intro h<;>try omega|refine lq c3 ?_|refine e9 ?_ ?_
    .exact Th
    all_goals
     refine bz (by simp only[sE,P]<;>done) c4 sT ag ?_;rintro _ _ ad ⟨rfl,a3⟩
    repeat' first|simp(disch:=try exact om) only[gE,simprocAttr,hcut,q,ai,r,y,aA,aB,a3,aJ.v]|refine lq dE ?_|refine e9 ?_ ?_
    all_goals
     refine⟨0+1,⟨?_⟩,⟨av⟩⟩;refine⟨A,hle (by assumption),?_⟩;simp only[da,simprocAttr,bQ,q,r,y,a3];refine⟨H,rfl,_,rfl,.inr ⟨?_,?_⟩⟩
     .exact((aq (λl=>V.sl 7 (l.map aJ.v)) (a2 (hle (by assumption)))).trans rfl).symm
     .rfl
   .repeat' first|simp(disch:=try exact om) only[gE,simprocAttr,Fp,q,ai,P,r,y,b6,dU,aA,aB,aC,aD,a0,aJ.v,hcut]|refine cs ?_ ?_<;>intro h<;>try omega|refine lq c3 ?_|refine e9 ?_ ?_
    .exact Th
    all_goals
     refine bz (by simp only[sE,P]<;>done) c4 sT ag ?_;rintro _ _ ad ⟨rfl,a3⟩
    repeat' first|simp(disch:=try exact om) only[gE,simprocAttr,vh,hcut,q,ai,r,y,dU,aA,aB,a3,aJ.v]|refine lq dE ?_|refine e9 ?_ ?_
    all_goals
     refine⟨k+1,⟨?_⟩,⟨av⟩⟩;refine⟨A,hle (by assumption),?_⟩;simp only[da,simprocAttr,bQ,q,r,y,a3];refine⟨aq (V.int .i64) (by omega),H,rfl,_,rfl,.inr ⟨jY _,?_,?_⟩⟩
     .exact((aq (λl=>V.sl 7 (l.map aJ.v)) (a2 (hle (by assumption)))).trans (aq (V.sl 7) az)).symm
     .rfl
  .obtain rfl:k=o.F.length:=av;rcases ds with⟨hj,_⟩|⟨_,rfl,_⟩
   .omega
   have e4:=vr E d w o b _ t X R v a i N Q ab av av (ww b p o.F o.C o.F.length) (by rw[xq];omega);repeat' first|simp only[gE,simprocAttr,Fp,q,ai,P,r,y,b6,aA,aB,aC,aD,hx,L,Op.c,aZ,bm,vJ]|refine cs ?_ ?_<;>intro h<;>try omega
   .exact⟨nE,I 8,_,bC rfl rfl,by
     rw[aS]at h;first|exact⟨rfl,λh=>by cases h⟩|(rw[al av];exact⟨rfl,λh=>by cases h⟩)⟩
   .refine bz (by simp only[sE,P]<;>done) e4 sT ag ?_;rintro u _ gp ⟨b7,e5⟩;repeat' simp only[gE,simprocAttr]
    have e6:qU o.F o.F.length=o.C.length:=by
     rw[aS]at h;omega
    exact⟨nE,I 0,_,bC rfl rfl,by(try rw[ax e6]);exact⟨rfl,λ_=>⟨b7,by skip;exact e5⟩⟩⟩
 .rw[al L];repeat' first|simp(disch:=omega) only[gE,simprocAttr,bY,c9,dd,df,b2,b3,hx,aJ.v,Op.c,aZ,bm,vJ]|(first|refine cz ?_ ?_|refine gz ?_ ?_)<;>intro b5 h<;>try simp only[b5]|refine lq bv ?_
  all_goals first|exact⟨nE,I 5,_,bC rfl rfl,rfl,λh=>by cases h⟩|exact absurd ⟨by assumption,by assumption,by assumption,av,av,by assumption⟩ L
def setOf(l:List ID):List (ID×V):=l.map λa=>(a,B true)
def tK(l:List ID)(a:ID):List ID:=if a∈l then l else l++[a]
def Iw(l:List ID)(a:ID):jh (setOf l) a (B true)=setOf (tK l a):=by
 induction l with
 |nil=>rfl
 |cons b r ih=>
  unfold setOf at ih ⊢
  rw[bt,jh,tK];by_cases h:a=b
  .subst h;simp
  .rw[al h,ih,tK];simp only[bn,h,rV];split<;>rfl
def Ix(l:List ID)(a:ID):kP (setOf l) a (B false)=B (decide (a∈l)):=by
 induction l with
 |nil=>rfl
 |cons b r ih=>
  unfold setOf at ih ⊢
  rw[bt,kP];by_cases h:a=b
  .subst h;simp
  .rw[al h,ih];simp[h]
def OF(l:List ID)(a c:ID):c∈tK l a↔c=a\/c∈l:=by
 unfold tK;split
 next h=>
  constructor
  .exact .inr
  .rintro(rfl|d)
   .exact h
   .exact d
 .simp[or_comm]
def uT(c:ID):∀(l m:List ID),c∈l.foldl tK m↔c∈m\/c∈l
 |[],m=>bT
 |a::r,m=>by
  rw[dL,uT c r,OF,bn];exact Ti
def nw{α:Type}[DecidableEq α]{f:List CK}{ag:Bool}{lH:α->V}{P:Program}{GL:aj}{s:St}{j:St->Prop}{pu:Bool}{d:Option Nat}{r:List BI}{m k y:eL}{id:Nat}{l:List (α×V)}{a:α}{fA:aK}{yv:V}
 (K:yw f ag lH) (hm:s.val m=.mp id) (p:s.val k=lH a) (q:s.E=fA) (t:fA.mp id=some (.map (fk lH l))) (o:s.val y=yv) (u:yv.dY=false)
 (h:er P GL pu r ((s.cu (fA.eJ id (fk lH (jh l a yv)))).ret d .qn false) j):iq P GL (HX.act s (.sD f ag m k y)) d pu r s j:=by
 subst o;exact DY K hm p q t u h
def Cj:CF GL f217 [] [] 217:=jo
def aaj:CF GL f216 [] [] 216:=jo
def TS:CF GL f218 [19] [0,1000] 218:=jo
def Fq:{l:List (BI×List Nat) // TS.b.body.sets[0]?=some l}:=⟨_,by cbv⟩
def aak:CF GL f163 [9,10,12,13,95,100003,100005] [11,13,14,16,17,22,27,35] 163:=jo
def Sp(w:cg)(s:fW)(r:w.ok):af 217 [w.v,s.v] (.hJ [((C1 w s).getD ia).v,B (C1 w s).isSome]):=by
 obtain⟨w⟩:=w;obtain⟨t,l,y⟩:=r;obtain⟨a,b,c⟩:=s;simp only at t;have no:C1 ⟨w⟩ ⟨a,b,c⟩=none\/∃p,C1 ⟨w⟩ ⟨a,b,c⟩=some p:=by cases C1 ⟨w⟩ ⟨a,b,c⟩<;>simp
 have key:C1 ⟨w⟩ ⟨a,b,c⟩=if a<0\/b<0\/c<0 then none else match w[a.toNat]? with
  |some v=>match v.O[b.toNat]? with
   |some a=>a.O[c.toNat]?
   |none=>none
  |none=>none:=rfl
 generalize C1 ⟨w⟩ ⟨a,b,c⟩=R at*
 rcases fp a 0 with o|o
 .rw[ax (.inl o)]at key;subst key;simp only[fo,cG];refine pq Cj.ok rfl (by simp only[dx]) ?_;repeat' first|refine k7 ?_|(refine c8 (λh=>?_) (λh=>?_))<;>((try simp only[bM,bB]at h);(try simp only[h]);(try simp only[jg]at h);(try omega))|(((refine rT ?_;repeat' first|exact hW.nil|refine gt ?_ ?_|refine gc ?_ ?_);(all_goals(try((apply ak;simp;done))))))
  all_goals exact kW
 obtain⟨a,rfl⟩:=fE o;rcases am a w.length with d|d
 rotate_left
 .rw[bX,b1 d,qd]at key;subst key;simp only[fo,cG];refine pq Cj.ok rfl (by simp only[dx]) ?_;repeat' first|refine k7 ?_|(first|refine bZ (λh=>?_) (λh=>?_)|refine c8 (λh=>?_) (λh=>?_))<;>((try simp only[bM,bB]at h);(try simp only[h]);(try simp only[jg]at h);(try omega))|(((refine rT ?_;repeat' first|exact hW.nil|refine gt ?_ ?_|refine gc ?_ ?_);(all_goals(try((apply ak;simp;done))))))
  all_goals exact kW
 have z:=(l w[a] (ah d)).1;rcases fp b 0 with hb|hb
 .rw[ax (.inr (.inl hb))]at key;subst key;simp only[fo,cG];refine pq Cj.ok rfl (by simp only[dx]) ?_;repeat' first|simp(disch:=first|omega|(simp only[l4];omega)) only[dt,simprocAttr,eM.v]|(first|refine bZ (λh=>?_) (λh=>?_)|refine c8 (λh=>?_) (λh=>?_))<;>((try simp only[bM,bB]at h);(try simp only[h]);(try simp only[jg]at h);(try omega))|(((refine rT ?_;repeat' first|exact hW.nil|refine gt ?_ ?_|refine gc ?_ ?_);(all_goals(try((apply ak;simp;done))))))
  all_goals exact kW
 obtain⟨b,rfl⟩:=fE hb;rcases am b w[a].O.length with f|f
 rotate_left
 .simp only[bX,aa d,b1 f,qd]at key;subst key;simp only[fo,cG];refine pq Cj.ok rfl (by simp only[dx]) ?_;repeat' first|simp(disch:=first|omega|(simp only[l4];omega)) only[dt,simprocAttr,eM.v]|(first|refine bZ (λh=>?_) (λh=>?_)|refine c8 (λh=>?_) (λh=>?_))<;>((try simp only[bM,bB]at h);(try simp only[h]);(try simp only[jg]at h);(try omega))|(((refine rT ?_;repeat' first|exact hW.nil|refine gt ?_ ?_|refine gc ?_ ?_);(all_goals(try((apply ak;simp;done))))))
  all_goals exact kW
 have A:=((l w[a] (ah d)).2 _ (ah f)).2.1;rcases fp c 0 with q|q
 .rw[ax (.inr (.inr q))]at key;subst key;simp only[fo,cG];refine pq Cj.ok rfl (by simp only[dx]) ?_;repeat' first|simp(disch:=first|omega|(simp only[l4];omega)) only[dt,simprocAttr,eM.v]|(first|refine bZ (λh=>?_) (λh=>?_)|refine c8 (λh=>?_) (λh=>?_))<;>((try simp only[bM,bB]at h);(try simp only[h]);(try simp only[jg]at h);(try omega))|(((refine rT ?_;repeat' first|exact hW.nil|refine gt ?_ ?_|refine gc ?_ ?_);(all_goals(try((apply ak;simp;done))))))
  all_goals exact kW
 obtain⟨c,rfl⟩:=fE q;rcases am c w[a].O[b].O.length with j|j
 rotate_left
 .simp only[bX,aa d,aa f,b1 j,qd]at key;subst key;simp only[fo,cG];refine pq Cj.ok rfl (by simp only[dx]) ?_;repeat' first|simp(disch:=first|omega|(simp only[l4];omega)) only[dt,simprocAttr,eM.v,eg.v]|(first|refine bZ (λh=>?_) (λh=>?_)|refine c8 (λh=>?_) (λh=>?_))<;>((try simp only[bM,bB]at h);(try simp only[h]);(try simp only[jg]at h);(try omega))|(((refine rT ?_;repeat' first|exact hW.nil|refine gt ?_ ?_|refine gc ?_ ?_);(all_goals(try((apply ak;simp;done))))))
  all_goals exact kW
 simp only[bX,aa d,aa f,aa j]at key;rw[al (by omega)]at key;subst key;have u:=Fc _ (((l w[a] (ah d)).2 _ (ah f)).2.2 _ (ah j));simp only[bf,fg];refine pq Cj.ok rfl (by simp only[dx]) ?_;repeat' first|simp(disch:=first|omega|(simp only[l4];omega)) only[dt,simprocAttr,eM.v,eg.v,aJ.v]|(first|refine bZ (λh=>?_) (λh=>?_)|refine c8 (λh=>?_) (λh=>?_))<;>((try simp only[bM,bB]at h);(try simp only[h]);(try simp only[jg]at h);(try omega))|(refine i0 u ?_ ?_;·simp only[ee]<;>rfl)|(((refine rT ?_;repeat' first|exact hW.nil|refine gt ?_ ?_|refine gc ?_ ?_);(all_goals(try(first|with_reducible exact .refl _|(apply ak;simp;done))))))
 all_goals skip
def Fs(E:aK)(w:cg)(A:w.ok)(s:fW)(i:Int)(G:List ID)(o r gid:Nat)(t:E.box o=some [I s.i9,I s.k0,I s.idx])(D:E.box r=some [.mp gid])(y:E.mp gid=some (.map (fk ID.v (setOf G))))(H: -1000000000<=s.idx/\s.idx<=1000000000/\ -1000000000<=i/\i<=1000000000):
 aI 216 [I i,.ep [cf w.O],.bp o 0,.bp r 0] E λu _ z=>u=(o8 w s i).v/\z=E.eJ gid (fk ID.v (setOf (tK G (o8 w s i)))):=by
 obtain⟨d,f,j⟩:=s;simp only at t H;have K:=Sp w ⟨d,f,j+i⟩ A;have L:o8 w ⟨d,f,j⟩ i=((C1 w ⟨d,f,j+i⟩).getD ia).id:=rfl;rw[L];generalize (C1 w ⟨d,f,j+i⟩).getD ia=p at*
 generalize (C1 w ⟨d,f,j+i⟩).isSome=q at*
 refine bq aaj.ok rfl ?_;repeat' first|simp(disch:=try exact om) only[gE,simprocAttr,t,D,aJ.v]|refine lq K ?_
 refine nw qJ (a:=p.id) (l:=setOf G) (id:=gid) (fA:=E) (yv:=B true) ?_ ?_ ?_ y rfl rfl ?_
 .exact sT
 .exact sT
 .exact sT
 rw[Iw];repeat' simp only[gE,simprocAttr]
 exact⟨nE,_,_,eA ev rfl,rfl⟩
def LY(w:cg)(s:fW)(G:List ID)(L:List cI)(E:aK):Prop:=
 E.box 1=some [.mp 0]/\E.mp 0=some (.map (fk ID.v (setOf G)))/\E.box 2=some [I s.i9,I s.k0,I s.idx]/\E.box 3=some [.fn 216 [.ep [cf w.O],.bp 2 0,.bp 1 0]]/\
  4<E.Y/\∃v,E.box 4=some [v]/\gu 6 E v (L.map cI.v)/\∀i,bI v=some i->4<i
def Iy:fK prog 216=true:=by kernel_rfl
def Ck:fK prog 218=true:=by kernel_rfl
def Iz(w:cg)(s:fW)(b:Name)(i k:Int)(v:V):List V:=
 [v,.fn 216 [.ep [cf w.O],.bp 2 0,.bp 1 0],I i,(o8 w s i).v,.ep [I b.J,I b.seq],I b.J,.ep [I b.seq],I b.seq,I k,.agg [I b.J,I b.seq,I k],(uP w s b (i,k)).v,.sl 6 [(uP w s b (i,k)).v]]
def xJ(E:aK)(w:cg)(bl:w.ok)(s:fW)(b:Name)(i k:Int)(G:List ID)(L:List cI)(H:LY w s G L E)(a1:L.length<=1000000)(ad: -1000000000<=s.idx/\s.idx<=1000000000/\ -1000000000<=i/\i<=1000000000):
 aI 218 [I i,I k,.bp 4 0,.bp 3 0,.ep [I b.J,I b.seq]] E λ_ _ a=>LY w s (tK G (o8 w s i)) (L++[uP w s b (i,k)]) a:=by
 obtain⟨q1,bo,a2,a3,cb,v,a4,ai,a5⟩:=H;have bs:=Fs E w bl s i G 2 1 0 a2 q1 bo ad;have bu:=ai.one;have cc:=ai.gD;refine bq TS.ok rfl ?_;repeat' simp only[gE,simprocAttr]
 refine DL 12 (λn=>(Iz w s b i k v).getD n .qn) (λn=>7+n) (λt=>((t.E=E/\t.Z 10=.qn)\/(t.E=E.eJ 0 (fk ID.v (setOf (tK G (o8 w s i))))/\t.Z 10=(o8 w s i).v))/\t.Z 0=I i/\t.Z 1=I k/\t.Z 2=.bp 4 0/\t.Z 3=.bp 3 0/\t.Z 4=.ep [I b.J,I b.seq]) du du du du (λi j _ _ h=>av) ?_ ?_ ?_
 .simp only[da];exact .inl trivial
 .show uH _ _ _ _ _ _ _ 0 (Fq.1.take 12);simp only[Fq,fT,fi,uH]
  and_intros
  all_goals first|trivial|rintro aA ⟨⟨r,N⟩|⟨r,N⟩,aB,aC,u,aD,a0⟩ d bv bY
  all_goals
   simp only[hT,cE,jZ,kL,bL,Iz,dO,dN,Nat.reduceAdd]at d
  all_goals try(refine absurd (N.symm.trans d.1) ?_;simp[ID.v];done)
  all_goals try(refine absurd (N.symm.trans bY) ?_;simp only[da];simp[ID.v];done)
  all_goals try(repeat any_goals simp only[gE,simprocAttr,r,aB,aC,u,aD,a0,N,d,a3,a4,bu,ID.v,cI.v,uP,aZ,bm])
  all_goals try(refine kw (f:=216) (cap:=[.ep [cf w.O],.bp 2 0,.bp 1 0]) r (by simp only[da,d]) Iy bs (by simp only[bR,cm,da,simprocAttr,d];rfl) (aV.cons (ak (by simp only[ee,d]<;>rfl)) (aV.cons (.refl _) (aV.cons (.refl _) (aV.cons (.refl _) aV.nil)))) ?_;rintro _ _ ca ⟨rfl,rfl⟩;repeat any_goals simp only[dt,simprocAttr,bx,bQ,aB,aC,u,aD,a0])
  all_goals exact⟨by first|exact .inl trivial|exact .inr trivial,rfl,λt b2=>al b2⟩
 .rintro aA ⟨r,aB,aC,u,aD,a0⟩ d bv;have z:=d 0 du;have Q:=d 3 du;have o:=d 11 du;simp only[Iz,dO,dN,Nat.reduceAdd]at z Q o;obtain⟨P,-⟩:aA.E=E.eJ 0 (fk ID.v (setOf (tK G (o8 w s i))))/\True:=by
   rcases r with⟨_,h⟩|⟨h,_⟩
   .rw[Q]at h;cases h
   .exact⟨h,trivial⟩
  simp only[Fq,cd,cy,bt,cV];repeat' simp only[gE,simprocAttr,P,u,z,o]
  have b3:gu 6 aA.E v (L.map cI.v):=by rw[P];exact ai.frame (λ_ _=>rfl) (an _)
  refine iR (xs:=L.map cI.v) (ys:=[(uP w s b (i,k)).v]) ?_ ?_ ?_ ?_ ?_ rfl ?_ ?_ λA a D hb ad=>?_
  .simp only[da,z];exact b3
  .simp only[da,o];rfl
  .intro y a6;simp at a6;subst a6;rfl
  .simp only[da,o];rfl
  .simp only[da,o];intro l a1;cases a1
  .exact PT
  .intro _ b5;cases b5
  have b6:=D.one;have a7:=D.kf;have K:bA (bI v) (E.eJ 0 (fk ID.v (setOf (tK G (o8 w s i))))) a:=by revert hb;rw[P];simp only[da,z];exact id
  have a8:bI A=bI v\/bI A=some E.Y:=by revert ad;rw[P];simp only[da,z];exact id
  have ch:E.Y<=a.Y:=K.Y;have q:∀j,j<=4->a.box j=E.box j:=λj p=>K.box j (show j<E.Y by omega) (λe=>by have:=a5 j e;omega);repeat' simp only[gE,simprocAttr,u]
  refine cJ (n:=1) (off:=0) (cells:=[v]) ?_ ?_ bT λa9 te tc tl tb tm b7 ci=>?_
  .simp only[sE];rw[q 4 av];exact a4
  .simp only[sE];simp only[jW,a7];simp[b6]
  have R:a9.E.box=eQ a.box 4 (some [A]):=tb.trans (by simp only[sE];rw[a7];rfl);have ab:=b7.trans sT;have bi:=tm.trans sT;repeat' simp only[gE,simprocAttr,te,tc,tl]
  have ac:∀j,bI A=some j->4<j:=λj p=>by
   rcases a8 with h|h
   .exact a5 j (h▸p)
   .rw[h]at p;have:=ar p;omega
  have hx:∀j,j≠4->a9.E.box j=a.box j:=λj p=>by rw[R];exact bD _ _ p
  refine⟨nE,.hJ [],_,rfl,?_,?_,?_,?_,?_,A,by rw[R,bh],?_,ac⟩
  .rw[hx 1 du,q 1 av];exact q1
  .rw[bi,K.mp 0 (show 0<E.Y by omega)];simp[aK.eJ]
  .rw[hx 2 du,q 2 av];exact a2
  .rw[hx 3 du,q 3 av];exact a3
  .rw[ab];omega
  .rw[az];exact D.frame (λj p=>hx j (by have:=ac j p;omega)) (c0 ab.symm)
end Go.Bx
