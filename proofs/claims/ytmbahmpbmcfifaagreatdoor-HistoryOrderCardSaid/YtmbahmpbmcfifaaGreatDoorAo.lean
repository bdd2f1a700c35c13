/- Lemmas for HistoryOrder. -/
import Derived.Test.YtmbahmpbmcfifaaGreatDoorAl
import Derived.Test.YtmbahmpbmcfifaaGreatDoorAm
import Derived.Test.YtmbahmpbmcfifaaGreatDoorAn
noncomputable section
set_option linter.all false
set_option maxHeartbeats 4000000
set_option maxRecDepth 100000
namespace Go.Bx
open Go.Proofs Go.Proofs.Tryz
attribute [local irreducible] vc er dr b4 bV run iD iY i1 i6 iQ i7 i2 iu iS i4 gB i3 cW
def L7(d:Nat)(o:Op)(b:Name)(s t:fW)(r:cm×Int)(u:V)(f:aJ):Prop:=u=I r.2/\(r.2=0->∃a,RX f d r.1 o b s t a)
def ZO:CF GL f264 [] [1] 264:=ji
def ZP:CF GL f267 [] [1,3,4,5] 267:=ji
def ZQ:CF GL f270 [] [1] 270:=ji
def RX.cells{E:aJ}{d:Nat}{w:cm}{o:Op}{b:Name}{s t:fW}{X:List Nat}(R:RX E d w o b s t X):∃a,E.box d=some (a::(o.c++[I b.J,I b.seq,I s.i9,I s.k3,I s.idx,I t.i9,I t.k3,I t.idx]))/\RW E (.agg [a]) w X/\a.one=true:=by
 obtain⟨a,hx,T,_⟩:=R;obtain⟨j,e,f⟩:=id T;cases e;exact⟨_,hx,T,f.one⟩
def RZ(E:aJ)(d:Nat)(w:cm)(o:Op)(b:Name)(s t:fW)(X:List Nat)(R:RX E d w o b s t X)(v a i:Nat)(l:v<w.O.length)(p:a<w.O[v].O.length)(D:i<w.O[v].O[a].O.length)(f:w.O[v].O[a].O.length<=1000000)(q:s=⟨v,a,i⟩):
 aI 264 [.bp d 0] E λu _ j=>L7 d o b s t (kP w v a i 1 [],0) u j:=by
 have r:=vl E d w o b s t X R v a i 1 l p av f [] bR;subst q;obtain⟨H,hx,T,y⟩:=R.cells;refine bq ZO.ok rfl ?_;repeat' simp only[gE,simprocAttr,hx,y,Op.c,aZ,bx,vv]
 refine bm rfl r ?_ ?_ ?_
 .rfl
 .exact XC
 rintro u _ z ⟨tE,R'⟩;repeat' simp only[gE,simprocAttr]
 exact Mg
def R0(E:aJ)(d:Nat)(w:cm)(o:Op)(b:Name)(s t:fW)(X:List Nat)(R:RX E d w o b s t X)(v a i:Nat)(f:v<w.O.length)(j:a<w.O[v].O.length)(H:i<w.O[v].O[a].O.length)
 (ac:(dx w).length<=10000) (q:s=⟨v,a,i⟩):
 aI 267 [.bp d 0] E λu _ r=>L7 d o b s t (Bi w o v a i (w.O[v].O[a].O[i])) u r:=by
 have c3:=EU E d w o b s t X R v a i f j H q;have c4:=vl E d w o b s t X R v a i 1 f j av (aQ (mJ f j) av) [] bR;subst q;obtain⟨K,hx,T,o1⟩:=R.cells;have c1:=J2 E K w X T o.spot;refine bq ZP.ok rfl ?_;unfold Bi;cases hh:k5 w o.spot with
 |false=>
  exact Xo
 |true=>
  rw[hh]at c1;repeat' simp only[gE,simprocAttr,hx,o1,Op.c,aZ,bx,vv]
  refine bm rfl c1 ?_ ?_ ?_
  .simp only[da];simp;exact⟨rfl,rfl⟩
  .refine nG ?_;simp only[dL]<;>rfl
  rintro _ _ E ⟨rfl,rfl⟩;repeat' simp only[gE,simprocAttr]
  refine bm rfl c3 ?_ ?_ ?_
  .rfl
  .refine nG ?_;simp only[dL]<;>rfl
  rintro _ _ E ⟨rfl,rfl⟩;repeat' simp only[gE,simprocAttr,hx,o1,Op.c,aK.v,aZ,bx,vv]
  refine bm rfl c4 ?_ ?_ ?_
  .rfl
  .exact XC
  rintro u _ y ⟨p,L⟩;obtain⟨N,P,z,D⟩:=uD (v:=v) (a:=a) (i:=i) (n:=1) (l:=[]) f hh;have Q:=DD (n:=1) (i:=i) (l:=[]) f j;have ab:=J3 y d _ o b _ t p L o.spot.i9.toNat o.spot.k3.toNat z D (aQ (mJ z D) (by rw[aT]at Q;omega)) N P (w.O[v].O[a].O[i]);repeat' simp only[gE,simprocAttr]
  refine bm rfl ab ?_ ?_ ?_
  .rfl
  .refine nG ?_;simp only[dL]<;>rfl
  exact XN
def CD{cells W r:List V}{k:Nat}(h:cells.drop k=W++r)(a:k<=cells.length):aO cells k W=cells:=by
 have d:W.length+r.length+k=cells.length:=by have:=ar List.length h;simp only[aS,ae]at this;omega
 rw[ia av,<-dG,h,fY,aG,<-h,cu]
def xv{h:aJ}{K:V}{w:cm}{X:List Nat}(T:RW h (.agg [K]) w X)(D:X.Nodup){v a i:Nat}(a0:v<w.O.length)(a1:a<w.O[v].O.length)(a2:i<w.O[v].O[a].O.length):
 ∃t l f pv c pid L d rest,yN h 1 K w.O.length v (.agg [t])/\yN h 2 t w.O[v].O.length a (.agg [S w.O[v].O[a].gO,pv])/\t=.ms 2 l 0 w.O[v].O.length c/\h.box l=some f/\
  pv=.ms 7 pid 0 w.O[v].O[a].O.length L/\h.box pid=some d/\d.drop (i*7)=(w.O[v].O[a].O[i]).v.cells++rest/\(i+1)*7<=d.length/\pid∈X/\
  ∀(p:aJ)(u:aK),p.box=eR h.box pid (some (aO d (i*7) u.v.cells))->p.Y=h.Y->∃o,RW p (.agg [K]) (k7 w v a ⟨w.O[v].O[a].gO,w.O[v].O[a].O.set i u⟩) o/\o.Nodup/\∀j∈o,j∈X\/h.Y<=j:=by
 obtain⟨t,l,f,pv,a3,c,a4,R,pe,p3,a5,a6,a7,ma,N,put⟩:=si T D a0 a1;obtain⟨a8,ac,q,y,TW,bs,TX,H,ab⟩:=id R;have ad:q=f:=by
  exact Kj
 rw[ad]at H ab;obtain⟨pid,L,d,x,bu,rest,rfl,bv,a9,g4,g5,g6,⟨rfl,rfl⟩,bU,b2,P,g10,bi,b3⟩:=a5.Wg K7 NL a6 a2;refine⟨t,l,f,_,c,pid,L,d,rest,a4,R,pe,p3,rfl,a9,g4,g5,N _ P,λp u hb ai=>?_⟩;have aA:l≠pid:=λe=>a7 (e▸P);obtain⟨z,bo,aB,aC⟩:=bi p u.v u [] (c8 ai.symm) (by rw[hb,bl]) (λj Q aD _=>by rw[hb];exact bE _ _ aD) rfl ⟨rfl,rfl⟩ jP (λj Q=>by cases Q);refine put p _ _ z (c8 ai.symm) ?_ (λj Q aD br=>by rw[hb];exact bE _ _ (λe=>br (e▸P))) bo aB aC;rw[hb,bE _ _ aA,p3];exact ar some (CD (r:=y) H av).symm
def abk{cells rest:List V}{k:Nat}{a b c d e f g x:V}(h:cells.drop k=[a,b,c,d,e,f,g]++rest)(o:k<=cells.length):aO cells (k+6) [x]=aO cells k [a,b,c,d,e,f,x]:=by
 have j:cells=cells.take k++([a,b,c,d,e,f,g]++rest):=by rw[<-h,cu]
 have l:(cells.take k).length=k:=by rw[aF];omega
 generalize cells.take k=A at*
 subst j l;rw[w7 bR];have:=w7 (A:=A++[a,b,c,d,e,f]) (W:=[x]) (D:=g::rest) bR;simp only[aG,ae,aZ,bx,aM,aT,b8,cx]at this ⊢
 exact this
def R1(E:aJ)(l:Nat)(w:cm)(o:Op)(b:Name)(s t:fW)(X:List Nat)(R:RX E l w o b s t X)(v a i:Nat)(H:v<w.O.length)(K:a<w.O[v].O.length)(L:i<w.O[v].O[a].O.length)(a4:o.C.length<=1000000)(a5:s=⟨v,a,i⟩):
 aI 270 [.bp l 0] E λu _ N=>L7 l o b s t (kP w v a i 1 [{w.O[v].O[a].O[i]with C:=o.C}],0) u N:=by
 subst a5;obtain⟨P,hx,T,D,y,Q⟩:=id R;obtain⟨a6,ab,d,ad,c,pid,b3,f,rest,p1,ai,pe,p3,aA,b5,g4,g5,mp,put⟩:=xv T D H K L;have a7:=rl E l P a6 ad _ _ _ _ v a ab c i hx p1 ai pe;have a8:=vf o.C (aQ a4 dt);obtain⟨a9,ac,p,r,TW,bU,TX,z,aB⟩:=ai;have aC:p=d:=by
  exact Kj
 rw[aC]at z aB;have bi:List.drop (a*2+1) d=ad::r:=j1 (j:=1) z (by simp[V.cells]);have bo:a*2+1<=d.length:=av;subst aA;obtain⟨_,_,_,o1⟩:=R.cells;have fin:∀q:aJ,q.box=eR E.box pid (some (aO f (i*7+6) [eZ o.C]))->q.Y=E.Y->∃tE,RX q l (kP w v a i 1 [{w.O[v].O[a].O[i]with C:=o.C}]) o b ⟨v,a,i⟩ t tE:=by
  intro q hb aD;have a0:l≠pid:=λe=>y (e▸mp);rw[abk (show f.drop (i*7)=[_,_,_,_,_,_,_]++rest from g4) av]at hb;obtain⟨tE,a1,br,bs⟩:=put q {w.O[v].O[a].O[i]with C:=o.C} hb aD;refine⟨tE,P,by rw[hb,bE _ _ a0];exact hx,?_,br,λh=>?_,by rw[aD];exact Q⟩
  .rw[kP,fF H K];rw[gi,ax L]at a1;simpa using a1
  .rcases bs _ h with h|h
   .exact y h
   .omega
 refine bq ZQ.ok rfl ?_;repeat' first|simp only[gE,simprocAttr,hx,o1,Op.c,aZ,bx,vv]|refine fg ?_ ?_
 all_goals
  refine bm rfl a7 ?_ ?_ ?_
  .rfl
  .refine nG ?_;simp only[dL]<;>rfl
  rintro _ _ b2 ⟨rfl,bu⟩;subst bu;repeat' first|simp(disch:=omega) only[gE,simprocAttr,hx,p3,bi,bo,Op.c,aZ,bx,vv]|refine lq a8 ?_|refine fg ?_ ?_
 all_goals
  refine cC (n:=1) (off:=i*7+6) (cells:=f) ?_ ?_ av λt te tc tl tb tm bv b6=>?_
  .exact sT
  .exact sT
  have a2:=tb.trans sT;have a3:=bv.trans sT;obtain⟨tE,R'⟩:=fin t.E a2 a3;repeat' simp only[gE,simprocAttr,te,tc,tl]
  exact Mg
def ZR:CF GL f261 [11] [] 261:=ji
def ZS:CF GL f262 [44] [] 262:=ji
def R2(E:aJ)(d:Nat)(w:cm)(o:Op)(b:Name)(s t:fW)(X:List Nat)(R:RX E d w o b s t X)(ad:w.O.length<=1000000):
 aI 261 [.bp d 0] E λu _ L=>L7 d o b s t (⟨w.O++[⟨[]⟩]⟩,0) u L:=by
 obtain⟨l,hx,⟨N,e,T⟩,D,q,r⟩:=R;obtain rfl:l=N:=by cases e;rfl
 have P:=T.one;refine bq ZR.ok rfl ?_;repeat' simp only[gE,simprocAttr,hx,P]
 refine o5 (e:=.agg [.aP]) (fD:=E) (v0:=l) (a:=(⟨[]⟩:eQ)) (js:=[]) vt qb ?_ ?_ ?_ T rfl ⟨.aP,rfl,b9.nil⟩ (by simpa using D) rfl ad λv f tE g1 ai aA g4 g5=>?_
 .exact sT
 .exact sT
 .exact sT
 obtain⟨K,aD⟩:=g1.cells;have Q:=g1.one;have ab:f.box d=some (l::(o.c++[I b.J,I b.seq,I s.i9,I s.k3,I s.idx,I t.i9,I t.k3,I t.idx])):=by
  rw[g4.box d r (λe=>q (g5 d e))];exact hx
 repeat' simp only[gE,simprocAttr,ab,P,K,Q]
 refine cC (n:=1) (off:=0) (cells:=l::(o.c++[I b.J,I b.seq,I s.i9,I s.k3,I s.idx,I t.i9,I t.k3,I t.idx])) ?_ ?_ bR λp te tc tl tb tm aB a0=>?_
 .exact sT
 .simp only[sE];simp[jR,K,Q]
 have y:p.E.box=eR f.box d (some (v::(o.c++[I b.J,I b.seq,I s.i9,I s.k3,I s.idx,I t.i9,I t.k3,I t.idx]))):=tb.trans (by simp only[da,simprocAttr,bn,K,aO,aw]);have z:p.E.Y=f.Y:=aB.trans sT;have H:d∉tE:=λh=>by
  rcases aA d h with h|h|h
  .exact q h
  .cases h
  .omega
 have aC:b9 1 RV p.E v (w.O++[⟨[]⟩]) tE:=b9.qN vt _ _ _ _ _ g1 (λj ac=>⟨b9.vr qb _ _ _ _ g1 j ac,by rw[y];exact bE _ _ (λe=>H (e▸ac))⟩) (c8 z.symm);have R':RX p.E d ⟨w.O++[⟨[]⟩]⟩ o b s t tE:=⟨v,by rw[y,bl],⟨v,rfl,aC⟩,ai,H,by rw[z];exact bA r g4.Y⟩;repeat' simp only[gE,simprocAttr,te,tc,tl]
 exact Mg
def R3(E:aJ)(f:Nat)(w:cm)(o:Op)(b:Name)(s t:fW)(X:List Nat)(R:RX E f w o b s t X)(bv:∀v∈w.O,v.O.length<=1000000):
 aI 262 [.bp f 0] E λu _ a0=>L7 f o b s t (if 0<=o.spot.i9/\o.spot.i9<w.O.length then(G9 w o.spot.i9.toNat ⟨o.bW,[]⟩,0)else(w,6)) u a0:=by
 obtain⟨bU,hx,⟨a1,e,T⟩,D,z,ab⟩:=R;obtain rfl:bU=a1:=by cases e;rfl
 have N:=T.one;have A:=T.len;refine bq ZS.ok rfl ?_;by_cases ai:0<=o.spot.i9/\o.spot.i9<w.O.length
 .rw[ax ai];obtain⟨c6,c7⟩:=ai;obtain⟨v,XP⟩:∃v:Nat,o.spot.i9=v:=⟨o.spot.i9.toNat,av⟩;have Mh:v<w.O.length:=av;obtain⟨l,c9,d,x,js,P,b2,b3,a2,b5,dd,dg,⟨a3,rfl,a4⟩,b6,a5,b7,a6,ca,_⟩:=b9.Wg vt qb T D Mh;have a7:List.drop (v*1+0) d=a3::P:=j1 (j:=0) b5 (aL _);have a8:v*1+0<=d.length:=av;have cb:G9 w o.spot.i9.toNat ⟨o.bW,[]⟩=⟨w.O.set v ⟨w.O[v].O++[⟨o.bW,[]⟩]⟩⟩:=by
   exact XO
  rw[cb];have a9:=bv _ (ah Mh);have bi:=a4.one;have bo:f≠l:=λh=>z (h▸b7);subst b2;repeat' first|simp(disch:=omega) only[gE,simprocAttr,hx,N,bi,A,XP,a2,a7,a8,Op.c,aZ,bx]|(first|refine cs ?_ ?_|refine gs ?_ ?_)<;>intro h<;>try omega|refine fg ?_ ?_
  all_goals
   refine o5 (e:=.agg [S o.bW,.aP]) (fD:=E) (v0:=a3) (a:=(⟨o.bW,[]⟩:ee)) (js:=[]) x4 wb ?_ ?_ ?_ a4 rfl ⟨.aP,rfl,b9.nil⟩ (by simpa using b6) rfl a9 λQ q p g1 cc br g4 g5=>?_
   .exact sT
   .exact sT
   .exact sT
   obtain⟨aA,dp⟩:=g1.cells;have aB:=g1.one;have ac:q.box l=some d:=by rw[g4.box l b3 λe=>a5 (g5 l e)];exact a2
   have ad:q.box f=_:=(g4.box f ab (λe=>z (a6 _ (g5 f e)))).trans hx;repeat' simp(disch:=omega) only[gE,simprocAttr,ad,N,bi,A,XP,ac,a7,a8,aA,aB,Op.c,aZ,bx]
   have bs:l∉p:=λhm=>by
    rcases br l hm with h|h|h
    .exact a5 h
    .cases h
    .omega
   refine cC (n:=1) (off:=v*1+0) (cells:=d) ?_ ?_ av λH te tc tl tb tm ch ds=>?_
   .simp only[sE];exact ac
   .simp only[sE];simp[jR,aA,aB]
   have r:H.E.box=eR q.box l (some (aO d (v*1) [Q])):=tb.trans (by simp only[da,simprocAttr,bn,aA,dj]);have K:H.E.Y=q.Y:=ch.trans sT;have bu:b9 2 RA H.E Q (w.O[v].O++[⟨o.bW,[]⟩]) p:=b9.qN x4 _ _ _ _ _ g1 (λj y=>⟨b9.vr wb _ _ _ _ g1 j y,by rw[r];exact bE _ _ (λe=>bs (e▸y))⟩) (c8 K.symm);obtain⟨L,ci,cp,c1⟩:=ca H.E (.agg [Q]) ⟨w.O[v].O++[⟨o.bW,[]⟩]⟩ p (by rw[K];exact g4.Y) (by rw[r,bl];rfl) (λj y aC c2=>by rw[r,bE _ _ aC];exact g4.box j (b9.vr qb _ _ _ _ T j y) λe=>c2 (g5 j e)) (by simp[jR,V.cells,aB]) ⟨Q,rfl,bu⟩ cc (λj y=>by
    rcases br j y with h|h|h
    .exact .inl h
    .cases h
    .exact .inr av)
   have c5:RX H.E f ⟨w.O.set v ⟨w.O[v].O++[⟨o.bW,[]⟩]⟩⟩ o b s t L:=⟨_,by rw[r,bE _ _ bo];exact ad,⟨_,rfl,ci⟩,cp,λh=>by
    rcases c1 f h with h|h
    .exact z h
    .omega,by rw[K];exact bA ab g4.Y⟩
   repeat' simp only[gE,simprocAttr,te,tc,tl]
   exact⟨nE,I 0,_,bz rfl rfl,rfl,λ_=>⟨L,c5⟩⟩
 .rw[an ai];rcases fw o.spot.i9 0 with aC|aC
  .repeat' first|simp only[gE,simprocAttr,hx,N,A,Op.c,aZ,bx]|refine gz ?_ ?_<;>intro aD h<;>(try simp only[aD])<;>try omega
   exact Yb
  .repeat' first|simp only[gE,simprocAttr,hx,N,A,Op.c,aZ,bx]|(first|refine cz ?_ ?_|refine gz ?_ ?_)<;>intro aD h<;>(try simp only[aD])<;>try omega
   exact Yb
def TA:CF GL f266 [] [1,7,1007] 266:=ji
def zW:{l:List (BI×List Nat) // TA.b.body.sets[0]?=some l}:=⟨_,by cbv⟩
def Ia(d:Nat)(b:Name)(v a i:Int)(p q:aK):List V:=
 [.bp d 0,.bp d 0,.bp d 0,.bp d 20,.agg [I v,I a,I i],.bp d 0,.agg [I b.J,I b.seq,I 0],.A 4 0 3,I p.eB,.A 4 0 4,I p.eh,.A 4 0 5,S p.bW,.A 5 0 5,S q.bW,S (p.bW++32::q.bW),.A 4 0 6,eZ p.C,.A 5 0 6,eZ q.C,.sl 1 [eZ p.C,eZ q.C],eZ (p.C++q.C),.agg [I b.J,I b.seq,I 0,I p.eB,I p.eh,S (p.bW++32::q.bW),eZ (p.C++q.C)],.sl 7 [.agg [I b.J,I b.seq,I 0,I p.eB,I p.eh,S (p.bW++32::q.bW),eZ (p.C++q.C)]]]
def R4(E:aJ)(f:Nat)(w:cm)(o:Op)(b:Name)(s t:fW)(X:List Nat)(R:RX E f w o b s t X)(v a i:Nat)(L:v<w.O.length)(N:a<w.O[v].O.length)(a4:i<w.O[v].O[a].O.length)(fr:(dx w).length<=10000)(dg:s=⟨v,a,i⟩)
 (a7:∀p∈w.O[v].O[a].O,p.C.length<=10000/\p.bW.length<=10000):
 aI 266 [.bp f 0] E λu _ b6=>L7 f o b s t (Bj w v a i b) u b6:=by
 subst dg;obtain⟨dp,hx,T,D,fs,fB⟩:=id R;obtain⟨_,_,_,ds⟩:=R.cells;obtain⟨dF,b7,y,ca,dU,c,eb,cb,pe,p3,a5,gn,gp,ma,ed,put⟩:=si T D L N;have el:=rl E f dp dF ca _ _ _ _ v a b7 c i hx eb cb pe;obtain⟨et,ac,H,a6,TW,gb,TX,a8,cc⟩:=cb;have ch:H=y:=by
  exact Kj
 rw[ch]at a8 cc;have br:List.drop (a*2+1) y=ca::a6:=j1 (j:=1) a8 (by simp[V.cells]);have bs:a*2+1<=y.length:=av;have bu:=a5.one;have bv:=a5.len;have ea:=fF L N;have hlen:=mJ L N;have P:((i:Int)+1)=((i+1:Nat):Int):=av;refine bq TA.ok rfl ?_;unfold Bj;rw[ea];repeat' simp(disch:=omega) only[gE,simprocAttr,hx,ds,Op.c,aZ,bx,vv]
 refine bm rfl el ?_ ?_ ?_
 .rfl
 .refine nG ?_;simp only[dL]<;>rfl
 rintro _ _ z ⟨rfl,ci⟩;rcases am (i+1) w.O[v].O[a].O.length with Q|Q
 .have ha:=a7 _ (ah a4);have hc:=a7 _ (ah Q);obtain⟨pid,eN,ab,x,hd,dd,a9,he,bU,g4,g5,g6,⟨rfl,rfl⟩,hf,hg⟩:=a5.get a4;obtain⟨b2,cp,l,hh,gf,c1,ad,hi,c2,c5,hj,hk,⟨rfl,rfl⟩,hl,hn⟩:=a5.get Q;obtain⟨rfl,rfl⟩:b2=pid/\cp=eN:=by rw[a9]at ad;injection ad with _ e1 _ _ e2;exact⟨e1.symm,e2.symm⟩
  obtain rfl:l=ab:=by rw[bU]at c2;exact(au c2).symm
  simp only[aa a4,aa Q];have e3:=vl E f w o b _ t X R v a i 2 L N av (aQ (mJ L N) av) [k6 b 0 w.O[v].O[a].O[i] (w.O[v].O[a].O[i].bW++32::w.O[v].O[a].O[i+1].bW) (w.O[v].O[a].O[i].C++w.O[v].O[a].O[i+1].C)] bR;generalize w.O[v].O[a].O[i]=p at*
  generalize w.O[v].O[a].O[i+1]=q at*
  have c6:i*7<=l.length:=av;have c7:(i+1)*7<=l.length:=av;subst a9;subst ci;by_cases b3:p.eB=q.eB/\p.eh=q.eh
  .rw[ax b3];obtain⟨bi,bo⟩:=b3;have c3:=Qm p.bW q.bW av av;have c4:=Rx [p.C,q.C] (by simp;omega) bR;rw[show [p.C,q.C].flatten=p.C++q.C from by simp]at c4;have e4:=xu z f w o b _ t X 0 R;have fin:∀d:St,d.E=z/\d.G 4=1/\d.loc 4 0=p.v.cells/\d.G 5=1/\d.loc 5 0=q.v.cells/\d.Z 0=.bp f 0/\d.Z 4=.A 4 0 0/\d.Z 5=.A 5 0 0->
    vc prog GL (BC.set zW.1) d (run prog GL [Fr.seq ((BC.ops true [g 2 (Bx.i 0)]).seq BC.ret)] λe c9=>(∀id,e≠Ex.exit id)/\∃u bL,BF.result c9 [BR.tmp 2]=some (u,bL)/\L7 f o b ⟨v,a,i⟩ t (kP w v a i 2 [k6 b 0 p (p.bW++32::q.bW) (p.C++q.C)],0) u c9.E):=by
    intro d hF;refine Dl 24 (λn=>(Ia f b v a i p q).getD n .qr) (λi=>52+i) (λd=>d.E=z/\d.G 4=1/\d.loc 4 0=p.v.cells/\d.G 5=1/\d.loc 5 0=q.v.cells/\d.Z 0=.bp f 0/\d.Z 4=.A 4 0 0/\d.Z 5=.A 5 0 0) dt dt dt dt (λi j _ _ h=>av) hF ?_ ?_
    .show uB _ _ _ _ _ _ _ 0 (zW.1.take 24);simp only[zW,fT,fk,uB]
     and_intros
     all_goals first|trivial|rintro e5 ⟨K,ai,aA,aB,aC,aD,a0,a1⟩ r e6 ho
     all_goals
      simp only[hL,cI,jW,kM,bK,Ia,dO,dN,Nat.reduceAdd]at r
     all_goals try(repeat any_goals simp only[gE,simprocAttr,K,ai,aA,aB,aC,aD,a0,a1,r,hx,Op.c,aK.v,aZ,bx,vv])
     all_goals try(refine iR c3 (aN.cons (aj (by simp only[dL,r]<;>rfl)) (aN.cons (aj (by simp only[dL,r]<;>rfl)) aN.nil)) ?_;repeat any_goals simp only[gE,simprocAttr,K,ai,aA,aB,aC,aD,a0,a1])
     all_goals try(refine iR c4 (aN.cons (aj (by simp only[dL,r]<;>rfl)) aN.nil) ?_;repeat any_goals simp only[gE,simprocAttr,K,ai,aA,aB,aC,aD,a0,a1])
     all_goals try(refine bm K e4 (by simp only[bN,ce,da,simprocAttr,r];rfl) (aN.cons (aj (by simp only[dL,simprocAttr,r]<;>rfl)) (aN.cons (aj (by simp only[dL,simprocAttr,r]<;>rfl)) aN.nil)) ?_;rintro _ _ z ⟨rfl,e7⟩;repeat any_goals simp only[dq,simprocAttr,bh,bn,e7,ai,aA,aB,aC,aD,a0,a1])
     all_goals exact⟨rfl,λt fa=>an fa⟩
    .rintro e5 ⟨K,ai,aA,aB,aC,aD,a0,a1⟩ r e6;have a2:=r 0 dt;have a3:=r 4 dt;have z75:=r 23 dt;simp only[Ia,dO,dN,Nat.reduceAdd]at a2 a3 z75;simp only[zW,b8,cx,bw,cV];refine bm K e3 (by simp only[bN,ce,da,simprocAttr,a2,a3,z75];rfl) (aN.cons (aj (by simp only[dL,simprocAttr,a2]<;>rfl)) (aN.cons (aj (by simp only[dL,simprocAttr,a3]<;>rfl)) (aN.cons (aj rfl) (aN.cons (aj (by simp only[dL,simprocAttr,z75]<;>rfl)) aN.nil)))) ?_;rintro u _ gk ⟨tE,R'⟩;repeat' simp only[gE,simprocAttr]
     exact Mg
   repeat' first|simp(disch:=omega) only[gE,simprocAttr,hx,p3,br,bs,bu,bv,P,bU,g4,c5,c6,c7,bi,bo,Op.c,aK.v,Y9,ok7,aO,aw,ay,aZ,bx,vv]|(first|refine cz ?_ ?_|refine gz ?_ ?_)<;>intro b5 h<;>(try simp only[b5])<;>(try exact absurd trivial h)<;>try omega|refine fg ?_ ?_
   all_goals
    refine fin _ ?_;simp only[da,simprocAttr,bn,bi,bo,aK.v,V.cells,aO,aw,ay];all_goals trivial
  .rw[an b3];repeat' first|simp(disch:=omega) only[gE,simprocAttr,hx,p3,br,bs,bu,bv,P,bU,g4,c5,c6,c7,Op.c,aK.v,Y9,ok7,aO,aw,ay,aZ,bx,vv]|(first|refine cz ?_ ?_|refine gz ?_ ?_)<;>intro b5 h<;>(try simp only[b5])<;>try omega|refine fg ?_ ?_
   all_goals exact⟨nE,I 12,_,bz rfl rfl,rfl,λh=>by cases h⟩
 .simp only[b0 Q,aa a4];subst ci;repeat' first|simp(disch:=omega) only[gE,simprocAttr,hx,p3,br,bs,bu,bv,P,Op.c,aZ,bx,vv]|refine cs ?_ ?_<;>intro h<;>try omega
  all_goals exact⟨nE,I 6,_,bz rfl rfl,rfl,λh=>by cases h⟩
def b9.two{α:Type}{R:aJ->V->α->List Nat->Prop}{sz:Nat}{h:aJ}{v:V}{l:List α}{X:List Nat}(T:b9 sz R h v l X)(D:X.Nodup){i k:Nat}(K:i<l.length)(L:k<l.length)(t:i≠k):
 ∃id c cells x y js u N P,v=.ms sz id 0 l.length c/\h.box id=some cells/\cells.drop (i*sz)=x.cells++N/\cells.drop (k*sz)=y.cells++P/\R h x l[i] js/\R h y l[k] u/\(∀j∈js,j∉u)/\id∉js/\js.Nodup/\(i+1)*sz<=cells.length/\(k+1)*sz<=cells.length:=by
 obtain⟨d,is,⟨f,h1⟩,Q,ac,z,rfl⟩:=T;have hx:i<d.length:=by omega
 have q:i<is.length:=av;have a:k<d.length:=av;have o:k<is.length:=av;have p:=(aU.1 D).2.1;rcases h1 with⟨_,rfl⟩|⟨id,c,rest,rfl,ad,ab,ai,aA⟩
 .exact absurd hx (gN _)
 refine⟨id,c,_,d[i],d[k],is[i],is[k],_,_,by rw[Q],ab,iv f hx rest,iv f a rest,z i _ _ _ (aa hx) (aa K) (aa q),z k _ _ _ (aa a) (aa L) (aa o),λj r H=>?_,λr=>?_,?_,?_,?_⟩
 .exact o0 p (aa o) (aa q) t j r H
 .exact(aU.1 D).2.2 id (by simp[bH]) id (g8 (aa q) r) rfl
 .have h1:=p;rw[show is=is.take i++is[i]::is.drop (i+1)by simp]at h1;exact XU
 .rw[ae,dM f];exact aQ (cj _ hx) (li _ _)
 .rw[ae,dM f];exact aQ (cj _ a) (li _ _)
def yN.uniq{h:aJ}{sz:Nat}{v:V}{n m i:Nat}{x y:V}(o:x.cells.length=y.cells.length)(a:yN h sz v n i x)(b:yN h sz v m i y):x.cells=y.cells:=by
 obtain⟨id,c,cells,r,p,u,q,t,z⟩:=a;obtain⟨id2,D,d,H,f,K,j,l,L⟩:=b;rw[p]at f;injection f with _ g1 _ _ _
 subst g1;rw[q]at j;cases j;rw[t]at l;exact(List.append_inj l o).1
def spine{h:aJ}{u:V}{w:cm}{X:List Nat}(T:RW h (.agg [u]) w X)(D:X.Nodup){v a N b2:Nat}(P:v<w.O.length)(a7:a<w.O[v].O.length)(ai:N<w.O.length)(dF:b2<w.O[N].O.length)
 {j pv l t:V} {n m b3 b5 aA c pid b6 k z c2:Nat} (a0:yN h 1 u n v (.agg [j])) (b7:yN h 2 j m a (.agg [t,pv])) (a1:j=.ms 2 aA 0 m c) (ca:pv=.ms 7 pid 0 k b6) (a8:yN h 1 u b3 N (.agg [l])) (a2:l=.ms 2 z 0 b5 c2):
 bH u≠some pid/\z≠pid:=by
 obtain⟨a9,e,bi⟩:=T;obtain rfl:u=a9:=by cases e;rfl
 have low:∀(d:V)(o:List Nat),d=j->b9 2 RA h d w.O[v].O o->o.Nodup->pid∈o/\aA≠pid:=by
  rintro d o rfl H cb;obtain⟨a3,ac,K,xa,bo,Q,g1,dU,cc,ch,ci,ea,⟨aB,rfl,cp⟩,eb,c1,ed,c5,_⟩:=H.Wg x4 wb cb a7;have br:aB=pv:=by
   have:=yN.uniq (x:=.agg [S w.O[v].O[a].gO,aB]) (y:=.agg [t,pv]) rfl ⟨a3,ac,K,Q,g1,a7,cc,ch,ci⟩ b7;simp[V.cells]at this;exact this.2
  subst br;have E:pid∈bo:=cp.RQ (by rw[ca];rfl);refine⟨c5 _ E,?_⟩;rw[g1]at a1;injection a1 with _ c6 _ _ _
  subst c6;exact λe=>c1 (e▸E)
 by_cases aC:v=N
 .subst aC;obtain⟨q,r,f,el,o,R,g1,et,ab,a4,a5,eN,⟨d,rfl,H⟩,c7,a6,_⟩:=bi.Wg vt qb D P;have L:d=j:=by
   have:=yN.uniq (x:=.agg [d]) (y:=.agg [j]) rfl ⟨q,r,f,R,g1,P,ab,a4,a5⟩ a0;simpa[V.cells]using this
  have p:l=j:=by
   have:=yN.uniq (x:=.agg [l]) (y:=.agg [j]) rfl a8 a0;simpa[V.cells]using this
  obtain⟨ad,bs⟩:=low d o L H c7;refine⟨λh=>a6 ?_,?_⟩
  .rw[g1]at h;cases h;exact ad
  .rw[p,a1]at a2;injection a2 with _ c9 _ _ _
   rw[<-c9];exact bs
 .obtain⟨q,r,f,x,y,o,bo,dd,dg,g1,ab,a4,a5,⟨d,rfl,H⟩,⟨aD,rfl,dp⟩,a6,ds,bu,bv,bU⟩:=bi.two D P ai aC;have L:d=j:=by
   have:=yN.uniq (x:=.agg [d]) (y:=.agg [j]) rfl ⟨q,r,f,dd,g1,P,ab,a4,bv⟩ a0;simpa[V.cells]using this
  have p:aD=l:=by
   have:=yN.uniq (x:=.agg [aD]) (y:=.agg [l]) rfl ⟨q,r,f,dg,g1,ai,ab,a5,bU⟩ a8;simpa[V.cells]using this
  obtain⟨ad,bs⟩:=low d o L H bu;refine⟨λh=>ds ?_,λh=>a6 _ ad ?_⟩
  .rw[g1]at h;cases h;exact ad
  .rw[<-h];exact dp.RQ (by rw[p,a2];rfl)
def ZT:CF GL f268 [] [1] 268:=ji
def R5(E:aJ)(r:Nat)(w:cm)(o:Op)(b:Name)(s t:fW)(X:List Nat)(R:RX E r w o b s t X)(v a i f d p:Nat)(a5:v<w.O.length)(b6:a<w.O[v].O.length)(el:i<w.O[v].O[a].O.length)
 (Q:f<w.O.length) (ab:d<w.O[f].O.length) (SS:p<w.O[f].O[d].O.length) (hu:s=⟨v,a,i⟩) (hv:t=⟨f,d,p⟩):
 aI 268 [.bp r 0] E λu _ et=>L7 r o b s t (xh w v a i f d p,0) u et:=by
 subst hu hv;obtain⟨b7,hx,T,D,ad,eN⟩:=id R;obtain⟨hw,e1,z,e2,c,pid,j7,K,rest,e3,ca,cb,cc,bi,e4,g4,g5,mp,put⟩:=xv T D a5 b6 el;obtain⟨ai,ch,q,bo,hy,H,br,eb,hs,q1,ci,a6,cp,e5,e6,e7,j8,fa,hz⟩:=xv T D Q ab SS;obtain⟨fr,fs⟩:=spine T D a5 b6 Q ab e3 ca cb bi q1 a6;have hB:=rl E r b7 hw e2 _ _ _ _ v a e1 c i hx e3 ca cb;have hD:=rl E r b7 ai bo _ _ _ _ f d ch hy p hx q1 ci a6;obtain⟨_,_,fB,a7,bs,jB,aA,bu,gb⟩:=id ca;obtain⟨_,_,gf,aB,bv,j2,aC,L,gk⟩:=id ci;have gn:fB=z:=by
  rw[cb]at bs;injection bs with _ aD _ _ _;rw[<-aD,cc]at aA;exact(au aA).symm
 rw[gn]at bu gb;have c1:gf=q:=by
  rw[a6]at bv;injection bv with _ aD _ _ _;rw[<-aD,cp]at aC;exact(au aC).symm
 rw[c1]at L gk;have gp:List.drop (a*2+1) z=e2::a7:=j1 (j:=1) bu (by simp[V.cells]);have c2:a*2+1<=z.length:=av;have ha:List.drop (d*2+1) q=bo::aB:=j1 (j:=1) L (by simp[V.cells]);have c5:d*2+1<=q.length:=av;subst bi e5;have fin:∀N:aJ,N.box=eR E.box pid (some (aO K (i*7) (w.O[f].O[d].O[p]).v.cells))->N.Y=E.Y->∃l,N.box H=some l/\p*7+7<=l.length/\
  ∀a0:aJ,a0.box=eR N.box H (some (aO l (p*7) (w.O[v].O[a].O[i]).v.cells))->a0.Y=N.Y->∃tE,RX a0 r (xh w v a i f d p) o b ⟨v,a,i⟩ ⟨f,d,p⟩ tE:=by
  intro N hb hc;obtain⟨hF,T1,hH,hK⟩:=put N _ hb hc;obtain⟨W,c6⟩:∃W,W=k7 w v a ⟨w.O[v].O[a].gO,w.O[v].O[a].O.set i w.O[f].O[d].O[p]⟩:=⟨_,rfl⟩;rw[<-c6]at T1;obtain⟨a1,P,XX⟩:=yb (x:=⟨w.O[v].O[a].gO,w.O[v].O[a].O.set i w.O[f].O[d].O[p]⟩) (a:=a) a5 Q ab;simp only[<-c6]at a1 P XX;have hd:p<W.O[f].O[d].O.length:=by
   exact S2
  obtain⟨bU,hM,ed,b2,c3,c7,j3,ac,ht,hO,hQ,re,j9,he,hR,m4,m5,j4,c9⟩:=xv T1 hH a1 P hd;have hf:bU=ai:=by
   obtain⟨hg,hh,a2,a8,a3,dd,dg,dp,ds⟩:=q1;have:=yN.uniq (x:=.agg [bU]) (y:=.agg [ai]) rfl hO ⟨hg,hh,a2,a8,a3,dd,by rw[hb,bE _ _ (λe=>fr (by rw[a3];exact ar some e))];exact dg,dp,ds⟩;simpa[V.cells]using this
  subst hf;have b3:b2=.ms 7 H 0 w.O[f].O[d].O.length br:=by
   obtain⟨dF,hS,a4,a9,a3,dd,dg,dp,ds⟩:=ci;have:=yN.uniq (x:=.agg [S _,b2]) (y:=.agg [S _,V.ms 7 H 0 _ br]) rfl hQ ⟨dF,hS,a4,a9,a3,dd,by
    rw[hb,bE _ _ (λe=>fs (by rw[<-e];have:=a3.symm.trans a6;injection this with _ aD _ _ _;exact aD.symm))];exact dg,dp,ds⟩
   simp[V.cells]at this;exact this.2
  rw[he]at b3;injection b3 with _ hV _ _ _
  subst hV;refine⟨ac,hR,av,λa0 L b5=>?_⟩;obtain⟨dU,h0,h2,h3⟩:=c9 a0 _ L b5;have h4:xh w v a i f d p=k7 W f d ⟨W.O[f].O[d].gO,W.O[f].O[d].O.set p w.O[v].O[a].O[i]⟩:=by
   simp only[xh,fF a5 b6,fF Q ab,ap,aa el,aa SS,bf,<-c6];rw[fF a1 P]
  have h5:r≠pid:=λe=>ad (e▸mp);have h6:r≠c7:=λe=>ad (e▸fa);refine⟨dU,b7,by rw[L,bE _ _ h6,hb,bE _ _ h5];exact hx,by rw[h4];exact h0,h2,λh=>?_,by rw[b5,hc];exact eN⟩;rcases h3 _ h with h|h
  .rcases hK _ h with h|h
   .exact ad h
   .omega
  .omega
 refine bq ZT.ok rfl ?_;repeat' first|simp only[gE,simprocAttr,hx,Op.c,aZ,bx,vv]|refine fg ?_ ?_
 all_goals
  refine bm rfl hB ?_ ?_ ?_
  .rfl
  .refine nG ?_;simp only[dL]<;>rfl
  rintro _ _ hi ⟨rfl,ea⟩;subst ea;repeat' first|simp only[gE,simprocAttr,hx,cc,cp,gp,c2,ha,c5,e4,g4,e6,e7,Op.c,aZ,bx,vv]|refine fg ?_ ?_
 all_goals
  refine bm rfl hD ?_ ?_ ?_
  .rfl
  .refine nG ?_;simp only[dL]<;>rfl
  rintro _ _ hi ⟨rfl,ea⟩;subst ea;repeat' simp(disch:=omega) only[gE,simprocAttr,hx,cc,cp,gp,c2,ha,c5,e4,g4,e6,e7,Op.c,aZ,bx,vv]
 all_goals
  refine cC (n:=7) (off:=i*7) (cells:=K) ?_ ?_ av λt te tc tl tb tm ih kd=>?_
  .exact sT
  .exact sT
  have hj:=tb.trans sT;have hk:=ih.trans sT;obtain⟨l,io,it,js⟩:=fin t.E hj hk;repeat' simp(disch:=omega) only[gE,simprocAttr,te,tc,tl,io,c5,c2]
 all_goals
  refine cC (n:=7) (off:=p*7) (cells:=l) ?_ ?_ it λjA hl hn ho hq j5 hr j6=>?_
  .exact sT
  .simp only[da,simprocAttr,bn,te,tc,tl];rfl
  obtain⟨tE,R'⟩:=js jA.E (hq.trans (by simp only[da,simprocAttr,bn,te,tc,tl];try rfl)) (hr.trans (by simp only[da,simprocAttr,bn];try rfl));repeat' simp only[gE,simprocAttr,hl,hn,ho,te,tc,tl]
  exact Mg
def J5:CF GL f265 [] [1,6,1006,7,1007,8,1008] 265:=ji
def EW:{l:List (BI×List Nat) // J5.b.body.sets[0]?=some l}:=⟨_,by cbv⟩
def EX:{l:List (BI×List Nat) // J5.b.body.sets[1]?=some l}:=⟨_,by cbv⟩
def EY:{l:List (BI×List Nat) // J5.b.body.sets[2]?=some l}:=⟨_,by cbv⟩
def zP:List V:=[I 0,I 0,I 0,I 0,I 0,S [],V.aP]
def d265(k a:Nat)(i:Nat):Nat:=if i=13 then a else k+i
def yj(f:Nat)(b:Name)(j:Int)(q:aK)(l:T)(m:Int)(d:List ID)(a:Nat):List V:=
 [.bp f 0,.agg [I b.J,I b.seq,I j],.A 3 0 3,I q.eB,.A 3 0 4,I q.eh,S l,.A 3 0 6,eZ q.C,I m,eZ d,eZ d,.agg [I b.J,I b.seq,I j,I q.eB,I q.eh,S l,eZ d],.A a 0 0]
def R6(E:aJ)(f:Nat)(w:cm)(o:Op)(b:Name)(s t:fW)(X:List Nat)(R:RX E f w o b s t X)(v a i:Nat)(a3:v<w.O.length)(a4:a<w.O[v].O.length)(c1:i<w.O[v].O[a].O.length)(eb:(dx w).length<=10000)(a9:s=⟨v,a,i⟩)
 (q:aK) (c2:w.O[v].O[a].O[i]=q) (q1:q.C.length<=10000) (c5:q.bW.length<=10000) (bi:g3 q.bW=0) (et:gm q.bW=q.C.length):
 aI 265 [.bp f 0] E λu _ bo=>L7 f o b s t (Ll w v a i q o.n b) u bo:=by
 have br:=EU E f w o b s t X R v a i a3 a4 c1 a9;subst a9;rw[c2]at br;have aD:=RL q.bW o.n c5;obtain⟨eN,hx,T,a5⟩:=R.cells;refine bq J5.ok rfl ?_;unfold Ll;repeat any_goals simp only[dq,simprocAttr,bh,hx,a5,Op.c,aZ,bx,cx,b8,bQ,vv]
 refine bm rfl br ?_ ?_ ?_
 .rfl
 .refine nG ?_;simp only[dL,simprocAttr]<;>rfl
 rintro _ _ E ⟨rfl,rfl⟩;cases bs:Bz q.bW o.n with
 |false=>
  rw[JO bi bs]at aD;repeat any_goals first|simp(disch:=(simp only[me];omega)) only[dq,simprocAttr,bh,bn,hx,a5,Op.c,aK.v,aO,aw,ay,cw,cN,aZ,bx,cx,b8,bQ,vv]|(refine iT aD ?_ ?_;·simp only[dL,simprocAttr]<;>rfl)
  all_goals exact⟨nE,I 5,_,bz rfl rfl,rfl,λh=>by cases h⟩
 |true=>
  rw[Gb bi bs]at aD;have e1:=EQ q.bW o.n;have e2:=BA q.bW o.n;have c3:=zM (nQ q.bW o.n) (by omega);have aA:(lU 3 (cq (nQ q.bW o.n)) (cq (nQ q.bW o.n)).length).length=gm (nQ q.bW o.n):=rfl;generalize ed:gm (nQ q.bW o.n)=m at*
  have c6:=vl E f w o b _ t X R v a i 1 a3 a4 (by omega) (aQ (mJ a3 a4) (by omega)) [k6 b 0 q (nQ q.bW o.n) (q.C.take m),k6 b 1 q (EP q.bW o.n) (q.C.drop m)] (by simp);generalize nQ q.bW o.n=ad at*
  generalize EP q.bW o.n=ai at*
  have c7:=vf (q.C.take m) (by rw[aF];omega);have c9:=vf (q.C.drop m) (by rw[aS];omega);have dd:=xu E f w o b _ t X 0 R;have bu:=xu E f w o b _ t X 1 R;have bv:List.take (q.C.length-m) (List.drop m (List.map ID.v q.C))=List.map ID.v (q.C.drop m):=by rw[az (by simp),gC]
  have dg:List.take (m-0) (List.map ID.v q.C)=List.map ID.v (q.C.take m):=List.map_take.symm;repeat any_goals first|simp(disch:=(simp only[me];omega)) only[dq,simprocAttr,bh,bn,hx,a5,aA,Op.c,aK.v,aO,aw,ay,cw,cN,aZ,bx,cx,b8,bQ,vv]|((first|refine iT aD ?_ ?_|refine iT c3 ?_ ?_);·simp only[dL,simprocAttr]<;>rfl)
  all_goals
   refine Dl 14 (λi=>(yj f b 0 q ad m (q.C.take m) 8).getD i .qr) (d265 29 8) (λs=>s.E=E/\s.G 3=1/\s.loc 3 0=q.v.cells/\((s.Z 8=.qr/\s.G 8=0)\/(s.Z 8=.A 8 0 0/\s.G 8=1/\s.loc 8 0=zP))/\s.G 9=0/\s.Z 9=.qr/\s.Z 0=.bp f 0/\s.Z 3=.A 3 0 0/\s.Z 4=S ad/\s.Z 5=S ai/\s.Z 7=I m/\True) (by decide) (by decide) (by decide) (by decide) (λi j dp ds h=>by unfold d265 at h;split at h<;>split at h<;>omega) ?_ ?_ ?_
  .simp only[da,simprocAttr,bn,aK.v,V.cells,aO,aw,ay];exact⟨rfl,.inl trivial⟩
  .show uB _ _ _ _ _ _ _ 0 (EW.1.take 14);simp only[EW,fT,fk,uB]
   and_intros
   all_goals first|trivial|rintro ac ⟨l,p,r,P,H,y,z,D,K,L,N,Q⟩ d aB a0
   all_goals
    simp only[hL,cI,jW,kM,bK,yj,d265,dO,dN,Nat.reduceAdd,Nat.reduceEqDiff,cE,bQ]at d
   all_goals try(repeat any_goals simp(disch:=omega) only[dq,simprocAttr,bh,l,p,r,z,D,K,L,N,Q,d,hx,aA,dg,aK.v,Op.c,aZ,bx,cx,b8,bQ,vv])
   all_goals try(refine iR c7 (aN.cons (aj (by simp only[dL,simprocAttr,d]<;>rfl)) aN.nil) ?_;repeat any_goals simp only[dq,simprocAttr,bh,l,p,r,z,D,K,L,N,Q,bn])
   all_goals try(refine bm l dd (by simp only[bN,ce,da,simprocAttr,d];rfl) (aN.cons (aj (by simp only[dL,simprocAttr,d]<;>rfl)) (aN.cons (aj (by simp only[dL,simprocAttr,d]<;>rfl)) aN.nil)) ?_;rintro _ _ bU ⟨rfl,a6⟩;repeat any_goals simp only[dq,simprocAttr,bh,bn,a6,p,r,z,D,K,L,N,Q])
   all_goals try(exact⟨⟨P,H,y⟩,rfl,λt ab=>an ab⟩)
   all_goals try(rcases P with⟨_,h⟩|⟨h,_⟩)
   all_goals try(exact absurd (h.symm.trans a0) (by simp only[da,simprocAttr,bn,d265,Nat.reduceEqDiff,bQ];simp))
   all_goals try(rw[h];exact⟨⟨.inr ⟨rfl,rfl,rfl⟩,H,y⟩,rfl,λt ab=>an ab⟩)
   all_goals skip
  .rintro ac ⟨l,p,r,P,H,y,z,D,K,L,N,Q⟩ d aB;have z41:=d 12 (by decide);have a1:=d 13 (by decide);simp only[yj,d265,dO,dN,Nat.reduceAdd,Nat.reduceEqDiff,cE,bQ]at z41 a1;obtain⟨b2,b3⟩:ac.G 8=1/\ac.loc 8 0=zP:=by
    rcases P with⟨h,_⟩|⟨_,h⟩
    .rw[a1]at h;cases h
    .exact h
   simp only[EW,b8,cx,bw,cV];repeat any_goals simp only[dq,simprocAttr,bh,l,p,r,a1,z41,b2,b3,zP,aO,aw,ay]
   have dF:=y;refine Dl 14 (λi=>(yj f b 1 q ai m (q.C.drop m) 9).getD i .qr) (d265 42 9) (λs=>s.E=E/\s.G 3=1/\s.loc 3 0=q.v.cells/\((s.Z 9=.qr/\s.G 9=0)\/(s.Z 9=.A 9 0 0/\s.G 9=1/\s.loc 9 0=zP))/\s.G 8=1/\s.loc 8 0=[I b.J,I b.seq,I 0,I q.eB,I q.eh,S ad,eZ (q.C.take m)]/\s.Z 8=.A 8 0 0/\s.Z 0=.bp f 0/\s.Z 3=.A 3 0 0/\s.Z 5=S ai/\s.Z 7=I m/\True) (by decide) (by decide) (by decide) (by decide) (λi j dp ds h=>by unfold d265 at h;split at h<;>split at h<;>omega) ?_ ?_ ?_
   .simp only[da,simprocAttr,bn,l,p,r,H,y,z,D,K,L,N,a1,b2,b3,zP,aO,aw,ay];all_goals trivial
   .show uB _ _ _ _ _ _ _ 0 (EX.1.take 14);simp only[EX,fT,fk,uB]
    and_intros
    all_goals first|trivial|rintro ac ⟨l,p,r,P,H,y,z,D,K,L,N,Q⟩ d aB a0
    all_goals
     simp only[hL,cI,jW,kM,bK,yj,d265,dO,dN,Nat.reduceAdd,Nat.reduceEqDiff,cE,bQ]at d
    all_goals try(repeat any_goals simp(disch:=omega) only[dq,simprocAttr,bh,l,p,r,H,y,z,D,K,L,N,Q,d,hx,aA,bv,aK.v,Op.c,aZ,bx,cx,b8,bQ,vv])
    all_goals try(refine iR c9 (aN.cons (aj (by simp only[dL,simprocAttr,d]<;>rfl)) aN.nil) ?_;repeat any_goals simp only[dq,simprocAttr,bh,l,p,r,H,y,z,D,K,L,N,Q,bn])
    all_goals try(refine bm l bu (by simp only[bN,ce,da,simprocAttr,d];rfl) (aN.cons (aj (by simp only[dL,simprocAttr,d]<;>rfl)) (aN.cons (aj (by simp only[dL,simprocAttr,d]<;>rfl)) aN.nil)) ?_;rintro _ _ bU ⟨rfl,a6⟩;repeat any_goals simp only[dq,simprocAttr,bh,bn,a6,p,r,H,y,z,D,K,L,N,Q])
    all_goals try(exact⟨P,rfl,λt ab=>an ab⟩)
    all_goals try(rcases P with⟨_,h⟩|⟨h,_⟩)
    all_goals try(exact absurd (h.symm.trans a0) (by simp only[da,simprocAttr,bn,d265,Nat.reduceEqDiff,bQ,dF];simp))
    all_goals try(rw[h];exact⟨.inr ⟨rfl,rfl,rfl⟩,rfl,λt ab=>an ab⟩)
    all_goals skip
   .rintro ac ⟨l,p,r,P,H,y,z,D,K,L,N,Q⟩ d aB;have z54:=d 12 (by decide);have a2:=d 13 (by decide);simp only[yj,d265,dO,dN,Nat.reduceAdd,Nat.reduceEqDiff,cE,bQ]at z54 a2;obtain⟨b5,b6⟩:ac.G 9=1/\ac.loc 9 0=zP:=by
     rcases P with⟨h,_⟩|⟨_,h⟩
     .rw[a2]at h;cases h
     .exact h
    simp only[EX,b8,cx,bw,cV];repeat any_goals simp only[dq,simprocAttr,bh,l,p,r,a2,z54,b5,b6,zP,aO,aw,ay]
    refine Dl 8 (λn=>([.bp f 0,.bp f 0,.bp f 0,.bp f 20,.agg [I v,I a,I i],.agg [I b.J,I b.seq,I 0,I q.eB,I q.eh,S ad,eZ (q.C.take m)],.agg [I b.J,I b.seq,I 1,I q.eB,I q.eh,S ai,eZ (q.C.drop m)],.sl 7 [.agg [I b.J,I b.seq,I 0,I q.eB,I q.eh,S ad,eZ (q.C.take m)],.agg [I b.J,I b.seq,I 1,I q.eB,I q.eh,S ai,eZ (q.C.drop m)]]]:List V).getD n .qr) (λi=>55+i) (λs=>s.E=E/\s.G 8=1/\s.loc 8 0=[I b.J,I b.seq,I 0,I q.eB,I q.eh,S ad,eZ (q.C.take m)]/\s.G 9=1/\s.loc 9 0=[I b.J,I b.seq,I 1,I q.eB,I q.eh,S ai,eZ (q.C.drop m)]/\s.Z 8=.A 8 0 0/\s.Z 9=.A 9 0 0/\s.Z 0=.bp f 0) (by decide) (by decide) (by decide) (by decide) (λi j _ _ h=>by omega) ?_ ?_ ?_
    .simp only[da,simprocAttr,bn,l,p,r,H,y,z,D,a2,b5,b6,zP,aO,aw,ay];all_goals rfl
    .show uB _ _ _ _ _ _ _ 0 (EY.1.take 8);simp only[EY,fT,fk,uB]
     and_intros
     all_goals first|trivial|rintro dU ⟨a7,b7,ca,cb,cc,ch,ci,cp⟩ d aB a0
     all_goals
      simp only[hL,cI,jW,kM,bK,dO,dN,Nat.reduceAdd]at d;repeat any_goals simp only[dq,simprocAttr,bh,a7,b7,ca,cb,cc,ch,ci,cp,d,hx,Op.c,aZ,bx,cx,b8,bQ,vv]
     all_goals exact λt ab=>an ab
    .rintro dU ⟨a7,b7,ca,cb,cc,ch,ci,cp⟩ d aB;have z55:=d 0 (by decide);have z59:=d 4 (by decide);have aC:=d 7 (by decide);simp only[dO,dN,Nat.reduceAdd]at z55 z59 aC;simp only[EY,b8,cx,bw,cV];refine bm a7 c6 (by simp only[bN,ce,da,simprocAttr,z55,z59,aC];rfl) (aN.cons (aj (by simp only[dL,simprocAttr,z55]<;>rfl)) (aN.cons (aj (by simp only[dL,simprocAttr,z59]<;>rfl)) (aN.cons (aj rfl) (aN.cons (aj (by simp only[dL,simprocAttr,aC]<;>rfl)) aN.nil)))) ?_;rintro u _ el ⟨a8,ea⟩;repeat any_goals simp only[dq,simprocAttr,bh,bn]
     exact⟨nE,I 0,_,bz rfl rfl,rfl,λ_=>⟨a8,ea⟩⟩
def TB:CF GL f263 [] [1,3,1003] 263:=ji
def EZ:{l:List (BI×List Nat) // TB.b.body.sets[0]?=some l}:=⟨_,by cbv⟩
def ZU(w:cm)(o:Op)(b:Name):cm×Int:=
 if k5 w o.spot=true then x6 w o.spot.i9.toNat o.spot.k3.toNat o.spot.idx (k6 b 0 ⟨⟨0,0,0⟩,o.eB,o.eh,[],[]⟩ o.bW o.C)else(w,6)
def Of(a:Nat)(o:Op)(b:Name):List V:=
 [.bp a 0,.bp a 0,.agg [I b.J,I b.seq,I 0],.bp a 0,.bp a 0,.bp a 1,.bp a 12,I o.eB,.bp a 0,.bp a 0,.bp a 1,.bp a 13,I o.eh,.bp a 0,.bp a 0,.bp a 1,.bp a 14,S o.bW,.bp a 0,.bp a 0,.bp a 1,.bp a 17,eZ o.C,eZ o.C,.agg [I b.J,I b.seq,I 0,I o.eB,I o.eh,S o.bW,eZ o.C]]
def R7(E:aJ)(a:Nat)(w:cm)(o:Op)(b:Name)(s t:fW)(X:List Nat)(R:RX E a w o b s t X)(ai:(dx w).length<=10000)(H:o.C.length<=1000000):
 aI 263 [.bp a 0] E λu _ r=>L7 a o b s t (ZU w o b) u r:=by
 obtain⟨K,hx,T,o1⟩:=R.cells;have c1:=J2 E K w X T o.spot;have L:=vf o.C (aQ H dt);have c3:=xu E a w o b s t X 0 R;refine bq TB.ok rfl ?_;unfold ZU;cases hh:k5 w o.spot with
 |false=>
  exact Xo
 |true=>
  rw[hh]at c1;obtain⟨N,P,y,z⟩:=EL hh;have Q:=J3 E a w o b s t X R o.spot.i9.toNat o.spot.k3.toNat y z (aQ (mJ y z) av) N P (k6 b 0 ⟨⟨0,0,0⟩,o.eB,o.eh,[],[]⟩ o.bW o.C);repeat any_goals simp only[gE,simprocAttr,hx,o1,Op.c,aZ,bx,vv]
  refine bm rfl c1 ?_ ?_ ?_
  .simp only[da,simprocAttr];simp;exact⟨rfl,rfl⟩
  .refine nG ?_;simp only[dL,simprocAttr]<;>rfl
  rintro _ _ E ⟨rfl,rfl⟩;repeat any_goals simp only[gE,simprocAttr]
  refine Dl 25 (λi=>(Of a o b).getD i .qr) (λi=>14+i) (λs=>s.E=E) dt dt dt dt (λi j _ _ h=>av) ?_ ?_ ?_
  .exact sT
  .show uB _ _ _ _ _ _ _ 0 (EZ.1.take 25);simp only[EZ,fT,fk,uB]
   and_intros
   all_goals first|trivial|intro l f d D aB
   all_goals
    have ab:l.Z 0=.bp a 0:=(D 0 (λj _=>av)).trans rfl;simp only[hL,cI,jW,kM,bK,Of,dO,dN,Nat.reduceAdd]at d
   all_goals
    repeat any_goals simp only[gE,simprocAttr,f,d,ab,hx,Op.c,aZ,bx,vv]
   all_goals try(refine iR L (aN.cons (aj (by simp only[dL,simprocAttr,d]<;>rfl)) aN.nil) ?_;repeat any_goals simp only[gE,simprocAttr,f])
   all_goals try(refine bm f c3 (by simp only[bN,ce,da,simprocAttr,d];rfl) (aN.cons (aj (by simp only[dL,simprocAttr,d]<;>rfl)) (aN.cons (aj (by simp only[dL,simprocAttr,d]<;>rfl)) aN.nil)) ?_;rintro _ _ aA ⟨rfl,ac⟩;repeat any_goals simp only[dq,simprocAttr,bh,bn,ac])
   all_goals exact⟨rfl,λt ad=>an ad⟩
  .intro l f d D;have p:l.Z 14=.bp a 0:=d 0 dt;have q:l.Z 38=.agg [I b.J,I b.seq,I 0,I o.eB,I o.eh,S o.bW,eZ o.C]:=d 24 dt;simp only[EZ,b8,cx,bw,cV];refine bm f Q ?_ ?_ ?_
   .simp only[da,simprocAttr];simp[p,q];exact⟨rfl,rfl⟩
   .exact aN.cons (aj (by simp only[dL,simprocAttr,p]<;>rfl)) (aN.cons (aj (by simp only[dL,simprocAttr,q]<;>rfl)) aN.nil)
   exact XN
def setOf(l:List ID):List (ID×V):=l.map λa=>(a,B true)
def tJ(l:List ID)(a:ID):List ID:=if a∈l then l else l++[a]
def Ib(l:List ID)(a:ID):jh (setOf l) a (B true)=setOf (tJ l a):=by
 induction l with
 |nil=>rfl
 |cons b r ih=>
  unfold setOf at ih ⊢
  rw[bw,jh,tJ];by_cases h:a=b
  .subst h;simp
  .rw[an h,ih,tJ];simp only[bC,h,rV];split<;>rfl
def Ic(l:List ID)(a:ID):kQ (setOf l) a (B false)=B (decide (a∈l)):=by
 induction l with
 |nil=>rfl
 |cons b r ih=>
  unfold setOf at ih ⊢
  rw[bw,kQ];by_cases h:a=b
  .subst h;simp
  .rw[an h,ih];simp[h]
def Og(l:List ID)(a c:ID):c∈tJ l a↔c=a\/c∈l:=by
 unfold tJ;split
 next h=>
  constructor
  .exact .inr
  .rintro(rfl|d)
   .exact h
   .exact d
 .simp[or_comm]
def uN(c:ID):∀(l m:List ID),c∈l.foldl tJ m↔c∈m\/c∈l
 |[],m=>bR
 |a::r,m=>by
  rw[fo,uN c r,Og,bC];exact S4
def nB{α:Type}[DecidableEq α]{f:List CK}{ag:Bool}{lN:α->V}{P:Program}{GL:ak}{s:St}{j:St->Prop}{pu:Bool}{d:Option Nat}{r:List BI}{m k y:eO}{id:Nat}{l:List (α×V)}{a:α}{fD:aJ}{yv:V}
 (K:yc f ag lN) (hm:s.val m=.mp id) (p:s.val k=lN a) (q:s.E=fD) (t:fD.mp id=some (.map (fp lN l))) (o:s.val y=yv) (u:yv.dW=false)
 (h:er P GL pu r ((s.ct (fD.eM id (fp lN (jh l a yv)))).ret d .qr false) j):iu P GL (HX.act s (.sA f ag m k y)) d pu r s j:=by
 subst o;exact Dz K hm p q t u h
def BU:CF GL f217 [] [] 217:=ji
def ZV:CF GL f216 [] [] 216:=ji
def TC:CF GL f218 [19] [0,1000] 218:=ji
def E0:{l:List (BI×List Nat) // TC.b.body.sets[0]?=some l}:=⟨_,by cbv⟩
def ZW:CF GL f163 [9,10,12,13,95,100003,100005] [11,13,14,16,17,22,27,35] 163:=ji
def R8(w:cm)(s:fW)(r:w.ok):af 217 [w.v,s.v] (.hE [((Dq w s).getD h8).v,B (Dq w s).isSome]):=by
 obtain⟨w⟩:=w;obtain⟨t,l,y⟩:=r;obtain⟨a,b,c⟩:=s;simp only at t;have no:Dq ⟨w⟩ ⟨a,b,c⟩=none\/∃p,Dq ⟨w⟩ ⟨a,b,c⟩=some p:=by cases Dq ⟨w⟩ ⟨a,b,c⟩<;>simp
 have key:Dq ⟨w⟩ ⟨a,b,c⟩=if a<0\/b<0\/c<0 then none else match w[a.toNat]? with
  |some v=>match v.O[b.toNat]? with
   |some a=>a.O[c.toNat]?
   |none=>none
  |none=>none:=rfl
 generalize Dq ⟨w⟩ ⟨a,b,c⟩=R at*
 rcases fw a 0 with o|o
 .rw[ax (.inl o)]at key;subst key;simp only[fu,cL];refine pq BU.ok rfl (by simp only[du]) ?_;repeat' first|refine k9 ?_|(refine cY (λh=>?_) (λh=>?_))<;>((try simp only[bO,bD]at h);(try simp only[h]);(try simp only[jc]at h);(try omega))|(((refine rT ?_;repeat' first|exact hP.nil|refine gt ?_ ?_|refine gc ?_ ?_);(all_goals(try((apply aj;simp;done))))))
  all_goals exact kX
 obtain⟨a,rfl⟩:=fH o;rcases am a w.length with d|d
 rotate_left
 .rw[bX,b0 d,qh]at key;subst key;simp only[fu,cL];refine pq BU.ok rfl (by simp only[du]) ?_;repeat' first|refine k9 ?_|(first|refine bY (λh=>?_) (λh=>?_)|refine cY (λh=>?_) (λh=>?_))<;>((try simp only[bO,bD]at h);(try simp only[h]);(try simp only[jc]at h);(try omega))|(((refine rT ?_;repeat' first|exact hP.nil|refine gt ?_ ?_|refine gc ?_ ?_);(all_goals(try((apply aj;simp;done))))))
  all_goals exact kX
 have z:=(l w[a] (ah d)).1;rcases fw b 0 with hb|hb
 .rw[ax (.inr (.inl hb))]at key;subst key;simp only[fu,cL];refine pq BU.ok rfl (by simp only[du]) ?_;repeat' first|simp(disch:=first|omega|(simp only[me];omega)) only[dq,simprocAttr,eQ.v]|(first|refine bY (λh=>?_) (λh=>?_)|refine cY (λh=>?_) (λh=>?_))<;>((try simp only[bO,bD]at h);(try simp only[h]);(try simp only[jc]at h);(try omega))|(((refine rT ?_;repeat' first|exact hP.nil|refine gt ?_ ?_|refine gc ?_ ?_);(all_goals(try((apply aj;simp;done))))))
  all_goals exact kX
 obtain⟨b,rfl⟩:=fH hb;rcases am b w[a].O.length with f|f
 rotate_left
 .simp only[bX,aa d,b0 f,qh]at key;subst key;simp only[fu,cL];refine pq BU.ok rfl (by simp only[du]) ?_;repeat' first|simp(disch:=first|omega|(simp only[me];omega)) only[dq,simprocAttr,eQ.v]|(first|refine bY (λh=>?_) (λh=>?_)|refine cY (λh=>?_) (λh=>?_))<;>((try simp only[bO,bD]at h);(try simp only[h]);(try simp only[jc]at h);(try omega))|(((refine rT ?_;repeat' first|exact hP.nil|refine gt ?_ ?_|refine gc ?_ ?_);(all_goals(try((apply aj;simp;done))))))
  all_goals exact kX
 have D:=((l w[a] (ah d)).2 _ (ah f)).2.1;rcases fw c 0 with q|q
 .rw[ax (.inr (.inr q))]at key;subst key;simp only[fu,cL];refine pq BU.ok rfl (by simp only[du]) ?_;repeat' first|simp(disch:=first|omega|(simp only[me];omega)) only[dq,simprocAttr,eQ.v]|(first|refine bY (λh=>?_) (λh=>?_)|refine cY (λh=>?_) (λh=>?_))<;>((try simp only[bO,bD]at h);(try simp only[h]);(try simp only[jc]at h);(try omega))|(((refine rT ?_;repeat' first|exact hP.nil|refine gt ?_ ?_|refine gc ?_ ?_);(all_goals(try((apply aj;simp;done))))))
  all_goals exact kX
 obtain⟨c,rfl⟩:=fH q;rcases am c w[a].O[b].O.length with j|j
 rotate_left
 .simp only[bX,aa d,aa f,b0 j,qh]at key;subst key;simp only[fu,cL];refine pq BU.ok rfl (by simp only[du]) ?_;repeat' first|simp(disch:=first|omega|(simp only[me];omega)) only[dq,simprocAttr,eQ.v,ee.v]|(first|refine bY (λh=>?_) (λh=>?_)|refine cY (λh=>?_) (λh=>?_))<;>((try simp only[bO,bD]at h);(try simp only[h]);(try simp only[jc]at h);(try omega))|(((refine rT ?_;repeat' first|exact hP.nil|refine gt ?_ ?_|refine gc ?_ ?_);(all_goals(try((apply aj;simp;done))))))
  all_goals exact kX
 simp only[bX,aa d,aa f,aa j]at key;rw[an (by omega)]at key;subst key;have u:=EO _ (((l w[a] (ah d)).2 _ (ah f)).2.2 _ (ah j));simp only[bf,fJ];refine pq BU.ok rfl (by simp only[du]) ?_;repeat' first|simp(disch:=first|omega|(simp only[me];omega)) only[dq,simprocAttr,eQ.v,ee.v,aK.v]|(first|refine bY (λh=>?_) (λh=>?_)|refine cY (λh=>?_) (λh=>?_))<;>((try simp only[bO,bD]at h);(try simp only[h]);(try simp only[jc]at h);(try omega))|(refine iT u ?_ ?_;·simp only[dL]<;>rfl)|(((refine rT ?_;repeat' first|exact hP.nil|refine gt ?_ ?_|refine gc ?_ ?_);(all_goals(try(first|with_reducible exact .refl _|(apply aj;simp;done))))))
 all_goals skip
def E1(E:aJ)(w:cm)(D:w.ok)(s:fW)(i:Int)(G:List ID)(o r gid:Nat)(t:E.box o=some [I s.i9,I s.k3,I s.idx])(H:E.box r=some [.mp gid])(y:E.mp gid=some (.map (fp ID.v (setOf G))))(K: -1000000000<=s.idx/\s.idx<=1000000000/\ -1000000000<=i/\i<=1000000000):
 aI 216 [I i,.ep [cd w.O],.bp o 0,.bp r 0] E λu _ z=>u=(qd w s i).v/\z=E.eM gid (fp ID.v (setOf (tJ G (qd w s i)))):=by
 obtain⟨d,f,j⟩:=s;simp only at t K;have L:=R8 w ⟨d,f,j+i⟩ D;have N:qd w ⟨d,f,j⟩ i=((Dq w ⟨d,f,j+i⟩).getD h8).id:=rfl;rw[N];generalize (Dq w ⟨d,f,j+i⟩).getD h8=p at*
 generalize (Dq w ⟨d,f,j+i⟩).isSome=q at*
 refine bq ZV.ok rfl ?_;repeat' first|simp(disch:=try exact om) only[gE,simprocAttr,t,H,aK.v]|refine lq L ?_
 refine nB qS (a:=p.id) (l:=setOf G) (id:=gid) (fD:=E) (yv:=B true) ?_ ?_ ?_ y rfl rfl ?_
 .exact sT
 .exact sT
 .exact sT
 rw[Ib];repeat' simp only[gE,simprocAttr]
 exact⟨nE,_,_,eA ev rfl,rfl⟩
def Lx(w:cm)(s:fW)(G:List ID)(L:List cR)(E:aJ):Prop:=
 E.box 1=some [.mp 0]/\E.mp 0=some (.map (fp ID.v (setOf G)))/\E.box 2=some [I s.i9,I s.k3,I s.idx]/\E.box 3=some [.fn 216 [.ep [cd w.O],.bp 2 0,.bp 1 0]]/\
  4<E.Y/\∃v,E.box 4=some [v]/\gh 6 E v (L.map cR.v)/\∀i,bH v=some i->4<i
def Ie:fL prog 216=true:=by kernel_rfl
def BV:fL prog 218=true:=by kernel_rfl
def If(w:cm)(s:fW)(b:Name)(i k:Int)(v:V):List V:=
 [v,.fn 216 [.ep [cd w.O],.bp 2 0,.bp 1 0],I i,(qd w s i).v,.ep [I b.J,I b.seq],I b.J,.ep [I b.seq],I b.seq,I k,.agg [I b.J,I b.seq,I k],(uJ w s b (i,k)).v,.sl 6 [(uJ w s b (i,k)).v]]
def xw(E:aJ)(w:cm)(br:w.ok)(s:fW)(b:Name)(i k:Int)(G:List ID)(L:List cR)(H:Lx w s G L E)(a2:L.length<=1000000)(ai: -1000000000<=s.idx/\s.idx<=1000000000/\ -1000000000<=i/\i<=1000000000):
 aI 218 [I i,I k,.bp 4 0,.bp 3 0,.ep [I b.J,I b.seq]] E λ_ _ a=>Lx w s (tJ G (qd w s i)) (L++[uJ w s b (i,k)]) a:=by
 obtain⟨q1,bs,a3,a4,cc,v,a5,aA,a6⟩:=H;have bu:=E1 E w br s i G 2 1 0 a3 q1 bs ai;have bv:=aA.one;have ch:=aA.fS;refine bq TC.ok rfl ?_;repeat' simp only[gE,simprocAttr]
 refine Dl 12 (λn=>(If w s b i k v).getD n .qr) (λn=>7+n) (λt=>((t.E=E/\t.Z 10=.qr)\/(t.E=E.eM 0 (fp ID.v (setOf (tJ G (qd w s i))))/\t.Z 10=(qd w s i).v))/\t.Z 0=I i/\t.Z 1=I k/\t.Z 2=.bp 4 0/\t.Z 3=.bp 3 0/\t.Z 4=.ep [I b.J,I b.seq]) dt dt dt dt (λi j _ _ h=>av) ?_ ?_ ?_
 .simp only[da];exact .inl trivial
 .show uB _ _ _ _ _ _ _ 0 (E0.1.take 12);simp only[E0,fT,fk,uB]
  and_intros
  all_goals first|trivial|rintro aB ⟨⟨r,P⟩|⟨r,P⟩,aC,aD,u,a0,a1⟩ d bU b2
  all_goals
   simp only[hL,cI,jW,kM,bK,If,dO,dN,Nat.reduceAdd]at d
  all_goals try(refine absurd (P.symm.trans d.1) ?_;simp[ID.v];done)
  all_goals try(refine absurd (P.symm.trans b2) ?_;simp only[da];simp[ID.v];done)
  all_goals try(repeat any_goals simp only[gE,simprocAttr,r,aC,aD,u,a0,a1,P,d,a4,a5,bv,ID.v,cR.v,uJ,aZ,bx])
  all_goals try(refine kv (f:=216) (cap:=[.ep [cd w.O],.bp 2 0,.bp 1 0]) r (by simp only[da,d]) Ie bu (by simp only[bN,ce,da,simprocAttr,d];rfl) (aN.cons (aj (by simp only[dL,d]<;>rfl)) (aN.cons (.refl _) (aN.cons (.refl _) (aN.cons (.refl _) aN.nil)))) ?_;rintro _ _ cb ⟨rfl,rfl⟩;repeat any_goals simp only[dq,simprocAttr,bh,bn,aC,aD,u,a0,a1])
  all_goals exact⟨by first|exact .inl trivial|exact .inr trivial,rfl,λt b3=>an b3⟩
 .rintro aB ⟨r,aC,aD,u,a0,a1⟩ d bU;have z:=d 0 dt;have R:=d 3 dt;have o:=d 11 dt;simp only[If,dO,dN,Nat.reduceAdd]at z R o;obtain⟨Q,-⟩:aB.E=E.eM 0 (fp ID.v (setOf (tJ G (qd w s i))))/\True:=by
   rcases r with⟨_,h⟩|⟨h,_⟩
   .rw[R]at h;cases h
   .exact⟨h,trivial⟩
  simp only[E0,b8,cx,bw,cV];repeat' simp only[gE,simprocAttr,Q,u,z,o]
  have b5:gh 6 aB.E v (L.map cR.v):=by rw[Q];exact aA.frame (λ_ _=>rfl) (ao _)
  refine iE (xs:=L.map cR.v) (ys:=[(uJ w s b (i,k)).v]) ?_ ?_ ?_ ?_ ?_ rfl ?_ ?_ λD a K hb ai=>?_
  .simp only[da,z];exact b5
  .simp only[da,o];rfl
  .intro y a7;simp at a7;subst a7;rfl
  .simp only[da,o];rfl
  .simp only[da,o];intro l a2;cases a2
  .exact PD
  .intro _ b6;cases b6
  have b7:=K.one;have a8:=K.kb;have N:bt (bH v) (E.eM 0 (fp ID.v (setOf (tJ G (qd w s i))))) a:=by revert hb;rw[Q];simp only[da,z];exact id
  have a9:bH D=bH v\/bH D=some E.Y:=by revert ai;rw[Q];simp only[da,z];exact id
  have ci:E.Y<=a.Y:=N.Y;have q:∀j,j<=4->a.box j=E.box j:=λj p=>N.box j (show j<E.Y by omega) (λe=>by have:=a6 j e;omega);repeat' simp only[gE,simprocAttr,u]
  refine cC (n:=1) (off:=0) (cells:=[v]) ?_ ?_ bR λbi te tc tl tb tm ca cp=>?_
  .simp only[sE];rw[q 4 av];exact a5
  .simp only[sE];simp only[jR,a8];simp[b7]
  have ab:bi.E.box=eR a.box 4 (some [D]):=tb.trans (by simp only[sE];rw[a8];rfl);have ac:=ca.trans sT;have bo:=tm.trans sT;repeat' simp only[gE,simprocAttr,te,tc,tl]
  have ad:∀j,bH D=some j->4<j:=λj p=>by
   rcases a9 with h|h
   .exact a6 j (h▸p)
   .rw[h]at p;have:=au p;omega
  have hx:∀j,j≠4->bi.E.box j=a.box j:=λj p=>by rw[ab];exact bE _ _ p
  refine⟨nE,.hE [],_,rfl,?_,?_,?_,?_,?_,D,by rw[ab,bl],?_,ad⟩
  .rw[hx 1 dt,q 1 av];exact q1
  .rw[bo,N.mp 0 (show 0<E.Y by omega)];simp[aJ.eM]
  .rw[hx 2 dt,q 2 av];exact a3
  .rw[hx 3 dt,q 3 av];exact a4
  .rw[ac];omega
  .rw[aE];exact K.frame (λj p=>hx j (by have:=ad j p;omega)) (c8 ac.symm)
abbrev fr2:List V:=[(.int .i64 0),(.int .i64 0),(.int .i64 0),(.int .i64 0),(.int .i64 0),(.str []),.aP]
abbrev fr0:la:=(.one false (v 112 (.build fr2 [(0,3,(x 102)),(3,1,(x 104)),(4,1,(x 106)),(5,1,(x 107)),(6,1,(x 111))])) (.one true (e 113 (.ug 7 (.agg fr2) 1 [(0,(x 112))])) (.one true (e 114 (.app 7 (x 99) (x 113))) (.one true (g 6 (x 114)) (.done)))))
abbrev ZX:la:=(.one true (⟨none,none,.ex (.store 7 (x 3) (x 11))⟩) (.one true (g 4 (x 20)) (.done)))
abbrev rI:la:=(.stop)
abbrev fr1:la:=(.alt (e 19 (.ld (x 18))) (.one false (v 20 (.len (x 19))) ZX) (.alt (⟨none,none,.ex (.store 7 (x 3) (x 11))⟩) (.one true (e 19 (.ld (x 18))) (.one true (v 20 (.len (x 19))) (.one true (g 4 (x 20)) (.done)))) rI))
abbrev Ly:BI:=(e 3 (.alloc fr2))
abbrev ZY:la:=(.alt (c 17 311 [(x 12),(x 16)]) (.one false (v 18 (.nilCheck (x 17))) fr1) rI)
abbrev fr3:la:=(.alt (c 17 311 [(x 12),(x 16)]) (.one false (v 18 (.nilCheck (x 17))) (.alt (e 19 (.ld (x 18))) (.one false (v 20 (.len (x 19))) (.one true Ly ZX)) (.alt Ly fr1 rI))) (.alt Ly ZY rI))
abbrev R9:BI:=(c 111 127 [(x 110)])
abbrev fr5:la:=(.alt R9 fr0 rI)
abbrev Wj:BI:=(e 104 (.ld (x 103)))
abbrev Wk:BI:=(e 106 (.ld (x 105)))
abbrev ZZ:BI:=(c 102 307 [(x 100),(x 101)])
abbrev Z0:BI:=(v 16 (.load true 3 (x 15)))
abbrev Oh:BI:=(c 11 309 [(x 10)])
abbrev Z1:la:=(.alt Wk fr5 (.alt R9 (.one false Wk fr0) rI))
abbrev Z2:la:=(.alt Wj fr5 (.alt R9 (.one false Wj fr0) rI))
def E2:BC:=(.seq (.ops true [v 88 (.bin .lss (x 87) (x 86))]) (.seq (.cond (x 88) .skip (.exit 0)) (.seq (.block 1 (.seq (.ops true [m 89 (x 87),v 90 (.sv 1 (x 85) (x 87)),e 91 (.ld (x 90)),g 7 (x 89),g 8 (x 91)]) (.seq (.ops true [m 92 (x 8),c 93 126 [(x 92)],v 94 (.len (x 93)),g 9 (x 94)]) (.seq (.seq (.ops true [m 95 (x 9),m 96 (x 5),v 97 (.len (x 96)),v 98 (.bin .gtr (x 95) (x 97))]) (.cond (x 98) (.seq (.ops true [g 2 (i 8)]) .ret) .skip)) (.seq (.v7 false (.one false (m 99 (x 6)) (.one false (m 100 (x 0)) (.one false (m 101 (x 7)) (.one false (v 103 (.fieldAddr 3 (x 3))) (.one false (v 105 (.fieldAddr 4 (x 3))) (.one false (m 107 (x 8)) (.one false (m 108 (x 5)) (.one false (m 109 (x 9)) (.one false (v 110 (.cut 3 (x 108) none (some (x 109)))) (.alt ZZ (.alt Wj Z1 (.alt Wk Z2 (.alt R9 (.one false Wj (.one false Wk fr0)) rI))) (.alt Wj (.alt ZZ Z1 (.alt Wk (.alt ZZ fr5 rI) rI)) (.alt Wk (.alt ZZ Z2 (.alt Wj (.alt ZZ fr5 rI) rI)) rI))))))))))))) (.ops true [m 115 (x 5),m 116 (x 9),v 117 (.cut 3 (x 115) (some (x 116)) none),g 5 (x 117)])))))) (.ops true [v 118 (.bin .add (x 87) (i 1)),m 87 (x 118)]))))
def TD:BC:=(.seq (.ops true [g 2 (i 0)]) (.seq (.v7 false (.one false (m 10 (x 0)) (.one false (m 12 (x 0)) (.one false (m 13 (x 0)) (.one false (v 14 (.nilCheck (x 13))) (.one false (v 15 (.fieldAddr 20 (x 14))) (.alt Oh (.alt Z0 fr3 (.alt Ly (.alt Z0 ZY rI) rI)) (.alt Z0 (.alt Oh fr3 (.alt Ly (.alt Oh ZY rI) rI)) (.alt Ly (.alt Oh (.alt Z0 ZY rI) (.alt Z0 (.alt Oh ZY rI) rI)) rI))))))))) (.seq (.seq (.v7 true (.one false (m 21 (x 0)) (.one false (v 22 (.nilCheck (x 21))) (.one false (v 23 (.fieldAddr 1 (x 22))) (.one false (v 24 (.fieldAddr 10 (x 23))) (.one false (e 25 (.ld (x 24))) (.one false (v 26 (.bin .lss (x 25) (i 1))) (.one false (m 27 (x 26)) (.one false (⟨some (27,false),some 28,.ex (.IV (x 0))⟩) (.one false (⟨some (27,false),some 29,.ex (.val (.nilCheck (x 28)))⟩) (.one false (⟨some (27,false),some 30,.ex (.val (.fieldAddr 1 (x 29)))⟩) (.one false (⟨some (27,false),some 31,.ex (.val (.fieldAddr 10 (x 30)))⟩) (.one false (⟨some (27,false),some 32,.ex (.ld (x 31))⟩) (.one false (⟨some (27,false),some 33,.ex (.val (.bin .gtr (x 32) (i 4)))⟩) (.one false (v 34 (.pick (x 27) (.const (.bool true)) (x 33))) (.one false (m 35 (x 34)) (.one false (⟨some (35,false),some 36,.ex (.IV (x 0))⟩) (.one false (⟨some (35,false),some 37,.ex (.val (.nilCheck (x 36)))⟩) (.one false (⟨some (35,false),some 38,.ex (.val (.fieldAddr 20 (x 37)))⟩) (.one false (⟨some (35,false),some 39,.ex (.val (.fieldAddr 2 (x 38)))⟩) (.one false (⟨some (35,false),some 40,.ex (.ld (x 39))⟩) (.one false (⟨some (35,false),some 41,.ex (.IV (x 0))⟩) (.one false (⟨some (35,false),some 42,.ex (.val (.nilCheck (x 41)))⟩) (.one false (⟨some (35,false),some 43,.ex (.val (.fieldAddr 1 (x 42)))⟩) (.one false (⟨some (35,false),some 44,.ex (.val (.fieldAddr 10 (x 43)))⟩) (.one false (⟨some (35,false),some 45,.ex (.ld (x 44))⟩) (.one false (⟨some (35,false),some 46,.ex (.val (.bin .add (x 40) (x 45)))⟩) (.one false (⟨some (35,false),some 47,.ex (.IV (x 4))⟩) (.one false (⟨some (35,false),some 48,.ex (.val (.bin .gtr (x 46) (x 47)))⟩) (.one false (v 49 (.pick (x 35) (.const (.bool true)) (x 48))) (.one false (m 50 (x 49)) (.one false (⟨some (50,false),some 51,.ex (.IV (x 0))⟩) (.one false (⟨some (50,false),some 52,.ex (.val (.nilCheck (x 51)))⟩) (.one false (⟨some (50,false),some 53,.ex (.val (.fieldAddr 1 (x 52)))⟩) (.one false (⟨some (50,false),some 54,.ex (.val (.fieldAddr 14 (x 53)))⟩) (.one false (⟨some (50,false),some 55,.ex (.ld (x 54))⟩) (.one false (⟨some (50,false),some 56,.ex (.val (.len (x 55)))⟩) (.one false (⟨some (50,false),some 57,.ex (.val (.bin .lss (x 56) (i 1)))⟩) (.one false (v 58 (.pick (x 50) (.const (.bool true)) (x 57))) (.one false (m 59 (x 58)) (.one false (⟨some (59,false),some 60,.ex (.IV (x 0))⟩) (.one false (⟨some (59,false),some 61,.ex (.val (.nilCheck (x 60)))⟩) (.one false (⟨some (59,false),some 62,.ex (.val (.fieldAddr 1 (x 61)))⟩) (.one false (⟨some (59,false),some 63,.ex (.val (.fieldAddr 14 (x 62)))⟩) (.one false (⟨some (59,false),some 64,.ex (.ld (x 63))⟩) (.one false (⟨some (59,false),some 65,.ex (.val (.len (x 64)))⟩) (.one false (⟨some (59,false),some 66,.ex (.val (.bin .gtr (x 65) (i 4)))⟩) (.one false (v 67 (.pick (x 59) (.const (.bool true)) (x 66))) (.one true (m 68 (x 67)) (.one false (⟨some (68,false),some 69,.ex (.IV (x 0))⟩) (.one false (⟨some (68,false),some 70,.ex (.val (.nilCheck (x 69)))⟩) (.one false (⟨some (68,false),some 71,.ex (.val (.fieldAddr 1 (x 70)))⟩) (.one false (⟨some (68,false),some 72,.ex (.val (.load true 17 (x 71)))⟩) (.one false (⟨some (68,false),some 73,.call 314 [(x 72)]⟩) (.one true (⟨some (68,false),some 74,.ex (.val (.un .not (x 73)))⟩) (.one true (v 75 (.pick (x 68) (.const (.bool true)) (x 74))) (.done))))))))))))))))))))))))))))))))))))))))))))))))))))))))) (.cond (x 75) (.seq (.ops true [g 2 (i 5)]) .ret) .skip)) (.seq (.ops true [m 76 (x 0),v 77 (.nilCheck (x 76)),v 78 (.fieldAddr 1 (x 77)),v 79 (.fieldAddr 16 (x 78)),e 80 (.ld (x 79)),g 5 (x 80)]) (.seq (.ops true [g 6 (.const .aP)]) (.seq (.seq (.ops true [m 81 (x 0),v 82 (.nilCheck (x 81)),v 83 (.fieldAddr 1 (x 82)),v 84 (.fieldAddr 14 (x 83)),e 85 (.ld (x 84)),v 86 (.len (x 85)),m 87 (i 0)]) (.block 0 (.loop E2))) (.seq (.seq (.ops true [m 119 (x 5),v 120 (.len (x 119)),v 121 (.bin .gtr (x 120) (i 0))]) (.cond (x 121) (.seq (.ops true [g 2 (i 8)]) .ret) .skip)) (.seq (.v7 false (.one false (m 122 (x 0)) (.one false (m 123 (x 0)) (.one false (v 124 (.nilCheck (x 123))) (.one false (v 125 (.fieldAddr 20 (x 124))) (.one false (v 126 (.load true 3 (x 125))) (.one false (m 127 (x 0)) (.one false (v 128 (.nilCheck (x 127))) (.one false (v 129 (.fieldAddr 1 (x 128))) (.one false (v 130 (.fieldAddr 10 (x 129))) (.one false (e 131 (.ld (x 130))) (.one true (m 132 (x 6)) (.one true (c 133 308 [(x 122),(x 126),(x 131),(x 132)]) (.done)))))))))))))) (.seq (.ops true [g 2 (i 0)]) .ret)))))))))
def Z3:r6 prog GL [] [1,12,17] 269=some ⟨134,TD,[.tmp 2]⟩:=by kernel_rfl
def Oi{F:List T}{j k:Nat}(h:j<=k)(a:k<=F.length):q3 F j<=q3 F k:=by
 induction k with
 |zero=>rw[rq.1 h];exact ao _
 |succ k ih=>
  rcases gr h with h|rfl
  .have:=ih av av;rw[uE av];omega
  .exact ao _
def Sa(E:aJ)(d:Nat)(w:cm)(o:Op)(b:Name)(s t:fW)(X:List Nat)(R:RX E d w o b s t X)(v a i:Nat)(ab:v<w.O.length)(ad:a<w.O[v].O.length)(bs:i<w.O[v].O[a].O.length)(fa:(dx w).length<=10000)(cb:s=⟨v,a,i⟩)
 (cc:o.ok) (eb:∀t∈o.F,t.length<=10000):
 aI 269 [.bp d 0] E λu _ ch=>L7 d o b s t (EH w o v a i b) u ch:=by
 have ci:=EU E d w o b s t X R v a i ab ad bs cb;subst cb;obtain⟨ed,hx,T,D,fr,fs⟩:=id R;obtain⟨el,cp,f,bu,et,c,eN,c1,pe,p3,bv,_⟩:=si T D ab ad;have e1:=rl E d ed el bu _ _ _ _ v a cp c i hx eN c1 pe;obtain⟨e2,ac,L,a5,TW,fB,TX,a9,c2⟩:=id c1;have c5:L=f:=by
  exact Kj
 rw[c5]at a9 c2;have c6:List.drop (a*2+1) f=bu::a5:=j1 (j:=1) a9 (by simp[V.cells]);have bi:a*2+1<=f.length:=av;obtain⟨pid,a6,bo⟩:∃pid a6,bu=.ms 7 pid 0 w.O[v].O[a].O.length a6:=by
  obtain⟨pid,a6,_,_,_,_,bo,_⟩:=bv.get bs;exact⟨pid,a6,bo⟩
 have bU:=RT o cc;obtain⟨p,br⟩:∃p,w.O[v].O[a].O[i]=p:=⟨_,rfl⟩;have e3:EH w o v a i b=(if 1<=o.n/\o.n<=4/\(i:Int)+o.n<=w.O[v].O[a].O.length/\1<=o.F.length/\o.F.length<=4/\ri o=true then(if q3 o.F o.F.length=o.C.length then(kP w v a i o.n.toNat (wg b p o.F o.C o.F.length),0)else(w,8))else(w,5)):=by
  unfold EH;rw[fF ab ad];simp only[ap,aa bs,bf,br]
 rw[e3];rw[br]at ci;have c7:=bv.one;have gb:=mJ ab ad;have c9:=bv.len;refine bq Z3 rfl ?_;simp only[TD];refine Yw (J:=λt=>t.E=E/\t.G 3=1/\t.loc 3 0=p.v.cells/\t.Z 0=.bp d 0/\t.Z 3=.A 3 0 0/\t.Z 4=I w.O[v].O[a].O.length) ?_ ?_
 .repeat' first|simp only[gE,simprocAttr,hx,p3,c6,bi,c7,c9,Op.c,aK.v,zP,aO,aw,ay,aZ,bx,vv]|refine fg ?_ ?_
  iterate 2
   all_goals try(first|(refine bm (by simp only[sE]<;>done) ci sT ag ?_;rintro _ _ ai ⟨rfl,rfl⟩)|(refine bm (by simp only[sE]<;>done) e1 sT ag ?_;rintro _ _ ai ⟨rfl,rfl⟩))
   repeat' first|simp only[gE,simprocAttr,hx,p3,c6,bi,c7,c9,Op.c,aK.v,zP,aO,aw,ay,aZ,bx,vv]|refine fg ?_ ?_
  all_goals skip
 rintro hc ⟨b2,b3,b5,dd,dg,dp⟩;by_cases P:1<=o.n/\o.n<=4/\(i:Int)+o.n<=w.O[v].O[a].O.length/\1<=o.F.length/\o.F.length<=4/\ri o=true
 .rw[ax P];obtain⟨hd,he,hf,hg,hh,e4⟩:=P;rw[e4]at bU;repeat' first|simp(disch:=omega) only[gE,simprocAttr,b2,dd,dg,dp,b3,b5,hx,aK.v,Op.c,aZ,bx,vv]|refine gz ?_ ?_<;>intro b6 h<;>(try simp only[b6])<;>try omega|refine lq bU ?_
  obtain⟨N,P⟩:∃N:Nat,o.n=N:=⟨o.n.toNat,av⟩;have hi:=cc.2.2.2.2;have fin:q3 o.F o.F.length≠o.C.length->(if q3 o.F o.F.length=o.C.length then(kP w v a i o.n.toNat (wg b p o.F o.C o.F.length),(0:Int))else(w,8)).2=8:=λh=>by rw[an h]
  refine dQ rfl rfl (λ(k:Nat) t=>k<=o.F.length/\q3 o.F k<=o.C.length/\t.Z 87=I k/\t.Z 5=eZ (o.C.drop (q3 o.F k))/\t.E=E/\t.G 3=1/\t.loc 3 0=p.v.cells/\∃a7,t.Z 6=a7/\((k=0/\a7=.aP)\/(0<k/\a7=dv (wg b p o.F o.C k)/\t.fl 6=true))) (λk=>o.F.length-k) 0 ?_ ?_
  .refine⟨aL _,aL _,?_⟩;simp only[da,simprocAttr,b2,b3,b5];exact⟨rfl,_,rfl,.inl rfl⟩
  rintro k z ⟨hj,ds,q,aA,Q,r,y,a7,b7,dF⟩ a8;have aB:z.Z 0=.bp d 0:=(a8 0 dt).trans sT;have aC:z.Z 3=.A 3 0 0:=(a8 3 dt).trans sT;have aD:z.Z 85=e9 o.F:=(a8 85 dt).trans sT;have a0:z.Z 86=I o.F.length:=(a8 86 dt).trans sT;rcases am k o.F.length with H|H
  .have gf:=eb _ (ah H);have c3:=zM o.F[k] av;have a1:(lU 3 (cq o.F[k]) (cq o.F[k]).length).length=gm o.F[k]:=rfl;have a2:=uE H;have a3:q3 o.F (k+1)<=o.C.length->wg b p o.F o.C (k+1)=wg b p o.F o.C k++[k6 b k p o.F[k] ((o.C.drop (q3 o.F k)).take (gm o.F[k]))]:=λh=>by
    rw[Du H,dX ds,dX (by rw[<-a2];exact h),km]
   generalize gm o.F[k]=m at a1 a2 a3;have K:V.sl 3 (List.take ((List.drop (q3 o.F k) o.C).length-m) (List.drop m (List.map ID.v (List.drop (q3 o.F k) o.C))))=V.sl 3 (List.map ID.v (List.drop (q3 o.F (k+1)) o.C)):=by
    rw[az (by simp only[aS,aq];omega),<-gC,dG,a2]
   have c4:=xu E d w o b _ t X k R;have dU:=vf ((o.C.drop (q3 o.F k)).take m) (by rw[aF,aS];omega);have gk:((o.C.drop (q3 o.F k)).length:Int)<m->q3 o.F o.F.length≠o.C.length:=λh e=>by
    have:=Oi (j:=k+1) (k:=o.F.length) H (ao _);rw[aS]at h;omega
   have hle:(¬(o.C.drop (q3 o.F k)).length<m)->q3 o.F (k+1)<=o.C.length:=λh=>by rw[aS]at h;omega
   have hcut:List.take (m-0) (List.map ID.v (List.drop (q3 o.F k) o.C))=List.map ID.v ((o.C.drop (q3 o.F k)).take m):=List.map_take.symm;have gn:=xe b p o.F o.C k;rcases dF with⟨rfl,rfl⟩|⟨gp,rfl,ea⟩
   .repeat' first|simp(disch:=try exact om) only[gE,simprocAttr,E2,q,aA,Q,r,y,b7,aB,aC,aD,a0,a1,aK.v,hcut]|refine cs ?_ ?_<;>intro h<;>try omega|refine lq c3 ?_|refine fg ?_ ?_
    .exact S3
    all_goals
     refine bm (by simp only[sE,Q]<;>done) c4 sT ag ?_;rintro _ _ ai ⟨rfl,a4⟩
    repeat' first|simp(disch:=try exact om) only[gE,simprocAttr,hcut,q,aA,r,y,aB,aC,a4,aK.v]|refine lq dU ?_|refine fg ?_ ?_
    all_goals
     refine⟨0+1,⟨?_⟩,⟨av⟩⟩;refine⟨H,hle (by assumption),?_⟩;simp only[da,simprocAttr,bn,q,r,y,a4];refine⟨K,rfl,_,rfl,.inr ⟨?_,?_⟩⟩
     .exact((ar (λl=>V.sl 7 (l.map aK.v)) (a3 (hle (by assumption)))).trans rfl).symm
     .rfl
   .repeat' first|simp(disch:=try exact om) only[gE,simprocAttr,E2,q,aA,Q,r,y,b7,ea,aB,aC,aD,a0,a1,aK.v,hcut]|refine cs ?_ ?_<;>intro h<;>try omega|refine lq c3 ?_|refine fg ?_ ?_
    .exact S3
    all_goals
     refine bm (by simp only[sE,Q]<;>done) c4 sT ag ?_;rintro _ _ ai ⟨rfl,a4⟩
    repeat' first|simp(disch:=try exact om) only[gE,simprocAttr,va,hcut,q,aA,r,y,ea,aB,aC,a4,aK.v]|refine lq dU ?_|refine fg ?_ ?_
    all_goals
     refine⟨k+1,⟨?_⟩,⟨av⟩⟩;refine⟨H,hle (by assumption),?_⟩;simp only[da,simprocAttr,bn,q,r,y,a4];refine⟨ar (V.int .i64) (by omega),K,rfl,_,rfl,.inr ⟨jV _,?_,?_⟩⟩
     .exact((ar (λl=>V.sl 7 (l.map aK.v)) (a3 (hle (by assumption)))).trans (ar (V.sl 7) aE)).symm
     .rfl
  .obtain rfl:k=o.F.length:=av;rcases dF with⟨hk,_⟩|⟨_,rfl,_⟩
   .omega
   have e5:=vl E d w o b _ t X R v a i N ab ad av av (wg b p o.F o.C o.F.length) (by rw[xe];omega);repeat' first|simp only[gE,simprocAttr,E2,q,aA,Q,r,y,b7,aB,aC,aD,a0,hx,P,Op.c,aZ,bx,vv]|refine cs ?_ ?_<;>intro h<;>try omega
   .exact⟨nE,I 8,_,bz rfl rfl,by
     rw[aS]at h;first|exact⟨rfl,λh=>by cases h⟩|(rw[an av];exact⟨rfl,λh=>by cases h⟩)⟩
   .refine bm (by simp only[sE,Q]<;>done) e5 sT ag ?_;rintro u _ ha ⟨ca,e6⟩;repeat' simp only[gE,simprocAttr]
    have e7:q3 o.F o.F.length=o.C.length:=by
     rw[aS]at h;omega
    exact⟨nE,I 0,_,bz rfl rfl,by(try rw[ax e7]);exact⟨rfl,λ_=>⟨ca,by skip;exact e6⟩⟩⟩
 .rw[an P];repeat' first|simp(disch:=omega) only[gE,simprocAttr,b2,dd,dg,dp,b3,b5,hx,aK.v,Op.c,aZ,bx,vv]|(first|refine cz ?_ ?_|refine gz ?_ ?_)<;>intro b6 h<;>try simp only[b6]|refine lq bU ?_
  all_goals first|exact⟨nE,I 5,_,bz rfl rfl,rfl,λh=>by cases h⟩|exact absurd ⟨by assumption,by assumption,by assumption,av,av,by assumption⟩ P
end Go.Bx
