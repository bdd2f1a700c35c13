/- Lemmas for HistoryBegins. -/
import Derived.Test.YtmbahmpbmcfifaaGreatDoorCi
import Derived.Test.YtmbahmpbmcfifaaGreatDoorCj
import Derived.Test.YtmbahmpbmcfifaaGreatDoorCk
noncomputable section
set_option linter.all false
set_option maxHeartbeats 4000000
set_option maxRecDepth 100000
namespace Go.Bx
open Go.Proofs Go.Proofs.Tryz
attribute [local irreducible] vc er dq b4 bU run iw iI iW i1 iG i2 iX iq iH iZ gA iY cS
def lB.TD{P:Program}{GL:aj}{f:FuncId}{args:List V}{E:aK}{Q o:V->Bool->aK->Prop}(h:lB P GL f args E Q)
 (y:∀v bJ j,Q v bJ j->∃fz a v' d,jE fz j a/\V.lF fz v v'/\(d=true->(bJ=true/\(PF fz v\/v'=v))\/v=.aP)/\o v' d a):lB P GL f args E o:=by
 intro g w z p R A;refine h g w z p R ?_;rintro v x bJ j D q H out;obtain⟨fz,a,v',d,r,hle,t,u⟩:=y v bJ j H;refine A v' x d a (D.cut q fz λ_=>0) q u ⟨out.gF.cut,out.heap.cut r,VR.ur rr (w7 out.heap r.CU) hle out.res,out.step.trans Step.cut,λK=>?_⟩;rcases t K with⟨l,L⟩|l
 .exact((out.tail l).le hle out.res L).cut
 .subst l;exact(dS.nil (.inr hle) out.res).cut
def D4{s:St}{t f n j:Nat}{ag d:Bool}{a a':V}(h:dv s (.load ag n (.tmp t))=some a)(o:dv s (.load d j (.tmp f))=some a')(l:a.dY=false)(l':a'.dY=false):BF.result s [.cell t ag n,.cell f d j]=some (.hJ [a,a'],false):=by
 simp[BF.result,BR.pX,BR.get,h,o,l,l']
def xG(v a:Nat):List aJ->Nat->List (fW×aJ)
 |[],_=>[]
 |p::r,i=>(⟨v,a,i⟩,p)::xG v a r (i+1)
def Cc(v:Nat):List eg->Nat->List (fW×aJ)
 |[],_=>[]
 |x::r,a=>xG v a x.O 0++Cc v r (a+1)
def tJ:List eM->Nat->List (fW×aJ)
 |[],_=>[]
 |x::r,v=>Cc v x.O 0++tJ r (v+1)
def GN(x:fW×aJ):List V:=[x.1.v,x.2.v]
def Cd(v a:Nat):∀(l:List aJ)(i:Nat),sY v a l i=(xG v a l i).map GN
 |[],_=>rfl
 |_::r,i=>by simp only[sY,xG,bt,Cd v a r];rfl
def Ce(v:Nat):∀(l:List eg)(i:Nat),o7 v l i=(Cc v l i).map GN
 |[],_=>rfl
 |x::r,i=>by simp only[o7,Cc,az,Cd,Ce v r]
def qP:∀(l:List eM)(i:Nat),mP l i=(tJ l i).map GN
 |[],_=>rfl
 |x::r,i=>by simp only[mP,tJ,az,Ce,qP r]
def GO(v a:Nat):∀(l:List aJ)(i:Nat),(xG v a l i).map (·.2)=l
 |[],_=>rfl
 |_::r,i=>by simp only[xG,bt,GO v a r]
def GP(v:Nat):∀(l:List eg)(i:Nat),(Cc v l i).map (·.2)=mi l
 |[],_=>rfl
 |x::r,i=>by simp only[Cc,az,GO,GP v r,mi,ck]
def uS:∀(l:List eM)(i:Nat),(tJ l i).map (·.2)=lA l
 |[],_=>rfl
 |x::r,i=>by simp only[tJ,az,GP,uS r,lA,ck]
def zV(a:ID)(l:List (fW×aJ)):Option fW:=(l.find? λx=>decide (x.2.id=a)).map (·.1)
def D5(a:ID)(v k:Nat):∀(l:List aJ)(i:Nat),zV a (xG v k l i)=(oq a i l).map λj=>⟨v,k,j⟩
 |[],_=>rfl
 |p::r,i=>by
  have ih:=D5 a v k r (i+1);unfold zV at ih ⊢
  unfold oq xG;by_cases h:p.id=a
  .rw[ax h,mZ (by simpa using h)];rfl
  .rw[al h,List.find?_cons_of_neg (by simpa using h)];exact ih
def zr(a:ID)(l r:List (fW×aJ)):zV a (l++r)=(zV a l).or (zV a r):=by
 unfold zV;rw[List.find?_append];cases List.find? (λx=>decide (x.2.id=a)) l<;>rfl
def D6(a:ID)(v:Nat):∀(l:List eg)(i:Nat),zV a (Cc v l i)=(oy a i l).map λj=>⟨v,j.1,j.2⟩
 |[],_=>rfl
 |x::r,i=>by
  unfold Cc oy;rw[zr,D5,D6 a v r];cases oq a 0 x.O<;>rfl
def D7(a:ID):∀(l:List eM)(i:Nat),zV a (tJ l i)=(ef a i l).map λj=>⟨j.1,j.2.1,j.2.2⟩
 |[],_=>rfl
 |x::r,i=>by
  unfold tJ ef;rw[zr,D6,D7 a r];cases oy a 0 x.O<;>rfl
def aby:CF GL f43 [100002,100003,4,5] [] 43:=jo
def yB:fK prog 123=true:=by kernel_rfl
def Fh(w:cg):af 88 [w.v] (.fn 123 [.ep [cf w.O]]):=by
 refine pk f88 ?_ [100001];exact aa5
def Cf(w:cg)(a:ID)(a7:w.ok):af 43 [w.v,a.v] (.hJ [(jm (ef a 0 w.O)).v,B (ef a 0 w.O).isSome]):=by
 have aC:=s1 w a7;rw[qP]at aC;have hF:=D7 a w.O 0;have hlen:=aq List.length (uS w.O 0);rw[au]at hlen;generalize tJ w.O 0=L at*
 have a8:=Fh w;refine Pure.gg (by simp only[dx]) (by simp only[dx]) (eN hm aby.ok (bE rfl) ?_);repeat' first|simp only[gE,simprocAttr,HX.act]|refine lq a8 ?_
 refine y4 (f:=123) (cap:=[.ep [cf w.O]]) (items:=L.map GN) (λj E=>E.box 0=some [I 0,I 0,I 0]/\E.box 1=some [B false]/\∀x∈L.take j,x.2.id≠a) ?_ yB aC ?_ rfl rfl ?_ ?_ ?_ ?_
 .exact sT
 .exact Hx
 .simp only[da,simprocAttr];intro x h;simp at h
 .rintro j E it ⟨ab,r,t⟩ ac;rw[bw]at ac;obtain⟨x,hx,rfl⟩:=bS.1 ac;obtain⟨aD,ad⟩:=aH.1 hx;obtain⟨⟨u,y,z⟩,p⟩:=x;unfold GN;by_cases q:p.id=a
  .have a0:ef a 0 w.O≠none/\jm (ef a 0 w.O)=⟨u,y,z⟩:=by
    have o:zV a L=some ⟨u,y,z⟩:=by
     unfold zV;rw[show L=L.take j++L[j]::L.drop (j+1)by conv=>lhs;rw[<-b8 j L,bG aD]];rw[List.find?_append,pr.2 (λx hx=>by simpa using t x hx),ad,mZ (by simpa using q)];rfl
    rw[hF]at o;generalize ef a 0 w.O=R at o ⊢
    rcases R with _|⟨bl,bo,bs⟩
    .simp at o
    .simp only[bF,co]at o;exact⟨bT,o⟩
   have aA:(p.id.J==a.J&&(p.id.seq==a.seq&&p.id.k==a.k))=true:=by subst q;simp
   have a9:(ef a 0 w.O).isSome=true:=by cases h:ef a 0 w.O with|none=>exact absurd h a0.1|some _=>rfl
   rw[a9,a0.2];repeat' simp only[gE,simprocAttr,cR,ab,r,aA]
   refine cJ (n:=3) (cells:=[I 0,I 0,I 0]) ?_ ?_ bT λaB d A D H a1 a2 a3=>?_
   .exact sT
   .exact sT
   have tb:aB.E.box=eQ E.box 0 (some [I u,I y,I z]):=H.trans sT;repeat' simp only[gE,simprocAttr,cR,d,A,D]
   refine cJ (n:=1) (cells:=[B false]) ?_ ?_ bT λK l N P Q a4 a5 a6=>?_
   .simp only[da,simprocAttr,cR,tb,eQ,r]
   .exact sT
   have tc:K.E.box=eQ (eQ E.box 0 (some [I u,I y,I z])) 1 (some [B true]):=by rw[Q];simp only[sE,tb,d];rfl
   repeat' simp only[gE,simprocAttr,cR,l,N,P,d]
   refine⟨nE,.hJ [.agg [I u,I y,I z],B true],false,jH,K.E,_,false,D4 (by simp only[ee,simprocAttr,cR,bx,l,d,tc,eQ]<;>rfl) (by simp only[ee,simprocAttr,cR,bx,l,d,tc,eQ]<;>rfl) rfl rfl,.refl _,?_,λh=>(by cases h),rfl,rfl⟩;exact .refl _
  .have aA:(p.id.J==a.J&&(p.id.seq==a.seq&&p.id.k==a.k))=false:=by
    rw[Bool.eq_false_iff];intro h;simp at h;exact q (ID.F8.2 h)
   repeat' simp only[gE,simprocAttr,cR,ab,r,aA]
   intro x ai;rw[br aD,ad]at ai;rcases aN.1 ai with h|h
   .exact t x h
   .simp at h;subst h;exact q
 .exact Bv kM kM
 .rintro E ⟨ab,r,t⟩;rw[au,bg]at t;have o:zV a L=none:=by unfold zV;rw[pr.2 (λx hx=>by simpa using t x hx)];rfl
  rw[hF]at o;have bi:ef a 0 w.O=none:=by cases h:ef a 0 w.O with|none=>rfl|some _=>rw[h]at o;simp at o
  rw[bi]
  .repeat' simp only[gE,simprocAttr,cR,ab,r]
   refine cJ (n:=3) (cells:=[I 0,I 0,I 0]) ?_ ?_ bT λaB d A D H a1 a2 a3=>?_
   .exact sT
   .exact sT
   have tb:aB.E.box=eQ E.box 0 (some [I 0,I 0,I 0]):=H.trans sT;repeat' simp only[gE,simprocAttr,cR,d,A,D]
   refine cJ (n:=1) (cells:=[B false]) ?_ ?_ bT λK l N P Q a4 a5 a6=>?_
   .simp only[da,simprocAttr,cR,tb,eQ,r]
   .exact sT
   have tc:K.E.box=eQ (eQ E.box 0 (some [I 0,I 0,I 0])) 1 (some [B false]):=by rw[Q];simp only[sE,tb,d];rfl
   repeat' simp only[gE,simprocAttr,cR,l,N,P,d]
   refine⟨nE,.hJ [.agg [I 0,I 0,I 0],B false],false,jH,K.E,_,false,D4 (by simp only[ee,simprocAttr,cR,bx,l,d,tc,eQ]<;>rfl) (by simp only[ee,simprocAttr,cR,bx,l,d,tc,eQ]<;>rfl) rfl rfl,.refl _,?_,λh=>(by cases h),rfl,rfl⟩;exact .refl _
def gu.one{sz:Nat}{h:aK}{v:V}{xs:List V}(hm:gu sz h v xs):v.one=true:=by
 exact Tn
def gu.kf{sz:Nat}{h:aK}{v:V}{xs:List V}(hm:gu sz h v xs):v.cells=[v]:=by
 exact Tn
def yC{w:cg}(d:w.ok):∀p∈dj w,p.ok:=by
 intro p E;obtain⟨v,f,j⟩:=dC.1 E;obtain⟨a,l,o⟩:=dC.1 j;exact((d.2.1 v f).2 a l).2.2 p o
def ZX:CF GL f41 [100001,3,14] [] 41:=jo
def Cg(w:cg)(N:w.ok):af 41 [w.v] (dA (dj w)):=by
 have P:=s1 w N;rw[qP]at P;have hS:=uS w.O 0;have Q:=yC N;have hlen:=aq List.length hS;rw[au]at hlen;have hle:=N.2.2;have hlen:(tJ w.O 0).length=(dj w).length:=hlen;replace hS:List.map (·.2) (tJ w.O 0)=dj w:=hS;generalize tJ w.O 0=L at*
 generalize dj w=A at*
 have a3:=Fh w;refine Pure.gg (by simp only[dx]) (by simp only[dx]) (eN hm ZX.ok (bE rfl) ?_);repeat any_goals first|simp only[gE,simprocAttr,HX.act]|refine lq a3 ?_
 refine y4 (f:=123) (cap:=[.ep [cf w.O]]) (items:=L.map GN) (λj E=>0<E.Y/\∃v,E.box 0=some [v]/\gu 7 E v ((A.take j).map aJ.v)/\bI v≠some 0) ?_ yB P ?_ rfl rfl ?_ ?_ ?_ ?_
 .exact sT
 .intro it h;obtain⟨x,_,rfl⟩:=cB.1 h;rfl
 .simp only[da,simprocAttr]
  and_intros
  all_goals exact⟨_,rfl,gu.nil,by simp[bI]⟩
 .rintro j E it ⟨R,v,r,t,u⟩ D;rw[bw]at D;obtain⟨x,hx,rfl⟩:=bS.1 D;obtain⟨bY,bo⟩:=aH.1 hx;have ab:A[j]?=some x.2:=by rw[<-hS,bw,hx];rfl
  obtain⟨H,d⟩:=aH.1 ab;obtain⟨⟨b2,b3,b5⟩,p⟩:=x;simp only at d;have ac:=Q p (d▸ah H);have a4:=Fc p ac;have a5:=t.one;unfold GN;repeat any_goals first|simp only[gE,simprocAttr,cR,r]|refine lq a4 ?_|refine e9 ?_ ?_
  all_goals
   refine iR (xs:=(A.take j).map aJ.v) (ys:=[p.v]) ?_ ?_ ?_ ?_ ?_ rfl ?_ ?_ λz a o hb a6=>?_
   .exact sT
   .exact sT
   .intro y ad;simp at ad;subst ad;rfl
   .exact sT
   .simp only[da,simprocAttr];intro l a7;cases a7
   .exact PQ
   .intro _ a8;cases a8
   have a9:=o.one;have ai:=o.kf;have aA:a.box 0=some [v]:=by
    rw[hb.box 0 (by(try simp only[sE,simprocAttr]);exact R) (by(try simp only[sE,simprocAttr]);exact u)]
    (try simp only[sE,simprocAttr]);exact r
   have bs:E.Y<=a.Y:=by have:=hb.Y;revert this;simp only[sE,simprocAttr];exact id
   have K:bI z=bI v\/bI z=some E.Y:=by revert a6;simp only[sE,simprocAttr];exact id
  all_goals repeat any_goals simp only[gE,simprocAttr,cR]
  all_goals
   refine cJ (n:=1) (cells:=[v]) ?_ ?_ bT λaB aC aD a0 a1 bu a2 bv=>?_
   .simp only[da,simprocAttr,cR];exact aA
   .simp only[sE,simprocAttr];simp only[jW,ai];simp[a9]
   have tb:aB.E.box=eQ a.box 0 (some [z]):=by rw[a1];simp only[sE,simprocAttr];rw[ai];rfl
   have b6:aB.E.Y=a.Y:=by rw[a2];simp only[sE,simprocAttr]
  all_goals repeat any_goals simp only[gE,simprocAttr,cR,aC,aD,a0]
  all_goals
   refine⟨av,z,by rw[tb,bh],?_,?_⟩
   .rw[br H,d,az];refine gu.frame o (λi q=>?_) av;rw[tb,bD];rintro rfl;rcases K with h|h
    .exact u (h.symm.trans q)
    .rw[h]at q;have:=ar q;omega
   .rcases K with h|h
    .rw[h];exact u
    .rw[h];intro bi;have:=ar bi;omega
 .exact kM
 .rintro E ⟨R,v,r,t,u⟩;have a5:=t.one;repeat any_goals simp only[gE,simprocAttr,cR,r]
  have bl:(L.map GN).length=A.length:=by rw[au,hlen]
  rw[bl,bg]at t;exact⟨nE,yk rfl sT⟩
def Ch{P:Program}{GL:aj}{d:Option Nat}{pu:Bool}{r:List BI}{K:St->Prop}{s:St}{z:V}{sz:Nat}{fA:aK}(a:s.E=fA)
 (h:gA P GL d pu r s K (.ms sz fA.Y 0 0 0) false (fA.cO [])):(MX.Tt sz z 0 []).wp s (gA P GL d pu r s K):=by
 subst a;simp only[MX.wp,iQ,lM,cV,jf];exact h
def gu.ZY{h:aK}{v:V}{l:List aJ}(hm:gu 7 h v (l.map aJ.v)):ce 7 RP h v l (bI v).toList:=by
 refine⟨l.map aJ.v,l.map λ_=>[],hm,au _,au _,λi x a o d f j=>?_,?_⟩
 .rw[bw,f]at d;rw[bw,f]at j;exact⟨(ar d).symm,(ar j).symm⟩
 .have:(l.map λ_:aJ=>([]:List Nat)).flatten=[]:=by induction l<;>simp_all
  rw[this,cD]
def VG:CF GL f116 [5,7] [] 116:=jo
def OA(l:List aJ)(E:aK)(p:l.length<=1000000):aI 116 [dA l] E λv _ d=>∃X,ce 7 RP d v l X/\X.Nodup/\bA none E d/\∀i∈X,E.Y<=i:=by
 refine bq VG.ok rfl ?_;repeat' first|refine k7 ?_|(refine tR (by simp only[pY]<;>rfl) (by simp only[da]<;>rfl) ?_ (λh=>?_))
 .refine Ch (fA:=E) sT ?_;have A:gu 7 (E.cO []) (.ms 7 E.Y 0 0 0) []:=⟨(by intro x hx;cases hx),.inr ⟨E.Y,0,[],rfl,dn _,by simp[aK.cO,eQ,b9],an _,rfl⟩⟩;repeat' simp only[gE,simprocAttr]
  refine iR (xs:=[]) (ys:=l.map aJ.v) ?_ ?_ ?_ ?_ ?_ rfl ?_ ?_ λf d q hb a=>?_
  .exact sT
  .exact sT
  .exact lG.map (λy=>rfl) _
  .exact sT
  .simp only[da];intro l p;cases p
  .simp only[au,aX];omega
  .simp only[da];intro t;cases t
  have j:gu 7 d f (l.map aJ.v):=by simpa using q
  have o:bI f=some E.Y\/bI f=some (E.Y+1):=by revert a;simp only[da];exact id
  have r:bA none E d:=by
   revert hb
   simp only[da,simprocAttr];intro hb;have u:=hb.Y;simp only[aK.cO]at u;exact⟨λi a _=>by rw[hb.box i (by simp only[aK.cO];omega) (by simp[bI];omega)];simp only[aK.cO];exact bD _ _ (ct a),λi a=>by rw[hb.mp i (by simp only[aK.cO];omega)];rfl,av⟩
  repeat' simp only[gE,simprocAttr]
  refine⟨nE,_,_,bC rfl j.gD,(bI f).toList,?_,?_,?_,?_⟩
  .exact j.ZY
  .rcases o with h|h<;>rw[h]<;>simp
  .exact r
  .intro i a;rcases o with h|h<;>rw[h]at a<;>simp at a<;>omega
 .have z:l=[]:=by simpa using h
  subst z;exact⟨nE,.aP,_,bC rfl rfl,[],ce.nil,jR,⟨λ_ _ _=>rfl,λ_ _=>rfl,an _⟩,λi a=>(by cases a)⟩
def ce.R7{α:Type}{R:aK->V->α->List Nat->Prop}{sz:Nat}{h:aK}{v:V}{l:List α}{X:List Nat}(T:ce sz R h v l X){i:Nat}(e:bI v=some i):i∈X:=by obtain⟨a,is,_,_,_,_,rfl⟩:=T;simp[e]
def abz:CF GL f77 [100001,49,56] [9] 77:=jo
def Kj(w:cg)(hy:w.ok)(fA:aK):aI 77 [w.v] fA λv _ E=>∃X,RW E v w X/\X.Nodup/\bA none fA E/\∀i∈X,fA.Y<=i:=by
 obtain⟨w⟩:=w;obtain⟨hz,hc,h5⟩:=hy;simp only at hz;refine bq abz.ok rfl ?_;repeat' simp only[dt,simprocAttr]
 refine dT rfl rfl (λ(n:Nat) t=>n<=w.length/\t.Z 15=I n/\t.G 2=1/\t.loc 2 0=[.aP]/\t.G 3=1/\bA none fA t.E/\∃D X,t.loc 3 0=[D]/\ce 1 RV t.E D (w.take n) X/\X.Nodup/\∀i∈X,fA.Y<=i) (λn=>w.length-n) 0 ?_ ?_
 .refine⟨aL _,?_⟩;simp only[da,simprocAttr]
  and_intros
  all_goals first|exact⟨λ_ _ _=>rfl,λ_ _=>rfl,an _⟩|exact⟨.aP,[],rfl,ce.nil,jR,λi d=>(by cases d)⟩
 rintro n t ⟨hd,c7,c9,dd,df,hB,D,X,e7,T1,he,fa⟩ b7;have hf:t.Z 1=.ep [cf w]:=by rw[b7 1 du];rfl
 have fr:t.Z 2=.lp 2 0 0:=by rw[b7 2 du];rfl
 have hg:t.Z 3=.lp 3 0 0:=by rw[b7 3 du];rfl
 have ed:t.Z 13=cf w:=by rw[b7 13 du];rfl
 have el:t.Z 14=I w.length:=by rw[b7 14 du];rfl
 rcases am n w.length with K|K
 .repeat' first|simp(disch:=try exact om) only[dt,simprocAttr,c7,c9,dd,df,e7,hf,fr,hg,ed,el,K]|refine cs ?_ ?_<;>intro h<;>try omega
  refine dT rfl rfl (λ(m:Nat) u=>m<=w[n].O.length/\u.Z 22=I m/\u.G 2=1/\u.loc 2 0=[.aP]/\u.G 3=1/\u.loc 3 0=[D]/\ce 1 RV u.E D (w.take n) X/\bA none fA u.E/\
   t.G 6<u.G 6/\∃aA o,u.loc 6 (t.G 6)=[aA]/\ce 2 RA u.E aA (w[n].O.take m) o/\(X++o).Nodup/\∀i∈o,fA.Y<=i) (λm=>w[n].O.length-m) 0 ?_ ?_
  .refine⟨aL _,?_⟩;simp only[da,simprocAttr,c7,c9,dd,df,e7]
   and_intros
   all_goals first|exact T1|exact hB|exact⟨V.aP,[],rfl,ce.nil,by simpa using he,λi d=>(by cases d)⟩
  rintro m u ⟨h6,a9,bi,m4,m5,m6,a0,H,bl,aA,o,m10,ca,fs,fB⟩ q;have ih:=(hc w[n] (ah K)).1;have cb:u.Z 2=.lp 2 0 0:=(q 2 du).trans sT;have cc:u.Z 3=.lp 3 0 0:=(q 3 du).trans sT;have L:u.Z 13=cf w:=(q 13 du).trans sT;have N:u.Z 14=I w.length:=(q 14 du).trans sT;have P:u.Z 15=I n:=(q 15 du).trans sT;have ch:u.Z 6=.lp 6 (t.G 6) 0:=(q 6 du).trans sT;have Q:u.Z 20=mC w[n].O:=(q 20 du).trans sT;have R:u.Z 21=I w[n].O.length:=(q 21 du).trans sT;rcases am m w[n].O.length with z|z
  .have hh:=(hc w[n] (ah K)).2 _ (ah z);have hD:=hh.2.1;have hF:=λE=>OA w[n].O[m].O E hD;repeat' first|simp(disch:=try exact om) only[dt,simprocAttr,a9,bi,m4,m5,m6,bl,m10,cb,cc,L,N,P,ch,Q,R,K,z]|refine cs ?_ ?_<;>intro h<;>try omega
   refine bz rfl (hF _) ?_ ?_ ?_
   .rfl
   .refine mV ?_;simp only[ee]<;>rfl
   rintro r bJ ci ⟨aB,cp,hi,aC,c1⟩
   revert aC c1
   simp only[da,simprocAttr,bQ];intro aC c1;have hj:=ce.same vG p7 a0 aC (λi d e=>by cases e);have hk:=ce.same ym wv ca aC (λi d e=>by cases e);have hH:=cp.len;have hl:=ce.vF p7 _ _ _ _ a0;have et:=ce.vF wv _ _ _ _ ca;have ab:((X++o)++aB).Nodup:=aO.2 ⟨fs,hi,λi d j ac e=>by
    have:=c1 j ac;rcases aN.1 d with h|h
    .have:=hl i h;omega
    .have:=et i h;omega⟩
   have hn:fA.Y<=u.E.Y:=H.Y;have ad:bA none fA ci:=⟨λi d l=>by rw[aC.box i av l,H.box i d l],λi d=>by rw[aC.mp i av,H.mp i d],aT hn aC.Y⟩;repeat' simp only[gE,simprocAttr,hH,a9,bi,m4,m5,m6,bl,m10,cb,cc,L,N,P,ch,Q,R]
   refine dT rfl rfl (λ(j:Nat) y=>j<=w[n].O[m].O.length/\y.Z 31=I j/\y.G 2=1/\y.loc 2 0=[.aP]/\y.G 3=1/\y.loc 3 0=[D]/\t.G 6<y.G 6/\y.loc 6 (t.G 6)=[aA]/\
    u.G 8<y.G 8/\y.loc 8 (u.G 8)=[S w[n].O[m].gR,dA w[n].O[m].O]/\ce 7 RP y.E r w[n].O[m].O aB/\bA (bI r) ci y.E) (λj=>w[n].O[m].O.length-j) 0 ?_ ?_
   .refine⟨aL _,?_⟩;simp only[da,simprocAttr,a9,bi,m4,m5,m6,bl,m10]
    and_intros
    all_goals first|rfl|exact cp|exact⟨λ_ _ _=>rfl,λ_ _=>rfl,an _⟩
   rintro j y ⟨io,bo,bs,bu,bv,bY,b2,b3,b5,A,a1,ai⟩ f;have dr:y.Z 2=.lp 2 0 0:=(f 2 du).trans sT;have ds:y.Z 3=.lp 3 0 0:=(f 3 du).trans sT;have U3:y.Z 13=cf w:=(f 13 du).trans sT;have a2:y.Z 14=I w.length:=(f 14 du).trans sT;have a3:y.Z 15=I n:=(f 15 du).trans sT;have dE:y.Z 6=.lp 6 (t.G 6) 0:=(f 6 du).trans sT;have a4:y.Z 20=mC w[n].O:=(f 20 du).trans sT;have a5:y.Z 21=I w[n].O.length:=(f 21 du).trans sT;have a6:y.Z 22=I m:=(f 22 du).trans sT;have dU:y.Z 8=.lp 8 (u.G 8) 0:=(f 8 du).trans sT;have ea:y.Z 9=r:=(f 9 du).trans sT;have a7:y.Z 29=r:=(f 29 du).trans sT;have a8:y.Z 30=I w[n].O[m].O.length:=(f 30 du).trans sT;rcases am j w[n].O[m].O.length with ac|ac
   .obtain⟨id,c,cells,x,js,rest,q1,it,hK,hM,jA,jB,⟨rfl,rfl⟩,j2,j3,j4,h3,hO,_⟩:=ce.at Lw N5 a1 hi ac;have hQ:=Fc w[n].O[m].O[j] (hh.2.2 _ (ah ac));have ho:List.take 7 (List.drop (j*7) cells)=(aJ.v w[n].O[m].O[j]).cells:=by rw[hM];rfl
    simp only[aJ.v,V.cells]at ho;have hR:j*7<=cells.length:=av;repeat' first|simp(disch:=try exact om) only[gE,simprocAttr,bo,bs,bu,bv,bY,b2,b3,b5,A,dr,ds,U3,a2,a3,dE,a4,a5,a6,dU,ea,a7,a8,ac,q1,hK,ho,hR]|refine cs ?_ ?_<;>intro h<;>try omega|refine lq hQ ?_
    refine cJ (n:=7) (cells:=cells) ?_ ?_ av λc2 eK e1 e2 hq hr hs e3=>?_
    .exact sT
    .exact sT
    have tb:c2.E.box=eQ y.E.box id (some (aQ cells (j*7) (aJ.v w[n].O[m].O[j]).cells)):=hq.trans sT;have tp:c2.E.mp=y.E.mp:=hr.trans sT;have ht:c2.E.Y=y.E.Y:=hs.trans sT;obtain⟨p,hu,gb⟩:=hO c2.E (aJ.v w[n].O[m].O[j]) w[n].O[m].O[j] [] (c0 ht.symm) (by rw[tb,bh]) (λj ac hd c7=>by rw[tb,bD _ _ hd]) rfl ⟨rfl,rfl⟩;rw[gb rfl,iA]at hu;have hS:bA (bI r) ci c2.E:=⟨λi d l=>by rw[tb,bD _ _ (by rintro rfl;exact l (by rw[q1];rfl))];exact ai.box i d l,λi d=>by rw[tp];exact ai.mp i d,by rw[ht];exact ai.Y⟩;repeat' simp(disch:=omega) only[gE,simprocAttr,eK,e1,e2,e3,bo,bs,bu,bv,bY,b2,b3,b5,A]
    refine⟨j+1,⟨?_⟩,⟨av⟩⟩;simp only[da,simprocAttr,eK,e1,e2,e3,bo,bs,bu,bv,bY,b2,b3,b5,A]
    and_intros
    all_goals first|rfl|exact ac|(rw[<-q1];exact hu)|(rw[<-q1];exact hS)
   .have e4:=aO.1 ab;have e5:=ce.same ym wv hk ai (λi d e=>e4.2.2 i (aU _ d) i (cp.R7 e) rfl);have e6:=ce.same vG p7 hj ai (λi d e=>e4.2.2 i (bV _ d) i (cp.R7 e) rfl);have b6:bA none fA y.E:=⟨λi d l=>by
     rw[ai.box i (bj d ad.Y) (λe=>by have:=c1 i (cp.R7 e);omega),ad.box i d l],λi d=>by rw[ai.mp i (bj d ad.Y),ad.mp i d],aT ad.Y ai.Y⟩
    have o3:=a1.one;obtain⟨h0,j5⟩:=a1.cells;have o2:=e5.one;repeat' first|simp only[dt,simprocAttr,bo,bs,bu,bv,bY,b2,b3,b5,A,dr,ds,U3,a2,a3,dE,a4,a5,a6,dU,ea,a7,a8,o2,o3,h0]|refine cs ?_ ?_<;>intro h<;>try omega
    refine oX (e:=.agg [S w[n].O[m].gR,r]) (fA:=y.E) (v0:=aA) (a:=w[n].O[m]) (js:=aB) ym wv ?_ ?_ ?_ e5 ?_ ⟨r,rfl,a1⟩ (by rw[aF]at ab;exact(aO.1 ab).2.1) rfl (by rw[aG];omega) λv c5 p g1 gf eb g4 g5=>?_
    .exact sT
    .exact sT
    .exact sT
    .exact Tb
    obtain⟨aD,hv⟩:=g1.cells;have c6:=g1.one;have h4:=et;have hw:=ce.same vG p7 e6 g4 (λi d e=>(aO.1 fs).2.2 i d i (g5 i e) rfl);have gk:bA none fA c5:=⟨λi d l=>by
     rw[g4.box i (bj d b6.Y) (λe=>by have:=fB i (g5 i e);omega),b6.box i d l],λi d=>by rw[g4.mp i (bj d b6.Y),b6.mp i d],aT b6.Y g4.Y⟩
    have gn:∀i∈p,fA.Y<=i:=λi d=>by
     rcases eb i d with h|h|rfl
     .exact fB i h
     .have:=c1 i h;omega
     .exact b6.Y
    have gp:=ce.vF p7 _ _ _ _ e6;repeat' simp(disch:=omega) only[gE,simprocAttr,bo,bs,bu,bv,bY,b2,b3,b5,A,dr,ds,U3,a2,a3,dE,a4,a5,a6,dU,ea,a7,a8,aD,c6]
    refine⟨m+1,⟨?_⟩,⟨av⟩⟩;rw[aF]at ab;have h2:=sP ab gf (n:=y.E.Y) gp eb;try simp only[da,bo,bs,bu,bv,bY,b2,b3,b5,A,dr,ds,U3,a2,a3,dE,a4,a5,a6,dU,ea,a7,a8,aD,c6]
    rw[br z]
    and_intros
    all_goals first|rfl|exact z|exact hw|exact gk|exact⟨v,p,rfl,g1,h2,gn⟩
  .have o2:=ca.one;have ha:=a0.one;repeat' first|simp only[dt,simprocAttr,a9,bi,m4,m5,m6,bl,m10,cb,cc,L,N,P,ch,Q,R,ha,o2]|refine cs ?_ ?_<;>intro h<;>try omega
   rw[aE z]at ca;refine oX (e:=.agg [aA]) (fA:=u.E) (v0:=D) (a:=w[n]) (js:=o) vG p7 ?_ ?_ ?_ a0 ?_ ⟨aA,rfl,ca⟩ fs rfl (by rw[aG];omega) λv c5 p g1 gf eb g4 g5=>?_
   .exact sT
   .exact sT
   .exact sT
   .exact Tc
   obtain⟨aD,hv⟩:=g1.cells;have c6:=g1.one;have gk:bA none fA c5:=⟨λi d l=>by
    rw[g4.box i (bj d H.Y) (λe=>by have:=fa i (g5 i e);omega),H.box i d l],λi d=>by rw[g4.mp i (bj d H.Y),H.mp i d],aT H.Y g4.Y⟩
   have gn:∀i∈p,fA.Y<=i:=λi d=>by
    rcases eb i d with h|h|rfl
    .exact fa i h
    .exact fB i h
    .exact H.Y
   repeat' simp(disch:=omega) only[gE,simprocAttr,a9,bi,m4,m5,m6,bl,m10,cb,cc,L,N,P,ch,Q,R,aD,c6]
   refine⟨n+1,⟨?_⟩,⟨av⟩⟩;simp only[da,simprocAttr,a9,bi,m4,m5,m6,bl,m10,cb,cc,L,N,P,ch,Q,R,aD,c6];rw[br K]
   and_intros
   all_goals first|rfl|exact K|exact gk|exact⟨v,p,rfl,g1,gf,gn⟩
 .have ha:=T1.one;obtain⟨aD,hv⟩:=T1.cells;repeat' first|simp only[dt,simprocAttr,c7,c9,dd,df,e7,hf,fr,hg,ed,el,ha,aD]|refine cs ?_ ?_<;>intro h<;>try omega
  rw[aE K]at T1;refine⟨nE,.agg [D],false,eA (by simp only[ee,simprocAttr,fr,c9,dd,df]<;>rfl) rfl,X,⟨D,rfl,?_⟩,he,?_,fa⟩
  .exact sT
  .exact sT
def si{h:aK}{y:V}{w:cg}{X:List Nat}(T:RW h (.agg [y]) w X)(D:X.Nodup){v a:Nat}(L:v<w.O.length)(R:a<w.O[v].O.length):
 ∃z f d pv o c,za h 1 y w.O.length v (.agg [z])/\za h 2 z w.O[v].O.length a (.agg [S w.O[v].O[a].gR,pv])/\z=.ms 2 f 0 w.O[v].O.length c/\h.box f=some d/\
  ce 7 RP h pv w.O[v].O[a].O o/\o.Nodup/\f∉o/\f∈X/\(∀j∈o,j∈X)/\
  ∀(q:aK)(r:V)(l':List aJ)(l:List Nat),h.Y<=q.Y->q.box f=some (aQ d (a*2) [S w.O[v].O[a].gR,r])->(∀j,j∈X->j≠f->j∉o->q.box j=h.box j)->
   ce 7 RP q r l' l->l.Nodup->(∀j∈l,j∈o\/h.Y<=j)->∃p,RW q (.agg [y]) (k3 w v a ⟨w.O[v].O[a].gR,l'⟩) p/\p.Nodup/\∀j∈p,j∈X\/h.Y<=j:=by
 obtain⟨ab,e,a5⟩:=T;obtain rfl:y=ab:=by cases e;rfl
 obtain⟨ad,ai,t,cc,ch,A,rfl,ci,a6,a7,a8,cp,⟨z,rfl,a9⟩,bi,c1,c2,N,c5,bl⟩:=a5.WA vG p7 D L;obtain⟨f,ac,d,xa,bo,H,rfl,q1,aA,bs,bu,c6,⟨pv,rfl,bv⟩,bY,b2,aB,aC,b3,c7⟩:=a9.WA ym wv bi R;refine⟨_,f,d,pv,bo,ac,⟨ad,ai,t,A,rfl,L,a6,a7,a8⟩,⟨f,ac,d,H,rfl,R,aA,bs,bu⟩,rfl,aA,bv,bY,b2,N _ aB,λj u=>N j (aC j u),?_⟩;intro q r l' l aD a0 a1 a2 a3 P;obtain⟨a4,b5,b6,b7⟩:=b3 q (.agg [S w.O[v].O[a].gR,r]) ⟨w.O[v].O[a].gR,l'⟩ l aD a0 (λj u K Q=>a1 j (N j u) K Q) (by simp only[jW,V.cells,aM,aX,bR,cm,a2.one];rfl) ⟨r,rfl,a2⟩ a3 P;obtain⟨p,T1,ca,cb⟩:=bl q ⟨w.O[v].O.set a ⟨w.O[v].O[a].gR,l'⟩⟩ a4 aD (λj u K=>a1 j u (λe=>K (e▸aB)) (λQ=>K (aC j Q))) ⟨_,rfl,b5⟩ b6 b7;refine⟨p,⟨_,rfl,?_⟩,ca,cb⟩;rw[k3,ap,aa L];exact T1
def RX(E:aK)(a:Nat)(w:cg)(o:Op)(b:Name)(s t:fW)(X:List Nat):Prop:=
 ∃d,E.box a=some (d::(o.c++[I b.J,I b.seq,I s.i9,I s.k0,I s.idx,I t.i9,I t.k0,I t.idx]))/\RW E (.agg [d]) w X/\X.Nodup/\a∉X/\a<E.Y
def ZZ:CF GL f311 [] [] 311:=jo
def Z0:CF GL f307 [] [] 307:=jo
def Z1:CF GL f309 [] [1] 309:=jo
def Z2:CF GL f308 [] [1,2] 308:=jo
def Z3:CF GL f306 [] [1,4] 306:=jo
def Z4:CF GL f305 [] [] 305:=jo
def rf(E:aK)(o:Nat)(q p pv:V)(r:List V)(t:T)(n m v a f c:Nat)(i:Int)(hx:E.box o=some (q::r))(K:za E 1 q n v (.agg [p]))(L:za E 2 p m a (.agg [S t,pv]))(e:p=.ms 2 f 0 m c):
 aI 311 [.bp o 0,.agg [I v,I a,I i]] E λu _ N=>u=.bp f (a*2+1)/\N=E:=by
 obtain⟨ab,ad,d,l,rfl,ai,y,z,aA⟩:=K;obtain⟨P,ac,A,H,rfl,aB,D,aC,aD⟩:=L;cases e;have Q:List.drop (v*1+0) d=V.ms 2 f 0 m c::l:=kc (j:=0) z (aL _);have R:v*1+0<=d.length:=av;refine bq ZZ.ok rfl ?_;repeat' simp(disch:=omega) only[gE,simprocAttr,hx,y,D,Q,R]
 exact⟨nE,.bp f (a*2+1),_,bC rfl rfl,bT⟩
def xH(E:aK)(a:Nat)(w:cg)(o:Op)(b:Name)(s t:fW)(X:List Nat)(k:Int)(R:RX E a w o b s t X):aI 307 [.bp a 0,I k] E λu _ d=>u=(ID.v ⟨b.J,b.seq,k⟩)/\d=E:=by
 obtain⟨f,hx,_⟩:=R;refine bq Z0.ok rfl ?_;repeat' simp only[gE,simprocAttr,hx,Op.c,aZ,bm]
 exact⟨nE,.agg [I b.J,I b.seq,I k],false,eA (by simp only[ee,bx,hx,Op.c,aZ,bm,cy,cd]<;>rfl) rfl,by rfl⟩
def vJ(a b c:Int)(r:List V):List.take 3 (I a::I b::I c::r)=[I a,I b,I c]:=rfl
def Fi(E:aK)(l:Nat)(w:cg)(o:Op)(b:Name)(s t:fW)(X:List Nat)(R:RX E l w o b s t X)(v a i:Nat)(ab:v<w.O.length)(ad:a<w.O[v].O.length)(ai:i<w.O[v].O[a].O.length)(aA:s=⟨v,a,i⟩):
 aI 309 [.bp l 0] E λu _ aB=>u=(w.O[v].O[a].O[i]).v/\aB=E:=by
 subst aA;obtain⟨aC,hx,T,D,_⟩:=R;obtain⟨aD,y,d,a0,a1,c,a2,z,pe,p3,a3,_⟩:=si T D ab ad;have a4:=rf E l aC aD a0 _ _ _ _ v a y c i hx a2 z pe;obtain⟨a5,ac,f,q,Ub,a7,Uc,r,A⟩:=z;have H:f=d:=by
  exact KH
 rw[H]at r A;obtain⟨pid,a6,p,x,a8,Q,rfl,a9,K,g4,g5,g6,⟨rfl,rfl⟩,bi,bl⟩:=a3.get ai;have L:List.drop (a*2+1) d=.ms 7 pid 0 w.O[v].O[a].O.length a6::q:=kc (j:=1) r (by simp[V.cells]);have N:a*2+1<=d.length:=av;have P:i*7<=p.length:=av;refine bq Z1.ok rfl ?_;repeat' first|simp only[gE,simprocAttr,hx,Op.c,fW.v,aZ,bm,vJ]|refine e9 ?_ ?_
 all_goals
  refine bz rfl a4 ?_ ?_ ?_
  .rfl
  .refine mV ?_;simp only[ee]<;>rfl
  rintro _ _ _ ⟨rfl,rfl⟩;repeat' simp(disch:=omega) only[gE,simprocAttr,hx,p3,L,N,K,g4,P,Op.c,aJ.v,Zs,ok7,aZ,bm,vJ]
  exact⟨nE,(w.O[v].O[a].O[i]).v,false,eA (by simp only[ee,bx,bQ,hx,p3,L,N,K,g4,P,Op.c,aJ.v,Zs,ok7,aZ,bm,cy,cd,bP,vJ]<;>rfl) rfl,rfl⟩
def ce.WD{h:aK}{v:V}{l:List aJ}{X:List Nat}(T:ce 7 RP h v l X):gu 7 h v (l.map aJ.v):=by
 obtain⟨d,is,f,j,q,o,_⟩:=T;have e:d=l.map aJ.v:=by
  refine nl (by simpa using j) λi a b=>?_;have p:i<l.length:=by simpa using b
  rw[dK];exact(o i _ _ _ (aa a) (aa p) (aa av)).1
 rwa [e]at f
def vr(E:aK)(p:Nat)(w:cg)(o:Op)(b:Name)(s t:fW)(X:List Nat)(R:RX E p w o b s t X)(v a i n:Nat)(a2:v<w.O.length)(a3:a<w.O[v].O.length)(b2:i+n<=w.O[v].O[a].O.length)(a4:w.O[v].O[a].O.length<=1000000)(l:List aJ)(b3:l.length<=1000000):
 aI 308 [.bp p 0,.agg [I v,I a,I i],I n,dA l] E λ_ _ a5=>∃q,RX a5 p (kO w v a i n l) o b s t q:=by
 obtain⟨a6,hx,T,D,H,aA⟩:=R;obtain⟨b5,f,d,ad,b6,c,b7,a7,pe,p3,K,dd,ca,ma,a0,put⟩:=si T D a2 a3;have cb:=rf E p a6 b5 ad _ _ _ _ v a f c i hx b7 a7 pe;have L:=K.WD;have cc:=Rq ad _ (l.map aJ.v) i n E L (by simpa using b2) (lG.map (λy=>rfl) _) (by simpa using a4) (by simpa using b3);obtain⟨ch,ac,A,ai,Ub,c9,Uc,N,a8⟩:=a7;have a9:A=d:=by
  exact KH
 rw[a9]at N a8;have bi:List.drop (a*2+1) d=ad::ai:=kc (j:=1) N (by simp[V.cells]);have bl:a*2+1<=d.length:=av;have bo:=Vf _ _ _ _ T;have bs:=L.one;have o2:=L.gD;have aB:((i:Int)+n)=((i+n:Nat):Int):=av;refine bq Z2.ok rfl ?_;repeat' simp only[gE,simprocAttr]
 refine bz rfl cb ?_ ?_ ?_
 .rfl
 .refine mV ?_;simp only[ee]<;>rfl
 rintro _ _ _ ⟨rfl,rfl⟩;repeat' first|simp(disch:=omega) only[gE,simprocAttr,p3,bi,bl,bs,o2,aB]|refine e9 ?_ ?_
 all_goals
  refine bz rfl cc ?_ ?_ ?_
  .exact Yq
  .refine mV ?_;simp only[ee]<;>rfl
  rintro r _ u ⟨P,hb,aC⟩;have bu:=P.one;have ci:=P.gD;have aD:bI ad≠some f:=λe=>ca (K.R7 e);have a1:=bo f ma;have df:u.box f=some d:=by rw[hb.box f a1 aD];exact p3
  repeat' simp only[gE,simprocAttr,p3,bi,bl,bs,o2,bu,ci,aB]
  refine cJ (n:=1) (off:=a*2+1) (cells:=d) ?_ ?_ av λt te tc tl tb tm cp dr=>?_
  .exact sT
  .simp only[sE];simp[jW,P.kf,bu]
  have z:t.E.box=eQ u.box f (some (aQ d (a*2+1) [r])):=by
   rw[tb];simp only[da,simprocAttr,bQ];rw[P.kf]
  have Q:t.E.Y=u.Y:=cp.trans sT;repeat' simp only[gE,simprocAttr,te,tc,tl]
  have bv:p≠f:=λe=>H (e▸ma);have bY:∀j,bI r=some j->t.E.box j=u.box j:=λj ab=>by
   rw[z];refine bD _ _ ?_;rintro rfl;rcases aC j ab with h|h
   .exact aD h
   .omega
  obtain⟨q,c1,c2,c5⟩:=put t.E r (w.O[v].O[a].O.take i++l++w.O[v].O[a].O.drop (i+n)) (bI r).toList (by rw[Q];exact hb.Y)
   (by rw[z,bh];exact aq some (JK N).symm)
   (λj ab c6 c7=>by rw[z,bD _ _ c6];exact hb.box j (bo j ab) (λe=>c7 (K.R7 e)))
   (gu.ZY (by rw[az,az,jw,gG];exact P.frame bY (by rw[Q];exact an _)))
   (by cases bI r<;>simp) (λj ab=>by
    rcases aC j (by simpa using ab)with h|h
    .exact .inl (K.R7 h)
    .exact .inr h)
  refine⟨nE,.hJ [],_,rfl,q,a6,?_,?_,c2,λh=>?_,?_⟩
  .rw[z,bD _ _ bv,hb.box p aA (λe=>H (a0 _ (K.R7 e)))];exact hx
  .rw[kO,ff a2 a3];exact c1
  .rcases c5 _ h with h|h
   .exact H h
   .omega
  .rw[Q];exact bj aA hb.Y
def Kk(E:aK)(p:V)(w:cg)(X:List Nat)(T:RW E (.agg [p]) w X)(s:fW):
 aI 305 [.agg [p],s.v] E λu _ l=>u=B (k1 w s)/\l=E:=by
 obtain⟨t,e,q⟩:=T;obtain rfl:p=t:=by cases e;rfl
 have y:=q.len;have z:=q.one;obtain⟨a,f,H⟩:=s;have hh:k1 w ⟨a,f,H⟩=(decide (0<=a/\0<=f)&&(vQ w a.toNat f.toNat).isSome):=rfl;refine bq Z4.ok rfl ?_;by_cases ai:0<=a/\a<w.O.length
 .obtain⟨v,rfl⟩:∃v:Nat,a=v:=⟨a.toNat,av⟩;have A:v<w.O.length:=av;obtain⟨ac,ad,d,aA,aB,o,rfl,aC,K,L,aD,a0,⟨N,rfl,D⟩,_⟩:=q.get A;have P:=D.len;have Q:=D.one;have R:List.drop (v*1+0) d=N::o:=kc (j:=0) L (aL _);have ab:v*1+0<=d.length:=av;have r:vQ w (v:Int).toNat f.toNat=w.O[v].O[f.toNat]?:=by simp[vQ,aa A]
  repeat' first|simp(disch:=omega) only[gE,simprocAttr,y,z,P,Q,K,R,ab]|refine gz ?_ ?_<;>intro l h<;>(try simp only[l])<;>try omega
  .refine⟨nE,_,_,bC rfl rfl,?_⟩;show V.bool _=V.bool _;congr 1;rw[hh,r,db];simp[];omega
  .exact Yr
 .have r:0<=a->vQ w a.toNat f.toNat=none:=λh=>by
   have:w.O.length<=a.toNat:=av;simp[vQ,b1 this]
  repeat' first|simp only[gE,simprocAttr,y,z]|refine gz ?_ ?_<;>intro l h<;>(try simp only[l])<;>try omega
  .refine⟨nE,_,_,bC rfl rfl,?_⟩;show V.bool _=V.bool _;congr 1;rw[hh,r av];simp
  .exact Yr
def Kl(E:aK)(f:Nat)(w:cg)(o:Op)(b:Name)(s t:fW)(X:List Nat)(R:RX E f w o b s t X)(v a:Nat)(H:v<w.O.length)(K:a<w.O[v].O.length)(L:w.O[v].O[a].O.length<=1000000)(q:o.spot.i9=v)(N:o.spot.k0=a)(p:aJ):
 aI 306 [.bp f 0,p.v] E λu _ P=>u=I (yo w v a o.spot.idx p).2/\((yo w v a o.spot.idx p).2=0->∃tG,RX P f (yo w v a o.spot.idx p).1 o b s t tG):=by
 obtain⟨a1,hx,T,D,bo,bs⟩:=id R;obtain⟨a2,Q,d,ab,a3,c,a4,ad,ai,aA,aB,_⟩:=si T D H K;have a5:=rf E f a1 a2 ab _ _ _ _ v a Q c o.spot.idx hx a4 ad ai;obtain⟨a6,ac,l,r,y,bu,z,A,aC⟩:=ad;have aD:l=d:=by
  rw[ai]at y;injection y with _ q _ _ _;rw[<-q,aA]at z;exact(ar z).symm
 rw[aD]at A aC;have a7:List.drop (a*2+1) d=ab::r:=kc (j:=1) A (by simp[V.cells]);have a8:a*2+1<=d.length:=av;have a9:=aB.one;have bi:=aB.len;have ea:=ff H K;refine bq Z3.ok rfl ?_;unfold yo;rw[ea];simp only[aJ.v];repeat' simp only[gE,simprocAttr,hx,Op.c,q,N,aZ,bm,vJ]
 refine bz rfl a5 ?_ ?_ ?_
 .rfl
 .refine mV ?_;simp only[ee]<;>rfl
 rintro _ _ E ⟨rfl,rfl⟩;repeat' first|simp(disch:=omega) only[gE,simprocAttr,hx,aA,a7,a8,a9,bi,Op.c,q,N,aZ,bm,vJ]|(first|refine cz ?_ ?_|refine gz ?_ ?_)<;>intro bl h<;>try simp only[bl]|refine e9 ?_ ?_
 .exact⟨nE,_,_,bC rfl rfl,rfl,λh=>h.elim⟩
 .have a0:=vr E f w o b s t X R v a o.spot.idx.toNat 0 H K av L [p] bT;rw[oG av]at a0;refine bz rfl a0 ?_ ?_ ?_
  .rfl
  .refine mV ?_;simp only[ee]<;>rfl
  rintro u _ bv ⟨tG,R'⟩;exact aa4
 .exact⟨nE,_,_,bC rfl rfl,rfl,λh=>h.elim⟩
def Z5:CF GL f331 [29] [] 331:=jo
def Z6:CF GL f314 [4,100001] [6] 314:=jo
def LU(a b:Int×Int):Int:=if qT a.1 b.1≠0 then qT a.1 b.1 else qT a.2 b.2
def R8(E:aK)(a b:Int×Int)(id:Nat)(hb:E.box id=some [I b.1,I b.2]):
 aI 331 [.sl 1 [I a.1,I a.2],.ms 1 id 0 2 2] E λv _ p=>v=I (LU a b)/\bA none E p:=by
 obtain⟨d,f⟩:=a;obtain⟨j,l⟩:=b;have q:=vk d j;have r:=vk f l;refine bq Z5.ok rfl ?_;repeat' simp only[gE,simprocAttr]
 refine sl (λk:Nat=>k<=2/\(1<=k->qT d j=0)/\(2<=k->qT f l=0)) (λk=>[(11,I k,false)]) (λk=>2-k) (0) (⟨av,λh=>av,λh=>av⟩) ?_;rintro k ⟨u,o,t⟩;rcases(by omega:k=0\/k=1\/k=2)with rfl|rfl|rfl
 .repeat any_goals first|simp(disch:=try exact om) only[gE,simprocAttr,hb]|refine bZ ?_ ?_<;>intro h<;>(try simp only[h])<;>(try simp only[jg]at h)<;>try exact absurd trivial h|refine ba 1 ?_|refine lq q ?_
  .exact⟨nE,I (qT d j),_,bC rfl rfl,aq I (by unfold LU;rw[ax (by assumption)]),⟨λ_ _ _=>rfl,λ_ _=>rfl,an _⟩⟩
  exact⟨λ_=>by omega,λh=>by(simp at h;done)⟩
 .repeat any_goals first|simp(disch:=try exact om) only[gE,simprocAttr,hb]|refine bZ ?_ ?_<;>intro h<;>(try simp only[h])<;>(try simp only[jg]at h)<;>try exact absurd trivial h|refine ba 2 ?_|refine lq r ?_
  .exact⟨nE,I (qT f l),_,bC rfl rfl,aq I (by unfold LU;simp only[o (an 1),ne_eq,not_true,cH]),⟨λ_ _ _=>rfl,λ_ _=>rfl,an _⟩⟩
  exact⟨λ_=>by exact o (an 1),λh=>by omega⟩
 .repeat any_goals first|simp only[gE,simprocAttr,hb]|refine bZ ?_ ?_<;>intro h<;>(try simp only[h])<;>try simp only[jg]at h
  exact⟨nE,I 0,_,bC rfl rfl,aq I (by unfold LU;simp only[o (by omega),t (by omega),ne_eq,not_true,cH]),⟨λ_ _ _=>rfl,λ_ _=>rfl,an _⟩⟩
def R9{a b:Int×Int}:LU a b<0↔a.1<b.1\/a.1=b.1/\a.2<b.2:=by
 unfold LU qT;repeat' split
 all_goals omega
def Sa(o:Op)(N:o.ok):af 314 [o.v] (B (q9 o)):=by
 obtain⟨ad,ai,aA,aB,aC⟩:=N;refine Pure.gg (by simp only[dx]) (by simp only[dx]) (eN hm Z6.ok (bE rfl) ?_);repeat' simp only[gE,simprocAttr,Op.v,Op.c]
 refine dT rfl rfl (λ(k:Nat) t=>k<=o.cW.length/\t.Z 8=I k/\(∀i,i<k->o5 o i=true)) (λk=>o.cW.length-k) 0 ?_ ?_
 .refine⟨aL _,?_⟩;simp only[da,simprocAttr];intro i h;omega
 rintro k t ⟨aD,d,L⟩ A;have q:t.Z 1=.ep o.c:=by rw[A 1 du];rfl
 have r:t.Z 6=.sl 2 (o.cW.map nb):=by rw[A 6 du];rfl
 have u:t.Z 7=I o.cW.length:=by rw[A 7 du];rfl
 rcases am k o.cW.length with f|f
 .have j:=se f;repeat' first|simp(disch:=try exact om) only[gE,simprocAttr,HX.act,q,r,u,d,nb,Op.c]|refine cs ?_ ?_<;>intro h<;>try omega
  refine cJ (n:=2) (off:=0) (cells:=[I 0,I 0]) ?_ ?_ du λD te tc tl tb tm a0 a1=>?_
  .exact sT
  .exact sT
  have l:D.E.box t.E.Y=some [I o.cW[k].1,I o.cW[k].2]:=by
   rw[tb];simp only[da,aQ];exact bh _ _ _
  rcases cZ k with z|z
  .subst z;repeat any_goals first|simp(disch:=omega) only[gE,simprocAttr,te,tc,tl,l,q,r,u,d,nb,Op.c]|(first|refine bZ ?_ ?_|refine c8 ?_ ?_)<;>intro h<;>(try simp only[bM,bB]at h)<;>(try simp only[h])<;>try simp only[jg]at h|refine e9 ?_ ?_
   all_goals try(refine⟨nE,V.bool false,_,jH,_,_,false,bC rfl rfl,.refl _,.refl _,λh=>(by cases h),?_,rfl⟩;exact aq V.bool (by rw[ix];refine BM f ?_;simp[o5,j];omega))
   all_goals
    refine⟨0+1,⟨?_⟩,⟨by omega⟩⟩;simp only[da,simprocAttr,te,d];refine⟨f,λi y=>?_⟩;obtain rfl:i=0:=av;simp[o5,j];omega
  .have P:k-1<o.cW.length:=av;have p:=se P;have H:k≠0:=av;have Q:(k:Int)-1=((k-1:Nat):Int):=av;have R:=R8 D.E o.cW[k-1] o.cW[k] t.E.Y l;have a2:=R9 (a:=o.cW[k-1]) (b:=o.cW[k]);repeat' first|simp(disch:=try exact om) only[gE,simprocAttr,te,tc,tl,l,q,Q,r,u,d,nb,Op.c]|(first|refine cz ?_ ?_|refine gz ?_ ?_)<;>intro ab h<;>(try simp only[ab])<;>try omega|refine e9 ?_ ?_
   all_goals try(refine⟨nE,V.bool false,_,jH,_,_,false,bC rfl rfl,.refl _,.refl _,λh=>(by cases h),?_,rfl⟩;exact aq V.bool (by rw[ix];refine BM f ?_;simp[o5,j,p,H];omega))
   refine bz (h0:=D.E) ?_ R ?_ ?_ ?_
   .exact sT
   .rfl
   .refine mV ?_;simp only[ee]<;>rfl
   rintro _ _ ac ⟨rfl,a3⟩;repeat' first|simp(disch:=omega) only[gE,simprocAttr,te,tc,tl,d]|refine cs ?_ ?_<;>intro h
   all_goals try(refine⟨nE,V.bool false,_,jH,_,_,false,bC rfl rfl,.refl _,.refl _,λh=>(by cases h),?_,rfl⟩;exact aq V.bool (by rw[ix];refine BM f ?_;simp[o5,j,p,H];omega))
   all_goals
    refine⟨k+1,⟨?_⟩,⟨av⟩⟩;simp only[da,simprocAttr,bQ,te,d];refine⟨f,rfl,λi y=>?_⟩;rcases gr (h7 y)with K|K
    .exact L i K
    .subst K;simp[o5,j,p,H];omega
 .obtain rfl:k=o.cW.length:=av;repeat' first|simp only[gE,simprocAttr,q,r,u,d,nb,Op.c]|refine cs ?_ ?_<;>intro h<;>try omega
  refine⟨nE,V.bool true,_,jH,_,_,false,bC rfl rfl,.refl _,.refl _,λh=>(by cases h),?_,rfl⟩;exact aq V.bool (by rw[ix];exact JO λi y=>L i y)
def Z7:CF GL f173 [9,60] [] 173:=jo
def Fj(acc:List cI)(x:cI):List cI:=if acc.getLast?=some x then acc else acc++[x]
def pG(l:List cI):List cI:=l.foldl Fj []
def Ci{l:List cI}{k:Nat}(h:k<l.length):pG (l.take (k+1))=Fj (pG (l.take k)) l[k]:=by
 rw[br h];unfold pG;rw[de];rfl
def LV(acc:List cI)(x:cI):(Fj acc x).getLast?=some x:=by
 unfold Fj;split
 .assumption
 .simp
def Iu{l:List cI}{k:Nat}(h:k<l.length):(pG (l.take (k+1))).getLast?=some l[k]:=by
 rw[Ci h];exact LV _ _
def wE{l:List cI}{k:Nat}(a:1<=k)(h:k<l.length):pG (l.take (k+1))=if l[k-1]=l[k]then pG (l.take k)else pG (l.take k)++[l[k]]:=by
 obtain⟨k,rfl⟩:∃n,k=n+1:=⟨k-1,av⟩;rw[Ci h,Fj,Iu av];simp only[co,kz]
def tk6(a b c d e f:Int)(r:List V):List.take 6 ([I a,I b,I c,I d,I e,I f]++r)=[I a,I b,I c,I d,I e,I f]:=rfl
def OB(a b:cI):dI [.i,.i,.i,.i,.i,.i] a.v.cells b.v.cells=some (decide (a=b)):=by
 obtain⟨⟨d,f,j⟩,⟨l,o,p⟩⟩:=a;obtain⟨⟨q,r,t⟩,⟨u,y,z⟩⟩:=b;simp only[cI.v,V.cells,dI,oR];by_cases A:d=q<;>by_cases D:f=r<;>by_cases H:j=t<;>by_cases K:l=u<;>by_cases L:o=y<;>by_cases N:p=z<;>simp[A,D,H,K,L,N]
def vt(a b:cI):dI [.i,.i,.i,.i,.i,.i] [I a.from_.J,I a.from_.seq,I a.from_.k,I a.to.J,I a.to.seq,I a.to.k] [I b.from_.J,I b.from_.seq,I b.from_.k,I b.to.J,I b.to.seq,I b.to.k]=some (decide (a=b)):=OB a b
def Sb(v:V)(l:List cI)(E:aK)(o:gu 6 E v (l.map cI.v))(e3:l.length<=1000000):
 aI 173 [v] E λu _ A=>gu 6 A u ((pG l).map cI.v)/\bA (bI v) E A/\(∀i,bI u=some i->bI v=some i):=by
 refine bq Z7.ok rfl ?_;have ch:=o.one;have bi:=o.gD;have ln:=o.len;rw[au]at ln;rcases am l.length 2 with ad|ad
 .have e:pG l=l:=by
   match l,ad with
   |[],_=>rfl
   |[a],_=>rfl
  repeat any_goals first|simp only[dt,simprocAttr,bx,ch,bi,ln]|(refine bZ (λh=>?_) (λh=>?_))<;>((try simp only[h]);(try simp only[jg]at h);(try omega))
  all_goals skip
  rw[e];exact⟨nE,v,_,bC rfl bi,o,rQ,λi h=>h⟩
 .obtain⟨Q,⟨bl,bo⟩|⟨id,c,rest,bl,dW,eh,ea,D⟩⟩:=id o
  .have:=aq List.length bo;rw[au]at this;exfalso;simp at this;subst this;simp at ad
  rw[au]at bl ea D;subst bl;repeat any_goals first|simp only[dt,simprocAttr,bx,ch,bi,ln]|(refine bZ (λh=>?_) (λh=>?_))<;>((try simp only[h]);(try simp only[jg]at h);(try omega))
  all_goals skip
  refine dT rfl rfl (λ(k:Nat) t=>1<=k/\k<=l.length/\pG (l.take k)=l.take k/\t.Z 3=I k/\t.E=E) (λk=>l.length-k) 1 ?_ ?_
  .refine⟨an _,by omega,?_,?_⟩
   .match l,ad with
    |a::r,_=>rfl
   simp only[da,simprocAttr]
  rintro k t ⟨ci,e4,ai,aA,p⟩ eb;have aB:t.Z 0=.ms 6 id 0 l.length c:=by rw[eb 0 (by decide)];rfl
  have bs:=dV Q;rw[au]at bs;rcases am k l.length with L|L
  .have bu:=i7 Q (i:=k) (by simpa using L) rest;have bv:=i7 Q (i:=k-1) (by simp;omega) rest;rw[dK]at bu bv;have cp:(k:Int)-1=(k-1:Nat):=by omega
   have c1:k*6<=(b9 (l.map cI.v)).length+rest.length:=by rw[bs];omega
   have c2:(k-1)*6<=(b9 (l.map cI.v)).length+rest.length:=by rw[bs];omega
   by_cases aC:l[k-1]=l[k]
   .have q:=(vt l[k] l[k-1]).trans (aq some (dk aC.symm));repeat any_goals first|simp(disch:=omega) only[gE,simprocAttr,aA,p,aB,eh,bu,bv,cp,c1,c2,tk6,bF,q]|refine cs ?_ ?_<;>intro h<;>try omega
    have bY:=wE ci L;rw[ax aC,ai]at bY;refine dT rfl rfl (λ(j:Nat) d=>1<=j/\k+j<=l.length/\d.Z 5=I j/\(∃(m:Nat)(W:List cI),d.Z 3=I m/\m=(pG (l.take (k+j))).length/\m<k+j/\W.length=l.length/\W.take m=pG (l.take (k+j))/\W.drop (k+j-1)=l.drop (k+j-1)/\d.E.box id=some (b9 (W.map cI.v)++rest)/\(∀i,i≠id->d.E.box i=E.box i)/\d.E.mp=E.mp/\d.E.Y=E.Y)) (λj=>l.length-(k+j)) 1 ?_ ?_
    .exact⟨an _,L,by simp only[da,simprocAttr],k,l,by simp only[da,simprocAttr,aA],by rw[bY,aG];omega,av,rfl,bY.symm,rfl,by(simp only[da,simprocAttr,p]);exact eh,by(simp only[da,simprocAttr,p]);(intros;trivial),by simp only[da,simprocAttr,p],by simp only[da,simprocAttr,p]⟩
    rintro j d ⟨q1,e5,R,m,W,z,ab,e6,aD,a0,b2,N,b3,b5,a1⟩ a7;have b6:d.Z 4=.ms 6 id (k*6) (l.length-k) (c-k):=by rw[a7 4 du];simp only[da,simprocAttr]
    have H:d.Z 0=.ms 6 id 0 l.length c:=by rw[a7 0 du];simp only[da,simprocAttr];exact aB
    have a2:lG 6 (W.map cI.v):=lG.map (λy=>rfl) _;have ac:=dV a2;rw[au,aD]at ac;have e7:((l.length-k:Nat):Int)=(l.length:Int)-k:=by omega
    rcases am (k+j) l.length with b7|b7
    .have g1:W[k+j]'(by omega)=l[k+j]:=by
      have:=aq (λx=>x[1]?) b2;simp only[cY]at this;rw[show k+j-1+1=k+j by omega,aa av,aa b7]at this;exact ar this
     have ca:W[k+j-1]'av=l[k+j-1]:=by
      have:=aq (λx=>x[0]?) b2;simp only[cY,di]at this;rw[aa av,aa av]at this;exact ar this
     have a3:=i7 a2 (i:=k+j) (by rw[au];omega) rest;have a4:=i7 a2 (i:=k+j-1) (by rw[au];omega) rest;rw[dK,g1,show(k+j)*6=k*6+j*6 by omega]at a3;rw[dK,ca,show(k+j-1)*6=k*6+(j-1)*6 by omega]at a4;have cb:k*6+j*6<=(b9 (W.map cI.v)).length+rest.length:=by rw[ac];omega
     have cc:k*6+(j-1)*6<=(b9 (W.map cI.v)).length+rest.length:=by rw[ac];omega
     have c5:(j:Int)-1=(j-1:Nat):=av;have c6:=uE a2 (i:=m) (by rw[au];omega) (x:=l[k+j].v) rfl rest;generalize ed:b9 (W.map cI.v)=M at N a3 a4 cb cc ac c6;have a5:=wE (l:=l) (k:=k+j) av b7;have c7:W.drop (k+(j+1)-1)=l.drop (k+(j+1)-1):=by
      have:=aq (List.drop 1) b2;rw[dF,dF,show k+j-1+1=k+(j+1)-1 by omega]at this;exact this
     by_cases P:l[k+j-1]=l[k+j]
     .have q:=(vt l[k+j] l[k+j-1]).trans (aq some (dk P.symm));repeat any_goals first|simp(disch:=omega) only[dt,simprocAttr,bx,R,z,N,b6,H,a3,a4,c5,cb,cc,bP,tk6,bF,q,bM]|(refine bZ (λh=>?_) (λh=>?_))<;>((try simp only[h]);(try simp only[jg]at h);(try omega))|refine ei ?_
      refine⟨j+1,⟨?_⟩,⟨by omega⟩⟩;exact⟨by omega,by omega,by(simp only[da,simprocAttr]);exact aq (V.int .i64) (by omega),m,W,by simp only[da,simprocAttr,z],by rw[show k+(j+1)=k+j+1 by omega,a5,ax P];exact ab,by omega,aD,by rw[show k+(j+1)=k+j+1 by omega,a5,ax P];exact a0,c7,by(simp only[da,simprocAttr]);rw[ed];exact N,by(simp only[da,simprocAttr]);exact b3,by simp only[da,simprocAttr,b5],by simp only[da,simprocAttr,a1]⟩
     .have q:=(vt l[k+j] l[k+j-1]).trans (aq some (dZ λe=>P e.symm));repeat any_goals first|simp(disch:=omega) only[gE,simprocAttr,R,z,N,b6,H,a3,a4,c5,cb,cc,tk6,bF,q,bB]|refine cs ?_ ?_<;>intro h<;>try omega|refine ei ?_
      refine cJ (n:=6) (off:=m*6) (cells:=M++rest) ?_ ?_ (by rw[ae];omega) λel te tc tl tb tm et fa=>?_
      .exact sT
      .exact sT
      have a8:el.E.box=eQ d.E.box id (some (b9 ((W.set m l[k+j]).map cI.v)++rest)):=by
       rw[nV,<-c6];exact tb.trans sT
      have c9:=tm.trans (by simp only[da,simprocAttr];rfl);have dd:=et.trans (by simp only[da,simprocAttr];rfl);repeat any_goals simp(disch:=omega) only[dt,simprocAttr,q5,bx,te,tc,tl,R,z]
      refine⟨j+1,⟨?_⟩,⟨by omega⟩⟩;refine⟨by omega,by omega,by(simp only[da,simprocAttr,te,R]);exact aq (V.int .i64) (by omega),m+1,W.set m l[k+j],by(simp only[da,simprocAttr,te,z]);exact aq (V.int .i64) (by omega),?_,by omega,by rw[fH];exact aD,?_,?_,by(simp only[da,simprocAttr]);rw[a8];exact bh _ _ _,by(simp only[da,simprocAttr]);exact λi a6=>by rw[a8,bD _ _ a6];exact b3 i a6,by(simp only[da,simprocAttr]);rw[c9];exact b5,by(simp only[da,simprocAttr]);rw[dd];exact a1⟩
      .rw[show k+(j+1)=k+j+1 by omega,a5,al P,ae,<-ab];rfl
      .rw[show k+(j+1)=k+j+1 by omega,a5,al P,br (by rw[fH];omega),nC,List.take_set_of_le (an _),a0]
      .rw[List.drop_set_of_lt av];exact c7
    .repeat any_goals first|simp(disch:=omega) only[gE,simprocAttr,R,z,N,b6,H]|refine cs ?_ ?_<;>intro h<;>try omega
     refine EV (sz:=5) (id:=id) (off:=m*6) (n:=l.length-m) (c:=c-m) (cells:=b9 (W.map cI.v)++rest) (fA:=d.E) sT sT rfl N ?_ λA g1 ca df=>?_
     .rw[ae,ac];omega
     repeat any_goals simp(disch:=omega) only[gE,simprocAttr,z,H]
     obtain a9:k+j=l.length:=av;rw[a9,bg]at ab a0;have e2:m<=l.length:=by rw[<-a9];omega
     have dr:=lG.map (sz:=6) (f:=cI.v) (λy=>rfl) (pG l);have ds:=dV dr;rw[au,<-ab]at ds;have eK:=lG.map (sz:=6) (f:=cI.v) (λy=>rfl) (W.drop m);have dE:=dV eK;rw[au,aS,aD]at dE;have e1:b9 (W.map cI.v)=b9 ((pG l).map cI.v)++b9 ((W.drop m).map cI.v):=by rw[<-a0,<-fU,<-az,b8]
     have dU:=oY (zs:=[.int .i64 0,.int .i64 0,.int .i64 0,.int .i64 0,.int .i64 0,.int .i64 0]) (sz:=6) rfl (l.length-m);have g4:A.box id=some (b9 ((pG l).map cI.v)++(kn (l.length-m) [.int .i64 0,.int .i64 0,.int .i64 0,.int .i64 0,.int .i64 0,.int .i64 0]++rest)):=by
      rw[g1,bh,e1,aF,<-ds,xl (by rw[ae];omega),dU,<-dE,fX]
     refine⟨nE,.ms 6 id 0 m c,_,bC sT rfl,gu.mk dr (by rw[df,a1];exact dW) g4 (by rw[au];omega) (by rw[ae,dU,au,D];omega) m (by rw[au,ab]),⟨λi a6 K=>?_,λi a6=>by rw[ca,b5],by rw[df,a1];exact an _⟩,λi h=>h⟩;have K:i≠id:=λe=>K (aq some e.symm);rw[g1,bD _ _ K];exact b3 i K
   .have q:=(vt l[k] l[k-1]).trans (aq some (dZ λe=>aC e.symm));repeat any_goals first|simp(disch:=omega) only[gE,simprocAttr,aA,p,aB,eh,bu,bv,cp,c1,c2,tk6,bF,q]|refine cs ?_ ?_<;>intro h<;>try omega
    refine⟨k+1,⟨av,av,?_,?_⟩,⟨av⟩⟩
    .rw[wE ci L,al aC,ai,br L]
    ·(simp only[da,simprocAttr,p]);exact aq (V.int .i64) av
  .repeat any_goals first|simp only[gE,simprocAttr,aA,p,aB]|refine cs ?_ ?_<;>intro h<;>try omega
   obtain rfl:k=l.length:=av;rw[bg]at ai;rw[ai];exact⟨nE,_,_,bC rfl rfl,o,rQ,λi h=>h⟩
def GR(l:List Int):0< (cX l).length:=by
 have:0< (cC l.length).length:=by unfold cC;split<;>simp
 unfold cX;rw[ae];omega
def Km(o:Op)(r:o.enc):af 148 [o.v] (dc (oN o)):=by
 obtain⟨h0,H,t,f,K,j,L,l⟩:=r;have p:∀n∈o.head,jG n:=by
  exact aaR
 have q:=ra o.head (by simp[Op.head]) p;have u:=JU o.bN av;have c3:=Ar o.F av f;have N:=qI o.cW;have P:=sd o.C;have c4:=ra (jl o.cW) av j;have y:=ra (k8 o.C) av l;have z:(cX o.head).length<=126:=fL o.head (by simp[Op.head]) p;have Q:=GR o.head;have R:=my o.bN av;have ab:=k9 o.F t f;have ac:=fL (jl o.cW) av j;have ad:=fL (k8 o.C) av l;have A:[cX o.head,dD o.bN,g7 o.F,cX (jl o.cW),cX (k8 o.C)].flatten=oN o:=by simp only[oN,dl,jf,cD]
 have a:=RF [cX o.head,dD o.bN,g7 o.F,cX (jl o.cW),cX (k8 o.C)] (by simp only[dl,ae];omega) (by simp only[dl,jf,cD,ae];omega) bT;rw[A]at a;simp only[Op.head]at q a z;refine pk f148 ?_;repeat' simp only[dt,simprocAttr,Op.v,Op.c]
 refine sk (bJ:=[]) (λk:Nat=>k<=o.cW.length) (λk=>[(13,I k,false),(3,fq (jl (o.cW.take k)),true)]) (λk=>o.cW.length-k) (0) (aL _) ?_;rintro k D;have d:=qI (o.cW.take k);rw[aG]at d;rcases am k o.cW.length with g1|g1
 .repeat any_goals first|simp(disch:=try exact om) only[dt,simprocAttr,nb]|refine cs ?_ ?_<;>intro h<;>try omega|(refine⟨k+1,⟨?_⟩,⟨av⟩,?_⟩;rotate_left;focus (simp only[fR,fM,bL,cK];and_intros;all_goals(try(simp only[mR,simprocAttr]));all_goals(try(first|(intro h;cases h;done)|(intro _;(simp;done))|(refine ak (aq I ?_);omega)|((repeat first|with_reducible (first|exact Kept.refl _|refine eF ?_|refine eO ?_|refine eB ?_|refine gy ?_|refine ec ?_)|(with_reducible refine eC ?_ ?_;rotate_left;(simp only[pY,simprocAttr])));done)))))
  .exact ak (by rw[br g1];simp only[jl,cx,ck,je,cD,az,bt,cV])
  .exact g1
 obtain rfl:k=o.cW.length:=av;rw[bg];repeat' first|refine k7 ?_|refine cs ?_ ?_<;>intro h<;>try omega
 refine sk (bJ:=[]) (λk:Nat=>k<=o.C.length) (λk=>[(28,I k,false),(4,fq (k8 (o.C.take k)),true)]) (λk=>o.C.length-k) (0) (aL _) ?_;rintro k D;have d:=sd (o.C.take k);rw[aG]at d;rcases am k o.C.length with g1|g1
 .repeat any_goals first|simp(disch:=try exact om) only[dt,simprocAttr]|refine cs ?_ ?_<;>intro h<;>try omega|(refine⟨k+1,⟨?_⟩,⟨av⟩,?_⟩;rotate_left;focus (simp only[fR,fM,bL,cK];and_intros;all_goals(try(simp only[mR,simprocAttr]));all_goals(try(first|(intro h;cases h;done)|(intro _;(simp;done))|(refine ak (aq I ?_);omega)|((repeat first|with_reducible (first|exact Kept.refl _|refine eF ?_|refine eO ?_|refine eB ?_|refine gy ?_|refine ec ?_)|(with_reducible refine eC ?_ ?_;rotate_left;(simp only[pY,simprocAttr])));done)))))
  .exact ak (by rw[br g1];simp only[k8,cx,ck,je,cD,az,bt,cV])
  .exact g1
 obtain rfl:k=o.C.length:=av;rw[bg];repeat' first|refine k7 ?_|refine cs ?_ ?_<;>intro h<;>try omega|refine lq q ?_|refine lq u ?_|refine lq c3 ?_|refine lq c4 ?_|refine lq y ?_|refine lq a ?_|refine q1 ?_
 all_goals exact .refl _
def lz(l:List Name):List Int:=l.flatMap λa=>[a.J,a.seq]
def s5(l:List Name):(lz l).length=2*l.length:=by
 induction l with
 |nil=>rfl
 |cons a r ih=>simp only[lz,ck,ae,aM,aX]at ih ⊢;omega
def mJ(p:Post):Int:=if p.main=true then 1 else 0
def gK(p:Post):T:=cC (mJ p)++g7 p.path
def kg(e:aW):T:=
 if e.kind=0 then oN e.op
 else if e.kind=2 then cX [e.dy.kind,e.dy.en]++g7 (e.dy.name::e.dy.see::e.dy.eH)
 else if e.kind=3\/e.kind=4 then cX [e.id.J,e.id.seq,e.id.k]++(cC e.cU.length++e.cU.flatMap gK)
 else if e.kind=5\/e.kind=6 then cX [e.id.J,e.id.seq,e.id.k,e.n]
 else []
def qX(e:aW):T:=cX [e.J,e.seq,e.eo,e.kind]++cX (lz e.C)
def pj(e:aW):T:=qX e++kg e
structure aW.enc(e:aW):Prop where
 head:∀n∈[e.J,e.seq,e.eo,e.kind],jG n
 kind:e.kind=0\/e.kind=1\/e.kind=2\/e.kind=3\/e.kind=4\/e.kind=5\/e.kind=6
 C:e.C.length<=1000
 VH:∀n∈lz e.C,jG n
 op:e.op.enc
 dy:∀n∈[e.dy.kind,e.dy.en],jG n
 tC:e.dy.eH.length<=1000
 words:∀s∈e.dy.name::e.dy.see::e.dy.eH,s.length<=8192
 id:∀n∈[e.id.J,e.id.seq,e.id.k,e.n],jG n
 cU:e.cU.length<=1000
 path:∀p∈e.cU,p.path.length<=10/\∀s∈p.path,s.length<=8192
def zt(p:Post)(h:p.path.length<=10)(h2:∀s∈p.path,s.length<=8192):(gK p).length<=100000:=by
 have a:=k9 p.path av h2;have d:=gB (mJ p) (by unfold mJ jG;split<;>omega);unfold gK;rw[ae];omega
def LW(o:Op)(a:o.enc):(oN o).length<=100000000:=by
 obtain⟨h0,q,d,f,r,j,t,l⟩:=a;have p:∀n∈o.head,jG n:=by
  exact XR
 have u:(cX o.head).length<=126:=fL o.head (by simp[Op.head]) p;have y:=my o.bN av;have z:=k9 o.F d f;have A:=qI o.cW;have D:=sd o.C;have H:=fL (jl o.cW) av j;have K:=fL (k8 o.C) av l;simp only[oN,ae];omega
def Sc(e:aW)(Q:e.enc):af 106 [e.v] (dc (pj e)) true:=by
 obtain⟨g1,R,a6,g4,g5,g6,a7,u,q,a8,t⟩:=Q;have y:=ra [e.J,e.seq,e.eo,e.kind] bT g1;have a9:=s5 e.C;have l:=ra (lz e.C) av g4;have c3:=Km e.op g5;have bi:=LW e.op g5;have c4:=ra [e.dy.kind,e.dy.en] bT g6;have z:=RH [[e.dy.name,e.dy.see],e.dy.eH] bT (by simp;omega) bT;have ab:=Ar (e.dy.name::e.dy.see::e.dy.eH) (by simp;omega) u;have A:=ra [e.id.J,e.id.seq,e.id.k,e.n] bT q;have D:=ra [e.id.J,e.id.seq,e.id.k] bT (λn h=>q n (by simp only[bn,cE,gL]at h ⊢;rcases h with h|h|h<;>simp[h]));have H:=sX e.cU.length (by unfold jG;omega);have ac:af 147 [I 0] (.agg [B true,B false,B false,B false,B false]):=kT 0;have ad:af 147 [I 1] (.agg [B false,B false,B false,B false,B false]):=kT 1;have ai:af 147 [I 2] (.agg [B false,B true,B false,B false,B false]):=kT 2;have aA:af 147 [I 3] (.agg [B false,B false,B true,B true,B false]):=kT 3;have aB:af 147 [I 4] (.agg [B false,B false,B true,B true,B false]):=kT 4;have aC:af 147 [I 5] (.agg [B false,B false,B true,B false,B true]):=kT 5;have aD:af 147 [I 6] (.agg [B false,B false,B true,B false,B true]):=kT 6;have K:=fL [e.J,e.seq,e.eo,e.kind] bT g1;have bl:=fL (lz e.C) av g4;have a0:=fL [e.dy.kind,e.dy.en] bT g6;have a1:=k9 (e.dy.name::e.dy.see::e.dy.eH) (by simp;omega) u;have a2:=fL [e.id.J,e.id.seq,e.id.k,e.n] bT q;have a3:=fL [e.id.J,e.id.seq,e.id.k] bT (λn h=>q n (by simp only[bn,cE,gL]at h ⊢;rcases h with h|h|h<;>simp[h]));have bo:=gB e.cU.length (by unfold jG;omega);have a4:[[e.dy.name,e.dy.see],e.dy.eH].flatten=e.dy.name::e.dy.see::e.dy.eH:=bT;rw[a4]at z;simp only[aM,aX]at K a0 a1 a2 a3;have r:∀k,((e.cU.take k).flatMap gK).length<=100000*k:=λk=>by
  have:=mh gK 100000 (e.cU.take k) λx hx=>by have:=t x (dQ hx);exact zt x this.1 this.2
  rw[aG]at this;exact aT this (oK _ (lX _ _))
 rcases R with hK|hK|hK|hK|hK|hK|hK
 all_goals
  rw[hK]at y K;refine pk f106 ?_ [133];repeat' first|simp only[dt,simprocAttr,aW.v,hK]|refine lq y ?_
  refine sk (bJ:=[3]) (λk:Nat=>k<=e.C.length) (λk=>[(25,I k,false),(4,fq (lz (e.C.take k)),true)]) (λk=>e.C.length-k) (0) (aL _) ?_;rintro k L;have a5:=s5 (e.C.take k);rw[aG]at a5;rcases am k e.C.length with g1|g1
  .repeat any_goals first|simp(disch:=try exact om) only[dt,simprocAttr]|refine cs ?_ ?_<;>intro h<;>try omega|(refine⟨k+1,⟨?_⟩,⟨av⟩,?_⟩;rotate_left;focus (simp only[fR,fM,bL];and_intros;all_goals(try(simp only[mR,simprocAttr]));all_goals(try(first|exact Or.inl trivial|(intro h;cases h;done)|(intro _;(simp;done))|(refine ak (aq I ?_);omega)|((repeat first|with_reducible (first|exact Kept.refl _|refine eF ?_|refine eO ?_|refine eB ?_|refine gy ?_|refine ec ?_)|(with_reducible refine eC ?_ ?_;rotate_left;(simp only[pY,simprocAttr])));done)))))
   .exact ak (by rw[br g1];simp only[lz,cx,ck,je,cD,az,bt,cV])
   .exact g1
  obtain rfl:k=e.C.length:=av;rw[bg]
 .repeat' first|refine qp ?_|refine cs ?_ ?_<;>intro h<;>try omega|refine lq l ?_|refine lq ac ?_|refine lq c3 ?_|refine ei ?_|apply rJ rfl rfl rfl
  exact MC
 .repeat' first|refine qp ?_|refine cs ?_ ?_<;>intro h<;>try omega|refine lq l ?_|refine lq ad ?_|refine ei ?_|apply rJ rfl rfl rfl
  exact MC
 .repeat' first|refine qp ?_|refine cs ?_ ?_<;>intro h<;>try omega|refine lq l ?_|refine lq ai ?_|refine lq c4 ?_|refine lq z ?_|refine lq ab ?_|refine ei ?_|apply rJ rfl rfl rfl
  exact MC
 .repeat' first|refine qp ?_|refine cs ?_ ?_<;>intro h<;>try omega|refine lq l ?_|refine lq aA ?_|refine lq D ?_|refine lq H ?_|refine ei ?_
  refine sk (bJ:=[3]) (λk:Nat=>k<=e.cU.length) (λk=>[(106,I k,false),(3,dc (cX [e.J,e.seq,e.eo,3]++cX (lz e.C)++cX [e.id.J,e.id.seq,e.id.k]++cC e.cU.length++(e.cU.take k).flatMap gK),true)]) (λk=>e.cU.length-k) (0) (aL _) ?_;rintro k L;have N:=r k;rcases am k e.cU.length with g1|g1
  .have j:=t _ (ah g1);have P:=k9 e.cU[k].path av j.2;have d:=sX (mJ e.cU[k]) (by unfold mJ jG;split<;>omega);have o:=Ar e.cU[k].path av j.2;have p:=gB (mJ e.cU[k]) (by unfold mJ jG;split<;>omega);have f:(e.cU.take (k+1)).flatMap gK=(e.cU.take k).flatMap gK++(cC (mJ e.cU[k])++g7 e.cU[k].path):=by rw[br g1,cx];simp[gK]
   by_cases hm:e.cU[k].main=true
   .have a:mJ e.cU[k]=1:=by unfold mJ;rw[ax hm]
    rw[a]at d p f;repeat any_goals first|simp(disch:=first|omega|(simp only[l4];omega)) only[dt,simprocAttr,hm,az]|(refine bZ (λh=>?_) (λh=>?_))<;>((try simp only[h]);(try simp only[jg]at h);(try omega))|(refine⟨k+1,⟨?_⟩,⟨av⟩,?_⟩;rotate_left;focus (simp only[fR,fM,bL];and_intros;all_goals(try(simp only[mR,simprocAttr]));all_goals(try(first|exact Or.inl trivial|(intro h;cases h;done)|(intro _;(simp;done))|(refine ak (aq I ?_);omega)|((repeat first|with_reducible (first|exact Kept.refl _|refine eF ?_|refine eO ?_|refine eB ?_|refine gy ?_|refine ec ?_)|(with_reducible refine eC ?_ ?_;rotate_left;(simp only[pY,simprocAttr])));done)))))|((first|refine i0 d ?_ ?_|refine i0 o ?_ ?_);·simp only[ee,simprocAttr]<;>rfl)|refine ei ?_
    .exact ak (aq (V.sl 1) (by rw[f];simp))
    .exact g1
   .have a:mJ e.cU[k]=0:=by unfold mJ;rw[al hm]
    rw[a]at d p f;repeat any_goals first|simp(disch:=first|omega|(simp only[l4];omega)) only[dt,simprocAttr,hm,az]|(refine bZ (λh=>?_) (λh=>?_))<;>((try simp only[h]);(try simp only[jg]at h);(try omega))|(refine⟨k+1,⟨?_⟩,⟨av⟩,?_⟩;rotate_left;focus (simp only[fR,fM,bL];and_intros;all_goals(try(simp only[mR,simprocAttr]));all_goals(try(first|exact Or.inl trivial|(intro h;cases h;done)|(intro _;(simp;done))|(refine ak (aq I ?_);omega)|((repeat first|with_reducible (first|exact Kept.refl _|refine eF ?_|refine eO ?_|refine eB ?_|refine gy ?_|refine ec ?_)|(with_reducible refine eC ?_ ?_;rotate_left;(simp only[pY,simprocAttr])));done)))))|((first|refine i0 d ?_ ?_|refine i0 o ?_ ?_);·simp only[ee,simprocAttr]<;>rfl)|refine ei ?_
    .exact ak (aq (V.sl 1) (by rw[f];simp))
    .exact g1
  .obtain rfl:k=e.cU.length:=av;rw[bg];repeat any_goals first|simp only[dt,simprocAttr]|(refine bZ (λh=>?_) (λh=>?_))<;>((try simp only[h]);(try simp only[jg]at h);(try omega))|apply rJ rfl rfl rfl
   all_goals exact ak (aq (V.sl 1) (by unfold pj qX kg;rw[hK];simp))
 .repeat' first|refine qp ?_|refine cs ?_ ?_<;>intro h<;>try omega|refine lq l ?_|refine lq aB ?_|refine lq D ?_|refine lq H ?_|refine ei ?_
  refine sk (bJ:=[3]) (λk:Nat=>k<=e.cU.length) (λk=>[(106,I k,false),(3,dc (cX [e.J,e.seq,e.eo,4]++cX (lz e.C)++cX [e.id.J,e.id.seq,e.id.k]++cC e.cU.length++(e.cU.take k).flatMap gK),true)]) (λk=>e.cU.length-k) (0) (aL _) ?_;rintro k L;have N:=r k;rcases am k e.cU.length with g1|g1
  .have j:=t _ (ah g1);have P:=k9 e.cU[k].path av j.2;have d:=sX (mJ e.cU[k]) (by unfold mJ jG;split<;>omega);have o:=Ar e.cU[k].path av j.2;have p:=gB (mJ e.cU[k]) (by unfold mJ jG;split<;>omega);have f:(e.cU.take (k+1)).flatMap gK=(e.cU.take k).flatMap gK++(cC (mJ e.cU[k])++g7 e.cU[k].path):=by rw[br g1,cx];simp[gK]
   by_cases hm:e.cU[k].main=true
   .have a:mJ e.cU[k]=1:=by unfold mJ;rw[ax hm]
    rw[a]at d p f;repeat any_goals first|simp(disch:=first|omega|(simp only[l4];omega)) only[dt,simprocAttr,hm,az]|(refine bZ (λh=>?_) (λh=>?_))<;>((try simp only[h]);(try simp only[jg]at h);(try omega))|(refine⟨k+1,⟨?_⟩,⟨av⟩,?_⟩;rotate_left;focus (simp only[fR,fM,bL];and_intros;all_goals(try(simp only[mR,simprocAttr]));all_goals(try(first|exact Or.inl trivial|(intro h;cases h;done)|(intro _;(simp;done))|(refine ak (aq I ?_);omega)|((repeat first|with_reducible (first|exact Kept.refl _|refine eF ?_|refine eO ?_|refine eB ?_|refine gy ?_|refine ec ?_)|(with_reducible refine eC ?_ ?_;rotate_left;(simp only[pY,simprocAttr])));done)))))|((first|refine i0 d ?_ ?_|refine i0 o ?_ ?_);·simp only[ee,simprocAttr]<;>rfl)|refine ei ?_
    .exact ak (aq (V.sl 1) (by rw[f];simp))
    .exact g1
   .have a:mJ e.cU[k]=0:=by unfold mJ;rw[al hm]
    rw[a]at d p f;repeat any_goals first|simp(disch:=first|omega|(simp only[l4];omega)) only[dt,simprocAttr,hm,az]|(refine bZ (λh=>?_) (λh=>?_))<;>((try simp only[h]);(try simp only[jg]at h);(try omega))|(refine⟨k+1,⟨?_⟩,⟨av⟩,?_⟩;rotate_left;focus (simp only[fR,fM,bL];and_intros;all_goals(try(simp only[mR,simprocAttr]));all_goals(try(first|exact Or.inl trivial|(intro h;cases h;done)|(intro _;(simp;done))|(refine ak (aq I ?_);omega)|((repeat first|with_reducible (first|exact Kept.refl _|refine eF ?_|refine eO ?_|refine eB ?_|refine gy ?_|refine ec ?_)|(with_reducible refine eC ?_ ?_;rotate_left;(simp only[pY,simprocAttr])));done)))))|((first|refine i0 d ?_ ?_|refine i0 o ?_ ?_);·simp only[ee,simprocAttr]<;>rfl)|refine ei ?_
    .exact ak (aq (V.sl 1) (by rw[f];simp))
    .exact g1
  .obtain rfl:k=e.cU.length:=av;rw[bg];repeat any_goals first|simp only[dt,simprocAttr]|(refine bZ (λh=>?_) (λh=>?_))<;>((try simp only[h]);(try simp only[jg]at h);(try omega))|apply rJ rfl rfl rfl
   all_goals exact ak (aq (V.sl 1) (by unfold pj qX kg;rw[hK];simp))
 .repeat' first|refine qp ?_|refine cs ?_ ?_<;>intro h<;>try omega|refine lq l ?_|refine lq aC ?_|refine lq A ?_|refine ei ?_|apply rJ rfl rfl rfl
  exact MC
 .repeat' first|refine qp ?_|refine cs ?_ ?_<;>intro h<;>try omega|refine lq l ?_|refine lq aD ?_|refine lq A ?_|refine ei ?_|apply rJ rfl rfl rfl
  exact MC
def op0:Op:=⟨0,⟨0,0,0⟩,⟨0,0,0⟩,⟨0,0,0⟩,0,0,0,[],[],[],[]⟩
def TN:gU:=⟨[],0,0,[],[]⟩
structure aW.plain(e:aW):Prop where
 op:e.kind≠0->e.op=op0
 dy:e.kind≠2->e.dy=TN
 id:e.kind≠3->e.kind≠4->e.kind≠5->e.kind≠6->e.id=⟨0,0,0⟩
 cU:e.kind≠3->e.kind≠4->e.cU=[]
 n:e.kind≠5->e.kind≠6->e.n=0
 pid:∀p∈e.cU,p.id=e.id
structure aW.good(e:aW):Prop where
 enc:e.enc
 plain:e.plain
 ok:e.ok
 VI:e.C.length<=16
 Kn:e.cU.length<=16
 tC:e.dy.eH.length<=8
 opl:(oN e.op).length<=65536
 name:e.name.mj=true
 eo:0<=e.eo/\e.eo<=1048576
 n:0<=e.n/\e.n<=1048576
 Sd:∀r∈e.C,r.mj=true/\r≠e.name
 C:∀(i:Nat)(h:i+1<e.C.length),E0 e.C[i] e.C[i+1]=true
 dy:e.kind=2->iS e.dy.name=true/\(e.dy.see=[]\/iS e.dy.see=true)/\(0<=e.dy.kind/\e.dy.kind<=2)/\(0<=e.dy.en/\e.dy.en<=3)/\e.dy.eH.all iS=true
 cU:∀p∈e.cU,(1<=p.path.length/\p.path.length<=4)/\p.path.all iS=true
end Go.Bx
