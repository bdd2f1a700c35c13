/- Lemmas for HistoryOrder. -/
import Derived.Test.YtmbahmpbmcfifaaGreatDoorAl
import Derived.Test.YtmbahmpbmcfifaaGreatDoorAm
import Derived.Test.YtmbahmpbmcfifaaGreatDoorAn
noncomputable section
set_option linter.all false
set_option maxHeartbeats 4000000
set_option maxRecDepth 100000
namespace Go.Bx
open Go.Proofs Go.Proofs.Tryz
attribute [local irreducible] vc er dr b4 bV run iD iY i1 i6 iQ i7 i2 iu iS i4 gB i3 cW
def qe:Int->List aK->Bool
 |_,[]=>true
 |b,p::r=>if p.eB=1/\b=2 then false else qe p.eB r
def yZ:∀(l:List aK)(b:Int),qe b l=(List.range l.length).all λi=> !decide (o8 l i=1/\(i=0/\b=2\/0<i/\o8 l (i-1)=2))
 |[],_=>rfl
 |p::r,b=>by
  have ih:=yZ r p.eB;rw[aM,m9,bN,List.all_map];unfold qe;have a:o8 (p::r) 0=p.eB:=rfl;by_cases h:p.eB=1/\b=2
  .rw[ax h];simp[a,h.1,h.2]
  .rw[an h,ih];have e:(!decide (o8 (p::r) 0=1/\(0=0/\b=2\/0<0/\o8 (p::r) (0-1)=2)))=true:=by simp[a];omega
   rw[e,hA];congr 1;funext i;simp only[lO,Nat.succ_eq_add_one];have d:o8 (p::r) (i+1)=o8 r i:=rfl;rw[d];congr 1;rw[oc];cases i with
   |zero=>simp[a]
   |succ i=>
    have f:o8 (p::r) (i+1)=o8 r i:=rfl;simp[f]
def DN(l:List aK):qe 2 l=oz l:=by
 rw[yZ,oz];congr 1;funext i;congr 1;unfold oy;rw[oc];cases i with
 |zero=>simp
 |succ i=>simp
def lX:Int->List (fW×aK)->Bool
 |_,[]=>true
 |b,x::r=>if x.2.eB=1/\(x.1.idx=0\/b=2)then false else lX x.2.eB r
def Gy:Int->List aK->Int
 |b,[]=>b
 |_,p::r=>Gy p.eB r
def DO(v a:Nat)(R:List (fW×aK)):∀(l:List aK)(b:Int)(i:Nat),0<i->lX b (xt v a l i++R)=(qe b l&&lX (Gy b l) R)
 |[],b,i,_=>by simp[xt,qe,Gy]
 |p::r,b,i,h=>by
  have ih:=DO v a R r p.eB (i+1) av;have f:¬((i:Int)=0):=av;simp only[xt,aZ,lX,qe,Gy,f,rV];by_cases d:p.eB=1/\b=2
  .rw[ax d,ax d];rfl
  .rw[an d,an d,ih]
def Ii(v a:Nat)(R:List (fW×aK))(f:∀b j,lX b R=lX j R)(l:List aK)(b:Int):lX b (xt v a l 0++R)=(oz l&&lX 2 R):=by
 cases l with
 |nil=>rw[<-DN];simp only[xt,bx,qe,hA];exact f _ _
 |cons p r=>
  rw[<-DN];simp only[xt,aZ,lX,qe,cA,Int.ofNat_zero,true_or,bK];by_cases d:p.eB=1
  .rw[ax d,ax d];rfl
  .rw[an d,an d,DO v a R r p.eB 1 av,f (Gy p.eB r) 2]
def y0(v:Nat)(R:List (fW×aK))(f:∀b d,lX b R=lX d R):∀(l:List ee)(a:Nat)(b:Int),lX b (BM v l a++R)=(l.all (λx=>oz x.O)&&lX 2 R)
 |[],a,b=>by simp only[BM,bx,ce,hA];exact f _ _
 |x::r,a,b=>by
  have ih:=y0 v R f r (a+1);simp only[BM,aG,bN];rw[Ii v a _ (λb d=>by rw[ih b,ih d]),ih,mE]
def B2:∀(l:List eQ)(v:Nat)(b:Int),lX b (tI l v)=l.all sP
 |[],_,_=>rfl
 |x::r,v,b=>by
  have ih:=B2 r (v+1);simp only[tI,bN,sP];rw[y0 v _ (λb a=>by rw[ih b,ih a]),ih]
def s6:List ID->List ID->Bool
 |_,[]=>false
 |m,a::r=>if a∈m then true else s6 (m++[a]) r
def LB(l:List aK):∀k,k<=l.length->s6 ((l.take k).map (·.id)) ((l.drop k).map (·.id))=(List.range l.length).any λi=>decide (k<=i)&&Do l i:=by
 intro k u;obtain⟨n,y⟩:∃n,l.length-k=n:=⟨_,rfl⟩;induction n generalizing k with
 |zero=>
  rw[cT av];rw[hT,cV,s6,mO];intro i d;have:=dc.1 d;simp;omega
 |succ n ih=>
  have a:k<l.length:=av;rw[bI a,bw,s6];have q:l[k].id∈(l.take k).map (·.id)↔Do l k=true:=by
   unfold Do;rw[gu];constructor
   .intro h;obtain⟨p,E,f⟩:=cG.1 h;obtain⟨i,d,rfl⟩:=iL.1 E;rw[aF]at d;rw[jz]at f;exact⟨i,dc.2 av,by simp only[cy];rw[rh a,rh av];exact f.symm⟩
   .rintro⟨i,d,f⟩;have d:=dc.1 d;simp only[cy]at f;rw[rh a,rh av]at f;exact cG.2 ⟨l[i],by rw[<-jz (j:=k) (h:=by rw[aF];omega)];exact ah _,f.symm⟩
  by_cases h:l[k].id∈(l.take k).map (·.id)
  .rw[ax h,hT,gu];exact⟨k,dc.2 a,by simp[q.1 h]⟩
  .rw[an h];have e:=ih (k+1) av av;rw[bj a,aE,bw,cV]at e;rw[e,de,gu,gu];constructor
   .rintro⟨i,r,o⟩;simp only[aX,cy]at o;exact⟨i,r,by simp only[aX,cy];exact⟨av,o.2⟩⟩
   .rintro⟨i,r,o⟩;simp only[aX,cy]at o;refine⟨i,r,?_⟩;simp only[aX,cy];refine⟨?_,o.2⟩;rcases am k i with t|t
    .omega
    .obtain rfl:i=k:=av;exact absurd (q.2 o.2) h
def Om(l:List aK):s6 [] (l.map (·.id))=CA l:=by
 have:=LB l 0 (aL _);simp only[fk,cV,cx]at this;rw[this,CA];congr 1
def On(l:List ID)(a:ID):kQ (l.map λx=>(x,B true)) a (B false)=B (decide (a∈l)):=by
 induction l with
 |nil=>rfl
 |cons x r ih=>
  simp only[bw,kQ];by_cases h:a=x
  .rw[ax h];simp[h]
  .rw[an h,ih];simp[h]
def Oo{α:Type}[DecidableEq α](l:List (α×V))(a:α)(v:V)(h:∀x∈l,a≠x.1):jh l a v=l++[(a,v)]:=by
 induction l with
 |nil=>rfl
 |cons x r ih=>
  rw[jh,an (h x mi),ih λy d=>h y (eF _ d)];rfl
def abn:CF GL f40 [100001,2,5,8] [] 40:=ji
def Ij(w:cm)(bU:w.ok):af 40 [w.v] (I (fy w)):=by
 have b2:=sZ w bU;rw[qY]at b2;have hS:=uM w.O 0;have c1:=B2 w.O 0 2;have b6:=Om (dx w);have b7:=yi bU;replace hS:List.map (·.2) (tI w.O 0)=dx w:=hS;have d:fy w=if lj w then 4 else if(dx w).all aK.sa=false then 1 else if w.O.all l7=false then 1 else if CA (dx w)then 7 else if w.O.all sP=false then 8 else 0:=rfl
 have hlen:=ar List.length hS;rw[aq]at hlen;generalize tI w.O 0=L at*
 rw[<-hS]at d b6 b7;rw[<-b6,<-c1]at d;have c2:=Vg w bU;have cb:=ET w;have c5:=Vh w bU;generalize lj w=et at*
 generalize w.O.all l7=eN at*
 generalize fy w=R at*
 refine Pure.gg (by simp only[du]) (by simp only[du]) (eU hm abn.ok (bF rfl) ?_);cases et with
 |true=>
  rw[ax rfl]at d;subst d;repeat' first|simp only[gE,simprocAttr,HX.act]|refine lq c2 ?_
  refine cC (n:=1) (cells:=[I 0]) ?_ ?_ bR λt2 D3 Ki Mc Ph TS TT te7=>?_
  .exact sT
  .exact sT
  have tb:t2.E.box 0=some [I 4]:=by
   rw[Ph];(try simp only[sE]);rw[bl];rfl
  repeat' simp only[gE,simprocAttr,cO,D3,Ki,Mc]
  exact⟨nE,I 4,false,jF,t2.E,_,false,eA (by simp only[dL,simprocAttr,cO,bh,D3,tb]<;>rfl) rfl,.refl _,.refl _,λh=>(by cases h),rfl,rfl⟩
 |false=>
  rw[an dt]at d;repeat' first|simp only[gE,simprocAttr,HX.act]|refine lq c2 ?_|refine lq cb ?_
  refine yI (f:=123) (cap:=[.ep [cd w.O]]) (items:=L.map Gq) (λj E=>E.Y=1/\E.box 0=some [I 0]/\∀x∈L.take j,x.2.sa=true) ?_ yh b2 ?_ rfl rfl ?_ ?_ kN ?_
  .exact sT
  .exact Ha
  .simp only[da];intro x h;simp at h
  .rintro j E it ⟨H,a2,b3⟩ r;rw[bB]at r;obtain⟨x,hx,rfl⟩:=bS.1 r;obtain⟨a3,N⟩:=aH.1 hx;have c3:=Vf x.2 (b7 _ (cG.2 ⟨x,N▸ah a3,rfl⟩));unfold Gq;by_cases o:x.2.sa=true
   .rw[o]at c3;repeat' first|simp only[gE,simprocAttr,cO,H,a2]|refine lq c3 ?_
    intro y b5;rw[bj a3,N]at b5;rcases aR.1 b5 with h|h
    .exact b3 y h
    .simp at h;subst h;exact o
   .have c6:x.2.sa=false:=by simpa using o
    rw[c6]at c3;rw[ax (by rw[eD];exact⟨x.2,cG.2 ⟨x,N▸ah a3,rfl⟩,by simpa using o⟩)]at d;subst d;repeat' first|simp only[gE,simprocAttr,cO,H,a2]|refine lq c3 ?_
    exact Xl
  .rintro E ⟨H,a2,b3⟩;rw[aq,be]at b3;rw[an (by rw[Bool.not_eq_false,bP];intro p E;obtain⟨x,hx,rfl⟩:=cG.1 E;exact b3 x hx)]at d;cases eN with
   |false=>
    rw[ax rfl]at d;subst d;repeat' first|simp only[gE,simprocAttr,cO,H,a2]|refine lq c5 ?_
    exact Xl
   |true=>
    rw[an dt]at d;repeat' first|simp only[gE,simprocAttr,cO,HX.act,H,a2]|refine lq c5 ?_
    refine cC (n:=1) (cells:=[.qy]) ?_ ?_ bR λt2 D3 Ki Mc Ph TS TT te7=>?_
    .simp only[sE,H]
    .exact sT
    have c7:t2.E.box 0=some [I 0]:=by rw[Ph];simp only[sE,simprocAttr,H,a2,eR]
    have c9:t2.E.box 2=some [.mp 1]:=by rw[Ph];simp only[sE,H,eR];rfl
    have tm:t2.E.mp 1=some (.map []):=by rw[TS];simp only[sE,H,eR]
    have e1:t2.E.Y=3:=TT.trans sT;have aB:t2.Z 1=.ep [cd w.O]:=by rw[D3];simp only[sE];rfl
    have a4:t2.Z 5=.bp 2 0:=by rw[D3];simp only[sE,H]
    have ab:t2.Z 2=.bp 0 0:=by rw[D3];simp only[sE,simprocAttr]
    repeat' first|simp only[gE,simprocAttr,cO,Ki,Mc,ab,aB,a4]|refine lq cb ?_
    obtain⟨X,aC⟩:∃X,List.map (λx:aK=>x.id) (List.map (λx:fW×aK=>x.2) L)=X:=⟨_,rfl⟩;rw[aC]at d;have cc:X.length=L.length:=by rw[<-aC,aq,aq]
    refine yI (f:=123) (cap:=[.ep [cd w.O]]) (items:=L.map Gq) (λj E=>E.Y=3/\E.box 0=some [I 0]/\E.box 2=some [.mp 1]/\E.mp 1=some (.map (fp ID.v ((X.take j).map λx=>(x,B true))))/\s6 (X.take j) (X.drop j)=s6 [] X) ?_ yh b2 ?_ rfl rfl ?_ ?_ kN ?_
    .exact sT
    .exact Ha
    .simp only[sE];exact⟨e1,c7,c9,tm⟩
    .rintro j E it ⟨K,aD,a5,a0,ac⟩ r;rw[bB]at r;obtain⟨x,hx,rfl⟩:=bS.1 r;obtain⟨a3,N⟩:=aH.1 hx;have dd:X[j]?=some x.2.id:=by rw[<-aC,bB,bB,hx];rfl
     obtain⟨a6,a7⟩:=aH.1 dd;have e2:=On (X.take j) x.2.id;rw[bI a6,a7,s6]at ac;unfold Gq;repeat' simp only[gE,simprocAttr,cO,ab,aB,a4,K,aD,a5,a0]
     refine jq qS (a:=x.2.id) (l:=(X.take j).map λx=>(x,B true)) (id:=1) (fD:=E) ?_ ?_ ?_ a0 ?_
     .exact sT
     .exact sT
     .exact sT
     rw[e2];by_cases t:x.2.id∈X.take j
     .rw[ax t]at ac;rw[ax ac.symm]at d;subst d;repeat' simp only[gE,simprocAttr,cO,i5,t,wB,ab,aB,a4,K,aD,a5,a0]
      refine cC (n:=1) (cells:=[I 0]) ?_ ?_ bR λQ ad a8 a9 bi dg dp ds=>?_
      .exact sT
      .exact sT
      have ub:Q.E.box 0=some [I 7]:=by
       rw[bi];(try simp only[sE]);rw[bl];rfl
      repeat' simp only[gE,simprocAttr,cO,ad,a8,a9]
      exact⟨nE,I 7,false,jF,Q.E,_,false,eA (by simp only[dL,simprocAttr,cO,bh,ad,ub,ab]<;>rfl) rfl,.refl _,.refl _,λh=>(by cases h),rfl,rfl⟩
     .rw[an t]at ac;repeat' simp only[gE,simprocAttr,cO,i5,t,na,ab,aB,a4,K,aD,a5,a0]
      refine Dz qS (a:=x.2.id) (l:=(X.take j).map λx=>(x,B true)) (id:=1) (fD:=E) ?_ ?_ ?_ a0 ?_ ?_
      .exact sT
      .exact sT
      .exact sT
      .exact sT
      repeat' simp only[gE,simprocAttr,cO,St.ret,ab,aB,a4,K,aD,a5]
      refine⟨ar (λx=>some (MO.map (fp ID.v x))) ?_,?_⟩
      .rw[Oo _ _ _ (λy b5=>by obtain⟨z,e3,rfl⟩:=cG.1 b5;intro e4;exact t (e4▸e3)),bj a6,a7,aE];rfl
      .rw[bj a6,a7];exact ac
    .rintro E ⟨K,aD,a5,a0,ac⟩;rw[aq,<-cc,be,je]at ac;clear a0;rw[an (by rw[<-ac];simp[s6])]at d;repeat' simp only[gE,simprocAttr,cO,HX.act,ab,aB,a4,K,aD,a5]
     refine cC (n:=1) (cells:=[I 0]) ?_ ?_ bR λbo br dF dU ca fa fr fs=>?_
     .simp only[sE,K]
     .exact sT
     have ea:bo.E.box 0=some [I 0]:=by rw[ca];simp only[sE,simprocAttr,K,aD,eR]
     have eb:bo.E.box 3=some [I 2]:=by rw[ca];simp only[sE,K,eR];rfl
     have q1:bo.Z 1=.ep [cd w.O]:=by rw[br];simp only[sE,simprocAttr,aB]
     have q0:bo.Z 2=.bp 0 0:=by rw[br];simp only[sE,simprocAttr,ab]
     have q8:bo.Z 8=.bp 3 0:=by rw[br];simp only[sE,K]
     repeat' first|simp only[gE,simprocAttr,cO,dF,dU,q0,q1,q8]|refine lq cb ?_
     refine yI (f:=123) (cap:=[.ep [cd w.O]]) (items:=L.map Gq) (λj E=>E.box 0=some [I 0]/\∃b,E.box 3=some [I b]/\lX b (L.drop j)=lX 2 L) ?_ yh b2 ?_ rfl rfl ?_ ?_ (A4 kN kN) ?_
     .exact sT
     .exact Ha
     .simp only[sE];exact⟨ea,2,eb,rfl⟩
     .rintro j E it ⟨q,b,D,m3⟩ r;rw[bB]at r;obtain⟨x,hx,rfl⟩:=bS.1 r;obtain⟨a3,N⟩:=aH.1 hx;rw[bI a3,N,lX]at m3;unfold Gq;by_cases P:x.1.idx=0
      .repeat' first|simp only[gE,simprocAttr,cO,q0,q1,q8,q,D,P]|refine ec ?_
       refine cC (n:=1) (cells:=[I b]) ?_ ?_ bR λg g1 bs bu g4 g5 g6 fB=>?_
       .exact sT
       .exact sT
       have ai:g.E.box 0=some [I 0]:=by rw[g4];(simp only[sE,eR,q,D,q8]<;>rfl)
       have a1:g.E.box 3=some [I 2]:=by rw[g4];(simp only[sE,eR,q,D,q8]<;>rfl)
       by_cases o:x.2.eB=1
       .rw[ax ⟨o,.inl P⟩]at m3;rw[ax m3.symm]at d;subst d;repeat' simp only[gE,simprocAttr,cO,q0,q1,q8,g1,bs,bu,ai,a1,o]
        refine cC (n:=1) (cells:=[I 0]) ?_ ?_ bR λu bv Q ch ci e5 e6 e7=>?_
        .exact sT
        .exact sT
        have ub:u.E.box 0=some [I 8]:=by rw[ci];simp only[sE,eR,g1,bs,bu,ai]<;>rfl
        repeat' simp only[gE,simprocAttr,cO,bv,Q,ch]
        exact⟨nE,I 8,false,jF,u.E,_,false,eA (by simp only[dL,simprocAttr,cO,bh,bv,ub,g1,q0]<;>rfl) rfl,.refl _,.refl _,λh=>(by cases h),rfl,rfl⟩
       .rw[an (λh=>o h.1)]at m3;repeat' first|simp only[gE,simprocAttr,cO,q0,q1,q8,g1,bs,bu,ai,a1,o]|refine gz ?_ ?_<;>intro cp h<;>(try simp only[cp])<;>try omega
        refine cC (n:=1) (cells:=[I 2]) ?_ ?_ (by simp) λy y1 y2 y3 aA ed el y7=>?_
        .exact sT
        .exact sT
        have y0b:y.E.box 0=some [I 0]:=by rw[aA];simp only[sE,eR,g1,bs,bu,ai,a1]<;>rfl
        have y3b:y.E.box 3=some [I x.2.eB]:=by rw[aA];simp only[sE,eR,g1,bs,bu,ai,a1]<;>rfl
        exact T5
      .by_cases o:x.2.eB=1
       .by_cases hb:b=2
        .rw[ax ⟨o,.inr hb⟩]at m3;rw[ax m3.symm]at d;subst d;subst hb;repeat' first|simp only[gE,simprocAttr,cO,q0,q1,q8,q,D,P,o]|refine cs ?_ ?_<;>intro h<;>try omega|refine ec ?_
         refine cC (n:=1) (cells:=[I 0]) ?_ ?_ bR λu bv Q ch ci e5 e6 e7=>?_
         .exact sT
         .exact sT
         have ub:u.E.box 0=some [I 8]:=by rw[ci];simp only[sE,eR,q]<;>rfl
         repeat' simp only[gE,simprocAttr,cO,bv,Q,ch]
         exact⟨nE,I 8,false,jF,u.E,_,false,eA (by simp only[dL,simprocAttr,cO,bh,bv,ub,q0]<;>rfl) rfl,.refl _,.refl _,λh=>(by cases h),rfl,rfl⟩
        .rw[an (λh=>h.2.elim P hb)]at m3;repeat' first|simp only[gE,simprocAttr,cO,q0,q1,q8,q,D,P,o,hb]|refine cs ?_ ?_<;>intro h<;>try omega|refine ec ?_
         refine cC (n:=1) (cells:=[I b]) ?_ ?_ bR λy y1 y2 y3 aA ed el y7=>?_
         .exact sT
         .exact sT
         have y0b:y.E.box 0=some [I 0]:=by rw[aA];simp only[sE,simprocAttr,eR,q,D]<;>skip
         have y3b:y.E.box 3=some [I x.2.eB]:=by rw[aA];simp only[sE,eR,q,D]<;>(rw[o];rfl)
         exact T5
       .rw[an (λh=>o h.1)]at m3;repeat' first|simp only[gE,simprocAttr,cO,q0,q1,q8,q,D,P,o]|(first|refine cz ?_ ?_|refine gz ?_ ?_)<;>intro cp h<;>(try simp only[cp])<;>try omega|refine ec ?_
        refine cC (n:=1) (cells:=[I b]) ?_ ?_ (by simp) λy y1 y2 y3 aA ed el y7=>?_
        .exact sT
        .exact sT
        have y0b:y.E.box 0=some [I 0]:=by rw[aA];simp only[sE,eR,q,D]<;>rfl
        have y3b:y.E.box 3=some [I x.2.eB]:=by rw[aA];simp only[sE,eR,q,D]<;>rfl
        exact T5
     .rintro E ⟨q,b,D,m3⟩;rw[aq,je,lX]at m3;rw[<-m3,an dt]at d;subst d;repeat' simp only[gE,simprocAttr,cO,q0,q1,q8,q]
      refine cC (n:=1) (cells:=[I 0]) ?_ ?_ bR λQ ad a8 a9 bi dg dp ds=>?_
      .exact sT
      .exact sT
      have ub:Q.E.box 0=some [I 0]:=by
       rw[bi];(try simp only[sE]);rw[bl];rfl
      repeat' simp only[gE,simprocAttr,cO,ad,a8,a9]
      exact⟨nE,I 0,false,jF,Q.E,_,false,eA (by simp only[dL,simprocAttr,cO,bh,ad,ub,q0]<;>rfl) rfl,.refl _,.refl _,λh=>(by cases h),rfl,rfl⟩
def Z7:CF GL f104 [] [] 104:=ji
def xy{a b:Int}(h:0<=a/\a<=b):af 150 [I a,I b] (B true):=by
 have:=JJ a b;rwa [db h]at this
def J7(e:aV)(f:e.good):af 104 [e.v] (I 0):=by
 have j:=f.plain;have R:=J0 e.op f.enc.op;have q:=wh e;have c3:=JH e.name;rw[f.name]at c3;have c4:=xy f.ei;have ab:=xy f.n;have ac:=Rl e.op op0 f.ok.2.1;have ad:=Rj e.dy Tz (aQ f.ok.2.2.1.2.2.1 (by decide));have a8:=f.Vr;have a9:=f.J4;have bi:=f.tz;have bo:=f.opl;obtain⟨_,_,⟨ai,aA,aB,aC⟩,_,aD⟩:=f.ok;have br:e.kind=0\/e.kind=1\/e.kind=2\/e.kind=3\/e.kind=4\/e.kind=5\/e.kind=6:=f.enc.kind;have a0:af 150 [I e.kind,I 6] (B true):=xy (by omega);have a1:∀(k:Nat)(h:k<e.C.length),af 149 [e.C[k].v] (B true):=λk h=>by
  have:=JH e.C[k];rwa [(f.RY _ (ah h)).1]at this
 have a2:∀(k:Nat)(h:k+1<e.C.length),af 122 [e.C[k].v,e.C[k+1].v] (B true):=λk h=>by
  have:=JK e.C[k] e.C[k+1];rwa [f.C k h]at this
 have u:=kU e.kind;unfold N2 at u;have K:e.kind≠3->e.kind≠4->e.kind≠5->e.kind≠6->(e.id.J==0&&(e.id.seq==0&&e.id.k==0))=true:=λa b c d=>by rw[j.id a b c d];rfl
 have zp:e.kind≠3->e.kind≠4->e.cU.length=0:=λa b=>by rw[j.cU a b];rfl
 have zn:=j.n;have L:=λt (r:iV t=true) (y:t.length<=1000000)=>(by have:=Ty t y;rwa [r]at this:af 153 [S t] (B true));have o:=λl (r:l.all iV=true) (y:l.length<=1000000) (hb:∀t∈l,t.length<=1000000)=>(by have:=Rp Ty l y hb;rwa [r]at this:af 154 [e9 l] (B true));refine pq Z7.ok rfl (by simp only[du]) ?_;simp only[aV.v];repeat any_goals first|simp only[dq,simprocAttr,aV.v,Op.v,Op.c,hG.v]|(first|refine bY (λh=>?_) (λh=>?_)|refine cY (λh=>?_) (λh=>?_))<;>((try simp only[bO,bD]at h);(try simp only[h]);(try simp only[jc]at h);(try omega))|((first|refine iT u ?_ ?_|refine iT R ?_ ?_|refine iT q ?_ ?_|refine iT c3 ?_ ?_);·simp only[dL,simprocAttr]<;>rfl)|(refine iT c4 ?_ ?_;·simp only[dL,simprocAttr]<;>rfl)|(refine iT a0 ?_ ?_;·simp only[dL,simprocAttr]<;>rfl)|(refine iT ab ?_ ?_;·simp only[dL,simprocAttr]<;>rfl)|(refine iR (ad) ?_ ?_;(·(repeat(first|exact aN.nil|(refine aN.cons (aj ?_) ?_;(simp only[dL,simprocAttr]<;>rfl))|(refine aN.cons ?_ ?_;(·(apply nj;(·(simp only[dL,simprocAttr]<;>rfl));(·(repeat(first|exact aN.nil|refine aN.cons (.refl _) ?_|refine aN.cons (.aP _) ?_))))))))))|(refine iR (ac) ?_ ?_;(·(repeat(first|exact aN.nil|(refine aN.cons (aj ?_) ?_;(simp only[dL,simprocAttr]<;>rfl))|(refine aN.cons ?_ ?_;(·(apply nj;(·(simp only[dL,simprocAttr]<;>rfl));(·(repeat(first|exact aN.nil|refine aN.cons (.refl _) ?_|refine aN.cons (.aP _) ?_))))))))))
 all_goals try(first|exact absurd (j.dy (by omega)) (by assumption)|exact absurd (j.op (by omega)) (by assumption)|exact Bool.noConfusion ((K (by omega) (by omega) (by omega) (by omega)).symm.trans (by assumption)))
 all_goals
  refine p6 (D:=[2,4,5,120,121,122,123,124,125,126,127,128,129,130,131,132,133,134,135,136,137,138,139,140,141,142,143,144,145,146,147,148,149]) (bL:=[]) rfl (λk:Nat=>k<=e.C.length) (λk=>[(120,I k,false)]) (λk=>e.C.length-k) (0) rfl rfl (λ_=>rfl) (aL _) ?_ ?_ ?_;iterate 2 ·(simp only[fQ,fM,bK,cF];and_intros;all_goals(try(simp only[mS,simprocAttr]));all_goals(try(first|with_reducible exact .refl _|(intro h;cases h;done))))
  rintro k a3;rcases am k e.C.length with g1|g1
  .have N:=a1 k g1;have a4:=(f.RY _ (ah g1)).2;have P:(e.C[k].J==e.J&&e.C[k].seq==e.seq)=false:=by
    rw[Bool.eq_false_iff];intro h;rw[aX,iA,iA]at h;apply a4;generalize e.C[k]=a at h;obtain⟨bs,bu⟩:=a;simp only[aV.name,Name.mk.injEq];exact h
   rcases k with _|k
   .repeat any_goals first|simp(disch:=first|omega|(simp only[me];omega)) only[dq,simprocAttr,aV.name,P]|(first|refine bY (λh=>?_) (λh=>?_)|refine cY (λh=>?_) (λh=>?_))<;>((try simp only[bO,bD]at h);(try simp only[h]);(try simp only[jc]at h);(try omega))|(refine⟨0+1,⟨?_⟩,⟨by omega⟩,?_⟩;rotate_left;focus (simp only[fQ,fM,bK,cF];and_intros;all_goals(try(simp only[mS,simprocAttr]));all_goals(try(first|with_reducible exact .refl _|(intro h;cases h;done)|((repeat first|with_reducible (first|exact Kept.refl _|refine ez ?_|refine eJ ?_|refine ek ?_|refine dT ?_)|(with_reducible refine en ?_ ?_;rotate_left;(simp only[pU,simprocAttr])));done)))))|(refine iT N ?_ ?_;·simp only[dL,simprocAttr]<;>rfl)|(refine iT q ?_ ?_;·simp only[dL,simprocAttr]<;>rfl)
    all_goals exact g1
   .have a5:=a2 k g1;have a6:((k+1:Nat)-1:Int).toNat=k:=by omega
    repeat any_goals first|simp(disch:=first|omega|(simp only[me];omega)) only[dq,simprocAttr,aV.name,P,a6]|(first|refine bY (λh=>?_) (λh=>?_)|refine cY (λh=>?_) (λh=>?_))<;>((try simp only[bO,bD]at h);(try simp only[h]);(try simp only[jc]at h);(try omega))|(refine⟨k+1+1,⟨?_⟩,⟨by omega⟩,?_⟩;rotate_left;focus (simp only[fQ,fM,bK,cF];and_intros;all_goals(try(simp only[mS,simprocAttr]));all_goals(try(first|(intro h;cases h;done)|(refine aj (ar I ?_);omega)|((repeat first|with_reducible (first|exact Kept.refl _|refine ez ?_|refine eJ ?_|refine ek ?_|refine dT ?_)|(with_reducible refine en ?_ ?_;rotate_left;(simp only[pU,simprocAttr])));done)))))|(refine iT N ?_ ?_;·simp only[dL,simprocAttr]<;>rfl)|(refine iT a5 ?_ ?_;·simp only[dL,simprocAttr]<;>rfl)|(refine iT q ?_ ?_;·simp only[dL,simprocAttr]<;>rfl)
    all_goals exact g1
  .obtain rfl:k=e.C.length:=by omega
   repeat any_goals first|simp only[dq,simprocAttr,aV.name]|(first|refine bY (λh=>?_) (λh=>?_)|refine cY (λh=>?_) (λh=>?_))<;>((try simp only[bO,bD]at h);(try simp only[h]);(try simp only[jc]at h);(try omega))|(refine iR ((L e.dy.name (f.dy (by omega)).1 ai)) ?_ ?_;·refine nG ?_;simp only[dL,simprocAttr]<;>rfl)|(refine iR ((L e.dy.see ((f.dy (by omega)).2.1.resolve_left (by assumption)) aA)) ?_ ?_;·refine nG ?_;simp only[dL,simprocAttr]<;>rfl)|(refine iR ((xy (f.dy (by omega)).2.2.1)) ?_ ?_;·refine nG ?_;simp only[dL,simprocAttr]<;>rfl)|(refine iR ((xy (f.dy (by omega)).2.2.2.1)) ?_ ?_;·refine nG ?_;simp only[dL,simprocAttr]<;>rfl)|(refine iR ((o e.dy.eH (f.dy (by omega)).2.2.2.2 aB aC)) ?_ ?_;·refine nG ?_;simp only[dL,simprocAttr]<;>rfl)
   all_goals
    refine p6 (D:=[2,8,192,193,194,195,196,197,198,199,200,201,202,203,204,205,206,207,208,209,210,211,212,213,214,215,216,217,218,219]) (bL:=[]) rfl (λk:Nat=>k<=e.cU.length) (λk=>[(192,I k,false)]) (λk=>e.cU.length-k) (0) rfl rfl (λ_=>rfl) (aL _) ?_ ?_ ?_;iterate 2 ·(simp only[fQ,fM,bK,cF];and_intros;all_goals(try(simp only[mS,simprocAttr]));all_goals(try(first|with_reducible exact .refl _|(intro h;cases h;done))))
    rintro k a3;rcases am k e.cU.length with z|z
    .have m:=ah z;have q1:=j.pid _ m;have Q:=f.cU _ m;have H:=aD _ m;generalize E:e.cU[k]=p at q1 Q H;have pk:(p.id.J==e.id.J&&(p.id.seq==e.id.seq&&p.id.k==e.id.k))=true:=by rw[q1];simp
     obtain⟨⟨bv,bU⟩,a7⟩:=Q;repeat any_goals first|simp(disch:=first|omega|(simp only[me];omega)) only[dq,simprocAttr,E,Post.v,pk]|(first|refine bY (λh=>?_) (λh=>?_)|refine cY (λh=>?_) (λh=>?_))<;>((try simp only[bO,bD]at h);(try simp only[h]);(try simp only[jc]at h);(try omega))|(refine⟨k+1,⟨?_⟩,⟨by omega⟩,?_⟩;rotate_left;focus (simp only[fQ,fM,bK,cF];and_intros;all_goals(try(simp only[mS,simprocAttr]));all_goals(try(first|(intro h;cases h;done)|(refine aj (ar I ?_);omega)|((repeat first|with_reducible (first|exact Kept.refl _|refine ez ?_|refine ek ?_|refine dT ?_)|(with_reducible refine en ?_ ?_;rotate_left;(simp only[pU,simprocAttr])));done)))))|(refine iT ((o p.path a7 H.1 H.2)) ?_ ?_;·simp only[dL,simprocAttr]<;>rfl)
     all_goals exact z
    .repeat any_goals first|simp only[dq,simprocAttr]|(refine bY (λh=>?_) (λh=>?_))<;>((try simp only[h]);(try simp only[jc]at h);(try omega))|apply p7 rfl rfl
     all_goals exact .refl _
def Z8:CF GL f256 [61] [] 256:=ji
abbrev Gz:List V:=[I 0,I 0,I 0,I 0,I 0,I 0,I 0,I 0,I 0,I 0,I 0,I 0,I 0,S [],V.aP,V.aP,V.aP]
abbrev Vt(o:Op)(v:V)(pv:V):List V:=[I o.kind,I o.W.J,I o.W.seq,I o.W.k,I o.to.J,I o.to.seq,I o.to.k,I o.spot.i9,I o.spot.k3,I o.spot.idx,I o.n,I o.eB,I o.eh,S o.bW,e9 o.F,pv,v]
abbrev Z9(o:Op):List V:=[I o.kind,I o.W.J,I o.W.seq,I o.W.k,I o.to.J,I o.to.seq,I o.to.k,I o.spot.i9,I o.spot.k3,I o.spot.idx,I o.n,I o.eB,I o.eh,S o.bW,e9 o.F,V.aP,V.aP]
abbrev oz3(o:Op):List V:=[I o.kind,I o.W.J,I o.W.seq,I o.W.k,I o.to.J,I o.to.seq,I o.to.k,I o.spot.i9,I o.spot.k3,I o.spot.idx,I o.n,I o.eB,I o.eh,S o.bW,V.aP,V.aP,V.aP]
abbrev oz4(o:Op)(v:V):List V:=[I o.kind,I o.W.J,I o.W.seq,I o.W.k,I o.to.J,I o.to.seq,I o.to.k,I o.spot.i9,I o.spot.k3,I o.spot.idx,I o.n,I o.eB,I o.eh,S o.bW,e9 o.F,v,V.aP]
abbrev oz5(o:Op):List V:=[I o.kind,I o.W.J,I o.W.seq,I o.W.k,I o.to.J,I o.to.seq,I o.to.k,I o.spot.i9,I o.spot.k3,I o.spot.idx,I o.n,I o.eB,I o.eh,S [],V.aP,V.aP,V.aP]
def J8(l:List Int)(k:Int)(a:0<k):af 259 [fx l,I k] (.fn 304 [.ep [fx l],.ep [I k]]):=by
 refine pk f259 ?_ [100002,100003];repeat' first|refine k9 ?_|refine cs ?_ ?_<;>intro h<;>try omega|refine ec ?_|refine q1 ?_
 exact .refl _
def Oq(id:Nat)(b:T)(E:aJ)(W:Nat)(a:aJ):Prop:=a.box=eR E.box id (some [df b,I W,I 0])/\a.mp=E.mp/\a.Y=E.Y
def E4(id:Nat)(b r:T)(a:Nat)(l:List Int)(k:Nat)(j:Bool)(E:aJ)(hb:E.box id=some [df b,I a,I 0])(hd:b.drop a=cZ l++r)(t:a<=b.length)(D:b.length<=10000000)(u:∀n∈l,jv n)
 (h0:0<k) (y:l.length%k=0) (p:j=true->l.length=k):aI 256 [.bp id 0,I k,B j] E λv _ d=>v=fx l/\Oq id b E (a+(cZ l).length) d:=by
 have hlen:b.length=a+((cZ l).length+r.length):=by
  exact Pz
 have q:=JG l r av u;have o:=nO b a t;rw[hd]at o;simp only[df]at q o hb;have f:Int.tmod (l.length:Int) k=0:=by rw[<-jO,y];rfl
 generalize (cZ l).length=A at*
 have main:(j=true->l.length=k)->aI 256 [.bp id 0,I k,B j] E λv _ d=>v=fx l/\Oq id b E (a+A) d:=by
  intro p;refine bq Z8.ok rfl ?_;cases j with
  |true=>
   have z:=p rfl;repeat' first|simp(disch:=try exact om) only[gE,simprocAttr,hb,o,f]|refine cs ?_ ?_<;>intro h<;>try omega|refine lq q ?_|refine ec ?_
   exact Xk
  |false=>
   repeat' first|simp(disch:=try exact om) only[gE,simprocAttr,hb,o,f]|refine lq q ?_|refine ec ?_
   exact Xk
 exact main p
def gh.lt{sz:Nat}{h:aJ}{v:V}{xs:List V}(hm:gh sz h v xs){i:Nat}(e:bH v=some i):i<h.Y:=by
 obtain⟨_,⟨rfl,_⟩|⟨id,c,rest,rfl,dV,_⟩⟩:=hm
 .cases e
 .cases e;exact dV
def gh.aaa{sz:Nat}{h:aJ}{v:V}{xs:List V}{fz:ak}(hm:gh sz h v xs)(f:∀id,bH v=some id->fz id=h.box id):V.lM fz v (.sl sz xs):=by
 obtain⟨ho,⟨rfl,rfl⟩|⟨id,c,rest,rfl,dV,hb,o,p⟩⟩:=hm
 .exact .aP sz
 .refine .ms sz id 0 xs.length c (b1 xs++rest) (b1 xs++rest) xs (by rw[f id rfl,hb]) rfl (λj a b l d=>?_) rfl λi x hx=>?_
  .rw[l]at d;cases d;exact .refl _
  .exact Xr
def Ik{s:St}{t n t2 j:Nat}{ag:Bool}{a d f:V}(l:dw s (.load ag n (.tmp t))=some a)(h2:s.Z t2=d)(o:s.Z j=f)(p:a.dW=false)(q:d.dW=false)(r:f.dW=false):BF.result s [.cell t ag n,.tmp t2,.tmp j]=some (.hE [a,d,f],false):=by
 subst h2 o;simp[BF.result,BR.p2,BR.get,l,p,q,r]
def aab:CF GL f207 [2,6,20,160,178] [3,12] 207:=ji
def Ot:fL prog 304=true:=by kernel_rfl
def itP(a:Int×Int):List V:=[fx [a.1,a.2]]
def itR(a:ID):List V:=[fx [a.J,a.seq,a.k]]
def E5(l:List (Int×Int)):vO (jl l) 2 l.length=l.map itP:=by
 have hd:∀(l:List (Int×Int))(j:Nat),(jl l).drop (2*j)=jl (l.drop j):=by
  intro l;induction l with
  |nil=>intro j;simp[jl]
  |cons a r ih=>
   intro j;cases j with
   |zero=>rfl
   |succ j=>exact ih j
 exact Xt
def GA(l:List ID):vO (lf l) 3 l.length=l.map itR:=by
 have hd:∀(l:List ID)(j:Nat),(lf l).drop (3*j)=lf (l.drop j):=by
  intro l;induction l with
  |nil=>intro j;simp[lf]
  |cons a r ih=>
   intro j;cases j with
   |zero=>rfl
   |succ j=>exact ih j
 exact Xt
def mA{a:List UInt8}{n:Nat}{l r:List UInt8}(h:a.drop n=l++r):a.drop (n+l.length)=r:=by rw[<-dG,h,fY]
def Sg(o:Op)(hV:o.enc)(r b:T)(c7:b=oQ o++r)(aB:b.length<=10000000):af 207 [df b] (.hE [o.v,I (oQ o).length,I 0]):=by
 obtain⟨a7,ma,mn,mo,mB,hh,gb,h0⟩:=hV;have h2:∀n∈o.head,jv n:=by
  intro n hi;simp only[Op.head,bC,cI,gI]at hi;rcases hi with rfl|rfl|rfl|rfl|rfl|rfl|rfl|rfl|rfl|rfl|rfl|rfl|rfl
  all_goals simp only[a7]
 have d0:b.drop 0=cZ o.head++(dD o.bW++(g2 o.F++(cZ (jl o.cX)++(cZ (lf o.C)++r)))):=by rw[c7];simp only[oQ,cx,aG]
 have gf:=mA d0;have gk:=mA gf;have gn:=mA gk;have hk:=mA gn;have hlen:=ar List.length c7;simp only[oQ,ae]at hlen;have j4:b.length=0+(cZ o.head).length+(dD o.bW).length+(g2 o.F).length+(cZ (jl o.cX)).length+(cZ (lf o.C)).length+r.length:=av;have h3:=qQ o.cX;have h4:=sc o.C;have hl:=λE hb=>E4 1 b _ _ o.head 13 true E hb d0 av aB h2 av (by simp[Op.head]) (λ_=>by simp[Op.head]);have hn:=JE o.bW (g2 o.F++(cZ (jl o.cX)++(cZ (lf o.C)++r))) (by simp only[ae];omega);have c3:=JF o.F (cZ (jl o.cX)++(cZ (lf o.C)++r)) (by simp only[ae];omega);have c4:=λE hb=>E4 1 b _ _ (jl o.cX) 2 false E hb gn av aB hh av av (λh=>by cases h);have h5:=λE hb=>E4 1 b _ _ (lf o.C) 3 false E hb hk av aB h0 av av (λh=>by cases h);have ho:=yR (jl o.cX) 2 o.cX.length av av h3 av;rw[E5]at ho;have hq:=yR (lf o.C) 3 o.C.length av av h4 av;rw[GA]at hq;have h6:=J8 (jl o.cX) 2 av;have ih:=J8 (lf o.C) 3 av;have z:=nO b _ (show 0+(cZ o.head).length<=b.length by omega);have D:=nO b _ (show 0+(cZ o.head).length+(dD o.bW).length<=b.length by omega);rw[gf]at z;rw[gk]at D;have hr:(oQ o).length=0+(cZ o.head).length+(dD o.bW).length+(g2 o.F).length+(cZ (jl o.cX)).length+(cZ (lf o.C)).length:=by simp only[oQ,ae];omega
 rw[hr];clear hr d0 gf gk gn hk hlen;simp only[df]at hn c3 z D;generalize 0+(cZ o.head).length=d at*
 generalize (dD o.bW).length=u at*
 generalize (g2 o.F).length=ab at*
 generalize (cZ (jl o.cX)).length=ai at*
 generalize (cZ (lf o.C)).length=aC at*
 simp only[Op.head]at hl;refine Pure.gg (by simp only[du]) (by simp only[du]) (eU hm aab.ok (bF rfl) ?_);repeat' first|simp only[gE,simprocAttr,HX.act]|refine ec ?_
 refine bm rfl (hl _ (by(try simp only[sE]);try rfl)) ?_ ?_ ?_
 .rfl
 .refine nG ?_;simp only[dL]<;>rfl
 rintro _ _ a7 ⟨rfl,c9,hs,dd⟩;have a9:a7.box 0=some Gz/\a7.box 1=some [df b,I (d:Nat),I 0]/\a7.box 2=some Gz/\a7.Y=3:=by
  rw[c9,dd];simp only[sE,simprocAttr]
  and_intros
  all_goals rfl
 clear c9 hs dd;obtain⟨j5,j6,j7,_⟩:=id a9;repeat' simp(disch:=try exact om) only[gE,simprocAttr,HX.act,z,D,a9]
 refine cC (n:=17) (off:=0) (cells:=Gz) ?_ ?_ bR λb3 t1e t1c t1l dg ht dp t1f=>?_
 .exact sT
 .exact sT
 have T1:=al t1e (al t1c (al t1l t1f));have bi:b3.E.box 0=some Gz/\b3.E.box 1=some [df b,I (d:Nat),I 0]/\b3.E.box 2=some (oz5 o)/\b3.E.Y=3:=by
  rw[dg,dp];simp only[sE,simprocAttr,a9]
  and_intros
  all_goals first|rfl|trivial
 clear dg ht dp;obtain⟨t10,t11,t12,_⟩:=id bi;repeat' first|simp(disch:=try exact om) only[gE,simprocAttr,HX.act,z,D,T1,bi]|refine lq hn ?_|refine ec ?_
 refine cC (n:=1) (off:=13) (cells:=(oz5 o)) ?_ ?_ bR λQ t2e t2c t2l ds hu dF t2f=>?_
 .exact sT
 .exact sT
 have b5:=al T1 (al t2e (al t2c (al t2l t2f)));have aD:Q.E.box 0=some Gz/\Q.E.box 1=some [df b,I (d:Nat),I 0]/\Q.E.box 2=some (oz3 o)/\Q.E.Y=3:=by
  rw[ds,dF];simp only[sE,simprocAttr,T1,bi]
  and_intros
  all_goals first|rfl|trivial
 clear ds hu dF;obtain⟨t20,t21,t22,_⟩:=id aD;repeat' simp only[gE,simprocAttr,HX.act,z,D,b5,aD]
 refine cC (n:=1) (off:=2) (cells:=[df b,I (d:Nat),I 0]) ?_ ?_ bR λb6 t3e t3c t3l dU hv ea t3f=>?_
 .exact sT
 .simp only[sE,simprocAttr,b5,aD];rfl
 have b7:=al b5 (al t3e (al t3c (al t3l t3f)));have a0:b6.E.box 0=some Gz/\b6.E.box 1=some [df b,I (d:Nat),I 0]/\b6.E.box 2=some (oz3 o)/\b6.E.Y=3:=by
  rw[dU,ea];simp only[sE,simprocAttr,b5,aD]
  and_intros
  all_goals first|rfl|trivial
 clear dU hv ea;obtain⟨t30,t31,t32,_⟩:=id a0;repeat' simp only[gE,simprocAttr,HX.act,z,D,b7,a0]
 refine cC (n:=1) (off:=1) (cells:=[df b,I (d:Nat),I 0]) ?_ ?_ bR λca t4e t4c t4l eb hw ed t4f=>?_
 .exact sT
 .simp only[sE,simprocAttr,b7,a0];rfl
 have gp:=al b7 (al t4e (al t4c (al t4l t4f)));have bo:ca.E.box 0=some Gz/\ca.E.box 1=some [df b,I (d+u:Nat),I 0]/\ca.E.box 2=some (oz3 o)/\ca.E.Y=3:=by
  rw[eb,ed];simp only[sE,simprocAttr,b7,a0]
  and_intros
  all_goals first|rfl|trivial
 clear eb hw ed;obtain⟨t40,t41,t42,_⟩:=id bo;repeat' first|simp(disch:=try exact om) only[gE,simprocAttr,HX.act,z,D,gp,bo]|refine lq c3 ?_|refine ec ?_
 refine cC (n:=1) (off:=14) (cells:=(oz3 o)) ?_ ?_ bR λcb t5e t5c t5l el hy et t5f=>?_
 .exact sT
 .exact sT
 have cc:=al gp (al t5e (al t5c (al t5l t5f)));have a1:cb.E.box 0=some Gz/\cb.E.box 1=some [df b,I (d+u:Nat),I 0]/\cb.E.box 2=some (Z9 o)/\cb.E.Y=3:=by
  rw[el,et];simp only[sE,simprocAttr,gp,bo]
  and_intros
  all_goals first|rfl|trivial
 clear el hy et;obtain⟨t50,t51,t52,_⟩:=id a1;repeat' simp only[gE,simprocAttr,HX.act,z,D,cc,a1]
 refine cC (n:=1) (off:=2) (cells:=[df b,I (d+u:Nat),I 0]) ?_ ?_ bR λch t6e t6c t6l eN hz e1 t6f=>?_
 .exact sT
 .simp only[sE,simprocAttr,cc,a1];rfl
 have ci:=al cc (al t6e (al t6c (al t6l t6f)));have a2:ch.E.box 0=some Gz/\ch.E.box 1=some [df b,I (d+u:Nat),I 0]/\ch.E.box 2=some (Z9 o)/\ch.E.Y=3:=by
  rw[eN,e1];simp only[sE,simprocAttr,cc,a1]
  and_intros
  all_goals first|rfl|trivial
 clear eN hz e1;obtain⟨t60,t61,t62,_⟩:=id a2;repeat' simp only[gE,simprocAttr,HX.act,z,D,ci,a2]
 refine cC (n:=1) (off:=1) (cells:=[df b,I (d+u:Nat),I 0]) ?_ ?_ bR λcp t7e t7c t7l e2 hB e3 t7f=>?_
 .exact sT
 .simp only[sE,simprocAttr,ci,a2];rfl
 have a:=al ci (al t7e (al t7c (al t7l t7f)));have a3:cp.E.box 0=some Gz/\cp.E.box 1=some [df b,I (d+u+ab:Nat),I 0]/\cp.E.box 2=some (Z9 o)/\cp.E.Y=3:=by
  rw[e2,e3];simp only[sE,simprocAttr,ci,a2]
  and_intros
  all_goals first|rfl|trivial
 clear e2 hB e3;obtain⟨t70,t71,t72,_⟩:=id a3;repeat' simp only[gE,simprocAttr,HX.act,z,D,a,a3]
 refine bm rfl (c4 _ (by(try simp only[sE,a,a3]);try rfl)) ?_ ?_ ?_
 .rfl
 .refine nG ?_;simp only[dL]<;>rfl
 rintro _ _ c1 ⟨rfl,e4,hD,e5⟩;have a4:c1.box 0=some Gz/\c1.box 1=some [df b,I (d+u+ab+ai:Nat),I 0]/\c1.box 2=some (Z9 o)/\c1.Y=3:=by
  rw[e4,e5];simp only[sE,simprocAttr,a,a3]
  and_intros
  all_goals first|rfl|trivial
 clear e4 hD e5;obtain⟨j8,j9,kd,_⟩:=id a4;repeat' simp only[gE,simprocAttr,HX.act,z,D,a,a4]
 refine bm rfl (h5 _ (by(try simp only[sE,a,a4]);try rfl)) ?_ ?_ ?_
 .rfl
 .refine nG ?_;simp only[dL]<;>rfl
 rintro _ _ c2 ⟨rfl,e6,hF,e7⟩;have a5:c2.box 0=some Gz/\c2.box 1=some [df b,I (d+u+ab+ai+aC:Nat),I 0]/\c2.box 2=some (Z9 o)/\c2.Y=3:=by
  rw[e6,e7];simp only[sE,simprocAttr,a,a4]
  and_intros
  all_goals first|rfl|trivial
 clear e6 hF e7;obtain⟨kk,ks,ln,_⟩:=id a5;repeat' first|simp only[gE,simprocAttr,HX.act,z,D,a,a5]|refine lq h6 ?_
 refine yI (f:=304) (cap:=[.ep [fx (jl o.cX)],.ep [I 2]]) (items:=o.cX.map itP) (λj E=>E.Y>=3/\E.box 0=some Gz/\E.box 1=some [df b,I (d+u+ab+ai+aC:Nat),I 0]/\∃v,E.box 2=some (oz4 o v)/\gh 2 E v ((o.cX.take j).map ng)/\(∀i,bH v=some i->3<=i)) ?_ Ot ho ?_ rfl rfl ?_ ?_ ?_ ?_
 ·(try simp only[sE,a,a5]);try rfl
 .exact Ha
 .simp only[sE,simprocAttr,a,a5];exact⟨.aP,rfl,gh.nil,λi e=>(by cases e)⟩
 .rintro j E it ⟨c5,K,H,v,L,R,ac⟩ aA;rw[bB]at aA;obtain⟨x,hx,rfl⟩:=bS.1 aA;obtain⟨hj,hxe⟩:=aH.1 hx;have io:=R.one;unfold itP;repeat' first|simp(disch:=try exact om) only[gE,simprocAttr,cO,K,H,L,a]|refine fg ?_ ?_
  all_goals
   refine iE (xs:=(o.cX.take j).map ng) (ys:=[ng x]) ?_ ?_ ?_ ?_ ?_ rfl ?_ ?_ λN p Pi hb ha=>?_
   .exact sT
   .exact sT
   .intro y br;simp at br;subst br;rfl
   .exact sT
   .simp only[da];intro l aB;cases aB
   .exact PA
   .intro _ hc;cases hc
   have o2:=Pi.one;have o3:=Pi.kb;have P:∀i,bH v=some i->i≠0/\i≠1/\i≠2:=λi e=>by have:=ac i e;omega
   have t:bt (bH v) E p:=sR hb;have a6:bH N=bH v\/bH N=some E.Y:=sR ha;have hd:p.box 0=some Gz:=by rw[t.box 0 av (λe=>(P _ e).1 rfl)];exact K
   have q1:p.box 1=some [df b,I (d+u+ab+ai+aC:Nat),I 0]:=by rw[t.box 1 av (λe=>(P _ e).2.1 rfl)];exact H
   have js:p.box 2=some (oz4 o v):=by rw[t.box 2 av (λe=>(P _ e).2.2 rfl)];exact L
   have jA:=t.Y;have Mh:∀i,bH N=some i->3<=i:=λi e=>by
    rcases a6 with h|h
    .exact ac i (h▸e)
    .have:=au (h.symm.trans e);omega
  all_goals repeat' simp only[gE,simprocAttr,cO,a]
  all_goals
   refine cC (n:=1) (off:=15) (cells:=(oz4 o v)) ?_ ?_ bR λQ bs bu bv bU hH b2 hK=>?_
   .exact sT
   .exact XA
   have tb:Q.E.box=eR p.box 2 (some [I o.kind,I o.W.J,I o.W.seq,I o.W.k,I o.to.J,I o.to.seq,I o.to.k,I o.spot.i9,I o.spot.k3,I o.spot.idx,I o.n,I o.eB,I o.eh,S o.bW,e9 o.F,N,V.aP]):=by rw[bU];simp only[sE,simprocAttr,a];rw[o3];rfl
   have hM:Q.E.Y=p.Y:=b2.trans sT
  all_goals repeat' simp only[gE,simprocAttr,cO,bs,bu,bv,a]
  all_goals
   refine⟨av,by rw[tb,bE _ _ dt];exact hd,by rw[tb,bE _ _ dt];exact q1,N,by rw[tb,bl],?_,Mh⟩
   .exact XL
 .exact kN
 .rintro E ⟨c5,K,H,v,L,R,ac⟩;rw[aq,be]at R;generalize ls:v=q at*
  repeat' first|simp only[gE,simprocAttr,HX.act,cO,K,H,L,a]|refine lq ih ?_
  refine yI (f:=304) (cap:=[.ep [fx (lf o.C)],.ep [I 3]]) (items:=o.C.map itR) (λj E=>E.Y>=3/\E.box 0=some Gz/\E.box 1=some [df b,I (d+u+ab+ai+aC:Nat),I 0]/\∃v,E.box 2=some (Vt o v q)/\gh 3 E v ((o.C.take j).map ID.v)/\(∀i,bH v=some i->3<=i)/\(∀i,bH v=some i->bH q≠some i)/\gh 2 E q (o.cX.map ng)/\(∀i,bH q=some i->3<=i)) ?_ Ot hq ?_ rfl rfl ?_ ?_ ?_ ?_
  ·(try simp only[sE,K,H,L,a]);try rfl
  .exact Ha
  .simp only[sE,simprocAttr,K,H,L,a];exact⟨c5,.aP,by rfl,gh.nil,λi e=>(by cases e),λi e=>(by cases e),R,ac⟩
  .rintro j E it ⟨c5,K,H,v,L,R,ac,he,a8,c6⟩ aA;rw[bB]at aA;obtain⟨x,hx,rfl⟩:=bS.1 aA;obtain⟨hj,hxe⟩:=aH.1 hx;have io:=R.one;unfold itR;repeat' first|simp(disch:=try exact om) only[gE,simprocAttr,cO,K,H,L,a]|refine fg ?_ ?_
   all_goals
    refine iE (xs:=(o.C.take j).map ID.v) (ys:=[ID.v x]) ?_ ?_ ?_ ?_ ?_ rfl ?_ ?_ λN p Pi hb ha=>?_
    .exact sT
    .exact sT
    .intro y br;simp at br;subst br;rfl
    .exact sT
    .simp only[da];intro l aB;cases aB
    .exact PA
    .intro _ hc;cases hc
    have o2:=Pi.one;have o3:=Pi.kb;have P:∀i,bH v=some i->i≠0/\i≠1/\i≠2:=λi e=>by have:=ac i e;omega
    have t:bt (bH v) E p:=sR hb;have a6:bH N=bH v\/bH N=some E.Y:=sR ha;have hd:p.box 0=some Gz:=by rw[t.box 0 av (λe=>(P _ e).1 rfl)];exact K
    have q1:p.box 1=some [df b,I (d+u+ab+ai+aC:Nat),I 0]:=by rw[t.box 1 av (λe=>(P _ e).2.1 rfl)];exact H
    have js:p.box 2=some (Vt o v q):=by rw[t.box 2 av (λe=>(P _ e).2.2 rfl)];exact L
    have jA:=t.Y;have Mh:∀i,bH N=some i->3<=i:=λi e=>by
     rcases a6 with h|h
     .exact ac i (h▸e)
     .have:=au (h.symm.trans e);omega
   all_goals repeat' simp only[gE,simprocAttr,cO,a]
   all_goals
    refine cC (n:=1) (off:=16) (cells:=(Vt o v q)) ?_ ?_ bR λQ bs bu bv bU hH b2 hK=>?_
    .exact sT
    .exact XA
    have tb:Q.E.box=eR p.box 2 (some [I o.kind,I o.W.J,I o.W.seq,I o.W.k,I o.to.J,I o.to.seq,I o.to.k,I o.spot.i9,I o.spot.k3,I o.spot.idx,I o.n,I o.eB,I o.eh,S o.bW,e9 o.F,q,N]):=by rw[bU];simp only[sE,simprocAttr,a];rw[o3];rfl
    have hM:Q.E.Y=p.Y:=b2.trans sT
   all_goals repeat' simp only[gE,simprocAttr,cO,bs,bu,bv,a]
   all_goals
    refine⟨av,by rw[tb,bE _ _ dt];exact hd,by rw[tb,bE _ _ dt];exact q1,N,by rw[tb,bl],?_,Mh,?_,?_,c6⟩
    .exact XL
    .intro i e hO;rcases a6 with h|h
     .exact he i (h▸e) hO
     .have hh:=au (h.symm.trans e);have gb:=a8.lt hO;omega
    .refine gh.frame a8 (λi XM=>?_) av;have gb:=a8.lt XM;rw[tb,bE _ _ (by rintro rfl;have:=c6 _ XM;omega)];exact t.box i gb (λe=>he i e XM)
  .exact kN
  .rintro E ⟨c5,K,H,v,L,R,ac,he,a8,c6⟩;rw[aq,be]at R;have hf:=a8.one;have hg:=R.one;repeat' first|simp only[gE,simprocAttr,HX.act,cO,K,H,L,hf,hg,a]|refine fg ?_ ?_
   all_goals
    refine cC (n:=17) (off:=0) (cells:=Gz) ?_ ?_ bR λad fa fr fs hQ l5 hR fB=>?_
    .exact sT
    .simp only[sE,simprocAttr,a];simp only[jR,V.cells,aM,aT,bN,ce,hf,hg];rfl
    have tb:ad.E.box=eR E.box 0 (some (Vt o v q)):=hQ.trans sT;have hM:ad.E.Y=E.Y:=hR.trans sT;have hS:ad.E.box 0=some (Vt o v q):=by rw[tb,bl]
    have jB:ad.E.box 1=some [df b,I (d+u+ab+ai+aC:Nat),I 0]:=by rw[tb,bE _ _ dt];exact H
   all_goals repeat' simp only[gE,simprocAttr,HX.act,cO,hS,jB,fa,fr,fs,fB,hf,hg,a]
   all_goals
    have j2:V.lM (oE ad.E ((bH q).toList++(bH v).toList)) q (.sl 2 (o.cX.map ng)):=a8.aaa λid e=>by rw[pm (by simp[e]),tb,bE _ _ (by rintro rfl;have:=c6 _ e;omega)]
    have j3:V.lM (oE ad.E ((bH q).toList++(bH v).toList)) v (.sl 3 (o.C.map ID.v)):=R.aaa λid e=>by rw[pm (by simp[e]),tb,bE _ _ (by rintro rfl;have:=ac _ e;omega)]
    refine⟨nE,.hE [.agg (Vt o v q),I (d+u+ab+ai+aC:Nat),I 0],false,oE ad.E ((bH q).toList++(bH v).toList),ad.E.less ((bH q).toList++(bH v).toList),_,false,Ik (by(first|(simp(disch:=try exact om) only[dL,simprocAttr,hS,bh,cO,fa,fr,fs,fB,a]<;>rfl)|rfl)) sT sT rfl rfl rfl,mf _ _,?_,λh=>(by cases h),rfl,rfl⟩;have lo:V.lM (oE ad.E ((bH q).toList++(bH v).toList)) (.agg (Vt o v q)) o.v:=.agg _ _ rfl (y9.cons (.refl _) (.cons (.refl _) (.cons (.refl _) (.cons (.refl _) (.cons (.refl _) (.cons (.refl _) (.cons (.refl _) (.cons (.refl _) (.cons (.refl _) (.cons (.refl _) (.cons (.refl _) (.cons (.refl _) (.cons (.refl _) (.cons (.refl _) (.cons (.refl _) (.cons j2 (.cons j3 .nil))))))))))))))))).2;exact .hE _ _ rfl (y9.cons lo (.cons (.refl _) (.cons (.refl _) .nil))).2
def aac:CF GL f156 [] [1,4,17,19,23,28,30,31] 156:=ji
def LC(l:List Name)(j:Nat)(h:j<l.length):(lE l)[2*j]?=some l[j].J/\(lE l)[2*j+1]?=some l[j].seq:=by
 induction l generalizing j with
 |nil=>cases h
 |cons a r ih=>
  cases j with
  |zero=>exact⟨rfl,rfl⟩
  |succ j=>exact ih j (by simpa using h)
def Reads.trans{id:Nat}{b:T}{h f h2:aJ}{x y:Nat}(a:Reads id b h x f)(d:Reads id b f y h2):Reads id b h y h2:=
 ⟨by rw[d.1,a.1];funext i;unfold eR;split<;>rfl,by rw[d.2.1,a.2.1],by rw[d.2.2,a.2.2]⟩
def lkH:Option Loc->Option Loc
 |some l=>if Pn l=true then none else some l
 |none=>none
def yl:(∀(s:St) h t,(s.ct h).lk t=lkH (s.lk t))/\(∀(s:St) h i j k,(s.ct h).fc i j k=s.fc i j k)/\lkH none=none/\(∀t,lkH (some (.var t))=some (.var t))/\(∀a b c,lkH (some (.cell a b c))=some (.cell a b c)):=
 ⟨λs h t=>by unfold lkH St.ct iO;rfl,λ_ _ _ _ _=>rfl,rfl,λ_=>rfl,λ_ _ _=>rfl⟩
def Sh(id:Nat)(e:aV)(a3:e.enc)(hz:e.plain)(e6:e.cU.length<=16)(b r:T)(a:Nat)(E:aJ)(hb:E.box id=some [df b,I a])(e7:b.drop a=pp e++r)(hq:a<=b.length)(a4:b.length<=10000000):
 aI 156 [.bp id 0] E λv _ fa=>v=e.v/\Reads id b E (a+(pp e).length) fa:=by
 have hlen:=ar List.length e7;rw[aS,pp,q5,ae,ae,ae]at hlen;have d0:b.drop a=cZ [e.J,e.seq,e.ei,e.kind]++(cZ (lE e.C)++(kc e++r)):=by rw[e7];simp only[pp,q5,aG]
 have fr:=mA d0;have ai:=mA fr;have ab:=s5 e.C;have h0:=a3.C;have hr:=xr id b _ a [e.J,e.seq,e.ei,e.kind] E hb d0 hq a4 a3.head;have hs:=λE hb=>xr id b _ _ (lE e.C) E hb fr av a4 a3.Vo;have bi:=xq;have ht:=kU e.kind;have hu:(pp e).length=(cZ [e.J,e.seq,e.ei,e.kind]).length+(cZ (lE e.C)).length+(kc e).length:=by simp only[pp,q5,ae]
 rw[hu];generalize (cZ [e.J,e.seq,e.ei,e.kind]).length=N at*
 generalize (cZ (lE e.C)).length=P at*
 refine eU hm aac.ok (bF rfl) ?_;repeat' simp only[gE,simprocAttr]
 refine bm rfl hr ?_ ?_ ?_
 .rfl
 .refine nG ?_;simp only[dL]<;>rfl
 rintro _ _ fs ⟨rfl,fB⟩;have b3:=fB.1;have gb:fs.box id=some [df b,I (a+N:Nat)]:=by rw[b3,bl]
 repeat' first|refine qu ?_|refine lq bi ?_
 refine bm rfl (hs _ gb) ?_ ?_ ?_
 .rfl
 .refine nG ?_;simp only[dL]<;>rfl
 rintro _ _ b5 ⟨rfl,gf⟩;have gk:=gf.1;have bU:=fB.trans gf;have a2:b5.box id=some [df b,I (a+N+P:Nat)]:=by rw[gk,bl]
 have et:Int.tmod ((lE e.C).length:Int) 2=0:=by rw[ab,show((2*e.C.length:Nat):Int)=2*(e.C.length:Int)from by omega];exact Int.mul_tmod_right _ _
 repeat' first|simp only[gE,simprocAttr,et]|refine lq bi ?_
 refine dQ rfl rfl (λ(j:Nat) t=>j<=e.C.length/\t.Z 6=I (2*j:Nat)/\t.E=b5/\t.G 2=1/\t.loc 2 0=[I 0,I 0,I 0,I 0,V.aP,I 0,I 0,I 0,I 0,I 0,I 0,I 0,I 0,I 0,I 0,I 0,I 0,I 0,S [],V.aP,V.aP,V.aP,S [],I 0,I 0,S [],V.aP,I 0,I 0,I 0,V.aP,I 0]/\t.G 4=1/\
  ∃ac,t.loc 4 0=[I e.J,I e.seq,I e.ei,I e.kind,ac,I 0,I 0,I 0,I 0,I 0,I 0,I 0,I 0,I 0,I 0,I 0,I 0,I 0,S [],V.aP,V.aP,V.aP,S [],I 0,I 0,S [],V.aP,I 0,I 0,I 0,V.aP,I 0]/\((j=0/\ac=.aP)\/(0<j/\ac=jZ (e.C.take j)/\t.fc 4 0 4=true))) (λj=>e.C.length-j) 0 ?_ ?_
 .refine⟨aL _,?_⟩;simp only[sE,simprocAttr,aO,aw,ay];exact⟨.aP,rfl,.inl rfl⟩
 rintro j t ⟨h3,K,d,q,y,z,ac,l,dp⟩ aA;have D:t.Z 0=.bp id 0:=by rw[aA 0 dt];rfl
 have o:t.Z 2=.A 2 0 0:=by rw[aA 2 dt];rfl
 have H:t.Z 4=.A 4 0 0:=by rw[aA 4 dt];rfl
 have L:t.Z 5=fx (lE e.C):=by rw[aA 5 dt];rfl
 rcases am j e.C.length with R|R
 .obtain⟨hw,hy⟩:=LC e.C j R;have g1:=(aH.1 hw).2;have gn:=(aH.1 hy).2;have hB:((2*j:Nat)+1:Int).toNat=2*j+1:=av;rcases dp with⟨rfl,rfl⟩|⟨dp,rfl,gp⟩
  .repeat' first|simp(disch:=try exact om) only[gE,simprocAttr,ab,g1,gn,K,d,q,y,z,l,D,o,H,L,xH]|refine cs ?_ ?_<;>intro h<;>try omega
   all_goals
    refine⟨0+1,⟨?_⟩,⟨av⟩⟩;simp only[da,simprocAttr,K,d,q,y,z,l,D,o,H,L,xH,aO,aw,ay]
   all_goals
    refine⟨R,_,rfl,.inr ?_⟩;rw[show e.C.take 1=[e.C[0]]from by rw[show(1:Nat)=0+1 from rfl,bj R];rfl];rfl
  .repeat' first|simp(disch:=try exact om) only[gE,simprocAttr,ab,g1,gn,hB,K,d,q,y,z,l,gp,D,o,H,L,xH]|refine cs ?_ ?_<;>intro h<;>try omega
   all_goals
    refine⟨j+1,⟨?_⟩,⟨av⟩⟩;simp only[da,simprocAttr,K,d,q,y,z,l,gp,D,o,H,L,xH,aO,aw,ay]
   all_goals
    refine⟨R,ar (V.int .i64) av,_,rfl,.inr ⟨av,?_⟩⟩;rw[bj R,aE];rfl
 .obtain rfl:j=e.C.length:=av;rw[be]at dp;have Pw:ac.one=true/\V.Le ac (jZ e.C):=by
   rcases dp with⟨h,rfl⟩|⟨_,rfl,_⟩
   .exact Yg
   .exact⟨rfl,.refl _⟩
  have f:=Pw.1;have hD:af 147 [I 0] (.agg [B true,B false,B false,B false,B false]):=kU 0;have hF:af 147 [I 1] (.agg [B false,B false,B false,B false,B false]):=kU 1;have hH:af 147 [I 2] (.agg [B false,B true,B false,B false,B false]):=kU 2;have hM:af 147 [I 3] (.agg [B false,B false,B true,B true,B false]):=kU 3;have hO:af 147 [I 4] (.agg [B false,B false,B true,B true,B false]):=kU 4;have hQ:af 147 [I 5] (.agg [B false,B false,B true,B false,B true]):=kU 5;have hR:af 147 [I 6] (.agg [B false,B false,B true,B false,B true]):=kU 6;clear aA ht;by_cases bv:e.kind=3\/e.kind=4
  .have u:af 147 [I e.kind] (.agg [B false,B false,B true,B true,B false]):=by
    rcases bv with h|h<;>rw[h]
    .exact hM
    .exact hO
   have Q:kc e=cZ [e.id.J,e.id.seq,e.id.k]++(cB e.cU.length++e.cU.flatMap gH):=by
    unfold kc;rcases bv with h|h<;>rw[h]<;>rfl
   rw[Q,aG,aG]at ai;rw[Q,ae,ae]at hlen;have ds:=mA ai;have hS:=mA ds;have dV:∀n∈[e.id.J,e.id.seq,e.id.k],jv n:=λn ha=>a3.id n (by
    simp only[bC,cI,gI]at ha ⊢
    rcases ha with h|h|h
    .exact .inl h
    .exact .inr (.inl h)
    .exact .inr (.inr (.inl h)))
   have eN:=λE hb=>xr id b _ _ [e.id.J,e.id.seq,e.id.k] E hb ai av a4 dV;have e1:=λE hb=>JV id b _ _ e.cU.length 16 E hb ds av a4 e6 dt;generalize hc:(cZ [e.id.J,e.id.seq,e.id.k]).length=b2 at*
   generalize hd:(cB (e.cU.length:Int)).length=b6 at*
   repeat' first|simp only[gE,simprocAttr,ab,K,d,q,y,z,l,D,o,H,L,f,aO,aw,ay]|refine cs ?_ ?_<;>intro h<;>try omega|refine lq u ?_|refine ec ?_
   refine bm rfl (eN _ (by(try simp only[da,d]);exact a2)) ?_ ?_ ?_
   .rfl
   .refine nG ?_;simp only[dL]<;>rfl
   rintro _ _ bo ⟨rfl,ad⟩;have a5:=bU.trans (by(try simp only[da,d]at ad);exact ad);have b7:=a5.1;have ca:bo.box id=some [df b,I (a+N+P+b2:Nat)]:=by rw[b7,bl]
   repeat' first|simp(disch:=try exact om) only[gE,simprocAttr,K,d,q,y,z,l,D,o,H,L,f,aO,aw,ay]|refine lq bi ?_
   refine bm rfl (e1 _ (by(try simp only[sE,d]);exact ca)) ?_ ?_ ?_
   .rfl
   .refine nG ?_;simp only[dL]<;>rfl
   rintro _ _ he ⟨rfl,cb⟩;have e2:=a5.trans (by(try simp only[sE,d]at cb);exact cb);repeat' simp only[gE,simprocAttr,K,d,q,y,z,l,D,o,H,L,f,aO,aw,ay]
   refine dQ rfl rfl (λ(j:Nat) t=>j<=e.cU.length/\t.Z 167=I j/\Reads id b E (a+N+P+b2+b6+((e.cU.take j).flatMap gH).length) t.E/\t.G 2=1/\t.loc 2 0=[I 0,I 0,I 0,I 0,V.aP,I 0,I 0,I 0,I 0,I 0,I 0,I 0,I 0,I 0,I 0,I 0,I 0,I 0,S [],V.aP,V.aP,V.aP,S [],I 0,I 0,S [],V.aP,I 0,I 0,I 0,V.aP,I 0]/\t.G 4=1/\
    ∃bu,t.loc 4 0=[I e.J,I e.seq,I e.ei,I e.kind,ac,I 0,I 0,I 0,I 0,I 0,I 0,I 0,I 0,I 0,I 0,I 0,I 0,I 0,S [],V.aP,V.aP,V.aP,S [],I 0,I 0,S [],V.aP,I e.id.J,I e.id.seq,I e.id.k,bu,I 0]/\((j=0/\bu=.aP)\/(0<j/\bu=ny (e.cU.take j)/\t.fc 4 0 30=true))) (λj=>e.cU.length-j) 0 ?_ ?_
   .refine⟨aL _,?_⟩;simp only[sE,simprocAttr,K,d,q,y,z,l,D,o,H,L,f,aO,aw,ay];exact⟨e2,.aP,rfl,.inl rfl⟩
   rintro j cc ⟨h4,a6,ch,aB,aC,aD,bu,a0,dF⟩ aA;have a7:cc.Z 0=.bp id 0:=by rw[aA 0 dt];exact D
   have a1:cc.Z 2=.A 2 0 0:=by rw[aA 2 dt];exact o
   have a8:cc.Z 4=.A 4 0 0:=by rw[aA 4 dt];exact H
   have a9:cc.Z 166=I e.cU.length:=by rw[aA 166 dt];rfl
   have dU:((e.cU.take j).flatMap gH).length+((e.cU.drop j).flatMap gH).length=(e.cU.flatMap gH).length:=by rw[<-ae,<-cg,cu]
   have b3:=ch.1;have eb:cc.E.box id=some [df b,I (a+N+P+b2+b6+((e.cU.take j).flatMap gH).length:Nat)]:=by rw[b3,bl]
   have ci:b.drop (a+N+P+b2+b6+((e.cU.take j).flatMap gH).length)=(e.cU.drop j).flatMap gH++r:=by
    apply mA;rw[<-aG,<-cg,cu];exact hS
   rcases am j e.cU.length with R|R
   .rw[bI R,cf]at ci dU;have br:((e.cU.take (j+1)).flatMap gH).length=((e.cU.take j).flatMap gH).length+(gH e.cU[j]).length:=by rw[bj R,cg,ae];simp
    have cp:=hz.pid _ (ah R);have hf:=a3.path _ (ah R);have c1:e.cU.take (j+1)=e.cU.take j++[e.cU[j]]:=bj R;generalize e.cU[j]=p at ci dU br cp hf c1;generalize e3:(if p.main=true then 1 else 0:Nat)=mn at*
    have ed:gH p=cB (mn:Nat)++g2 p.path:=by rw[gH,<-e3,mM];cases p.main<;>rfl
    have hg:mn<=1:=by rw[<-e3];split<;>decide
    have el:(((mn:Nat):Int)==1)=p.main:=by rw[<-e3];cases p.main<;>rfl
    rw[ed,aG,aG]at ci;rw[ed]at br dU;rw[ae]at br;rw[ae,ae]at dU;have hh:=mA ci;have ea:=λE hb=>JV id b _ _ mn 1 E hb ci av a4 hg dt;have hi:=λE hb=>JU id b _ _ p.path E hb hh av a4;rcases dF with⟨rfl,rfl⟩|⟨dF,rfl,hj⟩
    .repeat' first|simp only[gE,simprocAttr,a6,aB,aC,aD,a0,a7,a1,a8,a9,aO,aw,ay]|refine cs ?_ ?_<;>intro h<;>try omega
     refine bm rfl (ea _ (by(try simp only[da]);exact eb)) ?_ ?_ ?_
     .rfl
     .refine nG ?_;simp only[dL]<;>rfl
     rintro _ _ hk ⟨rfl,c2⟩;have c5:=ch.trans (by(try simp only[da]at c2);exact c2);have c6:=c5.1;have c7:=(nK c6 id).trans (bl _ _ _);repeat' first|simp only[gE,simprocAttr,yl,a6,aB,aC,aD,a0,a7,a1,a8,a9,aO,aw,ay,el]|refine fg ?_ ?_
     all_goals
      refine bm rfl (hi _ (by(try simp only[sE]);exact c7)) ?_ ?_ ?_
      .rfl
      .refine nG ?_;simp only[dL]<;>rfl
      rintro _ _ c9 ⟨rfl,bs⟩;have dd:=c5.trans (by(try simp only[sE]at bs);exact bs);have dg:Reads id b E (a+N+P+b2+b6+((e.cU.take (0+1)).flatMap gH).length) c9:=by rw[br,<-cn,<-cn];exact dd
      repeat' simp(disch:=try exact om) only[gE,simprocAttr,yl,a6,aB,aC,aD,a0,a7,a1,a8,a9,aO,aw,ay,xH]
     all_goals
      refine⟨0+1,⟨?_⟩,⟨av⟩⟩;simp only[sE,simprocAttr,yl,a6,aB,aC,aD,a0,a7,a1,a8,a9,aO,aw,ay,xH];refine⟨R,dg,_,rfl,.inr ?_⟩;rw[show e.cU.take 1=[p]from c1];show _=V.sl 5 [Post.v p];rw[Post.v,cp];rfl
    .repeat' first|simp only[gE,simprocAttr,a6,aB,aC,aD,a0,a7,a1,a8,a9,aO,aw,ay]|refine cs ?_ ?_<;>intro h<;>try omega
     refine bm rfl (ea _ (by(try simp only[da]);exact eb)) ?_ ?_ ?_
     .rfl
     .refine nG ?_;simp only[dL]<;>rfl
     rintro _ _ hk ⟨rfl,c2⟩;have c5:=ch.trans (by(try simp only[da]at c2);exact c2);have c6:=c5.1;have c7:=(nK c6 id).trans (bl _ _ _);repeat' first|simp only[gE,simprocAttr,yl,a6,aB,aC,aD,a0,a7,a1,a8,a9,aO,aw,ay,el]|refine fg ?_ ?_
     all_goals
      refine bm rfl (hi _ (by(try simp only[sE]);exact c7)) ?_ ?_ ?_
      .rfl
      .refine nG ?_;simp only[dL]<;>rfl
      rintro _ _ c9 ⟨rfl,bs⟩;have dd:=c5.trans (by(try simp only[sE]at bs);exact bs);have dg:Reads id b E (a+N+P+b2+b6+((e.cU.take (j+1)).flatMap gH).length) c9:=by rw[br,<-cn,<-cn];exact dd
      repeat' simp(disch:=try exact om) only[gE,simprocAttr,yl,a6,aB,aC,aD,a0,a7,a1,a8,a9,aO,aw,ay,hj,xH]
     all_goals
      refine⟨j+1,⟨?_⟩,⟨av⟩⟩;simp only[sE,simprocAttr,yl,a6,aB,aC,aD,a0,a7,a1,a8,a9,aO,aw,ay,hj,xH];refine⟨R,ar (V.int .i64) (by omega),dg,_,rfl,.inr ⟨by omega,?_⟩⟩;rw[c1,aE];show _=V.sl 5 (List.map Post.v (e.cU.take j)++[Post.v p]);rw[Post.v,cp];rfl
   .obtain rfl:j=e.cU.length:=av;rw[be]at ch dF;have yy:bu.one=true/\V.Le bu (ny e.cU):=by
     rcases dF with⟨h,rfl⟩|⟨_,rfl,_⟩
     .exact Yg
     .exact⟨rfl,.refl _⟩
    have e4:=yy.1;repeat' first|simp only[gE,simprocAttr,a6,aB,aC,aD,a0,a7,a1,a8,a9,aO,aw,ay,f,e4]|refine cs ?_ ?_<;>intro h<;>try omega
    have hv:e.v=.agg [I e.J,I e.seq,I e.ei,I e.kind,jZ e.C,I 0,I 0,I 0,I 0,I 0,I 0,I 0,I 0,I 0,I 0,I 0,I 0,I 0,S [],e9 [],jw [],eZ [],S [],I 0,I 0,S [],e9 [],I e.id.J,I e.id.seq,I e.id.k,ny e.cU,I 0]:=by
     simp only[aV.v,hz.op av,hz.dy av,hz.n av av];rfl
    refine⟨nE,.agg [I e.J,I e.seq,I e.ei,I e.kind,ac,I 0,I 0,I 0,I 0,I 0,I 0,I 0,I 0,I 0,I 0,I 0,I 0,I 0,S [],V.aP,V.aP,V.aP,S [],I 0,I 0,S [],V.aP,I e.id.J,I e.id.seq,I e.id.k,bu,I 0],false,jF,_,_,false,eA (by(first|(simp(disch:=try exact om) only[dL,simprocAttr,bh,bn,a1,aB,aC,aD,a0,aO,aw,ay]<;>rfl)|rfl)) rfl,.refl _,?_,λh=>(by cases h),rfl,?_⟩
    .show V.lM jF _ e.v;rw[hv];exact .agg _ _ rfl (y9.cons (.refl _) (.cons (.refl _) (.cons (.refl _) (.cons (.refl _) (.cons (Pw.2.L3 _) (.cons (.refl _) (.cons (.refl _) (.cons (.refl _) (.cons (.refl _) (.cons (.refl _) (.cons (.refl _) (.cons (.refl _) (.cons (.refl _) (.cons (.refl _) (.cons (.refl _) (.cons (.refl _) (.cons (.refl _) (.cons (.refl _) (.cons (.refl _) (.cons (.aP _) (.cons (.aP _) (.cons (.aP _) (.cons (.refl _) (.cons (.refl _) (.cons (.refl _) (.cons (.refl _) (.cons (.aP _) (.cons (.refl _) (.cons (.refl _) (.cons (.refl _) (.cons (yy.2.L3 _) (.cons (.refl _) .nil)))))))))))))))))))))))))))))))).2
    .rw[Q,ae,ae,hc,hd,<-cn,<-cn,<-cn,<-cn];exact ch
  rcases a3.kind with hK|hK|hK|hK|hK|hK|hK
  all_goals
   rw[hK]at l
  .have Q:kc e=oQ e.op:=by unfold kc;rw[hK];rfl
   rw[Q]at ai hlen;have ea:=Sg e.op a3.op r (b.drop (a+N+P)) ai (by rw[aS];omega);have hcut:List.take (List.length b-(a+N+P)) (List.drop (a+N+P) (List.map (λb:UInt8=>V.int IntKind.u8 (b.toNat:Int)) b))=List.map (λb:UInt8=>V.int IntKind.u8 (b.toNat:Int)) (b.drop (a+N+P)):=by rw[az bR,gC]
   repeat' first|simp(disch:=try exact om) only[gE,simprocAttr,ab,hcut,K,d,q,y,z,l,D,o,H,L,f,aO,aw,ay,a2]|refine cs ?_ ?_<;>intro h<;>try omega|refine lq hD ?_|refine lq ea ?_|refine lq bi ?_|refine ec ?_
   refine cC (n:=1) (off:=1) (cells:=[df b,I (a+N+P:Nat)]) ?_ ?_ bR λhV te tc tl tb tm e5 h5=>?_
   ·(try simp only[da,d]);exact a2
   ·(try simp only[da,d]);rfl
   revert te tc tl tb tm e5
   simp only[sE,simprocAttr,K,d,q,y,z,l,D,o,H,L,aO,aw,ay];intro te tc tl tb tm e5;repeat' simp(disch:=omega) only[gE,simprocAttr,te,tc,tl,K,d,q,y,z,l,D,o,H,L]
   have ad:Reads id b b5 (a+N+P+(oQ e.op).length) hV.E:=⟨by rw[tb,Int.natCast_add (a+N+P) (oQ e.op).length],tm,e5⟩;have hv:e.v=.agg [I e.J,I e.seq,I e.ei,I 0,jZ e.C,I e.op.kind,I e.op.W.J,I e.op.W.seq,I e.op.W.k,I e.op.to.J,I e.op.to.seq,I e.op.to.k,I e.op.spot.i9,I e.op.spot.k3,I e.op.spot.idx,I e.op.n,I e.op.eB,I e.op.eh,S e.op.bW,e9 e.op.F,jw e.op.cX,eZ e.op.C,S [],I 0,I 0,S [],e9 [],I 0,I 0,I 0,ny [],I 0]:=by
    simp only[aV.v,hK,hz.dy av,hz.id av av av av,hz.cU av av,hz.n av av];rfl
   refine⟨nE,.agg [I e.J,I e.seq,I e.ei,I 0,ac,I e.op.kind,I e.op.W.J,I e.op.W.seq,I e.op.W.k,I e.op.to.J,I e.op.to.seq,I e.op.to.k,I e.op.spot.i9,I e.op.spot.k3,I e.op.spot.idx,I e.op.n,I e.op.eB,I e.op.eh,S e.op.bW,e9 e.op.F,jw e.op.cX,eZ e.op.C,S [],I 0,I 0,S [],V.aP,I 0,I 0,I 0,V.aP,I 0],false,jF,_,_,false,eA (by(first|(simp(disch:=try exact om) only[dL,simprocAttr,bh,bn,te,tc,tl,cw,cN,o,q,y,z,l,aO,aw,ay]<;>rfl)|rfl)) rfl,.refl _,?_,λh=>(by cases h),rfl,?_⟩
   .show V.lM jF _ e.v;rw[hv];exact .agg _ _ rfl (y9.cons (.refl _) (.cons (.refl _) (.cons (.refl _) (.cons (.refl _) (.cons (Pw.2.L3 _) (.cons (.refl _) (.cons (.refl _) (.cons (.refl _) (.cons (.refl _) (.cons (.refl _) (.cons (.refl _) (.cons (.refl _) (.cons (.refl _) (.cons (.refl _) (.cons (.refl _) (.cons (.refl _) (.cons (.refl _) (.cons (.refl _) (.cons (.refl _) (.cons (.refl _) (.cons (.refl _) (.cons (.refl _) (.cons (.refl _) (.cons (.refl _) (.cons (.refl _) (.cons (.refl _) (.cons (.aP _) (.cons (.refl _) (.cons (.refl _) (.cons (.refl _) (.cons (.aP _) (.cons (.refl _) .nil)))))))))))))))))))))))))))))))).2
   .rw[Q,<-cn,<-cn];exact bU.trans ad
  .repeat' first|simp only[gE,simprocAttr,ab,K,d,q,y,z,l,D,o,H,L,f,aO,aw,ay]|refine cs ?_ ?_<;>intro h<;>try omega|refine lq hF ?_|refine ec ?_
   have hv:e.v=.agg [I e.J,I e.seq,I e.ei,I 1,jZ e.C,I 0,I 0,I 0,I 0,I 0,I 0,I 0,I 0,I 0,I 0,I 0,I 0,I 0,S [],e9 [],jw [],eZ [],S [],I 0,I 0,S [],e9 [],I 0,I 0,I 0,ny [],I 0]:=by
    simp only[aV.v,hK,hz.op av,hz.dy av,hz.id av av av av,hz.cU av av,hz.n av av];rfl
   have Q:kc e=[]:=by unfold kc;rw[hK];rfl
   refine⟨nE,.agg [I e.J,I e.seq,I e.ei,I 1,ac,I 0,I 0,I 0,I 0,I 0,I 0,I 0,I 0,I 0,I 0,I 0,I 0,I 0,S [],V.aP,V.aP,V.aP,S [],I 0,I 0,S [],V.aP,I 0,I 0,I 0,V.aP,I 0],false,jF,_,_,false,eA (by(first|(simp(disch:=try exact om) only[dL,simprocAttr,bh,o,q,y,z,l,aO,aw,ay]<;>rfl)|rfl)) rfl,.refl _,?_,λh=>(by cases h),rfl,?_⟩
   .exact wb7
   .rw[Q,show a+(N+P+([]:T).length)=a+N+P from by rw[aT];omega];exact bU
  .have Q:kc e=cZ [e.dy.kind,e.dy.eh]++g2 (e.dy.name::e.dy.see::e.dy.eH):=by unfold kc;rw[hK];rfl
   rw[Q,aG]at ai;rw[Q,ae]at hlen;have ds:=mA ai;have eN:=λE hb=>xr id b _ _ [e.dy.kind,e.dy.eh] E hb ai av a4 a3.dy;have e1:=λE hb=>JU id b _ _ (e.dy.name::e.dy.see::e.dy.eH) E hb ds av a4;repeat' first|simp only[gE,simprocAttr,ab,K,d,q,y,z,l,D,o,H,L,f,aO,aw,ay]|refine cs ?_ ?_<;>intro h<;>try omega|refine lq hH ?_|refine ec ?_
   refine bm rfl (eN _ (by(try simp only[da,d]);exact a2)) ?_ ?_ ?_
   .rfl
   .refine nG ?_;simp only[dL]<;>rfl
   rintro _ _ bo ⟨rfl,ad⟩;have a5:=bU.trans (by(try simp only[da,d]at ad);exact ad);have b7:=a5.1;have ca:bo.box id=some [df b,I (a+N+P+(cZ [e.dy.kind,e.dy.eh]).length:Nat)]:=by rw[b7,bl]
   repeat' first|simp only[gE,simprocAttr,K,d,q,y,z,l,D,o,H,L,f,aO,aw,ay]|refine lq bi ?_
   refine bm rfl (e1 _ (by(try simp only[da,d]);exact ca)) ?_ ?_ ?_
   .rfl
   .refine nG ?_;simp only[dL]<;>rfl
   rintro _ _ he ⟨rfl,cb⟩;have e2:=a5.trans (by(try simp only[da,d]at cb);exact cb);have h2:((e.dy.name::e.dy.see::e.dy.eH).length:Int)=e.dy.eH.length+2:=by simp only[aM];omega
   have hl:decide (((e.dy.eH.length+1+1:Nat):Int)>=2)=true:=db av;repeat' first|simp(disch:=try exact om) only[gE,simprocAttr,hl,K,d,q,y,z,l,D,o,H,L,f,aO,aw,ay]|refine lq bi ?_
   have hn:List.take e.dy.eH.length (List.map S e.dy.eH)=List.map S e.dy.eH:=az bR;have hv:e.v=.agg [I e.J,I e.seq,I e.ei,I 2,jZ e.C,I 0,I 0,I 0,I 0,I 0,I 0,I 0,I 0,I 0,I 0,I 0,I 0,I 0,S [],e9 [],jw [],eZ [],S e.dy.name,I e.dy.kind,I e.dy.eh,S e.dy.see,e9 e.dy.eH,I 0,I 0,I 0,ny [],I 0]:=by
    simp only[aV.v,hK,hz.op av,hz.id av av av av,hz.cU av av,hz.n av av];rfl
   refine⟨nE,.agg [I e.J,I e.seq,I e.ei,I 2,ac,I 0,I 0,I 0,I 0,I 0,I 0,I 0,I 0,I 0,I 0,I 0,I 0,I 0,S [],V.aP,V.aP,V.aP,S e.dy.name,I e.dy.kind,I e.dy.eh,S e.dy.see,e9 e.dy.eH,I 0,I 0,I 0,V.aP,I 0],false,jF,_,_,false,eA (by(first|(simp(disch:=try exact om) only[dL,simprocAttr,bh,bn,hn,cw,cN,o,q,y,z,l,aO,aw,ay]<;>rfl)|rfl)) rfl,.refl _,?_,λh=>(by cases h),rfl,?_⟩
   .show V.lM jF _ e.v;rw[hv];exact .agg _ _ rfl (y9.cons (.refl _) (.cons (.refl _) (.cons (.refl _) (.cons (.refl _) (.cons (Pw.2.L3 _) (.cons (.refl _) (.cons (.refl _) (.cons (.refl _) (.cons (.refl _) (.cons (.refl _) (.cons (.refl _) (.cons (.refl _) (.cons (.refl _) (.cons (.refl _) (.cons (.refl _) (.cons (.refl _) (.cons (.refl _) (.cons (.refl _) (.cons (.refl _) (.cons (.aP _) (.cons (.aP _) (.cons (.aP _) (.cons (.refl _) (.cons (.refl _) (.cons (.refl _) (.cons (.refl _) (.cons (.refl _) (.cons (.refl _) (.cons (.refl _) (.cons (.refl _) (.cons (.aP _) (.cons (.refl _) .nil)))))))))))))))))))))))))))))))).2
   .rw[Q,ae,<-cn,<-cn,<-cn];exact e2
  .exact absurd (.inl hK) bv
  .exact absurd (.inr hK) bv
  all_goals
   have Q:kc e=cZ [e.id.J,e.id.seq,e.id.k,e.n]:=by unfold kc;rw[hK];rfl
   rw[Q]at ai hlen;have ho:=λE hb=>xr id b _ _ [e.id.J,e.id.seq,e.id.k,e.n] E hb ai av a4 a3.id
  .repeat' first|simp only[gE,simprocAttr,ab,K,d,q,y,z,l,D,o,H,L,f,aO,aw,ay]|refine cs ?_ ?_<;>intro h<;>try omega|refine lq hQ ?_|refine ec ?_
   refine bm rfl (ho _ (by(try simp only[da,d]);exact a2)) ?_ ?_ ?_
   .rfl
   .refine nG ?_;simp only[dL]<;>rfl
   rintro _ _ bo ⟨rfl,ad⟩;have a5:=bU.trans (by(try simp only[da,d]at ad);exact ad);repeat' first|simp(disch:=try exact om) only[gE,simprocAttr,K,d,q,y,z,l,D,o,H,L,f,aO,aw,ay]|refine lq bi ?_
   have hv:e.v=.agg [I e.J,I e.seq,I e.ei,I 5,jZ e.C,I 0,I 0,I 0,I 0,I 0,I 0,I 0,I 0,I 0,I 0,I 0,I 0,I 0,S [],e9 [],jw [],eZ [],S [],I 0,I 0,S [],e9 [],I e.id.J,I e.id.seq,I e.id.k,ny [],I e.n]:=by
    exact Tb
   refine⟨nE,.agg [I e.J,I e.seq,I e.ei,I 5,ac,I 0,I 0,I 0,I 0,I 0,I 0,I 0,I 0,I 0,I 0,I 0,I 0,I 0,S [],V.aP,V.aP,V.aP,S [],I 0,I 0,S [],V.aP,I e.id.J,I e.id.seq,I e.id.k,V.aP,I e.n],false,jF,_,_,false,eA (by(first|(simp(disch:=try exact om) only[dL,simprocAttr,bh,bn,o,q,y,z,l,aO,aw,ay]<;>rfl)|rfl)) rfl,.refl _,?_,λh=>(by cases h),rfl,?_⟩
   .exact wb7
   .rw[Q,<-cn,<-cn];exact a5
  .repeat' first|simp only[gE,simprocAttr,ab,K,d,q,y,z,l,D,o,H,L,f,aO,aw,ay]|refine cs ?_ ?_<;>intro h<;>try omega|refine lq hR ?_|refine ec ?_
   refine bm rfl (ho _ (by(try simp only[da,d]);exact a2)) ?_ ?_ ?_
   .rfl
   .refine nG ?_;simp only[dL]<;>rfl
   rintro _ _ bo ⟨rfl,ad⟩;have a5:=bU.trans (by(try simp only[da,d]at ad);exact ad);repeat' first|simp(disch:=try exact om) only[gE,simprocAttr,K,d,q,y,z,l,D,o,H,L,f,aO,aw,ay]|refine lq bi ?_
   have hv:e.v=.agg [I e.J,I e.seq,I e.ei,I 6,jZ e.C,I 0,I 0,I 0,I 0,I 0,I 0,I 0,I 0,I 0,I 0,I 0,I 0,I 0,S [],e9 [],jw [],eZ [],S [],I 0,I 0,S [],e9 [],I e.id.J,I e.id.seq,I e.id.k,ny [],I e.n]:=by
    exact Tb
   refine⟨nE,.agg [I e.J,I e.seq,I e.ei,I 6,ac,I 0,I 0,I 0,I 0,I 0,I 0,I 0,I 0,I 0,I 0,I 0,I 0,I 0,S [],V.aP,V.aP,V.aP,S [],I 0,I 0,S [],V.aP,I e.id.J,I e.id.seq,I e.id.k,V.aP,I e.n],false,jF,_,_,false,eA (by(first|(simp(disch:=try exact om) only[dL,simprocAttr,bh,bn,o,q,y,z,l,aO,aw,ay]<;>rfl)|rfl)) rfl,.refl _,?_,λh=>(by cases h),rfl,?_⟩
   .exact wb7
   .rw[Q,<-cn,<-cn];exact a5
def Vu{P:Program}{GL:ak}{t:Nat}{s:St}{st:List Fr}{a:Ex->St->Prop}:vc P GL (.rK t) s (run P GL st a)=run P GL st a .normal (s.put t .unk none false):=by
 unfold vc;rfl
def Il{s:St}{t n t2 l o p:Nat}{ag Pj a:Bool}{d f j:V}(q:dw s (.load ag n (.tmp t))=some d)(h2:dw s (.load Pj l (.tmp t2))=some f)(r:dw s (.load a p (.tmp o))=some j)(u:d.dW=false)(y:f.dW=false)(z:j.dW=false):BF.result s [.cell t ag n,.cell t2 Pj l,.cell o a p]=some (.hE [d,f,j],false):=by
 simp[BF.result,BR.p2,BR.get,q,h2,r,u,y,z]
def LD(e:aV)(d:e.good):(pp e).length<=10000000:=by
 have a:=d.enc;have K:=s5 e.C;have o:=fN _ bR a.head;have L:=fN (lE e.C) (by have:=a.C;omega) a.Vo;have N:(kc e).length<=2000000:=by
  have t:=d.opl;have u:=fN [e.dy.kind,e.dy.eh] bR a.dy;have y:=lg (e.dy.name::e.dy.see::e.dy.eH) (by have:=a.tz;simp only[aM];omega) a.words;have z:=fN [e.id.J,e.id.seq,e.id.k,e.n] bR a.id;have D:=fN [e.id.J,e.id.seq,e.id.k] bR (λn j=>a.id n (by
   simp only[bC,cI,gI]at j ⊢
   rcases j with h|h|h
   .exact .inl h
   .exact .inr (.inl h)
   .exact .inr (.inr (.inl h))))
  have P:=gx (e.cU.length:Nat) (by have:=a.cU;unfold jv;omega);have Q:(e.cU.flatMap gH).length<=100000*e.cU.length:=by
   have:∀l:List Post,(∀p∈l,p.path.length<=10/\∀s∈p.path,s.length<=8192)->(l.flatMap gH).length<=100000*l.length:=by
    intro l f;induction l with
    |nil=>simp
    |cons p r ih=>
     have R:=yU p (f p bR).1 (f p bR).2;have ab:=ih λq H=>f q (by simp[H]);simp only[cf,ae,aM];omega
   exact this _ a.path
  have ac:=d.J4;have ad:=d.tz;simp only[aM,aT]at u y z D;unfold kc;repeat' split
  all_goals(try simp only[ae,aT])
  all_goals omega
 have t:=d.Vr;simp only[aM,aT]at o;simp only[pp,q5,ae];omega
def aad:CF GL f105 [9] [3] 105:=ji
def Si(e:aV)(d:e.good):af 105 [df (pp e)] (.hE [e.v,I (pp e).length,I 0]):=by
 have hle:=LD e d;have j:=λE hb=>Sh 0 e d.enc d.plain d.J4 (pp e) [] 0 E hb bR (aL _) hle;have l:=J7 e d;have o:=xq;refine Pure.gg (by simp only[du]) (by simp only[du]) (eU hm aad.ok (bF rfl) ?_);repeat' simp only[gE,simprocAttr,HX.act,Vu]
 refine bm rfl (j ((aJ.cM aJ.bare [df (pp e),I 0])) rfl) ?_ ?_ ?_
 .rfl
 .refine nG ?_;simp only[dL]<;>rfl
 rintro _ _ q ⟨rfl,p⟩;have f:=p.1;have a:=(nK f 0).trans (bl _ _ _);rw[cA]at a;repeat' first|simp only[gE,simprocAttr,aV.v,a]|refine lq l ?_|refine lq o ?_|refine fg ?_ ?_
 all_goals
  exact⟨nE,.hE [e.v,I (pp e).length,I 0],false,jF,_,_,false,Il (by(first|(simp(disch:=try exact om) only[dL,simprocAttr,bh,bn,aV.v,a]<;>rfl)|rfl)) (by(first|(simp(disch:=try exact om) only[dL,simprocAttr,bh,bn,a]<;>rfl)|rfl)) (by(first|(simp(disch:=try exact om) only[dL,simprocAttr,bh,bn,a]<;>rfl)|rfl)) rfl rfl rfl,.refl _,.refl _,λh=>(by cases h),rfl,rfl⟩
def Ou(e:aV)(a:e.good):af 55 [e.v] e.v:=by
 have d:=RO e a.enc;have f:=Si e a;refine pk f55 ?_;repeat' first|simp(disch:=try exact om) only[gE,simprocAttr,aV.v]|refine lq d ?_|refine lq f ?_|(refine al nE ?_;refine tO ev rfl ?_;(all_goals(try(with_reducible exact .refl _))))
end Go.Bx
namespace Go.Bx
open Go.Proofs Go.Proofs.Tryz Go.RowKit Go.Sort Go.Shelf Go.Lib
def B3(a b:Int):(q2 a b= -1/\a<b)\/(q2 a b=0/\a=b)\/(q2 a b=1/\b<a):=by
 unfold q2;split
 .exact .inl ⟨rfl,by assumption⟩
 .split
  .exact .inr (.inr ⟨rfl,by assumption⟩)
  .exact .inr (.inl ⟨rfl,av⟩)
def DP(a b:ID):(rk a b= -1/\tG a b=true)\/(rk a b=0/\a=b)\/(rk a b=1/\tG b a=true):=by
 obtain⟨q,r,t⟩:=a;obtain⟨u,y,z⟩:=b;rw[k8,k8];simp only[rk,PC,ID.mk.injEq];rcases B3 q u with⟨f,g1⟩|⟨f,g1⟩|⟨f,g1⟩
 .left;rw[f];exact⟨rfl,av⟩
 .rw[f];rcases B3 r y with⟨j,o⟩|⟨j,o⟩|⟨j,o⟩
  .left;rw[j];exact⟨rfl,av⟩
  .rw[j];rcases B3 t z with⟨l,p⟩|⟨l,p⟩|⟨l,p⟩
   .left;rw[l];exact⟨rfl,av⟩
   .right;left;rw[l];exact⟨rfl,g1,o,p⟩
   .right;right;rw[l];exact⟨rfl,av⟩
  .right;right;rw[j];exact⟨rfl,av⟩
 .right;right;rw[f];exact⟨rfl,av⟩
def wq:ltOf qc=j0:=by
 funext a b;obtain⟨f,j⟩:=a;obtain⟨q,r⟩:=b;rw[de,qV];show decide (qc ⟨f,j⟩ ⟨q,r⟩<0)=true↔_;rw[cy];show(if rk f q≠0 then rk f q else if rk j r≠0 then rk j r else 0)<0↔_;simp only;rcases DP f q with⟨l,g1⟩|⟨l,g1⟩|⟨l,g1⟩
 .rw[l];exact⟨λ_=>.inl g1,λ_=>bR⟩
 .rw[l];subst g1;have u:¬tG f f=true:=by rw[k8];omega
  rcases DP j r with⟨o,p⟩|⟨o,p⟩|⟨o,p⟩
  .rw[o];exact⟨λ_=>.inr ⟨rfl,p⟩,λ_=>bR⟩
  .rw[o];subst p;have t:¬tG j j=true:=by rw[k8];omega
   exact⟨λh=>absurd h bR,λh=>by rcases h with h|⟨_,h⟩<;>contradiction⟩
  .rw[o];refine⟨λh=>absurd h bR,λh=>?_⟩;rcases h with h|⟨_,h⟩
   .contradiction
   .rw[k8]at h p;omega
 .rw[l];refine⟨λh=>absurd h bR,λh=>?_⟩;rcases h with h|⟨rfl,_⟩
  .rw[k8]at h g1;omega
  .rw[k8]at g1;omega
def Ov:SWO (ltOf qc):=by
 rw[wq];refine⟨mz,λx y z=>jL,λx y z a j=>?_⟩;rw[<-gv]at*
 intro h;rcases nA x y with e|e|e
 .exact a e
 .subst e;exact j h
 .rcases nA y z with f|f|f
  .exact j f
  .subst f;exact a h
  .have:=jL h (jL f e);rw[mz]at this;cases this
def Ow(x y:cR)(a:ltOf qc x y=false)(h2:ltOf qc y x=false):x=y:=by
 rw[wq]at*
 rcases nA x y with e|e|e
 .rw[e]at a;cases a
 .exact e
 .rw[e]at h2;cases h2
section
variable {α:Type}[Inhabited α]{enc:α->List Value}{k:Nat}{w:World}{b:Nat}{d0 d:Array α}
def CE(h0:HoldsK enc k w b 0 d0)(q:d.size=d0.size):oP w (putRowK enc k w b 0 d) b 0 (flatK enc k d).toList where
 same a o l:=cell?_putRow_other id w b 0 _ (cl a o) (by
  rcases Nat.decEq a b with h|h
  .exact .inl h
  .subst h;refine .inr (.inr ?_);show 0+(flatK enc k d).size<=o;refine cJ λh=>l ⟨rfl,aL _,?_⟩;rw[oG];omega)
 new j x f:=by
  have p:j< (flatK enc k d).size:=by simpa using (aH.1 f).1
  have:=cell?_putRow id w b 0 (flatK enc k d0) (flatK enc k d) h0 (by simp[q]) j p;refine this.trans ?_;rw[<-f,di,jM _ j p,iB p];rfl
 frozen a o:=frozen?_putRow id w b 0 _ _
 map a r t hb:=by
  unfold putRowK putRow mapBlock;simp only[dz];split
  .rw[hb];cases r<;>first|rfl|(simp[uZ]at t)
  .exact hb
 size:=Sort.size_putRow id w b 0 _
 gW:=⟨rfl,rfl,rfl,λ_=>ao _⟩
 oth a l:=by
  by_cases e:a=b
  .have u:=l e;have hF:flatK enc k d=#[]:=by simpa using u
   unfold putRowK;rw[hF,putRow_self id w b 0 #[] (λj f=>absurd f bR)]
  .unfold putRowK putRow mapBlock;simp only[dz];rw[an (hU e)]
def ws{g:aW}(W:World)(n:Nat)(os:Array Obj):Grow g W (grow (Sort.ahead W n) os) where
 size:=by show W.heap.size<=(W.heap++os).size;simp
 cell b o h:=by
  unfold World.cell?;show(match(W.heap++os)[b]? with|some (.cells c _ _)=>_|_=>_)=_;rw[ij h];rfl
 Tg b o h _:=by
  unfold World.frozen?;show(match(W.heap++os)[b]? with|some (.cells _ _ (lo,a))=>_|_=>_)=_;rw[ij h];rfl
 obj b f _ h:=by
  show(W.heap++os)[b]?=_;rw[ij (cD.1 h).1];exact h
 gW:=⟨rfl,rfl,rfl,λ_=>li _ _⟩
 whole b h:=by
  show(W.heap++os)[b]?=_;rw[ij h]
end
def Ox{g:aW}{x:cR}{r:Nat}{c:V}{y:Value}(h:x.v.cells[r]?=some c)(a:VR g c y):(uL x)[r]?=some y:=by
 match r,h with
 |0,h=>cases h;cases a;rfl
 |1,h=>cases h;cases a;rfl
 |2,h=>cases h;cases a;rfl
 |3,h=>cases h;cases a;rfl
 |4,h=>cases h;cases a;rfl
 |5,h=>cases h;cases a;rfl
 |n+6,h=>cases h
def sj(l:List cR):lG 6 (l.map cR.v):=by
 intro x hx;obtain⟨a,_,rfl⟩:=cG.1 hx;rfl
def B4(l:List cR)(rest:List V){j:Nat}(a:j<l.length*6):∃h:j/6<l.length,(b1 (l.map cR.v)++rest)[j]?=(l[j/6]).v.cells[j%6]?:=by
 have h:j/6<l.length:=av;refine⟨h,?_⟩;have:=zQ (sj l) rest (i:=j/6) (r:=j%6) (by simpa using h) av;rw[show j/6*6+j%6=j by omega]at this;rw[this];simp
def DQ(l:List cR){j:Nat}(a:j<l.length*6)(h:j/6<l.length):(flatK uL 6 l.toArray).toList[j]?=(uL l[j/6])[j%6]?:=by
 have f:j< (flatK uL 6 l.toArray).size:=by simpa using a
 have p:=Sort.get_flatK uL 6 l.toArray j (by simpa using a);rw[di,iB f,<-jM _ j f,p];have q:l.toArray[j/6]! =l[j/6]:=by rw[jM _ _ (by simpa using h)];simp
 have o:j%6< (uL l[j/6]).length:=by show j%6<6;omega
 rw[q,aa o,jM (uL l[j/6]) (j%6) o]
def Im{g:aW}{w:World}{b:Nat}{ow:eX}{l:List cR}{rest:List V}(h:fP g w b ow (b1 (l.map cR.v)++rest)):HoldsK uL 6 w b 0 l.toArray:=by
 intro j a;have a:j<l.length*6:=by simpa using a
 obtain⟨r,f⟩:=B4 l rest a;have o:=DQ l a r;have p:j%6< (l[j/6]).v.cells.length:=by show j%6<6;omega
 rw[aa p]at f;obtain⟨_,x,t,u⟩:=h.cell j _ f;have y:=Ox (aa p) u;rw[cA];refine⟨t.trans ?_,h.ki j⟩;have q:j< (flatK uL 6 l.toArray).size:=by simpa using a
 rw[y,di,iB q]at o;rw[<-o,jM _ j q];rfl
def In(g:aW)(l:List cR):fK g (b1 (l.map cR.v)) (flatK uL 6 l.toArray).toList:=by
 have a:(b1 (l.map cR.v)).length=l.length*6:=by rw[dM (sj l),aq]
 refine⟨by rw[a];simp,λj c x f o=>?_⟩;have p:j<l.length*6:=by rw[<-a];exact(aH.1 f).1
 obtain⟨r,q⟩:=B4 l [] p;rw[cP,f]at q;rw[DQ l p r]at o;exact(JY g _).2 _ c x q.symm o
def CG(A R V:List Bx.V)(h:V.length=A.length):aO (A++R) 0 V=V++R:=by
 apply iX;intro j;rw[kD _ _ _ _ (by rw[ae];omega)];split
 next a=>rw[ig,dI av]
 next a=>rw[dR av,dR av,h]
def ry.rel{GL:ak}{g:aW}{w:World}{E:aJ}{args:List V}{xs:Array Value}(h:ry GL g w E args xs):Rel GL {g with lb:=λ_ _=>none} (St.init 0 [] E) {tmps:=#[],defers:=[]} w where
 size:=rfl
 gj:=.nil
 Z t:=by simp only[St.init];exact VR.qr
 gA:=h.gA.lb rfl rfl
 heap:=h.heap.lb rfl rfl
 loc:=λst f a=>by simp[St.init]at a
 jd:=λ_ _ _=>rfl
 jt:=λt e=>by simp[St.init]at e
 gD:=λ_ _ _ _ _ _ e=>by simp[St.init]at e
 jX:=λ_ _ e=>by simp[St.init]at e
 gF:=λ_ _ _ _ e=>by simp[St.init]at e
 ib:=λ_ _ _ e=>by simp[St.init]at e
def Sj{g:aW}{w:World}:Step g w {g with lb:=λ_ _=>none} w:=
 ⟨λ_ _ _ h=>h,λ_ _ h=>h,λ_ _ h=>h,λ_ _ h=>⟨h,rfl,rfl⟩,λ_ _ _ _ h=>h,λ_ _ h _=>h,ao _,.refl _,λ_ _ _=>rfl⟩
def Pr(x y:cR):Bool:= !j0 y x
def Sk(v:V)(l:List cR)(E:aJ)(P:gh 6 E v (l.map cR.v))(b5:l.length<=1000000):
 aI 172 [v,.fn 114 []] E λ_ _ Q=>gh 6 Q v ((l.mergeSort Pr).map cR.v)/\bt (bH v) E Q:=by
 intro g w aC q R aD;obtain⟨D,aA,rfl⟩:∃D aA,aC=#[D,aA]:=by
  have:=q.len;cases aC with|mk l=>match l,this with|[a,b],_=>exact⟨a,b,rfl⟩
 have z:=q.arg 0 v D rfl rfl;have h1:=q.arg 1 (.fn 114 []) aA rfl rfl;have bo:=q.rel;cases h1 with
 |fn _ _ br a0 _=>
 obtain rfl:br=#[]:=by simpa using a0
 have f:∀p cap,D=.slice p 0 cap->l=[]->Calls prog 172 #[D,.func (.func 114) #[] #[]] w R:=by
  intro p cap hx H;subst hx H;refine(AnyF.slices_SortFunc_none NA p cap (.func (.func 114) #[] #[]) w).mono ?_;rintro e a1 ⟨rfl,rfl⟩;exact aD (.hE []) _ false E g a1 ⟨by simpa using P,rQ⟩ ⟨q.gA,q.heap,.hE [] #[] rfl bR,.refl _ _,bR⟩
 obtain⟨_,⟨rfl,H⟩|⟨id,c,rest,rfl,dV,dZ,L,u⟩⟩:=P
 .have H:l=[]:=by simpa using H
  cases z;exact f _ _ rfl H
 rw[aq]at z L u;cases N:l with
 |nil=>
  rw[N]at z;cases z with
  |ms _ _ _ _ _ b e _=>exact f _ _ rfl N
  |Fj _ _ _ p _=>exact f _ _ rfl N
 |cons x r=>
 have bs:0<l.length:=by rw[N];simp
 clear f;generalize bu:l.length=n at z;cases z with
 |Fj=>omega
 |ms _ _ _ _ _ b e bv=>
 subst bu;obtain⟨K,ab,a2⟩:=q.heap.box id _ dZ;obtain rfl:=au (ab.symm.trans e);have ac:K<w.heap.size:=q.gA.il K 0 (by rw[a2.mq 0];simp);have a3:HoldsK uL 6 w K 0 l.toArray:=Im a2;have ad:=AnyQ.slices_SortFunc_total NA 6 Tryz.isAgg52 Tryz.sizeOf52 uL (λ_=>rfl) (λx v a4=>by simp[uL]at a4;rcases a4 with rfl|rfl|rfl|rfl|rfl|rfl<;>rfl) qc Ov 114 #[] K 0 c l.toArray w
  (enters_of func114 (by kernel_rfl) rfl) (Lt _ _ _ _ (pA (aL _) ac)) a3 ac (by simp;omega) Ow
 rw[kT]at ad;refine ad.mono ?_;rintro b6 a1 ⟨rfl,m,os,rfl⟩;rw[wq];obtain⟨s,aB⟩:∃s,l.mergeSort Pr=s:=⟨_,rfl⟩;have a5:(l.toArray.toList.mergeSort λx y=> !j0 y x)=s:=aB;rw[a5];have t:s.length=l.length:=by rw[<-aB,ix]
 have ai:(b1 (s.map cR.v)).length=(b1 (l.map cR.v)).length:=by rw[dM (sj s),dM (sj l),aq,aq,t]
 have bU:=CE (d:=s.toArray) a3 (by simp[t]);obtain⟨a6,b2⟩:=bo.wr (off:=0) (vs:=b1 (s.map cR.v)) (id:=id) dZ ab (by rw[ae,ai];omega) (In _ s) (by
  intro c L;obtain⟨j,a7⟩:=fZ.1 L;have a8:j<s.length*6:=by
   have:=(aH.1 a7).1;rw[dM (sj s),aq]at this;exact this
  obtain⟨b7,o⟩:=B4 s [] a8;rw[cP,a7]at o
  match j%6,o with
  |0,o=>cases o;rfl
  |1,o=>cases o;rfl
  |2,o=>cases o;rfl
  |3,o=>cases o;rfl
  |4,o=>cases o;rfl
  |5,o=>cases o;rfl
  |n+6,o=>cases o) bU
 have G:=ws (g:=g) (putRowK uL 6 w K 0 s.toArray) m os;have a9:=a6.grow (g0:={g with lb:=λ_ _=>none}) ⟨λ_ _ _ h=>h,λ_ _ h=>h,λ_ _ h=>h⟩ (ws _ m os);have b3:=b2.grow a6.gA (ws _ m os);refine aD (.hE []) _ false _ _ _ ⟨?_,?_⟩ ⟨a9.gA,a9.heap,.hE [] #[] rfl bR,Sj.trans b3,bR⟩
 .rw[aB];refine⟨sj s,.inr ⟨id,c,rest,by rw[aq,aq,t],dV,?_,by rw[aq,t];exact L,by rw[aq,t];exact u⟩⟩;show eR E.box id _ id=_;rw[bl,CG _ _ _ ai]
 .refine⟨λi _ bi=>bE _ _ (λh=>bi (by rw[h];rfl)),λ_ _=>rfl,ao _⟩
end Go.Bx
namespace Go.Bx
open Go.Proofs Go.Proofs.Tryz
attribute [local irreducible] vc er dr b4 bV run iD iY i1 i6 iQ i7 i2 iu iS i4 gB i3 cW
def ym:∀(r acc:List cR),nq acc->(∀z∈acc,∀x∈r,j0 x z=false)->r.Pairwise (λa b=>j0 b a=false)->nq (r.foldl EV acc)/\∀z,z∈r.foldl EV acc↔z∈acc\/z∈r
 |[],acc,h,_,_=>⟨h,λz=>bR⟩
 |x::r,acc,h,l,t=>by
  obtain⟨g1,p⟩:=ej.1 t;rw[fo];unfold EV;split
  next o=>
   have hx:x∈acc:=nZ o;obtain⟨a,b⟩:=ym r acc h (λz d y f=>l z d y (by simp[f])) p;refine⟨a,λz=>(b z).trans ?_⟩;rw[bC];constructor
   .rintro(e|e)<;>simp[e]
   .rintro(e|e|e)
    .exact .inl e
    .subst e;exact .inl hx
    .exact .inr e
  next o=>
   have q:∀z∈acc,j0 z x=true:=by
    rcases List.eq_nil_or_concat acc with rfl|⟨D,y,rfl⟩
    .intro z d;cases d
    .rw[List.concat_eq_append]at*
     have j:j0 y x=true:=by
      rcases nA y x with e|e|e
      .exact e
      .exact absurd (by rw[e];simp) o
      .rw[l y bR x bR]at e;cases e
     intro z d;rcases aR.1 d with d|d
     .exact jL ((jI.1 h).2.2 z d y bR) j
     .obtain rfl:=bg.1 d;exact j
   have u:nq (acc++[x]):=jI.2 ⟨h,bR,λz d y f=>by obtain rfl:=bg.1 f;exact q z d⟩;obtain⟨a,b⟩:=ym r (acc++[x]) u (λz d y f=>by
    rcases aR.1 d with d|d
    .exact l z d y (by simp[f])
    .obtain rfl:=bg.1 d;exact g1 y f) p
   refine⟨a,λz=>(b z).trans ?_⟩;simp only[aR,bC,cI,gI];constructor
   .rintro((e|e)|e)<;>simp[e]
   .rintro(e|e|e)<;>simp[e]
def Oy(l:List cR):pL (l.mergeSort Pr)=jN l:=by
 have E:(l.mergeSort Pr).Pairwise λa b=>j0 b a=false:=by
  have:=List.pairwise_mergeSort (le:=Pr) (λa b c d f=>?_) (λa b=>?_) l
  .exact this.imp λh=>by simpa[Pr]using h
  .simp only[Pr,jy,<-gv]at*
   intro h;rcases nA b c with e|e|e
   .exact d (jL e h)
   .subst e;exact d h
   .exact f e
  .simp only[Pr,h9,jy];rcases nA a b with e|e|e
   .left;rw[<-gv];intro h;have:=jL e h;rw[mz]at this;cases this
   .subst e;left;exact mz _
   .right;rw[<-gv];intro h;have:=jL e h;rw[mz]at this;cases this
 obtain⟨a,b⟩:=ym _ [] .nil (λz j=>by cases j) E;exact zq a λz=>by rw[show pL (l.mergeSort Pr)=(l.mergeSort Pr).foldl EV []from rfl,b];simp
def Aa(l:List cR):(jN l).length<=l.length:=by
 have h:=sb l _ (ao _)
 rwa [be]at h
def Vv:CF GL f171 [5,7] [] 171:=ji
def aae:CF GL f113 [] [1,2,3] 113:=ji
def Oz(l:List cR)(E:aJ)(j:l.length<=1000000):aI 171 [g7 l] E λv _ a=>gh 6 a v (l.map cR.v)/\bt none E a/\∀i,bH v=some i->E.Y<=i:=by
 refine bq Vv.ok rfl ?_;repeat' first|refine k9 ?_|(refine tM (by simp only[pU]<;>rfl) (by simp only[da]<;>rfl) ?_ (λh=>?_))
 .refine BS (fD:=E) sT ?_;have u:gh 6 (E.cM []) (.ms 6 E.Y 0 0 0) []:=⟨(by intro x hx;cases hx),.inr ⟨E.Y,0,[],rfl,dm _,by simp[aJ.cM,eR,b1],ao _,rfl⟩⟩;repeat' simp only[gE,simprocAttr]
  refine iE (xs:=[]) (ys:=l.map cR.v) ?_ ?_ ?_ ?_ ?_ rfl ?_ ?_ λd a o hb hi=>?_
  .exact sT
  .exact sT
  .exact lG.map (λy=>rfl) _
  .exact sT
  .simp only[da];intro l j;cases j
  .simp only[aq,aT];omega
  .simp only[da];intro r;cases r
  have f:gh 6 a d (l.map cR.v):=by simpa using o
  have p:bH d=some E.Y\/bH d=some (E.Y+1):=by revert hi;simp only[da,simprocAttr];exact id
  have q:bt none E a:=by
   revert hb
   simp only[da,simprocAttr];intro hb;have t:=hb.Y;simp only[aJ.cM]at t;exact⟨λi hi _=>by rw[hb.box i (by simp only[aJ.cM];omega) (by simp[bH];omega)];simp only[aJ.cM];exact bE _ _ (cr hi),λi hi=>by rw[hb.mp i (by simp only[aJ.cM];omega)];rfl,av⟩
  repeat any_goals simp only[dq,simprocAttr,bh]
  refine⟨nE,d,_,bz rfl f.fS,f,q,λi hi=>?_⟩;rcases p with h|h<;>rw[h]at hi<;>simp at hi<;>omega
 .exact TZ
def Sl(l:List cR)(o:l.length<=1000000):af 113 [g7 l,.fn 114 []] (g7 (jN l)):=by
 refine Pure.gg (by simp only[du]) (by simp only[du]) (eU hm aae.ok (bF rfl) ?_);have r:=λE=>Oz l E o;repeat' simp only[gE,simprocAttr]
 refine bm rfl (r _) ?_ ?_ ?_
 .rfl
 .refine nG ?_;simp only[dL]<;>rfl
 rintro v _ f ⟨a,hb,L⟩;have p:=a.one;have o2:=a.fS;have t:=Sk v l f a o;repeat' simp only[gE,simprocAttr,p,o2]
 refine bm (h0:=f) sT t ?_ ?_ ?_
 .exact Yc
 .refine nG ?_;simp only[dL]<;>rfl
 rintro _ _ j ⟨q,D⟩;have c3:=RU v _ j q (by rw[ix];exact o);rw[Oy]at c3;repeat' simp only[gE,simprocAttr,p,o2]
 refine bm (h0:=j) sT c3 ?_ ?_ ?_
 .exact Yc
 .refine nG ?_;simp only[dL]<;>rfl
 rintro u _ H ⟨d,K,_⟩;have y:=d.one;have z:=d.fS;repeat' simp only[gE,simprocAttr,y,z]
 exact⟨nE,x2 sT d⟩
def E6(l:List cR)(a:l.length<=1000000):af 64 [g7 l] (g7 (jN l)):=by
 have c:=Sl l a;refine pk f64 ?_;repeat' first|refine k9 ?_|refine lq c ?_|refine q1 ?_
 all_goals exact aj rfl
def Vw(w:cm)(d:w.ok):af 27 [w.v] (g7 (k4 w)):=by
 have f:=BQ w d;have j:=d.2.2;unfold k4;generalize dx w=A at*
 have l:=E6 (A.map λp=>⟨p.id,p.id⟩) (by simpa using j);refine pk f27 ?_;repeat' first|refine k9 ?_|refine lq f ?_
 refine sk (bL:=[]) (λk:Nat=>k<=A.length) (λk=>[(9,I k,false),(3,g7 ((A.take k).map λp=>⟨p.id,p.id⟩),true)]) (λk=>A.length-k) (0) (aL _) ?_;rintro k o;rcases am k A.length with a|a
 .repeat any_goals first|simp(disch:=try exact om) only[dq,simprocAttr,aK.v,cR.v]|refine cs ?_ ?_<;>intro h<;>try omega|(refine⟨k+1,⟨?_⟩,⟨av⟩,?_⟩;rotate_left;focus (simp only[fQ,fM,bK,cF];and_intros;all_goals(try(simp only[mS,simprocAttr]));all_goals(try(first|(intro h;cases h;done)|(intro _;(simp;done))|(refine aj (ar I ?_);omega)|((repeat first|with_reducible (first|exact Kept.refl _|refine ez ?_|refine eJ ?_|refine ek ?_|refine fX ?_|refine dT ?_)|(with_reducible refine en ?_ ?_;rotate_left;(simp only[pU,simprocAttr])));done)))))
  .exact aj (by rw[bj a,aE,aE];rfl)
  .exact a
 .obtain rfl:k=A.length:=av;rw[be];repeat' first|refine k9 ?_|refine cs ?_ ?_<;>intro h<;>try omega|refine lq l ?_|refine q1 ?_
  all_goals exact aj rfl
end Go.Bx
namespace Go.Bx
open Go.Proofs Go.Proofs.Tryz Go.RowKit Go.Maps Go.Sort Go.Shelf
def OA(m:Nat):AnyZ.SortsIn prog w9 Fence.wide m:=
 ⟨
  λa off cap f W hH hblk d=>callsIn_wide.2 (AnyM.slices_Sort_string Jo a off cap f W hH hblk d),λp cap W=>callsIn_wide.2 (AnyM.slices_Sort_string_none Jo p cap W)⟩
section
variable {GL:Nat->Option (List V)}{g:aW}{w w':World}{gb:Nat}{ow:Nat->eX}
def xz(a:∀o,g.bL gb o=.free):g.Le (g.block gb ow):=
 ⟨λb o x e=>by rw[aW.ff _ _ _ (by rintro rfl;rw[a]at e;cases e)];exact e,λb d e=>by rw[aW.ff _ _ _ (by rintro rfl;rw[a]at e;cases e)];exact e,λ_ _ e=>e⟩
def xA(a:∀o,g.bL gb o=.free){b o:Nat}{u:eX}(e:g.bL b o=u)(d:u≠.free):(g.block gb ow).bL b o=u:=by
 rw[aW.ff _ _ _ (by rintro rfl;rw[a]at e;exact d e.symm)];exact e
def OB(f:∀o,g.bL gb o=.free)(a:qi GL g w)(d:gb<w.heap.size)(j:∀o x,ow o=.gZ x->w.cell? (cl gb o)=some x)(hm:∀o ob,ow o≠.e8 ob):qi GL (g.block gb ow) w where
 kn n c e:=(a.kn n c e).mono (xz f)
 gZ b o x e:=by
  by_cases h:b=gb
  .subst h;rw[aW.eL]at e;exact j o x e
  .rw[aW.ff _ _ _ h]at e;exact a.gZ b o x e
 e8 b ob e:=by
  by_cases h:b=gb
  .subst h;rw[aW.eL]at e;exact absurd e (hm 0 ob)
  .rw[aW.ff _ _ _ h]at e;exact a.e8 b ob e
 il b o e:=by
  by_cases h:b=gb
  .subst h;exact d
  .rw[aW.ff _ _ _ h]at e;exact a.il b o e
 kC:=a.kC
def LF{E:aJ}(d:∀o,g.bL gb o=.free)(h:HR g E w):HR (g.block gb ow) E w where
 box id cells e:=by
  obtain⟨b,h1,a⟩:=h.box id cells e;exact⟨b,h1,λj=>xA d (a.mq j) bR,λj c f=>let⟨l,y,p,q⟩:=a.cell j c f;⟨l,y,p,q.mono (xz d)⟩,a.ki⟩
 tail id cells j c b y r t u z D:=by
  intro sz H K len cap L hx k h1 a;obtain⟨f1,N⟩:=h.tail id cells j c b y r t u z D sz H K len cap L hx k h1 a;exact⟨xA d f1 bR,N⟩
 map id P e:=by
  obtain⟨b,o,h1,a,Q,R,ab⟩:=h.map id P e;exact⟨b,o,h1,xA d a bR,Q,R,ab.mono (xz d)⟩
 Y:=h.Y
def LG(a:∀o,g.bL gb o=.free)(hx:∀o,ow o≠.ext):Step g w (g.block gb ow) w where
 gZ:=(xz a).gZ
 e8:=(xz a).e8
 hb _ _ e:=e
 ext b o e:=⟨xA a e bR,rfl,rfl⟩
 od _ _ _ _ e:=e
 ru b o e _:=by
  by_cases h:b=gb
  .subst h;rw[aW.eL]at e;exact absurd e (hx o)
  .rw[aW.ff _ _ _ h]at e;exact e
 size:=ao _
 gW:=.refl _
 whole _ _ _:=rfl
def Io(h:Below w.heap.size w w')(a:g.bL 0 0≠.ext):Grow g w w' where
 size:=h.size
 cell b o hb:=by unfold World.cell?;rw[show(cl b o).block=b from rfl,h.block b hb]
 Tg b o hb _:=by unfold World.frozen?;rw[show(cl b o).block=b from rfl,h.block b hb]
 obj b d _ e:=by rw[h.block b (cD.1 e).1];exact e
 gW:=⟨h.tape,h.os,h.output,λe=>absurd e a⟩
 whole b hb:=h.block b hb
def ry.grown{E:aJ}{args:List V}{xs:Array Value}(a:ry GL g w E args xs)(h:Grow g w w'):qi GL g w'/\HR g E w'/\Step g w g w':=by
 have R:=a.rel.grow (g0:=g) (w':=w') ⟨λ_ _ _ e=>e,λ_ _ e=>e,λ_ _ e=>e⟩ h;exact⟨R.gA.lb rfl rfl,R.heap.lb rfl rfl,(Step.refl g w).grow a.gA h⟩
end
def OC{GL:ak}{g:aW}{w w':World}{E:aJ}{args:List V}{xs:Array Value}(y:ry GL g w E args xs)(Q:g.bL 0 0≠.ext)(hb:Below w.heap.size w w'){v:Value}{l:List T}{t:TypeId}(R:w'.ownsRow w.heap.size t 1 v l.length (l.map encStr)):
 ∃g',u7 GL g w g' w' E (e9 l) false v:=by
 obtain⟨z,D,H⟩:=y.grown (Io hb Q);rcases R.2 with⟨rfl,ab⟩|⟨gb,cap,cur,rfl,aB,K,ac,aC,ad,L⟩
 .have:l=[]:=gY ab;subst this;exact⟨g,z,D,.slnil 1,H,bR⟩
 .have u:∀o,g.bL gb o=.free:=λo=>cJ λh=>by
   have:=y.gA.il gb o h;omega
  rw[kL]at ad L;have q:∀o,o<l.length->cur[o]?=(l[o]?).map encStr:=λo r=>by
   rw[<-bB,<-L,dA,ax r,di]
  refine⟨g.block gb λo=>if o<l.length then .gZ (cur.getD o undef)else .free,OB u z (cD.1 K).1 ?_ ?_,LF u D,?_,H.trans (LG u ?_),bR⟩
  .intro o x e;split at e
   next r=>
    injection e with e
    subst e;have f:=q o r;rw[aa r]at f;unfold World.cell?;rw[show(cl gb o).block=gb from rfl,K];show cur[o]?=_;rw[f];simp[cH,f]
   .cases e
  .intro o aD;split<;>simp
  .have N:=VR.sl (g:=g.block gb λo=>if o<l.length then .gZ (cur.getD o undef)else .free) 1 (l.map S) ⟨gb,0,none⟩ cap (λo=>cur.getD o undef) rfl (by simpa using ac) (λi v e=>by
    rw[bB,bS]at e;obtain⟨a,_,rfl⟩:=e;rfl) (λk ai=>by
    rw[aW.eL,cA];rw[ax (by simpa using ai)]) (λi v j c p d=>by
    rw[bB,bS]at p;obtain⟨a,_,rfl⟩:=p
    match j,d with
    |0,d=>cases d;rfl) (λi v j c p d=>by
    have P:i<l.length:=by have:=(aH.1 p).1;simpa using this
    rw[bB,bS]at p;obtain⟨a,aA,rfl⟩:=p
    match j,d with
    |0,d=>
     cases d;have f:=q i P;rw[aA]at f;rw[kL,dj];simp only[cH,f,bG,bf];exact .str a)
   rw[aq]at N;exact N
  .intro o;split<;>simp
def OD{g:aW}{l:List (T×Bx.V)}{es:Array MapEntry}{c:Nat}(h:wD g (fp S l) es c):es.toList.map (·.key)=l.map (λx=>encStr x.1)/\es.toList.map (·.born)=List.range l.length/\es.size=l.length:=by
 have a:es.size=l.length:=by rw[h.len];simp[fp]
 refine⟨nr (by simp[a]) λj d o=>?_,nr (by simp[a]) λj d o=>?_,a⟩
 .have f:j<es.size:=by simpa using d
  have p:j<l.length:=av;have:=h.key j (S l[j].1,l[j].2) es[j] (by simp[fp,p]) (by simp[f]);rw[dB,dB,ll];generalize es[j].key=y at this;cases this;rfl
 .have f:j<es.size:=by simpa using d
  have:=h.born j es[j] (by simp[f]);rw[dB,ll,this];simp
def Ip{s:T}(h:s.length<=maxLen):keyOf prog 9 (encStr s)=some (.string s):=by
 have a:prog.underlying 9=some .string:=by kernel_rfl
 simp only[keyOf,a,mapKey,encStr];rw[ax (by simpa[ByteArray.size]using h)]
def OE(E:aJ)(xB tid:Nat)(l:List (T×Bx.V))(hb:E.box xB=some [.mp tid])(aC:E.mp tid=some (.map (fp S l)))(c2:l.length<=1000)(bs:(l.map (·.1)).Nodup)(bu:∀x∈l,x.1.length<=1000000000):
 aI 108 [.fn 166 [.bp xB 0]] E λv _ aD=>v=e9 ((l.map (·.1)).mergeSort λx y=>decide (x<=y))/\aD=E:=by
 intro g w a0 o R bv;obtain⟨Q,rfl⟩:∃Q,a0=#[Q]:=by
  have:=o.len;cases a0 with|mk l=>match l,this with|[a],_=>exact⟨a,rfl⟩
 have bU:=o.arg 0 (.fn 166 [.bp xB 0]) Q rfl rfl;cases bU with
 |fn _ _ ab a1 a2=>
 obtain⟨ac,rfl⟩:∃ac,ab=#[ac]:=by
  cases ab with|mk l=>match l,a1 with|[a],_=>exact⟨a,rfl⟩
 have h1:=a2 0 (.bp xB 0) ac rfl rfl;cases h1 with
 |bp _ _ B b2=>
 obtain⟨r,a3,t⟩:=o.heap.box xB _ hb;obtain rfl:=au (a3.symm.trans b2);obtain⟨_,x,hx,b3⟩:=t.cell 0 (.mp tid) rfl;cases b3 with
 |mp _ b a4=>
 obtain⟨a5,c5,b5,c6,b6,c7,b7⟩:=o.heap.map tid _ aC;obtain rfl:=au (b5.symm.trans a4);obtain⟨d,c,rfl,ad⟩:=b7;obtain⟨u,a6,a7⟩:=OD ad;have ca:g.bL 0 0≠.ext:=by
  have:=o.gA.kn 0 _ rfl;cases this with
  |ep _ _ ab _ cb _ _=>
   have:=cb 0 (by simp);rw[this];simp
 have q:∀x∈d.toList,∃s:T,x.key=encStr s/\s∈l.map (·.1):=λx hx=>by
  have:x.key∈d.toList.map (·.key):=lR hx;rw[u,cG]at this;obtain⟨y,ai,D⟩:=this;exact⟨y.1,D.symm,lR ai⟩
 let Rd:Value->Option (DataW Unit×List MemPlace):=λ_=>some (.lit (.bool true),[])
 have P:∀x∈d.toList,∀s:T,x.key=encStr s->WideElems.rd prog 9 Rd x=some (.string s,.lit (.bool true)):=λx hx s D=>by
  obtain⟨cc,a8,a9⟩:=q x hx;obtain rfl:s=cc:=encStr_inj (D.symm.trans a8);obtain⟨y,ai,rfl⟩:=cG.1 a9;have hlen:=bu y ai;have:keyOf prog 9 x.key=some (.string y.1):=by
   rw[D];exact Ip (by simp only[maxLen];omega)
  obtain⟨kk,c9,bb⟩:=x;exact WideElems.rd_mk (R:=Rd) (yv:=(.lit (.bool true),[])) this rfl
 have aA:w.ownsMap prog 9 Rd a5 d.size (.map ((d.toList.map (WideElems.rg prog 9 Rd)).foldr DataW.insert [])):=
  ⟨d,c,b6,⟨by rw[a7];simp only[maxLen];omega,⟨λx hx=>by
   obtain⟨j,ch,rfl⟩:=ja hx;have:j<d.size:=by simpa using ch
   rw[ad.Ml,ll,ad.born j d[j] (by simp[this])];exact this,by rw[a6];exact lw,by
   rw[u];have:l.map (λx=>encStr x.1)=(l.map (·.1)).map encStr:=by rw[jT];rfl
   rw[this];exact mQ.2 (bs.imp λh e=>h (encStr_inj e))⟩,λx hx=>by
   obtain⟨s,H,_⟩:=q x hx;exact⟨_,P x hx s H⟩⟩,ao _,rfl⟩
 have K:(strKeys (.map ((d.toList.map (WideElems.rg prog 9 Rd)).foldr DataW.insert []):DataW Unit)).Perm (l.map (·.1)):=by
  refine List.Perm.trans ((WideShapes.sorted_perm (d.toList.map (WideElems.rg prog 9 Rd))).map (λp:Lit×DataW Unit=>strOf p.1)) ?_;rw[jT];have:d.toList.map ((λp=>strOf p.1)∘WideElems.rg prog 9 Rd)=l.map (·.1):=by
   have ci:(d.toList.map ((λp=>strOf p.1)∘WideElems.rg prog 9 Rd)).map encStr=(l.map (·.1)).map encStr:=by
    rw[jT,jT];refine Eq.trans ?_ u;refine ke λx hx=>?_;obtain⟨s,H,_⟩:=q x hx;show encStr (strOf (WideElems.rg prog 9 Rd x).1)=x.key;rw[WideElems.rg_of (P x hx s H),H];rfl
   exact(List.map_inj_right (f:=encStr) (λ_ _ e=>encStr_inj e)).1 ci
  rw[this]
 have bi:r<w.heap.size:=o.gA.il r 0 (by rw[t.mq 0];simp);have aB:SeqGives Fence.wide 2 prog 166 #[.pointer (some ⟨r,0,none⟩)] encStr (λL=>L.Perm (strKeys _)) (Maps.size _) w:=
  AnyZ.keys_gives (ρ:=Bf) {UY with} Fence.wide _ trivial rfl (by omega) r a5 d.size _ w bi hx aA
 have N:Maps.size (.map ((d.toList.map (WideElems.rg prog 9 Rd)).foldr DataW.insert []):DataW Unit)<=1000:=by
  show((d.toList.map (WideElems.rg prog 9 Rd)).foldr DataW.insert []).length<=1000;rw[(WideShapes.sorted_perm _).length_eq,aq,oG];omega
 have cp:=AnyZ.sorted_in NB Fence.wide 5 trivial trivial trivial trivial rfl (by omega) (OA _) (enters_of func165 (by kernel_rfl) rfl) 166 #[.pointer (some ⟨r,0,none⟩)] trivial (enters_of func166 (by kernel_rfl) rfl) _ _ (aQ N (by simp only[maxLen];omega)) (by omega) _ aB;refine(callsIn_wide.1 cp).mono ?_;rintro e w' ⟨v,L,rfl,hS,z,_,bo⟩;have br:=mergeSort_of_perm (hS.trans K);have hlen:L.length=(L.mergeSort λx y=>decide (x<=y)).length:=(ix _).symm;rw[hlen]at z;obtain⟨c1,out⟩:=OC o ca bo z;exact bv _ _ false E c1 w' ⟨by rw[br],rfl⟩ out
end Go.Bx
namespace Go.Bx
open Go.Proofs Go.Proofs.Tryz
attribute [local irreducible] vc er dr b4 bV run iD iY i1 i6 iQ i7 i2 iu iS i4 gB i3 cW
def aaf:CF GL f109 [1] [] 109:=ji
def Sm(E:aJ)(tid:Nat):aI 109 [.mp tid] E λv _ a=>v=.fn 166 [.bp E.Y 0]/\a=E.cM [.mp tid]:=by
 refine bq aaf.ok rfl ?_;repeat any_goals simp only[gE,simprocAttr,HX.act]
 exact⟨nE,_,_,bz rfl rfl,by rfl⟩
def GB{α β:Type}(f:β->V)(l:List (α×β)):(gX f l).map (·.1)=l.map (·.1):=by
 unfold gX;rw[jT];rfl
def Sn(E:aJ)(xB tid:Nat)(ts:List (T×hG))(hb:E.box xB=some [.mp tid])(a:E.mp tid=some (.map (fp S (gX hG.v ts))))(f:ts.length<=1000)(j:(ts.map (·.1)).Nodup)(l:∀x∈ts,x.1.length<=1000000000):
 aI 108 [.fn 166 [.bp xB 0]] E λv _ d=>v=e9 (DE (ts.map (·.1)))/\d=E:=by
 have h:=OE E xB tid (gX hG.v ts) hb a (by simpa[gX]using f) (by rw[GB];exact j) (λx hx=>by
  obtain⟨y,o,rfl⟩:=cG.1 hx;exact l y o)
 rw[GB]at h;exact h
end Go.Bx
