/- Lemmas for HistoryBegins. -/
import Derived.Test.YtmbahmpbmcfifaaGreatDoorCg
import Derived.LoopIn
import Derived.LoopNIn
import Derived.OwnWalkIn
import Derived.RangeFuncLeaves
import Derived.RangeFuncNested
import Derived.Shelf.Abstract
noncomputable section
set_option linter.all false
set_option maxHeartbeats 4000000
set_option maxRecDepth 100000
namespace Go.Bx
open Go.Proofs Go.Proofs.Tryz
attribute [local irreducible] vc er dq b4 bU run iw iI iW i1 iG i2 iX iq iH iZ gA iY cS
def tR{P:Program}{GL:aj}{s:St}{x:eL}{d sz:Nat}{neg pu:Bool}{r:List BI}{K:St->Prop}{xs:List V}{E:aK}(h:s.val x=.sl sz xs)(f:s.E=E)(a:er P GL pu r ((s.cu E).put d (.bool neg) none false) K)(h2:xs=[]->er P GL pu r ((s.cu E).put d (.bool (!neg)) none false) K):iq P GL (HX.act s (.wZ neg x)) (some d) pu r s K:=by
 have e:=Nx (P:=P) (GL:=GL) (pu:=pu) (K:=K);simp only[HX.act,h,f];cases xs with
 |nil=>exact UU (by simp only[St.ret];exact h2 rfl) (by simp only[St.ret];exact a)
 |cons y j=>simp only[e.2.1];exact a
def PL{α:Type}{f:α->V}{l:List α}{n:Nat}(h:l.map f=[]):V.Le .aP (.sl n (l.map f)):=by rw[h];exact .aP _
def ZF:CF GL f122 [] [] 122:=jo
def wz(e:aW):af 57 [e.v] e.name.v:=by
 refine pk f57 ?_;exact Yd
def JY(a:Name):af 149 [a.v] (B a.mj):=by
 refine pk f149 ?_;repeat' first|simp only[dt,simprocAttr]|refine c8 ?_ ?_<;>intro h<;>(try simp only[bM]at h)<;>(try simp only[h])<;>try simp only[jg]at h|apply qD rfl rfl
 all_goals exact ak (aq V.bool (by rw[db];simp[Name.mj]<;>omega))
def Rv(a:Name):af 211 [a.v] (B a.mj):=by
 refine pk f211 ?_;repeat' first|simp only[dt,simprocAttr]|refine c8 ?_ ?_<;>intro h<;>(try simp only[bM]at h)<;>(try simp only[h])<;>try simp only[jg]at h|apply qD rfl rfl
 all_goals exact ak (aq V.bool (by rw[db];simp[Name.mj]<;>omega))
def Rw(a:Name):af 188 [a.v] (B a.mj):=by
 refine pk f188 ?_;repeat' first|simp only[dt,simprocAttr]|refine c8 ?_ ?_<;>intro h<;>(try simp only[bM]at h)<;>(try simp only[h])<;>try simp only[jg]at h|apply qD rfl rfl
 all_goals exact ak (aq V.bool (by rw[db];simp[Name.mj]<;>omega))
def JZ(a:ID):af 124 [a.v] (B a.mj):=by
 refine pk f124 ?_;repeat' first|simp only[dt,simprocAttr]|refine c8 ?_ ?_<;>intro h<;>(try simp only[bM]at h)<;>(try simp only[h])<;>try simp only[jg]at h|apply qD rfl rfl
 all_goals exact ak (aq V.bool (by rw[db];simp[ID.mj]<;>omega))
def J0(a b:Int):af 150 [I a,I b] (B (decide (0<=a/\a<=b))):=by
 refine pk f150 ?_;repeat' first|simp only[dt,simprocAttr]|refine c8 ?_ ?_<;>intro h<;>(try simp only[bM]at h)<;>(try simp only[h])<;>try simp only[jg]at h|apply qD rfl rfl
 all_goals exact ak (aq V.bool (by rw[db];simp<;>omega))
def J1(a b:Name):af 122 [a.v,b.v] (B (E0 a b)):=by
 refine pq ZF.ok rfl (by simp only[dx]) ?_;repeat' first|simp only[dt,simprocAttr]|refine bZ ?_ ?_<;>intro h<;>try simp only[jg]at h|apply qD rfl rfl
 all_goals exact ak (aq V.bool (by rw[db];simp[E0]<;>omega))
def Oj(a b:aW):af 86 [a.v,b.v] (B (nj a b)):=by
 refine pk f86 ?_;repeat' first|refine k7 ?_|refine cs ?_ ?_<;>intro h|refine lq (wz a) ?_|refine lq (wz b) ?_|refine lq (J1 a.name b.name) ?_|refine q1 ?_
 all_goals exact ak (aq V.bool (by(simp[nj,h];done)))
def xw(a b:aW):Int:=if nj a b then -1 else if nj b a then 1 else 0
def Vp(a b:aW):af 85 [a.v,b.v] (I (xw a b)):=by
 refine pk f85 ?_;repeat' first|refine k7 ?_|refine cs ?_ ?_<;>intro h|refine lq (Oj a b) ?_|refine lq (Oj b a) ?_|refine q1 ?_
 all_goals exact ak (aq I (by simp_all[xw]))
def J2(a b:List T)(f:a.length<=1000000000):af 200 [eZ a,eZ b] (B (decide (a=b))):=by
 refine pk f200 ?_;repeat' first|refine k7 ?_|refine cs ?_ ?_<;>intro h|refine q1 ?_
 .exact Hr
 have d:a.length=b.length:=av;refine sl (λk:Nat=>k<=a.length/\a.take k=b.take k) (λk=>[(13,I k,false)]) (λk=>a.length-k) (0) (⟨bT,bT⟩) ?_;rintro k ⟨j,he⟩;rcases am k a.length with h1|h1
 .have h2:k<b.length:=av;repeat' first|refine qp ?_|refine cs ?_ ?_<;>intro h<;>try omega|refine ba (k+1) ?_|refine q1 ?_
  .exact KG
  .exact MG
 .exact XC
def Rx(a b:List (Int×Int))(f:a.length<=1000000000):af 201 [jz a,jz b] (B (decide (a=b))):=by
 refine pk f201 ?_;repeat' first|refine k7 ?_|refine cs ?_ ?_<;>intro h|refine q1 ?_
 .exact Hr
 have d:a.length=b.length:=av;refine sl (λk:Nat=>k<=a.length/\a.take k=b.take k) (λk=>[(13,I k,false)]) (λk=>a.length-k) (0) (⟨bT,bT⟩) ?_;exact Yn
def Ry(a b:List ID)(f:a.length<=1000000000):af 202 [eW a,eW b] (B (decide (a=b))):=by
 refine pk f202 ?_;repeat' first|refine k7 ?_|refine cs ?_ ?_<;>intro h|refine q1 ?_
 .exact Hr
 have d:a.length=b.length:=av;refine sl (λk:Nat=>k<=a.length/\a.take k=b.take k) (λk=>[(13,I k,false)]) (λk=>a.length-k) (0) (⟨bT,bT⟩) ?_;rintro k ⟨j,he⟩;rcases am k a.length with h1|h1
 .have h2:k<b.length:=av;repeat' first|refine qp ?_|refine cs ?_ ?_<;>intro h<;>try omega|refine ba (k+1) ?_|refine q1 ?_
  .exact KG
  .exact⟨av,by rw[br h1,br h2,he,(ID.F8 (a:=a[k]) (b:=b[k])).2 (by simpa using h)]⟩
 .exact XC
def Rz(a b:gU)(d:a.eH.length<=1000000000):af 152 [a.v,b.v] (B (decide (a=b))):=by
 obtain⟨o,p,q,r,f⟩:=a;obtain⟨t,u,y,z,j⟩:=b;refine pk f152 ?_;repeat' first|simp only[dt,simprocAttr]|refine gz ?_ ?_<;>intro l h<;>try simp only[l]|refine lq (J2 f j d) ?_|refine q1 ?_
 all_goals exact ak (aq V.bool (by simp_all))
def wP(a:Int):af 184 [I a] (B false):=by
 exact aa3
def qT(a b:Int):Int:=if a<b then -1 else if b<a then 1 else 0
def vk(a b:Int):af 131 [I a,I b] (I (qT a b)):=by
 exact aa0
def PS:List Int->Int
 |[]=>0
 |a::r=>if a≠0 then a else PS r
def rb(a b:ID):Int:=PS [qT a.J b.J,qT a.seq b.seq,qT a.k b.k]
def p8(a b:cI):Int:=PS [rb a.from_ b.from_,rb a.to b.to]
def RB(a:Int):af 212 [I a] (B (decide (0<=a/\a<10))):=by
 refine pk f212 ?_;repeat' first|simp only[dt,simprocAttr]|refine c8 ?_ ?_<;>intro h<;>(try simp only[bM]at h)<;>(try simp only[h])<;>try simp only[jg]at h|apply qD rfl rfl
 all_goals exact ak (aq V.bool (by rw[db];simp<;>omega))
def Vq(a b:List gU)(j:a.length<=1000000000)(hb:∀t∈a,t.ok):af 23 [oi a,oi b] (B (decide (a=b))):=by
 refine pk f23 ?_;repeat' first|refine k7 ?_|refine cs ?_ ?_<;>intro h|refine q1 ?_
 .exact Hr
 have f:a.length=b.length:=av;refine sl (λk:Nat=>k<=a.length/\a.take k=b.take k) (λk=>[(5,I k,false)]) (λk=>a.length-k) (0) (⟨bT,bT⟩) ?_;rintro k ⟨l,he⟩;rcases am k a.length with h1|h1
 .have h2:k<b.length:=av;have d:=aT (hb _ (ah h1)).2.2.1 (by decide:1000000<=1000000000);repeat' first|refine qp ?_|refine cs ?_ ?_<;>intro h<;>try omega|refine ba (k+1) ?_|refine lq (Vd a[k] b[k] d) ?_|refine q1 ?_
  .exact KG
  .exact MG
 .exact XC
def Ol(k:Int):V:=.agg [B (decide (k=0)),B (decide (k=2)),B (decide (3<=k/\k<=6)),B (decide (k=3\/k=4)),B (decide (k=5\/k=6))]
def kT(k:Int):af 147 [I k] (Ol k):=by
 unfold Ol;refine pk f147 ?_;repeat' first|refine k7 ?_|refine cs ?_ ?_<;>intro h|refine ei ?_|(refine ao nE ?_;refine tS ev rfl ?_)
 all_goals exact ak (by first|(simp_all;done)|(simp_all;omega))
def Vr(l:List T)(a:l.length<=1000000000):af 74 [eZ l] (eZ l) true:=by
 refine pk f74 ?_;exact wb3
def Vs(l:List Name)(a:l.length<=1000000000):af 81 [ka l] (ka l) true:=by
 refine pk f81 ?_;exact wb3
def vl(l:List ID)(a:l.length<=1000000000):af 127 [eW l] (eW l) true:=by
 refine pk f127 ?_;exact wb3
def oy(a:ID):Nat->List eg->Option (Nat×Nat)
 |_,[]=>none
 |k,x::r=>match oq a 0 x.O with
  |some j=>some (k,j)
  |none=>oy a (k+1) r
def ef(a:ID):Nat->List eM->Option (Nat×Nat×Nat)
 |_,[]=>none
 |k,x::r=>match oy a 0 x.O with
  |some j=>some (k,j)
  |none=>ef a (k+1) r
def jm:Option (Nat×Nat×Nat)->fW
 |some (a,b,c)=>⟨a,b,c⟩
 |none=>⟨0,0,0⟩
def vm(w:cg)(a:ID)(p:w.ok):af 103 [w.v,a.v] (.hJ [(jm (ef a 0 w.O)).v,B (ef a 0 w.O).isSome]):=by
 obtain⟨w⟩:=w;obtain⟨q,r,D⟩:=p;simp only at q ⊢
 generalize t:ef a 0 w=R;refine pk f103 ?_;repeat' simp only[dt,simprocAttr]
 refine sk (bJ:=[]) (λk:Nat=>k<=w.length/\ef a k (w.drop k)=R) (λk=>[(6,I k,false)]) (λk=>w.length-k) (0) (⟨av,t⟩) ?_;rintro k ⟨H,he⟩;rcases am k w.length with d|d
 .have o:=r w[k] (ah d);have K:=o.1;rw[bG d,ef]at he;repeat' first|refine k7 ?_|refine cs ?_ ?_<;>intro h<;>try omega
  generalize u:oy a 0 w[k].O=A at he;refine sk (bJ:=[]) (λi:Nat=>i<=w[k].O.length/\oy a i (w[k].O.drop i)=A) (λi=>[(7,I i,false)]) (λi=>w[k].O.length-i) (0) (⟨av,u⟩) ?_;rintro i ⟨L,Uz⟩;rcases am i w[k].O.length with f|f
  .have N:=(o.2 _ (ah f)).2.1;rw[bG f,oy]at Uz;repeat' first|refine qp ?_|refine cs ?_ ?_<;>intro h<;>try omega
   generalize y:oq a 0 w[k].O[i].O=z at Uz;refine sk (bJ:=[]) (λj:Nat=>j<=w[k].O[i].O.length/\oq a j (w[k].O[i].O.drop j)=z) (λj=>[(9,I j,false)]) (λj=>w[k].O[i].O.length-j) (0) (⟨av,y⟩) ?_;rintro j ⟨P,Hy⟩;rcases am j w[k].O[i].O.length with l|l
   .rw[bG l,oq]at Hy;repeat' first|refine qp ?_|refine cs ?_ ?_<;>intro h<;>try omega|(refine⟨j+1,⟨?_⟩,⟨av⟩,?_⟩;rotate_left;focus (simp only[fR,fM,bL,cK];and_intros;all_goals(try(simp only[mR]));all_goals(try(first|(intro h;cases h;done)|(refine ak (aq I ?_);omega)|((repeat with_reducible (first|exact Kept.refl _|refine eF ?_|refine eO ?_|refine ec ?_));done)))))|refine lq (oZ w[k].O[i].O[j].id a) ?_|(((refine rT ?_;repeat' first|exact hW.nil|refine gt ?_ ?_|refine gc ?_ ?_)))
    .exact Yt
    .exact Yt
    .rw[al h]at Hy;exact⟨l,Hy⟩
   .rw[cT l,oq]at Hy;subst Hy;repeat' first|simp(disch:=omega) only[dt,simprocAttr]|refine cs ?_ ?_<;>intro h<;>try omega|(refine⟨i+1,⟨?_⟩,⟨av⟩,?_⟩;rotate_left;focus (simp only[fR,fM,bL,cK];and_intros;all_goals(try(simp only[mR]));all_goals(try(first|(intro h;cases h;done)|(refine ak (aq I ?_);omega)|((repeat with_reducible (first|exact Kept.refl _|refine eF ?_|refine eO ?_|refine ec ?_));done)))))
    exact⟨f,Uz⟩
  .rw[cT f,oy]at Uz;subst Uz;repeat' first|refine qp ?_|refine cs ?_ ?_<;>intro h<;>try omega|(refine⟨k+1,⟨?_⟩,⟨av⟩,?_⟩;rotate_left;focus (simp only[fR,fM,bL,cK];and_intros;all_goals(try(simp only[mR]));all_goals(try(first|(intro h;cases h;done)|(refine ak (aq I ?_);omega)|((repeat with_reducible (first|exact Kept.refl _|refine eF ?_|refine eO ?_|refine ec ?_));done)))))
   exact⟨d,he⟩
 .rw[cT d,ef]at he;subst he;repeat' first|refine k7 ?_|refine cs ?_ ?_<;>intro h<;>try omega|(((refine rT ?_;repeat' first|exact hW.nil|refine gt ?_ ?_|refine gc ?_ ?_);(all_goals(try((apply ak;simp;done))))))
  exact .refl _
def RC{a b:cg}:a=b↔a.O=b.O:=by cases a;cases b;simp
def Vt{a b:eM}:a=b↔a.O=b.O:=by cases a;cases b;simp
def Vu{a b:eg}:a=b↔a.gR=b.gR/\a.O=b.O:=by cases a;cases b;simp
def Vv(a b:cg)(u:a.ok):af 79 [a.v,b.v] (B (decide (a=b))):=by
 obtain⟨a⟩:=a;obtain⟨b⟩:=b;obtain⟨y,z,K⟩:=u;simp only at y;simp only[RC];refine pk f79 ?_;repeat' first|refine k7 ?_|refine cs ?_ ?_<;>intro h|refine q1 ?_
 .exact Hr
 have A:a.length=b.length:=av;refine sk (bJ:=[]) (λk:Nat=>k<=a.length/\a.take k=b.take k) (λk=>[(5,I k,false)]) (λk=>a.length-k) (0) (⟨av,bT⟩) ?_;rintro k ⟨L,o⟩;rcases am k a.length with d|d
 .have p:k<b.length:=av;have q:=z a[k] (ah d);have N:=q.1;repeat' first|simp(disch:=try exact om) only[dt,simprocAttr]|refine cs ?_ ?_<;>intro h<;>try omega|refine q1 ?_
  .exact KG
  have H:a[k].O.length=b[k].O.length:=av;refine p2 (D:=[4,6,7,8,38,39,40,41,42,43,44,45,46,47,48,49,50,51,52,53,54,55,56,57,58,59,60,61,62,63,64,65,66,67,68,69,70,71,72,73,74,75,76,77,78,79]) (bJ:=[]) rfl (λj:Nat=>j<=a[k].O.length/\a[k].O.take j=b[k].O.take j) (λj=>[(6,I j,false)]) (λj=>a[k].O.length-j) (0) rfl rfl (λ_=>rfl) (⟨by omega,by simp⟩) ?_ ?_ ?_;iterate 2 ·(simp only[fR,fM,bL];and_intros;all_goals(try(simp only[mR,simprocAttr]));all_goals(try(first|with_reducible exact .refl _|(intro h;cases h;done))))
  rintro j ⟨P,f⟩;rcases am j a[k].O.length with l|l
  .have r:j<b[k].O.length:=by omega
   have t:=q.2 _ (ah l);repeat any_goals first|simp(disch:=try exact om) only[dt,simprocAttr]|(first|refine bZ ?_ ?_|refine c8 ?_ ?_)<;>intro h<;>(try simp only[bB]at h)<;>(try simp only[h])<;>(try simp only[jg]at h)<;>try omega|(refine⟨j+1,⟨?_⟩,⟨av⟩,?_⟩;rotate_left;focus (simp only[fR,fM,bL,cK];and_intros;all_goals(try(simp only[mR,simprocAttr]));all_goals(try(first|(intro h;cases h;done)|(refine ak (aq I ?_);omega)|((repeat first|with_reducible (first|exact Kept.refl _|refine eF ?_|refine eO ?_|refine eB ?_|refine ec ?_)|(with_reducible refine eC ?_ ?_;rotate_left;(simp only[pY,simprocAttr])));done)))))|refine lq (Rb a[k].O[j].O b[k].O[j].O (aT t.2.1 du) t.2.2) ?_|refine q1 ?_
   .exact ak (by
     have:a≠b:=λe=>by subst e;exact h rfl
     simp only[this,m7])
   .exact⟨l,by rw[br l,br r,f,Vu.2 ⟨by assumption,h⟩]⟩
   .exact ak (by
     have:a≠b:=λe=>by subst e;exact h rfl
     simp only[this,m7])
  .rw[aE l,aE av]at f;repeat' first|refine qp ?_|refine cs ?_ ?_<;>intro h<;>try omega|(refine⟨k+1,⟨?_⟩,⟨av⟩,?_⟩;rotate_left;focus (simp only[fR,fM,bL,cK];and_intros;all_goals(try(simp only[mR]));all_goals(try(first|(intro h;cases h;done)|(refine ak (aq I ?_);omega)|((repeat with_reducible (first|exact Kept.refl _|refine eF ?_|refine eO ?_|refine ec ?_));done)))))
   exact⟨d,by rw[br d,br p,o,Vt.2 f]⟩
 .rw[aE d,aE av]at o;repeat' first|refine k7 ?_|refine cs ?_ ?_<;>intro h<;>try omega|refine q1 ?_
  exact ak (by simp[o])
def Gr{a:ID}:∀{k:Nat} {l:List aJ} {j:Nat},oq a k l=some j->∃m,j=k+m/\∃h:m<l.length,l[m].id=a
 |k,[],j,h=>by simp[oq]at h
 |k,p::r,j,h=>by
  unfold oq at h;split at h
  next d=>cases h;exact⟨0,rfl,bT,by simpa using d⟩
  .obtain⟨m,f,h2,h3⟩:=Gr h;exact Ux
def DV{a:ID}:∀{k:Nat} {l:List eg} {j:Nat×Nat},oy a k l=some j->∃m,j.1=k+m/\∃h:m<l.length,∃h2:j.2<l[m].O.length,l[m].O[j.2].id=a
 |k,[],j,h=>by simp[oy]at h
 |k,p::r,j,h=>by
  unfold oy at h;split at h
  next d f=>cases h;obtain⟨m,o,h2,h3⟩:=Gr f;obtain rfl:d=m:=av;exact⟨0,rfl,bT,by simpa using h2,by simpa using h3⟩
  .obtain⟨m,o,h2,h3⟩:=DV h;exact Ux
def DW{a:ID}:∀{k:Nat} {l:List eM} {j:Nat×Nat×Nat},ef a k l=some j->∃m,j.1=k+m/\∃h:m<l.length,∃h2:j.2.1<l[m].O.length,∃h3:j.2.2<l[m].O[j.2.1].O.length,l[m].O[j.2.1].O[j.2.2].id=a
 |k,[],j,h=>by simp[ef]at h
 |k,p::r,j,h=>by
  unfold ef at h;split at h
  next d f=>cases h;obtain⟨m,o,h2,h3⟩:=DV f;obtain rfl:d.1=m:=av;exact⟨0,rfl,bT,by simpa using h2,by simpa using h3⟩
  .obtain⟨m,o,h2,h3⟩:=DW h;exact Ux
def jT{a:ID}{l:List eM}{v b i:Nat}(h:ef a 0 l=some (v,b,i)):∃d:v<l.length,∃h2:b<l[v].O.length,∃f:i<l[v].O[b].O.length,l[v].O[b].O[i].id=a:=by
 obtain⟨m,d,h2⟩:=DW h;simp only[cA]at d;subst d;exact h2
def BV(l:List gS):Nat:=(l.filter λt=>t.kind==3).length
def BW(l:List gS):∀n,n<=l.length->(lO 3 l n).length=BV (l.take n)
 |0,_=>by simp[lO,BV]
 |n+1,h=>by
  rw[pC 3 l h,br h];have:=BW l n av;unfold BV at this ⊢
  rw[gq,ae];split
  next a=>simp[this,a]
  next a=>simp[this,a]
def BZ(s:T):gl s=BV (cr s):=by
 unfold gl;rw[BW _ _ (an _),bg]
def DX(s:T)(m:Nat)(hm:m<=s.length):∀n,n<=m->jq (s.take m) n=jq s n
 |0,_=>rfl
 |n+1,h=>by
  have e:∀k,k<m->gd (s.take m) k=gd s k:=λk d=>by simp[gd,ap,d]
  simp only[jq,DX s m hm n av,qE,e n av];rcases cZ n with a|a
  .subst a;simp
  .rw[e (n-1) av]
def LF(s:T)(n:Nat)(l:List gS):BV l<=BV (qE s n l):=by
 unfold qE;dsimp only;split
 .exact an _
 .split
  .split
   next u a=>obtain⟨k,rfl⟩:∃k,l=k++[u]:=lV.1 a;simp only[BV,gq,List.filter_cons,List.filter_nil,nT,ae];by_cases d:u.kind=3<;>simp[d]
   .simp[BV,gq]
  .simp[BV,gq]
def LG(s:T){m n:Nat}(h:m<=n):BV (jq s m)<=BV (jq s n):=by
 induction h with
 |refl=>exact an _
 |step h ih=>exact aT ih (LF s _ _)
def Gs(s:T)(m:Nat)(hm:m<=s.length):gl (s.take m)<=gl s:=by
 rw[BZ,BZ];have:cr (s.take m)=jq s m:=by
  unfold cr;rw[aG,dM hm];exact DX s m hm m (an _)
 rw[this];exact LG s hm
end Go.Bx
namespace Go.Bx
open Go.Proofs Go.Proofs.Tryz
def B0{P:Program}{GL:aj}{s:St}{K0:St->Prop}{pu:Bool}{d:Option Nat}{r:List BI}{u:V}{o:Bool}{E:aK}(h:er P GL pu r ((s.cu E).ret d u o) K0):iq P GL (some [(u,o,E)]) d pu r s K0:=⟨h,trivial⟩
attribute [local irreducible] vc er dq b4 bU run iw iI iW i1 iG i2 iX iq iH iZ gA iY cS
structure yw{α:Type}[DecidableEq α](ks:List CK)(ag:Bool)(lH:α->V):Prop where
 eq:∀a b,dI ks (lH a).cells (lH b).cells=some (decide (a=b))
 ok:∀a,jW ks.length (lH a)=true
 agg:∀a,(lH a).isAgg=ag
section
variable {α:Type}[DecidableEq α]{ks:List CK}{ag:Bool}{lH:α->V}
def fk(lH:α->V)(l:List (α×V)):List (V×V):=l.map λx=>(lH x.1,x.2)
def qV:List (α×V)->α->Option Nat
 |[],_=>none
 |x::r,a=>if a=x.1 then some 0 else(qV r a).map (· +1)
def kP:List (α×V)->α->V->V
 |[],_,z=>z
 |x::r,a,z=>if a=x.1 then x.2 else kP r a z
def zT:List (α×V)->α->Bool
 |[],_=>false
 |x::r,a=>if a=x.1 then true else zT r a
def jh:List (α×V)->α->V->List (α×V)
 |[],a,v=>[(a,v)]
 |x::r,a,v=>if a=x.1 then(a,v)::r else x::jh r a v
def TJ(K:yw ks ag lH)(a:α):∀(l:List (α×V))(i:Nat),m8 ks (lH a).cells (fk lH l) i=some ((qV l a).map (· +i))
 |[],_=>rfl
 |x::r,i=>by
  have ih:=TJ K a r (i+1);unfold fk at ih ⊢
  rw[bt,m8,K.eq a x.1,qV];by_cases h:a=x.1
  .rw[ax h];simp[h]
  .rw[al h,dZ h];simp only[ih,Option.map_map];congr 1;congr 1;funext j;simp;omega
def ZG(K:yw ks ag lH)(l:List (α×V)):keysOf ag ks.length (fk lH l)=true:=by
 unfold keysOf fk;rw[List.all_map,bO];intro x _;simp[K.ok x.1,K.agg x.1]
def J3(K:yw ks ag lH)(l:List (α×V))(a:α):rH ks ag (lH a) (fk lH l)=some (qV l a):=by
 unfold rH;rw[ax ⟨K.ok a,K.agg a,ZG K l⟩,TJ K a l 0];simp
def xx:∀(l:List (α×V))(a:α)(z:V),(∀j,qV l a=some j->(fk lH l)[j]?=some (lH a,kP l a z)/\zT l a=true)/\(qV l a=none->kP l a z=z/\zT l a=false)
 |[],a,z=>⟨λj h=>(by cases h),λ_=>⟨rfl,rfl⟩⟩
 |x::r,a,z=>by
  have ih:=xx r a z;unfold qV kP zT;by_cases h:a=x.1
  .simp only[ax h];refine⟨λj f=>?_,λf=>by cases f⟩;cases f;exact⟨by subst h;rfl,trivial⟩
  .simp only[al h];refine⟨λj f=>?_,λf=>ih.2 (by simpa using f)⟩;obtain⟨o,p,rfl⟩:=bS.1 f;have:=ih.1 o p;exact⟨by simpa[fk]using this.1,this.2⟩
def xy:∀(l:List (α×V))(a:α)(v:V),(∀j,qV l a=some j->(fk lH l).set j (lH a,v)=fk lH (jh l a v))/\(qV l a=none->fk lH l++[(lH a,v)]=fk lH (jh l a v))
 |[],a,v=>⟨λj h=>(by cases h),λ_=>rfl⟩
 |x::r,a,v=>by
  have ih:=xy r a v;unfold qV jh;by_cases h:a=x.1
  .simp only[ax h];refine⟨λj f=>?_,λf=>by cases f⟩;cases f;rfl
  .simp only[al h];refine⟨λj f=>?_,λf=>?_⟩
   .obtain⟨o,p,rfl⟩:=bS.1 f;have:=ih.1 o p;simp only[fk,bt,ay]at this ⊢
    rw[this]
   .have:=ih.2 (by simpa using f);simp only[fk,bt,aZ]at this ⊢
    rw[this]
section
variable {P:Program}{GL:Nat->Option (List V)}{s:St}{K0:St->Prop}{pu ok:Bool}{d:Option Nat}{r:List BI}{z:V}{m k y:eL}{id:Nat}{l:List (α×V)}{a:α}{fA:aK}
def ju(K:yw ks ag lH)(hm:s.val m=.mp id)(o:s.val k=lH a)(p:s.E=fA)(q:fA.mp id=some (.map (fk lH l)))
 (h:er P GL pu r ((s.cu fA).ret d (i6 ok (kP l a z) (zT l a)) false) K0):iq P GL (HX.act s (.lookup ks ag z ok m k)) d pu r s K0:=by
 subst p;have e:HX.act s (.lookup ks ag z ok m k)=some [(i6 ok (kP l a z) (zT l a),false,s.E)]:=by
  simp only[HX.act,hm,o,FR,q,J3 K l a];have:=xx (lH:=lH) l a z;cases f:qV l a with
  |none=>simp only[this.2 f]
  |some j=>simp only[this.1 j f,bF]
 rw[e];exact B0 h
def DY(K:yw ks ag lH)(hm:s.val m=.mp id)(o:s.val k=lH a)(p:s.E=fA)(q:fA.mp id=some (.map (fk lH l)))(t:(s.val y).dY=false)
 (h:er P GL pu r ((s.cu (fA.eJ id (fk lH (jh l a (s.val y))))).ret d .qn false) K0):iq P GL (HX.act s (.sD ks ag m k y)) d pu r s K0:=by
 subst p;have e:HX.act s (.sD ks ag m k y)=some [(.qn,false,s.E.eJ id (fk lH (jh l a (s.val y))))]:=by
  simp only[HX.act,hm,o,q,J3 K l a,t,bK,cH];have:=xy (lH:=lH) l a (s.val y);cases f:qV l a with
  |none=>simp only[this.2 f]
  |some j=>simp only[this.1 j f]
 rw[e];exact B0 h
def zg(K:yw ks ag lH)(hm:s.val m=.mp id)(u:s.val k=lH a)(D:s.E=fA)(A:fA.mp id=some (.map (fk lH l)))
 (h:∀j,qV (jh l a (kP l a z)) a=some j->er P GL pu r ((s.cu (fA.eJ id (fk lH (jh l a (kP l a z))))).ret d (.hJ [kP l a z,.int .i64 (j:Nat)]) false) K0):iq P GL (HX.act s (.mapEntry ks ag z m k)) d pu r s K0:=by
 subst D;have o:=xy (lH:=lH) l a (kP l a z);have q:=xx (lH:=lH) l a z;have t:∀(l:List (α×V))(v:V),(∀j,qV l a=some j->qV (jh l a v) a=some j)/\(qV l a=none->qV (jh l a v) a=some l.length):=by
  intro l v;induction l with
  |nil=>exact⟨λj h=>(by cases h),λ_=>by simp[jh,qV]⟩
  |cons x r ih=>
   unfold qV jh;by_cases h:a=x.1
   .simp only[ax h];exact⟨λj p=>by cases p;simp[],λp=>by cases p⟩
   .simp only[al h];refine⟨λj p=>?_,λp=>?_⟩
    .obtain⟨H,L,rfl⟩:=bS.1 p;simp only[ih.1 H L,bF]
    .have:=ih.2 (by simpa using p);simp only[this,bF,aM]
 cases f:qV l a with
 |none=>
  have e:HX.act s (.mapEntry ks ag z m k)=some [(.hJ [kP l a z,.int .i64 ((fk lH l).length:Nat)],false,s.E.eJ id (fk lH (jh l a (kP l a z))))]:=by
   simp only[HX.act,hm,u,A,J3 K l a,f];rw[(q.2 f).1]at o ⊢
   rw[o.2 f]
  rw[e];exact B0 (h _ (by rw[(t l _).2 f];simp[fk]))
 |some j=>
  have e:HX.act s (.mapEntry ks ag z m k)=some [(.hJ [kP l a z,.int .i64 (j:Nat)],false,s.E.eJ id (fk lH (jh l a (kP l a z))))]:=by
   simp only[HX.act,hm,u,A,J3 K l a,f,(q.1 j f).1,bF,o.1 j f]
  rw[e];exact B0 (h _ ((t l _).1 j f))
def C4(K:yw ks ag lH){j:Nat}{st:eL}(hm:s.val m=.mp id)(q:s.val st=.int .i64 (j:Nat))(t:s.E=fA)(u:fA.mp id=some (.map (fk lH l)))(p:qV l a=some j)(A:(s.val y).dY=false)
 (h:er P GL pu r ((s.cu (fA.eJ id (fk lH (jh l a (s.val y))))).ret d .qn false) K0):iq P GL (HX.act s (.entryStore m st y)) d pu r s K0:=by
 subst t;have f:=(xy (lH:=lH) l a (s.val y)).1 j p;have o:=((xx (lH:=lH) l a (s.val y)).1 j p).1;have e:HX.act s (.entryStore m st y)=some [(.qn,false,s.E.eJ id (fk lH (jh l a (s.val y))))]:=by
  simp only[HX.act,hm,q,idxOf,Int.natCast_nonneg,bP,bX,u,A,bK,cH,o,bF,f]
 rw[e];exact B0 h
end
end
def qJ:yw [.i,.i,.i] true ID.v where
 eq a b:=by
  simp only[ID.v,V.cells,dI,oR];obtain⟨f,j,o⟩:=a;obtain⟨p,q,t⟩:=b;by_cases h1:f=p<;>by_cases u:j=q<;>by_cases A:o=t<;>simp[h1,u,A]
 ok a:=rfl
 agg a:=rfl
def As:yw [.i,.i] true Name.v where
 eq a b:=by
  simp only[Name.v,V.cells,dI,oR];obtain⟨f,j⟩:=a;obtain⟨o,p⟩:=b;by_cases h1:f=o<;>by_cases q:j=p<;>simp[h1,q]
 ok a:=rfl
 agg a:=rfl
def LH:yw [.i] false I where
 eq a b:=by
  exact To
 ok a:=rfl
 agg a:=rfl
def ZH:yw [.s] false S where
 eq a b:=by
  exact To
 ok a:=rfl
 agg a:=rfl
def fin1{s:St}{t n:Nat}{ag:Bool}{a u:V}{h0:aK}(h:dv s (.load ag n (.tmp t))=some a)(j:a.dY=false)(l:V.lF jH a u):
 (∀id,Ex.ret≠.exit id)/\∃v bJ fz f v' d,BF.result s [.cell t ag n]=some (v,bJ)/\jE fz h0 f/\V.lF fz v v'/\(d=true->(bJ=true/\(PF fz v\/v'=v))\/v=.aP)/\v'=u/\d=false:=
 ⟨nE,a,false,jH,h0,u,false,eA h j,.refl _,l,λh=>(by cases h),rfl,rfl⟩
def abu:CF GL f52 [] [] 52:=jo
def DZ(l:List aW)(b:Int)(k:Nat):Nat:=((l.take k).filter λx=>decide (x.J=b)).length
def Gt{l:List aW}{b:Int}{k:Nat}(h:k<l.length):DZ l b (k+1)=DZ l b k+if l[k].J=b then 1 else 0:=by
 unfold DZ;rw[br h,gq,ae];congr 1;by_cases e:l[k].J=b<;>simp[e]
def In(l:List aW)(b:Int)(k:Nat):DZ l b k<=k:=by
 exact Tl
def zh(l:List aW):List Name:=match l[l.length-1]? with
 |some x=>[x.name]
 |none=>[]
def jM(l:List aW)(e:aW)(eo:Int):aW:=
 {e with eo:=eo,seq:=e.seq+DZ l e.J l.length,C:=if 0<l.length/\eo.tmod 3=0 then zh l else e.C}
def Vw(l:List aW)(e:aW)(eo:Int)(ab:l.length<=1000)(ac:0<=e.seq/\e.seq<=100000):af 52 [fP l,e.v,I eo] (jM l e eo).v:=by
 refine Pure.gg (by simp only[dx]) (by simp only[dx]) (eN hm abu.ok (bE rfl) ?_);repeat any_goals simp only[dt,simprocAttr]
 refine dT rfl rfl (λ(k:Nat) t=>k<=l.length/\t.Z 7=I k/\t.G 6=1/\t.G 4=1/\t.loc 6 0=[I 0,I 0,I 0,I 0,.aP,I 0,I 0,I 0,I 0,I 0,I 0,I 0,I 0,I 0,I 0,I 0,I 0,I 0,S [],.aP,.aP,.aP,S [],I 0,I 0,S [],.aP,I 0,I 0,I 0,.aP,I 0]/\
  t.loc 4 0=(aW.v {e with eo:=eo,seq:=e.seq+DZ l e.J k}).cells) (λk=>l.length-k) 0 ?_ ?_
 .refine⟨aL _,rfl,rfl,rfl,rfl,?_⟩;simp only[da,simprocAttr];simp only[DZ,fi,List.filter_nil,aX];simp only[aQ,ay,aw,aW.v,V.cells];rw[show e.seq+((0:Nat):Int)=e.seq by omega];rfl
 rintro k t ⟨ad,r,a,o,d,f⟩ p;have u:t.Z 0=fP l:=by rw[p 0 (by decide)];rfl
 have D:t.Z 2=I eo:=by rw[p 2 du];rfl
 have y:t.Z 4=.lp 4 0 0:=by rw[p 4 du];rfl
 have q:t.Z 6=.lp 6 0 0:=by rw[p 6 du];rfl
 have hb:=In l e.J k;simp only[aW.v,V.cells]at f;rcases am k l.length with h1|h1
 .have H:=Gt (b:=e.J) h1;repeat' first|simp(disch:=try exact om) only[dt,simprocAttr,r,o,f,u,y]|refine cs ?_ ?_<;>intro h<;>try omega|refine ei ?_
  all_goals
   refine⟨k+1,⟨?_⟩,⟨av⟩⟩;simp only[da,simprocAttr,a,o,d,f]
  .refine⟨h1,rfl,?_⟩;rw[H,ax h];simp only[aQ,ay,aw];rw[show e.seq+((DZ l e.J k+1:Nat):Int)=e.seq+DZ l e.J k+1 by omega];rfl
  .refine⟨h1,rfl,?_⟩;rw[H,al h];rfl
 .obtain rfl:k=l.length:=av;have j:jM l e eo={e with eo:=eo,seq:=e.seq+DZ l e.J l.length,C:=if 0<l.length/\eo.tmod 3=0 then zh l else e.C}:=rfl;by_cases z:0<l.length/\eo.tmod 3=0
  .rw[ax z]at j;obtain⟨R,K⟩:=z;have L:l.length-1<l.length:=av;have N:zh l=[l[l.length-1].name]:=by unfold zh;rw[aa L]
   rw[N]at j;rw[j];have P:(l.length:Int)-1=((l.length-1:Nat):Int):=av;have Q:=N4 l[l.length-1];repeat' first|simp(disch:=try exact om) only[dt,simprocAttr,r,a,o,d,f,u,D,y,q,P,K]|(first|refine cz ?_ ?_|refine gz ?_ ?_)<;>intro A h<;>(try simp only[A])<;>try omega|refine lq Q ?_|refine ei ?_
   all_goals(refine fin1 (by simp only[ee,simprocAttr,q,a,d]<;>rfl) rfl ?_;exact .refl _)
  .rw[al z]at j;rw[j];repeat' first|simp only[dt,simprocAttr,r,a,o,d,f,u,D,y,q]|(first|refine cz ?_ ?_|refine gz ?_ ?_)<;>intro A h<;>(try simp only[A])<;>try omega|refine ei ?_
   all_goals(refine fin1 (by simp only[ee,simprocAttr,q,a,d]<;>rfl) rfl ?_;exact .refl _)
def abv:CF GL f89 [] [] 89:=jo
def Fc(p:aJ)(E:p.ok):af 91 [p.v] p.v:=by
 refine pk f91 ?_;repeat' first|refine k7 ?_|refine lq (vl p.C (aT E.2 du)) ?_|(refine ao nE ?_;refine tS ev rfl ?_)
 all_goals exact .refl _
def RD(a b:Op)(r:a.ok):af 151 [a.v,b.v] (B (decide (a=b))):=by
 obtain⟨D,⟨H,K,L⟩,⟨N,P,Q⟩,⟨R,ab,c3⟩,ac,ad,ai,aA,t,d,f⟩:=a;obtain⟨aB,⟨aC,aD,a0⟩,⟨a1,a2,a3⟩,⟨a4,a5,a6⟩,a7,a8,a9,bi,u,j,l⟩:=b;obtain⟨y,o,z,p,q⟩:=r;simp only at y o z p q;simp only[Op.v,Op.c];refine pk f151 ?_;repeat' first|simp only[dt,simprocAttr]|refine gz ?_ ?_<;>intro A h<;>try simp only[A]|refine lq (J2 t u (aT o du)) ?_|refine lq (Rx d j (aT p du)) ?_|refine lq (Ry f l (aT q du)) ?_|refine q1 ?_
 all_goals exact ak (aq V.bool (by simp_all))
def Vx(p:aJ)(f:p.ok):af 89 [p.v] (B p.sa):=by
 have l:=JZ p.id;have o:=An p.bN f.1;have c3:=Al p.bN f.1;have t:=f.2;refine pq abv.ok rfl (by simp only[dx]) ?_;repeat any_goals first|simp only[dt,simprocAttr]|(first|refine bZ (λh=>?_) (λh=>?_)|refine c8 (λh=>?_) (λh=>?_))<;>((try simp only[bB]at h);(try simp only[h]);(try simp only[jg]at h))|((first|refine i0 l ?_ ?_|refine i0 o ?_ ?_|refine i0 c3 ?_ ?_);·simp only[ee,simprocAttr]<;>rfl)|apply qD rfl rfl
 rotate_left 2;refine p2 (D:=[2,4,48,49,50,51,52,53,54,55,56,57,58,59,60]) (bJ:=[]) rfl (λk:Nat=>k<=p.C.length/\(p.C.take k).all ID.ref=true) (λk=>[(48,I k,false)]) (λk=>p.C.length-k) (0) rfl rfl (λ_=>rfl) (⟨by omega,rfl⟩) ?_ ?_ ?_;iterate 2 ·(simp only[fR,fM,bL];and_intros;all_goals(try(simp only[mR,simprocAttr]));all_goals(try(first|with_reducible exact .refl _|(intro h;cases h;done))))
 rintro k ⟨u,d⟩;have r:(p.id.mj&&decide (0<=p.eD/\p.eD<=3/\0<=p.en/\p.en<=3)&&g8 p.bN==0&&gl p.bN==p.C.length)=true:=by simp[gl, *]<;>omega
 rcases am k p.C.length with a|a
 .have j:∀b,(p.C[k].J== -1&&(p.C[k].seq==0&&p.C[k].k==0))=b->decide (p.C[k]=oo)=b:=λb e=>by
   rw[<-e,db];generalize p.C[k]=q;obtain⟨q1,y,z⟩:=q;simp[oo]
  repeat any_goals first|simp(disch:=(try simp only[l4]);omega) only[dt,simprocAttr]|(first|refine bZ ?_ ?_|refine c8 ?_ ?_)<;>intro h<;>(try simp only[bM]at h)<;>(try simp only[h])<;>(try simp only[jg]at h)<;>try omega|(refine⟨k+1,⟨?_⟩,⟨by omega⟩,?_⟩;rotate_left;focus (simp only[fR,fM,bL,cK];and_intros;all_goals(try(simp only[mR,simprocAttr]));all_goals(try(first|(intro h;cases h;done)|(refine ak (aq I ?_);omega)|((repeat first|with_reducible (first|exact Kept.refl _|refine eF ?_|refine eB ?_|refine ec ?_)|(with_reducible refine eC ?_ ?_;rotate_left;(simp only[pY,simprocAttr])));done)))))|(refine i0 (JZ p.C[k]) ?_ ?_;·simp only[ee,simprocAttr]<;>rfl)|apply qD rfl rfl
  .refine ak (aq V.bool ?_);rw[ix];simp only[aJ.sa,iy];right;rw[eG];exact⟨_,ah a,by simp only[ID.ref,h,j _ (by assumption)];simp⟩
  .exact⟨a,by rw[br a,fj,d];simp[h,ID.ref]⟩
  .exact⟨a,by rw[br a,fj,d];simp[j _ h,ID.ref]⟩
 .repeat any_goals first|simp only[dt,simprocAttr]|(refine bZ (λh=>?_) (λh=>?_))<;>((try simp only[h]);(try simp only[jg]at h);(try omega))|apply qD rfl rfl
  rw[aE a]at d;exact ak (aq V.bool (by simp only[aJ.sa,r,d,ku]))
 all_goals exact ak (aq V.bool (by rw[ix];simp only[aJ.sa,gl,iy,ij,kA];simp_all<;>omega))
def Vy(w:cg)(o:w.ok):af 87 [w.v] (B (lf w)):=by
 obtain⟨w⟩:=w;obtain⟨p,q,f⟩:=o;simp only at p;have f:(lA w).length<=1000000:=f;refine pk f87 ?_;repeat' first|refine k7 ?_|refine cs ?_ ?_<;>intro h|refine q1 ?_
 .exact ak (aq V.bool (by rw[ix];simp only[lf,ib];left;right;simp;omega))
 refine p2 (D:=[2,3,5,7,15,16,17,18,19,20,21,22,23,24,25,26,27,28,29,30,31,32,33,34,35,36]) (bJ:=[]) rfl (λk:Nat=>k<=w.length/\(w.take k).any (λv=>decide (64<v.O.length))=false) (λk=>[(15,I k,false),(3,I (lA (w.take k)).length,false)]) (λk=>w.length-k) (0) rfl rfl (λ_=>rfl) (⟨by omega,rfl⟩) ?_ ?_ ?_;(·((simp only[fR,bL];and_intros;all_goals(try(simp only[mR,simprocAttr]));all_goals(try(first|with_reducible exact .refl _|(intro h;cases h;done)))));all_goals(exact ak rfl));(·((simp only[fM];and_intros)));rintro k ⟨u,d⟩;rcases am k w.length with h1|h1
 .have y:=(q w[k] (ah h1)).1;have r:=Es w (k+1);rw[rK h1,ae]at r;repeat any_goals first|refine qp ?_|refine cs ?_ ?_<;>intro h<;>try omega|refine q1 ?_
  .exact XZ
  refine p2 (D:=[3,7,26,27,28,29,30,31,32,33,34,35]) (bJ:=[]) rfl (λj:Nat=>j<=w[k].O.length) (λj=>[(26,I j,false),(3,I ((lA (w.take k)).length+(mi (w[k].O.take j)).length),false)]) (λj=>w[k].O.length-j) (0) rfl rfl (λ_=>rfl) (by omega) ?_ ?_ ?_;(·((simp only[fR,bL];and_intros;all_goals(try(simp only[mR,simprocAttr]));all_goals(try(first|with_reducible exact .refl _|(intro h;cases h;done)))));all_goals(exact ak (aq I (by simp[mi]))));(·((simp only[fM];and_intros)));rintro j z;rcases am j w[k].O.length with a|a
  .have l:=z8 w[k].O (j+1);rw[rL a,ae]at l;repeat any_goals first|simp(disch:=try exact om) only[dt,simprocAttr]|refine cs ?_ ?_<;>intro h<;>try omega|(refine⟨j+1,⟨?_⟩,⟨av⟩,?_⟩;rotate_left;focus (simp only[fR,fM,bL,cK];and_intros;all_goals(try(simp only[mR,simprocAttr]));all_goals(try(first|(intro h;cases h;done)|(refine ak (aq I ?_);omega)|((repeat first|with_reducible (first|exact Kept.refl _|refine eF ?_|refine eO ?_|refine eB ?_|refine ec ?_)|(with_reducible refine eC ?_ ?_;rotate_left;(simp only[pY,simprocAttr])));done)))))
   .exact ak (aq I (by rw[rL a,ae];omega))
   .exact a
  .have l:=z8 w[k].O j;repeat any_goals first|simp(disch:=omega) only[dt,simprocAttr]|refine cs ?_ ?_<;>intro h<;>try omega|(refine⟨k+1,⟨?_⟩,⟨av⟩,?_⟩;rotate_left;focus (simp only[fR,fM,bL,cK];and_intros;all_goals(try(simp only[mR,simprocAttr]));all_goals(try(first|(intro h;cases h;done)|(refine ak (aq I ?_);omega)|((repeat first|with_reducible (first|exact Kept.refl _|refine eF ?_|refine eB ?_|refine ec ?_)|(with_reducible refine eC ?_ ?_;rotate_left;(simp only[pY,simprocAttr])));done)))))
   .exact ak (aq I (by rw[rK h1,ae,aE a];omega))
   .exact⟨h1,by rw[br h1,List.any_append,d];simp;omega⟩
 .rw[aE h1]at d;repeat' first|refine k7 ?_|refine cs ?_ ?_<;>intro h<;>try omega|refine q1 ?_
  exact ak (aq V.bool (by
   have t:¬(8<w.length):=av;simp only[lf,d,dj,aE h1,t,m7,pK,pJ];rw[db];simp[<-tW]))
def Vz(w:cg)(p:w.ok):af 90 [w.v] (B (w.O.all l0)):=by
 obtain⟨w⟩:=w;obtain⟨q,r,t⟩:=p;simp only at q;refine pk f90 ?_;repeat' simp only[dt,simprocAttr]
 refine sk (bJ:=[]) (λk:Nat=>k<=w.length/\(w.take k).all l0=true) (λk=>[(10,I k,false)]) (λk=>w.length-k) (0) (⟨av,rfl⟩) ?_;rintro k ⟨u,he⟩;rcases am k w.length with h1|h1
 .have l:=r w[k] (ah h1);have y:=l.1;repeat' first|refine qp ?_|refine cs ?_ ?_<;>intro h<;>try omega
  refine sk (bJ:=[]) (λj:Nat=>j<=w[k].O.length/\(w[k].O.take j).all (λa=>p4 a.gR)=true) (λj=>[(17,I j,false)]) (λj=>w[k].O.length-j) (0) (⟨av,rfl⟩) ?_;rintro j ⟨z,f⟩;rcases am j w[k].O.length with d|d
  .have o:=l.2 w[k].O[j] (ah d);repeat any_goals first|simp(disch:=try exact om) only[dt,simprocAttr]|(first|refine bZ ?_ ?_|refine c8 ?_ ?_)<;>intro h<;>(try simp only[bB]at h)<;>(try simp only[h])<;>(try simp only[jg]at h)<;>try omega|(refine⟨j+1,⟨?_⟩,⟨av⟩,?_⟩;rotate_left;focus (simp only[fR,fM,bL,cK];and_intros;all_goals(try(simp only[mR,simprocAttr]));all_goals(try(first|(intro h;cases h;done)|(refine ak (aq I ?_);omega)|((repeat first|with_reducible (first|exact Kept.refl _|refine eF ?_|refine eB ?_|refine ec ?_)|(with_reducible refine eC ?_ ?_;rotate_left;(simp only[pY,simprocAttr])));done)))))|refine lq (An w[k].O[j].gR o.1) ?_|refine lq (Al w[k].O[j].gR o.1) ?_|refine q1 ?_
   .exact ak (aq V.bool (by
     rw[ix,eG];refine⟨_,ah h1,?_⟩;rw[gw];unfold l0;rw[eG];exact⟨_,ah d,by simp[p4,gl, *];intro e;simp_all⟩))
   .exact⟨d,by rw[br d,fj,f];simp[p4,gl, *];apply g2;omega⟩
   .exact ak (aq V.bool (by
     rw[ix,eG];refine⟨_,ah h1,?_⟩;rw[gw];unfold l0;rw[eG];exact⟨_,ah d,by simp[p4,gl, *]⟩))
  .repeat any_goals first|simp(disch:=omega) only[dt,simprocAttr]|refine cs ?_ ?_<;>intro h<;>try omega|(refine⟨k+1,⟨?_⟩,⟨av⟩,?_⟩;rotate_left;focus (simp only[fR,fM,bL,cK];and_intros;all_goals(try(simp only[mR,simprocAttr]));all_goals(try(first|(intro h;cases h;done)|(refine ak (aq I ?_);omega)|((repeat first|with_reducible (first|exact Kept.refl _|refine eF ?_|refine eB ?_|refine ec ?_)|(with_reducible refine eC ?_ ?_;rotate_left;(simp only[pY,simprocAttr])));done)))))
   .rw[aE d]at f;exact⟨h1,by rw[br h1,fj,he];simpa[l0]using f⟩
 .exact aa1
def MA{P:Program}{GL:aj}{d:Option Nat}{pu:Bool}{s:St}{K:St->Prop}{sz m:Nat}{zs:List V}{x y:eL}{r:List BI}{fA:aK}(hx:s.val x=.aP)(a:s.val y=.int .i64 m)(f:s.E=fA)(hm:0<m)(l:m<=1073741824)
 (h:∀c',m<=c'->gA P GL d pu r s K (.ms sz fA.Y 0 m c') false (fA.cO (kn m zs++kn (c'-m) zs))):(MX.yW sz zs x y).wp s (gA P GL d pu r s K):=by
 subst f;simp only[MX.wp,hx,a,na];refine⟨av,by unfold iv;omega,?_⟩;unfold A6;simp only[bX,cA];refine⟨by unfold iv;omega,?_⟩;rw[al (oL.1 hm),al av];refine⟨[],by simp[aK.cells],λc' j=>?_⟩;exact h c' j
def Gu(n:Nat)(zs:List V):(kn n zs).length=n*zs.length:=by
 unfold kn;induction n with
 |zero=>simp
 |succ n ih=>rw[fS,dl,ae,ih,dG];omega
def Om(f sz:Nat):Prop:=∀(n:Nat)(E:aK),0<n->n<=100000000->aI f [.aP,I n] E λv _ a=>gu sz a v []/\v≠.aP/\bA none E a
def MB{sz c:Nat}{E:aK}{n:Nat}{zs:List V}(a:zs.length=sz)(d:n<=c):gu sz (E.cO (kn n zs++kn (c-n) zs)) (.ms sz E.Y 0 0 c) []:=by
 refine⟨(by intro x hx;cases hx),.inr ⟨E.Y,c,kn n zs++kn (c-n) zs,rfl,dn _,?_,aL _,?_⟩⟩
 .simp only[aK.cO,eQ,bP];rfl
 .rw[ae,Gu,Gu,a,<-dJ,aX];congr 1;omega
def Hq(E:aK)(cs:List V):bA none E (E.cO cs):=⟨λi a _=>by simp only[aK.cO];exact bD _ _ (ct a),λ_ _=>rfl,fO _⟩
def ZI:CF GL f252 [26] [] 252:=jo
def RE:Om 252 1:=by
 intro n E hn a;refine bq ZI.ok rfl ?_;exact T9
def ZJ:CF GL f198 [33,35] [9,13] 198:=jo
def RF(ls:List (List UInt8))(h0:0<ls.flatten.length)(h:ls.flatten.length<=100000000)(ad:ls.length<=1000):af 198 [.sl 1 (ls.map dc)] (dc ls.flatten):=by
 have P:=λE=>RE ls.flatten.length E h0 h;have Ta:∀k,(ls.take k).flatten.length<=ls.flatten.length:=λk=>by
  exact Un
 have PN:∀k (h:k<ls.length),(ls.take (k+1)).flatten=(ls.take k).flatten++ls[k]:=λk o=>by
  rw[br o,fx];simp
 have ai:∀a,dc a=.sl 1 (a.map (λb:UInt8=>V.int .u8 b.toNat)):=λ_=>rfl;generalize Q:ls.flatten.length=N at*
 have y:hZ (ls.map dc)=true:=hV (f:=dc) (λa=>by simp only[dx]) ls;refine Pure.gg (by simp only[dx,y]) (by simp only[dx]) (eN hm ZJ.ok (bE rfl) ?_);repeat' simp only[dt,simprocAttr]
 refine sl (λk:Nat=>k<=ls.length) (λk=>[(11,I k,false),(3,I (ls.take k).flatten.length,false)]) (λk=>ls.length-k) (0) (aL _) ?_;rintro k o;have z:=Ta k;rcases am k ls.length with h1|h1
 .exact XP
 .obtain rfl:k=ls.length:=av;rw[bg,Q]at*
  repeat' first|refine k7 ?_|refine cs ?_ ?_<;>intro h<;>try omega
  refine bz rfl (P _) ?_ ?_ ?_
  .rfl
  .refine mV ?_;simp only[ee]<;>rfl
  rintro aA bJ A ⟨R,ab,_⟩;repeat' simp only[gE,simprocAttr]
  refine dT rfl rfl (λ(k:Nat) t=>k<=ls.length/\t.Z 27=I k/\gu 1 t.E (t.Z 6) ((ls.take k).flatten.map (λb:UInt8=>V.int .u8 b.toNat))/\t.Z 6≠.aP) (λk=>ls.length-k) 0 ?_ ?_
  .refine⟨aL _,?_⟩;simp only[da,simprocAttr];exact⟨R,ab⟩
  rintro k t ⟨o,p,q,D⟩ H;have K:t.Z 25=.sl 1 (ls.map dc):=by rw[H 25 du];rfl
  have j:t.Z 26=I ls.length:=by rw[H 26 du];rfl
  have z:=Ta k;rcases am k ls.length with r|r
  .have Uf:=PN k r;have hk3:=Ta (k+1);have XQ:=aq List.length Uf;rw[ae]at XQ;repeat' first|simp(disch:=try exact om) only[dt,simprocAttr,K,j,p]|refine cs ?_ ?_<;>intro h<;>try omega
   refine iR (xs:=(ls.take k).flatten.map (λb:UInt8=>V.int .u8 b.toNat)) (ys:=ls[k].map (λb:UInt8=>V.int .u8 b.toNat)) ?_ ?_ ?_ ?_ ?_ rfl ?_ ?_ λv A L hb d=>?_
   .exact sT
   .exact sT
   .exact lG.map (λ_=>rfl) _
   .exact sT
   .simp only[da];intro l ac;cases ac
   .simp only[au];omega
   .simp only[da];intro u;exact absurd u D
   repeat' simp(disch:=omega) only[gE,simprocAttr,p]
   refine⟨k+1,⟨?_⟩,⟨av⟩⟩;simp only[da];refine⟨r,rfl,by rw[Uf,az];exact L,λu=>?_⟩;subst u;rcases d with d|d
   .revert d
    simp only[da];intro d;obtain⟨_,⟨hx,_⟩|⟨id,c,rest,hx,_⟩⟩:=q
    .exact D hx
    .rw[hx]at d;cases d
   .cases d
  .obtain rfl:k=ls.length:=av;rw[bg]at q;repeat' first|simp only[dt,simprocAttr,j,p]|refine bZ ?_ ?_<;>intro h<;>(try simp only[jg]at h)<;>try omega
   refine⟨nE,yk rfl ?_⟩;simp only[da];exact q
def ZK:CF GL f210 [26] [] 210:=jo
def RG:Om 210 1:=by
 intro n E hn a;refine bq ZK.ok rfl ?_;exact T9
def ZL:CF GL f160 [33,35] [9,13] 160:=jo
def RH(ls:List (List T))(h0:0<ls.flatten.length)(h:ls.flatten.length<=100000000)(ad:ls.length<=1000):af 160 [.sl 1 (ls.map eZ)] (eZ ls.flatten):=by
 have P:=λE=>RG ls.flatten.length E h0 h;have Ta:∀k,(ls.take k).flatten.length<=ls.flatten.length:=λk=>by
  exact Un
 have PN:∀k (h:k<ls.length),(ls.take (k+1)).flatten=(ls.take k).flatten++ls[k]:=λk o=>by
  rw[br o,fx];simp
 have ai:∀a,eZ a=.sl 1 (a.map S):=λ_=>rfl;generalize Q:ls.flatten.length=N at*
 have y:hZ (ls.map eZ)=true:=hV (f:=eZ) (λa=>by simp only[dx]) ls;refine Pure.gg (by simp only[dx,y]) (by simp only[dx]) (eN hm ZL.ok (bE rfl) ?_);repeat' simp only[dt,simprocAttr]
 refine sl (λk:Nat=>k<=ls.length) (λk=>[(11,I k,false),(3,I (ls.take k).flatten.length,false)]) (λk=>ls.length-k) (0) (aL _) ?_;rintro k o;have z:=Ta k;rcases am k ls.length with h1|h1
 .exact XP
 .obtain rfl:k=ls.length:=av;rw[bg,Q]at*
  repeat' first|refine k7 ?_|refine cs ?_ ?_<;>intro h<;>try omega
  refine bz rfl (P _) ?_ ?_ ?_
  .rfl
  .refine mV ?_;simp only[ee]<;>rfl
  rintro aA bJ A ⟨R,ab,_⟩;repeat' simp only[gE,simprocAttr]
  refine dT rfl rfl (λ(k:Nat) t=>k<=ls.length/\t.Z 27=I k/\gu 1 t.E (t.Z 6) ((ls.take k).flatten.map S)/\t.Z 6≠.aP) (λk=>ls.length-k) 0 ?_ ?_
  .refine⟨aL _,?_⟩;simp only[da,simprocAttr];exact⟨R,ab⟩
  rintro k t ⟨o,p,q,D⟩ H;have K:t.Z 25=.sl 1 (ls.map eZ):=by rw[H 25 du];rfl
  have j:t.Z 26=I ls.length:=by rw[H 26 du];rfl
  have z:=Ta k;rcases am k ls.length with r|r
  .have Uf:=PN k r;have hk3:=Ta (k+1);have XQ:=aq List.length Uf;rw[ae]at XQ;repeat' first|simp(disch:=try exact om) only[dt,simprocAttr,K,j,p]|refine cs ?_ ?_<;>intro h<;>try omega
   refine iR (xs:=(ls.take k).flatten.map S) (ys:=ls[k].map S) ?_ ?_ ?_ ?_ ?_ rfl ?_ ?_ λv A L hb d=>?_
   .exact sT
   .exact sT
   .exact lG.map (λ_=>rfl) _
   .exact sT
   .simp only[da];intro l ac;cases ac
   .simp only[au];omega
   .simp only[da];intro u;exact absurd u D
   repeat' simp(disch:=omega) only[gE,simprocAttr,p]
   refine⟨k+1,⟨?_⟩,⟨av⟩⟩;simp only[da];refine⟨r,rfl,by rw[Uf,az];exact L,λu=>?_⟩;subst u;rcases d with d|d
   .revert d
    simp only[da];intro d;obtain⟨_,⟨hx,_⟩|⟨id,c,rest,hx,_⟩⟩:=q
    .exact D hx
    .rw[hx]at d;cases d
   .cases d
  .obtain rfl:k=ls.length:=av;rw[bg]at q;repeat' first|simp only[dt,simprocAttr,j,p]|refine bZ ?_ ?_<;>intro h<;>(try simp only[jg]at h)<;>try omega
   refine⟨nE,yk rfl ?_⟩;simp only[da];exact q
def TK:CF GL f330 [26] [] 330:=jo
def RI:Om 330 3:=by
 intro n E hn a;refine bq TK.ok rfl ?_;exact T9
def TL:CF GL f313 [33,35] [9,13] 313:=jo
def On(ls:List (List ID))(h0:0<ls.flatten.length)(h:ls.flatten.length<=100000000)(a0:ls.length<=1000):af 313 [.sl 1 (ls.map eW)] (eW ls.flatten):=by
 have ai:=λE=>RI ls.flatten.length E h0 h;have j:∀k,(ls.take k).flatten.length<=ls.flatten.length:=λk=>by
  exact Un
 have q:∀k (h:k<ls.length),(ls.take (k+1)).flatten=(ls.take k).flatten++ls[k]:=λk u=>by
  rw[br u,fx];simp
 have a1:∀a,eW a=.sl 3 (a.map ID.v):=λ_=>rfl;generalize aA:ls.flatten.length=N at*
 have K:hZ (ls.map eW)=true:=hV (f:=eW) (λa=>by simp only[dx]) ls;refine Pure.gg (by simp only[dx,K]) (by simp only[dx]) (eN hm TL.ok (bE rfl) ?_);repeat' simp only[dt,simprocAttr]
 refine sl (λk:Nat=>k<=ls.length) (λk=>[(11,I k,false),(3,I (ls.take k).flatten.length,false)]) (λk=>ls.length-k) (0) (aL _) ?_;rintro k u;have L:=j k;rcases am k ls.length with y|y
 .have o:=q k y;have P:=j (k+1);have p:=aq List.length o;rw[ae]at p;repeat' first|refine qp ?_|refine cs ?_ ?_<;>intro h<;>try omega|refine ba (k+1) ?_|refine ei ?_
  all_goals exact y
 .obtain rfl:k=ls.length:=av;rw[bg,aA]at*
  repeat' first|refine k7 ?_|refine cs ?_ ?_<;>intro h<;>try omega
  refine bz rfl (ai _) ?_ ?_ ?_
  .rfl
  .refine mV ?_;simp only[ee]<;>rfl
  rintro a2 bJ Q ⟨aB,aC,_⟩;repeat' simp only[gE,simprocAttr]
  refine dT rfl rfl (λ(k:Nat) t=>k<=ls.length/\t.Z 27=I k/\gu 3 t.E (t.Z 6) ((ls.take k).flatten.map ID.v)/\t.Z 6≠.aP) (λk=>ls.length-k) 0 ?_ ?_
  .refine⟨aL _,?_⟩;simp only[da,simprocAttr];exact⟨aB,aC⟩
  rintro k t ⟨u,z,A,R⟩ ab;have ac:t.Z 25=.sl 1 (ls.map eW):=by rw[ab 25 du];rfl
  have r:t.Z 26=I ls.length:=by rw[ab 26 du];rfl
  have L:=j k;rcases am k ls.length with D|D
  .have o:=q k D;have P:=j (k+1);have p:=aq List.length o;rw[ae]at p;repeat' first|simp(disch:=try exact om) only[dt,simprocAttr,ac,r,z]|refine cs ?_ ?_<;>intro h<;>try omega
   refine iR (xs:=(ls.take k).flatten.map ID.v) (ys:=ls[k].map ID.v) ?_ ?_ ?_ ?_ ?_ rfl ?_ ?_ λv Q ad hb d=>?_
   .exact sT
   .exact sT
   .exact lG.map (λ_=>rfl) _
   .exact sT
   .simp only[da];intro l aD;cases aD
   .simp only[au];omega
   .simp only[da];intro H;exact absurd H R
   repeat any_goals simp(disch:=omega) only[gE,simprocAttr,z]
   refine⟨k+1,⟨?_⟩,⟨av⟩⟩;simp only[da,simprocAttr];refine⟨D,rfl,by rw[o,az];exact ad,λH=>?_⟩;subst H;rcases d with d|d
   .revert d
    simp only[da,simprocAttr];intro d;obtain⟨_,⟨hx,_⟩|⟨id,c,rest,hx,_⟩⟩:=A
    .exact R hx
    .rw[hx]at d;cases d
   .cases d
  .obtain rfl:k=ls.length:=av;rw[bg]at A;repeat any_goals first|simp only[dt,simprocAttr,r,z]|refine cs ?_ ?_<;>intro h<;>try omega
   refine⟨nE,yk rfl ?_⟩;simp only[da,simprocAttr];exact A
def Oo(E:aK):aI 330 [.aP,I 0] E λv _ a=>v=.aP/\a=E:=by
 refine bq TK.ok rfl ?_;repeat any_goals first|simp(disch:=omega) only[gE,simprocAttr]|refine bZ ?_ ?_<;>intro h<;>(try simp only[h])<;>try simp only[jg]at h|refine ei ?_
 exact⟨nE,.aP,_,bC rfl rfl,by simp⟩
def RJ{P:Program}{GL:aj}{d:Option Nat}{pu:Bool}{r:List BI}{K:St->Prop}{s:St}{x y:eL}{sz:Nat}{zs:List V}{fA:aK}(a:s.E=fA)(hx:s.val x=.aP\/s.val x=.ms sz 0 0 0 0)(f:s.val y=.sl sz [])
 (h:gA P GL d pu r s K (.ms sz 0 0 0 0) false fA):(MX.wn sz zs x y).wp s (gA P GL d pu r s K):=by
 subst a;rcases hx with hx|hx<;>simp only[MX.wp,hx,f,na,qo,bP,A6,aX,di,cV,jf]<;>exact⟨du,h⟩
def Oq(d:List (List ID))(h0:d.flatten.length=0)(L:d.length<=1000):af 313 [.sl 1 (d.map eW)] (eW d.flatten):=by
 have H:=λE=>Oo E;have y:∀k (h:k<d.length),d[k]=[]:=λk p=>by
  have:=bH.1 h0;rw[List.flatten_eq_nil_iff]at this;exact this _ (ah p)
 have N:∀a,eW a=.sl 3 (a.map ID.v):=λ_=>rfl;have z:hZ (d.map eW)=true:=hV (f:=eW) (λa=>by simp only[dx]) d;rw[bH.1 h0];refine Pure.gg (by simp only[dx,z]) (by simp only[dx]) (eN hm TL.ok (bE rfl) ?_);repeat' simp only[dt,simprocAttr]
 refine sl (λk:Nat=>k<=d.length) (λk=>[(11,I k,false),(3,I 0,false)]) (λk=>d.length-k) (0) (aL _) ?_;rintro k p;rcases am k d.length with q|q
 .have j:=y k q;repeat any_goals first|simp(disch:=try exact om) only[dt,simprocAttr,j]|refine bZ ?_ ?_<;>intro h<;>(try simp only[h])<;>(try simp only[jg]at h)<;>try omega|refine ba (k+1) ?_|refine ei ?_
  all_goals exact q
 .obtain rfl:k=d.length:=av;repeat' first|refine k7 ?_|refine cs ?_ ?_<;>intro h<;>try omega
  refine bz rfl (H _) ?_ ?_ ?_
  .rfl
  .refine mV ?_;simp only[ee]<;>rfl
  rintro P bJ K ⟨rfl,Q⟩;repeat' simp only[gE,simprocAttr]
  refine dT rfl rfl (λ(k:Nat) t=>k<=d.length/\t.Z 27=I k/\(t.Z 6=.aP\/t.Z 6=.ms 3 0 0 0 0)) (λk=>d.length-k) 0 ?_ ?_
  .refine⟨aL _,?_⟩;simp only[da,simprocAttr];trivial
  rintro k t ⟨p,r,l⟩ A;have D:t.Z 25=.sl 1 (d.map eW):=by rw[A 25 du];rfl
  have o:t.Z 26=I d.length:=by rw[A 26 du];rfl
  rcases am k d.length with u|u
  .have j:=y k u;repeat' first|simp(disch:=try exact om) only[dt,simprocAttr,j,D,o,r]|refine cs ?_ ?_<;>intro h<;>try omega
   refine RJ (fA:=t.E) (by simp only[simprocAttr,bx]) sT (by(try simp only[da])) ?_;repeat' simp(disch:=omega) only[gE,simprocAttr,r]
   refine⟨k+1,⟨?_⟩,⟨av⟩⟩;simp only[da,simprocAttr];exact⟨u,aq (V.int .i64) (by omega),.inr trivial⟩
  .repeat' first|simp only[dt,simprocAttr,o,r]|refine cs ?_ ?_<;>intro h<;>try omega
   rcases l with l|l
   .exact⟨nE,.aP,_,jH,_,_,false,bC l rfl,.refl _,.aP _,λh=>(by cases h),rfl,rfl⟩
   .exact⟨nE,.ms 3 0 0 0 0,_,jH,_,_,false,bC l rfl,.refl _,.FJ _ _ _,λh=>(by cases h),rfl,rfl⟩
def RK(a:List (List ID))(h:a.flatten.length<=100000000)(f:a.length<=1000):af 313 [.sl 1 (a.map eW)] (eW a.flatten):=by
 rcases cZ a.flatten.length with d|d
 .exact Oq a d f
 .exact On a d h f
def VA:fK prog 205=true:=by kernel_rfl
def D0:Prop:=∀s:T,s.length<=1000000->af 153 [S s] (B (iS s))
def RL(a:D0)(s:T)(d:s.length<=1000000):af 205 [S s] (B (!iS s)):=by
 have c:=a s d;refine pk f205 ?_;exact Ul
def Gv:Nat->List T->Option Nat
 |_,[]=>none
 |k,s::r=>if iS s=false then some k else Gv (k+1) r
def RM(f:D0)(l:List T)(o:l.length<=1000000)(j:∀t∈l,t.length<=1000000):af 254 [eZ l,.fn 205 []] (I (E1 (Gv 0 l))):=by
 refine pk f254 ?_ [17];repeat' simp only[dt,simprocAttr]
 refine sl (λk:Nat=>k<=l.length/\Gv k (l.drop k)=Gv 0 l) (λk=>[(8,I k,false)]) (λk=>l.length-k) (0) (⟨aL _,rfl⟩) ?_;rintro k ⟨p,a⟩;rcases am k l.length with d|d
 .rw[bG d,Gv]at a;have c:=RL f l[k] (j _ (ah d));repeat' first|simp(disch:=try exact om) only[dt,simprocAttr]|refine cs ?_ ?_<;>intro h<;>try omega|refine ba (k+1) ?_|(refine xi (by simp only[pY]<;>rfl) VA (c) (by simp only[pY]<;>rfl) ?_ ?_;(·refine mV ?_;simp only[ee]<;>rfl))|refine q1 ?_
  .exact ak (aq I (by rw[<-a,ax h];rfl))
  .rw[al (by simp[h])]at a;exact⟨d,a⟩
 .rw[cT d,Gv]at a;repeat' first|simp only[dt,simprocAttr]|refine cs ?_ ?_<;>intro h<;>try omega|refine q1 ?_
  exact ak (aq I (by rw[<-a];rfl))
def Gw:∀(k:Nat)(l:List T),decide (0<=E1 (Gv k l))= !l.all iS
 |_,[]=>rfl
 |k,s::r=>by
  unfold Gv;by_cases h:iS s=false
  .rw[ax h];simp[E1,h]
  .rw[al h,Gw (k+1) r];simp at h;simp[h]
def RN(a:D0)(l:List T)(d:l.length<=1000000)(f:∀t∈l,t.length<=1000000):af 204 [eZ l,.fn 205 []] (B (!l.all iS)):=by
 have c:=RM a l d f;rw[<-Gw 0 l];refine pk f204 ?_;exact Ul
def RO(a:D0)(l:List T)(d:l.length<=1000000)(f:∀t∈l,t.length<=1000000):af 154 [eZ l] (B (l.all iS)):=by
 have c:=RN a l d f;refine pk f154 ?_;repeat' first|simp only[dt,simprocAttr]|refine lq c ?_|refine q1 ?_
 all_goals exact ak (aq V.bool bT)
end Go.Bx
namespace Go.Bx
open Go.Proofs Go.Proofs.Tryz Go.RowKit Go.Shelf
attribute [local go_sem] Oper.semAt_some
def xz{g:aY}{sz:Nat}{xs:List V}{x:Value}(h:VR g (.sl sz xs) x):∃(base:Option Addr)(cap:Nat),x=.slice base xs.length cap/\
 ∀(i:Nat)(v:V),xs[i]?=some v->∃(b o:Nat),base=some ⟨b,o,none⟩/\∀(j:Nat) c,v.cells[j]?=some c->∃y,g.bJ b (o+(i*sz+j))=.g3 y/\VR g c y:=by
 cases h with
 |slnil=>exact⟨none,0,rfl,λi v e=>by simp at e⟩
 |sl _ _ a cap l d z p q A r=>
  refine⟨some a,cap,rfl,λi v e=>⟨a.block,a.off,by cases a;simp at d;simp[d],λj c f=>⟨l (i*sz+j),q _ ?_,r i v j c e f⟩⟩⟩;have t:=b0 e;have u:=b0 f;rw[p i v e]at u
  calc i*sz+j<i*sz+sz:=av
   _=(i+1)*sz:=by rw[dG]
   _<=xs.length*sz:=cj _ t
def sY(v a:Nat)(l:List aJ)(i:Nat):List (List V):=match l with
 |[]=>[]
 |p::r=>[(fW.mk v a i).v,p.v]::sY v a r (i+1)
def o7(v:Nat):List eg->Nat->List (List V)
 |[],_=>[]
 |x::r,a=>sY v a x.O 0++o7 v r (a+1)
def mP:List eM->Nat->List (List V)
 |[],_=>[]
 |x::r,v=>o7 v x.O 0++mP r (v+1)
def B1(v a:Nat){p:aJ}:∀{l:List aJ} {n:Nat} (i:Nat),l[n]?=some p->(sY v a l i)[n]?=some [(fW.mk v a (i+n:Nat)).v,p.v]
 |q::r,0,i,h=>by simp at h;subst h;rfl
 |q::r,n+1,i,h=>by
  have:=B1 v a (l:=r) (n:=n) (i+1) (by simpa using h);rw[show i+1+n=i+(n+1)by omega]at this;simpa[sY]using this
def sZ(v a:Nat):∀(l:List aJ)(i:Nat),(sY v a l i).length=l.length
 |[],_=>rfl
 |_::r,i=>by simp[sY,sZ v a r]
def vV(v:Nat):∀(l r:List eg)(a:Nat),o7 v (l++r) a=o7 v l a++o7 v r (a+l.length)
 |[],_,_=>rfl
 |x::l,r,a=>by
  simp only[aZ,o7,vV v l r,aF,aM];rw[show a+1+l.length=a+(l.length+1)by omega]
def qK(v:Nat):∀(l:List eg)(a:Nat),(o7 v l a).length=(mi l).length
 |[],_=>rfl
 |x::r,a=>by simp[o7,sZ,qK v r,mi]
def vW:∀(l r:List eM)(a:Nat),mP (l++r) a=mP l a++mP r (a+l.length)
 |[],_,_=>by simp[mP]
 |x::l,r,a=>by
  simp only[aZ,mP,vW l r,aF,aM];rw[show a+1+l.length=a+(l.length+1)by omega]
def s0:∀(l:List eM)(a:Nat),(mP l a).length=(lA l).length
 |[],_=>rfl
 |x::r,a=>by simp[mP,qK,s0 r,lA]
def Ot{l:List eM}{i k n:Nat}{x:eM}{y:eg}{p:aJ}(d:l[i]?=some x)(h2:x.O[k]?=some y)(a:y.O[n]?=some p):
 (mP l 0)[(lA (l.take i)).length+(mi (x.O.take k)).length+n]?=some [(fW.mk i k n).v,p.v]:=by
 obtain⟨f,rfl⟩:=aH.1 d;obtain⟨j,rfl⟩:=aH.1 h2;have o:=(aH.1 a).1;have q:l=l.take i++l[i]::l.drop (i+1):=by conv=>lhs;rw[<-b8 i l,bG f]
 have r:l[i].O=l[i].O.take k++l[i].O[k]::l[i].O.drop (k+1):=by conv=>lhs;rw[<-b8 k l[i].O,bG j]
 have t:mP l 0=mP (l.take i) 0++((o7 i (l[i].O.take k) 0++(sY i k l[i].O[k].O 0++o7 i (l[i].O.drop (k+1)) (k+1)))++mP (l.drop (i+1)) (i+1)):=by
  conv=>lhs;rw[q]
  rw[vW,mP]
  conv=>lhs;rw[r]
  rw[vV,o7,aG,aG,dM av,dM av];simp
 rw[t,cn,dR (by rw[s0];omega),s0,ko,dH (by simp[qK,sZ];omega),dR (by rw[qK];omega),qK,ko,dH (by rw[sZ];exact o)];have:=B1 i k 0 a;rw[cA]at this;exact this
def wA{g:aY}(W:World)(ob:Obj):Grow g W (W.alloc ob) where
 size:=by show W.heap.size<=(W.heap.push ob).size;simp
 cell b o h:=mg W ob o (ct h)
 Tu b o h _:=oT W ob o (ct h)
 obj b a _ h:=py W ob h
 gY:=⟨rfl,rfl,rfl,λ_=>an _⟩
 whole b h:=by
  exact aaW
def VR.J4{g:aY}{s:T}{x:Value}(h:VR g (S s) x):x=.string ⟨s.toArray⟩:=by cases h;rfl
def VR.vn{g:aY}{n:Int}{x:Value}(h:VR g (I n) x):x=.int .i64 n:=by cases h;rfl
def s1(w:cg)(ac:w.ok):Iter prog 123 [.ep [cf w.O]] (mP w.O 0):=by
 intro l m g W a1 J hc a2 ad f ai fB e1 a3;obtain⟨aA,rfl⟩:∃aA,a1=#[aA]:=by
  cases a1 with|mk l=>match l,a2 with|[x],_=>exact⟨x,rfl⟩
 have e2:=ad 0 (.ep [cf w.O]) aA rfl rfl;have gb:=ac.1;cases e2 with
 |ep _ a e3 a4 e4 hd e5=>
 have a5:=e4 0 bT;have a6:=e5 0 (cf w.O) rfl;generalize e3 0=he at a5 a6;obtain⟨b,o,sp⟩:=a;simp only at a4;subst a4;obtain⟨base,cap,rfl,a7⟩:=xz a6;refine callsIn_of_wp func123 rfl trivial ?_ rfl;simp only[Tryz.ntmps123,kS,aM,aX,Nat.reduceAdd,Nat.reduceSub,nO,nP,List.push_toArray,oH,bm,aZ];have a8:=f 0 W a3 _ _ _ a5;simp only[cl,di]at a8
 gi_wp2
 gi_loopw [12] (λv12 wr=>∃i:Nat,i<=w.O.length/\v12=.int .i64 i/\J (lA (w.O.take i)).length wr) (λv12 _=>w.O.length-(RowKit.intOf v12).toNat)
 case atStart=>exact⟨0,aL _,rfl,a3⟩
 case round=>
  obtain⟨i,gf,rfl,N⟩:=hrel;rcases am i w.O.length with u|gk
  .have gn:=(ac.2.1 _ (ah u)).1;obtain⟨hf,hg,rfl,a9⟩:=a7 i w.O[i].v (by simp[u]);obtain⟨hh,bi,bl⟩:=a9 0 (mC w.O[i].O) rfl;have bo:=f _ _ N _ _ _ bi;obtain⟨ed,e6,rfl,aB⟩:=xz bl;simp only[cl,kK,di]at bo;have hlen:(List.map eM.v w.O).length=w.O.length:=au _
   gi_wp2
   obtain⟨bs,rfl⟩:∃bs:World,bs=wr:=⟨_,rfl⟩
   gi_loopw [20] (λv20 wr=>∃k:Nat,k<=w.O[i].O.length/\v20=.int .i64 k/\J ((lA (w.O.take i)).length+(mi (w.O[i].O.take k)).length) wr) (λv20 _=>w.O[i].O.length-(RowKit.intOf v20).toNat)
   case atStart=>
    exact⟨0,aL _,rfl,ai _ _ _ N (wA _ _)⟩
   case round=>
    obtain⟨k,Q,rfl,z⟩:=hrel;rcases am k w.O[i].O.length with t|e7
    .have gp:=((ac.2.1 _ (ah u)).2 _ (ah t)).2.1;obtain⟨hi,hj,rfl,R⟩:=aB k w.O[i].O[k].v (by simp[t]);obtain⟨hk,bu,bv⟩:=R 0 (S w.O[i].O[k].gR) rfl;obtain⟨hl,bY,b2⟩:=R 1 (dA w.O[i].O[k].O) rfl;have b3:=f _ _ z _ _ _ bu;have b5:=f _ _ z _ _ _ bY;obtain⟨el,fa,rfl,aC⟩:=xz b2;simp only[cl,di,<-cn]at b3 b5;have et:(List.map eg.v w.O[i].O).length=w.O[i].O.length:=au _;obtain rfl:=bv.J4
     gi_wp2
     obtain⟨wp,rfl⟩:∃wp:World,wp=wr:=⟨_,rfl⟩
     gi_loopw [28] (λv28 wr=>∃n:Nat,n<=w.O[i].O[k].O.length/\v28=.int .i64 n/\J ((lA (w.O.take i)).length+(mi (w.O[i].O.take k)).length+n) wr) (λv28 _=>w.O[i].O[k].O.length-(RowKit.intOf v28).toNat)
     case atStart=>exact⟨0,aL _,rfl,ai _ _ _ z (wA _ _)⟩
     case round=>
      obtain⟨n,ha,rfl,d⟩:=hrel;have eK:(List.map aJ.v w.O[i].O[k].O).length=w.O[i].O[k].O.length:=au _;rcases am n w.O[i].O[k].O.length with aD|fr
      .obtain⟨p,E⟩:∃p,w.O[i].O[k].O[n]?=some p:=⟨_,aa aD⟩;have b6:=Ot (l:=w.O) (i:=i) (k:=k) (n:=n) (aa u) (aa t) E;obtain⟨hn,ho,rfl,r⟩:=aC n p.v (by rw[bw,E];rfl);obtain⟨hq,b7,ca⟩:=r 0 (I p.id.J) rfl;obtain⟨hr,cb,cc⟩:=r 1 (I p.id.seq) rfl;obtain⟨hs,ch,ci⟩:=r 2 (I p.id.k) rfl;obtain⟨ht,cp,c1⟩:=r 3 (I p.eD) rfl;obtain⟨hu,c2,c5⟩:=r 4 (I p.en) rfl;obtain⟨hv,c6,c7⟩:=r 5 (S p.bN) rfl;obtain⟨hw,c9,ab⟩:=r 6 (eW p.C) rfl;have dd:=f _ _ d _ _ _ b7;have Q:=f _ _ d _ _ _ cb;have df:=f _ _ d _ _ _ ch;have dr:=f _ _ d _ _ _ cp;have ds:=f _ _ d _ _ _ c2;have dE:=f _ _ d _ _ _ c6;have dU:=f _ _ d _ _ _ c9;obtain rfl:=ca.vn;obtain rfl:=cc.vn;obtain rfl:=ci.vn;obtain rfl:=c1.vn;obtain rfl:=c5.vn;obtain rfl:=c7.J4;have H:=ab;obtain⟨D,K,rfl,_⟩:=xz ab;simp only[cl,di,<-cn]at dd Q df dr ds dE dU;have P:(List.map ID.v p.C).length=p.C.length:=au _;have ea:=ai _ _ _ d (wA wr (Obj.cells #[.int .i64 p.id.J,.int .i64 p.id.seq,.int .i64 p.id.k,.int .i64 p.eD,.int .i64 p.en,.string ⟨p.bN.toArray⟩,.slice D p.C.length K] 78));rw[P]at H;obtain⟨fn,tmps,assign,body,hy,fs⟩:=e1 _ _ _ #[.agg #[.int .i64 i,.int .i64 k,.int .i64 n],.agg #[.int .i64 p.id.J,.int .i64 p.id.seq,.int .i64 p.id.k,.int .i64 p.eD,.int .i64 p.en,.string ⟨p.bN.toArray⟩,.slice D p.C.length K]] ea b6 rfl (λq c y a0 eb=>by
        match q with
        |0=>
         cases a0;cases eb;refine .agg _ _ rfl (λj c h=>?_) (λj c y A L=>?_)
         .match j with
          |0|1|2=>cases h;rfl
          |j+3=>cases h
         .match j with
          |0|1|2=>cases A;cases L;exact .int _ _
          |j+3=>cases A
        |1=>
         cases a0;cases eb;refine .agg _ _ rfl (λj c h=>?_) (λj c y A L=>?_)
         .match j with
          |0|1|2|3|4|5|6=>cases h;rfl
          |j+7=>cases h
         .match j with
          |0|1|2|3|4=>cases A;cases L;exact .int _ _
          |5=>cases A;cases L;exact .str _
          |6=>cases A;cases L;exact H
          |j+7=>cases A
        |q+2=>cases a0)
       gi_wp2
       refine ao (λh=>absurd h du) ?_;refine fs.mono ?_;rintro e hz (⟨rfl,Ur⟩|⟨rfl,Ur⟩)
       .gi_wp2
        go_roundw
        case rel=>exact⟨n+1,av,bT,by rw[<-cn];exact Ur⟩
        case measure=>(simp only[RowKit.intOf,bX]<;>omega)
       .gi_wp2
        exact Tk
      .gi_wp2
       go_roundw
       case rel=>
        refine⟨k+1,av,bT,?_⟩;have:n=w.O[i].O[k].O.length:=av;rw[rL t,ae,<-cn,<-this];exact d
       case measure=>(simp only[RowKit.intOf,bX]<;>omega)
    .gi_wp2
     go_roundw
     case rel=>
      refine⟨i+1,av,bT,?_⟩;have:k=w.O[i].O.length:=av;subst this;rw[rK u,ae];rw[bg]at z;exact z
     case measure=>(simp only[RowKit.intOf,bX]<;>omega)
  .gi_wp2
   go_end0
   exact⟨_,rfl,.inl (by
    rw[s0];have:i=w.O.length:=av;subst this;rw[bg]at N;exact N)⟩
def VR.abw{g:aY}{sz:Nat}{xs:List V}{b o len cap:Nat}(h:VR g (.sl sz xs) (.slice (some ⟨b,o,none⟩) len cap)){i n:Nat}(hb:i+n<=xs.length):VR g (.sl sz ((xs.drop i).take n)) (.slice (some ⟨b,o+i*sz,none⟩) n n):=by
 have e:((xs.drop i).take n).length=n:=by rw[aG,aS];omega
 have f:∀(j:Nat) v,((xs.drop i).take n)[j]?=some v->xs[i+j]?=some v:=λj v h=>by
  rw[dB]at h;split at h
  .rw[cY]at h;exact h
  .cases h
 cases h with
 |sl _ _ a _ l z A p q r t=>
  rw[show Value.slice (some ⟨b,o+i*sz,none⟩) n n=Value.slice (some ⟨b,o+i*sz,none⟩) ((xs.drop i).take n).length n by rw[e]];refine .sl sz _ ⟨b,o+i*sz,none⟩ n (λk=>l (i*sz+k)) rfl av (λj v h=>p _ _ (f j v h)) (λk u=>?_) (λj v c d h=>r _ _ c d (f j v h)) (λj v c d h y=>?_)
  .have:=q (i*sz+k) (by
    rw[e]at u
    calc i*sz+k<i*sz+n*sz:=av
     _=(i+n)*sz:=by rw[dJ]
     _<=xs.length*sz:=cj _ hb)
   rw[<-cn]at this;exact this
  .have:=t _ _ c d (f j v h) y;rw[dJ,cn]at this;exact this
def VB{g:aY}{sz:Nat}{xs:List V}{a:Addr}{len cap:Nat}(h:VR g (.sl sz xs) (.slice (some a) len cap)):xs.length<=cap:=by cases h;assumption
def LI{g:aY}(W:World):Grow g W W.drew:=⟨an _,λ_ _ _=>rfl,λ_ _ _ _=>rfl,λ_ _ _ h=>h,⟨rfl,rfl,rfl,λ_=>fO _⟩,λ_ _=>rfl⟩
def vZ(l:List Int)(k n:Nat):List (List V):=(List.range n).map λj=>[fq ((l.drop (k*j)).take k)]
def AB(l:List Int)(k n j:Nat)(h:j<n):(vZ l k n)[j]?=some [fq ((l.drop (k*j)).take k)]:=by simp[vZ,h]
def zj(l:List Int)(k n:Nat)(cb:0<k)(bu:k<=1000)(a2:l.length=k*n)(cc:l.length<=10000000):Iter prog 304 [.ep [fq l],.ep [I k]] (vZ l k n):=by
 intro ch m g W xs J ci P d A a3 bv a4 a5;obtain⟨D,H,rfl⟩:∃D H,xs=#[D,H]:=by
  cases xs with|mk l=>match l,P with|[x,y],_=>exact⟨x,y,rfl⟩
 have a6:=d 0 (.ep [fq l]) D rfl rfl;have Q:=d 1 (.ep [I k]) H rfl rfl;cases a6 with
 |ep _ a a7 R a8 cp a9=>
 cases Q with
 |ep _ a' ab u ac bY ad=>
 have ai:=a8 0 bT;have K:=a9 0 (fq l) rfl;have f:=ac 0 bT;have z:=ad 0 (I k) rfl;generalize a7 0=c1 at ai K;generalize ab 0=b2 at f z;obtain rfl:=z.vn;obtain⟨b,o,sp⟩:=a;obtain⟨c2,c5,b3⟩:=a';simp only at R u;subst R u;have aA:=K;obtain⟨base,cap,rfl,aB⟩:=xz K;refine callsIn_of_wp func304 rfl trivial ?_ rfl;simp only[Tryz.ntmps304,kS,aM,aX,Nat.reduceAdd,Nat.reduceSub,nO,nP,List.push_toArray,oH,bm,aZ]
 gi_wp2
 have hlen:(List.map I l).length=l.length:=au _
 gi_loopw [4] (λL wr=>∃j:Nat,j<=n/\L=.int .i64 (k*j:Nat)/\J j wr) (λL _=>l.length-(RowKit.intOf L).toNat)
 case atStart=>exact⟨0,aL _,rfl,a5⟩
 case round=>
  obtain⟨j,b5,rfl,t⟩:=hrel;have aC:=A _ _ t _ _ _ ai;have aD:=A _ _ t _ _ _ f;simp only[cl,di]at aC aD;rcases am j n with p|b6
  .have hb:k*j+k<=l.length:=by rw[a2];calc k*j+k=k*(j+1):=by rw[qr]
    _<=k*n:=oK _ p
   obtain⟨q,N⟩:∃q,k*j=q:=⟨_,rfl⟩;rw[N]at hb ⊢
   obtain⟨bi,bl,rfl,_⟩:=aB 0 (I (l[0]'av)) bT;have b7:k*n<=cap:=by have:=VB (sz:=1) (xs:=List.map I l) aA;omega
   have ca:q+k<=k*n:=av;have r:=VR.abw aA (i:=q) (n:=k) (by rw[au];omega);rw[kK,<-gG,<-jw]at r;obtain⟨fn,tmps,assign,body,c6,bo⟩:=a4 j _ _ #[.slice (some ⟨bi,bl+q,none⟩) k k] (a3 _ _ _ t (LI wr)) (AB l k n j p) rfl (λi c y a0 bs=>by
    match i with
    |0=>cases a0;cases bs;rw[N];exact r
    |i+1=>cases a0)
   gi_wp2
   gi_region
   gi_wp2
   refine ao (λh=>absurd h du) ?_;refine bo.mono ?_;rintro e c7 (⟨rfl,Ur⟩|⟨rfl,Ur⟩)
   .have a1:=A _ _ Ur _ _ _ f;simp only[cl,di]at a1
    gi_wp2
    go_roundw
    case rel=>exact⟨j+1,p,by rw[qr,N];simp,Ur⟩
    case measure=>(simp only[RowKit.intOf,bX]<;>omega)
   .gi_wp2
    exact Tk
  .obtain rfl:j=n:=av
   gi_wp2
   go_end0
   exact⟨_,rfl,.inl (by simpa[vZ]using t)⟩
end Go.Bx
