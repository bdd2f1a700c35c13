/- Lemmas for HistoryOrder. -/
import Derived.Test.YtmbahmpbmcfifaaGreatDoorAg
import Derived.LoopIn
import Derived.LoopNIn
import Derived.OwnWalkIn
import Derived.RangeFuncLeaves
import Derived.RangeFuncNested
import Derived.Shelf.Abstract
noncomputable section
set_option linter.all false
set_option maxHeartbeats 4000000
set_option maxRecDepth 100000
namespace Go.Bx
open Go.Proofs Go.Proofs.Tryz
attribute [local irreducible] vc er dr b4 bV run iD iY i1 i6 iQ i7 i2 iu iS i4 gB i3 cW
def fin1{s:St}{t n:Nat}{ag:Bool}{a u:V}{h0:aJ}(h:dw s (.load ag n (.tmp t))=some a)(j:a.dW=false)(l:V.lM jF a u):
 (∀id,Ex.ret≠.exit id)/\∃v bL fz f v' d,BF.result s [.cell t ag n]=some (v,bL)/\jD fz h0 f/\V.lM fz v v'/\(d=true->(bL=true/\(Po fz v\/v'=v))\/v=.aP)/\v'=u/\d=false:=
 ⟨nE,a,false,jF,h0,u,false,eA h j,.refl _,l,λh=>(by cases h),rfl,rfl⟩
def abe:CF GL f52 [] [] 52:=ji
def Dx(l:List aV)(b:Int)(k:Nat):Nat:=((l.take k).filter λx=>decide (x.J=b)).length
def F5{l:List aV}{b:Int}{k:Nat}(h:k<l.length):Dx l b (k+1)=Dx l b k+if l[k].J=b then 1 else 0:=by
 unfold Dx;rw[bj h,gq,ae];congr 1;by_cases e:l[k].J=b<;>simp[e]
def H5(l:List aV)(b:Int)(k:Nat):Dx l b k<=k:=by
 exact S7
def yP(l:List aV):List Name:=match l[l.length-1]? with
 |some x=>[x.name]
 |none=>[]
def jK(l:List aV)(e:aV)(ei:Int):aV:=
 {e with ei:=ei,seq:=e.seq+Dx l e.J l.length,C:=if 0<l.length/\ei.tmod 3=0 then yP l else e.C}
def Va(l:List aV)(e:aV)(ei:Int)(ac:l.length<=1000)(ad:0<=e.seq/\e.seq<=100000):af 52 [eI l,e.v,I ei] (jK l e ei).v:=by
 refine Pure.gg (by simp only[du]) (by simp only[du]) (eU hm abe.ok (bF rfl) ?_);repeat any_goals simp only[dq,simprocAttr]
 refine dQ rfl rfl (λ(k:Nat) t=>k<=l.length/\t.Z 7=I k/\t.G 6=1/\t.G 4=1/\t.loc 6 0=[I 0,I 0,I 0,I 0,.aP,I 0,I 0,I 0,I 0,I 0,I 0,I 0,I 0,I 0,I 0,I 0,I 0,I 0,S [],.aP,.aP,.aP,S [],I 0,I 0,S [],.aP,I 0,I 0,I 0,.aP,I 0]/\
  t.loc 4 0=(aV.v {e with ei:=ei,seq:=e.seq+Dx l e.J k}).cells) (λk=>l.length-k) 0 ?_ ?_
 .refine⟨aL _,rfl,rfl,rfl,rfl,?_⟩;simp only[da,simprocAttr];simp only[Dx,fk,List.filter_nil,aT];simp only[aO,ay,aw,aV.v,V.cells];rw[show e.seq+((0:Nat):Int)=e.seq by omega];rfl
 rintro k t ⟨ai,r,a,o,d,f⟩ p;have u:t.Z 0=eI l:=by rw[p 0 (by decide)];rfl
 have H:t.Z 2=I ei:=by rw[p 2 dt];rfl
 have y:t.Z 4=.A 4 0 0:=by rw[p 4 dt];rfl
 have q:t.Z 6=.A 6 0 0:=by rw[p 6 dt];rfl
 have hb:=H5 l e.J k;simp only[aV.v,V.cells]at f;rcases am k l.length with h1|h1
 .have K:=F5 (b:=e.J) h1;repeat' first|simp(disch:=try exact om) only[dq,simprocAttr,r,o,f,u,y]|refine cs ?_ ?_<;>intro h<;>try omega|refine ec ?_
  all_goals
   refine⟨k+1,⟨?_⟩,⟨av⟩⟩;simp only[da,simprocAttr,a,o,d,f]
  .refine⟨h1,rfl,?_⟩;rw[K,ax h];simp only[aO,ay,aw];rw[show e.seq+((Dx l e.J k+1:Nat):Int)=e.seq+Dx l e.J k+1 by omega];rfl
  .refine⟨h1,rfl,?_⟩;rw[K,an h];rfl
 .obtain rfl:k=l.length:=av;have j:jK l e ei={e with ei:=ei,seq:=e.seq+Dx l e.J l.length,C:=if 0<l.length/\ei.tmod 3=0 then yP l else e.C}:=rfl;by_cases z:0<l.length/\ei.tmod 3=0
  .rw[ax z]at j;obtain⟨ab,L⟩:=z;have N:l.length-1<l.length:=av;have P:yP l=[l[l.length-1].name]:=by unfold yP;rw[aa N]
   rw[P]at j;rw[j];have Q:(l.length:Int)-1=((l.length-1:Nat):Int):=av;have R:=NJ l[l.length-1];repeat' first|simp(disch:=try exact om) only[dq,simprocAttr,r,a,o,d,f,u,H,y,q,Q,L]|(first|refine cz ?_ ?_|refine gz ?_ ?_)<;>intro D h<;>(try simp only[D])<;>try omega|refine lq R ?_|refine ec ?_
   all_goals(refine fin1 (by simp only[dL,simprocAttr,q,a,d]<;>rfl) rfl ?_;exact .refl _)
  .rw[an z]at j;rw[j];repeat' first|simp only[dq,simprocAttr,r,a,o,d,f,u,H,y,q]|(first|refine cz ?_ ?_|refine gz ?_ ?_)<;>intro D h<;>(try simp only[D])<;>try omega|refine ec ?_
   all_goals(refine fin1 (by simp only[dL,simprocAttr,q,a,d]<;>rfl) rfl ?_;exact .refl _)
def tM{P:Program}{GL:ak}{s:St}{x:eO}{d sz:Nat}{neg pu:Bool}{r:List BI}{K:St->Prop}{xs:List V}{E:aJ}(h:s.val x=.sl sz xs)(f:s.E=E)(a:er P GL pu r ((s.ct E).put d (.bool neg) none false) K)(h2:xs=[]->er P GL pu r ((s.ct E).put d (.bool (!neg)) none false) K):iu P GL (HX.act s (.wK neg x)) (some d) pu r s K:=by
 have e:=M9 (P:=P) (GL:=GL) (pu:=pu) (K:=K);simp only[HX.act,h,f];cases xs with
 |nil=>exact UF (by simp only[St.ret];exact h2 rfl) (by simp only[St.ret];exact a)
 |cons y j=>simp only[e.2.1];exact a
def Pv{α:Type}{f:α->V}{l:List α}{n:Nat}(h:l.map f=[]):V.Le .aP (.sl n (l.map f)):=by rw[h];exact .aP _
def Zm:CF GL f122 [] [] 122:=ji
def wh(e:aV):af 57 [e.v] e.name.v:=by
 refine pk f57 ?_;exact XS
def JH(a:Name):af 149 [a.v] (B a.mv):=by
 refine pk f149 ?_;repeat' first|simp only[dq,simprocAttr]|refine cY ?_ ?_<;>intro h<;>(try simp only[bO]at h)<;>(try simp only[h])<;>try simp only[jc]at h|apply p7 rfl rfl
 all_goals exact aj (ar V.bool (by rw[de];simp[Name.mv]<;>omega))
def Rf(a:Name):af 211 [a.v] (B a.mv):=by
 refine pk f211 ?_;repeat' first|simp only[dq,simprocAttr]|refine cY ?_ ?_<;>intro h<;>(try simp only[bO]at h)<;>(try simp only[h])<;>try simp only[jc]at h|apply p7 rfl rfl
 all_goals exact aj (ar V.bool (by rw[de];simp[Name.mv]<;>omega))
def Rg(a:Name):af 188 [a.v] (B a.mv):=by
 refine pk f188 ?_;repeat' first|simp only[dq,simprocAttr]|refine cY ?_ ?_<;>intro h<;>(try simp only[bO]at h)<;>(try simp only[h])<;>try simp only[jc]at h|apply p7 rfl rfl
 all_goals exact aj (ar V.bool (by rw[de];simp[Name.mv]<;>omega))
def JI(a:ID):af 124 [a.v] (B a.mv):=by
 refine pk f124 ?_;repeat' first|simp only[dq,simprocAttr]|refine cY ?_ ?_<;>intro h<;>(try simp only[bO]at h)<;>(try simp only[h])<;>try simp only[jc]at h|apply p7 rfl rfl
 all_goals exact aj (ar V.bool (by rw[de];simp[ID.mv]<;>omega))
def JJ(a b:Int):af 150 [I a,I b] (B (decide (0<=a/\a<=b))):=by
 refine pk f150 ?_;repeat' first|simp only[dq,simprocAttr]|refine cY ?_ ?_<;>intro h<;>(try simp only[bO]at h)<;>(try simp only[h])<;>try simp only[jc]at h|apply p7 rfl rfl
 all_goals exact aj (ar V.bool (by rw[de];simp<;>omega))
def JK(a b:Name):af 122 [a.v,b.v] (B (EB a b)):=by
 refine pq Zm.ok rfl (by simp only[du]) ?_;repeat' first|simp only[dq,simprocAttr]|refine bY ?_ ?_<;>intro h<;>try simp only[jc]at h|apply p7 rfl rfl
 all_goals exact aj (ar V.bool (by rw[de];simp[EB]<;>omega))
def N1(a b:aV):af 86 [a.v,b.v] (B (np a b)):=by
 refine pk f86 ?_;repeat' first|refine k9 ?_|refine cs ?_ ?_<;>intro h|refine lq (wh a) ?_|refine lq (wh b) ?_|refine lq (JK a.name b.name) ?_|refine q1 ?_
 all_goals exact aj (ar V.bool (by(simp[np,h];done)))
def xj(a b:aV):Int:=if np a b then -1 else if np b a then 1 else 0
def Vb(a b:aV):af 85 [a.v,b.v] (I (xj a b)):=by
 refine pk f85 ?_;repeat' first|refine k9 ?_|refine cs ?_ ?_<;>intro h|refine lq (N1 a b) ?_|refine lq (N1 b a) ?_|refine q1 ?_
 all_goals exact aj (ar I (by simp_all[xj]))
def JL(a b:List T)(f:a.length<=1000000000):af 200 [e9 a,e9 b] (B (decide (a=b))):=by
 refine pk f200 ?_;repeat' first|refine k9 ?_|refine cs ?_ ?_<;>intro h|refine q1 ?_
 .exact Fi
 have d:a.length=b.length:=av;refine sl (λk:Nat=>k<=a.length/\a.take k=b.take k) (λk=>[(13,I k,false)]) (λk=>a.length-k) (0) (⟨bR,bR⟩) ?_;rintro k ⟨j,he⟩;rcases am k a.length with h1|h1
 .have h2:k<b.length:=av;repeat' first|refine qu ?_|refine cs ?_ ?_<;>intro h<;>try omega|refine ba (k+1) ?_|refine q1 ?_
  .exact G6
  .exact Mj
 .exact V5
def Rh(a b:List (Int×Int))(f:a.length<=1000000000):af 201 [jw a,jw b] (B (decide (a=b))):=by
 refine pk f201 ?_;repeat' first|refine k9 ?_|refine cs ?_ ?_<;>intro h|refine q1 ?_
 .exact Fi
 have d:a.length=b.length:=av;refine sl (λk:Nat=>k<=a.length/\a.take k=b.take k) (λk=>[(13,I k,false)]) (λk=>a.length-k) (0) (⟨bR,bR⟩) ?_;exact X2
def Ri(a b:List ID)(f:a.length<=1000000000):af 202 [eZ a,eZ b] (B (decide (a=b))):=by
 refine pk f202 ?_;repeat' first|refine k9 ?_|refine cs ?_ ?_<;>intro h|refine q1 ?_
 .exact Fi
 have d:a.length=b.length:=av;refine sl (λk:Nat=>k<=a.length/\a.take k=b.take k) (λk=>[(13,I k,false)]) (λk=>a.length-k) (0) (⟨bR,bR⟩) ?_;rintro k ⟨j,he⟩;rcases am k a.length with h1|h1
 .have h2:k<b.length:=av;repeat' first|refine qu ?_|refine cs ?_ ?_<;>intro h<;>try omega|refine ba (k+1) ?_|refine q1 ?_
  .exact G6
  .exact⟨av,by rw[bj h1,bj h2,he,(ID.FI (a:=a[k]) (b:=b[k])).2 (by simpa using h)]⟩
 .exact V5
def Rj(a b:hG)(d:a.eH.length<=1000000000):af 152 [a.v,b.v] (B (decide (a=b))):=by
 obtain⟨o,p,q,r,f⟩:=a;obtain⟨t,u,y,z,j⟩:=b;refine pk f152 ?_;repeat' first|simp only[dq,simprocAttr]|refine gz ?_ ?_<;>intro l h<;>try simp only[l]|refine lq (JL f j d) ?_|refine q1 ?_
 all_goals exact aj (ar V.bool (by simp_all))
def wA(a:Int):af 184 [I a] (B false):=by
 exact aaN
def q2(a b:Int):Int:=if a<b then -1 else if b<a then 1 else 0
def ve(a b:Int):af 131 [I a,I b] (I (q2 a b)):=by
 exact aaK
def PC:List Int->Int
 |[]=>0
 |a::r=>if a≠0 then a else PC r
def rk(a b:ID):Int:=PC [q2 a.J b.J,q2 a.seq b.seq,q2 a.k b.k]
def qc(a b:cR):Int:=PC [rk a.from_ b.from_,rk a.to b.to]
def Rk(a:Int):af 212 [I a] (B (decide (0<=a/\a<10))):=by
 refine pk f212 ?_;repeat' first|simp only[dq,simprocAttr]|refine cY ?_ ?_<;>intro h<;>(try simp only[bO]at h)<;>(try simp only[h])<;>try simp only[jc]at h|apply p7 rfl rfl
 all_goals exact aj (ar V.bool (by rw[de];simp<;>omega))
def Vc(a b:List hG)(j:a.length<=1000000000)(hb:∀t∈a,t.ok):af 23 [oo a,oo b] (B (decide (a=b))):=by
 refine pk f23 ?_;repeat' first|refine k9 ?_|refine cs ?_ ?_<;>intro h|refine q1 ?_
 .exact Fi
 have f:a.length=b.length:=av;refine sl (λk:Nat=>k<=a.length/\a.take k=b.take k) (λk=>[(5,I k,false)]) (λk=>a.length-k) (0) (⟨bR,bR⟩) ?_;rintro k ⟨l,he⟩;rcases am k a.length with h1|h1
 .have h2:k<b.length:=av;have d:=aQ (hb _ (ah h1)).2.2.1 (by decide:1000000<=1000000000);repeat' first|refine qu ?_|refine cs ?_ ?_<;>intro h<;>try omega|refine ba (k+1) ?_|refine lq (NK a[k] b[k] d) ?_|refine q1 ?_
  .exact G6
  .exact Mj
 .exact V5
def N2(k:Int):V:=.agg [B (decide (k=0)),B (decide (k=2)),B (decide (3<=k/\k<=6)),B (decide (k=3\/k=4)),B (decide (k=5\/k=6))]
def kU(k:Int):af 147 [I k] (N2 k):=by
 unfold N2;refine pk f147 ?_;repeat' first|refine k9 ?_|refine cs ?_ ?_<;>intro h|refine ec ?_|(refine al nE ?_;refine tO ev rfl ?_)
 all_goals exact aj (by first|(simp_all;done)|(simp_all;omega))
def Vd(l:List T)(a:l.length<=1000000000):af 74 [e9 l] (e9 l) true:=by
 refine pk f74 ?_;exact wb3
def Ve(l:List Name)(a:l.length<=1000000000):af 81 [jZ l] (jZ l) true:=by
 refine pk f81 ?_;exact wb3
def vf(l:List ID)(a:l.length<=1000000000):af 127 [eZ l] (eZ l) true:=by
 refine pk f127 ?_;exact wb3
def abf:CF GL f89 [] [] 89:=ji
def EO(p:aK)(E:p.ok):af 91 [p.v] p.v:=by
 refine pk f91 ?_;repeat' first|refine k9 ?_|refine lq (vf p.C (aQ E.2 dt)) ?_|(refine al nE ?_;refine tO ev rfl ?_)
 all_goals exact .refl _
def Rl(a b:Op)(r:a.ok):af 151 [a.v,b.v] (B (decide (a=b))):=by
 obtain⟨H,⟨K,L,N⟩,⟨P,Q,R⟩,⟨ab,ac,c3⟩,ad,ai,aA,aB,t,d,f⟩:=a;obtain⟨aC,⟨aD,a0,a1⟩,⟨a2,a3,a4⟩,⟨a5,a6,a7⟩,a8,a9,bi,bo,u,j,l⟩:=b;obtain⟨y,o,z,p,q⟩:=r;simp only at y o z p q;simp only[Op.v,Op.c];refine pk f151 ?_;repeat' first|simp only[dq,simprocAttr]|refine gz ?_ ?_<;>intro D h<;>try simp only[D]|refine lq (JL t u (aQ o dt)) ?_|refine lq (Rh d j (aQ p dt)) ?_|refine lq (Ri f l (aQ q dt)) ?_|refine q1 ?_
 all_goals exact aj (ar V.bool (by simp_all))
def Vf(p:aK)(f:p.ok):af 89 [p.v] (B p.sa):=by
 have l:=JI p.id;have o:=zO p.bW f.1;have c3:=zM p.bW f.1;have t:=f.2;refine pq abf.ok rfl (by simp only[du]) ?_;repeat any_goals first|simp only[dq,simprocAttr]|(first|refine bY (λh=>?_) (λh=>?_)|refine cY (λh=>?_) (λh=>?_))<;>((try simp only[bD]at h);(try simp only[h]);(try simp only[jc]at h))|((first|refine iT l ?_ ?_|refine iT o ?_ ?_|refine iT c3 ?_ ?_);·simp only[dL,simprocAttr]<;>rfl)|apply p7 rfl rfl
 rotate_left 2;refine p6 (D:=[2,4,48,49,50,51,52,53,54,55,56,57,58,59,60]) (bL:=[]) rfl (λk:Nat=>k<=p.C.length/\(p.C.take k).all ID.ref=true) (λk=>[(48,I k,false)]) (λk=>p.C.length-k) (0) rfl rfl (λ_=>rfl) (⟨by omega,rfl⟩) ?_ ?_ ?_;iterate 2 ·(simp only[fQ,fM,bK];and_intros;all_goals(try(simp only[mS,simprocAttr]));all_goals(try(first|with_reducible exact .refl _|(intro h;cases h;done))))
 rintro k ⟨u,d⟩;have r:(p.id.mv&&decide (0<=p.eB/\p.eB<=3/\0<=p.eh/\p.eh<=3)&&g3 p.bW==0&&gm p.bW==p.C.length)=true:=by simp[gm, *]<;>omega
 rcases am k p.C.length with a|a
 .have j:∀b,(p.C[k].J== -1&&(p.C[k].seq==0&&p.C[k].k==0))=b->decide (p.C[k]=ou)=b:=λb e=>by
   rw[<-e,de];generalize p.C[k]=q;obtain⟨q1,y,z⟩:=q;simp[ou]
  repeat any_goals first|simp(disch:=(try simp only[me]);omega) only[dq,simprocAttr]|(first|refine bY ?_ ?_|refine cY ?_ ?_)<;>intro h<;>(try simp only[bO]at h)<;>(try simp only[h])<;>(try simp only[jc]at h)<;>try omega|(refine⟨k+1,⟨?_⟩,⟨by omega⟩,?_⟩;rotate_left;focus (simp only[fQ,fM,bK,cF];and_intros;all_goals(try(simp only[mS,simprocAttr]));all_goals(try(first|(intro h;cases h;done)|(refine aj (ar I ?_);omega)|((repeat first|with_reducible (first|exact Kept.refl _|refine ez ?_|refine ek ?_|refine dT ?_)|(with_reducible refine en ?_ ?_;rotate_left;(simp only[pU,simprocAttr])));done)))))|(refine iT (JI p.C[k]) ?_ ?_;·simp only[dL,simprocAttr]<;>rfl)|apply p7 rfl rfl
  .refine aj (ar V.bool ?_);rw[hT];simp only[aK.sa,iw];right;rw[eD];exact⟨_,ah a,by simp only[ID.ref,h,j _ (by assumption)];simp⟩
  .exact⟨a,by rw[bj a,fm,d];simp[h,ID.ref]⟩
  .exact⟨a,by rw[bj a,fm,d];simp[j _ h,ID.ref]⟩
 .repeat any_goals first|simp only[dq,simprocAttr]|(refine bY (λh=>?_) (λh=>?_))<;>((try simp only[h]);(try simp only[jc]at h);(try omega))|apply p7 rfl rfl
  rw[az a]at d;exact aj (ar V.bool (by simp only[aK.sa,r,d,kr]))
 all_goals exact aj (ar V.bool (by rw[hT];simp only[aK.sa,gm,iw,fi,kB];simp_all<;>omega))
def Vg(w:cm)(o:w.ok):af 87 [w.v] (B (lj w)):=by
 obtain⟨w⟩:=w;obtain⟨p,q,f⟩:=o;simp only at p;have f:(lP w).length<=1000000:=f;refine pk f87 ?_;repeat' first|refine k9 ?_|refine cs ?_ ?_<;>intro h|refine q1 ?_
 .exact aj (ar V.bool (by rw[hT];simp only[lj,h9];left;right;simp;omega))
 refine p6 (D:=[2,3,5,7,15,16,17,18,19,20,21,22,23,24,25,26,27,28,29,30,31,32,33,34,35,36]) (bL:=[]) rfl (λk:Nat=>k<=w.length/\(w.take k).any (λv=>decide (64<v.O.length))=false) (λk=>[(15,I k,false),(3,I (lP (w.take k)).length,false)]) (λk=>w.length-k) (0) rfl rfl (λ_=>rfl) (⟨by omega,rfl⟩) ?_ ?_ ?_;(·((simp only[fQ,bK];and_intros;all_goals(try(simp only[mS,simprocAttr]));all_goals(try(first|with_reducible exact .refl _|(intro h;cases h;done)))));all_goals(exact aj rfl));(·((simp only[fM];and_intros)));rintro k ⟨u,d⟩;rcases am k w.length with h1|h1
 .have y:=(q w[k] (ah h1)).1;have r:=D4 w (k+1);rw[rO h1,ae]at r;repeat any_goals first|refine qu ?_|refine cs ?_ ?_<;>intro h<;>try omega|refine q1 ?_
  .exact XE
  refine p6 (D:=[3,7,26,27,28,29,30,31,32,33,34,35]) (bL:=[]) rfl (λj:Nat=>j<=w[k].O.length) (λj=>[(26,I j,false),(3,I ((lP (w.take k)).length+(mu (w[k].O.take j)).length),false)]) (λj=>w[k].O.length-j) (0) rfl rfl (λ_=>rfl) (by omega) ?_ ?_ ?_;(·((simp only[fQ,bK];and_intros;all_goals(try(simp only[mS,simprocAttr]));all_goals(try(first|with_reducible exact .refl _|(intro h;cases h;done)))));all_goals(exact aj (ar I (by simp[mu]))));(·((simp only[fM];and_intros)));rintro j z;rcases am j w[k].O.length with a|a
  .have l:=zz w[k].O (j+1);rw[rP a,ae]at l;repeat any_goals first|simp(disch:=try exact om) only[dq,simprocAttr]|refine cs ?_ ?_<;>intro h<;>try omega|(refine⟨j+1,⟨?_⟩,⟨av⟩,?_⟩;rotate_left;focus (simp only[fQ,fM,bK,cF];and_intros;all_goals(try(simp only[mS,simprocAttr]));all_goals(try(first|(intro h;cases h;done)|(refine aj (ar I ?_);omega)|((repeat first|with_reducible (first|exact Kept.refl _|refine ez ?_|refine eJ ?_|refine ek ?_|refine dT ?_)|(with_reducible refine en ?_ ?_;rotate_left;(simp only[pU,simprocAttr])));done)))))
   .exact aj (ar I (by rw[rP a,ae];omega))
   .exact a
  .have l:=zz w[k].O j;repeat any_goals first|simp(disch:=omega) only[dq,simprocAttr]|refine cs ?_ ?_<;>intro h<;>try omega|(refine⟨k+1,⟨?_⟩,⟨av⟩,?_⟩;rotate_left;focus (simp only[fQ,fM,bK,cF];and_intros;all_goals(try(simp only[mS,simprocAttr]));all_goals(try(first|(intro h;cases h;done)|(refine aj (ar I ?_);omega)|((repeat first|with_reducible (first|exact Kept.refl _|refine ez ?_|refine ek ?_|refine dT ?_)|(with_reducible refine en ?_ ?_;rotate_left;(simp only[pU,simprocAttr])));done)))))
   .exact aj (ar I (by rw[rO h1,ae,az a];omega))
   .exact⟨h1,by rw[bj h1,List.any_append,d];simp;omega⟩
 .rw[az h1]at d;repeat' first|refine k9 ?_|refine cs ?_ ?_<;>intro h<;>try omega|refine q1 ?_
  exact aj (ar V.bool (by
   have t:¬(8<w.length):=av;simp only[lj,d,dx,az h1,t,na,pP,pO];rw[de];simp[<-tS]))
def Vh(w:cm)(p:w.ok):af 90 [w.v] (B (w.O.all l7)):=by
 obtain⟨w⟩:=w;obtain⟨q,r,t⟩:=p;simp only at q;refine pk f90 ?_;repeat' simp only[dq,simprocAttr]
 refine sk (bL:=[]) (λk:Nat=>k<=w.length/\(w.take k).all l7=true) (λk=>[(10,I k,false)]) (λk=>w.length-k) (0) (⟨av,rfl⟩) ?_;rintro k ⟨u,he⟩;rcases am k w.length with h1|h1
 .have l:=r w[k] (ah h1);have y:=l.1;repeat' first|refine qu ?_|refine cs ?_ ?_<;>intro h<;>try omega
  refine sk (bL:=[]) (λj:Nat=>j<=w[k].O.length/\(w[k].O.take j).all (λa=>p8 a.gO)=true) (λj=>[(17,I j,false)]) (λj=>w[k].O.length-j) (0) (⟨av,rfl⟩) ?_;rintro j ⟨z,f⟩;rcases am j w[k].O.length with d|d
  .have o:=l.2 w[k].O[j] (ah d);repeat any_goals first|simp(disch:=try exact om) only[dq,simprocAttr]|(first|refine bY ?_ ?_|refine cY ?_ ?_)<;>intro h<;>(try simp only[bD]at h)<;>(try simp only[h])<;>(try simp only[jc]at h)<;>try omega|(refine⟨j+1,⟨?_⟩,⟨av⟩,?_⟩;rotate_left;focus (simp only[fQ,fM,bK,cF];and_intros;all_goals(try(simp only[mS,simprocAttr]));all_goals(try(first|(intro h;cases h;done)|(refine aj (ar I ?_);omega)|((repeat first|with_reducible (first|exact Kept.refl _|refine ez ?_|refine ek ?_|refine dT ?_)|(with_reducible refine en ?_ ?_;rotate_left;(simp only[pU,simprocAttr])));done)))))|refine lq (zO w[k].O[j].gO o.1) ?_|refine lq (zM w[k].O[j].gO o.1) ?_|refine q1 ?_
   .exact aj (ar V.bool (by
     rw[hT,eD];refine⟨_,ah h1,?_⟩;rw[gv];unfold l7;rw[eD];exact⟨_,ah d,by simp[p8,gm, *];intro e;simp_all⟩))
   .exact⟨d,by rw[bj d,fm,f];simp[p8,gm, *];apply gY;omega⟩
   .exact aj (ar V.bool (by
     rw[hT,eD];refine⟨_,ah h1,?_⟩;rw[gv];unfold l7;rw[eD];exact⟨_,ah d,by simp[p8,gm, *]⟩))
  .repeat any_goals first|simp(disch:=omega) only[dq,simprocAttr]|refine cs ?_ ?_<;>intro h<;>try omega|(refine⟨k+1,⟨?_⟩,⟨av⟩,?_⟩;rotate_left;focus (simp only[fQ,fM,bK,cF];and_intros;all_goals(try(simp only[mS,simprocAttr]));all_goals(try(first|(intro h;cases h;done)|(refine aj (ar I ?_);omega)|((repeat first|with_reducible (first|exact Kept.refl _|refine ez ?_|refine ek ?_|refine dT ?_)|(with_reducible refine en ?_ ?_;rotate_left;(simp only[pU,simprocAttr])));done)))))
   .rw[az d]at f;exact⟨h1,by rw[bj h1,fm,he];simpa[l7]using f⟩
 .exact aaL
def Vi:fL prog 205=true:=by kernel_rfl
def Dy:Prop:=∀s:T,s.length<=1000000->af 153 [S s] (B (iV s))
def Rm(a:Dy)(s:T)(d:s.length<=1000000):af 205 [S s] (B (!iV s)):=by
 have c:=a s d;refine pk f205 ?_;exact T7
def F6:Nat->List T->Option Nat
 |_,[]=>none
 |k,s::r=>if iV s=false then some k else F6 (k+1) r
def Rn(f:Dy)(l:List T)(o:l.length<=1000000)(j:∀t∈l,t.length<=1000000):af 254 [e9 l,.fn 205 []] (I (EC (F6 0 l))):=by
 refine pk f254 ?_ [17];repeat' simp only[dq,simprocAttr]
 refine sl (λk:Nat=>k<=l.length/\F6 k (l.drop k)=F6 0 l) (λk=>[(8,I k,false)]) (λk=>l.length-k) (0) (⟨aL _,rfl⟩) ?_;rintro k ⟨p,a⟩;rcases am k l.length with d|d
 .rw[bI d,F6]at a;have c:=Rm f l[k] (j _ (ah d));repeat' first|simp(disch:=try exact om) only[dq,simprocAttr]|refine cs ?_ ?_<;>intro h<;>try omega|refine ba (k+1) ?_|(refine w2 (by simp only[pU]<;>rfl) Vi (c) (by simp only[pU]<;>rfl) ?_ ?_;(·refine nG ?_;simp only[dL]<;>rfl))|refine q1 ?_
  .exact aj (ar I (by rw[<-a,ax h];rfl))
  .rw[an (by simp[h])]at a;exact⟨d,a⟩
 .rw[cT d,F6]at a;repeat' first|simp only[dq,simprocAttr]|refine cs ?_ ?_<;>intro h<;>try omega|refine q1 ?_
  exact aj (ar I (by rw[<-a];rfl))
def F7:∀(k:Nat)(l:List T),decide (0<=EC (F6 k l))= !l.all iV
 |_,[]=>rfl
 |k,s::r=>by
  unfold F6;by_cases h:iV s=false
  .rw[ax h];simp[EC,h]
  .rw[an h,F7 (k+1) r];simp at h;simp[h]
def Ro(a:Dy)(l:List T)(d:l.length<=1000000)(f:∀t∈l,t.length<=1000000):af 204 [e9 l,.fn 205 []] (B (!l.all iV)):=by
 have c:=Rn a l d f;rw[<-F7 0 l];refine pk f204 ?_;exact T7
def Rp(a:Dy)(l:List T)(d:l.length<=1000000)(f:∀t∈l,t.length<=1000000):af 154 [e9 l] (B (l.all iV)):=by
 have c:=Ro a l d f;refine pk f154 ?_;repeat' first|simp only[dq,simprocAttr]|refine lq c ?_|refine q1 ?_
 all_goals exact aj (ar V.bool bR)
end Go.Bx
namespace Go.Bx
open Go.Proofs Go.Proofs.Tryz
def Bt{P:Program}{GL:ak}{s:St}{K0:St->Prop}{pu:Bool}{d:Option Nat}{r:List BI}{u:V}{o:Bool}{E:aJ}(h:er P GL pu r ((s.ct E).ret d u o) K0):iu P GL (some [(u,o,E)]) d pu r s K0:=⟨h,trivial⟩
attribute [local irreducible] vc er dr b4 bV run iD iY i1 i6 iQ i7 i2 iu iS i4 gB i3 cW
structure yc{α:Type}[DecidableEq α](ks:List CK)(ag:Bool)(lN:α->V):Prop where
 eq:∀a b,dJ ks (lN a).cells (lN b).cells=some (decide (a=b))
 ok:∀a,jR ks.length (lN a)=true
 agg:∀a,(lN a).isAgg=ag
section
variable {α:Type}[DecidableEq α]{ks:List CK}{ag:Bool}{lN:α->V}
def fp(lN:α->V)(l:List (α×V)):List (V×V):=l.map λx=>(lN x.1,x.2)
def q4:List (α×V)->α->Option Nat
 |[],_=>none
 |x::r,a=>if a=x.1 then some 0 else(q4 r a).map (· +1)
def kQ:List (α×V)->α->V->V
 |[],_,z=>z
 |x::r,a,z=>if a=x.1 then x.2 else kQ r a z
def zo:List (α×V)->α->Bool
 |[],_=>false
 |x::r,a=>if a=x.1 then true else zo r a
def jh:List (α×V)->α->V->List (α×V)
 |[],a,v=>[(a,v)]
 |x::r,a,v=>if a=x.1 then(a,v)::r else x::jh r a v
def Tv(K:yc ks ag lN)(a:α):∀(l:List (α×V))(i:Nat),nb ks (lN a).cells (fp lN l) i=some ((q4 l a).map (· +i))
 |[],_=>rfl
 |x::r,i=>by
  have ih:=Tv K a r (i+1);unfold fp at ih ⊢
  rw[bw,nb,K.eq a x.1,q4];by_cases h:a=x.1
  .rw[ax h];simp[h]
  .rw[an h,dY h];simp only[ih,Option.map_map];congr 1;congr 1;funext j;simp;omega
def Zn(K:yc ks ag lN)(l:List (α×V)):keysOf ag ks.length (fp lN l)=true:=by
 unfold keysOf fp;rw[List.all_map,bP];intro x _;simp[K.ok x.1,K.agg x.1]
def JM(K:yc ks ag lN)(l:List (α×V))(a:α):rL ks ag (lN a) (fp lN l)=some (q4 l a):=by
 unfold rL;rw[ax ⟨K.ok a,K.agg a,Zn K l⟩,Tv K a l 0];simp
def xk:∀(l:List (α×V))(a:α)(z:V),(∀j,q4 l a=some j->(fp lN l)[j]?=some (lN a,kQ l a z)/\zo l a=true)/\(q4 l a=none->kQ l a z=z/\zo l a=false)
 |[],a,z=>⟨λj h=>(by cases h),λ_=>⟨rfl,rfl⟩⟩
 |x::r,a,z=>by
  have ih:=xk r a z;unfold q4 kQ zo;by_cases h:a=x.1
  .simp only[ax h];refine⟨λj f=>?_,λf=>by cases f⟩;cases f;exact⟨by subst h;rfl,trivial⟩
  .simp only[an h];refine⟨λj f=>?_,λf=>ih.2 (by simpa using f)⟩;obtain⟨o,p,rfl⟩:=bS.1 f;have:=ih.1 o p;exact⟨by simpa[fp]using this.1,this.2⟩
def xl:∀(l:List (α×V))(a:α)(v:V),(∀j,q4 l a=some j->(fp lN l).set j (lN a,v)=fp lN (jh l a v))/\(q4 l a=none->fp lN l++[(lN a,v)]=fp lN (jh l a v))
 |[],a,v=>⟨λj h=>(by cases h),λ_=>rfl⟩
 |x::r,a,v=>by
  have ih:=xl r a v;unfold q4 jh;by_cases h:a=x.1
  .simp only[ax h];refine⟨λj f=>?_,λf=>by cases f⟩;cases f;rfl
  .simp only[an h];refine⟨λj f=>?_,λf=>?_⟩
   .obtain⟨o,p,rfl⟩:=bS.1 f;have:=ih.1 o p;simp only[fp,bw,ay]at this ⊢
    rw[this]
   .have:=ih.2 (by simpa using f);simp only[fp,bw,aZ]at this ⊢
    rw[this]
section
variable {P:Program}{GL:Nat->Option (List V)}{s:St}{K0:St->Prop}{pu ok:Bool}{d:Option Nat}{r:List BI}{z:V}{m k y:eO}{id:Nat}{l:List (α×V)}{a:α}{fD:aJ}
def jq(K:yc ks ag lN)(hm:s.val m=.mp id)(o:s.val k=lN a)(p:s.E=fD)(q:fD.mp id=some (.map (fp lN l)))
 (h:er P GL pu r ((s.ct fD).ret d (i5 ok (kQ l a z) (zo l a)) false) K0):iu P GL (HX.act s (.lookup ks ag z ok m k)) d pu r s K0:=by
 subst p;have e:HX.act s (.lookup ks ag z ok m k)=some [(i5 ok (kQ l a z) (zo l a),false,s.E)]:=by
  simp only[HX.act,hm,o,Ft,q,JM K l a];have:=xk (lN:=lN) l a z;cases f:q4 l a with
  |none=>simp only[this.2 f]
  |some j=>simp only[this.1 j f,bG]
 rw[e];exact Bt h
def Dz(K:yc ks ag lN)(hm:s.val m=.mp id)(o:s.val k=lN a)(p:s.E=fD)(q:fD.mp id=some (.map (fp lN l)))(t:(s.val y).dW=false)
 (h:er P GL pu r ((s.ct (fD.eM id (fp lN (jh l a (s.val y))))).ret d .qr false) K0):iu P GL (HX.act s (.sA ks ag m k y)) d pu r s K0:=by
 subst p;have e:HX.act s (.sA ks ag m k y)=some [(.qr,false,s.E.eM id (fp lN (jh l a (s.val y))))]:=by
  simp only[HX.act,hm,o,q,JM K l a,t,bM,cE];have:=xl (lN:=lN) l a (s.val y);cases f:q4 l a with
  |none=>simp only[this.2 f]
  |some j=>simp only[this.1 j f]
 rw[e];exact Bt h
def yQ(K:yc ks ag lN)(hm:s.val m=.mp id)(u:s.val k=lN a)(H:s.E=fD)(D:fD.mp id=some (.map (fp lN l)))
 (h:∀j,q4 (jh l a (kQ l a z)) a=some j->er P GL pu r ((s.ct (fD.eM id (fp lN (jh l a (kQ l a z))))).ret d (.hE [kQ l a z,.int .i64 (j:Nat)]) false) K0):iu P GL (HX.act s (.mapEntry ks ag z m k)) d pu r s K0:=by
 subst H;have o:=xl (lN:=lN) l a (kQ l a z);have q:=xk (lN:=lN) l a z;have t:∀(l:List (α×V))(v:V),(∀j,q4 l a=some j->q4 (jh l a v) a=some j)/\(q4 l a=none->q4 (jh l a v) a=some l.length):=by
  intro l v;induction l with
  |nil=>exact⟨λj h=>(by cases h),λ_=>by simp[jh,q4]⟩
  |cons x r ih=>
   unfold q4 jh;by_cases h:a=x.1
   .simp only[ax h];exact⟨λj p=>by cases p;simp[],λp=>by cases p⟩
   .simp only[an h];refine⟨λj p=>?_,λp=>?_⟩
    .obtain⟨L,N,rfl⟩:=bS.1 p;simp only[ih.1 L N,bG]
    .have:=ih.2 (by simpa using p);simp only[this,bG,aM]
 cases f:q4 l a with
 |none=>
  have e:HX.act s (.mapEntry ks ag z m k)=some [(.hE [kQ l a z,.int .i64 ((fp lN l).length:Nat)],false,s.E.eM id (fp lN (jh l a (kQ l a z))))]:=by
   simp only[HX.act,hm,u,D,JM K l a,f];rw[(q.2 f).1]at o ⊢
   rw[o.2 f]
  rw[e];exact Bt (h _ (by rw[(t l _).2 f];simp[fp]))
 |some j=>
  have e:HX.act s (.mapEntry ks ag z m k)=some [(.hE [kQ l a z,.int .i64 (j:Nat)],false,s.E.eM id (fp lN (jh l a (kQ l a z))))]:=by
   simp only[HX.act,hm,u,D,JM K l a,f,(q.1 j f).1,bG,o.1 j f]
  rw[e];exact Bt (h _ ((t l _).1 j f))
def CC(K:yc ks ag lN){j:Nat}{st:eO}(hm:s.val m=.mp id)(q:s.val st=.int .i64 (j:Nat))(t:s.E=fD)(u:fD.mp id=some (.map (fp lN l)))(p:q4 l a=some j)(D:(s.val y).dW=false)
 (h:er P GL pu r ((s.ct (fD.eM id (fp lN (jh l a (s.val y))))).ret d .qr false) K0):iu P GL (HX.act s (.entryStore m st y)) d pu r s K0:=by
 subst t;have f:=(xl (lN:=lN) l a (s.val y)).1 j p;have o:=((xk (lN:=lN) l a (s.val y)).1 j p).1;have e:HX.act s (.entryStore m st y)=some [(.qr,false,s.E.eM id (fp lN (jh l a (s.val y))))]:=by
  simp only[HX.act,hm,q,idxOf,Int.natCast_nonneg,bQ,bX,u,D,bM,cE,o,bG,f]
 rw[e];exact Bt h
end
end
def qS:yc [.i,.i,.i] true ID.v where
 eq a b:=by
  simp only[ID.v,V.cells,dJ,oV];obtain⟨f,j,o⟩:=a;obtain⟨p,q,t⟩:=b;by_cases h1:f=p<;>by_cases u:j=q<;>by_cases D:o=t<;>simp[h1,u,D]
 ok a:=rfl
 agg a:=rfl
def zU:yc [.i,.i] true Name.v where
 eq a b:=by
  simp only[Name.v,V.cells,dJ,oV];obtain⟨f,j⟩:=a;obtain⟨o,p⟩:=b;by_cases h1:f=o<;>by_cases q:j=p<;>simp[h1,q]
 ok a:=rfl
 agg a:=rfl
def Lh:yc [.i] false I where
 eq a b:=by
  exact Ta
 ok a:=rfl
 agg a:=rfl
def Zo:yc [.s] false S where
 eq a b:=by
  exact Ta
 ok a:=rfl
 agg a:=rfl
def oC(a:ID):Nat->List ee->Option (Nat×Nat)
 |_,[]=>none
 |k,x::r=>match ox a 0 x.O with
  |some j=>some (k,j)
  |none=>oC a (k+1) r
def ef(a:ID):Nat->List eQ->Option (Nat×Nat×Nat)
 |_,[]=>none
 |k,x::r=>match oC a 0 x.O with
  |some j=>some (k,j)
  |none=>ef a (k+1) r
def ka:Option (Nat×Nat×Nat)->fW
 |some (a,b,c)=>⟨a,b,c⟩
 |none=>⟨0,0,0⟩
def vg(w:cm)(a:ID)(p:w.ok):af 103 [w.v,a.v] (.hE [(ka (ef a 0 w.O)).v,B (ef a 0 w.O).isSome]):=by
 obtain⟨w⟩:=w;obtain⟨q,r,D⟩:=p;simp only at q ⊢
 generalize t:ef a 0 w=R;refine pk f103 ?_;repeat' simp only[dq,simprocAttr]
 refine sk (bL:=[]) (λk:Nat=>k<=w.length/\ef a k (w.drop k)=R) (λk=>[(6,I k,false)]) (λk=>w.length-k) (0) (⟨av,t⟩) ?_;rintro k ⟨H,he⟩;rcases am k w.length with d|d
 .have o:=r w[k] (ah d);have K:=o.1;rw[bI d,ef]at he;repeat' first|refine k9 ?_|refine cs ?_ ?_<;>intro h<;>try omega
  generalize u:oC a 0 w[k].O=A at he;refine sk (bL:=[]) (λi:Nat=>i<=w[k].O.length/\oC a i (w[k].O.drop i)=A) (λi=>[(7,I i,false)]) (λi=>w[k].O.length-i) (0) (⟨av,u⟩) ?_;rintro i ⟨L,Ul⟩;rcases am i w[k].O.length with f|f
  .have N:=(o.2 _ (ah f)).2.1;rw[bI f,oC]at Ul;repeat' first|refine qu ?_|refine cs ?_ ?_<;>intro h<;>try omega
   generalize y:ox a 0 w[k].O[i].O=z at Ul;refine sk (bL:=[]) (λj:Nat=>j<=w[k].O[i].O.length/\ox a j (w[k].O[i].O.drop j)=z) (λj=>[(9,I j,false)]) (λj=>w[k].O[i].O.length-j) (0) (⟨av,y⟩) ?_;rintro j ⟨P,Hb⟩;rcases am j w[k].O[i].O.length with l|l
   .rw[bI l,ox]at Hb;repeat' first|refine qu ?_|refine cs ?_ ?_<;>intro h<;>try omega|(refine⟨j+1,⟨?_⟩,⟨av⟩,?_⟩;rotate_left;focus (simp only[fQ,fM,bK,cF];and_intros;all_goals(try(simp only[mS]));all_goals(try(first|(intro h;cases h;done)|(refine aj (ar I ?_);omega)|((repeat with_reducible (first|exact Kept.refl _|refine ez ?_|refine eJ ?_|refine dT ?_));done)))))|refine lq (o7 w[k].O[i].O[j].id a) ?_|(((refine rT ?_;repeat' first|exact hP.nil|refine gt ?_ ?_|refine gc ?_ ?_)))
    .exact X8
    .exact X8
    .rw[an h]at Hb;exact⟨l,Hb⟩
   .rw[cT l,ox]at Hb;subst Hb;repeat' first|simp(disch:=omega) only[dq,simprocAttr]|refine cs ?_ ?_<;>intro h<;>try omega|(refine⟨i+1,⟨?_⟩,⟨av⟩,?_⟩;rotate_left;focus (simp only[fQ,fM,bK,cF];and_intros;all_goals(try(simp only[mS]));all_goals(try(first|(intro h;cases h;done)|(refine aj (ar I ?_);omega)|((repeat with_reducible (first|exact Kept.refl _|refine ez ?_|refine eJ ?_|refine dT ?_));done)))))
    exact⟨f,Ul⟩
  .rw[cT f,oC]at Ul;subst Ul;repeat' first|refine qu ?_|refine cs ?_ ?_<;>intro h<;>try omega|(refine⟨k+1,⟨?_⟩,⟨av⟩,?_⟩;rotate_left;focus (simp only[fQ,fM,bK,cF];and_intros;all_goals(try(simp only[mS]));all_goals(try(first|(intro h;cases h;done)|(refine aj (ar I ?_);omega)|((repeat with_reducible (first|exact Kept.refl _|refine ez ?_|refine eJ ?_|refine dT ?_));done)))))
   exact⟨d,he⟩
 .rw[cT d,ef]at he;subst he;repeat' first|refine k9 ?_|refine cs ?_ ?_<;>intro h<;>try omega|(((refine rT ?_;repeat' first|exact hP.nil|refine gt ?_ ?_|refine gc ?_ ?_);(all_goals(try((apply aj;simp;done))))))
  exact .refl _
def Rq{a b:cm}:a=b↔a.O=b.O:=by cases a;cases b;simp
def Vj{a b:eQ}:a=b↔a.O=b.O:=by cases a;cases b;simp
def Vk{a b:ee}:a=b↔a.gO=b.gO/\a.O=b.O:=by cases a;cases b;simp
def N3(a b:cm)(u:a.ok):af 79 [a.v,b.v] (B (decide (a=b))):=by
 obtain⟨a⟩:=a;obtain⟨b⟩:=b;obtain⟨y,z,L⟩:=u;simp only at y;simp only[Rq];refine pk f79 ?_;repeat' first|refine k9 ?_|refine cs ?_ ?_<;>intro h|refine q1 ?_
 .exact Fi
 have H:a.length=b.length:=av;refine sk (bL:=[]) (λk:Nat=>k<=a.length/\a.take k=b.take k) (λk=>[(5,I k,false)]) (λk=>a.length-k) (0) (⟨av,bR⟩) ?_;rintro k ⟨N,o⟩;rcases am k a.length with d|d
 .have p:k<b.length:=av;have q:=z a[k] (ah d);have P:=q.1;repeat' first|simp(disch:=try exact om) only[dq,simprocAttr]|refine cs ?_ ?_<;>intro h<;>try omega|refine q1 ?_
  .exact G6
  have K:a[k].O.length=b[k].O.length:=av;refine p6 (D:=[4,6,7,8,38,39,40,41,42,43,44,45,46,47,48,49,50,51,52,53,54,55,56,57,58,59,60,61,62,63,64,65,66,67,68,69,70,71,72,73,74,75,76,77,78,79]) (bL:=[]) rfl (λj:Nat=>j<=a[k].O.length/\a[k].O.take j=b[k].O.take j) (λj=>[(6,I j,false)]) (λj=>a[k].O.length-j) (0) rfl rfl (λ_=>rfl) (⟨by omega,by simp⟩) ?_ ?_ ?_;iterate 2 ·(simp only[fQ,fM,bK];and_intros;all_goals(try(simp only[mS,simprocAttr]));all_goals(try(first|with_reducible exact .refl _|(intro h;cases h;done))))
  rintro j ⟨Q,f⟩;rcases am j a[k].O.length with l|l
  .have r:j<b[k].O.length:=by omega
   have t:=q.2 _ (ah l);repeat any_goals first|simp(disch:=try exact om) only[dq,simprocAttr]|(first|refine bY ?_ ?_|refine cY ?_ ?_)<;>intro h<;>(try simp only[bD]at h)<;>(try simp only[h])<;>(try simp only[jc]at h)<;>try omega|(refine⟨j+1,⟨?_⟩,⟨av⟩,?_⟩;rotate_left;focus (simp only[fQ,fM,bK,cF];and_intros;all_goals(try(simp only[mS,simprocAttr]));all_goals(try(first|(intro h;cases h;done)|(refine aj (ar I ?_);omega)|((repeat first|with_reducible (first|exact Kept.refl _|refine ez ?_|refine eJ ?_|refine ek ?_|refine dT ?_)|(with_reducible refine en ?_ ?_;rotate_left;(simp only[pU,simprocAttr])));done)))))|refine lq (QS a[k].O[j].O b[k].O[j].O (aQ t.2.1 dt) t.2.2) ?_|refine q1 ?_
   .exact aj (by
     have:a≠b:=λe=>by subst e;exact h rfl
     simp only[this,na])
   .exact⟨l,by rw[bj l,bj r,f,Vk.2 ⟨by assumption,h⟩]⟩
   .exact aj (by
     have:a≠b:=λe=>by subst e;exact h rfl
     simp only[this,na])
  .rw[az l,az av]at f;repeat' first|refine qu ?_|refine cs ?_ ?_<;>intro h<;>try omega|(refine⟨k+1,⟨?_⟩,⟨av⟩,?_⟩;rotate_left;focus (simp only[fQ,fM,bK,cF];and_intros;all_goals(try(simp only[mS]));all_goals(try(first|(intro h;cases h;done)|(refine aj (ar I ?_);omega)|((repeat with_reducible (first|exact Kept.refl _|refine ez ?_|refine eJ ?_|refine dT ?_));done)))))
   exact⟨d,by rw[bj d,bj p,o,Vj.2 f]⟩
 .rw[az d,az av]at o;repeat' first|refine k9 ?_|refine cs ?_ ?_<;>intro h<;>try omega|refine q1 ?_
  exact aj (by simp[o])
def F8{a:ID}:∀{k:Nat} {l:List aK} {j:Nat},ox a k l=some j->∃m,j=k+m/\∃h:m<l.length,l[m].id=a
 |k,[],j,h=>by simp[ox]at h
 |k,p::r,j,h=>by
  unfold ox at h;split at h
  next d=>cases h;exact⟨0,rfl,bR,by simpa using d⟩
  .obtain⟨m,f,h2,h3⟩:=F8 h;exact Uj
def DA{a:ID}:∀{k:Nat} {l:List ee} {j:Nat×Nat},oC a k l=some j->∃m,j.1=k+m/\∃h:m<l.length,∃h2:j.2<l[m].O.length,l[m].O[j.2].id=a
 |k,[],j,h=>by simp[oC]at h
 |k,p::r,j,h=>by
  unfold oC at h;split at h
  next d f=>cases h;obtain⟨m,o,h2,h3⟩:=F8 f;obtain rfl:d=m:=av;exact⟨0,rfl,bR,by simpa using h2,by simpa using h3⟩
  .obtain⟨m,o,h2,h3⟩:=DA h;exact Uj
def DB{a:ID}:∀{k:Nat} {l:List eQ} {j:Nat×Nat×Nat},ef a k l=some j->∃m,j.1=k+m/\∃h:m<l.length,∃h2:j.2.1<l[m].O.length,∃h3:j.2.2<l[m].O[j.2.1].O.length,l[m].O[j.2.1].O[j.2.2].id=a
 |k,[],j,h=>by simp[ef]at h
 |k,p::r,j,h=>by
  unfold ef at h;split at h
  next d f=>cases h;obtain⟨m,o,h2,h3⟩:=DA f;obtain rfl:d.1=m:=av;exact⟨0,rfl,bR,by simpa using h2,by simpa using h3⟩
  .obtain⟨m,o,h2,h3⟩:=DB h;exact Uj
def kw{a:ID}{l:List eQ}{v b i:Nat}(h:ef a 0 l=some (v,b,i)):∃d:v<l.length,∃h2:b<l[v].O.length,∃f:i<l[v].O[b].O.length,l[v].O[b].O[i].id=a:=by
 obtain⟨m,d,h2⟩:=DB h;simp only[cA]at d;subst d;exact h2
def Bu(l:List gP):Nat:=(l.filter λt=>t.kind==3).length
def Bv(l:List gP):∀n,n<=l.length->(lU 3 l n).length=Bu (l.take n)
 |0,_=>by simp[lU,Bu]
 |n+1,h=>by
  rw[pH 3 l h,bj h];have:=Bv l n av;unfold Bu at this ⊢
  rw[gq,ae];split
  next a=>simp[this,a]
  next a=>simp[this,a]
def Bw(s:T):gm s=Bu (cq s):=by
 unfold gm;rw[Bv _ _ (ao _),be]
def DC(s:T)(m:Nat)(hm:m<=s.length):∀n,n<=m->jo (s.take m) n=jo s n
 |0,_=>rfl
 |n+1,h=>by
  have e:∀k,k<m->gd (s.take m) k=gd s k:=λk d=>by simp[gd,ap,d]
  simp only[jo,DC s m hm n av,qL,e n av];rcases cS n with a|a
  .subst a;simp
  .rw[e (n-1) av]
def Li(s:T)(n:Nat)(l:List gP):Bu l<=Bu (qL s n l):=by
 unfold qL;dsimp only;split
 .exact ao _
 .split
  .split
   next u a=>obtain⟨k,rfl⟩:∃k,l=k++[u]:=l0.1 a;simp only[Bu,gq,List.filter_cons,List.filter_nil,nX,ae];by_cases d:u.kind=3<;>simp[d]
   .simp[Bu,gq]
  .simp[Bu,gq]
def Lj(s:T){m n:Nat}(h:m<=n):Bu (jo s m)<=Bu (jo s n):=by
 induction h with
 |refl=>exact ao _
 |step h ih=>exact aQ ih (Li s _ _)
def F9(s:T)(m:Nat)(hm:m<=s.length):gm (s.take m)<=gm s:=by
 rw[Bw,Bw];have:cq (s.take m)=jo s m:=by
  unfold cq;rw[aF,dX hm];exact DC s m hm m (ao _)
 rw[this];exact Lj s hm
def Md{P:Program}{GL:ak}{d:Option Nat}{pu:Bool}{s:St}{K:St->Prop}{sz m:Nat}{zs:List V}{x y:eO}{r:List BI}{fD:aJ}(hx:s.val x=.aP)(a:s.val y=.int .i64 m)(f:s.E=fD)(hm:0<m)(l:m<=1073741824)
 (h:∀c',m<=c'->gB P GL d pu r s K (.ms sz fD.Y 0 m c') false (fD.cM (kl m zs++kl (c'-m) zs))):(MX.yD sz zs x y).wp s (gB P GL d pu r s K):=by
 subst f;simp only[MX.wp,hx,a,nf];refine⟨av,by unfold ir;omega,?_⟩;unfold AF;simp only[bX,cA];refine⟨by unfold ir;omega,?_⟩;rw[an (oO.1 hm),an av];refine⟨[],by simp[aJ.cells],λc' j=>?_⟩;exact h c' j
def Ga(n:Nat)(zs:List V):(kl n zs).length=n*zs.length:=by
 unfold kl;induction n with
 |zero=>simp
 |succ n ih=>rw[fR,dk,ae,ih,dH];omega
def N4(f sz:Nat):Prop:=∀(n:Nat)(E:aJ),0<n->n<=100000000->aI f [.aP,I n] E λv _ a=>gh sz a v []/\v≠.aP/\bt none E a
def Me{sz c:Nat}{E:aJ}{n:Nat}{zs:List V}(a:zs.length=sz)(d:n<=c):gh sz (E.cM (kl n zs++kl (c-n) zs)) (.ms sz E.Y 0 0 c) []:=by
 refine⟨(by intro x hx;cases hx),.inr ⟨E.Y,c,kl n zs++kl (c-n) zs,rfl,dm _,?_,aL _,?_⟩⟩
 .simp only[aJ.cM,eR,bQ];rfl
 .rw[ae,Ga,Ga,a,<-dK,aT];congr 1;omega
def G5(E:aJ)(cs:List V):bt none E (E.cM cs):=⟨λi a _=>by simp only[aJ.cM];exact bE _ _ (cr a),λ_ _=>rfl,fO _⟩
def Zp:CF GL f252 [26] [] 252:=ji
def Rr:N4 252 1:=by
 intro n E hn a;refine bq Zp.ok rfl ?_;exact TU
def Zq:CF GL f198 [33,35] [9,13] 198:=ji
def Rs(ls:List (List UInt8))(h0:0<ls.flatten.length)(h:ls.flatten.length<=100000000)(ai:ls.length<=1000):af 198 [.sl 1 (ls.map df)] (df ls.flatten):=by
 have Q:=λE=>Rr ls.flatten.length E h0 h;have SU:∀k,(ls.take k).flatten.length<=ls.flatten.length:=λk=>by
  exact T9
 have Px:∀k (h:k<ls.length),(ls.take (k+1)).flatten=(ls.take k).flatten++ls[k]:=λk o=>by
  rw[bj o,fA];simp
 have aA:∀a,df a=.sl 1 (a.map (λb:UInt8=>V.int .u8 b.toNat)):=λ_=>rfl;generalize R:ls.flatten.length=N at*
 have y:hW (ls.map df)=true:=hN (f:=df) (λa=>by simp only[du]) ls;refine Pure.gg (by simp only[du,y]) (by simp only[du]) (eU hm Zq.ok (bF rfl) ?_);repeat' simp only[dq,simprocAttr]
 refine sl (λk:Nat=>k<=ls.length) (λk=>[(11,I k,false),(3,I (ls.take k).flatten.length,false)]) (λk=>ls.length-k) (0) (aL _) ?_;rintro k o;have z:=SU k;rcases am k ls.length with h1|h1
 .exact Xu
 .obtain rfl:k=ls.length:=av;rw[be,R]at*
  repeat' first|refine k9 ?_|refine cs ?_ ?_<;>intro h<;>try omega
  refine bm rfl (Q _) ?_ ?_ ?_
  .rfl
  .refine nG ?_;simp only[dL]<;>rfl
  rintro aB bL D ⟨ab,ac,_⟩;repeat' simp only[gE,simprocAttr]
  refine dQ rfl rfl (λ(k:Nat) t=>k<=ls.length/\t.Z 27=I k/\gh 1 t.E (t.Z 6) ((ls.take k).flatten.map (λb:UInt8=>V.int .u8 b.toNat))/\t.Z 6≠.aP) (λk=>ls.length-k) 0 ?_ ?_
  .refine⟨aL _,?_⟩;simp only[da,simprocAttr];exact⟨ab,ac⟩
  rintro k t ⟨o,p,q,H⟩ K;have L:t.Z 25=.sl 1 (ls.map df):=by rw[K 25 dt];rfl
  have j:t.Z 26=I ls.length:=by rw[K 26 dt];rfl
  have z:=SU k;rcases am k ls.length with r|r
  .have T0:=Px k r;have hk3:=SU (k+1);have Xv:=ar List.length T0;rw[ae]at Xv;repeat' first|simp(disch:=try exact om) only[dq,simprocAttr,L,j,p]|refine cs ?_ ?_<;>intro h<;>try omega
   refine iE (xs:=(ls.take k).flatten.map (λb:UInt8=>V.int .u8 b.toNat)) (ys:=ls[k].map (λb:UInt8=>V.int .u8 b.toNat)) ?_ ?_ ?_ ?_ ?_ rfl ?_ ?_ λv D P hb d=>?_
   .exact sT
   .exact sT
   .exact lG.map (λ_=>rfl) _
   .exact sT
   .simp only[da];intro l ad;cases ad
   .simp only[aq];omega
   .simp only[da];intro u;exact absurd u H
   repeat' simp(disch:=omega) only[gE,simprocAttr,p]
   refine⟨k+1,⟨?_⟩,⟨av⟩⟩;simp only[da];refine⟨r,rfl,by rw[T0,aE];exact P,λu=>?_⟩;subst u;rcases d with d|d
   .revert d
    simp only[da];intro d;obtain⟨_,⟨hx,_⟩|⟨id,c,rest,hx,_⟩⟩:=q
    .exact H hx
    .rw[hx]at d;cases d
   .cases d
  .obtain rfl:k=ls.length:=av;rw[be]at q;repeat' first|simp only[dq,simprocAttr,j,p]|refine bY ?_ ?_<;>intro h<;>(try simp only[jc]at h)<;>try omega
   refine⟨nE,x2 rfl ?_⟩;simp only[da];exact q
def Zr:CF GL f210 [26] [] 210:=ji
def Rt:N4 210 1:=by
 intro n E hn a;refine bq Zr.ok rfl ?_;exact TU
def Zs:CF GL f160 [33,35] [9,13] 160:=ji
def Ru(ls:List (List T))(h0:0<ls.flatten.length)(h:ls.flatten.length<=100000000)(ai:ls.length<=1000):af 160 [.sl 1 (ls.map e9)] (e9 ls.flatten):=by
 have Q:=λE=>Rt ls.flatten.length E h0 h;have SU:∀k,(ls.take k).flatten.length<=ls.flatten.length:=λk=>by
  exact T9
 have Px:∀k (h:k<ls.length),(ls.take (k+1)).flatten=(ls.take k).flatten++ls[k]:=λk o=>by
  rw[bj o,fA];simp
 have aA:∀a,e9 a=.sl 1 (a.map S):=λ_=>rfl;generalize R:ls.flatten.length=N at*
 have y:hW (ls.map e9)=true:=hN (f:=e9) (λa=>by simp only[du]) ls;refine Pure.gg (by simp only[du,y]) (by simp only[du]) (eU hm Zs.ok (bF rfl) ?_);repeat' simp only[dq,simprocAttr]
 refine sl (λk:Nat=>k<=ls.length) (λk=>[(11,I k,false),(3,I (ls.take k).flatten.length,false)]) (λk=>ls.length-k) (0) (aL _) ?_;rintro k o;have z:=SU k;rcases am k ls.length with h1|h1
 .exact Xu
 .obtain rfl:k=ls.length:=av;rw[be,R]at*
  repeat' first|refine k9 ?_|refine cs ?_ ?_<;>intro h<;>try omega
  refine bm rfl (Q _) ?_ ?_ ?_
  .rfl
  .refine nG ?_;simp only[dL]<;>rfl
  rintro aB bL D ⟨ab,ac,_⟩;repeat' simp only[gE,simprocAttr]
  refine dQ rfl rfl (λ(k:Nat) t=>k<=ls.length/\t.Z 27=I k/\gh 1 t.E (t.Z 6) ((ls.take k).flatten.map S)/\t.Z 6≠.aP) (λk=>ls.length-k) 0 ?_ ?_
  .refine⟨aL _,?_⟩;simp only[da,simprocAttr];exact⟨ab,ac⟩
  rintro k t ⟨o,p,q,H⟩ K;have L:t.Z 25=.sl 1 (ls.map e9):=by rw[K 25 dt];rfl
  have j:t.Z 26=I ls.length:=by rw[K 26 dt];rfl
  have z:=SU k;rcases am k ls.length with r|r
  .have T0:=Px k r;have hk3:=SU (k+1);have Xv:=ar List.length T0;rw[ae]at Xv;repeat' first|simp(disch:=try exact om) only[dq,simprocAttr,L,j,p]|refine cs ?_ ?_<;>intro h<;>try omega
   refine iE (xs:=(ls.take k).flatten.map S) (ys:=ls[k].map S) ?_ ?_ ?_ ?_ ?_ rfl ?_ ?_ λv D P hb d=>?_
   .exact sT
   .exact sT
   .exact lG.map (λ_=>rfl) _
   .exact sT
   .simp only[da];intro l ad;cases ad
   .simp only[aq];omega
   .simp only[da];intro u;exact absurd u H
   repeat' simp(disch:=omega) only[gE,simprocAttr,p]
   refine⟨k+1,⟨?_⟩,⟨av⟩⟩;simp only[da];refine⟨r,rfl,by rw[T0,aE];exact P,λu=>?_⟩;subst u;rcases d with d|d
   .revert d
    simp only[da];intro d;obtain⟨_,⟨hx,_⟩|⟨id,c,rest,hx,_⟩⟩:=q
    .exact H hx
    .rw[hx]at d;cases d
   .cases d
  .obtain rfl:k=ls.length:=av;rw[be]at q;repeat' first|simp only[dq,simprocAttr,j,p]|refine bY ?_ ?_<;>intro h<;>(try simp only[jc]at h)<;>try omega
   refine⟨nE,x2 rfl ?_⟩;simp only[da];exact q
def Tw:CF GL f330 [26] [] 330:=ji
def Rv:N4 330 3:=by
 intro n E hn a;refine bq Tw.ok rfl ?_;exact TU
def Tx:CF GL f313 [33,35] [9,13] 313:=ji
def N5(ls:List (List ID))(h0:0<ls.flatten.length)(h:ls.flatten.length<=100000000)(a1:ls.length<=1000):af 313 [.sl 1 (ls.map eZ)] (eZ ls.flatten):=by
 have aA:=λE=>Rv ls.flatten.length E h0 h;have j:∀k,(ls.take k).flatten.length<=ls.flatten.length:=λk=>by
  exact T9
 have q:∀k (h:k<ls.length),(ls.take (k+1)).flatten=(ls.take k).flatten++ls[k]:=λk u=>by
  rw[bj u,fA];simp
 have a2:∀a,eZ a=.sl 3 (a.map ID.v):=λ_=>rfl;generalize aB:ls.flatten.length=N at*
 have L:hW (ls.map eZ)=true:=hN (f:=eZ) (λa=>by simp only[du]) ls;refine Pure.gg (by simp only[du,L]) (by simp only[du]) (eU hm Tx.ok (bF rfl) ?_);repeat' simp only[dq,simprocAttr]
 refine sl (λk:Nat=>k<=ls.length) (λk=>[(11,I k,false),(3,I (ls.take k).flatten.length,false)]) (λk=>ls.length-k) (0) (aL _) ?_;rintro k u;have P:=j k;rcases am k ls.length with y|y
 .have o:=q k y;have Q:=j (k+1);have p:=ar List.length o;rw[ae]at p;repeat' first|refine qu ?_|refine cs ?_ ?_<;>intro h<;>try omega|refine ba (k+1) ?_|refine ec ?_
  all_goals exact y
 .obtain rfl:k=ls.length:=av;rw[be,aB]at*
  repeat' first|refine k9 ?_|refine cs ?_ ?_<;>intro h<;>try omega
  refine bm rfl (aA _) ?_ ?_ ?_
  .rfl
  .refine nG ?_;simp only[dL]<;>rfl
  rintro a3 bL R ⟨aC,aD,_⟩;repeat' simp only[gE,simprocAttr]
  refine dQ rfl rfl (λ(k:Nat) t=>k<=ls.length/\t.Z 27=I k/\gh 3 t.E (t.Z 6) ((ls.take k).flatten.map ID.v)/\t.Z 6≠.aP) (λk=>ls.length-k) 0 ?_ ?_
  .refine⟨aL _,?_⟩;simp only[da,simprocAttr];exact⟨aC,aD⟩
  rintro k t ⟨u,z,D,ab⟩ ac;have ad:t.Z 25=.sl 1 (ls.map eZ):=by rw[ac 25 dt];rfl
  have r:t.Z 26=I ls.length:=by rw[ac 26 dt];rfl
  have P:=j k;rcases am k ls.length with H|H
  .have o:=q k H;have Q:=j (k+1);have p:=ar List.length o;rw[ae]at p;repeat' first|simp(disch:=try exact om) only[dq,simprocAttr,ad,r,z]|refine cs ?_ ?_<;>intro h<;>try omega
   refine iE (xs:=(ls.take k).flatten.map ID.v) (ys:=ls[k].map ID.v) ?_ ?_ ?_ ?_ ?_ rfl ?_ ?_ λv R ai hb d=>?_
   .exact sT
   .exact sT
   .exact lG.map (λ_=>rfl) _
   .exact sT
   .simp only[da];intro l a0;cases a0
   .simp only[aq];omega
   .simp only[da];intro K;exact absurd K ab
   repeat any_goals simp(disch:=omega) only[gE,simprocAttr,z]
   refine⟨k+1,⟨?_⟩,⟨av⟩⟩;simp only[da,simprocAttr];refine⟨H,rfl,by rw[o,aE];exact ai,λK=>?_⟩;subst K;rcases d with d|d
   .revert d
    simp only[da,simprocAttr];intro d;obtain⟨_,⟨hx,_⟩|⟨id,c,rest,hx,_⟩⟩:=D
    .exact ab hx
    .rw[hx]at d;cases d
   .cases d
  .obtain rfl:k=ls.length:=av;rw[be]at D;repeat any_goals first|simp only[dq,simprocAttr,r,z]|refine cs ?_ ?_<;>intro h<;>try omega
   refine⟨nE,x2 rfl ?_⟩;simp only[da,simprocAttr];exact D
def N6(E:aJ):aI 330 [.aP,I 0] E λv _ a=>v=.aP/\a=E:=by
 refine bq Tw.ok rfl ?_;repeat any_goals first|simp(disch:=omega) only[gE,simprocAttr]|refine bY ?_ ?_<;>intro h<;>(try simp only[h])<;>try simp only[jc]at h|refine ec ?_
 exact⟨nE,.aP,_,bz rfl rfl,by simp⟩
def Rw{P:Program}{GL:ak}{d:Option Nat}{pu:Bool}{r:List BI}{K:St->Prop}{s:St}{x y:eO}{sz:Nat}{zs:List V}{fD:aJ}(a:s.E=fD)(hx:s.val x=.aP\/s.val x=.ms sz 0 0 0 0)(f:s.val y=.sl sz [])
 (h:gB P GL d pu r s K (.ms sz 0 0 0 0) false fD):(MX.v1 sz zs x y).wp s (gB P GL d pu r s K):=by
 subst a;rcases hx with hx|hx<;>simp only[MX.wp,hx,f,nf,qs,bQ,AF,aT,dj,cV,jg]<;>exact⟨dt,h⟩
def N7(d:List (List ID))(h0:d.flatten.length=0)(N:d.length<=1000):af 313 [.sl 1 (d.map eZ)] (eZ d.flatten):=by
 have K:=λE=>N6 E;have y:∀k (h:k<d.length),d[k]=[]:=λk p=>by
  have:=bJ.1 h0;rw[List.flatten_eq_nil_iff]at this;exact this _ (ah p)
 have P:∀a,eZ a=.sl 3 (a.map ID.v):=λ_=>rfl;have z:hW (d.map eZ)=true:=hN (f:=eZ) (λa=>by simp only[du]) d;rw[bJ.1 h0];refine Pure.gg (by simp only[du,z]) (by simp only[du]) (eU hm Tx.ok (bF rfl) ?_);repeat' simp only[dq,simprocAttr]
 refine sl (λk:Nat=>k<=d.length) (λk=>[(11,I k,false),(3,I 0,false)]) (λk=>d.length-k) (0) (aL _) ?_;rintro k p;rcases am k d.length with q|q
 .have j:=y k q;repeat any_goals first|simp(disch:=try exact om) only[dq,simprocAttr,j]|refine bY ?_ ?_<;>intro h<;>(try simp only[h])<;>(try simp only[jc]at h)<;>try omega|refine ba (k+1) ?_|refine ec ?_
  all_goals exact q
 .obtain rfl:k=d.length:=av;repeat' first|refine k9 ?_|refine cs ?_ ?_<;>intro h<;>try omega
  refine bm rfl (K _) ?_ ?_ ?_
  .rfl
  .refine nG ?_;simp only[dL]<;>rfl
  rintro Q bL L ⟨rfl,R⟩;repeat' simp only[gE,simprocAttr]
  refine dQ rfl rfl (λ(k:Nat) t=>k<=d.length/\t.Z 27=I k/\(t.Z 6=.aP\/t.Z 6=.ms 3 0 0 0 0)) (λk=>d.length-k) 0 ?_ ?_
  .refine⟨aL _,?_⟩;simp only[da,simprocAttr];trivial
  rintro k t ⟨p,r,l⟩ D;have H:t.Z 25=.sl 1 (d.map eZ):=by rw[D 25 dt];rfl
  have o:t.Z 26=I d.length:=by rw[D 26 dt];rfl
  rcases am k d.length with u|u
  .have j:=y k u;repeat' first|simp(disch:=try exact om) only[dq,simprocAttr,j,H,o,r]|refine cs ?_ ?_<;>intro h<;>try omega
   refine Rw (fD:=t.E) (by simp only[simprocAttr,bh]) sT (by(try simp only[da])) ?_;repeat' simp(disch:=omega) only[gE,simprocAttr,r]
   refine⟨k+1,⟨?_⟩,⟨av⟩⟩;simp only[da,simprocAttr];exact⟨u,ar (V.int .i64) (by omega),.inr trivial⟩
  .repeat' first|simp only[dq,simprocAttr,o,r]|refine cs ?_ ?_<;>intro h<;>try omega
   rcases l with l|l
   .exact⟨nE,.aP,_,jF,_,_,false,bz l rfl,.refl _,.aP _,λh=>(by cases h),rfl,rfl⟩
   .exact⟨nE,.ms 3 0 0 0 0,_,jF,_,_,false,bz l rfl,.refl _,.Fj _ _ _,λh=>(by cases h),rfl,rfl⟩
def Rx(a:List (List ID))(h:a.flatten.length<=100000000)(f:a.length<=1000):af 313 [.sl 1 (a.map eZ)] (eZ a.flatten):=by
 rcases cS a.flatten.length with d|d
 .exact N7 a d f
 .exact N5 a d h f
end Go.Bx
namespace Go.Bx
open Go.Proofs Go.Proofs.Tryz Go.RowKit Go.Shelf
attribute [local go_sem] Oper.semAt_some
def xm{g:aW}{sz:Nat}{xs:List V}{x:Value}(h:VR g (.sl sz xs) x):∃(base:Option Addr)(cap:Nat),x=.slice base xs.length cap/\
 ∀(i:Nat)(v:V),xs[i]?=some v->∃(b o:Nat),base=some ⟨b,o,none⟩/\∀(j:Nat) c,v.cells[j]?=some c->∃y,g.bL b (o+(i*sz+j))=.gZ y/\VR g c y:=by
 cases h with
 |slnil=>exact⟨none,0,rfl,λi v e=>by simp at e⟩
 |sl _ _ a cap l d z p q D r=>
  refine⟨some a,cap,rfl,λi v e=>⟨a.block,a.off,by cases a;simp at d;simp[d],λj c f=>⟨l (i*sz+j),q _ ?_,r i v j c e f⟩⟩⟩;have t:=bZ e;have u:=bZ f;rw[p i v e]at u
  calc i*sz+j<i*sz+sz:=av
   _=(i+1)*sz:=by rw[dH]
   _<=xs.length*sz:=cj _ t
def sW(v a:Nat)(l:List aK)(i:Nat):List (List V):=match l with
 |[]=>[]
 |p::r=>[(fW.mk v a i).v,p.v]::sW v a r (i+1)
def pd(v:Nat):List ee->Nat->List (List V)
 |[],_=>[]
 |x::r,a=>sW v a x.O 0++pd v r (a+1)
def mT:List eQ->Nat->List (List V)
 |[],_=>[]
 |x::r,v=>pd v x.O 0++mT r (v+1)
def By(v a:Nat){p:aK}:∀{l:List aK} {n:Nat} (i:Nat),l[n]?=some p->(sW v a l i)[n]?=some [(fW.mk v a (i+n:Nat)).v,p.v]
 |q::r,0,i,h=>by simp at h;subst h;rfl
 |q::r,n+1,i,h=>by
  have:=By v a (l:=r) (n:=n) (i+1) (by simpa using h);rw[show i+1+n=i+(n+1)by omega]at this;simpa[sW]using this
def sX(v a:Nat):∀(l:List aK)(i:Nat),(sW v a l i).length=l.length
 |[],_=>rfl
 |_::r,i=>by simp[sW,sX v a r]
def vJ(v:Nat):∀(l r:List ee)(a:Nat),pd v (l++r) a=pd v l a++pd v r (a+l.length)
 |[],_,_=>rfl
 |x::l,r,a=>by
  simp only[aZ,pd,vJ v l r,aG,aM];rw[show a+1+l.length=a+(l.length+1)by omega]
def qT(v:Nat):∀(l:List ee)(a:Nat),(pd v l a).length=(mu l).length
 |[],_=>rfl
 |x::r,a=>by simp[pd,sX,qT v r,mu]
def vK:∀(l r:List eQ)(a:Nat),mT (l++r) a=mT l a++mT r (a+l.length)
 |[],_,_=>by simp[mT]
 |x::l,r,a=>by
  simp only[aZ,mT,vK l r,aG,aM];rw[show a+1+l.length=a+(l.length+1)by omega]
def sY:∀(l:List eQ)(a:Nat),(mT l a).length=(lP l).length
 |[],_=>rfl
 |x::r,a=>by simp[mT,qT,sY r,lP]
def N8{l:List eQ}{i k n:Nat}{x:eQ}{y:ee}{p:aK}(d:l[i]?=some x)(h2:x.O[k]?=some y)(a:y.O[n]?=some p):
 (mT l 0)[(lP (l.take i)).length+(mu (x.O.take k)).length+n]?=some [(fW.mk i k n).v,p.v]:=by
 obtain⟨f,rfl⟩:=aH.1 d;obtain⟨j,rfl⟩:=aH.1 h2;have o:=(aH.1 a).1;have q:l=l.take i++l[i]::l.drop (i+1):=by conv=>lhs;rw[<-cu i l,bI f]
 have r:l[i].O=l[i].O.take k++l[i].O[k]::l[i].O.drop (k+1):=by conv=>lhs;rw[<-cu k l[i].O,bI j]
 have t:mT l 0=mT (l.take i) 0++((pd i (l[i].O.take k) 0++(sW i k l[i].O[k].O 0++pd i (l[i].O.drop (k+1)) (k+1)))++mT (l.drop (i+1)) (i+1)):=by
  conv=>lhs;rw[q]
  rw[vK,mT]
  conv=>lhs;rw[r]
  rw[vJ,pd,aF,aF,dX av,dX av];simp
 rw[t,cn,dR (by rw[sY];omega),sY,km,dI (by simp[qT,sX];omega),dR (by rw[qT];omega),qT,km,dI (by rw[sX];exact o)];have:=By i k 0 a;rw[cA]at this;exact this
def wi{g:aW}(W:World)(ob:Obj):Grow g W (W.alloc ob) where
 size:=by show W.heap.size<=(W.heap.push ob).size;simp
 cell b o h:=mr W ob o (cr h)
 Tg b o h _:=oX W ob o (cr h)
 obj b a _ h:=pE W ob h
 gW:=⟨rfl,rfl,rfl,λ_=>ao _⟩
 whole b h:=by
  exact aaH
def VR.JN{g:aW}{s:T}{x:Value}(h:VR g (S s) x):x=.string ⟨s.toArray⟩:=by cases h;rfl
def VR.vh{g:aW}{n:Int}{x:Value}(h:VR g (I n) x):x=.int .i64 n:=by cases h;rfl
def sZ(w:cm)(ad:w.ok):Iter prog 123 [.ep [cd w.O]] (mT w.O 0):=by
 intro l m g W a2 J hd a3 ai f aA gb e2 a4;obtain⟨aB,rfl⟩:∃aB,a2=#[aB]:=by
  cases a2 with|mk l=>match l,a3 with|[x],_=>exact⟨x,rfl⟩
 have e3:=ai 0 (.ep [cd w.O]) aB rfl rfl;have gf:=ad.1;cases e3 with
 |ep _ a e4 a5 e5 he e6=>
 have a6:=e5 0 bR;have a7:=e6 0 (cd w.O) rfl;generalize e4 0=hf at a6 a7;obtain⟨b,o,sp⟩:=a;simp only at a5;subst a5;obtain⟨base,cap,rfl,a8⟩:=xm a7;refine callsIn_of_wp func123 rfl trivial ?_ rfl;simp only[Tryz.ntmps123,kT,aM,aT,Nat.reduceAdd,Nat.reduceSub,nS,nT,List.push_toArray,oK,bx,aZ];have a9:=f 0 W a4 _ _ _ a6;simp only[cl,dj]at a9
 gi_wp2
 gi_loopw [12] (λv12 wr=>∃i:Nat,i<=w.O.length/\v12=.int .i64 i/\J (lP (w.O.take i)).length wr) (λv12 _=>w.O.length-(RowKit.intOf v12).toNat)
 case atStart=>exact⟨0,aL _,rfl,a4⟩
 case round=>
  obtain⟨i,gk,rfl,P⟩:=hrel;rcases am i w.O.length with u|gn
  .have gp:=(ad.2.1 _ (ah u)).1;obtain⟨hg,hh,rfl,bi⟩:=a8 i w.O[i].v (by simp[u]);obtain⟨hi,bo,br⟩:=bi 0 (mG w.O[i].O) rfl;have bs:=f _ _ P _ _ _ bo;obtain⟨el,e7,rfl,aC⟩:=xm br;simp only[cl,kL,dj]at bs;have hlen:(List.map eQ.v w.O).length=w.O.length:=aq _
   gi_wp2
   obtain⟨bu,rfl⟩:∃bu:World,bu=wr:=⟨_,rfl⟩
   gi_loopw [20] (λv20 wr=>∃k:Nat,k<=w.O[i].O.length/\v20=.int .i64 k/\J ((lP (w.O.take i)).length+(mu (w.O[i].O.take k)).length) wr) (λv20 _=>w.O[i].O.length-(RowKit.intOf v20).toNat)
   case atStart=>
    exact⟨0,aL _,rfl,aA _ _ _ P (wi _ _)⟩
   case round=>
    obtain⟨k,R,rfl,z⟩:=hrel;rcases am k w.O[i].O.length with t|fa
    .have ha:=((ad.2.1 _ (ah u)).2 _ (ah t)).2.1;obtain⟨hj,hk,rfl,ab⟩:=aC k w.O[i].O[k].v (by simp[t]);obtain⟨hl,bv,bU⟩:=ab 0 (S w.O[i].O[k].gO) rfl;obtain⟨hn,b2,b3⟩:=ab 1 (dv w.O[i].O[k].O) rfl;have b5:=f _ _ z _ _ _ bv;have b6:=f _ _ z _ _ _ b2;obtain⟨et,fr,rfl,aD⟩:=xm b3;simp only[cl,dj,<-cn]at b5 b6;have eN:(List.map ee.v w.O[i].O).length=w.O[i].O.length:=aq _;obtain rfl:=bU.JN
     gi_wp2
     obtain⟨wp,rfl⟩:∃wp:World,wp=wr:=⟨_,rfl⟩
     gi_loopw [28] (λv28 wr=>∃n:Nat,n<=w.O[i].O[k].O.length/\v28=.int .i64 n/\J ((lP (w.O.take i)).length+(mu (w.O[i].O.take k)).length+n) wr) (λv28 _=>w.O[i].O[k].O.length-(RowKit.intOf v28).toNat)
     case atStart=>exact⟨0,aL _,rfl,aA _ _ _ z (wi _ _)⟩
     case round=>
      obtain⟨n,hc,rfl,d⟩:=hrel;have e1:(List.map aK.v w.O[i].O[k].O).length=w.O[i].O[k].O.length:=aq _;rcases am n w.O[i].O[k].O.length with a0|fs
      .obtain⟨p,E⟩:∃p,w.O[i].O[k].O[n]?=some p:=⟨_,aa a0⟩;have b7:=N8 (l:=w.O) (i:=i) (k:=k) (n:=n) (aa u) (aa t) E;obtain⟨ho,hq,rfl,r⟩:=aD n p.v (by rw[bB,E];rfl);obtain⟨hr,ca,cb⟩:=r 0 (I p.id.J) rfl;obtain⟨hs,cc,ch⟩:=r 1 (I p.id.seq) rfl;obtain⟨ht,ci,cp⟩:=r 2 (I p.id.k) rfl;obtain⟨hu,c1,c2⟩:=r 3 (I p.eB) rfl;obtain⟨hv,c5,c6⟩:=r 4 (I p.eh) rfl;obtain⟨hw,c7,c9⟩:=r 5 (S p.bW) rfl;obtain⟨hy,dd,ac⟩:=r 6 (eZ p.C) rfl;have dg:=f _ _ d _ _ _ ca;have R:=f _ _ d _ _ _ cc;have dp:=f _ _ d _ _ _ ci;have ds:=f _ _ d _ _ _ c1;have dF:=f _ _ d _ _ _ c5;have dU:=f _ _ d _ _ _ c7;have ea:=f _ _ d _ _ _ dd;obtain rfl:=cb.vh;obtain rfl:=ch.vh;obtain rfl:=cp.vh;obtain rfl:=c2.vh;obtain rfl:=c6.vh;obtain rfl:=c9.JN;have K:=ac;obtain⟨H,L,rfl,_⟩:=xm ac;simp only[cl,dj,<-cn]at dg R dp ds dF dU ea;have Q:(List.map ID.v p.C).length=p.C.length:=aq _;have eb:=aA _ _ _ d (wi wr (Obj.cells #[.int .i64 p.id.J,.int .i64 p.id.seq,.int .i64 p.id.k,.int .i64 p.eB,.int .i64 p.eh,.string ⟨p.bW.toArray⟩,.slice H p.C.length L] 78));rw[Q]at K;obtain⟨fn,tmps,assign,body,hz,fB⟩:=e2 _ _ _ #[.agg #[.int .i64 i,.int .i64 k,.int .i64 n],.agg #[.int .i64 p.id.J,.int .i64 p.id.seq,.int .i64 p.id.k,.int .i64 p.eB,.int .i64 p.eh,.string ⟨p.bW.toArray⟩,.slice H p.C.length L]] eb b7 rfl (λq c y a1 ed=>by
        match q with
        |0=>
         cases a1;cases ed;refine .agg _ _ rfl (λj c h=>?_) (λj c y D N=>?_)
         .match j with
          |0|1|2=>cases h;rfl
          |j+3=>cases h
         .match j with
          |0|1|2=>cases D;cases N;exact .int _ _
          |j+3=>cases D
        |1=>
         cases a1;cases ed;refine .agg _ _ rfl (λj c h=>?_) (λj c y D N=>?_)
         .match j with
          |0|1|2|3|4|5|6=>cases h;rfl
          |j+7=>cases h
         .match j with
          |0|1|2|3|4=>cases D;cases N;exact .int _ _
          |5=>cases D;cases N;exact .str _
          |6=>cases D;cases N;exact K
          |j+7=>cases D
        |q+2=>cases a1)
       gi_wp2
       refine al (λh=>absurd h dt) ?_;refine fB.mono ?_;rintro e hB (⟨rfl,Ud⟩|⟨rfl,Ud⟩)
       .gi_wp2
        go_roundw
        case rel=>exact⟨n+1,av,bR,by rw[<-cn];exact Ud⟩
        case measure=>(simp only[RowKit.intOf,bX]<;>omega)
       .gi_wp2
        exact S6
      .gi_wp2
       go_roundw
       case rel=>
        refine⟨k+1,av,bR,?_⟩;have:n=w.O[i].O[k].O.length:=av;rw[rP t,ae,<-cn,<-this];exact d
       case measure=>(simp only[RowKit.intOf,bX]<;>omega)
    .gi_wp2
     go_roundw
     case rel=>
      refine⟨i+1,av,bR,?_⟩;have:k=w.O[i].O.length:=av;subst this;rw[rO u,ae];rw[be]at z;exact z
     case measure=>(simp only[RowKit.intOf,bX]<;>omega)
  .gi_wp2
   go_end0
   exact⟨_,rfl,.inl (by
    rw[sY];have:i=w.O.length:=av;subst this;rw[be]at P;exact P)⟩
def VR.abg{g:aW}{sz:Nat}{xs:List V}{b o len cap:Nat}(h:VR g (.sl sz xs) (.slice (some ⟨b,o,none⟩) len cap)){i n:Nat}(hb:i+n<=xs.length):VR g (.sl sz ((xs.drop i).take n)) (.slice (some ⟨b,o+i*sz,none⟩) n n):=by
 have e:((xs.drop i).take n).length=n:=by rw[aF,aS];omega
 have f:∀(j:Nat) v,((xs.drop i).take n)[j]?=some v->xs[i+j]?=some v:=λj v h=>by
  rw[dA]at h;split at h
  .rw[c0]at h;exact h
  .cases h
 cases h with
 |sl _ _ a _ l z D p q r t=>
  rw[show Value.slice (some ⟨b,o+i*sz,none⟩) n n=Value.slice (some ⟨b,o+i*sz,none⟩) ((xs.drop i).take n).length n by rw[e]];refine .sl sz _ ⟨b,o+i*sz,none⟩ n (λk=>l (i*sz+k)) rfl av (λj v h=>p _ _ (f j v h)) (λk u=>?_) (λj v c d h=>r _ _ c d (f j v h)) (λj v c d h y=>?_)
  .have:=q (i*sz+k) (by
    rw[e]at u
    calc i*sz+k<i*sz+n*sz:=av
     _=(i+n)*sz:=by rw[dK]
     _<=xs.length*sz:=cj _ hb)
   rw[<-cn]at this;exact this
  .have:=t _ _ c d (f j v h) y;rw[dK,cn]at this;exact this
def Vl{g:aW}{sz:Nat}{xs:List V}{a:Addr}{len cap:Nat}(h:VR g (.sl sz xs) (.slice (some a) len cap)):xs.length<=cap:=by cases h;assumption
def Lk{g:aW}(W:World):Grow g W W.drew:=⟨ao _,λ_ _ _=>rfl,λ_ _ _ _=>rfl,λ_ _ _ h=>h,⟨rfl,rfl,rfl,λ_=>fO _⟩,λ_ _=>rfl⟩
def vO(l:List Int)(k n:Nat):List (List V):=(List.range n).map λj=>[fx ((l.drop (k*j)).take k)]
def z8(l:List Int)(k n j:Nat)(h:j<n):(vO l k n)[j]?=some [fx ((l.drop (k*j)).take k)]:=by simp[vO,h]
def yR(l:List Int)(k n:Nat)(cc:0<k)(bv:k<=1000)(a3:l.length=k*n)(ch:l.length<=10000000):Iter prog 304 [.ep [fx l],.ep [I k]] (vO l k n):=by
 intro ci m g W xs J cp Q d D a4 bU a5 a6;obtain⟨H,K,rfl⟩:∃H K,xs=#[H,K]:=by
  cases xs with|mk l=>match l,Q with|[x,y],_=>exact⟨x,y,rfl⟩
 have a7:=d 0 (.ep [fx l]) H rfl rfl;have R:=d 1 (.ep [I k]) K rfl rfl;cases a7 with
 |ep _ a a8 ab a9 c1 bi=>
 cases R with
 |ep _ a' ac u ad b2 ai=>
 have aA:=a9 0 bR;have L:=bi 0 (fx l) rfl;have f:=ad 0 bR;have z:=ai 0 (I k) rfl;generalize a8 0=c2 at aA L;generalize ac 0=b3 at f z;obtain rfl:=z.vh;obtain⟨b,o,sp⟩:=a;obtain⟨c5,c6,b5⟩:=a';simp only at ab u;subst ab u;have aB:=L;obtain⟨base,cap,rfl,aC⟩:=xm L;refine callsIn_of_wp func304 rfl trivial ?_ rfl;simp only[Tryz.ntmps304,kT,aM,aT,Nat.reduceAdd,Nat.reduceSub,nS,nT,List.push_toArray,oK,bx,aZ]
 gi_wp2
 have hlen:(List.map I l).length=l.length:=aq _
 gi_loopw [4] (λN wr=>∃j:Nat,j<=n/\N=.int .i64 (k*j:Nat)/\J j wr) (λN _=>l.length-(RowKit.intOf N).toNat)
 case atStart=>exact⟨0,aL _,rfl,a6⟩
 case round=>
  obtain⟨j,b6,rfl,t⟩:=hrel;have aD:=D _ _ t _ _ _ aA;have a0:=D _ _ t _ _ _ f;simp only[cl,dj]at aD a0;rcases am j n with p|b7
  .have hb:k*j+k<=l.length:=by rw[a3];calc k*j+k=k*(j+1):=by rw[qw]
    _<=k*n:=oN _ p
   obtain⟨q,P⟩:∃q,k*j=q:=⟨_,rfl⟩;rw[P]at hb ⊢
   obtain⟨bo,br,rfl,_⟩:=aC 0 (I (l[0]'av)) bR;have ca:k*n<=cap:=by have:=Vl (sz:=1) (xs:=List.map I l) aB;omega
   have cb:q+k<=k*n:=av;have r:=VR.abg aB (i:=q) (n:=k) (by rw[aq];omega);rw[kL,<-gC,<-kt]at r;obtain⟨fn,tmps,assign,body,c7,bs⟩:=a5 j _ _ #[.slice (some ⟨bo,br+q,none⟩) k k] (a4 _ _ _ t (Lk wr)) (z8 l k n j p) rfl (λi c y a1 bu=>by
    match i with
    |0=>cases a1;cases bu;rw[P];exact r
    |i+1=>cases a1)
   gi_wp2
   gi_region
   gi_wp2
   refine al (λh=>absurd h dt) ?_;refine bs.mono ?_;rintro e c9 (⟨rfl,Ud⟩|⟨rfl,Ud⟩)
   .have a2:=D _ _ Ud _ _ _ f;simp only[cl,dj]at a2
    gi_wp2
    go_roundw
    case rel=>exact⟨j+1,p,by rw[qw,P];simp,Ud⟩
    case measure=>(simp only[RowKit.intOf,bX]<;>omega)
   .gi_wp2
    exact S6
  .obtain rfl:j=n:=av
   gi_wp2
   go_end0
   exact⟨_,rfl,.inl (by simpa[vO]using t)⟩
end Go.Bx
