/- Lemmas for HistoryOrder. -/
import Derived.Test.YtmbahmpbmcfifaaGreatDoorAe
import Derived.Test.YtmbahmpbmcfifaaGreatDoorAf
noncomputable section
set_option linter.all false
set_option maxHeartbeats 4000000
set_option maxRecDepth 100000
namespace Go.Bx
open Go.Proofs Go.Proofs.Tryz
attribute [local irreducible] vc er dr b4 bV run iD iY i1 i6 iQ i7 i2 iu iS i4 gB i3 cW
def aK.ok(p:aK):Prop:=p.bW.length<=1000000/\p.C.length<=1000000
def ee.ok(a:ee):Prop:=a.gO.length<=1000000/\a.O.length<=1000000/\∀p∈a.O,p.ok
def eQ.ok(v:eQ):Prop:=v.O.length<=1000000/\∀a∈v.O,a.ok
def mu(l:List ee):List aK:=l.flatMap (·.O)
def lP(l:List eQ):List aK:=l.flatMap λv=>mu v.O
def dx(w:cm):List aK:=lP w.O
def cm.ok(w:cm):Prop:=w.O.length<=1000000/\(∀v∈w.O,v.ok)/\(dx w).length<=1000000
def rP{l:List ee}{k:Nat}(h:k<l.length):mu (l.take (k+1))=mu (l.take k)++l[k].O:=by rw[bj h];simp only[mu,cg,cf,jf,cP]
def rO{l:List eQ}{k:Nat}(h:k<l.length):lP (l.take (k+1))=lP (l.take k)++mu l[k].O:=by rw[bj h];simp only[lP,cg,cf,jf,cP]
def zz(l:List ee)(k:Nat):(mu (l.take k)).length<=(mu l).length:=by
 have:mu l=mu (l.take k)++mu (l.drop k):=by simp only[mu,<-cg,cu]
 rw[this,ae];omega
def D4(l:List eQ)(k:Nat):(lP (l.take k)).length<=(lP l).length:=by
 have:lP l=lP (l.take k)++lP (l.drop k):=by simp only[lP,<-cg,cu]
 rw[this,ae];omega
def uC(w:cm)(p:w.ok):af 66 [w.v] (dv (dx w)) true:=by
 obtain⟨w⟩:=w;obtain⟨q,d,r⟩:=p;simp only[dx]at q d r ⊢
 refine pk f66 ?_ [36];repeat' simp only[dq,simprocAttr]
 refine sl (λk:Nat=>k<=w.length) (λk=>[(4,I k,false),(3,dv (lP (w.take k)),true)]) (λk=>w.length-k) (0) av ?_;rintro k z;rcases am k w.length with h1|h1
 .have t:=d w[k] (ah h1);have f:=rO h1;have u:=D4 w (k+1);rw[f,ae]at u;repeat' first|refine k9 ?_|refine cs ?_ ?_<;>intro h<;>try omega
  refine nw (D:=[3,5,13,14,15,16,17,18,19,20,21,22,23,24,25,26,27,28,29,30,31,32,33,34,35]) (bL:=[]) (λj:Nat=>j<=w[k].O.length) (λj=>[(5,I j,false),(3,dv (lP (w.take k)++mu (w[k].O.take j)),true)]) (λj=>w[k].O.length-j) (0) rfl rfl rfl (λ_=>rfl) (by omega) ?_ ?_ ?_;(·((simp only[ft,simprocAttr];try omega));all_goals(exact aj (by simp[mu,Cx])));(·((simp only[fM];and_intros)));rintro j H;have K:=t.1;rcases am j w[k].O.length with a|a
  .have o:=rP a;have y:=zz w[k].O (j+1);rw[o,ae]at y;repeat' first|refine qu ?_|refine cs ?_ ?_<;>intro h<;>try omega|(refine⟨j+1,⟨?_⟩,⟨av⟩,?_⟩;rotate_left;focus (simp only[ft,simprocAttr];and_intros<;>try first|exact .aP _|omega))
   .exact aj (by rw[o,<-aE,aG])
   .exact a
  .repeat' first|refine qu ?_|refine cs ?_ ?_<;>intro h<;>try omega|(refine⟨k+1,⟨?_⟩,⟨av⟩,?_⟩;rotate_left;focus (simp only[ft,simprocAttr];and_intros<;>try first|exact .aP _|omega))
   .exact aj (by rw[az (l:=w[k].O) a,f])
   .exact h1
 .exact aaF
def ID.mv(a:ID):Bool:=decide (0<=a.J/\a.J<6/\0<=a.seq/\a.seq<64/\0<=a.k/\a.k<1024)
def Jp(a:ID):af 194 [a.v] (B a.mv):=by
 refine pk f194 ?_;repeat' first|simp only[dq,simprocAttr]|refine cY ?_ ?_<;>intro h<;>(try simp only[bO]at h)<;>(try simp only[h])<;>try simp only[jc]at h|apply p7 rfl rfl
 all_goals exact aj (ar V.bool (by rw[de];simp[ID.mv]<;>omega))
def ou:ID:=⟨-1,0,0⟩
def EA:af 96 [] ou.v:=by
 refine pk f96 ?_;exact XS
def ID.ref(a:ID):Bool:=a.mv||decide (a=ou)
def QC(a:ID):af 197 [a.v] (B a.ref):=by
 refine pk f197 ?_;repeat' first|refine k9 ?_|refine gz ?_ ?_<;>intro d h<;>try simp only[d]|refine lq (Jp a) ?_|refine lq EA ?_|refine lq (o7 a ou) ?_|refine q1 ?_
 all_goals exact aj (ar V.bool (by simp[ID.ref,h]))
def gm(s:T):Nat:=(lU 3 (cq s) (cq s).length).length
def p8(s:T):Bool:=g3 s==0&&gm s==0
def QD(s:T)(a:s.length<=1000000):af 145 [S s] (B (p8 s)):=by
 refine pk f145 ?_;repeat' first|refine k9 ?_|refine gz ?_ ?_<;>intro d h<;>try simp only[d]|refine lq (Eu s a) ?_|refine lq (zN s a (sM s a)) ?_|refine q1 ?_
 .exact aj (ar V.bool (by rw[de];simp[p8,gm,h]))
 .exact aj (ar V.bool (by simp[p8,h]))
def YZ:CF GL f144 [] [] 144:=ji
def aK.sa(p:aK):Bool:=p.id.mv&&decide (0<=p.eB/\p.eB<=3/\0<=p.eh/\p.eh<=3)&&g3 p.bW==0&&gm p.bW==p.C.length&&p.C.all ID.ref
def QE(p:aK)(a:p.ok):af 144 [p.v] (B p.sa):=by
 obtain⟨a,l⟩:=a;refine pq YZ.ok rfl (by simp only[du]) ?_;repeat' first|simp only[dq,simprocAttr]|(first|refine bY ?_ ?_|refine cY ?_ ?_)<;>intro h<;>(try simp only[bD]at h)<;>(try simp only[h])<;>try simp only[jc]at h|((first|refine iT (Jp p.id) ?_ ?_|refine iT (Eu p.bW a) ?_ ?_|refine iT (zN p.bW a (sM p.bW a)) ?_ ?_);·simp only[dL,simprocAttr]<;>rfl)|apply p7 rfl rfl
 rotate_left 2;refine nw (D:=[2,3,42,43,44,45,46,47,48,49,50,51,52,53,54,55]) (bL:=[]) (λk:Nat=>k<=p.C.length/\(p.C.take k).all ID.ref=true) (λk=>[(3,I k,false)]) (λk=>p.C.length-k) (0) rfl rfl rfl (λ_=>rfl) (⟨by omega,rfl⟩) ?_ ?_ ?_;iterate 2 ·(simp only[ft,simprocAttr];try omega)
 rintro k ⟨o,f⟩;have j:(p.id.mv&&decide (0<=p.eB/\p.eB<=3/\0<=p.eh/\p.eh<=3)&&g3 p.bW==0&&gm p.bW==p.C.length)=true:=by simp[gm, *]
 rcases am k p.C.length with d|d
 .repeat' first|simp(disch:=(try simp only[me]);omega) only[dq,simprocAttr]|refine bY ?_ ?_<;>intro h<;>(try simp only[jc]at h)<;>try omega|(refine⟨k+1,⟨?_⟩,⟨by omega⟩,?_⟩;rotate_left;focus (simp only[ft,simprocAttr];try omega))|(refine iT (QC p.C[k]) ?_ ?_;·simp only[dL]<;>rfl)|apply p7 rfl rfl
  .exact aj (ar V.bool (by
    rw[hT];simp only[aK.sa,iw];right;rw[eD];exact⟨_,ah d,by simp[h]⟩))
  .exact⟨d,by rw[bj d,fm,f];simp[h]⟩
 .repeat' first|simp only[dq,simprocAttr]|refine bY ?_ ?_<;>intro h<;>(try simp only[jc]at h)<;>try omega|apply p7 rfl rfl
  rw[az d]at f;exact aj (ar V.bool (by simp only[aK.sa,j,f,kr]))
 all_goals exact aj (ar V.bool (by rw[hT];simp only[aK.sa,gm,iw,fi,kB];simp_all<;>omega))
end Go.Bx
namespace Go.Bx
open Go.Proofs Go.Proofs.Tryz
def fg{P:Program}{GL:ak}{pu:Bool}{s:St}{K:St->Prop}{i:BI}{p q:la}(h:er P GL pu [i] s (plK P GL pu p K))(a:bV P GL pu q s K):bV P GL pu (.alt i p q) s K:=Yr h a
attribute [local irreducible] vc er dr b4 bV run iD iY i1 i6 iQ i7 i2 iu iS i4 gB i3 cW
def p9(x:cR):Nat->List cR->Nat
 |k,[]=>k
 |k,y::r=>if j0 y x=true then p9 x (k+1) r else k
def pQ(l:List cR)(x:cR):List cR:=if l[p9 x 0 l]?=some x then l else l.take (p9 x 0 l)++x::l.drop (p9 x 0 l)
def QF(l:List cR)(x:cR)(h:l[p9 x 0 l]?=some x):pQ l x=l:=by unfold pQ;rw[ax h]
def QG(l:List cR)(x:cR)(h:p9 x 0 l<l.length)(a:l[p9 x 0 l]≠x):pQ l x=l.take (p9 x 0 l)++x::l.drop (p9 x 0 l):=by
 unfold pQ;rw[an];rw[aa h];simpa using a
def NG(l:List cR)(x:cR)(h:l.length<=p9 x 0 l):pQ l x=l.take (p9 x 0 l)++x::l.drop (p9 x 0 l):=by
 unfold pQ;rw[an];rw[b0 h];simp
def jN(l:List cR):List cR:=l.foldl pQ []
def Bg{l:List cR}{k:Nat}(h:k<l.length):jN (l.take (k+1))=pQ (jN (l.take k)) l[k]:=by
 rw[bj h];unfold jN;rw[dl];rfl
def NH(l:List cR)(x:cR):(pQ l x).length<=l.length+1:=by
 unfold pQ;split
 .omega
 .simp only[ae,aM,aF,aS];omega
def sb(l:List cR):∀k,k<=l.length->(jN (l.take k)).length<=k
 |0,_=>by simp[jN]
 |k+1,h=>by
  rw[Bg h];exact aQ (NH _ _) (lz (sb l k av))
def NI(l:List cR)(r:l.length<=1000000):af 61 [g7 l] (g7 (jN l)) true:=by
 refine pk f61 ?_ [60];repeat any_goals simp only[dq,simprocAttr]
 refine sl (λk:Nat=>k<=l.length) (λk=>[(4,I k,false),(3,g7 (jN (l.take k)),true)]) (λk=>l.length-k) (0) av ?_;rintro k p;have t:=sb l k p;rcases am k l.length with h1|h1
 .have o:=Bg h1;generalize hx:l[k]=x at o;generalize jN (l.take k)=c at*
  repeat any_goals first|simp only[dq,simprocAttr]|refine cs ?_ ?_<;>intro h<;>try omega
  refine A5 (D:=[3,5,12,13,14,15,16,17,18,19,20,21,22,23,24,25,26,27,28,29,30,31,32,33,34,35,36,37,38,39,40,41,42,43,44,45,46,47,48,49,50,51,52,53,54,55,56,57,58,59]) (bL:=[]) (λ_:Unit=>True) (λ_=>[(3,g7 (pQ c x),true)]) rfl rfl (λ_=>rfl) ?_ rfl ?_
  .repeat any_goals simp only[dq,simprocAttr]
   refine so (bL:=[3]) (λj:Nat=>j<=c.length/\p9 x j (c.drop j)=p9 x 0 c) (λj=>[(5,I j,false)]) (λj=>c.length-j) (0) (⟨av,rfl⟩) ?_;rintro j ⟨u,a⟩;rcases am j c.length with d|d
   .rw[bI d,p9]at a;repeat any_goals first|simp(disch:=try exact om) only[dq,simprocAttr,hx]|(first|refine bY ?_ ?_|refine cY ?_ ?_)<;>intro h<;>(try simp only[bO,bD]at h)<;>(try simp only[h])<;>(try simp only[jc]at h)<;>try omega|refine ba (j+1) ?_|(refine⟨(),⟨?_⟩,?_⟩;rotate_left;focus (simp only[fQ,fM,bK,cF];and_intros;all_goals(try(simp only[mS,simprocAttr]));all_goals(try(first|(intro _;(simp;done))|((repeat with_reducible (first|exact Kept.refl _|refine ez ?_|refine eJ ?_|refine fX ?_|refine dT ?_));done)))))|refine lq (Qx c[j] x) ?_|refine lq (Nv c[j] x) ?_|refine fg ?_ ?_
    .rw[ax h]at a;exact⟨d,a⟩
    next f _=>rw[an (by simp[f])]at a;exact aj (by rw[QG c x (a▸d) (by simp only[<-a];exact h),<-a];simp[cR.v];rw[<-gC,az (by simp)])
    next f _=>rw[an (by simp[f])]at a;exact aj (by rw[QF c x (by rw[<-a,aa d,h])])
   .rw[cT d,p9]at a;repeat any_goals first|simp(disch:=try exact om) only[dq,simprocAttr,hx]|refine gz ?_ ?_<;>intro q h<;>(try simp only[q])<;>try omega|(refine⟨(),⟨?_⟩,?_⟩;rotate_left;focus (simp only[fQ,fM,bK,cF];and_intros;all_goals(try(simp only[mS,simprocAttr]));all_goals(try(first|(intro _;(simp;done))|((repeat with_reducible (first|exact Kept.refl _|refine ez ?_|refine eJ ?_|refine fX ?_|refine dT ?_));done)))))|refine fg ?_ ?_
    exact aj (by rw[NG c x (by omega),<-a];simp[cR.v];rw[az (by simp),cT (by simpa using d)])
  .rintro - -
   repeat any_goals first|simp(disch:=omega) only[dq,simprocAttr]|(refine⟨k+1,⟨?_⟩,⟨by omega⟩,?_⟩;rotate_left;focus (simp only[fQ,fM,bK];and_intros;all_goals(try(simp only[mS,simprocAttr]));all_goals(try(first|(intro h;cases h;done)|(intro _;(simp;done))|(refine aj (ar I ?_);omega)))))
   .exact aj (by rw[o])
   .exact h1
 .exact aaG
def Y0:CF GL f193 [] [] 193:=ji
def k4(w:cm):List cR:=jN ((dx w).map λp=>⟨p.id,p.id⟩)
def QH(w:cm)(d:w.ok):af 193 [w.v] (g7 (k4 w)) true:=by
 have f:=uC w d;have j:=d.2.2;unfold k4;generalize dx w=l at*
 obtain⟨w⟩:=w;refine pq Y0.ok rfl (by simp only[du]) ?_;repeat any_goals first|simp only[dq,simprocAttr]|(refine iT f ?_ ?_;·simp only[dL,simprocAttr]<;>rfl)
 refine nw (D:=[4,5,8,9,10,11,12,13,14,15,16,17,18,19,20,21,22,23,24,25,26,27]) (bL:=[]) (λk:Nat=>k<=l.length) (λk=>[(5,I k,false),(4,g7 ((l.take k).map λp=>⟨p.id,p.id⟩),true)]) (λk=>l.length-k) (0) rfl rfl rfl (λ_=>rfl) (by omega) ?_ ?_ ?_;iterate 2 ·(simp only[fQ,fM,bK];and_intros;all_goals(try(simp only[mS,simprocAttr]));all_goals(try(first|with_reducible exact .refl _|exact .aP _|(intro h;cases h;done)|(intro _;(simp;done)))))
 rintro k o;rcases am k l.length with a|a
 .repeat any_goals first|simp(disch:=first|omega|(simp only[me];omega)) only[dq,simprocAttr]|(refine bY (λh=>?_) (λh=>?_))<;>((try simp only[h]);(try simp only[jc]at h);(try omega))|(refine⟨k+1,⟨?_⟩,⟨by omega⟩,?_⟩;rotate_left;focus (simp only[fQ,fM,bK];and_intros;all_goals(try(simp only[mS,simprocAttr]));all_goals(try(first|(intro h;cases h;done)|(intro _;(simp;done))|(refine aj (ar I ?_);omega)))))
  .exact aj (by rw[bj a,aE,aE];rfl)
  .exact a
 .rw[az a];repeat any_goals first|simp only[dq,simprocAttr]|(refine bY (λh=>?_) (λh=>?_))<;>((try simp only[h]);(try simp only[jc]at h);(try omega))|(refine iT (NI (l.map λp=>⟨p.id,p.id⟩) (by rw[aq];exact j)) ?_ ?_;·simp only[dL,simprocAttr]<;>rfl)|apply rN rfl rfl rfl
  exact .refl _
def EB(a b:Name):Bool:=decide (a.J<b.J\/a.J=b.J/\a.seq<b.seq)
def Name.mv(a:Name):Bool:=decide (0<=a.J/\a.J<=5/\0<=a.seq/\a.seq<=63)
def aa4:CF GL f60 [] [] 60:=ji
def aV.name(e:aV):Name:=⟨e.J,e.seq⟩
def NJ(e:aV):af 60 [e.v] e.name.v:=by
 refine pq aa4.ok rfl (by simp only[du]) ?_;repeat any_goals first|simp only[dq,simprocAttr]|(refine al nE ?_;refine tO (by simp only[dL,simprocAttr]<;>rfl) rfl ?_)
 exact .refl _
def QJ{a b:Name}:a=b↔a.J=b.J/\a.seq=b.seq:=by cases a;cases b;simp
def aa5:CF GL f72 [] [] 72:=ji
def HW(a b:List Name)(o:a.length<=1000000000):af 72 [jZ a,jZ b] (B (decide (a=b))):=by
 refine pq aa5.ok rfl (by simp only[du]) ?_;repeat any_goals first|simp only[dq,simprocAttr]|(refine bY (λh=>?_) (λh=>?_))<;>((try simp only[h]);(try simp only[jc]at h))|apply p7 rfl rfl
 .exact aj (by
   have:a≠b:=λe=>by simp_all
   simp[this])
 have l:a.length=b.length:=by omega
 refine nw (D:=[4,5,11,12,13,14,15,16,17,18,19,20,21,22,23,24,25]) (bL:=[]) (λk:Nat=>k<=a.length/\a.take k=b.take k) (λk=>[(5,I k,false)]) (λk=>a.length-k) (0) rfl rfl rfl (λ_=>rfl) (⟨by simp,by simp⟩) ?_ ?_ ?_;iterate 2 ·(simp only[fQ,fM,bK];and_intros;all_goals(try(simp only[mS,simprocAttr]));all_goals(try(first|with_reducible exact .refl _|(intro h;cases h;done))))
 rintro k ⟨p,f⟩;rcases am k a.length with d|d
 .have j:k<b.length:=by omega
  repeat any_goals first|simp(disch:=first|omega|(simp only[me];omega)) only[dq,simprocAttr]|(refine bY (λh=>?_) (λh=>?_))<;>((try simp only[h]);(try simp only[jc]at h);(try omega))|(refine⟨k+1,⟨?_⟩,⟨by omega⟩,?_⟩;rotate_left;focus (simp only[fQ,fM,bK];and_intros;all_goals(try(simp only[mS,simprocAttr]));all_goals(try(first|(intro h;cases h;done)|(refine aj (ar I ?_);omega)))))|apply p7 rfl rfl
  .exact aj (by
    have:a≠b:=λe=>by subst e;simp_all
    simp[this])
  .exact⟨by omega,by rw[bj d,bj j,f,(QJ (a:=a[k]) (b:=b[k])).2 (by simpa using h)]⟩
 .repeat any_goals first|simp only[dq,simprocAttr]|(refine bY (λh=>?_) (λh=>?_))<;>((try simp only[h]);(try simp only[jc]at h);(try omega))|apply p7 rfl rfl
  exact aj (by
   have d:a.take k=a:=az (by omega);have j:b.take k=b:=az (by omega);rw[d,j]at f;simp[f])
def np(a b:aV):Bool:=decide (a.ei<b.ei)||decide (a.ei=b.ei)&&EB a.name b.name
def aa6:CF GL f76 [] [] 76:=ji
def NK(a b:hG)(d:a.eH.length<=1000000000):af 76 [a.v,b.v] (B (decide (a=b))):=by
 obtain⟨l,o,p,q,f⟩:=a;obtain⟨r,t,u,y,j⟩:=b;refine pq aa6.ok rfl (by simp only[du]) ?_;repeat any_goals first|simp only[dq,simprocAttr]|(refine cY (λh=>?_) (λh=>?_))<;>((try simp only[bO]at h);(try simp only[h]);(try simp only[jc]at h))|(refine iT (Ep f j d) ?_ ?_;·simp only[dL,simprocAttr]<;>rfl)|apply p7 rfl rfl
 all_goals exact aj (ar V.bool (by simp_all))
def Y1:CF GL f119 [] [] 119:=ji
def QK(a b:Post)(d:a.path.length<=1000000000):af 119 [a.v,b.v] (B (decide (a=b))):=by
 obtain⟨⟨l,o,p⟩,f,q⟩:=a;obtain⟨⟨r,t,u⟩,j,y⟩:=b;refine pq Y1.ok rfl (by simp only[du]) ?_;repeat any_goals first|simp only[dq,simprocAttr]|(refine cY (λh=>?_) (λh=>?_))<;>((try simp only[bO]at h);(try simp only[h]);(try simp only[jc]at h))|(refine iT (Ep f j d) ?_ ?_;·simp only[dL,simprocAttr]<;>rfl)|apply p7 rfl rfl
 all_goals exact aj (ar V.bool (by simp_all))
def ox(a:ID):Nat->List aK->Option Nat
 |_,[]=>none
 |j,p::r=>if p.id=a then some j else ox a (j+1) r
def EC:Option Nat->Int
 |some k=>k
 |none=> -1
def QL(l:List aK)(a:ID)(j:l.length<=1000000000):af 142 [dv l,a.v] (I (EC (ox a 0 l))):=by
 refine pk f142 ?_ [19];repeat' simp only[dq,simprocAttr]
 refine sl (λk:Nat=>k<=l.length/\ox a k (l.drop k)=ox a 0 l) (λk=>[(5,I k,false)]) (λk=>l.length-k) (0) (⟨bR,rfl⟩) ?_;rintro k ⟨o,d⟩;rcases am k l.length with f|f
 .rw[bI f,ox]at d;repeat' first|refine qu ?_|refine cs ?_ ?_<;>intro h<;>try omega|refine ba (k+1) ?_|refine lq (o7 l[k].id a) ?_|refine q1 ?_
  .exact aj (ar I (by rw[<-d,ax h];rfl))
  .rw[an h]at d;exact⟨f,d⟩
 .repeat' first|refine k9 ?_|refine cs ?_ ?_<;>intro h<;>try omega|refine q1 ?_
  rw[cT f,ox]at d;exact aj (ar I (by rw[<-d];rfl))
def lj(w:cm):Bool:=w.O.any (λv=>decide (64<v.O.length))||decide (8<w.O.length)||decide (1024< (dx w).length)
def QM(w:cm)(a:w.ok):af 143 [w.v] (B (lj w)):=by
 have d:=uC w a;obtain⟨w⟩:=w;obtain⟨f,j,o⟩:=a;simp only at f;refine pk f143 ?_;repeat' simp only[dq,simprocAttr]
 refine sl (λk:Nat=>k<=w.length/\(w.take k).any (λv=>decide (64<v.O.length))=false) (λk=>[(3,I k,false)]) (λk=>w.length-k) (0) (⟨av,rfl⟩) ?_;rintro k ⟨p,he⟩;rcases am k w.length with h1|h1
 .have q:=(j w[k] (ah h1)).1;repeat' first|refine qu ?_|refine cs ?_ ?_<;>intro h<;>try omega|refine ba (k+1) ?_|refine q1 ?_
  .exact XE
  .exact X0
 .rw[az h1]at he;repeat' first|simp only[dq,simprocAttr]|(first|refine cz ?_ ?_|refine gz ?_ ?_)<;>intro l h<;>(try simp only[l])<;>try omega|refine lq d ?_|refine q1 ?_
  .exact aj (ar V.bool (by rw[de];simp only[lj,he];simp;omega))
  .exact aj (ar V.bool (by rw[hT];simp only[lj,he];simp;omega))
def o8(l:List aK)(i:Nat):Int:=match l[i]? with
 |some p=>p.eB
 |none=>0
def oy(l:List aK)(i:Nat):Bool:=decide (o8 l i=1/\(i=0\/o8 l (i-1)=2))
def oz(l:List aK):Bool:=(List.range l.length).all λi=> !oy l i
def qk{l:List aK}{i:Nat}(h:i<l.length):o8 l i=l[i].eB:=by simp[o8,h]
def Dn{l:List aK}{n:Nat}(hn:n<l.length)(h:oy l n=true):oz l=false:=by
 unfold oz;exact Yd
def HY{l:List aK}(h:∀i,i<l.length->oy l i=false):oz l=true:=by
 unfold oz;rw[bP];intro i a;simp[h i (by simpa using a)]
def QN(l:List aK)(q:l.length<=1000000):af 146 [dv l] (B (oz l)):=by
 refine pk f146 ?_;repeat' simp only[dq,simprocAttr]
 refine sl (λk:Nat=>k<=l.length/\∀i,i<k->oy l i=false) (λk=>[(3,I k,false)]) (λk=>l.length-k) (0) (⟨av,λi h=>av⟩) ?_;rintro k ⟨r,j⟩;rcases am k l.length with a|a
 .have step:oy l k=false->k+1<=l.length/\∀i,i<k+1->oy l i=false:=λh=>⟨av,λi o=>by
   rcases gr (hY o)with d|rfl
   .exact j i d
   .exact h⟩
  rcases cS k with rfl|t
  .repeat' first|simp(disch:=try exact om) only[dq,simprocAttr]|(first|refine cz ?_ ?_|refine gz ?_ ?_)<;>intro f h<;>(try simp only[f])<;>try omega|refine ba (0+1) ?_|refine q1 ?_
   all_goals first
    |exact step (by simp only[oy,qk a];simp;omega)
    |exact aj (ar V.bool (by rw[Dn a (by simp only[oy,qk a];simp;omega)]))
  .have p:k-1<l.length:=av;have d:(k:Int)-1=(k-1:Nat):=av;repeat' first|simp(disch:=try exact om) only[dq,simprocAttr,d]|(first|refine cz ?_ ?_|refine gz ?_ ?_)<;>intro f h<;>(try simp only[f])<;>try omega|refine ba (k+1) ?_|refine q1 ?_
   all_goals first
    |exact step (by simp only[oy,qk a,qk p];simp;omega)
    |exact aj (ar V.bool (by rw[Dn a (by simp only[oy,qk a,qk p];simp;omega)]))
 .repeat' first|refine k9 ?_|refine cs ?_ ?_<;>intro h<;>try omega|refine q1 ?_
  exact aj (ar V.bool (by rw[HY λi o=>j i av]))
def QO{w:cm}(h:w.ok){p:aK}(E:p∈dx w):p.ok:=by
 obtain⟨v,d,E⟩:=dC.1 E;obtain⟨a,f,E⟩:=dC.1 E;exact(((h.2.1 v d).2 a f).2.2 p E)
def zk(l:List aK)(i:Nat):ID:=match l[i]? with
 |some p=>p.id
 |none=>ou
def rh{l:List aK}{i:Nat}(h:i<l.length):zk l i=l[i].id:=by simp[zk,h]
def Do(l:List aK)(i:Nat):Bool:=(List.range i).any λk=>decide (zk l i=zk l k)
def CA(l:List aK):Bool:=(List.range l.length).any λi=>Do l i
def l7(v:eQ):Bool:=v.O.all λa=>p8 a.gO
def sP(v:eQ):Bool:=v.O.all λa=>oz a.O
def fy(w:cm):Int:=if lj w then 4 else if(dx w).all aK.sa=false then 1 else if w.O.all l7=false then 1 else if CA (dx w)then 7 else if w.O.all sP=false then 8 else 0
def QP{l:List aK}{i k:Nat}(a:i<l.length)(d:k<i)(h:zk l i=zk l k):CA l=true:=by
 unfold CA;rw[gu];exact⟨i,by simpa using a,by unfold Do;rw[gu];exact⟨k,by simpa using d,by simp[h]⟩⟩
def UZ{l:List aK}(h:∀i,i<l.length->∀k,k<i->zk l i≠zk l k):CA l=false:=by
 unfold CA;rw[mO];intro i a;unfold Do;rw[gu];rintro⟨k,d,e⟩;exact h i (by simpa using a) k (by simpa using d) (by simpa using e)
def xb(w:cm)(q:w.ok):af 102 [w.v] (I (fy w)):=by
 have z:=uC w q;have y:=QM w q;have E:=@QO w q;have hlen:=q.2.2;have Q:lj w=true->fy w=4:=λh=>by simp only[fy];rw[ax h]
 have ab:lj w=false->(dx w).all aK.sa=false->fy w=1:=λh h1=>by simp only[fy];rw[an (by simp[h]),ax h1]
 have D:lj w=false->(dx w).all aK.sa=true->w.O.all l7=false->fy w=1:=λh h1 d=>by simp only[fy];rw[an (by simp[h]),an (by simp[h1]),ax d]
 have H:lj w=false->(dx w).all aK.sa=true->w.O.all l7=true->CA (dx w)=true->fy w=7:=λh h1 d f=>by simp only[fy];rw[an (by simp[h]),an (by simp[h1]),an (by simp[d]),ax f]
 have K:lj w=false->(dx w).all aK.sa=true->w.O.all l7=true->CA (dx w)=false->fy w=if w.O.all sP=true then 0 else 8:=λh h1 d f=>by
  simp only[fy];rw[an (by simp[h]),an (by simp[h1]),an (by simp[d]),an (by simp[f])];cases w.O.all sP<;>rfl
 obtain⟨w⟩:=w;obtain⟨ac,ad,aB⟩:=q;simp only at ac D H K;generalize fy ⟨w⟩=R at*
 generalize dx ⟨w⟩=l at*
 generalize lj ⟨w⟩=L at*
 refine pk f102 ?_;repeat' first|refine k9 ?_|refine cs ?_ ?_<;>intro h|refine lq y ?_|refine lq z ?_|refine q1 ?_
 .exact aj (ar I (by rw[Q h]))
 refine sl (λk:Nat=>k<=l.length/\(l.take k).all aK.sa=true) (λk=>[(4,I k,false)]) (λk=>l.length-k) (0) (⟨av,rfl⟩) ?_;rintro k ⟨N,he⟩;rcases am k l.length with h1|h1
 .have d:=E (ah h1);repeat' first|refine qu ?_|refine cs ?_ ?_<;>intro h<;>try omega|refine ba (k+1) ?_|refine lq (QE l[k] d) ?_|refine q1 ?_
  .exact aj (ar I (by rw[ab (by assumption) (by rw[eD];exact⟨_,ah h1,by simp[h]⟩)]))
  .exact aaM
 rw[az h1]at he;repeat any_goals first|simp only[dq,simprocAttr]|refine cs ?_ ?_<;>intro h<;>try omega
 refine sl (λk:Nat=>k<=w.length/\(w.take k).all l7=true) (λk=>[(6,I k,false),(5,B ((w.take k).all sP),false)]) (λk=>w.length-k) (0) (⟨av,rfl⟩) ?_;rintro k ⟨N,o⟩;rcases am k w.length with h1|h1
 .have d:=ad w[k] (ah h1);have f:=d.1;repeat any_goals first|simp only[dq,simprocAttr]|refine cs ?_ ?_<;>intro h<;>try omega
  refine sl (λj:Nat=>j<=w[k].O.length/\(w[k].O.take j).all (λa=>p8 a.gO)=true) (λj=>[(7,I j,false),(5,B ((w.take k).all sP&&(w[k].O.take j).all λa=>oz a.O),false)]) (λj=>w[k].O.length-j) (0) (⟨av,rfl⟩) ?_;rintro j ⟨ai,Hb⟩;rcases am j w[k].O.length with h4|h4
  .have r:=d.2 w[k].O[j] (ah h4);repeat any_goals first|simp(disch:=try exact om) only[dq,simprocAttr]|(first|refine bY ?_ ?_|refine cY ?_ ?_)<;>intro h<;>(try simp only[bO]at h)<;>(try simp only[h])<;>(try simp only[jc]at h)<;>try omega|(refine⟨j+1,⟨?_⟩,⟨av⟩,?_⟩;rotate_left;focus (simp only[fQ,fM,bK];and_intros;all_goals(try(simp only[mS,simprocAttr]));all_goals(try(first|(intro h;cases h;done)|(refine aj (ar I ?_);omega)))))|refine lq (QD w[k].O[j].gO r.1) ?_|refine lq (QN w[k].O[j].O r.2.1) ?_|apply p7 rfl rfl
   .exact aj (ar I (by
     rw[D (by assumption) (by assumption) (by
      rw[eD];refine⟨_,ah h1,?_⟩;rw[gv];unfold l7;rw[eD];exact⟨_,ah h4,by simp[h]⟩)]))
   .exact aj (ar V.bool (by rw[bj h4,fm,<-mE,h];simp))
   .exact⟨h4,by rw[bj h4,fm,Hb];simpa⟩
   .exact aj (ar V.bool (by rw[bj h4,fm,<-mE,h];simp))
   .exact aaQ
  .repeat' first|refine qu ?_|refine cs ?_ ?_<;>intro h<;>try omega|(refine⟨k+1,⟨?_⟩,⟨av⟩,?_⟩;rotate_left;focus (simp only[fQ,fM,bK];and_intros;all_goals(try(simp only[mS]));all_goals(try(first|(intro h;cases h;done)|(refine aj (ar I ?_);omega)))))
   .exact aj (ar V.bool (by rw[az h4,bj h1,fm];simp[sP]))
   .rw[az h4]at Hb;exact⟨h1,by rw[bj h1,fm,o];simpa[l7]using Hb⟩
 rw[az h1]at o ⊢
 repeat' first|refine k9 ?_|refine cs ?_ ?_<;>intro h<;>try omega
 refine sl (λk:Nat=>k<=l.length/\∀i,i<k->∀j,j<i->zk l i≠zk l j) (λk=>[(8,I k,false)]) (λk=>l.length-k) (0) (⟨av,λi h=>av⟩) ?_;rintro k ⟨N,Hb⟩;rcases am k l.length with h1|h1
 .repeat' first|refine k9 ?_|refine cs ?_ ?_<;>intro h<;>try omega
  refine sl (λj:Nat=>j<=k/\∀p,p<j->zk l k≠zk l p) (λj=>[(9,I j,false)]) (λj=>k-j) (0) (⟨av,λi h=>av⟩) ?_;rintro j ⟨ai,t⟩;rcases am j k with h4|h4
  .have r:j<l.length:=av;repeat' first|refine qu ?_|refine cs ?_ ?_<;>intro h<;>try omega|refine ba (j+1) ?_|refine lq (o7 l[k].id l[j].id) ?_|refine q1 ?_
   .exact aj (ar I (by rw[H (by assumption) (by assumption) o (QP h1 h4 (by rw[rh h1,rh r];exact h))]))
   .refine⟨h4,λp u=>?_⟩;rcases gr (hY u)with f|rfl
    .exact t p f
    .rw[rh h1,rh r];exact h
  .repeat' first|simp(disch:=omega) only[dq,simprocAttr]|refine cs ?_ ?_<;>intro h<;>try omega|refine ba (k+1) ?_
   .refine⟨h1,λi P=>?_⟩;rcases gr (hY P)with f|rfl
    .exact Hb i f
    .exact λp u=>t p av
 .have aA:=UZ λi P=>Hb i av;repeat' first|refine k9 ?_|refine cs ?_ ?_<;>intro h<;>try omega|refine q1 ?_
  all_goals exact aj (ar I (by rw[K (by assumption) (by assumption) o aA,h];rfl))
def Op.ok(o:Op):Prop:=o.bW.length<=1000000/\o.F.length<=1000000/\(∀t∈o.F,t.length<=1000000)/\o.cX.length<=1000000/\o.C.length<=1000000
def Post.ok(p:Post):Prop:=p.path.length<=1000000/\∀t∈p.path,t.length<=1000000
def hG.ok(t:hG):Prop:=t.name.length<=1000000/\t.see.length<=1000000/\t.eH.length<=1000000/\∀x∈t.eH,x.length<=1000000
def aV.ok(e:aV):Prop:=e.C.length<=1000000/\e.op.ok/\e.dy.ok/\e.cU.length<=1000000/\∀p∈e.cU,p.ok
def PB{a b:Int×Int}:a=b↔a.1=b.1/\a.2=b.2:=by cases a;cases b;simp
def QQ(a b:List (Int×Int))(f:a.length<=1000000000):af 175 [jw a,jw b] (B (decide (a=b))):=by
 refine pk f175 ?_;repeat' first|refine k9 ?_|refine cs ?_ ?_<;>intro h|refine q1 ?_
 .exact Fi
 have d:a.length=b.length:=av;refine sl (λk:Nat=>k<=a.length/\a.take k=b.take k) (λk=>[(5,I k,false)]) (λk=>a.length-k) (0) (⟨bR,bR⟩) ?_;exact X2
def Jq(a b:Op)(r:a.ok):af 120 [a.v,b.v] (B (decide (a=b))):=by
 obtain⟨P,t,u,⟨Q,R,c3⟩,ab,ac,ad,ai,y,d,f⟩:=a;obtain⟨aA,z,D,⟨aB,aC,aD⟩,a0,a1,a2,a3,H,j,l⟩:=b;obtain⟨K,o,L,p,q⟩:=r;simp only at K o L p q;simp only[Op.v,Op.c];refine pk f120 ?_;repeat' first|simp only[dq,simprocAttr]|(first|refine cz ?_ ?_|refine gz ?_ ?_)<;>intro N h<;>try simp only[N]|refine lq (o7 t z) ?_|refine lq (o7 u D) ?_|refine lq (Ep y H (aQ o dt)) ?_|refine lq (QQ d j (aQ p dt)) ?_|refine lq (Jn f l (aQ q dt)) ?_|refine q1 ?_
 all_goals exact aj (ar V.bool (by simp_all))
def iV(s:T):Bool:=decide (s.length<=24)&&g3 s==0&&s.all λb=>b.toNat !=64
def Y2:CF GL f135 [] [] 135:=ji
def vE(w:cm)(v a:Nat):Option ee:=(w.O[v]?).bind λx=>x.O[a]?
def k5(w:cm)(s:fW):Bool:=decide (0<=s.i9/\0<=s.k3)&&(vE w s.i9.toNat s.k3.toNat).isSome
def Jr(w:cm)(s:fW)(f:w.ok):af 242 [w.v,s.v] (B (k5 w s)):=by
 obtain⟨w⟩:=w;obtain⟨j,q,r⟩:=f;simp only at j;refine pk f242 ?_;repeat' first|refine qu ?_|refine gz ?_ ?_<;>intro l h<;>try simp only[l]|refine q1 ?_
 .have o:s.i9.toNat<w.length:=av;refine aj (ar V.bool ?_);simp only[k5,vE,aa o,gw];rcases am s.k3.toNat w[s.i9.toNat].O.length with a|a
  .rw[aa a];have p:(0<=s.i9/\0<=s.k3):=av;have d:s.k3<w[s.i9.toNat].O.length:=av;simp[p,d]
  .rw[b0 a];have d:¬s.k3<w[s.i9.toNat].O.length:=av;simp[d]
 .exact aj (ar V.bool (by simp[k5];omega))
 .exact aj (ar V.bool (by rw[hT];simp only[k5,vE,b0 (show w.length<=s.i9.toNat by omega)];simp))
 .exact aj (ar V.bool (by simp[k5];omega))
def qa(w:cm)(v a:Nat)(s:fW)(j:v<w.O.length)(l:a<w.O[v].O.length)(d:s.i9=v)(f:s.k3=a):af 135 [w.v,s.v] (dv w.O[v].O[a].O):=by
 obtain⟨w⟩:=w;obtain⟨o,p,q⟩:=s;simp only at d f j l;subst d f;refine pk f135 ?_;repeat' first|refine qu ?_|refine q1 ?_
 exact .refl _
def kG(s:T)(n:Nat):List Int:=((List.range n).filter λi=>decide (1<=i)&&lC (cq s) i).map λi:Nat=>(i:Int)
def xc(s:T)(n:Nat):kG s (n+1)=if 1<=n/\lC (cq s) n=true then kG s n++[(n:Int)]else kG s n:=by
 unfold kG;rw[dE,gq];by_cases h:1<=n/\lC (cq s) n=true
 .simp[h]
 .rw[an h];simp[h]
def yM(s:T)(n:Nat):(kG s n).length<=n:=by
 unfold kG;rw[aq];exact aQ (gS _ _) bR
def QR(s:T)(p:s.length<=10000):af 136 [S s] (fx (kG s (cq s).length)) true:=by
 have q:(cq s).length<=s.length:=lJ s _;have c:=sM s av;refine pk f136 ?_ [21];repeat' first|refine k9 ?_|refine lq c ?_
 refine sl (λk:Nat=>1<=k/\(k<=(cq s).length\/k=1)) (λk=>[(5,I k,false),(4,fx (kG s k),true)]) (λk=>(cq s).length-k) (1) (⟨av,av⟩) ?_;rintro k ⟨l,f⟩;rcases am k (cq s).length with a|a
 .have o:=Es (cq s) k a av;have r:=yM s k;repeat' first|refine qu ?_|refine cs ?_ ?_<;>intro h<;>try omega|(refine⟨k+1,⟨?_⟩,⟨av⟩,?_⟩;rotate_left;focus (simp only[ft,simprocAttr];and_intros<;>try first|exact .aP _|omega))|refine lq o ?_|refine ec ?_
  .exact aj (by rw[xc,ax ⟨l,h⟩];simp)
  .omega
  .exact aj (by rw[xc,an (by simp[h])])
  .omega
 .repeat' first|refine k9 ?_|refine cs ?_ ?_<;>intro h<;>try omega|apply rN rfl rfl rfl
  refine aj ?_;rcases f with d|d
  .rw[Nat.le_antisymm d a]
  .subst d;rcases cS (cq s).length with j|j
   .rw[j];rfl
   .rw[show(cq s).length=1 by omega]
def ql(n a:Int)(h:0<a):0<=iU n a/\iU n a<a:=by
 unfold iU;split
 .exact⟨nW _ av,mh _ h⟩
 .exact⟨nW _ av,mh _ h⟩
def Dp(w:cm)(n:Int):ID:=((dx w)[(iU n ((dx w).length+1)).toNat]?).elim ou aK.id
def ED(w:cm)(n:Int)(a:w.ok)(f:jv n):af 138 [w.v,I n] (Dp w n).v:=by
 have c:=uC w a;have d:=A9 n ((dx w).length+1) f av;have p:=a.2.2;unfold Dp;generalize dx w=l at*
 obtain⟨w⟩:=w;refine pk f138 ?_;have q:=ql n (l.length+1) av;rcases fw (iU n (l.length+1)) l.length with j|j
 .have o:(iU n (l.length+1)).toNat<l.length:=av;rw[aa o];repeat' first|refine qu ?_|refine cs ?_ ?_<;>intro h<;>try omega|refine lq c ?_|refine lq d ?_|(refine al nE ?_;refine tO ev rfl ?_)
  exact .refl _
 .rw[b0 (show l.length<=(iU n (l.length+1)).toNat by omega)];repeat' first|simp(disch:=omega) only[dq,simprocAttr]|refine cs ?_ ?_<;>intro h<;>try omega|refine lq c ?_|refine lq d ?_|refine lq EA ?_|(refine al nE ?_;refine tO ev rfl ?_)
  exact .refl _
def k6(b:Name)(k:Int)(gW:aK)(t:T)(C:List ID):aK:=⟨⟨b.J,b.seq,k⟩,gW.eB,gW.eh,t,C⟩
def xd(b:Name)(k:Int)(gW:aK)(t:T)(C:List ID)(a:C.length<=1000000):af 244 [b.v,I k,gW.v,S t,eZ C] (k6 b k gW t C).v:=by
 refine pk f244 ?_;repeat' first|refine qu ?_|(refine al nE ?_;refine tO ev rfl ?_)
 all_goals exact .refl _
def RP(_:aJ)(v:V)(p:aK)(X:List Nat):Prop:=v=p.v/\X=[]
def RA(h:aJ)(v:V)(a:ee)(X:List Nat):Prop:=∃d,v=.agg [S a.gO,d]/\b9 7 RP h d a.O X
def RV(h:aJ)(v:V)(x:eQ)(X:List Nat):Prop:=∃a,v=.agg [a]/\b9 2 RA h a x.O X
def RW(h:aJ)(v:V)(w:cm)(X:List Nat):Prop:=∃a,v=.agg [a]/\b9 1 RV h a w.O X
def K7:lV RP:=by rintro h j v a X ⟨d,f⟩ _ _;exact⟨d,f⟩
def x4:lV RA:=by rintro h p v a X ⟨d,f,j⟩ l o;exact⟨d,f,b9.qN K7 _ _ _ _ _ j l o⟩
def vt:lV RV:=by rintro h p v a X ⟨d,f,j⟩ l o;exact⟨d,f,b9.qN x4 _ _ _ _ _ j l o⟩
def Y3:lV RW:=by rintro h p v a X ⟨d,f,j⟩ l o;exact⟨d,f,b9.qN vt _ _ _ _ _ j l o⟩
def NL:Jh RP:=by rintro h v a X ⟨f,rfl⟩ i d;cases d
def wb:Jh RA:=by rintro h v a X ⟨f,j,d⟩;exact b9.vr NL _ _ _ _ d
def qb:Jh RV:=by rintro h v a X ⟨f,j,d⟩;exact b9.vr wb _ _ _ _ d
def U0:Jh RW:=by rintro h v a X ⟨f,j,d⟩;exact b9.vr qb _ _ _ _ d
def aa7:K3 7 RP aK.v:=by
 exact XJ
def Y4:CF GL f241 [72,78,84] [] 241:=ji
def EE(w:cm)(dp:w.ok):aI 241 [w.v] aJ.bare λv _ E=>∃X,RW E v w X/\X.Nodup:=by
 obtain⟨w⟩:=w;obtain⟨ds,bs,eb⟩:=dp;simp only at ds;refine bq Y4.ok rfl ?_;repeat' simp only[dq,simprocAttr]
 refine dQ rfl rfl (λ(n:Nat) t=>n<=w.length/\t.Z 4=I n/\t.G 1=1/\t.loc 1 0=[cd w]/\t.G 2=1/\t.loc 2 0=[.aP]/\t.G 3=1/\∃p X,t.loc 3 0=[p]/\b9 1 RV t.E p (w.take n) X/\X.Nodup) (λn=>w.length-n) 0 ?_ ?_
 .exact⟨aL _,rfl,rfl,rfl,rfl,rfl,rfl,.aP,[],rfl,b9.nil,jP⟩
 rintro n t ⟨ed,bu,a6,a7,a8,a9,bv,p,X,bU,T1,b2⟩ bi;have b3:t.Z 1=.A 1 0 0:=by rw[bi 1 dt];rfl
 have b5:t.Z 2=.A 2 0 0:=by rw[bi 2 dt];rfl
 have dF:t.Z 3=.A 3 0 0:=by rw[bi 3 dt];rfl
 rcases am n w.length with R|R
 .repeat' first|simp only[dq,simprocAttr,bu,a6,a7,b3]|refine cs ?_ ?_<;>intro h<;>try omega
  refine dQ rfl rfl (λ(m:Nat) u=>m<=w[n].O.length/\u.Z 6=I m/\u.G 1=1/\u.loc 1 0=[cd w]/\u.G 2=1/\u.loc 2 0=[.aP]/\u.G 3=1/\u.loc 3 0=[p]/\b9 1 RV u.E p (w.take n) X/\
   t.G 5<u.G 5/\∃z d,u.loc 5 (t.G 5)=[z]/\b9 2 RA u.E z (w[n].O.take m) d/\(X++d).Nodup) (λm=>w[n].O.length-m) 0 ?_ ?_
  .simp only[da,a6,a7,a8,a9,bv,bU,↓reduceIte,Nat.reduceEqDiff,oU];exact⟨rfl,T1,V.aP,[],rfl,b9.nil,by simpa using b2⟩
  rintro m u ⟨el,b6,aD,m4,m5,m6,a0,a1,ac,b7,z,d,m10,a2,ca⟩ D;have et:=(bs w[n] (ah R)).1;have cb:u.Z 1=.A 1 0 0:=(D 1 dt).trans sT;have eN:u.Z 2=.A 2 0 0:=(D 2 dt).trans sT;have cc:u.Z 3=.A 3 0 0:=(D 3 dt).trans sT;have bo:u.Z 4=I n:=(D 4 dt).trans sT;have dU:u.Z 5=.A 5 (t.G 5) 0:=(D 5 dt).trans sT;rcases am m w[n].O.length with hm|hm
  .repeat' first|simp(disch:=try exact om) only[dq,simprocAttr,b6,aD,m4,cb,bo]|refine cs ?_ ?_<;>intro h<;>try omega
   refine dQ rfl rfl (λ(j:Nat) y=>j<=w[n].O[m].O.length/\y.Z 9=I j/\y.G 1=1/\y.loc 1 0=[cd w]/\y.G 2=1/\y.loc 2 0=[.aP]/\y.G 3=1/\y.loc 3 0=[p]/\b9 1 RV y.E p (w.take n) X/\
    t.G 5<y.G 5/\y.loc 5 (t.G 5)=[z]/\b9 2 RA y.E z (w[n].O.take m) d/\u.G 7<y.G 7/\∃ab q,y.loc 7 (u.G 7)=[S w[n].O[m].gO,ab]/\b9 7 RP y.E ab (w[n].O[m].O.take j) q/\((X++d)++q).Nodup) (λj=>w[n].O[m].O.length-j) 0 ?_ ?_
   .simp only[da,aD,m4,m5,m6,a0,a1,b7,m10,↓reduceIte,Nat.reduceEqDiff,oU];exact⟨rfl,ac,a2,V.aP,[],rfl,b9.nil,by simpa using ca⟩
   rintro j y ⟨e1,br,ch,ci,cp,c1,c2,c5,r,a3,K,L,N,ab,q,P,ad,H⟩ f;have c6:=(bs w[n] (ah R)).2 _ (ah hm);have e2:=c6.2.1;have e3:y.Z 1=.A 1 0 0:=(f 1 dt).trans sT;have e4:y.Z 2=.A 2 0 0:=(f 2 dt).trans sT;have e5:y.Z 3=.A 3 0 0:=(f 3 dt).trans sT;have e6:y.Z 4=I n:=(f 4 dt).trans sT;have c7:y.Z 5=.A 5 (t.G 5) 0:=(f 5 dt).trans sT;have ea:y.Z 6=I m:=(f 6 dt).trans sT;have y7:y.Z 7=.A 7 (u.G 7) 0:=(f 7 dt).trans sT;have c9:y.Z 8=dv w[n].O[m].O:=(f 8 dt).trans sT;rcases am j w[n].O[m].O.length with ai|ai
   .have e7:=(c6.2.2 _ (ah ai)).2;have o3:=ad.one;repeat' first|simp(disch:=try exact om) only[dq,simprocAttr,br,N,P,y7,c9]|refine cs ?_ ?_<;>intro h<;>try omega
    refine o5 (e:=aK.v w[n].O[m].O[j]) (fD:=y.E) (v0:=ab) K7 NL ?_ ?_ ?_ ad rfl ⟨rfl,rfl⟩ (by simpa using (aU.1 H).2.1) rfl (by rw[aF];omega) λv a5 l g1 aA a4 g4 g5=>?_
    .exact sT
    .exact sT
    .exact sT
    obtain⟨aB,dd⟩:=g1.cells;have aC:=g1.one;repeat' simp(disch:=omega) only[gE,simprocAttr,br,N,P,y7,aB,aC]
    refine⟨j+1,⟨?_⟩,⟨av⟩⟩;have Q:=aU.1 H;simp only[da,simprocAttr,ch,ci,cp,c1,c2,c5,a3,K,N,P];refine⟨ai,rfl,rfl,b9.same vt qb r g4 λi o e=>Q.2.2 i (ck _ o) i (g5 i e) rfl,b9.same x4 wb L g4 λi o e=>Q.2.2 i (aY _ o) i (g5 i e) rfl,v,l,rfl,by rw[bj ai];exact g1,?_⟩;refine sN (C:=[]) (by simpa using H) aA (n:=y.E.Y) (λi o=>?_) a4;rcases aR.1 o with o|o
    .exact b9.vr qb _ _ _ _ r i o
    .exact b9.vr wb _ _ _ _ L i o
   .have o3:=ad.one;have o2:=L.one;repeat' first|simp only[dq,simprocAttr,br,a3,K,N,P,c7,y7,c9,o3]|refine cs ?_ ?_<;>intro h<;>try omega
    rw[az ai]at ad;refine o5 (e:=.agg [S w[n].O[m].gO,ab]) (fD:=y.E) (v0:=z) (a:=w[n].O[m]) (js:=q) x4 wb ?_ ?_ ?_ L ?_ ⟨ab,rfl,ad⟩ (by rw[aG]at H;exact(aU.1 H).2.1) rfl (by rw[aF];omega) λv a5 l g1 aA a4 g4 g5=>?_
    .exact sT
    .exact sT
    .exact sT
    .exact SX
    obtain⟨aB,dd⟩:=g1.cells;have aC:=g1.one;repeat' simp(disch:=omega) only[gE,simprocAttr,a3,K,c7,ea,aB,aC]
    refine⟨m+1,⟨?_⟩,⟨av⟩⟩;simp only[da,simprocAttr,ch,ci,cp,c1,c2,c5,a3,K];rw[aG]at H;have Q:=aU.1 H;refine⟨hm,rfl,rfl,b9.same vt qb r g4 λi o e=>Q.2.2 i o i (ck _ (g5 i e)) rfl,v,l,rfl,by rw[bj hm];exact g1,?_⟩;exact sN H aA (n:=y.E.Y) (b9.vr qb _ _ _ _ r) a4
  .have o2:=a2.one;have dg:=ac.one;repeat' first|simp(disch:=try exact om) only[dq,simprocAttr,b6,aD,m4,a0,a1,b7,m10,cb,cc,bo,dU,o2]|refine cs ?_ ?_<;>intro h<;>try omega
   rw[az hm]at a2;refine o5 (e:=.agg [z]) (fD:=u.E) (v0:=p) (a:=w[n]) (js:=d) vt qb ?_ ?_ ?_ ac ?_ ⟨z,rfl,a2⟩ ca rfl (by rw[aF];omega) λv a5 l g1 aA a4 g4 g5=>?_
   .exact sT
   .exact sT
   .exact sT
   .exact SY
   obtain⟨aB,dd⟩:=g1.cells;have aC:=g1.one;repeat' simp(disch:=omega) only[gE,simprocAttr,a0,a1,cc,bo,aB,aC]
   refine⟨n+1,⟨?_⟩,⟨av⟩⟩;simp only[da,simprocAttr,aD,m4,m5,m6,a0,a1];exact⟨R,rfl,rfl,v,l,rfl,by rw[bj R];exact g1,aA⟩
 .have dg:=T1.one;repeat' first|simp only[dq,simprocAttr,bu,a6,a7,a8,a9,bv,bU,b3,b5,dF,dg]|refine cs ?_ ?_<;>intro h<;>try omega
  rw[az R]at T1;refine⟨nE,.agg [p],false,eA (by simp only[dL,simprocAttr,b5,a8,a9]<;>rfl) rfl,X,⟨p,rfl,?_⟩,b2⟩;simp only[da];exact T1
def QS(a b:List aK)(j:a.length<=1000000000)(d:∀p∈a,p.ok):af 117 [dv a,dv b] (B (decide (a=b))):=by
 refine pk f117 ?_;repeat' first|refine k9 ?_|refine cs ?_ ?_<;>intro h|refine q1 ?_
 .exact Fi
 have f:a.length=b.length:=av;refine sl (λk:Nat=>k<=a.length/\a.take k=b.take k) (λk=>[(5,I k,false)]) (λk=>a.length-k) (0) (⟨bR,bR⟩) ?_;rintro k ⟨l,he⟩;rcases am k a.length with h1|h1
 .have h2:k<b.length:=av;repeat' first|refine qu ?_|refine cs ?_ ?_<;>intro h<;>try omega|refine ba (k+1) ?_|(refine iR (Qy a[k] b[k] (aQ (d _ (ah h1)).2 dt)) ?_ ?_;·refine nG ?_;simp only[dL]<;>rfl)|refine q1 ?_
  .exact G6
  .exact Mj
 .exact V5
def lf(l:List ID):List Int:=l.flatMap λa=>[a.J,a.seq,a.k]
def sc(l:List ID):(lf l).length=3*l.length:=by
 induction l with
 |nil=>rfl
 |cons a r ih=>simp only[lf,cf,ae,aM,aT]at ih ⊢;omega
def Tr:CF GL f251 [] [] 251:=ji
def Dq(w:cm)(s:fW):Option aK:=
 if s.i9<0\/s.k3<0\/s.idx<0 then none else match w.O[s.i9.toNat]? with
  |some v=>match v.O[s.k3.toNat]? with
   |some a=>a.O[s.idx.toNat]?
   |none=>none
  |none=>none
def h8:aK:=⟨⟨0,0,0⟩,0,0,[],[]⟩
def ss{cs ds:List V}(h:aN cs ds):V.Le (.agg cs) (.agg ds):=.agg cs ds h.1 h.2
def kX:V.Le (.agg [I 0,I 0,I 0,I 0,I 0,S [],.aP]) h8.v:=
 ss (.cons (.refl _) (.cons (.refl _) (.cons (.refl _) (.cons (.refl _) (.cons (.refl _) (.cons (.refl _) (.cons (.aP _) .nil)))))))
def Js(w:cm)(s:fW)(r:w.ok):af 251 [w.v,s.v] (.hE [((Dq w s).getD h8).v,B (Dq w s).isSome]):=by
 obtain⟨w⟩:=w;obtain⟨t,q,y⟩:=r;obtain⟨a,b,c⟩:=s;simp only at t;have no:Dq ⟨w⟩ ⟨a,b,c⟩=none\/∃p,Dq ⟨w⟩ ⟨a,b,c⟩=some p:=by cases Dq ⟨w⟩ ⟨a,b,c⟩<;>simp
 have key:Dq ⟨w⟩ ⟨a,b,c⟩=if a<0\/b<0\/c<0 then none else match w[a.toNat]? with
  |some v=>match v.O[b.toNat]? with
   |some a=>a.O[c.toNat]?
   |none=>none
  |none=>none:=rfl
 generalize Dq ⟨w⟩ ⟨a,b,c⟩=R at*
 rcases fw a 0 with l|l
 .rw[ax (.inl l)]at key;subst key;simp only[fu,cL];refine pk f251 ?_;repeat' first|refine k9 ?_|refine gz ?_ ?_<;>intro u h<;>(try simp only[u])<;>try omega|(((refine rT ?_;repeat' first|exact hP.nil|refine gt ?_ ?_|refine gc ?_ ?_);(all_goals(try((apply aj;simp;done))))))
  all_goals exact kX
 obtain⟨a,rfl⟩:=fH l;rcases am a w.length with d|d
 rotate_left
 .rw[bX,b0 d,qh]at key;subst key;simp only[fu,cL];refine pk f251 ?_;exact aaJ
 have z:=(q w[a] (ah d)).1;rcases fw b 0 with hb|hb
 .rw[ax (.inr (.inl hb))]at key;subst key;simp only[fu,cL];refine pq Tr.ok rfl (by simp only[du]) ?_;repeat' first|simp(disch:=(try simp only[me]);omega) only[dq,simprocAttr]|(first|refine bY ?_ ?_|refine cY ?_ ?_)<;>intro h<;>(try simp only[bD]at h)<;>(try simp only[h])<;>(try simp only[jc]at h)<;>try omega|(refine al nE ?_;((refine Fh ?_;repeat' first|exact hP.nil|refine hP.tmp rfl rfl ?_ ?_|refine hP.cell (by simp only[dL,simprocAttr]<;>rfl) rfl ?_ ?_);(all_goals(try((apply aj;simp;done))))))
  all_goals exact kX
 obtain⟨b,rfl⟩:=fH hb;rcases am b w[a].O.length with f|f
 rotate_left
 .simp only[bX,aa d,b0 f,qh]at key;exact wb6
 have D:=((q w[a] (ah d)).2 _ (ah f)).2.1;rcases fw c 0 with o|o
 .rw[ax (.inr (.inr o))]at key;subst key;simp only[fu,cL];refine pq Tr.ok rfl (by simp only[du]) ?_;repeat' first|simp(disch:=(try simp only[me]);omega) only[dq,simprocAttr]|(first|refine bY ?_ ?_|refine cY ?_ ?_)<;>intro h<;>(try simp only[bD]at h)<;>(try simp only[h])<;>(try simp only[jc]at h)<;>try omega|(refine al nE ?_;((refine Fh ?_;repeat' first|exact hP.nil|refine hP.tmp rfl rfl ?_ ?_|refine hP.cell (by simp only[dL,simprocAttr]<;>rfl) rfl ?_ ?_);(all_goals(try((apply aj;simp;done))))))
  all_goals exact kX
 obtain⟨c,rfl⟩:=fH o;rcases am c w[a].O[b].O.length with j|j
 rotate_left
 .simp only[bX,aa d,aa f,b0 j,qh]at key;exact wb6
 simp only[bX,aa d,aa f,aa j]at key;rw[an av]at key;subst key;simp only[bf,fJ];refine pk f251 ?_;repeat' first|refine qu ?_|(first|refine cs ?_ ?_|refine gs ?_ ?_)<;>intro h<;>try omega|(((refine rT ?_;repeat' first|exact hP.nil|refine gt ?_ ?_|refine gc ?_ ?_);(all_goals(try(first|with_reducible exact .refl _|(apply aj;simp;done))))))
def nj{v:V}{cs ds:List V}(h:v=.agg cs)(a:aN cs ds):V.Le v (.agg ds):=by subst h;exact ss a
def iW:Op:=⟨0,⟨0,0,0⟩,⟨0,0,0⟩,⟨0,0,0⟩,0,0,0,[],[],[],[]⟩
def EF:hG:=⟨[],0,0,[],[]⟩
def bm{s:St}{K:St->Prop}{P:Program}{GL:ak}{d:Option Nat}{f:FuncId}{args:List eO}{a:List V}{Q:V->Bool->aJ->Prop}{r:List BI}{h0:aJ}(l:s.E=h0)(E:lI P GL f a h0 Q)(o:args.all (λx=> !(s.val x).dW)=true)(p:aN (args.map s.val) a)
 (h:∀v bL j,Q v bL j->er P GL false r ((s.ct j).ret d v bL) K):er P GL false (⟨none,d,.call f args⟩::r) s K:=by
 subst l;exact P7 E o p h
def yN(h:aJ)(sz:Nat)(v:V)(n i:Nat)(x:V):Prop:=∃id c cells rest,v=.ms sz id 0 n c/\i<n/\h.box id=some cells/\cells.drop (i*sz)=x.cells++rest/\(i+1)*sz<=cells.length
def bz{s:St}{t:Nat}{a:V}(h:s.Z t=a)(d:a.dW=false):BF.result s [.tmp t]=some (a,s.fl t):=by simp[BF.result,h,d]
def j1{cells rest cs:List V}{k j:Nat}(h:cells.drop k=cs++rest)(a:j<=cs.length):cells.drop (k+j)=cs.drop j++rest:=by
 rw[<-dG,h,i0 a]
def NM(h:aJ)(p q pv:V)(t:T)(n m v a:Nat)(s:fW)(N:yN h 1 p n v (.agg [q]))(P:yN h 2 q m a (.agg [S t,pv]))(u:s.i9=v)(y:s.k3=a)(E:pv.dW=false):
 aI 135 [.agg [p],s.v] h λr _ Q=>r=pv/\Q=h:=by
 obtain⟨aA,aB,d,l,rfl,aC,z,D,aD⟩:=N;obtain⟨H,ac,f,o,rfl,a0,K,L,a1⟩:=P;obtain⟨a2,a3,a4⟩:=s;simp only at u y;subst u y;have R:List.drop (v*1+0) d=V.ms 2 H 0 m ac::l:=j1 (j:=0) D (aL _);have ab:List.drop (a*2+1) f=pv::o:=j1 (j:=1) L (by simp[V.cells]);have ad:v*1+0<=d.length:=av;have ai:a*2+1<=f.length:=av;refine bq Y2.ok rfl ?_;repeat' simp(disch:=omega) only[gE,simprocAttr,z,K,R,ab,ad,ai]
 exact⟨nE,pv,_,bz rfl E,rfl⟩
def path{h:aJ}{r:V}{l:List eQ}{X:List Nat}(T:b9 1 RV h r l X){v a:Nat}(t:v<l.length)(u:a<l[v].O.length):
 ∃q pv d,yN h 1 r l.length v (.agg [q])/\yN h 2 q l[v].O.length a (.agg [S l[v].O[a].gO,pv])/\b9 7 RP h pv l[v].O[a].O d/\pv.dW=false/\(∀i∈d,i∈X):=by
 obtain⟨z,D,f,x,aD,o,rfl,a0,L,N,P,a1,⟨q,rfl,Q⟩,a2,R⟩:=T.get t;obtain⟨H,ac,j,y,ab,p,rfl,q1,ad,ai,aA,a3,⟨pv,rfl,K⟩,a4,aB⟩:=Q.get u;exact⟨_,pv,ab,⟨z,D,f,o,rfl,t,L,N,P⟩,⟨H,ac,j,p,rfl,u,ad,ai,aA⟩,K,K.fS,λi aC=>R i (aB i aC)⟩
def Wh(h:aJ)(v:V)(a:ee)(X:List Nat):Prop:=∃d,v=.agg [S a.gO,d]/\((d=dv a.O/\X=[])\/b9 7 RP h d a.O X)
def Y5(h:aJ)(v:V)(x:eQ)(X:List Nat):Prop:=∃a,v=.agg [a]/\b9 2 Wh h a x.O X
def RA.weak{h v a X}(T:RA h v a X):Wh h v a X:=let⟨d,f,j⟩:=T;⟨d,f,.inr j⟩
def RV.weak{h v a X}(T:RV h v a X):Y5 h v a X:=let⟨d,f,j⟩:=T;⟨d,f,j.mono λ_ _ _=>RA.weak⟩
def Ts:lV Wh:=by
 rintro h q v a X ⟨f,j,⟨d,l⟩|d⟩ o p
 .exact⟨f,j,.inl ⟨d,l⟩⟩
 .exact⟨f,j,.inr (b9.qN K7 _ _ _ _ _ d o p)⟩
def Y6:lV Y5:=by rintro h p v a X ⟨d,f,j⟩ l o;exact⟨d,f,b9.qN Ts _ _ _ _ _ j l o⟩
def Y7:K3 2 Wh ee.v:=by
 rintro h v a X fz ⟨q,rfl,f⟩ p;refine⟨rfl,λj c d l o=>?_⟩
 match j with
 |0=>cases l;cases o;exact .refl _
 |1=>
  cases l;cases o;rcases f with⟨f,_⟩|f
  .subst f;exact .refl _
  .exact b9.Tp av aa7 _ _ _ _ _ f p
 |j+2=>cases l
def Y8:K3 1 Y5 eQ.v:=by
 rintro h v a X fz ⟨q,rfl,l⟩ o;refine⟨rfl,λj c d f p=>?_⟩
 match j with
 |0=>cases f;cases p;exact b9.Tp av Y7 _ _ _ _ _ l o
 |j+1=>cases f
def Tt{h:aJ}{a:V}{l:List eQ}{X:List Nat}(T:b9 1 Y5 h a l X):V.lM (oE h X) (.agg [a]) (cm.v ⟨l⟩):=by
 refine .agg _ _ rfl λj c d f o=>?_
 match j with
 |0=>cases f;cases o;exact b9.Tp av Y8 _ _ _ _ _ T λi p=>pm p
 |j+1=>cases f
def NN{h h2:aJ}{P:V}{l:List eQ}{X:List Nat}(T:b9 1 RV h P l X)(D:X.Nodup){v a:Nat}(aD:v<l.length)(bs:a<l[v].O.length)
 {ad:V} {o:List V} {p n c:Nat} (bu:yN h 1 P l.length v (.agg [ad])) (e:ad=.ms 2 p 0 n c) (hb:h.box p=some o)
 (a0:h.Y<=h2.Y) (ai:∀j,j<h.Y->j≠p->h2.box j=h.box j) {x':V} {a':ee} (bv:jR 2 x'=true) (a1:h2.box p=some (aO o (a*2) x'.cells)) (hx:∀bU,Wh bU x' a' []):
 ∃aA,b9 1 Y5 h2 P (l.set v ⟨l[v].O.set a a'⟩) aA:=by
 have aB:=b9.vr qb _ _ _ _ T;obtain⟨b2,is,q1,b3,b5,a2,rfl⟩:=T;have y:v<b2.length:=by omega
 have r:v<is.length:=av;obtain⟨q,t,b6⟩:=a2 v _ _ _ (aa y) (aa aD) (aa r);have a3:q=ad:=by
  obtain⟨id,ci,cells,rest,u,_,f,b7,_⟩:=bu;obtain⟨a4,⟨rfl,rfl⟩|⟨id2,cp,Q,a5,c1,a6,c2,c5⟩⟩:=q1
  .cases u
  .rw[u]at a5;injection a5 with _ a7 _ _ _
   subst a7;rw[f]at a6;have z:=iv a4 y Q;rw[<-au a6,b7,t]at z;simp[V.cells]at z;exact z.1.symm
 subst a3;have a8:∀j∈(bH P).toList,j∉is.flatten:=λj d a9=>(aU.1 D).2.2 j d j a9 rfl;have ab:=(aU.1 D).2.1;obtain⟨c6,aC,ca,cb,cc,ch,R⟩:=b6;have H:p∈is[v]:=by rw[R,e];simp[bH]
 have K:∀j∈is[v],j<h.Y:=λj d=>aB j (aY _ (g8 (aa r) d));have bi:((bH q).toList++aC.flatten).Nodup:=by
  rw[<-R];have h1:=ab;rw[show is=is.take v++is[v]::is.drop (v+1)by simp]at h1;exact XU
 have bo:b9 2 Wh h2 q (l[v].O.set a a') ((bH q).toList++(aC.set a []).flatten):=by
  refine b9.set Ts ca cb cc (λi x b L t u f=>(ch i x b L t u f).weak) bs (by rw[e];rfl) bv hb a1 a0 (λk L br f j d=>?_) (hx h2);have N:j∈aC.flatten:=g8 f d;refine⟨K j (by rw[R];exact aY _ N),ai j (K j (by rw[R];exact aY _ N)) ?_⟩;rintro rfl;exact(aU.1 bi).2.2 j (by rw[e];simp[bH]) j N rfl
 refine⟨_,b9.eR Y6 q1 b3 b5 (λi x b L t u f=>(a2 i x b L t u f).weak) aD (λj d=>ai j (aB j (ck _ (by simp[d]))) ?_) a0 (λk L br f j d=>?_) (aa y) ⟨q,t,bo⟩⟩
 .rintro rfl;exact a8 j (by simp[d]) (g8 (aa r) H)
 .have ac:=aB j (aY _ (g8 f d));refine⟨ac,ai j ac ?_⟩;rintro rfl;exact o0 ab (aa r) f br j d H
def k7(w:cm)(v a:Nat)(x:ee):cm:=⟨w.O.set v ⟨((w.O.getD v ⟨[]⟩).O).set a x⟩⟩
def gV(w:cm)(v a:Nat):ee:=((w.O.getD v ⟨[]⟩).O).getD a ⟨[],[]⟩
def Y9(a b c d e:Int)(s:T)(r rest:List V):List.take 7 ([I a,I b,I c,I d,I e,S s,V.sl 3 r]++rest)=[I a,I b,I c,I d,I e,S s,V.sl 3 r]:=rfl
def ok7(a b c d e:Int)(s:T)(r:List V):([I a,I b,I c,I d,I e,S s,V.sl 3 r].length==7&&[I a,I b,I c,I d,I e,S s,V.sl 3 r].all V.one)=true:=rfl
def Jt{cells r:List V}{k:Nat}{x y z:V}(h:cells.drop k=x::y::r):aO cells k [x,z]=aO cells (k+1) [z]:=by
 have d:k<cells.length:=by
  rcases am k cells.length with a|a
  .exact a
  .rw[cT a]at h;cases h
 have e:cells[k]=x:=by
  have:=bI d;rw[h]at this;injection this with a _;exact a.symm
 simp only[aO];rw[<-e,iy]
def rE(old l:List aK)(i n k:Nat):List aK:=if k<=i then old.take k else old.take i++l++(old.drop (i+n)).take (k-(i+n))
def NO(old l:List aK)(i n k:Nat):(rE old l i n k).length<=old.length+l.length:=by
 unfold rE;split
 .rw[aF];omega
 .exact XK
def K8(old l:List aK)(i n k:Nat)(h:k<i)(a:k<old.length):rE old l i n (k+1)=rE old l i n k++[old[k]]:=by
 unfold rE;rw[ax av,ax av,bj a]
def Ju(old l:List aK)(i n:Nat):rE old l i n (i+1)=rE old l i n i++l++(old.drop (i+n)).take (1-n):=by
 unfold rE;rw[an (by omega),ax (ao _),show i+1-(i+n)=1-n by omega]
def FQ(old l:List aK)(i n:Nat)(a:0<n\/old.length<=i):rE old l i n (i+1)=rE old l i n i++l:=by
 rw[Ju];rcases a with a|a
 .rw[show 1-n=0 by omega];simp
 .rw[cT av];simp
def NP(old l:List aK)(i:Nat)(h:i<old.length):rE old l i 0 (i+1)=rE old l i 0 i++l++[old[i]]:=by
 rw[Ju,dj,bI h];rfl
def Dr(old l:List aK)(i n k:Nat)(h:i<k)(a:k<i+n\/old.length<=k):rE old l i n (k+1)=rE old l i n k:=by
 unfold rE;rw[an (by omega),an (by omega)];congr 1;rcases a with a|a
 .rw[show k+1-(i+n)=0 by omega,show k-(i+n)=0 by omega]
 .rw[az (by simp;omega),az (by simp;omega)]
def K9(old l:List aK)(i n k:Nat)(h:i<k)(d:i+n<=k)(a:k<old.length):rE old l i n (k+1)=rE old l i n k++[old[k]]:=by
 unfold rE;rw[an (by omega),an (by omega),show k+1-(i+n)=k-(i+n)+1 by omega,bj (by rw[aS];omega),<-aG];have e:(old.drop (i+n))[k-(i+n)]'(by rw[aS];omega)=old[k]:=by rw[mP];congr 1;omega
 rw[e]
def NQ(old l:List aK)(i n:Nat)(h:i<=old.length):rE old l i n (old.length+1)=old.take i++l++old.drop (i+n):=by
 unfold rE;rw[an av,az (l:=old.drop (i+n)) (by rw[aS];omega)]
def kP(w:cm)(v a i n:Nat)(l:List aK):cm:=k7 w v a ⟨(gV w v a).gO,(gV w v a).O.take i++l++(gV w v a).O.drop (i+n)⟩
def Za:CF GL f245 [] [1,2] 245:=ji
def sQ(w:cm)(N:w.ok)(v a i n:Nat)(r:v<w.O.length)(u:a<w.O[v].O.length)(bv:i<=w.O[v].O[a].O.length)(dg:n<=1000000)(l:List aK)(dp:l.length<=1000000):
 af 245 [w.v,(fW.v ⟨v,a,i⟩),I n,dv l] (kP w v a i n l).v:=by
 have bU:=EE w N;have ad:=N;obtain⟨P,Q,ds⟩:=ad;refine Pure.gg (by simp only[du]) (by simp only[du]) (eU hm Za.ok (bF rfl) ?_);repeat' simp only[dq,simprocAttr]
 refine bm (h0:=aJ.bare) ?_ bU ?_ ?_ ?_
 .exact sT
 .rfl
 .refine nG ?_;simp only[dL]<;>rfl
 rintro dF bL f ⟨X,⟨b2,rfl,T⟩,D⟩;obtain⟨ai,aA,b3,R,aB,aC,b5,b6⟩:=path T r u;have b7:=NM f b2 ai aA _ _ _ v a ⟨v,a,i⟩ R aB rfl rfl b5;have ca:=T.one;have cb:=N.2.1 _ (ah r);have aD:=(cb.2 _ (ah u)).2.1;repeat' simp only[gE,simprocAttr,ca]
 refine bm (h0:=f) ?_ b7 ?_ ?_ ?_
 .exact sT
 .simp only[bN,ce,pU,bh];rfl
 .exact T3
 rintro aA cc f ⟨rfl,rfl⟩;generalize hold:w.O[v].O[a].O=old at*
 have c5:old.length<=1000000:=aD;have A:=aC.len;repeat' simp only[gE,simprocAttr]
 refine sl (λk:Nat=>k<=old.length+1) (λk=>[(12,I k,false),(11,dv (rE old l i n k),true)]) (λk=>old.length+1-k) (0) (aL _) ?_;rintro k dU;have c6:=NO old l i n k;rcases am k (old.length+1)with a0|a0
 .rcases am k old.length with h2|h2
  .obtain⟨pid,ea,p,x,eb,bs,rfl,ed,ch,g4,g5,g6,⟨rfl,rfl⟩,el,et⟩:=aC.get h2;have ab:k*7<=p.length:=av;have eN:k<old.length+1:=a0;repeat' first|simp(disch:=try exact om) only[gE,simprocAttr,A,ch,g4,ab,h2,Y9]|(first|refine cz ?_ ?_|refine gz ?_ ?_)<;>intro y h<;>(try simp only[y])<;>try omega|(refine⟨k+1,⟨?_⟩,⟨av⟩,?_⟩;rotate_left;focus (simp only[ft,simprocAttr];and_intros<;>try first|exact .aP _|omega))|refine ec ?_
   any_goals omega
   .obtain rfl:k=i:=by assumption
    obtain rfl:n=0:=av;exact aj (by rw[NP old l k h2,aE,aE];rfl)
   .obtain rfl:k=i:=by assumption
    exact aj (by rw[FQ old l k n (.inl av),aE])
   .exact aj (by rw[K9 old l i n k av av h2,aE];rfl)
   .exact aj (by rw[Dr old l i n k av (.inl av)])
   .exact aj (by rw[K8 old l i n k h h2,aE];rfl)
  .repeat' first|simp(disch:=try exact om) only[gE,simprocAttr,A]|(first|refine cz ?_ ?_|refine gz ?_ ?_)<;>intro y h<;>(try simp only[y])<;>try omega|(refine⟨k+1,⟨?_⟩,⟨av⟩,?_⟩;rotate_left;focus (simp only[ft,simprocAttr];and_intros<;>try first|exact .aP _|omega))|refine ec ?_
   any_goals omega
   .obtain rfl:k=i:=by assumption
    exact aj (by rw[FQ old l k n (.inr h2),aE])
   .exact aj (by rw[Dr old l i n k av (.inr h2)])
 .obtain rfl:k=old.length+1:=av;rw[NQ old l i n bv];obtain⟨a1,a2,o,z,P,a3,a4,a5,c7⟩:=id R;obtain⟨a6,ac,d,bu,Q,a7,a8,a9,c9⟩:=id aB;have ci:List.drop (v*1+0) o=ai::z:=j1 (j:=0) a5 (aL _);have ab:v*1+0<=o.length:=av;have e1:a*2+1<=d.length:=av;repeat' first|simp(disch:=omega) only[gE,simprocAttr,A,P,Q,a4,ci,ab,a3,a7]|refine cs ?_ ?_<;>intro h<;>try omega
  refine w5 (n:=1) (cells:=d) ?_ ?_ av λt H K L bi dd bo=>?_
  .exact sT
  .exact sT
  have tb:t.E.box=eR f.box a6 (some (aO d (a*2+1) [dv (old.take i++l++old.drop (i+n))])):=bi.trans sT;have cp:t.E.Y=f.Y:=bo.trans sT;obtain⟨q,c1⟩:=NN (h2:=t.E) T D r u R Q a8 (c8 cp.symm) (λj e2 br=>by rw[tb];exact bE _ _ br) (x':=.agg [S w.O[v].O[a].gO,dv (old.take i++l++old.drop (i+n))]) (a':=⟨w.O[v].O[a].gO,old.take i++l++old.drop (i+n)⟩) rfl
   (by rw[tb,bl];exact ar some (Jt a9).symm) (λy=>⟨_,rfl,.inl ⟨rfl,rfl⟩⟩)
  have c2:kP w v a i n l=⟨w.O.set v ⟨w.O[v].O.set a ⟨w.O[v].O[a].gO,old.take i++l++old.drop (i+n)⟩⟩⟩:=by
   simp only[kP,k7,gV,ap,aa r,aa u,bf,hold]
  rw[c2];repeat' simp only[gE,simprocAttr,H,K,L]
  exact⟨nE,.agg [V.ms 1 a1 0 w.O.length a2],false,oE t.E q,t.E.less q,_,false,eA (by simp only[dL,simprocAttr,H,K,L,bh]<;>rfl) rfl,mf _ _,by rw[<-P];exact Tt c1,λh=>(by cases h),rfl,rfl⟩
def FR{l:List ee}{a:Nat}{x:ee}:(mu (l.set a x)).length<=(mu l).length+x.O.length:=by
 induction l generalizing a with
 |nil=>simp[mu]
 |cons y r ih=>
  cases a with
  |zero=>simp only[mu,aw,cf,ae]at*;omega
  |succ a=>have:=ih (a:=a);simp only[mu,ay,cf,ae]at*;omega
def Bh{l:List eQ}{v:Nat}{y:eQ}{k:Nat}(a:v<l.length)(h:(mu y.O).length<=(mu l[v].O).length+k):(lP (l.set v y)).length<=(lP l).length+k:=by
 induction l generalizing v with
 |nil=>simp at a
 |cons z r ih=>
  cases v with
  |zero=>simp only[lP,aw,cf,ae,cw]at*;omega
  |succ v=>have:=ih (v:=v) (by simpa using a) (by simpa using h);simp only[lP,ay,cf,ae]at*;omega
def qm{w:cm}{v a:Nat}(d:v<w.O.length)(x:ee):k7 w v a x=⟨w.O.set v ⟨w.O[v].O.set a x⟩⟩:=by
 simp only[k7,ap,aa d,bf]
def fF{w:cm}{v a:Nat}(d:v<w.O.length)(f:a<w.O[v].O.length):gV w v a=w.O[v].O[a]:=by
 simp only[gV,ap,aa d,aa f,bf]
def x5{w:cm}(p:w.ok){v a:Nat}{x:ee}(f:v<w.O.length)(hx:x.ok)(h:(dx w).length+x.O.length<=1000000):(k7 w v a x).ok:=by
 obtain⟨q,o,r⟩:=p;rw[qm f];have d:=o _ (ah f);refine⟨by simpa using q,λy j=>?_,aQ (Bh f FR) h⟩;rcases cK j with j|rfl
 .exact o y j
 .refine⟨by simpa using d.1,λz l=>?_⟩;rcases cK l with l|rfl
  .exact d.2 z l
  .exact hx
def pI{w:cm}(f:w.ok){v a i n:Nat}{l:List aK}(hv:v<w.O.length)(ha:a<w.O[v].O.length)(j:∀p∈l,p.ok)(h:2*(dx w).length+l.length<=1000000):(kP w v a i n l).ok:=by
 have d:=(f.2.1 _ (ah hv)).2 _ (ah ha);have hm:w.O[v].O[a].O.length<=(dx w).length:=by
  exact Xz
 have hlen:((gV w v a).O.take i++l++(gV w v a).O.drop (i+n)).length<=(dx w).length+l.length:=by
  exact S1
 unfold kP;refine x5 f hv ⟨by rw[fF hv ha];exact d.1,by simp only;omega,λp E=>?_⟩ (by simp only;omega);simp only[fF hv ha]at E;rcases aR.1 E with E|E
 .rcases aR.1 E with E|E
  .exact d.2.2 p (eE E)
  .exact j p E
 .exact d.2.2 p (jH E)
def NR:CF GL f247 [] [] 247:=ji
def x6(w:cm)(v a:Nat)(i:Int)(p:aK):cm×Int:=if 0<=i/\i<=(gV w v a).O.length then(kP w v a i.toNat 0 [p],0)else(w,5)
def mw(r:cm×Int):V:=.hE [r.1.v,I r.2]
def Jv(w:cm)(l:w.ok)(v a:Nat)(i:Int)(p:aK)(d:v<w.O.length)(f:a<w.O[v].O.length):af 243 [w.v,fW.v ⟨v,a,i⟩,p.v] (mw (x6 w v a i p)):=by
 have c:=qa w v a ⟨v,a,i⟩ d f rfl rfl;unfold mw x6;rw[fF d f];by_cases h:0<=i/\i<=w.O[v].O[a].O.length
 .rw[ax h];obtain⟨i,rfl⟩:∃j:Nat,i=j:=⟨i.toNat,av⟩;have o:=sQ w l v a i 0 d f av av [p] bR;refine pk f243 ?_;repeat' first|refine k9 ?_|(first|refine cs ?_ ?_|refine gs ?_ ?_)<;>intro h<;>try omega|refine lq c ?_|refine lq o ?_|(((refine rT ?_;repeat' first|exact hP.nil|refine gt ?_ ?_|refine gc ?_ ?_);(all_goals(try(first|with_reducible exact .refl _|(apply aj;simp;done))))))
 .rw[an h];refine pk f243 ?_;repeat' first|refine k9 ?_|(first|refine cz ?_ ?_|refine gz ?_ ?_)<;>intro q h<;>(try simp only[q])<;>try omega|refine lq c ?_|(((refine rT ?_;repeat' first|exact hP.nil|refine gt ?_ ?_|refine gc ?_ ?_);(all_goals(try(first|with_reducible exact .refl _|(apply aj;simp;done))))))
def Bi(w:cm)(o:Op)(v a i:Nat)(p:aK):cm×Int:=if k5 w o.spot=true then x6 (kP w v a i 1 []) o.spot.i9.toNat o.spot.k3.toNat o.spot.idx p else(w,6)
def uD{w:cm}{v a i n:Nat}{l:List aK}{s:fW}(f:v<w.O.length)(h:k5 w s=true):s.i9=s.i9.toNat/\s.k3=s.k3.toNat/\∃j:s.i9.toNat< (kP w v a i n l).O.length,s.k3.toNat< ((kP w v a i n l).O[s.i9.toNat]).O.length:=by
 simp only[k5,aX,cy,vE,ml]at h;obtain⟨j,x,o⟩:=h;obtain⟨y,p,q⟩:=mK.1 o;obtain⟨r,rfl⟩:=aH.1 p;obtain⟨d,rfl⟩:=aH.1 q;refine⟨av,av,?_⟩;unfold kP;rw[qm f];refine⟨by simpa using r,?_⟩;simp only[ns];split
 next e=>subst e;simpa using d
 .exact d
def QT(w:cm)(d:w.ok)(D:(dx w).length<=10000)(o:Op)(v a i:Nat)(p:aK)(f:v<w.O.length)(j:a<w.O[v].O.length)(H:i<w.O[v].O[a].O.length):
 af 248 [w.v,o.v,fW.v ⟨v,a,i⟩,p.v] (mw (Bi w o v a i p)):=by
 have c:=Jr w o.spot d;have q:=sQ w d v a i 1 f j av av [] bR;unfold Bi;by_cases h:k5 w o.spot=true
 .rw[ax h];rw[h]at c;obtain⟨r,t,u,y⟩:=uD (a:=a) (i:=i) (n:=1) (l:=[]) f h;have c3:=Jv (kP w v a i 1 []) (pI d f j bR (by simp;omega)) _ _ o.spot.idx p u y;simp only[<-r,<-t]at c3;unfold mw at c3 ⊢
  refine pk f248 ?_;repeat' first|simp(disch:=try exact om) only[gE,simprocAttr,Op.v,Op.c]|((first|refine iR c ?_ ?_|refine iR q ?_ ?_|refine iR c3 ?_ ?_);·(repeat(first|exact aN.nil|(refine aN.cons (aj ?_) ?_;(simp only[dL]<;>rfl))|(refine aN.cons ?_ ?_;simp only[pU]<;>exact .aP _))))|(((refine rT ?_;repeat' first|exact hP.nil|refine gt ?_ ?_|refine gc ?_ ?_);(all_goals(try(first|with_reducible exact .refl _|(apply aj;simp;done))))))
  all_goals skip
  all_goals skip
 .rw[an h];have z:k5 w o.spot=false:=by simpa using h
  rw[z]at c;unfold mw;refine pk f248 ?_;repeat' first|simp only[dq,simprocAttr,Op.v,Op.c]|refine lq c ?_|(((refine rT ?_;repeat' first|exact hP.nil|refine gt ?_ ?_|refine gc ?_ ?_);(all_goals(try(first|with_reducible exact .refl _|(apply aj;simp;done))))))
def Bj(w:cm)(v a i:Nat)(b:Name):cm×Int:=
 let l:=(gV w v a).O
 match l[i]?,l[i+1]? with
 |some p,some q=>if p.eB=q.eB/\p.eh=q.eh then(kP w v a i 2 [k6 b 0 p (p.bW++32::q.bW) (p.C++q.C)],0)else(w,12)
 |_,_=>(w,6)
def QU(w:cm)(q:w.ok)(v a i:Nat)(b:Name)(d:v<w.O.length)(f:a<w.O[v].O.length)(r:i<w.O[v].O[a].O.length)
 (t:∀p∈dx w,p.C.length<=10000/\p.bW.length<=10000):
 af 247 [w.v,fW.v ⟨v,a,i⟩,b.v] (mw (Bj w v a i b)):=by
 have c:=qa w v a ⟨v,a,i⟩ d f rfl rfl;have z:=(q.2.1 _ (ah d)).2 _ (ah f);have K:=z.2.1;have j:(i:Int)+1=((i+1:Nat):Int):=rfl;have o:∀p∈w.O[v].O[a].O,p∈dx w:=λp E=>dC.2 ⟨_,ah d,dC.2 ⟨_,ah f,E⟩⟩;unfold mw Bj;rw[fF d f];simp only[aa r];rcases am (i+1) w.O[v].O[a].O.length with l|l
 .simp only[aa l];have L:=t _ (o _ (ah r));have N:=t _ (o _ (ah l));by_cases h:w.O[v].O[a].O[i].eB=w.O[v].O[a].O[i+1].eB/\w.O[v].O[a].O[i].eh=w.O[v].O[a].O[i+1].eh
  .rw[ax h];obtain⟨g1,u⟩:=h;have D:=Ql w.O[v].O[a].O[i].bW w.O[v].O[a].O[i+1].bW (by omega) (by omega);have c3:=xd b 0 w.O[v].O[a].O[i] (w.O[v].O[a].O[i].bW++32::w.O[v].O[a].O[i+1].bW) (w.O[v].O[a].O[i].C++w.O[v].O[a].O[i+1].C) (by rw[ae];omega);have c4:=sQ w q v a i 2 d f (by omega) (by omega) [k6 b 0 w.O[v].O[a].O[i] (w.O[v].O[a].O[i].bW++32::w.O[v].O[a].O[i+1].bW) (w.O[v].O[a].O[i].C++w.O[v].O[a].O[i+1].C)] (by simp);simp only[eZ,aE]at c3;have y:=tW g1;have H:=tW u;refine pq NR.ok rfl (by simp only[du]) ?_;repeat' first|simp(disch:=(try simp only[me]);omega) only[dq,simprocAttr,j]|(first|refine bY ?_ ?_|refine cY ?_ ?_)<;>intro h<;>(try simp only[bD]at h)<;>(try simp only[h])<;>(try simp only[jc]at h)<;>try omega|((first|refine iT c ?_ ?_|refine iT D ?_ ?_|refine iT c3 ?_ ?_|refine iT c4 ?_ ?_);·simp only[dL,simprocAttr]<;>rfl)|(refine al nE ?_;((refine Fh ?_;repeat' first|exact hP.nil|refine hP.tmp rfl rfl ?_ ?_|refine hP.cell (by simp only[dL,simprocAttr]<;>rfl) rfl ?_ ?_);(all_goals(try(first|with_reducible exact .refl _|(apply aj;simp;done))))))
   all_goals skip
  .rw[an h];by_cases g1:w.O[v].O[a].O[i].eB=w.O[v].O[a].O[i+1].eB
   .have u:¬w.O[v].O[a].O[i].eh=w.O[v].O[a].O[i+1].eh:=λe=>h ⟨g1,e⟩;refine pq NR.ok rfl (by simp only[du]) ?_;have y:=tW g1;repeat' first|simp(disch:=(try simp only[me]);omega) only[dq,simprocAttr,j]|(first|refine bY ?_ ?_|refine cY ?_ ?_)<;>intro h<;>(try simp only[bD]at h)<;>(try simp only[h])<;>(try simp only[jc]at h)<;>try omega|(refine iT c ?_ ?_;·simp only[dL,simprocAttr]<;>rfl)|(refine al nE ?_;((refine Fh ?_;repeat' first|exact hP.nil|refine hP.tmp rfl rfl ?_ ?_|refine hP.cell (by simp only[dL,simprocAttr]<;>rfl) rfl ?_ ?_);(all_goals(try(first|with_reducible exact .refl _|(apply aj;simp;done))))))
    all_goals skip
   .refine pq NR.ok rfl (by simp only[du]) ?_;repeat' first|simp(disch:=(try simp only[me]);omega) only[dq,simprocAttr,j]|(first|refine bY ?_ ?_|refine cY ?_ ?_)<;>intro h<;>(try simp only[bD]at h)<;>(try simp only[h])<;>(try simp only[jc]at h)<;>try omega|(refine iT c ?_ ?_;·simp only[dL,simprocAttr]<;>rfl)|(refine al nE ?_;((refine Fh ?_;repeat' first|exact hP.nil|refine hP.tmp rfl rfl ?_ ?_|refine hP.cell (by simp only[dL,simprocAttr]<;>rfl) rfl ?_ ?_);(all_goals(try(first|with_reducible exact .refl _|(apply aj;simp;done))))))
    all_goals skip
 .simp only[b0 l];refine pk f247 ?_;repeat' first|simp(disch:=omega) only[dq,simprocAttr,j]|refine cs ?_ ?_<;>intro h<;>try omega|refine lq c ?_|(((refine rT ?_;repeat' first|exact hP.nil|refine gt ?_ ?_|refine gc ?_ ?_);(all_goals(try(first|with_reducible exact .refl _|(apply aj;simp;done))))))
  all_goals skip
end Go.Bx
