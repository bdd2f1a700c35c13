/- Lemmas for HistoryBegins. -/
import Derived.Test.YtmbahmpbmcfifaaGreatDoorCe
import Derived.Test.YtmbahmpbmcfifaaGreatDoorCf
noncomputable section
set_option linter.all false
set_option maxHeartbeats 4000000
set_option maxRecDepth 100000
namespace Go.Bx
open Go.Proofs Go.Proofs.Tryz
attribute [local irreducible] vc er dq b4 bU run iw iI iW i1 iG i2 iX iq iH iZ gA iY cS
def aJ.ok(p:aJ):Prop:=p.bN.length<=1000000/\p.C.length<=1000000
def eg.ok(a:eg):Prop:=a.gR.length<=1000000/\a.O.length<=1000000/\∀p∈a.O,p.ok
def eM.ok(v:eM):Prop:=v.O.length<=1000000/\∀a∈v.O,a.ok
def mi(l:List eg):List aJ:=l.flatMap (·.O)
def lA(l:List eM):List aJ:=l.flatMap λv=>mi v.O
def dj(w:cg):List aJ:=lA w.O
def cg.ok(w:cg):Prop:=w.O.length<=1000000/\(∀v∈w.O,v.ok)/\(dj w).length<=1000000
def rL{l:List eg}{k:Nat}(h:k<l.length):mi (l.take (k+1))=mi (l.take k)++l[k].O:=by rw[br h];simp only[mi,cx,ck,je,cD]
def rK{l:List eM}{k:Nat}(h:k<l.length):lA (l.take (k+1))=lA (l.take k)++mi l[k].O:=by rw[br h];simp only[lA,cx,ck,je,cD]
def z8(l:List eg)(k:Nat):(mi (l.take k)).length<=(mi l).length:=by
 have:mi l=mi (l.take k)++mi (l.drop k):=by simp only[mi,<-cx,b8]
 rw[this,ae];omega
def Es(l:List eM)(k:Nat):(lA (l.take k)).length<=(lA l).length:=by
 have:lA l=lA (l.take k)++lA (l.drop k):=by simp only[lA,<-cx,b8]
 rw[this,ae];omega
def uI(w:cg)(p:w.ok):af 66 [w.v] (dA (dj w)) true:=by
 obtain⟨w⟩:=w;obtain⟨q,d,r⟩:=p;simp only[dj]at q d r ⊢
 refine pk f66 ?_ [36];repeat' simp only[dt,simprocAttr]
 refine sl (λk:Nat=>k<=w.length) (λk=>[(4,I k,false),(3,dA (lA (w.take k)),true)]) (λk=>w.length-k) (0) av ?_;rintro k z;rcases am k w.length with h1|h1
 .have t:=d w[k] (ah h1);have f:=rK h1;have u:=Es w (k+1);rw[f,ae]at u;repeat' first|refine k7 ?_|refine cs ?_ ?_<;>intro h<;>try omega
  refine ns (D:=[3,5,13,14,15,16,17,18,19,20,21,22,23,24,25,26,27,28,29,30,31,32,33,34,35]) (bJ:=[]) (λj:Nat=>j<=w[k].O.length) (λj=>[(5,I j,false),(3,dA (lA (w.take k)++mi (w[k].O.take j)),true)]) (λj=>w[k].O.length-j) (0) rfl rfl rfl (λ_=>rfl) (by omega) ?_ ?_ ?_;(·((simp only[ft,simprocAttr];try omega));all_goals(exact ak (by simp[mi,CX])));(·((simp only[fM];and_intros)));rintro j A;have H:=t.1;rcases am j w[k].O.length with a|a
  .have o:=rL a;have y:=z8 w[k].O (j+1);rw[o,ae]at y;repeat' first|refine qp ?_|refine cs ?_ ?_<;>intro h<;>try omega|(refine⟨j+1,⟨?_⟩,⟨av⟩,?_⟩;rotate_left;focus (simp only[ft,simprocAttr];and_intros<;>try first|exact .aP _|omega))
   .exact ak (by rw[o,<-az,aF])
   .exact a
  .repeat' first|refine qp ?_|refine cs ?_ ?_<;>intro h<;>try omega|(refine⟨k+1,⟨?_⟩,⟨av⟩,?_⟩;rotate_left;focus (simp only[ft,simprocAttr];and_intros<;>try first|exact .aP _|omega))
   .exact ak (by rw[aE (l:=w[k].O) a,f])
   .exact h1
 .exact aaU
def ID.mj(a:ID):Bool:=decide (0<=a.J/\a.J<6/\0<=a.seq/\a.seq<64/\0<=a.k/\a.k<1024)
def JH(a:ID):af 194 [a.v] (B a.mj):=by
 refine pk f194 ?_;repeat' first|simp only[dt,simprocAttr]|refine c8 ?_ ?_<;>intro h<;>(try simp only[bM]at h)<;>(try simp only[h])<;>try simp only[jg]at h|apply qD rfl rfl
 all_goals exact ak (aq V.bool (by rw[db];simp[ID.mj]<;>omega))
def oo:ID:=⟨-1,0,0⟩
def EZ:af 96 [] oo.v:=by
 refine pk f96 ?_;exact Yd
def ID.ref(a:ID):Bool:=a.mj||decide (a=oo)
def QT(a:ID):af 197 [a.v] (B a.ref):=by
 refine pk f197 ?_;repeat' first|refine k7 ?_|refine gz ?_ ?_<;>intro d h<;>try simp only[d]|refine lq (JH a) ?_|refine lq EZ ?_|refine lq (oZ a oo) ?_|refine q1 ?_
 all_goals exact ak (aq V.bool (by simp[ID.ref,h]))
def gl(s:T):Nat:=(lO 3 (cr s) (cr s).length).length
def p4(s:T):Bool:=g8 s==0&&gl s==0
def QU(s:T)(a:s.length<=1000000):af 145 [S s] (B (p4 s)):=by
 refine pk f145 ?_;repeat' first|refine k7 ?_|refine gz ?_ ?_<;>intro d h<;>try simp only[d]|refine lq (EU s a) ?_|refine lq (Am s a (sO s a)) ?_|refine q1 ?_
 .exact ak (aq V.bool (by rw[db];simp[p4,gl,h]))
 .exact ak (aq V.bool (by simp[p4,h]))
def Zj:CF GL f144 [] [] 144:=jo
def aJ.sa(p:aJ):Bool:=p.id.mj&&decide (0<=p.eD/\p.eD<=3/\0<=p.en/\p.en<=3)&&g8 p.bN==0&&gl p.bN==p.C.length&&p.C.all ID.ref
def QV(p:aJ)(a:p.ok):af 144 [p.v] (B p.sa):=by
 obtain⟨a,l⟩:=a;refine pq Zj.ok rfl (by simp only[dx]) ?_;repeat' first|simp only[dt,simprocAttr]|(first|refine bZ ?_ ?_|refine c8 ?_ ?_)<;>intro h<;>(try simp only[bB]at h)<;>(try simp only[h])<;>try simp only[jg]at h|((first|refine i0 (JH p.id) ?_ ?_|refine i0 (EU p.bN a) ?_ ?_|refine i0 (Am p.bN a (sO p.bN a)) ?_ ?_);·simp only[ee,simprocAttr]<;>rfl)|apply qD rfl rfl
 rotate_left 2;refine ns (D:=[2,3,42,43,44,45,46,47,48,49,50,51,52,53,54,55]) (bJ:=[]) (λk:Nat=>k<=p.C.length/\(p.C.take k).all ID.ref=true) (λk=>[(3,I k,false)]) (λk=>p.C.length-k) (0) rfl rfl rfl (λ_=>rfl) (⟨by omega,rfl⟩) ?_ ?_ ?_;iterate 2 ·(simp only[ft,simprocAttr];try omega)
 rintro k ⟨o,f⟩;have j:(p.id.mj&&decide (0<=p.eD/\p.eD<=3/\0<=p.en/\p.en<=3)&&g8 p.bN==0&&gl p.bN==p.C.length)=true:=by simp[gl, *]
 rcases am k p.C.length with d|d
 .repeat' first|simp(disch:=(try simp only[l4]);omega) only[dt,simprocAttr]|refine bZ ?_ ?_<;>intro h<;>(try simp only[jg]at h)<;>try omega|(refine⟨k+1,⟨?_⟩,⟨by omega⟩,?_⟩;rotate_left;focus (simp only[ft,simprocAttr];try omega))|(refine i0 (QT p.C[k]) ?_ ?_;·simp only[ee]<;>rfl)|apply qD rfl rfl
  .exact ak (aq V.bool (by
    rw[ix];simp only[aJ.sa,iy];right;rw[eG];exact⟨_,ah d,by simp[h]⟩))
  .exact⟨d,by rw[br d,fj,f];simp[h]⟩
 .repeat' first|simp only[dt,simprocAttr]|refine bZ ?_ ?_<;>intro h<;>(try simp only[jg]at h)<;>try omega|apply qD rfl rfl
  rw[aE d]at f;exact ak (aq V.bool (by simp only[aJ.sa,j,f,ku]))
 all_goals exact ak (aq V.bool (by rw[ix];simp only[aJ.sa,gl,iy,ij,kA];simp_all<;>omega))
end Go.Bx
namespace Go.Bx
open Go.Proofs Go.Proofs.Tryz
def e9{P:Program}{GL:aj}{pu:Bool}{s:St}{K:St->Prop}{i:BI}{p q:k6}(h:er P GL pu [i] s (plK P GL pu p K))(a:bU P GL pu q s K):bU P GL pu (.alt i p q) s K:=YM h a
attribute [local irreducible] vc er dq b4 bU run iw iI iW i1 iG i2 iX iq iH iZ gA iY cS
def p5(x:cI):Nat->List cI->Nat
 |k,[]=>k
 |k,y::r=>if kb y x=true then p5 x (k+1) r else k
def pM(l:List cI)(x:cI):List cI:=if l[p5 x 0 l]?=some x then l else l.take (p5 x 0 l)++x::l.drop (p5 x 0 l)
def QW(l:List cI)(x:cI)(h:l[p5 x 0 l]?=some x):pM l x=l:=by unfold pM;rw[ax h]
def QX(l:List cI)(x:cI)(h:p5 x 0 l<l.length)(a:l[p5 x 0 l]≠x):pM l x=l.take (p5 x 0 l)++x::l.drop (p5 x 0 l):=by
 unfold pM;rw[al];rw[aa h];simpa using a
def N1(l:List cI)(x:cI)(h:l.length<=p5 x 0 l):pM l x=l.take (p5 x 0 l)++x::l.drop (p5 x 0 l):=by
 unfold pM;rw[al];rw[b1 h];simp
def kF(l:List cI):List cI:=l.foldl pM []
def BH{l:List cI}{k:Nat}(h:k<l.length):kF (l.take (k+1))=pM (kF (l.take k)) l[k]:=by
 rw[br h];unfold kF;rw[de];rfl
def N2(l:List cI)(x:cI):(pM l x).length<=l.length+1:=by
 unfold pM;split
 .omega
 .simp only[ae,aM,aG,aS];omega
def sb(l:List cI):∀k,k<=l.length->(kF (l.take k)).length<=k
 |0,_=>by simp[kF]
 |k+1,h=>by
  rw[BH h];exact aT (N2 _ _) (lr (sb l k av))
def N3(l:List cI)(r:l.length<=1000000):af 61 [hE l] (hE (kF l)) true:=by
 refine pk f61 ?_ [60];repeat any_goals simp only[dt,simprocAttr]
 refine sl (λk:Nat=>k<=l.length) (λk=>[(4,I k,false),(3,hE (kF (l.take k)),true)]) (λk=>l.length-k) (0) av ?_;rintro k p;have t:=sb l k p;rcases am k l.length with h1|h1
 .have o:=BH h1;generalize hx:l[k]=x at o;generalize kF (l.take k)=c at*
  repeat any_goals first|simp only[dt,simprocAttr]|refine cs ?_ ?_<;>intro h<;>try omega
  refine Bw (D:=[3,5,12,13,14,15,16,17,18,19,20,21,22,23,24,25,26,27,28,29,30,31,32,33,34,35,36,37,38,39,40,41,42,43,44,45,46,47,48,49,50,51,52,53,54,55,56,57,58,59]) (bJ:=[]) (λ_:Unit=>True) (λ_=>[(3,hE (pM c x),true)]) rfl rfl (λ_=>rfl) ?_ rfl ?_
  .repeat any_goals simp only[dt,simprocAttr]
   refine so (bJ:=[3]) (λj:Nat=>j<=c.length/\p5 x j (c.drop j)=p5 x 0 c) (λj=>[(5,I j,false)]) (λj=>c.length-j) (0) (⟨av,rfl⟩) ?_;rintro j ⟨u,a⟩;rcases am j c.length with d|d
   .rw[bG d,p5]at a;repeat any_goals first|simp(disch:=try exact om) only[dt,simprocAttr,hx]|(first|refine bZ ?_ ?_|refine c8 ?_ ?_)<;>intro h<;>(try simp only[bM,bB]at h)<;>(try simp only[h])<;>(try simp only[jg]at h)<;>try omega|refine ba (j+1) ?_|(refine⟨(),⟨?_⟩,?_⟩;rotate_left;focus (simp only[fR,fM,bL,cK];and_intros;all_goals(try(simp only[mR,simprocAttr]));all_goals(try(first|(intro _;(simp;done))|((repeat with_reducible (first|exact Kept.refl _|refine eF ?_|refine eO ?_|refine gy ?_|refine ec ?_));done)))))|refine lq (QQ c[j] x) ?_|refine lq (NW c[j] x) ?_|refine e9 ?_ ?_
    .rw[ax h]at a;exact⟨d,a⟩
    next f _=>rw[al (by simp[f])]at a;exact ak (by rw[QX c x (a▸d) (by simp only[<-a];exact h),<-a];simp[cI.v];rw[<-gG,aE (by simp)])
    next f _=>rw[al (by simp[f])]at a;exact ak (by rw[QW c x (by rw[<-a,aa d,h])])
   .rw[cT d,p5]at a;repeat any_goals first|simp(disch:=try exact om) only[dt,simprocAttr,hx]|refine gz ?_ ?_<;>intro q h<;>(try simp only[q])<;>try omega|(refine⟨(),⟨?_⟩,?_⟩;rotate_left;focus (simp only[fR,fM,bL,cK];and_intros;all_goals(try(simp only[mR,simprocAttr]));all_goals(try(first|(intro _;(simp;done))|((repeat with_reducible (first|exact Kept.refl _|refine eF ?_|refine eO ?_|refine gy ?_|refine ec ?_));done)))))|refine e9 ?_ ?_
    exact ak (by rw[N1 c x (by omega),<-a];simp[cI.v];rw[aE (by simp),cT (by simpa using d)])
  .rintro - -
   repeat any_goals first|simp(disch:=omega) only[dt,simprocAttr]|(refine⟨k+1,⟨?_⟩,⟨by omega⟩,?_⟩;rotate_left;focus (simp only[fR,fM,bL];and_intros;all_goals(try(simp only[mR,simprocAttr]));all_goals(try(first|(intro h;cases h;done)|(intro _;(simp;done))|(refine ak (aq I ?_);omega)))))
   .exact ak (by rw[o])
   .exact h1
 .exact aaV
def Zk:CF GL f193 [] [] 193:=jo
def kr(w:cg):List cI:=kF ((dj w).map λp=>⟨p.id,p.id⟩)
def QY(w:cg)(d:w.ok):af 193 [w.v] (hE (kr w)) true:=by
 have f:=uI w d;have j:=d.2.2;unfold kr;generalize dj w=l at*
 obtain⟨w⟩:=w;refine pq Zk.ok rfl (by simp only[dx]) ?_;repeat any_goals first|simp only[dt,simprocAttr]|(refine i0 f ?_ ?_;·simp only[ee,simprocAttr]<;>rfl)
 refine ns (D:=[4,5,8,9,10,11,12,13,14,15,16,17,18,19,20,21,22,23,24,25,26,27]) (bJ:=[]) (λk:Nat=>k<=l.length) (λk=>[(5,I k,false),(4,hE ((l.take k).map λp=>⟨p.id,p.id⟩),true)]) (λk=>l.length-k) (0) rfl rfl rfl (λ_=>rfl) (by omega) ?_ ?_ ?_;iterate 2 ·(simp only[fR,fM,bL];and_intros;all_goals(try(simp only[mR,simprocAttr]));all_goals(try(first|with_reducible exact .refl _|exact .aP _|(intro h;cases h;done)|(intro _;(simp;done)))))
 rintro k o;rcases am k l.length with a|a
 .repeat any_goals first|simp(disch:=first|omega|(simp only[l4];omega)) only[dt,simprocAttr]|(refine bZ (λh=>?_) (λh=>?_))<;>((try simp only[h]);(try simp only[jg]at h);(try omega))|(refine⟨k+1,⟨?_⟩,⟨by omega⟩,?_⟩;rotate_left;focus (simp only[fR,fM,bL];and_intros;all_goals(try(simp only[mR,simprocAttr]));all_goals(try(first|(intro h;cases h;done)|(intro _;(simp;done))|(refine ak (aq I ?_);omega)))))
  .exact ak (by rw[br a,az,az];rfl)
  .exact a
 .rw[aE a];repeat any_goals first|simp only[dt,simprocAttr]|(refine bZ (λh=>?_) (λh=>?_))<;>((try simp only[h]);(try simp only[jg]at h);(try omega))|(refine i0 (N3 (l.map λp=>⟨p.id,p.id⟩) (by rw[au];exact j)) ?_ ?_;·simp only[ee,simprocAttr]<;>rfl)|apply rJ rfl rfl rfl
  exact .refl _
def E0(a b:Name):Bool:=decide (a.J<b.J\/a.J=b.J/\a.seq<b.seq)
def Name.mj(a:Name):Bool:=decide (0<=a.J/\a.J<=5/\0<=a.seq/\a.seq<=63)
def abk:CF GL f60 [] [] 60:=jo
def aW.name(e:aW):Name:=⟨e.J,e.seq⟩
def N4(e:aW):af 60 [e.v] e.name.v:=by
 refine pq abk.ok rfl (by simp only[dx]) ?_;repeat any_goals first|simp only[dt,simprocAttr]|(refine ao nE ?_;refine tS (by simp only[ee,simprocAttr]<;>rfl) rfl ?_)
 exact .refl _
def QZ{a b:Name}:a=b↔a.J=b.J/\a.seq=b.seq:=by cases a;cases b;simp
def abl:CF GL f72 [] [] 72:=jo
def Vc(a b:List Name)(o:a.length<=1000000000):af 72 [ka a,ka b] (B (decide (a=b))):=by
 refine pq abl.ok rfl (by simp only[dx]) ?_;repeat any_goals first|simp only[dt,simprocAttr]|(refine bZ (λh=>?_) (λh=>?_))<;>((try simp only[h]);(try simp only[jg]at h))|apply qD rfl rfl
 .exact ak (by
   have:a≠b:=λe=>by simp_all
   simp[this])
 have l:a.length=b.length:=by omega
 refine ns (D:=[4,5,11,12,13,14,15,16,17,18,19,20,21,22,23,24,25]) (bJ:=[]) (λk:Nat=>k<=a.length/\a.take k=b.take k) (λk=>[(5,I k,false)]) (λk=>a.length-k) (0) rfl rfl rfl (λ_=>rfl) (⟨by simp,by simp⟩) ?_ ?_ ?_;iterate 2 ·(simp only[fR,fM,bL];and_intros;all_goals(try(simp only[mR,simprocAttr]));all_goals(try(first|with_reducible exact .refl _|(intro h;cases h;done))))
 rintro k ⟨p,f⟩;rcases am k a.length with d|d
 .have j:k<b.length:=by omega
  repeat any_goals first|simp(disch:=first|omega|(simp only[l4];omega)) only[dt,simprocAttr]|(refine bZ (λh=>?_) (λh=>?_))<;>((try simp only[h]);(try simp only[jg]at h);(try omega))|(refine⟨k+1,⟨?_⟩,⟨by omega⟩,?_⟩;rotate_left;focus (simp only[fR,fM,bL];and_intros;all_goals(try(simp only[mR,simprocAttr]));all_goals(try(first|(intro h;cases h;done)|(refine ak (aq I ?_);omega)))))|apply qD rfl rfl
  .exact ak (by
    have:a≠b:=λe=>by subst e;simp_all
    simp[this])
  .exact⟨by omega,by rw[br d,br j,f,(QZ (a:=a[k]) (b:=b[k])).2 (by simpa using h)]⟩
 .repeat any_goals first|simp only[dt,simprocAttr]|(refine bZ (λh=>?_) (λh=>?_))<;>((try simp only[h]);(try simp only[jg]at h);(try omega))|apply qD rfl rfl
  exact ak (by
   have d:a.take k=a:=aE (by omega);have j:b.take k=b:=aE (by omega);rw[d,j]at f;simp[f])
def nj(a b:aW):Bool:=decide (a.eo<b.eo)||decide (a.eo=b.eo)&&E0 a.name b.name
def abm:CF GL f76 [] [] 76:=jo
def Vd(a b:gU)(d:a.eH.length<=1000000000):af 76 [a.v,b.v] (B (decide (a=b))):=by
 obtain⟨l,o,p,q,f⟩:=a;obtain⟨r,t,u,y,j⟩:=b;refine pq abm.ok rfl (by simp only[dx]) ?_;repeat any_goals first|simp only[dt,simprocAttr]|(refine c8 (λh=>?_) (λh=>?_))<;>((try simp only[bM]at h);(try simp only[h]);(try simp only[jg]at h))|(refine i0 (Jy f j d) ?_ ?_;·simp only[ee,simprocAttr]<;>rfl)|apply qD rfl rfl
 all_goals exact ak (aq V.bool (by simp_all))
def oq(a:ID):Nat->List aJ->Option Nat
 |_,[]=>none
 |j,p::r=>if p.id=a then some j else oq a (j+1) r
def E1:Option Nat->Int
 |some k=>k
 |none=> -1
def Q0(l:List aJ)(a:ID)(j:l.length<=1000000000):af 142 [dA l,a.v] (I (E1 (oq a 0 l))):=by
 refine pk f142 ?_ [19];repeat' simp only[dt,simprocAttr]
 refine sl (λk:Nat=>k<=l.length/\oq a k (l.drop k)=oq a 0 l) (λk=>[(5,I k,false)]) (λk=>l.length-k) (0) (⟨bT,rfl⟩) ?_;rintro k ⟨o,d⟩;rcases am k l.length with f|f
 .rw[bG f,oq]at d;repeat' first|refine qp ?_|refine cs ?_ ?_<;>intro h<;>try omega|refine ba (k+1) ?_|refine lq (oZ l[k].id a) ?_|refine q1 ?_
  .exact ak (aq I (by rw[<-d,ax h];rfl))
  .rw[al h]at d;exact⟨f,d⟩
 .repeat' first|refine k7 ?_|refine cs ?_ ?_<;>intro h<;>try omega|refine q1 ?_
  rw[cT f,oq]at d;exact ak (aq I (by rw[<-d];rfl))
def lf(w:cg):Bool:=w.O.any (λv=>decide (64<v.O.length))||decide (8<w.O.length)||decide (1024< (dj w).length)
def Q4(w:cg)(a:w.ok):af 143 [w.v] (B (lf w)):=by
 have d:=uI w a;obtain⟨w⟩:=w;obtain⟨f,j,o⟩:=a;simp only at f;refine pk f143 ?_;repeat' simp only[dt,simprocAttr]
 refine sl (λk:Nat=>k<=w.length/\(w.take k).any (λv=>decide (64<v.O.length))=false) (λk=>[(3,I k,false)]) (λk=>w.length-k) (0) (⟨av,rfl⟩) ?_;rintro k ⟨p,he⟩;rcases am k w.length with h1|h1
 .have q:=(j w[k] (ah h1)).1;repeat' first|refine qp ?_|refine cs ?_ ?_<;>intro h<;>try omega|refine ba (k+1) ?_|refine q1 ?_
  .exact XZ
  .exact Yl
 .rw[aE h1]at he;repeat' first|simp only[dt,simprocAttr]|(first|refine cz ?_ ?_|refine gz ?_ ?_)<;>intro l h<;>(try simp only[l])<;>try omega|refine lq d ?_|refine q1 ?_
  .exact ak (aq V.bool (by rw[db];simp only[lf,he];simp;omega))
  .exact ak (aq V.bool (by rw[ix];simp only[lf,he];simp;omega))
def o0(l:List aJ)(i:Nat):Int:=match l[i]? with
 |some p=>p.eD
 |none=>0
def ot(l:List aJ)(i:Nat):Bool:=decide (o0 l i=1/\(i=0\/o0 l (i-1)=2))
def ou(l:List aJ):Bool:=(List.range l.length).all λi=> !ot l i
def qg{l:List aJ}{i:Nat}(h:i<l.length):o0 l i=l[i].eD:=by simp[o0,h]
def DM{l:List aJ}{n:Nat}(hn:n<l.length)(h:ot l n=true):ou l=false:=by
 unfold ou;exact Yy
def Ii{l:List aJ}(h:∀i,i<l.length->ot l i=false):ou l=true:=by
 unfold ou;rw[bO];intro i a;simp[h i (by simpa using a)]
def Q5(l:List aJ)(q:l.length<=1000000):af 146 [dA l] (B (ou l)):=by
 refine pk f146 ?_;repeat' simp only[dt,simprocAttr]
 refine sl (λk:Nat=>k<=l.length/\∀i,i<k->ot l i=false) (λk=>[(3,I k,false)]) (λk=>l.length-k) (0) (⟨av,λi h=>av⟩) ?_;rintro k ⟨r,j⟩;rcases am k l.length with a|a
 .have step:ot l k=false->k+1<=l.length/\∀i,i<k+1->ot l i=false:=λh=>⟨av,λi o=>by
   rcases gr (h7 o)with d|rfl
   .exact j i d
   .exact h⟩
  rcases cZ k with rfl|t
  .repeat' first|simp(disch:=try exact om) only[dt,simprocAttr]|(first|refine cz ?_ ?_|refine gz ?_ ?_)<;>intro f h<;>(try simp only[f])<;>try omega|refine ba (0+1) ?_|refine q1 ?_
   all_goals first
    |exact step (by simp only[ot,qg a];simp;omega)
    |exact ak (aq V.bool (by rw[DM a (by simp only[ot,qg a];simp;omega)]))
  .have p:k-1<l.length:=av;have d:(k:Int)-1=(k-1:Nat):=av;repeat' first|simp(disch:=try exact om) only[dt,simprocAttr,d]|(first|refine cz ?_ ?_|refine gz ?_ ?_)<;>intro f h<;>(try simp only[f])<;>try omega|refine ba (k+1) ?_|refine q1 ?_
   all_goals first
    |exact step (by simp only[ot,qg a,qg p];simp;omega)
    |exact ak (aq V.bool (by rw[DM a (by simp only[ot,qg a,qg p];simp;omega)]))
 .repeat' first|refine k7 ?_|refine cs ?_ ?_<;>intro h<;>try omega|refine q1 ?_
  exact ak (aq V.bool (by rw[Ii λi o=>j i av]))
def Q6{w:cg}(h:w.ok){p:aJ}(E:p∈dj w):p.ok:=by
 obtain⟨v,d,E⟩:=dC.1 E;obtain⟨a,f,E⟩:=dC.1 E;exact(((h.2.1 v d).2 a f).2.2 p E)
def zS(l:List aJ)(i:Nat):ID:=match l[i]? with
 |some p=>p.id
 |none=>oo
def q7{l:List aJ}{i:Nat}(h:i<l.length):zS l i=l[i].id:=by simp[zS,h]
def DN(l:List aJ)(i:Nat):Bool:=(List.range i).any λk=>decide (zS l i=zS l k)
def C0(l:List aJ):Bool:=(List.range l.length).any λi=>DN l i
def l0(v:eM):Bool:=v.O.all λa=>p4 a.gR
def sS(v:eM):Bool:=v.O.all λa=>ou a.O
def fu(w:cg):Int:=if lf w then 4 else if(dj w).all aJ.sa=false then 1 else if w.O.all l0=false then 1 else if C0 (dj w)then 7 else if w.O.all sS=false then 8 else 0
def Q7{l:List aJ}{i k:Nat}(a:i<l.length)(d:k<i)(h:zS l i=zS l k):C0 l=true:=by
 unfold C0;rw[gv];exact⟨i,by simpa using a,by unfold DN;rw[gv];exact⟨k,by simpa using d,by simp[h]⟩⟩
def Ve{l:List aJ}(h:∀i,i<l.length->∀k,k<i->zS l i≠zS l k):C0 l=false:=by
 unfold C0;rw[mL];intro i a;unfold DN;rw[gv];rintro⟨k,d,e⟩;exact h i (by simpa using a) k (by simpa using d) (by simpa using e)
def xn(w:cg)(q:w.ok):af 102 [w.v] (I (fu w)):=by
 have z:=uI w q;have y:=Q4 w q;have E:=@Q6 w q;have hlen:=q.2.2;have P:lf w=true->fu w=4:=λh=>by simp only[fu];rw[ax h]
 have Q:lf w=false->(dj w).all aJ.sa=false->fu w=1:=λh h1=>by simp only[fu];rw[al (by simp[h]),ax h1]
 have A:lf w=false->(dj w).all aJ.sa=true->w.O.all l0=false->fu w=1:=λh h1 d=>by simp only[fu];rw[al (by simp[h]),al (by simp[h1]),ax d]
 have D:lf w=false->(dj w).all aJ.sa=true->w.O.all l0=true->C0 (dj w)=true->fu w=7:=λh h1 d f=>by simp only[fu];rw[al (by simp[h]),al (by simp[h1]),al (by simp[d]),ax f]
 have H:lf w=false->(dj w).all aJ.sa=true->w.O.all l0=true->C0 (dj w)=false->fu w=if w.O.all sS=true then 0 else 8:=λh h1 d f=>by
  simp only[fu];rw[al (by simp[h]),al (by simp[h1]),al (by simp[d]),al (by simp[f])];cases w.O.all sS<;>rfl
 obtain⟨w⟩:=w;obtain⟨ab,ac,aA⟩:=q;simp only at ab A D H;generalize fu ⟨w⟩=R at*
 generalize dj ⟨w⟩=l at*
 generalize lf ⟨w⟩=L at*
 refine pk f102 ?_;repeat' first|refine k7 ?_|refine cs ?_ ?_<;>intro h|refine lq y ?_|refine lq z ?_|refine q1 ?_
 .exact ak (aq I (by rw[P h]))
 refine sl (λk:Nat=>k<=l.length/\(l.take k).all aJ.sa=true) (λk=>[(4,I k,false)]) (λk=>l.length-k) (0) (⟨av,rfl⟩) ?_;rintro k ⟨K,he⟩;rcases am k l.length with h1|h1
 .have d:=E (ah h1);repeat' first|refine qp ?_|refine cs ?_ ?_<;>intro h<;>try omega|refine ba (k+1) ?_|refine lq (QV l[k] d) ?_|refine q1 ?_
  .exact ak (aq I (by rw[Q (by assumption) (by rw[eG];exact⟨_,ah h1,by simp[h]⟩)]))
  .exact aa2
 rw[aE h1]at he;repeat any_goals first|simp only[dt,simprocAttr]|refine cs ?_ ?_<;>intro h<;>try omega
 refine sl (λk:Nat=>k<=w.length/\(w.take k).all l0=true) (λk=>[(6,I k,false),(5,B ((w.take k).all sS),false)]) (λk=>w.length-k) (0) (⟨av,rfl⟩) ?_;rintro k ⟨K,o⟩;rcases am k w.length with h1|h1
 .have d:=ac w[k] (ah h1);have f:=d.1;repeat any_goals first|simp only[dt,simprocAttr]|refine cs ?_ ?_<;>intro h<;>try omega
  refine sl (λj:Nat=>j<=w[k].O.length/\(w[k].O.take j).all (λa=>p4 a.gR)=true) (λj=>[(7,I j,false),(5,B ((w.take k).all sS&&(w[k].O.take j).all λa=>ou a.O),false)]) (λj=>w[k].O.length-j) (0) (⟨av,rfl⟩) ?_;rintro j ⟨ad,Hy⟩;rcases am j w[k].O.length with h4|h4
  .have r:=d.2 w[k].O[j] (ah h4);repeat any_goals first|simp(disch:=try exact om) only[dt,simprocAttr]|(first|refine bZ ?_ ?_|refine c8 ?_ ?_)<;>intro h<;>(try simp only[bM]at h)<;>(try simp only[h])<;>(try simp only[jg]at h)<;>try omega|(refine⟨j+1,⟨?_⟩,⟨av⟩,?_⟩;rotate_left;focus (simp only[fR,fM,bL];and_intros;all_goals(try(simp only[mR,simprocAttr]));all_goals(try(first|(intro h;cases h;done)|(refine ak (aq I ?_);omega)))))|refine lq (QU w[k].O[j].gR r.1) ?_|refine lq (Q5 w[k].O[j].O r.2.1) ?_|apply qD rfl rfl
   .exact ak (aq I (by
     rw[A (by assumption) (by assumption) (by
      rw[eG];refine⟨_,ah h1,?_⟩;rw[gw];unfold l0;rw[eG];exact⟨_,ah h4,by simp[h]⟩)]))
   .exact ak (aq V.bool (by rw[br h4,fj,<-mz,h];simp))
   .exact⟨h4,by rw[br h4,fj,Hy];simpa⟩
   .exact ak (aq V.bool (by rw[br h4,fj,<-mz,h];simp))
   .exact aa6
  .repeat' first|refine qp ?_|refine cs ?_ ?_<;>intro h<;>try omega|(refine⟨k+1,⟨?_⟩,⟨av⟩,?_⟩;rotate_left;focus (simp only[fR,fM,bL];and_intros;all_goals(try(simp only[mR]));all_goals(try(first|(intro h;cases h;done)|(refine ak (aq I ?_);omega)))))
   .exact ak (aq V.bool (by rw[aE h4,br h1,fj];simp[sS]))
   .rw[aE h4]at Hy;exact⟨h1,by rw[br h1,fj,o];simpa[l0]using Hy⟩
 rw[aE h1]at o ⊢
 repeat' first|refine k7 ?_|refine cs ?_ ?_<;>intro h<;>try omega
 refine sl (λk:Nat=>k<=l.length/\∀i,i<k->∀j,j<i->zS l i≠zS l j) (λk=>[(8,I k,false)]) (λk=>l.length-k) (0) (⟨av,λi h=>av⟩) ?_;rintro k ⟨K,Hy⟩;rcases am k l.length with h1|h1
 .repeat' first|refine k7 ?_|refine cs ?_ ?_<;>intro h<;>try omega
  refine sl (λj:Nat=>j<=k/\∀p,p<j->zS l k≠zS l p) (λj=>[(9,I j,false)]) (λj=>k-j) (0) (⟨av,λi h=>av⟩) ?_;rintro j ⟨ad,t⟩;rcases am j k with h4|h4
  .have r:j<l.length:=av;repeat' first|refine qp ?_|refine cs ?_ ?_<;>intro h<;>try omega|refine ba (j+1) ?_|refine lq (oZ l[k].id l[j].id) ?_|refine q1 ?_
   .exact ak (aq I (by rw[D (by assumption) (by assumption) o (Q7 h1 h4 (by rw[q7 h1,q7 r];exact h))]))
   .refine⟨h4,λp u=>?_⟩;rcases gr (h7 u)with f|rfl
    .exact t p f
    .rw[q7 h1,q7 r];exact h
  .repeat' first|simp(disch:=omega) only[dt,simprocAttr]|refine cs ?_ ?_<;>intro h<;>try omega|refine ba (k+1) ?_
   .refine⟨h1,λi N=>?_⟩;rcases gr (h7 N)with f|rfl
    .exact Hy i f
    .exact λp u=>t p av
 .have ai:=Ve λi N=>Hy i av;repeat' first|refine k7 ?_|refine cs ?_ ?_<;>intro h<;>try omega|refine q1 ?_
  all_goals exact ak (aq I (by rw[H (by assumption) (by assumption) o ai,h];rfl))
def Op.ok(o:Op):Prop:=o.bN.length<=1000000/\o.F.length<=1000000/\(∀t∈o.F,t.length<=1000000)/\o.cW.length<=1000000/\o.C.length<=1000000
def Post.ok(p:Post):Prop:=p.path.length<=1000000/\∀t∈p.path,t.length<=1000000
def gU.ok(t:gU):Prop:=t.name.length<=1000000/\t.see.length<=1000000/\t.eH.length<=1000000/\∀x∈t.eH,x.length<=1000000
def aW.ok(e:aW):Prop:=e.C.length<=1000000/\e.op.ok/\e.dy.ok/\e.cU.length<=1000000/\∀p∈e.cU,p.ok
def PR{a b:Int×Int}:a=b↔a.1=b.1/\a.2=b.2:=by cases a;cases b;simp
def Q8(a b:List (Int×Int))(f:a.length<=1000000000):af 175 [jz a,jz b] (B (decide (a=b))):=by
 refine pk f175 ?_;repeat' first|refine k7 ?_|refine cs ?_ ?_<;>intro h|refine q1 ?_
 .exact Hr
 have d:a.length=b.length:=av;refine sl (λk:Nat=>k<=a.length/\a.take k=b.take k) (λk=>[(5,I k,false)]) (λk=>a.length-k) (0) (⟨bT,bT⟩) ?_;exact Yn
def Q9(a b:Op)(r:a.ok):af 120 [a.v,b.v] (B (decide (a=b))):=by
 obtain⟨N,t,u,⟨P,Q,c3⟩,R,ab,ac,ad,y,d,f⟩:=a;obtain⟨ai,z,A,⟨aA,aB,aC⟩,aD,a0,a1,a2,D,j,l⟩:=b;obtain⟨H,o,K,p,q⟩:=r;simp only at H o K p q;simp only[Op.v,Op.c];refine pk f120 ?_;repeat' first|simp only[dt,simprocAttr]|(first|refine cz ?_ ?_|refine gz ?_ ?_)<;>intro L h<;>try simp only[L]|refine lq (oZ t z) ?_|refine lq (oZ u A) ?_|refine lq (Jy y D (aT o du)) ?_|refine lq (Q8 d j (aT p du)) ?_|refine lq (JG f l (aT q du)) ?_|refine q1 ?_
 all_goals exact ak (aq V.bool (by simp_all))
def iS(s:T):Bool:=decide (s.length<=24)&&g8 s==0&&s.all λb=>b.toNat !=64
def Zl:CF GL f135 [] [] 135:=jo
def vQ(w:cg)(v a:Nat):Option eg:=(w.O[v]?).bind λx=>x.O[a]?
def k1(w:cg)(s:fW):Bool:=decide (0<=s.i9/\0<=s.k0)&&(vQ w s.i9.toNat s.k0.toNat).isSome
def JI(w:cg)(s:fW)(f:w.ok):af 242 [w.v,s.v] (B (k1 w s)):=by
 obtain⟨w⟩:=w;obtain⟨j,q,r⟩:=f;simp only at j;refine pk f242 ?_;repeat' first|refine qp ?_|refine gz ?_ ?_<;>intro l h<;>try simp only[l]|refine q1 ?_
 .have o:s.i9.toNat<w.length:=av;refine ak (aq V.bool ?_);simp only[k1,vQ,aa o,gx];rcases am s.k0.toNat w[s.i9.toNat].O.length with a|a
  .rw[aa a];have p:(0<=s.i9/\0<=s.k0):=av;have d:s.k0<w[s.i9.toNat].O.length:=av;simp[p,d]
  .rw[b1 a];have d:¬s.k0<w[s.i9.toNat].O.length:=av;simp[d]
 .exact ak (aq V.bool (by simp[k1];omega))
 .exact ak (aq V.bool (by rw[ix];simp only[k1,vQ,b1 (show w.length<=s.i9.toNat by omega)];simp))
 .exact ak (aq V.bool (by simp[k1];omega))
def p6(w:cg)(v a:Nat)(s:fW)(j:v<w.O.length)(l:a<w.O[v].O.length)(d:s.i9=v)(f:s.k0=a):af 135 [w.v,s.v] (dA w.O[v].O[a].O):=by
 obtain⟨w⟩:=w;obtain⟨o,p,q⟩:=s;simp only at d f j l;subst d f;refine pk f135 ?_;repeat' first|refine qp ?_|refine q1 ?_
 exact .refl _
def kG(s:T)(n:Nat):List Int:=((List.range n).filter λi=>decide (1<=i)&&lx (cr s) i).map λi:Nat=>(i:Int)
def xo(s:T)(n:Nat):kG s (n+1)=if 1<=n/\lx (cr s) n=true then kG s n++[(n:Int)]else kG s n:=by
 unfold kG;rw[dX,gq];by_cases h:1<=n/\lx (cr s) n=true
 .simp[h]
 .rw[al h];simp[h]
def y9(s:T)(n:Nat):(kG s n).length<=n:=by
 unfold kG;rw[au];exact aT (fY _ _) bT
def Ra(s:T)(p:s.length<=10000):af 136 [S s] (fq (kG s (cr s).length)) true:=by
 have q:(cr s).length<=s.length:=lC s _;have c:=sO s av;refine pk f136 ?_ [21];repeat' first|refine k7 ?_|refine lq c ?_
 refine sl (λk:Nat=>1<=k/\(k<=(cr s).length\/k=1)) (λk=>[(5,I k,false),(4,fq (kG s k),true)]) (λk=>(cr s).length-k) (1) (⟨av,av⟩) ?_;rintro k ⟨l,f⟩;rcases am k (cr s).length with a|a
 .have o:=ES (cr s) k a av;have r:=y9 s k;repeat' first|refine qp ?_|refine cs ?_ ?_<;>intro h<;>try omega|(refine⟨k+1,⟨?_⟩,⟨av⟩,?_⟩;rotate_left;focus (simp only[ft,simprocAttr];and_intros<;>try first|exact .aP _|omega))|refine lq o ?_|refine ei ?_
  .exact ak (by rw[xo,ax ⟨l,h⟩];simp)
  .omega
  .exact ak (by rw[xo,al (by simp[h])])
  .omega
 .repeat' first|refine k7 ?_|refine cs ?_ ?_<;>intro h<;>try omega|apply rJ rfl rfl rfl
  refine ak ?_;rcases f with d|d
  .rw[Nat.le_antisymm d a]
  .subst d;rcases cZ (cr s).length with j|j
   .rw[j];rfl
   .rw[show(cr s).length=1 by omega]
def sc(n a:Int)(h:0<a):0<=mO n a/\mO n a<a:=by
 unfold mO;split
 .exact⟨nS _ av,l8 _ h⟩
 .exact⟨nS _ av,l8 _ h⟩
def DO(w:cg)(n:Int):ID:=((dj w)[(mO n ((dj w).length+1)).toNat]?).elim oo aJ.id
def E2(w:cg)(n:Int)(a:w.ok)(f:jG n):af 138 [w.v,I n] (DO w n).v:=by
 have c:=uI w a;have d:=EP n ((dj w).length+1) f av;have p:=a.2.2;unfold DO;generalize dj w=l at*
 obtain⟨w⟩:=w;refine pk f138 ?_;have q:=sc n (l.length+1) av;rcases fp (mO n (l.length+1)) l.length with j|j
 .have o:(mO n (l.length+1)).toNat<l.length:=av;rw[aa o];repeat' first|refine qp ?_|refine cs ?_ ?_<;>intro h<;>try omega|refine lq c ?_|refine lq d ?_|(refine ao nE ?_;refine tS ev rfl ?_)
  exact .refl _
 .rw[b1 (show l.length<=(mO n (l.length+1)).toNat by omega)];repeat' first|simp(disch:=omega) only[dt,simprocAttr]|refine cs ?_ ?_<;>intro h<;>try omega|refine lq c ?_|refine lq d ?_|refine lq EZ ?_|(refine ao nE ?_;refine tS ev rfl ?_)
  exact .refl _
def k2(b:Name)(k:Int)(gY:aJ)(t:T)(C:List ID):aJ:=⟨⟨b.J,b.seq,k⟩,gY.eD,gY.en,t,C⟩
def xp(b:Name)(k:Int)(gY:aJ)(t:T)(C:List ID)(a:C.length<=1000000):af 244 [b.v,I k,gY.v,S t,eW C] (k2 b k gY t C).v:=by
 refine pk f244 ?_;repeat' first|refine qp ?_|(refine ao nE ?_;refine tS ev rfl ?_)
 all_goals exact .refl _
def Rb(a b:List aJ)(j:a.length<=1000000000)(d:∀p∈a,p.ok):af 117 [dA a,dA b] (B (decide (a=b))):=by
 refine pk f117 ?_;repeat' first|refine k7 ?_|refine cs ?_ ?_<;>intro h|refine q1 ?_
 .exact Hr
 have f:a.length=b.length:=av;refine sl (λk:Nat=>k<=a.length/\a.take k=b.take k) (λk=>[(5,I k,false)]) (λk=>a.length-k) (0) (⟨bT,bT⟩) ?_;rintro k ⟨l,he⟩;rcases am k a.length with h1|h1
 .have h2:k<b.length:=av;repeat' first|refine qp ?_|refine cs ?_ ?_<;>intro h<;>try omega|refine ba (k+1) ?_|(refine jj (QR a[k] b[k] (aT (d _ (ah h1)).2 du)) ?_ ?_;·refine mV ?_;simp only[ee]<;>rfl)|refine q1 ?_
  .exact KG
  .exact MG
 .exact XC
def k8(l:List ID):List Int:=l.flatMap λa=>[a.J,a.seq,a.k]
def sd(l:List ID):(k8 l).length=3*l.length:=by
 induction l with
 |nil=>rfl
 |cons a r ih=>simp only[k8,ck,ae,aM,aX]at ih ⊢;omega
def TF:CF GL f251 [] [] 251:=jo
def C1(w:cg)(s:fW):Option aJ:=
 if s.i9<0\/s.k0<0\/s.idx<0 then none else match w.O[s.i9.toNat]? with
  |some v=>match v.O[s.k0.toNat]? with
   |some a=>a.O[s.idx.toNat]?
   |none=>none
  |none=>none
def ia:aJ:=⟨⟨0,0,0⟩,0,0,[],[]⟩
def sr{cs ds:List V}(h:aV cs ds):V.Le (.agg cs) (.agg ds):=.agg cs ds h.1 h.2
def kW:V.Le (.agg [I 0,I 0,I 0,I 0,I 0,S [],.aP]) ia.v:=
 sr (.cons (.refl _) (.cons (.refl _) (.cons (.refl _) (.cons (.refl _) (.cons (.refl _) (.cons (.refl _) (.cons (.aP _) .nil)))))))
def JJ(w:cg)(s:fW)(r:w.ok):af 251 [w.v,s.v] (.hJ [((C1 w s).getD ia).v,B (C1 w s).isSome]):=by
 obtain⟨w⟩:=w;obtain⟨t,q,y⟩:=r;obtain⟨a,b,c⟩:=s;simp only at t;have no:C1 ⟨w⟩ ⟨a,b,c⟩=none\/∃p,C1 ⟨w⟩ ⟨a,b,c⟩=some p:=by cases C1 ⟨w⟩ ⟨a,b,c⟩<;>simp
 have key:C1 ⟨w⟩ ⟨a,b,c⟩=if a<0\/b<0\/c<0 then none else match w[a.toNat]? with
  |some v=>match v.O[b.toNat]? with
   |some a=>a.O[c.toNat]?
   |none=>none
  |none=>none:=rfl
 generalize C1 ⟨w⟩ ⟨a,b,c⟩=R at*
 rcases fp a 0 with l|l
 .rw[ax (.inl l)]at key;subst key;simp only[fo,cG];refine pk f251 ?_;repeat' first|refine k7 ?_|refine gz ?_ ?_<;>intro u h<;>(try simp only[u])<;>try omega|(((refine rT ?_;repeat' first|exact hW.nil|refine gt ?_ ?_|refine gc ?_ ?_);(all_goals(try((apply ak;simp;done))))))
  all_goals exact kW
 obtain⟨a,rfl⟩:=fE l;rcases am a w.length with d|d
 rotate_left
 .rw[bX,b1 d,qd]at key;subst key;simp only[fo,cG];refine pk f251 ?_;exact aaZ
 have z:=(q w[a] (ah d)).1;rcases fp b 0 with hb|hb
 .rw[ax (.inr (.inl hb))]at key;subst key;simp only[fo,cG];refine pq TF.ok rfl (by simp only[dx]) ?_;repeat' first|simp(disch:=(try simp only[l4]);omega) only[dt,simprocAttr]|(first|refine bZ ?_ ?_|refine c8 ?_ ?_)<;>intro h<;>(try simp only[bB]at h)<;>(try simp only[h])<;>(try simp only[jg]at h)<;>try omega|(refine ao nE ?_;((refine FG ?_;repeat' first|exact hW.nil|refine hW.tmp rfl rfl ?_ ?_|refine hW.cell (by simp only[ee,simprocAttr]<;>rfl) rfl ?_ ?_);(all_goals(try((apply ak;simp;done))))))
  all_goals exact kW
 obtain⟨b,rfl⟩:=fE hb;rcases am b w[a].O.length with f|f
 rotate_left
 .simp only[bX,aa d,b1 f,qd]at key;exact wb6
 have A:=((q w[a] (ah d)).2 _ (ah f)).2.1;rcases fp c 0 with o|o
 .rw[ax (.inr (.inr o))]at key;subst key;simp only[fo,cG];refine pq TF.ok rfl (by simp only[dx]) ?_;repeat' first|simp(disch:=(try simp only[l4]);omega) only[dt,simprocAttr]|(first|refine bZ ?_ ?_|refine c8 ?_ ?_)<;>intro h<;>(try simp only[bB]at h)<;>(try simp only[h])<;>(try simp only[jg]at h)<;>try omega|(refine ao nE ?_;((refine FG ?_;repeat' first|exact hW.nil|refine hW.tmp rfl rfl ?_ ?_|refine hW.cell (by simp only[ee,simprocAttr]<;>rfl) rfl ?_ ?_);(all_goals(try((apply ak;simp;done))))))
  all_goals exact kW
 obtain⟨c,rfl⟩:=fE o;rcases am c w[a].O[b].O.length with j|j
 rotate_left
 .simp only[bX,aa d,aa f,b1 j,qd]at key;exact wb6
 simp only[bX,aa d,aa f,aa j]at key;rw[al av]at key;subst key;simp only[bf,fg];refine pk f251 ?_;repeat' first|refine qp ?_|(first|refine cs ?_ ?_|refine gs ?_ ?_)<;>intro h<;>try omega|(((refine rT ?_;repeat' first|exact hW.nil|refine gt ?_ ?_|refine gc ?_ ?_);(all_goals(try(first|with_reducible exact .refl _|(apply ak;simp;done))))))
def nf{v:V}{cs ds:List V}(h:v=.agg cs)(a:aV cs ds):V.Le v (.agg ds):=by subst h;exact sr a
def iT:Op:=⟨0,⟨0,0,0⟩,⟨0,0,0⟩,⟨0,0,0⟩,0,0,0,[],[],[],[]⟩
def E3:gU:=⟨[],0,0,[],[]⟩
def RP(_:aK)(v:V)(p:aJ)(X:List Nat):Prop:=v=p.v/\X=[]
def RA(h:aK)(v:V)(a:eg)(X:List Nat):Prop:=∃d,v=.agg [S a.gR,d]/\ce 7 RP h d a.O X
def RV(h:aK)(v:V)(x:eM)(X:List Nat):Prop:=∃a,v=.agg [a]/\ce 2 RA h a x.O X
def RW(h:aK)(v:V)(w:cg)(X:List Nat):Prop:=∃a,v=.agg [a]/\ce 1 RV h a w.O X
def Lw:lP RP:=by rintro h j v a X ⟨d,f⟩ _ _;exact⟨d,f⟩
def ym:lP RA:=by rintro h p v a X ⟨d,f,j⟩ l o;exact⟨d,f,ce.qG Lw _ _ _ _ _ j l o⟩
def vG:lP RV:=by rintro h p v a X ⟨d,f,j⟩ l o;exact⟨d,f,ce.qG ym _ _ _ _ _ j l o⟩
def Zm:lP RW:=by rintro h p v a X ⟨d,f,j⟩ l o;exact⟨d,f,ce.qG vG _ _ _ _ _ j l o⟩
def N5:JA RP:=by rintro h v a X ⟨f,rfl⟩ i d;cases d
def wv:JA RA:=by rintro h v a X ⟨f,j,d⟩;exact ce.vF N5 _ _ _ _ d
def p7:JA RV:=by rintro h v a X ⟨f,j,d⟩;exact ce.vF wv _ _ _ _ d
def Vf:JA RW:=by rintro h v a X ⟨f,j,d⟩;exact ce.vF p7 _ _ _ _ d
def abn:Ls 7 RP aJ.v:=by
 exact X4
def Zn:CF GL f241 [72,78,84] [] 241:=jo
def E4(w:cg)(df:w.ok):aI 241 [w.v] aK.bare λv _ E=>∃X,RW E v w X/\X.Nodup:=by
 obtain⟨w⟩:=w;obtain⟨dr,bo,ea⟩:=df;simp only at dr;refine bq Zn.ok rfl ?_;repeat' simp only[dt,simprocAttr]
 refine dT rfl rfl (λ(n:Nat) t=>n<=w.length/\t.Z 4=I n/\t.G 1=1/\t.loc 1 0=[cf w]/\t.G 2=1/\t.loc 2 0=[.aP]/\t.G 3=1/\∃p X,t.loc 3 0=[p]/\ce 1 RV t.E p (w.take n) X/\X.Nodup) (λn=>w.length-n) 0 ?_ ?_
 .exact⟨aL _,rfl,rfl,rfl,rfl,rfl,rfl,.aP,[],rfl,ce.nil,jR⟩
 rintro n t ⟨eb,bs,a5,a6,a7,a8,bu,p,X,bv,T1,bY⟩ a9;have b2:t.Z 1=.lp 1 0 0:=by rw[a9 1 du];rfl
 have b3:t.Z 2=.lp 2 0 0:=by rw[a9 2 du];rfl
 have ds:t.Z 3=.lp 3 0 0:=by rw[a9 3 du];rfl
 rcases am n w.length with Q|Q
 .repeat' first|simp only[dt,simprocAttr,bs,a5,a6,b2]|refine cs ?_ ?_<;>intro h<;>try omega
  refine dT rfl rfl (λ(m:Nat) u=>m<=w[n].O.length/\u.Z 6=I m/\u.G 1=1/\u.loc 1 0=[cf w]/\u.G 2=1/\u.loc 2 0=[.aP]/\u.G 3=1/\u.loc 3 0=[p]/\ce 1 RV u.E p (w.take n) X/\
   t.G 5<u.G 5/\∃z d,u.loc 5 (t.G 5)=[z]/\ce 2 RA u.E z (w[n].O.take m) d/\(X++d).Nodup) (λm=>w[n].O.length-m) 0 ?_ ?_
  .simp only[da,a5,a6,a7,a8,bu,bv,↓reduceIte,Nat.reduceEqDiff,oQ];exact⟨rfl,T1,V.aP,[],rfl,ce.nil,by simpa using bY⟩
  rintro m u ⟨ed,b5,aC,m4,m5,m6,aD,a0,ab,b6,z,d,m10,a1,b7⟩ A;have el:=(bo w[n] (ah Q)).1;have ca:u.Z 1=.lp 1 0 0:=(A 1 du).trans sT;have et:u.Z 2=.lp 2 0 0:=(A 2 du).trans sT;have cb:u.Z 3=.lp 3 0 0:=(A 3 du).trans sT;have bi:u.Z 4=I n:=(A 4 du).trans sT;have dE:u.Z 5=.lp 5 (t.G 5) 0:=(A 5 du).trans sT;rcases am m w[n].O.length with hm|hm
  .repeat' first|simp(disch:=try exact om) only[dt,simprocAttr,b5,aC,m4,ca,bi]|refine cs ?_ ?_<;>intro h<;>try omega
   refine dT rfl rfl (λ(j:Nat) y=>j<=w[n].O[m].O.length/\y.Z 9=I j/\y.G 1=1/\y.loc 1 0=[cf w]/\y.G 2=1/\y.loc 2 0=[.aP]/\y.G 3=1/\y.loc 3 0=[p]/\ce 1 RV y.E p (w.take n) X/\
    t.G 5<y.G 5/\y.loc 5 (t.G 5)=[z]/\ce 2 RA y.E z (w[n].O.take m) d/\u.G 7<y.G 7/\∃R q,y.loc 7 (u.G 7)=[S w[n].O[m].gR,R]/\ce 7 RP y.E R (w[n].O[m].O.take j) q/\((X++d)++q).Nodup) (λj=>w[n].O[m].O.length-j) 0 ?_ ?_
   .simp only[da,aC,m4,m5,m6,aD,a0,b6,m10,↓reduceIte,Nat.reduceEqDiff,oQ];exact⟨rfl,ab,a1,V.aP,[],rfl,ce.nil,by simpa using b7⟩
   rintro j y ⟨eK,bl,cc,ch,ci,cp,c1,c2,r,a2,H,K,L,R,q,N,ac,D⟩ f;have c5:=(bo w[n] (ah Q)).2 _ (ah hm);have e1:=c5.2.1;have e2:y.Z 1=.lp 1 0 0:=(f 1 du).trans sT;have e3:y.Z 2=.lp 2 0 0:=(f 2 du).trans sT;have e4:y.Z 3=.lp 3 0 0:=(f 3 du).trans sT;have e5:y.Z 4=I n:=(f 4 du).trans sT;have c6:y.Z 5=.lp 5 (t.G 5) 0:=(f 5 du).trans sT;have dU:y.Z 6=I m:=(f 6 du).trans sT;have y7:y.Z 7=.lp 7 (u.G 7) 0:=(f 7 du).trans sT;have c7:y.Z 8=dA w[n].O[m].O:=(f 8 du).trans sT;rcases am j w[n].O[m].O.length with ad|ad
   .have e6:=(c5.2.2 _ (ah ad)).2;have o3:=ac.one;repeat' first|simp(disch:=try exact om) only[dt,simprocAttr,bl,L,N,y7,c7]|refine cs ?_ ?_<;>intro h<;>try omega
    refine oX (e:=aJ.v w[n].O[m].O[j]) (fA:=y.E) (v0:=R) Lw N5 ?_ ?_ ?_ ac rfl ⟨rfl,rfl⟩ (by simpa using (aO.1 D).2.1) rfl (by rw[aG];omega) λv a4 l g1 ai a3 g4 g5=>?_
    .exact sT
    .exact sT
    .exact sT
    obtain⟨aA,c9⟩:=g1.cells;have aB:=g1.one;repeat' simp(disch:=omega) only[gE,simprocAttr,bl,L,N,y7,aA,aB]
    refine⟨j+1,⟨?_⟩,⟨av⟩⟩;have P:=aO.1 D;simp only[da,simprocAttr,cc,ch,ci,cp,c1,c2,a2,H,L,N];refine⟨ad,rfl,rfl,ce.same vG p7 r g4 λi o e=>P.2.2 i (bV _ o) i (g5 i e) rfl,ce.same ym wv K g4 λi o e=>P.2.2 i (aU _ o) i (g5 i e) rfl,v,l,rfl,by rw[br ad];exact g1,?_⟩;refine sP (C:=[]) (by simpa using D) ai (n:=y.E.Y) (λi o=>?_) a3;rcases aN.1 o with o|o
    .exact ce.vF p7 _ _ _ _ r i o
    .exact ce.vF wv _ _ _ _ K i o
   .have o3:=ac.one;have o2:=K.one;repeat' first|simp only[dt,simprocAttr,bl,a2,H,L,N,c6,y7,c7,o3]|refine cs ?_ ?_<;>intro h<;>try omega
    rw[aE ad]at ac;refine oX (e:=.agg [S w[n].O[m].gR,R]) (fA:=y.E) (v0:=z) (a:=w[n].O[m]) (js:=q) ym wv ?_ ?_ ?_ K ?_ ⟨R,rfl,ac⟩ (by rw[aF]at D;exact(aO.1 D).2.1) rfl (by rw[aG];omega) λv a4 l g1 ai a3 g4 g5=>?_
    .exact sT
    .exact sT
    .exact sT
    .exact Tb
    obtain⟨aA,c9⟩:=g1.cells;have aB:=g1.one;repeat' simp(disch:=omega) only[gE,simprocAttr,a2,H,c6,dU,aA,aB]
    refine⟨m+1,⟨?_⟩,⟨av⟩⟩;simp only[da,simprocAttr,cc,ch,ci,cp,c1,c2,a2,H];rw[aF]at D;have P:=aO.1 D;refine⟨hm,rfl,rfl,ce.same vG p7 r g4 λi o e=>P.2.2 i o i (bV _ (g5 i e)) rfl,v,l,rfl,by rw[br hm];exact g1,?_⟩;exact sP D ai (n:=y.E.Y) (ce.vF p7 _ _ _ _ r) a3
  .have o2:=a1.one;have dd:=ab.one;repeat' first|simp(disch:=try exact om) only[dt,simprocAttr,b5,aC,m4,aD,a0,b6,m10,ca,cb,bi,dE,o2]|refine cs ?_ ?_<;>intro h<;>try omega
   rw[aE hm]at a1;refine oX (e:=.agg [z]) (fA:=u.E) (v0:=p) (a:=w[n]) (js:=d) vG p7 ?_ ?_ ?_ ab ?_ ⟨z,rfl,a1⟩ b7 rfl (by rw[aG];omega) λv a4 l g1 ai a3 g4 g5=>?_
   .exact sT
   .exact sT
   .exact sT
   .exact Tc
   obtain⟨aA,c9⟩:=g1.cells;have aB:=g1.one;repeat' simp(disch:=omega) only[gE,simprocAttr,aD,a0,cb,bi,aA,aB]
   refine⟨n+1,⟨?_⟩,⟨av⟩⟩;simp only[da,simprocAttr,aC,m4,m5,m6,aD,a0];exact⟨Q,rfl,rfl,v,l,rfl,by rw[br Q];exact g1,ai⟩
 .have dd:=T1.one;repeat' first|simp only[dt,simprocAttr,bs,a5,a6,a7,a8,bu,bv,b2,b3,ds,dd]|refine cs ?_ ?_<;>intro h<;>try omega
  rw[aE Q]at T1;refine⟨nE,.agg [p],false,eA (by simp only[ee,simprocAttr,b3,a7,a8]<;>rfl) rfl,X,⟨p,rfl,?_⟩,bY⟩;simp only[da];exact T1
def bz{s:St}{K:St->Prop}{P:Program}{GL:aj}{d:Option Nat}{f:FuncId}{args:List eL}{a:List V}{Q:V->Bool->aK->Prop}{r:List BI}{h0:aK}(l:s.E=h0)(E:lB P GL f a h0 Q)(o:args.all (λx=> !(s.val x).dY)=true)(p:aV (args.map s.val) a)
 (h:∀v bJ j,Q v bJ j->er P GL false r ((s.cu j).ret d v bJ) K):er P GL false (⟨none,d,.call f args⟩::r) s K:=by
 subst l;exact Qn E o p h
def za(h:aK)(sz:Nat)(v:V)(n i:Nat)(x:V):Prop:=∃id c cells rest,v=.ms sz id 0 n c/\i<n/\h.box id=some cells/\cells.drop (i*sz)=x.cells++rest/\(i+1)*sz<=cells.length
def bC{s:St}{t:Nat}{a:V}(h:s.Z t=a)(d:a.dY=false):BF.result s [.tmp t]=some (a,s.fl t):=by simp[BF.result,h,d]
def kc{cells rest cs:List V}{k j:Nat}(h:cells.drop k=cs++rest)(a:j<=cs.length):cells.drop (k+j)=cs.drop j++rest:=by
 rw[<-dF,h,i5 a]
def N6(h:aK)(p q pv:V)(t:T)(n m v a:Nat)(s:fW)(L:za h 1 p n v (.agg [q]))(N:za h 2 q m a (.agg [S t,pv]))(u:s.i9=v)(y:s.k0=a)(E:pv.dY=false):
 aI 135 [.agg [p],s.v] h λr _ P=>r=pv/\P=h:=by
 obtain⟨ai,aA,d,l,rfl,aB,z,A,aC⟩:=L;obtain⟨D,ac,f,o,rfl,aD,H,K,a0⟩:=N;obtain⟨a1,a2,a3⟩:=s;simp only at u y;subst u y;have Q:List.drop (v*1+0) d=V.ms 2 D 0 m ac::l:=kc (j:=0) A (aL _);have R:List.drop (a*2+1) f=pv::o:=kc (j:=1) K (by simp[V.cells]);have ab:v*1+0<=d.length:=av;have ad:a*2+1<=f.length:=av;refine bq Zl.ok rfl ?_;repeat' simp(disch:=omega) only[gE,simprocAttr,z,H,Q,R,ab,ad]
 exact⟨nE,pv,_,bC rfl E,rfl⟩
def path{h:aK}{r:V}{l:List eM}{X:List Nat}(T:ce 1 RV h r l X){v a:Nat}(t:v<l.length)(u:a<l[v].O.length):
 ∃q pv d,za h 1 r l.length v (.agg [q])/\za h 2 q l[v].O.length a (.agg [S l[v].O[a].gR,pv])/\ce 7 RP h pv l[v].O[a].O d/\pv.dY=false/\(∀i∈d,i∈X):=by
 obtain⟨z,A,f,x,aC,o,rfl,aD,K,L,N,a0,⟨q,rfl,P⟩,a1,Q⟩:=T.get t;obtain⟨D,ac,j,y,R,p,rfl,q1,ab,ad,ai,a2,⟨pv,rfl,H⟩,a3,aA⟩:=P.get u;exact⟨_,pv,R,⟨z,A,f,o,rfl,t,K,L,N⟩,⟨D,ac,j,p,rfl,u,ab,ad,ai⟩,H,H.gD,λi aB=>Q i (aA i aB)⟩
def WB(h:aK)(v:V)(a:eg)(X:List Nat):Prop:=∃d,v=.agg [S a.gR,d]/\((d=dA a.O/\X=[])\/ce 7 RP h d a.O X)
def Zo(h:aK)(v:V)(x:eM)(X:List Nat):Prop:=∃a,v=.agg [a]/\ce 2 WB h a x.O X
def RA.weak{h v a X}(T:RA h v a X):WB h v a X:=let⟨d,f,j⟩:=T;⟨d,f,.inr j⟩
def RV.weak{h v a X}(T:RV h v a X):Zo h v a X:=let⟨d,f,j⟩:=T;⟨d,f,j.mono λ_ _ _=>RA.weak⟩
def TG:lP WB:=by
 rintro h q v a X ⟨f,j,⟨d,l⟩|d⟩ o p
 .exact⟨f,j,.inl ⟨d,l⟩⟩
 .exact⟨f,j,.inr (ce.qG Lw _ _ _ _ _ d o p)⟩
def Zp:lP Zo:=by rintro h p v a X ⟨d,f,j⟩ l o;exact⟨d,f,ce.qG TG _ _ _ _ _ j l o⟩
def Zq:Ls 2 WB eg.v:=by
 rintro h v a X fz ⟨q,rfl,f⟩ p;refine⟨rfl,λj c d l o=>?_⟩
 match j with
 |0=>cases l;cases o;exact .refl _
 |1=>
  cases l;cases o;rcases f with⟨f,_⟩|f
  .subst f;exact .refl _
  .exact ce.TD av abn _ _ _ _ _ f p
 |j+2=>cases l
def Zr:Ls 1 Zo eM.v:=by
 rintro h v a X fz ⟨q,rfl,l⟩ o;refine⟨rfl,λj c d f p=>?_⟩
 match j with
 |0=>cases f;cases p;exact ce.TD av Zq _ _ _ _ _ l o
 |j+1=>cases f
def TH{h:aK}{a:V}{l:List eM}{X:List Nat}(T:ce 1 Zo h a l X):V.lF (oC h X) (.agg [a]) (cg.v ⟨l⟩):=by
 refine .agg _ _ rfl λj c d f o=>?_
 match j with
 |0=>cases f;cases o;exact ce.TD av Zr _ _ _ _ _ T λi p=>pg p
 |j+1=>cases f
def N7{h h2:aK}{N:V}{l:List eM}{X:List Nat}(T:ce 1 RV h N l X)(D:X.Nodup){v a:Nat}(aC:v<l.length)(bo:a<l[v].O.length)
 {ac:V} {o:List V} {p n c:Nat} (bs:za h 1 N l.length v (.agg [ac])) (e:ac=.ms 2 p 0 n c) (hb:h.box p=some o)
 (aD:h.Y<=h2.Y) (ad:∀j,j<h.Y->j≠p->h2.box j=h.box j) {x':V} {a':eg} (bu:jW 2 x'=true) (a0:h2.box p=some (aQ o (a*2) x'.cells)) (hx:∀bv,WB bv x' a' []):
 ∃ai,ce 1 Zo h2 N (l.set v ⟨l[v].O.set a a'⟩) ai:=by
 have aA:=ce.vF p7 _ _ _ _ T;obtain⟨bY,is,q1,b2,b3,a1,rfl⟩:=T;have y:v<bY.length:=by omega
 have r:v<is.length:=av;obtain⟨q,t,b5⟩:=a1 v _ _ _ (aa y) (aa aC) (aa r);have a2:q=ac:=by
  obtain⟨id,ch,cells,rest,u,_,f,b6,_⟩:=bs;obtain⟨a3,⟨rfl,rfl⟩|⟨id2,ci,P,a4,cp,a5,c1,c2⟩⟩:=q1
  .cases u
  .rw[u]at a4;injection a4 with _ a6 _ _ _
   subst a6;rw[f]at a5;have z:=i7 a3 y P;rw[<-ar a5,b6,t]at z;simp[V.cells]at z;exact z.1.symm
 subst a2;have a7:∀j∈(bI N).toList,j∉is.flatten:=λj d a8=>(aO.1 D).2.2 j d j a8 rfl;have R:=(aO.1 D).2.1;obtain⟨c5,aB,b7,ca,cb,cc,Q⟩:=b5;have A:p∈is[v]:=by rw[Q,e];simp[bI]
 have H:∀j∈is[v],j<h.Y:=λj d=>aA j (aU _ (hG (aa r) d));have a9:((bI q).toList++aB.flatten).Nodup:=by
  rw[<-Q];have h1:=R;rw[show is=is.take v++is[v]::is.drop (v+1)by simp]at h1;exact Yf
 have bi:ce 2 WB h2 q (l[v].O.set a a') ((bI q).toList++(aB.set a []).flatten):=by
  refine ce.set TG b7 ca cb (λi x b K t u f=>(cc i x b K t u f).weak) bo (by rw[e];rfl) bu hb a0 aD (λk K bl f j d=>?_) (hx h2);have L:j∈aB.flatten:=hG f d;refine⟨H j (by rw[Q];exact aU _ L),ad j (H j (by rw[Q];exact aU _ L)) ?_⟩;rintro rfl;exact(aO.1 a9).2.2 j (by rw[e];simp[bI]) j L rfl
 refine⟨_,ce.eQ Zp q1 b2 b3 (λi x b K t u f=>(a1 i x b K t u f).weak) aC (λj d=>ad j (aA j (bV _ (by simp[d]))) ?_) aD (λk K bl f j d=>?_) (aa y) ⟨q,t,bi⟩⟩
 .rintro rfl;exact a7 j (by simp[d]) (hG (aa r) A)
 .have ab:=aA j (aU _ (hG f d));refine⟨ab,ad j ab ?_⟩;rintro rfl;exact oW R (aa r) f bl j d A
def k3(w:cg)(v a:Nat)(x:eg):cg:=⟨w.O.set v ⟨((w.O.getD v ⟨[]⟩).O).set a x⟩⟩
def gX(w:cg)(v a:Nat):eg:=((w.O.getD v ⟨[]⟩).O).getD a ⟨[],[]⟩
def Zs(a b c d e:Int)(s:T)(r rest:List V):List.take 7 ([I a,I b,I c,I d,I e,S s,V.sl 3 r]++rest)=[I a,I b,I c,I d,I e,S s,V.sl 3 r]:=rfl
def ok7(a b c d e:Int)(s:T)(r:List V):([I a,I b,I c,I d,I e,S s,V.sl 3 r].length==7&&[I a,I b,I c,I d,I e,S s,V.sl 3 r].all V.one)=true:=rfl
def JK{cells r:List V}{k:Nat}{x y z:V}(h:cells.drop k=x::y::r):aQ cells k [x,z]=aQ cells (k+1) [z]:=by
 have d:k<cells.length:=by
  rcases am k cells.length with a|a
  .exact a
  .rw[cT a]at h;cases h
 have e:cells[k]=x:=by
  have:=bG d;rw[h]at this;injection this with a _;exact a.symm
 simp only[aQ];rw[<-e,iA]
def rA(old l:List aJ)(i n k:Nat):List aJ:=if k<=i then old.take k else old.take i++l++(old.drop (i+n)).take (k-(i+n))
def N8(old l:List aJ)(i n k:Nat):(rA old l i n k).length<=old.length+l.length:=by
 unfold rA;split
 .rw[aG];omega
 .exact X5
def Lx(old l:List aJ)(i n k:Nat)(h:k<i)(a:k<old.length):rA old l i n (k+1)=rA old l i n k++[old[k]]:=by
 unfold rA;rw[ax av,ax av,br a]
def JL(old l:List aJ)(i n:Nat):rA old l i n (i+1)=rA old l i n i++l++(old.drop (i+n)).take (1-n):=by
 unfold rA;rw[al (by omega),ax (an _),show i+1-(i+n)=1-n by omega]
def Ge(old l:List aJ)(i n:Nat)(a:0<n\/old.length<=i):rA old l i n (i+1)=rA old l i n i++l:=by
 rw[JL];rcases a with a|a
 .rw[show 1-n=0 by omega];simp
 .rw[cT av];simp
def N9(old l:List aJ)(i:Nat)(h:i<old.length):rA old l i 0 (i+1)=rA old l i 0 i++l++[old[i]]:=by
 rw[JL,di,bG h];rfl
def DP(old l:List aJ)(i n k:Nat)(h:i<k)(a:k<i+n\/old.length<=k):rA old l i n (k+1)=rA old l i n k:=by
 unfold rA;rw[al (by omega),al (by omega)];congr 1;rcases a with a|a
 .rw[show k+1-(i+n)=0 by omega,show k-(i+n)=0 by omega]
 .rw[aE (by simp;omega),aE (by simp;omega)]
def Ly(old l:List aJ)(i n k:Nat)(h:i<k)(d:i+n<=k)(a:k<old.length):rA old l i n (k+1)=rA old l i n k++[old[k]]:=by
 unfold rA;rw[al (by omega),al (by omega),show k+1-(i+n)=k-(i+n)+1 by omega,br (by rw[aS];omega),<-aF];have e:(old.drop (i+n))[k-(i+n)]'(by rw[aS];omega)=old[k]:=by rw[mM];congr 1;omega
 rw[e]
def Oa(old l:List aJ)(i n:Nat)(h:i<=old.length):rA old l i n (old.length+1)=old.take i++l++old.drop (i+n):=by
 unfold rA;rw[al av,aE (l:=old.drop (i+n)) (by rw[aS];omega)]
def kO(w:cg)(v a i n:Nat)(l:List aJ):cg:=k3 w v a ⟨(gX w v a).gR,(gX w v a).O.take i++l++(gX w v a).O.drop (i+n)⟩
def Zt:CF GL f245 [] [1,2] 245:=jo
def sU(w:cg)(L:w.ok)(v a i n:Nat)(r:v<w.O.length)(u:a<w.O[v].O.length)(bu:i<=w.O[v].O[a].O.length)(dd:n<=1000000)(l:List aJ)(df:l.length<=1000000):
 af 245 [w.v,(fW.v ⟨v,a,i⟩),I n,dA l] (kO w v a i n l).v:=by
 have bv:=E4 w L;have ab:=L;obtain⟨N,P,dr⟩:=ab;refine Pure.gg (by simp only[dx]) (by simp only[dx]) (eN hm Zt.ok (bE rfl) ?_);repeat' simp only[dt,simprocAttr]
 refine bz (h0:=aK.bare) ?_ bv ?_ ?_ ?_
 .exact sT
 .rfl
 .refine mV ?_;simp only[ee]<;>rfl
 rintro ds bJ f ⟨X,⟨bY,rfl,T⟩,D⟩;obtain⟨ad,ai,b2,Q,aA,aB,b3,b5⟩:=path T r u;have b6:=N6 f bY ad ai _ _ _ v a ⟨v,a,i⟩ Q aA rfl rfl b3;have b7:=T.one;have ca:=L.2.1 _ (ah r);have aC:=(ca.2 _ (ah u)).2.1;repeat' simp only[gE,simprocAttr,b7]
 refine bz (h0:=f) ?_ b6 ?_ ?_ ?_
 .exact sT
 .simp only[bR,cm,pY,bx];rfl
 .exact Uh
 rintro ai cb f ⟨rfl,rfl⟩;generalize hold:w.O[v].O[a].O=old at*
 have c2:old.length<=1000000:=aC;have lp:=aB.len;repeat' simp only[gE,simprocAttr]
 refine sl (λk:Nat=>k<=old.length+1) (λk=>[(12,I k,false),(11,dA (rA old l i n k),true)]) (λk=>old.length+1-k) (0) (aL _) ?_;rintro k dE;have c5:=N8 old l i n k;rcases am k (old.length+1)with aD|aD
 .rcases am k old.length with h2|h2
  .obtain⟨pid,dU,p,x,ea,bo,rfl,eb,cc,g4,g5,g6,⟨rfl,rfl⟩,ed,el⟩:=aB.get h2;have R:k*7<=p.length:=av;have et:k<old.length+1:=aD;repeat' first|simp(disch:=try exact om) only[gE,simprocAttr,lp,cc,g4,R,h2,Zs]|(first|refine cz ?_ ?_|refine gz ?_ ?_)<;>intro y h<;>(try simp only[y])<;>try omega|(refine⟨k+1,⟨?_⟩,⟨av⟩,?_⟩;rotate_left;focus (simp only[ft,simprocAttr];and_intros<;>try first|exact .aP _|omega))|refine ei ?_
   any_goals omega
   .obtain rfl:k=i:=by assumption
    obtain rfl:n=0:=av;exact ak (by rw[N9 old l k h2,az,az];rfl)
   .obtain rfl:k=i:=by assumption
    exact ak (by rw[Ge old l k n (.inl av),az])
   .exact ak (by rw[Ly old l i n k av av h2,az];rfl)
   .exact ak (by rw[DP old l i n k av (.inl av)])
   .exact ak (by rw[Lx old l i n k h h2,az];rfl)
  .repeat' first|simp(disch:=try exact om) only[gE,simprocAttr,lp]|(first|refine cz ?_ ?_|refine gz ?_ ?_)<;>intro y h<;>(try simp only[y])<;>try omega|(refine⟨k+1,⟨?_⟩,⟨av⟩,?_⟩;rotate_left;focus (simp only[ft,simprocAttr];and_intros<;>try first|exact .aP _|omega))|refine ei ?_
   any_goals omega
   .obtain rfl:k=i:=by assumption
    exact ak (by rw[Ge old l k n (.inr h2),az])
   .exact ak (by rw[DP old l i n k av (.inr h2)])
 .obtain rfl:k=old.length+1:=av;rw[Oa old l i n bu];obtain⟨a0,a1,o,z,N,a2,a3,a4,c6⟩:=id Q;obtain⟨a5,ac,d,bs,P,a6,a7,a8,c7⟩:=id aA;have ch:List.drop (v*1+0) o=ad::z:=kc (j:=0) a4 (aL _);have R:v*1+0<=o.length:=av;have eK:a*2+1<=d.length:=av;repeat' first|simp(disch:=omega) only[gE,simprocAttr,lp,N,P,a3,ch,R,a2,a6]|refine cs ?_ ?_<;>intro h<;>try omega
  refine xk (n:=1) (cells:=d) ?_ ?_ av λt A H K a9 c9 bi=>?_
  .exact sT
  .exact sT
  have tb:t.E.box=eQ f.box a5 (some (aQ d (a*2+1) [dA (old.take i++l++old.drop (i+n))])):=a9.trans sT;have ci:t.E.Y=f.Y:=bi.trans sT;obtain⟨q,cp⟩:=N7 (h2:=t.E) T D r u Q P a7 (c0 ci.symm) (λj e1 bl=>by rw[tb];exact bD _ _ bl) (x':=.agg [S w.O[v].O[a].gR,dA (old.take i++l++old.drop (i+n))]) (a':=⟨w.O[v].O[a].gR,old.take i++l++old.drop (i+n)⟩) rfl
   (by rw[tb,bh];exact aq some (JK a8).symm) (λy=>⟨_,rfl,.inl ⟨rfl,rfl⟩⟩)
  have c1:kO w v a i n l=⟨w.O.set v ⟨w.O[v].O.set a ⟨w.O[v].O[a].gR,old.take i++l++old.drop (i+n)⟩⟩⟩:=by
   simp only[kO,k3,gX,ap,aa r,aa u,bf,hold]
  rw[c1];repeat' simp only[gE,simprocAttr,A,H,K]
  exact⟨nE,.agg [V.ms 1 a0 0 w.O.length a1],false,oC t.E q,t.E.less q,_,false,eA (by simp only[ee,simprocAttr,A,H,K,bx]<;>rfl) rfl,l6 _ _,by rw[<-N];exact TH cp,λh=>(by cases h),rfl,rfl⟩
def Gf{l:List eg}{a:Nat}{x:eg}:(mi (l.set a x)).length<=(mi l).length+x.O.length:=by
 induction l generalizing a with
 |nil=>simp[mi]
 |cons y r ih=>
  cases a with
  |zero=>simp only[mi,aw,ck,ae]at*;omega
  |succ a=>have:=ih (a:=a);simp only[mi,ay,ck,ae]at*;omega
def BJ{l:List eM}{v:Nat}{y:eM}{k:Nat}(a:v<l.length)(h:(mi y.O).length<=(mi l[v].O).length+k):(lA (l.set v y)).length<=(lA l).length+k:=by
 induction l generalizing v with
 |nil=>simp at a
 |cons z r ih=>
  cases v with
  |zero=>simp only[lA,aw,ck,ae,cw]at*;omega
  |succ v=>have:=ih (v:=v) (by simpa using a) (by simpa using h);simp only[lA,ay,ck,ae]at*;omega
def qh{w:cg}{v a:Nat}(d:v<w.O.length)(x:eg):k3 w v a x=⟨w.O.set v ⟨w.O[v].O.set a x⟩⟩:=by
 simp only[k3,ap,aa d,bf]
def ff{w:cg}{v a:Nat}(d:v<w.O.length)(f:a<w.O[v].O.length):gX w v a=w.O[v].O[a]:=by
 simp only[gX,ap,aa d,aa f,bf]
def yn{w:cg}(p:w.ok){v a:Nat}{x:eg}(f:v<w.O.length)(hx:x.ok)(h:(dj w).length+x.O.length<=1000000):(k3 w v a x).ok:=by
 obtain⟨q,o,r⟩:=p;rw[qh f];have d:=o _ (ah f);refine⟨by simpa using q,λy j=>?_,aT (BJ f Gf) h⟩;rcases cN j with j|rfl
 .exact o y j
 .refine⟨by simpa using d.1,λz l=>?_⟩;rcases cN l with l|rfl
  .exact d.2 z l
  .exact hx
def pD{w:cg}(f:w.ok){v a i n:Nat}{l:List aJ}(hv:v<w.O.length)(ha:a<w.O[v].O.length)(j:∀p∈l,p.ok)(h:2*(dj w).length+l.length<=1000000):(kO w v a i n l).ok:=by
 have d:=(f.2.1 _ (ah hv)).2 _ (ah ha);have hm:w.O[v].O[a].O.length<=(dj w).length:=by
  exact XU
 have hlen:((gX w v a).O.take i++l++(gX w v a).O.drop (i+n)).length<=(dj w).length+l.length:=by
  exact Tf
 unfold kO;refine yn f hv ⟨by rw[ff hv ha];exact d.1,by simp only;omega,λp E=>?_⟩ (by simp only;omega);simp only[ff hv ha]at E;rcases aN.1 E with E|E
 .rcases aN.1 E with E|E
  .exact d.2.2 p (dQ E)
  .exact j p E
 .exact d.2.2 p (jJ E)
def Ob:CF GL f247 [] [] 247:=jo
def yo(w:cg)(v a:Nat)(i:Int)(p:aJ):cg×Int:=if 0<=i/\i<=(gX w v a).O.length then(kO w v a i.toNat 0 [p],0)else(w,5)
def ml(r:cg×Int):V:=.hJ [r.1.v,I r.2]
def JM(w:cg)(l:w.ok)(v a:Nat)(i:Int)(p:aJ)(d:v<w.O.length)(f:a<w.O[v].O.length):af 243 [w.v,fW.v ⟨v,a,i⟩,p.v] (ml (yo w v a i p)):=by
 have c:=p6 w v a ⟨v,a,i⟩ d f rfl rfl;unfold ml yo;rw[ff d f];by_cases h:0<=i/\i<=w.O[v].O[a].O.length
 .rw[ax h];obtain⟨i,rfl⟩:∃j:Nat,i=j:=⟨i.toNat,av⟩;have o:=sU w l v a i 0 d f av av [p] bT;refine pk f243 ?_;repeat' first|refine k7 ?_|(first|refine cs ?_ ?_|refine gs ?_ ?_)<;>intro h<;>try omega|refine lq c ?_|refine lq o ?_|(((refine rT ?_;repeat' first|exact hW.nil|refine gt ?_ ?_|refine gc ?_ ?_);(all_goals(try(first|with_reducible exact .refl _|(apply ak;simp;done))))))
 .rw[al h];refine pk f243 ?_;repeat' first|refine k7 ?_|(first|refine cz ?_ ?_|refine gz ?_ ?_)<;>intro q h<;>(try simp only[q])<;>try omega|refine lq c ?_|(((refine rT ?_;repeat' first|exact hW.nil|refine gt ?_ ?_|refine gc ?_ ?_);(all_goals(try(first|with_reducible exact .refl _|(apply ak;simp;done))))))
def BK(w:cg)(o:Op)(v a i:Nat)(p:aJ):cg×Int:=if k1 w o.spot=true then yo (kO w v a i 1 []) o.spot.i9.toNat o.spot.k0.toNat o.spot.idx p else(w,6)
def uJ{w:cg}{v a i n:Nat}{l:List aJ}{s:fW}(f:v<w.O.length)(h:k1 w s=true):s.i9=s.i9.toNat/\s.k0=s.k0.toNat/\∃j:s.i9.toNat< (kO w v a i n l).O.length,s.k0.toNat< ((kO w v a i n l).O[s.i9.toNat]).O.length:=by
 simp only[k1,be,cq,vQ,me]at h;obtain⟨j,x,o⟩:=h;obtain⟨y,p,q⟩:=mH.1 o;obtain⟨r,rfl⟩:=aH.1 p;obtain⟨d,rfl⟩:=aH.1 q;refine⟨av,av,?_⟩;unfold kO;rw[qh f];refine⟨by simpa using r,?_⟩;simp only[nn];split
 next e=>subst e;simpa using d
 .exact d
def Rc(w:cg)(d:w.ok)(A:(dj w).length<=10000)(o:Op)(v a i:Nat)(p:aJ)(f:v<w.O.length)(j:a<w.O[v].O.length)(D:i<w.O[v].O[a].O.length):
 af 248 [w.v,o.v,fW.v ⟨v,a,i⟩,p.v] (ml (BK w o v a i p)):=by
 have c:=JI w o.spot d;have q:=sU w d v a i 1 f j av av [] bT;unfold BK;by_cases h:k1 w o.spot=true
 .rw[ax h];rw[h]at c;obtain⟨r,t,u,y⟩:=uJ (a:=a) (i:=i) (n:=1) (l:=[]) f h;have c3:=JM (kO w v a i 1 []) (pD d f j bT (by simp;omega)) _ _ o.spot.idx p u y;simp only[<-r,<-t]at c3;unfold ml at c3 ⊢
  refine pk f248 ?_;repeat' first|simp(disch:=try exact om) only[gE,simprocAttr,Op.v,Op.c]|((first|refine jj c ?_ ?_|refine jj q ?_ ?_|refine jj c3 ?_ ?_);·(repeat(first|exact aV.nil|(refine aV.cons (ak ?_) ?_;(simp only[ee]<;>rfl))|(refine aV.cons ?_ ?_;simp only[pY]<;>exact .aP _))))|(((refine rT ?_;repeat' first|exact hW.nil|refine gt ?_ ?_|refine gc ?_ ?_);(all_goals(try(first|with_reducible exact .refl _|(apply ak;simp;done))))))
  all_goals skip
  all_goals skip
 .rw[al h];have z:k1 w o.spot=false:=by simpa using h
  rw[z]at c;unfold ml;refine pk f248 ?_;repeat' first|simp only[dt,simprocAttr,Op.v,Op.c]|refine lq c ?_|(((refine rT ?_;repeat' first|exact hW.nil|refine gt ?_ ?_|refine gc ?_ ?_);(all_goals(try(first|with_reducible exact .refl _|(apply ak;simp;done))))))
def zd(w:cg)(v a i:Nat)(b:Name):cg×Int:=
 let l:=(gX w v a).O
 match l[i]?,l[i+1]? with
 |some p,some q=>if p.eD=q.eD/\p.en=q.en then(kO w v a i 2 [k2 b 0 p (p.bN++32::q.bN) (p.C++q.C)],0)else(w,12)
 |_,_=>(w,6)
def Re(w:cg)(q:w.ok)(v a i:Nat)(b:Name)(d:v<w.O.length)(f:a<w.O[v].O.length)(r:i<w.O[v].O[a].O.length)
 (t:∀p∈dj w,p.C.length<=10000/\p.bN.length<=10000):
 af 247 [w.v,fW.v ⟨v,a,i⟩,b.v] (ml (zd w v a i b)):=by
 have c:=p6 w v a ⟨v,a,i⟩ d f rfl rfl;have z:=(q.2.1 _ (ah d)).2 _ (ah f);have H:=z.2.1;have j:(i:Int)+1=((i+1:Nat):Int):=rfl;have o:∀p∈w.O[v].O[a].O,p∈dj w:=λp E=>dC.2 ⟨_,ah d,dC.2 ⟨_,ah f,E⟩⟩;unfold ml zd;rw[ff d f];simp only[aa r];rcases am (i+1) w.O[v].O[a].O.length with l|l
 .simp only[aa l];have K:=t _ (o _ (ah r));have L:=t _ (o _ (ah l));by_cases h:w.O[v].O[a].O[i].eD=w.O[v].O[a].O[i+1].eD/\w.O[v].O[a].O[i].en=w.O[v].O[a].O[i+1].en
  .rw[ax h];obtain⟨g1,u⟩:=h;have A:=QB w.O[v].O[a].O[i].bN w.O[v].O[a].O[i+1].bN (by omega) (by omega);have c3:=xp b 0 w.O[v].O[a].O[i] (w.O[v].O[a].O[i].bN++32::w.O[v].O[a].O[i+1].bN) (w.O[v].O[a].O[i].C++w.O[v].O[a].O[i+1].C) (by rw[ae];omega);have c4:=sU w q v a i 2 d f (by omega) (by omega) [k2 b 0 w.O[v].O[a].O[i] (w.O[v].O[a].O[i].bN++32::w.O[v].O[a].O[i+1].bN) (w.O[v].O[a].O[i].C++w.O[v].O[a].O[i+1].C)] (by simp);simp only[eW,az]at c3;have y:=ua g1;have D:=ua u;refine pq Ob.ok rfl (by simp only[dx]) ?_;repeat' first|simp(disch:=(try simp only[l4]);omega) only[dt,simprocAttr,j]|(first|refine bZ ?_ ?_|refine c8 ?_ ?_)<;>intro h<;>(try simp only[bB]at h)<;>(try simp only[h])<;>(try simp only[jg]at h)<;>try omega|((first|refine i0 c ?_ ?_|refine i0 A ?_ ?_|refine i0 c3 ?_ ?_|refine i0 c4 ?_ ?_);·simp only[ee,simprocAttr]<;>rfl)|(refine ao nE ?_;((refine FG ?_;repeat' first|exact hW.nil|refine hW.tmp rfl rfl ?_ ?_|refine hW.cell (by simp only[ee,simprocAttr]<;>rfl) rfl ?_ ?_);(all_goals(try(first|with_reducible exact .refl _|(apply ak;simp;done))))))
   all_goals skip
  .rw[al h];by_cases g1:w.O[v].O[a].O[i].eD=w.O[v].O[a].O[i+1].eD
   .have u:¬w.O[v].O[a].O[i].en=w.O[v].O[a].O[i+1].en:=λe=>h ⟨g1,e⟩;refine pq Ob.ok rfl (by simp only[dx]) ?_;have y:=ua g1;repeat' first|simp(disch:=(try simp only[l4]);omega) only[dt,simprocAttr,j]|(first|refine bZ ?_ ?_|refine c8 ?_ ?_)<;>intro h<;>(try simp only[bB]at h)<;>(try simp only[h])<;>(try simp only[jg]at h)<;>try omega|(refine i0 c ?_ ?_;·simp only[ee,simprocAttr]<;>rfl)|(refine ao nE ?_;((refine FG ?_;repeat' first|exact hW.nil|refine hW.tmp rfl rfl ?_ ?_|refine hW.cell (by simp only[ee,simprocAttr]<;>rfl) rfl ?_ ?_);(all_goals(try(first|with_reducible exact .refl _|(apply ak;simp;done))))))
    all_goals skip
   .refine pq Ob.ok rfl (by simp only[dx]) ?_;repeat' first|simp(disch:=(try simp only[l4]);omega) only[dt,simprocAttr,j]|(first|refine bZ ?_ ?_|refine c8 ?_ ?_)<;>intro h<;>(try simp only[bB]at h)<;>(try simp only[h])<;>(try simp only[jg]at h)<;>try omega|(refine i0 c ?_ ?_;·simp only[ee,simprocAttr]<;>rfl)|(refine ao nE ?_;((refine FG ?_;repeat' first|exact hW.nil|refine hW.tmp rfl rfl ?_ ?_|refine hW.cell (by simp only[ee,simprocAttr]<;>rfl) rfl ?_ ?_);(all_goals(try(first|with_reducible exact .refl _|(apply ak;simp;done))))))
    all_goals skip
 .simp only[b1 l];refine pk f247 ?_;repeat' first|simp(disch:=omega) only[dt,simprocAttr,j]|refine cs ?_ ?_<;>intro h<;>try omega|refine lq c ?_|(((refine rT ?_;repeat' first|exact hW.nil|refine gt ?_ ?_|refine gc ?_ ?_);(all_goals(try(first|with_reducible exact .refl _|(apply ak;simp;done))))))
  all_goals skip
def vH(x:aW)(l:List aW):Nat->Nat
 |0=>0
 |k+1=>match l[k]? with
  |some y=>if nj x y=true then vH x l k else k+1
  |none=>k+1
def uK(l:List aW)(x:aW):List aW:=l.take (vH x l l.length)++x::l.drop (vH x l l.length)
def gj(l:List aW):List aW:=l.foldl uK []
def BL{l:List aW}{k:Nat}(h:k<l.length):gj (l.take (k+1))=uK (gj (l.take k)) l[k]:=by
 rw[br h];unfold gj;rw[de];rfl
def Oc(l:List aW)(x:aW):(uK l x).length=l.length+1:=by
 unfold uK;simp only[ae,aM,aG,aS];omega
def yp(l:List aW):∀k,k<=l.length->(gj (l.take k)).length=k
 |0,_=>by simp[gj]
 |k+1,h=>by rw[BL h,Oc,yp l k av]
def JN(x:aW)(l:List aW):∀k,vH x l k<=k
 |0=>an _
 |k+1=>by
  unfold vH;split
  .split
   .exact eU (JN x l k)
   .exact an _
  .exact an _
end Go.Bx
