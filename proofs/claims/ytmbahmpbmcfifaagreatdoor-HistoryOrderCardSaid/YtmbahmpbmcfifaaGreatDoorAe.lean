/- Lemmas for HistoryOrder. -/
import Derived.Test.YtmbahmpbmcfifaaGreatDoorAd
import Derived.Laws.AppendOwn
import Derived.Laws.IdiomStrings
import Derived.StillTactics
import Derived.Tactics
import Derived.Tactics2
noncomputable section
set_option linter.all false
set_option maxHeartbeats 4000000
set_option maxRecDepth 100000
namespace Go.Bx
open Go.Proofs Go.Proofs.Tryz
attribute [local irreducible] vc er dr b4 bV run iD iY i1 i6 iQ i7 i2 iu iS i4 gB i3 cW
def cls(b:UInt8):Int:=
 if b.toNat=32 then -1 else if 97<=b.toNat/\b.toNat<=122\/65<=b.toNat/\b.toNat<=90 then 0 else if 48<=b.toNat/\b.toNat<=57 then 1 else if b.toNat=64 then 3 else 2
def Cy(b:UInt8):Int:=
 if 97<=b.toNat/\b.toNat<=122\/65<=b.toNat/\b.toNat<=90 then 0 else if 48<=b.toNat/\b.toNat<=57 then 1 else if b.toNat=64 then 3 else 2
def HL{b:UInt8}(h:b.toNat≠32):Cy b=cls b:=by simp[Cy,cls,h]
abbrev U(b:UInt8):V:=.int .u8 b.toNat
def Jg(b:UInt8):af 240 [U b] (I (cls b)):=by
 refine pk f240 ?_;repeat' first|refine k9 ?_|(first|refine cz ?_ ?_|refine gz ?_ ?_)<;>intro a h<;>(try simp only[a])<;>try omega|refine q1 ?_
 all_goals exact aj (ar I (by unfold cls;(repeat' split)<;>omega))
def Er(b:UInt8):af 229 [U b] (I (Cy b)):=by
 refine pk f229 ?_;repeat' first|refine k9 ?_|(first|refine cz ?_ ?_|refine gz ?_ ?_)<;>intro a h<;>(try simp only[a])<;>try omega|refine q1 ?_
 all_goals exact aj (ar I (by unfold Cy;(repeat' split)<;>omega))
def Ql(a b:T)(h:a.length<=1000000000)(d:b.length<=1000000000):af 299 [S a,S b] (S (a++32::b)):=by
 refine pk f299 ?_;exact SZ
def Qm(a b:T)(h:a.length<=1000000000)(d:b.length<=1000000000):af 312 [S a,S b] (S (a++32::b)):=by
 refine pk f312 ?_;exact SZ
def lC(l:List gP)(k:Nat):Bool:=k=0\/(l.getD k ⟨0,0,0⟩).W>(l.getD (k-1) ⟨0,0,0⟩).end_
def Es(l:List gP)(k:Nat)(a:k<l.length)(o:l.length<=100000):af 186 [pj l,I k] (B (lC l k)):=by
 refine pk f186 ?_;rcases cS k with rfl|p
 .repeat' first|refine k9 ?_|refine gs ?_ ?_<;>intro h<;>try(exact absurd trivial h)|refine q1 ?_
  all_goals exact aj (by simp[lC])
 .have d:(k:Int)-1=(k-1:Nat):=av;have f:k-1<l.length:=av;repeat' first|simp(disch:=try exact om) only[dq,simprocAttr,d]|refine gz ?_ ?_<;>intro j h<;>(try simp only[j])<;>try omega|refine q1 ?_
  all_goals exact aj (by simp[lC,ap,a,f];omega)
def gd(s:T)(i:Nat):UInt8:=s.getD i 0
def kF{s:T}{i:Nat}(h:i<s.length):gd s i=s[i]:=by simp[gd,ap,h]
def tx(s:T)(i:Nat):Bool:=
 (gd s i).toNat<32||126< (gd s i).toNat||(gd s i).toNat==32&&(i==0||i==s.length-1||(gd s (i-1)).toNat==32)
def UT:fL prog 179=true:=by kernel_rfl
def Qn(s:T)(k:Nat)(d:k<s.length)(l:s.length<=100000):af 179 [I k,.ep [S s]] (B (tx s k)):=by
 refine pk f179 ?_;rcases cS k with rfl|o
 .repeat' first|simp(disch:=omega) only[dq,simprocAttr]|refine gz ?_ ?_<;>intro a h<;>try simp only[a]|refine q1 ?_
  all_goals exact aj (ar V.bool (by rw[de];simp[tx,kF d]<;>omega))
 .have f:(k:Int)-1=(k-1:Nat):=av;have j:k-1<s.length:=av;have p:((s.length:Int)-1=k)=(k=s.length-1):=by rw[eq_iff_iff];omega
  repeat' first|simp(disch:=omega) only[dq,simprocAttr,f]|refine gz ?_ ?_<;>intro a h<;>(try simp only[a])<;>try omega|refine q1 ?_
  all_goals exact aj (ar V.bool (by rw[de];simp[tx,kF d,kF j]<;>omega))
def qL(s:T)(n:Nat)(out:List gP):List gP:=
 let k:=cls (gd s n)
 if k<0 then out
 else if 0<n/\k<2/\cls (gd s (n-1))=k then match out.getLast? with
  |some t=>out.dropLast++[⟨t.W,n+1,t.kind⟩]
  |none=>out++[⟨n,n+1,k⟩]
 else out++[⟨n,n+1,k⟩]
def jo(s:T):Nat->List gP
 |0=>[]
 |n+1=>qL s n (jo s n)
def cq(s:T):List gP:=jo s s.length
def KW(s:T)(n:Nat)(l:List gP):(qL s n l).length<=l.length+1:=by
 unfold qL;dsimp only;split
 .omega
 .split
  .split
   .simp only[ae,List.length_dropLast,eu];omega
   .simp
  .simp
def lJ(s:T):∀n,(jo s n).length<=n
 |0=>ao _
 |n+1=>aQ (KW s n _) (lz (lJ s n))
def vd(s:T):Bool:=(List.range s.length).all λi=> !tx s i
def g3(s:T):Int:=if 4096<s.length then 4 else if vd s=false then 2 else if s=[]then 2 else if 256< (cq s).length then 4 else 0
def jJ(s:T)(k:Int)(n:Nat):Nat:=if h:n<s.length then(if(k=0\/k=1)/\Cy s[n]=k then jJ s k (n+1)else n)else n
 termination_by s.length-n
def KX(s:T)(k:Int)(n:Nat):n<=jJ s k n:=by
 induction h:s.length-n using Nat.strongRecOn generalizing n with
 |_ m ih=>
  unfold jJ;split
  .split
   .exact aQ (fO n) (ih _ av (n+1) rfl)
   .exact ao _
  .exact ao _
def KY(s:T)(k:Int)(n:Nat)(a:n<=s.length):jJ s k n<=s.length:=by
 induction h:s.length-n using Nat.strongRecOn generalizing n with
 |_ m ih=>
  unfold jJ;split
  .split
   .exact ih _ av (n+1) av rfl
   .exact a
  .exact a
def Dj{s:T}{k:Int}{n:Nat}(h:n<s.length)(a:k=0\/k=1)(d:Cy s[n]=k):jJ s k n=jJ s k (n+1):=by
 rw[jJ,tV h,ax ⟨a,d⟩]
def rf{s:T}{k:Int}{n:Nat}(h:∀h:n<s.length,(k=0\/k=1)->Cy s[n]≠k):jJ s k n=n:=by
 rw[jJ];split
 next d=>rw[an (λa=>h d a.1 a.2)]
 .rfl
def UU:fL prog 228=true:=by kernel_rfl
def Qo(s:T)(k:Nat)(o:k<s.length)(p:s.length<=1000000):af 228 [I k,.ep [S s]] (I (jJ s (Cy s[k]) (k+1))):=by
 refine pk f228 ?_ [34];repeat' first|simp(disch:=omega) only[dq,simprocAttr]|refine lq (Er s[k]) ?_
 refine sl (λn:Nat=>k+1<=n/\n<=s.length/\jJ s (Cy s[k]) n=jJ s (Cy s[k]) (k+1)) (λn=>[(5,I n,false)]) (λn=>s.length-n) (k+1) (⟨av,av,rfl⟩) ?_;rintro n ⟨q,r,a⟩;rcases am n s.length with f|f
 .repeat' first|simp(disch:=omega) only[dq,simprocAttr]|(first|refine cz ?_ ?_|refine gz ?_ ?_)<;>intro d h<;>(try simp only[d])<;>try omega|refine ba (n+1) ?_|refine lq (Er s[n]) ?_|refine q1 ?_
  all_goals first
   |exact⟨av,av,by rw[<-a,<-Dj f av (by assumption)]⟩
   |exact aj (ar I (by rw[<-a,rf (λ_ j l=>av)]))
 .repeat' first|refine k9 ?_|refine gz ?_ ?_<;>intro d h<;>(try simp only[d])<;>try omega|refine q1 ?_
  all_goals exact aj (ar I (by rw[<-a,rf (λ_ j l=>av)]))
def vr(s:T)(n:Nat):Prop:=n=0\/s.length<=n\/cls (gd s n)<0\/2<=cls (gd s n)\/cls (gd s (n-1))≠cls (gd s n)
def Ba{s:T}{n:Nat}(h:cls (gd s n)<0):jo s (n+1)=jo s n:=by simp[jo,qL,h]
def Nm{s:T}{n:Nat}(h:vr s n)(d:n<s.length)(a:¬cls (gd s n)<0):jo s (n+1)=jo s n++[⟨n,n+1,cls (gd s n)⟩]:=by
 have:¬(0<n/\cls (gd s n)<2/\cls (gd s (n-1))=cls (gd s n)):=by rintro⟨f,j,l⟩;rcases h with h|h|h|h|h<;>omega
 simp only[jo,qL,a,cE,an this]
def Dk{s:T}{a n:Nat}{l:List gP}(j:a<n)(o:0<=cls (gd s n))(h2:cls (gd s n)<2)(d:cls (gd s (n-1))=cls (gd s n))(f:jo s n=l++[⟨a,n,cls (gd s n)⟩]):
 jo s (n+1)=l++[⟨a,n+1,cls (gd s n)⟩]:=by
 have:0<n/\cls (gd s n)<2/\cls (gd s (n-1))=cls (gd s n):=⟨by omega,h2,d⟩;simp only[jo,qL,show¬cls (gd s n)<0 by omega,cE,ax this,f];simp
def Nn{s:T}{a:Nat}(H:a<s.length)(hb:vr s a)(K:¬cls (gd s a)<0):∀n,a<n->n<=s.length->jJ s (cls (gd s a)) n=jJ s (cls (gd s a)) (a+1)->
 jo s n=jo s a++[⟨a,n,cls (gd s a)⟩]/\cls (gd s (n-1))=cls (gd s a)->
 jo s (jJ s (cls (gd s a)) n)=jo s a++[⟨a,jJ s (cls (gd s a)) n,cls (gd s a)⟩]/\vr s (jJ s (cls (gd s a)) n):=by
 intro n;induction h:s.length-n using Nat.strongRecOn generalizing n with
 |_ m ih=>
  intro y L z ⟨r,u⟩;by_cases p:n<s.length
  .by_cases j:(cls (gd s a)=0\/cls (gd s a)=1)/\Cy s[n]=cls (gd s a)
   .have q:s[n].toNat≠32:=by
     intro e;have:=j.2;simp[Cy,e]at this;omega
    have f:cls (gd s n)=cls (gd s a):=by rw[kF p,<-HL q];exact j.2
    have o:=Dj p j.1 j.2;rw[o];refine ih _ av (n+1) rfl av av (by rw[<-o];exact z) ⟨?_,?_⟩
    .have:=Dk (s:=s) (a:=a) (n:=n) (l:=jo s a) y av av (by rw[u,f]) (by rw[f];exact r);rw[this,f];simp
    .simp[f]
   .have o:jJ s (cls (gd s a)) n=n:=rf λ_ d t=>j ⟨d,t⟩;rw[o];refine⟨r,?_⟩;unfold vr;by_cases d:cls (gd s n)<0
    .exact .inr (.inr (.inl d))
    .by_cases t:2<=cls (gd s n)
     .exact .inr (.inr (.inr (.inl t)))
     .refine .inr (.inr (.inr (.inr ?_)));rw[u];intro e;have q:s[n].toNat≠32:=by
       intro D;rw[kF p]at d;simp[cls,D]at d
      exact j ⟨av,by rw[HL q,<-kF p];exact e.symm⟩
  .have o:jJ s (cls (gd s a)) n=n:=rf λd=>absurd d p;rw[o];exact⟨r,.inr (.inl av)⟩
def HM{s:T}{a:Nat}(d:a<s.length)(hb:vr s a)(l:s[a].toNat≠32):
 jo s (jJ s (Cy s[a]) (a+1))=jo s a++[⟨a,jJ s (Cy s[a]) (a+1),Cy s[a]⟩]/\vr s (jJ s (Cy s[a]) (a+1)):=by
 have f:Cy s[a]=cls (gd s a):=by rw[HL l,kF d]
 have j:¬cls (gd s a)<0:=by rw[<-f];unfold Cy;(repeat' split)<;>omega
 rw[f];exact Nn d hb j (a+1) av av rfl ⟨by rw[Nm hb d j];simp,bR⟩
def Et(s:T)(j:s.length<=1000000):af 180 [S s] (pj (cq s)) true:=by
 refine pk f180 ?_ [100001,32];repeat' simp only[dq,simprocAttr]
 refine sl (λn:Nat=>n<=s.length/\vr s n) (λn=>[(5,I n,false),(3,pj (jo s n),true)]) (λn=>s.length-n) (0) (⟨av,.inl rfl⟩) ?_;rintro n ⟨t,l⟩;rcases am n s.length with a|a
 .have u:=lJ s n;have y:=KX s (Cy s[n]) (n+1);have o:=KY s (Cy s[n]) (n+1) av;by_cases d:s[n].toNat=32
  .have f:cls (gd s n)<0:=by rw[kF a];simp[cls,d]
   repeat' first|simp(disch:=omega) only[dq,simprocAttr,d]|refine bY ?_ ?_<;>intro h<;>(try simp only[h])<;>(try simp only[jc]at h)<;>try omega|(refine⟨n+1,⟨?_⟩,⟨by omega⟩,?_⟩;rotate_left;focus (simp only[ft,simprocAttr];and_intros<;>try first|exact .aP _|omega))
   .exact aj (by rw[Ba f])
   .refine⟨by omega,?_⟩;by_cases z:n+1<s.length
    .by_cases p:cls (gd s (n+1))<0
     .exact .inr (.inr (.inl p))
     .exact .inr (.inr (.inr (.inr (by simp only[kA];omega))))
    .exact .inr (.inl av)
  .obtain⟨q,r⟩:=HM a l d;repeat' first|refine qu ?_|refine cs ?_ ?_<;>intro h<;>try omega|(refine⟨jJ s (Cy s[n]) (n+1),⟨?_⟩,⟨av⟩,?_⟩;rotate_left;focus (simp only[ft,simprocAttr];try omega))|(refine w2 (by simp only[pU]<;>rfl) UU (Qo s n a j) (by simp only[pU]<;>rfl) ?_ ?_;(·refine nG ?_;simp only[dL]<;>rfl))|refine lq (Er s[n]) ?_
   .exact aj (by rw[q];simp[gP.v])
   .exact⟨o,r⟩
 .repeat' first|refine k9 ?_|refine cs ?_ ?_<;>intro h<;>try omega|apply rN rfl rfl rfl
  have:n=s.length:=av;subst this;exact .refl _
def lU(k:Int)(l:List gP)(n:Nat):List Int:=((List.range n).filter λi=>(l.getD i ⟨0,0,0⟩).kind==k).map λi:Nat=>(i:Int)
def pH(k:Int)(l:List gP){n:Nat}(h:n<l.length):lU k l (n+1)=if l[n].kind=k then lU k l n++[(n:Int)]else lU k l n:=by
 have:l.getD n ⟨0,0,0⟩=l[n]:=by simp[ap,h]
 unfold lU;rw[dE,gq,aE];by_cases a:l[n].kind=k
 .rw[ax a];simp[h,a]
 .rw[an a];simp[h,a]
def sL(k:Int)(l:List gP)(n:Nat):(lU k l n).length<=n:=by
 unfold lU;rw[aq];exact aQ (gS _ _) bR
def Qp(l:List gP)(k:Int)(d:l.length<=1000000):af 181 [pj l,I k] (fx (lU k l l.length)) true:=by
 refine pk f181 ?_ [24];repeat' simp only[dq,simprocAttr]
 refine sk (bL:=[]) (λn:Nat=>n<=l.length) (λn=>[(10,I n,false),(5,fx (lU k l n),true)]) (λn=>l.length-n) (0) (aL _) ?_;rintro n f;rcases am n l.length with a|a
 .have j:=sL k l n;repeat' first|refine qu ?_|refine cs ?_ ?_<;>intro h<;>try omega|(refine⟨n+1,⟨?_⟩,⟨av⟩,?_⟩;rotate_left;focus (simp only[fQ,fM,bK,cF];and_intros;all_goals(try(simp only[mS]));all_goals(try(first|(intro h;cases h;done)|(intro _;(simp;done))|(refine aj (ar I ?_);omega)|((repeat first|with_reducible (first|exact Kept.refl _|refine ez ?_|refine eJ ?_|refine ek ?_|refine fX ?_|refine dT ?_)|(with_reducible refine en ?_ ?_;rotate_left;(simp only[pU])));done)))))|refine ec ?_
  all_goals first|omega|exact aj (by rw[pH k l a,ax (by assumption)];simp)|exact aj (by rw[pH k l a,an (by assumption)])
 .exact XF
def zM(s:T)(a:s.length<=1000000):af 126 [S s] (fx (lU 3 (cq s) (cq s).length)) true:=by
 have:=lJ s s.length;refine pk f126 ?_;repeat' first|refine k9 ?_|((first|refine iR (Et s a) ?_ ?_|refine iR (Qp (cq s) 3 (by unfold cq;omega)) ?_ ?_);·refine nG ?_;simp only[dL]<;>rfl)|apply rN rfl rfl rfl
 exact .refl _
def zN(s:T)(a:s.length<=1000000)(f:af 185 [S s] (pj (cq s)) false):af 196 [S s] (fx (lU 3 (cq s) (cq s).length)) true:=by
 have a:(cq s).length<=1000000:=aQ (lJ s s.length) a;refine pk f196 ?_ [24];repeat' first|refine k9 ?_|refine lq f ?_
 generalize cq s=l at a;refine sl (λn:Nat=>n<=l.length) (λn=>[(5,I n,false),(4,fx (lU 3 l n),true)]) (λn=>l.length-n) (0) (aL _) ?_;rintro n j;rcases am n l.length with d|d
 .have o:=sL 3 l n;repeat' first|refine qu ?_|refine cs ?_ ?_<;>intro h<;>try omega|(refine⟨n+1,⟨?_⟩,⟨av⟩,?_⟩;rotate_left;focus (simp only[ft,simprocAttr];and_intros<;>try first|exact .aP _|omega))|refine ec ?_
  all_goals first|omega|exact aj (by rw[pH 3 l d,ax (by assumption)];simp)|exact aj (by rw[pH 3 l d,an (by assumption)])
 .exact XF
def No(l:List gP):lG 3 (l.map gP.v):=lG.map (λy=>rfl) l
def x3(s:T):∀n,0<n->¬cls (gd s (n-1))<0->∃(l:List gP)(a:Nat),a<n/\jo s n=l++[⟨a,n,cls (gd s (n-1))⟩]
 |m+1,_,h=>by
  rw[kA]at h ⊢
  by_cases d:0<m/\cls (gd s m)<2/\cls (gd s (m-1))=cls (gd s m)
  .obtain⟨l,a,f,e⟩:=x3 s m d.1 (by rw[d.2.2];exact h);exact⟨l,a,av,by simp only[jo,qL,h,cE,ax d,e];simp[d.2.2]⟩
  .exact⟨jo s m,m,av,by simp only[jo,qL,h,cE,an d];simp⟩
def Np{s:T}{n:Nat}(h:¬cls (gd s n)<0)(a:¬(0<n/\cls (gd s n)<2/\cls (gd s (n-1))=cls (gd s n))):jo s (n+1)=jo s n++[⟨n,n+1,cls (gd s n)⟩]:=by
 simp only[jo,qL,h,cE,an a]
def YT:CF GL f185 [54,55] [] 185:=ji
def sM(s:T)(K:s.length<=1000000):af 185 [S s] (pj (cq s)) false:=by
 refine Pure.gg (by simp only[du]) (by simp only[du]) (eU hm YT.ok (bF rfl) ?_);repeat' simp only[dq,simprocAttr]
 refine dQ rfl rfl (λ(n:Nat) t=>n<=s.length/\t.Z 4=I n/\gh 3 t.E (t.Z 3) ((jo s n).map gP.v)) (λn=>s.length-n) 0 ?_ ?_
 .exact⟨aL _,rfl,gh.nil⟩
 rintro n t ⟨aB,q,r⟩ ab;have L:t.Z 0=S s:=by rw[ab 0 (by decide)];rfl
 have hlen:=r.len;have aC:=lJ s n;rw[aq]at hlen;rcases am n s.length with d|d
 .repeat' first|simp(disch:=omega) only[dq,simprocAttr,L,q,hlen,(show((n:Int)-1).toNat=n-1 by omega)]|(first|refine bY ?_ ?_|refine cY ?_ ?_)<;>intro h<;>(try simp only[bO]at h)<;>(try simp only[h])<;>(try simp only[jc]at h)<;>try omega|refine ec ?_|(refine iT (Jg s[n]) ?_ ?_;·simp only[dL,simprocAttr]<;>rfl)|(refine iT (Jg (s[n-1]'(by omega))) ?_ ?_;·simp only[dL,simprocAttr]<;>rfl)
  .refine⟨n+1,⟨?_⟩,⟨by omega⟩⟩;simp only[da,simprocAttr];refine⟨d,rfl,?_⟩;rw[Ba (by rw[kF d];exact h)];exact r
  .have E:gd s (n-1)=s[n-1]:=kF (by omega);obtain⟨l,a,N,e⟩:=x3 s n av (by rw[E,h];omega);have D:jo s (n+1)=l++[⟨a,n+1,cls s[n]⟩]:=by
    rw[<-kF d];rw[E,h,<-kF d]at e;exact Dk (s:=s) (n:=n) N (by rw[kF d];omega) (by rw[kF d];omega) (by rw[kF d,E,h]) e
   have u:(jo s n).length=l.length+1:=by rw[e];simp
   obtain⟨y,⟨H,hx⟩|⟨id,c,rest,H,dV,hb,f,ac⟩⟩:=r
   .rw[kf]at hx;rw[hx]at u;simp at u
   repeat' simp(disch:=omega) only[dq,simprocAttr,H,(show((jo s n).length-1:Int).toNat=l.length by omega)]
   have P:=dM y;rw[aq]at P;refine z7 (cells:=b1 ((jo s n).map gP.v)++rest) ?_ ?_ ?_ λaD Q a0 a1 ad a2 ai=>?_
   .exact sT
   .exact sT
   .rw[ae];omega
   repeat' simp(disch:=omega) only[dq,simprocAttr,Q,q]
   refine⟨n+1,⟨?_⟩,⟨av⟩⟩;simp only[da,Q,↓reduceIte,Nat.reduceEqDiff];refine⟨d,rfl,?_⟩;rw[H];have R:((jo s n).map gP.v)[l.length]?=some (.agg [I a,I n,I (cls s[n])]):=by rw[e,aE];simp[gP.v,E,h]
   have o:=KV y R (j:=1) (c:=I (n+1)) bR rfl rest;have z:((jo s n).map gP.v).set l.length (.agg [I a,I (n+1),I (cls s[n])])=(jo s (n+1)).map gP.v:=by rw[e,D];simp[gP.v]
   simp only[aw,ay]at o;rw[z]at o;have p:((jo s (n+1)).map gP.v).length=((jo s n).map gP.v).length:=by rw[<-z,eT]
   refine⟨No _,.inr ⟨id,c,rest,by rw[p],?_,?_,by rw[p];exact f,by rw[p];exact ac⟩⟩
   .rw[ai];simp only[bh];exact dV
   .rw[ad,bl,<-o];simp only[da,↓reduceIte,Nat.reduceEqDiff,I]
  all_goals
   have D:jo s (n+1)=jo s n++[⟨n,n+1,cls s[n]⟩]:=by
    rw[<-kF d];refine Np (by rw[kF d];omega) λf=>?_;have E:gd s (n-1)=s[n-1]:=kF av;rw[kF d,E]at f;obtain⟨l,a,N,e⟩:=x3 s n f.1 (by rw[E,f.2.2];omega);have:(jo s n).length=l.length+1:=by rw[e];simp
    omega
   refine iE (xs:=(jo s n).map gP.v) (ys:=[gP.v ⟨n,n+1,cls s[n]⟩]) ?_ ?_ ?_ ?_ ?_ rfl ?_ ?_ λv aA hm hb _=>?_
   .exact sT
   .exact sT
   .exact No [⟨n,n+1,cls s[n]⟩]
   .exact sT
   .simp only[da];intro l K;cases K
   .rw[aq];simp;omega
   .intro _ f;cases f
   repeat' simp(disch:=omega) only[gE,simprocAttr,q]
   refine⟨n+1,⟨?_⟩,⟨av⟩⟩;simp only[da];refine⟨d,rfl,?_⟩;rw[D,aE];exact hm
 .repeat' first|simp only[dq,simprocAttr,L,q]|refine cs ?_ ?_<;>intro h<;>try omega
  have:n=s.length:=av;subst this;refine⟨nE,x2 rfl ?_⟩;simp only[da];exact r
def qM{s:T}{n:Nat}(hn:n<s.length)(h:tx s n=true):vd s=false:=by
 unfold vd;exact Yd
def yJ{s:T}(h:∀i,i<s.length->tx s i=false):vd s=true:=by
 unfold vd;rw[bP];intro i a;simp[h i (by simpa using a)]
def zO(s:T)(l:s.length<=1000000):af 125 [S s] (I (g3 s)):=by
 have o:=lJ s s.length;have q:(cq s).length<=s.length:=o;refine pk f125 ?_ [100001];repeat' first|refine k9 ?_|refine cs ?_ ?_<;>intro h|refine q1 ?_
 .exact Ye
 refine sl (λn:Nat=>n<=s.length/\∀i,i<n->tx s i=false) (λn=>[(11,I n,false)]) (λn=>s.length-n) (0) (⟨av,λi h=>av⟩) ?_;rintro n ⟨r,d⟩;rcases am n s.length with a|a
 .repeat' first|simp(disch:=omega) only[dq,simprocAttr]|refine cs ?_ ?_<;>intro h<;>try omega|refine ba (n+1) ?_|(refine w2 (by simp only[pU]<;>rfl) UT (Qn s n a av) (by simp only[pU]<;>rfl) ?_ ?_;(·refine nG ?_;simp only[dL]<;>rfl))|refine q1 ?_
  .exact aj (ar I (by simp only[g3];rw[an av,ax (qM a h)]))
  .refine⟨av,λi f=>?_⟩;rcases gr (hY f)with p|rfl
   .exact d i p
   .exact h
 .have j:=yJ λi f=>d i av;repeat' first|refine k9 ?_|refine cs ?_ ?_<;>intro h<;>try omega|refine lq (Et s l) ?_|refine q1 ?_
  all_goals refine aj (ar I ?_)
  all_goals simp only[g3]
  all_goals rw[an av,an (by simp[j])]
  .rw[ax h]
  .rw[an (by assumption),ax av]
  .rw[an (by assumption),an av]
def Bb(s:T)(i:Nat):Bool:=(gd s i).toNat<32||126< (gd s i).toNat||decide (0<i)&&((gd s i).toNat==32)&&((gd s (i-1)).toNat==32)
def FJ{s:T}{i:Nat}(h:Bb s i=true):tx s i=true:=by
 simp only[Bb,tx,h9,aX,cy,iA]at h ⊢
 omega
def Qq{s:T}(h:∀i,i<s.length->Bb s i=false)(h0:(gd s 0).toNat≠32)(f:(gd s (s.length-1)).toNat≠32):vd s=true:=by
 refine yJ λi j=>?_;have:=h i j;simp only[Bb,tx,nV,iw,fi,kB]at this ⊢
 refine⟨this.1,?_⟩;by_cases e:i=0
 .subst e;exact .inl h0
 .by_cases d:i=s.length-1
  .subst d;exact .inl f
  .rcases this.2 with(a|a)|a
   .omega
   .exact .inl a
   .exact .inr ⟨⟨e,d⟩,a⟩
def Eu(s:T)(t:s.length<=1000000):af 195 [S s] (I (g3 s)):=by
 have u:=lJ s s.length;have H:(cq s).length<=s.length:=u;refine pk f195 ?_;rcases cS s.length with a|a
 .repeat' first|simp only[dq,simprocAttr,a]|refine bY ?_ ?_<;>intro h<;>try simp only[jc]at h|refine q1 ?_
  all_goals refine aj (ar I ?_)
  all_goals(rw[bJ.1 a];rfl)
 have y:(s.length:Int)-1=(s.length-1:Nat):=av;have f:s.length-1<s.length:=av;repeat' first|simp(disch:=omega) only[dq,simprocAttr,y]|(first|refine cz ?_ ?_|refine gz ?_ ?_)<;>intro j h<;>(try simp only[j])<;>try omega|refine q1 ?_
 .exact Ye
 .exact aj (ar I (by simp only[g3];rw[an av,ax (qM f (by simp only[tx,kF f];simp;omega))]))
 rotate_left
 .exact aj (ar I (by simp only[g3];rw[an av,ax (qM a (by simp only[tx,kF a];simp;omega))]))
 refine sl (λn:Nat=>n<=s.length/\∀i,i<n->Bb s i=false) (λn=>[(3,I n,false)]) (λn=>s.length-n) (0) (⟨av,λi h=>av⟩) ?_;rintro n ⟨K,l⟩;have o:s≠[]:=by rintro rfl;exact absurd a dt
 rcases am n s.length with d|d
 .have step:Bb s n=false->n+1<=s.length/\∀i,i<n+1->Bb s i=false:=λh=>⟨av,λi p=>by
   rcases gr (hY p)with z|rfl
   .exact l i z
   .exact h⟩
  rcases cS n with rfl|E
  .repeat' first|simp(disch:=omega) only[dq,simprocAttr]|(first|refine cz ?_ ?_|refine gz ?_ ?_)<;>intro j h<;>(try simp only[j])<;>try omega|refine ba (0+1) ?_|refine q1 ?_
   all_goals first
    |exact step (by simp only[Bb,kF d];simp;omega)
    |exact aj (ar I (by simp only[g3];rw[an av,ax (qM d (FJ (by simp only[Bb,kF d];simp;omega)))]))
  .have D:(n:Int)-1=(n-1:Nat):=av;have q:n-1<s.length:=av;repeat' first|simp(disch:=omega) only[dq,simprocAttr,D]|(first|refine cz ?_ ?_|refine gz ?_ ?_)<;>intro j h<;>(try simp only[j])<;>try omega|refine ba (n+1) ?_|refine q1 ?_
   all_goals first
    |exact step (by simp only[Bb,kF d,kF q];simp;omega)
    |exact aj (ar I (by simp only[g3];rw[an av,ax (qM d (FJ (by simp only[Bb,kF d,kF q];simp;omega)))]))
 .have r:=Qq (λi p=>l i av) (by rw[kF a];omega) (by rw[kF f];omega);repeat' first|refine k9 ?_|refine cs ?_ ?_<;>intro h<;>try omega|refine lq (sM s t) ?_|refine q1 ?_
  all_goals refine aj (ar I ?_)
  all_goals simp only[g3]
  all_goals rw[an av,an (by simp[r]),an o]
  .rw[ax av]
  .rw[an av]
end Go.Bx
namespace Go.Bx
open Go.Proofs Go.Proofs.Tryz Go.RowKit
def Mi(b o j:Nat):(⟨b,o,none⟩:Addr).add j=⟨b,o+j,none⟩:=by simp[Addr.add]
def NC{GL:ak}{g:aW}{w w':World}{args:List V}{xs:Array Value}{E:aJ}{v:V}{x:Value}(a:ry GL g w E args xs)(hb:E.box=λ_=>none)(hm:E.mp=λ_=>none)(h:Grow g w w')(f:VR g v x):u7 GL g w g w' E v false x where
 gA:=⟨a.gA.kn,λb o x e=>by rw[h.cell b o (a.gA.il b o (by rw[e];simp))];exact a.gA.gZ b o x e,λb d e=>⟨h.obj _ _ (a.gA.e8 b d e).2 (a.gA.e8 b d e).1,(a.gA.e8 b d e).2⟩,λb o e=>bA (a.gA.il b o e) h.size,a.gA.kC⟩
 heap:=⟨λid cs e=>(by rw[hb]at e;cases e),λid cs j c b x e=>(by rw[hb]at e;cases e),λid p e=>(by rw[hm]at e;cases e),a.heap.Y⟩
 res:=f
 step:=⟨λ_ _ _ e=>e,λ_ _ e=>e,λ_ _ e=>e,λb o e=>⟨e,h.cell b o (a.gA.il b o (by rw[e];simp)),h.Tg b o (a.gA.il b o (by rw[e];simp)) (by rw[e];simp)⟩,λb d e l hb=>h.obj b d l hb,λ_ _ e _=>e,h.size,h.gW,λb hb e=>h.whole b hb⟩
 tail:=bR
def ND{g:aW}(W:World)(ob:Obj)(a:Addr)(v:Value)(d:a.block=W.heap.size):Grow g W ((W.alloc ob).setCell a v).drew where
 size:=by show W.heap.size<=((W.alloc ob).setCell a v).heap.size;simp[World.setCell]
 cell b o h:=by
  show((W.alloc ob).setCell a v).cell? (cl b o)=_;rw[World.cell?_setCell_other _ _ _ _ (by rintro rfl;exact cr h d),mr W ob o (cr h)]
 Tg b o h _:=by
  show((W.alloc ob).setCell a v).frozen? (cl b o)=_;rw[World.frozen?_setCell];exact oX W ob o (cr h)
 obj b f _ h:=by
  have hb:b<W.heap.size:=(cD.1 h).1;have e:((W.alloc ob).setCell a v).heap[b]?=(W.alloc ob).heap[b]?:=by
   simp only[World.setCell,dz];rw[an av]
  show((W.alloc ob).setCell a v).heap[b]?=_;rw[e];exact pE W ob h
 gW:=⟨rfl,rfl,rfl,λ_=>fO _⟩
 whole b h:=by
  have e:((W.alloc ob).setCell a v).heap[b]?=(W.alloc ob).heap[b]?:=by
   simp only[World.setCell,dz];rw[an av]
  show((W.alloc ob).setCell a v).heap[b]?=_;rw[e];exact X9
def Dm{g:aW}(W:World)(ob:Obj):Grow g W (W.alloc ob).drew where
 size:=by show W.heap.size<=(W.heap.push ob).size;simp
 cell b o h:=mr W ob o (cr h)
 Tg b o h _:=oX W ob o (cr h)
 obj b a _ h:=pE W ob h
 gW:=⟨rfl,rfl,rfl,λ_=>fO _⟩
 whole b h:=by
  exact X9
set_option maxRecDepth 1000000 in
def QA(s r:ByteArray)(cap:Nat)(C:Array Value)(w:World)(f:0<s.size)(b:UInt8)(o:97<=b.toNat)(h2:b.toNat<=122)
 (a:(convert 9 181 (.string s)).run prog w=.ok (.slice (some ⟨w.heap.size,0,none⟩) s.size cap) (w.drew.alloc (.cells C 5 (C.size,C.size+1))))
 (j:(w.alloc (.cells C 5 (C.size,C.size+1))).cell? ⟨w.heap.size,0,none⟩=some (.int .u8 b.toNat)) (l:(w.alloc (.cells C 5 (C.size,C.size+1))).frozen? ⟨w.heap.size,0,none⟩=false)
 (d:(convert 181 9 (.slice (some ⟨w.heap.size,0,none⟩) s.size cap)).run prog ((w.alloc (.cells C 5 (C.size,C.size+1))).setCell ⟨w.heap.size,0,none⟩ (.int .u8 (((b.toNat:Int)-97+65)%256))).drew=.ok (.string r) ((w.alloc (.cells C 5 (C.size,C.size+1))).setCell ⟨w.heap.size,0,none⟩ (.int .u8 (((b.toNat:Int)-97+65)%256))).drew):
 Calls prog 132 #[.string s] w λe w'=>e=.returned (.string r)/\w'=((w.alloc (.cells C 5 (C.size,C.size+1))).setCell ⟨w.heap.size,0,none⟩ (.int .u8 (((b.toNat:Int)-97+65)%256))).drew:=by
 go_enter func132,Tryz.ntmps132
 go_wp2
 go_ret
 exact⟨rfl,rfl⟩
set_option maxRecDepth 1000000 in
def NE(s r:ByteArray)(cap:Nat)(C:Array Value)(w:World)(f:0<s.size)(b:UInt8)(l:97<=b.toNat)(h2:¬(b.toNat:Int)<=122)
 (a:(convert 9 181 (.string s)).run prog w=.ok (.slice (some ⟨w.heap.size,0,none⟩) s.size cap) (w.drew.alloc (.cells C 5 (C.size,C.size+1))))
 (j:(w.alloc (.cells C 5 (C.size,C.size+1))).cell? ⟨w.heap.size,0,none⟩=some (.int .u8 b.toNat))
 (d:(convert 181 9 (.slice (some ⟨w.heap.size,0,none⟩) s.size cap)).run prog (w.alloc (.cells C 5 (C.size,C.size+1))).drew=.ok (.string r) (w.alloc (.cells C 5 (C.size,C.size+1))).drew):
 Calls prog 132 #[.string s] w λe w'=>e=.returned (.string r)/\w'=(w.alloc (.cells C 5 (C.size,C.size+1))).drew:=by
 go_enter func132,Tryz.ntmps132
 go_wp2
 go_ret
 exact⟨rfl,rfl⟩
set_option maxRecDepth 1000000 in
def NF(s r:ByteArray)(cap:Nat)(C:Array Value)(w:World)(f:0<s.size)(b:UInt8)(l:¬(97:Int)<=b.toNat)
 (a:(convert 9 181 (.string s)).run prog w=.ok (.slice (some ⟨w.heap.size,0,none⟩) s.size cap) (w.drew.alloc (.cells C 5 (C.size,C.size+1))))
 (j:(w.alloc (.cells C 5 (C.size,C.size+1))).cell? ⟨w.heap.size,0,none⟩=some (.int .u8 b.toNat))
 (d:(convert 181 9 (.slice (some ⟨w.heap.size,0,none⟩) s.size cap)).run prog (w.alloc (.cells C 5 (C.size,C.size+1))).drew=.ok (.string r) (w.alloc (.cells C 5 (C.size,C.size+1))).drew):
 Calls prog 132 #[.string s] w λe w'=>e=.returned (.string r)/\w'=(w.alloc (.cells C 5 (C.size,C.size+1))).drew:=by
 go_enter func132,Tryz.ntmps132
 go_wp2
 go_ret
 exact⟨rfl,rfl⟩
def FP:T->T
 |[]=>[]
 |b::r=>if 97<=b.toNat/\b.toNat<=122 then UInt8.ofNat (b.toNat-32)::r else b::r
def QB(b:UInt8)(r:T)(ai:r.length<=1000):af 132 [S (b::r)] (S (FP (b::r))):=by
 refine⟨rfl,rfl,λg w z u R K=>?_⟩;obtain⟨p,rfl⟩:∃p,z=#[p]:=by
  cases z with|mk l=>match l,u.len with|[x],_=>exact⟨x,rfl⟩
 have hx:p=.string ⟨(b::r).toArray⟩:=by cases u.arg 0 (S (b::r)) p rfl rfl;rfl
 subst hx;have a:=run_bytes_of_string (P:=prog) w 9 181 5 ⟨(b::r).toArray⟩ underlying9 underlying181 underlying5;generalize hC:bytesRow ⟨(b::r).toArray⟩ (grownCap w (ByteArray.mk (b::r).toArray).size 0 5)=C at a;have iI:∀(j:Nat) y,(b::r)[j]?=some y->(w.alloc (.cells C 5 (C.size,C.size+1))).cell? ⟨w.heap.size,j,none⟩=some (.int .u8 y.toNat):=by
  intro j y hj;have o:=(aH.1 hj).1;rw[World.cell?_alloc_mark,<-hC,bytesRow_at _ _ j (by simpa using o)];have q:=(aH.1 hj).2;simp[<-q]
 have out:∀(t:T)(W:World),Grow g w W->Calls prog 132 #[.string ⟨(b::r).toArray⟩] w (λe D=>e=.returned (.string ⟨t.toArray⟩)/\D=W)->t=FP (b::r)->Calls prog 132 #[.string ⟨(b::r).toArray⟩] w R:=by
  intro t W L N Q;refine N.mono λe D ⟨ab,ac⟩=>?_;subst ab ac Q;exact K _ _ _ _ _ _ ⟨rfl,rfl⟩ (NC u rfl rfl L (.str _))
 have V4:(ByteArray.mk (b::r).toArray).size=(b::r).length:=by simp[ByteArray.size]
 have d:0< (ByteArray.mk (b::r).toArray).size:=by rw[V4];simp
 have H:0<C.size:=by
  rw[<-hC];simp only[bytesRow,kS,Array.size_map];simp;omega
 have ad:∀j,j<C.size->(w.alloc (.cells C 5 (C.size,C.size+1))).frozen? ⟨w.heap.size,j,none⟩=false:=by
  intro j hj;rw[World.frozen?_alloc_mark];simp;omega
 have f:=iI 0 b rfl;by_cases o:97<=b.toNat
 .by_cases q:b.toNat<=122
  .have hm:(((b.toNat:Int)-97+65)%256)=((UInt8.ofNat (b.toNat-32)).toNat:Int):=by
    rw[pD];omega
   refine out (UInt8.ofNat (b.toNat-32)::r) _ (ND w _ _ _ rfl) (QA _ _ _ _ w d b o q a f (ad 0 H) ?_) (by rw[FP,ax ⟨o,q⟩]);have hb:=run_convert_bytes_back (P:=prog) ((w.alloc (.cells C 5 (C.size,C.size+1))).setCell ⟨w.heap.size,0,none⟩ (.int .u8 (((b.toNat:Int)-97+65)%256))).drew 181 9 5 ⟨w.heap.size,0,none⟩
    (grownCap w (ByteArray.mk (b::r).toArray).size 0 5) (UInt8.ofNat (b.toNat-32)::r) underlying181 underlying5 underlying9 (λj hj=>by
     show((w.alloc (.cells C 5 (C.size,C.size+1))).setCell ⟨w.heap.size,0,none⟩ (.int .u8 (((b.toNat:Int)-97+65)%256))).cell? _=_;rw[Mi];cases j with
     |zero=>rw[hm];exact World.cell?_setCell_same _ _ _ f
     |succ j=>
      rw[World.cell?_setCell_other _ _ _ _ bR,cA];exact iI (j+1) _ (by simp at hj ⊢))
   rw[V4];exact hb
  .refine out (b::r) _ (Dm w _) (NE _ _ _ _ w d b o av a f ?_) (by rw[FP,an av]);exact X1
 .refine out (b::r) _ (Dm w _) (NF _ _ _ _ w d b av a f ?_) (by rw[FP,an av]);exact X1
end Go.Bx
