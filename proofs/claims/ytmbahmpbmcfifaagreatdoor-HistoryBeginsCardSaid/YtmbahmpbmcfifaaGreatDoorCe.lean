/- Lemmas for HistoryBegins. -/
import Derived.Test.YtmbahmpbmcfifaaGreatDoorCd
import Derived.Laws.AppendOwn
import Derived.Laws.IdiomStrings
import Derived.StillTactics
import Derived.Tactics
import Derived.Tactics2
noncomputable section
set_option linter.all false
set_option maxHeartbeats 4000000
set_option maxRecDepth 100000
namespace Go.Bx
open Go.Proofs Go.Proofs.Tryz
attribute [local irreducible] vc er dq b4 bU run iw iI iW i1 iG i2 iX iq iH iZ gA iY cS
def cls(b:UInt8):Int:=
 if b.toNat=32 then -1 else if 97<=b.toNat/\b.toNat<=122\/65<=b.toNat/\b.toNat<=90 then 0 else if 48<=b.toNat/\b.toNat<=57 then 1 else if b.toNat=64 then 3 else 2
def CY(b:UInt8):Int:=
 if 97<=b.toNat/\b.toNat<=122\/65<=b.toNat/\b.toNat<=90 then 0 else if 48<=b.toNat/\b.toNat<=57 then 1 else if b.toNat=64 then 3 else 2
def Ic{b:UInt8}(h:b.toNat≠32):CY b=cls b:=by simp[CY,cls,h]
abbrev U(b:UInt8):V:=.int .u8 b.toNat
def Jz(b:UInt8):af 240 [U b] (I (cls b)):=by
 refine pk f240 ?_;repeat' first|refine k7 ?_|(first|refine cz ?_ ?_|refine gz ?_ ?_)<;>intro a h<;>(try simp only[a])<;>try omega|refine q1 ?_
 all_goals exact ak (aq I (by unfold cls;(repeat' split)<;>omega))
def EQ(b:UInt8):af 229 [U b] (I (CY b)):=by
 refine pk f229 ?_;repeat' first|refine k7 ?_|(first|refine cz ?_ ?_|refine gz ?_ ?_)<;>intro a h<;>(try simp only[a])<;>try omega|refine q1 ?_
 all_goals exact ak (aq I (by unfold CY;(repeat' split)<;>omega))
def QB(a b:T)(h:a.length<=1000000000)(d:b.length<=1000000000):af 299 [S a,S b] (S (a++32::b)):=by
 refine pk f299 ?_;exact Td
def QC(a b:T)(h:a.length<=1000000000)(d:b.length<=1000000000):af 312 [S a,S b] (S (a++32::b)):=by
 refine pk f312 ?_;exact Td
def lx(l:List gS)(k:Nat):Bool:=k=0\/(l.getD k ⟨0,0,0⟩).W>(l.getD (k-1) ⟨0,0,0⟩).end_
def ES(l:List gS)(k:Nat)(a:k<l.length)(o:l.length<=100000):af 186 [pf l,I k] (B (lx l k)):=by
 refine pk f186 ?_;rcases cZ k with rfl|p
 .repeat' first|refine k7 ?_|refine gs ?_ ?_<;>intro h<;>try(exact absurd trivial h)|refine q1 ?_
  all_goals exact ak (by simp[lx])
 .have d:(k:Int)-1=(k-1:Nat):=av;have f:k-1<l.length:=av;repeat' first|simp(disch:=try exact om) only[dt,simprocAttr,d]|refine gz ?_ ?_<;>intro j h<;>(try simp only[j])<;>try omega|refine q1 ?_
  all_goals exact ak (by simp[lx,ap,a,f];omega)
def gd(s:T)(i:Nat):UInt8:=s.getD i 0
def kE{s:T}{i:Nat}(h:i<s.length):gd s i=s[i]:=by simp[gd,ap,h]
def tz(s:T)(i:Nat):Bool:=
 (gd s i).toNat<32||126< (gd s i).toNat||(gd s i).toNat==32&&(i==0||i==s.length-1||(gd s (i-1)).toNat==32)
def U7:fK prog 179=true:=by kernel_rfl
def QD(s:T)(k:Nat)(d:k<s.length)(l:s.length<=100000):af 179 [I k,.ep [S s]] (B (tz s k)):=by
 refine pk f179 ?_;rcases cZ k with rfl|o
 .repeat' first|simp(disch:=omega) only[dt,simprocAttr]|refine gz ?_ ?_<;>intro a h<;>try simp only[a]|refine q1 ?_
  all_goals exact ak (aq V.bool (by rw[db];simp[tz,kE d]<;>omega))
 .have f:(k:Int)-1=(k-1:Nat):=av;have j:k-1<s.length:=av;have p:((s.length:Int)-1=k)=(k=s.length-1):=by rw[eq_iff_iff];omega
  repeat' first|simp(disch:=omega) only[dt,simprocAttr,f]|refine gz ?_ ?_<;>intro a h<;>(try simp only[a])<;>try omega|refine q1 ?_
  all_goals exact ak (aq V.bool (by rw[db];simp[tz,kE d,kE j]<;>omega))
def qE(s:T)(n:Nat)(out:List gS):List gS:=
 let k:=cls (gd s n)
 if k<0 then out
 else if 0<n/\k<2/\cls (gd s (n-1))=k then match out.getLast? with
  |some t=>out.dropLast++[⟨t.W,n+1,t.kind⟩]
  |none=>out++[⟨n,n+1,k⟩]
 else out++[⟨n,n+1,k⟩]
def jq(s:T):Nat->List gS
 |0=>[]
 |n+1=>qE s n (jq s n)
def cr(s:T):List gS:=jq s s.length
def Lm(s:T)(n:Nat)(l:List gS):(qE s n l).length<=l.length+1:=by
 unfold qE;dsimp only;split
 .omega
 .split
  .split
   .simp only[ae,List.length_dropLast,ew];omega
   .simp
  .simp
def lC(s:T):∀n,(jq s n).length<=n
 |0=>an _
 |n+1=>aT (Lm s n _) (lr (lC s n))
def vj(s:T):Bool:=(List.range s.length).all λi=> !tz s i
def g8(s:T):Int:=if 4096<s.length then 4 else if vj s=false then 2 else if s=[]then 2 else if 256< (cr s).length then 4 else 0
def jL(s:T)(k:Int)(n:Nat):Nat:=if h:n<s.length then(if(k=0\/k=1)/\CY s[n]=k then jL s k (n+1)else n)else n
 termination_by s.length-n
def Ln(s:T)(k:Int)(n:Nat):n<=jL s k n:=by
 induction h:s.length-n using Nat.strongRecOn generalizing n with
 |_ m ih=>
  unfold jL;split
  .split
   .exact aT (fO n) (ih _ av (n+1) rfl)
   .exact an _
  .exact an _
def Lo(s:T)(k:Int)(n:Nat)(a:n<=s.length):jL s k n<=s.length:=by
 induction h:s.length-n using Nat.strongRecOn generalizing n with
 |_ m ih=>
  unfold jL;split
  .split
   .exact ih _ av (n+1) av rfl
   .exact a
  .exact a
def DI{s:T}{k:Int}{n:Nat}(h:n<s.length)(a:k=0\/k=1)(d:CY s[n]=k):jL s k n=jL s k (n+1):=by
 rw[jL,tZ h,ax ⟨a,d⟩]
def q6{s:T}{k:Int}{n:Nat}(h:∀h:n<s.length,(k=0\/k=1)->CY s[n]≠k):jL s k n=n:=by
 rw[jL];split
 next d=>rw[al (λa=>h d a.1 a.2)]
 .rfl
def U8:fK prog 228=true:=by kernel_rfl
def QE(s:T)(k:Nat)(o:k<s.length)(p:s.length<=1000000):af 228 [I k,.ep [S s]] (I (jL s (CY s[k]) (k+1))):=by
 refine pk f228 ?_ [34];repeat' first|simp(disch:=omega) only[dt,simprocAttr]|refine lq (EQ s[k]) ?_
 refine sl (λn:Nat=>k+1<=n/\n<=s.length/\jL s (CY s[k]) n=jL s (CY s[k]) (k+1)) (λn=>[(5,I n,false)]) (λn=>s.length-n) (k+1) (⟨av,av,rfl⟩) ?_;rintro n ⟨q,r,a⟩;rcases am n s.length with f|f
 .repeat' first|simp(disch:=omega) only[dt,simprocAttr]|(first|refine cz ?_ ?_|refine gz ?_ ?_)<;>intro d h<;>(try simp only[d])<;>try omega|refine ba (n+1) ?_|refine lq (EQ s[n]) ?_|refine q1 ?_
  all_goals first
   |exact⟨av,av,by rw[<-a,<-DI f av (by assumption)]⟩
   |exact ak (aq I (by rw[<-a,q6 (λ_ j l=>av)]))
 .repeat' first|refine k7 ?_|refine gz ?_ ?_<;>intro d h<;>(try simp only[d])<;>try omega|refine q1 ?_
  all_goals exact ak (aq I (by rw[<-a,q6 (λ_ j l=>av)]))
def vF(s:T)(n:Nat):Prop:=n=0\/s.length<=n\/cls (gd s n)<0\/2<=cls (gd s n)\/cls (gd s (n-1))≠cls (gd s n)
def BB{s:T}{n:Nat}(h:cls (gd s n)<0):jq s (n+1)=jq s n:=by simp[jq,qE,h]
def NJ{s:T}{n:Nat}(h:vF s n)(d:n<s.length)(a:¬cls (gd s n)<0):jq s (n+1)=jq s n++[⟨n,n+1,cls (gd s n)⟩]:=by
 have:¬(0<n/\cls (gd s n)<2/\cls (gd s (n-1))=cls (gd s n)):=by rintro⟨f,j,l⟩;rcases h with h|h|h|h|h<;>omega
 simp only[jq,qE,a,cH,al this]
def DJ{s:T}{a n:Nat}{l:List gS}(j:a<n)(o:0<=cls (gd s n))(h2:cls (gd s n)<2)(d:cls (gd s (n-1))=cls (gd s n))(f:jq s n=l++[⟨a,n,cls (gd s n)⟩]):
 jq s (n+1)=l++[⟨a,n+1,cls (gd s n)⟩]:=by
 have:0<n/\cls (gd s n)<2/\cls (gd s (n-1))=cls (gd s n):=⟨by omega,h2,d⟩;simp only[jq,qE,show¬cls (gd s n)<0 by omega,cH,ax this,f];simp
def NK{s:T}{a:Nat}(D:a<s.length)(hb:vF s a)(H:¬cls (gd s a)<0):∀n,a<n->n<=s.length->jL s (cls (gd s a)) n=jL s (cls (gd s a)) (a+1)->
 jq s n=jq s a++[⟨a,n,cls (gd s a)⟩]/\cls (gd s (n-1))=cls (gd s a)->
 jq s (jL s (cls (gd s a)) n)=jq s a++[⟨a,jL s (cls (gd s a)) n,cls (gd s a)⟩]/\vF s (jL s (cls (gd s a)) n):=by
 intro n;induction h:s.length-n using Nat.strongRecOn generalizing n with
 |_ m ih=>
  intro y K z ⟨r,u⟩;by_cases p:n<s.length
  .by_cases j:(cls (gd s a)=0\/cls (gd s a)=1)/\CY s[n]=cls (gd s a)
   .have q:s[n].toNat≠32:=by
     intro e;have:=j.2;simp[CY,e]at this;omega
    have f:cls (gd s n)=cls (gd s a):=by rw[kE p,<-Ic q];exact j.2
    have o:=DI p j.1 j.2;rw[o];refine ih _ av (n+1) rfl av av (by rw[<-o];exact z) ⟨?_,?_⟩
    .have:=DJ (s:=s) (a:=a) (n:=n) (l:=jq s a) y av av (by rw[u,f]) (by rw[f];exact r);rw[this,f];simp
    .simp[f]
   .have o:jL s (cls (gd s a)) n=n:=q6 λ_ d t=>j ⟨d,t⟩;rw[o];refine⟨r,?_⟩;unfold vF;by_cases d:cls (gd s n)<0
    .exact .inr (.inr (.inl d))
    .by_cases t:2<=cls (gd s n)
     .exact .inr (.inr (.inr (.inl t)))
     .refine .inr (.inr (.inr (.inr ?_)));rw[u];intro e;have q:s[n].toNat≠32:=by
       intro A;rw[kE p]at d;simp[cls,A]at d
      exact j ⟨av,by rw[Ic q,<-kE p];exact e.symm⟩
  .have o:jL s (cls (gd s a)) n=n:=q6 λd=>absurd d p;rw[o];exact⟨r,.inr (.inl av)⟩
def Ie{s:T}{a:Nat}(d:a<s.length)(hb:vF s a)(l:s[a].toNat≠32):
 jq s (jL s (CY s[a]) (a+1))=jq s a++[⟨a,jL s (CY s[a]) (a+1),CY s[a]⟩]/\vF s (jL s (CY s[a]) (a+1)):=by
 have f:CY s[a]=cls (gd s a):=by rw[Ic l,kE d]
 have j:¬cls (gd s a)<0:=by rw[<-f];unfold CY;(repeat' split)<;>omega
 rw[f];exact NK d hb j (a+1) av av rfl ⟨by rw[NJ hb d j];simp,bT⟩
def ET(s:T)(j:s.length<=1000000):af 180 [S s] (pf (cr s)) true:=by
 refine pk f180 ?_ [100001,32];repeat' simp only[dt,simprocAttr]
 refine sl (λn:Nat=>n<=s.length/\vF s n) (λn=>[(5,I n,false),(3,pf (jq s n),true)]) (λn=>s.length-n) (0) (⟨av,.inl rfl⟩) ?_;rintro n ⟨t,l⟩;rcases am n s.length with a|a
 .have u:=lC s n;have y:=Ln s (CY s[n]) (n+1);have o:=Lo s (CY s[n]) (n+1) av;by_cases d:s[n].toNat=32
  .have f:cls (gd s n)<0:=by rw[kE a];simp[cls,d]
   repeat' first|simp(disch:=omega) only[dt,simprocAttr,d]|refine bZ ?_ ?_<;>intro h<;>(try simp only[h])<;>(try simp only[jg]at h)<;>try omega|(refine⟨n+1,⟨?_⟩,⟨by omega⟩,?_⟩;rotate_left;focus (simp only[ft,simprocAttr];and_intros<;>try first|exact .aP _|omega))
   .exact ak (by rw[BB f])
   .refine⟨by omega,?_⟩;by_cases z:n+1<s.length
    .by_cases p:cls (gd s (n+1))<0
     .exact .inr (.inr (.inl p))
     .exact .inr (.inr (.inr (.inr (by simp only[kz];omega))))
    .exact .inr (.inl av)
  .obtain⟨q,r⟩:=Ie a l d;repeat' first|refine qp ?_|refine cs ?_ ?_<;>intro h<;>try omega|(refine⟨jL s (CY s[n]) (n+1),⟨?_⟩,⟨av⟩,?_⟩;rotate_left;focus (simp only[ft,simprocAttr];try omega))|(refine xi (by simp only[pY]<;>rfl) U8 (QE s n a j) (by simp only[pY]<;>rfl) ?_ ?_;(·refine mV ?_;simp only[ee]<;>rfl))|refine lq (EQ s[n]) ?_
   .exact ak (by rw[q];simp[gS.v])
   .exact⟨o,r⟩
 .repeat' first|refine k7 ?_|refine cs ?_ ?_<;>intro h<;>try omega|apply rJ rfl rfl rfl
  have:n=s.length:=av;subst this;exact .refl _
def lO(k:Int)(l:List gS)(n:Nat):List Int:=((List.range n).filter λi=>(l.getD i ⟨0,0,0⟩).kind==k).map λi:Nat=>(i:Int)
def pC(k:Int)(l:List gS){n:Nat}(h:n<l.length):lO k l (n+1)=if l[n].kind=k then lO k l n++[(n:Int)]else lO k l n:=by
 have:l.getD n ⟨0,0,0⟩=l[n]:=by simp[ap,h]
 unfold lO;rw[dX,gq,az];by_cases a:l[n].kind=k
 .rw[ax a];simp[h,a]
 .rw[al a];simp[h,a]
def sN(k:Int)(l:List gS)(n:Nat):(lO k l n).length<=n:=by
 unfold lO;rw[au];exact aT (fY _ _) bT
def QF(l:List gS)(k:Int)(d:l.length<=1000000):af 181 [pf l,I k] (fq (lO k l l.length)) true:=by
 refine pk f181 ?_ [24];repeat' simp only[dt,simprocAttr]
 refine sk (bJ:=[]) (λn:Nat=>n<=l.length) (λn=>[(10,I n,false),(5,fq (lO k l n),true)]) (λn=>l.length-n) (0) (aL _) ?_;rintro n f;rcases am n l.length with a|a
 .have j:=sN k l n;repeat' first|refine qp ?_|refine cs ?_ ?_<;>intro h<;>try omega|(refine⟨n+1,⟨?_⟩,⟨av⟩,?_⟩;rotate_left;focus (simp only[fR,fM,bL,cK];and_intros;all_goals(try(simp only[mR]));all_goals(try(first|(intro h;cases h;done)|(intro _;(simp;done))|(refine ak (aq I ?_);omega)|((repeat first|with_reducible (first|exact Kept.refl _|refine eF ?_|refine eO ?_|refine eB ?_|refine gy ?_|refine ec ?_)|(with_reducible refine eC ?_ ?_;rotate_left;(simp only[pY])));done)))))|refine ei ?_
  all_goals first|omega|exact ak (by rw[pC k l a,ax (by assumption)];simp)|exact ak (by rw[pC k l a,al (by assumption)])
 .exact X0
def Al(s:T)(a:s.length<=1000000):af 126 [S s] (fq (lO 3 (cr s) (cr s).length)) true:=by
 have:=lC s s.length;refine pk f126 ?_;repeat' first|refine k7 ?_|((first|refine jj (ET s a) ?_ ?_|refine jj (QF (cr s) 3 (by unfold cr;omega)) ?_ ?_);·refine mV ?_;simp only[ee]<;>rfl)|apply rJ rfl rfl rfl
 exact .refl _
def Am(s:T)(a:s.length<=1000000)(f:af 185 [S s] (pf (cr s)) false):af 196 [S s] (fq (lO 3 (cr s) (cr s).length)) true:=by
 have a:(cr s).length<=1000000:=aT (lC s s.length) a;refine pk f196 ?_ [24];repeat' first|refine k7 ?_|refine lq f ?_
 generalize cr s=l at a;refine sl (λn:Nat=>n<=l.length) (λn=>[(5,I n,false),(4,fq (lO 3 l n),true)]) (λn=>l.length-n) (0) (aL _) ?_;rintro n j;rcases am n l.length with d|d
 .have o:=sN 3 l n;repeat' first|refine qp ?_|refine cs ?_ ?_<;>intro h<;>try omega|(refine⟨n+1,⟨?_⟩,⟨av⟩,?_⟩;rotate_left;focus (simp only[ft,simprocAttr];and_intros<;>try first|exact .aP _|omega))|refine ei ?_
  all_goals first|omega|exact ak (by rw[pC 3 l d,ax (by assumption)];simp)|exact ak (by rw[pC 3 l d,al (by assumption)])
 .exact X0
def NL(l:List gS):lG 3 (l.map gS.v):=lG.map (λy=>rfl) l
def yl(s:T):∀n,0<n->¬cls (gd s (n-1))<0->∃(l:List gS)(a:Nat),a<n/\jq s n=l++[⟨a,n,cls (gd s (n-1))⟩]
 |m+1,_,h=>by
  rw[kz]at h ⊢
  by_cases d:0<m/\cls (gd s m)<2/\cls (gd s (m-1))=cls (gd s m)
  .obtain⟨l,a,f,e⟩:=yl s m d.1 (by rw[d.2.2];exact h);exact⟨l,a,av,by simp only[jq,qE,h,cH,ax d,e];simp[d.2.2]⟩
  .exact⟨jq s m,m,av,by simp only[jq,qE,h,cH,al d];simp⟩
def NM{s:T}{n:Nat}(h:¬cls (gd s n)<0)(a:¬(0<n/\cls (gd s n)<2/\cls (gd s (n-1))=cls (gd s n))):jq s (n+1)=jq s n++[⟨n,n+1,cls (gd s n)⟩]:=by
 simp only[jq,qE,h,cH,al a]
def Ze:CF GL f185 [54,55] [] 185:=jo
def sO(s:T)(H:s.length<=1000000):af 185 [S s] (pf (cr s)) false:=by
 refine Pure.gg (by simp only[dx]) (by simp only[dx]) (eN hm Ze.ok (bE rfl) ?_);repeat' simp only[dt,simprocAttr]
 refine dT rfl rfl (λ(n:Nat) t=>n<=s.length/\t.Z 4=I n/\gu 3 t.E (t.Z 3) ((jq s n).map gS.v)) (λn=>s.length-n) 0 ?_ ?_
 .exact⟨aL _,rfl,gu.nil⟩
 rintro n t ⟨aA,q,r⟩ R;have K:t.Z 0=S s:=by rw[R 0 (by decide)];rfl
 have hlen:=r.len;have aB:=lC s n;rw[au]at hlen;rcases am n s.length with d|d
 .repeat' first|simp(disch:=omega) only[dt,simprocAttr,K,q,hlen,(show((n:Int)-1).toNat=n-1 by omega)]|(first|refine bZ ?_ ?_|refine c8 ?_ ?_)<;>intro h<;>(try simp only[bM]at h)<;>(try simp only[h])<;>(try simp only[jg]at h)<;>try omega|refine ei ?_|(refine i0 (Jz s[n]) ?_ ?_;·simp only[ee,simprocAttr]<;>rfl)|(refine i0 (Jz (s[n-1]'(by omega))) ?_ ?_;·simp only[ee,simprocAttr]<;>rfl)
  .refine⟨n+1,⟨?_⟩,⟨by omega⟩⟩;simp only[da,simprocAttr];refine⟨d,rfl,?_⟩;rw[BB (by rw[kE d];exact h)];exact r
  .have E:gd s (n-1)=s[n-1]:=kE (by omega);obtain⟨l,a,L,e⟩:=yl s n av (by rw[E,h];omega);have A:jq s (n+1)=l++[⟨a,n+1,cls s[n]⟩]:=by
    rw[<-kE d];rw[E,h,<-kE d]at e;exact DJ (s:=s) (n:=n) L (by rw[kE d];omega) (by rw[kE d];omega) (by rw[kE d,E,h]) e
   have u:(jq s n).length=l.length+1:=by rw[e];simp
   obtain⟨y,⟨D,hx⟩|⟨id,c,rest,D,dW,hb,f,ab⟩⟩:=r
   .rw[lK]at hx;rw[hx]at u;simp at u
   repeat' simp(disch:=omega) only[dt,simprocAttr,D,(show((jq s n).length-1:Int).toNat=l.length by omega)]
   have N:=dV y;rw[au]at N;refine AA (cells:=b9 ((jq s n).map gS.v)++rest) ?_ ?_ ?_ λaC P aD a0 ac a1 ad=>?_
   .exact sT
   .exact sT
   .rw[ae];omega
   repeat' simp(disch:=omega) only[dt,simprocAttr,P,q]
   refine⟨n+1,⟨?_⟩,⟨av⟩⟩;simp only[da,P,↓reduceIte,Nat.reduceEqDiff];refine⟨d,rfl,?_⟩;rw[D];have Q:((jq s n).map gS.v)[l.length]?=some (.agg [I a,I n,I (cls s[n])]):=by rw[e,az];simp[gS.v,E,h]
   have o:=Ll y Q (j:=1) (c:=I (n+1)) bT rfl rest;have z:((jq s n).map gS.v).set l.length (.agg [I a,I (n+1),I (cls s[n])])=(jq s (n+1)).map gS.v:=by rw[e,A];simp[gS.v]
   simp only[aw,ay]at o;rw[z]at o;have p:((jq s (n+1)).map gS.v).length=((jq s n).map gS.v).length:=by rw[<-z,fH]
   refine⟨NL _,.inr ⟨id,c,rest,by rw[p],?_,?_,by rw[p];exact f,by rw[p];exact ab⟩⟩
   .rw[ad];simp only[bx];exact dW
   .rw[ac,bh,<-o];simp only[da,↓reduceIte,Nat.reduceEqDiff,I]
  all_goals
   have A:jq s (n+1)=jq s n++[⟨n,n+1,cls s[n]⟩]:=by
    rw[<-kE d];refine NM (by rw[kE d];omega) λf=>?_;have E:gd s (n-1)=s[n-1]:=kE av;rw[kE d,E]at f;obtain⟨l,a,L,e⟩:=yl s n f.1 (by rw[E,f.2.2];omega);have:(jq s n).length=l.length+1:=by rw[e];simp
    omega
   refine iR (xs:=(jq s n).map gS.v) (ys:=[gS.v ⟨n,n+1,cls s[n]⟩]) ?_ ?_ ?_ ?_ ?_ rfl ?_ ?_ λv ai hm hb _=>?_
   .exact sT
   .exact sT
   .exact NL [⟨n,n+1,cls s[n]⟩]
   .exact sT
   .simp only[da];intro l H;cases H
   .rw[au];simp;omega
   .intro _ f;cases f
   repeat' simp(disch:=omega) only[gE,simprocAttr,q]
   refine⟨n+1,⟨?_⟩,⟨av⟩⟩;simp only[da];refine⟨d,rfl,?_⟩;rw[A,az];exact hm
 .repeat' first|simp only[dt,simprocAttr,K,q]|refine cs ?_ ?_<;>intro h<;>try omega
  have:n=s.length:=av;subst this;refine⟨nE,yk rfl ?_⟩;simp only[da];exact r
def qF{s:T}{n:Nat}(hn:n<s.length)(h:tz s n=true):vj s=false:=by
 unfold vj;exact Yy
def y5{s:T}(h:∀i,i<s.length->tz s i=false):vj s=true:=by
 unfold vj;rw[bO];intro i a;simp[h i (by simpa using a)]
def An(s:T)(l:s.length<=1000000):af 125 [S s] (I (g8 s)):=by
 have o:=lC s s.length;have q:(cr s).length<=s.length:=o;refine pk f125 ?_ [100001];repeat' first|refine k7 ?_|refine cs ?_ ?_<;>intro h|refine q1 ?_
 .exact Yz
 refine sl (λn:Nat=>n<=s.length/\∀i,i<n->tz s i=false) (λn=>[(11,I n,false)]) (λn=>s.length-n) (0) (⟨av,λi h=>av⟩) ?_;rintro n ⟨r,d⟩;rcases am n s.length with a|a
 .repeat' first|simp(disch:=omega) only[dt,simprocAttr]|refine cs ?_ ?_<;>intro h<;>try omega|refine ba (n+1) ?_|(refine xi (by simp only[pY]<;>rfl) U7 (QD s n a av) (by simp only[pY]<;>rfl) ?_ ?_;(·refine mV ?_;simp only[ee]<;>rfl))|refine q1 ?_
  .exact ak (aq I (by simp only[g8];rw[al av,ax (qF a h)]))
  .refine⟨av,λi f=>?_⟩;rcases gr (h7 f)with p|rfl
   .exact d i p
   .exact h
 .have j:=y5 λi f=>d i av;repeat' first|refine k7 ?_|refine cs ?_ ?_<;>intro h<;>try omega|refine lq (ET s l) ?_|refine q1 ?_
  all_goals refine ak (aq I ?_)
  all_goals simp only[g8]
  all_goals rw[al av,al (by simp[j])]
  .rw[ax h]
  .rw[al (by assumption),ax av]
  .rw[al (by assumption),al av]
def BD(s:T)(i:Nat):Bool:=(gd s i).toNat<32||126< (gd s i).toNat||decide (0<i)&&((gd s i).toNat==32)&&((gd s (i-1)).toNat==32)
def F9{s:T}{i:Nat}(h:BD s i=true):tz s i=true:=by
 simp only[BD,tz,ib,be,cq,i4]at h ⊢
 omega
def QG{s:T}(h:∀i,i<s.length->BD s i=false)(h0:(gd s 0).toNat≠32)(f:(gd s (s.length-1)).toNat≠32):vj s=true:=by
 refine y5 λi j=>?_;have:=h i j;simp only[BD,tz,nR,iy,ij,kA]at this ⊢
 refine⟨this.1,?_⟩;by_cases e:i=0
 .subst e;exact .inl h0
 .by_cases d:i=s.length-1
  .subst d;exact .inl f
  .rcases this.2 with(a|a)|a
   .omega
   .exact .inl a
   .exact .inr ⟨⟨e,d⟩,a⟩
def EU(s:T)(t:s.length<=1000000):af 195 [S s] (I (g8 s)):=by
 have u:=lC s s.length;have D:(cr s).length<=s.length:=u;refine pk f195 ?_;rcases cZ s.length with a|a
 .repeat' first|simp only[dt,simprocAttr,a]|refine bZ ?_ ?_<;>intro h<;>try simp only[jg]at h|refine q1 ?_
  all_goals refine ak (aq I ?_)
  all_goals(rw[bH.1 a];rfl)
 have y:(s.length:Int)-1=(s.length-1:Nat):=av;have f:s.length-1<s.length:=av;repeat' first|simp(disch:=omega) only[dt,simprocAttr,y]|(first|refine cz ?_ ?_|refine gz ?_ ?_)<;>intro j h<;>(try simp only[j])<;>try omega|refine q1 ?_
 .exact Yz
 .exact ak (aq I (by simp only[g8];rw[al av,ax (qF f (by simp only[tz,kE f];simp;omega))]))
 rotate_left
 .exact ak (aq I (by simp only[g8];rw[al av,ax (qF a (by simp only[tz,kE a];simp;omega))]))
 refine sl (λn:Nat=>n<=s.length/\∀i,i<n->BD s i=false) (λn=>[(3,I n,false)]) (λn=>s.length-n) (0) (⟨av,λi h=>av⟩) ?_;rintro n ⟨H,l⟩;have o:s≠[]:=by rintro rfl;exact absurd a du
 rcases am n s.length with d|d
 .have step:BD s n=false->n+1<=s.length/\∀i,i<n+1->BD s i=false:=λh=>⟨av,λi p=>by
   rcases gr (h7 p)with z|rfl
   .exact l i z
   .exact h⟩
  rcases cZ n with rfl|E
  .repeat' first|simp(disch:=omega) only[dt,simprocAttr]|(first|refine cz ?_ ?_|refine gz ?_ ?_)<;>intro j h<;>(try simp only[j])<;>try omega|refine ba (0+1) ?_|refine q1 ?_
   all_goals first
    |exact step (by simp only[BD,kE d];simp;omega)
    |exact ak (aq I (by simp only[g8];rw[al av,ax (qF d (F9 (by simp only[BD,kE d];simp;omega)))]))
  .have A:(n:Int)-1=(n-1:Nat):=av;have q:n-1<s.length:=av;repeat' first|simp(disch:=omega) only[dt,simprocAttr,A]|(first|refine cz ?_ ?_|refine gz ?_ ?_)<;>intro j h<;>(try simp only[j])<;>try omega|refine ba (n+1) ?_|refine q1 ?_
   all_goals first
    |exact step (by simp only[BD,kE d,kE q];simp;omega)
    |exact ak (aq I (by simp only[g8];rw[al av,ax (qF d (F9 (by simp only[BD,kE d,kE q];simp;omega)))]))
 .have r:=QG (λi p=>l i av) (by rw[kE a];omega) (by rw[kE f];omega);repeat' first|refine k7 ?_|refine cs ?_ ?_<;>intro h<;>try omega|refine lq (sO s t) ?_|refine q1 ?_
  all_goals refine ak (aq I ?_)
  all_goals simp only[g8]
  all_goals rw[al av,al (by simp[r]),al o]
  .rw[ax av]
  .rw[al av]
end Go.Bx
namespace Go.Bx
open Go.Proofs Go.Proofs.Tryz Go.RowKit
def MF(b o j:Nat):(⟨b,o,none⟩:Addr).add j=⟨b,o+j,none⟩:=by simp[Addr.add]
def NN{GL:aj}{g:aY}{w w':World}{args:List V}{xs:Array Value}{E:aK}{v:V}{x:Value}(a:rp GL g w E args xs)(hb:E.box=λ_=>none)(hm:E.mp=λ_=>none)(h:Grow g w w')(f:VR g v x):vf GL g w g w' E v false x where
 gF:=⟨a.gF.kp,λb o x e=>by rw[h.cell b o (a.gF.ir b o (by rw[e];simp))];exact a.gF.g3 b o x e,λb d e=>⟨h.obj _ _ (a.gF.eY b d e).2 (a.gF.eY b d e).1,(a.gF.eY b d e).2⟩,λb o e=>bj (a.gF.ir b o e) h.size,a.gF.kB⟩
 heap:=⟨λid cs e=>(by rw[hb]at e;cases e),λid cs j c b x e=>(by rw[hb]at e;cases e),λid p e=>(by rw[hm]at e;cases e),a.heap.Y⟩
 res:=f
 step:=⟨λ_ _ _ e=>e,λ_ _ e=>e,λ_ _ e=>e,λb o e=>⟨e,h.cell b o (a.gF.ir b o (by rw[e];simp)),h.Tu b o (a.gF.ir b o (by rw[e];simp)) (by rw[e];simp)⟩,λb d e l hb=>h.obj b d l hb,λ_ _ e _=>e,h.size,h.gY,λb hb e=>h.whole b hb⟩
 tail:=bT
def NO{g:aY}(W:World)(ob:Obj)(a:Addr)(v:Value)(d:a.block=W.heap.size):Grow g W ((W.alloc ob).setCell a v).drew where
 size:=by show W.heap.size<=((W.alloc ob).setCell a v).heap.size;simp[World.setCell]
 cell b o h:=by
  show((W.alloc ob).setCell a v).cell? (cl b o)=_;rw[World.cell?_setCell_other _ _ _ _ (by rintro rfl;exact ct h d),mg W ob o (ct h)]
 Tu b o h _:=by
  show((W.alloc ob).setCell a v).frozen? (cl b o)=_;rw[World.frozen?_setCell];exact oT W ob o (ct h)
 obj b f _ h:=by
  have hb:b<W.heap.size:=(cF.1 h).1;have e:((W.alloc ob).setCell a v).heap[b]?=(W.alloc ob).heap[b]?:=by
   simp only[World.setCell,dz];rw[al av]
  show((W.alloc ob).setCell a v).heap[b]?=_;rw[e];exact py W ob h
 gY:=⟨rfl,rfl,rfl,λ_=>fO _⟩
 whole b h:=by
  have e:((W.alloc ob).setCell a v).heap[b]?=(W.alloc ob).heap[b]?:=by
   simp only[World.setCell,dz];rw[al av]
  show((W.alloc ob).setCell a v).heap[b]?=_;rw[e];exact Yu
def DK{g:aY}(W:World)(ob:Obj):Grow g W (W.alloc ob).drew where
 size:=by show W.heap.size<=(W.heap.push ob).size;simp
 cell b o h:=mg W ob o (ct h)
 Tu b o h _:=oT W ob o (ct h)
 obj b a _ h:=py W ob h
 gY:=⟨rfl,rfl,rfl,λ_=>fO _⟩
 whole b h:=by
  exact Yu
set_option maxRecDepth 1000000 in
def QH(s r:ByteArray)(cap:Nat)(C:Array Value)(w:World)(f:0<s.size)(b:UInt8)(o:97<=b.toNat)(h2:b.toNat<=122)
 (a:(convert 9 181 (.string s)).run prog w=.ok (.slice (some ⟨w.heap.size,0,none⟩) s.size cap) (w.drew.alloc (.cells C 5 (C.size,C.size+1))))
 (j:(w.alloc (.cells C 5 (C.size,C.size+1))).cell? ⟨w.heap.size,0,none⟩=some (.int .u8 b.toNat)) (l:(w.alloc (.cells C 5 (C.size,C.size+1))).frozen? ⟨w.heap.size,0,none⟩=false)
 (d:(convert 181 9 (.slice (some ⟨w.heap.size,0,none⟩) s.size cap)).run prog ((w.alloc (.cells C 5 (C.size,C.size+1))).setCell ⟨w.heap.size,0,none⟩ (.int .u8 (((b.toNat:Int)-97+65)%256))).drew=.ok (.string r) ((w.alloc (.cells C 5 (C.size,C.size+1))).setCell ⟨w.heap.size,0,none⟩ (.int .u8 (((b.toNat:Int)-97+65)%256))).drew):
 Calls prog 132 #[.string s] w λe w'=>e=.returned (.string r)/\w'=((w.alloc (.cells C 5 (C.size,C.size+1))).setCell ⟨w.heap.size,0,none⟩ (.int .u8 (((b.toNat:Int)-97+65)%256))).drew:=by
 go_enter func132,Tryz.ntmps132
 go_wp2
 go_ret
 exact⟨rfl,rfl⟩
set_option maxRecDepth 1000000 in
def NP(s r:ByteArray)(cap:Nat)(C:Array Value)(w:World)(f:0<s.size)(b:UInt8)(l:97<=b.toNat)(h2:¬(b.toNat:Int)<=122)
 (a:(convert 9 181 (.string s)).run prog w=.ok (.slice (some ⟨w.heap.size,0,none⟩) s.size cap) (w.drew.alloc (.cells C 5 (C.size,C.size+1))))
 (j:(w.alloc (.cells C 5 (C.size,C.size+1))).cell? ⟨w.heap.size,0,none⟩=some (.int .u8 b.toNat))
 (d:(convert 181 9 (.slice (some ⟨w.heap.size,0,none⟩) s.size cap)).run prog (w.alloc (.cells C 5 (C.size,C.size+1))).drew=.ok (.string r) (w.alloc (.cells C 5 (C.size,C.size+1))).drew):
 Calls prog 132 #[.string s] w λe w'=>e=.returned (.string r)/\w'=(w.alloc (.cells C 5 (C.size,C.size+1))).drew:=by
 go_enter func132,Tryz.ntmps132
 go_wp2
 go_ret
 exact⟨rfl,rfl⟩
set_option maxRecDepth 1000000 in
def NQ(s r:ByteArray)(cap:Nat)(C:Array Value)(w:World)(f:0<s.size)(b:UInt8)(l:¬(97:Int)<=b.toNat)
 (a:(convert 9 181 (.string s)).run prog w=.ok (.slice (some ⟨w.heap.size,0,none⟩) s.size cap) (w.drew.alloc (.cells C 5 (C.size,C.size+1))))
 (j:(w.alloc (.cells C 5 (C.size,C.size+1))).cell? ⟨w.heap.size,0,none⟩=some (.int .u8 b.toNat))
 (d:(convert 181 9 (.slice (some ⟨w.heap.size,0,none⟩) s.size cap)).run prog (w.alloc (.cells C 5 (C.size,C.size+1))).drew=.ok (.string r) (w.alloc (.cells C 5 (C.size,C.size+1))).drew):
 Calls prog 132 #[.string s] w λe w'=>e=.returned (.string r)/\w'=(w.alloc (.cells C 5 (C.size,C.size+1))).drew:=by
 go_enter func132,Tryz.ntmps132
 go_wp2
 go_ret
 exact⟨rfl,rfl⟩
def Ga:T->T
 |[]=>[]
 |b::r=>if 97<=b.toNat/\b.toNat<=122 then UInt8.ofNat (b.toNat-32)::r else b::r
def QJ(b:UInt8)(r:T)(ad:r.length<=1000):af 132 [S (b::r)] (S (Ga (b::r))):=by
 refine⟨rfl,rfl,λg w z u R H=>?_⟩;obtain⟨p,rfl⟩:∃p,z=#[p]:=by
  cases z with|mk l=>match l,u.len with|[x],_=>exact⟨x,rfl⟩
 have hx:p=.string ⟨(b::r).toArray⟩:=by cases u.arg 0 (S (b::r)) p rfl rfl;rfl
 subst hx;have a:=run_bytes_of_string (P:=prog) w 9 181 5 ⟨(b::r).toArray⟩ underlying9 underlying181 underlying5;generalize hC:bytesRow ⟨(b::r).toArray⟩ (grownCap w (ByteArray.mk (b::r).toArray).size 0 5)=C at a;have iK:∀(j:Nat) y,(b::r)[j]?=some y->(w.alloc (.cells C 5 (C.size,C.size+1))).cell? ⟨w.heap.size,j,none⟩=some (.int .u8 y.toNat):=by
  intro j y hj;have o:=(aH.1 hj).1;rw[World.cell?_alloc_mark,<-hC,bytesRow_at _ _ j (by simpa using o)];have q:=(aH.1 hj).2;simp[<-q]
 have out:∀(t:T)(W:World),Grow g w W->Calls prog 132 #[.string ⟨(b::r).toArray⟩] w (λe A=>e=.returned (.string ⟨t.toArray⟩)/\A=W)->t=Ga (b::r)->Calls prog 132 #[.string ⟨(b::r).toArray⟩] w R:=by
  intro t W K L N;refine L.mono λe A ⟨Q,ab⟩=>?_;subst Q ab N;exact H _ _ _ _ _ _ ⟨rfl,rfl⟩ (NN u rfl rfl K (.str _))
 have Wn:(ByteArray.mk (b::r).toArray).size=(b::r).length:=by simp[ByteArray.size]
 have d:0< (ByteArray.mk (b::r).toArray).size:=by rw[Wn];simp
 have D:0<C.size:=by
  rw[<-hC];simp only[bytesRow,kR,Array.size_map];simp;omega
 have ac:∀j,j<C.size->(w.alloc (.cells C 5 (C.size,C.size+1))).frozen? ⟨w.heap.size,j,none⟩=false:=by
  intro j hj;rw[World.frozen?_alloc_mark];simp;omega
 have f:=iK 0 b rfl;by_cases o:97<=b.toNat
 .by_cases q:b.toNat<=122
  .have hm:(((b.toNat:Int)-97+65)%256)=((UInt8.ofNat (b.toNat-32)).toNat:Int):=by
    rw[px];omega
   refine out (UInt8.ofNat (b.toNat-32)::r) _ (NO w _ _ _ rfl) (QH _ _ _ _ w d b o q a f (ac 0 D) ?_) (by rw[Ga,ax ⟨o,q⟩]);have hb:=run_convert_bytes_back (P:=prog) ((w.alloc (.cells C 5 (C.size,C.size+1))).setCell ⟨w.heap.size,0,none⟩ (.int .u8 (((b.toNat:Int)-97+65)%256))).drew 181 9 5 ⟨w.heap.size,0,none⟩
    (grownCap w (ByteArray.mk (b::r).toArray).size 0 5) (UInt8.ofNat (b.toNat-32)::r) underlying181 underlying5 underlying9 (λj hj=>by
     show((w.alloc (.cells C 5 (C.size,C.size+1))).setCell ⟨w.heap.size,0,none⟩ (.int .u8 (((b.toNat:Int)-97+65)%256))).cell? _=_;rw[MF];cases j with
     |zero=>rw[hm];exact World.cell?_setCell_same _ _ _ f
     |succ j=>
      rw[World.cell?_setCell_other _ _ _ _ bT,cA];exact iK (j+1) _ (by simp at hj ⊢))
   rw[Wn];exact hb
  .refine out (b::r) _ (DK w _) (NP _ _ _ _ w d b o av a f ?_) (by rw[Ga,al av]);exact Ym
 .refine out (b::r) _ (DK w _) (NQ _ _ _ _ w d b av a f ?_) (by rw[Ga,al av]);exact Ym
end Go.Bx
