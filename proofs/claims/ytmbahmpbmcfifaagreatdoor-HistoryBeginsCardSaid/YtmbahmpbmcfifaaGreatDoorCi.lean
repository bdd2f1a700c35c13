/- Lemmas for HistoryBegins. -/
import Derived.Test.YtmbahmpbmcfifaaGreatDoorCg
noncomputable section
set_option linter.all false
set_option maxHeartbeats 4000000
set_option maxRecDepth 100000
namespace Go.Bx
open Go.Proofs Go.Proofs.Tryz
attribute [local irreducible] vc er dq b4 bU run iw iI iW i1 iG i2 iX iq iH iZ gA iY cS
def BM{n:Nat}{f:Nat->Bool}{i:Nat}(a:i<n)(h:f i=false):(List.range n).all f=false:=by
 rw[eG];exact⟨i,by simpa using a,by simp[h]⟩
def JO{n:Nat}{f:Nat->Bool}(h:∀i,i<n->f i=true):(List.range n).all f=true:=by
 rw[bO];intro i a;exact h i (by simpa using a)
def ig(l:List Int)(i a:Int)(h:0<a):0<=W l i a/\W l i a<a:=by
 unfold W;split
 .omega
 .exact sc _ _ h
def pN(l:List (Int×Int))(i:Nat):Int×Int:=l.getD i (0,0)
def se{l:List (Int×Int)}{i:Nat}(h:i<l.length):pN l i=l[i]:=by simp[pN,ap,h]
def o5(o:Op)(i:Nat):Bool:=decide (0<=(pN o.cW i).1/\(pN o.cW i).1<o.n/\0<=(pN o.cW i).2/\(pN o.cW i).2<o.F.length)&&
 (decide (i=0)||decide ((pN o.cW (i-1)).1< (pN o.cW i).1\/(pN o.cW (i-1)).1=(pN o.cW i).1/\(pN o.cW (i-1)).2< (pN o.cW i).2))
def q9(o:Op):Bool:=(List.range o.cW.length).all (o5 o)
def Rg(o:Op)(t:o.ok):af 300 [o.v] (B (q9 o)):=by
 obtain⟨a,z,A,D,H⟩:=t;refine pk f300 ?_;repeat' simp only[dt,simprocAttr]
 refine sk (bJ:=[]) (λk:Nat=>k<=o.cW.length/\∀i,i<k->o5 o i=true) (λk=>[(3,I k,false)]) (λk=>o.cW.length-k) (0) (⟨av,λi h=>av⟩) ?_;rintro k ⟨K,p⟩;rcases am k o.cW.length with a|a
 .have d:=se a;rcases cZ k with f|f
  .subst f;repeat any_goals first|simp(disch:=try exact om) only[dt,simprocAttr,nb]|(first|refine bZ ?_ ?_|refine c8 ?_ ?_)<;>intro h<;>(try simp only[bB]at h)<;>(try simp only[h])<;>(try simp only[jg]at h)<;>try omega|(refine⟨0+1,⟨?_⟩,⟨av⟩,?_⟩;rotate_left;focus (simp only[fR,fM,bL,cK];and_intros;all_goals(try(simp only[mR,simprocAttr]));all_goals(try(first|with_reducible exact .refl _|(intro h;cases h;done)|((repeat first|with_reducible (first|exact Kept.refl _|refine eF ?_|refine eO ?_|refine eB ?_|refine ec ?_)|(with_reducible refine eC ?_ ?_;rotate_left;(simp only[pY,simprocAttr])));done)))))|refine ei ?_|refine q1 ?_
   any_goals exact ak (aq V.bool (by rw[ix];refine BM a ?_;simp[o5,d];omega))
   all_goals refine⟨a,λi j=>?_⟩
   all_goals obtain rfl:i=0:=av
   all_goals simp[o5,d]
   all_goals omega
  .have u:k-1<o.cW.length:=av;have q:=se u;have y:(k:Int)-1=((k-1:Nat):Int):=av;have r:k≠0:=av;repeat any_goals first|simp(disch:=try exact om) only[dt,simprocAttr,nb,y]|(first|refine bZ ?_ ?_|refine c8 ?_ ?_)<;>intro h<;>(try simp only[bM,bB]at h)<;>(try simp only[h])<;>(try simp only[jg]at h)<;>try omega|(refine⟨k+1,⟨?_⟩,⟨av⟩,?_⟩;rotate_left;focus (simp only[fR,fM,bL,cK];and_intros;all_goals(try(simp only[mR,simprocAttr]));all_goals(try(first|(intro h;cases h;done)|(refine ak (aq I ?_);omega)|((repeat first|with_reducible (first|exact Kept.refl _|refine eF ?_|refine eO ?_|refine eB ?_|refine ec ?_)|(with_reducible refine eC ?_ ?_;rotate_left;(simp only[pY,simprocAttr])));done)))))|refine ei ?_|refine q1 ?_
   any_goals exact ak (aq V.bool (by rw[ix];refine BM a ?_;simp[o5,d,q,r];omega))
   all_goals refine⟨a,λi j=>?_⟩
   all_goals(rcases gr (h7 j)with l|l;(·exact p i l);(·subst l;simp[o5,d,q,r];omega))
 .repeat' first|refine k7 ?_|refine cs ?_ ?_<;>intro h<;>try omega|refine q1 ?_
  exact ak (aq V.bool (by rw[ix];exact JO λi j=>p i av))
def gS.in(n:Nat)(t:gS):Prop:=0<=t.W/\t.W<t.end_/\t.end_<=n
def Oe{s:T}{n:Nat}{l:List gS}(h:∀t∈l,t.in n):∀t∈qE s n l,t.in (n+1):=by
 have d:∀t∈l,t.in (n+1):=λt a=>⟨(h t a).1,(h t a).2.1,by have:=(h t a).2.2;omega⟩;have f:∀(k:Int)(t:gS),t∈l++[(⟨n,n+1,k⟩:gS)]->t.in (n+1):=λk t a=>by
  rcases aN.1 a with a|a
  .exact d t a
  .obtain rfl:=aR.1 a;exact⟨bT,by simp;omega,bT⟩
 unfold qE;dsimp only;split
 .exact d
 .split
  .split
   next u j=>
    intro t a;rcases aN.1 a with a|a
    .exact d t (List.dropLast_subset _ a)
    .obtain rfl:=aR.1 a;obtain⟨o,p,q⟩:=h u (nW j);exact⟨o,by show u.W< ((n:Int)+1);omega,bT⟩
   .exact f _
  .exact f _
def Ap(s:T):∀n,∀t∈jq s n,t.in n
 |0=>by intro t h;cases h
 |n+1=>Oe (Ap s n)
def JP(s:T)(k:Nat)(h:k< (cr s).length):0<=(cr s)[k].W/\(cr s)[k].W<=s.length/\(1<=k->lx (cr s) k=true->1<=(cr s)[k].W):=by
 obtain⟨d,o,p⟩:=Ap s s.length _ (ah h);refine⟨d,av,λq f=>?_⟩;have a:k-1< (cr s).length:=av;obtain⟨j,l,r⟩:=Ap s s.length _ (ah a);simp only[lx,ap,aa h,aa a,bf,cq]at f;change 0<=(cr s)[k-1].W at j;change (cr s)[k-1].W< (cr s)[k-1].end_ at l;omega
def tI(s:T)(k:Int):V:=if g8 s≠0 then .hJ [S [],S [],I (g8 s)]else
 if 1<=k/\k< (cr s).length/\lx (cr s) k.toNat=true then .hJ [S (s.take (((cr s).getD k.toNat ⟨0,0,0⟩).W-1).toNat),S (s.drop ((cr s).getD k.toNat ⟨0,0,0⟩).W.toNat),I 0]
 else .hJ [S [],S [],I 5]
def Rh(s:T)(k:Int)(Q:s.length<=10000):af 246 [S s,I k] (tI s k):=by
 have R:(cr s).length<=s.length:=lC s _;have c:=sO s av;have c2:=EU s av;have A:g8 s≠0->tI s k=.hJ [S [],S [],I (g8 s)]:=λh=>by unfold tI;rw[ax h]
 have D:g8 s=0->¬(1<=k/\k< (cr s).length/\lx (cr s) k.toNat=true)->tI s k=.hJ [S [],S [],I 5]:=λh a=>by unfold tI;rw[al (by simp[h]),al a]
 have H:g8 s=0->(1<=k/\k< (cr s).length/\lx (cr s) k.toNat=true)->tI s k=.hJ [S (s.take (((cr s).getD k.toNat ⟨0,0,0⟩).W-1).toNat),S (s.drop ((cr s).getD k.toNat ⟨0,0,0⟩).W.toNat),I 0]:=λh a=>by unfold tI;rw[al (by simp[h]),ax a]
 by_cases o:g8 s=0
 .by_cases f:1<=k/\k< (cr s).length/\lx (cr s) k.toNat=true
  .rw[H o f];obtain⟨f,p,d⟩:=f;obtain⟨k,rfl⟩:∃j:Nat,k=j:=⟨k.toNat,av⟩;have l:k< (cr s).length:=av;have c3:=ES (cr s) k l av;simp only[bX]at d ⊢
   rw[ap,aa l,bf];obtain⟨ab,K,L⟩:=JP s k l;have N:=L av d;obtain⟨q,r⟩:∃q:Nat,(cr s)[k].W=q:=⟨(cr s)[k].W.toNat,av⟩;have t:(q:Int)-1=((q-1:Nat):Int):=av;have u:((cr s)[k].W).toNat=q:=av;have y:((cr s)[k].W-1).toNat=q-1:=av;rw[u,y];have z:(s.drop q).take (s.length-q)=s.drop q:=aE bT;rw[r]at K N;refine pk f246 ?_;repeat' first|simp(disch:=try exact om) only[dt,simprocAttr,d,r,t]|(first|refine cz ?_ ?_|refine gz ?_ ?_)<;>intro a h<;>(try simp only[a])<;>try omega|refine lq c ?_|refine lq c2 ?_|refine lq c3 ?_|apply Hm rfl rfl rfl rfl rfl rfl
   .exact ak rfl
   .exact ak (aq S z)
   .exact ak rfl
  .rw[D o f];refine pk f246 ?_;rcases fp k 1 with p|p
   .repeat' first|simp only[dt,simprocAttr]|(first|refine bZ ?_ ?_|refine c8 ?_ ?_)<;>intro h<;>(try simp only[bB]at h)<;>(try simp only[h])<;>(try simp only[jg]at h)<;>try omega|((first|refine i0 c ?_ ?_|refine i0 c2 ?_ ?_);·simp only[ee,simprocAttr]<;>rfl)|apply Hm rfl rfl rfl rfl rfl rfl
    all_goals exact ak rfl
   rcases fp k (cr s).length with d|d
   .obtain⟨k,rfl⟩:∃j:Nat,k=j:=⟨k.toNat,av⟩;have l:k< (cr s).length:=av;have c3:=ES (cr s) k l av;have P:lx (cr s) k=false:=by simpa[p,d]using f
    repeat' first|simp only[dt,simprocAttr,P]|(first|refine cz ?_ ?_|refine gz ?_ ?_)<;>intro a h<;>(try simp only[a])<;>try omega|refine lq c ?_|refine lq c2 ?_|refine lq c3 ?_|apply Hm rfl rfl rfl rfl rfl rfl
    all_goals exact ak rfl
   .repeat' first|simp only[dt,simprocAttr]|(first|refine bZ ?_ ?_|refine c8 ?_ ?_)<;>intro h<;>(try simp only[bB]at h)<;>(try simp only[h])<;>(try simp only[jg]at h)<;>try omega|((first|refine i0 c ?_ ?_|refine i0 c2 ?_ ?_);·simp only[ee,simprocAttr]<;>rfl)|apply Hm rfl rfl rfl rfl rfl rfl
    all_goals exact ak rfl
 .rw[A o];refine pk f246 ?_;exact Yp
def Aq:List T:=[[97,110,110,97],[114,111,109,101],[107,105,110,103],[111,100,101],[108,121,114,101],[97,110,110,97,32,107,105,110,103],[120],[116,104,101,32,107,105,110,103]]
def lQ(n:Int):T:=Aq.getD (mO n 8).toNat []
def E5(n:Int)(d:jG n):af 133 [I n] (S (lQ n)):=by
 have c:=EP n 8 d av;have hb:=sc n 8 av;unfold lQ;generalize mO n 8=a at*
 obtain⟨a,rfl⟩:∃k:Nat,a=k:=⟨a.toNat,av⟩;have j:a<Aq.length:=by simp[Aq];omega
 have f:a=0\/a=1\/a=2\/a=3\/a=4\/a=5\/a=6\/a=7:=av;rcases f with rfl|rfl|rfl|rfl|rfl|rfl|rfl|rfl
 all_goals
  refine pk f133 ?_;repeat' first|refine qp ?_|refine lq c ?_|refine q1 ?_
  exact ak rfl
def XL:ID:=⟨0,0,0⟩
def nB(o:Op):Op:=⟨o.kind,if 2<o.kind then o.W else XL,if o.kind=7 then o.to else XL,if o.kind=1 then⟨o.spot.i9,0,0⟩else if o.kind=2\/o.kind=6 then o.spot else⟨0,0,0⟩,if o.kind=4\/o.kind=8 then o.n else 0,if o.kind=2 then o.eD else 0,if o.kind=2 then o.en else 0,if o.kind=1\/o.kind=2 then o.bN else [],if o.kind=8 then o.F else [],if o.kind=8 then o.cW else [],if o.kind=2\/o.kind=8\/o.kind=9 then o.C else []⟩
def Ri(o:Op):af 189 [o.v] (nB o).v:=by
 obtain⟨kind,⟨j,l,p⟩,⟨q,r,t⟩,⟨u,y,c3⟩,z,A,D,H,K,d,f⟩:=o;have a:kind=0\/kind=1\/kind=2\/kind=3\/kind=4\/kind=5\/kind=6\/kind=7\/kind=8\/kind=9\/(kind<0\/9<kind):=by omega
 simp only[Op.v,Op.c];rcases a with rfl|rfl|rfl|rfl|rfl|rfl|rfl|rfl|rfl|rfl|a
 rotate_right
 .have n1:kind≠1:=by omega
  have n2:kind≠2:=av;have n4:kind≠4:=av;have n6:kind≠6:=av;have n7:kind≠7:=av;have n8:kind≠8:=av;have n9:kind≠9:=av;rcases a with a|a
  .have n0:¬2<kind:=av;exact XK
  .have n0:2<kind:=av;exact XK
 all_goals
  refine pk f189 ?_;repeat' first|simp only[dt,simprocAttr]|refine bZ ?_ ?_<;>intro h<;>(try simp only[h])<;>(try simp only[jg]at h)<;>try(exact absurd trivial h)|refine ei ?_|(refine ao nE ?_;refine tS ev rfl ?_)
  exact nf rfl (by simp[nB,XL];repeat(first|exact aV.nil|refine aV.cons (.refl _) ?_|refine aV.cons (.aP _) ?_))
def Zu:CF GL f250 [] [] 250:=jo
def qU(F:List T)(k:Nat):Nat:=((F.take k).map gl).sum
def ww(b:Name)(gY:aJ)(F:List T)(C:List ID)(k:Nat):List aJ:=
 (List.range k).map λj:Nat=>k2 b (j:Int) gY (F.getD j []) ((C.drop (min (qU F j) C.length)).take (min (qU F (j+1)) C.length-min (qU F j) C.length))
def C2(w:cg)(o:Op)(v a i:Nat)(b:Name):cg×Int:=
 let l:=(gX w v a).O
 if 1<=o.n/\o.n<=4/\i+o.n<=l.length/\1<=o.F.length/\o.F.length<=4/\q9 o=true then
  if qU o.F o.F.length=o.C.length then(kO w v a i o.n.toNat (ww b (l.getD i ia) o.F o.C o.F.length),0)else(w,8)
 else(w,5)
def yq(s:T):gl s<=s.length:=aT (sN _ _ _) (lC s _)
def uL{F:List T}{k:Nat}(h:k<F.length):qU F (k+1)=qU F k+gl F[k]:=by
 unfold qU;rw[br h,az,List.sum_append];simp
def Of{F:List T}(h:∀t∈F,t.length<=10000):∀k,k<=F.length->qU F k<=10000*k
 |0,_=>by simp[qU]
 |k+1,a=>by
  rw[uL av];have:=Of h k av;have:=h _ (ah (show k<F.length by omega));have:=yq F[k];omega
def DR{b:Name}{gY:aJ}{F:List T}{C:List ID}{k:Nat}(h:k<F.length):ww b gY F C (k+1)=ww b gY F C k++[k2 b k gY F[k] ((C.drop (min (qU F k) C.length)).take (min (qU F k+gl F[k]) C.length-min (qU F k) C.length))]:=by
 unfold ww;rw[dX,az,<-uL h];simp only[bt,cV,ap,aa h,bf]
def xq(b:Name)(gY:aJ)(F:List T)(C:List ID)(k:Nat):(ww b gY F C k).length=k:=by simp[ww]
def Rj(w:cg)(q:w.ok)(o:Op)(r:o.ok)(y:∀t∈o.F,t.length<=10000)(v a i:Nat)(b:Name)(l:v<w.O.length)(p:a<w.O[v].O.length)(R:i<w.O[v].O[a].O.length):
 af 250 [w.v,o.v,fW.v ⟨v,a,i⟩,b.v] (ml (C2 w o v a i b)):=by
 have c:=p6 w v a ⟨v,a,i⟩ l p rfl rfl;have z:=Rg o r;have ab:=(q.2.1 _ (ah l)).2 _ (ah p);have a1:=ab.2.1;have a2:=r.2.2.2.2;unfold ml C2;rw[ff l p];simp only[ap,aa R,bf];generalize a3:q9 o=P at*
 by_cases f:1<=o.n/\o.n<=4/\i+o.n<=w.O[v].O[a].O.length/\1<=o.F.length/\o.F.length<=4/\P=true
 .rw[ax f];obtain⟨a4,a5,a6,a7,a8,rfl⟩:=f;have go:∀u:V,u.free=true->(qU o.F o.F.length=o.C.length->u=.hJ [(kO w v a i o.n.toNat (ww b w.O[v].O[a].O[i] o.F o.C o.F.length)).v,I 0])->(qU o.F o.F.length≠o.C.length->u=.hJ [w.v,I 8])->af 250 [w.v,o.v,fW.v ⟨v,a,i⟩,b.v] u:=by
   intro u ac ad ai;refine pq Zu.ok rfl (by simp only[dx,ac]) ?_;repeat any_goals first|simp(disch:=omega) only[dt,simprocAttr,Op.v,Op.c]|refine gz ?_ ?_<;>intro d h<;>(try simp only[d])<;>try omega|refine lq c ?_|refine lq z ?_
   obtain⟨N,f⟩:∃N:Nat,o.n=N:=⟨o.n.toNat,av⟩;have aA:=xq b w.O[v].O[a].O[i] o.F o.C;refine ns (D:=[11,12,13,14,15,55,56,57,58,59,60,61,62,63,64,65,66,67,68,69,70,71,72,73,74,75,76,77,78,79,80,81,82,83,84,85,86,87,88,89,90,91,92,93,94,95,96,97,98,99,100,101,102,103]) (bJ:=[]) (λk:Nat=>k<=o.F.length) (λk=>[(13,I k,false),(12,I (qU o.F k),false),(11,dA (ww b w.O[v].O[a].O[i] o.F o.C k),true)]) (λk=>o.F.length-k) (0) rfl rfl rfl (λ_=>rfl) (aL _) ?_ ?_ ?_;(·((simp only[fR,bL];and_intros;all_goals(try(simp only[mR,simprocAttr]));all_goals(try(first|with_reducible exact .refl _|exact .aP _|(intro h;cases h;done)|(intro _;(simp;done))))));all_goals(exact ak rfl));(·((simp only[fM];and_intros)));rintro k aB;have aC:=Of y k aB;have aD:=aA k;rcases am k o.F.length with j|j
   .have hx:=y _ (ah j);have c3:=Am o.F[k] av (sO o.F[k] av);have A:(lO 3 (cr o.F[k]) (cr o.F[k]).length).length=gl o.F[k]:=rfl;have a0:=yq o.F[k];have H:(if(o.C.length:Int)< (qU o.F k:Int)then(o.C.length:Int)else(qU o.F k:Int))=((min (qU o.F k) o.C.length:Nat):Int):=av;have K:(if(o.C.length:Int)< ((qU o.F k:Nat):Int)+(gl o.F[k]:Int)then(o.C.length:Int)else((qU o.F k:Nat):Int)+(gl o.F[k]:Int))=((min (qU o.F k+gl o.F[k]) o.C.length:Nat):Int):=av;have c4:=xp b k w.O[v].O[a].O[i] o.F[k] ((o.C.drop (min (qU o.F k) o.C.length)).take (min (qU o.F k+gl o.F[k]) o.C.length-min (qU o.F k) o.C.length)) (by rw[aG,aS];omega);simp only[eW,jw,gG]at c4;repeat' first|simp(disch:=try exact om) only[dt,simprocAttr,A,H,K]|refine cs ?_ ?_<;>intro h<;>try omega|(refine⟨k+1,⟨?_⟩,⟨av⟩,?_⟩;rotate_left;focus (simp only[fR,fM,bL];and_intros;all_goals(try(simp only[mR]));all_goals(try(first|(intro h;cases h;done)|(intro _;(simp;done))|(refine ak (aq I ?_);omega)))))|refine lq c3 ?_|refine lq c4 ?_
    .exact ak (aq I (by rw[uL j];omega))
    .exact ak (by rw[DR j,az];rfl)
    .exact j
   .obtain rfl:k=o.F.length:=av;have L:=sU w q v a i o.n.toNat l p av av (ww b w.O[v].O[a].O[i] o.F o.C o.F.length) av;rw[show((o.n.toNat:Nat):Int)=o.n by omega]at L;by_cases Q:qU o.F o.F.length=o.C.length
    .rw[ad Q];repeat' first|refine k7 ?_|refine cs ?_ ?_<;>intro h<;>try omega|refine lq L ?_|(((refine rT ?_;repeat' first|exact hW.nil|refine gt ?_ ?_|refine gc ?_ ?_);(all_goals(try(first|with_reducible exact .refl _|(apply ak;simp;done))))))
     all_goals skip
    .rw[ai Q];repeat' first|refine k7 ?_|refine cs ?_ ?_<;>intro h<;>try omega|(((refine rT ?_;repeat' first|exact hW.nil|refine gt ?_ ?_|refine gc ?_ ?_);(all_goals(try(first|with_reducible exact .refl _|(apply ak;simp;done))))))
     all_goals skip
  split
  next h=>exact go _ (by simp only[dx]) (λ_=>rfl) (λd=>absurd h d)
  next h=>exact go _ (by simp only[dx]) (λd=>absurd d h) (λ_=>rfl)
 .rw[al f];refine pk f250 ?_;repeat' first|simp(disch:=omega) only[dt,simprocAttr,Op.v,Op.c]|(first|refine cz ?_ ?_|refine gz ?_ ?_)<;>intro d h<;>try simp only[d]|refine lq c ?_|refine lq z ?_|(((refine rT ?_;repeat' first|exact hW.nil|refine gt ?_ ?_|refine gc ?_ ?_);(all_goals(try(first|with_reducible exact .refl _|(apply ak;simp;done))))))
  all_goals exact absurd ⟨av,av,av,av,av,by assumption⟩ f
def wx(w:T)(a:Int):T:=if a=6 then Ga w else if a=7 then w++[44]else if a=8 then w++[46]else if a=9 then Ga w++[46]else if a=10 then 40::w++[41]else if a=11 then w++[63]else w
def Gg(w:T):(Ga w).length=w.length:=by
 cases w with
 |nil=>rfl
 |cons b r=>show(if _ then _ else _:T).length=_;split<;>rfl
def Vi(b:UInt8)(r:T)(d:r.length<=1000)(a:Int):af 97 [S (b::r),I a] (S (wx (b::r) a)):=by
 have f:=QJ b r d;have j:=Gg (b::r);rw[aM]at j;refine pk f97 ?_ [32];repeat' first|simp(disch:=omega) only[dt,simprocAttr]|refine cs ?_ ?_<;>intro h|refine lq f ?_|refine q1 ?_
 all_goals exact ak (aq V.str (by simp[wx, *]))
def Ij(w:T)(a:Int):(wx w a).length<=w.length+2:=by
 have:=Gg w;unfold wx;split
 .omega
 .repeat(first|(split;(·simp only[ae,aM,aX];omega))|omega)
def yr:List T:=[[97,110,110,97],[114,111,109,101],[107,105,110,103],[116,104,101],[111,102],[111,100,101],[108,121,114,101],[120],[49,50]]
def JQ(l:List Int)(k:Int)(i:Nat):T:=wx (yr.getD ((W l (k+1+i) 108).tmod 9).toNat []) ((W l (k+1+i) 108).tdiv 9)
def vS(l:List Int)(k:Int):Nat->T
 |0=>[]
 |i+1=>(if i=0 then vS l k i else vS l k i++[32])++JQ l k i
def km(l:List Int)(k:Int):T:=vS l k (1+W l k 9).toNat
def DS(l:List Int)(k:Int)(i:Nat):(JQ l k i).length<=6:=by
 unfold JQ;refine aT (Ij _ _) ?_;have d:=ig l (k+1+i) 108 (by omega);generalize W l (k+1+i) 108=a at*
 have f:=nS 9 d.1;have o:=l8 a (show(0:Int)<9 by omega);generalize a.tmod 9=b at*
 obtain⟨b,rfl⟩:∃j:Nat,b=j:=⟨b.toNat,av⟩;have hb:b=0\/b=1\/b=2\/b=3\/b=4\/b=5\/b=6\/b=7\/b=8:=av;rcases hb with rfl|rfl|rfl|rfl|rfl|rfl|rfl|rfl|rfl<;>decide
def yt(l:List Int)(k:Int):∀i,(vS l k i).length<=7*i
 |0=>by simp[vS]
 |i+1=>by
  have a:=yt l k i;have d:=DS l k i;unfold vS;split<;>simp only[ae,aM,aX]<;>omega
def Ik(j:Nat)(h:j<9):∃b r,yr[j]'h=b::r/\r.length<=1000:=by
 have hb:j=0\/j=1\/j=2\/j=3\/j=4\/j=5\/j=6\/j=7\/j=8:=av;rcases hb with rfl|rfl|rfl|rfl|rfl|rfl|rfl|rfl|rfl<;>exact⟨_,_,rfl,du⟩
def BN(l:List Int)(k:Int)(o:∀n∈l,jG n)(ab: -1000000<=k/\k<=1000000000):af 49 [fq l,I k] (S (km l k)):=by
 have p:=jk l k 9 o av;have ac:=ig l k 9 av;have wl:V.sl 1 [V.str [97,110,110,97],V.str [114,111,109,101],V.str [107,105,110,103],V.str [116,104,101],V.str [111,102],V.str [111,100,101],V.str [108,121,114,101],V.str [120],V.str [49,50]]=eZ yr:=rfl;have H:yr.length=9:=rfl;unfold km;obtain⟨N,K⟩:∃N:Nat,1+W l k 9=N:=⟨(1+W l k 9).toNat,av⟩;rw[K,bX];refine pk f49 ?_ [40];repeat' simp only[dt,simprocAttr,wl]
 refine ns (D:=[6,7,8,9,11,12,13,14,15,16,17,18,19,20,21,22,23,24,25,26,27,28,29,30,31,32,33,34,35,36,37,38,39]) (bJ:=[]) (λi:Nat=>i<=N) (λi=>[(7,I i,false),(6,S (vS l k i),false)]) (λi=>N-i) (0) rfl rfl rfl (λ_=>rfl) (aL _) ?_ ?_ ?_;(·((simp only[fR,bL];and_intros;all_goals(try(simp only[mR,simprocAttr]));all_goals(try(first|with_reducible exact .refl _|(intro h;cases h;done)))));all_goals(exact ak rfl));(·((simp only[fM];and_intros)));rintro i ad;have Q:N<=9:=av;have R:=yt l k i;rcases am i N with q|q
 .have ai:=ig l (k+1+i) 108 av;have L:=jk l (k+1+i) 108 o av;have j:JQ l k i=wx (yr.getD ((W l (k+1+i) 108).tmod 9).toNat []) ((W l (k+1+i) 108).tdiv 9):=rfl;generalize W l (k+1+i) 108=a at*
  obtain⟨A,rfl⟩:∃A:Nat,a=A:=⟨a.toNat,av⟩;have t:(A:Int).tmod 9=((A%9:Nat):Int):=rfl;have u:(A:Int).tdiv 9=((A/9:Nat):Int):=rfl;have y:A%9<yr.length:=fI _ du;obtain⟨b,r,f,P⟩:=Ik (A%9) y;have c3:=Vi b r P ((A/9:Nat):Int);rw[t,u,bX,ap,aa y,bf,f]at j;have z:=DS l k i;rw[j]at z;have d:vS l k (i+1)=(if i=0 then vS l k i else vS l k i++[32])++wx (b::r) ((A/9:Nat):Int):=by rw[<-j];rfl
  repeat' first|simp(disch:=try exact om) only[dt,simprocAttr,t,u,f]|refine cs ?_ ?_<;>intro h<;>try omega|(refine⟨i+1,⟨?_⟩,⟨av⟩,?_⟩;rotate_left;focus (simp only[fR,fM,bL];and_intros;all_goals(try(simp only[mR]));all_goals(try(first|(intro h;cases h;done)|(refine ak (aq I ?_);omega)))))|refine lq p ?_|refine lq L ?_|refine lq c3 ?_|refine ei ?_
  any_goals exact q
  .exact ak (aq V.str (by rw[d,al av]))
  .exact ak (aq V.str (by rw[d,ax av]))
 .obtain rfl:i=N:=av;repeat' first|simp(disch:=omega) only[dt,simprocAttr]|refine cs ?_ ?_<;>intro h<;>try omega|refine lq p ?_|refine q1 ?_
  all_goals exact .refl _
def sf(l:List Int)(k:Int):(km l k).length<=63:=by
 have a:=ig l k 9 av;have d:=yt l k (1+W l k 9).toNat;unfold km;omega
def o6(l:List Int)(k:Int)(n:Nat):List T:=(List.range n).map λi:Nat=>km l (k+4*i)
def xZ:(∀(s:St) d u l o i g j,(s.put d u l o).fc i g j=s.fc i g j)/\(∀(s:St) d k u i g j,(s.zQ d k u).fc i g j=s.fc i g j)/\
 (∀(s:St) d cs i g j,(s.fD d cs).fc i g j=if i=d/\g=s.G d then false else s.fc i g j)/\
 (∀(s:St) st f off vs i g j,(s.h8 st f off vs).fc i g j=if i=st/\g=f then(if off<=j/\j<off+vs.length then false else s.fc i g j)else s.fc i g j)/\
 (∀(s:St) st f j t i g p,(s.oh st f j (.tmp t)).fc i g p=if i=st/\g=f then(if p=j then s.fl t else s.fc i g p)else s.fc i g p)/\
 (∀(s:St) st f j i g p,(s.dP (.cell st f j)).fc i g p=if i=st/\g=f then(if p=j then false else s.fc i g p)else s.fc i g p)/\
 (∀(s:St) u i g j,(s.dP (.var u)).fc i g j=s.fc i g j)/\(∀(s:St) i g j,s.Bu.fc i g j=s.fc i g j)/\(∀(s:St) h i g j,(s.cu h).fc i g j=s.fc i g j)/\
 (∀a b c,yT (.lp a b c)=some (.cell a b c))/\(∀(a:V),[a].length=1)/\
 (∀(s:St) a b c,(s.dP (.cell a b c)).Z=s.Z)/\(∀(s:St) a b c,(s.dP (.cell a b c)).loc=s.loc)/\(∀(s:St) a b c,(s.dP (.cell a b c)).G=s.G)/\(∀(s:St) a b c,(s.dP (.cell a b c)).fl=s.fl)/\(∀(s:St) a b c,(s.dP (.cell a b c)).E=s.E)/\(∀(s:St) a b c,(s.dP (.cell a b c)).lk=s.lk):=by
 refine⟨λ_ _ _ _ _ _ _ _=>rfl,λ_ _ _ _ _ _ _=>rfl,λs d cs i g j=>?_,λs st f off vs i g j=>?_,λs st f j t i g p=>?_,λs st f j i g p=>?_,λ_ _ _ _ _=>rfl,λ_ _ _ _=>rfl,λ_ _ _ _ _=>rfl,λ_ _ _=>rfl,λ_=>rfl,λ_ _ _ _=>rfl,λ_ _ _ _=>rfl,λ_ _ _ _=>rfl,λ_ _ _ _=>rfl,λ_ _ _ _=>rfl,λ_ _ _ _=>rfl⟩
 .simp only[St.fD,l2];split<;>rfl
 .simp only[St.h8,l2];split
  next h=>obtain⟨rfl,rfl⟩:=h;rfl
  .rfl
 .simp only[St.oh,l2];split
  next h=>obtain⟨rfl,rfl⟩:=h;rfl
  .rfl
 .simp only[St.dP,l2];split
  next h=>obtain⟨rfl,rfl⟩:=h;rfl
  .rfl
def abq:CF GL f48 [] [] 48:=jo
def wy:List Int:=[0,0,0,1,3,0,2,1]
def qH:List Int:=[0,0,0,0,1,2]
def nI:Nat->T
 |0=>[]
 |k+1=>nI k++[32,64]
def Rk(l:List Int)(k:Int)(i:Nat):ID:=if W l (k+3+i) 9=8 then oo else⟨0,W l (k+3+i) 9,0⟩
def vT(l:List Int)(k:Int)(n:Nat):List ID:=(List.range n).map (Rk l k)
def mq(l:List Int)(k:Int)(a:ID):aJ:=
 ⟨a,wy.getD (W l k 8).toNat 0,(W l (k+1) 8).tdiv 3,km l (k+2)++nI (qH.getD (W l (k+1) 6).toNat 0).toNat,vT l k (qH.getD (W l (k+1) 6).toNat 0).toNat⟩
def sV(l:List Int)(k:Int)(n:Nat):vT l k (n+1)=vT l k n++[Rk l k n]:=by
 unfold vT;rw[dX,az];rfl
def sg:∀n,(nI n).length=2*n
 |0=>rfl
 |n+1=>by rw[nI,ae,sg n];simp;omega
def Il(l:List Int)(k:Int)(a:ID)(q:∀n∈l,jG n)(a9:0<=k/\k<=100000000):af 48 [fq l,I k,a.v] (mq l k a).v:=by
 have aC:=jk l k 8 q av;have aD:=jk l (k+1) 8 q av;have c3:=BN l (k+2) q av;have c4:=jk l (k+1) 6 q av;have bi:=ig l k 8 av;have bl:=ig l (k+1) 8 av;have bo:=ig l (k+1) 6 av;have tl:=sf l (k+2);have a0:V.sl 1 [V.int .i64 0,V.int .i64 0,V.int .i64 0,V.int .i64 1,V.int .i64 3,V.int .i64 0,V.int .i64 2,V.int .i64 1]=fq wy:=rfl;have a1:V.sl 1 [V.int .i64 0,V.int .i64 0,V.int .i64 0,V.int .i64 0,V.int .i64 1,V.int .i64 2]=fq qH:=rfl;have a5:wy.length=8:=rfl;have a6:qH.length=6:=rfl;unfold mq;generalize W l k 8=r at*
 generalize W l (k+1) 8=f at*
 generalize W l (k+1) 6=d at*
 generalize km l (k+2)=T at*
 obtain⟨r,rfl⟩:∃j:Nat,r=j:=⟨r.toNat,av⟩;obtain⟨f,rfl⟩:∃j:Nat,f=j:=⟨f.toNat,av⟩;have a2:(f:Int).tdiv 3=((f/3:Nat):Int):=rfl;obtain⟨d,rfl⟩:∃j:Nat,d=j:=⟨d.toNat,av⟩;have g1:r<wy.length:=av;have g4:d<qH.length:=av;simp only[bX,ap,aa g1,aa g4,bf];have ac:0<=qH[d]/\qH[d]<=2:=by
  have hb:d=0\/d=1\/d=2\/d=3\/d=4\/d=5:=av;rcases hb with rfl|rfl|rfl|rfl|rfl|rfl<;>simp[qH]
 refine Pure.gg (by simp only[dx]) (by simp only[dx]) (eN hm abq.ok (bE rfl) ?_);repeat' first|simp(disch:=try exact om) only[dt,simprocAttr,a0,a1,a2]|refine lq aC ?_|refine lq aD ?_|refine lq c3 ?_|refine lq c4 ?_
 generalize wy[r]=F at*
 obtain⟨M,a3⟩:∃M:Nat,qH[d]=M:=⟨qH[d].toNat,av⟩;rw[a3]at ac ⊢
 refine dT rfl rfl (λ(j:Nat) t=>j<=M/\t.Z 9=I j/\t.G 6=1/\t.loc 6 0=[I 0,I 0,I 0,I 0,I 0,S [],.aP]/\t.G 7=1/\∃o,t.loc 7 0=[I a.J,I a.seq,I a.k,I F,I (f/3:Nat),S (T++nI j),o]/\((j=0/\o=.aP)\/(0<j/\o=eW (vT l k j)/\t.fc 7 0 6=true))) (λj=>M-j) 0 ?_ ?_
 .exact⟨aL _,rfl,rfl,rfl,rfl,.aP,by simp only[da,↓reduceIte,Nat.reduceEqDiff,nI,cD];rfl,.inl ⟨rfl,rfl⟩⟩
 rintro j t ⟨bs,N,H,K,u,o,y,P⟩ z;have ad:t.Z 0=fq l:=by rw[z 0 du];rfl
 have ai:t.Z 1=I k:=by rw[z 1 du];rfl
 have aA:t.Z 6=.lp 6 0 0:=by rw[z 6 du];rfl
 have Q:t.Z 7=.lp 7 0 0:=by rw[z 7 du];rfl
 have R:t.Z 8=I M:=by rw[z 8 du];rfl
 have a7:=sg j;have aB:=jk l (k+3+j) 9 q av;have bu:=ig l (k+3+j) 9 av;have p:Rk l k j=if W l (k+3+j) 9=8 then oo else⟨0,W l (k+3+j) 9,0⟩:=rfl
 have a8:(vT l k j).length=j:=by simp[vT]
 generalize W l (k+3+j) 9=A at*
 rcases am j M with D|D
 .rcases P with⟨rfl,rfl⟩|⟨P,rfl,a4⟩
  .repeat' first|simp(disch:=try exact om) only[dt,simprocAttr,N,u,y,ad,ai,Q,R]|refine cs ?_ ?_<;>intro h<;>try omega|refine lq aB ?_|refine lq EZ ?_|refine ei ?_
   all_goals
    refine⟨0+1,⟨?_⟩,⟨av⟩⟩;simp only[da,simprocAttr,H,K,u,y,xZ]
   .refine⟨D,_,by simp only[aQ,aw,ay,aF];rfl,.inr ⟨?_,?_⟩⟩
    .rw[sV,p,ax h];rfl
    .rfl
   .refine⟨D,_,by simp only[aQ,aw,ay,aF];rfl,.inr ⟨?_,?_⟩⟩
    .rw[sV,p,al h];rfl
    .rfl
  .repeat' first|simp(disch:=try exact om) only[dt,simprocAttr,xZ,N,u,y,a4,ad,ai,Q,R]|refine cs ?_ ?_<;>intro h<;>try omega|refine lq aB ?_|refine lq EZ ?_|refine ei ?_
   all_goals
    refine⟨j+1,⟨?_⟩,⟨av⟩⟩;simp only[da,simprocAttr,H,K,u,y,xZ]
   .refine⟨D,rfl,_,by simp only[aQ,aw,ay,aF];rfl,.inr ?_⟩;rw[sV,p,ax h,az];exact⟨jY _,rfl⟩
   .refine⟨D,rfl,_,by simp only[aQ,aw,ay,aF];rfl,.inr ?_⟩;rw[sV,p,al h,az];exact⟨jY _,rfl⟩
 .obtain rfl:j=M:=av;have L:o.one=true/\V.Le o (eW (vT l k j)):=by
   rcases P with⟨rfl,rfl⟩|⟨_,rfl,_⟩
   .exact⟨rfl,.aP _⟩
   .exact⟨rfl,.refl _⟩
  have ab:=L.1;repeat' first|simp only[dt,simprocAttr,N,H,K,u,y,aA,Q,R,ab]|refine cs ?_ ?_<;>intro h<;>try omega
  exact⟨nE,.agg [I a.J,I a.seq,I a.k,I F,I (f/3:Nat),S (T++nI j),o],false,jH,t.E,_,false,eA (by simp only[ee,simprocAttr,aA,H,K]<;>rfl) rfl,.refl _,sr (.cons (.refl _) (.cons (.refl _) (.cons (.refl _) (.cons (.refl _) (.cons (.refl _) (.cons (.refl _) (.cons L.2 .nil))))))),λh=>(by cases h),rfl,rfl⟩
def Og{P:Program}{GL:aj}{d:Option Nat}{pu:Bool}{r:List BI}{K:St->Prop}{s:St}{x:eL}{e z:V}{sz:Nat}{fA:aK}(hx:s.val x=e)(a:jW sz e=true)(f:s.E=fA)
 (h:gA P GL d pu r s K (.ms sz fA.Y 0 1 1) false (fA.cO e.cells)):(MX.Tt sz z 1 [(0,x)]).wp s (gA P GL d pu r s K):=by
 subst f;subst hx;simp only[MX.wp,iQ,List.replicate_one,ew,nY,bL,a,bP,aw,bt,cV,dl,jf,cD];exact h
def Gh(_:aK)(v:V)(x:T)(X:List Nat):Prop:=v=S x/\X=[]
def RPo(h:aK)(v:V)(p:Post)(X:List Nat):Prop:=∃a,v=.agg [I p.id.J,I p.id.seq,I p.id.k,a,B p.main]/\ce 1 Gh h a p.path X
def E6:lP Gh:=by rintro h j v a X ⟨d,f⟩ _ _;exact⟨d,f⟩
def JR:lP RPo:=by rintro h p v a X ⟨d,f,j⟩ l o;exact⟨d,f,ce.qG E6 _ _ _ _ _ j l o⟩
def E7:JA Gh:=by rintro h v a X ⟨f,rfl⟩ i d;cases d
def Gi:JA RPo:=by rintro h v a X ⟨f,j,d⟩;exact ce.vF E7 _ _ _ _ d
def Oh:Ls 1 Gh S:=by
 exact X4
def Zv:Ls 5 RPo Post.v:=by
 rintro h v a X fz ⟨q,rfl,o⟩ p;refine⟨rfl,λj c d f l=>?_⟩
 match j with
 |0=>cases f;cases l;exact .refl _
 |1=>cases f;cases l;exact .refl _
 |2=>cases f;cases l;exact .refl _
 |3=>cases f;cases l;exact ce.TD av Oh _ _ _ _ _ o p
 |4=>cases f;cases l;exact .refl _
 |j+5=>cases f
def abr(h:aK)(x:T):ce 1 Gh (h.cO (V.cells (S x))) (.ms 1 h.Y 0 1 1) [x] [h.Y]:=by
 refine⟨[S x],[[]],⟨λy a=>by simp at a;subst a;rfl,.inr ⟨h.Y,1,[],rfl,dn _,by simp[aK.cO,eQ,b9],an _,rfl⟩⟩,rfl,rfl,λi y b l d f j=>?_,rfl⟩
 match i with
 |0=>cases d;cases f;cases j;exact⟨rfl,rfl⟩
 |i+1=>cases d
def Gj{α:Type}{sz:Nat}{R:aK->V->α->List Nat->Prop}(f:lP R)(a:JA R){h:aK}{v:V}{l:List α}{X:List Nat}(T:ce sz R h v l X)(cs:List V):ce sz R (h.cO cs) v l X:=
 ce.qG f _ _ _ _ _ T (λi d=>⟨ce.vF a _ _ _ _ T i d,by simp only[aK.cO];exact bD _ _ (ct (ce.vF a _ _ _ _ T i d))⟩) (fO _)
def abs:CF GL f99 [22,42,47,48] [] 99:=jo
def ze:List T:=[[108,105,102,101],[111,100,101],[111,102,32,114,111,109,101]]
def xr(a:ID)(n i:Nat):Post:=⟨a,lQ (n/3/(1+7*i):Nat)::(if n/48%3=0 then [ze.getD (n/144%3) []]else []),decide (n/24%2=i)⟩
def pU(a:ID)(n k:Nat):List Post:=(List.range k).map (xr a n)
def BO(a:ID)(n k:Nat):pU a n (k+1)=pU a n k++[xr a n k]:=by unfold pU;rw[dX,az];rfl
def Oi(a:ID)(n:Nat)(ch:n<100000):af 99 [a.v,I n] (nt (pU a n (n%3))):=by
 have ab:(n:Int).tmod 3=((n%3:Nat):Int):=rfl;have aA:(n:Int).tdiv 3=((n/3:Nat):Int):=rfl;have aB:(n:Int).tdiv 24=((n/24:Nat):Int):=rfl;have aC:((n/24:Nat):Int).tmod 2=((n/24%2:Nat):Int):=rfl;have aD:(n:Int).tdiv 48=((n/48:Nat):Int):=rfl;have a0:((n/48:Nat):Int).tmod 3=((n/48%3:Nat):Int):=rfl;have bi:(n:Int).tdiv 144=((n/144:Nat):Int):=rfl;have bl:((n/144:Nat):Int).tmod 3=((n/144%3:Nat):Int):=rfl;have bo:V.sl 1 [V.str [108,105,102,101],V.str [111,100,101],V.str [111,102,32,114,111,109,101]]=eZ ze:=rfl;have ca:ze.length=3:=rfl;have g1:n/144%3<ze.length:=fI _ (by decide);refine Pure.gg (by simp only[dx]) (by simp only[dx]) (eN hm abs.ok (bE rfl) ?_);repeat' simp only[dt,simprocAttr]
 refine dT rfl rfl (λ(k:Nat) t=>k<=n%3/\t.Z 6=I k/\t.G 2=1/\t.loc 2 0=[I a.J,I a.seq,I a.k]/\∃q X,t.Z 5=q/\ce 5 RPo t.E q (pU a n k) X/\X.Nodup) (λk=>n%3-k) 0 ?_ ?_
 .exact⟨aL _,rfl,rfl,rfl,.aP,[],rfl,ce.nil,jR⟩
 rintro k t ⟨ci,y,r,u,q,X,ac,T,D⟩ a1;have z:t.Z 1=I n:=by rw[a1 1 du];rfl
 have K:t.Z 2=.lp 2 0 0:=by rw[a1 2 du];rfl
 have cb:n%3<3:=fI _ (by decide);rcases am k (n%3)with ad|ad
 .have a2:((n/3:Nat):Int).tdiv (1+7*(k:Int))=((n/3/(1+7*k):Nat):Int):=by
   rw[show(1+7*(k:Int))=((1+7*k:Nat):Int)by omega];rfl
  have hb:n/3/(1+7*k)<=n/3:=Nat.div_le_self _ _;have E:xr a n k=⟨a,lQ (n/3/(1+7*k):Nat)::(if n/48%3=0 then [ze.getD (n/144%3) []]else []),decide (n/24%2=k)⟩:=rfl;rw[ap,aa g1,bf]at E;generalize n/3/(1+7*k)=d at*
  have a3:=E5 (d:Nat) (by unfold jG;omega);have T1:=abr t.E (lQ d);have a4:=Gj JR Gi T (V.cells (S (lQ d)));have f:=ce.vF Gi _ _ _ _ T;have cp:=T.one;have L:(((n/24%2:Nat):Int)==(k:Int))=decide (n/24%2=k):=by rw[db];simp;omega
  have N:(X++[t.E.Y]).Nodup:=aO.2 ⟨D,bT,λi l j bs e=>by simp at bs;have:=f i l;omega⟩;have P:(pU a n k).length<=1000000:=by simp[pU];omega
  have cc:(t.E.cO (V.cells (S (lQ d)))).Y=t.E.Y+1:=rfl;by_cases a5:n/48%3=0
  .rw[ax a5]at E;have Q:((n/48%3:Nat):Int)=0:=av;repeat' first|simp(disch:=omega) only[dt,simprocAttr,ab,aA,aB,aC,a2,y,r,u,z,K]|refine cs ?_ ?_<;>intro h<;>try omega|refine lq a3 ?_|refine e9 ?_ ?_
   all_goals
    refine Og (e:=S (lQ d)) (fA:=t.E) ?_ rfl ?_ ?_
    .exact sT
    .simp only[simprocAttr,bx]
   all_goals generalize bu:t.E.cO (V.cells (S (lQ d)))=p at*
   all_goals repeat' first|simp(disch:=try exact om) only[gE,simprocAttr,aD,a0,bi,bl,bo,r,u,z,K,Q]|refine ei ?_|refine e9 ?_ ?_
   all_goals
    refine oX (e:=S ze[n/144%3]) (fA:=p) (v0:=.ms 1 t.E.Y 0 1 1) (a:=ze[n/144%3]) (js:=[]) E6 E7 ?_ ?_ ?_ T1 rfl ⟨rfl,rfl⟩ bT rfl bT λR a6 H g1 bv bY g4 g5=>?_
    .exact sT
    .simp only[simprocAttr,bx]
    .exact sT
    obtain⟨b2,_⟩:=g1.cells;have a7:=g1.one;have b3:=ce.same JR Gi a4 g4 λi l e=>by
     have:=f i l;cases e;omega
    have a8:=sP (A:=X) (B:=[t.E.Y]) (C:=[]) (D:=H) (n:=p.Y) (by simpa using N) bv (λi l=>by have:=f i l;omega) bY
   all_goals repeat' simp only[gE,simprocAttr,ac,b2,a7]
   all_goals
    refine oX (e:=.agg [I a.J,I a.seq,I a.k,R,B (((n/24%2:Nat):Int)==(k:Int))]) (fA:=a6) (v0:=q) (a:=xr a n k) (js:=H) JR Gi ?_ ?_ ?_ b3 ?_ ⟨R,by rw[E,L],by rw[E];exact g1⟩ a8 rfl P λv a9 o q1 ai b5 b6 b7=>?_
    .exact sT
    .simp only[simprocAttr,bx]
    .exact sT
    .simp only[jW,V.cells,aM,aX,bR,cm,a7];rfl
   all_goals repeat any_goals simp(disch:=omega) only[dt,simprocAttr,y,bx]
   all_goals
    refine⟨k+1,⟨?_⟩,⟨av⟩⟩;simp only[da,simprocAttr,r,u,bx]
   all_goals exact⟨ad,rfl,v,o,rfl,by rw[BO];exact q1,ai⟩
  .rw[al a5]at E;have Q:¬((n/48%3:Nat):Int)=0:=av;repeat' first|simp(disch:=omega) only[dt,simprocAttr,ab,aA,aB,aC,a2,y,r,u,z,K]|refine cs ?_ ?_<;>intro h<;>try omega|refine lq a3 ?_|refine e9 ?_ ?_
   all_goals
    refine Og (e:=S (lQ d)) (fA:=t.E) ?_ rfl ?_ ?_
    .exact sT
    .simp only[simprocAttr,bx]
   all_goals generalize bu:t.E.cO (V.cells (S (lQ d)))=p at*
   all_goals repeat' first|simp(disch:=omega) only[gE,simprocAttr,aD,a0,r,u,ac,z,K]|refine cs ?_ ?_<;>intro h<;>try omega|refine ei ?_
   all_goals
    refine oX (e:=.agg [I a.J,I a.seq,I a.k,.ms 1 t.E.Y 0 1 1,B (((n/24%2:Nat):Int)==(k:Int))]) (fA:=p) (v0:=q) (a:=xr a n k) (js:=[t.E.Y]) JR Gi ?_ ?_ ?_ a4 rfl ⟨.ms 1 t.E.Y 0 1 1,by rw[E,L],by rw[E];exact T1⟩ N rfl P λv a9 o q1 ai b5 b6 b7=>?_
    .exact sT
    .simp only[simprocAttr,bx]
    .exact sT
   all_goals repeat any_goals simp(disch:=omega) only[dt,simprocAttr,y,bx]
   all_goals
    refine⟨k+1,⟨?_⟩,⟨av⟩⟩;simp only[da,simprocAttr,r,u,bx]
   all_goals exact⟨ad,rfl,v,o,rfl,by rw[BO];exact q1,ai⟩
 .obtain rfl:k=n%3:=av;repeat' first|simp only[dt,simprocAttr,ab,y,ac,z]|refine cs ?_ ?_<;>intro h<;>try omega
  exact⟨nE,q,_,oC t.E X,t.E.less X,_,false,bC rfl T.gD,l6 _ _,ce.TD av Zv _ _ _ _ _ T (λi l=>pg l),λh=>(by cases h),rfl,rfl⟩
def cJ{GL:aj}{P:Program}{s:St}{K:St->Prop}{pu:Bool}{n:Nat}{y:eL}{id off:Nat}{cells:List V}{r:List BI}(hb:s.E.box id=some cells)(a:jW n (s.val y)=true)(d:off+n<=cells.length)
 (h:∀t:St,t.Z=s.Z->t.G=s.G->t.loc=s.loc->t.E.box=eQ s.E.box id (some (aQ cells off (s.val y).cells))->t.E.mp=s.E.mp->t.E.Y=s.E.Y->t.fc=s.fc->er P GL pu r t K):iG P GL (s.store n (.bp id off) y) pu r K:=by
 obtain⟨f,j,l,o,p,q⟩:=JB hb a d;rw[Gc hb a d];unfold iG;refine h _ f j l o p q ?_;unfold St.PH;simp only[St.store,hb,a,d,oQ,bP];split
 .cases y<;>rfl
 .rfl
def zE(fz:aj)(cs ds:List V):Prop:=cs.length=ds.length/\∀(j:Nat) c d,cs[j]?=some c->ds[j]?=some d->V.lF fz c d
def zE.nil{fz:aj}:zE fz [] []:=⟨rfl,λj c d e=>by cases e⟩
def zE.cons{fz:aj}{c d:V}{cs ds:List V}(h:V.lF fz c d)(a:zE fz cs ds):zE fz (c::cs) (d::ds):=⟨by simp[a.1],λj x y f l=>by
 cases j with
 |zero=>cases f;cases l;exact h
 |succ j=>exact a.2 j x y f l⟩
def V.lF.mono{fz j:aj}{v u:V}(h:V.lF fz v u)(o:∀id cells,fz id=some cells->j id=some cells):V.lF j v u:=by
 induction h with
 |refl v=>exact .refl v
 |aP sz=>exact .aP sz
 |agg cs a d _ ih=>exact .agg cs a d ih
 |hJ cs a d _ ih=>exact .hJ cs a d ih
 |sl sz cs a d _ ih=>exact .sl sz cs a d ih
 |ep cs a d _ ih=>exact .ep cs a d ih
 |fn f cs a d _ ih=>exact .fn f cs a d ih
 |FJ sz id off=>exact .FJ sz id off
 |ms sz id off n c cells a p l d _ q hx ih=>exact .ms sz id off n c cells a p (o _ _ l) d ih q hx
 |bp id off cells a l d _ ih=>exact .bp id off cells a (o _ _ l) d ih
def V.Le.Mr{v u:V}(h:V.Le v u)(fz:aj):V.lF fz v u:=h.mono λ_ _ e=>by cases e
def Vj:CF GL f187 [22,23] [] 187:=jo
def Zw:CF GL f139 [] [4] 139:=jo
def Gk(l:List Int)(k:Int)(n:Nat):o6 l k (n+1)=o6 l k n++[km l (k+4*n)]:=by unfold o6;rw[dX,az];rfl
def Zx(l:List Int)(k:Int)(n:Nat)(z:∀n∈l,jG n)(L:0<=k/\k<=100000000)(N:n<=1000):
 aI 187 [fq l,I k,I n] aK.bare λv _ E=>∃X,ce 1 Gh E v (o6 l k n) X/\X.Nodup:=by
 refine bq Vj.ok rfl ?_;repeat' simp only[dt,simprocAttr]
 refine dT rfl rfl (λ(i:Nat) t=>i<=n/\t.Z 8=I i/\∃d X,t.Z 7=d/\ce 1 Gh t.E d (o6 l k i) X/\X.Nodup) (λi=>n-i) 0 ?_ ?_
 .exact⟨aL _,rfl,.aP,[],rfl,ce.nil,jR⟩
 rintro i t ⟨P,f,d,X,j,T,D⟩ r;have o:t.Z 0=fq l:=by rw[r 0 du];rfl
 have p:t.Z 1=I k:=by rw[r 1 du];rfl
 have q:t.Z 2=I n:=by rw[r 2 du];rfl
 have A:=T.one;rcases am i n with y|y
 .have c:=BN l (k+4*i) z av;repeat' first|simp(disch:=omega) only[dt,simprocAttr,f,j,o,p,q]|refine cs ?_ ?_<;>intro h<;>try omega|refine lq c ?_
  refine oX (e:=S (km l (k+4*i))) (fA:=t.E) (v0:=d) (a:=km l (k+4*i)) (js:=[]) E6 E7 ?_ ?_ ?_ T rfl ⟨rfl,rfl⟩ (by simpa using D) rfl (by simp[o6];omega) λv K u g1 H Q g4 g5=>?_
  .exact sT
  .exact sT
  .exact sT
  repeat' simp(disch:=omega) only[gE,simprocAttr,f,j,o,p,q]
  refine⟨i+1,⟨?_⟩,⟨av⟩⟩;simp only[da,f,j,o,p,q,bx];exact⟨y,rfl,v,u,rfl,by rw[Gk];exact g1,H⟩
 .obtain rfl:i=n:=av;repeat' first|simp only[dt,simprocAttr,f,j,o,p,q,A]|refine cs ?_ ?_<;>intro h<;>try omega
  exact⟨nE,d,_,bC rfl T.gD,X,T,D⟩
def pE(i:Nat):Nat->Int×List (Int×Int)->Int×List (Int×Int)
 |0,s=>s
 |k+1,s=>((pE i k s).1.tdiv 3+700*(i+k+1),if 0< (pE i k s).1.tmod 3 then(pE i k s).2++[((i:Int),(k:Int))]else(pE i k s).2)
def pV(many:Nat):Nat->Int×List (Int×Int)->Int×List (Int×Int)
 |0,s=>s
 |i+1,s=>pE i many (pV many i s)
def E8(i:Nat)(d:i<=4)(s:Int×List (Int×Int))(a:0<=s.1/\s.1<=10000):∀k,k<=4->(0<=(pE i k s).1/\(pE i k s).1<=10000)/\(pE i k s).2.length<=s.2.length+k
 |0,_=>⟨a,an _⟩
 |k+1,j=>by
  obtain⟨⟨f,l⟩,o⟩:=E8 i d s a k (by omega);refine⟨?_,?_⟩
  .simp only[pE];generalize (pE i k s).1=x at*
   have e:x.tdiv 3=x/3:=jv f;omega
  .simp only[pE];split
   .rw[ae];simp;omega
   .omega
def BP(many:Nat)(hm:many<=4)(s:Int×List (Int×Int))(a:0<=s.1/\s.1<=10000):∀i,i<=4->(0<=(pV many i s).1/\(pV many i s).1<=10000)/\(pV many i s).2.length<=s.2.length+4*i
 |0,_=>⟨a,by show s.2.length<=_;omega⟩
 |i+1,j=>by
  obtain⟨d,l⟩:=BP many hm s a i av;obtain⟨f,o⟩:=E8 i av _ d many hm;refine⟨f,?_⟩;show(pE i many (pV many i s)).2.length<=_;omega
def gT(w:cg)(l:List Int)(k:Int)(n:Nat):List ID:=(List.range n).map λi:Nat=>DO w (W l (k+i) 16)
def rB(w:cg)(l:List Int)(k:Int)(n:Nat):gT w l k (n+1)=gT w l k n++[DO w (W l (k+n) 16)]:=by unfold gT;rw[dX,az];rfl
def jF(l:List Int)(k:Int)(many m:Nat):List T:=(o6 l k many).set (many-1) (km l (k+4*(many-1:Nat))++nI m)
def C3(l:List Int)(k:Int)(n:Nat)(h:0<n):jF l k n 0=o6 l k n:=by
 unfold jF;have d:n-1< (o6 l k n).length:=by simp[o6];omega
 have a:km l (k+4*(n-1:Nat))++nI 0=(o6 l k n)[n-1]:=by simp[o6,nI]
 rw[a,iA]
def xt(l:List Int)(k:Int)(n m:Nat):(jF l k n m).length=n:=by simp[jF,o6]
def vU(l:List Int)(k:Int)(n m:Nat):jF l k n (m+1)=(jF l k n m).set (n-1) (km l (k+4*(n-1:Nat))++nI m++[32,64]):=by
 unfold jF;rw[List.set_set,nI,aF]
def jb(w:cg)(l:List Int)(k:Int)(s:fW):Op:=
 let all:=(gX w s.i9.toNat s.k0.toNat).O
 let n:=1+W l k (min (all.length-s.idx) 4)
 let many:=(1+W l (k+1) 3).toNat
 let m:=(W l (k+2) 9-6).toNat
 {iT with kind:=8,W:=(all.getD s.idx.toNat ⟨⟨0,0,0⟩,0,0,[],[]⟩).id,n:=n,F:=jF l (k+3) many m,cW:=(pV many n.toNat (W l (k+2) 4096,[])).2,C:=gT w l (k+3) m}
def Rl(w:cg)(gp:w.ok)(l:List Int)(k:Int)(v a i:Nat)(bo:∀n∈l,jG n)(it:0<=k/\k<=10000000)(e3:v<w.O.length)(e4:a<w.O[v].O.length)(e5:i<w.O[v].O[a].O.length):
 af 139 [w.v,fq l,I k,(fW.mk v a i).v] (jb w l k ⟨v,a,i⟩).v:=by
 have c9:jb w l k ⟨v,a,i⟩={iT with kind:=8,W:=(((gX w v a).O).getD i ⟨⟨0,0,0⟩,0,0,[],[]⟩).id,n:=1+W l k (min ((gX w v a).O.length-(i:Int)) 4),F:=jF l (k+3) (1+W l (k+1) 3).toNat (W l (k+2) 9-6).toNat,cW:=(pV (1+W l (k+1) 3).toNat (1+W l k (min ((gX w v a).O.length-(i:Int)) 4)).toNat (W l (k+2) 4096,[])).2,C:=gT w l (k+3) (W l (k+2) 9-6).toNat}:=rfl;rw[ff e3 e4,ap,aa e5,bf]at c9;generalize jb w l k ⟨v,a,i⟩=R at*
 have hlen:=((gp.2.1 _ (ah e3)).2 _ (ah e4)).2.1;have hB:=p6 w v a ⟨v,a,i⟩ e3 e4 rfl rfl;generalize w.O[v].O[a].O=all at*
 obtain⟨bs,dU⟩:∃j,min (all.length-(i:Int)) 4=j:=⟨_,rfl⟩;have ha:(if 4< (all.length:Int)-i then 4 else(all.length:Int)-i)=bs:=by rw[<-dU];split<;>omega
 have h2:0<bs/\bs<=4:=av;have hD:=jk l k bs bo av;have js:=ig l k bs av;rw[dU]at c9;have c3:=jk l (k+1) 3 bo av;have jA:=ig l (k+1) 3 av;have c4:=jk l (k+2) 9 bo av;have jB:=ig l (k+2) 9 av;have hF:=jk l (k+2) 4096 bo av;have j2:=ig l (k+2) 4096 av;generalize W l k bs=hc at*
 generalize W l (k+1) 3=hd at*
 generalize W l (k+2) 9=he at*
 generalize W l (k+2) 4096=K at*
 obtain⟨N,hf⟩:∃N:Nat,1+hc=N:=⟨(1+hc).toNat,av⟩;obtain⟨Y,hg⟩:∃Y:Nat,1+hd=Y:=⟨(1+hd).toNat,av⟩;obtain⟨M,hH⟩:∃M:Nat,(he-6).toNat=M:=⟨_,rfl⟩;rw[hf,hg,hH,bX,bX]at c9;have hK:=Zx l (k+3) Y bo av av;refine Pure.gg (by simp only[dx]) (by simp only[dx]) (eN hm Zw.ok (bE rfl) ?_);repeat' first|simp(disch:=try exact om) only[dt,simprocAttr,fW.v,hf,hg,ha]|refine lq hB ?_|refine lq hD ?_|refine lq c3 ?_
 refine bz (h0:=aK.bare) ?_ hK ?_ ?_ ?_
 .exact sT
 .rfl
 .refine mV ?_;simp only[ee]<;>rfl
 rintro cb bJ h3 ⟨X,T,D⟩;have o1:=T.one;have hM:=T.cells.1;obtain⟨e6,ea⟩:∃Z,Z=[I 0,I 0,I 0,I 0,I 0,I 0,I 0,I 0,I 0,I 0,I 0,I 0,I 0,S [],V.aP,V.aP,V.aP]:=⟨_,rfl⟩;repeat' first|simp(disch:=omega) only[gE,simprocAttr,o1,hM]|refine lq c4 ?_
 refine dT rfl rfl (λ(j:Nat) t=>j<=M/\t.Z 13=I j/\t.G 4=1/\t.loc 4 0=[cf w.O]/\t.G 7=1/\t.G 8=1/\t.loc 8 0=e6/\t.loc 7 0=[I v,I a,I i]/\t.G 10=1/\ce 1 Gh t.E cb (jF l (k+3) Y j) X/\
  ∃A,t.loc 10 0=[I 8,I all[i].id.J,I all[i].id.seq,I all[i].id.k,I 0,I 0,I 0,I 0,I 0,I 0,I N,I 0,I 0,S [],cb,.aP,A]/\((j=0/\A=.aP)\/(0<j/\A=eW (gT w l (k+3) j)/\t.fc 10 0 16=true))) (λj=>M-j) 0 ?_ ?_
 .refine⟨aL _,?_⟩;simp only[da,simprocAttr,bQ]
  and_intros
  all_goals first|rfl|(rw[ea];done)|(rw[C3 _ _ _ av];exact T)|(refine⟨.aP,?_⟩;simp only[aQ,aw,ay];exact⟨trivial,.inl trivial⟩)
 rintro j t ⟨j3,L,P,Q,ab,ac,ad,ai,aA,T1,A,H,cc⟩ aB;have a3:t.Z 1=fq l:=by rw[aB 1 du];rfl
 have a4:t.Z 2=I k:=by rw[aB 2 du];rfl
 have a5:t.Z 4=.lp 4 0 0:=by rw[aB 4 du];rfl
 have a6:t.Z 7=.lp 7 0 0:=by rw[aB 7 du];rfl
 have a7:t.Z 8=.lp 8 0 0:=by rw[aB 8 du];rfl
 have f:t.Z 10=.lp 10 0 0:=by rw[aB 10 du];rfl
 have o:t.Z 11=I Y:=by rw[aB 11 du];rfl
 have p:t.Z 12=I (he-6):=by rw[aB 12 du];rfl
 have hh:=xt l (k+3) Y j;rcases am j M with h1|h1
 .have hi:Y-1< (jF l (k+3) Y j).length:=av;have dd:(Y:Int)-1=((Y-1:Nat):Int):=av;have hx:(jF l (k+3) Y j)[Y-1]=km l (k+3+4*(Y-1:Nat))++nI j:=by simp[jF]
  obtain⟨id,c,cells,x,j4,rest,q1,j5,hj,hk,j6,j7,⟨rfl,rfl⟩,j8,j9,kd,h4,hl,_⟩:=ce.at E6 E7 T1 D hi;rw[hx]at hk;have h5:=sg j;have h6:=sf l (k+3+4*(Y-1:Nat));have hn:=jk l (k+3+j) 16 bo av;have kk:=ig l (k+3+j) 16 av;have eb:=rB w l (k+3) j;have ih:(gT w l (k+3) j).length=j:=by simp[gT]
  generalize W l (k+3+j) 16=hO at*
  have ho:=E2 w hO gp (by unfold jG;omega);have hq:List.drop ((Y-1)*1) cells=S (km l (k+3+4*(Y-1:Nat))++nI j)::rest:=hk;have hr:(Y-1)*1<=cells.length:=av;have hs:Y-1<Y:=av;rw[hh]at q1;rcases cc with⟨rfl,rfl⟩|⟨cc,rfl,ch⟩
  .repeat' first|simp(disch:=omega) only[gE,simprocAttr,L,P,Q,ab,ac,ad,ai,aA,H,a3,a4,a5,a6,a7,f,o,p,dd,q1,hj,hq,hr,hs]|refine cs ?_ ?_<;>intro h<;>try omega
   all_goals
    refine cJ (n:=1) (cells:=cells) ?_ ?_ av λt2 aC aD a0 ci ht cp a1=>?_
    .exact sT
    .exact sT
    have tb:t2.E.box=eQ t.E.box id (some (aQ cells ((Y-1)*1) [S (km l (k+3+4*(Y-1:Nat))++nI 0++[32,64])])):=ci.trans sT;have e7:t2.E.Y=t.E.Y:=cp.trans sT;obtain⟨fa,a8,a9⟩:=hl t2.E (S (km l (k+3+4*(Y-1:Nat))++nI 0++[32,64])) (km l (k+3+4*(Y-1:Nat))++nI 0++[32,64]) [] (c0 e7.symm) (by rw[tb,bh];rfl) (λj hQ h1 df=>by rw[tb,bD _ _ h1]) rfl ⟨rfl,rfl⟩;rw[a9 rfl,<-vU]at a8
   all_goals repeat' first|simp(disch:=try exact om) only[gE,simprocAttr,aC,aD,a0,a1,L,P,Q,ab,ac,ad,ai,aA,H,a3,a4,a5,a6,a7,f,o,p,dd]|refine lq hn ?_|refine lq ho ?_
   all_goals
    refine⟨0+1,⟨?_⟩,⟨av⟩⟩;simp only[da,simprocAttr,L,P,Q,ab,ac,ad,ai,aA,H,a3,a4,a5,a6,a7,f,o,p,bx,aC,aD,a0,a1,xZ];rw[q1]at a8;refine⟨h1,rfl,a8,_,by simp only[aQ,aw,ay,q1];rfl,.inr ⟨?_,rfl⟩⟩;rw[eb];rfl
  .repeat' first|simp(disch:=omega) only[gE,simprocAttr,xZ,L,P,Q,ab,ac,ad,ai,aA,H,ch,a3,a4,a5,a6,a7,f,o,p,dd,q1,hj,hq,hr,hs]|refine cs ?_ ?_<;>intro h<;>try omega
   all_goals
    refine cJ (n:=1) (cells:=cells) ?_ ?_ av λt2 aC aD a0 ci ht cp a1=>?_
    .exact sT
    .exact sT
    have tb:t2.E.box=eQ t.E.box id (some (aQ cells ((Y-1)*1) [S (km l (k+3+4*(Y-1:Nat))++nI j++[32,64])])):=ci.trans sT;have e7:t2.E.Y=t.E.Y:=cp.trans sT;obtain⟨fa,a8,a9⟩:=hl t2.E (S (km l (k+3+4*(Y-1:Nat))++nI j++[32,64])) (km l (k+3+4*(Y-1:Nat))++nI j++[32,64]) [] (c0 e7.symm) (by rw[tb,bh];rfl) (λj hQ h1 df=>by rw[tb,bD _ _ h1]) rfl ⟨rfl,rfl⟩;rw[a9 rfl,<-vU]at a8
   all_goals repeat' first|simp(disch:=try exact om) only[gE,simprocAttr,xZ,aC,aD,a0,a1,L,P,Q,ab,ac,ad,ai,aA,H,ch,a3,a4,a5,a6,a7,f,o,p,dd]|refine lq hn ?_|refine lq ho ?_
   all_goals
    refine⟨j+1,⟨?_⟩,⟨av⟩⟩;simp only[da,simprocAttr,L,P,Q,ab,ac,ad,ai,aA,H,ch,a3,a4,a5,a6,a7,f,o,p,bx,aC,aD,a0,a1,xZ];rw[q1]at a8;refine⟨h1,rfl,rfl,a8,_,by simp only[aQ,aw,ay,q1];rfl,.inr ⟨jY _,?_⟩⟩;rw[eb,az];rfl
 .obtain rfl:j=M:=av;have ed:A.one=true/\V.Le A (eW (gT w l (k+3) j)):=by
   rcases cc with⟨rfl,rfl⟩|⟨_,rfl,_⟩
   .exact⟨rfl,.aP _⟩
   .exact⟨rfl,.refl _⟩
  have c1:=ed.1;have o2:=T1.one;have hu:=T1.cells.1;repeat' first|simp(disch:=omega) only[gE,simprocAttr,L,P,Q,ab,ac,ad,ai,aA,H,a3,a4,a5,a6,a7,f,o,p,c1,o2,hu]|refine cs ?_ ?_<;>intro h<;>try omega|refine lq hF ?_
  generalize hR:(I 8:V)=hv at H;refine dT rfl rfl (λ(x:Nat) u=>x<=N/\u.Z 15=I x/\u.Z 14=I (pV Y x (K,[])).1/\u.E=t.E/\u.G 8=1/\u.loc 8 0=e6/\u.G 10=1/\
   ∃d,u.loc 10 0=[hv,I all[i].id.J,I all[i].id.seq,I all[i].id.k,I 0,I 0,I 0,I 0,I 0,I 0,I N,I 0,I 0,S [],cb,d,A]/\(((pV Y x (K,[])).2=[]/\d=.aP)\/(d=jz (pV Y x (K,[])).2/\u.fc 10 0 15=true))) (λx=>N-x) 0 ?_ ?_
  .refine⟨aL _,?_⟩;simp only[da,simprocAttr,L,P,Q,ab,ac,ad,ai,aA,H];exact⟨rfl,.aP,rfl,.inl ⟨rfl,rfl⟩⟩
  rintro x u ⟨ks,fr,fs,fB,dr,c2,ds,d,dE,gb⟩ gf;have gk:u.Z 8=.lp 8 0 0:=(gf 8 du).trans sT;have el:u.Z 10=.lp 10 0 0:=(gf 10 du).trans sT;have et:u.Z 11=I Y:=(gf 11 du).trans sT;rcases am x N with df|df
  .have hw:pV Y (x+1) (K,[])=pE x Y (pV Y x (K,[])):=rfl;have eK:=BP Y av (K,[]) av x av;generalize pV Y x (K,[])=G at*
   have yR:d.one=true:=by
    rcases gb with⟨_,rfl⟩|⟨rfl,_⟩<;>rfl
   repeat' first|simp only[dt,simprocAttr,fr,fs,fB,dr,c2,ds,dE,gk,el,et]|refine cs ?_ ?_<;>intro h<;>try omega
   refine dT rfl rfl (λ(z:Nat) y=>z<=Y/\y.Z 16=I z/\y.Z 15=I x/\y.Z 14=I (pE x z G).1/\y.E=t.E/\y.G 8=1/\y.loc 8 0=e6/\y.G 10=1/\
    ∃d,y.loc 10 0=[hv,I all[i].id.J,I all[i].id.seq,I all[i].id.k,I 0,I 0,I 0,I 0,I 0,I 0,I N,I 0,I 0,S [],cb,d,A]/\(((pE x z G).2=[]/\d=.aP)\/(d=jz (pE x z G).2/\y.fc 10 0 15=true))) (λz=>Y-z) 0 ?_ ?_
   .refine⟨aL _,?_⟩;simp only[da,simprocAttr,fr,fs,fB,dr,c2,ds,dE,xZ];exact⟨rfl,d,rfl,gb⟩
   rintro z y ⟨ln,bu,bv,bY,b2,b3,b5,b6,hy,b7,c5⟩ c6;have ca:y.Z 8=.lp 8 0 0:=(c6 8 du).trans sT;have q:y.Z 10=.lp 10 0 0:=(c6 10 du).trans sT;have r:y.Z 11=I Y:=(c6 11 du).trans sT;have e1:=E8 x av G eK.1 z av;rcases am z Y with c7|c7
   .have bi:(pE x (z+1) G).1=(pE x z G).1.tdiv 3+700*(x+z+1):=rfl;have bl:(pE x (z+1) G).2=if 0< (pE x z G).1.tmod 3 then(pE x z G).2++[((x:Int),(z:Int))]else(pE x z G).2:=rfl
    have io:(pE x z G).2.length<=100:=by
     have:=eK.2;have:=e1.2;simp only[aX]at*
     omega
    generalize pE x z G=hz at*
    have a2:hz.1.tdiv 3=hz.1/3:=jv e1.1.1;rcases c5 with⟨c5,rfl⟩|⟨rfl,e2⟩
    .repeat' first|simp(disch:=try exact om) only[gE,simprocAttr,xZ,bu,bv,bY,b2,b3,b5,b6,b7,ca,q,r,a2]|refine cs ?_ ?_<;>intro h<;>try omega|refine ei ?_
     all_goals
      refine⟨z+1,⟨?_⟩,⟨av⟩⟩;simp only[da,simprocAttr,xZ,bu,bv,bY,b2,b3,b5,b6,b7,ca,q,r,a2]
     .refine⟨c7,rfl,by rw[bi,a2],_,by simp only[aQ,aw,ay];rfl,.inr ?_⟩;rw[bl,ax (by assumption),c5];rfl
     .refine⟨c7,rfl,by rw[bi,a2],_,rfl,.inl ⟨?_,rfl⟩⟩;rw[bl,al av,c5]
    .repeat' first|simp(disch:=try exact om) only[gE,simprocAttr,xZ,bu,bv,bY,b2,b3,b5,b6,b7,e2,ca,q,r,a2]|refine cs ?_ ?_<;>intro h<;>try omega|refine ei ?_
     all_goals
      refine⟨z+1,⟨?_⟩,⟨av⟩⟩;simp only[da,simprocAttr,xZ,bu,bv,bY,b2,b3,b5,b6,b7,e2,ca,q,r,a2]
     .refine⟨c7,rfl,by rw[bi,a2],_,by simp only[aQ,aw,ay];rfl,.inr ?_⟩;rw[bl,ax (by assumption),az];rfl
     .refine⟨c7,rfl,by rw[bi,a2],_,rfl,.inr ?_⟩;rw[bl,al av];rfl
   .obtain rfl:z=Y:=av;repeat' first|simp(disch:=omega) only[gE,simprocAttr,xZ,bu,bv,bY,b2,b3,b5,b6,b7,ca,q,r]|refine cs ?_ ?_<;>intro h<;>try omega
    refine⟨x+1,⟨?_⟩,⟨av⟩⟩;simp only[da,simprocAttr,xZ,bu,bv,bY,b2,b3,b5,b6,b7,ca,q,r,hw];exact⟨df,rfl,hy,rfl,c5⟩
  .obtain rfl:x=N:=av;have yR:d.one=true/\V.Le d (jz (pV Y x (K,[])).2):=by
    rcases gb with⟨h,rfl⟩|⟨rfl,_⟩
    .exact⟨rfl,by rw[h];exact .aP _⟩
    .exact⟨rfl,.refl _⟩
   have gn:=yR.1;subst hR;rw[ea]at c2;repeat' first|simp only[gE,simprocAttr,fr,fs,fB,dr,c2,ds,dE,gk,el,et,gn,c1,o2]|refine cs ?_ ?_<;>intro h<;>try omega
   have hS:=ce.TD av Oh _ _ _ _ (oC t.E X) T1 λi e5=>pg e5;refine⟨nE,.agg [I 8,I all[i].id.J,I all[i].id.seq,I all[i].id.k,I 0,I 0,I 0,I 0,I 0,I 0,I x,I 0,I 0,S [],cb,d,A],false,oC t.E X,t.E.less X,_,false,eA (by simp only[ee,simprocAttr,dr,c2,ds,dE,gk,aQ]<;>rfl) rfl,l6 _ _,?_,λh=>(by cases h),rfl,rfl⟩;rw[c9];exact .agg _ _ rfl (zE.cons (.refl _) (.cons (.refl _) (.cons (.refl _) (.cons (.refl _) (.cons (.refl _) (.cons (.refl _) (.cons (.refl _) (.cons (.refl _) (.cons (.refl _) (.cons (.refl _) (.cons (.refl _) (.cons (.refl _) (.cons (.refl _) (.cons (.refl _) (.cons hS (.cons (yR.2.Mr _) (.cons (ed.2.Mr _) .nil))))))))))))))))).2
def ox(n:Nat):gU:=⟨lQ n,(n/8%3:Nat),(n/24%3:Nat),if n/72%4=0/\lQ (n/288:Nat)≠lQ n then lQ (n/288:Nat)else [],if n/72%4=1 then [lQ (n/288:Nat)]else []⟩
def Vk(n:Nat)(u:n<100000):af 98 [I n] (ox n).v:=by
 have a:=E5 n (by unfold jG;omega);have d:=E5 (n/288:Nat) (by unfold jG;omega);have f:(n:Int).tdiv 8=((n/8:Nat):Int):=rfl;have j:((n/8:Nat):Int).tmod 3=((n/8%3:Nat):Int):=rfl;have l:(n:Int).tdiv 24=((n/24:Nat):Int):=rfl;have o:((n/24:Nat):Int).tmod 3=((n/24%3:Nat):Int):=rfl;have p:(n:Int).tdiv 72=((n/72:Nat):Int):=rfl;have q:((n/72:Nat):Int).tmod 4=((n/72%4:Nat):Int):=rfl;have r:(n:Int).tdiv 288=((n/288:Nat):Int):=rfl;unfold ox;refine pk f98 ?_;repeat' first|simp(disch:=omega) only[dt,simprocAttr,f,j,l,o,p,q,r]|(first|refine cz ?_ ?_|refine gz ?_ ?_)<;>intro t h<;>(try simp only[t])<;>try omega|refine lq a ?_|refine lq d ?_|refine ei ?_|(refine ao nE ?_;refine tS ev rfl ?_;(all_goals(try(with_reducible exact .refl _))))
 .refine nf rfl (.cons (.refl _) (.cons (.refl _) (.cons (.refl _) (.cons (ak (aq V.str ?_)) (.cons (.aP _) .nil)))));rw[ax ⟨av,by assumption⟩]
 .refine nf rfl (.cons (.refl _) (.cons (.refl _) (.cons (.refl _) (.cons (ak (aq V.str ?_)) (.cons (.aP _) .nil)))));rw[al (λh=>h.2 (by assumption))]
 .exact nf rfl (.cons (.refl _) (.cons (.refl _) (.cons (.refl _) (.cons (.refl _) (.cons (.aP _) .nil)))))
def rC:Nat->List eM->Option Nat
 |_,[]=>none
 |k,v::r=>if 0<v.O.length then some k else rC (k+1) r
def sW(w:cg)(l:List Int)(k:Int):Op:=match rC 0 w.O with
 |some v=>{iT with kind:=2,spot:=⟨v,0,0⟩,bN:=km l k}
 |none=>if 0<w.O.length then {iT with kind:=1,bN:=km l k}else iT
def Rm(w:cg)(p:w.ok)(l:List Int)(k:Int)(q:∀n∈l,jG n)(y:0<=k/\k<=100000000):af 134 [w.v,fq l,I k] (sW w l k).v:=by
 have j:=BN l k q av;have o:∀v,rC 0 w.O=some v->sW w l k={iT with kind:=2,spot:=⟨v,0,0⟩,bN:=km l k}:=λv h=>by unfold sW;rw[h]
 have f:rC 0 w.O=none->sW w l k=if 0<w.O.length then {iT with kind:=1,bN:=km l k}else iT:=λh=>by unfold sW;rw[h]
 generalize sW w l k=R at*
 obtain⟨w⟩:=w;obtain⟨r,t,z⟩:=p;simp only at r o f;refine pk f134 ?_;repeat' simp only[dt,simprocAttr]
 refine sk (bJ:=[]) (λi:Nat=>i<=w.length/\rC i (w.drop i)=rC 0 w) (λi=>[(7,I i,false)]) (λi=>w.length-i) (0) (⟨aL _,rfl⟩) ?_;rintro i ⟨A,a⟩;rcases am i w.length with h1|h1
 .rw[bG h1,rC]at a;have u:=(t _ (ah h1)).1;repeat' first|refine qp ?_|refine cs ?_ ?_<;>intro h<;>try omega|(refine⟨i+1,⟨?_⟩,⟨av⟩,?_⟩;rotate_left;focus (simp only[fR,fM,bL,cK];and_intros;all_goals(try(simp only[mR]));all_goals(try(first|(intro h;cases h;done)|(refine ak (aq I ?_);omega)|((repeat with_reducible (first|exact Kept.refl _|refine eF ?_|refine eO ?_|refine ec ?_));done)))))|refine lq j ?_|(refine ao nE ?_;refine tS ev rfl ?_)
  .rw[ax av]at a;obtain rfl:=o i a.symm;exact nf rfl PA
  .rw[al av]at a;exact⟨h1,a⟩
 .rw[cT h1,rC]at a;have d:=f a.symm;repeat' first|refine k7 ?_|refine cs ?_ ?_<;>intro h<;>try omega|refine lq j ?_|(refine ao nE ?_;refine tS ev rfl ?_)
  .rw[ax av]at d;subst d;exact nf rfl PA
  .rw[al av]at d;subst d;exact nf rfl PA
end Go.Bx
