/- Lemmas for HistoryOrder. -/
import Derived.Test.YtmbahmpbmcfifaaGreatDoorAg
noncomputable section
set_option linter.all false
set_option maxHeartbeats 4000000
set_option maxRecDepth 100000
namespace Go.Bx
open Go.Proofs Go.Proofs.Tryz
attribute [local irreducible] vc er dr b4 bV run iD iY i1 i6 iQ i7 i2 iu iS i4 gB i3 cW
def Bk{n:Nat}{f:Nat->Bool}{i:Nat}(a:i<n)(h:f i=false):(List.range n).all f=false:=by
 rw[eD];exact⟨i,by simpa using a,by simp[h]⟩
def Jw{n:Nat}{f:Nat->Bool}(h:∀i,i<n->f i=true):(List.range n).all f=true:=by
 rw[bP];intro i a;exact h i (by simpa using a)
def ic(l:List Int)(i a:Int)(h:0<a):0<=W l i a/\W l i a<a:=by
 unfold W;split
 .omega
 .exact ql _ _ h
def pR(l:List (Int×Int))(i:Nat):Int×Int:=l.getD i (0,0)
def sd{l:List (Int×Int)}{i:Nat}(h:i<l.length):pR l i=l[i]:=by simp[pR,ap,h]
def pb(o:Op)(i:Nat):Bool:=decide (0<=(pR o.cX i).1/\(pR o.cX i).1<o.n/\0<=(pR o.cX i).2/\(pR o.cX i).2<o.F.length)&&
 (decide (i=0)||decide ((pR o.cX (i-1)).1< (pR o.cX i).1\/(pR o.cX (i-1)).1=(pR o.cX i).1/\(pR o.cX (i-1)).2< (pR o.cX i).2))
def ri(o:Op):Bool:=(List.range o.cX.length).all (pb o)
def QW(o:Op)(t:o.ok):af 300 [o.v] (B (ri o)):=by
 obtain⟨a,z,D,H,K⟩:=t;refine pk f300 ?_;repeat' simp only[dq,simprocAttr]
 refine sk (bL:=[]) (λk:Nat=>k<=o.cX.length/\∀i,i<k->pb o i=true) (λk=>[(3,I k,false)]) (λk=>o.cX.length-k) (0) (⟨av,λi h=>av⟩) ?_;rintro k ⟨L,p⟩;rcases am k o.cX.length with a|a
 .have d:=sd a;rcases cS k with f|f
  .subst f;repeat any_goals first|simp(disch:=try exact om) only[dq,simprocAttr,ng]|(first|refine bY ?_ ?_|refine cY ?_ ?_)<;>intro h<;>(try simp only[bD]at h)<;>(try simp only[h])<;>(try simp only[jc]at h)<;>try omega|(refine⟨0+1,⟨?_⟩,⟨av⟩,?_⟩;rotate_left;focus (simp only[fQ,fM,bK,cF];and_intros;all_goals(try(simp only[mS,simprocAttr]));all_goals(try(first|with_reducible exact .refl _|(intro h;cases h;done)|((repeat first|with_reducible (first|exact Kept.refl _|refine ez ?_|refine eJ ?_|refine ek ?_|refine dT ?_)|(with_reducible refine en ?_ ?_;rotate_left;(simp only[pU,simprocAttr])));done)))))|refine ec ?_|refine q1 ?_
   any_goals exact aj (ar V.bool (by rw[hT];refine Bk a ?_;simp[pb,d];omega))
   all_goals refine⟨a,λi j=>?_⟩
   all_goals obtain rfl:i=0:=av
   all_goals simp[pb,d]
   all_goals omega
  .have u:k-1<o.cX.length:=av;have q:=sd u;have y:(k:Int)-1=((k-1:Nat):Int):=av;have r:k≠0:=av;repeat any_goals first|simp(disch:=try exact om) only[dq,simprocAttr,ng,y]|(first|refine bY ?_ ?_|refine cY ?_ ?_)<;>intro h<;>(try simp only[bO,bD]at h)<;>(try simp only[h])<;>(try simp only[jc]at h)<;>try omega|(refine⟨k+1,⟨?_⟩,⟨av⟩,?_⟩;rotate_left;focus (simp only[fQ,fM,bK,cF];and_intros;all_goals(try(simp only[mS,simprocAttr]));all_goals(try(first|(intro h;cases h;done)|(refine aj (ar I ?_);omega)|((repeat first|with_reducible (first|exact Kept.refl _|refine ez ?_|refine eJ ?_|refine ek ?_|refine dT ?_)|(with_reducible refine en ?_ ?_;rotate_left;(simp only[pU,simprocAttr])));done)))))|refine ec ?_|refine q1 ?_
   any_goals exact aj (ar V.bool (by rw[hT];refine Bk a ?_;simp[pb,d,q,r];omega))
   all_goals refine⟨a,λi j=>?_⟩
   all_goals(rcases gr (hY j)with l|l;(·exact p i l);(·subst l;simp[pb,d,q,r];omega))
 .repeat' first|refine k9 ?_|refine cs ?_ ?_<;>intro h<;>try omega|refine q1 ?_
  exact aj (ar V.bool (by rw[hT];exact Jw λi j=>p i av))
def gP.in(n:Nat)(t:gP):Prop:=0<=t.W/\t.W<t.end_/\t.end_<=n
def NT{s:T}{n:Nat}{l:List gP}(h:∀t∈l,t.in n):∀t∈qL s n l,t.in (n+1):=by
 have d:∀t∈l,t.in (n+1):=λt a=>⟨(h t a).1,(h t a).2.1,by have:=(h t a).2.2;omega⟩;have f:∀(k:Int)(t:gP),t∈l++[(⟨n,n+1,k⟩:gP)]->t.in (n+1):=λk t a=>by
  rcases aR.1 a with a|a
  .exact d t a
  .obtain rfl:=bg.1 a;exact⟨bR,by simp;omega,bR⟩
 unfold qL;dsimp only;split
 .exact d
 .split
  .split
   next u j=>
    intro t a;rcases aR.1 a with a|a
    .exact d t (List.dropLast_subset _ a)
    .obtain rfl:=bg.1 a;obtain⟨o,p,q⟩:=h u (nZ j);exact⟨o,by show u.W< ((n:Int)+1);omega,bR⟩
   .exact f _
  .exact f _
def zR(s:T):∀n,∀t∈jo s n,t.in n
 |0=>by intro t h;cases h
 |n+1=>NT (zR s n)
def Jx(s:T)(k:Nat)(h:k< (cq s).length):0<=(cq s)[k].W/\(cq s)[k].W<=s.length/\(1<=k->lC (cq s) k=true->1<=(cq s)[k].W):=by
 obtain⟨d,o,p⟩:=zR s s.length _ (ah h);refine⟨d,av,λq f=>?_⟩;have a:k-1< (cq s).length:=av;obtain⟨j,l,r⟩:=zR s s.length _ (ah a);simp only[lC,ap,aa h,aa a,bf,cy]at f;change 0<=(cq s)[k-1].W at j;change (cq s)[k-1].W< (cq s)[k-1].end_ at l;omega
def tH(s:T)(k:Int):V:=if g3 s≠0 then .hE [S [],S [],I (g3 s)]else
 if 1<=k/\k< (cq s).length/\lC (cq s) k.toNat=true then .hE [S (s.take (((cq s).getD k.toNat ⟨0,0,0⟩).W-1).toNat),S (s.drop ((cq s).getD k.toNat ⟨0,0,0⟩).W.toNat),I 0]
 else .hE [S [],S [],I 5]
def QX(s:T)(k:Int)(R:s.length<=10000):af 246 [S s,I k] (tH s k):=by
 have ab:(cq s).length<=s.length:=lJ s _;have c:=sM s av;have c2:=Eu s av;have D:g3 s≠0->tH s k=.hE [S [],S [],I (g3 s)]:=λh=>by unfold tH;rw[ax h]
 have H:g3 s=0->¬(1<=k/\k< (cq s).length/\lC (cq s) k.toNat=true)->tH s k=.hE [S [],S [],I 5]:=λh a=>by unfold tH;rw[an (by simp[h]),an a]
 have K:g3 s=0->(1<=k/\k< (cq s).length/\lC (cq s) k.toNat=true)->tH s k=.hE [S (s.take (((cq s).getD k.toNat ⟨0,0,0⟩).W-1).toNat),S (s.drop ((cq s).getD k.toNat ⟨0,0,0⟩).W.toNat),I 0]:=λh a=>by unfold tH;rw[an (by simp[h]),ax a]
 by_cases o:g3 s=0
 .by_cases f:1<=k/\k< (cq s).length/\lC (cq s) k.toNat=true
  .rw[K o f];obtain⟨f,p,d⟩:=f;obtain⟨k,rfl⟩:∃j:Nat,k=j:=⟨k.toNat,av⟩;have l:k< (cq s).length:=av;have c3:=Es (cq s) k l av;simp only[bX]at d ⊢
   rw[ap,aa l,bf];obtain⟨ac,L,N⟩:=Jx s k l;have P:=N av d;obtain⟨q,r⟩:∃q:Nat,(cq s)[k].W=q:=⟨(cq s)[k].W.toNat,av⟩;have t:(q:Int)-1=((q-1:Nat):Int):=av;have u:((cq s)[k].W).toNat=q:=av;have y:((cq s)[k].W-1).toNat=q-1:=av;rw[u,y];have z:(s.drop q).take (s.length-q)=s.drop q:=az bR;rw[r]at L P;refine pk f246 ?_;repeat' first|simp(disch:=try exact om) only[dq,simprocAttr,d,r,t]|(first|refine cz ?_ ?_|refine gz ?_ ?_)<;>intro a h<;>(try simp only[a])<;>try omega|refine lq c ?_|refine lq c2 ?_|refine lq c3 ?_|apply G0 rfl rfl rfl rfl rfl rfl
   .exact aj rfl
   .exact aj (ar S z)
   .exact aj rfl
  .rw[H o f];refine pk f246 ?_;rcases fw k 1 with p|p
   .repeat' first|simp only[dq,simprocAttr]|(first|refine bY ?_ ?_|refine cY ?_ ?_)<;>intro h<;>(try simp only[bD]at h)<;>(try simp only[h])<;>(try simp only[jc]at h)<;>try omega|((first|refine iT c ?_ ?_|refine iT c2 ?_ ?_);·simp only[dL,simprocAttr]<;>rfl)|apply G0 rfl rfl rfl rfl rfl rfl
    all_goals exact aj rfl
   rcases fw k (cq s).length with d|d
   .obtain⟨k,rfl⟩:∃j:Nat,k=j:=⟨k.toNat,av⟩;have l:k< (cq s).length:=av;have c3:=Es (cq s) k l av;have Q:lC (cq s) k=false:=by simpa[p,d]using f
    repeat' first|simp only[dq,simprocAttr,Q]|(first|refine cz ?_ ?_|refine gz ?_ ?_)<;>intro a h<;>(try simp only[a])<;>try omega|refine lq c ?_|refine lq c2 ?_|refine lq c3 ?_|apply G0 rfl rfl rfl rfl rfl rfl
    all_goals exact aj rfl
   .repeat' first|simp only[dq,simprocAttr]|(first|refine bY ?_ ?_|refine cY ?_ ?_)<;>intro h<;>(try simp only[bD]at h)<;>(try simp only[h])<;>(try simp only[jc]at h)<;>try omega|((first|refine iT c ?_ ?_|refine iT c2 ?_ ?_);·simp only[dL,simprocAttr]<;>rfl)|apply G0 rfl rfl rfl rfl rfl rfl
    all_goals exact aj rfl
 .rw[D o];refine pk f246 ?_;exact X4
def zS:List T:=[[97,110,110,97],[114,111,109,101],[107,105,110,103],[111,100,101],[108,121,114,101],[97,110,110,97,32,107,105,110,103],[120],[116,104,101,32,107,105,110,103]]
def lW(n:Int):T:=zS.getD (iU n 8).toNat []
def EG(n:Int)(d:jv n):af 133 [I n] (S (lW n)):=by
 have c:=A9 n 8 d av;have hb:=ql n 8 av;unfold lW;generalize iU n 8=a at*
 obtain⟨a,rfl⟩:∃k:Nat,a=k:=⟨a.toNat,av⟩;have j:a<zS.length:=by simp[zS];omega
 have f:a=0\/a=1\/a=2\/a=3\/a=4\/a=5\/a=6\/a=7:=av;rcases f with rfl|rfl|rfl|rfl|rfl|rfl|rfl|rfl
 all_goals
  refine pk f133 ?_;repeat' first|refine qu ?_|refine lq c ?_|refine q1 ?_
  exact aj rfl
def Xq:ID:=⟨0,0,0⟩
def nH(o:Op):Op:=⟨o.kind,if 2<o.kind then o.W else Xq,if o.kind=7 then o.to else Xq,if o.kind=1 then⟨o.spot.i9,0,0⟩else if o.kind=2\/o.kind=6 then o.spot else⟨0,0,0⟩,if o.kind=4\/o.kind=8 then o.n else 0,if o.kind=2 then o.eB else 0,if o.kind=2 then o.eh else 0,if o.kind=1\/o.kind=2 then o.bW else [],if o.kind=8 then o.F else [],if o.kind=8 then o.cX else [],if o.kind=2\/o.kind=8\/o.kind=9 then o.C else []⟩
def QY(o:Op):af 189 [o.v] (nH o).v:=by
 obtain⟨kind,⟨j,l,p⟩,⟨q,r,t⟩,⟨u,y,c3⟩,z,D,H,K,L,d,f⟩:=o;have a:kind=0\/kind=1\/kind=2\/kind=3\/kind=4\/kind=5\/kind=6\/kind=7\/kind=8\/kind=9\/(kind<0\/9<kind):=by omega
 simp only[Op.v,Op.c];rcases a with rfl|rfl|rfl|rfl|rfl|rfl|rfl|rfl|rfl|rfl|a
 rotate_right
 .have n1:kind≠1:=by omega
  have n2:kind≠2:=av;have n4:kind≠4:=av;have n6:kind≠6:=av;have n7:kind≠7:=av;have n8:kind≠8:=av;have n9:kind≠9:=av;rcases a with a|a
  .have n0:¬2<kind:=av;exact Xp
  .have n0:2<kind:=av;exact Xp
 all_goals
  refine pk f189 ?_;repeat' first|simp only[dq,simprocAttr]|refine bY ?_ ?_<;>intro h<;>(try simp only[h])<;>(try simp only[jc]at h)<;>try(exact absurd trivial h)|refine ec ?_|(refine al nE ?_;refine tO ev rfl ?_)
  exact nj rfl (by simp[nH,Xq];repeat(first|exact aN.nil|refine aN.cons (.refl _) ?_|refine aN.cons (.aP _) ?_))
def wc(w:T)(a:Int):T:=if a=6 then FP w else if a=7 then w++[44]else if a=8 then w++[46]else if a=9 then FP w++[46]else if a=10 then 40::w++[41]else if a=11 then w++[63]else w
def FT(w:T):(FP w).length=w.length:=by
 cases w with
 |nil=>rfl
 |cons b r=>show(if _ then _ else _:T).length=_;split<;>rfl
def U2(b:UInt8)(r:T)(d:r.length<=1000)(a:Int):af 97 [S (b::r),I a] (S (wc (b::r) a)):=by
 have f:=QB b r d;have j:=FT (b::r);rw[aM]at j;refine pk f97 ?_ [32];repeat' first|simp(disch:=omega) only[dq,simprocAttr]|refine cs ?_ ?_<;>intro h|refine lq f ?_|refine q1 ?_
 all_goals exact aj (ar V.str (by simp[wc, *]))
def HZ(w:T)(a:Int):(wc w a).length<=w.length+2:=by
 have:=FT w;unfold wc;split
 .omega
 .repeat(first|(split;(·simp only[ae,aM,aT];omega))|omega)
def x7:List T:=[[97,110,110,97],[114,111,109,101],[107,105,110,103],[116,104,101],[111,102],[111,100,101],[108,121,114,101],[120],[49,50]]
def Jy(l:List Int)(k:Int)(i:Nat):T:=wc (x7.getD ((W l (k+1+i) 108).tmod 9).toNat []) ((W l (k+1+i) 108).tdiv 9)
def vG(l:List Int)(k:Int):Nat->T
 |0=>[]
 |i+1=>(if i=0 then vG l k i else vG l k i++[32])++Jy l k i
def kj(l:List Int)(k:Int):T:=vG l k (1+W l k 9).toNat
def Dt(l:List Int)(k:Int)(i:Nat):(Jy l k i).length<=6:=by
 unfold Jy;refine aQ (HZ _ _) ?_;have d:=ic l (k+1+i) 108 (by omega);generalize W l (k+1+i) 108=a at*
 have f:=nW 9 d.1;have o:=mh a (show(0:Int)<9 by omega);generalize a.tmod 9=b at*
 obtain⟨b,rfl⟩:∃j:Nat,b=j:=⟨b.toNat,av⟩;have hb:b=0\/b=1\/b=2\/b=3\/b=4\/b=5\/b=6\/b=7\/b=8:=av;rcases hb with rfl|rfl|rfl|rfl|rfl|rfl|rfl|rfl|rfl<;>decide
def x8(l:List Int)(k:Int):∀i,(vG l k i).length<=7*i
 |0=>by simp[vG]
 |i+1=>by
  have a:=x8 l k i;have d:=Dt l k i;unfold vG;split<;>simp only[ae,aM,aT]<;>omega
def H0(j:Nat)(h:j<9):∃b r,x7[j]'h=b::r/\r.length<=1000:=by
 have hb:j=0\/j=1\/j=2\/j=3\/j=4\/j=5\/j=6\/j=7\/j=8:=av;rcases hb with rfl|rfl|rfl|rfl|rfl|rfl|rfl|rfl|rfl<;>exact⟨_,_,rfl,dt⟩
def Bl(l:List Int)(k:Int)(o:∀n∈l,jv n)(ab: -1000000<=k/\k<=1000000000):af 49 [fx l,I k] (S (kj l k)):=by
 have p:=jk l k 9 o av;have ac:=ic l k 9 av;have wl:V.sl 1 [V.str [97,110,110,97],V.str [114,111,109,101],V.str [107,105,110,103],V.str [116,104,101],V.str [111,102],V.str [111,100,101],V.str [108,121,114,101],V.str [120],V.str [49,50]]=e9 x7:=rfl;have H:x7.length=9:=rfl;unfold kj;obtain⟨N,K⟩:∃N:Nat,1+W l k 9=N:=⟨(1+W l k 9).toNat,av⟩;rw[K,bX];refine pk f49 ?_ [40];repeat' simp only[dq,simprocAttr,wl]
 refine nw (D:=[6,7,8,9,11,12,13,14,15,16,17,18,19,20,21,22,23,24,25,26,27,28,29,30,31,32,33,34,35,36,37,38,39]) (bL:=[]) (λi:Nat=>i<=N) (λi=>[(7,I i,false),(6,S (vG l k i),false)]) (λi=>N-i) (0) rfl rfl rfl (λ_=>rfl) (aL _) ?_ ?_ ?_;(·((simp only[fQ,bK];and_intros;all_goals(try(simp only[mS,simprocAttr]));all_goals(try(first|with_reducible exact .refl _|(intro h;cases h;done)))));all_goals(exact aj rfl));(·((simp only[fM];and_intros)));rintro i ad;have Q:N<=9:=av;have R:=x8 l k i;rcases am i N with q|q
 .have ai:=ic l (k+1+i) 108 av;have L:=jk l (k+1+i) 108 o av;have j:Jy l k i=wc (x7.getD ((W l (k+1+i) 108).tmod 9).toNat []) ((W l (k+1+i) 108).tdiv 9):=rfl;generalize W l (k+1+i) 108=a at*
  obtain⟨A,rfl⟩:∃A:Nat,a=A:=⟨a.toNat,av⟩;have t:(A:Int).tmod 9=((A%9:Nat):Int):=rfl;have u:(A:Int).tdiv 9=((A/9:Nat):Int):=rfl;have y:A%9<x7.length:=eG _ dt;obtain⟨b,r,f,P⟩:=H0 (A%9) y;have c3:=U2 b r P ((A/9:Nat):Int);rw[t,u,bX,ap,aa y,bf,f]at j;have z:=Dt l k i;rw[j]at z;have d:vG l k (i+1)=(if i=0 then vG l k i else vG l k i++[32])++wc (b::r) ((A/9:Nat):Int):=by rw[<-j];rfl
  repeat' first|simp(disch:=try exact om) only[dq,simprocAttr,t,u,f]|refine cs ?_ ?_<;>intro h<;>try omega|(refine⟨i+1,⟨?_⟩,⟨av⟩,?_⟩;rotate_left;focus (simp only[fQ,fM,bK];and_intros;all_goals(try(simp only[mS]));all_goals(try(first|(intro h;cases h;done)|(refine aj (ar I ?_);omega)))))|refine lq p ?_|refine lq L ?_|refine lq c3 ?_|refine ec ?_
  any_goals exact q
  .exact aj (ar V.str (by rw[d,an av]))
  .exact aj (ar V.str (by rw[d,ax av]))
 .obtain rfl:i=N:=av;repeat' first|simp(disch:=omega) only[dq,simprocAttr]|refine cs ?_ ?_<;>intro h<;>try omega|refine lq p ?_|refine q1 ?_
  all_goals exact .refl _
def se(l:List Int)(k:Int):(kj l k).length<=63:=by
 have a:=ic l k 9 av;have d:=x8 l k (1+W l k 9).toNat;unfold kj;omega
def pc(l:List Int)(k:Int)(n:Nat):List T:=(List.range n).map λi:Nat=>kj l (k+4*i)
def xH:(∀(s:St) d u l o i g j,(s.put d u l o).fc i g j=s.fc i g j)/\(∀(s:St) d k u i g j,(s.zj d k u).fc i g j=s.fc i g j)/\
 (∀(s:St) d cs i g j,(s.fG d cs).fc i g j=if i=d/\g=s.G d then false else s.fc i g j)/\
 (∀(s:St) st f off vs i g j,(s.hZ st f off vs).fc i g j=if i=st/\g=f then(if off<=j/\j<off+vs.length then false else s.fc i g j)else s.fc i g j)/\
 (∀(s:St) st f j t i g p,(s.ol st f j (.tmp t)).fc i g p=if i=st/\g=f then(if p=j then s.fl t else s.fc i g p)else s.fc i g p)/\
 (∀(s:St) st f j i g p,(s.dP (.cell st f j)).fc i g p=if i=st/\g=f then(if p=j then false else s.fc i g p)else s.fc i g p)/\
 (∀(s:St) u i g j,(s.dP (.var u)).fc i g j=s.fc i g j)/\(∀(s:St) i g j,s.A3.fc i g j=s.fc i g j)/\(∀(s:St) h i g j,(s.ct h).fc i g j=s.fc i g j)/\
 (∀a b c,yA (.A a b c)=some (.cell a b c))/\(∀(a:V),[a].length=1)/\
 (∀(s:St) a b c,(s.dP (.cell a b c)).Z=s.Z)/\(∀(s:St) a b c,(s.dP (.cell a b c)).loc=s.loc)/\(∀(s:St) a b c,(s.dP (.cell a b c)).G=s.G)/\(∀(s:St) a b c,(s.dP (.cell a b c)).fl=s.fl)/\(∀(s:St) a b c,(s.dP (.cell a b c)).E=s.E)/\(∀(s:St) a b c,(s.dP (.cell a b c)).lk=s.lk):=by
 refine⟨λ_ _ _ _ _ _ _ _=>rfl,λ_ _ _ _ _ _ _=>rfl,λs d cs i g j=>?_,λs st f off vs i g j=>?_,λs st f j t i g p=>?_,λs st f j i g p=>?_,λ_ _ _ _ _=>rfl,λ_ _ _ _=>rfl,λ_ _ _ _ _=>rfl,λ_ _ _=>rfl,λ_=>rfl,λ_ _ _ _=>rfl,λ_ _ _ _=>rfl,λ_ _ _ _=>rfl,λ_ _ _ _=>rfl,λ_ _ _ _=>rfl,λ_ _ _ _=>rfl⟩
 .simp only[St.fG,l9];split<;>rfl
 .simp only[St.hZ,l9];split
  next h=>obtain⟨rfl,rfl⟩:=h;rfl
  .rfl
 .simp only[St.ol,l9];split
  next h=>obtain⟨rfl,rfl⟩:=h;rfl
  .rfl
 .simp only[St.dP,l9];split
  next h=>obtain⟨rfl,rfl⟩:=h;rfl
  .rfl
def aba:CF GL f48 [] [] 48:=ji
def we:List Int:=[0,0,0,1,3,0,2,1]
def qO:List Int:=[0,0,0,0,1,2]
def nN:Nat->T
 |0=>[]
 |k+1=>nN k++[32,64]
def QZ(l:List Int)(k:Int)(i:Nat):ID:=if W l (k+3+i) 9=8 then ou else⟨0,W l (k+3+i) 9,0⟩
def vH(l:List Int)(k:Int)(n:Nat):List ID:=(List.range n).map (QZ l k)
def my(l:List Int)(k:Int)(a:ID):aK:=
 ⟨a,we.getD (W l k 8).toNat 0,(W l (k+1) 8).tdiv 3,kj l (k+2)++nN (qO.getD (W l (k+1) 6).toNat 0).toNat,vH l k (qO.getD (W l (k+1) 6).toNat 0).toNat⟩
def sS(l:List Int)(k:Int)(n:Nat):vH l k (n+1)=vH l k n++[QZ l k n]:=by
 unfold vH;rw[dE,aE];rfl
def sf:∀n,(nN n).length=2*n
 |0=>rfl
 |n+1=>by rw[nN,ae,sf n];simp;omega
def H2(l:List Int)(k:Int)(a:ID)(q:∀n∈l,jv n)(a9:0<=k/\k<=100000000):af 48 [fx l,I k,a.v] (my l k a).v:=by
 have aC:=jk l k 8 q av;have aD:=jk l (k+1) 8 q av;have c3:=Bl l (k+2) q av;have c4:=jk l (k+1) 6 q av;have bi:=ic l k 8 av;have bo:=ic l (k+1) 8 av;have br:=ic l (k+1) 6 av;have tl:=se l (k+2);have a0:V.sl 1 [V.int .i64 0,V.int .i64 0,V.int .i64 0,V.int .i64 1,V.int .i64 3,V.int .i64 0,V.int .i64 2,V.int .i64 1]=fx we:=rfl;have a1:V.sl 1 [V.int .i64 0,V.int .i64 0,V.int .i64 0,V.int .i64 0,V.int .i64 1,V.int .i64 2]=fx qO:=rfl;have a5:we.length=8:=rfl;have a6:qO.length=6:=rfl;unfold my;generalize W l k 8=r at*
 generalize W l (k+1) 8=f at*
 generalize W l (k+1) 6=d at*
 generalize kj l (k+2)=T at*
 obtain⟨r,rfl⟩:∃j:Nat,r=j:=⟨r.toNat,av⟩;obtain⟨f,rfl⟩:∃j:Nat,f=j:=⟨f.toNat,av⟩;have a2:(f:Int).tdiv 3=((f/3:Nat):Int):=rfl;obtain⟨d,rfl⟩:∃j:Nat,d=j:=⟨d.toNat,av⟩;have g1:r<we.length:=av;have g4:d<qO.length:=av;simp only[bX,ap,aa g1,aa g4,bf];have ac:0<=qO[d]/\qO[d]<=2:=by
  have hb:d=0\/d=1\/d=2\/d=3\/d=4\/d=5:=av;rcases hb with rfl|rfl|rfl|rfl|rfl|rfl<;>simp[qO]
 refine Pure.gg (by simp only[du]) (by simp only[du]) (eU hm aba.ok (bF rfl) ?_);repeat' first|simp(disch:=try exact om) only[dq,simprocAttr,a0,a1,a2]|refine lq aC ?_|refine lq aD ?_|refine lq c3 ?_|refine lq c4 ?_
 generalize we[r]=F at*
 obtain⟨M,a3⟩:∃M:Nat,qO[d]=M:=⟨qO[d].toNat,av⟩;rw[a3]at ac ⊢
 refine dQ rfl rfl (λ(j:Nat) t=>j<=M/\t.Z 9=I j/\t.G 6=1/\t.loc 6 0=[I 0,I 0,I 0,I 0,I 0,S [],.aP]/\t.G 7=1/\∃o,t.loc 7 0=[I a.J,I a.seq,I a.k,I F,I (f/3:Nat),S (T++nN j),o]/\((j=0/\o=.aP)\/(0<j/\o=eZ (vH l k j)/\t.fc 7 0 6=true))) (λj=>M-j) 0 ?_ ?_
 .exact⟨aL _,rfl,rfl,rfl,rfl,.aP,by simp only[da,↓reduceIte,Nat.reduceEqDiff,nN,cP];rfl,.inl ⟨rfl,rfl⟩⟩
 rintro j t ⟨bs,N,H,K,u,o,y,P⟩ z;have ad:t.Z 0=fx l:=by rw[z 0 dt];rfl
 have ai:t.Z 1=I k:=by rw[z 1 dt];rfl
 have aA:t.Z 6=.A 6 0 0:=by rw[z 6 dt];rfl
 have Q:t.Z 7=.A 7 0 0:=by rw[z 7 dt];rfl
 have R:t.Z 8=I M:=by rw[z 8 dt];rfl
 have a7:=sf j;have aB:=jk l (k+3+j) 9 q av;have bu:=ic l (k+3+j) 9 av;have p:QZ l k j=if W l (k+3+j) 9=8 then ou else⟨0,W l (k+3+j) 9,0⟩:=rfl
 have a8:(vH l k j).length=j:=by simp[vH]
 generalize W l (k+3+j) 9=A at*
 rcases am j M with D|D
 .rcases P with⟨rfl,rfl⟩|⟨P,rfl,a4⟩
  .repeat' first|simp(disch:=try exact om) only[dq,simprocAttr,N,u,y,ad,ai,Q,R]|refine cs ?_ ?_<;>intro h<;>try omega|refine lq aB ?_|refine lq EA ?_|refine ec ?_
   all_goals
    refine⟨0+1,⟨?_⟩,⟨av⟩⟩;simp only[da,simprocAttr,H,K,u,y,xH]
   .refine⟨D,_,by simp only[aO,aw,ay,aG];rfl,.inr ⟨?_,?_⟩⟩
    .rw[sS,p,ax h];rfl
    .rfl
   .refine⟨D,_,by simp only[aO,aw,ay,aG];rfl,.inr ⟨?_,?_⟩⟩
    .rw[sS,p,an h];rfl
    .rfl
  .repeat' first|simp(disch:=try exact om) only[dq,simprocAttr,xH,N,u,y,a4,ad,ai,Q,R]|refine cs ?_ ?_<;>intro h<;>try omega|refine lq aB ?_|refine lq EA ?_|refine ec ?_
   all_goals
    refine⟨j+1,⟨?_⟩,⟨av⟩⟩;simp only[da,simprocAttr,H,K,u,y,xH]
   .refine⟨D,rfl,_,by simp only[aO,aw,ay,aG];rfl,.inr ?_⟩;rw[sS,p,ax h,aE];exact⟨jV _,rfl⟩
   .refine⟨D,rfl,_,by simp only[aO,aw,ay,aG];rfl,.inr ?_⟩;rw[sS,p,an h,aE];exact⟨jV _,rfl⟩
 .obtain rfl:j=M:=av;have L:o.one=true/\V.Le o (eZ (vH l k j)):=by
   rcases P with⟨rfl,rfl⟩|⟨_,rfl,_⟩
   .exact⟨rfl,.aP _⟩
   .exact⟨rfl,.refl _⟩
  have ab:=L.1;repeat' first|simp only[dq,simprocAttr,N,H,K,u,y,aA,Q,R,ab]|refine cs ?_ ?_<;>intro h<;>try omega
  exact⟨nE,.agg [I a.J,I a.seq,I a.k,I F,I (f/3:Nat),S (T++nN j),o],false,jF,t.E,_,false,eA (by simp only[dL,simprocAttr,aA,H,K]<;>rfl) rfl,.refl _,ss (.cons (.refl _) (.cons (.refl _) (.cons (.refl _) (.cons (.refl _) (.cons (.refl _) (.cons (.refl _) (.cons L.2 .nil))))))),λh=>(by cases h),rfl,rfl⟩
def qP(n:Nat)(b:Int)(i:Nat):Nat:=if b.tmod 2≠0 then n-1-(i+(iU b (n+1)).toNat)%n else(i+(iU b (n+1)).toNat)%n
def qt(l:List aV)(b:Int)(k:Nat):List aV:=(List.range k).flatMap λi=>(l[qP l.length b i]?).toList
def FU(n:Nat)(b:Int)(i:Nat)(h:0<n):qP n b i<n:=by
 have:=eG (i+(iU b (n+1)).toNat) h;unfold qP;split<;>omega
def H3(l:List aV)(b:Int)(k:Nat)(h:qP l.length b k<l.length):qt l b (k+1)=qt l b k++[l[qP l.length b k]]:=by
 unfold qt;rw[dE,cg];simp[h]
def Lb(l:List aV)(b:Int)(k:Nat):(qt l b k).length<=k:=by
 have:=lc (λi=>(l[qP l.length b i]?).toList) 1 (List.range k) (λi _=>by cases l[qP l.length b i]?<;>simp);simpa[qt]using this
def oA(n:Nat):hG:=⟨lW n,(n/8%3:Nat),(n/24%3:Nat),if n/72%4=0/\lW (n/288:Nat)≠lW n then lW (n/288:Nat)else [],if n/72%4=1 then [lW (n/288:Nat)]else []⟩
def U3(n:Nat)(u:n<100000):af 98 [I n] (oA n).v:=by
 have a:=EG n (by unfold jv;omega);have d:=EG (n/288:Nat) (by unfold jv;omega);have f:(n:Int).tdiv 8=((n/8:Nat):Int):=rfl;have j:((n/8:Nat):Int).tmod 3=((n/8%3:Nat):Int):=rfl;have l:(n:Int).tdiv 24=((n/24:Nat):Int):=rfl;have o:((n/24:Nat):Int).tmod 3=((n/24%3:Nat):Int):=rfl;have p:(n:Int).tdiv 72=((n/72:Nat):Int):=rfl;have q:((n/72:Nat):Int).tmod 4=((n/72%4:Nat):Int):=rfl;have r:(n:Int).tdiv 288=((n/288:Nat):Int):=rfl;unfold oA;refine pk f98 ?_;repeat' first|simp(disch:=omega) only[dq,simprocAttr,f,j,l,o,p,q,r]|(first|refine cz ?_ ?_|refine gz ?_ ?_)<;>intro t h<;>(try simp only[t])<;>try omega|refine lq a ?_|refine lq d ?_|refine ec ?_|(refine al nE ?_;refine tO ev rfl ?_;(all_goals(try(with_reducible exact .refl _))))
 .refine nj rfl (.cons (.refl _) (.cons (.refl _) (.cons (.refl _) (.cons (aj (ar V.str ?_)) (.cons (.aP _) .nil)))));rw[ax ⟨av,by assumption⟩]
 .refine nj rfl (.cons (.refl _) (.cons (.refl _) (.cons (.refl _) (.cons (aj (ar V.str ?_)) (.cons (.aP _) .nil)))));rw[an (λh=>h.2 (by assumption))]
 .exact nj rfl (.cons (.refl _) (.cons (.refl _) (.cons (.refl _) (.cons (.refl _) (.cons (.aP _) .nil)))))
def rF:Nat->List eQ->Option Nat
 |_,[]=>none
 |k,v::r=>if 0<v.O.length then some k else rF (k+1) r
def sU(w:cm)(l:List Int)(k:Int):Op:=match rF 0 w.O with
 |some v=>{iW with kind:=2,spot:=⟨v,0,0⟩,bW:=kj l k}
 |none=>if 0<w.O.length then {iW with kind:=1,bW:=kj l k}else iW
def Q0(w:cm)(p:w.ok)(l:List Int)(k:Int)(q:∀n∈l,jv n)(y:0<=k/\k<=100000000):af 134 [w.v,fx l,I k] (sU w l k).v:=by
 have j:=Bl l k q av;have o:∀v,rF 0 w.O=some v->sU w l k={iW with kind:=2,spot:=⟨v,0,0⟩,bW:=kj l k}:=λv h=>by unfold sU;rw[h]
 have f:rF 0 w.O=none->sU w l k=if 0<w.O.length then {iW with kind:=1,bW:=kj l k}else iW:=λh=>by unfold sU;rw[h]
 generalize sU w l k=R at*
 obtain⟨w⟩:=w;obtain⟨r,t,z⟩:=p;simp only at r o f;refine pk f134 ?_;repeat' simp only[dq,simprocAttr]
 refine sk (bL:=[]) (λi:Nat=>i<=w.length/\rF i (w.drop i)=rF 0 w) (λi=>[(7,I i,false)]) (λi=>w.length-i) (0) (⟨aL _,rfl⟩) ?_;rintro i ⟨D,a⟩;rcases am i w.length with h1|h1
 .rw[bI h1,rF]at a;have u:=(t _ (ah h1)).1;repeat' first|refine qu ?_|refine cs ?_ ?_<;>intro h<;>try omega|(refine⟨i+1,⟨?_⟩,⟨av⟩,?_⟩;rotate_left;focus (simp only[fQ,fM,bK,cF];and_intros;all_goals(try(simp only[mS]));all_goals(try(first|(intro h;cases h;done)|(refine aj (ar I ?_);omega)|((repeat with_reducible (first|exact Kept.refl _|refine ez ?_|refine eJ ?_|refine dT ?_));done)))))|refine lq j ?_|(refine al nE ?_;refine tO ev rfl ?_)
  .rw[ax av]at a;obtain rfl:=o i a.symm;exact nj rfl Pj
  .rw[an av]at a;exact⟨h1,a⟩
 .rw[cT h1,rF]at a;have d:=f a.symm;repeat' first|refine k9 ?_|refine cs ?_ ?_<;>intro h<;>try omega|refine lq j ?_|(refine al nE ?_;refine tO ev rfl ?_)
  .rw[ax av]at d;subst d;exact nj rfl Pj
  .rw[an av]at d;subst d;exact nj rfl Pj
def U4(a b:aV)(u:a.ok):af 82 [a.v,b.v] (B (decide (a=b))):=by
 obtain⟨a1,a2,a3,a4,y,z,at',⟨D,H,c3⟩,d,aC⟩:=a;obtain⟨a5,a6,a7,a8,K,bo,L,⟨N,P,Q⟩,j,aD⟩:=b;obtain⟨o,p,q,R,r⟩:=u;simp only at o p q R r;have ab:=HW y K (aQ o dt);have ac:=NK at' L (aQ q.2.2.1 dt);have ad:=Jq z bo p;refine pk f82 ?_;repeat' first|simp only[dq,simprocAttr,aV.v]|(first|refine cz ?_ ?_|refine gz ?_ ?_)<;>intro l h<;>try simp only[l]|refine q1 ?_
 any_goals exact aj (ar V.bool (by rw[hT,fi];intro e;cases e;first|exact absurd rfl (by assumption)|simp_all))
 have ai:(D==N&&(H==P&&c3==Q))=true:=by assumption
 have a0:d.length=j.length:=by assumption
 refine sl (λk:Nat=>k<=d.length/\d.take k=j.take k) (λk=>[(5,I k,false)]) (λk=>d.length-k) (0) (⟨av,bR⟩) ?_;rintro k ⟨a9,t⟩;rcases am k d.length with f|f
 .have aA:k<j.length:=av;have aB:=(r _ (ah f)).1;repeat' first|simp(disch:=try exact om) only[dq,simprocAttr]|refine cs ?_ ?_<;>intro h<;>try omega|refine ba (k+1) ?_|refine lq (QK d[k] j[k] (aQ aB dt)) ?_|refine q1 ?_
  .exact aj (ar V.bool (by rw[hT,fi];intro e;cases e;exact absurd rfl (by assumption)))
  .exact⟨f,by rw[bj f,bj aA,t,h]⟩
 .rw[az f,az av]at t;repeat' first|simp only[dq,simprocAttr]|(first|refine cz ?_ ?_|refine gz ?_ ?_)<;>intro l h<;>(try simp only[l])<;>try omega|refine lq ab ?_|refine lq ac ?_|refine lq ad ?_|refine q1 ?_
  .exact aj (ar V.bool (by simp only[aX,iA]at ai;simp_all))
  all_goals exact aj (ar V.bool (by rw[hT,fi];intro e;cases e;exact absurd rfl (by assumption)))
def NU(a b:List aV)(j:a.length<=1000000000)(d:∀e∈a,e.ok):af 38 [eI a,eI b] (B (decide (a=b))):=by
 refine pk f38 ?_;repeat' first|simp only[dq,simprocAttr]|refine cs ?_ ?_<;>intro h|refine q1 ?_
 .exact Fi
 have f:a.length=b.length:=av;refine sl (λk:Nat=>k<=a.length/\a.take k=b.take k) (λk=>[(5,I k,false)]) (λk=>a.length-k) (0) (⟨bR,bR⟩) ?_;rintro k ⟨l,he⟩;rcases am k a.length with h1|h1
 .have h2:k<b.length:=av;repeat' first|simp(disch:=try exact om) only[dq,simprocAttr]|refine cs ?_ ?_<;>intro h<;>try omega|refine ba (k+1) ?_|refine lq (U4 a[k] b[k] (d _ (ah h1))) ?_|refine q1 ?_
  .exact G6
  .exact⟨av,by rw[bj h1,bj h2];simp_all⟩
 .exact V5
def Zb:CF GL f250 [] [] 250:=ji
def q3(F:List T)(k:Nat):Nat:=((F.take k).map gm).sum
def wg(b:Name)(gW:aK)(F:List T)(C:List ID)(k:Nat):List aK:=
 (List.range k).map λj:Nat=>k6 b (j:Int) gW (F.getD j []) ((C.drop (min (q3 F j) C.length)).take (min (q3 F (j+1)) C.length-min (q3 F j) C.length))
def EH(w:cm)(o:Op)(v a i:Nat)(b:Name):cm×Int:=
 let l:=(gV w v a).O
 if 1<=o.n/\o.n<=4/\i+o.n<=l.length/\1<=o.F.length/\o.F.length<=4/\ri o=true then
  if q3 o.F o.F.length=o.C.length then(kP w v a i o.n.toNat (wg b (l.getD i h8) o.F o.C o.F.length),0)else(w,8)
 else(w,5)
def x9(s:T):gm s<=s.length:=aQ (sL _ _ _) (lJ s _)
def uE{F:List T}{k:Nat}(h:k<F.length):q3 F (k+1)=q3 F k+gm F[k]:=by
 unfold q3;rw[bj h,aE,List.sum_append];simp
def NV{F:List T}(h:∀t∈F,t.length<=10000):∀k,k<=F.length->q3 F k<=10000*k
 |0,_=>by simp[q3]
 |k+1,a=>by
  rw[uE av];have:=NV h k av;have:=h _ (ah (show k<F.length by omega));have:=x9 F[k];omega
def Du{b:Name}{gW:aK}{F:List T}{C:List ID}{k:Nat}(h:k<F.length):wg b gW F C (k+1)=wg b gW F C k++[k6 b k gW F[k] ((C.drop (min (q3 F k) C.length)).take (min (q3 F k+gm F[k]) C.length-min (q3 F k) C.length))]:=by
 unfold wg;rw[dE,aE,<-uE h];simp only[bw,cV,ap,aa h,bf]
def xe(b:Name)(gW:aK)(F:List T)(C:List ID)(k:Nat):(wg b gW F C k).length=k:=by simp[wg]
def Q4(w:cm)(q:w.ok)(o:Op)(r:o.ok)(y:∀t∈o.F,t.length<=10000)(v a i:Nat)(b:Name)(l:v<w.O.length)(p:a<w.O[v].O.length)(ab:i<w.O[v].O[a].O.length):
 af 250 [w.v,o.v,fW.v ⟨v,a,i⟩,b.v] (mw (EH w o v a i b)):=by
 have c:=qa w v a ⟨v,a,i⟩ l p rfl rfl;have z:=QW o r;have ac:=(q.2.1 _ (ah l)).2 _ (ah p);have a2:=ac.2.1;have a3:=r.2.2.2.2;unfold mw EH;rw[fF l p];simp only[ap,aa ab,bf];generalize a4:ri o=P at*
 by_cases f:1<=o.n/\o.n<=4/\i+o.n<=w.O[v].O[a].O.length/\1<=o.F.length/\o.F.length<=4/\P=true
 .rw[ax f];obtain⟨a5,a6,a7,a8,a9,rfl⟩:=f;have go:∀u:V,u.free=true->(q3 o.F o.F.length=o.C.length->u=.hE [(kP w v a i o.n.toNat (wg b w.O[v].O[a].O[i] o.F o.C o.F.length)).v,I 0])->(q3 o.F o.F.length≠o.C.length->u=.hE [w.v,I 8])->af 250 [w.v,o.v,fW.v ⟨v,a,i⟩,b.v] u:=by
   intro u ad ai aA;refine pq Zb.ok rfl (by simp only[du,ad]) ?_;repeat any_goals first|simp(disch:=omega) only[dq,simprocAttr,Op.v,Op.c]|refine gz ?_ ?_<;>intro d h<;>(try simp only[d])<;>try omega|refine lq c ?_|refine lq z ?_
   obtain⟨N,f⟩:∃N:Nat,o.n=N:=⟨o.n.toNat,av⟩;have aB:=xe b w.O[v].O[a].O[i] o.F o.C;refine nw (D:=[11,12,13,14,15,55,56,57,58,59,60,61,62,63,64,65,66,67,68,69,70,71,72,73,74,75,76,77,78,79,80,81,82,83,84,85,86,87,88,89,90,91,92,93,94,95,96,97,98,99,100,101,102,103]) (bL:=[]) (λk:Nat=>k<=o.F.length) (λk=>[(13,I k,false),(12,I (q3 o.F k),false),(11,dv (wg b w.O[v].O[a].O[i] o.F o.C k),true)]) (λk=>o.F.length-k) (0) rfl rfl rfl (λ_=>rfl) (aL _) ?_ ?_ ?_;(·((simp only[fQ,bK];and_intros;all_goals(try(simp only[mS,simprocAttr]));all_goals(try(first|with_reducible exact .refl _|exact .aP _|(intro h;cases h;done)|(intro _;(simp;done))))));all_goals(exact aj rfl));(·((simp only[fM];and_intros)));rintro k aC;have aD:=NV y k aC;have a0:=aB k;rcases am k o.F.length with j|j
   .have hx:=y _ (ah j);have c3:=zN o.F[k] av (sM o.F[k] av);have H:(lU 3 (cq o.F[k]) (cq o.F[k]).length).length=gm o.F[k]:=rfl;have a1:=x9 o.F[k];have K:(if(o.C.length:Int)< (q3 o.F k:Int)then(o.C.length:Int)else(q3 o.F k:Int))=((min (q3 o.F k) o.C.length:Nat):Int):=av;have L:(if(o.C.length:Int)< ((q3 o.F k:Nat):Int)+(gm o.F[k]:Int)then(o.C.length:Int)else((q3 o.F k:Nat):Int)+(gm o.F[k]:Int))=((min (q3 o.F k+gm o.F[k]) o.C.length:Nat):Int):=av;have c4:=xd b k w.O[v].O[a].O[i] o.F[k] ((o.C.drop (min (q3 o.F k) o.C.length)).take (min (q3 o.F k+gm o.F[k]) o.C.length-min (q3 o.F k) o.C.length)) (by rw[aF,aS];omega);simp only[eZ,kt,gC]at c4;repeat' first|simp(disch:=try exact om) only[dq,simprocAttr,H,K,L]|refine cs ?_ ?_<;>intro h<;>try omega|(refine⟨k+1,⟨?_⟩,⟨av⟩,?_⟩;rotate_left;focus (simp only[fQ,fM,bK];and_intros;all_goals(try(simp only[mS]));all_goals(try(first|(intro h;cases h;done)|(intro _;(simp;done))|(refine aj (ar I ?_);omega)))))|refine lq c3 ?_|refine lq c4 ?_
    .exact aj (ar I (by rw[uE j];omega))
    .exact aj (by rw[Du j,aE];rfl)
    .exact j
   .obtain rfl:k=o.F.length:=av;have Q:=sQ w q v a i o.n.toNat l p av av (wg b w.O[v].O[a].O[i] o.F o.C o.F.length) av;rw[show((o.n.toNat:Nat):Int)=o.n by omega]at Q;by_cases R:q3 o.F o.F.length=o.C.length
    .rw[ai R];repeat' first|refine k9 ?_|refine cs ?_ ?_<;>intro h<;>try omega|refine lq Q ?_|(((refine rT ?_;repeat' first|exact hP.nil|refine gt ?_ ?_|refine gc ?_ ?_);(all_goals(try(first|with_reducible exact .refl _|(apply aj;simp;done))))))
     all_goals skip
    .rw[aA R];repeat' first|refine k9 ?_|refine cs ?_ ?_<;>intro h<;>try omega|(((refine rT ?_;repeat' first|exact hP.nil|refine gt ?_ ?_|refine gc ?_ ?_);(all_goals(try(first|with_reducible exact .refl _|(apply aj;simp;done))))))
     all_goals skip
  split
  next h=>exact go _ (by simp only[du]) (λ_=>rfl) (λd=>absurd h d)
  next h=>exact go _ (by simp only[du]) (λd=>absurd d h) (λ_=>rfl)
 .rw[an f];refine pk f250 ?_;repeat' first|simp(disch:=omega) only[dq,simprocAttr,Op.v,Op.c]|(first|refine cz ?_ ?_|refine gz ?_ ?_)<;>intro d h<;>try simp only[d]|refine lq c ?_|refine lq z ?_|(((refine rT ?_;repeat' first|exact hP.nil|refine gt ?_ ?_|refine gc ?_ ?_);(all_goals(try(first|with_reducible exact .refl _|(apply aj;simp;done))))))
  all_goals exact absurd ⟨av,av,av,av,av,by assumption⟩ f
def NW{P:Program}{GL:ak}{d:Option Nat}{pu:Bool}{r:List BI}{K:St->Prop}{s:St}{x:eO}{e z:V}{sz:Nat}{fD:aJ}(hx:s.val x=e)(a:jR sz e=true)(f:s.E=fD)
 (h:gB P GL d pu r s K (.ms sz fD.Y 0 1 1) false (fD.cM e.cells)):(MX.Tf sz z 1 [(0,x)]).wp s (gB P GL d pu r s K):=by
 subst f;subst hx;simp only[MX.wp,iP,List.replicate_one,eu,oa,bK,a,bQ,aw,bw,cV,dk,jg,cP];exact h
def FV(_:aJ)(v:V)(x:T)(X:List Nat):Prop:=v=S x/\X=[]
def RPo(h:aJ)(v:V)(p:Post)(X:List Nat):Prop:=∃a,v=.agg [I p.id.J,I p.id.seq,I p.id.k,a,B p.main]/\b9 1 FV h a p.path X
def EI:lV FV:=by rintro h j v a X ⟨d,f⟩ _ _;exact⟨d,f⟩
def Jz:lV RPo:=by rintro h p v a X ⟨d,f,j⟩ l o;exact⟨d,f,b9.qN EI _ _ _ _ _ j l o⟩
def EJ:Jh FV:=by rintro h v a X ⟨f,rfl⟩ i d;cases d
def FX:Jh RPo:=by rintro h v a X ⟨f,j,d⟩;exact b9.vr EJ _ _ _ _ d
def NY:K3 1 FV S:=by
 exact XJ
def Zc:K3 5 RPo Post.v:=by
 rintro h v a X fz ⟨q,rfl,o⟩ p;refine⟨rfl,λj c d f l=>?_⟩
 match j with
 |0=>cases f;cases l;exact .refl _
 |1=>cases f;cases l;exact .refl _
 |2=>cases f;cases l;exact .refl _
 |3=>cases f;cases l;exact b9.Tp av NY _ _ _ _ _ o p
 |4=>cases f;cases l;exact .refl _
 |j+5=>cases f
def abb(h:aJ)(x:T):b9 1 FV (h.cM (V.cells (S x))) (.ms 1 h.Y 0 1 1) [x] [h.Y]:=by
 refine⟨[S x],[[]],⟨λy a=>by simp at a;subst a;rfl,.inr ⟨h.Y,1,[],rfl,dm _,by simp[aJ.cM,eR,b1],ao _,rfl⟩⟩,rfl,rfl,λi y b l d f j=>?_,rfl⟩
 match i with
 |0=>cases d;cases f;cases j;exact⟨rfl,rfl⟩
 |i+1=>cases d
def FY{α:Type}{sz:Nat}{R:aJ->V->α->List Nat->Prop}(f:lV R)(a:Jh R){h:aJ}{v:V}{l:List α}{X:List Nat}(T:b9 sz R h v l X)(cs:List V):b9 sz R (h.cM cs) v l X:=
 b9.qN f _ _ _ _ _ T (λi d=>⟨b9.vr a _ _ _ _ T i d,by simp only[aJ.cM];exact bE _ _ (cr (b9.vr a _ _ _ _ T i d))⟩) (fO _)
def abc:CF GL f99 [22,42,47,48] [] 99:=ji
def yO:List T:=[[108,105,102,101],[111,100,101],[111,102,32,114,111,109,101]]
def xf(a:ID)(n i:Nat):Post:=⟨a,lW (n/3/(1+7*i):Nat)::(if n/48%3=0 then [yO.getD (n/144%3) []]else []),decide (n/24%2=i)⟩
def pZ(a:ID)(n k:Nat):List Post:=(List.range k).map (xf a n)
def Bm(a:ID)(n k:Nat):pZ a n (k+1)=pZ a n k++[xf a n k]:=by unfold pZ;rw[dE,aE];rfl
def NZ(a:ID)(n:Nat)(ch:n<100000):af 99 [a.v,I n] (ny (pZ a n (n%3))):=by
 have ab:(n:Int).tmod 3=((n%3:Nat):Int):=rfl;have aA:(n:Int).tdiv 3=((n/3:Nat):Int):=rfl;have aB:(n:Int).tdiv 24=((n/24:Nat):Int):=rfl;have aC:((n/24:Nat):Int).tmod 2=((n/24%2:Nat):Int):=rfl;have aD:(n:Int).tdiv 48=((n/48:Nat):Int):=rfl;have a0:((n/48:Nat):Int).tmod 3=((n/48%3:Nat):Int):=rfl;have bi:(n:Int).tdiv 144=((n/144:Nat):Int):=rfl;have bo:((n/144:Nat):Int).tmod 3=((n/144%3:Nat):Int):=rfl;have br:V.sl 1 [V.str [108,105,102,101],V.str [111,100,101],V.str [111,102,32,114,111,109,101]]=e9 yO:=rfl;have ca:yO.length=3:=rfl;have g1:n/144%3<yO.length:=eG _ (by decide);refine Pure.gg (by simp only[du]) (by simp only[du]) (eU hm abc.ok (bF rfl) ?_);repeat' simp only[dq,simprocAttr]
 refine dQ rfl rfl (λ(k:Nat) t=>k<=n%3/\t.Z 6=I k/\t.G 2=1/\t.loc 2 0=[I a.J,I a.seq,I a.k]/\∃q X,t.Z 5=q/\b9 5 RPo t.E q (pZ a n k) X/\X.Nodup) (λk=>n%3-k) 0 ?_ ?_
 .exact⟨aL _,rfl,rfl,rfl,.aP,[],rfl,b9.nil,jP⟩
 rintro k t ⟨ci,y,r,u,q,X,ac,T,D⟩ a1;have z:t.Z 1=I n:=by rw[a1 1 dt];rfl
 have K:t.Z 2=.A 2 0 0:=by rw[a1 2 dt];rfl
 have cb:n%3<3:=eG _ (by decide);rcases am k (n%3)with ad|ad
 .have a2:((n/3:Nat):Int).tdiv (1+7*(k:Int))=((n/3/(1+7*k):Nat):Int):=by
   rw[show(1+7*(k:Int))=((1+7*k:Nat):Int)by omega];rfl
  have hb:n/3/(1+7*k)<=n/3:=Nat.div_le_self _ _;have E:xf a n k=⟨a,lW (n/3/(1+7*k):Nat)::(if n/48%3=0 then [yO.getD (n/144%3) []]else []),decide (n/24%2=k)⟩:=rfl;rw[ap,aa g1,bf]at E;generalize n/3/(1+7*k)=d at*
  have a3:=EG (d:Nat) (by unfold jv;omega);have T1:=abb t.E (lW d);have a4:=FY Jz FX T (V.cells (S (lW d)));have f:=b9.vr FX _ _ _ _ T;have cp:=T.one;have L:(((n/24%2:Nat):Int)==(k:Int))=decide (n/24%2=k):=by rw[de];simp;omega
  have N:(X++[t.E.Y]).Nodup:=aU.2 ⟨D,bR,λi l j bs e=>by simp at bs;have:=f i l;omega⟩;have P:(pZ a n k).length<=1000000:=by simp[pZ];omega
  have cc:(t.E.cM (V.cells (S (lW d)))).Y=t.E.Y+1:=rfl;by_cases a5:n/48%3=0
  .rw[ax a5]at E;have Q:((n/48%3:Nat):Int)=0:=av;repeat' first|simp(disch:=omega) only[dq,simprocAttr,ab,aA,aB,aC,a2,y,r,u,z,K]|refine cs ?_ ?_<;>intro h<;>try omega|refine lq a3 ?_|refine fg ?_ ?_
   all_goals
    refine NW (e:=S (lW d)) (fD:=t.E) ?_ rfl ?_ ?_
    .exact sT
    .simp only[simprocAttr,bh]
   all_goals generalize bu:t.E.cM (V.cells (S (lW d)))=p at*
   all_goals repeat' first|simp(disch:=try exact om) only[gE,simprocAttr,aD,a0,bi,bo,br,r,u,z,K,Q]|refine ec ?_|refine fg ?_ ?_
   all_goals
    refine o5 (e:=S yO[n/144%3]) (fD:=p) (v0:=.ms 1 t.E.Y 0 1 1) (a:=yO[n/144%3]) (js:=[]) EI EJ ?_ ?_ ?_ T1 rfl ⟨rfl,rfl⟩ bR rfl bR λR a6 H g1 bv bU g4 g5=>?_
    .exact sT
    .simp only[simprocAttr,bh]
    .exact sT
    obtain⟨b2,_⟩:=g1.cells;have a7:=g1.one;have b3:=b9.same Jz FX a4 g4 λi l e=>by
     have:=f i l;cases e;omega
    have a8:=sN (A:=X) (B:=[t.E.Y]) (C:=[]) (D:=H) (n:=p.Y) (by simpa using N) bv (λi l=>by have:=f i l;omega) bU
   all_goals repeat' simp only[gE,simprocAttr,ac,b2,a7]
   all_goals
    refine o5 (e:=.agg [I a.J,I a.seq,I a.k,R,B (((n/24%2:Nat):Int)==(k:Int))]) (fD:=a6) (v0:=q) (a:=xf a n k) (js:=H) Jz FX ?_ ?_ ?_ b3 ?_ ⟨R,by rw[E,L],by rw[E];exact g1⟩ a8 rfl P λv a9 o q1 ai b5 b6 b7=>?_
    .exact sT
    .simp only[simprocAttr,bh]
    .exact sT
    .simp only[jR,V.cells,aM,aT,bN,ce,a7];rfl
   all_goals repeat any_goals simp(disch:=omega) only[dq,simprocAttr,y,bh]
   all_goals
    refine⟨k+1,⟨?_⟩,⟨av⟩⟩;simp only[da,simprocAttr,r,u,bh]
   all_goals exact⟨ad,rfl,v,o,rfl,by rw[Bm];exact q1,ai⟩
  .rw[an a5]at E;have Q:¬((n/48%3:Nat):Int)=0:=av;repeat' first|simp(disch:=omega) only[dq,simprocAttr,ab,aA,aB,aC,a2,y,r,u,z,K]|refine cs ?_ ?_<;>intro h<;>try omega|refine lq a3 ?_|refine fg ?_ ?_
   all_goals
    refine NW (e:=S (lW d)) (fD:=t.E) ?_ rfl ?_ ?_
    .exact sT
    .simp only[simprocAttr,bh]
   all_goals generalize bu:t.E.cM (V.cells (S (lW d)))=p at*
   all_goals repeat' first|simp(disch:=omega) only[gE,simprocAttr,aD,a0,r,u,ac,z,K]|refine cs ?_ ?_<;>intro h<;>try omega|refine ec ?_
   all_goals
    refine o5 (e:=.agg [I a.J,I a.seq,I a.k,.ms 1 t.E.Y 0 1 1,B (((n/24%2:Nat):Int)==(k:Int))]) (fD:=p) (v0:=q) (a:=xf a n k) (js:=[t.E.Y]) Jz FX ?_ ?_ ?_ a4 rfl ⟨.ms 1 t.E.Y 0 1 1,by rw[E,L],by rw[E];exact T1⟩ N rfl P λv a9 o q1 ai b5 b6 b7=>?_
    .exact sT
    .simp only[simprocAttr,bh]
    .exact sT
   all_goals repeat any_goals simp(disch:=omega) only[dq,simprocAttr,y,bh]
   all_goals
    refine⟨k+1,⟨?_⟩,⟨av⟩⟩;simp only[da,simprocAttr,r,u,bh]
   all_goals exact⟨ad,rfl,v,o,rfl,by rw[Bm];exact q1,ai⟩
 .obtain rfl:k=n%3:=av;repeat' first|simp only[dq,simprocAttr,ab,y,ac,z]|refine cs ?_ ?_<;>intro h<;>try omega
  exact⟨nE,q,_,oE t.E X,t.E.less X,_,false,bz rfl T.fS,mf _ _,b9.Tp av Zc _ _ _ _ _ T (λi l=>pm l),λh=>(by cases h),rfl,rfl⟩
def cC{GL:ak}{P:Program}{s:St}{K:St->Prop}{pu:Bool}{n:Nat}{y:eO}{id off:Nat}{cells:List V}{r:List BI}(hb:s.E.box id=some cells)(a:jR n (s.val y)=true)(d:off+n<=cells.length)
 (h:∀t:St,t.Z=s.Z->t.G=s.G->t.loc=s.loc->t.E.box=eR s.E.box id (some (aO cells off (s.val y).cells))->t.E.mp=s.E.mp->t.E.Y=s.E.Y->t.fc=s.fc->er P GL pu r t K):iQ P GL (s.store n (.bp id off) y) pu r K:=by
 obtain⟨f,j,l,o,p,q⟩:=Ji hb a d;rw[FL hb a d];unfold iQ;refine h _ f j l o p q ?_;unfold St.Pq;simp only[St.store,hb,a,d,oU,bQ];split
 .cases y<;>rfl
 .rfl
def y9(fz:ak)(cs ds:List V):Prop:=cs.length=ds.length/\∀(j:Nat) c d,cs[j]?=some c->ds[j]?=some d->V.lM fz c d
def y9.nil{fz:ak}:y9 fz [] []:=⟨rfl,λj c d e=>by cases e⟩
def y9.cons{fz:ak}{c d:V}{cs ds:List V}(h:V.lM fz c d)(a:y9 fz cs ds):y9 fz (c::cs) (d::ds):=⟨by simp[a.1],λj x y f l=>by
 cases j with
 |zero=>cases f;cases l;exact h
 |succ j=>exact a.2 j x y f l⟩
def V.lM.mono{fz j:ak}{v u:V}(h:V.lM fz v u)(o:∀id cells,fz id=some cells->j id=some cells):V.lM j v u:=by
 induction h with
 |refl v=>exact .refl v
 |aP sz=>exact .aP sz
 |agg cs a d _ ih=>exact .agg cs a d ih
 |hE cs a d _ ih=>exact .hE cs a d ih
 |sl sz cs a d _ ih=>exact .sl sz cs a d ih
 |ep cs a d _ ih=>exact .ep cs a d ih
 |fn f cs a d _ ih=>exact .fn f cs a d ih
 |Fj sz id off=>exact .Fj sz id off
 |ms sz id off n c cells a p l d _ q hx ih=>exact .ms sz id off n c cells a p (o _ _ l) d ih q hx
 |bp id off cells a l d _ ih=>exact .bp id off cells a (o _ _ l) d ih
def V.Le.L3{v u:V}(h:V.Le v u)(fz:ak):V.lM fz v u:=h.mono λ_ _ e=>by cases e
def U5:CF GL f187 [22,23] [] 187:=ji
def Zd:CF GL f139 [] [4] 139:=ji
def FZ(l:List Int)(k:Int)(n:Nat):pc l k (n+1)=pc l k n++[kj l (k+4*n)]:=by unfold pc;rw[dE,aE];rfl
def Ze(l:List Int)(k:Int)(n:Nat)(z:∀n∈l,jv n)(N:0<=k/\k<=100000000)(P:n<=1000):
 aI 187 [fx l,I k,I n] aJ.bare λv _ E=>∃X,b9 1 FV E v (pc l k n) X/\X.Nodup:=by
 refine bq U5.ok rfl ?_;repeat' simp only[dq,simprocAttr]
 refine dQ rfl rfl (λ(i:Nat) t=>i<=n/\t.Z 8=I i/\∃d X,t.Z 7=d/\b9 1 FV t.E d (pc l k i) X/\X.Nodup) (λi=>n-i) 0 ?_ ?_
 .exact⟨aL _,rfl,.aP,[],rfl,b9.nil,jP⟩
 rintro i t ⟨Q,f,d,X,j,T,D⟩ r;have o:t.Z 0=fx l:=by rw[r 0 dt];rfl
 have p:t.Z 1=I k:=by rw[r 1 dt];rfl
 have q:t.Z 2=I n:=by rw[r 2 dt];rfl
 have H:=T.one;rcases am i n with y|y
 .have c:=Bl l (k+4*i) z av;repeat' first|simp(disch:=omega) only[dq,simprocAttr,f,j,o,p,q]|refine cs ?_ ?_<;>intro h<;>try omega|refine lq c ?_
  refine o5 (e:=S (kj l (k+4*i))) (fD:=t.E) (v0:=d) (a:=kj l (k+4*i)) (js:=[]) EI EJ ?_ ?_ ?_ T rfl ⟨rfl,rfl⟩ (by simpa using D) rfl (by simp[pc];omega) λv L u g1 K R g4 g5=>?_
  .exact sT
  .exact sT
  .exact sT
  repeat' simp(disch:=omega) only[gE,simprocAttr,f,j,o,p,q]
  refine⟨i+1,⟨?_⟩,⟨av⟩⟩;simp only[da,f,j,o,p,q,bh];exact⟨y,rfl,v,u,rfl,by rw[FZ];exact g1,K⟩
 .obtain rfl:i=n:=av;repeat' first|simp only[dq,simprocAttr,f,j,o,p,q,H]|refine cs ?_ ?_<;>intro h<;>try omega
  exact⟨nE,d,_,bz rfl T.fS,X,T,D⟩
def pJ(i:Nat):Nat->Int×List (Int×Int)->Int×List (Int×Int)
 |0,s=>s
 |k+1,s=>((pJ i k s).1.tdiv 3+700*(i+k+1),if 0< (pJ i k s).1.tmod 3 then(pJ i k s).2++[((i:Int),(k:Int))]else(pJ i k s).2)
def p0(many:Nat):Nat->Int×List (Int×Int)->Int×List (Int×Int)
 |0,s=>s
 |i+1,s=>pJ i many (p0 many i s)
def EK(i:Nat)(d:i<=4)(s:Int×List (Int×Int))(a:0<=s.1/\s.1<=10000):∀k,k<=4->(0<=(pJ i k s).1/\(pJ i k s).1<=10000)/\(pJ i k s).2.length<=s.2.length+k
 |0,_=>⟨a,ao _⟩
 |k+1,j=>by
  obtain⟨⟨f,l⟩,o⟩:=EK i d s a k (by omega);refine⟨?_,?_⟩
  .simp only[pJ];generalize (pJ i k s).1=x at*
   have e:x.tdiv 3=x/3:=jr f;omega
  .simp only[pJ];split
   .rw[ae];simp;omega
   .omega
def Bn(many:Nat)(hm:many<=4)(s:Int×List (Int×Int))(a:0<=s.1/\s.1<=10000):∀i,i<=4->(0<=(p0 many i s).1/\(p0 many i s).1<=10000)/\(p0 many i s).2.length<=s.2.length+4*i
 |0,_=>⟨a,by show s.2.length<=_;omega⟩
 |i+1,j=>by
  obtain⟨d,l⟩:=Bn many hm s a i av;obtain⟨f,o⟩:=EK i av _ d many hm;refine⟨f,?_⟩;show(pJ i many (p0 many i s)).2.length<=_;omega
def gQ(w:cm)(l:List Int)(k:Int)(n:Nat):List ID:=(List.range n).map λi:Nat=>Dp w (W l (k+i) 16)
def rG(w:cm)(l:List Int)(k:Int)(n:Nat):gQ w l k (n+1)=gQ w l k n++[Dp w (W l (k+n) 16)]:=by unfold gQ;rw[dE,aE];rfl
def jE(l:List Int)(k:Int)(many m:Nat):List T:=(pc l k many).set (many-1) (kj l (k+4*(many-1:Nat))++nN m)
def CB(l:List Int)(k:Int)(n:Nat)(h:0<n):jE l k n 0=pc l k n:=by
 unfold jE;have d:n-1< (pc l k n).length:=by simp[pc];omega
 have a:kj l (k+4*(n-1:Nat))++nN 0=(pc l k n)[n-1]:=by simp[pc,nN]
 rw[a,iy]
def xg(l:List Int)(k:Int)(n m:Nat):(jE l k n m).length=n:=by simp[jE,pc]
def vI(l:List Int)(k:Int)(n m:Nat):jE l k n (m+1)=(jE l k n m).set (n-1) (kj l (k+4*(n-1:Nat))++nN m++[32,64]):=by
 unfold jE;rw[List.set_set,nN,aG]
def jb(w:cm)(l:List Int)(k:Int)(s:fW):Op:=
 let all:=(gV w s.i9.toNat s.k3.toNat).O
 let n:=1+W l k (min (all.length-s.idx) 4)
 let many:=(1+W l (k+1) 3).toNat
 let m:=(W l (k+2) 9-6).toNat
 {iW with kind:=8,W:=(all.getD s.idx.toNat ⟨⟨0,0,0⟩,0,0,[],[]⟩).id,n:=n,F:=jE l (k+3) many m,cX:=(p0 many n.toNat (W l (k+2) 4096,[])).2,C:=gQ w l (k+3) m}
def Q5(w:cm)(ha:w.ok)(l:List Int)(k:Int)(v a i:Nat)(bs:∀n∈l,jv n)(it:0<=k/\k<=10000000)(e4:v<w.O.length)(e5:a<w.O[v].O.length)(e6:i<w.O[v].O[a].O.length):
 af 139 [w.v,fx l,I k,(fW.mk v a i).v] (jb w l k ⟨v,a,i⟩).v:=by
 have dd:jb w l k ⟨v,a,i⟩={iW with kind:=8,W:=(((gV w v a).O).getD i ⟨⟨0,0,0⟩,0,0,[],[]⟩).id,n:=1+W l k (min ((gV w v a).O.length-(i:Int)) 4),F:=jE l (k+3) (1+W l (k+1) 3).toNat (W l (k+2) 9-6).toNat,cX:=(p0 (1+W l (k+1) 3).toNat (1+W l k (min ((gV w v a).O.length-(i:Int)) 4)).toNat (W l (k+2) 4096,[])).2,C:=gQ w l (k+3) (W l (k+2) 9-6).toNat}:=rfl;rw[fF e4 e5,ap,aa e6,bf]at dd;generalize jb w l k ⟨v,a,i⟩=R at*
 have hlen:=((ha.2.1 _ (ah e4)).2 _ (ah e5)).2.1;have hD:=qa w v a ⟨v,a,i⟩ e4 e5 rfl rfl;generalize w.O[v].O[a].O=all at*
 obtain⟨bu,ea⟩:∃j,min (all.length-(i:Int)) 4=j:=⟨_,rfl⟩;have hc:(if 4< (all.length:Int)-i then 4 else(all.length:Int)-i)=bu:=by rw[<-ea];split<;>omega
 have h2:0<bu/\bu<=4:=av;have hF:=jk l k bu bs av;have js:=ic l k bu av;rw[ea]at dd;have c3:=jk l (k+1) 3 bs av;have jA:=ic l (k+1) 3 av;have c4:=jk l (k+2) 9 bs av;have jB:=ic l (k+2) 9 av;have hH:=jk l (k+2) 4096 bs av;have j2:=ic l (k+2) 4096 av;generalize W l k bu=hd at*
 generalize W l (k+1) 3=he at*
 generalize W l (k+2) 9=hf at*
 generalize W l (k+2) 4096=L at*
 obtain⟨N,hg⟩:∃N:Nat,1+hd=N:=⟨(1+hd).toNat,av⟩;obtain⟨Y,hh⟩:∃Y:Nat,1+he=Y:=⟨(1+he).toNat,av⟩;obtain⟨M,hK⟩:∃M:Nat,(hf-6).toNat=M:=⟨_,rfl⟩;rw[hg,hh,hK,bX,bX]at dd;have hM:=Ze l (k+3) Y bs av av;refine Pure.gg (by simp only[du]) (by simp only[du]) (eU hm Zd.ok (bF rfl) ?_);repeat' first|simp(disch:=try exact om) only[dq,simprocAttr,fW.v,hg,hh,hc]|refine lq hD ?_|refine lq hF ?_|refine lq c3 ?_
 refine bm (h0:=aJ.bare) ?_ hM ?_ ?_ ?_
 .exact sT
 .rfl
 .refine nG ?_;simp only[dL]<;>rfl
 rintro cc bL h3 ⟨X,T,D⟩;have o1:=T.one;have hO:=T.cells.1;obtain⟨e7,eb⟩:∃Z,Z=[I 0,I 0,I 0,I 0,I 0,I 0,I 0,I 0,I 0,I 0,I 0,I 0,I 0,S [],V.aP,V.aP,V.aP]:=⟨_,rfl⟩;repeat' first|simp(disch:=omega) only[gE,simprocAttr,o1,hO]|refine lq c4 ?_
 refine dQ rfl rfl (λ(j:Nat) t=>j<=M/\t.Z 13=I j/\t.G 4=1/\t.loc 4 0=[cd w.O]/\t.G 7=1/\t.G 8=1/\t.loc 8 0=e7/\t.loc 7 0=[I v,I a,I i]/\t.G 10=1/\b9 1 FV t.E cc (jE l (k+3) Y j) X/\
  ∃H,t.loc 10 0=[I 8,I all[i].id.J,I all[i].id.seq,I all[i].id.k,I 0,I 0,I 0,I 0,I 0,I 0,I N,I 0,I 0,S [],cc,.aP,H]/\((j=0/\H=.aP)\/(0<j/\H=eZ (gQ w l (k+3) j)/\t.fc 10 0 16=true))) (λj=>M-j) 0 ?_ ?_
 .refine⟨aL _,?_⟩;simp only[da,simprocAttr,bn]
  and_intros
  all_goals first|rfl|(rw[eb];done)|(rw[CB _ _ _ av];exact T)|(refine⟨.aP,?_⟩;simp only[aO,aw,ay];exact⟨trivial,.inl trivial⟩)
 rintro j t ⟨j3,P,Q,ab,ac,ad,ai,aA,aB,T1,H,K,ch⟩ aC;have a4:t.Z 1=fx l:=by rw[aC 1 dt];rfl
 have a5:t.Z 2=I k:=by rw[aC 2 dt];rfl
 have a6:t.Z 4=.A 4 0 0:=by rw[aC 4 dt];rfl
 have a7:t.Z 7=.A 7 0 0:=by rw[aC 7 dt];rfl
 have a8:t.Z 8=.A 8 0 0:=by rw[aC 8 dt];rfl
 have f:t.Z 10=.A 10 0 0:=by rw[aC 10 dt];rfl
 have o:t.Z 11=I Y:=by rw[aC 11 dt];rfl
 have p:t.Z 12=I (hf-6):=by rw[aC 12 dt];rfl
 have hi:=xg l (k+3) Y j;rcases am j M with h1|h1
 .have hj:Y-1< (jE l (k+3) Y j).length:=av;have dg:(Y:Int)-1=((Y-1:Nat):Int):=av;have hx:(jE l (k+3) Y j)[Y-1]=kj l (k+3+4*(Y-1:Nat))++nN j:=by simp[jE]
  obtain⟨id,c,cells,x,j4,rest,q1,j5,hk,hl,j6,j7,⟨rfl,rfl⟩,j8,j9,kd,h4,hn,_⟩:=b9.at EI EJ T1 D hj;rw[hx]at hl;have h5:=sf j;have h6:=se l (k+3+4*(Y-1:Nat));have ho:=jk l (k+3+j) 16 bs av;have kk:=ic l (k+3+j) 16 av;have ed:=rG w l (k+3) j;have ih:(gQ w l (k+3) j).length=j:=by simp[gQ]
  generalize W l (k+3+j) 16=hQ at*
  have hq:=ED w hQ ha (by unfold jv;omega);have hr:List.drop ((Y-1)*1) cells=S (kj l (k+3+4*(Y-1:Nat))++nN j)::rest:=hl;have hs:(Y-1)*1<=cells.length:=av;have ht:Y-1<Y:=av;rw[hi]at q1;rcases ch with⟨rfl,rfl⟩|⟨ch,rfl,ci⟩
  .repeat' first|simp(disch:=omega) only[gE,simprocAttr,P,Q,ab,ac,ad,ai,aA,aB,K,a4,a5,a6,a7,a8,f,o,p,dg,q1,hk,hr,hs,ht]|refine cs ?_ ?_<;>intro h<;>try omega
   all_goals
    refine cC (n:=1) (cells:=cells) ?_ ?_ av λt2 aD a0 a1 cp hu c1 a2=>?_
    .exact sT
    .exact sT
    have tb:t2.E.box=eR t.E.box id (some (aO cells ((Y-1)*1) [S (kj l (k+3+4*(Y-1:Nat))++nN 0++[32,64])])):=cp.trans sT;have fa:t2.E.Y=t.E.Y:=c1.trans sT;obtain⟨fr,a9,bi⟩:=hn t2.E (S (kj l (k+3+4*(Y-1:Nat))++nN 0++[32,64])) (kj l (k+3+4*(Y-1:Nat))++nN 0++[32,64]) [] (c8 fa.symm) (by rw[tb,bl];rfl) (λj hR h1 dp=>by rw[tb,bE _ _ h1]) rfl ⟨rfl,rfl⟩;rw[bi rfl,<-vI]at a9
   all_goals repeat' first|simp(disch:=try exact om) only[gE,simprocAttr,aD,a0,a1,a2,P,Q,ab,ac,ad,ai,aA,aB,K,a4,a5,a6,a7,a8,f,o,p,dg]|refine lq ho ?_|refine lq hq ?_
   all_goals
    refine⟨0+1,⟨?_⟩,⟨av⟩⟩;simp only[da,simprocAttr,P,Q,ab,ac,ad,ai,aA,aB,K,a4,a5,a6,a7,a8,f,o,p,bh,aD,a0,a1,a2,xH];rw[q1]at a9;refine⟨h1,rfl,a9,_,by simp only[aO,aw,ay,q1];rfl,.inr ⟨?_,rfl⟩⟩;rw[ed];rfl
  .repeat' first|simp(disch:=omega) only[gE,simprocAttr,xH,P,Q,ab,ac,ad,ai,aA,aB,K,ci,a4,a5,a6,a7,a8,f,o,p,dg,q1,hk,hr,hs,ht]|refine cs ?_ ?_<;>intro h<;>try omega
   all_goals
    refine cC (n:=1) (cells:=cells) ?_ ?_ av λt2 aD a0 a1 cp hu c1 a2=>?_
    .exact sT
    .exact sT
    have tb:t2.E.box=eR t.E.box id (some (aO cells ((Y-1)*1) [S (kj l (k+3+4*(Y-1:Nat))++nN j++[32,64])])):=cp.trans sT;have fa:t2.E.Y=t.E.Y:=c1.trans sT;obtain⟨fr,a9,bi⟩:=hn t2.E (S (kj l (k+3+4*(Y-1:Nat))++nN j++[32,64])) (kj l (k+3+4*(Y-1:Nat))++nN j++[32,64]) [] (c8 fa.symm) (by rw[tb,bl];rfl) (λj hR h1 dp=>by rw[tb,bE _ _ h1]) rfl ⟨rfl,rfl⟩;rw[bi rfl,<-vI]at a9
   all_goals repeat' first|simp(disch:=try exact om) only[gE,simprocAttr,xH,aD,a0,a1,a2,P,Q,ab,ac,ad,ai,aA,aB,K,ci,a4,a5,a6,a7,a8,f,o,p,dg]|refine lq ho ?_|refine lq hq ?_
   all_goals
    refine⟨j+1,⟨?_⟩,⟨av⟩⟩;simp only[da,simprocAttr,P,Q,ab,ac,ad,ai,aA,aB,K,ci,a4,a5,a6,a7,a8,f,o,p,bh,aD,a0,a1,a2,xH];rw[q1]at a9;refine⟨h1,rfl,rfl,a9,_,by simp only[aO,aw,ay,q1];rfl,.inr ⟨jV _,?_⟩⟩;rw[ed,aE];rfl
 .obtain rfl:j=M:=av;have el:H.one=true/\V.Le H (eZ (gQ w l (k+3) j)):=by
   rcases ch with⟨rfl,rfl⟩|⟨_,rfl,_⟩
   .exact⟨rfl,.aP _⟩
   .exact⟨rfl,.refl _⟩
  have c2:=el.1;have o2:=T1.one;have hv:=T1.cells.1;repeat' first|simp(disch:=omega) only[gE,simprocAttr,P,Q,ab,ac,ad,ai,aA,aB,K,a4,a5,a6,a7,a8,f,o,p,c2,o2,hv]|refine cs ?_ ?_<;>intro h<;>try omega|refine lq hH ?_
  generalize hS:(I 8:V)=hw at K;refine dQ rfl rfl (λ(x:Nat) u=>x<=N/\u.Z 15=I x/\u.Z 14=I (p0 Y x (L,[])).1/\u.E=t.E/\u.G 8=1/\u.loc 8 0=e7/\u.G 10=1/\
   ∃d,u.loc 10 0=[hw,I all[i].id.J,I all[i].id.seq,I all[i].id.k,I 0,I 0,I 0,I 0,I 0,I 0,I N,I 0,I 0,S [],cc,d,H]/\(((p0 Y x (L,[])).2=[]/\d=.aP)\/(d=jw (p0 Y x (L,[])).2/\u.fc 10 0 15=true))) (λx=>N-x) 0 ?_ ?_
  .refine⟨aL _,?_⟩;simp only[da,simprocAttr,P,Q,ab,ac,ad,ai,aA,aB,K];exact⟨rfl,.aP,rfl,.inl ⟨rfl,rfl⟩⟩
  rintro x u ⟨ks,fs,fB,gb,ds,c5,dF,d,dU,gf⟩ gk;have gn:u.Z 8=.A 8 0 0:=(gk 8 dt).trans sT;have et:u.Z 10=.A 10 0 0:=(gk 10 dt).trans sT;have eN:u.Z 11=I Y:=(gk 11 dt).trans sT;rcases am x N with dp|dp
  .have hy:p0 Y (x+1) (L,[])=pJ x Y (p0 Y x (L,[])):=rfl;have e1:=Bn Y av (L,[]) av x av;generalize p0 Y x (L,[])=G at*
   have yy:d.one=true:=by
    rcases gf with⟨_,rfl⟩|⟨rfl,_⟩<;>rfl
   repeat' first|simp only[dq,simprocAttr,fs,fB,gb,ds,c5,dF,dU,gn,et,eN]|refine cs ?_ ?_<;>intro h<;>try omega
   refine dQ rfl rfl (λ(z:Nat) y=>z<=Y/\y.Z 16=I z/\y.Z 15=I x/\y.Z 14=I (pJ x z G).1/\y.E=t.E/\y.G 8=1/\y.loc 8 0=e7/\y.G 10=1/\
    ∃d,y.loc 10 0=[hw,I all[i].id.J,I all[i].id.seq,I all[i].id.k,I 0,I 0,I 0,I 0,I 0,I 0,I N,I 0,I 0,S [],cc,d,H]/\(((pJ x z G).2=[]/\d=.aP)\/(d=jw (pJ x z G).2/\y.fc 10 0 15=true))) (λz=>Y-z) 0 ?_ ?_
   .refine⟨aL _,?_⟩;simp only[da,simprocAttr,fs,fB,gb,ds,c5,dF,dU,xH];exact⟨rfl,d,rfl,gf⟩
   rintro z y ⟨ln,bv,bU,b2,b3,b5,b6,b7,hz,ca,c6⟩ c7;have cb:y.Z 8=.A 8 0 0:=(c7 8 dt).trans sT;have q:y.Z 10=.A 10 0 0:=(c7 10 dt).trans sT;have r:y.Z 11=I Y:=(c7 11 dt).trans sT;have e2:=EK x av G e1.1 z av;rcases am z Y with c9|c9
   .have bo:(pJ x (z+1) G).1=(pJ x z G).1.tdiv 3+700*(x+z+1):=rfl;have br:(pJ x (z+1) G).2=if 0< (pJ x z G).1.tmod 3 then(pJ x z G).2++[((x:Int),(z:Int))]else(pJ x z G).2:=rfl
    have io:(pJ x z G).2.length<=100:=by
     have:=e1.2;have:=e2.2;simp only[aT]at*
     omega
    generalize pJ x z G=hB at*
    have a3:hB.1.tdiv 3=hB.1/3:=jr e2.1.1;rcases c6 with⟨c6,rfl⟩|⟨rfl,e3⟩
    .repeat' first|simp(disch:=try exact om) only[gE,simprocAttr,xH,bv,bU,b2,b3,b5,b6,b7,ca,cb,q,r,a3]|refine cs ?_ ?_<;>intro h<;>try omega|refine ec ?_
     all_goals
      refine⟨z+1,⟨?_⟩,⟨av⟩⟩;simp only[da,simprocAttr,xH,bv,bU,b2,b3,b5,b6,b7,ca,cb,q,r,a3]
     .refine⟨c9,rfl,by rw[bo,a3],_,by simp only[aO,aw,ay];rfl,.inr ?_⟩;rw[br,ax (by assumption),c6];rfl
     .refine⟨c9,rfl,by rw[bo,a3],_,rfl,.inl ⟨?_,rfl⟩⟩;rw[br,an av,c6]
    .repeat' first|simp(disch:=try exact om) only[gE,simprocAttr,xH,bv,bU,b2,b3,b5,b6,b7,ca,e3,cb,q,r,a3]|refine cs ?_ ?_<;>intro h<;>try omega|refine ec ?_
     all_goals
      refine⟨z+1,⟨?_⟩,⟨av⟩⟩;simp only[da,simprocAttr,xH,bv,bU,b2,b3,b5,b6,b7,ca,e3,cb,q,r,a3]
     .refine⟨c9,rfl,by rw[bo,a3],_,by simp only[aO,aw,ay];rfl,.inr ?_⟩;rw[br,ax (by assumption),aE];rfl
     .refine⟨c9,rfl,by rw[bo,a3],_,rfl,.inr ?_⟩;rw[br,an av];rfl
   .obtain rfl:z=Y:=av;repeat' first|simp(disch:=omega) only[gE,simprocAttr,xH,bv,bU,b2,b3,b5,b6,b7,ca,cb,q,r]|refine cs ?_ ?_<;>intro h<;>try omega
    refine⟨x+1,⟨?_⟩,⟨av⟩⟩;simp only[da,simprocAttr,xH,bv,bU,b2,b3,b5,b6,b7,ca,cb,q,r,hy];exact⟨dp,rfl,hz,rfl,c6⟩
  .obtain rfl:x=N:=av;have yy:d.one=true/\V.Le d (jw (p0 Y x (L,[])).2):=by
    rcases gf with⟨h,rfl⟩|⟨rfl,_⟩
    .exact⟨rfl,by rw[h];exact .aP _⟩
    .exact⟨rfl,.refl _⟩
   have gp:=yy.1;subst hS;rw[eb]at c5;repeat' first|simp only[gE,simprocAttr,fs,fB,gb,ds,c5,dF,dU,gn,et,eN,gp,c2,o2]|refine cs ?_ ?_<;>intro h<;>try omega
   have hV:=b9.Tp av NY _ _ _ _ (oE t.E X) T1 λi e6=>pm e6;refine⟨nE,.agg [I 8,I all[i].id.J,I all[i].id.seq,I all[i].id.k,I 0,I 0,I 0,I 0,I 0,I 0,I x,I 0,I 0,S [],cc,d,H],false,oE t.E X,t.E.less X,_,false,eA (by simp only[dL,simprocAttr,ds,c5,dF,dU,gn,aO]<;>rfl) rfl,mf _ _,?_,λh=>(by cases h),rfl,rfl⟩;rw[dd];exact .agg _ _ rfl (y9.cons (.refl _) (.cons (.refl _) (.cons (.refl _) (.cons (.refl _) (.cons (.refl _) (.cons (.refl _) (.cons (.refl _) (.cons (.refl _) (.cons (.refl _) (.cons (.refl _) (.cons (.refl _) (.cons (.refl _) (.cons (.refl _) (.cons (.refl _) (.cons hV (.cons (yy.2.L3 _) (.cons (el.2.L3 _) .nil))))))))))))))))).2
end Go.Bx
