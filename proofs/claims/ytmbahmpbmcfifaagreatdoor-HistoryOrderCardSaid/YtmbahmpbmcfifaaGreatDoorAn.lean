/- Lemmas for HistoryOrder. -/
import Derived.Test.YtmbahmpbmcfifaaGreatDoorAi
import Derived.Test.YtmbahmpbmcfifaaGreatDoorAj
import Derived.Test.YtmbahmpbmcfifaaGreatDoorAk
noncomputable section
set_option linter.all false
set_option maxHeartbeats 4000000
set_option maxRecDepth 100000
namespace Go.Bx
open Go.Proofs Go.Proofs.Tryz
attribute [local irreducible] vc er dr b4 bV run iD iY i1 i6 iQ i7 i2 iu iS i4 gB i3 cW
def Gp(l:List Int):0< (cZ l).length:=by
 have:0< (cB l.length).length:=by unfold cB;split<;>simp
 unfold cZ;rw[ae];omega
def J0(o:Op)(r:o.enc):af 148 [o.v] (df (oQ o)):=by
 obtain⟨h0,K,t,f,L,j,N,l⟩:=r;have p:∀n∈o.head,jv n:=by
  exact aaC
 have q:=rj o.head (by simp[Op.head]) p;have u:=JD o.bW av;have c3:=zT o.F av f;have P:=qQ o.cX;have Q:=sc o.C;have c4:=rj (jl o.cX) av j;have y:=rj (lf o.C) av l;have z:(cZ o.head).length<=126:=fN o.head (by simp[Op.head]) p;have R:=Gp o.head;have ab:=mD o.bW av;have ac:=lg o.F t f;have ad:=fN (jl o.cX) av j;have ai:=fN (lf o.C) av l;have D:[cZ o.head,dD o.bW,g2 o.F,cZ (jl o.cX),cZ (lf o.C)].flatten=oQ o:=by simp only[oQ,dk,jg,cP]
 have a:=Rs [cZ o.head,dD o.bW,g2 o.F,cZ (jl o.cX),cZ (lf o.C)] (by simp only[dk,ae];omega) (by simp only[dk,jg,cP,ae];omega) bR;rw[D]at a;simp only[Op.head]at q a z;refine pk f148 ?_;repeat' simp only[dq,simprocAttr,Op.v,Op.c]
 refine sk (bL:=[]) (λk:Nat=>k<=o.cX.length) (λk=>[(13,I k,false),(3,fx (jl (o.cX.take k)),true)]) (λk=>o.cX.length-k) (0) (aL _) ?_;rintro k H;have d:=qQ (o.cX.take k);rw[aF]at d;rcases am k o.cX.length with g1|g1
 .repeat any_goals first|simp(disch:=try exact om) only[dq,simprocAttr,ng]|refine cs ?_ ?_<;>intro h<;>try omega|(refine⟨k+1,⟨?_⟩,⟨av⟩,?_⟩;rotate_left;focus (simp only[fQ,fM,bK,cF];and_intros;all_goals(try(simp only[mS,simprocAttr]));all_goals(try(first|(intro h;cases h;done)|(intro _;(simp;done))|(refine aj (ar I ?_);omega)|((repeat first|with_reducible (first|exact Kept.refl _|refine ez ?_|refine eJ ?_|refine ek ?_|refine fX ?_|refine dT ?_)|(with_reducible refine en ?_ ?_;rotate_left;(simp only[pU,simprocAttr])));done)))))
  .exact aj (by rw[bj g1];simp only[jl,cg,cf,jf,cP,aE,bw,cV])
  .exact g1
 obtain rfl:k=o.cX.length:=av;rw[be];repeat' first|refine k9 ?_|refine cs ?_ ?_<;>intro h<;>try omega
 refine sk (bL:=[]) (λk:Nat=>k<=o.C.length) (λk=>[(28,I k,false),(4,fx (lf (o.C.take k)),true)]) (λk=>o.C.length-k) (0) (aL _) ?_;rintro k H;have d:=sc (o.C.take k);rw[aF]at d;rcases am k o.C.length with g1|g1
 .repeat any_goals first|simp(disch:=try exact om) only[dq,simprocAttr]|refine cs ?_ ?_<;>intro h<;>try omega|(refine⟨k+1,⟨?_⟩,⟨av⟩,?_⟩;rotate_left;focus (simp only[fQ,fM,bK,cF];and_intros;all_goals(try(simp only[mS,simprocAttr]));all_goals(try(first|(intro h;cases h;done)|(intro _;(simp;done))|(refine aj (ar I ?_);omega)|((repeat first|with_reducible (first|exact Kept.refl _|refine ez ?_|refine eJ ?_|refine ek ?_|refine fX ?_|refine dT ?_)|(with_reducible refine en ?_ ?_;rotate_left;(simp only[pU,simprocAttr])));done)))))
  .exact aj (by rw[bj g1];simp only[lf,cg,cf,jf,cP,aE,bw,cV])
  .exact g1
 obtain rfl:k=o.C.length:=av;rw[be];repeat' first|refine k9 ?_|refine cs ?_ ?_<;>intro h<;>try omega|refine lq q ?_|refine lq u ?_|refine lq c3 ?_|refine lq c4 ?_|refine lq y ?_|refine lq a ?_|refine q1 ?_
 all_goals exact .refl _
def lE(l:List Name):List Int:=l.flatMap λa=>[a.J,a.seq]
def s5(l:List Name):(lE l).length=2*l.length:=by
 induction l with
 |nil=>rfl
 |cons a r ih=>simp only[lE,cf,ae,aM,aT]at ih ⊢;omega
def mM(p:Post):Int:=if p.main=true then 1 else 0
def gH(p:Post):T:=cB (mM p)++g2 p.path
def kc(e:aV):T:=
 if e.kind=0 then oQ e.op
 else if e.kind=2 then cZ [e.dy.kind,e.dy.eh]++g2 (e.dy.name::e.dy.see::e.dy.eH)
 else if e.kind=3\/e.kind=4 then cZ [e.id.J,e.id.seq,e.id.k]++(cB e.cU.length++e.cU.flatMap gH)
 else if e.kind=5\/e.kind=6 then cZ [e.id.J,e.id.seq,e.id.k,e.n]
 else []
def q5(e:aV):T:=cZ [e.J,e.seq,e.ei,e.kind]++cZ (lE e.C)
def pp(e:aV):T:=q5 e++kc e
structure aV.enc(e:aV):Prop where
 head:∀n∈[e.J,e.seq,e.ei,e.kind],jv n
 kind:e.kind=0\/e.kind=1\/e.kind=2\/e.kind=3\/e.kind=4\/e.kind=5\/e.kind=6
 C:e.C.length<=1000
 Vo:∀n∈lE e.C,jv n
 op:e.op.enc
 dy:∀n∈[e.dy.kind,e.dy.eh],jv n
 tz:e.dy.eH.length<=1000
 words:∀s∈e.dy.name::e.dy.see::e.dy.eH,s.length<=8192
 id:∀n∈[e.id.J,e.id.seq,e.id.k,e.n],jv n
 cU:e.cU.length<=1000
 path:∀p∈e.cU,p.path.length<=10/\∀s∈p.path,s.length<=8192
def yU(p:Post)(h:p.path.length<=10)(h2:∀s∈p.path,s.length<=8192):(gH p).length<=100000:=by
 have a:=lg p.path av h2;have d:=gx (mM p) (by unfold mM jv;split<;>omega);unfold gH;rw[ae];omega
def Lu(o:Op)(a:o.enc):(oQ o).length<=100000000:=by
 obtain⟨h0,q,d,f,r,j,t,l⟩:=a;have p:∀n∈o.head,jv n:=by
  exact Xw
 have u:(cZ o.head).length<=126:=fN o.head (by simp[Op.head]) p;have y:=mD o.bW av;have z:=lg o.F d f;have D:=qQ o.cX;have H:=sc o.C;have K:=fN (jl o.cX) av j;have L:=fN (lf o.C) av l;simp only[oQ,ae];omega
def RO(e:aV)(R:e.enc):af 106 [e.v] (df (pp e)) true:=by
 obtain⟨g1,ab,a7,g4,g5,g6,a8,u,q,a9,t⟩:=R;have y:=rj [e.J,e.seq,e.ei,e.kind] bR g1;have bi:=s5 e.C;have l:=rj (lE e.C) av g4;have c3:=J0 e.op g5;have bo:=Lu e.op g5;have c4:=rj [e.dy.kind,e.dy.eh] bR g6;have z:=Ru [[e.dy.name,e.dy.see],e.dy.eH] bR (by simp;omega) bR;have ac:=zT (e.dy.name::e.dy.see::e.dy.eH) (by simp;omega) u;have D:=rj [e.id.J,e.id.seq,e.id.k,e.n] bR q;have H:=rj [e.id.J,e.id.seq,e.id.k] bR (λn h=>q n (by simp only[bC,cI,gI]at h ⊢;rcases h with h|h|h<;>simp[h]));have K:=sV e.cU.length (by unfold jv;omega);have ad:af 147 [I 0] (.agg [B true,B false,B false,B false,B false]):=kU 0;have ai:af 147 [I 1] (.agg [B false,B false,B false,B false,B false]):=kU 1;have aA:af 147 [I 2] (.agg [B false,B true,B false,B false,B false]):=kU 2;have aB:af 147 [I 3] (.agg [B false,B false,B true,B true,B false]):=kU 3;have aC:af 147 [I 4] (.agg [B false,B false,B true,B true,B false]):=kU 4;have aD:af 147 [I 5] (.agg [B false,B false,B true,B false,B true]):=kU 5;have a0:af 147 [I 6] (.agg [B false,B false,B true,B false,B true]):=kU 6;have L:=fN [e.J,e.seq,e.ei,e.kind] bR g1;have br:=fN (lE e.C) av g4;have a1:=fN [e.dy.kind,e.dy.eh] bR g6;have a2:=lg (e.dy.name::e.dy.see::e.dy.eH) (by simp;omega) u;have a3:=fN [e.id.J,e.id.seq,e.id.k,e.n] bR q;have a4:=fN [e.id.J,e.id.seq,e.id.k] bR (λn h=>q n (by simp only[bC,cI,gI]at h ⊢;rcases h with h|h|h<;>simp[h]));have bs:=gx e.cU.length (by unfold jv;omega);have a5:[[e.dy.name,e.dy.see],e.dy.eH].flatten=e.dy.name::e.dy.see::e.dy.eH:=bR;rw[a5]at z;simp only[aM,aT]at L a1 a2 a3 a4;have r:∀k,((e.cU.take k).flatMap gH).length<=100000*k:=λk=>by
  have:=lc gH 100000 (e.cU.take k) λx hx=>by have:=t x (eE hx);exact yU x this.1 this.2
  rw[aF]at this;exact aQ this (oN _ (l3 _ _))
 rcases ab with hK|hK|hK|hK|hK|hK|hK
 all_goals
  rw[hK]at y L;refine pk f106 ?_ [133];repeat' first|simp only[dq,simprocAttr,aV.v,hK]|refine lq y ?_
  refine sk (bL:=[3]) (λk:Nat=>k<=e.C.length) (λk=>[(25,I k,false),(4,fx (lE (e.C.take k)),true)]) (λk=>e.C.length-k) (0) (aL _) ?_;rintro k N;have a6:=s5 (e.C.take k);rw[aF]at a6;rcases am k e.C.length with g1|g1
  .repeat any_goals first|simp(disch:=try exact om) only[dq,simprocAttr]|refine cs ?_ ?_<;>intro h<;>try omega|(refine⟨k+1,⟨?_⟩,⟨av⟩,?_⟩;rotate_left;focus (simp only[fQ,fM,bK];and_intros;all_goals(try(simp only[mS,simprocAttr]));all_goals(try(first|exact Or.inl trivial|(intro h;cases h;done)|(intro _;(simp;done))|(refine aj (ar I ?_);omega)|((repeat first|with_reducible (first|exact Kept.refl _|refine ez ?_|refine eJ ?_|refine ek ?_|refine fX ?_|refine dT ?_)|(with_reducible refine en ?_ ?_;rotate_left;(simp only[pU,simprocAttr])));done)))))
   .exact aj (by rw[bj g1];simp only[lE,cg,cf,jf,cP,aE,bw,cV])
   .exact g1
  obtain rfl:k=e.C.length:=av;rw[be]
 .repeat' first|refine qu ?_|refine cs ?_ ?_<;>intro h<;>try omega|refine lq l ?_|refine lq ad ?_|refine lq c3 ?_|refine ec ?_|apply rN rfl rfl rfl
  exact Mf
 .repeat' first|refine qu ?_|refine cs ?_ ?_<;>intro h<;>try omega|refine lq l ?_|refine lq ai ?_|refine ec ?_|apply rN rfl rfl rfl
  exact Mf
 .repeat' first|refine qu ?_|refine cs ?_ ?_<;>intro h<;>try omega|refine lq l ?_|refine lq aA ?_|refine lq c4 ?_|refine lq z ?_|refine lq ac ?_|refine ec ?_|apply rN rfl rfl rfl
  exact Mf
 .repeat' first|refine qu ?_|refine cs ?_ ?_<;>intro h<;>try omega|refine lq l ?_|refine lq aB ?_|refine lq H ?_|refine lq K ?_|refine ec ?_
  refine sk (bL:=[3]) (λk:Nat=>k<=e.cU.length) (λk=>[(106,I k,false),(3,df (cZ [e.J,e.seq,e.ei,3]++cZ (lE e.C)++cZ [e.id.J,e.id.seq,e.id.k]++cB e.cU.length++(e.cU.take k).flatMap gH),true)]) (λk=>e.cU.length-k) (0) (aL _) ?_;rintro k N;have P:=r k;rcases am k e.cU.length with g1|g1
  .have j:=t _ (ah g1);have Q:=lg e.cU[k].path av j.2;have d:=sV (mM e.cU[k]) (by unfold mM jv;split<;>omega);have o:=zT e.cU[k].path av j.2;have p:=gx (mM e.cU[k]) (by unfold mM jv;split<;>omega);have f:(e.cU.take (k+1)).flatMap gH=(e.cU.take k).flatMap gH++(cB (mM e.cU[k])++g2 e.cU[k].path):=by rw[bj g1,cg];simp[gH]
   by_cases hm:e.cU[k].main=true
   .have a:mM e.cU[k]=1:=by unfold mM;rw[ax hm]
    rw[a]at d p f;repeat any_goals first|simp(disch:=first|omega|(simp only[me];omega)) only[dq,simprocAttr,hm,aE]|(refine bY (λh=>?_) (λh=>?_))<;>((try simp only[h]);(try simp only[jc]at h);(try omega))|(refine⟨k+1,⟨?_⟩,⟨av⟩,?_⟩;rotate_left;focus (simp only[fQ,fM,bK];and_intros;all_goals(try(simp only[mS,simprocAttr]));all_goals(try(first|exact Or.inl trivial|(intro h;cases h;done)|(intro _;(simp;done))|(refine aj (ar I ?_);omega)|((repeat first|with_reducible (first|exact Kept.refl _|refine ez ?_|refine eJ ?_|refine ek ?_|refine fX ?_|refine dT ?_)|(with_reducible refine en ?_ ?_;rotate_left;(simp only[pU,simprocAttr])));done)))))|((first|refine iT d ?_ ?_|refine iT o ?_ ?_);·simp only[dL,simprocAttr]<;>rfl)|refine ec ?_
    .exact aj (ar (V.sl 1) (by rw[f];simp))
    .exact g1
   .have a:mM e.cU[k]=0:=by unfold mM;rw[an hm]
    rw[a]at d p f;repeat any_goals first|simp(disch:=first|omega|(simp only[me];omega)) only[dq,simprocAttr,hm,aE]|(refine bY (λh=>?_) (λh=>?_))<;>((try simp only[h]);(try simp only[jc]at h);(try omega))|(refine⟨k+1,⟨?_⟩,⟨av⟩,?_⟩;rotate_left;focus (simp only[fQ,fM,bK];and_intros;all_goals(try(simp only[mS,simprocAttr]));all_goals(try(first|exact Or.inl trivial|(intro h;cases h;done)|(intro _;(simp;done))|(refine aj (ar I ?_);omega)|((repeat first|with_reducible (first|exact Kept.refl _|refine ez ?_|refine eJ ?_|refine ek ?_|refine fX ?_|refine dT ?_)|(with_reducible refine en ?_ ?_;rotate_left;(simp only[pU,simprocAttr])));done)))))|((first|refine iT d ?_ ?_|refine iT o ?_ ?_);·simp only[dL,simprocAttr]<;>rfl)|refine ec ?_
    .exact aj (ar (V.sl 1) (by rw[f];simp))
    .exact g1
  .obtain rfl:k=e.cU.length:=av;rw[be];repeat any_goals first|simp only[dq,simprocAttr]|(refine bY (λh=>?_) (λh=>?_))<;>((try simp only[h]);(try simp only[jc]at h);(try omega))|apply rN rfl rfl rfl
   all_goals exact aj (ar (V.sl 1) (by unfold pp q5 kc;rw[hK];simp))
 .repeat' first|refine qu ?_|refine cs ?_ ?_<;>intro h<;>try omega|refine lq l ?_|refine lq aC ?_|refine lq H ?_|refine lq K ?_|refine ec ?_
  refine sk (bL:=[3]) (λk:Nat=>k<=e.cU.length) (λk=>[(106,I k,false),(3,df (cZ [e.J,e.seq,e.ei,4]++cZ (lE e.C)++cZ [e.id.J,e.id.seq,e.id.k]++cB e.cU.length++(e.cU.take k).flatMap gH),true)]) (λk=>e.cU.length-k) (0) (aL _) ?_;rintro k N;have P:=r k;rcases am k e.cU.length with g1|g1
  .have j:=t _ (ah g1);have Q:=lg e.cU[k].path av j.2;have d:=sV (mM e.cU[k]) (by unfold mM jv;split<;>omega);have o:=zT e.cU[k].path av j.2;have p:=gx (mM e.cU[k]) (by unfold mM jv;split<;>omega);have f:(e.cU.take (k+1)).flatMap gH=(e.cU.take k).flatMap gH++(cB (mM e.cU[k])++g2 e.cU[k].path):=by rw[bj g1,cg];simp[gH]
   by_cases hm:e.cU[k].main=true
   .have a:mM e.cU[k]=1:=by unfold mM;rw[ax hm]
    rw[a]at d p f;repeat any_goals first|simp(disch:=first|omega|(simp only[me];omega)) only[dq,simprocAttr,hm,aE]|(refine bY (λh=>?_) (λh=>?_))<;>((try simp only[h]);(try simp only[jc]at h);(try omega))|(refine⟨k+1,⟨?_⟩,⟨av⟩,?_⟩;rotate_left;focus (simp only[fQ,fM,bK];and_intros;all_goals(try(simp only[mS,simprocAttr]));all_goals(try(first|exact Or.inl trivial|(intro h;cases h;done)|(intro _;(simp;done))|(refine aj (ar I ?_);omega)|((repeat first|with_reducible (first|exact Kept.refl _|refine ez ?_|refine eJ ?_|refine ek ?_|refine fX ?_|refine dT ?_)|(with_reducible refine en ?_ ?_;rotate_left;(simp only[pU,simprocAttr])));done)))))|((first|refine iT d ?_ ?_|refine iT o ?_ ?_);·simp only[dL,simprocAttr]<;>rfl)|refine ec ?_
    .exact aj (ar (V.sl 1) (by rw[f];simp))
    .exact g1
   .have a:mM e.cU[k]=0:=by unfold mM;rw[an hm]
    rw[a]at d p f;repeat any_goals first|simp(disch:=first|omega|(simp only[me];omega)) only[dq,simprocAttr,hm,aE]|(refine bY (λh=>?_) (λh=>?_))<;>((try simp only[h]);(try simp only[jc]at h);(try omega))|(refine⟨k+1,⟨?_⟩,⟨av⟩,?_⟩;rotate_left;focus (simp only[fQ,fM,bK];and_intros;all_goals(try(simp only[mS,simprocAttr]));all_goals(try(first|exact Or.inl trivial|(intro h;cases h;done)|(intro _;(simp;done))|(refine aj (ar I ?_);omega)|((repeat first|with_reducible (first|exact Kept.refl _|refine ez ?_|refine eJ ?_|refine ek ?_|refine fX ?_|refine dT ?_)|(with_reducible refine en ?_ ?_;rotate_left;(simp only[pU,simprocAttr])));done)))))|((first|refine iT d ?_ ?_|refine iT o ?_ ?_);·simp only[dL,simprocAttr]<;>rfl)|refine ec ?_
    .exact aj (ar (V.sl 1) (by rw[f];simp))
    .exact g1
  .obtain rfl:k=e.cU.length:=av;rw[be];repeat any_goals first|simp only[dq,simprocAttr]|(refine bY (λh=>?_) (λh=>?_))<;>((try simp only[h]);(try simp only[jc]at h);(try omega))|apply rN rfl rfl rfl
   all_goals exact aj (ar (V.sl 1) (by unfold pp q5 kc;rw[hK];simp))
 .repeat' first|refine qu ?_|refine cs ?_ ?_<;>intro h<;>try omega|refine lq l ?_|refine lq aD ?_|refine lq D ?_|refine ec ?_|apply rN rfl rfl rfl
  exact Mf
 .repeat' first|refine qu ?_|refine cs ?_ ?_<;>intro h<;>try omega|refine lq l ?_|refine lq a0 ?_|refine lq D ?_|refine ec ?_|apply rN rfl rfl rfl
  exact Mf
def lI.Tp{P:Program}{GL:ak}{f:FuncId}{args:List V}{E:aJ}{Q o:V->Bool->aJ->Prop}(h:lI P GL f args E Q)
 (y:∀v bL j,Q v bL j->∃fz a v' d,jD fz j a/\V.lM fz v v'/\(d=true->(bL=true/\(Po fz v\/v'=v))\/v=.aP)/\o v' d a):lI P GL f args E o:=by
 intro g w z p R D;refine h g w z p R ?_;rintro v x bL j H q K out;obtain⟨fz,a,v',d,r,hle,t,u⟩:=y v bL j K;refine D v' x d a (H.cut q fz λ_=>0) q u ⟨out.gA.cut,out.heap.cut r,VR.uk rA (wQ out.heap r.Cu) hle out.res,out.step.trans Step.cut,λL=>?_⟩;rcases t L with⟨l,N⟩|l
 .exact((out.tail l).le hle out.res N).cut
 .subst l;exact(dS.nil (.inr hle) out.res).cut
def DF{s:St}{t f n j:Nat}{ag d:Bool}{a a':V}(h:dw s (.load ag n (.tmp t))=some a)(o:dw s (.load d j (.tmp f))=some a')(l:a.dW=false)(l':a'.dW=false):BF.result s [.cell t ag n,.cell f d j]=some (.hE [a,a'],false):=by
 simp[BF.result,BR.p2,BR.get,h,o,l,l']
def xt(v a:Nat):List aK->Nat->List (fW×aK)
 |[],_=>[]
 |p::r,i=>(⟨v,a,i⟩,p)::xt v a r (i+1)
def BM(v:Nat):List ee->Nat->List (fW×aK)
 |[],_=>[]
 |x::r,a=>xt v a x.O 0++BM v r (a+1)
def tI:List eQ->Nat->List (fW×aK)
 |[],_=>[]
 |x::r,v=>BM v x.O 0++tI r (v+1)
def Gq(x:fW×aK):List V:=[x.1.v,x.2.v]
def BN(v a:Nat):∀(l:List aK)(i:Nat),sW v a l i=(xt v a l i).map Gq
 |[],_=>rfl
 |_::r,i=>by simp only[sW,xt,bw,BN v a r];rfl
def BO(v:Nat):∀(l:List ee)(i:Nat),pd v l i=(BM v l i).map Gq
 |[],_=>rfl
 |x::r,i=>by simp only[pd,BM,aE,BN,BO v r]
def qY:∀(l:List eQ)(i:Nat),mT l i=(tI l i).map Gq
 |[],_=>rfl
 |x::r,i=>by simp only[mT,tI,aE,BO,qY r]
def Gr(v a:Nat):∀(l:List aK)(i:Nat),(xt v a l i).map (·.2)=l
 |[],_=>rfl
 |_::r,i=>by simp only[xt,bw,Gr v a r]
def Gs(v:Nat):∀(l:List ee)(i:Nat),(BM v l i).map (·.2)=mu l
 |[],_=>rfl
 |x::r,i=>by simp only[BM,aE,Gr,Gs v r,mu,cf]
def uM:∀(l:List eQ)(i:Nat),(tI l i).map (·.2)=lP l
 |[],_=>rfl
 |x::r,i=>by simp only[tI,aE,Gs,uM r,lP,cf]
def zr(a:ID)(l:List (fW×aK)):Option fW:=(l.find? λx=>decide (x.2.id=a)).map (·.1)
def DG(a:ID)(v k:Nat):∀(l:List aK)(i:Nat),zr a (xt v k l i)=(ox a i l).map λj=>⟨v,k,j⟩
 |[],_=>rfl
 |p::r,i=>by
  have ih:=DG a v k r (i+1);unfold zr at ih ⊢
  unfold ox xt;by_cases h:p.id=a
  .rw[ax h,m8 (by simpa using h)];rfl
  .rw[an h,List.find?_cons_of_neg (by simpa using h)];exact ih
def yV(a:ID)(l r:List (fW×aK)):zr a (l++r)=(zr a l).or (zr a r):=by
 unfold zr;rw[List.find?_append];cases List.find? (λx=>decide (x.2.id=a)) l<;>rfl
def DH(a:ID)(v:Nat):∀(l:List ee)(i:Nat),zr a (BM v l i)=(oC a i l).map λj=>⟨v,j.1,j.2⟩
 |[],_=>rfl
 |x::r,i=>by
  unfold BM oC;rw[yV,DG,DH a v r];cases ox a 0 x.O<;>rfl
def DI(a:ID):∀(l:List eQ)(i:Nat),zr a (tI l i)=(ef a i l).map λj=>⟨j.1,j.2.1,j.2.2⟩
 |[],_=>rfl
 |x::r,i=>by
  unfold tI ef;rw[yV,DH,DI a r];cases oC a 0 x.O<;>rfl
def abi:CF GL f43 [100002,100003,4,5] [] 43:=ji
def yh:fL prog 123=true:=by kernel_rfl
def ET(w:cm):af 88 [w.v] (.fn 123 [.ep [cd w.O]]):=by
 refine pk f88 ?_ [100001];exact aaP
def BP(w:cm)(a:ID)(a8:w.ok):af 43 [w.v,a.v] (.hE [(ka (ef a 0 w.O)).v,B (ef a 0 w.O).isSome]):=by
 have aD:=sZ w a8;rw[qY]at aD;have hF:=DI a w.O 0;have hlen:=ar List.length (uM w.O 0);rw[aq]at hlen;generalize tI w.O 0=L at*
 have a9:=ET w;refine Pure.gg (by simp only[du]) (by simp only[du]) (eU hm abi.ok (bF rfl) ?_);repeat' first|simp only[gE,simprocAttr,HX.act]|refine lq a9 ?_
 refine yI (f:=123) (cap:=[.ep [cd w.O]]) (items:=L.map Gq) (λj E=>E.box 0=some [I 0,I 0,I 0]/\E.box 1=some [B false]/\∀x∈L.take j,x.2.id≠a) ?_ yh aD ?_ rfl rfl ?_ ?_ ?_ ?_
 .exact sT
 .exact Ha
 .simp only[da,simprocAttr];intro x h;simp at h
 .rintro j E it ⟨ac,r,t⟩ ad;rw[bB]at ad;obtain⟨x,hx,rfl⟩:=bS.1 ad;obtain⟨a0,ai⟩:=aH.1 hx;obtain⟨⟨u,y,z⟩,p⟩:=x;unfold Gq;by_cases q:p.id=a
  .have a1:ef a 0 w.O≠none/\ka (ef a 0 w.O)=⟨u,y,z⟩:=by
    have o:zr a L=some ⟨u,y,z⟩:=by
     unfold zr;rw[show L=L.take j++L[j]::L.drop (j+1)by conv=>lhs;rw[<-cu j L,bI a0]];rw[List.find?_append,py.2 (λx hx=>by simpa using t x hx),ai,m8 (by simpa using q)];rfl
    rw[hF]at o;generalize ef a 0 w.O=R at o ⊢
    rcases R with _|⟨br,bs,bu⟩
    .simp at o
    .simp only[bG,co]at o;exact⟨bR,o⟩
   have aB:(p.id.J==a.J&&(p.id.seq==a.seq&&p.id.k==a.k))=true:=by subst q;simp
   have bi:(ef a 0 w.O).isSome=true:=by cases h:ef a 0 w.O with|none=>exact absurd h a1.1|some _=>rfl
   rw[bi,a1.2];repeat' simp only[gE,simprocAttr,cO,ac,r,aB]
   refine cC (n:=3) (cells:=[I 0,I 0,I 0]) ?_ ?_ bR λaC d D H K a2 a3 a4=>?_
   .exact sT
   .exact sT
   have tb:aC.E.box=eR E.box 0 (some [I u,I y,I z]):=K.trans sT;repeat' simp only[gE,simprocAttr,cO,d,D,H]
   refine cC (n:=1) (cells:=[B false]) ?_ ?_ bR λN l P Q ab a5 a6 a7=>?_
   .simp only[da,simprocAttr,cO,tb,eR,r]
   .exact sT
   have tc:N.E.box=eR (eR E.box 0 (some [I u,I y,I z])) 1 (some [B true]):=by rw[ab];simp only[sE,tb,d];rfl
   repeat' simp only[gE,simprocAttr,cO,l,P,Q,d]
   refine⟨nE,.hE [.agg [I u,I y,I z],B true],false,jF,N.E,_,false,DF (by simp only[dL,simprocAttr,cO,bh,l,d,tc,eR]<;>rfl) (by simp only[dL,simprocAttr,cO,bh,l,d,tc,eR]<;>rfl) rfl rfl,.refl _,?_,λh=>(by cases h),rfl,rfl⟩;exact .refl _
  .have aB:(p.id.J==a.J&&(p.id.seq==a.seq&&p.id.k==a.k))=false:=by
    rw[Bool.eq_false_iff];intro h;simp at h;exact q (ID.FI.2 h)
   repeat' simp only[gE,simprocAttr,cO,ac,r,aB]
   intro x aA;rw[bj a0,ai]at aA;rcases aR.1 aA with h|h
   .exact t x h
   .simp at h;subst h;exact q
 .exact A4 kN kN
 .rintro E ⟨ac,r,t⟩;rw[aq,be]at t;have o:zr a L=none:=by unfold zr;rw[py.2 (λx hx=>by simpa using t x hx)];rfl
  rw[hF]at o;have bo:ef a 0 w.O=none:=by cases h:ef a 0 w.O with|none=>rfl|some _=>rw[h]at o;simp at o
  rw[bo]
  .repeat' simp only[gE,simprocAttr,cO,ac,r]
   refine cC (n:=3) (cells:=[I 0,I 0,I 0]) ?_ ?_ bR λaC d D H K a2 a3 a4=>?_
   .exact sT
   .exact sT
   have tb:aC.E.box=eR E.box 0 (some [I 0,I 0,I 0]):=K.trans sT;repeat' simp only[gE,simprocAttr,cO,d,D,H]
   refine cC (n:=1) (cells:=[B false]) ?_ ?_ bR λN l P Q ab a5 a6 a7=>?_
   .simp only[da,simprocAttr,cO,tb,eR,r]
   .exact sT
   have tc:N.E.box=eR (eR E.box 0 (some [I 0,I 0,I 0])) 1 (some [B false]):=by rw[ab];simp only[sE,tb,d];rfl
   repeat' simp only[gE,simprocAttr,cO,l,P,Q,d]
   refine⟨nE,.hE [.agg [I 0,I 0,I 0],B false],false,jF,N.E,_,false,DF (by simp only[dL,simprocAttr,cO,bh,l,d,tc,eR]<;>rfl) (by simp only[dL,simprocAttr,cO,bh,l,d,tc,eR]<;>rfl) rfl rfl,.refl _,?_,λh=>(by cases h),rfl,rfl⟩;exact .refl _
def gh.one{sz:Nat}{h:aJ}{v:V}{xs:List V}(hm:gh sz h v xs):v.one=true:=by
 exact S9
def gh.kb{sz:Nat}{h:aJ}{v:V}{xs:List V}(hm:gh sz h v xs):v.cells=[v]:=by
 exact S9
def yi{w:cm}(d:w.ok):∀p∈dx w,p.ok:=by
 intro p E;obtain⟨v,f,j⟩:=dC.1 E;obtain⟨a,l,o⟩:=dC.1 j;exact((d.2.1 v f).2 a l).2.2 p o
def ZD:CF GL f41 [100001,3,14] [] 41:=ji
def BQ(w:cm)(N:w.ok):af 41 [w.v] (dv (dx w)):=by
 have P:=sZ w N;rw[qY]at P;have hS:=uM w.O 0;have Q:=yi N;have hlen:=ar List.length hS;rw[aq]at hlen;have hle:=N.2.2;have hlen:(tI w.O 0).length=(dx w).length:=hlen;replace hS:List.map (·.2) (tI w.O 0)=dx w:=hS;generalize tI w.O 0=L at*
 generalize dx w=A at*
 have a3:=ET w;refine Pure.gg (by simp only[du]) (by simp only[du]) (eU hm ZD.ok (bF rfl) ?_);repeat any_goals first|simp only[gE,simprocAttr,HX.act]|refine lq a3 ?_
 refine yI (f:=123) (cap:=[.ep [cd w.O]]) (items:=L.map Gq) (λj E=>0<E.Y/\∃v,E.box 0=some [v]/\gh 7 E v ((A.take j).map aK.v)/\bH v≠some 0) ?_ yh P ?_ rfl rfl ?_ ?_ ?_ ?_
 .exact sT
 .intro it h;obtain⟨x,_,rfl⟩:=cG.1 h;rfl
 .simp only[da,simprocAttr]
  and_intros
  all_goals exact⟨_,rfl,gh.nil,by simp[bH]⟩
 .rintro j E it ⟨R,v,r,t,u⟩ D;rw[bB]at D;obtain⟨x,hx,rfl⟩:=bS.1 D;obtain⟨bU,br⟩:=aH.1 hx;have ab:A[j]?=some x.2:=by rw[<-hS,bB,hx];rfl
  obtain⟨H,d⟩:=aH.1 ab;obtain⟨⟨b2,b3,b5⟩,p⟩:=x;simp only at d;have ac:=Q p (d▸ah H);have a4:=EO p ac;have a5:=t.one;unfold Gq;repeat any_goals first|simp only[gE,simprocAttr,cO,r]|refine lq a4 ?_|refine fg ?_ ?_
  all_goals
   refine iE (xs:=(A.take j).map aK.v) (ys:=[p.v]) ?_ ?_ ?_ ?_ ?_ rfl ?_ ?_ λz a o hb a6=>?_
   .exact sT
   .exact sT
   .intro y ad;simp at ad;subst ad;rfl
   .exact sT
   .simp only[da,simprocAttr];intro l a7;cases a7
   .exact PA
   .intro _ a8;cases a8
   have a9:=o.one;have ai:=o.kb;have aA:a.box 0=some [v]:=by
    rw[hb.box 0 (by(try simp only[sE,simprocAttr]);exact R) (by(try simp only[sE,simprocAttr]);exact u)]
    (try simp only[sE,simprocAttr]);exact r
   have bs:E.Y<=a.Y:=by have:=hb.Y;revert this;simp only[sE,simprocAttr];exact id
   have K:bH z=bH v\/bH z=some E.Y:=by revert a6;simp only[sE,simprocAttr];exact id
  all_goals repeat any_goals simp only[gE,simprocAttr,cO]
  all_goals
   refine cC (n:=1) (cells:=[v]) ?_ ?_ bR λaB aC aD a0 a1 bu a2 bv=>?_
   .simp only[da,simprocAttr,cO];exact aA
   .simp only[sE,simprocAttr];simp only[jR,ai];simp[a9]
   have tb:aB.E.box=eR a.box 0 (some [z]):=by rw[a1];simp only[sE,simprocAttr];rw[ai];rfl
   have b6:aB.E.Y=a.Y:=by rw[a2];simp only[sE,simprocAttr]
  all_goals repeat any_goals simp only[gE,simprocAttr,cO,aC,aD,a0]
  all_goals
   refine⟨av,z,by rw[tb,bl],?_,?_⟩
   .rw[bj H,d,aE];refine gh.frame o (λi q=>?_) av;rw[tb,bE];rintro rfl;rcases K with h|h
    .exact u (h.symm.trans q)
    .rw[h]at q;have:=au q;omega
   .rcases K with h|h
    .rw[h];exact u
    .rw[h];intro bi;have:=au bi;omega
 .exact kN
 .rintro E ⟨R,v,r,t,u⟩;have a5:=t.one;repeat any_goals simp only[gE,simprocAttr,cO,r]
  have bo:(L.map Gq).length=A.length:=by rw[aq,hlen]
  rw[bo,be]at t;exact⟨nE,x2 rfl sT⟩
def BS{P:Program}{GL:ak}{d:Option Nat}{pu:Bool}{r:List BI}{K:St->Prop}{s:St}{z:V}{sz:Nat}{fD:aJ}(a:s.E=fD)
 (h:gB P GL d pu r s K (.ms sz fD.Y 0 0 0) false (fD.cM [])):(MX.Tf sz z 0 []).wp s (gB P GL d pu r s K):=by
 subst a;simp only[MX.wp,iP,lS,cV,jg];exact h
def gh.ZE{h:aJ}{v:V}{l:List aK}(hm:gh 7 h v (l.map aK.v)):b9 7 RP h v l (bH v).toList:=by
 refine⟨l.map aK.v,l.map λ_=>[],hm,aq _,aq _,λi x a o d f j=>?_,?_⟩
 .rw[bB,f]at d;rw[bB,f]at j;exact⟨(au d).symm,(au j).symm⟩
 .have:(l.map λ_:aK=>([]:List Nat)).flatten=[]:=by induction l<;>simp_all
  rw[this,cP]
def Vp:CF GL f116 [5,7] [] 116:=ji
def Od(l:List aK)(E:aJ)(p:l.length<=1000000):aI 116 [dv l] E λv _ d=>∃X,b9 7 RP d v l X/\X.Nodup/\bt none E d/\∀i∈X,E.Y<=i:=by
 refine bq Vp.ok rfl ?_;repeat' first|refine k9 ?_|(refine tM (by simp only[pU]<;>rfl) (by simp only[da]<;>rfl) ?_ (λh=>?_))
 .refine BS (fD:=E) sT ?_;have D:gh 7 (E.cM []) (.ms 7 E.Y 0 0 0) []:=⟨(by intro x hx;cases hx),.inr ⟨E.Y,0,[],rfl,dm _,by simp[aJ.cM,eR,b1],ao _,rfl⟩⟩;repeat' simp only[gE,simprocAttr]
  refine iE (xs:=[]) (ys:=l.map aK.v) ?_ ?_ ?_ ?_ ?_ rfl ?_ ?_ λf d q hb a=>?_
  .exact sT
  .exact sT
  .exact lG.map (λy=>rfl) _
  .exact sT
  .simp only[da];intro l p;cases p
  .simp only[aq,aT];omega
  .simp only[da];intro t;cases t
  have j:gh 7 d f (l.map aK.v):=by simpa using q
  have o:bH f=some E.Y\/bH f=some (E.Y+1):=by revert a;simp only[da];exact id
  have r:bt none E d:=by
   revert hb
   simp only[da,simprocAttr];intro hb;have u:=hb.Y;simp only[aJ.cM]at u;exact⟨λi a _=>by rw[hb.box i (by simp only[aJ.cM];omega) (by simp[bH];omega)];simp only[aJ.cM];exact bE _ _ (cr a),λi a=>by rw[hb.mp i (by simp only[aJ.cM];omega)];rfl,av⟩
  repeat' simp only[gE,simprocAttr]
  refine⟨nE,_,_,bz rfl j.fS,(bH f).toList,?_,?_,?_,?_⟩
  .exact j.ZE
  .rcases o with h|h<;>rw[h]<;>simp
  .exact r
  .intro i a;rcases o with h|h<;>rw[h]at a<;>simp at a<;>omega
 .have z:l=[]:=by simpa using h
  subst z;exact⟨nE,.aP,_,bz rfl rfl,[],b9.nil,jP,⟨λ_ _ _=>rfl,λ_ _=>rfl,ao _⟩,λi a=>(by cases a)⟩
def b9.RQ{α:Type}{R:aJ->V->α->List Nat->Prop}{sz:Nat}{h:aJ}{v:V}{l:List α}{X:List Nat}(T:b9 sz R h v l X){i:Nat}(e:bH v=some i):i∈X:=by obtain⟨a,is,_,_,_,_,rfl⟩:=T;simp[e]
def abj:CF GL f77 [100001,49,56] [9] 77:=ji
def J1(w:cm)(hz:w.ok)(fD:aJ):aI 77 [w.v] fD λv _ E=>∃X,RW E v w X/\X.Nodup/\bt none fD E/\∀i∈X,fD.Y<=i:=by
 obtain⟨w⟩:=w;obtain⟨hB,hd,h5⟩:=hz;simp only at hB;refine bq abj.ok rfl ?_;repeat' simp only[dq,simprocAttr]
 refine dQ rfl rfl (λ(n:Nat) t=>n<=w.length/\t.Z 15=I n/\t.G 2=1/\t.loc 2 0=[.aP]/\t.G 3=1/\bt none fD t.E/\∃H X,t.loc 3 0=[H]/\b9 1 RV t.E H (w.take n) X/\X.Nodup/\∀i∈X,fD.Y<=i) (λn=>w.length-n) 0 ?_ ?_
 .refine⟨aL _,?_⟩;simp only[da,simprocAttr]
  and_intros
  all_goals first|exact⟨λ_ _ _=>rfl,λ_ _=>rfl,ao _⟩|exact⟨.aP,[],rfl,b9.nil,jP,λi d=>(by cases d)⟩
 rintro n t ⟨he,c9,dd,dg,dp,hD,H,X,fa,T1,hf,fr⟩ ca;have hg:t.Z 1=.ep [cd w]:=by rw[ca 1 dt];rfl
 have fs:t.Z 2=.A 2 0 0:=by rw[ca 2 dt];rfl
 have hh:t.Z 3=.A 3 0 0:=by rw[ca 3 dt];rfl
 have el:t.Z 13=cd w:=by rw[ca 13 dt];rfl
 have et:t.Z 14=I w.length:=by rw[ca 14 dt];rfl
 rcases am n w.length with L|L
 .repeat' first|simp(disch:=try exact om) only[dq,simprocAttr,c9,dd,dg,dp,fa,hg,fs,hh,el,et,L]|refine cs ?_ ?_<;>intro h<;>try omega
  refine dQ rfl rfl (λ(m:Nat) u=>m<=w[n].O.length/\u.Z 22=I m/\u.G 2=1/\u.loc 2 0=[.aP]/\u.G 3=1/\u.loc 3 0=[H]/\b9 1 RV u.E H (w.take n) X/\bt none fD u.E/\
   t.G 6<u.G 6/\∃aB o,u.loc 6 (t.G 6)=[aB]/\b9 2 RA u.E aB (w[n].O.take m) o/\(X++o).Nodup/\∀i∈o,fD.Y<=i) (λm=>w[n].O.length-m) 0 ?_ ?_
  .refine⟨aL _,?_⟩;simp only[da,simprocAttr,c9,dd,dg,dp,fa]
   and_intros
   all_goals first|exact T1|exact hD|exact⟨V.aP,[],rfl,b9.nil,by simpa using hf,λi d=>(by cases d)⟩
  rintro m u ⟨h6,bi,bo,m4,m5,m6,a1,K,br,aB,o,m10,cb,fB,gb⟩ q;have ih:=(hd w[n] (ah L)).1;have cc:u.Z 2=.A 2 0 0:=(q 2 dt).trans sT;have ch:u.Z 3=.A 3 0 0:=(q 3 dt).trans sT;have N:u.Z 13=cd w:=(q 13 dt).trans sT;have P:u.Z 14=I w.length:=(q 14 dt).trans sT;have Q:u.Z 15=I n:=(q 15 dt).trans sT;have ci:u.Z 6=.A 6 (t.G 6) 0:=(q 6 dt).trans sT;have R:u.Z 20=mG w[n].O:=(q 20 dt).trans sT;have ab:u.Z 21=I w[n].O.length:=(q 21 dt).trans sT;rcases am m w[n].O.length with z|z
  .have hi:=(hd w[n] (ah L)).2 _ (ah z);have hF:=hi.2.1;have hH:=λE=>Od w[n].O[m].O E hF;repeat' first|simp(disch:=try exact om) only[dq,simprocAttr,bi,bo,m4,m5,m6,br,m10,cc,ch,N,P,Q,ci,R,ab,L,z]|refine cs ?_ ?_<;>intro h<;>try omega
   refine bm rfl (hH _) ?_ ?_ ?_
   .rfl
   .refine nG ?_;simp only[dL]<;>rfl
   rintro r bL cp ⟨aC,c1,hj,aD,c2⟩
   revert aD c2
   simp only[da,simprocAttr,bn];intro aD c2;have hk:=b9.same vt qb a1 aD (λi d e=>by cases e);have hl:=b9.same x4 wb cb aD (λi d e=>by cases e);have hK:=c1.len;have hn:=b9.vr qb _ _ _ _ a1;have eN:=b9.vr wb _ _ _ _ cb;have ac:((X++o)++aC).Nodup:=aU.2 ⟨fB,hj,λi d j ad e=>by
    have:=c2 j ad;rcases aR.1 d with h|h
    .have:=hn i h;omega
    .have:=eN i h;omega⟩
   have ho:fD.Y<=u.E.Y:=K.Y;have ai:bt none fD cp:=⟨λi d l=>by rw[aD.box i av l,K.box i d l],λi d=>by rw[aD.mp i av,K.mp i d],aQ ho aD.Y⟩;repeat' simp only[gE,simprocAttr,hK,bi,bo,m4,m5,m6,br,m10,cc,ch,N,P,Q,ci,R,ab]
   refine dQ rfl rfl (λ(j:Nat) y=>j<=w[n].O[m].O.length/\y.Z 31=I j/\y.G 2=1/\y.loc 2 0=[.aP]/\y.G 3=1/\y.loc 3 0=[H]/\t.G 6<y.G 6/\y.loc 6 (t.G 6)=[aB]/\
    u.G 8<y.G 8/\y.loc 8 (u.G 8)=[S w[n].O[m].gO,dv w[n].O[m].O]/\b9 7 RP y.E r w[n].O[m].O aC/\bt (bH r) cp y.E) (λj=>w[n].O[m].O.length-j) 0 ?_ ?_
   .refine⟨aL _,?_⟩;simp only[da,simprocAttr,bi,bo,m4,m5,m6,br,m10]
    and_intros
    all_goals first|rfl|exact c1|exact⟨λ_ _ _=>rfl,λ_ _=>rfl,ao _⟩
   rintro j y ⟨io,bs,bu,bv,bU,b2,b3,b5,b6,D,a2,aA⟩ f;have ds:y.Z 2=.A 2 0 0:=(f 2 dt).trans sT;have dF:y.Z 3=.A 3 0 0:=(f 3 dt).trans sT;have UO:y.Z 13=cd w:=(f 13 dt).trans sT;have a3:y.Z 14=I w.length:=(f 14 dt).trans sT;have a4:y.Z 15=I n:=(f 15 dt).trans sT;have dU:y.Z 6=.A 6 (t.G 6) 0:=(f 6 dt).trans sT;have a5:y.Z 20=mG w[n].O:=(f 20 dt).trans sT;have a6:y.Z 21=I w[n].O.length:=(f 21 dt).trans sT;have a7:y.Z 22=I m:=(f 22 dt).trans sT;have ea:y.Z 8=.A 8 (u.G 8) 0:=(f 8 dt).trans sT;have eb:y.Z 9=r:=(f 9 dt).trans sT;have a8:y.Z 29=r:=(f 29 dt).trans sT;have a9:y.Z 30=I w[n].O[m].O.length:=(f 30 dt).trans sT;rcases am j w[n].O[m].O.length with ad|ad
   .obtain⟨id,c,cells,x,js,rest,q1,it,hM,hO,jA,jB,⟨rfl,rfl⟩,j2,j3,j4,h3,hQ,_⟩:=b9.at K7 NL a2 hj ad;have hR:=EO w[n].O[m].O[j] (hi.2.2 _ (ah ad));have hq:List.take 7 (List.drop (j*7) cells)=(aK.v w[n].O[m].O[j]).cells:=by rw[hO];rfl
    simp only[aK.v,V.cells]at hq;have hS:j*7<=cells.length:=av;repeat' first|simp(disch:=try exact om) only[gE,simprocAttr,bs,bu,bv,bU,b2,b3,b5,b6,D,ds,dF,UO,a3,a4,dU,a5,a6,a7,ea,eb,a8,a9,ad,q1,hM,hq,hS]|refine cs ?_ ?_<;>intro h<;>try omega|refine lq hR ?_
    refine cC (n:=7) (cells:=cells) ?_ ?_ av λc5 e1 e2 e3 hr hs ht e4=>?_
    .exact sT
    .exact sT
    have tb:c5.E.box=eR y.E.box id (some (aO cells (j*7) (aK.v w[n].O[m].O[j]).cells)):=hr.trans sT;have tp:c5.E.mp=y.E.mp:=hs.trans sT;have hu:c5.E.Y=y.E.Y:=ht.trans sT;obtain⟨p,hv,gf⟩:=hQ c5.E (aK.v w[n].O[m].O[j]) w[n].O[m].O[j] [] (c8 hu.symm) (by rw[tb,bl]) (λj ad he c9=>by rw[tb,bE _ _ he]) rfl ⟨rfl,rfl⟩;rw[gf rfl,iy]at hv;have hV:bt (bH r) cp c5.E:=⟨λi d l=>by rw[tb,bE _ _ (by rintro rfl;exact l (by rw[q1];rfl))];exact aA.box i d l,λi d=>by rw[tp];exact aA.mp i d,by rw[hu];exact aA.Y⟩;repeat' simp(disch:=omega) only[gE,simprocAttr,e1,e2,e3,e4,bs,bu,bv,bU,b2,b3,b5,b6,D]
    refine⟨j+1,⟨?_⟩,⟨av⟩⟩;simp only[da,simprocAttr,e1,e2,e3,e4,bs,bu,bv,bU,b2,b3,b5,b6,D]
    and_intros
    all_goals first|rfl|exact ad|(rw[<-q1];exact hv)|(rw[<-q1];exact hV)
   .have e5:=aU.1 ac;have e6:=b9.same x4 wb hl aA (λi d e=>e5.2.2 i (aY _ d) i (c1.RQ e) rfl);have e7:=b9.same vt qb hk aA (λi d e=>e5.2.2 i (ck _ d) i (c1.RQ e) rfl);have b7:bt none fD y.E:=⟨λi d l=>by
     rw[aA.box i (bA d ai.Y) (λe=>by have:=c2 i (c1.RQ e);omega),ai.box i d l],λi d=>by rw[aA.mp i (bA d ai.Y),ai.mp i d],aQ ai.Y aA.Y⟩
    have o3:=a2.one;obtain⟨h0,j5⟩:=a2.cells;have o2:=e6.one;repeat' first|simp only[dq,simprocAttr,bs,bu,bv,bU,b2,b3,b5,b6,D,ds,dF,UO,a3,a4,dU,a5,a6,a7,ea,eb,a8,a9,o2,o3,h0]|refine cs ?_ ?_<;>intro h<;>try omega
    refine o5 (e:=.agg [S w[n].O[m].gO,r]) (fD:=y.E) (v0:=aB) (a:=w[n].O[m]) (js:=aC) x4 wb ?_ ?_ ?_ e6 ?_ ⟨r,rfl,a2⟩ (by rw[aG]at ac;exact(aU.1 ac).2.1) rfl (by rw[aF];omega) λv c6 p g1 gk ed g4 g5=>?_
    .exact sT
    .exact sT
    .exact sT
    .exact SX
    obtain⟨a0,hw⟩:=g1.cells;have c7:=g1.one;have h4:=eN;have hy:=b9.same vt qb e7 g4 (λi d e=>(aU.1 fB).2.2 i d i (g5 i e) rfl);have gn:bt none fD c6:=⟨λi d l=>by
     rw[g4.box i (bA d b7.Y) (λe=>by have:=gb i (g5 i e);omega),b7.box i d l],λi d=>by rw[g4.mp i (bA d b7.Y),b7.mp i d],aQ b7.Y g4.Y⟩
    have gp:∀i∈p,fD.Y<=i:=λi d=>by
     rcases ed i d with h|h|rfl
     .exact gb i h
     .have:=c2 i h;omega
     .exact b7.Y
    have ha:=b9.vr qb _ _ _ _ e7;repeat' simp(disch:=omega) only[gE,simprocAttr,bs,bu,bv,bU,b2,b3,b5,b6,D,ds,dF,UO,a3,a4,dU,a5,a6,a7,ea,eb,a8,a9,a0,c7]
    refine⟨m+1,⟨?_⟩,⟨av⟩⟩;rw[aG]at ac;have h2:=sN ac gk (n:=y.E.Y) ha ed;try simp only[da,bs,bu,bv,bU,b2,b3,b5,b6,D,ds,dF,UO,a3,a4,dU,a5,a6,a7,ea,eb,a8,a9,a0,c7]
    rw[bj z]
    and_intros
    all_goals first|rfl|exact z|exact hy|exact gn|exact⟨v,p,rfl,g1,h2,gp⟩
  .have o2:=cb.one;have hc:=a1.one;repeat' first|simp only[dq,simprocAttr,bi,bo,m4,m5,m6,br,m10,cc,ch,N,P,Q,ci,R,ab,hc,o2]|refine cs ?_ ?_<;>intro h<;>try omega
   rw[az z]at cb;refine o5 (e:=.agg [aB]) (fD:=u.E) (v0:=H) (a:=w[n]) (js:=o) vt qb ?_ ?_ ?_ a1 ?_ ⟨aB,rfl,cb⟩ fB rfl (by rw[aF];omega) λv c6 p g1 gk ed g4 g5=>?_
   .exact sT
   .exact sT
   .exact sT
   .exact SY
   obtain⟨a0,hw⟩:=g1.cells;have c7:=g1.one;have gn:bt none fD c6:=⟨λi d l=>by
    rw[g4.box i (bA d K.Y) (λe=>by have:=fr i (g5 i e);omega),K.box i d l],λi d=>by rw[g4.mp i (bA d K.Y),K.mp i d],aQ K.Y g4.Y⟩
   have gp:∀i∈p,fD.Y<=i:=λi d=>by
    rcases ed i d with h|h|rfl
    .exact fr i h
    .exact gb i h
    .exact K.Y
   repeat' simp(disch:=omega) only[gE,simprocAttr,bi,bo,m4,m5,m6,br,m10,cc,ch,N,P,Q,ci,R,ab,a0,c7]
   refine⟨n+1,⟨?_⟩,⟨av⟩⟩;simp only[da,simprocAttr,bi,bo,m4,m5,m6,br,m10,cc,ch,N,P,Q,ci,R,ab,a0,c7];rw[bj L]
   and_intros
   all_goals first|rfl|exact L|exact gn|exact⟨v,p,rfl,g1,gk,gp⟩
 .have hc:=T1.one;obtain⟨a0,hw⟩:=T1.cells;repeat' first|simp only[dq,simprocAttr,c9,dd,dg,dp,fa,hg,fs,hh,el,et,hc,a0]|refine cs ?_ ?_<;>intro h<;>try omega
  rw[az L]at T1;refine⟨nE,.agg [H],false,eA (by simp only[dL,simprocAttr,fs,dd,dg,dp]<;>rfl) rfl,X,⟨H,rfl,?_⟩,hf,?_,fr⟩
  .exact sT
  .exact sT
def si{h:aJ}{y:V}{w:cm}{X:List Nat}(T:RW h (.agg [y]) w X)(D:X.Nodup){v a:Nat}(N:v<w.O.length)(ab:a<w.O[v].O.length):
 ∃z f d pv o c,yN h 1 y w.O.length v (.agg [z])/\yN h 2 z w.O[v].O.length a (.agg [S w.O[v].O[a].gO,pv])/\z=.ms 2 f 0 w.O[v].O.length c/\h.box f=some d/\
  b9 7 RP h pv w.O[v].O[a].O o/\o.Nodup/\f∉o/\f∈X/\(∀j∈o,j∈X)/\
  ∀(q:aJ)(r:V)(l':List aK)(l:List Nat),h.Y<=q.Y->q.box f=some (aO d (a*2) [S w.O[v].O[a].gO,r])->(∀j,j∈X->j≠f->j∉o->q.box j=h.box j)->
   b9 7 RP q r l' l->l.Nodup->(∀j∈l,j∈o\/h.Y<=j)->∃p,RW q (.agg [y]) (k7 w v a ⟨w.O[v].O[a].gO,l'⟩) p/\p.Nodup/\∀j∈p,j∈X\/h.Y<=j:=by
 obtain⟨ad,e,a6⟩:=T;obtain rfl:y=ad:=by cases e;rfl
 obtain⟨ai,aA,t,ch,ci,H,rfl,cp,a7,a8,a9,c1,⟨z,rfl,bi⟩,bo,c2,c5,P,c6,br⟩:=a6.Wg vt qb D N;obtain⟨f,ac,d,xa,bs,K,rfl,q1,aB,bu,bv,c7,⟨pv,rfl,bU⟩,b2,b3,aC,aD,b5,c9⟩:=bi.Wg x4 wb bo ab;refine⟨_,f,d,pv,bs,ac,⟨ai,aA,t,H,rfl,N,a7,a8,a9⟩,⟨f,ac,d,K,rfl,ab,aB,bu,bv⟩,rfl,aB,bU,b2,b3,P _ aC,λj u=>P j (aD j u),?_⟩;intro q r l' l a0 a1 a2 a3 a4 Q;obtain⟨a5,b6,b7,ca⟩:=b5 q (.agg [S w.O[v].O[a].gO,r]) ⟨w.O[v].O[a].gO,l'⟩ l a0 a1 (λj u L R=>a2 j (P j u) L R) (by simp only[jR,V.cells,aM,aT,bN,ce,a3.one];rfl) ⟨r,rfl,a3⟩ a4 Q;obtain⟨p,T1,cb,cc⟩:=br q ⟨w.O[v].O.set a ⟨w.O[v].O[a].gO,l'⟩⟩ a5 a0 (λj u L=>a2 j u (λe=>L (e▸aC)) (λR=>L (aD j R))) ⟨_,rfl,b6⟩ b7 ca;refine⟨p,⟨_,rfl,?_⟩,cb,cc⟩;rw[k7,ap,aa N];exact T1
def RX(E:aJ)(a:Nat)(w:cm)(o:Op)(b:Name)(s t:fW)(X:List Nat):Prop:=
 ∃d,E.box a=some (d::(o.c++[I b.J,I b.seq,I s.i9,I s.k3,I s.idx,I t.i9,I t.k3,I t.idx]))/\RW E (.agg [d]) w X/\X.Nodup/\a∉X/\a<E.Y
def ZF:CF GL f311 [] [] 311:=ji
def ZG:CF GL f307 [] [] 307:=ji
def ZH:CF GL f309 [] [1] 309:=ji
def ZI:CF GL f308 [] [1,2] 308:=ji
def ZJ:CF GL f306 [] [1,4] 306:=ji
def ZK:CF GL f305 [] [] 305:=ji
def rl(E:aJ)(o:Nat)(q p pv:V)(r:List V)(t:T)(n m v a f c:Nat)(i:Int)(hx:E.box o=some (q::r))(L:yN E 1 q n v (.agg [p]))(N:yN E 2 p m a (.agg [S t,pv]))(e:p=.ms 2 f 0 m c):
 aI 311 [.bp o 0,.agg [I v,I a,I i]] E λu _ P=>u=.bp f (a*2+1)/\P=E:=by
 obtain⟨ad,ai,d,l,rfl,aA,y,z,aB⟩:=L;obtain⟨Q,ac,D,K,rfl,aC,H,aD,a0⟩:=N;cases e;have R:List.drop (v*1+0) d=V.ms 2 f 0 m c::l:=j1 (j:=0) z (aL _);have ab:v*1+0<=d.length:=av;refine bq ZF.ok rfl ?_;repeat' simp(disch:=omega) only[gE,simprocAttr,hx,y,H,R,ab]
 exact⟨nE,.bp f (a*2+1),_,bz rfl rfl,bR⟩
def xu(E:aJ)(a:Nat)(w:cm)(o:Op)(b:Name)(s t:fW)(X:List Nat)(k:Int)(R:RX E a w o b s t X):aI 307 [.bp a 0,I k] E λu _ d=>u=(ID.v ⟨b.J,b.seq,k⟩)/\d=E:=by
 obtain⟨f,hx,_⟩:=R;refine bq ZG.ok rfl ?_;repeat' simp only[gE,simprocAttr,hx,Op.c,aZ,bx]
 exact⟨nE,.agg [I b.J,I b.seq,I k],false,eA (by simp only[dL,bh,hx,Op.c,aZ,bx,cx,b8]<;>rfl) rfl,by rfl⟩
def vv(a b c:Int)(r:List V):List.take 3 (I a::I b::I c::r)=[I a,I b,I c]:=rfl
def EU(E:aJ)(l:Nat)(w:cm)(o:Op)(b:Name)(s t:fW)(X:List Nat)(R:RX E l w o b s t X)(v a i:Nat)(ad:v<w.O.length)(ai:a<w.O[v].O.length)(aA:i<w.O[v].O[a].O.length)(aB:s=⟨v,a,i⟩):
 aI 309 [.bp l 0] E λu _ aC=>u=(w.O[v].O[a].O[i]).v/\aC=E:=by
 subst aB;obtain⟨aD,hx,T,D,_⟩:=R;obtain⟨a0,y,d,a1,a2,c,a3,z,pe,p3,a4,_⟩:=si T D ad ai;have a5:=rl E l aD a0 a1 _ _ _ _ v a y c i hx a3 z pe;obtain⟨a6,ac,f,q,TW,a8,TX,r,H⟩:=z;have K:f=d:=by
  exact Kj
 rw[K]at r H;obtain⟨pid,a7,p,x,a9,ab,rfl,bi,L,g4,g5,g6,⟨rfl,rfl⟩,bo,br⟩:=a4.get aA;have N:List.drop (a*2+1) d=.ms 7 pid 0 w.O[v].O[a].O.length a7::q:=j1 (j:=1) r (by simp[V.cells]);have P:a*2+1<=d.length:=av;have Q:i*7<=p.length:=av;refine bq ZH.ok rfl ?_;repeat' first|simp only[gE,simprocAttr,hx,Op.c,fW.v,aZ,bx,vv]|refine fg ?_ ?_
 all_goals
  refine bm rfl a5 ?_ ?_ ?_
  .rfl
  .refine nG ?_;simp only[dL]<;>rfl
  rintro _ _ _ ⟨rfl,rfl⟩;repeat' simp(disch:=omega) only[gE,simprocAttr,hx,p3,N,P,L,g4,Q,Op.c,aK.v,Y9,ok7,aZ,bx,vv]
  exact⟨nE,(w.O[v].O[a].O[i]).v,false,eA (by simp only[dL,bh,bn,hx,p3,N,P,L,g4,Q,Op.c,aK.v,Y9,ok7,aZ,bx,cx,b8,bQ,vv]<;>rfl) rfl,rfl⟩
def b9.Vq{h:aJ}{v:V}{l:List aK}{X:List Nat}(T:b9 7 RP h v l X):gh 7 h v (l.map aK.v):=by
 obtain⟨d,is,f,j,q,o,_⟩:=T;have e:d=l.map aK.v:=by
  refine nr (by simpa using j) λi a b=>?_;have p:i<l.length:=by simpa using b
  rw[dB];exact(o i _ _ _ (aa a) (aa p) (aa av)).1
 rwa [e]at f
def vl(E:aJ)(p:Nat)(w:cm)(o:Op)(b:Name)(s t:fW)(X:List Nat)(R:RX E p w o b s t X)(v a i n:Nat)(a3:v<w.O.length)(a4:a<w.O[v].O.length)(b3:i+n<=w.O[v].O[a].O.length)(a5:w.O[v].O[a].O.length<=1000000)(l:List aK)(b5:l.length<=1000000):
 aI 308 [.bp p 0,.agg [I v,I a,I i],I n,dv l] E λ_ _ a6=>∃q,RX a6 p (kP w v a i n l) o b s t q:=by
 obtain⟨a7,hx,T,D,K,aB⟩:=R;obtain⟨b6,f,d,ai,b7,c,ca,a8,pe,p3,L,dg,cb,ma,a1,put⟩:=si T D a3 a4;have cc:=rl E p a7 b6 ai _ _ _ _ v a f c i hx ca a8 pe;have N:=L.Vq;have ch:=Q7 ai _ (l.map aK.v) i n E N (by simpa using b3) (lG.map (λy=>rfl) _) (by simpa using a5) (by simpa using b5);obtain⟨ci,ac,H,aA,TW,dd,TX,P,a9⟩:=a8;have bi:H=d:=by
  exact Kj
 rw[bi]at P a9;have bo:List.drop (a*2+1) d=ai::aA:=j1 (j:=1) P (by simp[V.cells]);have br:a*2+1<=d.length:=av;have bs:=U0 _ _ _ _ T;have bu:=N.one;have o2:=N.fS;have aC:((i:Int)+n)=((i+n:Nat):Int):=av;refine bq ZI.ok rfl ?_;repeat' simp only[gE,simprocAttr]
 refine bm rfl cc ?_ ?_ ?_
 .rfl
 .refine nG ?_;simp only[dL]<;>rfl
 rintro _ _ _ ⟨rfl,rfl⟩;repeat' first|simp(disch:=omega) only[gE,simprocAttr,p3,bo,br,bu,o2,aC]|refine fg ?_ ?_
 all_goals
  refine bm rfl ch ?_ ?_ ?_
  .exact X5
  .refine nG ?_;simp only[dL]<;>rfl
  rintro r _ u ⟨Q,hb,aD⟩;have bv:=Q.one;have cp:=Q.fS;have a0:bH ai≠some f:=λe=>cb (L.RQ e);have a2:=bs f ma;have dp:u.box f=some d:=by rw[hb.box f a2 a0];exact p3
  repeat' simp only[gE,simprocAttr,p3,bo,br,bu,o2,bv,cp,aC]
  refine cC (n:=1) (off:=a*2+1) (cells:=d) ?_ ?_ av λt te tc tl tb tm c1 ds=>?_
  .exact sT
  .simp only[sE];simp[jR,Q.kb,bv]
  have z:t.E.box=eR u.box f (some (aO d (a*2+1) [r])):=by
   rw[tb];simp only[da,simprocAttr,bn];rw[Q.kb]
  have ab:t.E.Y=u.Y:=c1.trans sT;repeat' simp only[gE,simprocAttr,te,tc,tl]
  have bU:p≠f:=λe=>K (e▸ma);have b2:∀j,bH r=some j->t.E.box j=u.box j:=λj ad=>by
   rw[z];refine bE _ _ ?_;rintro rfl;rcases aD j ad with h|h
   .exact a0 h
   .omega
  obtain⟨q,c2,c5,c6⟩:=put t.E r (w.O[v].O[a].O.take i++l++w.O[v].O[a].O.drop (i+n)) (bH r).toList (by rw[ab];exact hb.Y)
   (by rw[z,bl];exact ar some (Jt P).symm)
   (λj ad c7 c9=>by rw[z,bE _ _ c7];exact hb.box j (bs j ad) (λe=>c9 (L.RQ e)))
   (gh.ZE (by rw[aE,aE,kt,gC];exact Q.frame b2 (by rw[ab];exact ao _)))
   (by cases bH r<;>simp) (λj ad=>by
    rcases aD j (by simpa using ad)with h|h
    .exact .inl (L.RQ h)
    .exact .inr h)
  refine⟨nE,.hE [],_,rfl,q,a7,?_,?_,c5,λh=>?_,?_⟩
  .rw[z,bE _ _ bU,hb.box p aB (λe=>K (a1 _ (L.RQ e)))];exact hx
  .rw[kP,fF a3 a4];exact c2
  .rcases c6 _ h with h|h
   .exact K h
   .omega
  .rw[ab];exact bA aB hb.Y
def J2(E:aJ)(p:V)(w:cm)(X:List Nat)(T:RW E (.agg [p]) w X)(s:fW):
 aI 305 [.agg [p],s.v] E λu _ l=>u=B (k5 w s)/\l=E:=by
 obtain⟨t,e,q⟩:=T;obtain rfl:p=t:=by cases e;rfl
 have y:=q.len;have z:=q.one;obtain⟨a,f,K⟩:=s;have hh:k5 w ⟨a,f,K⟩=(decide (0<=a/\0<=f)&&(vE w a.toNat f.toNat).isSome):=rfl;refine bq ZK.ok rfl ?_;by_cases aA:0<=a/\a<w.O.length
 .obtain⟨v,rfl⟩:∃v:Nat,a=v:=⟨a.toNat,av⟩;have D:v<w.O.length:=av;obtain⟨ad,ai,d,aB,aC,o,rfl,aD,L,N,a0,a1,⟨P,rfl,H⟩,_⟩:=q.get D;have Q:=H.len;have R:=H.one;have ab:List.drop (v*1+0) d=P::o:=j1 (j:=0) N (aL _);have ac:v*1+0<=d.length:=av;have r:vE w (v:Int).toNat f.toNat=w.O[v].O[f.toNat]?:=by simp[vE,aa D]
  repeat' first|simp(disch:=omega) only[gE,simprocAttr,y,z,Q,R,L,ab,ac]|refine gz ?_ ?_<;>intro l h<;>(try simp only[l])<;>try omega
  .refine⟨nE,_,_,bz rfl rfl,?_⟩;show V.bool _=V.bool _;congr 1;rw[hh,r,de];simp[];omega
  .exact X6
 .have r:0<=a->vE w a.toNat f.toNat=none:=λh=>by
   have:w.O.length<=a.toNat:=av;simp[vE,b0 this]
  repeat' first|simp only[gE,simprocAttr,y,z]|refine gz ?_ ?_<;>intro l h<;>(try simp only[l])<;>try omega
  .refine⟨nE,_,_,bz rfl rfl,?_⟩;show V.bool _=V.bool _;congr 1;rw[hh,r av];simp
  .exact X6
def J3(E:aJ)(f:Nat)(w:cm)(o:Op)(b:Name)(s t:fW)(X:List Nat)(R:RX E f w o b s t X)(v a:Nat)(K:v<w.O.length)(L:a<w.O[v].O.length)(N:w.O[v].O[a].O.length<=1000000)(q:o.spot.i9=v)(P:o.spot.k3=a)(p:aK):
 aI 306 [.bp f 0,p.v] E λu _ Q=>u=I (x6 w v a o.spot.idx p).2/\((x6 w v a o.spot.idx p).2=0->∃tE,RX Q f (x6 w v a o.spot.idx p).1 o b s t tE):=by
 obtain⟨a2,hx,T,D,bs,bu⟩:=id R;obtain⟨a3,ab,d,ad,a4,c,a5,ai,aA,aB,aC,_⟩:=si T D K L;have a6:=rl E f a2 a3 ad _ _ _ _ v a ab c o.spot.idx hx a5 ai aA;obtain⟨a7,ac,l,r,y,bv,z,H,aD⟩:=ai;have a0:l=d:=by
  rw[aA]at y;injection y with _ q _ _ _;rw[<-q,aB]at z;exact(au z).symm
 rw[a0]at H aD;have a8:List.drop (a*2+1) d=ad::r:=j1 (j:=1) H (by simp[V.cells]);have a9:a*2+1<=d.length:=av;have bi:=aC.one;have bo:=aC.len;have ea:=fF K L;refine bq ZJ.ok rfl ?_;unfold x6;rw[ea];simp only[aK.v];repeat' simp only[gE,simprocAttr,hx,Op.c,q,P,aZ,bx,vv]
 refine bm rfl a6 ?_ ?_ ?_
 .rfl
 .refine nG ?_;simp only[dL]<;>rfl
 rintro _ _ E ⟨rfl,rfl⟩;repeat' first|simp(disch:=omega) only[gE,simprocAttr,hx,aB,a8,a9,bi,bo,Op.c,q,P,aZ,bx,vv]|(first|refine cz ?_ ?_|refine gz ?_ ?_)<;>intro br h<;>try simp only[br]|refine fg ?_ ?_
 .exact⟨nE,_,_,bz rfl rfl,rfl,λh=>h.elim⟩
 .have a1:=vl E f w o b s t X R v a o.spot.idx.toNat 0 K L av N [p] bR;rw[oJ av]at a1;refine bm rfl a1 ?_ ?_ ?_
  .rfl
  .refine nG ?_;simp only[dL]<;>rfl
  rintro u _ bU ⟨tE,R'⟩;exact aaO
 .exact⟨nE,_,_,bz rfl rfl,rfl,λh=>h.elim⟩
def ZL:CF GL f331 [29] [] 331:=ji
def ZM:CF GL f314 [4,100001] [6] 314:=ji
def Lv(a b:Int×Int):Int:=if q2 a.1 b.1≠0 then q2 a.1 b.1 else q2 a.2 b.2
def RR(E:aJ)(a b:Int×Int)(id:Nat)(hb:E.box id=some [I b.1,I b.2]):
 aI 331 [.sl 1 [I a.1,I a.2],.ms 1 id 0 2 2] E λv _ p=>v=I (Lv a b)/\bt none E p:=by
 obtain⟨d,f⟩:=a;obtain⟨j,l⟩:=b;have q:=ve d j;have r:=ve f l;refine bq ZL.ok rfl ?_;repeat' simp only[gE,simprocAttr]
 refine sl (λk:Nat=>k<=2/\(1<=k->q2 d j=0)/\(2<=k->q2 f l=0)) (λk=>[(11,I k,false)]) (λk=>2-k) (0) (⟨av,λh=>av,λh=>av⟩) ?_;rintro k ⟨u,o,t⟩;rcases(by omega:k=0\/k=1\/k=2)with rfl|rfl|rfl
 .repeat any_goals first|simp(disch:=try exact om) only[gE,simprocAttr,hb]|refine bY ?_ ?_<;>intro h<;>(try simp only[h])<;>(try simp only[jc]at h)<;>try exact absurd trivial h|refine ba 1 ?_|refine lq q ?_
  .exact⟨nE,I (q2 d j),_,bz rfl rfl,ar I (by unfold Lv;rw[ax (by assumption)]),⟨λ_ _ _=>rfl,λ_ _=>rfl,ao _⟩⟩
  exact⟨λ_=>by omega,λh=>by(simp at h;done)⟩
 .repeat any_goals first|simp(disch:=try exact om) only[gE,simprocAttr,hb]|refine bY ?_ ?_<;>intro h<;>(try simp only[h])<;>(try simp only[jc]at h)<;>try exact absurd trivial h|refine ba 2 ?_|refine lq r ?_
  .exact⟨nE,I (q2 f l),_,bz rfl rfl,ar I (by unfold Lv;simp only[o (ao 1),ne_eq,not_true,cE]),⟨λ_ _ _=>rfl,λ_ _=>rfl,ao _⟩⟩
  exact⟨λ_=>by exact o (ao 1),λh=>by omega⟩
 .repeat any_goals first|simp only[gE,simprocAttr,hb]|refine bY ?_ ?_<;>intro h<;>(try simp only[h])<;>try simp only[jc]at h
  exact⟨nE,I 0,_,bz rfl rfl,ar I (by unfold Lv;simp only[o (by omega),t (by omega),ne_eq,not_true,cE]),⟨λ_ _ _=>rfl,λ_ _=>rfl,ao _⟩⟩
def RS{a b:Int×Int}:Lv a b<0↔a.1<b.1\/a.1=b.1/\a.2<b.2:=by
 unfold Lv q2;repeat' split
 all_goals omega
def RT(o:Op)(P:o.ok):af 314 [o.v] (B (ri o)):=by
 obtain⟨ai,aA,aB,aC,aD⟩:=P;refine Pure.gg (by simp only[du]) (by simp only[du]) (eU hm ZM.ok (bF rfl) ?_);repeat' simp only[gE,simprocAttr,Op.v,Op.c]
 refine dQ rfl rfl (λ(k:Nat) t=>k<=o.cX.length/\t.Z 8=I k/\(∀i,i<k->pb o i=true)) (λk=>o.cX.length-k) 0 ?_ ?_
 .refine⟨aL _,?_⟩;simp only[da,simprocAttr];intro i h;omega
 rintro k t ⟨a0,d,N⟩ D;have q:t.Z 1=.ep o.c:=by rw[D 1 dt];rfl
 have r:t.Z 6=.sl 2 (o.cX.map ng):=by rw[D 6 dt];rfl
 have u:t.Z 7=I o.cX.length:=by rw[D 7 dt];rfl
 rcases am k o.cX.length with f|f
 .have j:=sd f;repeat' first|simp(disch:=try exact om) only[gE,simprocAttr,HX.act,q,r,u,d,ng,Op.c]|refine cs ?_ ?_<;>intro h<;>try omega
  refine cC (n:=2) (off:=0) (cells:=[I 0,I 0]) ?_ ?_ dt λH te tc tl tb tm a1 a2=>?_
  .exact sT
  .exact sT
  have l:H.E.box t.E.Y=some [I o.cX[k].1,I o.cX[k].2]:=by
   rw[tb];simp only[da,aO];exact bl _ _ _
  rcases cS k with z|z
  .subst z;repeat any_goals first|simp(disch:=omega) only[gE,simprocAttr,te,tc,tl,l,q,r,u,d,ng,Op.c]|(first|refine bY ?_ ?_|refine cY ?_ ?_)<;>intro h<;>(try simp only[bO,bD]at h)<;>(try simp only[h])<;>try simp only[jc]at h|refine fg ?_ ?_
   all_goals try(refine⟨nE,V.bool false,_,jF,_,_,false,bz rfl rfl,.refl _,.refl _,λh=>(by cases h),?_,rfl⟩;exact ar V.bool (by rw[hT];refine Bk f ?_;simp[pb,j];omega))
   all_goals
    refine⟨0+1,⟨?_⟩,⟨by omega⟩⟩;simp only[da,simprocAttr,te,d];refine⟨f,λi y=>?_⟩;obtain rfl:i=0:=av;simp[pb,j];omega
  .have Q:k-1<o.cX.length:=av;have p:=sd Q;have K:k≠0:=av;have R:(k:Int)-1=((k-1:Nat):Int):=av;have ab:=RR H.E o.cX[k-1] o.cX[k] t.E.Y l;have a3:=RS (a:=o.cX[k-1]) (b:=o.cX[k]);repeat' first|simp(disch:=try exact om) only[gE,simprocAttr,te,tc,tl,l,q,R,r,u,d,ng,Op.c]|(first|refine cz ?_ ?_|refine gz ?_ ?_)<;>intro ac h<;>(try simp only[ac])<;>try omega|refine fg ?_ ?_
   all_goals try(refine⟨nE,V.bool false,_,jF,_,_,false,bz rfl rfl,.refl _,.refl _,λh=>(by cases h),?_,rfl⟩;exact ar V.bool (by rw[hT];refine Bk f ?_;simp[pb,j,p,K];omega))
   refine bm (h0:=H.E) ?_ ab ?_ ?_ ?_
   .exact sT
   .rfl
   .refine nG ?_;simp only[dL]<;>rfl
   rintro _ _ ad ⟨rfl,a4⟩;repeat' first|simp(disch:=omega) only[gE,simprocAttr,te,tc,tl,d]|refine cs ?_ ?_<;>intro h
   all_goals try(refine⟨nE,V.bool false,_,jF,_,_,false,bz rfl rfl,.refl _,.refl _,λh=>(by cases h),?_,rfl⟩;exact ar V.bool (by rw[hT];refine Bk f ?_;simp[pb,j,p,K];omega))
   all_goals
    refine⟨k+1,⟨?_⟩,⟨av⟩⟩;simp only[da,simprocAttr,bn,te,d];refine⟨f,rfl,λi y=>?_⟩;rcases gr (hY y)with L|L
    .exact N i L
    .subst L;simp[pb,j,p,K];omega
 .obtain rfl:k=o.cX.length:=av;repeat' first|simp only[gE,simprocAttr,q,r,u,d,ng,Op.c]|refine cs ?_ ?_<;>intro h<;>try omega
  refine⟨nE,V.bool true,_,jF,_,_,false,bz rfl rfl,.refl _,.refl _,λh=>(by cases h),?_,rfl⟩;exact ar V.bool (by rw[hT];exact Jw λi y=>N i y)
def ZN:CF GL f173 [9,60] [] 173:=ji
def EV(acc:List cR)(x:cR):List cR:=if acc.getLast?=some x then acc else acc++[x]
def pL(l:List cR):List cR:=l.foldl EV []
def BT{l:List cR}{k:Nat}(h:k<l.length):pL (l.take (k+1))=EV (pL (l.take k)) l[k]:=by
 rw[bj h];unfold pL;rw[dl];rfl
def Lw(acc:List cR)(x:cR):(EV acc x).getLast?=some x:=by
 unfold EV;split
 .assumption
 .simp
def H9{l:List cR}{k:Nat}(h:k<l.length):(pL (l.take (k+1))).getLast?=some l[k]:=by
 rw[BT h];exact Lw _ _
def wn{l:List cR}{k:Nat}(a:1<=k)(h:k<l.length):pL (l.take (k+1))=if l[k-1]=l[k]then pL (l.take k)else pL (l.take k)++[l[k]]:=by
 obtain⟨k,rfl⟩:∃n,k=n+1:=⟨k-1,av⟩;rw[BT h,EV,H9 av];simp only[co,kA]
def tk6(a b c d e f:Int)(r:List V):List.take 6 ([I a,I b,I c,I d,I e,I f]++r)=[I a,I b,I c,I d,I e,I f]:=rfl
def Oe(a b:cR):dJ [.i,.i,.i,.i,.i,.i] a.v.cells b.v.cells=some (decide (a=b)):=by
 obtain⟨⟨d,f,j⟩,⟨l,o,p⟩⟩:=a;obtain⟨⟨q,r,t⟩,⟨u,y,z⟩⟩:=b;simp only[cR.v,V.cells,dJ,oV];by_cases D:d=q<;>by_cases H:f=r<;>by_cases K:j=t<;>by_cases L:l=u<;>by_cases N:o=y<;>by_cases P:p=z<;>simp[D,H,K,L,N,P]
def vm(a b:cR):dJ [.i,.i,.i,.i,.i,.i] [I a.from_.J,I a.from_.seq,I a.from_.k,I a.to.J,I a.to.seq,I a.to.k] [I b.from_.J,I b.from_.seq,I b.from_.k,I b.to.J,I b.to.seq,I b.to.k]=some (decide (a=b)):=Oe a b
def RU(v:V)(l:List cR)(E:aJ)(o:gh 6 E v (l.map cR.v))(e4:l.length<=1000000):
 aI 173 [v] E λu _ D=>gh 6 D u ((pL l).map cR.v)/\bt (bH v) E D/\(∀i,bH u=some i->bH v=some i):=by
 refine bq ZN.ok rfl ?_;have ci:=o.one;have bo:=o.fS;have ln:=o.len;rw[aq]at ln;rcases am l.length 2 with ai|ai
 .have e:pL l=l:=by
   match l,ai with
   |[],_=>rfl
   |[a],_=>rfl
  repeat any_goals first|simp only[dq,simprocAttr,bh,ci,bo,ln]|(refine bY (λh=>?_) (λh=>?_))<;>((try simp only[h]);(try simp only[jc]at h);(try omega))
  all_goals skip
  rw[e];exact⟨nE,v,_,bz rfl bo,o,rQ,λi h=>h⟩
 .obtain⟨R,⟨br,bs⟩|⟨id,c,rest,br,dV,dZ,eb,H⟩⟩:=id o
  .have:=ar List.length bs;rw[aq]at this;exfalso;simp at this;subst this;simp at ai
  rw[aq]at br eb H;subst br;repeat any_goals first|simp only[dq,simprocAttr,bh,ci,bo,ln]|(refine bY (λh=>?_) (λh=>?_))<;>((try simp only[h]);(try simp only[jc]at h);(try omega))
  all_goals skip
  refine dQ rfl rfl (λ(k:Nat) t=>1<=k/\k<=l.length/\pL (l.take k)=l.take k/\t.Z 3=I k/\t.E=E) (λk=>l.length-k) 1 ?_ ?_
  .refine⟨ao _,by omega,?_,?_⟩
   .match l,ai with
    |a::r,_=>rfl
   simp only[da,simprocAttr]
  rintro k t ⟨cp,e5,aA,aB,p⟩ ed;have aC:t.Z 0=.ms 6 id 0 l.length c:=by rw[ed 0 (by decide)];rfl
  have bu:=dM R;rw[aq]at bu;rcases am k l.length with N|N
  .have bv:=iv R (i:=k) (by simpa using N) rest;have bU:=iv R (i:=k-1) (by simp;omega) rest;rw[dB]at bv bU;have c1:(k:Int)-1=(k-1:Nat):=by omega
   have c2:k*6<=(b1 (l.map cR.v)).length+rest.length:=by rw[bu];omega
   have c5:(k-1)*6<=(b1 (l.map cR.v)).length+rest.length:=by rw[bu];omega
   by_cases aD:l[k-1]=l[k]
   .have q:=(vm l[k] l[k-1]).trans (ar some (db aD.symm));repeat any_goals first|simp(disch:=omega) only[gE,simprocAttr,aB,p,aC,dZ,bv,bU,c1,c2,c5,tk6,bG,q]|refine cs ?_ ?_<;>intro h<;>try omega
    have b2:=wn cp N;rw[ax aD,aA]at b2;refine dQ rfl rfl (λ(j:Nat) d=>1<=j/\k+j<=l.length/\d.Z 5=I j/\(∃(m:Nat)(W:List cR),d.Z 3=I m/\m=(pL (l.take (k+j))).length/\m<k+j/\W.length=l.length/\W.take m=pL (l.take (k+j))/\W.drop (k+j-1)=l.drop (k+j-1)/\d.E.box id=some (b1 (W.map cR.v)++rest)/\(∀i,i≠id->d.E.box i=E.box i)/\d.E.mp=E.mp/\d.E.Y=E.Y)) (λj=>l.length-(k+j)) 1 ?_ ?_
    .exact⟨ao _,N,by simp only[da,simprocAttr],k,l,by simp only[da,simprocAttr,aB],by rw[b2,aF];omega,av,rfl,b2.symm,rfl,by(simp only[da,simprocAttr,p]);exact dZ,by(simp only[da,simprocAttr,p]);(intros;trivial),by simp only[da,simprocAttr,p],by simp only[da,simprocAttr,p]⟩
    rintro j d ⟨q1,e6,ab,m,W,z,ac,e7,a0,a1,b3,P,b5,b6,a2⟩ a8;have b7:d.Z 4=.ms 6 id (k*6) (l.length-k) (c-k):=by rw[a8 4 dt];simp only[da,simprocAttr]
    have K:d.Z 0=.ms 6 id 0 l.length c:=by rw[a8 0 dt];simp only[da,simprocAttr];exact aC
    have a3:lG 6 (W.map cR.v):=lG.map (λy=>rfl) _;have ad:=dM a3;rw[aq,a0]at ad;have fa:((l.length-k:Nat):Int)=(l.length:Int)-k:=by omega
    rcases am (k+j) l.length with ca|ca
    .have g1:W[k+j]'(by omega)=l[k+j]:=by
      have:=ar (λx=>x[1]?) b3;simp only[c0]at this;rw[show k+j-1+1=k+j by omega,aa av,aa ca]at this;exact au this
     have cb:W[k+j-1]'av=l[k+j-1]:=by
      have:=ar (λx=>x[0]?) b3;simp only[c0,dj]at this;rw[aa av,aa av]at this;exact au this
     have a4:=iv a3 (i:=k+j) (by rw[aq];omega) rest;have a5:=iv a3 (i:=k+j-1) (by rw[aq];omega) rest;rw[dB,g1,show(k+j)*6=k*6+j*6 by omega]at a4;rw[dB,cb,show(k+j-1)*6=k*6+(j-1)*6 by omega]at a5;have cc:k*6+j*6<=(b1 (W.map cR.v)).length+rest.length:=by rw[ad];omega
     have ch:k*6+(j-1)*6<=(b1 (W.map cR.v)).length+rest.length:=by rw[ad];omega
     have c6:(j:Int)-1=(j-1:Nat):=av;have c7:=qK a3 (i:=m) (by rw[aq];omega) (x:=l[k+j].v) rfl rest;generalize el:b1 (W.map cR.v)=M at P a4 a5 cc ch ad c7;have a6:=wn (l:=l) (k:=k+j) av ca;have c9:W.drop (k+(j+1)-1)=l.drop (k+(j+1)-1):=by
      have:=ar (List.drop 1) b3;rw[dG,dG,show k+j-1+1=k+(j+1)-1 by omega]at this;exact this
     by_cases Q:l[k+j-1]=l[k+j]
     .have q:=(vm l[k+j] l[k+j-1]).trans (ar some (db Q.symm));repeat any_goals first|simp(disch:=omega) only[dq,simprocAttr,bh,ab,z,P,b7,K,a4,a5,c6,cc,ch,bQ,tk6,bG,q,bO]|(refine bY (λh=>?_) (λh=>?_))<;>((try simp only[h]);(try simp only[jc]at h);(try omega))|refine ec ?_
      refine⟨j+1,⟨?_⟩,⟨by omega⟩⟩;exact⟨by omega,by omega,by(simp only[da,simprocAttr]);exact ar (V.int .i64) (by omega),m,W,by simp only[da,simprocAttr,z],by rw[show k+(j+1)=k+j+1 by omega,a6,ax Q];exact ac,by omega,a0,by rw[show k+(j+1)=k+j+1 by omega,a6,ax Q];exact a1,c9,by(simp only[da,simprocAttr]);rw[el];exact P,by(simp only[da,simprocAttr]);exact b5,by simp only[da,simprocAttr,b6],by simp only[da,simprocAttr,a2]⟩
     .have q:=(vm l[k+j] l[k+j-1]).trans (ar some (dY λe=>Q e.symm));repeat any_goals first|simp(disch:=omega) only[gE,simprocAttr,ab,z,P,b7,K,a4,a5,c6,cc,ch,tk6,bG,q,bD]|refine cs ?_ ?_<;>intro h<;>try omega|refine ec ?_
      refine cC (n:=6) (off:=m*6) (cells:=M++rest) ?_ ?_ (by rw[ae];omega) λet te tc tl tb tm eN fr=>?_
      .exact sT
      .exact sT
      have a9:et.E.box=eR d.E.box id (some (b1 ((W.set m l[k+j]).map cR.v)++rest)):=by
       rw[kZ,<-c7];exact tb.trans sT
      have dd:=tm.trans (by simp only[da,simprocAttr];rfl);have dg:=eN.trans (by simp only[da,simprocAttr];rfl);repeat any_goals simp(disch:=omega) only[dq,simprocAttr,rc,bh,te,tc,tl,ab,z]
      refine⟨j+1,⟨?_⟩,⟨by omega⟩⟩;refine⟨by omega,by omega,by(simp only[da,simprocAttr,te,ab]);exact ar (V.int .i64) (by omega),m+1,W.set m l[k+j],by(simp only[da,simprocAttr,te,z]);exact ar (V.int .i64) (by omega),?_,by omega,by rw[eT];exact a0,?_,?_,by(simp only[da,simprocAttr]);rw[a9];exact bl _ _ _,by(simp only[da,simprocAttr]);exact λi a7=>by rw[a9,bE _ _ a7];exact b5 i a7,by(simp only[da,simprocAttr]);rw[dd];exact b6,by(simp only[da,simprocAttr]);rw[dg];exact a2⟩
      .rw[show k+(j+1)=k+j+1 by omega,a6,an Q,ae,<-ac];rfl
      .rw[show k+(j+1)=k+j+1 by omega,a6,an Q,bj (by rw[eT];omega),nI,List.take_set_of_le (ao _),a1]
      .rw[List.drop_set_of_lt av];exact c9
    .repeat any_goals first|simp(disch:=omega) only[gE,simprocAttr,ab,z,P,b7,K]|refine cs ?_ ?_<;>intro h<;>try omega
     refine Ew (sz:=5) (id:=id) (off:=m*6) (n:=l.length-m) (c:=c-m) (cells:=b1 (W.map cR.v)++rest) (fD:=d.E) sT sT rfl P ?_ λD g1 cb dp=>?_
     .rw[ae,ad];omega
     repeat any_goals simp(disch:=omega) only[gE,simprocAttr,z,K]
     obtain bi:k+j=l.length:=av;rw[bi,be]at ac a1;have e3:m<=l.length:=by rw[<-bi];omega
     have ds:=lG.map (sz:=6) (f:=cR.v) (λy=>rfl) (pL l);have dF:=dM ds;rw[aq,<-ac]at dF;have e1:=lG.map (sz:=6) (f:=cR.v) (λy=>rfl) (W.drop m);have dU:=dM e1;rw[aq,aS,a0]at dU;have e2:b1 (W.map cR.v)=b1 ((pL l).map cR.v)++b1 ((W.drop m).map cR.v):=by rw[<-a1,<-fU,<-aE,cu]
     have ea:=o6 (zs:=[.int .i64 0,.int .i64 0,.int .i64 0,.int .i64 0,.int .i64 0,.int .i64 0]) (sz:=6) rfl (l.length-m);have g4:D.box id=some (b1 ((pL l).map cR.v)++(kl (l.length-m) [.int .i64 0,.int .i64 0,.int .i64 0,.int .i64 0,.int .i64 0,.int .i64 0]++rest)):=by
      rw[g1,bl,e2,aG,<-dF,w7 (by rw[ae];omega),ea,<-dU,fY]
     refine⟨nE,.ms 6 id 0 m c,_,bz sT rfl,gh.mk ds (by rw[dp,a2];exact dV) g4 (by rw[aq];omega) (by rw[ae,ea,aq,H];omega) m (by rw[aq,ac]),⟨λi a7 L=>?_,λi a7=>by rw[cb,b6],by rw[dp,a2];exact ao _⟩,λi h=>h⟩;have L:i≠id:=λe=>L (ar some e.symm);rw[g1,bE _ _ L];exact b5 i L
   .have q:=(vm l[k] l[k-1]).trans (ar some (dY λe=>aD e.symm));repeat any_goals first|simp(disch:=omega) only[gE,simprocAttr,aB,p,aC,dZ,bv,bU,c1,c2,c5,tk6,bG,q]|refine cs ?_ ?_<;>intro h<;>try omega
    refine⟨k+1,⟨av,av,?_,?_⟩,⟨av⟩⟩
    .rw[wn cp N,an aD,aA,bj N]
    ·(simp only[da,simprocAttr,p]);exact ar (V.int .i64) av
  .repeat any_goals first|simp only[gE,simprocAttr,aB,p,aC]|refine cs ?_ ?_<;>intro h<;>try omega
   obtain rfl:k=l.length:=av;rw[be]at aA;rw[aA];exact⟨nE,_,_,bz rfl rfl,o,rQ,λi h=>h⟩
def op0:Op:=⟨0,⟨0,0,0⟩,⟨0,0,0⟩,⟨0,0,0⟩,0,0,0,[],[],[],[]⟩
def Tz:hG:=⟨[],0,0,[],[]⟩
structure aV.plain(e:aV):Prop where
 op:e.kind≠0->e.op=op0
 dy:e.kind≠2->e.dy=Tz
 id:e.kind≠3->e.kind≠4->e.kind≠5->e.kind≠6->e.id=⟨0,0,0⟩
 cU:e.kind≠3->e.kind≠4->e.cU=[]
 n:e.kind≠5->e.kind≠6->e.n=0
 pid:∀p∈e.cU,p.id=e.id
structure aV.good(e:aV):Prop where
 enc:e.enc
 plain:e.plain
 ok:e.ok
 Vr:e.C.length<=16
 J4:e.cU.length<=16
 tz:e.dy.eH.length<=8
 opl:(oQ e.op).length<=65536
 name:e.name.mv=true
 ei:0<=e.ei/\e.ei<=1048576
 n:0<=e.n/\e.n<=1048576
 RY:∀r∈e.C,r.mv=true/\r≠e.name
 C:∀(i:Nat)(h:i+1<e.C.length),EB e.C[i] e.C[i+1]=true
 dy:e.kind=2->iV e.dy.name=true/\(e.dy.see=[]\/iV e.dy.see=true)/\(0<=e.dy.kind/\e.dy.kind<=2)/\(0<=e.dy.eh/\e.dy.eh<=3)/\e.dy.eH.all iV=true
 cU:∀p∈e.cU,(1<=p.path.length/\p.path.length<=4)/\p.path.all iV=true
end Go.Bx
