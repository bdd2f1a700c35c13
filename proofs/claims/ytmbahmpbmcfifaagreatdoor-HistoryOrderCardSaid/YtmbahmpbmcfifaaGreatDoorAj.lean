/- Lemmas for HistoryOrder. -/
import Derived.Test.YtmbahmpbmcfifaaGreatDoorAg
noncomputable section
set_option linter.all false
set_option maxHeartbeats 4000000
set_option maxRecDepth 100000
namespace Go.Bx
open Go.Proofs Go.Proofs.Tryz
attribute [local irreducible] vc er dr b4 bV run iD iY i1 i6 iQ i7 i2 iu iS i4 gB i3 cW
def vu(x:aV)(l:List aV):Nat->Nat
 |0=>0
 |k+1=>match l[k]? with
  |some y=>if np x y=true then vu x l k else k+1
  |none=>k+1
def uF(l:List aV)(x:aV):List aV:=l.take (vu x l l.length)++x::l.drop (vu x l l.length)
def gl(l:List aV):List aV:=l.foldl uF []
def Bo{l:List aV}{k:Nat}(h:k<l.length):gl (l.take (k+1))=uF (gl (l.take k)) l[k]:=by
 rw[bj h];unfold gl;rw[dl];rfl
def N0(l:List aV)(x:aV):(uF l x).length=l.length+1:=by
 unfold uF;simp only[ae,aM,aF,aS];omega
def ya(l:List aV):∀k,k<=l.length->(gl (l.take k)).length=k
 |0,_=>by simp[gl]
 |k+1,h=>by rw[Bo h,N0,ya l k av]
def JA(x:aV)(l:List aV):∀k,vu x l k<=k
 |0=>ao _
 |k+1=>by
  unfold vu;split
  .split
   .exact eY (JA x l k)
   .exact ao _
  .exact ao _
def U6(v:V)(E a:aJ)(r:V)(zs:List V):Prop:=gh 7 a r zs/\bt (bH v) E a/\∀k,bH r=some k->bH v=some k\/E.Y<=k
def Q6(v:V)(xs ys:List V)(i:Nat)(E:aJ)(hm0:gh 7 E v xs)(d:i<=xs.length)(u:lG 7 ys)(hx:xs.length<=1000000)(a2:ys.length<=1000000):
 aI 336 [v,I i,.sl 7 ys] E λr _ f=>U6 v E f r (xs.take i++ys++xs.drop i):=by
 refine bk f336 ?_ [25,17,55,83,94];rcases cS ys.length with y|y
 .obtain rfl:ys=[]:=bJ.1 y;rw[cP,cu];obtain⟨za,⟨rfl,rfl⟩|⟨id,c,rest,rfl,dV,dZ,R,j⟩⟩:=id hm0
  .obtain rfl:i=0:=rq.1 d;exact XI
  .exact XI
 rcases pz d with L|L
 .have e1:xs.take i++ys++xs.drop i=xs++ys:=by rw[L,be,je,cP]
  rw[e1];have fin:∀w f,gh 7 f w (xs++ys)->bt (bH v) E f->(bH w=bH v\/bH w=some E.Y)->U6 v E f w (xs++ys):=λw f a b c=>⟨a,b,λk h=>by rcases c with c|c<;>rw[c]at h;exact .inl h;cases h;exact .inr (ao _)⟩;obtain⟨za,⟨rfl,rfl⟩|⟨id,c,rest,rfl,dV,dZ,R,j⟩⟩:=id hm0
  .obtain rfl:i=0:=L;repeat' first|simp(disch:=omega) only[dq,simprocAttr]|refine cs ?_ ?_<;>intro h<;>try omega
   refine iE (xs:=[]) (ys:=ys) ?_ ?_ u ?_ ?_ rfl ?_ ?_ λw f o hb d=>?_
   .exact sT
   .exact sT
   .exact sT
   .simp only[da];intro l P;cases P
   .simp only[aT];omega
   .intro _ e;rw[e]at y;cases y
   revert hb d
   simp only[da];intro hb d;repeat' simp only[dq,simprocAttr,bh]
   exact⟨nE,_,_,bz rfl o.fS,fin _ _ o hb d⟩
  .repeat' first|simp(disch:=omega) only[dq,simprocAttr]|refine cs ?_ ?_<;>intro h<;>try omega
   refine iE (xs:=xs) (ys:=ys) ?_ ?_ u ?_ ?_ rfl ?_ ?_ λw f o hb d=>?_
   .exact sT
   .exact sT
   .exact sT
   .simp only[da];intro l P;cases P
   .omega
   .intro _ e;rw[e]at y;cases y
   revert hb d
   simp only[da];intro hb d;repeat' simp only[dq,simprocAttr,bh]
   exact⟨nE,_,_,bz rfl o.fS,fin _ _ o hb d⟩
 obtain⟨za,⟨rfl,rfl⟩|⟨id,c,rest,rfl,dV,dZ,R,j⟩⟩:=id hm0
 .cases L
 rcases am c (xs.length+ys.length)with aA|aA
 .have z:b1 xs=b1 (xs.take i)++b1 (xs.drop i):=ot i;have a0:gh 7 E (.ms 7 id 0 i c) (xs.take i):=gh.mk (lG.take za i) dV (by rw[dZ,z,aG]) (by rw[aF];omega) (by rw[ae,dM (lG.drop za i),j,aS,aF,dX d,<-dK];congr 1;omega) i (by rw[aF];omega);repeat' first|simp(disch:=omega) only[dq,simprocAttr]|refine cs ?_ ?_<;>intro h<;>try omega
  refine Jl (fD:=E) (m:=xs.length+ys.length-i) (k:=i) (xs:=xs.take i) (rest:=b1 (xs.drop i)++rest) (by simp only[simprocAttr,bh]) sT (by rw[aF];omega) (lG.take za i) (by simp only[da];(congr 1;omega)) (by rw[dZ,z,aG]) av av av λK Q a1 q b2 b3=>?_;have D:(b1 (xs.take i)).length=i*7:=by rw[dM (lG.take za i),aF,dX d]
  have N:=dM u;have H:(b1 (xs.drop i)).length=(xs.length-i)*7:=by rw[dM (lG.drop za i),aS]
  generalize ab:kl (xs.length+ys.length-i) [I 0,I 0,I 0,I 0,I 0,S [],V.aP]++kl (Q-(i+(xs.length+ys.length-i))) [I 0,I 0,I 0,I 0,I 0,S [],V.aP]=Z;have a3:Z.length=(Q-i)*7:=by rw[<-ab,ae,o6 rfl,o6 rfl,<-dK];congr 1;omega
  rw[aG,ab]at q;repeat' simp(disch:=omega) only[gE,simprocAttr]
  refine sO (fD:=K) (m:=ys.length) (src:=b1 ys) (cells:=b1 (xs.take i)++Z) (by simp only[simprocAttr,bh]) sT sT N (by rw[q,bl]) av (by rw[ae];omega) λt p d2 d3=>?_;rw[<-D,w7 av,q,nn]at p;have ac:id≠E.Y:=cr dV;have bi:t.box id=some (b1 (xs.take i)++(b1 (xs.drop i)++rest)):=by rw[p,bE _ _ ac,dZ,z,aG]
  have ci:=r9 bi;rw[D,H]at ci;repeat' simp(disch:=omega) only[gE,simprocAttr]
  refine sO (fD:=t) (m:=xs.length-i) (src:=b1 (xs.drop i)) (cells:=b1 (xs.take i)++(b1 ys++Z.drop (b1 ys).length)) (by simp only[simprocAttr,bh]) sT (by simp only[da];simp only[qs,bQ,ci,bG]) H (by rw[p,bl]) av (by simp only[ae,aS];omega) λad e1 e2 e3=>?_;rw[show((i:Int)+ys.length).toNat*7=(b1 (xs.take i)++b1 ys).length from by rw[ae,D,N,<-dK];congr 1,<-aG,w7 (by rw[aS];omega),p,nn]at e1;repeat' simp only[gE,simprocAttr]
  have hM:gh 7 ad (.ms 7 E.Y 0 (i+(xs.length+ys.length-i)) Q) (xs.take i++ys++xs.drop i):=
   gh.mk (rest:=(Z.drop (b1 ys).length).drop (b1 (xs.drop i)).length) (((lG.take za i).append u).append (lG.drop za i)) (by rw[e3,d3,b3];exact dm _) (by rw[e1,bl];simp only[fU,aG])
    (by simp only[ae,aF,aS];omega) (by simp only[ae,aF,aS];omega) _ (by simp only[ae,aF,aS];omega)
  exact Xy
 .have ai:∃c r,E.box id=some (c::r):=by
   exact XG
  repeat' first|simp(disch:=omega) only[dq,simprocAttr]|refine cs ?_ ?_<;>intro h<;>try omega
  refine Tq (by simp only[da];exact .inr (.inr ⟨dt,ai⟩)) ?_;have z:b1 xs=b1 (xs.take i)++b1 (xs.drop i):=ot i;have D:(b1 (xs.take i)).length=i*7:=by rw[dM (lG.take za i),aF,dX d]
  have N:=dM u;have H:(b1 (xs.drop i)).length=(xs.length-i)*7:=by rw[dM (lG.drop za i),aS]
  have bi:E.box id=some (b1 (xs.take i)++((b1 (xs.drop i)++rest.take (ys.length*7))++rest.drop (ys.length*7))):=by rw[dZ,z,aG,aG,cu]
  have ci:=r9 bi;have aB:(b1 (xs.drop i)++rest.take (ys.length*7)).length=(xs.length+ys.length-i)*7:=by
   have aC:ys.length*7<=(c-xs.length)*7:=cj _ av;rw[ae,H,aF,j,dX aC,<-dK];congr 1;omega
  rw[D,aB]at ci;repeat' simp(disch:=omega) only[gE,simprocAttr]
  have aD:((xs.length:Int)+ys.length).toNat-0-i=xs.length+ys.length-i:=av;refine Qv (fD:=E) (m:=xs.length+ys.length-i) (src:=b1 (xs.drop i)++rest.take (ys.length*7)) (Qw:=b1 (xs.drop i)) (cells:=b1 (xs.take i)++(b1 (xs.drop i)++rest)) (by simp only[simprocAttr,bh]) sT (by simp only[da];simp only[qs,bQ,aD,ci,bG]) av ?_ (by rw[H];omega) (by rw[dZ,z,aG]) (by simp only[ae];omega) λK q b2 b3=>?_
  .rw[show(((xs.length:Int)+ys.length).toNat-0-((i:Int)+ys.length).toNat)*(6+1)=(b1 (xs.drop i)).length from by rw[H];omega,gK]
  rw[show((i:Int)+ys.length).toNat*7=(b1 (xs.take i)).length+(b1 ys).length from by omega]at q;repeat' simp(disch:=omega) only[gE,simprocAttr]
  refine sO (fD:=K) (m:=ys.length) (src:=b1 ys) (by simp only[simprocAttr,bh]) sT sT N (by rw[q,bl]) av ?_ λt p d2 d3=>?_
  .exact Ya
  rw[<-D,YU (by rw[ae];omega),q,nn]at p;repeat' simp only[gE,simprocAttr]
  have hM:gh 7 t (.ms 7 id 0 (((xs.length:Int)+ys.length).toNat-0) c) (xs.take i++ys++xs.drop i):=
   gh.mk (rest:=(b1 (xs.drop i)++rest).drop ((b1 ys).length+(b1 (xs.drop i)).length)) (((lG.take za i).append u).append (lG.drop za i)) (by rw[d3,b3];exact dV) (by rw[p,bl];simp only[fU,aG])
    (by simp only[ae,aF,aS];omega) (by simp only[ae,aF,aS];omega) _ (by simp only[ae,aF,aS];omega)
  exact⟨nE,.ms 7 id 0 (((xs.length:Int)+ys.length).toNat-0) c,_,bz sT rfl,hM,bt.HO p (by rw[d2,b2]) (by rw[d3,b3]),λk h=>.inl h⟩
def Q7(v:V)(xs ys:List V)(i n:Nat)(E:aJ)(z:gh 7 E v xs)(t:i+n<=xs.length)(u:lG 7 ys)(hx:xs.length<=1000000)(a7:ys.length<=1000000):
 aI 329 [v,I i,I (i+n:Nat),.sl 7 ys] E λr _ H=>U6 v E H r (xs.take i++ys++xs.drop (i+n)):=by
 refine bk f329 ?_ [34,44,83,111,136,171,200,223] [3];have a8:=Q6 v xs ys i E z av u hx a7;rcases cS n with a0|a0
 .subst a0;rw[dj];obtain⟨za,⟨rfl,rfl⟩|⟨id,c,rest,rfl,dV,dZ,a9,p⟩⟩:=id z;all_goals
   repeat' simp(disch:=omega) only[dq,simprocAttr]
   refine bm rfl a8 ?_ ?_ ?_
   .rfl
   .refine nG ?_;simp only[dL]<;>rfl
   rintro r _ H hM;repeat' simp only[gE,simprocAttr]
   exact⟨nE,r,_,bz sT hM.1.fS,hM⟩
 obtain⟨za,⟨rfl,rfl⟩|⟨id,c,rest,rfl,dV,dZ,a9,p⟩⟩:=id z
 .simp at t;omega
 have q:i<=xs.length:=av;have K:b1 xs=b1 (xs.take i)++b1 (xs.drop i):=ot i;have L:(b1 (xs.take i)).length=i*7:=by rw[dM (lG.take za i),aF,dX q]
 have Q:=dM u;have a1:(b1 (xs.drop i)).length=(xs.length-i)*7:=by rw[dM (lG.drop za i),aS]
 have bU:gh 7 E (.ms 7 id 0 i c) (xs.take i):=gh.mk (lG.take za i) dV (by rw[dZ,K,aG]) (by rw[aF];omega) (by rw[ae,a1,p,aF,dX q,<-dK];congr 1;omega) i (by rw[aF];omega);have fd:b1 (xs.drop i)=b1 ((xs.drop i).take n)++b1 (xs.drop (i+n)):=by rw[ot (xs:=xs.drop i) n,dG]
 have bo:(b1 ((xs.drop i).take n)).length=n*7:=by rw[dM (lG.take (lG.drop za i) n),aF,aS,dX av]
 have N:(b1 (xs.drop (i+n))).length=(xs.length-(i+n))*7:=by rw[dM (lG.drop za (i+n)),aS]
 have bi:E.box id=some ((b1 (xs.take i)++b1 ((xs.drop i).take n))++(b1 (xs.drop (i+n))++rest)):=by rw[dZ,K,fd];simp only[aG]
 have ci:=r9 bi;rw[ae,L,bo,N,<-dK]at ci;have a2:∃c r,E.box id=some (c::r):=by
  exact XG
 rcases pz t with a3|a3
 .have e1:xs.take i++ys++xs.drop (i+n)=xs.take i++ys:=by rw[a3,je,cP]
  rw[e1];rcases am c (i+ys.length)with R|R
  .repeat' first|simp(disch:=omega) only[dq,simprocAttr]|refine cs ?_ ?_<;>intro h<;>try omega
   refine iE (xs:=xs.take i) (ys:=ys) ?_ ?_ u ?_ ?_ rfl ?_ ?_ λw H P hb t=>?_
   .exact sT
   .exact sT
   .exact sT
   .simp only[da];intro l y;cases y
   .rw[aF];omega
   .simp only[da];intro e;cases e
   revert hb t
   simp only[da];intro hb t;have y:=P.len;rw[show(xs.take i++ys).length=i+ys.length from by rw[ae,aF,dX q]]at y;repeat' first|simp only[gE,simprocAttr,y]|refine cs ?_ ?_<;>intro h<;>try omega|refine ec ?_
   exact⟨nE,w,_,bz sT P.fS,P,hb,λk h=>by rcases t with e|e<;>rw[e]at h<;>cases h;exact .inl rfl;exact .inr (ao _)⟩
  .repeat' first|simp(disch:=omega) only[dq,simprocAttr]|refine cs ?_ ?_<;>intro h<;>try omega
   refine Nu (fD:=E) (m:=ys.length) (ys:=ys) (k:=i) (cells:=b1 (xs.take i)++(b1 (xs.drop i)++rest)) (by simp only[simprocAttr,bh]) sT sT u (by simp only[da];intro l y;cases y) rfl (by rw[dZ,K,aG]) R (by simp only[ae];omega) av λf a b2 b3=>?_;rw[<-L,w7 (by rw[ae];omega)]at a;have hO:=(lG.take za i).append u;have j:(xs.take i++ys).length=i+ys.length:=by rw[ae,aF,dX q]
   have ai:((b1 (xs.drop i)++rest).drop (b1 ys).length).length=(c-(i+ys.length))*7:=by rw[aS,ae,a1,p,Q];omega
   generalize (b1 (xs.drop i)++rest).drop (b1 ys).length=X at a ai;rcases am (i+ys.length) xs.length with aA|aA
   .repeat' first|simp(disch:=omega) only[gE,simprocAttr]|refine cs ?_ ?_<;>intro h<;>try omega|refine ec ?_
    refine Ew (fD:=f) (cells:=b1 (xs.take i)++(b1 ys++X)) (by simp only[simprocAttr,bh]) sT rfl (by rw[a,bl]) (by simp only[ae];omega) λo d d2 d3=>?_;rw[<-aG,show(i+ys.length)*7=(b1 (xs.take i)++b1 ys).length from by rw[ae];omega]at d;have b6:=o6 (zs:=[I 0,I 0,I 0,I 0,I 0,S [],V.aP]) (sz:=7) rfl (xs.length-(i+ys.length));have e2:=w7 (A:=b1 (xs.take i)++b1 ys) (W:=kl (xs.length-(i+ys.length)) [I 0,I 0,I 0,I 0,I 0,S [],V.aP]) (D:=X) av;rw[show aO (b1 (xs.take i)++b1 ys++X) (b1 (xs.take i)++b1 ys).length (kl (xs.length-(i+ys.length)) [V.int IntKind.i64 0,V.int IntKind.i64 0,V.int IntKind.i64 0,V.int IntKind.i64 0,V.int IntKind.i64 0,V.str [],V.aP])=_ from e2,a,nn]at d;repeat' simp only[gE,simprocAttr]
    refine⟨nE,.ms 7 id 0 (i+ys.length) c,_,bz sT rfl,gh.mk hO (by rw[d3,b3];exact dV) (by rw[d,bl,fU]) av ?_ _ j.symm,bt.HO d (by rw[d2,b2]) (by rw[d3,b3]),λk h=>.inl h⟩;rw[ae,aS,j];omega
   .repeat' first|refine k9 ?_|refine cs ?_ ?_<;>intro h<;>try omega|refine ec ?_
    exact⟨nE,.ms 7 id 0 (i+ys.length) c,_,bz sT rfl,gh.mk hO (by rw[b3];exact dV) (by rw[a,bl,fU,aG]) av (by rw[ai,j]) _ j.symm,bt.HO a b2 b3,λk h=>.inl h⟩
 have hO:=((lG.take za i).append u).append (lG.drop za (i+n));have j:(xs.take i++ys++xs.drop (i+n)).length=i+ys.length+(xs.length-(i+n)):=by rw[ae,ae,aF,dX q,aS]
 have aB:((i:Int)+ys.length).toNat*7=(b1 (xs.take i)++b1 ys).length:=by rw[ae];omega
 rcases am c (i+ys.length+(xs.length-(i+n)))with R|R
 .repeat' first|simp(disch:=omega) only[dq,simprocAttr]|refine cs ?_ ?_<;>intro h<;>try omega
  refine Jl (fD:=E) (m:=ys.length+(xs.length-(i+n))) (k:=i) (xs:=xs.take i) (rest:=b1 (xs.drop i)++rest) (by simp only[simprocAttr,bh]) sT (by rw[aF];omega) (lG.take za i) (by simp only[da];(congr 1;omega)) (by rw[dZ,K,aG]) av av av λf aC b5 a b2 b3=>?_;generalize a4:kl (ys.length+(xs.length-(i+n))) [I 0,I 0,I 0,I 0,I 0,S [],V.aP]++kl (aC-(i+(ys.length+(xs.length-(i+n))))) [I 0,I 0,I 0,I 0,I 0,S [],V.aP]=Z;have b7:Z.length=(aC-i)*7:=by rw[<-a4,ae,o6 rfl,o6 rfl,<-dK];congr 1;omega
  rw[aG,a4]at a;repeat' simp(disch:=omega) only[gE,simprocAttr]
  refine sO (fD:=f) (m:=ys.length) (src:=b1 ys) (cells:=b1 (xs.take i)++Z) (by simp only[simprocAttr,bh]) sT sT Q (by rw[a,bl]) av (by rw[ae];omega) λo d d2 d3=>?_;rw[<-L,w7 av,a,nn]at d;have a5:id≠E.Y:=cr dV;have ab:o.cells id ((i+n)*7) ((xs.length-(i+n))*7)=some (b1 (xs.drop (i+n))):=by
   rw[<-ci];unfold aJ.cells;rw[d,bE _ _ a5]
  repeat' simp(disch:=omega) only[gE,simprocAttr]
  refine sO (fD:=o) (m:=xs.length-(i+n)) (src:=b1 (xs.drop (i+n))) (cells:=b1 (xs.take i)++(b1 ys++Z.drop (b1 ys).length)) (by simp only[simprocAttr,bh]) sT (by simp only[da];simp only[qs,bQ,ab,bG]) N (by rw[d,bl]) av (by simp only[ae,aS];omega) λac e1 e2 e3=>?_;rw[aB,<-aG,w7 (by rw[aS];omega),d,nn]at e1;repeat' simp only[gE,simprocAttr]
  have hM:gh 7 ac (.ms 7 E.Y 0 (i+(ys.length+(xs.length-(i+n)))) aC) (xs.take i++ys++xs.drop (i+n)):=
   gh.mk (rest:=(Z.drop (b1 ys).length).drop (b1 (xs.drop (i+n))).length) hO (by rw[e3,d3,b3];exact dm _) (by rw[e1,bl];simp only[fU,aG])
    (by rw[j];omega) (by rw[j];simp only[aS];omega) _ (by rw[j];omega)
  exact Xy
 have ad:b1 xs++rest=b1 (xs.take i)++(b1 (xs.drop i)++rest):=by rw[K,aG]
 rcases am n ys.length with aA|aA
 .repeat' first|simp(disch:=omega) only[dq,simprocAttr]|refine cs ?_ ?_<;>intro h<;>try omega
  refine Tq (by simp only[da];exact .inr (.inr ⟨dt,a2⟩)) ?_;repeat' simp(disch:=omega) only[gE,simprocAttr]
  refine sO (fD:=E) (m:=xs.length-(i+n)) (src:=b1 (xs.drop (i+n))) (cells:=b1 (xs.take i)++(b1 (xs.drop i)++rest)) (by simp only[simprocAttr,bh]) sT (by simp only[da];simp only[qs,bQ,ci,bG]) N (by rw[dZ,ad]) av (by simp only[ae];omega) λf a b2 b3=>?_;rw[aB,ae]at a;repeat' simp(disch:=omega) only[gE,simprocAttr]
  refine sO (fD:=f) (m:=ys.length) (src:=b1 ys) (by simp only[simprocAttr,bh]) sT sT Q (by rw[a,bl]) av ?_ λo d d2 d3=>?_
  .exact Ya
  rw[<-L,YU (by rw[ae];omega),a,nn]at d;repeat' simp only[gE,simprocAttr]
  refine⟨nE,.ms 7 id 0 ((((i-0:Nat):Int)+ys.length+(xs.length-(i+n):Nat)).toNat-0) (c-0),_,bz sT rfl,gh.mk (rest:=(b1 (xs.drop i)++rest).drop ((b1 ys).length+(b1 (xs.drop (i+n))).length)) hO (by rw[d3,b3];exact dV) (by rw[d,bl];simp only[fU,aG]) av ?_ _ av,bt.HO d (by rw[d2,b2]) (by rw[d3,b3]),λk h=>.inl h⟩;rw[j,aS,ae];omega
 .repeat' first|simp(disch:=omega) only[dq,simprocAttr]|refine cs ?_ ?_<;>intro h<;>try omega
  refine sO (fD:=E) (m:=ys.length) (src:=b1 ys) (cells:=b1 (xs.take i)++(b1 (xs.drop i)++rest)) (by simp only[simprocAttr,bh]) sT sT Q (by rw[dZ,ad]) av (by simp only[ae];omega) λf a b2 b3=>?_;rw[<-L,w7 (by simp only[ae];omega),fd,aG,i0 av]at a;have br:f.box id=some ((b1 (xs.take i)++(b1 ys++(b1 ((xs.drop i).take n)).drop (b1 ys).length))++(b1 (xs.drop (i+n))++rest)):=by rw[a,bl];simp only[aG]
  have ab:=r9 br;rw[show(b1 (xs.take i)++(b1 ys++(b1 ((xs.drop i).take n)).drop (b1 ys).length)).length=(i+n)*7 from by simp only[ae,aS];omega,N]at ab;repeat' simp(disch:=omega) only[gE,simprocAttr]
  refine sO (fD:=f) (m:=xs.length-(i+n)) (src:=b1 (xs.drop (i+n))) (cells:=(b1 (xs.take i)++b1 ys)++((b1 ((xs.drop i).take n)).drop (b1 ys).length++(b1 (xs.drop (i+n))++rest))) (by simp only[simprocAttr,bh]) sT (by simp only[da];simp only[qs,bQ,ab,bG]) N (by rw[a,bl,aG]) av (by simp only[ae,aS];omega) λo d d2 d3=>?_;rw[aB,w7 (by simp only[ae,aS];omega),a,nn]at d;generalize hX:((b1 ((xs.drop i).take n)).drop (b1 ys).length++(b1 (xs.drop (i+n))++rest)).drop (b1 (xs.drop (i+n))).length=X at d;have ai:X.length=(c-(i+ys.length+(xs.length-(i+n))))*7:=by rw[<-hX];simp only[ae,aS];omega
  repeat' simp(disch:=omega) only[gE,simprocAttr]
  have bs:(((i-0:Nat):Int)+ys.length+(xs.length-(i+n):Nat)).toNat=i+ys.length+(xs.length-(i+n)):=av;refine Ew (fD:=o) (cells:=b1 (xs.take i)++b1 ys++(b1 (xs.drop (i+n))++X)) (by simp only[simprocAttr,bh]) sT rfl (by rw[d,bl]) (by simp only[ae];omega) λac aD bu a6=>?_;have ca:=o6 (zs:=[V.int IntKind.i64 0,V.int IntKind.i64 0,V.int IntKind.i64 0,V.int IntKind.i64 0,V.int IntKind.i64 0,V.str [],V.aP]) (sz:=7) rfl (xs.length-(i+ys.length+(xs.length-(i+n))));have bv:aO (b1 (xs.take i)++b1 ys++b1 (xs.drop (i+n))++X) (b1 (xs.take i)++b1 ys++b1 (xs.drop (i+n))).length (kl (xs.length-(i+ys.length+(xs.length-(i+n)))) [V.int IntKind.i64 0,V.int IntKind.i64 0,V.int IntKind.i64 0,V.int IntKind.i64 0,V.int IntKind.i64 0,V.str [],V.aP])=_:=w7 av;rw[bs,show(i+ys.length+(xs.length-(i+n)))*7=(b1 (xs.take i)++b1 ys++b1 (xs.drop (i+n))).length from by simp only[ae];omega,<-aG,bv,d,nn]at aD;repeat' simp only[gE,simprocAttr]
  refine⟨nE,.ms 7 id 0 ((((i-0:Nat):Int)+ys.length+(xs.length-(i+n):Nat)).toNat-0) (c-0),_,bz sT rfl,gh.mk hO (by rw[a6,d3,b3];exact dV) (by rw[aD,bl,fU,fU]) av ?_ _ av,bt.HO aD (by rw[bu,d2,b2]) (by rw[a6,d3,b3]),λk h=>.inl h⟩;rw[j,ae,aS];omega
def Bp{q:Nat}(h:q<18446744073709551616):(BitVec.ofInt 64 18446744073709551615 ^^^ BitVec.ofInt 64 (q:Int)).toNat=18446744073709551615-q:=by
 have e:BitVec.ofInt 64 18446744073709551615=BitVec.allOnes 64:=dt;rw[e,BitVec.allOnes_xor,BitVec.toNat_not,jj];omega
def Lc{q:Nat}(h:q<256):(BitVec.ofInt 8 (q:Int) ^^^ BitVec.ofInt 8 255).toNat=255-q:=by
 have e:BitVec.ofInt 8 255=BitVec.allOnes 8:=dt;rw[e,BitVec.xor_allOnes,BitVec.toNat_not,jj];omega
def Ld{q:Nat}(h:q<256):(BitVec.ofInt 8 (q:Int) ^^^ BitVec.ofInt 8 0).toNat=q:=by
 have e:BitVec.ofInt 8 0=0#8:=dt;rw[e,BitVec.xor_zero,jj];omega
def F0{q:Nat}(h:q<256)(b:Prop)[Decidable b]:IntKind.u8.wrap ((BitVec.ofInt IntKind.u8.bits (q:Int) ^^^ BitVec.ofInt IntKind.u8.bits (if b then 255 else 0)).toNat:Int)=if b then 255-(q:Int)else q:=by
 by_cases hb:b
 .rw[ax hb,ax hb];have:=Lc h;rw[show(BitVec.ofInt IntKind.u8.bits (q:Int) ^^^ BitVec.ofInt IntKind.u8.bits 255).toNat=255-q from this,wrap_u8 av av];omega
 .rw[an hb,an hb];have:=Ld h;rw[show(BitVec.ofInt IntKind.u8.bits (q:Int) ^^^ BitVec.ofInt IntKind.u8.bits 0).toNat=q from this,wrap_u8 av av]
def Dv(q:Nat):IntKind.u8.wrap (q:Int)=((q%256:Nat):Int):=by
 show(let m:=(q:Int)%(2^8:Int);if false&&decide (m>=(2^7:Int))then m-(2^8:Int)else m)=_;exact Ui
def qn{n:Int}(a:0<=n)(h2:n<=18446744073709551615):IntKind.wrap .u64 n=n:=by
 show(let m:=n%(2^64:Int);if false&&decide (m>=(2^63:Int))then m-(2^64:Int)else m)=n;exact Ui
def H4{n:Int}(a:n<0)(h2: -18446744073709551616<=n):IntKind.wrap .u64 n=n+18446744073709551616:=by
 show(let m:=n%(2^64:Int);if false&&decide (m>=(2^63:Int))then m-(2^64:Int)else m)=_;exact Ui
def Zf{n:Int}(h:n<0)(f: -9223372036854775808<=n):IntKind.u64.wrap ((BitVec.ofInt IntKind.u64.bits (if IntKind.u64.signed=true then -1 else IntKind.u64.max) ^^^ BitVec.ofInt IntKind.u64.bits (IntKind.u64.wrap n)).toNat:Int)=jm n:=by
 obtain⟨q,rfl⟩:∃q:Nat,n=(q:Int)-18446744073709551616:=⟨(n+18446744073709551616).toNat,av⟩;have a:q<18446744073709551616:=av;rw[H4 h av];have e:=Bp a;have d:((q:Int)-18446744073709551616+18446744073709551616)=q:=av;rw[d,show(BitVec.ofInt IntKind.u64.bits (if IntKind.u64.signed=true then -1 else IntKind.u64.max) ^^^ BitVec.ofInt IntKind.u64.bits (q:Int)).toNat=18446744073709551615-q from e,qn av av];unfold jm;rw[ax h];omega
def Bq:∀(m i:Nat)(h:i< (iZ m).length),(iZ m)[i]=m/256^i%256:=by
 intro m;induction m using Nat.strongRecOn with
 |_ m ih=>
  intro i h;by_cases a:m=0
  .subst a;simp[vb]at h
  .have e:=uz a;cases i with
   |zero=>simp[e]
   |succ i=>
    have d:i< (iZ (m/256)).length:=by rw[e]at h;simpa using h
    have:=ih (m/256) av i d;simp only[e,cN,this,kK,n5,jU]
def JB{k m:Nat}(h:256^k<=m):k< (iZ m).length:=by
 induction k generalizing m with
 |zero=>rw[uz (by simpa using oO.1 h)];simp
 |succ k ih=>
  have a:m≠0:=by have:=rr (n:=k+1) (show 0<256 by omega);omega
  rw[uz a,aM];have:256^k<=m/256:=by rw[Nat.le_div_iff_mul_le av,<-n5];exact h
  have:=ih this;omega
def F1(m i:Nat)(f:i<8):(m:Int).fdiv (2^min (8*(i:Int)).toNat IntKind.u64.bits)=((m/256^i:Nat):Int):=by
 have e:min (8*(i:Int)).toNat IntKind.u64.bits=8*i:=by
  show min (8*(i:Int)).toNat 64=_;omega
 have a:(2 ^(8*i):Int)=((256^i:Nat):Int):=by
  have d:(2 ^(8*i):Nat)=256^i:=by rw[Nat.pow_mul]
  rw[<-d];norm_cast
 rw[e,a,<-Int.ofNat_fdiv]
def JC{k m:Nat}(h:m<256^k)(a:k=0\/256 ^(k-1)<=m):(iZ m).length=k:=by
 have d:=r8 k m h;rcases a with rfl|a
 .omega
 .have:=JB a;omega
def Q8{n:Int}{m:Nat}(a:jm n=m)(f:(iZ m).length<=8):V.sl 1 (.int .u8 (if n<0 then 127-(iZ m).length else 128+(iZ m).length)::((iZ m).reverse.map λd:Nat=>V.int .u8 (if n<0 then 255-d else d)))=df (cB n):=by
 have l5:∀d∈(iZ m).reverse,d<256:=λd hd=>Qk m d (List.mem_reverse.1 hd);simp only[df,cB,a];exact aaD
def Zg:CF GL f161 [46] [] 161:=ji
def sV(n:Int)(h:jv n):af 161 [I n] (df (cB n)) true:=by
 obtain⟨u,q⟩:=h;refine pq Zg.ok rfl (by simp only[du]) ?_;simp only[dq,simprocAttr];refine A5 (D:=[3,4,10,11,12,13]) (bL:=[]) (λm:Nat=>m=jm n) (λm=>[(3,.int .u64 m,false),(4,.int .u8 (if n<0 then 255 else 0),false)]) rfl rfl (λ_=>rfl) ?_ rfl ?_
 .repeat' first|simp(disch:=omega) only[dq,simprocAttr]|refine cs ?_ ?_<;>intro h|(refine⟨jm n,⟨?_⟩,?_⟩;rotate_left;focus (simp only[fQ,fM,bK,cF];and_intros;all_goals(try(simp only[mS,simprocAttr]));all_goals(try(first|with_reducible exact .refl _|(intro h;cases h;done)|((repeat with_reducible (first|exact Kept.refl _|refine ez ?_|refine eJ ?_));done)))))
  all_goals first|exact aj (ar (V.int .u64) (Zf h u))|(refine aj (ar (V.int .u64) ?_);rw[qn h av];unfold jm;rw[an av];omega)
 rintro m hm;have hb:m<256^8:=by subst hm;unfold jm;split<;>omega
 have y:(iZ m).length<=8:=r8 8 m hb;have H:∀k:Nat,k< (iZ m).length->(iZ m)[k]?=some (m/256^k%256):=λk l=>by rw[aa l,Bq]
 repeat' simp only[dq,simprocAttr]
 refine A5 (D:=[5,14,15,16,17,18,19,20,21,22,23]) (bL:=[]) (λ_:Unit=>True) (λ_=>[(5,I (iZ m).length,false)]) rfl rfl (λ_=>rfl) ?_ rfl ?_
 .repeat' simp only[dq,simprocAttr]
  refine sl (λk:Nat=>k<=8/\m<256^k) (λk=>[(5,I k,false)]) (λk=>k) (8) (⟨av,hb⟩) ?_;rintro k ⟨l,j⟩;rcases k with _|k
  .repeat any_goals first|simp only[dq,simprocAttr]|refine bY ?_ ?_<;>intro h<;>(try simp only[h])<;>try simp only[jc]at h|(refine⟨(),⟨?_⟩,?_⟩;rotate_left;focus (simp only[fQ,fM,bK,cF];and_intros;all_goals(try(simp only[mS,simprocAttr]));all_goals(try(first|(intro h;cases h;done)|((repeat with_reducible (first|exact Kept.refl _|refine ez ?_|refine dT ?_));done)))))
   all_goals exact aj (ar I (by rw[JC j (.inl rfl)]<;>rfl))
  have o:((k+1:Nat):Int)-1=(k:Int):=av;have p:=F1 m k av;repeat' first|simp(disch:=omega) only[dq,simprocAttr,o,p]|refine cs ?_ ?_<;>intro h<;>try omega|refine ba k ?_|(refine⟨(),⟨?_⟩,?_⟩;rotate_left;focus (simp only[fQ,fM,bK,cF];and_intros;all_goals(try(simp only[mS]));all_goals(try(first|(intro h;cases h;done)|((repeat with_reducible (first|exact Kept.refl _|refine ez ?_|refine dT ?_));done)))))
  .have r:0<m/256^k:=av;have q:256^k<=m:=by
    rcases am m (256^k)with a|a
    .rw[lx a]at r;omega
    .exact a
   exact aj (ar I (by rw[JC j (.inr q)]))
  .have r:m/256^k=0:=rq.1 (by exact_mod_cast h);refine⟨av,?_⟩;rcases am m (256^k)with a|a
   .exact a
   .have:=Nat.div_pos a (rr av);omega
 rintro - -
 have z:IntKind.u8.wrap ((BitVec.ofInt IntKind.u8.bits (128+((iZ m).length:Int)) ^^^ BitVec.ofInt IntKind.u8.bits (if n<0 then 255 else 0)).toNat:Int)=if n<0 then 127-((iZ m).length:Int)else 128+(iZ m).length:=by
  rw[show(128+((iZ m).length:Int))=((128+(iZ m).length:Nat):Int)by omega,F0 (by omega)];rcases Decidable.em (n<0)with f|f
  .rw[ax f,ax f];omega
  .rw[an f,an f]
 repeat' simp(disch:=omega) only[dq,simprocAttr]
 refine nw (D:=[6,7,32,33,34,35,36,37,38,39,40,41,42,43,44,45]) (bL:=[]) (λk:Nat=>k<=(iZ m).length) (λk=>[(7,I (k-1),false),(6,.sl 1 (.int .u8 (if n<0 then 127-(iZ m).length else 128+(iZ m).length)::((iZ m).drop k).reverse.map λd:Nat=>.int .u8 (if n<0 then 255-d else d)),true)]) (λk=>k) ((iZ m).length) rfl rfl rfl (λ_=>rfl) (ao _) ?_ ?_ ?_;(·((simp only[ft,simprocAttr];and_intros<;>try first|exact .aP _|omega));all_goals((refine aj ?_;rw[je,z];rfl)));(·((simp only[fM];and_intros)));rintro k l;rcases k with _|k
 .repeat' first|simp(disch:=omega) only[dq,simprocAttr]|refine bY ?_ ?_<;>intro h<;>(try simp only[h])<;>try simp only[jc]at h|apply rN rfl rfl rfl
  exact aj (Q8 hm.symm y)
 have o:((k+1:Nat):Int)-1=(k:Int):=av;have p:=F1 m k av;repeat' first|simp(disch:=try exact om) only[dq,simprocAttr,o,p,Dv]|refine cs ?_ ?_<;>intro h<;>try omega|(refine⟨k,⟨?_⟩,⟨av⟩,?_⟩;rotate_left;focus (simp only[ft,simprocAttr];try omega))
 .refine aj ?_;have t:k< (iZ m).length:=av;rw[bI t,Bq];simp only[List.reverse_cons,aE,bw,cV,aZ];rw[<-Dv,F0 (eG _ av)]
 .omega
def JD(s:T)(h:s.length<=1000000000):af 199 [S s] (df (dD s)) true:=by
 have:=gx s.length (by unfold jv;omega);refine pk f199 ?_;repeat' first|simp(disch:=try exact om) only[dq,simprocAttr,df]|refine lq (sV s.length (by unfold jv;omega)) ?_|apply rN rfl rfl rfl
 exact aj (by simp only[dD,aE])
def rj(l:List Int)(h:l.length<=10000000)(a:∀n∈l,jv n):af 158 [fx l] (df (cZ l)) true:=by
 have:=gx l.length (by unfold jv;omega);refine pk f158 ?_ [20];repeat' first|simp only[dq,simprocAttr,fx,df]|refine lq (sV l.length (by unfold jv;omega)) ?_
 refine sl (λk:Nat=>k<=l.length) (λk=>[(11,I k,false),(3,df (cB l.length++(l.take k).flatMap cB),true)]) (λk=>l.length-k) (0) (aL _) ?_;rintro k f;have d:((l.take k).flatMap cB).length<=9*(l.take k).length:=lc _ _ _ λx hx=>gx x (a x (eE hx));rw[aF]at d;rcases am k l.length with Ua|Ua
 .have j:=gx l[k] (a _ (ah _));repeat' first|simp(disch:=try exact om) only[dq,simprocAttr,df]|refine cs ?_ ?_<;>intro h<;>try omega|(refine⟨k+1,⟨?_⟩,⟨av⟩,?_⟩;rotate_left;focus (simp only[ft,simprocAttr];and_intros<;>try first|exact .aP _|omega))|refine lq (sV l[k] (a _ (ah _))) ?_
  .exact aj (by rw[sK _ Ua];simp)
  .omega
 .exact XD
def zT(l:List T)(h:l.length<=100000)(hr:∀s∈l,s.length<=8192):af 159 [e9 l] (df (g2 l)) true:=by
 have:=gx l.length (by unfold jv;omega);refine pk f159 ?_ [20];repeat' first|simp only[dq,simprocAttr,e9,df]|refine lq (sV l.length (by unfold jv;omega)) ?_
 refine sl (λk:Nat=>k<=l.length) (λk=>[(11,I k,false),(3,df (cB l.length++(l.take k).flatMap dD),true)]) (λk=>l.length-k) (0) (aL _) ?_;rintro k d;have a:((l.take k).flatMap dD).length<=8201*(l.take k).length:=lc _ _ _ λx hx=>by
  exact XY
 rw[aF]at a;rcases am k l.length with Ua|Ua
 .have f:=hr _ (ah Ua);have j:=mD l[k] av;repeat' first|simp(disch:=try exact om) only[dq,simprocAttr,df]|refine cs ?_ ?_<;>intro h<;>try omega|(refine⟨k+1,⟨?_⟩,⟨av⟩,?_⟩;rotate_left;focus (simp only[ft,simprocAttr];and_intros<;>try first|exact .aP _|omega))|refine lq (JD l[k] av) ?_
  .exact aj (by rw[sK _ Ua];simp)
  .omega
 .exact XD
def jl(l:List (Int×Int)):List Int:=l.flatMap λa=>[a.1,a.2]
def qQ(l:List (Int×Int)):(jl l).length=2*l.length:=by
 induction l with
 |nil=>rfl
 |cons a r ih=>simp only[jl,cf,ae,aM,aT]at ih ⊢;omega
def Op.enc(o:Op):Prop:=(jv o.kind/\jv o.W.J/\jv o.W.seq/\jv o.W.k/\jv o.to.J/\jv o.to.seq/\jv o.to.k/\jv o.spot.i9/\jv o.spot.k3/\jv o.spot.idx/\jv o.n/\jv o.eB/\jv o.eh)/\
 o.bW.length<=8192/\o.F.length<=10000/\(∀t∈o.F,t.length<=8192)/\o.cX.length<=100000/\(∀n∈jl o.cX,jv n)/\o.C.length<=100000/\∀n∈lf o.C,jv n
def Op.head(o:Op):List Int:=[o.kind,o.W.J,o.W.seq,o.W.k,o.to.J,o.to.seq,o.to.k,o.spot.i9,o.spot.k3,o.spot.idx,o.n,o.eB,o.eh]
def oQ(o:Op):T:=cZ o.head++(dD o.bW++(g2 o.F++(cZ (jl o.cX)++cZ (lf o.C))))
def fN(l:List Int)(h:l.length<=10000000)(a:∀n∈l,jv n):(cZ l).length<=9+9*l.length:=by
 have d:=gx l.length (by unfold jv;omega);have f:=lc cB 9 l λx hx=>gx x (a x hx);simp only[cZ,ae];omega
def lg(l:List T)(h:l.length<=10000)(a:∀s∈l,s.length<=8192):(g2 l).length<=9+8201*l.length:=by
 have d:=gx l.length (by unfold jv;omega);have f:=lc dD 8201 l λx hx=>by have:=a x hx;have:=mD x av;omega
 simp only[g2,ae];omega
def fin2{s:St}{t t2 n:Nat}{ag:Bool}{a u:V}{k:Int}{fz:ak}{f:aJ}(h:dw s (.load ag n (.tmp t))=some a)(q:a.dW=false)(h2:s.Z t2=I k)(r:jD fz s.E f)(y:V.lM fz a u):
 (∀id,Ex.ret≠.exit id)/\∃v bL fz f v' l,BF.result s [.cell t ag n,.tmp t2]=some (v,bL)/\jD fz s.E f/\V.lM fz v v'/\(l=true->(bL=true/\(Po fz v\/v'=v))\/v=.aP)/\v'=.hE [u,I k]/\l=false:=by
 refine⟨nE,.hE [a,I k],false,fz,f,.hE [u,I k],false,by simp only[BF.result,BR.p2,BR.get,h,h2];rw[an (by rw[q];exact ky)];rfl,r,.hE _ _ rfl λj c d o p=>?_,λh=>(by cases h),rfl,rfl⟩
 match j with
 |0=>cases o;cases p;exact y
 |1=>cases o;cases p;exact .refl _
 |j+2=>cases o
def Dw{h:aJ}{a:V}{l:List eQ}{X:List Nat}(T:b9 1 RV h a l X):V.lM (oE h X) (.agg [a]) (cm.v ⟨l⟩):=Tt (T.mono λ_ _ _=>RV.weak)
def Zh:CF GL f190 [19,51] [1] 190:=ji
def EL{w:cm}{s:fW}(h:k5 w s=true):s.i9=s.i9.toNat/\s.k3=s.k3.toNat/\∃a:s.i9.toNat<w.O.length,s.k3.toNat< (w.O[s.i9.toNat]).O.length:=by
 simp only[k5,aX,cy,vE,ml]at h;obtain⟨a,x,d⟩:=h;obtain⟨y,f,j⟩:=mK.1 d;obtain⟨l,rfl⟩:=aH.1 f;obtain⟨o,rfl⟩:=aH.1 j;exact⟨av,av,l,o⟩
def G9(w:cm)(v:Nat)(x:ee):cm:=⟨w.O.set v ⟨(w.O.getD v ⟨[]⟩).O++[x]⟩⟩
def mI(w:cm)(o:Op)(b:Name):cm×Int:=
 if o.kind=0 then(⟨w.O++[⟨[]⟩]⟩,0)
 else if o.kind=1 then(if 0<=o.spot.i9/\o.spot.i9<w.O.length then(G9 w o.spot.i9.toNat ⟨o.bW,[]⟩,0)else(w,6))
 else if k5 w o.spot=true then x6 w o.spot.i9.toNat o.spot.k3.toNat o.spot.idx (k6 b 0 ⟨⟨0,0,0⟩,o.eB,o.eh,[],[]⟩ o.bW o.C)else(w,6)
def Q9(w:cm)(r:w.ok)(o:Op)(br:o.ok)(b:Name):af 190 [w.v,o.v,b.v] (mw (mI w o b)):=by
 have bs:=EE w r;have u:=Jr w o.spot r;have a0:=r;obtain⟨bu,bv,dg⟩:=a0;unfold mw;refine Pure.gg (by simp only[du]) (by simp only[du]) (eU hm Zh.ok (bF rfl) ?_);repeat' simp only[dq,simprocAttr,Op.v,Op.c]
 refine bm (h0:=aJ.bare) ?_ bs ?_ ?_ ?_
 .exact sT
 .rfl
 .refine nG ?_;simp only[dL]<;>rfl
 rintro dp bL R ⟨X,⟨bU,rfl,T⟩,D⟩;have y:=T.one;unfold mI;by_cases ai:o.kind=0
 .rw[ax ai];repeat' simp only[gE,simprocAttr,y,ai]
  refine o5 (e:=.agg [.aP]) (fD:=R) (v0:=bU) (a:=(⟨[]⟩:eQ)) (js:=[]) vt qb ?_ ?_ ?_ T rfl ⟨.aP,rfl,b9.nil⟩ (by simpa using D) rfl bu λv p f g1 b2 a1 g4 g5=>?_
  .exact sT
  .simp only[simprocAttr,bh]
  .exact sT
  obtain⟨z,b3⟩:=g1.cells;have H:=g1.one;repeat' simp only[gE,simprocAttr,z,H]
  exact fin2 ev rfl ev (mf _ f) (Dw g1)
 .rw[an ai];by_cases K:o.kind=1
  .rw[ax K];by_cases aA:0<=o.spot.i9/\o.spot.i9<w.O.length
   .rw[ax aA];obtain⟨c5,c6⟩:=aA;obtain⟨v,XP⟩:∃v:Nat,o.spot.i9=v:=⟨o.spot.i9.toNat,av⟩;have Mh:v<w.O.length:=av;obtain⟨l,c7,d,x,js,L,N,b5,a2,b6,ds,dF,⟨a3,rfl,b7⟩,ca,a4,dU,c9,cb,_⟩:=b9.at vt qb T D Mh;have cc:List.drop (v*1+0) d=a3::L:=j1 (j:=0) b6 (aL _);have ch:v*1+0<=d.length:=av;have ci:G9 w o.spot.i9.toNat ⟨o.bW,[]⟩=⟨w.O.set v ⟨w.O[v].O++[⟨o.bW,[]⟩]⟩⟩:=by
     exact XO
    rw[ci];have A:=T.len;have a5:=(bv _ (ah Mh)).1;repeat' first|simp(disch:=omega) only[gE,simprocAttr,K,XP,N,a2,cc,ch]|(first|refine cs ?_ ?_|refine gs ?_ ?_)<;>intro h<;>try omega|refine fg ?_ ?_
    all_goals
     refine o5 (e:=.agg [S o.bW,.aP]) (fD:=R) (v0:=a3) (a:=(⟨o.bW,[]⟩:ee)) (js:=[]) x4 wb ?_ ?_ ?_ b7 rfl ⟨.aP,rfl,b9.nil⟩ (by simpa using ca) rfl a5 λP p f g1 b2 a1 g4 g5=>?_
     .exact sT
     .simp only[simprocAttr,bh]
     .exact sT
     obtain⟨z,b3⟩:=g1.cells;have H:=g1.one;have a6:p.box l=some d:=by rw[g4.box l b5 λe=>a4 (g5 l e)];exact a2
     repeat' simp(disch:=omega) only[gE,simprocAttr]
     all_goals
      refine w5 (n:=1) (cells:=d) ?_ ?_ av λt ab ac ad a7 dd a8=>?_
      .simp only[simprocAttr,bh];exact a6
      .simp only[da];simp[jR,z,H]
      have tb:t.E.box=eR p.box l (some (aO d (v*1) [P])):=by rw[a7];simp only[da,simprocAttr,z,dj]
      have a9:t.E.Y=p.Y:=a8.trans sT;have bi:l∉f:=λhm=>by
       rcases a1 l hm with h|h|h
       .exact a4 h
       .cases h
       .omega
      have bo:b9 2 RA t.E P (w.O[v].O++[⟨o.bW,[]⟩]) f:=b9.qN x4 _ _ _ _ _ g1 (λj Q=>⟨b9.vr wb _ _ _ _ g1 j Q,by rw[tb];exact bE _ _ (λe=>bi (e▸Q))⟩) (c8 a9.symm);obtain⟨aB,cp,_⟩:=cb t.E (.agg [P]) ⟨w.O[v].O++[⟨o.bW,[]⟩]⟩ f (by rw[a9];exact g4.Y) (by rw[tb,bl];rfl) (λj Q aC aD=>by rw[tb,bE _ _ aC];exact g4.box j (b9.vr qb _ _ _ _ T j Q) λe=>aD (g5 j e)) (by simp[jR,V.cells,H]) ⟨P,rfl,bo⟩;repeat' simp only[gE,simprocAttr,ab,ac,ad]
      exact fin2 (by simp only[dL,simprocAttr,ab,ac,ad,bh]<;>rfl) rfl ev (mf _ aB) (by rw[<-N];exact Dw cp)
   .rw[an aA];have A:=T.len;repeat' first|simp only[gE,simprocAttr,y,K,A]|(first|refine cz ?_ ?_|refine gz ?_ ?_)<;>intro c1 h<;>(try simp only[c1])<;>try omega
    all_goals exact fin2 ev rfl ev (.refl _) (.refl _)
  .rw[an K];by_cases q:k5 w o.spot=true
   .rw[ax q];rw[q]at u;obtain⟨N,c2,aC,aD⟩:=EL q;have c3:=xd b 0 ⟨⟨0,0,0⟩,o.eB,o.eh,[],[]⟩ o.bW o.C br.2.2.2.2;have c4:=Jv w r _ _ o.spot.idx (k6 b 0 ⟨⟨0,0,0⟩,o.eB,o.eh,[],[]⟩ o.bW o.C) aC aD;simp only[<-N,<-c2]at c4;unfold mw at c4;repeat' first|simp(disch:=try exact om) only[gE,simprocAttr,y]|refine cs ?_ ?_<;>intro h<;>try omega|refine lq u ?_|(refine iR (c3) ?_ ?_;(·(repeat(first|exact aN.nil|(refine aN.cons (aj ?_) ?_;(simp only[dL]<;>rfl))|(refine aN.cons ?_ ?_;(·(apply nj;(·(simp only[dL]<;>rfl));(·(repeat(first|exact aN.nil|refine aN.cons (.refl _) ?_|refine aN.cons (.aP _) ?_))))))))))|refine lq c4 ?_
    all_goals exact fin2 ev rfl ev (.refl _) (.refl _)
   .rw[an q];rw[show k5 w o.spot=false by simpa using q]at u;repeat' first|simp only[gE,simprocAttr,y]|refine cs ?_ ?_<;>intro h<;>try omega|refine lq u ?_
    all_goals exact fin2 ev rfl ev (.refl _) (.refl _)
def F2{h:aJ}{L:V}{l:List eQ}{X:List Nat}(T:b9 1 RV h L l X)(D:X.Nodup){v a i:Nat}(ab:v<l.length)(ad:a<l[v].O.length)(a5:i<l[v].O[a].O.length):
 ∃N pid P d f,yN h 1 L l.length v (.agg [N])/\yN h 2 N l[v].O.length a (.agg [S l[v].O[a].gO,.ms 7 pid 0 l[v].O[a].O.length P])/\pid<h.Y/\h.box pid=some d/\d.drop (i*7)=(aK.v l[v].O[a].O[i]).cells++f/\(i+1)*7<=d.length/\
  ∀o q,h.Y<=o.Y->o.box pid=some (aO d (i*7) (aK.v q).cells)->(∀j,j<h.Y->j≠pid->o.box j=h.box j)->b9 1 RV o L (l.set v ⟨l[v].O.set a ⟨l[v].O[a].gO,l[v].O[a].O.set i q⟩⟩) X:=by
 have hb:=b9.vr qb _ _ _ _ T;obtain⟨ai,aA,p,x,c2,H,rfl,c5,a6,a7,a8,c6,⟨N,rfl,a9⟩,bi,c7,c9,aB,_,bo⟩:=b9.at vt qb T D ab;obtain⟨aC,ac,r,y,dd,K,rfl,q1,br,bs,bu,dg,⟨dp,rfl,bv⟩,bU,ds,dF,aD,_,b2⟩:=b9.at x4 wb a9 bi ad;obtain⟨pid,P,d,z,ms,f,rfl,b3,b5,b6,b7,dU,⟨rfl,rfl⟩,ea,eb,a0,ed,ca,_⟩:=b9.at K7 NL bv bU a5;refine⟨_,pid,P,d,f,⟨ai,aA,p,H,rfl,ab,a6,a7,a8⟩,⟨aC,ac,r,K,rfl,ad,br,bs,bu⟩,b3,b5,b6,b7,λo q Q cb R=>?_⟩;obtain⟨a1,a2,cc⟩:=ca o (aK.v q) q [] Q cb (λj t u _=>R j (hb j (aB j (aD j t))) u) rfl ⟨rfl,rfl⟩;obtain rfl:=cc rfl;obtain⟨a3,a4,ch⟩:=b2 o ⟨l[v].O[a].gO,l[v].O[a].O.set i q⟩ a1 Q (λj t u=>R j (hb j (aB j t)) λe=>u (e▸a0)) ⟨_,rfl,by simpa using a2⟩;obtain rfl:=ch rfl;obtain⟨ci,cp,c1⟩:=bo o ⟨l[v].O.set a ⟨l[v].O[a].gO,l[v].O[a].O.set i q⟩⟩ a3 Q (λj t u=>R j (hb j t) λe=>u (e▸aD pid a0)) ⟨_,rfl,by simpa using a4⟩;obtain rfl:=c1 rfl;exact cp
def Zi:CF GL f249 [] [1,4,5] 249:=ji
def xh(w:cm)(v a i d f l:Nat):cm:=
 let p:=(gV w v a).O.getD i h8
 let q:=(gV w d f).O.getD l h8
 let j:=k7 w v a ⟨(gV w v a).gO,(gV w v a).O.set i q⟩
 k7 j d f ⟨(gV j d f).gO,(gV j d f).O.set l p⟩
def yb{w:cm}{v a:Nat}{x:ee}(q:v<w.O.length){d f:Nat}(o:d<w.O.length)(j:f<w.O[d].O.length):
 ∃p:d< (k7 w v a x).O.length,∃h2:f< ((k7 w v a x).O[d]).O.length,((k7 w v a x).O[d]).O[f]=if d=v/\f=a then x else w.O[d].O[f]:=by
 rw[qm q];refine⟨by simpa using o,?_⟩;simp only[ns];by_cases e:v=d
 .subst e;refine⟨by simpa using j,?_⟩;simp only[bQ,ns,cF];by_cases l:a=f
  .subst l;simp
  .rw[an l,an (hU l)]
 .refine⟨by rw[an e];exact j,?_⟩;simp only[an e];exact(an (by rintro⟨p,_⟩;exact e p.symm)).symm
def Ra(w:cm)(aD:w.ok)(v a i d f l:Nat)(Q:v<w.O.length)(ac:a<w.O[v].O.length)(a0:i<w.O[v].O[a].O.length)
 (q:d<w.O.length) (u:f<w.O[d].O.length) (SS:l<w.O[d].O[f].O.length):
 af 249 [w.v,fW.v ⟨v,a,i⟩,fW.v ⟨d,f,l⟩] (xh w v a i d f l).v:=by
 have ca:=EE w aD;have cb:=qa w v a ⟨v,a,i⟩ Q ac rfl rfl;have c3:=qa w d f ⟨d,f,l⟩ q u rfl rfl;refine Pure.gg (by simp only[du]) (by simp only[du]) (eU hm Zi.ok (bF rfl) ?_);repeat' simp only[dq,simprocAttr]
 refine bm (h0:=aJ.bare) ?_ ca ?_ ?_ ?_
 .exact sT
 .rfl
 .refine nG ?_;simp only[dL]<;>rfl
 rintro eb bL z ⟨X,⟨a1,rfl,T⟩,D⟩;have a6:=T.one;obtain⟨cc,pid,ed,p,b7,ch,ci,g1,cp,el,g4,g5⟩:=F2 T D Q ac a0;have c4:=NM z a1 cc _ _ _ _ v a ⟨v,a,i⟩ ch ci rfl rfl rfl;repeat' first|simp(disch:=try exact om) only[gE,simprocAttr,a6]|refine lq cb ?_|refine lq c3 ?_|refine fg ?_ ?_
 all_goals
  refine bm (h0:=z) ?_ c4 ?_ ?_ ?_
  .simp only[simprocAttr,bh]
  .simp only[bN,ce,pU,bh];rfl
  .exact T3
  rintro r c1 c2 ⟨a2,a3⟩;subst a2;obtain rfl:=a3.symm;repeat' simp(disch:=omega) only[gE,simprocAttr,a0]
  refine w5 (n:=7) (cells:=p) ?_ ?_ av λt H K L a7 dp a8=>?_
  .simp only[simprocAttr,bh];exact cp
  .exact sT
  have tb:t.E.box=eR z.box pid (some (aO p (i*7) (aK.v w.O[d].O[f].O[l]).cells)):=a7.trans sT;have a9:t.E.Y=z.Y:=a8.trans sT;have ad:=g5 t.E w.O[d].O[f].O[l] (c8 a9.symm) (by rw[tb,bl]) (λj c5 R=>by rw[tb];exact bE _ _ R);generalize bi:t.E=N at ad tb a9;obtain⟨W,a4⟩:∃W,W=k7 w v a ⟨w.O[v].O[a].gO,w.O[v].O[a].O.set i w.O[d].O[f].O[l]⟩:=⟨_,rfl⟩;have bo:W.O=w.O.set v ⟨w.O[v].O.set a ⟨w.O[v].O[a].gO,w.O[v].O[a].O.set i w.O[d].O[f].O[l]⟩⟩:=by rw[a4,qm Q]
  rw[<-bo]at ad;obtain⟨P,ab,XX⟩:=yb (x:=⟨w.O[v].O[a].gO,w.O[v].O[a].O.set i w.O[d].O[f].O[l]⟩) (a:=a) Q q u;simp only[<-a4]at P ab XX;have ai:l<W.O[d].O[f].O.length:=by
   exact S2
  have hlen:W.O[d].O[f].O.length<=1000000:=by
   rw[XX];split
   .simpa using ((aD.2.1 _ (ah Q)).2 _ (ah ac)).2.1
   .exact((aD.2.1 _ (ah q)).2 _ (ah u)).2.1
  have et:=ad.one;obtain⟨br,a5,ds,o,bs,bu,bv,dF,bU,dU,g4',b2⟩:=F2 ad D P ab ai;have c6:=NM N a1 br _ _ _ _ d f ⟨d,f,l⟩ bu bv rfl rfl rfl;repeat' first|simp only[gE,simprocAttr,H,K,L]|refine fg ?_ ?_
  all_goals
   refine bm (h0:=N) ?_ c6 ?_ ?_ ?_
   .simp only[simprocAttr,bh,bi]
   .simp only[bN,ce,pU];rfl
   .exact T3
   rintro r c7 c2 ⟨a2,a3⟩;subst a2;obtain rfl:=a3.symm;repeat' simp(disch:=omega) only[gE,simprocAttr,H,K,L,ai]
   refine w5 (n:=7) (cells:=o) ?_ ?_ av λy aA aB aC b3 ea b5=>?_
   .simp only[simprocAttr,bh];exact bU
   .exact sT
   have b6:y.E.box=eR N.box a5 (some (aO o (l*7) (aK.v w.O[v].O[a].O[i]).cells)):=b3.trans sT;have c9:y.E.Y=N.Y:=b5.trans sT;have dd:=b2 y.E w.O[v].O[a].O[i] (c8 c9.symm) (by rw[b6,bl]) (λj c5 R=>by rw[b6];exact bE _ _ R);have dg:xh w v a i d f l=⟨W.O.set d ⟨W.O[d].O.set f ⟨W.O[d].O[f].gO,W.O[d].O[f].O.set l w.O[v].O[a].O[i]⟩⟩⟩:=by
    simp only[xh,fF Q ac,fF q u,ap,aa a0,aa SS,bf,<-a4];rw[fF P ab,qm P]
   rw[dg];repeat' simp only[gE,simprocAttr,H,K,L,aA,aB,aC,a6]
   exact⟨nE,.agg [a1],false,oE y.E X,y.E.less X,_,false,eA (by simp only[dL,simprocAttr,H,K,L,aA,aB,aC,bh]<;>rfl) rfl,mf _ _,Dw dd,λh=>(by cases h),rfl,rfl⟩
def U7{m c:Nat}(a:c<256):m<<<8|||c=m*256+c:=by
 have:=Nat.two_pow_add_eq_or_of_lt (i:=8) (b:=c) av m;rw[Nat.shiftLeft_eq,jU,<-this]
def Lf(n:Int)(h:jv n)(r:T):∃k:Nat,k=(iZ (jm n)).length/\k<=8/\(cB n++r).length=1+k+r.length/\(cB n).length=1+k/\jm n<256^k/\jm n<9223372036854775808/\
 (∀h0:0< (cB n++r).length,((cB n++r)[0].toNat:Int)=if n<0 then 127-k else 128+k)/\
 (∀i,i<k->∀p:1+i< (cB n++r).length,((cB n++r)[1+i].toNat:Int)=if n<0 then 255-(jm n/256 ^(k-1-i)%256:Nat)else(jm n/256 ^(k-1-i)%256:Nat))/\
 (0<k->jm n/256 ^(k-1)%256≠0):=by
 obtain⟨p,K⟩:=h;have q:jm n<9223372036854775808:=by unfold jm;split<;>omega
 have t:(iZ (jm n)).length<=8:=r8 8 _ av;have a:jm n<256 ^(iZ (jm n)).length:=by
  rcases am (jm n) (256 ^(iZ (jm n)).length)with h|h
  .exact h
  .exact absurd (JB h) av
 have f:(cB n).length=1+(iZ (jm n)).length:=by unfold cB;split<;>simp<;>omega
 refine⟨_,rfl,t,by rw[ae,f],f,a,q,λh0=>?_,λi u l=>?_,λL=>?_⟩
 .have e:(cB n++r)[0]?=some (UInt8.ofNat (if n<0 then 127-(iZ (jm n)).length else 128+(iZ (jm n)).length)):=by unfold cB;split<;>rfl
  rw[aa h0]at e;rw[au e];split<;>(rw[rM av];try omega)
 .have y:∀j (d:j< (iZ (jm n)).length),(iZ (jm n))[j]?=some (jm n/256^j%256):=λj d=>by rw[aa d,Bq _ _ d]
  have z:=y ((iZ (jm n)).length-1-i) av;have D:jm n/256 ^((iZ (jm n)).length-1-i)%256<256:=eG _ av;have e:(cB n++r)[1+i]?=some (UInt8.ofNat (if n<0 then 255-jm n/256 ^((iZ (jm n)).length-1-i)%256 else jm n/256 ^((iZ (jm n)).length-1-i)%256)):=by
   rw[dI av,Nat.add_comm];unfold cB;split<;>simp only[ey,bB,List.getElem?_reverse u,z,bG]
  rw[aa l]at e;rw[au e];split<;>(rw[rM (by omega)];try omega)
 .have H:256 ^((iZ (jm n)).length-1)<=jm n:=by
   rcases am (jm n) (256 ^((iZ (jm n)).length-1))with h|h
   .have:=r8 _ _ h;omega
   .exact h
  have o:0<256 ^((iZ (jm n)).length-1):=rr av;have N:1<=jm n/256 ^((iZ (jm n)).length-1):=(Nat.one_le_div_iff o).2 H;have P:jm n/256 ^((iZ (jm n)).length-1)<256:=by
   rw[iz o,<-Nat.pow_succ',show((iZ (jm n)).length-1).succ=(iZ (jm n)).length by omega];exact a
  omega
def Rb{q:Nat}(h:q<9223372036854775808):IntKind.i64.wrap (IntKind.u64.wrap ↑(BitVec.ofInt IntKind.u64.bits (if IntKind.u64.signed=true then -1 else IntKind.u64.max) ^^^ BitVec.ofInt IntKind.u64.bits (q:Int)).toNat)= -1-q:=by
 have e:=Bp (q:=q) av;rw[show(BitVec.ofInt IntKind.u64.bits (if IntKind.u64.signed=true then -1 else IntKind.u64.max) ^^^ BitVec.ofInt IntKind.u64.bits (q:Int)).toNat=18446744073709551615-q from e,qn av av];show(let m:=((18446744073709551615-q:Nat):Int)%(2^64:Int);if true&&decide (m>=(2^63:Int))then m-(2^64:Int)else m)=_;simp only[hA,cy];rw[ax av];omega
def U8{q:Nat}(h:q<9223372036854775808):Int.fdiv (q:Int) (2^min 63 IntKind.u64.bits)=0:=by
 rw[show(2^min 63 IntKind.u64.bits:Int)=((9223372036854775808:Nat):Int)by rfl,<-Int.ofNat_fdiv,lx h];rfl
def abd(K:Nat)(L:T):List.take (((K:Int)+1).toNat-1) (List.drop 1 (List.map (λb=>V.int IntKind.u8 b.toNat) L))=List.map (λb=>V.int IntKind.u8 b.toNat) ((L.drop 1).take K):=by
 rw[show((K:Int)+1).toNat-1=K by omega,kt,gC]
def Tu{m c:Nat}(hm:m<72057594037927936)(a:c<256):IntKind.u64.wrap ↑(BitVec.ofInt IntKind.u64.bits (IntKind.u64.wrap ((m:Int)*2^min 8 IntKind.u64.bits))|||BitVec.ofInt IntKind.u64.bits (IntKind.u64.wrap (c:Int))).toNat=((m*256+c:Nat):Int):=by
 have d:((m:Int)*2^min 8 IntKind.u64.bits)=((m*256:Nat):Int):=by
  rw[show(2^min 8 IntKind.u64.bits:Int)=256 by rfl];omega
 rw[d,qn (n:=((m*256:Nat):Int)) av av,qn (n:=(c:Int)) av av];have f:(BitVec.ofInt IntKind.u64.bits ((m*256:Nat):Int)|||BitVec.ofInt IntKind.u64.bits (c:Int)).toNat=m*256+c:=by
  rw[BitVec.toNat_or,jj,jj];rw[show(((m*256:Nat):Int)%((2^IntKind.u64.bits:Nat):Int)).toNat=m*256 by
   show(((m*256:Nat):Int)%((2^64:Nat):Int)).toNat=m*256;omega]
  rw[show((c:Int)%((2^IntKind.u64.bits:Nat):Int)).toNat=c by
   show((c:Int)%((2^64:Nat):Int)).toNat=c;omega]
  have:=U7 (m:=m) a;rw[Nat.shiftLeft_eq]at this;exact this
 rw[f,qn av av]
def Br(q j:Nat):q/256 ^(j+1)*256+q/256^j%256=q/256^j:=by
 rw[n5,<-kK,jU];exact l2 _ _
def F3{q:Nat}(h:q<9223372036854775808)(j:Nat):q/256 ^(j+1)<72057594037927936:=by
 rw[Nat.pow_succ',<-kK];exact pA (Nat.div_le_self _ _) av
def EM(n:Int)(h:jv n)(r:T)(cb:r.length<=1000000000):af 260 [df (cB n++r)] (.hE [I n,I (cB n).length,I 0]):=by
 obtain⟨k,b7,ca,a5,b5,z,a6,g0,N,gt⟩:=Lf n h r;rw[b5];generalize cB n++r=L at*
 have bv:0<L.length:=av;replace g0:=g0 bv;have a7:jm n=(if n<0 then -1-n else n).toNat:=rfl;generalize jm n=q at*
 have P:=abd k L;obtain⟨M,Q⟩:∃M,(L.drop 1).take k=M:=⟨_,rfl⟩;rw[Q]at P;have K:M.length=k:=by rw[<-Q,aF,aS];omega
 have a8:∀i (R:i<k)(bo:i<M.length),M[i]=L[1+i]'av:=λi R bo=>by subst Q;rw[jz,mP]
 have l:=U8 a6;have ab:=Rb a6;by_cases bU:n<0
 .simp only[ax bU]at g0 N a7;have a9: -1-(q:Int)=n:=av;have o:=F0 (q:=127-k) av True;simp only[bQ]at o;obtain⟨H,hH⟩:∃H:Nat,127-k=H:=⟨_,rfl⟩;simp only[hH]at g0 o;have a:255-(H:Int)-128=k:=av;have br:∀D,0<k->255-q/256 ^(k-1)%256=D->¬255-(D:Int)=0:=λD d bo=>by have:=gt d;have:q/256 ^(k-1)%256<256:=eG _ av;omega
  rcases cS k with p|p
  .have ac:q=0:=by rw[p]at z;omega
   have ad:n= -1:=av;subst ad;rw[ac]at ab l;have ai:M=[]:=bJ.1 av;have f:(k:Int)=0:=av;have aA:=P;rw[f,ai]at aA;rw[f]at a;rw[p];have bi:IntKind.i64.wrap 0=0:=rfl;refine pk f260 ?_;repeat' first|simp(disch:=try exact om) only[dq,simprocAttr,g0,a5,o,a]|(first|refine bY ?_ ?_|refine cY ?_ ?_)<;>intro h<;>(try simp only[bO]at h)<;>(try simp only[h])<;>(try simp only[jc]at h)<;>try omega|refine ec ?_
   refine nw (D:=[7,9,48,49,50,51,52,53,54,55,56,57,58,59]) (bL:=[]) (λi:Nat=>i<=0) (λi=>[(48,I i,false),(7,.int .u64 0,false)]) (λi=>0-i) (0) rfl rfl rfl (λ_=>rfl) (ao _) ?_ ?_ ?_;iterate 2 ·(simp only[ft,simprocAttr];try omega)
   rintro i R;obtain rfl:i=0:=av;repeat' first|simp(disch:=omega) only[dq,simprocAttr,show Int.fdiv 0 (2^min 63 IntKind.u64.bits)=0 from rfl]|refine bY ?_ ?_<;>intro h<;>(try simp only[jc]at h)<;>try(exact absurd trivial h)|refine ec ?_|apply G0 rfl rfl rfl rfl rfl rfl
   all_goals exact .refl _
  .have g1:=N 0 av av;have t:=F0 (q:=255-q/256 ^(k-1-0)%256) (by have:q/256 ^(k-1-0)%256<256:=eG _ av;omega) True;simp only[bQ]at t;simp only[dj,ig]at g1 t;obtain⟨D,aB⟩:∃D:Nat,255-q/256 ^(k-1)%256=D:=⟨_,rfl⟩;simp only[aB]at g1 t;have b2:=br D p aB;have b3:IntKind.i64.wrap (q:Int)=q:=wrap_i64 av av;refine pk f260 ?_;repeat' first|simp(disch:=try exact om) only[dq,simprocAttr,g0,g1,a5,o,t,a,P]|(first|refine cz ?_ ?_|refine gz ?_ ?_)<;>intro bs h<;>(try simp only[bs])<;>try omega|refine ec ?_
   refine nw (D:=[7,9,48,49,50,51,52,53,54,55,56,57,58,59]) (bL:=[]) (λi:Nat=>i<=k) (λi=>[(48,I i,false),(7,.int .u64 (q/256 ^(k-i):Nat),false)]) (λi=>k-i) (0) rfl rfl rfl (λ_=>rfl) (aL _) ?_ ?_ ?_;(·((simp only[ft,simprocAttr];try omega));all_goals(exact aj (ar (V.int .u64) (by rw[ig,lx z];rfl))));(·((simp only[fM];and_intros)));rintro i R;rcases am i k with d|d
   .have aC:=N i d av;have aD:q/256 ^(k-1-i)%256<256:=eG _ av;have u:=F0 (q:=255-q/256 ^(k-1-i)%256) av True;simp only[bQ]at u;have y:=a8 i d av;obtain⟨j,bu⟩:∃j,k-1-i=j:=⟨_,rfl⟩;have a0:k-i=j+1:=av;have a1:k-(i+1)=j:=av;have a2:=Br q j;have a3:=F3 a6 j;simp only[bu]at aC aD u;have b6:255-((255-q/256^j%256:Nat):Int)=((q/256^j%256:Nat):Int):=av;have a4:=Tu a3 aD;repeat' first|simp(disch:=try exact om) only[dq,simprocAttr,aC,y,K,u,b6,a0,a4]|refine cs ?_ ?_<;>intro h<;>try omega|(refine⟨i+1,⟨?_⟩,⟨av⟩,?_⟩;rotate_left;focus (simp only[ft,simprocAttr];and_intros<;>try first|exact .aP _|omega))
    .exact aj (ar (V.int .u64) (by rw[a1,a2]))
    .omega
   .obtain rfl:i=k:=av;simp only[iM,Nat.pow_zero,rp];repeat' first|simp(disch:=omega) only[dq,simprocAttr,K,l,ab,a9]|refine bY ?_ ?_<;>intro h<;>(try simp only[jc]at h)<;>(try(exact absurd trivial h))<;>try omega|refine ec ?_|apply G0 rfl rfl rfl rfl rfl rfl
    all_goals first|exact .refl _|exact aj (ar I (by omega))
 .simp only[an bU]at g0 N a7;have a9:(q:Int)=n:=av;have o:=F0 (q:=128+k) av False;simp only[cE]at o;obtain⟨H,hH⟩:∃H:Nat,128+k=H:=⟨_,rfl⟩;simp only[hH]at g0 o;have a:(H:Int)-128=k:=av;have br:∀D,0<k->q/256 ^(k-1)%256=D->¬(D:Int)=0:=λD d bo=>by have:=gt d;have:q/256 ^(k-1)%256<256:=eG _ av;omega
  rcases cS k with p|p
  .have ac:q=0:=by rw[p]at z;omega
   have ad:n=0:=av;subst ad;rw[ac]at ab l;have ai:M=[]:=bJ.1 av;have f:(k:Int)=0:=av;have aA:=P;rw[f,ai]at aA;rw[f]at a;rw[p];have bi:IntKind.i64.wrap 0=0:=rfl;refine pk f260 ?_;repeat' first|simp(disch:=try exact om) only[dq,simprocAttr,g0,a5,o,a]|(first|refine bY ?_ ?_|refine cY ?_ ?_)<;>intro h<;>(try simp only[bO]at h)<;>(try simp only[h])<;>(try simp only[jc]at h)<;>try omega|refine ec ?_
   refine nw (D:=[7,9,48,49,50,51,52,53,54,55,56,57,58,59]) (bL:=[]) (λi:Nat=>i<=0) (λi=>[(48,I i,false),(7,.int .u64 0,false)]) (λi=>0-i) (0) rfl rfl rfl (λ_=>rfl) (ao _) ?_ ?_ ?_;iterate 2 ·(simp only[ft,simprocAttr];try omega)
   rintro i R;obtain rfl:i=0:=av;repeat' first|simp(disch:=omega) only[dq,simprocAttr,bi,show Int.fdiv 0 (2^min 63 IntKind.u64.bits)=0 from rfl]|refine bY ?_ ?_<;>intro h<;>try simp only[jc]at h|refine ec ?_|apply G0 rfl rfl rfl rfl rfl rfl
   all_goals exact .refl _
  .have g1:=N 0 av av;have t:=F0 (q:=q/256 ^(k-1-0)%256) (by have:q/256 ^(k-1-0)%256<256:=eG _ av;omega) False;simp only[cE]at t;simp only[dj,ig]at g1 t;obtain⟨D,aB⟩:∃D:Nat,q/256 ^(k-1)%256=D:=⟨_,rfl⟩;simp only[aB]at g1 t;have b2:=br D p aB;have b3:IntKind.i64.wrap (q:Int)=q:=wrap_i64 av av;refine pk f260 ?_;repeat' first|simp(disch:=try exact om) only[dq,simprocAttr,g0,g1,a5,o,t,a,P]|(first|refine cz ?_ ?_|refine gz ?_ ?_)<;>intro bs h<;>(try simp only[bs])<;>try omega|refine ec ?_
   refine nw (D:=[7,9,48,49,50,51,52,53,54,55,56,57,58,59]) (bL:=[]) (λi:Nat=>i<=k) (λi=>[(48,I i,false),(7,.int .u64 (q/256 ^(k-i):Nat),false)]) (λi=>k-i) (0) rfl rfl rfl (λ_=>rfl) (aL _) ?_ ?_ ?_;(·((simp only[ft,simprocAttr];try omega));all_goals(exact aj (ar (V.int .u64) (by rw[ig,lx z];rfl))));(·((simp only[fM];and_intros)));rintro i R;rcases am i k with d|d
   .have aC:=N i d av;have aD:q/256 ^(k-1-i)%256<256:=eG _ av;have u:=F0 (q:=q/256 ^(k-1-i)%256) av False;simp only[cE]at u;have y:=a8 i d av;obtain⟨j,bu⟩:∃j,k-1-i=j:=⟨_,rfl⟩;have a0:k-i=j+1:=av;have a1:k-(i+1)=j:=av;have a2:=Br q j;have a3:=F3 a6 j;simp only[bu]at aC aD u;skip;have a4:=Tu a3 aD;repeat' first|simp(disch:=try exact om) only[dq,simprocAttr,aC,y,K,u,a0,a4]|refine cs ?_ ?_<;>intro h<;>try omega|(refine⟨i+1,⟨?_⟩,⟨av⟩,?_⟩;rotate_left;focus (simp only[ft,simprocAttr];and_intros<;>try first|exact .aP _|omega))
    .exact aj (ar (V.int .u64) (by rw[a1,a2]))
    .omega
   .obtain rfl:i=k:=av;simp only[iM,Nat.pow_zero,rp];repeat' first|simp(disch:=omega) only[dq,simprocAttr,K,l,b3]|refine bY ?_ ?_<;>intro h<;>(try simp only[jc]at h)<;>try omega|refine ec ?_|apply G0 rfl rfl rfl rfl rfl rfl
    all_goals first|exact .refl _|exact aj (ar I (by omega))
def kv{s:St}{K:St->Prop}{P:Program}{GL:ak}{d:Option Nat}{y:eO}{f:FuncId}{cap:List V}{args:List eO}{a:List V}{Q:V->Bool->aJ->Prop}{r:List BI}{h0:aJ}(l:s.E=h0)(hx:s.val y=.fn f cap)(o:fL P f=true)(E:lI P GL f a h0 Q)
 (p:args.all (λx=> !(s.val x).dW)=true) (q:aN (args.map s.val++cap) a) (h:∀v bL j,Q v bL j->er P GL false r ((s.ct j).ret d v bL) K):er P GL false (⟨none,d,.qH y args⟩::r) s K:=by
 subst l;exact Nb hx o E p q h
def uG{s:St}{f t2:Nat}{a d:V}(j:s.Z f=a)(h2:s.Z t2=d)(l:a.dW=false)(o:d.dW=false):BF.result s [.tmp f,.tmp t2]=some (.hE [a,d],false):=by
 subst j h2;simp[BF.result,BR.p2,BR.get,l,o]
def xi{s:St}{j t2 l:Nat}{a d f:V}(o:s.Z j=a)(h2:s.Z t2=d)(p:s.Z l=f)(q:a.dW=false)(r:d.dW=false)(t:f.dW=false):BF.result s [.tmp j,.tmp t2,.tmp l]=some (.hE [a,d,f],false):=by
 subst o h2 p;simp[BF.result,BR.p2,BR.get,q,r,t]
def nO(b:T)(k:Nat)(a:k<=b.length):List.take (b.length-k) (List.drop k (List.map (λb=>V.int IntKind.u8 b.toNat) b))=List.map (λb=>V.int IntKind.u8 b.toNat) (b.drop k):=by
 rw[<-gC,az bR]
def F4(s:T):bytesOf (List.map (λb=>V.int IntKind.u8 b.toNat) s)=some s:=by
 induction s with
 |nil=>rfl
 |cons b r ih=>
  simp only[bw,bytesOf,ih];simp
def EN(n:Nat)(r:T)(j:n<=r.length)(l:r.length<=100000000):af 302 [df (cB n++r),I 1] (.hE [I n,I (cB n).length,I 0]):=by
 have f:=EM n (by unfold jv;omega) r av;have o:=gx (n:Int) (by unfold jv;omega);have a:(cB (n:Int)++r).length=(cB (n:Int)).length+r.length:=ae;generalize cB (n:Int)++r=B at*
 generalize (cB (n:Int)).length=A at*
 have d:(((B.length:Nat):Int)-A).tdiv 1=r.length:=by rw[Int.tdiv_one];omega
 rw[a]at d;refine pk f302 ?_;repeat' first|simp(disch:=try exact om) only[gE,simprocAttr,a,d]|refine cs ?_ ?_<;>intro h<;>try omega|refine lq f ?_|refine ec ?_|apply G0 rfl rfl rfl rfl rfl rfl
 all_goals exact .refl _
def JE(s r:T)(p:s.length+r.length<=100000000):af 257 [df (dD s++r)] (.hE [S s,I (dD s).length,I 0]):=by
 have d:=EN s.length (s++r) (by rw[ae];omega) (by rw[ae];omega);have q:=gx (s.length:Int) (by unfold jv;omega);have f:dD s++r=cB s.length++(s++r):=by unfold dD;rw[aG]
 have j:(dD s).length=(cB s.length).length+s.length:=by unfold dD;rw[ae]
 rw[f,j];have a:(cB (s.length:Int)++(s++r)).length=(cB (s.length:Int)).length+(s.length+r.length):=by simp
 have l:(cB (s.length:Int)++(s++r)).drop (cB (s.length:Int)).length=s++r:=bR;generalize cB (s.length:Int)++(s++r)=B at*
 generalize (cB (s.length:Int)).length=A at*
 have o:List.take (((A:Int)+s.length).toNat-A) (List.drop A (List.map (λb=>V.int IntKind.u8 b.toNat) B))=List.map (λb=>V.int IntKind.u8 b.toNat) s:=by
  rw[show((A:Int)+s.length).toNat-A=s.length by omega,<-gC,l,<-kt,gK]
 have hb:=F4 s;refine pk f257 ?_;repeat' first|simp(disch:=try exact om) only[gE,simprocAttr,a,o,hb]|refine lq d ?_|apply G0 rfl rfl rfl rfl rfl rfl
 all_goals exact .refl _
def Bs(n:Int):0< (cB n).length:=by unfold cB;split<;>simp
def Lg(l:List T):l.length<=(l.flatMap dD).length:=by
 induction l with
 |nil=>simp
 |cons a r ih=>
  have:=Bs a.length;simp only[cf,ae,aM,dD];omega
def JF(l:List T)(r:T)(L:(g2 l).length+r.length<=10000000):af 258 [df (g2 l++r)] (.hE [e9 l,I (g2 l).length,I 0]):=by
 have N:=Lg l;have q:(g2 l).length=(cB l.length).length+(l.flatMap dD).length:=by unfold g2;rw[ae]
 have t:=EN l.length (l.flatMap dD++r) (by rw[ae];omega) (by rw[ae];omega);have u:g2 l++r=cB l.length++(l.flatMap dD++r):=by unfold g2;rw[aG]
 rw[u,q];have P:=gx (l.length:Int) (by unfold jv;omega);have y:∀k,k<=l.length->(cB (l.length:Int)++(l.flatMap dD++r)).drop ((cB (l.length:Int)).length+((l.take k).flatMap dD).length)=(l.drop k).flatMap dD++r:=by
  exact Xx
 have hlen:(cB (l.length:Int)++(l.flatMap dD++r)).length=(cB (l.length:Int)).length+((l.flatMap dD).length+r.length):=bR;generalize cB (l.length:Int)++(l.flatMap dD++r)=B at*
 generalize (cB (l.length:Int)).length=A at*
 have z:∀k,k<l.length->((l.take (k+1)).flatMap dD).length=((l.take k).flatMap dD).length+(dD (l[k]?.getD [])).length:=λk hk=>by
  rw[bj hk,cg,ae,aa hk,bf];simp
 have f:∀k,((l.take k).flatMap dD).length<=(l.flatMap dD).length:=λk=>by
  exact S0
 have Q:(V.aP).Le (e9 (l.take 0)):=.aP _;refine pk f258 ?_;repeat' first|refine qu ?_|refine lq t ?_
 refine so (bL:=[8]) (λk:Nat=>k<=l.length) (λk=>[(22,I k,false),(8,e9 (l.take k),true),(6,I (A+((l.take k).flatMap dD).length:Nat),false)]) (λk=>l.length-k) (0) (aL _) ?_;rintro k hk;have H:=f k;have d:=y k hk;have K:(A:Int)+((l.take k).flatMap dD).length=((A+((l.take k).flatMap dD).length:Nat):Int):=av;rcases am k l.length with a|a
 .rw[bI a,cf,aG]at d;have o:=z k a;rw[aa a,bf]at o;have D:=f (k+1);have hb:l[k].length+((l.drop (k+1)).flatMap dD++r).length<=10000000:=by
   have e:=ar List.length d;have R:(dD l[k]).length=(cB l[k].length).length+l[k].length:=by unfold dD;rw[ae]
   simp only[aS,ae]at e ⊢
   omega
  have j:=JE l[k] ((l.drop (k+1)).flatMap dD++r) av;rw[<-d]at j;generalize hO:A+((l.take k).flatMap dD).length=O at*
  have p:=nO B O av;rw[hlen]at p;simp only[df]at j;generalize (dD l[k]).length=Z at*
  repeat' first|simp(disch:=try exact om) only[gE,simprocAttr,hlen,p]|refine cs ?_ ?_<;>intro h<;>try omega|(refine⟨k+1,⟨?_⟩,⟨av⟩,?_⟩;rotate_left;focus (simp only[ft,simprocAttr];and_intros<;>try first|exact .aP _|omega))|refine lq j ?_
  all_goals first|exact a|exact aj (by rw[bj a,aE];rfl)
 .obtain rfl:k=l.length:=av;rw[be]at*
  repeat' first|refine k9 ?_|refine cs ?_ ?_<;>intro h<;>try omega|apply G0 rfl rfl rfl rfl rfl rfl
  all_goals exact .refl _
def Zj:CF GL f328 [] [] 328:=ji
def Zk:CF GL f303 [2,3] [] 303:=ji
def Rc(B r:T)(W:Nat)(n:Int)(o:jv n)(E:aJ)(f a:Nat)(p:E.box f=some [df B])(h2:E.box a=some [I W])(L:f≠a)(q:B.drop W=cB n++r)(Q:B.length<=100000000)(H:W<=B.length):
 aI 328 [.bp f 0,.bp a 0] E λv _ d=>v=.hE [I n,I (W+(cB n).length:Nat),I 0]/\d.box=eR E.box a (some [I (W+(cB n).length:Nat)])/\d.mp=E.mp/\d.Y=E.Y:=by
 have hlen:B.length=W+((cB n).length+r.length):=by
  have e:=ar List.length q;rw[aS,ae]at e;omega
 have t:=EM n o r av;have j:=nO B W H;have R:=gx n o;rw[q]at j;simp only[df]at t j p;generalize (cB n).length=A at*
 refine bq Zj.ok rfl ?_;repeat' first|simp(disch:=try exact om) only[gE,simprocAttr,p,h2,j]|refine lq t ?_
 refine z7 (cells:=[I W]) ?_ ?_ bR λl u N P y z D=>?_
 .simp only[simprocAttr,bh,h2]
 .exact sT
 have tb:l.E.box=eR E.box a (some [I (W+A:Nat)]):=y.trans sT;have tm:l.E.mp=E.mp:=z.trans sT;have K:l.E.Y=E.Y:=D.trans sT;repeat' simp only[gE,simprocAttr,u,tb,bl]
 exact⟨nE,_,_,xi rfl rfl rfl rfl rfl rfl,rfl,tm,K⟩
def Re(b:T)(W:Int)(E:aJ):aI 303 [df b,I W] E λv _ a=>v=.fn 328 [.bp E.Y 0,.bp (E.Y+1) 0]/\a.box (E.Y)=some [df b]/\a.box (E.Y+1)=some [I W]:=by
 refine bq Zk.ok rfl ?_;repeat' simp(disch:=omega) only[gE,simprocAttr,HX.act,jR,V.cells,V.one,kr]
 exact⟨nE,_,_,bz rfl rfl,rfl⟩
def Zl:CF GL f255 [] [4,8] 255:=ji
def U9:fL prog 328=true:=by kernel_rfl
def JG(l:List Int)(r:T)(bu:(cZ l).length+r.length<=10000000)(ai:∀n∈l,jv n):af 255 [df (cZ l++r)] (.hE [fx l,I (cZ l).length,I 0]):=by
 have Q:∀l:List Int,l.length<=(l.flatMap cB).length:=λl=>by
  induction l with
  |nil=>simp
  |cons a r ih=>have:=Bs a;simp only[cf,ae,aM];omega
 have bv:=Q l;have aA:(cZ l).length=(cB l.length).length+(l.flatMap cB).length:=by unfold cZ;rw[ae]
 have aB:=EN l.length (l.flatMap cB++r) (by rw[ae];omega) (by rw[ae];omega);have aC:cZ l++r=cB l.length++(l.flatMap cB++r):=by unfold cZ;rw[aG]
 rw[aC,aA];have bU:=gx (l.length:Int) (by unfold jv;omega);have aD:∀k,k<=l.length->(cB (l.length:Int)++(l.flatMap cB++r)).drop ((cB (l.length:Int)).length+((l.take k).flatMap cB).length)=(l.drop k).flatMap cB++r:=by
  exact Xx
 have hlen:(cB (l.length:Int)++(l.flatMap cB++r)).length=(cB (l.length:Int)).length+((l.flatMap cB).length+r.length):=bR;generalize cB (l.length:Int)++(l.flatMap cB++r)=B at*
 generalize (cB (l.length:Int)).length=A at*
 have a0:∀k (h:k<l.length),((l.take (k+1)).flatMap cB).length=((l.take k).flatMap cB).length+(cB l[k]).length:=λk hk=>by
  rw[bj hk,cg,ae];simp
 have R:∀k,((l.take k).flatMap cB).length<=(l.flatMap cB).length:=λk=>by
  exact S0
 refine Pure.gg (by simp only[du]) (by simp only[du]) (eU hm Zl.ok (bF rfl) ?_);have ab:=Re B A aJ.bare;simp only[df]at ab;repeat' first|refine qu ?_|refine lq aB ?_
 refine bm (h0:=aJ.bare) ?_ ab ?_ ?_ ?_
 .exact sT
 .exact sT
 .refine nG ?_;simp only[dL]<;>rfl
 rintro a1 bL a7 ⟨rfl,u,y⟩;simp only[bh]at u y;repeat' simp only[gE,simprocAttr]
 refine dQ rfl rfl (λ(k:Nat) t=>k<=l.length/\t.Z 26=I k/\t.Z 6=I (A+((l.take k).flatMap cB).length:Nat)/\t.E.box 0=some [df B]/\t.E.box 1=some [I (A+((l.take k).flatMap cB).length:Nat)]/\
  ∃o,t.Z 9=o/\((k=0/\o=.aP)\/(0<k/\o=fx (l.take k)/\t.fl 9=true))) (λk=>l.length-k) 0 ?_ ?_
 .refine⟨aL _,?_⟩;simp only[da]
  and_intros
  all_goals first|rfl|exact u|exact y|(refine⟨.aP,rfl,.inl ?_⟩;rfl)
 rintro k t ⟨hk,p,a2,L,a3,o,N,P⟩ ac;have a4:t.Z 8=.fn 328 [.bp 0 0,.bp 1 0]:=by rw[ac 8 dt];rfl
 have z:t.Z 25=I l.length:=by rw[ac 25 dt];rfl
 have a8:=R k;have D:=aD k hk;rcases am k l.length with d|d
 .rw[bI d,cf,aG]at D;have a9:=a0 k d;have c3:=Rc B ((l.drop (k+1)).flatMap cB++r) (A+((l.take k).flatMap cB).length) l[k] (ai _ (ah d)) t.E 0 1 L a3 dt D av av;have hO:A+((l.take k).flatMap cB).length+(cB l[k]).length=A+((l.take (k+1)).flatMap cB).length:=av;obtain⟨O,j⟩:∃O,A+((l.take (k+1)).flatMap cB).length=O:=⟨_,rfl⟩;rw[hO,j]at c3;have q:fx (l.take (k+1))=.sl 1 (List.map I (l.take k)++[I l[k]]):=by rw[bj d];simp only[fx,aE,bw,cV]
  have bi:(l.take k).length<=l.length:=by rw[aF];omega
  repeat' first|simp only[dq,simprocAttr,a4,z,p]|refine cs ?_ ?_<;>intro h<;>try omega
  refine kv (h0:=t.E) (f:=328) (cap:=[.bp 0 0,.bp 1 0]) ?_ ?_ U9 c3 ?_ ?_ ?_
  .exact sT
  .exact sT
  .exact sT
  ·(repeat(first|exact aN.nil|(refine aN.cons (aj ?_) ?_;(simp only[simprocAttr]<;>rfl))))
  rintro a1 a5 bo ⟨rfl,H,br,bs⟩;rcases P with⟨rfl,rfl⟩|⟨P,rfl,a6⟩
  .simp only[fk,cV,bx]at q;repeat' simp(disch:=try exact om) only[gE,simprocAttr,p,N]
   refine⟨0+1,⟨?_⟩,⟨av⟩⟩;simp only[cA]at q j;simp only[da,simprocAttr,j,H,bl];rw[bE _ _ (by decide)]
   and_intros
   all_goals first|exact d|exact L|(refine⟨_,rfl,.inr ?_⟩;(and_intros)<;>first|rfl|exact q.symm)
  .repeat' simp(disch:=try exact om) only[gE,simprocAttr,p,N,a6]
   refine⟨k+1,⟨?_⟩,⟨av⟩⟩;simp only[da,j,H,bl];rw[bE _ _ (by decide)]
   and_intros
   all_goals first|exact d|rfl|exact L|(refine⟨_,rfl,.inr ?_⟩;(and_intros)<;>first|rfl|exact q.symm|omega)
 .obtain rfl:k=l.length:=av;rw[be]at*
  have K:o.dW=false/\V.Le o (fx l):=by
   rcases P with⟨h,rfl⟩|⟨_,rfl,_⟩
   .rw[bJ.1 h];exact⟨rfl,.aP _⟩
   .exact⟨rfl,.refl _⟩
  repeat' first|simp only[gE,simprocAttr,z,p,a2,N]|refine cs ?_ ?_<;>intro h<;>try omega
  have ad:=aN.cons K.2 (aN.cons (.refl (I ((A+(l.flatMap cB).length:Nat):Int))) (aN.cons (.refl (I 0)) .nil));exact⟨nE,_,_,jF,_,_,false,xi rfl rfl rfl K.1 rfl rfl,.refl _,.hE _ _ ad.1 ad.2,λh=>(by cases h),rfl,rfl⟩
end Go.Bx
