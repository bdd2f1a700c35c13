/- Lemmas for HistoryBegins. -/
import Derived.Calls
import Derived.ChangeKeysEq
import Derived.Laws.BytesString
import Derived.Laws.Sem
import Derived.Laws.StructEq
import Derived.Laws.Unary
import Derived.Laws.World
noncomputable section
set_option linter.all false
namespace Go.Bx
def av{P:Prop}(h:P:=by omega):P:=h
def bT{P:Prop}(h:P:=by simp):P:=h
def du{P:Prop}(h:P:=by decide):P:=h
def bb0{P:Prop}(h:P:=by
 cases Wm:o.guard with
 |none=>
  simp only[Wm]at WG;cases WG;simp only at hv;have hw:Region.wanted o (yielded ops a.tmps)=true:=by simp[Region.wanted,Wm]
  rw[ax hw];exact Ep hv
 |some gp=>
  obtain⟨j,want⟩:=gp;simp only[Wm]at WG;obtain⟨t,ht,rfl⟩:=dp WG;simp only at hv;have hy:yielded ops a.tmps j=match a.tmps[t]? with|some (.bool b)=>some b|_=>none:=by
   unfold yielded;rw[ht];cases h5:a.tmps[t]? with
   |none=>simp[h5]
   |some z=>cases z<;>simp[h5]
  have PJ:=R.Z t;split at hv
  next b hb=>
   rw[hb]at PJ;have htm:a.tmps[t]?=some (.bool b):=by
    have:=PJ.bool;rw[cL]at this;cases h5:a.tmps[t]? with
    |none=>rw[h5]at this;simp[undef]at this
    |some z=>rw[h5]at this;simpa using this
   rw[htm]at hy;by_cases hbw:b=want
   .rw[ax hbw]at hv;have hw:Region.wanted o (yielded ops a.tmps)=true:=by simp[Region.wanted,Wm,hy,hbw]
    rw[ax hw];exact Ep hv
   .rw[al hbw]at hv;have hw:¬Region.wanted o (yielded ops a.tmps)=true:=by simp[Region.wanted,Wm,hy,hbw]
    rw[al hw];exact⟨λ_ _=>trivial,Ax hv⟩
  next hb=>
   rw[hb]at PJ;have hu:a.tmps.getD t undef=undef:=PJ.qn;have hy':yielded ops a.tmps j=none:=by
    rw[hy];rw[cL]at hu;cases h5:a.tmps[t]? with
    |none=>rfl
    |some z=>rw[h5]at hu;simp at hu;subst hu;rfl
   have hw:¬Region.wanted o (yielded ops a.tmps)=true:=by simp[Region.wanted,Wm,hy']
   rw[al hw];exact⟨λ_ _=>trivial,Ax hv⟩
  .cases hv):P:=h
def bb1{P:Prop}(h:P:=by
 split at hc
 next h' l' e1 e2=>
  split at hc
  next hb=>
   simp at hc;obtain⟨rfl,rfl⟩:=hc;refine⟨?_,hb⟩;have I6:(match lo.map a.eval with
    |some v=>do
     let l<-Instr.sliceBound v h' BoundsCode.sliceB
     pure (l,h',cap)
    |none=>pure (0,h',cap):Sem (Nat×Nat×Nat)).run P w=.ok (l',h',cap) w:=by
    cases lo with
    |none=>simp[kU]at h1;subst h1;simp at e2;subst e2;simp
    |some lo=>
     cases e:eE GL lo with
     |none=>simp[kU,e]at h1
     |some b=>
      simp[kU,e]at h1;subst h1;simp only at e2;obtain⟨kd,hk⟩:=mS e2 (cv R e);simp only[bF,hk,Sem.run_bind,run_sliceBound hb.1,Result.andThen_ok,Sem.run_pure]
   cases hi with
   |none=>
    simp[kU]at h2;subst h2;simp at e1;subst e1;simp only[Instr.sliceBounds,jr,pure_bind,cG,bK,cH];exact I6
   |some hi=>
    cases e:eE GL hi with
    |none=>simp[kU,e]at h2
    |some b=>
     simp[kU,e]at h2;subst h2;simp only at e1;obtain⟨kd,hk⟩:=mS e1 (cv R e);simp only[Instr.sliceBounds,bF,pure_bind,hk,cG,bK,cH];rw[Sem.run_bind,run_sliceBound av,Result.andThen_ok];exact I6
  .cases hc
 .cases hc):P:=h
def bb2{P:Prop}(h:P:=by
 simp only[jU];by_cases h0:n*sz=0
 .simp only[h0,bP,pure_bind];have WH:Instr.fill (λi=>some (i*sz,sz)) (Array.map (λi=>(#[]:Array Value)[i%(#[]:Array Value).size]!) (Array.range 0)) (parts.toList.map λ(i,x)=>(i,a.eval x))=some zs:=by
   rw[<-f1];congr 1;simp[h0]
  rw[WH];exact fin
 .simp only[al h0,bind_assoc,pure_bind];rw[Sem.run_bind,lD z1,Result.andThen_ok,f1];exact fin):P:=h
def bb3{P:Prop}(h:P:=by
 simp only[aY.cut];split
 next i gn e=>rw[e];split<;>simp
 next id e=>
  rw[e];split
  .split<;>simp
  .simp
 .exact Iff.rfl):P:=h
def bb4{P:Prop}(h:P:=by
 cases x<;>simp only[eE]at h
 .injection h with h;injection h with h;subst h;rfl
 .obtain⟨_,_,h⟩:=dp h;cases h
 .obtain⟨_,_,h⟩:=dp h;cases h
 .injection h with h;cases h):P:=h
def bb5{P:Prop}(h:P:=by
 simp only[fy,ey,Sem.run_bind,run_underlying hd,Result.andThen_ok,Sem.run_pure];rfl):P:=h
def bb6{P:Prop}(h:P:=by
 cases o with
 |tail l=>cases l<;>cases ph<;>simp[la,hidden]
 |eh i=>cases ph<;>simp[la,hidden]
 |oO i=>cases ph<;>simp[la,hidden]
 |_=>simp[la,hidden]):P:=h
def bb8{P:Prop}(h:P:=by
 cases o with
 |tail l=>cases l<;>simp only[pH]<;>first|(simp;done)|(split<;>simp)
 |_=>simp[pH]):P:=h
def bb9{P:Prop}(h:P:=by
 cases o with
 |tail k=>cases k<;>cases ph<;>simp[lE]
 |eh i=>cases ph<;>simp[lE]
 |oO i=>cases ph<;>simp[lE]
 |_=>simp[lE]):P:=h
def WI{P:Prop}(h:P:=by
 simp only[aM];by_cases h1:off+1<=j/\j<off+1+vs.length
 .rw[ax h1,ax av];rw[show j-off=(j-(off+1))+1 from av,ez]
 .rw[al h1,kQ];by_cases h2:off=j
  .subst h2;rw[ax rfl,ax av];simp
  .rw[al h2,al av]):P:=h
def WJ{P:Prop}(h:P:=by
 rcases am gn (s.G st)with h'|h'
 .exact h'
 .exact absurd ((R.jc st gn h').symm.trans e3) bT):P:=h
def PK{P:Prop}(h:P:=by
 refine h s.E ?_ rfl rfl;rw[e2];funext i;unfold eQ;split
 next e=>rw[e,hb]
 .rfl):P:=h
def WK{P:Prop}(h:P:=by
 have hR:=h2.retv hd h4 (λd _ ho=>h5 ho (.var d));unfold Oper.go;rcases h1 with h1|⟨h1,rfl⟩
 .rw[h1,Oper.uponIn_value];exact hn g' _ _ w' hK (Ay _ _ _ _) hR h3
 .rw[h1,Oper.uponIn_skip];exact hn g' _ _ w' hK (Ay _ _ _ _) hR h3):P:=h
def WL{P:Prop}(h:P:=by
 unfold St.store at h;split at h
 .split at h
  .cases h;split
   .cases x<;>rfl
   .rfl
  .cases h
 .split at h
  .split at h
   .cases h;split
    .cases x<;>rfl
    .rfl
   .cases h
  .cases h
 .cases h):P:=h
def WM{P:Prop}(h:P:=by
 rename_i hd;split at h
 next ks hks=>
  split at h
  next hg=>obtain⟨p,q,e1,e2,rfl⟩:=kV h;exact Hn hks (by simp[fm,hd]) hg (cv R e1) (cv R e2) E
  .cases h
 .cases h):P:=h
def WN{P:Prop}(h:P:=by
 cases hv:s.val y<;>rw[hv]at hy<;>simp only[nA]at hy<;>try(cases hy;done)
 .exact absurd hv (WO _)
 .split at hy
  next h1=>cases hy;simp[qo,h1,b9]
  .cases hy
 .cases hy;simp[qo,b9]):P:=h
def WP{P:Prop}(h:P:=by
 refine⟨hg,λb e3=>?_⟩;obtain⟨h4,h5⟩:=hh b e3;obtain⟨b2,e6,e7⟩:=R.loc st gn hg;cases (e6.symm.trans e3);exact⟨by rw[(kt (l:=l) h (e7.bJ j (b0 h5)) rfl bT).2.1];exact h4,h5⟩):P:=h
def WQ{P:Prop}(h:P:=by
 obtain⟨vs,h1,h2,h3⟩:=ih;refine⟨a::vs,by simp[BR.pX,BR.get,h1,h,hl],by simp[h2],λj c d e1 e2=>?_⟩;cases j with
 |zero=>cases e1;cases e2;exact hu
 |succ j=>exact h3 j c d e1 e2):P:=h
def WR{P:Prop}(h:P:=by
 simp only[MX.wp]at*
 split at h
 .split at h
  next hc=>rw[ax hc];exact hq _ _ _ h
  next hc=>rw[al hc];obtain⟨cs,e1,e2,e3⟩:=h;exact⟨cs,e1,e2,hq _ _ _ e3⟩
 .exact h):P:=h
def T2{P:Prop}(h:P:=by
 rw[ae,dV ho];exact aT (cj _ hx) (lc _ _)):P:=h
def T3{P:Prop}(h:P:=by
 have hj:j<cs.length:=by rw[hl];exact b0 hd
 exact ih j cs[j] d bT hd (h3 j cs[j] y bT hy)):P:=h
def WS{P:Prop}(h:P:=by
 intro j d e;have hj:j<cells.length:=by rw[hl];exact b0 e
 obtain⟨f1,y,f2,f3⟩:=Mw j cells[j] bT;exact⟨(h j cells[j] d bT e).one f1,y,f2,ih j cells[j] d bT e f3⟩):P:=h
def WT{P:Prop}(h:P:=by
 by_cases h:b'=b
 .subst h;simp only[cl,zZ hb,hb];cases ob<;>first|(simp[u9]at hi;done)|(cases pc<;>first|rfl|(simp[u9]at hi'))
 .simp only[cl,kx h]):P:=h
def aaN{P:Prop}(h:P:=by
 show(let m:=(n:Int)%(2^64:Int);if true&&decide (m>=(2^63:Int))then m-(2^64:Int)else m)=n;simp only[hI,cq];split<;>omega):P:=h
def WU{P:Prop}(h:P:=by
 induction n with
 |zero=>simp[kn]
 |succ n ih=>simp only[kn,fS,dl,ae]at ih ⊢;rw[ih,hz,dG];omega):P:=h
def WW{P:Prop}(h:P:=by
 refine⟨xs.toList[j],?_,(hc.2 j c _ hj hx).mono R.gF.mT⟩;rw[show cl w.heap.size j=⟨w.heap.size,j,none⟩from rfl,World.cell?_alloc_new];simpa using hx):P:=h
def WX{P:Prop}(h:P:=by
 have h5:=Ho (Mx:=len+n) (cap:=cap) av;have h6:Builtin.nextslicecap (len+n) cap*i.bytes<=2147484160*65536:=oP av Hp;omega):P:=h
def T4{P:Prop}(h:P:=by
 split at h
 .cases h;exact⟨false,rfl,by assumption,λ_=>rfl⟩
 .cases h):P:=h
def WY{P:Prop}(h:P:=by
 simp only[St.store,hb,ho,hl,oQ,bP];split
 .cases y<;>exact⟨rfl,rfl,rfl,rfl,rfl,rfl⟩
 .exact⟨rfl,rfl,rfl,rfl,rfl,rfl⟩):P:=h
def T5{P:Prop}(h:P:=by
 rw[<-z6 hd hl,<-wO (hs (by rw[hm,h0];rfl))];exact hk):P:=h
def WZ{P:Prop}(h:P:=by
 obtain⟨b',h1,h2⟩:=hh.box id cs e;exact⟨b',by rw[mU (I7 hh e)];exact h1,qc (hh.Y _ (an _)) h2⟩):P:=h
def W0{P:Prop}(h:P:=by
 intro l;cases l with
 |none=>rfl
 |some k=>cases k<;>first|rfl|(simp only[My,co,Loc.var.injEq])|(simp[My])):P:=h
def W1{P:Prop}(h:P:=by
 intro a x hx;simp only[St.head];cases e:look (vals a) x with
 |some q=>exact absurd (mK.look (hk a) e).1 hx
 |none=>simp[hx]):P:=h
def W2{P:Prop}(h:P:=by
 unfold rH at hr;split at hr
 next hc=>have:=(fb hc.1).2;rw[e]at this;simp[V.cells,V.one]at this
 .cases hr):P:=h
def W3{P:Prop}(h:P:=by
 exact⟨_,by rw[run_convert_bytes_string w src dst e _ _ _ hs he hd];simp[Conv.bytesToString];rfl,VR.e0 (.str _)⟩):P:=h
def W4{P:Prop}(h:P:=by
 by_cases hc:e=.exit id
 .simp only[hc,bP]at ht ⊢;exact ht
 .simp only[hc,cH]at ht ⊢;exact ht):P:=h
def W5{P:Prop}(h:P:=by
 cases p with
 |none=>exact .slnil sz
 |some a=>exact .sl sz [] a 0 (λ_=>undef) (E a rfl) bT bT bT bT bT):P:=h
def W6{P:Prop}(h:P:=by
 apply Array.ext bT;intro i h1 h2;simp only[Array.getElem_modify];by_cases hi:j=i
 .subst hi;simp
 .simp[hi]):P:=h
def W7{P:Prop}(h:P:=by
 split at h
 .cases h
 next hy0=>cases h;exact⟨_,by simp[binOp,Op.shift,hy0],VR.e0 (.int _ _)⟩):P:=h
def W8{P:Prop}(h:P:=by
 rintro⟨rfl,h1,h2⟩;have:=ho (o-off) av;rw[show off+(o-off)=o from av,h]at this;exact hne this):P:=h
def W9{P:Prop}(h:P:=by
 cases p with
 |none=>simp[Builtin.firstCells]
 |some ad=>simp[Builtin.firstCells,loadCells,loadCellsFrom]):P:=h
def Xa{P:Prop}(h:P:=by
 rcases am gn (s.G st)with h'|h'
 .exact h'
 .exact absurd ((h.jc st gn h').symm.trans e3) bT):P:=h
def Xb{P:Prop}(h:P:=by
 rw[dB]at e;split at e
 .rw[cY]at e;exact⟨e,by assumption⟩
 .cases e):P:=h
def Xc{P:Prop}(h:P:=by
 rw[fx,dl]at h1;exact(aO.1 (aO.1 h1).2.1).1):P:=h
def aaO{P:Prop}(h:P:=by
 cases (e6.symm.trans e3);exact⟨by rw[eR hw ho (e7.bJ j (b0 h5)) bT];exact h4,h5⟩):P:=h
def Xd{P:Prop}(h:P:=by
 cases (h1.symm.trans e1);obtain⟨ys,f1,f2,f3⟩:=box h2 T6;exact⟨_,ys,e2,rfl,f1,f2,f3⟩):P:=h
def Xe{P:Prop}(h:P:=by
 simp only[dv]at E;split at E
 next cs hv=>exact key cs hv (by simpa using E)
 .cases E):P:=h
def Xf{P:Prop}(h:P:=by
 funext t;simp only[eQ];by_cases ht:t=e<;>by_cases ht':t=d<;>simp[ht,ht',hed,hde]):P:=h
def Xg{P:Prop}(h:P:=by
 simp[hnb,aaP,frozen,noView,viewAt,mayBeOne,stringish,shape,Sem.run,hsa,hsb,f1,f2]):P:=h
def Xh{P:Prop}(h:P:=by
 obtain⟨p,q,e1,e2,rfl⟩:=kV h;exact Az (cv R e1) (cv R e2) E):P:=h
def Xi{P:Prop}(h:P:=by
 rename_i hd;simp only[Sem.run_bind,run_underlying hd,Result.andThen_ok];cases x<;>rfl):P:=h
def Xj{P:Prop}(h:P:=by
 unfold Addr.add cl;split
 next h0=>subst h0;cases a;simp at hs;simp[hs]
 .rfl):P:=h
def Xk{P:Prop}(h:P:=by
 simp only[Builtin.firstCells,Sem.run_pure]at h ⊢
 injection h with h1 h2
 rw[h1]):P:=h
def Xl{P:Prop}(h:P:=by
 simp only[Instr.storeAt,Instr.sureAddr,pure_bind];exact Er hn Wn Xm):P:=h
def Xn{P:Prop}(h:P:=by
 simp[V.cells]at e2;subst e2;simp[hb]at e3;subst e3;exact⟨.int _ _,rfl⟩):P:=h
def Xo{P:Prop}(h:P:=by
 rw[mU (I7 hh e1)]at e4;exact hh.tail id cs j c b' x e1 e2 e3 e4 e5):P:=h
def Xp{P:Prop}(h:P:=by
 have:=Mz (l:=l) out.step (out.tail ho);simpa only[l,hd']using this):P:=h
def Xq{P:Prop}(h:P:=by
 split at h
 .split at h
  .cases h;simp[ne _ rfl]
  .cases h
 .cases h):P:=h
def Xr{P:Prop}(h:P:=by
 simp only[BC.iJ,aN,lS]at hx;rw[hu.2 x hx.2,h2 x hx.1]):P:=h
def aaQ{P:Prop}(h:P:=by
 show back ph l (g.bJ b o) (g1.bJ b o)=_;rw[kI (.inr e),f1];rfl):P:=h
def Xs{P:Prop}(h:P:=by
 simp only[bF];rw[show j-i=(j-(i+1))+1 from av];simp):P:=h
def Xt{P:Prop}(h:P:=by
 split at h
 .split at h
  .cases h;exact .put ..
  .cases h
 .cases h):P:=h
def Xu{P:Prop}(h:P:=by
 have:=aq (λl=>l[0]?) hc';simpa[cY]using this):P:=h
def Xv{P:Prop}(h:P:=by
 rw[<-z6 hd hl,<-wO (hs (by simp[BI.mem]))];exact hk):P:=h
def Xw{P:Prop}(h:P:=by
 have:=hl _ e1;simp only[St.nN,bP,Act.put,same];exact this):P:=h
def Xx{P:Prop}(h:P:=by
 rw[tQ hh.1 hh.2]at e';rw[e']at hh;simp[la,hidden]at hh):P:=h
def Xy{P:Prop}(h:P:=by
 split
 .rw[h];cases ob<;>first|rfl|(simp[u9]at hi)
 .exact h):P:=h
def Xz{P:Prop}(h:P:=by
 exact⟨hcut _ (λ_=>rfl),by rw[hfl t htd],by simp[eQ,htd]⟩):P:=h
def XA{P:Prop}(h:P:=by
 obtain⟨_,⟨rfl,rfl⟩|⟨id,c,rest,rfl,_⟩⟩:=hm<;>rfl):P:=h
def XB{P:Prop}(h:P:=by
 split at h
 .cases h;exact(Kept.fD ..).trans (.put ..)
 .cases h):P:=h
def XC{P:Prop}(h:P:=by
 repeat' first|simp only[dt,simprocAttr]|refine cs ?_ ?_<;>intro h<;>try omega|refine q1 ?_
 exact ak (by
  have h1:a.take k=a:=aE av;have h2:b.take k=b:=aE av;rw[h1,h2]at he;simp[he])):P:=h
def Wo{P:Prop}(h:P:=by
 refine pk Tryz.f191 ?_;repeat' first|simp(disch:=try exact om) only[gE,simprocAttr,Op.v,Op.c,h]|refine lq c1 ?_|refine lq c2 ?_|refine lq c3 ?_|refine lq c4 ?_|(refine ao nE ?_;((refine FG ?_;repeat' first|exact hW.nil|refine hW.tmp rfl rfl ?_ ?_|refine hW.cell ev rfl ?_ ?_);(all_goals(try(first|with_reducible exact .refl _|(apply ak;simp;done))))))
 all_goals skip):P:=h
def wb3{P:Prop}(h:P:=by
 repeat' first|simp(disch:=try exact om) only[gE,simprocAttr]|(refine tR (by simp only[pY]<;>rfl) (by simp only[da]<;>rfl) ?_ (λh=>?_))|(refine ao nE ?_;first|apply S9 rfl rfl rfl|apply XD rfl rfl rfl)
 all_goals first|exact PL (by assumption)|exact ak rfl):P:=h
def wb6{P:Prop}(h:P:=by
 subst key;simp only[fo,cG];refine pk Tryz.f251 ?_;repeat' first|simp(disch:=try exact om) only[dt,simprocAttr]|(first|refine cs ?_ ?_|refine gs ?_ ?_)<;>intro h<;>try omega|(refine ao nE ?_;((refine FG ?_;repeat' first|exact hW.nil|refine hW.tmp rfl rfl ?_ ?_|refine hW.cell ev rfl ?_ ?_);(all_goals(try((apply ak;simp;done))))))
 all_goals exact kW):P:=h
def wb7{P:Prop}(h:P:=by
 show V.lF jH _ e.v;rw[hv];exact .agg _ _ rfl (zE.cons (.refl _) (.cons (.refl _) (.cons (.refl _) (.cons (.refl _) (.cons (PM.2.Mr _) (.cons (.refl _) (.cons (.refl _) (.cons (.refl _) (.cons (.refl _) (.cons (.refl _) (.cons (.refl _) (.cons (.refl _) (.cons (.refl _) (.cons (.refl _) (.cons (.refl _) (.cons (.refl _) (.cons (.refl _) (.cons (.refl _) (.cons (.refl _) (.cons (.aP _) (.cons (.aP _) (.cons (.aP _) (.cons (.refl _) (.cons (.refl _) (.cons (.refl _) (.cons (.refl _) (.cons (.aP _) (.cons (.refl _) (.cons (.refl _) (.cons (.refl _) (.cons (.aP _) (.cons (.refl _) .nil)))))))))))))))))))))))))))))))).2):P:=h
def wb8{P:Prop}(h:P:=by
 all_goals
  refine AA (cells:=[dc b,I a]) ?_ ?_ bT λt2 vI yL z7 Pz T7 T8=>?_
  .simp only[simprocAttr,bx];exact hb
  .exact sT
  have tb:t2.E.box=eQ E.box id (some [dc b,I (a+A:Nat)]):=by rw[Pz];simp only[da,simprocAttr];rfl
  have tm:t2.E.mp=E.mp:=by rw[T7];simp only[simprocAttr,bx]
  have tn:t2.E.Y=E.Y:=by rw[T8];simp only[simprocAttr,bx]
 all_goals repeat any_goals simp only[gE,simprocAttr,vI]
 all_goals exact⟨nE,_,_,bC rfl rfl,rfl,tb,tm,tn⟩):P:=h
def T9{P:Prop}(h:P:=by
 repeat' first|simp(disch:=omega) only[dt,simprocAttr]|refine cs ?_ ?_<;>intro h<;>try omega|refine ei ?_
 refine MA (m:=n) (fA:=E) ?_ ?_ ?_ hn av λc' hc=>?_
 .exact sT
 .simp only[da];exact aq I av
 .simp only[simprocAttr,bx]
 repeat' simp(disch:=omega) only[gE,simprocAttr]
 refine⟨nE,_,_,bC rfl rfl,?_,λh=>(by cases h),?_⟩
 .exact MB rfl hc
 .exact Hq _ _):P:=h
def KG{P:Prop}(h:P:=by
 exact ak (by
  have:a≠b:=λe=>by subst e;simp_all
  simp[this])):P:=h
def Hr{P:Prop}(h:P:=by
 exact ak (by
  have:a≠b:=λe=>by simp_all
  simp[this])):P:=h
def Ua{P:Prop}(h:P:=by
 rw[XE]at wN;subst wN;repeat any_goals first|simp(disch:=try exact om) only[gE,simprocAttr,h0,Ms]|refine cs ?_ ?_<;>intro h<;>try omega|refine lq c1 ?_|refine lq c3 ?_|refine lq c4 ?_|refine lq c5 ?_|refine lq c6 ?_|refine lq c7 ?_|refine lq c9 ?_|refine ei ?_
 all_goals(refine fin1 ev rfl ?_;exact(sr PA).Mr _)):P:=h
def KH{P:Prop}(h:P:=by
 rw[pe]at Ub;injection Ub with _ e1 _ _ _;rw[<-e1,p3]at Uc;exact(ar Uc).symm):P:=h
def XF{P:Prop}(h:P:=by
 all_goals
  refine cJ (n:=1) (cells:=[dc b,I a,I 0]) ?_ ?_ bT λt2 vI yL z7 Pz T7 T8 te7=>?_
  .exact sT
  .exact sT
  have tb:t2.E.box=eQ E.box id (some [dc b,I (a+A:Nat),I 0]):=by rw[Pz];simp only[da,simprocAttr];rfl
  have tm:t2.E.mp=E.mp:=by rw[T7];simp only[da,simprocAttr]
  have tn:t2.E.Y=E.Y:=by rw[T8];simp only[da,simprocAttr]
 all_goals repeat any_goals simp only[gE,simprocAttr,vI,yL,z7]
 all_goals exact⟨nE,_,_,bC rfl rfl,rfl,tb,tm,tn⟩):P:=h
def aaR{P:Prop}(h:P:=by
 intro n hn;simp only[Op.head,bn,cE,gL]at hn;rcases hn with rfl|rfl|rfl|rfl|rfl|rfl|rfl|rfl|rfl|rfl|rfl|rfl|rfl
 all_goals first|exact h0.1|exact h0.2.1|exact h0.2.2.1|exact h0.2.2.2.1|exact h0.2.2.2.2.1|exact h0.2.2.2.2.2.1|exact h0.2.2.2.2.2.2.1|exact h0.2.2.2.2.2.2.2.1|exact h0.2.2.2.2.2.2.2.2.1|exact h0.2.2.2.2.2.2.2.2.2.1|exact h0.2.2.2.2.2.2.2.2.2.2.1|exact h0.2.2.2.2.2.2.2.2.2.2.2.1|exact h0.2.2.2.2.2.2.2.2.2.2.2.2):P:=h
def MC{P:Prop}(h:P:=by
 all_goals exact ak (aq (V.sl 1) (by unfold pj qX kg;rw[hK];simp))):P:=h
def XG{P:Prop}(h:P:=by
 refine cJ (n:=1) (cells:=[I 0]) ?_ ?_ bT λt2 vI yL z7 Pz T7 T8 te7=>?_
 .exact sT
 .exact sT
 have tb:t2.E.box 0=some [I 1]:=by
  rw[Pz];(try simp only[sE,simprocAttr]);rw[bh];rfl
 repeat any_goals simp only[gE,simprocAttr,cR,vI,yL,z7]
 exact⟨nE,I 1,false,jH,t2.E,_,false,eA (by simp only[ee,simprocAttr,cR,bx,vI,tb]<;>rfl) rfl,.refl _,.refl _,λh=>(by cases h),rfl,rfl⟩):P:=h
def aaS{P:Prop}(h:P:=by
 by_cases hn:n<0
 .simp only[ax hn,bt,jV];rw[rI av];congr 2
  .simp;omega
  .refine kh λd hd=>?_;have:=l5 d hd;simp only[lI];rw[rI av];congr 1;omega
 .simp only[al hn,bt,jV];rw[rI av];congr 2;refine kh λd hd=>?_;have:=l5 d hd;simp only[lI];rw[rI av]):P:=h
def XH{P:Prop}(h:P:=by
 rw[bX,ap,aa hQ,bf]at wN;subst wN;repeat any_goals first|simp(disch:=try exact om) only[gE,simprocAttr,h0,Ms]|refine cs ?_ ?_<;>intro h<;>try omega|refine lq c1 ?_|refine lq c3 ?_|refine lq c4 ?_|refine lq c5 ?_|refine lq c6 ?_|refine lq c7 ?_|refine lq Wp ?_|refine ei ?_
 all_goals(refine fin1 ev rfl ?_;exact(sr PA).Mr _)):P:=h
def Ud{P:Prop}(h:P:=by
 exact⟨h1,by(simp only[sE,simprocAttr]);try exact aq (V.int .i64) av,by(simp only[sE,simprocAttr]);exact z1,by(simp only[sE,simprocAttr]);exact z2,by(simp only[sE,simprocAttr]);exact z3⟩):P:=h
def XI{P:Prop}(h:P:=by
 have aaT:=PM.1;repeat any_goals first|simp only[gE,simprocAttr,j2,j3,j4,j5,j6,j7,j8,j9,jA,e1,e2,e3,e6,PB,PC,aaT]|refine cs ?_ ?_<;>intro h<;>try omega
 refine fin1 (by simp only[ee,simprocAttr,e6,j5,j6,bx]<;>rfl) rfl ?_;rw[wN];exact(sr (by repeat(first|exact aV.cons PM.2 .nil|refine aV.cons (.refl _) ?_|refine aV.cons (.aP _) ?_))).Mr _):P:=h
def XJ{P:Prop}(h:P:=by
 rw[hh]at c1;repeat any_goals simp only[gE,simprocAttr,hx,o1,Op.c,aZ,bm,vJ]
 refine bz rfl c1 ?_ ?_ ?_
 .simp only[da,simprocAttr];simp;exact⟨rfl,rfl⟩
 .refine mV ?_;simp only[ee,simprocAttr]<;>rfl
 rintro _ _ E ⟨rfl,rfl⟩;repeat any_goals simp only[gE,simprocAttr]
 exact⟨nE,I 6,_,bC rfl rfl,rfl,λh=>by cases h⟩):P:=h
def MD{P:Prop}(h:P:=by
 exact⟨nE,I 0,_,bC rfl rfl,rfl,λ_=>⟨tG,R'⟩⟩):P:=h
def XK{P:Prop}(h:P:=by
 refine pk Tryz.f189 ?_;repeat' first|simp only[dt,simprocAttr]|refine cs ?_ ?_<;>intro h<;>try omega|refine ei ?_|(refine ao nE ?_;refine tS ev rfl ?_)
 all_goals exact nf rfl (by simp[nB,XL,n0,n1,n2,n4,n6,n7,n8,n9];repeat(first|exact aV.nil|refine aV.cons (.refl _) ?_|refine aV.cons (.aP _) ?_))):P:=h
def Ue{P:Prop}(h:P:=by
 have hz:l=[]:=by simpa using h
 subst hz;exact⟨nE,.aP,_,bC rfl rfl,gu.nil,⟨λ_ _ _=>rfl,λ_ _=>rfl,an _⟩,λi hi=>(by cases hi)⟩):P:=h
def XM{P:Prop}(h:P:=by
 obtain⟨hl,rfl⟩:=aH.1 hx;refine⟨ho _ (ah hl),λj c' hj=>?_⟩;have h1:=i7 ho hl rest;have:(b9 xs++rest)[i*sz+j]?=((b9 xs++rest).drop (i*sz))[j]?:=by rw[cY]
 rw[cA,this,h1,dH (aH.1 hj).1];exact hj):P:=h
def aaU{P:Prop}(h:P:=by
 repeat' first|simp only[dt,simprocAttr]|refine cs ?_ ?_<;>intro h<;>try omega|apply rJ rfl rfl rfl
 exact ak (by rw[aE h1])):P:=h
def XN{P:Prop}(h:P:=by
 repeat any_goals first|simp(disch:=try exact om) only[gE,simprocAttr,h0,Ms]|refine cs ?_ ?_<;>intro h<;>try omega|refine lq c1 ?_|refine lq c3 ?_|refine lq c4 ?_|refine lq c5 ?_|refine lq c6 ?_|refine lq c7 ?_|refine ei ?_
 all_goals(refine fin1 ev rfl ?_;exact(sr PA).Mr _)):P:=h
def XO{P:Prop}(h:P:=by
 refine iU λj=>?_;rcases am j l.length with h|h
 .rw[AB _ _ _ _ h,hd,bG h,bw,aa h];rfl
 .rw[b1 (by simpa[vZ]using h),b1 (by simpa using h)]):P:=h
def XP{P:Prop}(h:P:=by
 have Uf:=PN k h1;have hk3:=Ta (k+1);have XQ:=aq List.length Uf;rw[ae]at XQ;repeat' first|simp(disch:=try exact om) only[dt,simprocAttr]|refine cs ?_ ?_<;>intro h<;>try omega|refine ba (k+1) ?_|refine ei ?_
 all_goals exact h1):P:=h
def Ug{P:Prop}(h:P:=by
 exact key _ _ _ (by simp only[h.fF]) (by simp only;omega) h.bN hn (by simp only;omega) h.Hs (eU PN) h.nd h.key):P:=h
def XR{P:Prop}(h:P:=by
 intro n hn;simp only[Op.head,bn,cE,gL]at hn;obtain⟨a1,a2,a3,a4,a5,a6,a7,a8,a9,aA,aB,aC,aD⟩:=h0;rcases hn with rfl|rfl|rfl|rfl|rfl|rfl|rfl|rfl|rfl|rfl|rfl|rfl|rfl<;>assumption):P:=h
def Uh{P:Prop}(h:P:=by
 refine aV.cons (ak ?_) (aV.cons (ak ?_) aV.nil)
 ·(simp only[ee]<;>rfl)
 ·(simp only[ee]<;>rfl)):P:=h
def Ui{P:Prop}(h:P:=by
 all_goals exact fin2 (by simp only[ee,simprocAttr,bx,bQ,b5,b6,b7]<;>rfl) rfl ev (l6 _ []) (Ht _)):P:=h
def PO{P:Prop}(h:P:=by
 all_goals exact⟨nE,_,_,bC rfl rfl,rfl,rfl,GH.mono ⟨F,X,Q⟩ av⟩):P:=h
def PP{P:Prop}(h:P:=by
 have e:=aq List.length hd;rw[aS,ae]at e;omega):P:=h
def PQ{P:Prop}(h:P:=by
 simp only[au,aG,aM,aX];omega):P:=h
def XS{P:Prop}(h:P:=by
 intro k hk
 conv=>lhs;rw[<-b8 k l,cx]
 rw[<-dF,fX,aF];rw[show(l.take k++l.drop k).take k=l.take k by rw[b8],fX]):P:=h
def XT{P:Prop}(h:P:=by
 exact⟨nE,_,_,bC rfl rfl,hM,⟨λk hk _=>by rw[e1,bD _ _ (ct hk)],λk _=>by rw[e2,d2,b2],by rw[e3,d3,b3];exact fO _⟩,λk h=>by cases h;exact .inr (an _)⟩):P:=h
def Uj{P:Prop}(h:P:=by
 repeat any_goals simp only[gE,simprocAttr,cR,q0,q1,q8,y1,y2,y3]
 exact⟨y0b,x.2.eD,y3b,m3⟩):P:=h
def Uk{P:Prop}(h:P:=by
 exact key _ _ _ (by simp only;omega) (eU h2) h3 (λy hy=>eU (h4 y hy)) h5):P:=h
def XU{P:Prop}(h:P:=by
 have h1:=Es w.O (v+1);rw[rK hv,ae]at h1;have h2:=z8 w.O[v].O (a+1);rw[rL ha,ae]at h2;show _<=(lA w.O).length;omega):P:=h
def Ul{P:Prop}(h:P:=by
 repeat' first|simp only[dt,simprocAttr]|refine lq c ?_|refine q1 ?_
 all_goals exact ak rfl):P:=h
def XV{P:Prop}(h:P:=by
 simp only[sE,simprocAttr,rM,rN,rO,rP,ss,su,sv,sw,tL,tM,tO,tP,vz,vA,vB,vC,v1,v2,v6,v7,xV,xW,xX,xY,zF,zG,zH,zJ];simp only[jW,o3];simp[o2]):P:=h
def Um{P:Prop}(h:P:=by
 have:=AC ((dj w).map λp=>(⟨p.id,p.id⟩:cI))
 rwa [au]at this):P:=h
def XW{P:Prop}(h:P:=by
 intro n;induction n with
 |zero=>simp[kn]
 |succ n ih=>simp only[kn,fS,dl,ae]at ih ⊢;rw[ih,hz,dG];omega):P:=h
def Un{P:Prop}(h:P:=by
 conv=>rhs;rw[<-b8 k ls,fx,ae]
 omega):P:=h
def XX{P:Prop}(h:P:=by
 (repeat(first|exact aV.nil|(refine aV.cons (ak ?_) ?_;(simp only[ee,simprocAttr]<;>rfl))|(refine aV.cons ?_ ?_;simp only[pY]<;>exact .aP _)))):P:=h
def XY{P:Prop}(h:P:=by
 repeat' first|simp only[dt,simprocAttr,dc]|refine cs ?_ ?_<;>intro h<;>try omega|apply rJ rfl rfl rfl
 exact ak (by rw[aE Uo];rfl)):P:=h
def XZ{P:Prop}(h:P:=by
 exact ak (aq V.bool (by
  rw[ix];simp only[lf,ib];left;left;rw[gv];exact⟨_,ah h1,by simp;omega⟩))):P:=h
def aaV{P:Prop}(h:P:=by
 repeat any_goals first|simp only[dt,simprocAttr]|refine cs ?_ ?_<;>intro h<;>try omega|apply rJ rfl rfl rfl
 exact ak (by rw[aE h1])):P:=h
def Up{P:Prop}(h:P:=by
 simp only[au,List.length_range,aM,aX];omega):P:=h
def X0{P:Prop}(h:P:=by
 repeat' first|simp only[dt,simprocAttr]|refine cs ?_ ?_<;>intro h<;>try omega|apply rJ rfl rfl rfl
 have:n=l.length:=av;subst this;exact .refl _):P:=h
def X1{P:Prop}(h:P:=by
 cases hf:b9 xs with
 |nil=>have:=dV zK;rw[hf,aX]at this;omega
 |cons a b=>exact⟨a,b++rest,by rw[eh,hf];rfl⟩):P:=h
def X2{P:Prop}(h:P:=by
 rintro _ _ hpA HA;repeat any_goals simp only[gE,simprocAttr,Op.v,Op.c,HX.act,vI,FH,FI,yL,Hk,Hl,z7,Hu,Hv,n1,n2,n3,hH]
 exact HA):P:=h
def aaW{P:Prop}(h:P:=by
 show(W.heap.push ob)[b]?=_;rw[gO,al (ct h)]):P:=h
def X3{P:Prop}(h:P:=by
 repeat any_goals simp(disch:=omega) only[gE,simprocAttr]
 exact⟨nE,_,_,bC rfl rfl,hm0,rQ,λk h=>.inl h⟩):P:=h
def X4{P:Prop}(h:P:=by
 rintro h v a X fz ⟨rfl,_⟩ _;exact⟨rfl,λj c d e1 e2=>by obtain rfl:=ar (e1.symm.trans e2);exact .refl _⟩):P:=h
def X5{P:Prop}(h:P:=by
 simp only[ae,aG,aS];omega):P:=h
def X6{P:Prop}(h:P:=by
 rw[br hj,hxe,az];refine gu.frame Wq (λi X7=>?_) av;rw[tb,bD];rintro rfl;have:=ME _ X7;omega):P:=h
def X8{P:Prop}(h:P:=by
 rintro u _ Uq hQ;repeat any_goals simp only[gE,simprocAttr]
 exact⟨nE,u,_,bC sT (by rw[hQ.1];rfl),hQ⟩):P:=h
def X9{P:Prop}(h:P:=by
 rw[Ya];simp only[Hw,bX,ap,aa ME,bf]):P:=h
def Yb{P:Prop}(h:P:=by
 exfalso;apply h;rw[List.findIdx?_eq_none_iff]at hf;rw[bO];intro x hx;have:=hf x hx;simpa using this):P:=h
def Yc{P:Prop}(h:P:=by
 rcases jB with⟨h,rfl⟩|⟨_,rfl,_⟩
 .exact⟨rfl,by rw[h];exact .aP _⟩
 .exact⟨rfl,.refl _⟩):P:=h
def aaX{P:Prop}(h:P:=by
 exact⟨av,by rw[br h1,br h2,he,(PR (a:=a[k]) (b:=b[k])).2 (by simpa using h)]⟩):P:=h
def Yd{P:Prop}(h:P:=by
 repeat' first|simp only[dt,simprocAttr]|(refine ao nE ?_;refine tS ev rfl ?_)
 exact .refl _):P:=h
def Ye{P:Prop}(h:P:=by
 simp only[au,ae,aM,aG,aS];omega):P:=h
def Yf{P:Prop}(h:P:=by
 rw[fx,dl]at h1;exact(aO.1 (aO.1 h1).2.1).1):P:=h
def Yg{P:Prop}(h:P:=by
 rw[ap,aa av,bf];exact ah _):P:=h
def aaY{P:Prop}(h:P:=by
 rw[m2.box i (bj hi u4.Y) (λe=>by have:=u5 i e;omega)];exact u4.box i hi bT):P:=h
def Yh{P:Prop}(h:P:=by
 rcases m3 with m3|m3
 .exact u5 i (m3▸hi)
 .rw[m3]at hi;have:=u4.Y;simp at hi;omega):P:=h
def Tb{P:Prop}(h:P:=by
 simp only[jW,V.cells,aM,aX,bR,cm,o3];rfl):P:=h
def Tc{P:Prop}(h:P:=by
 simp only[jW,V.cells,aM,aX,bR,cm,o2];rfl):P:=h
def Td{P:Prop}(h:P:=by
 repeat' first|simp(disch:=omega) only[dt,simprocAttr]|refine q1 ?_
 exact ak bT):P:=h
def Te{P:Prop}(h:P:=by
 conv=>rhs;rw[<-b8 k l,cx,ae]
 omega):P:=h
def Tf{P:Prop}(h:P:=by
 rw[ff hv ha];simp only[ae,aG,aS];omega):P:=h
def Tg{P:Prop}(h:P:=by
 rw[Yi];split
 next e=>obtain⟨rfl,rfl⟩:=e;simpa using Wr
 .exact Wr):P:=h
def Th{P:Prop}(h:P:=by
 exact⟨nE,I 8,_,bC rfl rfl,by exact⟨rfl,λh=>by cases h⟩⟩):P:=h
def Ti{P:Prop}(h:P:=by
 constructor
 .rintro((h|h)|h)<;>simp[h]
 .rintro(h|h|h)<;>simp[h]):P:=h
def Tj{P:Prop}(h:P:=by
 exact {h0 with kind:=bT,i9:=by simp only;omega,bN:=qY _ _}):P:=h
def Tk{P:Prop}(h:P:=by
 refine bodyPost_ret (results_none rfl _ _ _) rfl ?_;exact⟨_,rfl,.inr Ur⟩):P:=h
def Tl{P:Prop}(h:P:=by
 refine aT (fY _ _) ?_;rw[aG];omega):P:=h
def Yj{P:Prop}(h:P:=by
 have h1:=hr x (dQ hx);have h2:=my x av;omega):P:=h
def Tm{P:Prop}(h:P:=by
 unfold Et;split
 .exact Db hf ho ht b
 .exact v8 hf ho b):P:=h
def Yk{P:Prop}(h:P:=by
 rw[cT h1,PS]at he;exact ak (aq I he)):P:=h
def Tn{P:Prop}(h:P:=by
 obtain⟨_,⟨rfl,rfl⟩|⟨id,c,rest,rfl,_⟩⟩:=hm<;>rfl):P:=h
def Yl{P:Prop}(h:P:=by
 exact⟨h1,by rw[br h1,List.any_append,he];simp;omega⟩):P:=h
def To{P:Prop}(h:P:=by
 simp only[V.cells,dI,oR];by_cases h1:a=b<;>simp[h1]):P:=h
def Tp{P:Prop}(h:P:=by
 simp only[aW.v,hK,hz.op av,hz.dy av,hz.cU av av];rfl):P:=h
def wc7{P:Prop}(h:P:=by
 exact ak (by
  have h1:a.take k=a:=aE av;have h2:b.take k=b:=aE av;rw[h1,h2]at he;simp[he])):P:=h
def Ym{P:Prop}(h:P:=by
 have hb:=run_convert_bytes_back (P:=Tryz.prog) (w.alloc (.cells C 5 (C.size,C.size+1))).drew 181 9 5 ⟨w.heap.size,0,none⟩
  (grownCap w (ByteArray.mk (b::r).toArray).size 0 5) (b::r) Tryz.underlying181 Tryz.underlying5 Tryz.underlying9 (λj hj=>by
   show(w.alloc (.cells C 5 (C.size,C.size+1))).cell? _=_;rw[MF,cA];exact iK j _ (by simp at hj ⊢))
 rw[Wn];exact hb):P:=h
def Hx{P:Prop}(h:P:=by
 intro it h;obtain⟨x,_,rfl⟩:=cB.1 h;rfl):P:=h
def MG{P:Prop}(h:P:=by
 exact⟨av,by rw[br h1,br h2];simp_all⟩):P:=h
def aaZ{P:Prop}(h:P:=by
 repeat' first|refine k7 ?_|(first|refine cs ?_ ?_|refine gs ?_ ?_)<;>intro h<;>try omega|(((refine rT ?_;repeat' first|exact hW.nil|refine gt ?_ ?_|refine gc ?_ ?_);(all_goals(try((apply ak;simp;done))))))
 all_goals exact kW):P:=h
def Yn{P:Prop}(h:P:=by
 rintro k ⟨hk,he⟩;rcases am k a.length with h1|h1
 .have h2:k<b.length:=av;repeat' first|refine qp ?_|refine cs ?_ ?_<;>intro h<;>try omega|refine ba (k+1) ?_|refine q1 ?_
  .exact KG
  .exact aaX
 .exact XC):P:=h
def Us{P:Prop}(h:P:=by
 exact ak (by
  have:a≠b:=λe=>by simp_all
  simp[this])):P:=h
def PT{P:Prop}(h:P:=by
 simp only[au,aM,aX];omega):P:=h
def aa0{P:Prop}(h:P:=by
 refine pk Tryz.f131 ?_;repeat' first|refine k7 ?_|refine cs ?_ ?_<;>intro h|refine lq (wP a) ?_|refine lq (wP b) ?_|refine q1 ?_
 all_goals exact ak (aq I (by unfold qT;split<;>first|rfl|omega))):P:=h
def MH{P:Prop}(h:P:=by
 all_goals(refine fin1 ev rfl ?_;exact(sr PA).Mr _)):P:=h
def Yo{P:Prop}(h:P:=by
 exact ak (by
  have:a≠b:=λe=>by subst e;simp_all
  simp[this])):P:=h
def PU{P:Prop}(h:P:=by
 have:=Q.bd j (dg.2 (.inr (.inr (.inr (.inr h)))));omega):P:=h
def aa1{P:Prop}(h:P:=by
 rw[aE h1]at he;repeat' first|refine k7 ?_|refine cs ?_ ?_<;>intro h<;>try omega|refine q1 ?_
 exact ak (aq V.bool he.symm)):P:=h
def Yp{P:Prop}(h:P:=by
 repeat' first|refine k7 ?_|refine cs ?_ ?_<;>intro h<;>try omega|refine lq c2 ?_|apply Hm rfl rfl rfl rfl rfl rfl
 all_goals exact ak rfl):P:=h
def PV{P:Prop}(h:P:=by
 all_goals exact fin2 ev rfl ev (l6 _ []) (Ht _)):P:=h
def Ut{P:Prop}(h:P:=by
 rw[PD,<-e4,<-e3];simp only[aK.hN,aK.cO];omega):P:=h
def aa2{P:Prop}(h:P:=by
 exact⟨h1,by rw[br h1,fj,he];simp[h]⟩):P:=h
def Uu{P:Prop}(h:P:=by
 have:=Q.bd j (dg.2 (.inr (.inr (.inr (.inl h)))));omega):P:=h
def Yq{P:Prop}(h:P:=by
 simp only[bR,cm,sE,simprocAttr,o2];rfl):P:=h
def Uv{P:Prop}(h:P:=by
 all_goals exact⟨nE,_,_,KI ev rfl rfl rfl,by rfl⟩):P:=h
def aa3{P:Prop}(h:P:=by
 refine pk Tryz.f184 ?_;repeat' first|refine k7 ?_|refine q1 ?_
 all_goals exact ak (aq V.bool bT)):P:=h
def Uw{P:Prop}(h:P:=by
 simp only[Bool.false_and,bK,cH];omega):P:=h
def Yr{P:Prop}(h:P:=by
 refine⟨nE,_,_,bC rfl rfl,?_⟩;show V.bool _=V.bool _;congr 1;rw[hh,dZ av];rfl):P:=h
def Ux{P:Prop}(h:P:=by
 exact⟨m+1,av,by simpa using h2,by simpa using h3⟩):P:=h
def Ys{P:Prop}(h:P:=by
 exact⟨nE,_,_,bC rfl rfl,by exact aq V.bool (by rw[db];simp<;>omega)⟩):P:=h
def Uy{P:Prop}(h:P:=by
 have:=Q.bd j (dg.2 (.inr (.inr (.inl h))));omega):P:=h
def aa4{P:Prop}(h:P:=by
 repeat' simp only[gE,simprocAttr]
 exact⟨nE,I 0,_,bC rfl rfl,rfl,λ_=>⟨tG,R'⟩⟩):P:=h
def Yt{P:Prop}(h:P:=by
 rw[ax h]at Hy;subst Hy;simp only at Uz;subst Uz;simp only at he;subst he;exact .refl _):P:=h
def Yu{P:Prop}(h:P:=by
 show(W.heap.push ob)[b]?=_;rw[gO,al (ct h)]):P:=h
def Yv{P:Prop}(h:P:=by
 rw[ic (by simp only[ae];omega)];exact X5):P:=h
def aa5{P:Prop}(h:P:=by
 repeat' first|refine k7 ?_|refine q1 ?_
 all_goals exact .refl _):P:=h
def Yw{P:Prop}(h:P:=by
 exact⟨nE,I 6,_,bC rfl rfl,rfl,λh=>by cases h⟩):P:=h
def Yx{P:Prop}(h:P:=by
 simp only[bR,cm,sE,simprocAttr,o2]<;>rfl):P:=h
def Yy{P:Prop}(h:P:=by
 rw[eG];exact⟨n,by simpa using hn,by simp[h]⟩):P:=h
def Yz{P:Prop}(h:P:=by
 exact ak (aq I (by simp only[g8];rw[ax av]))):P:=h
def YA{P:Prop}(h:P:=by
 rw[dL];exact⟨λz h=>h4 z (h1 z h),av,av⟩):P:=h
def YB{P:Prop}(h:P:=by
 exact⟨rfl,by rw[bH.1 h];exact .aP _⟩):P:=h
def aa6{P:Prop}(h:P:=by
 exact⟨h4,by rw[br h4,fj,Hy];simpa⟩):P:=h
def ao:=@And.intro
def jI:=@Array.ext'
def pm:=@Array.ext_getElem?
def l7:=@Array.foldl_toList
def cL:=@Array.getD_eq_getD_getElem?
def kX:=@Array.getElem?_append
def il:=@Array.getElem?_append_left
def iC:=@Array.getElem?_eq_getElem
def gM:=@Array.getElem?_eq_none
def cF:=@Array.getElem?_eq_some_iff
def mW:=@Array.getElem?_extract
def pn:=@Array.getElem?_map
def dz:=@Array.getElem?_modify
def gO:=@Array.getElem?_push
def iL:=@Array.getElem?_replicate
def hP:=@Array.getElem?_setIfInBounds
def kj:=@Array.getElem?_setIfInBounds_ne
def dh:=@Array.getElem?_toList
def lg:=@Array.getElem_toList
def oD:=@Array.length_toList
def lT:=@Array.mapM_eq_mapM_toList
def lh:=@Array.mem_filter
def gV:=@Array.mem_iff_getElem
def nO:=@Array.replicate_succ
def nP:=@Array.replicate_zero
def kR:=@Array.size_append
def oE:=@Array.toList_append
def li:=@Array.toList_inj
def jU:=@Array.toList_map
def po:=@Array.toList_range
def oF:=@Array.toList_zipIdx
def ji:=@BitVec.toNat_ofInt
def mz:=@Bool.and_assoc
def iy:=@Bool.and_eq_false_iff
def be:=@Bool.and_eq_true
def nQ:=@Bool.and_eq_true_iff
def ku:=@Bool.and_self
def pI:=@Bool.and_true
def db:=@Bool.eq_iff_iff
def bK:=@Bool.false_eq_true
def ky:=@Bool.false_ne_true
def pJ:=@Bool.false_or
def tT:=@Bool.not_eq_false'
def gw:=@Bool.not_eq_true
def jC:=@Bool.not_eq_true'
def bB:=@Bool.not_false
def bM:=@Bool.not_true
def nR:=@Bool.or_eq_false_iff
def ib:=@Bool.or_eq_true
def pK:=@Bool.or_false
def tU:=@Bool.or_true
def hI:=@Bool.true_and
def tV:=@Bool.true_or
def mX:=@ByteArray.data_extract
def cM:=@Classical.byContradiction
def lI:=@Function.comp_apply
def fE:=@Int.eq_ofNat_of_zero_le
def fp:=@Int.lt_or_le
def qq:=@Int.lt_trans
def tW:=@Int.ofNat_lt
def oS:=@Int.ofNat_tdiv
def jQ:=@Int.ofNat_tmod
def jv:=@Int.tdiv_eq_ediv_of_nonneg
def l8:=@Int.tmod_lt_of_pos
def nS:=@Int.tmod_nonneg
def bX:=@Int.toNat_natCast
def oG:=@Int.toNat_of_nonneg
def rR:=@Int.toNat_zero
def fj:=@List.all_append
def bR:=@List.all_cons
def eG:=@List.all_eq_false
def bO:=@List.all_eq_true
def cm:=@List.all_nil
def mL:=@List.any_eq_false
def gv:=@List.any_eq_true
def aF:=@List.append_assoc
def cD:=@List.append_nil
def oH:=@List.append_toArray
def aZ:=@List.cons_append
def pp:=@List.contains_cons
def pQ:=@List.contains_nil
def lj:=@List.countP_cons
def nT:=@List.dropLast_concat
def i5:=@List.drop_append_of_le_length
def dF:=@List.drop_drop
def bG:=@List.drop_eq_getElem_cons
def cT:=@List.drop_eq_nil_of_le
def fX:=@List.drop_left
def jd:=@List.drop_length
def mY:=@List.drop_of_length_le
def cd:=@List.drop_succ_cons
def cy:=@List.drop_zero
def g2:=@List.eq_nil_of_length_eq_zero
def nl:=@List.ext_getElem
def iU:=@List.ext_getElem?
def gq:=@List.filter_append
def mZ:=@List.find?_cons_of_pos
def pr:=@List.find?_eq_none
def cx:=@List.flatMap_append
def ck:=@List.flatMap_cons
def je:=@List.flatMap_nil
def fx:=@List.flatten_append
def dl:=@List.flatten_cons
def jf:=@List.flatten_nil
def de:=@List.foldl_append
def dL:=@List.foldl_cons
def hT:=@List.forall_mem_cons
def dN:=@List.getD_cons_succ
def dO:=@List.getD_cons_zero
def ap:=@List.getD_eq_getElem?_getD
def tr:=@List.getD_nil
def fG:=@List.getElem?_append
def dH:=@List.getElem?_append_left
def dR:=@List.getElem?_append_right
def ez:=@List.getElem?_cons_succ
def ey:=@List.getElem?_cons_zero
def cY:=@List.getElem?_drop
def aa:=@List.getElem?_eq_getElem
def b1:=@List.getElem?_eq_none
def aH:=@List.getElem?_eq_some_iff
def bw:=@List.getElem?_map
def lJ:=@List.getElem?_range
def kQ:=@List.getElem?_set
def iM:=@List.getElem?_set_ne
def ii:=@List.getElem?_set_self
def dB:=@List.getElem?_take
def fy:=@List.getElem?_toArray
def lU:=@List.getElem?_zip_eq_some
def ej:=@List.getElem_append_left
def gP:=@List.getElem_append_right
def cP:=@List.getElem_cons_succ
def cw:=@List.getElem_cons_zero
def mM:=@List.getElem_drop
def dK:=@List.getElem_map
def ah:=@List.getElem_mem
def ja:=@List.getElem_of_mem
def nn:=@List.getElem_set
def nC:=@List.getElem_set_self
def iV:=@List.getElem_take
def lV:=@List.getLast?_eq_some_iff
def nU:=@List.headD_cons
def ae:=@List.length_append
def aM:=@List.length_cons
def aS:=@List.length_drop
def bH:=@List.length_eq_zero_iff
def fY:=@List.length_filter_le
def au:=@List.length_map
def iz:=@List.length_mergeSort
def aX:=@List.length_nil
def oI:=@List.length_pos_iff
def rS:=@List.length_replicate
def oJ:=@List.length_reverse
def fH:=@List.length_set
def ew:=@List.length_singleton
def aG:=@List.length_take
def mA:=@List.mapM_cons
def az:=@List.map_append
def kh:=@List.map_congr_left
def bt:=@List.map_cons
def gG:=@List.map_drop
def lK:=@List.map_eq_nil_iff
def jV:=@List.map_map
def cV:=@List.map_nil
def nV:=@List.map_set
def pt:=@List.map_singleton
def jw:=@List.map_take
def aN:=@List.mem_append
def bV:=@List.mem_append_left
def aU:=@List.mem_append_right
def bn:=@List.mem_cons
def dw:=@List.mem_cons_of_mem
def g9:=@List.mem_cons_self
def jt:=@List.mem_filter
def dC:=@List.mem_flatMap
def np:=@List.mem_flatten
def hU:=@List.mem_iff_getElem
def fZ:=@List.mem_iff_getElem?
def cB:=@List.mem_map
def lL:=@List.mem_map_of_mem
def bW:=@List.mem_of_getElem?
def nW:=@List.mem_of_getLast?
def jJ:=@List.mem_of_mem_drop
def dQ:=@List.mem_of_mem_take
def cN:=@List.mem_or_eq_of_mem_set
def dm:=@List.mem_range
def l9:=@List.mem_replicate
def aR:=@List.mem_singleton
def bm:=@List.nil_append
def aO:=@List.nodup_append
def jR:=@List.nodup_nil
def cE:=@List.not_mem_nil
def jK:=@List.pairwise_append
def eu:=@List.pairwise_cons
def dX:=@List.range_succ
def m0:=@List.range_succ_eq_map
def fS:=@List.replicate_succ
def lM:=@List.replicate_zero
def nD:=@List.set_append_right
def ay:=@List.set_cons_succ
def aw:=@List.set_cons_zero
def gh:=@List.set_eq_take_append_cons_drop
def iA:=@List.set_getElem_self
def kS:=@List.size_toArray
def b8:=@List.take_append_drop
def eX:=@List.take_append_of_le_length
def gN:=@List.take_left
def bg:=@List.take_length
def aE:=@List.take_of_length_le
def fT:=@List.take_succ_cons
def iu:=@List.take_succ_eq_append_getElem
def fi:=@List.take_zero
def lN:=@List.toList_toArray
def cn:=@Nat.add_assoc
def dJ:=@Nat.add_mul
def kz:=@Nat.add_sub_cancel
def ko:=@Nat.add_sub_cancel_left
def di:=@Nat.add_zero
def lW:=@Nat.div_add_mod
def kJ:=@Nat.div_div_eq_div_mul
def ll:=@Nat.div_eq_of_lt
def iB:=@Nat.div_lt_iff_lt_mul
def rj:=@Nat.div_one
def pw:=@Nat.eq_or_lt_of_le
def cZ:=@Nat.eq_zero_or_pos
def lc:=@Nat.le_add_right
def bE:=@Nat.le_of_ble_eq_true
def c0:=@Nat.le_of_eq
def kY:=@Nat.le_of_lt
def h7:=@Nat.le_of_lt_succ
def an:=@Nat.le_refl
def fO:=@Nat.le_succ
def eU:=@Nat.le_succ_of_le
def aT:=@Nat.le_trans
def rk:=@Nat.le_zero
def rU:=@Nat.lt_add_one
def kv:=@Nat.lt_irrefl
def mc:=@Nat.lt_of_le_of_lt
def bj:=@Nat.lt_of_lt_of_le
def gr:=@Nat.lt_or_eq_of_le
def am:=@Nat.lt_or_ge
def dn:=@Nat.lt_succ_self
def dM:=@Nat.min_eq_left
def lX:=@Nat.min_le_left
def fI:=@Nat.mod_lt
def jX:=@Nat.mul_comm
def oP:=@Nat.mul_le_mul
def oK:=@Nat.mul_le_mul_left
def cj:=@Nat.mul_le_mul_right
def kK:=@Nat.mul_one
def qr:=@Nat.mul_succ
def ct:=@Nat.ne_of_lt
def gQ:=@Nat.not_lt_zero
def oL:=@Nat.pos_iff_ne_zero
def rl:=@Nat.pow_pos
def nX:=@Nat.pow_succ
def iN:=@Nat.sub_self
def hA:=@Nat.sub_zero
def lr:=@Nat.succ_le_succ
def dG:=@Nat.succ_mul
def jY:=@Nat.succ_pos
def cA:=@Nat.zero_add
def aL:=@Nat.zero_le
def nY:=@Nat.zero_lt_one
def hY:=@Ne.symm
def mH:=@Option.bind_eq_some_iff
def gx:=@Option.bind_some
def fo:=@Option.getD_none
def bf:=@Option.getD_some
def me:=@Option.isSome_iff_exists
def cG:=@Option.isSome_none
def fg:=@Option.isSome_some
def bS:=@Option.map_eq_some_iff
def jr:=@Option.map_none
def bF:=@Option.map_some
def jD:=@Option.mem_toList
def ar:=@Option.some.inj
def co:=@Option.some.injEq
def ek:=@Prod.mk.injEq
def px:=@UInt8.toNat_ofNat'
def AD:=@and_false
def oQ:=@and_self
def bL:=@and_true
def kA:=@beq_eq_false_iff_ne
def i4:=@beq_iff_eq
def lY:=@beq_self_eq_true
def tX:=@bne_eq_false_iff_eq
def tY:=@bne_iff_ne
def aq:=@congrArg
def nF:=@congrFun
def nZ:=@decide_eq_decide
def dZ:=@decide_eq_false
def ij:=@decide_eq_false_iff_not
def dk:=@decide_eq_true
def cq:=@decide_eq_true_eq
def m7:=@decide_false
def wQ:=@decide_true
def tZ:=@dif_pos
def ix:=@eq_comm
def ua:=@eq_true
def AE:=@false_and
def jZ:=@false_implies
def rV:=@false_or
def jP:=@getElem!_pos
def cH:=@if_false
def al:=@if_neg
def ax:=@if_pos
def bP:=@if_true
def kL:=@implies_true
def qd:=@ite_self
def lS:=@not_or
def pR:=@of_decide_eq_false
def lu:=@of_decide_eq_true
def pL:=@or_congr_right
def gL:=@or_false
def cK:=@true_and
inductive V where
 |unk
 |qn
 |int (k:IntKind) (n:Int)
 |bool (b:Bool)
 |str (s:List UInt8)
 |sl (sz:Nat) (xs:List V)
 |aP
 |lv
 |lp (s g off:Nat)
 |bp (id off:Nat)
 |ep (cells:List V)
 |mp (id:Nat)
 |qs
 |fn (f:FuncId) (cap:List V)
 |wR
 |Hz (t:TypeId) (v:V)
 |zL
 |agg (cells:List V)
 |hJ (vs:List V)
 |ms (sz id off len cap:Nat)
 |em (ks vs:List V)
abbrev aj:=Nat->Option (List V)
def V.cells:V->List V
 |.agg cs=>cs
 |v=>[v]
def V.one:V->Bool
 |.unk|.qn|.agg _|.hJ _|.lp .. =>false
 |_=>true
inductive Loc where
 |var (t:Nat)
 |cell (s g j:Nat)
 |iK (id j:Nat)
 |ret
 deriving DecidableEq
inductive eT where
 |free
 |g3 (x:Value)
 |ext
 |sx (s g:Nat)
 |eh (id:Nat)
 |tail (l:Loc)
 |junk
 |oO (id:Nat)
 |eY (ob:Obj)
 |rG
structure aY where
 bJ:Nat->Nat->eT
 lb:Nat->Nat->Option Nat
 hb:Nat->Option Nat
mutual
def V.free:V->Bool
 |.bp .. |.mp .. |.ms .. |.lp .. |.unk=>false
 |.sl _ a=>hZ a
 |.ep a=>hZ a
 |.fn _ a=>hZ a
 |.Hz _ u=>u.free
 |.agg a=>hZ a
 |.hJ a=>hZ a
 |.em d f=>hZ d&&hZ f
 |_=>true
def hZ:List V->Bool
 |[]=>true
 |u::r=>u.free&&hZ r
end
def kZ:∀{l:List V} {j:Nat} {c:V},hZ l=true->l[j]?=some c->c.free=true
 |[],_,_,_,h=>by simp at h
 |u::r,j,c,a,h=>by
  simp only[hZ,be]at a;cases j with
  |zero=>simp at h;subst h;exact a.1
  |succ j=>simp at h;exact kZ a.2 h
def HB{v:V}(h:v.free=true){j:Nat}{c:V}(a:v.cells[j]?=some c):c.free=true:=by
 unfold V.cells at a;split at a
 .rw[V.free]at h;exact kZ h a
 .cases j with
  |zero=>simp at a;subst a;exact h
  |succ j=>simp at a
inductive VR(g:aY):V->Value->Prop where
 |unk (x):VR g .unk x
 |qn:VR g .qn undef
 |int (k n):VR g (.int k n) (.int k n)
 |bool (b):VR g (.bool b) (.bool b)
 |str (s):VR g (.str s) (.string ⟨s.toArray⟩)
 |aP:VR g .aP (.slice none 0 0)
 |slnil (sz):VR g (.sl sz []) (.slice none 0 0)
 |sl (sz xs) (a:Addr) (cap:Nat) (ys:Nat->Value) (hs:a.spot=none) (hc:xs.length<=cap)
  (hz:∀(i:Nat) v,xs[i]?=some v->v.cells.length=sz)
  (hi:∀k,k<xs.length*sz->g.bJ a.block (a.off+k)=.g3 (ys k))
  (ho:∀(i:Nat) v (j:Nat) c,xs[i]?=some v->v.cells[j]?=some c->c.one=true)
  (hr:∀(i:Nat) v (j:Nat) c,xs[i]?=some v->v.cells[j]?=some c->VR g c (ys (i*sz+j))):
  VR g (.sl sz xs) (.slice (some a) xs.length cap)
 |lv:VR g .lv (.pointer none)
 |bp (id off b) (h:g.hb id=some b):VR g (.bp id off) (.pointer (some ⟨b,off,none⟩))
 |ep (cells) (a:Addr) (ys:Nat->Value) (hs:a.spot=none)
  (hi:∀k,k<cells.length->g.bJ a.block (a.off+k)=.g3 (ys k))
  (ho:∀(j:Nat) c,cells[j]?=some c->c.one=true)
  (hr:∀(j:Nat) c,cells[j]?=some c->VR g c (ys j)):
  VR g (.ep cells) (.pointer (some a))
 |mp (id b) (h:g.hb id=some b):VR g (.mp id) (.map (some b))
 |qs:VR g .qs (.map none)
 |fn (f cap) (xs:Array Value) (hl:xs.size=cap.length)
  (hr:∀(j:Nat) c x,cap[j]?=some c->xs[j]?=some x->VR g c x):VR g (.fn f cap) (.func (.func f) #[] xs)
 |wR:VR g .wR .nilFunc
 |Hz (t v x) (h:VR g v x):VR g (.Hz t v) (.iface t x)
 |zL:VR g .zL .nilIface
 |agg (cs) (xs:Array Value) (hl:xs.size=cs.length) (ho:∀(j:Nat) c,cs[j]?=some c->c.one=true)
  (hr:∀(j:Nat) c x,cs[j]?=some c->xs[j]?=some x->VR g c x):VR g (.agg cs) (.agg xs)
 |hJ (vs) (xs:Array Value) (hl:xs.size=vs.length)
  (hr:∀(j:Nat) c x,vs[j]?=some c->xs[j]?=some x->VR g c x):VR g (.hJ vs) (.tuple xs)
 |ms (sz id off len cap b) (h:g.hb id=some b) (hc:len<=cap):VR g (.ms sz id off len cap) (.slice (some ⟨b,off,none⟩) len cap)
 |FJ (sz id off p) (E:∀a:Addr,p=some a->a.spot=none):VR g (.ms sz id off 0 0) (.slice p 0 0)
 |em (ks vs b es c) (h:g.bJ b 0=.eY (.map es c)) (hk:es.size=ks.length) (hv:es.size=vs.length)
  (hrk:∀(j:Nat) u e,ks[j]?=some u->es[j]?=some e->VR g u e.key)
  (hrv:∀(j:Nat) u e,vs[j]?=some u->es[j]?=some e->VR g u e.val):VR g (.em ks vs) (.map (some b))
structure aY.Le(g g':aY):Prop where
 g3:∀b o x,g.bJ b o=.g3 x->g'.bJ b o=.g3 x
 eY:∀b ob,g.bJ b 0=.eY ob->g'.bJ b 0=.eY ob
 hb:∀id b,g.hb id=some b->g'.hb id=some b
def aY.Le.refl(g:aY):g.Le g:=⟨λ_ _ _ h=>h,λ_ _ h=>h,λ_ _ h=>h⟩
def aY.Le.trans{g g' a:aY}(h:g.Le g')(d:g'.Le a):g.Le a:=
 ⟨λb o x e=>d.g3 b o x (h.g3 b o x e),λb o e=>d.eY b o (h.eY b o e),λi b e=>d.hb i b (h.hb i b e)⟩
def VR.mono{g g':aY}(h:g.Le g'){v:V}{x:Value}(r:VR g v x):VR g' v x:=by
 induction r with
 |unk x=>exact .unk x
 |qn=>exact .qn
 |int k n=>exact .int k n
 |bool b=>exact .bool b
 |str s=>exact .str s
 |aP=>exact .aP
 |slnil sz=>exact .slnil sz
 |sl sz d a cap u y z L A j q ih=>exact .sl sz d a cap u y z L (λk l=>h.g3 _ _ _ (A k l)) j ih
 |lv=>exact .lv
 |bp id off b e=>exact .bp id off b (h.hb _ _ e)
 |ep cells a u y A j q ih=>exact .ep cells a u y (λk l=>h.g3 _ _ _ (A k l)) j ih
 |mp id b e=>exact .mp id b (h.hb _ _ e)
 |qs=>exact .qs
 |fn f cap d o q ih=>exact .fn f cap d o ih
 |wR=>exact .wR
 |Hz t v x hx ih=>exact .Hz t v x ih
 |zL=>exact .zL
 |agg cs d o j q ih=>exact .agg cs d o j ih
 |hJ D d o q ih=>exact .hJ D d o ih
 |ms sz id off len cap b e z=>exact .ms sz id off len cap b (h.hb _ _ e) z
 |FJ sz id off p E=>exact .FJ sz id off p E
 |em N D b P c e l r Q R H K=>exact .em N D b P c (h.eY _ _ e) l r H K
def VR.x0{g g':aY}(Q:∀b o x,g.bJ b o=.g3 x->g'.bJ b o=.g3 x)(h2:∀b ob,g.bJ b 0=.eY ob->g'.bJ b 0=.eY ob){v:V}{x:Value}(H:VR g v x):v.free=true->VR g' v x:=by
 induction H with
 |unk x=>intro d;simp[V.free]at d
 |qn=>intro _;exact .qn
 |int k n=>intro _;exact .int k n
 |bool b=>intro _;exact .bool b
 |str s=>intro _;exact .str s
 |aP=>intro _;exact .aP
 |slnil sz=>intro _;exact .slnil sz
 |sl sz r a cap K L R ad N y D ih=>
  intro d;rw[V.free]at d;exact .sl sz r a cap K L R ad (λk z=>Q _ _ _ (N k z)) y (λi v j c l q=>ih i v j c l q (HB (kZ d l) q))
 |lv=>intro _;exact .lv
 |bp id off b e=>intro d;simp[V.free]at d
 |ep cells a K L N y D ih=>
  intro d;rw[V.free]at d;exact .ep cells a K L (λk z=>Q _ _ _ (N k z)) y (λj c e=>ih j c e (kZ d e))
 |mp id b e=>intro d;simp[V.free]at d
 |qs=>intro _;exact .qs
 |fn f cap r A D ih=>
  intro d;rw[V.free]at d;exact .fn f cap r A (λj c x l q=>ih j c x l q (kZ d l))
 |wR=>intro _;exact .wR
 |Hz t v x hx ih=>intro d;rw[V.free]at d;exact .Hz t v x (ih d)
 |zL=>intro _;exact .zL
 |agg cs r A y D ih=>
  intro d;rw[V.free]at d;exact .agg cs r A y (λj c x l q=>ih j c x l q (kZ d l))
 |hJ P r A D ih=>
  intro d;rw[V.free]at d;exact .hJ P r A (λj c x l q=>ih j c x l q (kZ d l))
 |ms sz id off len cap b e R=>intro d;simp[V.free]at d
 |FJ sz id off p E=>intro d;simp[V.free]at d
 |em ai P b aA c e z H aB aC ab ac=>
  intro d;rw[V.free,be]at d;exact .em ai P b aA c (h2 _ _ e) z H (λj u e l q=>ab j u e l q (kZ d.1 l)) (λj u e l q=>ac j u e l q (kZ d.2 l))
def VR.one{g:aY}{v:V}{x:Value}(h:VR g v x)(a:v.one=true):x.cells=#[x]/\x.oneCell'=true:=by
 cases h<;>first|(simp[V.one]at a;done)|exact⟨rfl,rfl⟩
inductive MO where
 |map (kvs:List (V×V))
 |walk (m n:Nat) (seen:List Nat)
 |raw (ob:Obj)
def u9:Obj->Bool
 |.cells .. =>true
 |_=>false
structure aK where
 box:Nat->Option (List V)
 fl:Nat->Nat->Bool
 mp:Nat->Option MO:=λ_=>none
 Y:Nat:=0
structure St where
 n:Nat
 Z:Nat->V
 lk:Nat->Option Loc
 fl:Nat->Bool
 loc:Nat->Nat->List V
 fc:Nat->Nat->Nat->Bool
 G:Nat->Nat
 E:aK
def cl(b o:Nat):Addr:=⟨b,o,none⟩
def dS(g:aY)(w:World)(l:Loc)(v:V)(x:Value):Prop:=
 ∀sz d a len cap,v=.sl sz d->x=.slice (some a) len cap->∀k,len*sz<=k->k<cap*sz->
  g.bJ a.block (a.off+k)=.tail l/\(∃u,w.cell? (cl a.block (a.off+k))=some u)/\w.frozen? (cl a.block (a.off+k))=false
structure qe(GL:aj)(g:aY)(w:World):Prop where
 kp:∀n cells,GL n=some cells->VR g (.ep cells) (.pointer (some ⟨n,0,none⟩))
 g3:∀b o x,g.bJ b o=.g3 x->w.cell? (cl b o)=some x
 eY:∀b ob,g.bJ b 0=.eY ob->w.heap[b]?=some ob/\u9 ob=false
 ir:∀b o,g.bJ b o≠.free->b<w.heap.size
 kB:∀n cells,GL n=some cells->(V.ep cells).free=true
structure fQ(g:aY)(w:World)(b:Nat)(ow:eT)(cells:List V):Prop where
 mf:∀j,g.bJ b j=ow
 cell:∀(j:Nat) c,cells[j]?=some c->c.one=true/\∃x,w.cell? (cl b j)=some x/\VR g c x
 kl:∀j,w.frozen? (cl b j)=false
def fQ.bJ{g:aY}{w:World}{b:Nat}{ow:eT}{cells:List V}(h:fQ g w b ow cells):∀j,j<cells.length->g.bJ b j=ow:=λj _=>h.mf j
def fQ.free{g:aY}{w:World}{b:Nat}{ow:eT}{cells:List V}(h:fQ g w b ow cells):∀j,j<cells.length->w.frozen? (cl b j)=false:=λj _=>h.kl j
structure wS(g:aY)(kvs:List (V×V))(es:Array MapEntry)(c:Nat):Prop where
 len:es.size=kvs.length
 key:∀(j:Nat) u e,kvs[j]?=some u->es[j]?=some e->VR g u.1 e.key
 val:∀(j:Nat) u e,kvs[j]?=some u->es[j]?=some e->VR g u.2 e.val
 born:∀(j:Nat) e,es[j]?=some e->e.born=j
 MI:c=es.size
def MR(g:aY):MO->Obj->Prop
 |.map kvs,a=>∃d c,a=.map d c/\wS g kvs d c
 |.walk m n seen,a=>∃b,g.hb m=some b/\a=.mapIter (some b) n seen.toArray n
 |.raw o,a=>a=o
structure HR(g:aY)(h:aK)(w:World):Prop where
 box:∀id cells,h.box id=some cells->∃b,g.hb id=some b/\fQ g w b (.eh id) cells
 tail:∀id cells j c b x,h.box id=some cells->h.fl id j=true->cells[j]?=some c->g.hb id=some b->w.cell? (cl b j)=some x->dS g w (.iK id j) c x
 map:∀id mo,h.mp id=some mo->∃b ob,g.hb id=some b/\g.bJ b 0=.oO id/\w.heap[b]?=some ob/\u9 ob=false/\MR g mo ob
 Y:∀id,h.Y<=id->g.hb id=none
def ER(g:aY)(v:V)(x:Value):Prop:=
 match v with
 |.lp s a off=>∃b,g.lb s a=some b/\x=.pointer (some ⟨b,off,none⟩)
 |v=>VR g v x
def dfK(k:Nat):Bool:=k==155
def IsC(d:Deferred):Prop:=∃(k:Nat)(a f j:Value),dfK k=true/\d={target:=.fn (.func k) #[a,f,j],args:=#[]}
def rW(g:aY)(w:World)(ds:List Deferred):Prop:=
 (∀d∈ds,(∃D,d={target:=.collected D,args:=#[]}/\g.bJ D 0=.rG/\w.heap[D]?=some (.deferred (some [])))\/IsC d)/\ds.Pairwise λd a=>d≠a\/IsC d
def rW.nil{g:aY}{w:World}:rW g w []:=⟨by intro d a;(cases a),.nil⟩
def rW.mono{g g':aY}{w w':World}{ds:List Deferred}(h:rW g w ds)(a:∀D,g.bJ D 0=.rG->w.heap[D]?=some (.deferred (some []))->g'.bJ D 0=.rG/\w'.heap[D]?=some (.deferred (some []))):rW g' w' ds:=
 ⟨λd f=>(h.1 d f).imp (λ⟨D,j,l,o⟩=>⟨D,j,a D l o⟩) id,h.2⟩
def rW.cons{g:aY}{w:World}{ds:List Deferred}{d:Deferred}(h:rW g w ds)(a:IsC d):rW g w (d::ds):=
 ⟨λe f=>(bn.1 f).elim (λj=>.inr (j▸a)) (h.1 e),eu.2 ⟨λ_ _=>.inr a,h.2⟩⟩
structure Rel(GL:aj)(g:aY)(s:St)(a:Act)(w:World):Prop where
 size:a.tmps.size=s.n
 gi:rW g w a.defers
 Z:∀t,ER g (s.Z t) (a.tmps.getD t undef)
 gF:qe GL g w
 heap:HR g s.E w
 loc:∀st gn,gn<s.G st->∃b,g.lb st gn=some b/\fQ g w b (.sx st gn) (s.loc st gn)
 jc:∀st gn,s.G st<=gn->g.lb st gn=none
 jx:∀t,s.fl t=true->dS g w (.var t) (s.Z t) (a.tmps.getD t undef)
 gH:∀st gn j c b x,s.fc st gn j=true->(s.loc st gn)[j]?=some c->g.lb st gn=some b->w.cell? (cl b j)=some x->dS g w (.cell st gn j) c x
 j0:∀t u,s.lk t=some (.var u)->a.tmps.getD t undef=a.tmps.getD u undef/\s.Z t=s.Z u
 gI:∀t st gn j,s.lk t=some (.cell st gn j)->gn<s.G st/\∀b,g.lb st gn=some b->w.cell? (cl b j)=some (a.tmps.getD t undef)/\(s.loc st gn)[j]?=some (s.Z t)
 ie:∀t id j,s.lk t=some (.iK id j)->∃cells,s.E.box id=some cells/\cells[j]?=some (s.Z t)/\∀b,g.hb id=some b->w.cell? (cl b j)=some (a.tmps.getD t undef)
structure CM(c:Prop)(w w':World):Prop where
 tape:w'.tape=w.tape
 os:w'.os=w.os
 out:w'.output=w.output
 drawn:c->w.drawn<=w'.drawn
def CM.refl{c:Prop}(w:World):CM c w w:=⟨rfl,rfl,rfl,λ_=>an _⟩
def CM.trans{c c':Prop}{w w' d:World}(h:CM c w w')(a:CM c' w' d)(f:c->c'):CM c w d:=⟨a.tape.trans h.tape,a.os.trans h.os,a.out.trans h.out,λe=>aT (h.drawn e) (a.drawn (f e))⟩
def eT.old(o:eT):Prop:=o=.ext\/∃x,o=.g3 x
structure Step(g:aY)(w:World)(g':aY)(w':World):Prop where
 g3:∀b o x,g.bJ b o=.g3 x->g'.bJ b o=.g3 x
 eY:∀b ob,g.bJ b 0=.eY ob->g'.bJ b 0=.eY ob
 hb:∀id b,g.hb id=some b->g'.hb id=some b
 ext:∀b o,g.bJ b o=.ext->g'.bJ b o=.ext/\w'.cell? (cl b o)=w.cell? (cl b o)/\w'.frozen? (cl b o)=w.frozen? (cl b o)
 n5:∀b ob,g.bJ b 0=.ext->u9 ob=false->w.heap[b]?=some ob->w'.heap[b]?=some ob
 rm:∀b o,g'.bJ b o=.ext->b<w.heap.size->g.bJ b o=.ext
 size:w.heap.size<=w'.heap.size
 gY:CM (g.bJ 0 0=.ext) w w'
 whole:∀b,b<w.heap.size->(∀o,(g.bJ b o).old)->w'.heap[b]?=w.heap[b]?
def Step.refl(g:aY)(w:World):Step g w g w:=
 ⟨λ_ _ _ h=>h,λ_ _ h=>h,λ_ _ h=>h,λ_ _ h=>⟨h,rfl,rfl⟩,λ_ _ _ _ h=>h,λ_ _ h _=>h,an _,.refl _,λ_ _ _=>rfl⟩
def Step.trans{g g' d:aY}{w w' f:World}(h:Step g w g' w')(a:Step g' w' d f):Step g w d f where
 g3 b o x e:=a.g3 b o x (h.g3 b o x e)
 eY b o e:=a.eY b o (h.eY b o e)
 hb i b e:=a.hb i b (h.hb i b e)
 n5 b j e i hm:=a.n5 b j (h.ext b 0 e).1 i (h.n5 b j e i hm)
 ext b o e:=by
  obtain⟨l,p,f1⟩:=h.ext b o e;obtain⟨r,t,u⟩:=a.ext b o l;exact⟨r,t.trans p,u.trans f1⟩
 rm b o e hb:=h.rm b o (a.rm b o e (bj hb h.size)) hb
 size:=aT h.size a.size
 gY:=h.gY.trans a.gY λe=>(h.ext 0 0 e).1
 whole b hb e:=(a.whole b (bj hb h.size) λo=>(e o).elim (λq=>.inl (h.ext b o q).1) λ⟨x,q⟩=>.inr ⟨x,h.g3 b o x q⟩).trans (h.whole b hb e)
def Step.le{g g':aY}{w w':World}(h:Step g w g' w'):g.Le g':=⟨h.g3,h.eY,h.hb⟩
inductive eL where
 |tmp (t:Nat)
 |const (v:V)
 |kp (cells:List V)
def Aa:Value->Option V
 |.int k n=>some (.int k n)
 |.bool b=>some (.bool b)
 |.string s=>some (.str s.data.toList)
 |.slice none 0 0=>some .aP
 |.pointer none=>some .lv
 |.map none=>some .qs
 |.nilFunc=>some .wR
 |.nilIface=>some .zL
 |_=>none
def qt:List Value->Option (List V)
 |[]=>some []
 |x::r=>match Aa x,qt r with
  |some v,some a=>some (v::a)
  |_,_=>none
def AF:Value->Option V
 |.agg cs=>(qt cs.toList).map .agg
 |x=>Aa x
inductive CK where
 |i|b|s
inductive wa where
 |move (x:eL)
 |pick (c a b:eL)
 |load (agg:Bool) (n:Nat) (addr:eL)
 |nilCheck (x:eL)
 |bin (op:BinOp) (x y:eL)
 |Ws (neg:Bool) (x y:eL)
 |Wt (neg:Bool) (x y:eL)
 |eqc (neg:Bool) (ks:List CK) (x y:eL)
 |un (op:UnOp) (x:eL)
 |toInt (k:IntKind) (x:eL)
 |same (x:eL)
 |Dc (x:eL)
 |cut (sz:Nat) (x:eL) (lo hi:Option eL)
 |Eu (x:eL) (lo hi:Option eL)
 |nL (n:Nat) (x:eL)
 |fieldAddr (off:Nat) (x:eL)
 |field (agg:Bool) (off n:Nat) (x:eL)
 |sy (sz:Nat) (x i:eL)
 |rX (len sz:Nat) (x i:eL)
 |x1 (x i:eL)
 |uc (agg:Bool) (len sz:Nat) (x i:eL)
 |len (x:eL)
 |cap (x:eL)
 |MJ (x:eL)
 |MK (n:Nat)
 |extract (x:eL) (i:Nat)
 |build (abU:List V) (parts:List (Nat×Nat×eL))
 |AG (f:FuncId) (caps:List eL)
 |wT (t:TypeId) (x:eL)
 |min2 (x y:eL)
 |max2 (x y:eL)
def St.val(s:St):eL->V
 |.tmp t=>s.Z t
 |.const v=>v
 |.kp cells=>.ep cells
def St.iO(s:St):V->Option (List V)
 |.lp st a off=>if a<s.G st then(if off<=(s.loc st a).length then some ((s.loc st a).drop off)else none)else none
 |.bp id off=>match s.E.box id with
  |some cs=>if off<=cs.length then some (cs.drop off)else none
  |none=>none
 |.ep cells=>some cells
 |_=>none
def ML(op:BinOp)(k:IntKind)(x y:Int):Option V:=
 match op with
 |.add=>some (.int k (k.wrap (x+y)))
 |.sub=>some (.int k (k.wrap (x-y)))
 |.mul=>some (.int k (k.wrap (x*y)))
 |.quo=>if y=0 then none else some (.int k (k.wrap (x.tdiv y)))
 |.rem=>if y=0 then none else some (.int k (x.tmod y))
 |.and=>some (.int k (k.wrap ((BitVec.ofInt k.bits x&&& BitVec.ofInt k.bits y).toNat:Nat)))
 |.or=>some (.int k (k.wrap ((BitVec.ofInt k.bits x|||BitVec.ofInt k.bits y).toNat:Nat)))
 |.xor=>some (.int k (k.wrap ((BitVec.ofInt k.bits x ^^^ BitVec.ofInt k.bits y).toNat:Nat)))
 |.andNot=>some (.int k (k.wrap ((BitVec.ofInt k.bits x&&& ~~~(BitVec.ofInt k.bits y)).toNat:Nat)))
 |.shl=>none
 |.shr=>none
 |.eql=>some (.bool (x==y))
 |.neq=>some (.bool (x !=y))
 |.lss=>some (.bool (x<y))
 |.leq=>some (.bool (x<=y))
 |.gtr=>some (.bool (x>y))
 |.geq=>some (.bool (x>=y))
def Tq(op:BinOp)(x y:List UInt8):Option V:=
 match op with
 |.add=>if x.length+y.length<=4611686018427387904 then some (.str (x++y))else none
 |.eql=>some (.bool (x==y))
 |.neq=>some (.bool (!(x==y)))
 |.lss=>some (.bool (Op.bytesLess x y))
 |.leq=>some (.bool (Op.bytesLess x y||x==y))
 |.gtr=>some (.bool (!(Op.bytesLess x y||x==y)))
 |.geq=>some (.bool (!(Op.bytesLess x y)))
 |_=>none
def oa(op:BinOp):V->V->Option V
 |.int k x,.int a y=>
  match op with
  |.shl=>if y<0 then none else some (.int k (k.wrap (x*2 ^(min y.toNat k.bits))))
  |.shr=>if y<0 then none else some (.int k (x.fdiv (2 ^(min y.toNat k.bits))))
  |_=>if k=a then ML op k x y else none
 |.str x,.str y=>Tq op x y
 |_,_=>none
def x2:V->Option Bool
 |.lv=>some true
 |.bp _ _|.lp _ _ _|.ep _=>some false
 |_=>none
def oR:CK->V->V->Option Bool
 |.i,.int k x,.int a y=>if k=a then some (x==y)else none
 |.s,.str x,.str y=>some (x==y)
 |.b,.bool x,.bool y=>some (x==y)
 |_,_,_=>none
def dI:List CK->List V->List V->Option Bool
 |[],[],[]=>some true
 |k::d,a::r,b::q=>match oR k a b,dI d r q with
  |some x,some y=>some (x&&y)
  |_,_=>none
 |_,_,_=>none
def bytesOf:List V->Option (List UInt8)
 |[]=>some []
 |.int .u8 n::r=>(bytesOf r).map (UInt8.ofNat n.toNat::·)
 |_=>none
def idxOf:V->Option Nat
 |.int _ n=>if 0<=n then some n.toNat else none
 |_=>none
def tu(s:St)(len:Nat)(lo a:Option eL):Option (Nat×Nat):=
 match(match a with|some h=>idxOf (s.val h)|none=>some len),(match lo with|some l=>idxOf (s.val l)|none=>some 0)with
 |some h,some l=>if l<=h/\h<=len then some (l,h)else none
 |_,_=>none
def ud(s:St)(len cap:Nat)(lo a:Option eL):Option (Nat×Nat):=
 match(match a with|some h=>idxOf (s.val h)|none=>some len),(match lo with|some l=>idxOf (s.val l)|none=>some 0)with
 |some h,some l=>if l<=h/\h<=cap then some (l,h)else none
 |_,_=>none
def jW(n:Nat)(v:V):Bool:=v.cells.length==n&&v.cells.all V.one
def aQ(cells:List V)(off:Nat):List V->List V
 |[]=>cells
 |c::r=>aQ (cells.set off c) (off+1) r
def jS(s:St):List V->List (Nat×Nat×eL)->Option (List V)
 |cells,[]=>some cells
 |cells,(off,n,x)::r=>
  if jW n (s.val x)=true/\off+n<=cells.length then jS s (aQ cells off (s.val x).cells) r else none
def dv(s:St):wa->Option V
 |.move x|.same x=>some (s.val x)
 |.pick c a b=>match s.val c with
  |.bool t=>some (if t then s.val a else s.val b)
  |_=>none
 |.load true n addr=>match s.iO (s.val addr)with
  |some cs=>if n<=cs.length then some (.agg (cs.take n))else none
  |none=>none
 |.load false _ addr=>match s.iO (s.val addr)with
  |some (c::_)=>some c
  |_=>none
 |.nilCheck x=>match s.val x with
  |.lp st p off=>some (.lp st p off)
  |.bp id off=>some (.bp id off)
  |.ep cells=>some (.ep cells)
  |_=>none
 |.bin op x y=>oa op (s.val x) (s.val y)
 |.Ws neg x y=>match s.val x,s.val y with
  |.bool a,.bool b=>some (.bool (if neg then !(a==b)else a==b))
  |_,_=>none
 |.Wt neg x y=>match x2 (s.val x),x2 (s.val y)with
  |some true,some b=>some (.bool (if neg then !b else b))
  |some b,some true=>some (.bool (if neg then !b else b))
  |_,_=>none
 |.eqc neg u x y=>match s.val x,s.val y with
  |.agg a,.agg b=>(dI u a b).map λt=>.bool (if neg then !t else t)
  |_,_=>none
 |.un op x=>match op,s.val x with
  |.neg,.int k n=>some (.int k (k.wrap (0-n)))
  |.not,.bool b=>some (.bool !b)
  |.xor,.int k n=>some (.int k (k.wrap ((BitVec.ofInt k.bits (if k.signed then -1 else k.max) ^^^ BitVec.ofInt k.bits n).toNat:Nat)))
  |_,_=>none
 |.toInt k x=>match s.val x with
  |.int _ n=>some (.int k (k.wrap n))
  |_=>none
 |.Dc x=>match s.val x with
  |.sl 1 j=>(bytesOf j).map .str
  |.aP=>some (.str [])
  |_=>none
 |.Eu x lo q=>match s.val x with
  |.str l=>(tu s l.length lo q).map λ(a,b)=>.str ((l.drop a).take (b-a))
  |_=>none
 |.cut sz x lo q=>match s.val x with
  |.sl d j=>if sz=d then(tu s j.length lo q).map λ(a,b)=>.sl d ((j.drop a).take (b-a))else none
  |.aP=>(tu s 0 lo q).map λ_=>.aP
  |.ms d id off n c=>if sz=d then(ud s n c lo q).map λ(a,b)=>.ms d id (off+a*sz) (b-a) (c-a)else none
  |_=>none
 |.nL n x=>match s.val x with
  |.bp id o=>some (.ms 1 id o n n)
  |.ep cells=>if n<=cells.length then some (.sl 1 (cells.take n))else none
  |_=>none
 |.fieldAddr off x=>match s.val x with
  |.lp st p o=>some (.lp st p (o+off))
  |.bp id o=>some (.bp id (o+off))
  |.ep cells=>if off<=cells.length then some (.ep (cells.drop off))else none
  |_=>none
 |.field true off n x=>match s.val x with
  |.agg cs=>if off+n<=cs.length then some (.agg ((cs.drop off).take n))else none
  |_=>none
 |.field false off _ x=>match s.val x with
  |.agg cs=>cs[off]?
  |_=>none
 |.sy sz x i=>match s.val x,idxOf (s.val i)with
  |.sl d j,some k=>if sz=d then(j[k]?).map λv=>.ep v.cells else none
  |.ms d id off n _,some k=>if sz=d/\k<n then some (.bp id (off+k*sz))else none
  |_,_=>none
 |.rX len sz x i=>match s.val x,idxOf (s.val i)with
  |.lp st p o,some k=>if k<len then some (.lp st p (o+k*sz))else none
  |.bp id o,some k=>if k<len then some (.bp id (o+k*sz))else none
  |.ep cells,some k=>if k<len/\k*sz<=cells.length then some (.ep (cells.drop (k*sz)))else none
  |_,_=>none
 |.x1 x i=>match s.val x,idxOf (s.val i)with
  |.str l,some k=>(l[k]?).map λb=>.int .u8 b.toNat
  |_,_=>none
 |.uc true len sz x i=>match s.val x,idxOf (s.val i)with
  |.agg cs,some k=>if k<len/\k*sz+sz<=cs.length then some (.agg ((cs.drop (k*sz)).take sz))else none
  |_,_=>none
 |.uc false len sz x i=>match s.val x,idxOf (s.val i)with
  |.agg cs,some k=>if k<len then cs[k*sz]? else none
  |_,_=>none
 |.len x=>match s.val x with
  |.sl _ j=>some (.int .i64 j.length)
  |.aP=>some (.int .i64 0)
  |.ms _ _ _ n _=>some (.int .i64 n)
  |_=>none
 |.cap x=>match s.val x with
  |.aP=>some (.int .i64 0)
  |.ms _ _ _ _ c=>some (.int .i64 c)
  |_=>none
 |.MJ x=>match s.val x with
  |.str l=>some (.int .i64 l.length)
  |_=>none
 |.MK n=>some (.int .i64 n)
 |.extract x i=>match s.val x with
  |.hJ z=>z[i]?
  |_=>none
 |.build r parts=>(jS s r parts).map .agg
 |.AG f caps=>if caps.all (λx=>(s.val x).one)then some (.fn f (caps.map s.val))else none
 |.wT t x=>if(s.val x).one then some (.Hz t (s.val x))else none
 |.min2 x y=>match s.val x,s.val y with
  |.int k a,.int _ b=>some (.int k (if b<a then b else a))
  |_,_=>none
 |.max2 x y=>match s.val x,s.val y with
  |.int k a,.int _ b=>some (.int k (if b>a then b else a))
  |_,_=>none
section
variable {GL:Nat->Option (List V)}
def eQ{α:Type}(f:Nat->α)(k:Nat)(v:α):Nat->α:=λi=>if i=k then v else f i
@[simp] def bh {α:Type} (f:Nat->α) (k:Nat) (v:α):eQ f k v k=v:=by simp[eQ]
def bD{α:Type}(f:Nat->α){k i:Nat}(v:α)(h:i≠k):eQ f k v i=f i:=by simp[eQ,h]
def unlink(lk:Nat->Option Loc)(l:Loc):Nat->Option Loc:=λt=>if lk t=some l then none else lk t
def St.put(s:St)(d:Nat)(v:V)(l:Option Loc)(bJ:Bool):St:=
 {s with Z:=eQ s.Z d v,lk:=eQ (unlink s.lk (.var d)) d (if l=some (.var d)then none else l),fl:=eQ s.fl d bJ}
@[simp] def St.abV (s:St) (d v l o):(s.put d v l o).n=s.n:=rfl
@[simp] def St.I8 (s:St) (d v l o):(s.put d v l o).loc=s.loc:=rfl
@[simp] def St.I9 (s:St) (d v l o):(s.put d v l o).G=s.G:=rfl
@[simp] def St.MM (s:St) (d v l o):(s.put d v l o).E=s.E:=rfl
@[simp] def St.aa7 (s:St) (d v l o):(s.put d v l o).fc=s.fc:=rfl
@[simp] def St.nN (s:St) (d v l o) (t:Nat):(s.put d v l o).Z t=if t=d then v else s.Z t:=rfl
@[simp] def St.AH (s:St) (d v l o) (t:Nat):(s.put d v l o).fl t=if t=d then o else s.fl t:=rfl
def rn(t:Array Value)(d:Nat)(x:Value)(h:d<t.size):(t.setIfInBounds d x).getD d undef=x:=by
 simp[Array.getD,h]
def uf(t:Array Value)(d u:Nat)(x:Value)(h:u≠d):(t.setIfInBounds d x).getD u undef=t.getD u undef:=by
 simp only[cL,hP,al (hY h)]
def wb(g:aY)(s:St)(a:Act)(w:World)(l:Loc)(v:V)(x:Value):Prop:=
 match l with
 |.var u=>x=a.tmps.getD u undef/\v=s.Z u
 |.cell st d j=>d<s.G st/\∀b,g.lb st d=some b->w.cell? (cl b j)=some x/\(s.loc st d)[j]?=some v
 |.iK id j=>∃cells,s.E.box id=some cells/\cells[j]?=some v/\∀b,g.hb id=some b->w.cell? (cl b j)=some x
 |.ret=>True
def Rel.put{g:aY}{s:St}{a:Act}{w:World}(h:Rel GL g s a w){d:Nat}{v:V}{x:Value}{l:Option Loc}{bJ:Bool}
 (A:d<s.n) (D:ER g v x) (hl:∀k,l=some k->wb g s a w k v x) (H:bJ=true->dS g w (.var d) v x):
 Rel GL g (s.put d v l bJ) (a.put (some d) x) w:=by
 have z:d<a.tmps.size:=by rw[h.size];exact A
 have same:=rn a.tmps d x z;have other:=λu p=>uf a.tmps d u x p;have y:∀t k,(s.put d v l bJ).lk t=some k->(t=d/\l=some k/\k≠.var d)\/(t≠d/\s.lk t=some k/\k≠.var d):=by
  intro t k e;by_cases f:t=d
  .subst f;simp only[St.put,bh]at e;by_cases q:l=some (.var t)
   .simp[q]at e
   .simp[q]at e;exact .inl ⟨rfl,e,λr=>q (by rw[e,r])⟩
  .simp only[St.put,bD _ _ f,unlink]at e;by_cases q:s.lk t=some (.var d)
   .simp[q]at e
   .simp[q]at e;exact .inr ⟨f,e,λr=>q (by rw[e,r])⟩
 refine {
  size:=by simp[Act.put,h.size],gi:=h.gi,Z:=?_,gF:=h.gF,heap:=h.heap,loc:=h.loc,jc:=h.jc,jx:=?_,gH:=h.gH,j0:=?_,gI:=?_,ie:=?_}
 .intro t;by_cases f:t=d
  .subst f;simp only[St.nN,bP,Act.put,same];exact D
  .simp only[St.nN,f,cH,Act.put,other t f];exact h.Z t
 .intro t e;by_cases f:t=d
  .subst f;simp only[St.AH,bP]at e;simp only[St.nN,bP,Act.put,same];exact H e
  .simp only[St.AH,f,cH]at e;simp only[St.nN,f,cH,Act.put,other t f];exact h.jx t e
 .intro t u e;rcases y t _ e with⟨rfl,e1,o⟩|⟨f,e1,o⟩
  .have p:u≠t:=λr=>o (by rw[r]);have:=hl _ e1;simp only[wb]at this;simp only[St.nN,bP,p,cH,Act.put,same,other u p];exact this
  .have p:u≠d:=λr=>o (by rw[r]);simp only[St.nN,f,p,cH,Act.put,other t f,other u p];exact h.j0 t u e1
 .intro t st K j e;rcases y t _ e with⟨rfl,e1,o⟩|⟨f,e1,o⟩
  .exact Xw
  .simp only[St.nN,f,cH,Act.put,other t f];exact h.gI t st K j e1
 .intro t id j e;rcases y t _ e with⟨rfl,e1,o⟩|⟨f,e1,o⟩
  .exact Xw
  .simp only[St.nN,f,cH,Act.put,other t f];exact h.ie t id j e1
def qe.drew{g:aY}{w:World}(h:qe GL g w):qe GL g w.drew:=⟨h.kp,h.g3,h.eY,h.ir,h.kB⟩
def fQ.drew{g:aY}{w:World}{b ow cells}(h:fQ g w b ow cells):fQ g w.drew b ow cells:=⟨h.mf,h.cell,h.kl⟩
def HR.drew{g:aY}{E:aK}{w:World}(h:HR g E w):HR g E w.drew:=
 ⟨λid cells e=>let⟨b,a,d⟩:=h.box id cells e;⟨b,a,d.drew⟩,h.tail,h.map,h.Y⟩
def Rel.drew{g:aY}{s:St}{a:Act}{w:World}(h:Rel GL g s a w):Rel GL g s a w.drew:=
 {
  size:=h.size,gi:=h.gi,Z:=h.Z,gF:=h.gF.drew,heap:=h.heap.drew,loc:=λst d e=>let⟨b,h1,f⟩:=h.loc st d e;⟨b,h1,f.drew⟩,jc:=h.jc,jx:=h.jx,gH:=h.gH,j0:=h.j0,gI:=h.gI,ie:=h.ie}
def Step.drew(g:aY)(w:World):Step g w g w.drew:=
 ⟨λ_ _ _ h=>h,λ_ _ h=>h,λ_ _ h=>h,λ_ _ h=>⟨h,rfl,rfl⟩,λ_ _ _ _ h=>h,λ_ _ h _=>h,an _,⟨rfl,rfl,rfl,λ_=>fO _⟩,λ_ _ _=>rfl⟩
def aY.block(g:aY)(b:Nat)(ow:Nat->eT):aY:={g with bJ:=λa o=>if a=b then ow o else g.bJ a o}
def aY.e8(g:aY){b a:Nat}(ow:Nat->eT)(o:Nat)(h:a≠b):(g.block b ow).bJ a o=g.bJ a o:=by
 simp[aY.block,h]
def aY.eI(g:aY)(b:Nat)(ow:Nat->eT)(o:Nat):(g.block b ow).bJ b o=ow o:=by
 simp[aY.block]
section alloc
variable {g:aY}{w:World}{ow:Nat->eT}{ob:Obj}
def qe.ug(h:qe GL g w){b o:Nat}(hb:g.bJ b o≠.free):b≠w.heap.size:=ct (h.ir b o hb)
def qe.mT(h:qe GL g w):g.Le (g.block w.heap.size ow) where
 g3 b o x e:=by rw[aY.e8 _ _ _ (h.ug (by rw[e];simp))];exact e
 eY b ob e:=by rw[aY.e8 _ _ _ (h.ug (by rw[e];simp))];exact e
 hb _ _ e:=e
def qu{w:World}{b o:Nat}{u:Value}(h:w.cell? (cl b o)=some u):b<w.heap.size:=World.block_lt_of_cell? w (cl b o) h
def mg(w:World)(ob:Obj){b:Nat}(o:Nat)(h:b≠w.heap.size):(w.alloc ob).cell? (cl b o)=w.cell? (cl b o):=
 World.cell?_alloc_old _ _ _ h
def oT(w:World)(ob:Obj){b:Nat}(o:Nat)(h:b≠w.heap.size):(w.alloc ob).frozen? (cl b o)=w.frozen? (cl b o):=
 World.frozen?_alloc_old _ _ _ h
def py(w:World)(ob:Obj){b:Nat}{o:Obj}(h:w.heap[b]?=some o):(w.alloc ob).heap[b]?=some o:=by
 have hb:b<w.heap.size:=(cF.1 h).1;simp only[World.alloc,gO,al (ct hb),h]
def wU(w:World)(ob:Obj):(w.alloc ob).heap[w.heap.size]?=some ob:=by
 show(w.heap.push ob)[w.heap.size]?=_;simp
def qe.alloc(h:qe GL g w)(d:∀o x,ow o=.g3 x->(w.alloc ob).cell? (cl w.heap.size o)=some x)(f:∀pc,ow 0=.eY pc->ob=pc/\u9 ob=false):qe GL (g.block w.heap.size ow) (w.alloc ob) where
 kB:=h.kB
 kp n cells e:=(h.kp n cells e).mono h.mT
 g3 b o x ex:=by
  by_cases hb:b=w.heap.size
  .subst hb;rw[aY.eI]at ex;exact d o x ex
  .rw[aY.e8 _ _ _ hb]at ex;rw[mg w ob o hb];exact h.g3 b o x ex
 eY b pc ex:=by
  by_cases hb:b=w.heap.size
  .subst hb;rw[aY.eI]at ex;obtain⟨rfl,j⟩:=f pc ex;exact⟨wU w _,j⟩
  .rw[aY.e8 _ _ _ hb]at ex;exact⟨py w ob (h.eY b pc ex).1,(h.eY b pc ex).2⟩
 ir b o a:=by
  by_cases hb:b=w.heap.size
  .subst hb;simp
  .rw[aY.e8 _ _ _ hb]at a;have:=h.ir b o a;simp;omega
def fQ.alloc(d:qe GL g w){b:Nat}{o:eT}{cells:List V}(h:fQ g w b o cells)(a:o≠.free):fQ (g.block w.heap.size ow) (w.alloc ob) b o cells where
 mf j:=by
  have e:=h.mf j;rw[aY.e8 _ _ _ (d.ug (by rw[e];exact a))];exact e
 cell j v l:=by
  obtain⟨h1,x,f,p⟩:=h.cell j v l;refine⟨h1,x,?_,p.mono d.mT⟩;rw[mg w ob j (ct (qu f))];exact f
 kl j:=by
  have e:=h.mf j;rw[oT _ _ _ (d.ug (by rw[e];exact a))];exact h.kl j
def dS.alloc(f:qe GL g w){l v x}(h:dS g w l v x):dS (g.block w.heap.size ow) (w.alloc ob) l v x:=by
 intro sz j a len cap o hx k p q;obtain⟨d,⟨u,r⟩,t⟩:=h sz j a len cap o hx k p q;have hb:a.block≠w.heap.size:=f.ug (by rw[d];simp);refine⟨by rw[aY.e8 _ _ _ hb];exact d,⟨u,by rw[mg _ _ _ hb];exact r⟩,by rw[oT _ _ _ hb];exact t⟩
def ER.mono{g g':aY}(h:g.Le g')(f:∀st a b,g.lb st a=some b->g'.lb st a=some b){v:V}{x:Value}(d:ER g v x):ER g' v x:=by
 cases v<;>first
  |exact VR.mono h d
  |(obtain⟨b,j,l⟩:=d;exact⟨b,f _ _ _ j,l⟩)
def wS.mono{g g':aY}(f:g.Le g'){kvs:List (V×V)}{es:Array MapEntry}{c:Nat}(h:wS g kvs es c):wS g' kvs es c:=
 ⟨h.len,λj u e a d=>(h.key j u e a d).mono f,λj u e a d=>(h.val j u e a d).mono f,h.born,h.MI⟩
def MR.mono{g g':aY}(a:g.Le g'){mo:MO}{ob:Obj}(h:MR g mo ob):MR g' mo ob:=by
 cases mo with
 |map kvs=>obtain⟨d,c,e,h⟩:=h;exact⟨d,c,e,h.mono a⟩
 |walk m n seen=>obtain⟨b,e,h⟩:=h;exact⟨b,a.hb _ _ e,h⟩
 |raw o=>exact h
def HR.alloc(d:qe GL g w){E:aK}(h:HR g E w):HR (g.block w.heap.size ow) E (w.alloc ob) where
 box id cells u:=let⟨b,h1,a⟩:=h.box id cells u;⟨b,h1,a.alloc d bT⟩
 tail id cells j v b x f z p q r:=by
  obtain⟨t,h1,a⟩:=h.box id cells f;obtain rfl:t=b:=ar (h1.symm.trans q);obtain⟨_,y,l,_⟩:=a.cell j v p;rw[mg _ _ _ (ct (qu l))]at r;exact(h.tail id cells j v t x f z p q r).alloc d
 map id kvs f:=by
  obtain⟨b,o,h1,a,l,A,D⟩:=h.map id kvs f;exact⟨b,o,h1,by rw[aY.e8 _ _ _ (d.ug (by rw[a];simp))];exact a,py w ob l,A,D.mono d.mT⟩
 Y:=h.Y
def Rel.alloc{s:St}{a:Act}(h:Rel GL g s a w)(A:∀o x,ow o=.g3 x->(w.alloc ob).cell? (cl w.heap.size o)=some x)(H:∀pc,ow 0=.eY pc->ob=pc/\u9 ob=false):Rel GL (g.block w.heap.size ow) s a (w.alloc ob) where
 size:=h.size
 gi:=h.gi.mono λD d l=>⟨by rw[aY.e8 _ _ _ (h.gF.ug (by rw[d];simp))];exact d,py w ob l⟩
 Z t:=(h.Z t).mono h.gF.mT (λ_ _ _ e=>e)
 gF:=h.gF.alloc A H
 heap:=h.heap.alloc h.gF
 loc st gn p:=let⟨b,h1,f⟩:=h.loc st gn p;⟨b,h1,f.alloc h.gF bT⟩
 jc:=h.jc
 jx t e:=(h.jx t e).alloc h.gF
 gH st gn j v b x d l e3 r:=by
  have p:gn<s.G st:=by
   exact Xa
  obtain⟨u,h1,f⟩:=h.loc st gn p;obtain rfl:u=b:=ar (h1.symm.trans e3);obtain⟨_,y,q,_⟩:=f.cell j v l;rw[mg _ _ _ (ct (qu q))]at r;exact(h.gH st gn j v u x d l e3 r).alloc h.gF
 j0:=h.j0
 gI t st gn j d:=by
  refine⟨(h.gI t st gn j d).1,λb e3=>?_⟩;obtain⟨h1,f⟩:=(h.gI t st gn j d).2 b e3;exact⟨by rw[mg _ _ _ (ct (qu h1))];exact h1,f⟩
 ie t id j d:=by
  obtain⟨cells,h1,f,q⟩:=h.ie t id j d;refine⟨cells,h1,f,λb e3=>?_⟩;have z:=q b e3;rw[mg _ _ _ (ct (qu z))];exact z
def Step.alloc(d:qe GL g w):Step g w (g.block w.heap.size ow) (w.alloc ob) where
 g3:=d.mT.g3
 eY:=d.mT.eY
 hb _ _ e:=e
 n5 b o a _ hm:=py w ob hm
 ext b o a:=by
  have hb:b≠w.heap.size:=d.ug (by rw[a];simp);exact⟨by rw[aY.e8 _ _ _ hb];exact a,mg _ _ _ hb,oT _ _ _ hb⟩
 rm b o a hb:=by
  rw[aY.e8 _ _ _ (ct hb)]at a;exact a
 size:=bT
 gY:=⟨rfl,rfl,rfl,λ_=>an _⟩
 whole b hb _:=by
  show(w.heap.push ob)[b]?=_;rw[gO,al (ct hb)]
end alloc
def l2{α:Type}(f:Nat->Nat->α)(i j:Nat)(v:α):Nat->Nat->α:=λa d=>if a=i/\d=j then v else f a d
def St.fD(s:St)(d:Nat)(cells:List V):St:=
 {s with loc:=l2 s.loc d (s.G d) cells,fc:=l2 s.fc d (s.G d) (λ_=>false),G:=eQ s.G d (s.G d+1)}
def aY.wV(g:aY)(d a b:Nat):aY:={g with lb:=l2 g.lb d a (some b)}
section box
variable {g g':aY}{w:World}
def qe.lb(h:qe GL g w)(a:g'.bJ=g.bJ)(d:g'.hb=g.hb):qe GL g' w where
 kB:=h.kB
 kp n c e:=(h.kp n c e).mono ⟨λ_ _ _ e=>by rw[a];exact e,λ_ _ e=>by rw[a];exact e,λ_ _ e=>by rw[d];exact e⟩
 g3 b o x e:=h.g3 b o x (by rw[<-a];exact e)
 eY b o e:=h.eY b o (by rw[<-a];exact e)
 ir b o e:=h.ir b o (by rw[<-a];exact e)
def fQ.lb{b:Nat}{o:eT}{cells:List V}(h:fQ g w b o cells)(a:g'.bJ=g.bJ)(d:g'.hb=g.hb):fQ g' w b o cells where
 mf j:=by rw[a];exact h.mf j
 cell j c f:=let⟨h1,x,l,p⟩:=h.cell j c f;⟨h1,x,l,p.mono ⟨λ_ _ _ e=>by rw[a];exact e,λ_ _ e=>by rw[a];exact e,λ_ _ e=>by rw[d];exact e⟩⟩
 kl:=h.kl
def dS.lb{l v x}(h:dS g w l v x)(d:g'.bJ=g.bJ):dS g' w l v x:=by
 intro sz f a len cap j hx k o p;rw[d];exact h sz f a len cap j hx k o p
def HR.lb{E:aK}(h:HR g E w)(d:g'.bJ=g.bJ)(a:g'.hb=g.hb):HR g' E w where
 box id cells e:=let⟨b,h1,f⟩:=h.box id cells e;⟨b,by rw[a];exact h1,f.lb d a⟩
 tail id cells j c b x l p q r t:=(h.tail id cells j c b x l p q (by rw[<-a];exact r) t).lb d
 map id kvs e:=let⟨b,o,h1,f,u,y,z⟩:=h.map id kvs e;⟨b,o,by rw[a];exact h1,by rw[d];exact f,u,y,z.mono ⟨λ_ _ _ e=>by rw[d];exact e,λ_ _ e=>by rw[d];exact e,λ_ _ e=>by rw[a];exact e⟩⟩
 Y id e:=by rw[a];exact h.Y id e
def Rel.fD{s:St}{a:Act}(h:Rel GL g s a w){d b:Nat}{cells:List V}(hb:fQ g w b (.sx d (s.G d)) cells):
 Rel GL (g.wV d (s.G d) b) (s.fD d cells) a w:=by
 have hle:g.Le (g.wV d (s.G d) b):=⟨λ_ _ _ e=>e,λ_ _ e=>e,λ_ _ e=>e⟩;have old:∀st f,f<s.G st->¬(st=d/\f=s.G d):=λst f o l=>by
  obtain⟨rfl,rfl⟩:=l;omega
 have q:∀st f,f<s.G st->(g.wV d (s.G d) b).lb st f=g.lb st f:=λst f o=>by
  simp only[aY.wV,l2,al (old st f o)]
 refine {
  size:=h.size,gi:=h.gi,Z:=λt=>(h.Z t).mono hle ?_,gF:=h.gF.lb rfl rfl,heap:=h.heap.lb rfl rfl,loc:=?_,jc:=?_,jx:=λt e=>(h.jx t e).lb rfl,gH:=?_,j0:=h.j0,gI:=?_,ie:=h.ie}
 .intro st f u e;have o:f<s.G st:=by
   rcases am f (s.G st)with A|A
   .exact A
   .exact absurd ((h.jc st f A).symm.trans e) bT
  rw[q st f o];exact e
 .intro st f o;by_cases l:st=d/\f=s.G d
  .obtain⟨rfl,rfl⟩:=l;exact⟨b,by simp[aY.wV,l2],by simp only[St.fD,l2,oQ,bP];exact hb.lb rfl rfl⟩
  .have r:f<s.G st:=by
    simp only[St.fD,eQ]at o;by_cases p:st=d
    .subst p;simp at o;have:f≠s.G st:=λe=>l ⟨rfl,e⟩;omega
    .simpa[p]using o
   obtain⟨u,h1,H⟩:=h.loc st f r;refine⟨u,by rw[q st f r];exact h1,?_⟩;simp only[St.fD,l2,al l];exact H.lb rfl rfl
 .intro st f o;simp only[St.fD,eQ]at o;have r:s.G st<=f:=by
   by_cases p:st=d
   .subst p;simp at o;omega
   .simpa[p]using o
  have l:¬(st=d/\f=s.G d):=λl=>by
   obtain⟨rfl,rfl⟩:=l;simp at o;omega
  simp only[aY.wV,l2,al l];exact h.jc st f r
 .intro st f j c u x y D z K;by_cases l:st=d/\f=s.G d
  .simp[St.fD,l2,l]at y
  .simp only[St.fD,l2,al l]at y D;simp only[aY.wV,l2,al l]at z;exact(h.gH st f j c u x y D z K).lb rfl
 .intro t st f j y;obtain⟨o,L⟩:=h.gI t st f j y;have l:=old st f o;refine⟨?_,λu z=>?_⟩
  .simp only[St.fD,eQ];split<;>(try subst_vars)<;>omega
  .simp only[aY.wV,l2,al l]at z;simp only[St.fD,l2,al l];exact L u z
end box
end
section
variable {GL:Nat->Option (List V)}
structure oM(w w':World)(b off:Nat)(xs:List Value):Prop where
 same:∀b' o,¬(b'=b/\off<=o/\o<off+xs.length)->w'.cell? (cl b' o)=w.cell? (cl b' o)
 new:∀(k:Nat) x,xs[k]?=some x->w'.cell? (cl b (off+k))=some x
 frozen:∀b' o,w'.frozen? (cl b' o)=w.frozen? (cl b' o)
 map:∀(b':Nat) ob,u9 ob=false->w.heap[b']?=some ob->w'.heap[b']?=some ob
 size:w'.heap.size=w.heap.size
 gY:CM True w w'
 oth:∀b',(b'=b->xs=[])->w'.heap[b']?=w.heap[b']?
def oM.nil(w:World)(b off:Nat):oM w w b off []:=⟨λ_ _ _=>rfl,λk x h=>by simp at h,λ_ _=>rfl,λ_ _ _ h=>h,rfl,.refl _,λ_ _=>rfl⟩
def heap_set(w:World)(a:Addr)(x:Value){b:Nat}{ob:Obj}(hi:u9 ob=false)(h:w.heap[b]?=some ob):(w.setCell a x).heap[b]?=some ob:=by
 simp only[World.setCell,dz];exact Xy
def oM.cons{w w':World}{b off:Nat}{x u:Value}{xs:List Value}(p:w.cell? (cl b off)=some u)(h:oM (w.setCell (cl b off) x) w' b (off+1) xs):
 oM w w' b off (x::xs) where
 same a o d:=by
  rw[h.same a o (λq=>d ⟨q.1,av,by simp;omega⟩),World.cell?_setCell_other];intro e;have r:b=a:=aq Addr.block e;have z:off=o:=aq Addr.off e;exact d ⟨r.symm,av,by simp;omega⟩
 new k y f:=by
  cases k with
  |zero=>
   simp at f;subst f;rw[di,h.same b off av];exact World.cell?_setCell_same _ _ _ p
  |succ k=>
   simp at f;have:=h.new k y f;rw[show off+(k+1)=off+1+k from av];exact this
 frozen a o:=by rw[h.frozen a o,World.frozen?_setCell]
 map a t i e:=h.map a t i (heap_set _ _ _ i e)
 size:=by rw[h.size,World.size_setCell]
 gY:=⟨h.gY.tape,h.gY.os,h.gY.out,h.gY.drawn⟩
 oth a d:=by
  have j:a≠b:=λe=>by cases d e
  rw[h.oth a (λe=>absurd e j)];simp only[World.setCell,dz];rw[al (λe=>j e.symm)]
def oc(P:Program)(xs:List Value):∀(i:Nat)(w:World)(a:Addr),a.spot=none->(∀x∈xs,x.oneCell'=true)->
 (∀k,k<xs.length->(∃u,w.cell? (cl a.block (a.off+i+k))=some u)/\w.frozen? (cl a.block (a.off+i+k))=false)->
 ∃w',(storeCells a xs i).run P w=.ok () w'/\oM w w' a.block (a.off+i) xs:=by
 induction xs with
 |nil=>intro i w a _ _ _;exact⟨w,rfl,.nil _ _ _⟩
 |cons x xs ih=>
  intro i w a hs p q;have j:a.add i=cl a.block (a.off+i):=by
   exact Xj
  obtain⟨⟨u,o⟩,r⟩:=q 0 bT;rw[di]at o r;obtain⟨w',t,z⟩:=ih (i+1) (w.setCell (cl a.block (a.off+i)) x) a hs (λy A=>p y (by simp[A])) (λk H=>by
   obtain⟨⟨D,d⟩,f⟩:=q (k+1) (by simp;omega);rw[show a.off+i+(k+1)=a.off+(i+1)+k from av]at d f;refine⟨⟨D,?_⟩,by rw[World.frozen?_setCell];exact f⟩;rw[World.cell?_setCell_other];exact d;intro e;have:=aq Addr.off e;simp only[cl]at this;omega)
  refine⟨w',?_,.cons o (by rw[show a.off+i+1=a.off+(i+1)from av];exact z)⟩;show(do store (a.add i) x;storeCells a xs (i+1):Sem Unit).run P w=_;rw[j];simp only[Sem.run_bind,run_store P _ _ _ _ (p x bT),o,r];simpa using t
def run_loadCellsFrom(P:Program)(n:Nat):∀(i:Nat)(acc:Array Value)(w:World)(a:Addr)(ys:Nat->Value),a.spot=none->
 (∀k,k<n->w.cell? (cl a.block (a.off+i+k))=some (ys k))->
 (loadCellsFrom a i n acc).run P w=.ok (acc++((List.range n).map ys).toArray) w:=by
 induction n with
 |zero=>intro i acc w a ys _ _;simp[loadCellsFrom]
 |succ n ih=>
  intro i acc w a ys hs f;have d:a.add i=cl a.block (a.off+i):=by
   exact Xj
  have h0:=f 0 av;rw[di]at h0;show(do let v<-load (a.add i);loadCellsFrom a (i+1) n (acc.push v):Sem (Array Value)).run P w=_;rw[d];simp only[Sem.run_bind,run_load,h0,Result.andThen_ok];rw[ih (i+1) (acc.push (ys 0)) w a (λk=>ys (k+1)) hs (λk j=>by
   have:=f (k+1) av;rw[show a.off+i+(k+1)=a.off+(i+1)+k from av]at this;exact this)]
  congr 1;rw[m0];apply jI;simp[Function.comp_def]
def run_loadCells(P:Program)(n:Nat)(w:World)(a:Addr)(ys:Nat->Value)(d:a.spot=none)
 (f:∀k,k<n->w.cell? (cl a.block (a.off+k))=some (ys k)):
 (loadCells a n).run P w=.ok ((List.range n).map ys).toArray w:=by
 have:=run_loadCellsFrom P n 0 #[] w a ys d (λk j=>by rw[di];exact f k j);simpa[loadCells]using this
def aY.ik(g:aY)(l l':Loc):aY:=
 {g with bJ:=λb o=>match g.bJ b o with
  |.tail k=>.tail (if k=l then l' else k)
  |x=>x}
section ik
variable {g:aY}{w:World}{l l':Loc}
def va{b o:Nat}{x:Value}:(g.ik l l').bJ b o=.g3 x↔g.bJ b o=.g3 x:=by
 simp only[aY.ik];split<;>simp_all
def wc{b o:Nat}{ob:Obj}:(g.ik l l').bJ b o=.eY ob↔g.bJ b o=.eY ob:=by
 simp only[aY.ik];split<;>simp_all
def Dd{b o:Nat}:(g.ik l l').bJ b o=.rG↔g.bJ b o=.rG:=by
 simp only[aY.ik];split<;>simp_all
def AI{b o i:Nat}:(g.ik l l').bJ b o=.oO i↔g.bJ b o=.oO i:=by
 simp only[aY.ik];split<;>simp_all
def De{b o:Nat}:(g.ik l l').bJ b o=.ext↔g.bJ b o=.ext:=by
 simp only[aY.ik];split<;>simp_all
def HC{b o s n:Nat}:(g.ik l l').bJ b o=.sx s n↔g.bJ b o=.sx s n:=by
 simp only[aY.ik];split<;>simp_all
def HD{b o i:Nat}:(g.ik l l').bJ b o=.eh i↔g.bJ b o=.eh i:=by
 simp only[aY.ik];split<;>simp_all
def HE{b o:Nat}:(g.ik l l').bJ b o=.free↔g.bJ b o=.free:=by
 simp only[aY.ik];split<;>simp_all
def we{b o:Nat}{k:Loc}(h:g.bJ b o=.tail k):(g.ik l l').bJ b o=.tail (if k=l then l' else k):=by
 simp only[aY.ik,h]
def pz:g.Le (g.ik l l'):=⟨λ_ _ _ e=>va.2 e,λ_ _ e=>wc.2 e,λ_ _ e=>e⟩
def dS.HF{v x}(h:dS g w l v x):dS (g.ik l l') w l' v x:=by
 intro sz d a len cap f hx k j o;obtain⟨p,q,r⟩:=h sz d a len cap f hx k j o;exact⟨by rw[we p];simp,q,r⟩
def dS.nG{v x}{k:Loc}(h:dS g w k v x)(d:k≠l):dS (g.ik l l') w k v x:=by
 intro sz f a len cap j hx o p q;obtain⟨r,t,u⟩:=h sz f a len cap j hx o p q;exact⟨by rw[we r];simp[d],t,u⟩
def qe.ik(h:qe GL g w):qe GL (g.ik l l') w where
 kB:=h.kB
 kp n c e:=(h.kp n c e).mono pz
 g3 b o x e:=h.g3 b o x (va.1 e)
 eY b o e:=h.eY b o (wc.1 e)
 ir b o e:=h.ir b o (λa=>e (HE.2 a))
def fQ.Ja{b s n:Nat}{cells:List V}(h:fQ g w b (.sx s n) cells):fQ (g.ik l l') w b (.sx s n) cells:=
 ⟨λj=>HC.2 (h.mf j),λj c a=>let⟨d,x,f,o⟩:=h.cell j c a;⟨d,x,f,o.mono pz⟩,h.kl⟩
def fQ.Jb{b i:Nat}{cells:List V}(h:fQ g w b (.eh i) cells):fQ (g.ik l l') w b (.eh i) cells:=
 ⟨λj=>HD.2 (h.mf j),λj c a=>let⟨d,x,f,o⟩:=h.cell j c a;⟨d,x,f,o.mono pz⟩,h.kl⟩
def Step.ik:Step g w (g.ik l l') w where
 g3 _ _ _ e:=va.2 e
 eY _ _ e:=wc.2 e
 hb _ _ e:=e
 n5 _ _ _ _ h:=h
 ext b o e:=⟨De.2 e,rfl,rfl⟩
 rm b o e _:=De.1 e
 size:=an _
 gY:=.refl _
 whole _ _ _:=rfl
end ik
def St.dP(s:St):Loc->St
 |.var t=>{s with fl:=eQ s.fl t false}
 |.cell st a j=>{s with fc:=l2 s.fc st a (eQ (s.fc st a) j false)}
 |.iK id j=>{s with E:={s.E with fl:=eQ s.E.fl id (eQ (s.E.fl id) j false)}}
 |.ret=>s
def St.vK(s:St):Loc->St
 |.var t=>{s with fl:=eQ s.fl t true}
 |.cell st a j=>{s with fc:=l2 s.fc st a (eQ (s.fc st a) j true)}
 |.iK id j=>{s with E:={s.E with fl:=eQ s.E.fl id (eQ (s.E.fl id) j true)}}
 |.ret=>s
def St.iE(s:St):Loc->Bool
 |.var t=>s.fl t
 |.cell st a j=>s.fc st a j
 |.iK id j=>s.E.fl id j
 |.ret=>false
def Rel.Df{g:aY}{s s':St}{a:Act}{w:World}(h:Rel GL g s a w)(H:s'.n=s.n)(d:s'.Z=s.Z)(o:s'.lk=s.lk)(p:s'.loc=s.loc)(q:s'.G=s.G)
 (hb:s'.E.box=s.E.box) (A:s'.E.mp=s.E.mp) (D:s'.E.Y=s.E.Y) (f1:∀t,s'.fl t=true->s.fl t=true) (K:∀st f j,s'.fc st f j=true->s.fc st f j=true)
 (L:∀id j,s'.E.fl id j=true->s.E.fl id j=true):Rel GL g s' a w where
 size:=by rw[H];exact h.size
 gi:=h.gi
 Z:=by rw[d];exact h.Z
 gF:=h.gF
 heap:=⟨by rw[hb];exact h.heap.box,λid cells j c b x r u y z N=>h.heap.tail id cells j c b x (by rw[<-hb];exact r) (L _ _ u) y z N,by rw[A];exact h.heap.map,by rw[D];exact h.heap.Y⟩
 loc:=by rw[q,p];exact h.loc
 jc:=by rw[q];exact h.jc
 jx t e:=by rw[d];exact h.jx t (f1 t e)
 gH st f j c b x r u y z:=h.gH st f j c b x (K _ _ _ r) (by rw[<-p];exact u) y z
 j0:=by rw[o,d];exact h.j0
 gI:=by rw[o,q,p,d];exact h.gI
 ie:=by rw[o,hb,d];exact h.ie
def Rel.dP{g:aY}{s:St}{a:Act}{w:World}(h:Rel GL g s a w)(l:Loc):Rel GL g (s.dP l) a w:=by
 cases l with
 |ret=>exact h
 |var t=>exact h.Df rfl rfl rfl rfl rfl rfl rfl rfl (λu e=>by simp only[St.dP,eQ]at e;split at e<;>simp_all) (λ_ _ _ e=>e) (λ_ _ e=>e)
 |cell st r j=>
  refine h.Df rfl rfl rfl rfl rfl rfl rfl rfl (λ_ e=>e) ?_ (λ_ _ e=>e);intro p q o e;simp only[St.dP,l2]at e;split at e
  next d=>obtain⟨rfl,rfl⟩:=d;simp only[eQ]at e;split at e<;>simp_all
  .exact e
 |iK id j=>
  refine h.Df rfl rfl rfl rfl rfl rfl rfl rfl (λ_ e=>e) (λ_ _ _ e=>e) ?_;intro f o e;simp only[St.dP]at e;by_cases d:f=id
  .subst d;rw[bh]at e;simp only[eQ]at e;split at e<;>simp_all
  .rw[bD _ _ d]at e;exact e
def Rel.MN{g:aY}{s:St}{a:Act}{w:World}(h:Rel GL g s a w){l:Loc}{v:V}{x:Value}(f:s.iE l=true)(p:wb g s a w l v x):dS g w l v x:=by
 cases l with
 |ret=>simp[St.iE]at f
 |var t=>obtain⟨rfl,rfl⟩:=p;exact h.jx t f
 |cell st r j=>
  obtain⟨u,y⟩:=p;obtain⟨b,d,z⟩:=h.loc st r u;obtain⟨o,q⟩:=y b d;exact h.gH st r j v b x f q d o
 |iK id j=>
  obtain⟨cells,o,q,A⟩:=p;obtain⟨b,d,z⟩:=h.heap.box id cells o;exact h.heap.tail id cells j v b x o f q d (A b d)
def Rel.move{g:aY}{s:St}{a:Act}{w:World}(h:Rel GL g s a w){l l':Loc}{v:V}{x:Value}(a0:s.iE l=true)(a1:wb g s a w l v x)(K:wb g s a w l' v x):
 Rel GL (g.ik l l') ((s.dP l).vK l') a w:=by
 have ac:=(h.MN a0 a1).HF (l':=l');have d:=h.dP l;have base:Rel GL (g.ik l l') (s.dP l) a w:=by
  refine {
   size:=d.size,gi:=d.gi.mono λD p f=>⟨Dd.2 p,f⟩,Z:=λt=>(d.Z t).mono pz (λ_ _ _ e=>e),gF:=d.gF.ik,heap:=⟨λid cells e=>let⟨b,h1,q⟩:=d.heap.box id cells e;⟨b,h1,q.Jb⟩,λid cells j c b y p f r z N=>(d.heap.tail id cells j c b y p f r z N).nG ?_,λid kvs e=>let⟨b,o,h1,q,ad,a2,a3⟩:=d.heap.map id kvs e;⟨b,o,h1,AI.2 q,ad,a2,a3.mono pz⟩,d.heap.Y⟩,loc:=λst P e=>let⟨b,h1,q⟩:=d.loc st P e;⟨b,h1,q.Ja⟩,jc:=d.jc,jx:=λt e=>(d.jx t e).nG ?_,gH:=λst P j c b y p f r z=>(d.gH st P j c b y p f r z).nG ?_,j0:=d.j0,gI:=d.gI,ie:=d.ie}
  .rintro rfl;simp[St.dP]at f
  .rintro rfl;simp[St.dP]at e
  .rintro rfl;simp[St.dP,l2]at p
 cases l' with
 |ret=>exact base
 |var t=>
  have aA:v=(s.dP l).Z t/\x=a.tmps.getD t undef:=by cases l<;>exact⟨K.2,K.1⟩
  refine {base with jx:=λu e=>?_};by_cases ab:u=t
  .subst ab;rw[<-aA.2];show dS _ _ _ ((s.dP l).Z u) _;rw[<-aA.1];exact ac
  .exact base.jx u (by simpa[St.vK,bD _ _ ab]using e)
 |cell st P j=>
  refine {base with gH:=λQ R A c b y p f r z=>?_};by_cases H:Q=st/\R=P/\A=j
  .obtain⟨rfl,rfl,rfl⟩:=H;obtain⟨a6,a4⟩:=K;obtain⟨h1,q⟩:=a4 b r;have N:(s.loc Q R)[A]?=some c:=by cases l<;>exact f
   cases (h1.symm.trans z);cases (q.symm.trans N);exact ac
  .refine base.gH Q R A c b y ?_ f r z;simp only[St.vK,l2]at p;split at p
   next aB=>
    obtain⟨rfl,rfl⟩:=aB;have:A≠j:=λai=>H ⟨rfl,rfl,ai⟩
    rwa [bD _ _ this]at p
   .exact p
 |iK id j=>
  refine {base with heap:=⟨base.heap.box,λL cells A c b y p f r z N=>?_,base.heap.map,base.heap.Y⟩};by_cases H:L=id/\A=j
  .obtain⟨rfl,rfl⟩:=H;obtain⟨aC,h1,q,ad⟩:=K;have a5:s.E.box L=some cells:=by cases l<;>exact p
   cases (h1.symm.trans a5);cases (q.symm.trans r);obtain rfl:=ar ((ad b z).symm.trans N);exact ac
  .refine base.heap.tail L cells A c b y p ?_ r z N;simp only[St.vK]at f;by_cases aD:L=id
   .subst aD;have:A≠j:=λai=>H ⟨rfl,ai⟩;rw[bh,bD _ _ this]at f;exact f
   .rw[bD _ _ aD]at f;exact f
end
section
variable {GL:Nat->Option (List V)}
def kC(vs:List V):∀(cells:List V)(off j:Nat),off+vs.length<=cells.length->
 (aQ cells off vs)[j]?=if off<=j/\j<off+vs.length then vs[j-off]? else cells[j]?:=by
 induction vs with
 |nil=>intro cells off j _;simp only[aQ,aX];rw[al av]
 |cons v vs ih=>
  intro cells off j h;simp only[aM]at h;rw[aQ,ih _ _ _ (by simp;omega)];exact WI
def iP(lk:Nat->Option Loc)(inr:Loc->Bool):Nat->Option Loc:=λt=>match lk t with
 |some l=>if inr l then none else some l
 |none=>none
def fC{lk:Nat->Option Loc}{inr:Loc->Bool}{t:Nat}{l:Loc}(h:iP lk inr t=some l):lk t=some l/\inr l=false:=by
 unfold iP at h;split at h
 next k e=>
  split at h
  .cases h
  next d=>cases h;exact⟨e,by simpa using d⟩
 .cases h
def MP(st l off n:Nat):Loc->Bool
 |.cell d f j=>d==st&&f==l&&decide (off<=j)&&decide (j<off+n)
 |_=>false
def Ab(id off n:Nat):Loc->Bool
 |.iK d j=>d==id&&decide (off<=j)&&decide (j<off+n)
 |_=>false
def uh(f:Nat->Bool)(off n:Nat):Nat->Bool:=λj=>if off<=j/\j<off+n then false else f j
def St.h8(s:St)(st d off:Nat)(vs:List V):St:=
 {s with loc:=l2 s.loc st d (aQ (s.loc st d) off vs),fc:=l2 s.fc st d (uh (s.fc st d) off vs.length),lk:=iP s.lk (MP st d off vs.length)}
def aK.set(h:aK)(id:Nat)(cells:List V)(fl:Nat->Bool):aK:=
 {h with box:=eQ h.box id (some cells),fl:=eQ h.fl id fl}
def St.j1(s:St)(id off:Nat)(cells vs:List V):St:=
 {s with E:=s.E.set id (aQ cells off vs) (uh (s.E.fl id) off vs.length),lk:=iP s.lk (Ab id off vs.length)}
section
variable {g:aY}{s:St}{a:Act}{w w':World}{b off:Nat}{xs:List Value}
def qe.wrote(h:qe GL g w)(j:oM w w' b off xs){ow:eT}(l:∀k,k<xs.length->g.bJ b (off+k)=ow)(p:∀x,ow≠.g3 x):qe GL g w' where
 kp:=h.kp
 kB:=h.kB
 g3 d o x e:=by
  rw[j.same d o]
  .exact h.g3 d o x e
  .rintro⟨rfl,h1,q⟩;have:=l (o-off) av;rw[show off+(o-off)=o from av,e]at this;exact p x this.symm
 eY d f e:=⟨j.map d f (h.eY d f e).2 (h.eY d f e).1,(h.eY d f e).2⟩
 ir d o e:=by rw[j.size];exact h.ir d o e
def eR{o:Nat}{f:Nat}{ow d:eT}(j:oM w w' b off xs)(ho:∀k,k<xs.length->g.bJ b (off+k)=ow)(h:g.bJ f o=d)(hne:d≠ow):
 w'.cell? (cl f o)=w.cell? (cl f o):=by
 apply j.same;exact W8
def fQ.eR{l:Nat}{ow d:eT}{cells:List V}(h:fQ g w l d cells)(o:oM w w' b off xs)(t:∀k,k<xs.length->g.bJ b (off+k)=ow)(p:d≠ow):
 fQ g w' l d cells where
 mf:=h.mf
 cell j c q:=by
  obtain⟨h1,x,u,y⟩:=h.cell j c q;have r:j<cells.length:=by
   rcases am j cells.length with f|f
   .exact f
   .simp[b1 f]at q
  exact⟨h1,x,by rw[Bx.eR o t (h.bJ j r) p];exact u,y⟩
 kl j:=by rw[o.frozen];exact h.kl j
def fQ.wrote{ow:eT}{cells vs:List V}(h:fQ g w b ow cells)(f:oM w w' b off xs)(p:off+vs.length<=cells.length)(t:xs.length=vs.length)
 (q:∀(k:Nat) v x,vs[k]?=some v->xs[k]?=some x->v.one=true/\VR g v x):fQ g w' b ow (aQ cells off vs) where
 mf:=h.mf
 cell j c d:=by
  rw[kC _ _ _ _ p]at d;split at d
  next o=>
   have hx:(j-off)<xs.length:=av;obtain⟨h1,l⟩:=q (j-off) c xs[j-off] d (by simp[hx]);refine⟨h1,xs[j-off],?_,l⟩;have:=f.new (j-off) xs[j-off] (by simp[hx])
   rwa [show off+(j-off)=j from av]at this
  next o=>obtain⟨h1,x,l,r⟩:=h.cell j c d;exact⟨h1,x,by rw[f.same b j (λu=>o av)];exact l,r⟩
 kl j:=by rw[f.frozen];exact h.kl j
def dS.wrote{l v x}{ow:eT}(h:dS g w l v x)(d:oM w w' b off xs)(o:∀k,k<xs.length->g.bJ b (off+k)=ow)(f:ow≠.tail l):dS g w' l v x:=by
 intro sz p q len cap r hx k t y;obtain⟨j,⟨u,z⟩,A⟩:=h sz p q len cap r hx k t y;refine⟨j,⟨u,?_⟩,by rw[d.frozen];exact A⟩;rw[eR d o j (hY f)];exact z
def Step.wrote(d:oM w w' b off xs){ow:eT}(l:∀k,k<xs.length->g.bJ b (off+k)=ow)(j:ow≠.ext)(p:∀x,ow≠.g3 x):Step g w g w' where
 g3 _ _ _ e:=e
 eY _ _ e:=e
 hb _ _ e:=e
 n5 f r _ i e:=d.map f r i e
 ext f o e:=⟨e,eR d l e (hY j),d.frozen f o⟩
 rm _ _ e _:=e
 size:=by rw[d.size];exact an _
 gY:=⟨d.gY.tape,d.gY.os,d.gY.out,λ_=>d.gY.drawn trivial⟩
 whole f _ e:=d.oth f λh=>by
  subst h;cases xs with
  |nil=>rfl
  |cons x xs=>
   exfalso;have q:=e (off+0);rw[l 0 bT]at q;rcases q with q|⟨x,q⟩
   .exact j q
   .exact p x q
def b0{α:Type}{l:List α}{j:Nat}{c:α}(h:l[j]?=some c):j<l.length:=by
 rcases am j l.length with d|d
 .exact d
 .simp[b1 d]at h
def Rel.h8(h:Rel GL g s a w){st y:Nat}{vs:List V}(aD:y<s.G st)(hb:g.lb st y=some b)(ai:off+vs.length<=(s.loc st y).length)(a0:xs.length=vs.length)
 (a1:∀(k:Nat) v x,vs[k]?=some v->xs[k]?=some x->v.one=true/\VR g v x) (q:oM w w' b off xs):Rel GL g (s.h8 st y off vs) a w':=by
 obtain⟨a2,h1,eh⟩:=h.loc st y aD;obtain rfl:=ar (h1.symm.trans hb);have H:∀k,k<xs.length->g.bJ a2 (off+k)=.sx st y:=λk a4=>eh.bJ _ (by omega);have N:∀d f,¬(d=st/\f=y)->(s.h8 st y off vs).loc d f=s.loc d f:=λd f r=>by
  simp only[St.h8,l2,al r]
 have P:(s.h8 st y off vs).loc st y=aQ (s.loc st y) off vs:=by simp[St.h8,l2]
 refine {size:=h.size,gi:=h.gi.mono λD l p=>⟨l,q.map D _ rfl p⟩,Z:=h.Z,gF:=h.gF.wrote q H (by simp),heap:=?_,loc:=?_,jc:=h.jc,jx:=?_,gH:=?_,j0:=?_,gI:=?_,ie:=?_}
 .refine⟨λid cells e=>let⟨K,l,p⟩:=h.heap.box id cells e;⟨K,l,p.eR q H (by simp)⟩,λid cells j c K x l p z A ad=>?_,λid kvs e=>let⟨K,o,l,p,z,A,ad⟩:=h.heap.map id kvs e;⟨K,o,l,p,q.map _ _ A z,A,ad⟩,h.heap.Y⟩;obtain⟨ac,Q,R⟩:=h.heap.box id cells l;obtain rfl:=ar (Q.symm.trans A);rw[eR q H (R.bJ j (b0 z)) (by simp)]at ad;exact(h.heap.tail id cells j c ac x l p z A ad).wrote q H (by simp)
 .intro d f L;obtain⟨K,l,p⟩:=h.loc d f L;refine⟨K,l,?_⟩;by_cases r:d=st/\f=y
  .obtain⟨rfl,rfl⟩:=r;obtain rfl:=ar (l.symm.trans hb);rw[P];exact p.wrote q ai a0 a1
  .rw[N _ _ r];exact p.eR q H (by intro e;injection e with l p;exact r ⟨l,p⟩)
 .intro t e;exact(h.jx t e).wrote q H (by simp)
 .intro d f j c K x l p z A;have L:f<s.G d:=by
   rcases am f (s.G d)with aA|aA
   .exact aA
   .exact absurd ((h.jc d f aA).symm.trans z) bT
  obtain⟨ac,Q,R⟩:=h.loc d f L;obtain rfl:=ar (Q.symm.trans z);by_cases r:d=st/\f=y
  .obtain⟨rfl,rfl⟩:=r;obtain rfl:=ar (Q.symm.trans hb);rw[P,kC _ _ _ _ ai]at p;simp only[St.h8,l2,oQ,bP,uh]at l;by_cases ab:off<=j/\j<off+vs.length
   .simp[ab]at l
   .rw[al ab]at l p;rw[q.same _ j (λr=>ab (by omega))]at A;exact(h.gH d f j c _ x l p z A).wrote q H (by simp)
  .rw[N _ _ r]at p;simp only[St.h8,l2,al r]at l;rw[eR q H (R.bJ j (b0 p)) (by intro e;injection e with l p;exact r ⟨l,p⟩)]at A;exact(h.gH d f j c _ x l p z A).wrote q H (by simp)
 .intro t u e;exact h.j0 t u (fC e).1
 .intro t d f j e;obtain⟨l,p⟩:=fC e;obtain⟨L,a3⟩:=h.gI t d f j l;refine⟨L,λK z=>?_⟩;obtain⟨aC,aB⟩:=a3 K z;obtain⟨ac,Q,R⟩:=h.loc d f L;obtain rfl:=ar (Q.symm.trans z);by_cases r:d=st/\f=y
  .obtain⟨rfl,rfl⟩:=r;obtain rfl:=ar (Q.symm.trans hb);have ab:¬(off<=j/\j<off+vs.length):=by simp[MP]at p;omega
   rw[P,kC _ _ _ _ ai,al ab,q.same _ j (λr=>ab (by omega))];exact⟨aC,aB⟩
  .rw[N _ _ r,eR q H (R.bJ j (b0 aB)) (by intro e;injection e with l p;exact r ⟨l,p⟩)];exact⟨aC,aB⟩
 .intro t id j e;obtain⟨cells,l,p,z⟩:=h.ie t id j (fC e).1;refine⟨cells,l,p,λK A=>?_⟩;obtain⟨ac,Q,R⟩:=h.heap.box id cells l;obtain rfl:=ar (Q.symm.trans A);rw[eR q H (R.bJ j (b0 p)) bT];exact z ac A
def Rel.j1(h:Rel GL g s a w){id:Nat}{cells vs:List V}(ab:s.E.box id=some cells)(hb:g.hb id=some b)(ac:off+vs.length<=cells.length)(aC:xs.length=vs.length)
 (aD:∀(k:Nat) v x,vs[k]?=some v->xs[k]?=some x->v.one=true/\VR g v x) (r:oM w w' b off xs):Rel GL g (s.j1 id off cells vs) a w':=by
 obtain⟨aA,h1,eh⟩:=h.heap.box id cells ab;obtain rfl:=ar (h1.symm.trans hb);have H:∀k,k<xs.length->g.bJ aA (off+k)=.eh id:=λk a4=>eh.bJ _ (by omega);refine {size:=h.size,gi:=h.gi.mono λD p f=>⟨p,r.map D _ rfl f⟩,Z:=h.Z,gF:=h.gF.wrote r H (by simp),heap:=?_,loc:=?_,jc:=h.jc,jx:=?_,gH:=?_,j0:=?_,gI:=?_,ie:=?_}
 .refine⟨λl d e=>?_,λl d j c K x p f q A P=>?_,λl kvs e=>let⟨K,o,p,f,q,A,P⟩:=h.heap.map l kvs e;⟨K,o,p,f,r.map _ _ A q,A,P⟩,h.heap.Y⟩
  .simp only[St.j1,aK.set,eQ]at e;split at e
   next dW=>subst dW;obtain rfl:=ar e;exact⟨aA,hb,eh.wrote r ac aC aD⟩
   next dW=>obtain⟨K,p,f⟩:=h.heap.box l d e;exact⟨K,p,f.eR r H (by intro e;injection e with e;exact dW e)⟩
  .simp only[St.j1,aK.set,eQ]at p f;by_cases dW:l=id
   .subst dW;simp only[bP]at p f;obtain rfl:=ar p;obtain rfl:=ar (A.symm.trans hb);rw[kC _ _ _ _ ac]at q;simp only[uh]at f;by_cases R:off<=j/\j<off+vs.length
    .simp[R]at f
    .rw[al R]at f q;rw[r.same _ j (λa0=>R (by omega))]at P;exact(h.heap.tail l cells j c _ x ab f q A P).wrote r H (by simp)
   .rw[al dW]at p f;obtain⟨ad,L,Q⟩:=h.heap.box l d p;obtain rfl:=ar (L.symm.trans A);rw[eR r H (Q.bJ j (b0 q)) (by intro e;injection e with e;exact dW e)]at P;exact(h.heap.tail l d j c _ x p f q A P).wrote r H (by simp)
 .intro y z N;obtain⟨K,p,f⟩:=h.loc y z N;exact⟨K,p,f.eR r H (by simp)⟩
 .intro t e;exact(h.jx t e).wrote r H (by simp)
 .intro y z j c K x p f q A;have N:z<s.G y:=by
   rcases am z (s.G y)with ai|ai
   .exact ai
   .exact absurd ((h.jc y z ai).symm.trans q) bT
  obtain⟨ad,L,Q⟩:=h.loc y z N;obtain rfl:=ar (L.symm.trans q);rw[eR r H (Q.bJ j (b0 f)) (by simp)]at A;exact(h.gH y z j c _ x p f q A).wrote r H (by simp)
 .intro t u e;exact h.j0 t u (fC e).1
 .intro t y z j e;obtain⟨N,a1⟩:=h.gI t y z j (fC e).1;refine⟨N,λK q=>?_⟩;obtain⟨a2,aB⟩:=a1 K q;obtain⟨ad,L,Q⟩:=h.loc y z N;cases (L.symm.trans q);exact⟨by rw[eR r H (Q.bJ j (b0 aB)) bT];exact a2,aB⟩
 .intro t l j e;obtain⟨p,f⟩:=fC e;obtain⟨d,q,A,P⟩:=h.ie t l j p;by_cases dW:l=id
  .subst dW;obtain rfl:=ar (q.symm.trans ab);have R:¬(off<=j/\j<off+vs.length):=by simp[Ab]at f;omega
   refine⟨aQ d off vs,by simp[St.j1,aK.set,eQ],by rw[kC _ _ _ _ ac,al R];exact A,λK L=>?_⟩;obtain rfl:=ar (L.symm.trans hb);rw[r.same _ j (λa0=>R (by omega))];exact P _ L
  .refine⟨d,by simp[St.j1,aK.set,eQ,dW,q],A,λK L=>?_⟩;obtain⟨ad,Q,a3⟩:=h.heap.box l d q;obtain rfl:=ar (Q.symm.trans L);rw[eR r H (a3.bJ j (b0 A)) (by intro e;injection e with e;exact dW e)];exact P _ L
end
end
section
variable {GL:Nat->Option (List V)}{P:Program}
def AJ{x:Value}{v:V}(h:Aa x=some v)(g:aY):VR g v x/\v.one=true:=by
 unfold Aa at h;split at h<;>first
  |(cases h;done)
  |(cases h;exact⟨by constructor,rfl⟩)
  |(
   rename_i s;cases h;refine⟨?_,rfl⟩;have:=VR.str (g:=g) s.data.toList;simpa using this)
def ui:∀{xs:List Value} {vs:List V},qt xs=some vs->vs.length=xs.length/\∀(g:aY)(j:Nat) c x,vs[j]?=some c->xs[j]?=some x->VR g c x/\c.one=true
 |[],vs,h=>by simp[qt]at h;subst h;exact⟨rfl,bT⟩
 |x::xs,vs,h=>by
  simp only[qt]at h;split at h
  next v q f l=>
   cases h;obtain⟨o,p⟩:=ui l;refine⟨by simp[o],λg j c y a d=>?_⟩;cases j with
   |zero=>simp at a d;subst a d;exact AJ f g
   |succ j=>simp at a d;exact p g j c y a d
  .cases h
def VR.e0{g:aY}{v:V}{x:Value}(h:VR g v x):ER g v x:=by
 cases v<;>first|exact h|(cases h;done)
def ER.od{g:aY}{v:V}{x:Value}(h:ER g v x)(d:∀a b c,v≠.lp a b c):VR g v x:=by
 cases v<;>first
  |exact h
  |exact absurd rfl (d _ _ _)
def Dg{x:Value}{v:V}(h:AF x=some v)(g:aY):VR g v x:=by
 unfold AF at h;split at h
 next cs=>
  cases e:qt cs.toList with
  |none=>simp[e]at h
  |some o=>
   simp[e]at h;subst h;obtain⟨a,d⟩:=ui e;refine .agg o cs (by simp[a]) (λj c f=>?_) (λj c y p q=>(d g j c y p (by simpa using q)).1);have l:j<cs.toList.length:=by rw[<-a];exact b0 f
   exact(d g j c cs.toList[j] f (by simp[l])).2
 .exact(AJ h g).1
def eE(GL:aj):Operand->Option eL
 |.tmp t=>some (.tmp t)
 |.const v=>(AF v).map .const
 |.global n=>(GL n).map .kp
 |.func f=>some (.const (.fn f []))
def cv{g:aY}{s:St}{a:Act}{w:World}(R:Rel GL g s a w){x:Operand}{y:eL}(h:eE GL x=some y):ER g (s.val y) (a.eval x):=by
 cases x with
 |tmp t=>cases h;exact R.Z t
 |const v=>
  cases e:AF v with
  |none=>simp[eE,e]at h
  |some c=>simp[eE,e]at h;subst h;exact(Dg e g).e0
 |global n=>
  cases e:GL n with
  |none=>simp[eE,e]at h
  |some c=>simp[eE,e]at h;subst h;exact(R.gF.kp n c e).e0
 |func f=>
  cases h;exact VR.e0 (.fn f [] #[] rfl bT)
def yM(GL:aj):List Operand->Option (List eL)
 |[]=>some []
 |x::r=>match eE GL x,yM GL r with
  |some y,some l=>some (y::l)
  |_,_=>none
def AK{g:aY}{s:St}{a:Act}{w:World}(R:Rel GL g s a w):∀{xs:List Operand} {ys:List eL},yM GL xs=some ys->ys.length=xs.length/\
 ∀(j:Nat) y x,ys[j]?=some y->xs[j]?=some x->ER g (s.val y) (a.eval x)
 |[],ys,h=>by simp[yM]at h;subst h;exact⟨rfl,bT⟩
 |x::xs,ys,h=>by
  simp only[yM]at h;split at h
  next y l o p=>
   cases h;obtain⟨q,r⟩:=AK R p;refine⟨by simp[q],λj c z d f=>?_⟩;cases j with
   |zero=>simp at d f;subst d f;exact cv R o
   |succ j=>simp at d f;exact r j c z d f
  .cases h
section inv
variable {g:aY}{x:Value}
def ER.int{k n}(h:ER g (.int k n) x):x=.int k n:=by cases h;rfl
def ER.bool{b}(h:ER g (.bool b) x):x=.bool b:=by cases h;rfl
def ER.str{l}(h:ER g (.str l) x):x=.string ⟨l.toArray⟩:=by cases h;rfl
def ER.aP(h:ER g .aP x):x=.slice none 0 0:=by cases h;rfl
def ER.lv(h:ER g .lv x):x=.pointer none:=by cases h;rfl
def ER.bp{i o}(h:ER g (.bp i o) x):∃b,g.hb i=some b/\x=.pointer (some ⟨b,o,none⟩):=by
 cases h with|bp _ _ b e=>exact⟨b,e,rfl⟩
def ER.agg{cs}(h:ER g (.agg cs) x):∃xs:Array Value,x=.agg xs/\xs.size=cs.length/\(∀(j:Nat) c,cs[j]?=some c->c.one=true)/\
 ∀(j:Nat) c y,cs[j]?=some c->xs[j]?=some y->VR g c y:=by
 cases h with|agg _ xs a d f=>exact⟨xs,rfl,a,d,f⟩
def ER.hJ{vs}(h:ER g (.hJ vs) x):∃xs:Array Value,x=.tuple xs/\xs.size=vs.length/\∀(j:Nat) c y,vs[j]?=some c->xs[j]?=some y->VR g c y:=by
 cases h with|hJ _ xs a d=>exact⟨xs,rfl,a,d⟩
def ER.ep{cells}(h:ER g (.ep cells) x):∃(a:Addr)(ys:Nat->Value),x=.pointer (some a)/\a.spot=none/\(∀k,k<cells.length->g.bJ a.block (a.off+k)=.g3 (ys k))/\
 (∀(j:Nat) c,cells[j]?=some c->c.one=true)/\∀(j:Nat) c,cells[j]?=some c->VR g c (ys j):=by
 cases h with|ep _ a ys d f l o=>exact⟨a,ys,rfl,d,f,l,o⟩
def ER.ms{sz id off len cap}(h:ER g (.ms sz id off len cap) x):(∃b,g.hb id=some b/\x=.slice (some ⟨b,off,none⟩) len cap/\len<=cap)\/(len=0/\cap=0/\∃p,x=.slice p 0 0/\∀a:Addr,p=some a->a.spot=none):=by
 cases h with
 |ms _ _ _ _ _ b h d=>exact .inl ⟨b,h,rfl,d⟩
 |FJ _ _ _ p E=>exact .inr ⟨rfl,rfl,p,rfl,E⟩
def ER.sl{sz xs}(h:ER g (.sl sz xs) x):(xs=[]/\x=.slice none 0 0)\/∃(a:Addr)(cap:Nat)(ys:Nat->Value),x=.slice (some a) xs.length cap/\a.spot=none/\xs.length<=cap/\
 (∀(i:Nat) v,xs[i]?=some v->v.cells.length=sz)/\(∀k,k<xs.length*sz->g.bJ a.block (a.off+k)=.g3 (ys k))/\
 (∀(i:Nat) v (j:Nat) c,xs[i]?=some v->v.cells[j]?=some c->c.one=true)/\
 ∀(i:Nat) v (j:Nat) c,xs[i]?=some v->v.cells[j]?=some c->VR g c (ys (i*sz+j)):=by
 cases h with
 |slnil=>exact .inl ⟨rfl,rfl⟩
 |sl _ _ a cap ys d f l o p q=>exact .inr ⟨a,cap,ys,rfl,d,f,l,o,p,q⟩
end inv
def add_eq{a:Addr}(h:a.spot=none)(n:Nat):a.add n=cl a.block (a.off+n):=by
 unfold Addr.add cl;split
 next d=>subst d;cases a;simp at h;simp[h]
 .rfl
def wg{g:aY}{s:St}{a:Act}{w:World}(R:Rel GL g s a w){v:V}{x:Value}{cs:List V}(hx:ER g v x)(h:s.iO v=some cs):
 ∃(d:Addr)(ys:Nat->Value),x=.pointer (some d)/\d.spot=none/\(∀k,k<cs.length->w.cell? (cl d.block (d.off+k))=some (ys k))/\
  (∀(j:Nat) c,cs[j]?=some c->c.one=true)/\∀(j:Nat) c,cs[j]?=some c->VR g c (ys j):=by
 have box:∀{b:Nat} {ow:eT} {cells:List V} {off:Nat},fQ g w b ow cells->off<=cells.length->
  ∃ys:Nat->Value,(∀k,k< (cells.drop off).length->w.cell? (cl b (off+k))=some (ys k))/\
  (∀(j:Nat) c,(cells.drop off)[j]?=some c->c.one=true)/\∀(j:Nat) c,(cells.drop off)[j]?=some c->VR g c (ys j):=by
  intro b ow cells off hb T6;refine⟨λk=>(w.cell? (cl b (off+k))).getD undef,λk l=>?_,λj c f=>?_,λj c f=>?_⟩
  .simp at l;obtain⟨_,y,h2,_⟩:=hb.cell (off+k) cells[off+k] bT;simp[h2]
  .rw[cY]at f;exact(hb.cell _ _ f).1
  .rw[cY]at f;obtain⟨_,y,h2,o⟩:=hb.cell _ _ f;simpa[h2]using o
 unfold St.iO at h;split at h
 next st p off=>
  split at h
  next q=>
   split at h
   next T6=>cases h;obtain⟨b,e1,e2⟩:=hx;obtain⟨r,h1,h2⟩:=R.loc st p q;exact Xd
   .cases h
  .cases h
 next id off=>
  split at h
  next cells t=>
   split at h
   next T6=>cases h;obtain⟨b,e1,e2⟩:=hx.bp;obtain⟨r,h1,h2⟩:=R.heap.box id cells t;exact Xd
   .cases h
  .cases h
 next cells=>cases h;obtain⟨d,ys,e1,e2,u,z,A⟩:=hx.ep;exact⟨d,ys,e1,e2,λk l=>R.gF.g3 _ _ _ (u k l),z,A⟩
 .cases h
end
section
variable {GL:Nat->Option (List V)}{P:Program}
def fm(P:Program)(t:TypeId):Option Bool:=
 match P.underlying t with
 |some (.struct _)=>some true
 |some (.array _ _)=>some true
 |some _=>some false
 |none=>none
def ng(P:Program)(t:TypeId):Option Nat:=(P.info? t).map (·.size)
def nq{t:TypeId}{g:Bool}(h:fm P t=some g)(w:World):(isAgg t).run P w=.ok g w:=by
 unfold fm at h;cases a:P.underlying t with
 |none=>simp[a]at h
 |some d=>cases d<;>simp[a]at h<;>subst h<;>simp[isAgg,run_underlying a]
def fh{t:TypeId}{n:Nat}(h:ng P t=some n)(w:World):(sizeOf t).run P w=.ok n w:=by
 unfold ng at h;cases a:P.info? t with
 |none=>simp[a]at h
 |some i=>
  simp[a]at h;subst h;simp[sizeOf,typeInfo,a]
def lD{t:TypeId}{z:Value}(h:(P.info? t).bind (·.zero)=some z)(w:World):(zeroValue t).run P w=.ok z w:=by
 cases a:P.info? t with
 |none=>simp[a]at h
 |some i=>
  simp[a]at h;simp[zeroValue,typeInfo,a,h]
def Ev{cs:List V}{g:aY}{ys:Nat->Value}(n:Nat)(o:n<=cs.length)(f:∀(j:Nat) c,cs[j]?=some c->c.one=true)(l:∀(j:Nat) c,cs[j]?=some c->VR g c (ys j)):
 VR g (.agg (cs.take n)) (.agg ((List.range n).map ys).toArray):=by
 refine .agg _ _ (by simp;omega) (λj c a=>?_) (λj c x a hx=>?_)
 .rw[dB]at a;split at a
  .exact f j c a
  .cases a
 .rw[dB]at a;split at a
  next d=>simp[d]at hx;subst hx;exact l j c a
  .cases a
def yN{g:aY}{s:St}{a:Act}{w:World}(R:Rel GL g s a w){t:TypeId}{ag:Bool}{n:Nat}{addr:eL}{x:Value}{v:V}
 (r:fm P t=some ag) (A:ng P t=some n) (hx:ER g (s.val addr) x) (E:dv s (.load ag n addr)=some v):
 ∃y,(Instr.loadAt t x).run P w=.ok y w/\ER g v y:=by
 cases ag with
 |true=>
  simp only[dv]at E;split at E
  next cs f=>
   split at E
   next hle=>cases E;obtain⟨d,j,rfl,l,o,u,p⟩:=wg R hx f;refine⟨.agg ((List.range n).map j).toArray,?_,(Ev n hle u p).e0⟩;simp only[Instr.loadAt,Instr.sureAddr,loadVar,Sem.run_bind,Sem.run_pure,Result.andThen_ok,nq r,bP,fh A];rw[run_loadCells P n w d j l (λk D=>o k av)];rfl
   .cases E
  .cases E
 |false=>
  simp only[dv]at E;split at E
  next c rest f=>
   obtain rfl:=ar E;obtain⟨d,j,rfl,l,o,u,p⟩:=wg R hx f;refine⟨j 0,?_,(p 0 c (by simp)).e0⟩;have q:=o 0 bT;rw[di]at q;have z:d=cl d.block d.off:=by cases d;simp at l;simp[cl,l]
   rw[<-z]at q;simp[Instr.loadAt,Instr.sureAddr,loadVar,nq r,q]
  .cases E
def AL{g:aY}{s:St}{fs:Array Field}{t:TypeId}{f:Field}{i n:Nat}{x:Value}{v:V}{r:eL}{w:World}
 (u:P.underlying t=some (.struct fs)) (z:fs[i]?=some f) (A:ng P f.type=some (n+1)) (hx:ER g (s.val r) x) (E:dv s (.fieldAddr f.offset r)=some v):
 ∃y,(Instr.fieldAt t x i).run P w=.ok y w/\ER g v y:=by
 simp only[dv]at E;have run:∀a:Addr,a.spot=none->(Instr.fieldAt t (.pointer (some a)) i).run P w=.ok (.pointer (some (cl a.block (a.off+f.offset)))) w:=by
  intro a p;simp[Instr.fieldAt,Instr.sureAddr,fieldPlace,run_underlying u,z,fh A,add_eq p]
 split at E
 next st Q o d=>cases E;rw[d]at hx;obtain⟨b,q,rfl⟩:=hx;exact⟨_,run _ rfl,b,q,rfl⟩
 next id o d=>cases E;rw[d]at hx;obtain⟨b,q,rfl⟩:=hx.bp;exact⟨_,run _ rfl,(VR.bp id _ b q).e0⟩
 next cells d=>
  split at E
  next hle=>
   cases E;rw[d]at hx;obtain⟨a,D,rfl,p,H,K,L⟩:=hx.ep;refine⟨_,run a p,VR.e0 (.ep _ _ (λk=>D (f.offset+k)) rfl (λk N=>?_) (λj c l=>?_) (λj c l=>?_))⟩
   .simp at N;have:=H (f.offset+k) av;simpa[cl,cn]using this
   .rw[cY]at l;exact K _ _ l
   .rw[cY]at l;exact L _ _ l
  .cases E
 .cases E
def mS{g:aY}{v:V}{k:Nat}{x:Value}(h:idxOf v=some k)(hx:ER g v x):∃a,x=.int a k:=by
 cases v<;>simp only[idxOf]at h<;>first
  |(cases h;done)
  |skip
 rename_i a n;split at h
 next d=>cases h;obtain rfl:=hx.int;exact⟨a,by rw[oG d]⟩
 .cases h
def AM{g:aY}{s:St}{t e:TypeId}{sz:Nat}{x i:Value}{v:V}{r io:eL}{w:World}
 (u:P.underlying t=some (.slice e)) (z:ng P e=some sz) (hx:ER g (s.val r) x) (A:ER g (s.val io) i) (E:dv s (.sy sz r io)=some v):
 ∃y,(Instr.indexAt t x i).run P w=.ok y w/\ER g v y:=by
 simp only[dv]at E;split at E
 next D o k p q=>
  split at E
  next H=>
   subst H;cases d:o[k]? with
   |none=>simp[d]at E
   |some el=>
    simp[d]at E;subst E;have f:=b0 d;rw[p]at hx;obtain⟨Q,rfl⟩:=mS q A;rcases hx.sl with⟨rfl,rfl⟩|⟨K,cap,R,rfl,ab,ac,ad,L,ai,aA⟩
    .simp at f
    .have aC:=ad k el d;have hb:k*sz+sz<=o.length*sz:=by
      have:(k+1)*sz<=o.length*sz:=cj _ f
      rwa [dG]at this
     refine⟨.pointer (some (cl K.block (K.off+k*sz))),?_,VR.e0 (.ep _ _ (λj=>R (k*sz+j)) rfl (λj l=>?_) (λj c l=>ai k el j c d l) (λj c l=>aA k el j c d l))⟩
     .simp only[Instr.indexAt,asIntOf,Sem.run_bind,Sem.run_pure,Result.andThen_ok,run_underlying u];rw[ax ⟨av,by exact_mod_cast f⟩];simp[fh z,add_eq ab]
     .have:=L (k*sz+j) av;simpa[cl,cn]using this
  .cases E
 next D id off n c k p q=>
  split at E
  next aB=>
   obtain⟨rfl,N⟩:=aB;cases E;rw[p]at hx;obtain⟨Q,rfl⟩:=mS q A;rcases hx.ms with⟨b,hb,rfl,aD⟩|⟨a0,_⟩
   .refine⟨.pointer (some (cl b (off+k*sz))),?_,VR.e0 (.bp _ _ b hb)⟩;simp only[Instr.indexAt,asIntOf,Sem.run_bind,Sem.run_pure,Result.andThen_ok,run_underlying u];rw[ax ⟨av,by exact_mod_cast N⟩];simp[fh z,add_eq (a:=⟨b,off,none⟩) rfl]
   .omega
  .cases E
 .cases E
def uj(l:List UInt8):(⟨l.toArray⟩:ByteArray).toList=l:=by
 rw[ByteArray.toList_eq]
def Az{g:aY}{op:BinOp}{t:TypeId}{vx vy v:V}{x y:Value}{d f:Operand}{w:World}(hx:ER g vx x)(l:ER g vy y)(h:oa op vx vy=some v):
 ∃z,(do eqGuard op t d f x y;binOp op t x y:Sem Value).run P w=.ok z w/\ER g v z:=by
 unfold oa at h;split at h
 next k n o m=>
  obtain rfl:=hx.int;obtain rfl:=l.int;have j:(eqGuard op t d f (.int k n) (.int o m)).run P w=.ok () w:=by cases op<;>simp[eqGuard]
  simp only[Sem.run_bind,j,Result.andThen_ok];split at h
  .exact W7
  .exact W7
  next p q=>
   split at h
   next r=>
    subst r;cases op<;>simp only[ML]at h<;>first
     |(cases h;done)
     |(cases h;exact⟨_,by simp[binOp,Op.intArith,Op.intBits,Op.intCmp],VR.e0 (.int _ _)⟩)
     |(cases h;exact⟨_,by simp[binOp,Op.intArith,Op.intBits,Op.intCmp],VR.e0 (.bool _)⟩)
     |(
      split at h
      .cases h
      next u=>cases h;exact⟨_,by simp[binOp,Op.intDiv,u],VR.e0 (.int _ _)⟩)
   .cases h
 next a b=>
  obtain rfl:=hx.str;obtain rfl:=l.str;have j:(eqGuard op t d f (.string ⟨a.toArray⟩) (.string ⟨b.toArray⟩)).run P w=.ok () w:=by cases op<;>simp[eqGuard]
  simp only[Sem.run_bind,j,Result.andThen_ok];cases op<;>simp only[Tq]at h<;>first
   |(cases h;done)
   |(cases h;exact⟨_,by simp[binOp,Op.stringOp,uj],VR.e0 (.bool _)⟩)
   |(
    split at h
    next hle=>
     cases h;refine⟨.string ⟨(a++b).toArray⟩,?_,VR.e0 (.str _)⟩;have e:¬(((⟨a.toArray⟩:ByteArray).size+(⟨b.toArray⟩:ByteArray).size:Nat):Int)>IntKind.i64.max:=by
      have:IntKind.i64.max=9223372036854775807:=du;rw[this];simp[ByteArray.size];omega
     simp only[binOp,Op.stringOp,al e,Sem.run_pure];congr 2
    .cases h)
 .cases h
end
section
variable {GL:Nat->Option (List V)}{P:Program}
def oU{t:TypeId}{x y:Value}{a d:Operand}{r:Bool}{w:World}(neg:Bool)(j:(eqGuard (if neg then .neq else .eql) t a d x y).run P w=.ok () w)
 (l:binOp .eql t x y=(do pure (.bool (<-Op.equal t x y)))) (h2:binOp .neq t x y=(do pure (.bool (!(<-Op.equal t x y))))) (h:(Op.equalIn (9999+1) t x y).run P w=.ok r w):
 (do eqGuard (if neg then .neq else .eql) t a d x y;binOp (if neg then .neq else .eql) t x y:Sem Value).run P w=.ok (.bool (if neg then !r else r)) w:=by
 have f:(Op.equal t x y).run P w=.ok r w:=h;rw[Sem.run_bind,j,Result.andThen_ok];cases neg
 .simp only[bK,cH];rw[l,Sem.run_bind,f];rfl
 .simp only[bP];rw[h2,Sem.run_bind,f];rfl
def tv(d:Nat)(t e:TypeId)(a:Option Addr)(w:World)(f:P.underlying t=some (.pointer e)):(Op.equalIn (d+1) t (.pointer none) (.pointer a)).run P w=.ok a.isNone w:=by
 simp[Op.equalIn,run_underlying f]
def x3(d:Nat)(t e:TypeId)(a:Addr)(w:World)(f:P.underlying t=some (.pointer e)):(Op.equalIn (d+1) t (.pointer (some a)) (.pointer none)).run P w=.ok false w:=by
 simp[Op.equalIn,run_underlying f]
def HG{g:aY}{neg:Bool}{t:TypeId}{s:St}{v:V}{x y:Value}{j l:Operand}{d bo:eL}{w:World}(o:P.underlying t=some .bool)(hx:ER g (s.val d) x)(f:ER g (s.val bo) y)
 (h:dv s (.Ws neg d bo)=some v):∃z,(do eqGuard (if neg then .neq else .eql) t j l x y;binOp (if neg then .neq else .eql) t x y:Sem Value).run P w=.ok z w/\ER g v z:=by
 simp only[dv]at h;split at h
 next a b p hb=>rw[p]at hx;rw[hb]at f;obtain rfl:=hx.bool;obtain rfl:=f.bool;cases h;exact⟨_,oU neg (by cases neg<;>simp[eqGuard]) rfl rfl (run_equalIn_bool' w 9999 t a b o),VR.e0 (.bool _)⟩
 .cases h
def vb{g:aY}{v:V}{x:Value}{b:Bool}(h:x2 v=some b)(hx:ER g v x):∃a:Option Addr,x=.pointer a/\a.isNone=b:=by
 cases v<;>simp only[x2]at h<;>first
  |(cases h;done)
  |(obtain rfl:=ar h)
 .exact⟨none,hx.lv,rfl⟩
 .obtain⟨b,_,rfl⟩:=hx;exact⟨_,rfl,rfl⟩
 .obtain⟨b,_,rfl⟩:=hx.bp;exact⟨_,rfl,rfl⟩
 .obtain⟨a,_,rfl,_⟩:=hx.ep;exact⟨_,rfl,rfl⟩
def HH{g:aY}{neg:Bool}{t e:TypeId}{s:St}{v:V}{x y:Value}{u A:Operand}{q bo:eL}{w:World}(f:P.underlying t=some (.pointer e))(hx:ER g (s.val q) x)(r:ER g (s.val bo) y)
 (h:dv s (.Wt neg q bo)=some v):∃z,(do eqGuard (if neg then .neq else .eql) t u A x y;binOp (if neg then .neq else .eql) t x y:Sem Value).run P w=.ok z w/\ER g v z:=by
 simp only[dv]at h;split at h
 next b j hb=>
  obtain⟨l,rfl,d⟩:=vb j hx;obtain⟨o,rfl,p⟩:=vb hb r;cases h;cases l with
  |some a=>simp at d
  |none=>
   subst p;exact⟨_,oU neg (by cases neg<;>simp[eqGuard]) rfl rfl (tv 9999 t e o w f),VR.e0 (.bool _)⟩
 next b D j hb=>
  obtain⟨l,rfl,d⟩:=vb j hx;obtain⟨o,rfl,p⟩:=vb hb r;cases h;cases o with
  |some a=>simp at p
  |none=>
   cases l with
   |none=>
    simp at d;subst d;exact⟨_,oU neg (by cases neg<;>simp[eqGuard]) rfl rfl (tv 9999 t e none w f),VR.e0 (.bool _)⟩
   |some a=>
    simp at d;subst d;exact⟨_,oU neg (by cases neg<;>simp[eqGuard]) rfl rfl (x3 9999 t e a w f),VR.e0 (.bool _)⟩
 .cases h
def gJ(P:Program):Nat->TypeId->Option (List CK)
 |0,_=>none
 |d+1,t=>match P.underlying t with
  |some (.int _)=>if ng P t=some 1 then some [.i]else none
  |some .bool=>if ng P t=some 1 then some [.b]else none
  |some .string=>if ng P t=some 1 then some [.s]else none
  |some (.struct j)=>if P.stoodInHeld t=false/\ng P t≠none then
   (lZ (gJ P d) j.toList []).bind λa=>if ng P t=some a.length then some a else none
   else none
  |some (.array len e)=>(gJ P d e).bind λa=>if ng P t=some (len*a.length)/\ng P e=some a.length then some (List.replicate len a).flatten else none
  |_=>none
where
 lZ (f:TypeId->Option (List CK)):List Field->List CK->Option (List CK)
  |[],acc=>some acc
  |x::r,acc=>match f x.type with
   |some a=>if x.offset=acc.length/\x.name≠ "_" then lZ f r (acc++a)else none
   |none=>none
def yO:∀{d:List CK} {a c:List V} {t:Bool},dI d a c=some t->a.length=d.length/\c.length=d.length
 |[],[],[],_,_=>⟨rfl,rfl⟩
 |k::d,x::a,y::c,t,h=>by
  simp only[dI]at h;split at h
  next p q j f=>have:=yO f;simp[this.1,this.2]
  .cases h
 |[],_::_,_,_,h=>by simp[dI]at h
 |[],[],_::_,_,h=>by simp[dI]at h
 |_::_,[],_,_,h=>by simp[dI]at h
 |_::_,_::_,[],_,h=>by simp[dI]at h
def qv:∀{k l:List CK} {a c:List V} {t:Bool},dI (k++l) a c=some t->
 ∃p q,dI k (a.take k.length) (c.take k.length)=some p/\dI l (a.drop k.length) (c.drop k.length)=some q/\t=(p&&q)
 |[],l,a,c,t,h=>⟨true,t,by simp[dI],by simpa using h,bT⟩
 |k::A,l,x::a,y::c,t,h=>by
  simp only[aZ,dI]at h;split at h
  next p q d f=>obtain⟨j,o,r,u,z⟩:=qv f;refine⟨p&&j,o,by simp[dI,d,r],by simpa using u,?_⟩;cases h;rw[z,mz]
  .cases h
 |_::_,_,[],_,_,h=>by simp[dI]at h
 |_::_,_,_::_,[],_,h=>by simp[dI]at h
def fJ(g:aY)(cs:List V)(xs:List Value):Prop:=cs.length=xs.length/\∀(j:Nat) c x,cs[j]?=some c->xs[j]?=some x->VR g c x
def fJ.take{g:aY}{cs:List V}{xs:List Value}(h:fJ g cs xs)(n:Nat):fJ g (cs.take n) (xs.take n):=by
 refine⟨by simp[h.1],λj c x a d=>?_⟩;rw[dB]at a d;split at a
 next f=>simp only[f,bP]at d;exact h.2 _ _ _ a d
 .cases a
def fJ.drop{g:aY}{cs:List V}{xs:List Value}(h:fJ g cs xs)(n:Nat):fJ g (cs.drop n) (xs.drop n):=by
 refine⟨by simp[h.1],λj c x a d=>?_⟩;rw[cY]at a d;exact h.2 _ _ _ a d
def x4(P:Program)(t:TypeId)(xs:List Value):Value:=if fm P t=some true then .agg xs.toArray else xs.headD undef
def rY{t:TypeId}{n off:Nat}{xs:Array Value}{ag:Bool}(w:World)(a:fm P t=some ag)(d:ng P t=some n)(f:ag=false->n=1)(j:off+n<=xs.size):
 (part t xs off).run P w=.ok (x4 P t ((xs.toList.drop off).take n)) w:=by
 cases ag with
 |true=>
  simp only[part,Sem.run_bind,nq a,Result.andThen_ok,bP,fh d,Sem.run_pure,x4,a];congr 2;apply jI;simp[Array.toList_extract]
 |false=>
  have:=f rfl;subst this;have hx:xs[off]?=some xs[off]:=bT;simp only[part,Sem.run_bind,nq a,Result.andThen_ok,bK,cH,hx,Sem.run_pure,x4,a];congr 1;rw[bG (by simp;omega)];simp
def wh{d:Nat}{t:TypeId}{a:List CK}(h:gJ P d t=some a):∃ag,fm P t=some ag/\ng P t=some a.length/\(ag=false->a.length=1):=by
 cases d with
 |zero=>simp[gJ]at h
 |succ d=>
  unfold gJ at h;unfold fm;split at h<;>(try rename_i j)<;>(try simp only[j])
  .exact T4
  .exact T4
  .exact T4
  .split at h
   next l _=>
    cases e:gJ.lZ (gJ P d) l.toList []with
    |none=>simp[e]at h
    |some f=>
     simp only[e,gx]at h;split at h
     .cases h;exact⟨true,rfl,by assumption,bT⟩
     .cases h
   .cases h
  next len el=>
   cases e:gJ P d el with
   |none=>simp[e]at h
   |some f=>
    simp only[e,gx]at h;split at h
    next o=>cases h;exact⟨true,rfl,by rw[o.1];simp,bT⟩
    .cases h
  .cases h
def oe{k:CK}{a b:V}{r:Bool}(h:dI [k] [a] [b]=some r):oR k a b=some r:=by
 simp only[dI]at h;split at h
 next x y d f=>cases f;rw[d];simpa using h
 .cases h
def fJ.one{g:aY}{c:V}{xs:List Value}(h:fJ g [c] xs):∃x,xs=[x]/\VR g c x:=by
 obtain⟨a,d⟩:=h
 match xs,a with
 |[x],_=>exact⟨x,rfl,d 0 c x rfl rfl⟩
def tw{g:aY}(w:World)(d:Nat):∀(D:Nat)(t:TypeId)(a3:List CK),gJ P d t=some a3->d<=D->∀(cs ds:List V)(xs ys:List Value)(r:Bool),fJ g cs xs->fJ g ds ys->dI a3 cs ds=some r->(Op.equalIn D t (x4 P t xs) (x4 P t ys)).run P w=.ok r w:=by
 induction d with
 |zero=>intro D t a3 h;simp[gJ]at h
 |succ d ih=>
  intro D t a3 h cc cs ds xs ys r hx ad aD;obtain⟨D,rfl⟩:∃b6,D=b6+1:=⟨D-1,av⟩;obtain⟨Q,R⟩:=yO aD;unfold gJ at h;split at h
  next k z=>
   split at h
   .cases h
    match cs,Q,ds,R with
    |[c],_,[a0],_=>
     obtain⟨x,rfl,ab⟩:=hx.one;obtain⟨y,rfl,ac⟩:=ad.one;have L:fm P t≠some true:=by simp[fm,z]
     simp only[x4,al L,nU];have j:=oe aD;cases c<;>simp only[oR]at j<;>first|(cases j;done)|skip
     cases a0<;>simp only at j<;>first|(cases j;done)|skip
     split at j
     next b7=>subst b7;cases j;obtain rfl:=ab.e0.int;obtain rfl:=ac.e0.int;exact run_equalIn_int w D t _ k _ _ z
     .cases j
   .cases h
  next z=>
   split at h
   .cases h
    match cs,Q,ds,R with
    |[c],_,[a0],_=>
     obtain⟨x,rfl,ab⟩:=hx.one;obtain⟨y,rfl,ac⟩:=ad.one;have L:fm P t≠some true:=by simp[fm,z]
     simp only[x4,al L,nU];have j:=oe aD;cases c<;>simp only[oR]at j<;>first|(cases j;done)|skip
     cases a0<;>simp only at j<;>first|(cases j;done)|skip
     cases j;obtain rfl:=ab.e0.bool;obtain rfl:=ac.e0.bool;exact run_equalIn_bool' w D t _ _ z
   .cases h
  next z=>
   split at h
   .cases h
    match cs,Q,ds,R with
    |[c],_,[a0],_=>
     obtain⟨x,rfl,ab⟩:=hx.one;obtain⟨y,rfl,ac⟩:=ad.one;have L:fm P t≠some true:=by simp[fm,z]
     simp only[x4,al L,nU];have j:=oe aD;cases c<;>simp only[oR]at j<;>first|(cases j;done)|skip
     cases a0<;>simp only at j<;>first|(cases j;done)|skip
     cases j;obtain rfl:=ab.e0.str;obtain rfl:=ac.e0.str;rw[run_equalIn_string w D t _ _ z,uj,uj]
   .cases h
  next bo z=>
   split at h
   next bu=>
    have a8:P.fieldsOf t=bo:=by simp[Program.fieldsOf,z]
    have L:fm P t=some true:=by simp[fm,z]
    simp only[x4,L,bP];rw[run_equalIn_struct w D t _ _ (by rw[a8];exact z) bu.1,a8];cases e:gJ.lZ (gJ P d) bo.toList []with
    |none=>simp[e]at h
    |some cb=>
     simp only[e,gx]at h;split at h
     .cases h;have key:∀(l:List Field)(acc all:List CK),gJ.lZ (gJ P d) l acc=some all->∃rest,all=acc++rest/\
       ∀r,dI rest (cs.drop acc.length) (ds.drop acc.length)=some r->all.length=cs.length->all.length=ds.length->(Op.eqFields D xs.toArray ys.toArray l).run P w=.ok r w:=by
       intro l;induction l with
       |nil=>
        intro acc all N;simp only[gJ.lZ]at N;cases N;refine⟨[],bT,λr A ai aA=>?_⟩;have H:cs.drop acc.length=[]:=by rw[ai];simp
        have K:ds.drop acc.length=[]:=by rw[aA];simp
        rw[H,K]at A;simp[dI]at A;subst A;simp[Op.eqFields]
       |cons f l bv=>
        intro acc all N;simp only[gJ.lZ]at N;split at N
        next a4 a9=>
         split at N
         next bi=>
          obtain⟨rest,rfl,a5⟩:=bv _ _ N;refine⟨a4++rest,bT,λr A ai aA=>?_⟩;obtain⟨p,q,H,K,rfl⟩:=qv A;obtain⟨ag,g1,a1,a2⟩:=wh a9;have bY:xs.length=cs.length:=hx.1.symm;have b2:ys.length=ds.length:=ad.1.symm;simp only[ae]at ai aA;have aB:=rY (xs:=xs.toArray) (off:=f.offset) w g1 a1 a2 (by simp;omega);have aC:=rY (xs:=ys.toArray) (off:=f.offset) w g1 a1 a2 (by simp;omega);have a6:=ih D f.type a4 a9 av _ _ _ _ p ((hx.drop f.offset).take a4.length) ((ad.drop f.offset).take a4.length) (by rw[bi.1];exact H);have ca:=a5 q (by rw[ae,<-dF,<-dF];exact K) (by simp;omega) (by simp;omega);simp only[Op.eqFields,ax bi.2,Sem.run_bind,aB,aC,Result.andThen_ok,a6,Sem.run_ite];cases p with
          |false=>simp
          |true=>simpa using ca
         .cases N
        .cases N
      obtain⟨rest,H,K⟩:=key bo.toList [] _ e;simp at H;subst H;exact K r (by simpa using aD) Q.symm R.symm
     .cases h
   .cases h
  next len el z=>
   cases e:gJ P d el with
   |none=>simp[e]at h
   |some u=>
    simp only[e,gx]at h;split at h
    next b3=>
     cases h;have L:fm P t=some true:=by simp[fm,z]
     obtain⟨ag,g1,a1,a2⟩:=wh e;simp only[x4,L,bP];simp only[Op.equalIn,Sem.run_bind,run_underlying z,Result.andThen_ok,fh b3.2,Std.Legacy.Range.forIn_eq_forIn_range',Std.Legacy.Range.size,hA,kz,rj];have bl:(List.replicate len u).flatten.length=len*u.length:=bT;have key:∀(m i:Nat)(r:Bool),dI (List.replicate m u).flatten (cs.drop (i*u.length)) (ds.drop (i*u.length))=some r->(i+m)*u.length=cs.length->(i+m)*u.length=ds.length->
      ∃o,(forIn (m:=Sem) (List.range' i m) ((none,()):Option Bool×Unit) λi _=>do
       let a<-part el xs.toArray (i*u.length)
       let b<-part el ys.toArray (i*u.length)
       let c<-Op.equalIn D el a b
       if(!c)=true then pure (ForInStep.done (some false,()))else pure (ForInStep.yield (none,()))).run P w=.ok (o,()) w/\o.getD true=r:=by
      intro m;induction m with
      |zero=>
       intro i r A ai aA;have H:cs.drop (i*u.length)=[]:=cT (by rw[<-ai];simp);have K:ds.drop (i*u.length)=[]:=cT (by rw[<-aA];simp);rw[H,K]at A;simp[dI]at A;subst A;exact⟨none,bT,rfl⟩
      |succ m b5=>
       intro i r A ai aA;rw[fS,dl]at A;obtain⟨p,q,H,K,rfl⟩:=qv A;have bY:xs.length=cs.length:=hx.1.symm;have b2:ys.length=ds.length:=ad.1.symm;have hmul:(i+(m+1))*u.length=i*u.length+u.length+m*u.length:=by
        rw[show i+(m+1)=i+1+m from av,dJ,dJ,Nat.one_mul]
       have aB:=rY (xs:=xs.toArray) (off:=i*u.length) w g1 a1 a2 (by simp;omega);have aC:=rY (xs:=ys.toArray) (off:=i*u.length) w g1 a1 a2 (by simp;omega);have a6:=ih D el u e av _ _ _ _ p ((hx.drop (i*u.length)).take u.length) ((ad.drop (i*u.length)).take u.length) H;rw[dF,dF,<-dG]at K;obtain⟨o,bs,a7⟩:=b5 (i+1) q K (by rw[<-ai];congr 1;omega) (by rw[<-aA];congr 1;omega);cases p with
       |false=>exact⟨some false,by simp[List.range'_succ,aB,aC,a6],rfl⟩
       |true=>exact⟨o,by simp only[List.range'_succ,List.forIn_cons,Sem.run_bind,aB,aC,a6,Result.andThen_ok,bM,bK,cH,Sem.run_pure];exact bs,by simpa using a7⟩
     obtain⟨o,bs,a7⟩:=key len 0 r (by simpa using aD) (by rw[Q,bl];simp) (by rw[R,bl];simp);rw[bs];simp only[Result.andThen_ok];cases o<;>simp at a7<;>subst a7<;>rfl
    .cases h
  .cases h
end
end Go.Bx
