/- Lemmas for HistoryOrder. -/
import Derived.Calls
import Derived.ChangeKeysEq
import Derived.Laws.BytesString
import Derived.Laws.Sem
import Derived.Laws.StructEq
import Derived.Laws.Unary
import Derived.Laws.World
noncomputable section
set_option linter.all false
namespace Go.Bx
def av{P:Prop}(h:P:=by omega):P:=h
def bR{P:Prop}(h:P:=by simp):P:=h
def dt{P:Prop}(h:P:=by decide):P:=h
def bb0{P:Prop}(h:P:=by
 cases V3:o.guard with
 |none=>
  simp only[V3]at Wl;cases Wl;simp only at hv;have hw:Region.wanted o (yielded ops a.tmps)=true:=by simp[Region.wanted,V3]
  rw[ax hw];exact D1 hv
 |some gp=>
  obtain⟨j,want⟩:=gp;simp only[V3]at Wl;obtain⟨t,ht,rfl⟩:=dn Wl;simp only at hv;have hy:yielded ops a.tmps j=match a.tmps[t]? with|some (.bool b)=>some b|_=>none:=by
   unfold yielded;rw[ht];cases h5:a.tmps[t]? with
   |none=>simp[h5]
   |some z=>cases z<;>simp[h5]
  have Pt:=R.Z t;split at hv
  next b hb=>
   rw[hb]at Pt;have htm:a.tmps[t]?=some (.bool b):=by
    have:=Pt.bool;rw[cH]at this;cases h5:a.tmps[t]? with
    |none=>rw[h5]at this;simp[undef]at this
    |some z=>rw[h5]at this;simpa using this
   rw[htm]at hy;by_cases hbw:b=want
   .rw[ax hbw]at hv;have hw:Region.wanted o (yielded ops a.tmps)=true:=by simp[Region.wanted,V3,hy,hbw]
    rw[ax hw];exact D1 hv
   .rw[an hbw]at hv;have hw:¬Region.wanted o (yielded ops a.tmps)=true:=by simp[Region.wanted,V3,hy,hbw]
    rw[an hw];exact⟨λ_ _=>trivial,zY hv⟩
  next hb=>
   rw[hb]at Pt;have hu:a.tmps.getD t undef=undef:=Pt.qr;have hy':yielded ops a.tmps j=none:=by
    rw[hy];rw[cH]at hu;cases h5:a.tmps[t]? with
    |none=>rfl
    |some z=>rw[h5]at hu;simp at hu;subst hu;rfl
   have hw:¬Region.wanted o (yielded ops a.tmps)=true:=by simp[Region.wanted,V3,hy']
   rw[an hw];exact⟨λ_ _=>trivial,zY hv⟩
  .cases hv):P:=h
def bb1{P:Prop}(h:P:=by
 split at hc
 next h' l' e1 e2=>
  split at hc
  next hb=>
   simp at hc;obtain⟨rfl,rfl⟩:=hc;refine⟨?_,hb⟩;have IN:(match lo.map a.eval with
    |some v=>do
     let l<-Instr.sliceBound v h' BoundsCode.sliceB
     pure (l,h',cap)
    |none=>pure (0,h',cap):Sem (Nat×Nat×Nat)).run P w=.ok (l',h',cap) w:=by
    cases lo with
    |none=>simp[kV]at h1;subst h1;simp at e2;subst e2;simp
    |some lo=>
     cases e:eC GL lo with
     |none=>simp[kV,e]at h1
     |some b=>
      simp[kV,e]at h1;subst h1;simp only at e2;obtain⟨kd,hk⟩:=mW e2 (cv R e);simp only[bG,hk,Sem.run_bind,run_sliceBound hb.1,Result.andThen_ok,Sem.run_pure]
   cases hi with
   |none=>
    simp[kV]at h2;subst h2;simp at e1;subst e1;simp only[Instr.sliceBounds,jp,pure_bind,cL,bM,cE];exact IN
   |some hi=>
    cases e:eC GL hi with
    |none=>simp[kV,e]at h2
    |some b=>
     simp[kV,e]at h2;subst h2;simp only at e1;obtain⟨kd,hk⟩:=mW e1 (cv R e);simp only[Instr.sliceBounds,bG,pure_bind,hk,cL,bM,cE];rw[Sem.run_bind,run_sliceBound av,Result.andThen_ok];exact IN
  .cases hc
 .cases hc):P:=h
def bb2{P:Prop}(h:P:=by
 simp only[jS];by_cases h0:n*sz=0
 .simp only[h0,bQ,pure_bind];have Wm:Instr.fill (λi=>some (i*sz,sz)) (Array.map (λi=>(#[]:Array Value)[i%(#[]:Array Value).size]!) (Array.range 0)) (parts.toList.map λ(i,x)=>(i,a.eval x))=some zs:=by
   rw[<-f1];congr 1;simp[h0]
  rw[Wm];exact fin
 .simp only[an h0,bind_assoc,pure_bind];rw[Sem.run_bind,lK z1,Result.andThen_ok,f1];exact fin):P:=h
def bb3{P:Prop}(h:P:=by
 simp only[aW.cut];split
 next i gn e=>rw[e];split<;>simp
 next id e=>
  rw[e];split
  .split<;>simp
  .simp
 .exact Iff.rfl):P:=h
def bb4{P:Prop}(h:P:=by
 cases x<;>simp only[eC]at h
 .injection h with h;injection h with h;subst h;rfl
 .obtain⟨_,_,h⟩:=dn h;cases h
 .obtain⟨_,_,h⟩:=dn h;cases h
 .injection h with h;cases h):P:=h
def bb5{P:Prop}(h:P:=by
 simp only[fC,ew,Sem.run_bind,run_underlying hd,Result.andThen_ok,Sem.run_pure];rfl):P:=h
def bb6{P:Prop}(h:P:=by
 cases o with
 |tail l=>cases l<;>cases ph<;>simp[lh,hidden]
 |dZ i=>cases ph<;>simp[lh,hidden]
 |oS i=>cases ph<;>simp[lh,hidden]
 |_=>simp[lh,hidden]):P:=h
def bb8{P:Prop}(h:P:=by
 cases o with
 |tail l=>cases l<;>simp only[pM]<;>first|(simp;done)|(split<;>simp)
 |_=>simp[pM]):P:=h
def bb9{P:Prop}(h:P:=by
 cases o with
 |tail k=>cases k<;>cases ph<;>simp[lL]
 |dZ i=>cases ph<;>simp[lL]
 |oS i=>cases ph<;>simp[lL]
 |_=>simp[lL]):P:=h
def Wn{P:Prop}(h:P:=by
 simp only[aM];by_cases h1:off+1<=j/\j<off+1+vs.length
 .rw[ax h1,ax av];rw[show j-off=(j-(off+1))+1 from av,ey]
 .rw[an h1,kR];by_cases h2:off=j
  .subst h2;rw[ax rfl,ax av];simp
  .rw[an h2,an av]):P:=h
def Wo{P:Prop}(h:P:=by
 rcases am gn (s.G st)with h'|h'
 .exact h'
 .exact absurd ((R.jd st gn h').symm.trans e3) bR):P:=h
def Pu{P:Prop}(h:P:=by
 refine h s.E ?_ rfl rfl;rw[e2];funext i;unfold eR;split
 next e=>rw[e,hb]
 .rfl):P:=h
def Wp{P:Prop}(h:P:=by
 have hR:=h2.retv hd h4 (λd _ ho=>h5 ho (.var d));unfold Oper.go;rcases h1 with h1|⟨h1,rfl⟩
 .rw[h1,Oper.uponIn_value];exact hn g' _ _ w' hK (zZ _ _ _ _) hR h3
 .rw[h1,Oper.uponIn_skip];exact hn g' _ _ w' hK (zZ _ _ _ _) hR h3):P:=h
def Wq{P:Prop}(h:P:=by
 unfold St.store at h;split at h
 .split at h
  .cases h;split
   .cases x<;>rfl
   .rfl
  .cases h
 .split at h
  .split at h
   .cases h;split
    .cases x<;>rfl
    .rfl
   .cases h
  .cases h
 .cases h):P:=h
def Wr{P:Prop}(h:P:=by
 rename_i hd;split at h
 next ks hks=>
  split at h
  next hg=>obtain⟨p,q,e1,e2,rfl⟩:=kW h;exact G2 hks (by simp[fq,hd]) hg (cv R e1) (cv R e2) E
  .cases h
 .cases h):P:=h
def Ws{P:Prop}(h:P:=by
 cases hv:s.val y<;>rw[hv]at hy<;>simp only[nF]at hy<;>try(cases hy;done)
 .exact absurd hv (Wt _)
 .split at hy
  next h1=>cases hy;simp[qs,h1,b1]
  .cases hy
 .cases hy;simp[qs,b1]):P:=h
def Wu{P:Prop}(h:P:=by
 refine⟨hg,λb e3=>?_⟩;obtain⟨h4,h5⟩:=hh b e3;obtain⟨b2,e6,e7⟩:=R.loc st gn hg;cases (e6.symm.trans e3);exact⟨by rw[(kp (l:=l) h (e7.bL j (bZ h5)) rfl bR).2.1];exact h4,h5⟩):P:=h
def Wv{P:Prop}(h:P:=by
 obtain⟨vs,h1,h2,h3⟩:=ih;refine⟨a::vs,by simp[BR.p2,BR.get,h1,h,hl],by simp[h2],λj c d e1 e2=>?_⟩;cases j with
 |zero=>cases e1;cases e2;exact hu
 |succ j=>exact h3 j c d e1 e2):P:=h
def Ww{P:Prop}(h:P:=by
 simp only[MX.wp]at*
 split at h
 .split at h
  next hc=>rw[ax hc];exact hq _ _ _ h
  next hc=>rw[an hc];obtain⟨cs,e1,e2,e3⟩:=h;exact⟨cs,e1,e2,hq _ _ _ e3⟩
 .exact h):P:=h
def TM{P:Prop}(h:P:=by
 rw[ae,dM ho];exact aQ (cj _ hx) (li _ _)):P:=h
def TN{P:Prop}(h:P:=by
 have hj:j<cs.length:=by rw[hl];exact bZ hd
 exact ih j cs[j] d bR hd (h3 j cs[j] y bR hy)):P:=h
def Wx{P:Prop}(h:P:=by
 intro j d e;have hj:j<cells.length:=by rw[hl];exact bZ e
 obtain⟨f1,y,f2,f3⟩:=L8 j cells[j] bR;exact⟨(h j cells[j] d bR e).one f1,y,f2,ih j cells[j] d bR e f3⟩):P:=h
def Wy{P:Prop}(h:P:=by
 by_cases h:b'=b
 .subst h;simp only[cl,zx hb,hb];cases ob<;>first|(simp[uZ]at hi;done)|(cases pg<;>first|rfl|(simp[uZ]at hi'))
 .simp only[cl,kx h]):P:=h
def aay{P:Prop}(h:P:=by
 show(let m:=(n:Int)%(2^64:Int);if true&&decide (m>=(2^63:Int))then m-(2^64:Int)else m)=n;simp only[hA,cy];split<;>omega):P:=h
def Wz{P:Prop}(h:P:=by
 induction n with
 |zero=>simp[kl]
 |succ n ih=>simp only[kl,fR,dk,ae]at ih ⊢;rw[ih,hz,dH];omega):P:=h
def WA{P:Prop}(h:P:=by
 refine⟨xs.toList[j],?_,(hc.2 j c _ hj hx).mono R.gA.mX⟩;rw[show cl w.heap.size j=⟨w.heap.size,j,none⟩from rfl,World.cell?_alloc_new];simpa using hx):P:=h
def WB{P:Prop}(h:P:=by
 have h5:=G3 (L9:=len+n) (cap:=cap) av;have h6:Builtin.nextslicecap (len+n) cap*i.bytes<=2147484160*65536:=oT av G4;omega):P:=h
def TO{P:Prop}(h:P:=by
 split at h
 .cases h;exact⟨false,rfl,by assumption,λ_=>rfl⟩
 .cases h):P:=h
def WC{P:Prop}(h:P:=by
 simp only[St.store,hb,ho,hl,oU,bQ];split
 .cases y<;>exact⟨rfl,rfl,rfl,rfl,rfl,rfl⟩
 .exact⟨rfl,rfl,rfl,rfl,rfl,rfl⟩):P:=h
def TP{P:Prop}(h:P:=by
 rw[<-zy hd hl,<-wz (hs (by rw[hm,h0];rfl))];exact hk):P:=h
def WD{P:Prop}(h:P:=by
 obtain⟨b',h1,h2⟩:=hh.box id cs e;exact⟨b',by rw[mY (IP hh e)];exact h1,qg (hh.Y _ (ao _)) h2⟩):P:=h
def WE{P:Prop}(h:P:=by
 intro l;cases l with
 |none=>rfl
 |some k=>cases k<;>first|rfl|(simp only[Ma,co,Loc.var.injEq])|(simp[Ma])):P:=h
def WF{P:Prop}(h:P:=by
 intro a x hx;simp only[St.head];cases e:look (vals a) x with
 |some q=>exact absurd (mN.look (hk a) e).1 hx
 |none=>simp[hx]):P:=h
def WG{P:Prop}(h:P:=by
 unfold rL at hr;split at hr
 next hc=>have:=(fh hc.1).2;rw[e]at this;simp[V.cells,V.one]at this
 .cases hr):P:=h
def WH{P:Prop}(h:P:=by
 exact⟨_,by rw[run_convert_bytes_string w src dst e _ _ _ hs he hd];simp[Conv.bytesToString];rfl,VR.fb (.str _)⟩):P:=h
def WI{P:Prop}(h:P:=by
 by_cases hc:e=.exit id
 .simp only[hc,bQ]at ht ⊢;exact ht
 .simp only[hc,cE]at ht ⊢;exact ht):P:=h
def WJ{P:Prop}(h:P:=by
 cases p with
 |none=>exact .slnil sz
 |some a=>exact .sl sz [] a 0 (λ_=>undef) (E a rfl) bR bR bR bR bR):P:=h
def WK{P:Prop}(h:P:=by
 apply Array.ext bR;intro i h1 h2;simp only[Array.getElem_modify];by_cases hi:j=i
 .subst hi;simp
 .simp[hi]):P:=h
def WL{P:Prop}(h:P:=by
 split at h
 .cases h
 next hy0=>cases h;exact⟨_,by simp[binOp,Op.shift,hy0],VR.fb (.int _ _)⟩):P:=h
def WM{P:Prop}(h:P:=by
 rintro⟨rfl,h1,h2⟩;have:=ho (o-off) av;rw[show off+(o-off)=o from av,h]at this;exact hne this):P:=h
def WN{P:Prop}(h:P:=by
 cases p with
 |none=>simp[Builtin.firstCells]
 |some ad=>simp[Builtin.firstCells,loadCells,loadCellsFrom]):P:=h
def WO{P:Prop}(h:P:=by
 rcases am gn (s.G st)with h'|h'
 .exact h'
 .exact absurd ((h.jd st gn h').symm.trans e3) bR):P:=h
def WP{P:Prop}(h:P:=by
 rw[dA]at e;split at e
 .rw[c0]at e;exact⟨e,by assumption⟩
 .cases e):P:=h
def WQ{P:Prop}(h:P:=by
 rw[fA,dk]at h1;exact(aU.1 (aU.1 h1).2.1).1):P:=h
def aaz{P:Prop}(h:P:=by
 cases (e6.symm.trans e3);exact⟨by rw[eW hw ho (e7.bL j (bZ h5)) bR];exact h4,h5⟩):P:=h
def WR{P:Prop}(h:P:=by
 cases (h1.symm.trans e1);obtain⟨ys,f1,f2,f3⟩:=box h2 TR;exact⟨_,ys,e2,rfl,f1,f2,f3⟩):P:=h
def WS{P:Prop}(h:P:=by
 simp only[dw]at E;split at E
 next cs hv=>exact key cs hv (by simpa using E)
 .cases E):P:=h
def WT{P:Prop}(h:P:=by
 funext t;simp only[eR];by_cases ht:t=e<;>by_cases ht':t=d<;>simp[ht,ht',hed,hde]):P:=h
def WU{P:Prop}(h:P:=by
 simp[hnb,aaA,frozen,noView,viewAt,mayBeOne,stringish,shape,Sem.run,hsa,hsb,f1,f2]):P:=h
def WW{P:Prop}(h:P:=by
 obtain⟨p,q,e1,e2,rfl⟩:=kW h;exact z6 (cv R e1) (cv R e2) E):P:=h
def WX{P:Prop}(h:P:=by
 rename_i hd;simp only[Sem.run_bind,run_underlying hd,Result.andThen_ok];cases x<;>rfl):P:=h
def WY{P:Prop}(h:P:=by
 unfold Addr.add cl;split
 next h0=>subst h0;cases a;simp at hs;simp[hs]
 .rfl):P:=h
def WZ{P:Prop}(h:P:=by
 simp only[Builtin.firstCells,Sem.run_pure]at h ⊢
 injection h with h1 h2
 rw[h1]):P:=h
def W0{P:Prop}(h:P:=by
 simp only[Instr.storeAt,Instr.sureAddr,pure_bind];exact D2 hn V4 W1):P:=h
def W2{P:Prop}(h:P:=by
 simp[V.cells]at e2;subst e2;simp[hb]at e3;subst e3;exact⟨.int _ _,rfl⟩):P:=h
def W3{P:Prop}(h:P:=by
 rw[mY (IP hh e1)]at e4;exact hh.tail id cs j c b' x e1 e2 e3 e4 e5):P:=h
def W4{P:Prop}(h:P:=by
 have:=Mb (l:=l) out.step (out.tail ho);simpa only[l,hd']using this):P:=h
def W5{P:Prop}(h:P:=by
 split at h
 .split at h
  .cases h;simp[ne _ rfl]
  .cases h
 .cases h):P:=h
def W6{P:Prop}(h:P:=by
 simp only[BC.iH,aR,mC]at hx;rw[hu.2 x hx.2,h2 x hx.1]):P:=h
def aaB{P:Prop}(h:P:=by
 show back ph l (g.bL b o) (g1.bL b o)=_;rw[kJ (.inr e),f1];rfl):P:=h
def W7{P:Prop}(h:P:=by
 simp only[bG];rw[show j-i=(j-(i+1))+1 from av];simp):P:=h
def W8{P:Prop}(h:P:=by
 split at h
 .split at h
  .cases h;exact .put ..
  .cases h
 .cases h):P:=h
def W9{P:Prop}(h:P:=by
 have:=ar (λl=>l[0]?) hc';simpa[c0]using this):P:=h
def Xa{P:Prop}(h:P:=by
 rw[<-zy hd hl,<-wz (hs (by simp[BI.mem]))];exact hk):P:=h
def Xb{P:Prop}(h:P:=by
 have:=hl _ e1;simp only[St.nR,bQ,Act.put,same];exact this):P:=h
def Xc{P:Prop}(h:P:=by
 rw[tL hh.1 hh.2]at e';rw[e']at hh;simp[lh,hidden]at hh):P:=h
def Xd{P:Prop}(h:P:=by
 split
 .rw[h];cases ob<;>first|rfl|(simp[uZ]at hi)
 .exact h):P:=h
def Xe{P:Prop}(h:P:=by
 exact⟨hcut _ (λ_=>rfl),by rw[hfl t htd],by simp[eR,htd]⟩):P:=h
def Xf{P:Prop}(h:P:=by
 obtain⟨_,⟨rfl,rfl⟩|⟨id,c,rest,rfl,_⟩⟩:=hm<;>rfl):P:=h
def Xg{P:Prop}(h:P:=by
 split at h
 .cases h;exact(Kept.fG ..).trans (.put ..)
 .cases h):P:=h
def V5{P:Prop}(h:P:=by
 repeat' first|simp only[dq,simprocAttr]|refine cs ?_ ?_<;>intro h<;>try omega|refine q1 ?_
 exact aj (by
  have h1:a.take k=a:=az av;have h2:b.take k=b:=az av;rw[h1,h2]at he;simp[he])):P:=h
def V6{P:Prop}(h:P:=by
 refine pk Tryz.f191 ?_;repeat' first|simp(disch:=try exact om) only[gE,simprocAttr,Op.v,Op.c,h]|refine lq c1 ?_|refine lq c2 ?_|refine lq c3 ?_|refine lq c4 ?_|(refine al nE ?_;((refine Fh ?_;repeat' first|exact hP.nil|refine hP.tmp rfl rfl ?_ ?_|refine hP.cell ev rfl ?_ ?_);(all_goals(try(first|with_reducible exact .refl _|(apply aj;simp;done))))))
 all_goals skip):P:=h
def wb3{P:Prop}(h:P:=by
 repeat' first|simp(disch:=try exact om) only[gE,simprocAttr]|(refine tM (by simp only[pU]<;>rfl) (by simp only[da]<;>rfl) ?_ (λh=>?_))|(refine al nE ?_;first|apply SR rfl rfl rfl|apply Xh rfl rfl rfl)
 all_goals first|exact Pv (by assumption)|exact aj rfl):P:=h
def wb6{P:Prop}(h:P:=by
 subst key;simp only[fu,cL];refine pk Tryz.f251 ?_;repeat' first|simp(disch:=try exact om) only[dq,simprocAttr]|(first|refine cs ?_ ?_|refine gs ?_ ?_)<;>intro h<;>try omega|(refine al nE ?_;((refine Fh ?_;repeat' first|exact hP.nil|refine hP.tmp rfl rfl ?_ ?_|refine hP.cell ev rfl ?_ ?_);(all_goals(try((apply aj;simp;done))))))
 all_goals exact kX):P:=h
def wb7{P:Prop}(h:P:=by
 show V.lM jF _ e.v;rw[hv];exact .agg _ _ rfl (y9.cons (.refl _) (.cons (.refl _) (.cons (.refl _) (.cons (.refl _) (.cons (Pw.2.L3 _) (.cons (.refl _) (.cons (.refl _) (.cons (.refl _) (.cons (.refl _) (.cons (.refl _) (.cons (.refl _) (.cons (.refl _) (.cons (.refl _) (.cons (.refl _) (.cons (.refl _) (.cons (.refl _) (.cons (.refl _) (.cons (.refl _) (.cons (.refl _) (.cons (.aP _) (.cons (.aP _) (.cons (.aP _) (.cons (.refl _) (.cons (.refl _) (.cons (.refl _) (.cons (.refl _) (.cons (.aP _) (.cons (.refl _) (.cons (.refl _) (.cons (.refl _) (.cons (.aP _) (.cons (.refl _) .nil)))))))))))))))))))))))))))))))).2):P:=h
def wb8{P:Prop}(h:P:=by
 all_goals
  refine z7 (cells:=[df b,I a]) ?_ ?_ bR λt2 D3 Ki Mc Ph TS TT=>?_
  .simp only[simprocAttr,bh];exact hb
  .exact sT
  have tb:t2.E.box=eR E.box id (some [df b,I (a+A:Nat)]):=by rw[Ph];simp only[da,simprocAttr];rfl
  have tm:t2.E.mp=E.mp:=by rw[TS];simp only[simprocAttr,bh]
  have tn:t2.E.Y=E.Y:=by rw[TT];simp only[simprocAttr,bh]
 all_goals repeat any_goals simp only[gE,simprocAttr,D3]
 all_goals exact⟨nE,_,_,bz rfl rfl,rfl,tb,tm,tn⟩):P:=h
def Xi{P:Prop}(h:P:=by
 repeat any_goals first|simp(disch:=try exact om) only[gE,simprocAttr,u2,hV,o1,a0,a1,a5,t1,e3,h3]|refine cs ?_ ?_<;>intro h<;>try omega|refine ec ?_
 refine iE (xs:=(qt l b k).map aV.v) (ys:=[l[J].v]) ?_ ?_ ?_ ?_ ?_ rfl ?_ ?_ λv' wx Pi hb hi=>?_
 .exact sT
 .exact sT
 .intro y hy;simp at hy;subst hy;rfl
 .exact sT
 .simp only[sE,simprocAttr];intro l hl;cases hl
 .simp only[aq,aM,aT];omega
 .intro _ hc;cases hc
 have hb2:bt (bH V0) y.E wx:=by revert hb;simp only[sE,simprocAttr,hV];exact id
 have SS:bH v'=bH V0\/bH v'=some y.E.Y:=by revert hi;simp only[sE,simprocAttr,hV];exact id
 obtain⟨z1,z2,z3⟩:=done v' wx Pi hb2 SS;have o3:=Pi.one;have o4:=Pi.fS;repeat any_goals simp(disch:=omega) only[gE,simprocAttr,u2,o3,o4]
 refine⟨k+1,⟨?_⟩,⟨av⟩⟩;refine⟨h1,?_,?_,?_,?_⟩
 .simp only[sE,simprocAttr];try exact ar (V.int .i64) av
 .exact sT
 .exact sT
 .exact sT):P:=h
def TU{P:Prop}(h:P:=by
 repeat' first|simp(disch:=omega) only[dq,simprocAttr]|refine cs ?_ ?_<;>intro h<;>try omega|refine ec ?_
 refine Md (m:=n) (fD:=E) ?_ ?_ ?_ hn av λc' hc=>?_
 .exact sT
 .simp only[da];exact ar I av
 .simp only[simprocAttr,bh]
 repeat' simp(disch:=omega) only[gE,simprocAttr]
 refine⟨nE,_,_,bz rfl rfl,?_,λh=>(by cases h),?_⟩
 .exact Me rfl hc
 .exact G5 _ _):P:=h
def G6{P:Prop}(h:P:=by
 exact aj (by
  have:a≠b:=λe=>by subst e;simp_all
  simp[this])):P:=h
def Fi{P:Prop}(h:P:=by
 exact aj (by
  have:a≠b:=λe=>by simp_all
  simp[this])):P:=h
def TV{P:Prop}(h:P:=by
 rw[Xj]at wy;subst wy;repeat any_goals first|simp(disch:=try exact om) only[gE,simprocAttr,h0,L4]|refine cs ?_ ?_<;>intro h<;>try omega|refine lq c1 ?_|refine lq c3 ?_|refine lq c4 ?_|refine lq c5 ?_|refine lq c6 ?_|refine lq c7 ?_|refine lq c9 ?_|refine ec ?_
 all_goals(refine fin1 ev rfl ?_;exact(ss Pj).L3 _)):P:=h
def Kj{P:Prop}(h:P:=by
 rw[pe]at TW;injection TW with _ e1 _ _ _;rw[<-e1,p3]at TX;exact(au TX).symm):P:=h
def Xk{P:Prop}(h:P:=by
 all_goals
  refine cC (n:=1) (cells:=[df b,I a,I 0]) ?_ ?_ bR λt2 D3 Ki Mc Ph TS TT te7=>?_
  .exact sT
  .exact sT
  have tb:t2.E.box=eR E.box id (some [df b,I (a+A:Nat),I 0]):=by rw[Ph];simp only[da,simprocAttr];rfl
  have tm:t2.E.mp=E.mp:=by rw[TS];simp only[da,simprocAttr]
  have tn:t2.E.Y=E.Y:=by rw[TT];simp only[da,simprocAttr]
 all_goals repeat any_goals simp only[gE,simprocAttr,D3,Ki,Mc]
 all_goals exact⟨nE,_,_,bz rfl rfl,rfl,tb,tm,tn⟩):P:=h
def aaC{P:Prop}(h:P:=by
 intro n hn;simp only[Op.head,bC,cI,gI]at hn;rcases hn with rfl|rfl|rfl|rfl|rfl|rfl|rfl|rfl|rfl|rfl|rfl|rfl|rfl
 all_goals first|exact h0.1|exact h0.2.1|exact h0.2.2.1|exact h0.2.2.2.1|exact h0.2.2.2.2.1|exact h0.2.2.2.2.2.1|exact h0.2.2.2.2.2.2.1|exact h0.2.2.2.2.2.2.2.1|exact h0.2.2.2.2.2.2.2.2.1|exact h0.2.2.2.2.2.2.2.2.2.1|exact h0.2.2.2.2.2.2.2.2.2.2.1|exact h0.2.2.2.2.2.2.2.2.2.2.2.1|exact h0.2.2.2.2.2.2.2.2.2.2.2.2):P:=h
def Mf{P:Prop}(h:P:=by
 all_goals exact aj (ar (V.sl 1) (by unfold pp q5 kc;rw[hK];simp))):P:=h
def Xl{P:Prop}(h:P:=by
 refine cC (n:=1) (cells:=[I 0]) ?_ ?_ bR λt2 D3 Ki Mc Ph TS TT te7=>?_
 .exact sT
 .exact sT
 have tb:t2.E.box 0=some [I 1]:=by
  rw[Ph];(try simp only[sE,simprocAttr]);rw[bl];rfl
 repeat any_goals simp only[gE,simprocAttr,cO,D3,Ki,Mc]
 exact⟨nE,I 1,false,jF,t2.E,_,false,eA (by simp only[dL,simprocAttr,cO,bh,D3,tb]<;>rfl) rfl,.refl _,.refl _,λh=>(by cases h),rfl,rfl⟩):P:=h
def aaD{P:Prop}(h:P:=by
 by_cases hn:n<0
 .simp only[ax hn,bw,jT];rw[rM av];congr 2
  .simp;omega
  .refine ke λd hd=>?_;have:=l5 d hd;simp only[lO];rw[rM av];congr 1;omega
 .simp only[an hn,bw,jT];rw[rM av];congr 2;refine ke λd hd=>?_;have:=l5 d hd;simp only[lO];rw[rM av]):P:=h
def Xm{P:Prop}(h:P:=by
 rw[bX,ap,aa hQ,bf]at wy;subst wy;repeat any_goals first|simp(disch:=try exact om) only[gE,simprocAttr,h0,L4]|refine cs ?_ ?_<;>intro h<;>try omega|refine lq c1 ?_|refine lq c3 ?_|refine lq c4 ?_|refine lq c5 ?_|refine lq c6 ?_|refine lq c7 ?_|refine lq V7 ?_|refine ec ?_
 all_goals(refine fin1 ev rfl ?_;exact(ss Pj).L3 _)):P:=h
def TY{P:Prop}(h:P:=by
 exact⟨h1,by(simp only[sE,simprocAttr]);try exact ar (V.int .i64) av,by(simp only[sE,simprocAttr]);exact z1,by(simp only[sE,simprocAttr]);exact z2,by(simp only[sE,simprocAttr]);exact z3⟩):P:=h
def Xn{P:Prop}(h:P:=by
 have aaE:=Pw.1;repeat any_goals first|simp only[gE,simprocAttr,j2,j3,j4,j5,j6,j7,j8,j9,jA,e1,e2,e3,e6,Pk,Pl,aaE]|refine cs ?_ ?_<;>intro h<;>try omega
 refine fin1 (by simp only[dL,simprocAttr,e6,j5,j6,bh]<;>rfl) rfl ?_;rw[wy];exact(ss (by repeat(first|exact aN.cons Pw.2 .nil|refine aN.cons (.refl _) ?_|refine aN.cons (.aP _) ?_))).L3 _):P:=h
def Xo{P:Prop}(h:P:=by
 rw[hh]at c1;repeat any_goals simp only[gE,simprocAttr,hx,o1,Op.c,aZ,bx,vv]
 refine bm rfl c1 ?_ ?_ ?_
 .simp only[da,simprocAttr];simp;exact⟨rfl,rfl⟩
 .refine nG ?_;simp only[dL,simprocAttr]<;>rfl
 rintro _ _ E ⟨rfl,rfl⟩;repeat any_goals simp only[gE,simprocAttr]
 exact⟨nE,I 6,_,bz rfl rfl,rfl,λh=>by cases h⟩):P:=h
def Mg{P:Prop}(h:P:=by
 exact⟨nE,I 0,_,bz rfl rfl,rfl,λ_=>⟨tE,R'⟩⟩):P:=h
def Xp{P:Prop}(h:P:=by
 refine pk Tryz.f189 ?_;repeat' first|simp only[dq,simprocAttr]|refine cs ?_ ?_<;>intro h<;>try omega|refine ec ?_|(refine al nE ?_;refine tO ev rfl ?_)
 all_goals exact nj rfl (by simp[nH,Xq,n0,n1,n2,n4,n6,n7,n8,n9];repeat(first|exact aN.nil|refine aN.cons (.refl _) ?_|refine aN.cons (.aP _) ?_))):P:=h
def TZ{P:Prop}(h:P:=by
 have hz:l=[]:=by simpa using h
 subst hz;exact⟨nE,.aP,_,bz rfl rfl,gh.nil,⟨λ_ _ _=>rfl,λ_ _=>rfl,ao _⟩,λi hi=>(by cases hi)⟩):P:=h
def Xr{P:Prop}(h:P:=by
 obtain⟨hl,rfl⟩:=aH.1 hx;refine⟨ho _ (ah hl),λj c' hj=>?_⟩;have h1:=iv ho hl rest;have:(b1 xs++rest)[i*sz+j]?=((b1 xs++rest).drop (i*sz))[j]?:=by rw[c0]
 rw[cA,this,h1,dI (aH.1 hj).1];exact hj):P:=h
def aaF{P:Prop}(h:P:=by
 repeat' first|simp only[dq,simprocAttr]|refine cs ?_ ?_<;>intro h<;>try omega|apply rN rfl rfl rfl
 exact aj (by rw[az h1])):P:=h
def Xs{P:Prop}(h:P:=by
 repeat any_goals first|simp(disch:=try exact om) only[gE,simprocAttr,h0,L4]|refine cs ?_ ?_<;>intro h<;>try omega|refine lq c1 ?_|refine lq c3 ?_|refine lq c4 ?_|refine lq c5 ?_|refine lq c6 ?_|refine lq c7 ?_|refine ec ?_
 all_goals(refine fin1 ev rfl ?_;exact(ss Pj).L3 _)):P:=h
def Xt{P:Prop}(h:P:=by
 refine iX λj=>?_;rcases am j l.length with h|h
 .rw[z8 _ _ _ _ h,hd,bI h,bB,aa h];rfl
 .rw[b0 (by simpa[vO]using h),b0 (by simpa using h)]):P:=h
def Xu{P:Prop}(h:P:=by
 have T0:=Px k h1;have hk3:=SU (k+1);have Xv:=ar List.length T0;rw[ae]at Xv;repeat' first|simp(disch:=try exact om) only[dq,simprocAttr]|refine cs ?_ ?_<;>intro h<;>try omega|refine ba (k+1) ?_|refine ec ?_
 all_goals exact h1):P:=h
def T2{P:Prop}(h:P:=by
 exact key _ _ _ (by simp only[h.eo]) (by simp only;omega) h.bW hn (by simp only;omega) h.G7 (eY Px) h.nd h.key):P:=h
def Xw{P:Prop}(h:P:=by
 intro n hn;simp only[Op.head,bC,cI,gI]at hn;obtain⟨a1,a2,a3,a4,a5,a6,a7,a8,a9,aA,aB,aC,aD⟩:=h0;rcases hn with rfl|rfl|rfl|rfl|rfl|rfl|rfl|rfl|rfl|rfl|rfl|rfl|rfl<;>assumption):P:=h
def T3{P:Prop}(h:P:=by
 refine aN.cons (aj ?_) (aN.cons (aj ?_) aN.nil)
 ·(simp only[dL]<;>rfl)
 ·(simp only[dL]<;>rfl)):P:=h
def T4{P:Prop}(h:P:=by
 all_goals exact fin2 (by simp only[dL,simprocAttr,bh,bn,b5,b6,b7]<;>rfl) rfl ev (mf _ []) (G8 _)):P:=h
def Py{P:Prop}(h:P:=by
 all_goals exact⟨nE,_,_,bz rfl rfl,rfl,rfl,GH.mono ⟨F,X,Q⟩ av⟩):P:=h
def Pz{P:Prop}(h:P:=by
 have e:=ar List.length hd;rw[aS,ae]at e;omega):P:=h
def PA{P:Prop}(h:P:=by
 simp only[aq,aF,aM,aT];omega):P:=h
def Xx{P:Prop}(h:P:=by
 intro k hk
 conv=>lhs;rw[<-cu k l,cg]
 rw[<-dG,fY,aG];rw[show(l.take k++l.drop k).take k=l.take k by rw[cu],fY]):P:=h
def Xy{P:Prop}(h:P:=by
 exact⟨nE,_,_,bz rfl rfl,hM,⟨λk hk _=>by rw[e1,bE _ _ (cr hk)],λk _=>by rw[e2,d2,b2],by rw[e3,d3,b3];exact fO _⟩,λk h=>by cases h;exact .inr (ao _)⟩):P:=h
def T5{P:Prop}(h:P:=by
 repeat any_goals simp only[gE,simprocAttr,cO,q0,q1,q8,y1,y2,y3]
 exact⟨y0b,x.2.eB,y3b,m3⟩):P:=h
def T6{P:Prop}(h:P:=by
 exact key _ _ _ (by simp only;omega) (eY h2) h3 (λy hy=>eY (h4 y hy)) h5):P:=h
def Xz{P:Prop}(h:P:=by
 have h1:=D4 w.O (v+1);rw[rO hv,ae]at h1;have h2:=zz w.O[v].O (a+1);rw[rP ha,ae]at h2;show _<=(lP w.O).length;omega):P:=h
def T7{P:Prop}(h:P:=by
 repeat' first|simp only[dq,simprocAttr]|refine lq c ?_|refine q1 ?_
 all_goals exact aj rfl):P:=h
def XA{P:Prop}(h:P:=by
 simp only[sE,simprocAttr,t1e,t1c,t1l,t1f,t2e,t2c,t2l,t2f,t3e,t3c,t3l,t3f,t4e,t4c,t4l,t4f,t5e,t5c,t5l,t5f,t6e,t6c,t6l,t6f,t7e,t7c,t7l,t7f];simp only[jR,o3];simp[o2]):P:=h
def T8{P:Prop}(h:P:=by
 have:=Aa ((dx w).map λp=>(⟨p.id,p.id⟩:cR))
 rwa [aq]at this):P:=h
def XB{P:Prop}(h:P:=by
 intro n;induction n with
 |zero=>simp[kl]
 |succ n ih=>simp only[kl,fR,dk,ae]at ih ⊢;rw[ih,hz,dH];omega):P:=h
def T9{P:Prop}(h:P:=by
 conv=>rhs;rw[<-cu k ls,fA,ae]
 omega):P:=h
def XC{P:Prop}(h:P:=by
 (repeat(first|exact aN.nil|(refine aN.cons (aj ?_) ?_;(simp only[dL,simprocAttr]<;>rfl))|(refine aN.cons ?_ ?_;simp only[pU]<;>exact .aP _)))):P:=h
def XD{P:Prop}(h:P:=by
 repeat' first|simp only[dq,simprocAttr,df]|refine cs ?_ ?_<;>intro h<;>try omega|apply rN rfl rfl rfl
 exact aj (by rw[az Ua];rfl)):P:=h
def XE{P:Prop}(h:P:=by
 exact aj (ar V.bool (by
  rw[hT];simp only[lj,h9];left;left;rw[gu];exact⟨_,ah h1,by simp;omega⟩))):P:=h
def aaG{P:Prop}(h:P:=by
 repeat any_goals first|simp only[dq,simprocAttr]|refine cs ?_ ?_<;>intro h<;>try omega|apply rN rfl rfl rfl
 exact aj (by rw[az h1])):P:=h
def Ub{P:Prop}(h:P:=by
 simp only[aq,List.length_range,aM,aT];omega):P:=h
def XF{P:Prop}(h:P:=by
 repeat' first|simp only[dq,simprocAttr]|refine cs ?_ ?_<;>intro h<;>try omega|apply rN rfl rfl rfl
 have:n=l.length:=av;subst this;exact .refl _):P:=h
def XG{P:Prop}(h:P:=by
 cases hf:b1 xs with
 |nil=>have:=dM za;rw[hf,aT]at this;omega
 |cons a b=>exact⟨a,b++rest,by rw[dZ,hf];rfl⟩):P:=h
def XH{P:Prop}(h:P:=by
 rintro _ _ hpA HA;repeat any_goals simp only[gE,simprocAttr,Op.v,Op.c,HX.act,D3,tc1,tl1,Ki,tc2,tl2,Mc,tc3,tl3,n1,n2,n3,hH]
 exact HA):P:=h
def aaH{P:Prop}(h:P:=by
 show(W.heap.push ob)[b]?=_;rw[gL,an (cr h)]):P:=h
def XI{P:Prop}(h:P:=by
 repeat any_goals simp(disch:=omega) only[gE,simprocAttr]
 exact⟨nE,_,_,bz rfl rfl,hm0,rQ,λk h=>.inl h⟩):P:=h
def XJ{P:Prop}(h:P:=by
 rintro h v a X fz ⟨rfl,_⟩ _;exact⟨rfl,λj c d e1 e2=>by obtain rfl:=au (e1.symm.trans e2);exact .refl _⟩):P:=h
def XK{P:Prop}(h:P:=by
 simp only[ae,aF,aS];omega):P:=h
def XL{P:Prop}(h:P:=by
 rw[bj hj,hxe,aE];refine gh.frame Pi (λi XM=>?_) av;rw[tb,bE];rintro rfl;have:=Mh _ XM;omega):P:=h
def XN{P:Prop}(h:P:=by
 rintro u _ Uc hQ;repeat any_goals simp only[gE,simprocAttr]
 exact⟨nE,u,_,bz sT (by rw[hQ.1];rfl),hQ⟩):P:=h
def XO{P:Prop}(h:P:=by
 rw[XP];simp only[G9,bX,ap,aa Mh,bf]):P:=h
def XQ{P:Prop}(h:P:=by
 exfalso;apply h;rw[List.findIdx?_eq_none_iff]at hf;rw[bP];intro x hx;have:=hf x hx;simpa using this):P:=h
def XR{P:Prop}(h:P:=by
 rcases jB with⟨h,rfl⟩|⟨_,rfl,_⟩
 .exact⟨rfl,by rw[h];exact .aP _⟩
 .exact⟨rfl,.refl _⟩):P:=h
def aaI{P:Prop}(h:P:=by
 exact⟨av,by rw[bj h1,bj h2,he,(PB (a:=a[k]) (b:=b[k])).2 (by simpa using h)]⟩):P:=h
def XS{P:Prop}(h:P:=by
 repeat' first|simp only[dq,simprocAttr]|(refine al nE ?_;refine tO ev rfl ?_)
 exact .refl _):P:=h
def XT{P:Prop}(h:P:=by
 simp only[aq,ae,aM,aF,aS];omega):P:=h
def XU{P:Prop}(h:P:=by
 rw[fA,dk]at h1;exact(aU.1 (aU.1 h1).2.1).1):P:=h
def XV{P:Prop}(h:P:=by
 rw[ap,aa av,bf];exact ah _):P:=h
def XW{P:Prop}(h:P:=by
 rw[m2.box i (bA hi u4.Y) (λe=>by have:=u5 i e;omega)];exact u4.box i hi bR):P:=h
def SV{P:Prop}(h:P:=by
 rcases m3 with m3|m3
 .exact u5 i (m3▸hi)
 .rw[m3]at hi;have:=u4.Y;simp at hi;omega):P:=h
def SX{P:Prop}(h:P:=by
 simp only[jR,V.cells,aM,aT,bN,ce,o3];rfl):P:=h
def SY{P:Prop}(h:P:=by
 simp only[jR,V.cells,aM,aT,bN,ce,o2];rfl):P:=h
def SZ{P:Prop}(h:P:=by
 repeat' first|simp(disch:=omega) only[dq,simprocAttr]|refine q1 ?_
 exact aj bR):P:=h
def S0{P:Prop}(h:P:=by
 conv=>rhs;rw[<-cu k l,cg,ae]
 omega):P:=h
def S1{P:Prop}(h:P:=by
 rw[fF hv ha];simp only[ae,aF,aS];omega):P:=h
def S2{P:Prop}(h:P:=by
 rw[XX];split
 next e=>obtain⟨rfl,rfl⟩:=e;simpa using SS
 .exact SS):P:=h
def S3{P:Prop}(h:P:=by
 exact⟨nE,I 8,_,bz rfl rfl,by exact⟨rfl,λh=>by cases h⟩⟩):P:=h
def S4{P:Prop}(h:P:=by
 constructor
 .rintro((h|h)|h)<;>simp[h]
 .rintro(h|h|h)<;>simp[h]):P:=h
def S5{P:Prop}(h:P:=by
 exact {h0 with kind:=bR,i9:=by simp only;omega,bW:=q6 _ _}):P:=h
def S6{P:Prop}(h:P:=by
 refine bodyPost_ret (results_none rfl _ _ _) rfl ?_;exact⟨_,rfl,.inr Ud⟩):P:=h
def S7{P:Prop}(h:P:=by
 refine aQ (gS _ _) ?_;rw[aF];omega):P:=h
def XY{P:Prop}(h:P:=by
 have h1:=hr x (eE hx);have h2:=mD x av;omega):P:=h
def S8{P:Prop}(h:P:=by
 unfold Fg;split
 .exact CM hf ho ht b
 .exact vP hf ho b):P:=h
def XZ{P:Prop}(h:P:=by
 rw[cT h1,PC]at he;exact aj (ar I he)):P:=h
def S9{P:Prop}(h:P:=by
 obtain⟨_,⟨rfl,rfl⟩|⟨id,c,rest,rfl,_⟩⟩:=hm<;>rfl):P:=h
def X0{P:Prop}(h:P:=by
 exact⟨h1,by rw[bj h1,List.any_append,he];simp;omega⟩):P:=h
def Ta{P:Prop}(h:P:=by
 simp only[V.cells,dJ,oV];by_cases h1:a=b<;>simp[h1]):P:=h
def Tb{P:Prop}(h:P:=by
 simp only[aV.v,hK,hz.op av,hz.dy av,hz.cU av av];rfl):P:=h
def wc7{P:Prop}(h:P:=by
 exact aj (by
  have h1:a.take k=a:=az av;have h2:b.take k=b:=az av;rw[h1,h2]at he;simp[he])):P:=h
def X1{P:Prop}(h:P:=by
 have hb:=run_convert_bytes_back (P:=Tryz.prog) (w.alloc (.cells C 5 (C.size,C.size+1))).drew 181 9 5 ⟨w.heap.size,0,none⟩
  (grownCap w (ByteArray.mk (b::r).toArray).size 0 5) (b::r) Tryz.underlying181 Tryz.underlying5 Tryz.underlying9 (λj hj=>by
   show(w.alloc (.cells C 5 (C.size,C.size+1))).cell? _=_;rw[Mi,cA];exact iI j _ (by simp at hj ⊢))
 rw[V4];exact hb):P:=h
def Ha{P:Prop}(h:P:=by
 intro it h;obtain⟨x,_,rfl⟩:=cG.1 h;rfl):P:=h
def Mj{P:Prop}(h:P:=by
 exact⟨av,by rw[bj h1,bj h2];simp_all⟩):P:=h
def aaJ{P:Prop}(h:P:=by
 repeat' first|refine k9 ?_|(first|refine cs ?_ ?_|refine gs ?_ ?_)<;>intro h<;>try omega|(((refine rT ?_;repeat' first|exact hP.nil|refine gt ?_ ?_|refine gc ?_ ?_);(all_goals(try((apply aj;simp;done))))))
 all_goals exact kX):P:=h
def X2{P:Prop}(h:P:=by
 rintro k ⟨hk,he⟩;rcases am k a.length with h1|h1
 .have h2:k<b.length:=av;repeat' first|refine qu ?_|refine cs ?_ ?_<;>intro h<;>try omega|refine ba (k+1) ?_|refine q1 ?_
  .exact G6
  .exact aaI
 .exact V5):P:=h
def Ue{P:Prop}(h:P:=by
 exact aj (by
  have:a≠b:=λe=>by simp_all
  simp[this])):P:=h
def PD{P:Prop}(h:P:=by
 simp only[aq,aM,aT];omega):P:=h
def aaK{P:Prop}(h:P:=by
 refine pk Tryz.f131 ?_;repeat' first|refine k9 ?_|refine cs ?_ ?_<;>intro h|refine lq (wA a) ?_|refine lq (wA b) ?_|refine q1 ?_
 all_goals exact aj (ar I (by unfold q2;split<;>first|rfl|omega))):P:=h
def Mk{P:Prop}(h:P:=by
 all_goals(refine fin1 ev rfl ?_;exact(ss Pj).L3 _)):P:=h
def X3{P:Prop}(h:P:=by
 exact aj (by
  have:a≠b:=λe=>by subst e;simp_all
  simp[this])):P:=h
def PE{P:Prop}(h:P:=by
 have:=Q.bd j (dh.2 (.inr (.inr (.inr (.inr h)))));omega):P:=h
def aaL{P:Prop}(h:P:=by
 rw[az h1]at he;repeat' first|refine k9 ?_|refine cs ?_ ?_<;>intro h<;>try omega|refine q1 ?_
 exact aj (ar V.bool he.symm)):P:=h
def X4{P:Prop}(h:P:=by
 repeat' first|refine k9 ?_|refine cs ?_ ?_<;>intro h<;>try omega|refine lq c2 ?_|apply G0 rfl rfl rfl rfl rfl rfl
 all_goals exact aj rfl):P:=h
def PF{P:Prop}(h:P:=by
 all_goals exact fin2 ev rfl ev (mf _ []) (G8 _)):P:=h
def Uf{P:Prop}(h:P:=by
 rw[Pm,<-e4,<-e3];simp only[aJ.hI,aJ.cM];omega):P:=h
def aaM{P:Prop}(h:P:=by
 exact⟨h1,by rw[bj h1,fm,he];simp[h]⟩):P:=h
def Ug{P:Prop}(h:P:=by
 have:=Q.bd j (dh.2 (.inr (.inr (.inr (.inl h)))));omega):P:=h
def X5{P:Prop}(h:P:=by
 simp only[bN,ce,sE,simprocAttr,o2];rfl):P:=h
def Uh{P:Prop}(h:P:=by
 all_goals exact⟨nE,_,_,Kk ev rfl rfl rfl,by rfl⟩):P:=h
def aaN{P:Prop}(h:P:=by
 refine pk Tryz.f184 ?_;repeat' first|refine k9 ?_|refine q1 ?_
 all_goals exact aj (ar V.bool bR)):P:=h
def Ui{P:Prop}(h:P:=by
 simp only[Bool.false_and,bM,cE];omega):P:=h
def X6{P:Prop}(h:P:=by
 refine⟨nE,_,_,bz rfl rfl,?_⟩;show V.bool _=V.bool _;congr 1;rw[hh,dY av];rfl):P:=h
def Uj{P:Prop}(h:P:=by
 exact⟨m+1,av,by simpa using h2,by simpa using h3⟩):P:=h
def X7{P:Prop}(h:P:=by
 exact⟨nE,_,_,bz rfl rfl,by exact ar V.bool (by rw[de];simp<;>omega)⟩):P:=h
def Uk{P:Prop}(h:P:=by
 have:=Q.bd j (dh.2 (.inr (.inr (.inl h))));omega):P:=h
def aaO{P:Prop}(h:P:=by
 repeat' simp only[gE,simprocAttr]
 exact⟨nE,I 0,_,bz rfl rfl,rfl,λ_=>⟨tE,R'⟩⟩):P:=h
def X8{P:Prop}(h:P:=by
 rw[ax h]at Hb;subst Hb;simp only at Ul;subst Ul;simp only at he;subst he;exact .refl _):P:=h
def X9{P:Prop}(h:P:=by
 show(W.heap.push ob)[b]?=_;rw[gL,an (cr h)]):P:=h
def Ya{P:Prop}(h:P:=by
 rw[ia (by simp only[ae];omega)];exact XK):P:=h
def aaP{P:Prop}(h:P:=by
 repeat' first|refine k9 ?_|refine q1 ?_
 all_goals exact .refl _):P:=h
def Yb{P:Prop}(h:P:=by
 exact⟨nE,I 6,_,bz rfl rfl,rfl,λh=>by cases h⟩):P:=h
def Yc{P:Prop}(h:P:=by
 simp only[bN,ce,sE,simprocAttr,o2]<;>rfl):P:=h
def Yd{P:Prop}(h:P:=by
 rw[eD];exact⟨n,by simpa using hn,by simp[h]⟩):P:=h
def Ye{P:Prop}(h:P:=by
 exact aj (ar I (by simp only[g3];rw[ax av]))):P:=h
def Yf{P:Prop}(h:P:=by
 rw[fo];exact⟨λz h=>h4 z (h1 z h),av,av⟩):P:=h
def Yg{P:Prop}(h:P:=by
 exact⟨rfl,by rw[bJ.1 h];exact .aP _⟩):P:=h
def aaQ{P:Prop}(h:P:=by
 exact⟨h4,by rw[bj h4,fm,Hb];simpa⟩):P:=h
def al:=@And.intro
def jG:=@Array.ext'
def pr:=@Array.ext_getElem?
def mg:=@Array.foldl_toList
def cH:=@Array.getD_eq_getD_getElem?
def kY:=@Array.getElem?_append
def ij:=@Array.getElem?_append_left
def iB:=@Array.getElem?_eq_getElem
def gJ:=@Array.getElem?_eq_none
def cD:=@Array.getElem?_eq_some_iff
def mZ:=@Array.getElem?_extract
def pt:=@Array.getElem?_map
def dz:=@Array.getElem?_modify
def gL:=@Array.getElem?_push
def iJ:=@Array.getElem?_replicate
def hJ:=@Array.getElem?_setIfInBounds
def kh:=@Array.getElem?_setIfInBounds_ne
def di:=@Array.getElem?_toList
def ll:=@Array.getElem_toList
def oG:=@Array.length_toList
def lY:=@Array.mapM_eq_mapM_toList
def lr:=@Array.mem_filter
def gT:=@Array.mem_iff_getElem
def nS:=@Array.replicate_succ
def nT:=@Array.replicate_zero
def kS:=@Array.size_append
def oH:=@Array.toList_append
def lu:=@Array.toList_inj
def jS:=@Array.toList_map
def pw:=@Array.toList_range
def oI:=@Array.toList_zipIdx
def jj:=@BitVec.toNat_ofInt
def mE:=@Bool.and_assoc
def iw:=@Bool.and_eq_false_iff
def aX:=@Bool.and_eq_true
def nU:=@Bool.and_eq_true_iff
def kr:=@Bool.and_self
def pN:=@Bool.and_true
def de:=@Bool.eq_iff_iff
def bM:=@Bool.false_eq_true
def ky:=@Bool.false_ne_true
def pO:=@Bool.false_or
def tP:=@Bool.not_eq_false'
def gv:=@Bool.not_eq_true
def jy:=@Bool.not_eq_true'
def bD:=@Bool.not_false
def bO:=@Bool.not_true
def nV:=@Bool.or_eq_false_iff
def h9:=@Bool.or_eq_true
def pP:=@Bool.or_false
def tQ:=@Bool.or_true
def hA:=@Bool.true_and
def tR:=@Bool.true_or
def m0:=@ByteArray.data_extract
def cJ:=@Classical.byContradiction
def lO:=@Function.comp_apply
def fH:=@Int.eq_ofNat_of_zero_le
def fw:=@Int.lt_or_le
def qv:=@Int.lt_trans
def tS:=@Int.ofNat_lt
def oW:=@Int.ofNat_tdiv
def jO:=@Int.ofNat_tmod
def jr:=@Int.tdiv_eq_ediv_of_nonneg
def mh:=@Int.tmod_lt_of_pos
def nW:=@Int.tmod_nonneg
def bX:=@Int.toNat_natCast
def oJ:=@Int.toNat_of_nonneg
def rR:=@Int.toNat_zero
def fm:=@List.all_append
def bN:=@List.all_cons
def eD:=@List.all_eq_false
def bP:=@List.all_eq_true
def ce:=@List.all_nil
def mO:=@List.any_eq_false
def gu:=@List.any_eq_true
def aG:=@List.append_assoc
def cP:=@List.append_nil
def oK:=@List.append_toArray
def aZ:=@List.cons_append
def px:=@List.contains_cons
def pV:=@List.contains_nil
def lv:=@List.countP_cons
def nX:=@List.dropLast_concat
def i0:=@List.drop_append_of_le_length
def dG:=@List.drop_drop
def bI:=@List.drop_eq_getElem_cons
def cT:=@List.drop_eq_nil_of_le
def fY:=@List.drop_left
def je:=@List.drop_length
def m7:=@List.drop_of_length_le
def b8:=@List.drop_succ_cons
def cx:=@List.drop_zero
def gY:=@List.eq_nil_of_length_eq_zero
def nr:=@List.ext_getElem
def iX:=@List.ext_getElem?
def gq:=@List.filter_append
def m8:=@List.find?_cons_of_pos
def py:=@List.find?_eq_none
def cg:=@List.flatMap_append
def cf:=@List.flatMap_cons
def jf:=@List.flatMap_nil
def fA:=@List.flatten_append
def dk:=@List.flatten_cons
def jg:=@List.flatten_nil
def dl:=@List.foldl_append
def fo:=@List.foldl_cons
def hL:=@List.forall_mem_cons
def dN:=@List.getD_cons_succ
def dO:=@List.getD_cons_zero
def ap:=@List.getD_eq_getElem?_getD
def tj:=@List.getD_nil
def fI:=@List.getElem?_append
def dI:=@List.getElem?_append_left
def dR:=@List.getElem?_append_right
def ey:=@List.getElem?_cons_succ
def ew:=@List.getElem?_cons_zero
def c0:=@List.getElem?_drop
def aa:=@List.getElem?_eq_getElem
def b0:=@List.getElem?_eq_none
def aH:=@List.getElem?_eq_some_iff
def bB:=@List.getElem?_map
def lQ:=@List.getElem?_range
def kR:=@List.getElem?_set
def iK:=@List.getElem?_set_ne
def ie:=@List.getElem?_set_self
def dA:=@List.getElem?_take
def fC:=@List.getElem?_toArray
def lZ:=@List.getElem?_zip_eq_some
def eK:=@List.getElem_append_left
def gM:=@List.getElem_append_right
def cN:=@List.getElem_cons_succ
def cw:=@List.getElem_cons_zero
def mP:=@List.getElem_drop
def dB:=@List.getElem_map
def ah:=@List.getElem_mem
def ja:=@List.getElem_of_mem
def ns:=@List.getElem_set
def nI:=@List.getElem_set_self
def jz:=@List.getElem_take
def l0:=@List.getLast?_eq_some_iff
def nY:=@List.headD_cons
def ae:=@List.length_append
def aM:=@List.length_cons
def aS:=@List.length_drop
def bJ:=@List.length_eq_zero_iff
def gS:=@List.length_filter_le
def aq:=@List.length_map
def ix:=@List.length_mergeSort
def aT:=@List.length_nil
def oL:=@List.length_pos_iff
def rS:=@List.length_replicate
def oM:=@List.length_reverse
def eT:=@List.length_set
def eu:=@List.length_singleton
def aF:=@List.length_take
def mF:=@List.mapM_cons
def aE:=@List.map_append
def ke:=@List.map_congr_left
def bw:=@List.map_cons
def gC:=@List.map_drop
def kf:=@List.map_eq_nil_iff
def jT:=@List.map_map
def cV:=@List.map_nil
def kZ:=@List.map_set
def kt:=@List.map_take
def aR:=@List.mem_append
def ck:=@List.mem_append_left
def aY:=@List.mem_append_right
def bC:=@List.mem_cons
def eF:=@List.mem_cons_of_mem
def mi:=@List.mem_cons_self
def kz:=@List.mem_filter
def dC:=@List.mem_flatMap
def nt:=@List.mem_flatten
def iL:=@List.mem_iff_getElem
def fZ:=@List.mem_iff_getElem?
def cG:=@List.mem_map
def lR:=@List.mem_map_of_mem
def bT:=@List.mem_of_getElem?
def nZ:=@List.mem_of_getLast?
def jH:=@List.mem_of_mem_drop
def eE:=@List.mem_of_mem_take
def cK:=@List.mem_or_eq_of_mem_set
def dc:=@List.mem_range
def mj:=@List.mem_replicate
def bg:=@List.mem_singleton
def bx:=@List.nil_append
def aU:=@List.nodup_append
def lH:=@List.nodup_iff_pairwise_ne
def jP:=@List.nodup_nil
def lw:=@List.nodup_range
def cI:=@List.not_mem_nil
def jI:=@List.pairwise_append
def ej:=@List.pairwise_cons
def mQ:=@List.pairwise_map
def dE:=@List.range_succ
def m9:=@List.range_succ_eq_map
def fR:=@List.replicate_succ
def lS:=@List.replicate_zero
def nJ:=@List.set_append_right
def ay:=@List.set_cons_succ
def aw:=@List.set_cons_zero
def gi:=@List.set_eq_take_append_cons_drop
def iy:=@List.set_getElem_self
def kT:=@List.size_toArray
def cu:=@List.take_append_drop
def e0:=@List.take_append_of_le_length
def gK:=@List.take_left
def l1:=@List.take_left'
def be:=@List.take_length
def az:=@List.take_of_length_le
def fT:=@List.take_succ_cons
def iq:=@List.take_succ_eq_append_getElem
def fk:=@List.take_zero
def lT:=@List.toList_toArray
def cn:=@Nat.add_assoc
def dK:=@Nat.add_mul
def kA:=@Nat.add_sub_cancel
def km:=@Nat.add_sub_cancel_left
def dj:=@Nat.add_zero
def l2:=@Nat.div_add_mod
def kK:=@Nat.div_div_eq_div_mul
def lx:=@Nat.div_eq_of_lt
def iz:=@Nat.div_lt_iff_lt_mul
def rp:=@Nat.div_one
def pz:=@Nat.eq_or_lt_of_le
def cS:=@Nat.eq_zero_or_pos
def li:=@Nat.le_add_right
def bF:=@Nat.le_of_ble_eq_true
def c8:=@Nat.le_of_eq
def k0:=@Nat.le_of_lt
def hY:=@Nat.le_of_lt_succ
def ao:=@Nat.le_refl
def fO:=@Nat.le_succ
def eY:=@Nat.le_succ_of_le
def aQ:=@Nat.le_trans
def rq:=@Nat.le_zero
def rU:=@Nat.lt_add_one
def ku:=@Nat.lt_irrefl
def pA:=@Nat.lt_of_le_of_lt
def bA:=@Nat.lt_of_lt_of_le
def gr:=@Nat.lt_or_eq_of_le
def am:=@Nat.lt_or_ge
def dm:=@Nat.lt_succ_self
def dX:=@Nat.min_eq_left
def l3:=@Nat.min_le_left
def ly:=@Nat.mod_eq_of_lt
def pC:=@Nat.mod_eq_sub_mod
def eG:=@Nat.mod_lt
def jU:=@Nat.mul_comm
def oT:=@Nat.mul_le_mul
def oN:=@Nat.mul_le_mul_left
def cj:=@Nat.mul_le_mul_right
def kL:=@Nat.mul_one
def qw:=@Nat.mul_succ
def cr:=@Nat.ne_of_lt
def gN:=@Nat.not_lt_zero
def oO:=@Nat.pos_iff_ne_zero
def rr:=@Nat.pow_pos
def n5:=@Nat.pow_succ
def iM:=@Nat.sub_self
def ig:=@Nat.sub_zero
def lz:=@Nat.succ_le_succ
def dH:=@Nat.succ_mul
def jV:=@Nat.succ_pos
def cA:=@Nat.zero_add
def aL:=@Nat.zero_le
def oa:=@Nat.zero_lt_one
def qx:=@Nat.zero_mul
def hU:=@Ne.symm
def mK:=@Option.bind_eq_some_iff
def gw:=@Option.bind_some
def fu:=@Option.getD_none
def bf:=@Option.getD_some
def ml:=@Option.isSome_iff_exists
def cL:=@Option.isSome_none
def fJ:=@Option.isSome_some
def bS:=@Option.map_eq_some_iff
def jp:=@Option.map_none
def bG:=@Option.map_some
def jC:=@Option.mem_toList
def au:=@Option.some.inj
def co:=@Option.some.injEq
def eg:=@Prod.mk.injEq
def pD:=@UInt8.toNat_ofNat'
def Ab:=@and_false
def oU:=@and_self
def bK:=@and_true
def kB:=@beq_eq_false_iff_ne
def iA:=@beq_iff_eq
def l4:=@beq_self_eq_true
def tT:=@bne_eq_false_iff_eq
def tU:=@bne_iff_ne
def ar:=@congrArg
def nK:=@congrFun
def oc:=@decide_eq_decide
def dY:=@decide_eq_false
def fi:=@decide_eq_false_iff_not
def db:=@decide_eq_true
def cy:=@decide_eq_true_eq
def na:=@decide_false
def wB:=@decide_true
def tV:=@dif_pos
def hT:=@eq_comm
def tW:=@eq_true
def Ac:=@false_and
def jW:=@false_implies
def rV:=@false_or
def jM:=@getElem!_pos
def cE:=@if_false
def an:=@if_neg
def ax:=@if_pos
def bQ:=@if_true
def kM:=@implies_true
def qh:=@ite_self
def mC:=@not_or
def pW:=@of_decide_eq_false
def lA:=@of_decide_eq_true
def gI:=@or_false
def cF:=@true_and
inductive V where
 |unk
 |qr
 |int (k:IntKind) (n:Int)
 |bool (b:Bool)
 |str (s:List UInt8)
 |sl (sz:Nat) (xs:List V)
 |aP
 |k1
 |A (s g off:Nat)
 |bp (id off:Nat)
 |ep (cells:List V)
 |mp (id:Nat)
 |qy
 |fn (f:FuncId) (cap:List V)
 |wC
 |Hc (t:TypeId) (v:V)
 |zd
 |agg (cells:List V)
 |hE (vs:List V)
 |ms (sz id off len cap:Nat)
 |em (ks vs:List V)
abbrev ak:=Nat->Option (List V)
def V.cells:V->List V
 |.agg cs=>cs
 |v=>[v]
def V.one:V->Bool
 |.unk|.qr|.agg _|.hE _|.A .. =>false
 |_=>true
inductive Loc where
 |var (t:Nat)
 |cell (s g j:Nat)
 |iI (id j:Nat)
 |ret
 deriving DecidableEq
inductive eX where
 |free
 |gZ (x:Value)
 |ext
 |su (s g:Nat)
 |dZ (id:Nat)
 |tail (l:Loc)
 |junk
 |oS (id:Nat)
 |e8 (ob:Obj)
 |rK
structure aW where
 bL:Nat->Nat->eX
 lb:Nat->Nat->Option Nat
 hb:Nat->Option Nat
mutual
def V.free:V->Bool
 |.bp .. |.mp .. |.ms .. |.A .. |.unk=>false
 |.sl _ a=>hW a
 |.ep a=>hW a
 |.fn _ a=>hW a
 |.Hc _ u=>u.free
 |.agg a=>hW a
 |.hE a=>hW a
 |.em d f=>hW d&&hW f
 |_=>true
def hW:List V->Bool
 |[]=>true
 |u::r=>u.free&&hW r
end
def k2:∀{l:List V} {j:Nat} {c:V},hW l=true->l[j]?=some c->c.free=true
 |[],_,_,_,h=>by simp at h
 |u::r,j,c,a,h=>by
  simp only[hW,aX]at a;cases j with
  |zero=>simp at h;subst h;exact a.1
  |succ j=>simp at h;exact k2 a.2 h
def He{v:V}(h:v.free=true){j:Nat}{c:V}(a:v.cells[j]?=some c):c.free=true:=by
 unfold V.cells at a;split at a
 .rw[V.free]at h;exact k2 h a
 .cases j with
  |zero=>simp at a;subst a;exact h
  |succ j=>simp at a
inductive VR(g:aW):V->Value->Prop where
 |unk (x):VR g .unk x
 |qr:VR g .qr undef
 |int (k n):VR g (.int k n) (.int k n)
 |bool (b):VR g (.bool b) (.bool b)
 |str (s):VR g (.str s) (.string ⟨s.toArray⟩)
 |aP:VR g .aP (.slice none 0 0)
 |slnil (sz):VR g (.sl sz []) (.slice none 0 0)
 |sl (sz xs) (a:Addr) (cap:Nat) (ys:Nat->Value) (hs:a.spot=none) (hc:xs.length<=cap)
  (hz:∀(i:Nat) v,xs[i]?=some v->v.cells.length=sz)
  (hi:∀k,k<xs.length*sz->g.bL a.block (a.off+k)=.gZ (ys k))
  (ho:∀(i:Nat) v (j:Nat) c,xs[i]?=some v->v.cells[j]?=some c->c.one=true)
  (hr:∀(i:Nat) v (j:Nat) c,xs[i]?=some v->v.cells[j]?=some c->VR g c (ys (i*sz+j))):
  VR g (.sl sz xs) (.slice (some a) xs.length cap)
 |k1:VR g .k1 (.pointer none)
 |bp (id off b) (h:g.hb id=some b):VR g (.bp id off) (.pointer (some ⟨b,off,none⟩))
 |ep (cells) (a:Addr) (ys:Nat->Value) (hs:a.spot=none)
  (hi:∀k,k<cells.length->g.bL a.block (a.off+k)=.gZ (ys k))
  (ho:∀(j:Nat) c,cells[j]?=some c->c.one=true)
  (hr:∀(j:Nat) c,cells[j]?=some c->VR g c (ys j)):
  VR g (.ep cells) (.pointer (some a))
 |mp (id b) (h:g.hb id=some b):VR g (.mp id) (.map (some b))
 |qy:VR g .qy (.map none)
 |fn (f cap) (xs:Array Value) (hl:xs.size=cap.length)
  (hr:∀(j:Nat) c x,cap[j]?=some c->xs[j]?=some x->VR g c x):VR g (.fn f cap) (.func (.func f) #[] xs)
 |wC:VR g .wC .nilFunc
 |Hc (t v x) (h:VR g v x):VR g (.Hc t v) (.iface t x)
 |zd:VR g .zd .nilIface
 |agg (cs) (xs:Array Value) (hl:xs.size=cs.length) (ho:∀(j:Nat) c,cs[j]?=some c->c.one=true)
  (hr:∀(j:Nat) c x,cs[j]?=some c->xs[j]?=some x->VR g c x):VR g (.agg cs) (.agg xs)
 |hE (vs) (xs:Array Value) (hl:xs.size=vs.length)
  (hr:∀(j:Nat) c x,vs[j]?=some c->xs[j]?=some x->VR g c x):VR g (.hE vs) (.tuple xs)
 |ms (sz id off len cap b) (h:g.hb id=some b) (hc:len<=cap):VR g (.ms sz id off len cap) (.slice (some ⟨b,off,none⟩) len cap)
 |Fj (sz id off p) (E:∀a:Addr,p=some a->a.spot=none):VR g (.ms sz id off 0 0) (.slice p 0 0)
 |em (ks vs b es c) (h:g.bL b 0=.e8 (.map es c)) (hk:es.size=ks.length) (hv:es.size=vs.length)
  (hrk:∀(j:Nat) u e,ks[j]?=some u->es[j]?=some e->VR g u e.key)
  (hrv:∀(j:Nat) u e,vs[j]?=some u->es[j]?=some e->VR g u e.val):VR g (.em ks vs) (.map (some b))
structure aW.Le(g g':aW):Prop where
 gZ:∀b o x,g.bL b o=.gZ x->g'.bL b o=.gZ x
 e8:∀b ob,g.bL b 0=.e8 ob->g'.bL b 0=.e8 ob
 hb:∀id b,g.hb id=some b->g'.hb id=some b
def aW.Le.refl(g:aW):g.Le g:=⟨λ_ _ _ h=>h,λ_ _ h=>h,λ_ _ h=>h⟩
def aW.Le.trans{g g' a:aW}(h:g.Le g')(d:g'.Le a):g.Le a:=
 ⟨λb o x e=>d.gZ b o x (h.gZ b o x e),λb o e=>d.e8 b o (h.e8 b o e),λi b e=>d.hb i b (h.hb i b e)⟩
def VR.mono{g g':aW}(h:g.Le g'){v:V}{x:Value}(r:VR g v x):VR g' v x:=by
 induction r with
 |unk x=>exact .unk x
 |qr=>exact .qr
 |int k n=>exact .int k n
 |bool b=>exact .bool b
 |str s=>exact .str s
 |aP=>exact .aP
 |slnil sz=>exact .slnil sz
 |sl sz d a cap u y z N D j q ih=>exact .sl sz d a cap u y z N (λk l=>h.gZ _ _ _ (D k l)) j ih
 |k1=>exact .k1
 |bp id off b e=>exact .bp id off b (h.hb _ _ e)
 |ep cells a u y D j q ih=>exact .ep cells a u y (λk l=>h.gZ _ _ _ (D k l)) j ih
 |mp id b e=>exact .mp id b (h.hb _ _ e)
 |qy=>exact .qy
 |fn f cap d o q ih=>exact .fn f cap d o ih
 |wC=>exact .wC
 |Hc t v x hx ih=>exact .Hc t v x ih
 |zd=>exact .zd
 |agg cs d o j q ih=>exact .agg cs d o j ih
 |hE H d o q ih=>exact .hE H d o ih
 |ms sz id off len cap b e z=>exact .ms sz id off len cap b (h.hb _ _ e) z
 |Fj sz id off p E=>exact .Fj sz id off p E
 |em P H b Q c e l r R ab K L=>exact .em P H b Q c (h.e8 _ _ e) l r K L
def VR.xI{g g':aW}(R:∀b o x,g.bL b o=.gZ x->g'.bL b o=.gZ x)(h2:∀b ob,g.bL b 0=.e8 ob->g'.bL b 0=.e8 ob){v:V}{x:Value}(K:VR g v x):v.free=true->VR g' v x:=by
 induction K with
 |unk x=>intro d;simp[V.free]at d
 |qr=>intro _;exact .qr
 |int k n=>intro _;exact .int k n
 |bool b=>intro _;exact .bool b
 |str s=>intro _;exact .str s
 |aP=>intro _;exact .aP
 |slnil sz=>intro _;exact .slnil sz
 |sl sz r a cap L N ab ai P y H ih=>
  intro d;rw[V.free]at d;exact .sl sz r a cap L N ab ai (λk z=>R _ _ _ (P k z)) y (λi v j c l q=>ih i v j c l q (He (k2 d l) q))
 |k1=>intro _;exact .k1
 |bp id off b e=>intro d;simp[V.free]at d
 |ep cells a L N P y H ih=>
  intro d;rw[V.free]at d;exact .ep cells a L N (λk z=>R _ _ _ (P k z)) y (λj c e=>ih j c e (k2 d e))
 |mp id b e=>intro d;simp[V.free]at d
 |qy=>intro _;exact .qy
 |fn f cap r D H ih=>
  intro d;rw[V.free]at d;exact .fn f cap r D (λj c x l q=>ih j c x l q (k2 d l))
 |wC=>intro _;exact .wC
 |Hc t v x hx ih=>intro d;rw[V.free]at d;exact .Hc t v x (ih d)
 |zd=>intro _;exact .zd
 |agg cs r D y H ih=>
  intro d;rw[V.free]at d;exact .agg cs r D y (λj c x l q=>ih j c x l q (k2 d l))
 |hE Q r D H ih=>
  intro d;rw[V.free]at d;exact .hE Q r D (λj c x l q=>ih j c x l q (k2 d l))
 |ms sz id off len cap b e ab=>intro d;simp[V.free]at d
 |Fj sz id off p E=>intro d;simp[V.free]at d
 |em aA Q b aB c e z K aC aD ac ad=>
  intro d;rw[V.free,aX]at d;exact .em aA Q b aB c (h2 _ _ e) z K (λj u e l q=>ac j u e l q (k2 d.1 l)) (λj u e l q=>ad j u e l q (k2 d.2 l))
def VR.one{g:aW}{v:V}{x:Value}(h:VR g v x)(a:v.one=true):x.cells=#[x]/\x.oneCell'=true:=by
 cases h<;>first|(simp[V.one]at a;done)|exact⟨rfl,rfl⟩
inductive MO where
 |map (kvs:List (V×V))
 |walk (m n:Nat) (seen:List Nat)
 |raw (ob:Obj)
def uZ:Obj->Bool
 |.cells .. =>true
 |_=>false
structure aJ where
 box:Nat->Option (List V)
 fl:Nat->Nat->Bool
 mp:Nat->Option MO:=λ_=>none
 Y:Nat:=0
structure St where
 n:Nat
 Z:Nat->V
 lk:Nat->Option Loc
 fl:Nat->Bool
 loc:Nat->Nat->List V
 fc:Nat->Nat->Nat->Bool
 G:Nat->Nat
 E:aJ
def cl(b o:Nat):Addr:=⟨b,o,none⟩
def dS(g:aW)(w:World)(l:Loc)(v:V)(x:Value):Prop:=
 ∀sz d a len cap,v=.sl sz d->x=.slice (some a) len cap->∀k,len*sz<=k->k<cap*sz->
  g.bL a.block (a.off+k)=.tail l/\(∃u,w.cell? (cl a.block (a.off+k))=some u)/\w.frozen? (cl a.block (a.off+k))=false
structure qi(GL:ak)(g:aW)(w:World):Prop where
 kn:∀n cells,GL n=some cells->VR g (.ep cells) (.pointer (some ⟨n,0,none⟩))
 gZ:∀b o x,g.bL b o=.gZ x->w.cell? (cl b o)=some x
 e8:∀b ob,g.bL b 0=.e8 ob->w.heap[b]?=some ob/\uZ ob=false
 il:∀b o,g.bL b o≠.free->b<w.heap.size
 kC:∀n cells,GL n=some cells->(V.ep cells).free=true
structure fP(g:aW)(w:World)(b:Nat)(ow:eX)(cells:List V):Prop where
 mq:∀j,g.bL b j=ow
 cell:∀(j:Nat) c,cells[j]?=some c->c.one=true/\∃x,w.cell? (cl b j)=some x/\VR g c x
 ki:∀j,w.frozen? (cl b j)=false
def fP.bL{g:aW}{w:World}{b:Nat}{ow:eX}{cells:List V}(h:fP g w b ow cells):∀j,j<cells.length->g.bL b j=ow:=λj _=>h.mq j
def fP.free{g:aW}{w:World}{b:Nat}{ow:eX}{cells:List V}(h:fP g w b ow cells):∀j,j<cells.length->w.frozen? (cl b j)=false:=λj _=>h.ki j
structure wD(g:aW)(kvs:List (V×V))(es:Array MapEntry)(c:Nat):Prop where
 len:es.size=kvs.length
 key:∀(j:Nat) u e,kvs[j]?=some u->es[j]?=some e->VR g u.1 e.key
 val:∀(j:Nat) u e,kvs[j]?=some u->es[j]?=some e->VR g u.2 e.val
 born:∀(j:Nat) e,es[j]?=some e->e.born=j
 Ml:c=es.size
def MR(g:aW):MO->Obj->Prop
 |.map kvs,a=>∃d c,a=.map d c/\wD g kvs d c
 |.walk m n seen,a=>∃b,g.hb m=some b/\a=.mapIter (some b) n seen.toArray n
 |.raw o,a=>a=o
structure HR(g:aW)(h:aJ)(w:World):Prop where
 box:∀id cells,h.box id=some cells->∃b,g.hb id=some b/\fP g w b (.dZ id) cells
 tail:∀id cells j c b x,h.box id=some cells->h.fl id j=true->cells[j]?=some c->g.hb id=some b->w.cell? (cl b j)=some x->dS g w (.iI id j) c x
 map:∀id mo,h.mp id=some mo->∃b ob,g.hb id=some b/\g.bL b 0=.oS id/\w.heap[b]?=some ob/\uZ ob=false/\MR g mo ob
 Y:∀id,h.Y<=id->g.hb id=none
def ER(g:aW)(v:V)(x:Value):Prop:=
 match v with
 |.A s a off=>∃b,g.lb s a=some b/\x=.pointer (some ⟨b,off,none⟩)
 |v=>VR g v x
def dfK(k:Nat):Bool:=k==155
def IsC(d:Deferred):Prop:=∃(k:Nat)(a f j:Value),dfK k=true/\d={target:=.fn (.func k) #[a,f,j],args:=#[]}
def rW(g:aW)(w:World)(ds:List Deferred):Prop:=
 (∀d∈ds,(∃D,d={target:=.collected D,args:=#[]}/\g.bL D 0=.rK/\w.heap[D]?=some (.deferred (some [])))\/IsC d)/\ds.Pairwise λd a=>d≠a\/IsC d
def rW.nil{g:aW}{w:World}:rW g w []:=⟨by intro d a;(cases a),.nil⟩
def rW.mono{g g':aW}{w w':World}{ds:List Deferred}(h:rW g w ds)(a:∀D,g.bL D 0=.rK->w.heap[D]?=some (.deferred (some []))->g'.bL D 0=.rK/\w'.heap[D]?=some (.deferred (some []))):rW g' w' ds:=
 ⟨λd f=>(h.1 d f).imp (λ⟨D,j,l,o⟩=>⟨D,j,a D l o⟩) id,h.2⟩
def rW.cons{g:aW}{w:World}{ds:List Deferred}{d:Deferred}(h:rW g w ds)(a:IsC d):rW g w (d::ds):=
 ⟨λe f=>(bC.1 f).elim (λj=>.inr (j▸a)) (h.1 e),ej.2 ⟨λ_ _=>.inr a,h.2⟩⟩
structure Rel(GL:ak)(g:aW)(s:St)(a:Act)(w:World):Prop where
 size:a.tmps.size=s.n
 gj:rW g w a.defers
 Z:∀t,ER g (s.Z t) (a.tmps.getD t undef)
 gA:qi GL g w
 heap:HR g s.E w
 loc:∀st gn,gn<s.G st->∃b,g.lb st gn=some b/\fP g w b (.su st gn) (s.loc st gn)
 jd:∀st gn,s.G st<=gn->g.lb st gn=none
 jt:∀t,s.fl t=true->dS g w (.var t) (s.Z t) (a.tmps.getD t undef)
 gD:∀st gn j c b x,s.fc st gn j=true->(s.loc st gn)[j]?=some c->g.lb st gn=some b->w.cell? (cl b j)=some x->dS g w (.cell st gn j) c x
 jX:∀t u,s.lk t=some (.var u)->a.tmps.getD t undef=a.tmps.getD u undef/\s.Z t=s.Z u
 gF:∀t st gn j,s.lk t=some (.cell st gn j)->gn<s.G st/\∀b,g.lb st gn=some b->w.cell? (cl b j)=some (a.tmps.getD t undef)/\(s.loc st gn)[j]?=some (s.Z t)
 ib:∀t id j,s.lk t=some (.iI id j)->∃cells,s.E.box id=some cells/\cells[j]?=some (s.Z t)/\∀b,g.hb id=some b->w.cell? (cl b j)=some (a.tmps.getD t undef)
structure Cm(c:Prop)(w w':World):Prop where
 tape:w'.tape=w.tape
 os:w'.os=w.os
 out:w'.output=w.output
 drawn:c->w.drawn<=w'.drawn
def Cm.refl{c:Prop}(w:World):Cm c w w:=⟨rfl,rfl,rfl,λ_=>ao _⟩
def Cm.trans{c c':Prop}{w w' d:World}(h:Cm c w w')(a:Cm c' w' d)(f:c->c'):Cm c w d:=⟨a.tape.trans h.tape,a.os.trans h.os,a.out.trans h.out,λe=>aQ (h.drawn e) (a.drawn (f e))⟩
def eX.old(o:eX):Prop:=o=.ext\/∃x,o=.gZ x
structure Step(g:aW)(w:World)(g':aW)(w':World):Prop where
 gZ:∀b o x,g.bL b o=.gZ x->g'.bL b o=.gZ x
 e8:∀b ob,g.bL b 0=.e8 ob->g'.bL b 0=.e8 ob
 hb:∀id b,g.hb id=some b->g'.hb id=some b
 ext:∀b o,g.bL b o=.ext->g'.bL b o=.ext/\w'.cell? (cl b o)=w.cell? (cl b o)/\w'.frozen? (cl b o)=w.frozen? (cl b o)
 od:∀b ob,g.bL b 0=.ext->uZ ob=false->w.heap[b]?=some ob->w'.heap[b]?=some ob
 ru:∀b o,g'.bL b o=.ext->b<w.heap.size->g.bL b o=.ext
 size:w.heap.size<=w'.heap.size
 gW:Cm (g.bL 0 0=.ext) w w'
 whole:∀b,b<w.heap.size->(∀o,(g.bL b o).old)->w'.heap[b]?=w.heap[b]?
def Step.refl(g:aW)(w:World):Step g w g w:=
 ⟨λ_ _ _ h=>h,λ_ _ h=>h,λ_ _ h=>h,λ_ _ h=>⟨h,rfl,rfl⟩,λ_ _ _ _ h=>h,λ_ _ h _=>h,ao _,.refl _,λ_ _ _=>rfl⟩
def Step.trans{g g' d:aW}{w w' f:World}(h:Step g w g' w')(a:Step g' w' d f):Step g w d f where
 gZ b o x e:=a.gZ b o x (h.gZ b o x e)
 e8 b o e:=a.e8 b o (h.e8 b o e)
 hb i b e:=a.hb i b (h.hb i b e)
 od b j e i hm:=a.od b j (h.ext b 0 e).1 i (h.od b j e i hm)
 ext b o e:=by
  obtain⟨l,p,f1⟩:=h.ext b o e;obtain⟨r,t,u⟩:=a.ext b o l;exact⟨r,t.trans p,u.trans f1⟩
 ru b o e hb:=h.ru b o (a.ru b o e (bA hb h.size)) hb
 size:=aQ h.size a.size
 gW:=h.gW.trans a.gW λe=>(h.ext 0 0 e).1
 whole b hb e:=(a.whole b (bA hb h.size) λo=>(e o).elim (λq=>.inl (h.ext b o q).1) λ⟨x,q⟩=>.inr ⟨x,h.gZ b o x q⟩).trans (h.whole b hb e)
def Step.le{g g':aW}{w w':World}(h:Step g w g' w'):g.Le g':=⟨h.gZ,h.e8,h.hb⟩
inductive eO where
 |tmp (t:Nat)
 |const (v:V)
 |kn (cells:List V)
def zA:Value->Option V
 |.int k n=>some (.int k n)
 |.bool b=>some (.bool b)
 |.string s=>some (.str s.data.toList)
 |.slice none 0 0=>some .aP
 |.pointer none=>some .k1
 |.map none=>some .qy
 |.nilFunc=>some .wC
 |.nilIface=>some .zd
 |_=>none
def qz:List Value->Option (List V)
 |[]=>some []
 |x::r=>match zA x,qz r with
  |some v,some a=>some (v::a)
  |_,_=>none
def Ad:Value->Option V
 |.agg cs=>(qz cs.toList).map .agg
 |x=>zA x
inductive CK where
 |i|b|s
inductive vQ where
 |move (x:eO)
 |pick (c a b:eO)
 |load (agg:Bool) (n:Nat) (addr:eO)
 |nilCheck (x:eO)
 |bin (op:BinOp) (x y:eO)
 |V8 (neg:Bool) (x y:eO)
 |V9 (neg:Bool) (x y:eO)
 |eqc (neg:Bool) (ks:List CK) (x y:eO)
 |un (op:UnOp) (x:eO)
 |toInt (k:IntKind) (x:eO)
 |same (x:eO)
 |CN (x:eO)
 |cut (sz:Nat) (x:eO) (lo hi:Option eO)
 |D5 (x:eO) (lo hi:Option eO)
 |nQ (n:Nat) (x:eO)
 |fieldAddr (off:Nat) (x:eO)
 |field (agg:Bool) (off n:Nat) (x:eO)
 |sv (sz:Nat) (x i:eO)
 |rX (len sz:Nat) (x i:eO)
 |xJ (x i:eO)
 |tX (agg:Bool) (len sz:Nat) (x i:eO)
 |len (x:eO)
 |cap (x:eO)
 |Mm (x:eO)
 |Mn (n:Nat)
 |extract (x:eO) (i:Nat)
 |build (abH:List V) (parts:List (Nat×Nat×eO))
 |Ae (f:FuncId) (caps:List eO)
 |wE (t:TypeId) (x:eO)
 |min2 (x y:eO)
 |max2 (x y:eO)
def St.val(s:St):eO->V
 |.tmp t=>s.Z t
 |.const v=>v
 |.kn cells=>.ep cells
def St.iN(s:St):V->Option (List V)
 |.A st a off=>if a<s.G st then(if off<=(s.loc st a).length then some ((s.loc st a).drop off)else none)else none
 |.bp id off=>match s.E.box id with
  |some cs=>if off<=cs.length then some (cs.drop off)else none
  |none=>none
 |.ep cells=>some cells
 |_=>none
def Mo(op:BinOp)(k:IntKind)(x y:Int):Option V:=
 match op with
 |.add=>some (.int k (k.wrap (x+y)))
 |.sub=>some (.int k (k.wrap (x-y)))
 |.mul=>some (.int k (k.wrap (x*y)))
 |.quo=>if y=0 then none else some (.int k (k.wrap (x.tdiv y)))
 |.rem=>if y=0 then none else some (.int k (x.tmod y))
 |.and=>some (.int k (k.wrap ((BitVec.ofInt k.bits x&&& BitVec.ofInt k.bits y).toNat:Nat)))
 |.or=>some (.int k (k.wrap ((BitVec.ofInt k.bits x|||BitVec.ofInt k.bits y).toNat:Nat)))
 |.xor=>some (.int k (k.wrap ((BitVec.ofInt k.bits x ^^^ BitVec.ofInt k.bits y).toNat:Nat)))
 |.andNot=>some (.int k (k.wrap ((BitVec.ofInt k.bits x&&& ~~~(BitVec.ofInt k.bits y)).toNat:Nat)))
 |.shl=>none
 |.shr=>none
 |.eql=>some (.bool (x==y))
 |.neq=>some (.bool (x !=y))
 |.lss=>some (.bool (x<y))
 |.leq=>some (.bool (x<=y))
 |.gtr=>some (.bool (x>y))
 |.geq=>some (.bool (x>=y))
def Tc(op:BinOp)(x y:List UInt8):Option V:=
 match op with
 |.add=>if x.length+y.length<=4611686018427387904 then some (.str (x++y))else none
 |.eql=>some (.bool (x==y))
 |.neq=>some (.bool (!(x==y)))
 |.lss=>some (.bool (Op.bytesLess x y))
 |.leq=>some (.bool (Op.bytesLess x y||x==y))
 |.gtr=>some (.bool (!(Op.bytesLess x y||x==y)))
 |.geq=>some (.bool (!(Op.bytesLess x y)))
 |_=>none
def oe(op:BinOp):V->V->Option V
 |.int k x,.int a y=>
  match op with
  |.shl=>if y<0 then none else some (.int k (k.wrap (x*2 ^(min y.toNat k.bits))))
  |.shr=>if y<0 then none else some (.int k (x.fdiv (2 ^(min y.toNat k.bits))))
  |_=>if k=a then Mo op k x y else none
 |.str x,.str y=>Tc op x y
 |_,_=>none
def xK:V->Option Bool
 |.k1=>some true
 |.bp _ _|.A _ _ _|.ep _=>some false
 |_=>none
def oV:CK->V->V->Option Bool
 |.i,.int k x,.int a y=>if k=a then some (x==y)else none
 |.s,.str x,.str y=>some (x==y)
 |.b,.bool x,.bool y=>some (x==y)
 |_,_,_=>none
def dJ:List CK->List V->List V->Option Bool
 |[],[],[]=>some true
 |k::d,a::r,b::q=>match oV k a b,dJ d r q with
  |some x,some y=>some (x&&y)
  |_,_=>none
 |_,_,_=>none
def bytesOf:List V->Option (List UInt8)
 |[]=>some []
 |.int .u8 n::r=>(bytesOf r).map (UInt8.ofNat n.toNat::·)
 |_=>none
def idxOf:V->Option Nat
 |.int _ n=>if 0<=n then some n.toNat else none
 |_=>none
def tr(s:St)(len:Nat)(lo a:Option eO):Option (Nat×Nat):=
 match(match a with|some h=>idxOf (s.val h)|none=>some len),(match lo with|some l=>idxOf (s.val l)|none=>some 0)with
 |some h,some l=>if l<=h/\h<=len then some (l,h)else none
 |_,_=>none
def tY(s:St)(len cap:Nat)(lo a:Option eO):Option (Nat×Nat):=
 match(match a with|some h=>idxOf (s.val h)|none=>some len),(match lo with|some l=>idxOf (s.val l)|none=>some 0)with
 |some h,some l=>if l<=h/\h<=cap then some (l,h)else none
 |_,_=>none
def jR(n:Nat)(v:V):Bool:=v.cells.length==n&&v.cells.all V.one
def aO(cells:List V)(off:Nat):List V->List V
 |[]=>cells
 |c::r=>aO (cells.set off c) (off+1) r
def jQ(s:St):List V->List (Nat×Nat×eO)->Option (List V)
 |cells,[]=>some cells
 |cells,(off,n,x)::r=>
  if jR n (s.val x)=true/\off+n<=cells.length then jQ s (aO cells off (s.val x).cells) r else none
def dw(s:St):vQ->Option V
 |.move x|.same x=>some (s.val x)
 |.pick c a b=>match s.val c with
  |.bool t=>some (if t then s.val a else s.val b)
  |_=>none
 |.load true n addr=>match s.iN (s.val addr)with
  |some cs=>if n<=cs.length then some (.agg (cs.take n))else none
  |none=>none
 |.load false _ addr=>match s.iN (s.val addr)with
  |some (c::_)=>some c
  |_=>none
 |.nilCheck x=>match s.val x with
  |.A st p off=>some (.A st p off)
  |.bp id off=>some (.bp id off)
  |.ep cells=>some (.ep cells)
  |_=>none
 |.bin op x y=>oe op (s.val x) (s.val y)
 |.V8 neg x y=>match s.val x,s.val y with
  |.bool a,.bool b=>some (.bool (if neg then !(a==b)else a==b))
  |_,_=>none
 |.V9 neg x y=>match xK (s.val x),xK (s.val y)with
  |some true,some b=>some (.bool (if neg then !b else b))
  |some b,some true=>some (.bool (if neg then !b else b))
  |_,_=>none
 |.eqc neg u x y=>match s.val x,s.val y with
  |.agg a,.agg b=>(dJ u a b).map λt=>.bool (if neg then !t else t)
  |_,_=>none
 |.un op x=>match op,s.val x with
  |.neg,.int k n=>some (.int k (k.wrap (0-n)))
  |.not,.bool b=>some (.bool !b)
  |.xor,.int k n=>some (.int k (k.wrap ((BitVec.ofInt k.bits (if k.signed then -1 else k.max) ^^^ BitVec.ofInt k.bits n).toNat:Nat)))
  |_,_=>none
 |.toInt k x=>match s.val x with
  |.int _ n=>some (.int k (k.wrap n))
  |_=>none
 |.CN x=>match s.val x with
  |.sl 1 j=>(bytesOf j).map .str
  |.aP=>some (.str [])
  |_=>none
 |.D5 x lo q=>match s.val x with
  |.str l=>(tr s l.length lo q).map λ(a,b)=>.str ((l.drop a).take (b-a))
  |_=>none
 |.cut sz x lo q=>match s.val x with
  |.sl d j=>if sz=d then(tr s j.length lo q).map λ(a,b)=>.sl d ((j.drop a).take (b-a))else none
  |.aP=>(tr s 0 lo q).map λ_=>.aP
  |.ms d id off n c=>if sz=d then(tY s n c lo q).map λ(a,b)=>.ms d id (off+a*sz) (b-a) (c-a)else none
  |_=>none
 |.nQ n x=>match s.val x with
  |.bp id o=>some (.ms 1 id o n n)
  |.ep cells=>if n<=cells.length then some (.sl 1 (cells.take n))else none
  |_=>none
 |.fieldAddr off x=>match s.val x with
  |.A st p o=>some (.A st p (o+off))
  |.bp id o=>some (.bp id (o+off))
  |.ep cells=>if off<=cells.length then some (.ep (cells.drop off))else none
  |_=>none
 |.field true off n x=>match s.val x with
  |.agg cs=>if off+n<=cs.length then some (.agg ((cs.drop off).take n))else none
  |_=>none
 |.field false off _ x=>match s.val x with
  |.agg cs=>cs[off]?
  |_=>none
 |.sv sz x i=>match s.val x,idxOf (s.val i)with
  |.sl d j,some k=>if sz=d then(j[k]?).map λv=>.ep v.cells else none
  |.ms d id off n _,some k=>if sz=d/\k<n then some (.bp id (off+k*sz))else none
  |_,_=>none
 |.rX len sz x i=>match s.val x,idxOf (s.val i)with
  |.A st p o,some k=>if k<len then some (.A st p (o+k*sz))else none
  |.bp id o,some k=>if k<len then some (.bp id (o+k*sz))else none
  |.ep cells,some k=>if k<len/\k*sz<=cells.length then some (.ep (cells.drop (k*sz)))else none
  |_,_=>none
 |.xJ x i=>match s.val x,idxOf (s.val i)with
  |.str l,some k=>(l[k]?).map λb=>.int .u8 b.toNat
  |_,_=>none
 |.tX true len sz x i=>match s.val x,idxOf (s.val i)with
  |.agg cs,some k=>if k<len/\k*sz+sz<=cs.length then some (.agg ((cs.drop (k*sz)).take sz))else none
  |_,_=>none
 |.tX false len sz x i=>match s.val x,idxOf (s.val i)with
  |.agg cs,some k=>if k<len then cs[k*sz]? else none
  |_,_=>none
 |.len x=>match s.val x with
  |.sl _ j=>some (.int .i64 j.length)
  |.aP=>some (.int .i64 0)
  |.ms _ _ _ n _=>some (.int .i64 n)
  |_=>none
 |.cap x=>match s.val x with
  |.aP=>some (.int .i64 0)
  |.ms _ _ _ _ c=>some (.int .i64 c)
  |_=>none
 |.Mm x=>match s.val x with
  |.str l=>some (.int .i64 l.length)
  |_=>none
 |.Mn n=>some (.int .i64 n)
 |.extract x i=>match s.val x with
  |.hE z=>z[i]?
  |_=>none
 |.build r parts=>(jQ s r parts).map .agg
 |.Ae f caps=>if caps.all (λx=>(s.val x).one)then some (.fn f (caps.map s.val))else none
 |.wE t x=>if(s.val x).one then some (.Hc t (s.val x))else none
 |.min2 x y=>match s.val x,s.val y with
  |.int k a,.int _ b=>some (.int k (if b<a then b else a))
  |_,_=>none
 |.max2 x y=>match s.val x,s.val y with
  |.int k a,.int _ b=>some (.int k (if b>a then b else a))
  |_,_=>none
section
variable {GL:Nat->Option (List V)}
def eR{α:Type}(f:Nat->α)(k:Nat)(v:α):Nat->α:=λi=>if i=k then v else f i
@[simp] def bl {α:Type} (f:Nat->α) (k:Nat) (v:α):eR f k v k=v:=by simp[eR]
def bE{α:Type}(f:Nat->α){k i:Nat}(v:α)(h:i≠k):eR f k v i=f i:=by simp[eR,h]
def unlink(lk:Nat->Option Loc)(l:Loc):Nat->Option Loc:=λt=>if lk t=some l then none else lk t
def St.put(s:St)(d:Nat)(v:V)(l:Option Loc)(bL:Bool):St:=
 {s with Z:=eR s.Z d v,lk:=eR (unlink s.lk (.var d)) d (if l=some (.var d)then none else l),fl:=eR s.fl d bL}
@[simp] def St.abI (s:St) (d v l o):(s.put d v l o).n=s.n:=rfl
@[simp] def St.IQ (s:St) (d v l o):(s.put d v l o).loc=s.loc:=rfl
@[simp] def St.IR (s:St) (d v l o):(s.put d v l o).G=s.G:=rfl
@[simp] def St.Mp (s:St) (d v l o):(s.put d v l o).E=s.E:=rfl
@[simp] def St.aaR (s:St) (d v l o):(s.put d v l o).fc=s.fc:=rfl
@[simp] def St.nR (s:St) (d v l o) (t:Nat):(s.put d v l o).Z t=if t=d then v else s.Z t:=rfl
@[simp] def St.Af (s:St) (d v l o) (t:Nat):(s.put d v l o).fl t=if t=d then o else s.fl t:=rfl
def rv(t:Array Value)(d:Nat)(x:Value)(h:d<t.size):(t.setIfInBounds d x).getD d undef=x:=by
 simp[Array.getD,h]
def tZ(t:Array Value)(d u:Nat)(x:Value)(h:u≠d):(t.setIfInBounds d x).getD u undef=t.getD u undef:=by
 simp only[cH,hJ,an (hU h)]
def vR(g:aW)(s:St)(a:Act)(w:World)(l:Loc)(v:V)(x:Value):Prop:=
 match l with
 |.var u=>x=a.tmps.getD u undef/\v=s.Z u
 |.cell st d j=>d<s.G st/\∀b,g.lb st d=some b->w.cell? (cl b j)=some x/\(s.loc st d)[j]?=some v
 |.iI id j=>∃cells,s.E.box id=some cells/\cells[j]?=some v/\∀b,g.hb id=some b->w.cell? (cl b j)=some x
 |.ret=>True
def Rel.put{g:aW}{s:St}{a:Act}{w:World}(h:Rel GL g s a w){d:Nat}{v:V}{x:Value}{l:Option Loc}{bL:Bool}
 (D:d<s.n) (H:ER g v x) (hl:∀k,l=some k->vR g s a w k v x) (K:bL=true->dS g w (.var d) v x):
 Rel GL g (s.put d v l bL) (a.put (some d) x) w:=by
 have z:d<a.tmps.size:=by rw[h.size];exact D
 have same:=rv a.tmps d x z;have other:=λu p=>tZ a.tmps d u x p;have y:∀t k,(s.put d v l bL).lk t=some k->(t=d/\l=some k/\k≠.var d)\/(t≠d/\s.lk t=some k/\k≠.var d):=by
  intro t k e;by_cases f:t=d
  .subst f;simp only[St.put,bl]at e;by_cases q:l=some (.var t)
   .simp[q]at e
   .simp[q]at e;exact .inl ⟨rfl,e,λr=>q (by rw[e,r])⟩
  .simp only[St.put,bE _ _ f,unlink]at e;by_cases q:s.lk t=some (.var d)
   .simp[q]at e
   .simp[q]at e;exact .inr ⟨f,e,λr=>q (by rw[e,r])⟩
 refine {
  size:=by simp[Act.put,h.size],gj:=h.gj,Z:=?_,gA:=h.gA,heap:=h.heap,loc:=h.loc,jd:=h.jd,jt:=?_,gD:=h.gD,jX:=?_,gF:=?_,ib:=?_}
 .intro t;by_cases f:t=d
  .subst f;simp only[St.nR,bQ,Act.put,same];exact H
  .simp only[St.nR,f,cE,Act.put,other t f];exact h.Z t
 .intro t e;by_cases f:t=d
  .subst f;simp only[St.Af,bQ]at e;simp only[St.nR,bQ,Act.put,same];exact K e
  .simp only[St.Af,f,cE]at e;simp only[St.nR,f,cE,Act.put,other t f];exact h.jt t e
 .intro t u e;rcases y t _ e with⟨rfl,e1,o⟩|⟨f,e1,o⟩
  .have p:u≠t:=λr=>o (by rw[r]);have:=hl _ e1;simp only[vR]at this;simp only[St.nR,bQ,p,cE,Act.put,same,other u p];exact this
  .have p:u≠d:=λr=>o (by rw[r]);simp only[St.nR,f,p,cE,Act.put,other t f,other u p];exact h.jX t u e1
 .intro t st L j e;rcases y t _ e with⟨rfl,e1,o⟩|⟨f,e1,o⟩
  .exact Xb
  .simp only[St.nR,f,cE,Act.put,other t f];exact h.gF t st L j e1
 .intro t id j e;rcases y t _ e with⟨rfl,e1,o⟩|⟨f,e1,o⟩
  .exact Xb
  .simp only[St.nR,f,cE,Act.put,other t f];exact h.ib t id j e1
def qi.drew{g:aW}{w:World}(h:qi GL g w):qi GL g w.drew:=⟨h.kn,h.gZ,h.e8,h.il,h.kC⟩
def fP.drew{g:aW}{w:World}{b ow cells}(h:fP g w b ow cells):fP g w.drew b ow cells:=⟨h.mq,h.cell,h.ki⟩
def HR.drew{g:aW}{E:aJ}{w:World}(h:HR g E w):HR g E w.drew:=
 ⟨λid cells e=>let⟨b,a,d⟩:=h.box id cells e;⟨b,a,d.drew⟩,h.tail,h.map,h.Y⟩
def Rel.drew{g:aW}{s:St}{a:Act}{w:World}(h:Rel GL g s a w):Rel GL g s a w.drew:=
 {
  size:=h.size,gj:=h.gj,Z:=h.Z,gA:=h.gA.drew,heap:=h.heap.drew,loc:=λst d e=>let⟨b,h1,f⟩:=h.loc st d e;⟨b,h1,f.drew⟩,jd:=h.jd,jt:=h.jt,gD:=h.gD,jX:=h.jX,gF:=h.gF,ib:=h.ib}
def Step.drew(g:aW)(w:World):Step g w g w.drew:=
 ⟨λ_ _ _ h=>h,λ_ _ h=>h,λ_ _ h=>h,λ_ _ h=>⟨h,rfl,rfl⟩,λ_ _ _ _ h=>h,λ_ _ h _=>h,ao _,⟨rfl,rfl,rfl,λ_=>fO _⟩,λ_ _ _=>rfl⟩
def aW.block(g:aW)(b:Nat)(ow:Nat->eX):aW:={g with bL:=λa o=>if a=b then ow o else g.bL a o}
def aW.ff(g:aW){b a:Nat}(ow:Nat->eX)(o:Nat)(h:a≠b):(g.block b ow).bL a o=g.bL a o:=by
 simp[aW.block,h]
def aW.eL(g:aW)(b:Nat)(ow:Nat->eX)(o:Nat):(g.block b ow).bL b o=ow o:=by
 simp[aW.block]
section alloc
variable {g:aW}{w:World}{ow:Nat->eX}{ob:Obj}
def qi.ua(h:qi GL g w){b o:Nat}(hb:g.bL b o≠.free):b≠w.heap.size:=cr (h.il b o hb)
def qi.mX(h:qi GL g w):g.Le (g.block w.heap.size ow) where
 gZ b o x e:=by rw[aW.ff _ _ _ (h.ua (by rw[e];simp))];exact e
 e8 b ob e:=by rw[aW.ff _ _ _ (h.ua (by rw[e];simp))];exact e
 hb _ _ e:=e
def qA{w:World}{b o:Nat}{u:Value}(h:w.cell? (cl b o)=some u):b<w.heap.size:=World.block_lt_of_cell? w (cl b o) h
def mr(w:World)(ob:Obj){b:Nat}(o:Nat)(h:b≠w.heap.size):(w.alloc ob).cell? (cl b o)=w.cell? (cl b o):=
 World.cell?_alloc_old _ _ _ h
def oX(w:World)(ob:Obj){b:Nat}(o:Nat)(h:b≠w.heap.size):(w.alloc ob).frozen? (cl b o)=w.frozen? (cl b o):=
 World.frozen?_alloc_old _ _ _ h
def pE(w:World)(ob:Obj){b:Nat}{o:Obj}(h:w.heap[b]?=some o):(w.alloc ob).heap[b]?=some o:=by
 have hb:b<w.heap.size:=(cD.1 h).1;simp only[World.alloc,gL,an (cr hb),h]
def wF(w:World)(ob:Obj):(w.alloc ob).heap[w.heap.size]?=some ob:=by
 show(w.heap.push ob)[w.heap.size]?=_;simp
def qi.alloc(h:qi GL g w)(d:∀o x,ow o=.gZ x->(w.alloc ob).cell? (cl w.heap.size o)=some x)(f:∀pg,ow 0=.e8 pg->ob=pg/\uZ ob=false):qi GL (g.block w.heap.size ow) (w.alloc ob) where
 kC:=h.kC
 kn n cells e:=(h.kn n cells e).mono h.mX
 gZ b o x ex:=by
  by_cases hb:b=w.heap.size
  .subst hb;rw[aW.eL]at ex;exact d o x ex
  .rw[aW.ff _ _ _ hb]at ex;rw[mr w ob o hb];exact h.gZ b o x ex
 e8 b pg ex:=by
  by_cases hb:b=w.heap.size
  .subst hb;rw[aW.eL]at ex;obtain⟨rfl,j⟩:=f pg ex;exact⟨wF w _,j⟩
  .rw[aW.ff _ _ _ hb]at ex;exact⟨pE w ob (h.e8 b pg ex).1,(h.e8 b pg ex).2⟩
 il b o a:=by
  by_cases hb:b=w.heap.size
  .subst hb;simp
  .rw[aW.ff _ _ _ hb]at a;have:=h.il b o a;simp;omega
def fP.alloc(d:qi GL g w){b:Nat}{o:eX}{cells:List V}(h:fP g w b o cells)(a:o≠.free):fP (g.block w.heap.size ow) (w.alloc ob) b o cells where
 mq j:=by
  have e:=h.mq j;rw[aW.ff _ _ _ (d.ua (by rw[e];exact a))];exact e
 cell j v l:=by
  obtain⟨h1,x,f,p⟩:=h.cell j v l;refine⟨h1,x,?_,p.mono d.mX⟩;rw[mr w ob j (cr (qA f))];exact f
 ki j:=by
  have e:=h.mq j;rw[oX _ _ _ (d.ua (by rw[e];exact a))];exact h.ki j
def dS.alloc(f:qi GL g w){l v x}(h:dS g w l v x):dS (g.block w.heap.size ow) (w.alloc ob) l v x:=by
 intro sz j a len cap o hx k p q;obtain⟨d,⟨u,r⟩,t⟩:=h sz j a len cap o hx k p q;have hb:a.block≠w.heap.size:=f.ua (by rw[d];simp);refine⟨by rw[aW.ff _ _ _ hb];exact d,⟨u,by rw[mr _ _ _ hb];exact r⟩,by rw[oX _ _ _ hb];exact t⟩
def ER.mono{g g':aW}(h:g.Le g')(f:∀st a b,g.lb st a=some b->g'.lb st a=some b){v:V}{x:Value}(d:ER g v x):ER g' v x:=by
 cases v<;>first
  |exact VR.mono h d
  |(obtain⟨b,j,l⟩:=d;exact⟨b,f _ _ _ j,l⟩)
def wD.mono{g g':aW}(f:g.Le g'){kvs:List (V×V)}{es:Array MapEntry}{c:Nat}(h:wD g kvs es c):wD g' kvs es c:=
 ⟨h.len,λj u e a d=>(h.key j u e a d).mono f,λj u e a d=>(h.val j u e a d).mono f,h.born,h.Ml⟩
def MR.mono{g g':aW}(a:g.Le g'){mo:MO}{ob:Obj}(h:MR g mo ob):MR g' mo ob:=by
 cases mo with
 |map kvs=>obtain⟨d,c,e,h⟩:=h;exact⟨d,c,e,h.mono a⟩
 |walk m n seen=>obtain⟨b,e,h⟩:=h;exact⟨b,a.hb _ _ e,h⟩
 |raw o=>exact h
def HR.alloc(d:qi GL g w){E:aJ}(h:HR g E w):HR (g.block w.heap.size ow) E (w.alloc ob) where
 box id cells u:=let⟨b,h1,a⟩:=h.box id cells u;⟨b,h1,a.alloc d bR⟩
 tail id cells j v b x f z p q r:=by
  obtain⟨t,h1,a⟩:=h.box id cells f;obtain rfl:t=b:=au (h1.symm.trans q);obtain⟨_,y,l,_⟩:=a.cell j v p;rw[mr _ _ _ (cr (qA l))]at r;exact(h.tail id cells j v t x f z p q r).alloc d
 map id kvs f:=by
  obtain⟨b,o,h1,a,l,D,H⟩:=h.map id kvs f;exact⟨b,o,h1,by rw[aW.ff _ _ _ (d.ua (by rw[a];simp))];exact a,pE w ob l,D,H.mono d.mX⟩
 Y:=h.Y
def Rel.alloc{s:St}{a:Act}(h:Rel GL g s a w)(H:∀o x,ow o=.gZ x->(w.alloc ob).cell? (cl w.heap.size o)=some x)(K:∀pg,ow 0=.e8 pg->ob=pg/\uZ ob=false):Rel GL (g.block w.heap.size ow) s a (w.alloc ob) where
 size:=h.size
 gj:=h.gj.mono λD d l=>⟨by rw[aW.ff _ _ _ (h.gA.ua (by rw[d];simp))];exact d,pE w ob l⟩
 Z t:=(h.Z t).mono h.gA.mX (λ_ _ _ e=>e)
 gA:=h.gA.alloc H K
 heap:=h.heap.alloc h.gA
 loc st gn p:=let⟨b,h1,f⟩:=h.loc st gn p;⟨b,h1,f.alloc h.gA bR⟩
 jd:=h.jd
 jt t e:=(h.jt t e).alloc h.gA
 gD st gn j v b x d l e3 r:=by
  have p:gn<s.G st:=by
   exact WO
  obtain⟨u,h1,f⟩:=h.loc st gn p;obtain rfl:u=b:=au (h1.symm.trans e3);obtain⟨_,y,q,_⟩:=f.cell j v l;rw[mr _ _ _ (cr (qA q))]at r;exact(h.gD st gn j v u x d l e3 r).alloc h.gA
 jX:=h.jX
 gF t st gn j d:=by
  refine⟨(h.gF t st gn j d).1,λb e3=>?_⟩;obtain⟨h1,f⟩:=(h.gF t st gn j d).2 b e3;exact⟨by rw[mr _ _ _ (cr (qA h1))];exact h1,f⟩
 ib t id j d:=by
  obtain⟨cells,h1,f,q⟩:=h.ib t id j d;refine⟨cells,h1,f,λb e3=>?_⟩;have z:=q b e3;rw[mr _ _ _ (cr (qA z))];exact z
def Step.alloc(d:qi GL g w):Step g w (g.block w.heap.size ow) (w.alloc ob) where
 gZ:=d.mX.gZ
 e8:=d.mX.e8
 hb _ _ e:=e
 od b o a _ hm:=pE w ob hm
 ext b o a:=by
  have hb:b≠w.heap.size:=d.ua (by rw[a];simp);exact⟨by rw[aW.ff _ _ _ hb];exact a,mr _ _ _ hb,oX _ _ _ hb⟩
 ru b o a hb:=by
  rw[aW.ff _ _ _ (cr hb)]at a;exact a
 size:=bR
 gW:=⟨rfl,rfl,rfl,λ_=>ao _⟩
 whole b hb _:=by
  show(w.heap.push ob)[b]?=_;rw[gL,an (cr hb)]
end alloc
def l9{α:Type}(f:Nat->Nat->α)(i j:Nat)(v:α):Nat->Nat->α:=λa d=>if a=i/\d=j then v else f a d
def St.fG(s:St)(d:Nat)(cells:List V):St:=
 {s with loc:=l9 s.loc d (s.G d) cells,fc:=l9 s.fc d (s.G d) (λ_=>false),G:=eR s.G d (s.G d+1)}
def aW.wG(g:aW)(d a b:Nat):aW:={g with lb:=l9 g.lb d a (some b)}
section box
variable {g g':aW}{w:World}
def qi.lb(h:qi GL g w)(a:g'.bL=g.bL)(d:g'.hb=g.hb):qi GL g' w where
 kC:=h.kC
 kn n c e:=(h.kn n c e).mono ⟨λ_ _ _ e=>by rw[a];exact e,λ_ _ e=>by rw[a];exact e,λ_ _ e=>by rw[d];exact e⟩
 gZ b o x e:=h.gZ b o x (by rw[<-a];exact e)
 e8 b o e:=h.e8 b o (by rw[<-a];exact e)
 il b o e:=h.il b o (by rw[<-a];exact e)
def fP.lb{b:Nat}{o:eX}{cells:List V}(h:fP g w b o cells)(a:g'.bL=g.bL)(d:g'.hb=g.hb):fP g' w b o cells where
 mq j:=by rw[a];exact h.mq j
 cell j c f:=let⟨h1,x,l,p⟩:=h.cell j c f;⟨h1,x,l,p.mono ⟨λ_ _ _ e=>by rw[a];exact e,λ_ _ e=>by rw[a];exact e,λ_ _ e=>by rw[d];exact e⟩⟩
 ki:=h.ki
def dS.lb{l v x}(h:dS g w l v x)(d:g'.bL=g.bL):dS g' w l v x:=by
 intro sz f a len cap j hx k o p;rw[d];exact h sz f a len cap j hx k o p
def HR.lb{E:aJ}(h:HR g E w)(d:g'.bL=g.bL)(a:g'.hb=g.hb):HR g' E w where
 box id cells e:=let⟨b,h1,f⟩:=h.box id cells e;⟨b,by rw[a];exact h1,f.lb d a⟩
 tail id cells j c b x l p q r t:=(h.tail id cells j c b x l p q (by rw[<-a];exact r) t).lb d
 map id kvs e:=let⟨b,o,h1,f,u,y,z⟩:=h.map id kvs e;⟨b,o,by rw[a];exact h1,by rw[d];exact f,u,y,z.mono ⟨λ_ _ _ e=>by rw[d];exact e,λ_ _ e=>by rw[d];exact e,λ_ _ e=>by rw[a];exact e⟩⟩
 Y id e:=by rw[a];exact h.Y id e
def Rel.fG{s:St}{a:Act}(h:Rel GL g s a w){d b:Nat}{cells:List V}(hb:fP g w b (.su d (s.G d)) cells):
 Rel GL (g.wG d (s.G d) b) (s.fG d cells) a w:=by
 have hle:g.Le (g.wG d (s.G d) b):=⟨λ_ _ _ e=>e,λ_ _ e=>e,λ_ _ e=>e⟩;have old:∀st f,f<s.G st->¬(st=d/\f=s.G d):=λst f o l=>by
  obtain⟨rfl,rfl⟩:=l;omega
 have q:∀st f,f<s.G st->(g.wG d (s.G d) b).lb st f=g.lb st f:=λst f o=>by
  simp only[aW.wG,l9,an (old st f o)]
 refine {
  size:=h.size,gj:=h.gj,Z:=λt=>(h.Z t).mono hle ?_,gA:=h.gA.lb rfl rfl,heap:=h.heap.lb rfl rfl,loc:=?_,jd:=?_,jt:=λt e=>(h.jt t e).lb rfl,gD:=?_,jX:=h.jX,gF:=?_,ib:=h.ib}
 .intro st f u e;have o:f<s.G st:=by
   rcases am f (s.G st)with D|D
   .exact D
   .exact absurd ((h.jd st f D).symm.trans e) bR
  rw[q st f o];exact e
 .intro st f o;by_cases l:st=d/\f=s.G d
  .obtain⟨rfl,rfl⟩:=l;exact⟨b,by simp[aW.wG,l9],by simp only[St.fG,l9,oU,bQ];exact hb.lb rfl rfl⟩
  .have r:f<s.G st:=by
    simp only[St.fG,eR]at o;by_cases p:st=d
    .subst p;simp at o;have:f≠s.G st:=λe=>l ⟨rfl,e⟩;omega
    .simpa[p]using o
   obtain⟨u,h1,K⟩:=h.loc st f r;refine⟨u,by rw[q st f r];exact h1,?_⟩;simp only[St.fG,l9,an l];exact K.lb rfl rfl
 .intro st f o;simp only[St.fG,eR]at o;have r:s.G st<=f:=by
   by_cases p:st=d
   .subst p;simp at o;omega
   .simpa[p]using o
  have l:¬(st=d/\f=s.G d):=λl=>by
   obtain⟨rfl,rfl⟩:=l;simp at o;omega
  simp only[aW.wG,l9,an l];exact h.jd st f r
 .intro st f j c u x y H z L;by_cases l:st=d/\f=s.G d
  .simp[St.fG,l9,l]at y
  .simp only[St.fG,l9,an l]at y H;simp only[aW.wG,l9,an l]at z;exact(h.gD st f j c u x y H z L).lb rfl
 .intro t st f j y;obtain⟨o,N⟩:=h.gF t st f j y;have l:=old st f o;refine⟨?_,λu z=>?_⟩
  .simp only[St.fG,eR];split<;>(try subst_vars)<;>omega
  .simp only[aW.wG,l9,an l]at z;simp only[St.fG,l9,an l];exact N u z
end box
end
section
variable {GL:Nat->Option (List V)}
structure oP(w w':World)(b off:Nat)(xs:List Value):Prop where
 same:∀b' o,¬(b'=b/\off<=o/\o<off+xs.length)->w'.cell? (cl b' o)=w.cell? (cl b' o)
 new:∀(k:Nat) x,xs[k]?=some x->w'.cell? (cl b (off+k))=some x
 frozen:∀b' o,w'.frozen? (cl b' o)=w.frozen? (cl b' o)
 map:∀(b':Nat) ob,uZ ob=false->w.heap[b']?=some ob->w'.heap[b']?=some ob
 size:w'.heap.size=w.heap.size
 gW:Cm True w w'
 oth:∀b',(b'=b->xs=[])->w'.heap[b']?=w.heap[b']?
def oP.nil(w:World)(b off:Nat):oP w w b off []:=⟨λ_ _ _=>rfl,λk x h=>by simp at h,λ_ _=>rfl,λ_ _ _ h=>h,rfl,.refl _,λ_ _=>rfl⟩
def heap_set(w:World)(a:Addr)(x:Value){b:Nat}{ob:Obj}(hi:uZ ob=false)(h:w.heap[b]?=some ob):(w.setCell a x).heap[b]?=some ob:=by
 simp only[World.setCell,dz];exact Xd
def oP.cons{w w':World}{b off:Nat}{x u:Value}{xs:List Value}(p:w.cell? (cl b off)=some u)(h:oP (w.setCell (cl b off) x) w' b (off+1) xs):
 oP w w' b off (x::xs) where
 same a o d:=by
  rw[h.same a o (λq=>d ⟨q.1,av,by simp;omega⟩),World.cell?_setCell_other];intro e;have r:b=a:=ar Addr.block e;have z:off=o:=ar Addr.off e;exact d ⟨r.symm,av,by simp;omega⟩
 new k y f:=by
  cases k with
  |zero=>
   simp at f;subst f;rw[dj,h.same b off av];exact World.cell?_setCell_same _ _ _ p
  |succ k=>
   simp at f;have:=h.new k y f;rw[show off+(k+1)=off+1+k from av];exact this
 frozen a o:=by rw[h.frozen a o,World.frozen?_setCell]
 map a t i e:=h.map a t i (heap_set _ _ _ i e)
 size:=by rw[h.size,World.size_setCell]
 gW:=⟨h.gW.tape,h.gW.os,h.gW.out,h.gW.drawn⟩
 oth a d:=by
  have j:a≠b:=λe=>by cases d e
  rw[h.oth a (λe=>absurd e j)];simp only[World.setCell,dz];rw[an (λe=>j e.symm)]
def og(P:Program)(xs:List Value):∀(i:Nat)(w:World)(a:Addr),a.spot=none->(∀x∈xs,x.oneCell'=true)->
 (∀k,k<xs.length->(∃u,w.cell? (cl a.block (a.off+i+k))=some u)/\w.frozen? (cl a.block (a.off+i+k))=false)->
 ∃w',(storeCells a xs i).run P w=.ok () w'/\oP w w' a.block (a.off+i) xs:=by
 induction xs with
 |nil=>intro i w a _ _ _;exact⟨w,rfl,.nil _ _ _⟩
 |cons x xs ih=>
  intro i w a hs p q;have j:a.add i=cl a.block (a.off+i):=by
   exact WY
  obtain⟨⟨u,o⟩,r⟩:=q 0 bR;rw[dj]at o r;obtain⟨w',t,z⟩:=ih (i+1) (w.setCell (cl a.block (a.off+i)) x) a hs (λy D=>p y (by simp[D])) (λk K=>by
   obtain⟨⟨H,d⟩,f⟩:=q (k+1) (by simp;omega);rw[show a.off+i+(k+1)=a.off+(i+1)+k from av]at d f;refine⟨⟨H,?_⟩,by rw[World.frozen?_setCell];exact f⟩;rw[World.cell?_setCell_other];exact d;intro e;have:=ar Addr.off e;simp only[cl]at this;omega)
  refine⟨w',?_,.cons o (by rw[show a.off+i+1=a.off+(i+1)from av];exact z)⟩;show(do store (a.add i) x;storeCells a xs (i+1):Sem Unit).run P w=_;rw[j];simp only[Sem.run_bind,run_store P _ _ _ _ (p x bR),o,r];simpa using t
def run_loadCellsFrom(P:Program)(n:Nat):∀(i:Nat)(acc:Array Value)(w:World)(a:Addr)(ys:Nat->Value),a.spot=none->
 (∀k,k<n->w.cell? (cl a.block (a.off+i+k))=some (ys k))->
 (loadCellsFrom a i n acc).run P w=.ok (acc++((List.range n).map ys).toArray) w:=by
 induction n with
 |zero=>intro i acc w a ys _ _;simp[loadCellsFrom]
 |succ n ih=>
  intro i acc w a ys hs f;have d:a.add i=cl a.block (a.off+i):=by
   exact WY
  have h0:=f 0 av;rw[dj]at h0;show(do let v<-load (a.add i);loadCellsFrom a (i+1) n (acc.push v):Sem (Array Value)).run P w=_;rw[d];simp only[Sem.run_bind,run_load,h0,Result.andThen_ok];rw[ih (i+1) (acc.push (ys 0)) w a (λk=>ys (k+1)) hs (λk j=>by
   have:=f (k+1) av;rw[show a.off+i+(k+1)=a.off+(i+1)+k from av]at this;exact this)]
  congr 1;rw[m9];apply jG;simp[Function.comp_def]
def run_loadCells(P:Program)(n:Nat)(w:World)(a:Addr)(ys:Nat->Value)(d:a.spot=none)
 (f:∀k,k<n->w.cell? (cl a.block (a.off+k))=some (ys k)):
 (loadCells a n).run P w=.ok ((List.range n).map ys).toArray w:=by
 have:=run_loadCellsFrom P n 0 #[] w a ys d (λk j=>by rw[dj];exact f k j);simpa[loadCells]using this
def aW.ii(g:aW)(l l':Loc):aW:=
 {g with bL:=λb o=>match g.bL b o with
  |.tail k=>.tail (if k=l then l' else k)
  |x=>x}
section ii
variable {g:aW}{w:World}{l l':Loc}
def u0{b o:Nat}{x:Value}:(g.ii l l').bL b o=.gZ x↔g.bL b o=.gZ x:=by
 simp only[aW.ii];split<;>simp_all
def vS{b o:Nat}{ob:Obj}:(g.ii l l').bL b o=.e8 ob↔g.bL b o=.e8 ob:=by
 simp only[aW.ii];split<;>simp_all
def CO{b o:Nat}:(g.ii l l').bL b o=.rK↔g.bL b o=.rK:=by
 simp only[aW.ii];split<;>simp_all
def Ag{b o i:Nat}:(g.ii l l').bL b o=.oS i↔g.bL b o=.oS i:=by
 simp only[aW.ii];split<;>simp_all
def CP{b o:Nat}:(g.ii l l').bL b o=.ext↔g.bL b o=.ext:=by
 simp only[aW.ii];split<;>simp_all
def Hf{b o s n:Nat}:(g.ii l l').bL b o=.su s n↔g.bL b o=.su s n:=by
 simp only[aW.ii];split<;>simp_all
def Hg{b o i:Nat}:(g.ii l l').bL b o=.dZ i↔g.bL b o=.dZ i:=by
 simp only[aW.ii];split<;>simp_all
def Hh{b o:Nat}:(g.ii l l').bL b o=.free↔g.bL b o=.free:=by
 simp only[aW.ii];split<;>simp_all
def vT{b o:Nat}{k:Loc}(h:g.bL b o=.tail k):(g.ii l l').bL b o=.tail (if k=l then l' else k):=by
 simp only[aW.ii,h]
def pF:g.Le (g.ii l l'):=⟨λ_ _ _ e=>u0.2 e,λ_ _ e=>vS.2 e,λ_ _ e=>e⟩
def dS.Hi{v x}(h:dS g w l v x):dS (g.ii l l') w l' v x:=by
 intro sz d a len cap f hx k j o;obtain⟨p,q,r⟩:=h sz d a len cap f hx k j o;exact⟨by rw[vT p];simp,q,r⟩
def dS.nL{v x}{k:Loc}(h:dS g w k v x)(d:k≠l):dS (g.ii l l') w k v x:=by
 intro sz f a len cap j hx o p q;obtain⟨r,t,u⟩:=h sz f a len cap j hx o p q;exact⟨by rw[vT r];simp[d],t,u⟩
def qi.ii(h:qi GL g w):qi GL (g.ii l l') w where
 kC:=h.kC
 kn n c e:=(h.kn n c e).mono pF
 gZ b o x e:=h.gZ b o x (u0.1 e)
 e8 b o e:=h.e8 b o (vS.1 e)
 il b o e:=h.il b o (λa=>e (Hh.2 a))
def fP.IS{b s n:Nat}{cells:List V}(h:fP g w b (.su s n) cells):fP (g.ii l l') w b (.su s n) cells:=
 ⟨λj=>Hf.2 (h.mq j),λj c a=>let⟨d,x,f,o⟩:=h.cell j c a;⟨d,x,f,o.mono pF⟩,h.ki⟩
def fP.IT{b i:Nat}{cells:List V}(h:fP g w b (.dZ i) cells):fP (g.ii l l') w b (.dZ i) cells:=
 ⟨λj=>Hg.2 (h.mq j),λj c a=>let⟨d,x,f,o⟩:=h.cell j c a;⟨d,x,f,o.mono pF⟩,h.ki⟩
def Step.ii:Step g w (g.ii l l') w where
 gZ _ _ _ e:=u0.2 e
 e8 _ _ e:=vS.2 e
 hb _ _ e:=e
 od _ _ _ _ h:=h
 ext b o e:=⟨CP.2 e,rfl,rfl⟩
 ru b o e _:=CP.1 e
 size:=ao _
 gW:=.refl _
 whole _ _ _:=rfl
end ii
def St.dP(s:St):Loc->St
 |.var t=>{s with fl:=eR s.fl t false}
 |.cell st a j=>{s with fc:=l9 s.fc st a (eR (s.fc st a) j false)}
 |.iI id j=>{s with E:={s.E with fl:=eR s.E.fl id (eR (s.E.fl id) j false)}}
 |.ret=>s
def St.vw(s:St):Loc->St
 |.var t=>{s with fl:=eR s.fl t true}
 |.cell st a j=>{s with fc:=l9 s.fc st a (eR (s.fc st a) j true)}
 |.iI id j=>{s with E:={s.E with fl:=eR s.E.fl id (eR (s.E.fl id) j true)}}
 |.ret=>s
def St.iF(s:St):Loc->Bool
 |.var t=>s.fl t
 |.cell st a j=>s.fc st a j
 |.iI id j=>s.E.fl id j
 |.ret=>false
def Rel.CQ{g:aW}{s s':St}{a:Act}{w:World}(h:Rel GL g s a w)(K:s'.n=s.n)(d:s'.Z=s.Z)(o:s'.lk=s.lk)(p:s'.loc=s.loc)(q:s'.G=s.G)
 (hb:s'.E.box=s.E.box) (D:s'.E.mp=s.E.mp) (H:s'.E.Y=s.E.Y) (f1:∀t,s'.fl t=true->s.fl t=true) (L:∀st f j,s'.fc st f j=true->s.fc st f j=true)
 (N:∀id j,s'.E.fl id j=true->s.E.fl id j=true):Rel GL g s' a w where
 size:=by rw[K];exact h.size
 gj:=h.gj
 Z:=by rw[d];exact h.Z
 gA:=h.gA
 heap:=⟨by rw[hb];exact h.heap.box,λid cells j c b x r u y z P=>h.heap.tail id cells j c b x (by rw[<-hb];exact r) (N _ _ u) y z P,by rw[D];exact h.heap.map,by rw[H];exact h.heap.Y⟩
 loc:=by rw[q,p];exact h.loc
 jd:=by rw[q];exact h.jd
 jt t e:=by rw[d];exact h.jt t (f1 t e)
 gD st f j c b x r u y z:=h.gD st f j c b x (L _ _ _ r) (by rw[<-p];exact u) y z
 jX:=by rw[o,d];exact h.jX
 gF:=by rw[o,q,p,d];exact h.gF
 ib:=by rw[o,hb,d];exact h.ib
def Rel.dP{g:aW}{s:St}{a:Act}{w:World}(h:Rel GL g s a w)(l:Loc):Rel GL g (s.dP l) a w:=by
 cases l with
 |ret=>exact h
 |var t=>exact h.CQ rfl rfl rfl rfl rfl rfl rfl rfl (λu e=>by simp only[St.dP,eR]at e;split at e<;>simp_all) (λ_ _ _ e=>e) (λ_ _ e=>e)
 |cell st r j=>
  refine h.CQ rfl rfl rfl rfl rfl rfl rfl rfl (λ_ e=>e) ?_ (λ_ _ e=>e);intro p q o e;simp only[St.dP,l9]at e;split at e
  next d=>obtain⟨rfl,rfl⟩:=d;simp only[eR]at e;split at e<;>simp_all
  .exact e
 |iI id j=>
  refine h.CQ rfl rfl rfl rfl rfl rfl rfl rfl (λ_ e=>e) (λ_ _ _ e=>e) ?_;intro f o e;simp only[St.dP]at e;by_cases d:f=id
  .subst d;rw[bl]at e;simp only[eR]at e;split at e<;>simp_all
  .rw[bE _ _ d]at e;exact e
def Rel.Mq{g:aW}{s:St}{a:Act}{w:World}(h:Rel GL g s a w){l:Loc}{v:V}{x:Value}(f:s.iF l=true)(p:vR g s a w l v x):dS g w l v x:=by
 cases l with
 |ret=>simp[St.iF]at f
 |var t=>obtain⟨rfl,rfl⟩:=p;exact h.jt t f
 |cell st r j=>
  obtain⟨u,y⟩:=p;obtain⟨b,d,z⟩:=h.loc st r u;obtain⟨o,q⟩:=y b d;exact h.gD st r j v b x f q d o
 |iI id j=>
  obtain⟨cells,o,q,D⟩:=p;obtain⟨b,d,z⟩:=h.heap.box id cells o;exact h.heap.tail id cells j v b x o f q d (D b d)
def Rel.move{g:aW}{s:St}{a:Act}{w:World}(h:Rel GL g s a w){l l':Loc}{v:V}{x:Value}(a1:s.iF l=true)(a2:vR g s a w l v x)(L:vR g s a w l' v x):
 Rel GL (g.ii l l') ((s.dP l).vw l') a w:=by
 have ad:=(h.Mq a1 a2).Hi (l':=l');have d:=h.dP l;have base:Rel GL (g.ii l l') (s.dP l) a w:=by
  refine {
   size:=d.size,gj:=d.gj.mono λD p f=>⟨CO.2 p,f⟩,Z:=λt=>(d.Z t).mono pF (λ_ _ _ e=>e),gA:=d.gA.ii,heap:=⟨λid cells e=>let⟨b,h1,q⟩:=d.heap.box id cells e;⟨b,h1,q.IT⟩,λid cells j c b y p f r z P=>(d.heap.tail id cells j c b y p f r z P).nL ?_,λid kvs e=>let⟨b,o,h1,q,ai,a3,a4⟩:=d.heap.map id kvs e;⟨b,o,h1,Ag.2 q,ai,a3,a4.mono pF⟩,d.heap.Y⟩,loc:=λst Q e=>let⟨b,h1,q⟩:=d.loc st Q e;⟨b,h1,q.IS⟩,jd:=d.jd,jt:=λt e=>(d.jt t e).nL ?_,gD:=λst Q j c b y p f r z=>(d.gD st Q j c b y p f r z).nL ?_,jX:=d.jX,gF:=d.gF,ib:=d.ib}
  .rintro rfl;simp[St.dP]at f
  .rintro rfl;simp[St.dP]at e
  .rintro rfl;simp[St.dP,l9]at p
 cases l' with
 |ret=>exact base
 |var t=>
  have aB:v=(s.dP l).Z t/\x=a.tmps.getD t undef:=by cases l<;>exact⟨L.2,L.1⟩
  refine {base with jt:=λu e=>?_};by_cases ac:u=t
  .subst ac;rw[<-aB.2];show dS _ _ _ ((s.dP l).Z u) _;rw[<-aB.1];exact ad
  .exact base.jt u (by simpa[St.vw,bE _ _ ac]using e)
 |cell st Q j=>
  refine {base with gD:=λR ab H c b y p f r z=>?_};by_cases K:R=st/\ab=Q/\H=j
  .obtain⟨rfl,rfl,rfl⟩:=K;obtain⟨a7,a5⟩:=L;obtain⟨h1,q⟩:=a5 b r;have P:(s.loc R ab)[H]?=some c:=by cases l<;>exact f
   cases (h1.symm.trans z);cases (q.symm.trans P);exact ad
  .refine base.gD R ab H c b y ?_ f r z;simp only[St.vw,l9]at p;split at p
   next aC=>
    obtain⟨rfl,rfl⟩:=aC;have:H≠j:=λaA=>K ⟨rfl,rfl,aA⟩
    rwa [bE _ _ this]at p
   .exact p
 |iI id j=>
  refine {base with heap:=⟨base.heap.box,λN cells H c b y p f r z P=>?_,base.heap.map,base.heap.Y⟩};by_cases K:N=id/\H=j
  .obtain⟨rfl,rfl⟩:=K;obtain⟨aD,h1,q,ai⟩:=L;have a6:s.E.box N=some cells:=by cases l<;>exact p
   cases (h1.symm.trans a6);cases (q.symm.trans r);obtain rfl:=au ((ai b z).symm.trans P);exact ad
  .refine base.heap.tail N cells H c b y p ?_ r z P;simp only[St.vw]at f;by_cases a0:N=id
   .subst a0;have:H≠j:=λaA=>K ⟨rfl,aA⟩;rw[bl,bE _ _ this]at f;exact f
   .rw[bE _ _ a0]at f;exact f
end
section
variable {GL:Nat->Option (List V)}
def kD(vs:List V):∀(cells:List V)(off j:Nat),off+vs.length<=cells.length->
 (aO cells off vs)[j]?=if off<=j/\j<off+vs.length then vs[j-off]? else cells[j]?:=by
 induction vs with
 |nil=>intro cells off j _;simp only[aO,aT];rw[an av]
 |cons v vs ih=>
  intro cells off j h;simp only[aM]at h;rw[aO,ih _ _ _ (by simp;omega)];exact Wn
def iO(lk:Nat->Option Loc)(inr:Loc->Bool):Nat->Option Loc:=λt=>match lk t with
 |some l=>if inr l then none else some l
 |none=>none
def fE{lk:Nat->Option Loc}{inr:Loc->Bool}{t:Nat}{l:Loc}(h:iO lk inr t=some l):lk t=some l/\inr l=false:=by
 unfold iO at h;split at h
 next k e=>
  split at h
  .cases h
  next d=>cases h;exact⟨e,by simpa using d⟩
 .cases h
def Mr(st l off n:Nat):Loc->Bool
 |.cell d f j=>d==st&&f==l&&decide (off<=j)&&decide (j<off+n)
 |_=>false
def zB(id off n:Nat):Loc->Bool
 |.iI d j=>d==id&&decide (off<=j)&&decide (j<off+n)
 |_=>false
def uc(f:Nat->Bool)(off n:Nat):Nat->Bool:=λj=>if off<=j/\j<off+n then false else f j
def St.hZ(s:St)(st d off:Nat)(vs:List V):St:=
 {s with loc:=l9 s.loc st d (aO (s.loc st d) off vs),fc:=l9 s.fc st d (uc (s.fc st d) off vs.length),lk:=iO s.lk (Mr st d off vs.length)}
def aJ.set(h:aJ)(id:Nat)(cells:List V)(fl:Nat->Bool):aJ:=
 {h with box:=eR h.box id (some cells),fl:=eR h.fl id fl}
def St.jY(s:St)(id off:Nat)(cells vs:List V):St:=
 {s with E:=s.E.set id (aO cells off vs) (uc (s.E.fl id) off vs.length),lk:=iO s.lk (zB id off vs.length)}
section
variable {g:aW}{s:St}{a:Act}{w w':World}{b off:Nat}{xs:List Value}
def qi.wrote(h:qi GL g w)(j:oP w w' b off xs){ow:eX}(l:∀k,k<xs.length->g.bL b (off+k)=ow)(p:∀x,ow≠.gZ x):qi GL g w' where
 kn:=h.kn
 kC:=h.kC
 gZ d o x e:=by
  rw[j.same d o]
  .exact h.gZ d o x e
  .rintro⟨rfl,h1,q⟩;have:=l (o-off) av;rw[show off+(o-off)=o from av,e]at this;exact p x this.symm
 e8 d f e:=⟨j.map d f (h.e8 d f e).2 (h.e8 d f e).1,(h.e8 d f e).2⟩
 il d o e:=by rw[j.size];exact h.il d o e
def eW{o:Nat}{f:Nat}{ow d:eX}(j:oP w w' b off xs)(ho:∀k,k<xs.length->g.bL b (off+k)=ow)(h:g.bL f o=d)(hne:d≠ow):
 w'.cell? (cl f o)=w.cell? (cl f o):=by
 apply j.same;exact WM
def fP.eW{l:Nat}{ow d:eX}{cells:List V}(h:fP g w l d cells)(o:oP w w' b off xs)(t:∀k,k<xs.length->g.bL b (off+k)=ow)(p:d≠ow):
 fP g w' l d cells where
 mq:=h.mq
 cell j c q:=by
  obtain⟨h1,x,u,y⟩:=h.cell j c q;have r:j<cells.length:=by
   rcases am j cells.length with f|f
   .exact f
   .simp[b0 f]at q
  exact⟨h1,x,by rw[Bx.eW o t (h.bL j r) p];exact u,y⟩
 ki j:=by rw[o.frozen];exact h.ki j
def fP.wrote{ow:eX}{cells vs:List V}(h:fP g w b ow cells)(f:oP w w' b off xs)(p:off+vs.length<=cells.length)(t:xs.length=vs.length)
 (q:∀(k:Nat) v x,vs[k]?=some v->xs[k]?=some x->v.one=true/\VR g v x):fP g w' b ow (aO cells off vs) where
 mq:=h.mq
 cell j c d:=by
  rw[kD _ _ _ _ p]at d;split at d
  next o=>
   have hx:(j-off)<xs.length:=av;obtain⟨h1,l⟩:=q (j-off) c xs[j-off] d (by simp[hx]);refine⟨h1,xs[j-off],?_,l⟩;have:=f.new (j-off) xs[j-off] (by simp[hx])
   rwa [show off+(j-off)=j from av]at this
  next o=>obtain⟨h1,x,l,r⟩:=h.cell j c d;exact⟨h1,x,by rw[f.same b j (λu=>o av)];exact l,r⟩
 ki j:=by rw[f.frozen];exact h.ki j
def dS.wrote{l v x}{ow:eX}(h:dS g w l v x)(d:oP w w' b off xs)(o:∀k,k<xs.length->g.bL b (off+k)=ow)(f:ow≠.tail l):dS g w' l v x:=by
 intro sz p q len cap r hx k t y;obtain⟨j,⟨u,z⟩,D⟩:=h sz p q len cap r hx k t y;refine⟨j,⟨u,?_⟩,by rw[d.frozen];exact D⟩;rw[eW d o j (hU f)];exact z
def Step.wrote(d:oP w w' b off xs){ow:eX}(l:∀k,k<xs.length->g.bL b (off+k)=ow)(j:ow≠.ext)(p:∀x,ow≠.gZ x):Step g w g w' where
 gZ _ _ _ e:=e
 e8 _ _ e:=e
 hb _ _ e:=e
 od f r _ i e:=d.map f r i e
 ext f o e:=⟨e,eW d l e (hU j),d.frozen f o⟩
 ru _ _ e _:=e
 size:=by rw[d.size];exact ao _
 gW:=⟨d.gW.tape,d.gW.os,d.gW.out,λ_=>d.gW.drawn trivial⟩
 whole f _ e:=d.oth f λh=>by
  subst h;cases xs with
  |nil=>rfl
  |cons x xs=>
   exfalso;have q:=e (off+0);rw[l 0 bR]at q;rcases q with q|⟨x,q⟩
   .exact j q
   .exact p x q
def bZ{α:Type}{l:List α}{j:Nat}{c:α}(h:l[j]?=some c):j<l.length:=by
 rcases am j l.length with d|d
 .exact d
 .simp[b0 d]at h
def Rel.hZ(h:Rel GL g s a w){st y:Nat}{vs:List V}(a0:y<s.G st)(hb:g.lb st y=some b)(aA:off+vs.length<=(s.loc st y).length)(a1:xs.length=vs.length)
 (a2:∀(k:Nat) v x,vs[k]?=some v->xs[k]?=some x->v.one=true/\VR g v x) (q:oP w w' b off xs):Rel GL g (s.hZ st y off vs) a w':=by
 obtain⟨a3,h1,dZ⟩:=h.loc st y a0;obtain rfl:=au (h1.symm.trans hb);have K:∀k,k<xs.length->g.bL a3 (off+k)=.su st y:=λk a5=>dZ.bL _ (by omega);have P:∀d f,¬(d=st/\f=y)->(s.hZ st y off vs).loc d f=s.loc d f:=λd f r=>by
  simp only[St.hZ,l9,an r]
 have Q:(s.hZ st y off vs).loc st y=aO (s.loc st y) off vs:=by simp[St.hZ,l9]
 refine {size:=h.size,gj:=h.gj.mono λD l p=>⟨l,q.map D _ rfl p⟩,Z:=h.Z,gA:=h.gA.wrote q K (by simp),heap:=?_,loc:=?_,jd:=h.jd,jt:=?_,gD:=?_,jX:=?_,gF:=?_,ib:=?_}
 .refine⟨λid cells e=>let⟨L,l,p⟩:=h.heap.box id cells e;⟨L,l,p.eW q K (by simp)⟩,λid cells j c L x l p z H ai=>?_,λid kvs e=>let⟨L,o,l,p,z,H,ai⟩:=h.heap.map id kvs e;⟨L,o,l,p,q.map _ _ H z,H,ai⟩,h.heap.Y⟩;obtain⟨ad,R,ab⟩:=h.heap.box id cells l;obtain rfl:=au (R.symm.trans H);rw[eW q K (ab.bL j (bZ z)) (by simp)]at ai;exact(h.heap.tail id cells j c ad x l p z H ai).wrote q K (by simp)
 .intro d f N;obtain⟨L,l,p⟩:=h.loc d f N;refine⟨L,l,?_⟩;by_cases r:d=st/\f=y
  .obtain⟨rfl,rfl⟩:=r;obtain rfl:=au (l.symm.trans hb);rw[Q];exact p.wrote q aA a1 a2
  .rw[P _ _ r];exact p.eW q K (by intro e;injection e with l p;exact r ⟨l,p⟩)
 .intro t e;exact(h.jt t e).wrote q K (by simp)
 .intro d f j c L x l p z H;have N:f<s.G d:=by
   rcases am f (s.G d)with aB|aB
   .exact aB
   .exact absurd ((h.jd d f aB).symm.trans z) bR
  obtain⟨ad,R,ab⟩:=h.loc d f N;obtain rfl:=au (R.symm.trans z);by_cases r:d=st/\f=y
  .obtain⟨rfl,rfl⟩:=r;obtain rfl:=au (R.symm.trans hb);rw[Q,kD _ _ _ _ aA]at p;simp only[St.hZ,l9,oU,bQ,uc]at l;by_cases ac:off<=j/\j<off+vs.length
   .simp[ac]at l
   .rw[an ac]at l p;rw[q.same _ j (λr=>ac (by omega))]at H;exact(h.gD d f j c _ x l p z H).wrote q K (by simp)
  .rw[P _ _ r]at p;simp only[St.hZ,l9,an r]at l;rw[eW q K (ab.bL j (bZ p)) (by intro e;injection e with l p;exact r ⟨l,p⟩)]at H;exact(h.gD d f j c _ x l p z H).wrote q K (by simp)
 .intro t u e;exact h.jX t u (fE e).1
 .intro t d f j e;obtain⟨l,p⟩:=fE e;obtain⟨N,a4⟩:=h.gF t d f j l;refine⟨N,λL z=>?_⟩;obtain⟨aD,aC⟩:=a4 L z;obtain⟨ad,R,ab⟩:=h.loc d f N;obtain rfl:=au (R.symm.trans z);by_cases r:d=st/\f=y
  .obtain⟨rfl,rfl⟩:=r;obtain rfl:=au (R.symm.trans hb);have ac:¬(off<=j/\j<off+vs.length):=by simp[Mr]at p;omega
   rw[Q,kD _ _ _ _ aA,an ac,q.same _ j (λr=>ac (by omega))];exact⟨aD,aC⟩
  .rw[P _ _ r,eW q K (ab.bL j (bZ aC)) (by intro e;injection e with l p;exact r ⟨l,p⟩)];exact⟨aD,aC⟩
 .intro t id j e;obtain⟨cells,l,p,z⟩:=h.ib t id j (fE e).1;refine⟨cells,l,p,λL H=>?_⟩;obtain⟨ad,R,ab⟩:=h.heap.box id cells l;obtain rfl:=au (R.symm.trans H);rw[eW q K (ab.bL j (bZ p)) bR];exact z ad H
def Rel.jY(h:Rel GL g s a w){id:Nat}{cells vs:List V}(ac:s.E.box id=some cells)(hb:g.hb id=some b)(ad:off+vs.length<=cells.length)(aD:xs.length=vs.length)
 (a0:∀(k:Nat) v x,vs[k]?=some v->xs[k]?=some x->v.one=true/\VR g v x) (r:oP w w' b off xs):Rel GL g (s.jY id off cells vs) a w':=by
 obtain⟨aB,h1,dZ⟩:=h.heap.box id cells ac;obtain rfl:=au (h1.symm.trans hb);have K:∀k,k<xs.length->g.bL aB (off+k)=.dZ id:=λk a5=>dZ.bL _ (by omega);refine {size:=h.size,gj:=h.gj.mono λD p f=>⟨p,r.map D _ rfl f⟩,Z:=h.Z,gA:=h.gA.wrote r K (by simp),heap:=?_,loc:=?_,jd:=h.jd,jt:=?_,gD:=?_,jX:=?_,gF:=?_,ib:=?_}
 .refine⟨λl d e=>?_,λl d j c L x p f q H Q=>?_,λl kvs e=>let⟨L,o,p,f,q,H,Q⟩:=h.heap.map l kvs e;⟨L,o,p,f,r.map _ _ H q,H,Q⟩,h.heap.Y⟩
  .simp only[St.jY,aJ.set,eR]at e;split at e
   next dV=>subst dV;obtain rfl:=au e;exact⟨aB,hb,dZ.wrote r ad aD a0⟩
   next dV=>obtain⟨L,p,f⟩:=h.heap.box l d e;exact⟨L,p,f.eW r K (by intro e;injection e with e;exact dV e)⟩
  .simp only[St.jY,aJ.set,eR]at p f;by_cases dV:l=id
   .subst dV;simp only[bQ]at p f;obtain rfl:=au p;obtain rfl:=au (H.symm.trans hb);rw[kD _ _ _ _ ad]at q;simp only[uc]at f;by_cases ab:off<=j/\j<off+vs.length
    .simp[ab]at f
    .rw[an ab]at f q;rw[r.same _ j (λa1=>ab (by omega))]at Q;exact(h.heap.tail l cells j c _ x ac f q H Q).wrote r K (by simp)
   .rw[an dV]at p f;obtain⟨ai,N,R⟩:=h.heap.box l d p;obtain rfl:=au (N.symm.trans H);rw[eW r K (R.bL j (bZ q)) (by intro e;injection e with e;exact dV e)]at Q;exact(h.heap.tail l d j c _ x p f q H Q).wrote r K (by simp)
 .intro y z P;obtain⟨L,p,f⟩:=h.loc y z P;exact⟨L,p,f.eW r K (by simp)⟩
 .intro t e;exact(h.jt t e).wrote r K (by simp)
 .intro y z j c L x p f q H;have P:z<s.G y:=by
   rcases am z (s.G y)with aA|aA
   .exact aA
   .exact absurd ((h.jd y z aA).symm.trans q) bR
  obtain⟨ai,N,R⟩:=h.loc y z P;obtain rfl:=au (N.symm.trans q);rw[eW r K (R.bL j (bZ f)) (by simp)]at H;exact(h.gD y z j c _ x p f q H).wrote r K (by simp)
 .intro t u e;exact h.jX t u (fE e).1
 .intro t y z j e;obtain⟨P,a2⟩:=h.gF t y z j (fE e).1;refine⟨P,λL q=>?_⟩;obtain⟨a3,aC⟩:=a2 L q;obtain⟨ai,N,R⟩:=h.loc y z P;cases (N.symm.trans q);exact⟨by rw[eW r K (R.bL j (bZ aC)) bR];exact a3,aC⟩
 .intro t l j e;obtain⟨p,f⟩:=fE e;obtain⟨d,q,H,Q⟩:=h.ib t l j p;by_cases dV:l=id
  .subst dV;obtain rfl:=au (q.symm.trans ac);have ab:¬(off<=j/\j<off+vs.length):=by simp[zB]at f;omega
   refine⟨aO d off vs,by simp[St.jY,aJ.set,eR],by rw[kD _ _ _ _ ad,an ab];exact H,λL N=>?_⟩;obtain rfl:=au (N.symm.trans hb);rw[r.same _ j (λa1=>ab (by omega))];exact Q _ N
  .refine⟨d,by simp[St.jY,aJ.set,eR,dV,q],H,λL N=>?_⟩;obtain⟨ai,R,a4⟩:=h.heap.box l d q;obtain rfl:=au (R.symm.trans N);rw[eW r K (a4.bL j (bZ H)) (by intro e;injection e with e;exact dV e)];exact Q _ N
end
end
section
variable {GL:Nat->Option (List V)}{P:Program}
def Ah{x:Value}{v:V}(h:zA x=some v)(g:aW):VR g v x/\v.one=true:=by
 unfold zA at h;split at h<;>first
  |(cases h;done)
  |(cases h;exact⟨by constructor,rfl⟩)
  |(
   rename_i s;cases h;refine⟨?_,rfl⟩;have:=VR.str (g:=g) s.data.toList;simpa using this)
def ud:∀{xs:List Value} {vs:List V},qz xs=some vs->vs.length=xs.length/\∀(g:aW)(j:Nat) c x,vs[j]?=some c->xs[j]?=some x->VR g c x/\c.one=true
 |[],vs,h=>by simp[qz]at h;subst h;exact⟨rfl,bR⟩
 |x::xs,vs,h=>by
  simp only[qz]at h;split at h
  next v q f l=>
   cases h;obtain⟨o,p⟩:=ud l;refine⟨by simp[o],λg j c y a d=>?_⟩;cases j with
   |zero=>simp at a d;subst a d;exact Ah f g
   |succ j=>simp at a d;exact p g j c y a d
  .cases h
def VR.fb{g:aW}{v:V}{x:Value}(h:VR g v x):ER g v x:=by
 cases v<;>first|exact h|(cases h;done)
def ER.oh{g:aW}{v:V}{x:Value}(h:ER g v x)(d:∀a b c,v≠.A a b c):VR g v x:=by
 cases v<;>first
  |exact h
  |exact absurd rfl (d _ _ _)
def CR{x:Value}{v:V}(h:Ad x=some v)(g:aW):VR g v x:=by
 unfold Ad at h;split at h
 next cs=>
  cases e:qz cs.toList with
  |none=>simp[e]at h
  |some o=>
   simp[e]at h;subst h;obtain⟨a,d⟩:=ud e;refine .agg o cs (by simp[a]) (λj c f=>?_) (λj c y p q=>(d g j c y p (by simpa using q)).1);have l:j<cs.toList.length:=by rw[<-a];exact bZ f
   exact(d g j c cs.toList[j] f (by simp[l])).2
 .exact(Ah h g).1
def eC(GL:ak):Operand->Option eO
 |.tmp t=>some (.tmp t)
 |.const v=>(Ad v).map .const
 |.global n=>(GL n).map .kn
 |.func f=>some (.const (.fn f []))
def cv{g:aW}{s:St}{a:Act}{w:World}(R:Rel GL g s a w){x:Operand}{y:eO}(h:eC GL x=some y):ER g (s.val y) (a.eval x):=by
 cases x with
 |tmp t=>cases h;exact R.Z t
 |const v=>
  cases e:Ad v with
  |none=>simp[eC,e]at h
  |some c=>simp[eC,e]at h;subst h;exact(CR e g).fb
 |global n=>
  cases e:GL n with
  |none=>simp[eC,e]at h
  |some c=>simp[eC,e]at h;subst h;exact(R.gA.kn n c e).fb
 |func f=>
  cases h;exact VR.fb (.fn f [] #[] rfl bR)
def yr(GL:ak):List Operand->Option (List eO)
 |[]=>some []
 |x::r=>match eC GL x,yr GL r with
  |some y,some l=>some (y::l)
  |_,_=>none
def Ai{g:aW}{s:St}{a:Act}{w:World}(R:Rel GL g s a w):∀{xs:List Operand} {ys:List eO},yr GL xs=some ys->ys.length=xs.length/\
 ∀(j:Nat) y x,ys[j]?=some y->xs[j]?=some x->ER g (s.val y) (a.eval x)
 |[],ys,h=>by simp[yr]at h;subst h;exact⟨rfl,bR⟩
 |x::xs,ys,h=>by
  simp only[yr]at h;split at h
  next y l o p=>
   cases h;obtain⟨q,r⟩:=Ai R p;refine⟨by simp[q],λj c z d f=>?_⟩;cases j with
   |zero=>simp at d f;subst d f;exact cv R o
   |succ j=>simp at d f;exact r j c z d f
  .cases h
section inv
variable {g:aW}{x:Value}
def ER.int{k n}(h:ER g (.int k n) x):x=.int k n:=by cases h;rfl
def ER.bool{b}(h:ER g (.bool b) x):x=.bool b:=by cases h;rfl
def ER.str{l}(h:ER g (.str l) x):x=.string ⟨l.toArray⟩:=by cases h;rfl
def ER.aP(h:ER g .aP x):x=.slice none 0 0:=by cases h;rfl
def ER.k1(h:ER g .k1 x):x=.pointer none:=by cases h;rfl
def ER.bp{i o}(h:ER g (.bp i o) x):∃b,g.hb i=some b/\x=.pointer (some ⟨b,o,none⟩):=by
 cases h with|bp _ _ b e=>exact⟨b,e,rfl⟩
def ER.agg{cs}(h:ER g (.agg cs) x):∃xs:Array Value,x=.agg xs/\xs.size=cs.length/\(∀(j:Nat) c,cs[j]?=some c->c.one=true)/\
 ∀(j:Nat) c y,cs[j]?=some c->xs[j]?=some y->VR g c y:=by
 cases h with|agg _ xs a d f=>exact⟨xs,rfl,a,d,f⟩
def ER.hE{vs}(h:ER g (.hE vs) x):∃xs:Array Value,x=.tuple xs/\xs.size=vs.length/\∀(j:Nat) c y,vs[j]?=some c->xs[j]?=some y->VR g c y:=by
 cases h with|hE _ xs a d=>exact⟨xs,rfl,a,d⟩
def ER.ep{cells}(h:ER g (.ep cells) x):∃(a:Addr)(ys:Nat->Value),x=.pointer (some a)/\a.spot=none/\(∀k,k<cells.length->g.bL a.block (a.off+k)=.gZ (ys k))/\
 (∀(j:Nat) c,cells[j]?=some c->c.one=true)/\∀(j:Nat) c,cells[j]?=some c->VR g c (ys j):=by
 cases h with|ep _ a ys d f l o=>exact⟨a,ys,rfl,d,f,l,o⟩
def ER.ms{sz id off len cap}(h:ER g (.ms sz id off len cap) x):(∃b,g.hb id=some b/\x=.slice (some ⟨b,off,none⟩) len cap/\len<=cap)\/(len=0/\cap=0/\∃p,x=.slice p 0 0/\∀a:Addr,p=some a->a.spot=none):=by
 cases h with
 |ms _ _ _ _ _ b h d=>exact .inl ⟨b,h,rfl,d⟩
 |Fj _ _ _ p E=>exact .inr ⟨rfl,rfl,p,rfl,E⟩
def ER.sl{sz xs}(h:ER g (.sl sz xs) x):(xs=[]/\x=.slice none 0 0)\/∃(a:Addr)(cap:Nat)(ys:Nat->Value),x=.slice (some a) xs.length cap/\a.spot=none/\xs.length<=cap/\
 (∀(i:Nat) v,xs[i]?=some v->v.cells.length=sz)/\(∀k,k<xs.length*sz->g.bL a.block (a.off+k)=.gZ (ys k))/\
 (∀(i:Nat) v (j:Nat) c,xs[i]?=some v->v.cells[j]?=some c->c.one=true)/\
 ∀(i:Nat) v (j:Nat) c,xs[i]?=some v->v.cells[j]?=some c->VR g c (ys (i*sz+j)):=by
 cases h with
 |slnil=>exact .inl ⟨rfl,rfl⟩
 |sl _ _ a cap ys d f l o p q=>exact .inr ⟨a,cap,ys,rfl,d,f,l,o,p,q⟩
end inv
def add_eq{a:Addr}(h:a.spot=none)(n:Nat):a.add n=cl a.block (a.off+n):=by
 unfold Addr.add cl;split
 next d=>subst d;cases a;simp at h;simp[h]
 .rfl
def vU{g:aW}{s:St}{a:Act}{w:World}(R:Rel GL g s a w){v:V}{x:Value}{cs:List V}(hx:ER g v x)(h:s.iN v=some cs):
 ∃(d:Addr)(ys:Nat->Value),x=.pointer (some d)/\d.spot=none/\(∀k,k<cs.length->w.cell? (cl d.block (d.off+k))=some (ys k))/\
  (∀(j:Nat) c,cs[j]?=some c->c.one=true)/\∀(j:Nat) c,cs[j]?=some c->VR g c (ys j):=by
 have box:∀{b:Nat} {ow:eX} {cells:List V} {off:Nat},fP g w b ow cells->off<=cells.length->
  ∃ys:Nat->Value,(∀k,k< (cells.drop off).length->w.cell? (cl b (off+k))=some (ys k))/\
  (∀(j:Nat) c,(cells.drop off)[j]?=some c->c.one=true)/\∀(j:Nat) c,(cells.drop off)[j]?=some c->VR g c (ys j):=by
  intro b ow cells off hb TR;refine⟨λk=>(w.cell? (cl b (off+k))).getD undef,λk l=>?_,λj c f=>?_,λj c f=>?_⟩
  .simp at l;obtain⟨_,y,h2,_⟩:=hb.cell (off+k) cells[off+k] bR;simp[h2]
  .rw[c0]at f;exact(hb.cell _ _ f).1
  .rw[c0]at f;obtain⟨_,y,h2,o⟩:=hb.cell _ _ f;simpa[h2]using o
 unfold St.iN at h;split at h
 next st p off=>
  split at h
  next q=>
   split at h
   next TR=>cases h;obtain⟨b,e1,e2⟩:=hx;obtain⟨r,h1,h2⟩:=R.loc st p q;exact WR
   .cases h
  .cases h
 next id off=>
  split at h
  next cells t=>
   split at h
   next TR=>cases h;obtain⟨b,e1,e2⟩:=hx.bp;obtain⟨r,h1,h2⟩:=R.heap.box id cells t;exact WR
   .cases h
  .cases h
 next cells=>cases h;obtain⟨d,ys,e1,e2,u,z,D⟩:=hx.ep;exact⟨d,ys,e1,e2,λk l=>R.gA.gZ _ _ _ (u k l),z,D⟩
 .cases h
end
section
variable {GL:Nat->Option (List V)}{P:Program}
def fq(P:Program)(t:TypeId):Option Bool:=
 match P.underlying t with
 |some (.struct _)=>some true
 |some (.array _ _)=>some true
 |some _=>some false
 |none=>none
def nk(P:Program)(t:TypeId):Option Nat:=(P.info? t).map (·.size)
def nu{t:TypeId}{g:Bool}(h:fq P t=some g)(w:World):(isAgg t).run P w=.ok g w:=by
 unfold fq at h;cases a:P.underlying t with
 |none=>simp[a]at h
 |some d=>cases d<;>simp[a]at h<;>subst h<;>simp[isAgg,run_underlying a]
def fj{t:TypeId}{n:Nat}(h:nk P t=some n)(w:World):(sizeOf t).run P w=.ok n w:=by
 unfold nk at h;cases a:P.info? t with
 |none=>simp[a]at h
 |some i=>
  simp[a]at h;subst h;simp[sizeOf,typeInfo,a]
def lK{t:TypeId}{z:Value}(h:(P.info? t).bind (·.zero)=some z)(w:World):(zeroValue t).run P w=.ok z w:=by
 cases a:P.info? t with
 |none=>simp[a]at h
 |some i=>
  simp[a]at h;simp[zeroValue,typeInfo,a,h]
def D6{cs:List V}{g:aW}{ys:Nat->Value}(n:Nat)(o:n<=cs.length)(f:∀(j:Nat) c,cs[j]?=some c->c.one=true)(l:∀(j:Nat) c,cs[j]?=some c->VR g c (ys j)):
 VR g (.agg (cs.take n)) (.agg ((List.range n).map ys).toArray):=by
 refine .agg _ _ (by simp;omega) (λj c a=>?_) (λj c x a hx=>?_)
 .rw[dA]at a;split at a
  .exact f j c a
  .cases a
 .rw[dA]at a;split at a
  next d=>simp[d]at hx;subst hx;exact l j c a
  .cases a
def yt{g:aW}{s:St}{a:Act}{w:World}(R:Rel GL g s a w){t:TypeId}{ag:Bool}{n:Nat}{addr:eO}{x:Value}{v:V}
 (r:fq P t=some ag) (D:nk P t=some n) (hx:ER g (s.val addr) x) (E:dw s (.load ag n addr)=some v):
 ∃y,(Instr.loadAt t x).run P w=.ok y w/\ER g v y:=by
 cases ag with
 |true=>
  simp only[dw]at E;split at E
  next cs f=>
   split at E
   next hle=>cases E;obtain⟨d,j,rfl,l,o,u,p⟩:=vU R hx f;refine⟨.agg ((List.range n).map j).toArray,?_,(D6 n hle u p).fb⟩;simp only[Instr.loadAt,Instr.sureAddr,loadVar,Sem.run_bind,Sem.run_pure,Result.andThen_ok,nu r,bQ,fj D];rw[run_loadCells P n w d j l (λk H=>o k av)];rfl
   .cases E
  .cases E
 |false=>
  simp only[dw]at E;split at E
  next c rest f=>
   obtain rfl:=au E;obtain⟨d,j,rfl,l,o,u,p⟩:=vU R hx f;refine⟨j 0,?_,(p 0 c (by simp)).fb⟩;have q:=o 0 bR;rw[dj]at q;have z:d=cl d.block d.off:=by cases d;simp at l;simp[cl,l]
   rw[<-z]at q;simp[Instr.loadAt,Instr.sureAddr,loadVar,nu r,q]
  .cases E
def Aj{g:aW}{s:St}{fs:Array Field}{t:TypeId}{f:Field}{i n:Nat}{x:Value}{v:V}{r:eO}{w:World}
 (u:P.underlying t=some (.struct fs)) (z:fs[i]?=some f) (D:nk P f.type=some (n+1)) (hx:ER g (s.val r) x) (E:dw s (.fieldAddr f.offset r)=some v):
 ∃y,(Instr.fieldAt t x i).run P w=.ok y w/\ER g v y:=by
 simp only[dw]at E;have run:∀a:Addr,a.spot=none->(Instr.fieldAt t (.pointer (some a)) i).run P w=.ok (.pointer (some (cl a.block (a.off+f.offset)))) w:=by
  intro a p;simp[Instr.fieldAt,Instr.sureAddr,fieldPlace,run_underlying u,z,fj D,add_eq p]
 split at E
 next st R o d=>cases E;rw[d]at hx;obtain⟨b,q,rfl⟩:=hx;exact⟨_,run _ rfl,b,q,rfl⟩
 next id o d=>cases E;rw[d]at hx;obtain⟨b,q,rfl⟩:=hx.bp;exact⟨_,run _ rfl,(VR.bp id _ b q).fb⟩
 next cells d=>
  split at E
  next hle=>
   cases E;rw[d]at hx;obtain⟨a,H,rfl,p,K,L,N⟩:=hx.ep;refine⟨_,run a p,VR.fb (.ep _ _ (λk=>H (f.offset+k)) rfl (λk Q=>?_) (λj c l=>?_) (λj c l=>?_))⟩
   .simp at Q;have:=K (f.offset+k) av;simpa[cl,cn]using this
   .rw[c0]at l;exact L _ _ l
   .rw[c0]at l;exact N _ _ l
  .cases E
 .cases E
def mW{g:aW}{v:V}{k:Nat}{x:Value}(h:idxOf v=some k)(hx:ER g v x):∃a,x=.int a k:=by
 cases v<;>simp only[idxOf]at h<;>first
  |(cases h;done)
  |skip
 rename_i a n;split at h
 next d=>cases h;obtain rfl:=hx.int;exact⟨a,by rw[oJ d]⟩
 .cases h
def Ak{g:aW}{s:St}{t e:TypeId}{sz:Nat}{x i:Value}{v:V}{r io:eO}{w:World}
 (u:P.underlying t=some (.slice e)) (z:nk P e=some sz) (hx:ER g (s.val r) x) (D:ER g (s.val io) i) (E:dw s (.sv sz r io)=some v):
 ∃y,(Instr.indexAt t x i).run P w=.ok y w/\ER g v y:=by
 simp only[dw]at E;split at E
 next H o k p q=>
  split at E
  next K=>
   subst K;cases d:o[k]? with
   |none=>simp[d]at E
   |some el=>
    simp[d]at E;subst E;have f:=bZ d;rw[p]at hx;obtain⟨R,rfl⟩:=mW q D;rcases hx.sl with⟨rfl,rfl⟩|⟨L,cap,ab,rfl,ac,ad,ai,N,aA,aB⟩
    .simp at f
    .have aD:=ai k el d;have hb:k*sz+sz<=o.length*sz:=by
      have:(k+1)*sz<=o.length*sz:=cj _ f
      rwa [dH]at this
     refine⟨.pointer (some (cl L.block (L.off+k*sz))),?_,VR.fb (.ep _ _ (λj=>ab (k*sz+j)) rfl (λj l=>?_) (λj c l=>aA k el j c d l) (λj c l=>aB k el j c d l))⟩
     .simp only[Instr.indexAt,asIntOf,Sem.run_bind,Sem.run_pure,Result.andThen_ok,run_underlying u];rw[ax ⟨av,by exact_mod_cast f⟩];simp[fj z,add_eq ac]
     .have:=N (k*sz+j) av;simpa[cl,cn]using this
  .cases E
 next H id off n c k p q=>
  split at E
  next aC=>
   obtain⟨rfl,Q⟩:=aC;cases E;rw[p]at hx;obtain⟨R,rfl⟩:=mW q D;rcases hx.ms with⟨b,hb,rfl,a0⟩|⟨a1,_⟩
   .refine⟨.pointer (some (cl b (off+k*sz))),?_,VR.fb (.bp _ _ b hb)⟩;simp only[Instr.indexAt,asIntOf,Sem.run_bind,Sem.run_pure,Result.andThen_ok,run_underlying u];rw[ax ⟨av,by exact_mod_cast Q⟩];simp[fj z,add_eq (a:=⟨b,off,none⟩) rfl]
   .omega
  .cases E
 .cases E
def uf(l:List UInt8):(⟨l.toArray⟩:ByteArray).toList=l:=by
 rw[ByteArray.toList_eq]
def z6{g:aW}{op:BinOp}{t:TypeId}{vx vy v:V}{x y:Value}{d f:Operand}{w:World}(hx:ER g vx x)(l:ER g vy y)(h:oe op vx vy=some v):
 ∃z,(do eqGuard op t d f x y;binOp op t x y:Sem Value).run P w=.ok z w/\ER g v z:=by
 unfold oe at h;split at h
 next k n o m=>
  obtain rfl:=hx.int;obtain rfl:=l.int;have j:(eqGuard op t d f (.int k n) (.int o m)).run P w=.ok () w:=by cases op<;>simp[eqGuard]
  simp only[Sem.run_bind,j,Result.andThen_ok];split at h
  .exact WL
  .exact WL
  next p q=>
   split at h
   next r=>
    subst r;cases op<;>simp only[Mo]at h<;>first
     |(cases h;done)
     |(cases h;exact⟨_,by simp[binOp,Op.intArith,Op.intBits,Op.intCmp],VR.fb (.int _ _)⟩)
     |(cases h;exact⟨_,by simp[binOp,Op.intArith,Op.intBits,Op.intCmp],VR.fb (.bool _)⟩)
     |(
      split at h
      .cases h
      next u=>cases h;exact⟨_,by simp[binOp,Op.intDiv,u],VR.fb (.int _ _)⟩)
   .cases h
 next a b=>
  obtain rfl:=hx.str;obtain rfl:=l.str;have j:(eqGuard op t d f (.string ⟨a.toArray⟩) (.string ⟨b.toArray⟩)).run P w=.ok () w:=by cases op<;>simp[eqGuard]
  simp only[Sem.run_bind,j,Result.andThen_ok];cases op<;>simp only[Tc]at h<;>first
   |(cases h;done)
   |(cases h;exact⟨_,by simp[binOp,Op.stringOp,uf],VR.fb (.bool _)⟩)
   |(
    split at h
    next hle=>
     cases h;refine⟨.string ⟨(a++b).toArray⟩,?_,VR.fb (.str _)⟩;have e:¬(((⟨a.toArray⟩:ByteArray).size+(⟨b.toArray⟩:ByteArray).size:Nat):Int)>IntKind.i64.max:=by
      have:IntKind.i64.max=9223372036854775807:=dt;rw[this];simp[ByteArray.size];omega
     simp only[binOp,Op.stringOp,an e,Sem.run_pure];congr 2
    .cases h)
 .cases h
end
section
variable {GL:Nat->Option (List V)}{P:Program}
def oY{t:TypeId}{x y:Value}{a d:Operand}{r:Bool}{w:World}(neg:Bool)(j:(eqGuard (if neg then .neq else .eql) t a d x y).run P w=.ok () w)
 (l:binOp .eql t x y=(do pure (.bool (<-Op.equal t x y)))) (h2:binOp .neq t x y=(do pure (.bool (!(<-Op.equal t x y))))) (h:(Op.equalIn (9999+1) t x y).run P w=.ok r w):
 (do eqGuard (if neg then .neq else .eql) t a d x y;binOp (if neg then .neq else .eql) t x y:Sem Value).run P w=.ok (.bool (if neg then !r else r)) w:=by
 have f:(Op.equal t x y).run P w=.ok r w:=h;rw[Sem.run_bind,j,Result.andThen_ok];cases neg
 .simp only[bM,cE];rw[l,Sem.run_bind,f];rfl
 .simp only[bQ];rw[h2,Sem.run_bind,f];rfl
def tu(d:Nat)(t e:TypeId)(a:Option Addr)(w:World)(f:P.underlying t=some (.pointer e)):(Op.equalIn (d+1) t (.pointer none) (.pointer a)).run P w=.ok a.isNone w:=by
 simp[Op.equalIn,run_underlying f]
def xL(d:Nat)(t e:TypeId)(a:Addr)(w:World)(f:P.underlying t=some (.pointer e)):(Op.equalIn (d+1) t (.pointer (some a)) (.pointer none)).run P w=.ok false w:=by
 simp[Op.equalIn,run_underlying f]
def Hj{g:aW}{neg:Bool}{t:TypeId}{s:St}{v:V}{x y:Value}{j l:Operand}{d bo:eO}{w:World}(o:P.underlying t=some .bool)(hx:ER g (s.val d) x)(f:ER g (s.val bo) y)
 (h:dw s (.V8 neg d bo)=some v):∃z,(do eqGuard (if neg then .neq else .eql) t j l x y;binOp (if neg then .neq else .eql) t x y:Sem Value).run P w=.ok z w/\ER g v z:=by
 simp only[dw]at h;split at h
 next a b p hb=>rw[p]at hx;rw[hb]at f;obtain rfl:=hx.bool;obtain rfl:=f.bool;cases h;exact⟨_,oY neg (by cases neg<;>simp[eqGuard]) rfl rfl (run_equalIn_bool' w 9999 t a b o),VR.fb (.bool _)⟩
 .cases h
def u1{g:aW}{v:V}{x:Value}{b:Bool}(h:xK v=some b)(hx:ER g v x):∃a:Option Addr,x=.pointer a/\a.isNone=b:=by
 cases v<;>simp only[xK]at h<;>first
  |(cases h;done)
  |(obtain rfl:=au h)
 .exact⟨none,hx.k1,rfl⟩
 .obtain⟨b,_,rfl⟩:=hx;exact⟨_,rfl,rfl⟩
 .obtain⟨b,_,rfl⟩:=hx.bp;exact⟨_,rfl,rfl⟩
 .obtain⟨a,_,rfl,_⟩:=hx.ep;exact⟨_,rfl,rfl⟩
def Hk{g:aW}{neg:Bool}{t e:TypeId}{s:St}{v:V}{x y:Value}{u D:Operand}{q bo:eO}{w:World}(f:P.underlying t=some (.pointer e))(hx:ER g (s.val q) x)(r:ER g (s.val bo) y)
 (h:dw s (.V9 neg q bo)=some v):∃z,(do eqGuard (if neg then .neq else .eql) t u D x y;binOp (if neg then .neq else .eql) t x y:Sem Value).run P w=.ok z w/\ER g v z:=by
 simp only[dw]at h;split at h
 next b j hb=>
  obtain⟨l,rfl,d⟩:=u1 j hx;obtain⟨o,rfl,p⟩:=u1 hb r;cases h;cases l with
  |some a=>simp at d
  |none=>
   subst p;exact⟨_,oY neg (by cases neg<;>simp[eqGuard]) rfl rfl (tu 9999 t e o w f),VR.fb (.bool _)⟩
 next b H j hb=>
  obtain⟨l,rfl,d⟩:=u1 j hx;obtain⟨o,rfl,p⟩:=u1 hb r;cases h;cases o with
  |some a=>simp at p
  |none=>
   cases l with
   |none=>
    simp at d;subst d;exact⟨_,oY neg (by cases neg<;>simp[eqGuard]) rfl rfl (tu 9999 t e none w f),VR.fb (.bool _)⟩
   |some a=>
    simp at d;subst d;exact⟨_,oY neg (by cases neg<;>simp[eqGuard]) rfl rfl (xL 9999 t e a w f),VR.fb (.bool _)⟩
 .cases h
def gG(P:Program):Nat->TypeId->Option (List CK)
 |0,_=>none
 |d+1,t=>match P.underlying t with
  |some (.int _)=>if nk P t=some 1 then some [.i]else none
  |some .bool=>if nk P t=some 1 then some [.b]else none
  |some .string=>if nk P t=some 1 then some [.s]else none
  |some (.struct j)=>if P.stoodInHeld t=false/\nk P t≠none then
   (l6 (gG P d) j.toList []).bind λa=>if nk P t=some a.length then some a else none
   else none
  |some (.array len e)=>(gG P d e).bind λa=>if nk P t=some (len*a.length)/\nk P e=some a.length then some (List.replicate len a).flatten else none
  |_=>none
where
 l6 (f:TypeId->Option (List CK)):List Field->List CK->Option (List CK)
  |[],acc=>some acc
  |x::r,acc=>match f x.type with
   |some a=>if x.offset=acc.length/\x.name≠ "_" then l6 f r (acc++a)else none
   |none=>none
def yu:∀{d:List CK} {a c:List V} {t:Bool},dJ d a c=some t->a.length=d.length/\c.length=d.length
 |[],[],[],_,_=>⟨rfl,rfl⟩
 |k::d,x::a,y::c,t,h=>by
  simp only[dJ]at h;split at h
  next p q j f=>have:=yu f;simp[this.1,this.2]
  .cases h
 |[],_::_,_,_,h=>by simp[dJ]at h
 |[],[],_::_,_,h=>by simp[dJ]at h
 |_::_,[],_,_,h=>by simp[dJ]at h
 |_::_,_::_,[],_,h=>by simp[dJ]at h
def qB:∀{k l:List CK} {a c:List V} {t:Bool},dJ (k++l) a c=some t->
 ∃p q,dJ k (a.take k.length) (c.take k.length)=some p/\dJ l (a.drop k.length) (c.drop k.length)=some q/\t=(p&&q)
 |[],l,a,c,t,h=>⟨true,t,by simp[dJ],by simpa using h,bR⟩
 |k::D,l,x::a,y::c,t,h=>by
  simp only[aZ,dJ]at h;split at h
  next p q d f=>obtain⟨j,o,r,u,z⟩:=qB f;refine⟨p&&j,o,by simp[dJ,d,r],by simpa using u,?_⟩;cases h;rw[z,mE]
  .cases h
 |_::_,_,[],_,_,h=>by simp[dJ]at h
 |_::_,_,_::_,[],_,h=>by simp[dJ]at h
def fK(g:aW)(cs:List V)(xs:List Value):Prop:=cs.length=xs.length/\∀(j:Nat) c x,cs[j]?=some c->xs[j]?=some x->VR g c x
def fK.take{g:aW}{cs:List V}{xs:List Value}(h:fK g cs xs)(n:Nat):fK g (cs.take n) (xs.take n):=by
 refine⟨by simp[h.1],λj c x a d=>?_⟩;rw[dA]at a d;split at a
 next f=>simp only[f,bQ]at d;exact h.2 _ _ _ a d
 .cases a
def fK.drop{g:aW}{cs:List V}{xs:List Value}(h:fK g cs xs)(n:Nat):fK g (cs.drop n) (xs.drop n):=by
 refine⟨by simp[h.1],λj c x a d=>?_⟩;rw[c0]at a d;exact h.2 _ _ _ a d
def xM(P:Program)(t:TypeId)(xs:List Value):Value:=if fq P t=some true then .agg xs.toArray else xs.headD undef
def rY{t:TypeId}{n off:Nat}{xs:Array Value}{ag:Bool}(w:World)(a:fq P t=some ag)(d:nk P t=some n)(f:ag=false->n=1)(j:off+n<=xs.size):
 (part t xs off).run P w=.ok (xM P t ((xs.toList.drop off).take n)) w:=by
 cases ag with
 |true=>
  simp only[part,Sem.run_bind,nu a,Result.andThen_ok,bQ,fj d,Sem.run_pure,xM,a];congr 2;apply jG;simp[Array.toList_extract]
 |false=>
  have:=f rfl;subst this;have hx:xs[off]?=some xs[off]:=bR;simp only[part,Sem.run_bind,nu a,Result.andThen_ok,bM,cE,hx,Sem.run_pure,xM,a];congr 1;rw[bI (by simp;omega)];simp
def vV{d:Nat}{t:TypeId}{a:List CK}(h:gG P d t=some a):∃ag,fq P t=some ag/\nk P t=some a.length/\(ag=false->a.length=1):=by
 cases d with
 |zero=>simp[gG]at h
 |succ d=>
  unfold gG at h;unfold fq;split at h<;>(try rename_i j)<;>(try simp only[j])
  .exact TO
  .exact TO
  .exact TO
  .split at h
   next l _=>
    cases e:gG.l6 (gG P d) l.toList []with
    |none=>simp[e]at h
    |some f=>
     simp only[e,gw]at h;split at h
     .cases h;exact⟨true,rfl,by assumption,bR⟩
     .cases h
   .cases h
  next len el=>
   cases e:gG P d el with
   |none=>simp[e]at h
   |some f=>
    simp only[e,gw]at h;split at h
    next o=>cases h;exact⟨true,rfl,by rw[o.1];simp,bR⟩
    .cases h
  .cases h
def oi{k:CK}{a b:V}{r:Bool}(h:dJ [k] [a] [b]=some r):oV k a b=some r:=by
 simp only[dJ]at h;split at h
 next x y d f=>cases f;rw[d];simpa using h
 .cases h
def fK.one{g:aW}{c:V}{xs:List Value}(h:fK g [c] xs):∃x,xs=[x]/\VR g c x:=by
 obtain⟨a,d⟩:=h
 match xs,a with
 |[x],_=>exact⟨x,rfl,d 0 c x rfl rfl⟩
def tv{g:aW}(w:World)(d:Nat):∀(D:Nat)(t:TypeId)(a4:List CK),gG P d t=some a4->d<=D->∀(cs ds:List V)(xs ys:List Value)(r:Bool),fK g cs xs->fK g ds ys->dJ a4 cs ds=some r->(Op.equalIn D t (xM P t xs) (xM P t ys)).run P w=.ok r w:=by
 induction d with
 |zero=>intro D t a4 h;simp[gG]at h
 |succ d ih=>
  intro D t a4 h ch cs ds xs ys r hx ai a0;obtain⟨D,rfl⟩:∃b7,D=b7+1:=⟨D-1,av⟩;obtain⟨R,ab⟩:=yu a0;unfold gG at h;split at h
  next k z=>
   split at h
   .cases h
    match cs,R,ds,ab with
    |[c],_,[a1],_=>
     obtain⟨x,rfl,ac⟩:=hx.one;obtain⟨y,rfl,ad⟩:=ai.one;have N:fq P t≠some true:=by simp[fq,z]
     simp only[xM,an N,nY];have j:=oi a0;cases c<;>simp only[oV]at j<;>first|(cases j;done)|skip
     cases a1<;>simp only at j<;>first|(cases j;done)|skip
     split at j
     next ca=>subst ca;cases j;obtain rfl:=ac.fb.int;obtain rfl:=ad.fb.int;exact run_equalIn_int w D t _ k _ _ z
     .cases j
   .cases h
  next z=>
   split at h
   .cases h
    match cs,R,ds,ab with
    |[c],_,[a1],_=>
     obtain⟨x,rfl,ac⟩:=hx.one;obtain⟨y,rfl,ad⟩:=ai.one;have N:fq P t≠some true:=by simp[fq,z]
     simp only[xM,an N,nY];have j:=oi a0;cases c<;>simp only[oV]at j<;>first|(cases j;done)|skip
     cases a1<;>simp only at j<;>first|(cases j;done)|skip
     cases j;obtain rfl:=ac.fb.bool;obtain rfl:=ad.fb.bool;exact run_equalIn_bool' w D t _ _ z
   .cases h
  next z=>
   split at h
   .cases h
    match cs,R,ds,ab with
    |[c],_,[a1],_=>
     obtain⟨x,rfl,ac⟩:=hx.one;obtain⟨y,rfl,ad⟩:=ai.one;have N:fq P t≠some true:=by simp[fq,z]
     simp only[xM,an N,nY];have j:=oi a0;cases c<;>simp only[oV]at j<;>first|(cases j;done)|skip
     cases a1<;>simp only at j<;>first|(cases j;done)|skip
     cases j;obtain rfl:=ac.fb.str;obtain rfl:=ad.fb.str;rw[run_equalIn_string w D t _ _ z,uf,uf]
   .cases h
  next bs z=>
   split at h
   next bv=>
    have a9:P.fieldsOf t=bs:=by simp[Program.fieldsOf,z]
    have N:fq P t=some true:=by simp[fq,z]
    simp only[xM,N,bQ];rw[run_equalIn_struct w D t _ _ (by rw[a9];exact z) bv.1,a9];cases e:gG.l6 (gG P d) bs.toList []with
    |none=>simp[e]at h
    |some cc=>
     simp only[e,gw]at h;split at h
     .cases h;have key:∀(l:List Field)(acc all:List CK),gG.l6 (gG P d) l acc=some all->∃rest,all=acc++rest/\
       ∀r,dJ rest (cs.drop acc.length) (ds.drop acc.length)=some r->all.length=cs.length->all.length=ds.length->(Op.eqFields D xs.toArray ys.toArray l).run P w=.ok r w:=by
       intro l;induction l with
       |nil=>
        intro acc all Q;simp only[gG.l6]at Q;cases Q;refine⟨[],bR,λr H aA aB=>?_⟩;have K:cs.drop acc.length=[]:=by rw[aA];simp
        have L:ds.drop acc.length=[]:=by rw[aB];simp
        rw[K,L]at H;simp[dJ]at H;subst H;simp[Op.eqFields]
       |cons f l bU=>
        intro acc all Q;simp only[gG.l6]at Q;split at Q
        next a5 bi=>
         split at Q
         next bo=>
          obtain⟨rest,rfl,a6⟩:=bU _ _ Q;refine⟨a5++rest,bR,λr H aA aB=>?_⟩;obtain⟨p,q,K,L,rfl⟩:=qB H;obtain⟨ag,g1,a2,a3⟩:=vV bi;have b2:xs.length=cs.length:=hx.1.symm;have b3:ys.length=ds.length:=ai.1.symm;simp only[ae]at aA aB;have aC:=rY (xs:=xs.toArray) (off:=f.offset) w g1 a2 a3 (by simp;omega);have aD:=rY (xs:=ys.toArray) (off:=f.offset) w g1 a2 a3 (by simp;omega);have a7:=ih D f.type a5 bi av _ _ _ _ p ((hx.drop f.offset).take a5.length) ((ai.drop f.offset).take a5.length) (by rw[bo.1];exact K);have cb:=a6 q (by rw[ae,<-dG,<-dG];exact L) (by simp;omega) (by simp;omega);simp only[Op.eqFields,ax bo.2,Sem.run_bind,aC,aD,Result.andThen_ok,a7,Sem.run_ite];cases p with
          |false=>simp
          |true=>simpa using cb
         .cases Q
        .cases Q
      obtain⟨rest,K,L⟩:=key bs.toList [] _ e;simp at K;subst K;exact L r (by simpa using a0) R.symm ab.symm
     .cases h
   .cases h
  next len el z=>
   cases e:gG P d el with
   |none=>simp[e]at h
   |some u=>
    simp only[e,gw]at h;split at h
    next b5=>
     cases h;have N:fq P t=some true:=by simp[fq,z]
     obtain⟨ag,g1,a2,a3⟩:=vV e;simp only[xM,N,bQ];simp only[Op.equalIn,Sem.run_bind,run_underlying z,Result.andThen_ok,fj b5.2,Std.Legacy.Range.forIn_eq_forIn_range',Std.Legacy.Range.size,ig,kA,rp];have br:(List.replicate len u).flatten.length=len*u.length:=bR;have key:∀(m i:Nat)(r:Bool),dJ (List.replicate m u).flatten (cs.drop (i*u.length)) (ds.drop (i*u.length))=some r->(i+m)*u.length=cs.length->(i+m)*u.length=ds.length->
      ∃o,(forIn (m:=Sem) (List.range' i m) ((none,()):Option Bool×Unit) λi _=>do
       let a<-part el xs.toArray (i*u.length)
       let b<-part el ys.toArray (i*u.length)
       let c<-Op.equalIn D el a b
       if(!c)=true then pure (ForInStep.done (some false,()))else pure (ForInStep.yield (none,()))).run P w=.ok (o,()) w/\o.getD true=r:=by
      intro m;induction m with
      |zero=>
       intro i r H aA aB;have K:cs.drop (i*u.length)=[]:=cT (by rw[<-aA];simp);have L:ds.drop (i*u.length)=[]:=cT (by rw[<-aB];simp);rw[K,L]at H;simp[dJ]at H;subst H;exact⟨none,bR,rfl⟩
      |succ m b6=>
       intro i r H aA aB;rw[fR,dk]at H;obtain⟨p,q,K,L,rfl⟩:=qB H;have b2:xs.length=cs.length:=hx.1.symm;have b3:ys.length=ds.length:=ai.1.symm;have hmul:(i+(m+1))*u.length=i*u.length+u.length+m*u.length:=by
        rw[show i+(m+1)=i+1+m from av,dK,dK,Nat.one_mul]
       have aC:=rY (xs:=xs.toArray) (off:=i*u.length) w g1 a2 a3 (by simp;omega);have aD:=rY (xs:=ys.toArray) (off:=i*u.length) w g1 a2 a3 (by simp;omega);have a7:=ih D el u e av _ _ _ _ p ((hx.drop (i*u.length)).take u.length) ((ai.drop (i*u.length)).take u.length) K;rw[dG,dG,<-dH]at L;obtain⟨o,bu,a8⟩:=b6 (i+1) q L (by rw[<-aA];congr 1;omega) (by rw[<-aB];congr 1;omega);cases p with
       |false=>exact⟨some false,by simp[List.range'_succ,aC,aD,a7],rfl⟩
       |true=>exact⟨o,by simp only[List.range'_succ,List.forIn_cons,Sem.run_bind,aC,aD,a7,Result.andThen_ok,bO,bM,cE,Sem.run_pure];exact bu,by simpa using a8⟩
     obtain⟨o,bu,a8⟩:=key len 0 r (by simpa using a0) (by rw[R,br];simp) (by rw[ab,br];simp);rw[bu];simp only[Result.andThen_ok];cases o<;>simp at a8<;>subst a8<;>rfl
    .cases h
  .cases h
end
end Go.Bx
