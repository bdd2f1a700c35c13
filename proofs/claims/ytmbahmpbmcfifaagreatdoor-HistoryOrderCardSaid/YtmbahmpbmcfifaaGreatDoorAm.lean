/- Lemmas for HistoryOrder. -/
import Derived.Test.YtmbahmpbmcfifaaGreatDoorAi
import Derived.Test.YtmbahmpbmcfifaaGreatDoorAj
import Derived.Test.YtmbahmpbmcfifaaGreatDoorAk
import Derived.Ground.GgzProg
import Derived.Ground.SlgmProg
import Derived.Ground.SlsfProg
import Derived.Shelf.SlGeneric
import Derived.Shelf.SlIter.Nil
import Derived.Shelf.SlSortCmp.NoneTotal
import Derived.Shelf.SortM.Plain
import Derived.Shelf.SortM.SortNone
noncomputable section
set_option linter.all false
set_option maxHeartbeats 4000000
set_option maxRecDepth 100000
namespace Go.Proofs
open Go.Shelf Tryz
def kq{α:Type}{o:Option α}{a b:α}(h:o=some a)(e:a=b:=by kernel_rfl):o=some b:=h.trans (congrArg some e)
def HV:Go.Shelf.Ren:=⟨λ|6=>172|15=>183|14=>226|28=>238|29=>239|20=>285|21=>286|22=>287|23=>288|24=>289|25=>290|26=>291|27=>292|46=>320|47=>295|48=>296|49=>321|50=>322|57=>333|n=>n,λ|22=>39|24=>52|25=>189|3=>3|39=>246|0=>0|53=>293|55=>265|4=>4|46=>287|45=>286|50=>178|5=>5|9=>9|66=>341|70=>345|76=>361|77=>362|n=>n,λ|n=>n⟩
def NA:Go.Proofs.SlLaysF0.n6 prog HV:={
 mixed:=by kernel_rfl
 f6:=⟨f172.name,by decide,kq func172⟩
 f14:=⟨f226.name,by decide,kq func226⟩
 f15:=kq func183
 f20:=⟨f285.name,by decide,kq func285⟩
 f21:=⟨f286.name,by decide,kq func286⟩
 f22:=⟨f287.name,by decide,kq func287⟩
 f23:=⟨f288.name,by decide,kq func288⟩
 f24:=⟨f289.name,by decide,kq func289⟩
 f25:=⟨f290.name,by decide,kq func290⟩
 f26:=⟨f291.name,by decide,kq func291⟩
 f27:=⟨f292.name,by decide,kq func292⟩
 f28:=kq func238
 f29:=kq func239
 f46:=⟨f320.name,by decide,kq func320⟩
 f47:=kq func295
 f48:=kq func296
 f49:=⟨f321.name,by decide,kq func321⟩
 f50:=⟨f322.name,by decide,kq func322⟩
 f57:=⟨f333.name,by decide,kq func333⟩
 t0:=underlying0
 a0:=isAgg0
 z0:=sizeOf0
 v0:=zeroValue0
 t3:=underlying3
 a3:=isAgg3
 z3:=sizeOf3
 v3:=zeroValue3
 t4:=underlying4
 a4:=isAgg4
 z4:=sizeOf4
 v4:=zeroValue4
 t5:=underlying5
 a5:=isAgg5
 z5:=sizeOf5
 v5:=zeroValue5
 t9:=underlying9
 a9:=isAgg9
 z9:=sizeOf9
 v9:=zeroValue9
 t22:=underlying39
 a22:=isAgg39
 z22:=sizeOf39
 v22:=zeroValue39
 t25:=underlying189
 a25:=isAgg189
 z25:=sizeOf189
 v25:=zeroValue189
 t39:=underlying246
 a39:=isAgg246
 z39:=sizeOf246
 v39:=zeroValue246
 t45:=underlying286
 a45:=isAgg286
 z45:=sizeOf286
 v45:=zeroValue286
 t46:=underlying287
 a46:=isAgg287
 z46:=sizeOf287
 v46:=zeroValue287
 t50:=underlying178
 a50:=isAgg178
 z50:=sizeOf178
 v50:=zeroValue178
 t53:=underlying293
 a53:=isAgg293
 z53:=sizeOf293
 v53:=zeroValue293
 t55:=underlying265
 a55:=isAgg265
 z55:=sizeOf265
 v55:=zeroValue265
 t66:=underlying341
 a66:=isAgg341
 z66:=sizeOf341
 v66:=zeroValue341
 t70:=underlying345
 a70:=isAgg345
 z70:=sizeOf345
 v70:=zeroValue345
 t76:=underlying361
 a76:=isAgg361
 z76:=sizeOf361
 v76:=zeroValue361
 t77:=underlying362
 a77:=isAgg362
 z77:=sizeOf362
 v77:=zeroValue362}
def Bf:Go.Shelf.Ren:=⟨λ|7=>109|10=>166|n=>n,λ|23=>130|26=>9|3=>94|28=>185|0=>0|27=>184|33=>215|4=>4|n=>n,λ|n=>n⟩
def UY:Go.Proofs.SlLaysZ.n7 prog Bf:={
 mixed:=by kernel_rfl
 f7:=⟨f109.name,by decide,kq func109⟩
 f10:=⟨f166.name,by decide,kq func166⟩
 t0:=underlying0
 a0:=isAgg0
 z0:=sizeOf0
 v0:=zeroValue0
 t4:=underlying4
 a4:=isAgg4
 z4:=sizeOf4
 v4:=zeroValue4
 t23:=underlying130
 a23:=isAgg130
 z23:=sizeOf130
 v23:=zeroValue130
 t26:=underlying9
 a26:=isAgg9
 z26:=sizeOf9
 v26:=zeroValue9
 t27:=underlying184
 a27:=isAgg184
 z27:=sizeOf184
 v27:=zeroValue184
 t28:=underlying185
 a28:=isAgg185
 z28:=sizeOf185
 v28:=zeroValue185
 t33:=underlying215
 a33:=isAgg215
 z33:=sizeOf215
 v33:=zeroValue215}
def w9:Go.Shelf.Ren:=⟨λ|6=>108|8=>164|9=>165|11=>219|13=>183|12=>220|23=>238|24=>239|14=>271|15=>272|16=>273|17=>274|18=>275|19=>276|20=>277|21=>278|22=>279|25=>315|26=>295|27=>296|28=>316|29=>317|30=>318|31=>332|n=>n,λ|26=>9|28=>185|24=>90|0=>0|3=>3|37=>246|48=>293|50=>265|4=>4|40=>287|39=>286|45=>178|5=>5|9=>9|51=>341|55=>345|57=>361|58=>362|33=>215|n=>n,λ|n=>n⟩
def NB:Go.Proofs.SlLaysZ.n6 prog w9:={
 mixed:=by kernel_rfl
 f6:=⟨f108.name,by decide,kq func108⟩
 f8:=⟨f164.name,by decide,kq func164⟩
 f11:=⟨f219.name,by decide,kq func219⟩
 t0:=underlying0
 a0:=isAgg0
 z0:=sizeOf0
 v0:=zeroValue0
 t24:=underlying90
 a24:=isAgg90
 z24:=sizeOf90
 v24:=zeroValue90
 t26:=underlying9
 a26:=isAgg9
 z26:=sizeOf9
 v26:=zeroValue9
 t28:=underlying185
 a28:=isAgg185
 z28:=sizeOf185
 v28:=zeroValue185
 i26:=by kernel_rfl}
def FO:Go.Shelf.Ren:=⟨λ|6=>165|8=>183|9=>220|19=>238|20=>239|21=>271|22=>272|23=>273|24=>274|25=>275|26=>276|27=>277|28=>278|29=>279|36=>315|31=>295|32=>296|37=>316|38=>317|39=>318|41=>332|n=>n,λ|27=>90|29=>9|3=>3|32=>246|26=>90|0=>0|44=>293|46=>265|4=>4|36=>287|35=>286|41=>178|5=>5|9=>9|53=>341|57=>345|63=>361|64=>362|n=>n,λ|n=>n⟩
def Jo:Go.Proofs.SlLaysM.n6 prog FO:={
 mixed:=by kernel_rfl
 f6:=⟨f165.name,by decide,kq func165⟩
 f8:=kq func183
 f9:=⟨f220.name,by decide,kq func220⟩
 f19:=kq func238
 f20:=kq func239
 f21:=⟨f271.name,by decide,kq func271⟩
 f22:=⟨f272.name,by decide,kq func272⟩
 f23:=⟨f273.name,by decide,kq func273⟩
 f24:=⟨f274.name,by decide,kq func274⟩
 f25:=⟨f275.name,by decide,kq func275⟩
 f26:=⟨f276.name,by decide,kq func276⟩
 f27:=⟨f277.name,by decide,kq func277⟩
 f28:=⟨f278.name,by decide,kq func278⟩
 f29:=⟨f279.name,by decide,kq func279⟩
 f31:=kq func295
 f32:=kq func296
 f36:=⟨f315.name,by decide,kq func315⟩
 f37:=⟨f316.name,by decide,kq func316⟩
 f38:=⟨f317.name,by decide,kq func317⟩
 f39:=⟨f318.name,by decide,kq func318⟩
 f41:=⟨f332.name,by decide,kq func332⟩
 t0:=underlying0
 a0:=isAgg0
 z0:=sizeOf0
 v0:=zeroValue0
 t3:=underlying3
 a3:=isAgg3
 z3:=sizeOf3
 v3:=zeroValue3
 t4:=underlying4
 a4:=isAgg4
 z4:=sizeOf4
 v4:=zeroValue4
 t5:=underlying5
 a5:=isAgg5
 z5:=sizeOf5
 v5:=zeroValue5
 t9:=underlying9
 a9:=isAgg9
 z9:=sizeOf9
 v9:=zeroValue9
 t26:=underlying90
 a26:=isAgg90
 z26:=sizeOf90
 v26:=zeroValue90
 t27:=underlying90
 a27:=isAgg90
 z27:=sizeOf90
 v27:=zeroValue90
 t29:=underlying9
 a29:=isAgg9
 z29:=sizeOf9
 v29:=zeroValue9
 t32:=underlying246
 a32:=isAgg246
 z32:=sizeOf246
 v32:=zeroValue246
 t35:=underlying286
 a35:=isAgg286
 z35:=sizeOf286
 v35:=zeroValue286
 t36:=underlying287
 a36:=isAgg287
 z36:=sizeOf287
 v36:=zeroValue287
 t41:=underlying178
 a41:=isAgg178
 z41:=sizeOf178
 v41:=zeroValue178
 t44:=underlying293
 a44:=isAgg293
 z44:=sizeOf293
 v44:=zeroValue293
 t46:=underlying265
 a46:=isAgg265
 z46:=sizeOf265
 v46:=zeroValue265
 t53:=underlying341
 a53:=isAgg341
 z53:=sizeOf341
 v53:=zeroValue341
 t57:=underlying345
 a57:=isAgg345
 z57:=sizeOf345
 v57:=zeroValue345
 t63:=underlying361
 a63:=isAgg361
 z63:=sizeOf361
 v63:=zeroValue361
 t64:=underlying362
 a64:=isAgg362
 z64:=sizeOf362
 v64:=zeroValue362}
end Go.Proofs
namespace Go.Bx
open Go.Proofs Go.Proofs.Tryz Go.RowKit Go.Sort
def w8(w:World):aW:={bL:=λb _=>if b<w.heap.size then .ext else .free,hb:=λ_=>none,lb:=λ_ _=>none}
def UX:Nat->Option (List V):=λ_=>none
def HT{w:World}{args:List V}{xs:Array Value}(a:xs.size=args.length)(d:∀(j:Nat) v x,args[j]?=some v->xs[j]?=some x->VR (w8 w) v x):ry UX (w8 w) w aJ.bare args xs where
 gA:=⟨λ_ _ e=>(by cases e),λb o x e=>(by simp only[w8]at e;split at e<;>cases e),λb f e=>(by simp only[w8]at e;split at e<;>cases e),λb o e=>cJ λh=>e (by simp only[w8];rw[an h]),λ_ _ e=>(by cases e)⟩
 heap:=⟨λ_ _ e=>(by cases e),λ_ _ _ _ _ _ e=>(by cases e),λ_ _ e=>(by cases e),λ_ _=>rfl⟩
 len:=a
 arg:=d
def FN{α:Type}{a b:Array α}(f:a.size<=b.size)(h:∀i,i<a.size->b[i]?=a[i]?):b=a++b.extract a.size b.size:=by
 apply pr;intro i;rw[kY];split
 next d=>exact h i d
 next d=>
  rw[mZ];split
  .congr 1;omega
  next j=>rw[gJ];omega
def HU{w w':World}{g':aW}(h0:0<w.heap.size)(h:Step (w8 w) w g' w'):∃q a,w'=grow (w.drewN q) a:=by
 refine⟨w'.drawn-w.drawn,w'.heap.extract w.heap.size w'.heap.size,?_⟩;have t:=FN h.size λi d=>h.whole i d λo=>.inl (by simp only[w8];rw[ax d]);have j:=h.gW;obtain⟨l,p,r,f⟩:=j;replace f:=f (ax h0);cases w';cases w;simp only[grow,World.drewN]at*
 subst l p r;congr 1;omega
def Pure.YY{P:Program}{f:FuncId}{args:List V}{v:V}{bL:Bool}(h:Pure P UX f args v bL)(w:World)(h0:0<w.heap.size)(xs:Array Value)(d:xs.size=args.length)(l:∀(j:Nat) v x,args[j]?=some v->xs[j]?=some x->VR (w8 w) v x):
 Calls P f xs w λe w'=>∃x g',e=.returned x/\VR g' v x/\∃q a,w'=grow (w.drewN q) a:=
 h.2.2 (w8 w) w xs (HT d l) _ λr x o t g' w' p out=>by
  obtain⟨rfl,rfl⟩:=p;exact⟨x,g',rfl,out.res,HU h0 out.step⟩
end Go.Bx
namespace Go.Bx
open Go.Proofs Go.Proofs.Tryz
attribute [local irreducible] vc er dr b4 bV run iD iY i1 i6 iQ i7 i2 iu iS i4 gB i3 cW
def ES:Prop:=∀s:T,s.length<=1000000->af 301 [S s,S [64]] (I (if s.all (λb=>b.toNat !=64)=true then -1 else EC (s.findIdx? λb=>b.toNat==64)))
def JT(s:T):Int:=if s.all (λb=>b.toNat !=64)=true then -1 else EC (s.findIdx? λb=>b.toNat==64)
def Oa(s:T):decide (0<=JT s)= !s.all λb=>b.toNat !=64:=by
 unfold JT;by_cases h:s.all (λb=>b.toNat !=64)=true
 .rw[ax h,h];rfl
 .rw[an h,show s.all (λb=>b.toNat !=64)=false by simpa using h];rcases hf:s.findIdx? λb=>b.toNat==64 with _|j
  .exact XQ
  .simp[EC,hf]
def RG(a:ES)(s:T)(d:s.length<=1000000):af 253 [S s,S [64]] (I (JT s)):=by
 have c:=a s d;change af 301 [S s,S [64]] (I (JT s))at c;refine pk f253 ?_;repeat' first|simp only[dq,simprocAttr]|refine lq c ?_|refine q1 ?_
 all_goals exact .refl _
def RH(a:ES)(s:T)(d:s.length<=1000000):af 203 [S s,S [64]] (B (!s.all λb=>b.toNat !=64)):=by
 have c:=RG a s d;rw[<-Oa s];refine pk f203 ?_;exact T7
def RI(d:ES):Dy:=by
 intro s a;have c:=RH d s a;have f:=zO s a;refine pk f153 ?_;repeat' first|simp only[dq,simprocAttr]|refine gz ?_ ?_<;>intro j h<;>try simp only[j]|refine lq c ?_|refine lq f ?_|refine q1 ?_
 all_goals exact aj (ar V.bool (by simp[iV, *]<;>omega))
def Vm{P:Program}{GL:ak}{d:Option Nat}{pu:Bool}{r:List BI}{K:St->Prop}{s:St}{x y:eO}{l:List UInt8}{c:Int}{fD:aJ}(a:s.E=fD)(hx:s.val x=.str l)(f:s.val y=.int .u8 c)(h0:0<=c)(j:c<256)
 (h:gB P GL d pu r s K (.int .i64 (Hu l (UInt8.ofNat c.toNat))) false fD):(MX.Kz x y).wp s (gB P GL d pu r s K):=by
 subst a;simp only[MX.wp,hx,f];exact⟨h0,j,h⟩
def RJ(s:T):af 324 [S s,.int .u8 64] (I (Hu s 64)):=by
 refine pk f324 ?_;repeat any_goals simp only[dq,simprocAttr]
 refine Vm (l:=s) (c:=64) (fD:=aJ.bare) ?_ ?_ ?_ dt dt ?_
 .exact sT
 .exact sT
 .exact sT
 repeat any_goals first|simp only[gE,simprocAttr]|refine q1 ?_
 exact .refl _
def RK(s:T):af 301 [S s,S [64]] (I (Hu s 64)):=by
 refine pk f301 ?_ [94];repeat any_goals first|simp(disch:=try exact om) only[dq,simprocAttr]|refine cs ?_ ?_<;>intro h|refine lq (RJ s) ?_|refine q1 ?_
 .subst h;exact aj (ar I dt)
 .exact .refl _
def Lr(s:T):Hu s 64=if s.all (λb=>b.toNat !=64)=true then -1 else EC (s.findIdx? λb=>b.toNat==64):=by
 have f:∀i (h:i<s.length),(⟨s.toArray⟩:ByteArray)[i]! =s[i]:=by
  intro i h;have l:i< (⟨s.toArray⟩:ByteArray).size:=by simpa[ByteArray.size]using h
  rw[jM (⟨s.toArray⟩:ByteArray) i l];rfl
 have a:∀b:UInt8,(b==64)=(b.toNat==64):=by
  intro b;rw[de,iA,iA];exact⟨λh=>by rw[h];rfl,λh=>UInt8.toNat_inj.1 h⟩
 have p:(⟨s.toArray⟩:ByteArray).size=s.length:=by simp[ByteArray.size]
 unfold Hu firstIdx;rw[p];by_cases h:s.all (λb=>b.toNat !=64)=true
 .rw[ax h];have:(List.range s.length).find? (λi=>(⟨s.toArray⟩:ByteArray)[i]! ==64)=none:=by
   rw[List.find?_range_eq_none];intro i d;rw[f i d,a];have:=bP.1 h _ (ah d);simpa using this
  rw[this]
 .rw[an h];rcases hf:s.findIdx? λb=>b.toNat==64 with _|j
  .exact XQ
  .obtain⟨o,l,q⟩:=List.findIdx?_eq_some_iff_getElem.1 hf;have:(List.range s.length).find? (λi=>(⟨s.toArray⟩:ByteArray)[i]! ==64)=some j:=by
    rw[List.find?_range_eq_some];refine⟨by rw[f j o,a];exact l,dc.2 o,λi d=>?_⟩;rw[f i av,a];have:=q i d;simpa using this
   rw[this];simp[EC,hf]
def Vn:ES:=λs _=>by rw[<-Lr];exact RK s
def Ty:Dy:=RI Vn
def Zw:CF GL f206 [31] [] 206:=ji
def Zx:CF GL f208 [31] [] 208:=ji
def Zy:CF GL f209 [38] [] 209:=ji
def xq:af 157 [B true] (.hE []):=by
 refine pk f157 ?_;repeat any_goals first|simp only[dq,simprocAttr]|exact rq0
def Reads(id:Nat)(b:T)(E:aJ)(W:Nat)(a:aJ):Prop:=a.box=eR E.box id (some [df b,I W])/\a.mp=E.mp/\a.Y=E.Y
def xr(id:Nat)(b r:T)(a:Nat)(l:List Int)(E:aJ)(hb:E.box id=some [df b,I a])(hd:b.drop a=cZ l++r)(o:a<=b.length)(t:b.length<=10000000)(p:∀n∈l,jv n):
 aI 206 [.bp id 0] E λv _ f=>v=fx l/\Reads id b E (a+(cZ l).length) f:=by
 have hlen:b.length=a+((cZ l).length+r.length):=by
  exact Pz
 have j:=JG l r av p;have q:=xq;have d:=nO b a o;rw[hd]at d;simp only[df]at j d hb;generalize (cZ l).length=A at*
 refine bq Zw.ok rfl ?_;repeat any_goals first|simp(disch:=try exact om) only[gE,simprocAttr,hb,d]|refine lq j ?_|refine lq q ?_
 exact wb8
def JU(id:Nat)(b r:T)(a:Nat)(l:List T)(E:aJ)(hb:E.box id=some [df b,I a])(hd:b.drop a=g2 l++r)(o:a<=b.length)(q:b.length<=10000000):
 aI 208 [.bp id 0] E λv _ f=>v=e9 l/\Reads id b E (a+(g2 l).length) f:=by
 have hlen:b.length=a+((g2 l).length+r.length):=by
  exact Pz
 have j:=JF l r av;have p:=xq;have d:=nO b a o;rw[hd]at d;simp only[df]at j d hb;generalize (g2 l).length=A at*
 refine bq Zx.ok rfl ?_;repeat any_goals first|simp(disch:=try exact om) only[gE,simprocAttr,hb,d]|refine lq j ?_|refine lq p ?_
 exact wb8
def JV(id:Nat)(b r:T)(a:Nat)(n d:Nat)(E:aJ)(hb:E.box id=some [df b,I a])(hd:b.drop a=cB n++r)(o:a<=b.length)(u:b.length<=10000000)(y:n<=d)(t:d<=1000):
 aI 209 [.bp id 0,I d] E λv _ j=>v=I n/\Reads id b E (a+(cB n).length) j:=by
 have hlen:b.length=a+((cB n).length+r.length):=by
  exact Pz
 have l:=EM n (by unfold jv;omega) r av;have p:=xq;have f:=nO b a o;rw[hd]at f;simp only[df]at l f hb;have c3:=JJ n d;have q:decide (0<=(n:Int)/\(n:Int)<=d)=true:=by simp;omega
 rw[q]at c3;generalize (cB n).length=A at*
 refine bq Zy.ok rfl ?_;repeat any_goals first|simp(disch:=try exact om) only[gE,simprocAttr,hb,f]|refine lq l ?_|refine lq p ?_|refine lq c3 ?_
 exact wb8
def Gm(l:List gP):Prop:=∀(k:Nat)(h:k+1<l.length),l[k].end_<=l[k+1].W
def Gm.snoc{l:List gP}{t:gP}(h:Gm l)(j:∀(k:Nat)(d:k+1=l.length),l[k].end_<=t.W):Gm (l++[t]):=by
 intro k d;rw[ae,eu]at d;rcases am (k+1) l.length with a|a
 .rw[eK a,eK av];exact h k a
 .have f:k+1=l.length:=av;rw[eK av,gM av];simp only[f,iM,cw];exact j k f
def Gm.init{l:List gP}{t:gP}(h:Gm (l++[t])):Gm l:=by
 intro k a;have:=h k (by rw[ae];omega)
 rwa [eK av,eK a]at this
def Gn(s:T):∀n,Gm (jo s n)
 |0=>by intro k h;simp[jo]at h
 |n+1=>by
  have ih:=Gn s n;have new:∀k:Int,Gm (jo s n++[⟨n,n+1,k⟩]):=λk=>ih.snoc λj a=>(zR s n _ (ah _)).2.2;rw[jo];unfold qL;dsimp only;split
  .exact ih
  .split
   .split
    next t d=>
     obtain⟨f,e⟩:=l0.1 d;rw[e]at ih ⊢
     rw[nX];refine ih.init.snoc λj a=>?_;have:=ih j (by rw[ae,eu];omega);rw[eK av,gM av]at this;simpa[a]using this
    .exact new _
   .exact new _
def RL(s:T)(k:Int)(aA:s.length<=10000):af 310 [S s,I k] (tH s k):=by
 have aB:(cq s).length<=s.length:=lJ s _;have c:=Et s (by omega);have c2:=zO s (by omega);have L:g3 s≠0->tH s k=.hE [S [],S [],I (g3 s)]:=λh=>by unfold tH;rw[ax h]
 have p:g3 s=0->¬(1<=k/\k< (cq s).length/\lC (cq s) k.toNat=true)->tH s k=.hE [S [],S [],I 5]:=λh d=>by unfold tH;rw[an (by simp[h]),an d]
 have N:g3 s=0->(1<=k/\k< (cq s).length/\lC (cq s) k.toNat=true)->tH s k=.hE [S (s.take (((cq s).getD k.toNat ⟨0,0,0⟩).W-1).toNat),S (s.drop ((cq s).getD k.toNat ⟨0,0,0⟩).W.toNat),I 0]:=λh d=>by unfold tH;rw[an (by simp[h]),ax d]
 by_cases f:g3 s=0
 .rcases fw k 1 with P|P
  .rw[p f av];refine pk f310 ?_;repeat any_goals first|simp only[dq,simprocAttr]|(first|refine bY (λh=>?_) (λh=>?_)|refine cY (λh=>?_) (λh=>?_))<;>((try simp only[bD]at h);(try simp only[h]);(try simp only[jc]at h);(try omega))|((first|refine iT c ?_ ?_|refine iT c2 ?_ ?_);·simp only[dL,simprocAttr]<;>rfl)|apply G0 rfl rfl rfl rfl rfl rfl
   all_goals exact aj rfl
  rcases fw k (cq s).length with Q|Q
  .obtain⟨k,rfl⟩:∃j:Nat,k=j+1:=⟨(k-1).toNat,by omega⟩;have l:k+1< (cq s).length:=av;obtain⟨aC,R,ab⟩:=Jx s (k+1) l;have ac:=Gn s s.length k l;have a:((k:Int)+1).toNat=k+1:=av;have o:((k:Int)+1-1)=k:=by omega
   have t:lC (cq s) (k+1)=decide ((cq s)[k+1].W>(cq s)[k].end_):=by
    simp[lC,aa l,aa (show k< (cq s).length by omega)]
   by_cases r:(cq s)[k+1].W=(cq s)[k].end_
   .rw[p f (by rw[a,t];simp[r])];refine pk f310 ?_;repeat' first|simp(disch:=try exact om) only[dq,simprocAttr,a,o,r]|(first|refine cz ?_ ?_|refine gz ?_ ?_)<;>intro d h<;>(try simp only[d])<;>try omega|refine lq c ?_|refine lq c2 ?_|apply G0 rfl rfl rfl rfl rfl rfl
    all_goals exact aj rfl
   .have ad:(cq s)[k+1].W>(cq s)[k].end_:=by
     have:(cq s)[k].end_<=(cq s)[k+1].W:=ac;omega
    have u:lC (cq s) (k+1)=true:=by rw[t];exact db ad
    have ai:=ab av u;rw[N f ⟨av,av,by rw[a];exact u⟩,a];rw[ap,aa l,bf];obtain⟨q,y⟩:∃q:Nat,(cq s)[k+1].W=q:=⟨(cq s)[k+1].W.toNat,av⟩;have z:(q:Int)-1=((q-1:Nat):Int):=av;have D:((cq s)[k+1].W).toNat=q:=av;have H:((cq s)[k+1].W-1).toNat=q-1:=av;rw[D,H];have K:(s.drop q).take (s.length-q)=s.drop q:=az bR;rw[y]at R ai r;refine pk f310 ?_;repeat' first|simp(disch:=try exact om) only[dq,simprocAttr,a,o,y,z]|(first|refine cz ?_ ?_|refine gz ?_ ?_)<;>intro d h<;>(try simp only[d])<;>try omega|refine lq c ?_|refine lq c2 ?_|apply G0 rfl rfl rfl rfl rfl rfl
    .exact aj rfl
    .exact aj (ar S K)
    .exact aj rfl
  .rw[p f av];refine pk f310 ?_;repeat any_goals first|simp only[dq,simprocAttr]|(first|refine bY (λh=>?_) (λh=>?_)|refine cY (λh=>?_) (λh=>?_))<;>((try simp only[bD]at h);(try simp only[h]);(try simp only[jc]at h);(try omega))|((first|refine iT c ?_ ?_|refine iT c2 ?_ ?_);·simp only[dL,simprocAttr]<;>rfl)|apply G0 rfl rfl rfl rfl rfl rfl
   all_goals exact aj rfl
 .rw[L f];refine pk f310 ?_;exact X4
def Ob(k:Int):V:=.agg [.fn (261+k.toNat) [],B (decide (3<=k)),B (decide (k=7))]
def RM(k:Int)(a:0<=k/\k<=9):af 214 [I k] (Ob k):=by
 have h:k=0\/k=1\/k=2\/k=3\/k=4\/k=5\/k=6\/k=7\/k=8\/k=9:=av;unfold Ob;rcases h with rfl|rfl|rfl|rfl|rfl|rfl|rfl|rfl|rfl|rfl
 all_goals
  refine pk f214 ?_;repeat' first|simp(disch:=try exact om) only[gE,simprocAttr,aO]|refine ec ?_|(refine al nE ?_;refine tO ev rfl ?_;(all_goals(try((apply aj;simp;done)))))
def Ls{α β:Type}{a:List α}{b:List β}:(a.length:Int)+b.length=0↔a=[]/\b=[]:=by
 constructor
 .intro h;exact⟨bJ.1 av,bJ.1 av⟩
 .rintro⟨rfl,rfl⟩;rfl
def JW(o:Op)(f:o.ok)(j:0<=o.kind/\o.kind<=9):af 213 [o.v] (B (decide (o=nH o))):=by
 obtain⟨kind,⟨y,z,D⟩,⟨H,K,L⟩,⟨N,P,c3⟩,Q,R,ab,ac,d,a,u⟩:=o;simp only at j;obtain⟨_,l,_,p,q⟩:=f;simp only at l p q;have r:IntKind.i64.wrap ((d.length:Int)+a.length)=(d.length:Int)+a.length:=wrap_i64 av av;have h:kind=0\/kind=1\/kind=2\/kind=3\/kind=4\/kind=5\/kind=6\/kind=7\/kind=8\/kind=9:=av;simp only[Op.v,Op.c];rcases h with rfl|rfl|rfl|rfl|rfl|rfl|rfl|rfl|rfl|rfl
 all_goals
  refine pk f213 ?_;repeat' first|simp(disch:=omega) only[dq,simprocAttr,r,aO]|refine gz ?_ ?_<;>intro t h<;>try simp only[t]|refine q1 ?_
  all_goals
   refine aj (ar V.bool ?_);rw[de];simp_all[nH,Xq,Ls]
end Go.Bx
namespace Go.Bx.Z
open Go.Proofs Go.Proofs.Tryz
attribute [local irreducible] vc er dr b4 bV run iD iY i1 i6 iQ i7 i2 iu iS i4 gB i3 cW
def GL:Nat->Option (List V):=UX
def Zz:CF GL f184 [] [] 184:=ji
def ZA:CF GL f131 [] [] 131:=ji
def ZB:CF GL f130 [15,17] [] 130:=ji
def abh:CF GL f95 [] [] 95:=ji
def ZC:CF GL f114 [] [] 114:=ji
def wA(a:Int):Pure prog GL 184 [I a] (B false):=by
 refine pq Zz.ok rfl (by simp only[du]) ?_;repeat any_goals first|simp only[dq,simprocAttr]|refine q1 ?_
 all_goals exact aj (ar V.bool bR)
def ve(a b:Int):Pure prog GL 131 [I a,I b] (I (q2 a b)):=by
 refine pq ZA.ok rfl (by simp only[du]) ?_;repeat any_goals first|simp only[dq,simprocAttr]|(refine bY (λh=>?_) (λh=>?_))<;>((try simp only[h]);(try simp only[jc]at h))|(refine iT (wA a) ?_ ?_;·simp only[dL,simprocAttr]<;>rfl)|(refine iT (wA b) ?_ ?_;·simp only[dL,simprocAttr]<;>rfl)|apply p7 rfl rfl
 all_goals exact aj (ar I (by unfold q2;split<;>first|rfl|omega))
def JX(l:List Int)(a:l.length<=1000000000):Pure prog GL 130 [fx l] (I (PC l)):=by
 refine pq ZB.ok rfl (by simp only[du]) ?_;repeat any_goals simp only[dq,simprocAttr]
 refine sl (λk:Nat=>k<=l.length/\PC (l.drop k)=PC l) (λk=>[(8,I k,false)]) (λk=>l.length-k) (0) (⟨bR,rfl⟩) ?_;rintro k ⟨d,he⟩;rcases am k l.length with h1|h1
 .rw[bI h1,PC]at he;repeat any_goals first|simp(disch:=try exact om) only[dq,simprocAttr]|refine cs ?_ ?_<;>intro h<;>try omega|refine ba (k+1) ?_|refine q1 ?_
  .exact aj (ar I (by rw[<-he,ax (by assumption)]))
  .rw[an (by simpa using h)]at he;exact⟨h1,he⟩
 .repeat any_goals first|simp only[dq,simprocAttr]|refine cs ?_ ?_<;>intro h<;>try omega|refine q1 ?_
  exact XZ
def Oc(a b:ID):Pure prog GL 95 [a.v,b.v] (I (rk a b)):=by
 have c:=JX [q2 a.J b.J,q2 a.seq b.seq,q2 a.k b.k] bR;refine pq abh.ok rfl (by simp only[du]) ?_;unfold rk;repeat any_goals first|simp only[dq,simprocAttr]|refine lq (ve a.J b.J) ?_|refine lq (ve a.seq b.seq) ?_|refine lq (ve a.k b.k) ?_|refine lq c ?_|refine q1 ?_
 all_goals exact aj rfl
def RN(a b:cR):Pure prog GL 114 [a.v,b.v] (I (qc a b)):=by
 have c:=JX [rk a.from_ b.from_,rk a.to b.to] bR;refine pq ZC.ok rfl (by simp only[du]) ?_;unfold qc;repeat any_goals first|simp only[dq,simprocAttr]|refine lq (Oc a.from_ b.from_) ?_|refine lq (Oc a.to b.to) ?_|refine lq c ?_|refine q1 ?_
 all_goals exact aj rfl
end Go.Bx.Z
namespace Go.Bx
open Go.Proofs Go.Proofs.Tryz Go.RowKit Go.Sort Go.Shelf Go.Lib
def uL(x:cR):List Value:=[.int .i64 x.from_.J,.int .i64 x.from_.seq,.int .i64 x.from_.k,.int .i64 x.to.J,.int .i64 x.to.seq,.int .i64 x.to.k]
def JY(g:aW)(x:cR):fK g x.v.cells (uL x):=by
 refine⟨rfl,λj c y a d=>?_⟩
 match j,a,d with
 |0,a,d=>cases a;cases d;exact .int _ _
 |1,a,d=>cases a;cases d;exact .int _ _
 |2,a,d=>cases a;cases d;exact .int _ _
 |3,a,d=>cases a;cases d;exact .int _ _
 |4,a,d=>cases a;cases d;exact .int _ _
 |5,a,d=>cases a;cases d;exact .int _ _
 |n+6,a,d=>cases a
def JZ(g:aW)(x:cR):VR g x.v (.agg (uL x).toArray):=by
 refine .agg _ _ rfl (λj c h=>?_) (λj c y a d=>(JY g x).2 j c y a (by simpa using d))
 match j,h with
 |0,h=>cases h;rfl
 |1,h=>cases h;rfl
 |2,h=>cases h;rfl
 |3,h=>cases h;rfl
 |4,h=>cases h;rfl
 |5,h=>cases h;rfl
 |n+6,h=>cases h
instance:Inhabited cR:=⟨⟨⟨0,0,0⟩,⟨0,0,0⟩⟩⟩
def Lt(f off size:Nat)(w:World)(h0:0<w.heap.size):CmpLays prog 114 #[] uL 6 qc f off size w:=by
 intro m os p _ x y;refine((Z.RN x y).YY _ (bA h0 (SWK.le ⟨m,os,rfl⟩)) _ rfl ?_).mono ?_
 .intro j v z a d
  match j,a,d with
  |0,a,d=>cases a;cases d;exact JZ _ x
  |1,a,d=>cases a;cases d;exact JZ _ y
  |n+2,a,d=>cases a
 .rintro e q ⟨z,r,rfl,l,o⟩;cases l;exact⟨rfl,o⟩
end Go.Bx
