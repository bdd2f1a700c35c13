/- Lemmas for HistoryBegins. -/
import Derived.Test.YtmbahmpbmcfifaaGreatDoorCi
import Derived.Test.YtmbahmpbmcfifaaGreatDoorCj
import Derived.Test.YtmbahmpbmcfifaaGreatDoorCk
import Derived.Ground.GgzProg
import Derived.Ground.SlgmProg
import Derived.Ground.SlsfProg
import Derived.Shelf.SlGeneric
import Derived.Shelf.SlIter.Nil
import Derived.Shelf.SlSortCmp.NoneTotal
import Derived.Shelf.SortM.Plain
import Derived.Shelf.SortM.SortNone
noncomputable section
set_option linter.all false
set_option maxHeartbeats 4000000
set_option maxRecDepth 100000
namespace Go.Proofs
open Go.Shelf Tryz
def kq{α:Type}{o:Option α}{a b:α}(h:o=some a)(e:a=b:=by kernel_rfl):o=some b:=h.trans (congrArg some e)
def Ir:Go.Shelf.Ren:=⟨λ|6=>172|15=>183|14=>226|28=>238|29=>239|20=>285|21=>286|22=>287|23=>288|24=>289|25=>290|26=>291|27=>292|46=>320|47=>295|48=>296|49=>321|50=>322|57=>333|n=>n,λ|22=>39|24=>52|25=>189|3=>3|39=>246|0=>0|53=>293|55=>265|4=>4|46=>287|45=>286|50=>178|5=>5|9=>9|66=>341|70=>345|76=>361|77=>362|n=>n,λ|n=>n⟩
def Ov:Go.Proofs.SlLaysF0.n6 prog Ir:={
 mixed:=by kernel_rfl
 f6:=⟨f172.name,by decide,kq func172⟩
 f14:=⟨f226.name,by decide,kq func226⟩
 f15:=kq func183
 f20:=⟨f285.name,by decide,kq func285⟩
 f21:=⟨f286.name,by decide,kq func286⟩
 f22:=⟨f287.name,by decide,kq func287⟩
 f23:=⟨f288.name,by decide,kq func288⟩
 f24:=⟨f289.name,by decide,kq func289⟩
 f25:=⟨f290.name,by decide,kq func290⟩
 f26:=⟨f291.name,by decide,kq func291⟩
 f27:=⟨f292.name,by decide,kq func292⟩
 f28:=kq func238
 f29:=kq func239
 f46:=⟨f320.name,by decide,kq func320⟩
 f47:=kq func295
 f48:=kq func296
 f49:=⟨f321.name,by decide,kq func321⟩
 f50:=⟨f322.name,by decide,kq func322⟩
 f57:=⟨f333.name,by decide,kq func333⟩
 t0:=underlying0
 a0:=isAgg0
 z0:=sizeOf0
 v0:=zeroValue0
 t3:=underlying3
 a3:=isAgg3
 z3:=sizeOf3
 v3:=zeroValue3
 t4:=underlying4
 a4:=isAgg4
 z4:=sizeOf4
 v4:=zeroValue4
 t5:=underlying5
 a5:=isAgg5
 z5:=sizeOf5
 v5:=zeroValue5
 t9:=underlying9
 a9:=isAgg9
 z9:=sizeOf9
 v9:=zeroValue9
 t22:=underlying39
 a22:=isAgg39
 z22:=sizeOf39
 v22:=zeroValue39
 t25:=underlying189
 a25:=isAgg189
 z25:=sizeOf189
 v25:=zeroValue189
 t39:=underlying246
 a39:=isAgg246
 z39:=sizeOf246
 v39:=zeroValue246
 t45:=underlying286
 a45:=isAgg286
 z45:=sizeOf286
 v45:=zeroValue286
 t46:=underlying287
 a46:=isAgg287
 z46:=sizeOf287
 v46:=zeroValue287
 t50:=underlying178
 a50:=isAgg178
 z50:=sizeOf178
 v50:=zeroValue178
 t53:=underlying293
 a53:=isAgg293
 z53:=sizeOf293
 v53:=zeroValue293
 t55:=underlying265
 a55:=isAgg265
 z55:=sizeOf265
 v55:=zeroValue265
 t66:=underlying341
 a66:=isAgg341
 z66:=sizeOf341
 v66:=zeroValue341
 t70:=underlying345
 a70:=isAgg345
 z70:=sizeOf345
 v70:=zeroValue345
 t76:=underlying361
 a76:=isAgg361
 z76:=sizeOf361
 v76:=zeroValue361
 t77:=underlying362
 a77:=isAgg362
 z77:=sizeOf362
 v77:=zeroValue362}
def Cb:Go.Shelf.Ren:=⟨λ|7=>109|10=>166|n=>n,λ|23=>130|26=>9|3=>94|28=>185|0=>0|27=>184|33=>215|4=>4|n=>n,λ|n=>n⟩
def VC:Go.Proofs.SlLaysZ.n7 prog Cb:={
 mixed:=by kernel_rfl
 f7:=⟨f109.name,by decide,kq func109⟩
 f10:=⟨f166.name,by decide,kq func166⟩
 t0:=underlying0
 a0:=isAgg0
 z0:=sizeOf0
 v0:=zeroValue0
 t4:=underlying4
 a4:=isAgg4
 z4:=sizeOf4
 v4:=zeroValue4
 t23:=underlying130
 a23:=isAgg130
 z23:=sizeOf130
 v23:=zeroValue130
 t26:=underlying9
 a26:=isAgg9
 z26:=sizeOf9
 v26:=zeroValue9
 t27:=underlying184
 a27:=isAgg184
 z27:=sizeOf184
 v27:=zeroValue184
 t28:=underlying185
 a28:=isAgg185
 z28:=sizeOf185
 v28:=zeroValue185
 t33:=underlying215
 a33:=isAgg215
 z33:=sizeOf215
 v33:=zeroValue215}
def xC:Go.Shelf.Ren:=⟨λ|6=>108|8=>164|9=>165|11=>219|13=>183|12=>220|23=>238|24=>239|14=>271|15=>272|16=>273|17=>274|18=>275|19=>276|20=>277|21=>278|22=>279|25=>315|26=>295|27=>296|28=>316|29=>317|30=>318|31=>332|n=>n,λ|26=>9|28=>185|24=>90|0=>0|3=>3|37=>246|48=>293|50=>265|4=>4|40=>287|39=>286|45=>178|5=>5|9=>9|51=>341|55=>345|57=>361|58=>362|33=>215|n=>n,λ|n=>n⟩
def Ow:Go.Proofs.SlLaysZ.n6 prog xC:={
 mixed:=by kernel_rfl
 f6:=⟨f108.name,by decide,kq func108⟩
 f8:=⟨f164.name,by decide,kq func164⟩
 f11:=⟨f219.name,by decide,kq func219⟩
 t0:=underlying0
 a0:=isAgg0
 z0:=sizeOf0
 v0:=zeroValue0
 t24:=underlying90
 a24:=isAgg90
 z24:=sizeOf90
 v24:=zeroValue90
 t26:=underlying9
 a26:=isAgg9
 z26:=sizeOf9
 v26:=zeroValue9
 t28:=underlying185
 a28:=isAgg185
 z28:=sizeOf185
 v28:=zeroValue185
 i26:=by kernel_rfl}
def GI:Go.Shelf.Ren:=⟨λ|6=>165|8=>183|9=>220|19=>238|20=>239|21=>271|22=>272|23=>273|24=>274|25=>275|26=>276|27=>277|28=>278|29=>279|36=>315|31=>295|32=>296|37=>316|38=>317|39=>318|41=>332|n=>n,λ|27=>90|29=>9|3=>3|32=>246|26=>90|0=>0|44=>293|46=>265|4=>4|36=>287|35=>286|41=>178|5=>5|9=>9|53=>341|57=>345|63=>361|64=>362|n=>n,λ|n=>n⟩
def Kb:Go.Proofs.SlLaysM.n6 prog GI:={
 mixed:=by kernel_rfl
 f6:=⟨f165.name,by decide,kq func165⟩
 f8:=kq func183
 f9:=⟨f220.name,by decide,kq func220⟩
 f19:=kq func238
 f20:=kq func239
 f21:=⟨f271.name,by decide,kq func271⟩
 f22:=⟨f272.name,by decide,kq func272⟩
 f23:=⟨f273.name,by decide,kq func273⟩
 f24:=⟨f274.name,by decide,kq func274⟩
 f25:=⟨f275.name,by decide,kq func275⟩
 f26:=⟨f276.name,by decide,kq func276⟩
 f27:=⟨f277.name,by decide,kq func277⟩
 f28:=⟨f278.name,by decide,kq func278⟩
 f29:=⟨f279.name,by decide,kq func279⟩
 f31:=kq func295
 f32:=kq func296
 f36:=⟨f315.name,by decide,kq func315⟩
 f37:=⟨f316.name,by decide,kq func316⟩
 f38:=⟨f317.name,by decide,kq func317⟩
 f39:=⟨f318.name,by decide,kq func318⟩
 f41:=⟨f332.name,by decide,kq func332⟩
 t0:=underlying0
 a0:=isAgg0
 z0:=sizeOf0
 v0:=zeroValue0
 t3:=underlying3
 a3:=isAgg3
 z3:=sizeOf3
 v3:=zeroValue3
 t4:=underlying4
 a4:=isAgg4
 z4:=sizeOf4
 v4:=zeroValue4
 t5:=underlying5
 a5:=isAgg5
 z5:=sizeOf5
 v5:=zeroValue5
 t9:=underlying9
 a9:=isAgg9
 z9:=sizeOf9
 v9:=zeroValue9
 t26:=underlying90
 a26:=isAgg90
 z26:=sizeOf90
 v26:=zeroValue90
 t27:=underlying90
 a27:=isAgg90
 z27:=sizeOf90
 v27:=zeroValue90
 t29:=underlying9
 a29:=isAgg9
 z29:=sizeOf9
 v29:=zeroValue9
 t32:=underlying246
 a32:=isAgg246
 z32:=sizeOf246
 v32:=zeroValue246
 t35:=underlying286
 a35:=isAgg286
 z35:=sizeOf286
 v35:=zeroValue286
 t36:=underlying287
 a36:=isAgg287
 z36:=sizeOf287
 v36:=zeroValue287
 t41:=underlying178
 a41:=isAgg178
 z41:=sizeOf178
 v41:=zeroValue178
 t44:=underlying293
 a44:=isAgg293
 z44:=sizeOf293
 v44:=zeroValue293
 t46:=underlying265
 a46:=isAgg265
 z46:=sizeOf265
 v46:=zeroValue265
 t53:=underlying341
 a53:=isAgg341
 z53:=sizeOf341
 v53:=zeroValue341
 t57:=underlying345
 a57:=isAgg345
 z57:=sizeOf345
 v57:=zeroValue345
 t63:=underlying361
 a63:=isAgg361
 z63:=sizeOf361
 v63:=zeroValue361
 t64:=underlying362
 a64:=isAgg362
 z64:=sizeOf362
 v64:=zeroValue362}
end Go.Proofs
namespace Go.Bx
open Go.Proofs Go.Proofs.Tryz Go.RowKit Go.Sort
def xD(w:World):aY:={bJ:=λb _=>if b<w.heap.size then .ext else .free,hb:=λ_=>none,lb:=λ_ _=>none}
def VD:Nat->Option (List V):=λ_=>none
def Is{w:World}{args:List V}{xs:Array Value}(a:xs.size=args.length)(d:∀(j:Nat) v x,args[j]?=some v->xs[j]?=some x->VR (xD w) v x):rp VD (xD w) w aK.bare args xs where
 gF:=⟨λ_ _ e=>(by cases e),λb o x e=>(by simp only[xD]at e;split at e<;>cases e),λb f e=>(by simp only[xD]at e;split at e<;>cases e),λb o e=>cM λh=>e (by simp only[xD];rw[al h]),λ_ _ e=>(by cases e)⟩
 heap:=⟨λ_ _ e=>(by cases e),λ_ _ _ _ _ _ e=>(by cases e),λ_ _ e=>(by cases e),λ_ _=>rfl⟩
 len:=a
 arg:=d
def GJ{α:Type}{a b:Array α}(f:a.size<=b.size)(h:∀i,i<a.size->b[i]?=a[i]?):b=a++b.extract a.size b.size:=by
 apply pm;intro i;rw[kX];split
 next d=>exact h i d
 next d=>
  rw[mW];split
  .congr 1;omega
  next j=>rw[gM];omega
def It{w w':World}{g':aY}(h0:0<w.heap.size)(h:Step (xD w) w g' w'):∃q a,w'=grow (w.drewN q) a:=by
 refine⟨w'.drawn-w.drawn,w'.heap.extract w.heap.size w'.heap.size,?_⟩;have t:=GJ h.size λi d=>h.whole i d λo=>.inl (by simp only[xD];rw[ax d]);have j:=h.gY;obtain⟨l,p,r,f⟩:=j;replace f:=f (ax h0);cases w';cases w;simp only[grow,World.drewN]at*
 subst l p r;congr 1;omega
def Pure.ZP{P:Program}{f:FuncId}{args:List V}{v:V}{bJ:Bool}(h:Pure P VD f args v bJ)(w:World)(h0:0<w.heap.size)(xs:Array Value)(d:xs.size=args.length)(l:∀(j:Nat) v x,args[j]?=some v->xs[j]?=some x->VR (xD w) v x):
 Calls P f xs w λe w'=>∃x g',e=.returned x/\VR g' v x/\∃q a,w'=grow (w.drewN q) a:=
 h.2.2 (xD w) w xs (Is d l) _ λr x o t g' w' p out=>by
  obtain⟨rfl,rfl⟩:=p;exact⟨x,g',rfl,out.res,It h0 out.step⟩
end Go.Bx
namespace Go.Bx
open Go.Proofs Go.Proofs.Tryz
attribute [local irreducible] vc er dq b4 bU run iw iI iW i1 iG i2 iX iq iH iZ gA iY cS
def GK(l:List gS):Prop:=∀(k:Nat)(h:k+1<l.length),l[k].end_<=l[k+1].W
def GK.snoc{l:List gS}{t:gS}(h:GK l)(j:∀(k:Nat)(d:k+1=l.length),l[k].end_<=t.W):GK (l++[t]):=by
 intro k d;rw[ae,ew]at d;rcases am (k+1) l.length with a|a
 .rw[ej a,ej av];exact h k a
 .have f:k+1=l.length:=av;rw[ej av,gP av];simp only[f,iN,cw];exact j k f
def GK.init{l:List gS}{t:gS}(h:GK (l++[t])):GK l:=by
 intro k a;have:=h k (by rw[ae];omega)
 rwa [ej av,ej a]at this
def GM(s:T):∀n,GK (jq s n)
 |0=>by intro k h;simp[jq]at h
 |n+1=>by
  have ih:=GM s n;have new:∀k:Int,GK (jq s n++[⟨n,n+1,k⟩]):=λk=>ih.snoc λj a=>(Ap s n _ (ah _)).2.2;rw[jq];unfold qE;dsimp only;split
  .exact ih
  .split
   .split
    next t d=>
     obtain⟨f,e⟩:=lV.1 d;rw[e]at ih ⊢
     rw[nT];refine ih.init.snoc λj a=>?_;have:=ih j (by rw[ae,ew];omega);rw[ej av,gP av]at this;simpa[a]using this
    .exact new _
   .exact new _
def RZ(s:T)(k:Int)(ai:s.length<=10000):af 310 [S s,I k] (tI s k):=by
 have aA:(cr s).length<=s.length:=lC s _;have c:=ET s (by omega);have c2:=An s (by omega);have K:g8 s≠0->tI s k=.hJ [S [],S [],I (g8 s)]:=λh=>by unfold tI;rw[ax h]
 have p:g8 s=0->¬(1<=k/\k< (cr s).length/\lx (cr s) k.toNat=true)->tI s k=.hJ [S [],S [],I 5]:=λh d=>by unfold tI;rw[al (by simp[h]),al d]
 have L:g8 s=0->(1<=k/\k< (cr s).length/\lx (cr s) k.toNat=true)->tI s k=.hJ [S (s.take (((cr s).getD k.toNat ⟨0,0,0⟩).W-1).toNat),S (s.drop ((cr s).getD k.toNat ⟨0,0,0⟩).W.toNat),I 0]:=λh d=>by unfold tI;rw[al (by simp[h]),ax d]
 by_cases f:g8 s=0
 .rcases fp k 1 with N|N
  .rw[p f av];refine pk f310 ?_;repeat any_goals first|simp only[dt,simprocAttr]|(first|refine bZ (λh=>?_) (λh=>?_)|refine c8 (λh=>?_) (λh=>?_))<;>((try simp only[bB]at h);(try simp only[h]);(try simp only[jg]at h);(try omega))|((first|refine i0 c ?_ ?_|refine i0 c2 ?_ ?_);·simp only[ee,simprocAttr]<;>rfl)|apply Hm rfl rfl rfl rfl rfl rfl
   all_goals exact ak rfl
  rcases fp k (cr s).length with P|P
  .obtain⟨k,rfl⟩:∃j:Nat,k=j+1:=⟨(k-1).toNat,by omega⟩;have l:k+1< (cr s).length:=av;obtain⟨aB,Q,R⟩:=JP s (k+1) l;have ab:=GM s s.length k l;have a:((k:Int)+1).toNat=k+1:=av;have o:((k:Int)+1-1)=k:=by omega
   have t:lx (cr s) (k+1)=decide ((cr s)[k+1].W>(cr s)[k].end_):=by
    simp[lx,aa l,aa (show k< (cr s).length by omega)]
   by_cases r:(cr s)[k+1].W=(cr s)[k].end_
   .rw[p f (by rw[a,t];simp[r])];refine pk f310 ?_;repeat' first|simp(disch:=try exact om) only[dt,simprocAttr,a,o,r]|(first|refine cz ?_ ?_|refine gz ?_ ?_)<;>intro d h<;>(try simp only[d])<;>try omega|refine lq c ?_|refine lq c2 ?_|apply Hm rfl rfl rfl rfl rfl rfl
    all_goals exact ak rfl
   .have ac:(cr s)[k+1].W>(cr s)[k].end_:=by
     have:(cr s)[k].end_<=(cr s)[k+1].W:=ab;omega
    have u:lx (cr s) (k+1)=true:=by rw[t];exact dk ac
    have ad:=R av u;rw[L f ⟨av,av,by rw[a];exact u⟩,a];rw[ap,aa l,bf];obtain⟨q,y⟩:∃q:Nat,(cr s)[k+1].W=q:=⟨(cr s)[k+1].W.toNat,av⟩;have z:(q:Int)-1=((q-1:Nat):Int):=av;have A:((cr s)[k+1].W).toNat=q:=av;have D:((cr s)[k+1].W-1).toNat=q-1:=av;rw[A,D];have H:(s.drop q).take (s.length-q)=s.drop q:=aE bT;rw[y]at Q ad r;refine pk f310 ?_;repeat' first|simp(disch:=try exact om) only[dt,simprocAttr,a,o,y,z]|(first|refine cz ?_ ?_|refine gz ?_ ?_)<;>intro d h<;>(try simp only[d])<;>try omega|refine lq c ?_|refine lq c2 ?_|apply Hm rfl rfl rfl rfl rfl rfl
    .exact ak rfl
    .exact ak (aq S H)
    .exact ak rfl
  .rw[p f av];refine pk f310 ?_;repeat any_goals first|simp only[dt,simprocAttr]|(first|refine bZ (λh=>?_) (λh=>?_)|refine c8 (λh=>?_) (λh=>?_))<;>((try simp only[bB]at h);(try simp only[h]);(try simp only[jg]at h);(try omega))|((first|refine i0 c ?_ ?_|refine i0 c2 ?_ ?_);·simp only[ee,simprocAttr]<;>rfl)|apply Hm rfl rfl rfl rfl rfl rfl
   all_goals exact ak rfl
 .rw[K f];refine pk f310 ?_;exact Yp
def Ox(k:Int):V:=.agg [.fn (261+k.toNat) [],B (decide (3<=k)),B (decide (k=7))]
def R0(k:Int)(a:0<=k/\k<=9):af 214 [I k] (Ox k):=by
 have h:k=0\/k=1\/k=2\/k=3\/k=4\/k=5\/k=6\/k=7\/k=8\/k=9:=av;unfold Ox;rcases h with rfl|rfl|rfl|rfl|rfl|rfl|rfl|rfl|rfl|rfl
 all_goals
  refine pk f214 ?_;repeat' first|simp(disch:=try exact om) only[gE,simprocAttr,aQ]|refine ei ?_|(refine ao nE ?_;refine tS ev rfl ?_;(all_goals(try((apply ak;simp;done)))))
def LP{α β:Type}{a:List α}{b:List β}:(a.length:Int)+b.length=0↔a=[]/\b=[]:=by
 constructor
 .intro h;exact⟨bH.1 av,bH.1 av⟩
 .rintro⟨rfl,rfl⟩;rfl
def Kc(o:Op)(f:o.ok)(j:0<=o.kind/\o.kind<=9):af 213 [o.v] (B (decide (o=nB o))):=by
 obtain⟨kind,⟨y,z,A⟩,⟨D,H,K⟩,⟨L,N,c3⟩,P,Q,R,ab,d,a,u⟩:=o;simp only at j;obtain⟨_,l,_,p,q⟩:=f;simp only at l p q;have r:IntKind.i64.wrap ((d.length:Int)+a.length)=(d.length:Int)+a.length:=wrap_i64 av av;have h:kind=0\/kind=1\/kind=2\/kind=3\/kind=4\/kind=5\/kind=6\/kind=7\/kind=8\/kind=9:=av;simp only[Op.v,Op.c];rcases h with rfl|rfl|rfl|rfl|rfl|rfl|rfl|rfl|rfl|rfl
 all_goals
  refine pk f213 ?_;repeat' first|simp(disch:=omega) only[dt,simprocAttr,r,aQ]|refine gz ?_ ?_<;>intro t h<;>try simp only[t]|refine q1 ?_
  all_goals
   refine ak (aq V.bool ?_);rw[db];simp_all[nB,XL,LP]
def ZQ:CF GL f206 [31] [] 206:=jo
def ZR:CF GL f208 [31] [] 208:=jo
def ZS:CF GL f209 [38] [] 209:=jo
def xE:af 157 [B true] (.hJ []):=by
 refine pk f157 ?_;repeat any_goals first|simp only[dt,simprocAttr]|exact rq0
def Reads(id:Nat)(b:T)(E:aK)(W:Nat)(a:aK):Prop:=a.box=eQ E.box id (some [dc b,I W])/\a.mp=E.mp/\a.Y=E.Y
def xF(id:Nat)(b r:T)(a:Nat)(l:List Int)(E:aK)(hb:E.box id=some [dc b,I a])(hd:b.drop a=cX l++r)(o:a<=b.length)(t:b.length<=10000000)(p:∀n∈l,jG n):
 aI 206 [.bp id 0] E λv _ f=>v=fq l/\Reads id b E (a+(cX l).length) f:=by
 have hlen:b.length=a+((cX l).length+r.length):=by
  exact PP
 have j:=JX l r av p;have q:=xE;have d:=nJ b a o;rw[hd]at d;simp only[dc]at j d hb;generalize (cX l).length=A at*
 refine bq ZQ.ok rfl ?_;repeat any_goals first|simp(disch:=try exact om) only[gE,simprocAttr,hb,d]|refine lq j ?_|refine lq q ?_
 exact wb8
def Kd(id:Nat)(b r:T)(a:Nat)(l:List T)(E:aK)(hb:E.box id=some [dc b,I a])(hd:b.drop a=g7 l++r)(o:a<=b.length)(q:b.length<=10000000):
 aI 208 [.bp id 0] E λv _ f=>v=eZ l/\Reads id b E (a+(g7 l).length) f:=by
 have hlen:b.length=a+((g7 l).length+r.length):=by
  exact PP
 have j:=JW l r av;have p:=xE;have d:=nJ b a o;rw[hd]at d;simp only[dc]at j d hb;generalize (g7 l).length=A at*
 refine bq ZR.ok rfl ?_;repeat any_goals first|simp(disch:=try exact om) only[gE,simprocAttr,hb,d]|refine lq j ?_|refine lq p ?_
 exact wb8
def Ke(id:Nat)(b r:T)(a:Nat)(n d:Nat)(E:aK)(hb:E.box id=some [dc b,I a])(hd:b.drop a=cC n++r)(o:a<=b.length)(u:b.length<=10000000)(y:n<=d)(t:d<=1000):
 aI 209 [.bp id 0,I d] E λv _ j=>v=I n/\Reads id b E (a+(cC n).length) j:=by
 have hlen:b.length=a+((cC n).length+r.length):=by
  exact PP
 have l:=Fa n (by unfold jG;omega) r av;have p:=xE;have f:=nJ b a o;rw[hd]at f;simp only[dc]at l f hb;have c3:=J0 n d;have q:decide (0<=(n:Int)/\(n:Int)<=d)=true:=by simp;omega
 rw[q]at c3;generalize (cC n).length=A at*
 refine bq ZS.ok rfl ?_;repeat any_goals first|simp(disch:=try exact om) only[gE,simprocAttr,hb,f]|refine lq l ?_|refine lq p ?_|refine lq c3 ?_
 exact wb8
def Fg:Prop:=∀s:T,s.length<=1000000->af 301 [S s,S [64]] (I (if s.all (λb=>b.toNat !=64)=true then -1 else E1 (s.findIdx? λb=>b.toNat==64)))
def Kf(s:T):Int:=if s.all (λb=>b.toNat !=64)=true then -1 else E1 (s.findIdx? λb=>b.toNat==64)
def Oy(s:T):decide (0<=Kf s)= !s.all λb=>b.toNat !=64:=by
 unfold Kf;by_cases h:s.all (λb=>b.toNat !=64)=true
 .rw[ax h,h];rfl
 .rw[al h,show s.all (λb=>b.toNat !=64)=false by simpa using h];rcases hf:s.findIdx? λb=>b.toNat==64 with _|j
  .exact Yb
  .simp[E1,hf]
def R1(a:Fg)(s:T)(d:s.length<=1000000):af 253 [S s,S [64]] (I (Kf s)):=by
 have c:=a s d;change af 301 [S s,S [64]] (I (Kf s))at c;refine pk f253 ?_;repeat' first|simp only[dt,simprocAttr]|refine lq c ?_|refine q1 ?_
 all_goals exact .refl _
def R2(a:Fg)(s:T)(d:s.length<=1000000):af 203 [S s,S [64]] (B (!s.all λb=>b.toNat !=64)):=by
 have c:=R1 a s d;rw[<-Oy s];refine pk f203 ?_;exact Ul
def R3(d:Fg):D0:=by
 intro s a;have c:=R2 d s a;have f:=An s a;refine pk f153 ?_;repeat' first|simp only[dt,simprocAttr]|refine gz ?_ ?_<;>intro j h<;>try simp only[j]|refine lq c ?_|refine lq f ?_|refine q1 ?_
 all_goals exact ak (aq V.bool (by simp[iS, *]<;>omega))
def VE{P:Program}{GL:aj}{d:Option Nat}{pu:Bool}{r:List BI}{K:St->Prop}{s:St}{x y:eL}{l:List UInt8}{c:Int}{fA:aK}(a:s.E=fA)(hx:s.val x=.str l)(f:s.val y=.int .u8 c)(h0:0<=c)(j:c<256)
 (h:gA P GL d pu r s K (.int .i64 (HU l (UInt8.ofNat c.toNat))) false fA):(MX.KY x y).wp s (gA P GL d pu r s K):=by
 subst a;simp only[MX.wp,hx,f];exact⟨h0,j,h⟩
def R4(s:T):af 324 [S s,.int .u8 64] (I (HU s 64)):=by
 refine pk f324 ?_;repeat any_goals simp only[dt,simprocAttr]
 refine VE (l:=s) (c:=64) (fA:=aK.bare) ?_ ?_ ?_ du du ?_
 .exact sT
 .exact sT
 .exact sT
 repeat any_goals first|simp only[gE,simprocAttr]|refine q1 ?_
 exact .refl _
def R5(s:T):af 301 [S s,S [64]] (I (HU s 64)):=by
 refine pk f301 ?_ [94];repeat any_goals first|simp(disch:=try exact om) only[dt,simprocAttr]|refine cs ?_ ?_<;>intro h|refine lq (R4 s) ?_|refine q1 ?_
 .subst h;exact ak (aq I du)
 .exact .refl _
def LR(s:T):HU s 64=if s.all (λb=>b.toNat !=64)=true then -1 else E1 (s.findIdx? λb=>b.toNat==64):=by
 have f:∀i (h:i<s.length),(⟨s.toArray⟩:ByteArray)[i]! =s[i]:=by
  intro i h;have l:i< (⟨s.toArray⟩:ByteArray).size:=by simpa[ByteArray.size]using h
  rw[jP (⟨s.toArray⟩:ByteArray) i l];rfl
 have a:∀b:UInt8,(b==64)=(b.toNat==64):=by
  intro b;rw[db,i4,i4];exact⟨λh=>by rw[h];rfl,λh=>UInt8.toNat_inj.1 h⟩
 have p:(⟨s.toArray⟩:ByteArray).size=s.length:=by simp[ByteArray.size]
 unfold HU firstIdx;rw[p];by_cases h:s.all (λb=>b.toNat !=64)=true
 .rw[ax h];have:(List.range s.length).find? (λi=>(⟨s.toArray⟩:ByteArray)[i]! ==64)=none:=by
   rw[List.find?_range_eq_none];intro i d;rw[f i d,a];have:=bO.1 h _ (ah d);simpa using this
  rw[this]
 .rw[al h];rcases hf:s.findIdx? λb=>b.toNat==64 with _|j
  .exact Yb
  .obtain⟨o,l,q⟩:=List.findIdx?_eq_some_iff_getElem.1 hf;have:(List.range s.length).find? (λi=>(⟨s.toArray⟩:ByteArray)[i]! ==64)=some j:=by
    rw[List.find?_range_eq_some];refine⟨by rw[f j o,a];exact l,dm.2 o,λi d=>?_⟩;rw[f i av,a];have:=q i d;simpa using this
   rw[this];simp[E1,hf]
def VF:Fg:=λs _=>by rw[<-LR];exact R5 s
def TM:D0:=R3 VF
end Go.Bx
namespace Go.Bx.Z
open Go.Proofs Go.Proofs.Tryz
attribute [local irreducible] vc er dq b4 bU run iw iI iW i1 iG i2 iX iq iH iZ gA iY cS
def GL:Nat->Option (List V):=VD
def ZT:CF GL f184 [] [] 184:=jo
def ZU:CF GL f131 [] [] 131:=jo
def ZV:CF GL f130 [15,17] [] 130:=jo
def abx:CF GL f95 [] [] 95:=jo
def ZW:CF GL f114 [] [] 114:=jo
def wP(a:Int):Pure prog GL 184 [I a] (B false):=by
 refine pq ZT.ok rfl (by simp only[dx]) ?_;repeat any_goals first|simp only[dt,simprocAttr]|refine q1 ?_
 all_goals exact ak (aq V.bool bT)
def vk(a b:Int):Pure prog GL 131 [I a,I b] (I (qT a b)):=by
 refine pq ZU.ok rfl (by simp only[dx]) ?_;repeat any_goals first|simp only[dt,simprocAttr]|(refine bZ (λh=>?_) (λh=>?_))<;>((try simp only[h]);(try simp only[jg]at h))|(refine i0 (wP a) ?_ ?_;·simp only[ee,simprocAttr]<;>rfl)|(refine i0 (wP b) ?_ ?_;·simp only[ee,simprocAttr]<;>rfl)|apply qD rfl rfl
 all_goals exact ak (aq I (by unfold qT;split<;>first|rfl|omega))
def Kg(l:List Int)(a:l.length<=1000000000):Pure prog GL 130 [fq l] (I (PS l)):=by
 refine pq ZV.ok rfl (by simp only[dx]) ?_;repeat any_goals simp only[dt,simprocAttr]
 refine sl (λk:Nat=>k<=l.length/\PS (l.drop k)=PS l) (λk=>[(8,I k,false)]) (λk=>l.length-k) (0) (⟨bT,rfl⟩) ?_;rintro k ⟨d,he⟩;rcases am k l.length with h1|h1
 .rw[bG h1,PS]at he;repeat any_goals first|simp(disch:=try exact om) only[dt,simprocAttr]|refine cs ?_ ?_<;>intro h<;>try omega|refine ba (k+1) ?_|refine q1 ?_
  .exact ak (aq I (by rw[<-he,ax (by assumption)]))
  .rw[al (by simpa using h)]at he;exact⟨h1,he⟩
 .repeat any_goals first|simp only[dt,simprocAttr]|refine cs ?_ ?_<;>intro h<;>try omega|refine q1 ?_
  exact Yk
def Oz(a b:ID):Pure prog GL 95 [a.v,b.v] (I (rb a b)):=by
 have c:=Kg [qT a.J b.J,qT a.seq b.seq,qT a.k b.k] bT;refine pq abx.ok rfl (by simp only[dx]) ?_;unfold rb;repeat any_goals first|simp only[dt,simprocAttr]|refine lq (vk a.J b.J) ?_|refine lq (vk a.seq b.seq) ?_|refine lq (vk a.k b.k) ?_|refine lq c ?_|refine q1 ?_
 all_goals exact ak rfl
def R6(a b:cI):Pure prog GL 114 [a.v,b.v] (I (p8 a b)):=by
 have c:=Kg [rb a.from_ b.from_,rb a.to b.to] bT;refine pq ZW.ok rfl (by simp only[dx]) ?_;unfold p8;repeat any_goals first|simp only[dt,simprocAttr]|refine lq (Oz a.from_ b.from_) ?_|refine lq (Oz a.to b.to) ?_|refine lq c ?_|refine q1 ?_
 all_goals exact ak rfl
end Go.Bx.Z
namespace Go.Bx
open Go.Proofs Go.Proofs.Tryz Go.RowKit Go.Sort Go.Shelf Go.Lib
def uR(x:cI):List Value:=[.int .i64 x.from_.J,.int .i64 x.from_.seq,.int .i64 x.from_.k,.int .i64 x.to.J,.int .i64 x.to.seq,.int .i64 x.to.k]
def Kh(g:aY)(x:cI):fJ g x.v.cells (uR x):=by
 refine⟨rfl,λj c y a d=>?_⟩
 match j,a,d with
 |0,a,d=>cases a;cases d;exact .int _ _
 |1,a,d=>cases a;cases d;exact .int _ _
 |2,a,d=>cases a;cases d;exact .int _ _
 |3,a,d=>cases a;cases d;exact .int _ _
 |4,a,d=>cases a;cases d;exact .int _ _
 |5,a,d=>cases a;cases d;exact .int _ _
 |n+6,a,d=>cases a
def Ki(g:aY)(x:cI):VR g x.v (.agg (uR x).toArray):=by
 refine .agg _ _ rfl (λj c h=>?_) (λj c y a d=>(Kh g x).2 j c y a (by simpa using d))
 match j,h with
 |0,h=>cases h;rfl
 |1,h=>cases h;rfl
 |2,h=>cases h;rfl
 |3,h=>cases h;rfl
 |4,h=>cases h;rfl
 |5,h=>cases h;rfl
 |n+6,h=>cases h
instance:Inhabited cI:=⟨⟨⟨0,0,0⟩,⟨0,0,0⟩⟩⟩
def LS(f off size:Nat)(w:World)(h0:0<w.heap.size):CmpLays prog 114 #[] uR 6 p8 f off size w:=by
 intro m os p _ x y;refine((Z.R6 x y).ZP _ (bj h0 (SWK.le ⟨m,os,rfl⟩)) _ rfl ?_).mono ?_
 .intro j v z a d
  match j,a,d with
  |0,a,d=>cases a;cases d;exact Ki _ x
  |1,a,d=>cases a;cases d;exact Ki _ y
  |n+2,a,d=>cases a
 .rintro e q ⟨z,r,rfl,l,o⟩;cases l;exact⟨rfl,o⟩
end Go.Bx
