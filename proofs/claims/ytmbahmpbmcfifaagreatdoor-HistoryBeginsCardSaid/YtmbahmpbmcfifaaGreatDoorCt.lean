/- Lemmas for HistoryBegins. -/
import Derived.Test.YtmbahmpbmcfifaaGreatDoorCr
noncomputable section
set_option linter.all false
set_option maxHeartbeats 4000000
set_option maxRecDepth 100000
namespace Go.Bx
open Go.Proofs Go.Proofs.Tryz
attribute [local irreducible] vc er dq b4 bU run iw iI iW i1 iG i2 iX iq iH iZ gA iY cS
def G9:∀s∈Aq,iS s=true:=du
def O8:∀s∈ze,iS s=true:=du
def O9{s:T}(h:iS s=true):s.length<=24:=by
 simp only[iS,be,cq]at h;exact h.1.1
def sq(n:Int):iS (lQ n)=true:=by
 have hb:=sc n 8 av;unfold lQ;rw[ap,aa (by show _<8;omega),bf];exact G9 _ (ah _)
structure aW.raw(r:aW):Prop where
 J:0<=r.J/\r.J<=5
 seq:r.seq=0
 C:r.C=[]
 kind:r.kind=0\/r.kind=1\/r.kind=2\/r.kind=3\/r.kind=4\/r.kind=5\/r.kind=6
 plain:r.plain
 op:r.op.small
 tC:r.dy.eH.length<=8
 words:∀s∈r.dy.name::r.dy.see::r.dy.eH,s=[]\/iS s=true
 Pa:(0<=r.dy.kind/\r.dy.kind<=2)/\(0<=r.dy.en/\r.dy.en<=3)
 dy:r.kind=2->iS r.dy.name=true/\r.dy.eH.all iS=true
 id: -1<=r.id.J/\r.id.J<=100/\0<=r.id.seq/\r.id.seq<=100/\0<=r.id.k/\r.id.k<=100
 n:0<=r.n/\r.n<=100
 cU:r.cU.length<=16/\∀p∈r.cU,(1<=p.path.length/\p.path.length<=4)/\p.path.all iS=true
def Ha{p:List aW}{r:aW}{t:Int}(h:r.plain):(jM p r t).plain:=⟨h.op,h.dy,h.id,h.cU,h.n,h.pid⟩
def CB{p:List aW}{t:Int}(l:Kx p t)(Q:1<=t/\t<=1000000)(ad:p.length<=60){r:aW}(h:r.raw):(jM p r t).good:=by
 have N:=l.at Q.1 r h.seq h.C;have z:(jM p r t).seq=DZ p r.J p.length:=by show r.seq+_=_;rw[h.seq];omega
 have R:=In p r.J p.length;have A:∀a∈(jM p r t).C,a.mj=true/\a≠(jM p r t).name:=by
  intro a H;obtain⟨u,K,_⟩:=N.C a H;rcases l.g4 a with h1|⟨x,hx,h1,_⟩
  .rw[K]at h1;cases h1
  .refine⟨?_,λe=>?_⟩
   .have o:=l.seq x hx;have ai:=l.J x hx;have aA:=In p x.J p.length;subst h1;exact dk (by show 0<=x.J/\x.J<=5/\0<=x.seq/\x.seq<=63;omega)
   .rw[e,N.new]at K;cases K
 have ab:(jM p r t).C.length<=1:=by
  show(if 0<p.length/\t.tmod 3=0 then zh p else r.C).length<=1;rw[h.C];split
  .unfold zh;split<;>simp
  .simp
 have y:(jM p r t).name.mj=true:=by
  have h1:(jM p r t).name=⟨r.J,DZ p r.J p.length⟩:=by unfold aW.name;rw[z];rfl
  have:=h.J;rw[h1];simp only[Name.mj,cq];omega
 have j:∀s:T,s=[]\/iS s=true->s.length<=24:=λs f=>by
  rcases f with rfl|f
  .simp
  .exact O9 f
 have dW:=h.id;have d:=h.n;have D:=h.Pa;have ac:=h.J;exact {
  enc:={
   head:=by
    intro n d;simp only[bn,cE,gL]at d;rcases d with e|e|e|e<;>rw[e]
    .show jG r.J;unfold jG;omega
    .rw[z];unfold jG;omega
    .show jG t;unfold jG;omega
    .show jG r.kind;have:=h.kind;unfold jG;omega
   kind:=h.kind
   C:=av
   VH:=by
    intro n d;obtain⟨a,H,d⟩:=dC.1 d;have:=(A a H).1;simp only[Name.mj,cq]at this;simp only[bn,cE,gL]at d;unfold jG;rcases d with rfl|rfl<;>omega
   op:=h.op.enc
   dy:=by
    intro n d;simp only[bn,cE,gL]at d;unfold jG;rcases d with rfl|rfl
    .show _<=r.dy.kind/\r.dy.kind<=_;omega
    .show _<=r.dy.en/\r.dy.en<=_;omega
   tC:=by show r.dy.eH.length<=1000;have:=h.tC;omega
   words:=λs f=>by have:=j s (h.words s f);omega
   id:=by
    intro n d;simp only[bn,cE,gL]at d;unfold jG;rcases d with rfl|rfl|rfl|rfl
    .show _<=r.id.J/\r.id.J<=_;omega
    .show _<=r.id.seq/\r.id.seq<=_;omega
    .show _<=r.id.k/\r.id.k<=_;omega
    .show _<=r.n/\r.n<=_;omega
   cU:=by show r.cU.length<=1000;have:=h.cU.1;omega
   path:=λq L=>by
    obtain⟨h1,o⟩:=h.cU.2 q L;exact⟨av,λs f=>by have:=j s (.inr (bO.1 o s f));omega⟩}
  plain:=Ha h.plain
  ok:=⟨av,h.op.ok,⟨by have:=j _ (h.words r.dy.name bT);show r.dy.name.length<=_;omega,by have:=j _ (h.words r.dy.see bT);show r.dy.see.length<=_;omega,by have:=h.tC;show r.dy.eH.length<=_;omega,λx hx=>by have:=j _ (h.words x (by simp[show x∈r.dy.eH from hx]));omega⟩,by have:=h.cU.1;show r.cU.length<=_;omega,λq L=>by
    obtain⟨h1,o⟩:=h.cU.2 q L;exact⟨av,λs f=>by have:=j s (.inr (bO.1 o s f));omega⟩⟩
  VI:=av
  Kn:=h.cU.1
  tC:=h.tC
  opl:=h.op.len
  name:=y
  eo:=by show 0<=t/\t<=_;omega
  n:=by show 0<=r.n/\r.n<=_;omega
  Sd:=A
  C:=λi aB=>av
  dy:=λP=>⟨(h.dy P).1,by
   rcases h.words r.dy.see bT with h1|h1
   .exact .inl h1
   .exact .inr h1,D.1,D.2,(h.dy P).2⟩
  cU:=h.cU.2}
def s8{b k:Int}(hb:0<=b/\b<=5)(d:k=0\/k=1):(pi b k).raw where
 J:=hb
 seq:=rfl
 C:=rfl
 kind:=by show k=0\/_;rcases d with h|h<;>simp[h,pi]
 plain:=⟨λ_=>rfl,λ_=>rfl,λ_ _ _ _=>rfl,λ_ _=>rfl,λ_ _=>rfl,λp E=>by cases E⟩
 op:=nz
 tC:=by simp[pi,E3]
 words:=by intro s a;simp[pi,E3]at a;exact .inl a
 Pa:=by simp[pi,E3]
 dy:=by intro h;simp only[pi]at h;omega
 id:=by simp[pi]
 n:=by simp[pi]
 cU:=⟨by simp[pi],λp E=>by cases E⟩
def IT{b:Int}(hb:0<=b/\b<=5){o:Op}(a:o.small):aW.raw {pi b 0 with op:=o}:=
 let h:=s8 hb (.inl rfl:(0:Int)=0\/(0:Int)=1)
 {h with op:=a,plain:=⟨λe=>absurd rfl e,h.plain.dy,h.plain.id,h.plain.cU,h.plain.n,h.plain.pid⟩}
def Pb{g:GS}(a:uX g.w)(n:Nat): -1<=(wF g n).J/\(wF g n).J<=100/\0<=(wF g n).seq/\(wF g n).seq<=100/\0<=(wF g n).k/\(wF g n).k<=100:=by
 unfold wF;split
 .have:=Fz a (n/16%(dj g.w).length);unfold qb at this;omega
 .simp
def Pc(a:ID)(n i:Nat):(1<=(xr a n i).path.length/\(xr a n i).path.length<=4)/\(xr a n i).path.all iS=true:=by
 unfold xr;simp only[bR,sq,hI,aM];split
 .simp only[ew,bR,cm,pI];refine⟨av,?_⟩;rw[ap,aa (by show _<3;omega),bf];exact O8 _ (ah _)
 .simp
def Pd(a:ID)(n k:Nat):(pU a n k).length=k/\∀p∈pU a n k,p.id=a/\(1<=p.path.length/\p.path.length<=4)/\p.path.all iS=true:=by
 refine⟨by simp[pU],λp E=>?_⟩;obtain⟨i,_,rfl⟩:=cB.1 E;exact⟨rfl,Pc a n i⟩
def Hb{g:GS}(l:uX g.w){b k:Int}(hb:0<=b/\b<=5)(q:k=3\/k=4)(n m j:Nat)(o:j<=16):aW.raw {pi b k with id:=wF g n,cU:=pU (wF g n) m j}:=by
 have h:=s8 hb (.inl rfl:(0:Int)=0\/(0:Int)=1);have a:=Pd (wF g n) m j;exact {h with kind:=by simp only[pi];omega,id:=Pb l n,cU:=⟨by simp only;rw[a.1];exact o,λp E=>(a.2 p E).2⟩,plain:=⟨λ_=>rfl,λ_=>rfl,λd f=>by simp only[pi]at d f;omega,λd f=>by simp only[pi]at d f;omega,λ_ _=>rfl,λp E=>(a.2 p E).1⟩,dy:=by intro h;simp only[pi]at h;omega}
def Hc{g:GS}(f:uX g.w){k:Int}(j:k=5\/k=6)(n:Nat):aW.raw {pi 5 k with id:=wF g n,n:=(n%7:Nat)}:=by
 have h:=s8 (by omega:(0:Int)<=5/\(5:Int)<=5) (.inl rfl:(0:Int)=0\/(0:Int)=1);exact {h with kind:=by simp only[pi];omega,id:=Pb f n,n:=by simp only;omega,plain:=⟨λ_=>rfl,λ_=>rfl,λ_ _ a d=>by simp only[pi]at a d;omega,λ_ _=>rfl,λa d=>by simp only[pi]at a d;omega,λp E=>by cases E⟩,dy:=by intro h;simp only[pi]at h;omega}
def Pe(n:Nat):aW.raw {pi 5 2 with dy:=ox n}:=by
 have h:=s8 (by omega:(0:Int)<=5/\(5:Int)<=5) (.inl rfl:(0:Int)=0\/(0:Int)=1);have hb:(ox n).eH.length<=1/\∀s∈(ox n).eH,iS s=true:=by
  simp only[ox];split
  .exact⟨bT,λs a=>by obtain rfl:=aR.1 a;exact sq _⟩
  .exact⟨bT,λs a=>by cases a⟩
 have d:(ox n).see=[]\/iS (ox n).see=true:=by
  simp only[ox];split
  .exact .inr (sq _)
  .exact .inl rfl
 have f:∀s∈(ox n).name::(ox n).see::(ox n).eH,s=[]\/iS s=true:=by
  intro s a;rcases bn.1 a with e|a
  .rw[e];exact .inr (sq _)
  .rcases bn.1 a with e|a
   .rw[e];exact d
   .exact .inr (hb.2 s a)
 have j:(0<=(ox n).kind/\(ox n).kind<=2)/\(0<=(ox n).en/\(ox n).en<=3):=by simp only[ox];omega
 exact {h with kind:=by simp[pi],tC:=aT hb.1 du,words:=f,Pa:=j,dy:=λ_=>⟨sq _,bO.2 hb.2⟩,plain:=⟨λ_=>rfl,λl=>by simp[pi]at l,λ_ _ _ _=>rfl,λ_ _=>rfl,λ_ _=>rfl,λp E=>by cases E⟩}
def Pf{g:GS}(d:g.w.fits)(a:uX g.w)(l:List Int)(c kind:Int)(f:0<=kind/\kind<=13)(n:Nat):(zW g l c kind n).raw:=by
 unfold zW;split
 .exact s8 av (.inr rfl)
 split
 .exact Pe n
 split
 .exact Hc a (.inl rfl) n
 split
 .exact Hc a av n
 split
 .exact Hb a av (.inl rfl) n n (n%3) av
 split
 .exact Hb a av (.inr rfl) n (n/2) (n/2%3) av
 .exact IT av (IP d a l (c+2))
def He(l:List Int)(i:Nat):((yE l).getD i iT).small:=by
 have a:=nz;have d:=wK l 1 ⟨0,0,0⟩;have j:=vu l 1 ⟨0,0,0⟩;have f:=wK l 6 ⟨0,0,0⟩;have o:=vu l 6 ⟨0,0,0⟩;unfold yE
 match i with
 |0=>exact a
 |1=>exact {a with kind:=bT,bN:=qY _ _}
 |2=>exact {a with kind:=bT,en:=by show -1000000<=(mq l 1 ⟨0,0,0⟩).en/\(mq l 1 ⟨0,0,0⟩).en<=1000000;omega,bN:=d.1,C:=⟨by show(mq l 1 ⟨0,0,0⟩).C.length<=256;omega,d.2.2.2⟩}
 |3=>exact {a with kind:=bT,idx:=bT,eD:=by show -1000000<=(mq l 6 ⟨0,0,0⟩).eD/\(mq l 6 ⟨0,0,0⟩).eD<=1000000;omega,en:=by show -1000000<=(mq l 6 ⟨0,0,0⟩).en/\(mq l 6 ⟨0,0,0⟩).en<=1000000;omega,bN:=f.1,C:=⟨by show(mq l 6 ⟨0,0,0⟩).C.length<=256;omega,f.2.2.2⟩}
 |i+4=>exact a
def CC{g:GS}(a:g.w.fits)(d:uX g.w)(l:List Int)(n i:Nat):(zX l n i g).raw:=by
 unfold zX;split
 .exact IT av (He l i)
 split
 .have:=ig l (14+16*((i:Int)-4)) 14 av;exact Pf a d l _ _ av _
 .exact s8 av (.inr rfl)
def aaC:cg.fits ⟨[]⟩:=⟨⟨bT,λv h=>(by cases h),by simp[dj,lA]⟩,by simp[dj,lA],⟨bT,λv h=>(by cases h)⟩,λp E=>(by cases E)⟩
structure MAt(l:List Int)(n i:Nat)(s:MS):Prop where
 ok:Kx s.out s.eo
 len:s.out.length=i
 eo:1<=s.eo/\s.eo<=1+2*i
 good:∀e∈s.out,e.good
 prs:∀e∈s.out,e.op.cW.length<=16
 fits:s.g.w.fits
 X:uX s.g.w
 n:s.g.n<=16
def Pg{g:GS}(a:g.w.fits){e:aW}(d:e.op.small):(OG g e).w.fits:=by
 unfold OG;split
 .simp only;split
  next h=>exact nu (FA a.1 d.ok (λt f=>by have:=d.F.2 t f;omega) _) (Ei h)
  .exact a
 .split<;>exact a
def SO{g:GS}(a:uX g.w)(e:aW):uX (OG g e).w:=by
 unfold OG;split
 .simp only;split
  .exact OZ a _ _
  .exact a
 .split<;>exact a
def aaD{g:GS}(h:g.n<=16)(e:aW):(OG g e).n<=16:=by
 unfold OG;split
 .exact h
 .split
  .simp only;split<;>omega
  .exact h
def CD(l:List Int)(n:Nat):∀i,i<=50->MAt l n i (l1 l n i)
 |0,_=>⟨.nil,rfl,by simp[l1],λe a=>(by cases a),λe a=>(by cases a),aaC,λp E=>(by cases E),by simp[l1]⟩
 |i+1,o=>by
  have h:=CD l n i av;have f:=CC h.fits h.X l n i;have hb:=ig l (14+16*(i:Int)) 2 av;have j:=h.eo;have q:=h.len;refine⟨h.ok.push j.1 ?_ _ f.seq f.C f.J,?_,?_,λe a=>?_,λe a=>?_,?_,?_,?_⟩
  .show(l1 l n i).eo< (l1 l n i).eo+1+W l (14+16*(i:Int)) 2;omega
  .show((l1 l n i).out++[_]).length=i+1;rw[ae,h.len];rfl
  .show 1<=(l1 l n i).eo+1+W l (14+16*(i:Int)) 2/\(l1 l n i).eo+1+W l (14+16*(i:Int)) 2<=1+2*((i+1:Nat):Int);omega
  .rcases aN.1 a with d|d
   .exact h.good e d
   .obtain rfl:=aR.1 d;exact CB h.ok av av f
  .rcases aN.1 a with d|d
   .exact h.prs e d
   .obtain rfl:=aR.1 d;exact f.op.cW.1
  .exact Pg h.fits f.op
  .exact SO h.X _
  .exact aaD h.n _
def Ph(l:List Int):uV (uW l)/\oz (uW l)/\(∀e∈uW l,e.good)/\(∀e∈uW l,e.op.cW.length<=16)/\(uW l).length=5+tD l/\5<=(uW l).length/\(uW l).length<=14:=by
 have hb:=ig l 0 10 av;have a:tD l<=9:=by unfold tD;omega
 have h:=CD l (tD l) (5+tD l) av;have:=h.len;exact⟨h.ok.ticks,h.ok.closed,h.good,h.prs,h.len,by show 5<=(l1 l (tD l) (5+tD l)).out.length;omega,by show(l1 l (tD l) (5+tD l)).out.length<=14;omega⟩
def gsz(i:Nat):Nat:=if i=0 then 2 else if i=1 then 6 else 5
structure GQ(base E:aK)(dW:Nat)(w:cg)(n K:Nat)(F:Nat->V)(X:Nat->List V):Prop where
 box:E.box dW=some [.aP,.aP,cf w.O,F 0,F 1,F 2]
 sl:∀i,i<3->gu (gsz i) E (F i) (X i)
 IU:(X 0).length=n
 len:∀i,i<3->(X i).length<=K
 ne:∀i,i<3->bI (F i)≠some dW
 inj:∀i j k,i<3->j<3->i≠j->bI (F i)=some k->bI (F j)≠some k
 bd:base.Y<=dW/\dW<E.Y
 TZ:∀i k,i<3->bI (F i)=some k->base.Y<=k/\k<E.Y
 same:bA none base E
def GH(base E:aK)(dW:Nat)(w:cg)(n K:Nat):Prop:=∃F X,GQ base E dW w n K F X
def GQ.Pi{base E:aK}{dW n K:Nat}{w:cg}{F:Nat->V}{X:Nat->List V}(Q:GQ base E dW w n K F X):(F 0).one=true/\(F 1).one=true/\(F 2).one=true:=
 ⟨(Q.sl 0 av).one,(Q.sl 1 av).one,(Q.sl 2 av).one⟩
def GQ.mono{base E:aK}{dW n K K':Nat}{w:cg}{F:Nat->V}{X:Nat->List V}(Q:GQ base E dW w n K F X)(h:K<=K'):GQ base E dW w n K' F X:=
 {Q with len:=λi a=>aT (Q.len i a) h}
def GQ.push{base E nr o:aK}{dW n K:Nat}{w:cg}{F:Nat->V}{X:Nat->List V}(Q:GQ base E dW w n K F X){i:Nat}(l:i<3){v':V}{y:V}(hS:bA (bI (F i)) E nr)(hm:gu (gsz i) nr v' (X i++[y]))(D:bI v'=bI (F i)\/bI v'=some E.Y)(u:∀j,bI v'=some j->j<nr.Y)
 (tb:o.box=eQ nr.box dW (some [.aP,.aP,cf w.O,eQ F i v' 0,eQ F i v' 1,eQ F i v' 2])) (tm:o.mp=nr.mp) (p:o.Y=nr.Y):GQ base o dW w (if i=0 then n+1 else n) (K+1) (eQ F i v') (eQ X i (X i++[y])):=by
 have H:=hS.Y;have q:∀k,bI v'=some k->k≠dW/\base.Y<=k/\k<nr.Y/\∀j,j<3->j≠i->bI (F j)≠some k:=λk d=>by
  rcases D with h|h
  .rw[h]at d;have:=Q.TZ i k l d;exact⟨λe=>Q.ne i l (e▸d),this.1,av,λj f z=>Q.inj i j k l f (hY z) d⟩
  .rw[h]at d;cases d;have:=Q.bd.2;have:=Q.same.Y;exact⟨av,av,u _ h,λj f _ e=>by have:=Q.TZ j _ f e;omega⟩
 refine⟨by rw[tb,bh],λj f=>?_,?_,λj f=>?_,λj f=>?_,λa b k A hb r d=>?_,⟨Q.bd.1,by rw[p];have:=Q.bd.2;omega⟩,λj k f d=>?_,⟨λj f _=>?_,λj f=>?_,?_⟩⟩
 .by_cases e:j=i
  .subst e;rw[bh,bh];exact hm.frame (λk d=>by rw[tb];exact bD _ _ (q k d).1) (c0 p.symm)
  .rw[bD _ _ e,bD _ _ e];refine(Q.sl j f).frame (λk d=>?_) (by rw[p];exact H);have hb:=Q.TZ j k f d;rw[tb,bD _ _ (λt=>Q.ne j f (by rw[<-t];exact d))];exact hS.box k hb.2 (λt=>Q.inj i j k l f (hY e) t d)
 .by_cases e:i=0
  .subst e;rw[bh,ax rfl,ae,Q.IU];rfl
  .rw[bD _ _ (hY e),al e];exact Q.IU
 .have:=Q.len j f;by_cases e:j=i
  .subst e;rw[bh,ae];simp;omega
  .rw[bD _ _ e];omega
 .by_cases e:j=i
  .subst e;rw[bh];exact λh=>(q _ h).1 rfl
  .rw[bD _ _ e];exact Q.ne j f
 .by_cases ea:a=i
  .subst ea;rw[bh]at d;rw[bD _ _ (hY r)];exact(q k d).2.2.2 b hb (hY r)
  .rw[bD _ _ ea]at d;by_cases eb:b=i
   .subst eb;rw[bh];exact λh=>(q k h).2.2.2 a A ea d
   .rw[bD _ _ eb];exact Q.inj a b k A hb r d
 .by_cases e:j=i
  .subst e;rw[bh]at d;rw[p];exact⟨(q k d).2.1,(q k d).2.2.1⟩
  .rw[bD _ _ e]at d;have:=Q.TZ j k f d;rw[p];omega
 .have:=Q.bd.1;have:=Q.same.Y;rw[tb,bD _ _ av,hS.box j av (λe=>by have:=Q.TZ i j l e;omega)];exact Q.same.box j f bT
 .have:=Q.same.Y;rw[tm,hS.mp j av];exact Q.same.mp j f
 .have:=Q.same.Y;rw[p];omega
def GQ.bN{base E a:aK}{dW n K:Nat}{w w':cg}{F:Nat->V}{X:Nat->List V}(Q:GQ base E dW w n K F X)
 (tb:a.box=eQ E.box dW (some [.aP,.aP,cf w'.O,F 0,F 1,F 2])) (tm:a.mp=E.mp) (f:a.Y=E.Y):GQ base a dW w' n K F X where
 box:=by rw[tb,bh]
 sl:=λj d=>(Q.sl j d).frame (λk l=>by rw[tb];exact bD _ _ (λe=>Q.ne j d (e▸l))) (c0 f.symm)
 IU:=Q.IU
 len:=Q.len
 ne:=Q.ne
 inj:=Q.inj
 bd:=by rw[f];exact Q.bd
 TZ:=by rw[f];exact Q.TZ
 same:=⟨λj d _=>by have:=Q.bd.1;rw[tb,bD _ _ av];exact Q.same.box j d bT,λj d=>by rw[tm];exact Q.same.mp j d,by rw[f];exact Q.same.Y⟩
def GH.mono{base E:aK}{dW n K K':Nat}{w:cg}(h:GH base E dW w n K)(a:K<=K'):GH base E dW w n K':=by
 obtain⟨F,X,Q⟩:=h;exact⟨F,X,Q.mono a⟩
def SP{w:cg}{o:Op}(d:o.cW.length<=100)(a:w.fits)(b:Name):(WC w o b).1.length<=2000:=by
 unfold WC;split
 .refine aT (AC _) ?_;rw[ae];have f:(pF (s3 w o) (kr w)).length<=(kr w).length:=fY _ _;have j:(kr w).length<=(dj w).length:=by
   exact Um
  have l:=a.2.1;have p:=GA b (s3 w o) (vY o);have q:(vY o).length<=102:=by
   unfold vY;split
   .simp
   .split
    .simp
    .omega
  omega
 .simp
def aaE:CF GL f101 [65,102] [] 101:=jo
def SQ(base E:aK)(dW:Nat)(w:cg)(n K:Nat)(hH:GH base E dW w n K)(a9:w.fits)(dU:K<=1000000000-10000)(o:Op)(ac:o.small)(b:Name):
 aI 101 [.bp dW 0,o.v,b.v] E λu _ f=>u.dY=false/\u.one=true/\GH base f dW (if(qj w o b).2=0 then(qj w o b).1 else w) n (K+10000):=by
 have a0:=a9.1;have bi:∀t∈o.F,t.length<=10000:=λt h=>by have:=ac.F.2 t h;omega
 have ca:=aT ac.cW.1 (show 16<=100 by decide);have ad:=J7 w a0 o ac.ok bi b;have cb:=RS w a0 o ac.ok bi b (λ_ _=>by have:=ac.n;omega) av;have c6:=SP ca a9 b;have ea:=a9.2.1;have c3:=uI w a0;have R:=FA a0 ac.ok bi b;unfold ml at ad;refine bq aaE.ok rfl ?_;obtain⟨F,X,Q⟩:=hH;have hx:=Q.box;obtain⟨q,r,z⟩:=Q.Pi;by_cases ab:(qj w o b).2=0
 .rw[ax ab];have a6:=Ei ab;generalize eb:qj w o b=D at*
  obtain⟨W,e⟩:=D;simp only at ab ad R a6 ⊢
  subst ab;generalize WC w o b=L at*
  obtain⟨L,ed⟩:=L;simp only at c6 cb;have c4:=uI W R;have dE:=(nu R a6).2.1;repeat' first|simp(disch:=try exact om) only[gE,simprocAttr,Op.v,Op.c,hx,q,r,z]|refine lq ad ?_|refine lq cb ?_
  refine dT rfl rfl (λ(k:Nat) t=>k<=L.length/\t.Z 11=I k/\GH base t.E dW w n (K+k)/\t.G 5=1/\t.loc 5 0=[I b.J,I b.seq]/\t.G 7=1/\t.loc 7 0=[cf W.O]) (λk=>L.length-k) 0 ?_ ?_
  .refine⟨aL _,?_⟩;simp only[da,simprocAttr,aQ,aw];exact⟨⟨F,X,Q⟩,rfl⟩
  rintro k t ⟨g1,bl,c7,g4,g5,g6,a1⟩ d;have bo:t.Z 0=.bp dW 0:=(d 0 du).trans sT;have c9:t.Z 5=.lp 5 0 0:=(d 5 du).trans sT;have dd:t.Z 7=.lp 7 0 0:=(d 7 du).trans sT;have cc:t.Z 9=hE L:=(d 9 du).trans sT;clear d hx q r z Q;obtain⟨F,X,Q⟩:=c7;have hx:=Q.box;obtain⟨q,r,z⟩:=Q.Pi;rcases am k L.length with bs|bs
  .have df:=oZ L[k].from_ L[k].to;repeat' first|simp(disch:=try exact om) only[gE,simprocAttr,bl,bo,cc,hx,q,r,z,hE,cI.v,bF]|refine cs ?_ ?_<;>intro h<;>try omega|refine lq df ?_|refine ei ?_|refine e9 ?_ ?_
   .refine iR (xs:=X 1) (ys:=[L[k].v]) ?_ ?_ ?_ ?_ ?_ rfl ?_ ?_ λai f a hb bu=>?_
    .simp only[sE];exact(Q.sl 1 av).frame (λ_ _=>rfl) (an _)
    .exact sT
    .intro y aA;simp at aA;subst aA;rfl
    .exact sT
    .simp only[sE];intro l bv;cases bv
    .have:=Q.len 1 av;simp only[aM,aX];omega
    .intro _ bY;cases bY
    have aB:=a.one;have b2:=a.gD;have H:bA (bI (F 1)) t.E f:=sR hb;have aC:bI ai=bI (F 1)\/bI ai=some t.E.Y:=sR bu;have ch:f.box dW=some [.aP,.aP,cf w.O,F 0,F 1,F 2]:=(H.box dW Q.bd.2 (Q.ne 1 av)).trans hx;repeat' simp only[gE,simprocAttr,bo,aB,b2]
    refine cJ (n:=1) (off:=4) (cells:=[.aP,.aP,cf w.O,F 0,F 1,F 2]) ?_ ?_ bT λci te tc tl tb tm aD cp=>?_
    .exact sT
    .simp only[sE];simp[jW,aB,a.kf]
    have p:=tb.trans sT;simp only[a.kf,aQ,aw,ay]at p;have N:=aD.trans sT;have P:=tm.trans sT;repeat' simp(disch:=omega) only[gE,simprocAttr,te,tc,tl,bl]
    refine⟨k+1,⟨?_⟩,⟨av⟩⟩;refine⟨bs,by(simp only[da,te,tl,tc]);exact aq (V.int .i64) av,⟨_,_,Q.push (i:=1) av H a aC (λj b3=>a.BG b3) p P N⟩,by(simp only[da,te,tl,tc]);exact g4,by(simp only[da,te,tl,tc]);exact g5,by(simp only[da,te,tl,tc]);exact g6,by(simp only[da,te,tl,tc]);exact a1⟩
   .refine⟨k+1,⟨?_⟩,⟨av⟩⟩;refine⟨bs,by(simp only[da]);exact aq (V.int .i64) av,by(simp only[da]);exact GH.mono ⟨F,X,Q⟩ av,by(simp only[da]);exact g4,by(simp only[da]);exact g5,by(simp only[da]);exact g6,by(simp only[da]);exact a1⟩
  .obtain rfl:k=L.length:=av;repeat' first|simp only[gE,simprocAttr,bl,bo,c9,dd,cc,hx,q,r,z,g4,g5,g6,a1]|refine cs ?_ ?_<;>intro h<;>try omega|refine lq c3 ?_|refine lq c4 ?_
   generalize dj w=A at*
   generalize dj W=c1 at*
   refine dT rfl rfl (λ(k:Nat) y=>k<=A.length/\y.Z 14=I k/\GH base y.E dW w n (K+L.length+k)/\y.G 5=1/\y.loc 5 0=[I b.J,I b.seq]/\y.G 7=1/\y.loc 7 0=[cf W.O]) (λk=>A.length-k) 0 ?_ ?_
   .exact⟨aL _,by simp only[da,simprocAttr],by(simp only[da,simprocAttr]);exact⟨F,X,Q⟩,by(simp only[da,simprocAttr]);exact g4,by(simp only[da,simprocAttr]);exact g5,by(simp only[da,simprocAttr]);exact g6,by(simp only[da,simprocAttr]);exact a1⟩
   clear hx q r z Q;rintro k y ⟨el,b5,dr,a2,a3,a4,a5⟩ d;have b6:y.Z 0=.bp dW 0:=(d 0 du).trans sT;have c2:y.Z 5=.lp 5 0 0:=(d 5 du).trans sT;have c5:y.Z 7=.lp 7 0 0:=(d 7 du).trans sT;have a7:y.Z 12=dA A:=(d 12 du).trans sT;have a8:y.Z 13=dA c1:=(d 13 du).trans sT;clear d;obtain⟨F,X,Q⟩:=dr;have hx:=Q.box;obtain⟨q,r,z⟩:=Q.Pi;rcases am k A.length with b7|b7
   .have ds:=Q0 c1 A[k].id av;repeat' first|simp(disch:=try exact om) only[gE,simprocAttr,b5,b6,c2,c5,a7,a8,a2,a3,a4,a5,hx,q,r,z,dA,aJ.v,bF]|refine cs ?_ ?_<;>intro h<;>try omega|refine lq ds ?_|refine ei ?_|refine e9 ?_ ?_
    iterate 2
     .refine iR (xs:=X 2) (ys:=[.agg [I A[k].id.J,I A[k].id.seq,I A[k].id.k,I b.J,I b.seq]]) ?_ ?_ ?_ ?_ ?_ rfl ?_ ?_ λai f a hb bu=>?_
      .simp only[sE];exact(Q.sl 2 av).frame (λ_ _=>rfl) (an _)
      .exact sT
      .intro y aA;simp at aA;subst aA;rfl
      .exact sT
      .simp only[sE];intro l bv;cases bv
      .have:=Q.len 2 av;simp only[aM,aX];omega
      .intro _ bY;cases bY
      have aB:=a.one;have b2:=a.gD;have H:bA (bI (F 2)) y.E f:=sR hb;have aC:bI ai=bI (F 2)\/bI ai=some y.E.Y:=sR bu;have ch:f.box dW=some [.aP,.aP,cf w.O,F 0,F 1,F 2]:=(H.box dW Q.bd.2 (Q.ne 2 av)).trans hx;repeat' simp only[gE,simprocAttr,b6,aB,b2]
      refine cJ (n:=1) (off:=5) (cells:=[.aP,.aP,cf w.O,F 0,F 1,F 2]) ?_ ?_ bT λci te tc tl tb tm aD cp=>?_
      .exact sT
      .simp only[sE];simp[jW,aB,a.kf]
      have p:=tb.trans sT;simp only[a.kf,aQ,aw,ay]at p;have N:=aD.trans sT;have P:=tm.trans sT;repeat' simp(disch:=omega) only[gE,simprocAttr,te,tc,tl,b5]
      refine⟨k+1,⟨?_⟩,⟨av⟩⟩;refine⟨b7,by(simp only[da,te,tl,tc]);exact aq (V.int .i64) av,⟨_,_,Q.push (i:=2) av H a aC (λj b3=>a.BG b3) p P N⟩,by(simp only[da,te,tl,tc]);exact a2,by(simp only[da,te,tl,tc]);exact a3,by(simp only[da,te,tl,tc]);exact a4,by(simp only[da,te,tl,tc]);exact a5⟩
    .refine⟨k+1,⟨?_⟩,⟨av⟩⟩;refine⟨b7,by(simp only[da]);exact aq (V.int .i64) av,by(simp only[da]);exact GH.mono ⟨F,X,Q⟩ av,by(simp only[da]);exact a2,by(simp only[da]);exact a3,by(simp only[da]);exact a4,by(simp only[da]);exact a5⟩
   .obtain rfl:k=A.length:=av;repeat' first|simp only[gE,simprocAttr,b5,b6,c2,c5,a7,a8,a2,a3,a4,a5,hx,q,r,z]|refine cs ?_ ?_<;>intro h<;>try omega
    refine cJ (n:=1) (off:=2) (cells:=[.aP,.aP,cf w.O,F 0,F 1,F 2]) ?_ ?_ bT λci te tc tl tb tm aD cp=>?_
    .exact sT
    .exact sT
    have p:=tb.trans sT;have N:=aD.trans sT;have P:=tm.trans sT;repeat' simp only[gE,simprocAttr,te,tc,tl]
    exact⟨nE,B true,_,bC rfl rfl,rfl,rfl,GH.mono ⟨F,X,Q.bN (w':=W) p P N⟩ av⟩
 .rw[al ab];generalize qj w o b=D at*
  obtain⟨W,e⟩:=D;simp only at ab ad;repeat' first|simp(disch:=try exact om) only[gE,simprocAttr,Op.v,Op.c,hx,ab,q,r,z]|refine cs ?_ ?_<;>intro h<;>try omega|refine lq ad ?_
  all_goals exact⟨nE,B false,_,bC rfl rfl,rfl,rfl,F,X,Q.mono av⟩
def abN:CF GL f53 [47,62] [3] 53:=jo
def V7(base E:aK)(dW:Nat)(g:GS)(K:Nat)(hH:GH base E dW g.w g.n K)(D:g.w.fits)(bl:g.n<=16)(bo:K<=1000000000-20000)(e:aW)(aC:e.op.small)(W:Int):
 aI 53 [.bp dW 0,e.v,I W] E λu _ d=>u.dY=false/\u.one=true/\GH base d dW (OG g e).w (OG g e).n (K+10001):=by
 have aD:=N4 e;have a0:=SQ base E dW g.w g.n K hH D av e.op aC e.name;have c3:=xn g.w D.1;have c4:=vm g.w e.id D.1;refine bq abN.ok rfl ?_;obtain⟨F,X,Q⟩:=hH;have hx:=Q.box;obtain⟨o,p,q⟩:=Q.Pi;have le:=(Q.sl 0 av).len;rw[Q.IU]at le;have r:=(Q.sl 0 av).gD;unfold OG;obtain⟨w,n⟩:=g;obtain⟨bs,bu,bv,kind,bY,op,tm,b2,b3,b5⟩:=e;simp only at*
 by_cases H:kind=0
 .subst H;rw[ax rfl];repeat' first|simp only[gE,simprocAttr,aW.v,hx,o,p,q]|refine lq aD ?_|refine e9 ?_ ?_
  all_goals
   refine bz (h0:=E) sT a0 sT ag ?_;rintro u _ a9 ⟨N,a1,a2⟩;repeat' simp only[gE,simprocAttr]
   exact⟨nE,_,_,bC rfl N,N,a1,GH.mono a2 av⟩
 rw[al H];by_cases L:kind=1
 .subst L;rw[ax rfl];by_cases P:16<=n
  .rw[ax (.inl P)];have f:decide ((16:Int)<=(n:Int))=true:=dk av;repeat' simp only[gE,simprocAttr,aW.v,hx,o,p,q,le,r,f]
   exact PO
  have f:decide ((16:Int)<=(n:Int))=false:=dZ av;by_cases t:fu w=0
  .rw[al (λh=>h.elim P (λh=>h t))];rw[t]at c3;repeat' first|simp only[gE,simprocAttr,aW.v,hx,o,p,q,le,r,f]|refine lq c3 ?_|refine e9 ?_ ?_
   all_goals
    refine iR (xs:=X 0) (ys:=[.agg [cf w.O,I W]]) ?_ ?_ ?_ ?_ ?_ rfl ?_ ?_ λR d a hb a3=>?_
    .simp only[sE];exact(Q.sl 0 av).frame (λ_ _=>rfl) (an _)
    .exact sT
    .intro y ab;simp at ab;subst ab;rfl
    .exact sT
    .simp only[sE];intro l a4;cases a4
    .have:=Q.len 0 av;simp only[aM,aX];omega
    .intro _ a5;cases a5
    have ac:=a.one;have a6:=a.gD;have z:bA (bI (F 0)) E d:=sR hb;have ad:bI R=bI (F 0)\/bI R=some E.Y:=sR a3;have bi:d.box dW=some [.aP,.aP,cf w.O,F 0,F 1,F 2]:=(z.box dW Q.bd.2 (Q.ne 0 av)).trans hx;repeat' simp only[gE,simprocAttr,ac,a6]
    refine cJ (n:=1) (off:=3) (cells:=[.aP,.aP,cf w.O,F 0,F 1,F 2]) ?_ ?_ bT λb6 te tc tl tb tm a7 b7=>?_
    .exact sT
    .simp only[sE];simp[jW,ac,a.kf]
    have A:=tb.trans sT;simp only[a.kf,aQ,aw,ay]at A;have ai:=a7.trans sT;have aA:=tm.trans sT;repeat' simp only[gE,simprocAttr,te,tc,tl]
    exact⟨nE,B true,_,bC rfl rfl,rfl,rfl,GH.mono ⟨_,_,Q.push (i:=0) av z a ad (λj a8=>a.BG a8) A aA ai⟩ av⟩
  .rw[ax (.inr t)];repeat' first|simp only[gE,simprocAttr,aW.v,hx,o,p,q,le,r,f,t]|refine cs ?_ ?_<;>intro h<;>try omega|refine lq c3 ?_
   exact PO
 rw[al L];by_cases aB:kind=2
 .subst aB;repeat' simp only[gE,simprocAttr,aW.v,hx,o,p,q]
  exact PO
 .repeat' first|simp(disch:=try exact om) only[gE,simprocAttr,aW.v,hx,o,p,q,H,L,aB]|refine cs ?_ ?_<;>intro h<;>try omega|refine lq c4 ?_
  exact PO
def abO:CF GL f51 [] [] 51:=jo
def Pj{cs ds:List V}(h:aV cs ds):V.Le (.agg cs) (.agg ds):=.agg cs ds h.1 h.2
section
variable (g:GS)(l:List Int)(c:Int)(n:Nat)
def V8{k:Int}(h:(k=6\/k=7)->¬g.n<2)(h2:k<8):zW g l c k n={pi (4*(n%2:Nat)) 0 with op:=GT g.w l (c+2)}:=by
 unfold zW;rw[al (λe=>h e.1 e.2),al av,al av,al av,al av,al av]
def V9{k:Int}(h:k=6\/k=7)(h2:g.n<2):zW g l c k n=pi 0 1:=ax ⟨h,h2⟩
def Wa:zW g l c 8 n={pi 5 2 with dy:=ox n}:=rfl
def Wb:zW g l c 9 n={pi 5 5 with id:=wF g n,n:=(n%7:Nat)}:=rfl
def SR:zW g l c 10 n={pi 5 (5+(n/7%2:Nat))with id:=wF g n,n:=(n%7:Nat)}:=rfl
def SS:zW g l c 11 n={pi 1 3 with id:=wF g n,cU:=pU (wF g n) n (n%3)}:=rfl
def SU:zW g l c 12 n={pi 2 3 with id:=wF g n,cU:=pU (wF g n) n (n%3)}:=rfl
def SV:zW g l c 13 n={pi 3 4 with id:=wF g n,cU:=pU (wF g n) (n/2) (n/2%3)}:=rfl
end
def Wc(base E:aK)(dW:Nat)(g:GS)(K:Nat)(hH:GH base E dW g.w g.n K)(y:g.w.fits)(l:List Int)(z:∀n∈l,jG n)(c:Int)(b7:0<=c/\c<=100000):
 aI 51 [.bp dW 0,fq l,I c] E λu _ d=>V.Le u (Sr g l c).v/\u.one=false/\d.box=E.box/\d.mp=E.mp/\d.Y=E.Y:=by
 have a8:=jk l c 14 z (by omega);have L:=jk l (c+1) 4096 z (by omega);have c3:=uI g.w y.1;have c4:=Sq g.w y l (c+2) z (by omega);have ca:=ig l c 14 (by omega);have a9:=ig l (c+1) 4096 (by omega);obtain⟨F,X,Q⟩:=hH;have hx:=Q.box;obtain⟨N,P,R⟩:=Q.Pi;have le:=(Q.sl 0 (by omega)).len;rw[Q.IU]at le;have cb:=y.2.1;unfold Sr;obtain⟨b6,f⟩:∃o,GT g.w l (c+2)=o:=⟨_,rfl⟩;rw[f]at c4;generalize W l c 14=kind at*
 obtain⟨n,bi⟩:∃n:Nat,W l (c+1) 4096=n:=⟨(W l (c+1) 4096).toNat,by omega⟩;rw[bi]at a9 L ⊢
 rw[bX];refine bq abO.ok rfl ?_;have r:((n:Int).tmod 16)=((n%16:Nat):Int):=by rw[jQ];rfl
 have j:((n:Int).tdiv 16)=((n/16:Nat):Int):=by rw[oS];rfl
 have bl:((n:Int).tmod 7)=((n%7:Nat):Int):=by rw[jQ];rfl
 have ab:((n:Int).tdiv 7)=((n/7:Nat):Int):=by rw[oS];rfl
 have bo:((n:Int).tmod 2)=((n%2:Nat):Int):=by rw[jQ];rfl
 have ac:((n:Int).tdiv 2)=((n/2:Nat):Int):=by rw[oS];rfl
 repeat any_goals first|simp(disch:=omega) only[dt,simprocAttr,hx,N,P,R,bx,cw,cP,cy,cd,bP]|(refine i0 a8 ?_ ?_;·simp only[ee,simprocAttr]<;>rfl)|((first|refine i0 L ?_ ?_|refine i0 c3 ?_ ?_);·simp only[ee,simprocAttr]<;>rfl)
 refine ei (uD (J:=λt=>t.Z 0=.bp dW 0/\t.Z 1=fq l/\t.Z 2=I c/\t.Z 7=I kind/\t.Z 8=I n/\t.Z 6=.lp 6 0 0/\t.Z 10=.lp 10 0 0/\t.G 6=1/\t.G 10=1/\t.loc 10 0=(wF g n).v.cells/\t.loc 6 0=[I 0,I 0,I 0,I 0,.aP,I 0,I 0,I 0,I 0,I 0,I 0,I 0,I 0,I 0,I 0,I 0,I 0,I 0,S [],.aP,.aP,.aP,S [],I 0,I 0,S [],.aP,I 0,I 0,I 0,.aP,I 0]/\t.E.box=E.box/\t.E.mp=E.mp/\t.E.Y=E.Y) ?_ ?_)
 .have bs:(((n/16:Nat):Int).tmod ((dj g.w).length:Int))=((n/16%(dj g.w).length:Nat):Int):=by rw[jQ]
  have ad:0< (dj g.w).length->n/16%(dj g.w).length< (dj g.w).length:=λh=>fI _ h;have D:(wF g n).v.cells=if 0< (dj g.w).length/\0<n%16 then((dj g.w).getD (n/16%(dj g.w).length) ia).id.v.cells else [I 5,I 60,I 0]:=by unfold wF;split<;>rfl
  rw[D];generalize n/16%(dj g.w).length=q at*
  generalize dj g.w=A at*
  by_cases H:0<A.length/\0<n%16
  .have ai:=ad H.1;rw[ax H,ap,aa ai,bf];repeat any_goals first|simp(disch:=first|omega|(simp only[l4];omega)) only[dt,simprocAttr,bx,r,j,bs,dA,aJ.v,cy,cd,ai]|(first|refine bZ (λh=>?_) (λh=>?_)|refine c8 (λh=>?_) (λh=>?_))<;>((try simp only[bM,bB]at h);(try simp only[h]);(try simp only[jg]at h);(try omega))
   all_goals skip
   all_goals skip
  .rw[al H];repeat any_goals first|simp only[dt,simprocAttr,bx,r,j]|(first|refine bZ (λh=>?_) (λh=>?_)|refine c8 (λh=>?_) (λh=>?_))<;>((try simp only[bM,bB]at h);(try simp only[h]);(try simp only[jg]at h);(try omega))
   all_goals skip
 .rintro t ⟨bu,bv,bY,b2,b3,aA,aB,aC,aD,p,a0,hb,a1,a2⟩;have a3:t.E.box dW=some [.aP,.aP,cf g.w.O,F 0,F 1,F 2]:=(nF hb dW).trans hx;have b5:=Vk n (by omega);have a4:=Oi (wF g n) n (by omega);have a5:=Oi (wF g n) (n/2) (by omega);simp only[ID.v,V.cells]at p;obtain⟨A,a⟩:∃A,wF g n=A:=⟨_,rfl⟩;rw[a]at a4 a5 p;have cc:((5:Int)+((n/7%2:Nat):Int))=5+(n/7%2:Nat):=rfl;have a6:(((n/7:Nat):Int).tmod 2)=((n/7%2:Nat):Int):=by rw[jQ];rfl
  have a7:kind=0\/kind=1\/kind=2\/kind=3\/kind=4\/kind=5\/kind=6\/kind=7\/kind=8\/kind=9\/kind=10\/kind=11\/kind=12\/kind=13:=by omega
  rcases a7 with rfl|rfl|rfl|rfl|rfl|rfl|rfl|rfl|rfl|rfl|rfl|rfl|rfl|rfl
  all_goals
   repeat any_goals first|simp(disch:=omega) only[dt,simprocAttr,bx,bu,bv,bY,b2,b3,aA,aB,aC,aD,p,a0,a3,N,P,R,le,bo,ac,bl,ab,a6,gU.v,ID.v,cw,cP,cy,cd,bP]|(refine bZ (λh=>?_) (λh=>?_))<;>((try simp only[h]);(try simp only[jg]at h))|((first|refine i0 c4 ?_ ?_|refine i0 b5 ?_ ?_|refine i0 a4 ?_ ?_);·simp only[ee,simprocAttr]<;>rfl)|(refine i0 a5 ?_ ?_;·simp only[ee,simprocAttr]<;>rfl)|refine ei ?_
  all_goals refine⟨nE,_,_,eA (by simp only[ee,simprocAttr,bx,aA,aC,a0]<;>rfl) rfl,?_,rfl,by exact hb,by exact a1,by exact a2⟩
  all_goals first
   |(rw[V8];rotate_left;(·intro _;omega);(·omega);rw[f])
   |(rw[V9];rotate_left;(·omega);(·omega))
   |rw[Wa]
   |rw[Wb,a]
   |rw[SR,a]
   |rw[SS,a]
   |rw[SU,a]
   |rw[SV,a]
  all_goals refine Pj ?_
  all_goals repeat' first|exact aV.nil|refine aV.cons (.refl _) ?_|refine aV.cons (.aP _) ?_
def jE.cell{h:aK}{id j:Nat}{cells:List V}{c d:V}(hx:h.box id=some cells)(o:cells[j]?=some c)(hle:V.Le c d):jE jH h {h with box:=eQ h.box id (some (cells.set j d))} where
 CU _ _ e:=by cases e
 box i cs e:=by
  by_cases p:i=id
  .subst p;rw[show(({h with box:=eQ h.box i (some (cells.set j d))}:aK).box i)=some (cells.set j d)from bh _ _ _]at e;cases e;refine⟨rfl,cells,hx,bT,λk a b l f=>?_⟩;by_cases q:k=j
   .subst q;rw[o]at l;cases l;rw[ii (by exact(aH.1 o).1)]at f;cases f;exact hle
   .rw[iM (hY q),l]at f;cases f;exact .refl _
  .rw[show(({h with box:=eQ h.box id (some (cells.set j d))}:aK).box i)=h.box i from bD _ _ p]at e;exact⟨rfl,cs,e,h9.refl _⟩
 fl i k e:=.inl ⟨e,.inl λ_ _ _ _=>.inl λ_=>rfl⟩
 mp i m e:=⟨m,e,.refl m⟩
 Y:=an _
def GH.same{base E a:aK}{dW n K:Nat}{w:cg}(h:GH base E dW w n K)(f:a.box=E.box)(h2:a.mp=E.mp)(d:a.Y=E.Y):GH base a dW w n K:=by
 obtain⟨F,X,Q⟩:=h;exact⟨F,X,⟨by rw[f];exact Q.box,λi j=>(Q.sl i j).frame (λk _=>by rw[f]) (c0 d.symm),Q.IU,Q.len,Q.ne,Q.inj,by rw[d];exact Q.bd,by rw[d];exact Q.TZ,⟨by rw[f];exact Q.same.box,by rw[h2];exact Q.same.mp,by rw[d];exact Q.same.Y⟩⟩⟩
def u2{a vs:List V}(h:a.length=32)(d:vs.length=32):aQ a 0 vs=vs:=by
 rw[ic av,fi,bm,cT av,cD]
def IV{u:V}{ds:List V}(h:V.Le u (.agg ds)):∃cs,u=.agg cs/\cs.length=ds.length/\∀(j:Nat) c d,cs[j]?=some c->ds[j]?=some d->V.Le c d:=by
 generalize a:V.agg ds=d at h;cases h with
 |refl=>subst a;exact⟨ds,rfl,rfl,λj c d f l=>by obtain rfl:=ar (f.symm.trans l);exact .refl _⟩
 |agg cs q o p=>cases a;exact⟨cs,rfl,o,p⟩
 |_=>cases a
def Wd{v u:V}(h:V.Le v u)(a:u.one=true):v.one=true:=by
 cases h<;>exact a
def aaF{n:Nat}{u:V}{ds:List V}(h:V.Le u (.agg ds))(l:jW n (.agg ds)=true)(r:n=ds.length)(t:n≠1):∃cs,u=.agg cs/\cs.length=n/\jW n u=true/\V.Le (.agg cs) (.agg ds):=by
 obtain⟨cs,rfl,y,o⟩:=IV h;refine⟨cs,rfl,av,?_,h⟩;obtain⟨q1,p⟩:=fb l;unfold jW;rw[be];refine⟨by simp[V.cells];omega,bO.2 λc a=>?_⟩;obtain⟨j,q,rfl⟩:=ja a;have d:j<cs.length:=q;have f:j<ds.length:=av;exact Wd (o j _ _ (aa d) (aa f)) (bO.1 p _ (ah f))
def abP:CF GL f10 [44,92] [8,16,18] 10:=jo
def opF(o:Op):V:=.agg [I o.kind,I o.W.J,I o.W.seq,I o.W.k,I o.to.J,I o.to.seq,I o.to.k,I o.spot.i9,I o.spot.k0,I o.spot.idx,I o.n,I o.eD,I o.en,S o.bN,.aP,.aP,if o.kind=2 then eW o.C else .aP]
def We(l:List Int)(Q:∀n∈l,jG n):af 10 [fq l] (fP (uW l)) true:=by
 refine Pure.gg (by simp only[dx]) (by simp only[dx]) ?_;have ca:=Il l 1 ⟨0,0,0⟩ Q (by omega);have cb:=Il l 6 ⟨0,0,0⟩ Q (by omega);have c3:=BN l 11 Q (by omega);have c4:=jk l 0 10 Q av;have eb:=ig l 0 10 av;obtain⟨N,cc⟩:∃N:Nat,W l 0 10=N:=⟨(W l 0 10).toNat,av⟩;have a3:uW l=(l1 l N (5+N)).out:=by unfold uW tD;rw[cc];rfl
 rw[cc]at c4 eb;obtain⟨one,h1⟩:∃p,mq l 1 ⟨0,0,0⟩=p:=⟨_,rfl⟩;obtain⟨two,ch⟩:∃p,mq l 6 ⟨0,0,0⟩=p:=⟨_,rfl⟩;obtain⟨ed,ci⟩:∃p,km l 11=p:=⟨_,rfl⟩;rw[h1]at ca;rw[ch]at cb;rw[ci]at c3;have ac:yE l=[iT,{iT with kind:=1,bN:=ed},{iT with kind:=2,eD:=0,en:=one.en,bN:=one.bN,C:=one.C},{iT with kind:=2,spot:=⟨0,0,1⟩,eD:=two.eD,en:=two.en,bN:=two.bN,C:=two.C}]:=by
  unfold yE;rw[h1,ch,ci]
 rw[a3];refine bq abP.ok rfl ?_;repeat any_goals first|simp only[gE,simprocAttr,ID.v,aJ.v,HX.act]|refine lq ca ?_|refine lq cb ?_|refine lq c3 ?_
 refine Ak (fz:=jH) (h0:={(aK.bare.cO [.aP,.aP,.aP,.aP,.aP,.aP])with box:=eQ (aK.bare.cO [.aP,.aP,.aP,.aP,.aP,.aP]).box 0 (some ([.aP,.aP,.aP,.aP,.aP,.aP].set 2 (cf [])))}) (jE.cell (j:=2) (c:=.aP) sT rfl (.aP _)) c4 sT (h9.cons (by(simp only[da]);exact .refl _) (h9.cons (.refl _) (h9.cons (.refl _) .nil))) ?_;have el:GH aK.bare ({(aK.bare.cO [.aP,.aP,.aP,.aP,.aP,.aP])with box:=eQ (aK.bare.cO [.aP,.aP,.aP,.aP,.aP,.aP]).box 0 (some ([.aP,.aP,.aP,.aP,.aP,.aP].set 2 (cf [])))}) 0 (l1 l N 0).g.w (l1 l N 0).g.n 0:=
  ⟨λ_=>.aP,λ_=>[],⟨rfl,λ_ _=>gu.nil,rfl,λ_ _=>an _,λ_ _ h=>(by cases h),λ_ _ _ _ _ _ h=>(by cases h),⟨an _,dn _⟩,λ_ _ _ h=>(by cases h),⟨λi bv _=>absurd bv (gQ _),λi bv=>absurd bv (gQ _),aL _⟩⟩⟩
 generalize ({(aK.bare.cO [.aP,.aP,.aP,.aP,.aP,.aP])with box:=eQ (aK.bare.cO [.aP,.aP,.aP,.aP,.aP,.aP]).box 0 (some ([.aP,.aP,.aP,.aP,.aP,.aP].set 2 (cf [])))}:aK)=h0 at*
 repeat' simp only[gE,simprocAttr]
 refine dT rfl rfl (λ(k:Nat) t=>k<=5+N/\t.Z 10=I k/\GH aK.bare t.E 0 (l1 l N k).g.w (l1 l N k).g.n (k*10001)/\t.Z 8=I (l1 l N k).eo/\V.Le (t.Z 7) (fP (l1 l N k).out)/\(t.Z 7=fP (l1 l N k).out/\t.fl 7=true\/t.Z 7=.aP/\k=0)) (λk=>5+N-k) 0 ?_ ?_
 .exact⟨aL _,by simp only[sE,simprocAttr],by(simp only[sE,simprocAttr]);exact el,by(simp only[sE,simprocAttr]);rfl,by(simp only[sE,simprocAttr]);exact .aP _,.inr ⟨by simp only[sE,simprocAttr],rfl⟩⟩
 rintro k t ⟨g1,z,ad,g4,g5,g6⟩ ai;have A:t.Z 0=fq l:=(ai 0 du).trans sT;have D:∃R,t.Z 5=.sl 17 R/\R.length=4/\∀(i:Nat) v,R[i]?=some v->∃o,(yE l)[i]?=some o/\v=opF o/\(o.kind=2\/o.C=[])/\o.F=[]/\o.cW=[]:=by
  rw[ai 5 du];refine⟨_,by simp only[sE];rfl,rfl,?_⟩;rw[ac];intro i v aA
  match i with
  |0=>cases aA;exact⟨_,rfl,rfl,by simp[iT],rfl,rfl⟩
  |1=>cases aA;exact⟨_,rfl,rfl,by simp[iT],rfl,rfl⟩
  |2=>cases aA;exact⟨_,rfl,rfl,by simp[iT],rfl,rfl⟩
  |3=>cases aA;exact⟨_,rfl,rfl,by simp[iT],rfl,rfl⟩
  |i+4=>cases aA
 have H:t.Z 6=.bp 0 0:=(ai 6 du).trans sT;have aB:t.Z 9=I N:=(ai 9 du).trans sT;clear ai;obtain⟨R,D,et,eK⟩:=D;rcases am k (5+N)with bY|bY
 .have f:=CD l N k av;have bi:l1 l N (k+1)=TT l N k (l1 l N k):=rfl;obtain⟨s,e1⟩:∃s,l1 l N k=s:=⟨_,rfl⟩;rw[e1]at f bi ad g4 g5 g6;repeat' first|simp(disch:=omega) only[gE,simprocAttr,z,A,D,H,aB]|refine cs ?_ ?_<;>intro h<;>try omega
  refine ei (uD (J:=λu=>u.Z 0=fq l/\u.Z 6=.bp 0 0/\u.Z 7=t.Z 7/\u.fl 7=t.fl 7/\u.Z 8=I s.eo/\u.Z 10=I k/\GH aK.bare u.E 0 s.g.w s.g.n (k*10001)/\∃q K,u.Z 11=.lp 11 q 0/\q<u.G 11/\u.loc 11 q=K/\K.length=32/\V.Le (.agg K) (zX l N k s.g).v) ?_ ?_)
  .by_cases a4:k<4
   .have bl:k<R.length:=av;obtain⟨o,e2,bo,cp,c1,c2⟩:=eK k R[k] (aa bl);have a:zX l N k s.g={pi 0 0 with op:=o}:=by
     unfold zX;rw[ax a4,ap,e2];rfl
    obtain⟨a5,bs⟩:∃a5,(if o.kind=2 then eW o.C else V.aP)=a5:=⟨_,rfl⟩;have b2:a5.one=true/\V.Le a5 (eW o.C):=by
     rw[<-bs];split
     .exact⟨rfl,.refl _⟩
     next c5=>rw[cp.resolve_left c5];exact⟨rfl,.aP _⟩
    simp only[opF,bs]at bo;obtain⟨b2,e3⟩:=b2;repeat' first|simp(disch:=omega) only[gE,simprocAttr,z,A,D,H,aB,a4,bl,bo,et,b2]|refine cs ?_ ?_<;>intro h<;>try omega
    refine⟨g4,ad,t.G 11,_,rfl,dn _,ax rfl,rfl,?_⟩;rw[a];simp only[c1,c2];refine Pj ?_;repeat' first|exact aV.nil|refine aV.cons (.refl _) ?_|refine aV.cons (.aP _) ?_|refine aV.cons e3 ?_
   by_cases c6:k<4+N
   .have e4:=Wc aK.bare t.E 0 s.g (k*10001) ad f.fits l Q (14+16*((k:Int)-4)) av;have a:zX l N k s.g=Sr s.g l (14+16*((k:Int)-4)):=by
     unfold zX;rw[al a4,ax c6]
    repeat' first|simp(disch:=omega) only[gE,simprocAttr,z,A,D,H,aB]|refine cs ?_ ?_<;>intro h<;>try omega
    refine bz (h0:=t.E) sT e4 sT ?_ ?_
    .refine aV.cons (ak (by simp only[ee,bx,H]<;>rfl)) (aV.cons (ak (by simp only[ee,bx,A]<;>rfl)) (aV.cons (ak ?_) .nil))
     (simp only[ee,bx,z]<;>rfl)
    rintro v _ c7 ⟨aC,b3,a6,e5,e6⟩;rw[<-a]at aC;obtain⟨cs,rfl,b5,e7,fa⟩:=aaF aC (n:=32) rfl rfl du;have c9:=(fb e7).2;simp only[V.cells]at c9;repeat' simp(disch:=omega) only[gE,simprocAttr,b5,c9]
    exact⟨A,H,g4,z,ad.same a6 e5 e6,t.G 11,cs,rfl,dn _,(ax rfl).trans (u2 rfl b5),b5,fa⟩
   .have a:zX l N k s.g=pi 0 1:=by
     unfold zX;rw[al a4,al c6]
    repeat any_goals first|simp(disch:=omega) only[gE,simprocAttr,z,A,D,H,aB]|refine cz ?_ ?_<;>intro fr h<;>(try simp only[fr])<;>try omega
    refine⟨g4,ad,t.G 11,_,rfl,dn _,ax rfl,rfl,?_⟩;rw[a];refine Pj ?_;repeat' first|exact aV.nil|refine aV.cons (.refl _) ?_|refine aV.cons (.aP _) ?_
  .rintro u ⟨a7,ab,aD,dd,a0,r,fs,q,K,L,bq,a8,a1,fB⟩;have P:K.take 32=K:=aE av;have df:=Vw s.out (zX l N k s.g) s.eo (by have:=f.len;omega) (by have:=(CC f.fits f.X l N k).seq;omega);obtain⟨e,b6⟩:∃e,jM s.out (zX l N k s.g) s.eo=e:=⟨_,rfl⟩;rw[b6]at df;have y:aQ K 0 e.v.cells=e.v.cells:=by
    exact u2 a1 rfl
   simp only[aW.v,V.cells,aQ,cA,Nat.reduceAdd,CX]at y;have a:=CC f.fits f.X l N k;have dr:e.op.small:=by rw[<-b6];exact a.op
   have gb:=V7 aK.bare u.E 0 s.g (k*10001) fs f.fits f.n av e dr k;repeat' simp only[gE,simprocAttr,a7,ab,aD,a0,r,L,bq,a8,a1,P]
   refine jj df (aV.cons (by(simp only[da,aD]);exact g5) (aV.cons (by(simp only[da]);exact fB) (aV.cons (by(simp only[da,a0]);exact .refl _) .nil))) ?_;repeat' simp only[gE,simprocAttr,a7,ab,aD,a0,r,L,bq,a8,a1,P,y,aW.v]
   refine bz (h0:=u.E) (by simp only[da,simprocAttr]) gb (by simp only[bR,cm,da,simprocAttr,bx,ab,r];rfl) (aV.cons (ak (by simp only[ee,simprocAttr,bx,ab]<;>rfl)) (aV.cons (ak (by simp only[ee,simprocAttr,bx]<;>rfl)) (aV.cons (ak (by simp only[ee,simprocAttr,bx,r]<;>rfl)) .nil))) ?_;rintro v _ c7 ⟨aC,b3,a6⟩;have b7:=jk l (14+16*(k:Int)) 2 Q av;have ds:=ig l (14+16*(k:Int)) 2 av;have ea:=f.eo;have dE:=f.len;obtain⟨d,dU⟩:∃d,W l (14+16*(k:Int)) 2=d:=⟨_,rfl⟩;rw[dU]at b7 ds;have a2:l1 l N (k+1)=⟨OG s.g e,s.out++[e],s.eo+1+d⟩:=by rw[bi,<-b6,<-dU];rfl
   rcases g6 with⟨g6,a9⟩|⟨g6,rfl⟩
   .repeat any_goals first|simp(disch:=try exact om) only[gE,simprocAttr,vh,a7,ab,aD,dd,a0,r,L,bq,a8,a1,P,y,g6,a9,aC,b3,aW.v,fP]|refine lq b7 ?_
    refine⟨k+1,⟨?_⟩,⟨av⟩⟩;rw[a2];refine⟨bY,by(simp only[sE,simprocAttr,vh]);exact aq (V.int .i64) av,by(simp only[sE,simprocAttr]);exact a6.mono av,by(simp only[sE,simprocAttr]),?_,.inl ⟨?_,?_⟩⟩
    .simp only[da,simprocAttr,bQ];exact ak (by simp[fP,aW.v,CX])
    .simp only[da,simprocAttr,bQ];exact(by simp[fP,aW.v,CX])
    .simp only[mR,sE,simprocAttr]
   .repeat any_goals first|simp(disch:=try exact om) only[gE,simprocAttr,vh,a7,ab,aD,dd,a0,r,L,bq,a8,a1,P,y,g6,aC,b3,aW.v,fP]|refine lq b7 ?_
    have bu:s.out=[]:=bH.1 dE;refine⟨0+1,⟨?_⟩,⟨av⟩⟩;rw[a2];refine⟨bY,by(simp only[sE,simprocAttr,vh]);try exact aq (V.int .i64) av,by(simp only[sE,simprocAttr]);exact a6.mono av,by(simp only[sE,simprocAttr]),?_,.inl ⟨?_,?_⟩⟩
    .simp only[da,simprocAttr,bQ];exact ak (by simp[fP,aW.v,CX,bu])
    .simp only[da,simprocAttr,bQ];exact(by simp[fP,aW.v,CX,bu])
    .simp only[mR,sE,simprocAttr]
 .obtain rfl:k=5+N:=av;rcases g6 with⟨g6,a9⟩|⟨_,h⟩
  .repeat' first|simp(disch:=omega) only[gE,simprocAttr,z,g6,a9,A,D,H,aB]|refine cs ?_ ?_<;>intro h<;>try omega
   exact⟨nE,_,_,bC rfl rfl,rfl,by simp only[mR];exact a9⟩
  .omega
end Go.Bx
