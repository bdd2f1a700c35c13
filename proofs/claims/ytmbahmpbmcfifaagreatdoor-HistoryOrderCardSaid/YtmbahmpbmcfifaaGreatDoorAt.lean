/- Lemmas for HistoryOrder. -/
import Derived.Test.YtmbahmpbmcfifaaGreatDoorAr
noncomputable section
set_option linter.all false
set_option maxHeartbeats 4000000
set_option maxRecDepth 100000
namespace Go.Bx
open Go.Proofs Go.Proofs.Tryz
attribute [local irreducible] vc er dr b4 bV run iD iY i1 i6 iQ i7 i2 iu iS i4 gB i3 cW
def GO:∀s∈zS,iV s=true:=dt
def OS:∀s∈yO,iV s=true:=dt
def OT{s:T}(h:iV s=true):s.length<=24:=by
 simp only[iV,aX,cy]at h;exact h.1.1
def sr(n:Int):iV (lW n)=true:=by
 have hb:=ql n 8 av;unfold lW;rw[ap,aa (by show _<8;omega),bf];exact GO _ (ah _)
structure aV.raw(r:aV):Prop where
 J:0<=r.J/\r.J<=5
 seq:r.seq=0
 C:r.C=[]
 kind:r.kind=0\/r.kind=1\/r.kind=2\/r.kind=3\/r.kind=4\/r.kind=5\/r.kind=6
 plain:r.plain
 op:r.op.small
 tz:r.dy.eH.length<=8
 words:∀s∈r.dy.name::r.dy.see::r.dy.eH,s=[]\/iV s=true
 OU:(0<=r.dy.kind/\r.dy.kind<=2)/\(0<=r.dy.eh/\r.dy.eh<=3)
 dy:r.kind=2->iV r.dy.name=true/\r.dy.eH.all iV=true
 id: -1<=r.id.J/\r.id.J<=100/\0<=r.id.seq/\r.id.seq<=100/\0<=r.id.k/\r.id.k<=100
 n:0<=r.n/\r.n<=100
 cU:r.cU.length<=16/\∀p∈r.cU,(1<=p.path.length/\p.path.length<=4)/\p.path.all iV=true
def GP{p:List aV}{r:aV}{t:Int}(h:r.plain):(jK p r t).plain:=⟨h.op,h.dy,h.id,h.cU,h.n,h.pid⟩
def Cc{p:List aV}{t:Int}(l:Kc p t)(R:1<=t/\t<=1000000)(ai:p.length<=60){r:aV}(h:r.raw):(jK p r t).good:=by
 have P:=l.at R.1 r h.seq h.C;have z:(jK p r t).seq=Dx p r.J p.length:=by show r.seq+_=_;rw[h.seq];omega
 have ab:=H5 p r.J p.length;have D:∀a∈(jK p r t).C,a.mv=true/\a≠(jK p r t).name:=by
  intro a K;obtain⟨u,L,_⟩:=P.C a K;rcases l.g4 a with h1|⟨x,hx,h1,_⟩
  .rw[L]at h1;cases h1
  .refine⟨?_,λe=>?_⟩
   .have o:=l.seq x hx;have aA:=l.J x hx;have aB:=H5 p x.J p.length;subst h1;exact db (by show 0<=x.J/\x.J<=5/\0<=x.seq/\x.seq<=63;omega)
   .rw[e,P.new]at L;cases L
 have ac:(jK p r t).C.length<=1:=by
  show(if 0<p.length/\t.tmod 3=0 then yP p else r.C).length<=1;rw[h.C];split
  .unfold yP;split<;>simp
  .simp
 have y:(jK p r t).name.mv=true:=by
  have h1:(jK p r t).name=⟨r.J,Dx p r.J p.length⟩:=by unfold aV.name;rw[z];rfl
  have:=h.J;rw[h1];simp only[Name.mv,cy];omega
 have j:∀s:T,s=[]\/iV s=true->s.length<=24:=λs f=>by
  rcases f with rfl|f
  .simp
  .exact OT f
 have dV:=h.id;have d:=h.n;have H:=h.OU;have ad:=h.J;exact {
  enc:={
   head:=by
    intro n d;simp only[bC,cI,gI]at d;rcases d with e|e|e|e<;>rw[e]
    .show jv r.J;unfold jv;omega
    .rw[z];unfold jv;omega
    .show jv t;unfold jv;omega
    .show jv r.kind;have:=h.kind;unfold jv;omega
   kind:=h.kind
   C:=av
   Vo:=by
    intro n d;obtain⟨a,K,d⟩:=dC.1 d;have:=(D a K).1;simp only[Name.mv,cy]at this;simp only[bC,cI,gI]at d;unfold jv;rcases d with rfl|rfl<;>omega
   op:=h.op.enc
   dy:=by
    intro n d;simp only[bC,cI,gI]at d;unfold jv;rcases d with rfl|rfl
    .show _<=r.dy.kind/\r.dy.kind<=_;omega
    .show _<=r.dy.eh/\r.dy.eh<=_;omega
   tz:=by show r.dy.eH.length<=1000;have:=h.tz;omega
   words:=λs f=>by have:=j s (h.words s f);omega
   id:=by
    intro n d;simp only[bC,cI,gI]at d;unfold jv;rcases d with rfl|rfl|rfl|rfl
    .show _<=r.id.J/\r.id.J<=_;omega
    .show _<=r.id.seq/\r.id.seq<=_;omega
    .show _<=r.id.k/\r.id.k<=_;omega
    .show _<=r.n/\r.n<=_;omega
   cU:=by show r.cU.length<=1000;have:=h.cU.1;omega
   path:=λq N=>by
    obtain⟨h1,o⟩:=h.cU.2 q N;exact⟨av,λs f=>by have:=j s (.inr (bP.1 o s f));omega⟩}
  plain:=GP h.plain
  ok:=⟨av,h.op.ok,⟨by have:=j _ (h.words r.dy.name bR);show r.dy.name.length<=_;omega,by have:=j _ (h.words r.dy.see bR);show r.dy.see.length<=_;omega,by have:=h.tz;show r.dy.eH.length<=_;omega,λx hx=>by have:=j _ (h.words x (by simp[show x∈r.dy.eH from hx]));omega⟩,by have:=h.cU.1;show r.cU.length<=_;omega,λq N=>by
    obtain⟨h1,o⟩:=h.cU.2 q N;exact⟨av,λs f=>by have:=j s (.inr (bP.1 o s f));omega⟩⟩
  Vr:=av
  J4:=h.cU.1
  tz:=h.tz
  opl:=h.op.len
  name:=y
  ei:=by show 0<=t/\t<=_;omega
  n:=by show 0<=r.n/\r.n<=_;omega
  RY:=D
  C:=λi aC=>av
  dy:=λQ=>⟨(h.dy Q).1,by
   rcases h.words r.dy.see bR with h1|h1
   .exact .inl h1
   .exact .inr h1,H.1,H.2,(h.dy Q).2⟩
  cU:=h.cU.2}
def s8{b k:Int}(hb:0<=b/\b<=5)(d:k=0\/k=1):(oR b k).raw where
 J:=hb
 seq:=rfl
 C:=rfl
 kind:=by show k=0\/_;rcases d with h|h<;>simp[h,oR]
 plain:=⟨λ_=>rfl,λ_=>rfl,λ_ _ _ _=>rfl,λ_ _=>rfl,λ_ _=>rfl,λp E=>by cases E⟩
 op:=nD
 tz:=by simp[oR,EF]
 words:=by intro s a;simp[oR,EF]at a;exact .inl a
 OU:=by simp[oR,EF]
 dy:=by intro h;simp only[oR]at h;omega
 id:=by simp[oR]
 n:=by simp[oR]
 cU:=⟨by simp[oR],λp E=>by cases E⟩
def IA{b:Int}(hb:0<=b/\b<=5){o:Op}(a:o.small):aV.raw {oR b 0 with op:=o}:=
 let h:=s8 hb (.inl rfl:(0:Int)=0\/(0:Int)=1)
 {h with op:=a,plain:=⟨λe=>absurd rfl e,h.plain.dy,h.plain.id,h.plain.cU,h.plain.n,h.plain.pid⟩}
def OV{g:GS}(a:uS g.w)(n:Nat): -1<=(wo g n).J/\(wo g n).J<=100/\0<=(wo g n).seq/\(wo g n).seq<=100/\0<=(wo g n).k/\(wo g n).k<=100:=by
 unfold wo;split
 .have:=Fa a (n/16%(dx g.w).length);unfold qf at this;omega
 .simp
def OW(a:ID)(n i:Nat):(1<=(xf a n i).path.length/\(xf a n i).path.length<=4)/\(xf a n i).path.all iV=true:=by
 unfold xf;simp only[bN,sr,hA,aM];split
 .simp only[eu,bN,ce,pN];refine⟨av,?_⟩;rw[ap,aa (by show _<3;omega),bf];exact OS _ (ah _)
 .simp
def OX(a:ID)(n k:Nat):(pZ a n k).length=k/\∀p∈pZ a n k,p.id=a/\(1<=p.path.length/\p.path.length<=4)/\p.path.all iV=true:=by
 refine⟨by simp[pZ],λp E=>?_⟩;obtain⟨i,_,rfl⟩:=cG.1 E;exact⟨rfl,OW a n i⟩
def GR{g:GS}(l:uS g.w){b k:Int}(hb:0<=b/\b<=5)(q:k=3\/k=4)(n m j:Nat)(o:j<=16):aV.raw {oR b k with id:=wo g n,cU:=pZ (wo g n) m j}:=by
 have h:=s8 hb (.inl rfl:(0:Int)=0\/(0:Int)=1);have a:=OX (wo g n) m j;exact {h with kind:=by simp only[oR];omega,id:=OV l n,cU:=⟨by simp only;rw[a.1];exact o,λp E=>(a.2 p E).2⟩,plain:=⟨λ_=>rfl,λ_=>rfl,λd f=>by simp only[oR]at d f;omega,λd f=>by simp only[oR]at d f;omega,λ_ _=>rfl,λp E=>(a.2 p E).1⟩,dy:=by intro h;simp only[oR]at h;omega}
def GT{g:GS}(f:uS g.w){k:Int}(j:k=5\/k=6)(n:Nat):aV.raw {oR 5 k with id:=wo g n,n:=(n%7:Nat)}:=by
 have h:=s8 (by omega:(0:Int)<=5/\(5:Int)<=5) (.inl rfl:(0:Int)=0\/(0:Int)=1);exact {h with kind:=by simp only[oR];omega,id:=OV f n,n:=by simp only;omega,plain:=⟨λ_=>rfl,λ_=>rfl,λ_ _ a d=>by simp only[oR]at a d;omega,λ_ _=>rfl,λa d=>by simp only[oR]at a d;omega,λp E=>by cases E⟩,dy:=by intro h;simp only[oR]at h;omega}
def OY(n:Nat):aV.raw {oR 5 2 with dy:=oA n}:=by
 have h:=s8 (by omega:(0:Int)<=5/\(5:Int)<=5) (.inl rfl:(0:Int)=0\/(0:Int)=1);have hb:(oA n).eH.length<=1/\∀s∈(oA n).eH,iV s=true:=by
  simp only[oA];split
  .exact⟨bR,λs a=>by obtain rfl:=bg.1 a;exact sr _⟩
  .exact⟨bR,λs a=>by cases a⟩
 have d:(oA n).see=[]\/iV (oA n).see=true:=by
  simp only[oA];split
  .exact .inr (sr _)
  .exact .inl rfl
 have f:∀s∈(oA n).name::(oA n).see::(oA n).eH,s=[]\/iV s=true:=by
  intro s a;rcases bC.1 a with e|a
  .rw[e];exact .inr (sr _)
  .rcases bC.1 a with e|a
   .rw[e];exact d
   .exact .inr (hb.2 s a)
 have j:(0<=(oA n).kind/\(oA n).kind<=2)/\(0<=(oA n).eh/\(oA n).eh<=3):=by simp only[oA];omega
 exact {h with kind:=by simp[oR],tz:=aQ hb.1 dt,words:=f,OU:=j,dy:=λ_=>⟨sr _,bP.2 hb.2⟩,plain:=⟨λ_=>rfl,λl=>by simp[oR]at l,λ_ _ _ _=>rfl,λ_ _=>rfl,λ_ _=>rfl,λp E=>by cases E⟩}
def OZ{g:GS}(d:g.w.fits)(a:uS g.w)(l:List Int)(c kind:Int)(f:0<=kind/\kind<=13)(n:Nat):(zt g l c kind n).raw:=by
 unfold zt;split
 .exact s8 av (.inr rfl)
 split
 .exact OY n
 split
 .exact GT a (.inl rfl) n
 split
 .exact GT a av n
 split
 .exact GR a av (.inl rfl) n n (n%3) av
 split
 .exact GR a av (.inr rfl) n (n/2) (n/2%3) av
 .exact IA av (It d a l (c+2))
def GU(l:List Int)(i:Nat):((yk l).getD i iW).small:=by
 have a:=nD;have d:=wv l 1 ⟨0,0,0⟩;have j:=vn l 1 ⟨0,0,0⟩;have f:=wv l 6 ⟨0,0,0⟩;have o:=vn l 6 ⟨0,0,0⟩;unfold yk
 match i with
 |0=>exact a
 |1=>exact {a with kind:=bR,bW:=q6 _ _}
 |2=>exact {a with kind:=bR,eh:=by show -1000000<=(my l 1 ⟨0,0,0⟩).eh/\(my l 1 ⟨0,0,0⟩).eh<=1000000;omega,bW:=d.1,C:=⟨by show(my l 1 ⟨0,0,0⟩).C.length<=256;omega,d.2.2.2⟩}
 |3=>exact {a with kind:=bR,idx:=bR,eB:=by show -1000000<=(my l 6 ⟨0,0,0⟩).eB/\(my l 6 ⟨0,0,0⟩).eB<=1000000;omega,eh:=by show -1000000<=(my l 6 ⟨0,0,0⟩).eh/\(my l 6 ⟨0,0,0⟩).eh<=1000000;omega,bW:=f.1,C:=⟨by show(my l 6 ⟨0,0,0⟩).C.length<=256;omega,f.2.2.2⟩}
 |i+4=>exact a
def Cd{g:GS}(a:g.w.fits)(d:uS g.w)(l:List Int)(n i:Nat):(zu l n i g).raw:=by
 unfold zu;split
 .exact IA av (GU l i)
 split
 .have:=ic l (14+16*((i:Int)-4)) 14 av;exact OZ a d l _ _ av _
 .exact s8 av (.inr rfl)
def aam:cm.fits ⟨[]⟩:=⟨⟨bR,λv h=>(by cases h),by simp[dx,lP]⟩,by simp[dx,lP],⟨bR,λv h=>(by cases h)⟩,λp E=>(by cases E)⟩
structure MAt(l:List Int)(n i:Nat)(s:MS):Prop where
 ok:Kc s.out s.ei
 len:s.out.length=i
 ei:1<=s.ei/\s.ei<=1+2*i
 good:∀e∈s.out,e.good
 prs:∀e∈s.out,e.op.cX.length<=16
 fits:s.g.w.fits
 X:uS s.g.w
 n:s.g.n<=16
def O0{g:GS}(a:g.w.fits){e:aV}(d:e.op.small):(Ol g e).w.fits:=by
 unfold Ol;split
 .simp only;split
  next h=>exact nz (E8 a.1 d.ok (λt f=>by have:=d.F.2 t f;omega) _) (DT h)
  .exact a
 .split<;>exact a
def SA{g:GS}(a:uS g.w)(e:aV):uS (Ol g e).w:=by
 unfold Ol;split
 .simp only;split
  .exact OK a _ _
  .exact a
 .split<;>exact a
def aan{g:GS}(h:g.n<=16)(e:aV):(Ol g e).n<=16:=by
 unfold Ol;split
 .exact h
 .split
  .simp only;split<;>omega
  .exact h
def Ce(l:List Int)(n:Nat):∀i,i<=50->MAt l n i (l8 l n i)
 |0,_=>⟨.nil,rfl,by simp[l8],λe a=>(by cases a),λe a=>(by cases a),aam,λp E=>(by cases E),by simp[l8]⟩
 |i+1,o=>by
  have h:=Ce l n i av;have f:=Cd h.fits h.X l n i;have hb:=ic l (14+16*(i:Int)) 2 av;have j:=h.ei;have q:=h.len;refine⟨h.ok.push j.1 ?_ _ f.seq f.C f.J,?_,?_,λe a=>?_,λe a=>?_,?_,?_,?_⟩
  .show(l8 l n i).ei< (l8 l n i).ei+1+W l (14+16*(i:Int)) 2;omega
  .show((l8 l n i).out++[_]).length=i+1;rw[ae,h.len];rfl
  .show 1<=(l8 l n i).ei+1+W l (14+16*(i:Int)) 2/\(l8 l n i).ei+1+W l (14+16*(i:Int)) 2<=1+2*((i+1:Nat):Int);omega
  .rcases aR.1 a with d|d
   .exact h.good e d
   .obtain rfl:=bg.1 d;exact Cc h.ok av av f
  .rcases aR.1 a with d|d
   .exact h.prs e d
   .obtain rfl:=bg.1 d;exact f.op.cX.1
  .exact O0 h.fits f.op
  .exact SA h.X _
  .exact aan h.n _
def O1(l:List Int):vN (uP l)/\s4 (uP l)/\(∀e∈uP l,e.good)/\(∀e∈uP l,e.op.cX.length<=16)/\(uP l).length=5+tC l/\5<=(uP l).length/\(uP l).length<=14:=by
 have hb:=ic l 0 10 av;have a:tC l<=9:=by unfold tC;omega
 have h:=Ce l (tC l) (5+tC l) av;have:=h.len;exact⟨h.ok.ticks,h.ok.closed,h.good,h.prs,h.len,by show 5<=(l8 l (tC l) (5+tC l)).out.length;omega,by show(l8 l (tC l) (5+tC l)).out.length<=14;omega⟩
def gsz(i:Nat):Nat:=if i=0 then 2 else if i=1 then 6 else 5
structure GQ(base E:aJ)(dV:Nat)(w:cm)(n K:Nat)(F:Nat->V)(X:Nat->List V):Prop where
 box:E.box dV=some [.aP,.aP,cd w.O,F 0,F 1,F 2]
 sl:∀i,i<3->gh (gsz i) E (F i) (X i)
 IB:(X 0).length=n
 len:∀i,i<3->(X i).length<=K
 ne:∀i,i<3->bH (F i)≠some dV
 inj:∀i j k,i<3->j<3->i≠j->bH (F i)=some k->bH (F j)≠some k
 bd:base.Y<=dV/\dV<E.Y
 TK:∀i k,i<3->bH (F i)=some k->base.Y<=k/\k<E.Y
 same:bt none base E
def GH(base E:aJ)(dV:Nat)(w:cm)(n K:Nat):Prop:=∃F X,GQ base E dV w n K F X
def GQ.O2{base E:aJ}{dV n K:Nat}{w:cm}{F:Nat->V}{X:Nat->List V}(Q:GQ base E dV w n K F X):(F 0).one=true/\(F 1).one=true/\(F 2).one=true:=
 ⟨(Q.sl 0 av).one,(Q.sl 1 av).one,(Q.sl 2 av).one⟩
def GQ.mono{base E:aJ}{dV n K K':Nat}{w:cm}{F:Nat->V}{X:Nat->List V}(Q:GQ base E dV w n K F X)(h:K<=K'):GQ base E dV w n K' F X:=
 {Q with len:=λi a=>aQ (Q.len i a) h}
def GQ.push{base E nv o:aJ}{dV n K:Nat}{w:cm}{F:Nat->V}{X:Nat->List V}(Q:GQ base E dV w n K F X){i:Nat}(l:i<3){v':V}{y:V}(hS:bt (bH (F i)) E nv)(hm:gh (gsz i) nv v' (X i++[y]))(H:bH v'=bH (F i)\/bH v'=some E.Y)(u:∀j,bH v'=some j->j<nv.Y)
 (tb:o.box=eR nv.box dV (some [.aP,.aP,cd w.O,eR F i v' 0,eR F i v' 1,eR F i v' 2])) (tm:o.mp=nv.mp) (p:o.Y=nv.Y):GQ base o dV w (if i=0 then n+1 else n) (K+1) (eR F i v') (eR X i (X i++[y])):=by
 have L:=hS.Y;have q:∀k,bH v'=some k->k≠dV/\base.Y<=k/\k<nv.Y/\∀j,j<3->j≠i->bH (F j)≠some k:=λk d=>by
  rcases H with h|h
  .rw[h]at d;have:=Q.TK i k l d;exact⟨λe=>Q.ne i l (e▸d),this.1,av,λj f z=>Q.inj i j k l f (hU z) d⟩
  .rw[h]at d;cases d;have:=Q.bd.2;have:=Q.same.Y;exact⟨av,av,u _ h,λj f _ e=>by have:=Q.TK j _ f e;omega⟩
 refine⟨by rw[tb,bl],λj f=>?_,?_,λj f=>?_,λj f=>?_,λa b k D hb r d=>?_,⟨Q.bd.1,by rw[p];have:=Q.bd.2;omega⟩,λj k f d=>?_,⟨λj f _=>?_,λj f=>?_,?_⟩⟩
 .by_cases e:j=i
  .subst e;rw[bl,bl];exact hm.frame (λk d=>by rw[tb];exact bE _ _ (q k d).1) (c8 p.symm)
  .rw[bE _ _ e,bE _ _ e];refine(Q.sl j f).frame (λk d=>?_) (by rw[p];exact L);have hb:=Q.TK j k f d;rw[tb,bE _ _ (λt=>Q.ne j f (by rw[<-t];exact d))];exact hS.box k hb.2 (λt=>Q.inj i j k l f (hU e) t d)
 .by_cases e:i=0
  .subst e;rw[bl,ax rfl,ae,Q.IB];rfl
  .rw[bE _ _ (hU e),an e];exact Q.IB
 .have:=Q.len j f;by_cases e:j=i
  .subst e;rw[bl,ae];simp;omega
  .rw[bE _ _ e];omega
 .by_cases e:j=i
  .subst e;rw[bl];exact λh=>(q _ h).1 rfl
  .rw[bE _ _ e];exact Q.ne j f
 .by_cases ea:a=i
  .subst ea;rw[bl]at d;rw[bE _ _ (hU r)];exact(q k d).2.2.2 b hb (hU r)
  .rw[bE _ _ ea]at d;by_cases eb:b=i
   .subst eb;rw[bl];exact λh=>(q k h).2.2.2 a D ea d
   .rw[bE _ _ eb];exact Q.inj a b k D hb r d
 .by_cases e:j=i
  .subst e;rw[bl]at d;rw[p];exact⟨(q k d).2.1,(q k d).2.2.1⟩
  .rw[bE _ _ e]at d;have:=Q.TK j k f d;rw[p];omega
 .have:=Q.bd.1;have:=Q.same.Y;rw[tb,bE _ _ av,hS.box j av (λe=>by have:=Q.TK i j l e;omega)];exact Q.same.box j f bR
 .have:=Q.same.Y;rw[tm,hS.mp j av];exact Q.same.mp j f
 .have:=Q.same.Y;rw[p];omega
def GQ.bW{base E a:aJ}{dV n K:Nat}{w w':cm}{F:Nat->V}{X:Nat->List V}(Q:GQ base E dV w n K F X)
 (tb:a.box=eR E.box dV (some [.aP,.aP,cd w'.O,F 0,F 1,F 2])) (tm:a.mp=E.mp) (f:a.Y=E.Y):GQ base a dV w' n K F X where
 box:=by rw[tb,bl]
 sl:=λj d=>(Q.sl j d).frame (λk l=>by rw[tb];exact bE _ _ (λe=>Q.ne j d (e▸l))) (c8 f.symm)
 IB:=Q.IB
 len:=Q.len
 ne:=Q.ne
 inj:=Q.inj
 bd:=by rw[f];exact Q.bd
 TK:=by rw[f];exact Q.TK
 same:=⟨λj d _=>by have:=Q.bd.1;rw[tb,bE _ _ av];exact Q.same.box j d bR,λj d=>by rw[tm];exact Q.same.mp j d,by rw[f];exact Q.same.Y⟩
def GH.mono{base E:aJ}{dV n K K':Nat}{w:cm}(h:GH base E dV w n K)(a:K<=K'):GH base E dV w n K':=by
 obtain⟨F,X,Q⟩:=h;exact⟨F,X,Q.mono a⟩
def SB{w:cm}{o:Op}(d:o.cX.length<=100)(a:w.fits)(b:Name):(Wi w o b).1.length<=2000:=by
 unfold Wi;split
 .refine aQ (Aa _) ?_;rw[ae];have f:(pK (s0 w o) (k4 w)).length<=(k4 w).length:=gS _ _;have j:(k4 w).length<=(dx w).length:=by
   exact T8
  have l:=a.2.1;have p:=Ge b (s0 w o) (vM o);have q:(vM o).length<=102:=by
   unfold vM;split
   .simp
   .split
    .simp
    .omega
  omega
 .simp
def aao:CF GL f101 [65,102] [] 101:=ji
def SC(base E:aJ)(dV:Nat)(w:cm)(n K:Nat)(hH:GH base E dV w n K)(a9:w.fits)(dU:K<=1000000000-10000)(o:Op)(ac:o.small)(b:Name):
 aI 101 [.bp dV 0,o.v,b.v] E λu _ f=>u.dW=false/\u.one=true/\GH base f dV (if(sg w o b).2=0 then(sg w o b).1 else w) n (K+10000):=by
 have a0:=a9.1;have bi:∀t∈o.F,t.length<=10000:=λt h=>by have:=ac.F.2 t h;omega
 have ca:=aQ ac.cX.1 (show 16<=100 by decide);have ad:=JQ w a0 o ac.ok bi b;have cb:=RB w a0 o ac.ok bi b (λ_ _=>by have:=ac.n;omega) av;have c6:=SB ca a9 b;have ea:=a9.2.1;have c3:=uC w a0;have R:=E8 a0 ac.ok bi b;unfold mw at ad;refine bq aao.ok rfl ?_;obtain⟨F,X,Q⟩:=hH;have hx:=Q.box;obtain⟨q,r,z⟩:=Q.O2;by_cases ab:(sg w o b).2=0
 .rw[ax ab];have a6:=DT ab;generalize eb:sg w o b=D at*
  obtain⟨W,e⟩:=D;simp only at ab ad R a6 ⊢
  subst ab;generalize Wi w o b=L at*
  obtain⟨L,ed⟩:=L;simp only at c6 cb;have c4:=uC W R;have dF:=(nz R a6).2.1;repeat' first|simp(disch:=try exact om) only[gE,simprocAttr,Op.v,Op.c,hx,q,r,z]|refine lq ad ?_|refine lq cb ?_
  refine dQ rfl rfl (λ(k:Nat) t=>k<=L.length/\t.Z 11=I k/\GH base t.E dV w n (K+k)/\t.G 5=1/\t.loc 5 0=[I b.J,I b.seq]/\t.G 7=1/\t.loc 7 0=[cd W.O]) (λk=>L.length-k) 0 ?_ ?_
  .refine⟨aL _,?_⟩;simp only[da,simprocAttr,aO,aw];exact⟨⟨F,X,Q⟩,rfl⟩
  rintro k t ⟨g1,bo,c7,g4,g5,g6,a1⟩ d;have br:t.Z 0=.bp dV 0:=(d 0 dt).trans sT;have c9:t.Z 5=.A 5 0 0:=(d 5 dt).trans sT;have dd:t.Z 7=.A 7 0 0:=(d 7 dt).trans sT;have cc:t.Z 9=g7 L:=(d 9 dt).trans sT;clear d hx q r z Q;obtain⟨F,X,Q⟩:=c7;have hx:=Q.box;obtain⟨q,r,z⟩:=Q.O2;rcases am k L.length with bs|bs
  .have dg:=o7 L[k].from_ L[k].to;repeat' first|simp(disch:=try exact om) only[gE,simprocAttr,bo,br,cc,hx,q,r,z,g7,cR.v,bG]|refine cs ?_ ?_<;>intro h<;>try omega|refine lq dg ?_|refine ec ?_|refine fg ?_ ?_
   .refine iE (xs:=X 1) (ys:=[L[k].v]) ?_ ?_ ?_ ?_ ?_ rfl ?_ ?_ λai f a hb bu=>?_
    .simp only[sE];exact(Q.sl 1 av).frame (λ_ _=>rfl) (ao _)
    .exact sT
    .intro y aA;simp at aA;subst aA;rfl
    .exact sT
    .simp only[sE];intro l bv;cases bv
    .have:=Q.len 1 av;simp only[aM,aT];omega
    .intro _ bU;cases bU
    have aB:=a.one;have b2:=a.fS;have H:bt (bH (F 1)) t.E f:=sR hb;have aC:bH ai=bH (F 1)\/bH ai=some t.E.Y:=sR bu;have ch:f.box dV=some [.aP,.aP,cd w.O,F 0,F 1,F 2]:=(H.box dV Q.bd.2 (Q.ne 1 av)).trans hx;repeat' simp only[gE,simprocAttr,br,aB,b2]
    refine cC (n:=1) (off:=4) (cells:=[.aP,.aP,cd w.O,F 0,F 1,F 2]) ?_ ?_ bR λci te tc tl tb tm aD cp=>?_
    .exact sT
    .simp only[sE];simp[jR,aB,a.kb]
    have p:=tb.trans sT;simp only[a.kb,aO,aw,ay]at p;have N:=aD.trans sT;have P:=tm.trans sT;repeat' simp(disch:=omega) only[gE,simprocAttr,te,tc,tl,bo]
    refine⟨k+1,⟨?_⟩,⟨av⟩⟩;refine⟨bs,by(simp only[da,te,tl,tc]);exact ar (V.int .i64) av,⟨_,_,Q.push (i:=1) av H a aC (λj b3=>a.Bd b3) p P N⟩,by(simp only[da,te,tl,tc]);exact g4,by(simp only[da,te,tl,tc]);exact g5,by(simp only[da,te,tl,tc]);exact g6,by(simp only[da,te,tl,tc]);exact a1⟩
   .refine⟨k+1,⟨?_⟩,⟨av⟩⟩;refine⟨bs,by(simp only[da]);exact ar (V.int .i64) av,by(simp only[da]);exact GH.mono ⟨F,X,Q⟩ av,by(simp only[da]);exact g4,by(simp only[da]);exact g5,by(simp only[da]);exact g6,by(simp only[da]);exact a1⟩
  .obtain rfl:k=L.length:=av;repeat' first|simp only[gE,simprocAttr,bo,br,c9,dd,cc,hx,q,r,z,g4,g5,g6,a1]|refine cs ?_ ?_<;>intro h<;>try omega|refine lq c3 ?_|refine lq c4 ?_
   generalize dx w=A at*
   generalize dx W=c1 at*
   refine dQ rfl rfl (λ(k:Nat) y=>k<=A.length/\y.Z 14=I k/\GH base y.E dV w n (K+L.length+k)/\y.G 5=1/\y.loc 5 0=[I b.J,I b.seq]/\y.G 7=1/\y.loc 7 0=[cd W.O]) (λk=>A.length-k) 0 ?_ ?_
   .exact⟨aL _,by simp only[da,simprocAttr],by(simp only[da,simprocAttr]);exact⟨F,X,Q⟩,by(simp only[da,simprocAttr]);exact g4,by(simp only[da,simprocAttr]);exact g5,by(simp only[da,simprocAttr]);exact g6,by(simp only[da,simprocAttr]);exact a1⟩
   clear hx q r z Q;rintro k y ⟨el,b5,dp,a2,a3,a4,a5⟩ d;have b6:y.Z 0=.bp dV 0:=(d 0 dt).trans sT;have c2:y.Z 5=.A 5 0 0:=(d 5 dt).trans sT;have c5:y.Z 7=.A 7 0 0:=(d 7 dt).trans sT;have a7:y.Z 12=dv A:=(d 12 dt).trans sT;have a8:y.Z 13=dv c1:=(d 13 dt).trans sT;clear d;obtain⟨F,X,Q⟩:=dp;have hx:=Q.box;obtain⟨q,r,z⟩:=Q.O2;rcases am k A.length with b7|b7
   .have ds:=QL c1 A[k].id av;repeat' first|simp(disch:=try exact om) only[gE,simprocAttr,b5,b6,c2,c5,a7,a8,a2,a3,a4,a5,hx,q,r,z,dv,aK.v,bG]|refine cs ?_ ?_<;>intro h<;>try omega|refine lq ds ?_|refine ec ?_|refine fg ?_ ?_
    iterate 2
     .refine iE (xs:=X 2) (ys:=[.agg [I A[k].id.J,I A[k].id.seq,I A[k].id.k,I b.J,I b.seq]]) ?_ ?_ ?_ ?_ ?_ rfl ?_ ?_ λai f a hb bu=>?_
      .simp only[sE];exact(Q.sl 2 av).frame (λ_ _=>rfl) (ao _)
      .exact sT
      .intro y aA;simp at aA;subst aA;rfl
      .exact sT
      .simp only[sE];intro l bv;cases bv
      .have:=Q.len 2 av;simp only[aM,aT];omega
      .intro _ bU;cases bU
      have aB:=a.one;have b2:=a.fS;have H:bt (bH (F 2)) y.E f:=sR hb;have aC:bH ai=bH (F 2)\/bH ai=some y.E.Y:=sR bu;have ch:f.box dV=some [.aP,.aP,cd w.O,F 0,F 1,F 2]:=(H.box dV Q.bd.2 (Q.ne 2 av)).trans hx;repeat' simp only[gE,simprocAttr,b6,aB,b2]
      refine cC (n:=1) (off:=5) (cells:=[.aP,.aP,cd w.O,F 0,F 1,F 2]) ?_ ?_ bR λci te tc tl tb tm aD cp=>?_
      .exact sT
      .simp only[sE];simp[jR,aB,a.kb]
      have p:=tb.trans sT;simp only[a.kb,aO,aw,ay]at p;have N:=aD.trans sT;have P:=tm.trans sT;repeat' simp(disch:=omega) only[gE,simprocAttr,te,tc,tl,b5]
      refine⟨k+1,⟨?_⟩,⟨av⟩⟩;refine⟨b7,by(simp only[da,te,tl,tc]);exact ar (V.int .i64) av,⟨_,_,Q.push (i:=2) av H a aC (λj b3=>a.Bd b3) p P N⟩,by(simp only[da,te,tl,tc]);exact a2,by(simp only[da,te,tl,tc]);exact a3,by(simp only[da,te,tl,tc]);exact a4,by(simp only[da,te,tl,tc]);exact a5⟩
    .refine⟨k+1,⟨?_⟩,⟨av⟩⟩;refine⟨b7,by(simp only[da]);exact ar (V.int .i64) av,by(simp only[da]);exact GH.mono ⟨F,X,Q⟩ av,by(simp only[da]);exact a2,by(simp only[da]);exact a3,by(simp only[da]);exact a4,by(simp only[da]);exact a5⟩
   .obtain rfl:k=A.length:=av;repeat' first|simp only[gE,simprocAttr,b5,b6,c2,c5,a7,a8,a2,a3,a4,a5,hx,q,r,z]|refine cs ?_ ?_<;>intro h<;>try omega
    refine cC (n:=1) (off:=2) (cells:=[.aP,.aP,cd w.O,F 0,F 1,F 2]) ?_ ?_ bR λci te tc tl tb tm aD cp=>?_
    .exact sT
    .exact sT
    have p:=tb.trans sT;have N:=aD.trans sT;have P:=tm.trans sT;repeat' simp only[gE,simprocAttr,te,tc,tl]
    exact⟨nE,B true,_,bz rfl rfl,rfl,rfl,GH.mono ⟨F,X,Q.bW (w':=W) p P N⟩ av⟩
 .rw[an ab];generalize sg w o b=D at*
  obtain⟨W,e⟩:=D;simp only at ab ad;repeat' first|simp(disch:=try exact om) only[gE,simprocAttr,Op.v,Op.c,hx,ab,q,r,z]|refine cs ?_ ?_<;>intro h<;>try omega|refine lq ad ?_
  all_goals exact⟨nE,B false,_,bz rfl rfl,rfl,rfl,F,X,Q.mono av⟩
def aby:CF GL f53 [47,62] [3] 53:=ji
def VM(base E:aJ)(dV:Nat)(g:GS)(K:Nat)(hH:GH base E dV g.w g.n K)(H:g.w.fits)(br:g.n<=16)(bs:K<=1000000000-20000)(e:aV)(aD:e.op.small)(W:Int):
 aI 53 [.bp dV 0,e.v,I W] E λu _ d=>u.dW=false/\u.one=true/\GH base d dV (Ol g e).w (Ol g e).n (K+10001):=by
 have a0:=NJ e;have a1:=SC base E dV g.w g.n K hH H av e.op aD e.name;have c3:=xb g.w H.1;have c4:=vg g.w e.id H.1;refine bq aby.ok rfl ?_;obtain⟨F,X,Q⟩:=hH;have hx:=Q.box;obtain⟨o,p,q⟩:=Q.O2;have le:=(Q.sl 0 av).len;rw[Q.IB]at le;have r:=(Q.sl 0 av).fS;unfold Ol;obtain⟨w,n⟩:=g;obtain⟨bu,bv,bU,kind,b2,op,tm,b3,b5,b6⟩:=e;simp only at*
 by_cases L:kind=0
 .subst L;rw[ax rfl];repeat' first|simp only[gE,simprocAttr,aV.v,hx,o,p,q]|refine lq a0 ?_|refine fg ?_ ?_
  all_goals
   refine bm (h0:=E) sT a1 sT ag ?_;rintro u _ bi ⟨P,a2,a3⟩;repeat' simp only[gE,simprocAttr]
   exact⟨nE,_,_,bz rfl P,P,a2,GH.mono a3 av⟩
 rw[an L];by_cases N:kind=1
 .subst N;rw[ax rfl];by_cases R:16<=n
  .rw[ax (.inl R)];have f:decide ((16:Int)<=(n:Int))=true:=db av;repeat' simp only[gE,simprocAttr,aV.v,hx,o,p,q,le,r,f]
   exact Py
  have f:decide ((16:Int)<=(n:Int))=false:=dY av;by_cases t:fy w=0
  .rw[an (λh=>h.elim R (λh=>h t))];rw[t]at c3;repeat' first|simp only[gE,simprocAttr,aV.v,hx,o,p,q,le,r,f]|refine lq c3 ?_|refine fg ?_ ?_
   all_goals
    refine iE (xs:=X 0) (ys:=[.agg [cd w.O,I W]]) ?_ ?_ ?_ ?_ ?_ rfl ?_ ?_ λab d a hb a4=>?_
    .simp only[sE];exact(Q.sl 0 av).frame (λ_ _=>rfl) (ao _)
    .exact sT
    .intro y ac;simp at ac;subst ac;rfl
    .exact sT
    .simp only[sE];intro l a5;cases a5
    .have:=Q.len 0 av;simp only[aM,aT];omega
    .intro _ a6;cases a6
    have ad:=a.one;have a7:=a.fS;have z:bt (bH (F 0)) E d:=sR hb;have ai:bH ab=bH (F 0)\/bH ab=some E.Y:=sR a4;have bo:d.box dV=some [.aP,.aP,cd w.O,F 0,F 1,F 2]:=(z.box dV Q.bd.2 (Q.ne 0 av)).trans hx;repeat' simp only[gE,simprocAttr,ad,a7]
    refine cC (n:=1) (off:=3) (cells:=[.aP,.aP,cd w.O,F 0,F 1,F 2]) ?_ ?_ bR λb7 te tc tl tb tm a8 ca=>?_
    .exact sT
    .simp only[sE];simp[jR,ad,a.kb]
    have D:=tb.trans sT;simp only[a.kb,aO,aw,ay]at D;have aA:=a8.trans sT;have aB:=tm.trans sT;repeat' simp only[gE,simprocAttr,te,tc,tl]
    exact⟨nE,B true,_,bz rfl rfl,rfl,rfl,GH.mono ⟨_,_,Q.push (i:=0) av z a ai (λj a9=>a.Bd a9) D aB aA⟩ av⟩
  .rw[ax (.inr t)];repeat' first|simp only[gE,simprocAttr,aV.v,hx,o,p,q,le,r,f,t]|refine cs ?_ ?_<;>intro h<;>try omega|refine lq c3 ?_
   exact Py
 rw[an N];by_cases aC:kind=2
 .subst aC;repeat' simp only[gE,simprocAttr,aV.v,hx,o,p,q]
  exact Py
 .repeat' first|simp(disch:=try exact om) only[gE,simprocAttr,aV.v,hx,o,p,q,L,N,aC]|refine cs ?_ ?_<;>intro h<;>try omega|refine lq c4 ?_
  exact Py
def abz:CF GL f51 [] [] 51:=ji
def O3{cs ds:List V}(h:aN cs ds):V.Le (.agg cs) (.agg ds):=.agg cs ds h.1 h.2
section
variable (g:GS)(l:List Int)(c:Int)(n:Nat)
def VN{k:Int}(h:(k=6\/k=7)->¬g.n<2)(h2:k<8):zt g l c k n={oR (4*(n%2:Nat)) 0 with op:=Gt g.w l (c+2)}:=by
 unfold zt;rw[an (λe=>h e.1 e.2),an av,an av,an av,an av,an av]
def VO{k:Int}(h:k=6\/k=7)(h2:g.n<2):zt g l c k n=oR 0 1:=ax ⟨h,h2⟩
def VP:zt g l c 8 n={oR 5 2 with dy:=oA n}:=rfl
def VQ:zt g l c 9 n={oR 5 5 with id:=wo g n,n:=(n%7:Nat)}:=rfl
def SD:zt g l c 10 n={oR 5 (5+(n/7%2:Nat))with id:=wo g n,n:=(n%7:Nat)}:=rfl
def SE:zt g l c 11 n={oR 1 3 with id:=wo g n,cU:=pZ (wo g n) n (n%3)}:=rfl
def SF:zt g l c 12 n={oR 2 3 with id:=wo g n,cU:=pZ (wo g n) n (n%3)}:=rfl
def SG:zt g l c 13 n={oR 3 4 with id:=wo g n,cU:=pZ (wo g n) (n/2) (n/2%3)}:=rfl
end
def VS(base E:aJ)(dV:Nat)(g:GS)(K:Nat)(hH:GH base E dV g.w g.n K)(y:g.w.fits)(l:List Int)(z:∀n∈l,jv n)(c:Int)(b7:0<=c/\c<=100000):
 aI 51 [.bp dV 0,fx l,I c] E λu _ d=>V.Le u (Sf g l c).v/\u.one=false/\d.box=E.box/\d.mp=E.mp/\d.Y=E.Y:=by
 have a8:=jk l c 14 z (by omega);have L:=jk l (c+1) 4096 z (by omega);have c3:=uC g.w y.1;have c4:=Sb g.w y l (c+2) z (by omega);have ca:=ic l c 14 (by omega);have a9:=ic l (c+1) 4096 (by omega);obtain⟨F,X,Q⟩:=hH;have hx:=Q.box;obtain⟨N,P,R⟩:=Q.O2;have le:=(Q.sl 0 (by omega)).len;rw[Q.IB]at le;have cb:=y.2.1;unfold Sf;obtain⟨b6,f⟩:∃o,Gt g.w l (c+2)=o:=⟨_,rfl⟩;rw[f]at c4;generalize W l c 14=kind at*
 obtain⟨n,bi⟩:∃n:Nat,W l (c+1) 4096=n:=⟨(W l (c+1) 4096).toNat,by omega⟩;rw[bi]at a9 L ⊢
 rw[bX];refine bq abz.ok rfl ?_;have r:((n:Int).tmod 16)=((n%16:Nat):Int):=by rw[jO];rfl
 have j:((n:Int).tdiv 16)=((n/16:Nat):Int):=by rw[oW];rfl
 have bo:((n:Int).tmod 7)=((n%7:Nat):Int):=by rw[jO];rfl
 have ab:((n:Int).tdiv 7)=((n/7:Nat):Int):=by rw[oW];rfl
 have br:((n:Int).tmod 2)=((n%2:Nat):Int):=by rw[jO];rfl
 have ac:((n:Int).tdiv 2)=((n/2:Nat):Int):=by rw[oW];rfl
 repeat any_goals first|simp(disch:=omega) only[dq,simprocAttr,hx,N,P,R,bh,cw,cN,cx,b8,bQ]|(refine iT a8 ?_ ?_;·simp only[dL,simprocAttr]<;>rfl)|((first|refine iT L ?_ ?_|refine iT c3 ?_ ?_);·simp only[dL,simprocAttr]<;>rfl)
 refine ec (sJ (J:=λt=>t.Z 0=.bp dV 0/\t.Z 1=fx l/\t.Z 2=I c/\t.Z 7=I kind/\t.Z 8=I n/\t.Z 6=.A 6 0 0/\t.Z 10=.A 10 0 0/\t.G 6=1/\t.G 10=1/\t.loc 10 0=(wo g n).v.cells/\t.loc 6 0=[I 0,I 0,I 0,I 0,.aP,I 0,I 0,I 0,I 0,I 0,I 0,I 0,I 0,I 0,I 0,I 0,I 0,I 0,S [],.aP,.aP,.aP,S [],I 0,I 0,S [],.aP,I 0,I 0,I 0,.aP,I 0]/\t.E.box=E.box/\t.E.mp=E.mp/\t.E.Y=E.Y) ?_ ?_)
 .have bs:(((n/16:Nat):Int).tmod ((dx g.w).length:Int))=((n/16%(dx g.w).length:Nat):Int):=by rw[jO]
  have ad:0< (dx g.w).length->n/16%(dx g.w).length< (dx g.w).length:=λh=>eG _ h;have D:(wo g n).v.cells=if 0< (dx g.w).length/\0<n%16 then((dx g.w).getD (n/16%(dx g.w).length) h8).id.v.cells else [I 5,I 60,I 0]:=by unfold wo;split<;>rfl
  rw[D];generalize n/16%(dx g.w).length=q at*
  generalize dx g.w=A at*
  by_cases H:0<A.length/\0<n%16
  .have ai:=ad H.1;rw[ax H,ap,aa ai,bf];repeat any_goals first|simp(disch:=first|omega|(simp only[me];omega)) only[dq,simprocAttr,bh,r,j,bs,dv,aK.v,cx,b8,ai]|(first|refine bY (λh=>?_) (λh=>?_)|refine cY (λh=>?_) (λh=>?_))<;>((try simp only[bO,bD]at h);(try simp only[h]);(try simp only[jc]at h);(try omega))
   all_goals skip
   all_goals skip
  .rw[an H];repeat any_goals first|simp only[dq,simprocAttr,bh,r,j]|(first|refine bY (λh=>?_) (λh=>?_)|refine cY (λh=>?_) (λh=>?_))<;>((try simp only[bO,bD]at h);(try simp only[h]);(try simp only[jc]at h);(try omega))
   all_goals skip
 .rintro t ⟨bu,bv,bU,b2,b3,aA,aB,aC,aD,p,a0,hb,a1,a2⟩;have a3:t.E.box dV=some [.aP,.aP,cd g.w.O,F 0,F 1,F 2]:=(nK hb dV).trans hx;have b5:=U3 n (by omega);have a4:=NZ (wo g n) n (by omega);have a5:=NZ (wo g n) (n/2) (by omega);simp only[ID.v,V.cells]at p;obtain⟨A,a⟩:∃A,wo g n=A:=⟨_,rfl⟩;rw[a]at a4 a5 p;have cc:((5:Int)+((n/7%2:Nat):Int))=5+(n/7%2:Nat):=rfl;have a6:(((n/7:Nat):Int).tmod 2)=((n/7%2:Nat):Int):=by rw[jO];rfl
  have a7:kind=0\/kind=1\/kind=2\/kind=3\/kind=4\/kind=5\/kind=6\/kind=7\/kind=8\/kind=9\/kind=10\/kind=11\/kind=12\/kind=13:=by omega
  rcases a7 with rfl|rfl|rfl|rfl|rfl|rfl|rfl|rfl|rfl|rfl|rfl|rfl|rfl|rfl
  all_goals
   repeat any_goals first|simp(disch:=omega) only[dq,simprocAttr,bh,bu,bv,bU,b2,b3,aA,aB,aC,aD,p,a0,a3,N,P,R,le,br,ac,bo,ab,a6,hG.v,ID.v,cw,cN,cx,b8,bQ]|(refine bY (λh=>?_) (λh=>?_))<;>((try simp only[h]);(try simp only[jc]at h))|((first|refine iT c4 ?_ ?_|refine iT b5 ?_ ?_|refine iT a4 ?_ ?_);·simp only[dL,simprocAttr]<;>rfl)|(refine iT a5 ?_ ?_;·simp only[dL,simprocAttr]<;>rfl)|refine ec ?_
  all_goals refine⟨nE,_,_,eA (by simp only[dL,simprocAttr,bh,aA,aC,a0]<;>rfl) rfl,?_,rfl,by exact hb,by exact a1,by exact a2⟩
  all_goals first
   |(rw[VN];rotate_left;(·intro _;omega);(·omega);rw[f])
   |(rw[VO];rotate_left;(·omega);(·omega))
   |rw[VP]
   |rw[VQ,a]
   |rw[SD,a]
   |rw[SE,a]
   |rw[SF,a]
   |rw[SG,a]
  all_goals refine O3 ?_
  all_goals repeat' first|exact aN.nil|refine aN.cons (.refl _) ?_|refine aN.cons (.aP _) ?_
def jD.cell{h:aJ}{id j:Nat}{cells:List V}{c d:V}(hx:h.box id=some cells)(o:cells[j]?=some c)(hle:V.Le c d):jD jF h {h with box:=eR h.box id (some (cells.set j d))} where
 Cu _ _ e:=by cases e
 box i cs e:=by
  by_cases p:i=id
  .subst p;rw[show(({h with box:=eR h.box i (some (cells.set j d))}:aJ).box i)=some (cells.set j d)from bl _ _ _]at e;cases e;refine⟨rfl,cells,hx,bR,λk a b l f=>?_⟩;by_cases q:k=j
   .subst q;rw[o]at l;cases l;rw[ie (by exact(aH.1 o).1)]at f;cases f;exact hle
   .rw[iK (hU q),l]at f;cases f;exact .refl _
  .rw[show(({h with box:=eR h.box id (some (cells.set j d))}:aJ).box i)=h.box i from bE _ _ p]at e;exact⟨rfl,cs,e,h7.refl _⟩
 fl i k e:=.inl ⟨e,.inl λ_ _ _ _=>.inl λ_=>rfl⟩
 mp i m e:=⟨m,e,.refl m⟩
 Y:=ao _
def GH.same{base E a:aJ}{dV n K:Nat}{w:cm}(h:GH base E dV w n K)(f:a.box=E.box)(h2:a.mp=E.mp)(d:a.Y=E.Y):GH base a dV w n K:=by
 obtain⟨F,X,Q⟩:=h;exact⟨F,X,⟨by rw[f];exact Q.box,λi j=>(Q.sl i j).frame (λk _=>by rw[f]) (c8 d.symm),Q.IB,Q.len,Q.ne,Q.inj,by rw[d];exact Q.bd,by rw[d];exact Q.TK,⟨by rw[f];exact Q.same.box,by rw[h2];exact Q.same.mp,by rw[d];exact Q.same.Y⟩⟩⟩
def uW{a vs:List V}(h:a.length=32)(d:vs.length=32):aO a 0 vs=vs:=by
 rw[ia av,fk,bx,cT av,cP]
def IC{u:V}{ds:List V}(h:V.Le u (.agg ds)):∃cs,u=.agg cs/\cs.length=ds.length/\∀(j:Nat) c d,cs[j]?=some c->ds[j]?=some d->V.Le c d:=by
 generalize a:V.agg ds=d at h;cases h with
 |refl=>subst a;exact⟨ds,rfl,rfl,λj c d f l=>by obtain rfl:=au (f.symm.trans l);exact .refl _⟩
 |agg cs q o p=>cases a;exact⟨cs,rfl,o,p⟩
 |_=>cases a
def VT{v u:V}(h:V.Le v u)(a:u.one=true):v.one=true:=by
 cases h<;>exact a
def aap{n:Nat}{u:V}{ds:List V}(h:V.Le u (.agg ds))(l:jR n (.agg ds)=true)(r:n=ds.length)(t:n≠1):∃cs,u=.agg cs/\cs.length=n/\jR n u=true/\V.Le (.agg cs) (.agg ds):=by
 obtain⟨cs,rfl,y,o⟩:=IC h;refine⟨cs,rfl,av,?_,h⟩;obtain⟨q1,p⟩:=fh l;unfold jR;rw[aX];refine⟨by simp[V.cells];omega,bP.2 λc a=>?_⟩;obtain⟨j,q,rfl⟩:=ja a;have d:j<cs.length:=q;have f:j<ds.length:=av;exact VT (o j _ _ (aa d) (aa f)) (bP.1 p _ (ah f))
def abA:CF GL f10 [44,92] [8,16,18] 10:=ji
def opF(o:Op):V:=.agg [I o.kind,I o.W.J,I o.W.seq,I o.W.k,I o.to.J,I o.to.seq,I o.to.k,I o.spot.i9,I o.spot.k3,I o.spot.idx,I o.n,I o.eB,I o.eh,S o.bW,.aP,.aP,if o.kind=2 then eZ o.C else .aP]
def VU(l:List Int)(R:∀n∈l,jv n):af 10 [fx l] (eI (uP l)) true:=by
 refine Pure.gg (by simp only[du]) (by simp only[du]) ?_;have cb:=H2 l 1 ⟨0,0,0⟩ R (by omega);have cc:=H2 l 6 ⟨0,0,0⟩ R (by omega);have c3:=Bl l 11 R (by omega);have c4:=jk l 0 10 R av;have ed:=ic l 0 10 av;obtain⟨N,ch⟩:∃N:Nat,W l 0 10=N:=⟨(W l 0 10).toNat,av⟩;have a4:uP l=(l8 l N (5+N)).out:=by unfold uP tC;rw[ch];rfl
 rw[ch]at c4 ed;obtain⟨one,h1⟩:∃p,my l 1 ⟨0,0,0⟩=p:=⟨_,rfl⟩;obtain⟨two,ci⟩:∃p,my l 6 ⟨0,0,0⟩=p:=⟨_,rfl⟩;obtain⟨el,cp⟩:∃p,kj l 11=p:=⟨_,rfl⟩;rw[h1]at cb;rw[ci]at cc;rw[cp]at c3;have ad:yk l=[iW,{iW with kind:=1,bW:=el},{iW with kind:=2,eB:=0,eh:=one.eh,bW:=one.bW,C:=one.C},{iW with kind:=2,spot:=⟨0,0,1⟩,eB:=two.eB,eh:=two.eh,bW:=two.bW,C:=two.C}]:=by
  unfold yk;rw[h1,ci,cp]
 rw[a4];refine bq abA.ok rfl ?_;repeat any_goals first|simp only[gE,simprocAttr,ID.v,aK.v,HX.act]|refine lq cb ?_|refine lq cc ?_|refine lq c3 ?_
 refine zL (fz:=jF) (h0:={(aJ.bare.cM [.aP,.aP,.aP,.aP,.aP,.aP])with box:=eR (aJ.bare.cM [.aP,.aP,.aP,.aP,.aP,.aP]).box 0 (some ([.aP,.aP,.aP,.aP,.aP,.aP].set 2 (cd [])))}) (jD.cell (j:=2) (c:=.aP) sT rfl (.aP _)) c4 sT (h7.cons (by(simp only[da]);exact .refl _) (h7.cons (.refl _) (h7.cons (.refl _) .nil))) ?_;have et:GH aJ.bare ({(aJ.bare.cM [.aP,.aP,.aP,.aP,.aP,.aP])with box:=eR (aJ.bare.cM [.aP,.aP,.aP,.aP,.aP,.aP]).box 0 (some ([.aP,.aP,.aP,.aP,.aP,.aP].set 2 (cd [])))}) 0 (l8 l N 0).g.w (l8 l N 0).g.n 0:=
  ⟨λ_=>.aP,λ_=>[],⟨rfl,λ_ _=>gh.nil,rfl,λ_ _=>ao _,λ_ _ h=>(by cases h),λ_ _ _ _ _ _ h=>(by cases h),⟨ao _,dm _⟩,λ_ _ _ h=>(by cases h),⟨λi bU _=>absurd bU (gN _),λi bU=>absurd bU (gN _),aL _⟩⟩⟩
 generalize ({(aJ.bare.cM [.aP,.aP,.aP,.aP,.aP,.aP])with box:=eR (aJ.bare.cM [.aP,.aP,.aP,.aP,.aP,.aP]).box 0 (some ([.aP,.aP,.aP,.aP,.aP,.aP].set 2 (cd [])))}:aJ)=h0 at*
 repeat' simp only[gE,simprocAttr]
 refine dQ rfl rfl (λ(k:Nat) t=>k<=5+N/\t.Z 10=I k/\GH aJ.bare t.E 0 (l8 l N k).g.w (l8 l N k).g.n (k*10001)/\t.Z 8=I (l8 l N k).ei/\V.Le (t.Z 7) (eI (l8 l N k).out)/\(t.Z 7=eI (l8 l N k).out/\t.fl 7=true\/t.Z 7=.aP/\k=0)) (λk=>5+N-k) 0 ?_ ?_
 .exact⟨aL _,by simp only[sE,simprocAttr],by(simp only[sE,simprocAttr]);exact et,by(simp only[sE,simprocAttr]);rfl,by(simp only[sE,simprocAttr]);exact .aP _,.inr ⟨by simp only[sE,simprocAttr],rfl⟩⟩
 rintro k t ⟨g1,z,ai,g4,g5,g6⟩ aA;have D:t.Z 0=fx l:=(aA 0 dt).trans sT;have H:∃ab,t.Z 5=.sl 17 ab/\ab.length=4/\∀(i:Nat) v,ab[i]?=some v->∃o,(yk l)[i]?=some o/\v=opF o/\(o.kind=2\/o.C=[])/\o.F=[]/\o.cX=[]:=by
  rw[aA 5 dt];refine⟨_,by simp only[sE];rfl,rfl,?_⟩;rw[ad];intro i v aB
  match i with
  |0=>cases aB;exact⟨_,rfl,rfl,by simp[iW],rfl,rfl⟩
  |1=>cases aB;exact⟨_,rfl,rfl,by simp[iW],rfl,rfl⟩
  |2=>cases aB;exact⟨_,rfl,rfl,by simp[iW],rfl,rfl⟩
  |3=>cases aB;exact⟨_,rfl,rfl,by simp[iW],rfl,rfl⟩
  |i+4=>cases aB
 have K:t.Z 6=.bp 0 0:=(aA 6 dt).trans sT;have aC:t.Z 9=I N:=(aA 9 dt).trans sT;clear aA;obtain⟨ab,H,eN,e1⟩:=H;rcases am k (5+N)with b2|b2
 .have f:=Ce l N k av;have bo:l8 l N (k+1)=TH l N k (l8 l N k):=rfl;obtain⟨s,e2⟩:∃s,l8 l N k=s:=⟨_,rfl⟩;rw[e2]at f bo ai g4 g5 g6;repeat' first|simp(disch:=omega) only[gE,simprocAttr,z,D,H,K,aC]|refine cs ?_ ?_<;>intro h<;>try omega
  refine ec (sJ (J:=λu=>u.Z 0=fx l/\u.Z 6=.bp 0 0/\u.Z 7=t.Z 7/\u.fl 7=t.fl 7/\u.Z 8=I s.ei/\u.Z 10=I k/\GH aJ.bare u.E 0 s.g.w s.g.n (k*10001)/\∃q L,u.Z 11=.A 11 q 0/\q<u.G 11/\u.loc 11 q=L/\L.length=32/\V.Le (.agg L) (zu l N k s.g).v) ?_ ?_)
  .by_cases a5:k<4
   .have br:k<ab.length:=av;obtain⟨o,e3,bs,c1,c2,c5⟩:=e1 k ab[k] (aa br);have a:zu l N k s.g={oR 0 0 with op:=o}:=by
     unfold zu;rw[ax a5,ap,e3];rfl
    obtain⟨a6,bu⟩:∃a6,(if o.kind=2 then eZ o.C else V.aP)=a6:=⟨_,rfl⟩;have b3:a6.one=true/\V.Le a6 (eZ o.C):=by
     rw[<-bu];split
     .exact⟨rfl,.refl _⟩
     next c6=>rw[c1.resolve_left c6];exact⟨rfl,.aP _⟩
    simp only[opF,bu]at bs;obtain⟨b3,e4⟩:=b3;repeat' first|simp(disch:=omega) only[gE,simprocAttr,z,D,H,K,aC,a5,br,bs,eN,b3]|refine cs ?_ ?_<;>intro h<;>try omega
    refine⟨g4,ai,t.G 11,_,rfl,dm _,ax rfl,rfl,?_⟩;rw[a];simp only[c2,c5];refine O3 ?_;repeat' first|exact aN.nil|refine aN.cons (.refl _) ?_|refine aN.cons (.aP _) ?_|refine aN.cons e4 ?_
   by_cases c7:k<4+N
   .have e5:=VS aJ.bare t.E 0 s.g (k*10001) ai f.fits l R (14+16*((k:Int)-4)) av;have a:zu l N k s.g=Sf s.g l (14+16*((k:Int)-4)):=by
     unfold zu;rw[an a5,ax c7]
    repeat' first|simp(disch:=omega) only[gE,simprocAttr,z,D,H,K,aC]|refine cs ?_ ?_<;>intro h<;>try omega
    refine bm (h0:=t.E) sT e5 sT ?_ ?_
    .refine aN.cons (aj (by simp only[dL,bh,K]<;>rfl)) (aN.cons (aj (by simp only[dL,bh,D]<;>rfl)) (aN.cons (aj ?_) .nil))
     (simp only[dL,bh,z]<;>rfl)
    rintro v _ c9 ⟨aD,b5,a7,e6,e7⟩;rw[<-a]at aD;obtain⟨cs,rfl,b6,fa,fr⟩:=aap aD (n:=32) rfl rfl dt;have dd:=(fh fa).2;simp only[V.cells]at dd;repeat' simp(disch:=omega) only[gE,simprocAttr,b6,dd]
    exact⟨D,K,g4,z,ai.same a7 e6 e7,t.G 11,cs,rfl,dm _,(ax rfl).trans (uW rfl b6),b6,fr⟩
   .have a:zu l N k s.g=oR 0 1:=by
     unfold zu;rw[an a5,an c7]
    repeat any_goals first|simp(disch:=omega) only[gE,simprocAttr,z,D,H,K,aC]|refine cz ?_ ?_<;>intro fs h<;>(try simp only[fs])<;>try omega
    refine⟨g4,ai,t.G 11,_,rfl,dm _,ax rfl,rfl,?_⟩;rw[a];refine O3 ?_;repeat' first|exact aN.nil|refine aN.cons (.refl _) ?_|refine aN.cons (.aP _) ?_
  .rintro u ⟨a8,ac,a0,dg,a1,r,fB,q,L,P,bq,a9,a2,gb⟩;have Q:L.take 32=L:=az av;have dp:=Va s.out (zu l N k s.g) s.ei (by have:=f.len;omega) (by have:=(Cd f.fits f.X l N k).seq;omega);obtain⟨e,b7⟩:∃e,jK s.out (zu l N k s.g) s.ei=e:=⟨_,rfl⟩;rw[b7]at dp;have y:aO L 0 e.v.cells=e.v.cells:=by
    exact uW a2 rfl
   simp only[aV.v,V.cells,aO,cA,Nat.reduceAdd,Cx]at y;have a:=Cd f.fits f.X l N k;have ds:e.op.small:=by rw[<-b7];exact a.op
   have gf:=VM aJ.bare u.E 0 s.g (k*10001) fB f.fits f.n av e ds k;repeat' simp only[gE,simprocAttr,a8,ac,a0,a1,r,P,bq,a9,a2,Q]
   refine iR dp (aN.cons (by(simp only[da,a0]);exact g5) (aN.cons (by(simp only[da]);exact gb) (aN.cons (by(simp only[da,a1]);exact .refl _) .nil))) ?_;repeat' simp only[gE,simprocAttr,a8,ac,a0,a1,r,P,bq,a9,a2,Q,y,aV.v]
   refine bm (h0:=u.E) (by simp only[da,simprocAttr]) gf (by simp only[bN,ce,da,simprocAttr,bh,ac,r];rfl) (aN.cons (aj (by simp only[dL,simprocAttr,bh,ac]<;>rfl)) (aN.cons (aj (by simp only[dL,simprocAttr,bh]<;>rfl)) (aN.cons (aj (by simp only[dL,simprocAttr,bh,r]<;>rfl)) .nil))) ?_;rintro v _ c9 ⟨aD,b5,a7⟩;have ca:=jk l (14+16*(k:Int)) 2 R av;have dF:=ic l (14+16*(k:Int)) 2 av;have eb:=f.ei;have dU:=f.len;obtain⟨d,ea⟩:∃d,W l (14+16*(k:Int)) 2=d:=⟨_,rfl⟩;rw[ea]at ca dF;have a3:l8 l N (k+1)=⟨Ol s.g e,s.out++[e],s.ei+1+d⟩:=by rw[bo,<-b7,<-ea];rfl
   rcases g6 with⟨g6,bi⟩|⟨g6,rfl⟩
   .repeat any_goals first|simp(disch:=try exact om) only[gE,simprocAttr,va,a8,ac,a0,dg,a1,r,P,bq,a9,a2,Q,y,g6,bi,aD,b5,aV.v,eI]|refine lq ca ?_
    refine⟨k+1,⟨?_⟩,⟨av⟩⟩;rw[a3];refine⟨b2,by(simp only[sE,simprocAttr,va]);exact ar (V.int .i64) av,by(simp only[sE,simprocAttr]);exact a7.mono av,by(simp only[sE,simprocAttr]),?_,.inl ⟨?_,?_⟩⟩
    .simp only[da,simprocAttr,bn];exact aj (by simp[eI,aV.v,Cx])
    .simp only[da,simprocAttr,bn];exact(by simp[eI,aV.v,Cx])
    .simp only[mS,sE,simprocAttr]
   .repeat any_goals first|simp(disch:=try exact om) only[gE,simprocAttr,va,a8,ac,a0,dg,a1,r,P,bq,a9,a2,Q,y,g6,aD,b5,aV.v,eI]|refine lq ca ?_
    have bv:s.out=[]:=bJ.1 dU;refine⟨0+1,⟨?_⟩,⟨av⟩⟩;rw[a3];refine⟨b2,by(simp only[sE,simprocAttr,va]);try exact ar (V.int .i64) av,by(simp only[sE,simprocAttr]);exact a7.mono av,by(simp only[sE,simprocAttr]),?_,.inl ⟨?_,?_⟩⟩
    .simp only[da,simprocAttr,bn];exact aj (by simp[eI,aV.v,Cx,bv])
    .simp only[da,simprocAttr,bn];exact(by simp[eI,aV.v,Cx,bv])
    .simp only[mS,sE,simprocAttr]
 .obtain rfl:k=5+N:=av;rcases g6 with⟨g6,bi⟩|⟨_,h⟩
  .repeat' first|simp(disch:=omega) only[gE,simprocAttr,z,g6,bi,D,H,K,aC]|refine cs ?_ ?_<;>intro h<;>try omega
   exact⟨nE,_,_,bz rfl rfl,rfl,by simp only[mS];exact bi⟩
  .omega
end Go.Bx
