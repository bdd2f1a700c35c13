/- Lemmas for HistoryBegins. -/
import Derived.Test.YtmbahmpbmcfifaaGreatDoorCf
import Derived.SevenTiedAt
noncomputable section
set_option linter.all false
set_option maxHeartbeats 4000000
set_option maxRecDepth 100000
namespace Go.Bx
open Go.Proofs Go.Proofs.Tryz Go.Proofs.YtmbahmpbmcfifaaGreatDoor Go.ChangeShapes Go.WideShapes Go.ChangeAt Go.RowKit
section
def abo:ownKnob prog.godebug=none:=by kernel_rfl
def DQ(xs:List Value):Obj->Obj
 |.cells _ t frozen=>.cells xs.toArray t frozen
 |o=>o
def o4(os:Os):World:=
 {World.holding prog os ⟨#[],#[],[]⟩with heap:=((World.holding prog os ⟨#[],#[],[]⟩).heap.modify 0 (DQ [.int .i64 (-1),.int .i64 0,.int .i64 0])).modify 1 (DQ (wu.flatMap λd=>d.map Value.bool))}
def vR:Array Value:=#[.slice none 0 0,.int .i64 0]
def Vg{a b:Bool}(h:a=true)(g:b=true):(a&&b)=true:=by rw[h,g];rfl
def Rf:joinedFacts Tryz.checked.prog 6 f6 (OpenSpec.ofChange Rows.historyBeginsSpec).bare Rows.historyBeginsRow=true:=by
 unfold joinedFacts;repeat' (with_reducible refine Vg ?_ ?_)
 all_goals as_aux_lemma=>kernel_rfl
def Od(os:Os):laidMet prog Rows.historyBeginsRow.laid ((o4 os).forCall (λ_ _=>0) ⟨#[],vR,[]⟩).memory:=
 laidMet_of_run' 8 (by kernel_rfl) (by kernel_rfl)
def reads(os:Os){H:Type}(enc:TypeId×Value->H):∃places,DataW.whole enc prog ((o4 os).forCall (λ_ _=>0) ⟨#[],vR,[]⟩).memory f6.params.toList Rows.historyBeginsSpec.vars false vR.toList 8=some ([.nil,.lit (.int .i64 0)],[],places):=
 ⟨[],by kernel_rfl⟩
def b5a:Tryz.checked.prog.inits.idxOf? 6=none:=by kernel_rfl
def b5b(os:Os):World.variablesB Tryz.checked.prog ((o4 os).forCall (λ_ _=>0) {blocks:=#[],args:=vR})=true:=by kernel_rfl
def b5c(os:Os):List.take ((begin Tryz.checked.prog (λ_ _=>0) default).world.heap.size-Tryz.checked.prog.globals.size) (List.drop Tryz.checked.prog.globals.size ((o4 os).forCall (λ_ _=>0) {blocks:=#[],args:=vR}).heap.toList)=List.drop Tryz.checked.prog.globals.size (begin Tryz.checked.prog (λ_ _=>0) default).world.heap.toList:=by kernel_rfl
def b5d(os:Os):Input.okWideB Tryz.checked.prog ((o4 os).forCall (λ_ _=>0) {blocks:=#[],args:=vR}) 6 {blocks:=#[],args:=vR}=true:=by kernel_rfl
def b5f(os:Os){H:Type}(enc:TypeId×Value->H):ChangeSpec.sizedB enc Tryz.checked.prog f6 (OpenSpec.ofChange Rows.historyBeginsSpec).bare false ((o4 os).forCall (λ_ _=>0) {blocks:=#[],args:=vR}).memory vR 8=true:=by kernel_rfl
def eP:Tryz.checked.prog=prog:=rfl
def eS(F:Stop.Interp):(OpenSpec.ofChange Rows.historyBeginsSpec).at F=Rows.historyBeginsSpec:=rfl
def eV:(OpenSpec.ofChange Rows.historyBeginsSpec).vars=Rows.historyBeginsSpec.vars:=rfl
section
variable (walk:∀(a:List Int)(b:Int),(∀n∈a,-9223372036854775808<=n/\n<=9223372036854775807)->(-9223372036854775808<=b/\b<=9223372036854775807)->Pure prog GL 6 [fq a,I b] (B true))
include walk
def Lz{H:Type}{enc:TypeId×Value->H}{W:World}{base:Nat}{args:Array Value}{ds gs:List (DataW H)}{before:List MemPlace}{P:Program}(f:P=prog){s:ChangeSpec}(l:s=Rows.historyBeginsSpec){vs:_}(o:vs=Rows.historyBeginsSpec.vars)
 (d:∀(j:Nat) t v,f6.params[j]?=some t->args[j]?=some v->Value.okWide P W .any base t v)
 (p:DataW.Whole enc P f6.params.toList vs false W args.toList ds gs before) (q:laidMetH P Rows.historyBeginsRow.laid W):
 Calls P 6 args W λe r=>∃v,e=.returned v/\s.post enc P f6 false true false false W args v r:=by
 subst f l o;exact zR walk H enc W base args ds gs before d p q
def lifted(os:Os)(started:os.Started)(H:Type)(enc:TypeId×Value->H)(F:Stop.Interp):
 ReturnsInHanded {} Tryz.checked os 6 .any ((OpenSpec.ofChange Rows.historyBeginsSpec).preRow enc prog f6 Rows.historyBeginsRow.domain false Rows.historyBeginsRow.laid) (((OpenSpec.ofChange Rows.historyBeginsSpec).at F).post enc prog f6 false true false false):=by
 obtain⟨places,hx⟩:=reads os enc;refine returnsInHanded_of_row (C:=Tryz.checked) (s:=OpenSpec.ofChange Rows.historyBeginsSpec) abo started b5a func6
  (witness_row_at (enc:=enc) (C:=Tryz.checked) false (o4 os) vR rfl (b5b os) (b5c os) (b5d os)
   (OpenSpec.preRow_of_cond 8 hx rfl (λk f=>by cases f) (b5f os enc) (Od os))) ?_
 intro W base args o gs before d j _ _ _ l _ _;exact Lz walk eP (eS F) eV d j l
def said:Rows.HistoryBeginsSaid:=
 OpenClaim.holds_of_cond 6 f6 rfl rfl rfl rfl rfl rfl rfl ⟨rfl,rfl,rfl,rfl,rfl⟩ rfl rfl rfl rfl rfl (by as_aux_lemma=>kernel_rfl) func6 Rf
  (lu (by as_aux_lemma=>kernel_rfl)) (by unfold Func.isWrapper;rw[al (pR (by as_aux_lemma=>kernel_rfl))];exact⟨rfl,rfl⟩)
  (λos started H enc _ F=>by rw[OpenClaim.pre_eq_preRow];exact lifted walk os started H enc F)
omit walk in
def Vh(f:FuncId)(fn:Func)(o:Tryz.pinned.checked.prog.funcNamed Rows.historyBeginsRow.func=some f)(d:Tryz.pinned.checked.prog.funcs[f]?=some fn):
 true=Tryz.pinned.checked.prog.looks []/\∀(j:Nat) t,fn.params[j]?=some t->Tryz.pinned.checked.prog.wantsStandIn t=false:=by
 obtain rfl:f=6:=ar ((show prog.funcNamed Rows.historyBeginsRow.func=some 6 by as_aux_lemma=>kernel_rfl).symm.trans o) |>.symm;obtain rfl:fn=f6:=(ar (func6.symm.trans d)).symm;refine⟨by as_aux_lemma=>kernel_rfl,λj t l=>?_⟩;rw[Tryz.params6]at l;have h:=Array.mem_of_getElem? l;simp only[List.mem_toArray,bn,cE,gL]at h;rcases h with rfl|rfl
 .exact(show prog.wantsStandIn 22=false by as_aux_lemma=>kernel_rfl)
 .exact(show prog.wantsStandIn 3=false by as_aux_lemma=>kernel_rfl)
def abp:Rows.HistoryBeginsCardSaid:=
 Claim7.holds_tied_plain_at .later [] _ _ _ _ (said walk) (λ_ h=>by cases h) (by as_aux_lemma=>kernel_rfl) (λ_ h=>by cases h) historyBegins_row_tie rfl ⟨rfl,rfl⟩ (by as_aux_lemma=>kernel_rfl) rfl Vh (by as_aux_lemma=>kernel_rfl)
end
end
end Go.Bx
