/- Lemmas for HistoryOrder. -/
import Derived.Test.YtmbahmpbmcfifaaGreatDoorAf
import Derived.SevenTiedAt
noncomputable section
set_option linter.all false
set_option maxHeartbeats 4000000
set_option maxRecDepth 100000
namespace Go.Bx
open Go.Proofs Go.Proofs.Tryz Go.Proofs.YtmbahmpbmcfifaaGreatDoor Go.ChangeShapes Go.WideShapes Go.ChangeAt Go.RowKit
section
def aa8:ownKnob prog.godebug=none:=by kernel_rfl
def Ds(xs:List Value):Obj->Obj
 |.cells _ t frozen=>.cells xs.toArray t frozen
 |o=>o
def o9(os:Os):World:=
 {World.holding prog os ⟨#[],#[],[]⟩with heap:=((World.holding prog os ⟨#[],#[],[]⟩).heap.modify 0 (Ds [.int .i64 (-1),.int .i64 0,.int .i64 0])).modify 1 (Ds (wa.flatMap λd=>d.map Value.bool))}
def vF:Array Value:=#[.slice none 0 0,.int .i64 0,.int .i64 0]
def U1{a b:Bool}(h:a=true)(g:b=true):(a&&b)=true:=by rw[h,g];rfl
def QV:joinedFacts Tryz.checked.prog 8 f8 (OpenSpec.ofChange Rows.historyOrderSpec).bare Rows.historyOrderRow=true:=by
 unfold joinedFacts;repeat' (with_reducible refine U1 ?_ ?_)
 all_goals as_aux_lemma=>kernel_rfl
def NS(os:Os):laidMet prog Rows.historyOrderRow.laid ((o9 os).forCall (λ_ _=>0) ⟨#[],vF,[]⟩).memory:=
 laidMet_of_run' 8 (by kernel_rfl) (by kernel_rfl)
def reads(os:Os){H:Type}(enc:TypeId×Value->H):∃places,DataW.whole enc prog ((o9 os).forCall (λ_ _=>0) ⟨#[],vF,[]⟩).memory f8.params.toList Rows.historyOrderSpec.vars false vF.toList 8=some ([.nil,.lit (.int .i64 0),.lit (.int .i64 0)],[],places):=
 ⟨[],by kernel_rfl⟩
def b5a:Tryz.checked.prog.inits.idxOf? 8=none:=by kernel_rfl
def b5b(os:Os):World.variablesB Tryz.checked.prog ((o9 os).forCall (λ_ _=>0) {blocks:=#[],args:=vF})=true:=by kernel_rfl
def b5c(os:Os):List.take ((begin Tryz.checked.prog (λ_ _=>0) default).world.heap.size-Tryz.checked.prog.globals.size) (List.drop Tryz.checked.prog.globals.size ((o9 os).forCall (λ_ _=>0) {blocks:=#[],args:=vF}).heap.toList)=List.drop Tryz.checked.prog.globals.size (begin Tryz.checked.prog (λ_ _=>0) default).world.heap.toList:=by kernel_rfl
def b5d(os:Os):Input.okWideB Tryz.checked.prog ((o9 os).forCall (λ_ _=>0) {blocks:=#[],args:=vF}) 8 {blocks:=#[],args:=vF}=true:=by kernel_rfl
def b5f(os:Os){H:Type}(enc:TypeId×Value->H):ChangeSpec.sizedB enc Tryz.checked.prog f8 (OpenSpec.ofChange Rows.historyOrderSpec).bare false ((o9 os).forCall (λ_ _=>0) {blocks:=#[],args:=vF}).memory vF 8=true:=by kernel_rfl
def eP:Tryz.checked.prog=prog:=rfl
def eS(F:Stop.Interp):(OpenSpec.ofChange Rows.historyOrderSpec).at F=Rows.historyOrderSpec:=rfl
def eV:(OpenSpec.ofChange Rows.historyOrderSpec).vars=Rows.historyOrderSpec.vars:=rfl
section
variable (walk:∀(a:List Int)(b c:Int),(∀n∈a,-9223372036854775808<=n/\n<=9223372036854775807)->(-9223372036854775808<=b/\b<=9223372036854775807)->(-9223372036854775808<=c/\c<=9223372036854775807)->Pure prog GL 8 [fx a,I b,I c] (B true))
include walk
def La{H:Type}{enc:TypeId×Value->H}{W:World}{base:Nat}{args:Array Value}{ds gs:List (DataW H)}{before:List MemPlace}{P:Program}(f:P=prog){s:ChangeSpec}(l:s=Rows.historyOrderSpec){vs:_}(o:vs=Rows.historyOrderSpec.vars)
 (d:∀(j:Nat) t v,f8.params[j]?=some t->args[j]?=some v->Value.okWide P W .any base t v)
 (p:DataW.Whole enc P f8.params.toList vs false W args.toList ds gs before) (q:laidMetH P Rows.historyOrderRow.laid W):
 Calls P 8 args W λe r=>∃v,e=.returned v/\s.post enc P f8 false true false false W args v r:=by
 subst f l o;exact Be walk H enc W base args ds gs before d p q
def lifted(os:Os)(started:os.Started)(H:Type)(enc:TypeId×Value->H)(F:Stop.Interp):
 ReturnsInHanded {} Tryz.checked os 8 .any ((OpenSpec.ofChange Rows.historyOrderSpec).preRow enc prog f8 Rows.historyOrderRow.domain false Rows.historyOrderRow.laid) (((OpenSpec.ofChange Rows.historyOrderSpec).at F).post enc prog f8 false true false false):=by
 obtain⟨places,hx⟩:=reads os enc;refine returnsInHanded_of_row (C:=Tryz.checked) (s:=OpenSpec.ofChange Rows.historyOrderSpec) aa8 started b5a func8
  (witness_row_at (enc:=enc) (C:=Tryz.checked) false (o9 os) vF rfl (b5b os) (b5c os) (b5d os)
   (OpenSpec.preRow_of_cond 8 hx rfl (λk f=>by cases f) (b5f os enc) (NS os))) ?_
 intro W base args o gs before d j _ _ _ l _ _;exact La walk eP (eS F) eV d j l
def said:Rows.HistoryOrderSaid:=
 OpenClaim.holds_of_cond 8 f8 rfl rfl rfl rfl rfl rfl rfl ⟨rfl,rfl,rfl,rfl,rfl⟩ rfl rfl rfl rfl rfl (by as_aux_lemma=>kernel_rfl) func8 QV
  (lA (by as_aux_lemma=>kernel_rfl)) (by unfold Func.isWrapper;rw[an (pW (by as_aux_lemma=>kernel_rfl))];exact⟨rfl,rfl⟩)
  (λos started H enc _ F=>by rw[OpenClaim.pre_eq_preRow];exact lifted walk os started H enc F)
omit walk in
def plain8(f:FuncId)(fn:Func)(o:Tryz.pinned.checked.prog.funcNamed Rows.historyOrderRow.func=some f)(d:Tryz.pinned.checked.prog.funcs[f]?=some fn):
 true=Tryz.pinned.checked.prog.looks []/\∀(j:Nat) t,fn.params[j]?=some t->Tryz.pinned.checked.prog.wantsStandIn t=false:=by
 obtain rfl:f=8:=au ((show prog.funcNamed Rows.historyOrderRow.func=some 8 by as_aux_lemma=>kernel_rfl).symm.trans o) |>.symm;obtain rfl:fn=f8:=(au (func8.symm.trans d)).symm;refine⟨by as_aux_lemma=>kernel_rfl,λj t l=>?_⟩;rw[Tryz.params8]at l;have h:=Array.mem_of_getElem? l;simp only[List.mem_toArray,bC,cI,gI]at h;rcases h with rfl|rfl|rfl
 .exact(show prog.wantsStandIn 22=false by as_aux_lemma=>kernel_rfl)
 .exact(show prog.wantsStandIn 3=false by as_aux_lemma=>kernel_rfl)
 .exact(show prog.wantsStandIn 3=false by as_aux_lemma=>kernel_rfl)
def aa9:Rows.HistoryOrderCardSaid:=
 Claim7.holds_tied_plain_at .later [] _ _ _ _ (said walk) (λ_ h=>by cases h) (by as_aux_lemma=>kernel_rfl) (λ_ h=>by cases h) historyOrder_row_tie rfl ⟨rfl,rfl⟩ (by as_aux_lemma=>kernel_rfl) rfl plain8 (by as_aux_lemma=>kernel_rfl)
end
end
end Go.Bx
