/-
  NARROWER THAN 'FOR EVERY INPUT', by the rows' own cells (each row's printed sentence says how): HistoryLinks: laid · HistoryTerms: laid · HistoryLines: laid · HistoryBegins: laid · HistoryPlays: laid · HistoryOrder: laid · HistoryLeft: laid.
  DERIVED. THE GIVEN ROWS OF THIS SEAT. 7 by the template 'for every input the law returns true; each argument reads behind the call as it read before'; 0 by the template 'total and deterministic' (their statements: YtmbahmpbmcfifaaGreatDoorTotals.lean).
  GIVEN WITH THE SEED: the statements are not yours to turn. If you find one false, say at which input.
  Laid BY PROGRAM, IN A SANDBOX (cutbox-rows.mjs): the forced cells as the released guide's own fill.sh prints them over the translation cea94df1e91eb9f9… (all of the seat's roots in one cut). By AI agents, Wed Nov 11 2026. No macro, syntax, notation, axiom, sorry.
-/
import Derived.Test.YtmbahmpbmcfifaaGreatDoorChecked
import GoSem.Claim
import GoSem.ClaimJoined
import GoSem.ClaimMapViews
import Derived.JoinedTies
import Derived.KernelRfl
namespace Go.Proofs.YtmbahmpbmcfifaaGreatDoor
/- THE CELL 'sum', in the pinned program and in every row, IS THE sha256 OF THE DUMP (.gsa) THAT YtmbahmpbmcfifaaGreatDoorProg.lean LOADS. Nothing in Lean hashes anything: it is a label: what it is worth is what the hold of that sum in a sandbox is worth. -/
noncomputable def Tryz.pinned : Pinned := { name := "ytmbahmpbmcfifaagreatdoor", sum := "cea94df1e91eb9f940b55b86ffe5bd6541d6027e72f2539409917d268dc88288", checked := Tryz.checked }
namespace Rows
def none {H : Type} : Left H := { results := [], args := [] }

/- WHAT THE LISTED PACKAGE-LEVEL VARIABLES READ AS WHEN THE CALL BEGINS. Each datum BY PROGRAM (the guide's laid-datum.mjs) off the statement by which the dump's own 'gosem.cut.vars' lays the variable. In a bare row this is a premise. The card (YtmbahmpbmcfifaaGreatDoorCards.lean) ties it to the program's text. -/
def laid_passim_work_nowhere {H : Type} : DataW H := .agg [.lit (.int .i64 (-1)), .lit (.int .i64 0), .lit (.int .i64 0)]
def laid_passim_edit_kinds {H : Type} : DataW H := .agg [.agg [.lit (.bool false), .lit (.bool false), .lit (.bool false), .lit (.bool false), .lit (.bool false), .lit (.bool false), .lit (.bool false), .lit (.bool false), .lit (.bool false)], .agg [.lit (.bool false), .lit (.bool false), .lit (.bool true), .lit (.bool false), .lit (.bool false), .lit (.bool false), .lit (.bool true), .lit (.bool false), .lit (.bool false)], .agg [.lit (.bool false), .lit (.bool false), .lit (.bool true), .lit (.bool true), .lit (.bool false), .lit (.bool true), .lit (.bool true), .lit (.bool false), .lit (.bool true)], .agg [.lit (.bool true), .lit (.bool false), .lit (.bool false), .lit (.bool false), .lit (.bool false), .lit (.bool false), .lit (.bool false), .lit (.bool false), .lit (.bool false)], .agg [.lit (.bool true), .lit (.bool false), .lit (.bool false), .lit (.bool false), .lit (.bool true), .lit (.bool false), .lit (.bool false), .lit (.bool false), .lit (.bool false)], .agg [.lit (.bool true), .lit (.bool false), .lit (.bool false), .lit (.bool false), .lit (.bool false), .lit (.bool false), .lit (.bool false), .lit (.bool false), .lit (.bool false)], .agg [.lit (.bool true), .lit (.bool false), .lit (.bool true), .lit (.bool true), .lit (.bool false), .lit (.bool false), .lit (.bool false), .lit (.bool false), .lit (.bool false)], .agg [.lit (.bool true), .lit (.bool true), .lit (.bool false), .lit (.bool false), .lit (.bool false), .lit (.bool false), .lit (.bool false), .lit (.bool false), .lit (.bool false)], .agg [.lit (.bool true), .lit (.bool false), .lit (.bool false), .lit (.bool false), .lit (.bool true), .lit (.bool false), .lit (.bool false), .lit (.bool true), .lit (.bool true)], .agg [.lit (.bool true), .lit (.bool false), .lit (.bool false), .lit (.bool false), .lit (.bool false), .lit (.bool false), .lit (.bool false), .lit (.bool false), .lit (.bool true)]]

/-- 'passimlaw11.HistoryLinks': WHATEVER THE INPUT: true; the input reads as it did. -/
def historyLinksSpec : ChangeSpec := { name := "historyLinks", fn := fun _ => fun
  | [d1, d2, d3, d4] => { results := [.lit (.bool true)], args := [d1, d2, d3, d4] }
  | _ => none }
def historyLinksRow : OpenClaim := { program := "ytmbahmpbmcfifaagreatdoor", sum := "cea94df1e91eb9f940b55b86ffe5bd6541d6027e72f2539409917d268dc88288", func := "passim/passimlaw11.HistoryLinks", spec := "historyLinks", inPlace := ["internal/bytealg.IndexByteString", "internal/bytealg.IndexString", "slices.overlaps[passim/api.Passage]"], unfollowed := true, recurses := true, named := ["internal/bytealg.MaxLen", "passim/work.nowhere", "passim/edit.kinds"], plainKeys := false, apart := false, laid := [("passim/work.nowhere", laid_passim_work_nowhere), ("passim/edit.kinds", laid_passim_edit_kinds)] }
def HistoryLinksSaid : Prop := historyLinksRow.holds Tryz.pinned (OpenSpec.ofChange historyLinksSpec)

/-- ITS FALSE NEIGHBOUR: 'it returns false'. Refute it at one input. -/
def historyLinksWrong : ChangeSpec := { name := "historyLinks", fn := fun _ => fun
  | [d1, d2, d3, d4] => { results := [.lit (.bool false)], args := [d1, d2, d3, d4] }
  | _ => none }
def HistoryLinksWrongFalsely : Prop := historyLinksRow.holds Tryz.pinned (OpenSpec.ofChange historyLinksWrong)

/-- 'passimlaw11.HistoryTerms': WHATEVER THE INPUT: true; the input reads as it did. -/
def historyTermsSpec : ChangeSpec := { name := "historyTerms", fn := fun _ => fun
  | [d1, d2] => { results := [.lit (.bool true)], args := [d1, d2] }
  | _ => none }
def historyTermsRow : OpenClaim := { program := "ytmbahmpbmcfifaagreatdoor", sum := "cea94df1e91eb9f940b55b86ffe5bd6541d6027e72f2539409917d268dc88288", func := "passim/passimlaw11.HistoryTerms", spec := "historyTerms", inPlace := ["internal/bytealg.IndexByteString", "internal/bytealg.IndexString", "slices.overlaps[passim/api.Passage]"], unfollowed := true, recurses := true, named := ["internal/bytealg.MaxLen", "passim/work.nowhere", "passim/edit.kinds"], plainKeys := false, apart := false, laid := [("passim/work.nowhere", laid_passim_work_nowhere), ("passim/edit.kinds", laid_passim_edit_kinds)] }
def HistoryTermsSaid : Prop := historyTermsRow.holds Tryz.pinned (OpenSpec.ofChange historyTermsSpec)

/-- ITS FALSE NEIGHBOUR: 'it returns false'. Refute it at one input. -/
def historyTermsWrong : ChangeSpec := { name := "historyTerms", fn := fun _ => fun
  | [d1, d2] => { results := [.lit (.bool false)], args := [d1, d2] }
  | _ => none }
def HistoryTermsWrongFalsely : Prop := historyTermsRow.holds Tryz.pinned (OpenSpec.ofChange historyTermsWrong)

/-- 'passimlaw11.HistoryLines': WHATEVER THE INPUT: true; the input reads as it did. -/
def historyLinesSpec : ChangeSpec := { name := "historyLines", fn := fun _ => fun
  | [d] => { results := [.lit (.bool true)], args := [d] }
  | _ => none }
def historyLinesRow : OpenClaim := { program := "ytmbahmpbmcfifaagreatdoor", sum := "cea94df1e91eb9f940b55b86ffe5bd6541d6027e72f2539409917d268dc88288", func := "passim/passimlaw11.HistoryLines", spec := "historyLines", inPlace := ["internal/bytealg.IndexByteString", "internal/bytealg.IndexString", "slices.overlaps[passim/api.Passage]"], unfollowed := true, recurses := true, named := ["internal/bytealg.MaxLen", "passim/work.nowhere", "passim/edit.kinds"], plainKeys := false, apart := false, laid := [("passim/work.nowhere", laid_passim_work_nowhere), ("passim/edit.kinds", laid_passim_edit_kinds)] }
def HistoryLinesSaid : Prop := historyLinesRow.holds Tryz.pinned (OpenSpec.ofChange historyLinesSpec)

/-- ITS FALSE NEIGHBOUR: 'it returns false'. Refute it at one input. -/
def historyLinesWrong : ChangeSpec := { name := "historyLines", fn := fun _ => fun
  | [d] => { results := [.lit (.bool false)], args := [d] }
  | _ => none }
def HistoryLinesWrongFalsely : Prop := historyLinesRow.holds Tryz.pinned (OpenSpec.ofChange historyLinesWrong)

/-- 'passimlaw11.HistoryBegins': WHATEVER THE INPUT: true; the input reads as it did. -/
def historyBeginsSpec : ChangeSpec := { name := "historyBegins", fn := fun _ => fun
  | [d1, d2] => { results := [.lit (.bool true)], args := [d1, d2] }
  | _ => none }
def historyBeginsRow : OpenClaim := { program := "ytmbahmpbmcfifaagreatdoor", sum := "cea94df1e91eb9f940b55b86ffe5bd6541d6027e72f2539409917d268dc88288", func := "passim/passimlaw11.HistoryBegins", spec := "historyBegins", inPlace := ["internal/bytealg.IndexByteString", "internal/bytealg.IndexString", "slices.overlaps[passim/api.Passage]"], unfollowed := true, recurses := true, named := ["internal/bytealg.MaxLen", "passim/work.nowhere", "passim/edit.kinds"], plainKeys := false, apart := false, laid := [("passim/work.nowhere", laid_passim_work_nowhere), ("passim/edit.kinds", laid_passim_edit_kinds)] }
def HistoryBeginsSaid : Prop := historyBeginsRow.holds Tryz.pinned (OpenSpec.ofChange historyBeginsSpec)

/-- ITS FALSE NEIGHBOUR: 'it returns false'. Refute it at one input. -/
def historyBeginsWrong : ChangeSpec := { name := "historyBegins", fn := fun _ => fun
  | [d1, d2] => { results := [.lit (.bool false)], args := [d1, d2] }
  | _ => none }
def HistoryBeginsWrongFalsely : Prop := historyBeginsRow.holds Tryz.pinned (OpenSpec.ofChange historyBeginsWrong)

/-- 'passimlaw11.HistoryPlays': WHATEVER THE INPUT: true; the input reads as it did. -/
def historyPlaysSpec : ChangeSpec := { name := "historyPlays", fn := fun _ => fun
  | [d1, d2, d3, d4] => { results := [.lit (.bool true)], args := [d1, d2, d3, d4] }
  | _ => none }
def historyPlaysRow : OpenClaim := { program := "ytmbahmpbmcfifaagreatdoor", sum := "cea94df1e91eb9f940b55b86ffe5bd6541d6027e72f2539409917d268dc88288", func := "passim/passimlaw11.HistoryPlays", spec := "historyPlays", inPlace := ["internal/bytealg.IndexByteString", "internal/bytealg.IndexString", "slices.overlaps[passim/api.Passage]"], unfollowed := true, recurses := true, named := ["internal/bytealg.MaxLen", "passim/work.nowhere", "passim/edit.kinds"], plainKeys := false, apart := false, laid := [("passim/work.nowhere", laid_passim_work_nowhere), ("passim/edit.kinds", laid_passim_edit_kinds)] }
def HistoryPlaysSaid : Prop := historyPlaysRow.holds Tryz.pinned (OpenSpec.ofChange historyPlaysSpec)

/-- ITS FALSE NEIGHBOUR: 'it returns false'. Refute it at one input. -/
def historyPlaysWrong : ChangeSpec := { name := "historyPlays", fn := fun _ => fun
  | [d1, d2, d3, d4] => { results := [.lit (.bool false)], args := [d1, d2, d3, d4] }
  | _ => none }
def HistoryPlaysWrongFalsely : Prop := historyPlaysRow.holds Tryz.pinned (OpenSpec.ofChange historyPlaysWrong)

/-- 'passimlaw11.HistoryOrder': WHATEVER THE INPUT: true; the input reads as it did. -/
def historyOrderSpec : ChangeSpec := { name := "historyOrder", fn := fun _ => fun
  | [d1, d2, d3] => { results := [.lit (.bool true)], args := [d1, d2, d3] }
  | _ => none }
def historyOrderRow : OpenClaim := { program := "ytmbahmpbmcfifaagreatdoor", sum := "cea94df1e91eb9f940b55b86ffe5bd6541d6027e72f2539409917d268dc88288", func := "passim/passimlaw11.HistoryOrder", spec := "historyOrder", inPlace := ["internal/bytealg.IndexByteString", "internal/bytealg.IndexString", "slices.overlaps[passim/api.Passage]"], unfollowed := true, recurses := true, named := ["internal/bytealg.MaxLen", "passim/work.nowhere", "passim/edit.kinds"], plainKeys := false, apart := false, laid := [("passim/work.nowhere", laid_passim_work_nowhere), ("passim/edit.kinds", laid_passim_edit_kinds)] }
def HistoryOrderSaid : Prop := historyOrderRow.holds Tryz.pinned (OpenSpec.ofChange historyOrderSpec)

/-- ITS FALSE NEIGHBOUR: 'it returns false'. Refute it at one input. -/
def historyOrderWrong : ChangeSpec := { name := "historyOrder", fn := fun _ => fun
  | [d1, d2, d3] => { results := [.lit (.bool false)], args := [d1, d2, d3] }
  | _ => none }
def HistoryOrderWrongFalsely : Prop := historyOrderRow.holds Tryz.pinned (OpenSpec.ofChange historyOrderWrong)

/-- 'passimlaw11.HistoryLeft': WHATEVER THE INPUT: true; the input reads as it did. -/
def historyLeftSpec : ChangeSpec := { name := "historyLeft", fn := fun _ => fun
  | [d] => { results := [.lit (.bool true)], args := [d] }
  | _ => none }
def historyLeftRow : OpenClaim := { program := "ytmbahmpbmcfifaagreatdoor", sum := "cea94df1e91eb9f940b55b86ffe5bd6541d6027e72f2539409917d268dc88288", func := "passim/passimlaw11.HistoryLeft", spec := "historyLeft", inPlace := ["internal/bytealg.IndexByteString", "internal/bytealg.IndexString", "slices.overlaps[passim/api.Passage]"], unfollowed := true, recurses := true, named := ["internal/bytealg.MaxLen", "passim/work.nowhere", "passim/edit.kinds"], plainKeys := false, apart := false, laid := [("passim/work.nowhere", laid_passim_work_nowhere), ("passim/edit.kinds", laid_passim_edit_kinds)] }
def HistoryLeftSaid : Prop := historyLeftRow.holds Tryz.pinned (OpenSpec.ofChange historyLeftSpec)

/-- ITS FALSE NEIGHBOUR: 'it returns false'. Refute it at one input. -/
def historyLeftWrong : ChangeSpec := { name := "historyLeft", fn := fun _ => fun
  | [d] => { results := [.lit (.bool false)], args := [d] }
  | _ => none }
def HistoryLeftWrongFalsely : Prop := historyLeftRow.holds Tryz.pinned (OpenSpec.ofChange historyLeftWrong)

/- THE SECOND FORM. 'bulk': how many values and letters a reading holds, each counted each time it is reached (what is shared counts as often as it is met; a slice's spare places count too). A statement '..UptoSaid' is the law's where the arguments, and the package variables that the reading takes, are together of bulk at most 1048576: NARROWER than '..Said'. Prove '..Said' where nothing that the law and all that it calls make is longer than what came in: it says more and counts as full. Else prove '..UptoSaid'. A law counts once. -/
mutual
def uptoBulk {H : Type} : DataW H → Nat
  | .lit (.string bytes) => bytes.length + 1
  | .lit _ => 1
  | .nil => 1
  | .ptr d => uptoBulk d + 1
  | .slice elems spare => uptoBulkAll elems + uptoBulkAll spare + 1
  | .agg parts => uptoBulkAll parts + 1
  | .iface _ d => uptoBulk d + 1
  | .map entries => uptoBulkEntries entries + 1
  | .held _ => 1
def uptoBulkAll {H : Type} : List (DataW H) → Nat
  | [] => 0
  | d :: r => uptoBulk d + uptoBulkAll r
def uptoBulkEntries {H : Type} : List (Lit × DataW H) → Nat
  | [] => 0
  | x :: r => uptoBulkEntry x + uptoBulkEntries r
def uptoBulkEntry {H : Type} : Lit × DataW H → Nat
  | (.string bytes, d) => bytes.length + uptoBulk d + 1
  | (_, d) => uptoBulk d + 1
 end
def uptoSmall : (H : Type) → List (DataW H) → Bool := fun _ ds => decide (uptoBulkAll ds ≤ 1048576)
def OpenSpec.upto (s : _root_.Go.ChangeSpec) : _root_.Go.OpenSpec := { _root_.Go.OpenSpec.ofChange s with cond := some uptoSmall }

/-- 'passimlaw11.HistoryLinks', WHERE WHAT IT READS IS OF BULK AT MOST 1048576: true; the input reads as it did. -/
def historyLinksUptoRow : OpenClaim := { program := "ytmbahmpbmcfifaagreatdoor", sum := "cea94df1e91eb9f940b55b86ffe5bd6541d6027e72f2539409917d268dc88288", func := "passim/passimlaw11.HistoryLinks", spec := "historyLinks", inPlace := ["internal/bytealg.IndexByteString", "internal/bytealg.IndexString", "slices.overlaps[passim/api.Passage]"], unfollowed := true, recurses := true, named := ["internal/bytealg.MaxLen", "passim/work.nowhere", "passim/edit.kinds"], plainKeys := false, apart := false, laid := [("passim/work.nowhere", laid_passim_work_nowhere), ("passim/edit.kinds", laid_passim_edit_kinds)], narrowed := true }
def HistoryLinksUptoSaid : Prop := historyLinksUptoRow.holds Tryz.pinned (OpenSpec.upto historyLinksSpec)

/-- 'passimlaw11.HistoryTerms', WHERE WHAT IT READS IS OF BULK AT MOST 1048576: true; the input reads as it did. -/
def historyTermsUptoRow : OpenClaim := { program := "ytmbahmpbmcfifaagreatdoor", sum := "cea94df1e91eb9f940b55b86ffe5bd6541d6027e72f2539409917d268dc88288", func := "passim/passimlaw11.HistoryTerms", spec := "historyTerms", inPlace := ["internal/bytealg.IndexByteString", "internal/bytealg.IndexString", "slices.overlaps[passim/api.Passage]"], unfollowed := true, recurses := true, named := ["internal/bytealg.MaxLen", "passim/work.nowhere", "passim/edit.kinds"], plainKeys := false, apart := false, laid := [("passim/work.nowhere", laid_passim_work_nowhere), ("passim/edit.kinds", laid_passim_edit_kinds)], narrowed := true }
def HistoryTermsUptoSaid : Prop := historyTermsUptoRow.holds Tryz.pinned (OpenSpec.upto historyTermsSpec)

/-- 'passimlaw11.HistoryLines', WHERE WHAT IT READS IS OF BULK AT MOST 1048576: true; the input reads as it did. -/
def historyLinesUptoRow : OpenClaim := { program := "ytmbahmpbmcfifaagreatdoor", sum := "cea94df1e91eb9f940b55b86ffe5bd6541d6027e72f2539409917d268dc88288", func := "passim/passimlaw11.HistoryLines", spec := "historyLines", inPlace := ["internal/bytealg.IndexByteString", "internal/bytealg.IndexString", "slices.overlaps[passim/api.Passage]"], unfollowed := true, recurses := true, named := ["internal/bytealg.MaxLen", "passim/work.nowhere", "passim/edit.kinds"], plainKeys := false, apart := false, laid := [("passim/work.nowhere", laid_passim_work_nowhere), ("passim/edit.kinds", laid_passim_edit_kinds)], narrowed := true }
def HistoryLinesUptoSaid : Prop := historyLinesUptoRow.holds Tryz.pinned (OpenSpec.upto historyLinesSpec)

/-- 'passimlaw11.HistoryBegins', WHERE WHAT IT READS IS OF BULK AT MOST 1048576: true; the input reads as it did. -/
def historyBeginsUptoRow : OpenClaim := { program := "ytmbahmpbmcfifaagreatdoor", sum := "cea94df1e91eb9f940b55b86ffe5bd6541d6027e72f2539409917d268dc88288", func := "passim/passimlaw11.HistoryBegins", spec := "historyBegins", inPlace := ["internal/bytealg.IndexByteString", "internal/bytealg.IndexString", "slices.overlaps[passim/api.Passage]"], unfollowed := true, recurses := true, named := ["internal/bytealg.MaxLen", "passim/work.nowhere", "passim/edit.kinds"], plainKeys := false, apart := false, laid := [("passim/work.nowhere", laid_passim_work_nowhere), ("passim/edit.kinds", laid_passim_edit_kinds)], narrowed := true }
def HistoryBeginsUptoSaid : Prop := historyBeginsUptoRow.holds Tryz.pinned (OpenSpec.upto historyBeginsSpec)

/-- 'passimlaw11.HistoryPlays', WHERE WHAT IT READS IS OF BULK AT MOST 1048576: true; the input reads as it did. -/
def historyPlaysUptoRow : OpenClaim := { program := "ytmbahmpbmcfifaagreatdoor", sum := "cea94df1e91eb9f940b55b86ffe5bd6541d6027e72f2539409917d268dc88288", func := "passim/passimlaw11.HistoryPlays", spec := "historyPlays", inPlace := ["internal/bytealg.IndexByteString", "internal/bytealg.IndexString", "slices.overlaps[passim/api.Passage]"], unfollowed := true, recurses := true, named := ["internal/bytealg.MaxLen", "passim/work.nowhere", "passim/edit.kinds"], plainKeys := false, apart := false, laid := [("passim/work.nowhere", laid_passim_work_nowhere), ("passim/edit.kinds", laid_passim_edit_kinds)], narrowed := true }
def HistoryPlaysUptoSaid : Prop := historyPlaysUptoRow.holds Tryz.pinned (OpenSpec.upto historyPlaysSpec)

/-- 'passimlaw11.HistoryOrder', WHERE WHAT IT READS IS OF BULK AT MOST 1048576: true; the input reads as it did. -/
def historyOrderUptoRow : OpenClaim := { program := "ytmbahmpbmcfifaagreatdoor", sum := "cea94df1e91eb9f940b55b86ffe5bd6541d6027e72f2539409917d268dc88288", func := "passim/passimlaw11.HistoryOrder", spec := "historyOrder", inPlace := ["internal/bytealg.IndexByteString", "internal/bytealg.IndexString", "slices.overlaps[passim/api.Passage]"], unfollowed := true, recurses := true, named := ["internal/bytealg.MaxLen", "passim/work.nowhere", "passim/edit.kinds"], plainKeys := false, apart := false, laid := [("passim/work.nowhere", laid_passim_work_nowhere), ("passim/edit.kinds", laid_passim_edit_kinds)], narrowed := true }
def HistoryOrderUptoSaid : Prop := historyOrderUptoRow.holds Tryz.pinned (OpenSpec.upto historyOrderSpec)

/-- 'passimlaw11.HistoryLeft', WHERE WHAT IT READS IS OF BULK AT MOST 1048576: true; the input reads as it did. -/
def historyLeftUptoRow : OpenClaim := { program := "ytmbahmpbmcfifaagreatdoor", sum := "cea94df1e91eb9f940b55b86ffe5bd6541d6027e72f2539409917d268dc88288", func := "passim/passimlaw11.HistoryLeft", spec := "historyLeft", inPlace := ["internal/bytealg.IndexByteString", "internal/bytealg.IndexString", "slices.overlaps[passim/api.Passage]"], unfollowed := true, recurses := true, named := ["internal/bytealg.MaxLen", "passim/work.nowhere", "passim/edit.kinds"], plainKeys := false, apart := false, laid := [("passim/work.nowhere", laid_passim_work_nowhere), ("passim/edit.kinds", laid_passim_edit_kinds)], narrowed := true }
def HistoryLeftUptoSaid : Prop := historyLeftUptoRow.holds Tryz.pinned (OpenSpec.upto historyLeftSpec)

end Rows
end Go.Proofs.YtmbahmpbmcfifaaGreatDoor
