/-
  NARROWER THAN 'FOR EVERY INPUT', by the rows' own cells (each row's printed sentence says how): PromiseTells: laid · PromiseBytes: laid.
  DERIVED. THE GIVEN ROWS OF THIS SEAT. 2 by the template 'for every input the law returns true; each argument reads behind the call as it read before'; 0 by the template 'total and deterministic' (their statements: YtalmddmghdinkaaGreatDoorTotals.lean).
  GIVEN WITH THE SEED: the statements are not yours to turn. If you find one false, say at which input.
  Laid BY PROGRAM, IN A SANDBOX (cutbox-rows.mjs): the forced cells as the released guide's own fill.sh prints them over the translation 0a6485c5f3cef1ec… (all of the seat's roots in one cut). By AI agents, Wed Nov 11 2026. No macro, syntax, notation, axiom, sorry.
-/
import Derived.Test.YtalmddmghdinkaaGreatDoorChecked
import GoSem.Claim
import GoSem.ClaimJoined
import GoSem.ClaimMapViews
import Derived.JoinedTies
import Derived.KernelRfl
namespace Go.Proofs.YtalmddmghdinkaaGreatDoor
/- THE CELL 'sum', in the pinned program and in every row, IS THE sha256 OF THE DUMP (.gsa) THAT YtalmddmghdinkaaGreatDoorProg.lean LOADS. Nothing in Lean hashes anything: it is a label: what it is worth is what the hold of that sum in a sandbox is worth. -/
noncomputable def Tryz.pinned : Pinned := { name := "ytalmddmghdinkaagreatdoor", sum := "0a6485c5f3cef1ece078a4d99183f670cf4c2573d1a99ebc365716812d92abf1", checked := Tryz.checked }
namespace Rows
def none {H : Type} : Left H := { results := [], args := [] }

/- WHAT THE LISTED PACKAGE-LEVEL VARIABLES READ AS WHEN THE CALL BEGINS. Each datum BY PROGRAM (the guide's laid-datum.mjs) off the statement by which the dump's own 'gosem.cut.vars' lays the variable. In a bare row this is a premise. The card (YtalmddmghdinkaaGreatDoorCards.lean) ties it to the program's text. -/
def laid_gantry_broad_axes {H : Type} : DataW H := .iface "func table" (.agg [.agg [.iface "func" (.lit (.string [103, 97, 110, 116, 114, 121, 47, 98, 114, 111, 97, 100, 46, 97, 120, 101, 115, 36, 49])), .iface "func" (.lit (.string [103, 97, 110, 116, 114, 121, 47, 98, 114, 111, 97, 100, 46, 97, 120, 101, 115, 36, 50]))], .agg [.iface "func" (.lit (.string [103, 97, 110, 116, 114, 121, 47, 98, 114, 111, 97, 100, 46, 97, 120, 101, 115, 36, 51])), .iface "func" (.lit (.string [103, 97, 110, 116, 114, 121, 47, 98, 114, 111, 97, 100, 46, 97, 120, 101, 115, 36, 52]))]])
def laid_gantry_rows_makers {H : Type} : DataW H := .iface "func table" (.map [(.int .i64 0, .agg [.iface "func" (.lit (.string [103, 97, 110, 116, 114, 121, 47, 114, 111, 119, 115, 46, 116, 111, 117, 99, 104])), .iface "func" (.lit (.string [103, 97, 110, 116, 114, 121, 47, 114, 111, 119, 115, 46, 112, 97, 105, 114, 115]))]), (.int .i64 1, .agg [.iface "func" (.lit (.string [103, 97, 110, 116, 114, 121, 47, 114, 111, 119, 115, 46, 112, 117, 108, 108])), .iface "func" (.lit (.string [103, 97, 110, 116, 114, 121, 47, 114, 111, 119, 115, 46, 114, 111, 112, 101, 115]))]), (.int .i64 2, .agg [.iface "func" (.lit (.string [103, 97, 110, 116, 114, 121, 47, 114, 111, 119, 115, 46, 115, 116, 111, 112])), .iface "func" (.lit (.string [103, 97, 110, 116, 114, 121, 47, 114, 111, 119, 115, 46, 108, 105, 109, 105, 116, 115]))])])

/-- 'gantrylaw33.PromiseTells': WHATEVER THE INPUT: true; the input reads as it did. -/
def promiseTellsSpec : ChangeSpec := { name := "promiseTells", fn := fun _ => fun
  | [d1, d2, d3, d4, d5, d6] => { results := [.lit (.bool true)], args := [d1, d2, d3, d4, d5, d6] }
  | _ => none }
def promiseTellsRow : OpenClaim := { program := "ytalmddmghdinkaagreatdoor", sum := "0a6485c5f3cef1ece078a4d99183f670cf4c2573d1a99ebc365716812d92abf1", func := "gantry/gantrylaw33.PromiseTells", spec := "promiseTells", unfollowed := true, recurses := true, named := ["gantry/broad.axes", "gantry/rows.makers"], plainKeys := false, apart := false, laid := [("gantry/broad.axes", laid_gantry_broad_axes), ("gantry/rows.makers", laid_gantry_rows_makers)] }
def PromiseTellsSaid : Prop := promiseTellsRow.holds Tryz.pinned (OpenSpec.ofChange promiseTellsSpec)

/-- ITS FALSE NEIGHBOUR: 'it returns false'. Refute it at one input. -/
def promiseTellsWrong : ChangeSpec := { name := "promiseTells", fn := fun _ => fun
  | [d1, d2, d3, d4, d5, d6] => { results := [.lit (.bool false)], args := [d1, d2, d3, d4, d5, d6] }
  | _ => none }
def PromiseTellsWrongFalsely : Prop := promiseTellsRow.holds Tryz.pinned (OpenSpec.ofChange promiseTellsWrong)

/-- 'gantrylaw33.PromiseBytes': WHATEVER THE INPUT: true; the input reads as it did. -/
def promiseBytesSpec : ChangeSpec := { name := "promiseBytes", fn := fun _ => fun
  | [d1, d2, d3, d4] => { results := [.lit (.bool true)], args := [d1, d2, d3, d4] }
  | _ => none }
def promiseBytesRow : OpenClaim := { program := "ytalmddmghdinkaagreatdoor", sum := "0a6485c5f3cef1ece078a4d99183f670cf4c2573d1a99ebc365716812d92abf1", func := "gantry/gantrylaw33.PromiseBytes", spec := "promiseBytes", unfollowed := true, recurses := true, named := ["gantry/broad.axes", "gantry/rows.makers"], plainKeys := false, apart := false, laid := [("gantry/broad.axes", laid_gantry_broad_axes), ("gantry/rows.makers", laid_gantry_rows_makers)] }
def PromiseBytesSaid : Prop := promiseBytesRow.holds Tryz.pinned (OpenSpec.ofChange promiseBytesSpec)

/-- ITS FALSE NEIGHBOUR: 'it returns false'. Refute it at one input. -/
def promiseBytesWrong : ChangeSpec := { name := "promiseBytes", fn := fun _ => fun
  | [d1, d2, d3, d4] => { results := [.lit (.bool false)], args := [d1, d2, d3, d4] }
  | _ => none }
def PromiseBytesWrongFalsely : Prop := promiseBytesRow.holds Tryz.pinned (OpenSpec.ofChange promiseBytesWrong)

/- THE SECOND FORM. 'bulk': how many values and letters a reading holds, each counted each time it is reached (what is shared counts as often as it is met; a slice's spare places count too). A statement '..UptoSaid' is the law's where the arguments, and the package variables that the reading takes, are together of bulk at most 1048576: NARROWER than '..Said'. Prove '..Said' where nothing that the law and all that it calls make is longer than what came in: it says more and counts as full. Else prove '..UptoSaid'. A law counts once. -/
mutual
def uptoBulk {H : Type} : DataW H → Nat
  | .lit (.string bytes) => bytes.length + 1
  | .lit _ => 1
  | .nil => 1
  | .ptr d => uptoBulk d + 1
  | .slice elems spare => uptoBulkAll elems + uptoBulkAll spare + 1
  | .agg parts => uptoBulkAll parts + 1
  | .iface _ d => uptoBulk d + 1
  | .map entries => uptoBulkEntries entries + 1
  | .held _ => 1
def uptoBulkAll {H : Type} : List (DataW H) → Nat
  | [] => 0
  | d :: r => uptoBulk d + uptoBulkAll r
def uptoBulkEntries {H : Type} : List (Lit × DataW H) → Nat
  | [] => 0
  | x :: r => uptoBulkEntry x + uptoBulkEntries r
def uptoBulkEntry {H : Type} : Lit × DataW H → Nat
  | (.string bytes, d) => bytes.length + uptoBulk d + 1
  | (_, d) => uptoBulk d + 1
 end
def uptoSmall : (H : Type) → List (DataW H) → Bool := fun _ ds => decide (uptoBulkAll ds ≤ 1048576)
def OpenSpec.upto (s : _root_.Go.ChangeSpec) : _root_.Go.OpenSpec := { _root_.Go.OpenSpec.ofChange s with cond := some uptoSmall }

/-- 'gantrylaw33.PromiseTells', WHERE WHAT IT READS IS OF BULK AT MOST 1048576: true; the input reads as it did. -/
def promiseTellsUptoRow : OpenClaim := { program := "ytalmddmghdinkaagreatdoor", sum := "0a6485c5f3cef1ece078a4d99183f670cf4c2573d1a99ebc365716812d92abf1", func := "gantry/gantrylaw33.PromiseTells", spec := "promiseTells", unfollowed := true, recurses := true, named := ["gantry/broad.axes", "gantry/rows.makers"], plainKeys := false, apart := false, laid := [("gantry/broad.axes", laid_gantry_broad_axes), ("gantry/rows.makers", laid_gantry_rows_makers)], narrowed := true }
def PromiseTellsUptoSaid : Prop := promiseTellsUptoRow.holds Tryz.pinned (OpenSpec.upto promiseTellsSpec)

/-- 'gantrylaw33.PromiseBytes', WHERE WHAT IT READS IS OF BULK AT MOST 1048576: true; the input reads as it did. -/
def promiseBytesUptoRow : OpenClaim := { program := "ytalmddmghdinkaagreatdoor", sum := "0a6485c5f3cef1ece078a4d99183f670cf4c2573d1a99ebc365716812d92abf1", func := "gantry/gantrylaw33.PromiseBytes", spec := "promiseBytes", unfollowed := true, recurses := true, named := ["gantry/broad.axes", "gantry/rows.makers"], plainKeys := false, apart := false, laid := [("gantry/broad.axes", laid_gantry_broad_axes), ("gantry/rows.makers", laid_gantry_rows_makers)], narrowed := true }
def PromiseBytesUptoSaid : Prop := promiseBytesUptoRow.holds Tryz.pinned (OpenSpec.upto promiseBytesSpec)

end Rows
end Go.Proofs.YtalmddmghdinkaaGreatDoor
