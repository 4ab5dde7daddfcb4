/-
  NARROWER THAN 'FOR EVERY INPUT', by the rows' own cells (each row's printed sentence says how): TermExact: loops · TermPut: loops · TermLeaves: loops · TermOrder: loops · TermTypes: loops.
  DERIVED. THE GIVEN ROWS OF THIS SEAT. 5 by the template 'for every input the law returns true; each argument reads behind the call as it read before'; 0 by the template 'total and deterministic' (their statements: YtnjllcbmmmplcaaGreatTotals.lean).
  GIVEN WITH THE SEED: the statements are not yours to turn. If you find one false, say at which input.
  Laid BY PROGRAM, IN A SANDBOX (cutbox-rows.mjs): the forced cells as the released guide's own fill.sh prints them over the translation 481430fd942dd188… (all of the seat's roots in one cut). By AI agents, Wed Nov 11 2026. No macro, syntax, notation, axiom, sorry.
-/
import Derived.Test.YtnjllcbmmmplcaaGreatChecked
import GoSem.Claim
import GoSem.ClaimJoined
import GoSem.ClaimMapViews
import Derived.JoinedTies
import Derived.KernelRfl
namespace Go.Proofs.YtnjllcbmmmplcaaGreat
/- THE CELL 'sum', in the pinned program and in every row, IS THE sha256 OF THE DUMP (.gsa) THAT YtnjllcbmmmplcaaGreatProg.lean LOADS. Nothing in Lean hashes anything: it is a label: what it is worth is what the hold of that sum in a sandbox is worth. -/
noncomputable def Tryz.pinned : Pinned := { name := "ytnjllcbmmmplcaagreat", sum := "481430fd942dd188415575751723521f1b63ea97cc94f15b620045455d5eaaf0", checked := Tryz.checked }
namespace Rows
def none {H : Type} : Left H := { results := [], args := [] }

/-- 'suretylaw17.TermExact': WHATEVER THE INPUT: true; the input reads as it did. -/
def termExactSpec : ChangeSpec := { name := "termExact", fn := fun _ => fun
  | [d1, d2] => { results := [.lit (.bool true)], args := [d1, d2] }
  | _ => none }
def termExactRow : OpenClaim := { program := "ytnjllcbmmmplcaagreat", sum := "481430fd942dd188415575751723521f1b63ea97cc94f15b620045455d5eaaf0", func := "surety/suretylaw17.TermExact", spec := "termExact", unfollowed := true, recurses := true, loops := true, apart := false }
def TermExactSaid : Prop := termExactRow.holds Tryz.pinned (OpenSpec.ofChange termExactSpec)

/-- ITS FALSE NEIGHBOUR: 'it returns false'. Refute it at one input. -/
def termExactWrong : ChangeSpec := { name := "termExact", fn := fun _ => fun
  | [d1, d2] => { results := [.lit (.bool false)], args := [d1, d2] }
  | _ => none }
def TermExactWrongFalsely : Prop := termExactRow.holds Tryz.pinned (OpenSpec.ofChange termExactWrong)

/-- 'suretylaw17.TermPut': WHATEVER THE INPUT: true; the input reads as it did. -/
def termPutSpec : ChangeSpec := { name := "termPut", fn := fun _ => fun
  | [d1, d2, d3, d4] => { results := [.lit (.bool true)], args := [d1, d2, d3, d4] }
  | _ => none }
def termPutRow : OpenClaim := { program := "ytnjllcbmmmplcaagreat", sum := "481430fd942dd188415575751723521f1b63ea97cc94f15b620045455d5eaaf0", func := "surety/suretylaw17.TermPut", spec := "termPut", unfollowed := true, recurses := true, loops := true, apart := false }
def TermPutSaid : Prop := termPutRow.holds Tryz.pinned (OpenSpec.ofChange termPutSpec)

/-- ITS FALSE NEIGHBOUR: 'it returns false'. Refute it at one input. -/
def termPutWrong : ChangeSpec := { name := "termPut", fn := fun _ => fun
  | [d1, d2, d3, d4] => { results := [.lit (.bool false)], args := [d1, d2, d3, d4] }
  | _ => none }
def TermPutWrongFalsely : Prop := termPutRow.holds Tryz.pinned (OpenSpec.ofChange termPutWrong)

/-- 'suretylaw17.TermLeaves': WHATEVER THE INPUT: true; the input reads as it did. -/
def termLeavesSpec : ChangeSpec := { name := "termLeaves", fn := fun _ => fun
  | [d1, d2, d3] => { results := [.lit (.bool true)], args := [d1, d2, d3] }
  | _ => none }
def termLeavesRow : OpenClaim := { program := "ytnjllcbmmmplcaagreat", sum := "481430fd942dd188415575751723521f1b63ea97cc94f15b620045455d5eaaf0", func := "surety/suretylaw17.TermLeaves", spec := "termLeaves", unfollowed := true, recurses := true, loops := true, apart := false }
def TermLeavesSaid : Prop := termLeavesRow.holds Tryz.pinned (OpenSpec.ofChange termLeavesSpec)

/-- ITS FALSE NEIGHBOUR: 'it returns false'. Refute it at one input. -/
def termLeavesWrong : ChangeSpec := { name := "termLeaves", fn := fun _ => fun
  | [d1, d2, d3] => { results := [.lit (.bool false)], args := [d1, d2, d3] }
  | _ => none }
def TermLeavesWrongFalsely : Prop := termLeavesRow.holds Tryz.pinned (OpenSpec.ofChange termLeavesWrong)

/-- 'suretylaw17.TermOrder': WHATEVER THE INPUT: true; the input reads as it did. -/
def termOrderSpec : ChangeSpec := { name := "termOrder", fn := fun _ => fun
  | [d1, d2, d3, d4, d5] => { results := [.lit (.bool true)], args := [d1, d2, d3, d4, d5] }
  | _ => none }
def termOrderRow : OpenClaim := { program := "ytnjllcbmmmplcaagreat", sum := "481430fd942dd188415575751723521f1b63ea97cc94f15b620045455d5eaaf0", func := "surety/suretylaw17.TermOrder", spec := "termOrder", unfollowed := true, recurses := true, loops := true, apart := false }
def TermOrderSaid : Prop := termOrderRow.holds Tryz.pinned (OpenSpec.ofChange termOrderSpec)

/-- ITS FALSE NEIGHBOUR: 'it returns false'. Refute it at one input. -/
def termOrderWrong : ChangeSpec := { name := "termOrder", fn := fun _ => fun
  | [d1, d2, d3, d4, d5] => { results := [.lit (.bool false)], args := [d1, d2, d3, d4, d5] }
  | _ => none }
def TermOrderWrongFalsely : Prop := termOrderRow.holds Tryz.pinned (OpenSpec.ofChange termOrderWrong)

/-- 'suretylaw17.TermTypes': WHATEVER THE INPUT: true; the input reads as it did. -/
def termTypesSpec : ChangeSpec := { name := "termTypes", fn := fun _ => fun
  | [d1, d2] => { results := [.lit (.bool true)], args := [d1, d2] }
  | _ => none }
def termTypesRow : OpenClaim := { program := "ytnjllcbmmmplcaagreat", sum := "481430fd942dd188415575751723521f1b63ea97cc94f15b620045455d5eaaf0", func := "surety/suretylaw17.TermTypes", spec := "termTypes", unfollowed := true, recurses := true, loops := true, apart := false }
def TermTypesSaid : Prop := termTypesRow.holds Tryz.pinned (OpenSpec.ofChange termTypesSpec)

/-- ITS FALSE NEIGHBOUR: 'it returns false'. Refute it at one input. -/
def termTypesWrong : ChangeSpec := { name := "termTypes", fn := fun _ => fun
  | [d1, d2] => { results := [.lit (.bool false)], args := [d1, d2] }
  | _ => none }
def TermTypesWrongFalsely : Prop := termTypesRow.holds Tryz.pinned (OpenSpec.ofChange termTypesWrong)

/- THE SECOND FORM. 'bulk': how many values and letters a reading holds, each counted each time it is reached (what is shared counts as often as it is met; a slice's spare places count too). A statement '..UptoSaid' is the law's where the arguments, and the package variables that the reading takes, are together of bulk at most 1048576: NARROWER than '..Said'. Prove '..Said' where nothing that the law and all that it calls make is longer than what came in: it says more and counts as full. Else prove '..UptoSaid'. A law counts once. -/
mutual
def uptoBulk {H : Type} : DataW H → Nat
  | .lit (.string bytes) => bytes.length + 1
  | .lit _ => 1
  | .nil => 1
  | .ptr d => uptoBulk d + 1
  | .slice elems spare => uptoBulkAll elems + uptoBulkAll spare + 1
  | .agg parts => uptoBulkAll parts + 1
  | .iface _ d => uptoBulk d + 1
  | .map entries => uptoBulkEntries entries + 1
  | .held _ => 1
def uptoBulkAll {H : Type} : List (DataW H) → Nat
  | [] => 0
  | d :: r => uptoBulk d + uptoBulkAll r
def uptoBulkEntries {H : Type} : List (Lit × DataW H) → Nat
  | [] => 0
  | x :: r => uptoBulkEntry x + uptoBulkEntries r
def uptoBulkEntry {H : Type} : Lit × DataW H → Nat
  | (.string bytes, d) => bytes.length + uptoBulk d + 1
  | (_, d) => uptoBulk d + 1
 end
def uptoSmall : (H : Type) → List (DataW H) → Bool := fun _ ds => decide (uptoBulkAll ds ≤ 1048576)
def OpenSpec.upto (s : _root_.Go.ChangeSpec) : _root_.Go.OpenSpec := { _root_.Go.OpenSpec.ofChange s with cond := some uptoSmall }

/-- 'suretylaw17.TermExact', WHERE WHAT IT READS IS OF BULK AT MOST 1048576: true; the input reads as it did. -/
def termExactUptoRow : OpenClaim := { program := "ytnjllcbmmmplcaagreat", sum := "481430fd942dd188415575751723521f1b63ea97cc94f15b620045455d5eaaf0", func := "surety/suretylaw17.TermExact", spec := "termExact", unfollowed := true, recurses := true, loops := true, apart := false, narrowed := true }
def TermExactUptoSaid : Prop := termExactUptoRow.holds Tryz.pinned (OpenSpec.upto termExactSpec)

/-- 'suretylaw17.TermPut', WHERE WHAT IT READS IS OF BULK AT MOST 1048576: true; the input reads as it did. -/
def termPutUptoRow : OpenClaim := { program := "ytnjllcbmmmplcaagreat", sum := "481430fd942dd188415575751723521f1b63ea97cc94f15b620045455d5eaaf0", func := "surety/suretylaw17.TermPut", spec := "termPut", unfollowed := true, recurses := true, loops := true, apart := false, narrowed := true }
def TermPutUptoSaid : Prop := termPutUptoRow.holds Tryz.pinned (OpenSpec.upto termPutSpec)

/-- 'suretylaw17.TermLeaves', WHERE WHAT IT READS IS OF BULK AT MOST 1048576: true; the input reads as it did. -/
def termLeavesUptoRow : OpenClaim := { program := "ytnjllcbmmmplcaagreat", sum := "481430fd942dd188415575751723521f1b63ea97cc94f15b620045455d5eaaf0", func := "surety/suretylaw17.TermLeaves", spec := "termLeaves", unfollowed := true, recurses := true, loops := true, apart := false, narrowed := true }
def TermLeavesUptoSaid : Prop := termLeavesUptoRow.holds Tryz.pinned (OpenSpec.upto termLeavesSpec)

/-- 'suretylaw17.TermOrder', WHERE WHAT IT READS IS OF BULK AT MOST 1048576: true; the input reads as it did. -/
def termOrderUptoRow : OpenClaim := { program := "ytnjllcbmmmplcaagreat", sum := "481430fd942dd188415575751723521f1b63ea97cc94f15b620045455d5eaaf0", func := "surety/suretylaw17.TermOrder", spec := "termOrder", unfollowed := true, recurses := true, loops := true, apart := false, narrowed := true }
def TermOrderUptoSaid : Prop := termOrderUptoRow.holds Tryz.pinned (OpenSpec.upto termOrderSpec)

/-- 'suretylaw17.TermTypes', WHERE WHAT IT READS IS OF BULK AT MOST 1048576: true; the input reads as it did. -/
def termTypesUptoRow : OpenClaim := { program := "ytnjllcbmmmplcaagreat", sum := "481430fd942dd188415575751723521f1b63ea97cc94f15b620045455d5eaaf0", func := "surety/suretylaw17.TermTypes", spec := "termTypes", unfollowed := true, recurses := true, loops := true, apart := false, narrowed := true }
def TermTypesUptoSaid : Prop := termTypesUptoRow.holds Tryz.pinned (OpenSpec.upto termTypesSpec)

end Rows
end Go.Proofs.YtnjllcbmmmplcaaGreat
