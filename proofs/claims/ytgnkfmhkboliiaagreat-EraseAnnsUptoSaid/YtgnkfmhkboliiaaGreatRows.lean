/-
  NARROWER THAN 'FOR EVERY INPUT', by the rows' own cells (each row's printed sentence says how): EraseExact: loops · EraseAnns: loops · EraseSteps: loops · CheckPut: loops.
  DERIVED. THE GIVEN ROWS OF THIS SEAT. 4 by the template 'for every input the law returns true; each argument reads behind the call as it read before'; 0 by the template 'total and deterministic' (their statements: YtgnkfmhkboliiaaGreatTotals.lean).
  GIVEN WITH THE SEED: the statements are not yours to turn. If you find one false, say at which input.
  Laid BY PROGRAM, IN A SANDBOX (cutbox-rows.mjs): the forced cells as the released guide's own fill.sh prints them over the translation 41128c497abf7442… (all of the seat's roots in one cut). By AI agents, Wed Nov 11 2026. No macro, syntax, notation, axiom, sorry.
-/
import Derived.Test.YtgnkfmhkboliiaaGreatChecked
import GoSem.Claim
import GoSem.ClaimJoined
import GoSem.ClaimMapViews
import Derived.JoinedTies
import Derived.KernelRfl
namespace Go.Proofs.YtgnkfmhkboliiaaGreat
/- THE CELL 'sum', in the pinned program and in every row, IS THE sha256 OF THE DUMP (.gsa) THAT YtgnkfmhkboliiaaGreatProg.lean LOADS. Nothing in Lean hashes anything: it is a label: what it is worth is what the hold of that sum in a sandbox is worth. -/
noncomputable def Tryz.pinned : Pinned := { name := "ytgnkfmhkboliiaagreat", sum := "41128c497abf7442a2e46920edac0f1b1b3bda731cee6447a8fad401b182f19d", checked := Tryz.checked }
namespace Rows
def none {H : Type} : Left H := { results := [], args := [] }

/-- 'suretylaw26.EraseExact': WHATEVER THE INPUT: true; the input reads as it did. -/
def eraseExactSpec : ChangeSpec := { name := "eraseExact", fn := fun _ => fun
  | [d1, d2, d3, d4] => { results := [.lit (.bool true)], args := [d1, d2, d3, d4] }
  | _ => none }
def eraseExactRow : OpenClaim := { program := "ytgnkfmhkboliiaagreat", sum := "41128c497abf7442a2e46920edac0f1b1b3bda731cee6447a8fad401b182f19d", func := "surety/suretylaw26.EraseExact", spec := "eraseExact", unfollowed := true, recurses := true, loops := true, apart := false }
def EraseExactSaid : Prop := eraseExactRow.holds Tryz.pinned (OpenSpec.ofChange eraseExactSpec)

/-- ITS FALSE NEIGHBOUR: 'it returns false'. Refute it at one input. -/
def eraseExactWrong : ChangeSpec := { name := "eraseExact", fn := fun _ => fun
  | [d1, d2, d3, d4] => { results := [.lit (.bool false)], args := [d1, d2, d3, d4] }
  | _ => none }
def EraseExactWrongFalsely : Prop := eraseExactRow.holds Tryz.pinned (OpenSpec.ofChange eraseExactWrong)

/-- 'suretylaw26.EraseAnns': WHATEVER THE INPUT: true; the input reads as it did. -/
def eraseAnnsSpec : ChangeSpec := { name := "eraseAnns", fn := fun _ => fun
  | [d1, d2, d3] => { results := [.lit (.bool true)], args := [d1, d2, d3] }
  | _ => none }
def eraseAnnsRow : OpenClaim := { program := "ytgnkfmhkboliiaagreat", sum := "41128c497abf7442a2e46920edac0f1b1b3bda731cee6447a8fad401b182f19d", func := "surety/suretylaw26.EraseAnns", spec := "eraseAnns", unfollowed := true, recurses := true, loops := true, apart := false }
def EraseAnnsSaid : Prop := eraseAnnsRow.holds Tryz.pinned (OpenSpec.ofChange eraseAnnsSpec)

/-- ITS FALSE NEIGHBOUR: 'it returns false'. Refute it at one input. -/
def eraseAnnsWrong : ChangeSpec := { name := "eraseAnns", fn := fun _ => fun
  | [d1, d2, d3] => { results := [.lit (.bool false)], args := [d1, d2, d3] }
  | _ => none }
def EraseAnnsWrongFalsely : Prop := eraseAnnsRow.holds Tryz.pinned (OpenSpec.ofChange eraseAnnsWrong)

/-- 'suretylaw26.EraseSteps': WHATEVER THE INPUT: true; the input reads as it did. -/
def eraseStepsSpec : ChangeSpec := { name := "eraseSteps", fn := fun _ => fun
  | [d1, d2] => { results := [.lit (.bool true)], args := [d1, d2] }
  | _ => none }
def eraseStepsRow : OpenClaim := { program := "ytgnkfmhkboliiaagreat", sum := "41128c497abf7442a2e46920edac0f1b1b3bda731cee6447a8fad401b182f19d", func := "surety/suretylaw26.EraseSteps", spec := "eraseSteps", unfollowed := true, recurses := true, loops := true, apart := false }
def EraseStepsSaid : Prop := eraseStepsRow.holds Tryz.pinned (OpenSpec.ofChange eraseStepsSpec)

/-- ITS FALSE NEIGHBOUR: 'it returns false'. Refute it at one input. -/
def eraseStepsWrong : ChangeSpec := { name := "eraseSteps", fn := fun _ => fun
  | [d1, d2] => { results := [.lit (.bool false)], args := [d1, d2] }
  | _ => none }
def EraseStepsWrongFalsely : Prop := eraseStepsRow.holds Tryz.pinned (OpenSpec.ofChange eraseStepsWrong)

/-- 'suretylaw19.CheckPut': WHATEVER THE INPUT: true; the input reads as it did. -/
def checkPutSpec : ChangeSpec := { name := "checkPut", fn := fun _ => fun
  | [d1, d2, d3] => { results := [.lit (.bool true)], args := [d1, d2, d3] }
  | _ => none }
def checkPutRow : OpenClaim := { program := "ytgnkfmhkboliiaagreat", sum := "41128c497abf7442a2e46920edac0f1b1b3bda731cee6447a8fad401b182f19d", func := "surety/suretylaw19.CheckPut", spec := "checkPut", unfollowed := true, recurses := true, loops := true, apart := false }
def CheckPutSaid : Prop := checkPutRow.holds Tryz.pinned (OpenSpec.ofChange checkPutSpec)

/-- ITS FALSE NEIGHBOUR: 'it returns false'. Refute it at one input. -/
def checkPutWrong : ChangeSpec := { name := "checkPut", fn := fun _ => fun
  | [d1, d2, d3] => { results := [.lit (.bool false)], args := [d1, d2, d3] }
  | _ => none }
def CheckPutWrongFalsely : Prop := checkPutRow.holds Tryz.pinned (OpenSpec.ofChange checkPutWrong)

/- THE SECOND FORM. 'bulk': how many values and letters a reading holds, each counted each time it is reached (what is shared counts as often as it is met; a slice's spare places count too). A statement '..UptoSaid' is the law's where the arguments, and the package variables that the reading takes, are together of bulk at most 1048576: NARROWER than '..Said'. Prove '..Said' where nothing that the law and all that it calls make is longer than what came in: it says more and counts as full. Else prove '..UptoSaid'. A law counts once. -/
mutual
def uptoBulk {H : Type} : DataW H → Nat
  | .lit (.string bytes) => bytes.length + 1
  | .lit _ => 1
  | .nil => 1
  | .ptr d => uptoBulk d + 1
  | .slice elems spare => uptoBulkAll elems + uptoBulkAll spare + 1
  | .agg parts => uptoBulkAll parts + 1
  | .iface _ d => uptoBulk d + 1
  | .map entries => uptoBulkEntries entries + 1
  | .held _ => 1
def uptoBulkAll {H : Type} : List (DataW H) → Nat
  | [] => 0
  | d :: r => uptoBulk d + uptoBulkAll r
def uptoBulkEntries {H : Type} : List (Lit × DataW H) → Nat
  | [] => 0
  | x :: r => uptoBulkEntry x + uptoBulkEntries r
def uptoBulkEntry {H : Type} : Lit × DataW H → Nat
  | (.string bytes, d) => bytes.length + uptoBulk d + 1
  | (_, d) => uptoBulk d + 1
 end
def uptoSmall : (H : Type) → List (DataW H) → Bool := fun _ ds => decide (uptoBulkAll ds ≤ 1048576)
def OpenSpec.upto (s : _root_.Go.ChangeSpec) : _root_.Go.OpenSpec := { _root_.Go.OpenSpec.ofChange s with cond := some uptoSmall }

/-- 'suretylaw26.EraseExact', WHERE WHAT IT READS IS OF BULK AT MOST 1048576: true; the input reads as it did. -/
def eraseExactUptoRow : OpenClaim := { program := "ytgnkfmhkboliiaagreat", sum := "41128c497abf7442a2e46920edac0f1b1b3bda731cee6447a8fad401b182f19d", func := "surety/suretylaw26.EraseExact", spec := "eraseExact", unfollowed := true, recurses := true, loops := true, apart := false, narrowed := true }
def EraseExactUptoSaid : Prop := eraseExactUptoRow.holds Tryz.pinned (OpenSpec.upto eraseExactSpec)

/-- 'suretylaw26.EraseAnns', WHERE WHAT IT READS IS OF BULK AT MOST 1048576: true; the input reads as it did. -/
def eraseAnnsUptoRow : OpenClaim := { program := "ytgnkfmhkboliiaagreat", sum := "41128c497abf7442a2e46920edac0f1b1b3bda731cee6447a8fad401b182f19d", func := "surety/suretylaw26.EraseAnns", spec := "eraseAnns", unfollowed := true, recurses := true, loops := true, apart := false, narrowed := true }
def EraseAnnsUptoSaid : Prop := eraseAnnsUptoRow.holds Tryz.pinned (OpenSpec.upto eraseAnnsSpec)

/-- 'suretylaw26.EraseSteps', WHERE WHAT IT READS IS OF BULK AT MOST 1048576: true; the input reads as it did. -/
def eraseStepsUptoRow : OpenClaim := { program := "ytgnkfmhkboliiaagreat", sum := "41128c497abf7442a2e46920edac0f1b1b3bda731cee6447a8fad401b182f19d", func := "surety/suretylaw26.EraseSteps", spec := "eraseSteps", unfollowed := true, recurses := true, loops := true, apart := false, narrowed := true }
def EraseStepsUptoSaid : Prop := eraseStepsUptoRow.holds Tryz.pinned (OpenSpec.upto eraseStepsSpec)

/-- 'suretylaw19.CheckPut', WHERE WHAT IT READS IS OF BULK AT MOST 1048576: true; the input reads as it did. -/
def checkPutUptoRow : OpenClaim := { program := "ytgnkfmhkboliiaagreat", sum := "41128c497abf7442a2e46920edac0f1b1b3bda731cee6447a8fad401b182f19d", func := "surety/suretylaw19.CheckPut", spec := "checkPut", unfollowed := true, recurses := true, loops := true, apart := false, narrowed := true }
def CheckPutUptoSaid : Prop := checkPutUptoRow.holds Tryz.pinned (OpenSpec.upto checkPutSpec)

end Rows
end Go.Proofs.YtgnkfmhkboliiaaGreat
