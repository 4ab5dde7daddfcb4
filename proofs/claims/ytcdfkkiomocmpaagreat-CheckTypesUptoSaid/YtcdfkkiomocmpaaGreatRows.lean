/-
  NARROWER THAN 'FOR EVERY INPUT', by the rows' own cells (each row's printed sentence says how): CheckTypes: loops · TermPut: loops · TermTypes: loops.
  DERIVED. THE GIVEN ROWS OF THIS SEAT. 3 by the template 'for every input the law returns true; each argument reads behind the call as it read before'; 0 by the template 'total and deterministic' (their statements: YtcdfkkiomocmpaaGreatTotals.lean).
  GIVEN WITH THE SEED: the statements are not yours to turn. If you find one false, say at which input.
  Laid BY PROGRAM, IN A SANDBOX (cutbox-rows.mjs): the forced cells as the released guide's own fill.sh prints them over the translation 478ca206d3aa603e… (all of the seat's roots in one cut). By AI agents, Wed Nov 11 2026. No macro, syntax, notation, axiom, sorry.
-/
import Derived.Test.YtcdfkkiomocmpaaGreatChecked
import GoSem.Claim
import GoSem.ClaimJoined
import GoSem.ClaimMapViews
import Derived.JoinedTies
import Derived.KernelRfl
namespace Go.Proofs.YtcdfkkiomocmpaaGreat
/- THE CELL 'sum', in the pinned program and in every row, IS THE sha256 OF THE DUMP (.gsa) THAT YtcdfkkiomocmpaaGreatProg.lean LOADS. Nothing in Lean hashes anything: it is a label: what it is worth is what the hold of that sum in a sandbox is worth. -/
noncomputable def Tryz.pinned : Pinned := { name := "ytcdfkkiomocmpaagreat", sum := "478ca206d3aa603e2dcf963839651dd9bef8d7127000e68f804f52dae96833a4", checked := Tryz.checked }
namespace Rows
def none {H : Type} : Left H := { results := [], args := [] }

/-- 'suretylaw19.CheckTypes': WHATEVER THE INPUT: true; the input reads as it did. -/
def checkTypesSpec : ChangeSpec := { name := "checkTypes", fn := fun _ => fun
  | [d1, d2] => { results := [.lit (.bool true)], args := [d1, d2] }
  | _ => none }
def checkTypesRow : OpenClaim := { program := "ytcdfkkiomocmpaagreat", sum := "478ca206d3aa603e2dcf963839651dd9bef8d7127000e68f804f52dae96833a4", func := "surety/suretylaw19.CheckTypes", spec := "checkTypes", unfollowed := true, recurses := true, loops := true, apart := false }
def CheckTypesSaid : Prop := checkTypesRow.holds Tryz.pinned (OpenSpec.ofChange checkTypesSpec)

/-- ITS FALSE NEIGHBOUR: 'it returns false'. Refute it at one input. -/
def checkTypesWrong : ChangeSpec := { name := "checkTypes", fn := fun _ => fun
  | [d1, d2] => { results := [.lit (.bool false)], args := [d1, d2] }
  | _ => none }
def CheckTypesWrongFalsely : Prop := checkTypesRow.holds Tryz.pinned (OpenSpec.ofChange checkTypesWrong)

/-- 'suretylaw17.TermPut': WHATEVER THE INPUT: true; the input reads as it did. -/
def termPutSpec : ChangeSpec := { name := "termPut", fn := fun _ => fun
  | [d1, d2, d3, d4] => { results := [.lit (.bool true)], args := [d1, d2, d3, d4] }
  | _ => none }
def termPutRow : OpenClaim := { program := "ytcdfkkiomocmpaagreat", sum := "478ca206d3aa603e2dcf963839651dd9bef8d7127000e68f804f52dae96833a4", func := "surety/suretylaw17.TermPut", spec := "termPut", unfollowed := true, recurses := true, loops := true, apart := false }
def TermPutSaid : Prop := termPutRow.holds Tryz.pinned (OpenSpec.ofChange termPutSpec)

/-- ITS FALSE NEIGHBOUR: 'it returns false'. Refute it at one input. -/
def termPutWrong : ChangeSpec := { name := "termPut", fn := fun _ => fun
  | [d1, d2, d3, d4] => { results := [.lit (.bool false)], args := [d1, d2, d3, d4] }
  | _ => none }
def TermPutWrongFalsely : Prop := termPutRow.holds Tryz.pinned (OpenSpec.ofChange termPutWrong)

/-- 'suretylaw17.TermTypes': WHATEVER THE INPUT: true; the input reads as it did. -/
def termTypesSpec : ChangeSpec := { name := "termTypes", fn := fun _ => fun
  | [d1, d2] => { results := [.lit (.bool true)], args := [d1, d2] }
  | _ => none }
def termTypesRow : OpenClaim := { program := "ytcdfkkiomocmpaagreat", sum := "478ca206d3aa603e2dcf963839651dd9bef8d7127000e68f804f52dae96833a4", func := "surety/suretylaw17.TermTypes", spec := "termTypes", unfollowed := true, recurses := true, loops := true, apart := false }
def TermTypesSaid : Prop := termTypesRow.holds Tryz.pinned (OpenSpec.ofChange termTypesSpec)

/-- ITS FALSE NEIGHBOUR: 'it returns false'. Refute it at one input. -/
def termTypesWrong : ChangeSpec := { name := "termTypes", fn := fun _ => fun
  | [d1, d2] => { results := [.lit (.bool false)], args := [d1, d2] }
  | _ => none }
def TermTypesWrongFalsely : Prop := termTypesRow.holds Tryz.pinned (OpenSpec.ofChange termTypesWrong)

/- THE SECOND FORM. 'bulk': how many values and letters a reading holds, each counted each time it is reached (what is shared counts as often as it is met; a slice's spare places count too). A statement '..UptoSaid' is the law's where the arguments, and the package variables that the reading takes, are together of bulk at most 1048576: NARROWER than '..Said'. Prove '..Said' where nothing that the law and all that it calls make is longer than what came in: it says more and counts as full. Else prove '..UptoSaid'. A law counts once. -/
mutual
def uptoBulk {H : Type} : DataW H → Nat
  | .lit (.string bytes) => bytes.length + 1
  | .lit _ => 1
  | .nil => 1
  | .ptr d => uptoBulk d + 1
  | .slice elems spare => uptoBulkAll elems + uptoBulkAll spare + 1
  | .agg parts => uptoBulkAll parts + 1
  | .iface _ d => uptoBulk d + 1
  | .map entries => uptoBulkEntries entries + 1
  | .held _ => 1
def uptoBulkAll {H : Type} : List (DataW H) → Nat
  | [] => 0
  | d :: r => uptoBulk d + uptoBulkAll r
def uptoBulkEntries {H : Type} : List (Lit × DataW H) → Nat
  | [] => 0
  | x :: r => uptoBulkEntry x + uptoBulkEntries r
def uptoBulkEntry {H : Type} : Lit × DataW H → Nat
  | (.string bytes, d) => bytes.length + uptoBulk d + 1
  | (_, d) => uptoBulk d + 1
 end
def uptoSmall : (H : Type) → List (DataW H) → Bool := fun _ ds => decide (uptoBulkAll ds ≤ 1048576)
def OpenSpec.upto (s : _root_.Go.ChangeSpec) : _root_.Go.OpenSpec := { _root_.Go.OpenSpec.ofChange s with cond := some uptoSmall }

/-- 'suretylaw19.CheckTypes', WHERE WHAT IT READS IS OF BULK AT MOST 1048576: true; the input reads as it did. -/
def checkTypesUptoRow : OpenClaim := { program := "ytcdfkkiomocmpaagreat", sum := "478ca206d3aa603e2dcf963839651dd9bef8d7127000e68f804f52dae96833a4", func := "surety/suretylaw19.CheckTypes", spec := "checkTypes", unfollowed := true, recurses := true, loops := true, apart := false, narrowed := true }
def CheckTypesUptoSaid : Prop := checkTypesUptoRow.holds Tryz.pinned (OpenSpec.upto checkTypesSpec)

/-- 'suretylaw17.TermPut', WHERE WHAT IT READS IS OF BULK AT MOST 1048576: true; the input reads as it did. -/
def termPutUptoRow : OpenClaim := { program := "ytcdfkkiomocmpaagreat", sum := "478ca206d3aa603e2dcf963839651dd9bef8d7127000e68f804f52dae96833a4", func := "surety/suretylaw17.TermPut", spec := "termPut", unfollowed := true, recurses := true, loops := true, apart := false, narrowed := true }
def TermPutUptoSaid : Prop := termPutUptoRow.holds Tryz.pinned (OpenSpec.upto termPutSpec)

/-- 'suretylaw17.TermTypes', WHERE WHAT IT READS IS OF BULK AT MOST 1048576: true; the input reads as it did. -/
def termTypesUptoRow : OpenClaim := { program := "ytcdfkkiomocmpaagreat", sum := "478ca206d3aa603e2dcf963839651dd9bef8d7127000e68f804f52dae96833a4", func := "surety/suretylaw17.TermTypes", spec := "termTypes", unfollowed := true, recurses := true, loops := true, apart := false, narrowed := true }
def TermTypesUptoSaid : Prop := termTypesUptoRow.holds Tryz.pinned (OpenSpec.upto termTypesSpec)

end Rows
end Go.Proofs.YtcdfkkiomocmpaaGreat
