/-
  NARROWER THAN 'FOR EVERY INPUT', by the rows' own cells (each row's printed sentence says how): CheckExact: loops · CheckTypes: loops · JudgeExact: loops · ElabExact: loops · TreeWith: loops · TreeExact: loops.
  DERIVED. THE GIVEN ROWS OF THIS SEAT. 6 by the template 'for every input the law returns true; each argument reads behind the call as it read before'; 0 by the template 'total and deterministic' (their statements: YtgccmhlmdnimjaaGreatTotals.lean).
  GIVEN WITH THE SEED: the statements are not yours to turn. If you find one false, say at which input.
  Laid BY PROGRAM, IN A SANDBOX (cutbox-rows.mjs): the forced cells as the released guide's own fill.sh prints them over the translation 8eaba217da663b7e… (all of the seat's roots in one cut). By AI agents, Wed Nov 11 2026. No macro, syntax, notation, axiom, sorry.
-/
import Derived.Test.YtgccmhlmdnimjaaGreatChecked
import GoSem.Claim
import GoSem.ClaimJoined
import GoSem.ClaimMapViews
import Derived.JoinedTies
import Derived.KernelRfl
namespace Go.Proofs.YtgccmhlmdnimjaaGreat
/- THE CELL 'sum', in the pinned program and in every row, IS THE sha256 OF THE DUMP (.gsa) THAT YtgccmhlmdnimjaaGreatProg.lean LOADS. Nothing in Lean hashes anything: it is a label: what it is worth is what the hold of that sum in a sandbox is worth. -/
noncomputable def Tryz.pinned : Pinned := { name := "ytgccmhlmdnimjaagreat", sum := "8eaba217da663b7e4ff9e86ee4fd03b7090282736d3b8dd254a87256badf69a1", checked := Tryz.checked }
namespace Rows
def none {H : Type} : Left H := { results := [], args := [] }

/-- 'suretylaw19.CheckExact': WHATEVER THE INPUT: true; the input reads as it did. -/
def checkExactSpec : ChangeSpec := { name := "checkExact", fn := fun _ => fun
  | [d] => { results := [.lit (.bool true)], args := [d] }
  | _ => none }
def checkExactRow : OpenClaim := { program := "ytgccmhlmdnimjaagreat", sum := "8eaba217da663b7e4ff9e86ee4fd03b7090282736d3b8dd254a87256badf69a1", func := "surety/suretylaw19.CheckExact", spec := "checkExact", unfollowed := true, recurses := true, loops := true, apart := false }
def CheckExactSaid : Prop := checkExactRow.holds Tryz.pinned (OpenSpec.ofChange checkExactSpec)

/-- ITS FALSE NEIGHBOUR: 'it returns false'. Refute it at one input. -/
def checkExactWrong : ChangeSpec := { name := "checkExact", fn := fun _ => fun
  | [d] => { results := [.lit (.bool false)], args := [d] }
  | _ => none }
def CheckExactWrongFalsely : Prop := checkExactRow.holds Tryz.pinned (OpenSpec.ofChange checkExactWrong)

/-- 'suretylaw19.CheckTypes': WHATEVER THE INPUT: true; the input reads as it did. -/
def checkTypesSpec : ChangeSpec := { name := "checkTypes", fn := fun _ => fun
  | [d1, d2] => { results := [.lit (.bool true)], args := [d1, d2] }
  | _ => none }
def checkTypesRow : OpenClaim := { program := "ytgccmhlmdnimjaagreat", sum := "8eaba217da663b7e4ff9e86ee4fd03b7090282736d3b8dd254a87256badf69a1", func := "surety/suretylaw19.CheckTypes", spec := "checkTypes", unfollowed := true, recurses := true, loops := true, apart := false }
def CheckTypesSaid : Prop := checkTypesRow.holds Tryz.pinned (OpenSpec.ofChange checkTypesSpec)

/-- ITS FALSE NEIGHBOUR: 'it returns false'. Refute it at one input. -/
def checkTypesWrong : ChangeSpec := { name := "checkTypes", fn := fun _ => fun
  | [d1, d2] => { results := [.lit (.bool false)], args := [d1, d2] }
  | _ => none }
def CheckTypesWrongFalsely : Prop := checkTypesRow.holds Tryz.pinned (OpenSpec.ofChange checkTypesWrong)

/-- 'suretylaw16.JudgeExact': WHATEVER THE INPUT: true; the input reads as it did. -/
def judgeExactSpec : ChangeSpec := { name := "judgeExact", fn := fun _ => fun
  | [d1, d2] => { results := [.lit (.bool true)], args := [d1, d2] }
  | _ => none }
def judgeExactRow : OpenClaim := { program := "ytgccmhlmdnimjaagreat", sum := "8eaba217da663b7e4ff9e86ee4fd03b7090282736d3b8dd254a87256badf69a1", func := "surety/suretylaw16.JudgeExact", spec := "judgeExact", unfollowed := true, recurses := true, loops := true, apart := false }
def JudgeExactSaid : Prop := judgeExactRow.holds Tryz.pinned (OpenSpec.ofChange judgeExactSpec)

/-- ITS FALSE NEIGHBOUR: 'it returns false'. Refute it at one input. -/
def judgeExactWrong : ChangeSpec := { name := "judgeExact", fn := fun _ => fun
  | [d1, d2] => { results := [.lit (.bool false)], args := [d1, d2] }
  | _ => none }
def JudgeExactWrongFalsely : Prop := judgeExactRow.holds Tryz.pinned (OpenSpec.ofChange judgeExactWrong)

/-- 'suretylaw18.ElabExact': WHATEVER THE INPUT: true; the input reads as it did. -/
def elabExactSpec : ChangeSpec := { name := "elabExact", fn := fun _ => fun
  | [d1, d2] => { results := [.lit (.bool true)], args := [d1, d2] }
  | _ => none }
def elabExactRow : OpenClaim := { program := "ytgccmhlmdnimjaagreat", sum := "8eaba217da663b7e4ff9e86ee4fd03b7090282736d3b8dd254a87256badf69a1", func := "surety/suretylaw18.ElabExact", spec := "elabExact", unfollowed := true, recurses := true, loops := true, apart := false }
def ElabExactSaid : Prop := elabExactRow.holds Tryz.pinned (OpenSpec.ofChange elabExactSpec)

/-- ITS FALSE NEIGHBOUR: 'it returns false'. Refute it at one input. -/
def elabExactWrong : ChangeSpec := { name := "elabExact", fn := fun _ => fun
  | [d1, d2] => { results := [.lit (.bool false)], args := [d1, d2] }
  | _ => none }
def ElabExactWrongFalsely : Prop := elabExactRow.holds Tryz.pinned (OpenSpec.ofChange elabExactWrong)

/-- 'suretylaw05.TreeWith': WHATEVER THE INPUT: true; the input reads as it did. -/
def treeWithSpec : ChangeSpec := { name := "treeWith", fn := fun _ => fun
  | [d1, d2] => { results := [.lit (.bool true)], args := [d1, d2] }
  | _ => none }
def treeWithRow : OpenClaim := { program := "ytgccmhlmdnimjaagreat", sum := "8eaba217da663b7e4ff9e86ee4fd03b7090282736d3b8dd254a87256badf69a1", func := "surety/suretylaw05.TreeWith", spec := "treeWith", unfollowed := true, recurses := true, loops := true, apart := false }
def TreeWithSaid : Prop := treeWithRow.holds Tryz.pinned (OpenSpec.ofChange treeWithSpec)

/-- ITS FALSE NEIGHBOUR: 'it returns false'. Refute it at one input. -/
def treeWithWrong : ChangeSpec := { name := "treeWith", fn := fun _ => fun
  | [d1, d2] => { results := [.lit (.bool false)], args := [d1, d2] }
  | _ => none }
def TreeWithWrongFalsely : Prop := treeWithRow.holds Tryz.pinned (OpenSpec.ofChange treeWithWrong)

/-- 'suretylaw05.TreeExact': WHATEVER THE INPUT: true; the input reads as it did. -/
def treeExactSpec : ChangeSpec := { name := "treeExact", fn := fun _ => fun
  | [d1, d2] => { results := [.lit (.bool true)], args := [d1, d2] }
  | _ => none }
def treeExactRow : OpenClaim := { program := "ytgccmhlmdnimjaagreat", sum := "8eaba217da663b7e4ff9e86ee4fd03b7090282736d3b8dd254a87256badf69a1", func := "surety/suretylaw05.TreeExact", spec := "treeExact", unfollowed := true, recurses := true, loops := true, apart := false }
def TreeExactSaid : Prop := treeExactRow.holds Tryz.pinned (OpenSpec.ofChange treeExactSpec)

/-- ITS FALSE NEIGHBOUR: 'it returns false'. Refute it at one input. -/
def treeExactWrong : ChangeSpec := { name := "treeExact", fn := fun _ => fun
  | [d1, d2] => { results := [.lit (.bool false)], args := [d1, d2] }
  | _ => none }
def TreeExactWrongFalsely : Prop := treeExactRow.holds Tryz.pinned (OpenSpec.ofChange treeExactWrong)

/- THE SECOND FORM. 'bulk': how many values and letters a reading holds, each counted each time it is reached (what is shared counts as often as it is met; a slice's spare places count too). A statement '..UptoSaid' is the law's where the arguments, and the package variables that the reading takes, are together of bulk at most 1048576: NARROWER than '..Said'. Prove '..Said' where nothing that the law and all that it calls make is longer than what came in: it says more and counts as full. Else prove '..UptoSaid'. A law counts once. -/
mutual
def uptoBulk {H : Type} : DataW H → Nat
  | .lit (.string bytes) => bytes.length + 1
  | .lit _ => 1
  | .nil => 1
  | .ptr d => uptoBulk d + 1
  | .slice elems spare => uptoBulkAll elems + uptoBulkAll spare + 1
  | .agg parts => uptoBulkAll parts + 1
  | .iface _ d => uptoBulk d + 1
  | .map entries => uptoBulkEntries entries + 1
  | .held _ => 1
def uptoBulkAll {H : Type} : List (DataW H) → Nat
  | [] => 0
  | d :: r => uptoBulk d + uptoBulkAll r
def uptoBulkEntries {H : Type} : List (Lit × DataW H) → Nat
  | [] => 0
  | x :: r => uptoBulkEntry x + uptoBulkEntries r
def uptoBulkEntry {H : Type} : Lit × DataW H → Nat
  | (.string bytes, d) => bytes.length + uptoBulk d + 1
  | (_, d) => uptoBulk d + 1
 end
def uptoSmall : (H : Type) → List (DataW H) → Bool := fun _ ds => decide (uptoBulkAll ds ≤ 1048576)
def OpenSpec.upto (s : _root_.Go.ChangeSpec) : _root_.Go.OpenSpec := { _root_.Go.OpenSpec.ofChange s with cond := some uptoSmall }

/-- 'suretylaw19.CheckExact', WHERE WHAT IT READS IS OF BULK AT MOST 1048576: true; the input reads as it did. -/
def checkExactUptoRow : OpenClaim := { program := "ytgccmhlmdnimjaagreat", sum := "8eaba217da663b7e4ff9e86ee4fd03b7090282736d3b8dd254a87256badf69a1", func := "surety/suretylaw19.CheckExact", spec := "checkExact", unfollowed := true, recurses := true, loops := true, apart := false, narrowed := true }
def CheckExactUptoSaid : Prop := checkExactUptoRow.holds Tryz.pinned (OpenSpec.upto checkExactSpec)

/-- 'suretylaw19.CheckTypes', WHERE WHAT IT READS IS OF BULK AT MOST 1048576: true; the input reads as it did. -/
def checkTypesUptoRow : OpenClaim := { program := "ytgccmhlmdnimjaagreat", sum := "8eaba217da663b7e4ff9e86ee4fd03b7090282736d3b8dd254a87256badf69a1", func := "surety/suretylaw19.CheckTypes", spec := "checkTypes", unfollowed := true, recurses := true, loops := true, apart := false, narrowed := true }
def CheckTypesUptoSaid : Prop := checkTypesUptoRow.holds Tryz.pinned (OpenSpec.upto checkTypesSpec)

/-- 'suretylaw16.JudgeExact', WHERE WHAT IT READS IS OF BULK AT MOST 1048576: true; the input reads as it did. -/
def judgeExactUptoRow : OpenClaim := { program := "ytgccmhlmdnimjaagreat", sum := "8eaba217da663b7e4ff9e86ee4fd03b7090282736d3b8dd254a87256badf69a1", func := "surety/suretylaw16.JudgeExact", spec := "judgeExact", unfollowed := true, recurses := true, loops := true, apart := false, narrowed := true }
def JudgeExactUptoSaid : Prop := judgeExactUptoRow.holds Tryz.pinned (OpenSpec.upto judgeExactSpec)

/-- 'suretylaw18.ElabExact', WHERE WHAT IT READS IS OF BULK AT MOST 1048576: true; the input reads as it did. -/
def elabExactUptoRow : OpenClaim := { program := "ytgccmhlmdnimjaagreat", sum := "8eaba217da663b7e4ff9e86ee4fd03b7090282736d3b8dd254a87256badf69a1", func := "surety/suretylaw18.ElabExact", spec := "elabExact", unfollowed := true, recurses := true, loops := true, apart := false, narrowed := true }
def ElabExactUptoSaid : Prop := elabExactUptoRow.holds Tryz.pinned (OpenSpec.upto elabExactSpec)

/-- 'suretylaw05.TreeWith', WHERE WHAT IT READS IS OF BULK AT MOST 1048576: true; the input reads as it did. -/
def treeWithUptoRow : OpenClaim := { program := "ytgccmhlmdnimjaagreat", sum := "8eaba217da663b7e4ff9e86ee4fd03b7090282736d3b8dd254a87256badf69a1", func := "surety/suretylaw05.TreeWith", spec := "treeWith", unfollowed := true, recurses := true, loops := true, apart := false, narrowed := true }
def TreeWithUptoSaid : Prop := treeWithUptoRow.holds Tryz.pinned (OpenSpec.upto treeWithSpec)

/-- 'suretylaw05.TreeExact', WHERE WHAT IT READS IS OF BULK AT MOST 1048576: true; the input reads as it did. -/
def treeExactUptoRow : OpenClaim := { program := "ytgccmhlmdnimjaagreat", sum := "8eaba217da663b7e4ff9e86ee4fd03b7090282736d3b8dd254a87256badf69a1", func := "surety/suretylaw05.TreeExact", spec := "treeExact", unfollowed := true, recurses := true, loops := true, apart := false, narrowed := true }
def TreeExactUptoSaid : Prop := treeExactUptoRow.holds Tryz.pinned (OpenSpec.upto treeExactSpec)

end Rows
end Go.Proofs.YtgccmhlmdnimjaaGreat
