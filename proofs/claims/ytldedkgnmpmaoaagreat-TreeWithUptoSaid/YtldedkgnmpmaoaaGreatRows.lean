/-
  NARROWER THAN 'FOR EVERY INPUT', by the rows' own cells (each row's printed sentence says how): TreeWith: loops · TreeExact: loops.
  DERIVED. THE GIVEN ROWS OF THIS SEAT. 2 by the template 'for every input the law returns true; each argument reads behind the call as it read before'; 0 by the template 'total and deterministic' (their statements: YtldedkgnmpmaoaaGreatTotals.lean).
  GIVEN WITH THE SEED: the statements are not yours to turn. If you find one false, say at which input.
  Laid BY PROGRAM, IN A SANDBOX (cutbox-rows.mjs): the forced cells as the released guide's own fill.sh prints them over the translation dd1f92cae94265a9… (all of the seat's roots in one cut). By AI agents, Wed Nov 11 2026. No macro, syntax, notation, axiom, sorry.
-/
import Derived.Test.YtldedkgnmpmaoaaGreatChecked
import GoSem.Claim
import GoSem.ClaimJoined
import GoSem.ClaimMapViews
import Derived.JoinedTies
import Derived.KernelRfl
namespace Go.Proofs.YtldedkgnmpmaoaaGreat
/- THE CELL 'sum', in the pinned program and in every row, IS THE sha256 OF THE DUMP (.gsa) THAT YtldedkgnmpmaoaaGreatProg.lean LOADS. Nothing in Lean hashes anything: it is a label: what it is worth is what the hold of that sum in a sandbox is worth. -/
noncomputable def Tryz.pinned : Pinned := { name := "ytldedkgnmpmaoaagreat", sum := "dd1f92cae94265a9c6acffe8f4d1c0a6eea631e8507e1450d7fd0905f826ec33", checked := Tryz.checked }
namespace Rows
def none {H : Type} : Left H := { results := [], args := [] }

/-- 'suretylaw05.TreeWith': WHATEVER THE INPUT: true; the input reads as it did. -/
def treeWithSpec : ChangeSpec := { name := "treeWith", fn := fun _ => fun
  | [d1, d2] => { results := [.lit (.bool true)], args := [d1, d2] }
  | _ => none }
def treeWithRow : OpenClaim := { program := "ytldedkgnmpmaoaagreat", sum := "dd1f92cae94265a9c6acffe8f4d1c0a6eea631e8507e1450d7fd0905f826ec33", func := "surety/suretylaw05.TreeWith", spec := "treeWith", unfollowed := true, recurses := true, loops := true, apart := false }
def TreeWithSaid : Prop := treeWithRow.holds Tryz.pinned (OpenSpec.ofChange treeWithSpec)

/-- ITS FALSE NEIGHBOUR: 'it returns false'. Refute it at one input. -/
def treeWithWrong : ChangeSpec := { name := "treeWith", fn := fun _ => fun
  | [d1, d2] => { results := [.lit (.bool false)], args := [d1, d2] }
  | _ => none }
def TreeWithWrongFalsely : Prop := treeWithRow.holds Tryz.pinned (OpenSpec.ofChange treeWithWrong)

/-- 'suretylaw05.TreeExact': WHATEVER THE INPUT: true; the input reads as it did. -/
def treeExactSpec : ChangeSpec := { name := "treeExact", fn := fun _ => fun
  | [d1, d2] => { results := [.lit (.bool true)], args := [d1, d2] }
  | _ => none }
def treeExactRow : OpenClaim := { program := "ytldedkgnmpmaoaagreat", sum := "dd1f92cae94265a9c6acffe8f4d1c0a6eea631e8507e1450d7fd0905f826ec33", func := "surety/suretylaw05.TreeExact", spec := "treeExact", unfollowed := true, recurses := true, loops := true, apart := false }
def TreeExactSaid : Prop := treeExactRow.holds Tryz.pinned (OpenSpec.ofChange treeExactSpec)

/-- ITS FALSE NEIGHBOUR: 'it returns false'. Refute it at one input. -/
def treeExactWrong : ChangeSpec := { name := "treeExact", fn := fun _ => fun
  | [d1, d2] => { results := [.lit (.bool false)], args := [d1, d2] }
  | _ => none }
def TreeExactWrongFalsely : Prop := treeExactRow.holds Tryz.pinned (OpenSpec.ofChange treeExactWrong)

/- THE SECOND FORM. 'bulk': how many values and letters a reading holds, each counted each time it is reached (what is shared counts as often as it is met; a slice's spare places count too). A statement '..UptoSaid' is the law's where the arguments, and the package variables that the reading takes, are together of bulk at most 1048576: NARROWER than '..Said'. Prove '..Said' where nothing that the law and all that it calls make is longer than what came in: it says more and counts as full. Else prove '..UptoSaid'. A law counts once. -/
mutual
def uptoBulk {H : Type} : DataW H → Nat
  | .lit (.string bytes) => bytes.length + 1
  | .lit _ => 1
  | .nil => 1
  | .ptr d => uptoBulk d + 1
  | .slice elems spare => uptoBulkAll elems + uptoBulkAll spare + 1
  | .agg parts => uptoBulkAll parts + 1
  | .iface _ d => uptoBulk d + 1
  | .map entries => uptoBulkEntries entries + 1
  | .held _ => 1
def uptoBulkAll {H : Type} : List (DataW H) → Nat
  | [] => 0
  | d :: r => uptoBulk d + uptoBulkAll r
def uptoBulkEntries {H : Type} : List (Lit × DataW H) → Nat
  | [] => 0
  | x :: r => uptoBulkEntry x + uptoBulkEntries r
def uptoBulkEntry {H : Type} : Lit × DataW H → Nat
  | (.string bytes, d) => bytes.length + uptoBulk d + 1
  | (_, d) => uptoBulk d + 1
 end
def uptoSmall : (H : Type) → List (DataW H) → Bool := fun _ ds => decide (uptoBulkAll ds ≤ 1048576)
def OpenSpec.upto (s : _root_.Go.ChangeSpec) : _root_.Go.OpenSpec := { _root_.Go.OpenSpec.ofChange s with cond := some uptoSmall }

/-- 'suretylaw05.TreeWith', WHERE WHAT IT READS IS OF BULK AT MOST 1048576: true; the input reads as it did. -/
def treeWithUptoRow : OpenClaim := { program := "ytldedkgnmpmaoaagreat", sum := "dd1f92cae94265a9c6acffe8f4d1c0a6eea631e8507e1450d7fd0905f826ec33", func := "surety/suretylaw05.TreeWith", spec := "treeWith", unfollowed := true, recurses := true, loops := true, apart := false, narrowed := true }
def TreeWithUptoSaid : Prop := treeWithUptoRow.holds Tryz.pinned (OpenSpec.upto treeWithSpec)

/-- 'suretylaw05.TreeExact', WHERE WHAT IT READS IS OF BULK AT MOST 1048576: true; the input reads as it did. -/
def treeExactUptoRow : OpenClaim := { program := "ytldedkgnmpmaoaagreat", sum := "dd1f92cae94265a9c6acffe8f4d1c0a6eea631e8507e1450d7fd0905f826ec33", func := "surety/suretylaw05.TreeExact", spec := "treeExact", unfollowed := true, recurses := true, loops := true, apart := false, narrowed := true }
def TreeExactUptoSaid : Prop := treeExactUptoRow.holds Tryz.pinned (OpenSpec.upto treeExactSpec)

end Rows
end Go.Proofs.YtldedkgnmpmaoaaGreat
