/-
  NARROWER THAN 'FOR EVERY INPUT', by the rows' own cells (each row's printed sentence says how): TreePats: loops · TreeFree: loops · TreeGrow: loops · TreeBare: loops.
  DERIVED. THE GIVEN ROWS OF THIS SEAT. 4 by the template 'for every input the law returns true; each argument reads behind the call as it read before'; 0 by the template 'total and deterministic' (their statements: YtldedkgnmpmaoaaTotals.lean).
  GIVEN WITH THE SEED: the statements are not yours to turn. If you find one false, say at which input.
  Laid BY PROGRAM, IN A SANDBOX (cutbox-rows.mjs): the forced cells as the released guide's own fill.sh prints them over the translation 290f9268753b8f3e… (all of the seat's roots in one cut). By AI agents, Wed Nov 11 2026. No macro, syntax, notation, axiom, sorry.
-/
import Derived.Test.YtldedkgnmpmaoaaChecked
import GoSem.Claim
import GoSem.ClaimJoined
import GoSem.ClaimMapViews
import Derived.JoinedTies
import Derived.KernelRfl
namespace Go.Proofs.Ytldedkgnmpmaoaa
/- THE CELL 'sum', in the pinned program and in every row, IS THE sha256 OF THE DUMP (.gsa) THAT YtldedkgnmpmaoaaProg.lean LOADS. Nothing in Lean hashes anything: it is a label: what it is worth is what the hold of that sum in a sandbox is worth. -/
noncomputable def Try.pinned : Pinned := { name := "ytldedkgnmpmaoaa", sum := "290f9268753b8f3e6fa4eaf399508a6fef6ad12f0e820265d28bb0289517f7d7", checked := Try.checked }
namespace Rows
def none {H : Type} : Left H := { results := [], args := [] }

/-- 'suretylaw05.TreePats': WHATEVER THE INPUT: true; the input reads as it did. -/
def treePatsSpec : ChangeSpec := { name := "treePats", fn := fun _ => fun
  | [d1, d2] => { results := [.lit (.bool true)], args := [d1, d2] }
  | _ => none }
def treePatsRow : OpenClaim := { program := "ytldedkgnmpmaoaa", sum := "290f9268753b8f3e6fa4eaf399508a6fef6ad12f0e820265d28bb0289517f7d7", func := "surety/suretylaw05.TreePats", spec := "treePats", unfollowed := true, recurses := true, loops := true, apart := false }
def TreePatsSaid : Prop := treePatsRow.holds Try.pinned (OpenSpec.ofChange treePatsSpec)

/-- ITS FALSE NEIGHBOUR: 'it returns false'. Refute it at one input. -/
def treePatsWrong : ChangeSpec := { name := "treePats", fn := fun _ => fun
  | [d1, d2] => { results := [.lit (.bool false)], args := [d1, d2] }
  | _ => none }
def TreePatsWrongFalsely : Prop := treePatsRow.holds Try.pinned (OpenSpec.ofChange treePatsWrong)

/-- 'suretylaw05.TreeFree': WHATEVER THE INPUT: true; the input reads as it did. -/
def treeFreeSpec : ChangeSpec := { name := "treeFree", fn := fun _ => fun
  | [d1, d2, d3] => { results := [.lit (.bool true)], args := [d1, d2, d3] }
  | _ => none }
def treeFreeRow : OpenClaim := { program := "ytldedkgnmpmaoaa", sum := "290f9268753b8f3e6fa4eaf399508a6fef6ad12f0e820265d28bb0289517f7d7", func := "surety/suretylaw05.TreeFree", spec := "treeFree", unfollowed := true, recurses := true, loops := true, apart := false }
def TreeFreeSaid : Prop := treeFreeRow.holds Try.pinned (OpenSpec.ofChange treeFreeSpec)

/-- ITS FALSE NEIGHBOUR: 'it returns false'. Refute it at one input. -/
def treeFreeWrong : ChangeSpec := { name := "treeFree", fn := fun _ => fun
  | [d1, d2, d3] => { results := [.lit (.bool false)], args := [d1, d2, d3] }
  | _ => none }
def TreeFreeWrongFalsely : Prop := treeFreeRow.holds Try.pinned (OpenSpec.ofChange treeFreeWrong)

/-- 'suretylaw05.TreeGrow': WHATEVER THE INPUT: true; the input reads as it did. -/
def treeGrowSpec : ChangeSpec := { name := "treeGrow", fn := fun _ => fun
  | [d1, d2] => { results := [.lit (.bool true)], args := [d1, d2] }
  | _ => none }
def treeGrowRow : OpenClaim := { program := "ytldedkgnmpmaoaa", sum := "290f9268753b8f3e6fa4eaf399508a6fef6ad12f0e820265d28bb0289517f7d7", func := "surety/suretylaw05.TreeGrow", spec := "treeGrow", unfollowed := true, recurses := true, loops := true, apart := false }
def TreeGrowSaid : Prop := treeGrowRow.holds Try.pinned (OpenSpec.ofChange treeGrowSpec)

/-- ITS FALSE NEIGHBOUR: 'it returns false'. Refute it at one input. -/
def treeGrowWrong : ChangeSpec := { name := "treeGrow", fn := fun _ => fun
  | [d1, d2] => { results := [.lit (.bool false)], args := [d1, d2] }
  | _ => none }
def TreeGrowWrongFalsely : Prop := treeGrowRow.holds Try.pinned (OpenSpec.ofChange treeGrowWrong)

/-- 'suretylaw05.TreeBare': WHATEVER THE INPUT: true; the input reads as it did. -/
def treeBareSpec : ChangeSpec := { name := "treeBare", fn := fun _ => fun
  | [d1, d2] => { results := [.lit (.bool true)], args := [d1, d2] }
  | _ => none }
def treeBareRow : OpenClaim := { program := "ytldedkgnmpmaoaa", sum := "290f9268753b8f3e6fa4eaf399508a6fef6ad12f0e820265d28bb0289517f7d7", func := "surety/suretylaw05.TreeBare", spec := "treeBare", unfollowed := true, recurses := true, loops := true, apart := false }
def TreeBareSaid : Prop := treeBareRow.holds Try.pinned (OpenSpec.ofChange treeBareSpec)

/-- ITS FALSE NEIGHBOUR: 'it returns false'. Refute it at one input. -/
def treeBareWrong : ChangeSpec := { name := "treeBare", fn := fun _ => fun
  | [d1, d2] => { results := [.lit (.bool false)], args := [d1, d2] }
  | _ => none }
def TreeBareWrongFalsely : Prop := treeBareRow.holds Try.pinned (OpenSpec.ofChange treeBareWrong)

/- THE SECOND FORM. 'bulk': how many values and letters a reading holds, each counted each time it is reached (what is shared counts as often as it is met; a slice's spare places count too). A statement '..UptoSaid' is the law's where the arguments, and the package variables that the reading takes, are together of bulk at most 1048576: NARROWER than '..Said'. Prove '..Said' where nothing that the law and all that it calls make is longer than what came in: it says more and counts as full. Else prove '..UptoSaid'. A law counts once. -/
mutual
def uptoBulk {H : Type} : DataW H → Nat
  | .lit (.string bytes) => bytes.length + 1
  | .lit _ => 1
  | .nil => 1
  | .ptr d => uptoBulk d + 1
  | .slice elems spare => uptoBulkAll elems + uptoBulkAll spare + 1
  | .agg parts => uptoBulkAll parts + 1
  | .iface _ d => uptoBulk d + 1
  | .map entries => uptoBulkEntries entries + 1
  | .held _ => 1
def uptoBulkAll {H : Type} : List (DataW H) → Nat
  | [] => 0
  | d :: r => uptoBulk d + uptoBulkAll r
def uptoBulkEntries {H : Type} : List (Lit × DataW H) → Nat
  | [] => 0
  | x :: r => uptoBulkEntry x + uptoBulkEntries r
def uptoBulkEntry {H : Type} : Lit × DataW H → Nat
  | (.string bytes, d) => bytes.length + uptoBulk d + 1
  | (_, d) => uptoBulk d + 1
 end
def uptoSmall : (H : Type) → List (DataW H) → Bool := fun _ ds => decide (uptoBulkAll ds ≤ 1048576)
def OpenSpec.upto (s : _root_.Go.ChangeSpec) : _root_.Go.OpenSpec := { _root_.Go.OpenSpec.ofChange s with cond := some uptoSmall }

/-- 'suretylaw05.TreePats', WHERE WHAT IT READS IS OF BULK AT MOST 1048576: true; the input reads as it did. -/
def treePatsUptoRow : OpenClaim := { program := "ytldedkgnmpmaoaa", sum := "290f9268753b8f3e6fa4eaf399508a6fef6ad12f0e820265d28bb0289517f7d7", func := "surety/suretylaw05.TreePats", spec := "treePats", unfollowed := true, recurses := true, loops := true, apart := false, narrowed := true }
def TreePatsUptoSaid : Prop := treePatsUptoRow.holds Try.pinned (OpenSpec.upto treePatsSpec)

/-- 'suretylaw05.TreeFree', WHERE WHAT IT READS IS OF BULK AT MOST 1048576: true; the input reads as it did. -/
def treeFreeUptoRow : OpenClaim := { program := "ytldedkgnmpmaoaa", sum := "290f9268753b8f3e6fa4eaf399508a6fef6ad12f0e820265d28bb0289517f7d7", func := "surety/suretylaw05.TreeFree", spec := "treeFree", unfollowed := true, recurses := true, loops := true, apart := false, narrowed := true }
def TreeFreeUptoSaid : Prop := treeFreeUptoRow.holds Try.pinned (OpenSpec.upto treeFreeSpec)

/-- 'suretylaw05.TreeGrow', WHERE WHAT IT READS IS OF BULK AT MOST 1048576: true; the input reads as it did. -/
def treeGrowUptoRow : OpenClaim := { program := "ytldedkgnmpmaoaa", sum := "290f9268753b8f3e6fa4eaf399508a6fef6ad12f0e820265d28bb0289517f7d7", func := "surety/suretylaw05.TreeGrow", spec := "treeGrow", unfollowed := true, recurses := true, loops := true, apart := false, narrowed := true }
def TreeGrowUptoSaid : Prop := treeGrowUptoRow.holds Try.pinned (OpenSpec.upto treeGrowSpec)

/-- 'suretylaw05.TreeBare', WHERE WHAT IT READS IS OF BULK AT MOST 1048576: true; the input reads as it did. -/
def treeBareUptoRow : OpenClaim := { program := "ytldedkgnmpmaoaa", sum := "290f9268753b8f3e6fa4eaf399508a6fef6ad12f0e820265d28bb0289517f7d7", func := "surety/suretylaw05.TreeBare", spec := "treeBare", unfollowed := true, recurses := true, loops := true, apart := false, narrowed := true }
def TreeBareUptoSaid : Prop := treeBareUptoRow.holds Try.pinned (OpenSpec.upto treeBareSpec)

end Rows
end Go.Proofs.Ytldedkgnmpmaoaa
