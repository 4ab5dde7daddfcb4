/-
  NARROWER THAN 'FOR EVERY INPUT', by the rows' own cells (each row's printed sentence says how): CheckCast: loops · JudgePut: loops · ElabPlain: loops · TreePats: loops · TreeFree: loops · TreeGrow: loops.
  DERIVED. THE GIVEN ROWS OF THIS SEAT. 6 by the template 'for every input the law returns true; each argument reads behind the call as it read before'; 0 by the template 'total and deterministic' (their statements: YtgccmhlmdnimjaaTotals.lean).
  GIVEN WITH THE SEED: the statements are not yours to turn. If you find one false, say at which input.
  Laid BY PROGRAM, IN A SANDBOX (cutbox-rows.mjs): the forced cells as the released guide's own fill.sh prints them over the translation 3b18167b19d24b0a… (all of the seat's roots in one cut). By AI agents, Wed Nov 11 2026. No macro, syntax, notation, axiom, sorry.
-/
import Derived.Test.YtgccmhlmdnimjaaChecked
import GoSem.Claim
import GoSem.ClaimJoined
import GoSem.ClaimMapViews
import Derived.JoinedTies
import Derived.KernelRfl
namespace Go.Proofs.Ytgccmhlmdnimjaa
/- THE CELL 'sum', in the pinned program and in every row, IS THE sha256 OF THE DUMP (.gsa) THAT YtgccmhlmdnimjaaProg.lean LOADS. Nothing in Lean hashes anything: it is a label: what it is worth is what the hold of that sum in a sandbox is worth. -/
noncomputable def Try.pinned : Pinned := { name := "ytgccmhlmdnimjaa", sum := "3b18167b19d24b0a41a2cceb1c7f0295ababb77018a64f7ca9f0e82e249ec4de", checked := Try.checked }
namespace Rows
def none {H : Type} : Left H := { results := [], args := [] }

/-- 'suretylaw19.CheckCast': WHATEVER THE INPUT: true; the input reads as it did. -/
def checkCastSpec : ChangeSpec := { name := "checkCast", fn := fun _ => fun
  | [d1, d2, d3] => { results := [.lit (.bool true)], args := [d1, d2, d3] }
  | _ => none }
def checkCastRow : OpenClaim := { program := "ytgccmhlmdnimjaa", sum := "3b18167b19d24b0a41a2cceb1c7f0295ababb77018a64f7ca9f0e82e249ec4de", func := "surety/suretylaw19.CheckCast", spec := "checkCast", unfollowed := true, recurses := true, loops := true, apart := false }
def CheckCastSaid : Prop := checkCastRow.holds Try.pinned (OpenSpec.ofChange checkCastSpec)

/-- ITS FALSE NEIGHBOUR: 'it returns false'. Refute it at one input. -/
def checkCastWrong : ChangeSpec := { name := "checkCast", fn := fun _ => fun
  | [d1, d2, d3] => { results := [.lit (.bool false)], args := [d1, d2, d3] }
  | _ => none }
def CheckCastWrongFalsely : Prop := checkCastRow.holds Try.pinned (OpenSpec.ofChange checkCastWrong)

/-- 'suretylaw16.JudgePut': WHATEVER THE INPUT: true; the input reads as it did. -/
def judgePutSpec : ChangeSpec := { name := "judgePut", fn := fun _ => fun
  | [d1, d2] => { results := [.lit (.bool true)], args := [d1, d2] }
  | _ => none }
def judgePutRow : OpenClaim := { program := "ytgccmhlmdnimjaa", sum := "3b18167b19d24b0a41a2cceb1c7f0295ababb77018a64f7ca9f0e82e249ec4de", func := "surety/suretylaw16.JudgePut", spec := "judgePut", unfollowed := true, recurses := true, loops := true, apart := false }
def JudgePutSaid : Prop := judgePutRow.holds Try.pinned (OpenSpec.ofChange judgePutSpec)

/-- ITS FALSE NEIGHBOUR: 'it returns false'. Refute it at one input. -/
def judgePutWrong : ChangeSpec := { name := "judgePut", fn := fun _ => fun
  | [d1, d2] => { results := [.lit (.bool false)], args := [d1, d2] }
  | _ => none }
def JudgePutWrongFalsely : Prop := judgePutRow.holds Try.pinned (OpenSpec.ofChange judgePutWrong)

/-- 'suretylaw18.ElabPlain': WHATEVER THE INPUT: true; the input reads as it did. -/
def elabPlainSpec : ChangeSpec := { name := "elabPlain", fn := fun _ => fun
  | [d] => { results := [.lit (.bool true)], args := [d] }
  | _ => none }
def elabPlainRow : OpenClaim := { program := "ytgccmhlmdnimjaa", sum := "3b18167b19d24b0a41a2cceb1c7f0295ababb77018a64f7ca9f0e82e249ec4de", func := "surety/suretylaw18.ElabPlain", spec := "elabPlain", unfollowed := true, recurses := true, loops := true, apart := false }
def ElabPlainSaid : Prop := elabPlainRow.holds Try.pinned (OpenSpec.ofChange elabPlainSpec)

/-- ITS FALSE NEIGHBOUR: 'it returns false'. Refute it at one input. -/
def elabPlainWrong : ChangeSpec := { name := "elabPlain", fn := fun _ => fun
  | [d] => { results := [.lit (.bool false)], args := [d] }
  | _ => none }
def ElabPlainWrongFalsely : Prop := elabPlainRow.holds Try.pinned (OpenSpec.ofChange elabPlainWrong)

/-- 'suretylaw05.TreePats': WHATEVER THE INPUT: true; the input reads as it did. -/
def treePatsSpec : ChangeSpec := { name := "treePats", fn := fun _ => fun
  | [d1, d2] => { results := [.lit (.bool true)], args := [d1, d2] }
  | _ => none }
def treePatsRow : OpenClaim := { program := "ytgccmhlmdnimjaa", sum := "3b18167b19d24b0a41a2cceb1c7f0295ababb77018a64f7ca9f0e82e249ec4de", func := "surety/suretylaw05.TreePats", spec := "treePats", unfollowed := true, recurses := true, loops := true, apart := false }
def TreePatsSaid : Prop := treePatsRow.holds Try.pinned (OpenSpec.ofChange treePatsSpec)

/-- ITS FALSE NEIGHBOUR: 'it returns false'. Refute it at one input. -/
def treePatsWrong : ChangeSpec := { name := "treePats", fn := fun _ => fun
  | [d1, d2] => { results := [.lit (.bool false)], args := [d1, d2] }
  | _ => none }
def TreePatsWrongFalsely : Prop := treePatsRow.holds Try.pinned (OpenSpec.ofChange treePatsWrong)

/-- 'suretylaw05.TreeFree': WHATEVER THE INPUT: true; the input reads as it did. -/
def treeFreeSpec : ChangeSpec := { name := "treeFree", fn := fun _ => fun
  | [d1, d2, d3] => { results := [.lit (.bool true)], args := [d1, d2, d3] }
  | _ => none }
def treeFreeRow : OpenClaim := { program := "ytgccmhlmdnimjaa", sum := "3b18167b19d24b0a41a2cceb1c7f0295ababb77018a64f7ca9f0e82e249ec4de", func := "surety/suretylaw05.TreeFree", spec := "treeFree", unfollowed := true, recurses := true, loops := true, apart := false }
def TreeFreeSaid : Prop := treeFreeRow.holds Try.pinned (OpenSpec.ofChange treeFreeSpec)

/-- ITS FALSE NEIGHBOUR: 'it returns false'. Refute it at one input. -/
def treeFreeWrong : ChangeSpec := { name := "treeFree", fn := fun _ => fun
  | [d1, d2, d3] => { results := [.lit (.bool false)], args := [d1, d2, d3] }
  | _ => none }
def TreeFreeWrongFalsely : Prop := treeFreeRow.holds Try.pinned (OpenSpec.ofChange treeFreeWrong)

/-- 'suretylaw05.TreeGrow': WHATEVER THE INPUT: true; the input reads as it did. -/
def treeGrowSpec : ChangeSpec := { name := "treeGrow", fn := fun _ => fun
  | [d1, d2] => { results := [.lit (.bool true)], args := [d1, d2] }
  | _ => none }
def treeGrowRow : OpenClaim := { program := "ytgccmhlmdnimjaa", sum := "3b18167b19d24b0a41a2cceb1c7f0295ababb77018a64f7ca9f0e82e249ec4de", func := "surety/suretylaw05.TreeGrow", spec := "treeGrow", unfollowed := true, recurses := true, loops := true, apart := false }
def TreeGrowSaid : Prop := treeGrowRow.holds Try.pinned (OpenSpec.ofChange treeGrowSpec)

/-- ITS FALSE NEIGHBOUR: 'it returns false'. Refute it at one input. -/
def treeGrowWrong : ChangeSpec := { name := "treeGrow", fn := fun _ => fun
  | [d1, d2] => { results := [.lit (.bool false)], args := [d1, d2] }
  | _ => none }
def TreeGrowWrongFalsely : Prop := treeGrowRow.holds Try.pinned (OpenSpec.ofChange treeGrowWrong)

/- THE SECOND FORM. 'bulk': how many values and letters a reading holds, each counted each time it is reached (what is shared counts as often as it is met; a slice's spare places count too). A statement '..UptoSaid' is the law's where the arguments, and the package variables that the reading takes, are together of bulk at most 1048576: NARROWER than '..Said'. Prove '..Said' where nothing that the law and all that it calls make is longer than what came in: it says more and counts as full. Else prove '..UptoSaid'. A law counts once. -/
mutual
def uptoBulk {H : Type} : DataW H → Nat
  | .lit (.string bytes) => bytes.length + 1
  | .lit _ => 1
  | .nil => 1
  | .ptr d => uptoBulk d + 1
  | .slice elems spare => uptoBulkAll elems + uptoBulkAll spare + 1
  | .agg parts => uptoBulkAll parts + 1
  | .iface _ d => uptoBulk d + 1
  | .map entries => uptoBulkEntries entries + 1
  | .held _ => 1
def uptoBulkAll {H : Type} : List (DataW H) → Nat
  | [] => 0
  | d :: r => uptoBulk d + uptoBulkAll r
def uptoBulkEntries {H : Type} : List (Lit × DataW H) → Nat
  | [] => 0
  | x :: r => uptoBulkEntry x + uptoBulkEntries r
def uptoBulkEntry {H : Type} : Lit × DataW H → Nat
  | (.string bytes, d) => bytes.length + uptoBulk d + 1
  | (_, d) => uptoBulk d + 1
 end
def uptoSmall : (H : Type) → List (DataW H) → Bool := fun _ ds => decide (uptoBulkAll ds ≤ 1048576)
def OpenSpec.upto (s : _root_.Go.ChangeSpec) : _root_.Go.OpenSpec := { _root_.Go.OpenSpec.ofChange s with cond := some uptoSmall }

/-- 'suretylaw19.CheckCast', WHERE WHAT IT READS IS OF BULK AT MOST 1048576: true; the input reads as it did. -/
def checkCastUptoRow : OpenClaim := { program := "ytgccmhlmdnimjaa", sum := "3b18167b19d24b0a41a2cceb1c7f0295ababb77018a64f7ca9f0e82e249ec4de", func := "surety/suretylaw19.CheckCast", spec := "checkCast", unfollowed := true, recurses := true, loops := true, apart := false, narrowed := true }
def CheckCastUptoSaid : Prop := checkCastUptoRow.holds Try.pinned (OpenSpec.upto checkCastSpec)

/-- 'suretylaw16.JudgePut', WHERE WHAT IT READS IS OF BULK AT MOST 1048576: true; the input reads as it did. -/
def judgePutUptoRow : OpenClaim := { program := "ytgccmhlmdnimjaa", sum := "3b18167b19d24b0a41a2cceb1c7f0295ababb77018a64f7ca9f0e82e249ec4de", func := "surety/suretylaw16.JudgePut", spec := "judgePut", unfollowed := true, recurses := true, loops := true, apart := false, narrowed := true }
def JudgePutUptoSaid : Prop := judgePutUptoRow.holds Try.pinned (OpenSpec.upto judgePutSpec)

/-- 'suretylaw18.ElabPlain', WHERE WHAT IT READS IS OF BULK AT MOST 1048576: true; the input reads as it did. -/
def elabPlainUptoRow : OpenClaim := { program := "ytgccmhlmdnimjaa", sum := "3b18167b19d24b0a41a2cceb1c7f0295ababb77018a64f7ca9f0e82e249ec4de", func := "surety/suretylaw18.ElabPlain", spec := "elabPlain", unfollowed := true, recurses := true, loops := true, apart := false, narrowed := true }
def ElabPlainUptoSaid : Prop := elabPlainUptoRow.holds Try.pinned (OpenSpec.upto elabPlainSpec)

/-- 'suretylaw05.TreePats', WHERE WHAT IT READS IS OF BULK AT MOST 1048576: true; the input reads as it did. -/
def treePatsUptoRow : OpenClaim := { program := "ytgccmhlmdnimjaa", sum := "3b18167b19d24b0a41a2cceb1c7f0295ababb77018a64f7ca9f0e82e249ec4de", func := "surety/suretylaw05.TreePats", spec := "treePats", unfollowed := true, recurses := true, loops := true, apart := false, narrowed := true }
def TreePatsUptoSaid : Prop := treePatsUptoRow.holds Try.pinned (OpenSpec.upto treePatsSpec)

/-- 'suretylaw05.TreeFree', WHERE WHAT IT READS IS OF BULK AT MOST 1048576: true; the input reads as it did. -/
def treeFreeUptoRow : OpenClaim := { program := "ytgccmhlmdnimjaa", sum := "3b18167b19d24b0a41a2cceb1c7f0295ababb77018a64f7ca9f0e82e249ec4de", func := "surety/suretylaw05.TreeFree", spec := "treeFree", unfollowed := true, recurses := true, loops := true, apart := false, narrowed := true }
def TreeFreeUptoSaid : Prop := treeFreeUptoRow.holds Try.pinned (OpenSpec.upto treeFreeSpec)

/-- 'suretylaw05.TreeGrow', WHERE WHAT IT READS IS OF BULK AT MOST 1048576: true; the input reads as it did. -/
def treeGrowUptoRow : OpenClaim := { program := "ytgccmhlmdnimjaa", sum := "3b18167b19d24b0a41a2cceb1c7f0295ababb77018a64f7ca9f0e82e249ec4de", func := "surety/suretylaw05.TreeGrow", spec := "treeGrow", unfollowed := true, recurses := true, loops := true, apart := false, narrowed := true }
def TreeGrowUptoSaid : Prop := treeGrowUptoRow.holds Try.pinned (OpenSpec.upto treeGrowSpec)

end Rows
end Go.Proofs.Ytgccmhlmdnimjaa
