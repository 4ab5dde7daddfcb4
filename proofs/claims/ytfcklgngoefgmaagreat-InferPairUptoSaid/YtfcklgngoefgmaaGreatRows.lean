/-
  NARROWER THAN 'FOR EVERY INPUT', by the rows' own cells (each row's printed sentence says how): InferExact: loops · InferLimits: loops · InferAsc: loops · InferNames: loops · InferPair: loops · InferLet: loops.
  DERIVED. THE GIVEN ROWS OF THIS SEAT. 6 by the template 'for every input the law returns true; each argument reads behind the call as it read before'; 0 by the template 'total and deterministic' (their statements: YtfcklgngoefgmaaGreatTotals.lean).
  GIVEN WITH THE SEED: the statements are not yours to turn. If you find one false, say at which input.
  Laid BY PROGRAM, IN A SANDBOX (cutbox-rows.mjs): the forced cells as the released guide's own fill.sh prints them over the translation ded94296d980ab7a… (all of the seat's roots in one cut). By AI agents, Wed Nov 11 2026. No macro, syntax, notation, axiom, sorry.
-/
import Derived.Test.YtfcklgngoefgmaaGreatChecked
import GoSem.Claim
import GoSem.ClaimJoined
import GoSem.ClaimMapViews
import Derived.JoinedTies
import Derived.KernelRfl
namespace Go.Proofs.YtfcklgngoefgmaaGreat
/- THE CELL 'sum', in the pinned program and in every row, IS THE sha256 OF THE DUMP (.gsa) THAT YtfcklgngoefgmaaGreatProg.lean LOADS. Nothing in Lean hashes anything: it is a label: what it is worth is what the hold of that sum in a sandbox is worth. -/
noncomputable def Tryz.pinned : Pinned := { name := "ytfcklgngoefgmaagreat", sum := "ded94296d980ab7a24f00a86c2471151bb278e2aa78ed773130ec05e1623119d", checked := Tryz.checked }
namespace Rows
def none {H : Type} : Left H := { results := [], args := [] }

/-- 'suretylaw15.InferExact': WHATEVER THE INPUT: true; the input reads as it did. -/
def inferExactSpec : ChangeSpec := { name := "inferExact", fn := fun _ => fun
  | [d1, d2] => { results := [.lit (.bool true)], args := [d1, d2] }
  | _ => none }
def inferExactRow : OpenClaim := { program := "ytfcklgngoefgmaagreat", sum := "ded94296d980ab7a24f00a86c2471151bb278e2aa78ed773130ec05e1623119d", func := "surety/suretylaw15.InferExact", spec := "inferExact", unfollowed := true, recurses := true, loops := true, apart := false }
def InferExactSaid : Prop := inferExactRow.holds Tryz.pinned (OpenSpec.ofChange inferExactSpec)

/-- ITS FALSE NEIGHBOUR: 'it returns false'. Refute it at one input. -/
def inferExactWrong : ChangeSpec := { name := "inferExact", fn := fun _ => fun
  | [d1, d2] => { results := [.lit (.bool false)], args := [d1, d2] }
  | _ => none }
def InferExactWrongFalsely : Prop := inferExactRow.holds Tryz.pinned (OpenSpec.ofChange inferExactWrong)

/-- 'suretylaw15.InferLimits': WHATEVER THE INPUT: true; the input reads as it did. -/
def inferLimitsSpec : ChangeSpec := { name := "inferLimits", fn := fun _ => fun
  | [d1, d2, d3] => { results := [.lit (.bool true)], args := [d1, d2, d3] }
  | _ => none }
def inferLimitsRow : OpenClaim := { program := "ytfcklgngoefgmaagreat", sum := "ded94296d980ab7a24f00a86c2471151bb278e2aa78ed773130ec05e1623119d", func := "surety/suretylaw15.InferLimits", spec := "inferLimits", unfollowed := true, recurses := true, loops := true, apart := false }
def InferLimitsSaid : Prop := inferLimitsRow.holds Tryz.pinned (OpenSpec.ofChange inferLimitsSpec)

/-- ITS FALSE NEIGHBOUR: 'it returns false'. Refute it at one input. -/
def inferLimitsWrong : ChangeSpec := { name := "inferLimits", fn := fun _ => fun
  | [d1, d2, d3] => { results := [.lit (.bool false)], args := [d1, d2, d3] }
  | _ => none }
def InferLimitsWrongFalsely : Prop := inferLimitsRow.holds Tryz.pinned (OpenSpec.ofChange inferLimitsWrong)

/-- 'suretylaw15.InferAsc': WHATEVER THE INPUT: true; the input reads as it did. -/
def inferAscSpec : ChangeSpec := { name := "inferAsc", fn := fun _ => fun
  | [d1, d2] => { results := [.lit (.bool true)], args := [d1, d2] }
  | _ => none }
def inferAscRow : OpenClaim := { program := "ytfcklgngoefgmaagreat", sum := "ded94296d980ab7a24f00a86c2471151bb278e2aa78ed773130ec05e1623119d", func := "surety/suretylaw15.InferAsc", spec := "inferAsc", unfollowed := true, recurses := true, loops := true, apart := false }
def InferAscSaid : Prop := inferAscRow.holds Tryz.pinned (OpenSpec.ofChange inferAscSpec)

/-- ITS FALSE NEIGHBOUR: 'it returns false'. Refute it at one input. -/
def inferAscWrong : ChangeSpec := { name := "inferAsc", fn := fun _ => fun
  | [d1, d2] => { results := [.lit (.bool false)], args := [d1, d2] }
  | _ => none }
def InferAscWrongFalsely : Prop := inferAscRow.holds Tryz.pinned (OpenSpec.ofChange inferAscWrong)

/-- 'suretylaw15.InferNames': WHATEVER THE INPUT: true; the input reads as it did. -/
def inferNamesSpec : ChangeSpec := { name := "inferNames", fn := fun _ => fun
  | [d] => { results := [.lit (.bool true)], args := [d] }
  | _ => none }
def inferNamesRow : OpenClaim := { program := "ytfcklgngoefgmaagreat", sum := "ded94296d980ab7a24f00a86c2471151bb278e2aa78ed773130ec05e1623119d", func := "surety/suretylaw15.InferNames", spec := "inferNames", unfollowed := true, recurses := true, loops := true, apart := false }
def InferNamesSaid : Prop := inferNamesRow.holds Tryz.pinned (OpenSpec.ofChange inferNamesSpec)

/-- ITS FALSE NEIGHBOUR: 'it returns false'. Refute it at one input. -/
def inferNamesWrong : ChangeSpec := { name := "inferNames", fn := fun _ => fun
  | [d] => { results := [.lit (.bool false)], args := [d] }
  | _ => none }
def InferNamesWrongFalsely : Prop := inferNamesRow.holds Tryz.pinned (OpenSpec.ofChange inferNamesWrong)

/-- 'suretylaw15.InferPair': WHATEVER THE INPUT: true; the input reads as it did. -/
def inferPairSpec : ChangeSpec := { name := "inferPair", fn := fun _ => fun
  | [d1, d2] => { results := [.lit (.bool true)], args := [d1, d2] }
  | _ => none }
def inferPairRow : OpenClaim := { program := "ytfcklgngoefgmaagreat", sum := "ded94296d980ab7a24f00a86c2471151bb278e2aa78ed773130ec05e1623119d", func := "surety/suretylaw15.InferPair", spec := "inferPair", unfollowed := true, recurses := true, loops := true, apart := false }
def InferPairSaid : Prop := inferPairRow.holds Tryz.pinned (OpenSpec.ofChange inferPairSpec)

/-- ITS FALSE NEIGHBOUR: 'it returns false'. Refute it at one input. -/
def inferPairWrong : ChangeSpec := { name := "inferPair", fn := fun _ => fun
  | [d1, d2] => { results := [.lit (.bool false)], args := [d1, d2] }
  | _ => none }
def InferPairWrongFalsely : Prop := inferPairRow.holds Tryz.pinned (OpenSpec.ofChange inferPairWrong)

/-- 'suretylaw15.InferLet': WHATEVER THE INPUT: true; the input reads as it did. -/
def inferLetSpec : ChangeSpec := { name := "inferLet", fn := fun _ => fun
  | [d] => { results := [.lit (.bool true)], args := [d] }
  | _ => none }
def inferLetRow : OpenClaim := { program := "ytfcklgngoefgmaagreat", sum := "ded94296d980ab7a24f00a86c2471151bb278e2aa78ed773130ec05e1623119d", func := "surety/suretylaw15.InferLet", spec := "inferLet", unfollowed := true, recurses := true, loops := true, apart := false }
def InferLetSaid : Prop := inferLetRow.holds Tryz.pinned (OpenSpec.ofChange inferLetSpec)

/-- ITS FALSE NEIGHBOUR: 'it returns false'. Refute it at one input. -/
def inferLetWrong : ChangeSpec := { name := "inferLet", fn := fun _ => fun
  | [d] => { results := [.lit (.bool false)], args := [d] }
  | _ => none }
def InferLetWrongFalsely : Prop := inferLetRow.holds Tryz.pinned (OpenSpec.ofChange inferLetWrong)

/- THE SECOND FORM. 'bulk': how many values and letters a reading holds, each counted each time it is reached (what is shared counts as often as it is met; a slice's spare places count too). A statement '..UptoSaid' is the law's where the arguments, and the package variables that the reading takes, are together of bulk at most 1048576: NARROWER than '..Said'. Prove '..Said' where nothing that the law and all that it calls make is longer than what came in: it says more and counts as full. Else prove '..UptoSaid'. A law counts once. -/
mutual
def uptoBulk {H : Type} : DataW H → Nat
  | .lit (.string bytes) => bytes.length + 1
  | .lit _ => 1
  | .nil => 1
  | .ptr d => uptoBulk d + 1
  | .slice elems spare => uptoBulkAll elems + uptoBulkAll spare + 1
  | .agg parts => uptoBulkAll parts + 1
  | .iface _ d => uptoBulk d + 1
  | .map entries => uptoBulkEntries entries + 1
  | .held _ => 1
def uptoBulkAll {H : Type} : List (DataW H) → Nat
  | [] => 0
  | d :: r => uptoBulk d + uptoBulkAll r
def uptoBulkEntries {H : Type} : List (Lit × DataW H) → Nat
  | [] => 0
  | x :: r => uptoBulkEntry x + uptoBulkEntries r
def uptoBulkEntry {H : Type} : Lit × DataW H → Nat
  | (.string bytes, d) => bytes.length + uptoBulk d + 1
  | (_, d) => uptoBulk d + 1
 end
def uptoSmall : (H : Type) → List (DataW H) → Bool := fun _ ds => decide (uptoBulkAll ds ≤ 1048576)
def OpenSpec.upto (s : _root_.Go.ChangeSpec) : _root_.Go.OpenSpec := { _root_.Go.OpenSpec.ofChange s with cond := some uptoSmall }

/-- 'suretylaw15.InferExact', WHERE WHAT IT READS IS OF BULK AT MOST 1048576: true; the input reads as it did. -/
def inferExactUptoRow : OpenClaim := { program := "ytfcklgngoefgmaagreat", sum := "ded94296d980ab7a24f00a86c2471151bb278e2aa78ed773130ec05e1623119d", func := "surety/suretylaw15.InferExact", spec := "inferExact", unfollowed := true, recurses := true, loops := true, apart := false, narrowed := true }
def InferExactUptoSaid : Prop := inferExactUptoRow.holds Tryz.pinned (OpenSpec.upto inferExactSpec)

/-- 'suretylaw15.InferLimits', WHERE WHAT IT READS IS OF BULK AT MOST 1048576: true; the input reads as it did. -/
def inferLimitsUptoRow : OpenClaim := { program := "ytfcklgngoefgmaagreat", sum := "ded94296d980ab7a24f00a86c2471151bb278e2aa78ed773130ec05e1623119d", func := "surety/suretylaw15.InferLimits", spec := "inferLimits", unfollowed := true, recurses := true, loops := true, apart := false, narrowed := true }
def InferLimitsUptoSaid : Prop := inferLimitsUptoRow.holds Tryz.pinned (OpenSpec.upto inferLimitsSpec)

/-- 'suretylaw15.InferAsc', WHERE WHAT IT READS IS OF BULK AT MOST 1048576: true; the input reads as it did. -/
def inferAscUptoRow : OpenClaim := { program := "ytfcklgngoefgmaagreat", sum := "ded94296d980ab7a24f00a86c2471151bb278e2aa78ed773130ec05e1623119d", func := "surety/suretylaw15.InferAsc", spec := "inferAsc", unfollowed := true, recurses := true, loops := true, apart := false, narrowed := true }
def InferAscUptoSaid : Prop := inferAscUptoRow.holds Tryz.pinned (OpenSpec.upto inferAscSpec)

/-- 'suretylaw15.InferNames', WHERE WHAT IT READS IS OF BULK AT MOST 1048576: true; the input reads as it did. -/
def inferNamesUptoRow : OpenClaim := { program := "ytfcklgngoefgmaagreat", sum := "ded94296d980ab7a24f00a86c2471151bb278e2aa78ed773130ec05e1623119d", func := "surety/suretylaw15.InferNames", spec := "inferNames", unfollowed := true, recurses := true, loops := true, apart := false, narrowed := true }
def InferNamesUptoSaid : Prop := inferNamesUptoRow.holds Tryz.pinned (OpenSpec.upto inferNamesSpec)

/-- 'suretylaw15.InferPair', WHERE WHAT IT READS IS OF BULK AT MOST 1048576: true; the input reads as it did. -/
def inferPairUptoRow : OpenClaim := { program := "ytfcklgngoefgmaagreat", sum := "ded94296d980ab7a24f00a86c2471151bb278e2aa78ed773130ec05e1623119d", func := "surety/suretylaw15.InferPair", spec := "inferPair", unfollowed := true, recurses := true, loops := true, apart := false, narrowed := true }
def InferPairUptoSaid : Prop := inferPairUptoRow.holds Tryz.pinned (OpenSpec.upto inferPairSpec)

/-- 'suretylaw15.InferLet', WHERE WHAT IT READS IS OF BULK AT MOST 1048576: true; the input reads as it did. -/
def inferLetUptoRow : OpenClaim := { program := "ytfcklgngoefgmaagreat", sum := "ded94296d980ab7a24f00a86c2471151bb278e2aa78ed773130ec05e1623119d", func := "surety/suretylaw15.InferLet", spec := "inferLet", unfollowed := true, recurses := true, loops := true, apart := false, narrowed := true }
def InferLetUptoSaid : Prop := inferLetUptoRow.holds Tryz.pinned (OpenSpec.upto inferLetSpec)

end Rows
end Go.Proofs.YtfcklgngoefgmaaGreat
