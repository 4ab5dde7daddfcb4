/-
  Parts of the proof, merged: SuM3, SuM4, SuM5, SuRd2, SuFix, SuKeys, SuClone, SuMp, SuM6, SuM7, SuM10, SuM11, SuM12, SuM8, SuM9, Cfg, It, K0, J0.
-/
import Derived.ChangeShapes
import Derived.Handy
import Derived.KernelRfl
import Derived.Lib.SliceRun
import Derived.LoopNIn
import Derived.Maps.RangeRun
import Derived.OwnWalkIn
import Derived.RangeFuncBound
import Derived.RangeFuncKeeps
import Derived.RangeFuncLeaves
import Derived.Shelf.Abstract
import Derived.Shelf.Sort.Plain
import Derived.Sort.KeysCollected
import Derived.Sort.OwnSorted
import Derived.TacticsInMore
import Derived.Test.YtnjllcbmmmplcaaGreatProg
import Derived.Test.YtnjllcbmmmplcaaGreatRows
import Derived.WalkKit
import Derived.Test.YtnjllcbmmmplcaaGreatL3
set_option linter.unusedVariables false
set_option linter.unusedSimpArgs false
/-
  TERMS and EXPRESSIONS: what is said of them.
-/
namespace Go.Su

/-! ### Patterns without their places -/
structure Pat.fit (p : Pat) : Prop where
  size : p.size ≤ lim
  txt : p.txt

theorem Pat.fit_thin {p : Pat} (h : p.fit) : p.thin = true := Pat.thin_of_size h.size

def Pat.bare : Pat → Pat
  | .mk k _ _ nm n s ks => .mk k 0 0 nm n s (ks.map Pat.bare)
@[simp] theorem Pat.bare_kind (p : Pat) : p.bare.kind = p.kind := by cases p; rw [Pat.bare]; rfl
@[simp] theorem Pat.bare_lo (p : Pat) : p.bare.lo = 0 := by cases p; rw [Pat.bare]; rfl
@[simp] theorem Pat.bare_hi (p : Pat) : p.bare.hi = 0 := by cases p; rw [Pat.bare]; rfl
@[simp] theorem Pat.bare_name (p : Pat) : p.bare.name = p.name := by cases p; rw [Pat.bare]; rfl
@[simp] theorem Pat.bare_n (p : Pat) : p.bare.n = p.n := by cases p; rw [Pat.bare]; rfl
@[simp] theorem Pat.bare_s (p : Pat) : p.bare.s = p.s := by cases p; rw [Pat.bare]; rfl
@[simp] theorem Pat.bare_kids (p : Pat) : p.bare.kids = p.kids.map Pat.bare := by cases p; rw [Pat.bare]; rfl

def Ex.bare : Ex → Ex
  | .mk k _ _ nm ar n s op a b ps ks => .mk k 0 0 nm ar n s op a b (ps.map Pat.bare) (ks.map Ex.bare)
@[simp] theorem Ex.bare_kind (p : Ex) : p.bare.kind = p.kind := by cases p; rw [Ex.bare]; rfl
@[simp] theorem Ex.bare_lo (p : Ex) : p.bare.lo = 0 := by cases p; rw [Ex.bare]; rfl
@[simp] theorem Ex.bare_hi (p : Ex) : p.bare.hi = 0 := by cases p; rw [Ex.bare]; rfl
@[simp] theorem Ex.bare_name (p : Ex) : p.bare.name = p.name := by cases p; rw [Ex.bare]; rfl
@[simp] theorem Ex.bare_arg (p : Ex) : p.bare.arg = p.arg := by cases p; rw [Ex.bare]; rfl
@[simp] theorem Ex.bare_n (p : Ex) : p.bare.n = p.n := by cases p; rw [Ex.bare]; rfl
@[simp] theorem Ex.bare_s (p : Ex) : p.bare.s = p.s := by cases p; rw [Ex.bare]; rfl
@[simp] theorem Ex.bare_op (p : Ex) : p.bare.op = p.op := by cases p; rw [Ex.bare]; rfl
@[simp] theorem Ex.bare_a (p : Ex) : p.bare.a = p.a := by cases p; rw [Ex.bare]; rfl
@[simp] theorem Ex.bare_b (p : Ex) : p.bare.b = p.b := by cases p; rw [Ex.bare]; rfl
@[simp] theorem Ex.bare_pats (p : Ex) : p.bare.pats = p.pats.map Pat.bare := by cases p; rw [Ex.bare]; rfl
@[simp] theorem Ex.bare_kids (p : Ex) : p.bare.kids = p.kids.map Ex.bare := by cases p; rw [Ex.bare]; rfl

/-! ### What fits in the machine -/
structure Ex.fit1 (t : Ex) : Prop where
  name : t.name.size ≤ 4294967000
  arg : t.arg.size ≤ 4294967000
  s : t.s.size ≤ 4294967000
  a : t.a.thin = true
  b : t.b.thin = true
  avc : t.a.vcount ≤ lim
  bvc : t.b.vcount ≤ lim
  pats : t.pats.length < lim
  pat : ∀ p ∈ t.pats, p.fit
  kids : t.kids.length < lim
inductive Ex.fit : Ex → Prop where
  | mk (t : Ex) : t.fit1 → (∀ k ∈ t.kids, k.fit) → t.fit
theorem Ex.fit.one {t : Ex} (h : t.fit) : t.fit1 := by cases h; assumption
theorem Ex.fit.kid {t k : Ex} (h : t.fit) (hk : k ∈ t.kids) : k.fit := by cases h with | mk _ _ g => exact g k hk

structure Tm.fit1 (t : Tm) : Prop where
  name : t.name.size ≤ 4294967000
  arg : t.arg.size ≤ 4294967000
  s : t.s.size ≤ 4294967000
  vars : t.vars.length < lim
  a : t.a.thin = true
  b : t.b.thin = true
  avc : t.a.vcount ≤ lim
  bvc : t.b.vcount ≤ lim
  args : t.args.length < lim
  arg1 : ∀ y ∈ t.args, y.thin = true
  argvc : ∀ y ∈ t.args, y.vcount ≤ lim
  pats : t.pats.length < lim
  pat : ∀ p ∈ t.pats, p.fit
  kids : t.kids.length < lim
inductive Tm.fit : Tm → Prop where
  | mk (t : Tm) : t.fit1 → (∀ k ∈ t.kids, k.fit) → t.fit
theorem Tm.fit.one {t : Tm} (h : t.fit) : t.fit1 := by cases h; assumption
theorem Tm.fit.kid {t k : Tm} (h : t.fit) (hk : k ∈ t.kids) : k.fit := by cases h with | mk _ _ g => exact g k hk

theorem Pat.size_mass (p : Pat) : p.size ≤ p.mass := by
  induction p using Pat.ind with
  | h p ih =>
    rw [Pat.size_eq, Pat.mass_eq]
    have key : ∀ ks : List Pat, (∀ k ∈ ks, k.size ≤ k.mass) → (ks.map Pat.size).sum ≤ (ks.map Pat.mass).sum := by
      intro ks
      induction ks with
      | nil => simp
      | cons k ks ihk =>
        intro h
        simp only [List.map_cons, List.sum_cons]
        have := h k (List.mem_cons_self ..)
        have := ihk fun k' hk' => h k' (List.mem_cons_of_mem _ hk')
        omega
    have := key p.kids ih
    omega
theorem Pat.sub_mass {p : Pat} : ∀ q ∈ p.subs, q.mass ≤ p.mass := by
  induction p using Pat.ind with
  | h p ih =>
    intro q hq
    rw [Pat.subs_eq] at hq
    rcases List.mem_cons.1 hq with rfl | hq
    · exact Nat.le_refl _
    · obtain ⟨k, hk, hq⟩ := List.mem_flatMap.1 hq
      have := ih k hk q hq
      have := Pat.mass_kid hk
      omega
theorem Pat.fit_mass {p : Pat} (h : p.mass ≤ 4294967000) : p.fit := by
  refine ⟨by have := p.size_mass; unfold lim; omega, fun q hq => ?_⟩
  have := Pat.sub_mass q hq
  exact ⟨by have := q.mass_name; omega, by have := q.mass_s; omega⟩

theorem sum_len {l : List Nat} (h : ∀ a ∈ l, 0 < a) : l.length ≤ l.sum := by
  induction l with
  | nil => simp
  | cons a l ih =>
    have := h a (List.mem_cons_self ..)
    have := ih fun b hb => h b (List.mem_cons_of_mem _ hb)
    simp only [List.length_cons, List.sum_cons]
    omega
theorem len_sum {α : Type} {l : List α} {f : α → Nat} (h : ∀ a, 0 < f a) : l.length ≤ (l.map f).sum := by
  have := sum_len (l := l.map f) (by intro a ha; obtain ⟨x, _, rfl⟩ := List.mem_map.1 ha; exact h x)
  simpa using this
theorem mem_sum {α : Type} {l : List α} {f : α → Nat} {a : α} (h : a ∈ l) : f a ≤ (l.map f).sum := le_sum_mem (List.mem_map_of_mem (f := f) h)

theorem Ex.fit_mass {t : Ex} : t.mass ≤ 4294967000 → t.fit := by
  induction t using Ex.ind with
  | h t ih =>
    intro h
    refine .mk t ⟨by have := t.mass_name; omega, by have := t.mass_arg; omega, by have := t.mass_s; omega, Ty.thin_of_size (by have := t.mass_a; unfold lim; omega), Ty.thin_of_size (by have := t.mass_b; unfold lim; omega), by have := t.mass_a; have := t.a.vcount_size; unfold lim; omega, by have := t.mass_b; have := t.b.vcount_size; unfold lim; omega, ?_, fun p hp => ?_, ?_⟩ fun k hk => ih k hk (by have := Ex.mass_kid hk; omega)
    · have := t.mass_pats; have := len_sum (l := t.pats) Pat.mass_pos; unfold lim; omega
    · have := t.mass_pats; have := mem_sum (f := Pat.mass) hp; exact Pat.fit_mass (by omega)
    · have := t.mass_len; unfold lim; omega
theorem Tm.fit_mass {t : Tm} : t.mass ≤ 4294967000 → t.fit := by
  induction t using Tm.ind with
  | h t ih =>
    intro h
    refine .mk t ⟨by have := t.mass_name; omega, by have := t.mass_arg; omega, by have := t.mass_s; omega, by have := t.mass_vars; unfold lim; omega, Ty.thin_of_size (by have := t.mass_a; unfold lim; omega), Ty.thin_of_size (by have := t.mass_b; unfold lim; omega), by have := t.mass_a; have := t.a.vcount_size; unfold lim; omega, by have := t.mass_b; have := t.b.vcount_size; unfold lim; omega, ?_, fun p hp => ?_, fun p hp => ?_, ?_, fun p hp => ?_, ?_⟩ fun k hk => ih k hk (by have := Tm.mass_kid hk; omega)
    · have := t.mass_args; have := len_sum (l := t.args) Ty.size_pos; unfold lim; omega
    · have := t.mass_args; have := mem_sum (f := Ty.size) hp; exact Ty.thin_of_size (by unfold lim; omega)
    · have := t.mass_args; have := mem_sum (f := Ty.size) hp; have := p.vcount_size; unfold lim; omega
    · have := t.mass_pats; have := len_sum (l := t.pats) Pat.mass_pos; unfold lim; omega
    · have := t.mass_pats; have := mem_sum (f := Pat.mass) hp; exact Pat.fit_mass (by omega)
    · have := t.mass_len; unfold lim; omega

/-- All types in it are small. -/
inductive Tm.sized : Tm → Prop where
  | mk (t : Tm) : t.a.size ≤ lim → t.b.size ≤ lim → (∀ y ∈ t.args, y.size ≤ lim) → (∀ k ∈ t.kids, k.sized) → t.sized
theorem Tm.sized.a {t : Tm} (h : t.sized) : t.a.size ≤ lim := by cases h; assumption
theorem Tm.sized.b {t : Tm} (h : t.sized) : t.b.size ≤ lim := by cases h; assumption
theorem Tm.sized.args {t : Tm} (h : t.sized) : ∀ y ∈ t.args, y.size ≤ lim := by cases h; assumption
theorem Tm.sized.kid {t k : Tm} (h : t.sized) (hk : k ∈ t.kids) : k.sized := by cases h with | mk _ _ _ _ g => exact g k hk
theorem Tm.sized_mass {t : Tm} : t.mass ≤ 4294967000 → t.sized := by
  induction t using Tm.ind with
  | h t ih =>
    intro h
    refine .mk t (by have := t.mass_a; unfold lim; omega) (by have := t.mass_b; unfold lim; omega) (fun y hy => ?_) fun k hk => ih k hk (by have := Tm.mass_kid hk; omega)
    have := t.mass_args; have := mem_sum (f := Ty.size) hy; unfold lim; omega

/-! ### Right terms -/
def Ty.none (t : Ty) : Bool := decide (t.kind = 0) && decide (t.n = 0) && decide (t.kids.length = 0)
theorem Ty.none_iff {t : Ty} : t.none = true ↔ t = .mk 0 0 [] := by
  unfold Ty.none
  rw [Ty.ext_iff']
  simp [and_assoc]

def kName (k : Int) : Bool := decide (k = 1 ∨ k = 9 ∨ k = 11 ∨ k = 12)
def kArg (k : Int) : Bool := decide (k = 12)
def kN (k : Int) : Bool := decide (k = 2 ∨ k = 3)
def kS (k : Int) : Bool := decide (k = 4)
def kOp (k : Int) : Bool := decide (k = 15)
def kAt (k : Int) : Bool := decide (k = 14 ∨ k = 15)
def kVars (k : Int) : Bool := decide (k = 11 ∨ k = 12)
def kArgs (k : Int) : Bool := decide (k = 1)
def kPats (k : Int) : Bool := decide (k = 14)
def kA (k : Int) : Bool := decide (k = 7 ∨ k = 9 ∨ k = 12 ∨ k = 16)
def kB (k : Int) : Bool := decide (k = 12 ∨ k = 16)
def kLabel (k : Int) : Bool := decide (k = 16)
def kOk (k : Int) (np : Nat) : Bool := decide (1 ≤ k) && decide (k ≤ 16) && (!decide (k = 14) || decide (0 < np))
/-- How many kids a kind of terms has. -/
def kKids (k : Int) (np : Nat) : Int :=
  if k = 6 ∨ k = 8 ∨ k = 10 ∨ k = 11 ∨ k = 12 ∨ k = 15 then 2 else if k = 9 ∨ k = 16 then 1 else if k = 13 then 3 else if k = 14 then np + 1 else 0

def namedB (h : Bool) (s : ByteArray) : Bool := if h = true then nameB s else decide (s = nil8)
def typedB (h : Bool) (t : Ty) : Bool := if h = true then t.right else t.none

def Tm.lists (t : Tm) : Bool := t.vars.all (fun v => decide (0 ≤ v) && decide (v ≤ 1048576)) && t.args.all Ty.right && t.pats.all Pat.right

def Tm.one5 (t : Tm) : Bool := (kVars t.kind || decide (t.vars.length = 0)) && (kArgs t.kind || decide (t.args.length = 0)) && (kPats t.kind || decide (t.pats.length = 0)) && t.lists
def Tm.one4 (t : Tm) : Bool := (kLabel t.kind || (decide (t.label = 0) && !t.neg)) && (decide (0 ≤ t.label) && decide (t.label ≤ 1048576)) && t.one5
def Tm.one3 (t : Tm) : Bool := (!kOp t.kind || (decide (1 ≤ t.op) && decide (t.op ≤ 7))) && (kOp t.kind || decide (t.op = 0)) && t.one4
def Tm.one2 (t : Tm) : Bool := (kS t.kind || decide (t.s = nil8)) && decide (t.s.size ≤ 200) && (kAt t.kind || (decide (t.lo = 0) && decide (t.hi = 0))) && t.one3
def Tm.one1 (t : Tm) : Bool := (kN t.kind || decide (t.n = 0)) && (!decide (t.kind = 3) || decide (t.n = 0) || decide (t.n = 1)) && t.one2
def Tm.one (t : Tm) : Bool := kOk t.kind t.pats.length && decide ((t.kids.length : Int) = kKids t.kind t.pats.length) && namedB (kName t.kind) t.name && namedB (kArg t.kind) t.arg && typedB (kA t.kind) t.a && typedB (kB t.kind) t.b && t.one1

def Tm.right : Tm → Bool
  | .mk a b c d e f g h i j k l m n o ks => Tm.one (.mk a b c d e f g h i j k l m n o ks) && (ks.map Tm.right).all id
theorem Tm.right_eq (t : Tm) : t.right = (t.one && t.kids.all Tm.right) := by
  cases t
  rw [Tm.right]
  simp [List.all_map]

end Go.Su

/-
  TERMS, as the reference has them.
-/
namespace Go.Su
/-- The fields of a kind alone. -/
def Tm.bareF (t : Tm) : Tm :=
  .mk t.kind (if kAt t.kind = true then t.lo else 0) (if kAt t.kind = true then t.hi else 0) (if kName t.kind = true then t.name else nil8) (if kArg t.kind = true then t.arg else nil8) (if kN t.kind = true then t.n else 0)
    (if kS t.kind = true then t.s else nil8) (if kOp t.kind = true then t.op else 0) (if kLabel t.kind = true then t.label else 0) (if kLabel t.kind = true then t.neg else false) (if kVars t.kind = true then t.vars else [])
    (if kA t.kind = true then t.a else .mk 0 0 []) (if kB t.kind = true then t.b else .mk 0 0 []) (if kArgs t.kind = true then t.args else []) (if kPats t.kind = true then t.pats else []) []

def Tm.bareN (t : Tm) : Int := if 1 ≤ t.kind ∧ t.kind ≤ 16 then kKids t.kind t.pats.length else -1

/-- The same but for the kids. -/
noncomputable def Tm.flatB (a b : Tm) : Bool :=
  decide (a.kind = b.kind) && (decide (a.lo = b.lo) && decide (a.hi = b.hi)) && decide (a.name = b.name) && decide (a.arg = b.arg) && decide (a.n = b.n) && decide (a.s = b.s) && decide (a.op = b.op) && decide (a.label = b.label) && decide (a.neg = b.neg) &&
    decide (a.args = b.args) && decide (a.a = b.a) && decide (a.b = b.b) && decide (a.vars = b.vars) && decide (a.pats = b.pats)

theorem Tm.flatB_iff {a b : Tm} : a.flatB b = true ∧ a.kids = b.kids ↔ a = b := by
  simp only [Tm.flatB, Bool.and_eq_true, decide_eq_true_eq, Tm.ext_iff']
  grind

theorem Tm.bareF_fit {t : Tm} (h : t.fit1) : t.bareF.fit1 := by
  have t0 : (Ty.mk 0 0 []).thin = true := by rw [Ty.thin_eq]; simp [lim]
  obtain ⟨a1, a2, a3, a4, a5, a6, b1, b2, a7, a8, b3, a9, a10, a11⟩ := h
  have t1 : (Ty.mk 0 0 []).vcount ≤ lim := by rw [Ty.vcount_eq]; simp [lim]
  have n0 : nil8.size = 0 := rfl
  constructor <;> simp only [Tm.bareF, Tm.name_mk, Tm.arg_mk, Tm.s_mk, Tm.vars_mk, Tm.a_mk, Tm.b_mk, Tm.args_mk, Tm.pats_mk, Tm.kids_mk] <;> (try split) <;> simp_all [lim]


/-- What a kind asks of its fields. -/
def Tm.ownC (t : Tm) : Bool :=
  if t.kind = 1 then nameB t.name
  else if t.kind = 11 then nameB t.name
  else if t.kind = 3 then decide (t.n = 0) || decide (t.n = 1)
  else if t.kind = 4 then decide (t.s.size ≤ 200)
  else if t.kind = 7 then t.a.right
  else if t.kind = 9 then nameB t.name && t.a.right
  else if t.kind = 12 then nameB t.name && nameB t.arg && t.a.right && t.b.right
  else if t.kind = 14 then decide (0 < t.pats.length)
  else if t.kind = 15 then decide (1 ≤ t.op) && decide (t.op ≤ 7)
  else if t.kind = 16 then decide (0 ≤ t.label) && decide (t.label ≤ 1048576) && t.a.right && t.b.right
  else true

theorem nil8_size : nil8.size = 0 := rfl
theorem none_eq {t : Ty} : t.none = true ↔ Ty.mk 0 0 [] = t := by rw [Ty.none_iff]; exact eq_comm

set_option maxHeartbeats 2000000 in
theorem Tm.own_one (t : Tm) : (decide (t.bareN = (t.kids.length : Int)) && t.bareF.flatB t && t.lists && t.ownC) = t.one := by
  have e8 : ∀ s : ByteArray, (nil8 = s) ↔ (s = nil8) := fun s => eq_comm
  have e0 : ∀ n : Int, (0 = n) ↔ (n = 0) := fun s => eq_comm
  have eb : ∀ n : Bool, (false = n) ↔ (n = false) := fun s => eq_comm
  have ek : ∀ n : Int, (n = (t.kids.length : Int)) ↔ ((t.kids.length : Int) = n) := fun s => eq_comm
  have el : ∀ {α : Type} (l : List α), ([] = l) ↔ (l.length = 0) := fun l => by cases l <;> simp
  have es : t.s = nil8 → t.s.size ≤ 200 := fun h => by rw [h, nil8_size]; omega
  rw [Bool.eq_iff_iff]
  simp only [Tm.flatB, Tm.bareF, Tm.kind_mk, Tm.lo_mk, Tm.hi_mk, Tm.name_mk, Tm.arg_mk, Tm.n_mk, Tm.s_mk, Tm.op_mk, Tm.label_mk, Tm.neg_mk, Tm.args_mk, Tm.a_mk, Tm.b_mk, Tm.vars_mk, Tm.pats_mk, Tm.bareN, Tm.one, Tm.one1, Tm.one2, Tm.one3, Tm.one4, Tm.one5]
  generalize t.lists = LL
  by_cases k1 : t.kind = 1
  · simp [k1, Tm.ownC, kOk, kName, kArg, kN, kS, kOp, kAt, kVars, kArgs, kPats, kA, kB, kLabel, kKids, namedB, typedB, none_eq, e8, e0, eb, ek, el]; grind
  by_cases k2 : t.kind = 2
  · simp [k2, Tm.ownC, kOk, kName, kArg, kN, kS, kOp, kAt, kVars, kArgs, kPats, kA, kB, kLabel, kKids, namedB, typedB, none_eq, e8, e0, eb, ek, el]; grind
  by_cases k3 : t.kind = 3
  · simp [k3, Tm.ownC, kOk, kName, kArg, kN, kS, kOp, kAt, kVars, kArgs, kPats, kA, kB, kLabel, kKids, namedB, typedB, none_eq, e8, e0, eb, ek, el]; grind
  by_cases k4 : t.kind = 4
  · simp [k4, Tm.ownC, kOk, kName, kArg, kN, kS, kOp, kAt, kVars, kArgs, kPats, kA, kB, kLabel, kKids, namedB, typedB, none_eq, e8, e0, eb, ek, el]; grind
  by_cases k5 : t.kind = 5
  · simp [k5, Tm.ownC, kOk, kName, kArg, kN, kS, kOp, kAt, kVars, kArgs, kPats, kA, kB, kLabel, kKids, namedB, typedB, none_eq, e8, e0, eb, ek, el]; grind
  by_cases k6 : t.kind = 6
  · simp [k6, Tm.ownC, kOk, kName, kArg, kN, kS, kOp, kAt, kVars, kArgs, kPats, kA, kB, kLabel, kKids, namedB, typedB, none_eq, e8, e0, eb, ek, el]; grind
  by_cases k7 : t.kind = 7
  · simp [k7, Tm.ownC, kOk, kName, kArg, kN, kS, kOp, kAt, kVars, kArgs, kPats, kA, kB, kLabel, kKids, namedB, typedB, none_eq, e8, e0, eb, ek, el]; grind
  by_cases k8 : t.kind = 8
  · simp [k8, Tm.ownC, kOk, kName, kArg, kN, kS, kOp, kAt, kVars, kArgs, kPats, kA, kB, kLabel, kKids, namedB, typedB, none_eq, e8, e0, eb, ek, el]; grind
  by_cases k9 : t.kind = 9
  · simp [k9, Tm.ownC, kOk, kName, kArg, kN, kS, kOp, kAt, kVars, kArgs, kPats, kA, kB, kLabel, kKids, namedB, typedB, none_eq, e8, e0, eb, ek, el]; grind
  by_cases k10 : t.kind = 10
  · simp [k10, Tm.ownC, kOk, kName, kArg, kN, kS, kOp, kAt, kVars, kArgs, kPats, kA, kB, kLabel, kKids, namedB, typedB, none_eq, e8, e0, eb, ek, el]; grind
  by_cases k11 : t.kind = 11
  · simp [k11, Tm.ownC, kOk, kName, kArg, kN, kS, kOp, kAt, kVars, kArgs, kPats, kA, kB, kLabel, kKids, namedB, typedB, none_eq, e8, e0, eb, ek, el]; grind
  by_cases k12 : t.kind = 12
  · simp [k12, Tm.ownC, kOk, kName, kArg, kN, kS, kOp, kAt, kVars, kArgs, kPats, kA, kB, kLabel, kKids, namedB, typedB, none_eq, e8, e0, eb, ek, el]; grind
  by_cases k13 : t.kind = 13
  · simp [k13, Tm.ownC, kOk, kName, kArg, kN, kS, kOp, kAt, kVars, kArgs, kPats, kA, kB, kLabel, kKids, namedB, typedB, none_eq, e8, e0, eb, ek, el]; grind
  by_cases k14 : t.kind = 14
  · simp [k14, Tm.ownC, kOk, kName, kArg, kN, kS, kOp, kAt, kVars, kArgs, kPats, kA, kB, kLabel, kKids, namedB, typedB, none_eq, e8, e0, eb, ek, el]; grind
  by_cases k15 : t.kind = 15
  · simp [k15, Tm.ownC, kOk, kName, kArg, kN, kS, kOp, kAt, kVars, kArgs, kPats, kA, kB, kLabel, kKids, namedB, typedB, none_eq, e8, e0, eb, ek, el]; grind
  by_cases k16 : t.kind = 16
  · simp [k16, Tm.ownC, kOk, kName, kArg, kN, kS, kOp, kAt, kVars, kArgs, kPats, kA, kB, kLabel, kKids, namedB, typedB, none_eq, e8, e0, eb, ek, el]; grind
  have hk : ¬ (1 ≤ t.kind ∧ t.kind ≤ 16) := by omega
  have hk' : ¬ ((-1 : Int) = (t.kids.length : Int)) := by omega
  have hk2 : kOk t.kind t.pats.length = false := by
    unfold kOk
    rw [Bool.eq_false_iff]
    intro h
    simp only [Bool.and_eq_true, decide_eq_true_eq] at h
    omega
  simp [hk, hk', hk2]

end Go.Su

/-
  TYPES put for variables, types that agree, and the CHECKER of terms: what is said of them, without any program.
-/
namespace Go.Su

/-! ### Types put for variables -/
def look (l : List (Int × Ty)) (n : Int) : Option Ty := (l.find? fun e => decide (e.1 = n)).map (·.2)

def Ty.put (l : List (Int × Ty)) : Ty → Ty
  | .mk k n ks => if k = 6 then (look l n).getD (.mk k n ks) else .mk k n (ks.map (Ty.put l))
theorem Ty.put_eq (l : List (Int × Ty)) (t : Ty) : t.put l = if t.kind = 6 then (look l t.n).getD t else .mk t.kind t.n (t.kids.map (Ty.put l)) := by
  cases t
  rw [Ty.put]
  rfl

/-- What may be put. -/
def rightBinds (l : List (Int × Ty)) : Bool := l.all fun e => decide (0 ≤ e.1) && decide (e.1 ≤ 1048576) && e.2.right

def zeroTy : Ty := .mk 0 0 []
def encBnd (e : Int × Ty) : DV := .agg [.int .i64 e.1, .int .i64 e.2.kind, .int .i64 e.2.n, .list 3 (e.2.kids.map Ty.enc)]
def encBnds (l : List (Int × Ty)) : DV := .list 4 (l.map encBnd)

theorem look_mem {l : List (Int × Ty)} {n : Int} {t : Ty} (h : look l n = some t) : (n, t) ∈ l := by
  unfold look at h
  cases hf : l.find? fun e => decide (e.1 = n) with
  | none => rw [hf] at h; cases h
  | some e =>
    rw [hf] at h
    simp only [Option.map_some, Option.some.injEq] at h
    have h1 := List.find?_some hf
    simp only [decide_eq_true_eq] at h1
    have h2 := List.mem_of_find?_eq_some hf
    rw [← h, ← h1]
    exact h2

theorem Ty.right_iff {t : Ty} : t.right = true ↔ arity t.kind = t.kids.length ∧ 0 ≤ t.n ∧ t.n ≤ 1048576 ∧ (t.kind = 6 ∨ t.n = 0) ∧ ∀ k ∈ t.kids, k.right = true := by
  rw [Ty.right_eq]
  simp only [Bool.and_eq_true, Bool.or_eq_true, decide_eq_true_eq, List.all_eq_true, and_assoc]
theorem Ty.right_mk {k n : Int} {ks : List Ty} : (Ty.mk k n ks).right = true ↔ arity k = ks.length ∧ 0 ≤ n ∧ n ≤ 1048576 ∧ (k = 6 ∨ n = 0) ∧ ∀ t ∈ ks, t.right = true :=
  Ty.right_iff (t := .mk k n ks)
theorem Ty.right_kid {t k : Ty} (h : t.right = true) (hk : k ∈ t.kids) : k.right = true := (Ty.right_iff.1 h).2.2.2.2 k hk

theorem rightBinds_iff {l : List (Int × Ty)} : rightBinds l = true ↔ ∀ e ∈ l, 0 ≤ e.1 ∧ e.1 ≤ 1048576 ∧ e.2.right = true := by
  unfold rightBinds
  simp [and_assoc]

theorem Ty.right_put {l : List (Int × Ty)} (hl : ∀ e ∈ l, e.2.right = true) (t : Ty) : t.right = true → (t.put l).right = true := by
  induction t using Ty.ind with
  | h t ih =>
    intro h
    rw [Ty.put_eq]
    split
    · cases hk : look l t.n with
      | none => exact h
      | some u => exact hl _ (look_mem hk)
    · rw [Ty.right_mk]
      rw [Ty.right_iff] at h
      obtain ⟨h1, h2, h3, h4, h5⟩ := h
      refine ⟨by simpa using h1, h2, h3, h4, fun k hk => ?_⟩
      obtain ⟨k', hk', rfl⟩ := List.mem_map.1 hk
      exact ih k' hk' (h5 k' hk')

theorem look_nil (n : Int) : look [] n = none := rfl
theorem Ty.put_nil (t : Ty) : t.put [] = t := by
  induction t using Ty.ind with
  | h t ih =>
    rw [Ty.put_eq]
    split
    · rfl
    · rw [Ty.ext_iff']
      refine ⟨rfl, rfl, ?_⟩
      simp only [Ty.kids_mk]
      conv => rhs; rw [← List.map_id t.kids]
      exact List.map_congr_left fun k hk => ih k hk

/-! ### Types that agree -/
def Ty.agrees (a b : Ty) : Bool :=
  if a.kind = 5 then b.without 6 else if b.kind = 5 then a.without 6 else
    decide (a.kind = b.kind) && decide (a.n = b.n) && ((a.kids.attach.zip b.kids).map fun p => Ty.agrees p.1.1 p.2).all id
termination_by SizeOf.sizeOf a
decreasing_by exact Ty.kid_lt p.1.2
theorem Ty.agrees_eq (a b : Ty) : a.agrees b = if a.kind = 5 then b.without 6 else if b.kind = 5 then a.without 6 else decide (a.kind = b.kind) && decide (a.n = b.n) && (a.kids.zip b.kids).all fun p => p.1.agrees p.2 := by
  rw [Ty.agrees]
  congr 3
  have e : a.kids.attach.zip b.kids = (a.kids.attach.zip b.kids) := rfl
  have key : ∀ (l : List { x // x ∈ a.kids }) (m : List Ty), ((l.zip m).map fun p => Ty.agrees p.1.1 p.2).all id = ((l.map (·.1)).zip m).all fun p => p.1.agrees p.2 := by
    intro l
    induction l with
    | nil => intro m; simp
    | cons x l ih => intro m; cases m <;> simp_all
  rw [key]
  simp

/-! ### Patterns and types -/
def patLeaf (k : Int) : Int := if k = 3 then 1 else if k = 4 then 2 else if k = 5 then 3 else if k = 6 then 4 else if k = 8 then 8 else 0

def comb : List (Ty → Option (List (ByteArray × Ty))) → List Ty → Option (List (ByteArray × Ty))
  | [], _ => some []
  | _ :: _, [] => none
  | f :: fs, t :: ts => (f t).bind fun a => (comb fs ts).bind fun b => some (a ++ b)

def patBody (p : Pat) (fs : List (Ty → Option (List (ByteArray × Ty)))) (t : Ty) : Option (List (ByteArray × Ty)) :=
  if p.kind = 1 then some []
  else if p.kind = 2 then some [(p.name, t)]
  else if p.kind = 7 then if t.kind = 7 then comb fs t.kids else none
  else if p.kind = 9 then if t.kind = 8 then comb fs [t.kids.getD 0 zeroTy, t] else none
  else if t.kind = patLeaf p.kind then some [] else none

def Pat.binds (p : Pat) : Ty → Option (List (ByteArray × Ty)) := patBody p (p.kids.attach.map fun k => Pat.binds k.1)
termination_by SizeOf.sizeOf p
decreasing_by exact Pat.kid_lt k.2
theorem Pat.binds_eq (p : Pat) (t : Ty) : p.binds t = patBody p (p.kids.map Pat.binds) t := by
  rw [Pat.binds]
  congr 1
  exact List.attach_map_val (f := Pat.binds) ..

/-! ### The checker -/
structure Nm where
  name : ByteArray
  ty : Ty
  vars : List Int

def Nm.enc (x : Nm) : DV := .agg [.str x.name, .int .i64 x.ty.kind, .int .i64 x.ty.n, .list 3 (x.ty.kids.map Ty.enc), encInts x.vars]
def encNms (l : List Nm) : DV := .list 5 (l.map Nm.enc)

abbrev Res := Except Int Ty

def inS (S : List Int) (t : Ty) : Bool := t.vars.all fun v => decide (v ∈ S)
def takes (S : List Int) (l : List Int) : Bool := decide (l.Nodup) && l.all fun v => !decide (v ∈ S)

abbrev Chk := List Nm → List Int → Res

def ckKids (l : List Nm) (S : List Int) : List Chk → Except Int (List Ty)
  | [] => .ok []
  | f :: fs => (f l S).bind fun y => (ckKids l S fs).bind fun ys => .ok (y :: ys)

noncomputable def ckOf (t : Tm) (S : List Int) (k : List Ty) : Res :=
  let x := k.getD 0 zeroTy
  let y := k.getD 1 zeroTy
  let z := k.getD 2 zeroTy
  if t.kind = 6 then .ok (.mk 7 0 k)
  else if t.kind = 8 then if y.kind = 8 ∧ y.kids.getD 0 zeroTy = x then .ok y else .error 4
  else if t.kind = 10 then if x.kind = 9 ∧ x.kids.getD 0 zeroTy = y then .ok (x.kids.getD 1 zeroTy) else .error 4
  else if t.kind = 13 then if x.kind = 2 ∧ y = z then .ok y else .error 4
  else if t.kind = 15 then
    if t.op = 7 then if x.kind = 3 ∧ y.kind = 3 then .ok (.mk 2 0 []) else .error 4
    else if x.kind = 1 ∧ y.kind = 1 then .ok (.mk (if t.op = 5 ∨ t.op = 6 then 2 else 1) 0 []) else .error 4
  else if t.kind = 16 then
    if inS S t.a && inS S t.b then if x = t.a ∧ t.a.agrees t.b = true then .ok t.b else .error 4 else .error 6
  else .error 4

def nmOfE (e : ByteArray × Ty) : Nm := ⟨e.1, e.2, []⟩

open Classical in
noncomputable def ckArms (y : Ty) (l : List Nm) (S : List Int) : List (Pat × Chk) → Option Ty → Res
  | [], out => .ok (out.getD zeroTy)
  | (p, f) :: r, out =>
    match p.binds y with
    | none => .error 4
    | some b => (f (l ++ b.map nmOfE) S).bind fun a =>
      match out with
      | none => ckArms y l S r (some a)
      | some o => if a = o then ckArms y l S r (some o) else .error 4

noncomputable def ckBody (t : Tm) (fs : List Chk) (l : List Nm) (S : List Int) : Res :=
  let f : Nat → Chk := fun i => fs.getD i fun _ _ => .error 4
  if t.kind = 1 then
    match l.reverse.find? fun x => decide (x.name = t.name) with
    | none => .error 6
    | some x => if x.vars.length = t.args.length then if t.args.all (inS S) = true then .ok (x.ty.put (x.vars.zip t.args)) else .error 6 else .error 8
  else if t.kind = 2 ∨ t.kind = 3 ∨ t.kind = 4 ∨ t.kind = 5 then .ok (.mk (t.kind - 1) 0 [])
  else if t.kind = 7 then if inS S t.a = true then .ok (.mk 8 0 [t.a]) else .error 6
  else if t.kind = 9 then if inS S t.a = true then (f 0 (l ++ [⟨t.name, t.a, []⟩]) S).bind fun y => .ok (.mk 9 0 [t.a, y]) else .error 6
  else if t.kind = 11 then if takes S t.vars = true then (f 0 l (t.vars ++ S)).bind fun y => f 1 (l ++ [⟨t.name, y, t.vars⟩]) S else .error 6
  else if t.kind = 12 then
    if takes S t.vars = true then
      if inS (t.vars ++ S) t.a = true ∧ inS (t.vars ++ S) t.b = true then
        (f 0 (l ++ [⟨t.name, .mk 9 0 [t.a, t.b], []⟩, ⟨t.arg, t.a, []⟩]) (t.vars ++ S)).bind fun y =>
          if y = t.b then f 1 (l ++ [⟨t.name, .mk 9 0 [t.a, t.b], t.vars⟩]) S else .error 4
      else .error 6
    else .error 6
  else if t.kind = 14 then (f 0 l S).bind fun y => ckArms y l S (t.pats.zip (fs.drop 1)) none
  else (ckKids l S fs).bind fun k => ckOf t S k

noncomputable def ck (t : Tm) : Chk := ckBody t (t.kids.attach.map fun k => ck k.1)
termination_by SizeOf.sizeOf t
decreasing_by exact Tm.kid_lt k.2
theorem ck_eq (t : Tm) : ck t = ckBody t (t.kids.map ck) := by
  rw [ck]
  congr 1
  exact List.attach_map_val (f := ck) ..

end Go.Su

/-
  FROM A READING TO DATA: binds, numbers, slices.
-/
namespace Go.Su
set_option linter.unusedSimpArgs false
set_option linter.unusedVariables false

section
variable {H : Type} {enc : TypeId × Value → H} {P : Program} {w : World} {held : Bool}

def BndAt (P : Program) (t : TypeId) : Prop := ∃ f0 f1 : Field, P.underlying t = some (.struct #[f0, f1]) ∧ P.cellsOf t = 4 ∧ (IntAt P f0.type ∧ f0.offset = 0) ∧ (TyAt P f1.type ∧ f1.offset = 1)
theorem BndAt.cells {t : TypeId} (A : BndAt P t) : P.cellsOf t = 4 := by obtain ⟨_, _, _, h, _⟩ := A; exact h
theorem rd_Bnd {t : TypeId} (A : BndAt P t) (fuel : Nat) (cs : List Value) (x : DataW H × List MemPlace) (hr : Rd enc P w held fuel t cs = some x) : ∃ a : Int × Ty, RC (Old w) w.heap (encBnd a) cs ∧ a.2.size ≤ bulkW x.1 := by
  obtain ⟨f0, f1, hu, hc, ⟨t0, o0⟩, t1, o1⟩ := A
  obtain ⟨n, ds, rfl, hb, hl, hd, hf⟩ := rd_struct hu hr
  rw [hc] at hl
  obtain ⟨y0, r0, d0⟩ := hf 0 f0 rfl
  rw [o0, t0.2] at r0
  obtain ⟨v0, q0, -, b0⟩ := rd_int t0.1 r0
  obtain ⟨y1, r1, d1⟩ := hf 1 f1 rfl
  rw [o1, t1.cells] at r1
  obtain ⟨v1, q1, b1⟩ := rd_Ty t1 _ _ _ r1
  rw [Ty.enc_eq] at q1
  simp only [RC] at q1
  refine ⟨(v0, v1), ?_, ?_⟩
  · simp only [encBnd, RC]
    have e : cs = (cs.drop 0).take 1 ++ (cs.drop 1).take 3 := by
      match cs, hl with
      | [c0, c1, c2, c3], _ => rfl
    rw [e]
    exact RLs_append (a := [_]) (RLs_one rfl q0) q1
  · rw [hb]
    have hs : ds = [y0.1, y1.1] := by
      have hd : ds.length = 2 := hd
      match ds, hd, d0, d1 with
      | [a0, a1], _, d0, d1 => simp_all
    rw [hs]
    simp only [bulkAll]
    omega
theorem bnds_size {l : List (Int × Ty)} {n : Nat} (h : (l.map fun e => e.2.size).sum + 1 ≤ n) : (∀ e ∈ l, e.2.size ≤ n) ∧ l.length ≤ n := by
  constructor
  · intro e he
    have := le_sum_mem (List.mem_map_of_mem (f := fun e : Int × Ty => e.2.size) he)
    omega
  · have : ∀ l : List (Int × Ty), l.length ≤ (l.map fun e => e.2.size).sum := by
      intro l
      induction l with
      | nil => simp
      | cons x l ih => have := Ty.size_pos x.2; simp only [List.length_cons, List.map_cons, List.sum_cons]; omega
    have := this l
    omega
end

theorem RV_of_slice {P : Program} {w : World} {r : Reach} {b : Nat} {t el : TypeId} {v : Value} {S : Seal} {h' : Heap} {sz : Nat} {ds : List DV} (ht : P.underlying t = some (.slice el)) (h : Value.okWide P w r b t v) (hr : RC S h' (.list sz ds) v.cells.toList) : RV S h' (.list sz ds) v := by
  unfold Value.okWide at h
  rw [ht] at h
  have hv : v.cells = #[v] := by
    cases v <;> first | rfl | (exfalso; revert h; simp [Cell.okWide, Cell.ok, ht])
  rw [hv] at hr
  simpa [RV] using hr
theorem RV_of_int {P : Program} {w : World} {r : Reach} {b : Nat} {t : TypeId} {v : Value} {S : Seal} {h' : Heap} {k : IntKind} {n : Int} (ht : P.underlying t = some (.int k)) (h : Value.okWide P w r b t v) (hr : RC S h' (.int k n) v.cells.toList) : RV S h' (.int k n) v := by
  unfold Value.okWide at h
  rw [ht] at h
  have hv : v.cells = #[v] := by
    cases v <;> first | rfl | (exfalso; revert h; simp [Cell.okWide, Cell.ok, ht])
  rw [hv] at hr
  simpa [RC, RV] using hr
theorem RV_of_str {P : Program} {w : World} {r : Reach} {b : Nat} {t : TypeId} {v : Value} {S : Seal} {h' : Heap} {s : ByteArray} (ht : P.underlying t = some .string) (h : Value.okWide P w r b t v) (hr : RC S h' (.str s) v.cells.toList) : RV S h' (.str s) v := by
  unfold Value.okWide at h
  rw [ht] at h
  have hv : v.cells = #[v] := by
    cases v <;> first | rfl | (exfalso; revert h; simp [Cell.okWide, Cell.ok, ht])
  rw [hv] at hr
  simpa [RC, RV] using hr

section
variable {H : Type} {enc : TypeId × Value → H} {P : Program} {w : World} {base : Nat} {spare : Nat → Bool} {held : Bool}
theorem trodAll_five {t0 t1 t2 t3 t4 : TypeId} {args : Array Value} {ds : List (DataW H)} {ps : List MemPlace} (h : DataW.TrodAll enc P w base spare held [t0, t1, t2, t3, t4] args.toList ds ps) :
    ∃ v0 v1 v2 v3 v4 d0 d1 d2 d3 d4 p0 p1 p2 p3 p4, args = #[v0, v1, v2, v3, v4] ∧ ds = [d0, d1, d2, d3, d4] ∧ ps = p0 ++ p1 ++ p2 ++ p3 ++ p4 ∧ DataW.Trod enc P w base spare held t0 v0 d0 p0 ∧ DataW.Trod enc P w base spare held t1 v1 d1 p1 ∧
      DataW.Trod enc P w base spare held t2 v2 d2 p2 ∧ DataW.Trod enc P w base spare held t3 v3 d3 p3 ∧ DataW.Trod enc P w base spare held t4 v4 d4 p4 := by
  obtain ⟨v0, _, d0, _, p0, _, hargs, rfl, rfl, h0, hr⟩ := Go.ChangeShapes.trodAll_cons h
  obtain ⟨v1, _, d1, _, p1, _, rfl, rfl, rfl, h1, hr⟩ := Go.ChangeShapes.trodAll_cons hr
  obtain ⟨v2, _, d2, _, p2, _, rfl, rfl, rfl, h2, hr⟩ := Go.ChangeShapes.trodAll_cons hr
  obtain ⟨v3, _, d3, _, p3, _, rfl, rfl, rfl, h3, hr⟩ := Go.ChangeShapes.trodAll_cons hr
  obtain ⟨v4, _, d4, _, p4, _, rfl, rfl, rfl, h4, hr⟩ := Go.ChangeShapes.trodAll_cons hr
  obtain ⟨rfl, rfl, rfl⟩ := Go.ChangeShapes.trodAll_nil hr
  exact ⟨v0, v1, v2, v3, v4, d0, d1, d2, d3, d4, p0, p1, p2, p3, p4, by cases args; simp_all, rfl, by simp, h0, h1, h2, h3, h4⟩

theorem trodAll_mk5 {t0 t1 t2 t3 t4 : TypeId} {v0 v1 v2 v3 v4 : Value} {d0 d1 d2 d3 d4 : DataW H} {p0 p1 p2 p3 p4 : List MemPlace} (h0 : DataW.Trod enc P w base spare held t0 v0 d0 p0) (h1 : DataW.Trod enc P w base spare held t1 v1 d1 p1)
    (h2 : DataW.Trod enc P w base spare held t2 v2 d2 p2) (h3 : DataW.Trod enc P w base spare held t3 v3 d3 p3) (h4 : DataW.Trod enc P w base spare held t4 v4 d4 p4) :
    DataW.TrodAll enc P w base spare held [t0, t1, t2, t3, t4] [v0, v1, v2, v3, v4] [d0, d1, d2, d3, d4] (p0 ++ (p1 ++ (p2 ++ (p3 ++ p4)))) :=
  ⟨p0, _, h0, ⟨p1, _, h1, ⟨p2, _, h2, ⟨p3, _, h3, ⟨p4, [], h4, rfl, by simp⟩, rfl⟩, rfl⟩, rfl⟩, rfl⟩
end
end Go.Su

/-
  THE DATA MACHINE: the program's functions are what one step makes of them: as an equation; runs on closed data by rewriting.
-/
namespace Go.Su

theorem run_fix {C : Cfg} : OLe (run C) (stepOrc C (run C)) := by
  constructor
  · intro f ds d H
    obtain ⟨n, hn⟩ := run_lim.p f ds d H
    cases n with
    | zero => simp [orcN] at hn
    | succ n => exact (step_mono (orc_run n)).p _ _ _ hn
  · intro f rs sg q H
    obtain ⟨n, hn⟩ := run_lim.r f rs sg q H
    cases n with
    | zero => simp [orcN] at hn
    | succ n => exact (step_mono (orc_run n)).r _ _ _ _ hn

theorem eq_of_le {α : Type} {x y : Option α} (h : ∀ a, x = some a → y = some a) (h' : ∀ a, y = some a → x = some a) : x = y := by
  cases hx : x with
  | some a => exact (h a hx).symm
  | none =>
    cases hy : y with
    | none => rfl
    | some b => have := h' b hy; rw [hx] at this; cases this

theorem fix_pure {C : Cfg} {f : FuncId} {fn : Func} {c : Code} {ds : List DV} (hp : C.prim f = none) (hf : C.P.funcs[f]? = some fn) (hb : fn.body = some c) :
    (run C).p f ds = evP C (run C) (C.fl f) (retP C.P fn) [] c (initSt fn (ds.map fun d => (d, .val)) []) := by
  rw [evP_nil]
  have e : (stepOrc C (run C)).p f ds = evK C (run C) (C.fl f) c (retP C.P fn) (initSt fn (ds.map fun d => (d, .val)) []) := by simp only [stepOrc, evBody, hp, hf, hb, ob_mk]
  rw [← e]
  exact eq_of_le (fun a h => run_fix.p _ _ _ h) (fun a h => run_step.p _ _ _ h)

theorem fix_cut {C : Cfg} {f : FuncId} {fn : Func} {c : Code} {p : Cut} {ds : List DV} (hp : C.prim f = some p) (hf : C.P.funcs[f]? = some fn) (hb : fn.body = some c) :
    (run C).p f ds = evP C (run C) (C.fl f) (cutK C (run C) (C.fl f) p (retP C.P fn)) [] (seqs p.pre .skip) (initSt fn (ds.map fun d => (d, .val)) []) := by
  rw [evP_nil]
  have e : (stepOrc C (run C)).p f ds = evK C (run C) (C.fl f) (seqs p.pre .skip) (cutK C (run C) (C.fl f) p (retP C.P fn)) (initSt fn (ds.map fun d => (d, .val)) []) := by simp only [stepOrc, evBody, hp, hf, hb, ob_mk]
  rw [← e]
  exact eq_of_le (fun a h => run_fix.p _ _ _ h) (fun a h => run_step.p _ _ _ h)

theorem fix_raw {C : Cfg} {f : FuncId} {fn : Func} {c : Code} {s : Sig} {rs : List (DV × Meta)} {sg : List SObj} (hs : C.sig f = some s) (hf : C.P.funcs[f]? = some fn) (hb : fn.body = some c) :
    (run C).r f rs sg = evP C (run C) (C.fl f) (retR C.P fn s) [] c (initSt fn rs sg) := by
  rw [evP_nil]
  have e : (stepOrc C (run C)).r f rs sg = evK C (run C) (C.fl f) c (retR C.P fn s) (initSt fn rs sg) := by simp only [stepOrc, hs, hf, hb, ob_mk]
  rw [← e]
  exact eq_of_le (fun a h => run_fix.r _ _ _ _ h) (fun a h => run_step.r _ _ _ _ h)

/-! ### Closed data, by rewriting: what is asked first -/
theorem ob_cg {α β : Type} {x y : Option α} (h : x = y) (f : α → Option β) : ob x f = ob y f := by rw [h]
theorem og_cg {β : Type} {x y : Bool} (h : x = y) (f : Option β) : og x f = og y f := by rw [h]
theorem oif_cg {β : Type} {x y : DV} (h : x = y) (a b : Option β) : oif x a b = oif y a b := by rw [h]
theorem ogd_cg {β : Type} {x y : DV} (h : x = y) (a b c : Option β) : ogd x a b c = ogd y a b c := by rw [h]
theorem oif_t {β : Type} (x y : Option β) : oif (.bool true) x y = x := rfl
theorem oif_f {β : Type} (x y : Option β) : oif (.bool false) x y = y := rfl
theorem ogd_t {β : Type} (x y z : Option β) : ogd (.bool true) x y z = x := rfl
theorem ogd_f {β : Type} (x y z : Option β) : ogd (.bool false) x y z = y := rfl

noncomputable def flatDL (sz kf : Nat) : List DV → Option (List DV) := flatL fun d => match d with
  | .agg cs => flatD sz kf cs
  | _ => none
theorem flatD_agg {sz kf : Nat} {cs ds l : List DV} (h : cs.length = sz) (hk : cs.getD kf .undef = .list sz ds) (hl : ds.length ≤ lim) (hs : flatDL sz kf ds = some l) : flatD sz kf cs = some (.agg cs :: l) := by
  have key : ∀ (ds l : List DV), flatDL sz kf ds = some l → ∃ n, flatL (flatN sz kf n) ds = some l := by
    intro ds
    induction ds with
    | nil => intro l h; exact ⟨0, h⟩
    | cons d ds ih =>
      intro l h
      simp only [flatDL, flatL] at h
      obtain ⟨a, h1, h5⟩ := ob_some h
      obtain ⟨b, h2, h6⟩ := ob_some h5
      obtain ⟨m, hm⟩ := ih b h2
      cases d with
      | agg cs =>
        simp only at h1
        obtain ⟨n, hn⟩ := flatD_some h1
        refine ⟨n + m, ?_⟩
        simp only [flatL, flatN_le (Nat.le_add_right n m) hn, flatL_mono (fun d l h => flatN_le (Nat.le_add_left m n) h) hm, ob_mk]
        exact h6
      | _ => simp at h1
  obtain ⟨n, hn⟩ := key ds l hs
  refine flatD_of (n := n + 1) ?_
  rw [flatN, hk]
  simp only [h, beq_self_eq_true, Bool.true_and, decide_eq_true hl, hn, ob_mk, og_mk]
theorem flatDL_nil (sz kf : Nat) : flatDL sz kf [] = some [] := rfl
theorem flatDL_cons (sz kf : Nat) (cs : List DV) (ds : List DV) : flatDL sz kf (.agg cs :: ds) = ob (flatD sz kf cs) fun a => ob (flatDL sz kf ds) fun b => some (a ++ b) := rfl

/-- The kids of a tree. -/
noncomputable def flatK (sz kf : Nat) (cs : List DV) : DV → Option (List DV)
  | .list s ds => og (s == sz && decide (ds.length ≤ lim)) (ob (flatDL sz kf ds) fun l => some (.agg cs :: l))
  | _ => none

theorem flatN_DL {sz kf n : Nat} : ∀ {ds l : List DV}, flatL (flatN sz kf n) ds = some l → flatDL sz kf ds = some l := by
  intro ds
  induction ds with
  | nil => intro l h; exact h
  | cons d ds ih =>
    intro l h
    simp only [flatL] at h
    obtain ⟨a, h1, h2⟩ := ob_some h
    obtain ⟨b, h3, h4⟩ := ob_some h2
    cases d with
    | agg cs =>
      rw [flatDL_cons, flatD_of h1, ih h3]
      exact h4
    | _ => cases n <;> simp [flatN] at h1

theorem flatD_eq (sz kf : Nat) (cs : List DV) : flatD sz kf cs = og (cs.length == sz) (flatK sz kf cs (cs.getD kf .undef)) := by
  refine eq_of_le (fun l h => ?_) fun l h => ?_
  · obtain ⟨n, hn⟩ := flatD_some h
    cases n with
    | zero => simp [flatN] at hn
    | succ n =>
      rw [flatN] at hn
      obtain ⟨h1, hn⟩ := og_some hn
      rw [h1]
      cases hk : cs.getD kf .undef with
      | list s ds =>
        rw [hk] at hn
        simp only at hn
        obtain ⟨h2, hn⟩ := og_some hn
        obtain ⟨a, h3, h4⟩ := ob_some hn
        simp only [flatK, h2, og_mk, flatN_DL h3, ob_mk]
        exact h4
      | _ => rw [hk] at hn; simp at hn
  · obtain ⟨h1, h⟩ := og_some h
    cases hk : cs.getD kf .undef with
    | list s ds =>
      rw [hk] at h
      simp only [flatK] at h
      obtain ⟨h2, h⟩ := og_some h
      obtain ⟨a, h3, h4⟩ := ob_some h
      simp only [Bool.and_eq_true, decide_eq_true_eq, beq_iff_eq] at h2 h1
      obtain ⟨rfl, h2⟩ := h2
      simp only [Option.some.injEq] at h4
      rw [← h4]
      exact flatD_agg h1 hk h2 h3
    | _ => rw [hk] at h; simp [flatK] at h

end Go.Su

/-
  THE DATA MACHINE, part 36: a map's keys, collected by a loop and sorted.
-/
namespace Go.Su
open Go.Sort

def mkeyB : DV → List UInt8
  | .str s => s.data.toList
  | _ => []

def strD (l : List UInt8) : DV := .str ⟨l.toArray⟩

def sortB (l : List (List UInt8)) : List (List UInt8) := l.mergeSort fun x y => decide (x ≤ y)

/-- The keys of a map, rising. -/
def sortKeys (es : List (DV × DV)) : DV := .list 1 ((sortB (es.map fun e => mkeyB e.1)).map strD)

def blank (n k : Nat) : St := { tm := List.replicate n .undef, mt := List.replicate n .val, bx := List.replicate n none, sg := List.replicate k (.arr 1 []) }

/-- What an operation is besides what it does. -/
structure OpR where
  type : TypeId
  pos : String
  after : Array Edge

def OpR.mk' (r : OpR) (dst : Option Nat) (op : Op) : Oper := ⟨dst, op, r.type, r.pos, r.after, none⟩

structure KP where
  pre6 : List Oper
  rRange : OpR
  rNext : OpR
  rExt : OpR
  rEntry : OpR
  rExt2 : OpR
  rAsg : OpR
  rMv : OpR
  rMv2 : OpR
  rBs : OpR
  rApp : OpR
  rAsg2 : OpR
  rMv3 : OpR
  rCall : OpR
  i6 : Nat
  b0 : Nat
  i7 : Nat
  b1 : Nat
  i8 : Nat
  i9 : Nat
  i10 : Nat
  it : Nat
  mm : Nat
  t21 : Nat
  t22 : Nat
  t23 : Nat
  t24 : Nat
  tk : Nat
  t25 : Nat
  t26 : Nat
  t27 : Nat
  t28 : Nat
  tl : Nat
  t29 : Nat
  t30 : Nat
  tm : TypeId
  ts : TypeId
  te : TypeId
  kt : TypeId
  vt : TypeId
  f : FuncId

def KP.code (q : KP) (post : Code) : Code :=
  .seq (.seq (.region q.i6 (q.pre6 ++ [q.rRange.mk' (some q.it) (.range q.tm (.tmp q.mm))]).toArray false)
      (.block q.b0 (.loop (.seq (.region q.i7 #[q.rNext.mk' (some q.t21) (.next (.tmp q.it) false), q.rExt.mk' (some q.t22) (.extract (.tmp q.t21) 0)] false)
        (.seq (.cond (.tmp q.t22) .skip (.exit q.b0))
          (.block q.b1 (.seq (.region q.i8 #[q.rEntry.mk' (some q.t23) (.entry (.tmp q.it)), q.rExt2.mk' (some q.t24) (.extract (.tmp q.t23) 0), q.rAsg.mk' (some q.tk) (.assign (.tmp q.t24))] false)
            (.region q.i9 #[q.rMv.mk' (some q.t25) (.move (.tmp q.tl)), q.rMv2.mk' (some q.t26) (.move (.tmp q.tk)), q.rBs.mk' (some q.t27) (.buildSlice q.ts 1 #[(0, .tmp q.t26)]),
              q.rApp.mk' (some q.t28) (.call { callee := .builtin .append, args := #[.tmp q.t25, .tmp q.t27], argTypes := #[q.ts, q.ts] }), q.rAsg2.mk' (some q.tl) (.assign (.tmp q.t28))] false))))))))
    (.seq (.region q.i10 #[q.rMv3.mk' (some q.t29) (.move (.tmp q.tl)), q.rCall.mk' (some q.t30) (.call { callee := .value (.func q.f), args := #[.tmp q.t29], argTypes := #[q.ts] })] false) post)

/-- A setting in which nothing can be called. -/
def dumC (P : Program) : Cfg := { P := P, fl := fun _ => {}, sig := fun _ => none, prim := fun _ => none, clone := fun _ => false, csz := fun _ => 0 }
def dumR : Orc := { p := fun _ _ => none, r := fun _ _ _ => none }

theorem dum_ok (P : Program) : OrcOk (dumC P) dumR := ⟨fun _ _ _ h => by simp [dumR] at h, fun _ _ _ _ h => by simp [dumR] at h, fun _ h => by simp [dumC] at h, fun _ _ h => by simp [dumC] at h, fun _ _ h => by simp [dumC] at h⟩

def isNilSl : DV × Meta → Bool
  | (.list _ [], .full) => true
  | _ => false

def KP.regs (q : KP) : List Nat := [q.it, q.t21, q.t22, q.t23, q.t24, q.tk, q.t25, q.t26, q.t27, q.t28, q.tl, q.t29, q.t30]

def mapIx : Meta → Option Nat
  | .map i => some i
  | _ => none

/-- The operations ahead: none of them is guarded. -/
def evPre {X : Type} (C : Cfg) (R : Orc) : List Oper → St → (St → Option X) → Option X
  | [], st, k => k st
  | o :: os, st, k =>
    match o.guard with
    | none => evOp C R {} o st fun st => evPre C R os st k
    | some _ => none

def KP.midK {X : Type} (P : Program) (q : KP) (st : St) (k : St → Option X) : Option X :=
  evPre (dumC P) dumR q.pre6 st fun st1 =>
    ob (mapIx (st1.get q.mm).2) fun i => ob (sgMap st1.sg i) fun p => og (p.1 && isNilSl (st1.get q.tl) && q.regs.all (fun t => decide (t < st1.tm.length)))
      (if p.2.length ≤ lim then k ((blank st1.tm.length st1.sg.length).put (some q.tl) (sortKeys p.2) .val) else none)

def KP.mid (P : Program) (q : KP) (st : St) : Option St := q.midK P st some

theorem evOp_ob {X Y : Type} {C : Cfg} {R : Orc} {fl : Flags} {o : Oper} {st : St} (f : St → Option X) (k : X → Option Y) : evOp C R fl o st (fun s => ob (f s) k) = ob (evOp C R fl o st f) k := by
  cases h : evOp C R fl o st f with
  | some y =>
    obtain ⟨s, h1, h2⟩ := evOp_nat h
    rw [h2, h1]
  | none =>
    cases h' : evOp C R fl o st (fun s => ob (f s) k) with
    | none => rfl
    | some x =>
      obtain ⟨s, h1, h2⟩ := evOp_nat h'
      rw [h2 _ f] at h
      rw [h] at h1
      exact h1.symm

theorem evPre_ob {X Y : Type} {C : Cfg} {R : Orc} (f : St → Option X) (k : X → Option Y) : ∀ (os : List Oper) (st : St), evPre C R os st (fun s => ob (f s) k) = ob (evPre C R os st f) k
  | [], st => rfl
  | o :: os, st => by
    simp only [evPre]
    cases o.guard with
    | none =>
      simp only
      rw [← evOp_ob]
      congr 1
      funext s
      exact evPre_ob f k os s
    | some g => rfl

theorem evPre_ops {X : Type} {C : Cfg} {R : Orc} {ops : List Oper} {k : St → Option X} {x : X} : ∀ {os : List Oper} {st : St}, evPre C R os st k = some x → evOps C R {} ops os st k = some x
  | [], st, H => H
  | o :: os, st, H => by
    simp only [evPre] at H
    simp only [evOps, forceSt_eq]
    cases hg : o.guard with
    | none =>
      rw [hg] at H
      simp only at H ⊢
      obtain ⟨s, h1, h2⟩ := evOp_nat H
      rw [h2]
      exact evPre_ops h1
    | some g => rw [hg] at H; cases H

theorem ob_ob {X Y Z : Type} (x : Option X) (f : X → Option Y) (g : Y → Option Z) : ob (ob x f) g = ob x fun a => ob (f a) g := by cases x <;> rfl
theorem ob_og {X Y : Type} (b : Bool) (x : Option X) (g : X → Option Y) : ob (og b x) g = og b (ob x g) := by cases b <;> rfl

theorem midK_eq {X : Type} (P : Program) (q : KP) (st : St) (k : St → Option X) : q.midK P st k = ob (q.mid P st) k := by
  unfold KP.mid KP.midK
  rw [← evPre_ob]
  congr 1
  funext s
  rw [ob_ob]
  congr 1
  funext i
  rw [ob_ob]
  congr 1
  funext p
  rw [ob_og]
  congr 1
  split <;> rfl

/-- Behind the code that comes ahead, for the generator's equations. -/
noncomputable def keyK {X : Type} (C : Cfg) (R : Orc) (fl : Flags) (q : KP) (post : Code) (K : Out → St → Option X) : Out → St → Option X
  | .normal, st => q.midK C.P st fun st => evK C R fl post K (clean fl post st)
  | .exit _, _ => none
  | .ret, st => K .ret st

theorem keyK_eq {X : Type} {C : Cfg} {R : Orc} {fl : Flags} {q : KP} {p : Cut} {K : Out → St → Option X} (h : p.mid = q.mid C.P) : cutK C R fl p K = keyK C R fl q p.post K := by
  funext o st
  cases o with
  | normal => simp only [cutK, keyK, midK_eq, h]
  | exit i => rfl
  | ret => rfl

structure KP.Ok (P : Program) (q : KP) : Prop where
  nodup : q.regs.Nodup
  hm : P.underlying q.tm = some (.map q.kt q.vt)
  hs : P.underlying q.ts = some (.slice q.te)
  info : ∃ i z, P.info? q.te = some i ∧ i.zero = some z ∧ z.cells.size = 1 ∧ i.size = 1 ∧ i.bytes = 16
  go : isGo P q.f = true
  sort : ∀ (blk off cap : Nat) (ss : List (List UInt8)) (w : World), Holds Go.Proofs.encStr w blk off ss.toArray → blk < w.heap.size → ss.length < 4611686018427387904 →
    Calls P q.f #[.slice (some ⟨blk, off, none⟩) ss.length cap] w fun e w' => e = .returned (.tuple #[]) ∧ ∃ n os, w' = grow (putRow Go.Proofs.encStr (Sort.ahead w n) blk off (ss.mergeSort fun x y => decide (x ≤ y)).toArray) os
  sort0 : ∀ (p : Option Addr) (cap : Nat) (w : World), Calls P q.f #[.slice p 0 cap] w fun e w' => e = .returned (.tuple #[]) ∧ w' = w

/-! ### Registers by hand -/
theorem eval_same {a : Act} {t : Nat} {v : Value} (h : t < a.tmps.size) : (a.put (some t) v).eval (.tmp t) = v := by
  simp [Act.put, Act.eval, Array.getD_eq_getD_getElem?, Array.getElem?_setIfInBounds_self_of_lt h]

theorem eval_other {a : Act} {t u : Nat} {v : Value} (h : t ≠ u) : (a.put (some t) v).eval (.tmp u) = a.eval (.tmp u) := by
  simp [Act.put, Act.eval, Array.getD_eq_getD_getElem?, Array.getElem?_setIfInBounds_ne h]

theorem put_size {a : Act} {t : Nat} {v : Value} : (a.put (some t) v).tmps.size = a.tmps.size := by simp [Act.put]
theorem put_defers {a : Act} {t : Nat} {v : Value} : (a.put (some t) v).defers = a.defers := rfl

section
variable {P : Program} {n : Nat} {ops : Array Oper} {Q : Exit → Act → World → Prop} {a : Act} {w w' : World} {o : Oper} {rest : List Oper} {v : Value}

theorem step_value (hg : o.guard = none) (hd : ∀ c, o.op ≠ .defer c) (hr : (execOp a.eval o).run P w = .ok (.value v) w') (hk : wpListIn (rnd none) n P ops Q rest (a.put o.dst v) w') : wpListIn (rnd none) n P ops Q (o :: rest) a w :=
  wpListIn_plain hg fun K hK => Gp.wpIn hd (wp_value hr (hK _ _ hk))

theorem step_move {r : OpR} {t u : Nat} (hk : wpListIn (rnd none) n P ops Q rest (a.put (some t) (a.eval (.tmp u))) w) : wpListIn (rnd none) n P ops Q (r.mk' (some t) (.move (.tmp u)) :: rest) a w :=
  step_value rfl (fun c h => by cases h) (by simp [OpR.mk', execOp]) hk

theorem step_assign {r : OpR} {t u : Nat} (hk : wpListIn (rnd none) n P ops Q rest (a.put (some t) (a.eval (.tmp u))) w) : wpListIn (rnd none) n P ops Q (r.mk' (some t) (.assign (.tmp u)) :: rest) a w :=
  step_value rfl (fun c h => by cases h) (by simp [OpR.mk', execOp]) hk

theorem step_extract {r : OpR} {t u : Nat} {vs : Array Value} {x : Value} (hv : a.eval (.tmp u) = .tuple vs) (hx : vs[0]? = some x) (hk : wpListIn (rnd none) n P ops Q rest (a.put (some t) x) w) :
    wpListIn (rnd none) n P ops Q (r.mk' (some t) (.extract (.tmp u) 0) :: rest) a w := by
  refine step_value (v := x) rfl (fun c h => by cases h) ?_ hk
  simp [OpR.mk', execOp, hv, Instr.extract, hx]

theorem step_buildOne {r : OpR} {t u : Nat} {ts te : TypeId} {i : TypeInfo} {z : Value} {l : List UInt8} (hs : P.underlying ts = some (.slice te)) (hi : P.info? te = some i) (hz : i.zero = some z) (hz1 : z.cells.size = 1) (hi1 : i.size = 1) (hv : a.eval (.tmp u) = Go.Proofs.encStr l)
    (hk : wpListIn (rnd none) n P ops Q rest (a.put (some t) (.slice (some ⟨w.heap.size, 0, none⟩) 1 1)) (w.alloc (.cells #[Go.Proofs.encStr l] te))) :
    wpListIn (rnd none) n P ops Q (r.mk' (some t) (.buildSlice ts 1 #[(0, .tmp u)]) :: rest) a w := by
  refine step_value (v := .slice (some ⟨w.heap.size, 0, none⟩) 1 1) rfl (fun c h => by cases h) ?_ hk
  simp only [OpR.mk', execOp]
  refine run_v ?_
  obtain ⟨c, hc⟩ : ∃ c, z.cells = #[c] := Array.size_eq_one_iff.1 hz1
  have hf : Instr.fill (fun i => some (i * 1, 1)) ((Array.range (1 * 1)).map (z.cells[· % z.cells.size]!)) [(0, Go.Proofs.encStr l)] = some #[Go.Proofs.encStr l] := by
    have h1 : (Array.range (1 * 1)).map (z.cells[· % z.cells.size]!) = #[c] := by
      apply Array.ext (by simp)
      intro i h1 h2
      have : i = 0 := by simp at h2; omega
      subst this
      simp [hc]
    rw [h1]
    rfl
  unfold Instr.buildSlice
  have hsz : (sizeOf te).run P w = .ok 1 w := by simp [sizeOf, typeInfo, hi, hi1]
  simp only [Sem.run_bind, run_underlying hs, Result.andThen_ok, hsz, Sem.run_ite]
  rw [if_neg (by omega), if_neg (by omega)]
  simp only [zeroValue, typeInfo, Sem.run_bind, run_program, Result.andThen_ok, hi, Sem.run_pure, hz]
  have : (Array.map (fun x => (x.1, a.eval x.2)) #[(0, Operand.tmp u)]).toList = [(0, Go.Proofs.encStr l)] := by simp [hv]
  simp only [this, hf]
  rfl

/-- What the loop has collected. -/
def Row (w : World) (base : Nat) (te : TypeId) (v : Value) (ss : List (List UInt8)) : Prop :=
  (ss = [] ∧ ∃ p, v = .slice p 0 0) ∨ w.ownsRow base te 1 v ss.length (ss.map Go.Proofs.encStr)

theorem append_nil {ts te ty : TypeId} {i : TypeInfo} (hs : P.underlying ts = some (.slice te)) (hi : P.info? te = some i) (hi1 : i.size = 1) (hb : i.bytes = 16) (p : Option Addr) (y : Addr) (w : World) :
    (Builtin.append_ #[ts, ts] ty #[.slice p 0 0, .slice (some y) 1 1]).run P w = (Builtin.append_ #[ts, ts] ty #[.slice none 0 0, .slice (some y) 1 1]).run P w := by
  have hcap : ¬ (281474976710656 < Builtin.nextslicecap 1 0 * 16) := by decide
  cases p with
  | none => rfl
  | some q =>
    have hl : ∀ w', (loadCells q 0).run P w' = .ok #[] w' := fun w' => rfl
    unfold Builtin.append_
    simp [run_underlying hs, sizeOf, typeInfo, hi, hi1, hb, Builtin.lenOf, Builtin.firstCells, hcap, hl]

theorem step_append {r : OpR} {t s x : Nat} {ts te : TypeId} {i : TypeInfo} {z : Value} {base : Nat} {ss : List (List UInt8)} {l : List UInt8} {g : Nat} (hs : P.underlying ts = some (.slice te)) (hi : P.info? te = some i) (hz : i.zero = some z) (hz1 : z.cells.size = 1) (hi1 : i.size = 1) (hb : i.bytes = 16)
    (hrow : Row w base te (a.eval (.tmp s)) ss) (hx : a.eval (.tmp x) = .slice (some ⟨g, 0, none⟩) 1 1) (hg : w.heap[g]? = some (.cells #[Go.Proofs.encStr l] te (0, 0))) (hl : ss.length + 1 ≤ lim) (hbase : base ≤ w.heap.size)
    (hk : ∀ v' w', Row w' base te v' (ss ++ [l]) → (∃ row, w.grownBy w' row ∧ ∀ k, row = some k → base ≤ k ∧ ∃ c T f, w.heap[k]? = some (.cells c T f)) → wpListIn (rnd none) n P ops Q rest (a.put (some t) v') w') :
    wpListIn (rnd none) n P ops Q (r.mk' (some t) (.call { callee := .builtin .append, args := #[.tmp s, .tmp x], argTypes := #[ts, ts] }) :: rest) a w := by
  have hl' : ss.length + 1 ≤ 4294967296 := hl
  have hcell : ∀ (j : Nat) u, [Go.Proofs.encStr l][j]? = some u → w.cell? ((⟨g, 0, none⟩ : Addr).add j) = some u := by
    intro j u hu
    cases j with
    | zero =>
      simp only [List.getElem?_cons_zero, Option.some.injEq] at hu
      subst hu
      simp [World.cell?, Addr.add, hg]
    | succ j => simp at hu
  have fin : ∀ (v0 : Value), w.ownsRow base te 1 v0 ss.length (ss.map Go.Proofs.encStr) → (Builtin.append_ #[ts, ts] r.type #[a.eval (.tmp s), .slice (some ⟨g, 0, none⟩) 1 1]).run P w = (Builtin.append_ #[ts, ts] r.type #[v0, .slice (some ⟨g, 0, none⟩) 1 1]).run P w →
      wpListIn (rnd none) n P ops Q (r.mk' (some t) (.call { callee := .builtin .append, args := #[.tmp s, .tmp x], argTypes := #[ts, ts] }) :: rest) a w := by
    intro v0 hrow he
    obtain ⟨v', w', h1, h2, h3, -⟩ := run_append_own (P := P) w base ts r.type te i z 1 16 hs hi hz hi1 hb hz1 (by omega) v0 _ _ hrow ⟨g, 0, none⟩ 1 1 [Go.Proofs.encStr l] rfl hcell (by simp [Value.oneCell']) (by unfold maxLen; omega) (by omega) hbase
    refine step_value (v := v') (w' := w') rfl (fun c h => by cases h) ?_ (hk v' w' (.inr (by simpa using h2)) ⟨_, h3, fun k hk => ?_⟩)
    · refine call_builtin (C := dumC P) (b := .append) rfl rfl ?_
      simp only [List.map_toArray, List.map_cons, List.map_nil, hx]
      exact run_v (he.trans h1)
    · rcases hrow.2 with ⟨rfl, _⟩ | ⟨g', cap, cur, rfl, e1, e2, -⟩
      · simp [Value.ownBlock] at hk
      · simp only [Value.ownBlock, Option.some.injEq] at hk
        subst hk
        exact ⟨e1, _, _, _, e2⟩
  rcases hrow with ⟨hss, p, hv⟩ | hrow
  · subst hss
    exact fin (.slice none 0 0) ⟨rfl, .inl ⟨rfl, rfl⟩⟩ (by rw [hv]; exact append_nil hs hi hi1 hb _ _ _)
  · exact fin _ hrow rfl
end

section
variable {C : Cfg} {R : Orc} {X : Type} {fl : Flags} {Q : Exit → Act → World → Prop} {ops : List Oper}

theorem sim_pre {k : St → Option X} {x : X} {ro : Option Nat} {n : Nat} {rest : List Nat} (hO : OrcOk C R) : ∀ {os : List Oper} {i : Nat} {st : St} {E : Env} {a : Act} {w : World}, (∀ (j : Nat) o, os[j]? = some o → ops[i + j]? = some o) → evOps C R fl ops os st k = some x → Rel E st a w.heap →
    (∀ E' t a' w', k t = some x → a'.defers = a.defers → Rel E' t a' w'.heap → Pr Ours E w.heap E' w'.heap → Outer w w' → wpOpsIn (rnd ro) n C.P ops.toArray Q rest a' w') → wpOpsIn (rnd ro) n C.P ops.toArray Q (List.range' i os.length ++ rest) a w
  | [], i, st, E, a, w, _, H, Rl, T => T E st a w H rfl Rl (Pr.refl _ _ _) (Outer.refl _)
  | o :: os, i, st, E, a, w, hs, H, Rl, T => by
    obtain ⟨s1, h1, h2⟩ := evOps_step H
    have hs' : ∀ (j : Nat) o, os[j]? = some o → ops[i + 1 + j]? = some o := fun j o ho => by
      rw [show i + 1 + j = i + (j + 1) by omega]
      exact hs (j + 1) o (by simpa using ho)
    simp only [List.length_cons, List.range'_succ, List.cons_append]
    rw [wpOpsIn_cons]
    refine sim_G hO (by simpa using hs 0 o rfl) h1 Rl fun E' a' w' D1 R1 P1 O1 => ?_
    exact sim_pre hO hs' h2 R1 fun E2 t a2 w2 k1 k0 k2 k3 k4 => T E2 t a2 w2 k1 (k0.trans D1) k2 (P1.trans k3) (O1.trans k4)

end

/-! ### The walk -/
def keyV (e : MapEntry) : List UInt8 :=
  match e.key with
  | .string s => s.data.toList
  | _ => []

/-- Where the loop is. -/
structure Und (q : KP) (a1 : Act) (w1 : World) (ens : Array MapEntry) (clk bm : Nat) (m : Nat) (got : List MapEntry) (a : Act) (w : World) : Prop where
  size : a.tmps.size = a1.tmps.size
  defers : a.defers = a1.defers
  it : a.eval (.tmp q.it) = .pointer (some ⟨w1.heap.size, 0, none⟩)
  row : Row w w1.heap.size q.te (a.eval (.tmp q.tl)) (got.map keyV)
  iter : w.heap[w1.heap.size]? = some (.mapIter (some bm) clk (got.map (·.born)).toArray clk)
  mem : ∀ e ∈ got, e ∈ ens.toList
  nodup : (got.map (·.born)).Nodup
  len : (leftOf ens (got.map (·.born)).toArray).size ≤ m
  grown : w1.grownBy w none

theorem grown_row {w0 w w' : World} {row : Option Nat} (h : w0.grownBy w none) (g : w.grownBy w' row) (hb : ∀ k, row = some k → w0.heap.size ≤ k) : w0.grownBy w' none := by
  refine ⟨g.os.trans h.os, g.tape.trans h.tape, g.output.trans h.output, Nat.le_trans h.size g.size, fun k hk _ => ?_⟩
  have h1 := h.block k hk (by simp)
  rw [← h1]
  refine g.block k (Nat.lt_of_lt_of_le hk h.size) fun he => ?_
  have := hb k he.symm
  omega

theorem grown_heap {w w' : World} (h : w'.heap = w.heap) (o : Outer w w') : w.grownBy w' none := ⟨o.os, o.tape, o.output, by rw [h]; exact Nat.le_refl _, fun k _ _ => by rw [h]⟩

theorem grown_set {w : World} {b : Nat} {o : Obj} {w0 : World} (h : w0.grownBy w none) (hb : w0.heap.size ≤ b) : w0.grownBy (Go.ChangeMaps.setBlock w b o) none :=
  ⟨h.os, h.tape, h.output, by simpa [Go.ChangeMaps.setBlock] using h.size, fun k hk _ => by
    simp only [Go.ChangeMaps.setBlock]
    rw [Array.getElem?_setIfInBounds_ne (by omega)]
    exact h.block k hk (by simp)⟩

theorem Row.kept {w w' : World} {base : Nat} {te : TypeId} {v : Value} {ss : List (List UInt8)} (h : Row w base te v ss) (hk : ∀ (b : Nat) c T f, w.heap[b]? = some (Obj.cells c T f) → w'.heap[b]? = some (Obj.cells c T f)) : Row w' base te v ss := by
  rcases h with h | ⟨h1, h2⟩
  · exact .inl h
  · refine .inr ⟨h1, ?_⟩
    rcases h2 with h2 | ⟨g, cap, cur, e1, e2, e3, e4⟩
    · exact .inl h2
    · exact .inr ⟨g, cap, cur, e1, e2, hk _ _ _ _ e3, e4⟩

theorem nodup_of_map {α β : Type} (f : α → β) {l : List α} (h : (l.map f).Nodup) : l.Nodup := List.Pairwise.of_map f (fun a b hn he => hn (by rw [he])) h

theorem len_of_subset {α : Type} [DecidableEq α] : ∀ {l m : List α}, l.Nodup → (∀ x ∈ l, x ∈ m) → l.length ≤ m.length
  | [], m, _, _ => Nat.zero_le _
  | a :: l, m, hn, hs => by
    obtain ⟨h1, h2⟩ := List.nodup_cons.1 hn
    have h3 := len_of_subset (m := m.erase a) h2 fun x hx => (List.mem_erase_of_ne (fun h : x = a => h1 (by rw [← h]; exact hx))).2 (hs x (List.mem_cons_of_mem _ hx))
    have h4 := hs a (List.mem_cons_self ..)
    have h5 := List.length_pos_of_mem h4
    rw [List.length_erase_of_mem h4] at h3
    simp only [List.length_cons]
    omega

theorem left_less {es : Array MapEntry} {l : List Nat} {e : MapEntry} (he : e ∈ (leftOf es l.toArray).toList) : (leftOf es (l ++ [e.born]).toArray).size < (leftOf es l.toArray).size := by
  unfold leftOf at he ⊢
  rw [Array.toList_filter] at he
  have hsz : ∀ p : MapEntry → Bool, (es.filter p).size = (es.toList.filter p).length := fun p => by rw [← Array.toList_filter, Array.length_toList]
  rw [hsz, hsz]
  have h1 : es.toList.filter (fun x => !(l ++ [e.born]).toArray.contains x.born) = (es.toList.filter fun x => !l.toArray.contains x.born).filter fun x => x.born != e.born := by
    rw [List.filter_filter]
    refine List.filter_congr fun x _ => ?_
    simp only [List.contains_toArray, List.contains_append, Bool.not_or]
    rw [Bool.and_comm]
    congr 1
    by_cases h : x.born = e.born <;> simp [h]
  rw [h1]
  refine Nat.lt_of_not_le fun hle => ?_
  have h2 := List.length_filter_le (fun x : MapEntry => x.born != e.born) (es.toList.filter fun x => !l.toArray.contains x.born)
  have h3 := List.length_filter_eq_length_iff.1 (Nat.le_antisymm h2 hle) e he
  simp at h3

set_option maxHeartbeats 2000000 in
theorem keys_ok {P : Program} {q : KP} (ok : q.Ok P) {post : Code} {n : Nat} {E : Env} {st st2 : St} {a : Act} {w : World} {Q : Exit → Act → World → Prop} (Rl : Rel E st a w.heap) (H : q.mid P st = some st2)
    (K : ∀ E' a' w', a'.defers = a.defers → Rel E' st2 a' w'.heap → Pr Ours E w.heap E' w'.heap → Outer w w' → post.wpIn (rnd none) n P Q a' w') : (q.code post).wpIn (rnd none) n P Q a w := by
  unfold KP.mid KP.midK at H
  refine wpIn_seq (wpIn_seq (wpIn_region ?_))
  have hr : List.range (q.pre6 ++ [q.rRange.mk' (some q.it) (.range q.tm (.tmp q.mm))]).toArray.size = List.range' 0 q.pre6.length ++ [q.pre6.length] := by
    simp [List.range_succ, List.range_eq_range']
  rw [hr]
  refine sim_pre (C := dumC P) (R := dumR) (ops := q.pre6 ++ [q.rRange.mk' (some q.it) (.range q.tm (.tmp q.mm))]) (dum_ok P) (fun j o ho => ?_) (evPre_ops H) Rl fun E1 st1 a1 w1 h1 d1 R1 P1 O1 => ?_
  · rw [Nat.zero_add, List.getElem?_append_left (List.getElem?_eq_some_iff.1 ho).1]
    exact ho
  obtain ⟨i, hi, h1⟩ := ob_some h1
  obtain ⟨p, hp, h1⟩ := ob_some h1
  obtain ⟨hc, h1⟩ := og_some h1
  obtain ⟨hlim, h1⟩ := ite_some h1
  simp only [Option.some.injEq] at h1
  subst h1
  simp only [Bool.and_eq_true] at hc
  obtain ⟨⟨hks, hnil⟩, hregs⟩ := hc
  have hreg : ∀ t ∈ q.regs, t < a1.tmps.size := fun t ht => by
    have := List.all_eq_true.1 hregs t ht
    rw [R1.size]
    simpa using this
  -- the map
  have em := R1.src (P := P) (t := 0) (x := .tmp q.mm) rfl
  have hmm : (st1.get q.mm).2 = .map i := by
    revert hi
    cases (st1.get q.mm).2 <;> simp [mapIx]
  rw [hmm] at em
  simp only [RR, RM1] at em
  obtain ⟨hin, em⟩ := em
  have hsg : st1.sg[i]? = some (.map p.1 p.2) := by
    unfold sgMap at hp
    split at hp
    · rename_i h; simp only [Option.some.injEq] at hp; subst hp; exact h
    · cases hp
  have hRO := R1.objs i _ hsg
  simp only [RO] at hRO
  obtain ⟨ens, clk, b1, b2, ⟨b3, b4⟩, b5, b6⟩ := hRO
  -- the slice that is nil
  have el := R1.src (P := P) (t := 0) (x := .tmp q.tl) rfl
  have hv0 : ∃ p, a1.eval (.tmp q.tl) = .slice p 0 0 := by
    revert el hnil
    cases (st1.get q.tl) with
    | mk d m =>
      intro hnil el
      unfold isNilSl at hnil
      split at hnil
      · rename_i sz heq
        simp only [Prod.mk.injEq] at heq
        obtain ⟨rfl, rfl⟩ := heq
        simp only [RR, RM1, RV, RC] at el
        obtain ⟨⟨a0, len, cap, h1, h2, -⟩, ⟨a1', n1, h3⟩, -⟩ := el
        simp only [List.cons.injEq, and_true] at h1
        rw [h1] at h3
        simp only [Value.slice.injEq] at h3
        obtain ⟨-, rfl, rfl⟩ := h3
        simp only [List.length_nil] at h2
        subst h2
        exact ⟨a0, h1⟩
      · cases hnil
  obtain ⟨inf, z, t1, t2, t3, t4, t5⟩ := ok.info
  -- keys
  have hkey : ∀ (j : Nat) e, ens[j]? = some e → ∃ d, p.2[j]? = some d ∧ e.key = Go.Proofs.encStr (keyV e) ∧ keyV e = mkeyB d.1 := by
    intro j e he
    have hj : j < p.2.length := by rw [b3]; exact (Array.getElem?_eq_some_iff.1 he).1
    obtain ⟨c1, c2, -⟩ := b4 j p.2[j] e (List.getElem?_eq_getElem hj) he
    refine ⟨_, List.getElem?_eq_getElem hj, ?_⟩
    rw [hks] at c1
    revert c1 c2
    cases p.2[j].1 <;> simp only [isKey, RV, Bool.not_true, Bool.false_and, Bool.false_eq_true, false_implies, imp_false] <;> try (intro h; cases h)
    rename_i s
    all_goals (intro hk; simp [keyV, mkeyB, hk, Go.Proofs.encStr])
  have hkey' : ∀ e ∈ ens.toList, e.key = Go.Proofs.encStr (keyV e) := fun e he => by
    obtain ⟨j, hj, hje⟩ := List.mem_iff_getElem.1 he
    obtain ⟨_, _, h, _⟩ := hkey j e (by rw [Array.getElem?_eq_getElem (by simpa using hj)]; simpa using hje)
    exact h
  have hkeys : ens.toList.map keyV = p.2.map fun e => mkeyB e.1 := by
    apply List.ext_getElem?
    intro j
    simp only [List.getElem?_map, Array.getElem?_toList]
    cases he : ens[j]? with
    | none =>
      have : p.2[j]? = none := by
        rw [List.getElem?_eq_none_iff, b3]
        exact Array.getElem?_eq_none_iff.1 he
      rw [this]; rfl
    | some e =>
      obtain ⟨d, h1, -, h2⟩ := hkey j e he
      rw [h1]
      simp [h2]
  have hborn : (ens.toList.map (·.born)).Nodup := by
    rw [List.nodup_iff_pairwise_ne, List.pairwise_iff_getElem]
    intro i j hi hj hij he
    simp only [List.length_map] at hi hj
    simp only [List.getElem_map] at he
    have := b6 i j _ _ (by rw [← Array.getElem?_toList]; exact List.getElem?_eq_getElem hi) (by rw [← Array.getElem?_toList]; exact List.getElem?_eq_getElem hj) he
    omega
  have hmemborn : ∀ x ∈ ens.toList, ∀ y ∈ ens.toList, x.born = y.born → x = y := by
    intro x hx y hy he
    obtain ⟨i, hi, rfl⟩ := List.mem_iff_getElem.1 hx
    obtain ⟨j, hj, rfl⟩ := List.mem_iff_getElem.1 hy
    have := b6 i j _ _ (by rw [← Array.getElem?_toList]; exact List.getElem?_eq_getElem hi) (by rw [← Array.getElem?_toList]; exact List.getElem?_eq_getElem hj) he
    subst this
    rfl
  have hbm : E1.obj i < w1.heap.size := (Array.getElem?_eq_some_iff.1 b1).1
  have hens : ens.size ≤ lim := by rw [← b3]; exact hlim
  -- the iterator is laid
  rw [wpOpsIn_cons]
  unfold wpOpIn
  have ho : (q.pre6 ++ [q.rRange.mk' (some q.it) (.range q.tm (.tmp q.mm))]).toArray[q.pre6.length]? = some (q.rRange.mk' (some q.it) (.range q.tm (.tmp q.mm))) := by simp
  simp only [ho]
  rw [if_pos (by simp [Region.wanted, OpR.mk'])]
  refine Gp.wpIn (fun c h => by cases h) (wp_value (v := .pointer (some ⟨w1.heap.size, 0, none⟩)) (w' := w1.alloc (.mapIter (some (E1.obj i)) clk #[] clk)) ?_ ?_)
  · simp only [OpR.mk', execOp]
    refine run_v ?_
    rw [em]
    exact run_range_map w1 _ _ _ _ _ _ ok.hm b1
  show Code.wpIn _ _ _ _ _ _ _
  have hn := ok.nodup
  simp only [KP.regs, List.nodup_cons, List.mem_cons, List.not_mem_nil, or_false, not_or, List.nodup_nil, and_true] at hn
  obtain ⟨⟨n1, n2, n3, n4, n5, n6, n7, n8, n9, n10, n11, n12⟩, ⟨-, m2, m3, m4, m5, m6, m7, m8, m9, m10, m11⟩, ⟨l1, l2, l3, l4, l5, l6, l7, l8, l9, l10⟩, ⟨k1, k2, k3, k4, k5, k6, k7, k8, k9⟩, ⟨-, j2, j3, j4, j5, j6, j7, j8⟩, ⟨i1, i2, i3, i4, i5, i6, i7⟩, ⟨g1, g2, g3, g4, g5, g6⟩, ⟨-, f2, f3, f4, f5⟩, ⟨-, e2, e3, e4⟩, ⟨d1', d2, d3⟩, ⟨c1, c2⟩, _⟩ := hn
  have regs_tl := hreg q.tl (by simp [KP.regs])
  have regs_it := hreg q.it (by simp [KP.regs])
  have regs_21 := hreg q.t21 (by simp [KP.regs])
  have regs_22 := hreg q.t22 (by simp [KP.regs])
  have regs_23 := hreg q.t23 (by simp [KP.regs])
  have regs_24 := hreg q.t24 (by simp [KP.regs])
  have regs_k := hreg q.tk (by simp [KP.regs])
  have regs_25 := hreg q.t25 (by simp [KP.regs])
  have regs_26 := hreg q.t26 (by simp [KP.regs])
  have regs_27 := hreg q.t27 (by simp [KP.regs])
  have regs_28 := hreg q.t28 (by simp [KP.regs])
  have regs_29 := hreg q.t29 (by simp [KP.regs])
  have r21i : q.t21 ≠ q.it := fun h => n1 h.symm
  have r22i : q.t22 ≠ q.it := fun h => n2 h.symm
  have r23i : q.t23 ≠ q.it := fun h => n3 h.symm
  have r24i : q.t24 ≠ q.it := fun h => n4 h.symm
  have rki : q.tk ≠ q.it := fun h => n5 h.symm
  have r25i : q.t25 ≠ q.it := fun h => n6 h.symm
  have r26i : q.t26 ≠ q.it := fun h => n7 h.symm
  have r27i : q.t27 ≠ q.it := fun h => n8 h.symm
  have r28i : q.t28 ≠ q.it := fun h => n9 h.symm
  have rli : q.tl ≠ q.it := fun h => n10 h.symm
  have r25k : q.t25 ≠ q.tk := fun h => i1 h.symm
  have r2625 : q.t26 ≠ q.t25 := fun h => g1 h.symm
  have r2725 : q.t27 ≠ q.t25 := fun h => g2 h.symm
  have r29l : q.t29 ≠ q.tl := fun h => c1 h.symm
  have r30l : q.t30 ≠ q.tl := fun h => c2 h.symm
  -- behind it all
  have done : ∀ (O' : Nat → Nat → Tag) (a3 : Act) (w3 : World) (v : Value), a3.tmps.size = a1.tmps.size → a3.defers = a1.defers → a3.eval (.tmp q.tl) = v → w1.grownBy w3 none → (∀ b o, b < w1.heap.size → O' b o = E1.O b o) →
      (∀ b o, w3.heap.size ≤ b → O' b o = .other) → RV (Env.S { E1 with O := O' }) w3.heap (sortKeys p.2) v → post.wpIn (rnd none) n P Q a3 w3 := by
    intro O' a3 w3 v s1 s2 s3 s4 s5 s6 s7
    have hblk : ∀ b, b < w1.heap.size → w3.heap[b]? = w1.heap[b]? := fun b hb => s4.block b hb (by simp)
    refine K { E1 with O := O' } a3 w3 (s2.trans d1) ⟨?_, ?_, ?_, ?_, fun t u hu => ?_, fun s cs hs => ?_, fun j ob hj => ?_, s6⟩ (P1.trans ⟨s4.size, fun b hb => by rw [hblk b hb]; exact KeepBlk.refl _ _, fun b o hb _ => s5 b o hb, Nat.le_refl _, fun _ _ => ⟨rfl, rfl⟩, fun _ _ => rfl⟩) (O1.trans ⟨s4.os, s4.tape, s4.output⟩)
    · rw [put_tm]; simp [blank, s1, R1.size]
    · rw [put_mt, put_tm]; simp [blank]
    · rw [put_bx, put_tm]; simp [blank]
    · rw [put_sg]; simp only [blank, List.length_replicate]; exact R1.n
    · have hget : ∀ u, (blank st1.tm.length st1.sg.length).get u = (.undef, .val) := fun u => by
        simp only [St.get, blank, List.getD_eq_getElem?_getD, List.getElem?_replicate]
        split <;> rfl
      by_cases ht : q.tl = t
      · subst ht
        rw [put_get_same (by simp [blank]; rw [← R1.size]; exact regs_tl) (by simp [blank])]
        have : u = v := by
          rw [← s3]
          simp [Act.eval, Array.getD_eq_getD_getElem?, hu]
        rw [this]
        exact s7
      · rw [put_get_other ht, hget]
        simp only [RR, RM1, RV]
    · simp only [put_bx, blank, List.getD_eq_getElem?_getD, List.getElem?_replicate] at hs
      split at hs <;> simp at hs
    · simp only [put_sg, blank, List.getElem?_replicate] at hj
      split at hj <;> simp at hj
      subst hj
      simp [RO]
  -- behind the loop
  have fin : ∀ m got a2 w2, Und q a1 w1 ens clk (E1.obj i) m got a2 w2 → (∀ e ∈ ens.toList, e ∈ got) → (Code.seq (.region q.i10 #[q.rMv3.mk' (some q.t29) (.move (.tmp q.tl)), q.rCall.mk' (some q.t30) (.call { callee := .value (.func q.f), args := #[.tmp q.t29], argTypes := #[q.ts] })] false) post).wpIn (rnd none) n P Q a2 w2 := by
    intro m got a2 w2 U hall
    have hperm : got.Perm ens.toList := (List.perm_ext_iff_of_nodup (nodup_of_map _ U.nodup) (nodup_of_map _ hborn)).2 fun e => ⟨U.mem e, hall e⟩
    have hpermK : (got.map keyV).Perm (p.2.map fun e => mkeyB e.1) := by rw [← hkeys]; exact hperm.map _
    have hlen : (got.map keyV).length ≤ lim := by rw [hpermK.length_eq, List.length_map]; exact hlim
    have hlen' : (got.map keyV).length ≤ 4294967296 := hlen
    have hsort : sortKeys p.2 = .list 1 ((sortB (got.map keyV)).map strD) := by
      unfold sortKeys
      rw [show sortB (p.2.map fun e => mkeyB e.1) = sortB (got.map keyV) from mergeSort_of_perm hpermK.symm]
    refine wpIn_seq (wpIn_region_list (show wpListIn _ _ _ _ _ [_, _] _ _ from step_move (wpListIn_plain rfl fun K' hK' => Gp.wpIn (fun c h => by cases h) ?_)))
    have size2 := U.size
    have hrun : (execOp (a2.put (some q.t29) (a2.eval (.tmp q.tl))).eval (q.rCall.mk' (some q.t30) (.call { callee := .value (.func q.f), args := #[.tmp q.t29], argTypes := #[q.ts] }))).run P w2 = .ok (.enter q.f #[a2.eval (.tmp q.tl)]) w2 := by
      have h29 : (a2.put (some q.t29) (a2.eval (.tmp q.tl))).eval (.tmp q.t29) = a2.eval (.tmp q.tl) := eval_same (by rw [size2]; exact regs_29)
      have hf : ∀ a : Act, a.eval (.func q.f) = .func (.func q.f) #[] #[] := fun a => rfl
      simp only [OpR.mk', execOp, resolve, hf, h29, Deferred.ofValue, Sem.run_bind, Sem.run_pure, Result.andThen_ok, invoke, List.map_toArray, List.map_cons, List.map_nil]
      rw [run_callFunc ok.go]
      rfl
    have e3 : ∀ u, (((a2.put (some q.t29) (a2.eval (.tmp q.tl))).put (some q.t30) u).eval (.tmp q.tl)) = a2.eval (.tmp q.tl) := fun u => by
      rw [eval_other r30l, eval_other r29l]
    refine wp_enter (C := dumC P) hrun ?_
    have row := U.row
    -- nothing was collected
    have nil : ∀ p0, got.map keyV = [] → a2.eval (.tmp q.tl) = .slice p0 0 0 → Calls P q.f #[a2.eval (.tmp q.tl)] w2 fun e w' => ∃ v, e = .returned v ∧ K' (((a2.put (some q.t29) (a2.eval (.tmp q.tl)))).put (some q.t30) v) w' := by
      intro p0 h0 hv
      rw [hv]
      refine (ok.sort0 p0 0 w2).mono ?_
      rintro e w' ⟨rfl, rfl⟩
      refine ⟨_, rfl, hK' _ _ ?_⟩
      rw [← hv]
      refine done (fun b o => if b < w1.heap.size then E1.O b o else .other) _ _ _ (by rw [act_put_size, act_put_size, size2]) U.defers (e3 _) U.grown (fun b o hb => if_pos hb) (fun b o hb => if_neg (by have := U.grown.size; omega)) ?_
      rw [hsort, h0, hv, show sortB [] = [] by simp [sortB]]
      exact RV_list_mk rfl (Nat.le_refl _) (fun _ => rfl) (fun h => absurd rfl h) fun x hx => ⟨fun h => absurd h (Nat.lt_irrefl _), by simp only [List.map_nil, RElems]⟩
    rcases row with ⟨h0, p0, hv⟩ | ⟨-, ⟨hv, h0⟩ | ⟨g, cap, cur, hv, hbase, hb, hc1, hc2, hc3, hc4⟩⟩
    · exact nil p0 h0 hv
    · exact nil none (List.eq_nil_of_length_eq_zero h0) hv
    · have hH : Holds Go.Proofs.encStr w2 g 0 (got.map keyV).toArray := Go.holds_of_block hb (by simpa using hc4)
      have hgl : g < w2.heap.size := (Array.getElem?_eq_some_iff.1 hb).1
      show Calls P q.f #[a2.eval (.tmp q.tl)] w2 _
      rw [hv]
      refine (ok.sort g 0 cap (got.map keyV) w2 hH hgl (by omega)).mono ?_
      rintro e w' ⟨rfl, nn, os, rfl⟩
      refine ⟨_, rfl, hK' _ _ ?_⟩
      rw [← hv]
      have hs := Go.heap_sorted (n := nn) (os := os) ((got.map keyV).mergeSort fun x y => decide (x ≤ y)).toArray hb
      have hg := Go.grownBy_sorted (w := w2) (g := g) (n := nn) (os := os) ((got.map keyV).mergeSort fun x y => decide (x ≤ y)).toArray
      refine done (fun b o => if b < w1.heap.size then E1.O b o else if b = g ∧ o < (got.map keyV).length then .shut else .other) _ _ _ (by rw [act_put_size, act_put_size, size2]) U.defers (e3 _) (grown_row U.grown hg fun k hk => by cases hk; exact hbase) (fun b o hb => if_pos hb) (fun b o hb => ?_) ?_
      · have h1 := U.grown.size
        have h2 := hg.size
        rw [if_neg (by omega), if_neg (by omega)]
      · rw [hsort, hv]
        have hl : (sortB (got.map keyV)).length = (got.map keyV).length := (List.mergeSort_perm _ _).length_eq
        refine RV_list_mk ((show ((sortB (got.map keyV)).map strD).length = (sortB (got.map keyV)).length by simp).trans hl).symm hc1 (fun h => by cases h) (fun _ => Nat.one_pos) fun x hx => ?_
        simp only [Option.some.injEq] at hx
        subst hx
        refine ⟨fun _ => rfl, RElems_iff.2 fun j d hd => ?_⟩
        simp only [List.getElem?_map, Option.map_eq_some_iff] at hd
        obtain ⟨l, hl1, rfl⟩ := hd
        refine ⟨[.string ⟨l.toArray⟩], rfl, fun x u hu => ?_, rfl⟩
        have hj : j < (got.map keyV).length := by rw [← hl]; exact (List.getElem?_eq_some_iff.1 hl1).1
        cases x with
        | succ x => simp at hu
        | zero =>
          simp only [List.getElem?_cons_zero, Option.some.injEq] at hu
          subst hu
          constructor
          · have hcs : (got.map keyV).length ≤ cur.size := by rw [hc3]; omega
            have ht := Go.take_putCells cur (sortB (got.map keyV)) (by rw [hl]; exact hcs)
            have h1 : ((putCells Go.Proofs.encStr 0 (sortB (got.map keyV)).toArray cur).toList.take (sortB (got.map keyV)).length)[j]? = ((sortB (got.map keyV)).map Go.Proofs.encStr)[j]? := by rw [ht]
            rw [List.getElem?_take_of_lt (by rw [hl]; exact hj), List.getElem?_map, hl1] at h1
            have h2 : (putCells Go.Proofs.encStr 0 (sortB (got.map keyV)).toArray cur)[j]? = some (Go.Proofs.encStr l) := by simpa using h1
            unfold hc
            rw [hs]
            show (putCells Go.Proofs.encStr 0 (sortB (got.map keyV)).toArray cur)[0 + j * 1 + 0]? = _
            rw [show 0 + j * 1 + 0 = j by omega]
            exact h2
          · simp only [Env.S]
            rw [if_neg (by omega), if_pos (by simp; exact by simpa using hj)]
  refine wpIn_block (wpIn_loop_rounds (ens.size + 1) ?_)
  -- a round
  have round : ∀ (Kn : Act → World → Prop) m got a2 w2, Und q a1 w1 ens clk (E1.obj i) m got a2 w2 → (∀ got' a3 w3, 0 < m → Und q a1 w1 ens clk (E1.obj i) (m - 1) got' a3 w3 → Kn a3 w3) → Code.wpIn (rnd none) n P
      (.seq (.region q.i7 #[q.rNext.mk' (some q.t21) (.next (.tmp q.it) false), q.rExt.mk' (some q.t22) (.extract (.tmp q.t21) 0)] false)
        (.seq (.cond (.tmp q.t22) .skip (.exit q.b0))
          (.block q.b1 (.seq (.region q.i8 #[q.rEntry.mk' (some q.t23) (.entry (.tmp q.it)), q.rExt2.mk' (some q.t24) (.extract (.tmp q.t23) 0), q.rAsg.mk' (some q.tk) (.assign (.tmp q.t24))] false)
            (.region q.i9 #[q.rMv.mk' (some q.t25) (.move (.tmp q.tl)), q.rMv2.mk' (some q.t26) (.move (.tmp q.tk)), q.rBs.mk' (some q.t27) (.buildSlice q.ts 1 #[(0, .tmp q.t26)]),
              q.rApp.mk' (some q.t28) (.call { callee := .builtin .append, args := #[.tmp q.t25, .tmp q.t27], argTypes := #[q.ts, q.ts] }), q.rAsg2.mk' (some q.tl) (.assign (.tmp q.t28))] false)))))
      (Exit.then Kn (Exit.inBlock q.b0 (Exit.then ((Code.seq (.region q.i10 #[q.rMv3.mk' (some q.t29) (.move (.tmp q.tl)), q.rCall.mk' (some q.t30) (.call { callee := .value (.func q.f), args := #[.tmp q.t29], argTypes := #[q.ts] })] false) post).wpIn (rnd none) n P Q) Q))) a2 w2 := by
    intro Kn m got a2 w2 U hK
    have size2 := U.size
    have hb2 : w2.heap[E1.obj i]? = some (.map ens clk) := by rw [U.grown.block _ hbm (by simp)]; exact b1
    have hold : ∀ x ∈ ens.toList, x.born < clk := fun x hx => by
      obtain ⟨j, hj, rfl⟩ := List.mem_iff_getElem.1 hx
      exact b5 j _ (by rw [← Array.getElem?_toList]; exact List.getElem?_eq_getElem hj)
    refine wpIn_seq (wpIn_region_list (show wpListIn _ _ _ _ _ [_, _] _ _ from ?_))
    rcases run_next_at (P := P) w2 q.rNext.type _ _ clk clk _ ens clk U.iter hb2 hold (Nat.le_refl _) with ⟨h0, hrun⟩ | ⟨e, he, w3, hw3, hrun⟩
    · -- nothing is left
      refine step_value (v := .tuple #[.bool false]) rfl (fun c h => by cases h) (by simp only [OpR.mk', execOp, U.it]; exact run_v hrun) ?_
      refine step_extract (eval_same (by rw [size2]; exact regs_21)) (x := .bool false) rfl ?_
      show Code.wpIn _ _ _ _ _ _ _
      refine wpIn_seq (wpIn_cond_false (eval_same (by rw [act_put_size, size2]; exact regs_22)) (wpIn_exit ?_))
      show Exit.inBlock q.b0 _ (.exit q.b0) _ _
      simp only [Exit.inBlock, if_true]
      refine fin m got _ _ ⟨by rw [act_put_size, act_put_size, size2], U.defers, by rw [eval_other r22i]; exact (eval_other r21i).trans U.it, ?_, U.iter, U.mem, U.nodup, U.len, U.grown⟩ fun x hx => ?_
      · have : ((a2.put (some q.t21) (.tuple #[.bool false])).put (some q.t22) (.bool false)).eval (.tmp q.tl) = a2.eval (.tmp q.tl) := by rw [eval_other l8, eval_other m9]
        show Row w2 _ _ (((a2.put (some q.t21) (.tuple #[.bool false])).put (some q.t22) (.bool false)).eval (.tmp q.tl)) _
        rw [this]
        exact U.row
      · have h1 : leftOf ens (got.map (·.born)).toArray = #[] := Array.eq_empty_of_size_eq_zero h0
        unfold leftOf at h1
        rw [Array.filter_eq_empty_iff] at h1
        have h2 := h1 x (by simpa using hx)
        simp only [Bool.not_eq_true', Bool.not_eq_false] at h2
        have h3 : x.born ∈ got.map (·.born) := by simpa using h2
        obtain ⟨y, hy, hyx⟩ := List.mem_map.1 h3
        rwa [hmemborn y (U.mem y hy) x hx hyx] at hy
    · -- an entry has come
      have hex : e ∈ ens.toList ∧ e.born ∉ got.map (·.born) := by
        unfold leftOf at he
        simpa using he
      obtain ⟨hee, heb⟩ := hex
      have hw3h : w3.heap = w2.heap := by rcases hw3 with rfl | rfl <;> rfl
      have hw3o : Outer w2 w3 := by rcases hw3 with rfl | rfl <;> exact ⟨rfl, rfl, rfl⟩
      obtain ⟨w4, hw4⟩ : ∃ w4, Go.ChangeMaps.setBlock w3 w1.heap.size (.mapIter (some (E1.obj i)) clk ((got.map (·.born)).toArray.push e.born) clk) = w4 := ⟨_, rfl⟩
      rw [hw4] at hrun
      have hrlt : w1.heap.size < w3.heap.size := by rw [hw3h]; exact (Array.getElem?_eq_some_iff.1 U.iter).1
      have hit4 : w4.heap[w1.heap.size]? = some (.mapIter (some (E1.obj i)) clk ((got.map (·.born)).toArray.push e.born) clk) := by
        rw [← hw4]
        exact Array.getElem?_setIfInBounds_self_of_lt hrlt
      have hkeep4 : ∀ b, b ≠ w1.heap.size → w4.heap[b]? = w2.heap[b]? := fun b hb => by
        rw [← hw4, ← hw3h]
        exact Array.getElem?_setIfInBounds_ne (fun h => hb h.symm)
      have hsz4 : w4.heap.size = w2.heap.size := by rw [← hw4, ← hw3h]; simp [Go.ChangeMaps.setBlock]
      have hgr4 : w1.grownBy w4 none := by
        rw [← hw4]
        exact grown_set (grown_row U.grown (grown_heap hw3h hw3o) (by simp)) (Nat.le_refl _)
      have hb4 : w4.heap[E1.obj i]? = some (.map ens clk) := by rw [hkeep4 _ (by omega)]; exact hb2
      have hrow4 : Row w4 w1.heap.size q.te (a2.eval (.tmp q.tl)) (got.map keyV) := U.row.kept fun b c T f hb => by
        rw [hkeep4 b]
        · exact hb
        · rintro rfl
          rw [U.iter] at hb
          cases hb
      refine step_value (v := .tuple #[.bool true, e.key, e.val]) (w' := w4) rfl (fun c h => by cases h) (by simp only [OpR.mk', execOp, U.it]; exact run_v hrun) ?_
      refine step_extract (eval_same (by rw [size2]; exact regs_21)) (x := .bool true) rfl ?_
      show Code.wpIn _ _ _ _ _ _ _
      refine wpIn_seq (wpIn_cond_true (eval_same (by rw [act_put_size, size2]; exact regs_22)) (wpIn_skip ?_))
      show Code.wpIn _ _ _ _ _ _ _
      obtain ⟨a3, ha3⟩ : ∃ a3, ((a2.put (some q.t21) (.tuple #[.bool true, e.key, e.val])).put (some q.t22) (.bool true)) = a3 := ⟨_, rfl⟩
      have s3 : a3.tmps.size = a1.tmps.size := by rw [← ha3, act_put_size, act_put_size, size2]
      have it3 : a3.eval (.tmp q.it) = .pointer (some ⟨w1.heap.size, 0, none⟩) := by rw [← ha3, eval_other r22i, eval_other r21i]; exact U.it
      have tl3 : a3.eval (.tmp q.tl) = a2.eval (.tmp q.tl) := by rw [← ha3, eval_other l8, eval_other m9]
      have df3 : a3.defers = a1.defers := by rw [← ha3]; exact U.defers
      show Code.wpIn _ _ _ _ _ ((a2.put (some q.t21) (.tuple #[.bool true, e.key, e.val])).put (some q.t22) (.bool true)) _
      rw [ha3]
      clear hrun
      refine wpIn_block (wpIn_seq (wpIn_region_list (show wpListIn _ _ _ _ _ [_, _, _] _ _ from ?_)))
      refine step_value (v := .tuple #[e.key, e.val]) (w' := w4) rfl (fun c h => by cases h) (by simp only [OpR.mk', execOp, it3]; exact run_v (run_entry_at w4 _ _ clk _ ens clk e hit4 hb4 hee hborn)) ?_
      refine step_extract (eval_same (by rw [s3]; exact regs_23)) (x := e.key) rfl (step_assign ?_)
      show Code.wpIn _ _ _ _ _ _ _
      have hk24 : (((a3.put (some q.t23) (.tuple #[e.key, e.val])).put (some q.t24) e.key).eval (.tmp q.t24)) = e.key := eval_same (by rw [act_put_size, s3]; exact regs_24)
      obtain ⟨a4, ha4⟩ : ∃ a4, (((a3.put (some q.t23) (.tuple #[e.key, e.val])).put (some q.t24) e.key).put (some q.tk) e.key) = a4 := ⟨_, rfl⟩
      have s4 : a4.tmps.size = a1.tmps.size := by rw [← ha4, act_put_size, act_put_size, act_put_size, s3]
      have it4 : a4.eval (.tmp q.it) = .pointer (some ⟨w1.heap.size, 0, none⟩) := by rw [← ha4, eval_other rki, eval_other r24i, eval_other r23i]; exact it3
      have tl4 : a4.eval (.tmp q.tl) = a2.eval (.tmp q.tl) := by rw [← ha4, eval_other i5, eval_other j6, eval_other k7]; exact tl3
      have tk4 : a4.eval (.tmp q.tk) = Go.Proofs.encStr (keyV e) := by rw [← ha4, eval_same (by rw [act_put_size, act_put_size, s3]; exact regs_k)]; exact hkey' e hee
      have df4 : a4.defers = a1.defers := by rw [← ha4]; exact df3
      show Code.wpIn _ _ _ _ _ (((a3.put (some q.t23) (.tuple #[e.key, e.val])).put (some q.t24) e.key).put (some q.tk) (((a3.put (some q.t23) (.tuple #[e.key, e.val])).put (some q.t24) e.key).eval (.tmp q.t24))) _
      rw [hk24, ha4]
      refine wpIn_region_list (show wpListIn _ _ _ _ _ [_, _, _, _, _] _ _ from step_move (step_move ?_))
      rw [tl4, eval_other r25k, tk4]
      refine step_buildOne ok.hs t1 t2 t3 t4 (l := keyV e) (eval_same (by rw [act_put_size, s4]; exact regs_26)) ?_
      have hnd' : (got.map (·.born) ++ [e].map (·.born)).Nodup := List.nodup_append.2 ⟨U.nodup, by simp, fun x hx y hy => by simp at hy; subst hy; rintro rfl; exact heb hx⟩
      have hless := left_less (es := ens) (l := got.map (·.born)) (e := e) he
      have hlt4 : w1.heap.size < w4.heap.size := by rw [hsz4, ← hw3h]; exact hrlt
      have hgotlen : (got.map keyV).length + 1 ≤ lim := by
        have h1 : ((got ++ [e]).map (·.born)).length ≤ (ens.toList.map (·.born)).length := by
          refine len_of_subset (by rw [List.map_append]; exact hnd') fun x hx => ?_
          obtain ⟨y, hy, rfl⟩ := List.mem_map.1 hx
          rcases List.mem_append.1 hy with hy | hy
          · exact List.mem_map_of_mem (U.mem y hy)
          · rw [List.mem_singleton.1 hy]; exact List.mem_map_of_mem hee
        simp at h1
        simp
        omega
      refine step_append (base := w1.heap.size) (g := w4.heap.size) (l := keyV e) ok.hs t1 t2 t3 t4 t5 (ss := got.map keyV) ?_ (eval_same (by rw [act_put_size, act_put_size, s4]; exact regs_27)) (World.alloc_heap_new _ _) hgotlen (by have := hgr4.size; simp; omega) ?_
      · have : (((a4.put (some q.t25) (a2.eval (.tmp q.tl))).put (some q.t26) (Go.Proofs.encStr (keyV e))).put (some q.t27) (.slice (some ⟨w4.heap.size, 0, none⟩) 1 1)).eval (.tmp q.t25) = a2.eval (.tmp q.tl) := by
          rw [eval_other r2725, eval_other r2625, eval_same (by rw [s4]; exact regs_25)]
        rw [this]
        exact hrow4.kept fun b c T f hb => (Go.RowKit.Below.heap_alloc _ _ _ (Array.getElem?_eq_some_iff.1 hb).1).trans hb
      · rintro v' w6 hrow6 ⟨row, hg6, hrow⟩
        refine step_assign ?_
        have hr6 : some w1.heap.size ≠ row := fun h => by
          obtain ⟨-, c, T, f, h1⟩ := hrow _ h.symm
          rw [Go.RowKit.Below.heap_alloc _ _ _ (by omega), hit4] at h1
          cases h1
        show Kn _ _
        refine hK (got ++ [e]) _ _ ?_ ?_
        · have := U.len
          omega
        · refine ⟨by simp only [act_put_size]; exact s4, by simp only [act_put_defers]; exact df4, ?_, ?_, ?_, ?_, ?_, ?_, ?_⟩
          · rw [eval_other rli, eval_other r28i, eval_other r27i, eval_other r26i, eval_other r25i]; exact it4
          · rw [eval_same (by simp only [act_put_size]; rw [s4]; exact regs_tl), eval_same (by simp only [act_put_size]; rw [s4]; exact regs_28), List.map_append]
            exact hrow6
          · rw [hg6.block _ (by simp; omega) hr6, Go.RowKit.Below.heap_alloc _ _ _ (by omega), hit4]
            simp
          · intro x hx
            rcases List.mem_append.1 hx with hx | hx
            · exact U.mem x hx
            · rw [List.mem_singleton.1 hx]; exact hee
          · rw [List.map_append]
            exact hnd'
          · have := U.len
            rw [List.map_append]
            show (leftOf ens (got.map (·.born) ++ [e.born]).toArray).size ≤ _
            omega
          · refine grown_row (row := row) (grown_row (w' := w4.alloc (.cells #[Go.Proofs.encStr (keyV e)] q.te)) (row := none) hgr4 ⟨rfl, rfl, rfl, by simp, fun k hk _ => Go.RowKit.Below.heap_alloc _ _ _ hk⟩ (by simp)) hg6 fun k hk => (hrow k hk).1
  have rounds : ∀ m got a2 w2, Und q a1 w1 ens clk (E1.obj i) m got a2 w2 → Code.roundsIn (rnd none) n P
      (.seq (.region q.i7 #[q.rNext.mk' (some q.t21) (.next (.tmp q.it) false), q.rExt.mk' (some q.t22) (.extract (.tmp q.t21) 0)] false)
        (.seq (.cond (.tmp q.t22) .skip (.exit q.b0))
          (.block q.b1 (.seq (.region q.i8 #[q.rEntry.mk' (some q.t23) (.entry (.tmp q.it)), q.rExt2.mk' (some q.t24) (.extract (.tmp q.t23) 0), q.rAsg.mk' (some q.tk) (.assign (.tmp q.t24))] false)
            (.region q.i9 #[q.rMv.mk' (some q.t25) (.move (.tmp q.tl)), q.rMv2.mk' (some q.t26) (.move (.tmp q.tk)), q.rBs.mk' (some q.t27) (.buildSlice q.ts 1 #[(0, .tmp q.t26)]),
              q.rApp.mk' (some q.t28) (.call { callee := .builtin .append, args := #[.tmp q.t25, .tmp q.t27], argTypes := #[q.ts, q.ts] }), q.rAsg2.mk' (some q.tl) (.assign (.tmp q.t28))] false)))))
      (Exit.inBlock q.b0 (Exit.then ((Code.seq (.region q.i10 #[q.rMv3.mk' (some q.t29) (.move (.tmp q.tl)), q.rCall.mk' (some q.t30) (.call { callee := .value (.func q.f), args := #[.tmp q.t29], argTypes := #[q.ts] })] false) post).wpIn (rnd none) n P Q) Q)) (m + 1) a2 w2 := by
    intro m
    induction m with
    | zero => exact fun got a2 w2 U => round _ 0 got a2 w2 U fun _ _ _ h => absurd h (Nat.lt_irrefl _)
    | succ m ih => exact fun got a2 w2 U => round _ (m + 1) got a2 w2 U fun got' a3 w3 _ U' => ih got' a3 w3 U'
  refine rounds ens.size [] _ _ ⟨by rw [act_put_size], rfl, eval_same regs_it, ?_, ?_, by simp, by simp, ?_, ?_⟩
  · obtain ⟨p0, hp0⟩ := hv0
    have : (a1.put (some q.it) (.pointer (some ⟨w1.heap.size, 0, none⟩))).eval (.tmp q.tl) = a1.eval (.tmp q.tl) := eval_other n10
    exact .inl ⟨rfl, _, this.trans hp0⟩
  · rw [World.alloc_heap_new]; rfl
  · unfold leftOf; exact Array.size_filter_le
  · exact ⟨rfl, rfl, rfl, by simp, fun k hk _ => Go.RowKit.Below.heap_alloc _ _ _ hk⟩

end Go.Su

/-
  THE DATA MACHINE, part 37: the library's copy of a slice.
-/
namespace Go.Su

/-- The parts of a code. -/
def regL (c : Code) (p : List Bool) : List Oper :=
  match (sub p c []).1 with
  | .region _ ops _ => ops.toList
  | _ => []

def opR (c : Code) (p : List Bool) (j : Nat) : OpR :=
  match (regL c p)[j]? with
  | some o => ⟨o.type, o.pos, o.after⟩
  | none => ⟨0, "", #[]⟩

def ytOf (c : Code) (p : List Bool) (j : Nat) : TypeId :=
  match (regL c p)[j]? with
  | some o =>
    match o.op with
    | .binOp _ _ _ _ t => t
    | _ => 0
  | none => 0

def takeSeq : Nat → Code → List Code
  | n + 1, .seq a b => a :: takeSeq n b
  | _, _ => []

def dropSeq : Nat → Code → Code
  | n + 1, .seq _ b => dropSeq n b
  | _, c => c

structure ClP where
  i0 : Nat
  i1 : Nat
  i2 : Nat
  i3 : Nat
  r0 : OpR
  r1 : OpR
  r2 : OpR
  r3 : OpR
  r4 : OpR
  r5 : OpR
  r6 : OpR
  r7 : OpR
  ts : TypeId
  ty : TypeId

def ClP.code (q : ClP) : Code :=
  .seq (.region q.i0 #[q.r0.mk' (some 2) (.assign (.const (.slice none 0 0)))] false)
    (.seq (.seq (.region q.i1 #[q.r1.mk' (some 3) (.move (.tmp 0)), q.r2.mk' (some 4) (.binOp .eql q.ts (.tmp 3) (.const (.slice none 0 0)) q.ty)] false)
        (.cond (.tmp 4) (.seq (.region q.i2 #[q.r3.mk' (some 2) (.assign (.const (.slice none 0 0)))] false) .ret) .skip))
      (.seq (.region q.i3 #[q.r4.mk' (some 5) (.buildSlice q.ts 0 #[]), q.r5.mk' (some 6) (.move (.tmp 0)),
        q.r6.mk' (some 7) (.call { callee := .builtin .append, args := #[.tmp 5, .tmp 6], argTypes := #[q.ts, q.ts] }), q.r7.mk' (some 2) (.assign (.tmp 7))] false) .ret))

section
variable {P : Program} {n : Nat} {ops : Array Oper} {Q : Exit → Act → World → Prop} {a : Act} {w : World} {rest : List Oper}

theorem step_assignC {r : OpR} {t : Nat} {v : Value} (hk : wpListIn (rnd none) n P ops Q rest (a.put (some t) v) w) : wpListIn (rnd none) n P ops Q (r.mk' (some t) (.assign (.const v)) :: rest) a w :=
  step_value rfl (fun c h => by cases h) (by simp [OpR.mk', execOp, Act.eval]) hk

theorem step_eqlNil {r : OpR} {t u : Nat} {ts te ty : TypeId} {b : Option Addr} {l c : Nat} (hs : P.underlying ts = some (.slice te)) (hv : a.eval (.tmp u) = .slice b l c)
    (hk : wpListIn (rnd none) n P ops Q rest (a.put (some t) (.bool b.isNone)) w) : wpListIn (rnd none) n P ops Q (r.mk' (some t) (.binOp .eql ts (.tmp u) (.const (.slice none 0 0)) ty) :: rest) a w := by
  refine step_value (v := .bool b.isNone) rfl (fun c h => by cases h) ?_ hk
  simp only [OpR.mk', execOp, hv]
  exact run_v (Go.Lib.run_eql_slice_nil w ts te b l c 0 0 hs)

theorem step_buildNone {r : OpR} {t : Nat} {ts te : TypeId} {i : TypeInfo} (hs : P.underlying ts = some (.slice te)) (hi : P.info? te = some i)
    (hk : wpListIn (rnd none) n P ops Q rest (a.put (some t) (.slice (some ⟨w.heap.size, 0, none⟩) 0 0)) (w.alloc (.cells #[] te))) :
    wpListIn (rnd none) n P ops Q (r.mk' (some t) (.buildSlice ts 0 #[]) :: rest) a w := by
  refine step_value (v := .slice (some ⟨w.heap.size, 0, none⟩) 0 0) rfl (fun c h => by cases h) ?_ hk
  simp only [OpR.mk', execOp]
  refine run_v ?_
  unfold Instr.buildSlice
  have hsz : (sizeOf te).run P w = .ok i.size w := by simp [sizeOf, typeInfo, hi]
  simp only [Sem.run_bind, run_underlying hs, Result.andThen_ok, hsz, Sem.run_ite]
  rw [if_neg (by simp), if_pos (by simp)]
  simp only [Sem.run_pure, Result.andThen_ok]
  have : Instr.fill (fun j => some (j * i.size, i.size)) ((Array.range (0 * i.size)).map ((#[] : Array Value)[· % (#[] : Array Value).size]!)) (Array.map (fun x : Nat × Operand => (x.1, a.eval x.2)) #[]).toList = some #[] := by
    rw [Nat.zero_mul]
    simp [Instr.fill]
  simp only [this]
  rfl

end

theorem clone_ok {P : Program} {f : FuncId} {fn : Func} {q : ClP} {sz : Nat} (hsz : appSz P q.ts q.ts = some sz) (hf : P.funcs[f]? = some fn) (hb : fn.body = some q.code) (hres : fn.results = #[.tmp 2]) (hnt : fn.ntmps = 8) : CloneOk P f sz := by
  intro S w v ds hl hS hv
  obtain ⟨e, e', z, inf, zv, hu, hu', hz, hz1, hpos, hinf, hbytes, hzv, hzs⟩ := appSz_some hsz
  rw [hu] at hu'
  simp only [Option.some.injEq, TypeDesc.slice.injEq] at hu'
  subst hu'
  have hinfsz : inf.size = sz := by
    obtain ⟨i', d', q1, -, q2, -⟩ := tz_some hz
    rw [hinf] at q1
    simp only [Option.some.injEq] at q1
    rw [← hz1, q2, q1]
  obtain ⟨b, len, cap, all, rfl, f1, f2, f3, f4, f5, f6, f7⟩ := first_flat (P := P) hv
  have fin : ∀ (a : Act) (v : Value) (w1 : World), a.defers = [] → a.tmps.getD 2 undef = v → ∀ R : Ending → World → Prop, R (.returned v) w1 → bodyPost P fn R .ret a w1 := by
    intro a v w1 h1 h2 R h3
    refine ⟨h1, v, ?_, h3⟩
    rw [results_eq, hres, ← h2]
    simp [resRun]
  refine (callsIn_wide (n := 0)).1 (callsIn_of_wp hf hb trivial ?_)
  rw [hnt]
  show Code.wpIn (rnd none) 0 P _ _ _ _
  have hlit : (#[Value.slice b len cap] ++ Array.replicate (8 - #[Value.slice b len cap].size) undef : Array Value) = #[.slice b len cap, undef, undef, undef, undef, undef, undef, undef] := by rfl
  rw [hlit]
  refine wpIn_seq (wpIn_region_list (show wpListIn _ _ _ _ _ [_] _ _ from step_assignC ?_))
  refine wpIn_seq (wpIn_seq (wpIn_region_list (show wpListIn _ _ _ _ _ [_, _] _ _ from step_move (step_eqlNil (b := b) (l := len) (c := cap) hu rfl ?_))))
  cases b with
  | none =>
    have h0 := f3 rfl
    have hds : ds = [] := List.eq_nil_of_length_eq_zero (by omega)
    subst hds
    refine wpIn_cond_true rfl (wpIn_seq (wpIn_region_list (show wpListIn _ _ _ _ _ [_] _ _ from step_assignC ?_)))
    show Code.wpIn _ _ _ Code.ret _ _ _
    refine wpIn_ret ?_
    dsimp only [Exit.then]
    exact fin _ _ _ rfl rfl _ ⟨none, 0, 0, 0, rfl, by simp, by simp, by simp, by simp, Nat.le_refl _, Outer.refl _, fun _ _ => rfl, by simp⟩
  | some p =>
    refine wpIn_cond_false rfl (wpIn_skip ?_)
    refine wpIn_seq (wpIn_region_list (show wpListIn _ _ _ _ _ [_, _, _, _] _ _ from step_buildNone hu hinf (step_move ?_)))
    have hw1 : ∀ w' : World, w'.heap = (w.alloc (.cells #[] e)).heap → (Builtin.firstCells sz len (Value.slice (some p) len cap)).run P w' = .ok all.toArray w' := by
      intro w' hw'
      show (loadCells p (len * sz)).run P w' = _
      obtain ⟨hp, hc⟩ := f5 p rfl
      have hl2 : len * sz = all.length := by rw [f4.1, f1]
      by_cases h0 : 0 < cap
      · rw [hl2, hp h0]
        refine loadCells_flat fun j u hu => ?_
        rw [hw']
        have h3 := (hc j u hu).1
        have h4 : w.heap[p.block]? ≠ none := fun h => by simp [Su.hc, h] at h3
        have h5 : p.block < w.heap.size := by
          rcases Nat.lt_or_ge p.block w.heap.size with h | h
          · exact h
          · exact absurd (Array.getElem?_eq_none h) h4
        unfold Su.hc at h3 ⊢
        rw [show (w.alloc (.cells #[] e)).heap[p.block]? = w.heap[p.block]? from Go.RowKit.Below.heap_alloc _ _ _ h5]
        exact h3
      · have h0 : len = 0 := by omega
        have h9 : all = [] := List.eq_nil_of_length_eq_zero (by rw [← hl2, h0]; simp)
        rw [h9, h0, Nat.zero_mul]
        rfl
    have go : ∀ (v' : Value) (w' : World), (Builtin.append_ #[q.ts, q.ts] q.r6.type #[.slice (some ⟨w.heap.size, 0, none⟩) 0 0, .slice (some p) len cap]).run P (w.alloc (.cells #[] e)) = .ok v' w' → ∀ R : Ending → World → Prop, R (.returned v') w' →
        wpListIn (rnd none) 0 P #[q.r4.mk' (some 5) (.buildSlice q.ts 0 #[]), q.r5.mk' (some 6) (.move (.tmp 0)), q.r6.mk' (some 7) (.call { callee := .builtin .append, args := #[.tmp 5, .tmp 6], argTypes := #[q.ts, q.ts] }), q.r7.mk' (some 2) (.assign (.tmp 7))]
          (Exit.then (Code.ret.wpIn (rnd none) 0 P (bodyPost P fn R)) (bodyPost P fn R)) [q.r6.mk' (some 7) (.call { callee := .builtin .append, args := #[.tmp 5, .tmp 6], argTypes := #[q.ts, q.ts] }), q.r7.mk' (some 2) (.assign (.tmp 7))]
          { tmps := #[.slice (some p) len cap, undef, .slice none 0 0, .slice (some p) len cap, .bool false, .slice (some ⟨w.heap.size, 0, none⟩) 0 0, .slice (some p) len cap, undef], defers := [] } (w.alloc (.cells #[] e)) := by
      intro v' w' hr R hR
      refine step_value (v := v') (w' := w') rfl (fun c h => by cases h) ?_ (step_assign ?_)
      · refine call_builtin (C := dumC P) (b := .append) rfl rfl ?_
        simp only [List.map_toArray, List.map_cons, List.map_nil]
        exact run_v hr
      · show Code.wpIn _ _ _ Code.ret _ _ _
        refine wpIn_ret ?_
        show bodyPost P fn R .ret _ _
        exact fin _ _ _ rfl rfl _ hR
    by_cases hds : ds = []
    · subst hds
      have h0 : len = 0 := f1
      have h9 : all = [] := List.eq_nil_of_length_eq_zero (by rw [f4.1]; simp)
      refine go _ (w.alloc (.cells #[] e)) (run_append_some (n := len) hu hu hinf (lenOf_slice _ _ _) (by rw [hinfsz]; exact hw1 _ rfl) (by omega) (by rw [h9]; simp [storeCells])) _ ⟨some ⟨w.heap.size, 0, none⟩, 0, 0, 0, ?_, by simp, by simp, by simp, by simp, by simp, ⟨rfl, rfl, rfl⟩, fun b' hb' => Go.RowKit.Below.heap_alloc _ _ _ hb', by simp⟩
      simp [h0]
    · have hlen : 0 < len := by rw [f1]; exact List.length_pos_iff.2 hds
      obtain ⟨nc, hnc, hr⟩ := run_append_grow (P := P) (t := q.ts) (u := q.ts) (ty := q.r6.type) (b := some ⟨w.heap.size, 0, none⟩) (len := 0) (cap := 0) (n := len) (all := []) (all' := all) (v := .slice (some p) len cap) (w := w.alloc (.cells #[] e)) hu hu hinf (lenOf_slice _ _ _) (by rw [hinfsz]; exact hw1) (fun w' _ => by show (loadCells _ (0 * inf.size)).run P w' = _; rw [Nat.zero_mul]; rfl) hzv (by omega) (by unfold lim at hl; omega) hbytes
      simp only [Nat.zero_add, List.nil_append] at hr
      have hsz1 : (w.alloc (.cells #[] e)).heap.size = w.heap.size + 1 := by simp
      refine go _ _ hr _ ⟨_, w.heap.size + 1, 0, nc, by rw [f1, hsz1], fun _ => rfl, by omega, by simp, fun x hx => ?_, ?_, ⟨rfl, rfl, rfl⟩, fun b' hb' => ?_, fun _ => ⟨by omega, (all ++ (Builtin.zeroCells zv.cells (nc - len)).toList).toArray, e, ?_, ?_, hpos, fun j d hj => ?_⟩⟩
      · simp only [Option.some.injEq] at hx
        subst hx
        rfl
      · simp; omega
      · refine (Go.RowKit.Below.heap_alloc _ _ _ (by show b' < (w.alloc (.cells #[] e)).heap.size; omega)).trans ?_
        exact Go.RowKit.Below.heap_alloc _ _ _ hb'
      · rw [← hsz1]
        exact World.alloc_heap_new _ _
      · simp [f4.1]
      · obtain ⟨vs, v1, v2, v3⟩ := f4.2 j d hj
        refine ⟨vs, v1, fun x u hx => ?_, v3.mono ⟨fun _ _ h => h, fun b o v hs hv => ?_⟩⟩
        · have h1 := v2 x u hx
          have h2 := (List.getElem?_eq_some_iff.1 h1).1
          rw [Nat.zero_add, List.getElem?_toArray, List.getElem?_append_left h2]
          exact h1
        · have hb : b < w.heap.size := by
            rcases Nat.lt_or_ge b w.heap.size with h | h
            · exact h
            · exact absurd hs (hS b o h)
          unfold Su.hc at hv ⊢
          have e1 : ((w.alloc (.cells #[] e)).drew.alloc (.cells (all ++ (Builtin.zeroCells zv.cells (nc - len)).toList).toArray e)).heap[b]? = w.heap[b]? :=
            (Go.RowKit.Below.heap_alloc _ _ _ (by show b < (w.alloc (.cells #[] e)).heap.size; omega)).trans (Go.RowKit.Below.heap_alloc _ _ _ hb)
          rw [e1]
          exact hv

end Go.Su

/-
  MAPS of numbers and texts in the shared part, cells of the shared part.
-/
namespace Go.Su

/-- What a map of counters holds. -/
def CntIs (es : List (DV × DV)) (c : Int → Int) : Prop := ∀ v, (mGet es (.int .i64 v)).getD (.int .i64 0) = .int .i64 (c v)
theorem CntIs.nil : CntIs [] fun _ => 0 := fun _ => rfl
theorem CntIs.set {es : List (DV × DV)} {c : Int → Int} (h : CntIs es c) (a n : Int) : CntIs (mSet es (.int .i64 a) (.int .i64 n)) fun v => if a = v then n else c v := by
  intro v
  rw [mGet_setI]
  by_cases e : a = v
  · simp [e]
  · simp [e, h v]

theorem sgMap_lt {sg : List SObj} {i : Nat} {x : Bool × List (DV × DV)} (h : sgMap sg i = some x) : i < sg.length := by
  unfold sgMap at h
  cases hi : sg[i]? with
  | none => rw [hi] at h; cases h
  | some o => exact (List.getElem?_eq_some_iff.1 hi).1
theorem sgMap_set {sg : List SObj} {i : Nat} (h : i < sg.length) (ks : Bool) (es : List (DV × DV)) : sgMap (sg.set i (.map ks es)) i = some (ks, es) := by
  unfold sgMap
  rw [List.getElem?_set_self h]
theorem sgMap_eq {sg : List SObj} {i : Nat} {ks : Bool} {es : List (DV × DV)} (h : sgMap sg i = some (ks, es)) : sg.set i (.map ks es) = sg := by
  have hl := sgMap_lt h
  unfold sgMap at h
  have hg : sg[i]? = some sg[i] := List.getElem?_eq_getElem hl
  rw [hg] at h
  have e : sg[i] = .map ks es := by
    cases hx : sg[i] with
    | map a b => rw [hx] at h; simp at h; rw [h.1, h.2]
    | box _ => rw [hx] at h; cases h
    | arr _ _ => rw [hx] at h; cases h
  rw [← e]
  exact List.set_getElem_self hl
theorem sgBox_lt {sg : List SObj} {i : Nat} {x : List (DV × Meta)} (h : sgBox sg i = some x) : i < sg.length := by
  unfold sgBox at h
  cases hi : sg[i]? with
  | none => rw [hi] at h; cases h
  | some o => exact (List.getElem?_eq_some_iff.1 hi).1
theorem sgBox_set {sg : List SObj} {i : Nat} (h : i < sg.length) (cs : List (DV × Meta)) : sgBox (sg.set i (.box cs)) i = some cs := by
  unfold sgBox
  rw [List.getElem?_set_self h]
theorem sgBox_set_ne {sg : List SObj} {i j : Nat} (h : i ≠ j) (o : SObj) : sgBox (sg.set i o) j = sgBox sg j := by
  unfold sgBox
  rw [List.getElem?_set_ne h]
theorem sgMap_set_ne {sg : List SObj} {i j : Nat} (h : i ≠ j) (o : SObj) : sgMap (sg.set i o) j = sgMap sg j := by
  unfold sgMap
  rw [List.getElem?_set_ne h]
theorem sgBox_eq {sg : List SObj} {i : Nat} {cs : List (DV × Meta)} (h : sgBox sg i = some cs) : sg.set i (.box cs) = sg := by
  have hl := sgBox_lt h
  unfold sgBox at h
  have hg : sg[i]? = some sg[i] := List.getElem?_eq_getElem hl
  rw [hg] at h
  have e : sg[i] = .box cs := by
    cases hx : sg[i] with
    | box a => rw [hx] at h; simp at h; rw [h]
    | map _ _ => rw [hx] at h; cases h
    | arr _ _ => rw [hx] at h; cases h
  rw [← e]
  exact List.set_getElem_self hl

@[simp] theorem dExt0 (a : DV) (l : List DV) : dExt 0 (.tup (a :: l)) = some a := rfl
@[simp] theorem dExt1 (a b : DV) (l : List DV) : dExt 1 (.tup (a :: b :: l)) = some b := rfl
@[simp] theorem dExt2 (a b c : DV) (l : List DV) : dExt 2 (.tup (a :: b :: c :: l)) = some c := rfl
@[simp] theorem dExt3 (a b c d : DV) (l : List DV) : dExt 3 (.tup (a :: b :: c :: d :: l)) = some d := rfl
theorem dApp_map {α : Type} {e : α → DV} {sz : Nat} {l : List α} {x : α} (h : l.length < lim) : dApp sz (.list sz (l.map e)) (.list sz [e x]) = some (.list sz ((l ++ [x]).map e)) := by
  rw [dApp_list (by simp; omega)]
  simp
theorem dApp_maps {α : Type} {e : α → DV} {sz : Nat} {l m : List α} (h : l.length + m.length ≤ lim) : dApp sz (.list sz (l.map e)) (.list sz (m.map e)) = some (.list sz ((l ++ m).map e)) := by
  rw [dApp_list (by simpa using h)]
  simp
end Go.Su

/-
  PATTERNS and types: what is bound.
-/
namespace Go.Su

def encEnt (e : ByteArray × Ty) : DV := .agg [.str e.1, .int .i64 e.2.kind, .int .i64 e.2.n, .list 3 (e.2.kids.map Ty.enc)]
def encEnts (l : List (ByteArray × Ty)) : DV := .list 4 (l.map encEnt)
@[simp] theorem encEnt0 (e : ByteArray × Ty) : proj 0 (encEnt e) = .str e.1 := rfl
@[simp] theorem encEnt1 (e : ByteArray × Ty) : proj 1 (encEnt e) = .int .i64 e.2.kind := rfl
@[simp] theorem encEnt2 (e : ByteArray × Ty) : proj 2 (encEnt e) = .int .i64 e.2.n := rfl
@[simp] theorem encEnt3 (e : ByteArray × Ty) : proj 3 (encEnt e) = .list 3 (e.2.kids.map Ty.enc) := rfl
@[simp] theorem Nm.proj0 (e : Nm) : proj 0 e.enc = .str e.name := rfl
@[simp] theorem Nm.proj1 (e : Nm) : proj 1 e.enc = .int .i64 e.ty.kind := rfl
@[simp] theorem Nm.proj2 (e : Nm) : proj 2 e.enc = .int .i64 e.ty.n := rfl
@[simp] theorem Nm.proj3 (e : Nm) : proj 3 e.enc = .list 3 (e.ty.kids.map Ty.enc) := rfl
@[simp] theorem Nm.proj4 (e : Nm) : proj 4 e.enc = encInts e.vars := rfl
@[simp] theorem dLen_encEnts (l : List (ByteArray × Ty)) : dLen (encEnts l) = some (.int .i64 l.length) := by simp [encEnts]
@[simp] theorem dLen_encNms (l : List Nm) : dLen (encNms l) = some (.int .i64 l.length) := by simp [encNms]
@[simp] theorem dLen_encBnds (l : List (Int × Ty)) : dLen (encBnds l) = some (.int .i64 l.length) := by simp [encBnds]

theorem comb_len {ks : List Pat} : (∀ k ∈ ks, ∀ t b, k.binds t = some b → b.length ≤ k.size) → ∀ ts b, comb (ks.map Pat.binds) ts = some b → b.length ≤ (ks.map Pat.size).sum := by
  induction ks with
  | nil => intro _ ts b h; simp only [List.map_nil, comb, Option.some.injEq] at h; subst h; simp
  | cons k ks ih =>
    intro hk ts b h
    cases ts with
    | nil => simp [comb] at h
    | cons t ts =>
      simp only [List.map_cons, comb, Option.bind_eq_some_iff, Option.some.injEq] at h
      obtain ⟨a, h1, c, h2, rfl⟩ := h
      have := hk k (List.mem_cons_self ..) t a h1
      have := ih (fun k' hk' => hk k' (List.mem_cons_of_mem _ hk')) ts c h2
      simp only [List.length_append, List.map_cons, List.sum_cons]
      omega

theorem Pat.binds_len (p : Pat) : ∀ t b, p.binds t = some b → b.length ≤ p.size := by
  induction p using Pat.ind with
  | h p ih =>
    intro t b h
    rw [Pat.binds_eq] at h
    rw [Pat.size_eq]
    unfold patBody at h
    split at h
    · simp only [Option.some.injEq] at h; subst h; simp
    split at h
    · simp only [Option.some.injEq] at h; subst h; simp
    split at h
    · split at h
      · have := comb_len ih _ _ h; omega
      · cases h
    split at h
    · split at h
      · have := comb_len ih _ _ h; omega
      · cases h
    split at h
    · simp only [Option.some.injEq] at h; subst h; simp
    · cases h

theorem comb_right {ks : List Pat} : (∀ k ∈ ks, ∀ t b, t.right = true → k.binds t = some b → ∀ e ∈ b, e.2.right = true) → ∀ ts b, (∀ t ∈ ts, t.right = true) → comb (ks.map Pat.binds) ts = some b → ∀ e ∈ b, e.2.right = true := by
  induction ks with
  | nil => intro _ ts b _ h; simp only [List.map_nil, comb, Option.some.injEq] at h; subst h; simp
  | cons k ks ih =>
    intro hk ts b ht h
    cases ts with
    | nil => simp [comb] at h
    | cons t ts =>
      simp only [List.map_cons, comb, Option.bind_eq_some_iff, Option.some.injEq] at h
      obtain ⟨a, h1, c, h2, rfl⟩ := h
      have a1 := hk k (List.mem_cons_self ..) t a (ht t (List.mem_cons_self ..)) h1
      have a2 := ih (fun k' hk' => hk k' (List.mem_cons_of_mem _ hk')) ts c (fun t' ht' => ht t' (List.mem_cons_of_mem _ ht')) h2
      intro e he
      rcases List.mem_append.1 he with he | he
      · exact a1 e he
      · exact a2 e he

theorem zero_arity {t : Ty} (h : t.right = true) (hk : t.kind = 8) : ∃ a, t.kids = [a] := by
  have := (Ty.right_iff.1 h).1
  rw [hk] at this
  have h1 : t.kids.length = 1 := by have : arity 8 = 1 := rfl; omega
  exact List.length_eq_one_iff.1 h1
theorem two_arity {t : Ty} (h : t.right = true) (hk : t.kind = 7 ∨ t.kind = 9) : ∃ a b, t.kids = [a, b] := by
  have := (Ty.right_iff.1 h).1
  have h1 : t.kids.length = 2 := by
    rcases hk with hk | hk <;> rw [hk] at this
    · have : arity 7 = 2 := rfl; omega
    · have : arity 9 = 2 := rfl; omega
  match hx : t.kids, h1 with
  | [a, b], _ => exact ⟨a, b, rfl⟩

theorem Pat.binds_right (p : Pat) : ∀ t b, t.right = true → p.binds t = some b → ∀ e ∈ b, e.2.right = true := by
  induction p using Pat.ind with
  | h p ih =>
    intro t b ht h
    rw [Pat.binds_eq] at h
    unfold patBody at h
    split at h
    · simp only [Option.some.injEq] at h; subst h; simp
    split at h
    · simp only [Option.some.injEq] at h; subst h; simpa using ht
    split at h
    · split at h
      · exact comb_right ih _ _ (fun k hk => Ty.right_kid ht hk) h
      · cases h
    split at h
    · split at h
      · rename_i h8
        obtain ⟨a, ha⟩ := zero_arity ht h8
        refine comb_right ih _ _ ?_ h
        intro k hk
        rw [ha] at hk
        simp at hk
        rcases hk with rfl | rfl
        · exact Ty.right_kid ht (by rw [ha]; exact List.mem_cons_self ..)
        · exact ht
      · cases h
    split at h
    · simp only [Option.some.injEq] at h; subst h; simp
    · cases h

theorem Pat.one_kids {p : Pat} (h : p.one = true) : p.kids.length = if p.kind = 7 ∨ p.kind = 9 then 2 else 0 := by
  unfold Pat.one at h
  grind
theorem Pat.pat_one {p : Pat} (h : p.pat = true) : p.one = true := by
  rw [Pat.pat_eq] at h
  simp only [Bool.and_eq_true] at h
  exact h.1
theorem Pat.pat_kid {p k : Pat} (h : p.pat = true) (hk : k ∈ p.kids) : k.pat = true := by
  rw [Pat.pat_eq] at h
  simp only [Bool.and_eq_true, List.all_eq_true] at h
  exact h.2 k hk
theorem Pat.right_pat {p : Pat} (h : p.right = true) : p.pat = true := by
  unfold Pat.right at h
  simp only [Bool.and_eq_true] at h
  exact h.1

end Go.Su

/-
  The CHECKER of terms, kind by kind.
-/
namespace Go.Su

structure Tm.Own (t : Tm) : Prop where
  lo : 1 ≤ t.kind
  hi : t.kind ≤ 16
  match1 : t.kind = 14 → 0 < t.pats.length
  kids : (t.kids.length : Int) = kKids t.kind t.pats.length
  name : kName t.kind = true → nameB t.name = true
  arg : kArg t.kind = true → nameB t.arg = true
  a : kA t.kind = true → t.a.right = true
  b : kB t.kind = true → t.b.right = true
  a0 : kA t.kind = false → t.a = zeroTy
  b0 : kB t.kind = false → t.b = zeroTy
  op : kOp t.kind = true → 1 ≤ t.op ∧ t.op ≤ 7
  vars0 : kVars t.kind = false → t.vars = []
  args0 : kArgs t.kind = false → t.args = []
  pats0 : kPats t.kind = false → t.pats = []
  vars : ∀ v ∈ t.vars, 0 ≤ v ∧ v ≤ 1048576
  args : ∀ y ∈ t.args, y.right = true
  pats : ∀ p ∈ t.pats, p.right = true

theorem Tm.own_of {t : Tm} (h : t.one = true) : t.Own := by
  simp only [Tm.one, Tm.one1, Tm.one2, Tm.one3, Tm.one4, Tm.one5, Tm.lists, kOk, namedB, typedB, Bool.and_eq_true, Bool.or_eq_true, Bool.not_eq_true', decide_eq_true_eq, decide_eq_false_iff_not, List.all_eq_true] at h
  obtain ⟨⟨⟨⟨⟨⟨⟨⟨k1, k2⟩, k3⟩, k4⟩, k5⟩, k6⟩, k7⟩, k8⟩, ⟨k9, k10⟩, ⟨⟨k11, k12⟩, k13⟩, ⟨k14, k15⟩, ⟨k16, k17⟩, ⟨⟨k18, k19⟩, k20⟩, ⟨k21, k22⟩, k23⟩ := h
  refine ⟨k1, k2, fun h => ?_, k4, fun h => ?_, fun h => ?_, fun h => ?_, fun h => ?_, fun h => ?_, fun h => ?_, fun h => ?_, fun h => ?_, fun h => ?_, fun h => ?_, k21, k22, k23⟩
  · rcases k3 with k3 | k3
    · exact absurd h k3
    · exact k3
  · simpa [h] using k5
  · simpa [h] using k6
  · simpa [h] using k7
  · simpa [h] using k8
  · rw [h] at k7; exact Ty.none_iff.1 (by simpa using k7)
  · rw [h] at k8; exact Ty.none_iff.1 (by simpa using k8)
  · simpa [h] using k14
  · rw [h] at k18; exact List.eq_nil_of_length_eq_zero (by simpa using k18)
  · rw [h] at k19; exact List.eq_nil_of_length_eq_zero (by simpa using k19)
  · rw [h] at k20; exact List.eq_nil_of_length_eq_zero (by simpa using k20)

theorem Tm.right_own {t : Tm} (h : t.right = true) : t.Own := by
  rw [Tm.right_eq] at h
  simp only [Bool.and_eq_true] at h
  exact Tm.own_of h.1
theorem Tm.right_kid {t k : Tm} (h : t.right = true) (hk : k ∈ t.kids) : k.right = true := by
  rw [Tm.right_eq] at h
  simp only [Bool.and_eq_true, List.all_eq_true] at h
  exact h.2 k hk
theorem Tm.kids1 {t : Tm} (h : t.right = true) (hk : t.kind = 9 ∨ t.kind = 16) : ∃ a, t.kids = [a] := by
  have := (Tm.right_own h).kids
  have h1 : t.kids.length = 1 := by
    rcases hk with hk | hk <;> (rw [hk] at this; simp [kKids] at this; omega)
  exact List.length_eq_one_iff.1 h1
theorem Tm.kids2 {t : Tm} (h : t.right = true) (hk : t.kind = 6 ∨ t.kind = 8 ∨ t.kind = 10 ∨ t.kind = 11 ∨ t.kind = 12 ∨ t.kind = 15) : ∃ a b, t.kids = [a, b] := by
  have := (Tm.right_own h).kids
  have h1 : t.kids.length = 2 := by
    rcases hk with hk | hk | hk | hk | hk | hk <;> (rw [hk] at this; simp [kKids] at this; omega)
  match hx : t.kids, h1 with
  | [a, b], _ => exact ⟨a, b, rfl⟩
theorem Tm.kids3 {t : Tm} (h : t.right = true) (hk : t.kind = 13) : ∃ a b c, t.kids = [a, b, c] := by
  have := (Tm.right_own h).kids
  have h1 : t.kids.length = 3 := by rw [hk] at this; simp [kKids] at this; omega
  match hx : t.kids, h1 with
  | [a, b, c], _ => exact ⟨a, b, c, rfl⟩
theorem Tm.kidsM {t : Tm} (h : t.right = true) (hk : t.kind = 14) : ∃ a l, t.kids = a :: l ∧ l.length = t.pats.length := by
  have := (Tm.right_own h).kids
  have h1 : t.kids.length = t.pats.length + 1 := by rw [hk] at this; simp [kKids] at this; omega
  match hx : t.kids, h1 with
  | a :: l, h1 => exact ⟨a, l, rfl, by simpa using h1⟩
theorem Tm.kids0 {t : Tm} (h : t.right = true) (hk : t.kind = 1 ∨ t.kind = 2 ∨ t.kind = 3 ∨ t.kind = 4 ∨ t.kind = 5 ∨ t.kind = 7) : t.kids = [] := by
  have := (Tm.right_own h).kids
  refine List.eq_nil_of_length_eq_zero ?_
  rcases hk with hk | hk | hk | hk | hk | hk <;> (rw [hk] at this; simp [kKids] at this; simp [this])
/-- The kinds. -/
theorem Tm.kinds {t : Tm} (h : t.right = true) : t.kind = 1 ∨ (t.kind = 2 ∨ t.kind = 3 ∨ t.kind = 4 ∨ t.kind = 5) ∨ t.kind = 6 ∨ t.kind = 7 ∨ t.kind = 8 ∨ t.kind = 9 ∨ t.kind = 10 ∨ t.kind = 11 ∨ t.kind = 12 ∨ t.kind = 13 ∨ t.kind = 14 ∨ t.kind = 15 ∨ t.kind = 16 := by
  have := (Tm.right_own h).lo
  have := (Tm.right_own h).hi
  omega

/-! ### The checker, kind by kind -/
theorem ck_name {t : Tm} (h : t.kind = 1) (l : List Nm) (S : List Int) : ck t l S = match l.reverse.find? fun x => decide (x.name = t.name) with
    | none => .error 6
    | some x => if x.vars.length = t.args.length then if t.args.all (inS S) = true then .ok (x.ty.put (x.vars.zip t.args)) else .error 6 else .error 8 := by
  rw [ck_eq]; unfold ckBody; simp only [h, if_true]; try rfl
theorem ck_leaf {t : Tm} (h : t.kind = 2 ∨ t.kind = 3 ∨ t.kind = 4 ∨ t.kind = 5) (l : List Nm) (S : List Int) : ck t l S = .ok (.mk (t.kind - 1) 0 []) := by
  rw [ck_eq]; unfold ckBody; rw [if_neg (by omega), if_pos h]
theorem ck_nil {t : Tm} (h : t.kind = 7) (l : List Nm) (S : List Int) : ck t l S = if inS S t.a = true then .ok (.mk 8 0 [t.a]) else .error 6 := by
  rw [ck_eq]; unfold ckBody; simp [h]
theorem ck_fun {t k : Tm} (h : t.kind = 9) (hk : t.kids = [k]) (l : List Nm) (S : List Int) : ck t l S = if inS S t.a = true then (ck k (l ++ [⟨t.name, t.a, []⟩]) S).bind fun y => .ok (.mk 9 0 [t.a, y]) else .error 6 := by
  rw [ck_eq]; unfold ckBody; simp [h, hk]
theorem ck_let {t k m : Tm} (h : t.kind = 11) (hk : t.kids = [k, m]) (l : List Nm) (S : List Int) : ck t l S = if takes S t.vars = true then (ck k l (t.vars ++ S)).bind fun y => ck m (l ++ [⟨t.name, y, t.vars⟩]) S else .error 6 := by
  rw [ck_eq]; unfold ckBody; simp [h, hk]
theorem ck_rec {t k m : Tm} (h : t.kind = 12) (hk : t.kids = [k, m]) (l : List Nm) (S : List Int) : ck t l S = if takes S t.vars = true then
      if inS (t.vars ++ S) t.a = true ∧ inS (t.vars ++ S) t.b = true then
        (ck k (l ++ [⟨t.name, .mk 9 0 [t.a, t.b], []⟩, ⟨t.arg, t.a, []⟩]) (t.vars ++ S)).bind fun y =>
          if y = t.b then ck m (l ++ [⟨t.name, .mk 9 0 [t.a, t.b], t.vars⟩]) S else .error 4
      else .error 6
    else .error 6 := by
  rw [ck_eq]; unfold ckBody; simp [h, hk]
theorem ck_match {t k : Tm} {ks : List Tm} (h : t.kind = 14) (hk : t.kids = k :: ks) (l : List Nm) (S : List Int) : ck t l S = (ck k l S).bind fun y => ckArms y l S (t.pats.zip (ks.map ck)) none := by
  rw [ck_eq]; unfold ckBody; simp [h, hk]
theorem ck_rest {t : Tm} (h : t.kind = 6 ∨ t.kind = 8 ∨ t.kind = 10 ∨ t.kind = 13 ∨ t.kind = 15 ∨ t.kind = 16) (l : List Nm) (S : List Int) : ck t l S = (ckKids l S (t.kids.map ck)).bind fun k => ckOf t S k := by
  rw [ck_eq]; unfold ckBody
  rw [if_neg (by omega), if_neg (by omega), if_neg (by omega), if_neg (by omega), if_neg (by omega), if_neg (by omega), if_neg (by omega)]

/-! ### What it says of what is right -/
def Nm.ok (x : Nm) : Prop := x.ty.right = true ∧ x.vars.length ≤ lim ∧ ∀ v ∈ x.vars, 0 ≤ v ∧ v ≤ 1048576
def NmsOk (l : List Nm) : Prop := ∀ x ∈ l, x.ok
theorem NmsOk.app {l m : List Nm} (h : NmsOk l) (h' : NmsOk m) : NmsOk (l ++ m) := fun x hx => by
  rcases List.mem_append.1 hx with hx | hx
  · exact h x hx
  · exact h' x hx
theorem NmsOk.one {x : Nm} (h : x.ok) : NmsOk [x] := fun y hy => by simp at hy; subst hy; exact h
theorem NmsOk.two {x y : Nm} (h : x.ok) (h' : y.ok) : NmsOk [x, y] := fun z hz => by
  simp at hz; rcases hz with rfl | rfl
  · exact h
  · exact h'
theorem NmsOk.ents {b : List (ByteArray × Ty)} (h : ∀ e ∈ b, e.2.right = true) : NmsOk (b.map nmOfE) := fun x hx => by
  obtain ⟨e, he, rfl⟩ := List.mem_map.1 hx
  exact ⟨h e he, by simp [nmOfE], by simp [nmOfE]⟩
theorem Nm.ok_nil {n : ByteArray} {t : Ty} (h : t.right = true) : (⟨n, t, []⟩ : Nm).ok := ⟨h, by simp, by simp⟩

theorem right_fun {a b : Ty} (ha : a.right = true) (hb : b.right = true) : (Ty.mk 9 0 [a, b]).right = true := by
  rw [Ty.right_mk]
  refine ⟨rfl, by omega, by omega, .inr rfl, ?_⟩
  simp [ha, hb]
theorem right_pair {a b : Ty} (ha : a.right = true) (hb : b.right = true) : (Ty.mk 7 0 [a, b]).right = true := by
  rw [Ty.right_mk]
  refine ⟨rfl, by omega, by omega, .inr rfl, ?_⟩
  simp [ha, hb]
theorem right_list {a : Ty} (ha : a.right = true) : (Ty.mk 8 0 [a]).right = true := by
  rw [Ty.right_mk]
  refine ⟨rfl, by omega, by omega, .inr rfl, ?_⟩
  simp [ha]
theorem right_leaf {k : Int} (h : 1 ≤ k ∧ k ≤ 5) : (Ty.mk k 0 []).right = true := by
  rw [Ty.right_mk]
  refine ⟨?_, by omega, by omega, .inr rfl, by simp⟩
  unfold arity
  rw [if_pos (by omega)]
  rfl

theorem getD_right {l : List Ty} (h : ∀ t ∈ l, t.right = true) {i : Nat} (hi : i < l.length) : (l.getD i zeroTy).right = true := by
  rw [List.getD_eq_getElem?_getD, List.getElem?_eq_getElem hi]
  exact h _ (List.getElem_mem hi)

theorem ckKids_ok {l : List Nm} {S : List Int} : ∀ {ks : List Tm} {ys : List Ty}, ckKids l S (ks.map ck) = .ok ys → ys.length = ks.length ∧ ∀ y ∈ ys, ∃ k ∈ ks, ck k l S = .ok y
  | [], ys, h => by simp only [List.map_nil, ckKids, Except.ok.injEq] at h; subst h; simp
  | k :: ks, ys, h => by
    simp only [List.map_cons, ckKids] at h
    cases hk : ck k l S with
    | error e => rw [hk] at h; cases h
    | ok y =>
      rw [hk] at h
      simp only [Except.bind] at h
      cases hr : ckKids l S (ks.map ck) with
      | error e => rw [hr] at h; cases h
      | ok r =>
        rw [hr] at h
        simp only [Except.ok.injEq] at h
        subst h
        obtain ⟨h1, h2⟩ := ckKids_ok hr
        refine ⟨by simp [h1], fun z hz => ?_⟩
        rcases List.mem_cons.1 hz with rfl | hz
        · exact ⟨k, List.mem_cons_self .., hk⟩
        · obtain ⟨k', a, b⟩ := h2 z hz
          exact ⟨k', List.mem_cons_of_mem _ a, b⟩

theorem ckOf_right {t : Tm} (ht : t.right = true) (hk : t.kind = 6 ∨ t.kind = 8 ∨ t.kind = 10 ∨ t.kind = 13 ∨ t.kind = 15 ∨ t.kind = 16) {S : List Int} {ys : List Ty} (hl : ys.length = t.kids.length) (hy : ∀ y ∈ ys, y.right = true) {y : Ty} (h : ckOf t S ys = .ok y) : y.right = true := by
  have own := Tm.right_own ht
  unfold ckOf at h
  simp only at h
  split at h
  · rename_i h6
    obtain ⟨a, b, e⟩ := Tm.kids2 ht (.inl h6)
    rw [e] at hl
    match ys, hl with
    | [a, b], _ => cases h; exact right_pair (hy _ (by simp)) (hy _ (by simp))
  split at h
  · rename_i h8
    obtain ⟨a, b, e⟩ := Tm.kids2 ht (by omega)
    split at h
    · cases h; exact getD_right hy (by rw [hl, e]; simp)
    · cases h
  split at h
  · rename_i h8
    obtain ⟨a, b, e⟩ := Tm.kids2 ht (by omega)
    split at h
    · rename_i hx
      cases h
      have hr := getD_right hy (i := 0) (by rw [hl, e]; simp)
      obtain ⟨p, q, e2⟩ := two_arity hr (.inr hx.1)
      refine getD_right (fun u hu => Ty.right_kid hr hu) (by rw [e2]; simp)
    · cases h
  split at h
  · rename_i h8
    obtain ⟨a, b, c, e⟩ := Tm.kids3 ht h8
    split at h
    · cases h; exact getD_right hy (by rw [hl, e]; simp)
    · cases h
  split at h
  · split at h
    · split at h
      · cases h; exact right_leaf (by omega)
      · cases h
    · split at h
      · cases h; refine right_leaf ?_; split <;> omega
      · cases h
  split at h
  · rename_i h16
    split at h
    · split at h
      · cases h; exact own.b (by rw [h16]; rfl)
      · cases h
    · cases h
  · cases h

theorem ckArms_right {y : Ty} (hy : y.right = true) {l : List Nm} (hl : NmsOk l) {S : List Int} : ∀ {r : List (Pat × Chk)} {out : Option Ty} {z : Ty},
    (∀ p ∈ r, ∀ m : List Nm, NmsOk m → ∀ u, p.2 m S = .ok u → u.right = true) → (∀ o, out = some o → o.right = true) → (r = [] → out ≠ none) → ckArms y l S r out = .ok z → z.right = true
  | [], out, z, _, ho, hn, h => by
    simp only [ckArms, Except.ok.injEq] at h
    cases out with
    | none => exact absurd rfl (hn rfl)
    | some o => simp only [Option.getD_some] at h; subst h; exact ho o rfl
  | (p, f) :: r, out, z, hr, ho, hn, h => by
    simp only [ckArms] at h
    cases hb : p.binds y with
    | none => rw [hb] at h; cases h
    | some b =>
      rw [hb] at h
      simp only at h
      cases hf : f (l ++ b.map nmOfE) S with
      | error e => rw [hf] at h; cases h
      | ok a =>
        rw [hf] at h
        simp only [Except.bind] at h
        have ha : a.right = true := hr (p, f) (List.mem_cons_self ..) _ (hl.app (NmsOk.ents (Pat.binds_right p y b hy hb))) a hf
        cases out with
        | none => exact ckArms_right hy hl (fun p' hp' => hr p' (List.mem_cons_of_mem _ hp')) (fun o h => by cases h; exact ha) (by simp) h
        | some o =>
          simp only at h
          split at h
          · exact ckArms_right hy hl (fun p' hp' => hr p' (List.mem_cons_of_mem _ hp')) ho (by simp) h
          · cases h

theorem ck_right (t : Tm) : t.right = true → t.fit → ∀ (l : List Nm) (S : List Int) (y : Ty), NmsOk l → ck t l S = .ok y → y.right = true := by
  induction t using Tm.ind with
  | h t ih =>
    intro ht hfit l S y hl h
    have own := Tm.right_own ht
    have hvars : ∀ v ∈ t.vars, 0 ≤ v ∧ v ≤ 1048576 := own.vars
    have hvl := Nat.le_of_lt hfit.one.vars
    rcases Tm.kinds ht with hk | hk | hk | hk | hk | hk | hk | hk | hk | hk | hk | hk | hk
    · rw [ck_name hk] at h
      cases hf : l.reverse.find? fun x => decide (x.name = t.name) with
      | none => rw [hf] at h; cases h
      | some x =>
        rw [hf] at h
        simp only at h
        have hx := hl x (List.mem_reverse.1 (List.mem_of_find?_eq_some hf))
        split at h
        · split at h
          · cases h
            refine Ty.right_put (fun e he => ?_) _ hx.1
            exact own.args _ (List.of_mem_zip he).2
          · cases h
        · cases h
    · rw [ck_leaf hk] at h
      cases h
      exact right_leaf (by omega)
    · rw [ck_rest (by omega)] at h
      cases hr : ckKids l S (t.kids.map ck) with
      | error e => rw [hr] at h; cases h
      | ok ys =>
        rw [hr] at h
        obtain ⟨h1, h2⟩ := ckKids_ok hr
        exact ckOf_right ht (by omega) h1 (fun y hy => by obtain ⟨k, a, b⟩ := h2 y hy; exact ih k a (Tm.right_kid ht a) (hfit.kid a) l S y hl b) h
    · rw [ck_nil hk] at h
      split at h
      · cases h; exact right_list (own.a (by rw [hk]; rfl))
      · cases h
    · rw [ck_rest (by omega)] at h
      cases hr : ckKids l S (t.kids.map ck) with
      | error e => rw [hr] at h; cases h
      | ok ys =>
        rw [hr] at h
        obtain ⟨h1, h2⟩ := ckKids_ok hr
        exact ckOf_right ht (by omega) h1 (fun y hy => by obtain ⟨k, a, b⟩ := h2 y hy; exact ih k a (Tm.right_kid ht a) (hfit.kid a) l S y hl b) h
    · obtain ⟨k, hkk⟩ := Tm.kids1 ht (.inl hk)
      have hm : k ∈ t.kids := by rw [hkk]; simp
      have ha := own.a (by rw [hk]; rfl)
      rw [ck_fun hk hkk] at h
      split at h
      · cases hc : ck k (l ++ [⟨t.name, t.a, []⟩]) S with
        | error e => rw [hc] at h; cases h
        | ok z =>
          rw [hc] at h
          cases h
          exact right_fun ha (ih k hm (Tm.right_kid ht hm) (hfit.kid hm) _ _ _ (hl.app (.one (Nm.ok_nil ha))) hc)
      · cases h
    · rw [ck_rest (by omega)] at h
      cases hr : ckKids l S (t.kids.map ck) with
      | error e => rw [hr] at h; cases h
      | ok ys =>
        rw [hr] at h
        obtain ⟨h1, h2⟩ := ckKids_ok hr
        exact ckOf_right ht (by omega) h1 (fun y hy => by obtain ⟨k, a, b⟩ := h2 y hy; exact ih k a (Tm.right_kid ht a) (hfit.kid a) l S y hl b) h
    · obtain ⟨k, m, hkk⟩ := Tm.kids2 ht (by omega)
      have hm1 : k ∈ t.kids := by rw [hkk]; simp
      have hm2 : m ∈ t.kids := by rw [hkk]; simp
      rw [ck_let hk hkk] at h
      split at h
      · cases hc : ck k l (t.vars ++ S) with
        | error e => rw [hc] at h; cases h
        | ok z =>
          rw [hc] at h
          have hz := ih k hm1 (Tm.right_kid ht hm1) (hfit.kid hm1) _ _ _ hl hc
          exact ih m hm2 (Tm.right_kid ht hm2) (hfit.kid hm2) _ _ _ (hl.app (.one ⟨hz, hvl, hvars⟩)) h
      · cases h
    · obtain ⟨k, m, hkk⟩ := Tm.kids2 ht (by omega)
      have hm1 : k ∈ t.kids := by rw [hkk]; simp
      have hm2 : m ∈ t.kids := by rw [hkk]; simp
      have ha := own.a (by rw [hk]; rfl)
      have hb := own.b (by rw [hk]; rfl)
      rw [ck_rec hk hkk] at h
      split at h
      · split at h
        · cases hc : ck k (l ++ [⟨t.name, .mk 9 0 [t.a, t.b], []⟩, ⟨t.arg, t.a, []⟩]) (t.vars ++ S) with
          | error e => rw [hc] at h; cases h
          | ok z =>
            rw [hc] at h
            simp only [Except.bind] at h
            split at h
            · exact ih m hm2 (Tm.right_kid ht hm2) (hfit.kid hm2) _ _ _ (hl.app (.one ⟨right_fun ha hb, hvl, hvars⟩)) h
            · cases h
        · cases h
      · cases h
    · rw [ck_rest (by omega)] at h
      cases hr : ckKids l S (t.kids.map ck) with
      | error e => rw [hr] at h; cases h
      | ok ys =>
        rw [hr] at h
        obtain ⟨h1, h2⟩ := ckKids_ok hr
        exact ckOf_right ht (by omega) h1 (fun y hy => by obtain ⟨k, a, b⟩ := h2 y hy; exact ih k a (Tm.right_kid ht a) (hfit.kid a) l S y hl b) h
    · obtain ⟨k, ks, hkk, hlen⟩ := Tm.kidsM ht hk
      have hm1 : k ∈ t.kids := by rw [hkk]; simp
      rw [ck_match hk hkk] at h
      cases hc : ck k l S with
      | error e => rw [hc] at h; cases h
      | ok z =>
        rw [hc] at h
        have hz := ih k hm1 (Tm.right_kid ht hm1) (hfit.kid hm1) _ _ _ hl hc
        refine ckArms_right hz hl (fun p hp m hm u hu => ?_) (fun o h => by cases h) (fun hn => ?_) h
        · obtain ⟨k', hk', e⟩ := List.mem_map.1 (List.of_mem_zip hp).2
          have hm2 : k' ∈ t.kids := by rw [hkk]; exact List.mem_cons_of_mem _ hk'
          exact ih k' hm2 (Tm.right_kid ht hm2) (hfit.kid hm2) m S u hm (by rw [e]; exact hu)
        · have := own.match1 hk
          have h1 := congrArg List.length hn
          rw [List.length_zip, List.length_map, hlen, Nat.min_self, List.length_nil] at h1
          omega
    · rw [ck_rest (by omega)] at h
      cases hr : ckKids l S (t.kids.map ck) with
      | error e => rw [hr] at h; cases h
      | ok ys =>
        rw [hr] at h
        obtain ⟨h1, h2⟩ := ckKids_ok hr
        exact ckOf_right ht (by omega) h1 (fun y hy => by obtain ⟨k, a, b⟩ := h2 y hy; exact ih k a (Tm.right_kid ht a) (hfit.kid a) l S y hl b) h
    · rw [ck_rest (by omega)] at h
      cases hr : ckKids l S (t.kids.map ck) with
      | error e => rw [hr] at h; cases h
      | ok ys =>
        rw [hr] at h
        obtain ⟨h1, h2⟩ := ckKids_ok hr
        exact ckOf_right ht (by omega) h1 (fun y hy => by obtain ⟨k, a, b⟩ := h2 y hy; exact ih k a (Tm.right_kid ht a) (hfit.kid a) l S y hl b) h

end Go.Su

/-
  NAMES THAT ARE FREE: rows that rise, what a term binds, which names are free in it.
-/
namespace Go.Su

/-! ### The order of texts -/
theorem bytesLt_iff (x y : List UInt8) : bytesLt x y = decide (x < y) := by
  induction x generalizing y with
  | nil => cases y <;> simp [bytesLt]
  | cons a x ih =>
    cases y with
    | nil => simp [bytesLt]
    | cons b y =>
      simp only [bytesLt, ih, List.cons_lt_cons_iff]
      by_cases h : a < b <;> by_cases h' : a = b <;> simp [h, h']

def key8 (s : ByteArray) : List UInt8 := s.data.toList

theorem key8_inj {a b : ByteArray} (h : key8 a = key8 b) : a = b := bytes_ext (by rw [bytes_toList, bytes_toList]; exact h)

theorem key8_ne {a b : ByteArray} (h : a ≠ b) : key8 a ≠ key8 b := fun h' => h (key8_inj h')

def strLt (a b : ByteArray) : Bool := decide (key8 a < key8 b)

@[simp] theorem dBin_slss (a b : ByteArray) : dBin .lss (.str a) (.str b) = some (.bool (strLt a b)) := by
  show some (DV.bool (bytesLt a.toList b.toList)) = _
  rw [bytesLt_iff, bytes_toList, bytes_toList]
  rfl

theorem lt8_trans {a b c : List UInt8} (h : a < b) (h' : b < c) : a < c := List.lt_trans h h'
theorem lt8_irrefl (a : List UInt8) : ¬ a < a := List.lt_irrefl a
theorem lt8_tri (a b : List UInt8) : a < b ∨ a = b ∨ b < a := by
  by_cases h : a < b
  · exact .inl h
  · by_cases h' : b < a
    · exact .inr (.inr h')
    · exact .inr (.inl (List.le_antisymm (List.not_lt.1 h') (List.not_lt.1 h)))

/-! ### A row that rises -/
def rise : List ByteArray → ByteArray → List ByteArray
  | [], s => [s]
  | x :: l, s => if strLt x s = true then x :: rise l s else if x = s then x :: l else s :: x :: l

theorem rise_len (l : List ByteArray) (s : ByteArray) : (rise l s).length ≤ l.length + 1 := by
  induction l with
  | nil => simp [rise]
  | cons x l ih =>
    unfold rise
    split
    · simp only [List.length_cons]; omega
    · split <;> simp

theorem mem_rise {l : List ByteArray} {s x : ByteArray} : x ∈ rise l s ↔ x = s ∨ x ∈ l := by
  induction l with
  | nil => simp [rise]
  | cons y l ih =>
    unfold rise
    split
    · simp only [List.mem_cons, ih]
      constructor
      · rintro (h | h | h)
        · exact .inr (.inl h)
        · exact .inl h
        · exact .inr (.inr h)
      · rintro (h | h | h)
        · exact .inr (.inl h)
        · exact .inl h
        · exact .inr (.inr h)
    · split
      · rename_i h
        subst h
        simp
      · simp

def Rises (l : List ByteArray) : Prop := l.Pairwise fun a b => key8 a < key8 b

theorem rise_rises {l : List ByteArray} {s : ByteArray} (h : Rises l) : Rises (rise l s) := by
  induction l with
  | nil => simp [rise, Rises]
  | cons y l ih =>
    obtain ⟨h1, h2⟩ := List.pairwise_cons.1 h
    unfold rise
    by_cases c : strLt y s = true
    · rw [if_pos c]
      refine List.pairwise_cons.2 ⟨fun x hx => ?_, ih h2⟩
      rcases mem_rise.1 hx with rfl | hx
      · simpa [strLt] using c
      · exact h1 x hx
    · rw [if_neg c]
      by_cases e : y = s
      · rw [if_pos e]; exact h
      · rw [if_neg e]
        have hlt : key8 s < key8 y := by
          rcases lt8_tri (key8 y) (key8 s) with h | h | h
          · exact absurd (by simpa [strLt] using h) c
          · exact absurd (key8_inj h) e
          · exact h
        refine List.pairwise_cons.2 ⟨fun x hx => ?_, h⟩
        rcases List.mem_cons.1 hx with rfl | hx
        · exact hlt
        · exact lt8_trans hlt (h1 x hx)

theorem mem_rises {l m : List ByteArray} {x : ByteArray} : x ∈ m.foldl rise l ↔ x ∈ l ∨ x ∈ m := by
  induction m generalizing l with
  | nil => simp
  | cons s m ih =>
    rw [List.foldl_cons, ih, mem_rise]
    simp only [List.mem_cons]
    constructor
    · rintro ((h | h) | h)
      · exact .inr (.inl h)
      · exact .inl h
      · exact .inr (.inr h)
    · rintro (h | h | h)
      · exact .inl (.inr h)
      · exact .inl (.inl h)
      · exact .inr h

theorem rises_rises {l m : List ByteArray} (h : Rises l) : Rises (m.foldl rise l) := by
  induction m generalizing l with
  | nil => exact h
  | cons s m ih => exact ih (rise_rises h)

theorem rises_len (l m : List ByteArray) : (m.foldl rise l).length ≤ l.length + m.length := by
  induction m generalizing l with
  | nil => simp
  | cons s m ih =>
    have := ih (rise l s)
    have := rise_len l s
    simp only [List.foldl_cons, List.length_cons]
    omega

theorem Rises.nodup {l : List ByteArray} (h : Rises l) : (l.map key8).Nodup := by
  rw [List.nodup_iff_pairwise_ne, List.pairwise_map]
  exact List.Pairwise.imp (fun {a b} (hab : key8 a < key8 b) (he : key8 a = key8 b) => lt8_irrefl (key8 b) (by rw [he] at hab; exact hab)) h

/-- Two rows that rise and hold the same are the same. -/
theorem Rises.eq {l m : List ByteArray} (hl : Rises l) (hm : Rises m) (h : ∀ x, x ∈ l ↔ x ∈ m) : l = m := by
  induction l generalizing m with
  | nil =>
    cases m with
    | nil => rfl
    | cons y m => exact absurd ((h y).2 (List.mem_cons_self ..)) (by simp)
  | cons x l ih =>
    cases m with
    | nil => exact absurd ((h x).1 (List.mem_cons_self ..)) (by simp)
    | cons y m =>
      obtain ⟨a1, a2⟩ := List.pairwise_cons.1 hl
      obtain ⟨b1, b2⟩ := List.pairwise_cons.1 hm
      have hxy : x = y := by
        rcases List.mem_cons.1 ((h x).1 (List.mem_cons_self ..)) with e | hx
        · exact e
        · rcases List.mem_cons.1 ((h y).2 (List.mem_cons_self ..)) with e | hy
          · exact e.symm
          · exact absurd (lt8_trans (a1 y hy) (b1 x hx)) (lt8_irrefl _)
      subst hxy
      congr 1
      refine ih a2 b2 fun z => ⟨fun hz => ?_, fun hz => ?_⟩
      · rcases List.mem_cons.1 ((h z).1 (List.mem_cons_of_mem _ hz)) with rfl | hz'
        · exact absurd (a1 z hz) (lt8_irrefl _)
        · exact hz'
      · rcases List.mem_cons.1 ((h z).2 (List.mem_cons_of_mem _ hz)) with rfl | hz'
        · exact absurd (b1 z hz) (lt8_irrefl _)
        · exact hz'

/-! ### A map's keys, rising -/
/-- A map whose keys are the texts of which `P` speaks. -/
structure KeysAre (es : List (DV × DV)) (P : ByteArray → Prop) : Prop where
  str : ∀ e ∈ es, ∃ s n, e = (.str s, .int .i64 n)
  nodup : (es.map fun e => mkeyB e.1).Nodup
  mem : ∀ s, key8 s ∈ es.map (fun e => mkeyB e.1) ↔ P s

theorem KeysAre.nil : KeysAre [] fun _ => False := ⟨by simp, by simp, by simp⟩

theorem mkeyB_str (s : ByteArray) : mkeyB (.str s) = key8 s := rfl

theorem KeysAre.get {es : List (DV × DV)} {P : ByteArray → Prop} (h : KeysAre es P) (s : ByteArray) : ∃ n, (mGet es (.str s)).getD (.int .i64 0) = .int .i64 n := by
  unfold mGet
  cases hf : es.find? fun e => keyEq (.str s) e.1 with
  | none => exact ⟨0, rfl⟩
  | some e =>
    obtain ⟨s', n, rfl⟩ := h.str e (List.mem_of_find?_eq_some hf)
    exact ⟨n, rfl⟩

theorem mSet_keys (es : List (DV × DV)) (s : ByteArray) (v : DV) (h : ∀ e ∈ es, ∃ s n, e = (DV.str s, DV.int .i64 n)) :
    (mSet es (.str s) v).map (fun e => mkeyB e.1) = if key8 s ∈ es.map (fun e => mkeyB e.1) then es.map (fun e => mkeyB e.1) else es.map (fun e => mkeyB e.1) ++ [key8 s] := by
  induction es with
  | nil => simp [mSet, mkeyB_str]
  | cons e es ih =>
    obtain ⟨s', n, rfl⟩ := h e (List.mem_cons_self ..)
    have ih := ih fun e he => h e (List.mem_cons_of_mem _ he)
    unfold mSet
    rw [keyEq_str]
    by_cases hs : s = s'
    · subst hs
      simp [mkeyB_str]
    · have hk := key8_ne hs
      simp only [hs, decide_false, Bool.false_eq_true, if_false, List.map_cons, ih, mkeyB_str, List.mem_cons]
      by_cases hm : key8 s ∈ es.map fun e => mkeyB e.1
      · simp [hm]
      · simp [hm, hk]

theorem mSet_str (es : List (DV × DV)) (s : ByteArray) (n : Int) (h : ∀ e ∈ es, ∃ s n, e = (DV.str s, DV.int .i64 n)) : ∀ e ∈ mSet es (.str s) (.int .i64 n), ∃ s n, e = (DV.str s, DV.int .i64 n) := by
  induction es with
  | nil => intro e he; simp only [mSet, List.mem_singleton] at he; exact ⟨s, n, he⟩
  | cons x es ih =>
    obtain ⟨s', n', rfl⟩ := h x (List.mem_cons_self ..)
    have ih := ih fun e he => h e (List.mem_cons_of_mem _ he)
    unfold mSet
    intro e he
    split at he
    · rcases List.mem_cons.1 he with rfl | he
      · exact ⟨s', n, rfl⟩
      · exact h e (List.mem_cons_of_mem _ he)
    · rcases List.mem_cons.1 he with rfl | he
      · exact ⟨s', n', rfl⟩
      · exact ih e he

theorem KeysAre.set {es : List (DV × DV)} {P : ByteArray → Prop} (h : KeysAre es P) (s : ByteArray) (n : Int) : KeysAre (mSet es (.str s) (.int .i64 n)) fun x => x = s ∨ P x := by
  refine ⟨mSet_str es s n h.str, ?_, fun x => ?_⟩
  · rw [mSet_keys es s _ h.str]
    split
    · exact h.nodup
    · rename_i hs
      refine List.nodup_append.2 ⟨h.nodup, by simp, fun a ha b hb => ?_⟩
      rw [List.mem_singleton.1 hb]
      rintro rfl
      exact hs ha
  · rw [mSet_keys es s _ h.str]
    split
    · rename_i hs
      rw [h.mem x]
      constructor
      · exact fun hp => .inr hp
      · rintro (rfl | hp)
        · exact (h.mem _).1 hs
        · exact hp
    · rw [List.mem_append, h.mem x, List.mem_singleton]
      constructor
      · rintro (hp | hp)
        · exact .inr hp
        · exact .inl (key8_inj hp)
      · rintro (rfl | hp)
        · exact .inr rfl
        · exact .inl hp

theorem KeysAre.congr {es : List (DV × DV)} {P Q : ByteArray → Prop} (h : KeysAre es P) (hq : ∀ s, P s ↔ Q s) : KeysAre es Q := ⟨h.str, h.nodup, fun s => (h.mem s).trans (hq s)⟩

/-- The keys, sorted, are the row that rises. -/
theorem sortKeys_rises {es : List (DV × DV)} {L : List ByteArray} (h : KeysAre es fun s => s ∈ L) (hL : Rises L) : sortKeys es = encStrs L ∧ es.length = L.length := by
  have hK : (es.map fun e => mkeyB e.1).Perm (L.map key8) := by
    refine (List.perm_ext_iff_of_nodup h.nodup hL.nodup).2 fun k => ?_
    constructor
    · intro hk
      obtain ⟨e, he, rfl⟩ := List.mem_map.1 hk
      obtain ⟨s, n, rfl⟩ := h.str e he
      exact List.mem_map_of_mem ((h.mem s).1 hk)
    · intro hk
      obtain ⟨s, hs, rfl⟩ := List.mem_map.1 hk
      exact (h.mem s).2 hs
  have hs : sortB (es.map fun e => mkeyB e.1) = L.map key8 := by
    have h1 : sortB (es.map fun e => mkeyB e.1) = sortB (L.map key8) := Go.mergeSort_of_perm hK
    rw [h1]
    refine List.mergeSort_of_pairwise (le := fun x y => decide (x ≤ y)) ?_
    rw [List.pairwise_map]
    refine List.Pairwise.imp ?_ hL
    intro a b hab
    simp only [decide_eq_true_eq]
    exact List.le_of_lt hab
  refine ⟨?_, by have := hK.length_eq; simpa using this⟩
  unfold sortKeys
  rw [hs]
  simp only [encStrs, List.map_map]
  congr 1

/-! ### Counters -/
def CntS (es : List (DV × DV)) (c : ByteArray → Int) : Prop := ∀ v, (mGet es (.str v)).getD (.int .i64 0) = .int .i64 (c v)
theorem CntS.nil : CntS [] fun _ => 0 := fun _ => rfl
theorem CntS.set {es : List (DV × DV)} {c : ByteArray → Int} (h : CntS es c) (a : ByteArray) (n : Int) : CntS (mSet es (.str a) (.int .i64 n)) fun v => if a = v then n else c v := by
  intro v
  rw [mGet_set]
  by_cases e : a = v
  · simp [e]
  · simp [e, h v]

/-! ### What a term binds, and what is free -/
def Tm.binds (t : Tm) (i : Nat) : List ByteArray :=
  if t.kind = 9 ∨ (t.kind = 11 ∧ i = 1) ∨ (t.kind = 12 ∧ i = 1) then [t.name]
  else if t.kind = 12 then [t.name, t.arg]
  else if t.kind = 14 ∧ 0 < i then match t.pats[i - 1]? with
    | some p => p.names
    | none => []
  else []

mutual
def Tm.fr : Tm → List ByteArray → List ByteArray
  | .mk k lo hi nm ar n s op lb ng vs a b ys ps ks, B => (if k = 1 ∧ (B.any fun x => decide (x = nm)) = false then [nm] else []) ++ Tm.frL (Tm.binds (.mk k lo hi nm ar n s op lb ng vs a b ys ps ks)) 0 ks B
def Tm.frL : (Nat → List ByteArray) → Nat → List Tm → List ByteArray → List ByteArray
  | _, _, [], _ => []
  | b, i, k :: ks, B => Tm.fr k (B ++ b i) ++ Tm.frL b (i + 1) ks B
end

theorem Tm.fr_eq (t : Tm) (B : List ByteArray) : t.fr B = (if t.kind = 1 ∧ (B.any fun x => decide (x = t.name)) = false then [t.name] else []) ++ Tm.frL t.binds 0 t.kids B := by
  cases t
  rw [Tm.fr]
  rfl
theorem Tm.frL_nil (b : Nat → List ByteArray) (i : Nat) (B : List ByteArray) : Tm.frL b i [] B = [] := by rw [Tm.frL]
theorem Tm.frL_cons (b : Nat → List ByteArray) (i : Nat) (k : Tm) (ks : List Tm) (B : List ByteArray) : Tm.frL b i (k :: ks) B = k.fr (B ++ b i) ++ Tm.frL b (i + 1) ks B := by rw [Tm.frL]

theorem Tm.fr_len (t : Tm) : ∀ B, (t.fr B).length ≤ t.size := by
  induction t using Tm.ind with
  | h t ih =>
    intro B
    rw [Tm.fr_eq, Tm.size_eq]
    have key : ∀ (ks : List Tm) (i : Nat), (∀ k ∈ ks, ∀ B, (k.fr B).length ≤ k.size) → (Tm.frL t.binds i ks B).length ≤ (ks.map Tm.size).sum := by
      intro ks
      induction ks with
      | nil => intro i _; simp [Tm.frL_nil]
      | cons k ks ihk =>
        intro i h
        rw [Tm.frL_cons]
        have h1 := h k (List.mem_cons_self ..) (B ++ t.binds i)
        have h2 := ihk (i + 1) fun k' hk' => h k' (List.mem_cons_of_mem _ hk')
        simp only [List.length_append, List.map_cons, List.sum_cons]
        omega
    have := key t.kids 0 ih
    simp only [List.length_append]
    split <;> simp <;> omega

def Tm.free (t : Tm) : List ByteArray := (t.fr []).foldl rise []

theorem Tm.free_rises (t : Tm) : Rises t.free := rises_rises (by simp [Rises])
theorem Tm.mem_free {t : Tm} {s : ByteArray} : s ∈ t.free ↔ s ∈ t.fr [] := by
  unfold Tm.free
  rw [mem_rises]
  simp
theorem Tm.free_len (t : Tm) : t.free.length ≤ t.size := by
  have h1 := rises_len [] (t.fr [])
  have h2 := t.fr_len []
  unfold Tm.free
  simp only [List.length_nil] at h1
  omega

theorem Tm.size_mass (t : Tm) : t.size ≤ t.mass := by
  induction t using Tm.ind with
  | h t ih =>
    rw [Tm.size_eq, Tm.mass_eq]
    have key : ∀ ks : List Tm, (∀ k ∈ ks, k.size ≤ k.mass) → (ks.map Tm.size).sum ≤ (ks.map Tm.mass).sum := by
      intro ks
      induction ks with
      | nil => simp
      | cons k ks ihk =>
        intro h
        simp only [List.map_cons, List.sum_cons]
        have := h k (List.mem_cons_self ..)
        have := ihk fun k' hk' => h k' (List.mem_cons_of_mem _ hk')
        omega
    have := key t.kids ih
    omega

/-- How much a term binds in a kid. -/
theorem Tm.binds_len (t : Tm) (i : Nat) : (t.binds i).length + 2 * (t.kids.map Tm.mass).sum ≤ 2 * t.mass := by
  have hm := t.mass_eq
  have h2 : (t.binds i).length ≤ 2 + (t.pats.map Pat.mass).sum := by
    unfold Tm.binds
    split
    · simp; omega
    · split
      · simp
      · split
        · split
          · rename_i p hp
            have h1 := mem_sum (f := Pat.mass) (List.mem_of_getElem? hp)
            have h3 := p.namesOn_len []
            have h4 := p.size_mass
            have h5 : p.names = p.namesOn [] := rfl
            rw [h5]
            simp only [List.length_nil] at h3
            omega
          · simp
        · simp
  omega

theorem Tm.right_one {t : Tm} (h : t.right = true) : t.one = true := by rw [Tm.right_eq, Bool.and_eq_true] at h; exact h.1
theorem Tm.kids14 {t : Tm} (h : t.right = true) (hk : t.kind = 14) : t.kids.length = t.pats.length + 1 := by
  have h1 := Tm.right_one h
  unfold Tm.one at h1
  simp only [Bool.and_eq_true, decide_eq_true_eq] at h1
  have h2 := h1.1.1.1.1.1.2
  rw [hk] at h2
  simp [kKids] at h2
  omega

end Go.Su

/-
  A closed term put for a name that has no variables.
-/
namespace Go.Su

mutual
def Tm.put0 : Tm → ByteArray → Tm → Option Tm
  | .mk k lo hi nm ar n ss op lb ng vs a b ys ps ks, s, v =>
    if k = 1 then (if nm = s then (if ys.length = 0 then some v else none) else some (.mk k lo hi nm ar n ss op lb ng vs a b ys ps ks))
    else match Tm.put0L (Tm.binds (.mk k lo hi nm ar n ss op lb ng vs a b ys ps ks)) 0 ks s v with
      | some ks' => some (.mk k lo hi nm ar n ss op lb ng vs a b ys ps ks')
      | none => none
def Tm.put0L : (Nat → List ByteArray) → Nat → List Tm → ByteArray → Tm → Option (List Tm)
  | _, _, [], _, _ => some []
  | b, i, k :: ks, s, v =>
    match (if ((b i).any fun x => decide (x = s)) = true then some k else Tm.put0 k s v) with
    | some k' => match Tm.put0L b (i + 1) ks s v with
      | some ks' => some (k' :: ks')
      | none => none
    | none => none
end

/-- Other kids. -/
def Tm.withKids (t : Tm) (ks : List Tm) : Tm := .mk t.kind t.lo t.hi t.name t.arg t.n t.s t.op t.label t.neg t.vars t.a t.b t.args t.pats ks

theorem Tm.withKids_self (t : Tm) : t.withKids t.kids = t := by cases t; rfl
@[simp] theorem Tm.withKids_kind (t : Tm) (ks : List Tm) : (t.withKids ks).kind = t.kind := rfl
@[simp] theorem Tm.withKids_kids (t : Tm) (ks : List Tm) : (t.withKids ks).kids = ks := rfl
@[simp] theorem Tm.withKids_name (t : Tm) (ks : List Tm) : (t.withKids ks).name = t.name := rfl
@[simp] theorem Tm.withKids_args (t : Tm) (ks : List Tm) : (t.withKids ks).args = t.args := rfl
@[simp] theorem Tm.withKids_pats (t : Tm) (ks : List Tm) : (t.withKids ks).pats = t.pats := rfl
@[simp] theorem Tm.withKids_binds (t : Tm) (ks : List Tm) : (t.withKids ks).binds = t.binds := rfl
@[simp] theorem Tm.withKids_with (t : Tm) (ks ks' : List Tm) : (t.withKids ks).withKids ks' = t.withKids ks' := rfl

theorem Tm.put0_eq (s : ByteArray) (v t : Tm) : t.put0 s v = if t.kind = 1 then (if t.name = s then (if t.args.length = 0 then some v else none) else some t)
    else (Tm.put0L t.binds 0 t.kids s v).map t.withKids := by
  cases t
  rw [Tm.put0]
  simp only [Tm.kind_mk, Tm.name_mk, Tm.args_mk, Tm.kids_mk]
  generalize Tm.put0L _ _ _ _ _ = y
  cases y <;> rfl

theorem Tm.put0L_nil (b : Nat → List ByteArray) (s : ByteArray) (v : Tm) (i : Nat) : Tm.put0L b i [] s v = some [] := by rw [Tm.put0L]
theorem Tm.put0L_cons (b : Nat → List ByteArray) (s : ByteArray) (v : Tm) (i : Nat) (k : Tm) (ks : List Tm) :
    Tm.put0L b i (k :: ks) s v = (if ((b i).any fun x => decide (x = s)) = true then some k else k.put0 s v).bind fun k' => (Tm.put0L b (i + 1) ks s v).map (k' :: ·) := by
  rw [Tm.put0L]
  generalize (if ((b i).any fun x => decide (x = s)) = true then some k else k.put0 s v) = x
  cases x with
  | none => rfl
  | some k' =>
    generalize Tm.put0L b (i + 1) ks s v = y
    cases y <;> rfl

theorem Tm.put0L_len {b : Nat → List ByteArray} {s : ByteArray} {v : Tm} : ∀ {ks ks' : List Tm} {i : Nat}, Tm.put0L b i ks s v = some ks' → ks'.length = ks.length
  | [], ks', i, h => by rw [Tm.put0L_nil] at h; simp only [Option.some.injEq] at h; rw [← h]
  | k :: ks, ks', i, h => by
    rw [Tm.put0L_cons] at h
    cases h1 : (if ((b i).any fun x => decide (x = s)) = true then some k else k.put0 s v) with
    | none => rw [h1] at h; cases h
    | some k' =>
      rw [h1] at h
      cases h2 : Tm.put0L b (i + 1) ks s v with
      | none => rw [h2] at h; cases h
      | some ks2 =>
        rw [h2] at h
        simp only [Option.bind_some, Option.map_some, Option.some.injEq] at h
        rw [← h]
        simp [Tm.put0L_len h2]

end Go.Su

/-
  A closed term put for a name: what it makes of free names, in which order two are put.
-/
namespace Go.Su

theorem any_mem {L : List ByteArray} {s : ByteArray} : (L.any fun x => decide (x = s)) = true ↔ s ∈ L := by simp
theorem any_not {L : List ByteArray} {s : ByteArray} : (L.any fun x => decide (x = s)) = false ↔ s ∉ L := by
  rw [← any_mem (L := L), Bool.not_eq_true]

theorem Tm.mem_frL {b : Nat → List ByteArray} {x : ByteArray} {L : List ByteArray} : ∀ {ks : List Tm} {i : Nat}, x ∈ Tm.frL b i ks L ↔ ∃ (j : Nat) (k : Tm), ks[j]? = some k ∧ x ∈ k.fr (L ++ b (i + j))
  | [], i => by simp [Tm.frL_nil]
  | k :: ks, i => by
    rw [Tm.frL_cons, List.mem_append, Tm.mem_frL (ks := ks)]
    constructor
    · rintro (h | ⟨j, k', h1, h2⟩)
      · exact ⟨0, k, rfl, h⟩
      · exact ⟨j + 1, k', by simpa using h1, by rwa [show i + (j + 1) = i + 1 + j by omega]⟩
    · rintro ⟨j, k', h1, h2⟩
      cases j with
      | zero =>
        simp only [List.getElem?_cons_zero, Option.some.injEq] at h1
        subst h1
        exact .inl h2
      | succ j => exact .inr ⟨j, k', by simpa using h1, by rwa [show i + 1 + j = i + (j + 1) by omega]⟩

theorem Tm.mem_fr {t : Tm} {x : ByteArray} {L : List ByteArray} : x ∈ t.fr L ↔ (t.kind = 1 ∧ x = t.name ∧ t.name ∉ L) ∨ ∃ (j : Nat) (k : Tm), t.kids[j]? = some k ∧ x ∈ k.fr (L ++ t.binds j) := by
  rw [Tm.fr_eq, List.mem_append, Tm.mem_frL]
  simp only [Nat.zero_add, any_not]
  refine or_congr ?_ Iff.rfl
  split
  · rename_i h
    simp only [List.mem_singleton]
    exact ⟨fun e => ⟨h.1, e, any_not.1 h.2⟩, fun e => e.2.1⟩
  · rename_i h
    simp only [List.not_mem_nil, false_iff]
    rintro ⟨h1, -, h3⟩
    exact h ⟨h1, any_not.2 h3⟩

theorem Tm.kid_mem {t k : Tm} {j : Nat} (h : t.kids[j]? = some k) : k ∈ t.kids := List.mem_of_getElem? h

/-- What is free is not bound around. -/
theorem Tm.fr_not (t : Tm) : ∀ (L : List ByteArray) (x : ByteArray), x ∈ t.fr L → x ∉ L := by
  induction t using Tm.ind with
  | h t ih =>
    intro L x h
    rcases Tm.mem_fr.1 h with ⟨-, rfl, h3⟩ | ⟨j, k, h1, h2⟩
    · exact h3
    · exact fun hx => ih k (Tm.kid_mem h1) _ x h2 (List.mem_append.2 (.inl hx))

theorem Tm.fr_more (t : Tm) : ∀ (L M : List ByteArray) (x : ByteArray), (∀ y, y ∈ M → y ∈ L) → (x ∈ t.fr L ↔ x ∈ t.fr M ∧ x ∉ L) := by
  induction t using Tm.ind with
  | h t ih =>
    intro L M x hs
    constructor
    · intro h
      refine ⟨?_, Tm.fr_not t L x h⟩
      rcases Tm.mem_fr.1 h with ⟨h1, h2, h3⟩ | ⟨j, k, h1, h2⟩
      · exact Tm.mem_fr.2 (.inl ⟨h1, h2, fun hm => h3 (hs _ hm)⟩)
      · refine Tm.mem_fr.2 (.inr ⟨j, k, h1, ((ih k (Tm.kid_mem h1) (L ++ t.binds j) (M ++ t.binds j) x fun y hy => ?_).1 h2).1⟩)
        rcases List.mem_append.1 hy with hy | hy
        · exact List.mem_append.2 (.inl (hs y hy))
        · exact List.mem_append.2 (.inr hy)
    · rintro ⟨h, hx⟩
      rcases Tm.mem_fr.1 h with ⟨h1, h2, h3⟩ | ⟨j, k, h1, h2⟩
      · exact Tm.mem_fr.2 (.inl ⟨h1, h2, by rw [← h2]; exact hx⟩)
      · refine Tm.mem_fr.2 (.inr ⟨j, k, h1, (ih k (Tm.kid_mem h1) (L ++ t.binds j) (M ++ t.binds j) x fun y hy => ?_).2 ⟨h2, fun hx' => ?_⟩⟩)
        · rcases List.mem_append.1 hy with hy | hy
          · exact List.mem_append.2 (.inl (hs y hy))
          · exact List.mem_append.2 (.inr hy)
        · rcases List.mem_append.1 hx' with hx' | hx'
          · exact hx hx'
          · exact Tm.fr_not k _ x h2 (List.mem_append.2 (.inr hx'))

theorem Tm.closed_fr {v : Tm} (h : v.free = []) (L : List ByteArray) (x : ByteArray) : x ∉ v.fr L := by
  intro hx
  have h1 := ((Tm.fr_more v L [] x (by simp)).1 hx).1
  rw [← Tm.mem_free, h] at h1
  cases h1

/-! ### The kids -/
def Tm.put1 (b : Nat → List ByteArray) (s : ByteArray) (v : Tm) (i : Nat) (k : Tm) : Option Tm := if ((b i).any fun x => decide (x = s)) = true then some k else k.put0 s v

theorem Tm.put0L_get {b : Nat → List ByteArray} {s : ByteArray} {v : Tm} : ∀ {ks ks' : List Tm} {i : Nat}, Tm.put0L b i ks s v = some ks' → ∀ (j : Nat) k, ks[j]? = some k → ∃ k', ks'[j]? = some k' ∧ Tm.put1 b s v (i + j) k = some k'
  | [], ks', i, h, j, k, hk => by simp at hk
  | k0 :: ks, ks', i, h, j, k, hk => by
    rw [Tm.put0L_cons] at h
    cases h1 : (if ((b i).any fun x => decide (x = s)) = true then some k0 else k0.put0 s v) with
    | none => rw [h1] at h; cases h
    | some k1 =>
      rw [h1] at h
      cases h2 : Tm.put0L b (i + 1) ks s v with
      | none => rw [h2] at h; cases h
      | some ks2 =>
        rw [h2] at h
        simp only [Option.bind_some, Option.map_some, Option.some.injEq] at h
        subst h
        cases j with
        | zero =>
          simp only [List.getElem?_cons_zero, Option.some.injEq] at hk
          subst hk
          exact ⟨k1, rfl, h1⟩
        | succ j =>
          obtain ⟨k', g1, g2⟩ := Tm.put0L_get h2 j k (by simpa using hk)
          exact ⟨k', by simpa using g1, by rwa [show i + (j + 1) = i + 1 + j by omega]⟩

theorem Tm.put0L_of {b : Nat → List ByteArray} {s : ByteArray} {v : Tm} : ∀ {ks ks' : List Tm} {i : Nat}, ks'.length = ks.length → (∀ (j : Nat) k k', ks[j]? = some k → ks'[j]? = some k' → Tm.put1 b s v (i + j) k = some k') → Tm.put0L b i ks s v = some ks'
  | [], [], i, _, _ => Tm.put0L_nil ..
  | [], _ :: _, i, h, _ => by simp at h
  | _ :: _, [], i, h, _ => by simp at h
  | k :: ks, k' :: ks', i, hl, h => by
    have h0 : (if ((b i).any fun x => decide (x = s)) = true then some k else k.put0 s v) = some k' := h 0 k k' rfl rfl
    have h1 := Tm.put0L_of (ks := ks) (ks' := ks') (i := i + 1) (by simpa using hl) fun j a a' ha ha' => by
      have := h (j + 1) a a' (by simpa using ha) (by simpa using ha')
      rwa [show i + (j + 1) = i + 1 + j by omega] at this
    rw [Tm.put0L_cons, h0, h1]
    rfl

/-- A term in which the name isn't free stays. -/
theorem Tm.put0_not (t : Tm) (s : ByteArray) (v : Tm) : ∀ L : List ByteArray, s ∉ L → s ∉ t.fr L → t.put0 s v = some t := by
  induction t using Tm.ind with
  | h t ih =>
    intro L hL hs
    rw [Tm.put0_eq]
    by_cases h1 : t.kind = 1
    · rw [if_pos h1]
      by_cases h2 : t.name = s
      · exact absurd (Tm.mem_fr.2 (.inl ⟨h1, h2.symm, by rw [h2]; exact hL⟩)) hs
      · rw [if_neg h2]
    · rw [if_neg h1]
      have : Tm.put0L t.binds 0 t.kids s v = some t.kids := by
        refine Tm.put0L_of rfl fun j k k' hk hk' => ?_
        rw [hk] at hk'
        simp only [Option.some.injEq] at hk'
        subst hk'
        unfold Tm.put1
        rw [Nat.zero_add]
        by_cases hb : ((t.binds j).any fun x => decide (x = s)) = true
        · rw [if_pos hb]
        · rw [if_neg hb]
          refine ih k (Tm.kid_mem hk) (L ++ t.binds j) (fun hx => ?_) fun hx => hs (Tm.mem_fr.2 (.inr ⟨j, k, hk, hx⟩))
          rcases List.mem_append.1 hx with hx | hx
          · exact hL hx
          · exact hb (any_mem.2 hx)
      rw [this, Option.map_some, Tm.withKids_self]

theorem Tm.put0_closed {v : Tm} (h : v.free = []) (s : ByteArray) (w : Tm) : v.put0 s w = some v := Tm.put0_not v s w [] (by simp) (Tm.closed_fr h [] s)

theorem Tm.kids01 {t : Tm} (h : t.right = true) (hk : t.kind = 1) : t.kids = [] := by
  have h1 := Tm.right_one h
  unfold Tm.one at h1
  simp only [Bool.and_eq_true, decide_eq_true_eq] at h1
  have h2 := h1.1.1.1.1.1.2
  rw [hk] at h2
  simp [kKids] at h2
  exact h2

/-- Behind it the name is free nowhere; all others are as they were. -/
theorem Tm.put0_fr (t : Tm) (s : ByteArray) (v : Tm) (hv : v.free = []) : t.right = true → ∀ (u : Tm) (L : List ByteArray), s ∉ L → t.put0 s v = some u → ∀ x, x ∈ u.fr L ↔ x ∈ t.fr L ∧ x ≠ s := by
  induction t using Tm.ind with
  | h t ih =>
    intro rt u L hL h x
    rw [Tm.put0_eq] at h
    by_cases h1 : t.kind = 1
    · rw [if_pos h1] at h
      by_cases h2 : t.name = s
      · rw [if_pos h2] at h
        by_cases h3 : t.args.length = 0
        · rw [if_pos h3] at h
          simp only [Option.some.injEq] at h
          subst h
          refine ⟨fun hx => absurd hx (Tm.closed_fr hv L x), ?_⟩
          rintro ⟨hx, hne⟩
          rcases Tm.mem_fr.1 hx with ⟨-, h5, -⟩ | ⟨j, k, h5, h6⟩
          · exact absurd (h5.trans h2) hne
          · rw [Tm.kids01 rt h1] at h5; simp at h5
        · rw [if_neg h3] at h; cases h
      · rw [if_neg h2] at h
        simp only [Option.some.injEq] at h
        subst h
        refine ⟨fun hx => ⟨hx, ?_⟩, fun hx => hx.1⟩
        rcases Tm.mem_fr.1 hx with ⟨-, h5, -⟩ | ⟨j, k, h5, h6⟩
        · rw [h5]; exact h2
        · rw [Tm.kids01 rt h1] at h5; simp at h5
    · rw [if_neg h1] at h
      cases hp : Tm.put0L t.binds 0 t.kids s v with
      | none => rw [hp] at h; cases h
      | some ks =>
        rw [hp] at h
        simp only [Option.map_some, Option.some.injEq] at h
        subst h
        have hlen := Tm.put0L_len hp
        have kid : ∀ (j : Nat) k k', t.kids[j]? = some k → ks[j]? = some k' → (x ∈ k'.fr (L ++ t.binds j) ↔ x ∈ k.fr (L ++ t.binds j) ∧ x ≠ s) := by
          intro j k k' hk hk'
          obtain ⟨k2, g1, g2⟩ := Tm.put0L_get hp j k hk
          rw [hk'] at g1
          simp only [Option.some.injEq] at g1
          subst g1
          unfold Tm.put1 at g2
          rw [Nat.zero_add] at g2
          by_cases hb : ((t.binds j).any fun x => decide (x = s)) = true
          · rw [if_pos hb] at g2
            simp only [Option.some.injEq] at g2
            subst g2
            refine ⟨fun hx => ⟨hx, ?_⟩, fun hx => hx.1⟩
            rintro rfl
            exact Tm.fr_not _ _ _ hx (List.mem_append.2 (.inr (any_mem.1 hb)))
          · rw [if_neg hb] at g2
            refine ih k (Tm.kid_mem hk) (Tm.right_kid rt (Tm.kid_mem hk)) k' (L ++ t.binds j) (fun hx => ?_) g2 x
            rcases List.mem_append.1 hx with hx | hx
            · exact hL hx
            · exact hb (any_mem.2 hx)
        rw [Tm.mem_fr, Tm.mem_fr]
        simp only [Tm.withKids_kind, h1, false_and, false_or, Tm.withKids_kids, Tm.withKids_binds]
        constructor
        · rintro ⟨j, k', hk', hx⟩
          have hj : j < t.kids.length := by rw [← hlen]; exact (List.getElem?_eq_some_iff.1 hk').1
          have hk : t.kids[j]? = some t.kids[j] := List.getElem?_eq_getElem hj
          obtain ⟨h5, h6⟩ := (kid j _ k' hk hk').1 hx
          exact ⟨⟨j, _, hk, h5⟩, h6⟩
        · rintro ⟨⟨j, k, hk, hx⟩, hne⟩
          have hj : j < ks.length := by rw [hlen]; exact (List.getElem?_eq_some_iff.1 hk).1
          have hk' : ks[j]? = some ks[j] := List.getElem?_eq_getElem hj
          exact ⟨j, _, hk', (kid j k _ hk hk').2 ⟨hx, hne⟩⟩

/-! ### Right terms stay right -/
theorem Tm.one_kids {t : Tm} {ks : List Tm} (h : ks.length = t.kids.length) : (t.withKids ks).one = t.one := by
  unfold Tm.one Tm.withKids
  simp only [Tm.kind_mk, Tm.pats_mk, Tm.kids_mk, Tm.name_mk, Tm.arg_mk, Tm.a_mk, Tm.b_mk, h]
  rfl

theorem Tm.put0_right (t : Tm) (s : ByteArray) (v : Tm) (hv : v.right = true) : t.right = true → ∀ u, t.put0 s v = some u → u.right = true := by
  induction t using Tm.ind with
  | h t ih =>
    intro rt u h
    rw [Tm.put0_eq] at h
    by_cases h1 : t.kind = 1
    · rw [if_pos h1] at h
      split at h
      · split at h
        · simp only [Option.some.injEq] at h; rw [← h]; exact hv
        · cases h
      · simp only [Option.some.injEq] at h; rw [← h]; exact rt
    · rw [if_neg h1] at h
      cases hp : Tm.put0L t.binds 0 t.kids s v with
      | none => rw [hp] at h; cases h
      | some ks =>
        rw [hp] at h
        simp only [Option.map_some, Option.some.injEq] at h
        subst h
        have hlen := Tm.put0L_len hp
        rw [Tm.right_eq, Tm.one_kids hlen, Tm.right_one rt, Bool.true_and, Tm.withKids_kids, List.all_eq_true]
        intro k' hk'
        obtain ⟨j, hj, rfl⟩ := List.mem_iff_getElem.1 hk'
        have hk : t.kids[j]? = some (t.kids[j]'(by omega)) := List.getElem?_eq_getElem _
        obtain ⟨k2, g1, g2⟩ := Tm.put0L_get hp j _ hk
        rw [List.getElem?_eq_getElem hj] at g1
        simp only [Option.some.injEq] at g1
        rw [← g1] at g2
        unfold Tm.put1 at g2
        split at g2
        · simp only [Option.some.injEq] at g2; rw [← g2]; exact Tm.right_kid rt (Tm.kid_mem hk)
        · exact ih _ (Tm.kid_mem hk) (Tm.right_kid rt (Tm.kid_mem hk)) _ g2

theorem Tm.one_fit {t : Tm} (h : t.fit1) {ks : List Tm} (hl : ks.length = t.kids.length) : (t.withKids ks).fit1 :=
  ⟨h.name, h.arg, h.s, h.vars, h.a, h.b, h.avc, h.bvc, h.args, h.arg1, h.argvc, h.pats, h.pat, by show ks.length < lim; rw [hl]; exact h.kids⟩

theorem Tm.put0_fit (t : Tm) (s : ByteArray) (v : Tm) (hv : v.fit) : t.fit → ∀ u, t.put0 s v = some u → u.fit := by
  induction t using Tm.ind with
  | h t ih =>
    intro ft u h
    rw [Tm.put0_eq] at h
    by_cases h1 : t.kind = 1
    · rw [if_pos h1] at h
      split at h
      · split at h
        · simp only [Option.some.injEq] at h; rw [← h]; exact hv
        · cases h
      · simp only [Option.some.injEq] at h; rw [← h]; exact ft
    · rw [if_neg h1] at h
      cases hp : Tm.put0L t.binds 0 t.kids s v with
      | none => rw [hp] at h; cases h
      | some ks =>
        rw [hp] at h
        simp only [Option.map_some, Option.some.injEq] at h
        subst h
        have hlen := Tm.put0L_len hp
        refine .mk _ (Tm.one_fit ft.one hlen) ?_
        intro k' hk'
        rw [Tm.withKids_kids] at hk'
        obtain ⟨j, hj, rfl⟩ := List.mem_iff_getElem.1 hk'
        have hk : t.kids[j]? = some (t.kids[j]'(by omega)) := List.getElem?_eq_getElem _
        obtain ⟨k2, g1, g2⟩ := Tm.put0L_get hp j _ hk
        rw [List.getElem?_eq_getElem hj] at g1
        simp only [Option.some.injEq] at g1
        rw [← g1] at g2
        unfold Tm.put1 at g2
        split at g2
        · simp only [Option.some.injEq] at g2; rw [← g2]; exact ft.kid (Tm.kid_mem hk)
        · exact ih _ (Tm.kid_mem hk) (ft.kid (Tm.kid_mem hk)) _ g2

/-! ### How great it becomes -/
theorem Tm.put0_mass (t : Tm) (s : ByteArray) (v : Tm) : ∀ u, t.put0 s v = some u → u.mass ≤ t.mass + t.size * v.mass := by
  induction t using Tm.ind with
  | h t ih =>
    intro u h
    rw [Tm.put0_eq] at h
    have hs := t.size_pos
    by_cases h1 : t.kind = 1
    · rw [if_pos h1] at h
      split at h
      · split at h
        · simp only [Option.some.injEq] at h
          rw [← h]
          have : 1 * v.mass ≤ t.size * v.mass := Nat.mul_le_mul_right _ hs
          omega
        · cases h
      · simp only [Option.some.injEq] at h; rw [← h]; omega
    · rw [if_neg h1] at h
      cases hp : Tm.put0L t.binds 0 t.kids s v with
      | none => rw [hp] at h; cases h
      | some ks =>
        rw [hp] at h
        simp only [Option.map_some, Option.some.injEq] at h
        subst h
        have key : ∀ (l l' : List Tm) (i : Nat), (∀ k ∈ l, ∀ u, k.put0 s v = some u → u.mass ≤ k.mass + k.size * v.mass) → Tm.put0L t.binds i l s v = some l' → (l'.map Tm.mass).sum ≤ (l.map Tm.mass).sum + (l.map Tm.size).sum * v.mass := by
          intro l
          induction l with
          | nil =>
            intro l' i _ h
            rw [Tm.put0L_nil] at h
            simp only [Option.some.injEq] at h
            subst h
            simp
          | cons k l ihl =>
            intro l' i hl h
            rw [Tm.put0L_cons] at h
            cases h3 : (if ((t.binds i).any fun x => decide (x = s)) = true then some k else k.put0 s v) with
            | none => rw [h3] at h; cases h
            | some k' =>
              rw [h3] at h
              cases h4 : Tm.put0L t.binds (i + 1) l s v with
              | none => rw [h4] at h; cases h
              | some l2 =>
                rw [h4] at h
                simp only [Option.bind_some, Option.map_some, Option.some.injEq] at h
                subst h
                have e1 := ihl l2 (i + 1) (fun k' hk' => hl k' (List.mem_cons_of_mem _ hk')) h4
                have e2 : k'.mass ≤ k.mass + k.size * v.mass := by
                  split at h3
                  · simp only [Option.some.injEq] at h3; rw [← h3]; omega
                  · exact hl k (List.mem_cons_self ..) _ h3
                simp only [List.map_cons, List.sum_cons, Nat.add_mul]
                omega
        have e := key t.kids ks 0 (fun k hk u hu => ih k hk u hu) hp
        have e3 := t.size_eq
        have e4 : (t.kids.map Tm.size).sum * v.mass ≤ t.size * v.mass := Nat.mul_le_mul_right _ (by omega)
        have m1 := t.mass_eq
        have m2 := (t.withKids ks).mass_eq
        simp only [Tm.withKids, Tm.name_mk, Tm.arg_mk, Tm.s_mk, Tm.vars_mk, Tm.a_mk, Tm.b_mk, Tm.args_mk, Tm.pats_mk, Tm.kids_mk] at m2
        simp only [Tm.withKids]
        omega

/-! ### In any order -/
theorem opt_comm {α β γ : Type} (x : Option α) (y : Option β) (f : α → β → Option γ) : (x.bind fun a => y.bind fun b => f a b) = y.bind fun b => x.bind fun a => f a b := by
  cases x <;> cases y <;> rfl

theorem Tm.put0_comm (t : Tm) (a b : ByteArray) (v w : Tm) (hv : v.free = []) (hw : w.free = []) (hab : a ≠ b) : (t.put0 a v).bind (fun u => u.put0 b w) = (t.put0 b w).bind (fun u => u.put0 a v) := by
  induction t using Tm.ind with
  | h t ih =>
    by_cases h1 : t.kind = 1
    · have e : ∀ s v, t.put0 s v = if t.name = s then (if t.args.length = 0 then some v else none) else some t := fun s v => by rw [Tm.put0_eq, if_pos h1]
      rw [e, e]
      by_cases h2 : t.name = a
      · have h3 : t.name ≠ b := fun h => hab (h2.symm.trans h)
        rw [if_pos h2, if_neg h3]
        simp only [Option.bind_some]
        rw [e, if_pos h2]
        split
        · simp only [Option.bind_some]
          exact Tm.put0_closed hv b w
        · rfl
      · rw [if_neg h2]
        simp only [Option.bind_some]
        rw [e]
        by_cases h3 : t.name = b
        · rw [if_pos h3]
          split
          · simp only [Option.bind_some]
            exact (Tm.put0_closed hw a v).symm
          · rfl
        · rw [if_neg h3]
          simp only [Option.bind_some]
          rw [e, if_neg h2]
    · have e : ∀ (ks : List Tm) s v, (t.withKids ks).put0 s v = (Tm.put0L t.binds 0 ks s v).map t.withKids := fun ks s v => by
        rw [Tm.put0_eq, if_neg (by exact h1)]
        simp only [Tm.withKids_binds, Tm.withKids_kids]
        rfl
      have key : ∀ (l : List Tm) (i : Nat), (∀ k ∈ l, (k.put0 a v).bind (fun u => u.put0 b w) = (k.put0 b w).bind (fun u => u.put0 a v)) →
          (Tm.put0L t.binds i l a v).bind (fun l' => Tm.put0L t.binds i l' b w) = (Tm.put0L t.binds i l b w).bind (fun l' => Tm.put0L t.binds i l' a v) := by
        intro l
        induction l with
        | nil => intro i _; simp [Tm.put0L_nil]
        | cons k l ihl =>
          intro i hl
          have r := ihl (i + 1) fun k' hk' => hl k' (List.mem_cons_of_mem _ hk')
          have one : (Tm.put1 t.binds a v i k).bind (fun u => Tm.put1 t.binds b w i u) = (Tm.put1 t.binds b w i k).bind (fun u => Tm.put1 t.binds a v i u) := by
            unfold Tm.put1
            by_cases c1 : ((t.binds i).any fun x => decide (x = a)) = true <;> by_cases c2 : ((t.binds i).any fun x => decide (x = b)) = true <;> simp only [c1, c2, if_true, if_false, Option.bind_some, Bool.false_eq_true]
            · simp
            · simp
            · exact hl k (List.mem_cons_self ..)
          have two : ∀ (s s' : ByteArray) (x x' : Tm), (Tm.put0L t.binds i (k :: l) s x).bind (fun l' => Tm.put0L t.binds i l' s' x') =
              ((Tm.put1 t.binds s x i k).bind (fun u => Tm.put1 t.binds s' x' i u)).bind fun k' => ((Tm.put0L t.binds (i + 1) l s x).bind (fun l' => Tm.put0L t.binds (i + 1) l' s' x')).map (k' :: ·) := by
            intro s s' x x'
            rw [Tm.put0L_cons]
            show ((Tm.put1 t.binds s x i k).bind fun k' => (Tm.put0L t.binds (i + 1) l s x).map (k' :: ·)).bind _ = _
            cases Tm.put1 t.binds s x i k with
            | none => rfl
            | some k1 =>
              simp only [Option.bind_some]
              cases Tm.put0L t.binds (i + 1) l s x with
              | none =>
                simp only [Option.map_none, Option.bind_none]
                cases Tm.put1 t.binds s' x' i k1 <;> rfl
              | some l1 =>
                simp only [Option.map_some, Option.bind_some]
                rw [Tm.put0L_cons]
                rfl
          rw [two, two, one, r]
      have hk := key t.kids 0 fun k hk => ih k hk
      rw [Tm.put0_eq a v t, Tm.put0_eq b w t, if_neg h1, if_neg h1]
      have e2 : ∀ (x : Option (List Tm)) (s : ByteArray) (v : Tm), (x.map t.withKids).bind (fun u => u.put0 s v) = (x.bind fun l => Tm.put0L t.binds 0 l s v).map t.withKids := by
        intro x s v
        cases x with
        | none => rfl
        | some l => simp only [Option.map_some, Option.bind_some]; exact e l s v
      rw [e2, e2, hk]

/-- What can be put alone can be put one behind the other. -/
theorem Tm.put0_both (t : Tm) (a b : ByteArray) (v w : Tm) (hv : v.free = []) : ∀ u1 u2, t.put0 a v = some u1 → t.put0 b w = some u2 → ∃ x, u1.put0 b w = some x := by
  induction t using Tm.ind with
  | h t ih =>
    intro u1 u2 g1 g2
    by_cases h1 : t.kind = 1
    · have e : ∀ s v, t.put0 s v = if t.name = s then (if t.args.length = 0 then some v else none) else some t := fun s v => by rw [Tm.put0_eq, if_pos h1]
      rw [e] at g1
      split at g1
      · split at g1
        · simp only [Option.some.injEq] at g1
          subst g1
          exact ⟨_, Tm.put0_closed hv b w⟩
        · cases g1
      · simp only [Option.some.injEq] at g1
        subst g1
        exact ⟨u2, g2⟩
    · rw [Tm.put0_eq, if_neg h1] at g1 g2
      have key : ∀ (l : List Tm) (i : Nat), (∀ k ∈ l, ∀ u1 u2, k.put0 a v = some u1 → k.put0 b w = some u2 → ∃ x, u1.put0 b w = some x) → ∀ l1 l2, Tm.put0L t.binds i l a v = some l1 → Tm.put0L t.binds i l b w = some l2 → ∃ x, Tm.put0L t.binds i l1 b w = some x := by
        intro l
        induction l with
        | nil =>
          intro i _ l1 l2 e1 e2
          rw [Tm.put0L_nil] at e1
          simp only [Option.some.injEq] at e1
          subst e1
          exact ⟨[], Tm.put0L_nil ..⟩
        | cons k l ihl =>
          intro i hl l1 l2 e1 e2
          rw [Tm.put0L_cons] at e1 e2
          cases c1 : (if ((t.binds i).any fun x => decide (x = a)) = true then some k else k.put0 a v) with
          | none => rw [c1] at e1; cases e1
          | some k1 =>
            cases c2 : (if ((t.binds i).any fun x => decide (x = b)) = true then some k else k.put0 b w) with
            | none => rw [c2] at e2; cases e2
            | some k2 =>
              rw [c1] at e1
              rw [c2] at e2
              cases d1 : Tm.put0L t.binds (i + 1) l a v with
              | none => rw [d1] at e1; cases e1
              | some m1 =>
                cases d2 : Tm.put0L t.binds (i + 1) l b w with
                | none => rw [d2] at e2; cases e2
                | some m2 =>
                  rw [d1] at e1
                  simp only [Option.bind_some, Option.map_some, Option.some.injEq] at e1
                  subst e1
                  obtain ⟨x, hx⟩ := ihl (i + 1) (fun k' hk' => hl k' (List.mem_cons_of_mem _ hk')) m1 m2 d1 d2
                  obtain ⟨y, hy⟩ : ∃ y, (if ((t.binds i).any fun x => decide (x = b)) = true then some k1 else k1.put0 b w) = some y := by
                    by_cases cb : ((t.binds i).any fun x => decide (x = b)) = true
                    · exact ⟨k1, if_pos cb⟩
                    · rw [if_neg cb] at c2 ⊢
                      by_cases ca : ((t.binds i).any fun x => decide (x = a)) = true
                      · rw [if_pos ca] at c1
                        simp only [Option.some.injEq] at c1
                        subst c1
                        exact ⟨k2, c2⟩
                      · rw [if_neg ca] at c1
                        exact hl k (List.mem_cons_self ..) k1 k2 c1 c2
                  exact ⟨y :: x, by rw [Tm.put0L_cons, hy, hx]; rfl⟩
      cases p1 : Tm.put0L t.binds 0 t.kids a v with
      | none => rw [p1] at g1; cases g1
      | some k1 =>
        cases p2 : Tm.put0L t.binds 0 t.kids b w with
        | none => rw [p2] at g2; cases g2
        | some k2 =>
          rw [p1] at g1
          simp only [Option.map_some, Option.some.injEq] at g1
          subst g1
          obtain ⟨x, hx⟩ := key t.kids 0 (fun k hk => ih k hk) k1 k2 p1 p2
          refine ⟨t.withKids x, ?_⟩
          rw [Tm.put0_eq, if_neg (by exact h1)]
          simp only [Tm.withKids_binds, Tm.withKids_kids, hx, Option.map_some, Tm.withKids_with]

end Go.Su

/-
  The CHECKER: which errors there are; how many names stand at once; scopes as maps of counters.
-/
namespace Go.Su

def errOk (e : Int) : Prop := e = 4 ∨ e = 6 ∨ e = 8

theorem bind_err {α β : Type} {x : Except Int α} {f : α → Except Int β} {e : Int} (h : x.bind f = .error e) : x = .error e ∨ ∃ a, x = .ok a ∧ f a = .error e := by
  cases x with
  | error e' => left; simpa [Except.bind] using h
  | ok a => right; exact ⟨a, rfl, h⟩
theorem bind_ok {α β : Type} {x : Except Int α} {f : α → Except Int β} {y : β} (h : x.bind f = .ok y) : ∃ a, x = .ok a ∧ f a = .ok y := by
  cases x with
  | error e' => cases h
  | ok a => exact ⟨a, rfl, h⟩

theorem ckKids_err {l : List Nm} {S : List Int} : ∀ {ks : List Tm} {e : Int}, ckKids l S (ks.map ck) = .error e → ∃ k ∈ ks, ck k l S = .error e
  | [], e, h => by cases h
  | k :: ks, e, h => by
    simp only [List.map_cons, ckKids] at h
    rcases bind_err h with h | ⟨a, h1, h⟩
    · exact ⟨k, List.mem_cons_self .., h⟩
    · rcases bind_err h with h | ⟨a, h1, h⟩
      · obtain ⟨k', a, b⟩ := ckKids_err h; exact ⟨k', List.mem_cons_of_mem _ a, b⟩
      · cases h

theorem ckOf_err {t : Tm} {S : List Int} {ys : List Ty} {e : Int} (h : ckOf t S ys = .error e) : errOk e := by
  unfold ckOf at h
  simp only at h
  repeat' (split at h)
  all_goals first | (cases h; done) | (cases h; simp [errOk])

theorem ckArms_err {y : Ty} {l : List Nm} {S : List Int} : ∀ {r : List (Pat × Chk)} {out : Option Ty} {e : Int}, (∀ p ∈ r, ∀ (m : List Nm) e, p.2 m S = .error e → errOk e) → ckArms y l S r out = .error e → errOk e
  | [], out, e, _, h => by cases h
  | (p, f) :: r, out, e, hr, h => by
    simp only [ckArms] at h
    cases hb : p.binds y with
    | none => rw [hb] at h; cases h; simp [errOk]
    | some b =>
      rw [hb] at h
      rcases bind_err h with h | ⟨a, h1, h⟩
      · exact hr _ (List.mem_cons_self ..) _ _ h
      · cases out with
        | none => exact ckArms_err (fun p' hp' => hr p' (List.mem_cons_of_mem _ hp')) h
        | some o =>
          simp only at h
          split at h
          · exact ckArms_err (fun p' hp' => hr p' (List.mem_cons_of_mem _ hp')) h
          · cases h; simp [errOk]

theorem ck_err (t : Tm) : ∀ (l : List Nm) (S : List Int) (e : Int), ck t l S = .error e → errOk e := by
  induction t using Tm.ind with
  | h t ih =>
    intro l S e h
    have hd : ∀ (i : Nat) l S e, ((t.kids.map ck).getD i fun _ _ => .error 4) l S = .error e → errOk e := by
      intro i l S e h
      rw [List.getD_eq_getElem?_getD] at h
      rcases Nat.lt_or_ge i t.kids.length with hi | hi
      · rw [List.getElem?_eq_getElem (by simpa using hi)] at h
        simp only [Option.getD_some, List.getElem_map] at h
        exact ih _ (List.getElem_mem hi) _ _ _ h
      · rw [List.getElem?_eq_none (by simpa using hi)] at h
        cases h; simp [errOk]
    rw [ck_eq] at h
    unfold ckBody at h
    simp only at h
    split at h
    · split at h
      · cases h; simp [errOk]
      · split at h
        · split at h
          · cases h
          · cases h; simp [errOk]
        · cases h; simp [errOk]
    split at h
    · cases h
    split at h
    · split at h
      · cases h
      · cases h; simp [errOk]
    split at h
    · split at h
      · rcases bind_err h with h | ⟨a, h1, h⟩
        · exact hd _ _ _ _ h
        · cases h
      · cases h; simp [errOk]
    split at h
    · split at h
      · rcases bind_err h with h | ⟨a, h1, h⟩
        · exact hd _ _ _ _ h
        · exact hd _ _ _ _ h
      · cases h; simp [errOk]
    split at h
    · split at h
      · split at h
        · rcases bind_err h with h | ⟨a, h1, h⟩
          · exact hd _ _ _ _ h
          · split at h
            · exact hd _ _ _ _ h
            · cases h; simp [errOk]
        · cases h; simp [errOk]
      · cases h; simp [errOk]
    split at h
    · rcases bind_err h with h | ⟨a, h1, h⟩
      · exact hd _ _ _ _ h
      · refine ckArms_err (fun p hp m e he => ?_) h
        have := (List.of_mem_zip hp).2
        obtain ⟨k', hk', e'⟩ := List.mem_map.1 (List.mem_of_mem_drop this)
        rw [← e'] at he
        exact ih k' hk' _ _ _ he
    · rcases bind_err h with h | ⟨a, h1, h⟩
      · obtain ⟨k, hk, h⟩ := ckKids_err h
        exact ih k hk _ _ _ h
      · exact ckOf_err h

/-! ### How many names -/
def Tm.wide (t : Tm) : Nat := 2 + (t.pats.map Pat.size).sum + (t.kids.attach.map fun k => Tm.wide k.1).sum
termination_by SizeOf.sizeOf t
decreasing_by exact Tm.kid_lt k.2
theorem Tm.wide_eq (t : Tm) : t.wide = 2 + (t.pats.map Pat.size).sum + (t.kids.map Tm.wide).sum := by
  rw [Tm.wide]
  congr 2
  exact List.attach_map_val (f := Tm.wide) ..
theorem Tm.wide_kid {t k : Tm} (h : k ∈ t.kids) : k.wide + 2 + (t.pats.map Pat.size).sum ≤ t.wide := by
  rw [Tm.wide_eq t]
  have := mem_sum (f := Tm.wide) h
  omega

theorem loop_allK {α X : Type} {l : List α} {P : Int → Option X} {f : α → Bool} {y n : Option X} (stop : P l.length = y)
    (step : ∀ (i : Nat) (h : i < l.length), P i = if f l[i] = true then P ((i : Int) + 1) else n) : P 0 = if l.all f = true then y else n := by
  have key : ∀ (m i : Nat), i + m = l.length → P i = if (l.drop i).all f = true then y else n := by
    intro m
    induction m with
    | zero => intro i hi; rw [List.drop_of_length_le (by omega), show i = l.length by omega, stop]; rfl
    | succ m ih =>
      intro i hi
      have h : i < l.length := by omega
      have := ih (i + 1) (by omega)
      push_cast at this
      rw [step i h, List.drop_eq_getElem_cons h, List.all_cons, this]
      by_cases h3 : f l[i] = true <;> simp [h3]
  have := key l.length 0 (by omega)
  simpa using this

/-! ### Scopes -/
def ScopeIs (es : List (DV × DV)) (S : List Int) : Prop := CntIs es fun v => if v ∈ S then 1 else 0
theorem ScopeIs.nil : ScopeIs [] [] := by
  have : (fun v : Int => if v ∈ ([] : List Int) then (1 : Int) else 0) = fun _ => 0 := by funext v; simp
  unfold ScopeIs; rw [this]; exact CntIs.nil
theorem CntIs.congr {es : List (DV × DV)} {c d : Int → Int} (h : CntIs es c) (e : ∀ v, c v = d v) : CntIs es d := fun v => by rw [h v, e v]

theorem takes_iff {S l : List Int} : takes S l = true ↔ l.Nodup ∧ ∀ v ∈ l, v ∉ S := by
  unfold takes
  simp

theorem scope_in {S l : List Int} (h : takes S l = true) {es : List (DV × DV)} (k : CntIs es fun v => (if v ∈ S then 1 else 0) + 1 * (l.count v : Int)) : ScopeIs es (l ++ S) := by
  obtain ⟨h1, h2⟩ := takes_iff.1 h
  refine k.congr fun v => ?_
  by_cases hv : v ∈ l
  · have : l.count v = 1 := by have a := (List.nodup_iff_count.1 h1) v; have b := List.count_pos_iff.2 hv; omega
    simp [hv, h2 v hv, this]
  · have : l.count v = 0 := List.count_eq_zero_of_not_mem hv
    simp [hv, this]
theorem scope_out {S l : List Int} (h : takes S l = true) {es : List (DV × DV)} (k : CntIs es fun v => (if v ∈ l ++ S then 1 else 0) + (-1) * (l.count v : Int)) : ScopeIs es S := by
  obtain ⟨h1, h2⟩ := takes_iff.1 h
  refine k.congr fun v => ?_
  by_cases hv : v ∈ l
  · have : l.count v = 1 := by have a := (List.nodup_iff_count.1 h1) v; have b := List.count_pos_iff.2 hv; omega
    simp [hv, h2 v hv, this]
  · have : l.count v = 0 := List.count_eq_zero_of_not_mem hv
    simp [hv, this]

/-- What the checker's functions give back. -/
def resL : Res → List DV
  | .ok y => [y.enc, .int .i64 0]
  | .error e => [zeroTy.enc, .int .i64 e]

/-- What check.Type says. -/
noncomputable def ckType (t : Tm) : Res := if t.right = true then ck t [] [] else .error 1

end Go.Su

/-
  The CHECKER: a term's type has no variables but those in scope.
-/
namespace Go.Su

/-- A variable stands in a type. -/
inductive Ty.Occ (v : Int) : Ty → Prop where
  | here (t : Ty) : t.kind = 6 → t.n = v → Ty.Occ v t
  | kid (t k : Ty) : k ∈ t.kids → Ty.Occ v k → Ty.Occ v t

theorem Ty.occ_iff {v : Int} {t : Ty} : t.Occ v ↔ (t.kind = 6 ∧ t.n = v) ∨ ∃ k ∈ t.kids, k.Occ v := by
  constructor
  · intro h
    cases h with
    | here _ a b => exact .inl ⟨a, b⟩
    | kid _ k a b => exact .inr ⟨k, a, b⟩
  · rintro (⟨a, b⟩ | ⟨k, a, b⟩)
    · exact .here t a b
    · exact .kid t k a b

theorem Ty.mem_varsOn {v : Int} (t : Ty) : ∀ l : List Int, v ∈ t.varsOn l ↔ v ∈ l ∨ t.Occ v := by
  induction t using Ty.ind with
  | h t ih =>
    intro l
    rw [Ty.varsOn_eq, Ty.occ_iff]
    have key : ∀ (ks : List Ty), (∀ k ∈ ks, ∀ l : List Int, v ∈ k.varsOn l ↔ v ∈ l ∨ k.Occ v) → ∀ l : List Int, v ∈ ks.foldl (fun l k => k.varsOn l) l ↔ v ∈ l ∨ ∃ k ∈ ks, k.Occ v := by
      intro ks
      induction ks with
      | nil => intro _ l; simp
      | cons k ks ihk =>
        intro h l
        simp only [List.foldl_cons]
        rw [ihk (fun k' hk' => h k' (List.mem_cons_of_mem _ hk')), h k (List.mem_cons_self ..)]
        simp only [List.mem_cons, exists_eq_or_imp, or_assoc]
    rw [key t.kids ih]
    by_cases h6 : t.kind = 6
    · by_cases hn : t.n ∈ l
      · simp only [h6, hn, not_true, and_false, if_false, true_and]
        constructor
        · rintro (h | h)
          · exact .inl h
          · exact .inr (.inr h)
        · rintro (h | h | h)
          · exact .inl h
          · subst h; exact .inl hn
          · exact .inr h
      · simp only [h6, hn, not_false_eq_true, and_self, if_true, List.mem_append, List.mem_singleton, true_and, or_assoc]
        have : v = t.n ↔ t.n = v := eq_comm
        rw [this]
    · simp [h6]

theorem inS_iff {S : List Int} {t : Ty} : inS S t = true ↔ ∀ v, t.Occ v → v ∈ S := by
  unfold inS Ty.vars
  simp only [List.all_eq_true, decide_eq_true_eq, Ty.mem_varsOn, List.not_mem_nil, false_or]

theorem Ty.closed_iff {t : Ty} : t.without 6 = true ↔ ∀ v, ¬ t.Occ v := by
  induction t using Ty.ind with
  | h t ih =>
    rw [Ty.without_eq]
    simp only [Bool.and_eq_true, Bool.not_eq_true', decide_eq_false_iff_not, List.all_eq_true]
    constructor
    · rintro ⟨h1, h2⟩ v hv
      rcases Ty.occ_iff.1 hv with ⟨a, -⟩ | ⟨k, a, b⟩
      · exact h1 a
      · exact (ih k a).1 (h2 k a) v b
    · intro h
      refine ⟨fun h6 => h t.n (.here t h6 rfl), fun k hk => (ih k hk).2 fun v hv => h v (.kid t k hk hv)⟩

theorem Ty.var_kids {t : Ty} (h : t.right = true) (h6 : t.kind = 6) : t.kids = [] := by
  have := (Ty.right_iff.1 h).1
  rw [h6] at this
  have e : arity 6 = 0 := rfl
  exact List.eq_nil_of_length_eq_zero (by omega)

theorem Ty.occ_put {v : Int} {l : List (Int × Ty)} {t : Ty} : t.right = true → (t.put l).Occ v → (∃ n u, t.Occ n ∧ look l n = some u ∧ u.Occ v) ∨ (t.Occ v ∧ look l v = Option.none) := by
  induction t using Ty.ind with
  | h t ih =>
    intro hr h
    rw [Ty.put_eq] at h
    by_cases h6 : t.kind = 6
    · rw [if_pos h6] at h
      cases hl : look l t.n with
      | none =>
        rw [hl] at h
        simp only [Option.getD_none] at h
        rcases Ty.occ_iff.1 h with ⟨a, b⟩ | ⟨k, a, b⟩
        · exact .inr ⟨h, by rw [← b]; exact hl⟩
        · rw [Ty.var_kids hr h6] at a; cases a
      | some u =>
        rw [hl] at h
        exact .inl ⟨t.n, u, .here t h6 rfl, hl, h⟩
    · rw [if_neg h6] at h
      rcases Ty.occ_iff.1 h with ⟨a, -⟩ | ⟨k, a, b⟩
      · exact absurd a h6
      · obtain ⟨k', hk', rfl⟩ := List.mem_map.1 a
        rcases ih k' hk' (Ty.right_kid hr hk') b with ⟨n, u, c, d⟩ | ⟨c, d⟩
        · exact .inl ⟨n, u, .kid t k' hk' c, d⟩
        · exact .inr ⟨.kid t k' hk' c, d⟩

theorem look_zip_none {vs : List Int} {ts : List Ty} (h : vs.length = ts.length) {v : Int} (hl : look (vs.zip ts) v = none) : v ∉ vs := by
  intro hv
  obtain ⟨i, hi, rfl⟩ := List.getElem_of_mem hv
  unfold look at hl
  simp only [Option.map_eq_none_iff, List.find?_eq_none, decide_eq_true_eq] at hl
  have hz : i < (vs.zip ts).length := by rw [List.length_zip]; omega
  exact hl _ (List.getElem_mem hz) (by simp)

/-- The names' variables are in scope, or their own. -/
def NmsIn (S : List Int) (l : List Nm) : Prop := ∀ x ∈ l, ∀ v, x.ty.Occ v → v ∈ S ∨ v ∈ x.vars
theorem NmsIn.app {S : List Int} {l m : List Nm} (h : NmsIn S l) (h' : NmsIn S m) : NmsIn S (l ++ m) := fun x hx => by
  rcases List.mem_append.1 hx with hx | hx
  · exact h x hx
  · exact h' x hx
theorem NmsIn.more {S : List Int} {l : List Nm} (h : NmsIn S l) (vs : List Int) : NmsIn (vs ++ S) l := fun x hx v hv => by
  rcases h x hx v hv with h | h
  · exact .inl (List.mem_append_right _ h)
  · exact .inr h

theorem comb_occ {S : List Int} {ks : List Pat} : (∀ k ∈ ks, ∀ t b, (∀ v, t.Occ v → v ∈ S) → k.binds t = some b → ∀ e ∈ b, ∀ v, e.2.Occ v → v ∈ S) → ∀ ts b, (∀ t ∈ ts, ∀ v, t.Occ v → v ∈ S) → comb (ks.map Pat.binds) ts = some b → ∀ e ∈ b, ∀ v, e.2.Occ v → v ∈ S := by
  induction ks with
  | nil => intro _ ts b _ h; simp only [List.map_nil, comb, Option.some.injEq] at h; subst h; simp
  | cons k ks ih =>
    intro hk ts b ht h
    cases ts with
    | nil => simp [comb] at h
    | cons t ts =>
      simp only [List.map_cons, comb, Option.bind_eq_some_iff, Option.some.injEq] at h
      obtain ⟨a, h1, c, h2, rfl⟩ := h
      have a1 := hk k (List.mem_cons_self ..) t a (ht t (List.mem_cons_self ..)) h1
      have a2 := ih (fun k' hk' => hk k' (List.mem_cons_of_mem _ hk')) ts c (fun t' ht' => ht t' (List.mem_cons_of_mem _ ht')) h2
      intro e he
      rcases List.mem_append.1 he with he | he
      · exact a1 e he
      · exact a2 e he

theorem occ_zero (v : Int) : ¬ zeroTy.Occ v := by
  intro h
  rcases Ty.occ_iff.1 h with ⟨a, -⟩ | ⟨k, a, -⟩
  · cases a
  · cases a

theorem getD_occ {S : List Int} {l : List Ty} (h : ∀ t ∈ l, ∀ v, t.Occ v → v ∈ S) (i : Nat) : ∀ v, (l.getD i zeroTy).Occ v → v ∈ S := by
  intro v hv
  rw [List.getD_eq_getElem?_getD] at hv
  rcases Nat.lt_or_ge i l.length with hi | hi
  · rw [List.getElem?_eq_getElem hi] at hv
    exact h _ (List.getElem_mem hi) v hv
  · rw [List.getElem?_eq_none hi] at hv
    exact absurd hv (occ_zero v)
theorem kids_occ {S : List Int} {t : Ty} (h : ∀ v, t.Occ v → v ∈ S) : ∀ k ∈ t.kids, ∀ v, k.Occ v → v ∈ S := fun k hk v hv => h v (.kid t k hk hv)

theorem Pat.binds_occ {S : List Int} (p : Pat) : ∀ t b, (∀ v, t.Occ v → v ∈ S) → p.binds t = some b → ∀ e ∈ b, ∀ v, e.2.Occ v → v ∈ S := by
  induction p using Pat.ind with
  | h p ih =>
    intro t b ht h
    rw [Pat.binds_eq] at h
    unfold patBody at h
    split at h
    · simp only [Option.some.injEq] at h; subst h; simp
    split at h
    · simp only [Option.some.injEq] at h; subst h; simpa using ht
    split at h
    · split at h
      · exact comb_occ ih _ _ (kids_occ ht) h
      · cases h
    split at h
    · split at h
      · refine comb_occ ih _ _ ?_ h
        intro k hk
        simp at hk
        rcases hk with rfl | rfl
        · have := getD_occ (kids_occ ht) 0
          simpa [List.getD_eq_getElem?_getD] using this
        · exact ht
      · cases h
    split at h
    · simp only [Option.some.injEq] at h; subst h; simp
    · cases h

theorem occ_mk {S : List Int} {k n : Int} (hk : k ≠ 6) {ks : List Ty} (h : ∀ t ∈ ks, ∀ v, t.Occ v → v ∈ S) : ∀ v, (Ty.mk k n ks).Occ v → v ∈ S := by
  intro v hv
  rcases Ty.occ_iff.1 hv with ⟨a, -⟩ | ⟨k', a, b⟩
  · exact absurd a hk
  · exact h k' a v b

theorem ckOf_occ {t : Tm} {S : List Int} {ys : List Ty} (hy : ∀ y ∈ ys, ∀ v, y.Occ v → v ∈ S) {y : Ty} (h : ckOf t S ys = .ok y) : ∀ v, y.Occ v → v ∈ S := by
  unfold ckOf at h
  simp only at h
  split at h
  · cases h; exact occ_mk (by omega) hy
  split at h
  · split at h
    · cases h; exact getD_occ hy 1
    · cases h
  split at h
  · split at h
    · cases h; exact getD_occ (kids_occ (getD_occ hy 0)) 1
    · cases h
  split at h
  · split at h
    · cases h; exact getD_occ hy 1
    · cases h
  split at h
  · split at h
    · split at h
      · cases h; exact occ_mk (by omega) (by simp)
      · cases h
    · split at h
      · cases h; exact occ_mk (by split <;> omega) (by simp)
      · cases h
  split at h
  · split at h
    · rename_i hin
      split at h
      · cases h
        simp only [Bool.and_eq_true] at hin
        exact inS_iff.1 hin.2
      · cases h
    · cases h
  · cases h

theorem ckArms_occ {y : Ty} {l : List Nm} {S : List Int} (hy : ∀ v, y.Occ v → v ∈ S) (hl : NmsIn S l) : ∀ {r : List (Pat × Chk)} {out : Option Ty} {z : Ty},
    (∀ p ∈ r, ∀ m : List Nm, NmsIn S m → ∀ u, p.2 m S = .ok u → ∀ v, u.Occ v → v ∈ S) → (∀ o, out = some o → ∀ v, o.Occ v → v ∈ S) → ckArms y l S r out = .ok z → ∀ v, z.Occ v → v ∈ S
  | [], out, z, _, ho, h => by
    simp only [ckArms, Except.ok.injEq] at h
    cases out with
    | none => subst h; exact fun v hv => absurd hv (occ_zero v)
    | some o => simp only [Option.getD_some] at h; subst h; exact ho o rfl
  | (p, f) :: r, out, z, hr, ho, h => by
    simp only [ckArms] at h
    cases hb : p.binds y with
    | none => rw [hb] at h; cases h
    | some b =>
      rw [hb] at h
      obtain ⟨a, hf, h⟩ := bind_ok h
      have nb : NmsIn S (b.map nmOfE) := fun x hx v hv => by
        obtain ⟨e, he, rfl⟩ := List.mem_map.1 hx
        exact .inl (Pat.binds_occ p y b hy hb e he v hv)
      have ha := hr (p, f) (List.mem_cons_self ..) _ (hl.app nb) a hf
      cases out with
      | none => exact ckArms_occ hy hl (fun p' hp' => hr p' (List.mem_cons_of_mem _ hp')) (fun o h => by cases h; exact ha) h
      | some o =>
        simp only at h
        split at h
        · exact ckArms_occ hy hl (fun p' hp' => hr p' (List.mem_cons_of_mem _ hp')) ho h
        · cases h

theorem ck_occ (t : Tm) : t.right = true → t.fit → ∀ (l : List Nm) (S : List Int) (y : Ty), NmsOk l → NmsIn S l → ck t l S = .ok y → ∀ v, y.Occ v → v ∈ S := by
  induction t using Tm.ind with
  | h t ih =>
    intro ht hfit l S y hl hn h
    have own := Tm.right_own ht
    have hvl := Nat.le_of_lt hfit.one.vars
    have rest : (t.kind = 6 ∨ t.kind = 8 ∨ t.kind = 10 ∨ t.kind = 13 ∨ t.kind = 15 ∨ t.kind = 16) → ∀ v, y.Occ v → v ∈ S := by
      intro hk
      rw [ck_rest hk] at h
      obtain ⟨ys, hr, h⟩ := bind_ok h
      obtain ⟨h1, h2⟩ := ckKids_ok hr
      exact ckOf_occ (fun y hy => by obtain ⟨k, a, b⟩ := h2 y hy; exact ih k a (Tm.right_kid ht a) (hfit.kid a) l S y hl hn b) h
    rcases Tm.kinds ht with hk | hk | hk | hk | hk | hk | hk | hk | hk | hk | hk | hk | hk
    · rw [ck_name hk] at h
      cases hf : l.reverse.find? fun x => decide (x.name = t.name) with
      | none => rw [hf] at h; cases h
      | some x =>
        rw [hf] at h
        simp only at h
        have hm := List.mem_reverse.1 (List.mem_of_find?_eq_some hf)
        split at h
        · rename_i hlen
          split at h
          · rename_i hin
            cases h
            intro v hv
            rcases Ty.occ_put (hl x hm).1 hv with ⟨n, u, a, b, c⟩ | ⟨a, b⟩
            · have hu := (List.of_mem_zip (look_mem b)).2
              exact inS_iff.1 (List.all_eq_true.1 hin u hu) v c
            · rcases hn x hm v a with c | c
              · exact c
              · exact absurd c (look_zip_none hlen b)
          · cases h
        · cases h
    · rw [ck_leaf hk] at h
      cases h
      exact occ_mk (by omega) (by simp)
    · exact rest (by omega)
    · rw [ck_nil hk] at h
      split at h
      · rename_i hin
        cases h; exact occ_mk (by omega) (by simpa using inS_iff.1 hin)
      · cases h
    · exact rest (by omega)
    · obtain ⟨k, hkk⟩ := Tm.kids1 ht (.inl hk)
      have hm : k ∈ t.kids := by rw [hkk]; simp
      rw [ck_fun hk hkk] at h
      split at h
      · rename_i hin
        have hin := inS_iff.1 hin
        obtain ⟨z, hc, h⟩ := bind_ok h
        cases h
        have hz := ih k hm (Tm.right_kid ht hm) (hfit.kid hm) _ _ _ (hl.app (.one (Nm.ok_nil (own.a (by rw [hk]; rfl))))) (hn.app (fun x hx => by simp at hx; subst hx; exact fun v hv => .inl (hin v hv))) hc
        refine occ_mk (by omega) ?_
        intro u hu
        simp at hu
        rcases hu with rfl | rfl
        · exact hin
        · exact hz
      · cases h
    · exact rest (by omega)
    · obtain ⟨k, m, hkk⟩ := Tm.kids2 ht (by omega)
      have hm1 : k ∈ t.kids := by rw [hkk]; simp
      have hm2 : m ∈ t.kids := by rw [hkk]; simp
      rw [ck_let hk hkk] at h
      split at h
      · obtain ⟨z, hc, h⟩ := bind_ok h
        have rz := ck_right k (Tm.right_kid ht hm1) (hfit.kid hm1) _ _ _ hl hc
        have hz := ih k hm1 (Tm.right_kid ht hm1) (hfit.kid hm1) _ _ _ hl (hn.more t.vars) hc
        exact ih m hm2 (Tm.right_kid ht hm2) (hfit.kid hm2) _ _ _ (hl.app (.one ⟨rz, hvl, own.vars⟩)) (hn.app (fun x hx => by
          simp at hx; subst hx; intro v hv
          rcases List.mem_append.1 (hz v hv) with a | a
          · exact .inr a
          · exact .inl a)) h
      · cases h
    · obtain ⟨k, m, hkk⟩ := Tm.kids2 ht (by omega)
      have hm1 : k ∈ t.kids := by rw [hkk]; simp
      have hm2 : m ∈ t.kids := by rw [hkk]; simp
      have ha := own.a (by rw [hk]; rfl)
      have hb := own.b (by rw [hk]; rfl)
      rw [ck_rec hk hkk] at h
      split at h
      · split at h
        · rename_i hin
          have i1 := inS_iff.1 hin.1
          have i2 := inS_iff.1 hin.2
          have i3 : ∀ v, (Ty.mk 9 0 [t.a, t.b]).Occ v → v ∈ t.vars ++ S := occ_mk (by omega) (by
            intro u hu
            simp at hu
            rcases hu with rfl | rfl
            · exact i1
            · exact i2)
          obtain ⟨z, hc, h⟩ := bind_ok h
          split at h
          · exact ih m hm2 (Tm.right_kid ht hm2) (hfit.kid hm2) _ _ _ (hl.app (.one ⟨right_fun ha hb, hvl, own.vars⟩)) (hn.app (fun x hx => by
              simp at hx; subst hx; intro v hv
              rcases List.mem_append.1 (i3 v hv) with a | a
              · exact .inr a
              · exact .inl a)) h
          · cases h
        · cases h
      · cases h
    · exact rest (by omega)
    · obtain ⟨k, ks, hkk, hlen⟩ := Tm.kidsM ht hk
      have hm1 : k ∈ t.kids := by rw [hkk]; simp
      rw [ck_match hk hkk] at h
      obtain ⟨z, hc, h⟩ := bind_ok h
      have rz := ck_right k (Tm.right_kid ht hm1) (hfit.kid hm1) _ _ _ hl hc
      have hz := ih k hm1 (Tm.right_kid ht hm1) (hfit.kid hm1) _ _ _ hl hn hc
      -- the arms' names are right, too
      have key : ∀ {r : List (Pat × Chk)} {out : Option Ty} {w : Ty}, (∀ p ∈ r, ∀ m : List Nm, NmsOk m → NmsIn S m → ∀ u, p.2 m S = .ok u → ∀ v, u.Occ v → v ∈ S) → (∀ o, out = some o → ∀ v, o.Occ v → v ∈ S) → ckArms z l S r out = .ok w → ∀ v, w.Occ v → v ∈ S := by
        intro r
        induction r with
        | nil =>
          intro out w _ ho h
          exact ckArms_occ hz hn (r := []) (fun p hp => by cases hp) ho h
        | cons q r ihr =>
          intro out w hr ho h
          obtain ⟨p, f⟩ := q
          simp only [ckArms] at h
          cases hb : p.binds z with
          | none => rw [hb] at h; cases h
          | some b =>
            rw [hb] at h
            obtain ⟨a, hf, h⟩ := bind_ok h
            have nb : NmsIn S (b.map nmOfE) := fun x hx v hv => by
              obtain ⟨e, he, rfl⟩ := List.mem_map.1 hx
              exact .inl (Pat.binds_occ p z b hz hb e he v hv)
            have ha := hr (p, f) (List.mem_cons_self ..) _ (hl.app (NmsOk.ents (Pat.binds_right p z b rz hb))) (hn.app nb) a hf
            cases out with
            | none => exact ihr (fun p' hp' => hr p' (List.mem_cons_of_mem _ hp')) (fun o h => by cases h; exact ha) h
            | some o =>
              simp only at h
              split at h
              · exact ihr (fun p' hp' => hr p' (List.mem_cons_of_mem _ hp')) ho h
              · cases h
      refine key (fun p hp m hm hmi u hu => ?_) (fun o h => by cases h) h
      obtain ⟨k', hk', e⟩ := List.mem_map.1 (List.of_mem_zip hp).2
      have hm2 : k' ∈ t.kids := by rw [hkk]; exact List.mem_cons_of_mem _ hk'
      exact ih k' hm2 (Tm.right_kid ht hm2) (hfit.kid hm2) m S u hm hmi (by rw [e]; exact hu)
    · exact rest (by omega)
    · exact rest (by omega)

/-- A term's type is closed. -/
theorem ck_closed {t : Tm} (ht : t.right = true) (hf : t.fit) {y : Ty} (h : ck t [] [] = .ok y) : y.without 6 = true :=
  Ty.closed_iff.2 fun v hv => by
    have := ck_occ t ht hf [] [] y (fun x hx => by cases hx) (fun x hx => by cases hx) h v hv
    cases this

theorem Tm.wide_mass (t : Tm) : t.wide ≤ 2 * t.mass := by
  induction t using Tm.ind with
  | h t ih =>
    rw [Tm.wide_eq, Tm.mass_eq]
    have h1 := sum_le_sum ih
    have h2 := sum_le_sum (l := t.pats) (f := Pat.size) (g := Pat.mass) fun p _ => p.size_mass
    have h3 : (t.kids.map fun k => 2 * k.mass).sum = 2 * (t.kids.map Tm.mass).sum := by
      have : ∀ l : List Tm, (l.map fun k => 2 * k.mass).sum = 2 * (l.map Tm.mass).sum := by
        intro l
        induction l with
        | nil => rfl
        | cons a l ih => simp only [List.map_cons, List.sum_cons, ih]; omega
      exact this _
    omega

/-- A cast. -/
def castTm (a b : Ty) (t : Tm) : Tm := .mk 16 0 0 nil8 nil8 0 nil8 0 0 false [] a b [] [] [t]
theorem cast_right {a b : Ty} {t : Tm} (ha : a.right = true) (hb : b.right = true) (ht : t.right = true) : (castTm a b t).right = true := by
  have n0 : (0 : Nat) ≤ 200 := by omega
  rw [Tm.right_eq]
  simp [castTm, Tm.one, Tm.one1, Tm.one2, Tm.one3, Tm.one4, Tm.one5, Tm.lists, kOk, kKids, kName, kArg, kN, kS, kOp, kAt, kVars, kArgs, kPats, kA, kB, kLabel, namedB, typedB, nil8_size, ha, hb, ht]
theorem cast_fit {a b : Ty} {t : Tm} (ha : a.thin = true) (hb : b.thin = true) (va : a.vcount ≤ lim) (vb : b.vcount ≤ lim) (ht : t.fit) : (castTm a b t).fit := by
  refine .mk _ ⟨?_, ?_, ?_, ?_, ha, hb, va, vb, ?_, ?_, ?_, ?_, ?_, ?_⟩ fun k hk => ?_
  · show nil8.size ≤ _; rw [nil8_size]; omega
  · show nil8.size ≤ _; rw [nil8_size]; omega
  · show nil8.size ≤ _; rw [nil8_size]; omega
  · simp [castTm, lim]
  · simp [castTm, lim]
  · simp [castTm]
  · simp [castTm]
  · simp [castTm, lim]
  · simp [castTm]
  · simp [castTm, lim]
  · simp [castTm] at hk; subst hk; exact ht
theorem cast_wide (a b : Ty) (t : Tm) : (castTm a b t).wide = t.wide + 2 := by rw [Tm.wide_eq]; simp [castTm]; omega

theorem ck_cast {a b : Ty} {t : Tm} (ht : t.right = true) (ha : a.right = true) (hb : b.right = true) : ckType (castTm a b t) = (ck t [] []).bind fun y =>
    if inS [] a && inS [] b then if y = a ∧ a.agrees b = true then .ok b else .error 4 else .error 6 := by
  unfold ckType
  rw [if_pos (cast_right ha hb ht), ck_rest (.inr (.inr (.inr (.inr (.inr rfl)))))]
  have : (castTm a b t).kids = [t] := rfl
  rw [this]
  simp only [List.map_cons, List.map_nil, ckKids]
  cases ck t [] [] with
  | error e => rfl
  | ok y =>
    simp only [Except.bind]
    unfold ckOf
    have k : (castTm a b t).kind = 16 := rfl
    rw [if_neg (by rw [k]; omega), if_neg (by rw [k]; omega), if_neg (by rw [k]; omega), if_neg (by rw [k]; omega), if_neg (by rw [k]; omega), if_pos k]
    rfl

theorem inS_nil {t : Ty} : inS [] t = t.without 6 := by
  rw [Bool.eq_iff_iff, inS_iff, Ty.closed_iff]
  simp
end Go.Su

/-
  The settings of the data machine for this seat: by program.
-/
namespace Go.Su
open Go.Proofs

def spread {α : Type} (d : α) : Nat → Nat → List (Nat × α) → List α
  | 0, _, _ => []
  | n + 1, i, [] => d :: spread d n (i + 1) []
  | n + 1, i, (j, x) :: l => match Nat.beq i j with
    | true => x :: spread d n (i + 1) l
    | false => d :: spread d n (i + 1) ((j, x) :: l)

abbrev F_main_main : FuncId := 0
abbrev F_gosem_cut : FuncId := 1
abbrev F_gosem_cut_init : FuncId := 2
abbrev F_l17_TermExact : FuncId := 3
abbrev F_l17_TermPut : FuncId := 4
abbrev F_l17_TermLeaves : FuncId := 5
abbrev F_l17_TermOrder : FuncId := 6
abbrev F_l17_TermTypes : FuncId := 7
abbrev F_l17_Heavy : FuncId := 8
abbrev F_r17_Right : FuncId := 9
abbrev F_r17_Free : FuncId := 10
abbrev F_term_Check : FuncId := 11
abbrev F_term_Size : FuncId := 12
abbrev F_r17_Size : FuncId := 13
abbrev F_term_Same : FuncId := 14
abbrev F_r17_Same : FuncId := 15
abbrev F_keep_Texts : FuncId := 16
abbrev F_term_Free : FuncId := 17
abbrev F_l17_wakes : FuncId := 18
abbrev F_term_Put : FuncId := 19
abbrev F_r17_Put : FuncId := 20
abbrev F_keep_Int : FuncId := 21
abbrev F_l17_light : FuncId := 22
abbrev F_term_Types : FuncId := 23
abbrev F_r08_RightBinds : FuncId := 24
abbrev F_r17_Types : FuncId := 25
abbrev F_l17_weigh : FuncId := 26
abbrev F_r17_own : FuncId := 27
abbrev F_r17_free : FuncId := 28
abbrev F_term_right : FuncId := 29
abbrev F_slices_Equal__int_int : FuncId := 30
abbrev F_typ_Same : FuncId := 31
abbrev F_slices_EqualFunc__api_Type__api_Type_api_Type_api_Type : FuncId := 32
abbrev F_slices_EqualFunc__api_Pat__api_Pat_api_Pat_api_Pat : FuncId := 33
abbrev F_term_samePat : FuncId := 34
abbrev F_slices_EqualFunc__api_Term__api_Term_api_Term_api_Term : FuncId := 35
abbrev F_r17_flat : FuncId := 36
abbrev F_term_free : FuncId := 37
abbrev F_slices_Sort__string_string : FuncId := 38
abbrev F_r03_Leaf : FuncId := 39
abbrev F_l17_name : FuncId := 40
abbrev F_word_Name : FuncId := 41
abbrev F_term_For : FuncId := 42
abbrev F_r01_Name : FuncId := 43
abbrev F_r17_counts : FuncId := 44
abbrev F_r17_replaced : FuncId := 45
abbrev F_l11_Small : FuncId := 46
abbrev F_r03_Size : FuncId := 47
abbrev F_term_bindsRight : FuncId := 48
abbrev F_term_types : FuncId := 49
abbrev F_r03_Right : FuncId := 50
abbrev F_r17_without : FuncId := 51
abbrev F_r17_put : FuncId := 52
abbrev F_l17_weighPat : FuncId := 53
abbrev F_r17_bare : FuncId := 54
abbrev F_r05_RightPat : FuncId := 55
abbrev F_r05_Has : FuncId := 56
abbrev F_r05_Rise : FuncId := 57
abbrev F_r17_Binds : FuncId := 58
abbrev F_term_one : FuncId := 59
abbrev F_r03_SameAll : FuncId := 60
abbrev F_r03_Same : FuncId := 61
abbrev F_r05_SameAt : FuncId := 62
abbrev F_term_binds : FuncId := 63
abbrev F_slices_pdqsortOrdered_string : FuncId := 64
abbrev F_math_bits_Len : FuncId := 65
abbrev F_word_Key : FuncId := 66
abbrev F_word_inner : FuncId := 67
abbrev F_term_putting_in : FuncId := 68
abbrev F_r01_lower : FuncId := 69
abbrev F_r01_part : FuncId := 70
abbrev F_r01_Key : FuncId := 71
abbrev F_r16_Binds : FuncId := 72
abbrev F_l03_Heavy : FuncId := 73
abbrev F_r08_Deep : FuncId := 74
abbrev F_r03_Vars : FuncId := 75
abbrev F_scheme_Subst : FuncId := 76
abbrev F_slices_Clone__api_Type_api_Type : FuncId := 77
abbrev F_slices_Clone__api_Term_api_Term : FuncId := 78
abbrev F_term_put : FuncId := 79
abbrev F_term_outside : FuncId := 80
abbrev F_r03_Kids : FuncId := 81
abbrev F_r03_In : FuncId := 82
abbrev F_r03_None : FuncId := 83
abbrev F_r08_Put : FuncId := 84
abbrev F_r05_pat : FuncId := 85
abbrev F_r05_Names : FuncId := 86
abbrev F_term_shapeOf : FuncId := 87
abbrev F_term_named : FuncId := 88
abbrev F_term_typed : FuncId := 89
abbrev F_term_lists : FuncId := 90
abbrev F_r05_Same : FuncId := 91
abbrev F_r05_patAt : FuncId := 92
abbrev F_term_patNames : FuncId := 93
abbrev F_slices_insertionSortOrdered_string : FuncId := 94
abbrev F_slices_heapSortOrdered_string : FuncId := 95
abbrev F_slices_breakPatternsOrdered_string : FuncId := 96
abbrev F_slices_choosePivotOrdered_string : FuncId := 97
abbrev F_slices_reverseRangeOrdered_string : FuncId := 98
abbrev F_slices_partialInsertionSortOrdered_string : FuncId := 99
abbrev F_cmp_Less_string : FuncId := 100
abbrev F_slices_partitionEqualOrdered_string : FuncId := 101
abbrev F_slices_partitionOrdered_string : FuncId := 102
abbrev F_math_bits_Len32 : FuncId := 103
abbrev F_math_bits_Len64 : FuncId := 104
abbrev F_slices_Contains__string_string : FuncId := 105
abbrev F_r01_digit : FuncId := 106
abbrev F_l03_count : FuncId := 107
abbrev F_r03_vars : FuncId := 108
abbrev F_typ_Check : FuncId := 109
abbrev F_scheme_put : FuncId := 110
abbrev F_slices_DeleteFunc__api_Bind_api_Bind : FuncId := 111
abbrev F_slices_Clone__api_Bind_api_Bind : FuncId := 112
abbrev F_term_outside_1 : FuncId := 113
abbrev F_slices_Contains__int_int : FuncId := 114
abbrev F_r05_names : FuncId := 115
abbrev F_term_none : FuncId := 116
abbrev F_tree_CheckPat : FuncId := 117
abbrev F_r05_SamePat : FuncId := 118
abbrev F_slices_siftDownOrdered_string : FuncId := 119
abbrev F_slices_nextPowerOfTwo : FuncId := 120
abbrev F_slices_xorshift_Next : FuncId := 121
abbrev F_slices_medianAdjacentOrdered_string : FuncId := 122
abbrev F_slices_medianOrdered_string : FuncId := 123
abbrev F_cmp_isNaN_string : FuncId := 124
abbrev F_slices_Index__string_string : FuncId := 125
abbrev F_typ_right : FuncId := 126
abbrev F_slices_IndexFunc__api_Bind_api_Bind : FuncId := 127
abbrev F_slices_Index__int_int : FuncId := 128
abbrev F_tree_pats : FuncId := 129
abbrev F_tree_onePat : FuncId := 130
abbrev F_slices_order2Ordered_string : FuncId := 131
abbrev F_typ_arity : FuncId := 132
abbrev F_tree_pats_1 : FuncId := 133
abbrev F_tree_goPats : FuncId := 134
abbrev F_runtime_boundsError_Error : FuncId := 135
abbrev F_runtime_boundsError_RuntimeError : FuncId := 136
abbrev F_runtime_errorString_Error : FuncId := 137
abbrev F_runtime_errorString_RuntimeError : FuncId := 138
abbrev F_runtime_plainError_Error : FuncId := 139
abbrev F_runtime_plainError_RuntimeError : FuncId := 140
abbrev F_runtime_errorAddressString_Error : FuncId := 141
abbrev F_runtime_errorAddressString_RuntimeError : FuncId := 142
abbrev F_runtime_TypeAssertionError_Error : FuncId := 143
abbrev F_runtime_TypeAssertionError_RuntimeError : FuncId := 144
abbrev F_runtime_PanicNilError_Error : FuncId := 145
abbrev F_runtime_PanicNilError_RuntimeError : FuncId := 146
abbrev F_internal_abi_Type_Align : FuncId := 147
abbrev F_internal_runtime_maps_unhashableTypeError_Error : FuncId := 148
abbrev F_internal_runtime_maps_unhashableTypeError_RuntimeError : FuncId := 149
abbrev F_api_Errno_Error : FuncId := 150
abbrev F_internal_abi_Kind_String : FuncId := 151

def fl_l17_TermLeaves : Flags := { steal := [11, 72, 84], keep := [(7, [3, 4, 7, 8], [3, 4], [], [3, 4, 7, 8]), (12, [3, 7, 8, 9, 10, 11, 12], [3, 9], [11], [3, 7, 8, 9, 10, 12])] }
def fl_l17_Heavy : Flags := { keep := [(3, [0, 3, 4], [], [], [0, 3, 4])] }
def fl_r17_Right : Flags := { keep := [(4, [1, 3], [1], [], [1, 3])] }
def fl_r17_Free : Flags := {}
def fl_term_Check : Flags := {}
def fl_term_Size : Flags := { keep := [(3, [3, 7, 8, 9], [], [], [3, 7, 8, 9])] }
def fl_term_Same : Flags := { keep := [(3, [2, 3], [2, 3], [], [2, 3])] }
def fl_keep_Texts : Flags := { keep := [(4, [0, 1, 5], [], [], [0, 1, 5])] }
def fl_term_Free : Flags := {}
def fl_l17_wakes : Flags := { keep := [(4, [1, 2, 3, 4, 5], [1, 2, 4], [], [1, 2, 3, 4, 5])] }
def fl_term_Put : Flags := { keep := [(4, [1, 2, 4, 7, 8, 32, 33, 34], [4, 7, 8], [], [1, 2, 4, 7, 8, 32, 33, 34])] }
def fl_keep_Int : Flags := {}
def fl_l17_light : Flags := {}
def fl_l17_weigh : Flags := { keep := [(5, [1, 2, 5], [2], [], [1, 2, 5]), (11, [1, 2, 6], [2], [], [1, 2, 6]), (15, [1, 2, 7], [2], [], [1, 2, 7])] }
def fl_r17_own : Flags := { keep := [(5, [1, 5], [1], [], [1, 5]), (10, [1, 6], [1], [], [1, 6]), (15, [1, 7], [1], [], [1, 7])] }
def fl_r17_free : Flags := { keep := [(3, [1, 2, 3], [3], [], [1, 2, 3]), (4, [1, 2, 3, 7], [3], [], [1, 2, 3, 7])] }
def fl_term_right : Flags := { keep := [(4, [9, 10, 11], [], [], [9, 10, 11])] }
def fl_slices_Equal__int_int : Flags := { keep := [(4, [0, 1, 12, 13], [], [], [0, 1, 12, 13])] }
def fl_typ_Same : Flags := { keep := [(4, [3, 29, 30, 31], [3], [], [3, 29, 30, 31])] }
def fl_slices_EqualFunc__api_Type__api_Type_api_Type_api_Type : Flags := { keep := [(4, [1, 2, 15, 16, 17], [], [], [1, 2, 15, 16, 17])] }
def sig_slices_EqualFunc__api_Type__api_Type_api_Type_api_Type : Sig := { params := [.val, .val, .val], results := [.val] }
def fl_slices_EqualFunc__api_Pat__api_Pat_api_Pat_api_Pat : Flags := { keep := [(4, [1, 2, 15, 16, 17], [], [], [1, 2, 15, 16, 17])] }
def sig_slices_EqualFunc__api_Pat__api_Pat_api_Pat_api_Pat : Sig := { params := [.val, .val, .val], results := [.val] }
def fl_term_samePat : Flags := {}
def fl_slices_EqualFunc__api_Term__api_Term_api_Term_api_Term : Flags := { keep := [(4, [1, 2, 15, 16, 17], [], [], [1, 2, 15, 16, 17])] }
def sig_slices_EqualFunc__api_Term__api_Term_api_Term_api_Term : Sig := { params := [.val, .val, .val], results := [.val] }
def fl_r17_flat : Flags := { keep := [(3, [2, 3], [2, 3], [], [2, 3]), (6, [2, 3, 5], [2, 3], [], [2, 3, 5]), (11, [2, 3, 6], [2, 3], [], [2, 3, 6])] }
def fl_term_free : Flags := { keep := [(3, [1, 2, 3], [3], [], [1, 2, 3]), (4, [1, 2, 3, 29, 30, 31], [3], [], [1, 2, 3, 29, 30, 31]), (8, [1, 2, 3, 7, 8, 29, 30, 31, 39, 40, 41], [3, 7], [], [1, 2, 3, 7, 8, 29, 30, 31, 39, 40, 41]), (14, [1, 2, 3, 29, 30, 31, 54, 55, 56], [3], [], [1, 2, 3, 29, 30, 31, 54, 55, 56])] }
def sig_term_free : Sig := { params := [.val, .val, .val], results := [] }
def fl_r03_Leaf : Flags := {}
def fl_l17_name : Flags := {}
def fl_word_Name : Flags := { keep := [(4, [0, 3], [], [], [0, 3])] }
def fl_term_For : Flags := { shared := [17] }
def fl_r01_Name : Flags := { keep := [(4, [0, 3], [], [], [0, 3])] }
def fl_l11_Small : Flags := { keep := [(2, [0, 3], [], [], [0, 3])] }
def fl_r03_Size : Flags := { keep := [(3, [1, 3, 4], [1], [], [1, 3, 4])] }
def fl_term_types : Flags := { hide := [45, 55], keep := [(3, [1, 2, 4, 18, 19, 20], [2, 4], [], [1, 2, 4, 18, 19, 20]), (8, [1, 2, 4, 34, 35, 36], [2, 4], [], [1, 2, 4, 34, 35, 36]), (14, [1, 2, 4], [2, 4], [], [1, 2, 4])] }
def fl_r03_Right : Flags := { keep := [(4, [1, 3], [1], [], [1, 3])] }
def fl_l17_weighPat : Flags := { keep := [(5, [1, 2, 5], [2], [], [1, 2, 5])] }
def fl_r17_bare : Flags := { keep := [(25, [1, 2, 4, 9], [1, 2, 4], [], [1, 2, 4, 9])] }
def fl_r05_RightPat : Flags := { keep := [(5, [3, 4], [], [], [3, 4])] }
def fl_r05_Has : Flags := { keep := [(2, [0, 1, 5], [], [], [0, 1, 5])] }
def fl_r05_Rise : Flags := { steal := [4, 6, 39], keep := [(2, [0, 1, 5], [], [], [0, 1, 5]), (4, [0, 1, 5], [], [], [0, 1, 5]), (6, [0, 1, 5], [], [], [0, 1, 5])] }
def fl_r17_Binds : Flags := { keep := [(5, [1, 2], [2], [], [1, 2])] }
def fl_term_one : Flags := { keep := [(4, [1, 3], [1, 3], [], [1, 3]), (6, [1, 3], [1, 3], [], [1, 3]), (8, [1, 3], [1, 3], [], [1, 3]), (10, [1, 3], [1, 3], [], [1, 3]), (12, [1, 3], [1, 3], [], [1, 3])] }
def fl_r03_SameAll : Flags := { keep := [(4, [0, 1, 5], [], [], [0, 1, 5])] }
def fl_r03_Same : Flags := { keep := [(4, [2, 3, 5], [2, 3], [], [2, 3, 5])] }
def fl_r05_SameAt : Flags := { keep := [(4, [2, 3, 5], [2, 3], [], [2, 3, 5]), (9, [2, 3, 6], [2, 3], [], [2, 3, 6])] }
def fl_term_binds : Flags := { steal := [4], keep := [(5, [1, 2], [2], [], [1, 2])] }
def fl_word_Key : Flags := {}
def fl_word_inner : Flags := {}
def fl_term_putting_in : Flags := { steal := [6, 58, 73], keep := [(10, [0, 3, 4, 6, 51, 52, 53], [3, 4], [6], [0, 3, 4, 51, 52, 53]), (19, [0, 3, 4, 9, 83, 84, 85], [3, 4], [], [0, 3, 4, 9, 83, 84, 85])] }
def sig_term_putting_in : Sig := { params := [.val, .val], results := [.val, .val], lock := true }
def fl_r01_lower : Flags := {}
def fl_r01_part : Flags := {}
def fl_r01_Key : Flags := { keep := [(2, [0, 3], [], [], [0, 3]), (8, [0, 4, 5], [], [], [0, 4, 5])] }
def fl_l03_Heavy : Flags := { keep := [(3, [0, 3, 4], [], [], [0, 3, 4])] }
def fl_r08_Deep : Flags := { keep := [(4, [1, 2, 5], [2], [], [1, 2, 5])] }
def fl_r03_Vars : Flags := { steal := [2] }
def fl_scheme_Subst : Flags := { keep := [(5, [1, 2, 4, 6, 16, 17, 18], [2, 4], [], [1, 2, 4, 6, 16, 17, 18])] }
def fl_term_put : Flags := {}
def fl_term_outside : Flags := { shared := [3] }
def fl_r03_Kids : Flags := {}
def fl_r03_In : Flags := { keep := [(2, [0, 1, 5], [], [], [0, 1, 5])] }
def fl_r05_pat : Flags := { keep := [(25, [1, 3, 4], [1, 4], [], [1, 3, 4]), (28, [1, 3, 5], [1], [], [1, 3, 5])] }
def fl_r05_Names : Flags := { steal := [2] }
def fl_term_shapeOf : Flags := {}
def fl_term_named : Flags := {}
def fl_term_typed : Flags := {}
def fl_term_lists : Flags := { keep := [(2, [1, 10, 11, 12], [1], [], [1, 10, 11, 12]), (8, [1, 24, 25, 26], [1], [], [1, 24, 25, 26]), (14, [35, 36, 37], [], [], [35, 36, 37])] }
def fl_r05_Same : Flags := { keep := [(3, [2, 3], [2, 3], [], [2, 3]), (6, [2, 3, 5], [2, 3], [], [2, 3, 5]), (11, [2, 3, 6], [2, 3], [], [2, 3, 6])] }
def fl_r05_patAt : Flags := { keep := [(4, [2, 3, 5], [2, 3], [], [2, 3, 5])] }
def fl_term_patNames : Flags := { steal := [1, 4, 10, 23, 26], keep := [(4, [1, 16, 17, 18], [], [1], [16, 17, 18])] }
def sig_term_patNames : Sig := { params := [.val, .own], results := [.own] }
def fl_slices_Contains__string_string : Flags := {}
def fl_r01_digit : Flags := {}
def fl_l03_count : Flags := { keep := [(3, [1, 2, 5], [2], [], [1, 2, 5])] }
def fl_r03_vars : Flags := { steal := [1, 4, 16, 33, 35], keep := [(3, [1, 2], [2], [1], [2]), (4, [1, 2, 5], [2], [1], [2, 5])] }
def sig_r03_vars : Sig := { params := [.val, .own], results := [.own] }
def fl_typ_Check : Flags := {}
def fl_scheme_put : Flags := { steal := [45], keep := [(10, [1, 2, 6, 9, 38, 39, 40], [6, 9], [9], [1, 2, 6, 38, 39, 40])] }
def sig_scheme_put : Sig := { params := [.val, .val, .val], results := [.val] }
def sig_slices_DeleteFunc__api_Bind_api_Bind : Sig := { params := [.val, .val], results := [.val] }
def sig_term_outside_1 : Sig := { params := [.val, .val], results := [.val] }
def fl_r05_names : Flags := { steal := [1, 4, 9, 26, 28], keep := [(4, [1, 2, 5], [2], [1], [2, 5])] }
def sig_r05_names : Sig := { params := [.val, .own], results := [.own] }
def fl_term_none : Flags := {}
def fl_tree_CheckPat : Flags := { shared := [1, 2, 3], keep := [(3, [2, 3, 8], [], [], [2, 3, 8]), (6, [3, 4], [4], [], [3, 4])] }
def fl_r05_SamePat : Flags := { keep := [(4, [2, 3, 5], [2, 3], [], [2, 3, 5])] }
def fl_slices_Index__string_string : Flags := { keep := [(2, [0, 1, 7, 8], [], [], [0, 1, 7, 8])] }
def fl_typ_right : Flags := { keep := [(9, [33, 34, 35], [], [], [33, 34, 35])] }
def sig_slices_IndexFunc__api_Bind_api_Bind : Sig := { params := [.val, .val], results := [.val] }
def fl_tree_onePat : Flags := { keep := [(24, [1, 3, 4], [1, 3], [], [1, 3, 4])] }
def fl_typ_arity : Flags := {}

def flL : List Flags := [{}, {}, {}, {}, {}, fl_l17_TermLeaves, {}, {}, fl_l17_Heavy, fl_r17_Right, fl_r17_Free, fl_term_Check, fl_term_Size, {}, fl_term_Same, {}, fl_keep_Texts, fl_term_Free, fl_l17_wakes, fl_term_Put, {}, fl_keep_Int, fl_l17_light, {}, {}, {}, fl_l17_weigh, fl_r17_own, fl_r17_free, fl_term_right, fl_slices_Equal__int_int, fl_typ_Same, fl_slices_EqualFunc__api_Type__api_Type_api_Type_api_Type, fl_slices_EqualFunc__api_Pat__api_Pat_api_Pat_api_Pat, fl_term_samePat, fl_slices_EqualFunc__api_Term__api_Term_api_Term_api_Term, fl_r17_flat, fl_term_free, {}, fl_r03_Leaf, fl_l17_name, fl_word_Name, fl_term_For, fl_r01_Name, {}, {}, fl_l11_Small, fl_r03_Size, {}, fl_term_types, fl_r03_Right, {}, {}, fl_l17_weighPat, fl_r17_bare, fl_r05_RightPat, fl_r05_Has, fl_r05_Rise, fl_r17_Binds, fl_term_one, fl_r03_SameAll, fl_r03_Same, fl_r05_SameAt, fl_term_binds, {}, {}, fl_word_Key, fl_word_inner, fl_term_putting_in, fl_r01_lower, fl_r01_part, fl_r01_Key, {}, fl_l03_Heavy, fl_r08_Deep, fl_r03_Vars, fl_scheme_Subst, {}, {}, fl_term_put, fl_term_outside, fl_r03_Kids, fl_r03_In, {}, {}, fl_r05_pat, fl_r05_Names, fl_term_shapeOf, fl_term_named, fl_term_typed, fl_term_lists, fl_r05_Same, fl_r05_patAt, fl_term_patNames, {}, {}, {}, {}, {}, {}, {}, {}, {}, {}, {}, fl_slices_Contains__string_string, fl_r01_digit, fl_l03_count, fl_r03_vars, fl_typ_Check, fl_scheme_put, {}, {}, {}, {}, fl_r05_names, fl_term_none, fl_tree_CheckPat, fl_r05_SamePat, {}, {}, {}, {}, {}, {}, fl_slices_Index__string_string, fl_typ_right, {}, {}, {}, fl_tree_onePat, {}, fl_typ_arity, {}, {}, {}, {}, {}, {}, {}, {}, {}, {}, {}, {}, {}, {}, {}, {}, {}, {}, {}]
def sigL : List (Option Sig) := [none, none, none, none, none, none, none, none, none, none, none, none, none, none, none, none, none, none, none, none, none, none, none, none, none, none, none, none, none, none, none, none, some sig_slices_EqualFunc__api_Type__api_Type_api_Type_api_Type, some sig_slices_EqualFunc__api_Pat__api_Pat_api_Pat_api_Pat, none, some sig_slices_EqualFunc__api_Term__api_Term_api_Term_api_Term, none, some sig_term_free, none, none, none, none, none, none, none, none, none, none, none, none, none, none, none, none, none, none, none, none, none, none, none, none, none, none, none, none, none, none, some sig_term_putting_in, none, none, none, none, none, none, none, none, none, none, none, none, none, none, none, none, none, none, none, none, none, none, none, none, some sig_term_patNames, none, none, none, none, none, none, none, none, none, none, none, none, none, none, some sig_r03_vars, none, some sig_scheme_put, some sig_slices_DeleteFunc__api_Bind_api_Bind, none, some sig_term_outside_1, none, some sig_r05_names, none, none, none, none, none, none, none, none, none, none, none, some sig_slices_IndexFunc__api_Bind_api_Bind, none, none, none, none, none, none, none, none, none, none, none, none, none, none, none, none, none, none, none, none, none, none, none, none]
def clL : List FuncId := [77, 78, 112]
def csL : List (FuncId × Nat) := [(77, 3), (78, 20), (112, 4), (129, 7)]
def mkL : List (FuncId × FuncId) := [(129, 133)]
noncomputable def itF (f : FuncId) : Option (List DV → Option (List DV)) := if f = 133 then some (flatD 7 6) else none
noncomputable def kc_term_Free : Code := Tryz.f17.body.getD .skip
noncomputable def kp_term_Free : KP where
  pre6 := (regL kc_term_Free [true, true, true, true, true, false, false]).take 1
  rRange := opR kc_term_Free [true, true, true, true, true, false, false] 1
  rNext := opR kc_term_Free [true, true, true, true, true, false, true, false, false, false] 0
  rExt := opR kc_term_Free [true, true, true, true, true, false, true, false, false, false] 1
  rEntry := opR kc_term_Free [true, true, true, true, true, false, true, false, false, true, true, false, false] 0
  rExt2 := opR kc_term_Free [true, true, true, true, true, false, true, false, false, true, true, false, false] 1
  rAsg := opR kc_term_Free [true, true, true, true, true, false, true, false, false, true, true, false, false] 2
  rMv := opR kc_term_Free [true, true, true, true, true, false, true, false, false, true, true, false, true] 0
  rMv2 := opR kc_term_Free [true, true, true, true, true, false, true, false, false, true, true, false, true] 1
  rBs := opR kc_term_Free [true, true, true, true, true, false, true, false, false, true, true, false, true] 2
  rApp := opR kc_term_Free [true, true, true, true, true, false, true, false, false, true, true, false, true] 3
  rAsg2 := opR kc_term_Free [true, true, true, true, true, false, true, false, false, true, true, false, true] 4
  rMv3 := opR kc_term_Free [true, true, true, true, true, true, false] 0
  rCall := opR kc_term_Free [true, true, true, true, true, true, false] 1
  i6 := 6
  b0 := 0
  i7 := 7
  b1 := 1
  i8 := 8
  i9 := 9
  i10 := 10
  it := 15
  mm := 14
  t21 := 16
  t22 := 17
  t23 := 18
  t24 := 19
  tk := 5
  t25 := 20
  t26 := 21
  t27 := 22
  t28 := 23
  tl := 4
  t29 := 24
  t30 := 25
  tm := 66
  ts := 34
  te := 9
  kt := 9
  vt := 3
  f := 38
noncomputable def cut_term_Free : Cut where
  pre := takeSeq 5 kc_term_Free
  mid := kp_term_Free.mid Tryz.prog
  post := dropSeq 7 kc_term_Free

noncomputable def primL : List (FuncId × Cut) := [(17, cut_term_Free)]
noncomputable def cfg : Cfg where
  P := Tryz.prog
  fl f := flL.getD f {}
  sig f := sigL.getD f none
  prim f := primL.lookup f
  clone f := clL.contains f
  csz f := (csL.lookup f).getD 0
  mki f := mkL.lookup f
  iter f := itF f

end Go.Su

/-
  The program's iterators keep their word: by program.
-/
namespace Go.Su
open Go.Proofs Go.RowKit Go.Shelf
attribute [local go_sem] Oper.semAt_some
set_option linter.unusedSimpArgs false
set_option linter.unusedVariables false

theorem room_none {F : Fence} (hd : F.depth = none) (k : Nat) : F.room k := fun d h => by rw [hd] at h; cases h
theorem RoundIn.anyD {F : Fence} (hd : F.depth = none) {m m' : Nat} {P : Program} {l : Nat} {f : FuncId} {tmps : Array Value} {assign body : Code} {w : World} {R : Ending → World → Prop}
    (h : RoundIn F m P l f tmps assign body w R) : RoundIn F m' P l f tmps assign body w R := ⟨h.1, fun c cs _ => h.2 c cs (room_none hd _)⟩


/-! ### pats -/
set_option maxHeartbeats 1000000 in
theorem mk_pats : MkOk Tryz.prog 129 133 7 := by
  intro w vs hs
  obtain ⟨l⟩ := vs
  match l, hs with
  | [v0, v1, v2, v3, v4, v5, v6], _ =>
  refine (callsIn_wide (n := 1)).1 (callsIn_of_wp Tryz.func129 rfl trivial ?_)
  simp only [Tryz.ntmps129, List.size_toArray, List.length_cons, List.length_nil, Nat.reduceAdd, Nat.reduceSub, Array.replicate_succ, Array.replicate_zero, List.push_toArray, List.append_toArray, List.nil_append, List.cons_append]
  gi_wp2
  go_ret
  exact ⟨rfl, _, rfl⟩

set_option maxRecDepth 10000 in
set_option maxHeartbeats 4000000 in
theorem go_pats (l n0 : Nat) (ds : List DV) (J : Nat → Env → World → Prop) (Jx : World → Prop) (n : Nat)
    (hf : ∀ k E' W', J k E' W' → ∀ b o, W'.heap.size ≤ b → E'.O b o = .other)
    (hI : ∀ k E' W1 W2, J k E' W1 → ItLe n0 E' W1 W2 → J k E' W2)
    (hY : ∀ k E' W1 d v, J k E' W1 → ds[k]? = some d → RV E'.S W1.heap d v → YieldAt Fence.wide n Tryz.prog l #[v] W1 fun e W2 =>
      (e = .returned (.bool true) ∧ ∃ E2, J (k + 1) E2 W2 ∧ Pr Ours E' W1.heap E2 W2.heap) ∨ (e = .returned (.bool false) ∧ Jx W2)) :
    ∀ (m : Nat) (d : DV) (sub : List DV), flatN 7 6 m d = some sub → ∀ (k : Nat) (E : Env) (W : World) (v : Value), J k E W → RV E.S W.heap d v → (∀ j x, sub[j]? = some x → ds[k + j]? = some x) → n0 ≤ W.heap.size →
      CallsIn Fence.wide n Tryz.prog 134 #[v, .func (.yield l) #[] #[]] W fun e W' => (e = .returned (.bool true) ∧ ∃ E', J (k + sub.length) E' W' ∧ Kpt E W E' W') ∨ (e = .returned (.bool false) ∧ Jx W') := by
  intro m
  induction m with
  | zero => intro d sub h; simp [flatN] at h
  | succ m ih =>
    intro d sub hsub k E W v hJ hv hin hn0
    cases d with
    | agg cs =>
      rw [flatN] at hsub
      obtain ⟨h1, hsub⟩ := og_some hsub
      cases hk : cs.getD 6 .undef with
      | list s kds =>
        rw [hk] at hsub
        simp only at hsub
        obtain ⟨h2, hsub⟩ := og_some hsub
        obtain ⟨ks, h3, hsub⟩ := ob_some hsub
        simp only [Option.some.injEq] at hsub
        subst hsub
        simp only [beq_iff_eq, Bool.and_eq_true, decide_eq_true_eq] at h1 h2
        obtain ⟨h2, hlim⟩ := h2
        subst h2
        have hv0 := hv
        simp only [RV] at hv0
        obtain ⟨vs, rfl, hvs⟩ := hv0
        obtain ⟨hl, hvs⟩ := RLs_iff.1 hvs
        obtain ⟨l', rfl⟩ : ∃ l' : List Value, vs = l'.toArray := ⟨vs.toList, by simp⟩
        simp only at hl hvs
        match l', hl.symm.trans h1 with
        | [v0, v1, v2, v3, v4, v5, v6], _ =>
        -- the kids
        have hk5 : cs[6]? = some (.list 7 kds) := by
          have : 6 < cs.length := by omega
          rw [List.getD_eq_getElem?_getD, List.getElem?_eq_getElem this] at hk
          rw [List.getElem?_eq_getElem this]
          exact congrArg some hk
        have hkc := (hvs 6 _ v6 hk5 rfl).2
        simp only [RC] at hkc
        obtain ⟨ka, len, cap, h4, h5, h6, h7, h8, h9⟩ := hkc
        simp only [List.cons.injEq, and_true] at h4
        subst h4 h5
        have hdd : ∀ k : Nat, (Fence.wide.depth.isSome = true → 1 ≤ k) := fun k h => by cases h
        -- the round
        have ho : ∀ o, E.O W.heap.size o = .other := fun o => hf k E W hJ _ o (Nat.le_refl _)
        have key : ∀ T, ∃ fy ty ay by_, (Instr.yield l #[.agg #[v0, v1, v2, v3, v4, v5, .slice ka kds.length cap]]).run Tryz.prog (W.alloc (.cells #[v0, v1, v2, v3, v4, v5, .slice ka kds.length cap] T)) = .ok (.round l fy ty ay by_) (W.alloc (.cells #[v0, v1, v2, v3, v4, v5, .slice ka kds.length cap] T)) ∧
            RoundIn Fence.wide (n - 1) Tryz.prog l fy ty ay by_ (W.alloc (.cells #[v0, v1, v2, v3, v4, v5, .slice ka kds.length cap] T)) fun e W2 =>
              (e = .returned (.bool true) ∧ ∃ E2, J (k + 1) E2 W2 ∧ Kpt E W E2 W2 ∧ (W2.heap[W.heap.size]? = some (.cells #[v0, v1, v2, v3, v4, v5, .slice ka kds.length cap] T (0, 0)) ∧ (∀ o, E2.O W.heap.size o = .other)) ∧ W2.cell? ⟨W.heap.size, 6, none⟩ = some (.slice ka kds.length cap)) ∨ (e = .returned (.bool false) ∧ Jx W2) := by
          intro T
          have hJ1 : J k E (W.alloc (.cells #[v0, v1, v2, v3, v4, v5, .slice ka kds.length cap] T)) := hI _ _ _ _ hJ (ItLe.alloc _)
          have K1 := Kpt.alloc (E := E) (W := W) (.cells #[v0, v1, v2, v3, v4, v5, .slice ka kds.length cap] T) (hf k E W hJ)
          obtain ⟨fy, ty, ay, by_, hy, hR⟩ := hY k E _ (.agg cs) _ hJ1 (hin 0 _ rfl) (RV.mono K1.sh _ hv)
          refine ⟨fy, ty, ay, by_, hy, RoundIn.anyD rfl (RoundIn.mono hR ?_)⟩
          rintro e W2 (⟨rfl, E2, hJ2, hP2⟩ | ⟨rfl, hx⟩)
          · have K2 := Kpt.of_pr hP2 (hf _ _ _ hJ1)
            have hb := K2.blk W.heap.size (by simp) ho
            rw [World.alloc_heap_new] at hb
            refine .inl ⟨rfl, E2, hJ2, K1.trans K2, hb, ?_⟩
            simp [World.cell?, hb.1]
          · exact .inr ⟨rfl, hx⟩
        obtain ⟨fy, ty, ay, by_, hy, hR⟩ := key 63
        refine callsIn_of_wp Tryz.func134 rfl trivial ?_
        simp only [Tryz.ntmps134, List.size_toArray, List.length_cons, List.length_nil, Nat.reduceAdd, Nat.reduceSub, Array.replicate_succ, Array.replicate_zero, List.push_toArray, List.append_toArray, List.nil_append, List.cons_append]
        gi_wp2_with ((try refine ⟨hdd _, ?_⟩); refine hR.mono ?_; clear hR; rintro e W2 (⟨rfl, E2, hJ2, hK2, hb2, hc2⟩ | ⟨rfl, hx2⟩))
        · -- the kids, one by one
          refine wpIn_loop_rounds (kds.length + 1) ?_
          refine (?loop : ∀ (r i : Nat) (pre rs : List DV) (E3 : Env) (w : World) (x6 x15 x16 x17 x18 x19 x20 x21 x22 : Value), i + r = kds.length → flatL (flatN 7 6 m) (kds.drop i) = some rs → ks = pre ++ rs → J (k + 1 + pre.length) E3 w → Kpt E W E3 w →
              Code.roundsIn Fence.wide n Tryz.prog _ _ (r + 1) { tmps := #[.agg #[v0, v1, v2, v3, v4, v5, .slice ka kds.length cap], .func (.yield l) #[] #[], .pointer (some { block := W.heap.size, off := 0 }), undef, .bool false, undef, x6,
                .func (.yield l) #[] #[], .agg #[v0, v1, v2, v3, v4, v5, .slice ka kds.length cap], .bool true, .bool false, .pointer (some { block := W.heap.size, off := 6 }), .slice ka kds.length cap, .int .i64 (kds.length : Int), .int .i64 (i : Int), x15, x16, x17, x18, x19, x20, x21, x22], defers := [] } w)
            kds.length 0 [] ks E2 W2 undef undef undef undef undef undef undef undef undef (by simp) h3 rfl hJ2 hK2
          clear hJ2 hK2 hb2 hc2 hy key hJ
          intro r
          induction r with
          | zero =>
            intro i pre rs E3 w x6 x15 x16 x17 x18 x19 x20 x21 x22 hi hrs hks hJ3 hK3
            have hi' : i = kds.length := by omega
            have hi'' : (i : Int) = (kds.length : Int) := by omega
            rw [roundsIn_succ]
            rw [hi'']
            have hlt : ¬ ((kds.length : Int) < (kds.length : Int)) := by omega
            gi_wp2
            go_ret
            rw [hi', List.drop_length, flatL] at hrs
            simp only [Option.some.injEq] at hrs
            subst hrs
            refine .inl ⟨rfl, E3, ?_, hK3⟩
            rw [show k + (pre.length + ([] : List DV).length + 1) = k + 1 + pre.length by simp; omega]
            exact hJ3
          | succ r ihr =>
            intro i pre rs E3 w x6 x15 x16 x17 x18 x19 x20 x21 x22 hi hrs hks hJ3 hK3
            rw [roundsIn_succ]
            have hlt : ((i : Int) < (kds.length : Int)) := by omega
            have hil : i < kds.length := by omega
            -- the kid in memory
            obtain ⟨xa, rfl⟩ : ∃ xa, ka = some xa := by
              cases ka with
              | none => have := h7 rfl; omega
              | some xa => exact ⟨xa, rfl⟩
            obtain ⟨h10, h11⟩ := h9 xa rfl
            obtain ⟨xb, xo, xs⟩ := xa
            have h10 := h10 (by omega)
            simp only at h10 h11
            subst h10
            obtain ⟨us, hu1, hu2, hu3⟩ := RElems_iff.1 h11 i _ (List.getElem?_eq_getElem hil)
            have hu4 := hu2.mono hK3.sh
            match us, hu1 with
            | [u0, u1, u2, u3, u4, u5, u6], _ =>
            have cc : ∀ (j : Nat) (u : Value), [u0, u1, u2, u3, u4, u5, u6][j]? = some u → w.cell? ⟨xb, xo + i * 7 + j, none⟩ = some u := fun j u hj => by rw [cell_hc]; exact (hu4 j u hj).1
            have c0 : w.cell? ⟨xb, xo + i * 7, none⟩ = some u0 := cc 0 u0 rfl
            have c1 := cc 1 u1 rfl
            have c2 := cc 2 u2 rfl
            have c3 := cc 3 u3 rfl
            have c4 := cc 4 u4 rfl
            have c5 := cc 5 u5 rfl
            have c6 := cc 6 u6 rfl
            have ou : ∀ (j : Nat) (u : Value), [u0, u1, u2, u3, u4, u5, u6][j]? = some u → u.oneCell' = true := fun j u hj => (RC_proj hu3 hj).elim fun h1 h2 => RC_one h1 h2
            have e0 : u0.oneCell' = true := ou 0 u0 rfl
            have e1 : u1.oneCell' = true := ou 1 u1 rfl
            have e2 : u2.oneCell' = true := ou 2 u2 rfl
            have e3 : u3.oneCell' = true := ou 3 u3 rfl
            have e4 : u4.oneCell' = true := ou 4 u4 rfl
            have e5 : u5.oneCell' = true := ou 5 u5 rfl
            have e6 : u6.oneCell' = true := ou 6 u6 rfl
            obtain ⟨w1, s0, b0, r0, z0, o0⟩ := store_one (P := Tryz.prog) (j := 0) (World.alloc_heap_new w (.cells #[.int .i64 0, .int .i64 0, .int .i64 0, .string ⟨#[]⟩, .int .i64 0, .string ⟨#[]⟩, .slice none 0 0] 63)) (by simp) e0
            obtain ⟨w2, s1, b1, r1, z1, o1⟩ := store_one (P := Tryz.prog) (j := 1) b0 (by simp) e1
            obtain ⟨w3, s2, b2, r2, z2, o2⟩ := store_one (P := Tryz.prog) (j := 2) b1 (by simp) e2
            obtain ⟨w4, s3, b3, r3, z3, o3⟩ := store_one (P := Tryz.prog) (j := 3) b2 (by simp) e3
            obtain ⟨w5, s4, b4, r4, z4, o4⟩ := store_one (P := Tryz.prog) (j := 4) b3 (by simp) e4
            obtain ⟨w6, s5, b5, r5, z5, o5⟩ := store_one (P := Tryz.prog) (j := 5) b4 (by simp) e5
            obtain ⟨w7, s6, b6, r6, z6, o6⟩ := store_one (P := Tryz.prog) (j := 6) b5 (by simp) e6
            simp only [List.setIfInBounds_toArray, List.set_cons_zero, List.set_cons_succ] at b0 b1 b2 b3 b4 b5 b6
            have dd : ∀ (j : Nat) (u : Value), [u0, u1, u2, u3, u4, u5, u6][j]? = some u → w7.cell? ⟨w.heap.size, j, none⟩ = some u := fun j u hj => by rw [cell_hc]; simp only [hc, b6]; simpa using hj
            have d0 := dd 0 u0 rfl
            have d1 := dd 1 u1 rfl
            have d2 := dd 2 u2 rfl
            have d3 := dd 3 u3 rfl
            have d4 := dd 4 u4 rfl
            have d5 := dd 5 u5 rfl
            have d6 := dd 6 u6 rfl
            have low : ∀ b, b < w.heap.size → w7.heap[b]? = w.heap[b]? := fun b hb => by
              rw [r6 b (by omega), r5 b (by omega), r4 b (by omega), r3 b (by omega), r2 b (by omega), r1 b (by omega), r0 b (by omega)]
              exact Below.heap_alloc _ _ _ hb
            have hz : w.heap.size ≤ w7.heap.size := by rw [z6, z5, z4, z3, z2, z1, z0]; simp
            have hout : Outer w w7 := Outer.trans (b := w1) (Outer.trans (b := w.alloc (.cells #[.int .i64 0, .int .i64 0, .int .i64 0, .string ⟨#[]⟩, .int .i64 0, .string ⟨#[]⟩, .slice none 0 0] 63)) ⟨rfl, rfl, rfl⟩ o0) ((((((o1).trans o2).trans o3).trans o4).trans o5).trans o6)
            have hfr := hf _ _ _ hJ3
            have K7 : Kpt E3 w E3 w7 := Kpt.same hz low hfr
            have hJ7 := hI _ _ _ _ hJ3 (ItLe.same hz low hout)
            rw [List.drop_eq_getElem_cons hil, flatL] at hrs
            obtain ⟨sa, hsa, hrs⟩ := ob_some hrs
            obtain ⟨sb, hsb, hrs⟩ := ob_some hrs
            simp only [Option.some.injEq] at hrs
            subst hrs
            have h120 : Fence.wide.fn 134 := trivial
            have hcall : CallsIn Fence.wide (n - 1) Tryz.prog 134 _ w7 _ := callsIn_wide.2 (callsIn_wide.1 (ih _ sa hsa (k + 1 + pre.length) E3 w7 (.agg #[u0, u1, u2, u3, u4, u5, u6]) hJ7 (RV.mono (hK3.trans K7).sh _ (flat_agg hsa hu3)) (flat_at hin hks) (by have := hK3.size; omega)))
            clear ih
            gi_wp2_with ((try refine ⟨hdd _, ?_⟩); gi_at_call 134; refine hcall.mono ?_; clear hcall; rintro e wz (⟨rfl, E4, hJ4, hK4⟩ | ⟨rfl, hx⟩))
            · rw [show wrap64 ((i : Int) + 1) = ((i + 1 : Nat) : Int) by unfold lim at hlim; rw [wrap64]; omega]
              exact ihr (i + 1) (pre ++ sa) sb E4 wz _ _ _ _ _ _ _ _ _ (by omega) hsb (by rw [hks, List.append_assoc]) (by rw [List.length_append, ← Nat.add_assoc]; exact hJ4) ((hK3.trans K7).trans hK4)
            · go_ret
              exact .inr ⟨rfl, hx⟩
        · go_ret
          exact .inr ⟨rfl, hx2⟩
      | _ => rw [hk] at hsub; simp at hsub
    | _ => simp [flatN] at hsub

set_option maxHeartbeats 1000000 in
theorem it_pats : IterOk Tryz.prog 133 (flatD 7 6) := by
  intro cs ds hds n l b c T0 J Jx E W hb ho hR hf hI hY h0
  obtain ⟨m, hm⟩ := flatD_some hds
  have hlen : cs.length = 7 := by
    cases m with
    | zero => simp [flatN] at hm
    | succ m =>
      rw [flatN] at hm
      obtain ⟨h1, -⟩ := og_some hm
      simpa using h1
  have hlc := (RLs_iff.1 hR).1
  obtain ⟨l', rfl⟩ : ∃ l' : List Value, c = l'.toArray := ⟨c.toList, by simp⟩
  simp only at hR hlc
  match l', hlc.symm.trans hlen with
  | [v0, v1, v2, v3, v4, v5, v6], _ =>
  have cc : ∀ (j : Nat) (u : Value), [v0, v1, v2, v3, v4, v5, v6][j]? = some u → W.cell? ⟨b, j, none⟩ = some u := fun j u hj => by rw [cell_hc]; simp only [hc, hb]; simpa using hj
  have c0 := cc 0 v0 rfl
  have c1 := cc 1 v1 rfl
  have c2 := cc 2 v2 rfl
  have c3 := cc 3 v3 rfl
  have c4 := cc 4 v4 rfl
  have c5 := cc 5 v5 rfl
  have c6 := cc 6 v6 rfl
  have hgo : CallsIn Fence.wide (n - 1) Tryz.prog 134 _ W _ := callsIn_wide.2 (callsIn_wide.1 (go_pats l W.heap.size ds J Jx n hf hI hY m (.agg cs) ds hm 0 E W (.agg #[v0, v1, v2, v3, v4, v5, v6]) h0 (by simp only [RV]; exact ⟨_, rfl, hR⟩) (fun j x h => by rw [Nat.zero_add]; exact h) (Nat.le_refl _)))
  have h120 : Fence.wide.fn 134 := trivial
  have hdd : ∀ k : Nat, (Fence.wide.depth.isSome = true → 1 ≤ k) := fun k h => by cases h
  refine callsIn_of_wp Tryz.func133 rfl trivial ?_
  simp only [Tryz.ntmps133, List.size_toArray, List.length_cons, List.length_nil, Nat.reduceAdd, Nat.reduceSub, Array.replicate_succ, Array.replicate_zero, List.push_toArray, List.append_toArray, List.nil_append, List.cons_append]
  gi_wp2_with ((try refine ⟨hdd _, ?_⟩); gi_at_call 134; refine hgo.mono ?_; clear hgo; rintro e w2 (⟨rfl, E4, hJ4, -⟩ | ⟨rfl, hx⟩))
  · go_end0
    exact ⟨⟨_, rfl⟩, .inl ⟨E4, by simpa using hJ4⟩⟩
  · go_end0
    exact ⟨⟨_, rfl⟩, .inr hx⟩

/-! ### copies -/
noncomputable def cl_77 : ClP where
  i0 := 0
  i1 := 1
  i2 := 2
  i3 := 3
  r0 := (opR (Tryz.f77.body.getD .skip) [false] 0)
  r1 := (opR (Tryz.f77.body.getD .skip) [true, false, false] 0)
  r2 := (opR (Tryz.f77.body.getD .skip) [true, false, false] 1)
  r3 := (opR (Tryz.f77.body.getD .skip) [true, false, true, false, false] 0)
  r4 := (opR (Tryz.f77.body.getD .skip) [true, true, false] 0)
  r5 := (opR (Tryz.f77.body.getD .skip) [true, true, false] 1)
  r6 := (opR (Tryz.f77.body.getD .skip) [true, true, false] 2)
  r7 := (opR (Tryz.f77.body.getD .skip) [true, true, false] 3)
  ts := 25
  ty := ytOf (Tryz.f77.body.getD .skip) [true, false, false] 1
theorem clone_77 : CloneOk Tryz.prog 77 3 := clone_ok (q := cl_77) (by kernel_rfl) Tryz.func77 (by kernel_rfl) (by kernel_rfl) (by kernel_rfl)

/-! ### copies -/
noncomputable def cl_78 : ClP where
  i0 := 0
  i1 := 1
  i2 := 2
  i3 := 3
  r0 := (opR (Tryz.f78.body.getD .skip) [false] 0)
  r1 := (opR (Tryz.f78.body.getD .skip) [true, false, false] 0)
  r2 := (opR (Tryz.f78.body.getD .skip) [true, false, false] 1)
  r3 := (opR (Tryz.f78.body.getD .skip) [true, false, true, false, false] 0)
  r4 := (opR (Tryz.f78.body.getD .skip) [true, true, false] 0)
  r5 := (opR (Tryz.f78.body.getD .skip) [true, true, false] 1)
  r6 := (opR (Tryz.f78.body.getD .skip) [true, true, false] 2)
  r7 := (opR (Tryz.f78.body.getD .skip) [true, true, false] 3)
  ts := 29
  ty := ytOf (Tryz.f78.body.getD .skip) [true, false, false] 1
theorem clone_78 : CloneOk Tryz.prog 78 20 := clone_ok (q := cl_78) (by kernel_rfl) Tryz.func78 (by kernel_rfl) (by kernel_rfl) (by kernel_rfl)

/-! ### copies -/
noncomputable def cl_112 : ClP where
  i0 := 0
  i1 := 1
  i2 := 2
  i3 := 3
  r0 := (opR (Tryz.f112.body.getD .skip) [false] 0)
  r1 := (opR (Tryz.f112.body.getD .skip) [true, false, false] 0)
  r2 := (opR (Tryz.f112.body.getD .skip) [true, false, false] 1)
  r3 := (opR (Tryz.f112.body.getD .skip) [true, false, true, false, false] 0)
  r4 := (opR (Tryz.f112.body.getD .skip) [true, true, false] 0)
  r5 := (opR (Tryz.f112.body.getD .skip) [true, true, false] 1)
  r6 := (opR (Tryz.f112.body.getD .skip) [true, true, false] 2)
  r7 := (opR (Tryz.f112.body.getD .skip) [true, true, false] 3)
  ts := 48
  ty := ytOf (Tryz.f112.body.getD .skip) [true, false, false] 1
theorem clone_112 : CloneOk Tryz.prog 112 4 := clone_ok (q := cl_112) (by kernel_rfl) Tryz.func112 (by kernel_rfl) (by kernel_rfl) (by kernel_rfl)

end Go.Su

/-
  A map's keys, collected and sorted: the program's code and the library's sort keep their word.
-/
namespace Go.Su
open Go.Proofs Go.RowKit Go.Shelf
set_option linter.unusedSimpArgs false
set_option linter.unusedVariables false

def sortRen : Ren where
  f x := match x with
    | 190 => 38
    | 125 => 65
    | 258 => 64
    | 128 => 103
    | 129 => 104
    | 302 => 94
    | 303 => 95
    | 304 => 96
    | 305 => 97
    | 306 => 98
    | 307 => 99
    | 308 => 100
    | 309 => 101
    | 310 => 102
    | 333 => 119
    | 329 => 120
    | 330 => 121
    | 334 => 122
    | 335 => 123
    | 336 => 124
    | 344 => 131
    | n => n
  t x := match x with
    | 31 => 34
    | 9 => 9
    | 3 => 3
    | 46 => 74
    | 0 => 0
    | 51 => 127
    | 53 => 129
    | 4 => 4
    | 183 => 119
    | 182 => 118
    | 131 => 124
    | 5 => 5
    | 218 => 139
    | 222 => 143
    | 228 => 151
    | 229 => 152
    | n => n
  g x := x

theorem sortLays : Lays.n190 Tryz.prog sortRen where
  mixed := by kernel_rfl
  f125 := Tryz.func65.trans (by kernel_rfl)
  f128 := Tryz.func103.trans (by kernel_rfl)
  f129 := Tryz.func104.trans (by kernel_rfl)
  f190 := Tryz.func38.trans (by kernel_rfl)
  f258 := Tryz.func64.trans (by kernel_rfl)
  f302 := Tryz.func94.trans (by kernel_rfl)
  f303 := Tryz.func95.trans (by kernel_rfl)
  f304 := Tryz.func96.trans (by kernel_rfl)
  f305 := Tryz.func97.trans (by kernel_rfl)
  f306 := Tryz.func98.trans (by kernel_rfl)
  f307 := Tryz.func99.trans (by kernel_rfl)
  f308 := Tryz.func100.trans (by kernel_rfl)
  f309 := Tryz.func101.trans (by kernel_rfl)
  f310 := Tryz.func102.trans (by kernel_rfl)
  f329 := Tryz.func120.trans (by kernel_rfl)
  f330 := Tryz.func121.trans (by kernel_rfl)
  f333 := Tryz.func119.trans (by kernel_rfl)
  f334 := Tryz.func122.trans (by kernel_rfl)
  f335 := Tryz.func123.trans (by kernel_rfl)
  f336 := Tryz.func124.trans (by kernel_rfl)
  f344 := Tryz.func131.trans (by kernel_rfl)
  t0 := Tryz.underlying0
  a0 := Tryz.isAgg0
  z0 := Tryz.sizeOf0
  v0 := Tryz.zeroValue0
  t3 := Tryz.underlying3
  a3 := Tryz.isAgg3
  z3 := Tryz.sizeOf3
  v3 := Tryz.zeroValue3
  t4 := Tryz.underlying4
  a4 := Tryz.isAgg4
  z4 := Tryz.sizeOf4
  v4 := Tryz.zeroValue4
  t5 := Tryz.underlying5
  a5 := Tryz.isAgg5
  z5 := Tryz.sizeOf5
  v5 := Tryz.zeroValue5
  t9 := Tryz.underlying9
  a9 := Tryz.isAgg9
  z9 := Tryz.sizeOf9
  v9 := Tryz.zeroValue9
  t31 := Tryz.underlying34
  a31 := Tryz.isAgg34
  z31 := Tryz.sizeOf34
  v31 := Tryz.zeroValue34
  t46 := Tryz.underlying74
  a46 := Tryz.isAgg74
  z46 := Tryz.sizeOf74
  v46 := Tryz.zeroValue74
  t51 := Tryz.underlying127
  a51 := Tryz.isAgg127
  z51 := Tryz.sizeOf127
  v51 := Tryz.zeroValue127
  t53 := Tryz.underlying129
  a53 := Tryz.isAgg129
  z53 := Tryz.sizeOf129
  v53 := Tryz.zeroValue129
  t131 := Tryz.underlying124
  a131 := Tryz.isAgg124
  z131 := Tryz.sizeOf124
  v131 := Tryz.zeroValue124
  t182 := Tryz.underlying118
  a182 := Tryz.isAgg118
  z182 := Tryz.sizeOf118
  v182 := Tryz.zeroValue118
  t183 := Tryz.underlying119
  a183 := Tryz.isAgg119
  z183 := Tryz.sizeOf119
  v183 := Tryz.zeroValue119
  t218 := Tryz.underlying139
  a218 := Tryz.isAgg139
  z218 := Tryz.sizeOf139
  v218 := Tryz.zeroValue139
  t222 := Tryz.underlying143
  a222 := Tryz.isAgg143
  z222 := Tryz.sizeOf143
  v222 := Tryz.zeroValue143
  t228 := Tryz.underlying151
  a228 := Tryz.isAgg151
  z228 := Tryz.sizeOf151
  v228 := Tryz.zeroValue151
  t229 := Tryz.underlying152
  a229 := Tryz.isAgg152
  z229 := Tryz.sizeOf152
  v229 := Tryz.zeroValue152

theorem len8_0 : Lib.len8 0 = 0 := by kernel_rfl

theorem len64_0 (w : World) : Calls Tryz.prog 104 #[.int .u64 0] w fun e w' => e = .returned (.int .i64 0) ∧ w' = w := by
  go_enter Tryz.func104, Tryz.ntmps104
  go_wp2
  go_ret
  exact ⟨congrArg Ending.returned (show Value.int .i64 (wrap64 (wrap64 (Lib.len8 0))) = .int .i64 0 by rw [len8_0]; simp [wrap64]), rfl⟩

theorem len_0 (w : World) : Calls Tryz.prog 65 #[.int .u64 0] w fun e w' => e = .returned (.int .i64 0) ∧ w' = w := by
  go_enter Tryz.func65, Tryz.ntmps65
  go_wp2_with (go_at_call 104; refine (len64_0 _).mono ?_; rintro e w1 ⟨rfl, rfl⟩)
  go_ret
  exact ⟨rfl, rfl⟩

theorem ins_0 (p : Option Addr) (cap : Nat) (w : World) : Calls Tryz.prog 94 #[.slice p 0 cap, .int .i64 0, .int .i64 0] w fun e w' => e = .returned (.tuple #[]) ∧ w' = w := by
  go_enter Tryz.func94, Tryz.ntmps94
  go_wp2
  refine wp_loop (fun a' w' => a' = _ ∧ w' = _) (fun _ _ => 0) ⟨rfl, rfl⟩ ?_
  rintro _ _ ⟨rfl, rfl⟩
  go_wp2
  go_returns
  exact ⟨rfl, rfl⟩

theorem pdq_0 (p : Option Addr) (cap : Nat) (w : World) : Calls Tryz.prog 64 #[.slice p 0 cap, .int .i64 0, .int .i64 0, .int .i64 0] w fun e w' => e = .returned (.tuple #[]) ∧ w' = w := by
  go_enter Tryz.func64, Tryz.ntmps64
  go_wp2
  refine wp_loop (fun a' w' => a' = _ ∧ w' = _) (fun _ _ => 0) ⟨rfl, rfl⟩ ?_
  rintro _ _ ⟨rfl, rfl⟩
  go_wp2_with (go_at_call 94; refine (ins_0 _ _ _).mono ?_; rintro e w1 ⟨rfl, rfl⟩)
  go_returns
  exact ⟨rfl, rfl⟩

theorem sort_0 (p : Option Addr) (cap : Nat) (w : World) : Calls Tryz.prog 38 #[.slice p 0 cap] w fun e w' => e = .returned (.tuple #[]) ∧ w' = w := by
  go_enter Tryz.func38, Tryz.ntmps38
  go_wp2_with (first | (go_at_call 65; refine (len_0 _).mono ?_; rintro e w1 ⟨rfl, rfl⟩) | (go_at_call 64; refine (pdq_0 _ _ _).mono ?_; rintro e w1 ⟨rfl, rfl⟩))
  go_returns
  exact ⟨rfl, rfl⟩

theorem kp_ok_term_Free : KP.Ok Tryz.prog kp_term_Free where
  nodup := by decide
  hm := by kernel_rfl
  hs := by kernel_rfl
  info := ⟨Tryz.t9, .string ⟨#[]⟩, by kernel_rfl, by kernel_rfl, by kernel_rfl, by kernel_rfl, by kernel_rfl⟩
  go := by kernel_rfl
  sort blk off cap ss w h1 h2 h3 := Any.slices_Sort_string sortLays blk off cap ss w h1 h2 h3
  sort0 p cap w := sort_0 p cap w

theorem cut_ok_term_Free : CutOk Tryz.prog kc_term_Free cut_term_Free :=
  ⟨kp_term_Free.code cut_term_Free.post, by kernel_rfl, fun _ => by kernel_rfl, fun R H K => keys_ok kp_ok_term_Free R H K⟩

end Go.Su

/-
  The settings are right.
-/
namespace Go.Su
open Go.Proofs

theorem names_ok : Tryz.prog.funcs.toList.all (fun fn => fn.name != "runtime.NumGoroutine") = true := by kernel_rfl

theorem lookup_mem {β : Type} {l : List (FuncId × β)} {f : FuncId} {g : β} (h : l.lookup f = some g) : (f, g) ∈ l := by
  induction l with
  | nil => cases h
  | cons x l ih =>
    obtain ⟨a, b⟩ := x
    simp only [List.lookup_cons] at h
    by_cases e : f == a
    · rw [e] at h; simp only [Option.some.injEq] at h; rw [h]; rw [eq_of_beq e]; exact List.mem_cons_self ..
    · simp only [e] at h; exact List.mem_cons_of_mem _ (ih h)

theorem cfg_ok : CfgOk cfg where
  mixed := by kernel_rfl
  go f fn h := by
    have h1 : fn ∈ Tryz.prog.funcs.toList := by
      have : Tryz.prog.funcs[f]? = some fn := h
      rw [← Array.getElem?_toList] at this
      exact List.mem_of_getElem? this
    have := List.all_eq_true.1 names_ok fn h1
    simpa using this
  prim f g h fn c hf hb := by
    have h1 : (f, g) ∈ primL := lookup_mem h
    simp only [primL, List.mem_cons, List.not_mem_nil, or_false, Prod.mk.injEq] at h1
    obtain ⟨rfl, rfl⟩ := h1
    · have e1 : Tryz.prog.funcs[(17 : Nat)]? = some fn := hf
      rw [Tryz.func17] at e1
      simp only [Option.some.injEq] at e1
      subst e1
      have e2 : Tryz.f17.body = some kc_term_Free := by kernel_rfl
      rw [e2] at hb
      simp only [Option.some.injEq] at hb
      subst hb
      exact cut_ok_term_Free
  clone f h := by
    have h0 : clL.contains f = true := h
    have h1 : f ∈ clL := by simpa using h0
    simp only [clL, List.mem_cons, List.not_mem_nil, or_false] at h1
    rcases h1 with rfl | rfl | rfl
    · exact ⟨by kernel_rfl, clone_77⟩
    · exact ⟨by kernel_rfl, clone_78⟩
    · exact ⟨by kernel_rfl, clone_112⟩
  mki f g h := by
    have h1 : (f, g) ∈ mkL := lookup_mem h
    simp only [mkL, List.mem_cons, List.not_mem_nil, or_false, Prod.mk.injEq] at h1
    rcases h1 with ⟨rfl, rfl⟩
    · exact ⟨by kernel_rfl, mk_pats⟩
  iter g it h := by
    have h1 : itF g = some it := h
    unfold itF at h1
    split at h1
    · rename_i e
      subst e
      cases h1
      exact ⟨by kernel_rfl, it_pats⟩
    · cases h1
end Go.Su
