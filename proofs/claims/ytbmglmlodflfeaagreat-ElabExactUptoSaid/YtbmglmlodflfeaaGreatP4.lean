/-
  Parts of the proof, merged: SuM3, SuM4, SuM5, SuRd2, SuFix, SuKeys, SuClone, SuMp, SuM6, SuM7, SuM8, SuM9, SuM10, SuM11, SuM12, SuX1, SuX2, SuX3, SuE1, SuE2, SuC1, SuT1, SuT2, SuC2, SuE3, SuE4, SuE5, SuE6, SuE7, SuE8, SuT3, SuT4, SuJ1, SuJ2, SuWk, Cfg, It, J0, G1, G2, G3, G4, G5, G6.
-/
import Derived.ChangeShapes
import Derived.KernelRfl
import Derived.Lib.SliceRun
import Derived.LoopNIn
import Derived.Maps.RangeRun
import Derived.OwnWalkIn
import Derived.RangeFuncBound
import Derived.RangeFuncKeeps
import Derived.RangeFuncLeaves
import Derived.Shelf.Abstract
import Derived.Sort.KeysCollected
import Derived.Sort.OwnSorted
import Derived.TacticsInMore
import Derived.Test.YtbmglmlodflfeaaGreatProg
import Derived.Test.YtbmglmlodflfeaaGreatRows
import Derived.WalkKit
import Derived.Test.YtbmglmlodflfeaaGreatP3
set_option linter.unusedVariables false
set_option linter.unusedSimpArgs false
/-
 TERMS and EXPRESSIONS: what is said of them.
-/
open Array renaming replicate_succ → z7q, replicate_zero → z8q
open Bool renaming and_eq_true → z2q
open List renaming getElem?_eq_getElem → z0q, getD_eq_getElem?_getD → z1q, mem_cons_of_mem → z3q, mem_cons_self → z4q, all_eq_true → z5q, length_cons → z6q, append_toArray → z9q, length_nil → z10q, map_cons → z11q, size_toArray → z12q, push_toArray → z13q, cons_append → z14q, drop_eq_getElem_cons → z15q, nil_append → z16q, getElem_mem → z17q, length_append → z18q, sum_cons → z19q, mem_cons → z20q, count_eq_zero_of_not_mem → z21q, mem_of_getElem? → z22q, not_mem_nil → z23q, attach_map_val → z24q, setIfInBounds_toArray → z25q, mem_of_find?_eq_some → z26q, getElem?_set_self → z28q, mem_append → z30q, nodup_iff_count → z31q, count_pos_iff → z32q, set_cons_zero → z33q, set_cons_succ → z34q, append_assoc → z35q, mem_flatMap → z36q, drop_length → z37q, mem_map → z38q, all_map → z39q
open Nat renaming le_refl → z27q
open Option renaming bind_eq_some_iff → z29q, getD_some → z40q, map_some → z41q
namespace Go.Su
structure D5.fit (p : D5) : Prop where
 size : p.size ≤ lim
 txt : p.txt
theorem D5.WT {p : D5} (h : p.fit) : p.thin = true := D5.DW h.size
def D5.bare : D5 → D5
 | .mk k _ _ nm n s ks => .mk k 0 0 nm n s (ks.map D5.bare)
@[simp] theorem D5.B0r (p : D5) : p.bare.kind = p.kind := by cases p; rw [D5.bare]; rfl
@[simp] theorem D5.B3O (p : D5) : p.bare.lo = 0 := by cases p; rw [D5.bare]; rfl
@[simp] theorem D5.B3N (p : D5) : p.bare.hi = 0 := by cases p; rw [D5.bare]; rfl
@[simp] theorem D5.B0s (p : D5) : p.bare.name = p.name := by cases p; rw [D5.bare]; rfl
@[simp] theorem D5.B4Z (p : D5) : p.bare.n = p.n := by cases p; rw [D5.bare]; rfl
@[simp] theorem D5.B40 (p : D5) : p.bare.s = p.s := by cases p; rw [D5.bare]; rfl
@[simp] theorem D5.B0q (p : D5) : p.bare.kids = p.kids.map D5.bare := by cases p; rw [D5.bare]; rfl
def Ex.bare : Ex → Ex
 | .mk k _ _ nm ar n s op a b ps ks => .mk k 0 0 nm ar n s op a b (ps.map D5.bare) (ks.map Ex.bare)
@[simp] theorem Ex.B0r (p : Ex) : p.bare.kind = p.kind := by cases p; rw [Ex.bare]; rfl
@[simp] theorem Ex.B3O (p : Ex) : p.bare.lo = 0 := by cases p; rw [Ex.bare]; rfl
@[simp] theorem Ex.B3N (p : Ex) : p.bare.hi = 0 := by cases p; rw [Ex.bare]; rfl
@[simp] theorem Ex.B0s (p : Ex) : p.bare.name = p.name := by cases p; rw [Ex.bare]; rfl
@[simp] theorem Ex.B7q (p : Ex) : p.bare.arg = p.arg := by cases p; rw [Ex.bare]; rfl
@[simp] theorem Ex.B4Z (p : Ex) : p.bare.n = p.n := by cases p; rw [Ex.bare]; rfl
@[simp] theorem Ex.B40 (p : Ex) : p.bare.s = p.s := by cases p; rw [Ex.bare]; rfl
@[simp] theorem Ex.B8l (p : Ex) : p.bare.op = p.op := by cases p; rw [Ex.bare]; rfl
@[simp] theorem Ex.B8u (p : Ex) : p.bare.a = p.a := by cases p; rw [Ex.bare]; rfl
@[simp] theorem Ex.B8v (p : Ex) : p.bare.b = p.b := by cases p; rw [Ex.bare]; rfl
@[simp] theorem Ex.B7i (p : Ex) : p.bare.F6 = p.F6.map D5.bare := by cases p; rw [Ex.bare]; rfl
@[simp] theorem Ex.B0q (p : Ex) : p.bare.kids = p.kids.map Ex.bare := by cases p; rw [Ex.bare]; rfl
structure Ex.A1G (t : Ex) : Prop where
 name : t.name.size ≤ 4294967000
 arg : t.arg.size ≤ 4294967000
 s : t.s.size ≤ 4294967000
 a : t.a.thin = true
 b : t.b.thin = true
 avc : t.a.BP ≤ lim
 bvc : t.b.BP ≤ lim
 F6 : t.F6.length < lim
 pat : ∀ p ∈ t.F6, p.fit
 kids : t.kids.length < lim
inductive Ex.fit : Ex → Prop where
 | mk (t : Ex) : t.A1G → (∀ k ∈ t.kids, k.fit) → t.fit
theorem Ex.fit.one {t : Ex} (h : t.fit) : t.A1G := by cases h; assumption
theorem Ex.fit.kid {t k : Ex} (h : t.fit) (hk : k ∈ t.kids) : k.fit := by cases h with | mk _ _ g => exact g k hk
theorem D5.OY (p : D5) : p.size ≤ p.J4 := by
 induction p using D5.ind with
 | h p ih =>
   rw [D5.size_eq, D5.U9];have key : ∀ ks : List D5, (∀ k ∈ ks, k.size ≤ k.J4) → (ks.map D5.size).sum ≤ (ks.map D5.J4).sum := by
    intro ks
    induction ks with
    | nil => simp
    | cons k ks ihk =>
      intro h;simp only [z11q, z19q];have := h k (z4q ..);have := ihk fun k' Cx => h k' (z3q _ Cx)
      omega
   have := key p.kids ih;omega
theorem D5.B3d {p : D5} : ∀ q ∈ p.subs, q.J4 ≤ p.J4 := by
 induction p using D5.ind with
 | h p ih =>
   intro q hq;rw [D5.Mm] at hq;rcases z20q.1 hq with rfl | hq
   ·exact z27q _
   ·obtain ⟨k, hk, hq⟩ := z36q.1 hq
    have := ih k hk q hq;have := D5.O5 hk;omega
theorem D5.WS {p : D5} (h : p.J4 ≤ 4294967000) : p.fit := by
 refine ⟨by have := p.OY; unfold lim; omega, fun q hq => ?_⟩
 have := D5.B3d q hq;exact ⟨by have := q.yD; omega, by have := q.A6P; omega⟩
theorem B4P {l : List Nat} (h : ∀ a ∈ l, 0 < a) : l.length ≤ l.sum := by
 induction l with
 | nil => simp
 | cons a l ih =>
   have := h a (z4q ..);have := ih fun b hb => h b (z3q _ hb)
   simp only [z6q, z19q];omega
theorem B4c {α : Type} {l : List α} {f : α → Nat} (h : ∀ a, 0 < f a) : l.length ≤ (l.map f).sum := by
 have := B4P (l := l.map f) (by intro a ha; obtain ⟨x, _, rfl⟩ := z38q.1 ha; exact h x)
 simpa using this
theorem B4d {α : Type} {l : List α} {f : α → Nat} {a : α} (h : a ∈ l) : f a ≤ (l.map f).sum := Ap (List.mem_map_of_mem (f := f) h)
theorem Ex.WS {t : Ex} : t.J4 ≤ 4294967000 → t.fit := by
 induction t using Ex.ind with
 | h t ih =>
   intro h;refine .mk t ⟨by have := t.yD; omega, by have := t.B2P; omega, by have := t.A6P; omega, Ty.DW (by have := t.B1h; unfold lim; omega), Ty.DW (by have := t.B1i; unfold lim; omega), by have := t.B1h; have := t.a.jo; unfold lim; omega, by have := t.B1i; have := t.b.jo; unfold lim; omega, ?_, fun p hp => ?_, ?_⟩ fun k hk => ih k hk (by have := Ex.O5 hk; omega)
   ·have := t.A42; have := B4c (l := t.F6) D5.EK; unfold lim; omega
   ·have := t.A42; have := B4d (f := D5.J4) hp; exact D5.WS (by omega)
   ·have := t.dW; unfold lim; omega
def Ty.none (t : Ty) : Bool := decide (t.kind = 0) && decide (t.n = 0) && decide (t.kids.length = 0)
theorem Ty.A6T {t : Ty} : t.none = true ↔ t = .mk 0 0 [] := by
 unfold Ty.none;rw [Ty.Cu];simp [and_assoc]
def mU (h : Bool) (s : ByteArray) : Bool := if h = true then JE s else decide (s = K6)
end Go.Su

/-
 TERMS, as the reference has them.
-/
namespace Go.Su
noncomputable def Tm.zH (a b : Tm) : Bool :=
 decide (a.kind = b.kind) && (decide (a.lo = b.lo) && decide (a.hi = b.hi)) && decide (a.name = b.name) && decide (a.arg = b.arg) && decide (a.n = b.n) && decide (a.s = b.s) && decide (a.op = b.op) && decide (a.label = b.label) && decide (a.neg = b.neg) &&
  decide (a.args = b.args) && decide (a.a = b.a) && decide (a.b = b.b) && decide (a.vars = b.vars) && decide (a.F6 = b.F6)
theorem Tm.B0X {a b : Tm} : a.zH b = true ∧ a.kids = b.kids ↔ a = b := by
 simp only [Tm.zH, z2q, decide_eq_true_eq, Tm.Cu]
 grind
end Go.Su

/-
 TYPES put for variables, types that agree, and the CHECKER of terms: what is said of them, without any program.
-/
namespace Go.Su
def look (l : List (Int × Ty)) (n : Int) : Option Ty := (l.find? fun e => decide (e.1 = n)).map (·.2)
def Ty.put (l : List (Int × Ty)) : Ty → Ty
 | .mk k n ks => if k = 6 then (look l n).getD (.mk k n ks) else .mk k n (ks.map (Ty.put l))
theorem Ty.put_eq (l : List (Int × Ty)) (t : Ty) : t.put l = if t.kind = 6 then (look l t.n).getD t else .mk t.kind t.n (t.kids.map (Ty.put l)) := by
 cases t;rw [Ty.put];rfl
def MB (l : List (Int × Ty)) : Bool := l.all fun e => decide (0 ≤ e.1) && decide (e.1 ≤ 1048576) && e.2.right
def F7 : Ty := .mk 0 0 []
def Nk (e : Int × Ty) : DV := .agg [.int .i64 e.1, .int .i64 e.2.kind, .int .i64 e.2.n, .list 3 (e.2.kids.map Ty.enc)]
def Aw (l : List (Int × Ty)) : DV := .list 4 (l.map Nk)
theorem B2M {l : List (Int × Ty)} {n : Int} {t : Ty} (h : look l n = some t) : (n, t) ∈ l := by
 unfold look at h;cases hf : l.find? fun e => decide (e.1 = n) with
 | none => rw [hf] at h; cases h
 | some e =>
   rw [hf] at h;simp only [z41q, Option.some.injEq] at h;have h1 := List.find?_some hf;simp only [decide_eq_true_eq] at h1;have h2 := z26q hf;rw [← h, ← h1];exact h2
theorem Ty.X6 {t : Ty} : t.right = true ↔ arity t.kind = t.kids.length ∧ 0 ≤ t.n ∧ t.n ≤ 1048576 ∧ (t.kind = 6 ∨ t.n = 0) ∧ ∀ k ∈ t.kids, k.right = true := by
 rw [Ty.right_eq];simp only [z2q, Bool.or_eq_true, decide_eq_true_eq, z5q, and_assoc]
theorem Ty.A69 {k n : Int} {ks : List Ty} : (Ty.mk k n ks).right = true ↔ arity k = ks.length ∧ 0 ≤ n ∧ n ≤ 1048576 ∧ (k = 6 ∨ n = 0) ∧ ∀ t ∈ ks, t.right = true :=
 Ty.X6 (t := .mk k n ks)
theorem Ty.Q0 {t k : Ty} (h : t.right = true) (hk : k ∈ t.kids) : k.right = true := (Ty.X6.1 h).2.2.2.2 k hk
theorem mZ {l : List (Int × Ty)} : MB l = true ↔ ∀ e ∈ l, 0 ≤ e.1 ∧ e.1 ≤ 1048576 ∧ e.2.right = true := by
 unfold MB;simp [and_assoc]
theorem Ty.B1t {l : List (Int × Ty)} (hl : ∀ e ∈ l, e.2.right = true) (t : Ty) : t.right = true → (t.put l).right = true := by
 induction t using Ty.ind with
 | h t ih =>
   intro h;rw [Ty.put_eq]
   split
   ·cases hk : look l t.n with
    | none => exact h
    | some u => exact hl _ (B2M hk)
   ·rw [Ty.A69]
    rw [Ty.X6] at h;obtain ⟨h1, h2, h3, h4, h5⟩ := h;refine ⟨by simpa using h1, h2, h3, h4, fun k hk => ?_⟩
    obtain ⟨k', Cx, rfl⟩ := z38q.1 hk;exact ih k' Cx (h5 k' Cx)
theorem Ty.B4y (t : Ty) : t.put [] = t := by
 induction t using Ty.ind with
 | h t ih =>
   rw [Ty.put_eq]
   split
   ·rfl
   ·rw [Ty.Cu]
    refine ⟨rfl, rfl, ?_⟩;simp only [Ty.CS]
    conv => rhs; rw [← List.map_id t.kids]
    exact List.map_congr_left fun k hk => ih k hk
def Ty.agrees (a b : Ty) : Bool :=
 if a.kind = 5 then b.without 6 else if b.kind = 5 then a.without 6 else
  decide (a.kind = b.kind) && decide (a.n = b.n) && ((a.kids.attach.zip b.kids).map fun p => Ty.agrees p.1.1 p.2).all id
termination_by SizeOf.sizeOf a
decreasing_by exact Ty.CK p.1.2
theorem Ty.A4C (a b : Ty) : a.agrees b = if a.kind = 5 then b.without 6 else if b.kind = 5 then a.without 6 else decide (a.kind = b.kind) && decide (a.n = b.n) && (a.kids.zip b.kids).all fun p => p.1.agrees p.2 := by
 rw [Ty.agrees]
 congr 3
 have e : a.kids.attach.zip b.kids = (a.kids.attach.zip b.kids) := rfl;have key : ∀ (l : List { x // x ∈ a.kids }) (m : List Ty), ((l.zip m).map fun p => Ty.agrees p.1.1 p.2).all id = ((l.map (·.1)).zip m).all fun p => p.1.agrees p.2 := by
  intro l
  induction l with
  | nil => intro m; simp
  | cons x l ih => intro m; cases m <;> simp_all
 rw [key];simp
def Mj (k : Int) : Int := if k = 3 then 1 else if k = 4 then 2 else if k = 5 then 3 else if k = 6 then 4 else if k = 8 then 8 else 0
def KQ : List (Ty → Option (List (ByteArray × Ty))) → List Ty → Option (List (ByteArray × Ty))
 | [], _ => some []
 | _ :: _, [] => none
 | f :: fs, t :: ts => (f t).bind fun a => (KQ fs ts).bind fun b => some (a ++ b)
def aI (p : D5) (fs : List (Ty → Option (List (ByteArray × Ty)))) (t : Ty) : Option (List (ByteArray × Ty)) :=
 if p.kind = 1 then some []
 else if p.kind = 2 then some [(p.name, t)]
 else if p.kind = 7 then if t.kind = 7 then KQ fs t.kids else none
 else if p.kind = 9 then if t.kind = 8 then KQ fs [t.kids.getD 0 F7, t] else none
 else if t.kind = Mj p.kind then some [] else none
def D5.binds (p : D5) : Ty → Option (List (ByteArray × Ty)) := aI p (p.kids.attach.map fun k => D5.binds k.1)
termination_by SizeOf.sizeOf p
decreasing_by exact D5.CK k.2
theorem D5.nR (p : D5) (t : Ty) : p.binds t = aI p (p.kids.map D5.binds) t := by
 rw [D5.binds]
 congr 1
 exact z24q (f := D5.binds) ..
structure Nm where
 name : ByteArray
 ty : Ty
 vars : List Int
def Nm.enc (x : Nm) : DV := .agg [.str x.name, .int .i64 x.ty.kind, .int .i64 x.ty.n, .list 3 (x.ty.kids.map Ty.enc), F4 x.vars]
def H8 (l : List Nm) : DV := .list 5 (l.map Nm.enc)
abbrev Res := Except Int Ty
def dU (S : List Int) (t : Ty) : Bool := t.vars.all fun v => decide (v ∈ S)
def takes (S : List Int) (l : List Int) : Bool := decide (l.Nodup) && l.all fun v => !decide (v ∈ S)
abbrev Chk := List Nm → List Int → Res
def Du (e : ByteArray × Ty) : Nm := ⟨e.1, e.2, []⟩
end Go.Su

/-
 FROM A READING TO DATA: binds, numbers, slices.
-/
namespace Go.Su
section
variable {H : Type} {enc : TypeId × Value → H} {P : Program} {w : World} {held : Bool}
end
section
variable {H : Type} {enc : TypeId × Value → H} {P : Program} {w : World} {base : Nat} {spare : Nat → Bool} {held : Bool}
end
end Go.Su

/-
 THE DATA MACHINE: the program's functions are what one step makes of them: as an equation; runs on closed data by rewriting.
-/
namespace Go.Su
noncomputable section
theorem A4g {C : X5} : MG (run C) (Bp C (run C)) := by
 constructor
 ·intro f ds d H
  obtain ⟨n, hn⟩ := zW.p f ds d H;cases n with
  | zero => simp [Kq] at hn
  | succ n => exact (yg (zU n)).p _ _ _ hn
 ·intro f rs sg q H
  obtain ⟨n, hn⟩ := zW.r f rs sg q H;cases n with
  | zero => simp [Kq] at hn
  | succ n => exact (yg (zU n)).r _ _ _ _ hn
theorem nW {α : Type} {x y : Option α} (h : ∀ a, x = some a → y = some a) (h' : ∀ a, y = some a → x = some a) : x = y := by
 cases hx : x with
 | some a => exact (h a hx).symm
 | none =>
   cases hy : y with
   | none => rfl
   | some b => have := h' b hy; rw [hx] at this; cases this
theorem A6o {C : X5} {f : FuncId} {fn : Func} {c : Code} {ds : List DV} (hp : C.jg f = none) (hf : C.P.funcs[f]? = some fn) (hb : fn.body = some c) :
 (run C).p f ds = Iy C (run C) (C.fl f) (Wp C.P fn) [] c (F5 fn (ds.map fun d => (d, .val)) []) := by
 rw [lG];have e : (Bp C (run C)).p f ds = R9 C (run C) (C.fl f) c (Wp C.P fn) (F5 fn (ds.map fun d => (d, .val)) []) := by simp only [Bp, A2Y, hp, hf, hb, K9]
 rw [← e];exact nW (fun a h => A4g.p _ _ _ h) (fun a h => A1V.p _ _ _ h)
theorem B3Y {C : X5} {f : FuncId} {fn : Func} {c : Code} {s : AB} {p : aK} {rs : List (DV × Meta)} {sg : List D7} (hs : C.sig f = some s) (hp : C.YW f = some p) (hf : C.P.funcs[f]? = some fn) (hb : fn.body = some c) :
 (run C).r f rs sg = Iy C (run C) (C.fl f) (RZ C (run C) (C.fl f) p (Ba C.P fn s) (UC (run C) (Ba C.P fn s))) [] (Bh (p.pre ++ [p.r]) .skip) (F5 fn rs sg) := by
 rw [lG];have e : (Bp C (run C)).r f rs sg = R9 C (run C) (C.fl f) (Bh (p.pre ++ [p.r]) .skip) (RZ C (run C) (C.fl f) p (Ba C.P fn s) (UC (run C) (Ba C.P fn s))) (F5 fn rs sg) := by simp only [Bp, hs, hp, hf, hb, K9]
 rw [← e];exact nW (fun a h => A4g.r _ _ _ _ h) (fun a h => A1V.r _ _ _ _ h)
def A9q {X : Type} (C : X5) (R : N7) (fl : Flags) (p : aK) (K : Out → St → Option X) (Kd : FuncId × List (DV × Meta) → Out → St → Option X) : Out → St → Option X
 | .exit _, _ => none
 | .ret, st => K .ret st
 | .normal, st => CE C R fl (p.ops ++ [p.Xl]) p.ops (FQ fl p.id st) fun st => ob (aF C p.Xl st) fun q => Iy C R fl (Kd q) [] p.post (clean fl p.post st)
def A2L {X : Type} (C : X5) (R : N7) (fl : Flags) (p : aK) (K : Out → St → Option X) (Kd : FuncId × List (DV × Meta) → Out → St → Option X) : Out → St → Option X
 | .exit _, _ => none
 | .ret, st => K .ret st
 | .normal, st => Xp C.P p.c st (fun st => Iy C R fl (A9q C R fl p K Kd) [] p.a (clean fl p.a st)) (fun st => Iy C R fl K [] p.post (clean fl p.post st))
theorem B2c {X : Type} {C : X5} {R : N7} {fl : Flags} {p : aK} {K : Out → St → Option X} {Kd : FuncId × List (DV × Meta) → Out → St → Option X} : RZ C R fl p K Kd = A2L C R fl p K Kd := by
 funext o st
 cases o with
 | normal =>
   simp only [RZ, A2L, lG]
   congr 1
   funext st
   congr 1
   funext o st
   cases o <;> simp only [A9q, lG]
 | exit i => rfl
 | ret => rfl
theorem B3Z {C : X5} {f : FuncId} {fn : Func} {c : Code} {s : AB} {rs : List (DV × Meta)} {sg : List D7} (hs : C.sig f = some s) (hf : C.P.funcs[f]? = some fn) (hb : fn.body = some c) (hp : C.YW f = none := by rfl) :
 (run C).r f rs sg = Iy C (run C) (C.fl f) (Ba C.P fn s) [] c (F5 fn rs sg) := by
 rw [lG];have e : (Bp C (run C)).r f rs sg = R9 C (run C) (C.fl f) c (Ba C.P fn s) (F5 fn rs sg) := by simp only [Bp, hs, hp, hf, hb, K9]
 rw [← e];exact nW (fun a h => A4g.r _ _ _ _ h) (fun a h => A1V.r _ _ _ _ h)
theorem B65 {α β : Type} {x y : Option α} (h : x = y) (f : α → Option β) : ob x f = ob y f := by rw [h]
theorem B68 {β : Type} {x y : Bool} (h : x = y) (f : Option β) : og x f = og y f := by rw [h]
theorem B5V {β : Type} {x y : DV} (h : x = y) (a b : Option β) : D6 x a b = D6 y a b := by rw [h]
theorem B5U {β : Type} {x y : DV} (h : x = y) (a b c : Option β) : I5 x a b c = I5 y a b c := by rw [h]
theorem B3E {β : Type} (x y : Option β) : D6 (.bool true) x y = x := rfl
theorem B3D {β : Type} (x y : Option β) : D6 (.bool false) x y = y := rfl
theorem B3C {β : Type} (x y z : Option β) : I5 (.bool true) x y z = x := rfl
theorem B3B {β : Type} (x y z : Option β) : I5 (.bool false) x y z = y := rfl
def Xv (sz kf : Nat) : List DV → Option (List DV) := FH fun d => match d with
 | .agg cs => Jn sz kf cs
 | _ => none
theorem B0Y {sz kf : Nat} {cs ds l : List DV} (h : cs.length = sz) (hk : cs.getD kf .undef = .list sz ds) (hl : ds.length ≤ lim) (hs : Xv sz kf ds = some l) : Jn sz kf cs = some (.agg cs :: l) := by
 have key : ∀ (ds l : List DV), Xv sz kf ds = some l → ∃ n, FH (Y2 sz kf n) ds = some l := by
  intro ds
  induction ds with
  | nil => intro l h; exact ⟨0, h⟩
  | cons d ds ih =>
    intro l h;simp only [Xv, FH] at h;obtain ⟨a, h1, h5⟩ := C8 h;obtain ⟨b, h2, h6⟩ := C8 h5;obtain ⟨m, hm⟩ := ih b h2;cases d with
    | agg cs =>
      simp only at h1;obtain ⟨n, hn⟩ := Zi h1;refine ⟨n + m, ?_⟩;simp only [FH, OG (Nat.le_add_right n m) hn, Uy (fun d l h => OG (Nat.le_add_left m n) h) hm, K9]
      exact h6
    | _ => simp at h1
 obtain ⟨n, hn⟩ := key ds l hs;refine n_ (n := n + 1) ?_;rw [Y2, hk];simp only [h, beq_self_eq_true, Bool.true_and, decide_eq_true hl, hn, K9, W9]
theorem A9w (sz kf : Nat) : Xv sz kf [] = some [] := rfl
theorem A1p (sz kf : Nat) (cs : List DV) (ds : List DV) : Xv sz kf (.agg cs :: ds) = ob (Jn sz kf cs) fun a => ob (Xv sz kf ds) fun b => some (a ++ b) := rfl
def flatK (sz kf : Nat) (cs : List DV) : DV → Option (List DV)
 | .list s ds => og (s == sz && decide (ds.length ≤ lim)) (ob (Xv sz kf ds) fun l => some (.agg cs :: l))
 | _ => none
theorem B2o {sz kf n : Nat} : ∀ {ds l : List DV}, FH (Y2 sz kf n) ds = some l → Xv sz kf ds = some l := by
 intro ds
 induction ds with
 | nil => intro l h; exact h
 | cons d ds ih =>
   intro l h;simp only [FH] at h;obtain ⟨a, h1, h2⟩ := C8 h;obtain ⟨b, h3, h4⟩ := C8 h2;cases d with
   | agg cs =>
     rw [A1p, n_ h1, ih h3];exact h4
   | _ => cases n <;> simp [Y2] at h1
theorem B2n (sz kf : Nat) (cs : List DV) : Jn sz kf cs = og (cs.length == sz) (flatK sz kf cs (cs.getD kf .undef)) := by
 refine nW (fun l h => ?_) fun l h => ?_
 ·obtain ⟨n, hn⟩ := Zi h
  cases n with
  | zero => simp [Y2] at hn
  | succ n =>
    rw [Y2] at hn;obtain ⟨h1, hn⟩ := F8 hn;rw [h1];cases hk : cs.getD kf .undef with
    | list s ds =>
      rw [hk] at hn;simp only at hn;obtain ⟨h2, hn⟩ := F8 hn;obtain ⟨a, h3, h4⟩ := C8 hn;simp only [flatK, h2, W9, B2o h3, K9];exact h4
    | _ => rw [hk] at hn; simp at hn
 ·obtain ⟨h1, h⟩ := F8 h
  cases hk : cs.getD kf .undef with
  | list s ds =>
    rw [hk] at h;simp only [flatK] at h;obtain ⟨h2, h⟩ := F8 h;obtain ⟨a, h3, h4⟩ := C8 h;simp only [z2q, decide_eq_true_eq, beq_iff_eq] at h2 h1;obtain ⟨rfl, h2⟩ := h2;simp only [Option.some.injEq] at h4;rw [← h4];exact B0Y h1 hk h2 h3
  | _ => rw [hk] at h; simp [flatK] at h
theorem B66 {α : Type} {x y : Option (List DV × List D7)} (h : x = y) (k : DV → List D7 → Option α) : oc x k = oc y k := by rw [h]
theorem B67 {α : Type} (v : DV) (l : List DV) (s : List D7) (k : DV → List D7 → Option α) : oc (some (v :: l, s)) k = k v s := rfl
end
end Go.Su

/-
 THE DATA MACHINE, part 36: a map's keys, collected by a loop and sorted.
-/
namespace Go.Su
open Go.Sort
section
variable {P : Program} {n : Nat} {ops : Array Oper} {Q : Exit → Act → World → Prop} {a : Act} {w w' : World} {o : Oper} {rest : List Oper} {v : Value}
end
end Go.Su

/-
 THE DATA MACHINE, part 37: the library's copy of a slice.
-/
namespace Go.Su
def B6g (c : Code) (p : List Bool) : List Oper :=
 match (sub p c []).1 with
 | .region _ ops _ => ops.toList
 | _ => []
def A84 : Nat → Code → List Code
 | n + 1, .seq a b => a :: A84 n b
 | _, _ => []
def A8G : Nat → Code → Code
 | n + 1, .seq _ b => A8G n b
 | _, c => c
section
variable {P : Program} {n : Nat} {ops : Array Oper} {Q : Exit → Act → World → Prop} {a : Act} {w : World} {rest : List Oper}
end
end Go.Su

/-
 MAPS of numbers and texts in the shared part, cells of the shared part.
-/
namespace Go.Su
def Dz (es : List (DV × DV)) (c : Int → Int) : Prop := ∀ v, (Y7 es (.int .i64 v)).getD (.int .i64 0) = .int .i64 (c v)
theorem Dz.nil : Dz [] fun _ => 0 := fun _ => rfl
theorem Dz.set {es : List (DV × DV)} {c : Int → Int} (h : Dz es c) (a n : Int) : Dz (Cm es (.int .i64 a) (.int .i64 n)) fun v => if a = v then n else c v := by
 intro v;rw [A41]
 by_cases e : a = v
 ·simp [e]
 ·simp [e, h v]
theorem A7f {sg : List D7} {i : Nat} {x : Bool × List (DV × DV)} (h : p9 sg i = some x) : i < sg.length := by
 unfold p9 at h;cases hi : sg[i]? with
 | none => rw [hi] at h; cases h
 | some o => exact (List.getElem?_eq_some_iff.1 hi).1
theorem B1x {sg : List D7} {i : Nat} (h : i < sg.length) (ks : Bool) (es : List (DV × DV)) : p9 (sg.set i (.map ks es)) i = some (ks, es) := by
 unfold p9;rw [z28q h]
theorem B23 {sg : List D7} {i : Nat} {ks : Bool} {es : List (DV × DV)} (h : p9 sg i = some (ks, es)) : sg.set i (.map ks es) = sg := by
 have hl := A7f h;unfold p9 at h;have hg : sg[i]? = some sg[i] := z0q hl;rw [hg] at h;have e : sg[i] = .map ks es := by
  cases hx : sg[i] with
  | map a b => rw [hx] at h; simp at h; rw [h.1, h.2]
  | box _ => rw [hx] at h; cases h
  | arr _ _ => rw [hx] at h; cases h
  | opn _ _ _ => rw [hx] at h; cases h
 rw [← e];exact List.set_getElem_self hl
theorem B1w {sg : List D7} {i : Nat} (h : i < sg.length) (cs : List (DV × Meta)) : M7 (sg.set i (.box cs)) i = some cs := by
 unfold M7;rw [z28q h]
@[simp] theorem B8E (a : DV) (l : List DV) : O4 0 (.I6 (a :: l)) = some a := rfl
@[simp] theorem B8F (a b : DV) (l : List DV) : O4 1 (.I6 (a :: b :: l)) = some b := rfl
@[simp] theorem B8G (a b c : DV) (l : List DV) : O4 2 (.I6 (a :: b :: c :: l)) = some c := rfl
@[simp] theorem B8H (a b c d : DV) (l : List DV) : O4 3 (.I6 (a :: b :: c :: d :: l)) = some d := rfl
theorem l6 {α : Type} {e : α → DV} {sz : Nat} {l : List α} {x : α} (h : l.length < lim) : R8 sz (.list sz (l.map e)) (.list sz [e x]) = some (.list sz ((l ++ [x]).map e)) := by
 rw [Dj (by simp; omega)]
 simp
theorem B0A {α : Type} {e : α → DV} {sz : Nat} {l m : List α} (h : l.length + m.length ≤ lim) : R8 sz (.list sz (l.map e)) (.list sz (m.map e)) = some (.list sz ((l ++ m).map e)) := by
 rw [Dj (by simpa using h)]
 simp
end Go.Su

/-
 PATTERNS and types: what is bound.
-/
namespace Go.Su
def Nl (e : ByteArray × Ty) : DV := .agg [.str e.1, .int .i64 e.2.kind, .int .i64 e.2.n, .list 3 (e.2.kids.map Ty.enc)]
def O8 (l : List (ByteArray × Ty)) : DV := .list 4 (l.map Nl)
@[simp] theorem B8q (e : ByteArray × Ty) : A7 0 (Nl e) = .str e.1 := rfl
@[simp] theorem B8r (e : ByteArray × Ty) : A7 1 (Nl e) = .int .i64 e.2.kind := rfl
@[simp] theorem B8s (e : ByteArray × Ty) : A7 2 (Nl e) = .int .i64 e.2.n := rfl
@[simp] theorem B8t (e : ByteArray × Ty) : A7 3 (Nl e) = .list 3 (e.2.kids.map Ty.enc) := rfl
@[simp] theorem Nm.Y3 (e : Nm) : A7 0 e.enc = .str e.name := rfl
@[simp] theorem Nm.Ar (e : Nm) : A7 1 e.enc = .int .i64 e.ty.kind := rfl
@[simp] theorem Nm.AV (e : Nm) : A7 2 e.enc = .int .i64 e.ty.n := rfl
@[simp] theorem Nm.Bj (e : Nm) : A7 3 e.enc = .list 3 (e.ty.kids.map Ty.enc) := rfl
@[simp] theorem Nm.Zu (e : Nm) : A7 4 e.enc = F4 e.vars := rfl
@[simp] theorem B6u (l : List Nm) : dLen (H8 l) = some (.int .i64 l.length) := by simp [H8]
@[simp] theorem B5a (l : List (Int × Ty)) : dLen (Aw l) = some (.int .i64 l.length) := by simp [Aw]
theorem A6a {ks : List D5} : (∀ k ∈ ks, ∀ t b, k.binds t = some b → b.length ≤ k.size) → ∀ ts b, KQ (ks.map D5.binds) ts = some b → b.length ≤ (ks.map D5.size).sum := by
 induction ks with
 | nil => intro _ ts b h; simp only [List.map_nil, KQ, Option.some.injEq] at h; subst h; simp
 | cons k ks ih =>
   intro hk ts b h;cases ts with
   | nil => simp [KQ] at h
   | cons t ts =>
     simp only [z11q, KQ, z29q, Option.some.injEq] at h;obtain ⟨a, h1, c, h2, rfl⟩ := h;have := hk k (z4q ..) t a h1;have := ih (fun k' Cx => hk k' (z3q _ Cx)) ts c h2
     simp only [z18q, z11q, z19q];omega
theorem D5.Sk (p : D5) : ∀ t b, p.binds t = some b → b.length ≤ p.size := by
 induction p using D5.ind with
 | h p ih =>
   intro t b h;rw [D5.nR] at h;rw [D5.size_eq];unfold aI at h
   split at h
   ·simp only [Option.some.injEq] at h; subst h; simp
   split at h
   ·simp only [Option.some.injEq] at h; subst h; simp
   split at h
   ·split at h
    ·have := A6a ih _ _ h; omega
    ·cases h
   split at h
   ·split at h
    ·have := A6a ih _ _ h; omega
    ·cases h
   split at h
   ·simp only [Option.some.injEq] at h; subst h; simp
   ·cases h
theorem A2H {ks : List D5} : (∀ k ∈ ks, ∀ t b, t.right = true → k.binds t = some b → ∀ e ∈ b, e.2.right = true) → ∀ ts b, (∀ t ∈ ts, t.right = true) → KQ (ks.map D5.binds) ts = some b → ∀ e ∈ b, e.2.right = true := by
 induction ks with
 | nil => intro _ ts b _ h; simp only [List.map_nil, KQ, Option.some.injEq] at h; subst h; simp
 | cons k ks ih =>
   intro hk ts b ht h;cases ts with
   | nil => simp [KQ] at h
   | cons t ts =>
     simp only [z11q, KQ, z29q, Option.some.injEq] at h;obtain ⟨a, h1, c, h2, rfl⟩ := h;have a1 := hk k (z4q ..) t a (ht t (z4q ..)) h1;have a2 := ih (fun k' Cx => hk k' (z3q _ Cx)) ts c (fun t' ht' => ht t' (z3q _ ht')) h2
     intro e he;rcases z30q.1 he with he | he
     ·exact a1 e he
     ·exact a2 e he
theorem pM {t : Ty} (h : t.right = true) (hk : t.kind = 8) : ∃ a, t.kids = [a] := by
 have := (Ty.X6.1 h).1;rw [hk] at this;have h1 : t.kids.length = 1 := by have : arity 8 = 1 := rfl; omega
 exact List.length_eq_one_iff.1 h1
theorem A5h {t : Ty} (h : t.right = true) (hk : t.kind = 7 ∨ t.kind = 9) : ∃ a b, t.kids = [a, b] := by
 have := (Ty.X6.1 h).1;have h1 : t.kids.length = 2 := by
  rcases hk with hk | hk <;> rw [hk] at this
  ·have : arity 7 = 2 := rfl; omega
  ·have : arity 9 = 2 := rfl; omega
 match hx : t.kids, h1 with
 | [a, b], _ => exact ⟨a, b, rfl⟩
theorem D5.jG (p : D5) : ∀ t b, t.right = true → p.binds t = some b → ∀ e ∈ b, e.2.right = true := by
 induction p using D5.ind with
 | h p ih =>
   intro t b ht h;rw [D5.nR] at h;unfold aI at h
   split at h
   ·simp only [Option.some.injEq] at h; subst h; simp
   split at h
   ·simp only [Option.some.injEq] at h; subst h; simpa using ht
   split at h
   ·split at h
    ·exact A2H ih _ _ (fun k hk => Ty.Q0 ht hk) h
    ·cases h
   split at h
   ·split at h
    ·rename_i h8
     obtain ⟨a, ha⟩ := pM ht h8;refine A2H ih _ _ ?_ h;intro k hk;rw [ha] at hk;simp at hk;rcases hk with rfl | rfl
     ·exact Ty.Q0 ht (by rw [ha]; exact z4q ..)
     ·exact ht
    ·cases h
   split at h
   ·simp only [Option.some.injEq] at h; subst h; simp
   ·cases h
theorem D5.oV {p : D5} (h : p.one = true) : p.kids.length = if p.kind = 7 ∨ p.kind = 9 then 2 else 0 := by
 unfold D5.one at h
 grind
theorem D5.A8V {p : D5} (h : p.pat = true) : p.one = true := by
 rw [D5.A3q] at h;simp only [z2q] at h;exact h.1
theorem D5.A4e {p k : D5} (h : p.pat = true) (hk : k ∈ p.kids) : k.pat = true := by
 rw [D5.A3q] at h;simp only [z2q, z5q] at h;exact h.2 k hk
theorem D5.A5b {p : D5} (h : p.right = true) : p.pat = true := by
 unfold D5.right at h;simp only [z2q] at h;exact h.1
end Go.Su

/-
 The CHECKER of terms, kind by kind.
-/
namespace Go.Su
def Nm.ok (x : Nm) : Prop := x.ty.right = true ∧ x.vars.length ≤ lim ∧ ∀ v ∈ x.vars, 0 ≤ v ∧ v ≤ 1048576
def Aa (l : List Nm) : Prop := ∀ x ∈ l, x.ok
theorem Aa.app {l m : List Nm} (h : Aa l) (h' : Aa m) : Aa (l ++ m) := fun x hx => by
 rcases z30q.1 hx with hx | hx
 ·exact h x hx
 ·exact h' x hx
theorem Aa.one {x : Nm} (h : x.ok) : Aa [x] := fun y hy => by simp at hy; subst hy; exact h
theorem Aa.B2d {b : List (ByteArray × Ty)} (h : ∀ e ∈ b, e.2.right = true) : Aa (b.map Du) := fun x hx => by
 obtain ⟨e, he, rfl⟩ := z38q.1 hx;exact ⟨h e he, by simp [Du], by simp [Du]⟩
theorem EN {k : Int} (h : 1 ≤ k ∧ k ≤ 5) : (Ty.mk k 0 []).right = true := by
 rw [Ty.A69];refine ⟨?_, by omega, by omega, .inr rfl, by simp⟩
 unfold arity;rw [if_pos (by omega)]
 rfl
end Go.Su

/-
 The CHECKER: which errors there are; how many names stand at once; scopes as maps of counters.
-/
namespace Go.Su
def B3o (e : Int) : Prop := e = 4 ∨ e = 6 ∨ e = 8
theorem TG {α X : Type} {l : List α} {P : Int → Option X} {f : α → Bool} {y n : Option X} (stop : P l.length = y)
 (step : ∀ (i : Nat) (h : i < l.length), P i = if f l[i] = true then P ((i : Int) + 1) else n) : P 0 = if l.all f = true then y else n := by
 have key : ∀ (m i : Nat), i + m = l.length → P i = if (l.drop i).all f = true then y else n := by
  intro m
  induction m with
  | zero => intro i hi; rw [List.drop_of_length_le (by omega), show i = l.length by omega, stop]; rfl
  | succ m ih =>
    intro i hi;have h : i < l.length := by omega
    have := ih (i + 1) (by omega)
    push_cast at this;rw [step i h, z15q h, List.all_cons, this]
    by_cases h3 : f l[i] = true <;> simp [h3]
 have := key l.length 0 (by omega)
 simpa using this
def AP (es : List (DV × DV)) (S : List Int) : Prop := Dz es fun v => if v ∈ S then 1 else 0
theorem AP.nil : AP [] [] := by
 have : (fun v : Int => if v ∈ ([] : List Int) then (1 : Int) else 0) = fun _ => 0 := by funext v; simp
 unfold AP; rw [this]; exact Dz.nil
theorem Dz.congr {es : List (DV × DV)} {c d : Int → Int} (h : Dz es c) (e : ∀ v, c v = d v) : Dz es d := fun v => by rw [h v, e v]
theorem TI {S l : List Int} : takes S l = true ↔ l.Nodup ∧ ∀ v ∈ l, v ∉ S := by
 unfold takes;simp
theorem A1X {S l : List Int} (h : takes S l = true) {es : List (DV × DV)} (k : Dz es fun v => (if v ∈ S then 1 else 0) + 1 * (l.count v : Int)) : AP es (l ++ S) := by
 obtain ⟨h1, h2⟩ := TI.1 h;refine k.congr fun v => ?_
 by_cases hv : v ∈ l
 ·have : l.count v = 1 := by have a := (z31q.1 h1) v; have b := z32q.2 hv; omega
  simp [hv, h2 v hv, this]
 ·have : l.count v = 0 := z21q hv
  simp [hv, this]
theorem YH {S l : List Int} (h : takes S l = true) {es : List (DV × DV)} (k : Dz es fun v => (if v ∈ l ++ S then 1 else 0) + (-1) * (l.count v : Int)) : AP es S := by
 obtain ⟨h1, h2⟩ := TI.1 h;refine k.congr fun v => ?_
 by_cases hv : v ∈ l
 ·have : l.count v = 1 := by have a := (z31q.1 h1) v; have b := z32q.2 hv; omega
  simp [hv, h2 v hv, this]
 ·have : l.count v = 0 := z21q hv
  simp [hv, this]
end Go.Su

/-
 The CHECKER: a term's type has no variables but those in scope.
-/
namespace Go.Su
inductive Ty.Occ (v : Int) : Ty → Prop where
 | here (t : Ty) : t.kind = 6 → t.n = v → Ty.Occ v t
 | kid (t k : Ty) : k ∈ t.kids → Ty.Occ v k → Ty.Occ v t
theorem Ty.B4g {v : Int} {t : Ty} : t.Occ v ↔ (t.kind = 6 ∧ t.n = v) ∨ ∃ k ∈ t.kids, k.Occ v := by
 constructor
 ·intro h
  cases h with
  | here _ a b => exact .inl ⟨a, b⟩
  | kid _ k a b => exact .inr ⟨k, a, b⟩
 ·rintro (⟨a, b⟩ | ⟨k, a, b⟩)
  ·exact .here t a b
  ·exact .kid t k a b
theorem Ty.A9Q {v : Int} (t : Ty) : ∀ l : List Int, v ∈ t.BO l ↔ v ∈ l ∨ t.Occ v := by
 induction t using Ty.ind with
 | h t ih =>
   intro l;rw [Ty.YJ, Ty.B4g];have key : ∀ (ks : List Ty), (∀ k ∈ ks, ∀ l : List Int, v ∈ k.BO l ↔ v ∈ l ∨ k.Occ v) → ∀ l : List Int, v ∈ ks.foldl (fun l k => k.BO l) l ↔ v ∈ l ∨ ∃ k ∈ ks, k.Occ v := by
    intro ks
    induction ks with
    | nil => intro _ l; simp
    | cons k ks ihk =>
      intro h l;simp only [List.foldl_cons];rw [ihk (fun k' Cx => h k' (z3q _ Cx)), h k (z4q ..)]
      simp only [z20q, exists_eq_or_imp, or_assoc]
   rw [key t.kids ih]
   by_cases h6 : t.kind = 6
   ·by_cases hn : t.n ∈ l
    ·simp only [h6, hn, not_true, and_false, if_false, true_and]
     constructor
     ·rintro (h | h)
      ·exact .inl h
      ·exact .inr (.inr h)
     ·rintro (h | h | h)
      ·exact .inl h
      ·subst h; exact .inl hn
      ·exact .inr h
    ·simp only [h6, hn, not_false_eq_true, and_self, if_true, z30q, List.mem_singleton, true_and, or_assoc]
     have : v = t.n ↔ t.n = v := eq_comm;rw [this]
   ·simp [h6]
theorem A8M {S : List Int} {t : Ty} : dU S t = true ↔ ∀ v, t.Occ v → v ∈ S := by
 unfold dU Ty.vars;simp only [z5q, decide_eq_true_eq, Ty.A9Q, z23q, false_or]
theorem Ty.B3j {t : Ty} (h : t.right = true) (h6 : t.kind = 6) : t.kids = [] := by
 have := (Ty.X6.1 h).1;rw [h6] at this;have e : arity 6 = 0 := rfl;exact List.eq_nil_of_length_eq_zero (by omega)
end Go.Su

/-
 NAMES THAT ARE FREE: rows that rise, what a term binds, which names are free in it.
-/
namespace Go.Su
def B5I (s : ByteArray) : List UInt8 := s.data.toList
def B7g (a b : ByteArray) : Bool := decide (B5I a < B5I b)
def rise : List ByteArray → ByteArray → List ByteArray
 | [], s => [s]
 | x :: l, s => if B7g x s = true then x :: rise l s else if x = s then x :: l else s :: x :: l
end Go.Su

/-
 A closed term put for a name that has no variables.
-/
namespace Go.Su
end Go.Su

/-
 A closed term put for a name: what it makes of free names, in which order two are put.
-/
namespace Go.Su
end Go.Su

/-
 EXPRESSIONS: what is right, what is free, what is put for a name.
-/
namespace Go.Su
def Z8 (k : Int) : Bool := decide (k = 1 ∨ k = 9 ∨ k = 11 ∨ k = 12)
def BH (k : Int) : Bool := decide (k = 12)
def eN (k : Int) : Bool := decide (k = 2 ∨ k = 3)
def eS (k : Int) : Bool := decide (k = 4)
def DK (k : Int) : Bool := decide (k = 16)
def eA (k : Int) : Bool := decide (k = 9 ∨ k = 11 ∨ k = 12 ∨ k = 15)
def eB (k : Int) : Bool := decide (k = 12)
def AR (k : Int) : Bool := decide (k = 15)
def Ip (k : Int) (np : Nat) : Bool := decide (1 ≤ k) && decide (k ≤ 16) && (!decide (k = 14) || decide (0 < np))
def K3 (k : Int) (np : Nat) : Int :=
 if k = 6 ∨ k = 8 ∨ k = 10 ∨ k = 11 ∨ k = 12 ∨ k = 16 then 2 else if k = 9 ∨ k = 15 then 1 else if k = 13 then 3 else if k = 14 then np + 1 else 0
def Ty.closed (t : Ty) : Bool := t.right && t.without 6
def iF (has must : Bool) (t : Ty) : Bool := if t.none = true then !must else has && t.closed
def Ex.A9U (t : Ex) : Bool := t.F6.all D5.right
def Ex.A62 (t : Ex) : Bool := iF (eB t.kind) false t.b && t.A9U
def Ex.A61 (t : Ex) : Bool := iF (eA t.kind) (AR t.kind) t.a && t.A62
def Ex.A60 (t : Ex) : Bool := (!DK t.kind || (decide (1 ≤ t.op) && decide (t.op ≤ 7))) && (DK t.kind || decide (t.op = 0)) && t.A61
def Ex.A6Z (t : Ex) : Bool := (eS t.kind || decide (t.s = K6)) && decide (t.s.size ≤ 200) && t.A60
def Ex.A6Y (t : Ex) : Bool := (eN t.kind || decide (t.n = 0)) && (!decide (t.kind = 3) || decide (t.n = 0) || decide (t.n = 1)) && t.A6Z
def Ex.A6X (t : Ex) : Bool := mU (BH t.kind) t.arg && t.A6Y
def Ex.OQ (t : Ex) : Bool := mU (Z8 t.kind) t.name && t.A6X
def Ex.one (t : Ex) : Bool := Ip t.kind t.F6.length && decide ((t.kids.length : Int) = K3 t.kind t.F6.length) && (decide (t.kind = 14) || decide (t.F6.length = 0)) && t.OQ
def Ex.right : Ex → Bool
 | .mk a b c d e f g h i j k ks => Ex.one (.mk a b c d e f g h i j k ks) && (ks.map Ex.right).all id
theorem Ex.right_eq (t : Ex) : t.right = (t.one && t.kids.all Ex.right) := by
 cases t;rw [Ex.right];simp [z39q]
theorem Ex.A5a {t : Ex} (h : t.right = true) : t.one = true := by rw [Ex.right_eq, z2q] at h; exact h.1
theorem Ex.Q0 {t k : Ex} (h : t.right = true) (hk : k ∈ t.kids) : k.right = true := by
 rw [Ex.right_eq, z2q, z5q] at h;exact h.2 k hk
theorem Ex.oV {t : Ex} (h : t.one = true) : (t.kids.length : Int) = K3 t.kind t.F6.length := by
 unfold Ex.one at h;simp only [z2q, decide_eq_true_eq] at h;exact h.1.1.2
def Ex.subs : Ex → List Ex
 | .mk a b c d e f g h i j k ks => .mk a b c d e f g h i j k ks :: (ks.map Ex.subs).flatten
theorem Ex.Mm (t : Ex) : t.subs = t :: t.kids.flatMap Ex.subs := by
 cases t;rw [Ex.subs];rfl
theorem Ex.A92 (t : Ex) : t.right = t.subs.all Ex.one := by
 induction t using Ex.ind with
 | h t ih =>
   rw [Ex.right_eq, Ex.Mm];simp only [List.all_cons, List.all_flatMap]
   congr 1
   rw [Bool.eq_iff_iff];simp only [z5q];constructor
   ·intro h k hk x hx
    have := h k hk;rw [ih k hk] at this;exact z5q.1 this x hx
   ·intro h k hk
    rw [ih k hk];exact z5q.2 (h k hk)
theorem Ex.B3X {p : Ex} : p.fit → ∀ q ∈ p.subs, q.fit := by
 induction p using Ex.ind with
 | h p ih =>
   intro h q hq;rw [Ex.Mm] at hq;rcases z20q.1 hq with rfl | hq
   ·exact h
   ·obtain ⟨k, hk, hq⟩ := z36q.1 hq
    exact ih k hk (h.kid hk) q hq
theorem B30 (t : Ex) : t.fit → ∃ n, Y2 16 15 n t.enc = some (t.subs.map Ex.enc) := by
 induction t using Ex.ind with
 | h t ih =>
   intro ht;have key : ∀ ks : List Ex, (∀ k ∈ ks, ∃ n, Y2 16 15 n k.enc = some (k.subs.map Ex.enc)) → ∃ n, FH (Y2 16 15 n) (ks.map Ex.enc) = some ((ks.flatMap Ex.subs).map Ex.enc) := by
    intro ks
    induction ks with
    | nil => intro _; exact ⟨0, rfl⟩
    | cons k ks ihk =>
      intro h;obtain ⟨n, hn⟩ := h k (z4q ..);obtain ⟨m, hm⟩ := ihk fun k' Cx => h k' (z3q _ Cx)
      refine ⟨n + m, ?_⟩;simp only [z11q, FH, OG (Nat.le_add_right n m) hn, Uy (fun d l h => OG (Nat.le_add_left m n) h) hm, I1]
      simp
   obtain ⟨n, hn⟩ := key t.kids fun k hk => ih k hk (ht.kid hk)
   refine ⟨n + 1, ?_⟩;have hl := Nat.le_of_lt ht.one.kids;rw [Ex.F9, Y2];simp only [z6q, z10q, List.getD_cons_succ, List.getD_cons_zero, List.length_map, hn, I1, Ex.Mm t, z11q];simp [hl, Ex.F9]
theorem Ex.OY (t : Ex) : t.size ≤ t.J4 := by
 induction t using Ex.ind with
 | h t ih =>
   rw [Ex.size_eq, Ex.U9];have key : ∀ ks : List Ex, (∀ k ∈ ks, k.size ≤ k.J4) → (ks.map Ex.size).sum ≤ (ks.map Ex.J4).sum := by
    intro ks
    induction ks with
    | nil => simp
    | cons k ks ihk =>
      intro h;simp only [z11q, z19q];have := h k (z4q ..);have := ihk fun k' Cx => h k' (z3q _ Cx)
      omega
   have := key t.kids ih;omega
def Ex.value : Ex → Bool
 | .mk k _ _ _ _ _ _ _ _ _ _ ks => if k = 1 ∨ k = 2 ∨ k = 3 ∨ k = 4 ∨ k = 5 ∨ k = 7 ∨ k = 9 then true else if k = 6 ∨ k = 8 then ((ks.map Ex.value).take 2).all id else false
theorem Ex.A7S (t : Ex) : t.value = if t.kind = 1 ∨ t.kind = 2 ∨ t.kind = 3 ∨ t.kind = 4 ∨ t.kind = 5 ∨ t.kind = 7 ∨ t.kind = 9 then true else if t.kind = 6 ∨ t.kind = 8 then (t.kids.take 2).all Ex.value else false := by
 cases t;rw [Ex.value];simp only [Ex.Km, Ex.CS, ← List.map_take, z39q];rfl
end Go.Su

/-
 EXPRESSIONS: how deep, how great, without places, their annotations.
-/
namespace Go.Su
def most {α : Type} (f : α → Nat) (l : List α) (n : Nat) : Nat := l.foldl (fun a k => max a (f k)) n
end Go.Su

/-
 EXPRESSIONS: other annotations in the places of its own.
-/
namespace Go.Su
def part {α : Type} (g : α → α) (l : List α) (j : Nat) : List α := (l.take j).map g ++ l.drop j
end Go.Su

/-
 EXPRESSIONS WITHOUT TYPES: what a step comes to.
-/
namespace Go.Su
structure R3 where
 kind : Int
 lo : Int
 hi : Int
def B8f : Ex := .mk 0 0 0 K6 K6 0 K6 0 (.mk 0 0 []) (.mk 0 0 []) [] []
def Ex.kid (t : Ex) (i : Nat) : Ex := t.kids.getD i B8f
end Go.Su

/-
 EXPRESSIONS WITHOUT TYPES: a step leaves closed what is closed.
-/
namespace Go.Su
end Go.Su

/-
 THE CHECKER: what a type B8I on; a closed term put for a name.
-/
namespace Go.Su
def BD (l : List Nm) (n : ByteArray) : Option Nm := l.reverse.find? fun x => decide (x.name = n)
section
variable {t : Tm} {ks : List Tm} {fs gs : List Chk} {L M : List Nm} {S Q : List Int}
end
end Go.Su

/-
 TERMS: types put for variables.
-/
namespace Go.Su
end Go.Su

/-
 TERMS: types put for variables leave a right term right.
-/
namespace Go.Su
end Go.Su

/-
 THE CHECKER OF TERMS: what has a type is turned by no types put for variables that it neither binds nor has in scope.
-/
namespace Go.Su
end Go.Su

/-
 EXPRESSIONS WITHOUT TYPES: a step leaves closed what is closed.
-/
namespace Go.Su
end Go.Su

/-
 EXPRESSIONS WITHOUT TYPES: a step leaves closed what is closed.
-/
namespace Go.Su
end Go.Su

/-
 EXPRESSIONS WITHOUT TYPES: how great what stands at one place may become.
-/
namespace Go.Su
end Go.Su

/-
 EXPRESSIONS WITHOUT TYPES: a run, and what it tells.
-/
namespace Go.Su
end Go.Su

/-
 EXPRESSIONS WITHOUT TYPES: a run is its steps, and then reading.
-/
namespace Go.Su
end Go.Su

/-
 EXPRESSIONS WITHOUT TYPES: annotations turn nothing of a run.
-/
namespace Go.Su
end Go.Su

/-
 TERMS: a term put for a name, its variables for the name's types.
-/
namespace Go.Su
end Go.Su

/-
 TERMS: what a substitution with variables leaves is within bounds.
-/
namespace Go.Su
end Go.Su

/-
 Judging an expression by a derivation: its types, its term, its casts. Mathematics alone.
-/
namespace Go.Su
inductive JT where
 | mk (ty : Ty) (kids : List JT)
def JT.ty : JT → Ty | .mk t _ => t
def JT.kids : JT → List JT | .mk _ ks => ks
@[simp] theorem JT.B8L (t : Ty) (ks : List JT) : (JT.mk t ks).ty = t := rfl
@[simp] theorem JT.CS (t : Ty) (ks : List JT) : (JT.mk t ks).kids = ks := rfl
def B5S : JT := .mk F7 []
def yE : A9 := .mk [] [] []
def JT.kid (T : JT) (i : Nat) : JT := T.kids.getD i B5S
def A9.kid (d : A9) (i : Nat) : A9 := d.kids.getD i yE
def A9.t0 (d : A9) : Ty := d.types.getD 0 F7
def A9.t1 (d : A9) : Ty := d.types.getD 1 F7
structure Q9 where
 lo : Int
 hi : Int
 frm : Ty
 to : Ty
abbrev JR := Except Int JT
abbrev Jf := A9 → List Nm → List Int → JR
def CL : Ty := .mk 5 0 []
def j3 (t : Ty) : Ty := .mk 8 0 [t]
def V4 (a b : Ty) : Ty := .mk 9 0 [a, b]
def T9 (k : Int) : Ty := .mk k 0 []
def Lv (st : Bool) (S : List Int) : List Ty → Int
 | [] => 0
 | t :: ts => if (st && !t.without 5) = true then 9 else if dU S t = true then Lv st S ts else 6
def M8 (e : Ex) (l : List Nm) : Nat :=
 if e.kind = 1 then match BD l e.name with
  | some x => x.vars.length
  | none => 0
 else if e.kind = 7 ∨ e.kind = 8 ∨ e.kind = 13 then 1
 else if e.kind = 14 then 2
 else if e.kind = 9 then (if e.a.kind = 0 then 1 else 0)
 else if e.kind = 12 then (if e.a.kind = 0 then 1 else 0) + (if e.b.kind = 0 then 1 else 0)
 else 0
def Ay (e : Ex) : Bool := decide (e.kind = 12) || (decide (e.kind = 11) && decide (e.a.kind = 0) && (e.kid 0).value)
def Hl (e : Ex) (d : A9) (l : List Nm) : Bool := decide (d.types.length = M8 e l) && decide (d.kids.length = e.kids.length) && (decide (d.vars = []) || Ay e)
def DT (st : Bool) (e : Ex) (d : A9) (l : List Nm) (S : List Int) : Int :=
 if e.kind = 1 ∧ BD l e.name = none then 6
 else if Hl e d l = false then 8
 else if takes S d.vars = false then 6
 else Lv st (if e.kind = 12 then d.vars ++ S else S) d.types
def N8 (to : Ty) (r : JR) : JR := r.bind fun a => if a.ty.agrees to = true then .ok a else .error 4
def J6 (a t : Ty) : Ty := if a.kind = 0 then t else a
def U6 (e : Ex) (d : A9) : Ty := J6 e.a d.t0
def Q4 (e : Ex) (d : A9) : Ty := J6 e.b (if e.a.kind = 0 then d.t1 else d.t0)
def Hy (f : Nat → List Nm → List Int → JR) (s y : Ty) (l : List Nm) (S : List Int) : Nat → List D5 → Except Int (List JT)
 | _, [] => .ok []
 | i, p :: ps => match p.binds s with
   | none => .error 4
   | some b => (N8 y (f i (l ++ b.map Du) S)).bind fun a => (Hy f s y l S (i + 1) ps).bind fun yas => .ok (a :: yas)
def Ko (e : Ex) : Ty := T9 (if e.op = 7 then 3 else 1)
def PX (e : Ex) : Ty := T9 (if 5 ≤ e.op then 2 else 1)
def CF (e : Ex) (f : Nat → List Nm → List Int → JR) (d : A9) (l : List Nm) (S : List Int) : JR :=
 if e.kind = 1 then match BD l e.name with
  | some x => .ok (.mk (x.ty.put (x.vars.zip d.types)) [])
  | none => .error 6
 else if e.kind = 2 ∨ e.kind = 3 ∨ e.kind = 4 ∨ e.kind = 5 then .ok (.mk (T9 (e.kind - 1)) [])
 else if e.kind = 6 then (f 0 l S).bind fun a => (f 1 l S).bind fun b => .ok (.mk (.mk 7 0 [a.ty, b.ty]) [a, b])
 else if e.kind = 7 then .ok (.mk (j3 d.t0) [])
 else if e.kind = 8 then (N8 d.t0 (f 0 l S)).bind fun a => (N8 (j3 d.t0) (f 1 l S)).bind fun b => .ok (.mk (j3 d.t0) [a, b])
 else if e.kind = 9 then (f 0 (l ++ [⟨e.name, J6 e.a d.t0, []⟩]) S).bind fun a => .ok (.mk (V4 (J6 e.a d.t0) a.ty) [a])
 else if e.kind = 10 then (f 0 l S).bind fun a => (f 1 l S).bind fun b =>
  if a.ty.kind = 5 then if b.ty.agrees CL = true then .ok (.mk CL [a, b]) else .error 4
  else if a.ty.kind = 9 then if b.ty.agrees (a.ty.kids.getD 0 F7) = true then .ok (.mk (a.ty.kids.getD 1 F7) [a, b]) else .error 4
  else .error 4
 else if e.kind = 11 then (if e.a.kind = 0 then f 0 l (d.vars ++ S) else N8 e.a (f 0 l S)).bind fun a =>
  (f 1 (l ++ [⟨e.name, J6 e.a a.ty, d.vars⟩]) S).bind fun b => .ok (.mk b.ty [a, b])
 else if e.kind = 12 then (N8 (Q4 e d) (f 0 (l ++ [⟨e.name, V4 (U6 e d) (Q4 e d), []⟩, ⟨e.arg, U6 e d, []⟩]) (d.vars ++ S))).bind fun a =>
  (f 1 (l ++ [⟨e.name, V4 (U6 e d) (Q4 e d), d.vars⟩]) S).bind fun b => .ok (.mk b.ty [a, b])
 else if e.kind = 13 then (N8 (T9 2) (f 0 l S)).bind fun a => (N8 d.t0 (f 1 l S)).bind fun b => (N8 d.t0 (f 2 l S)).bind fun c => .ok (.mk d.t0 [a, b, c])
 else if e.kind = 14 then (N8 d.t0 (f 0 l S)).bind fun a => (Hy f d.t0 d.t1 l S 1 e.F6).bind fun yas => .ok (.mk d.t1 (a :: yas))
 else if e.kind = 15 then (N8 e.a (f 0 l S)).bind fun a => .ok (.mk e.a [a])
 else (N8 (Ko e) (f 0 l S)).bind fun a => (N8 (Ko e) (f 1 l S)).bind fun b => .ok (.mk (PX e) [a, b])
def gq (st : Bool) (e : Ex) (fs : List Jf) (d : A9) (l : List Nm) (S : List Int) : JR :=
 if DT st e d l S = 0 then CF e (fun i l S => (fs.getD i fun _ _ _ => .error 4) (d.kid i) l S) d l S
 else .error (DT st e d l S)
def jt (st : Bool) (e : Ex) : Jf := gq st e (e.kids.attach.map fun k => jt st k.1)
termination_by SizeOf.sizeOf e
decreasing_by exact Ex.CK k.2
theorem A5U (st : Bool) (e : Ex) (d : A9) (l : List Nm) (S : List Int) : jt st e d l S = gq st e (e.kids.map (jt st)) d l S := by
 rw [jt]
 congr 1
 exact z24q (f := jt st) ..
def jk (st : Bool) (e : Ex) (d : A9) (i : Nat) (l : List Nm) (S : List Int) : JR := jt st (e.kid i) (d.kid i) l S
theorem Z9 {e : Ex} {i : Nat} (h : i < e.kids.length) : e.kid i = e.kids[i] := by
 simp only [Ex.kid, z1q, z0q h, z40q]
theorem U5 {st : Bool} {e : Ex} {i : Nat} (h : i < e.kids.length) (d : A9) (l : List Nm) (S : List Int) : ((e.kids.map (jt st)).getD i fun _ _ _ => .error 4) (d.kid i) l S = jk st e d i l S := by
 simp only [z1q, List.getElem?_map, z0q h, z41q, z40q, jk, Z9 h]
def FC (x : Tm) (a b : Ty) (lo hi : Int) (L : List Q9) : Tm × List Q9 :=
 (.mk 16 0 0 K6 K6 0 K6 0 L.length false [] a b [] [] [x], L ++ [⟨lo, hi, a, b⟩])
def K5 (e : Ex) (d : A9) (T : JT) : List Ty :=
 if e.kind = 8 then [d.t0, T.ty]
 else if e.kind = 10 then if (T.kid 0).ty.kind = 5 then [V4 (T.kid 0).ty (T.kid 0).ty, (T.kid 0).ty] else [F7, (T.kid 0).ty.kids.getD 0 F7]
 else if e.kind = 11 then [e.a, F7]
 else if e.kind = 12 then [Q4 e d, F7]
 else if e.kind = 13 then [T9 2, T.ty, T.ty]
 else if e.kind = 14 then d.t0 :: e.F6.map fun _ => d.t1
 else if e.kind = 15 then [e.a]
 else if e.kind = 16 then [Ko e, Ko e]
 else []
abbrev Et := A9 → JT → List Q9 → Tm × List Q9
def FE (e : Ex) (d : A9) (T : JT) (i : Nat) (f : Et) (L : List Q9) : Tm × List Q9 :=
 let w := (K5 e d T).getD i F7
 let r := f (d.kid i) (T.kid i) L
 if w.kind = 0 then r else FC r.1 (T.kid i).ty w (e.kid i).lo (e.kid i).hi r.2
def Dk (e : Ex) (d : A9) (T : JT) : Nat → List Et → List Q9 → List Tm × List Q9
 | _, [], L => ([], L)
 | i, f :: fs, L =>
   let r := FE e d T i f L
   let q := Dk e d T (i + 1) fs r.2
   (r.1 :: q.1, q.2)
def V3 (e : Ex) (d : A9) (T : JT) (ks : List Tm) : Tm :=
 if e.kind = 1 then .mk 1 0 0 e.name K6 0 K6 0 0 false [] F7 F7 d.types [] ks
 else if e.kind = 2 ∨ e.kind = 3 then .mk e.kind 0 0 K6 K6 e.n K6 0 0 false [] F7 F7 [] [] ks
 else if e.kind = 4 then .mk 4 0 0 K6 K6 0 e.s 0 0 false [] F7 F7 [] [] ks
 else if e.kind = 7 then .mk 7 0 0 K6 K6 0 K6 0 0 false [] d.t0 F7 [] [] ks
 else if e.kind = 9 then .mk 9 0 0 e.name K6 0 K6 0 0 false [] (T.ty.kids.getD 0 F7) F7 [] [] ks
 else if e.kind = 11 then .mk 11 0 0 e.name K6 0 K6 0 0 false d.vars F7 F7 [] [] ks
 else if e.kind = 12 then .mk 12 0 0 e.name e.arg 0 K6 0 0 false d.vars (U6 e d) (Q4 e d) [] [] ks
 else if e.kind = 14 then .mk 14 e.lo e.hi K6 K6 0 K6 0 0 false [] F7 F7 [] e.F6 ks
 else if e.kind = 15 then ks.getD 0 (.mk 0 0 0 K6 K6 0 K6 0 0 false [] F7 F7 [] [] [])
 else if e.kind = 16 then .mk 15 e.lo e.hi K6 K6 0 K6 e.op 0 false [] F7 F7 [] [] ks
 else .mk e.kind 0 0 K6 K6 0 K6 0 0 false [] F7 F7 [] [] ks
def M4 (e : Ex) : Et := fun d T L =>
 let q := Dk e d T 0 (e.kids.attach.map fun k => M4 k.1) L
 (V3 e d T q.1, q.2)
termination_by SizeOf.sizeOf e
decreasing_by exact Ex.CK k.2
theorem OA (e : Ex) (d : A9) (T : JT) (L : List Q9) : M4 e d T L = (V3 e d T (Dk e d T 0 (e.kids.map M4) L).1, (Dk e d T 0 (e.kids.map M4) L).2) := by
 rw [M4];rw [show (e.kids.attach.map fun k => M4 k.1) = e.kids.map M4 from z24q (f := M4) ..]
theorem B0P (e : Ex) (d : A9) (T : JT) (i : Nat) (f : Et) (L : List Q9) {n : Nat} (h : ∀ d T L, (f d T L).2.length ≤ L.length + n) : (FE e d T i f L).2.length ≤ L.length + n + 1 := by
 unfold FE;have := h (d.kid i) (T.kid i) L;simp only
 split
 ·omega
 ·simp only [FC, z18q, z6q, z10q]; omega
theorem A2X (e : Ex) (d : A9) (T : JT) : ∀ (ks : List Ex) (i : Nat) (L : List Q9), (∀ k ∈ ks, ∀ d T L, (M4 k d T L).2.length + 1 ≤ L.length + 2 * k.size) →
 (Dk e d T i (ks.map M4) L).2.length ≤ L.length + (ks.map fun k => 2 * k.size).sum
 | [], i, L, _ => by simp [Dk]
 | k :: ks, i, L, h => by
   simp only [z11q, Dk, z19q];have hk := h k (z4q ..);have h1 := B0P e d T i (M4 k) L (n := 2 * k.size - 1) (fun d T L => by have := hk d T L; have := Ex.OZ k; omega)
   have h2 := A2X e d T ks (i + 1) (FE e d T i (M4 k) L).2 fun k' Cx => h k' (z3q _ Cx)
   have := Ex.OZ k;omega
theorem OC (e : Ex) : ∀ d T L, (M4 e d T L).2.length + 1 ≤ L.length + 2 * e.size := by
 induction e using Ex.ind with
 | h e ih =>
   intro d T L;rw [OA];have := A2X e d T e.kids 0 L ih;have h2 : ∀ l : List Ex, (l.map fun k => 2 * k.size).sum = 2 * (l.map Ex.size).sum := by
    intro l
    induction l with
    | nil => rfl
    | cons a l ih => simp only [z11q, z19q, ih]; omega
   rw [h2] at this;have h3 := Ex.size_eq e;simp only;omega
end Go.Su

/-
 Judging an expression: what is judged is right; what goes wrong has a number.
-/
namespace Go.Su
theorem Ty.Dn {t : Ty} (h : t.none = true) : t.kind = 0 := by
 unfold Ty.none at h;simp only [z2q, decide_eq_true_eq] at h;exact h.1.1
theorem Ty.A3A {t : Ty} (h : t.right = true) : 1 ≤ t.kind ∧ t.kind ≤ 9 := by
 have h1 := (Ty.X6.1 h).1;unfold arity at h1
 split at h1 <;> rename_i h2
 ·omega
 ·split at h1 <;> rename_i h3
  ·omega
  ·split at h1 <;> omega
structure Ex.Own (t : Ex) : Prop where
 k1 : 1 ≤ t.kind
 k16 : t.kind ≤ 16
 kids : (t.kids.length : Int) = K3 t.kind t.F6.length
 a : t.a.none = true ∨ t.a.right = true
 b : t.b.none = true ∨ t.b.right = true
 Yv : t.kind = 15 → t.a.right = true
 op : t.kind = 16 → 1 ≤ t.op ∧ t.op ≤ 7
 F6 : ∀ p ∈ t.F6, p.right = true
theorem A1T {h m : Bool} {t : Ty} (H : iF h m t = true) : (t.none = true ∨ t.right = true) ∧ (m = true → t.right = true) := by
 unfold iF at H
 split at H
 ·rename_i hn
  exact ⟨.inl hn, fun hm => by rw [hm] at H; cases H⟩
 ·simp only [z2q, Ty.closed] at H
  exact ⟨.inr H.2.1, fun _ => H.2.1⟩
theorem Ex.S9 {t : Ex} (h : t.right = true) : t.Own := by
 have h1 := Ex.A5a h;unfold Ex.one Ex.OQ Ex.A6X Ex.A6Y Ex.A6Z Ex.A60 Ex.A61 Ex.A62 Ex.A9U at h1;simp only [z2q, decide_eq_true_eq] at h1;obtain ⟨⟨⟨g1, g2⟩, g3⟩, g4, g5, g6, g7, ⟨g8a, g8b⟩, g9, g10, g11⟩ := h1;unfold Ip at g1;simp only [z2q, decide_eq_true_eq] at g1;refine ⟨g1.1.1, g1.1.2, g2, (A1T g9).1, (A1T g10).1, fun hk => (A1T g9).2 (by simp [AR, hk]), fun hk => ?_, z5q.1 g11⟩
 simp [DK, hk] at g8a;exact g8a
theorem Ex.Own.CK {t : Ex} (o : t.Own) {i : Nat} (h : (i : Int) < K3 t.kind t.F6.length) : i < t.kids.length := by have := o.kids; omega
def A9.AO : A9 → Bool
 | .mk ts vs ks => ts.all Ty.right && vs.all (fun v => decide (0 ≤ v) && decide (v ≤ 1048576)) && (ks.map A9.AO).all id
theorem A9.iN (d : A9) : d.AO = (d.types.all Ty.right && d.vars.all (fun v => decide (0 ≤ v) && decide (v ≤ 1048576)) && d.kids.all A9.AO) := by
 cases d;rw [A9.AO];simp [z39q]
theorem A9.EM {d : A9} : d.AO = true ↔ (∀ t ∈ d.types, t.right = true) ∧ (∀ v ∈ d.vars, 0 ≤ v ∧ v ≤ 1048576) ∧ ∀ k ∈ d.kids, k.AO = true := by
 rw [A9.iN];simp [z2q, z5q, and_assoc]
inductive A9.DC : A9 → Prop where
 | mk (d : A9) (h : d.vars.length ≤ lim ∧ d.types.length ≤ lim ∧ d.kids.length ≤ lim ∧ ∀ t ∈ d.types, t.thin = true ∧ t.BP ≤ lim) (k : ∀ x ∈ d.kids, x.DC) : d.DC
theorem A9.DC.all {d : A9} (h : d.DC) : d.vars.length ≤ lim ∧ d.types.length ≤ lim ∧ d.kids.length ≤ lim ∧ ∀ t ∈ d.types, t.thin = true ∧ t.BP ≤ lim := by cases h; assumption
theorem A9.DC.vars {d : A9} (h : d.DC) : d.vars.length ≤ lim := h.all.1
theorem A9.DC.kid {d k : A9} (h : d.DC) (hk : k ∈ d.kids) : k.DC := by cases h with | mk _ _ g => exact g k hk
theorem B1j : yE.DC := .mk _ ⟨by simp [yE], by simp [yE], by simp [yE], by simp [yE]⟩ (by simp [yE])
theorem A9S : yE.AO = true := by rw [A9.iN]; rfl
theorem A9.Dm {d : A9} (h : d.AO = true) (i : Nat) : (d.kid i).AO = true := by
 unfold A9.kid;rw [z1q];cases hk : d.kids[i]? with
 | none => exact A9S
 | some k => exact (A9.EM.1 h).2.2 k (z22q hk)
theorem A9.El {d : A9} (h : d.DC) (i : Nat) : (d.kid i).DC := by
 unfold A9.kid;rw [z1q];cases hk : d.kids[i]? with
 | none => exact B1j
 | some k => exact h.kid (z22q hk)
theorem U3 {α β : Type} {x : Except Int α} {f : α → Except Int β} {b : β} (h : x.bind f = .ok b) : ∃ a, x = .ok a ∧ f a = .ok b := by
 cases x with
 | error e => cases h
 | ok a => exact ⟨a, rfl, h⟩
theorem Ej {to : Ty} {r : JR} {a : JT} (h : N8 to r = .ok a) : r = .ok a ∧ a.ty.agrees to = true := by
 obtain ⟨b, h1, h2⟩ := U3 h
 split at h2
 ·rename_i hg; cases h2; exact ⟨h1, hg⟩
 ·cases h2
theorem A4W {st : Bool} {e : Ex} {fs : List Jf} {d : A9} {l : List Nm} {S : List Int} {T : JT} (h : gq st e fs d l S = .ok T) : DT st e d l S = 0 := by
 unfold gq at h
 split at h
 ·assumption
 ·cases h
theorem CG {st : Bool} {e : Ex} {d : A9} {l : List Nm} {S : List Int} (h : DT st e d l S = 0) : d.types.length = M8 e l ∧ d.kids.length = e.kids.length ∧ (d.vars = [] ∨ Ay e = true) ∧ takes S d.vars = true := by
 unfold DT at h
 split at h
 ·cases h
 ·split at h
  ·cases h
  ·rename_i h1
   split at h
   ·cases h
   ·rename_i h2
    simp only [Bool.not_eq_false] at h1 h2;unfold Hl at h1;simp only [z2q, decide_eq_true_eq, Bool.or_eq_true] at h1;exact ⟨h1.1.1, h1.1.2, h1.2, h2⟩
theorem XX {t : Ty} (h : t.right = true) : (j3 t).right = true := by
 rw [Ty.X6];exact ⟨rfl, by simp [j3], by simp [j3], .inr rfl, fun k hk => by simp [j3] at hk; subst hk; exact h⟩
theorem Pd {a b : Ty} (h : a.right = true) (h2 : b.right = true) : (V4 a b).right = true := by
 rw [Ty.X6];exact ⟨rfl, by simp [V4], by simp [V4], .inr rfl, fun k hk => by simp [V4] at hk; rcases hk with rfl | rfl <;> assumption⟩
theorem A8a {a b : Ty} (h : a.right = true) (h2 : b.right = true) : (Ty.mk 7 0 [a, b]).right = true := by
 rw [Ty.X6];exact ⟨rfl, by simp, by simp, .inr rfl, fun k hk => by simp at hk; rcases hk with rfl | rfl <;> assumption⟩
theorem A49 : CL.right = true := EN (by omega)
theorem A9.Bb {d : A9} (h : d.AO = true) (hl : 0 < d.types.length) : d.t0.right = true := by
 unfold A9.t0;rw [z1q, z0q hl];exact (A9.EM.1 h).1 _ (z17q hl)
theorem A9.eY {d : A9} (h : d.AO = true) (hl : 1 < d.types.length) : d.t1.right = true := by
 unfold A9.t1;rw [z1q, z0q hl];exact (A9.EM.1 h).1 _ (z17q hl)
theorem Dx {a t : Ty} (ha : a.none = true ∨ a.right = true) (ht : a.kind = 0 → t.right = true) : (J6 a t).right = true := by
 unfold J6
 split
 ·rename_i h; exact ht h
 ·rename_i h
  rcases ha with ha | ha
  ·exact absurd (Ty.Dn ha) h
  ·exact ha
theorem Zw {e : Ex} (o : e.Own) (hk : e.kind = 12) {d : A9} (hd : d.AO = true) {l : List Nm} (hn : d.types.length = M8 e l) : (U6 e d).right = true := by
 unfold U6;refine Dx o.a fun h => A9.Bb hd ?_
 rw [hn];simp only [M8, hk, h];simp;omega
theorem VK {e : Ex} (o : e.Own) (hk : e.kind = 12) {d : A9} (hd : d.AO = true) {l : List Nm} (hn : d.types.length = M8 e l) : (Q4 e d).right = true := by
 unfold Q4;refine Dx o.b fun h => ?_
 split
 ·rename_i ha
  exact A9.eY hd (by rw [hn]; simp [M8, hk, h, ha])
 ·rename_i ha
  exact A9.Bb hd (by rw [hn]; simp [M8, hk, h, ha])
theorem yA {l : List Nm} {n : ByteArray} {x : Nm} (h : BD l n = some x) : x ∈ l := List.mem_reverse.1 (z26q h)
theorem A1O {f : Nat → List Nm → List Int → JR} {s y : Ty} {l : List Nm} {S : List Int} : ∀ {ps : List D5} {i : Nat} {yas : List JT}, Hy f s y l S i ps = .ok yas → yas.length = ps.length ∧ ∀ (j : Nat) p, ps[j]? = some p → ∃ b a, p.binds s = some b ∧ f (i + j) (l ++ b.map Du) S = .ok a ∧ yas[j]? = some a ∧ a.ty.agrees y = true
 | [], i, yas, h => by simp only [Hy] at h; cases h; exact ⟨rfl, fun j p hp => by simp at hp⟩
 | p :: ps, i, yas, h => by
   simp only [Hy] at h
   split at h
   ·cases h
   ·rename_i b hb
    obtain ⟨a, h1, h⟩ := U3 h;obtain ⟨yas', h2, h⟩ := U3 h;cases h;obtain ⟨h3, h4⟩ := Ej h1;obtain ⟨h5, h6⟩ := A1O h2;refine ⟨by simp [h5], fun j q hq => ?_⟩
    cases j with
    | zero => simp at hq; subst hq; exact ⟨b, a, hb, h3, by simp, h4⟩
    | succ j =>
      obtain ⟨b', a', g1, g2, g3, g4⟩ := h6 j q (by simpa using hq)
      exact ⟨b', a', g1, by rw [← g2]; congr 1; omega, by simpa using g3, g4⟩
theorem Zn {e : Ex} (hk : e.kind = 1) (f : Nat → List Nm → List Int → JR) (d : A9) (l : List Nm) (S : List Int) : CF e f d l S = (match BD l e.name with
 | some x => .ok (.mk (x.ty.put (x.vars.zip d.types)) [])
 | none => .error 6) := by
 unfold CF;rw [if_pos hk]
 all_goals (cases BD l e.name <;> rfl)
theorem Lu {e : Ex} (hk : e.kind = 2 ∨ e.kind = 3 ∨ e.kind = 4 ∨ e.kind = 5) (f : Nat → List Nm → List Int → JR) (d : A9) (l : List Nm) (S : List Int) : CF e f d l S = (.ok (.mk (T9 (e.kind - 1)) [])) := by
 unfold CF;rw [if_neg (by omega), if_pos hk]
theorem Zo {e : Ex} (hk : e.kind = 6) (f : Nat → List Nm → List Int → JR) (d : A9) (l : List Nm) (S : List Int) : CF e f d l S = ((f 0 l S).bind fun a => (f 1 l S).bind fun b => .ok (.mk (.mk 7 0 [a.ty, b.ty]) [a, b])) := by
 unfold CF;rw [if_neg (by omega), if_neg (by omega), if_pos hk]
theorem h_ {e : Ex} (hk : e.kind = 7) (f : Nat → List Nm → List Int → JR) (d : A9) (l : List Nm) (S : List Int) : CF e f d l S = (.ok (.mk (j3 d.t0) [])) := by
 unfold CF;rw [if_neg (by omega), if_neg (by omega), if_neg (by omega), if_pos hk]
theorem Zm {e : Ex} (hk : e.kind = 8) (f : Nat → List Nm → List Int → JR) (d : A9) (l : List Nm) (S : List Int) : CF e f d l S = ((N8 d.t0 (f 0 l S)).bind fun a => (N8 (j3 d.t0) (f 1 l S)).bind fun b => .ok (.mk (j3 d.t0) [a, b])) := by
 unfold CF;rw [if_neg (by omega), if_neg (by omega), if_neg (by omega), if_neg (by omega), if_pos hk]
theorem gz {e : Ex} (hk : e.kind = 9) (f : Nat → List Nm → List Int → JR) (d : A9) (l : List Nm) (S : List Int) : CF e f d l S = ((f 0 (l ++ [⟨e.name, J6 e.a d.t0, []⟩]) S).bind fun a => .ok (.mk (V4 (J6 e.a d.t0) a.ty) [a])) := by
 unfold CF;rw [if_neg (by omega), if_neg (by omega), if_neg (by omega), if_neg (by omega), if_neg (by omega), if_pos hk]
theorem gu {e : Ex} (hk : e.kind = 10) (f : Nat → List Nm → List Int → JR) (d : A9) (l : List Nm) (S : List Int) : CF e f d l S = ((f 0 l S).bind fun a => (f 1 l S).bind fun b =>
 if a.ty.kind = 5 then if b.ty.agrees CL = true then .ok (.mk CL [a, b]) else .error 4
 else if a.ty.kind = 9 then if b.ty.agrees (a.ty.kids.getD 0 F7) = true then .ok (.mk (a.ty.kids.getD 1 F7) [a, b]) else .error 4
 else .error 4) := by
 unfold CF;rw [if_neg (by omega), if_neg (by omega), if_neg (by omega), if_neg (by omega), if_neg (by omega), if_neg (by omega), if_pos hk]
theorem g_ {e : Ex} (hk : e.kind = 11) (f : Nat → List Nm → List Int → JR) (d : A9) (l : List Nm) (S : List Int) : CF e f d l S = ((if e.a.kind = 0 then f 0 l (d.vars ++ S) else N8 e.a (f 0 l S)).bind fun a =>
 (f 1 (l ++ [⟨e.name, J6 e.a a.ty, d.vars⟩]) S).bind fun b => .ok (.mk b.ty [a, b])) := by
 unfold CF;rw [if_neg (by omega), if_neg (by omega), if_neg (by omega), if_neg (by omega), if_neg (by omega), if_neg (by omega), if_neg (by omega), if_pos hk]
theorem iA {e : Ex} (hk : e.kind = 12) (f : Nat → List Nm → List Int → JR) (d : A9) (l : List Nm) (S : List Int) : CF e f d l S = ((N8 (Q4 e d) (f 0 (l ++ [⟨e.name, V4 (U6 e d) (Q4 e d), []⟩, ⟨e.arg, U6 e d, []⟩]) (d.vars ++ S))).bind fun a =>
 (f 1 (l ++ [⟨e.name, V4 (U6 e d) (Q4 e d), d.vars⟩]) S).bind fun b => .ok (.mk b.ty [a, b])) := by
 unfold CF;rw [if_neg (by omega), if_neg (by omega), if_neg (by omega), if_neg (by omega), if_neg (by omega), if_neg (by omega), if_neg (by omega), if_neg (by omega), if_pos hk]
theorem oM {e : Ex} (hk : e.kind = 13) (f : Nat → List Nm → List Int → JR) (d : A9) (l : List Nm) (S : List Int) : CF e f d l S = ((N8 (T9 2) (f 0 l S)).bind fun a => (N8 d.t0 (f 1 l S)).bind fun b => (N8 d.t0 (f 2 l S)).bind fun c => .ok (.mk d.t0 [a, b, c])) := by
 unfold CF;rw [if_neg (by omega), if_neg (by omega), if_neg (by omega), if_neg (by omega), if_neg (by omega), if_neg (by omega), if_neg (by omega), if_neg (by omega), if_neg (by omega), if_pos hk]
theorem XV {e : Ex} (hk : e.kind = 14) (f : Nat → List Nm → List Int → JR) (d : A9) (l : List Nm) (S : List Int) : CF e f d l S = ((N8 d.t0 (f 0 l S)).bind fun a => (Hy f d.t0 d.t1 l S 1 e.F6).bind fun yas => .ok (.mk d.t1 (a :: yas))) := by
 unfold CF;rw [if_neg (by omega), if_neg (by omega), if_neg (by omega), if_neg (by omega), if_neg (by omega), if_neg (by omega), if_neg (by omega), if_neg (by omega), if_neg (by omega), if_neg (by omega), if_pos hk]
theorem gy {e : Ex} (hk : e.kind = 15) (f : Nat → List Nm → List Int → JR) (d : A9) (l : List Nm) (S : List Int) : CF e f d l S = ((N8 e.a (f 0 l S)).bind fun a => .ok (.mk e.a [a])) := by
 unfold CF;rw [if_neg (by omega), if_neg (by omega), if_neg (by omega), if_neg (by omega), if_neg (by omega), if_neg (by omega), if_neg (by omega), if_neg (by omega), if_neg (by omega), if_neg (by omega), if_neg (by omega), if_pos hk]
theorem oN {e : Ex} (hk : e.kind = 16) (f : Nat → List Nm → List Int → JR) (d : A9) (l : List Nm) (S : List Int) : CF e f d l S = ((N8 (Ko e) (f 0 l S)).bind fun a => (N8 (Ko e) (f 1 l S)).bind fun b => .ok (.mk (PX e) [a, b])) := by
 unfold CF;rw [if_neg (by omega), if_neg (by omega), if_neg (by omega), if_neg (by omega), if_neg (by omega), if_neg (by omega), if_neg (by omega), if_neg (by omega), if_neg (by omega), if_neg (by omega), if_neg (by omega), if_neg (by omega)]
theorem JU (st : Bool) (e : Ex) : e.right = true → ∀ (d : A9) (l : List Nm) (S : List Int) (T : JT), d.AO = true → d.DC → Aa l → jt st e d l S = .ok T → T.ty.right = true := by
 induction e using Ex.ind with
 | h e ih =>
   intro he d l S T hd hv hl h;have o := Ex.S9 he;have Kj := (A9.EM.1 hd).2.1;rw [A5U] at h;have Hd := A4W h;obtain ⟨hn, DR, B8a, htk⟩ := CG Hd;unfold gq at h;rw [if_pos Hd] at h;have kid : ∀ (i : Nat) l S T, (i : Int) < K3 e.kind e.F6.length → Aa l → ((e.kids.map (jt st)).getD i fun _ _ _ => .error 4) (d.kid i) l S = .ok T → T.ty.right = true := by
    intro i l S T hi hl h;have H7 := o.CK hi;rw [U5 H7] at h;exact ih _ (by rw [Z9 H7]; exact z17q H7) (Ex.Q0 he (by rw [Z9 H7]; exact z17q H7)) _ _ _ _ (A9.Dm hd i) (A9.El hv i) hl h
   have one : ∀ {s : ByteArray} {t : Ty} {vs : List Int}, t.right = true → (∀ v ∈ vs, 0 ≤ v ∧ v ≤ 1048576) → vs.length ≤ lim → Aa (l ++ [⟨s, t, vs⟩]) := fun h1 h2 h3 => hl.app (.one ⟨h1, h3, h2⟩)
   have k1 := o.k1;have k16 := o.k16;have A3S : e.kind = 1 ∨ (e.kind = 2 ∨ e.kind = 3 ∨ e.kind = 4 ∨ e.kind = 5) ∨ e.kind = 6 ∨ e.kind = 7 ∨ e.kind = 8 ∨ e.kind = 9 ∨ e.kind = 10 ∨ e.kind = 11 ∨ e.kind = 12 ∨ e.kind = 13 ∨ e.kind = 14 ∨ e.kind = 15 ∨ e.kind = 16 := by omega
   rcases A3S with hk | hk | hk | hk | hk | hk | hk | hk | hk | hk | hk | hk | hk
   ·rw [Zn hk] at h
    cases hx : BD l e.name with
    | none => rw [hx] at h; cases h
    | some x =>
      rw [hx] at h;cases h;refine Ty.B1t (fun b hb => ?_) _ (hl x (yA hx)).1
      exact (A9.EM.1 hd).1 _ (List.of_mem_zip hb).2
   ·rw [Lu hk] at h
    cases h; exact EN (by omega)
   ·rw [Zo hk] at h
    obtain ⟨a, h1, h⟩ := U3 h;obtain ⟨b, h2, h⟩ := U3 h;cases h;exact A8a (kid 0 _ _ _ (by simp [K3, hk]) hl h1) (kid 1 _ _ _ (by simp [K3, hk]) hl h2)
   ·rw [h_ hk] at h
    cases h;exact XX (A9.Bb hd (by rw [hn]; simp [M8, hk]))
   ·rw [Zm hk] at h
    obtain ⟨a, h1, h⟩ := U3 h;obtain ⟨b, h2, h⟩ := U3 h;cases h;exact XX (A9.Bb hd (by rw [hn]; simp [M8, hk]))
   ·rw [gz hk] at h
    obtain ⟨a, h1, h⟩ := U3 h;cases h;have hg : (J6 e.a d.t0).right = true := Dx o.a fun h => A9.Bb hd (by rw [hn]; simp [M8, hk, h])
    exact Pd hg (kid 0 _ _ _ (by simp [K3, hk]) (one hg (by simp) (by simp)) h1)
   ·rw [gu hk] at h
    obtain ⟨a, h1, h⟩ := U3 h;obtain ⟨b, h2, h⟩ := U3 h;have ra := kid 0 _ _ _ (by simp [K3, hk]) hl h1
    split at h
    ·split at h
     ·cases h; exact A49
     ·cases h
    ·split at h
     ·rename_i h9
      split at h
      ·cases h
       obtain ⟨q1, -, -, -, q5⟩ := Ty.X6.1 ra;rw [h9] at q1;have Z4 : a.ty.kids.length = 2 := by simp [arity] at q1; omega
       show (a.ty.kids.getD 1 F7).right = true
       rw [z1q, z0q (by omega)]
       exact q5 _ (z17q _)
      ·cases h
     ·cases h
   ·rw [g_ hk] at h
    obtain ⟨a, h1, h⟩ := U3 h;obtain ⟨b, h2, h⟩ := U3 h;cases h;have ra : (J6 e.a a.ty).right = true := by
     refine Dx o.a fun h0 => ?_
     rw [if_pos h0] at h1;exact kid 0 _ _ _ (by simp [K3, hk]) hl h1
    exact kid 1 _ _ b (by simp [K3, hk]) (one ra Kj hv.vars) h2
   ·rw [iA hk] at h
    obtain ⟨a, h1, h⟩ := U3 h;obtain ⟨b, h2, h⟩ := U3 h;cases h;exact kid 1 _ _ b (by simp [K3, hk]) (one (Pd (Zw o hk hd hn) (VK o hk hd hn)) Kj hv.vars) h2
   ·rw [oM hk] at h
    obtain ⟨a, h1, h⟩ := U3 h;obtain ⟨b, h2, h⟩ := U3 h;obtain ⟨c, h3, h⟩ := U3 h;cases h;exact A9.Bb hd (by rw [hn]; simp [M8, hk])
   ·rw [XV hk] at h
    obtain ⟨a, h1, h⟩ := U3 h;obtain ⟨yas, h2, h⟩ := U3 h;cases h;exact A9.eY hd (by rw [hn]; simp [M8, hk])
   ·rw [gy hk] at h
    obtain ⟨a, h1, h⟩ := U3 h;cases h;exact o.Yv hk
   ·rw [oN hk] at h
    obtain ⟨a, h1, h⟩ := U3 h;obtain ⟨b, h2, h⟩ := U3 h;cases h
    show (PX e).right = true
    unfold PX T9
    split <;> exact EN (by omega)
theorem B39 {st : Bool} {e : Ex} {d : A9} {l : List Nm} {S : List Int} (h : DT st e d l S = 0) : jt st e d l S = CF e (fun i l S => ((e.kids.map (jt st)).getD i fun _ _ _ => .error 4) (d.kid i) l S) d l S := by
 rw [A5U];unfold gq;rw [if_pos h]
theorem A6M {st : Bool} {e : Ex} {d : A9} {l : List Nm} {S : List Int} (h : DT st e d l S ≠ 0) : jt st e d l S = .error (DT st e d l S) := by
 rw [A5U];unfold gq;rw [if_neg h]
end Go.Su

/-
 RUNS ON CLOSED DATA, by rewriting: what the data's operations make of data that are written out.
-/
namespace Go.Su
theorem B5F {α : Type} {c c' : Prop} [d : Decidable c] (h : c = c') (x y : α) : (if c then x else y) = @ite α c' (h ▸ d) x y := by subst h; rfl
theorem B2W (j : Nat) (cs : List DV) : A7 j (.agg cs) = cs.getD j .undef := rfl
theorem A9K (n : Nat) (cs : List DV) : C9 n (.agg cs) = (cs.length == n) := rfl
theorem B3P (a : Array UInt8) : (ByteArray.mk a).size = a.size := rfl
theorem B3n (a b : Array UInt8) : ((ByteArray.mk a) = ByteArray.mk b) = (a.toList = b.toList) := by
 apply propext; constructor
 ·intro h; cases h; rfl
 ·intro h; rw [Array.ext' h]
theorem B09 (a b : Array UInt8) : CJ (.str ⟨a⟩) (.str ⟨b⟩) = decide (a.toList = b.toList) := by
 simp only [CJ]; rw [fP]; congr 1; exact B3n a b
theorem B1a (k k' : IntKind) (a b : Int) : CJ (.int k a) (.int k' b) = decide (a = b) := by simp only [CJ]; rfl
theorem B43 (sz : Nat) (ds es : List DV) : R8 sz (.list sz ds) (.list sz es) = if ds.length + es.length ≤ 4294967296 then some (.list sz (ds ++ es)) else none := by
 simp [R8, lim]
theorem B49 (i : Nat) (cs : List DV) : O4 i (.I6 cs) = cs[i]? := rfl
theorem B6z (m : Nat) : bnd m none = some m := rfl
theorem B6A (m : Nat) (k : IntKind) (n : Int) : bnd m (some (.int k n)) = if 0 ≤ n then some n.toNat else none := rfl
theorem B19 (sz : Nat) (ds : List DV) (lo hi : Option DV) : Ca sz (.list sz ds) lo hi = ob (bnd ds.length hi) fun h => ob (bnd 0 lo) fun l => if l ≤ h ∧ h ≤ ds.length then some (.list sz ((ds.take h).drop l)) else none := by
 simp [Ca]
theorem B0L (sz : Nat) (d : DV) (lo : Option DV) (k k' : IntKind) (h m : Int) : aD sz d lo (.int k h) (.int k' m) = if h = m then Ca sz d lo (some (.int k h)) else none := rfl
theorem B44 (ks : List LK) (xs ys : List DV) : jI ks (.agg xs) (.agg ys) = Cw ks xs ys := rfl
theorem B48 : Cw [] [] [] = some true := rfl
theorem B47 (k : LK) (ks : List LK) (x y : DV) (xs ys : List DV) : Cw (k :: ks) (x :: xs) (y :: ys) = ob (uz k x y) fun b => bif b then Cw ks xs ys else some false := by
 simp only [Cw]
 congr 1; funext b; cases b <;> rfl
theorem B46 (k : IntKind) (a b : Int) : uz .int (.int k a) (.int k b) = some (decide (a = b)) := by simp only [uz, if_true]; rfl
theorem B45 (a b : Bool) : uz .bool (.bool a) (.bool b) = some (a == b) := rfl
theorem B3S (k : IntKind) (n : Int) : O9 .neg (.int k n) = some (.int k (k.wrap (0 - n))) := rfl
theorem B5L (k : DV) : Y7 [] k = none := rfl
theorem B5K (e : DV × DV) (es : List (DV × DV)) (k : DV) : Y7 (e :: es) k = bif CJ k e.1 then some e.2 else Y7 es k := by
 simp only [Y7, List.find?_cons];cases CJ k e.1 <;> rfl
theorem B5N (k v : DV) : Cm [] k v = [(k, v)] := rfl
theorem B5M (e : DV × DV) (es : List (DV × DV)) (k v : DV) : Cm (e :: es) k v = bif CJ k e.1 then (e.1, v) :: es else e :: Cm es k v := by
 simp only [Cm];cases CJ k e.1 <;> rfl
theorem B1m (sg : List D7) (c : DV × Meta) : oneCell sg [c] = AF sg c := rfl
theorem B6m (sg : List D7) (d : DV) : AF sg (d, .val) = some d := rfl
theorem B6k (sg : List D7) (d : DV) : AF sg (d, .full) = some d := rfl
theorem B6l (sg : List D7) (d : DV) : AF sg (d, .own) = some d := rfl
theorem B6j (sg : List D7) (d : DV) (i sz off len : Nat) : AF sg (d, .arr i sz off len) = ob (VO sg i) fun a => og (a.1 == sz) (if off + len ≤ a.2.length then some (.list sz ((a.2.drop off).take len)) else none) := rfl
theorem A91 (d : DV) : A68 (some d) = some d := rfl
theorem B7s (sz : Nat) (ds : List DV) (k : IntKind) : E8 sz (.list sz ds) (.int k 0) = ds[0]? := by simp [E8]
theorem B7t (sz : Nat) (ds : List DV) (k : IntKind) : E8 sz (.list sz ds) (.int k 1) = ds[1]? := by simp [E8]
theorem B7u (sz : Nat) (ds : List DV) (k : IntKind) : E8 sz (.list sz ds) (.int k 2) = ds[2]? := by simp [E8]
theorem B7v (sz : Nat) (ds : List DV) (k : IntKind) : E8 sz (.list sz ds) (.int k 3) = ds[3]? := by simp [E8]
theorem B7w (sz : Nat) (ds : List DV) (k : IntKind) : E8 sz (.list sz ds) (.int k 4) = ds[4]? := by simp [E8]
theorem B7x (sz : Nat) (ds : List DV) (k : IntKind) : E8 sz (.list sz ds) (.int k 5) = ds[5]? := by simp [E8]
theorem B7y (sz : Nat) (ds : List DV) (k : IntKind) : E8 sz (.list sz ds) (.int k 6) = ds[6]? := by simp [E8]
theorem B7z (sz : Nat) (ds : List DV) (k : IntKind) : E8 sz (.list sz ds) (.int k 7) = ds[7]? := by simp [E8]
theorem B7A (sz : Nat) (ds : List DV) (k : IntKind) : E8 sz (.list sz ds) (.int k 8) = ds[8]? := by simp [E8]
theorem B7B (sz : Nat) (ds : List DV) (k : IntKind) : E8 sz (.list sz ds) (.int k 9) = ds[9]? := by simp [E8]
theorem B6B (sz : Nat) (ds : List DV) (k : IntKind) : E8 sz (.list sz ds) (.int k 10) = ds[10]? := by simp [E8]
theorem B6C (sz : Nat) (ds : List DV) (k : IntKind) : E8 sz (.list sz ds) (.int k 11) = ds[11]? := by simp [E8]
theorem B6D (sz : Nat) (ds : List DV) (k : IntKind) : E8 sz (.list sz ds) (.int k 12) = ds[12]? := by simp [E8]
theorem B6E (sz : Nat) (ds : List DV) (k : IntKind) : E8 sz (.list sz ds) (.int k 13) = ds[13]? := by simp [E8]
theorem B6F (sz : Nat) (ds : List DV) (k : IntKind) : E8 sz (.list sz ds) (.int k 14) = ds[14]? := by simp [E8]
theorem B6G (sz : Nat) (ds : List DV) (k : IntKind) : E8 sz (.list sz ds) (.int k 15) = ds[15]? := by simp [E8]
theorem B7C (a : Array UInt8) (k : IntKind) : Y4 (.str ⟨a⟩) (.int k 0) = (a.toList[0]?).map fun b => .int .u8 b.toNat := by simp [Y4]
theorem B7D (a : Array UInt8) (k : IntKind) : Y4 (.str ⟨a⟩) (.int k 1) = (a.toList[1]?).map fun b => .int .u8 b.toNat := by simp [Y4]
theorem B7E (a : Array UInt8) (k : IntKind) : Y4 (.str ⟨a⟩) (.int k 2) = (a.toList[2]?).map fun b => .int .u8 b.toNat := by simp [Y4]
theorem B7F (a : Array UInt8) (k : IntKind) : Y4 (.str ⟨a⟩) (.int k 3) = (a.toList[3]?).map fun b => .int .u8 b.toNat := by simp [Y4]
theorem B7G (a : Array UInt8) (k : IntKind) : Y4 (.str ⟨a⟩) (.int k 4) = (a.toList[4]?).map fun b => .int .u8 b.toNat := by simp [Y4]
theorem B7H (a : Array UInt8) (k : IntKind) : Y4 (.str ⟨a⟩) (.int k 5) = (a.toList[5]?).map fun b => .int .u8 b.toNat := by simp [Y4]
theorem B7I (a : Array UInt8) (k : IntKind) : Y4 (.str ⟨a⟩) (.int k 6) = (a.toList[6]?).map fun b => .int .u8 b.toNat := by simp [Y4]
theorem B7J (a : Array UInt8) (k : IntKind) : Y4 (.str ⟨a⟩) (.int k 7) = (a.toList[7]?).map fun b => .int .u8 b.toNat := by simp [Y4]
end Go.Su

/-
 The settings of the data machine for this seat: by program.
-/
namespace Go.Su
noncomputable section
open Go.Proofs
def spread {α : Type} (d : α) : Nat → Nat → List (Nat × α) → List α
 | 0, _, _ => []
 | n + 1, i, [] => d :: spread d n (i + 1) []
 | n + 1, i, (j, x) :: l => match Nat.beq i j with
   | true => x :: spread d n (i + 1) l
   | false => d :: spread d n (i + 1) ((j, x) :: l)
def bxs (d : DV) : Nat → Nat → List (DV × Meta)
 | _, 0 => []
 | i, n + 1 => (A7 i d, .val) :: bxs d (i + 1) n
def mst (n : Nat) (a : List (Nat × DV)) (b : List (Nat × Meta)) (c : List (Nat × Option (List (DV × Meta)))) (g : List D7) : St := ⟨spread .undef n 0 a, spread .val n 0 b, spread none n 0 c, g⟩
abbrev zA0 : DV := .agg [(.bool false), (.bool false), (.bool false), (.bool false), (.bool false), (.bool false), (.bool false), (.bool false), (.int .i64 0)]
abbrev zA1 : DV := .agg [(.bool false), (.bool false), (.bool false), (.bool false), (.bool false), (.bool false), (.bool false), (.bool false), (.int .i64 2)]
abbrev zA2 : DV := .agg [(.bool false), (.bool false), (.bool true), (.bool false), (.bool false), (.bool false), (.bool false), (.bool false), (.int .i64 0)]
abbrev zA3 : DV := .agg [(.int .i64 0), (.int .i64 0), (.int .i64 0), (.str ⟨#[]⟩), (.str ⟨#[]⟩), (.int .i64 0), (.str ⟨#[]⟩), (.int .i64 0), (.int .i64 0), (.bool false), (.list 1 []), (.int .i64 0), (.int .i64 0), (.list 3 []), (.int .i64 0), (.int .i64 0), (.list 3 []), (.list 3 []), (.list 7 []), (.list 20 [])]
abbrev zA4 : DV := .agg [(.int .i64 0), (.int .i64 0), (.list 3 []), (.int .i64 0), (.int .i64 0), (.int .i64 0), (.str ⟨#[]⟩), (.str ⟨#[]⟩), (.int .i64 0), (.str ⟨#[]⟩), (.int .i64 0), (.int .i64 0), (.bool false), (.list 1 []), (.int .i64 0), (.int .i64 0), (.list 3 []), (.int .i64 0), (.int .i64 0), (.list 3 []), (.list 3 []), (.list 7 []), (.list 20 [])]
abbrev ed : FuncId := 4
abbrev Wz : FuncId := 5
abbrev Ro : FuncId := 6
abbrev Mx : FuncId := 7
abbrev Wx : FuncId := 8
abbrev TM : FuncId := 9
abbrev JG : FuncId := 12
abbrev NY : FuncId := 13
abbrev Qx : FuncId := 14
abbrev Ww : FuncId := 16
abbrev QQ : FuncId := 17
abbrev XA : FuncId := 18
abbrev XB : FuncId := 19
abbrev nL : FuncId := 20
abbrev ZW : FuncId := 21
abbrev YO : FuncId := 22
abbrev iX : FuncId := 23
abbrev ZR : FuncId := 24
abbrev W_ : FuncId := 25
abbrev Z6 : FuncId := 26
abbrev MX : FuncId := 27
abbrev ZN : FuncId := 28
abbrev aO : FuncId := 29
abbrev aL : FuncId := 30
abbrev TP : FuncId := 32
abbrev ZQ : FuncId := 33
abbrev XE : FuncId := 34
abbrev Vm : FuncId := 35
abbrev iV : FuncId := 36
abbrev BC : FuncId := 37
abbrev IX : FuncId := 39
abbrev uG : FuncId := 40
abbrev Vn : FuncId := 41
abbrev QP : FuncId := 42
abbrev uC : FuncId := 43
abbrev TQ : FuncId := 44
abbrev nM : FuncId := 45
abbrev MZ : FuncId := 46
abbrev iY : FuncId := 47
abbrev IW : FuncId := 48
abbrev Rq : FuncId := 49
abbrev Ah : FuncId := 50
abbrev CW : FuncId := 51
abbrev Ed : FuncId := 52
abbrev LV : FuncId := 53
abbrev IY : FuncId := 54
abbrev Rt : FuncId := 55
abbrev TS : FuncId := 56
abbrev Qw : FuncId := 57
abbrev GR : FuncId := 58
abbrev Al : FuncId := 59
abbrev QT : FuncId := 60
abbrev ZV : FuncId := 61
abbrev fA : FuncId := 62
abbrev ig : FuncId := 63
abbrev AJ : FuncId := 64
abbrev AC : FuncId := 65
abbrev TN : FuncId := 66
abbrev Bc : FuncId := 67
abbrev XG : FuncId := 68
abbrev QU : FuncId := 69
abbrev il : FuncId := 70
abbrev QS : FuncId := 71
abbrev YQ : FuncId := 72
abbrev aR : FuncId := 73
abbrev Ez : FuncId := 74
abbrev Qy : FuncId := 75
abbrev Vo : FuncId := 76
abbrev aQ : FuncId := 78
abbrev ZT : FuncId := 79
abbrev IV : FuncId := 80
abbrev eu : FuncId := 81
abbrev XC : FuncId := 82
abbrev uF : FuncId := 83
abbrev nI : FuncId := 84
abbrev YN : FuncId := 85
abbrev nG : FuncId := 86
abbrev XH : FuncId := 87
abbrev DX : FuncId := 88
abbrev aS : FuncId := 89
abbrev YP : FuncId := 90
abbrev D_ : FuncId := 91
abbrev Oh : FuncId := 92
abbrev iW : FuncId := 93
abbrev ZU : FuncId := 94
abbrev ZO : FuncId := 95
abbrev nN : FuncId := 97
abbrev E_ : FuncId := 98
abbrev aM : FuncId := 99
abbrev Ac : FuncId := 100
abbrev BQ : FuncId := 101
abbrev LU : FuncId := 102
abbrev U7 : FuncId := 103
abbrev TL : FuncId := 104
abbrev O0 : FuncId := 105
abbrev MW : FuncId := 106
abbrev CV : FuncId := 107
abbrev MV : FuncId := 108
abbrev LQ : FuncId := 109
abbrev uH : FuncId := 110
abbrev Bd : FuncId := 111
abbrev aP : FuncId := 112
abbrev F_ : FuncId := 113
abbrev XF : FuncId := 114
abbrev DY : FuncId := 115
abbrev TR : FuncId := 116
abbrev QO : FuncId := 117
abbrev nH : FuncId := 118
abbrev uE : FuncId := 119
abbrev XD : FuncId := 120
abbrev uD : FuncId := 121
abbrev Wy : FuncId := 122
abbrev ZP : FuncId := 123
abbrev Oi : FuncId := 126
abbrev QV : FuncId := 127
abbrev Ma : FuncId := 128
abbrev Qz : FuncId := 129
abbrev M_ : FuncId := 130
abbrev XI : FuncId := 131
abbrev aN : FuncId := 132
abbrev GA : FuncId := 133
abbrev Z5 : FuncId := 134
abbrev TU : FuncId := 135
abbrev Oj : FuncId := 136
abbrev YM : FuncId := 137
abbrev GQ : FuncId := 138
abbrev Mq : FuncId := 139
abbrev Mr : FuncId := 140
abbrev Ms : FuncId := 141
abbrev Jr : FuncId := 142
abbrev QR : FuncId := 143
abbrev nJ : FuncId := 144
abbrev nK : FuncId := 145
abbrev ic : FuncId := 146
abbrev nO : FuncId := 147
abbrev aU : FuncId := 148
abbrev Na : FuncId := 149
abbrev YR : FuncId := 151
abbrev iq : FuncId := 152
abbrev aT : FuncId := 153
abbrev IB : FuncId := 154
abbrev MF : FuncId := 155
abbrev ZX : FuncId := 156
abbrev Og : FuncId := 157
abbrev iZ : FuncId := 158
abbrev NZ : FuncId := 161
abbrev QN : FuncId := 162
abbrev ib : FuncId := 163
def zb : Flags := {}
def Ls : Flags := { keep := [(6, [7, 8, 10], [7], [], [7, 8, 10]), (7, [2, 3, 5, 6, 7, 8, 9, 10], [2, 3, 5, 6, 7, 9], [], [2, 3, 5, 6, 7, 8, 9, 10])] }
def b_ : Flags := { keep := [(5, [0, 3, 4], [], [], [0, 3, 4])] }
def ZH : Flags := {}
def dD : Flags := { shared := [10] }
def Uq : Flags := { M0 := [25, 43], keep := [(4, [1, 2, 3, 4], [1, 2, 3], [3], [1, 2, 4]), (8, [1, 2, 3, 5], [1, 2, 3], [3], [1, 2, 5])] }
def Yg : Flags := { M0 := [21], keep := [(3, [1, 2, 3, 4], [1, 2, 3], [3], [1, 2, 4])] }
def A32 : Flags := {}
def A6s : Flags := { shared := [18] }
def bZ : Flags := { keep := [(4, [2, 3, 5], [2, 3], [], [2, 3, 5])] }
def Re : Flags := { keep := [(4, [2, 3, 5], [2, 3], [], [2, 3, 5]), (9, [2, 3, 6], [2, 3], [], [2, 3, 6])] }
def WV : Flags := { keep := [(4, [2, 3, 5], [2, 3], [], [2, 3, 5])] }
def A6r : Flags := { keep := [(5, [3, 4, 6], [3], [], [3, 4, 6])] }
def xH : Flags := {}
def Uv : Flags := { keep := [(4, [1, 3], [1], [], [1, 3]), (9, [1, 4], [1], [], [1, 4])] }
def OD : Flags := { keep := [(2, [1, 3], [1], [], [1, 3]), (7, [1, 4], [1], [], [1, 4]), (12, [1, 5], [1], [], [1, 5])] }
def cB : Flags := { keep := [(4, [2, 3, 4, 5, 6], [2, 4, 6], [], [2, 3, 4, 5, 6])] }
def A1m : Flags := { shared := [13, 30] }
def jU : Flags := { keep := [(4, [2, 3, 5], [2, 3], [], [2, 3, 5])] }
def WW : Flags := { keep := [(4, [0, 1, 5], [], [], [0, 1, 5])] }
def bu : Flags := { keep := [(3, [0, 3, 4], [], [], [0, 3, 4])] }
def jQ : Flags := { keep := [(3, [1, 3, 4], [1], [], [1, 3, 4])] }
def Ut : Flags := { keep := [(3, [1, 2, 5], [2], [], [1, 2, 5]), (9, [1, 2, 6], [2], [], [1, 2, 6])] }
def HY : Flags := { keep := [(7, [0, 3, 5, 6, 9, 10, 11], [5, 6], [], [0, 3, 5, 6, 9, 10, 11]), (10, [0, 3, 5, 6, 9, 10], [5, 6], [], [0, 3, 5, 6, 9, 10]), (26, [0, 3, 5, 6, 85], [5, 6], [], [0, 3, 5, 6, 85])] }
def ER : AB := { params := [.val, .val, .val, .val], results := [.val] }
def bg : Flags := { M0 := [18], keep := [(3, [1, 2, 3, 4], [1, 2, 3], [3], [1, 2, 4])] }
def jM : Flags := { M0 := [15], keep := [(4, [1, 2, 3, 4], [1, 2, 3], [3], [1, 2, 4])] }
def Yh : Flags := { M0 := [2, 3, 11, 19], keep := [(3, [0, 3, 4], [], [3], [0, 4])] }
def sS : Flags := { shared := [25] }
def zf : Flags := { keep := [(2, [1, 3], [1], [], [1, 3]), (7, [1, 4], [1], [], [1, 4]), (12, [1, 5], [1], [], [1, 5])] }
def Rf : Flags := { M0 := [79, 102, 117, 147], keep := [(14, [6, 10, 12], [6, 10, 12], [], [6, 10, 12]), (21, [0, 3, 4, 6, 7, 10, 11, 12, 29], [6, 7, 10, 12], [12], [0, 3, 4, 6, 7, 10, 11, 29])] }
def Kz : AB := { params := [.val, .val, .val, .val, .val], results := [.val] }
def Qm : Flags := { keep := [(3, [2, 3], [2, 3], [], [2, 3]), (6, [2, 3, 5], [2, 3], [], [2, 3, 5]), (11, [2, 3, 6], [2, 3], [], [2, 3, 6])] }
def cu : Flags := { keep := [(4, [2, 3, 5], [2, 3], [], [2, 3, 5])] }
def Ur : Flags := { keep := [(4, [0, 1, 5], [], [], [0, 1, 5])] }
def bY : Flags := { keep := [(4, [0, 1, 5], [], [], [0, 1, 5])] }
def A1d : Flags := {}
def A6p : Flags := {}
def A23 : Flags := {}
def Ze : Flags := { keep := [(4, [1, 3], [1, 3], [], [1, 3]), (6, [1], [1], [], [1])] }
def Uw : Flags := { keep := [(5, [3, 4], [], [], [3, 4])] }
def cK : Flags := { keep := [(4, [1, 3], [1], [], [1, 3])] }
def sQ : Flags := {}
def Rh : Flags := { M0 := [9, 68, 195], keep := [(3, [0, 5, 6, 7, 8, 9, 10], [5, 6, 7, 8], [9], [0, 5, 6, 7, 8, 10]), (17, [5, 8, 13], [5, 8, 13], [], [5, 8, 13])] }
def K_ : AB := { params := [.val, .val, .val, .val], results := [.val] }
def Qn : Flags := { keep := [(3, [2, 3], [2, 3], [], [2, 3]), (6, [2, 3, 5], [2, 3], [], [2, 3, 5]), (11, [2, 3, 6], [2, 3], [], [2, 3, 6])] }
def Kb : Flags := { keep := [(5, [1, 2, 5], [2], [], [1, 2, 5]), (8, [1, 2], [2], [], [1, 2]), (9, [1, 2, 6], [2], [], [1, 2, 6]), (12, [1, 2], [2], [], [1, 2])] }
def bz : Flags := { keep := [(2, [0, 3], [], [], [0, 3])] }
def jP : Flags := { keep := [(3, [1, 3, 4], [1], [], [1, 3, 4])] }
def Jl : Flags := { keep := [(3, [0, 1, 2, 3, 9, 10], [], [], [0, 1, 2, 3, 9, 10]), (7, [0, 1, 2, 9, 11], [], [], [0, 1, 2, 9, 11])] }
def FU : AB := { params := [.val, .val, .val, .val], results := [.val] }
def l_ : Flags := {}
def VQ : AB := { params := [.val, .val], results := [.val] }
def ZI : Flags := {}
def OW : AB := { params := [.val, .val], results := [.val] }
def gW : Flags := {}
def SY : AB := { params := [.val, .val, .val], results := [.val] }
def A1l : Flags := { M0 := [6] }
def dC : Flags := {}
def QL : AB := { params := [.val, .val], results := [.val] }
def Jm : Flags := { keep := [(3, [0, 3, 5, 6, 9], [5, 6], [], [0, 3, 5, 6, 9]), (8, [0, 3, 5, 6, 9, 10, 11, 12], [5, 6], [], [0, 3, 5, 6, 9, 10, 11, 12])] }
def FV : AB := { params := [.val, .val, .val, .val], results := [.val] }
def MR : Flags := { shared := [1, 2], keep := [(2, [2, 6], [], [], [2, 6])] }
def Ka : Flags := { keep := [(2, [1, 10, 11, 12], [1], [], [1, 10, 11, 12]), (8, [1, 21, 22, 23], [1], [], [1, 21, 22, 23]), (14, [35, 36, 37], [], [], [35, 36, 37])] }
def Fu : Flags := { keep := [(4, [0, 3, 5, 6, 8, 9, 10], [5, 6, 8, 9], [], [0, 3, 5, 6, 8, 9, 10]), (26, [0, 3, 5, 6, 8, 47], [5, 6, 8], [], [0, 3, 5, 6, 8, 47])] }
def DU : AB := { params := [.val, .val, .val, .val], results := [.val] }
def Vf : Flags := {}
def MC : AB := { params := [.val], results := [.val] }
def EC : Flags := { M0 := [14, 86], keep := [(8, [0, 4, 6, 7, 11, 12], [6, 7], [], [0, 4, 6, 7, 11, 12]), (11, [0, 4, 7], [7], [], [0, 4, 7]), (13, [0, 7, 14, 15], [7], [14], [0, 7, 15]), (17, [0, 7, 14, 15], [7], [14], [0, 7, 15]), (19, [0, 7, 14, 16], [7], [], [0, 7, 14, 16]), (23, [0, 7, 14, 16], [7], [], [0, 7, 14, 16]), (25, [0, 7, 14, 16, 17, 18], [7], [], [0, 7, 14, 16, 17, 18])] }
def Cg : AB := { params := [.val, .val, .val, .val, .val], results := [.val] }
def jT : Flags := { keep := [(2, [0, 1, 5], [], [], [0, 1, 5])] }
def Zg : Flags := { M0 := [42], keep := [(3, [1, 2, 4, 5], [2, 4], [], [1, 2, 4, 5]), (10, [1, 2, 4, 6, 7], [2, 4, 6], [6], [1, 2, 4, 7])] }
def dB : Flags := { M0 := [4, 5, 13, 25], keep := [(3, [0, 1, 5, 6], [], [5], [0, 1, 6])] }
def xR : Flags := { M0 := [13, 20, 22, 40] }
def Yr : AB := { params := [.val, .val, .val, .val, .val, .val, (.T_ 4 [3])], results := [(.T_ 4 [3])] }
def A1k : Flags := {}
def A1e : Flags := {}
def sW : Flags := {}
def Wu : AB := { params := [.val, .val, .val], results := [] }
def xS : Flags := {}
def xU : Flags := { M0 := [6] }
def xQ : Flags := { M0 := [25] }
def Yq : AB := { params := [.val, .val, .val, .val, .val], results := [.val] }
def OE : Flags := { M0 := [102], keep := [(9, [0, 3, 4, 5, 7, 8, 12, 13, 15, 16], [7, 8, 12, 13, 15, 16], [], [0, 3, 4, 5, 7, 8, 12, 13, 15, 16]), (11, [0, 3, 4, 5, 7, 8, 12, 13, 14, 15], [7, 8, 12, 13, 15], [], [0, 3, 4, 5, 7, 8, 12, 13, 14, 15]), (18, [0, 3, 4, 7, 8, 12, 13, 17], [7, 8, 12, 13, 17], [17], [0, 3, 4, 7, 8, 12, 13])] }
def IR : AB := { params := [.val, .val, .val, .val, .val, .val], results := [.val] }
def Kc : Flags := { M0 := [13, 15, 46, 57, 72, 91, 93], keep := [(4, [0, 3, 4, 6, 7, 10, 11, 12], [6, 7, 10, 11], [11], [0, 3, 4, 6, 7, 10, 12]), (9, [0, 3, 4, 6, 7, 10, 11, 12, 13], [6, 7, 10, 11], [11], [0, 3, 4, 6, 7, 10, 12, 13]), (11, [0, 3, 4, 6, 7, 10, 11, 12, 13, 15, 16], [6, 7, 10, 11], [11, 15], [0, 3, 4, 6, 7, 10, 12, 13, 16])] }
def Fz : AB := { params := [.val, .val, .val, .val, .val], results := [.val] }
def IP : Flags := { M0 := [65], keep := [(6, [0, 3, 4, 6, 7, 10, 11, 12], [6, 7, 10, 11], [11], [0, 3, 4, 6, 7, 10, 12]), (11, [0, 3, 4, 6, 7, 10, 11, 13], [6, 7, 10, 11, 13], [11], [0, 3, 4, 6, 7, 10, 13]), (14, [0, 3, 4, 6, 7, 10, 11, 12], [6, 7, 10, 11], [11], [0, 3, 4, 6, 7, 10, 12]), (15, [0, 3, 4, 6, 7, 10, 11, 12, 14], [6, 7, 10, 11], [11], [0, 3, 4, 6, 7, 10, 12, 14])] }
def Es : AB := { params := [.val, .val, .val, .val, .val], results := [.val] }
def jO : Flags := { keep := [(4, [2, 3, 5], [2, 3], [], [2, 3, 5])] }
def WZ : Flags := { keep := [(4, [2, 3, 5], [2, 3], [], [2, 3, 5])] }
def Ux : Flags := { keep := [(5, [1, 2, 4, 6, 16, 17, 18], [2, 4], [], [1, 2, 4, 6, 16, 17, 18])] }
def A6q : Flags := { M0 := [36, 60], keep := [(3, [1, 2, 4, 6, 19, 20, 21], [2, 4, 6], [6], [1, 2, 4, 19, 20, 21]), (11, [1, 4, 6, 43, 44, 45], [4, 6], [6], [1, 4, 43, 44, 45])] }
def Yi : Flags := { keep := [(20, [1, 2, 4], [1, 2, 4], [], [1, 2, 4])] }
def A1h : Flags := {}
def jN : Flags := { keep := [(4, [0, 3], [], [], [0, 3])] }
def Zf : Flags := { keep := [(25, [1, 3, 4], [1, 4], [], [1, 3, 4]), (28, [1, 3, 5], [1], [], [1, 3, 5])] }
def xP : Flags := { M0 := [2] }
def nz : Flags := { keep := [(2, [0, 1, 5], [], [], [0, 1, 5])] }
def A1c : Flags := {}
def PT : Flags := { keep := [(2, [1, 2, 9, 10, 11], [2], [], [1, 2, 9, 10, 11]), (7, [1, 21, 22, 23], [], [], [1, 21, 22, 23])] }
def JF : AB := { params := [.val, .val], results := [] }
def XR : Flags := { M0 := [21, 37], keep := [(3, [1, 2, 4, 5, 14, 15, 16], [2, 4, 5], [5], [1, 2, 4, 14, 15, 16]), (8, [1, 4, 5, 30, 31, 32], [4, 5], [5], [1, 4, 30, 31, 32])] }
def OU : AB := { params := [.val, .val], results := [.val] }
def dE : Flags := { M0 := [6, 9, 93, 100], keep := [(21, [3, 4, 9, 10], [3, 4], [9], [3, 4, 10])] }
def A1f : Flags := {}
def sZ : Flags := { M0 := [15] }
def Wv : AB := { params := [.val, .val, .val, .val, .val], results := [.val] }
def WX : Flags := { keep := [(4, [0, 1, 5], [], [], [0, 1, 5])] }
def SQ : Flags := { keep := [(2, [1, 2, 5], [2], [], [1, 2, 5])] }
def Us : Flags := { keep := [(4, [1, 2, 5], [2], [], [1, 2, 5])] }
def bn : Flags := { keep := [(3, [0, 3, 4], [], [], [0, 3, 4])] }
def jR : Flags := { keep := [(4, [1, 2, 5], [2], [], [1, 2, 5])] }
def A1g : Flags := { M0 := [2] }
def DL : Flags := { keep := [(4, [1, 3], [1, 3], [], [1, 3]), (6, [1, 3], [1, 3], [], [1, 3]), (8, [1, 3], [1, 3], [], [1, 3]), (10, [1, 3], [1, 3], [], [1, 3]), (12, [1, 3], [1, 3], [], [1, 3]), (14, [1, 3], [1, 3], [], [1, 3]), (16, [1, 3], [1, 3], [], [1, 3]), (18, [1], [1], [], [1]), (19, [176, 177, 178], [], [], [176, 177, 178])] }
def xW : Flags := {}
def Yf : Flags := { keep := [(2, [0, 1, 4, 6], [4], [], [0, 1, 4, 6])] }
def Ql : Flags := {}
def IK : AB := { params := [.val, .val], results := [] }
def M5 : Flags := { keep := [(4, [0, 5, 6], [5, 6], [], [0, 5, 6]), (5, [0, 5, 6, 48, 49, 50], [5, 6], [], [0, 5, 6, 48, 49, 50]), (11, [0, 6], [6], [], [0, 6]), (13, [0, 6], [6], [], [0, 6]), (14, [0, 82, 83, 84], [], [], [0, 82, 83, 84]), (19, [0, 82, 83, 84, 98, 99, 100], [], [], [0, 82, 83, 84, 98, 99, 100])] }
def L9 : AB := { params := [.val, .val, .val, .val], results := [.val] }
def KZ : Flags := { M0 := [10, 27, 40], keep := [(5, [5, 6, 8, 9, 10, 20, 21, 22], [5, 6, 8, 9], [10], [5, 6, 8, 9, 20, 21, 22])] }
def FM : AB := { params := [.val, .val, .val, .val], results := [.val] }
def Uo : Flags := {}
def Ky : AB := { params := [.val, .val, .val, .val, .val], results := [.val] }
def sU : Flags := {}
def KX : Flags := { keep := [(4, [0, 3, 7, 11, 12, 13], [7, 11, 12, 13], [], [0, 3, 7, 11, 12, 13])] }
def FK : AB := { params := [.val, .val, .val, .val, .val, .val], results := [.val] }
def xJ : Flags := {}
def sV : Flags := { M0 := [4] }
def Wt : AB := { params := [.val, .val], results := [.own] }
def xI : Flags := {}
def KY : Flags := { keep := [(25, [0, 3, 5, 6, 8, 13, 14], [5, 6, 8, 13, 14], [], [0, 3, 5, 6, 8, 13, 14])] }
def FL : AB := { params := [.val, .val, .val, .val], results := [.val] }
def Zh : Flags := { keep := [(4, [1, 4, 5], [1], [], [1, 4, 5]), (6, [1, 4, 5], [1], [], [1, 4, 5])] }
def mD : Flags := {}
def VS : AB := { params := [.val, .val], results := [] }
def xO : Flags := { keep := [(2, [0, 1, 5], [], [], [0, 1, 5])] }
def WY : Flags := { keep := [(4, [1, 2, 5], [2], [], [1, 2, 5])] }
def cz : Flags := { keep := [(10, [2, 3, 5], [2, 3], [], [2, 3, 5])] }
def jS : Flags := { M0 := [2, 6, 8, 15, 18, 30, 43, 44, 53, 55, 59, 68, 70, 74, 81, 82, 91, 93, 97, 103, 105], keep := [(10, [2, 3, 4], [3, 4], [2], [3, 4])] }
def VR : AB := { params := [.val, .val, .own], results := [.own, .val] }
def Yj : Flags := { M0 := [45], keep := [(10, [1, 2, 6, 9, 38, 39, 40], [6, 9], [9], [1, 2, 6, 38, 39, 40])] }
def Pf : AB := { params := [.val, .val, .val], results := [.val] }
def xN : Flags := {}
def A1b : Flags := {}
def Zd : Flags := { keep := [(2, [0, 3], [], [], [0, 3]), (8, [0, 4, 5], [], [], [0, 4, 5])] }
def cZ : Flags := { M0 := [1, 4, 9, 26, 28], keep := [(4, [1, 2, 5], [2], [1], [2, 5])] }
def Rk : AB := { params := [.val, .own], results := [.own] }
def Rc : Flags := { M0 := [37], keep := [(3, [1, 2, 4], [2, 4], [], [1, 2, 4]), (7, [1, 4, 5, 30, 31, 32], [4, 5], [5], [1, 4, 30, 31, 32])] }
def Kv : AB := { params := [.val, .val], results := [.val] }
def bq : Flags := { keep := [(3, [1, 2, 5], [2], [], [1, 2, 5])] }
def XT : Flags := { M0 := [1, 4, 16, 33, 35], keep := [(3, [1, 2], [2], [1], [2]), (4, [1, 2, 5], [2], [1], [2, 5])] }
def OV : AB := { params := [.val, .own], results := [.own] }
def gX : Flags := {}
def dG : Flags := { keep := [(4, [0, 3], [], [], [0, 3])] }
def xV : Flags := {}
def mE : Flags := {}
def Ei : Flags := { shared := [1, 2, 3], keep := [(3, [2, 3, 8], [], [], [2, 3, 8]), (6, [3, 4], [4], [], [3, 4])] }
def dF : Flags := { keep := [(9, [33, 34, 35], [], [], [33, 34, 35])] }
def MQ : Flags := { keep := [(14, [2, 4], [2], [], [2, 4]), (16, [2, 4], [2], [], [2, 4]), (18, [2, 4], [2], [], [2, 4])] }
def LJ : Flags := {}
def JO : Flags := { keep := [(1, [0, 2, 8, 9, 10], [], [], [0, 2, 8, 9, 10])] }
def Ea : AB := { params := [.val, .val, .val], results := [] }
def tF : Flags := {}
def A1n : Flags := { M0 := [2] }
def lw : Flags := {}
def KW : Flags := { M0 := [31], keep := [(5, [0, 5, 6, 7, 8, 9], [5, 6, 7, 8], [], [0, 5, 6, 7, 8, 9])] }
def FJ : AB := { params := [.val, .val, .val, .val], results := [.val] }
def Un : Flags := {}
def Kw : AB := { params := [.val, .val, .val, .val], results := [.val] }
def Lp : Flags := { keep := [(9, [0, 3, 5, 6, 8, 9, 10], [5, 6, 8, 9, 10], [], [0, 3, 5, 6, 8, 9, 10])] }
def Fx : AB := { params := [.val, .val, .val, .val], results := [.val] }
def Lr : Flags := { keep := [(5, [0, 3, 5, 6, 8, 9, 10], [5, 6, 8, 9], [], [0, 3, 5, 6, 8, 9, 10])] }
def Fy : AB := { params := [.val, .val, .val, .val], results := [.val] }
def FF : Flags := { M0 := [11, 16, 66, 75, 81, 92], keep := [(4, [0, 3, 5, 6, 8, 9, 10, 11, 35, 36, 37], [5, 6, 8, 9, 10], [11], [0, 3, 5, 6, 8, 9, 10, 35, 36, 37]), (14, [0, 3, 5, 6, 8, 9, 10, 11, 12, 16, 35, 36, 37, 60, 61, 62], [5, 6, 8, 9, 10], [11, 16], [0, 3, 5, 6, 8, 9, 10, 12, 35, 36, 37, 60, 61, 62])] }
def Cq : AB := { params := [.val, .val, .val, .val], results := [.val] }
def cO : Flags := { keep := [(12, [1], [1], [], [1])] }
def A1i : Flags := {}
def A1j : Flags := {}
def xM : Flags := {}
def A1o : Flags := {}
def tH : Flags := {}
def tC : Flags := {}
def Wd : Flags := { keep := [(24, [1, 3, 4], [1, 3], [], [1, 3, 4])] }
def xX : Flags := {}
def su : Flags := {}
def HZ : Flags := { keep := [(2, [0, 1, 7, 8], [], [], [0, 1, 7, 8])] }
def We : Flags := { keep := [(4, [1, 12, 13, 14], [], [], [1, 12, 13, 14])] }
def XU : Flags := { M0 := [2, 6, 17, 36, 39], keep := [(5, [1, 2, 3], [3], [2], [1, 3]), (6, [1, 2, 28, 29, 30], [], [2], [1, 28, 29, 30])] }
def OX : AB := { params := [.val, .val, .own], results := [.own] }
def Um : Flags := { keep := [(8, [3, 33, 34, 35], [3], [], [3, 33, 34, 35])] }
def xK : Flags := { M0 := [4, 6, 16, 20, 24] }
def Yk : Flags := { keep := [(12, [1], [1], [], [1])] }
def Uu : Flags := { M0 := [2, 6, 14, 23, 26, 59, 65, 67, 72], keep := [(16, [2, 3, 8], [3], [2], [3, 8]), (17, [2, 8, 52, 53, 54], [], [2], [8, 52, 53, 54])] }
def MU : AB := { params := [.val, .val, .own], results := [.own, .val] }
def xL : Flags := {}
def flL : List Flags := [{}, {}, {}, zb, Ls, b_, ZH, dD, Uq, Yg, A32, A6s, bZ, Re, WV, A6r, xH, Uv, OD, cB, A1m, jU, WW, bu, jQ, Ut, HY, bg, jM, Yh, sS, zf, Rf, Qm, cu, Ur, bY, A1d, A6p, A23, Ze, Uw, cK, sQ, Rh, Qn, Kb, bz, jP, Jl, l_, ZI, gW, A1l, dC, Jm, MR, Ka, Fu, Vf, EC, jT, Zg, dB, xR, A1k, A1e, sW, xS, xU, xQ, OE, Kc, IP, jO, WZ, Ux, A6q, Yi, A1h, jN, Zf, xP, nz, A1c, PT, XR, dE, A1f, sZ, WX, SQ, Us, bn, jR, A1g, {}, DL, xW, Yf, Ql, M5, KZ, Uo, sU, KX, xJ, sV, xI, KY, Zh, mD, xO, WY, cz, jS, Yj, xN, A1b, Zd, cZ, Rc, bq, XT, {}, {}, gX, dG, xV, mE, Ei, dF, MQ, LJ, JO, tF, A1n, lw, KW, Un, Lp, Lr, FF, cO, A1i, A1j, xM, A1o, tH, tC, {}, Wd, xX, su, HZ, We, XU, Um, xK, {}, {}, Yk, Uu, xL, {}, {}, {}, {}, {}, {}, {}, {}, {}, {}, {}, {}, {}, {}, {}, {}, {}]
def B8j : List (Option AB) := List.replicate 26 (none : Option AB) ++ [some ER, none, none, none, none, none, some Kz] ++ List.replicate 11 (none : Option AB) ++ [some K_, none, none, none, none, some FU, some VQ, some OW, some SY, none, some QL, some FV, none, none, some DU, some MC, some Cg, none, none, none, some Yr, none, none, some Wu, none, none, some Yq, some IR, some Fz, some Es] ++ List.replicate 11 (none : Option AB) ++ [some JF, some OU, none, none, some Wv] ++ List.replicate 10 (none : Option AB) ++ [some IK, some L9, some FM, some Ky, none, some FK, none, some Wt, none, some FL, none, some VS, none, none, none, some VR, some Pf, none, none, none, some Rk, some Kv, none, some OV] ++ List.replicate 10 (none : Option AB) ++ [some Ea, none, none, none, some FJ, some Kw, some Fx, some Fy, some Cq] ++ List.replicate 13 (none : Option AB) ++ [some OX, none, none, none, none, none, some MU] ++ List.replicate 17 (none : Option AB) ++ [none]
def clL : List FuncId := []
def csL : List (FuncId × Nat) := [(96, 16), (150, 7)]
def mkL : List (FuncId × FuncId) := [(96, 124), (150, 159)]
def itF (f : FuncId) : Option (List DV → Option (List DV)) := if f = 124 then some (Jn 16 15) else if f = 159 then some (Jn 7 6) else none
def Y5 : Code := Tryz.f101.body.getD .skip
def I8 : aK where
 pre := A84 4 Y5
 r := (sub [true, true, true, true, false, false] Y5 []).1
 c := .tmp 73
 a := (sub [true, true, true, true, false, true, false, false] Y5 []).1
 id := 12
 ops := (B6g Y5 [true, true, true, true, false, true, false, true]).take 3
 Xl := ((B6g Y5 [true, true, true, true, false, true, false, true])[3]?).getD default
 post := A8G 5 Y5
def dcL : List (FuncId × aK) := [(101, I8)]
def dfL : List FuncId := [134]
def B8h : List TypeId := []
def B7a : List (FuncId × Cut) := []
def cfg : X5 where
 P := Tryz.prog
 fl f := flL.getD f {}
 sig f := B8j.getD f none
 jg f := B7a.lookup f
 clone f := clL.contains f
 qH f := (csL.lookup f).getD 0
 iD f := mkL.lookup f
 iter f := itF f
 ref t := B8h.contains t
 YW f := dcL.lookup f
 dfn f := dfL.contains f
def zb0 : List (DV × Meta) := [((.int .i64 0), .val), ((.int .i64 0), .val), ((.int .i64 0), .val), ((.str ⟨#[]⟩), .val), ((.str ⟨#[]⟩), .val), ((.int .i64 0), .val), ((.str ⟨#[]⟩), .val), ((.int .i64 0), .val), ((.int .i64 0), .val), ((.bool false), .val), ((.list 1 []), .val), ((.int .i64 0), .val), ((.int .i64 0), .val), ((.list 3 []), .val), ((.int .i64 0), .val), ((.int .i64 0), .val), ((.list 3 []), .val), ((.list 3 []), .val), ((.list 7 []), .val), ((.list 20 []), .val)]
def zb1 : List (DV × Meta) := [((.int .i64 0), .val), ((.int .i64 0), .val), ((.int .i64 0), .val), ((.str ⟨#[]⟩), .val), ((.str ⟨#[]⟩), .val), ((.int .i64 0), .val), ((.str ⟨#[]⟩), .val), ((.int .i64 0), .val), ((.int .i64 0), .val), ((.int .i64 0), .val), ((.list 3 []), .val), ((.int .i64 0), .val), ((.int .i64 0), .val), ((.list 3 []), .val), ((.list 7 []), .val), ((.list 16 []), .val)]
def zb2 : List (DV × Meta) := [((.int .i64 0), .val), ((.int .i64 0), .val), ((.list 3 []), .val), ((.int .i64 0), .val), ((.int .i64 0), .val), ((.int .i64 0), .val), ((.str ⟨#[]⟩), .val), ((.str ⟨#[]⟩), .val), ((.int .i64 0), .val), ((.str ⟨#[]⟩), .val), ((.int .i64 0), .val), ((.int .i64 0), .val), ((.bool false), .val), ((.list 1 []), .val), ((.int .i64 0), .val), ((.int .i64 0), .val), ((.list 3 []), .val), ((.int .i64 0), .val), ((.int .i64 0), .val), ((.list 3 []), .val), ((.list 3 []), .val), ((.list 7 []), .val), ((.list 20 []), .val)]
def zb3 : List (DV × Meta) := [((.int .i64 0), .val), ((.int .i64 0), .val), ((.list 3 []), .val), ((.list 4 []), .val)]
def zb4 : List (DV × Meta) := [((.int .i64 0), .val), ((.int .i64 0), .val), ((.list 3 []), .val)]
def zb5 : List (DV × Meta) := [((.list 3 []), .val), ((.list 1 []), .val), ((.list 3 []), .val)]
def hP (fn : Func) (fl : Flags) (R : N7) (l : List Bool) (s : St) := Zk cfg R fl (Wp cfg.P fn) l (fn.body.getD .skip) s
def eP (fn : Func) (fl : Flags) (R : N7) (l : List Bool) (s : St) := Iy cfg R fl (Wp cfg.P fn) l (fn.body.getD .skip) s
theorem B8D {f : FuncId} {fn : Func} {ds : List DV} {X : Option DV} {d : DV} (hf : cfg.P.funcs[f]? = some fn) (hp : cfg.jg f = none) (hb : fn.body = some (fn.body.getD .skip)) (hX : Iy cfg (run cfg) (cfg.fl f) (Wp cfg.P fn) [] (fn.body.getD .skip) (F5 fn (ds.map fun d => (d, .val)) []) = X) (h : X = some d) : (run cfg).p f ds = some d := (A6o hp hf hb).trans (hX.trans h)
def pbA : Nat → Nat → List Bool → List Bool
  | 0, _, a => a
  | k + 1, n, a => match Nat.ble n 1 with
    | true => a
    | false => pbA k (n / 2) (Nat.beq (n % 2) 1 :: a)
def pb (n : Nat) : List Bool := pbA 300 n []
def mrg : Nat → List (Nat × Meta) → List Nat → List (Nat × Meta)
  | 0, _, _ => []
  | _ + 1, l, [] => l
  | k + 1, [], j :: b => (j, .loc j 0) :: mrg k [] b
  | k + 1, (i, m) :: l, j :: b => match Nat.ble i j with
    | true => (i, m) :: mrg k l (j :: b)
    | false => (j, .loc j 0) :: mrg k ((i, m) :: l) b
def ms (n : Nat) (a : List (Nat × DV)) (b : List (Nat × Meta)) (c : List (Nat × Option (List (DV × Meta)))) (g : List D7) : St := mst n a (mrg 300 b (c.map Prod.fst)) c g
def bx (d : DV) (n : Nat) := some (bxs d 0 n)
def bv (l : List DV) : Option (List (DV × Meta)) := some (l.map fun d => (d, .val))
def hR (fn : Func) (g : AB) (fl : Flags) (R : N7) (l : List Bool) (s : St) := Zk cfg R fl (Ba cfg.P fn g) l (fn.body.getD .skip) s
def eR (fn : Func) (g : AB) (fl : Flags) (R : N7) (l : List Bool) (s : St) := Iy cfg R fl (Ba cfg.P fn g) l (fn.body.getD .skip) s
theorem Dl {f : FuncId} {fn : Func} {s : AB} {rs : List (DV × Meta)} {sg : List D7} {q : Option (List DV × List D7)} (hf : cfg.P.funcs[f]? = some fn) (hs : cfg.sig f = some s := by kernel_rfl) (hb : fn.body = some (fn.body.getD .skip) := by kernel_rfl) (hp : cfg.YW f = none := by kernel_rfl) (h : Iy cfg (run cfg) (cfg.fl f) (Ba cfg.P fn s) [] (fn.body.getD .skip) (F5 fn rs sg) = q := by kernel_rfl) : (run cfg).r f rs sg = q := (B3Z hs hf hb hp).trans h
theorem P9 {f : FuncId} {fn : Func} {ds : List DV} {q : Option DV} (hf : cfg.P.funcs[f]? = some fn) (hp : cfg.jg f = none := by kernel_rfl) (hb : fn.body = some (fn.body.getD .skip) := by kernel_rfl) (h : Iy cfg (run cfg) (cfg.fl f) (Wp cfg.P fn) [] (fn.body.getD .skip) (F5 fn (ds.map fun d => (d, .val)) []) = q := by kernel_rfl) : (run cfg).p f ds = q := (A6o hp hf hb).trans h
end
end Go.Su

/-
 The program's iterators keep their word: by program.
-/
namespace Go.Su
open Go.Proofs Go.RowKit Go.Shelf
attribute [local go_sem] Oper.semAt_some
theorem B1u {F : Fence} (hd : F.depth = none) (k : Nat) : F.room k := fun d h => by rw [hd] at h; cases h
theorem RoundIn.B4X {F : Fence} (hd : F.depth = none) {m m' : Nat} {P : Program} {l : Nat} {f : FuncId} {tmps : Array Value} {assign body : Code} {w : World} {R : Ending → World → Prop}
 (h : RoundIn F m P l f tmps assign body w R) : RoundIn F m' P l f tmps assign body w R := ⟨h.1, fun c cs _ => h.2 c cs (B1u hd _)⟩
set_option maxHeartbeats 1000000 in
theorem B4e : A85 Tryz.prog 150 159 7 := by
 intro w vs hs;obtain ⟨l⟩ := vs
 match l, hs with
 | [v0, v1, v2, v3, v4, v5, v6], _ =>
 refine (callsIn_wide (n := 1)).1 (callsIn_of_wp Tryz.func150 rfl trivial ?_);simp only [Tryz.ntmps150, z12q, z6q, z10q, Nat.reduceAdd, Nat.reduceSub, z7q, z8q, z13q, z9q, z16q, z14q]
 gi_wp2
 go_ret
 exact ⟨rfl, _, rfl⟩
set_option maxRecDepth 10000 in
set_option maxHeartbeats 4000000 in
theorem B35 (l n0 : Nat) (ds : List DV) (J : Nat → Env → World → Prop) (Jx : World → Prop) (n : Nat)
 (hf : ∀ k E' W', J k E' W' → ∀ b o, W'.heap.size ≤ b → E'.O b o = .other)
 (hI : ∀ k E' W1 W2, J k E' W1 → Nb n0 E' W1 W2 → J k E' W2)
 (hY : ∀ k E' W1 d v, J k E' W1 → ds[k]? = some d → RV E'.S W1.heap d v → YieldAt Fence.wide n Tryz.prog l #[v] W1 fun e W2 =>
   (e = .returned (.bool true) ∧ ∃ E2, J (k + 1) E2 W2 ∧ Pr J8 E' W1.heap E2 W2.heap) ∨ (e = .returned (.bool false) ∧ Jx W2)) :
 ∀ (m : Nat) (d : DV) (sub : List DV), Y2 7 6 m d = some sub → ∀ (k : Nat) (E : Env) (W : World) (v : Value), J k E W → RV E.S W.heap d v → (∀ j x, sub[j]? = some x → ds[k + j]? = some x) → n0 ≤ W.heap.size →
   CallsIn Fence.wide n Tryz.prog 160 #[v, .func (.yield l) #[] #[]] W fun e W' => (e = .returned (.bool true) ∧ ∃ E', J (k + sub.length) E' W' ∧ NA E W E' W') ∨ (e = .returned (.bool false) ∧ Jx W') := by
 intro m
 induction m with
 | zero => intro d sub h; simp [Y2] at h
 | succ m ih =>
   intro d sub BV k E W v hJ hv De hn0;cases d with
   | agg cs =>
     rw [Y2] at BV;obtain ⟨h1, BV⟩ := F8 BV;cases hk : cs.getD 6 .undef with
     | list s kds =>
       rw [hk] at BV;simp only at BV;obtain ⟨h2, BV⟩ := F8 BV;obtain ⟨ks, h3, BV⟩ := C8 BV;simp only [Option.some.injEq] at BV;subst BV;simp only [beq_iff_eq, z2q, decide_eq_true_eq] at h1 h2;obtain ⟨h2, A1J⟩ := h2;subst h2;have mO := hv;simp only [RV] at mO;obtain ⟨vs, rfl, Kj⟩ := mO;obtain ⟨hl, Kj⟩ := EP.1 Kj;obtain ⟨l', rfl⟩ : ∃ l' : List Value, vs = l'.toArray := ⟨vs.toList, by simp⟩
       simp only at hl Kj
       match l', hl.symm.trans h1 with
       | [v0, v1, v2, v3, v4, v5, v6], _ =>
       have hk5 : cs[6]? = some (.list 7 kds) := by
        have : 6 < cs.length := by omega
        rw [z1q, z0q this] at hk;rw [z0q this];exact congrArg some hk
       have hkc := (Kj 6 _ v6 hk5 rfl).2;simp only [RC] at hkc;obtain ⟨ka, len, cap, h4, h5, h6, h7, h8, h9⟩ := hkc;simp only [List.cons.injEq, and_true] at h4;subst h4 h5;have JZ : ∀ k : Nat, (Fence.wide.depth.isSome = true → 1 ≤ k) := fun k h => by cases h
       have ho : ∀ o, E.O W.heap.size o = .other := fun o => hf k E W hJ _ o (z27q _)
       have key : ∀ T, ∃ fy ty ay by_, (Instr.yield l #[.agg #[v0, v1, v2, v3, v4, v5, .slice ka kds.length cap]]).run Tryz.prog (W.alloc (.cells #[v0, v1, v2, v3, v4, v5, .slice ka kds.length cap] T)) = .ok (.round l fy ty ay by_) (W.alloc (.cells #[v0, v1, v2, v3, v4, v5, .slice ka kds.length cap] T)) ∧
        RoundIn Fence.wide (n - 1) Tryz.prog l fy ty ay by_ (W.alloc (.cells #[v0, v1, v2, v3, v4, v5, .slice ka kds.length cap] T)) fun e W2 =>
         (e = .returned (.bool true) ∧ ∃ E2, J (k + 1) E2 W2 ∧ NA E W E2 W2 ∧ (W2.heap[W.heap.size]? = some (.cells #[v0, v1, v2, v3, v4, v5, .slice ka kds.length cap] T (0, 0)) ∧ (∀ o, E2.O W.heap.size o = .other)) ∧ W2.cell? ⟨W.heap.size, 6, none⟩ = some (.slice ka kds.length cap)) ∨ (e = .returned (.bool false) ∧ Jx W2) := by
        intro T;have hJ1 : J k E (W.alloc (.cells #[v0, v1, v2, v3, v4, v5, .slice ka kds.length cap] T)) := hI _ _ _ _ hJ (Nb.alloc _);have K1 := NA.alloc (E := E) (W := W) (.cells #[v0, v1, v2, v3, v4, v5, .slice ka kds.length cap] T) (hf k E W hJ);obtain ⟨fy, ty, ay, by_, hy, hR⟩ := hY k E _ (.agg cs) _ hJ1 (De 0 _ rfl) (RV.mono K1.sh _ hv);refine ⟨fy, ty, ay, by_, hy, RoundIn.B4X rfl (RoundIn.mono hR ?_)⟩;rintro e W2 (⟨rfl, E2, hJ2, hP2⟩ | ⟨rfl, hx⟩)
        ·have K2 := NA.B3A hP2 (hf _ _ _ hJ1)
         have hb := K2.blk W.heap.size (by simp) ho
         rw [World.alloc_heap_new] at hb;refine .inl ⟨rfl, E2, hJ2, K1.trans K2, hb, ?_⟩;simp [World.cell?, hb.1]
        ·exact .inr ⟨rfl, hx⟩
       obtain ⟨fy, ty, ay, by_, hy, hR⟩ := key 64;refine callsIn_of_wp Tryz.func160 rfl trivial ?_;simp only [Tryz.ntmps160, z12q, z6q, z10q, Nat.reduceAdd, Nat.reduceSub, z7q, z8q, z13q, z9q, z16q, z14q]
       gi_wp2_with ((try refine ⟨JZ _, ?_⟩); refine hR.mono ?_; clear hR; rintro e W2 (⟨rfl, E2, hJ2, hK2, VB, hc2⟩ | ⟨rfl, hx2⟩))
       ·-- the kids, one by one
        refine wpIn_loop_rounds (kds.length + 1) ?_;refine (?loop : ∀ (r i : Nat) (pre rs : List DV) (E3 : Env) (w : World) (x6 x15 x16 x17 x18 x19 x20 x21 x22 : Value), i + r = kds.length → FH (Y2 7 6 m) (kds.drop i) = some rs → ks = pre ++ rs → J (k + 1 + pre.length) E3 w → NA E W E3 w →
         Code.roundsIn Fence.wide n Tryz.prog _ _ (r + 1) { tmps := #[.agg #[v0, v1, v2, v3, v4, v5, .slice ka kds.length cap], .func (.yield l) #[] #[], .pointer (some { block := W.heap.size, off := 0 }), undef, .bool false, undef, x6,
          .func (.yield l) #[] #[], .agg #[v0, v1, v2, v3, v4, v5, .slice ka kds.length cap], .bool true, .bool false, .pointer (some { block := W.heap.size, off := 6 }), .slice ka kds.length cap, .int .i64 (kds.length : Int), .int .i64 (i : Int), x15, x16, x17, x18, x19, x20, x21, x22], defers := [] } w)
         kds.length 0 [] ks E2 W2 undef undef undef undef undef undef undef undef undef (by simp) h3 rfl hJ2 hK2
        clear hJ2 hK2 VB hc2 hy key hJ;intro r
        induction r with
        | zero =>
          intro i pre rs E3 w x6 x15 x16 x17 x18 x19 x20 x21 x22 hi hrs Ha hJ3 mG;have Vh : i = kds.length := by omega
          have B2C : (i : Int) = (kds.length : Int) := by omega
          rw [roundsIn_succ];rw [B2C];have H7 : ¬ ((kds.length : Int) < (kds.length : Int)) := by omega
          gi_wp2
          go_ret
          rw [Vh, z37q, FH] at hrs;simp only [Option.some.injEq] at hrs;subst hrs;refine .inl ⟨rfl, E3, ?_, mG⟩;rw [show k + (pre.length + ([] : List DV).length + 1) = k + 1 + pre.length by simp; omega]
          exact hJ3
        | succ r ihr =>
          intro i pre rs E3 w x6 x15 x16 x17 x18 x19 x20 x21 x22 hi hrs Ha hJ3 mG;rw [roundsIn_succ];have H7 : ((i : Int) < (kds.length : Int)) := by omega
          have hil : i < kds.length := by omega
          obtain ⟨xa, rfl⟩ : ∃ xa, ka = some xa := by
           cases ka with
           | none => have := h7 rfl; omega
           | some xa => exact ⟨xa, rfl⟩
          obtain ⟨X9, Af⟩ := h9 xa rfl;obtain ⟨xb, xo, xs⟩ := xa;have X9 := X9 (by omega)
          simp only at X9 Af;subst X9;obtain ⟨us, hu1, hu2, hu3⟩ := Dc.1 Af i _ (z0q hil);have hu4 := hu2.mono mG.sh
          match us, hu1 with
          | [u0, u1, u2, u3, u4, u5, u6], _ =>
          have cc : ∀ (j : Nat) (u : Value), [u0, u1, u2, u3, u4, u5, u6][j]? = some u → w.cell? ⟨xb, xo + i * 7 + j, none⟩ = some u := fun j u hj => by rw [KO]; exact (hu4 j u hj).1
          have c0 : w.cell? ⟨xb, xo + i * 7, none⟩ = some u0 := cc 0 u0 rfl;have c1 := cc 1 u1 rfl;have c2 := cc 2 u2 rfl;have c3 := cc 3 u3 rfl;have c4 := cc 4 u4 rfl;have c5 := cc 5 u5 rfl;have c6 := cc 6 u6 rfl;have ou : ∀ (j : Nat) (u : Value), [u0, u1, u2, u3, u4, u5, u6][j]? = some u → u.oneCell' = true := fun j u hj => (Md hu3 hj).elim fun h1 h2 => Gx h1 h2
          have e0 : u0.oneCell' = true := ou 0 u0 rfl;have e1 : u1.oneCell' = true := ou 1 u1 rfl;have e2 : u2.oneCell' = true := ou 2 u2 rfl;have e3 : u3.oneCell' = true := ou 3 u3 rfl;have e4 : u4.oneCell' = true := ou 4 u4 rfl;have e5 : u5.oneCell' = true := ou 5 u5 rfl;have e6 : u6.oneCell' = true := ou 6 u6 rfl;obtain ⟨w1, s0, b0, r0, z0, o0⟩ := Y8 (P := Tryz.prog) (j := 0) (World.alloc_heap_new w (.cells #[.int .i64 0, .int .i64 0, .int .i64 0, .string ⟨#[]⟩, .int .i64 0, .string ⟨#[]⟩, .slice none 0 0] 64)) (by simp) e0
          obtain ⟨w2, s1, b1, r1, z1, o1⟩ := Y8 (P := Tryz.prog) (j := 1) b0 (by simp) e1
          obtain ⟨w3, s2, b2, r2, z2, o2⟩ := Y8 (P := Tryz.prog) (j := 2) b1 (by simp) e2
          obtain ⟨w4, s3, b3, r3, z3, o3⟩ := Y8 (P := Tryz.prog) (j := 3) b2 (by simp) e3
          obtain ⟨w5, s4, b4, r4, z4, o4⟩ := Y8 (P := Tryz.prog) (j := 4) b3 (by simp) e4
          obtain ⟨w6, s5, b5, r5, z5, o5⟩ := Y8 (P := Tryz.prog) (j := 5) b4 (by simp) e5
          obtain ⟨w7, s6, b6, r6, z6, o6⟩ := Y8 (P := Tryz.prog) (j := 6) b5 (by simp) e6
          simp only [z25q, z33q, z34q] at b0 b1 b2 b3 b4 b5 b6;have dd : ∀ (j : Nat) (u : Value), [u0, u1, u2, u3, u4, u5, u6][j]? = some u → w7.cell? ⟨w.heap.size, j, none⟩ = some u := fun j u hj => by rw [KO]; simp only [hc, b6]; simpa using hj
          have d0 := dd 0 u0 rfl;have d1 := dd 1 u1 rfl;have d2 := dd 2 u2 rfl;have d3 := dd 3 u3 rfl;have d4 := dd 4 u4 rfl;have d5 := dd 5 u5 rfl;have d6 := dd 6 u6 rfl;have low : ∀ b, b < w.heap.size → w7.heap[b]? = w.heap[b]? := fun b hb => by
           rw [r6 b (by omega), r5 b (by omega), r4 b (by omega), r3 b (by omega), r2 b (by omega), r1 b (by omega), r0 b (by omega)]
           exact Below.heap_alloc _ _ _ hb
          have hz : w.heap.size ≤ w7.heap.size := by rw [z6, z5, z4, z3, z2, z1, z0]; simp
          have OJ : Q5 w w7 := Q5.trans (b := w1) (Q5.trans (b := w.alloc (.cells #[.int .i64 0, .int .i64 0, .int .i64 0, .string ⟨#[]⟩, .int .i64 0, .string ⟨#[]⟩, .slice none 0 0] 64)) ⟨rfl, rfl, rfl⟩ o0) ((((((o1).trans o2).trans o3).trans o4).trans o5).trans o6);have mJ := hf _ _ _ hJ3;have K7 : NA E3 w E3 w7 := NA.same hz low mJ;have hJ7 := hI _ _ _ _ hJ3 (Nb.same hz low OJ);rw [z15q hil, FH] at hrs;obtain ⟨sa, hsa, hrs⟩ := C8 hrs;obtain ⟨sb, hsb, hrs⟩ := C8 hrs;simp only [Option.some.injEq] at hrs;subst hrs;have B2x : Fence.wide.fn 160 := trivial;have A3a : CallsIn Fence.wide (n - 1) Tryz.prog 160 _ w7 _ := callsIn_wide.2 (callsIn_wide.1 (ih _ sa hsa (k + 1 + pre.length) E3 w7 (.agg #[u0, u1, u2, u3, u4, u5, u6]) hJ7 (RV.mono (mG.trans K7).sh _ (flat_agg hsa hu3)) (A8I De Ha) (by have := mG.size; omega)))
          clear ih
          gi_wp2_with ((try refine ⟨JZ _, ?_⟩); gi_at_call 160; refine A3a.mono ?_; clear A3a; rintro e wz (⟨rfl, E4, hJ4, hK4⟩ | ⟨rfl, hx⟩))
          ·rw [show wrap64 ((i : Int) + 1) = ((i + 1 : Nat) : Int) by unfold lim at A1J; rw [wrap64]; omega]
           exact ihr (i + 1) (pre ++ sa) sb E4 wz _ _ _ _ _ _ _ _ _ (by omega) hsb (by rw [Ha, z35q]) (by rw [z18q, ← Nat.add_assoc]; exact hJ4) ((mG.trans K7).trans hK4)
          ·go_ret
           exact .inr ⟨rfl, hx⟩
       ·go_ret
        exact .inr ⟨rfl, hx2⟩
     | _ => rw [hk] at BV; simp at BV
   | _ => simp [Y2] at BV
set_option maxHeartbeats 1000000 in
theorem B37 : A14 Tryz.prog 159 (Jn 7 6) := by
 intro cs ds xe n l b c T0 J Jx E W hb ho hR hf hI hY h0;obtain ⟨m, hm⟩ := Zi xe;have Z4 : cs.length = 7 := by
  cases m with
  | zero => simp [Y2] at hm
  | succ m =>
    rw [Y2] at hm;obtain ⟨h1, -⟩ := F8 hm;simpa using h1
 have hlc := (EP.1 hR).1;obtain ⟨l', rfl⟩ : ∃ l' : List Value, c = l'.toArray := ⟨c.toList, by simp⟩
 simp only at hR hlc
 match l', hlc.symm.trans Z4 with
 | [v0, v1, v2, v3, v4, v5, v6], _ =>
 have cc : ∀ (j : Nat) (u : Value), [v0, v1, v2, v3, v4, v5, v6][j]? = some u → W.cell? ⟨b, j, none⟩ = some u := fun j u hj => by rw [KO]; simp only [hc, hb]; simpa using hj
 have c0 := cc 0 v0 rfl;have c1 := cc 1 v1 rfl;have c2 := cc 2 v2 rfl;have c3 := cc 3 v3 rfl;have c4 := cc 4 v4 rfl;have c5 := cc 5 v5 rfl;have c6 := cc 6 v6 rfl;have hgo : CallsIn Fence.wide (n - 1) Tryz.prog 160 _ W _ := callsIn_wide.2 (callsIn_wide.1 (B35 l W.heap.size ds J Jx n hf hI hY m (.agg cs) ds hm 0 E W (.agg #[v0, v1, v2, v3, v4, v5, v6]) h0 (by simp only [RV]; exact ⟨_, rfl, hR⟩) (fun j x h => by rw [Nat.zero_add]; exact h) (z27q _)))
 have B2x : Fence.wide.fn 160 := trivial;have JZ : ∀ k : Nat, (Fence.wide.depth.isSome = true → 1 ≤ k) := fun k h => by cases h
 refine callsIn_of_wp Tryz.func159 rfl trivial ?_;simp only [Tryz.ntmps159, z12q, z6q, z10q, Nat.reduceAdd, Nat.reduceSub, z7q, z8q, z13q, z9q, z16q, z14q]
 gi_wp2_with ((try refine ⟨JZ _, ?_⟩); gi_at_call 160; refine hgo.mono ?_; clear hgo; rintro e w2 (⟨rfl, E4, hJ4, -⟩ | ⟨rfl, hx⟩))
 ·go_end0
  exact ⟨⟨_, rfl⟩, .inl ⟨E4, by simpa using hJ4⟩⟩
 ·go_end0
  exact ⟨⟨_, rfl⟩, .inr hx⟩
set_option maxHeartbeats 1000000 in
theorem B5P : A85 Tryz.prog 96 124 16 := by
 intro w vs hs;obtain ⟨l⟩ := vs
 match l, hs with
 | [v0, v1, v2, v3, v4, v5, v6, v7, v8, v9, v10, v11, v12, v13, v14, v15], _ =>
 refine (callsIn_wide (n := 1)).1 (callsIn_of_wp Tryz.func96 rfl trivial ?_);simp only [Tryz.ntmps96, z12q, z6q, z10q, Nat.reduceAdd, Nat.reduceSub, z7q, z8q, z13q, z9q, z16q, z14q]
 gi_wp2
 go_ret
 exact ⟨rfl, _, rfl⟩
set_option maxRecDepth 10000 in
set_option maxHeartbeats 4000000 in
theorem B5n (l n0 : Nat) (ds : List DV) (J : Nat → Env → World → Prop) (Jx : World → Prop) (n : Nat)
 (hf : ∀ k E' W', J k E' W' → ∀ b o, W'.heap.size ≤ b → E'.O b o = .other)
 (hI : ∀ k E' W1 W2, J k E' W1 → Nb n0 E' W1 W2 → J k E' W2)
 (hY : ∀ k E' W1 d v, J k E' W1 → ds[k]? = some d → RV E'.S W1.heap d v → YieldAt Fence.wide n Tryz.prog l #[v] W1 fun e W2 =>
   (e = .returned (.bool true) ∧ ∃ E2, J (k + 1) E2 W2 ∧ Pr J8 E' W1.heap E2 W2.heap) ∨ (e = .returned (.bool false) ∧ Jx W2)) :
 ∀ (m : Nat) (d : DV) (sub : List DV), Y2 16 15 m d = some sub → ∀ (k : Nat) (E : Env) (W : World) (v : Value), J k E W → RV E.S W.heap d v → (∀ j x, sub[j]? = some x → ds[k + j]? = some x) → n0 ≤ W.heap.size →
   CallsIn Fence.wide n Tryz.prog 125 #[v, .func (.yield l) #[] #[]] W fun e W' => (e = .returned (.bool true) ∧ ∃ E', J (k + sub.length) E' W' ∧ NA E W E' W') ∨ (e = .returned (.bool false) ∧ Jx W') := by
 intro m
 induction m with
 | zero => intro d sub h; simp [Y2] at h
 | succ m ih =>
   intro d sub BV k E W v hJ hv De hn0;cases d with
   | agg cs =>
     rw [Y2] at BV;obtain ⟨h1, BV⟩ := F8 BV;cases hk : cs.getD 15 .undef with
     | list s kds =>
       rw [hk] at BV;simp only at BV;obtain ⟨h2, BV⟩ := F8 BV;obtain ⟨ks, h3, BV⟩ := C8 BV;simp only [Option.some.injEq] at BV;subst BV;simp only [beq_iff_eq, z2q, decide_eq_true_eq] at h1 h2;obtain ⟨h2, A1J⟩ := h2;subst h2;have mO := hv;simp only [RV] at mO;obtain ⟨vs, rfl, Kj⟩ := mO;obtain ⟨hl, Kj⟩ := EP.1 Kj;obtain ⟨l', rfl⟩ : ∃ l' : List Value, vs = l'.toArray := ⟨vs.toList, by simp⟩
       simp only at hl Kj
       match l', hl.symm.trans h1 with
       | [v0, v1, v2, v3, v4, v5, v6, v7, v8, v9, v10, v11, v12, v13, v14, v15], _ =>
       have hk5 : cs[15]? = some (.list 16 kds) := by
        have : 15 < cs.length := by omega
        rw [z1q, z0q this] at hk;rw [z0q this];exact congrArg some hk
       have hkc := (Kj 15 _ v15 hk5 rfl).2;simp only [RC] at hkc;obtain ⟨ka, len, cap, h4, h5, h6, h7, h8, h9⟩ := hkc;simp only [List.cons.injEq, and_true] at h4;subst h4 h5;have JZ : ∀ k : Nat, (Fence.wide.depth.isSome = true → 1 ≤ k) := fun k h => by cases h
       have ho : ∀ o, E.O W.heap.size o = .other := fun o => hf k E W hJ _ o (z27q _)
       have key : ∀ T, ∃ fy ty ay by_, (Instr.yield l #[.agg #[v0, v1, v2, v3, v4, v5, v6, v7, v8, v9, v10, v11, v12, v13, v14, .slice ka kds.length cap]]).run Tryz.prog (W.alloc (.cells #[v0, v1, v2, v3, v4, v5, v6, v7, v8, v9, v10, v11, v12, v13, v14, .slice ka kds.length cap] T)) = .ok (.round l fy ty ay by_) (W.alloc (.cells #[v0, v1, v2, v3, v4, v5, v6, v7, v8, v9, v10, v11, v12, v13, v14, .slice ka kds.length cap] T)) ∧
        RoundIn Fence.wide (n - 1) Tryz.prog l fy ty ay by_ (W.alloc (.cells #[v0, v1, v2, v3, v4, v5, v6, v7, v8, v9, v10, v11, v12, v13, v14, .slice ka kds.length cap] T)) fun e W2 =>
         (e = .returned (.bool true) ∧ ∃ E2, J (k + 1) E2 W2 ∧ NA E W E2 W2 ∧ (W2.heap[W.heap.size]? = some (.cells #[v0, v1, v2, v3, v4, v5, v6, v7, v8, v9, v10, v11, v12, v13, v14, .slice ka kds.length cap] T (0, 0)) ∧ (∀ o, E2.O W.heap.size o = .other)) ∧ W2.cell? ⟨W.heap.size, 15, none⟩ = some (.slice ka kds.length cap)) ∨ (e = .returned (.bool false) ∧ Jx W2) := by
        intro T;have hJ1 : J k E (W.alloc (.cells #[v0, v1, v2, v3, v4, v5, v6, v7, v8, v9, v10, v11, v12, v13, v14, .slice ka kds.length cap] T)) := hI _ _ _ _ hJ (Nb.alloc _);have K1 := NA.alloc (E := E) (W := W) (.cells #[v0, v1, v2, v3, v4, v5, v6, v7, v8, v9, v10, v11, v12, v13, v14, .slice ka kds.length cap] T) (hf k E W hJ);obtain ⟨fy, ty, ay, by_, hy, hR⟩ := hY k E _ (.agg cs) _ hJ1 (De 0 _ rfl) (RV.mono K1.sh _ hv);refine ⟨fy, ty, ay, by_, hy, RoundIn.B4X rfl (RoundIn.mono hR ?_)⟩;rintro e W2 (⟨rfl, E2, hJ2, hP2⟩ | ⟨rfl, hx⟩)
        ·have K2 := NA.B3A hP2 (hf _ _ _ hJ1)
         have hb := K2.blk W.heap.size (by simp) ho
         rw [World.alloc_heap_new] at hb;refine .inl ⟨rfl, E2, hJ2, K1.trans K2, hb, ?_⟩;simp [World.cell?, hb.1]
        ·exact .inr ⟨rfl, hx⟩
       obtain ⟨fy, ty, ay, by_, hy, hR⟩ := key 30;refine callsIn_of_wp Tryz.func125 rfl trivial ?_;simp only [Tryz.ntmps125, z12q, z6q, z10q, Nat.reduceAdd, Nat.reduceSub, z7q, z8q, z13q, z9q, z16q, z14q]
       gi_wp2_with ((try refine ⟨JZ _, ?_⟩); refine hR.mono ?_; clear hR; rintro e W2 (⟨rfl, E2, hJ2, hK2, VB, hc2⟩ | ⟨rfl, hx2⟩))
       ·-- the kids, one by one
        refine wpIn_loop_rounds (kds.length + 1) ?_;refine (?loop : ∀ (r i : Nat) (pre rs : List DV) (E3 : Env) (w : World) (x6 x15 x16 x17 x18 x19 x20 x21 x22 : Value), i + r = kds.length → FH (Y2 16 15 m) (kds.drop i) = some rs → ks = pre ++ rs → J (k + 1 + pre.length) E3 w → NA E W E3 w →
         Code.roundsIn Fence.wide n Tryz.prog _ _ (r + 1) { tmps := #[.agg #[v0, v1, v2, v3, v4, v5, v6, v7, v8, v9, v10, v11, v12, v13, v14, .slice ka kds.length cap], .func (.yield l) #[] #[], .pointer (some { block := W.heap.size, off := 0 }), undef, .bool false, undef, x6,
          .func (.yield l) #[] #[], .agg #[v0, v1, v2, v3, v4, v5, v6, v7, v8, v9, v10, v11, v12, v13, v14, .slice ka kds.length cap], .bool true, .bool false, .pointer (some { block := W.heap.size, off := 15 }), .slice ka kds.length cap, .int .i64 (kds.length : Int), .int .i64 (i : Int), x15, x16, x17, x18, x19, x20, x21, x22], defers := [] } w)
         kds.length 0 [] ks E2 W2 undef undef undef undef undef undef undef undef undef (by simp) h3 rfl hJ2 hK2
        clear hJ2 hK2 VB hc2 hy key hJ;intro r
        induction r with
        | zero =>
          intro i pre rs E3 w x6 x15 x16 x17 x18 x19 x20 x21 x22 hi hrs Ha hJ3 mG;have Vh : i = kds.length := by omega
          have B2C : (i : Int) = (kds.length : Int) := by omega
          rw [roundsIn_succ];rw [B2C];have H7 : ¬ ((kds.length : Int) < (kds.length : Int)) := by omega
          gi_wp2
          go_ret
          rw [Vh, z37q, FH] at hrs;simp only [Option.some.injEq] at hrs;subst hrs;refine .inl ⟨rfl, E3, ?_, mG⟩;rw [show k + (pre.length + ([] : List DV).length + 1) = k + 1 + pre.length by simp; omega]
          exact hJ3
        | succ r ihr =>
          intro i pre rs E3 w x6 x15 x16 x17 x18 x19 x20 x21 x22 hi hrs Ha hJ3 mG;rw [roundsIn_succ];have H7 : ((i : Int) < (kds.length : Int)) := by omega
          have hil : i < kds.length := by omega
          obtain ⟨xa, rfl⟩ : ∃ xa, ka = some xa := by
           cases ka with
           | none => have := h7 rfl; omega
           | some xa => exact ⟨xa, rfl⟩
          obtain ⟨X9, Af⟩ := h9 xa rfl;obtain ⟨xb, xo, xs⟩ := xa;have X9 := X9 (by omega)
          simp only at X9 Af;subst X9;obtain ⟨us, hu1, hu2, hu3⟩ := Dc.1 Af i _ (z0q hil);have hu4 := hu2.mono mG.sh
          match us, hu1 with
          | [u0, u1, u2, u3, u4, u5, u6, u7, u8, u9, u10, u11, u12, u13, u14, u15], _ =>
          have cc : ∀ (j : Nat) (u : Value), [u0, u1, u2, u3, u4, u5, u6, u7, u8, u9, u10, u11, u12, u13, u14, u15][j]? = some u → w.cell? ⟨xb, xo + i * 16 + j, none⟩ = some u := fun j u hj => by rw [KO]; exact (hu4 j u hj).1
          have c0 : w.cell? ⟨xb, xo + i * 16, none⟩ = some u0 := cc 0 u0 rfl;have c1 := cc 1 u1 rfl;have c2 := cc 2 u2 rfl;have c3 := cc 3 u3 rfl;have c4 := cc 4 u4 rfl;have c5 := cc 5 u5 rfl;have c6 := cc 6 u6 rfl;have c7 := cc 7 u7 rfl;have c8 := cc 8 u8 rfl;have c9 := cc 9 u9 rfl;have c10 := cc 10 u10 rfl;have c11 := cc 11 u11 rfl;have c12 := cc 12 u12 rfl;have c13 := cc 13 u13 rfl;have c14 := cc 14 u14 rfl;have c15 := cc 15 u15 rfl;have ou : ∀ (j : Nat) (u : Value), [u0, u1, u2, u3, u4, u5, u6, u7, u8, u9, u10, u11, u12, u13, u14, u15][j]? = some u → u.oneCell' = true := fun j u hj => (Md hu3 hj).elim fun h1 h2 => Gx h1 h2
          have e0 : u0.oneCell' = true := ou 0 u0 rfl;have e1 : u1.oneCell' = true := ou 1 u1 rfl;have e2 : u2.oneCell' = true := ou 2 u2 rfl;have e3 : u3.oneCell' = true := ou 3 u3 rfl;have e4 : u4.oneCell' = true := ou 4 u4 rfl;have e5 : u5.oneCell' = true := ou 5 u5 rfl;have e6 : u6.oneCell' = true := ou 6 u6 rfl;have e7 : u7.oneCell' = true := ou 7 u7 rfl;have e8 : u8.oneCell' = true := ou 8 u8 rfl;have e9 : u9.oneCell' = true := ou 9 u9 rfl;have e10 : u10.oneCell' = true := ou 10 u10 rfl;have e11 : u11.oneCell' = true := ou 11 u11 rfl;have e12 : u12.oneCell' = true := ou 12 u12 rfl;have e13 : u13.oneCell' = true := ou 13 u13 rfl;have e14 : u14.oneCell' = true := ou 14 u14 rfl;have e15 : u15.oneCell' = true := ou 15 u15 rfl;obtain ⟨w1, s0, b0, r0, z0, o0⟩ := Y8 (P := Tryz.prog) (j := 0) (World.alloc_heap_new w (.cells #[.int .i64 0, .int .i64 0, .int .i64 0, .string ⟨#[]⟩, .string ⟨#[]⟩, .int .i64 0, .string ⟨#[]⟩, .int .i64 0, .int .i64 0, .int .i64 0, .slice none 0 0, .int .i64 0, .int .i64 0, .slice none 0 0, .slice none 0 0, .slice none 0 0] 30)) (by simp) e0
          obtain ⟨w2, s1, b1, r1, z1, o1⟩ := Y8 (P := Tryz.prog) (j := 1) b0 (by simp) e1
          obtain ⟨w3, s2, b2, r2, z2, o2⟩ := Y8 (P := Tryz.prog) (j := 2) b1 (by simp) e2
          obtain ⟨w4, s3, b3, r3, z3, o3⟩ := Y8 (P := Tryz.prog) (j := 3) b2 (by simp) e3
          obtain ⟨w5, s4, b4, r4, z4, o4⟩ := Y8 (P := Tryz.prog) (j := 4) b3 (by simp) e4
          obtain ⟨w6, s5, b5, r5, z5, o5⟩ := Y8 (P := Tryz.prog) (j := 5) b4 (by simp) e5
          obtain ⟨w7, s6, b6, r6, z6, o6⟩ := Y8 (P := Tryz.prog) (j := 6) b5 (by simp) e6
          obtain ⟨w8, s7, b7, r7, z7, o7⟩ := Y8 (P := Tryz.prog) (j := 7) b6 (by simp) e7
          obtain ⟨w9, s8, b8, r8, z8, o8⟩ := Y8 (P := Tryz.prog) (j := 8) b7 (by simp) e8
          obtain ⟨w10, s9, b9, r9, z9, o9⟩ := Y8 (P := Tryz.prog) (j := 9) b8 (by simp) e9
          obtain ⟨w11, s10, b10, r10, z10, o10⟩ := Y8 (P := Tryz.prog) (j := 10) b9 (by simp) e10
          obtain ⟨w12, s11, b11, r11, z11, o11⟩ := Y8 (P := Tryz.prog) (j := 11) b10 (by simp) e11
          obtain ⟨w13, s12, b12, r12, z12, o12⟩ := Y8 (P := Tryz.prog) (j := 12) b11 (by simp) e12
          obtain ⟨w14, s13, b13, r13, z13, o13⟩ := Y8 (P := Tryz.prog) (j := 13) b12 (by simp) e13
          obtain ⟨w15, s14, b14, r14, z14, o14⟩ := Y8 (P := Tryz.prog) (j := 14) b13 (by simp) e14
          obtain ⟨w16, s15, b15, r15, z15, o15⟩ := Y8 (P := Tryz.prog) (j := 15) b14 (by simp) e15
          simp only [z25q, z33q, z34q] at b0 b1 b2 b3 b4 b5 b6 b7 b8 b9 b10 b11 b12 b13 b14 b15;have dd : ∀ (j : Nat) (u : Value), [u0, u1, u2, u3, u4, u5, u6, u7, u8, u9, u10, u11, u12, u13, u14, u15][j]? = some u → w16.cell? ⟨w.heap.size, j, none⟩ = some u := fun j u hj => by rw [KO]; simp only [hc, b15]; simpa using hj
          have d0 := dd 0 u0 rfl;have d1 := dd 1 u1 rfl;have d2 := dd 2 u2 rfl;have d3 := dd 3 u3 rfl;have d4 := dd 4 u4 rfl;have d5 := dd 5 u5 rfl;have d6 := dd 6 u6 rfl;have d7 := dd 7 u7 rfl;have d8 := dd 8 u8 rfl;have d9 := dd 9 u9 rfl;have U2 := dd 10 u10 rfl;have V7 := dd 11 u11 rfl;have Z7 := dd 12 u12 rfl;have Ci := dd 13 u13 rfl;have ET := dd 14 u14 rfl;have GK := dd 15 u15 rfl;have low : ∀ b, b < w.heap.size → w16.heap[b]? = w.heap[b]? := fun b hb => by
           rw [r15 b (by omega), r14 b (by omega), r13 b (by omega), r12 b (by omega), r11 b (by omega), r10 b (by omega), r9 b (by omega), r8 b (by omega), r7 b (by omega), r6 b (by omega), r5 b (by omega), r4 b (by omega), r3 b (by omega), r2 b (by omega), r1 b (by omega), r0 b (by omega)]
           exact Below.heap_alloc _ _ _ hb
          have hz : w.heap.size ≤ w16.heap.size := by rw [z15, z14, z13, z12, z11, z10, z9, z8, z7, z6, z5, z4, z3, z2, z1, z0]; simp
          have OJ : Q5 w w16 := Q5.trans (b := w1) (Q5.trans (b := w.alloc (.cells #[.int .i64 0, .int .i64 0, .int .i64 0, .string ⟨#[]⟩, .string ⟨#[]⟩, .int .i64 0, .string ⟨#[]⟩, .int .i64 0, .int .i64 0, .int .i64 0, .slice none 0 0, .int .i64 0, .int .i64 0, .slice none 0 0, .slice none 0 0, .slice none 0 0] 30)) ⟨rfl, rfl, rfl⟩ o0) (((((((((((((((o1).trans o2).trans o3).trans o4).trans o5).trans o6).trans o7).trans o8).trans o9).trans o10).trans o11).trans o12).trans o13).trans o14).trans o15);have mJ := hf _ _ _ hJ3;have K7 : NA E3 w E3 w16 := NA.same hz low mJ;have hJ7 := hI _ _ _ _ hJ3 (Nb.same hz low OJ);rw [z15q hil, FH] at hrs;obtain ⟨sa, hsa, hrs⟩ := C8 hrs;obtain ⟨sb, hsb, hrs⟩ := C8 hrs;simp only [Option.some.injEq] at hrs;subst hrs;have B2x : Fence.wide.fn 125 := trivial;have A3a : CallsIn Fence.wide (n - 1) Tryz.prog 125 _ w16 _ := callsIn_wide.2 (callsIn_wide.1 (ih _ sa hsa (k + 1 + pre.length) E3 w16 (.agg #[u0, u1, u2, u3, u4, u5, u6, u7, u8, u9, u10, u11, u12, u13, u14, u15]) hJ7 (RV.mono (mG.trans K7).sh _ (flat_agg hsa hu3)) (A8I De Ha) (by have := mG.size; omega)))
          clear ih
          gi_wp2_with ((try refine ⟨JZ _, ?_⟩); gi_at_call 125; refine A3a.mono ?_; clear A3a; rintro e wz (⟨rfl, E4, hJ4, hK4⟩ | ⟨rfl, hx⟩))
          ·rw [show wrap64 ((i : Int) + 1) = ((i + 1 : Nat) : Int) by unfold lim at A1J; rw [wrap64]; omega]
           exact ihr (i + 1) (pre ++ sa) sb E4 wz _ _ _ _ _ _ _ _ _ (by omega) hsb (by rw [Ha, z35q]) (by rw [z18q, ← Nat.add_assoc]; exact hJ4) ((mG.trans K7).trans hK4)
          ·go_ret
           exact .inr ⟨rfl, hx⟩
       ·go_ret
        exact .inr ⟨rfl, hx2⟩
     | _ => rw [hk] at BV; simp at BV
   | _ => simp [Y2] at BV
set_option maxHeartbeats 1000000 in
theorem B5E : A14 Tryz.prog 124 (Jn 16 15) := by
 intro cs ds xe n l b c T0 J Jx E W hb ho hR hf hI hY h0;obtain ⟨m, hm⟩ := Zi xe;have Z4 : cs.length = 16 := by
  cases m with
  | zero => simp [Y2] at hm
  | succ m =>
    rw [Y2] at hm;obtain ⟨h1, -⟩ := F8 hm;simpa using h1
 have hlc := (EP.1 hR).1;obtain ⟨l', rfl⟩ : ∃ l' : List Value, c = l'.toArray := ⟨c.toList, by simp⟩
 simp only at hR hlc
 match l', hlc.symm.trans Z4 with
 | [v0, v1, v2, v3, v4, v5, v6, v7, v8, v9, v10, v11, v12, v13, v14, v15], _ =>
 have cc : ∀ (j : Nat) (u : Value), [v0, v1, v2, v3, v4, v5, v6, v7, v8, v9, v10, v11, v12, v13, v14, v15][j]? = some u → W.cell? ⟨b, j, none⟩ = some u := fun j u hj => by rw [KO]; simp only [hc, hb]; simpa using hj
 have c0 := cc 0 v0 rfl;have c1 := cc 1 v1 rfl;have c2 := cc 2 v2 rfl;have c3 := cc 3 v3 rfl;have c4 := cc 4 v4 rfl;have c5 := cc 5 v5 rfl;have c6 := cc 6 v6 rfl;have c7 := cc 7 v7 rfl;have c8 := cc 8 v8 rfl;have c9 := cc 9 v9 rfl;have c10 := cc 10 v10 rfl;have c11 := cc 11 v11 rfl;have c12 := cc 12 v12 rfl;have c13 := cc 13 v13 rfl;have c14 := cc 14 v14 rfl;have c15 := cc 15 v15 rfl;have hgo : CallsIn Fence.wide (n - 1) Tryz.prog 125 _ W _ := callsIn_wide.2 (callsIn_wide.1 (B5n l W.heap.size ds J Jx n hf hI hY m (.agg cs) ds hm 0 E W (.agg #[v0, v1, v2, v3, v4, v5, v6, v7, v8, v9, v10, v11, v12, v13, v14, v15]) h0 (by simp only [RV]; exact ⟨_, rfl, hR⟩) (fun j x h => by rw [Nat.zero_add]; exact h) (z27q _)))
 have B2x : Fence.wide.fn 125 := trivial;have JZ : ∀ k : Nat, (Fence.wide.depth.isSome = true → 1 ≤ k) := fun k h => by cases h
 refine callsIn_of_wp Tryz.func124 rfl trivial ?_;simp only [Tryz.ntmps124, z12q, z6q, z10q, Nat.reduceAdd, Nat.reduceSub, z7q, z8q, z13q, z9q, z16q, z14q]
 gi_wp2_with ((try refine ⟨JZ _, ?_⟩); gi_at_call 125; refine hgo.mono ?_; clear hgo; rintro e w2 (⟨rfl, E4, hJ4, -⟩ | ⟨rfl, hx⟩))
 ·go_end0
  exact ⟨⟨_, rfl⟩, .inl ⟨E4, by simpa using hJ4⟩⟩
 ·go_end0
  exact ⟨⟨_, rfl⟩, .inr hx⟩
end Go.Su

/-
 The settings are right.
-/
namespace Go.Su
open Go.Proofs
theorem B2Q : Tryz.prog.funcs.toList.all (fun fn => fn.name != "runtime.NumGoroutine") = true := by kernel_rfl
theorem A3g {β : Type} {l : List (FuncId × β)} {f : FuncId} {g : β} (h : l.lookup f = some g) : (f, g) ∈ l := by
 induction l with
 | nil => cases h
 | cons x l ih =>
   obtain ⟨a, b⟩ := x;simp only [List.lookup_cons] at h
   by_cases e : f == a
   ·rw [e] at h; simp only [Option.some.injEq] at h; rw [h]; rw [eq_of_beq e]; exact z4q ..
   ·simp only [e] at h; exact z3q _ (ih h)
theorem B41 : A13 cfg where
 mixed := by kernel_rfl
 go f fn h := by
  have h1 : fn ∈ Tryz.prog.funcs.toList := by
   have : Tryz.prog.funcs[f]? = some fn := h;rw [← Array.getElem?_toList] at this;exact z22q this
  have := z5q.1 B2Q fn h1;simpa using this
 jg f g h := by cases h
 clone f h := by
  have : clL.contains f = true := h;cases this
 iD f g h := by
  have h1 : (f, g) ∈ mkL := A3g h;simp only [mkL, z20q, z23q, or_false, Prod.mk.injEq] at h1;rcases h1 with ⟨rfl, rfl⟩ | ⟨rfl, rfl⟩
  ·exact ⟨by kernel_rfl, B5P⟩
  ·exact ⟨by kernel_rfl, B4e⟩
 iter g it h := by
  have h1 : itF g = some it := h;unfold itF at h1
  split at h1
  ·rename_i e
   subst e;cases h1;exact ⟨by kernel_rfl, B5E⟩
  split at h1
  ·rename_i e
   subst e;cases h1;exact ⟨by kernel_rfl, B37⟩
  ·cases h1
 YW f p h fn c hf hb := by
  have h1 : (f, p) ∈ dcL := A3g h;simp only [dcL, z20q, z23q, or_false, Prod.mk.injEq] at h1;obtain ⟨rfl, rfl⟩ := h1
  ·have e1 : Tryz.prog.funcs[(101 : Nat)]? = some fn := hf
   rw [Tryz.func101] at e1;simp only [Option.some.injEq] at e1;subst e1;have e2 : Tryz.f101.body = some Y5 := by kernel_rfl
   rw [e2] at hb;simp only [Option.some.injEq] at hb;subst hb;exact ⟨by kernel_rfl, by kernel_rfl⟩
 dfn f h := by
  have h0 : dfL.contains f = true := h;have h1 : f ∈ dfL := by simpa using h0
  simp only [dfL, z20q, z23q, or_false] at h1;subst h1
  ·refine ⟨by kernel_rfl, fun fn c hf hb => ?_⟩
   have e1 : Tryz.prog.funcs[(134 : Nat)]? = some fn := hf;rw [Tryz.func134] at e1;simp only [Option.some.injEq] at e1;subst e1;have e2 : c = Tryz.f134.body.getD .skip := by rw [hb]; rfl
   rw [e2];have e3 : P8 (Tryz.f134.body.getD .skip) = true := by kernel_rfl
   exact e3
end Go.Su

/-
 Equations of the program's functions: by program.
-/
namespace Go.Su
set_option maxRecDepth 100000
noncomputable section
open Go.Proofs
variable (R : N7) (i j k l m n : Nat) (a b c d e f g h o p q r t u v w x y z A B C D E F G H I J K L M N O P Q S T U V W X Y Z a1 a2 a3 a4 a5 a6 a7 a8 a9 ai VZ a12 a13 a14 Yv a16 a17 a18 a19 a20 a21 a22 a23 a24 a25 a26 a27 a28 a29 a30 a31 a32 a33 a34 a35 a36 a37 a38 a39 a40 a41 a42 a43 a44 a45 a46 a47 a48 a49 a50 a51 a52 a53 a54 a55 a56 a57 a58 a59 : DV) (s : List D7)
def fE := eP Tryz.f4 Ls R [] (F5 Tryz.f4 [(a, .val), (b, .val)] [])
def Jh := eP Tryz.f4 Ls R (pb 250) (ms 102 [(8, a), (10, b)] [] [(7, bx c 20)] [])
def Yu := eP Tryz.f4 Ls R (pb 63) (ms 102 [(8, a), (10, b)] [] [(2, bx c 16), (3, bx d 3), (5, bx e 16), (6, bx f 3), (7, bx g 20), (9, bx h 3)] [])
theorem bB : fE R a b =
 (og (C9 16 a) <| og (C9 3 b) <| ob (R.p Wz [(.list 16 [(L8 a)])]) fun d1 => I5 d1 (some (.bool true)) (ob (R.p Ro [(H6 b)]) fun d2 => I5 d2 (some (.bool true)) (ob (R.p Mx [(L8 a), (H6 b)]) fun d3 => ob (O9 .not d3) fun d4 => D6 d4 (some (.bool true)) (ob (R.p Wx [(L8 a)]) fun d5 => ob (R.p TM [(H6 b)]) fun d6 => og (C9 16 d5) <| og (C9 3 d6) <| ob (R.p Ww [(L8 d5), (H6 d6)]) fun d7 => ob (O4 0 d7) fun d8 => ob (O4 1 d7) fun d9 => ob (O4 2 d7) fun U2 => ob (O4 3 d7) fun V7 => og (C9 20 d8) <| og (C9 3 U2) <| ob (R.p QQ [(L8 a)]) fun Z7 => ob (O9 .not Z7) fun Ci => I5 Ci (Jh R d9 V7 d8) (ob (R.p XA [(H6 b)]) fun ET => ob (O9 .not ET) fun GK => D6 GK (Jh R d9 V7 d8) (Yu R d9 V7 a b d5 d6 d8 U2)) none)) none) none) := D9 [6, 7]
theorem Xn : Jh R a b c =
 (ob (A8 .eql b (iI 1)) fun d1 => I5 d1 (ob (dLen a) fun d2 => ob (A8 .eql d2 (iI 0)) fun d3 => I5 d3 (ob (A8 .eql (A7 0 c) (iI 0)) fun d4 => I5 d4 (ob (R.p XB []) fun d5 => some d5) (some (.bool false)) none) (some (.bool false)) none) (some (.bool false)) none) := D9 [6, 7]
theorem Nw : Yu R a b c d e f g h =
 (ob (R.p nL [(L8 c), (H6 d)]) fun d1 => ob (O4 0 d1) fun d2 => ob (O4 1 d1) fun d3 => ob (O4 2 d1) fun d4 => ob (O4 3 d1) fun d5 => og (C9 20 d2) <| og (C9 3 d4) <| ob (A8 .eql b d5) fun d6 => I5 d6 (ob (R.p ZW [(jC g), (jC d2)]) fun d7 => I5 d7 (ob (R.p YO [a, d3]) fun d8 => I5 d8 (ob (R.p JG [(H6 h), (H6 d4)]) fun d9 => I5 d9 (ob (R.p NY [(L8 e), (L8 c)]) fun U2 => I5 U2 (ob (R.p Qx [(H6 f), (H6 d)]) fun V7 => I5 V7 (ob (R.p XB []) fun Z7 => some Z7) (some (.bool false)) none) (some (.bool false)) none) (some (.bool false)) none) (some (.bool false)) none) (some (.bool false)) none) (some (.bool false)) none) := D9 [6, 7]
theorem ZB : (run cfg).p ed [a, b] = fE (run cfg) a b := P9 Tryz.func4
def iw := eP Tryz.f5 b_ R [] (F5 Tryz.f5 [(a, .val)] [])
def Jz := hP Tryz.f5 b_ R (pb 122) (ms 22 [(0, a), (3, b), (4, c)] [] [] [])
theorem vN : iw R a =
 (ob (R.p iX [a]) fun d1 => D6 d1 (some (.bool true)) (Jz R a (iI 0) (iI 0))) := D9 []
theorem UT : Jz R a b c =
 (ob (dLen a) fun d1 => ob (A8 .lss c d1) fun d2 => D6 d2 (ob (E8 16 a c) fun d3 => ob (R.p ZR [(L8 d3)]) fun d4 => ob (A8 .add b d4) fun d5 => ob (A8 .add c (iI 1)) fun d6 => Jz R a d5 d6) (ob (A8 .gtr b (iI 90)) fun d7 => some d7)) := H5 []
theorem rO : (run cfg).p Wz [a] = iw (run cfg) a := P9 Tryz.func5
theorem kM (x0 : DV) {d : DV} (h : iw (run cfg) x0 = some d) : (run cfg).p Wz [x0] = some d := (rO x0).trans h
def aW := eP Tryz.f6 ZH R [] (F5 Tryz.f6 [(a, .val)] [])
theorem Yx : aW R a =
 (og (C9 3 a) <| ob (R.p W_ [(H6 a), (iI 0)]) fun d1 => ob (A8 .gtr d1 (iI 1500)) fun d2 => some d2) := D9 []
theorem Xq : (run cfg).p Ro [a] = aW (run cfg) a := P9 Tryz.func6
def Tv := eP Tryz.f7 dD R [] (F5 Tryz.f7 [(a, .val), (b, .val)] [])
theorem bM : Tv R a b =
 (og (C9 16 a) <| og (C9 3 b) <| ob (R.p QQ [(L8 a)]) fun d1 => ob (O9 .not d1) fun d2 => D6 d2 (some (.bool true)) (oc (R.r Z6 [(pt 0), ((L8 a), .val), ((H6 b), .val), ((.list 2 []), .val)] [D7.box [((.bool false), .val)]]) fun q3 s3 => ob (M7 s3 0) fun c4 => ob (U4 c4 0) fun d5 => ob (O9 .not d5) fun d6 => some d6)) := D9 []
theorem ZF : (run cfg).p Mx [a, b] = Tv (run cfg) a b := P9 Tryz.func7
theorem Xe (x0 x1 : DV) {d : DV} (h : Tv (run cfg) x0 x1 = some d) : (run cfg).p Mx [x0, x1] = some d := (ZF x0 x1).trans h
def zm := eP Tryz.f8 Uq R [] (F5 Tryz.f8 [(a, .val)] [])
def Ol := hP Tryz.f8 Uq R (pb 122) (ms 54 [(4, a)] [] [(1, bx b 16), (2, some zb1), (3, some [(c, .val), (d, .val), (e, .val), (f, .val), (g, .val), (h, .val), (o, .val), (p, .val), (q, .val), (r, .val), (t, .val), (u, .val), (v, .val), (w, .val), (x, .own), ((.list 16 []), .own)])] [])
def Om := hP Tryz.f8 Uq R (pb 250) (ms 54 [(5, a)] [] [(1, bx b 16), (2, some zb1), (3, some [(c, .val), (d, .val), (e, .val), (f, .val), (g, .val), (h, .val), (o, .val), (p, .val), (q, .val), (r, .val), (t, .val), (u, .val), (v, .val), (w, .val), (x, .own), (y, .own)])] [])
theorem vF : zm R a =
 (og (C9 16 a) <| ob (R.p MX [(.agg [(A7 8 a), (A7 9 a), (A7 10 a)])]) fun d1 => ob (R.p MX [(.agg [(A7 11 a), (A7 12 a), (A7 13 a)])]) fun d2 => og (C9 3 d1) <| og (C9 3 d2) <| Ol R (iI 0) a (A7 0 a) (A7 1 a) (A7 2 a) (A7 3 a) (A7 4 a) (A7 5 a) (A7 6 a) (A7 7 a) (A7 0 d1) (A7 1 d1) (A7 2 d1) (A7 0 d2) (A7 1 d2) (A7 2 d2) (.list 7 [])) := D9 []
theorem UG : Ol R a b c d e f g h o p q r t u v w x =
 (ob (dLen (A7 14 b)) fun d1 => ob (A8 .lss a d1) fun d2 => D6 d2 (ob (E8 7 (A7 14 b) a) fun d3 => ob (R.p ZN [(Gb d3)]) fun d4 => og (C9 7 d4) <| ob (R8 7 x (.list 7 [d4])) fun d5 => ob (A8 .add a (iI 1)) fun d6 => Ol R d6 b c d e f g h o p q r t u v w d5) (Om R (iI 0) b c d e f g h o p q r t u v w x (.list 16 []))) := H5 []
theorem UH : Om R a b c d e f g h o p q r t u v w x y =
 (ob (dLen (A7 15 b)) fun d1 => ob (A8 .lss a d1) fun d2 => D6 d2 (ob (E8 16 (A7 15 b) a) fun d3 => ob (R.p Wx [(L8 d3)]) fun d4 => og (C9 16 d4) <| ob (R8 16 y (.list 16 [d4])) fun d5 => ob (A8 .add a (iI 1)) fun d6 => Om R d6 b c d e f g h o p q r t u v w x d5) (some (.agg [c, d, e, f, g, h, o, p, q, r, t, u, v, w, x, y]))) := H5 []
theorem rC : (run cfg).p Wx [a] = zm (run cfg) a := P9 Tryz.func8
def uP := eP Tryz.f9 Yg R [] (F5 Tryz.f9 [(a, .val)] [])
def NC := hP Tryz.f9 Yg R (pb 58) (ms 32 [(4, a)] [] [(1, bx b 3), (2, bv [(.list 3 []), c, (.list 3 [])]), (3, some [(d, .val), (e, .val), (f, .own)])] [])
theorem qO : uP R a =
 (og (C9 3 a) <| ob (R.p aO [(A7 0 a)]) fun d1 => ob (R8 1 (.list 1 []) (A7 1 a)) fun d2 => og (I7 d1) <| NC R (iI 0) a (.list 1 []) d1 d2 (.list 3 [])) := D9 []
theorem Rz : NC R a b c d e f =
 (ob (dLen (A7 2 b)) fun d1 => ob (A8 .lss a d1) fun d2 => D6 d2 (ob (E8 3 (A7 2 b) a) fun d3 => ob (R.p TM [(H6 d3)]) fun d4 => og (C9 3 d4) <| ob (R8 3 f (.list 3 [d4])) fun d5 => ob (A8 .add a (iI 1)) fun d6 => NC R d6 b c d e d5) (some (.agg [d, e, f]))) := H5 []
theorem lM : (run cfg).p TM [a] = uP (run cfg) a := P9 Tryz.func9
def zo := eP Tryz.f12 bZ R [] (F5 Tryz.f12 [(a, .val), (b, .val)] [])
def Oq := hP Tryz.f12 bZ R (pb 58) (ms 46 [(5, a)] [] [(2, bx b 3), (3, bx c 3)] [])
theorem vH : zo R a b =
 (og (C9 3 a) <| og (C9 3 b) <| ob (A8 .neq (A7 0 a) (A7 0 b)) fun d1 => I5 d1 (some (.bool false)) (ob (A8 .neq (A7 1 a) (A7 1 b)) fun d2 => I5 d2 (some (.bool false)) (ob (dLen (A7 2 a)) fun d3 => ob (dLen (A7 2 b)) fun d4 => ob (A8 .neq d3 d4) fun d5 => D6 d5 (some (.bool false)) (Oq R (iI 0) a b)) none) none) := D9 []
theorem UJ : Oq R a b c =
 (ob (dLen (A7 2 b)) fun d1 => ob (A8 .lss a d1) fun d2 => D6 d2 (ob (E8 3 (A7 2 b) a) fun d3 => ob (E8 3 (A7 2 c) a) fun d4 => ob (R.p JG [(H6 d3), (H6 d4)]) fun d5 => ob (O9 .not d5) fun d6 => D6 d6 (some (.bool false)) (ob (A8 .add a (iI 1)) fun d7 => Oq R d7 b c)) (some (.bool true))) := H5 []
theorem rE : (run cfg).p JG [a, b] = zo (run cfg) a b := P9 Tryz.func12
def uR := eP Tryz.f13 Re R [] (F5 Tryz.f13 [(a, .val), (b, .val)] [])
def NE := hP Tryz.f13 Re R (pb 58) (ms 56 [(5, a)] [] [(2, bx b 16), (3, bx c 16)] [])
def NF := hP Tryz.f13 Re R (pb 122) (ms 56 [(6, a)] [] [(2, bx b 16), (3, bx c 16)] [])
theorem qQ : uR R a b =
 (og (C9 16 a) <| og (C9 16 b) <| ob (R.p ZQ [(L8 a), (L8 b)]) fun d1 => ob (O9 .not d1) fun d2 => I5 d2 (some (.bool false)) (ob (jI [.int, .int] (.agg [(A7 1 a), (A7 2 a)]) (.agg [(A7 1 b), (A7 2 b)])) fun b3 => D6 (.bool !b3) (some (.bool false)) (NE R (iI 0) a b)) none) := D9 []
theorem SB : NE R a b c =
 (ob (dLen (A7 14 b)) fun d1 => ob (A8 .lss a d1) fun d2 => D6 d2 (ob (E8 7 (A7 14 b) a) fun d3 => ob (E8 7 (A7 14 c) a) fun d4 => ob (R.p XE [(Gb d3), (Gb d4)]) fun d5 => ob (O9 .not d5) fun d6 => D6 d6 (some (.bool false)) (ob (A8 .add a (iI 1)) fun d7 => NE R d7 b c)) (NF R (iI 0) b c)) := H5 []
theorem SC : NF R a b c =
 (ob (dLen (A7 15 b)) fun d1 => ob (A8 .lss a d1) fun d2 => D6 d2 (ob (E8 16 (A7 15 b) a) fun d3 => ob (E8 16 (A7 15 c) a) fun d4 => ob (R.p NY [(L8 d3), (L8 d4)]) fun d5 => ob (O9 .not d5) fun d6 => D6 d6 (some (.bool false)) (ob (A8 .add a (iI 1)) fun d7 => NF R d7 b c)) (some (.bool true))) := H5 []
theorem lQ : (run cfg).p NY [a, b] = uR (run cfg) a b := P9 Tryz.func13
def pV := eP Tryz.f14 WV R [] (F5 Tryz.f14 [(a, .val), (b, .val)] [])
def LX := hP Tryz.f14 WV R (pb 58) (ms 48 [(5, a)] [] [(2, bx b 3), (3, bx c 3)] [])
theorem kU : pV R a b =
 (og (C9 3 a) <| og (C9 3 b) <| ob (R.p Vm [(A7 0 a), (A7 0 b)]) fun d1 => ob (O9 .not d1) fun d2 => I5 d2 (some (.bool false)) (ob (R.p iV [(A7 1 a), (A7 1 b)]) fun d3 => ob (O9 .not d3) fun d4 => I5 d4 (some (.bool false)) (ob (dLen (A7 2 a)) fun d5 => ob (dLen (A7 2 b)) fun d6 => ob (A8 .neq d5 d6) fun d7 => D6 d7 (some (.bool false)) (LX R (iI 0) a b)) none) none) := D9 []
theorem QB : LX R a b c =
 (ob (dLen (A7 2 b)) fun d1 => ob (A8 .lss a d1) fun d2 => D6 d2 (ob (E8 3 (A7 2 b) a) fun d3 => ob (E8 3 (A7 2 c) a) fun d4 => ob (R.p Qx [(H6 d3), (H6 d4)]) fun d5 => ob (O9 .not d5) fun d6 => D6 d6 (some (.bool false)) (ob (A8 .add a (iI 1)) fun d7 => LX R d7 b c)) (some (.bool true))) := H5 []
theorem gJ : (run cfg).p Qx [a, b] = pV (run cfg) a b := P9 Tryz.func14
def zi := eP Tryz.f16 xH R [] (F5 Tryz.f16 [(a, .val), (b, .val)] [])
theorem vD : zi R a b =
 (og (C9 16 a) <| og (C9 3 b) <| ob (R.p aL [(L8 a), (H6 b), (.bool false)]) fun d1 => ob (O4 0 d1) fun d2 => ob (O4 1 d1) fun d3 => ob (O4 2 d1) fun d4 => ob (O4 3 d1) fun d5 => og (C9 20 d2) <| og (C9 3 d4) <| some (.I6 [(jC d2), d3, (H6 d4), d5])) := D9 []
theorem q_ : (run cfg).p Ww [a, b] = zi (run cfg) a b := P9 Tryz.func16
def A0j := eP Tryz.f17 Uv R [] (F5 Tryz.f17 [(a, .val)] [])
def KD := hP Tryz.f17 Uv R (pb 58) (ms 36 [(3, a)] [] [(1, bx b 16)] [])
def Oy := hP Tryz.f17 Uv R (pb 122) (ms 36 [(4, a)] [] [(1, bx b 16)] [])
theorem vX : A0j R a =
 (og (C9 16 a) <| ob (R.p uG [(L8 a)]) fun d1 => ob (O9 .not d1) fun d2 => D6 d2 (some (.bool false)) (KD R (iI 0) a)) := D9 []
theorem UX : KD R a b =
 (ob (dLen (A7 14 b)) fun d1 => ob (A8 .lss a d1) fun d2 => D6 d2 (ob (E8 7 (A7 14 b) a) fun d3 => ob (R.p Vn [(Gb d3)]) fun d4 => ob (O9 .not d4) fun d5 => D6 d5 (some (.bool false)) (ob (A8 .add a (iI 1)) fun d6 => KD R d6 b)) (Oy R (iI 0) b)) := H5 []
theorem UY : Oy R a b =
 (ob (dLen (A7 15 b)) fun d1 => ob (A8 .lss a d1) fun d2 => D6 d2 (ob (E8 16 (A7 15 b) a) fun d3 => ob (R.p QQ [(L8 d3)]) fun d4 => ob (O9 .not d4) fun d5 => D6 d5 (some (.bool false)) (ob (A8 .add a (iI 1)) fun d6 => Oy R d6 b)) (some (.bool true))) := H5 []
theorem rY : (run cfg).p QQ [a] = A0j (run cfg) a := P9 Tryz.func17
def A0a := eP Tryz.f18 OD R [] (F5 Tryz.f18 [(a, .val)] [])
def Ox := hP Tryz.f18 OD R (pb 26) (ms 55 [(3, a)] [] [(1, bx b 3)] [])
def KA := hP Tryz.f18 OD R (pb 58) (ms 55 [(4, a)] [] [(1, bx b 3)] [])
def Ic := hP Tryz.f18 OD R (pb 122) (ms 55 [(5, a)] [] [(1, bx b 3)] [])
theorem vP : A0a R a =
 (og (C9 3 a) <| Ox R (iI 0) a) := D9 []
theorem UU : Ox R a b =
 (ob (dLen (A7 0 b)) fun d1 => ob (A8 .lss a d1) fun d2 => D6 d2 (ob (E8 3 (A7 0 b) a) fun d3 => ob (R.p QP [(H6 d3)]) fun d4 => ob (O9 .not d4) fun d5 => D6 d5 (some (.bool false)) (ob (A8 .add a (iI 1)) fun d6 => Ox R d6 b)) (KA R (iI 0) b)) := H5 []
theorem UV : KA R a b =
 (ob (dLen (A7 1 b)) fun d1 => ob (A8 .lss a d1) fun d2 => D6 d2 (ob (E8 1 (A7 1 b) a) fun d3 => og (M9 d3) <| ob (A8 .lss d3 (iI 0)) fun d4 => I5 d4 (some (.bool false)) (ob (E8 1 (A7 1 b) a) fun d5 => og (M9 d5) <| ob (A8 .gtr d5 (iI 1048576)) fun d6 => D6 d6 (some (.bool false)) (ob (A8 .add a (iI 1)) fun d7 => KA R d7 b)) none) (Ic R (iI 0) b)) := H5 []
theorem SA : Ic R a b =
 (ob (dLen (A7 2 b)) fun d1 => ob (A8 .lss a d1) fun d2 => D6 d2 (ob (E8 3 (A7 2 b) a) fun d3 => ob (R.p XA [(H6 d3)]) fun d4 => ob (O9 .not d4) fun d5 => D6 d5 (some (.bool false)) (ob (A8 .add a (iI 1)) fun d6 => Ic R d6 b)) (some (.bool true))) := H5 []
theorem rQ : (run cfg).p XA [a] = A0a (run cfg) a := P9 Tryz.func18
def A0b := eP Tryz.f19 cB R [] (F5 Tryz.f19 [] [])
def pX := eP Tryz.f19 cB R (pb 31) (ms 82 [(3, a), (5, b)] [] [(2, bx c 20), (4, bx d 3), (6, bx e 3)] [])
theorem A6i : A0b R =
 (ob (R.p BC [(iI 5)]) fun d1 => og (C9 3 d1) <| ob (R.p Ww [(.agg [(iI 15), (iI 0), (iI 0), (.str ⟨#[]⟩), (.str ⟨#[]⟩), (iI 0), (.str ⟨#[]⟩), (iI 0), (A7 0 d1), (A7 1 d1), (A7 2 d1), (iI 0), (iI 0), (.list 3 []), (.list 7 []), (.list 16 [(.agg [(iI 2), (iI 1), (iI 2), (.str ⟨#[]⟩), (.str ⟨#[]⟩), (iI 5), (.str ⟨#[]⟩), (iI 0), (iI 0), (iI 0), (.list 3 []), (iI 0), (iI 0), (.list 3 []), (.list 7 []), (.list 16 [])])])]), (.agg [(.list 3 []), (.list 1 []), (.list 3 [(.agg [(.list 3 []), (.list 1 []), (.list 3 [])])])])]) fun d2 => ob (O4 0 d2) fun d3 => ob (O4 1 d2) fun d4 => ob (O4 2 d2) fun d5 => ob (O4 3 d2) fun d6 => og (C9 20 d3) <| og (C9 3 d5) <| ob (R.p uC [(.agg [(.list 3 [(.agg [(iI 6), (iI 3), (.list 3 [])])]), (.list 1 []), (.list 3 [])])]) fun d7 => og (C9 3 d7) <| pX R d4 d6 d3 d5 d7) := D9 [4]
theorem A3Z : pX R a b c d e =
 (ob (A8 .eql b (iI 0)) fun d1 => I5 d1 (ob (A8 .eql (A7 0 c) (iI 16)) fun d2 => I5 d2 (ob (A8 .eql (A7 8 c) (iI 0)) fun d3 => I5 d3 (ob (A8 .eql (A7 11 c) (iI 1)) fun d4 => I5 d4 (ob (A8 .eql (A7 14 c) (iI 5)) fun d5 => I5 d5 (ob (dLen a) fun d6 => ob (A8 .eql d6 (iI 1)) fun d7 => I5 d7 (ob (E8 8 a (iI 0)) fun d8 => ob (A8 .eql (A7 0 d8) (iI 1)) fun d9 => I5 d9 (ob (A8 .eql (A7 0 d) (iI 5)) fun U2 => I5 U2 (ob (dLen (A7 0 e)) fun V7 => ob (A8 .eql V7 (iI 1)) fun Z7 => I5 Z7 (ob (E8 3 (A7 0 e) (iI 0)) fun Ci => ob (A8 .eql (A7 0 Ci) (iI 5)) fun ET => some ET) (some (.bool false)) none) (some (.bool false)) none) (some (.bool false)) none) (some (.bool false)) none) (some (.bool false)) none) (some (.bool false)) none) (some (.bool false)) none) (some (.bool false)) none) (some (.bool false)) none) := D9 [4]
theorem A5o : (run cfg).p XB [] = A0b (run cfg) := P9 Tryz.func19
end
end Go.Su

/-
 Equations of the program's functions: by program.
-/
namespace Go.Su
set_option maxRecDepth 100000
noncomputable section
open Go.Proofs
variable (R : N7) (i j k l m n : Nat) (a b c d e f g h o p q r t u v w x y z A B C D E F G H I J K L M N O P Q S T U V W X Y Z a1 a2 a3 a4 a5 a6 a7 a8 a9 ai VZ a12 a13 a14 Yv a16 a17 a18 a19 a20 a21 a22 a23 a24 a25 a26 a27 a28 a29 a30 a31 a32 a33 a34 a35 a36 a37 a38 a39 a40 a41 a42 a43 a44 a45 a46 a47 a48 a49 a50 a51 a52 a53 a54 a55 a56 a57 a58 a59 : DV) (s : List D7)
def A2q := eP Tryz.f20 A1m R [] (F5 Tryz.f20 [(a, .val), (b, .val)] [])
theorem A0W : A2q R a b =
 (og (C9 16 a) <| og (C9 3 b) <| oc (R.r TP [(pt 0), ((L8 a), .val), ((H6 b), .val), ((.list 5 []), .val), ((.list 1 []), .val)] [D7.box [((iI 0), .val), ((.bool true), .val)]]) fun q1 s1 => og (C9 4 q1) <| ob (M7 s1 0) fun c2 => ob (U4 c2 0) fun d3 => ob (A8 .neq d3 (iI 0)) fun d4 => D6 d4 (ob (M7 s1 0) fun c5 => ob (U4 c5 0) fun d6 => some (.I6 [zA3, (.list 8 []), (.agg [(iI 0), (iI 0), (.list 3 [])]), d6])) (oc (R.r TQ [(.undef, (.ptr s1.length 0)), ((L8 a), .val), ((H6 b), .val), ((.agg [(A7 0 q1), (A7 1 q1), (A7 2 q1), (A7 3 q1)]), .val)] (s1 ++ [D7.box [((.list 8 []), .full)]])) fun q7 s7 => og (C9 20 q7) <| ob (M7 s7 s1.length) fun c8 => ob (U4 c8 0) fun d9 => ob (dLen d9) fun U2 => ob (A8 .gtr U2 (iI 1048577)) fun V7 => D6 V7 (some (.I6 [zA3, (.list 8 []), (.agg [(iI 0), (iI 0), (.list 3 [])]), (iI 2)])) (ob (M7 s7 s1.length) fun c12 => ob (U4 c12 0) fun Ci => some (.I6 [(.agg [(A7 0 q7), (A7 1 q7), (A7 2 q7), (A7 3 q7), (A7 4 q7), (A7 5 q7), (A7 6 q7), (A7 7 q7), (A7 8 q7), (A7 9 q7), (A7 10 q7), (A7 11 q7), (A7 12 q7), (A7 13 q7), (A7 14 q7), (A7 15 q7), (A7 16 q7), (A7 17 q7), (A7 18 q7), (A7 19 q7)]), Ci, (.agg [(A7 0 q1), (A7 1 q1), (A7 2 q1)]), (iI 0)])))) := D9 []
theorem xB : (run cfg).p nL [a, b] = A2q (run cfg) a b := P9 Tryz.func20
def A2r := eP Tryz.f21 jU R [] (F5 Tryz.f21 [(a, .val), (b, .val)] [])
def RP := hP Tryz.f21 jU R (pb 58) (ms 38 [(5, a)] [] [(2, bx b 20), (3, bx c 20)] [])
theorem A0X : A2r R a b =
 (og (C9 20 a) <| og (C9 20 b) <| ob (R.p nM [(jC a), (jC b)]) fun d1 => ob (O9 .not d1) fun d2 => I5 d2 (some (.bool false)) (ob (dLen (A7 19 a)) fun d3 => ob (dLen (A7 19 b)) fun d4 => ob (A8 .neq d3 d4) fun d5 => D6 d5 (some (.bool false)) (RP R (iI 0) a b)) none) := D9 []
theorem WM : RP R a b c =
 (ob (dLen (A7 19 b)) fun d1 => ob (A8 .lss a d1) fun d2 => D6 d2 (ob (E8 20 (A7 19 b) a) fun d3 => ob (E8 20 (A7 19 c) a) fun d4 => ob (R.p ZW [(jC d3), (jC d4)]) fun d5 => ob (O9 .not d5) fun d6 => D6 d6 (some (.bool false)) (ob (A8 .add a (iI 1)) fun d7 => RP R d7 b c)) (some (.bool true))) := H5 []
theorem xC : (run cfg).p ZW [a, b] = A2r (run cfg) a b := P9 Tryz.func21
def pW := eP Tryz.f22 WW R [] (F5 Tryz.f22 [(a, .val), (b, .val)] [])
def LY := hP Tryz.f22 WW R (pb 58) (ms 56 [(0, a), (1, b), (5, c)] [] [] [])
theorem kV : pW R a b =
 (ob (dLen a) fun d1 => ob (dLen b) fun d2 => ob (A8 .neq d1 d2) fun d3 => D6 d3 (some (.bool false)) (LY R a b (iI 0))) := D9 []
theorem QC : LY R a b c =
 (ob (dLen a) fun d1 => ob (A8 .lss c d1) fun d2 => D6 d2 (ob (E8 8 a c) fun d3 => ob (E8 8 b c) fun d4 => ob (jI [.int, .int] (.agg [(A7 0 d3), (A7 1 d3)]) (.agg [(A7 0 d4), (A7 1 d4)])) fun b5 => I5 (.bool !b5) (some (.bool false)) (ob (E8 8 a c) fun d6 => ob (E8 8 b c) fun d7 => ob (R.p JG [(.agg [(A7 2 d6), (A7 3 d6), (A7 4 d6)]), (.agg [(A7 2 d7), (A7 3 d7), (A7 4 d7)])]) fun d8 => ob (O9 .not d8) fun d9 => I5 d9 (some (.bool false)) (ob (E8 8 a c) fun U2 => ob (E8 8 b c) fun V7 => ob (R.p JG [(.agg [(A7 5 U2), (A7 6 U2), (A7 7 U2)]), (.agg [(A7 5 V7), (A7 6 V7), (A7 7 V7)])]) fun Z7 => ob (O9 .not Z7) fun Ci => D6 Ci (some (.bool false)) (ob (A8 .add c (iI 1)) fun ET => LY R a b ET)) none) none) (some (.bool true))) := H5 []
theorem gK : (run cfg).p YO [a, b] = pW (run cfg) a b := P9 Tryz.func22
def zx := eP Tryz.f23 bu R [] (F5 Tryz.f23 [(a, .val)] [])
def Ou := hP Tryz.f23 bu R (pb 58) (ms 19 [(0, a), (3, b), (4, c)] [] [] [])
theorem vL : zx R a =
 (Ou R a (iI 0) (iI 0)) := D9 []
theorem UN : Ou R a b c =
 (ob (dLen a) fun d1 => ob (A8 .lss c d1) fun d2 => D6 d2 (ob (E8 16 a c) fun d3 => ob (R.p MZ [(L8 d3), b]) fun d4 => ob (A8 .add c (iI 1)) fun d5 => Ou R a d4 d5) (ob (A8 .gtr b (iI 400)) fun d6 => some d6)) := H5 []
theorem rJ : (run cfg).p iX [a] = zx (run cfg) a := P9 Tryz.func23
def A2j := eP Tryz.f24 jQ R [] (F5 Tryz.f24 [(a, .val)] [])
def RH := hP Tryz.f24 jQ R (pb 58) (ms 21 [(3, a), (4, b)] [] [(1, bx c 16)] [])
theorem A0P : A2j R a =
 (og (C9 16 a) <| RH R (iI 1) (iI 0) a) := D9 []
theorem WG : RH R a b c =
 (ob (dLen (A7 15 c)) fun d1 => ob (A8 .lss b d1) fun d2 => D6 d2 (ob (E8 16 (A7 15 c) b) fun d3 => ob (R.p ZR [(L8 d3)]) fun d4 => ob (A8 .add a d4) fun d5 => ob (A8 .add b (iI 1)) fun d6 => RH R d5 d6 c) (some a)) := H5 []
theorem wm : (run cfg).p ZR [a] = A2j (run cfg) a := P9 Tryz.func24
def z_ := eP Tryz.f25 Ut R [] (F5 Tryz.f25 [(a, .val), (b, .val)] [])
def Ow := hP Tryz.f25 Ut R (pb 58) (ms 59 [(1, a), (5, b)] [] [(2, bx c 3)] [])
def J_ := hP Tryz.f25 Ut R (pb 122) (ms 59 [(1, a), (6, b)] [] [(2, bx c 3)] [])
theorem vO : z_ R a b =
 (og (C9 3 a) <| ob (A8 .add b (iI 1)) fun d1 => ob (dLen (A7 1 a)) fun d2 => ob (A8 .add d1 d2) fun d3 => Ow R d3 (iI 0) a) := D9 []
theorem Iu : Ow R a b c =
 (ob (dLen (A7 0 c)) fun d1 => ob (A8 .lss b d1) fun d2 => I5 d2 (ob (A8 .leq a (iI 1500)) fun d3 => D6 d3 (ob (E8 3 (A7 0 c) b) fun d4 => ob (R.p iY [(.list 3 [(H6 d4)])]) fun d5 => ob (O9 .not d5) fun d6 => D6 d6 (some (iI 1501)) (ob (E8 3 (A7 0 c) b) fun d7 => ob (R.p IW [(H6 d7)]) fun d8 => ob (A8 .add a d8) fun d9 => ob (A8 .add b (iI 1)) fun U2 => Ow R d9 U2 c)) (J_ R a (iI 0) c)) (J_ R a (iI 0) c) none) := H5 []
theorem NP : J_ R a b c =
 (ob (dLen (A7 2 c)) fun d1 => ob (A8 .lss b d1) fun d2 => I5 d2 (ob (A8 .leq a (iI 1500)) fun d3 => D6 d3 (ob (E8 3 (A7 2 c) b) fun d4 => ob (R.p W_ [(H6 d4), a]) fun d5 => ob (A8 .add b (iI 1)) fun d6 => J_ R d5 d6 c) (some a)) (some a) none) := H5 []
theorem rP : (run cfg).p W_ [a, b] = z_ (run cfg) a b := P9 Tryz.func25
def fG := eR Tryz.f26 ER HY R [] (F5 Tryz.f26 [(pt i), (a, .val), (b, .val), (c, .val)] s)
def Ig := hR Tryz.f26 ER HY R (pb 982) (ms 250 [(3, a), (9, b), (10, c), (11, d)] [(0, (.ptr i 0))] [(5, bx e 16), (6, bx f 3)] s)
def BM := eR Tryz.f26 ER HY R (pb 31) (ms 250 [(3, a), (9, b), (10, c)] [(0, (.ptr i 0))] [(5, bx d 16), (6, bx e 3)] s)
def Nf := eR Tryz.f26 ER HY R (pb 1028095) (ms 250 [(3, a), (85, b)] [(0, (.ptr i 0))] [(5, bx c 16), (6, bx d 3)] s)
theorem bF : fG R i a b c s =
 (og (C9 16 a) <| og (C9 3 b) <| ob (M7 s i) fun c1 => ob (U4 c1 0) fun d2 => I5 d2 (some ([(iI 1)], s)) (ob (dLen (A7 15 a)) fun d3 => ob (dLen (A7 2 b)) fun d4 => ob (A8 .neq d3 d4) fun d5 => D6 d5 (some ([(iI 1)], s)) (ob (dLen (A7 15 a)) fun d6 => ob (A8 .gtr d6 (iI 0)) fun d7 => I5 d7 (ob (A8 .neq (A7 0 a) (iI 9)) fun d8 => I5 d8 (ob (A8 .neq (A7 0 a) (iI 11)) fun d9 => I5 d9 (ob (A8 .neq (A7 0 a) (iI 12)) fun U2 => I5 U2 (ob (A8 .neq (A7 0 a) (iI 14)) fun V7 => D6 V7 (ob (E8 16 (A7 15 a) (iI 0)) fun Z7 => ob (E8 3 (A7 2 b) (iI 0)) fun Ci => oc (R.r Z6 [(pt i), ((L8 Z7), .val), ((H6 Ci), .val), (c, .val)] s) fun q14 s14 => Ig R i c q14 (iI 1) (iI 1) a b s14) (BM R i c (iI 1) (iI 1) a b s)) (BM R i c (iI 1) (iI 1) a b s) none) (BM R i c (iI 1) (iI 1) a b s) none) (BM R i c (iI 1) (iI 1) a b s) none) (BM R i c (iI 1) (iI 1) a b s) none)) none) := D9 [10, 26]
theorem Mv : Ig R i a b c d e f s =
 (ob (dLen (A7 15 e)) fun d1 => ob (A8 .lss d d1) fun d2 => D6 d2 (ob (E8 16 (A7 15 e) d) fun d3 => ob (E8 3 (A7 2 f) d) fun d4 => oc (R.r Z6 [(pt i), ((L8 d3), .val), ((H6 d4), .val), (a, .val)] s) fun q5 s5 => ob (A8 .add d (iI 1)) fun d6 => Ig R i a b q5 d6 e f s5) (BM R i a b c e f s)) := H5 [10, 26]
theorem Vb : BM R i a b c d e s =
 (ob (A8 .eql (A7 0 d) (iI 1)) fun d1 => D6 d1 (oc (R.r Rq [(pt i), (a, .val), ((A7 3 d), .val), ((A7 0 e), .val)] s) fun q2 s2 => some ([q2], s2)) (ob (A8 .eql (A7 0 d) (iI 6)) fun d3 => D6 d3 (ob (A8 .add b c) fun d4 => ob (A8 .add d4 (iI 1)) fun d5 => oc (R.r Ah [(pt i), (d5, .val)] s) fun q6 s6 => some ([q6], s6)) (ob (A8 .eql (A7 0 d) (iI 7)) fun d7 => D6 d7 (oc (R.r CW [(pt i), ((A7 0 e), .val)] s) fun q8 s8 => ob (A8 .add q8 (iI 1)) fun d9 => oc (R.r Ah [(pt i), (d9, .val)] s8) fun q10 s10 => some ([q10], s10)) (ob (A8 .eql (A7 0 d) (iI 8)) fun V7 => D6 V7 (oc (R.r CW [(pt i), ((A7 0 e), .val)] s) fun q12 s12 => ob (A8 .add q12 (iI 1)) fun Ci => oc (R.r Ah [(pt i), (Ci, .val)] s12) fun q14 s14 => some ([q14], s14)) (ob (A8 .eql (A7 0 d) (iI 9)) fun GK => D6 GK (oc (R.r CW [(pt i), ((A7 0 e), .val)] s) fun q16 s16 =>
 oc (R.r Ed [(pt i), ((.agg [(A7 8 d), (A7 9 d), (A7 10 d)]), .val), (q16, .val)] s16) fun q17 s17 => ob (A8 .add q17 (iI 1)) fun d18 => ob (E8 16 (A7 15 d) (iI 0)) fun d19 => ob (E8 3 (A7 2 e) (iI 0)) fun d20 => ob (R.p LV [a, (A7 3 d), q17]) fun d21 => oc (R.r Z6 [(pt i), ((L8 d19), .val), ((H6 d20), .val), (d21, .val)] s17) fun q22 s22 => ob (A8 .add d18 q22) fun d23 => oc (R.r Ah [(pt i), (d23, .val)] s22) fun q24 s24 => some ([q24], s24)) (ob (A8 .eql (A7 0 d) (iI 10)) fun d25 => D6 d25 (some ([b], s)) (ob (A8 .eql (A7 0 d) (iI 11)) fun d26 => D6 d26 (ob (E8 16 (A7 15 d) (iI 0)) fun d27 => ob (E8 3 (A7 2 e) (iI 0)) fun d28 => oc (R.r Z6 [(pt i), ((L8 d27), .val), ((H6 d28), .val), (a, .val)] s) fun q29 s29 => oc (R.r Ed [(pt i), ((.agg [(A7 8 d), (A7 9 d), (A7 10 d)]), .val), (q29, .val)] s29) fun q30 s30 => ob (E8 16 (A7 15 d) (iI 1)) fun d31 =>
 ob (E8 3 (A7 2 e) (iI 1)) fun d32 => ob (R.p LV [a, (A7 3 d), q30]) fun d33 => oc (R.r Z6 [(pt i), ((L8 d31), .val), ((H6 d32), .val), (d33, .val)] s30) fun q34 s34 => some ([q34], s34)) (Nf R i a (A7 0 d) d e s)))))))) := D9 [10, 26]
theorem Vd : Nf R i a b c d s =
 (ob (A8 .eql b (iI 12)) fun d1 => D6 d1 (oc (R.r CW [(pt i), ((A7 0 d), .val)] s) fun q2 s2 => oc (R.r Ed [(pt i), ((.agg [(A7 8 c), (A7 9 c), (A7 10 c)]), .val), (q2, .val)] s2) fun q3 s3 => ob (A8 .add q3 (iI 1)) fun d4 => oc (R.r IY [(pt i), ((A7 0 d), .val)] s3) fun q5 s5 => oc (R.r Ed [(pt i), ((.agg [(A7 11 c), (A7 12 c), (A7 13 c)]), .val), (q5, .val)] s5) fun q6 s6 => ob (A8 .add d4 q6) fun d7 => oc (R.r Ah [(pt i), (d7, .val)] s6) fun q8 s8 => ob (R.p LV [a, (A7 3 c), q8]) fun d9 => ob (E8 16 (A7 15 c) (iI 0)) fun U2 => ob (E8 3 (A7 2 d) (iI 0)) fun V7 => ob (R.p LV [d9, (A7 4 c), q3]) fun Z7 => oc (R.r Z6 [(pt i), ((L8 U2), .val), ((H6 V7), .val), (Z7, .val)] s8) fun q13 s13 => ob (E8 16 (A7 15 c) (iI 1)) fun ET => ob (E8 3 (A7 2 d) (iI 1)) fun GK => oc (R.r Z6 [(pt i), ((L8 ET), .val), ((H6 GK), .val), (d9, .val)] s13) fun q16 s16 =>
 some ([q16], s16)) (ob (A8 .eql b (iI 13)) fun d17 => D6 d17 (oc (R.r CW [(pt i), ((A7 0 d), .val)] s) fun q18 s18 => some ([q18], s18)) (ob (A8 .eql b (iI 14)) fun d19 => D6 d19 (oc (R.r Rt [(pt i), ((L8 c), .val), ((H6 d), .val), (a, .val)] s) fun q20 s20 => some ([q20], s20)) (ob (A8 .eql b (iI 15)) fun d21 => D6 d21 (oc (R.r Ed [(pt i), ((.agg [(A7 8 c), (A7 9 c), (A7 10 c)]), .val), ((iI 1), .val)] s) fun q22 s22 => some ([q22], s22)) (some ([(iI 1)], s)))))) := D9 [10, 26]
theorem ZE : (run cfg).r Z6 [(.undef, (.ptr i 0)), (a, .val), (b, .val), (c, .val)] s = fG (run cfg) i a b c s := Dl (s := ER) Tryz.func26
def zq := eP Tryz.f27 bg R [] (F5 Tryz.f27 [(a, .val)] [])
def Ot := hP Tryz.f27 bg R (pb 58) (ms 29 [(4, a)] [] [(1, bx b 3), (2, some zb4), (3, some [(c, .val), (d, .val), (e, .own)])] [])
theorem vI : zq R a =
 (og (C9 3 a) <| og (I7 (A7 0 a)) <| og (I7 (A7 1 a)) <| Ot R (iI 0) a (A7 0 a) (A7 1 a) (.list 3 [])) := D9 []
theorem UK : Ot R a b c d e =
 (ob (dLen (A7 2 b)) fun d1 => ob (A8 .lss a d1) fun d2 => D6 d2 (ob (E8 3 (A7 2 b) a) fun d3 => ob (R.p MX [(H6 d3)]) fun d4 => og (C9 3 d4) <| ob (R8 3 e (.list 3 [d4])) fun d5 => ob (A8 .add a (iI 1)) fun d6 => Ot R d6 b c d d5) (some (.agg [c, d, e]))) := H5 []
theorem rF : (run cfg).p MX [a] = zq (run cfg) a := P9 Tryz.func27
def A17 := eP Tryz.f28 jM R [] (F5 Tryz.f28 [(a, .val)] [])
def RA := hP Tryz.f28 jM R (pb 122) (ms 26 [(4, a)] [] [(1, bx b 7), (2, bv [(iI 0), (iI 0), (iI 0), (.str ⟨#[]⟩), (iI 0), (.str ⟨#[]⟩), (.list 7 [])]), (3, some [(c, .val), (d, .val), (e, .val), (f, .val), (g, .val), (h, .val), (o, .own)])] [])
theorem A0D : A17 R a =
 (og (C9 7 a) <| RA R (iI 0) a (A7 0 a) (A7 1 a) (A7 2 a) (A7 3 a) (A7 4 a) (A7 5 a) (.list 7 [])) := D9 []
theorem Vz : RA R a b c d e f g h o =
 (ob (dLen (A7 6 b)) fun d1 => ob (A8 .lss a d1) fun d2 => D6 d2 (ob (E8 7 (A7 6 b) a) fun d3 => ob (R.p ZN [(Gb d3)]) fun d4 => og (C9 7 d4) <| ob (R8 7 o (.list 7 [d4])) fun d5 => ob (A8 .add a (iI 1)) fun d6 => RA R d6 b c d e f g h d5) (some (.agg [c, d, e, f, g, h, o]))) := H5 []
theorem wP : (run cfg).p ZN [a] = A17 (run cfg) a := P9 Tryz.func28
def uQ := eP Tryz.f29 Yh R [] (F5 Tryz.f29 [(a, .val)] [])
def ND := hP Tryz.f29 Yh R (pb 58) (ms 20 [(0, a), (3, b), (4, c)] [(3, .own)] [] [])
theorem qP : uQ R a =
 (ND R a (.list 3 []) (iI 0)) := D9 []
theorem R_ : ND R a b c =
 (ob (dLen a) fun d1 => ob (A8 .lss c d1) fun d2 => D6 d2 (ob (E8 3 a c) fun d3 => ob (R.p MX [(H6 d3)]) fun d4 => og (C9 3 d4) <| ob (R8 3 b (.list 3 [d4])) fun d5 => ob (A8 .add c (iI 1)) fun d6 => ND R a d5 d6) (some b)) := H5 []
theorem lN : (run cfg).p aO [a] = uQ (run cfg) a := P9 Tryz.func29
def uK := eP Tryz.f30 sS R [] (F5 Tryz.f30 [(a, .val), (b, .val), (c, .val)] [])
theorem qJ : uK R a b c =
 (og (C9 16 a) <| og (C9 3 b) <| ob (R.p TS [(L8 a)]) fun d1 => ob (A8 .neq d1 (iI 0)) fun d2 => I5 d2 (some (.I6 [zA3, (.list 8 []), (.agg [(iI 0), (iI 0), (.list 3 [])]), (iI 1)])) (ob (R.p Qw [(H6 b)]) fun d3 => ob (O9 .not d3) fun d4 => D6 d4 (some (.I6 [zA3, (.list 8 []), (.agg [(iI 0), (iI 0), (.list 3 [])]), (iI 1)])) (og (I7 c) <| oc (R.r GR [(pt 1), ((L8 a), .val), ((H6 b), .val), ((.list 5 []), .val)] [.map false [], D7.box [(c, .val), (.undef, (.map 0)), ((.list 8 []), .full), ((iI 0), .val)]]) fun q5 s5 => og (C9 23 q5) <| oc (R.r Al [(pt 1)] s5) fun q6 s6 => ob (O9 .not q6) fun d7 => D6 d7 (ob (M7 s6 1) fun c8 => ob (U4 c8 3) fun d9 => some (.I6 [zA3, (.list 8 []), (.agg [(iI 0), (iI 0), (.list 3 [])]), d9])) (ob (M7 s6 1) fun c10 => ob (U4 c10 2) fun V7 => some (.I6 [(.agg [(A7 3 q5), (A7 4 q5), (A7 5 q5), (A7 6 q5), (A7 7 q5), (A7 8 q5), (A7 9 q5), (A7 10 q5), (A7 11 q5), (A7 12 q5), (A7 13 q5), (A7 14 q5), (A7 15 q5), (A7 16 q5), (A7 17 q5), (A7 18 q5), (A7 19 q5), (A7 20 q5), (A7 21 q5), (A7 22 q5)]), V7, (.agg [(A7 0 q5), (A7 1 q5), (A7 2 q5)]), (iI 0)])))) none) := D9 []
theorem lH : (run cfg).p aL [a, b, c] = uK (run cfg) a b c := P9 Tryz.func30
end
end Go.Su

/-
 Equations of the program's functions: by program.
-/
namespace Go.Su
set_option maxRecDepth 100000
noncomputable section
open Go.Proofs
variable (R : N7) (i j k l m n : Nat) (a b c d e f g h o p q r t u v w x y z A B C D E F G H I J K L M N O P Q S T U V W X Y Z a1 a2 a3 a4 a5 a6 a7 a8 a9 ai VZ a12 a13 a14 Yv a16 a17 a18 a19 a20 a21 a22 a23 a24 a25 a26 a27 a28 a29 a30 a31 a32 a33 a34 a35 a36 a37 a38 a39 a40 a41 a42 a43 a44 a45 a46 a47 a48 a49 a50 a51 a52 a53 a54 a55 a56 a57 a58 a59 : DV) (s : List D7)
def uU := eR Tryz.f32 Kz Rf R [] (F5 Tryz.f32 [(pt i), (a, .val), (b, .val), (c, .val), (d, .val)] s)
def Fa := eR Tryz.f32 Kz Rf R (pb 4014) (ms 181 [] [] [(6, bx a 16), (10, some zb3), (12, some zb3)] s)
def Tt := eR Tryz.f32 Kz Rf R (pb 64255) (ms 181 [(3, a), (4, b), (11, c), (29, d)] [(0, (.ptr i 0))] [(6, bx e 16), (7, bx f 3), (10, bv [g, h, o, p]), (12, some [((iI 0), .val), ((iI 0), .val), ((.list 3 []), .own), ((.list 4 []), .own)])] s)
theorem qW : uU R i a b c d s =
 (og (C9 16 a) <| og (C9 3 b) <| oc (R.r QT [(pt i), ((L8 a), .val), ((H6 b), .val), (c, .val), (d, .val)] s) fun q1 s1 => ob (M7 s1 i) fun c2 => ob (U4 c2 0) fun d3 => ob (A8 .neq d3 (iI 0)) fun d4 => D6 d4 (some ([(.agg [(iI 0), (iI 0), (.list 3 []), (.list 4 [])])], s1)) (ob (A8 .eql (A7 0 a) (iI 1)) fun d5 => D6 d5 (ob (R.p ZV [c, (A7 3 a)]) fun d6 => ob (E8 5 c d6) fun d7 => ob (R.p ig [(A7 4 d7), (A7 0 b)]) fun d8 => ob (R.p fA [(.agg [(A7 1 d7), (A7 2 d7), (A7 3 d7)]), d8]) fun d9 => og (C9 3 d9) <| some ([(.agg [(A7 0 d9), (A7 1 d9), (A7 2 d9), (.list 4 [])])], s1)) (ob (A8 .eql (A7 0 a) (iI 2)) fun U2 => D6 U2 (Fa R a s1) (ob (A8 .eql (A7 0 a) (iI 3)) fun V7 => D6 V7 (Fa R a s1) (ob (A8 .eql (A7 0 a) (iI 4)) fun Z7 => D6 Z7 (Fa R a s1) (ob (A8 .eql (A7 0 a) (iI 5)) fun Ci => D6 Ci (Fa R a s1) (ob (A8 .eql (A7 0 a) (iI 6)) fun ET => D6 ET (oc (R.r AJ [(pt i), ((L8 a), .val), ((H6 b), .val), ((iI 0), .val), (c, .val), (d, .val), ((.agg [(iI 0), (iI 0), (.list 3 []), (.list 4 [])]), (.Ad [.val, .val, .val, .own]))] s1) fun q15 s15 =>
 og (C9 4 q15) <| oc (R.r AJ [(pt i), ((L8 a), .val), ((H6 b), .val), ((iI 1), .val), (c, .val), (d, .val), ((.agg [(A7 0 q15), (A7 1 q15), (A7 2 q15), (A7 3 q15)]), (.Ad [.val, .val, .val, .own]))] s15) fun q16 s16 => og (C9 4 q16) <| ob (R.p AC [(.agg [(A7 0 q16), (A7 1 q16), (A7 2 q16), (A7 3 q16)]), (iI 0)]) fun d17 => ob (R.p AC [(.agg [(A7 0 q16), (A7 1 q16), (A7 2 q16), (A7 3 q16)]), (iI 1)]) fun d18 => ob (R.p IX [(iI 7), d17, d18]) fun d19 => og (C9 3 d19) <| some ([(.agg [(A7 0 d19), (A7 1 d19), (A7 2 d19), (A7 3 q16)])], s16)) (ob (A8 .eql (A7 0 a) (iI 7)) fun d20 => D6 d20 (ob (E8 3 (A7 0 b) (iI 0)) fun d21 => ob (R.p TN [(H6 d21)]) fun d22 => og (C9 3 d22) <| some ([(.agg [(A7 0 d22), (A7 1 d22), (A7 2 d22), (.list 4 [])])], s1)) (Tt R i c d q1 (A7 0 a) a b (iI 0) (iI 0) (.list 3 []) (.list 4 []) s1))))))))) := D9 [14, 21]
theorem bG : Fa R a s =
 (ob (A8 .sub (A7 0 a) (iI 2)) fun d1 => ob (A8 .add d1 (iI 1)) fun d2 => ob (R.p BC [d2]) fun d3 => og (C9 3 d3) <| some ([(.agg [(A7 0 d3), (A7 1 d3), (A7 2 d3), (.list 4 [])])], s)) := D9 [14, 21]
theorem bH : Tt R i a b c d e f g h o p s =
 (ob (A8 .eql d (iI 8)) fun d1 => D6 d1 (oc (R.r AJ [(pt i), ((L8 e), .val), ((H6 f), .val), ((iI 0), .val), (a, .val), (b, .val), ((.agg [(iI 0), (iI 0), (.list 3 []), (.list 4 [])]), (.Ad [.val, .val, .val, .own]))] s) fun q2 s2 => og (C9 4 q2) <| ob (R.p AC [(.agg [(A7 0 q2), (A7 1 q2), (A7 2 q2), (A7 3 q2)]), (iI 0)]) fun d3 => ob (E8 3 (A7 0 f) (iI 0)) fun d4 => oc (R.r Bc [(pt i), (d3, .val), ((H6 d4), .val)] s2) fun q5 s5 => oc (R.r AJ [(pt i), ((L8 e), .val), ((H6 f), .val), ((iI 1), .val), (a, .val), (b, .val), ((.agg [(A7 0 q2), (A7 1 q2), (A7 2 q2), (A7 3 q2)]), (.Ad [.val, .val, .val, .own]))] s5) fun q6 s6 => og (C9 4 q6) <| ob (E8 3 (A7 0 f) (iI 0)) fun d7 => ob (R.p TN [(H6 d7)]) fun d8 => og (C9 3 d8) <| ob (R.p AC [(.agg [(A7 0 d8), (A7 1 d8), (A7 2 d8), (A7 3 q6)]), (iI 1)]) fun d9 =>
 oc (R.r Bc [(pt i), (d9, .val), ((H6 d8), .val)] s6) fun q10 s10 => some ([(.agg [(A7 0 d8), (A7 1 d8), (A7 2 d8), (A7 3 q6)])], s10)) (ob (A8 .eql d (iI 9)) fun V7 => D6 V7 (ob (R.p XG [(.agg [(A7 8 e), (A7 9 e), (A7 10 e)]), (A7 0 f)]) fun Z7 => og (C9 3 Z7) <| ob (R.p QU [a, (A7 3 e), (H6 Z7)]) fun Ci => oc (R.r AJ [(pt i), ((L8 e), .val), ((H6 f), .val), ((iI 0), .val), (Ci, .val), (b, .val), ((.agg [(iI 0), (iI 0), (.list 3 []), (.list 4 [])]), (.Ad [.val, .val, .val, .own]))] s) fun q14 s14 => og (C9 4 q14) <| ob (R.p AC [(.agg [(A7 0 q14), (A7 1 q14), (A7 2 q14), (A7 3 q14)]), (iI 0)]) fun GK => ob (R.p IX [(iI 9), (H6 Z7), GK]) fun d16 => og (C9 3 d16) <| some ([(.agg [(A7 0 d16), (A7 1 d16), (A7 2 d16), (A7 3 q14)])], s14)) (ob (A8 .eql d (iI 10)) fun d17 => D6 d17 (oc (R.r il [(pt i), ((L8 e), .val), ((H6 f), .val), (a, .val), (b, .val)] s) fun q18 s18 =>
 og (C9 4 q18) <| some ([(.agg [(A7 0 q18), (A7 1 q18), (A7 2 q18), (A7 3 q18)])], s18)) (ob (A8 .eql d (iI 11)) fun d19 => D6 d19 (oc (R.r QS [(pt i), ((L8 e), .val), ((H6 f), .val), (a, .val), (b, .val), (c, .val)] s) fun q20 s20 => og (C9 4 q20) <| some ([(.agg [(A7 0 q20), (A7 1 q20), (A7 2 q20), (A7 3 q20)])], s20)) (ob (A8 .eql d (iI 12)) fun d21 => D6 d21 (oc (R.r QS [(pt i), ((L8 e), .val), ((H6 f), .val), (a, .val), (b, .val), (c, .val)] s) fun q22 s22 => og (C9 4 q22) <| some ([(.agg [(A7 0 q22), (A7 1 q22), (A7 2 q22), (A7 3 q22)])], s22)) (ob (A8 .eql d (iI 14)) fun d23 => D6 d23 (oc (R.r YQ [(pt i), ((L8 e), .val), ((H6 f), .val), (a, .val), (b, .val)] s) fun q24 s24 => og (C9 4 q24) <| some ([(.agg [(A7 0 q24), (A7 1 q24), (A7 2 q24), (A7 3 q24)])], s24)) (oc (R.r aR [(pt i), ((L8 e), .val), ((H6 f), .val), (a, .val), (b, .val)] s) fun q25 s25 =>
 og (C9 4 q25) <| some ([(.agg [(A7 0 q25), (A7 1 q25), (A7 2 q25), (A7 3 q25)])], s25)))))))) := D9 [14, 21]
theorem lT : (run cfg).r TP [(.undef, (.ptr i 0)), (a, .val), (b, .val), (c, .val), (d, .val)] s = uU (run cfg) i a b c d s := Dl (s := Kz) Tryz.func32
def A2i := eP Tryz.f33 Qm R [] (F5 Tryz.f33 [(a, .val), (b, .val)] [])
def uS := eP Tryz.f33 Qm R (pb 7) (ms 117 [] [] [(2, bx a 16), (3, bx b 16)] [])
def RG := hP Tryz.f33 Qm R (pb 122) (ms 117 [(5, a)] [] [(2, bx b 16), (3, bx c 16)] [])
def Oz := hP Tryz.f33 Qm R (pb 250) (ms 117 [(6, a)] [] [(2, bx b 16), (3, bx c 16)] [])
theorem A0O : A2i R a b =
 (og (C9 16 a) <| og (C9 16 b) <| ob (A8 .neq (A7 0 a) (A7 0 b)) fun d1 => I5 d1 (some (.bool false)) (ob (A8 .neq (A7 3 a) (A7 3 b)) fun d2 => I5 d2 (some (.bool false)) (ob (A8 .neq (A7 4 a) (A7 4 b)) fun d3 => I5 d3 (some (.bool false)) (ob (A8 .neq (A7 5 a) (A7 5 b)) fun d4 => I5 d4 (some (.bool false)) (ob (A8 .neq (A7 6 a) (A7 6 b)) fun d5 => I5 d5 (some (.bool false)) (ob (A8 .neq (A7 7 a) (A7 7 b)) fun d6 => I5 d6 (some (.bool false)) (ob (dLen (A7 14 a)) fun d7 => ob (dLen (A7 14 b)) fun d8 => ob (A8 .neq d7 d8) fun d9 => I5 d9 (some (.bool false)) (ob (dLen (A7 15 a)) fun U2 => ob (dLen (A7 15 b)) fun V7 => ob (A8 .neq U2 V7) fun Z7 => D6 Z7 (some (.bool false)) (uS R a b)) none) none) none) none) none) none) none) := D9 [3]
theorem qR : uS R a b =
 (ob (R.p Ez [(.agg [(A7 8 a), (A7 9 a), (A7 10 a)]), (.agg [(A7 8 b), (A7 9 b), (A7 10 b)])]) fun d1 => ob (O9 .not d1) fun d2 => I5 d2 (some (.bool false)) (ob (R.p Ez [(.agg [(A7 11 a), (A7 12 a), (A7 13 a)]), (.agg [(A7 11 b), (A7 12 b), (A7 13 b)])]) fun d3 => ob (O9 .not d3) fun d4 => D6 d4 (some (.bool false)) (RG R (iI 0) a b)) none) := D9 [3]
theorem WF : RG R a b c =
 (ob (dLen (A7 14 b)) fun d1 => ob (A8 .lss a d1) fun d2 => D6 d2 (ob (E8 7 (A7 14 b) a) fun d3 => ob (E8 7 (A7 14 c) a) fun d4 => ob (R.p Qy [(Gb d3), (Gb d4)]) fun d5 => ob (O9 .not d5) fun d6 => D6 d6 (some (.bool false)) (ob (A8 .add a (iI 1)) fun d7 => RG R d7 b c)) (Oz R (iI 0) b c)) := H5 [3]
theorem UZ : Oz R a b c =
 (ob (dLen (A7 15 b)) fun d1 => ob (A8 .lss a d1) fun d2 => D6 d2 (ob (E8 16 (A7 15 b) a) fun d3 => ob (E8 16 (A7 15 c) a) fun d4 => ob (R.p ZQ [(L8 d3), (L8 d4)]) fun d5 => ob (O9 .not d5) fun d6 => D6 d6 (some (.bool false)) (ob (A8 .add a (iI 1)) fun d7 => Oz R d7 b c)) (some (.bool true))) := H5 [3]
theorem wh : (run cfg).p ZQ [a, b] = A2i (run cfg) a b := P9 Tryz.func33
def A0m := eP Tryz.f34 cu R [] (F5 Tryz.f34 [(a, .val), (b, .val)] [])
def PD := hP Tryz.f34 cu R (pb 58) (ms 30 [(5, a)] [] [(2, bx b 7), (3, bx c 7)] [])
theorem vk : A0m R a b =
 (og (C9 7 a) <| og (C9 7 b) <| ob (jI [.int, .int] (.agg [(A7 1 a), (A7 2 a)]) (.agg [(A7 1 b), (A7 2 b)])) fun b1 => D6 (.bool !b1) (some (.bool false)) (PD R (iI 0) a b)) := D9 []
theorem Ub : PD R a b c =
 (ob (dLen (A7 6 b)) fun d1 => ob (A8 .lss a d1) fun d2 => D6 d2 (ob (E8 7 (A7 6 b) a) fun d3 => ob (E8 7 (A7 6 c) a) fun d4 => ob (R.p XE [(Gb d3), (Gb d4)]) fun d5 => ob (O9 .not d5) fun d6 => D6 d6 (some (.bool false)) (ob (A8 .add a (iI 1)) fun d7 => PD R d7 b c)) (some (.bool true))) := H5 []
theorem rz : (run cfg).p XE [a, b] = A0m (run cfg) a b := P9 Tryz.func34
def jy := eP Tryz.f35 Ur R [] (F5 Tryz.f35 [(a, .val), (b, .val)] [])
def Je := hP Tryz.f35 Ur R (pb 58) (ms 27 [(0, a), (1, b), (5, c)] [] [] [])
theorem fV : jy R a b =
 (ob (dLen a) fun d1 => ob (dLen b) fun d2 => ob (A8 .neq d1 d2) fun d3 => D6 d3 (some (.bool false)) (Je R a b (iI 0))) := D9 []
theorem Nu : Je R a b c =
 (ob (dLen a) fun d1 => ob (A8 .lss c d1) fun d2 => D6 d2 (ob (E8 3 a c) fun d3 => ob (E8 3 b c) fun d4 => ob (R.p JG [(H6 d3), (H6 d4)]) fun d5 => ob (O9 .not d5) fun d6 => D6 d6 (some (.bool false)) (ob (A8 .add c (iI 1)) fun d7 => Je R a b d7)) (some (.bool true))) := H5 []
theorem bS : (run cfg).p Vm [a, b] = jy (run cfg) a b := P9 Tryz.func35
def zn := eP Tryz.f36 bY R [] (F5 Tryz.f36 [(a, .val), (b, .val)] [])
def Oo := hP Tryz.f36 bY R (pb 58) (ms 26 [(0, a), (1, b), (5, c)] [] [] [])
theorem vG : zn R a b =
 (ob (dLen a) fun d1 => ob (dLen b) fun d2 => ob (A8 .neq d1 d2) fun d3 => D6 d3 (some (.bool false)) (Oo R a b (iI 0))) := D9 []
theorem UI : Oo R a b c =
 (ob (dLen a) fun d1 => ob (A8 .lss c d1) fun d2 => D6 d2 (ob (E8 1 a c) fun d3 => og (M9 d3) <| ob (E8 1 b c) fun d4 => og (M9 d4) <| ob (A8 .neq d3 d4) fun d5 => D6 d5 (some (.bool false)) (ob (A8 .add c (iI 1)) fun d6 => Oo R a b d6)) (some (.bool true))) := H5 []
theorem rD : (run cfg).p iV [a, b] = zn (run cfg) a b := P9 Tryz.func36
def A2b := eP Tryz.f37 A1d R [] (F5 Tryz.f37 [(a, .val)] [])
theorem A0H : A2b R a =
 (og (I7 a) <| some (.agg [a, (iI 0), (.list 3 [])])) := D9 []
theorem wT : (run cfg).p BC [a] = A2b (run cfg) a := P9 Tryz.func37
def A4t := eP Tryz.f39 A23 R [] (F5 Tryz.f39 [(a, .val), (b, .val), (c, .val)] [])
theorem nX : A4t R a b c =
 (og (C9 3 b) <| og (C9 3 c) <| og (I7 a) <| some (.agg [a, (iI 0), (.list 3 [(H6 b), (H6 c)])])) := D9 []
theorem jL : (run cfg).p IX [a, b, c] = A4t (run cfg) a b c := P9 Tryz.func39
def A4v := eP Tryz.f40 Ze R [] (F5 Tryz.f40 [(a, .val)] [])
def iy := eP Tryz.f40 Ze R (pb 15) (ms 137 [] [] [(1, bx a 16), (3, bx b 16)] [])
def i_ := eP Tryz.f40 Ze R (pb 31) (ms 137 [] [] [(1, bx a 16)] [])
theorem A2S : A4v R a =
 (og (C9 16 a) <| ob (R.p aQ [(L8 a)]) fun d1 => ob (O4 0 d1) fun d2 => ob (O4 1 d1) fun d3 => og (C9 16 d2) <| ob (dLen (A7 15 a)) fun d4 => ob (A8 .neq d3 d4) fun d5 => I5 d5 (some (.bool false)) (ob (A8 .neq (A7 3 a) (A7 3 d2)) fun d6 => I5 d6 (some (.bool false)) (ob (A8 .neq (A7 4 a) (A7 4 d2)) fun d7 => I5 d7 (some (.bool false)) (ob (A8 .neq (A7 5 a) (A7 5 d2)) fun d8 => I5 d8 (some (.bool false)) (ob (A8 .neq (A7 6 a) (A7 6 d2)) fun d9 => I5 d9 (some (.bool false)) (ob (A8 .neq (A7 7 a) (A7 7 d2)) fun U2 => I5 U2 (some (.bool false)) (ob (dLen (A7 14 a)) fun V7 => ob (dLen (A7 14 d2)) fun Z7 => ob (A8 .neq V7 Z7) fun Ci => D6 Ci (some (.bool false)) (iy R a d2)) none) none) none) none) none) none) := D9 [4, 6]
theorem ve : iy R a b =
 (ob (R.p Ez [(.agg [(A7 8 a), (A7 9 a), (A7 10 a)]), (.agg [(A7 8 b), (A7 9 b), (A7 10 b)])]) fun d1 => ob (O9 .not d1) fun d2 => I5 d2 (some (.bool false)) (ob (R.p Ez [(.agg [(A7 11 a), (A7 12 a), (A7 13 a)]), (.agg [(A7 11 b), (A7 12 b), (A7 13 b)])]) fun d3 => ob (O9 .not d3) fun d4 => D6 d4 (some (.bool false)) (i_ R a)) none) := D9 [4, 6]
theorem vg : i_ R a =
 (ob (A8 .neq (A7 0 a) (iI 15)) fun d1 => ob (R.p ZT [(.agg [(A7 8 a), (A7 9 a), (A7 10 a)]), d1]) fun d2 => ob (O9 .not d2) fun d3 => I5 d3 (some (.bool false)) (ob (R.p ZT [(.agg [(A7 11 a), (A7 12 a), (A7 13 a)]), (.bool true)]) fun d4 => ob (O9 .not d4) fun d5 => D6 d5 (some (.bool false)) (ob (A8 .eql (A7 0 a) (iI 1)) fun d6 => D6 d6 (ob (R.p IV [(A7 3 a)]) fun d7 => some d7) (ob (A8 .eql (A7 0 a) (iI 9)) fun d8 => D6 d8 (ob (R.p IV [(A7 3 a)]) fun d9 => some d9) (ob (A8 .eql (A7 0 a) (iI 11)) fun U2 => D6 U2 (ob (R.p IV [(A7 3 a)]) fun V7 => some V7) (ob (A8 .eql (A7 0 a) (iI 12)) fun Z7 => D6 Z7 (ob (R.p IV [(A7 3 a)]) fun Ci => I5 Ci (ob (R.p IV [(A7 4 a)]) fun ET => some ET) (some (.bool false)) none) (ob (A8 .eql (A7 0 a) (iI 3)) fun GK => D6 GK (ob (A8 .eql (A7 5 a) (iI 0)) fun d16 => I5 d16 (some (.bool true)) (ob (A8 .eql (A7 5 a) (iI 1)) fun d17 => some d17) none) (ob (A8 .eql (A7 0 a) (iI 4)) fun d18 => D6 d18 (ob (Dr (A7 6 a)) fun d19 => ob (A8 .leq d19 (iI 200)) fun d20 =>
 some d20) (ob (A8 .eql (A7 0 a) (iI 14)) fun d21 => D6 d21 (ob (dLen (A7 14 a)) fun d22 => ob (A8 .gtr d22 (iI 0)) fun d23 => some d23) (ob (A8 .eql (A7 0 a) (iI 16)) fun d24 => D6 d24 (ob (A8 .geq (A7 7 a) (iI 1)) fun d25 => I5 d25 (ob (A8 .leq (A7 7 a) (iI 7)) fun d26 => some d26) (some (.bool false)) none) (some (.bool true))))))))))) none) := D9 [4, 6]
theorem A07 : (run cfg).p uG [a] = A4v (run cfg) a := P9 Tryz.func40
def kC := eP Tryz.f41 Uw R [] (F5 Tryz.f41 [(a, .val)] [])
def Ji := hP Tryz.f41 Uw R (pb 122) (ms 24 [(3, a), (4, b)] [] [] [])
theorem fo : kC R a =
 (og (C9 7 a) <| ob (R.p eu [(Gb a)]) fun d1 => ob (O9 .not d1) fun d2 => D6 d2 (some (.bool false)) (ob (R.p XC [(Gb a)]) fun d3 => Ji R d3 (iI 0))) := D9 []
theorem Ny : Ji R a b =
 (ob (dLen a) fun d1 => ob (A8 .lss b d1) fun d2 => D6 d2 (ob (Ca 1 a none (some b)) fun d3 => ob (E8 1 a b) fun d4 => og (M9 d4) <| ob (R.p uF [d3, d4]) fun d5 => D6 d5 (some (.bool false)) (ob (A8 .add b (iI 1)) fun d6 => Ji R a d6)) (some (.bool true))) := H5 []
theorem bT : (run cfg).p Vn [a] = kC (run cfg) a := P9 Tryz.func41
def A0h := eP Tryz.f42 cK R [] (F5 Tryz.f42 [(a, .val)] [])
def Gh := hP Tryz.f42 cK R (pb 58) (ms 45 [(3, a)] [] [(1, bx b 3)] [])
theorem vV : A0h R a =
 (og (C9 3 a) <| ob (R.p nI [(A7 0 a)]) fun d1 => ob (dLen (A7 2 a)) fun d2 => ob (A8 .neq d1 d2) fun d3 => I5 d3 (some (.bool false)) (ob (A8 .lss (A7 1 a) (iI 0)) fun d4 => I5 d4 (some (.bool false)) (ob (A8 .gtr (A7 1 a) (iI 1048576)) fun d5 => I5 d5 (some (.bool false)) (ob (A8 .neq (A7 0 a) (iI 6)) fun d6 => I5 d6 (ob (A8 .neq (A7 1 a) (iI 0)) fun d7 => D6 d7 (some (.bool false)) (Gh R (iI 0) a)) (Gh R (iI 0) a) none) none) none) none) := D9 []
theorem UW : Gh R a b =
 (ob (dLen (A7 2 b)) fun d1 => ob (A8 .lss a d1) fun d2 => D6 d2 (ob (E8 3 (A7 2 b) a) fun d3 => ob (R.p QP [(H6 d3)]) fun d4 => ob (O9 .not d4) fun d5 => D6 d5 (some (.bool false)) (ob (A8 .add a (iI 1)) fun d6 => Gh R d6 b)) (some (.bool true))) := H5 []
theorem rW : (run cfg).p QP [a] = A0h (run cfg) a := P9 Tryz.func42
def uI := eP Tryz.f43 sQ R [] (F5 Tryz.f43 [(a, .val)] [])
theorem A5m : uI R a =
 (og (C9 3 a) <| oc (R.r YN [((H6 a), .val), (.undef, (.map 0))] [.map false []]) fun q1 s1 => oc (R.r nG [((H6 a), .val), (.undef, (.map 0))] s1) fun q2 s2 => og (C9 3 q2) <| some (.agg [(A7 0 q2), (A7 1 q2), (A7 2 q2)])) := D9 []
theorem A30 : (run cfg).p uC [a] = uI (run cfg) a := P9 Tryz.func43
end
end Go.Su

/-
 Equations of the program's functions: by program.
-/
namespace Go.Su
set_option maxRecDepth 100000
noncomputable section
open Go.Proofs
variable (R : N7) (i j k l m n : Nat) (a b c d e f g h o p q r t u v w x y z A B C D E F G H I J K L M N O P Q S T U V W X Y Z a1 a2 a3 a4 a5 a6 a7 a8 a9 ai VZ a12 a13 a14 Yv a16 a17 a18 a19 a20 a21 a22 a23 a24 a25 a26 a27 a28 a29 a30 a31 a32 a33 a34 a35 a36 a37 a38 a39 a40 a41 a42 a43 a44 a45 a46 a47 a48 a49 a50 a51 a52 a53 a54 a55 a56 a57 a58 a59 : DV) (s : List D7)
def uY := eR Tryz.f44 K_ Rh R [] (F5 Tryz.f44 [(pt i), (a, .val), (b, .val), (c, .val)] s)
def Fe := hR Tryz.f44 K_ Rh R (pb 58) (ms 199 [(9, a), (10, b)] [(0, (.ptr i 0)), (9, .own)] [(5, bx c 16), (6, bx d 3), (7, bx e 4), (8, some zb0)] s)
def Tw := eR Tryz.f44 K_ Rh R (pb 4014) (ms 199 [] [] [(5, bx a 16), (8, some zb0), (13, bv [(iI 0), (iI 0), (iI 0), (.str ⟨#[]⟩), (.str ⟨#[]⟩), (iI 0), (.str ⟨#[]⟩), (iI 0), (iI 0), (.bool false), (.list 1 []), (iI 0), (iI 0), (.list 3 []), (iI 0), (iI 0), (.list 3 []), (.list 3 []), (.list 7 []), b])] s)
theorem qZ : uY R i a b c s =
 (og (C9 16 a) <| og (C9 3 b) <| og (C9 4 c) <| Fe R i (.list 20 []) (iI 0) a b c s) := D9 [17]
theorem SL : Fe R i a b c d e s =
 (ob (dLen (A7 15 c)) fun d1 => ob (A8 .lss b d1) fun d2 => D6 d2 (ob (E8 16 (A7 15 c) b) fun d3 => ob (E8 3 (A7 2 d) b) fun d4 => ob (E8 4 (A7 3 e) b) fun d5 => oc (R.r TQ [(pt i), ((L8 d3), .val), ((H6 d4), .val), ((.agg [(A7 0 d5), (A7 1 d5), (A7 2 d5), (A7 3 d5)]), .val)] s) fun q6 s6 => og (C9 20 q6) <| ob (R.p XH [(L8 c), (H6 d), (.agg [(A7 0 e), (A7 1 e), (A7 2 e), (A7 3 e)])]) fun d7 => ob (E8 3 d7 b) fun d8 => ob (R.p DX [(H6 d8)]) fun d9 => ob (O9 .not d9) fun U2 => D6 U2 (ob (E8 4 (A7 3 e) b) fun V7 => ob (E8 3 d7 b) fun Z7 => ob (E8 16 (A7 15 c) b) fun Ci => oc (R.r aS [(pt i), ((.agg [(A7 0 q6), (A7 1 q6), (A7 2 q6), (A7 3 q6), (A7 4 q6), (A7 5 q6), (A7 6 q6), (A7 7 q6), (A7 8 q6), (A7 9 q6), (A7 10 q6), (A7 11 q6), (A7 12 q6), (A7 13 q6), (A7 14 q6), (A7 15 q6), (A7 16 q6), (A7 17 q6), (A7 18 q6), (A7 19 q6)]), .val), ((H6 V7), .val), ((H6 Z7), .val), ((.agg [(A7 1 Ci), (A7 2 Ci)]), .val)] s6) fun q14 s14 =>
 og (C9 20 q14) <| ob (R8 20 a (.list 20 [(.agg [(A7 0 q14), (A7 1 q14), (A7 2 q14), (A7 3 q14), (A7 4 q14), (A7 5 q14), (A7 6 q14), (A7 7 q14), (A7 8 q14), (A7 9 q14), (A7 10 q14), (A7 11 q14), (A7 12 q14), (A7 13 q14), (A7 14 q14), (A7 15 q14), (A7 16 q14), (A7 17 q14), (A7 18 q14), (A7 19 q14)])])) fun GK => ob (A8 .add b (iI 1)) fun d16 => Fe R i GK d16 c d e s14) (ob (R8 20 a (.list 20 [(.agg [(A7 0 q6), (A7 1 q6), (A7 2 q6), (A7 3 q6), (A7 4 q6), (A7 5 q6), (A7 6 q6), (A7 7 q6), (A7 8 q6), (A7 9 q6), (A7 10 q6), (A7 11 q6), (A7 12 q6), (A7 13 q6), (A7 14 q6), (A7 15 q6), (A7 16 q6), (A7 17 q6), (A7 18 q6), (A7 19 q6)])])) fun d17 =>
 ob (A8 .add b (iI 1)) fun d18 => Fe R i d17 d18 c d e s6)) (og (I7 a) <| ob (A8 .eql (A7 0 c) (iI 1)) fun d19 => D6 d19 (og (I7 (A7 3 c)) <| og (I7 (A7 0 d)) <| some ([(.agg [(iI 1), (iI 0), (iI 0), (A7 3 c), (.str ⟨#[]⟩), (iI 0), (.str ⟨#[]⟩), (iI 0), (iI 0), (.bool false), (.list 1 []), (iI 0), (iI 0), (.list 3 []), (iI 0), (iI 0), (.list 3 []), (A7 0 d), (.list 7 []), a])], s)) (ob (A8 .eql (A7 0 c) (iI 2)) fun d20 => D6 d20 (Tw R c a s) (ob (A8 .eql (A7 0 c) (iI 3)) fun d21 => D6 d21 (Tw R c a s) (ob (A8 .eql (A7 0 c) (iI 4)) fun d22 => D6 d22 (og (I7 (A7 6 c)) <| some ([(.agg [(iI 4), (iI 0), (iI 0), (.str ⟨#[]⟩), (.str ⟨#[]⟩), (iI 0), (A7 6 c), (iI 0), (iI 0), (.bool false), (.list 1 []), (iI 0), (iI 0), (.list 3 []), (iI 0), (iI 0), (.list 3 []), (.list 3 []), (.list 7 []), a])], s)) (ob (A8 .eql (A7 0 c) (iI 5)) fun d23 => D6 d23 (some ([(.agg [(iI 5), (iI 0), (iI 0), (.str ⟨#[]⟩), (.str ⟨#[]⟩), (iI 0), (.str ⟨#[]⟩), (iI 0), (iI 0), (.bool false), (.list 1 []), (iI 0), (iI 0), (.list 3 []), (iI 0), (iI 0), (.list 3 []), (.list 3 []), (.list 7 []), a])], s)) (ob (A8 .eql (A7 0 c) (iI 6)) fun d24 =>
 D6 d24 (some ([(.agg [(iI 6), (iI 0), (iI 0), (.str ⟨#[]⟩), (.str ⟨#[]⟩), (iI 0), (.str ⟨#[]⟩), (iI 0), (iI 0), (.bool false), (.list 1 []), (iI 0), (iI 0), (.list 3 []), (iI 0), (iI 0), (.list 3 []), (.list 3 []), (.list 7 []), a])], s)) (ob (A8 .eql (A7 0 c) (iI 7)) fun d25 => D6 d25 (ob (E8 3 (A7 0 d) (iI 0)) fun d26 => some ([(.agg [(iI 7), (iI 0), (iI 0), (.str ⟨#[]⟩), (.str ⟨#[]⟩), (iI 0), (.str ⟨#[]⟩), (iI 0), (iI 0), (.bool false), (.list 1 []), (A7 0 d26), (A7 1 d26), (A7 2 d26), (iI 0), (iI 0), (.list 3 []), (.list 3 []), (.list 7 []), a])], s)) (ob (A8 .eql (A7 0 c) (iI 8)) fun d27 => D6 d27 (some ([(.agg [(iI 8), (iI 0), (iI 0), (.str ⟨#[]⟩), (.str ⟨#[]⟩), (iI 0), (.str ⟨#[]⟩), (iI 0), (iI 0), (.bool false), (.list 1 []), (iI 0), (iI 0), (.list 3 []), (iI 0), (iI 0), (.list 3 []), (.list 3 []), (.list 7 []), a])], s)) (ob (A8 .eql (A7 0 c) (iI 9)) fun d28 => D6 d28 (ob (E8 3 (A7 2 e) (iI 0)) fun d29 =>
 og (I7 (A7 3 c)) <| some ([(.agg [(iI 9), (iI 0), (iI 0), (A7 3 c), (.str ⟨#[]⟩), (iI 0), (.str ⟨#[]⟩), (iI 0), (iI 0), (.bool false), (.list 1 []), (A7 0 d29), (A7 1 d29), (A7 2 d29), (iI 0), (iI 0), (.list 3 []), (.list 3 []), (.list 7 []), a])], s)) (ob (A8 .eql (A7 0 c) (iI 10)) fun d30 => D6 d30 (some ([(.agg [(iI 10), (iI 0), (iI 0), (.str ⟨#[]⟩), (.str ⟨#[]⟩), (iI 0), (.str ⟨#[]⟩), (iI 0), (iI 0), (.bool false), (.list 1 []), (iI 0), (iI 0), (.list 3 []), (iI 0), (iI 0), (.list 3 []), (.list 3 []), (.list 7 []), a])], s)) (ob (A8 .eql (A7 0 c) (iI 11)) fun d31 => D6 d31 (og (I7 (A7 3 c)) <| og (I7 (A7 1 d)) <| some ([(.agg [(iI 11), (iI 0), (iI 0), (A7 3 c), (.str ⟨#[]⟩), (iI 0), (.str ⟨#[]⟩), (iI 0), (iI 0), (.bool false), (A7 1 d), (iI 0), (iI 0), (.list 3 []), (iI 0), (iI 0), (.list 3 []), (.list 3 []), (.list 7 []), a])], s)) (ob (A8 .eql (A7 0 c) (iI 12)) fun d32 => D6 d32 (ob (R.p XH [(L8 c), (H6 d), (.agg [(A7 0 e), (A7 1 e), (A7 2 e), (A7 3 e)])]) fun d33 =>
 ob (E8 3 d33 (iI 0)) fun d34 => og (I7 (A7 3 c)) <| og (I7 (A7 4 c)) <| og (I7 (A7 1 d)) <| ob (R.p DX [(.agg [(A7 8 c), (A7 9 c), (A7 10 c)])]) fun d35 => D6 d35 (ob (E8 3 (A7 0 d) (iI 0)) fun d36 => some ([(.agg [(iI 12), (iI 0), (iI 0), (A7 3 c), (A7 4 c), (iI 0), (.str ⟨#[]⟩), (iI 0), (iI 0), (.bool false), (A7 1 d), (A7 0 d36), (A7 1 d36), (A7 2 d36), (A7 0 d34), (A7 1 d34), (A7 2 d34), (.list 3 []), (.list 7 []), a])], s)) (some ([(.agg [(iI 12), (iI 0), (iI 0), (A7 3 c), (A7 4 c), (iI 0), (.str ⟨#[]⟩), (iI 0), (iI 0), (.bool false), (A7 1 d), (A7 8 c), (A7 9 c), (A7 10 c), (A7 0 d34), (A7 1 d34), (A7 2 d34), (.list 3 []), (.list 7 []), a])], s))) (ob (A8 .eql (A7 0 c) (iI 13)) fun d37 => D6 d37 (some ([(.agg [(iI 13), (iI 0), (iI 0), (.str ⟨#[]⟩), (.str ⟨#[]⟩), (iI 0), (.str ⟨#[]⟩), (iI 0), (iI 0), (.bool false), (.list 1 []), (iI 0), (iI 0), (.list 3 []), (iI 0), (iI 0), (.list 3 []), (.list 3 []), (.list 7 []), a])], s)) (ob (A8 .eql (A7 0 c) (iI 14)) fun d38 =>
 D6 d38 (og (I7 (A7 14 c)) <| some ([(.agg [(iI 14), (A7 1 c), (A7 2 c), (.str ⟨#[]⟩), (.str ⟨#[]⟩), (iI 0), (.str ⟨#[]⟩), (iI 0), (iI 0), (.bool false), (.list 1 []), (iI 0), (iI 0), (.list 3 []), (iI 0), (iI 0), (.list 3 []), (.list 3 []), (A7 14 c), a])], s)) (ob (A8 .eql (A7 0 c) (iI 15)) fun d39 => D6 d39 (ob (E8 20 a (iI 0)) fun d40 => some ([(jC d40)], s)) (og (I7 (A7 7 c)) <| some ([(.agg [(iI 15), (A7 1 c), (A7 2 c), (.str ⟨#[]⟩), (.str ⟨#[]⟩), (iI 0), (.str ⟨#[]⟩), (A7 7 c), (iI 0), (.bool false), (.list 1 []), (iI 0), (iI 0), (.list 3 []), (iI 0), (iI 0), (.list 3 []), (.list 3 []), (.list 7 []), a])], s)))))))))))))))))) := H5 [17]
theorem SK : Tw R a b s =
 (ob (A8 .add (iI 2) (A7 0 a)) fun d1 => ob (A8 .sub d1 (iI 2)) fun d2 => og (I7 d2) <| og (I7 (A7 5 a)) <| some ([(.agg [d2, (iI 0), (iI 0), (.str ⟨#[]⟩), (.str ⟨#[]⟩), (A7 5 a), (.str ⟨#[]⟩), (iI 0), (iI 0), (.bool false), (.list 1 []), (iI 0), (iI 0), (.list 3 []), (iI 0), (iI 0), (.list 3 []), (.list 3 []), (.list 7 []), b])], s)) := D9 [17]
theorem lW : (run cfg).r TQ [(.undef, (.ptr i 0)), (a, .val), (b, .val), (c, .val)] s = uY (run cfg) i a b c s := Dl (s := K_) Tryz.func44
def A2s := eP Tryz.f45 Qn R [] (F5 Tryz.f45 [(a, .val), (b, .val)] [])
def ae := eP Tryz.f45 Qn R (pb 7) (ms 153 [] [] [(2, bx a 20), (3, bx b 20)] [])
def RQ := hP Tryz.f45 Qn R (pb 122) (ms 153 [(5, a)] [] [(2, bx b 20), (3, bx c 20)] [])
def PI := hP Tryz.f45 Qn R (pb 250) (ms 153 [(6, a)] [] [(2, bx b 20), (3, bx c 20)] [])
theorem A0Y : A2s R a b =
 (og (C9 20 a) <| og (C9 20 b) <| ob (A8 .neq (A7 0 a) (A7 0 b)) fun d1 => I5 d1 (some (.bool false)) (ob (jI [.int, .int] (.agg [(A7 1 a), (A7 2 a)]) (.agg [(A7 1 b), (A7 2 b)])) fun b2 => I5 (.bool !b2) (some (.bool false)) (ob (A8 .neq (A7 3 a) (A7 3 b)) fun d3 => I5 d3 (some (.bool false)) (ob (A8 .neq (A7 4 a) (A7 4 b)) fun d4 => I5 d4 (some (.bool false)) (ob (A8 .neq (A7 5 a) (A7 5 b)) fun d5 => I5 d5 (some (.bool false)) (ob (A8 .neq (A7 6 a) (A7 6 b)) fun d6 => I5 d6 (some (.bool false)) (ob (A8 .neq (A7 7 a) (A7 7 b)) fun d7 => I5 d7 (some (.bool false)) (ob (A8 .neq (A7 8 a) (A7 8 b)) fun d8 => I5 d8 (some (.bool false)) (ob (A6b (A7 9 a) (A7 9 b)) fun b9 => D6 (.bool !b9) (some (.bool false)) (ae R a b)) none) none) none) none) none) none) none) none) := D9 [3]
theorem qb : ae R a b =
 (ob (dLen (A7 10 a)) fun d1 => ob (dLen (A7 10 b)) fun d2 => ob (A8 .neq d1 d2) fun d3 => I5 d3 (some (.bool false)) (ob (dLen (A7 18 a)) fun d4 => ob (dLen (A7 18 b)) fun d5 => ob (A8 .neq d4 d5) fun d6 => I5 d6 (some (.bool false)) (ob (R.p YP [(A7 17 a), (A7 17 b)]) fun d7 => ob (O9 .not d7) fun d8 => I5 d8 (some (.bool false)) (ob (R.p Ez [(.agg [(A7 11 a), (A7 12 a), (A7 13 a)]), (.agg [(A7 11 b), (A7 12 b), (A7 13 b)])]) fun d9 => ob (O9 .not d9) fun U2 => I5 U2 (some (.bool false)) (ob (R.p Ez [(.agg [(A7 14 a), (A7 15 a), (A7 16 a)]), (.agg [(A7 14 b), (A7 15 b), (A7 16 b)])]) fun V7 => ob (O9 .not V7) fun Z7 => D6 Z7 (some (.bool false)) (RQ R (iI 0) a b)) none) none) none) none) := D9 [3]
theorem WN : RQ R a b c =
 (ob (dLen (A7 10 b)) fun d1 => ob (A8 .lss a d1) fun d2 => D6 d2 (ob (E8 1 (A7 10 b) a) fun d3 => og (M9 d3) <| ob (E8 1 (A7 10 c) a) fun d4 => og (M9 d4) <| ob (A8 .neq d3 d4) fun d5 => D6 d5 (some (.bool false)) (ob (A8 .add a (iI 1)) fun d6 => RQ R d6 b c)) (PI R (iI 0) b c)) := H5 [3]
theorem Uf : PI R a b c =
 (ob (dLen (A7 18 b)) fun d1 => ob (A8 .lss a d1) fun d2 => D6 d2 (ob (A8 .add a (iI 1)) fun d3 => ob (Ca 7 (A7 18 b) (some a) (some d3)) fun d4 => og (I7 d4) <| ob (A8 .add a (iI 1)) fun d5 => ob (Ca 7 (A7 18 c) (some a) (some d5)) fun d6 => og (I7 d6) <| ob (R.p NY [(.agg [(iI 14), (iI 0), (iI 0), (.str ⟨#[]⟩), (.str ⟨#[]⟩), (iI 0), (.str ⟨#[]⟩), (iI 0), (iI 0), (iI 0), (.list 3 []), (iI 0), (iI 0), (.list 3 []), d4, (.list 16 [])]), (.agg [(iI 14), (iI 0), (iI 0), (.str ⟨#[]⟩), (.str ⟨#[]⟩), (iI 0), (.str ⟨#[]⟩), (iI 0), (iI 0), (iI 0), (.list 3 []), (iI 0), (iI 0), (.list 3 []), d6, (.list 16 [])])]) fun d7 => ob (O9 .not d7) fun d8 => D6 d8 (some (.bool false)) (ob (A8 .add a (iI 1)) fun d9 => PI R d9 b c)) (some (.bool true))) := H5 [3]
theorem xD : (run cfg).p nM [a, b] = A2s (run cfg) a b := P9 Tryz.func45
def zy := eP Tryz.f46 Kb R [] (F5 Tryz.f46 [(a, .val), (b, .val)] [])
def Jw := hP Tryz.f46 Kb R (pb 250) (ms 70 [(1, a), (5, b)] [] [(2, bx c 16)] [])
def MH := eP Tryz.f46 Kb R (pb 63) (ms 70 [(1, a)] [] [(2, bx b 16)] [])
def Jy := hP Tryz.f46 Kb R (pb 506) (ms 70 [(1, a), (6, b)] [] [(2, bx c 16)] [])
def Jv := eP Tryz.f46 Kb R (pb 127) (ms 70 [(1, a)] [] [(2, bx b 16)] [])
theorem UO : zy R a b =
 (og (C9 16 a) <| ob (A8 .add b (iI 1)) fun d1 => ob (R.p D_ [(.agg [(A7 8 a), (A7 9 a), (A7 10 a)]), d1]) fun d2 => ob (R.p D_ [(.agg [(A7 11 a), (A7 12 a), (A7 13 a)]), d2]) fun d3 => Jw R d3 (iI 0) a) := D9 [8, 12]
theorem Iq : Jw R a b c =
 (ob (dLen (A7 14 c)) fun d1 => ob (A8 .lss b d1) fun d2 => I5 d2 (ob (A8 .leq a (iI 400)) fun d3 => D6 d3 (ob (E8 7 (A7 14 c) b) fun d4 => ob (R.p Oh [(Gb d4), a]) fun d5 => ob (A8 .add b (iI 1)) fun d6 => Jw R d5 d6 c) (MH R a c)) (MH R a c) none) := H5 [8, 12]
theorem V_ : MH R a b =
 (Jy R a (iI 0) b) := D9 [8, 12]
theorem Ir : Jy R a b c =
 (ob (dLen (A7 15 c)) fun d1 => ob (A8 .lss b d1) fun d2 => I5 d2 (ob (A8 .leq a (iI 400)) fun d3 => D6 d3 (ob (E8 16 (A7 15 c) b) fun d4 => ob (R.p MZ [(L8 d4), a]) fun d5 => ob (A8 .add b (iI 1)) fun d6 => Jy R d5 d6 c) (Jv R a c)) (Jv R a c) none) := H5 [8, 12]
theorem UQ : Jv R a b =
 (ob (Dr (A7 6 b)) fun d1 => ob (A8 .gtr d1 (iI 300)) fun d2 => I5 d2 (some (iI 401)) (ob (Dr (A7 3 b)) fun d3 => ob (A8 .gtr d3 (iI 300)) fun d4 => I5 d4 (some (iI 401)) (ob (Dr (A7 4 b)) fun d5 => ob (A8 .gtr d5 (iI 300)) fun d6 => D6 d6 (some (iI 401)) (some a)) none) none) := D9 [8, 12]
theorem Rb : (run cfg).p MZ [a, b] = zy (run cfg) a b := P9 Tryz.func46
def zz := eP Tryz.f47 bz R [] (F5 Tryz.f47 [(a, .val)] [])
def Ov := hP Tryz.f47 bz R (pb 26) (ms 32 [(0, a), (3, b)] [] [] [])
theorem vM : zz R a =
 (Ov R a (iI 0)) := D9 []
theorem UR : Ov R a b =
 (ob (dLen a) fun d1 => ob (A8 .lss b d1) fun d2 => D6 d2 (ob (E8 3 a b) fun d3 => ob (R.p iW [(.list 3 [(H6 d3)])]) fun d4 => I5 d4 (some (.bool false)) (ob (E8 3 a b) fun d5 => ob (R.p ZU [(H6 d5), (iI 60)]) fun d6 => I5 d6 (some (.bool false)) (ob (E8 3 a b) fun d7 => ob (R.p ZO [(H6 d7)]) fun d8 => ob (dLen d8) fun d9 => ob (A8 .gtr d9 (iI 8)) fun U2 => D6 U2 (some (.bool false)) (ob (A8 .add b (iI 1)) fun V7 => Ov R a V7)) none) none) (some (.bool true))) := H5 []
theorem rM : (run cfg).p iY [a] = zz (run cfg) a := P9 Tryz.func47
def A2f := eP Tryz.f48 jP R [] (F5 Tryz.f48 [(a, .val)] [])
def RF := hP Tryz.f48 jP R (pb 58) (ms 21 [(3, a), (4, b)] [] [(1, bx c 3)] [])
theorem A0L : A2f R a =
 (og (C9 3 a) <| RF R (iI 1) (iI 0) a) := D9 []
theorem WC : RF R a b c =
 (ob (dLen (A7 2 c)) fun d1 => ob (A8 .lss b d1) fun d2 => D6 d2 (ob (E8 3 (A7 2 c) b) fun d3 => ob (R.p IW [(H6 d3)]) fun d4 => ob (A8 .add a d4) fun d5 => ob (A8 .add b (iI 1)) fun d6 => RF R d5 d6 c) (some a)) := H5 []
theorem wX : (run cfg).p IW [a] = A2f (run cfg) a := P9 Tryz.func48
def aY := eR Tryz.f49 FU Jl R [] (F5 Tryz.f49 [(pt i), (a, .val), (b, .val), (c, .val)] s)
def Hr := hR Tryz.f49 FU Jl R (pb 58) (ms 50 [(1, a), (2, b), (3, c), (9, d), (10, e)] [(0, (.ptr i 0))] [] s)
def Ht := hR Tryz.f49 FU Jl R (pb 122) (ms 50 [(1, a), (2, b), (9, c), (11, d)] [(0, (.ptr i 0))] [] s)
theorem Yz : aY R i a b c s =
 (Hr R i a b c (iI 1) (iI 0) s) := D9 []
theorem Lg : Hr R i a b c d e s =
 (ob (dLen c) fun d1 => ob (A8 .lss e d1) fun d2 => D6 d2 (ob (E8 3 c e) fun d3 => ob (R.p IW [(H6 d3)]) fun d4 => oc (R.r Ah [(pt i), (d4, .val)] s) fun q5 s5 => ob (A3V d q5) fun d6 => ob (A8 .add e (iI 1)) fun d7 => Hr R i a b c d6 d7 s5) (ob (dLen a) fun d8 => ob (A8 .sub d8 (iI 1)) fun d9 => Ht R i a b d d9 s)) := H5 []
theorem Lh : Ht R i a b c d s =
 (ob (A8 .geq d (iI 0)) fun d1 => D6 d1 (ob (E8 2 a d) fun d2 => ob (A8 .eql (A7 0 d2) b) fun d3 => D6 d3 (ob (E8 2 a d) fun d4 => ob (A8 .mul c (A7 1 d4)) fun d5 => oc (R.r Ah [(pt i), (d5, .val)] s) fun q6 s6 => some ([q6], s6)) (ob (A8 .sub d (iI 1)) fun d7 => Ht R i a b c d7 s)) (some ([(iI 1)], s))) := H5 []
theorem Xt : (run cfg).r Rq [(.undef, (.ptr i 0)), (a, .val), (b, .val), (c, .val)] s = aY (run cfg) i a b c s := Dl (s := FU) Tryz.func49
def pu := eR Tryz.f50 VQ l_ R [] (F5 Tryz.f50 [(pt i), (a, .val)] s)
theorem WK : pu R i a s =
 (ob (A8 .gtr a (iI 3000)) fun d1 => D6 d1 (ob (M7 s i) fun c2 => ob (c2[0]?) fun u3 => ob (A1E a (iI 3000)) fun d4 => some ([d4], (s.set i (D7.box (c2.set 0 ((.bool true), .val)))))) (ob (A1E a (iI 3000)) fun d5 => some ([d5], s))) := D9 []
theorem Uk : (run cfg).r Ah [(.undef, (.ptr i 0)), (a, .val)] s = pu (run cfg) i a s := Dl (s := VQ) Tryz.func50
def aX := eR Tryz.f51 OW ZI R [] (F5 Tryz.f51 [(pt i), (a, .val)] s)
theorem Yy : aX R i a s =
 (ob (dLen a) fun d1 => ob (A8 .eql d1 (iI 0)) fun d2 => D6 d2 (some ([(iI 1)], s)) (ob (E8 3 a (iI 0)) fun d3 => ob (R.p IW [(H6 d3)]) fun d4 => oc (R.r Ah [(pt i), (d4, .val)] s) fun q5 s5 => some ([q5], s5))) := D9 []
theorem Xr : (run cfg).r CW [(.undef, (.ptr i 0)), (a, .val)] s = aX (run cfg) i a s := Dl (s := OW) Tryz.func51
def kD := eR Tryz.f52 SY gW R [] (F5 Tryz.f52 [(pt i), (a, .val), (b, .val)] s)
theorem fu : kD R i a b s =
 (og (C9 3 a) <| ob (R.p DX [(H6 a)]) fun d1 => D6 d1 (some ([b], s)) (ob (R.p IW [(H6 a)]) fun d2 => oc (R.r Ah [(pt i), (d2, .val)] s) fun q3 s3 => some ([q3], s3))) := D9 []
theorem bU : (run cfg).r Ed [(.undef, (.ptr i 0)), (a, .val), (b, .val)] s = kD (run cfg) i a b s := Dl (s := SY) Tryz.func52
def A2p := eP Tryz.f53 A1l R [] (F5 Tryz.f53 [(a, .val), (b, .val), (c, .val)] [])
theorem A0V : A2p R a b c =
 (ob (R8 2 (.list 2 []) a) fun d1 => og (I7 b) <| og (I7 c) <| ob (R8 2 d1 (.list 2 [(.agg [b, c])])) fun d2 => some d2) := D9 []
theorem xA : (run cfg).p LV [a, b, c] = A2p (run cfg) a b c := P9 Tryz.func53
def fF := eR Tryz.f54 QL dC R [] (F5 Tryz.f54 [(pt i), (a, .val)] s)
theorem bD : fF R i a s =
 (ob (dLen a) fun d1 => ob (A8 .eql d1 (iI 0)) fun d2 => D6 d2 (some ([(iI 1)], s)) (ob (dLen a) fun d3 => ob (A8 .sub d3 (iI 1)) fun d4 => ob (E8 3 a d4) fun d5 => ob (R.p IW [(H6 d5)]) fun d6 => oc (R.r Ah [(pt i), (d6, .val)] s) fun q7 s7 => some ([q7], s7))) := D9 []
theorem ZC : (run cfg).r IY [(.undef, (.ptr i 0)), (a, .val)] s = fF (run cfg) i a s := Dl (s := QL) Tryz.func54
def aZ := eR Tryz.f55 FV Jm R [] (F5 Tryz.f55 [(pt i), (a, .val), (b, .val), (c, .val)] s)
def Hu := hR Tryz.f55 FV Jm R (pb 58) (ms 81 [(3, a), (9, b)] [(0, (.ptr i 0))] [(5, bx c 16), (6, bx d 3)] s)
def Hw := hR Tryz.f55 FV Jm R (pb 29850) (ms 81 [(3, a), (9, b), (10, c), (11, d), (12, e)] [(0, (.ptr i 0))] [(5, bx f 16), (6, bx g 3)] s)
theorem Y_ : aZ R i a b c s =
 (og (C9 16 a) <| og (C9 3 b) <| ob (E8 16 (A7 15 a) (iI 0)) fun d1 => ob (E8 3 (A7 2 b) (iI 0)) fun d2 => oc (R.r Z6 [(pt i), ((L8 d1), .val), ((H6 d2), .val), (c, .val)] s) fun q3 s3 => Hu R i c (iI 0) a b s3) := D9 []
theorem Li : Hu R i a b c d s =
 (ob (dLen (A7 14 c)) fun d1 => ob (A8 .lss b d1) fun d2 => I5 d2 (ob (A8 .add b (iI 1)) fun d3 => ob (dLen (A7 15 c)) fun d4 => ob (A8 .lss d3 d4) fun d5 => D6 d5 (ob (E8 7 (A7 14 c) b) fun d6 => ob (R.p XC [(Gb d6)]) fun d7 => Hw R i a b a d7 (iI 0) c d s) (oc (R.r IY [(pt i), ((A7 0 d), .val)] s) fun q8 s8 => some ([q8], s8))) (oc (R.r IY [(pt i), ((A7 0 d), .val)] s) fun q9 s9 => some ([q9], s9)) none) := H5 []
theorem Lj : Hw R i a b c d e f g s =
 (ob (dLen d) fun d1 => ob (A8 .lss e d1) fun d2 => D6 d2 (ob (E8 1 d e) fun d3 => og (M9 d3) <| oc (R.r CW [(pt i), ((A7 0 g), .val)] s) fun q4 s4 => ob (R.p LV [c, d3, q4]) fun d5 => ob (A8 .add e (iI 1)) fun d6 => Hw R i a b d5 d d6 f g s4) (ob (A8 .add b (iI 1)) fun d7 => ob (E8 16 (A7 15 f) d7) fun d8 => ob (A8 .add b (iI 1)) fun d9 => ob (E8 3 (A7 2 g) d9) fun U2 => oc (R.r Z6 [(pt i), ((L8 d8), .val), ((H6 U2), .val), (c, .val)] s) fun q11 s11 => ob (A8 .add b (iI 1)) fun Z7 => Hu R i a Z7 f g s11)) := H5 []
theorem Xu : (run cfg).r Rt [(.undef, (.ptr i 0)), (a, .val), (b, .val), (c, .val)] s = aZ (run cfg) i a b c s := Dl (s := FV) Tryz.func55
def fT : Code := Tryz.f56.body.getD .skip
def uf := eP Tryz.f56 MR R [] (F5 Tryz.f56 [(a, .val)] [])
def fI := eP Tryz.f56 MR R (pb 26) (ms 10 [(0, a), (3, (.I6 [])), (4, b), (6, (.I6 [])), (7, (.I6 [])), (8, (.I6 [])), (9, (.I6 []))] [(1, (.ptr 0 0)), (2, (.ptr 1 0)), (5, (.fn 124 [(2, 0)]))] [] s)
def uA : Code := match (sub [true, false, true, false] fT []).1 with
 | .rangeFunc _ _ a b => .seq a b
 | c => c
def Ff (R : N7) (t0 t4 : DV) (o : Out) (sg : List D7) : Option DV := oO cfg R MR (Wp cfg.P Tryz.f56) [true, false, true, false] fT o (j4 ⟨spread .undef 10 0 [(0, t0), (3, (.I6 [])), (4, t4), (6, (.I6 [])), (7, (.I6 [])), (8, (.I6 [])), (9, (.I6 []))], spread .val 10 0 [(1, (.ptr 0 0)), (2, (.ptr 1 0)), (5, (.fn 124 [(2, 0)]))], spread none 10 0 [], []⟩ sg)
def TK (R : N7) (t0 t4 : DV) (I : List D7 → Option DV) (x : DV) (sg : List D7) : Option DV := Iy cfg R MR (kr I (Ff R t0 t4)) [] uA (mst 10 [(6, x)] [(2, (.ptr 1 0))] [] sg)
def IZ (R : N7) (t0 t4 : DV) : List DV → List D7 → Option DV := Ke (fun x I sg => TK R t0 t4 I x sg) (Ff R t0 t4 .normal)
theorem qd : uf R a =
 (og (C9 16 a) <| fI R a (L8 a) [D7.box [((A7 0 a), .val), ((A7 1 a), .val), ((A7 2 a), .val), ((A7 3 a), .val), ((A7 4 a), .val), ((A7 5 a), .val), ((A7 6 a), .val), ((A7 7 a), .val), ((A7 8 a), .val), ((A7 9 a), .val), ((A7 10 a), .val), ((A7 11 a), .val), ((A7 12 a), .val), ((A7 13 a), .val), ((A7 14 a), .val), ((A7 15 a), .val)], D7.box [((iI 0), .val)], D7.box [((A7 0 a), .val), ((A7 1 a), .val), ((A7 2 a), .val), ((A7 3 a), .val), ((A7 4 a), .val), ((A7 5 a), .val), ((A7 6 a), .val), ((A7 7 a), .val), ((A7 8 a), .val), ((A7 9 a), .val), ((A7 10 a), .val), ((A7 11 a), .val), ((A7 12 a), .val), ((A7 13 a), .val), ((A7 14 a), .val), ((A7 15 a), .val)]]) := D9 []
theorem bO : fI R a b s =
 ob (M7 s 2) fun cs => ob (Ik cs) fun cd => ob (Jn 16 15 cd) fun ds => IZ R a b ds (s.set 2 (.arr 1 [])) := (A8W (t := 5) (f := 124) (i := 2) (q := 6) (it := Jn 16 15) (by kernel_rfl) (by kernel_rfl) (by kernel_rfl) (by kernel_rfl)).trans (by kernel_rfl)
theorem VV (R : N7) (t0 t4 : DV) (sg : List D7) : IZ R t0 t4 [] sg = Ff R t0 t4 .normal sg := rfl
theorem TV (R : N7) (t0 t4 x : DV) (ds : List DV) (sg : List D7) : IZ R t0 t4 (x :: ds) sg = TK R t0 t4 (IZ R t0 t4 ds) x sg := rfl
theorem Xm (R : N7) (t0 t4 : DV) (I : List D7 → Option DV) (x : DV) (sg : List D7) : TK R t0 t4 I x sg = (og (C9 16 x) <| ob (R.p nN [(L8 x)]) fun d1 => ob (O9 .not d1) fun d2 => D6 d2 (ob (M7 sg 1) fun c3 => ob (c3[0]?) fun u4 => Ff R t0 t4 .ret (sg.set 1 (D7.box (c3.set 0 ((iI 1), .val))))) (I sg)) := D9 []
theorem NM : Ff R a b .normal s =
 (ob (M7 s 1) fun c1 =>
 ob (c1[0]?) fun u2 =>
 A68 (ob (M7 (s.set 1 (D7.box (c1.set 0 ((iI 0), .val)))) 1) fun c => oneCell (s.set 1 (D7.box (c1.set 0 ((iI 0), .val)))) c)) := zN [] (by kernel_rfl)
theorem Qb : Ff R a b .ret s =
 (A68 (ob (M7 s 1) fun c => oneCell s c)) := zN [] (by kernel_rfl)
theorem lY : (run cfg).p TS [a] = uf (run cfg) a := P9 Tryz.func56
end
end Go.Su

/-
 Equations of the program's functions: by program.
-/
namespace Go.Su
set_option maxRecDepth 100000
noncomputable section
open Go.Proofs
variable (R : N7) (i j k l m n : Nat) (a b c d e f g h o p q r t u v w x y z A B C D E F G H I J K L M N O P Q S T U V W X Y Z a1 a2 a3 a4 a5 a6 a7 a8 a9 ai VZ a12 a13 a14 Yv a16 a17 a18 a19 a20 a21 a22 a23 a24 a25 a26 a27 a28 a29 a30 a31 a32 a33 a34 a35 a36 a37 a38 a39 a40 a41 a42 a43 a44 a45 a46 a47 a48 a49 a50 a51 a52 a53 a54 a55 a56 a57 a58 a59 : DV) (s : List D7)
def pU := eP Tryz.f57 Ka R [] (F5 Tryz.f57 [(a, .val)] [])
def LW := hP Tryz.f57 Ka R (pb 26) (ms 45 [(10, a), (11, b), (12, c)] [] [(1, bx d 3)] [])
def Gs := hP Tryz.f57 Ka R (pb 58) (ms 45 [(21, a), (22, b), (23, c)] [] [(1, bx d 3)] [])
def GH := hP Tryz.f57 Ka R (pb 122) (ms 45 [(35, a), (36, b), (37, c)] [] [] [])
theorem kT : pU R a =
 (og (C9 3 a) <| ob (dLen (A7 0 a)) fun d1 => LW R (A7 0 a) d1 (iI 0) a) := D9 []
theorem P_ : LW R a b c d =
 (ob (A8 .lss c b) fun d1 => D6 d1 (ob (E8 3 a c) fun d2 => ob (R.p E_ [(H6 d2)]) fun d3 => ob (A8 .neq d3 (iI 0)) fun d4 => D6 d4 (some (.bool false)) (ob (A8 .add c (iI 1)) fun d5 => LW R a b d5 d)) (ob (dLen (A7 1 d)) fun d6 => Gs R (A7 1 d) d6 (iI 0) d)) := H5 []
theorem QA : Gs R a b c d =
 (ob (A8 .lss c b) fun d1 => D6 d1 (ob (E8 1 a c) fun d2 => og (M9 d2) <| ob (A8 .lss d2 (iI 0)) fun d3 => I5 d3 (some (.bool false)) (ob (A8 .gtr d2 (iI 1048576)) fun d4 => D6 d4 (some (.bool false)) (ob (A8 .add c (iI 1)) fun d5 => Gs R a b d5 d)) none) (ob (dLen (A7 2 d)) fun d6 => GH R (A7 2 d) d6 (iI 0))) := H5 []
theorem Nt : GH R a b c =
 (ob (A8 .lss c b) fun d1 => D6 d1 (ob (E8 3 a c) fun d2 => ob (R.p Qw [(H6 d2)]) fun d3 => ob (O9 .not d3) fun d4 => D6 d4 (some (.bool false)) (ob (A8 .add c (iI 1)) fun d5 => GH R a b d5)) (some (.bool true))) := H5 []
theorem gI : (run cfg).p Qw [a] = pU (run cfg) a := P9 Tryz.func57
def TY := eR Tryz.f58 DU Fu R [] (F5 Tryz.f58 [(pt i), (a, .val), (b, .val), (c, .val)] s)
def FB := eR Tryz.f58 DU Fu R (pb 15) (ms 182 [(3, a), (10, b)] [(0, (.ptr i 0))] [(5, bx c 16), (6, bx d 3), (8, bv [e, f, g, h, o, p, q, r, t, u, v, w, x, y, z, A, B, C, D, E, F, G, H]), (9, bv [I, J, K, L, M])] s)
def IC := eR Tryz.f58 DU Fu R (pb 2076671) (ms 182 [(3, a), (47, b)] [(0, (.ptr i 0))] [(5, bx c 16), (6, bx d 3), (8, bv [e, f, g, h, o, p, q, r, t, u, v, w, x, y, z, A, B, C, D, E, F, G, H])] s)
theorem Sq : TY R i a b c s =
 (og (C9 16 a) <| og (C9 3 b) <| ob (A8 .eql (A7 0 a) (iI 1)) fun d1 => D6 d1 (ob (R.p aM [c, (A7 3 a)]) fun d2 => ob (O4 0 d2) fun d3 => ob (O4 1 d2) fun d4 => og (C9 5 d3) <| FB R i c d4 a b (iI 0) (iI 0) (.list 3 []) (iI 0) (iI 0) (iI 0) (.str ⟨#[]⟩) (.str ⟨#[]⟩) (iI 0) (.str ⟨#[]⟩) (iI 0) (iI 0) (.bool false) (.list 1 []) (iI 0) (iI 0) (.list 3 []) (iI 0) (iI 0) (.list 3 []) (.list 3 []) (.list 7 []) (.list 20 []) (A7 0 d3) (A7 1 d3) (A7 2 d3) (A7 3 d3) (A7 4 d3) s) (FB R i c (.bool true) a b (iI 0) (iI 0) (.list 3 []) (iI 0) (iI 0) (iI 0) (.str ⟨#[]⟩) (.str ⟨#[]⟩) (iI 0) (.str ⟨#[]⟩) (iI 0) (iI 0) (.bool false) (.list 1 []) (iI 0) (iI 0) (.list 3 []) (iI 0) (iI 0) (.list 3 []) (.list 3 []) (.list 7 []) (.list 20 []) (.str ⟨#[]⟩) (iI 0) (iI 0) (.list 3 []) (.list 1 []) s)) := D9 [4, 26]
theorem IE : FB R i a b c d e f g h o p q r t u v w x y z A B C D E F G H I J K L M s =
 (ob (O9 .not b) fun d1 => D6 d1 (oc (R.r Ac [(pt i), ((iI 6), .val)] s) fun q2 s2 => some ([zA4], s2)) (oc (R.r BQ [(pt i), ((L8 c), .val), ((H6 d), .val), ((.agg [I, J, K, L, M]), .val)] s) fun q3 s3 => ob (A8 .neq q3 (iI 0)) fun d4 => D6 d4 (oc (R.r Ac [(pt i), (q3, .val)] s3) fun q5 s5 => some ([zA4], s5)) (ob (A8 .eql (A7 0 c) (iI 1)) fun d6 => D6 d6 (oc (R.r LU [(pt i), ((L8 c), .val), ((H6 d), .val), ((.agg [I, J, K, L, M]), .val)] s3) fun q7 s7 => og (C9 23 q7) <| some ([(.agg [(A7 0 q7), (A7 1 q7), (A7 2 q7), (A7 3 q7), (A7 4 q7), (A7 5 q7), (A7 6 q7), (A7 7 q7), (A7 8 q7), (A7 9 q7), (A7 10 q7), (A7 11 q7), (A7 12 q7), (A7 13 q7), (A7 14 q7), (A7 15 q7), (A7 16 q7), (A7 17 q7), (A7 18 q7), (A7 19 q7), (A7 20 q7), (A7 21 q7), (A7 22 q7)])], s7)) (ob (A8 .eql (A7 0 c) (iI 2)) fun d8 =>
 D6 d8 (og (I7 (A7 5 c)) <| some ([(.agg [(iI 1), (iI 0), (.list 3 []), (iI 2), (iI 0), (iI 0), (.str ⟨#[]⟩), (.str ⟨#[]⟩), (A7 5 c), (.str ⟨#[]⟩), (iI 0), (iI 0), (.bool false), (.list 1 []), (iI 0), (iI 0), (.list 3 []), (iI 0), (iI 0), (.list 3 []), (.list 3 []), (.list 7 []), (.list 20 [])])], s3)) (ob (A8 .eql (A7 0 c) (iI 3)) fun d9 => D6 d9 (og (I7 (A7 5 c)) <| some ([(.agg [(iI 2), (iI 0), (.list 3 []), (iI 3), (iI 0), (iI 0), (.str ⟨#[]⟩), (.str ⟨#[]⟩), (A7 5 c), (.str ⟨#[]⟩), (iI 0), (iI 0), (.bool false), (.list 1 []), (iI 0), (iI 0), (.list 3 []), (iI 0), (iI 0), (.list 3 []), (.list 3 []), (.list 7 []), (.list 20 [])])], s3)) (ob (A8 .eql (A7 0 c) (iI 4)) fun U2 => D6 U2 (og (I7 (A7 6 c)) <| some ([(.agg [(iI 3), (iI 0), (.list 3 []), (iI 4), (iI 0), (iI 0), (.str ⟨#[]⟩), (.str ⟨#[]⟩), (iI 0), (A7 6 c), (iI 0), (iI 0), (.bool false), (.list 1 []), (iI 0), (iI 0), (.list 3 []), (iI 0), (iI 0), (.list 3 []), (.list 3 []), (.list 7 []), (.list 20 [])])], s3)) (ob (A8 .eql (A7 0 c) (iI 5)) fun V7 =>
 D6 V7 (some ([(.agg [(iI 4), (iI 0), (.list 3 []), (iI 5), (iI 0), (iI 0), (.str ⟨#[]⟩), (.str ⟨#[]⟩), (iI 0), (.str ⟨#[]⟩), (iI 0), (iI 0), (.bool false), (.list 1 []), (iI 0), (iI 0), (.list 3 []), (iI 0), (iI 0), (.list 3 []), (.list 3 []), (.list 7 []), (.list 20 [])])], s3)) (ob (A8 .eql (A7 0 c) (iI 6)) fun Z7 => D6 Z7 (oc (R.r U7 [(pt i), ((L8 c), .val), ((H6 d), .val), ((iI 0), .val), (a, .val)] s3) fun q13 s13 => og (C9 23 q13) <| oc (R.r U7 [(pt i), ((L8 c), .val), ((H6 d), .val), ((iI 1), .val), (a, .val)] s13) fun q14 s14 => og (C9 23 q14) <| some ([(.agg [(iI 7), (iI 0), (.list 3 [(.agg [(A7 0 q13), (A7 1 q13), (A7 2 q13)]), (.agg [(A7 0 q14), (A7 1 q14), (A7 2 q14)])]), (iI 6), (iI 0), (iI 0), (.str ⟨#[]⟩), (.str ⟨#[]⟩), (iI 0), (.str ⟨#[]⟩), (iI 0), (iI 0), (.bool false), (.list 1 []), (iI 0), (iI 0), (.list 3 []), (iI 0), (iI 0), (.list 3 []), (.list 3 []), (.list 7 []), (.list 20 [(.agg [(A7 3 q13), (A7 4 q13), (A7 5 q13), (A7 6 q13), (A7 7 q13), (A7 8 q13), (A7 9 q13), (A7 10 q13), (A7 11 q13), (A7 12 q13), (A7 13 q13), (A7 14 q13), (A7 15 q13), (A7 16 q13), (A7 17 q13), (A7 18 q13), (A7 19 q13), (A7 20 q13), (A7 21 q13), (A7 22 q13)]), (.agg [(A7 3 q14), (A7 4 q14), (A7 5 q14), (A7 6 q14), (A7 7 q14), (A7 8 q14), (A7 9 q14), (A7 10 q14), (A7 11 q14), (A7 12 q14), (A7 13 q14), (A7 14 q14), (A7 15 q14), (A7 16 q14), (A7 17 q14), (A7 18 q14), (A7 19 q14), (A7 20 q14), (A7 21 q14), (A7 22 q14)])])])], s14)) (IC R i a (A7 0 c) c d e f g h o p q r t u v w x y z A B C D E F G H s3))))))))) := D9 [4, 26]
theorem Nr : IC R i a b c d e f g h o p q r t u v w x y z A B C D E F G H s =
 (ob (A8 .eql b (iI 7)) fun d1 => D6 d1 (ob (E8 3 (A7 0 d) (iI 0)) fun d2 => ob (R.p TL [(H6 d2)]) fun d3 => ob (E8 3 (A7 0 d) (iI 0)) fun d4 => og (C9 3 d3) <| some ([(.agg [(A7 0 d3), (A7 1 d3), (A7 2 d3), (iI 7), (iI 0), (iI 0), (.str ⟨#[]⟩), (.str ⟨#[]⟩), (iI 0), (.str ⟨#[]⟩), (iI 0), (iI 0), (.bool false), (.list 1 []), (A7 0 d4), (A7 1 d4), (A7 2 d4), (iI 0), (iI 0), (.list 3 []), (.list 3 []), (.list 7 []), (.list 20 [])])], s)) (ob (A8 .eql b (iI 8)) fun d5 => D6 d5 (ob (E8 3 (A7 0 d) (iI 0)) fun d6 => ob (R.p TL [(H6 d6)]) fun d7 => og (C9 3 d7) <| ob (E8 3 (A7 0 d) (iI 0)) fun d8 => oc (R.r O0 [(pt i), ((L8 c), .val), ((H6 d), .val), ((iI 0), .val), (a, .val), ((H6 d8), .val)] s) fun q9 s9 => og (C9 20 q9) <| oc (R.r O0 [(pt i), ((L8 c), .val), ((H6 d), .val), ((iI 1), .val), (a, .val), ((H6 d7), .val)] s9) fun q10 s10 => og (C9 20 q10) <| some ([(.agg [(A7 0 d7), (A7 1 d7), (A7 2 d7), (iI 8), (iI 0), (iI 0), (.str ⟨#[]⟩), (.str ⟨#[]⟩), (iI 0), (.str ⟨#[]⟩), (iI 0), (iI 0), (.bool false), (.list 1 []), (iI 0), (iI 0), (.list 3 []), (iI 0), (iI 0), (.list 3 []), (.list 3 []), (.list 7 []), (.list 20 [(.agg [(A7 0 q9), (A7 1 q9), (A7 2 q9), (A7 3 q9), (A7 4 q9), (A7 5 q9), (A7 6 q9), (A7 7 q9), (A7 8 q9), (A7 9 q9), (A7 10 q9), (A7 11 q9), (A7 12 q9), (A7 13 q9), (A7 14 q9), (A7 15 q9), (A7 16 q9), (A7 17 q9), (A7 18 q9), (A7 19 q9)]), (.agg [(A7 0 q10), (A7 1 q10), (A7 2 q10), (A7 3 q10), (A7 4 q10), (A7 5 q10), (A7 6 q10), (A7 7 q10), (A7 8 q10), (A7 9 q10), (A7 10 q10), (A7 11 q10), (A7 12 q10), (A7 13 q10), (A7 14 q10), (A7 15 q10), (A7 16 q10), (A7 17 q10), (A7 18 q10), (A7 19 q10)])])])], s10)) (ob (A8 .eql b (iI 9)) fun V7 =>
 D6 V7 (ob (R.p MW [(.agg [(A7 8 c), (A7 9 c), (A7 10 c)]), (A7 0 d)]) fun Z7 => og (C9 3 Z7) <| og (I7 (A7 3 c)) <| oc (R.r CV [(a, .val), ((.list 5 [(.agg [(A7 3 c), (A7 0 Z7), (A7 1 Z7), (A7 2 Z7), (.list 1 [])])]), .val)] s) fun q13 s13 => oc (R.r U7 [(pt i), ((L8 c), .val), ((H6 d), .val), ((iI 0), .val), (q13, .val)] s13) fun q14 s14 => og (C9 23 q14) <| ob (R.p MV [(H6 Z7), (.agg [(A7 0 q14), (A7 1 q14), (A7 2 q14)])]) fun GK => og (I7 (A7 3 c)) <| og (C9 3 GK) <| some ([(.agg [(A7 0 GK), (A7 1 GK), (A7 2 GK), (iI 9), (iI 0), (iI 0), (A7 3 c), (.str ⟨#[]⟩), (iI 0), (.str ⟨#[]⟩), (iI 0), (iI 0), (.bool false), (.list 1 []), (A7 0 Z7), (A7 1 Z7), (A7 2 Z7), (iI 0), (iI 0), (.list 3 []), (.list 3 []), (.list 7 []), (.list 20 [(.agg [(A7 3 q14), (A7 4 q14), (A7 5 q14), (A7 6 q14), (A7 7 q14), (A7 8 q14), (A7 9 q14), (A7 10 q14), (A7 11 q14), (A7 12 q14), (A7 13 q14), (A7 14 q14), (A7 15 q14), (A7 16 q14), (A7 17 q14), (A7 18 q14), (A7 19 q14), (A7 20 q14), (A7 21 q14), (A7 22 q14)])])])], s14)) (oc (R.r LQ [(pt i), ((L8 c), .val), ((H6 d), .val), (a, .val)] s) fun q16 s16 =>
 og (C9 23 q16) <| some ([(.agg [(A7 0 q16), (A7 1 q16), (A7 2 q16), (A7 3 q16), (A7 4 q16), (A7 5 q16), (A7 6 q16), (A7 7 q16), (A7 8 q16), (A7 9 q16), (A7 10 q16), (A7 11 q16), (A7 12 q16), (A7 13 q16), (A7 14 q16), (A7 15 q16), (A7 16 q16), (A7 17 q16), (A7 18 q16), (A7 19 q16), (A7 20 q16), (A7 21 q16), (A7 22 q16)])], s16))))) := D9 [4, 26]
theorem Qi : (run cfg).r GR [(.undef, (.ptr i 0)), (a, .val), (b, .val), (c, .val)] s = TY (run cfg) i a b c s := Dl (s := DU) Tryz.func58
def Xb := eR Tryz.f59 MC Vf R [] (F5 Tryz.f59 [(pt i)] s)
theorem Va : Xb R i s =
 (ob (M7 s i) fun c1 => ob (U4 c1 3) fun d2 => ob (A8 .eql d2 (iI 0)) fun d3 => some ([d3], s)) := D9 []
theorem Uj : (run cfg).r Al [(.undef, (.ptr i 0))] s = Xb (run cfg) i s := Dl (s := MC) Tryz.func59
def XK := eR Tryz.f60 Cg EC R [] (F5 Tryz.f60 [(pt i), (a, .val), (b, .val), (c, .val), (d, .val)] s)
def RL := eR Tryz.f60 Cg EC R (pb 15) (ms 139 [(4, a), (11, b), (12, c)] [(0, (.ptr i 0))] [(6, bx d 16), (7, bx e 3)] s)
def KE := eR Tryz.f60 Cg EC R (pb 31) (ms 139 [(4, a)] [(0, (.ptr i 0))] [(7, bx b 3)] s)
def Ih := hR Tryz.f60 Cg EC R (pb 506) (ms 139 [(14, a), (15, b)] [(0, (.ptr i 0)), (14, .own)] [(7, bx c 3)] s)
def PH := eR Tryz.f60 Cg EC R (pb 16201) (ms 139 [(14, a), (15, b)] [(0, (.ptr i 0)), (14, .own)] [(7, bx c 3)] s)
def Fb := hR Tryz.f60 Cg EC R (pb 1018) (ms 139 [(14, a), (16, b)] [(0, (.ptr i 0))] [(7, bx c 3)] s)
def KF := eR Tryz.f60 Cg EC R (pb 32585) (ms 139 [(14, a), (16, b)] [(0, (.ptr i 0))] [(7, bx c 3)] s)
def Ii := hR Tryz.f60 Cg EC R (pb 260686) (ms 139 [(14, a), (16, b), (17, c), (18, d)] [(0, (.ptr i 0))] [(7, bx e 3)] s)
theorem v_ : XK R i a b c d s =
 (og (C9 16 a) <| og (C9 3 b) <| ob (R.p uH [(L8 a)]) fun d1 => ob (O4 0 d1) fun d2 => ob (O4 1 d1) fun d3 => ob (A8 .eql (A7 0 a) (iI 1)) fun d4 => D6 d4 (ob (R.p ZV [c, (A7 3 a)]) fun d5 => ob (A8 .lss d5 (iI 0)) fun d6 => D6 d6 (oc (R.r Bd [(pt i), ((iI 6), .val)] s) fun q7 s7 => some ([(.list 1 [])], s7)) (ob (E8 5 c d5) fun d8 => ob (dLen (A7 4 d8)) fun d9 => RL R i d d9 d3 a b s)) (RL R i d d2 d3 a b s)) := D9 [8, 11, 17, 23]
theorem ko : RL R i a b c d e s =
 (ob (dLen (A7 2 e)) fun d1 => ob (dLen (A7 15 d)) fun d2 => ob (A8 .neq d1 d2) fun d3 => I5 d3 (oc (R.r Bd [(pt i), ((iI 8), .val)] s) fun q4 s4 => some ([(.list 1 [])], s4)) (ob (dLen (A7 0 e)) fun d5 => ob (A8 .neq d5 b) fun d6 => I5 d6 (oc (R.r Bd [(pt i), ((iI 8), .val)] s) fun q7 s7 => some ([(.list 1 [])], s7)) (ob (dLen (A7 1 e)) fun d8 => ob (A8 .gtr d8 (iI 0)) fun d9 => I5 d9 (ob (O9 .not c) fun U2 => D6 U2 (oc (R.r Bd [(pt i), ((iI 8), .val)] s) fun q11 s11 => some ([(.list 1 [])], s11)) (KE R i a e s)) (KE R i a e s) none) none) none) := D9 [8, 11, 17, 23]
theorem fw : KE R i a b s =
 (ob (R8 1 (.list 1 []) a) fun d1 => Ih R i d1 (iI 0) b s) := D9 [8, 11, 17, 23]
theorem SG : Ih R i a b c s =
 (ob (dLen (A7 1 c)) fun d1 => ob (A8 .lss b d1) fun d2 => D6 d2 (ob (E8 1 (A7 1 c) b) fun d3 => og (M9 d3) <| ob (R.p aP [a, d3]) fun d4 => D6 d4 (oc (R.r Bd [(pt i), ((iI 6), .val)] s) fun q5 s5 => PH R i a b c s5) (PH R i a b c s)) (Fb R i a (iI 0) c s)) := H5 [8, 11, 17, 23]
theorem f_ : PH R i a b c s =
 (ob (E8 1 (A7 1 c) b) fun d1 => og (M9 d1) <| og (I7 d1) <| ob (R8 1 a (.list 1 [d1])) fun d2 => ob (A8 .add b (iI 1)) fun d3 => Ih R i d2 d3 c s) := D9 [8, 11, 17, 23]
theorem SH : Fb R i a b c s =
 (ob (dLen (A7 0 c)) fun d1 => ob (A8 .lss b d1) fun d2 => D6 d2 (ob (M7 s i) fun c3 => ob (U4 c3 1) fun d4 => ob (O9 .not d4) fun d5 => I5 d5 (ob (E8 3 (A7 0 c) b) fun d6 => ob (R.p F_ [(H6 d6), (iI 5)]) fun d7 => ob (O9 .not d7) fun d8 => D6 d8 (oc (R.r Bd [(pt i), ((iI 9), .val)] s) fun q9 s9 => KF R i a b c s9) (KF R i a b c s)) (KF R i a b c s) none) (some ([a], s))) := H5 [8, 11, 17, 23]
theorem gB : KF R i a b c s =
 (ob (E8 3 (A7 0 c) b) fun d1 => ob (R.p ZO [(H6 d1)]) fun d2 => Ii R i a b d2 (iI 0) c s) := D9 [8, 11, 17, 23]
theorem SI : Ii R i a b c d e s =
 (ob (dLen c) fun d1 => ob (A8 .lss d d1) fun d2 => D6 d2 (ob (E8 1 c d) fun d3 => og (M9 d3) <| ob (R.p aP [a, d3]) fun d4 => ob (O9 .not d4) fun d5 => D6 d5 (oc (R.r Bd [(pt i), ((iI 6), .val)] s) fun q6 s6 => ob (A8 .add d (iI 1)) fun d7 => Ii R i a b c d7 e s6) (ob (A8 .add d (iI 1)) fun d8 => Ii R i a b c d8 e s)) (ob (A8 .add b (iI 1)) fun d9 => Fb R i a d9 e s)) := H5 [8, 11, 17, 23]
theorem sG : (run cfg).r QT [(.undef, (.ptr i 0)), (a, .val), (b, .val), (c, .val), (d, .val)] s = XK (run cfg) i a b c d s := Dl (s := Cg) Tryz.func60
theorem A3R (x0 : Nat) (x1 x2 x3 x4 : DV) (sg : List D7) {q : List DV × List D7} (h : XK (run cfg) x0 x1 x2 x3 x4 sg = some q) : (run cfg).r QT [(.undef, (.ptr x0 0)), (x1, .val), (x2, .val), (x3, .val), (x4, .val)] sg = some q := (sG x0 x1 x2 x3 x4 sg).trans h
def A2o := eP Tryz.f61 jT R [] (F5 Tryz.f61 [(a, .val), (b, .val)] [])
def RN := hP Tryz.f61 jT R (pb 28) (ms 23 [(0, a), (1, b), (5, c)] [] [] [])
theorem A0U : A2o R a b =
 (ob (dLen a) fun d1 => ob (A8 .sub d1 (iI 1)) fun d2 => RN R a b d2) := D9 []
theorem PQ : RN R a b c =
 (ob (A8 .geq c (iI 0)) fun d1 => I5 d1 (ob (E8 5 a c) fun d2 => ob (A8 .neq (A7 0 d2) b) fun d3 => D6 d3 (ob (A8 .sub c (iI 1)) fun d4 => RN R a b d4) (some c)) (some c) none) := H5 []
theorem w_ : (run cfg).p ZV [a, b] = A2o (run cfg) a b := P9 Tryz.func61
def A4x := eP Tryz.f62 Zg R [] (F5 Tryz.f62 [(a, .val), (b, .val)] [])
def Tp := hP Tryz.f62 Zg R (pb 210) (ms 54 [(1, a), (5, b)] [] [(2, bx c 3), (4, some zb4)] [])
def RJ := hP Tryz.f62 Zg R (pb 122) (ms 54 [(1, a), (7, b)] [] [(2, bx c 3), (4, some zb4), (6, some [(d, .val), ((iI 0), .val), (e, .own)])] [])
theorem A2U : A4x R a b =
 (og (C9 3 a) <| ob (A8 .eql (A7 0 a) (iI 6)) fun d1 => D6 d1 (Tp R b (iI 0) a) (og (I7 (A7 0 a)) <| RJ R b (iI 0) a (A7 0 a) (.list 3 []))) := D9 []
theorem Ya : Tp R a b c =
 (ob (dLen a) fun d1 => ob (A8 .lss b d1) fun d2 => D6 d2 (ob (E8 4 a b) fun d3 => ob (A8 .eql (A7 0 d3) (A7 1 c)) fun d4 => D6 d4 (ob (E8 4 a b) fun d5 => some (.agg [(A7 1 d5), (A7 2 d5), (A7 3 d5)])) (ob (A8 .add b (iI 1)) fun d6 => Tp R a d6 c)) (some (H6 c))) := H5 []
theorem WJ : RJ R a b c d e =
 (ob (dLen (A7 2 c)) fun d1 => ob (A8 .lss b d1) fun d2 => D6 d2 (ob (E8 3 (A7 2 c) b) fun d3 => ob (R.p fA [(H6 d3), a]) fun d4 => og (C9 3 d4) <| ob (R8 3 e (.list 3 [d4])) fun d5 => ob (A8 .add b (iI 1)) fun d6 => RJ R a d6 c d d5) (some (.agg [d, (iI 0), e]))) := H5 []
theorem A09 : (run cfg).p fA [a, b] = A4x (run cfg) a b := P9 Tryz.func62
def A0o := eP Tryz.f63 dB R [] (F5 Tryz.f63 [(a, .val), (b, .val)] [])
def PE := hP Tryz.f63 dB R (pb 58) (ms 26 [(0, a), (1, b), (5, c), (6, d)] [(5, .own)] [] [])
theorem vw : A0o R a b =
 (PE R a b (.list 4 []) (iI 0)) := D9 []
theorem Uc : PE R a b c d =
 (ob (dLen a) fun d1 => ob (A8 .lss d d1) fun d2 => D6 d2 (ob (E8 1 a d) fun d3 => og (M9 d3) <| ob (E8 3 b d) fun d4 => og (I7 d3) <| ob (R8 4 c (.list 4 [(.agg [d3, (A7 0 d4), (A7 1 d4), (A7 2 d4)])])) fun d5 => ob (A8 .add d (iI 1)) fun d6 => PE R a b d5 d6) (some c)) := H5 []
theorem sD : (run cfg).p ig [a, b] = A0o (run cfg) a b := P9 Tryz.func63
def A0q := eR Tryz.f64 Yr xR R [] (F5 Tryz.f64 [(pt i), (a, .val), (b, .val), (c, .val), (d, .val), (e, .val), (f, (.Ad [.val, .val, .val, .own]))] s)
theorem bI : A0q R i a b c d e f s =
 (og (C9 16 a) <| og (C9 3 b) <| og (C9 4 f) <| ob (M7 s i) fun c1 => ob (U4 c1 0) fun d2 => ob (A8 .neq d2 (iI 0)) fun d3 => D6 d3 (some ([(.agg [(A7 0 f), (A7 1 f), (A7 2 f), (A7 3 f)])], s)) (ob (E8 16 (A7 15 a) c) fun d4 => ob (E8 3 (A7 2 b) c) fun d5 => oc (R.r TP [(pt i), ((L8 d4), .val), ((H6 d5), .val), (d, .val), (e, .val)] s) fun q6 s6 => og (C9 4 q6) <| ob (R8 4 (A7 3 f) (.list 4 [q6])) fun d7 => some ([(.agg [(A7 0 f), (A7 1 f), (A7 2 f), d7])], s6))) := D9 []
theorem Yd : (run cfg).r AJ [(.undef, (.ptr i 0)), (a, .val), (b, .val), (c, .val), (d, .val), (e, .val), (f, (.Ad [.val, .val, .val, .own]))] s = A0q (run cfg) i a b c d e f s := Dl (s := Yr) Tryz.func64
def nP := eP Tryz.f65 A1k R [] (F5 Tryz.f65 [(a, .val), (b, .val)] [])
theorem jK : nP R a b =
 (og (C9 4 a) <| ob (dLen (A7 3 a)) fun d1 => ob (A8 .lss b d1) fun d2 => D6 d2 (ob (E8 4 (A7 3 a) b) fun d3 => some (H6 d3)) (some (.agg [(iI 0), (iI 0), (.list 3 [])]))) := D9 []
theorem bV : (run cfg).p AC [a, b] = nP (run cfg) a b := P9 Tryz.func65
theorem qE (x0 x1 : DV) {d : DV} (h : nP (run cfg) x0 x1 = some d) : (run cfg).p AC [x0, x1] = some d := (bV x0 x1).trans h
def A2c := eP Tryz.f66 A1e R [] (F5 Tryz.f66 [(a, .val)] [])
theorem A0I : A2c R a =
 (og (C9 3 a) <| some (.agg [(iI 8), (iI 0), (.list 3 [(H6 a)])])) := D9 []
theorem wU : (run cfg).p TN [a] = A2c (run cfg) a := P9 Tryz.func66
def uV := eR Tryz.f67 Wu sW R [] (F5 Tryz.f67 [(pt i), (a, .val), (b, .val)] s)
theorem Yb : uV R i a b s =
 (og (C9 3 a) <| og (C9 3 b) <| ob (M7 s i) fun c1 => ob (U4 c1 0) fun d2 => ob (A8 .eql d2 (iI 0)) fun d3 => I5 d3 (ob (R.p XF [(H6 a), (H6 b)]) fun d4 => ob (O9 .not d4) fun d5 => D6 d5 (ob (M7 s i) fun c6 => ob (c6[0]?) fun u7 => some ([], (s.set i (D7.box (c6.set 0 ((iI 4), .val)))))) (some ([], s))) (some ([], s)) none) := D9 []
theorem WU : (run cfg).r Bc [(.undef, (.ptr i 0)), (a, .val), (b, .val)] s = uV (run cfg) i a b s := Dl (s := Wu) Tryz.func67
def A0r := eP Tryz.f68 xS R [] (F5 Tryz.f68 [(a, .val), (b, .val)] [])
theorem wD : A0r R a b =
 (og (C9 3 a) <| ob (R.p DX [(H6 a)]) fun d1 => D6 d1 (ob (E8 3 b (iI 0)) fun d2 => some (H6 d2)) (some (H6 a))) := D9 []
theorem sH : (run cfg).p XG [a, b] = A0r (run cfg) a b := P9 Tryz.func68
def A0s := eP Tryz.f69 xU R [] (F5 Tryz.f69 [(a, .val), (b, .val), (c, .val)] [])
theorem wE : A0s R a b c =
 (og (C9 3 c) <| ob (R8 5 (.list 5 []) a) fun d1 => og (I7 b) <| ob (R8 5 d1 (.list 5 [(.agg [b, (A7 0 c), (A7 1 c), (A7 2 c), (.list 1 [])])])) fun d2 => some d2) := D9 []
theorem sI : (run cfg).p QU [a, b, c] = A0s (run cfg) a b c := P9 Tryz.func69
def A0p := eR Tryz.f70 Yq xQ R [] (F5 Tryz.f70 [(pt i), (a, .val), (b, .val), (c, .val), (d, .val)] s)
theorem vz : A0p R i a b c d s =
 (og (C9 16 a) <| og (C9 3 b) <| oc (R.r AJ [(pt i), ((L8 a), .val), ((H6 b), .val), ((iI 0), .val), (c, .val), (d, .val), ((.agg [(iI 0), (iI 0), (.list 3 []), (.list 4 [])]), (.Ad [.val, .val, .val, .own]))] s) fun q1 s1 => og (C9 4 q1) <| oc (R.r AJ [(pt i), ((L8 a), .val), ((H6 b), .val), ((iI 1), .val), (c, .val), (d, .val), ((.agg [(A7 0 q1), (A7 1 q1), (A7 2 q1), (A7 3 q1)]), (.Ad [.val, .val, .val, .own]))] s1) fun q2 s2 => og (C9 4 q2) <| ob (M7 s2 i) fun c3 => ob (U4 c3 0) fun d4 => ob (A8 .neq d4 (iI 0)) fun d5 => D6 d5 (some ([(.agg [(A7 0 q2), (A7 1 q2), (A7 2 q2), (A7 3 q2)])], s2)) (ob (R.p AC [(.agg [(A7 0 q2), (A7 1 q2), (A7 2 q2), (A7 3 q2)]), (iI 0)]) fun d6 => og (C9 3 d6) <| ob (A8 .eql (A7 0 d6) (iI 5)) fun d7 => D6 d7 (ob (R.p AC [(.agg [(A7 0 q2), (A7 1 q2), (A7 2 q2), (A7 3 q2)]), (iI 1)]) fun d8 =>
 oc (R.r Bc [(pt i), (d8, .val), ((H6 d6), .val)] s2) fun q9 s9 => some ([(.agg [(A7 0 d6), (A7 1 d6), (A7 2 d6), (A7 3 q2)])], s9)) (ob (A8 .eql (A7 0 d6) (iI 9)) fun U2 => D6 U2 (ob (R.p AC [(.agg [(A7 0 q2), (A7 1 q2), (A7 2 q2), (A7 3 q2)]), (iI 1)]) fun V7 => ob (E8 3 (A7 2 d6) (iI 0)) fun Z7 => oc (R.r Bc [(pt i), (V7, .val), ((H6 Z7), .val)] s2) fun q13 s13 => ob (E8 3 (A7 2 d6) (iI 1)) fun ET => some ([(.agg [(A7 0 ET), (A7 1 ET), (A7 2 ET), (A7 3 q2)])], s13)) (oc (R.r Bd [(pt i), ((iI 4), .val)] s2) fun q15 s15 => some ([(.agg [(A7 0 q2), (A7 1 q2), (A7 2 q2), (A7 3 q2)])], s15))))) := D9 []
theorem sF : (run cfg).r il [(.undef, (.ptr i 0)), (a, .val), (b, .val), (c, .val), (d, .val)] s = A0p (run cfg) i a b c d s := Dl (s := Yq) Tryz.func70
end
end Go.Su

/-
 Equations of the program's functions: by program.
-/
namespace Go.Su
set_option maxRecDepth 100000
noncomputable section
open Go.Proofs
variable (R : N7) (i j k l m n : Nat) (a b c d e f g h o p q r t u v w x y z A B C D E F G H I J K L M N O P Q S T U V W X Y Z a1 a2 a3 a4 a5 a6 a7 a8 a9 ai VZ a12 a13 a14 Yv a16 a17 a18 a19 a20 a21 a22 a23 a24 a25 a26 a27 a28 a29 a30 a31 a32 a33 a34 a35 a36 a37 a38 a39 a40 a41 a42 a43 a44 a45 a46 a47 a48 a49 a50 a51 a52 a53 a54 a55 a56 a57 a58 a59 : DV) (s : List D7)
def jA := eR Tryz.f71 IR OE R [] (F5 Tryz.f71 [(pt i), (a, .val), (b, .val), (c, .val), (d, .val), (e, .val)] s)
def YU := eR Tryz.f71 IR OE R (pb 2007) (ms 108 [(3, a), (4, b), (5, c)] [(0, (.ptr i 0))] [(7, bx d 16), (8, bx e 3), (12, some zb3), (13, bv [f, (iI 0), (iI 0), (.list 3 []), g]), (15, bv [h, o, p]), (16, bx q 3)] s)
def PG := eR Tryz.f71 IR OE R (pb 63) (ms 108 [(3, a), (4, b), (5, c), (14, d)] [(0, (.ptr i 0))] [(7, bx e 16), (8, bx f 3), (12, some zb3), (13, bv [g, h, o, p, q]), (15, bv [r, t, u])] s)
def Gm := eR Tryz.f71 IR OE R (pb 255) (ms 108 [(3, a), (4, b)] [(0, (.ptr i 0))] [(7, bx c 16), (8, bx d 3), (12, bv [e, f, g, h]), (13, bv [o, p, q, r, t]), (17, some [(u, .val), (v, .val), (w, .val), (x, .own)])] s)
theorem bJ : jA R i a b c d e s =
 (og (C9 16 a) <| og (C9 3 b) <| og (I7 (A7 3 a)) <| og (I7 (A7 1 b)) <| ob (A8 .eql (A7 0 a) (iI 12)) fun d1 => D6 d1 (ob (R.p XG [(.agg [(A7 8 a), (A7 9 a), (A7 10 a)]), (A7 0 b)]) fun d2 => og (C9 3 d2) <| ob (R.p DX [(.agg [(A7 11 a), (A7 12 a), (A7 13 a)])]) fun d3 => D6 d3 (ob (dLen (A7 0 b)) fun d4 => ob (A8 .sub d4 (iI 1)) fun d5 => ob (E8 3 (A7 0 b) d5) fun d6 => YU R i c d e a b (A7 3 a) (A7 1 b) (A7 0 d6) (A7 1 d6) (A7 2 d6) d2 s) (YU R i c d e a b (A7 3 a) (A7 1 b) (A7 11 a) (A7 12 a) (A7 13 a) d2 s)) (PG R i c d e c a b (A7 3 a) (iI 0) (iI 0) (.list 3 []) (A7 1 b) (iI 0) (iI 0) (.list 3 []) s)) := D9 [9, 11, 18]
theorem WL : YU R i a b c d e f g h o p q s =
 (ob (R.p IX [(iI 9), (H6 q), (.agg [h, o, p])]) fun d1 => og (C9 3 d1) <| ob (R.p QU [a, (A7 3 d), (H6 d1)]) fun d2 => ob (R.p QU [d2, (A7 4 d), (H6 q)]) fun d3 => PG R i a b c d3 d e f (A7 0 d1) (A7 1 d1) (A7 2 d1) g h o p s) := D9 [9, 11, 18]
theorem Ud : PG R i a b c d e f g h o p q r t u s =
 (oc (R.r AJ [(pt i), ((L8 e), .val), ((H6 f), .val), ((iI 0), .val), (d, .val), (c, .val), ((.agg [(iI 0), (iI 0), (.list 3 []), (.list 4 [])]), (.Ad [.val, .val, .val, .own]))] s) fun q1 s1 => og (C9 4 q1) <| ob (A8 .eql (A7 0 e) (iI 12)) fun d2 => D6 d2 (ob (R.p AC [(.agg [(A7 0 q1), (A7 1 q1), (A7 2 q1), (A7 3 q1)]), (iI 0)]) fun d3 => oc (R.r Bc [(pt i), (d3, .val), ((.agg [r, t, u]), .val)] s1) fun q4 s4 => Gm R i a b e f (iI 0) (iI 0) (.list 3 []) (.list 4 []) g h o p q (A7 0 q1) (A7 1 q1) (A7 2 q1) (A7 3 q1) s4) (ob (R.p DX [(.agg [(A7 8 e), (A7 9 e), (A7 10 e)])]) fun d5 => D6 d5 (ob (R.p AC [(.agg [(A7 0 q1), (A7 1 q1), (A7 2 q1), (A7 3 q1)]), (iI 0)]) fun d6 => og (C9 3 d6) <| Gm R i a b e f (iI 0) (iI 0) (.list 3 []) (.list 4 []) g (A7 0 d6) (A7 1 d6) (A7 2 d6) q (A7 0 q1) (A7 1 q1) (A7 2 q1) (A7 3 q1) s1) (ob (R.p AC [(.agg [(A7 0 q1), (A7 1 q1), (A7 2 q1), (A7 3 q1)]), (iI 0)]) fun d7 =>
 oc (R.r Bc [(pt i), (d7, .val), ((.agg [(A7 8 e), (A7 9 e), (A7 10 e)]), .val)] s1) fun q8 s8 => Gm R i a b e f (iI 0) (iI 0) (.list 3 []) (.list 4 []) g (A7 8 e) (A7 9 e) (A7 10 e) q (A7 0 q1) (A7 1 q1) (A7 2 q1) (A7 3 q1) s8))) := D9 [9, 11, 18]
theorem Ue : Gm R i a b c d e f g h o p q r t u v w x s =
 (ob (R8 5 (.list 5 []) a) fun d1 => ob (R8 5 d1 (.list 5 [(.agg [o, p, q, r, t])])) fun d2 => oc (R.r AJ [(pt i), ((L8 c), .val), ((H6 d), .val), ((iI 1), .val), (d2, .val), (b, .val), ((.agg [u, v, w, x]), (.Ad [.val, .val, .val, .own]))] s) fun q3 s3 => og (C9 4 q3) <| ob (R.p AC [(.agg [(A7 0 q3), (A7 1 q3), (A7 2 q3), (A7 3 q3)]), (iI 1)]) fun d4 => og (C9 3 d4) <| some ([(.agg [(A7 0 d4), (A7 1 d4), (A7 2 d4), (A7 3 q3)])], s3)) := D9 [9, 11, 18]
theorem Ye : (run cfg).r QS [(.undef, (.ptr i 0)), (a, .val), (b, .val), (c, .val), (d, .val), (e, .val)] s = jA (run cfg) i a b c d e s := Dl (s := IR) Tryz.func71
def pz := eR Tryz.f72 Fz Kc R [] (F5 Tryz.f72 [(pt i), (a, .val), (b, .val), (c, .val), (d, .val)] s)
def Gu := hR Tryz.f72 Fz Kc R (pb 122) (ms 111 [(3, a), (4, b), (12, c)] [(0, (.ptr i 0))] [(6, bx d 16), (7, bx e 3), (10, bv [f, g, h, o]), (11, some [(p, .val), (q, .val), (r, .val), (t, .own)])] s)
def NH := eR Tryz.f72 Fz Kc R (pb 7827) (ms 111 [(3, a), (4, b), (12, c), (13, d)] [(0, (.ptr i 0))] [(6, bx e 16), (7, bx f 3), (10, bv [g, h, o, p]), (11, some [(q, .val), (r, .val), (t, .val), (u, .own)])] s)
def Cr := hR Tryz.f72 Fz Kc R (pb 125242) (ms 111 [(3, a), (4, b), (12, c), (13, d), (15, e), (16, f)] [(0, (.ptr i 0)), (15, .own)] [(6, bx g 16), (7, bx h 3), (10, bv [o, p, q, r]), (11, some [(t, .val), (u, .val), (v, .val), (w, .own)])] s)
theorem kg : pz R i a b c d s =
 (og (C9 16 a) <| og (C9 3 b) <| oc (R.r AJ [(pt i), ((L8 a), .val), ((H6 b), .val), ((iI 0), .val), (c, .val), (d, .val), ((.agg [(iI 0), (iI 0), (.list 3 []), (.list 4 [])]), (.Ad [.val, .val, .val, .own]))] s) fun q1 s1 => og (C9 4 q1) <| ob (R.p AC [(.agg [(A7 0 q1), (A7 1 q1), (A7 2 q1), (A7 3 q1)]), (iI 0)]) fun d2 => ob (E8 3 (A7 0 b) (iI 0)) fun d3 => oc (R.r Bc [(pt i), (d2, .val), ((H6 d3), .val)] s1) fun q4 s4 => Gu R i c d (iI 0) a b (iI 0) (iI 0) (.list 3 []) (.list 4 []) (A7 0 q1) (A7 1 q1) (A7 2 q1) (A7 3 q1) s4) := D9 [9]
theorem Jj : Gu R i a b c d e f g h o p q r t s =
 (ob (dLen (A7 14 d)) fun d1 => ob (A8 .lss c d1) fun d2 => I5 d2 (ob (M7 s i) fun c3 => ob (U4 c3 0) fun d4 => ob (A8 .eql d4 (iI 0)) fun d5 => D6 d5 (ob (E8 7 (A7 14 d) c) fun d6 => ob (E8 3 (A7 0 e) (iI 0)) fun d7 => ob (R.r DY [((Gb d6), .val), ((H6 d7), .val), ((.list 4 []), .own)] s) fun q8 => ob (O4 0 (.I6 q8.1)) fun d9 => ob (O4 1 (.I6 q8.1)) fun U2 => ob (O9 .not U2) fun V7 => D6 V7 (oc (R.r Bd [(pt i), ((iI 4), .val)] q8.2) fun q12 s12 => NH R i a b c d9 d e f g h o p q r t s12) (NH R i a b c d9 d e f g h o p q r t q8.2)) (ob (E8 3 (A7 0 e) (iI 1)) fun Ci => some ([(.agg [(A7 0 Ci), (A7 1 Ci), (A7 2 Ci), t])], s))) (ob (E8 3 (A7 0 e) (iI 1)) fun ET => some ([(.agg [(A7 0 ET), (A7 1 ET), (A7 2 ET), t])], s)) none) := H5 [9]
theorem bK : NH R i a b c d e f g h o p q r t u s =
 (ob (R8 5 (.list 5 []) a) fun d1 => Cr R i a b c d d1 (iI 0) e f g h o p q r t u s) := D9 [9]
theorem Iw : Cr R i a b c d e f g h o p q r t u v w s =
 (ob (dLen d) fun d1 => ob (A8 .lss f d1) fun d2 => D6 d2 (ob (E8 4 d f) fun d3 => ob (E8 4 d f) fun d4 => og (I7 (A7 0 d3)) <| ob (R8 5 e (.list 5 [(.agg [(A7 0 d3), (A7 1 d4), (A7 2 d4), (A7 3 d4), (.list 1 [])])])) fun d5 => ob (A8 .add f (iI 1)) fun d6 => Cr R i a b c d d5 d6 g h o p q r t u v w s) (ob (A8 .add c (iI 1)) fun d7 => oc (R.r AJ [(pt i), ((L8 g), .val), ((H6 h), .val), (d7, .val), (e, .val), (b, .val), ((.agg [t, u, v, w]), (.Ad [.val, .val, .val, .own]))] s) fun q8 s8 => og (C9 4 q8) <| ob (A8 .add c (iI 1)) fun d9 => ob (R.p AC [(.agg [(A7 0 q8), (A7 1 q8), (A7 2 q8), (A7 3 q8)]), d9]) fun U2 => ob (E8 3 (A7 0 h) (iI 1)) fun V7 => oc (R.r Bc [(pt i), (U2, .val), ((H6 V7), .val)] s8) fun q12 s12 => ob (A8 .add c (iI 1)) fun Ci => Gu R i a b Ci g h o p q r (A7 0 q8) (A7 1 q8) (A7 2 q8) (A7 3 q8) s12)) := H5 [9]
theorem gP : (run cfg).r YQ [(.undef, (.ptr i 0)), (a, .val), (b, .val), (c, .val), (d, .val)] s = pz (run cfg) i a b c d s := Dl (s := Fz) Tryz.func72
def uW := eR Tryz.f73 Es IP R [] (F5 Tryz.f73 [(pt i), (a, .val), (b, .val), (c, .val), (d, .val)] s)
def Vr := eR Tryz.f73 Es IP R (pb 31) (ms 77 [(3, a), (4, b), (12, c)] [(0, (.ptr i 0))] [(6, bx d 16), (7, bx e 3), (10, some zb3), (11, some [(f, .val), (g, .val), (h, .val), ((.list 4 []), .own)])] s)
def Tu := eR Tryz.f73 Es IP R (pb 2007) (ms 77 [(3, a), (4, b)] [(0, (.ptr i 0))] [(6, bx c 16), (7, bx d 3), (10, some zb3), (11, some [(e, .val), (f, .val), (g, .val), ((.list 4 []), .own)]), (13, bx h 3)] s)
def Ij := eR Tryz.f73 Es IP R (pb 63) (ms 77 [(3, a), (4, b), (12, c)] [(0, (.ptr i 0))] [(6, bx d 16), (7, bx e 3), (10, bv [f, g, h, o]), (11, some [(p, .val), (q, .val), (r, .val), ((.list 4 []), .own)])] s)
def Gv := hR Tryz.f73 Es IP R (pb 506) (ms 77 [(3, a), (4, b), (12, c), (14, d)] [(0, (.ptr i 0))] [(6, bx e 16), (7, bx f 3), (10, bv [g, h, o, p]), (11, some [(q, .val), (r, .val), (t, .val), (u, .own)])] s)
theorem qX : uW R i a b c d s =
 (og (C9 16 a) <| og (C9 3 b) <| ob (A8 .eql (A7 0 a) (iI 13)) fun d1 => D6 d1 (ob (E8 3 (A7 0 b) (iI 0)) fun d2 => ob (R.p BC [(iI 2)]) fun d3 => og (C9 3 d3) <| Vr R i c d (.list 3 [d3, (H6 d2), (H6 d2)]) a b (A7 0 d2) (A7 1 d2) (A7 2 d2) s) (Vr R i c d (.list 3 [(.agg [(A7 8 a), (A7 9 a), (A7 10 a)])]) a b (A7 8 a) (A7 9 a) (A7 10 a) s)) := D9 [6, 11, 14]
theorem NQ : Vr R i a b c d e f g h s =
 (ob (A8 .eql (A7 0 d) (iI 16)) fun d1 => D6 d1 (ob (R.p BC [(iI 1)]) fun d2 => og (C9 3 d2) <| ob (A8 .geq (A7 7 d) (iI 5)) fun d3 => D6 d3 (ob (R.p BC [(iI 2)]) fun d4 => og (C9 3 d4) <| Tu R i a b d e (A7 0 d4) (A7 1 d4) (A7 2 d4) d2 s) (Tu R i a b d e (A7 0 d2) (A7 1 d2) (A7 2 d2) d2 s)) (Ij R i a b c d e (iI 0) (iI 0) (.list 3 []) (.list 4 []) f g h s)) := D9 [6, 11, 14]
theorem Ll : Tu R i a b c d e f g h s =
 (ob (A8 .eql (A7 7 c) (iI 7)) fun d1 => D6 d1 (ob (R.p BC [(iI 3)]) fun d2 => og (C9 3 d2) <| Ij R i a b (.list 3 [(H6 d2), (H6 d2)]) c d (iI 0) (iI 0) (.list 3 []) (.list 4 []) e f g s) (Ij R i a b (.list 3 [(H6 h), (H6 h)]) c d (iI 0) (iI 0) (.list 3 []) (.list 4 []) e f g s)) := D9 [6, 11, 14]
theorem bL : Ij R i a b c d e f g h o p q r s =
 (Gv R i a b c (iI 0) d e f g h o p q r (.list 4 []) s) := D9 [6, 11, 14]
theorem GL : Gv R i a b c d e f g h o p q r t u s =
 (ob (dLen c) fun d1 => ob (A8 .lss d d1) fun d2 => D6 d2 (oc (R.r AJ [(pt i), ((L8 e), .val), ((H6 f), .val), (d, .val), (a, .val), (b, .val), ((.agg [q, r, t, u]), (.Ad [.val, .val, .val, .own]))] s) fun q3 s3 => og (C9 4 q3) <| ob (R.p AC [(.agg [(A7 0 q3), (A7 1 q3), (A7 2 q3), (A7 3 q3)]), d]) fun d4 => ob (E8 3 c d) fun d5 => oc (R.r Bc [(pt i), (d4, .val), ((H6 d5), .val)] s3) fun q6 s6 => ob (A8 .add d (iI 1)) fun d7 => Gv R i a b c d7 e f g h o p (A7 0 q3) (A7 1 q3) (A7 2 q3) (A7 3 q3) s6) (some ([(.agg [q, r, t, u])], s))) := H5 [6, 11, 14]
theorem lU : (run cfg).r aR [(.undef, (.ptr i 0)), (a, .val), (b, .val), (c, .val), (d, .val)] s = uW (run cfg) i a b c d s := Dl (s := Es) Tryz.func73
def A2e := eP Tryz.f74 jO R [] (F5 Tryz.f74 [(a, .val), (b, .val)] [])
def RD := hP Tryz.f74 jO R (pb 58) (ms 46 [(5, a)] [] [(2, bx b 3), (3, bx c 3)] [])
theorem A0K : A2e R a b =
 (og (C9 3 a) <| og (C9 3 b) <| ob (A8 .neq (A7 0 a) (A7 0 b)) fun d1 => I5 d1 (some (.bool false)) (ob (A8 .neq (A7 1 a) (A7 1 b)) fun d2 => I5 d2 (some (.bool false)) (ob (dLen (A7 2 a)) fun d3 => ob (dLen (A7 2 b)) fun d4 => ob (A8 .neq d3 d4) fun d5 => D6 d5 (some (.bool false)) (RD R (iI 0) a b)) none) none) := D9 []
theorem WB : RD R a b c =
 (ob (dLen (A7 2 b)) fun d1 => ob (A8 .lss a d1) fun d2 => D6 d2 (ob (E8 3 (A7 2 b) a) fun d3 => ob (E8 3 (A7 2 c) a) fun d4 => ob (R.p Ez [(H6 d3), (H6 d4)]) fun d5 => ob (O9 .not d5) fun d6 => D6 d6 (some (.bool false)) (ob (A8 .add a (iI 1)) fun d7 => RD R d7 b c)) (some (.bool true))) := H5 []
theorem wW : (run cfg).p Ez [a, b] = A2e (run cfg) a b := P9 Tryz.func74
def pm := eP Tryz.f75 WZ R [] (F5 Tryz.f75 [(a, .val), (b, .val)] [])
def La := hP Tryz.f75 WZ R (pb 58) (ms 60 [(5, a)] [] [(2, bx b 7), (3, bx c 7)] [])
theorem kY : pm R a b =
 (og (C9 7 a) <| og (C9 7 b) <| ob (A8 .neq (A7 0 a) (A7 0 b)) fun d1 => I5 d1 (some (.bool false)) (ob (A8 .neq (A7 3 a) (A7 3 b)) fun d2 => I5 d2 (some (.bool false)) (ob (A8 .neq (A7 4 a) (A7 4 b)) fun d3 => I5 d3 (some (.bool false)) (ob (A8 .neq (A7 5 a) (A7 5 b)) fun d4 => I5 d4 (some (.bool false)) (ob (dLen (A7 6 a)) fun d5 => ob (dLen (A7 6 b)) fun d6 => ob (A8 .neq d5 d6) fun d7 => D6 d7 (some (.bool false)) (La R (iI 0) a b)) none) none) none) none) := D9 []
theorem QF : La R a b c =
 (ob (dLen (A7 6 b)) fun d1 => ob (A8 .lss a d1) fun d2 => D6 d2 (ob (E8 7 (A7 6 b) a) fun d3 => ob (E8 7 (A7 6 c) a) fun d4 => ob (R.p Qy [(Gb d3), (Gb d4)]) fun d5 => ob (O9 .not d5) fun d6 => D6 d6 (some (.bool false)) (ob (A8 .add a (iI 1)) fun d7 => La R d7 b c)) (some (.bool true))) := H5 []
theorem gN : (run cfg).p Qy [a, b] = pm (run cfg) a b := P9 Tryz.func75
def kE := eP Tryz.f76 Ux R [] (F5 Tryz.f76 [(a, .val), (b, .val)] [])
def GI := hP Tryz.f76 Ux R (pb 122) (ms 56 [(1, a), (16, b), (17, c), (18, d)] [(6, (.map 0))] [(2, bx e 3), (4, some zb4)] s)
theorem gD : kE R a b =
 (og (C9 3 a) <| ob (R.p E_ [(H6 a)]) fun d1 => ob (A8 .neq d1 (iI 0)) fun d2 => D6 d2 (some (.I6 [(.agg [(iI 0), (iI 0), (.list 3 [])]), (iI 1)])) (ob (dLen b) fun d3 => GI R b b d3 (iI 0) a [.map false []])) := D9 []
theorem Nz : GI R a b c d e s =
 (ob (A8 .lss d c) fun d1 => D6 d1 (ob (E8 4 b d) fun d2 => ob (A8 .lss (A7 0 d2) (iI 0)) fun d3 => I5 d3 (some (.I6 [(.agg [(iI 0), (iI 0), (.list 3 [])]), (iI 1)])) (ob (A8 .gtr (A7 0 d2) (iI 1048576)) fun d4 => I5 d4 (some (.I6 [(.agg [(iI 0), (iI 0), (.list 3 [])]), (iI 1)])) (ob (R.p E_ [(.agg [(A7 1 d2), (A7 2 d2), (A7 3 d2)])]) fun d5 => ob (A8 .neq d5 (iI 0)) fun d6 => D6 d6 (some (.I6 [(.agg [(iI 0), (iI 0), (.list 3 [])]), (iI 1)])) (og (isKey false (A7 0 d2) && true) <| ob (p9 s 0) fun m7 => og (m7.1 == false) <| ob (O9 .not (.bool (Y7 m7.2 (A7 0 d2)).isSome)) fun d8 => D6 d8 (og (isKey false (A7 0 d2) && true && true) <| ob (p9 s 0) fun m9 => og (m9.1 == false) <| ob (A8 .add d (iI 1)) fun U2 => GI R a b c U2 e (s.set 0 (.map false (Cm m9.2 (A7 0 d2) d)))) (ob (A8 .add d (iI 1)) fun V7 => GI R a b c V7 e s))) none) none) (oc (R.r TR [((H6 e), .val), (a, .val), (.undef, (.map 0))] s) fun q12 s12 => og (C9 3 q12) <| some (.I6 [(.agg [(A7 0 q12), (A7 1 q12), (A7 2 q12)]), (iI 0)]))) := H5 []
theorem bW : (run cfg).p Vo [a, b] = kE (run cfg) a b := P9 Tryz.func76
def uT := eP Tryz.f78 Yi R [] (F5 Tryz.f78 [(a, .val)] [])
def Tn := eP Tryz.f78 Yi R (pb 503806) (ms 85 [] [] [(1, bx a 16), (2, some zb1), (4, bv [b, (iI 0), (iI 0), (.str ⟨#[]⟩), (.str ⟨#[]⟩), (iI 0), (.str ⟨#[]⟩), (iI 0), (iI 0), (iI 0), (.list 3 []), (iI 0), (iI 0), (.list 3 []), (.list 7 []), (.list 16 [])])] [])
theorem qU : uT R a =
 (og (C9 16 a) <| og (I7 (A7 0 a)) <| ob (A8 .eql (A7 0 a) (iI 1)) fun d1 => D6 d1 (og (I7 (A7 3 a)) <| some (.I6 [(.agg [(A7 0 a), (iI 0), (iI 0), (A7 3 a), (.str ⟨#[]⟩), (iI 0), (.str ⟨#[]⟩), (iI 0), (iI 0), (iI 0), (.list 3 []), (iI 0), (iI 0), (.list 3 []), (.list 7 []), (.list 16 [])]), (iI 0)])) (ob (A8 .eql (A7 0 a) (iI 2)) fun d2 => D6 d2 (og (I7 (A7 5 a)) <| some (.I6 [(.agg [(A7 0 a), (iI 0), (iI 0), (.str ⟨#[]⟩), (.str ⟨#[]⟩), (A7 5 a), (.str ⟨#[]⟩), (iI 0), (iI 0), (iI 0), (.list 3 []), (iI 0), (iI 0), (.list 3 []), (.list 7 []), (.list 16 [])]), (iI 0)])) (ob (A8 .eql (A7 0 a) (iI 3)) fun d3 => D6 d3 (og (I7 (A7 5 a)) <| some (.I6 [(.agg [(A7 0 a), (iI 0), (iI 0), (.str ⟨#[]⟩), (.str ⟨#[]⟩), (A7 5 a), (.str ⟨#[]⟩), (iI 0), (iI 0), (iI 0), (.list 3 []), (iI 0), (iI 0), (.list 3 []), (.list 7 []), (.list 16 [])]), (iI 0)])) (ob (A8 .eql (A7 0 a) (iI 4)) fun d4 => D6 d4 (og (I7 (A7 6 a)) <| some (.I6 [(.agg [(A7 0 a), (iI 0), (iI 0), (.str ⟨#[]⟩), (.str ⟨#[]⟩), (iI 0), (A7 6 a), (iI 0), (iI 0), (iI 0), (.list 3 []), (iI 0), (iI 0), (.list 3 []), (.list 7 []), (.list 16 [])]), (iI 0)])) (ob (A8 .eql (A7 0 a) (iI 5)) fun d5 =>
 D6 d5 (some (.I6 [(.agg [(A7 0 a), (iI 0), (iI 0), (.str ⟨#[]⟩), (.str ⟨#[]⟩), (iI 0), (.str ⟨#[]⟩), (iI 0), (iI 0), (iI 0), (.list 3 []), (iI 0), (iI 0), (.list 3 []), (.list 7 []), (.list 16 [])]), (iI 0)])) (ob (A8 .eql (A7 0 a) (iI 7)) fun d6 => D6 d6 (some (.I6 [(.agg [(A7 0 a), (iI 0), (iI 0), (.str ⟨#[]⟩), (.str ⟨#[]⟩), (iI 0), (.str ⟨#[]⟩), (iI 0), (iI 0), (iI 0), (.list 3 []), (iI 0), (iI 0), (.list 3 []), (.list 7 []), (.list 16 [])]), (iI 0)])) (ob (A8 .eql (A7 0 a) (iI 6)) fun d7 => D6 d7 (some (.I6 [(.agg [(A7 0 a), (iI 0), (iI 0), (.str ⟨#[]⟩), (.str ⟨#[]⟩), (iI 0), (.str ⟨#[]⟩), (iI 0), (iI 0), (iI 0), (.list 3 []), (iI 0), (iI 0), (.list 3 []), (.list 7 []), (.list 16 [])]), (iI 2)])) (ob (A8 .eql (A7 0 a) (iI 8)) fun d8 => D6 d8 (some (.I6 [(.agg [(A7 0 a), (iI 0), (iI 0), (.str ⟨#[]⟩), (.str ⟨#[]⟩), (iI 0), (.str ⟨#[]⟩), (iI 0), (iI 0), (iI 0), (.list 3 []), (iI 0), (iI 0), (.list 3 []), (.list 7 []), (.list 16 [])]), (iI 2)])) (ob (A8 .eql (A7 0 a) (iI 10)) fun d9 =>
 D6 d9 (some (.I6 [(.agg [(A7 0 a), (iI 0), (iI 0), (.str ⟨#[]⟩), (.str ⟨#[]⟩), (iI 0), (.str ⟨#[]⟩), (iI 0), (iI 0), (iI 0), (.list 3 []), (iI 0), (iI 0), (.list 3 []), (.list 7 []), (.list 16 [])]), (iI 2)])) (ob (A8 .eql (A7 0 a) (iI 9)) fun U2 => D6 U2 (Tn R a (A7 0 a)) (ob (A8 .eql (A7 0 a) (iI 11)) fun V7 => D6 V7 (Tn R a (A7 0 a)) (ob (A8 .eql (A7 0 a) (iI 12)) fun Z7 => D6 Z7 (og (I7 (A7 3 a)) <| og (I7 (A7 4 a)) <| some (.I6 [(.agg [(A7 0 a), (iI 0), (iI 0), (A7 3 a), (A7 4 a), (iI 0), (.str ⟨#[]⟩), (iI 0), (A7 8 a), (A7 9 a), (A7 10 a), (A7 11 a), (A7 12 a), (A7 13 a), (.list 7 []), (.list 16 [])]), (iI 2)])) (ob (A8 .eql (A7 0 a) (iI 13)) fun Ci => D6 Ci (some (.I6 [(.agg [(A7 0 a), (iI 0), (iI 0), (.str ⟨#[]⟩), (.str ⟨#[]⟩), (iI 0), (.str ⟨#[]⟩), (iI 0), (iI 0), (iI 0), (.list 3 []), (iI 0), (iI 0), (.list 3 []), (.list 7 []), (.list 16 [])]), (iI 3)])) (ob (A8 .eql (A7 0 a) (iI 14)) fun ET =>
 D6 ET (ob (dLen (A7 14 a)) fun GK => ob (A8 .add (iI 1) GK) fun d16 => og (I7 (A7 14 a)) <| some (.I6 [(.agg [(A7 0 a), (iI 0), (iI 0), (.str ⟨#[]⟩), (.str ⟨#[]⟩), (iI 0), (.str ⟨#[]⟩), (iI 0), (iI 0), (iI 0), (.list 3 []), (iI 0), (iI 0), (.list 3 []), (A7 14 a), (.list 16 [])]), d16])) (ob (A8 .eql (A7 0 a) (iI 15)) fun d17 => D6 d17 (some (.I6 [(.agg [(A7 0 a), (iI 0), (iI 0), (.str ⟨#[]⟩), (.str ⟨#[]⟩), (iI 0), (.str ⟨#[]⟩), (iI 0), (A7 8 a), (A7 9 a), (A7 10 a), (iI 0), (iI 0), (.list 3 []), (.list 7 []), (.list 16 [])]), (iI 1)])) (ob (A8 .eql (A7 0 a) (iI 16)) fun d18 => D6 d18 (og (I7 (A7 7 a)) <| some (.I6 [(.agg [(A7 0 a), (iI 0), (iI 0), (.str ⟨#[]⟩), (.str ⟨#[]⟩), (iI 0), (.str ⟨#[]⟩), (A7 7 a), (iI 0), (iI 0), (.list 3 []), (iI 0), (iI 0), (.list 3 []), (.list 7 []), (.list 16 [])]), (iI 2)])) (some (.I6 [(.agg [(A7 0 a), (iI 0), (iI 0), (.str ⟨#[]⟩), (.str ⟨#[]⟩), (iI 0), (.str ⟨#[]⟩), (iI 0), (iI 0), (iI 0), (.list 3 []), (iI 0), (iI 0), (.list 3 []), (.list 7 []), (.list 16 [])]), (.int .i64 (-1))])))))))))))))))))) := D9 [20]
theorem SE : Tn R a b =
 (og (I7 (A7 3 a)) <| ob (A8 .sub (A7 0 a) (iI 9)) fun d1 => ob (A8 .quo d1 (iI 2)) fun d2 => ob (A8 .add (iI 1) d2) fun d3 => some (.I6 [(.agg [b, (iI 0), (iI 0), (A7 3 a), (.str ⟨#[]⟩), (iI 0), (.str ⟨#[]⟩), (iI 0), (A7 8 a), (A7 9 a), (A7 10 a), (iI 0), (iI 0), (.list 3 []), (.list 7 []), (.list 16 [])]), d3])) := D9 [20]
theorem lS : (run cfg).p aQ [a] = uT (run cfg) a := P9 Tryz.func78
def A2k := eP Tryz.f79 A1h R [] (F5 Tryz.f79 [(a, .val), (b, .val)] [])
theorem A0Q : A2k R a b =
 (og (C9 3 a) <| ob (R.p DX [(H6 a)]) fun d1 => D6 d1 (some b) (ob (R.p QP [(H6 a)]) fun d2 => I5 d2 (ob (R.p F_ [(H6 a), (iI 6)]) fun d3 => some d3) (some (.bool false)) none)) := D9 []
theorem wo : (run cfg).p ZT [a, b] = A2k (run cfg) a b := P9 Tryz.func79
def A18 := eP Tryz.f80 jN R [] (F5 Tryz.f80 [(a, .val)] [])
def RB := hP Tryz.f80 jN R (pb 58) (ms 32 [(0, a), (3, b)] [] [] [])
theorem A0E : A18 R a =
 (ob (Dr a) fun d1 => ob (A8 .lss d1 (iI 1)) fun d2 => I5 d2 (some (.bool false)) (ob (Dr a) fun d3 => ob (A8 .gtr d3 (iI 32)) fun d4 => I5 d4 (some (.bool false)) (ob (Y4 a (iI 0)) fun d5 => ob (R.p QO [d5]) fun d6 => ob (O9 .not d6) fun d7 => D6 d7 (some (.bool false)) (RB R a (iI 0))) none) none) := D9 []
theorem WA : RB R a b =
 (ob (Dr a) fun d1 => ob (A8 .lss b d1) fun d2 => D6 d2 (ob (Y4 a b) fun d3 => ob (R.p nH [d3]) fun d4 => ob (O9 .not d4) fun d5 => D6 d5 (some (.bool false)) (ob (A8 .add b (iI 1)) fun d6 => RB R a d6)) (ob (R.p uE [a]) fun d7 => ob (O9 .not d7) fun d8 => some d8)) := H5 []
theorem wQ : (run cfg).p IV [a] = A18 (run cfg) a := P9 Tryz.func80
end
end Go.Su
