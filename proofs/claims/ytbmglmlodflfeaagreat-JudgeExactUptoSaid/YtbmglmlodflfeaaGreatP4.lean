/-
  Parts of the proof, merged: SuM3, SuM4, SuM5, SuRd2, SuFix, SuKeys, SuClone, SuMp, SuM6, SuM7, SuM8, SuM9, SuM10, SuM11, SuM12, SuX1, SuX2, SuX3, SuE1, SuE2, SuC1, SuT1, SuT2, SuC2, SuE3, SuE4, SuE5, SuE6, SuE7, SuE8, SuT3, SuT4, SuJ1, SuJ2, SuWk, Cfg, It, J0, G1, G2, G3, G4, G5, G6, G7.
-/
import Derived.ChangeShapes
import Derived.KernelRfl
import Derived.Lib.SliceRun
import Derived.LoopNIn
import Derived.Maps.RangeRun
import Derived.OwnWalkIn
import Derived.RangeFuncBound
import Derived.RangeFuncKeeps
import Derived.RangeFuncLeaves
import Derived.Shelf.Abstract
import Derived.Sort.KeysCollected
import Derived.Sort.OwnSorted
import Derived.TacticsInMore
import Derived.Test.YtbmglmlodflfeaaGreatProg
import Derived.Test.YtbmglmlodflfeaaGreatRows
import Derived.WalkKit
import Derived.Test.YtbmglmlodflfeaaGreatP3
set_option linter.unusedVariables false
set_option linter.unusedSimpArgs false
/-
 TERMS and EXPRESSIONS: what is said of them.
-/
namespace Go.Su
structure C9.fit (p : C9) : Prop where
 size : p.size ≤ lim
 txt : p.txt
theorem C9.VY {p : C9} (h : p.fit) : p.thin = true := C9.CG h.size
def C9.bare : C9 → C9
 | .mk k _ _ nm n s ks => .mk k 0 0 nm n s (ks.map C9.bare)
@[simp] theorem C9.A8Z (p : C9) : p.bare.kind = p.kind := by cases p; rw [C9.bare]; rfl
@[simp] theorem C9.B2c (p : C9) : p.bare.lo = 0 := by cases p; rw [C9.bare]; rfl
@[simp] theorem C9.B2b (p : C9) : p.bare.hi = 0 := by cases p; rw [C9.bare]; rfl
@[simp] theorem C9.A80 (p : C9) : p.bare.name = p.name := by cases p; rw [C9.bare]; rfl
@[simp] theorem C9.B3m (p : C9) : p.bare.n = p.n := by cases p; rw [C9.bare]; rfl
@[simp] theorem C9.B3n (p : C9) : p.bare.s = p.s := by cases p; rw [C9.bare]; rfl
@[simp] theorem C9.A8Y (p : C9) : p.bare.kids = p.kids.map C9.bare := by cases p; rw [C9.bare]; rfl
def Ex.bare : Ex → Ex
 | .mk k _ _ nm ar n s op a b ps ks => .mk k 0 0 nm ar n s op a b (ps.map C9.bare) (ks.map Ex.bare)
@[simp] theorem Ex.A8Z (p : Ex) : p.bare.kind = p.kind := by cases p; rw [Ex.bare]; rfl
@[simp] theorem Ex.B2c (p : Ex) : p.bare.lo = 0 := by cases p; rw [Ex.bare]; rfl
@[simp] theorem Ex.B2b (p : Ex) : p.bare.hi = 0 := by cases p; rw [Ex.bare]; rfl
@[simp] theorem Ex.A80 (p : Ex) : p.bare.name = p.name := by cases p; rw [Ex.bare]; rfl
@[simp] theorem Ex.B5I (p : Ex) : p.bare.arg = p.arg := by cases p; rw [Ex.bare]; rfl
@[simp] theorem Ex.B3m (p : Ex) : p.bare.n = p.n := by cases p; rw [Ex.bare]; rfl
@[simp] theorem Ex.B3n (p : Ex) : p.bare.s = p.s := by cases p; rw [Ex.bare]; rfl
@[simp] theorem Ex.B6D (p : Ex) : p.bare.op = p.op := by cases p; rw [Ex.bare]; rfl
@[simp] theorem Ex.B6M (p : Ex) : p.bare.a = p.a := by cases p; rw [Ex.bare]; rfl
@[simp] theorem Ex.B6N (p : Ex) : p.bare.b = p.b := by cases p; rw [Ex.bare]; rfl
@[simp] theorem Ex.B5B (p : Ex) : p.bare.F7 = p.F7.map C9.bare := by cases p; rw [Ex.bare]; rfl
@[simp] theorem Ex.A8Y (p : Ex) : p.bare.kids = p.kids.map Ex.bare := by cases p; rw [Ex.bare]; rfl
structure Ex.A0k (t : Ex) : Prop where
 name : t.name.size ≤ 4294967000
 arg : t.arg.size ≤ 4294967000
 s : t.s.size ≤ 4294967000
 a : t.a.thin = true
 b : t.b.thin = true
 avc : t.a.BS ≤ lim
 bvc : t.b.BS ≤ lim
 F7 : t.F7.length < lim
 pat : ∀ p ∈ t.F7, p.fit
 kids : t.kids.length < lim
inductive Ex.fit : Ex → Prop where
 | mk (t : Ex) : t.A0k → (∀ k ∈ t.kids, k.fit) → t.fit
theorem Ex.fit.one {t : Ex} (h : t.fit) : t.A0k := by cases h; assumption
theorem Ex.fit.kid {t k : Ex} (h : t.fit) (hk : k ∈ t.kids) : k.fit := by cases h with | mk _ _ g => exact g k hk
theorem C9.Nv (p : C9) : p.size ≤ p.J3 := by
 induction p using C9.ind with
 | h p ih =>
   rw [C9.size_eq, C9.U2];have key : ∀ ks : List C9, (∀ k ∈ ks, k.size ≤ k.J3) → (ks.map C9.size).sum ≤ (ks.map C9.J3).sum := by
    intro ks
    induction ks with
    | nil => simp
    | cons k ks ihk =>
      intro h;simp only [List.map_cons, List.sum_cons];have := h k (List.mem_cons_self ..);have := ihk fun k' Dr => h k' (List.mem_cons_of_mem _ Dr)
      omega
   have := key p.kids ih;omega
theorem C9.B1C {p : C9} : ∀ q ∈ p.subs, q.J3 ≤ p.J3 := by
 induction p using C9.ind with
 | h p ih =>
   intro q hq;rw [C9.MR] at hq;rcases List.mem_cons.1 hq with rfl | hq
   ·exact Nat.le_refl _
   ·obtain ⟨k, hk, hq⟩ := List.mem_flatMap.1 hq
    have := ih k hk q hq;have := C9.O3 hk;omega
theorem C9.VX {p : C9} (h : p.J3 ≤ 4294967000) : p.fit := by
 refine ⟨by have := p.Nv; unfold lim; omega, fun q hq => ?_⟩
 have := C9.B1C q hq;exact ⟨by have := q.vQ; omega, by have := q.A5q; omega⟩
theorem B3c {l : List Nat} (h : ∀ a ∈ l, 0 < a) : l.length ≤ l.sum := by
 induction l with
 | nil => simp
 | cons a l ih =>
   have := h a (List.mem_cons_self ..);have := ih fun b hb => h b (List.mem_cons_of_mem _ hb)
   simp only [List.length_cons, List.sum_cons];omega
theorem B2A {α : Type} {l : List α} {f : α → Nat} (h : ∀ a, 0 < f a) : l.length ≤ (l.map f).sum := by
 have := B3c (l := l.map f) (by intro a ha; obtain ⟨x, _, rfl⟩ := List.mem_map.1 ha; exact h x)
 simpa using this
theorem B2B {α : Type} {l : List α} {f : α → Nat} {a : α} (h : a ∈ l) : f a ≤ (l.map f).sum := AY (List.mem_map_of_mem (f := f) h)
theorem Ex.VX {t : Ex} : t.J3 ≤ 4294967000 → t.fit := by
 induction t using Ex.ind with
 | h t ih =>
   intro h;refine .mk t ⟨by have := t.vQ; omega, by have := t.B1d; omega, by have := t.A5q; omega, Ty.CG (by have := t.A9N; unfold lim; omega), Ty.CG (by have := t.A9O; unfold lim; omega), by have := t.A9N; have := t.a.gX; unfold lim; omega, by have := t.A9O; have := t.b.gX; unfold lim; omega, ?_, fun p hp => ?_, ?_⟩ fun k hk => ih k hk (by have := Ex.O3 hk; omega)
   ·have := t.A3y; have := B2A (l := t.F7) C9.Dw; unfold lim; omega
   ·have := t.A3y; have := B2B (f := C9.J3) hp; exact C9.VX (by omega)
   ·have := t.ah; unfold lim; omega
def Ty.none (t : Ty) : Bool := decide (t.kind = 0) && decide (t.n = 0) && decide (t.kids.length = 0)
theorem Ty.B1g {t : Ty} : t.none = true ↔ t = .mk 0 0 [] := by
 unfold Ty.none;rw [Ty.Dj];simp [and_assoc]
def jr (h : Bool) (s : ByteArray) : Bool := if h = true then Ii s else decide (s = N9)
end Go.Su

/-
 TERMS, as the reference has them.
-/
namespace Go.Su
end Go.Su

/-
 TYPES put for variables, types that agree, and the CHECKER of terms: what is said of them, without any program.
-/
namespace Go.Su
def look (l : List (Int × Ty)) (n : Int) : Option Ty := (l.find? fun e => decide (e.1 = n)).map (·.2)
def Ty.put (l : List (Int × Ty)) : Ty → Ty
 | .mk k n ks => if k = 6 then (look l n).getD (.mk k n ks) else .mk k n (ks.map (Ty.put l))
theorem Ty.put_eq (l : List (Int × Ty)) (t : Ty) : t.put l = if t.kind = 6 then (look l t.n).getD t else .mk t.kind t.n (t.kids.map (Ty.put l)) := by
 cases t;rw [Ty.put];rfl
def LZ (l : List (Int × Ty)) : Bool := l.all fun e => decide (0 ≤ e.1) && decide (e.1 ≤ 1048576) && e.2.right
def F8 : Ty := .mk 0 0 []
def NL (e : Int × Ty) : DV := .agg [.int .i64 e.1, .int .i64 e.2.kind, .int .i64 e.2.n, .list 3 (e.2.kids.map Ty.enc)]
def Ae (l : List (Int × Ty)) : DV := .list 4 (l.map NL)
theorem B1a {l : List (Int × Ty)} {n : Int} {t : Ty} (h : look l n = some t) : (n, t) ∈ l := by
 unfold look at h;cases hf : l.find? fun e => decide (e.1 = n) with
 | none => rw [hf] at h; cases h
 | some e =>
   rw [hf] at h;simp only [Option.map_some, Option.some.injEq] at h;have h1 := List.find?_some hf;simp only [decide_eq_true_eq] at h1;have h2 := List.mem_of_find?_eq_some hf;rw [← h, ← h1];exact h2
theorem Ty.Z6 {t : Ty} : t.right = true ↔ arity t.kind = t.kids.length ∧ 0 ≤ t.n ∧ t.n ≤ 1048576 ∧ (t.kind = 6 ∨ t.n = 0) ∧ ∀ k ∈ t.kids, k.right = true := by
 rw [Ty.right_eq];simp only [Bool.and_eq_true, Bool.or_eq_true, decide_eq_true_eq, List.all_eq_true, and_assoc]
theorem Ty.A5J {k n : Int} {ks : List Ty} : (Ty.mk k n ks).right = true ↔ arity k = ks.length ∧ 0 ≤ n ∧ n ≤ 1048576 ∧ (k = 6 ∨ n = 0) ∧ ∀ t ∈ ks, t.right = true :=
 Ty.Z6 (t := .mk k n ks)
theorem Ty.P5 {t k : Ty} (h : t.right = true) (hk : k ∈ t.kids) : k.right = true := (Ty.Z6.1 h).2.2.2.2 k hk
theorem kC {l : List (Int × Ty)} : LZ l = true ↔ ∀ e ∈ l, 0 ≤ e.1 ∧ e.1 ≤ 1048576 ∧ e.2.right = true := by
 unfold LZ;simp [and_assoc]
theorem Ty.A9Y {l : List (Int × Ty)} (hl : ∀ e ∈ l, e.2.right = true) (t : Ty) : t.right = true → (t.put l).right = true := by
 induction t using Ty.ind with
 | h t ih =>
   intro h;rw [Ty.put_eq]
   split
   ·cases hk : look l t.n with
    | none => exact h
    | some u => exact hl _ (B1a hk)
   ·rw [Ty.A5J]
    rw [Ty.Z6] at h;obtain ⟨h1, h2, h3, h4, h5⟩ := h;refine ⟨by simpa using h1, h2, h3, h4, fun k hk => ?_⟩
    obtain ⟨k', Dr, rfl⟩ := List.mem_map.1 hk;exact ih k' Dr (h5 k' Dr)
theorem Ty.B2V (t : Ty) : t.put [] = t := by
 induction t using Ty.ind with
 | h t ih =>
   rw [Ty.put_eq]
   split
   ·rfl
   ·rw [Ty.Dj]
    refine ⟨rfl, rfl, ?_⟩;simp only [Ty.CR]
    conv => rhs; rw [← List.map_id t.kids]
    exact List.map_congr_left fun k hk => ih k hk
def Ty.agrees (a b : Ty) : Bool :=
 if a.kind = 5 then b.without 6 else if b.kind = 5 then a.without 6 else
  decide (a.kind = b.kind) && decide (a.n = b.n) && ((a.kids.attach.zip b.kids).map fun p => Ty.agrees p.1.1 p.2).all id
termination_by SizeOf.sizeOf a
decreasing_by exact Ty.CX p.1.2
theorem Ty.A29 (a b : Ty) : a.agrees b = if a.kind = 5 then b.without 6 else if b.kind = 5 then a.without 6 else decide (a.kind = b.kind) && decide (a.n = b.n) && (a.kids.zip b.kids).all fun p => p.1.agrees p.2 := by
 rw [Ty.agrees]
 congr 3
 have e : a.kids.attach.zip b.kids = (a.kids.attach.zip b.kids) := rfl;have key : ∀ (l : List { x // x ∈ a.kids }) (m : List Ty), ((l.zip m).map fun p => Ty.agrees p.1.1 p.2).all id = ((l.map (·.1)).zip m).all fun p => p.1.agrees p.2 := by
  intro l
  induction l with
  | nil => intro m; simp
  | cons x l ih => intro m; cases m <;> simp_all
 rw [key];simp
def MP (k : Int) : Int := if k = 3 then 1 else if k = 4 then 2 else if k = 5 then 3 else if k = 6 then 4 else if k = 8 then 8 else 0
def Jt : List (Ty → Option (List (ByteArray × Ty))) → List Ty → Option (List (ByteArray × Ty))
 | [], _ => some []
 | _ :: _, [] => none
 | f :: fs, t :: ts => (f t).bind fun a => (Jt fs ts).bind fun b => some (a ++ b)
def Yx (p : C9) (fs : List (Ty → Option (List (ByteArray × Ty)))) (t : Ty) : Option (List (ByteArray × Ty)) :=
 if p.kind = 1 then some []
 else if p.kind = 2 then some [(p.name, t)]
 else if p.kind = 7 then if t.kind = 7 then Jt fs t.kids else none
 else if p.kind = 9 then if t.kind = 8 then Jt fs [t.kids.getD 0 F8, t] else none
 else if t.kind = MP p.kind then some [] else none
def C9.binds (p : C9) : Ty → Option (List (ByteArray × Ty)) := Yx p (p.kids.attach.map fun k => C9.binds k.1)
termination_by SizeOf.sizeOf p
decreasing_by exact C9.CX k.2
theorem C9.kU (p : C9) (t : Ty) : p.binds t = Yx p (p.kids.map C9.binds) t := by
 rw [C9.binds]
 congr 1
 exact List.attach_map_val (f := C9.binds) ..
structure Nm where
 name : ByteArray
 ty : Ty
 vars : List Int
def Nm.enc (x : Nm) : DV := .agg [.str x.name, .int .i64 x.ty.kind, .int .i64 x.ty.n, .list 3 (x.ty.kids.map Ty.enc), E9 x.vars]
def F9 (l : List Nm) : DV := .list 5 (l.map Nm.enc)
abbrev Res := Except Int Ty
def ae (S : List Int) (t : Ty) : Bool := t.vars.all fun v => decide (v ∈ S)
def takes (S : List Int) (l : List Int) : Bool := decide (l.Nodup) && l.all fun v => !decide (v ∈ S)
abbrev Chk := List Nm → List Int → Res
def DW (e : ByteArray × Ty) : Nm := ⟨e.1, e.2, []⟩
end Go.Su

/-
 FROM A READING TO DATA: binds, numbers, slices.
-/
namespace Go.Su
section
variable {H : Type} {enc : TypeId × Value → H} {P : Program} {w : World} {held : Bool}
end
section
variable {H : Type} {enc : TypeId × Value → H} {P : Program} {w : World} {base : Nat} {spare : Nat → Bool} {held : Bool}
end
end Go.Su

/-
 THE DATA MACHINE: the program's functions are what one step makes of them: as an equation; runs on closed data by rewriting.
-/
namespace Go.Su
noncomputable section
theorem A2K {C : V6} : Le (run C) (Ba C (run C)) := by
 constructor
 ·intro f ds d H
  obtain ⟨n, hn⟩ := xG.p f ds d H;cases n with
  | zero => simp [KS] at hn
  | succ n => exact (wI (xE n)).p _ _ _ hn
 ·intro f rs sg q H
  obtain ⟨n, hn⟩ := xG.r f rs sg q H;cases n with
  | zero => simp [KS] at hn
  | succ n => exact (wI (xE n)).r _ _ _ _ hn
theorem kg {α : Type} {x y : Option α} (h : ∀ a, x = some a → y = some a) (h' : ∀ a, y = some a → x = some a) : x = y := by
 cases hx : x with
 | some a => exact (h a hx).symm
 | none =>
   cases hy : y with
   | none => rfl
   | some b => have := h' b hy; rw [hx] at this; cases this
theorem A4Y {C : V6} {f : FuncId} {fn : Func} {c : Code} {ds : List DV} (hp : C.gT f = none) (hf : C.P.funcs[f]? = some fn) (hb : fn.body = some c) :
 (run C).p f ds = Ia C (run C) (C.fl f) (Vn C.P fn) [] c (F5 fn (ds.map fun d => (d, .val)) []) := by
 rw [iw];have e : (Ba C (run C)).p f ds = R5 C (run C) (C.fl f) c (Vn C.P fn) (F5 fn (ds.map fun d => (d, .val)) []) := by simp only [Ba, A1x, hp, hf, hb, K3]
 rw [← e];exact kg (fun a h => A2K.p _ _ _ h) (fun a h => A0B.p _ _ _ h)
theorem B2m {C : V6} {f : FuncId} {fn : Func} {c : Code} {s : Z8} {p : Yz} {rs : List (DV × Meta)} {sg : List D7} (hs : C.sig f = some s) (hp : C.XR f = some p) (hf : C.P.funcs[f]? = some fn) (hb : fn.body = some c) :
 (run C).r f rs sg = Ia C (run C) (C.fl f) (Qm C (run C) (C.fl f) p (BK C.P fn s) (TC (run C) (BK C.P fn s))) [] (BQ (p.pre ++ [p.r]) .skip) (F5 fn rs sg) := by
 rw [iw];have e : (Ba C (run C)).r f rs sg = R5 C (run C) (C.fl f) (BQ (p.pre ++ [p.r]) .skip) (Qm C (run C) (C.fl f) p (BK C.P fn s) (TC (run C) (BK C.P fn s))) (F5 fn rs sg) := by simp only [Ba, hs, hp, hf, hb, K3]
 rw [← e];exact kg (fun a h => A2K.r _ _ _ _ h) (fun a h => A0B.r _ _ _ _ h)
def A7X {X : Type} (C : V6) (R : N7) (fl : Flags) (p : Yz) (K : Out → St → Option X) (Kd : FuncId × List (DV × Meta) → Out → St → Option X) : Out → St → Option X
 | .exit _, _ => none
 | .ret, st => K .ret st
 | .normal, st => Bh C R fl (p.ops ++ [p.Wh]) p.ops (Ez fl p.id st) fun st => ob (Yu C p.Wh st) fun q => Ia C R fl (Kd q) [] p.post (clean fl p.post st)
def A1l {X : Type} (C : V6) (R : N7) (fl : Flags) (p : Yz) (K : Out → St → Option X) (Kd : FuncId × List (DV × Meta) → Out → St → Option X) : Out → St → Option X
 | .exit _, _ => none
 | .ret, st => K .ret st
 | .normal, st => Wl C.P p.c st (fun st => Ia C R fl (A7X C R fl p K Kd) [] p.a (clean fl p.a st)) (fun st => Ia C R fl K [] p.post (clean fl p.post st))
theorem B0E {X : Type} {C : V6} {R : N7} {fl : Flags} {p : Yz} {K : Out → St → Option X} {Kd : FuncId × List (DV × Meta) → Out → St → Option X} : Qm C R fl p K Kd = A1l C R fl p K Kd := by
 funext o st
 cases o with
 | normal =>
   simp only [Qm, A1l, iw]
   congr 1
   funext st
   congr 1
   funext o st
   cases o <;> simp only [A7X, iw]
 | exit i => rfl
 | ret => rfl
theorem B2n {C : V6} {f : FuncId} {fn : Func} {c : Code} {s : Z8} {rs : List (DV × Meta)} {sg : List D7} (hs : C.sig f = some s) (hf : C.P.funcs[f]? = some fn) (hb : fn.body = some c) (hp : C.XR f = none := by rfl) :
 (run C).r f rs sg = Ia C (run C) (C.fl f) (BK C.P fn s) [] c (F5 fn rs sg) := by
 rw [iw];have e : (Ba C (run C)).r f rs sg = R5 C (run C) (C.fl f) c (BK C.P fn s) (F5 fn rs sg) := by simp only [Ba, hs, hp, hf, hb, K3]
 rw [← e];exact kg (fun a h => A2K.r _ _ _ _ h) (fun a h => A0B.r _ _ _ _ h)
theorem B5r {α β : Type} {x y : Option α} (h : x = y) (f : α → Option β) : ob x f = ob y f := by rw [h]
theorem B5u {β : Type} {x y : Bool} (h : x = y) (f : Option β) : og x f = og y f := by rw [h]
theorem B4h {β : Type} {x y : DV} (h : x = y) (a b : Option β) : D6 x a b = D6 y a b := by rw [h]
theorem B4g {β : Type} {x y : DV} (h : x = y) (a b c : Option β) : I6 x a b c = I6 y a b c := by rw [h]
theorem B12 {β : Type} (x y : Option β) : D6 (.bool true) x y = x := rfl
theorem B1Z {β : Type} (x y : Option β) : D6 (.bool false) x y = y := rfl
theorem B1Y {β : Type} (x y z : Option β) : I6 (.bool true) x y z = x := rfl
theorem B1X {β : Type} (x y z : Option β) : I6 (.bool false) x y z = y := rfl
def Wt (sz kf : Nat) : List DV → Option (List DV) := Em fun d => match d with
 | .agg cs => JO sz kf cs
 | _ => none
theorem A9s {sz kf : Nat} {cs ds l : List DV} (h : cs.length = sz) (hk : cs.getD kf .undef = .list sz ds) (hl : ds.length ≤ lim) (hs : Wt sz kf ds = some l) : JO sz kf cs = some (.agg cs :: l) := by
 have key : ∀ (ds l : List DV), Wt sz kf ds = some l → ∃ n, Em (X4 sz kf n) ds = some l := by
  intro ds
  induction ds with
  | nil => intro l h; exact ⟨0, h⟩
  | cons d ds ih =>
    intro l h;simp only [Wt, Em] at h;obtain ⟨a, h1, h5⟩ := A9 h;obtain ⟨b, h2, h6⟩ := A9 h5;obtain ⟨m, hm⟩ := ih b h2;cases d with
    | agg cs =>
      simp only at h1;obtain ⟨n, hn⟩ := Yb h1;refine ⟨n + m, ?_⟩;simp only [Em, Nc (Nat.le_add_right n m) hn, UF (fun d l h => Nc (Nat.le_add_left m n) h) hm, K3]
      exact h6
    | _ => simp at h1
 obtain ⟨n, hn⟩ := key ds l hs;refine lC (n := n + 1) ?_;rw [X4, hk];simp only [h, beq_self_eq_true, Bool.true_and, decide_eq_true hl, hn, K3, U7]
theorem A72 (sz kf : Nat) : Wt sz kf [] = some [] := rfl
theorem za (sz kf : Nat) (cs : List DV) (ds : List DV) : Wt sz kf (.agg cs :: ds) = ob (JO sz kf cs) fun a => ob (Wt sz kf ds) fun b => some (a ++ b) := rfl
def flatK (sz kf : Nat) (cs : List DV) : DV → Option (List DV)
 | .list s ds => og (s == sz && decide (ds.length ≤ lim)) (ob (Wt sz kf ds) fun l => some (.agg cs :: l))
 | _ => none
theorem B0O {sz kf n : Nat} : ∀ {ds l : List DV}, Em (X4 sz kf n) ds = some l → Wt sz kf ds = some l := by
 intro ds
 induction ds with
 | nil => intro l h; exact h
 | cons d ds ih =>
   intro l h;simp only [Em] at h;obtain ⟨a, h1, h2⟩ := A9 h;obtain ⟨b, h3, h4⟩ := A9 h2;cases d with
   | agg cs =>
     rw [za, lC h1, ih h3];exact h4
   | _ => cases n <;> simp [X4] at h1
theorem B0N (sz kf : Nat) (cs : List DV) : JO sz kf cs = og (cs.length == sz) (flatK sz kf cs (cs.getD kf .undef)) := by
 refine kg (fun l h => ?_) fun l h => ?_
 ·obtain ⟨n, hn⟩ := Yb h
  cases n with
  | zero => simp [X4] at hn
  | succ n =>
    rw [X4] at hn;obtain ⟨h1, hn⟩ := F6 hn;rw [h1];cases hk : cs.getD kf .undef with
    | list s ds =>
      rw [hk] at hn;simp only at hn;obtain ⟨h2, hn⟩ := F6 hn;obtain ⟨a, h3, h4⟩ := A9 hn;simp only [flatK, h2, U7, B0O h3, K3];exact h4
    | _ => rw [hk] at hn; simp at hn
 ·obtain ⟨h1, h⟩ := F6 h
  cases hk : cs.getD kf .undef with
  | list s ds =>
    rw [hk] at h;simp only [flatK] at h;obtain ⟨h2, h⟩ := F6 h;obtain ⟨a, h3, h4⟩ := A9 h;simp only [Bool.and_eq_true, decide_eq_true_eq, beq_iff_eq] at h2 h1;obtain ⟨rfl, h2⟩ := h2;simp only [Option.some.injEq] at h4;rw [← h4];exact A9s h1 hk h2 h3
  | _ => rw [hk] at h; simp [flatK] at h
theorem B5s {α : Type} {x y : Option (List DV × List D7)} (h : x = y) (k : DV → List D7 → Option α) : oc x k = oc y k := by rw [h]
theorem B5t {α : Type} (v : DV) (l : List DV) (s : List D7) (k : DV → List D7 → Option α) : oc (some (v :: l, s)) k = k v s := rfl
end
end Go.Su

/-
 THE DATA MACHINE, part 36: a map's keys, collected by a loop and sorted.
-/
namespace Go.Su
open Go.Sort
section
variable {P : Program} {n : Nat} {ops : Array Oper} {Q : Exit → Act → World → Prop} {a : Act} {w w' : World} {o : Oper} {rest : List Oper} {v : Value}
end
end Go.Su

/-
 THE DATA MACHINE, part 37: the library's copy of a slice.
-/
namespace Go.Su
def B4D (c : Code) (p : List Bool) : List Oper :=
 match (sub p c []).1 with
 | .region _ ops _ => ops.toList
 | _ => []
def A7A : Nat → Code → List Code
 | n + 1, .seq a b => a :: A7A n b
 | _, _ => []
def A7f : Nat → Code → Code
 | n + 1, .seq _ b => A7f n b
 | _, c => c
section
variable {P : Program} {n : Nat} {ops : Array Oper} {Q : Exit → Act → World → Prop} {a : Act} {w : World} {rest : List Oper}
end
end Go.Su

/-
 MAPS of numbers and texts in the shared part, cells of the shared part.
-/
namespace Go.Su
def Da (es : List (DV × DV)) (c : Int → Int) : Prop := ∀ v, (Z4 es (.int .i64 v)).getD (.int .i64 0) = .int .i64 (c v)
theorem Da.nil : Da [] fun _ => 0 := fun _ => rfl
theorem Da.set {es : List (DV × DV)} {c : Int → Int} (h : Da es c) (a n : Int) : Da (Cc es (.int .i64 a) (.int .i64 n)) fun v => if a = v then n else c v := by
 intro v;rw [A3x]
 by_cases e : a = v
 ·simp [e]
 ·simp [e, h v]
theorem A5P {sg : List D7} {i : Nat} {x : Bool × List (DV × DV)} (h : AJ sg i = some x) : i < sg.length := by
 unfold AJ at h;cases hi : sg[i]? with
 | none => rw [hi] at h; cases h
 | some o => exact (List.getElem?_eq_some_iff.1 hi).1
theorem A92 {sg : List D7} {i : Nat} (h : i < sg.length) (ks : Bool) (es : List (DV × DV)) : AJ (sg.set i (.map ks es)) i = some (ks, es) := by
 unfold AJ;rw [List.getElem?_set_self h]
theorem B1s {sg : List D7} {i : Nat} {ks : Bool} {es : List (DV × DV)} (h : AJ sg i = some (ks, es)) : sg.set i (.map ks es) = sg := by
 have hl := A5P h;unfold AJ at h;have hg : sg[i]? = some sg[i] := List.getElem?_eq_getElem hl;rw [hg] at h;have e : sg[i] = .map ks es := by
  cases hx : sg[i] with
  | map a b => rw [hx] at h; simp at h; rw [h.1, h.2]
  | box _ => rw [hx] at h; cases h
  | arr _ _ => rw [hx] at h; cases h
  | opn _ _ _ => rw [hx] at h; cases h
 rw [← e];exact List.set_getElem_self hl
theorem A91 {sg : List D7} {i : Nat} (h : i < sg.length) (cs : List (DV × Meta)) : M4 (sg.set i (.box cs)) i = some cs := by
 unfold M4;rw [List.getElem?_set_self h]
@[simp] theorem B6W (a : DV) (l : List DV) : N8 0 (.H7 (a :: l)) = some a := rfl
@[simp] theorem B6X (a b : DV) (l : List DV) : N8 1 (.H7 (a :: b :: l)) = some b := rfl
@[simp] theorem B6Y (a b c : DV) (l : List DV) : N8 2 (.H7 (a :: b :: c :: l)) = some c := rfl
@[simp] theorem B6Z (a b c d : DV) (l : List DV) : N8 3 (.H7 (a :: b :: c :: d :: l)) = some d := rfl
theorem Ac {α : Type} {e : α → DV} {sz : Nat} {l : List α} {x : α} (h : l.length < lim) : R6 sz (.list sz (l.map e)) (.list sz [e x]) = some (.list sz ((l ++ [x]).map e)) := by
 rw [DL (by simp; omega)]
 simp
theorem A88 {α : Type} {e : α → DV} {sz : Nat} {l m : List α} (h : l.length + m.length ≤ lim) : R6 sz (.list sz (l.map e)) (.list sz (m.map e)) = some (.list sz ((l ++ m).map e)) := by
 rw [DL (by simpa using h)]
 simp
end Go.Su

/-
 PATTERNS and types: what is bound.
-/
namespace Go.Su
def NM (e : ByteArray × Ty) : DV := .agg [.str e.1, .int .i64 e.2.kind, .int .i64 e.2.n, .list 3 (e.2.kids.map Ty.enc)]
def O5 (l : List (ByteArray × Ty)) : DV := .list 4 (l.map NM)
@[simp] theorem B6I (e : ByteArray × Ty) : A7 0 (NM e) = .str e.1 := rfl
@[simp] theorem B6J (e : ByteArray × Ty) : A7 1 (NM e) = .int .i64 e.2.kind := rfl
@[simp] theorem B6K (e : ByteArray × Ty) : A7 2 (NM e) = .int .i64 e.2.n := rfl
@[simp] theorem B6L (e : ByteArray × Ty) : A7 3 (NM e) = .list 3 (e.2.kids.map Ty.enc) := rfl
@[simp] theorem Nm.Dy (e : Nm) : A7 0 e.enc = .str e.name := rfl
@[simp] theorem Nm.LY (e : Nm) : A7 1 e.enc = .int .i64 e.ty.kind := rfl
@[simp] theorem Nm.Ij (e : Nm) : A7 2 e.enc = .int .i64 e.ty.n := rfl
@[simp] theorem Nm.WN (e : Nm) : A7 3 e.enc = .list 3 (e.ty.kids.map Ty.enc) := rfl
@[simp] theorem Nm.Yj (e : Nm) : A7 4 e.enc = E9 e.vars := rfl
@[simp] theorem B4Q (l : List Nm) : dLen (F9 l) = some (.int .i64 l.length) := by simp [F9]
@[simp] theorem B3x (l : List (Int × Ty)) : dLen (Ae l) = some (.int .i64 l.length) := by simp [Ae]
theorem A4K {ks : List C9} : (∀ k ∈ ks, ∀ t b, k.binds t = some b → b.length ≤ k.size) → ∀ ts b, Jt (ks.map C9.binds) ts = some b → b.length ≤ (ks.map C9.size).sum := by
 induction ks with
 | nil => intro _ ts b h; simp only [List.map_nil, Jt, Option.some.injEq] at h; subst h; simp
 | cons k ks ih =>
   intro hk ts b h;cases ts with
   | nil => simp [Jt] at h
   | cons t ts =>
     simp only [List.map_cons, Jt, Option.bind_eq_some_iff, Option.some.injEq] at h;obtain ⟨a, h1, c, h2, rfl⟩ := h;have := hk k (List.mem_cons_self ..) t a h1;have := ih (fun k' Dr => hk k' (List.mem_cons_of_mem _ Dr)) ts c h2
     simp only [List.length_append, List.map_cons, List.sum_cons];omega
theorem C9.Re (p : C9) : ∀ t b, p.binds t = some b → b.length ≤ p.size := by
 induction p using C9.ind with
 | h p ih =>
   intro t b h;rw [C9.kU] at h;rw [C9.size_eq];unfold Yx at h
   split at h
   ·simp only [Option.some.injEq] at h; subst h; simp
   split at h
   ·simp only [Option.some.injEq] at h; subst h; simp
   split at h
   ·split at h
    ·have := A4K ih _ _ h; omega
    ·cases h
   split at h
   ·split at h
    ·have := A4K ih _ _ h; omega
    ·cases h
   split at h
   ·simp only [Option.some.injEq] at h; subst h; simp
   ·cases h
theorem A1i {ks : List C9} : (∀ k ∈ ks, ∀ t b, t.right = true → k.binds t = some b → ∀ e ∈ b, e.2.right = true) → ∀ ts b, (∀ t ∈ ts, t.right = true) → Jt (ks.map C9.binds) ts = some b → ∀ e ∈ b, e.2.right = true := by
 induction ks with
 | nil => intro _ ts b _ h; simp only [List.map_nil, Jt, Option.some.injEq] at h; subst h; simp
 | cons k ks ih =>
   intro hk ts b ht h;cases ts with
   | nil => simp [Jt] at h
   | cons t ts =>
     simp only [List.map_cons, Jt, Option.bind_eq_some_iff, Option.some.injEq] at h;obtain ⟨a, h1, c, h2, rfl⟩ := h;have a1 := hk k (List.mem_cons_self ..) t a (ht t (List.mem_cons_self ..)) h1;have a2 := ih (fun k' Dr => hk k' (List.mem_cons_of_mem _ Dr)) ts c (fun t' ht' => ht t' (List.mem_cons_of_mem _ ht')) h2
     intro e he;rcases List.mem_append.1 he with he | he
     ·exact a1 e he
     ·exact a2 e he
theorem mQ {t : Ty} (h : t.right = true) (hk : t.kind = 8) : ∃ a, t.kids = [a] := by
 have := (Ty.Z6.1 h).1;rw [hk] at this;have h1 : t.kids.length = 1 := by have : arity 8 = 1 := rfl; omega
 exact List.length_eq_one_iff.1 h1
theorem A3N {t : Ty} (h : t.right = true) (hk : t.kind = 7 ∨ t.kind = 9) : ∃ a b, t.kids = [a, b] := by
 have := (Ty.Z6.1 h).1;have h1 : t.kids.length = 2 := by
  rcases hk with hk | hk <;> rw [hk] at this
  ·have : arity 7 = 2 := rfl; omega
  ·have : arity 9 = 2 := rfl; omega
 match hx : t.kids, h1 with
 | [a, b], _ => exact ⟨a, b, rfl⟩
theorem C9.yO (p : C9) : ∀ t b, t.right = true → p.binds t = some b → ∀ e ∈ b, e.2.right = true := by
 induction p using C9.ind with
 | h p ih =>
   intro t b ht h;rw [C9.kU] at h;unfold Yx at h
   split at h
   ·simp only [Option.some.injEq] at h; subst h; simp
   split at h
   ·simp only [Option.some.injEq] at h; subst h; simpa using ht
   split at h
   ·split at h
    ·exact A1i ih _ _ (fun k hk => Ty.P5 ht hk) h
    ·cases h
   split at h
   ·split at h
    ·rename_i h8
     obtain ⟨a, ha⟩ := mQ ht h8;refine A1i ih _ _ ?_ h;intro k hk;rw [ha] at hk;simp at hk;rcases hk with rfl | rfl
     ·exact Ty.P5 ht (by rw [ha]; exact List.mem_cons_self ..)
     ·exact ht
    ·cases h
   split at h
   ·simp only [Option.some.injEq] at h; subst h; simp
   ·cases h
theorem C9.lX {p : C9} (h : p.one = true) : p.kids.length = if p.kind = 7 ∨ p.kind = 9 then 2 else 0 := by
 unfold C9.one at h
 grind
theorem C9.A7r {p : C9} (h : p.pat = true) : p.one = true := by
 rw [C9.A1Y] at h;simp only [Bool.and_eq_true] at h;exact h.1
theorem C9.A2I {p k : C9} (h : p.pat = true) (hk : k ∈ p.kids) : k.pat = true := by
 rw [C9.A1Y] at h;simp only [Bool.and_eq_true, List.all_eq_true] at h;exact h.2 k hk
theorem C9.A3H {p : C9} (h : p.right = true) : p.pat = true := by
 unfold C9.right at h;simp only [Bool.and_eq_true] at h;exact h.1
end Go.Su

/-
 The CHECKER of terms, kind by kind.
-/
namespace Go.Su
def Nm.ok (x : Nm) : Prop := x.ty.right = true ∧ x.vars.length ≤ lim ∧ ∀ v ∈ x.vars, 0 ≤ v ∧ v ≤ 1048576
def Au (l : List Nm) : Prop := ∀ x ∈ l, x.ok
theorem Au.app {l m : List Nm} (h : Au l) (h' : Au m) : Au (l ++ m) := fun x hx => by
 rcases List.mem_append.1 hx with hx | hx
 ·exact h x hx
 ·exact h' x hx
theorem Au.one {x : Nm} (h : x.ok) : Au [x] := fun y hy => by simp at hy; subst hy; exact h
theorem Au.B3A {b : List (ByteArray × Ty)} (h : ∀ e ∈ b, e.2.right = true) : Au (b.map DW) := fun x hx => by
 obtain ⟨e, he, rfl⟩ := List.mem_map.1 hx;exact ⟨h e he, by simp [DW], by simp [DW]⟩
theorem F_ {k : Int} (h : 1 ≤ k ∧ k ≤ 5) : (Ty.mk k 0 []).right = true := by
 rw [Ty.A5J];refine ⟨?_, by omega, by omega, .inr rfl, by simp⟩
 unfold arity;rw [if_pos (by omega)]
 rfl
end Go.Su

/-
 The CHECKER: which errors there are; how many names stand at once; scopes as maps of counters.
-/
namespace Go.Su
def B1L (e : Int) : Prop := e = 4 ∨ e = 6 ∨ e = 8
theorem SB {α X : Type} {l : List α} {P : Int → Option X} {f : α → Bool} {y n : Option X} (stop : P l.length = y)
 (step : ∀ (i : Nat) (h : i < l.length), P i = if f l[i] = true then P ((i : Int) + 1) else n) : P 0 = if l.all f = true then y else n := by
 have key : ∀ (m i : Nat), i + m = l.length → P i = if (l.drop i).all f = true then y else n := by
  intro m
  induction m with
  | zero => intro i hi; rw [List.drop_of_length_le (by omega), show i = l.length by omega, stop]; rfl
  | succ m ih =>
    intro i hi;have h : i < l.length := by omega
    have := ih (i + 1) (by omega)
    push_cast at this;rw [step i h, List.drop_eq_getElem_cons h, List.all_cons, this]
    by_cases h3 : f l[i] = true <;> simp [h3]
 have := key l.length 0 (by omega)
 simpa using this
def j6 (es : List (DV × DV)) (S : List Int) : Prop := Da es fun v => if v ∈ S then 1 else 0
theorem j6.nil : j6 [] [] := by
 have : (fun v : Int => if v ∈ ([] : List Int) then (1 : Int) else 0) = fun _ => 0 := by funext v; simp
 unfold j6; rw [this]; exact Da.nil
theorem Da.congr {es : List (DV × DV)} {c d : Int → Int} (h : Da es c) (e : ∀ v, c v = d v) : Da es d := fun v => by rw [h v, e v]
theorem SC {S l : List Int} : takes S l = true ↔ l.Nodup ∧ ∀ v ∈ l, v ∉ S := by
 unfold takes;simp
theorem A0D {S l : List Int} (h : takes S l = true) {es : List (DV × DV)} (k : Da es fun v => (if v ∈ S then 1 else 0) + 1 * (l.count v : Int)) : j6 es (l ++ S) := by
 obtain ⟨h1, h2⟩ := SC.1 h;refine k.congr fun v => ?_
 by_cases hv : v ∈ l
 ·have : l.count v = 1 := by have a := (List.nodup_iff_count.1 h1) v; have b := List.count_pos_iff.2 hv; omega
  simp [hv, h2 v hv, this]
 ·have : l.count v = 0 := List.count_eq_zero_of_not_mem hv
  simp [hv, this]
theorem XH {S l : List Int} (h : takes S l = true) {es : List (DV × DV)} (k : Da es fun v => (if v ∈ l ++ S then 1 else 0) + (-1) * (l.count v : Int)) : j6 es S := by
 obtain ⟨h1, h2⟩ := SC.1 h;refine k.congr fun v => ?_
 by_cases hv : v ∈ l
 ·have : l.count v = 1 := by have a := (List.nodup_iff_count.1 h1) v; have b := List.count_pos_iff.2 hv; omega
  simp [hv, h2 v hv, this]
 ·have : l.count v = 0 := List.count_eq_zero_of_not_mem hv
  simp [hv, this]
end Go.Su

/-
 The CHECKER: a term's type has no variables but those in scope.
-/
namespace Go.Su
inductive Ty.Occ (v : Int) : Ty → Prop where
 | here (t : Ty) : t.kind = 6 → t.n = v → Ty.Occ v t
 | kid (t k : Ty) : k ∈ t.kids → Ty.Occ v k → Ty.Occ v t
theorem Ty.B2D {v : Int} {t : Ty} : t.Occ v ↔ (t.kind = 6 ∧ t.n = v) ∨ ∃ k ∈ t.kids, k.Occ v := by
 constructor
 ·intro h
  cases h with
  | here _ a b => exact .inl ⟨a, b⟩
  | kid _ k a b => exact .inr ⟨k, a, b⟩
 ·rintro (⟨a, b⟩ | ⟨k, a, b⟩)
  ·exact .here t a b
  ·exact .kid t k a b
theorem Ty.A8n {v : Int} (t : Ty) : ∀ l : List Int, v ∈ t.BD l ↔ v ∈ l ∨ t.Occ v := by
 induction t using Ty.ind with
 | h t ih =>
   intro l;rw [Ty.XJ, Ty.B2D];have key : ∀ (ks : List Ty), (∀ k ∈ ks, ∀ l : List Int, v ∈ k.BD l ↔ v ∈ l ∨ k.Occ v) → ∀ l : List Int, v ∈ ks.foldl (fun l k => k.BD l) l ↔ v ∈ l ∨ ∃ k ∈ ks, k.Occ v := by
    intro ks
    induction ks with
    | nil => intro _ l; simp
    | cons k ks ihk =>
      intro h l;simp only [List.foldl_cons];rw [ihk (fun k' Dr => h k' (List.mem_cons_of_mem _ Dr)), h k (List.mem_cons_self ..)]
      simp only [List.mem_cons, exists_eq_or_imp, or_assoc]
   rw [key t.kids ih]
   by_cases h6 : t.kind = 6
   ·by_cases hn : t.n ∈ l
    ·simp only [h6, hn, not_true, and_false, if_false, true_and]
     constructor
     ·rintro (h | h)
      ·exact .inl h
      ·exact .inr (.inr h)
     ·rintro (h | h | h)
      ·exact .inl h
      ·subst h; exact .inl hn
      ·exact .inr h
    ·simp only [h6, hn, not_false_eq_true, and_self, if_true, List.mem_append, List.mem_singleton, true_and, or_assoc]
     have : v = t.n ↔ t.n = v := eq_comm;rw [this]
   ·simp [h6]
theorem A7k {S : List Int} {t : Ty} : ae S t = true ↔ ∀ v, t.Occ v → v ∈ S := by
 unfold ae Ty.vars;simp only [List.all_eq_true, decide_eq_true_eq, Ty.A8n, List.not_mem_nil, false_or]
theorem Ty.B1H {t : Ty} (h : t.right = true) (h6 : t.kind = 6) : t.kids = [] := by
 have := (Ty.Z6.1 h).1;rw [h6] at this;have e : arity 6 = 0 := rfl;exact List.eq_nil_of_length_eq_zero (by omega)
end Go.Su

/-
 NAMES THAT ARE FREE: rows that rise, what a term binds, which names are free in it.
-/
namespace Go.Su
def B35 (s : ByteArray) : List UInt8 := s.data.toList
def B5z (a b : ByteArray) : Bool := decide (B35 a < B35 b)
def rise : List ByteArray → ByteArray → List ByteArray
 | [], s => [s]
 | x :: l, s => if B5z x s = true then x :: rise l s else if x = s then x :: l else s :: x :: l
end Go.Su

/-
 A closed term put for a name that has no variables.
-/
namespace Go.Su
end Go.Su

/-
 A closed term put for a name: what it makes of free names, in which order two are put.
-/
namespace Go.Su
end Go.Su

/-
 EXPRESSIONS: what is right, what is free, what is put for a name.
-/
namespace Go.Su
def Y3 (k : Int) : Bool := decide (k = 1 ∨ k = 9 ∨ k = 11 ∨ k = 12)
def Aq (k : Int) : Bool := decide (k = 12)
def eN (k : Int) : Bool := decide (k = 2 ∨ k = 3)
def eS (k : Int) : Bool := decide (k = 4)
def Cr (k : Int) : Bool := decide (k = 16)
def eA (k : Int) : Bool := decide (k = 9 ∨ k = 11 ∨ k = 12 ∨ k = 15)
def eB (k : Int) : Bool := decide (k = 12)
def l7 (k : Int) : Bool := decide (k = 15)
def IV (k : Int) (np : Nat) : Bool := decide (1 ≤ k) && decide (k ≤ 16) && (!decide (k = 14) || decide (0 < np))
def K8 (k : Int) (np : Nat) : Int :=
 if k = 6 ∨ k = 8 ∨ k = 10 ∨ k = 11 ∨ k = 12 ∨ k = 16 then 2 else if k = 9 ∨ k = 15 then 1 else if k = 13 then 3 else if k = 14 then np + 1 else 0
def Ty.closed (t : Ty) : Bool := t.right && t.without 6
def dw (has must : Bool) (t : Ty) : Bool := if t.none = true then !must else has && t.closed
def Ex.A8r (t : Ex) : Bool := t.F7.all C9.right
def Ex.A5C (t : Ex) : Bool := dw (eB t.kind) false t.b && t.A8r
def Ex.A5B (t : Ex) : Bool := dw (eA t.kind) (l7 t.kind) t.a && t.A5C
def Ex.A5A (t : Ex) : Bool := (!Cr t.kind || (decide (1 ≤ t.op) && decide (t.op ≤ 7))) && (Cr t.kind || decide (t.op = 0)) && t.A5B
def Ex.A5z (t : Ex) : Bool := (eS t.kind || decide (t.s = N9)) && decide (t.s.size ≤ 200) && t.A5A
def Ex.A5y (t : Ex) : Bool := (eN t.kind || decide (t.n = 0)) && (!decide (t.kind = 3) || decide (t.n = 0) || decide (t.n = 1)) && t.A5z
def Ex.A5x (t : Ex) : Bool := jr (Aq t.kind) t.arg && t.A5y
def Ex.Np (t : Ex) : Bool := jr (Y3 t.kind) t.name && t.A5x
def Ex.one (t : Ex) : Bool := IV t.kind t.F7.length && decide ((t.kids.length : Int) = K8 t.kind t.F7.length) && (decide (t.kind = 14) || decide (t.F7.length = 0)) && t.Np
def Ex.right : Ex → Bool
 | .mk a b c d e f g h i j k ks => Ex.one (.mk a b c d e f g h i j k ks) && (ks.map Ex.right).all id
theorem Ex.right_eq (t : Ex) : t.right = (t.one && t.kids.all Ex.right) := by
 cases t;rw [Ex.right];simp [List.all_map]
theorem Ex.A3G {t : Ex} (h : t.right = true) : t.one = true := by rw [Ex.right_eq, Bool.and_eq_true] at h; exact h.1
theorem Ex.P5 {t k : Ex} (h : t.right = true) (hk : k ∈ t.kids) : k.right = true := by
 rw [Ex.right_eq, Bool.and_eq_true, List.all_eq_true] at h;exact h.2 k hk
theorem Ex.lX {t : Ex} (h : t.one = true) : (t.kids.length : Int) = K8 t.kind t.F7.length := by
 unfold Ex.one at h;simp only [Bool.and_eq_true, decide_eq_true_eq] at h;exact h.1.1.2
def Ex.subs : Ex → List Ex
 | .mk a b c d e f g h i j k ks => .mk a b c d e f g h i j k ks :: (ks.map Ex.subs).flatten
theorem Ex.MR (t : Ex) : t.subs = t :: t.kids.flatMap Ex.subs := by
 cases t;rw [Ex.subs];rfl
theorem Ex.A8A (t : Ex) : t.right = t.subs.all Ex.one := by
 induction t using Ex.ind with
 | h t ih =>
   rw [Ex.right_eq, Ex.MR];simp only [List.all_cons, List.all_flatMap]
   congr 1
   rw [Bool.eq_iff_iff];simp only [List.all_eq_true];constructor
   ·intro h k hk x hx
    have := h k hk;rw [ih k hk] at this;exact List.all_eq_true.1 this x hx
   ·intro h k hk
    rw [ih k hk];exact List.all_eq_true.2 (h k hk)
theorem Ex.B2l {p : Ex} : p.fit → ∀ q ∈ p.subs, q.fit := by
 induction p using Ex.ind with
 | h p ih =>
   intro h q hq;rw [Ex.MR] at hq;rcases List.mem_cons.1 hq with rfl | hq
   ·exact h
   ·obtain ⟨k, hk, hq⟩ := List.mem_flatMap.1 hq
    exact ih k hk (h.kid hk) q hq
theorem B2o (t : Ex) : t.fit → ∃ n, X4 16 15 n t.enc = some (t.subs.map Ex.enc) := by
 induction t using Ex.ind with
 | h t ih =>
   intro ht;have key : ∀ ks : List Ex, (∀ k ∈ ks, ∃ n, X4 16 15 n k.enc = some (k.subs.map Ex.enc)) → ∃ n, Em (X4 16 15 n) (ks.map Ex.enc) = some ((ks.flatMap Ex.subs).map Ex.enc) := by
    intro ks
    induction ks with
    | nil => intro _; exact ⟨0, rfl⟩
    | cons k ks ihk =>
      intro h;obtain ⟨n, hn⟩ := h k (List.mem_cons_self ..);obtain ⟨m, hm⟩ := ihk fun k' Dr => h k' (List.mem_cons_of_mem _ Dr)
      refine ⟨n + m, ?_⟩;simp only [List.map_cons, Em, Nc (Nat.le_add_right n m) hn, UF (fun d l h => Nc (Nat.le_add_left m n) h) hm, H6]
      simp
   obtain ⟨n, hn⟩ := key t.kids fun k hk => ih k hk (ht.kid hk)
   refine ⟨n + 1, ?_⟩;have hl := Nat.le_of_lt ht.one.kids;rw [Ex.I5, X4];simp only [List.length_cons, List.length_nil, List.getD_cons_succ, List.getD_cons_zero, List.length_map, hn, H6, Ex.MR t, List.map_cons];simp [hl, Ex.I5]
theorem Ex.Nv (t : Ex) : t.size ≤ t.J3 := by
 induction t using Ex.ind with
 | h t ih =>
   rw [Ex.size_eq, Ex.U2];have key : ∀ ks : List Ex, (∀ k ∈ ks, k.size ≤ k.J3) → (ks.map Ex.size).sum ≤ (ks.map Ex.J3).sum := by
    intro ks
    induction ks with
    | nil => simp
    | cons k ks ihk =>
      intro h;simp only [List.map_cons, List.sum_cons];have := h k (List.mem_cons_self ..);have := ihk fun k' Dr => h k' (List.mem_cons_of_mem _ Dr)
      omega
   have := key t.kids ih;omega
def Ex.value : Ex → Bool
 | .mk k _ _ _ _ _ _ _ _ _ _ ks => if k = 1 ∨ k = 2 ∨ k = 3 ∨ k = 4 ∨ k = 5 ∨ k = 7 ∨ k = 9 then true else if k = 6 ∨ k = 8 then ((ks.map Ex.value).take 2).all id else false
theorem Ex.A6r (t : Ex) : t.value = if t.kind = 1 ∨ t.kind = 2 ∨ t.kind = 3 ∨ t.kind = 4 ∨ t.kind = 5 ∨ t.kind = 7 ∨ t.kind = 9 then true else if t.kind = 6 ∨ t.kind = 8 then (t.kids.take 2).all Ex.value else false := by
 cases t;rw [Ex.value];simp only [Ex.KQ, Ex.CR, ← List.map_take, List.all_map];rfl
end Go.Su

/-
 EXPRESSIONS: how deep, how great, without places, their annotations.
-/
namespace Go.Su
def most {α : Type} (f : α → Nat) (l : List α) (n : Nat) : Nat := l.foldl (fun a k => max a (f k)) n
end Go.Su

/-
 EXPRESSIONS: other annotations in the places of its own.
-/
namespace Go.Su
def part {α : Type} (g : α → α) (l : List α) (j : Nat) : List α := (l.take j).map g ++ l.drop j
end Go.Su

/-
 EXPRESSIONS WITHOUT TYPES: what a step comes to.
-/
namespace Go.Su
structure R3 where
 kind : Int
 lo : Int
 hi : Int
def B6w : Ex := .mk 0 0 0 N9 N9 0 N9 0 (.mk 0 0 []) (.mk 0 0 []) [] []
def Ex.kid (t : Ex) (i : Nat) : Ex := t.kids.getD i B6w
end Go.Su

/-
 EXPRESSIONS WITHOUT TYPES: a step leaves closed what is closed.
-/
namespace Go.Su
end Go.Su

/-
 THE CHECKER: what a type B60 on; a closed term put for a name.
-/
namespace Go.Su
def Av (l : List Nm) (n : ByteArray) : Option Nm := l.reverse.find? fun x => decide (x.name = n)
section
variable {t : Tm} {ks : List Tm} {fs gs : List Chk} {L M : List Nm} {S Q : List Int}
end
end Go.Su

/-
 TERMS: types put for variables.
-/
namespace Go.Su
end Go.Su

/-
 TERMS: types put for variables leave a right term right.
-/
namespace Go.Su
end Go.Su

/-
 THE CHECKER OF TERMS: what has a type is turned by no types put for variables that it neither binds nor has in scope.
-/
namespace Go.Su
end Go.Su

/-
 EXPRESSIONS WITHOUT TYPES: a step leaves closed what is closed.
-/
namespace Go.Su
end Go.Su

/-
 EXPRESSIONS WITHOUT TYPES: a step leaves closed what is closed.
-/
namespace Go.Su
end Go.Su

/-
 EXPRESSIONS WITHOUT TYPES: how great what stands at one place may become.
-/
namespace Go.Su
end Go.Su

/-
 EXPRESSIONS WITHOUT TYPES: a run, and what it tells.
-/
namespace Go.Su
end Go.Su

/-
 EXPRESSIONS WITHOUT TYPES: a run is its steps, and then reading.
-/
namespace Go.Su
end Go.Su

/-
 EXPRESSIONS WITHOUT TYPES: annotations turn nothing of a run.
-/
namespace Go.Su
end Go.Su

/-
 TERMS: a term put for a name, its variables for the name's types.
-/
namespace Go.Su
end Go.Su

/-
 TERMS: what a substitution with variables leaves is within bounds.
-/
namespace Go.Su
end Go.Su

/-
 Judging an expression by a derivation: its types, its term, its casts. Mathematics alone.
-/
namespace Go.Su
inductive JT where
 | mk (ty : Ty) (kids : List JT)
def JT.ty : JT → Ty | .mk t _ => t
def JT.kids : JT → List JT | .mk _ ks => ks
@[simp] theorem JT.B63 (t : Ty) (ks : List JT) : (JT.mk t ks).ty = t := rfl
@[simp] theorem JT.CR (t : Ty) (ks : List JT) : (JT.mk t ks).kids = ks := rfl
def B6x : JT := .mk F8 []
def vR : C8 := .mk [] [] []
def JT.kid (T : JT) (i : Nat) : JT := T.kids.getD i B6x
def C8.kid (d : C8) (i : Nat) : C8 := d.kids.getD i vR
def C8.t0 (d : C8) : Ty := d.types.getD 0 F8
def C8.t1 (d : C8) : Ty := d.types.getD 1 F8
structure S9 where
 lo : Int
 hi : Int
 frm : Ty
 to : Ty
abbrev JR := Except Int JT
abbrev Jf := C8 → List Nm → List Int → JR
def Bl : Ty := .mk 5 0 []
def Y5 (t : Ty) : Ty := .mk 8 0 [t]
def U9 (a b : Ty) : Ty := .mk 9 0 [a, b]
def U1 (k : Int) : Ty := .mk k 0 []
def LW (st : Bool) (S : List Int) : List Ty → Int
 | [] => 0
 | t :: ts => if (st && !t.without 5) = true then 9 else if ae S t = true then LW st S ts else 6
def M8 (e : Ex) (l : List Nm) : Nat :=
 if e.kind = 1 then match Av l e.name with
  | some x => x.vars.length
  | none => 0
 else if e.kind = 7 ∨ e.kind = 8 ∨ e.kind = 13 then 1
 else if e.kind = 14 then 2
 else if e.kind = 9 then (if e.a.kind = 0 then 1 else 0)
 else if e.kind = 12 then (if e.a.kind = 0 then 1 else 0) + (if e.b.kind = 0 then 1 else 0)
 else 0
def Af (e : Ex) : Bool := decide (e.kind = 12) || (decide (e.kind = 11) && decide (e.a.kind = 0) && (e.kid 0).value)
def Gu (e : Ex) (d : C8) (l : List Nm) : Bool := decide (d.types.length = M8 e l) && decide (d.kids.length = e.kids.length) && (decide (d.vars = []) || Af e)
def Cu (st : Bool) (e : Ex) (d : C8) (l : List Nm) (S : List Int) : Int :=
 if e.kind = 1 ∧ Av l e.name = none then 6
 else if Gu e d l = false then 8
 else if takes S d.vars = false then 6
 else LW st (if e.kind = 12 then d.vars ++ S else S) d.types
def M5 (to : Ty) (r : JR) : JR := r.bind fun a => if a.ty.agrees to = true then .ok a else .error 4
def K4 (a t : Ty) : Ty := if a.kind = 0 then t else a
def U4 (e : Ex) (d : C8) : Ty := K4 e.a d.t0
def Q9 (e : Ex) (d : C8) : Ty := K4 e.b (if e.a.kind = 0 then d.t1 else d.t0)
def HZ (f : Nat → List Nm → List Int → JR) (s y : Ty) (l : List Nm) (S : List Int) : Nat → List C9 → Except Int (List JT)
 | _, [] => .ok []
 | i, p :: ps => match p.binds s with
   | none => .error 4
   | some b => (M5 y (f i (l ++ b.map DW) S)).bind fun a => (HZ f s y l S (i + 1) ps).bind fun yas => .ok (a :: yas)
def Nq (e : Ex) : Ty := U1 (if e.op = 7 then 3 else 1)
def Oo (e : Ex) : Ty := U1 (if 5 ≤ e.op then 2 else 1)
def Bi (e : Ex) (f : Nat → List Nm → List Int → JR) (d : C8) (l : List Nm) (S : List Int) : JR :=
 if e.kind = 1 then match Av l e.name with
  | some x => .ok (.mk (x.ty.put (x.vars.zip d.types)) [])
  | none => .error 6
 else if e.kind = 2 ∨ e.kind = 3 ∨ e.kind = 4 ∨ e.kind = 5 then .ok (.mk (U1 (e.kind - 1)) [])
 else if e.kind = 6 then (f 0 l S).bind fun a => (f 1 l S).bind fun b => .ok (.mk (.mk 7 0 [a.ty, b.ty]) [a, b])
 else if e.kind = 7 then .ok (.mk (Y5 d.t0) [])
 else if e.kind = 8 then (M5 d.t0 (f 0 l S)).bind fun a => (M5 (Y5 d.t0) (f 1 l S)).bind fun b => .ok (.mk (Y5 d.t0) [a, b])
 else if e.kind = 9 then (f 0 (l ++ [⟨e.name, K4 e.a d.t0, []⟩]) S).bind fun a => .ok (.mk (U9 (K4 e.a d.t0) a.ty) [a])
 else if e.kind = 10 then (f 0 l S).bind fun a => (f 1 l S).bind fun b =>
  if a.ty.kind = 5 then if b.ty.agrees Bl = true then .ok (.mk Bl [a, b]) else .error 4
  else if a.ty.kind = 9 then if b.ty.agrees (a.ty.kids.getD 0 F8) = true then .ok (.mk (a.ty.kids.getD 1 F8) [a, b]) else .error 4
  else .error 4
 else if e.kind = 11 then (if e.a.kind = 0 then f 0 l (d.vars ++ S) else M5 e.a (f 0 l S)).bind fun a =>
  (f 1 (l ++ [⟨e.name, K4 e.a a.ty, d.vars⟩]) S).bind fun b => .ok (.mk b.ty [a, b])
 else if e.kind = 12 then (M5 (Q9 e d) (f 0 (l ++ [⟨e.name, U9 (U4 e d) (Q9 e d), []⟩, ⟨e.arg, U4 e d, []⟩]) (d.vars ++ S))).bind fun a =>
  (f 1 (l ++ [⟨e.name, U9 (U4 e d) (Q9 e d), d.vars⟩]) S).bind fun b => .ok (.mk b.ty [a, b])
 else if e.kind = 13 then (M5 (U1 2) (f 0 l S)).bind fun a => (M5 d.t0 (f 1 l S)).bind fun b => (M5 d.t0 (f 2 l S)).bind fun c => .ok (.mk d.t0 [a, b, c])
 else if e.kind = 14 then (M5 d.t0 (f 0 l S)).bind fun a => (HZ f d.t0 d.t1 l S 1 e.F7).bind fun yas => .ok (.mk d.t1 (a :: yas))
 else if e.kind = 15 then (M5 e.a (f 0 l S)).bind fun a => .ok (.mk e.a [a])
 else (M5 (Nq e) (f 0 l S)).bind fun a => (M5 (Nq e) (f 1 l S)).bind fun b => .ok (.mk (Oo e) [a, b])
def lM (st : Bool) (e : Ex) (fs : List Jf) (d : C8) (l : List Nm) (S : List Int) : JR :=
 if Cu st e d l S = 0 then Bi e (fun i l S => (fs.getD i fun _ _ _ => .error 4) (d.kid i) l S) d l S
 else .error (Cu st e d l S)
def jt (st : Bool) (e : Ex) : Jf := lM st e (e.kids.attach.map fun k => jt st k.1)
termination_by SizeOf.sizeOf e
decreasing_by exact Ex.CX k.2
theorem A8h (st : Bool) (e : Ex) (d : C8) (l : List Nm) (S : List Int) : jt st e d l S = lM st e (e.kids.map (jt st)) d l S := by
 rw [jt]
 congr 1
 exact List.attach_map_val (f := jt st) ..
def jk (st : Bool) (e : Ex) (d : C8) (i : Nat) (l : List Nm) (S : List Int) : JR := jt st (e.kid i) (d.kid i) l S
theorem Ar {e : Ex} {i : Nat} (h : i < e.kids.length) : e.kid i = e.kids[i] := by
 simp only [Ex.kid, List.getD_eq_getElem?_getD, List.getElem?_eq_getElem h, Option.getD_some]
theorem U0 {st : Bool} {e : Ex} {i : Nat} (h : i < e.kids.length) (d : C8) (l : List Nm) (S : List Int) : ((e.kids.map (jt st)).getD i fun _ _ _ => .error 4) (d.kid i) l S = jk st e d i l S := by
 simp only [List.getD_eq_getElem?_getD, List.getElem?_map, List.getElem?_eq_getElem h, Option.map_some, Option.getD_some, jk, Ar h]
def bg (x : Tm) (a b : Ty) (lo hi : Int) (L : List S9) : Tm × List S9 :=
 (.mk 16 0 0 N9 N9 0 N9 0 L.length false [] a b [] [] [x], L ++ [⟨lo, hi, a, b⟩])
def Q3 (e : Ex) (d : C8) (T : JT) : List Ty :=
 if e.kind = 8 then [d.t0, T.ty]
 else if e.kind = 10 then if (T.kid 0).ty.kind = 5 then [U9 (T.kid 0).ty (T.kid 0).ty, (T.kid 0).ty] else [F8, (T.kid 0).ty.kids.getD 0 F8]
 else if e.kind = 11 then [e.a, F8]
 else if e.kind = 12 then [Q9 e d, F8]
 else if e.kind = 13 then [U1 2, T.ty, T.ty]
 else if e.kind = 14 then d.t0 :: e.F7.map fun _ => d.t1
 else if e.kind = 15 then [e.a]
 else if e.kind = 16 then [Nq e, Nq e]
 else []
abbrev Et := C8 → JT → List S9 → Tm × List S9
def dD (e : Ex) (d : C8) (T : JT) (i : Nat) (f : Et) (L : List S9) : Tm × List S9 :=
 let w := (Q3 e d T).getD i F8
 let r := f (d.kid i) (T.kid i) L
 if w.kind = 0 then r else bg r.1 (T.kid i).ty w (e.kid i).lo (e.kid i).hi r.2
def QC (e : Ex) (d : C8) (T : JT) : Nat → List Et → List S9 → List Tm × List S9
 | _, [], L => ([], L)
 | i, f :: fs, L =>
   let r := dD e d T i f L
   let q := QC e d T (i + 1) fs r.2
   (r.1 :: q.1, q.2)
def Cg (e : Ex) (d : C8) (T : JT) (ks : List Tm) : Tm :=
 if e.kind = 1 then .mk 1 0 0 e.name N9 0 N9 0 0 false [] F8 F8 d.types [] ks
 else if e.kind = 2 ∨ e.kind = 3 then .mk e.kind 0 0 N9 N9 e.n N9 0 0 false [] F8 F8 [] [] ks
 else if e.kind = 4 then .mk 4 0 0 N9 N9 0 e.s 0 0 false [] F8 F8 [] [] ks
 else if e.kind = 7 then .mk 7 0 0 N9 N9 0 N9 0 0 false [] d.t0 F8 [] [] ks
 else if e.kind = 9 then .mk 9 0 0 e.name N9 0 N9 0 0 false [] (T.ty.kids.getD 0 F8) F8 [] [] ks
 else if e.kind = 11 then .mk 11 0 0 e.name N9 0 N9 0 0 false d.vars F8 F8 [] [] ks
 else if e.kind = 12 then .mk 12 0 0 e.name e.arg 0 N9 0 0 false d.vars (U4 e d) (Q9 e d) [] [] ks
 else if e.kind = 14 then .mk 14 e.lo e.hi N9 N9 0 N9 0 0 false [] F8 F8 [] e.F7 ks
 else if e.kind = 15 then ks.getD 0 (.mk 0 0 0 N9 N9 0 N9 0 0 false [] F8 F8 [] [] [])
 else if e.kind = 16 then .mk 15 e.lo e.hi N9 N9 0 N9 e.op 0 false [] F8 F8 [] [] ks
 else .mk e.kind 0 0 N9 N9 0 N9 0 0 false [] F8 F8 [] [] ks
def R9 (e : Ex) : Et := fun d T L =>
 let q := QC e d T 0 (e.kids.attach.map fun k => R9 k.1) L
 (Cg e d T q.1, q.2)
termination_by SizeOf.sizeOf e
decreasing_by exact Ex.CX k.2
theorem VT (e : Ex) (d : C8) (T : JT) (L : List S9) : R9 e d T L = (Cg e d T (QC e d T 0 (e.kids.map R9) L).1, (QC e d T 0 (e.kids.map R9) L).2) := by
 rw [R9];rw [show (e.kids.attach.map fun k => R9 k.1) = e.kids.map R9 from List.attach_map_val (f := R9) ..]
theorem A9n (e : Ex) (d : C8) (T : JT) (i : Nat) (f : Et) (L : List S9) {n : Nat} (h : ∀ d T L, (f d T L).2.length ≤ L.length + n) : (dD e d T i f L).2.length ≤ L.length + n + 1 := by
 unfold dD;have := h (d.kid i) (T.kid i) L;simp only
 split
 ·omega
 ·simp only [bg, List.length_append, List.length_cons, List.length_nil]; omega
theorem A1w (e : Ex) (d : C8) (T : JT) : ∀ (ks : List Ex) (i : Nat) (L : List S9), (∀ k ∈ ks, ∀ d T L, (R9 k d T L).2.length + 1 ≤ L.length + 2 * k.size) →
 (QC e d T i (ks.map R9) L).2.length ≤ L.length + (ks.map fun k => 2 * k.size).sum
 | [], i, L, _ => by simp [QC]
 | k :: ks, i, L, h => by
   simp only [List.map_cons, QC, List.sum_cons];have hk := h k (List.mem_cons_self ..);have h1 := A9n e d T i (R9 k) L (n := 2 * k.size - 1) (fun d T L => by have := hk d T L; have := Ex.Nw k; omega)
   have h2 := A1w e d T ks (i + 1) (dD e d T i (R9 k) L).2 fun k' Dr => h k' (List.mem_cons_of_mem _ Dr)
   have := Ex.Nw k;omega
theorem dE (e : Ex) : ∀ d T L, (R9 e d T L).2.length + 1 ≤ L.length + 2 * e.size := by
 induction e using Ex.ind with
 | h e ih =>
   intro d T L;rw [VT];have := A1w e d T e.kids 0 L ih;have h2 : ∀ l : List Ex, (l.map fun k => 2 * k.size).sum = 2 * (l.map Ex.size).sum := by
    intro l
    induction l with
    | nil => rfl
    | cons a l ih => simp only [List.map_cons, List.sum_cons, ih]; omega
   rw [h2] at this;have h3 := Ex.size_eq e;simp only;omega
end Go.Su

/-
 Judging an expression: what is judged is right; what goes wrong has a number.
-/
namespace Go.Su
theorem Ty.GM {t : Ty} (h : t.none = true) : t.kind = 0 := by
 unfold Ty.none at h;simp only [Bool.and_eq_true, decide_eq_true_eq] at h;exact h.1.1
theorem Ty.A8z {t : Ty} (h : t.right = true) : 1 ≤ t.kind ∧ t.kind ≤ 9 := by
 have h1 := (Ty.Z6.1 h).1;unfold arity at h1
 split at h1 <;> rename_i h2
 ·omega
 ·split at h1 <;> rename_i h3
  ·omega
  ·split at h1 <;> omega
structure Ex.Own (t : Ex) : Prop where
 k1 : 1 ≤ t.kind
 k16 : t.kind ≤ 16
 kids : (t.kids.length : Int) = K8 t.kind t.F7.length
 a : t.a.none = true ∨ t.a.right = true
 b : t.b.none = true ∨ t.b.right = true
 Xq : t.kind = 15 → t.a.right = true
 op : t.kind = 16 → 1 ≤ t.op ∧ t.op ≤ 7
 F7 : ∀ p ∈ t.F7, p.right = true
theorem A0z {h m : Bool} {t : Ty} (H : dw h m t = true) : (t.none = true ∨ t.right = true) ∧ (m = true → t.right = true) := by
 unfold dw at H
 split at H
 ·rename_i hn
  exact ⟨.inl hn, fun hm => by rw [hm] at H; cases H⟩
 ·simp only [Bool.and_eq_true, Ty.closed] at H
  exact ⟨.inr H.2.1, fun _ => H.2.1⟩
theorem Ex.V7 {t : Ex} (h : t.right = true) : t.Own := by
 have h1 := Ex.A3G h;unfold Ex.one Ex.Np Ex.A5x Ex.A5y Ex.A5z Ex.A5A Ex.A5B Ex.A5C Ex.A8r at h1;simp only [Bool.and_eq_true, decide_eq_true_eq] at h1;obtain ⟨⟨⟨g1, g2⟩, g3⟩, g4, g5, g6, g7, ⟨g8a, g8b⟩, g9, g10, g11⟩ := h1;unfold IV at g1;simp only [Bool.and_eq_true, decide_eq_true_eq] at g1;refine ⟨g1.1.1, g1.1.2, g2, (A0z g9).1, (A0z g10).1, fun hk => (A0z g9).2 (by simp [l7, hk]), fun hk => ?_, List.all_eq_true.1 g11⟩
 simp [Cr, hk] at g8a;exact g8a
theorem Ex.Own.CX {t : Ex} (o : t.Own) {i : Nat} (h : (i : Int) < K8 t.kind t.F7.length) : i < t.kids.length := by have := o.kids; omega
def C8.Aa : C8 → Bool
 | .mk ts vs ks => ts.all Ty.right && vs.all (fun v => decide (0 ≤ v) && decide (v ≤ 1048576)) && (ks.map C8.Aa).all id
theorem C8.eO (d : C8) : d.Aa = (d.types.all Ty.right && d.vars.all (fun v => decide (0 ≤ v) && decide (v ≤ 1048576)) && d.kids.all C8.Aa) := by
 cases d;rw [C8.Aa];simp [List.all_map]
theorem C8.Eo {d : C8} : d.Aa = true ↔ (∀ t ∈ d.types, t.right = true) ∧ (∀ v ∈ d.vars, 0 ≤ v ∧ v ≤ 1048576) ∧ ∀ k ∈ d.kids, k.Aa = true := by
 rw [C8.eO];simp [Bool.and_eq_true, List.all_eq_true, and_assoc]
inductive C8.DC : C8 → Prop where
 | mk (d : C8) (h : d.vars.length ≤ lim ∧ d.types.length ≤ lim ∧ d.kids.length ≤ lim ∧ ∀ t ∈ d.types, t.thin = true ∧ t.BS ≤ lim) (k : ∀ x ∈ d.kids, x.DC) : d.DC
theorem C8.DC.all {d : C8} (h : d.DC) : d.vars.length ≤ lim ∧ d.types.length ≤ lim ∧ d.kids.length ≤ lim ∧ ∀ t ∈ d.types, t.thin = true ∧ t.BS ≤ lim := by cases h; assumption
theorem C8.DC.vars {d : C8} (h : d.DC) : d.vars.length ≤ lim := h.all.1
theorem C8.DC.kid {d k : C8} (h : d.DC) (hk : k ∈ d.kids) : k.DC := by cases h with | mk _ _ g => exact g k hk
theorem A9P : vR.DC := .mk _ ⟨by simp [vR], by simp [vR], by simp [vR], by simp [vR]⟩ (by simp [vR])
theorem A8p : vR.Aa = true := by rw [C8.eO]; rfl
theorem C8.EE {d : C8} (h : d.Aa = true) (i : Nat) : (d.kid i).Aa = true := by
 unfold C8.kid;rw [List.getD_eq_getElem?_getD];cases hk : d.kids[i]? with
 | none => exact A8p
 | some k => exact (C8.Eo.1 h).2.2 k (List.mem_of_getElem? hk)
theorem C8.FY {d : C8} (h : d.DC) (i : Nat) : (d.kid i).DC := by
 unfold C8.kid;rw [List.getD_eq_getElem?_getD];cases hk : d.kids[i]? with
 | none => exact A9P
 | some k => exact h.kid (List.mem_of_getElem? hk)
theorem CV {α β : Type} {x : Except Int α} {f : α → Except Int β} {b : β} (h : x.bind f = .ok b) : ∃ a, x = .ok a ∧ f a = .ok b := by
 cases x with
 | error e => cases h
 | ok a => exact ⟨a, rfl, h⟩
theorem ww {to : Ty} {r : JR} {a : JT} (h : M5 to r = .ok a) : r = .ok a ∧ a.ty.agrees to = true := by
 obtain ⟨b, h1, h2⟩ := CV h
 split at h2
 ·rename_i hg; cases h2; exact ⟨h1, hg⟩
 ·cases h2
theorem A9D {st : Bool} {e : Ex} {fs : List Jf} {d : C8} {l : List Nm} {S : List Int} {T : JT} (h : lM st e fs d l S = .ok T) : Cu st e d l S = 0 := by
 unfold lM at h
 split at h
 ·assumption
 ·cases h
theorem CQ {st : Bool} {e : Ex} {d : C8} {l : List Nm} {S : List Int} (h : Cu st e d l S = 0) : d.types.length = M8 e l ∧ d.kids.length = e.kids.length ∧ (d.vars = [] ∨ Af e = true) ∧ takes S d.vars = true := by
 unfold Cu at h
 split at h
 ·cases h
 ·split at h
  ·cases h
  ·rename_i h1
   split at h
   ·cases h
   ·rename_i h2
    simp only [Bool.not_eq_false] at h1 h2;unfold Gu at h1;simp only [Bool.and_eq_true, decide_eq_true_eq, Bool.or_eq_true] at h1;exact ⟨h1.1.1, h1.1.2, h1.2, h2⟩
theorem WO {t : Ty} (h : t.right = true) : (Y5 t).right = true := by
 rw [Ty.Z6];exact ⟨rfl, by simp [Y5], by simp [Y5], .inr rfl, fun k hk => by simp [Y5] at hk; subst hk; exact h⟩
theorem Ym {a b : Ty} (h : a.right = true) (h2 : b.right = true) : (U9 a b).right = true := by
 rw [Ty.Z6];exact ⟨rfl, by simp [U9], by simp [U9], .inr rfl, fun k hk => by simp [U9] at hk; rcases hk with rfl | rfl <;> assumption⟩
theorem A6M {a b : Ty} (h : a.right = true) (h2 : b.right = true) : (Ty.mk 7 0 [a, b]).right = true := by
 rw [Ty.Z6];exact ⟨rfl, by simp, by simp, .inr rfl, fun k hk => by simp at hk; rcases hk with rfl | rfl <;> assumption⟩
theorem A3F : Bl.right = true := F_ (by omega)
theorem C8.DF {d : C8} (h : d.Aa = true) (hl : 0 < d.types.length) : d.t0.right = true := by
 unfold C8.t0;rw [List.getD_eq_getElem?_getD, List.getElem?_eq_getElem hl];exact (C8.Eo.1 h).1 _ (List.getElem_mem hl)
theorem C8.mI {d : C8} (h : d.Aa = true) (hl : 1 < d.types.length) : d.t1.right = true := by
 unfold C8.t1;rw [List.getD_eq_getElem?_getD, List.getElem?_eq_getElem hl];exact (C8.Eo.1 h).1 _ (List.getElem_mem hl)
theorem GG {a t : Ty} (ha : a.none = true ∨ a.right = true) (ht : a.kind = 0 → t.right = true) : (K4 a t).right = true := by
 unfold K4
 split
 ·rename_i h; exact ht h
 ·rename_i h
  rcases ha with ha | ha
  ·exact absurd (Ty.GM ha) h
  ·exact ha
theorem lZ {e : Ex} (o : e.Own) (hk : e.kind = 12) {d : C8} (hd : d.Aa = true) {l : List Nm} (hn : d.types.length = M8 e l) : (U4 e d).right = true := by
 unfold U4;refine GG o.a fun h => C8.DF hd ?_
 rw [hn];simp only [M8, hk, h];simp;omega
theorem lh {e : Ex} (o : e.Own) (hk : e.kind = 12) {d : C8} (hd : d.Aa = true) {l : List Nm} (hn : d.types.length = M8 e l) : (Q9 e d).right = true := by
 unfold Q9;refine GG o.b fun h => ?_
 split
 ·rename_i ha
  exact C8.mI hd (by rw [hn]; simp [M8, hk, h, ha])
 ·rename_i ha
  exact C8.DF hd (by rw [hn]; simp [M8, hk, h, ha])
theorem vN {l : List Nm} {n : ByteArray} {x : Nm} (h : Av l n = some x) : x ∈ l := List.mem_reverse.1 (List.mem_of_find?_eq_some h)
theorem A5m {f : Nat → List Nm → List Int → JR} {s y : Ty} {l : List Nm} {S : List Int} : ∀ {ps : List C9} {i : Nat} {yas : List JT}, HZ f s y l S i ps = .ok yas → yas.length = ps.length ∧ ∀ (j : Nat) p, ps[j]? = some p → ∃ b a, p.binds s = some b ∧ f (i + j) (l ++ b.map DW) S = .ok a ∧ yas[j]? = some a ∧ a.ty.agrees y = true
 | [], i, yas, h => by simp only [HZ] at h; cases h; exact ⟨rfl, fun j p hp => by simp at hp⟩
 | p :: ps, i, yas, h => by
   simp only [HZ] at h
   split at h
   ·cases h
   ·rename_i b hb
    obtain ⟨a, h1, h⟩ := CV h;obtain ⟨yas', h2, h⟩ := CV h;cases h;obtain ⟨h3, h4⟩ := ww h1;obtain ⟨h5, h6⟩ := A5m h2;refine ⟨by simp [h5], fun j q hq => ?_⟩
    cases j with
    | zero => simp at hq; subst hq; exact ⟨b, a, hb, h3, by simp, h4⟩
    | succ j =>
      obtain ⟨b', a', g1, g2, g3, g4⟩ := h6 j q (by simpa using hq)
      exact ⟨b', a', g1, by rw [← g2]; congr 1; omega, by simpa using g3, g4⟩
theorem lQ {e : Ex} (hk : e.kind = 1) (f : Nat → List Nm → List Int → JR) (d : C8) (l : List Nm) (S : List Int) : Bi e f d l S = (match Av l e.name with
 | some x => .ok (.mk (x.ty.put (x.vars.zip d.types)) [])
 | none => .error 6) := by
 unfold Bi;rw [if_pos hk]
 all_goals (cases Av l e.name <;> rfl)
theorem Ol {e : Ex} (hk : e.kind = 2 ∨ e.kind = 3 ∨ e.kind = 4 ∨ e.kind = 5) (f : Nat → List Nm → List Int → JR) (d : C8) (l : List Nm) (S : List Int) : Bi e f d l S = (.ok (.mk (U1 (e.kind - 1)) [])) := by
 unfold Bi;rw [if_neg (by omega), if_pos hk]
theorem lS {e : Ex} (hk : e.kind = 6) (f : Nat → List Nm → List Int → JR) (d : C8) (l : List Nm) (S : List Int) : Bi e f d l S = ((f 0 l S).bind fun a => (f 1 l S).bind fun b => .ok (.mk (.mk 7 0 [a.ty, b.ty]) [a, b])) := by
 unfold Bi;rw [if_neg (by omega), if_neg (by omega), if_pos hk]
theorem vJ {e : Ex} (hk : e.kind = 7) (f : Nat → List Nm → List Int → JR) (d : C8) (l : List Nm) (S : List Int) : Bi e f d l S = (.ok (.mk (Y5 d.t0) [])) := by
 unfold Bi;rw [if_neg (by omega), if_neg (by omega), if_neg (by omega), if_pos hk]
theorem lN {e : Ex} (hk : e.kind = 8) (f : Nat → List Nm → List Int → JR) (d : C8) (l : List Nm) (S : List Int) : Bi e f d l S = ((M5 d.t0 (f 0 l S)).bind fun a => (M5 (Y5 d.t0) (f 1 l S)).bind fun b => .ok (.mk (Y5 d.t0) [a, b])) := by
 unfold Bi;rw [if_neg (by omega), if_neg (by omega), if_neg (by omega), if_neg (by omega), if_pos hk]
theorem vH {e : Ex} (hk : e.kind = 9) (f : Nat → List Nm → List Int → JR) (d : C8) (l : List Nm) (S : List Int) : Bi e f d l S = ((f 0 (l ++ [⟨e.name, K4 e.a d.t0, []⟩]) S).bind fun a => .ok (.mk (U9 (K4 e.a d.t0) a.ty) [a])) := by
 unfold Bi;rw [if_neg (by omega), if_neg (by omega), if_neg (by omega), if_neg (by omega), if_neg (by omega), if_pos hk]
theorem vF {e : Ex} (hk : e.kind = 10) (f : Nat → List Nm → List Int → JR) (d : C8) (l : List Nm) (S : List Int) : Bi e f d l S = ((f 0 l S).bind fun a => (f 1 l S).bind fun b =>
 if a.ty.kind = 5 then if b.ty.agrees Bl = true then .ok (.mk Bl [a, b]) else .error 4
 else if a.ty.kind = 9 then if b.ty.agrees (a.ty.kids.getD 0 F8) = true then .ok (.mk (a.ty.kids.getD 1 F8) [a, b]) else .error 4
 else .error 4) := by
 unfold Bi;rw [if_neg (by omega), if_neg (by omega), if_neg (by omega), if_neg (by omega), if_neg (by omega), if_neg (by omega), if_pos hk]
theorem vI {e : Ex} (hk : e.kind = 11) (f : Nat → List Nm → List Int → JR) (d : C8) (l : List Nm) (S : List Int) : Bi e f d l S = ((if e.a.kind = 0 then f 0 l (d.vars ++ S) else M5 e.a (f 0 l S)).bind fun a =>
 (f 1 (l ++ [⟨e.name, K4 e.a a.ty, d.vars⟩]) S).bind fun b => .ok (.mk b.ty [a, b])) := by
 unfold Bi;rw [if_neg (by omega), if_neg (by omega), if_neg (by omega), if_neg (by omega), if_neg (by omega), if_neg (by omega), if_neg (by omega), if_pos hk]
theorem vK {e : Ex} (hk : e.kind = 12) (f : Nat → List Nm → List Int → JR) (d : C8) (l : List Nm) (S : List Int) : Bi e f d l S = ((M5 (Q9 e d) (f 0 (l ++ [⟨e.name, U9 (U4 e d) (Q9 e d), []⟩, ⟨e.arg, U4 e d, []⟩]) (d.vars ++ S))).bind fun a =>
 (f 1 (l ++ [⟨e.name, U9 (U4 e d) (Q9 e d), d.vars⟩]) S).bind fun b => .ok (.mk b.ty [a, b])) := by
 unfold Bi;rw [if_neg (by omega), if_neg (by omega), if_neg (by omega), if_neg (by omega), if_neg (by omega), if_neg (by omega), if_neg (by omega), if_neg (by omega), if_pos hk]
theorem A0t {e : Ex} (hk : e.kind = 13) (f : Nat → List Nm → List Int → JR) (d : C8) (l : List Nm) (S : List Int) : Bi e f d l S = ((M5 (U1 2) (f 0 l S)).bind fun a => (M5 d.t0 (f 1 l S)).bind fun b => (M5 d.t0 (f 2 l S)).bind fun c => .ok (.mk d.t0 [a, b, c])) := by
 unfold Bi;rw [if_neg (by omega), if_neg (by omega), if_neg (by omega), if_neg (by omega), if_neg (by omega), if_neg (by omega), if_neg (by omega), if_neg (by omega), if_neg (by omega), if_pos hk]
theorem gM {e : Ex} (hk : e.kind = 14) (f : Nat → List Nm → List Int → JR) (d : C8) (l : List Nm) (S : List Int) : Bi e f d l S = ((M5 d.t0 (f 0 l S)).bind fun a => (HZ f d.t0 d.t1 l S 1 e.F7).bind fun yas => .ok (.mk d.t1 (a :: yas))) := by
 unfold Bi;rw [if_neg (by omega), if_neg (by omega), if_neg (by omega), if_neg (by omega), if_neg (by omega), if_neg (by omega), if_neg (by omega), if_neg (by omega), if_neg (by omega), if_neg (by omega), if_pos hk]
theorem vG {e : Ex} (hk : e.kind = 15) (f : Nat → List Nm → List Int → JR) (d : C8) (l : List Nm) (S : List Int) : Bi e f d l S = ((M5 e.a (f 0 l S)).bind fun a => .ok (.mk e.a [a])) := by
 unfold Bi;rw [if_neg (by omega), if_neg (by omega), if_neg (by omega), if_neg (by omega), if_neg (by omega), if_neg (by omega), if_neg (by omega), if_neg (by omega), if_neg (by omega), if_neg (by omega), if_neg (by omega), if_pos hk]
theorem A0u {e : Ex} (hk : e.kind = 16) (f : Nat → List Nm → List Int → JR) (d : C8) (l : List Nm) (S : List Int) : Bi e f d l S = ((M5 (Nq e) (f 0 l S)).bind fun a => (M5 (Nq e) (f 1 l S)).bind fun b => .ok (.mk (Oo e) [a, b])) := by
 unfold Bi;rw [if_neg (by omega), if_neg (by omega), if_neg (by omega), if_neg (by omega), if_neg (by omega), if_neg (by omega), if_neg (by omega), if_neg (by omega), if_neg (by omega), if_neg (by omega), if_neg (by omega), if_neg (by omega)]
theorem Iw (st : Bool) (e : Ex) : e.right = true → ∀ (d : C8) (l : List Nm) (S : List Int) (T : JT), d.Aa = true → d.DC → Au l → jt st e d l S = .ok T → T.ty.right = true := by
 induction e using Ex.ind with
 | h e ih =>
   intro he d l S T hd hv hl h;have o := Ex.V7 he;have Mx := (C8.Eo.1 hd).2.1;rw [A8h] at h;have KM := A9D h;obtain ⟨hn, Dt, B7f, htk⟩ := CQ KM;unfold lM at h;rw [if_pos KM] at h;have kid : ∀ (i : Nat) l S T, (i : Int) < K8 e.kind e.F7.length → Au l → ((e.kids.map (jt st)).getD i fun _ _ _ => .error 4) (d.kid i) l S = .ok T → T.ty.right = true := by
    intro i l S T hi hl h;have I4 := o.CX hi;rw [U0 I4] at h;exact ih _ (by rw [Ar I4]; exact List.getElem_mem I4) (Ex.P5 he (by rw [Ar I4]; exact List.getElem_mem I4)) _ _ _ _ (C8.EE hd i) (C8.FY hv i) hl h
   have one : ∀ {s : ByteArray} {t : Ty} {vs : List Int}, t.right = true → (∀ v ∈ vs, 0 ≤ v ∧ v ≤ 1048576) → vs.length ≤ lim → Au (l ++ [⟨s, t, vs⟩]) := fun h1 h2 h3 => hl.app (.one ⟨h1, h3, h2⟩)
   have k1 := o.k1;have k16 := o.k16;have B2e : e.kind = 1 ∨ (e.kind = 2 ∨ e.kind = 3 ∨ e.kind = 4 ∨ e.kind = 5) ∨ e.kind = 6 ∨ e.kind = 7 ∨ e.kind = 8 ∨ e.kind = 9 ∨ e.kind = 10 ∨ e.kind = 11 ∨ e.kind = 12 ∨ e.kind = 13 ∨ e.kind = 14 ∨ e.kind = 15 ∨ e.kind = 16 := by omega
   rcases B2e with hk | hk | hk | hk | hk | hk | hk | hk | hk | hk | hk | hk | hk
   ·rw [lQ hk] at h
    cases hx : Av l e.name with
    | none => rw [hx] at h; cases h
    | some x =>
      rw [hx] at h;cases h;refine Ty.A9Y (fun b hb => ?_) _ (hl x (vN hx)).1
      exact (C8.Eo.1 hd).1 _ (List.of_mem_zip hb).2
   ·rw [Ol hk] at h
    cases h; exact F_ (by omega)
   ·rw [lS hk] at h
    obtain ⟨a, h1, h⟩ := CV h;obtain ⟨b, h2, h⟩ := CV h;cases h;exact A6M (kid 0 _ _ _ (by simp [K8, hk]) hl h1) (kid 1 _ _ _ (by simp [K8, hk]) hl h2)
   ·rw [vJ hk] at h
    cases h;exact WO (C8.DF hd (by rw [hn]; simp [M8, hk]))
   ·rw [lN hk] at h
    obtain ⟨a, h1, h⟩ := CV h;obtain ⟨b, h2, h⟩ := CV h;cases h;exact WO (C8.DF hd (by rw [hn]; simp [M8, hk]))
   ·rw [vH hk] at h
    obtain ⟨a, h1, h⟩ := CV h;cases h;have hg : (K4 e.a d.t0).right = true := GG o.a fun h => C8.DF hd (by rw [hn]; simp [M8, hk, h])
    exact Ym hg (kid 0 _ _ _ (by simp [K8, hk]) (one hg (by simp) (by simp)) h1)
   ·rw [vF hk] at h
    obtain ⟨a, h1, h⟩ := CV h;obtain ⟨b, h2, h⟩ := CV h;have ra := kid 0 _ _ _ (by simp [K8, hk]) hl h1
    split at h
    ·split at h
     ·cases h; exact A3F
     ·cases h
    ·split at h
     ·rename_i h9
      split at h
      ·cases h
       obtain ⟨q1, -, -, -, q5⟩ := Ty.Z6.1 ra;rw [h9] at q1;have Z0 : a.ty.kids.length = 2 := by simp [arity] at q1; omega
       show (a.ty.kids.getD 1 F8).right = true
       rw [List.getD_eq_getElem?_getD, List.getElem?_eq_getElem (by omega)]
       exact q5 _ (List.getElem_mem _)
      ·cases h
     ·cases h
   ·rw [vI hk] at h
    obtain ⟨a, h1, h⟩ := CV h;obtain ⟨b, h2, h⟩ := CV h;cases h;have ra : (K4 e.a a.ty).right = true := by
     refine GG o.a fun h0 => ?_
     rw [if_pos h0] at h1;exact kid 0 _ _ _ (by simp [K8, hk]) hl h1
    exact kid 1 _ _ b (by simp [K8, hk]) (one ra Mx hv.vars) h2
   ·rw [vK hk] at h
    obtain ⟨a, h1, h⟩ := CV h;obtain ⟨b, h2, h⟩ := CV h;cases h;exact kid 1 _ _ b (by simp [K8, hk]) (one (Ym (lZ o hk hd hn) (lh o hk hd hn)) Mx hv.vars) h2
   ·rw [A0t hk] at h
    obtain ⟨a, h1, h⟩ := CV h;obtain ⟨b, h2, h⟩ := CV h;obtain ⟨c, h3, h⟩ := CV h;cases h;exact C8.DF hd (by rw [hn]; simp [M8, hk])
   ·rw [gM hk] at h
    obtain ⟨a, h1, h⟩ := CV h;obtain ⟨yas, h2, h⟩ := CV h;cases h;exact C8.mI hd (by rw [hn]; simp [M8, hk])
   ·rw [vG hk] at h
    obtain ⟨a, h1, h⟩ := CV h;cases h;exact o.Xq hk
   ·rw [A0u hk] at h
    obtain ⟨a, h1, h⟩ := CV h;obtain ⟨b, h2, h⟩ := CV h;cases h
    show (Oo e).right = true
    unfold Oo U1
    split <;> exact F_ (by omega)
theorem B2x {st : Bool} {e : Ex} {d : C8} {l : List Nm} {S : List Int} (h : Cu st e d l S = 0) : jt st e d l S = Bi e (fun i l S => ((e.kids.map (jt st)).getD i fun _ _ _ => .error 4) (d.kid i) l S) d l S := by
 rw [A8h];unfold lM;rw [if_pos h]
theorem A5n {st : Bool} {e : Ex} {d : C8} {l : List Nm} {S : List Int} (h : Cu st e d l S ≠ 0) : jt st e d l S = .error (Cu st e d l S) := by
 rw [A8h];unfold lM;rw [if_neg h]
end Go.Su

/-
 RUNS ON CLOSED DATA, by rewriting: what the data's operations make of data that are written out.
-/
namespace Go.Su
theorem B32 {α : Type} {c c' : Prop} [d : Decidable c] (h : c = c') (x y : α) : (if c then x else y) = @ite α c' (h ▸ d) x y := by subst h; rfl
theorem B1l (j : Nat) (cs : List DV) : A7 j (.agg cs) = cs.getD j .undef := rfl
theorem A8g (n : Nat) (cs : List DV) : D5 n (.agg cs) = (cs.length == n) := rfl
theorem B2d (a : Array UInt8) : (ByteArray.mk a).size = a.size := rfl
theorem B1K (a b : Array UInt8) : ((ByteArray.mk a) = ByteArray.mk b) = (a.toList = b.toList) := by
 apply propext; constructor
 ·intro h; cases h; rfl
 ·intro h; rw [Array.ext' h]
theorem A9E (a b : Array UInt8) : Bj (.str ⟨a⟩) (.str ⟨b⟩) = decide (a.toList = b.toList) := by
 simp only [Bj]; rw [bZ]; congr 1; exact B1K a b
theorem A9F (k k' : IntKind) (a b : Int) : Bj (.int k a) (.int k' b) = decide (a = b) := by simp only [Bj]; rfl
theorem B3q (sz : Nat) (ds es : List DV) : R6 sz (.list sz ds) (.list sz es) = if ds.length + es.length ≤ 4294967296 then some (.list sz (ds ++ es)) else none := by
 simp [R6, lim]
theorem B3w (i : Nat) (cs : List DV) : N8 i (.H7 cs) = cs[i]? := rfl
theorem B4V (m : Nat) : bnd m none = some m := rfl
theorem B4W (m : Nat) (k : IntKind) (n : Int) : bnd m (some (.int k n)) = if 0 ≤ n then some n.toNat else none := rfl
theorem B0B (sz : Nat) (ds : List DV) (lo hi : Option DV) : Dh sz (.list sz ds) lo hi = ob (bnd ds.length hi) fun h => ob (bnd 0 lo) fun l => if l ≤ h ∧ h ≤ ds.length then some (.list sz ((ds.take h).drop l)) else none := by
 simp [Dh]
theorem A9j (sz : Nat) (d : DV) (lo : Option DV) (k k' : IntKind) (h m : Int) : Yt sz d lo (.int k h) (.int k' m) = if h = m then Dh sz d lo (some (.int k h)) else none := rfl
theorem B3r (ks : List LK) (xs ys : List DV) : rH ks (.agg xs) (.agg ys) = Cf ks xs ys := rfl
theorem B3v : Cf [] [] [] = some true := rfl
theorem B3u (k : LK) (ks : List LK) (x y : DV) (xs ys : List DV) : Cf (k :: ks) (x :: xs) (y :: ys) = ob (rJ k x y) fun b => bif b then Cf ks xs ys else some false := by
 simp only [Cf]
 congr 1; funext b; cases b <;> rfl
theorem B3t (k : IntKind) (a b : Int) : rJ .int (.int k a) (.int k b) = some (decide (a = b)) := by simp only [rJ, if_true]; rfl
theorem B3s (a b : Bool) : rJ .bool (.bool a) (.bool b) = some (a == b) := rfl
theorem B2h (k : IntKind) (n : Int) : Q5 .neg (.int k n) = some (.int k (k.wrap (0 - n))) := rfl
theorem B38 (k : DV) : Z4 [] k = none := rfl
theorem B37 (e : DV × DV) (es : List (DV × DV)) (k : DV) : Z4 (e :: es) k = bif Bj k e.1 then some e.2 else Z4 es k := by
 simp only [Z4, List.find?_cons];cases Bj k e.1 <;> rfl
theorem B4a (k v : DV) : Cc [] k v = [(k, v)] := rfl
theorem B39 (e : DV × DV) (es : List (DV × DV)) (k v : DV) : Cc (e :: es) k v = bif Bj k e.1 then (e.1, v) :: es else e :: Cc es k v := by
 simp only [Cc];cases Bj k e.1 <;> rfl
theorem A9S (sg : List D7) (c : DV × Meta) : oneCell sg [c] = j3 sg c := rfl
theorem B4J (sg : List D7) (d : DV) : j3 sg (d, .val) = some d := rfl
theorem B4H (sg : List D7) (d : DV) : j3 sg (d, .full) = some d := rfl
theorem B4I (sg : List D7) (d : DV) : j3 sg (d, .own) = some d := rfl
theorem B4G (sg : List D7) (d : DV) (i sz off len : Nat) : j3 sg (d, .arr i sz off len) = ob (UY sg i) fun a => og (a.1 == sz) (if off + len ≤ a.2.length then some (.list sz ((a.2.drop off).take len)) else none) := rfl
theorem A8y (d : DV) : A5I (some d) = some d := rfl
theorem B5K (sz : Nat) (ds : List DV) (k : IntKind) : F3 sz (.list sz ds) (.int k 0) = ds[0]? := by simp [F3]
theorem B5L (sz : Nat) (ds : List DV) (k : IntKind) : F3 sz (.list sz ds) (.int k 1) = ds[1]? := by simp [F3]
theorem B5M (sz : Nat) (ds : List DV) (k : IntKind) : F3 sz (.list sz ds) (.int k 2) = ds[2]? := by simp [F3]
theorem B5N (sz : Nat) (ds : List DV) (k : IntKind) : F3 sz (.list sz ds) (.int k 3) = ds[3]? := by simp [F3]
theorem B5O (sz : Nat) (ds : List DV) (k : IntKind) : F3 sz (.list sz ds) (.int k 4) = ds[4]? := by simp [F3]
theorem B5P (sz : Nat) (ds : List DV) (k : IntKind) : F3 sz (.list sz ds) (.int k 5) = ds[5]? := by simp [F3]
theorem B5Q (sz : Nat) (ds : List DV) (k : IntKind) : F3 sz (.list sz ds) (.int k 6) = ds[6]? := by simp [F3]
theorem B5R (sz : Nat) (ds : List DV) (k : IntKind) : F3 sz (.list sz ds) (.int k 7) = ds[7]? := by simp [F3]
theorem B5S (sz : Nat) (ds : List DV) (k : IntKind) : F3 sz (.list sz ds) (.int k 8) = ds[8]? := by simp [F3]
theorem B5T (sz : Nat) (ds : List DV) (k : IntKind) : F3 sz (.list sz ds) (.int k 9) = ds[9]? := by simp [F3]
theorem B4X (sz : Nat) (ds : List DV) (k : IntKind) : F3 sz (.list sz ds) (.int k 10) = ds[10]? := by simp [F3]
theorem B4Y (sz : Nat) (ds : List DV) (k : IntKind) : F3 sz (.list sz ds) (.int k 11) = ds[11]? := by simp [F3]
theorem B4Z (sz : Nat) (ds : List DV) (k : IntKind) : F3 sz (.list sz ds) (.int k 12) = ds[12]? := by simp [F3]
theorem B40 (sz : Nat) (ds : List DV) (k : IntKind) : F3 sz (.list sz ds) (.int k 13) = ds[13]? := by simp [F3]
theorem B41 (sz : Nat) (ds : List DV) (k : IntKind) : F3 sz (.list sz ds) (.int k 14) = ds[14]? := by simp [F3]
theorem B42 (sz : Nat) (ds : List DV) (k : IntKind) : F3 sz (.list sz ds) (.int k 15) = ds[15]? := by simp [F3]
theorem B5U (a : Array UInt8) (k : IntKind) : X6 (.str ⟨a⟩) (.int k 0) = (a.toList[0]?).map fun b => .int .u8 b.toNat := by simp [X6]
theorem B5V (a : Array UInt8) (k : IntKind) : X6 (.str ⟨a⟩) (.int k 1) = (a.toList[1]?).map fun b => .int .u8 b.toNat := by simp [X6]
theorem B5W (a : Array UInt8) (k : IntKind) : X6 (.str ⟨a⟩) (.int k 2) = (a.toList[2]?).map fun b => .int .u8 b.toNat := by simp [X6]
theorem B5X (a : Array UInt8) (k : IntKind) : X6 (.str ⟨a⟩) (.int k 3) = (a.toList[3]?).map fun b => .int .u8 b.toNat := by simp [X6]
theorem B5Y (a : Array UInt8) (k : IntKind) : X6 (.str ⟨a⟩) (.int k 4) = (a.toList[4]?).map fun b => .int .u8 b.toNat := by simp [X6]
theorem B5Z (a : Array UInt8) (k : IntKind) : X6 (.str ⟨a⟩) (.int k 5) = (a.toList[5]?).map fun b => .int .u8 b.toNat := by simp [X6]
theorem B50 (a : Array UInt8) (k : IntKind) : X6 (.str ⟨a⟩) (.int k 6) = (a.toList[6]?).map fun b => .int .u8 b.toNat := by simp [X6]
theorem B51 (a : Array UInt8) (k : IntKind) : X6 (.str ⟨a⟩) (.int k 7) = (a.toList[7]?).map fun b => .int .u8 b.toNat := by simp [X6]
end Go.Su

/-
 The settings of the data machine for this seat: by program.
-/
namespace Go.Su
noncomputable section
open Go.Proofs
def spread {α : Type} (d : α) : Nat → Nat → List (Nat × α) → List α
 | 0, _, _ => []
 | n + 1, i, [] => d :: spread d n (i + 1) []
 | n + 1, i, (j, x) :: l => match Nat.beq i j with
   | true => x :: spread d n (i + 1) l
   | false => d :: spread d n (i + 1) ((j, x) :: l)
def bxs (d : DV) : Nat → Nat → List (DV × Meta)
 | _, 0 => []
 | i, n + 1 => (A7 i d, .val) :: bxs d (i + 1) n
def mst (n : Nat) (a : List (Nat × DV)) (b : List (Nat × Meta)) (c : List (Nat × Option (List (DV × Meta)))) (g : List D7) : St := ⟨spread .undef n 0 a, spread .val n 0 b, spread none n 0 c, g⟩
abbrev zA0 : DV := .agg [(.bool false), (.bool false), (.bool false), (.bool false), (.bool false), (.bool false), (.bool false), (.bool false), (.int .i64 0)]
abbrev zA1 : DV := .agg [(.bool false), (.bool false), (.bool false), (.bool false), (.bool false), (.bool false), (.bool false), (.bool false), (.int .i64 2)]
abbrev zA2 : DV := .agg [(.bool false), (.bool false), (.bool true), (.bool false), (.bool false), (.bool false), (.bool false), (.bool false), (.int .i64 0)]
abbrev zA3 : DV := .agg [(.int .i64 0), (.int .i64 0), (.int .i64 0), (.str ⟨#[]⟩), (.str ⟨#[]⟩), (.int .i64 0), (.str ⟨#[]⟩), (.int .i64 0), (.int .i64 0), (.bool false), (.list 1 []), (.int .i64 0), (.int .i64 0), (.list 3 []), (.int .i64 0), (.int .i64 0), (.list 3 []), (.list 3 []), (.list 7 []), (.list 20 [])]
abbrev zA4 : DV := .agg [(.int .i64 0), (.int .i64 0), (.list 3 []), (.int .i64 0), (.int .i64 0), (.int .i64 0), (.str ⟨#[]⟩), (.str ⟨#[]⟩), (.int .i64 0), (.str ⟨#[]⟩), (.int .i64 0), (.int .i64 0), (.bool false), (.list 1 []), (.int .i64 0), (.int .i64 0), (.list 3 []), (.int .i64 0), (.int .i64 0), (.list 3 []), (.list 3 []), (.list 7 []), (.list 20 [])]
abbrev ZE : FuncId := 3
abbrev Vu : FuncId := 5
abbrev Qu : FuncId := 6
abbrev MZ : FuncId := 7
abbrev Vs : FuncId := 8
abbrev SH : FuncId := 9
abbrev Lc : FuncId := 10
abbrev fH : FuncId := 11
abbrev MB : FuncId := 12
abbrev SK : FuncId := 13
abbrev QU : FuncId := 14
abbrev fC : FuncId := 15
abbrev Pi : FuncId := 17
abbrev fA : FuncId := 23
abbrev YN : FuncId := 24
abbrev Vv : FuncId := 25
abbrev Y2 : FuncId := 26
abbrev MC : FuncId := 27
abbrev YJ : FuncId := 28
abbrev ZC : FuncId := 29
abbrev Y_ : FuncId := 30
abbrev Kr : FuncId := 31
abbrev SL : FuncId := 32
abbrev YM : FuncId := 33
abbrev Vy : FuncId := 34
abbrev Uw : FuncId := 35
abbrev ed : FuncId := 36
abbrev AV : FuncId := 37
abbrev xN : FuncId := 38
abbrev IA : FuncId := 39
abbrev qO : FuncId := 40
abbrev Ux : FuncId := 41
abbrev Ph : FuncId := 42
abbrev ME : FuncId := 46
abbrev fB : FuncId := 47
abbrev H_ : FuncId := 48
abbrev Qv : FuncId := 49
abbrev AQ : FuncId := 50
abbrev Bt : FuncId := 51
abbrev EO : FuncId := 52
abbrev Kt : FuncId := 53
abbrev IB : FuncId := 54
abbrev Qw : FuncId := 55
abbrev SQ : FuncId := 56
abbrev QT : FuncId := 57
abbrev Fs : FuncId := 58
abbrev AU : FuncId := 59
abbrev Pm : FuncId := 60
abbrev YQ : FuncId := 61
abbrev bP : FuncId := 62
abbrev fG : FuncId := 63
abbrev j4 : FuncId := 64
abbrev Z9 : FuncId := 65
abbrev SI : FuncId := 66
abbrev BL : FuncId := 67
abbrev V_ : FuncId := 68
abbrev Pn : FuncId := 69
abbrev fI : FuncId := 70
abbrev Pk : FuncId := 71
abbrev XN : FuncId := 72
abbrev ZH : FuncId := 73
abbrev Kq : FuncId := 74
abbrev QV : FuncId := 75
abbrev JW : FuncId := 76
abbrev eZ : FuncId := 77
abbrev ZG : FuncId := 78
abbrev YO : FuncId := 79
abbrev Hz : FuncId := 80
abbrev bO : FuncId := 81
abbrev Vw : FuncId := 82
abbrev qN : FuncId := 83
abbrev kM : FuncId := 84
abbrev Fu : FuncId := 88
abbrev Db : FuncId := 91
abbrev OC : FuncId := 92
abbrev eu : FuncId := 93
abbrev YP : FuncId := 94
abbrev YK : FuncId := 95
abbrev kQ : FuncId := 97
abbrev Eh : FuncId := 98
abbrev ZA : FuncId := 99
abbrev AL : FuncId := 100
abbrev BF : FuncId := 101
abbrev Ko : FuncId := 102
abbrev T9 : FuncId := 103
abbrev SG : FuncId := 104
abbrev M6 : FuncId := 105
abbrev L_ : FuncId := 106
abbrev Br : FuncId := 107
abbrev Lx : FuncId := 108
abbrev Kn : FuncId := 109
abbrev qP : FuncId := 110
abbrev BM : FuncId := 111
abbrev ZF : FuncId := 112
abbrev FV : FuncId := 113
abbrev Vz : FuncId := 114
abbrev Cw : FuncId := 115
abbrev SN : FuncId := 116
abbrev Pg : FuncId := 117
abbrev kL : FuncId := 118
abbrev qM : FuncId := 119
abbrev Vx : FuncId := 120
abbrev Vt : FuncId := 122
abbrev YL : FuncId := 123
abbrev OD : FuncId := 126
abbrev Po : FuncId := 127
abbrev MF : FuncId := 128
abbrev QW : FuncId := 129
abbrev Ma : FuncId := 130
abbrev WA : FuncId := 131
abbrev ZB : FuncId := 132
abbrev FW : FuncId := 133
abbrev Y1 : FuncId := 134
abbrev SS : FuncId := 135
abbrev OE : FuncId := 136
abbrev XM : FuncId := 137
abbrev Fq : FuncId := 138
abbrev MS : FuncId := 139
abbrev MU : FuncId := 140
abbrev MV : FuncId := 141
abbrev JV : FuncId := 142
abbrev Pj : FuncId := 143
abbrev kN : FuncId := 144
abbrev kP : FuncId := 145
abbrev fF : FuncId := 146
abbrev kR : FuncId := 147
abbrev ZJ : FuncId := 148
abbrev ND : FuncId := 149
abbrev XO : FuncId := 151
abbrev fJ : FuncId := 152
abbrev ZI : FuncId := 153
abbrev Hd : FuncId := 154
abbrev Ld : FuncId := 155
abbrev YR : FuncId := 156
abbrev OB : FuncId := 157
abbrev fD : FuncId := 158
abbrev NC : FuncId := 161
abbrev Pf : FuncId := 162
abbrev fE : FuncId := 163
def YE : Flags := {}
def A0l : Flags := { keep := [(6, [7, 8, 10], [7], [], [7, 8, 10]), (7, [2, 3, 5, 6, 7, 8, 9, 10], [2, 3, 5, 6, 7, 9], [], [2, 3, 5, 6, 7, 8, 9, 10])] }
def aD : Flags := { keep := [(5, [0, 3, 4], [], [], [0, 3, 4])] }
def YD : Flags := {}
def aN : Flags := { shared := [10] }
def Tx : Flags := { L8 := [25, 43], keep := [(4, [1, 2, 3, 4], [1, 2, 3], [3], [1, 2, 4]), (8, [1, 2, 3, 5], [1, 2, 3], [3], [1, 2, 5])] }
def Xc : Flags := { L8 := [21], keep := [(3, [1, 2, 3, 4], [1, 2, 3], [3], [1, 2, 4])] }
def jT : Flags := {}
def uY : Flags := { shared := [18] }
def Zy : Flags := { keep := [(4, [2, 3, 5], [2, 3], [], [2, 3, 5])] }
def Qp : Flags := { keep := [(4, [2, 3, 5], [2, 3], [], [2, 3, 5]), (9, [2, 3, 6], [2, 3], [], [2, 3, 6])] }
def Va : Flags := { keep := [(4, [2, 3, 5], [2, 3], [], [2, 3, 5])] }
def aF : Flags := { keep := [(5, [3, 4, 6], [3], [], [3, 4, 6])] }
def A4Z : Flags := {}
def UC : Flags := { keep := [(4, [1, 3], [1], [], [1, 3]), (9, [1, 4], [1], [], [1, 4])] }
def A40 : Flags := { keep := [(2, [1, 3], [1], [], [1, 3]), (7, [1, 4], [1], [], [1, 4]), (12, [1, 5], [1], [], [1, 5])] }
def A41 : Flags := { keep := [(4, [2, 3, 4, 5, 6], [2, 4, 6], [], [2, 3, 4, 5, 6])] }
def A6C : Flags := { shared := [13, 30] }
def A6D : Flags := { keep := [(4, [2, 3, 5], [2, 3], [], [2, 3, 5])] }
def A2u : Flags := { keep := [(4, [0, 1, 5], [], [], [0, 1, 5])] }
def aB : Flags := { keep := [(3, [0, 3, 4], [], [], [0, 3, 4])] }
def gD : Flags := { keep := [(3, [1, 3, 4], [1], [], [1, 3, 4])] }
def UA : Flags := { keep := [(3, [1, 2, 5], [2], [], [1, 2, 5]), (9, [1, 2, 6], [2], [], [1, 2, 6])] }
def Gq : Flags := { keep := [(7, [0, 3, 5, 6, 9, 10, 11], [5, 6], [], [0, 3, 5, 6, 9, 10, 11]), (10, [0, 3, 5, 6, 9, 10], [5, 6], [], [0, 3, 5, 6, 9, 10]), (26, [0, 3, 5, 6, 85], [5, 6], [], [0, 3, 5, 6, 85])] }
def EB : Z8 := { params := [.val, .val, .val, .val], results := [.val] }
def Zz : Flags := { L8 := [18], keep := [(3, [1, 2, 3, 4], [1, 2, 3], [3], [1, 2, 4])] }
def fu : Flags := { L8 := [15], keep := [(4, [1, 2, 3, 4], [1, 2, 3], [3], [1, 2, 4])] }
def Xd : Flags := { L8 := [2, 3, 11, 19], keep := [(3, [0, 3, 4], [], [3], [0, 4])] }
def pR : Flags := { shared := [25] }
def Fg : Flags := { keep := [(2, [1, 3], [1], [], [1, 3]), (7, [1, 4], [1], [], [1, 4]), (12, [1, 5], [1], [], [1, 5])] }
def Qq : Flags := { L8 := [79, 102, 117, 147], keep := [(14, [6, 10, 12], [6, 10, 12], [], [6, 10, 12]), (21, [0, 3, 4, 6, 7, 10, 11, 12, 29], [6, 7, 10, 12], [12], [0, 3, 4, 6, 7, 10, 11, 29])] }
def KY : Z8 := { params := [.val, .val, .val, .val, .val], results := [.val] }
def QJ : Flags := { keep := [(3, [2, 3], [2, 3], [], [2, 3]), (6, [2, 3, 5], [2, 3], [], [2, 3, 5]), (11, [2, 3, 6], [2, 3], [], [2, 3, 6])] }
def aJ : Flags := { keep := [(4, [2, 3, 5], [2, 3], [], [2, 3, 5])] }
def Tz : Flags := { keep := [(4, [0, 1, 5], [], [], [0, 1, 5])] }
def Zx : Flags := { keep := [(4, [0, 1, 5], [], [], [0, 1, 5])] }
def zO : Flags := {}
def uP : Flags := {}
def A1C : Flags := {}
def YX : Flags := { keep := [(4, [1, 3], [1, 3], [], [1, 3]), (6, [1], [1], [], [1])] }
def UD : Flags := { keep := [(5, [3, 4], [], [], [3, 4])] }
def aG : Flags := { keep := [(4, [1, 3], [1], [], [1, 3])] }
def A3V : Flags := {}
def A3Y : Flags := { L8 := [9, 68, 195], keep := [(3, [0, 5, 6, 7, 8, 9, 10], [5, 6, 7, 8], [9], [0, 5, 6, 7, 8, 10]), (17, [5, 8, 13], [5, 8, 13], [], [5, 8, 13])] }
def A2N : Z8 := { params := [.val, .val, .val, .val], results := [.val] }
def A6E : Flags := { keep := [(3, [2, 3], [2, 3], [], [2, 3]), (6, [2, 3, 5], [2, 3], [], [2, 3, 5]), (11, [2, 3, 6], [2, 3], [], [2, 3, 6])] }
def KG : Flags := { keep := [(5, [1, 2, 5], [2], [], [1, 2, 5]), (8, [1, 2], [2], [], [1, 2]), (9, [1, 2, 6], [2], [], [1, 2, 6]), (12, [1, 2], [2], [], [1, 2])] }
def aC : Flags := { keep := [(2, [0, 3], [], [], [0, 3])] }
def gB : Flags := { keep := [(3, [1, 3, 4], [1], [], [1, 3, 4])] }
def JM : Flags := { keep := [(3, [0, 1, 2, 3, 9, 10], [], [], [0, 1, 2, 3, 9, 10]), (7, [0, 1, 2, 9, 11], [], [], [0, 1, 2, 9, 11])] }
def FB : Z8 := { params := [.val, .val, .val, .val], results := [.val] }
def jU : Flags := {}
def Ua : Z8 := { params := [.val, .val], results := [.val] }
def YF : Flags := {}
def Nt : Z8 := { params := [.val, .val], results := [.val] }
def dR : Flags := {}
def RS : Z8 := { params := [.val, .val, .val], results := [.val] }
def zX : Flags := { L8 := [6] }
def aM : Flags := {}
def Pd : Z8 := { params := [.val, .val], results := [.val] }
def JN : Flags := { keep := [(3, [0, 3, 5, 6, 9], [5, 6], [], [0, 3, 5, 6, 9]), (8, [0, 3, 5, 6, 9, 10, 11, 12], [5, 6], [], [0, 3, 5, 6, 9, 10, 11, 12])] }
def FC : Z8 := { params := [.val, .val, .val, .val], results := [.val] }
def Ls : Flags := { shared := [1, 2], keep := [(2, [2, 6], [], [], [2, 6])] }
def KF : Flags := { keep := [(2, [1, 10, 11, 12], [1], [], [1, 10, 11, 12]), (8, [1, 21, 22, 23], [1], [], [1, 21, 22, 23]), (14, [35, 36, 37], [], [], [35, 36, 37])] }
def FQ : Flags := { keep := [(4, [0, 3, 5, 6, 8, 9, 10], [5, 6, 8, 9], [], [0, 3, 5, 6, 8, 9, 10]), (26, [0, 3, 5, 6, 8, 47], [5, 6, 8], [], [0, 3, 5, 6, 8, 47])] }
def Cv : Z8 := { params := [.val, .val, .val, .val], results := [.val] }
def Uo : Flags := {}
def La : Z8 := { params := [.val], results := [.val] }
def Dk : Flags := { L8 := [14, 86], keep := [(8, [0, 4, 6, 7, 11, 12], [6, 7], [], [0, 4, 6, 7, 11, 12]), (11, [0, 4, 7], [7], [], [0, 4, 7]), (13, [0, 7, 14, 15], [7], [14], [0, 7, 15]), (17, [0, 7, 14, 15], [7], [14], [0, 7, 15]), (19, [0, 7, 14, 16], [7], [], [0, 7, 14, 16]), (23, [0, 7, 14, 16], [7], [], [0, 7, 14, 16]), (25, [0, 7, 14, 16, 17, 18], [7], [], [0, 7, 14, 16, 17, 18])] }
def CK : Z8 := { params := [.val, .val, .val, .val, .val], results := [.val] }
def gH : Flags := { keep := [(2, [0, 1, 5], [], [], [0, 1, 5])] }
def YZ : Flags := { L8 := [42], keep := [(3, [1, 2, 4, 5], [2, 4], [], [1, 2, 4, 5]), (10, [1, 2, 4, 6, 7], [2, 4, 6], [6], [1, 2, 4, 7])] }
def aL : Flags := { L8 := [4, 5, 13, 25], keep := [(3, [0, 1, 5, 6], [], [5], [0, 1, 6])] }
def uf : Flags := { L8 := [13, 20, 22, 40] }
def Xo : Z8 := { params := [.val, .val, .val, .val, .val, .val, (.S_ 4 [3])], results := [(.S_ 4 [3])] }
def zW : Flags := {}
def zP : Flags := {}
def pW : Flags := {}
def Vr : Z8 := { params := [.val, .val, .val], results := [] }
def ug : Flags := {}
def uh : Flags := { L8 := [6] }
def uZ : Flags := { L8 := [25] }
def Xn : Z8 := { params := [.val, .val, .val, .val, .val], results := [.val] }
def Nb : Flags := { L8 := [102], keep := [(9, [0, 3, 4, 5, 7, 8, 12, 13, 15, 16], [7, 8, 12, 13, 15, 16], [], [0, 3, 4, 5, 7, 8, 12, 13, 15, 16]), (11, [0, 3, 4, 5, 7, 8, 12, 13, 14, 15], [7, 8, 12, 13, 15], [], [0, 3, 4, 5, 7, 8, 12, 13, 14, 15]), (18, [0, 3, 4, 7, 8, 12, 13, 17], [7, 8, 12, 13, 17], [17], [0, 3, 4, 7, 8, 12, 13])] }
def Hw : Z8 := { params := [.val, .val, .val, .val, .val, .val], results := [.val] }
def KH : Flags := { L8 := [13, 15, 46, 57, 72, 91, 93], keep := [(4, [0, 3, 4, 6, 7, 10, 11, 12], [6, 7, 10, 11], [11], [0, 3, 4, 6, 7, 10, 12]), (9, [0, 3, 4, 6, 7, 10, 11, 12, 13], [6, 7, 10, 11], [11], [0, 3, 4, 6, 7, 10, 12, 13]), (11, [0, 3, 4, 6, 7, 10, 11, 12, 13, 15, 16], [6, 7, 10, 11], [11, 15], [0, 3, 4, 6, 7, 10, 12, 13, 16])] }
def FU : Z8 := { params := [.val, .val, .val, .val, .val], results := [.val] }
def Ht : Flags := { L8 := [65], keep := [(6, [0, 3, 4, 6, 7, 10, 11, 12], [6, 7, 10, 11], [11], [0, 3, 4, 6, 7, 10, 12]), (11, [0, 3, 4, 6, 7, 10, 11, 13], [6, 7, 10, 11, 13], [11], [0, 3, 4, 6, 7, 10, 13]), (14, [0, 3, 4, 6, 7, 10, 11, 12], [6, 7, 10, 11], [11], [0, 3, 4, 6, 7, 10, 12]), (15, [0, 3, 4, 6, 7, 10, 11, 12, 14], [6, 7, 10, 11], [11], [0, 3, 4, 6, 7, 10, 12, 14])] }
def Ea : Z8 := { params := [.val, .val, .val, .val, .val], results := [.val] }
def f_ : Flags := { keep := [(4, [2, 3, 5], [2, 3], [], [2, 3, 5])] }
def Vd : Flags := { keep := [(4, [2, 3, 5], [2, 3], [], [2, 3, 5])] }
def UE : Flags := { keep := [(5, [1, 2, 4, 6, 16, 17, 18], [2, 4], [], [1, 2, 4, 6, 16, 17, 18])] }
def Tw : Flags := { L8 := [36, 60], keep := [(3, [1, 2, 4, 6, 19, 20, 21], [2, 4, 6], [6], [1, 2, 4, 19, 20, 21]), (11, [1, 4, 6, 43, 44, 45], [4, 6], [6], [1, 4, 43, 44, 45])] }
def Xe : Flags := { keep := [(20, [1, 2, 4], [1, 2, 4], [], [1, 2, 4])] }
def zS : Flags := {}
def fw : Flags := { keep := [(4, [0, 3], [], [], [0, 3])] }
def YY : Flags := { keep := [(25, [1, 3, 4], [1, 4], [], [1, 3, 4]), (28, [1, 3, 5], [1], [], [1, 3, 5])] }
def uX : Flags := { L8 := [2] }
def k_ : Flags := { keep := [(2, [0, 1, 5], [], [], [0, 1, 5])] }
def zN : Flags := {}
def A2t : Flags := { keep := [(2, [1, 2, 9, 10, 11], [2], [], [1, 2, 9, 10, 11]), (7, [1, 21, 22, 23], [], [], [1, 21, 22, 23])] }
def A2a : Z8 := { params := [.val, .val], results := [] }
def A6B : Flags := { L8 := [21, 37], keep := [(3, [1, 2, 4, 5, 14, 15, 16], [2, 4, 5], [5], [1, 2, 4, 14, 15, 16]), (8, [1, 4, 5, 30, 31, 32], [4, 5], [5], [1, 4, 30, 31, 32])] }
def A5R : Z8 := { params := [.val, .val], results := [.val] }
def A42 : Flags := { L8 := [6, 9, 93, 100], keep := [(21, [3, 4, 9, 10], [3, 4], [9], [3, 4, 10])] }
def zQ : Flags := {}
def A3X : Flags := { L8 := [15] }
def A2M : Z8 := { params := [.val, .val, .val, .val, .val], results := [.val] }
def A2v : Flags := { keep := [(4, [0, 1, 5], [], [], [0, 1, 5])] }
def RL : Flags := { keep := [(2, [1, 2, 5], [2], [], [1, 2, 5])] }
def T_ : Flags := { keep := [(4, [1, 2, 5], [2], [], [1, 2, 5])] }
def Z_ : Flags := { keep := [(3, [0, 3, 4], [], [], [0, 3, 4])] }
def gF : Flags := { keep := [(4, [1, 2, 5], [2], [], [1, 2, 5])] }
def zR : Flags := { L8 := [2] }
def Cs : Flags := { keep := [(4, [1, 3], [1, 3], [], [1, 3]), (6, [1, 3], [1, 3], [], [1, 3]), (8, [1, 3], [1, 3], [], [1, 3]), (10, [1, 3], [1, 3], [], [1, 3]), (12, [1, 3], [1, 3], [], [1, 3]), (14, [1, 3], [1, 3], [], [1, 3]), (16, [1, 3], [1, 3], [], [1, 3]), (18, [1], [1], [], [1]), (19, [176, 177, 178], [], [], [176, 177, 178])] }
def uj : Flags := {}
def Xb : Flags := { keep := [(2, [0, 1, 4, 6], [4], [], [0, 1, 4, 6])] }
def QI : Flags := {}
def Ho : Z8 := { params := [.val, .val], results := [] }
def M0 : Flags := { keep := [(4, [0, 5, 6], [5, 6], [], [0, 5, 6]), (5, [0, 5, 6, 48, 49, 50], [5, 6], [], [0, 5, 6, 48, 49, 50]), (11, [0, 6], [6], [], [0, 6]), (13, [0, 6], [6], [], [0, 6]), (14, [0, 82, 83, 84], [], [], [0, 82, 83, 84]), (19, [0, 82, 83, 84, 98, 99, 100], [], [], [0, 82, 83, 84, 98, 99, 100])] }
def K9 : Z8 := { params := [.val, .val, .val, .val], results := [.val] }
def KE : Flags := { L8 := [10, 27, 40], keep := [(5, [5, 6, 8, 9, 10, 20, 21, 22], [5, 6, 8, 9], [10], [5, 6, 8, 9, 20, 21, 22])] }
def Eu : Z8 := { params := [.val, .val, .val, .val], results := [.val] }
def Tv : Flags := {}
def KX : Z8 := { params := [.val, .val, .val, .val, .val], results := [.val] }
def pU : Flags := {}
def KC : Flags := { keep := [(4, [0, 3, 7, 11, 12, 13], [7, 11, 12, 13], [], [0, 3, 7, 11, 12, 13])] }
def Er : Z8 := { params := [.val, .val, .val, .val, .val, .val], results := [.val] }
def uR : Flags := {}
def pV : Flags := { L8 := [4] }
def Vq : Z8 := { params := [.val, .val], results := [.own] }
def uQ : Flags := {}
def KD : Flags := { keep := [(25, [0, 3, 5, 6, 8, 13, 14], [5, 6, 8, 13, 14], [], [0, 3, 5, 6, 8, 13, 14])] }
def Es : Z8 := { params := [.val, .val, .val, .val], results := [.val] }
def Ya : Flags := { keep := [(4, [1, 4, 5], [1], [], [1, 4, 5]), (6, [1, 4, 5], [1], [], [1, 4, 5])] }
def jV : Flags := {}
def Uc : Z8 := { params := [.val, .val], results := [] }
def uW : Flags := { keep := [(2, [0, 1, 5], [], [], [0, 1, 5])] }
def Vb : Flags := { keep := [(4, [1, 2, 5], [2], [], [1, 2, 5])] }
def aK : Flags := { keep := [(10, [2, 3, 5], [2, 3], [], [2, 3, 5])] }
def gG : Flags := { L8 := [2, 6, 8, 15, 18, 30, 43, 44, 53, 55, 59, 68, 70, 74, 81, 82, 91, 93, 97, 103, 105], keep := [(10, [2, 3, 4], [3, 4], [2], [3, 4])] }
def Ub : Z8 := { params := [.val, .val, .own], results := [.own, .val] }
def Xg : Flags := { L8 := [45], keep := [(10, [1, 2, 6, 9, 38, 39, 40], [6, 9], [9], [1, 2, 6, 38, 39, 40])] }
def Ov : Z8 := { params := [.val, .val, .val], results := [.val] }
def uV : Flags := {}
def zM : Flags := {}
def YW : Flags := { keep := [(2, [0, 3], [], [], [0, 3]), (8, [0, 4, 5], [], [], [0, 4, 5])] }
def aI : Flags := { L8 := [1, 4, 9, 26, 28], keep := [(4, [1, 2, 5], [2], [1], [2, 5])] }
def Qr : Z8 := { params := [.val, .own], results := [.own] }
def A3W : Flags := { L8 := [37], keep := [(3, [1, 2, 4], [2, 4], [], [1, 2, 4]), (7, [1, 4, 5, 30, 31, 32], [4, 5], [5], [1, 4, 30, 31, 32])] }
def A2L : Z8 := { params := [.val, .val], results := [.val] }
def aA : Flags := { keep := [(3, [1, 2, 5], [2], [], [1, 2, 5])] }
def WK : Flags := { L8 := [1, 4, 16, 33, 35], keep := [(3, [1, 2], [2], [1], [2]), (4, [1, 2, 5], [2], [1], [2, 5])] }
def Ns : Z8 := { params := [.val, .own], results := [.own] }
def dU : Flags := {}
def aP : Flags := { keep := [(4, [0, 3], [], [], [0, 3])] }
def ui : Flags := {}
def jX : Flags := {}
def ET : Flags := { shared := [1, 2, 3], keep := [(3, [2, 3, 8], [], [], [2, 3, 8]), (6, [3, 4], [4], [], [3, 4])] }
def aO : Flags := { keep := [(9, [33, 34, 35], [], [], [33, 34, 35])] }
def Lr : Flags := { keep := [(14, [2, 4], [2], [], [2, 4]), (16, [2, 4], [2], [], [2, 4]), (18, [2, 4], [2], [], [2, 4])] }
def Kh : Flags := {}
def Ir : Flags := { keep := [(1, [0, 2, 8, 9, 10], [], [], [0, 2, 8, 9, 10])] }
def EJ : Z8 := { params := [.val, .val, .val], results := [] }
def pg : Flags := {}
def zY : Flags := { L8 := [2] }
def jS : Flags := {}
def KA : Flags := { L8 := [31], keep := [(5, [0, 5, 6, 7, 8, 9], [5, 6, 7, 8], [], [0, 5, 6, 7, 8, 9])] }
def Ep : Z8 := { params := [.val, .val, .val, .val], results := [.val] }
def Tu : Flags := {}
def KW : Z8 := { params := [.val, .val, .val, .val], results := [.val] }
def LQ : Flags := { keep := [(9, [0, 3, 5, 6, 8, 9, 10], [5, 6, 8, 9, 10], [], [0, 3, 5, 6, 8, 9, 10])] }
def FR : Z8 := { params := [.val, .val, .val, .val], results := [.val] }
def LU : Flags := { keep := [(5, [0, 3, 5, 6, 8, 9, 10], [5, 6, 8, 9], [], [0, 3, 5, 6, 8, 9, 10])] }
def FT : Z8 := { params := [.val, .val, .val, .val], results := [.val] }
def El : Flags := { L8 := [11, 16, 66, 75, 81, 92], keep := [(4, [0, 3, 5, 6, 8, 9, 10, 11, 35, 36, 37], [5, 6, 8, 9, 10], [11], [0, 3, 5, 6, 8, 9, 10, 35, 36, 37]), (14, [0, 3, 5, 6, 8, 9, 10, 11, 12, 16, 35, 36, 37, 60, 61, 62], [5, 6, 8, 9, 10], [11, 16], [0, 3, 5, 6, 8, 9, 10, 12, 35, 36, 37, 60, 61, 62])] }
def CY : Z8 := { params := [.val, .val, .val, .val], results := [.val] }
def aH : Flags := { keep := [(12, [1], [1], [], [1])] }
def zU : Flags := {}
def zV : Flags := {}
def uU : Flags := {}
def zZ : Flags := {}
def pm : Flags := {}
def pY : Flags := {}
def Ve : Flags := { keep := [(24, [1, 3, 4], [1, 3], [], [1, 3, 4])] }
def uk : Flags := {}
def pX : Flags := {}
def Gr : Flags := { keep := [(2, [0, 1, 7, 8], [], [], [0, 1, 7, 8])] }
def Vf : Flags := { keep := [(4, [1, 12, 13, 14], [], [], [1, 12, 13, 14])] }
def WL : Flags := { L8 := [2, 6, 17, 36, 39], keep := [(5, [1, 2, 3], [3], [2], [1, 3]), (6, [1, 2, 28, 29, 30], [], [2], [1, 28, 29, 30])] }
def Nu : Z8 := { params := [.val, .val, .own], results := [.own] }
def Tt : Flags := { keep := [(8, [3, 33, 34, 35], [3], [], [3, 33, 34, 35])] }
def uS : Flags := { L8 := [4, 6, 16, 20, 24] }
def Xh : Flags := { keep := [(12, [1], [1], [], [1])] }
def UB : Flags := { L8 := [2, 6, 14, 23, 26, 59, 65, 67, 72], keep := [(16, [2, 3, 8], [3], [2], [3, 8]), (17, [2, 8, 52, 53, 54], [], [2], [8, 52, 53, 54])] }
def Lv : Z8 := { params := [.val, .val, .own], results := [.own, .val] }
def uT : Flags := {}
def flL : List Flags := [{}, {}, {}, YE, A0l, aD, YD, aN, Tx, Xc, jT, uY, Zy, Qp, Va, aF, A4Z, UC, A40, A41, A6C, A6D, A2u, aB, gD, UA, Gq, Zz, fu, Xd, pR, Fg, Qq, QJ, aJ, Tz, Zx, zO, uP, A1C, YX, UD, aG, A3V, A3Y, A6E, KG, aC, gB, JM, jU, YF, dR, zX, aM, JN, Ls, KF, FQ, Uo, Dk, gH, YZ, aL, uf, zW, zP, pW, ug, uh, uZ, Nb, KH, Ht, f_, Vd, UE, Tw, Xe, zS, fw, YY, uX, k_, zN, A2t, A6B, A42, zQ, A3X, A2v, RL, T_, Z_, gF, zR, {}, Cs, uj, Xb, QI, M0, KE, Tv, pU, KC, uR, pV, uQ, KD, Ya, jV, uW, Vb, aK, gG, Xg, uV, zM, YW, aI, A3W, aA, WK, {}, {}, dU, aP, ui, jX, ET, aO, Lr, Kh, Ir, pg, zY, jS, KA, Tu, LQ, LU, El, aH, zU, zV, uU, zZ, pm, pY, {}, Ve, uk, pX, Gr, Vf, WL, Tt, uS, {}, {}, Xh, UB, uT, {}, {}, {}, {}, {}, {}, {}, {}, {}, {}, {}, {}, {}, {}, {}, {}, {}]
def B6B : List (Option Z8) := List.replicate 26 (none : Option Z8) ++ [some EB, none, none, none, none, none, some KY] ++ List.replicate 11 (none : Option Z8) ++ [some A2N, none, none, none, none, some FB, some Ua, some Nt, some RS, none, some Pd, some FC, none, none, some Cv, some La, some CK, none, none, none, some Xo, none, none, some Vr, none, none, some Xn, some Hw, some FU, some Ea] ++ List.replicate 11 (none : Option Z8) ++ [some A2a, some A5R, none, none, some A2M] ++ List.replicate 10 (none : Option Z8) ++ [some Ho, some K9, some Eu, some KX, none, some Er, none, some Vq, none, some Es, none, some Uc, none, none, none, some Ub, some Ov, none, none, none, some Qr, some A2L, none, some Ns] ++ List.replicate 10 (none : Option Z8) ++ [some EJ, none, none, none, some Ep, some KW, some FR, some FT, some CY] ++ List.replicate 13 (none : Option Z8) ++ [some Nu, none, none, none, none, none, some Lv] ++ List.replicate 17 (none : Option Z8) ++ [none]
def clL : List FuncId := []
def csL : List (FuncId × Nat) := [(96, 16), (150, 7)]
def mkL : List (FuncId × FuncId) := [(96, 124), (150, 159)]
def itF (f : FuncId) : Option (List DV → Option (List DV)) := if f = 124 then some (JO 16 15) else if f = 159 then some (JO 7 6) else none
def X7 : Code := Tryz.f101.body.getD .skip
def I7 : Yz where
 pre := A7A 4 X7
 r := (sub [true, true, true, true, false, false] X7 []).1
 c := .tmp 73
 a := (sub [true, true, true, true, false, true, false, false] X7 []).1
 id := 12
 ops := (B4D X7 [true, true, true, true, false, true, false, true]).take 3
 Wh := ((B4D X7 [true, true, true, true, false, true, false, true])[3]?).getD default
 post := A7f 5 X7
def dcL : List (FuncId × Yz) := [(101, I7)]
def dfL : List FuncId := [134]
def B6z : List TypeId := []
def B5w : List (FuncId × Cut) := []
def cfg : V6 where
 P := Tryz.prog
 fl f := flL.getD f {}
 sig f := B6B.getD f none
 gT f := B5w.lookup f
 clone f := clL.contains f
 nH f := (csL.lookup f).getD 0
 dh f := mkL.lookup f
 iter f := itF f
 ref t := B6z.contains t
 XR f := dcL.lookup f
 dfn f := dfL.contains f
def zb0 : List (DV × Meta) := [((.int .i64 0), .val), ((.int .i64 0), .val), ((.int .i64 0), .val), ((.str ⟨#[]⟩), .val), ((.str ⟨#[]⟩), .val), ((.int .i64 0), .val), ((.str ⟨#[]⟩), .val), ((.int .i64 0), .val), ((.int .i64 0), .val), ((.bool false), .val), ((.list 1 []), .val), ((.int .i64 0), .val), ((.int .i64 0), .val), ((.list 3 []), .val), ((.int .i64 0), .val), ((.int .i64 0), .val), ((.list 3 []), .val), ((.list 3 []), .val), ((.list 7 []), .val), ((.list 20 []), .val)]
def zb1 : List (DV × Meta) := [((.int .i64 0), .val), ((.int .i64 0), .val), ((.int .i64 0), .val), ((.str ⟨#[]⟩), .val), ((.str ⟨#[]⟩), .val), ((.int .i64 0), .val), ((.str ⟨#[]⟩), .val), ((.int .i64 0), .val), ((.int .i64 0), .val), ((.int .i64 0), .val), ((.list 3 []), .val), ((.int .i64 0), .val), ((.int .i64 0), .val), ((.list 3 []), .val), ((.list 7 []), .val), ((.list 16 []), .val)]
def zb2 : List (DV × Meta) := [((.int .i64 0), .val), ((.int .i64 0), .val), ((.list 3 []), .val), ((.int .i64 0), .val), ((.int .i64 0), .val), ((.int .i64 0), .val), ((.str ⟨#[]⟩), .val), ((.str ⟨#[]⟩), .val), ((.int .i64 0), .val), ((.str ⟨#[]⟩), .val), ((.int .i64 0), .val), ((.int .i64 0), .val), ((.bool false), .val), ((.list 1 []), .val), ((.int .i64 0), .val), ((.int .i64 0), .val), ((.list 3 []), .val), ((.int .i64 0), .val), ((.int .i64 0), .val), ((.list 3 []), .val), ((.list 3 []), .val), ((.list 7 []), .val), ((.list 20 []), .val)]
def zb3 : List (DV × Meta) := [((.int .i64 0), .val), ((.int .i64 0), .val), ((.list 3 []), .val), ((.list 4 []), .val)]
def zb4 : List (DV × Meta) := [((.int .i64 0), .val), ((.int .i64 0), .val), ((.list 3 []), .val)]
def zb5 : List (DV × Meta) := [((.list 3 []), .val), ((.list 1 []), .val), ((.list 3 []), .val)]
def hP (fn : Func) (fl : Flags) (R : N7) (l : List Bool) (s : St) := Yd cfg R fl (Vn cfg.P fn) l (fn.body.getD .skip) s
def eP (fn : Func) (fl : Flags) (R : N7) (l : List Bool) (s : St) := Ia cfg R fl (Vn cfg.P fn) l (fn.body.getD .skip) s
theorem B6V {f : FuncId} {fn : Func} {ds : List DV} {X : Option DV} {d : DV} (hf : cfg.P.funcs[f]? = some fn) (hp : cfg.gT f = none) (hb : fn.body = some (fn.body.getD .skip)) (hX : Ia cfg (run cfg) (cfg.fl f) (Vn cfg.P fn) [] (fn.body.getD .skip) (F5 fn (ds.map fun d => (d, .val)) []) = X) (h : X = some d) : (run cfg).p f ds = some d := (A4Y hp hf hb).trans (hX.trans h)
def pbA : Nat → Nat → List Bool → List Bool
  | 0, _, a => a
  | k + 1, n, a => match Nat.ble n 1 with
    | true => a
    | false => pbA k (n / 2) (Nat.beq (n % 2) 1 :: a)
def pb (n : Nat) : List Bool := pbA 300 n []
def mrg : Nat → List (Nat × Meta) → List Nat → List (Nat × Meta)
  | 0, _, _ => []
  | _ + 1, l, [] => l
  | k + 1, [], j :: b => (j, .loc j 0) :: mrg k [] b
  | k + 1, (i, m) :: l, j :: b => match Nat.ble i j with
    | true => (i, m) :: mrg k l (j :: b)
    | false => (j, .loc j 0) :: mrg k ((i, m) :: l) b
def ms (n : Nat) (a : List (Nat × DV)) (b : List (Nat × Meta)) (c : List (Nat × Option (List (DV × Meta)))) (g : List D7) : St := mst n a (mrg 300 b (c.map Prod.fst)) c g
def bx (d : DV) (n : Nat) := some (bxs d 0 n)
def bv (l : List DV) : Option (List (DV × Meta)) := some (l.map fun d => (d, .val))
def hR (fn : Func) (g : Z8) (fl : Flags) (R : N7) (l : List Bool) (s : St) := Yd cfg R fl (BK cfg.P fn g) l (fn.body.getD .skip) s
def eR (fn : Func) (g : Z8) (fl : Flags) (R : N7) (l : List Bool) (s : St) := Ia cfg R fl (BK cfg.P fn g) l (fn.body.getD .skip) s
theorem Ed {f : FuncId} {fn : Func} {s : Z8} {rs : List (DV × Meta)} {sg : List D7} {q : Option (List DV × List D7)} (hf : cfg.P.funcs[f]? = some fn) (hs : cfg.sig f = some s := by kernel_rfl) (hb : fn.body = some (fn.body.getD .skip) := by kernel_rfl) (hp : cfg.XR f = none := by kernel_rfl) (h : Ia cfg (run cfg) (cfg.fl f) (BK cfg.P fn s) [] (fn.body.getD .skip) (F5 fn rs sg) = q := by kernel_rfl) : (run cfg).r f rs sg = q := (B2n hs hf hb hp).trans h
theorem O9 {f : FuncId} {fn : Func} {ds : List DV} {q : Option DV} (hf : cfg.P.funcs[f]? = some fn) (hp : cfg.gT f = none := by kernel_rfl) (hb : fn.body = some (fn.body.getD .skip) := by kernel_rfl) (h : Ia cfg (run cfg) (cfg.fl f) (Vn cfg.P fn) [] (fn.body.getD .skip) (F5 fn (ds.map fun d => (d, .val)) []) = q := by kernel_rfl) : (run cfg).p f ds = q := (A4Y hp hf hb).trans h
end
end Go.Su

/-
 The program's iterators keep their word: by program.
-/
namespace Go.Su
open Go.Proofs Go.RowKit Go.Shelf
attribute [local go_sem] Oper.semAt_some
theorem A9Z {F : Fence} (hd : F.depth = none) (k : Nat) : F.room k := fun d h => by rw [hd] at h; cases h
theorem RoundIn.B3k {F : Fence} (hd : F.depth = none) {m m' : Nat} {P : Program} {l : Nat} {f : FuncId} {tmps : Array Value} {assign body : Code} {w : World} {R : Ending → World → Prop}
 (h : RoundIn F m P l f tmps assign body w R) : RoundIn F m' P l f tmps assign body w R := ⟨h.1, fun c cs _ => h.2 c cs (A9Z hd _)⟩
set_option maxHeartbeats 1000000 in
theorem B2C : A7B Tryz.prog 150 159 7 := by
 intro w vs hs;obtain ⟨l⟩ := vs
 match l, hs with
 | [v0, v1, v2, v3, v4, v5, v6], _ =>
 refine (callsIn_wide (n := 1)).1 (callsIn_of_wp Tryz.func150 rfl trivial ?_);simp only [Tryz.ntmps150, List.size_toArray, List.length_cons, List.length_nil, Nat.reduceAdd, Nat.reduceSub, Array.replicate_succ, Array.replicate_zero, List.push_toArray, List.append_toArray, List.nil_append, List.cons_append]
 gi_wp2
 go_ret
 exact ⟨rfl, _, rfl⟩
set_option maxRecDepth 10000 in
set_option maxHeartbeats 4000000 in
theorem B2t (l n0 : Nat) (ds : List DV) (J : Nat → Env → World → Prop) (Jx : World → Prop) (n : Nat)
 (hf : ∀ k E' W', J k E' W' → ∀ b o, W'.heap.size ≤ b → E'.O b o = .other)
 (hI : ∀ k E' W1 W2, J k E' W1 → NE n0 E' W1 W2 → J k E' W2)
 (hY : ∀ k E' W1 d v, J k E' W1 → ds[k]? = some d → RV E'.S W1.heap d v → YieldAt Fence.wide n Tryz.prog l #[v] W1 fun e W2 =>
   (e = .returned (.bool true) ∧ ∃ E2, J (k + 1) E2 W2 ∧ Pr J6 E' W1.heap E2 W2.heap) ∨ (e = .returned (.bool false) ∧ Jx W2)) :
 ∀ (m : Nat) (d : DV) (sub : List DV), X4 7 6 m d = some sub → ∀ (k : Nat) (E : Env) (W : World) (v : Value), J k E W → RV E.S W.heap d v → (∀ j x, sub[j]? = some x → ds[k + j]? = some x) → n0 ≤ W.heap.size →
   CallsIn Fence.wide n Tryz.prog 160 #[v, .func (.yield l) #[] #[]] W fun e W' => (e = .returned (.bool true) ∧ ∃ E', J (k + sub.length) E' W' ∧ Mc E W E' W') ∨ (e = .returned (.bool false) ∧ Jx W') := by
 intro m
 induction m with
 | zero => intro d sub h; simp [X4] at h
 | succ m ih =>
   intro d sub BI k E W v hJ hv DD hn0;cases d with
   | agg cs =>
     rw [X4] at BI;obtain ⟨h1, BI⟩ := F6 BI;cases hk : cs.getD 6 .undef with
     | list s kds =>
       rw [hk] at BI;simp only at BI;obtain ⟨h2, BI⟩ := F6 BI;obtain ⟨ks, h3, BI⟩ := A9 BI;simp only [Option.some.injEq] at BI;subst BI;simp only [beq_iff_eq, Bool.and_eq_true, decide_eq_true_eq] at h1 h2;obtain ⟨h2, A0o⟩ := h2;subst h2;have ji := hv;simp only [RV] at ji;obtain ⟨vs, rfl, Mx⟩ := ji;obtain ⟨hl, Mx⟩ := D_.1 Mx;obtain ⟨l', rfl⟩ : ∃ l' : List Value, vs = l'.toArray := ⟨vs.toList, by simp⟩
       simp only at hl Mx
       match l', hl.symm.trans h1 with
       | [v0, v1, v2, v3, v4, v5, v6], _ =>
       have hk5 : cs[6]? = some (.list 7 kds) := by
        have : 6 < cs.length := by omega
        rw [List.getD_eq_getElem?_getD, List.getElem?_eq_getElem this] at hk;rw [List.getElem?_eq_getElem this];exact congrArg some hk
       have hkc := (Mx 6 _ v6 hk5 rfl).2;simp only [RC] at hkc;obtain ⟨ka, len, cap, h4, h5, h6, h7, h8, h9⟩ := hkc;simp only [List.cons.injEq, and_true] at h4;subst h4 h5;have JA : ∀ k : Nat, (Fence.wide.depth.isSome = true → 1 ≤ k) := fun k h => by cases h
       have ho : ∀ o, E.O W.heap.size o = .other := fun o => hf k E W hJ _ o (Nat.le_refl _)
       have key : ∀ T, ∃ fy ty ay by_, (Instr.yield l #[.agg #[v0, v1, v2, v3, v4, v5, .slice ka kds.length cap]]).run Tryz.prog (W.alloc (.cells #[v0, v1, v2, v3, v4, v5, .slice ka kds.length cap] T)) = .ok (.round l fy ty ay by_) (W.alloc (.cells #[v0, v1, v2, v3, v4, v5, .slice ka kds.length cap] T)) ∧
        RoundIn Fence.wide (n - 1) Tryz.prog l fy ty ay by_ (W.alloc (.cells #[v0, v1, v2, v3, v4, v5, .slice ka kds.length cap] T)) fun e W2 =>
         (e = .returned (.bool true) ∧ ∃ E2, J (k + 1) E2 W2 ∧ Mc E W E2 W2 ∧ (W2.heap[W.heap.size]? = some (.cells #[v0, v1, v2, v3, v4, v5, .slice ka kds.length cap] T (0, 0)) ∧ (∀ o, E2.O W.heap.size o = .other)) ∧ W2.cell? ⟨W.heap.size, 6, none⟩ = some (.slice ka kds.length cap)) ∨ (e = .returned (.bool false) ∧ Jx W2) := by
        intro T;have hJ1 : J k E (W.alloc (.cells #[v0, v1, v2, v3, v4, v5, .slice ka kds.length cap] T)) := hI _ _ _ _ hJ (NE.alloc _);have K1 := Mc.alloc (E := E) (W := W) (.cells #[v0, v1, v2, v3, v4, v5, .slice ka kds.length cap] T) (hf k E W hJ);obtain ⟨fy, ty, ay, by_, hy, hR⟩ := hY k E _ (.agg cs) _ hJ1 (DD 0 _ rfl) (RV.mono K1.sh _ hv);refine ⟨fy, ty, ay, by_, hy, RoundIn.B3k rfl (RoundIn.mono hR ?_)⟩;rintro e W2 (⟨rfl, E2, hJ2, hP2⟩ | ⟨rfl, hx⟩)
        ·have K2 := Mc.B1W hP2 (hf _ _ _ hJ1)
         have hb := K2.blk W.heap.size (by simp) ho
         rw [World.alloc_heap_new] at hb;refine .inl ⟨rfl, E2, hJ2, K1.trans K2, hb, ?_⟩;simp [World.cell?, hb.1]
        ·exact .inr ⟨rfl, hx⟩
       obtain ⟨fy, ty, ay, by_, hy, hR⟩ := key 64;refine callsIn_of_wp Tryz.func160 rfl trivial ?_;simp only [Tryz.ntmps160, List.size_toArray, List.length_cons, List.length_nil, Nat.reduceAdd, Nat.reduceSub, Array.replicate_succ, Array.replicate_zero, List.push_toArray, List.append_toArray, List.nil_append, List.cons_append]
       gi_wp2_with ((try refine ⟨JA _, ?_⟩); refine hR.mono ?_; clear hR; rintro e W2 (⟨rfl, E2, hJ2, hK2, UK, hc2⟩ | ⟨rfl, hx2⟩))
       ·-- the kids, one by one
        refine wpIn_loop_rounds (kds.length + 1) ?_;refine (?loop : ∀ (r i : Nat) (pre rs : List DV) (E3 : Env) (w : World) (x6 x15 x16 x17 x18 x19 x20 x21 x22 : Value), i + r = kds.length → Em (X4 7 6 m) (kds.drop i) = some rs → ks = pre ++ rs → J (k + 1 + pre.length) E3 w → Mc E W E3 w →
         Code.roundsIn Fence.wide n Tryz.prog _ _ (r + 1) { tmps := #[.agg #[v0, v1, v2, v3, v4, v5, .slice ka kds.length cap], .func (.yield l) #[] #[], .pointer (some { block := W.heap.size, off := 0 }), undef, .bool false, undef, x6,
          .func (.yield l) #[] #[], .agg #[v0, v1, v2, v3, v4, v5, .slice ka kds.length cap], .bool true, .bool false, .pointer (some { block := W.heap.size, off := 6 }), .slice ka kds.length cap, .int .i64 (kds.length : Int), .int .i64 (i : Int), x15, x16, x17, x18, x19, x20, x21, x22], defers := [] } w)
         kds.length 0 [] ks E2 W2 undef undef undef undef undef undef undef undef undef (by simp) h3 rfl hJ2 hK2
        clear hJ2 hK2 UK hc2 hy key hJ;intro r
        induction r with
        | zero =>
          intro i pre rs E3 w x6 x15 x16 x17 x18 x19 x20 x21 x22 hi hrs JD hJ3 jc;have Ur : i = kds.length := by omega
          have B02 : (i : Int) = (kds.length : Int) := by omega
          rw [roundsIn_succ];rw [B02];have I4 : ¬ ((kds.length : Int) < (kds.length : Int)) := by omega
          gi_wp2
          go_ret
          rw [Ur, List.drop_length, Em] at hrs;simp only [Option.some.injEq] at hrs;subst hrs;refine .inl ⟨rfl, E3, ?_, jc⟩;rw [show k + (pre.length + ([] : List DV).length + 1) = k + 1 + pre.length by simp; omega]
          exact hJ3
        | succ r ihr =>
          intro i pre rs E3 w x6 x15 x16 x17 x18 x19 x20 x21 x22 hi hrs JD hJ3 jc;rw [roundsIn_succ];have I4 : ((i : Int) < (kds.length : Int)) := by omega
          have hil : i < kds.length := by omega
          obtain ⟨xa, rfl⟩ : ∃ xa, ka = some xa := by
           cases ka with
           | none => have := h7 rfl; omega
           | some xa => exact ⟨xa, rfl⟩
          obtain ⟨DY, Dn⟩ := h9 xa rfl;obtain ⟨xb, xo, xs⟩ := xa;have DY := DY (by omega)
          simp only at DY Dn;subst DY;obtain ⟨us, hu1, hu2, hu3⟩ := C_.1 Dn i _ (List.getElem?_eq_getElem hil);have hu4 := hu2.mono jc.sh
          match us, hu1 with
          | [u0, u1, u2, u3, u4, u5, u6], _ =>
          have cc : ∀ (j : Nat) (u : Value), [u0, u1, u2, u3, u4, u5, u6][j]? = some u → w.cell? ⟨xb, xo + i * 7 + j, none⟩ = some u := fun j u hj => by rw [Jq]; exact (hu4 j u hj).1
          have c0 : w.cell? ⟨xb, xo + i * 7, none⟩ = some u0 := cc 0 u0 rfl;have c1 := cc 1 u1 rfl;have c2 := cc 2 u2 rfl;have c3 := cc 3 u3 rfl;have c4 := cc 4 u4 rfl;have c5 := cc 5 u5 rfl;have c6 := cc 6 u6 rfl;have ou : ∀ (j : Nat) (u : Value), [u0, u1, u2, u3, u4, u5, u6][j]? = some u → u.oneCell' = true := fun j u hj => (MH hu3 hj).elim fun h1 h2 => Gf h1 h2
          have e0 : u0.oneCell' = true := ou 0 u0 rfl;have e1 : u1.oneCell' = true := ou 1 u1 rfl;have e2 : u2.oneCell' = true := ou 2 u2 rfl;have e3 : u3.oneCell' = true := ou 3 u3 rfl;have e4 : u4.oneCell' = true := ou 4 u4 rfl;have e5 : u5.oneCell' = true := ou 5 u5 rfl;have e6 : u6.oneCell' = true := ou 6 u6 rfl;obtain ⟨w1, s0, b0, r0, z0, o0⟩ := X9 (P := Tryz.prog) (j := 0) (World.alloc_heap_new w (.cells #[.int .i64 0, .int .i64 0, .int .i64 0, .string ⟨#[]⟩, .int .i64 0, .string ⟨#[]⟩, .slice none 0 0] 64)) (by simp) e0
          obtain ⟨w2, s1, b1, r1, z1, o1⟩ := X9 (P := Tryz.prog) (j := 1) b0 (by simp) e1
          obtain ⟨w3, s2, b2, r2, z2, o2⟩ := X9 (P := Tryz.prog) (j := 2) b1 (by simp) e2
          obtain ⟨w4, s3, b3, r3, z3, o3⟩ := X9 (P := Tryz.prog) (j := 3) b2 (by simp) e3
          obtain ⟨w5, s4, b4, r4, z4, o4⟩ := X9 (P := Tryz.prog) (j := 4) b3 (by simp) e4
          obtain ⟨w6, s5, b5, r5, z5, o5⟩ := X9 (P := Tryz.prog) (j := 5) b4 (by simp) e5
          obtain ⟨w7, s6, b6, r6, z6, o6⟩ := X9 (P := Tryz.prog) (j := 6) b5 (by simp) e6
          simp only [List.setIfInBounds_toArray, List.set_cons_zero, List.set_cons_succ] at b0 b1 b2 b3 b4 b5 b6;have dd : ∀ (j : Nat) (u : Value), [u0, u1, u2, u3, u4, u5, u6][j]? = some u → w7.cell? ⟨w.heap.size, j, none⟩ = some u := fun j u hj => by rw [Jq]; simp only [hc, b6]; simpa using hj
          have d0 := dd 0 u0 rfl;have d1 := dd 1 u1 rfl;have d2 := dd 2 u2 rfl;have d3 := dd 3 u3 rfl;have d4 := dd 4 u4 rfl;have d5 := dd 5 u5 rfl;have d6 := dd 6 u6 rfl;have low : ∀ b, b < w.heap.size → w7.heap[b]? = w.heap[b]? := fun b hb => by
           rw [r6 b (by omega), r5 b (by omega), r4 b (by omega), r3 b (by omega), r2 b (by omega), r1 b (by omega), r0 b (by omega)]
           exact Below.heap_alloc _ _ _ hb
          have hz : w.heap.size ≤ w7.heap.size := by rw [z6, z5, z4, z3, z2, z1, z0]; simp
          have Nh : P9 w w7 := P9.trans (b := w1) (P9.trans (b := w.alloc (.cells #[.int .i64 0, .int .i64 0, .int .i64 0, .string ⟨#[]⟩, .int .i64 0, .string ⟨#[]⟩, .slice none 0 0] 64)) ⟨rfl, rfl, rfl⟩ o0) ((((((o1).trans o2).trans o3).trans o4).trans o5).trans o6);have jf := hf _ _ _ hJ3;have K7 : Mc E3 w E3 w7 := Mc.same hz low jf;have hJ7 := hI _ _ _ _ hJ3 (NE.same hz low Nh);rw [List.drop_eq_getElem_cons hil, Em] at hrs;obtain ⟨sa, hsa, hrs⟩ := A9 hrs;obtain ⟨sb, hsb, hrs⟩ := A9 hrs;simp only [Option.some.injEq] at hrs;subst hrs;have B0X : Fence.wide.fn 160 := trivial;have A1I : CallsIn Fence.wide (n - 1) Tryz.prog 160 _ w7 _ := callsIn_wide.2 (callsIn_wide.1 (ih _ sa hsa (k + 1 + pre.length) E3 w7 (.agg #[u0, u1, u2, u3, u4, u5, u6]) hJ7 (RV.mono (jc.trans K7).sh _ (flat_agg hsa hu3)) (A7g DD JD) (by have := jc.size; omega)))
          clear ih
          gi_wp2_with ((try refine ⟨JA _, ?_⟩); gi_at_call 160; refine A1I.mono ?_; clear A1I; rintro e wz (⟨rfl, E4, hJ4, hK4⟩ | ⟨rfl, hx⟩))
          ·rw [show wrap64 ((i : Int) + 1) = ((i + 1 : Nat) : Int) by unfold lim at A0o; rw [wrap64]; omega]
           exact ihr (i + 1) (pre ++ sa) sb E4 wz _ _ _ _ _ _ _ _ _ (by omega) hsb (by rw [JD, List.append_assoc]) (by rw [List.length_append, ← Nat.add_assoc]; exact hJ4) ((jc.trans K7).trans hK4)
          ·go_ret
           exact .inr ⟨rfl, hx⟩
       ·go_ret
        exact .inr ⟨rfl, hx2⟩
     | _ => rw [hk] at BI; simp at BI
   | _ => simp [X4] at BI
set_option maxHeartbeats 1000000 in
theorem B2v : A0K Tryz.prog 159 (JO 7 6) := by
 intro cs ds uq n l b c T0 J Jx E W hb ho hR hf hI hY h0;obtain ⟨m, hm⟩ := Yb uq;have Z0 : cs.length = 7 := by
  cases m with
  | zero => simp [X4] at hm
  | succ m =>
    rw [X4] at hm;obtain ⟨h1, -⟩ := F6 hm;simpa using h1
 have hlc := (D_.1 hR).1;obtain ⟨l', rfl⟩ : ∃ l' : List Value, c = l'.toArray := ⟨c.toList, by simp⟩
 simp only at hR hlc
 match l', hlc.symm.trans Z0 with
 | [v0, v1, v2, v3, v4, v5, v6], _ =>
 have cc : ∀ (j : Nat) (u : Value), [v0, v1, v2, v3, v4, v5, v6][j]? = some u → W.cell? ⟨b, j, none⟩ = some u := fun j u hj => by rw [Jq]; simp only [hc, hb]; simpa using hj
 have c0 := cc 0 v0 rfl;have c1 := cc 1 v1 rfl;have c2 := cc 2 v2 rfl;have c3 := cc 3 v3 rfl;have c4 := cc 4 v4 rfl;have c5 := cc 5 v5 rfl;have c6 := cc 6 v6 rfl;have hgo : CallsIn Fence.wide (n - 1) Tryz.prog 160 _ W _ := callsIn_wide.2 (callsIn_wide.1 (B2t l W.heap.size ds J Jx n hf hI hY m (.agg cs) ds hm 0 E W (.agg #[v0, v1, v2, v3, v4, v5, v6]) h0 (by simp only [RV]; exact ⟨_, rfl, hR⟩) (fun j x h => by rw [Nat.zero_add]; exact h) (Nat.le_refl _)))
 have B0X : Fence.wide.fn 160 := trivial;have JA : ∀ k : Nat, (Fence.wide.depth.isSome = true → 1 ≤ k) := fun k h => by cases h
 refine callsIn_of_wp Tryz.func159 rfl trivial ?_;simp only [Tryz.ntmps159, List.size_toArray, List.length_cons, List.length_nil, Nat.reduceAdd, Nat.reduceSub, Array.replicate_succ, Array.replicate_zero, List.push_toArray, List.append_toArray, List.nil_append, List.cons_append]
 gi_wp2_with ((try refine ⟨JA _, ?_⟩); gi_at_call 160; refine hgo.mono ?_; clear hgo; rintro e w2 (⟨rfl, E4, hJ4, -⟩ | ⟨rfl, hx⟩))
 ·go_end0
  exact ⟨⟨_, rfl⟩, .inl ⟨E4, by simpa using hJ4⟩⟩
 ·go_end0
  exact ⟨⟨_, rfl⟩, .inr hx⟩
set_option maxHeartbeats 1000000 in
theorem B4c : A7B Tryz.prog 96 124 16 := by
 intro w vs hs;obtain ⟨l⟩ := vs
 match l, hs with
 | [v0, v1, v2, v3, v4, v5, v6, v7, v8, v9, v10, v11, v12, v13, v14, v15], _ =>
 refine (callsIn_wide (n := 1)).1 (callsIn_of_wp Tryz.func96 rfl trivial ?_);simp only [Tryz.ntmps96, List.size_toArray, List.length_cons, List.length_nil, Nat.reduceAdd, Nat.reduceSub, Array.replicate_succ, Array.replicate_zero, List.push_toArray, List.append_toArray, List.nil_append, List.cons_append]
 gi_wp2
 go_ret
 exact ⟨rfl, _, rfl⟩
set_option maxRecDepth 10000 in
set_option maxHeartbeats 4000000 in
theorem B3L (l n0 : Nat) (ds : List DV) (J : Nat → Env → World → Prop) (Jx : World → Prop) (n : Nat)
 (hf : ∀ k E' W', J k E' W' → ∀ b o, W'.heap.size ≤ b → E'.O b o = .other)
 (hI : ∀ k E' W1 W2, J k E' W1 → NE n0 E' W1 W2 → J k E' W2)
 (hY : ∀ k E' W1 d v, J k E' W1 → ds[k]? = some d → RV E'.S W1.heap d v → YieldAt Fence.wide n Tryz.prog l #[v] W1 fun e W2 =>
   (e = .returned (.bool true) ∧ ∃ E2, J (k + 1) E2 W2 ∧ Pr J6 E' W1.heap E2 W2.heap) ∨ (e = .returned (.bool false) ∧ Jx W2)) :
 ∀ (m : Nat) (d : DV) (sub : List DV), X4 16 15 m d = some sub → ∀ (k : Nat) (E : Env) (W : World) (v : Value), J k E W → RV E.S W.heap d v → (∀ j x, sub[j]? = some x → ds[k + j]? = some x) → n0 ≤ W.heap.size →
   CallsIn Fence.wide n Tryz.prog 125 #[v, .func (.yield l) #[] #[]] W fun e W' => (e = .returned (.bool true) ∧ ∃ E', J (k + sub.length) E' W' ∧ Mc E W E' W') ∨ (e = .returned (.bool false) ∧ Jx W') := by
 intro m
 induction m with
 | zero => intro d sub h; simp [X4] at h
 | succ m ih =>
   intro d sub BI k E W v hJ hv DD hn0;cases d with
   | agg cs =>
     rw [X4] at BI;obtain ⟨h1, BI⟩ := F6 BI;cases hk : cs.getD 15 .undef with
     | list s kds =>
       rw [hk] at BI;simp only at BI;obtain ⟨h2, BI⟩ := F6 BI;obtain ⟨ks, h3, BI⟩ := A9 BI;simp only [Option.some.injEq] at BI;subst BI;simp only [beq_iff_eq, Bool.and_eq_true, decide_eq_true_eq] at h1 h2;obtain ⟨h2, A0o⟩ := h2;subst h2;have ji := hv;simp only [RV] at ji;obtain ⟨vs, rfl, Mx⟩ := ji;obtain ⟨hl, Mx⟩ := D_.1 Mx;obtain ⟨l', rfl⟩ : ∃ l' : List Value, vs = l'.toArray := ⟨vs.toList, by simp⟩
       simp only at hl Mx
       match l', hl.symm.trans h1 with
       | [v0, v1, v2, v3, v4, v5, v6, v7, v8, v9, v10, v11, v12, v13, v14, v15], _ =>
       have hk5 : cs[15]? = some (.list 16 kds) := by
        have : 15 < cs.length := by omega
        rw [List.getD_eq_getElem?_getD, List.getElem?_eq_getElem this] at hk;rw [List.getElem?_eq_getElem this];exact congrArg some hk
       have hkc := (Mx 15 _ v15 hk5 rfl).2;simp only [RC] at hkc;obtain ⟨ka, len, cap, h4, h5, h6, h7, h8, h9⟩ := hkc;simp only [List.cons.injEq, and_true] at h4;subst h4 h5;have JA : ∀ k : Nat, (Fence.wide.depth.isSome = true → 1 ≤ k) := fun k h => by cases h
       have ho : ∀ o, E.O W.heap.size o = .other := fun o => hf k E W hJ _ o (Nat.le_refl _)
       have key : ∀ T, ∃ fy ty ay by_, (Instr.yield l #[.agg #[v0, v1, v2, v3, v4, v5, v6, v7, v8, v9, v10, v11, v12, v13, v14, .slice ka kds.length cap]]).run Tryz.prog (W.alloc (.cells #[v0, v1, v2, v3, v4, v5, v6, v7, v8, v9, v10, v11, v12, v13, v14, .slice ka kds.length cap] T)) = .ok (.round l fy ty ay by_) (W.alloc (.cells #[v0, v1, v2, v3, v4, v5, v6, v7, v8, v9, v10, v11, v12, v13, v14, .slice ka kds.length cap] T)) ∧
        RoundIn Fence.wide (n - 1) Tryz.prog l fy ty ay by_ (W.alloc (.cells #[v0, v1, v2, v3, v4, v5, v6, v7, v8, v9, v10, v11, v12, v13, v14, .slice ka kds.length cap] T)) fun e W2 =>
         (e = .returned (.bool true) ∧ ∃ E2, J (k + 1) E2 W2 ∧ Mc E W E2 W2 ∧ (W2.heap[W.heap.size]? = some (.cells #[v0, v1, v2, v3, v4, v5, v6, v7, v8, v9, v10, v11, v12, v13, v14, .slice ka kds.length cap] T (0, 0)) ∧ (∀ o, E2.O W.heap.size o = .other)) ∧ W2.cell? ⟨W.heap.size, 15, none⟩ = some (.slice ka kds.length cap)) ∨ (e = .returned (.bool false) ∧ Jx W2) := by
        intro T;have hJ1 : J k E (W.alloc (.cells #[v0, v1, v2, v3, v4, v5, v6, v7, v8, v9, v10, v11, v12, v13, v14, .slice ka kds.length cap] T)) := hI _ _ _ _ hJ (NE.alloc _);have K1 := Mc.alloc (E := E) (W := W) (.cells #[v0, v1, v2, v3, v4, v5, v6, v7, v8, v9, v10, v11, v12, v13, v14, .slice ka kds.length cap] T) (hf k E W hJ);obtain ⟨fy, ty, ay, by_, hy, hR⟩ := hY k E _ (.agg cs) _ hJ1 (DD 0 _ rfl) (RV.mono K1.sh _ hv);refine ⟨fy, ty, ay, by_, hy, RoundIn.B3k rfl (RoundIn.mono hR ?_)⟩;rintro e W2 (⟨rfl, E2, hJ2, hP2⟩ | ⟨rfl, hx⟩)
        ·have K2 := Mc.B1W hP2 (hf _ _ _ hJ1)
         have hb := K2.blk W.heap.size (by simp) ho
         rw [World.alloc_heap_new] at hb;refine .inl ⟨rfl, E2, hJ2, K1.trans K2, hb, ?_⟩;simp [World.cell?, hb.1]
        ·exact .inr ⟨rfl, hx⟩
       obtain ⟨fy, ty, ay, by_, hy, hR⟩ := key 30;refine callsIn_of_wp Tryz.func125 rfl trivial ?_;simp only [Tryz.ntmps125, List.size_toArray, List.length_cons, List.length_nil, Nat.reduceAdd, Nat.reduceSub, Array.replicate_succ, Array.replicate_zero, List.push_toArray, List.append_toArray, List.nil_append, List.cons_append]
       gi_wp2_with ((try refine ⟨JA _, ?_⟩); refine hR.mono ?_; clear hR; rintro e W2 (⟨rfl, E2, hJ2, hK2, UK, hc2⟩ | ⟨rfl, hx2⟩))
       ·-- the kids, one by one
        refine wpIn_loop_rounds (kds.length + 1) ?_;refine (?loop : ∀ (r i : Nat) (pre rs : List DV) (E3 : Env) (w : World) (x6 x15 x16 x17 x18 x19 x20 x21 x22 : Value), i + r = kds.length → Em (X4 16 15 m) (kds.drop i) = some rs → ks = pre ++ rs → J (k + 1 + pre.length) E3 w → Mc E W E3 w →
         Code.roundsIn Fence.wide n Tryz.prog _ _ (r + 1) { tmps := #[.agg #[v0, v1, v2, v3, v4, v5, v6, v7, v8, v9, v10, v11, v12, v13, v14, .slice ka kds.length cap], .func (.yield l) #[] #[], .pointer (some { block := W.heap.size, off := 0 }), undef, .bool false, undef, x6,
          .func (.yield l) #[] #[], .agg #[v0, v1, v2, v3, v4, v5, v6, v7, v8, v9, v10, v11, v12, v13, v14, .slice ka kds.length cap], .bool true, .bool false, .pointer (some { block := W.heap.size, off := 15 }), .slice ka kds.length cap, .int .i64 (kds.length : Int), .int .i64 (i : Int), x15, x16, x17, x18, x19, x20, x21, x22], defers := [] } w)
         kds.length 0 [] ks E2 W2 undef undef undef undef undef undef undef undef undef (by simp) h3 rfl hJ2 hK2
        clear hJ2 hK2 UK hc2 hy key hJ;intro r
        induction r with
        | zero =>
          intro i pre rs E3 w x6 x15 x16 x17 x18 x19 x20 x21 x22 hi hrs JD hJ3 jc;have Ur : i = kds.length := by omega
          have B02 : (i : Int) = (kds.length : Int) := by omega
          rw [roundsIn_succ];rw [B02];have I4 : ¬ ((kds.length : Int) < (kds.length : Int)) := by omega
          gi_wp2
          go_ret
          rw [Ur, List.drop_length, Em] at hrs;simp only [Option.some.injEq] at hrs;subst hrs;refine .inl ⟨rfl, E3, ?_, jc⟩;rw [show k + (pre.length + ([] : List DV).length + 1) = k + 1 + pre.length by simp; omega]
          exact hJ3
        | succ r ihr =>
          intro i pre rs E3 w x6 x15 x16 x17 x18 x19 x20 x21 x22 hi hrs JD hJ3 jc;rw [roundsIn_succ];have I4 : ((i : Int) < (kds.length : Int)) := by omega
          have hil : i < kds.length := by omega
          obtain ⟨xa, rfl⟩ : ∃ xa, ka = some xa := by
           cases ka with
           | none => have := h7 rfl; omega
           | some xa => exact ⟨xa, rfl⟩
          obtain ⟨DY, Dn⟩ := h9 xa rfl;obtain ⟨xb, xo, xs⟩ := xa;have DY := DY (by omega)
          simp only at DY Dn;subst DY;obtain ⟨us, hu1, hu2, hu3⟩ := C_.1 Dn i _ (List.getElem?_eq_getElem hil);have hu4 := hu2.mono jc.sh
          match us, hu1 with
          | [u0, u1, u2, u3, u4, u5, u6, u7, u8, u9, u10, u11, u12, u13, u14, u15], _ =>
          have cc : ∀ (j : Nat) (u : Value), [u0, u1, u2, u3, u4, u5, u6, u7, u8, u9, u10, u11, u12, u13, u14, u15][j]? = some u → w.cell? ⟨xb, xo + i * 16 + j, none⟩ = some u := fun j u hj => by rw [Jq]; exact (hu4 j u hj).1
          have c0 : w.cell? ⟨xb, xo + i * 16, none⟩ = some u0 := cc 0 u0 rfl;have c1 := cc 1 u1 rfl;have c2 := cc 2 u2 rfl;have c3 := cc 3 u3 rfl;have c4 := cc 4 u4 rfl;have c5 := cc 5 u5 rfl;have c6 := cc 6 u6 rfl;have c7 := cc 7 u7 rfl;have c8 := cc 8 u8 rfl;have c9 := cc 9 u9 rfl;have c10 := cc 10 u10 rfl;have c11 := cc 11 u11 rfl;have c12 := cc 12 u12 rfl;have c13 := cc 13 u13 rfl;have c14 := cc 14 u14 rfl;have c15 := cc 15 u15 rfl;have ou : ∀ (j : Nat) (u : Value), [u0, u1, u2, u3, u4, u5, u6, u7, u8, u9, u10, u11, u12, u13, u14, u15][j]? = some u → u.oneCell' = true := fun j u hj => (MH hu3 hj).elim fun h1 h2 => Gf h1 h2
          have e0 : u0.oneCell' = true := ou 0 u0 rfl;have e1 : u1.oneCell' = true := ou 1 u1 rfl;have e2 : u2.oneCell' = true := ou 2 u2 rfl;have e3 : u3.oneCell' = true := ou 3 u3 rfl;have e4 : u4.oneCell' = true := ou 4 u4 rfl;have e5 : u5.oneCell' = true := ou 5 u5 rfl;have e6 : u6.oneCell' = true := ou 6 u6 rfl;have e7 : u7.oneCell' = true := ou 7 u7 rfl;have e8 : u8.oneCell' = true := ou 8 u8 rfl;have e9 : u9.oneCell' = true := ou 9 u9 rfl;have e10 : u10.oneCell' = true := ou 10 u10 rfl;have e11 : u11.oneCell' = true := ou 11 u11 rfl;have e12 : u12.oneCell' = true := ou 12 u12 rfl;have e13 : u13.oneCell' = true := ou 13 u13 rfl;have e14 : u14.oneCell' = true := ou 14 u14 rfl;have e15 : u15.oneCell' = true := ou 15 u15 rfl;obtain ⟨w1, s0, b0, r0, z0, o0⟩ := X9 (P := Tryz.prog) (j := 0) (World.alloc_heap_new w (.cells #[.int .i64 0, .int .i64 0, .int .i64 0, .string ⟨#[]⟩, .string ⟨#[]⟩, .int .i64 0, .string ⟨#[]⟩, .int .i64 0, .int .i64 0, .int .i64 0, .slice none 0 0, .int .i64 0, .int .i64 0, .slice none 0 0, .slice none 0 0, .slice none 0 0] 30)) (by simp) e0
          obtain ⟨w2, s1, b1, r1, z1, o1⟩ := X9 (P := Tryz.prog) (j := 1) b0 (by simp) e1
          obtain ⟨w3, s2, b2, r2, z2, o2⟩ := X9 (P := Tryz.prog) (j := 2) b1 (by simp) e2
          obtain ⟨w4, s3, b3, r3, z3, o3⟩ := X9 (P := Tryz.prog) (j := 3) b2 (by simp) e3
          obtain ⟨w5, s4, b4, r4, z4, o4⟩ := X9 (P := Tryz.prog) (j := 4) b3 (by simp) e4
          obtain ⟨w6, s5, b5, r5, z5, o5⟩ := X9 (P := Tryz.prog) (j := 5) b4 (by simp) e5
          obtain ⟨w7, s6, b6, r6, z6, o6⟩ := X9 (P := Tryz.prog) (j := 6) b5 (by simp) e6
          obtain ⟨w8, s7, b7, r7, z7, o7⟩ := X9 (P := Tryz.prog) (j := 7) b6 (by simp) e7
          obtain ⟨w9, s8, b8, r8, z8, o8⟩ := X9 (P := Tryz.prog) (j := 8) b7 (by simp) e8
          obtain ⟨w10, s9, b9, r9, z9, o9⟩ := X9 (P := Tryz.prog) (j := 9) b8 (by simp) e9
          obtain ⟨w11, s10, b10, r10, z10, o10⟩ := X9 (P := Tryz.prog) (j := 10) b9 (by simp) e10
          obtain ⟨w12, s11, b11, r11, z11, o11⟩ := X9 (P := Tryz.prog) (j := 11) b10 (by simp) e11
          obtain ⟨w13, s12, b12, r12, z12, o12⟩ := X9 (P := Tryz.prog) (j := 12) b11 (by simp) e12
          obtain ⟨w14, s13, b13, r13, z13, o13⟩ := X9 (P := Tryz.prog) (j := 13) b12 (by simp) e13
          obtain ⟨w15, s14, b14, r14, z14, o14⟩ := X9 (P := Tryz.prog) (j := 14) b13 (by simp) e14
          obtain ⟨w16, s15, b15, r15, z15, o15⟩ := X9 (P := Tryz.prog) (j := 15) b14 (by simp) e15
          simp only [List.setIfInBounds_toArray, List.set_cons_zero, List.set_cons_succ] at b0 b1 b2 b3 b4 b5 b6 b7 b8 b9 b10 b11 b12 b13 b14 b15;have dd : ∀ (j : Nat) (u : Value), [u0, u1, u2, u3, u4, u5, u6, u7, u8, u9, u10, u11, u12, u13, u14, u15][j]? = some u → w16.cell? ⟨w.heap.size, j, none⟩ = some u := fun j u hj => by rw [Jq]; simp only [hc, b15]; simpa using hj
          have d0 := dd 0 u0 rfl;have d1 := dd 1 u1 rfl;have d2 := dd 2 u2 rfl;have d3 := dd 3 u3 rfl;have d4 := dd 4 u4 rfl;have d5 := dd 5 u5 rfl;have d6 := dd 6 u6 rfl;have d7 := dd 7 u7 rfl;have d8 := dd 8 u8 rfl;have d9 := dd 9 u9 rfl;have W9 := dd 10 u10 rfl;have AC := dd 11 u11 rfl;have Ap := dd 12 u12 rfl;have EL := dd 13 u13 rfl;have FP := dd 14 u14 rfl;have Gg := dd 15 u15 rfl;have low : ∀ b, b < w.heap.size → w16.heap[b]? = w.heap[b]? := fun b hb => by
           rw [r15 b (by omega), r14 b (by omega), r13 b (by omega), r12 b (by omega), r11 b (by omega), r10 b (by omega), r9 b (by omega), r8 b (by omega), r7 b (by omega), r6 b (by omega), r5 b (by omega), r4 b (by omega), r3 b (by omega), r2 b (by omega), r1 b (by omega), r0 b (by omega)]
           exact Below.heap_alloc _ _ _ hb
          have hz : w.heap.size ≤ w16.heap.size := by rw [z15, z14, z13, z12, z11, z10, z9, z8, z7, z6, z5, z4, z3, z2, z1, z0]; simp
          have Nh : P9 w w16 := P9.trans (b := w1) (P9.trans (b := w.alloc (.cells #[.int .i64 0, .int .i64 0, .int .i64 0, .string ⟨#[]⟩, .string ⟨#[]⟩, .int .i64 0, .string ⟨#[]⟩, .int .i64 0, .int .i64 0, .int .i64 0, .slice none 0 0, .int .i64 0, .int .i64 0, .slice none 0 0, .slice none 0 0, .slice none 0 0] 30)) ⟨rfl, rfl, rfl⟩ o0) (((((((((((((((o1).trans o2).trans o3).trans o4).trans o5).trans o6).trans o7).trans o8).trans o9).trans o10).trans o11).trans o12).trans o13).trans o14).trans o15);have jf := hf _ _ _ hJ3;have K7 : Mc E3 w E3 w16 := Mc.same hz low jf;have hJ7 := hI _ _ _ _ hJ3 (NE.same hz low Nh);rw [List.drop_eq_getElem_cons hil, Em] at hrs;obtain ⟨sa, hsa, hrs⟩ := A9 hrs;obtain ⟨sb, hsb, hrs⟩ := A9 hrs;simp only [Option.some.injEq] at hrs;subst hrs;have B0X : Fence.wide.fn 125 := trivial;have A1I : CallsIn Fence.wide (n - 1) Tryz.prog 125 _ w16 _ := callsIn_wide.2 (callsIn_wide.1 (ih _ sa hsa (k + 1 + pre.length) E3 w16 (.agg #[u0, u1, u2, u3, u4, u5, u6, u7, u8, u9, u10, u11, u12, u13, u14, u15]) hJ7 (RV.mono (jc.trans K7).sh _ (flat_agg hsa hu3)) (A7g DD JD) (by have := jc.size; omega)))
          clear ih
          gi_wp2_with ((try refine ⟨JA _, ?_⟩); gi_at_call 125; refine A1I.mono ?_; clear A1I; rintro e wz (⟨rfl, E4, hJ4, hK4⟩ | ⟨rfl, hx⟩))
          ·rw [show wrap64 ((i : Int) + 1) = ((i + 1 : Nat) : Int) by unfold lim at A0o; rw [wrap64]; omega]
           exact ihr (i + 1) (pre ++ sa) sb E4 wz _ _ _ _ _ _ _ _ _ (by omega) hsb (by rw [JD, List.append_assoc]) (by rw [List.length_append, ← Nat.add_assoc]; exact hJ4) ((jc.trans K7).trans hK4)
          ·go_ret
           exact .inr ⟨rfl, hx⟩
       ·go_ret
        exact .inr ⟨rfl, hx2⟩
     | _ => rw [hk] at BI; simp at BI
   | _ => simp [X4] at BI
set_option maxHeartbeats 1000000 in
theorem B31 : A0K Tryz.prog 124 (JO 16 15) := by
 intro cs ds uq n l b c T0 J Jx E W hb ho hR hf hI hY h0;obtain ⟨m, hm⟩ := Yb uq;have Z0 : cs.length = 16 := by
  cases m with
  | zero => simp [X4] at hm
  | succ m =>
    rw [X4] at hm;obtain ⟨h1, -⟩ := F6 hm;simpa using h1
 have hlc := (D_.1 hR).1;obtain ⟨l', rfl⟩ : ∃ l' : List Value, c = l'.toArray := ⟨c.toList, by simp⟩
 simp only at hR hlc
 match l', hlc.symm.trans Z0 with
 | [v0, v1, v2, v3, v4, v5, v6, v7, v8, v9, v10, v11, v12, v13, v14, v15], _ =>
 have cc : ∀ (j : Nat) (u : Value), [v0, v1, v2, v3, v4, v5, v6, v7, v8, v9, v10, v11, v12, v13, v14, v15][j]? = some u → W.cell? ⟨b, j, none⟩ = some u := fun j u hj => by rw [Jq]; simp only [hc, hb]; simpa using hj
 have c0 := cc 0 v0 rfl;have c1 := cc 1 v1 rfl;have c2 := cc 2 v2 rfl;have c3 := cc 3 v3 rfl;have c4 := cc 4 v4 rfl;have c5 := cc 5 v5 rfl;have c6 := cc 6 v6 rfl;have c7 := cc 7 v7 rfl;have c8 := cc 8 v8 rfl;have c9 := cc 9 v9 rfl;have c10 := cc 10 v10 rfl;have c11 := cc 11 v11 rfl;have c12 := cc 12 v12 rfl;have c13 := cc 13 v13 rfl;have c14 := cc 14 v14 rfl;have c15 := cc 15 v15 rfl;have hgo : CallsIn Fence.wide (n - 1) Tryz.prog 125 _ W _ := callsIn_wide.2 (callsIn_wide.1 (B3L l W.heap.size ds J Jx n hf hI hY m (.agg cs) ds hm 0 E W (.agg #[v0, v1, v2, v3, v4, v5, v6, v7, v8, v9, v10, v11, v12, v13, v14, v15]) h0 (by simp only [RV]; exact ⟨_, rfl, hR⟩) (fun j x h => by rw [Nat.zero_add]; exact h) (Nat.le_refl _)))
 have B0X : Fence.wide.fn 125 := trivial;have JA : ∀ k : Nat, (Fence.wide.depth.isSome = true → 1 ≤ k) := fun k h => by cases h
 refine callsIn_of_wp Tryz.func124 rfl trivial ?_;simp only [Tryz.ntmps124, List.size_toArray, List.length_cons, List.length_nil, Nat.reduceAdd, Nat.reduceSub, Array.replicate_succ, Array.replicate_zero, List.push_toArray, List.append_toArray, List.nil_append, List.cons_append]
 gi_wp2_with ((try refine ⟨JA _, ?_⟩); gi_at_call 125; refine hgo.mono ?_; clear hgo; rintro e w2 (⟨rfl, E4, hJ4, -⟩ | ⟨rfl, hx⟩))
 ·go_end0
  exact ⟨⟨_, rfl⟩, .inl ⟨E4, by simpa using hJ4⟩⟩
 ·go_end0
  exact ⟨⟨_, rfl⟩, .inr hx⟩
end Go.Su

/-
 The settings are right.
-/
namespace Go.Su
open Go.Proofs
theorem B1e : Tryz.prog.funcs.toList.all (fun fn => fn.name != "runtime.NumGoroutine") = true := by kernel_rfl
theorem A1O {β : Type} {l : List (FuncId × β)} {f : FuncId} {g : β} (h : l.lookup f = some g) : (f, g) ∈ l := by
 induction l with
 | nil => cases h
 | cons x l ih =>
   obtain ⟨a, b⟩ := x;simp only [List.lookup_cons] at h
   by_cases e : f == a
   ·rw [e] at h; simp only [Option.some.injEq] at h; rw [h]; rw [eq_of_beq e]; exact List.mem_cons_self ..
   ·simp only [e] at h; exact List.mem_cons_of_mem _ (ih h)
theorem B3o : A0J cfg where
 mixed := by kernel_rfl
 go f fn h := by
  have h1 : fn ∈ Tryz.prog.funcs.toList := by
   have : Tryz.prog.funcs[f]? = some fn := h;rw [← Array.getElem?_toList] at this;exact List.mem_of_getElem? this
  have := List.all_eq_true.1 B1e fn h1;simpa using this
 gT f g h := by cases h
 clone f h := by
  have : clL.contains f = true := h;cases this
 dh f g h := by
  have h1 : (f, g) ∈ mkL := A1O h;simp only [mkL, List.mem_cons, List.not_mem_nil, or_false, Prod.mk.injEq] at h1;rcases h1 with ⟨rfl, rfl⟩ | ⟨rfl, rfl⟩
  ·exact ⟨by kernel_rfl, B4c⟩
  ·exact ⟨by kernel_rfl, B2C⟩
 iter g it h := by
  have h1 : itF g = some it := h;unfold itF at h1
  split at h1
  ·rename_i e
   subst e;cases h1;exact ⟨by kernel_rfl, B31⟩
  split at h1
  ·rename_i e
   subst e;cases h1;exact ⟨by kernel_rfl, B2v⟩
  ·cases h1
 XR f p h fn c hf hb := by
  have h1 : (f, p) ∈ dcL := A1O h;simp only [dcL, List.mem_cons, List.not_mem_nil, or_false, Prod.mk.injEq] at h1;obtain ⟨rfl, rfl⟩ := h1
  ·have e1 : Tryz.prog.funcs[(101 : Nat)]? = some fn := hf
   rw [Tryz.func101] at e1;simp only [Option.some.injEq] at e1;subst e1;have e2 : Tryz.f101.body = some X7 := by kernel_rfl
   rw [e2] at hb;simp only [Option.some.injEq] at hb;subst hb;exact ⟨by kernel_rfl, by kernel_rfl⟩
 dfn f h := by
  have h0 : dfL.contains f = true := h;have h1 : f ∈ dfL := by simpa using h0
  simp only [dfL, List.mem_cons, List.not_mem_nil, or_false] at h1;subst h1
  ·refine ⟨by kernel_rfl, fun fn c hf hb => ?_⟩
   have e1 : Tryz.prog.funcs[(134 : Nat)]? = some fn := hf;rw [Tryz.func134] at e1;simp only [Option.some.injEq] at e1;subst e1;have e2 : c = Tryz.f134.body.getD .skip := by rw [hb]; rfl
   rw [e2];have e3 : O7 (Tryz.f134.body.getD .skip) = true := by kernel_rfl
   exact e3
end Go.Su

/-
 Equations of the program's functions: by program.
-/
namespace Go.Su
set_option maxRecDepth 100000
noncomputable section
open Go.Proofs
variable (R : N7) (i j k l m n : Nat) (a b c d e f g h o p q r t u v w x y z A B C D E F G H I J K L M N O P Q S T U V W X Y Z a1 a2 a3 a4 a5 a6 a7 a8 a9 ZU Uj a12 a13 a14 Xq a16 a17 a18 a19 a20 a21 a22 a23 a24 a25 a26 a27 a28 a29 a30 a31 a32 a33 a34 a35 a36 a37 a38 a39 a40 a41 a42 a43 a44 a45 a46 a47 a48 a49 a50 a51 a52 a53 a54 a55 a56 a57 a58 a59 : DV) (s : List D7)
def ZM := eP Tryz.f3 YE R [] (F5 Tryz.f3 [(a, .val), (b, .val)] [])
theorem Xu : ZM R a b =
 (og (D5 16 a) <| og (D5 3 b) <| ob (R.p Vu [(.list 16 [(L6 a)])]) fun d1 => I6 d1 (some (.bool true)) (ob (R.p Qu [(H8 b)]) fun d2 => I6 d2 (some (.bool true)) (ob (R.p MZ [(L6 a), (H8 b)]) fun d3 => ob (Q5 .not d3) fun d4 => D6 d4 (some (.bool true)) (ob (R.p Vs [(L6 a)]) fun d5 => ob (R.p SH [(H8 b)]) fun d6 => og (D5 16 d5) <| og (D5 3 d6) <| ob (R.p Lc [(L6 d5), (H8 d6)]) fun d7 => ob (N8 0 d7) fun d8 => ob (N8 1 d7) fun d9 => og (D5 3 d8) <| ob (R.p fH [(L6 a), (H8 b)]) fun W9 => ob (N8 0 W9) fun AC => ob (N8 1 W9) fun Ap => og (D5 3 AC) <| ob (A8 .eql d9 Ap) fun EL => I6 EL (ob (R.p MB [(H8 d8), (H8 AC)]) fun FP => I6 FP (ob (R.p SK [(L6 d5), (L6 a)]) fun Gg => I6 Gg (ob (R.p QU [(H8 d6), (H8 b)]) fun d16 => I6 d16 (ob (R.p fC []) fun d17 => some d17) (some (.bool false)) none) (some (.bool false)) none) (some (.bool false)) none) (some (.bool false)) none)) none) none) := D9 []
theorem Wn : (run cfg).p ZE [a, b] = ZM (run cfg) a b := O9 Tryz.func3
def fM := eP Tryz.f5 aD R [] (F5 Tryz.f5 [(a, .val)] [])
def Jc := hP Tryz.f5 aD R (pb 122) (ms 22 [(0, a), (3, b), (4, c)] [] [] [])
theorem rf : fM R a =
 (ob (R.p fA [a]) fun d1 => D6 d1 (some (.bool true)) (Jc R a (iI 0) (iI 0))) := D9 []
theorem TS : Jc R a b c =
 (ob (dLen a) fun d1 => ob (A8 .lss c d1) fun d2 => D6 d2 (ob (F3 16 a c) fun d3 => ob (R.p YN [(L6 d3)]) fun d4 => ob (A8 .add b d4) fun d5 => ob (A8 .add c (iI 1)) fun d6 => Jc R a d5 d6) (ob (A8 .gtr b (iI 90)) fun d7 => some d7)) := H5 []
theorem oN : (run cfg).p Vu [a] = fM (run cfg) a := O9 Tryz.func5
theorem iF (x0 : DV) {d : DV} (h : fM (run cfg) x0 = some d) : (run cfg).p Vu [x0] = some d := (oN x0).trans h
def ZL := eP Tryz.f6 YD R [] (F5 Tryz.f6 [(a, .val)] [])
theorem Xt : ZL R a =
 (og (D5 3 a) <| ob (R.p Vv [(H8 a), (iI 0)]) fun d1 => ob (A8 .gtr d1 (iI 1500)) fun d2 => some d2) := D9 []
theorem Wm : (run cfg).p Qu [a] = ZL (run cfg) a := O9 Tryz.func6
def Sw := eP Tryz.f7 aN R [] (F5 Tryz.f7 [(a, .val), (b, .val)] [])
theorem Zl : Sw R a b =
 (og (D5 16 a) <| og (D5 3 b) <| ob (R.p Pi [(L6 a)]) fun d1 => ob (Q5 .not d1) fun d2 => D6 d2 (some (.bool true)) (oc (R.r Y2 [(pt 0), ((L6 a), .val), ((H8 b), .val), ((.list 2 []), .val)] [D7.box [((.bool false), .val)]]) fun q3 s3 => ob (M4 s3 0) fun c4 => ob (X5 c4 0) fun d5 => ob (Q5 .not d5) fun d6 => some d6)) := D9 []
theorem YB : (run cfg).p MZ [a, b] = Sw (run cfg) a b := O9 Tryz.func7
theorem WW (x0 x1 : DV) {d : DV} (h : Sw (run cfg) x0 x1 = some d) : (run cfg).p MZ [x0, x1] = some d := (YB x0 x1).trans h
def xS := eP Tryz.f8 Tx R [] (F5 Tryz.f8 [(a, .val)] [])
def OG := hP Tryz.f8 Tx R (pb 122) (ms 54 [(4, a)] [] [(1, bx b 16), (2, some zb1), (3, some [(c, .val), (d, .val), (e, .val), (f, .val), (g, .val), (h, .val), (o, .val), (p, .val), (q, .val), (r, .val), (t, .val), (u, .val), (v, .val), (w, .val), (x, .own), ((.list 16 []), .own)])] [])
def OH := hP Tryz.f8 Tx R (pb 250) (ms 54 [(5, a)] [] [(1, bx b 16), (2, some zb1), (3, some [(c, .val), (d, .val), (e, .val), (f, .val), (g, .val), (h, .val), (o, .val), (p, .val), (q, .val), (r, .val), (t, .val), (u, .val), (v, .val), (w, .val), (x, .own), (y, .own)])] [])
theorem rR : xS R a =
 (og (D5 16 a) <| ob (R.p MC [(.agg [(A7 8 a), (A7 9 a), (A7 10 a)])]) fun d1 => ob (R.p MC [(.agg [(A7 11 a), (A7 12 a), (A7 13 a)])]) fun d2 => og (D5 3 d1) <| og (D5 3 d2) <| OG R (iI 0) a (A7 0 a) (A7 1 a) (A7 2 a) (A7 3 a) (A7 4 a) (A7 5 a) (A7 6 a) (A7 7 a) (A7 0 d1) (A7 1 d1) (A7 2 d1) (A7 0 d2) (A7 1 d2) (A7 2 d2) (.list 7 [])) := D9 []
theorem TG : OG R a b c d e f g h o p q r t u v w x =
 (ob (dLen (A7 14 b)) fun d1 => ob (A8 .lss a d1) fun d2 => D6 d2 (ob (F3 7 (A7 14 b) a) fun d3 => ob (R.p YJ [(GD d3)]) fun d4 => og (D5 7 d4) <| ob (R6 7 x (.list 7 [d4])) fun d5 => ob (A8 .add a (iI 1)) fun d6 => OG R d6 b c d e f g h o p q r t u v w d5) (OH R (iI 0) b c d e f g h o p q r t u v w x (.list 16 []))) := H5 []
theorem TH : OH R a b c d e f g h o p q r t u v w x y =
 (ob (dLen (A7 15 b)) fun d1 => ob (A8 .lss a d1) fun d2 => D6 d2 (ob (F3 16 (A7 15 b) a) fun d3 => ob (R.p Vs [(L6 d3)]) fun d4 => og (D5 16 d4) <| ob (R6 16 y (.list 16 [d4])) fun d5 => ob (A8 .add a (iI 1)) fun d6 => OH R d6 b c d e f g h o p q r t u v w x d5) (some (.agg [c, d, e, f, g, h, o, p, q, r, t, u, v, w, x, y]))) := H5 []
theorem oF : (run cfg).p Vs [a] = xS (run cfg) a := O9 Tryz.func8
def qX := eP Tryz.f9 Xc R [] (F5 Tryz.f9 [(a, .val)] [])
def Me := hP Tryz.f9 Xc R (pb 58) (ms 32 [(4, a)] [] [(1, bx b 3), (2, bv [(.list 3 []), c, (.list 3 [])]), (3, some [(d, .val), (e, .val), (f, .own)])] [])
theorem nO : qX R a =
 (og (D5 3 a) <| ob (R.p ZC [(A7 0 a)]) fun d1 => ob (R6 1 (.list 1 []) (A7 1 a)) fun d2 => og (J4 d1) <| Me R (iI 0) a (.list 1 []) d1 d2 (.list 3 [])) := D9 []
theorem Q_ : Me R a b c d e f =
 (ob (dLen (A7 2 b)) fun d1 => ob (A8 .lss a d1) fun d2 => D6 d2 (ob (F3 3 (A7 2 b) a) fun d3 => ob (R.p SH [(H8 d3)]) fun d4 => og (D5 3 d4) <| ob (R6 3 f (.list 3 [d4])) fun d5 => ob (A8 .add a (iI 1)) fun d6 => Me R d6 b c d e d5) (some (.agg [d, e, f]))) := H5 []
theorem jD : (run cfg).p SH [a] = qX (run cfg) a := O9 Tryz.func9
def mV := eP Tryz.f10 jT R [] (F5 Tryz.f10 [(a, .val), (b, .val)] [])
theorem iN : mV R a b =
 (og (D5 16 a) <| og (D5 3 b) <| ob (R.p Y_ [(L6 a), (H8 b), (.bool true)]) fun d1 => ob (N8 0 d1) fun d2 => ob (N8 1 d1) fun d3 => ob (N8 2 d1) fun d4 => ob (N8 3 d1) fun d5 => og (D5 20 d2) <| og (D5 3 d4) <| some (.H7 [(H8 d4), d5])) := D9 []
theorem dH : (run cfg).p Lc [a, b] = mV (run cfg) a b := O9 Tryz.func10
def yC := eP Tryz.f11 uY R [] (F5 Tryz.f11 [(a, .val), (b, .val)] [])
theorem sS : yC R a b =
 (og (D5 16 a) <| og (D5 3 b) <| ob (R.p Pi [(L6 a)]) fun d1 => ob (Q5 .not d1) fun d2 => I6 d2 (some (.H7 [(.agg [(iI 0), (iI 0), (.list 3 [])]), (iI 1)])) (ob (R.p Kr [(H8 b)]) fun d3 => ob (Q5 .not d3) fun d4 => D6 d4 (some (.H7 [(.agg [(iI 0), (iI 0), (.list 3 [])]), (iI 1)])) (oc (R.r SL [(pt 0), ((L6 a), .val), ((H8 b), .val), ((.list 5 []), .val), ((.list 1 []), .val)] [D7.box [((iI 0), .val), ((.bool false), .val)]]) fun q5 s5 => og (D5 4 q5) <| ob (M4 s5 0) fun c6 => ob (X5 c6 0) fun d7 => ob (A8 .neq d7 (iI 0)) fun d8 => D6 d8 (ob (M4 s5 0) fun c9 => ob (X5 c9 0) fun W9 => some (.H7 [(.agg [(iI 0), (iI 0), (.list 3 [])]), W9])) (some (.H7 [(.agg [(A7 0 q5), (A7 1 q5), (A7 2 q5)]), (iI 0)])))) none) := D9 []
theorem o_ : (run cfg).p fH [a, b] = yC (run cfg) a b := O9 Tryz.func11
def xV := eP Tryz.f12 Zy R [] (F5 Tryz.f12 [(a, .val), (b, .val)] [])
def OJ := hP Tryz.f12 Zy R (pb 58) (ms 46 [(5, a)] [] [(2, bx b 3), (3, bx c 3)] [])
theorem rU : xV R a b =
 (og (D5 3 a) <| og (D5 3 b) <| ob (A8 .neq (A7 0 a) (A7 0 b)) fun d1 => I6 d1 (some (.bool false)) (ob (A8 .neq (A7 1 a) (A7 1 b)) fun d2 => I6 d2 (some (.bool false)) (ob (dLen (A7 2 a)) fun d3 => ob (dLen (A7 2 b)) fun d4 => ob (A8 .neq d3 d4) fun d5 => D6 d5 (some (.bool false)) (OJ R (iI 0) a b)) none) none) := D9 []
theorem TJ : OJ R a b c =
 (ob (dLen (A7 2 b)) fun d1 => ob (A8 .lss a d1) fun d2 => D6 d2 (ob (F3 3 (A7 2 b) a) fun d3 => ob (F3 3 (A7 2 c) a) fun d4 => ob (R.p MB [(H8 d3), (H8 d4)]) fun d5 => ob (Q5 .not d5) fun d6 => D6 d6 (some (.bool false)) (ob (A8 .add a (iI 1)) fun d7 => OJ R d7 b c)) (some (.bool true))) := H5 []
theorem oH : (run cfg).p MB [a, b] = xV (run cfg) a b := O9 Tryz.func12
def qZ := eP Tryz.f13 Qp R [] (F5 Tryz.f13 [(a, .val), (b, .val)] [])
def Mg := hP Tryz.f13 Qp R (pb 58) (ms 56 [(5, a)] [] [(2, bx b 16), (3, bx c 16)] [])
def Mh := hP Tryz.f13 Qp R (pb 122) (ms 56 [(6, a)] [] [(2, bx b 16), (3, bx c 16)] [])
theorem nQ : qZ R a b =
 (og (D5 16 a) <| og (D5 16 b) <| ob (R.p YM [(L6 a), (L6 b)]) fun d1 => ob (Q5 .not d1) fun d2 => I6 d2 (some (.bool false)) (ob (rH [.int, .int] (.agg [(A7 1 a), (A7 2 a)]) (.agg [(A7 1 b), (A7 2 b)])) fun b3 => D6 (.bool !b3) (some (.bool false)) (Mg R (iI 0) a b)) none) := D9 []
theorem RB : Mg R a b c =
 (ob (dLen (A7 14 b)) fun d1 => ob (A8 .lss a d1) fun d2 => D6 d2 (ob (F3 7 (A7 14 b) a) fun d3 => ob (F3 7 (A7 14 c) a) fun d4 => ob (R.p Vy [(GD d3), (GD d4)]) fun d5 => ob (Q5 .not d5) fun d6 => D6 d6 (some (.bool false)) (ob (A8 .add a (iI 1)) fun d7 => Mg R d7 b c)) (Mh R (iI 0) b c)) := H5 []
theorem RD : Mh R a b c =
 (ob (dLen (A7 15 b)) fun d1 => ob (A8 .lss a d1) fun d2 => D6 d2 (ob (F3 16 (A7 15 b) a) fun d3 => ob (F3 16 (A7 15 c) a) fun d4 => ob (R.p SK [(L6 d3), (L6 d4)]) fun d5 => ob (Q5 .not d5) fun d6 => D6 d6 (some (.bool false)) (ob (A8 .add a (iI 1)) fun d7 => Mh R d7 b c)) (some (.bool true))) := H5 []
theorem jH : (run cfg).p SK [a, b] = qZ (run cfg) a b := O9 Tryz.func13
def mX := eP Tryz.f14 Va R [] (F5 Tryz.f14 [(a, .val), (b, .val)] [])
def Kv := hP Tryz.f14 Va R (pb 58) (ms 48 [(5, a)] [] [(2, bx b 3), (3, bx c 3)] [])
theorem iP : mX R a b =
 (og (D5 3 a) <| og (D5 3 b) <| ob (R.p Uw [(A7 0 a), (A7 0 b)]) fun d1 => ob (Q5 .not d1) fun d2 => I6 d2 (some (.bool false)) (ob (R.p ed [(A7 1 a), (A7 1 b)]) fun d3 => ob (Q5 .not d3) fun d4 => I6 d4 (some (.bool false)) (ob (dLen (A7 2 a)) fun d5 => ob (dLen (A7 2 b)) fun d6 => ob (A8 .neq d5 d6) fun d7 => D6 d7 (some (.bool false)) (Kv R (iI 0) a b)) none) none) := D9 []
theorem PR : Kv R a b c =
 (ob (dLen (A7 2 b)) fun d1 => ob (A8 .lss a d1) fun d2 => D6 d2 (ob (F3 3 (A7 2 b) a) fun d3 => ob (F3 3 (A7 2 c) a) fun d4 => ob (R.p QU [(H8 d3), (H8 d4)]) fun d5 => ob (Q5 .not d5) fun d6 => D6 d6 (some (.bool false)) (ob (A8 .add a (iI 1)) fun d7 => Kv R d7 b c)) (some (.bool true))) := H5 []
theorem dJ : (run cfg).p QU [a, b] = mX (run cfg) a b := O9 Tryz.func14
def xf := eP Tryz.f15 aF R [] (F5 Tryz.f15 [] [])
def mY := eP Tryz.f15 aF R (pb 63) (ms 74 [(4, a), (6, b)] [] [(3, bx c 3)] [])
theorem A4T : xf R =
 (ob (R.p AV [(iI 1)]) fun d1 => og (D5 3 d1) <| ob (R.p Lc [(.agg [(iI 9), (iI 0), (iI 0), (.str ⟨#[120]⟩), (.str ⟨#[]⟩), (iI 0), (.str ⟨#[]⟩), (iI 0), (iI 0), (iI 0), (.list 3 []), (iI 0), (iI 0), (.list 3 []), (.list 7 []), (.list 16 [(.agg [(iI 1), (iI 0), (iI 0), (.str ⟨#[120]⟩), (.str ⟨#[]⟩), (iI 0), (.str ⟨#[]⟩), (iI 0), (iI 0), (iI 0), (.list 3 []), (iI 0), (iI 0), (.list 3 []), (.list 7 []), (.list 16 [])])])]), (.agg [(.list 3 [d1]), (.list 1 []), (.list 3 [(.agg [(.list 3 []), (.list 1 []), (.list 3 [])])])])]) fun d2 => ob (N8 0 d2) fun d3 => ob (N8 1 d2) fun d4 => og (D5 3 d3) <| ob (R.p AV [(iI 5)]) fun d5 => og (D5 3 d5) <| ob (R.p Lc [(.agg [(iI 9), (iI 0), (iI 0), (.str ⟨#[120]⟩), (.str ⟨#[]⟩), (iI 0), (.str ⟨#[]⟩), (iI 0), (iI 0), (iI 0), (.list 3 []), (iI 0), (iI 0), (.list 3 []), (.list 7 []), (.list 16 [(.agg [(iI 1), (iI 0), (iI 0), (.str ⟨#[120]⟩), (.str ⟨#[]⟩), (iI 0), (.str ⟨#[]⟩), (iI 0), (iI 0), (iI 0), (.list 3 []), (iI 0), (iI 0), (.list 3 []), (.list 7 []), (.list 16 [])])])]), (.agg [(.list 3 [d5]), (.list 1 []), (.list 3 [(.agg [(.list 3 []), (.list 1 []), (.list 3 [])])])])]) fun d6 =>
 ob (N8 0 d6) fun d7 => ob (N8 1 d6) fun d8 => og (D5 3 d7) <| mY R d4 d8 d3) := D9 [5]
theorem A2s : mY R a b c =
 (ob (R.p AV [(iI 3)]) fun d1 => og (D5 3 d1) <| ob (R.p xN [(.agg [(.list 3 [(.agg [(iI 6), (iI 2), (.list 3 [])])]), (.list 1 []), (.list 3 [])]), (.list 4 [(.agg [(iI 2), (A7 0 d1), (A7 1 d1), (A7 2 d1)])])]) fun d2 => ob (N8 0 d2) fun d3 => ob (N8 1 d2) fun d4 => og (D5 3 d3) <| ob (A8 .eql a (iI 0)) fun d5 => I6 d5 (ob (R.p AV [(iI 1)]) fun d6 => ob (R.p AV [(iI 1)]) fun d7 => ob (R.p IA [(iI 9), d6, d7]) fun d8 => ob (R.p MB [(H8 c), d8]) fun d9 => I6 d9 (ob (A8 .eql b (iI 9)) fun W9 => I6 W9 (ob (A8 .eql d4 (iI 0)) fun AC => I6 AC (ob (dLen (A7 0 d3)) fun Ap => ob (A8 .eql Ap (iI 1)) fun EL => I6 EL (ob (F3 3 (A7 0 d3) (iI 0)) fun FP => ob (A8 .eql (A7 0 FP) (iI 3)) fun Gg => some Gg) (some (.bool false)) none) (some (.bool false)) none) (some (.bool false)) none) (some (.bool false)) none) (some (.bool false)) none) := D9 [5]
theorem A3U : (run cfg).p fC [] = xf (run cfg) := O9 Tryz.func15
def xx := eP Tryz.f17 UC R [] (F5 Tryz.f17 [(a, .val)] [])
def Jg := hP Tryz.f17 UC R (pb 58) (ms 36 [(3, a)] [] [(1, bx b 16)] [])
def OQ := hP Tryz.f17 UC R (pb 122) (ms 36 [(4, a)] [] [(1, bx b 16)] [])
theorem sI : xx R a =
 (og (D5 16 a) <| ob (R.p qO [(L6 a)]) fun d1 => ob (Q5 .not d1) fun d2 => D6 d2 (some (.bool false)) (Jg R (iI 0) a)) := D9 []
theorem TV : Jg R a b =
 (ob (dLen (A7 14 b)) fun d1 => ob (A8 .lss a d1) fun d2 => D6 d2 (ob (F3 7 (A7 14 b) a) fun d3 => ob (R.p Ux [(GD d3)]) fun d4 => ob (Q5 .not d4) fun d5 => D6 d5 (some (.bool false)) (ob (A8 .add a (iI 1)) fun d6 => Jg R d6 b)) (OQ R (iI 0) b)) := H5 []
theorem TW : OQ R a b =
 (ob (dLen (A7 15 b)) fun d1 => ob (A8 .lss a d1) fun d2 => D6 d2 (ob (F3 16 (A7 15 b) a) fun d3 => ob (R.p Pi [(L6 d3)]) fun d4 => ob (Q5 .not d4) fun d5 => D6 d5 (some (.bool false)) (ob (A8 .add a (iI 1)) fun d6 => OQ R d6 b)) (some (.bool true))) := H5 []
theorem oh : (run cfg).p Pi [a] = xx (run cfg) a := O9 Tryz.func17
end
end Go.Su

/-
 Equations of the program's functions: by program.
-/
namespace Go.Su
set_option maxRecDepth 100000
noncomputable section
open Go.Proofs
variable (R : N7) (i j k l m n : Nat) (a b c d e f g h o p q r t u v w x y z A B C D E F G H I J K L M N O P Q S T U V W X Y Z a1 a2 a3 a4 a5 a6 a7 a8 a9 ZU Uj a12 a13 a14 Xq a16 a17 a18 a19 a20 a21 a22 a23 a24 a25 a26 a27 a28 a29 a30 a31 a32 a33 a34 a35 a36 a37 a38 a39 a40 a41 a42 a43 a44 a45 a46 a47 a48 a49 a50 a51 a52 a53 a54 a55 a56 a57 a58 a59 : DV) (s : List D7)
def xZ := eP Tryz.f23 aB R [] (F5 Tryz.f23 [(a, .val)] [])
def OM := hP Tryz.f23 aB R (pb 58) (ms 19 [(0, a), (3, b), (4, c)] [] [] [])
theorem rY : xZ R a =
 (OM R a (iI 0) (iI 0)) := D9 []
theorem TN : OM R a b c =
 (ob (dLen a) fun d1 => ob (A8 .lss c d1) fun d2 => D6 d2 (ob (F3 16 a c) fun d3 => ob (R.p ME [(L6 d3), b]) fun d4 => ob (A8 .add c (iI 1)) fun d5 => OM R a d4 d5) (ob (A8 .gtr b (iI 400)) fun d6 => some d6)) := H5 []
theorem oL : (run cfg).p fA [a] = xZ (run cfg) a := O9 Tryz.func23
def A0X := eP Tryz.f24 gD R [] (F5 Tryz.f24 [(a, .val)] [])
def Qd := hP Tryz.f24 gD R (pb 58) (ms 21 [(3, a), (4, b)] [] [(1, bx c 16)] [])
theorem ym : A0X R a =
 (og (D5 16 a) <| Qd R (iI 1) (iI 0) a) := D9 []
theorem VM : Qd R a b c =
 (ob (dLen (A7 15 c)) fun d1 => ob (A8 .lss b d1) fun d2 => D6 d2 (ob (F3 16 (A7 15 c) b) fun d3 => ob (R.p YN [(L6 d3)]) fun d4 => ob (A8 .add a d4) fun d5 => ob (A8 .add b (iI 1)) fun d6 => Qd R d5 d6 c) (some a)) := H5 []
theorem uF : (run cfg).p YN [a] = A0X (run cfg) a := O9 Tryz.func24
def xg := eP Tryz.f25 UA R [] (F5 Tryz.f25 [(a, .val), (b, .val)] [])
def OP := hP Tryz.f25 UA R (pb 58) (ms 59 [(1, a), (5, b)] [] [(2, bx c 3)] [])
def Jd := hP Tryz.f25 UA R (pb 122) (ms 59 [(1, a), (6, b)] [] [(2, bx c 3)] [])
theorem rq : xg R a b =
 (og (D5 3 a) <| ob (A8 .add b (iI 1)) fun d1 => ob (dLen (A7 1 a)) fun d2 => ob (A8 .add d1 d2) fun d3 => OP R d3 (iI 0) a) := D9 []
theorem IY : OP R a b c =
 (ob (dLen (A7 0 c)) fun d1 => ob (A8 .lss b d1) fun d2 => I6 d2 (ob (A8 .leq a (iI 1500)) fun d3 => D6 d3 (ob (F3 3 (A7 0 c) b) fun d4 => ob (R.p fB [(.list 3 [(H8 d4)])]) fun d5 => ob (Q5 .not d5) fun d6 => D6 d6 (some (iI 1501)) (ob (F3 3 (A7 0 c) b) fun d7 => ob (R.p H_ [(H8 d7)]) fun d8 => ob (A8 .add a d8) fun d9 => ob (A8 .add b (iI 1)) fun W9 => OP R d9 W9 c)) (Jd R a (iI 0) c)) (Jd R a (iI 0) c) none) := H5 []
theorem Mr : Jd R a b c =
 (ob (dLen (A7 2 c)) fun d1 => ob (A8 .lss b d1) fun d2 => I6 d2 (ob (A8 .leq a (iI 1500)) fun d3 => D6 d3 (ob (F3 3 (A7 2 c) b) fun d4 => ob (R.p Vv [(H8 d4), a]) fun d5 => ob (A8 .add b (iI 1)) fun d6 => Jd R d5 d6 c) (some a)) (some a) none) := H5 []
theorem oO : (run cfg).p Vv [a, b] = xg (run cfg) a b := O9 Tryz.func25
def bT := eR Tryz.f26 EB Gq R [] (F5 Tryz.f26 [(pt i), (a, .val), (b, .val), (c, .val)] s)
def IJ := hR Tryz.f26 EB Gq R (pb 982) (ms 250 [(3, a), (9, b), (10, c), (11, d)] [(0, (.ptr i 0))] [(5, bx e 16), (6, bx f 3)] s)
def BA := eR Tryz.f26 EB Gq R (pb 31) (ms 250 [(3, a), (9, b), (10, c)] [(0, (.ptr i 0))] [(5, bx d 16), (6, bx e 3)] s)
def NG := eR Tryz.f26 EB Gq R (pb 1028095) (ms 250 [(3, a), (85, b)] [(0, (.ptr i 0))] [(5, bx c 16), (6, bx d 3)] s)
theorem Ze : bT R i a b c s =
 (og (D5 16 a) <| og (D5 3 b) <| ob (M4 s i) fun c1 => ob (X5 c1 0) fun d2 => I6 d2 (some ([(iI 1)], s)) (ob (dLen (A7 15 a)) fun d3 => ob (dLen (A7 2 b)) fun d4 => ob (A8 .neq d3 d4) fun d5 => D6 d5 (some ([(iI 1)], s)) (ob (dLen (A7 15 a)) fun d6 => ob (A8 .gtr d6 (iI 0)) fun d7 => I6 d7 (ob (A8 .neq (A7 0 a) (iI 9)) fun d8 => I6 d8 (ob (A8 .neq (A7 0 a) (iI 11)) fun d9 => I6 d9 (ob (A8 .neq (A7 0 a) (iI 12)) fun W9 => I6 W9 (ob (A8 .neq (A7 0 a) (iI 14)) fun AC => D6 AC (ob (F3 16 (A7 15 a) (iI 0)) fun Ap => ob (F3 3 (A7 2 b) (iI 0)) fun EL => oc (R.r Y2 [(pt i), ((L6 Ap), .val), ((H8 EL), .val), (c, .val)] s) fun q14 s14 => IJ R i c q14 (iI 1) (iI 1) a b s14) (BA R i c (iI 1) (iI 1) a b s)) (BA R i c (iI 1) (iI 1) a b s) none) (BA R i c (iI 1) (iI 1) a b s) none) (BA R i c (iI 1) (iI 1) a b s) none) (BA R i c (iI 1) (iI 1) a b s) none)) none) := D9 [10, 26]
theorem MX : IJ R i a b c d e f s =
 (ob (dLen (A7 15 e)) fun d1 => ob (A8 .lss d d1) fun d2 => D6 d2 (ob (F3 16 (A7 15 e) d) fun d3 => ob (F3 3 (A7 2 f) d) fun d4 => oc (R.r Y2 [(pt i), ((L6 d3), .val), ((H8 d4), .val), (a, .val)] s) fun q5 s5 => ob (A8 .add d (iI 1)) fun d6 => IJ R i a b q5 d6 e f s5) (BA R i a b c e f s)) := H5 [10, 26]
theorem Ul : BA R i a b c d e s =
 (ob (A8 .eql (A7 0 d) (iI 1)) fun d1 => D6 d1 (oc (R.r Qv [(pt i), (a, .val), ((A7 3 d), .val), ((A7 0 e), .val)] s) fun q2 s2 => some ([q2], s2)) (ob (A8 .eql (A7 0 d) (iI 6)) fun d3 => D6 d3 (ob (A8 .add b c) fun d4 => ob (A8 .add d4 (iI 1)) fun d5 => oc (R.r AQ [(pt i), (d5, .val)] s) fun q6 s6 => some ([q6], s6)) (ob (A8 .eql (A7 0 d) (iI 7)) fun d7 => D6 d7 (oc (R.r Bt [(pt i), ((A7 0 e), .val)] s) fun q8 s8 => ob (A8 .add q8 (iI 1)) fun d9 => oc (R.r AQ [(pt i), (d9, .val)] s8) fun q10 s10 => some ([q10], s10)) (ob (A8 .eql (A7 0 d) (iI 8)) fun AC => D6 AC (oc (R.r Bt [(pt i), ((A7 0 e), .val)] s) fun q12 s12 => ob (A8 .add q12 (iI 1)) fun EL => oc (R.r AQ [(pt i), (EL, .val)] s12) fun q14 s14 => some ([q14], s14)) (ob (A8 .eql (A7 0 d) (iI 9)) fun Gg => D6 Gg (oc (R.r Bt [(pt i), ((A7 0 e), .val)] s) fun q16 s16 =>
 oc (R.r EO [(pt i), ((.agg [(A7 8 d), (A7 9 d), (A7 10 d)]), .val), (q16, .val)] s16) fun q17 s17 => ob (A8 .add q17 (iI 1)) fun d18 => ob (F3 16 (A7 15 d) (iI 0)) fun d19 => ob (F3 3 (A7 2 e) (iI 0)) fun d20 => ob (R.p Kt [a, (A7 3 d), q17]) fun d21 => oc (R.r Y2 [(pt i), ((L6 d19), .val), ((H8 d20), .val), (d21, .val)] s17) fun q22 s22 => ob (A8 .add d18 q22) fun d23 => oc (R.r AQ [(pt i), (d23, .val)] s22) fun q24 s24 => some ([q24], s24)) (ob (A8 .eql (A7 0 d) (iI 10)) fun d25 => D6 d25 (some ([b], s)) (ob (A8 .eql (A7 0 d) (iI 11)) fun d26 => D6 d26 (ob (F3 16 (A7 15 d) (iI 0)) fun d27 => ob (F3 3 (A7 2 e) (iI 0)) fun d28 => oc (R.r Y2 [(pt i), ((L6 d27), .val), ((H8 d28), .val), (a, .val)] s) fun q29 s29 => oc (R.r EO [(pt i), ((.agg [(A7 8 d), (A7 9 d), (A7 10 d)]), .val), (q29, .val)] s29) fun q30 s30 => ob (F3 16 (A7 15 d) (iI 1)) fun d31 =>
 ob (F3 3 (A7 2 e) (iI 1)) fun d32 => ob (R.p Kt [a, (A7 3 d), q30]) fun d33 => oc (R.r Y2 [(pt i), ((L6 d31), .val), ((H8 d32), .val), (d33, .val)] s30) fun q34 s34 => some ([q34], s34)) (NG R i a (A7 0 d) d e s)))))))) := D9 [10, 26]
theorem Um : NG R i a b c d s =
 (ob (A8 .eql b (iI 12)) fun d1 => D6 d1 (oc (R.r Bt [(pt i), ((A7 0 d), .val)] s) fun q2 s2 => oc (R.r EO [(pt i), ((.agg [(A7 8 c), (A7 9 c), (A7 10 c)]), .val), (q2, .val)] s2) fun q3 s3 => ob (A8 .add q3 (iI 1)) fun d4 => oc (R.r IB [(pt i), ((A7 0 d), .val)] s3) fun q5 s5 => oc (R.r EO [(pt i), ((.agg [(A7 11 c), (A7 12 c), (A7 13 c)]), .val), (q5, .val)] s5) fun q6 s6 => ob (A8 .add d4 q6) fun d7 => oc (R.r AQ [(pt i), (d7, .val)] s6) fun q8 s8 => ob (R.p Kt [a, (A7 3 c), q8]) fun d9 => ob (F3 16 (A7 15 c) (iI 0)) fun W9 => ob (F3 3 (A7 2 d) (iI 0)) fun AC => ob (R.p Kt [d9, (A7 4 c), q3]) fun Ap => oc (R.r Y2 [(pt i), ((L6 W9), .val), ((H8 AC), .val), (Ap, .val)] s8) fun q13 s13 => ob (F3 16 (A7 15 c) (iI 1)) fun FP => ob (F3 3 (A7 2 d) (iI 1)) fun Gg => oc (R.r Y2 [(pt i), ((L6 FP), .val), ((H8 Gg), .val), (d9, .val)] s13) fun q16 s16 =>
 some ([q16], s16)) (ob (A8 .eql b (iI 13)) fun d17 => D6 d17 (oc (R.r Bt [(pt i), ((A7 0 d), .val)] s) fun q18 s18 => some ([q18], s18)) (ob (A8 .eql b (iI 14)) fun d19 => D6 d19 (oc (R.r Qw [(pt i), ((L6 c), .val), ((H8 d), .val), (a, .val)] s) fun q20 s20 => some ([q20], s20)) (ob (A8 .eql b (iI 15)) fun d21 => D6 d21 (oc (R.r EO [(pt i), ((.agg [(A7 8 c), (A7 9 c), (A7 10 c)]), .val), ((iI 1), .val)] s) fun q22 s22 => some ([q22], s22)) (some ([(iI 1)], s)))))) := D9 [10, 26]
theorem YA : (run cfg).r Y2 [(.undef, (.ptr i 0)), (a, .val), (b, .val), (c, .val)] s = bT (run cfg) i a b c s := Ed (s := EB) Tryz.func26
def xW := eP Tryz.f27 Zz R [] (F5 Tryz.f27 [(a, .val)] [])
def OL := hP Tryz.f27 Zz R (pb 58) (ms 29 [(4, a)] [] [(1, bx b 3), (2, some zb4), (3, some [(c, .val), (d, .val), (e, .own)])] [])
theorem rV : xW R a =
 (og (D5 3 a) <| og (J4 (A7 0 a)) <| og (J4 (A7 1 a)) <| OL R (iI 0) a (A7 0 a) (A7 1 a) (.list 3 [])) := D9 []
theorem TK : OL R a b c d e =
 (ob (dLen (A7 2 b)) fun d1 => ob (A8 .lss a d1) fun d2 => D6 d2 (ob (F3 3 (A7 2 b) a) fun d3 => ob (R.p MC [(H8 d3)]) fun d4 => og (D5 3 d4) <| ob (R6 3 e (.list 3 [d4])) fun d5 => ob (A8 .add a (iI 1)) fun d6 => OL R d6 b c d d5) (some (.agg [c, d, e]))) := H5 []
theorem oI : (run cfg).p MC [a] = xW (run cfg) a := O9 Tryz.func27
def A0L := eP Tryz.f28 fu R [] (F5 Tryz.f28 [(a, .val)] [])
def QY := hP Tryz.f28 fu R (pb 122) (ms 26 [(4, a)] [] [(1, bx b 7), (2, bv [(iI 0), (iI 0), (iI 0), (.str ⟨#[]⟩), (iI 0), (.str ⟨#[]⟩), (.list 7 [])]), (3, some [(c, .val), (d, .val), (e, .val), (f, .val), (g, .val), (h, .val), (o, .own)])] [])
theorem yS : A0L R a =
 (og (D5 7 a) <| QY R (iI 0) a (A7 0 a) (A7 1 a) (A7 2 a) (A7 3 a) (A7 4 a) (A7 5 a) (.list 7 [])) := D9 []
theorem VF : QY R a b c d e f g h o =
 (ob (dLen (A7 6 b)) fun d1 => ob (A8 .lss a d1) fun d2 => D6 d2 (ob (F3 7 (A7 6 b) a) fun d3 => ob (R.p YJ [(GD d3)]) fun d4 => og (D5 7 d4) <| ob (R6 7 o (.list 7 [d4])) fun d5 => ob (A8 .add a (iI 1)) fun d6 => QY R d6 b c d e f g h d5) (some (.agg [c, d, e, f, g, h, o]))) := H5 []
theorem tV : (run cfg).p YJ [a] = A0L (run cfg) a := O9 Tryz.func28
def qY := eP Tryz.f29 Xd R [] (F5 Tryz.f29 [(a, .val)] [])
def Mf := hP Tryz.f29 Xd R (pb 58) (ms 20 [(0, a), (3, b), (4, c)] [(3, .own)] [] [])
theorem nP : qY R a =
 (Mf R a (.list 3 []) (iI 0)) := D9 []
theorem RA : Mf R a b c =
 (ob (dLen a) fun d1 => ob (A8 .lss c d1) fun d2 => D6 d2 (ob (F3 3 a c) fun d3 => ob (R.p MC [(H8 d3)]) fun d4 => og (D5 3 d4) <| ob (R6 3 b (.list 3 [d4])) fun d5 => ob (A8 .add c (iI 1)) fun d6 => Mf R a d5 d6) (some b)) := H5 []
theorem jG : (run cfg).p ZC [a] = qY (run cfg) a := O9 Tryz.func29
def qQ := eP Tryz.f30 pR R [] (F5 Tryz.f30 [(a, .val), (b, .val), (c, .val)] [])
theorem nJ : qQ R a b c =
 (og (D5 16 a) <| og (D5 3 b) <| ob (R.p SQ [(L6 a)]) fun d1 => ob (A8 .neq d1 (iI 0)) fun d2 => I6 d2 (some (.H7 [zA3, (.list 8 []), (.agg [(iI 0), (iI 0), (.list 3 [])]), (iI 1)])) (ob (R.p QT [(H8 b)]) fun d3 => ob (Q5 .not d3) fun d4 => D6 d4 (some (.H7 [zA3, (.list 8 []), (.agg [(iI 0), (iI 0), (.list 3 [])]), (iI 1)])) (og (J4 c) <| oc (R.r Fs [(pt 1), ((L6 a), .val), ((H8 b), .val), ((.list 5 []), .val)] [.map false [], D7.box [(c, .val), (.undef, (.map 0)), ((.list 8 []), .full), ((iI 0), .val)]]) fun q5 s5 => og (D5 23 q5) <| oc (R.r AU [(pt 1)] s5) fun q6 s6 => ob (Q5 .not q6) fun d7 => D6 d7 (ob (M4 s6 1) fun c8 => ob (X5 c8 3) fun d9 => some (.H7 [zA3, (.list 8 []), (.agg [(iI 0), (iI 0), (.list 3 [])]), d9])) (ob (M4 s6 1) fun c10 => ob (X5 c10 2) fun AC => some (.H7 [(.agg [(A7 3 q5), (A7 4 q5), (A7 5 q5), (A7 6 q5), (A7 7 q5), (A7 8 q5), (A7 9 q5), (A7 10 q5), (A7 11 q5), (A7 12 q5), (A7 13 q5), (A7 14 q5), (A7 15 q5), (A7 16 q5), (A7 17 q5), (A7 18 q5), (A7 19 q5), (A7 20 q5), (A7 21 q5), (A7 22 q5)]), AC, (.agg [(A7 0 q5), (A7 1 q5), (A7 2 q5)]), (iI 0)])))) none) := D9 []
theorem iy : (run cfg).p Y_ [a, b, c] = qQ (run cfg) a b c := O9 Tryz.func30
def ZQ := eP Tryz.f31 Fg R [] (F5 Tryz.f31 [(a, .val)] [])
def HY := hP Tryz.f31 Fg R (pb 26) (ms 55 [(3, a)] [] [(1, bx b 3)] [])
def EK := hP Tryz.f31 Fg R (pb 58) (ms 55 [(4, a)] [] [(1, bx b 3)] [])
def De := hP Tryz.f31 Fg R (pb 122) (ms 55 [(5, a)] [] [(1, bx b 3)] [])
theorem Xy : ZQ R a =
 (og (D5 3 a) <| HY R (iI 0) a) := D9 []
theorem LJ : HY R a b =
 (ob (dLen (A7 0 b)) fun d1 => ob (A8 .lss a d1) fun d2 => D6 d2 (ob (F3 3 (A7 0 b) a) fun d3 => ob (R.p Ph [(H8 d3)]) fun d4 => ob (Q5 .not d4) fun d5 => D6 d5 (some (.bool false)) (ob (A8 .add a (iI 1)) fun d6 => HY R d6 b)) (EK R (iI 0) b)) := H5 []
theorem LM : EK R a b =
 (ob (dLen (A7 1 b)) fun d1 => ob (A8 .lss a d1) fun d2 => D6 d2 (ob (F3 1 (A7 1 b) a) fun d3 => og (M7 d3) <| ob (A8 .lss d3 (iI 0)) fun d4 => I6 d4 (some (.bool false)) (ob (F3 1 (A7 1 b) a) fun d5 => og (M7 d5) <| ob (A8 .gtr d5 (iI 1048576)) fun d6 => D6 d6 (some (.bool false)) (ob (A8 .add a (iI 1)) fun d7 => EK R d7 b)) none) (De R (iI 0) b)) := H5 []
theorem Jy : De R a b =
 (ob (dLen (A7 2 b)) fun d1 => ob (A8 .lss a d1) fun d2 => D6 d2 (ob (F3 3 (A7 2 b) a) fun d3 => ob (R.p Kr [(H8 d3)]) fun d4 => ob (Q5 .not d4) fun d5 => D6 d5 (some (.bool false)) (ob (A8 .add a (iI 1)) fun d6 => De R d6 b)) (some (.bool true))) := H5 []
theorem Ws : (run cfg).p Kr [a] = ZQ (run cfg) a := O9 Tryz.func31
end
end Go.Su

/-
 Equations of the program's functions: by program.
-/
namespace Go.Su
set_option maxRecDepth 100000
noncomputable section
open Go.Proofs
variable (R : N7) (i j k l m n : Nat) (a b c d e f g h o p q r t u v w x y z A B C D E F G H I J K L M N O P Q S T U V W X Y Z a1 a2 a3 a4 a5 a6 a7 a8 a9 ZU Uj a12 a13 a14 Xq a16 a17 a18 a19 a20 a21 a22 a23 a24 a25 a26 a27 a28 a29 a30 a31 a32 a33 a34 a35 a36 a37 a38 a39 a40 a41 a42 a43 a44 a45 a46 a47 a48 a49 a50 a51 a52 a53 a54 a55 a56 a57 a58 a59 : DV) (s : List D7)
def qd := eR Tryz.f32 KY Qq R [] (F5 Tryz.f32 [(pt i), (a, .val), (b, .val), (c, .val), (d, .val)] s)
def FI := eR Tryz.f32 KY Qq R (pb 4014) (ms 181 [] [] [(6, bx a 16), (10, some zb3), (12, some zb3)] s)
def Sr := eR Tryz.f32 KY Qq R (pb 64255) (ms 181 [(3, a), (4, b), (11, c), (29, d)] [(0, (.ptr i 0))] [(6, bx e 16), (7, bx f 3), (10, bv [g, h, o, p]), (12, some [((iI 0), .val), ((iI 0), .val), ((.list 3 []), .own), ((.list 4 []), .own)])] s)
theorem nU : qd R i a b c d s =
 (og (D5 16 a) <| og (D5 3 b) <| oc (R.r Pm [(pt i), ((L6 a), .val), ((H8 b), .val), (c, .val), (d, .val)] s) fun q1 s1 => ob (M4 s1 i) fun c2 => ob (X5 c2 0) fun d3 => ob (A8 .neq d3 (iI 0)) fun d4 => D6 d4 (some ([(.agg [(iI 0), (iI 0), (.list 3 []), (.list 4 [])])], s1)) (ob (A8 .eql (A7 0 a) (iI 1)) fun d5 => D6 d5 (ob (R.p YQ [c, (A7 3 a)]) fun d6 => ob (F3 5 c d6) fun d7 => ob (R.p fG [(A7 4 d7), (A7 0 b)]) fun d8 => ob (R.p bP [(.agg [(A7 1 d7), (A7 2 d7), (A7 3 d7)]), d8]) fun d9 => og (D5 3 d9) <| some ([(.agg [(A7 0 d9), (A7 1 d9), (A7 2 d9), (.list 4 [])])], s1)) (ob (A8 .eql (A7 0 a) (iI 2)) fun W9 => D6 W9 (FI R a s1) (ob (A8 .eql (A7 0 a) (iI 3)) fun AC => D6 AC (FI R a s1) (ob (A8 .eql (A7 0 a) (iI 4)) fun Ap => D6 Ap (FI R a s1) (ob (A8 .eql (A7 0 a) (iI 5)) fun EL => D6 EL (FI R a s1) (ob (A8 .eql (A7 0 a) (iI 6)) fun FP => D6 FP (oc (R.r j4 [(pt i), ((L6 a), .val), ((H8 b), .val), ((iI 0), .val), (c, .val), (d, .val), ((.agg [(iI 0), (iI 0), (.list 3 []), (.list 4 [])]), (.AO [.val, .val, .val, .own]))] s1) fun q15 s15 =>
 og (D5 4 q15) <| oc (R.r j4 [(pt i), ((L6 a), .val), ((H8 b), .val), ((iI 1), .val), (c, .val), (d, .val), ((.agg [(A7 0 q15), (A7 1 q15), (A7 2 q15), (A7 3 q15)]), (.AO [.val, .val, .val, .own]))] s15) fun q16 s16 => og (D5 4 q16) <| ob (R.p Z9 [(.agg [(A7 0 q16), (A7 1 q16), (A7 2 q16), (A7 3 q16)]), (iI 0)]) fun d17 => ob (R.p Z9 [(.agg [(A7 0 q16), (A7 1 q16), (A7 2 q16), (A7 3 q16)]), (iI 1)]) fun d18 => ob (R.p IA [(iI 7), d17, d18]) fun d19 => og (D5 3 d19) <| some ([(.agg [(A7 0 d19), (A7 1 d19), (A7 2 d19), (A7 3 q16)])], s16)) (ob (A8 .eql (A7 0 a) (iI 7)) fun d20 => D6 d20 (ob (F3 3 (A7 0 b) (iI 0)) fun d21 => ob (R.p SI [(H8 d21)]) fun d22 => og (D5 3 d22) <| some ([(.agg [(A7 0 d22), (A7 1 d22), (A7 2 d22), (.list 4 [])])], s1)) (Sr R i c d q1 (A7 0 a) a b (iI 0) (iI 0) (.list 3 []) (.list 4 []) s1))))))))) := D9 [14, 21]
theorem Zf : FI R a s =
 (ob (A8 .sub (A7 0 a) (iI 2)) fun d1 => ob (A8 .add d1 (iI 1)) fun d2 => ob (R.p AV [d2]) fun d3 => og (D5 3 d3) <| some ([(.agg [(A7 0 d3), (A7 1 d3), (A7 2 d3), (.list 4 [])])], s)) := D9 [14, 21]
theorem Zg : Sr R i a b c d e f g h o p s =
 (ob (A8 .eql d (iI 8)) fun d1 => D6 d1 (oc (R.r j4 [(pt i), ((L6 e), .val), ((H8 f), .val), ((iI 0), .val), (a, .val), (b, .val), ((.agg [(iI 0), (iI 0), (.list 3 []), (.list 4 [])]), (.AO [.val, .val, .val, .own]))] s) fun q2 s2 => og (D5 4 q2) <| ob (R.p Z9 [(.agg [(A7 0 q2), (A7 1 q2), (A7 2 q2), (A7 3 q2)]), (iI 0)]) fun d3 => ob (F3 3 (A7 0 f) (iI 0)) fun d4 => oc (R.r BL [(pt i), (d3, .val), ((H8 d4), .val)] s2) fun q5 s5 => oc (R.r j4 [(pt i), ((L6 e), .val), ((H8 f), .val), ((iI 1), .val), (a, .val), (b, .val), ((.agg [(A7 0 q2), (A7 1 q2), (A7 2 q2), (A7 3 q2)]), (.AO [.val, .val, .val, .own]))] s5) fun q6 s6 => og (D5 4 q6) <| ob (F3 3 (A7 0 f) (iI 0)) fun d7 => ob (R.p SI [(H8 d7)]) fun d8 => og (D5 3 d8) <| ob (R.p Z9 [(.agg [(A7 0 d8), (A7 1 d8), (A7 2 d8), (A7 3 q6)]), (iI 1)]) fun d9 =>
 oc (R.r BL [(pt i), (d9, .val), ((H8 d8), .val)] s6) fun q10 s10 => some ([(.agg [(A7 0 d8), (A7 1 d8), (A7 2 d8), (A7 3 q6)])], s10)) (ob (A8 .eql d (iI 9)) fun AC => D6 AC (ob (R.p V_ [(.agg [(A7 8 e), (A7 9 e), (A7 10 e)]), (A7 0 f)]) fun Ap => og (D5 3 Ap) <| ob (R.p Pn [a, (A7 3 e), (H8 Ap)]) fun EL => oc (R.r j4 [(pt i), ((L6 e), .val), ((H8 f), .val), ((iI 0), .val), (EL, .val), (b, .val), ((.agg [(iI 0), (iI 0), (.list 3 []), (.list 4 [])]), (.AO [.val, .val, .val, .own]))] s) fun q14 s14 => og (D5 4 q14) <| ob (R.p Z9 [(.agg [(A7 0 q14), (A7 1 q14), (A7 2 q14), (A7 3 q14)]), (iI 0)]) fun Gg => ob (R.p IA [(iI 9), (H8 Ap), Gg]) fun d16 => og (D5 3 d16) <| some ([(.agg [(A7 0 d16), (A7 1 d16), (A7 2 d16), (A7 3 q14)])], s14)) (ob (A8 .eql d (iI 10)) fun d17 => D6 d17 (oc (R.r fI [(pt i), ((L6 e), .val), ((H8 f), .val), (a, .val), (b, .val)] s) fun q18 s18 =>
 og (D5 4 q18) <| some ([(.agg [(A7 0 q18), (A7 1 q18), (A7 2 q18), (A7 3 q18)])], s18)) (ob (A8 .eql d (iI 11)) fun d19 => D6 d19 (oc (R.r Pk [(pt i), ((L6 e), .val), ((H8 f), .val), (a, .val), (b, .val), (c, .val)] s) fun q20 s20 => og (D5 4 q20) <| some ([(.agg [(A7 0 q20), (A7 1 q20), (A7 2 q20), (A7 3 q20)])], s20)) (ob (A8 .eql d (iI 12)) fun d21 => D6 d21 (oc (R.r Pk [(pt i), ((L6 e), .val), ((H8 f), .val), (a, .val), (b, .val), (c, .val)] s) fun q22 s22 => og (D5 4 q22) <| some ([(.agg [(A7 0 q22), (A7 1 q22), (A7 2 q22), (A7 3 q22)])], s22)) (ob (A8 .eql d (iI 14)) fun d23 => D6 d23 (oc (R.r XN [(pt i), ((L6 e), .val), ((H8 f), .val), (a, .val), (b, .val)] s) fun q24 s24 => og (D5 4 q24) <| some ([(.agg [(A7 0 q24), (A7 1 q24), (A7 2 q24), (A7 3 q24)])], s24)) (oc (R.r ZH [(pt i), ((L6 e), .val), ((H8 f), .val), (a, .val), (b, .val)] s) fun q25 s25 =>
 og (D5 4 q25) <| some ([(.agg [(A7 0 q25), (A7 1 q25), (A7 2 q25), (A7 3 q25)])], s25)))))))) := D9 [14, 21]
theorem jJ : (run cfg).r SL [(.undef, (.ptr i 0)), (a, .val), (b, .val), (c, .val), (d, .val)] s = qd (run cfg) i a b c d s := Ed (s := KY) Tryz.func32
def A0W := eP Tryz.f33 QJ R [] (F5 Tryz.f33 [(a, .val), (b, .val)] [])
def qb := eP Tryz.f33 QJ R (pb 7) (ms 117 [] [] [(2, bx a 16), (3, bx b 16)] [])
def Qc := hP Tryz.f33 QJ R (pb 122) (ms 117 [(5, a)] [] [(2, bx b 16), (3, bx c 16)] [])
def OT := hP Tryz.f33 QJ R (pb 250) (ms 117 [(6, a)] [] [(2, bx b 16), (3, bx c 16)] [])
theorem yl : A0W R a b =
 (og (D5 16 a) <| og (D5 16 b) <| ob (A8 .neq (A7 0 a) (A7 0 b)) fun d1 => I6 d1 (some (.bool false)) (ob (A8 .neq (A7 3 a) (A7 3 b)) fun d2 => I6 d2 (some (.bool false)) (ob (A8 .neq (A7 4 a) (A7 4 b)) fun d3 => I6 d3 (some (.bool false)) (ob (A8 .neq (A7 5 a) (A7 5 b)) fun d4 => I6 d4 (some (.bool false)) (ob (A8 .neq (A7 6 a) (A7 6 b)) fun d5 => I6 d5 (some (.bool false)) (ob (A8 .neq (A7 7 a) (A7 7 b)) fun d6 => I6 d6 (some (.bool false)) (ob (dLen (A7 14 a)) fun d7 => ob (dLen (A7 14 b)) fun d8 => ob (A8 .neq d7 d8) fun d9 => I6 d9 (some (.bool false)) (ob (dLen (A7 15 a)) fun W9 => ob (dLen (A7 15 b)) fun AC => ob (A8 .neq W9 AC) fun Ap => D6 Ap (some (.bool false)) (qb R a b)) none) none) none) none) none) none) none) := D9 [3]
theorem nR : qb R a b =
 (ob (R.p Kq [(.agg [(A7 8 a), (A7 9 a), (A7 10 a)]), (.agg [(A7 8 b), (A7 9 b), (A7 10 b)])]) fun d1 => ob (Q5 .not d1) fun d2 => I6 d2 (some (.bool false)) (ob (R.p Kq [(.agg [(A7 11 a), (A7 12 a), (A7 13 a)]), (.agg [(A7 11 b), (A7 12 b), (A7 13 b)])]) fun d3 => ob (Q5 .not d3) fun d4 => D6 d4 (some (.bool false)) (Qc R (iI 0) a b)) none) := D9 [3]
theorem VL : Qc R a b c =
 (ob (dLen (A7 14 b)) fun d1 => ob (A8 .lss a d1) fun d2 => D6 d2 (ob (F3 7 (A7 14 b) a) fun d3 => ob (F3 7 (A7 14 c) a) fun d4 => ob (R.p QV [(GD d3), (GD d4)]) fun d5 => ob (Q5 .not d5) fun d6 => D6 d6 (some (.bool false)) (ob (A8 .add a (iI 1)) fun d7 => Qc R d7 b c)) (OT R (iI 0) b c)) := H5 [3]
theorem TY : OT R a b c =
 (ob (dLen (A7 15 b)) fun d1 => ob (A8 .lss a d1) fun d2 => D6 d2 (ob (F3 16 (A7 15 b) a) fun d3 => ob (F3 16 (A7 15 c) a) fun d4 => ob (R.p YM [(L6 d3), (L6 d4)]) fun d5 => ob (Q5 .not d5) fun d6 => D6 d6 (some (.bool false)) (ob (A8 .add a (iI 1)) fun d7 => OT R d7 b c)) (some (.bool true))) := H5 [3]
theorem uE : (run cfg).p YM [a, b] = A0W (run cfg) a b := O9 Tryz.func33
def x_ := eP Tryz.f34 aJ R [] (F5 Tryz.f34 [(a, .val), (b, .val)] [])
def OV := hP Tryz.f34 aJ R (pb 58) (ms 30 [(5, a)] [] [(2, bx b 7), (3, bx c 7)] [])
theorem sO : x_ R a b =
 (og (D5 7 a) <| og (D5 7 b) <| ob (rH [.int, .int] (.agg [(A7 1 a), (A7 2 a)]) (.agg [(A7 1 b), (A7 2 b)])) fun b1 => D6 (.bool !b1) (some (.bool false)) (OV R (iI 0) a b)) := D9 []
theorem Ta : OV R a b c =
 (ob (dLen (A7 6 b)) fun d1 => ob (A8 .lss a d1) fun d2 => D6 d2 (ob (F3 7 (A7 6 b) a) fun d3 => ob (F3 7 (A7 6 c) a) fun d4 => ob (R.p Vy [(GD d3), (GD d4)]) fun d5 => ob (Q5 .not d5) fun d6 => D6 d6 (some (.bool false)) (ob (A8 .add a (iI 1)) fun d7 => OV R d7 b c)) (some (.bool true))) := H5 []
theorem oo : (run cfg).p Vy [a, b] = x_ (run cfg) a b := O9 Tryz.func34
def gp := eP Tryz.f35 Tz R [] (F5 Tryz.f35 [(a, .val), (b, .val)] [])
def JG := hP Tryz.f35 Tz R (pb 58) (ms 27 [(0, a), (1, b), (5, c)] [] [] [])
theorem bz : gp R a b =
 (ob (dLen a) fun d1 => ob (dLen b) fun d2 => ob (A8 .neq d1 d2) fun d3 => D6 d3 (some (.bool false)) (JG R a b (iI 0))) := D9 []
theorem NU : JG R a b c =
 (ob (dLen a) fun d1 => ob (A8 .lss c d1) fun d2 => D6 d2 (ob (F3 3 a c) fun d3 => ob (F3 3 b c) fun d4 => ob (R.p MB [(H8 d3), (H8 d4)]) fun d5 => ob (Q5 .not d5) fun d6 => D6 d6 (some (.bool false)) (ob (A8 .add c (iI 1)) fun d7 => JG R a b d7)) (some (.bool true))) := H5 []
theorem Zq : (run cfg).p Uw [a, b] = gp (run cfg) a b := O9 Tryz.func35
def xU := eP Tryz.f36 Zx R [] (F5 Tryz.f36 [(a, .val), (b, .val)] [])
def OI := hP Tryz.f36 Zx R (pb 58) (ms 26 [(0, a), (1, b), (5, c)] [] [] [])
theorem rT : xU R a b =
 (ob (dLen a) fun d1 => ob (dLen b) fun d2 => ob (A8 .neq d1 d2) fun d3 => D6 d3 (some (.bool false)) (OI R a b (iI 0))) := D9 []
theorem TI : OI R a b c =
 (ob (dLen a) fun d1 => ob (A8 .lss c d1) fun d2 => D6 d2 (ob (F3 1 a c) fun d3 => og (M7 d3) <| ob (F3 1 b c) fun d4 => og (M7 d4) <| ob (A8 .neq d3 d4) fun d5 => D6 d5 (some (.bool false)) (ob (A8 .add c (iI 1)) fun d6 => OI R a b d6)) (some (.bool true))) := H5 []
theorem oG : (run cfg).p ed [a, b] = xU (run cfg) a b := O9 Tryz.func36
def A0P := eP Tryz.f37 zO R [] (F5 Tryz.f37 [(a, .val)] [])
theorem yX : A0P R a =
 (og (J4 a) <| some (.agg [a, (iI 0), (.list 3 [])])) := D9 []
theorem tq : (run cfg).p AV [a] = A0P (run cfg) a := O9 Tryz.func37
def xO := eP Tryz.f38 uP R [] (F5 Tryz.f38 [(a, .val), (b, .val)] [])
theorem A4R : xO R a b =
 (og (D5 3 a) <| ob (R.p JW [(.agg [(iI 1), (iI 0), (.list 3 [])]), b]) fun d1 => ob (N8 0 d1) fun d2 => ob (N8 1 d1) fun d3 => og (D5 3 d2) <| ob (A8 .neq d3 (iI 0)) fun d4 => D6 d4 (some (.H7 [(.agg [(.list 3 []), (.list 1 []), (.list 3 [])]), d3])) (ob (R.p eZ [(H8 a), b]) fun d5 => ob (N8 0 d5) fun d6 => ob (N8 1 d5) fun d7 => og (D5 3 d6) <| some (.H7 [(H8 d6), d7]))) := D9 []
theorem A3S : (run cfg).p xN [a, b] = xO (run cfg) a b := O9 Tryz.func38
def A20 := eP Tryz.f39 A1C R [] (F5 Tryz.f39 [(a, .val), (b, .val), (c, .val)] [])
theorem ko : A20 R a b c =
 (og (D5 3 b) <| og (D5 3 c) <| og (J4 a) <| some (.agg [a, (iI 0), (.list 3 [(H8 b), (H8 c)])])) := D9 []
theorem fq : (run cfg).p IA [a, b, c] = A20 (run cfg) a b c := O9 Tryz.func39
def A22 := eP Tryz.f40 YX R [] (F5 Tryz.f40 [(a, .val)] [])
def fO := eP Tryz.f40 YX R (pb 15) (ms 137 [] [] [(1, bx a 16), (3, bx b 16)] [])
def fP := eP Tryz.f40 YX R (pb 31) (ms 137 [] [] [(1, bx a 16)] [])
theorem A1s : A22 R a =
 (og (D5 16 a) <| ob (R.p ZG [(L6 a)]) fun d1 => ob (N8 0 d1) fun d2 => ob (N8 1 d1) fun d3 => og (D5 16 d2) <| ob (dLen (A7 15 a)) fun d4 => ob (A8 .neq d3 d4) fun d5 => I6 d5 (some (.bool false)) (ob (A8 .neq (A7 3 a) (A7 3 d2)) fun d6 => I6 d6 (some (.bool false)) (ob (A8 .neq (A7 4 a) (A7 4 d2)) fun d7 => I6 d7 (some (.bool false)) (ob (A8 .neq (A7 5 a) (A7 5 d2)) fun d8 => I6 d8 (some (.bool false)) (ob (A8 .neq (A7 6 a) (A7 6 d2)) fun d9 => I6 d9 (some (.bool false)) (ob (A8 .neq (A7 7 a) (A7 7 d2)) fun W9 => I6 W9 (some (.bool false)) (ob (dLen (A7 14 a)) fun AC => ob (dLen (A7 14 d2)) fun Ap => ob (A8 .neq AC Ap) fun EL => D6 EL (some (.bool false)) (fO R a d2)) none) none) none) none) none) none) := D9 [4, 6]
theorem sM : fO R a b =
 (ob (R.p Kq [(.agg [(A7 8 a), (A7 9 a), (A7 10 a)]), (.agg [(A7 8 b), (A7 9 b), (A7 10 b)])]) fun d1 => ob (Q5 .not d1) fun d2 => I6 d2 (some (.bool false)) (ob (R.p Kq [(.agg [(A7 11 a), (A7 12 a), (A7 13 a)]), (.agg [(A7 11 b), (A7 12 b), (A7 13 b)])]) fun d3 => ob (Q5 .not d3) fun d4 => D6 d4 (some (.bool false)) (fP R a)) none) := D9 [4, 6]
theorem sN : fP R a =
 (ob (A8 .neq (A7 0 a) (iI 15)) fun d1 => ob (R.p YO [(.agg [(A7 8 a), (A7 9 a), (A7 10 a)]), d1]) fun d2 => ob (Q5 .not d2) fun d3 => I6 d3 (some (.bool false)) (ob (R.p YO [(.agg [(A7 11 a), (A7 12 a), (A7 13 a)]), (.bool true)]) fun d4 => ob (Q5 .not d4) fun d5 => D6 d5 (some (.bool false)) (ob (A8 .eql (A7 0 a) (iI 1)) fun d6 => D6 d6 (ob (R.p Hz [(A7 3 a)]) fun d7 => some d7) (ob (A8 .eql (A7 0 a) (iI 9)) fun d8 => D6 d8 (ob (R.p Hz [(A7 3 a)]) fun d9 => some d9) (ob (A8 .eql (A7 0 a) (iI 11)) fun W9 => D6 W9 (ob (R.p Hz [(A7 3 a)]) fun AC => some AC) (ob (A8 .eql (A7 0 a) (iI 12)) fun Ap => D6 Ap (ob (R.p Hz [(A7 3 a)]) fun EL => I6 EL (ob (R.p Hz [(A7 4 a)]) fun FP => some FP) (some (.bool false)) none) (ob (A8 .eql (A7 0 a) (iI 3)) fun Gg => D6 Gg (ob (A8 .eql (A7 5 a) (iI 0)) fun d16 => I6 d16 (some (.bool true)) (ob (A8 .eql (A7 5 a) (iI 1)) fun d17 => some d17) none) (ob (A8 .eql (A7 0 a) (iI 4)) fun d18 => D6 d18 (ob (DT (A7 6 a)) fun d19 => ob (A8 .leq d19 (iI 200)) fun d20 =>
 some d20) (ob (A8 .eql (A7 0 a) (iI 14)) fun d21 => D6 d21 (ob (dLen (A7 14 a)) fun d22 => ob (A8 .gtr d22 (iI 0)) fun d23 => some d23) (ob (A8 .eql (A7 0 a) (iI 16)) fun d24 => D6 d24 (ob (A8 .geq (A7 7 a) (iI 1)) fun d25 => I6 d25 (ob (A8 .leq (A7 7 a) (iI 7)) fun d26 => some d26) (some (.bool false)) none) (some (.bool true))))))))))) none) := D9 [4, 6]
theorem zI : (run cfg).p qO [a] = A22 (run cfg) a := O9 Tryz.func40
def gu := eP Tryz.f41 UD R [] (F5 Tryz.f41 [(a, .val)] [])
def JI := hP Tryz.f41 UD R (pb 122) (ms 24 [(3, a), (4, b)] [] [] [])
theorem cB : gu R a =
 (og (D5 7 a) <| ob (R.p bO [(GD a)]) fun d1 => ob (Q5 .not d1) fun d2 => D6 d2 (some (.bool false)) (ob (R.p Vw [(GD a)]) fun d3 => JI R d3 (iI 0))) := D9 []
theorem NW : JI R a b =
 (ob (dLen a) fun d1 => ob (A8 .lss b d1) fun d2 => D6 d2 (ob (Dh 1 a none (some b)) fun d3 => ob (F3 1 a b) fun d4 => og (M7 d4) <| ob (R.p qN [d3, d4]) fun d5 => D6 d5 (some (.bool false)) (ob (A8 .add b (iI 1)) fun d6 => JI R a d6)) (some (.bool true))) := H5 []
theorem Zr : (run cfg).p Ux [a] = gu (run cfg) a := O9 Tryz.func41
def xu := eP Tryz.f42 aG R [] (F5 Tryz.f42 [(a, .val)] [])
def GQ := hP Tryz.f42 aG R (pb 58) (ms 45 [(3, a)] [] [(1, bx b 3)] [])
theorem sG : xu R a =
 (og (D5 3 a) <| ob (R.p kM [(A7 0 a)]) fun d1 => ob (dLen (A7 2 a)) fun d2 => ob (A8 .neq d1 d2) fun d3 => I6 d3 (some (.bool false)) (ob (A8 .lss (A7 1 a) (iI 0)) fun d4 => I6 d4 (some (.bool false)) (ob (A8 .gtr (A7 1 a) (iI 1048576)) fun d5 => I6 d5 (some (.bool false)) (ob (A8 .neq (A7 0 a) (iI 6)) fun d6 => I6 d6 (ob (A8 .neq (A7 1 a) (iI 0)) fun d7 => D6 d7 (some (.bool false)) (GQ R (iI 0) a)) (GQ R (iI 0) a) none) none) none) none) := D9 []
theorem TU : GQ R a b =
 (ob (dLen (A7 2 b)) fun d1 => ob (A8 .lss a d1) fun d2 => D6 d2 (ob (F3 3 (A7 2 b) a) fun d3 => ob (R.p Ph [(H8 d3)]) fun d4 => ob (Q5 .not d4) fun d5 => D6 d5 (some (.bool false)) (ob (A8 .add a (iI 1)) fun d6 => GQ R d6 b)) (some (.bool true))) := H5 []
theorem oW : (run cfg).p Ph [a] = xu (run cfg) a := O9 Tryz.func42
end
end Go.Su

/-
 Equations of the program's functions: by program.
-/
namespace Go.Su
noncomputable section
open Go.Proofs
variable (R : N7) (i j k l m n : Nat) (a b c d e f g h o p q r t u v w x y z A B C D E F G H I J K L M N O P Q S T U V W X Y Z a1 a2 a3 a4 a5 a6 a7 a8 a9 ZU Uj a12 a13 a14 Xq a16 a17 a18 a19 a20 a21 a22 a23 a24 a25 a26 a27 a28 a29 a30 a31 a32 a33 a34 a35 a36 a37 a38 a39 a40 a41 a42 a43 a44 a45 a46 a47 a48 a49 a50 a51 a52 a53 a54 a55 a56 a57 a58 a59 : DV) (s : List D7)
def xc := eP Tryz.f46 KG R [] (F5 Tryz.f46 [(a, .val), (b, .val)] [])
def Ja := hP Tryz.f46 KG R (pb 250) (ms 70 [(1, a), (5, b)] [] [(2, bx c 16)] [])
def Lf := eP Tryz.f46 KG R (pb 63) (ms 70 [(1, a)] [] [(2, bx b 16)] [])
def Jb := hP Tryz.f46 KG R (pb 506) (ms 70 [(1, a), (6, b)] [] [(2, bx c 16)] [])
def JZ := eP Tryz.f46 KG R (pb 127) (ms 70 [(1, a)] [] [(2, bx b 16)] [])
theorem TP : xc R a b =
 (og (D5 16 a) <| ob (A8 .add b (iI 1)) fun d1 => ob (R.p Db [(.agg [(A7 8 a), (A7 9 a), (A7 10 a)]), d1]) fun d2 => ob (R.p Db [(.agg [(A7 11 a), (A7 12 a), (A7 13 a)]), d2]) fun d3 => Ja R d3 (iI 0) a) := D9 [8, 12]
theorem IW : Ja R a b c =
 (ob (dLen (A7 14 c)) fun d1 => ob (A8 .lss b d1) fun d2 => I6 d2 (ob (A8 .leq a (iI 400)) fun d3 => D6 d3 (ob (F3 7 (A7 14 c) b) fun d4 => ob (R.p OC [(GD d4), a]) fun d5 => ob (A8 .add b (iI 1)) fun d6 => Ja R d5 d6 c) (Lf R a c)) (Lf R a c) none) := H5 [8, 12]
theorem VG : Lf R a b =
 (Jb R a (iI 0) b) := D9 [8, 12]
theorem IX : Jb R a b c =
 (ob (dLen (A7 15 c)) fun d1 => ob (A8 .lss b d1) fun d2 => I6 d2 (ob (A8 .leq a (iI 400)) fun d3 => D6 d3 (ob (F3 16 (A7 15 c) b) fun d4 => ob (R.p ME [(L6 d4), a]) fun d5 => ob (A8 .add b (iI 1)) fun d6 => Jb R d5 d6 c) (JZ R a c)) (JZ R a c) none) := H5 [8, 12]
theorem TQ : JZ R a b =
 (ob (DT (A7 6 b)) fun d1 => ob (A8 .gtr d1 (iI 300)) fun d2 => I6 d2 (some (iI 401)) (ob (DT (A7 3 b)) fun d3 => ob (A8 .gtr d3 (iI 300)) fun d4 => I6 d4 (some (iI 401)) (ob (DT (A7 4 b)) fun d5 => ob (A8 .gtr d5 (iI 300)) fun d6 => D6 d6 (some (iI 401)) (some a)) none) none) := D9 [8, 12]
theorem Qo : (run cfg).p ME [a, b] = xc (run cfg) a b := O9 Tryz.func46
def xe := eP Tryz.f47 aC R [] (F5 Tryz.f47 [(a, .val)] [])
def OO := hP Tryz.f47 aC R (pb 26) (ms 32 [(0, a), (3, b)] [] [] [])
theorem rZ : xe R a =
 (OO R a (iI 0)) := D9 []
set_option maxRecDepth 100000 in
theorem TR : OO R a b =
 (ob (dLen a) fun d1 => ob (A8 .lss b d1) fun d2 => D6 d2 (ob (F3 3 a b) fun d3 => ob (R.p eu [(.list 3 [(H8 d3)])]) fun d4 => I6 d4 (some (.bool false)) (ob (F3 3 a b) fun d5 => ob (R.p YP [(H8 d5), (iI 60)]) fun d6 => I6 d6 (some (.bool false)) (ob (F3 3 a b) fun d7 => ob (R.p YK [(H8 d7)]) fun d8 => ob (dLen d8) fun d9 => ob (A8 .gtr d9 (iI 8)) fun W9 => D6 W9 (some (.bool false)) (ob (A8 .add b (iI 1)) fun AC => OO R a AC)) none) none) (some (.bool true))) := H5 []
theorem oM : (run cfg).p fB [a] = xe (run cfg) a := O9 Tryz.func47
def A0T := eP Tryz.f48 gB R [] (F5 Tryz.f48 [(a, .val)] [])
def Qb := hP Tryz.f48 gB R (pb 58) (ms 21 [(3, a), (4, b)] [] [(1, bx c 3)] [])
theorem yf : A0T R a =
 (og (D5 3 a) <| Qb R (iI 1) (iI 0) a) := D9 []
theorem VJ : Qb R a b c =
 (ob (dLen (A7 2 c)) fun d1 => ob (A8 .lss b d1) fun d2 => D6 d2 (ob (F3 3 (A7 2 c) b) fun d3 => ob (R.p H_ [(H8 d3)]) fun d4 => ob (A8 .add a d4) fun d5 => ob (A8 .add b (iI 1)) fun d6 => Qb R d5 d6 c) (some a)) := H5 []
theorem uB : (run cfg).p H_ [a] = A0T (run cfg) a := O9 Tryz.func48
def ZO := eR Tryz.f49 FB JM R [] (F5 Tryz.f49 [(pt i), (a, .val), (b, .val), (c, .val)] s)
def Gy := hR Tryz.f49 FB JM R (pb 58) (ms 50 [(1, a), (2, b), (3, c), (9, d), (10, e)] [(0, (.ptr i 0))] [] s)
def Gz := hR Tryz.f49 FB JM R (pb 122) (ms 50 [(1, a), (2, b), (9, c), (11, d)] [(0, (.ptr i 0))] [] s)
theorem Xw : ZO R i a b c s =
 (Gy R i a b c (iI 1) (iI 0) s) := D9 []
theorem LC : Gy R i a b c d e s =
 (ob (dLen c) fun d1 => ob (A8 .lss e d1) fun d2 => D6 d2 (ob (F3 3 c e) fun d3 => ob (R.p H_ [(H8 d3)]) fun d4 => oc (R.r AQ [(pt i), (d4, .val)] s) fun q5 s5 => ob (A2r d q5) fun d6 => ob (A8 .add e (iI 1)) fun d7 => Gy R i a b c d6 d7 s5) (ob (dLen a) fun d8 => ob (A8 .sub d8 (iI 1)) fun d9 => Gz R i a b d d9 s)) := H5 []
theorem LD : Gz R i a b c d s =
 (ob (A8 .geq d (iI 0)) fun d1 => D6 d1 (ob (F3 2 a d) fun d2 => ob (A8 .eql (A7 0 d2) b) fun d3 => D6 d3 (ob (F3 2 a d) fun d4 => ob (A8 .mul c (A7 1 d4)) fun d5 => oc (R.r AQ [(pt i), (d5, .val)] s) fun q6 s6 => some ([q6], s6)) (ob (A8 .sub d (iI 1)) fun d7 => Gz R i a b c d7 s)) (some ([(iI 1)], s))) := H5 []
theorem Wp : (run cfg).r Qv [(.undef, (.ptr i 0)), (a, .val), (b, .val), (c, .val)] s = ZO (run cfg) i a b c s := Ed (s := FB) Tryz.func49
def mg := eR Tryz.f50 Ua jU R [] (F5 Tryz.f50 [(pt i), (a, .val)] s)
theorem VQ : mg R i a s =
 (ob (A8 .gtr a (iI 3000)) fun d1 => D6 d1 (ob (M4 s i) fun c2 => ob (c2[0]?) fun u3 => ob (A0g a (iI 3000)) fun d4 => some ([d4], (s.set i (D7.box (c2.set 0 ((.bool true), .val)))))) (ob (A0g a (iI 3000)) fun d5 => some ([d5], s))) := D9 []
theorem Tp : (run cfg).r AQ [(.undef, (.ptr i 0)), (a, .val)] s = mg (run cfg) i a s := Ed (s := Ua) Tryz.func50
def ZN := eR Tryz.f51 Nt YF R [] (F5 Tryz.f51 [(pt i), (a, .val)] s)
theorem Xv : ZN R i a s =
 (ob (dLen a) fun d1 => ob (A8 .eql d1 (iI 0)) fun d2 => D6 d2 (some ([(iI 1)], s)) (ob (F3 3 a (iI 0)) fun d3 => ob (R.p H_ [(H8 d3)]) fun d4 => oc (R.r AQ [(pt i), (d4, .val)] s) fun q5 s5 => some ([q5], s5))) := D9 []
theorem Wo : (run cfg).r Bt [(.undef, (.ptr i 0)), (a, .val)] s = ZN (run cfg) i a s := Ed (s := Nt) Tryz.func51
def gy := eR Tryz.f52 RS dR R [] (F5 Tryz.f52 [(pt i), (a, .val), (b, .val)] s)
theorem cO : gy R i a b s =
 (og (D5 3 a) <| ob (R.p Fu [(H8 a)]) fun d1 => D6 d1 (some ([b], s)) (ob (R.p H_ [(H8 a)]) fun d2 => oc (R.r AQ [(pt i), (d2, .val)] s) fun q3 s3 => some ([q3], s3))) := D9 []
theorem Zt : (run cfg).r EO [(.undef, (.ptr i 0)), (a, .val), (b, .val)] s = gy (run cfg) i a b s := Ed (s := RS) Tryz.func52
def A03 := eP Tryz.f53 zX R [] (F5 Tryz.f53 [(a, .val), (b, .val), (c, .val)] [])
theorem yz : A03 R a b c =
 (ob (R6 2 (.list 2 []) a) fun d1 => og (J4 b) <| og (J4 c) <| ob (R6 2 d1 (.list 2 [(.agg [b, c])])) fun d2 => some d2) := D9 []
theorem uL : (run cfg).p Kt [a, b, c] = A03 (run cfg) a b c := O9 Tryz.func53
def bS := eR Tryz.f54 Pd aM R [] (F5 Tryz.f54 [(pt i), (a, .val)] s)
theorem Zd : bS R i a s =
 (ob (dLen a) fun d1 => ob (A8 .eql d1 (iI 0)) fun d2 => D6 d2 (some ([(iI 1)], s)) (ob (dLen a) fun d3 => ob (A8 .sub d3 (iI 1)) fun d4 => ob (F3 3 a d4) fun d5 => ob (R.p H_ [(H8 d5)]) fun d6 => oc (R.r AQ [(pt i), (d6, .val)] s) fun q7 s7 => some ([q7], s7))) := D9 []
theorem X_ : (run cfg).r IB [(.undef, (.ptr i 0)), (a, .val)] s = bS (run cfg) i a s := Ed (s := Pd) Tryz.func54
def ZP := eR Tryz.f55 FC JN R [] (F5 Tryz.f55 [(pt i), (a, .val), (b, .val), (c, .val)] s)
def G_ := hR Tryz.f55 FC JN R (pb 58) (ms 81 [(3, a), (9, b)] [(0, (.ptr i 0))] [(5, bx c 16), (6, bx d 3)] s)
def HV := hR Tryz.f55 FC JN R (pb 29850) (ms 81 [(3, a), (9, b), (10, c), (11, d), (12, e)] [(0, (.ptr i 0))] [(5, bx f 16), (6, bx g 3)] s)
theorem Xx : ZP R i a b c s =
 (og (D5 16 a) <| og (D5 3 b) <| ob (F3 16 (A7 15 a) (iI 0)) fun d1 => ob (F3 3 (A7 2 b) (iI 0)) fun d2 => oc (R.r Y2 [(pt i), ((L6 d1), .val), ((H8 d2), .val), (c, .val)] s) fun q3 s3 => G_ R i c (iI 0) a b s3) := D9 []
theorem LF : G_ R i a b c d s =
 (ob (dLen (A7 14 c)) fun d1 => ob (A8 .lss b d1) fun d2 => I6 d2 (ob (A8 .add b (iI 1)) fun d3 => ob (dLen (A7 15 c)) fun d4 => ob (A8 .lss d3 d4) fun d5 => D6 d5 (ob (F3 7 (A7 14 c) b) fun d6 => ob (R.p Vw [(GD d6)]) fun d7 => HV R i a b a d7 (iI 0) c d s) (oc (R.r IB [(pt i), ((A7 0 d), .val)] s) fun q8 s8 => some ([q8], s8))) (oc (R.r IB [(pt i), ((A7 0 d), .val)] s) fun q9 s9 => some ([q9], s9)) none) := H5 []
theorem LG : HV R i a b c d e f g s =
 (ob (dLen d) fun d1 => ob (A8 .lss e d1) fun d2 => D6 d2 (ob (F3 1 d e) fun d3 => og (M7 d3) <| oc (R.r Bt [(pt i), ((A7 0 g), .val)] s) fun q4 s4 => ob (R.p Kt [c, d3, q4]) fun d5 => ob (A8 .add e (iI 1)) fun d6 => HV R i a b d5 d d6 f g s4) (ob (A8 .add b (iI 1)) fun d7 => ob (F3 16 (A7 15 f) d7) fun d8 => ob (A8 .add b (iI 1)) fun d9 => ob (F3 3 (A7 2 g) d9) fun W9 => oc (R.r Y2 [(pt i), ((L6 d8), .val), ((H8 W9), .val), (c, .val)] s) fun q11 s11 => ob (A8 .add b (iI 1)) fun Ap => G_ R i a Ap f g s11)) := H5 []
theorem Wq : (run cfg).r Qw [(.undef, (.ptr i 0)), (a, .val), (b, .val), (c, .val)] s = ZP (run cfg) i a b c s := Ed (s := FC) Tryz.func55
def bq : Code := Tryz.f56.body.getD .skip
def qm := eP Tryz.f56 Ls R [] (F5 Tryz.f56 [(a, .val)] [])
def bV := eP Tryz.f56 Ls R (pb 26) (ms 10 [(0, a), (3, (.H7 [])), (4, b), (6, (.H7 [])), (7, (.H7 [])), (8, (.H7 [])), (9, (.H7 []))] [(1, (.ptr 0 0)), (2, (.ptr 1 0)), (5, (.fn 124 [(2, 0)]))] [] s)
def qK : Code := match (sub [true, false, true, false] bq []).1 with
 | .rangeFunc _ _ a b => .seq a b
 | c => c
def FK (R : N7) (t0 t4 : DV) (o : Out) (sg : List D7) : Option DV := lT cfg R Ls (Vn cfg.P Tryz.f56) [true, false, true, false] bq o (Y6 ⟨spread .undef 10 0 [(0, t0), (3, (.H7 [])), (4, t4), (6, (.H7 [])), (7, (.H7 [])), (8, (.H7 [])), (9, (.H7 []))], spread .val 10 0 [(1, (.ptr 0 0)), (2, (.ptr 1 0)), (5, (.fn 124 [(2, 0)]))], spread none 10 0 [], []⟩ sg)
def SF (R : N7) (t0 t4 : DV) (I : List D7 → Option DV) (x : DV) (sg : List D7) : Option DV := Ia cfg R Ls (kr I (FK R t0 t4)) [] qK (mst 10 [(6, x)] [(2, (.ptr 1 0))] [] sg)
def IC (R : N7) (t0 t4 : DV) : List DV → List D7 → Option DV := KI (fun x I sg => SF R t0 t4 I x sg) (FK R t0 t4 .normal)
theorem nX : qm R a =
 (og (D5 16 a) <| bV R a (L6 a) [D7.box [((A7 0 a), .val), ((A7 1 a), .val), ((A7 2 a), .val), ((A7 3 a), .val), ((A7 4 a), .val), ((A7 5 a), .val), ((A7 6 a), .val), ((A7 7 a), .val), ((A7 8 a), .val), ((A7 9 a), .val), ((A7 10 a), .val), ((A7 11 a), .val), ((A7 12 a), .val), ((A7 13 a), .val), ((A7 14 a), .val), ((A7 15 a), .val)], D7.box [((iI 0), .val)], D7.box [((A7 0 a), .val), ((A7 1 a), .val), ((A7 2 a), .val), ((A7 3 a), .val), ((A7 4 a), .val), ((A7 5 a), .val), ((A7 6 a), .val), ((A7 7 a), .val), ((A7 8 a), .val), ((A7 9 a), .val), ((A7 10 a), .val), ((A7 11 a), .val), ((A7 12 a), .val), ((A7 13 a), .val), ((A7 14 a), .val), ((A7 15 a), .val)]]) := D9 []
theorem Zn : bV R a b s =
 ob (M4 s 2) fun cs => ob (IP cs) fun cd => ob (JO 16 15 cd) fun ds => IC R a b ds (s.set 2 (.arr 1 [])) := (A7s (t := 5) (f := 124) (i := 2) (q := 6) (it := JO 16 15) (by kernel_rfl) (by kernel_rfl) (by kernel_rfl) (by kernel_rfl)).trans (by kernel_rfl)
theorem Uf (R : N7) (t0 t4 : DV) (sg : List D7) : IC R t0 t4 [] sg = FK R t0 t4 .normal sg := rfl
theorem SV (R : N7) (t0 t4 x : DV) (ds : List DV) (sg : List D7) : IC R t0 t4 (x :: ds) sg = SF R t0 t4 (IC R t0 t4 ds) x sg := rfl
theorem Wi (R : N7) (t0 t4 : DV) (I : List D7 → Option DV) (x : DV) (sg : List D7) : SF R t0 t4 I x sg = (og (D5 16 x) <| ob (R.p kQ [(L6 x)]) fun d1 => ob (Q5 .not d1) fun d2 => D6 d2 (ob (M4 sg 1) fun c3 => ob (c3[0]?) fun u4 => FK R t0 t4 .ret (sg.set 1 (D7.box (c3.set 0 ((iI 1), .val))))) (I sg)) := D9 []
theorem Mo : FK R a b .normal s =
 (ob (M4 s 1) fun c1 =>
 ob (c1[0]?) fun u2 =>
 A5I (ob (M4 (s.set 1 (D7.box (c1.set 0 ((iI 0), .val)))) 1) fun c => oneCell (s.set 1 (D7.box (c1.set 0 ((iI 0), .val)))) c)) := wy [] (by kernel_rfl)
theorem Py : FK R a b .ret s =
 (A5I (ob (M4 s 1) fun c => oneCell s c)) := wy [] (by kernel_rfl)
theorem jM : (run cfg).p SQ [a] = qm (run cfg) a := O9 Tryz.func56
end
end Go.Su

/-
 Equations of the program's functions: by program.
-/
namespace Go.Su
set_option maxRecDepth 100000
noncomputable section
open Go.Proofs
variable (R : N7) (i j k l m n : Nat) (a b c d e f g h o p q r t u v w x y z A B C D E F G H I J K L M N O P Q S T U V W X Y Z a1 a2 a3 a4 a5 a6 a7 a8 a9 ZU Uj a12 a13 a14 Xq a16 a17 a18 a19 a20 a21 a22 a23 a24 a25 a26 a27 a28 a29 a30 a31 a32 a33 a34 a35 a36 a37 a38 a39 a40 a41 a42 a43 a44 a45 a46 a47 a48 a49 a50 a51 a52 a53 a54 a55 a56 a57 a58 a59 : DV) (s : List D7)
def mW := eP Tryz.f57 KF R [] (F5 Tryz.f57 [(a, .val)] [])
def Ku := hP Tryz.f57 KF R (pb 26) (ms 45 [(10, a), (11, b), (12, c)] [] [(1, bx d 3)] [])
def GZ := hP Tryz.f57 KF R (pb 58) (ms 45 [(21, a), (22, b), (23, c)] [] [(1, bx d 3)] [])
def Fa := hP Tryz.f57 KF R (pb 122) (ms 45 [(35, a), (36, b), (37, c)] [] [] [])
theorem iO : mW R a =
 (og (D5 3 a) <| ob (dLen (A7 0 a)) fun d1 => Ku R (A7 0 a) d1 (iI 0) a) := D9 []
theorem PP : Ku R a b c d =
 (ob (A8 .lss c b) fun d1 => D6 d1 (ob (F3 3 a c) fun d2 => ob (R.p Eh [(H8 d2)]) fun d3 => ob (A8 .neq d3 (iI 0)) fun d4 => D6 d4 (some (.bool false)) (ob (A8 .add c (iI 1)) fun d5 => Ku R a b d5 d)) (ob (dLen (A7 1 d)) fun d6 => GZ R (A7 1 d) d6 (iI 0) d)) := H5 []
theorem PQ : GZ R a b c d =
 (ob (A8 .lss c b) fun d1 => D6 d1 (ob (F3 1 a c) fun d2 => og (M7 d2) <| ob (A8 .lss d2 (iI 0)) fun d3 => I6 d3 (some (.bool false)) (ob (A8 .gtr d2 (iI 1048576)) fun d4 => D6 d4 (some (.bool false)) (ob (A8 .add c (iI 1)) fun d5 => GZ R a b d5 d)) none) (ob (dLen (A7 2 d)) fun d6 => Fa R (A7 2 d) d6 (iI 0))) := H5 []
theorem NT : Fa R a b c =
 (ob (A8 .lss c b) fun d1 => D6 d1 (ob (F3 3 a c) fun d2 => ob (R.p QT [(H8 d2)]) fun d3 => ob (Q5 .not d3) fun d4 => D6 d4 (some (.bool false)) (ob (A8 .add c (iI 1)) fun d5 => Fa R a b d5)) (some (.bool true))) := H5 []
theorem dI : (run cfg).p QT [a] = mW (run cfg) a := O9 Tryz.func57
def SY := eR Tryz.f58 Cv FQ R [] (F5 Tryz.f58 [(pt i), (a, .val), (b, .val), (c, .val)] s)
def Ei := eR Tryz.f58 Cv FQ R (pb 15) (ms 182 [(3, a), (10, b)] [(0, (.ptr i 0))] [(5, bx c 16), (6, bx d 3), (8, bv [e, f, g, h, o, p, q, r, t, u, v, w, x, y, z, A, B, C, D, E, F, G, H]), (9, bv [I, J, K, L, M])] s)
def He := eR Tryz.f58 Cv FQ R (pb 2076671) (ms 182 [(3, a), (47, b)] [(0, (.ptr i 0))] [(5, bx c 16), (6, bx d 3), (8, bv [e, f, g, h, o, p, q, r, t, u, v, w, x, y, z, A, B, C, D, E, F, G, H])] s)
theorem Rm : SY R i a b c s =
 (og (D5 16 a) <| og (D5 3 b) <| ob (A8 .eql (A7 0 a) (iI 1)) fun d1 => D6 d1 (ob (R.p ZA [c, (A7 3 a)]) fun d2 => ob (N8 0 d2) fun d3 => ob (N8 1 d2) fun d4 => og (D5 5 d3) <| Ei R i c d4 a b (iI 0) (iI 0) (.list 3 []) (iI 0) (iI 0) (iI 0) (.str ⟨#[]⟩) (.str ⟨#[]⟩) (iI 0) (.str ⟨#[]⟩) (iI 0) (iI 0) (.bool false) (.list 1 []) (iI 0) (iI 0) (.list 3 []) (iI 0) (iI 0) (.list 3 []) (.list 3 []) (.list 7 []) (.list 20 []) (A7 0 d3) (A7 1 d3) (A7 2 d3) (A7 3 d3) (A7 4 d3) s) (Ei R i c (.bool true) a b (iI 0) (iI 0) (.list 3 []) (iI 0) (iI 0) (iI 0) (.str ⟨#[]⟩) (.str ⟨#[]⟩) (iI 0) (.str ⟨#[]⟩) (iI 0) (iI 0) (.bool false) (.list 1 []) (iI 0) (iI 0) (.list 3 []) (iI 0) (iI 0) (.list 3 []) (.list 3 []) (.list 7 []) (.list 20 []) (.str ⟨#[]⟩) (iI 0) (iI 0) (.list 3 []) (.list 1 []) s)) := D9 [4, 26]
theorem Hf : Ei R i a b c d e f g h o p q r t u v w x y z A B C D E F G H I J K L M s =
 (ob (Q5 .not b) fun d1 => D6 d1 (oc (R.r AL [(pt i), ((iI 6), .val)] s) fun q2 s2 => some ([zA4], s2)) (oc (R.r BF [(pt i), ((L6 c), .val), ((H8 d), .val), ((.agg [I, J, K, L, M]), .val)] s) fun q3 s3 => ob (A8 .neq q3 (iI 0)) fun d4 => D6 d4 (oc (R.r AL [(pt i), (q3, .val)] s3) fun q5 s5 => some ([zA4], s5)) (ob (A8 .eql (A7 0 c) (iI 1)) fun d6 => D6 d6 (oc (R.r Ko [(pt i), ((L6 c), .val), ((H8 d), .val), ((.agg [I, J, K, L, M]), .val)] s3) fun q7 s7 => og (D5 23 q7) <| some ([(.agg [(A7 0 q7), (A7 1 q7), (A7 2 q7), (A7 3 q7), (A7 4 q7), (A7 5 q7), (A7 6 q7), (A7 7 q7), (A7 8 q7), (A7 9 q7), (A7 10 q7), (A7 11 q7), (A7 12 q7), (A7 13 q7), (A7 14 q7), (A7 15 q7), (A7 16 q7), (A7 17 q7), (A7 18 q7), (A7 19 q7), (A7 20 q7), (A7 21 q7), (A7 22 q7)])], s7)) (ob (A8 .eql (A7 0 c) (iI 2)) fun d8 =>
 D6 d8 (og (J4 (A7 5 c)) <| some ([(.agg [(iI 1), (iI 0), (.list 3 []), (iI 2), (iI 0), (iI 0), (.str ⟨#[]⟩), (.str ⟨#[]⟩), (A7 5 c), (.str ⟨#[]⟩), (iI 0), (iI 0), (.bool false), (.list 1 []), (iI 0), (iI 0), (.list 3 []), (iI 0), (iI 0), (.list 3 []), (.list 3 []), (.list 7 []), (.list 20 [])])], s3)) (ob (A8 .eql (A7 0 c) (iI 3)) fun d9 => D6 d9 (og (J4 (A7 5 c)) <| some ([(.agg [(iI 2), (iI 0), (.list 3 []), (iI 3), (iI 0), (iI 0), (.str ⟨#[]⟩), (.str ⟨#[]⟩), (A7 5 c), (.str ⟨#[]⟩), (iI 0), (iI 0), (.bool false), (.list 1 []), (iI 0), (iI 0), (.list 3 []), (iI 0), (iI 0), (.list 3 []), (.list 3 []), (.list 7 []), (.list 20 [])])], s3)) (ob (A8 .eql (A7 0 c) (iI 4)) fun W9 => D6 W9 (og (J4 (A7 6 c)) <| some ([(.agg [(iI 3), (iI 0), (.list 3 []), (iI 4), (iI 0), (iI 0), (.str ⟨#[]⟩), (.str ⟨#[]⟩), (iI 0), (A7 6 c), (iI 0), (iI 0), (.bool false), (.list 1 []), (iI 0), (iI 0), (.list 3 []), (iI 0), (iI 0), (.list 3 []), (.list 3 []), (.list 7 []), (.list 20 [])])], s3)) (ob (A8 .eql (A7 0 c) (iI 5)) fun AC =>
 D6 AC (some ([(.agg [(iI 4), (iI 0), (.list 3 []), (iI 5), (iI 0), (iI 0), (.str ⟨#[]⟩), (.str ⟨#[]⟩), (iI 0), (.str ⟨#[]⟩), (iI 0), (iI 0), (.bool false), (.list 1 []), (iI 0), (iI 0), (.list 3 []), (iI 0), (iI 0), (.list 3 []), (.list 3 []), (.list 7 []), (.list 20 [])])], s3)) (ob (A8 .eql (A7 0 c) (iI 6)) fun Ap => D6 Ap (oc (R.r T9 [(pt i), ((L6 c), .val), ((H8 d), .val), ((iI 0), .val), (a, .val)] s3) fun q13 s13 => og (D5 23 q13) <| oc (R.r T9 [(pt i), ((L6 c), .val), ((H8 d), .val), ((iI 1), .val), (a, .val)] s13) fun q14 s14 => og (D5 23 q14) <| some ([(.agg [(iI 7), (iI 0), (.list 3 [(.agg [(A7 0 q13), (A7 1 q13), (A7 2 q13)]), (.agg [(A7 0 q14), (A7 1 q14), (A7 2 q14)])]), (iI 6), (iI 0), (iI 0), (.str ⟨#[]⟩), (.str ⟨#[]⟩), (iI 0), (.str ⟨#[]⟩), (iI 0), (iI 0), (.bool false), (.list 1 []), (iI 0), (iI 0), (.list 3 []), (iI 0), (iI 0), (.list 3 []), (.list 3 []), (.list 7 []), (.list 20 [(.agg [(A7 3 q13), (A7 4 q13), (A7 5 q13), (A7 6 q13), (A7 7 q13), (A7 8 q13), (A7 9 q13), (A7 10 q13), (A7 11 q13), (A7 12 q13), (A7 13 q13), (A7 14 q13), (A7 15 q13), (A7 16 q13), (A7 17 q13), (A7 18 q13), (A7 19 q13), (A7 20 q13), (A7 21 q13), (A7 22 q13)]), (.agg [(A7 3 q14), (A7 4 q14), (A7 5 q14), (A7 6 q14), (A7 7 q14), (A7 8 q14), (A7 9 q14), (A7 10 q14), (A7 11 q14), (A7 12 q14), (A7 13 q14), (A7 14 q14), (A7 15 q14), (A7 16 q14), (A7 17 q14), (A7 18 q14), (A7 19 q14), (A7 20 q14), (A7 21 q14), (A7 22 q14)])])])], s14)) (He R i a (A7 0 c) c d e f g h o p q r t u v w x y z A B C D E F G H s3))))))))) := D9 [4, 26]
theorem NR : He R i a b c d e f g h o p q r t u v w x y z A B C D E F G H s =
 (ob (A8 .eql b (iI 7)) fun d1 => D6 d1 (ob (F3 3 (A7 0 d) (iI 0)) fun d2 => ob (R.p SG [(H8 d2)]) fun d3 => ob (F3 3 (A7 0 d) (iI 0)) fun d4 => og (D5 3 d3) <| some ([(.agg [(A7 0 d3), (A7 1 d3), (A7 2 d3), (iI 7), (iI 0), (iI 0), (.str ⟨#[]⟩), (.str ⟨#[]⟩), (iI 0), (.str ⟨#[]⟩), (iI 0), (iI 0), (.bool false), (.list 1 []), (A7 0 d4), (A7 1 d4), (A7 2 d4), (iI 0), (iI 0), (.list 3 []), (.list 3 []), (.list 7 []), (.list 20 [])])], s)) (ob (A8 .eql b (iI 8)) fun d5 => D6 d5 (ob (F3 3 (A7 0 d) (iI 0)) fun d6 => ob (R.p SG [(H8 d6)]) fun d7 => og (D5 3 d7) <| ob (F3 3 (A7 0 d) (iI 0)) fun d8 => oc (R.r M6 [(pt i), ((L6 c), .val), ((H8 d), .val), ((iI 0), .val), (a, .val), ((H8 d8), .val)] s) fun q9 s9 => og (D5 20 q9) <| oc (R.r M6 [(pt i), ((L6 c), .val), ((H8 d), .val), ((iI 1), .val), (a, .val), ((H8 d7), .val)] s9) fun q10 s10 => og (D5 20 q10) <| some ([(.agg [(A7 0 d7), (A7 1 d7), (A7 2 d7), (iI 8), (iI 0), (iI 0), (.str ⟨#[]⟩), (.str ⟨#[]⟩), (iI 0), (.str ⟨#[]⟩), (iI 0), (iI 0), (.bool false), (.list 1 []), (iI 0), (iI 0), (.list 3 []), (iI 0), (iI 0), (.list 3 []), (.list 3 []), (.list 7 []), (.list 20 [(.agg [(A7 0 q9), (A7 1 q9), (A7 2 q9), (A7 3 q9), (A7 4 q9), (A7 5 q9), (A7 6 q9), (A7 7 q9), (A7 8 q9), (A7 9 q9), (A7 10 q9), (A7 11 q9), (A7 12 q9), (A7 13 q9), (A7 14 q9), (A7 15 q9), (A7 16 q9), (A7 17 q9), (A7 18 q9), (A7 19 q9)]), (.agg [(A7 0 q10), (A7 1 q10), (A7 2 q10), (A7 3 q10), (A7 4 q10), (A7 5 q10), (A7 6 q10), (A7 7 q10), (A7 8 q10), (A7 9 q10), (A7 10 q10), (A7 11 q10), (A7 12 q10), (A7 13 q10), (A7 14 q10), (A7 15 q10), (A7 16 q10), (A7 17 q10), (A7 18 q10), (A7 19 q10)])])])], s10)) (ob (A8 .eql b (iI 9)) fun AC =>
 D6 AC (ob (R.p L_ [(.agg [(A7 8 c), (A7 9 c), (A7 10 c)]), (A7 0 d)]) fun Ap => og (D5 3 Ap) <| og (J4 (A7 3 c)) <| oc (R.r Br [(a, .val), ((.list 5 [(.agg [(A7 3 c), (A7 0 Ap), (A7 1 Ap), (A7 2 Ap), (.list 1 [])])]), .val)] s) fun q13 s13 => oc (R.r T9 [(pt i), ((L6 c), .val), ((H8 d), .val), ((iI 0), .val), (q13, .val)] s13) fun q14 s14 => og (D5 23 q14) <| ob (R.p Lx [(H8 Ap), (.agg [(A7 0 q14), (A7 1 q14), (A7 2 q14)])]) fun Gg => og (J4 (A7 3 c)) <| og (D5 3 Gg) <| some ([(.agg [(A7 0 Gg), (A7 1 Gg), (A7 2 Gg), (iI 9), (iI 0), (iI 0), (A7 3 c), (.str ⟨#[]⟩), (iI 0), (.str ⟨#[]⟩), (iI 0), (iI 0), (.bool false), (.list 1 []), (A7 0 Ap), (A7 1 Ap), (A7 2 Ap), (iI 0), (iI 0), (.list 3 []), (.list 3 []), (.list 7 []), (.list 20 [(.agg [(A7 3 q14), (A7 4 q14), (A7 5 q14), (A7 6 q14), (A7 7 q14), (A7 8 q14), (A7 9 q14), (A7 10 q14), (A7 11 q14), (A7 12 q14), (A7 13 q14), (A7 14 q14), (A7 15 q14), (A7 16 q14), (A7 17 q14), (A7 18 q14), (A7 19 q14), (A7 20 q14), (A7 21 q14), (A7 22 q14)])])])], s14)) (oc (R.r Kn [(pt i), ((L6 c), .val), ((H8 d), .val), (a, .val)] s) fun q16 s16 =>
 og (D5 23 q16) <| some ([(.agg [(A7 0 q16), (A7 1 q16), (A7 2 q16), (A7 3 q16), (A7 4 q16), (A7 5 q16), (A7 6 q16), (A7 7 q16), (A7 8 q16), (A7 9 q16), (A7 10 q16), (A7 11 q16), (A7 12 q16), (A7 13 q16), (A7 14 q16), (A7 15 q16), (A7 16 q16), (A7 17 q16), (A7 18 q16), (A7 19 q16), (A7 20 q16), (A7 21 q16), (A7 22 q16)])], s16))))) := D9 [4, 26]
theorem QF : (run cfg).r Fs [(.undef, (.ptr i 0)), (a, .val), (b, .val), (c, .val)] s = SY (run cfg) i a b c s := Ed (s := Cv) Tryz.func58
def WT := eR Tryz.f59 La Uo R [] (F5 Tryz.f59 [(pt i)] s)
theorem Uk : WT R i s =
 (ob (M4 s i) fun c1 => ob (X5 c1 3) fun d2 => ob (A8 .eql d2 (iI 0)) fun d3 => some ([d3], s)) := D9 []
theorem Tn : (run cfg).r AU [(.undef, (.ptr i 0))] s = WT (run cfg) i s := Ed (s := La) Tryz.func59
def WC := eR Tryz.f60 CK Dk R [] (F5 Tryz.f60 [(pt i), (a, .val), (b, .val), (c, .val), (d, .val)] s)
def Qg := eR Tryz.f60 CK Dk R (pb 15) (ms 139 [(4, a), (11, b), (12, c)] [(0, (.ptr i 0))] [(6, bx d 16), (7, bx e 3)] s)
def Jh := eR Tryz.f60 CK Dk R (pb 31) (ms 139 [(4, a)] [(0, (.ptr i 0))] [(7, bx b 3)] s)
def IK := hR Tryz.f60 CK Dk R (pb 506) (ms 139 [(14, a), (15, b)] [(0, (.ptr i 0)), (14, .own)] [(7, bx c 3)] s)
def OY := eR Tryz.f60 CK Dk R (pb 16201) (ms 139 [(14, a), (15, b)] [(0, (.ptr i 0)), (14, .own)] [(7, bx c 3)] s)
def FJ := hR Tryz.f60 CK Dk R (pb 1018) (ms 139 [(14, a), (16, b)] [(0, (.ptr i 0))] [(7, bx c 3)] s)
def Ji := eR Tryz.f60 CK Dk R (pb 32585) (ms 139 [(14, a), (16, b)] [(0, (.ptr i 0))] [(7, bx c 3)] s)
def IL := hR Tryz.f60 CK Dk R (pb 260686) (ms 139 [(14, a), (16, b), (17, c), (18, d)] [(0, (.ptr i 0))] [(7, bx e 3)] s)
theorem sV : WC R i a b c d s =
 (og (D5 16 a) <| og (D5 3 b) <| ob (R.p qP [(L6 a)]) fun d1 => ob (N8 0 d1) fun d2 => ob (N8 1 d1) fun d3 => ob (A8 .eql (A7 0 a) (iI 1)) fun d4 => D6 d4 (ob (R.p YQ [c, (A7 3 a)]) fun d5 => ob (A8 .lss d5 (iI 0)) fun d6 => D6 d6 (oc (R.r BM [(pt i), ((iI 6), .val)] s) fun q7 s7 => some ([(.list 1 [])], s7)) (ob (F3 5 c d5) fun d8 => ob (dLen (A7 4 d8)) fun d9 => Qg R i d d9 d3 a b s)) (Qg R i d d2 d3 a b s)) := D9 [8, 11, 17, 23]
theorem iV : Qg R i a b c d e s =
 (ob (dLen (A7 2 e)) fun d1 => ob (dLen (A7 15 d)) fun d2 => ob (A8 .neq d1 d2) fun d3 => I6 d3 (oc (R.r BM [(pt i), ((iI 8), .val)] s) fun q4 s4 => some ([(.list 1 [])], s4)) (ob (dLen (A7 0 e)) fun d5 => ob (A8 .neq d5 b) fun d6 => I6 d6 (oc (R.r BM [(pt i), ((iI 8), .val)] s) fun q7 s7 => some ([(.list 1 [])], s7)) (ob (dLen (A7 1 e)) fun d8 => ob (A8 .gtr d8 (iI 0)) fun d9 => I6 d9 (ob (Q5 .not c) fun W9 => D6 W9 (oc (R.r BM [(pt i), ((iI 8), .val)] s) fun q11 s11 => some ([(.list 1 [])], s11)) (Jh R i a e s)) (Jh R i a e s) none) none) none) := D9 [8, 11, 17, 23]
theorem cZ : Jh R i a b s =
 (ob (R6 1 (.list 1 []) a) fun d1 => IK R i d1 (iI 0) b s) := D9 [8, 11, 17, 23]
theorem RH : IK R i a b c s =
 (ob (dLen (A7 1 c)) fun d1 => ob (A8 .lss b d1) fun d2 => D6 d2 (ob (F3 1 (A7 1 c) b) fun d3 => og (M7 d3) <| ob (R.p ZF [a, d3]) fun d4 => D6 d4 (oc (R.r BM [(pt i), ((iI 6), .val)] s) fun q5 s5 => OY R i a b c s5) (OY R i a b c s)) (FJ R i a (iI 0) c s)) := H5 [8, 11, 17, 23]
theorem cu : OY R i a b c s =
 (ob (F3 1 (A7 1 c) b) fun d1 => og (M7 d1) <| og (J4 d1) <| ob (R6 1 a (.list 1 [d1])) fun d2 => ob (A8 .add b (iI 1)) fun d3 => IK R i d2 d3 c s) := D9 [8, 11, 17, 23]
theorem RI : FJ R i a b c s =
 (ob (dLen (A7 0 c)) fun d1 => ob (A8 .lss b d1) fun d2 => D6 d2 (ob (M4 s i) fun c3 => ob (X5 c3 1) fun d4 => ob (Q5 .not d4) fun d5 => I6 d5 (ob (F3 3 (A7 0 c) b) fun d6 => ob (R.p FV [(H8 d6), (iI 5)]) fun d7 => ob (Q5 .not d7) fun d8 => D6 d8 (oc (R.r BM [(pt i), ((iI 9), .val)] s) fun q9 s9 => Ji R i a b c s9) (Ji R i a b c s)) (Ji R i a b c s) none) (some ([a], s))) := H5 [8, 11, 17, 23]
theorem cz : Ji R i a b c s =
 (ob (F3 3 (A7 0 c) b) fun d1 => ob (R.p YK [(H8 d1)]) fun d2 => IL R i a b d2 (iI 0) c s) := D9 [8, 11, 17, 23]
theorem RJ : IL R i a b c d e s =
 (ob (dLen c) fun d1 => ob (A8 .lss d d1) fun d2 => D6 d2 (ob (F3 1 c d) fun d3 => og (M7 d3) <| ob (R.p ZF [a, d3]) fun d4 => ob (Q5 .not d4) fun d5 => D6 d5 (oc (R.r BM [(pt i), ((iI 6), .val)] s) fun q6 s6 => ob (A8 .add d (iI 1)) fun d7 => IL R i a b c d7 e s6) (ob (A8 .add d (iI 1)) fun d8 => IL R i a b c d8 e s)) (ob (A8 .add b (iI 1)) fun d9 => FJ R i a d9 e s)) := H5 [8, 11, 17, 23]
theorem pF : (run cfg).r Pm [(.undef, (.ptr i 0)), (a, .val), (b, .val), (c, .val), (d, .val)] s = WC (run cfg) i a b c d s := Ed (s := CK) Tryz.func60
theorem A2o (x0 : Nat) (x1 x2 x3 x4 : DV) (sg : List D7) {q : List DV × List D7} (h : WC (run cfg) x0 x1 x2 x3 x4 sg = some q) : (run cfg).r Pm [(.undef, (.ptr x0 0)), (x1, .val), (x2, .val), (x3, .val), (x4, .val)] sg = some q := (pF x0 x1 x2 x3 x4 sg).trans h
def A02 := eP Tryz.f61 gH R [] (F5 Tryz.f61 [(a, .val), (b, .val)] [])
def Qh := hP Tryz.f61 gH R (pb 28) (ms 23 [(0, a), (1, b), (5, c)] [] [] [])
theorem yx : A02 R a b =
 (ob (dLen a) fun d1 => ob (A8 .sub d1 (iI 1)) fun d2 => Qh R a b d2) := D9 []
theorem Og : Qh R a b c =
 (ob (A8 .geq c (iI 0)) fun d1 => I6 d1 (ob (F3 5 a c) fun d2 => ob (A8 .neq (A7 0 d2) b) fun d3 => D6 d3 (ob (A8 .sub c (iI 1)) fun d4 => Qh R a b d4) (some c)) (some c) none) := H5 []
theorem uK : (run cfg).p YQ [a, b] = A02 (run cfg) a b := O9 Tryz.func61
def A24 := eP Tryz.f62 YZ R [] (F5 Tryz.f62 [(a, .val), (b, .val)] [])
def Sn := hP Tryz.f62 YZ R (pb 210) (ms 54 [(1, a), (5, b)] [] [(2, bx c 3), (4, some zb4)] [])
def Qf := hP Tryz.f62 YZ R (pb 122) (ms 54 [(1, a), (7, b)] [] [(2, bx c 3), (4, some zb4), (6, some [(d, .val), ((iI 0), .val), (e, .own)])] [])
theorem A1u : A24 R a b =
 (og (D5 3 a) <| ob (A8 .eql (A7 0 a) (iI 6)) fun d1 => D6 d1 (Sn R b (iI 0) a) (og (J4 (A7 0 a)) <| Qf R b (iI 0) a (A7 0 a) (.list 3 []))) := D9 []
theorem XW : Sn R a b c =
 (ob (dLen a) fun d1 => ob (A8 .lss b d1) fun d2 => D6 d2 (ob (F3 4 a b) fun d3 => ob (A8 .eql (A7 0 d3) (A7 1 c)) fun d4 => D6 d4 (ob (F3 4 a b) fun d5 => some (.agg [(A7 1 d5), (A7 2 d5), (A7 3 d5)])) (ob (A8 .add b (iI 1)) fun d6 => Sn R a d6 c)) (some (H8 c))) := H5 []
theorem VP : Qf R a b c d e =
 (ob (dLen (A7 2 c)) fun d1 => ob (A8 .lss b d1) fun d2 => D6 d2 (ob (F3 3 (A7 2 c) b) fun d3 => ob (R.p bP [(H8 d3), a]) fun d4 => og (D5 3 d4) <| ob (R6 3 e (.list 3 [d4])) fun d5 => ob (A8 .add b (iI 1)) fun d6 => Qf R a d6 c d d5) (some (.agg [d, (iI 0), e]))) := H5 []
theorem zK : (run cfg).p bP [a, b] = A24 (run cfg) a b := O9 Tryz.func62
def yB := eP Tryz.f63 aL R [] (F5 Tryz.f63 [(a, .val), (b, .val)] [])
def OW := hP Tryz.f63 aL R (pb 58) (ms 26 [(0, a), (1, b), (5, c), (6, d)] [(5, .own)] [] [])
theorem sQ : yB R a b =
 (OW R a b (.list 4 []) (iI 0)) := D9 []
theorem Tc : OW R a b c d =
 (ob (dLen a) fun d1 => ob (A8 .lss d d1) fun d2 => D6 d2 (ob (F3 1 a d) fun d3 => og (M7 d3) <| ob (F3 3 b d) fun d4 => og (J4 d3) <| ob (R6 4 c (.list 4 [(.agg [d3, (A7 0 d4), (A7 1 d4), (A7 2 d4)])])) fun d5 => ob (A8 .add d (iI 1)) fun d6 => OW R a b d5 d6) (some c)) := H5 []
theorem oz : (run cfg).p fG [a, b] = yB (run cfg) a b := O9 Tryz.func63
def yE := eR Tryz.f64 Xo uf R [] (F5 Tryz.f64 [(pt i), (a, .val), (b, .val), (c, .val), (d, .val), (e, .val), (f, (.AO [.val, .val, .val, .own]))] s)
theorem Zh : yE R i a b c d e f s =
 (og (D5 16 a) <| og (D5 3 b) <| og (D5 4 f) <| ob (M4 s i) fun c1 => ob (X5 c1 0) fun d2 => ob (A8 .neq d2 (iI 0)) fun d3 => D6 d3 (some ([(.agg [(A7 0 f), (A7 1 f), (A7 2 f), (A7 3 f)])], s)) (ob (F3 16 (A7 15 a) c) fun d4 => ob (F3 3 (A7 2 b) c) fun d5 => oc (R.r SL [(pt i), ((L6 d4), .val), ((H8 d5), .val), (d, .val), (e, .val)] s) fun q6 s6 => og (D5 4 q6) <| ob (R6 4 (A7 3 f) (.list 4 [q6])) fun d7 => some ([(.agg [(A7 0 f), (A7 1 f), (A7 2 f), d7])], s6))) := D9 []
theorem XZ : (run cfg).r j4 [(.undef, (.ptr i 0)), (a, .val), (b, .val), (c, .val), (d, .val), (e, .val), (f, (.AO [.val, .val, .val, .own]))] s = yE (run cfg) i a b c d e f s := Ed (s := Xo) Tryz.func64
def kS := eP Tryz.f65 zW R [] (F5 Tryz.f65 [(a, .val), (b, .val)] [])
theorem fo : kS R a b =
 (og (D5 4 a) <| ob (dLen (A7 3 a)) fun d1 => ob (A8 .lss b d1) fun d2 => D6 d2 (ob (F3 4 (A7 3 a) b) fun d3 => some (H8 d3)) (some (.agg [(iI 0), (iI 0), (.list 3 [])]))) := D9 []
theorem Zu : (run cfg).p Z9 [a, b] = kS (run cfg) a b := O9 Tryz.func65
theorem nD (x0 x1 : DV) {d : DV} (h : kS (run cfg) x0 x1 = some d) : (run cfg).p Z9 [x0, x1] = some d := (Zu x0 x1).trans h
def A0Q := eP Tryz.f66 zP R [] (F5 Tryz.f66 [(a, .val)] [])
theorem yY : A0Q R a =
 (og (D5 3 a) <| some (.agg [(iI 8), (iI 0), (.list 3 [(H8 a)])])) := D9 []
theorem tu : (run cfg).p SI [a] = A0Q (run cfg) a := O9 Tryz.func66
def qf := eR Tryz.f67 Vr pW R [] (F5 Tryz.f67 [(pt i), (a, .val), (b, .val)] s)
theorem XX : qf R i a b s =
 (og (D5 3 a) <| og (D5 3 b) <| ob (M4 s i) fun c1 => ob (X5 c1 0) fun d2 => ob (A8 .eql d2 (iI 0)) fun d3 => I6 d3 (ob (R.p Vz [(H8 a), (H8 b)]) fun d4 => ob (Q5 .not d4) fun d5 => D6 d5 (ob (M4 s i) fun c6 => ob (c6[0]?) fun u7 => some ([], (s.set i (D7.box (c6.set 0 ((iI 4), .val)))))) (some ([], s))) (some ([], s)) none) := D9 []
theorem VZ : (run cfg).r BL [(.undef, (.ptr i 0)), (a, .val), (b, .val)] s = qf (run cfg) i a b s := Ed (s := Vr) Tryz.func67
def yF := eP Tryz.f68 ug R [] (F5 Tryz.f68 [(a, .val), (b, .val)] [])
theorem su : yF R a b =
 (og (D5 3 a) <| ob (R.p Fu [(H8 a)]) fun d1 => D6 d1 (ob (F3 3 b (iI 0)) fun d2 => some (H8 d2)) (some (H8 a))) := D9 []
theorem pG : (run cfg).p V_ [a, b] = yF (run cfg) a b := O9 Tryz.func68
def yG := eP Tryz.f69 uh R [] (F5 Tryz.f69 [(a, .val), (b, .val), (c, .val)] [])
theorem tC : yG R a b c =
 (og (D5 3 c) <| ob (R6 5 (.list 5 []) a) fun d1 => og (J4 b) <| ob (R6 5 d1 (.list 5 [(.agg [b, (A7 0 c), (A7 1 c), (A7 2 c), (.list 1 [])])])) fun d2 => some d2) := D9 []
theorem pI : (run cfg).p Pn [a, b, c] = yG (run cfg) a b c := O9 Tryz.func69
def yD := eR Tryz.f70 Xn uZ R [] (F5 Tryz.f70 [(pt i), (a, .val), (b, .val), (c, .val), (d, .val)] s)
theorem sU : yD R i a b c d s =
 (og (D5 16 a) <| og (D5 3 b) <| oc (R.r j4 [(pt i), ((L6 a), .val), ((H8 b), .val), ((iI 0), .val), (c, .val), (d, .val), ((.agg [(iI 0), (iI 0), (.list 3 []), (.list 4 [])]), (.AO [.val, .val, .val, .own]))] s) fun q1 s1 => og (D5 4 q1) <| oc (R.r j4 [(pt i), ((L6 a), .val), ((H8 b), .val), ((iI 1), .val), (c, .val), (d, .val), ((.agg [(A7 0 q1), (A7 1 q1), (A7 2 q1), (A7 3 q1)]), (.AO [.val, .val, .val, .own]))] s1) fun q2 s2 => og (D5 4 q2) <| ob (M4 s2 i) fun c3 => ob (X5 c3 0) fun d4 => ob (A8 .neq d4 (iI 0)) fun d5 => D6 d5 (some ([(.agg [(A7 0 q2), (A7 1 q2), (A7 2 q2), (A7 3 q2)])], s2)) (ob (R.p Z9 [(.agg [(A7 0 q2), (A7 1 q2), (A7 2 q2), (A7 3 q2)]), (iI 0)]) fun d6 => og (D5 3 d6) <| ob (A8 .eql (A7 0 d6) (iI 5)) fun d7 => D6 d7 (ob (R.p Z9 [(.agg [(A7 0 q2), (A7 1 q2), (A7 2 q2), (A7 3 q2)]), (iI 1)]) fun d8 =>
 oc (R.r BL [(pt i), (d8, .val), ((H8 d6), .val)] s2) fun q9 s9 => some ([(.agg [(A7 0 d6), (A7 1 d6), (A7 2 d6), (A7 3 q2)])], s9)) (ob (A8 .eql (A7 0 d6) (iI 9)) fun W9 => D6 W9 (ob (R.p Z9 [(.agg [(A7 0 q2), (A7 1 q2), (A7 2 q2), (A7 3 q2)]), (iI 1)]) fun AC => ob (F3 3 (A7 2 d6) (iI 0)) fun Ap => oc (R.r BL [(pt i), (AC, .val), ((H8 Ap), .val)] s2) fun q13 s13 => ob (F3 3 (A7 2 d6) (iI 1)) fun FP => some ([(.agg [(A7 0 FP), (A7 1 FP), (A7 2 FP), (A7 3 q2)])], s13)) (oc (R.r BM [(pt i), ((iI 4), .val)] s2) fun q15 s15 => some ([(.agg [(A7 0 q2), (A7 1 q2), (A7 2 q2), (A7 3 q2)])], s15))))) := D9 []
theorem pE : (run cfg).r fI [(.undef, (.ptr i 0)), (a, .val), (b, .val), (c, .val), (d, .val)] s = yD (run cfg) i a b c d s := Ed (s := Xn) Tryz.func70
end
end Go.Su

/-
 Equations of the program's functions: by program.
-/
namespace Go.Su
set_option maxRecDepth 100000
noncomputable section
open Go.Proofs
variable (R : N7) (i j k l m n : Nat) (a b c d e f g h o p q r t u v w x y z A B C D E F G H I J K L M N O P Q S T U V W X Y Z a1 a2 a3 a4 a5 a6 a7 a8 a9 ZU Uj a12 a13 a14 Xq a16 a17 a18 a19 a20 a21 a22 a23 a24 a25 a26 a27 a28 a29 a30 a31 a32 a33 a34 a35 a36 a37 a38 a39 a40 a41 a42 a43 a44 a45 a46 a47 a48 a49 a50 a51 a52 a53 a54 a55 a56 a57 a58 a59 : DV) (s : List D7)
def fQ := eR Tryz.f71 Hw Nb R [] (F5 Tryz.f71 [(pt i), (a, .val), (b, .val), (c, .val), (d, .val), (e, .val)] s)
def XP := eR Tryz.f71 Hw Nb R (pb 2007) (ms 108 [(3, a), (4, b), (5, c)] [(0, (.ptr i 0))] [(7, bx d 16), (8, bx e 3), (12, some zb3), (13, bv [f, (iI 0), (iI 0), (.list 3 []), g]), (15, bv [h, o, p]), (16, bx q 3)] s)
def OX := eR Tryz.f71 Hw Nb R (pb 63) (ms 108 [(3, a), (4, b), (5, c), (14, d)] [(0, (.ptr i 0))] [(7, bx e 16), (8, bx f 3), (12, some zb3), (13, bv [g, h, o, p, q]), (15, bv [r, t, u])] s)
def GU := eR Tryz.f71 Hw Nb R (pb 255) (ms 108 [(3, a), (4, b)] [(0, (.ptr i 0))] [(7, bx c 16), (8, bx d 3), (12, bv [e, f, g, h]), (13, bv [o, p, q, r, t]), (17, some [(u, .val), (v, .val), (w, .val), (x, .own)])] s)
theorem Zi : fQ R i a b c d e s =
 (og (D5 16 a) <| og (D5 3 b) <| og (J4 (A7 3 a)) <| og (J4 (A7 1 b)) <| ob (A8 .eql (A7 0 a) (iI 12)) fun d1 => D6 d1 (ob (R.p V_ [(.agg [(A7 8 a), (A7 9 a), (A7 10 a)]), (A7 0 b)]) fun d2 => og (D5 3 d2) <| ob (R.p Fu [(.agg [(A7 11 a), (A7 12 a), (A7 13 a)])]) fun d3 => D6 d3 (ob (dLen (A7 0 b)) fun d4 => ob (A8 .sub d4 (iI 1)) fun d5 => ob (F3 3 (A7 0 b) d5) fun d6 => XP R i c d e a b (A7 3 a) (A7 1 b) (A7 0 d6) (A7 1 d6) (A7 2 d6) d2 s) (XP R i c d e a b (A7 3 a) (A7 1 b) (A7 11 a) (A7 12 a) (A7 13 a) d2 s)) (OX R i c d e c a b (A7 3 a) (iI 0) (iI 0) (.list 3 []) (A7 1 b) (iI 0) (iI 0) (.list 3 []) s)) := D9 [9, 11, 18]
theorem VR : XP R i a b c d e f g h o p q s =
 (ob (R.p IA [(iI 9), (H8 q), (.agg [h, o, p])]) fun d1 => og (D5 3 d1) <| ob (R.p Pn [a, (A7 3 d), (H8 d1)]) fun d2 => ob (R.p Pn [d2, (A7 4 d), (H8 q)]) fun d3 => OX R i a b c d3 d e f (A7 0 d1) (A7 1 d1) (A7 2 d1) g h o p s) := D9 [9, 11, 18]
theorem Td : OX R i a b c d e f g h o p q r t u s =
 (oc (R.r j4 [(pt i), ((L6 e), .val), ((H8 f), .val), ((iI 0), .val), (d, .val), (c, .val), ((.agg [(iI 0), (iI 0), (.list 3 []), (.list 4 [])]), (.AO [.val, .val, .val, .own]))] s) fun q1 s1 => og (D5 4 q1) <| ob (A8 .eql (A7 0 e) (iI 12)) fun d2 => D6 d2 (ob (R.p Z9 [(.agg [(A7 0 q1), (A7 1 q1), (A7 2 q1), (A7 3 q1)]), (iI 0)]) fun d3 => oc (R.r BL [(pt i), (d3, .val), ((.agg [r, t, u]), .val)] s1) fun q4 s4 => GU R i a b e f (iI 0) (iI 0) (.list 3 []) (.list 4 []) g h o p q (A7 0 q1) (A7 1 q1) (A7 2 q1) (A7 3 q1) s4) (ob (R.p Fu [(.agg [(A7 8 e), (A7 9 e), (A7 10 e)])]) fun d5 => D6 d5 (ob (R.p Z9 [(.agg [(A7 0 q1), (A7 1 q1), (A7 2 q1), (A7 3 q1)]), (iI 0)]) fun d6 => og (D5 3 d6) <| GU R i a b e f (iI 0) (iI 0) (.list 3 []) (.list 4 []) g (A7 0 d6) (A7 1 d6) (A7 2 d6) q (A7 0 q1) (A7 1 q1) (A7 2 q1) (A7 3 q1) s1) (ob (R.p Z9 [(.agg [(A7 0 q1), (A7 1 q1), (A7 2 q1), (A7 3 q1)]), (iI 0)]) fun d7 =>
 oc (R.r BL [(pt i), (d7, .val), ((.agg [(A7 8 e), (A7 9 e), (A7 10 e)]), .val)] s1) fun q8 s8 => GU R i a b e f (iI 0) (iI 0) (.list 3 []) (.list 4 []) g (A7 8 e) (A7 9 e) (A7 10 e) q (A7 0 q1) (A7 1 q1) (A7 2 q1) (A7 3 q1) s8))) := D9 [9, 11, 18]
theorem Te : GU R i a b c d e f g h o p q r t u v w x s =
 (ob (R6 5 (.list 5 []) a) fun d1 => ob (R6 5 d1 (.list 5 [(.agg [o, p, q, r, t])])) fun d2 => oc (R.r j4 [(pt i), ((L6 c), .val), ((H8 d), .val), ((iI 1), .val), (d2, .val), (b, .val), ((.agg [u, v, w, x]), (.AO [.val, .val, .val, .own]))] s) fun q3 s3 => og (D5 4 q3) <| ob (R.p Z9 [(.agg [(A7 0 q3), (A7 1 q3), (A7 2 q3), (A7 3 q3)]), (iI 1)]) fun d4 => og (D5 3 d4) <| some ([(.agg [(A7 0 d4), (A7 1 d4), (A7 2 d4), (A7 3 q3)])], s3)) := D9 [9, 11, 18]
theorem Xa : (run cfg).r Pk [(.undef, (.ptr i 0)), (a, .val), (b, .val), (c, .val), (d, .val), (e, .val)] s = fQ (run cfg) i a b c d e s := Ed (s := Hw) Tryz.func71
def mh := eR Tryz.f72 FU KH R [] (F5 Tryz.f72 [(pt i), (a, .val), (b, .val), (c, .val), (d, .val)] s)
def Gb := hR Tryz.f72 FU KH R (pb 122) (ms 111 [(3, a), (4, b), (12, c)] [(0, (.ptr i 0))] [(6, bx d 16), (7, bx e 3), (10, bv [f, g, h, o]), (11, some [(p, .val), (q, .val), (r, .val), (t, .own)])] s)
def Mj := eR Tryz.f72 FU KH R (pb 7827) (ms 111 [(3, a), (4, b), (12, c), (13, d)] [(0, (.ptr i 0))] [(6, bx e 16), (7, bx f 3), (10, bv [g, h, o, p]), (11, some [(q, .val), (r, .val), (t, .val), (u, .own)])] s)
def CZ := hR Tryz.f72 FU KH R (pb 125242) (ms 111 [(3, a), (4, b), (12, c), (13, d), (15, e), (16, f)] [(0, (.ptr i 0)), (15, .own)] [(6, bx g 16), (7, bx h 3), (10, bv [o, p, q, r]), (11, some [(t, .val), (u, .val), (v, .val), (w, .own)])] s)
theorem iU : mh R i a b c d s =
 (og (D5 16 a) <| og (D5 3 b) <| oc (R.r j4 [(pt i), ((L6 a), .val), ((H8 b), .val), ((iI 0), .val), (c, .val), (d, .val), ((.agg [(iI 0), (iI 0), (.list 3 []), (.list 4 [])]), (.AO [.val, .val, .val, .own]))] s) fun q1 s1 => og (D5 4 q1) <| ob (R.p Z9 [(.agg [(A7 0 q1), (A7 1 q1), (A7 2 q1), (A7 3 q1)]), (iI 0)]) fun d2 => ob (F3 3 (A7 0 b) (iI 0)) fun d3 => oc (R.r BL [(pt i), (d2, .val), ((H8 d3), .val)] s1) fun q4 s4 => Gb R i c d (iI 0) a b (iI 0) (iI 0) (.list 3 []) (.list 4 []) (A7 0 q1) (A7 1 q1) (A7 2 q1) (A7 3 q1) s4) := D9 [9]
theorem JJ : Gb R i a b c d e f g h o p q r t s =
 (ob (dLen (A7 14 d)) fun d1 => ob (A8 .lss c d1) fun d2 => I6 d2 (ob (M4 s i) fun c3 => ob (X5 c3 0) fun d4 => ob (A8 .eql d4 (iI 0)) fun d5 => D6 d5 (ob (F3 7 (A7 14 d) c) fun d6 => ob (F3 3 (A7 0 e) (iI 0)) fun d7 => ob (R.r Cw [((GD d6), .val), ((H8 d7), .val), ((.list 4 []), .own)] s) fun q8 => ob (N8 0 (.H7 q8.1)) fun d9 => ob (N8 1 (.H7 q8.1)) fun W9 => ob (Q5 .not W9) fun AC => D6 AC (oc (R.r BM [(pt i), ((iI 4), .val)] q8.2) fun q12 s12 => Mj R i a b c d9 d e f g h o p q r t s12) (Mj R i a b c d9 d e f g h o p q r t q8.2)) (ob (F3 3 (A7 0 e) (iI 1)) fun EL => some ([(.agg [(A7 0 EL), (A7 1 EL), (A7 2 EL), t])], s))) (ob (F3 3 (A7 0 e) (iI 1)) fun FP => some ([(.agg [(A7 0 FP), (A7 1 FP), (A7 2 FP), t])], s)) none) := H5 [9]
theorem Zj : Mj R i a b c d e f g h o p q r t u s =
 (ob (R6 5 (.list 5 []) a) fun d1 => CZ R i a b c d d1 (iI 0) e f g h o p q r t u s) := D9 [9]
theorem IZ : CZ R i a b c d e f g h o p q r t u v w s =
 (ob (dLen d) fun d1 => ob (A8 .lss f d1) fun d2 => D6 d2 (ob (F3 4 d f) fun d3 => ob (F3 4 d f) fun d4 => og (J4 (A7 0 d3)) <| ob (R6 5 e (.list 5 [(.agg [(A7 0 d3), (A7 1 d4), (A7 2 d4), (A7 3 d4), (.list 1 [])])])) fun d5 => ob (A8 .add f (iI 1)) fun d6 => CZ R i a b c d d5 d6 g h o p q r t u v w s) (ob (A8 .add c (iI 1)) fun d7 => oc (R.r j4 [(pt i), ((L6 g), .val), ((H8 h), .val), (d7, .val), (e, .val), (b, .val), ((.agg [t, u, v, w]), (.AO [.val, .val, .val, .own]))] s) fun q8 s8 => og (D5 4 q8) <| ob (A8 .add c (iI 1)) fun d9 => ob (R.p Z9 [(.agg [(A7 0 q8), (A7 1 q8), (A7 2 q8), (A7 3 q8)]), d9]) fun W9 => ob (F3 3 (A7 0 h) (iI 1)) fun AC => oc (R.r BL [(pt i), (W9, .val), ((H8 AC), .val)] s8) fun q12 s12 => ob (A8 .add c (iI 1)) fun EL => Gb R i a b EL g h o p q r (A7 0 q8) (A7 1 q8) (A7 2 q8) (A7 3 q8) s12)) := H5 [9]
theorem dM : (run cfg).r XN [(.undef, (.ptr i 0)), (a, .val), (b, .val), (c, .val), (d, .val)] s = mh (run cfg) i a b c d s := Ed (s := FU) Tryz.func72
def qg := eR Tryz.f73 Ea Ht R [] (F5 Tryz.f73 [(pt i), (a, .val), (b, .val), (c, .val), (d, .val)] s)
def U_ := eR Tryz.f73 Ea Ht R (pb 31) (ms 77 [(3, a), (4, b), (12, c)] [(0, (.ptr i 0))] [(6, bx d 16), (7, bx e 3), (10, some zb3), (11, some [(f, .val), (g, .val), (h, .val), ((.list 4 []), .own)])] s)
def Sv := eR Tryz.f73 Ea Ht R (pb 2007) (ms 77 [(3, a), (4, b)] [(0, (.ptr i 0))] [(6, bx c 16), (7, bx d 3), (10, some zb3), (11, some [(e, .val), (f, .val), (g, .val), ((.list 4 []), .own)]), (13, bx h 3)] s)
def IM := eR Tryz.f73 Ea Ht R (pb 63) (ms 77 [(3, a), (4, b), (12, c)] [(0, (.ptr i 0))] [(6, bx d 16), (7, bx e 3), (10, bv [f, g, h, o]), (11, some [(p, .val), (q, .val), (r, .val), ((.list 4 []), .own)])] s)
def Gc := hR Tryz.f73 Ea Ht R (pb 506) (ms 77 [(3, a), (4, b), (12, c), (14, d)] [(0, (.ptr i 0))] [(6, bx e 16), (7, bx f 3), (10, bv [g, h, o, p]), (11, some [(q, .val), (r, .val), (t, .val), (u, .own)])] s)
theorem nV : qg R i a b c d s =
 (og (D5 16 a) <| og (D5 3 b) <| ob (A8 .eql (A7 0 a) (iI 13)) fun d1 => D6 d1 (ob (F3 3 (A7 0 b) (iI 0)) fun d2 => ob (R.p AV [(iI 2)]) fun d3 => og (D5 3 d3) <| U_ R i c d (.list 3 [d3, (H8 d2), (H8 d2)]) a b (A7 0 d2) (A7 1 d2) (A7 2 d2) s) (U_ R i c d (.list 3 [(.agg [(A7 8 a), (A7 9 a), (A7 10 a)])]) a b (A7 8 a) (A7 9 a) (A7 10 a) s)) := D9 [6, 11, 14]
theorem Ms : U_ R i a b c d e f g h s =
 (ob (A8 .eql (A7 0 d) (iI 16)) fun d1 => D6 d1 (ob (R.p AV [(iI 1)]) fun d2 => og (D5 3 d2) <| ob (A8 .geq (A7 7 d) (iI 5)) fun d3 => D6 d3 (ob (R.p AV [(iI 2)]) fun d4 => og (D5 3 d4) <| Sv R i a b d e (A7 0 d4) (A7 1 d4) (A7 2 d4) d2 s) (Sv R i a b d e (A7 0 d2) (A7 1 d2) (A7 2 d2) d2 s)) (IM R i a b c d e (iI 0) (iI 0) (.list 3 []) (.list 4 []) f g h s)) := D9 [6, 11, 14]
theorem LH : Sv R i a b c d e f g h s =
 (ob (A8 .eql (A7 7 c) (iI 7)) fun d1 => D6 d1 (ob (R.p AV [(iI 3)]) fun d2 => og (D5 3 d2) <| IM R i a b (.list 3 [(H8 d2), (H8 d2)]) c d (iI 0) (iI 0) (.list 3 []) (.list 4 []) e f g s) (IM R i a b (.list 3 [(H8 h), (H8 h)]) c d (iI 0) (iI 0) (.list 3 []) (.list 4 []) e f g s)) := D9 [6, 11, 14]
theorem Zk : IM R i a b c d e f g h o p q r s =
 (Gc R i a b c (iI 0) d e f g h o p q r (.list 4 []) s) := D9 [6, 11, 14]
theorem Ff : Gc R i a b c d e f g h o p q r t u s =
 (ob (dLen c) fun d1 => ob (A8 .lss d d1) fun d2 => D6 d2 (oc (R.r j4 [(pt i), ((L6 e), .val), ((H8 f), .val), (d, .val), (a, .val), (b, .val), ((.agg [q, r, t, u]), (.AO [.val, .val, .val, .own]))] s) fun q3 s3 => og (D5 4 q3) <| ob (R.p Z9 [(.agg [(A7 0 q3), (A7 1 q3), (A7 2 q3), (A7 3 q3)]), d]) fun d4 => ob (F3 3 c d) fun d5 => oc (R.r BL [(pt i), (d4, .val), ((H8 d5), .val)] s3) fun q6 s6 => ob (A8 .add d (iI 1)) fun d7 => Gc R i a b c d7 e f g h o p (A7 0 q3) (A7 1 q3) (A7 2 q3) (A7 3 q3) s6) (some ([(.agg [q, r, t, u])], s))) := H5 [6, 11, 14]
theorem jK : (run cfg).r ZH [(.undef, (.ptr i 0)), (a, .val), (b, .val), (c, .val), (d, .val)] s = qg (run cfg) i a b c d s := Ed (s := Ea) Tryz.func73
def A0S := eP Tryz.f74 f_ R [] (F5 Tryz.f74 [(a, .val), (b, .val)] [])
def Qa := hP Tryz.f74 f_ R (pb 58) (ms 46 [(5, a)] [] [(2, bx b 3), (3, bx c 3)] [])
theorem yc : A0S R a b =
 (og (D5 3 a) <| og (D5 3 b) <| ob (A8 .neq (A7 0 a) (A7 0 b)) fun d1 => I6 d1 (some (.bool false)) (ob (A8 .neq (A7 1 a) (A7 1 b)) fun d2 => I6 d2 (some (.bool false)) (ob (dLen (A7 2 a)) fun d3 => ob (dLen (A7 2 b)) fun d4 => ob (A8 .neq d3 d4) fun d5 => D6 d5 (some (.bool false)) (Qa R (iI 0) a b)) none) none) := D9 []
theorem VI : Qa R a b c =
 (ob (dLen (A7 2 b)) fun d1 => ob (A8 .lss a d1) fun d2 => D6 d2 (ob (F3 3 (A7 2 b) a) fun d3 => ob (F3 3 (A7 2 c) a) fun d4 => ob (R.p Kq [(H8 d3), (H8 d4)]) fun d5 => ob (Q5 .not d5) fun d6 => D6 d6 (some (.bool false)) (ob (A8 .add a (iI 1)) fun d7 => Qa R d7 b c)) (some (.bool true))) := H5 []
theorem uA : (run cfg).p Kq [a, b] = A0S (run cfg) a b := O9 Tryz.func74
def mf := eP Tryz.f75 Vd R [] (F5 Tryz.f75 [(a, .val), (b, .val)] [])
def Kw := hP Tryz.f75 Vd R (pb 58) (ms 60 [(5, a)] [] [(2, bx b 7), (3, bx c 7)] [])
theorem iR : mf R a b =
 (og (D5 7 a) <| og (D5 7 b) <| ob (A8 .neq (A7 0 a) (A7 0 b)) fun d1 => I6 d1 (some (.bool false)) (ob (A8 .neq (A7 3 a) (A7 3 b)) fun d2 => I6 d2 (some (.bool false)) (ob (A8 .neq (A7 4 a) (A7 4 b)) fun d3 => I6 d3 (some (.bool false)) (ob (A8 .neq (A7 5 a) (A7 5 b)) fun d4 => I6 d4 (some (.bool false)) (ob (dLen (A7 6 a)) fun d5 => ob (dLen (A7 6 b)) fun d6 => ob (A8 .neq d5 d6) fun d7 => D6 d7 (some (.bool false)) (Kw R (iI 0) a b)) none) none) none) none) := D9 []
theorem PU : Kw R a b c =
 (ob (dLen (A7 6 b)) fun d1 => ob (A8 .lss a d1) fun d2 => D6 d2 (ob (F3 7 (A7 6 b) a) fun d3 => ob (F3 7 (A7 6 c) a) fun d4 => ob (R.p QV [(GD d3), (GD d4)]) fun d5 => ob (Q5 .not d5) fun d6 => D6 d6 (some (.bool false)) (ob (A8 .add a (iI 1)) fun d7 => Kw R d7 b c)) (some (.bool true))) := H5 []
theorem dL : (run cfg).p QV [a, b] = mf (run cfg) a b := O9 Tryz.func75
def gz := eP Tryz.f76 UE R [] (F5 Tryz.f76 [(a, .val), (b, .val)] [])
def Fb := hP Tryz.f76 UE R (pb 122) (ms 56 [(1, a), (16, b), (17, c), (18, d)] [(6, (.map 0))] [(2, bx e 3), (4, some zb4)] s)
theorem dB : gz R a b =
 (og (D5 3 a) <| ob (R.p Eh [(H8 a)]) fun d1 => ob (A8 .neq d1 (iI 0)) fun d2 => D6 d2 (some (.H7 [(.agg [(iI 0), (iI 0), (.list 3 [])]), (iI 1)])) (ob (dLen b) fun d3 => Fb R b b d3 (iI 0) a [.map false []])) := D9 []
theorem NY : Fb R a b c d e s =
 (ob (A8 .lss d c) fun d1 => D6 d1 (ob (F3 4 b d) fun d2 => ob (A8 .lss (A7 0 d2) (iI 0)) fun d3 => I6 d3 (some (.H7 [(.agg [(iI 0), (iI 0), (.list 3 [])]), (iI 1)])) (ob (A8 .gtr (A7 0 d2) (iI 1048576)) fun d4 => I6 d4 (some (.H7 [(.agg [(iI 0), (iI 0), (.list 3 [])]), (iI 1)])) (ob (R.p Eh [(.agg [(A7 1 d2), (A7 2 d2), (A7 3 d2)])]) fun d5 => ob (A8 .neq d5 (iI 0)) fun d6 => D6 d6 (some (.H7 [(.agg [(iI 0), (iI 0), (.list 3 [])]), (iI 1)])) (og (isKey false (A7 0 d2) && true) <| ob (AJ s 0) fun m7 => og (m7.1 == false) <| ob (Q5 .not (.bool (Z4 m7.2 (A7 0 d2)).isSome)) fun d8 => D6 d8 (og (isKey false (A7 0 d2) && true && true) <| ob (AJ s 0) fun m9 => og (m9.1 == false) <| ob (A8 .add d (iI 1)) fun W9 => Fb R a b c W9 e (s.set 0 (.map false (Cc m9.2 (A7 0 d2) d)))) (ob (A8 .add d (iI 1)) fun AC => Fb R a b c AC e s))) none) none) (oc (R.r SN [((H8 e), .val), (a, .val), (.undef, (.map 0))] s) fun q12 s12 => og (D5 3 q12) <| some (.H7 [(.agg [(A7 0 q12), (A7 1 q12), (A7 2 q12)]), (iI 0)]))) := H5 []
theorem Zv : (run cfg).p JW [a, b] = gz (run cfg) a b := O9 Tryz.func76
def xR := eP Tryz.f77 Tw R [] (F5 Tryz.f77 [(a, .val), (b, .val)] [])
def Uy := hP Tryz.f77 Tw R (pb 58) (ms 67 [(1, a), (19, b), (20, c), (21, d)] [] [(2, bx e 3), (4, some zb5), (6, some [(f, .own), (g, .val), ((.list 3 []), .own)])] [])
def Si := hP Tryz.f77 Tw R (pb 122) (ms 67 [(1, a), (43, b), (44, c), (45, d)] [] [(4, some zb5), (6, some [(e, .own), (f, .val), (g, .own)])] [])
theorem A4S : xR R a b =
 (og (D5 3 a) <| og (J4 (A7 1 a)) <| ob (dLen (A7 0 a)) fun d1 => Uy R b (A7 0 a) d1 (iI 0) a (.list 3 []) (A7 1 a)) := D9 []
theorem A1o : Uy R a b c d e f g =
 (ob (A8 .lss d c) fun d1 => D6 d1 (ob (F3 3 b d) fun d2 => ob (R.p JW [(H8 d2), a]) fun d3 => ob (N8 0 d3) fun d4 => ob (N8 1 d3) fun d5 => og (D5 3 d4) <| ob (A8 .neq d5 (iI 0)) fun d6 => D6 d6 (some (.H7 [(.agg [(.list 3 []), (.list 1 []), (.list 3 [])]), d5])) (ob (R6 3 f (.list 3 [(H8 d4)])) fun d7 => ob (A8 .add d (iI 1)) fun d8 => Uy R a b c d8 e d7 g)) (ob (dLen (A7 2 e)) fun d9 => Si R a (A7 2 e) d9 (iI 0) f g (.list 3 []))) := H5 []
theorem A0h : Si R a b c d e f g =
 (ob (A8 .lss d c) fun d1 => D6 d1 (ob (F3 3 b d) fun d2 => ob (R.p eZ [(H8 d2), a]) fun d3 => ob (N8 0 d3) fun d4 => ob (N8 1 d3) fun d5 => og (D5 3 d4) <| ob (A8 .neq d5 (iI 0)) fun d6 => D6 d6 (some (.H7 [(.agg [(.list 3 []), (.list 1 []), (.list 3 [])]), d5])) (ob (R6 3 g (.list 3 [(H8 d4)])) fun d7 => ob (A8 .add d (iI 1)) fun d8 => Si R a b c d8 e f d7)) (some (.H7 [(.agg [e, f, g]), (iI 0)]))) := H5 []
theorem A3T : (run cfg).p eZ [a, b] = xR (run cfg) a b := O9 Tryz.func77
def qc := eP Tryz.f78 Xe R [] (F5 Tryz.f78 [(a, .val)] [])
def Sm := eP Tryz.f78 Xe R (pb 503806) (ms 85 [] [] [(1, bx a 16), (2, some zb1), (4, bv [b, (iI 0), (iI 0), (.str ⟨#[]⟩), (.str ⟨#[]⟩), (iI 0), (.str ⟨#[]⟩), (iI 0), (iI 0), (iI 0), (.list 3 []), (iI 0), (iI 0), (.list 3 []), (.list 7 []), (.list 16 [])])] [])
theorem nS : qc R a =
 (og (D5 16 a) <| og (J4 (A7 0 a)) <| ob (A8 .eql (A7 0 a) (iI 1)) fun d1 => D6 d1 (og (J4 (A7 3 a)) <| some (.H7 [(.agg [(A7 0 a), (iI 0), (iI 0), (A7 3 a), (.str ⟨#[]⟩), (iI 0), (.str ⟨#[]⟩), (iI 0), (iI 0), (iI 0), (.list 3 []), (iI 0), (iI 0), (.list 3 []), (.list 7 []), (.list 16 [])]), (iI 0)])) (ob (A8 .eql (A7 0 a) (iI 2)) fun d2 => D6 d2 (og (J4 (A7 5 a)) <| some (.H7 [(.agg [(A7 0 a), (iI 0), (iI 0), (.str ⟨#[]⟩), (.str ⟨#[]⟩), (A7 5 a), (.str ⟨#[]⟩), (iI 0), (iI 0), (iI 0), (.list 3 []), (iI 0), (iI 0), (.list 3 []), (.list 7 []), (.list 16 [])]), (iI 0)])) (ob (A8 .eql (A7 0 a) (iI 3)) fun d3 => D6 d3 (og (J4 (A7 5 a)) <| some (.H7 [(.agg [(A7 0 a), (iI 0), (iI 0), (.str ⟨#[]⟩), (.str ⟨#[]⟩), (A7 5 a), (.str ⟨#[]⟩), (iI 0), (iI 0), (iI 0), (.list 3 []), (iI 0), (iI 0), (.list 3 []), (.list 7 []), (.list 16 [])]), (iI 0)])) (ob (A8 .eql (A7 0 a) (iI 4)) fun d4 => D6 d4 (og (J4 (A7 6 a)) <| some (.H7 [(.agg [(A7 0 a), (iI 0), (iI 0), (.str ⟨#[]⟩), (.str ⟨#[]⟩), (iI 0), (A7 6 a), (iI 0), (iI 0), (iI 0), (.list 3 []), (iI 0), (iI 0), (.list 3 []), (.list 7 []), (.list 16 [])]), (iI 0)])) (ob (A8 .eql (A7 0 a) (iI 5)) fun d5 =>
 D6 d5 (some (.H7 [(.agg [(A7 0 a), (iI 0), (iI 0), (.str ⟨#[]⟩), (.str ⟨#[]⟩), (iI 0), (.str ⟨#[]⟩), (iI 0), (iI 0), (iI 0), (.list 3 []), (iI 0), (iI 0), (.list 3 []), (.list 7 []), (.list 16 [])]), (iI 0)])) (ob (A8 .eql (A7 0 a) (iI 7)) fun d6 => D6 d6 (some (.H7 [(.agg [(A7 0 a), (iI 0), (iI 0), (.str ⟨#[]⟩), (.str ⟨#[]⟩), (iI 0), (.str ⟨#[]⟩), (iI 0), (iI 0), (iI 0), (.list 3 []), (iI 0), (iI 0), (.list 3 []), (.list 7 []), (.list 16 [])]), (iI 0)])) (ob (A8 .eql (A7 0 a) (iI 6)) fun d7 => D6 d7 (some (.H7 [(.agg [(A7 0 a), (iI 0), (iI 0), (.str ⟨#[]⟩), (.str ⟨#[]⟩), (iI 0), (.str ⟨#[]⟩), (iI 0), (iI 0), (iI 0), (.list 3 []), (iI 0), (iI 0), (.list 3 []), (.list 7 []), (.list 16 [])]), (iI 2)])) (ob (A8 .eql (A7 0 a) (iI 8)) fun d8 => D6 d8 (some (.H7 [(.agg [(A7 0 a), (iI 0), (iI 0), (.str ⟨#[]⟩), (.str ⟨#[]⟩), (iI 0), (.str ⟨#[]⟩), (iI 0), (iI 0), (iI 0), (.list 3 []), (iI 0), (iI 0), (.list 3 []), (.list 7 []), (.list 16 [])]), (iI 2)])) (ob (A8 .eql (A7 0 a) (iI 10)) fun d9 =>
 D6 d9 (some (.H7 [(.agg [(A7 0 a), (iI 0), (iI 0), (.str ⟨#[]⟩), (.str ⟨#[]⟩), (iI 0), (.str ⟨#[]⟩), (iI 0), (iI 0), (iI 0), (.list 3 []), (iI 0), (iI 0), (.list 3 []), (.list 7 []), (.list 16 [])]), (iI 2)])) (ob (A8 .eql (A7 0 a) (iI 9)) fun W9 => D6 W9 (Sm R a (A7 0 a)) (ob (A8 .eql (A7 0 a) (iI 11)) fun AC => D6 AC (Sm R a (A7 0 a)) (ob (A8 .eql (A7 0 a) (iI 12)) fun Ap => D6 Ap (og (J4 (A7 3 a)) <| og (J4 (A7 4 a)) <| some (.H7 [(.agg [(A7 0 a), (iI 0), (iI 0), (A7 3 a), (A7 4 a), (iI 0), (.str ⟨#[]⟩), (iI 0), (A7 8 a), (A7 9 a), (A7 10 a), (A7 11 a), (A7 12 a), (A7 13 a), (.list 7 []), (.list 16 [])]), (iI 2)])) (ob (A8 .eql (A7 0 a) (iI 13)) fun EL => D6 EL (some (.H7 [(.agg [(A7 0 a), (iI 0), (iI 0), (.str ⟨#[]⟩), (.str ⟨#[]⟩), (iI 0), (.str ⟨#[]⟩), (iI 0), (iI 0), (iI 0), (.list 3 []), (iI 0), (iI 0), (.list 3 []), (.list 7 []), (.list 16 [])]), (iI 3)])) (ob (A8 .eql (A7 0 a) (iI 14)) fun FP =>
 D6 FP (ob (dLen (A7 14 a)) fun Gg => ob (A8 .add (iI 1) Gg) fun d16 => og (J4 (A7 14 a)) <| some (.H7 [(.agg [(A7 0 a), (iI 0), (iI 0), (.str ⟨#[]⟩), (.str ⟨#[]⟩), (iI 0), (.str ⟨#[]⟩), (iI 0), (iI 0), (iI 0), (.list 3 []), (iI 0), (iI 0), (.list 3 []), (A7 14 a), (.list 16 [])]), d16])) (ob (A8 .eql (A7 0 a) (iI 15)) fun d17 => D6 d17 (some (.H7 [(.agg [(A7 0 a), (iI 0), (iI 0), (.str ⟨#[]⟩), (.str ⟨#[]⟩), (iI 0), (.str ⟨#[]⟩), (iI 0), (A7 8 a), (A7 9 a), (A7 10 a), (iI 0), (iI 0), (.list 3 []), (.list 7 []), (.list 16 [])]), (iI 1)])) (ob (A8 .eql (A7 0 a) (iI 16)) fun d18 => D6 d18 (og (J4 (A7 7 a)) <| some (.H7 [(.agg [(A7 0 a), (iI 0), (iI 0), (.str ⟨#[]⟩), (.str ⟨#[]⟩), (iI 0), (.str ⟨#[]⟩), (A7 7 a), (iI 0), (iI 0), (.list 3 []), (iI 0), (iI 0), (.list 3 []), (.list 7 []), (.list 16 [])]), (iI 2)])) (some (.H7 [(.agg [(A7 0 a), (iI 0), (iI 0), (.str ⟨#[]⟩), (.str ⟨#[]⟩), (iI 0), (.str ⟨#[]⟩), (iI 0), (iI 0), (iI 0), (.list 3 []), (iI 0), (iI 0), (.list 3 []), (.list 7 []), (.list 16 [])]), (.int .i64 (-1))])))))))))))))))))) := D9 [20]
theorem RF : Sm R a b =
 (og (J4 (A7 3 a)) <| ob (A8 .sub (A7 0 a) (iI 9)) fun d1 => ob (A8 .quo d1 (iI 2)) fun d2 => ob (A8 .add (iI 1) d2) fun d3 => some (.H7 [(.agg [b, (iI 0), (iI 0), (A7 3 a), (.str ⟨#[]⟩), (iI 0), (.str ⟨#[]⟩), (iI 0), (A7 8 a), (A7 9 a), (A7 10 a), (iI 0), (iI 0), (.list 3 []), (.list 7 []), (.list 16 [])]), d3])) := D9 [20]
theorem jI : (run cfg).p ZG [a] = qc (run cfg) a := O9 Tryz.func78
def A0Y := eP Tryz.f79 zS R [] (F5 Tryz.f79 [(a, .val), (b, .val)] [])
theorem yn : A0Y R a b =
 (og (D5 3 a) <| ob (R.p Fu [(H8 a)]) fun d1 => D6 d1 (some b) (ob (R.p Ph [(H8 a)]) fun d2 => I6 d2 (ob (R.p FV [(H8 a), (iI 6)]) fun d3 => some d3) (some (.bool false)) none)) := D9 []
theorem uG : (run cfg).p YO [a, b] = A0Y (run cfg) a b := O9 Tryz.func79
def A0M := eP Tryz.f80 fw R [] (F5 Tryz.f80 [(a, .val)] [])
def QZ := hP Tryz.f80 fw R (pb 58) (ms 32 [(0, a), (3, b)] [] [] [])
theorem yT : A0M R a =
 (ob (DT a) fun d1 => ob (A8 .lss d1 (iI 1)) fun d2 => I6 d2 (some (.bool false)) (ob (DT a) fun d3 => ob (A8 .gtr d3 (iI 32)) fun d4 => I6 d4 (some (.bool false)) (ob (X6 a (iI 0)) fun d5 => ob (R.p Pg [d5]) fun d6 => ob (Q5 .not d6) fun d7 => D6 d7 (some (.bool false)) (QZ R a (iI 0))) none) none) := D9 []
theorem VH : QZ R a b =
 (ob (DT a) fun d1 => ob (A8 .lss b d1) fun d2 => D6 d2 (ob (X6 a b) fun d3 => ob (R.p kL [d3]) fun d4 => ob (Q5 .not d4) fun d5 => D6 d5 (some (.bool false)) (ob (A8 .add b (iI 1)) fun d6 => QZ R a d6)) (ob (R.p qM [a]) fun d7 => ob (Q5 .not d7) fun d8 => some d8)) := H5 []
theorem tX : (run cfg).p Hz [a] = A0M (run cfg) a := O9 Tryz.func80
end
end Go.Su

/-
 Equations of the program's functions: by program.
-/
namespace Go.Su
set_option maxRecDepth 100000
noncomputable section
open Go.Proofs
variable (R : N7) (i j k l m n : Nat) (a b c d e f g h o p q r t u v w x y z A B C D E F G H I J K L M N O P Q S T U V W X Y Z a1 a2 a3 a4 a5 a6 a7 a8 a9 ZU Uj a12 a13 a14 Xq a16 a17 a18 a19 a20 a21 a22 a23 a24 a25 a26 a27 a28 a29 a30 a31 a32 a33 a34 a35 a36 a37 a38 a39 a40 a41 a42 a43 a44 a45 a46 a47 a48 a49 a50 a51 a52 a53 a54 a55 a56 a57 a58 a59 : DV) (s : List D7)
def A23 := eP Tryz.f81 YY R [] (F5 Tryz.f81 [(a, .val)] [])
def Bv := eP Tryz.f81 YY R (pb 31) (ms 92 [(3, a)] [] [(1, bx b 7), (4, bv [c, (iI 0), (iI 0), d, e, f, (.list 7 [])])] [])
def Lh := hP Tryz.f81 YY R (pb 506) (ms 92 [(3, a), (5, b)] [] [(1, bx c 7)] [])
theorem A1t : A23 R a =
 (og (D5 7 a) <| og (J4 (A7 0 a)) <| ob (A8 .eql (A7 0 a) (iI 1)) fun d1 => D6 d1 (Bv R (iI 0) a (A7 0 a) (.str ⟨#[]⟩) (iI 0) (.str ⟨#[]⟩)) (ob (A8 .eql (A7 0 a) (iI 6)) fun d2 => D6 d2 (Bv R (iI 0) a (A7 0 a) (.str ⟨#[]⟩) (iI 0) (.str ⟨#[]⟩)) (ob (A8 .eql (A7 0 a) (iI 8)) fun d3 => D6 d3 (Bv R (iI 0) a (A7 0 a) (.str ⟨#[]⟩) (iI 0) (.str ⟨#[]⟩)) (ob (A8 .eql (A7 0 a) (iI 2)) fun d4 => D6 d4 (og (J4 (A7 3 a)) <| ob (R.p Hz [(A7 3 a)]) fun d5 => ob (Q5 .not d5) fun d6 => D6 d6 (some (.bool false)) (Bv R (iI 0) a (A7 0 a) (A7 3 a) (iI 0) (.str ⟨#[]⟩))) (ob (A8 .eql (A7 0 a) (iI 3)) fun d7 => D6 d7 (og (J4 (A7 4 a)) <| Bv R (iI 0) a (A7 0 a) (.str ⟨#[]⟩) (A7 4 a) (.str ⟨#[]⟩)) (ob (A8 .eql (A7 0 a) (iI 4)) fun d8 => D6 d8 (og (J4 (A7 4 a)) <| ob (A8 .lss (A7 4 a) (iI 0)) fun d9 => I6 d9 (some (.bool false)) (ob (A8 .gtr (A7 4 a) (iI 1)) fun W9 => D6 W9 (some (.bool false)) (Bv R (iI 0) a (A7 0 a) (.str ⟨#[]⟩) (A7 4 a) (.str ⟨#[]⟩))) none) (ob (A8 .eql (A7 0 a) (iI 5)) fun AC =>
 D6 AC (og (J4 (A7 5 a)) <| ob (DT (A7 5 a)) fun Ap => ob (A8 .gtr Ap (iI 200)) fun EL => D6 EL (some (.bool false)) (Bv R (iI 0) a (A7 0 a) (.str ⟨#[]⟩) (iI 0) (A7 5 a))) (ob (A8 .eql (A7 0 a) (iI 7)) fun FP => D6 FP (Bv R (iI 2) a (A7 0 a) (.str ⟨#[]⟩) (iI 0) (.str ⟨#[]⟩)) (ob (A8 .eql (A7 0 a) (iI 9)) fun Gg => D6 Gg (Bv R (iI 2) a (A7 0 a) (.str ⟨#[]⟩) (iI 0) (.str ⟨#[]⟩)) (some (.bool false))))))))))) := D9 [25]
theorem nT : Bv R a b c d e f =
 (ob (dLen (A7 6 b)) fun d1 => ob (A8 .neq d1 a) fun d2 => I6 d2 (some (.bool false)) (ob (A8 .neq (A7 3 b) d) fun d3 => I6 d3 (some (.bool false)) (ob (A8 .neq (A7 4 b) e) fun d4 => I6 d4 (some (.bool false)) (ob (A8 .neq (A7 5 b) f) fun d5 => D6 d5 (some (.bool false)) (Lh R a (iI 0) b)) none) none) none) := D9 [25]
theorem VN : Lh R a b c =
 (ob (A8 .lss b a) fun d1 => D6 d1 (ob (F3 7 (A7 6 c) b) fun d2 => ob (R.p bO [(GD d2)]) fun d3 => ob (Q5 .not d3) fun d4 => D6 d4 (some (.bool false)) (ob (A8 .add b (iI 1)) fun d5 => Lh R a d5 c)) (some (.bool true))) := H5 [25]
theorem zJ : (run cfg).p bO [a] = A23 (run cfg) a := O9 Tryz.func81
def xw := eP Tryz.f82 uX R [] (F5 Tryz.f82 [(a, .val)] [])
theorem sH : xw R a =
 (og (D5 7 a) <| oc (R.r Vx [((GD a), .val), ((.list 1 []), .own)] []) fun q1 s1 => some q1) := D9 []
theorem oZ : (run cfg).p Vw [a] = xw (run cfg) a := O9 Tryz.func82
def A21 := eP Tryz.f83 k_ R [] (F5 Tryz.f83 [(a, .val), (b, .val)] [])
def Sl := hP Tryz.f83 k_ R (pb 26) (ms 18 [(0, a), (1, b), (5, c)] [] [] [])
theorem A1r : A21 R a b =
 (Sl R a b (iI 0)) := D9 []
theorem XV : Sl R a b c =
 (ob (dLen a) fun d1 => ob (A8 .lss c d1) fun d2 => D6 d2 (ob (F3 1 a c) fun d3 => og (M7 d3) <| ob (A8 .eql d3 b) fun d4 => D6 d4 (some (.bool true)) (ob (A8 .add c (iI 1)) fun d5 => Sl R a b d5)) (some (.bool false))) := H5 []
theorem zH : (run cfg).p qN [a, b] = A21 (run cfg) a b := O9 Tryz.func83
def A0O := eP Tryz.f84 zN R [] (F5 Tryz.f84 [(a, .val)] [])
theorem yV : A0O R a =
 (ob (A8 .eql a (iI 1)) fun d1 => D6 d1 (some (iI 0)) (ob (A8 .eql a (iI 2)) fun d2 => D6 d2 (some (iI 0)) (ob (A8 .eql a (iI 3)) fun d3 => D6 d3 (some (iI 0)) (ob (A8 .eql a (iI 4)) fun d4 => D6 d4 (some (iI 0)) (ob (A8 .eql a (iI 5)) fun d5 => D6 d5 (some (iI 0)) (ob (A8 .eql a (iI 6)) fun d6 => D6 d6 (some (iI 0)) (ob (A8 .eql a (iI 8)) fun d7 => D6 d7 (some (iI 1)) (ob (A8 .eql a (iI 7)) fun d8 => D6 d8 (some (iI 2)) (ob (A8 .eql a (iI 9)) fun d9 => D6 d9 (some (iI 2)) (some (.int .i64 (-1)))))))))))) := D9 []
theorem tZ : (run cfg).p kM [a] = A0O (run cfg) a := O9 Tryz.func84
def A0R := eP Tryz.f88 zQ R [] (F5 Tryz.f88 [(a, .val)] [])
theorem yZ : A0R R a =
 (og (D5 3 a) <| ob (A8 .eql (A7 0 a) (iI 0)) fun d1 => I6 d1 (ob (A8 .eql (A7 1 a) (iI 0)) fun d2 => I6 d2 (ob (dLen (A7 2 a)) fun d3 => ob (A8 .eql d3 (iI 0)) fun d4 => some d4) (some (.bool false)) none) (some (.bool false)) none) := D9 []
theorem t_ : (run cfg).p Fu [a] = A0R (run cfg) a := O9 Tryz.func88
def bR := eP Tryz.f91 RL R [] (F5 Tryz.f91 [(a, .val), (b, .val)] [])
def IG := hP Tryz.f91 RL R (pb 26) (ms 26 [(1, a), (5, b)] [] [(2, bx c 3)] [])
theorem LB : bR R a b =
 (og (D5 3 a) <| IG R b (iI 0) a) := D9 []
theorem EM : IG R a b c =
 (ob (dLen (A7 2 c)) fun d1 => ob (A8 .lss b d1) fun d2 => I6 d2 (ob (A8 .leq a (iI 400)) fun d3 => D6 d3 (ob (F3 3 (A7 2 c) b) fun d4 => ob (A8 .add a (iI 1)) fun d5 => ob (R.p Db [(H8 d4), d5]) fun d6 => ob (A8 .add b (iI 1)) fun d7 => IG R d6 d7 c) (some a)) (some a) none) := H5 []
theorem JK : (run cfg).p Db [a, b] = bR (run cfg) a b := O9 Tryz.func91
def gq := eP Tryz.f92 T_ R [] (F5 Tryz.f92 [(a, .val), (b, .val)] [])
def JH := hP Tryz.f92 T_ R (pb 58) (ms 36 [(1, a), (5, b)] [] [(2, bx c 7)] [])
theorem Mq : gq R a b =
 (og (D5 7 a) <| ob (DT (A7 5 a)) fun d1 => ob (A8 .gtr d1 (iI 300)) fun d2 => I6 d2 (some (iI 401)) (ob (DT (A7 3 a)) fun d3 => ob (A8 .gtr d3 (iI 300)) fun d4 => D6 d4 (some (iI 401)) (JH R b (iI 0) a)) none) := D9 []
theorem NV : JH R a b c =
 (ob (dLen (A7 6 c)) fun d1 => ob (A8 .lss b d1) fun d2 => I6 d2 (ob (A8 .leq a (iI 400)) fun d3 => D6 d3 (ob (F3 7 (A7 6 c) b) fun d4 => ob (A8 .add a (iI 1)) fun d5 => ob (R.p OC [(GD d4), d5]) fun d6 => ob (A8 .add b (iI 1)) fun d7 => JH R d6 d7 c) (some a)) (some a) none) := H5 []
theorem LP : (run cfg).p OC [a, b] = gq (run cfg) a b := O9 Tryz.func92
def xX := eP Tryz.f93 Z_ R [] (F5 Tryz.f93 [(a, .val)] [])
def Uz := hP Tryz.f93 Z_ R (pb 58) (ms 19 [(0, a), (3, b), (4, c)] [] [] [])
theorem rW : xX R a =
 (Uz R a (iI 0) (iI 0)) := D9 []
theorem TL : Uz R a b c =
 (ob (dLen a) fun d1 => ob (A8 .lss c d1) fun d2 => D6 d2 (ob (F3 3 a c) fun d3 => ob (R.p Vt [(H8 d3), b]) fun d4 => ob (A8 .add c (iI 1)) fun d5 => Uz R a d4 d5) (ob (A8 .gtr b (iI 600)) fun d6 => some d6)) := H5 []
theorem oJ : (run cfg).p eu [a] = xX (run cfg) a := O9 Tryz.func93
def A0Z := eP Tryz.f94 gF R [] (F5 Tryz.f94 [(a, .val), (b, .val)] [])
def Qe := hP Tryz.f94 gF R (pb 58) (ms 23 [(1, a), (5, b)] [] [(2, bx c 3)] [])
theorem yo : A0Z R a b =
 (og (D5 3 a) <| ob (A8 .leq b (iI 0)) fun d1 => D6 d1 (some (.bool true)) (Qe R b (iI 0) a)) := D9 []
theorem VO : Qe R a b c =
 (ob (dLen (A7 2 c)) fun d1 => ob (A8 .lss b d1) fun d2 => D6 d2 (ob (F3 3 (A7 2 c) b) fun d3 => ob (A8 .sub a (iI 1)) fun d4 => ob (R.p YP [(H8 d3), d4]) fun d5 => D6 d5 (some (.bool true)) (ob (A8 .add b (iI 1)) fun d6 => Qe R a d6 c)) (some (.bool false))) := H5 []
theorem uH : (run cfg).p YP [a, b] = A0Z (run cfg) a b := O9 Tryz.func94
def A0U := eP Tryz.f95 zR R [] (F5 Tryz.f95 [(a, .val)] [])
theorem yg : A0U R a =
 (og (D5 3 a) <| oc (R.r YL [((H8 a), .val), ((.list 1 []), .own)] []) fun q1 s1 => some q1) := D9 []
theorem uC : (run cfg).p YK [a] = A0U (run cfg) a := O9 Tryz.func95
def A04 := eP Tryz.f97 Cs R [] (F5 Tryz.f97 [(a, .val)] [])
def Sy := eP Tryz.f97 Cs R (pb 115) (ms 186 [] [] [(1, bx a 16), (3, bx b 9)] [])
def Jj := eP Tryz.f97 Cs R (pb 463) (ms 186 [] [] [(1, bx a 16), (3, bx b 9)] [])
def Jk := eP Tryz.f97 Cs R (pb 1855) (ms 186 [] [] [(1, bx a 16), (3, bx b 9)] [])
def EC := eP Tryz.f97 Cs R (pb 7423) (ms 186 [] [] [(1, bx a 16), (3, bx b 9)] [])
def Qi := eP Tryz.f97 Cs R (pb 29695) (ms 186 [] [] [(1, bx a 16), (3, bx b 9)] [])
def Hq := eP Tryz.f97 Cs R (pb 118783) (ms 186 [] [] [(1, bx a 16), (3, bx b 9)] [])
def Hr := eP Tryz.f97 Cs R (pb 475135) (ms 186 [] [] [(1, bx a 16), (3, bx b 9)] [])
def Qj := eP Tryz.f97 Cs R (pb 15) (ms 186 [] [] [(1, bx a 16)] [])
def OZ := hP Tryz.f97 Cs R (pb 122) (ms 186 [(176, a), (177, b), (178, c)] [] [] [])
theorem y_ : A04 R a =
 (og (D5 16 a) <| ob (R.p OD [(L6 a)]) fun d1 => ob (N8 0 d1) fun d2 => ob (N8 1 d1) fun d3 => og (D5 9 d2) <| ob (Q5 .not d3) fun d4 => I6 d4 (some (.bool false)) (ob (dLen (A7 15 a)) fun d5 => ob (A8 .neq d5 (A7 8 d2)) fun d6 => I6 d6 (some (.bool false)) (ob (A8 .neq (A7 0 a) (iI 14)) fun d7 => I6 d7 (ob (dLen (A7 14 a)) fun d8 => ob (A8 .gtr d8 (iI 0)) fun d9 => D6 d9 (some (.bool false)) (Sy R a d2)) (Sy R a d2) none) none) none) := D9 [4, 6, 8, 10, 12, 14, 16, 18]
theorem nZ : Sy R a b =
 (I6 (A7 0 b) (ob (R.p Po [(A7 3 a)]) fun d1 => ob (Q5 .not d1) fun d2 => I6 d2 (some (.bool false)) (ob (Q5 .not (A7 0 b)) fun d3 => I6 d3 (ob (A8 .neq (A7 3 a) (.str ⟨#[]⟩)) fun d4 => D6 d4 (some (.bool false)) (Jj R a b)) (Jj R a b) none) none) (ob (Q5 .not (A7 0 b)) fun d5 => I6 d5 (ob (A8 .neq (A7 3 a) (.str ⟨#[]⟩)) fun d6 => D6 d6 (some (.bool false)) (Jj R a b)) (Jj R a b) none) none) := D9 [4, 6, 8, 10, 12, 14, 16, 18]
theorem ng : Jj R a b =
 (I6 (A7 1 b) (ob (R.p Po [(A7 4 a)]) fun d1 => ob (Q5 .not d1) fun d2 => I6 d2 (some (.bool false)) (ob (Q5 .not (A7 1 b)) fun d3 => I6 d3 (ob (A8 .neq (A7 4 a) (.str ⟨#[]⟩)) fun d4 => D6 d4 (some (.bool false)) (Jk R a b)) (Jk R a b) none) none) (ob (Q5 .not (A7 1 b)) fun d5 => I6 d5 (ob (A8 .neq (A7 4 a) (.str ⟨#[]⟩)) fun d6 => D6 d6 (some (.bool false)) (Jk R a b)) (Jk R a b) none) none) := D9 [4, 6, 8, 10, 12, 14, 16, 18]
theorem nk : Jk R a b =
 (ob (Q5 .not (A7 2 b)) fun d1 => I6 d1 (ob (A8 .neq (A7 5 a) (iI 0)) fun d2 => I6 d2 (some (.bool false)) (ob (A8 .eql (A7 0 a) (iI 3)) fun d3 => I6 d3 (ob (A8 .neq (A7 5 a) (iI 0)) fun d4 => I6 d4 (ob (A8 .neq (A7 5 a) (iI 1)) fun d5 => D6 d5 (some (.bool false)) (EC R a b)) (EC R a b) none) (EC R a b) none) none) (ob (A8 .eql (A7 0 a) (iI 3)) fun d6 => I6 d6 (ob (A8 .neq (A7 5 a) (iI 0)) fun d7 => I6 d7 (ob (A8 .neq (A7 5 a) (iI 1)) fun d8 => D6 d8 (some (.bool false)) (EC R a b)) (EC R a b) none) (EC R a b) none) none) := D9 [4, 6, 8, 10, 12, 14, 16, 18]
theorem iZ : EC R a b =
 (ob (Q5 .not (A7 3 b)) fun d1 => I6 d1 (ob (A8 .neq (A7 6 a) (.str ⟨#[]⟩)) fun d2 => I6 d2 (some (.bool false)) (ob (DT (A7 6 a)) fun d3 => ob (A8 .gtr d3 (iI 200)) fun d4 => D6 d4 (some (.bool false)) (Qi R a b)) none) (ob (DT (A7 6 a)) fun d5 => ob (A8 .gtr d5 (iI 200)) fun d6 => D6 d6 (some (.bool false)) (Qi R a b)) none) := D9 [4, 6, 8, 10, 12, 14, 16, 18]
theorem ib : Qi R a b =
 (I6 (A7 4 b) (ob (A8 .lss (A7 7 a) (iI 1)) fun d1 => I6 d1 (some (.bool false)) (ob (A8 .gtr (A7 7 a) (iI 7)) fun d2 => I6 d2 (some (.bool false)) (ob (Q5 .not (A7 4 b)) fun d3 => I6 d3 (ob (A8 .neq (A7 7 a) (iI 0)) fun d4 => D6 d4 (some (.bool false)) (Hq R a b)) (Hq R a b) none) none) none) (ob (Q5 .not (A7 4 b)) fun d5 => I6 d5 (ob (A8 .neq (A7 7 a) (iI 0)) fun d6 => D6 d6 (some (.bool false)) (Hq R a b)) (Hq R a b) none) none) := D9 [4, 6, 8, 10, 12, 14, 16, 18]
theorem ic : Hq R a b =
 (ob (R.p MF [(.agg [(A7 8 a), (A7 9 a), (A7 10 a)])]) fun d1 => ob (Q5 .not d1) fun d2 => I6 d2 (ob (Q5 .not (A7 5 b)) fun d3 => I6 d3 (some (.bool false)) (ob (R.p QW [(.agg [(A7 8 a), (A7 9 a), (A7 10 a)])]) fun d4 => ob (Q5 .not d4) fun d5 => I6 d5 (some (.bool false)) (I6 (A7 7 b) (ob (R.p MF [(.agg [(A7 8 a), (A7 9 a), (A7 10 a)])]) fun d6 => D6 d6 (some (.bool false)) (Hr R a b)) (Hr R a b) none) none) none) (I6 (A7 7 b) (ob (R.p MF [(.agg [(A7 8 a), (A7 9 a), (A7 10 a)])]) fun d7 => D6 d7 (some (.bool false)) (Hr R a b)) (Hr R a b) none) none) := D9 [4, 6, 8, 10, 12, 14, 16, 18]
theorem ig : Hr R a b =
 (ob (R.p MF [(.agg [(A7 11 a), (A7 12 a), (A7 13 a)])]) fun d1 => ob (Q5 .not d1) fun d2 => I6 d2 (ob (Q5 .not (A7 6 b)) fun d3 => I6 d3 (some (.bool false)) (ob (R.p QW [(.agg [(A7 11 a), (A7 12 a), (A7 13 a)])]) fun d4 => ob (Q5 .not d4) fun d5 => D6 d5 (some (.bool false)) (Qj R a)) none) (Qj R a) none) := D9 [4, 6, 8, 10, 12, 14, 16, 18]
theorem il : Qj R a =
 (ob (dLen (A7 14 a)) fun d1 => OZ R (A7 14 a) d1 (iI 0)) := D9 [4, 6, 8, 10, 12, 14, 16, 18]
theorem Tf : OZ R a b c =
 (ob (A8 .lss c b) fun d1 => D6 d1 (ob (F3 7 a c) fun d2 => ob (R.p Ma [(GD d2)]) fun d3 => ob (A8 .neq d3 (iI 0)) fun d4 => D6 d4 (some (.bool false)) (ob (A8 .add c (iI 1)) fun d5 => OZ R a b d5)) (some (.bool true))) := H5 [4, 6, 8, 10, 12, 14, 16, 18]
theorem uM : (run cfg).p kQ [a] = A04 (run cfg) a := O9 Tryz.func97
def yI := eP Tryz.f98 uj R [] (F5 Tryz.f98 [(a, .val)] [])
theorem tH : yI R a =
 (og (D5 3 a) <| ob (R.p WA [(H8 a)]) fun d1 => ob (Q5 .not d1) fun d2 => D6 d2 (some (iI 1)) (some (iI 0))) := D9 []
theorem pK : (run cfg).p Eh [a] = yI (run cfg) a := O9 Tryz.func98
def qR := eP Tryz.f99 Xb R [] (F5 Tryz.f99 [(a, .val), (b, .val)] [])
def Md := hP Tryz.f99 Xb R (pb 26) (ms 26 [(0, a), (1, b), (6, c)] [] [(4, bv [d, e, f, g, h])] [])
theorem nK : qR R a b =
 (ob (dLen a) fun d1 => ob (A8 .sub d1 (iI 1)) fun d2 => Md R a b d2 (.str ⟨#[]⟩) (iI 0) (iI 0) (.list 3 []) (.list 1 [])) := D9 []
theorem Qz : Md R a b c d e f g h =
 (ob (A8 .geq c (iI 0)) fun d1 => D6 d1 (ob (F3 5 a c) fun d2 => ob (A8 .eql (A7 0 d2) b) fun d3 => D6 d3 (ob (F3 5 a c) fun d4 => some (.H7 [(.agg [(A7 0 d4), (A7 1 d4), (A7 2 d4), (A7 3 d4), (A7 4 d4)]), (.bool true)])) (ob (A8 .sub c (iI 1)) fun d5 => Md R a b d5 d e f g h)) (some (.H7 [(.agg [(.str ⟨#[]⟩), (iI 0), (iI 0), (.list 3 []), (.list 1 [])]), (.bool false)]))) := H5 []
theorem i_ : (run cfg).p ZA [a, b] = qR (run cfg) a b := O9 Tryz.func99
def Ra := eR Tryz.f100 Ho QI R [] (F5 Tryz.f100 [(pt i), (a, .val)] s)
theorem P_ : Ra R i a s =
 (oc (R.r AU [(pt i)] s) fun q1 s1 => D6 q1 (ob (M4 s1 i) fun c2 => og (J4 a) <| ob (c2[3]?) fun u3 => some ([], (s1.set i (D7.box (c2.set 3 (a, .val)))))) (some ([], s1))) := D9 []
theorem PH : (run cfg).r AL [(.undef, (.ptr i 0)), (a, .val)] s = Ra (run cfg) i a s := Ed (s := Ho) Tryz.func100
end
end Go.Su
