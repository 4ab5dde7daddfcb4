/-
  Parts of the proof, merged: SuM1, SuIt, SuM2, SuM3, SuM4, SuM5, SuRd2, SuFix, SuKeys, SuClone, SuMp, SuM6, SuM7, SuM8, SuM9, SuM10, SuM11, SuM12, SuX1, SuX2, SuX3, SuE1, SuE2, SuC1, SuT1, SuT2, SuC2, SuE3, SuE4, SuE5, SuE6, SuE7, SuE8, SuT3, SuT4, SuJ1, SuV1, SuV2, SuV3, SuV4, SuV5, SuWk, SuWk2, Cfg, It, J0, G1, G2, G3.
-/
import Derived.ChangeShapes
import Derived.KernelRfl
import Derived.Lib.SliceRun
import Derived.LoopNIn
import Derived.Maps.RangeRun
import Derived.OwnWalkIn
import Derived.RangeFuncBound
import Derived.RangeFuncKeeps
import Derived.RangeFuncLeaves
import Derived.Shelf.Abstract
import Derived.Sort.KeysCollected
import Derived.Sort.OwnSorted
import Derived.TacticsInMore
import Derived.Test.YtcfhnpbkdclodaaGreatProg
import Derived.Test.YtcfhnpbkdclodaaGreatRows
import Derived.WalkKit
import Derived.Test.YtcfhnpbkdclodaaGreatP3
set_option linter.unusedVariables false
set_option linter.unusedSimpArgs false
/-
 TYPES: what is said of them.
-/
open Array renaming replicate_succ → z21q, replicate_zero → z22q, getElem?_eq_getElem → z30q, getElem?_modify → z41q
open Bool renaming and_eq_true → z0q, and_eq_true_iff → z6q
open List renaming all_eq_true → z1q, getElem?_eq_getElem → z2q, getD_eq_getElem?_getD → z3q, mem_cons_of_mem → z4q, mem_cons_self → z5q, eq_nil_of_length_eq_zero → z7q, length_cons → z8q, getElem_mem → z9q, length_append → z10q, map_cons → z11q, mem_cons → z12q, getElem?_eq_some_iff → z13q, length_nil → z14q, append_assoc → z15q, sum_cons → z16q, mem_append → z17q, all_map → z18q, getElem_zip → z19q, getElem?_append_right → z20q, append_toArray → z23q, getElem?_append_left → z25q, nil_append → z26q, drop_eq_getElem_cons → z27q, length_zip → z28q, mem_singleton → z29q, size_toArray → z33q, push_toArray → z34q, not_mem_nil → z37q, cons_append → z38q, singleton_append → z39q, foldl_cons → z40q, find?_cons → z42q, length_map → z43q, mem_iff_getElem → z44q, mem_of_getElem? → z45q, getElem_of_mem → z46q, take_take → z47q, flatMap_cons → z48q, any_eq_true → z51q, mem_flatMap → z52q
open Nat renaming lt_or_ge → z24q, add_sub_cancel_left → z31q, le_add_right → z32q, le_refl → z35q, le_add_left → z36q, zero_mul → z49q, zero_add → z50q
namespace Go.Su
def arity (k : Int) : Int :=
 if k = 1 \/ k = 2 \/ k = 3 \/ k = 4 \/ k = 5 \/ k = 6 then 0 else if k = 8 then 1 else if k = 7 \/ k = 9 then 2 else -1
def Ty.right : Ty -> Bool
 | .mk k n ks => decide (arity k = ks.length) && decide (0 <= n) && decide (n <= 1048576) && (decide (k = 6) || decide (n = 0)) && (ks.map Ty.right).all id
variable (t : Ty)
theorem Ty.right_eq : t.right = (decide (arity t.kind = t.kids.length) && decide (0 <= t.n) && decide (t.n <= 1048576) && (decide (t.kind = 6) || decide (t.n = 0)) && t.kids.all Ty.right) := by
 cases t;rw [Ty.right];simp [z18q];rfl
def Ty.without (q : Int) : Ty -> Bool
 | .mk k _ ks => !decide (k = q) && (ks.map (Ty.without q)).all id
theorem Ty.Kr (q : Int) (t : Ty) : t.without q = (!decide (t.kind = q) && t.kids.all (Ty.without q)) := by
 cases t;rw [Ty.without];simp [z18q];rfl
def Ty.deep : Ty -> Int -> Bool
 | .mk _ _ ks, n => decide (n <= 0) || (ks.map fun k => Ty.deep k (n - 1)).any id
def Ty.LW : Ty -> List Int -> List Int
 | .mk k n ks, l => ks.foldl (fun l k => Ty.LW k l) (if k = 6 /\ n ∉ l then l ++ [n] else l)
def Ty.vars : List Int := t.LW []
theorem Ty.A7r (l : List Int) : t.LW l = t.kids.foldl (fun l k => k.LW l) (if t.kind = 6 /\ t.n ∉ l then l ++ [t.n] else l) := by
 cases t;rw [Ty.LW];rfl
theorem Ty.B68 (n : Int) : t.deep n = (decide (n <= 0) || t.kids.any fun k => k.deep (n - 1)) := by
 cases t;rw [Ty.deep];simp [List.any_map]
theorem Ty.B2Z : ∀ l : List Int, (t.LW l).length <= l.length + t.size := by
 induction t using Ty.ind with
 | h t ih =>
   intro l;rw [Ty.A7r];have key : ∀ (ks : List Ty), (∀ k ∈ ks, ∀ l : List Int, (k.LW l).length <= l.length + k.size) -> ∀ l : List Int, (ks.foldl (fun l k => k.LW l) l).length <= l.length + (ks.map Ty.size).sum := by
    intro ks
    induction ks with
    | nil => intro _ l; simp
    | cons k ks ihk =>
      intro h l;simp only [z40q, z11q, z16q];have h1 := ihk (fun k' Vl => h k' (z4q _ Vl)) (k.LW l)
      have h2 := h k (z5q ..) l;omega
   have h1 := key t.kids ih (if t.kind = 6 /\ t.n ∉ l then l ++ [t.n] else l)
   rw [Ty.size_eq];have h2 : (if t.kind = 6 /\ t.n ∉ l then l ++ [t.n] else l).length <= l.length + 1 := by split <;> simp
   omega
def Ty.thin : Ty -> Bool
 | .mk _ _ ks => decide (ks.length <= lim) && (ks.map Ty.thin).all id
theorem Ty.KO : t.thin = (decide (t.kids.length <= lim) && t.kids.all Ty.thin) := by
 cases t;rw [Ty.thin];simp [z18q];rfl
theorem Ty.Ck (h : t.thin = true) : t.kids.length < 4294967297 := by
 rw [Ty.KO] at h;simp only [z0q, decide_eq_true_eq] at h;have := h.1;unfold lim at this;omega
theorem Ty.EN {t k : Ty} (h : t.thin = true) (hk : k ∈ t.kids) : k.thin = true := by
 rw [Ty.KO] at h;simp only [z0q, z1q] at h;exact h.2 k hk
theorem Ty.FU {t : Ty} : t.size <= lim -> t.thin = true := by
 induction t using Ty.ind with
 | h t ih =>
   intro h;rw [Ty.KO];simp only [z0q, decide_eq_true_eq, z1q];refine ⟨by have := t.oH; omega, fun k hk => ih k hk (by have := Ty.IC hk; omega)⟩
theorem A3x (k : Int) : arity k <= 2 := by unfold arity; split <;> (try split) <;> (try split) <;> omega
theorem Ty.Ah {t : Ty} : t.right = true -> t.thin = true := by
 induction t using Ty.ind with
 | h t ih =>
   intro h;rw [Ty.right_eq] at h;simp only [z0q, decide_eq_true_eq, z1q] at h;rw [Ty.KO];simp only [z0q, decide_eq_true_eq, z1q];have := A3x t.kind;refine ⟨by unfold lim; omega, fun k hk => ih k hk (h.2 k hk)⟩
def Ty.LX : Ty -> Nat
 | .mk k _ ks => (if k = 6 then 1 else 0) + (ks.map Ty.LX).sum
theorem Ty.A0U : t.LX = (if t.kind = 6 then 1 else 0) + (t.kids.map Ty.LX).sum := by
 cases t;rw [Ty.LX];rfl
theorem B2S {α : Type} {l : List α} {f g : α -> Nat} (h : ∀ a ∈ l, f a <= g a) : (l.map f).sum <= (l.map g).sum := by
 induction l with
 | nil => simp
 | cons a l ih =>
   simp only [z11q, z16q];have := h a (z5q ..);have := ih fun b hb => h b (z4q _ hb)
   omega
theorem Ty.kZ : t.LX <= t.size := by
 induction t using Ty.ind with
 | h t ih =>
   rw [Ty.A0U, Ty.size_eq];have := B2S ih
   split <;> omega
end Go.Su

/-
 THE DATA MACHINE: iterators over trees: which elements come.
-/
namespace Go.Su
def Jb (f : DV -> Option (List DV)) : List DV -> Option (List DV)
 | [] => some []
 | d :: ds => ob (f d) fun a => ob (Jb f ds) fun b => some (a ++ b)
def BJ (sz kf : Nat) : Nat -> DV -> Option (List DV)
 | 0, _ => none
 | n + 1, d =>
   match d with
   | .agg cs => og (cs.length == sz) (match cs.getD kf .undef with
     | .list s ds => og (s == sz && decide (ds.length <= lim)) (ob (Jb (BJ sz kf n) ds) fun l => some (.agg cs :: l))
     | _ => none)
   | _ => none
open Classical in
noncomputable def Qy (sz kf : Nat) (cs : List DV) : Option (List DV) :=
 if h : ∃ ds n, BJ sz kf n (.agg cs) = some ds then some h.choose else none
theorem Zv {f g : DV -> Option (List DV)} (h : ∀ d l, f d = some l -> g d = some l) : ∀ {ds l : List DV}, Jb f ds = some l -> Jb g ds = some l
 | [], l, H => H
 | d :: ds, l, H => by
   simp only [Jb] at H ⊢;obtain ⟨a, h1, H⟩ := C8 H;obtain ⟨b, h2, H⟩ := C8 H;rw [h _ _ h1, Zv h h2];exact H
theorem A8I {sz kf : Nat} : ∀ {n : Nat} {d : DV} {l : List DV}, BJ sz kf n d = some l -> BJ sz kf (n + 1) d = some l
 | 0, d, l, H => by simp [BJ] at H
 | n + 1, d, l, H => by
   cases d with
   | agg cs =>
     rw [BJ] at H ⊢;obtain ⟨h1, H⟩ := F9 H;rw [h1];cases hk : cs.getD kf .undef with
     | list s ds =>
       rw [hk] at H;simp only at H ⊢;obtain ⟨h2, H⟩ := F9 H;rw [h2];obtain ⟨a, h3, H⟩ := C8 H;rw [Zv (fun d l h => A8I h) h3]
       exact H
     | _ => rw [hk] at H; simp at H
   | _ => simp [BJ] at H
variable {n : Nat} {d : DV} {l : List DV}
theorem Wd {sz kf m : Nat} (h : n <= m) (H : BJ sz kf n d = some l) : BJ sz kf m d = some l := by
 induction m with
 | zero => rw [Nat.le_zero.1 h] at H; exact H
 | succ m ih =>
   rcases z24q m n with h1 | h1
   ·rw [show m + 1 = n by omega]; exact H
   ·exact A8I (ih h1)
theorem A3B {sz kf : Nat} {cs ds : List DV} (H : BJ sz kf n (.agg cs) = some ds) : Qy sz kf cs = some ds := by
 have h : ∃ ds n, BJ sz kf n (.agg cs) = some ds := ⟨ds, n, H⟩;unfold Qy;rw [dif_pos h];obtain ⟨m, hm⟩ := h.choose_spec;have h1 := Wd (z32q n m) H;have h2 := Wd (z36q m n) hm;rw [h1] at h2;exact h2.symm
theorem qM {sz kf : Nat} {cs ds : List DV} (H : Qy sz kf cs = some ds) : ∃ n, BJ sz kf n (.agg cs) = some ds := by
 unfold Qy at H
 split at H
 ·rename_i h
  simp only [Option.some.injEq] at H;rw [<- H];exact h.choose_spec
 ·cases H
structure Xa (E : Env) (W : World) (E' : Env) (W' : World) : Prop where
 size : W.heap.size <= W'.heap.size
 blk : ∀ b, b < W.heap.size -> (∀ o, E.O b o = .other) -> W'.heap[b]? = W.heap[b]? /\ ∀ o, E'.O b o = .other
 sh : Z9 E.S W.heap E'.S W'.heap
variable {E : Env} {W : World}
theorem Xa.trans {E1 E2 : Env} {W1 W2 : World} (h : Xa E W E1 W1) (k : Xa E1 W1 E2 W2) : Xa E W E2 W2 := by
 refine ⟨Nat.le_trans h.size k.size, fun b hb ho => ?_, ⟨fun b o hs => k.sh.s b o (h.sh.s b o hs), fun b o v hs hv => k.sh.c b o v (h.sh.s b o hs) (h.sh.c b o v hs hv)⟩⟩
 obtain ⟨h1, h2⟩ := h.blk b hb ho;obtain ⟨h3, h4⟩ := k.blk b (Nat.lt_of_lt_of_le hb h.size) h2;exact ⟨h3.trans h1, h4⟩
theorem Xa.C0w {E' : Env} {W' : World} (P : Pr O3 E W.heap E' W'.heap) (hf : ∀ b o, W.heap.size <= b -> E.O b o = .other) : Xa E W E' W' := by
 refine ⟨P.size, fun b hb ho => ⟨?_, fun o => P.Wm hb (ho o)⟩, P.shut (by simp [O3]) hf⟩
 have hk := P.blk b hb;have GJ : W.heap[b]? = some W.heap[b] := z30q hb;rw [GJ] at hk ⊢;unfold X8 at hk
 split at hk
 ·rename_i hx; cases hx
 ·rename_i c T f hx
  simp only [Option.some.injEq] at hx;obtain ⟨c', h1, h2, h3⟩ := hk;rw [h1, hx]
  congr 2
  refine Array.ext_getElem? fun o => h3 o ?_
  rw [ho o]; simp [O3]
 ·rename_i ob _ hx
  simp only [Option.some.injEq] at hx;rw [hx];exact hk (by rw [ho 0]; simp [O3])
theorem Ta.alloc (o : Obj) : Ta n E W (W.alloc o) := by
 refine ⟨by simp, fun b hb => .inl ?_, ⟨rfl, rfl, rfl⟩⟩
 exact Go.RowKit.Below.heap_alloc _ _ _ hb
theorem Xa.alloc (o : Obj) (hf : ∀ b o, W.heap.size <= b -> E.O b o = .other) : Xa E W E (W.alloc o) := by
 refine ⟨by simp, fun b hb ho => ⟨Go.RowKit.Below.heap_alloc _ _ _ hb, ho⟩, fun _ _ h => h, fun b o' v hs hv => ?_⟩
 have hb : b < W.heap.size := by
  rcases z24q b W.heap.size with h | h
  ·exact h
  ·have h9 := hf b o' h
   rw [show E.O b o' = .shut from hs] at h9; cases h9
 unfold hc at hv ⊢;rw [show (W.alloc o).heap[b]? = W.heap[b]? from Go.RowKit.Below.heap_alloc _ _ _ hb]
 exact hv
theorem Xa.same {W' : World} (hs : W.heap.size <= W'.heap.size) (h : ∀ b, b < W.heap.size -> W'.heap[b]? = W.heap[b]?) (hf : ∀ b o, W.heap.size <= b -> E.O b o = .other) : Xa E W E W' := by
 refine ⟨hs, fun b hb ho => ⟨h b hb, ho⟩, fun _ _ h => h, fun b o' v hv hc0 => ?_⟩
 have hb : b < W.heap.size := by
  rcases z24q b W.heap.size with h | h
  ·exact h
  ·have h9 := hf b o' h
   rw [show E.O b o' = .shut from hv] at h9; cases h9
 unfold hc at hc0 ⊢;rw [h b hb];exact hc0
theorem Ta.same {W' : World} (hs : W.heap.size <= W'.heap.size) (h : ∀ b, b < W.heap.size -> W'.heap[b]? = W.heap[b]?) (ho : Z4 W W') : Ta n E W W' :=
 ⟨hs, fun b hb => .inl (h b hb), ho⟩
theorem flat_agg {sz kf : Nat} {S : Z5} {h : Heap} {us : List Value} (H : BJ sz kf n d = some l) (R : RC S h d us) : RV S h d (.agg us.toArray) := by
 cases n with
 | zero => simp [BJ] at H
 | succ n =>
   cases d with
   | agg cs =>
     simp only [RC] at R;simp only [RV];exact ⟨_, rfl, R⟩
   | _ => simp [BJ] at H
theorem B7g {ds ks pre sa sb : List DV} {k : Nat} (oF : ∀ (j : Nat) x, (d :: ks)[j]? = some x -> ds[k + j]? = some x) (hk : ks = pre ++ (sa ++ sb)) (j : Nat) (x : DV) (hj : sa[j]? = some x) : ds[k + 1 + pre.length + j]? = some x := by
 have v_ := (z13q.1 hj).1;have := oF (pre.length + j + 1) x (by
  rw [List.getElem?_cons_succ, hk, z20q (by omega), z31q, z25q v_]
  exact hj)
 rw [<- this]; congr 1; omega
theorem Nc {P : Program} {b j : Nat} {c : Array Value} {T : TypeId} {u : Value} (hb : W.heap[b]? = some (.cells c T (0, 0))) (hj : j < c.size) (hu : u.oneCell' = true) :
 ∃ W', (store ⟨b, j, none⟩ u).run P W = .ok () W' /\ W'.heap[b]? = some (.cells (c.setIfInBounds j u) T (0, 0)) /\ (∀ b', b' ≠ b -> W'.heap[b']? = W.heap[b']?) /\ W'.heap.size = W.heap.size /\ Z4 W W' := by
 refine ⟨W.setCell ⟨b, j, none⟩ u, ?_, ?_, fun b' GJ => ?_, by simp [World.setCell], ⟨rfl, rfl, rfl⟩⟩
 ·rw [run_store _ _ _ _ _ hu]
  simp [World.cell?, World.frozen?, hb, hj]
 ·simp [World.setCell, z41q, hb]
 ·simp [World.setCell, z41q, Ne.symm GJ]
end Go.Su

/-
 NAMES and PATTERNS: what is said of them.
-/
namespace Go.Su
variable (s : ByteArray)
def Ar : List Int := s.data.toList.map fun b => (b.toNat : Int)
theorem La : (Ar s).length = s.size := by simp [Ar]
theorem bC {s : ByteArray} {k : IntKind} {i : Nat} (h : i < (Ar s).length) : j6 (.str s) (.int k (i : Int)) = some (.int .u8 (Ar s)[i]) := by
 have h' : i < s.data.size := by simpa [Ar] using h
 have e : s.data[i]? = some s.data[i] := z30q h';simp only [j6, Int.natCast_nonneg, if_true, Int.toNat_natCast, e, Option.map_some, Ar, List.getElem_map, Array.getElem_toList]
variable (c : Int)
def lowerB : Bool := decide (97 <= c) && decide (c <= 122)
def xw : Bool := decide (48 <= c) && decide (c <= 57)
def Oh : Bool := lowerB c || xw c || (decide (65 <= c) && decide (c <= 90)) || decide (c = 95) || decide (c = 39)
def A52 : List (List UInt8) := [[108, 101, 116], [114, 101, 99], [105, 110], [102, 117, 110], [105, 102], [116, 104, 101, 110], [101, 108, 115, 101], [109, 97, 116, 99, 104], [119, 105, 116, 104], [101, 110, 100], [116, 114, 117, 101],
 [102, 97, 108, 115, 101], [105, 110, 116], [98, 111, 111, 108], [115, 116, 114, 105, 110, 103], [117, 110, 105, 116], [108, 105, 115, 116]]
def A3K : Bool := decide (s.data.toList ∈ A52)
def Oe : Bool :=
 decide (1 <= s.size) && decide (s.size <= 32) && lowerB ((Ar s).getD 0 0) && (Ar s).all Oh && !A3K s
def CY : List UInt8 := [32, 108, 101, 116, 32, 114, 101, 99, 32, 105, 110, 32, 102, 117, 110, 32, 105, 102, 32, 116, 104, 101, 110, 32, 101, 108, 115, 101, 32, 109, 97, 116, 99, 104, 32, 119, 105, 116, 104, 32, 101, 110, 100, 32, 116, 114, 117, 101, 32, 102, 97, 108, 115, 101, 32, 105, 110, 116, 32, 98, 111, 111, 108, 32, 115, 116, 114, 105, 110, 103, 32, 117, 110, 105, 116, 32, 108, 105, 115, 116, 32]
def A3L (c : UInt8) : Bool := decide (97 <= c) && decide (c <= 122)
theorem B22 : (List.range 81).all (fun j => (List.range 80).all fun n =>
 !(decide (j + n + 2 <= 81) && ((CY.drop j).take 1 == [32]) && ((CY.drop (j + n + 1)).take 1 == [32]) && ((CY.drop (j + 1)).take n).all A3L && decide (0 < n)) || decide ((CY.drop (j + 1)).take n ∈ A52)) = true := by
 decide +kernel
theorem B3Q : A52.all (fun x => decide (0 < x.length) && x.all A3L && (List.range 81).any fun j => decide (j + (x.length + 2) <= 81) && (CY.drop j).take (x.length + 2) == 32 :: x ++ [32]) = true := by
 decide +kernel
theorem B4N : CY.length = 81 := rfl
theorem B4M (x : List UInt8) : (x.all A3L = true /\ 0 < x.length /\ ∃ j : Nat, j + (x.length + 2) <= 81 /\ (CY.drop j).take (x.length + 2) = 32 :: x ++ [32]) ↔ x ∈ A52 := by
 constructor
 ·rintro ⟨h1, h2, j, h3, h4⟩
  have h5 := z1q.1 (z1q.1 B22 j (by simp; omega)) x.length (by simp; omega)
  have e : (CY.drop (j + 1)).take x.length = x := by
   have := congrArg (fun l => (l.drop 1).take x.length) h4
   simp only [List.drop_take, List.drop_drop] at this;simpa [z47q] using this
  have e1 : (CY.drop j).take 1 = [32] := by
   have := congrArg (fun l => l.take 1) h4
   simpa [z47q] using this
  have e2 : (CY.drop (j + x.length + 1)).take 1 = [32] := by
   have := congrArg (fun l => (l.drop (x.length + 1)).take 1) h4
   simp only [List.drop_take, List.drop_drop] at this;simpa [z47q, Nat.add_assoc, z31q, show x.length + 2 - (x.length + 1) = 1 by omega] using this
  rw [e, e1, e2] at h5;simpa [h1, h2, show j + x.length + 2 <= 81 by omega] using h5
 ·intro h
  have h5 := z1q.1 B3Q x h;simp only [z0q, decide_eq_true_eq, z51q, beq_iff_eq, List.mem_range] at h5;obtain ⟨⟨h1, h2⟩, j, h3, h4, h6⟩ := h5;exact ⟨h2, h1, j, h4, h6⟩
theorem A64 (a b : ByteArray) : EK (.str a) (.str b) = decide (a = b) := by
 simp only [EK]; exact gN a b
theorem B2q {a : ByteArray} {d : DV} (h : EK (.str a) d = true) : d = .str a := by
 cases d <;> simp only [EK] at h <;> try cases h
 rename_i s;have := A6C (a := a) (b := s) (by simpa using h)
 rw [this]
theorem B5D (es : List (DV × DV)) (a b : ByteArray) (v : DV) : FQ (JJ es (.str a) v) (.str b) = if a = b then some v else FQ es (.str b) := by
 induction es with
 | nil => by_cases h : a = b <;> simp [JJ, FQ, A64, h, eq_comm]
 | cons e es ih =>
   unfold JJ
   by_cases h1 : EK (.str a) e.1 = true
   ·rw [if_pos h1]
    have := B2q h1;simp only [FQ, z42q, this, A64]
    by_cases h : a = b
    ·subst h; simp
    ·have : ¬ b = a := fun h' => h h'.symm
     simp [h, this]
   ·rw [if_neg h1]
    simp only [FQ, z42q] at ih ⊢
    by_cases h2 : EK (.str b) e.1 = true
    ·simp only [h2]
     by_cases h : a = b
     ·subst h; exact absurd h2 h1
     ·simp [h]
    ·simp only [h2]
     exact ih
def N9 : ByteArray := ⟨#[]⟩
variable (p : D9)
def D9.one : Bool :=
 if p.kind = 1 \/ p.kind = 6 \/ p.kind = 8 then decide (p.kids.length = 0) && decide (p.name = N9) && decide (p.n = 0) && decide (p.s = N9)
 else if p.kind = 2 then Oe p.name && decide (p.kids.length = 0) && decide (p.n = 0) && decide (p.s = N9)
 else if p.kind = 3 then decide (p.kids.length = 0) && decide (p.name = N9) && decide (p.s = N9)
 else if p.kind = 4 then decide (p.n = 0 \/ p.n = 1) && decide (p.kids.length = 0) && decide (p.name = N9) && decide (p.s = N9)
 else if p.kind = 5 then decide (p.s.size <= 200) && decide (p.kids.length = 0) && decide (p.name = N9) && decide (p.n = 0)
 else if p.kind = 7 \/ p.kind = 9 then decide (p.kids.length = 2) && decide (p.name = N9) && decide (p.n = 0) && decide (p.s = N9)
 else false
def D9.thin : D9 -> Bool
 | .mk _ _ _ _ _ _ ks => decide (ks.length <= lim) && (ks.map D9.thin).all id
variable (t : D9)
theorem D9.KO : t.thin = (decide (t.kids.length <= lim) && t.kids.all D9.thin) := by
 cases t;rw [D9.thin];simp [z18q];rfl
theorem D9.Ck (h : t.thin = true) : t.kids.length < 4294967297 := by
 rw [D9.KO] at h;simp only [z0q, decide_eq_true_eq] at h;have := h.1;unfold lim at this;omega
theorem D9.EN {t k : D9} (h : t.thin = true) (hk : k ∈ t.kids) : k.thin = true := by
 rw [D9.KO] at h;simp only [z0q, z1q] at h;exact h.2 k hk
theorem D9.FU {t : D9} : t.size <= lim -> t.thin = true := by
 induction t using D9.ind with
 | h t ih =>
   intro h;rw [D9.KO];simp only [z0q, decide_eq_true_eq, z1q];refine ⟨by have := t.oH; omega, fun k hk => ih k hk (by have := D9.IC hk; omega)⟩
def D9.pat : D9 -> Bool
 | .mk a b c d e f ks => D9.one (.mk a b c d e f ks) && (ks.map D9.pat).all id
theorem D9.eZ : t.pat = (t.one && t.kids.all D9.pat) := by
 cases t;rw [D9.pat];simp [z18q]
def D9.Em : D9 -> List ByteArray -> List ByteArray
 | .mk k _ _ nm _ _ ks, l => ks.foldl (fun l k => D9.Em k l) (if k = 2 then l ++ [nm] else l)
theorem D9.qX (l : List ByteArray) : t.Em l = t.kids.foldl (fun l k => k.Em l) (if t.kind = 2 then l ++ [t.name] else l) := by
 cases t;rw [D9.Em];rfl
def D9.names : List ByteArray := t.Em []
theorem D9.A3h : ∀ l : List ByteArray, (t.Em l).length <= l.length + t.size := by
 induction t using D9.ind with
 | h t ih =>
   intro l;rw [D9.qX];have key : ∀ (ks : List D9), (∀ k ∈ ks, ∀ l : List ByteArray, (k.Em l).length <= l.length + k.size) -> ∀ l : List ByteArray, (ks.foldl (fun l k => k.Em l) l).length <= l.length + (ks.map D9.size).sum := by
    intro ks
    induction ks with
    | nil => intro _ l; simp
    | cons k ks ihk =>
      intro h l;simp only [z40q, z11q, z16q];have h1 := ihk (fun k' Vl => h k' (z4q _ Vl)) (k.Em l)
      have h2 := h k (z5q ..) l;omega
   have h1 := key t.kids ih (if t.kind = 2 then l ++ [t.name] else l)
   rw [D9.size_eq];have h2 : (if t.kind = 2 then l ++ [t.name] else l).length <= l.length + 1 := by split <;> simp
   omega
def D9.subs : D9 -> List D9
 | .mk a b c d e f ks => .mk a b c d e f ks :: (ks.map D9.subs).flatten
theorem D9.aO : t.subs = t :: t.kids.flatMap D9.subs := by
 cases t;rw [D9.subs];rfl
def Yn : List ByteArray := if p.kind = 2 then [p.name] else []
theorem D9.A9b : ∀ l : List ByteArray, t.Em l = l ++ t.subs.flatMap Yn := by
 induction t using D9.ind with
 | h t ih =>
   intro l;have key : ∀ (ks : List D9), (∀ k ∈ ks, ∀ l : List ByteArray, k.Em l = l ++ k.subs.flatMap Yn) -> ∀ l : List ByteArray, ks.foldl (fun l k => k.Em l) l = l ++ (ks.flatMap D9.subs).flatMap Yn := by
    intro ks
    induction ks with
    | nil => intro _ l; simp
    | cons k ks ihk =>
      intro h l;simp only [z40q, z48q, List.flatMap_append];rw [ihk (fun k' Vl => h k' (z4q _ Vl)), h k (z5q ..)]
      simp
   rw [D9.qX, key t.kids ih, D9.aO];simp only [z48q, Yn]
   by_cases h : t.kind = 2 <;> simp [h, Yn]
theorem D9.B5O : t.pat = t.subs.all D9.one := by
 induction t using D9.ind with
 | h t ih =>
   rw [D9.eZ, D9.aO];simp only [List.all_cons, List.all_flatMap]
   congr 1
   rw [Bool.eq_iff_iff];simp only [z1q];constructor
   ·intro h k hk x hx
    have := h k hk;rw [ih k hk] at this;exact z1q.1 this x hx
   ·intro h k hk
    rw [ih k hk];exact z1q.2 (h k hk)
def D9.right : Bool := t.pat && decide t.names.Nodup
theorem B5m : t.thin = true -> ∃ n, BJ 7 6 n t.enc = some (t.subs.map D9.enc) := by
 induction t using D9.ind with
 | h t ih =>
   intro ht;have key : ∀ ks : List D9, (∀ k ∈ ks, ∃ n, BJ 7 6 n k.enc = some (k.subs.map D9.enc)) -> ∃ n, Jb (BJ 7 6 n) (ks.map D9.enc) = some ((ks.flatMap D9.subs).map D9.enc) := by
    intro ks
    induction ks with
    | nil => intro _; exact ⟨0, rfl⟩
    | cons k ks ihk =>
      intro h;obtain ⟨n, hn⟩ := h k (z5q ..);obtain ⟨m, hm⟩ := ihk fun k' Vl => h k' (z4q _ Vl)
      refine ⟨n + m, ?_⟩;simp only [z11q, Jb, Wd (z32q n m) hn, Zv (fun d l h => Wd (z36q m n) h) hm, D5]
      simp
   obtain ⟨n, hn⟩ := key t.kids fun k hk => ih k hk (D9.EN ht hk)
   refine ⟨n + 1, ?_⟩;rw [D9.KO] at ht;simp only [z0q, decide_eq_true_eq] at ht;rw [D9.F8, BJ];simp only [z8q, z14q, List.getD_cons_succ, List.getD_cons_zero, z43q, hn, D5, D9.aO t, z11q];simp [ht.1, D9.F8]
def D9.texts : Prop := p.name.size <= 4294967000 /\ p.s.size <= 4294967000
def D9.txt : Prop := ∀ q ∈ p.subs, q.texts
theorem D9.B55 : p ∈ p.subs := by rw [D9.aO]; exact z5q ..
theorem D9.B7q {p k q : D9} (h : k ∈ p.kids) (hq : q ∈ k.subs) : q ∈ p.subs := by
 rw [D9.aO];exact z4q _ (z52q.2 ⟨k, h, hq⟩)
theorem D9.B7V {p k : D9} (h : p.txt) (hk : k ∈ p.kids) : k.txt := fun q hq => h q (D9.B7q hk hq)
end Go.Su

/-
 TERMS and EXPRESSIONS: what is said of them.
-/
namespace Go.Su
structure D9.fit (p : D9) : Prop where
 size : p.size <= lim
 txt : p.txt
theorem D9.qK {p : D9} (h : p.fit) : p.thin = true := D9.FU h.size
def D9.bare : D9 -> D9
 | .mk k _ _ nm n s ks => .mk k 0 0 nm n s (ks.map D9.bare)
variable (p : D9)
@[simp] theorem D9.B3b : p.bare.kind = p.kind := by cases p; rw [D9.bare]; rfl
@[simp] theorem D9.B63 : p.bare.lo = 0 := by cases p; rw [D9.bare]; rfl
@[simp] theorem D9.B62 : p.bare.hi = 0 := by cases p; rw [D9.bare]; rfl
@[simp] theorem D9.B3c : p.bare.name = p.name := by cases p; rw [D9.bare]; rfl
@[simp] theorem D9.B8n : p.bare.n = p.n := by cases p; rw [D9.bare]; rfl
@[simp] theorem D9.B8o : p.bare.s = p.s := by cases p; rw [D9.bare]; rfl
@[simp] theorem D9.B3a : p.bare.kids = p.kids.map D9.bare := by cases p; rw [D9.bare]; rfl
def Ex.bare : Ex -> Ex
 | .mk k _ _ nm ar n s op a b ps ks => .mk k 0 0 nm ar n s op a b (ps.map D9.bare) (ks.map Ex.bare)
variable (p : Ex)
@[simp] theorem Ex.B3b : p.bare.kind = p.kind := by cases p; rw [Ex.bare]; rfl
@[simp] theorem Ex.B63 : p.bare.lo = 0 := by cases p; rw [Ex.bare]; rfl
@[simp] theorem Ex.B62 : p.bare.hi = 0 := by cases p; rw [Ex.bare]; rfl
@[simp] theorem Ex.B3c : p.bare.name = p.name := by cases p; rw [Ex.bare]; rfl
@[simp] theorem Ex.C0O : p.bare.arg = p.arg := by cases p; rw [Ex.bare]; rfl
@[simp] theorem Ex.B8n : p.bare.n = p.n := by cases p; rw [Ex.bare]; rfl
@[simp] theorem Ex.B8o : p.bare.s = p.s := by cases p; rw [Ex.bare]; rfl
@[simp] theorem Ex.C1G : p.bare.op = p.op := by cases p; rw [Ex.bare]; rfl
@[simp] theorem Ex.C1H : p.bare.a = p.a := by cases p; rw [Ex.bare]; rfl
@[simp] theorem Ex.C1I : p.bare.b = p.b := by cases p; rw [Ex.bare]; rfl
@[simp] theorem Ex.C0H : p.bare.H8 = p.H8.map D9.bare := by cases p; rw [Ex.bare]; rfl
@[simp] theorem Ex.B3a : p.bare.kids = p.kids.map Ex.bare := by cases p; rw [Ex.bare]; rfl
structure Ex.Rf (t : Ex) : Prop where
 name : t.name.size <= 4294967000
 arg : t.arg.size <= 4294967000
 s : t.s.size <= 4294967000
 a : t.a.thin = true
 b : t.b.thin = true
 avc : t.a.LX <= lim
 bvc : t.b.LX <= lim
 H8 : t.H8.length < lim
 pat : ∀ p ∈ t.H8, p.fit
 kids : t.kids.length < lim
inductive Ex.fit : Ex -> Prop where
 | mk (t : Ex) : t.Rf -> (∀ k ∈ t.kids, k.fit) -> t.fit
theorem Ex.fit.one {t : Ex} (h : t.fit) : t.Rf := by cases h; assumption
theorem Ex.fit.kid {t k : Ex} (h : t.fit) (hk : k ∈ t.kids) : k.fit := by cases h with | mk _ _ g => exact g k hk
structure Tm.Rf (t : Tm) : Prop where
 name : t.name.size <= 4294967000
 arg : t.arg.size <= 4294967000
 s : t.s.size <= 4294967000
 vars : t.vars.length < lim
 a : t.a.thin = true
 b : t.b.thin = true
 avc : t.a.LX <= lim
 bvc : t.b.LX <= lim
 args : t.args.length < lim
 A8g : ∀ y ∈ t.args, y.thin = true
 C1K : ∀ y ∈ t.args, y.LX <= lim
 H8 : t.H8.length < lim
 pat : ∀ p ∈ t.H8, p.fit
 kids : t.kids.length < lim
inductive Tm.fit : Tm -> Prop where
 | mk (t : Tm) : t.Rf -> (∀ k ∈ t.kids, k.fit) -> t.fit
variable {t : Tm}
theorem Tm.fit.one (h : t.fit) : t.Rf := by cases h; assumption
theorem Tm.fit.kid {k : Tm} (h : t.fit) (hk : k ∈ t.kids) : k.fit := by cases h with | mk _ _ g => exact g k hk
theorem D9.A0I (p : D9) : p.size <= p.Y0 := by
 induction p using D9.ind with
 | h p ih =>
   rw [D9.size_eq, D9.BQ];have key : ∀ ks : List D9, (∀ k ∈ ks, k.size <= k.Y0) -> (ks.map D9.size).sum <= (ks.map D9.Y0).sum := by
    intro ks
    induction ks with
    | nil => simp
    | cons k ks ihk =>
      intro h;simp only [z11q, z16q];have := h k (z5q ..);have := ihk fun k' Vl => h k' (z4q _ Vl)
      omega
   have := key p.kids ih;omega
theorem D9.B6f {p : D9} : ∀ q ∈ p.subs, q.Y0 <= p.Y0 := by
 induction p using D9.ind with
 | h p ih =>
   intro q hq;rw [D9.aO] at hq;rcases z12q.1 hq with rfl | hq
   ·exact z35q _
   ·obtain ⟨k, hk, hq⟩ := z52q.1 hq
    have := ih k hk q hq;have := D9.NT hk;omega
theorem D9.WU {p : D9} (h : p.Y0 <= 4294967000) : p.fit := by
 refine ⟨by have := p.A0I; unfold lim; omega, fun q hq => ?_⟩
 have := D9.B6f q hq;exact ⟨by have := q.A0p; omega, by have := q.A88; omega⟩
theorem B7U {l : List Nat} (h : ∀ a ∈ l, 0 < a) : l.length <= l.sum := by
 induction l with
 | nil => simp
 | cons a l ih =>
   have := h a (z5q ..);have := ih fun b hb => h b (z4q _ hb)
   simp only [z8q, z16q];omega
theorem B1m {α : Type} {l : List α} {f : α -> Nat} (h : ∀ a, 0 < f a) : l.length <= (l.map f).sum := by
 have := B7U (l := l.map f) (by intro a ha; obtain ⟨x, _, rfl⟩ := List.mem_map.1 ha; exact h x)
 simpa using this
theorem Wl {α : Type} {l : List α} {f : α -> Nat} {a : α} (h : a ∈ l) : f a <= (l.map f).sum := Od (List.mem_map_of_mem (f := f) h)
theorem Tm.WU : t.Y0 <= 4294967000 -> t.fit := by
 induction t using Tm.ind with
 | h t ih =>
   intro h;refine .mk t ⟨by have := t.A0p; omega, by have := t.B5E; omega, by have := t.A88; omega, by have := t.B3V; unfold lim; omega, Ty.FU (by have := t.A0n; unfold lim; omega), Ty.FU (by have := t.A0o; unfold lim; omega), by have := t.A0n; have := t.a.kZ; unfold lim; omega, by have := t.A0o; have := t.b.kZ; unfold lim; omega, ?_, fun p hp => ?_, fun p hp => ?_, ?_, fun p hp => ?_, ?_⟩ fun k hk => ih k hk (by have := Tm.NT hk; omega)
   ·have := t.YF; have := B1m (l := t.args) Ty.Db; unfold lim; omega
   ·have := t.YF; have := Wl (f := Ty.size) hp; exact Ty.FU (by unfold lim; omega)
   ·have := t.YF; have := Wl (f := Ty.size) hp; have := p.kZ; unfold lim; omega
   ·have := t.A0q; have := B1m (l := t.H8) D9.A3M; unfold lim; omega
   ·have := t.A0q; have := Wl (f := D9.Y0) hp; exact D9.WU (by omega)
   ·have := t.NU; unfold lim; omega
inductive Tm.sized : Tm -> Prop where
 | mk (t : Tm) : t.a.size <= lim -> t.b.size <= lim -> (∀ y ∈ t.args, y.size <= lim) -> (∀ k ∈ t.kids, k.sized) -> t.sized
theorem Tm.sized.a (h : t.sized) : t.a.size <= lim := by cases h; assumption
theorem Tm.sized.b (h : t.sized) : t.b.size <= lim := by cases h; assumption
theorem Tm.sized.args (h : t.sized) : ∀ y ∈ t.args, y.size <= lim := by cases h; assumption
theorem Tm.sized.kid {k : Tm} (h : t.sized) (hk : k ∈ t.kids) : k.sized := by cases h with | mk _ _ _ _ g => exact g k hk
theorem Tm.B2K : t.Y0 <= 4294967000 -> t.sized := by
 induction t using Tm.ind with
 | h t ih =>
   intro h;refine .mk t (by have := t.A0n; unfold lim; omega) (by have := t.A0o; unfold lim; omega) (fun y hy => ?_) fun k hk => ih k hk (by have := Tm.NT hk; omega)
   have := t.YF; have := Wl (f := Ty.size) hy; unfold lim; omega
def Ty.none (t : Ty) : Bool := decide (t.kind = 0) && decide (t.n = 0) && decide (t.kids.length = 0)
theorem Ty.A3O {t : Ty} : t.none = true ↔ t = .mk 0 0 [] := by
 unfold Ty.none;rw [Ty.ED];simp [and_assoc]
variable (k : Int)
def U7 : Bool := decide (k = 1 \/ k = 9 \/ k = 11 \/ k = 12)
def Z8 : Bool := decide (k = 12)
def kN : Bool := decide (k = 2 \/ k = 3)
def kS : Bool := decide (k = 4)
def Aw : Bool := decide (k = 15)
def Av : Bool := decide (k = 14 \/ k = 15)
def U9 : Bool := decide (k = 11 \/ k = 12)
def U6 : Bool := decide (k = 1)
def U8 : Bool := decide (k = 14)
def kA : Bool := decide (k = 7 \/ k = 9 \/ k = 12 \/ k = 16)
def kB : Bool := decide (k = 12 \/ k = 16)
def O7 : Bool := decide (k = 16)
def DJ (np : Nat) : Bool := decide (1 <= k) && decide (k <= 16) && (!decide (k = 14) || decide (0 < np))
def O9 (np : Nat) : Int :=
 if k = 6 \/ k = 8 \/ k = 10 \/ k = 11 \/ k = 12 \/ k = 15 then 2 else if k = 9 \/ k = 16 then 1 else if k = 13 then 3 else if k = 14 then np + 1 else 0
def CU (h : Bool) (s : ByteArray) : Bool := if h = true then Oe s else decide (s = N9)
def CX (h : Bool) (t : Ty) : Bool := if h = true then t.right else t.none
variable (t : Tm)
def Tm.lists : Bool := t.vars.all (fun v => decide (0 <= v) && decide (v <= 1048576)) && t.args.all Ty.right && t.H8.all D9.right
def Tm.A55 : Bool := (U9 t.kind || decide (t.vars.length = 0)) && (U6 t.kind || decide (t.args.length = 0)) && (U8 t.kind || decide (t.H8.length = 0)) && t.lists
def Tm.A3Q : Bool := (O7 t.kind || (decide (t.label = 0) && !t.neg)) && (decide (0 <= t.label) && decide (t.label <= 1048576)) && t.A55
def Tm.A3P : Bool := (!Aw t.kind || (decide (1 <= t.op) && decide (t.op <= 7))) && (Aw t.kind || decide (t.op = 0)) && t.A3Q
def Tm.A0s : Bool := (kS t.kind || decide (t.s = N9)) && decide (t.s.size <= 200) && (Av t.kind || (decide (t.lo = 0) && decide (t.hi = 0))) && t.A3P
def Tm.qa : Bool := (kN t.kind || decide (t.n = 0)) && (!decide (t.kind = 3) || decide (t.n = 0) || decide (t.n = 1)) && t.A0s
def Tm.one : Bool := DJ t.kind t.H8.length && decide ((t.kids.length : Int) = O9 t.kind t.H8.length) && CU (U7 t.kind) t.name && CU (Z8 t.kind) t.arg && CX (kA t.kind) t.a && CX (kB t.kind) t.b && t.qa
def Tm.right : Tm -> Bool
 | .mk a b c d e f g h i j k l m n o ks => Tm.one (.mk a b c d e f g h i j k l m n o ks) && (ks.map Tm.right).all id
theorem Tm.right_eq : t.right = (t.one && t.kids.all Tm.right) := by
 cases t;rw [Tm.right];simp [z18q]
end Go.Su

/-
 TERMS, as the reference has them.
-/
namespace Go.Su
variable (t : Tm)
def Tm.Zn : Tm :=
 .mk t.kind (if Av t.kind = true then t.lo else 0) (if Av t.kind = true then t.hi else 0) (if U7 t.kind = true then t.name else N9) (if Z8 t.kind = true then t.arg else N9) (if kN t.kind = true then t.n else 0)
  (if kS t.kind = true then t.s else N9) (if Aw t.kind = true then t.op else 0) (if O7 t.kind = true then t.label else 0) (if O7 t.kind = true then t.neg else false) (if U9 t.kind = true then t.vars else [])
  (if kA t.kind = true then t.a else .mk 0 0 []) (if kB t.kind = true then t.b else .mk 0 0 []) (if U6 t.kind = true then t.args else []) (if U8 t.kind = true then t.H8 else []) []
def Tm.EY : Int := if 1 <= t.kind /\ t.kind <= 16 then O9 t.kind t.H8.length else -1
noncomputable def Tm.A08 (a b : Tm) : Bool :=
 decide (a.kind = b.kind) && (decide (a.lo = b.lo) && decide (a.hi = b.hi)) && decide (a.name = b.name) && decide (a.arg = b.arg) && decide (a.n = b.n) && decide (a.s = b.s) && decide (a.op = b.op) && decide (a.label = b.label) && decide (a.neg = b.neg) &&
  decide (a.args = b.args) && decide (a.a = b.a) && decide (a.b = b.b) && decide (a.vars = b.vars) && decide (a.H8 = b.H8)
theorem Tm.B29 {t : Tm} (h : t.Rf) : t.Zn.Rf := by
 have t0 : (Ty.mk 0 0 []).thin = true := by rw [Ty.KO]; simp [lim]
 obtain ⟨a1, a2, a3, a4, a5, a6, b1, b2, a7, a8, b3, a9, a10, a11⟩ := h;have t1 : (Ty.mk 0 0 []).LX <= lim := by rw [Ty.A0U]; simp [lim]
 have n0 : N9.size = 0 := rfl;constructor <;> simp only [Tm.Zn, Tm.Sy, Tm.xe, Tm.fD, Tm.A1p, Tm.A8f, Tm.A8i, Tm.A00, Tm.oL, Tm.AZ] <;> (try split) <;> simp_all [lim]
def Tm.JK : Bool :=
 if t.kind = 1 then Oe t.name
 else if t.kind = 11 then Oe t.name
 else if t.kind = 3 then decide (t.n = 0) || decide (t.n = 1)
 else if t.kind = 4 then decide (t.s.size <= 200)
 else if t.kind = 7 then t.a.right
 else if t.kind = 9 then Oe t.name && t.a.right
 else if t.kind = 12 then Oe t.name && Oe t.arg && t.a.right && t.b.right
 else if t.kind = 14 then decide (0 < t.H8.length)
 else if t.kind = 15 then decide (1 <= t.op) && decide (t.op <= 7)
 else if t.kind = 16 then decide (0 <= t.label) && decide (t.label <= 1048576) && t.a.right && t.b.right
 else true
theorem B3W : N9.size = 0 := rfl
theorem EQ {t : Ty} : t.none = true ↔ Ty.mk 0 0 [] = t := by rw [Ty.A3O]; exact eq_comm
set_option maxHeartbeats 2000000 in
theorem Tm.B7t : (decide (t.EY = (t.kids.length : Int)) && t.Zn.A08 t && t.lists && t.JK) = t.one := by
 have e8 : ∀ s : ByteArray, (N9 = s) ↔ (s = N9) := fun s => eq_comm
 have e0 : ∀ n : Int, (0 = n) ↔ (n = 0) := fun s => eq_comm
 have eb : ∀ n : Bool, (false = n) ↔ (n = false) := fun s => eq_comm
 have ek : ∀ n : Int, (n = (t.kids.length : Int)) ↔ ((t.kids.length : Int) = n) := fun s => eq_comm
 have el : ∀ {α : Type} (l : List α), ([] = l) ↔ (l.length = 0) := fun l => by cases l <;> simp
 have es : t.s = N9 -> t.s.size <= 200 := fun h => by rw [h, B3W]; omega
 rw [Bool.eq_iff_iff];simp only [Tm.A08, Tm.Zn, Tm.Bi, Tm.qW, Tm.qP, Tm.Sy, Tm.xe, Tm.Ro, Tm.fD, Tm.A76, Tm.eG, Tm.A0r, Tm.A00, Tm.A8f, Tm.A8i, Tm.A1p, Tm.oL, Tm.EY, Tm.one, Tm.qa, Tm.A0s, Tm.A3P, Tm.A3Q, Tm.A55];generalize t.lists = LL
 by_cases k1 : t.kind = 1
 ·simp [k1, Tm.JK, DJ, U7, Z8, kN, kS, Aw, Av, U9, U6, U8, kA, kB, O7, O9, CU, CX, EQ, e8, e0, eb, ek, el]; grind
 by_cases k2 : t.kind = 2
 ·simp [k2, Tm.JK, DJ, U7, Z8, kN, kS, Aw, Av, U9, U6, U8, kA, kB, O7, O9, CU, CX, EQ, e8, e0, eb, ek, el]; grind
 by_cases k3 : t.kind = 3
 ·simp [k3, Tm.JK, DJ, U7, Z8, kN, kS, Aw, Av, U9, U6, U8, kA, kB, O7, O9, CU, CX, EQ, e8, e0, eb, ek, el]; grind
 by_cases k4 : t.kind = 4
 ·simp [k4, Tm.JK, DJ, U7, Z8, kN, kS, Aw, Av, U9, U6, U8, kA, kB, O7, O9, CU, CX, EQ, e8, e0, eb, ek, el]; grind
 by_cases k5 : t.kind = 5
 ·simp [k5, Tm.JK, DJ, U7, Z8, kN, kS, Aw, Av, U9, U6, U8, kA, kB, O7, O9, CU, CX, EQ, e8, e0, eb, ek, el]; grind
 by_cases k6 : t.kind = 6
 ·simp [k6, Tm.JK, DJ, U7, Z8, kN, kS, Aw, Av, U9, U6, U8, kA, kB, O7, O9, CU, CX, EQ, e8, e0, eb, ek, el]; grind
 by_cases k7 : t.kind = 7
 ·simp [k7, Tm.JK, DJ, U7, Z8, kN, kS, Aw, Av, U9, U6, U8, kA, kB, O7, O9, CU, CX, EQ, e8, e0, eb, ek, el]; grind
 by_cases k8 : t.kind = 8
 ·simp [k8, Tm.JK, DJ, U7, Z8, kN, kS, Aw, Av, U9, U6, U8, kA, kB, O7, O9, CU, CX, EQ, e8, e0, eb, ek, el]; grind
 by_cases k9 : t.kind = 9
 ·simp [k9, Tm.JK, DJ, U7, Z8, kN, kS, Aw, Av, U9, U6, U8, kA, kB, O7, O9, CU, CX, EQ, e8, e0, eb, ek, el]; grind
 by_cases k10 : t.kind = 10
 ·simp [k10, Tm.JK, DJ, U7, Z8, kN, kS, Aw, Av, U9, U6, U8, kA, kB, O7, O9, CU, CX, EQ, e8, e0, eb, ek, el]; grind
 by_cases k11 : t.kind = 11
 ·simp [k11, Tm.JK, DJ, U7, Z8, kN, kS, Aw, Av, U9, U6, U8, kA, kB, O7, O9, CU, CX, EQ, e8, e0, eb, ek, el]; grind
 by_cases k12 : t.kind = 12
 ·simp [k12, Tm.JK, DJ, U7, Z8, kN, kS, Aw, Av, U9, U6, U8, kA, kB, O7, O9, CU, CX, EQ, e8, e0, eb, ek, el]; grind
 by_cases k13 : t.kind = 13
 ·simp [k13, Tm.JK, DJ, U7, Z8, kN, kS, Aw, Av, U9, U6, U8, kA, kB, O7, O9, CU, CX, EQ, e8, e0, eb, ek, el]; grind
 by_cases k14 : t.kind = 14
 ·simp [k14, Tm.JK, DJ, U7, Z8, kN, kS, Aw, Av, U9, U6, U8, kA, kB, O7, O9, CU, CX, EQ, e8, e0, eb, ek, el]; grind
 by_cases k15 : t.kind = 15
 ·simp [k15, Tm.JK, DJ, U7, Z8, kN, kS, Aw, Av, U9, U6, U8, kA, kB, O7, O9, CU, CX, EQ, e8, e0, eb, ek, el]; grind
 by_cases k16 : t.kind = 16
 ·simp [k16, Tm.JK, DJ, U7, Z8, kN, kS, Aw, Av, U9, U6, U8, kA, kB, O7, O9, CU, CX, EQ, e8, e0, eb, ek, el]; grind
 have hk : ¬ (1 <= t.kind /\ t.kind <= 16) := by omega
 have Vl : ¬ ((-1 : Int) = (t.kids.length : Int)) := by omega
 have hk2 : DJ t.kind t.H8.length = false := by
  unfold DJ;rw [Bool.eq_false_iff];intro h;simp only [z0q, decide_eq_true_eq] at h;omega
 simp [hk, Vl, hk2]
end Go.Su

/-
 TYPES put for variables, types that agree, and the CHECKER of terms: what is said of them, without any program.
-/
namespace Go.Su
def look (l : List (Int × Ty)) (n : Int) : Option Ty := (l.find? fun e => decide (e.1 = n)).map (·.2)
def B0f : Ty := .mk 0 0 []
theorem Ty.FR {t : Ty} : t.right = true ↔ arity t.kind = t.kids.length /\ 0 <= t.n /\ t.n <= 1048576 /\ (t.kind = 6 \/ t.n = 0) /\ ∀ k ∈ t.kids, k.right = true := by
 rw [Ty.right_eq];simp only [z0q, Bool.or_eq_true, decide_eq_true_eq, z1q, and_assoc]
theorem Ty.O4 {t k : Ty} (h : t.right = true) (hk : k ∈ t.kids) : k.right = true := (Ty.FR.1 h).2.2.2.2 k hk
def Ty.agrees (a b : Ty) : Bool :=
 if a.kind = 5 then b.without 6 else if b.kind = 5 then a.without 6 else
  decide (a.kind = b.kind) && decide (a.n = b.n) && ((a.kids.attach.zip b.kids).map fun p => Ty.agrees p.1.1 p.2).all id
termination_by SizeOf.sizeOf a
decreasing_by exact Ty.FO p.1.2
theorem Ty.R_ (a b : Ty) : a.agrees b = if a.kind = 5 then b.without 6 else if b.kind = 5 then a.without 6 else decide (a.kind = b.kind) && decide (a.n = b.n) && (a.kids.zip b.kids).all fun p => p.1.agrees p.2 := by
 rw [Ty.agrees]
 congr 3
 have e : a.kids.attach.zip b.kids = (a.kids.attach.zip b.kids) := rfl;have key : ∀ (l : List { x // x ∈ a.kids }) (m : List Ty), ((l.zip m).map fun p => Ty.agrees p.1.1 p.2).all id = ((l.map (·.1)).zip m).all fun p => p.1.agrees p.2 := by
  intro l
  induction l with
  | nil => intro m; simp
  | cons x l ih => intro m; cases m <;> simp_all
 rw [key];simp
structure Nm where
 name : ByteArray
 ty : Ty
 vars : List Int
abbrev Res := Except Int Ty
def takes (S : List Int) (l : List Int) : Bool := decide (l.Nodup) && l.all fun v => !decide (v ∈ S)
abbrev Chk := List Nm -> List Int -> Res
end Go.Su

/-
 FROM A READING TO DATA: binds, numbers, slices.
-/
namespace Go.Su
section
variable {H : Type} {enc : TypeId × Value -> H} {P : Program} {w : World} {held : Bool}
end
theorem B26 {P : Program} {w : World} {r : Reach} {b : Nat} {t : TypeId} {v : Value} {S : Z5} {h' : Heap} {k : IntKind} {n : Int} (ht : P.underlying t = some (.int k)) (h : Value.okWide P w r b t v) (hr : RC S h' (.int k n) v.cells.toList) : RV S h' (.int k n) v := by
 unfold Value.okWide at h;rw [ht] at h;have hv : v.cells = #[v] := by
  cases v <;> first | rfl | (exfalso; revert h; simp [Cell.okWide, Cell.ok, ht])
 rw [hv] at hr;simpa [RC, RV] using hr
section
variable {H : Type} {enc : TypeId × Value -> H} {P : Program} {w : World} {base : Nat} {spare : Nat -> Bool} {held : Bool}
end
end Go.Su

/-
 THE DATA MACHINE: the program's functions are what one step makes of them: as an equation; runs on closed data by rewriting.
-/
namespace Go.Su
variable {C : AO}
theorem B1C : Ky (run C) (Cu C (run C)) := by
 constructor
 ·intro f ds d H
  obtain ⟨n, hn⟩ := A1l.p f ds d H;cases n with
  | zero => simp [Kl] at hn
  | succ n => exact (A0R (A1h n)).p _ _ _ hn
 ·intro f rs sg q H
  obtain ⟨n, hn⟩ := A1l.r f rs sg q H;cases n with
  | zero => simp [Kl] at hn
  | succ n => exact (A0R (A1h n)).r _ _ _ _ hn
variable {α : Type}
theorem A3A {x y : Option α} (h : ∀ a, x = some a -> y = some a) (h' : ∀ a, y = some a -> x = some a) : x = y := by
 cases hx : x with
 | some a => exact (h a hx).symm
 | none =>
   cases hy : y with
   | none => rfl
   | some b => have := h' b hy; rw [hx] at this; cases this
variable {f : FuncId} {fn : Func}
theorem A8H {c : Code} {ds : List DV} (hp : C.A0x f = none) (hf : C.P.funcs[f]? = some fn) (hb : fn.body = some c) :
 (run C).p f ds = Vi C (run C) (C.fl f) (Yo C.P fn) [] c (F4 fn (ds.map fun d => (d, .val)) []) := by
 rw [B09];have e : (Cu C (run C)).p f ds = l6 C (run C) (C.fl f) c (Yo C.P fn) (F4 fn (ds.map fun d => (d, .val)) []) := by simp only [Cu, hf, hb, K4]
 rw [<- e];exact A3A (fun a h => B1C.p _ _ _ h) (fun a h => A9B.p _ _ _ h)
theorem B7f {c : Code} {s : Ag} {rs : List (DV × Meta)} {sg : List C9} (hs : C.sig f = some s) (hf : C.P.funcs[f]? = some fn) (hb : fn.body = some c) (hp : C.B48 f = none := by rfl) :
 (run C).r f rs sg = Vi C (run C) (C.fl f) (fC C.P fn s) [] c (F4 fn rs sg) := by
 rw [B09];have e : (Cu C (run C)).r f rs sg = l6 C (run C) (C.fl f) c (fC C.P fn s) (F4 fn rs sg) := by simp only [Cu, hs, hf, hb, K4]
 rw [<- e];exact A3A (fun a h => B1C.r _ _ _ _ h) (fun a h => A9B.r _ _ _ _ h)
variable {β : Type}
theorem C0t {x y : Option α} (h : x = y) (f : α -> Option β) : ob x f = ob y f := by rw [h]
theorem C0x {x y : Bool} (h : x = y) (f : Option β) : og x f = og y f := by rw [h]
theorem B9g {x y : DV} (h : x = y) (a b : Option β) : D7 x a b = D7 y a b := by rw [h]
theorem B9f {x y : DV} (h : x = y) (a b c : Option β) : F7 x a b c = F7 y a b c := by rw [h]
theorem B6O (x y : Option β) : D7 (.bool true) x y = x := rfl
theorem B6N (x y : Option β) : D7 (.bool false) x y = y := rfl
theorem B6M (x y z : Option β) : F7 (.bool true) x y z = x := rfl
theorem B6L (x y z : Option β) : F7 (.bool false) x y z = y := rfl
noncomputable def Xw (sz kf : Nat) : List DV -> Option (List DV) := Jb fun d => match d with
 | .agg cs => Qy sz kf cs
 | _ => none
theorem B3D {sz kf : Nat} {cs ds l : List DV} (h : cs.length = sz) (hk : cs.getD kf .undef = .list sz ds) (hl : ds.length <= lim) (hs : Xw sz kf ds = some l) : Qy sz kf cs = some (.agg cs :: l) := by
 have key : ∀ (ds l : List DV), Xw sz kf ds = some l -> ∃ n, Jb (BJ sz kf n) ds = some l := by
  intro ds
  induction ds with
  | nil => intro l h; exact ⟨0, h⟩
  | cons d ds ih =>
    intro l h;simp only [Xw, Jb] at h;obtain ⟨a, h1, h5⟩ := C8 h;obtain ⟨b, h2, h6⟩ := C8 h5;obtain ⟨m, hm⟩ := ih b h2;cases d with
    | agg cs =>
      simp only at h1;obtain ⟨n, hn⟩ := qM h1;refine ⟨n + m, ?_⟩;simp only [Jb, Wd (z32q n m) hn, Zv (fun d l h => Wd (z36q m n) h) hm, K4]
      exact h6
    | _ => simp at h1
 obtain ⟨n, hn⟩ := key ds l hs;refine A3B (n := n + 1) ?_;rw [BJ, hk];simp only [h, beq_self_eq_true, Bool.true_and, decide_eq_true hl, hn, K4, V7]
theorem B19 (sz kf : Nat) : Xw sz kf [] = some [] := rfl
theorem A3c (sz kf : Nat) (cs : List DV) (ds : List DV) : Xw sz kf (.agg cs :: ds) = ob (Qy sz kf cs) fun a => ob (Xw sz kf ds) fun b => some (a ++ b) := rfl
noncomputable def flatK (sz kf : Nat) (cs : List DV) : DV -> Option (List DV)
 | .list s ds => og (s == sz && decide (ds.length <= lim)) (ob (Xw sz kf ds) fun l => some (.agg cs :: l))
 | _ => none
theorem B5l {sz kf n : Nat} : ∀ {ds l : List DV}, Jb (BJ sz kf n) ds = some l -> Xw sz kf ds = some l := by
 intro ds
 induction ds with
 | nil => intro l h; exact h
 | cons d ds ih =>
   intro l h;simp only [Jb] at h;obtain ⟨a, h1, h2⟩ := C8 h;obtain ⟨b, h3, h4⟩ := C8 h2;cases d with
   | agg cs =>
     rw [A3c, A3B h1, ih h3];exact h4
   | _ => cases n <;> simp [BJ] at h1
theorem B5k (sz kf : Nat) (cs : List DV) : Qy sz kf cs = og (cs.length == sz) (flatK sz kf cs (cs.getD kf .undef)) := by
 refine A3A (fun l h => ?_) fun l h => ?_
 ·obtain ⟨n, hn⟩ := qM h
  cases n with
  | zero => simp [BJ] at hn
  | succ n =>
    rw [BJ] at hn;obtain ⟨h1, hn⟩ := F9 hn;rw [h1];cases hk : cs.getD kf .undef with
    | list s ds =>
      rw [hk] at hn;simp only at hn;obtain ⟨h2, hn⟩ := F9 hn;obtain ⟨a, h3, h4⟩ := C8 hn;simp only [flatK, h2, V7, B5l h3, K4];exact h4
    | _ => rw [hk] at hn; simp at hn
 ·obtain ⟨h1, h⟩ := F9 h
  cases hk : cs.getD kf .undef with
  | list s ds =>
    rw [hk] at h;simp only [flatK] at h;obtain ⟨h2, h⟩ := F9 h;obtain ⟨a, h3, h4⟩ := C8 h;simp only [z0q, decide_eq_true_eq, beq_iff_eq] at h2 h1;obtain ⟨rfl, h2⟩ := h2;simp only [Option.some.injEq] at h4;rw [<- h4];exact B3D h1 hk h2 h3
  | _ => rw [hk] at h; simp [flatK] at h
theorem C0u {x y : Option (List DV × List C9)} (h : x = y) (k : DV -> List C9 -> Option α) : oc x k = oc y k := by rw [h]
theorem C0v (v : DV) (l : List DV) (s : List C9) (k : DV -> List C9 -> Option α) : oc (some (v :: l, s)) k = k v s := rfl
end Go.Su

/-
 THE DATA MACHINE, part 36: a map's keys, collected by a loop and sorted.
-/
namespace Go.Su
open Go.Sort
structure Tc where
 type : TypeId
 pos : String
 after : Array Edge
def Tc.mk' (r : Tc) (dst : Option Nat) (op : Op) : Oper := ⟨dst, op, r.type, r.pos, r.after, none⟩
def C1b (P : Program) : AO := { P := P, fl := fun _ => {}, sig := fun _ => none, A0x := fun _ => none, clone := fun _ => false, lV := fun _ => 0 }
section
variable {P : Program} {n : Nat} {ops : Array Oper} {Q : Exit -> Act -> World -> Prop} {a : Act} {w w' : World} {o : Oper} {rest : List Oper} {v : Value}
theorem Oo (hg : o.guard = none) (hd : ∀ c, o.op ≠ .defer c) (hr : (execOp a.eval o).run P w = .ok (.value v) w') (hk : wpListIn (Mf none) n P ops Q rest (a.put o.dst v) w') : wpListIn (Mf none) n P ops Q (o :: rest) a w :=
 wpListIn_plain hg fun K hK => Gp.wpIn hd (Ap hr (hK _ _ hk))
theorem A7l {r : Tc} {t u : Nat} (hk : wpListIn (Mf none) n P ops Q rest (a.put (some t) (a.eval (.tmp u))) w) : wpListIn (Mf none) n P ops Q (r.mk' (some t) (.move (.tmp u)) :: rest) a w :=
 Oo rfl (fun c h => by cases h) (by simp [Tc.mk', execOp]) hk
theorem B01 {r : Tc} {t u : Nat} (hk : wpListIn (Mf none) n P ops Q rest (a.put (some t) (a.eval (.tmp u))) w) : wpListIn (Mf none) n P ops Q (r.mk' (some t) (.assign (.tmp u)) :: rest) a w :=
 Oo rfl (fun c h => by cases h) (by simp [Tc.mk', execOp]) hk
end
end Go.Su

/-
 THE DATA MACHINE, part 37: the library's copy of a slice.
-/
namespace Go.Su
variable (c : Code) (p : List Bool)
def B9s : List Oper :=
 match (sub p c []).1 with
 | .region _ ops _ => ops.toList
 | _ => []
def Mc (j : Nat) : Tc :=
 match (B9s c p)[j]? with
 | some o => ⟨o.type, o.pos, o.after⟩
 | none => ⟨0, "", #[]⟩
def B6v (j : Nat) : TypeId :=
 match (B9s c p)[j]? with
 | some o =>
   match o.op with
   | .binOp _ _ _ _ t => t
   | _ => 0
 | none => 0
structure ClP where
 i0 : Nat
 i1 : Nat
 i2 : Nat
 i3 : Nat
 r0 : Tc
 r1 : Tc
 r2 : Tc
 r3 : Tc
 r4 : Tc
 r5 : Tc
 r6 : Tc
 r7 : Tc
 ts : TypeId
 ty : TypeId
def ClP.code (q : ClP) : Code :=
 .seq (.region q.i0 #[q.r0.mk' (some 2) (.assign (.const (.slice none 0 0)))] false)
  (.seq (.seq (.region q.i1 #[q.r1.mk' (some 3) (.move (.tmp 0)), q.r2.mk' (some 4) (.binOp .eql q.ts (.tmp 3) (.const (.slice none 0 0)) q.ty)] false)
    (.cond (.tmp 4) (.seq (.region q.i2 #[q.r3.mk' (some 2) (.assign (.const (.slice none 0 0)))] false) .ret) .skip))
    (.seq (.region q.i3 #[q.r4.mk' (some 5) (.buildSlice q.ts 0 #[]), q.r5.mk' (some 6) (.move (.tmp 0)),
      q.r6.mk' (some 7) (.call { callee := .builtin .append, args := #[.tmp 5, .tmp 6], argTypes := #[q.ts, q.ts] }), q.r7.mk' (some 2) (.assign (.tmp 7))] false) .ret))
section
variable {P : Program} {n : Nat} {ops : Array Oper} {Q : Exit -> Act -> World -> Prop} {a : Act} {w : World} {rest : List Oper} {r : Tc} {t : Nat}
theorem A0Q {v : Value} (hk : wpListIn (Mf none) n P ops Q rest (a.put (some t) v) w) : wpListIn (Mf none) n P ops Q (r.mk' (some t) (.assign (.const v)) :: rest) a w :=
 Oo rfl (fun c h => by cases h) (by simp [Tc.mk', execOp, Act.eval]) hk
theorem B02 {u : Nat} {ts te ty : TypeId} {b : Option Addr} {l c : Nat} (hs : P.underlying ts = some (.slice te)) (hv : a.eval (.tmp u) = .slice b l c) (hk : wpListIn (Mf none) n P ops Q rest (a.put (some t) (.bool b.isNone)) w) : wpListIn (Mf none) n P ops Q (r.mk' (some t) (.binOp .eql ts (.tmp u) (.const (.slice none 0 0)) ty) :: rest) a w := by
 refine Oo (v := .bool b.isNone) rfl (fun c h => by cases h) ?_ hk
 simp only [Tc.mk', execOp, hv];exact Bv (Go.Lib.run_eql_slice_nil w ts te b l c 0 0 hs)
theorem A6n {ts te : TypeId} {i : TypeInfo} (hs : P.underlying ts = some (.slice te)) (hi : P.info? te = some i) (hk : wpListIn (Mf none) n P ops Q rest (a.put (some t) (.slice (some ⟨w.heap.size, 0, none⟩) 0 0)) (w.alloc (.cells #[] te))) :
 wpListIn (Mf none) n P ops Q (r.mk' (some t) (.buildSlice ts 0 #[]) :: rest) a w := by
 refine Oo (v := .slice (some ⟨w.heap.size, 0, none⟩) 0 0) rfl (fun c h => by cases h) ?_ hk
 simp only [Tc.mk', execOp];refine Bv ?_;unfold Instr.buildSlice;have BF : (sizeOf te).run P w = .ok i.size w := by simp [sizeOf, typeInfo, hi]
 simp only [Sem.run_bind, run_underlying hs, Result.andThen_ok, BF, Sem.run_ite];rw [if_neg (by simp), if_pos (by simp)]
 simp only [Sem.run_pure, Result.andThen_ok];have : Instr.fill (fun j => some (j * i.size, i.size)) ((Array.range (0 * i.size)).map ((#[] : Array Value)[· % (#[] : Array Value).size]!)) (Array.map (fun x : Nat × Operand => (x.1, a.eval x.2)) #[]).toList = some #[] := by
  rw [z49q];simp [Instr.fill]
 simp only [this];rfl
end
theorem A3y {P : Program} {f : FuncId} {fn : Func} {q : ClP} {sz : Nat} (BF : A4I P q.ts q.ts = some sz) (hf : P.funcs[f]? = some fn) (hb : fn.body = some q.code) (B5x : fn.results = #[.tmp 2]) (hnt : fn.ntmps = 8) : aG P f sz := by
 intro S w v ds hl hS hv;obtain ⟨e, e', z, inf, zv, hu, Iz, hz, GL, hpos, Ac, dY, Sr, ZV⟩ := Zl BF;rw [hu] at Iz;simp only [Option.some.injEq, TypeDesc.slice.injEq] at Iz;subst Iz;have EH : inf.size = sz := by
  obtain ⟨i', d', q1, -, q2, -⟩ := HY hz;rw [Ac] at q1;simp only [Option.some.injEq] at q1;rw [<- GL, q2, q1]
 obtain ⟨b, len, cap, all, rfl, f1, f2, f3, f4, f5, f6, f7⟩ := OV (P := P) hv;have fin : ∀ (a : Act) (v : Value) (w1 : World), a.defers = [] -> a.tmps.getD 2 undef = v -> ∀ R : Ending -> World -> Prop, R (.returned v) w1 -> bodyPost P fn R .ret a w1 := by
  intro a v w1 h1 h2 R h3;refine ⟨h1, v, ?_, h3⟩;rw [qd, B5x, <- h2];simp [KE]
 refine (callsIn_wide (n := 0)).1 (callsIn_of_wp hf hb trivial ?_);rw [hnt]
 show Code.wpIn (Mf none) 0 P _ _ _ _
 have C1m : (#[Value.slice b len cap] ++ Array.replicate (8 - #[Value.slice b len cap].size) undef : Array Value) = #[.slice b len cap, undef, undef, undef, undef, undef, undef, undef] := by rfl
 rw [C1m];refine wpIn_seq (wpIn_region_list (show wpListIn _ _ _ _ _ [_] _ _ from A0Q ?_))
 refine wpIn_seq (wpIn_seq (wpIn_region_list (show wpListIn _ _ _ _ _ [_, _] _ _ from A7l (B02 (b := b) (l := len) (c := cap) hu rfl ?_))))
 cases b with
 | none =>
   have h0 := f3 rfl;have ic : ds = [] := z7q (by omega)
   subst ic;refine wpIn_cond_true rfl (wpIn_seq (wpIn_region_list (show wpListIn _ _ _ _ _ [_] _ _ from A0Q ?_)))
   show Code.wpIn _ _ _ Code.ret _ _ _
   refine wpIn_ret ?_;dsimp only [Exit.then];exact fin _ _ _ rfl rfl _ ⟨none, 0, 0, 0, rfl, by simp, by simp, by simp, by simp, z35q _, Z4.refl _, fun _ _ => rfl, by simp⟩
 | some p =>
   refine wpIn_cond_false rfl (wpIn_skip ?_);refine wpIn_seq (wpIn_region_list (show wpListIn _ _ _ _ _ [_, _, _, _] _ _ from A6n hu Ac (A7l ?_)))
   have hw1 : ∀ w' : World, w'.heap = (w.alloc (.cells #[] e)).heap -> (Builtin.firstCells sz len (Value.slice (some p) len cap)).run P w' = .ok all.toArray w' := by
    intro w' hw'
    show (loadCells p (len * sz)).run P w' = _
    obtain ⟨hp, hc⟩ := f5 p rfl;have hl2 : len * sz = all.length := by rw [f4.1, f1]
    by_cases h0 : 0 < cap
    ·rw [hl2, hp h0]
     refine Wj fun j u hu => ?_
     rw [hw'];have h3 := (hc j u hu).1;have h4 : w.heap[p.block]? ≠ none := fun h => by simp [Su.hc, h] at h3
     have h5 : p.block < w.heap.size := by
      rcases z24q p.block w.heap.size with h | h
      ·exact h
      ·exact absurd (Array.getElem?_eq_none h) h4
     unfold Su.hc at h3 ⊢;rw [show (w.alloc (.cells #[] e)).heap[p.block]? = w.heap[p.block]? from Go.RowKit.Below.heap_alloc _ _ _ h5]
     exact h3
    ·have h0 : len = 0 := by omega
     have h9 : all = [] := z7q (by rw [<- hl2, h0]; simp)
     rw [h9, h0, z49q];rfl
   have go : ∀ (v' : Value) (w' : World), (Builtin.append_ #[q.ts, q.ts] q.r6.type #[.slice (some ⟨w.heap.size, 0, none⟩) 0 0, .slice (some p) len cap]).run P (w.alloc (.cells #[] e)) = .ok v' w' -> ∀ R : Ending -> World -> Prop, R (.returned v') w' ->
    wpListIn (Mf none) 0 P #[q.r4.mk' (some 5) (.buildSlice q.ts 0 #[]), q.r5.mk' (some 6) (.move (.tmp 0)), q.r6.mk' (some 7) (.call { callee := .builtin .append, args := #[.tmp 5, .tmp 6], argTypes := #[q.ts, q.ts] }), q.r7.mk' (some 2) (.assign (.tmp 7))]
     (Exit.then (Code.ret.wpIn (Mf none) 0 P (bodyPost P fn R)) (bodyPost P fn R)) [q.r6.mk' (some 7) (.call { callee := .builtin .append, args := #[.tmp 5, .tmp 6], argTypes := #[q.ts, q.ts] }), q.r7.mk' (some 2) (.assign (.tmp 7))]
     { tmps := #[.slice (some p) len cap, undef, .slice none 0 0, .slice (some p) len cap, .bool false, .slice (some ⟨w.heap.size, 0, none⟩) 0 0, .slice (some p) len cap, undef], defers := [] } (w.alloc (.cells #[] e)) := by
    intro v' w' hr R hR;refine Oo (v := v') (w' := w') rfl (fun c h => by cases h) ?_ (B01 ?_)
    ·refine Hq (C := C1b P) (b := .append) rfl rfl ?_
     simp only [List.map_toArray, z11q, List.map_nil];exact Bv hr
    ·show Code.wpIn _ _ _ Code.ret _ _ _
     refine wpIn_ret ?_
     show bodyPost P fn R .ret _ _
     exact fin _ _ _ rfl rfl _ hR
   by_cases ic : ds = []
   ·subst ic
    have h0 : len = 0 := f1;have h9 : all = [] := z7q (by rw [f4.1]; simp)
    refine go _ (w.alloc (.cells #[] e)) (JC (n := len) hu hu Ac (A3f _ _ _) (by rw [EH]; exact hw1 _ rfl) (by omega) (by rw [h9]; simp [storeCells])) _ ⟨some ⟨w.heap.size, 0, none⟩, 0, 0, 0, ?_, by simp, by simp, by simp, by simp, by simp, ⟨rfl, rfl, rfl⟩, fun b' GJ => Go.RowKit.Below.heap_alloc _ _ _ GJ, by simp⟩
    simp [h0]
   ·have JI : 0 < len := by rw [f1]; exact List.length_pos_iff.2 ic
    obtain ⟨nc, hnc, hr⟩ := run_append_grow (P := P) (t := q.ts) (u := q.ts) (ty := q.r6.type) (b := some ⟨w.heap.size, 0, none⟩) (len := 0) (cap := 0) (n := len) (all := []) (all' := all) (v := .slice (some p) len cap) (w := w.alloc (.cells #[] e)) hu hu Ac (A3f _ _ _) (by rw [EH]; exact hw1) (fun w' _ => by show (loadCells _ (0 * inf.size)).run P w' = _; rw [z49q]; rfl) Sr (by omega) (by unfold lim at hl; omega) dY
    simp only [z50q, z26q] at hr;have B5y : (w.alloc (.cells #[] e)).heap.size = w.heap.size + 1 := by simp
    refine go _ _ hr _ ⟨_, w.heap.size + 1, 0, nc, by rw [f1, B5y], fun _ => rfl, by omega, by simp, fun x hx => ?_, ?_, ⟨rfl, rfl, rfl⟩, fun b' GJ => ?_, fun _ => ⟨by omega, (all ++ (Builtin.zeroCells zv.cells (nc - len)).toList).toArray, e, ?_, ?_, hpos, fun j d hj => ?_⟩⟩
    ·simp only [Option.some.injEq] at hx
     subst hx;rfl
    ·simp; omega
    ·refine (Go.RowKit.Below.heap_alloc _ _ _ (by show b' < (w.alloc (.cells #[] e)).heap.size; omega)).trans ?_
     exact Go.RowKit.Below.heap_alloc _ _ _ GJ
    ·rw [<- B5y]
     exact World.alloc_heap_new _ _
    ·simp [f4.1]
    ·obtain ⟨vs, v1, v2, v3⟩ := f4.2 j d hj
     refine ⟨vs, v1, fun x u hx => ?_, v3.mono ⟨fun _ _ h => h, fun b o v hs hv => ?_⟩⟩
     ·have h1 := v2 x u hx
      have h2 := (z13q.1 h1).1;rw [z50q, List.getElem?_toArray, z25q h2];exact h1
     ·have hb : b < w.heap.size := by
       rcases z24q b w.heap.size with h | h
       ·exact h
       ·exact absurd hs (hS b o h)
      unfold Su.hc at hv ⊢;have e1 : ((w.alloc (.cells #[] e)).drew.alloc (.cells (all ++ (Builtin.zeroCells zv.cells (nc - len)).toList).toArray e)).heap[b]? = w.heap[b]? :=
       (Go.RowKit.Below.heap_alloc _ _ _ (by show b < (w.alloc (.cells #[] e)).heap.size; omega)).trans (Go.RowKit.Below.heap_alloc _ _ _ hb)
      rw [e1];exact hv
end Go.Su

/-
 MAPS of numbers and texts in the shared part, cells of the shared part.
-/
namespace Go.Su
variable {sg : List C9} {i : Nat}
theorem X4 {x : List (DV × Meta)} (h : E9 sg i = some x) : i < sg.length := by
 unfold E9 at h;cases hi : sg[i]? with
 | none => rw [hi] at h; cases h
 | some o => exact (z13q.1 hi).1
theorem P8 (h : i < sg.length) (cs : List (DV × Meta)) : E9 (sg.set i (.box cs)) i = some cs := by
 unfold E9;rw [List.getElem?_set_self h]
theorem IB {j : Nat} (h : i ≠ j) (o : C9) : E9 (sg.set i o) j = E9 sg j := by
 unfold E9;rw [List.getElem?_set_ne h]
@[simp] theorem Q9 (a : DV) (l : List DV) : J5 0 (.H7 (a :: l)) = some a := rfl
@[simp] theorem R4 (a b : DV) (l : List DV) : J5 1 (.H7 (a :: b :: l)) = some b := rfl
@[simp] theorem Fh (a b c : DV) (l : List DV) : J5 2 (.H7 (a :: b :: c :: l)) = some c := rfl
@[simp] theorem MN (a b c d : DV) (l : List DV) : J5 3 (.H7 (a :: b :: c :: d :: l)) = some d := rfl
theorem Ee {α : Type} {e : α -> DV} {sz : Nat} {l : List α} {x : α} (h : l.length < lim) : AQ sz (.list sz (l.map e)) (.list sz [e x]) = some (.list sz ((l ++ [x]).map e)) := by
 rw [M_ (by simp; omega)]
 simp
theorem xn {α : Type} {e : α -> DV} {sz : Nat} {l m : List α} (h : l.length + m.length <= lim) : AQ sz (.list sz (l.map e)) (.list sz (m.map e)) = some (.list sz ((l ++ m).map e)) := by
 rw [M_ (by simpa using h)]
 simp
end Go.Su

/-
 PATTERNS and types: what is bound.
-/
namespace Go.Su
theorem D9.B4e {p : D9} (h : p.right = true) : p.pat = true := by
 unfold D9.right at h;simp only [z0q] at h;exact h.1
end Go.Su

/-
 The CHECKER of terms, kind by kind.
-/
namespace Go.Su
theorem Tm.O4 {t k : Tm} (h : t.right = true) (hk : k ∈ t.kids) : k.right = true := by
 rw [Tm.right_eq] at h;simp only [z0q, z1q] at h;exact h.2 k hk
end Go.Su

/-
 The CHECKER: which errors there are; how many names stand at once; scopes as maps of counters.
-/
namespace Go.Su
def B6C (e : Int) : Prop := e = 4 \/ e = 6 \/ e = 8
end Go.Su

/-
 The CHECKER: a term's type has no variables but those in scope.
-/
namespace Go.Su
theorem Ty.B6s {t : Ty} (h : t.right = true) (h6 : t.kind = 6) : t.kids = [] := by
 have := (Ty.FR.1 h).1;rw [h6] at this;have e : arity 6 = 0 := rfl;exact z7q (by omega)
end Go.Su

/-
 NAMES THAT ARE FREE: rows that rise, what a term binds, which names are free in it.
-/
namespace Go.Su
def B83 (s : ByteArray) : List UInt8 := s.data.toList
def C0F (a b : ByteArray) : Bool := decide (B83 a < B83 b)
def rise : List ByteArray -> ByteArray -> List ByteArray
 | [], s => [s]
 | x :: l, s => if C0F x s = true then x :: rise l s else if x = s then x :: l else s :: x :: l
theorem Tm.NY {t : Tm} (h : t.right = true) : t.one = true := by rw [Tm.right_eq, z0q] at h; exact h.1
end Go.Su

/-
 A closed term put for a name that has no variables.
-/
namespace Go.Su
end Go.Su

/-
 A closed term put for a name: what it makes of free names, in which order two are put.
-/
namespace Go.Su
end Go.Su

/-
 EXPRESSIONS: what is right, what is free, what is put for a name.
-/
namespace Go.Su
def eA (k : Int) : Bool := decide (k = 9 \/ k = 11 \/ k = 12 \/ k = 15)
end Go.Su

/-
 EXPRESSIONS: how deep, how great, without places, their annotations.
-/
namespace Go.Su
def most {α : Type} (f : α -> Nat) (l : List α) (n : Nat) : Nat := l.foldl (fun a k => max a (f k)) n
end Go.Su

/-
 EXPRESSIONS: other annotations in the places of its own.
-/
namespace Go.Su
variable {α : Type}
def part (g : α -> α) (l : List α) (j : Nat) : List α := (l.take j).map g ++ l.drop j
theorem B5L {g : α -> α} {l : List α} {j : Nat} (h : j < l.length) : (part g l j)[j]? = some l[j] := by
 unfold part;rw [z20q (by simp; omega)]
 simp [Nat.min_eq_left (Nat.le_of_lt h), h]
theorem B5N {g : α -> α} {l : List α} {j : Nat} (h : j < l.length) : (part g l j).set j (g l[j]) = part g l (j + 1) := by
 unfold part;rw [List.set_append_right _ _ (by simp; omega), List.take_succ_eq_append_getElem h, List.map_append, z15q]
 congr 1
 rw [z43q, List.length_take, Nat.min_eq_left (Nat.le_of_lt h), Nat.sub_self, z27q h];rfl
theorem B32 {g : α -> α} {l : List α} : part g l 0 = l := rfl
theorem B5J {g : α -> α} {l : List α} : part g l l.length = l.map g := by simp [part]
end Go.Su

/-
 EXPRESSIONS WITHOUT TYPES: what a step comes to.
-/
namespace Go.Su
structure R3 where
 kind : Int
 lo : Int
 hi : Int
end Go.Su

/-
 EXPRESSIONS WITHOUT TYPES: a step leaves closed what is closed.
-/
namespace Go.Su
end Go.Su

/-
 THE CHECKER: what a type C1M on; a closed term put for a name.
-/
namespace Go.Su
section
variable {t : Tm} {ks : List Tm} {fs gs : List Chk} {L M : List Nm} {S Q : List Int}
end
end Go.Su

/-
 TERMS: types put for variables.
-/
namespace Go.Su
end Go.Su

/-
 TERMS: types put for variables leave a right term right.
-/
namespace Go.Su
end Go.Su

/-
 THE CHECKER OF TERMS: what has a type is turned by no types put for variables that it neither binds nor has in scope.
-/
namespace Go.Su
end Go.Su

/-
 EXPRESSIONS WITHOUT TYPES: a step leaves closed what is closed.
-/
namespace Go.Su
end Go.Su

/-
 EXPRESSIONS WITHOUT TYPES: a step leaves closed what is closed.
-/
namespace Go.Su
end Go.Su

/-
 EXPRESSIONS WITHOUT TYPES: how great what stands at one place may become.
-/
namespace Go.Su
end Go.Su

/-
 EXPRESSIONS WITHOUT TYPES: a run, and what it tells.
-/
namespace Go.Su
def F6 : A9 := .mk 0 0 0 false []
def R5 : Val := .mk 0 0 N9 F6 []
structure Ci where
 kind : Int
 val : Val
 label : Int
 neg : Bool
 lo : Int
 hi : Int
 steps : Int
def Ci.enc (r : Ci) : DV := .agg [.int .i64 r.kind, .int .i64 r.val.kind, .int .i64 r.val.n, .str r.val.s, .int .i64 r.val.c.kind, .int .i64 r.val.c.head, .int .i64 r.val.c.label, .bool r.val.c.neg, .list 5 (r.val.c.kids.map A9.enc), .list 9 (r.val.kids.map Val.enc), .int .i64 r.label, .bool r.neg, .int .i64 r.lo, .int .i64 r.hi, .int .i64 r.steps]
@[simp] theorem Ci.ag (r : Ci) : EU r.enc = r.enc := rfl
@[simp] theorem Q3 (r : Ci) : D6 15 r.enc = true := rfl
end Go.Su

/-
 EXPRESSIONS WITHOUT TYPES: a run is its steps, and then reading.
-/
namespace Go.Su
end Go.Su

/-
 EXPRESSIONS WITHOUT TYPES: annotations turn nothing of a run.
-/
namespace Go.Su
end Go.Su

/-
 TERMS: a term put for a name, its variables for the name's types.
-/
namespace Go.Su
end Go.Su

/-
 TERMS: what a substitution with variables leaves is within bounds.
-/
namespace Go.Su
end Go.Su

/-
 Judging an expression by a derivation: its types, its term, its casts. Mathematics alone.
-/
namespace Go.Su
def WC : Ty := .mk 5 0 []
end Go.Su

/-
 COERCIONS: right ones, joined, of casts.
-/
namespace Go.Su
def iq : A9 := .mk 1 0 0 false []
def A7Y (l : Int) (n : Bool) : A9 := .mk 7 0 l n []
variable (c : A9)
def A9.kid (i : Nat) : A9 := c.kids.getD i F6
def A9.inner (k : A9) : A9 := .mk c.kind c.head c.label c.neg [k]
variable (n : Int)
def I_ : Bool := decide (n = 1 \/ n = 2 \/ n = 3 \/ n = 4 \/ n = 7 \/ n = 8 \/ n = 9)
def IM : Bool := decide (0 <= n /\ n <= 1048576)
variable (k : Int)
def Ed : Int := if k = 2 then 9 else if k = 3 then 7 else if k = 4 then 8 else 0
def A9.Km : Bool :=
 if c.kind = 1 then decide (c.kids.length = 0) && decide (c.head = 0) && decide (c.label = 0) && !c.neg
 else if c.kind = 7 then decide (c.kids.length = 0) && decide (c.head = 0) && IM c.label
 else if c.kind = 5 then decide (c.kids.length = 1) && I_ c.head && decide (c.label = 0) && !c.neg && decide ((c.kid 0).kind = 1 \/ Ed (c.kid 0).kind = c.head)
 else if c.kind = 6 then decide (c.kids.length = 1) && I_ c.head && IM c.label && decide ((c.kid 0).kind = 7 \/ (c.kid 0).kind = 5 /\ (c.kid 0).head = c.head \/ (c.kid 0).kind = 1 \/ Ed (c.kid 0).kind = c.head)
 else if c.kind = 2 \/ c.kind = 3 \/ c.kind = 4 then decide (c.kids.length = if c.kind = 4 then 1 else 2) && decide (c.head = 0) && decide (c.label = 0) && !c.neg && c.kids.any fun k => decide (k.kind ≠ 1)
 else false
def A9.right : A9 -> Bool
 | .mk k h l n ks => (A9.mk k h l n ks).Km && (ks.map A9.right).all id
theorem A9.right_eq : c.right = (c.Km && c.kids.all A9.right) := by
 cases c;rw [A9.right];simp only [A9.AZ, z18q];rfl
variable {c : A9}
theorem A9.jG (h : c.right = true) : c.Km = true := by rw [A9.right_eq, z0q] at h; exact h.1
theorem A9.A7e {k : A9} (h : c.right = true) (hk : k ∈ c.kids) : k.right = true := by rw [A9.right_eq, z0q, z1q] at h; exact h.2 k hk
variable {i : Nat}
theorem A9.Oc (h : i < c.kids.length) : c.kid i ∈ c.kids := by
 unfold A9.kid;rw [z3q, z2q h];exact z9q h
theorem A9.A53 (h : i < c.kids.length) : c.kids[i] = c.kid i := by
 unfold A9.kid;rw [z3q, z2q h];rfl
theorem A9.k1 (h : c.kids.length = 1) : c.kids = [c.kid 0] := by
 match hk : c.kids, h with
 | [a], _ => simp [A9.kid, hk]
theorem A9.Gl (h : c.right = true) : 1 <= c.kind /\ c.kind <= 7 := by
 have := A9.jG h;unfold A9.Km at this
 repeat' split at this
 all_goals first | omega | simp at this
theorem A9.A_ (h : c.right = true) (hk : c.kind = 4 \/ c.kind = 5 \/ c.kind = 6) : c.kids.length = 1 := by
 have := A9.jG h;unfold A9.Km at this;rcases hk with hk | hk | hk <;> simp [hk] at this <;> simp [this]
theorem A9.JB (h : c.right = true) (hk : c.kind = 2 \/ c.kind = 3) : c.kids.length = 2 := by
 have := A9.jG h;unfold A9.Km at this;rcases hk with hk | hk <;> simp [hk] at this <;> simp [this]
theorem A9.B4d (h : c.right = true) : c.kids.length <= 2 := by
 have := A9.jG h;unfold A9.Km at this
 repeat' split at this
 all_goals simp at this
 all_goals first | (simp [this]; done) | (simp only [this]; split <;> omega)
theorem A9.O4 (h : c.right = true) (hi : i < c.kids.length) : (c.kid i).right = true := A9.A7e h (A9.Oc hi)
def A9.Zr (c : A9) (n : Int) : Bool := decide (c.kind = 1 \/ Ed c.kind = n)
theorem A9.A6b (hk : c.kind = 5) : c.right = (decide (c.kids.length = 1) && I_ c.head && decide (c.label = 0) && !c.neg && ((c.kid 0).Zr c.head && (c.kid 0).right)) := by
 rw [A9.right_eq, A9.Km]
 by_cases h : c.kids.length = 1
 ·rw [A9.k1 h]
  simp [hk, A9.Zr, Bool.and_assoc]
 ·simp [hk, h]
theorem A9.B1y (hk : c.kind = 6) : c.right = (decide (c.kids.length = 1) && I_ c.head && IM c.label && (decide ((c.kid 0).kind = 7 \/ (c.kid 0).kind = 5 /\ (c.kid 0).head = c.head \/ (c.kid 0).kind = 1 \/ Ed (c.kid 0).kind = c.head) && (c.kid 0).right)) := by
 rw [A9.right_eq, A9.Km]
 by_cases h : c.kids.length = 1
 ·rw [A9.k1 h]
  simp [hk, Bool.and_assoc]
 ·simp [hk, h]
theorem A9.B1z (hk : c.kind = 2 \/ c.kind = 3 \/ c.kind = 4) : c.right = (decide (c.kids.length = if c.kind = 4 then 1 else 2) && decide (c.head = 0) && decide (c.label = 0) && !c.neg && c.kids.all A9.right && c.kids.any fun k => decide (k.kind ≠ 1)) := by
 rw [A9.right_eq, A9.Km, if_neg (by omega), if_neg (by omega), if_neg (by omega), if_neg (by omega), if_pos hk]
 cases c.kids.all A9.right <;> simp
theorem A9.B1A (hk : ¬ (1 <= c.kind /\ c.kind <= 7)) : c.right = false := by
 rw [A9.right_eq, A9.Km, if_neg (by omega), if_neg (by omega), if_neg (by omega), if_neg (by omega), if_neg (by omega)]
 rfl
theorem Sv : iq.right = true := by rw [A9.right_eq]; simp [iq, A9.Km]
def Y3 (ks : List A9) : A9 := if ks.all (fun x => decide (x.kind = 1)) = true then iq else .mk k 0 0 false ks
def A9.T9 : Nat -> A9 -> A9 -> Option A9
 | 0, _, _ => none
 | n + 1, c, d =>
   if c.kind = 1 then some d
   else if d.kind = 1 \/ c.kind = 7 then some c
   else if c.kind = 6 then (A9.T9 n (c.kid 0) d).map c.inner
   else if c.kind = 5 then
    if d.kind = 6 then if c.head ≠ d.head then some (A7Y d.label d.neg) else A9.T9 n (c.kid 0) (d.kid 0)
    else none
   else if d.kind = 7 then some d
   else if d.kind = 5 then (A9.T9 n c (d.kid 0)).map d.inner
   else if c.kind ≠ d.kind then none
   else if c.kind = 4 then (A9.T9 n (c.kid 0) (d.kid 0)).map fun k => Y3 c.kind [k]
   else (A9.T9 n (if c.kind = 2 then d.kid 0 else c.kid 0) (if c.kind = 2 then c.kid 0 else d.kid 0)).bind fun a => (A9.T9 n (c.kid 1) (d.kid 1)).map fun b => Y3 c.kind [a, b]
def A9.join (c d : A9) : Option A9 := (A9.T9 (c.size + d.size) c d).bind fun j => if j.right = true then some j else none
theorem A9.qV {d j : A9} (h : c.join d = some j) : j.right = true := by
 unfold A9.join at h;cases hj : A9.T9 (c.size + d.size) c d with
 | none => rw [hj] at h; cases h
 | some x =>
   rw [hj] at h;simp only [Option.bind_some] at h
   split at h
   ·simp only [Option.some.injEq] at h; subst h; assumption
   ·cases h
def BD : Ty := .mk k 0 (List.replicate (arity k).toNat WC)
def Ty.kd (t : Ty) (i : Nat) : Ty := t.kids.getD i B0f
noncomputable def BV : Nat -> Ty -> Ty -> Int -> Bool -> A9
 | 0, _, _, _, _ => iq
 | n + 1, a, b, l, q =>
   if a = b then iq
   else if a.kind = 5 then .mk 6 b.kind l q [BV n (BD b.kind) b l q]
   else if b.kind = 5 then .mk 5 a.kind 0 false [BV n a (BD a.kind) l q]
   else if a.kind = 9 then Y3 2 [BV n (b.kd 0) (a.kd 0) l !q, BV n (a.kd 1) (b.kd 1) l q]
   else if a.kind = 7 then Y3 3 [BV n (a.kd 0) (b.kd 0) l q, BV n (a.kd 1) (b.kd 1) l q]
   else Y3 4 [BV n (a.kd 0) (b.kd 0) l q]
def XO (a b : Ty) : Nat := 2 * max a.size b.size + (if a.kind = 5 \/ b.kind = 5 then 1 else 0)
noncomputable def A03 (a b : Ty) (l : Int) (q : Bool) : A9 := BV (XO a b) a b l q
variable {t : Ty}
theorem Ty.J_ (h : i < t.kids.length) : t.kd i ∈ t.kids := by
 unfold Ty.kd;rw [z3q, z2q h];exact z9q h
theorem Ty.QR (h : i < t.kids.length) : t.kids[i] = t.kd i := by
 unfold Ty.kd;rw [z3q, z2q h];rfl
theorem Ty.B1j (h : i < t.kids.length) : (t.kd i).size < t.size := Ty.IC (Ty.J_ h)
theorem B3x : WC.size = 1 := by rw [Ty.size_eq]; rfl
theorem B14 : WC.right = true := by rw [Ty.FR]; simp [WC, arity]
theorem Ty.A8t (h : t.right = true) (hk : t.kind = 5) : t = WC := by
 obtain ⟨h1, h2, h3, h4, h5⟩ := Ty.FR.1 h;cases t with
 | mk k n ks =>
   simp only [Ty.Bi] at hk;subst hk;simp [arity] at h1 h4;have : ks = [] := z7q (by omega)
   simp [WC, this, h4]
theorem Ty.UC {a b : Ty} (ha : a.kind = 5) : a.agrees b = b.without 6 := by rw [Ty.R_, if_pos ha]
theorem Ty.B0j (a : Ty) : a.right = true -> ∀ b : Ty, b.right = true -> a.agrees b = true -> b.agrees a = true := by
 induction a using Ty.ind with
 | h a ih =>
   intro ha b hb h;rw [Ty.R_] at h ⊢
   by_cases a5 : a.kind = 5
   ·rw [if_pos a5] at h
    have : a.without 6 = true := by rw [Ty.A8t ha a5, Ty.Kr]; simp [WC]
    by_cases b5 : b.kind = 5
    ·rw [if_pos b5]; exact this
    ·rw [if_neg b5, if_pos a5]; exact h
   ·rw [if_neg a5] at h
    by_cases b5 : b.kind = 5
    ·rw [if_pos b5] at h
     rw [if_pos b5];exact h
    ·rw [if_neg b5] at h
     rw [if_neg b5, if_neg a5];simp only [z0q, decide_eq_true_eq, z1q] at h ⊢;refine ⟨⟨h.1.1.symm, h.1.2.symm⟩, fun p hp => ?_⟩
     obtain ⟨i, hi, rfl⟩ := z46q hp;simp only [z28q] at hi;simp only [z19q];have ga : a.kids[i] ∈ a.kids := z9q _;have gb : b.kids[i] ∈ b.kids := z9q _;refine ih _ ga (Ty.O4 ha ga) _ (Ty.O4 hb gb) ?_;exact h.2 (a.kids[i], b.kids[i]) (z44q.2 ⟨i, by simp only [z28q]; omega, by simp [z19q]⟩)
theorem A7A {k : Int} (h : 0 <= arity k) : (BD k).right = true := by
 rw [Ty.FR];refine ⟨by simp [BD]; omega, by simp [BD], by simp [BD], by simp [BD], fun t ht => ?_⟩
 simp only [BD, Ty.AZ, List.mem_replicate] at ht;rw [ht.2];exact B14
theorem Ty.FJ (h : t.right = true) : (t.kids.length : Int) = arity t.kind := (Ty.FR.1 h).1.symm
theorem A8S : (BD k).kids = List.replicate (arity k).toNat WC := rfl
theorem A5Q : ∀ l : List Nat, (∀ n ∈ l, 1 <= n) -> l.length <= l.sum
 | [], _ => by simp
 | a :: l, h => by
   have := A5Q l fun n hn => h n (z4q _ hn)
   have := h a (z5q ..);simp only [z8q, z16q];omega
theorem A8T (h : t.right = true) : (BD t.kind).size <= t.size := by
 have h1 := Ty.FJ h;rw [Ty.size_eq, Ty.size_eq, A8S, List.map_replicate, B3x, List.sum_replicate_nat];have := A5Q (t.kids.map Ty.size) fun n hn => by
  simp only [List.mem_map] at hn;obtain ⟨k, -, rfl⟩ := hn;exact Ty.Db k
 simp only [z43q] at this;omega
def Dw (n : Nat) (a b : Ty) : Prop := a.right = true /\ b.right = true /\ a.agrees b = true /\ XO a b <= n
variable {n : Nat}
theorem Dw.comm {a b : Ty} (h : Dw n a b) : Dw n b a := by
 obtain ⟨h1, h2, h3, h4⟩ := h;refine ⟨h2, h1, Ty.B0j a h1 b h2 h3, ?_⟩;have e : XO b a = XO a b := by
  unfold XO;rw [Nat.max_comm]
  by_cases x : a.kind = 5 <;> by_cases y : b.kind = 5 <;> simp [x, y]
 rw [e];exact h4
theorem Dw.B13 {a b : Ty} (h : Dw (n + 1) a b) (EG : a ≠ b) (h5 : a.kind = 5) : b.kind ≠ 5 /\ Dw n (BD b.kind) b := by
 obtain ⟨h1, h2, h3, h4⟩ := h;have b5 : b.kind ≠ 5 := fun h => EG (by rw [Ty.A8t h1 h5, Ty.A8t h2 h])
 have al := Ty.FJ h2;have gr := A7A (k := b.kind) (by omega)
 rw [Ty.UC h5] at h3;have g5 : ¬ (BD b.kind).kind = 5 := b5;refine ⟨b5, gr, h2, ?_, ?_⟩
 ·rw [Ty.R_, if_neg g5, if_neg b5]
  have b6 : b.kind ≠ 6 := by
   rw [Ty.Kr] at h3;intro h;simp [h] at h3
  have bn : b.n = 0 := (Ty.FR.1 h2).2.2.2.1.resolve_left b6;simp only [BD, Ty.Bi, Ty.Ro, Ty.AZ, decide_true, Bool.true_and, z0q, decide_eq_true_eq, bn, true_and, z1q];intro p hp;obtain ⟨i, hi, rfl⟩ := z46q hp;simp only [z28q] at hi;simp only [z19q, List.getElem_replicate];rw [Ty.UC rfl];rw [Ty.Kr] at h3;simp only [z0q, z1q] at h3;exact h3.2 _ (z9q _)
 ·have gs := A8T h2
  unfold XO at h4 ⊢;rw [if_pos (.inl h5)] at h4;rw [if_neg (by simp only [g5, b5, or_self, not_false_iff])]
  omega
theorem Dw.B49 {a b : Ty} (h : Dw (n + 1) a b) (EG : a ≠ b) (h5 : b.kind = 5) : a.kind ≠ 5 /\ Dw n a (BD a.kind) := by
 obtain ⟨h1, h2⟩ := h.comm.B13 (Ne.symm EG) h5;exact ⟨h1, h2.comm⟩
theorem Dw.kids {a b : Ty} (h : Dw (n + 1) a b) (EG : a ≠ b) (a5 : a.kind ≠ 5) (b5 : b.kind ≠ 5) :
 a.kind = b.kind /\ (a.kind = 7 /\ a.kids.length = 2 \/ a.kind = 8 /\ a.kids.length = 1 \/ a.kind = 9 /\ a.kids.length = 2) /\ a.kids.length = b.kids.length /\ ∀ i, i < a.kids.length -> Dw n (a.kd i) (b.kd i) := by
 obtain ⟨h1, h2, h3, h4⟩ := h;rw [Ty.R_, if_neg a5, if_neg b5] at h3;simp only [z0q, decide_eq_true_eq, z1q] at h3;obtain ⟨⟨kk, nn⟩, h3⟩ := h3;have la := Ty.FJ h1;have lb := Ty.FJ h2;have ll : a.kids.length = b.kids.length := by rw [<- kk] at lb; omega
 have hk : a.kind = 7 /\ a.kids.length = 2 \/ a.kind = 8 /\ a.kids.length = 1 \/ a.kind = 9 /\ a.kids.length = 2 := by
  by_cases h0 : a.kids.length = 0
  ·exfalso
   apply EG;refine Ty.ED.2 ⟨kk, nn, ?_⟩;rw [z7q h0, z7q (by omega : b.kids.length = 0)]
  ·unfold arity at la
   repeat' split at la
   all_goals omega
 refine ⟨kk, hk, ll, fun i hi => ⟨Ty.O4 h1 (Ty.J_ hi), Ty.O4 h2 (Ty.J_ (by omega)), ?_, ?_⟩⟩
 ·rw [<- Ty.QR hi, <- Ty.QR (show i < b.kids.length by omega)]
  exact h3 (a.kids[i], b.kids[i]) (z44q.2 ⟨i, by simp only [z28q]; omega, by simp [z19q]⟩)
 ·have sa := Ty.B1j hi
  have sb := Ty.B1j (show i < b.kids.length by omega)
  unfold XO at h4 ⊢;rw [if_neg (by simp only [a5, b5, or_self, not_false_iff])] at h4
  split <;> omega
theorem Yj {k : Int} {ks : List A9} (hk : k = 2 /\ ks.length = 2 \/ k = 3 /\ ks.length = 2 \/ k = 4 /\ ks.length = 1) (h : ∀ c ∈ ks, c.right = true) : (Y3 k ks).right = true /\ ((Y3 k ks).kind = 1 \/ (Y3 k ks).kind = k) := by
 unfold Y3
 split
 ·exact ⟨Sv, .inl rfl⟩
 ·rename_i hn
  refine ⟨?_, .inr rfl⟩;rw [A9.right_eq, A9.Km];simp only [z1q, decide_eq_true_eq] at hn;have C1h : ks.any (fun x => decide (x.kind ≠ 1)) = true := by
   simp only [z51q, decide_eq_true_eq];exact Classical.byContradiction fun hx => hn fun x hx' => Classical.byContradiction fun h1 => hx ⟨x, hx', h1⟩
  have kI : ks.all A9.right = true := by simpa [z1q] using h
  simp only [A9.Bi, A9.AZ, A9.B7l, A9.eG, A9.A0r];rw [kI, C1h];rcases hk with ⟨rfl, hl⟩ | ⟨rfl, hl⟩ | ⟨rfl, hl⟩ <;> simp [hl]
theorem B0m : ∀ (n : Nat) {a b : Ty} {l : Int} {q : Bool}, Dw n a b -> IM l = true -> (BV n a b l q).right = true /\ (a.kind = b.kind -> (BV n a b l q).kind = 1 \/ Ed (BV n a b l q).kind = a.kind) := by
 intro n
 induction n with
 | zero => intro a b l q h _; exact ⟨Sv, fun _ => .inl rfl⟩
 | succ n ih =>
   intro a b l q h hl;rw [BV]
   by_cases EG : a = b
   ·rw [if_pos EG]; exact ⟨Sv, fun _ => .inl rfl⟩
   rw [if_neg EG];have hd : ∀ {t : Ty}, t.right = true -> t.kind ≠ 5 -> t.without 6 = true -> I_ t.kind = true := by
    intro t ht t5 t6;have t6' : t.kind ≠ 6 := by rw [Ty.Kr] at t6; intro h; simp [h] at t6
    have := Ty.FJ ht;unfold arity at this;unfold I_
    repeat' split at this
    all_goals simp
    all_goals omega
   by_cases a5 : a.kind = 5
   ·rw [if_pos a5]
    obtain ⟨b5, hk⟩ := h.B13 EG a5;obtain ⟨r1, r2⟩ := ih (l := l) (q := q) hk hl;refine ⟨?_, fun h => absurd (h ▸ a5) b5⟩
    have h3 := h.2.2.1;rw [Ty.UC a5] at h3;have := r2 rfl;rw [show (BD b.kind).kind = b.kind from rfl] at this
    rw [A9.right_eq, A9.Km];simp [A9.kid, hd h.2.1 b5 h3, hl, r1];rcases this with h | h <;> simp [h]
   rw [if_neg a5]
   by_cases b5 : b.kind = 5
   ·rw [if_pos b5]
    obtain ⟨a5, hk⟩ := h.B49 EG b5;obtain ⟨r1, r2⟩ := ih (l := l) (q := q) hk hl;refine ⟨?_, fun h => absurd (h ▸ b5) a5⟩
    have h3 := h.comm.2.2.1;rw [Ty.UC b5] at h3;have := r2 rfl;rw [A9.right_eq, A9.Km];simp [A9.kid, hd h.1 a5 h3, r1];rcases this with h | h <;> simp [h]
   rw [if_neg b5];obtain ⟨kk, hk, ll, Ma⟩ := h.kids EG a5 b5;have K := fun i hi q => (ih (l := l) (q := q) (Ma i hi) hl).1
   have K' := fun i hi q => (ih (l := l) (q := q) (Ma i hi).comm hl).1
   rcases hk with ⟨k7, hl7⟩ | ⟨k8, hl8⟩ | ⟨k9, hl9⟩
   ·rw [if_neg (by omega), if_pos k7]
    have := Yj (k := 3) (ks := [BV n (a.kd 0) (b.kd 0) l q, BV n (a.kd 1) (b.kd 1) l q]) (.inr (.inl ⟨rfl, rfl⟩)) (by simp [K 0 (by omega) q, K 1 (by omega) q])
    exact ⟨this.1, fun _ => this.2.imp id fun h => by rw [h, k7]; rfl⟩
   ·rw [if_neg (by omega), if_neg (by omega)]
    have := Yj (k := 4) (ks := [BV n (a.kd 0) (b.kd 0) l q]) (.inr (.inr ⟨rfl, rfl⟩)) (by simp [K 0 (by omega) q])
    exact ⟨this.1, fun _ => this.2.imp id fun h => by rw [h, k8]; rfl⟩
   ·rw [if_pos k9]
    have := Yj (k := 2) (ks := [BV n (b.kd 0) (a.kd 0) l !q, BV n (a.kd 1) (b.kd 1) l q]) (.inl ⟨rfl, rfl⟩) (by simp [K' 0 (by omega) (!q), K 1 (by omega) q])
    exact ⟨this.1, fun _ => this.2.imp id fun h => by rw [h, k9]; rfl⟩
theorem Dw.of {a b : Ty} (ha : a.right = true) (hb : b.right = true) (h : a.agrees b = true) : Dw (XO a b) a b := ⟨ha, hb, h, z35q _⟩
theorem jh {a b : Ty} {l : Int} {q : Bool} (ha : a.right = true) (hb : b.right = true) (h : a.agrees b = true) (hl : IM l = true) : (A03 a b l q).right = true := (B0m _ (.of ha hb h) hl).1
end Go.Su

/-
 VALUES: right ones, wrapped, taken apart, held against patterns.
-/
namespace Go.Su
noncomputable section
variable (k : Int)
def Zx : Int := if k = 1 then 1 else if k = 2 then 2 else if k = 3 then 3 else if k = 4 then 4 else if k = 5 then 7 else if k = 6 then 8 else if k = 7 then 8 else 9
variable (v : Val)
def Val.kid (i : Nat) : Val := v.kids.getD i R5
variable (c : A9)
def Val.CJ : Val := .mk v.kind v.n v.s c v.kids
def Mw : Prop := c = F6 \/ c.right = true /\ (c.kind = 5 /\ c.head = Zx k \/ c.kind = 3 /\ k = 5 \/ c.kind = 4 /\ (k = 6 \/ k = 7) \/ c.kind = 2 /\ k = 8)
noncomputable instance (k : Int) (c : A9) : Decidable (Mw k c) := Classical.propDecidable _
def Val.fields : Prop :=
 (1 <= v.kind /\ v.kind <= 8) /\ v.kids.length = (if v.kind = 5 \/ v.kind = 7 then 2 else 0) /\ (v.kind ≠ 1 -> v.kind ≠ 2 -> v.kind ≠ 8 -> v.n = 0) /\ (v.kind = 2 -> v.n = 0 \/ v.n = 1) /\ (v.kind = 8 -> 0 <= v.n) /\ (v.kind ≠ 3 -> v.s = N9) /\ v.s.size <= 200 /\
   (v.kind = 7 -> ((v.kid 1).kind = 6 \/ (v.kid 1).kind = 7) /\ (v.kid 1).c.kind ≠ 5)
inductive Val.ok : Val -> Prop where
 | mk (v : Val) : v.fields -> Mw v.kind v.c -> (∀ k ∈ v.kids, k.ok) -> v.ok
variable {v : Val}
theorem Val.ok.fields (h : v.ok) : v.fields := by cases h; assumption
theorem Val.ok.co (h : v.ok) : Mw v.kind v.c := by cases h; assumption
theorem Val.ok.mem {k : Val} (h : v.ok) (hk : k ∈ v.kids) : k.ok := by cases h with | mk _ _ _ g => exact g k hk
variable {i : Nat}
theorem Val.Oc (h : i < v.kids.length) : v.kid i ∈ v.kids := by
 unfold Val.kid;rw [z3q, z2q h];exact z9q h
theorem Val.A53 (h : i < v.kids.length) : v.kids[i] = v.kid i := by
 unfold Val.kid;rw [z3q, z2q h];rfl
theorem Val.ok.len (h : v.ok) (hk : v.kind = 5 \/ v.kind = 7) : v.kids.length = 2 := by rw [h.fields.2.1, if_pos hk]
theorem Val.ok.A84 (h : v.ok) (hk : ¬ (v.kind = 5 \/ v.kind = 7)) : v.kids.length = 0 := by rw [h.fields.2.1, if_neg hk]
theorem Val.ok.kid (h : v.ok) (hi : i < v.kids.length) : (v.kid i).ok := h.mem (Val.Oc hi)
theorem QS : F6.kind = 0 := rfl
variable {c : A9}
theorem A9.B51 (h : c.right = true) : c ≠ F6 := by
 rintro rfl;have := (A9.Gl h).1;rw [QS] at this;omega
theorem Val.ok.coR (h : v.ok) (hn : v.c ≠ F6) : v.c.right = true := (h.co.resolve_left hn).1
theorem Val.ok.CJ (h : v.ok) (hc : Mw v.kind c) : (v.CJ c).ok := by
 refine .mk _ ?_ hc fun k hk => h.mem hk
 have := h.fields;exact this
inductive WR where
 | stuck
 | X5 (l : Int) (n : Bool)
 | ok (v : Val)
variable (v : Val)
def Val.dc : A9 := if v.c = F6 then iq else v.c
def Val.A1q (d c : A9) : WR :=
 match d.join c with
 | none => .stuck
 | some j => if j.kind = 7 then .X5 j.label j.neg else if j.kind = 1 then .ok (v.CJ F6) else if Mw v.kind j then .ok (v.CJ j) else .stuck
def Val.wrap (c : A9) : WR := v.A1q v.dc c
theorem Val.ok.dcR {v : Val} (h : v.ok) : v.dc.right = true := by
 unfold Val.dc
 split
 ·exact Sv
 ·exact h.coR ‹_›
theorem Val.A1r {v w : Val} (h : v.ok) (e : v.wrap c = .ok w) : w.ok /\ w.kind = v.kind /\ w.kids = v.kids := by
 unfold Val.wrap Val.A1q at e
 split at e
 ·cases e
 ·split at e
  ·cases e
  split at e
  ·cases e; exact ⟨h.CJ (.inl rfl), rfl, rfl⟩
  split at e
  ·cases e; exact ⟨h.CJ ‹_›, rfl, rfl⟩
  ·cases e
inductive TR where
 | stuck
 | X5 (l : Int) (n : Bool)
 | ok (a b : Val)
def Val.A32 (x y : Val) (c d : A9) : TR :=
 match x.wrap c with
 | .stuck => .stuck
 | .X5 l n => .X5 l n
 | .ok a => match y.wrap d with
   | .stuck => .stuck
   | .X5 l n => .X5 l n
   | .ok b => .ok a b
def Val.two : TR :=
 if (v.kind = 5 \/ v.kind = 7) /\ v.c.kind ≠ 5 then
  if v.c = F6 then .ok (v.kid 0) (v.kid 1) else Val.A32 (v.kid 0) (v.kid 1) (v.c.kid 0) (if v.kind = 5 then v.c.kid 1 else v.c)
 else .stuck
theorem Val.A5R {v a b : Val} (h : v.ok) (e : v.two = .ok a b) : a.ok /\ b.ok := by
 unfold Val.two at e
 split at e
 ·rename_i hk
  have l2 := h.len hk.1
  split at e
  ·cases e; exact ⟨h.kid (by omega), h.kid (by omega)⟩
  ·unfold Val.A32 at e
   split at e
   ·cases e
   ·cases e
   ·rename_i a' ha
    split at e
    ·cases e
    ·cases e
    ·rename_i b' hb
     cases e;exact ⟨(Val.A1r (h.kid (by omega)) ha).1, (Val.A1r (h.kid (by omega)) hb).1⟩
 ·cases e
inductive MR where
 | no
 | stuck
 | X5 (l : Int) (n : Bool)
 | ok (l : List (ByteArray × Val))
def MR.also (a : MR) (b : List (ByteArray × Val) -> MR) : MR :=
 match a with
 | .ok l => b l
 | r => r
def MR.pre (l : List (ByteArray × Val)) : MR -> MR
 | .ok m => .ok (l ++ m)
 | r => r
def D9.holds : D9 -> Val -> MR
 | .mk k lo hi nm n s ks, v =>
   if k = 1 then .ok []
   else if k = 2 then .ok [(nm, v)]
   else if v.c.kind = 5 \/ v.kind ≠ k - 2 then .no
   else if k = 7 \/ k = 9 then
    match v.two, ks.map D9.holds with
    | .stuck, _ => .stuck
    | .X5 l n, _ => .X5 l n
    | .ok a b, [f, g] => (f a).also fun l => (g b).pre l
    | .ok _ _, _ => .no
   else if k = 8 \/ v.n = n /\ v.s = s then .ok [] else .no
def D9.kd (p : D9) (i : Nat) : D9 := p.kids.getD i (.mk 0 0 0 N9 0 N9 [])
theorem D9.B5v (lo hi : Int) (nm : ByteArray) (n : Int) (s : ByteArray) (ks : List D9) (v : Val) (h2 : k = 7 \/ k = 9 -> ks.length = 2) : (D9.mk k lo hi nm n s ks).holds v =
 if k = 1 then .ok [] else if k = 2 then .ok [(nm, v)] else if v.c.kind = 5 \/ v.kind ≠ k - 2 then .no
 else if k = 7 \/ k = 9 then
  match v.two with
  | .stuck => .stuck
  | .X5 l n => .X5 l n
  | .ok a b => (((D9.mk k lo hi nm n s ks).kd 0).holds a).also fun l => (((D9.mk k lo hi nm n s ks).kd 1).holds b).pre l
 else if k = 8 \/ v.n = n /\ v.s = s then .ok [] else .no := by
 rw [D9.holds]
 by_cases k4 : k = 7 \/ k = 9
 ·rw [if_pos k4, if_pos k4]
  match ks, h2 k4 with
  | [a, b], _ => cases v.two <;> simp [D9.kd]
 ·rw [if_neg k4, if_neg k4]
theorem D9.A3F (p : D9) (v : Val) (h2 : p.kind = 7 \/ p.kind = 9 -> p.kids.length = 2) : p.holds v =
 if p.kind = 1 then .ok [] else if p.kind = 2 then .ok [(p.name, v)] else if v.c.kind = 5 \/ v.kind ≠ p.kind - 2 then .no
 else if p.kind = 7 \/ p.kind = 9 then
  match v.two with
  | .stuck => .stuck
  | .X5 l n => .X5 l n
  | .ok a b => ((p.kd 0).holds a).also fun l => ((p.kd 1).holds b).pre l
 else if p.kind = 8 \/ v.n = p.n /\ v.s = p.s then .ok [] else .no := by
 cases p with
 | mk k lo hi nm n s ks => exact D9.B5v k lo hi nm n s ks v h2
variable {p : D9}
theorem D9.J_ (h : i < p.kids.length) : p.kd i ∈ p.kids := by
 unfold D9.kd;rw [z3q, z2q h];exact z9q h
theorem D9.QR (h : i < p.kids.length) : p.kids[i] = p.kd i := by
 unfold D9.kd;rw [z3q, z2q h];rfl
theorem MR.B61 {a : MR} {b : List (ByteArray × Val) -> MR} {m : List (ByteArray × Val)} (h : a.also b = .ok m) : ∃ l, a = .ok l /\ b l = .ok m := by
 cases a with
 | ok l => exact ⟨l, rfl, h⟩
 | _ => cases h
theorem MR.B9m {a : MR} {l m : List (ByteArray × Val)} (h : a.pre l = .ok m) : ∃ q, a = .ok q /\ m = l ++ q := by
 cases a with
 | ok q => simp only [MR.pre, MR.ok.injEq] at h; exact ⟨q, rfl, h.symm⟩
 | _ => cases h
theorem D9.aM (h : p.pat = true) (hk : p.kind = 7 \/ p.kind = 9) : p.kids.length = 2 := by
 rw [D9.eZ, z0q] at h;have := h.1;unfold D9.one at this;rcases hk with hk | hk <;> simp [hk] at this <;> exact this.1.1.1
theorem D9.S_ {k : D9} (h : p.pat = true) (hk : k ∈ p.kids) : k.pat = true := by
 rw [D9.eZ, z0q, z1q] at h;exact h.2 k hk
theorem D9.dh (p : D9) : p.pat = true -> ∀ {v : Val} {m : List (ByteArray × Val)}, v.ok -> p.holds v = .ok m -> (∀ x ∈ m, x.2.ok) /\ m.length <= p.size := by
 induction p using D9.ind with
 | h p ih =>
   intro hp v m hv h;have hs := p.Db;rw [D9.A3F p v (D9.aM hp)] at h
   split at h
   ·cases h; exact ⟨by simp, by simp⟩
   split at h
   ·cases h; exact ⟨by simpa using hv, by simp; omega⟩
   split at h
   ·cases h
   split at h
   ·rename_i hk
    have l2 := D9.aM hp hk
    split at h
    ·cases h
    ·cases h
    ·rename_i a b EG
     obtain ⟨oa, ob⟩ := Val.A5R hv EG;obtain ⟨l, h1, h2⟩ := MR.B61 h;obtain ⟨q, h3, rfl⟩ := MR.B9m h2;have m0 := D9.J_ (show 0 < p.kids.length by omega)
     have m1 := D9.J_ (show 1 < p.kids.length by omega)
     obtain ⟨a1, a2⟩ := ih _ m0 (D9.S_ hp m0) oa h1;obtain ⟨b1, b2⟩ := ih _ m1 (D9.S_ hp m1) ob h3;refine ⟨fun x hx => ?_, ?_⟩
     ·rcases z17q.1 hx with hx | hx
      ·exact a1 x hx
      ·exact b1 x hx
     ·have BF := p.size_eq
      have ZQ : p.kids = [p.kd 0, p.kd 1] := by
       match hk : p.kids, l2 with
       | [a, b], _ => simp [D9.kd, hk]
      rw [ZQ] at BF;simp only [z11q, List.map_nil, z16q, List.sum_nil] at BF;rw [z10q];omega
   ·split at h
    ·cases h; exact ⟨by simp, by simp⟩
    ·cases h
end
end Go.Su

/-
 THE MACHINE, as the document has it: states, steps.
-/
namespace Go.Su
noncomputable section
abbrev Cell := ByteArray × Val
def KC : Tm := .mk 0 0 0 N9 N9 0 N9 0 0 false [] B0f B0f [] [] []
variable (t : Tm)
def Tm.kd (i : Nat) : Tm := t.kids.getD i KC
theorem Tm.J_ {t : Tm} {i : Nat} (h : i < t.kids.length) : t.kd i ∈ t.kids := by
 unfold Tm.kd;rw [z3q, z2q h];exact z9q h
theorem Tm.QR {t : Tm} {i : Nat} (h : i < t.kids.length) : t.kids[i] = t.kd i := by
 unfold Tm.kd;rw [z3q, z2q h];rfl
structure CL where
 kind : Int
 t : Tm
 env : List Cell
 v : Val
 c : A9
structure fK where
 name : ByteArray
 arg : ByteArray
 body : Tm
 env : List Cell
structure MS where
 fuel : Nat
 steps : Nat
 done : Bool
 res : Ci
 has : Bool
 t : Tm
 env : List Cell
 v : Val
 frames : List CL
 U3 : List fK
 reads : Bool
 todo : List Val
 out : List Val
def kP (k : Int) : Ci := ⟨k, R5, 0, false, 0, 0, 0⟩
def X7 : Ci := kP 6
def LC (l : Int) (n : Bool) : Ci := ⟨2, R5, l, n, 0, 0, 0⟩
def atR (k lo hi : Int) : Ci := ⟨k, R5, 0, false, lo, hi, 0⟩
variable (S : MS)
def MS.ends (r : Ci) : MS := { S with done := true, res := r }
variable (v : Val)
def MS.give : MS := { S with has := true, v := v }
def MS.go (t : Tm) (e : List Cell) : MS := { S with has := false, t := t, env := e }
def MS.push (f : CL) : MS := { S with frames := f :: S.frames }
variable (c : A9)
def DW : CL := ⟨12, KC, [], R5, c⟩
def MS.put : MS :=
 if c.kind = 1 then S else
 match S.frames with
 | [] => S.push (DW c)
 | f :: fs => if f.kind = 12 then
     match c.join f.c with
     | none => S.ends X7
     | some j => if j.kind = 1 then { S with frames := fs } else { S with frames := DW j :: fs }
   else S.push (DW c)
def A3C (n : Nat) : Val := .mk 8 n N9 F6 []
def MS.make (c : fK) : MS := { S with U3 := S.U3 ++ [c] }
def Qz (s : ByteArray) (l : List Cell) : Option Val := (l.reverse.find? fun c => decide (c.1 = s)).map (·.2)
def MS.term : MS :=
 if S.t.kind = 1 then (match Qz S.t.name S.env with | some v => S.give v | none => S.ends X7)
 else if S.t.kind = 2 \/ S.t.kind = 3 \/ S.t.kind = 4 \/ S.t.kind = 5 then S.give (.mk (S.t.kind - 1) S.t.n S.t.s F6 [])
 else if S.t.kind = 7 then S.give (.mk 6 0 N9 F6 [])
 else if S.t.kind = 9 then (S.make ⟨N9, S.t.name, S.t.kd 0, S.env⟩).give (A3C S.U3.length)
 else if S.t.kind = 6 then (S.push ⟨1, S.t.kd 1, S.env, R5, F6⟩).go (S.t.kd 0) S.env
 else if S.t.kind = 8 then (S.push ⟨3, S.t.kd 1, S.env, R5, F6⟩).go (S.t.kd 0) S.env
 else if S.t.kind = 10 then (S.push ⟨5, S.t.kd 1, S.env, R5, F6⟩).go (S.t.kd 0) S.env
 else if S.t.kind = 11 then (S.push ⟨7, S.t, S.env, R5, F6⟩).go (S.t.kd 0) S.env
 else if S.t.kind = 13 then (S.push ⟨8, S.t, S.env, R5, F6⟩).go (S.t.kd 0) S.env
 else if S.t.kind = 14 then (S.push ⟨9, S.t, S.env, R5, F6⟩).go (S.t.kd 0) S.env
 else if S.t.kind = 15 then (S.push ⟨10, S.t, S.env, R5, F6⟩).go (S.t.kd 0) S.env
 else if S.t.kind = 12 then (S.make ⟨S.t.name, S.t.arg, S.t.kd 0, S.env⟩).go (S.t.kd 1) (S.env ++ [(S.t.name, A3C S.U3.length)])
 else if S.t.a.agrees S.t.b = true then (S.put (A03 S.t.a S.t.b S.t.label S.t.neg)).go (S.t.kd 0) S.env
 else S.ends X7
def MS.wrapped (k : Val -> MS) : MS :=
 match v.wrap c with
 | .stuck => S.ends X7
 | .X5 l n => S.ends (LC l n)
 | .ok w => k w
def MS.enter (f v : Val) : MS :=
 match S.U3[f.n.toNat]? with
 | some c => S.go c.body ((if c.name = N9 then c.env else c.env ++ [(c.name, f)]) ++ [(c.arg, v)])
 | none => S
def MS.call (f : Val) : MS :=
 if f.kind ≠ 8 \/ (S.U3.length : Int) <= f.n then S.ends X7
 else if f.c = F6 then S.enter f S.v
 else if f.c.kind ≠ 2 then S.ends X7
 else S.wrapped S.v (f.c.kid 0) fun w => if (S.put (f.c.kid 1)).done = true then S.put (f.c.kid 1) else (S.put (f.c.kid 1)).enter (f.CJ F6) w
def Q_ (op a b : Int) : Option Int :=
 if op = 1 then some (IntKind.i64.wrap (a + b)) else if op = 2 then some (IntKind.i64.wrap (a - b)) else if op = 3 then some (IntKind.i64.wrap (a * b))
 else if op = 4 then (if b = 0 then none else some (IntKind.i64.wrap (a.tdiv b))) else if op = 5 then some (if a < b then 1 else 0) else some (if a = b then 1 else 0)
inductive OR where
 | stuck
 | div (lo hi : Int)
 | ok (v : Val)
def oJ (a b : Val) : OR :=
 if a.kind = (if t.op = 7 then 3 else 1) /\ b.kind = (if t.op = 7 then 3 else 1) /\ a.c = F6 /\ b.c = F6 then
  if t.op = 7 then .ok (.mk 2 (if a.s = b.s then 1 else 0) N9 F6 [])
  else match Q_ t.op a.n b.n with
   | some n => .ok (.mk (if 5 <= t.op then 2 else 1) n N9 F6 [])
   | none => .div t.lo t.hi
 else .stuck
def MS.arms (S : MS) (f : CL) : Nat -> List D9 -> MS
 | _, [] => S.ends (atR 4 f.t.lo f.t.hi)
 | i, p :: ps =>
   match p.holds S.v with
   | .stuck => S.ends X7
   | .X5 l n => S.ends (LC l n)
   | .ok l => S.go (f.t.kd (i + 1)) (f.env ++ l)
   | .no => S.arms f (i + 1) ps
def MS.frame (f : CL) : MS :=
 if f.kind = 1 \/ f.kind = 3 \/ f.kind = 5 then (S.push ⟨f.kind + 1, f.t, [], S.v, F6⟩).go f.t f.env
 else if f.kind = 10 then (S.push ⟨11, f.t, [], S.v, F6⟩).go (f.t.kd 1) f.env
 else if f.kind = 2 then S.give (.mk 5 0 N9 F6 [f.v, S.v])
 else if f.kind = 4 then (if (S.v.kind = 6 \/ S.v.kind = 7) /\ S.v.c.kind ≠ 5 then S.give (.mk 7 0 N9 F6 [f.v, S.v]) else S.ends X7)
 else if f.kind = 6 then S.call f.v
 else if f.kind = 7 then S.go (f.t.kd 1) (f.env ++ [(f.t.name, S.v)])
 else if f.kind = 8 then (if S.v.kind = 2 /\ S.v.c = F6 then S.go (f.t.kd (if S.v.n = 1 then 1 else 2)) f.env else S.ends X7)
 else if f.kind = 9 then S.arms f 0 f.t.H8
 else if f.kind = 11 then (match oJ f.t f.v S.v with | .stuck => S.ends X7 | .div lo hi => S.ends (atR 3 lo hi) | .ok v => S.give v)
 else S.wrapped S.v f.c S.give
def Val.Fx : Val := if v.c.kind = 5 then (if (v.c.kid 0).kind = 1 then v.CJ F6 else v.CJ (v.c.kid 0)) else v
def Val.L6 : Val := .mk v.kind (if v.kind = 8 then 0 else v.n) v.s F6 []
def Val.ar : Nat := if v.kind = 5 \/ v.kind = 7 then 2 else 0
def AY : Nat -> List Val -> Val × List Val
 | 0, l => (R5, l)
 | _, [] => (R5, [])
 | n + 1, v :: l => if v.kind = 5 \/ v.kind = 7 then (.mk v.kind v.n v.s v.c [(AY n l).1, (AY n (AY n l).2).1], (AY n (AY n l).2).2) else (v, l)
def MS.read : MS :=
 match S.todo with
 | [] => S
 | v :: rest =>
   if v.kind = 5 \/ v.kind = 7 then
    match v.Fx.two with
    | .stuck => S.ends X7
    | .X5 l n => S.ends (LC l n)
    | .ok a b => { S with todo := a :: b :: rest, out := S.out ++ [v.L6] }
   else if rest = [] then { S with todo := [], out := S.out ++ [v.L6] }.ends ⟨1, (AY (S.out.length + 1) (S.out ++ [v.L6])).1, 0, false, 0, 0, 0⟩
   else { S with todo := rest, out := S.out ++ [v.L6] }
def MS.next : MS :=
 if S.reads = true then S.read
 else if S.has = false then S.term
 else match S.frames with
  | f :: fs => { S with frames := fs }.frame f
  | [] => { S with reads := true, todo := [S.v] }.read
def MS.step : MS × Bool :=
 if S.done = true then (S, false)
 else if S.steps = S.fuel then (S.ends (kP 5), false)
 else ({ S with steps := S.steps + 1 }.next, true)
variable (fuel : Int)
def Bt : Nat := (min (max fuel 0) 65536).toNat
def MS.new : MS :=
 { fuel := Bt fuel, steps := 0, done := !t.right, res := if t.right = true then noResM else X7, has := false, t := if t.right = true then t else KC, env := [], v := R5, frames := [], U3 := [], reads := false, todo := [], out := [] }
where noResM : Ci := kP 0
end
end Go.Su

/-
 THE MACHINE: what holds in each state.
-/
namespace Go.Su
def JD (t : Tm) : Prop := t.right = true /\ t.Y0 <= 1048576
variable (L : Nat)
def JS (e : List Cell) : Prop := (∀ c ∈ e, c.2.ok) /\ e.length <= L * 1048576
def TZ (f : CL) : Prop :=
 JS L f.env /\ ((f.kind = 1 \/ f.kind = 3 \/ f.kind = 5) /\ JD f.t \/ (f.kind = 2 \/ f.kind = 4 \/ f.kind = 6) /\ f.v.ok \/ f.kind = 7 /\ JD f.t /\ f.t.kind = 11 \/ f.kind = 8 /\ JD f.t /\ f.t.kind = 13 \/
  f.kind = 9 /\ JD f.t /\ f.t.kind = 14 \/ f.kind = 10 /\ JD f.t /\ f.t.kind = 15 \/ f.kind = 11 /\ JD f.t /\ f.t.kind = 15 /\ f.v.ok \/ f.kind = 12 /\ f.c.right = true /\ f.c.kind ≠ 1 /\ f = DW f.c)
def fM (c : fK) : Prop := JD c.body /\ JS L c.env
def listing : Nat -> List Val -> Prop
 | 0, l => l = []
 | _ + 1, [] => False
 | k + 1, v :: l => listing (k + v.ar) l
structure MInv (L : Nat) (S : MS) : Prop where
 t : JD S.t
 env : JS L S.env
 v : S.has = true -> S.v.ok
 fr : ∀ f ∈ S.frames, TZ L f
 fl : S.frames.length <= L
 fu : ∀ c ∈ S.U3, fM L c
 ul : S.U3.length <= L
 td : ∀ v ∈ S.todo, v.ok
 tl : S.todo.length <= L + 1
 ol : S.out.length <= L
 rd : S.reads = true -> S.todo ≠ []
 nr : S.reads = false -> S.todo = [] /\ S.out = []
 li : S.reads = true -> ∀ l, listing S.todo.length l -> listing 1 (S.out ++ l)
 ob : ∀ v ∈ S.out, v.c = F6 /\ v.kids = []
def AV (S : MS) : Prop := S.done = false -> MInv L S
variable {t : Tm}
theorem JD.kid (h : JD t) {i : Nat} (hi : i < t.kids.length) : JD (t.kd i) := ⟨Tm.O4 h.1 (Tm.J_ hi), by have := Tm.NT (Tm.J_ hi); have := h.2; omega⟩
variable {L : Nat} {e : List Cell}
theorem JS.mono {M : Nat} (h : JS L e) (hl : L <= M) : JS M e := ⟨h.1, Nat.le_trans h.2 (Nat.mul_le_mul_right _ hl)⟩
variable {f : CL}
theorem TZ.mono {M : Nat} (h : TZ L f) (hl : L <= M) : TZ M f := ⟨h.1.mono hl, h.2⟩
theorem fM.mono {M : Nat} {c : fK} (h : fM L c) (hl : L <= M) : fM M c := ⟨h.1, h.2.mono hl⟩
variable {S : MS}
theorem MInv.up (h : MInv L S) : MInv (L + 1) S :=
 ⟨h.t, h.env.mono (by omega), h.v, fun f hf => (h.fr f hf).mono (by omega), by have := h.fl; omega, fun c hc => (h.fu c hc).mono (by omega), by have := h.ul; omega, h.td, by have := h.tl; omega, by have := h.ol; omega, h.rd, h.nr, h.li, h.ob⟩
theorem JS.nil (L : Nat) : JS L [] := ⟨by simp, by simp⟩
theorem JS.app {l : List Cell} (h : JS L e) (hl : ∀ c ∈ l, c.2.ok) (hn : l.length <= 1048576) : JS (L + 1) (e ++ l) := by
 refine ⟨fun c hc => ?_, ?_⟩
 ·rcases z17q.1 hc with hc | hc
  ·exact h.1 c hc
  ·exact hl c hc
 ·rw [z10q, Nat.succ_mul]
  have := h.2;omega
variable {v : Val}
theorem MInv.give (h : MInv L S) (hv : v.ok) : MInv L (S.give v) := { h with v := fun _ => hv }
theorem MInv.go (h : MInv L S) (ht : JD t) (he : JS L e) : MInv L (S.go t e) := { h with t := ht, env := he, v := fun h => by cases h }
theorem MInv.push (h : MInv L S) (hf : TZ L f) (hl : S.frames.length + 1 <= L) : MInv L (S.push f) :=
 { h with fr := fun g hg => (z12q.1 hg).elim (fun e => e ▸ hf) (h.fr g), fl := by simpa [MS.push] using hl }
theorem MInv.make (h : MInv L S) {c : fK} (hc : fM L c) (hl : S.U3.length + 1 <= L) : MInv L (S.make c) :=
 { h with fu := fun g hg => (z17q.1 hg).elim (h.fu g) (fun e => z29q.1 e ▸ hc), ul := by simpa [MS.make] using hl }
theorem MInv.good (h : MInv L S) : AV L S := fun _ => h
theorem AV.ends (r : Ci) : AV L (S.ends r) := fun h => by cases h
variable {c : A9}
theorem A8o (hc : c.right = true) (h1 : c.kind ≠ 1) : TZ L (DW c) :=
 ⟨.nil L, .inr (.inr (.inr (.inr (.inr (.inr (.inr ⟨rfl, hc, h1, rfl⟩))))))⟩
theorem MInv.put (h : MInv L S) (hc : c.right = true) (hl : S.frames.length + 1 <= L) : AV L (S.put c) := by
 unfold MS.put
 by_cases k1 : c.kind = 1
 ·rw [if_pos k1]; exact h.good
 rw [if_neg k1];have pu := (h.push (A8o hc k1) hl).good;cases hf : S.frames with
 | nil => exact pu
 | cons f fs =>
   simp only
   split
   ·rename_i k12
    have fo := h.fr f (by rw [hf]; exact z5q ..)
    split
    ·exact AV.ends _
    ·rename_i j hj
     have jr := A9.qV hj;have fl := h.fl;rw [hf] at fl;simp only [z8q] at fl;have tail : ∀ g ∈ fs, TZ L g := fun g hg => h.fr g (by rw [hf]; exact z4q _ hg)
     split
     ·exact MInv.good { h with fr := tail, fl := by simp only; omega }
     ·rename_i j1
      exact MInv.good { h with fr := fun g hg => (z12q.1 hg).elim (fun e => e ▸ A8o jr j1) (tail g), fl := by simpa using fl }
   ·exact pu
theorem A3R (S : MS) (c : A9) : (S.put c).U3 = S.U3 /\ (S.put c).v = S.v /\ (S.put c).has = S.has /\ (S.put c).fuel = S.fuel /\ (S.put c).steps = S.steps /\ (S.put c).reads = S.reads := by
 unfold MS.put
 split
 ·exact ⟨rfl, rfl, rfl, rfl, rfl, rfl⟩
 split
 ·exact ⟨rfl, rfl, rfl, rfl, rfl, rfl⟩
 split
 ·split
  ·exact ⟨rfl, rfl, rfl, rfl, rfl, rfl⟩
  ·split <;> exact ⟨rfl, rfl, rfl, rfl, rfl, rfl⟩
 ·exact ⟨rfl, rfl, rfl, rfl, rfl, rfl⟩
theorem Tm.Gl (h : t.right = true) : 1 <= t.kind /\ t.kind <= 16 := by
 have := Tm.NY h;simp only [Tm.one, DJ, z0q, decide_eq_true_eq] at this;omega
theorem Tm.CV (h : t.right = true) : (t.kids.length : Int) = O9 t.kind t.H8.length := by
 have := Tm.NY h;simp only [Tm.one, z0q, decide_eq_true_eq] at this;exact this.1.1.1.1.1.2
variable {s : ByteArray}
theorem A85 {l : List Cell} (h : JS L l) (e : Qz s l = some v) : v.ok := by
 unfold Qz at e;rw [Option.map_eq_some_iff] at e;obtain ⟨c, hc, rfl⟩ := e;exact h.1 c (by simpa using List.mem_of_find?_eq_some hc)
theorem Wi {k n : Int} (h : k = 1 /\ s = N9 \/ k = 2 /\ (n = 0 \/ n = 1) /\ s = N9 \/ k = 3 /\ n = 0 /\ s.size <= 200 \/ k = 4 /\ n = 0 /\ s = N9 \/ k = 6 /\ n = 0 /\ s = N9 \/ k = 8 /\ 0 <= n /\ s = N9) : (Val.mk k n s F6 []).ok := by
 refine .mk _ ⟨?_, (if_neg (show ¬ ((Val.mk k n s F6 []).kind = 5 \/ (Val.mk k n s F6 []).kind = 7) by simp only [Val.Bi]; omega)).symm, ?_, ?_, ?_, ?_, ?_, ?_⟩ (.inl rfl) (by simp) <;> simp only [Val.Bi, Val.Ro, Val.fD, Val.AZ, Val.B8p]
 ·omega
 ·omega
 ·omega
 ·omega
 ·intro h3
  rcases h with h | h | h | h | h | h
  ·exact h.2
  ·exact h.2.2
  ·exact absurd h.1 h3
  ·exact h.2.2
  ·exact h.2.2
  ·exact h.2.2
 ·rcases h with h | h | h | h | h | h
  ·rw [h.2]; decide
  ·rw [h.2.2]; decide
  ·exact h.2.2
  ·rw [h.2.2]; decide
  ·rw [h.2.2]; decide
  ·rw [h.2.2]; decide
 ·omega
theorem B1e (n : Nat) : (A3C n).ok := Wi (.inr (.inr (.inr (.inr (.inr ⟨rfl, by omega, rfl⟩)))))
theorem A9f {k : Int} {a b : Val} (ha : a.ok) (hb : b.ok) (hk : k = 5 \/ k = 7 /\ (b.kind = 6 \/ b.kind = 7) /\ b.c.kind ≠ 5) : (Val.mk k 0 N9 F6 [a, b]).ok := by
 refine .mk _ ⟨?_, (if_pos (show ((Val.mk k 0 N9 F6 [a, b]).kind = 5 \/ (Val.mk k 0 N9 F6 [a, b]).kind = 7) by simp only [Val.Bi]; omega)).symm, fun _ _ _ => rfl, fun _ => .inl rfl, fun _ => by simp, fun _ => rfl, by show N9.size <= 200; decide, ?_⟩ (.inl rfl) (by simp [ha, hb]) <;> simp only [Val.Bi, Val.Ro, Val.fD, Val.AZ, Val.B8p]
 ·omega
 ·intro h7
  have : (Val.mk k 0 N9 F6 [a, b]).kid 1 = b := rfl;rw [this];rcases hk with h | h
  ·omega
  ·exact h.2
theorem Tm.B0C (h : t.right = true) (hk : t.kind = 2 \/ t.kind = 3 \/ t.kind = 4 \/ t.kind = 5) : (Val.mk (t.kind - 1) t.n t.s F6 []).ok := by
 have h1 := Tm.NY h;simp only [Tm.one, Tm.qa, Tm.A0s, kN, kS, z0q, Bool.or_eq_true, decide_eq_true_eq, Bool.not_eq_true', decide_eq_false_iff_not] at h1;obtain ⟨-, ⟨h2, h3⟩, ⟨⟨h4, h5⟩, -⟩, -⟩ := h1;refine Wi ?_;have s0 : t.kind ≠ 4 -> t.s = N9 := fun h => h4.resolve_left h
 have n0 : t.kind ≠ 2 -> t.kind ≠ 3 -> t.n = 0 := fun a b => h2.resolve_left (by omega)
 rcases hk with hk | hk | hk | hk
 ·exact .inl ⟨by omega, s0 (by omega)⟩
 ·exact .inr (.inl ⟨by omega, by rcases h3 with (h3 | h3) | h3 <;> omega, s0 (by omega)⟩)
 ·exact .inr (.inr (.inl ⟨by omega, n0 (by omega) (by omega), h5⟩))
 ·exact .inr (.inr (.inr (.inl ⟨by omega, n0 (by omega) (by omega), s0 (by omega)⟩)))
theorem Tm.qf (h : t.right = true) (hk : t.kind = 16) : t.a.right = true /\ t.b.right = true /\ IM t.label = true := by
 have a1 := z6q.1 (show (_ && t.qa) = true from Tm.NY h)
 have a2 := z6q.1 a1.1;have h3 := a2.2;have h2 := (z6q.1 a2.1).2;have b1 := z6q.1 (show (_ && t.A0s) = true from a1.2)
 have b2 := z6q.1 (show (_ && t.A3P) = true from b1.2)
 have b3 := z6q.1 (show (_ && t.A3Q) = true from b2.2)
 have b4 := z6q.1 (show (_ && t.A55) = true from b3.2)
 have h4 := (z6q.1 b4.1).2;rw [hk] at h2 h3;refine ⟨h2, h3, ?_⟩;simpa [IM] using h4
theorem Tm.A9w (h : t.right = true) (hk : t.kind = 15) : 1 <= t.op /\ t.op <= 7 := by
 have a1 := z6q.1 (show (_ && t.qa) = true from Tm.NY h)
 have b1 := z6q.1 (show (_ && t.A0s) = true from a1.2)
 have b2 := z6q.1 (show (_ && t.A3P) = true from b1.2)
 have b3 := z6q.1 (show (_ && t.A3Q) = true from b2.2)
 have b4 := (z6q.1 b3.1).1;rw [hk] at b4;simpa [Aw] using b4
theorem MInv.term (h : MInv L S) : AV (L + 1) S.term := by
 have tr := h.t.1;have tk := Tm.Gl tr;have tn := Tm.CV tr;have U := h.up;have ue := U.env;have fl : S.frames.length + 1 <= L + 1 := by have := h.fl; omega
 have ul : S.U3.length + 1 <= L + 1 := by have := h.ul; omega
 have pg : ∀ (f : CL), TZ (L + 1) f -> 0 < S.t.kids.length -> AV (L + 1) ((S.push f).go (S.t.kd 0) S.env) := fun f hf h0 => ((U.push hf fl).go (h.t.kid h0) ue).good
 unfold MS.term;unfold O9 at tn
 by_cases k1 : S.t.kind = 1
 ·rw [if_pos k1]
  cases hl : Qz S.t.name S.env with
  | none => exact AV.ends _
  | some v => exact (U.give (A85 h.env hl)).good
 rw [if_neg k1]
 by_cases k2 : S.t.kind = 2 \/ S.t.kind = 3 \/ S.t.kind = 4 \/ S.t.kind = 5
 ·rw [if_pos k2]; exact (U.give (Tm.B0C tr k2)).good
 rw [if_neg k2]
 by_cases k7 : S.t.kind = 7
 ·rw [if_pos k7]; exact (U.give (Wi (.inr (.inr (.inr (.inr (.inl ⟨rfl, rfl, rfl⟩))))))).good
 rw [if_neg k7]
 by_cases k9 : S.t.kind = 9
 ·rw [if_neg (by omega), if_pos (by omega)] at tn
  rw [if_pos k9];exact ((U.make ⟨h.t.kid (by omega), ue⟩ ul).give (B1e _)).good
 rw [if_neg k9]
 by_cases k6 : S.t.kind = 6
 ·rw [if_pos (by omega)] at tn
  rw [if_pos k6];exact pg _ ⟨ue, .inl ⟨.inl rfl, h.t.kid (by omega)⟩⟩ (by omega)
 rw [if_neg k6]
 by_cases k8 : S.t.kind = 8
 ·rw [if_pos (by omega)] at tn
  rw [if_pos k8];exact pg _ ⟨ue, .inl ⟨.inr (.inl rfl), h.t.kid (by omega)⟩⟩ (by omega)
 rw [if_neg k8]
 by_cases k10 : S.t.kind = 10
 ·rw [if_pos (by omega)] at tn
  rw [if_pos k10];exact pg _ ⟨ue, .inl ⟨.inr (.inr rfl), h.t.kid (by omega)⟩⟩ (by omega)
 rw [if_neg k10]
 by_cases k11 : S.t.kind = 11
 ·rw [if_pos (by omega)] at tn
  rw [if_pos k11];exact pg _ ⟨ue, .inr (.inr (.inl ⟨rfl, h.t, k11⟩))⟩ (by omega)
 rw [if_neg k11]
 by_cases k13 : S.t.kind = 13
 ·rw [if_neg (by omega), if_neg (by omega), if_pos (by omega)] at tn
  rw [if_pos k13];exact pg _ ⟨ue, .inr (.inr (.inr (.inl ⟨rfl, h.t, k13⟩)))⟩ (by omega)
 rw [if_neg k13]
 by_cases k14 : S.t.kind = 14
 ·rw [if_neg (by omega), if_neg (by omega), if_neg (by omega), if_pos (by omega)] at tn
  rw [if_pos k14];exact pg _ ⟨ue, .inr (.inr (.inr (.inr (.inl ⟨rfl, h.t, k14⟩))))⟩ (by omega)
 rw [if_neg k14]
 by_cases k15 : S.t.kind = 15
 ·rw [if_pos (by omega)] at tn
  rw [if_pos k15];exact pg _ ⟨ue, .inr (.inr (.inr (.inr (.inr (.inl ⟨rfl, h.t, k15⟩)))))⟩ (by omega)
 rw [if_neg k15]
 by_cases k12 : S.t.kind = 12
 ·rw [if_pos (by omega)] at tn
  rw [if_pos k12];exact ((U.make ⟨h.t.kid (by omega), ue⟩ ul).go (h.t.kid (by omega)) (h.env.app (by simpa using B1e _) (by simp))).good
 rw [if_neg k12];have k16 : S.t.kind = 16 := by omega
 rw [if_neg (by omega), if_pos (by omega)] at tn
 obtain ⟨a1, a2, a3⟩ := Tm.qf tr k16
 by_cases ag : S.t.a.agrees S.t.b = true
 ·rw [if_pos ag]
  have := U.put (jh (q := S.t.neg) a1 a2 ag a3) fl;intro hd;exact (this hd).go (h.t.kid (by omega)) ue
 ·rw [if_neg ag]; exact AV.ends _
theorem AV.wrapped {k : Val -> MS} (hv : v.ok) (h : ∀ w, w.ok -> AV L (k w)) : AV L (S.wrapped v c k) := by
 unfold MS.wrapped
 split
 ·exact AV.ends _
 ·exact AV.ends _
 ·exact h _ (Val.A1r hv ‹_›).1
theorem MInv.enter (h : MInv (L + 1) S) (hu : ∀ c ∈ S.U3, fM L c) {f : Val} (hf : f.ok) (hv : v.ok) : MInv (L + 1) (S.enter f v) := by
 unfold MS.enter
 split
 ·rename_i c hc
  have := hu c (z45q hc);refine h.go this.1 ?_
  split
  ·exact this.2.app (by simpa using hv) (by simp)
  ·rw [z15q]
   exact this.2.app (by simp [hf, hv]) (by simp)
 ·exact h
theorem MInv.call (h : MInv (L + 1) S) (hu : ∀ c ∈ S.U3, fM L c) (fl : S.frames.length + 1 <= L + 1) (hv : S.v.ok) {f : Val} (hf : f.ok) : AV (L + 1) (S.call f) := by
 unfold MS.call
 split
 ·exact AV.ends _
 split
 ·exact (h.enter hu hf hv).good
 split
 ·exact AV.ends _
 ·rename_i hn k2
  have cr := hf.coR hn;have cl := A9.JB cr (.inl (by omega))
  refine AV.wrapped hv fun w hw => ?_
  have pg := h.put (A9.O4 cr (show 1 < f.c.kids.length by omega)) fl
  split
  ·exact pg
  ·rename_i hd
   obtain ⟨e1, -⟩ := A3R S (f.c.kid 1);exact ((pg (by simpa using hd)).enter (by rw [e1]; exact hu) (hf.CJ (.inl rfl)) hw).good
theorem B3Z {a b : Val} (h : oJ t a b = .ok v) : v.ok := by
 unfold oJ at h
 by_cases hc : a.kind = (if t.op = 7 then 3 else 1) /\ b.kind = (if t.op = 7 then 3 else 1) /\ a.c = F6 /\ b.c = F6
 ·rw [if_pos hc] at h
  by_cases h7 : t.op = 7
  ·rw [if_pos h7] at h
   cases h;exact Wi (.inr (.inl ⟨rfl, by split <;> simp, rfl⟩))
  ·rw [if_neg h7] at h
   split at h
   ·rename_i n hn
    cases h
    by_cases h5 : 5 <= t.op
    ·rw [if_pos h5]
     refine Wi (.inr (.inl ⟨rfl, ?_, rfl⟩));unfold Q_ at hn;rw [if_neg (by omega), if_neg (by omega), if_neg (by omega), if_neg (by omega)] at hn
     split at hn <;> cases hn <;> split <;> simp
    ·rw [if_neg h5]
     exact Wi (.inl ⟨rfl, rfl⟩)
   ·cases h
 ·rw [if_neg hc] at h
  cases h
theorem MInv.arms {L : Nat} {S : MS} (h : MInv (L + 1) S) (hv : S.v.ok) {f : CL} (he : JS L f.env) (ht : JD f.t) :
 ∀ (ps : List D9) (i : Nat), i + ps.length + 1 <= f.t.kids.length -> (∀ p ∈ ps, p.pat = true /\ p.size <= 1048576) -> AV (L + 1) (S.arms f i ps)
 | [], i, _, _ => AV.ends _
 | p :: ps, i, hi, hp => by
   simp only [z8q] at hi;have hp0 := hp p (z5q ..);unfold MS.arms
   split
   ·exact AV.ends _
   ·exact AV.ends _
   ·rename_i l hl
    obtain ⟨a1, a2⟩ := D9.dh p hp0.1 hv hl;exact (h.go (ht.kid (by omega)) (he.app a1 (by omega))).good
   ·exact MInv.arms h hv he ht ps (i + 1) (by omega) fun q hq => hp q (z4q _ hq)
theorem JD.H8 (h : JD t) : ∀ p ∈ t.H8, p.pat = true /\ p.size <= 1048576 := by
 intro p hp;have h1 := Tm.NY h.1;simp only [Tm.one, Tm.qa, Tm.A0s, Tm.A3P, Tm.A3Q, Tm.A55, Tm.lists, z0q, z1q] at h1;refine ⟨D9.B4e (h1.2.2.2.2.2.2.2 p hp), ?_⟩;have h2 := h.2;have h3 := t.BQ;have h4 := Wl (f := D9.Y0) hp;have h5 := p.A0I;omega
theorem MInv.frame (h : MInv (L + 1) S) (hu : ∀ c ∈ S.U3, fM L c) (fl : S.frames.length + 1 <= L + 1) (hv : S.v.ok) (hf : TZ L f) : AV (L + 1) (S.frame f) := by
 obtain ⟨he, hf⟩ := hf;have he1 := he.mono (Nat.le_succ L);unfold MS.frame;rcases hf with ⟨k, ht⟩ | ⟨k, fv⟩ | ⟨k, ht, tk⟩ | ⟨k, ht, tk⟩ | ⟨k, ht, tk⟩ | ⟨k, ht, tk⟩ | ⟨k, ht, tk, fv⟩ | ⟨k, cr, c1, -⟩
 ·rw [if_pos k]
  exact ((h.push (f := ⟨f.kind + 1, f.t, [], S.v, F6⟩) ⟨.nil _, .inr (.inl ⟨by simp only; omega, hv⟩)⟩ fl).go ht he1).good
 ·rw [if_neg (by omega), if_neg (by omega)]
  rcases k with k | k | k
  ·rw [if_pos k]
   exact (h.give (A9f fv hv (.inl rfl))).good
  ·rw [if_neg (by omega), if_pos k]
   split
   ·exact (h.give (A9f fv hv (.inr ⟨rfl, ‹_›⟩))).good
   ·exact AV.ends _
  ·rw [if_neg (by omega), if_neg (by omega), if_pos k]
   exact h.call hu fl hv fv
 ·have tn := Tm.CV ht.1
  rw [tk, O9, if_pos (by omega)] at tn
  rw [if_neg (by omega), if_neg (by omega), if_neg (by omega), if_neg (by omega), if_neg (by omega), if_pos k]
  exact (h.go (ht.kid (by omega)) (he.app (by simpa using hv) (by simp))).good
 ·have tn := Tm.CV ht.1
  rw [tk, O9, if_neg (by omega), if_neg (by omega), if_pos (by omega)] at tn
  rw [if_neg (by omega), if_neg (by omega), if_neg (by omega), if_neg (by omega), if_neg (by omega), if_neg (by omega), if_pos k]
  split
  ·exact (h.go (ht.kid (by split <;> omega)) he1).good
  ·exact AV.ends _
 ·have tn := Tm.CV ht.1
  rw [tk, O9, if_neg (by omega), if_neg (by omega), if_neg (by omega), if_pos (by omega)] at tn
  rw [if_neg (by omega), if_neg (by omega), if_neg (by omega), if_neg (by omega), if_neg (by omega), if_neg (by omega), if_neg (by omega), if_pos k]
  exact h.arms hv he ht _ 0 (by omega) ht.H8
 ·have tn := Tm.CV ht.1
  rw [tk, O9, if_pos (by omega)] at tn
  rw [if_neg (by omega), if_pos k]
  exact ((h.push (f := ⟨11, f.t, [], S.v, F6⟩) ⟨.nil _, .inr (.inr (.inr (.inr (.inr (.inr (.inl ⟨rfl, ht, tk, hv⟩))))))⟩ fl).go (ht.kid (by omega)) he1).good
 ·rw [if_neg (by omega), if_neg (by omega), if_neg (by omega), if_neg (by omega), if_neg (by omega), if_neg (by omega), if_neg (by omega), if_neg (by omega), if_pos k]
  split
  ·exact AV.ends _
  ·exact AV.ends _
  ·exact (h.give (B3Z ‹_›)).good
 ·rw [if_neg (by omega), if_neg (by omega), if_neg (by omega), if_neg (by omega), if_neg (by omega), if_neg (by omega), if_neg (by omega), if_neg (by omega), if_neg (by omega)]
  exact AV.wrapped hv fun w hw => (h.give hw).good
theorem Val.ok.Fx (h : v.ok) (hk : v.kind = 5 \/ v.kind = 7) : v.Fx.ok /\ v.Fx.kind = v.kind := by
 unfold Val.Fx
 split
 ·rename_i k5
  have hn : v.c ≠ F6 := fun h => by rw [h, QS] at k5; omega
  obtain ⟨cr, hc⟩ := h.co.resolve_left hn;have l1 := A9.A_ cr (.inr (.inl k5));have hh : v.c.head = Zx v.kind := by
   rcases hc with hc | hc | hc | hc
   ·exact hc.2
   all_goals omega
  split
  ·exact ⟨h.CJ (.inl rfl), rfl⟩
  ·rename_i k1
   have kr := A9.O4 cr (show 0 < v.c.kids.length by omega)
   rw [A9.A6b k5] at cr;simp only [z0q, A9.Zr, decide_eq_true_eq] at cr;have ff := cr.2.1.resolve_left k1;refine ⟨h.CJ (.inr ⟨kr, ?_⟩), rfl⟩;rw [hh] at ff;unfold Ed Zx at ff;rcases hk with hk | hk
   ·rw [hk] at ff
    right; left
    refine ⟨?_, hk⟩
    repeat' split at ff
    all_goals omega
   ·rw [hk] at ff
    right; right; left
    refine ⟨?_, .inr hk⟩
    repeat' split at ff
    all_goals omega
 ·exact ⟨h, rfl⟩
theorem MInv.read (h : MInv L S) (hr : S.reads = true) : AV (L + 1) S.read := by
 unfold MS.read;have U := h.up;cases ht : S.todo with
 | nil => exact absurd ht (h.rd hr)
 | cons v rest =>
   have hv := h.td v (by rw [ht]; exact z5q ..)
   have B6H : ∀ w ∈ rest, w.ok := fun w hw => h.td w (by rw [ht]; exact z4q _ hw)
   have tl := h.tl;have ol := h.ol;have li := h.li hr;rw [ht] at tl li;simp only [z8q] at tl li;have ob : ∀ w ∈ S.out ++ [v.L6], w.c = F6 /\ w.kids = [] := by
    intro w hw;rcases z17q.1 hw with hw | hw
    ·exact h.ob w hw
    ·rw [z29q.1 hw]; exact ⟨rfl, rfl⟩
   have ar : v.L6.ar = if v.kind = 5 \/ v.kind = 7 then 2 else 0 := rfl
   simp only
   split
   ·rename_i hk
    split
    ·exact AV.ends _
    ·exact AV.ends _
    ·rename_i a b EG
     obtain ⟨oa, ob'⟩ := Val.A5R (hv.Fx hk).1 EG;refine MInv.good { U with td := fun w hw => ?_, tl := by simp only [z8q]; omega, ol := by simp only [z10q, z8q, z14q]; omega, rd := fun _ => by simp, nr := fun h => (by simp only at h; rw [hr] at h; cases h), li := fun _ l hl => ?_, ob := ob }
     ·rcases z12q.1 hw with rfl | hw
      ·exact oa
      rcases z12q.1 hw with rfl | hw
      ·exact ob'
      ·exact B6H w hw
     ·simp only [z8q] at hl
      rw [z15q];refine li _ ?_;rw [z39q, listing, ar, if_pos hk];exact hl
   split
   ·exact AV.ends _
   ·rename_i hk hne
    refine MInv.good { U with td := B6H, tl := by simp only; omega, ol := by simp only [z10q, z8q, z14q]; omega, rd := fun _ => hne, nr := fun h => (by simp only at h; rw [hr] at h; cases h), li := fun _ l hl => ?_, ob := ob }
    rw [z15q];refine li _ ?_;rw [z39q, listing, ar, if_neg hk];exact hl
theorem MInv.next (h : MInv L S) : AV (L + 1) S.next := by
 unfold MS.next
 split
 ·exact h.read ‹_›
 split
 ·exact h.term
 ·rename_i hr hh
  have hv := h.v (by simpa using hh)
  have U := h.up
  split
  ·rename_i f fs hf
   have fl := h.fl;rw [hf] at fl;simp only [z8q] at fl;refine MInv.frame (S := { S with frames := fs }) { U with fr := fun g hg => U.fr g (by rw [hf]; exact z4q _ hg), fl := by simp only; omega } h.fu (by simp only; omega) hv (h.fr f (by rw [hf]; exact z5q ..))
  ·have nr := h.nr (by simpa using hr)
   refine MInv.read (S := { S with reads := true, todo := [S.v] }) { h with td := by simpa using hv, tl := by simp, rd := fun _ => by simp, nr := fun h => (by cases h), li := fun _ l hl => ?_ } rfl
   rw [nr.2];exact hl
theorem A99 : ∀ (n : Nat) (l : List Val) (k : Nat), l.length <= n -> listing (k + 1) l -> listing k (AY n l).2 /\ (AY n l).2.length < l.length := by
 intro n
 induction n with
 | zero =>
   intro l k hl h;have : l = [] := z7q (by omega)
   subst this;cases h
 | succ n ih =>
   intro l k hl h;cases l with
   | nil => cases h
   | cons v l =>
     simp only [z8q] at hl;rw [listing] at h;rw [AY]
     split
     ·rename_i hk
      rw [Val.ar, if_pos hk] at h;obtain ⟨a1, a2⟩ := ih l (k + 1) (by omega) h
      obtain ⟨b1, b2⟩ := ih _ k (by omega) a1
      exact ⟨b1, by simp only [z8q]; omega⟩
     ·rename_i hk
      rw [Val.ar, if_neg hk] at h;exact ⟨h, by simp⟩
end Go.Su

/-
 THE MACHINE: its values' lists are short; its result's too.
-/
namespace Go.Su
inductive A9.sc : A9 -> Prop where
 | mk (c : A9) : c.kids.length <= 2 -> (∀ k ∈ c.kids, k.sc) -> c.sc
theorem A9.sc.len {c : A9} (h : c.sc) : c.kids.length <= 2 := by cases h; assumption
theorem A9.sc.mem {c k : A9} (h : c.sc) (hk : k ∈ c.kids) : k.sc := by cases h with | mk _ _ g => exact g k hk
inductive Val.sv : Val -> Prop where
 | mk (v : Val) : v.c.sc -> v.kids.length <= 2 -> (∀ k ∈ v.kids, k.sv) -> v.sv
variable {v : Val}
theorem Val.sv.co (h : v.sv) : v.c.sc := by cases h; assumption
theorem Val.sv.len (h : v.sv) : v.kids.length <= 2 := by cases h; assumption
theorem Val.sv.mem {k : Val} (h : v.sv) (hk : k ∈ v.kids) : k.sv := by cases h with | mk _ _ _ g => exact g k hk
theorem jC : F6.sc := .mk _ (by simp [F6]) (by simp [F6])
theorem A9.A9x (c : A9) : c.right = true -> c.sc := by
 induction c using A9.ind with
 | h c ih => intro hr; exact .mk c (A9.B4d hr) fun k hk => ih k hk (A9.A7e hr hk)
theorem A1e (k n : Int) (s : ByteArray) : (Val.mk k n s F6 []).sv := .mk _ jC (by simp) (by simp)
theorem Rq : R5.sv := A1e _ _ _
theorem B0a {k n : Int} {s : ByteArray} {a b : Val} (ha : a.sv) (hb : b.sv) : (Val.mk k n s F6 [a, b]).sv := by
 refine .mk _ jC (by simp) fun x hx => ?_
 simp only [Val.AZ, z12q, z37q, or_false] at hx;rcases hx with rfl | rfl
 ·exact ha
 ·exact hb
theorem Val.ok.sv (h : v.ok) : v.sv := by
 induction h with
 | mk v f co _ ih =>
   refine .mk v ?_ ?_ ih
   ·rcases co with co | co
    ·rw [co]; exact jC
    ·exact A9.A9x _ co.1
   ·rw [f.2.1]; split <;> omega
theorem A31 : ∀ (n : Nat) (l : List Val), (∀ v ∈ l, v.c = F6 /\ v.kids = []) -> (AY n l).1.sv /\ ∀ v ∈ (AY n l).2, v.c = F6 /\ v.kids = []
 | 0, l, h => ⟨Rq, h⟩
 | n + 1, [], h => ⟨Rq, h⟩
 | n + 1, v :: l, h => by
   have h0 := h v (z5q ..);have ht : ∀ w ∈ l, w.c = F6 /\ w.kids = [] := fun w hw => h w (z4q _ hw)
   rw [AY]
   split
   ·obtain ⟨a1, a2⟩ := A31 n l ht
    obtain ⟨b1, b2⟩ := A31 n _ a2;rw [h0.1];exact ⟨B0a a1 b1, b2⟩
   ·exact ⟨.mk v (by rw [h0.1]; exact jC) (by rw [h0.2]; simp) (by rw [h0.2]; simp), ht⟩
structure R7 (S : MS) : Prop where
 v : S.has = true -> S.v.sv
 r : S.res.val.sv
section
variable {S : MS}
theorem R7.ends (h : R7 S) {r : Ci} (hr : r.val.sv) : R7 (S.ends r) := ⟨h.v, hr⟩
theorem R7.stuck (h : R7 S) : R7 (S.ends X7) := h.ends Rq
theorem R7.X5 (h : R7 S) (l : Int) (n : Bool) : R7 (S.ends (LC l n)) := h.ends Rq
theorem R7.at' (h : R7 S) (k lo hi : Int) : R7 (S.ends (atR k lo hi)) := h.ends Rq
theorem R7.give (h : R7 S) (hv : v.sv) : R7 (S.give v) := ⟨fun _ => hv, h.r⟩
theorem R7.go (h : R7 S) (t : Tm) (e : List Cell) : R7 (S.go t e) := ⟨fun h => (by cases h), h.r⟩
theorem R7.push (h : R7 S) (f : CL) : R7 (S.push f) := ⟨h.v, h.r⟩
theorem R7.make (h : R7 S) (c : fK) : R7 (S.make c) := ⟨h.v, h.r⟩
theorem R7.put (h : R7 S) (c : A9) : R7 (S.put c) := by
 unfold MS.put
 split
 ·exact h
 split
 ·exact h.push _
 split
 ·split
  ·exact h.stuck
  ·split <;> exact ⟨h.v, h.r⟩
 ·exact h.push _
theorem R7.enter (h : R7 S) (f v : Val) : R7 (S.enter f v) := by
 unfold MS.enter
 split
 ·exact h.go _ _
 ·exact h
theorem R7.wrapped (h : R7 S) {c : A9} {k : Val -> MS} (hv : v.ok) (hk : ∀ w, w.ok -> R7 (k w)) : R7 (S.wrapped v c k) := by
 unfold MS.wrapped
 split
 ·exact h.stuck
 ·exact h.X5 _ _
 ·exact hk _ (Val.A1r hv ‹_›).1
theorem R7.call (h : R7 S) (f : Val) (hv : S.v.ok) : R7 (S.call f) := by
 unfold MS.call
 split
 ·exact h.stuck
 split
 ·exact h.enter _ _
 split
 ·exact h.stuck
 ·refine h.wrapped hv fun w _ => ?_
  split
  ·exact h.put _
  ·exact (h.put _).enter _ _
theorem R7.arms (h : R7 S) (f : CL) : ∀ (ps : List D9) (i : Nat), R7 (S.arms f i ps)
 | [], i => by rw [MS.arms]; exact h.at' _ _ _
 | p :: ps, i => by
   rw [MS.arms]
   split
   ·exact h.stuck
   ·exact h.X5 _ _
   ·exact h.go _ _
   ·exact R7.arms h f ps (i + 1)
theorem R7.Gf {c : Prop} [Decidable c] {a b : MS} (ha : c -> R7 a) (hb : ¬ c -> R7 b) : R7 (if c then a else b) := by
 by_cases h : c
 ·rw [if_pos h]; exact ha h
 ·rw [if_neg h]; exact hb h
variable {L : Nat}
theorem R7.term (h : R7 S) (I : MInv L S) : R7 S.term := by
 unfold MS.term;refine R7.Gf (fun _ => ?_) fun _ => R7.Gf (fun _ => h.give (A1e _ _ _)) fun _ => R7.Gf (fun _ => h.give (A1e _ _ _)) fun _ => R7.Gf (fun _ => (h.make _).give (A1e _ _ _)) fun _ =>
  R7.Gf (fun _ => (h.push _).go _ _) fun _ => R7.Gf (fun _ => (h.push _).go _ _) fun _ => R7.Gf (fun _ => (h.push _).go _ _) fun _ => R7.Gf (fun _ => (h.push _).go _ _) fun _ => R7.Gf (fun _ => (h.push _).go _ _) fun _ =>
  R7.Gf (fun _ => (h.push _).go _ _) fun _ => R7.Gf (fun _ => (h.push _).go _ _) fun _ => R7.Gf (fun _ => (h.make _).go _ _) fun _ => R7.Gf (fun _ => (h.put _).go _ _) fun _ => h.stuck
 cases hl : Qz S.t.name S.env with
 | none => exact h.stuck
 | some v => exact h.give (A85 I.env hl).sv
theorem R7.frame (h : R7 S) (hv : S.v.ok) {f : CL} (hf : TZ L f) : R7 (S.frame f) := by
 have fv : f.kind = 2 \/ f.kind = 4 -> f.v.ok := fun k => by
  rcases hf.2 with h | h | h | h | h | h | h | h
  all_goals first | exact h.2 | omega
 unfold MS.frame;refine R7.Gf (fun _ => (h.push _).go _ _) fun _ => R7.Gf (fun _ => (h.push _).go _ _) fun _ => R7.Gf (fun k => h.give (B0a (fv (.inl k)).sv hv.sv)) fun _ => R7.Gf (fun k => R7.Gf (fun _ => h.give (B0a (fv (.inr k)).sv hv.sv)) fun _ => h.stuck) fun _ =>
  R7.Gf (fun _ => h.call _ hv) fun _ => R7.Gf (fun _ => h.go _ _) fun _ => R7.Gf (fun _ => R7.Gf (fun _ => h.go _ _) fun _ => h.stuck) fun _ => R7.Gf (fun _ => h.arms _ _ _) fun _ => R7.Gf (fun _ => ?_) fun _ => h.wrapped hv fun w hw => h.give hw.sv
 cases ho : oJ f.t f.v S.v with
 | stuck => exact h.stuck
 | div lo hi => exact h.at' _ _ _
 | ok v => exact h.give (B3Z ho).sv
theorem R7.read (h : R7 S) (ob : ∀ v ∈ S.out, v.c = F6 /\ v.kids = []) : R7 S.read := by
 unfold MS.read
 split
 ·exact h
 ·rename_i v rest _
  split
  ·split
   ·exact h.stuck
   ·exact h.X5 _ _
   ·exact ⟨h.v, h.r⟩
  split
  ·refine ⟨h.v, ?_⟩
   refine (A31 _ _ fun w hw => ?_).1
   rcases z17q.1 hw with hw | hw
   ·exact ob w hw
   ·rw [z29q.1 hw]; exact ⟨rfl, rfl⟩
  ·exact ⟨h.v, h.r⟩
theorem R7.next (h : R7 S) (I : MInv L S) : R7 S.next := by
 unfold MS.next
 split
 ·exact h.read I.ob
 split
 ·exact h.term I
 ·rename_i hr hh
  have hv := I.v (by simpa using hh)
  split
  ·rename_i f fs hf
   exact R7.frame (S := { S with frames := fs }) ⟨h.v, h.r⟩ hv (I.fr f (by rw [hf]; exact z5q ..))
  ·exact R7.read (S := { S with reads := true, todo := [S.v] }) ⟨h.v, h.r⟩ I.ob
theorem R7.step (h : R7 S) (I : AV L S) : R7 S.step.1 := by
 unfold MS.step
 split
 ·exact h
 ·rename_i hd
  split
  ·exact h.ends Rq
  ·exact R7.next (S := { S with steps := S.steps + 1 }) ⟨h.v, h.r⟩ (L := L) { I (by simpa using hd) with }
end
theorem R7.new (t : Tm) (fuel : Int) : R7 (MS.new t fuel) := by
 refine ⟨fun h => (by cases h), ?_⟩
 unfold MS.new;simp only
 split <;> exact Rq
end Go.Su

/-
 RUNS ON CLOSED DATA, by rewriting: what the data's operations make of data that are written out.
-/
namespace Go.Su
theorem B82 {α : Type} {c c' : Prop} [d : Decidable c] (h : c = c') (x y : α) : (if c then x else y) = @ite α c' (h ▸ d) x y := by subst h; rfl
theorem B5W (j : Nat) (cs : List DV) : A7 j (.agg cs) = cs.getD j .undef := rfl
theorem B2p (n : Nat) (cs : List DV) : D6 n (.agg cs) = (cs.length == n) := rfl
theorem B64 (a : Array UInt8) : (ByteArray.mk a).size = a.size := rfl
theorem B6A (a b : Array UInt8) : ((ByteArray.mk a) = ByteArray.mk b) = (a.toList = b.toList) := by
 apply propext; constructor
 ·intro h; cases h; rfl
 ·intro h; rw [Array.ext' h]
theorem B3O (a b : Array UInt8) : EK (.str ⟨a⟩) (.str ⟨b⟩) = decide (a.toList = b.toList) := by
 simp only [EK]; rw [gN]; congr 1; exact B6A a b
variable (k : IntKind)
theorem B3P (k' : IntKind) (a b : Int) : EK (.int k a) (.int k' b) = decide (a = b) := by simp only [EK]; rfl
variable (sz : Nat) (ds : List DV)
theorem B8w (es : List DV) : AQ sz (.list sz ds) (.list sz es) = if ds.length + es.length <= 4294967296 then some (.list sz (ds ++ es)) else none := by
 simp [AQ, lim]
theorem B8y (i : Nat) (cs : List DV) : J5 i (.H7 cs) = cs[i]? := rfl
theorem B9Y (m : Nat) : bnd m none = some m := rfl
theorem B9Z (m : Nat) (k : IntKind) (n : Int) : bnd m (some (.int k n)) = if 0 <= n then some n.toNat else none := rfl
theorem B44 (lo hi : Option DV) : Ak sz (.list sz ds) lo hi = ob (bnd ds.length hi) fun h => ob (bnd 0 lo) fun l => if l <= h /\ h <= ds.length then some (.list sz ((ds.take h).drop l)) else none := by
 simp [Ak]
variable (d : DV)
theorem B3w (lo : Option DV) (k k' : IntKind) (h m : Int) : A05 sz d lo (.int k h) (.int k' m) = if h = m then Ak sz d lo (some (.int k h)) else none := rfl
variable (ks : List LK)
theorem B3k (xs ys : List DV) : WA ks (.agg xs) (.agg ys) = Cm ks xs ys := rfl
theorem B3p : Cm [] [] [] = some true := rfl
theorem B3o (k : LK) (ks : List LK) (x y : DV) (xs ys : List DV) : Cm (k :: ks) (x :: xs) (y :: ys) = ob (xq k x y) fun b => bif b then Cm ks xs ys else some false := by
 simp only [Cm]
 congr 1; funext b; cases b <;> rfl
theorem B3n (a b : Int) : xq .int (.int k a) (.int k b) = some (decide (a = b)) := by simp only [xq, if_true]; rfl
theorem B8x (a b : Bool) : xq .bool (.bool a) (.bool b) = some (a == b) := rfl
theorem B67 (n : Int) : M5 .neg (.int k n) = some (.int k (k.wrap (0 - n))) := rfl
variable (k : DV)
theorem B85 : FQ [] k = none := rfl
theorem B84 (e : DV × DV) (es : List (DV × DV)) (k : DV) : FQ (e :: es) k = bif EK k e.1 then some e.2 else FQ es k := by
 simp only [FQ, z42q];cases EK k e.1 <;> rfl
theorem B87 (v : DV) : JJ [] k v = [(k, v)] := rfl
theorem B86 (e : DV × DV) (es : List (DV × DV)) (k v : DV) : JJ (e :: es) k v = bif EK k e.1 then (e.1, v) :: es else e :: JJ es k v := by
 simp only [JJ];cases EK k e.1 <;> rfl
variable (sg : List C9)
theorem B3Y (c : DV × Meta) : oneCell sg [c] = Z0 sg c := rfl
theorem B9B (d : DV) : Z0 sg (d, .val) = some d := rfl
theorem B9z (d : DV) : Z0 sg (d, .full) = some d := rfl
theorem B9A (d : DV) : Z0 sg (d, .own) = some d := rfl
theorem B9y (d : DV) (i sz off len : Nat) : Z0 sg (d, .arr i sz off len) = ob (DX sg i) fun a => og (a.1 == sz) (if off + len <= a.2.length then some (.list sz ((a.2.drop off).take len)) else none) := rfl
theorem B2E : B5Z (some d) = some d := rfl
variable (k : IntKind)
theorem C0T : F5 sz (.list sz ds) (.int k 0) = ds[0]? := by simp [F5]
theorem C0U : F5 sz (.list sz ds) (.int k 1) = ds[1]? := by simp [F5]
theorem C0V : F5 sz (.list sz ds) (.int k 2) = ds[2]? := by simp [F5]
theorem C0W : F5 sz (.list sz ds) (.int k 3) = ds[3]? := by simp [F5]
theorem C0X : F5 sz (.list sz ds) (.int k 4) = ds[4]? := by simp [F5]
theorem C0Y : F5 sz (.list sz ds) (.int k 5) = ds[5]? := by simp [F5]
theorem C0Z : F5 sz (.list sz ds) (.int k 6) = ds[6]? := by simp [F5]
theorem C00 : F5 sz (.list sz ds) (.int k 7) = ds[7]? := by simp [F5]
theorem C01 : F5 sz (.list sz ds) (.int k 8) = ds[8]? := by simp [F5]
theorem C02 : F5 sz (.list sz ds) (.int k 9) = ds[9]? := by simp [F5]
theorem B92 : F5 sz (.list sz ds) (.int k 10) = ds[10]? := by simp [F5]
theorem B93 : F5 sz (.list sz ds) (.int k 11) = ds[11]? := by simp [F5]
theorem B94 : F5 sz (.list sz ds) (.int k 12) = ds[12]? := by simp [F5]
theorem B95 : F5 sz (.list sz ds) (.int k 13) = ds[13]? := by simp [F5]
theorem B96 : F5 sz (.list sz ds) (.int k 14) = ds[14]? := by simp [F5]
theorem B97 : F5 sz (.list sz ds) (.int k 15) = ds[15]? := by simp [F5]
variable (a : Array UInt8)
theorem C03 (k : IntKind) : j6 (.str ⟨a⟩) (.int k 0) = (a.toList[0]?).map fun b => .int .u8 b.toNat := by simp [j6]
theorem C04 (k : IntKind) : j6 (.str ⟨a⟩) (.int k 1) = (a.toList[1]?).map fun b => .int .u8 b.toNat := by simp [j6]
theorem C05 (k : IntKind) : j6 (.str ⟨a⟩) (.int k 2) = (a.toList[2]?).map fun b => .int .u8 b.toNat := by simp [j6]
theorem C06 (k : IntKind) : j6 (.str ⟨a⟩) (.int k 3) = (a.toList[3]?).map fun b => .int .u8 b.toNat := by simp [j6]
theorem C07 (k : IntKind) : j6 (.str ⟨a⟩) (.int k 4) = (a.toList[4]?).map fun b => .int .u8 b.toNat := by simp [j6]
theorem C08 (k : IntKind) : j6 (.str ⟨a⟩) (.int k 5) = (a.toList[5]?).map fun b => .int .u8 b.toNat := by simp [j6]
theorem C09 (k : IntKind) : j6 (.str ⟨a⟩) (.int k 6) = (a.toList[6]?).map fun b => .int .u8 b.toNat := by simp [j6]
theorem C1a (k : IntKind) : j6 (.str ⟨a⟩) (.int k 7) = (a.toList[7]?).map fun b => .int .u8 b.toNat := by simp [j6]
end Go.Su

/-
 More rewriting rules for closed calls: none of them is by `rfl` alone (else the congruence rules fail and the lambdas are entered).
-/
namespace Go.Su
theorem B6n (off len : Nat) (k : IntKind) (n : Int) : AF off len (.int k n) = if 0 <= n /\ n < len then some (off + n.toNat) else none := by first | (simp only [AF]; done) | (simp only [AF]; rfl)
variable (sg : List C9) (i : Nat)
theorem B8c : E9 sg i = (match sg[i]? with | some (.box cs) => some cs | _ => none) := by first | (simp only [E9]; done) | (simp only [E9]; rfl)
theorem B8b : DX sg i = (match sg[i]? with | some (.arr sz ds) => some (sz, ds) | _ => none) := by first | (simp only [DX]; done) | (simp only [DX]; rfl)
theorem B8d : Ko sg i = (match sg[i]? with | some (.map ks es) => some (ks, es) | _ => none) := by first | (simp only [Ko]; done) | (simp only [Ko]; rfl)
theorem B8e : Fw sg i = (match sg[i]? with | some (.opn sz pre ds) => some (sz, pre, ds) | _ => none) := by first | (simp only [Fw]; done) | (simp only [Fw]; rfl)
theorem B8f (n : Nat) : AX sg i n = (match sg[i]? with | some (.M6 n' sz ds) => if n' = n then some (sz, ds) else none | _ => none) := by first | (simp only [AX]; done) | (simp only [AX]; rfl)
variable (cs : List (DV × Meta)) (o : Nat)
theorem B4C : H5 cs o = (match cs[o]? with | some (d, .val) => some d | some (d, .full) => some d | some (d, .own) => some d | some (d, .Ba) => some d | _ => none) := by first | (simp only [H5]; done) | (simp only [H5]; rfl)
theorem B4E : X9 cs o = (match cs[o]? with | some (d, .full) => some d | some (d, .own) => some d | _ => none) := by first | (simp only [X9]; done) | (simp only [X9]; rfl)
theorem B4D : SB cs o = (match cs[o]? with | some (_, .map i) => some i | _ => none) := by first | (simp only [SB]; done) | (simp only [SB]; rfl)
theorem B4F : lS cs o = (match cs[o]? with | some (_, .ptr i 0) => some i | _ => none) := by first | (simp only [lS]; done) | (simp only [lS]; rfl)
variable (sz : Nat)
theorem B4G : Jo cs o sz = (match cs[o]? with | some (_, .M6 i n sz' len) => if sz' = sz then some (i, n, len) else none | _ => none) := by first | (simp only [Jo]; done) | (simp only [Jo]; rfl)
theorem B8h (off : Nat) (cs : List (DV × Meta)) (sz : Nat) : CG sg i off cs sz = (match cs[off]? with
 | some (_, .M6 j n sz' len) => if sz' = sz then some (sg, j, n, len) else none
 | some (.list sz' [], .full) => if sz' = sz /\ 0 < sz then some (sg.set i (.box (cs.set off (.undef, .M6 sg.length 1 sz 0))) ++ [.M6 1 sz []], sg.length, 1, 0) else none
 | _ => none) := by first | (simp only [CG]; done) | (simp only [CG]; rfl)
theorem B9P (n : Nat) : VQ n = some (.int .i64 n) := by cases n <;> simp only [VQ] <;> rfl
theorem B4I (cs : List (DV × Meta)) : O8 o 0 cs = some [] := by first | (simp only [O8]; done) | (simp only [O8]; rfl)
theorem B4J (n : Nat) (cs : List (DV × Meta)) : O8 o (n + 1) cs = ob (H5 cs o) fun d => ob (O8 (o + 1) n cs) fun ds => some (d :: ds) := by first | (simp only [O8]; done) | (simp only [O8]; rfl)
theorem B0b : Y4 sg [] = some [] := by first | (simp only [Y4]; done) | (simp only [Y4]; rfl)
theorem B0c (c : DV × Meta) (cs : List (DV × Meta)) : Y4 sg (c :: cs) = ob (Z0 sg c) fun d => ob (Y4 sg cs) fun ds => some (d :: ds) := by first | (simp only [Y4]; done) | (simp only [Y4]; rfl)
theorem B4x : BL [] = some [] := by first | (simp only [BL]; done) | (simp only [BL]; rfl)
variable (d : DV)
theorem B4A (cs : List (DV × Meta)) : BL ((d, .val) :: cs) = ob (BL cs) fun ds => some (d :: ds) := by first | (simp only [BL]; done) | (simp only [BL]; rfl)
theorem B4y (cs : List (DV × Meta)) : BL ((d, .full) :: cs) = ob (BL cs) fun ds => some (d :: ds) := by first | (simp only [BL]; done) | (simp only [BL]; rfl)
theorem B4z (cs : List (DV × Meta)) : BL ((d, .own) :: cs) = ob (BL cs) fun ds => some (d :: ds) := by first | (simp only [BL]; done) | (simp only [BL]; rfl)
theorem B9O (sz' : Nat) (d : DV) : bB sz (.Hz sz' d) = if sz' = sz then some d else none := by first | (simp only [bB]; done) | (simp only [bB]; rfl)
variable (k : IntKind) (n : Int)
theorem B9N : PL (.int k n) = some n.toNat := by first | (simp only [PL]; done) | (simp only [PL]; rfl)
theorem B9L (k' : IntKind) (a b : Int) : UF (.int k a) (.int k' b) = if k = k' then some (.int k (if b > a then b else a)) else none := by first | (simp only [UF]; done) | (simp only [UF]; rfl)
theorem B9M (k' : IntKind) (a b : Int) : YU (.int k a) (.int k' b) = if k = k' then some (.int k (if b < a then b else a)) else none := by first | (simp only [YU]; done) | (simp only [YU]; rfl)
variable (s : ByteArray)
theorem B74 : CF (.str s) = some (.int .i64 s.size) := by first | (simp only [CF]; done) | (simp only [CF]; rfl)
theorem B73 (k' : IntKind) (n : Int) : B1X k (.int k' n) = some (.int k (k.wrap n)) := by first | (simp only [B1X]; done) | (simp only [B1X]; rfl)
variable (a : Nat)
theorem B4H (b c : List DV) (idx : Nat) (e : DV) : Lf (a, b, c) idx e = if b.length <= idx /\ idx - b.length < c.length then some (.opn a b (c.set (idx - b.length) e)) else none := by first | (simp only [Lf]; done) | (simp only [Lf]; rfl)
theorem B4K (off : Nat) (cs : List DV) (xs : List (DV × Meta)) : IZ sz off (.agg cs) xs = if xs.all (fun c => J6 c.2 && M4 c.1) = true /\ cs.length = sz /\ off + xs.length <= sz then some (.agg (putAt cs off (xs.map (·.1)))) else none := by first | (simp only [IZ]; done) | (simp only [IZ]; rfl)
theorem B7X : H6 (.int k n) = true := by first | (simp only [H6]; done) | (simp only [H6]; rfl)
variable (b : Bool)
theorem B7W : H6 (.bool b) = true := by first | (simp only [H6]; done) | (simp only [H6]; rfl)
theorem B71 : H6 (.str s) = true := by first | (simp only [H6]; done) | (simp only [H6]; rfl)
variable (n : Nat) (l : List DV)
theorem B7Y : H6 (.list n l) = true := by first | (simp only [H6]; done) | (simp only [H6]; rfl)
theorem B7Z : H6 .B_ = true := by first | (simp only [H6]; done) | (simp only [H6]; rfl)
theorem B70 (d : DV) : H6 (.Hz n d) = true := by first | (simp only [H6]; done) | (simp only [H6]; rfl)
theorem B76 (n : Int) : M4 (.int k n) = true := by first | (simp only [M4]; done) | (simp only [M4]; rfl)
theorem B75 : M4 (.bool b) = true := by first | (simp only [M4]; done) | (simp only [M4]; rfl)
theorem B8a : M4 (.str s) = true := by first | (simp only [M4]; done) | (simp only [M4]; rfl)
theorem B77 : M4 (.list n l) = true := by first | (simp only [M4]; done) | (simp only [M4]; rfl)
theorem B78 : M4 .B_ = true := by first | (simp only [M4]; done) | (simp only [M4]; rfl)
theorem B79 (d : DV) : M4 (.Hz n d) = true := by first | (simp only [M4]; done) | (simp only [M4]; rfl)
theorem B72 (b : Nat) (ds es : List DV) : Kb sz (.list a ds) (.list b es) = if (a = sz /\ b = sz) /\ ds.length + es.length <= lim /\ 0 < es.length then some (ds, es) else none := by first | (simp only [Kb]; done) | (simp only [Kb]; rfl)
theorem B9K (a b : Bool) : UE (.bool a) (.bool b) = some (a == b) := by first | (simp only [UE]; done) | (simp only [UE]; rfl)
theorem B2W (b c : List DV) (sz len : Nat) : Hr (a, b, c) sz len = if a = sz /\ b.length + c.length = len /\ 0 < len then some (.list sz (b ++ c)) else none := by first | (simp only [Hr]; done) | (simp only [Hr]; rfl)
theorem B4B : OP cs o = (match cs[o]? with | some (_, .arr i sz 0 len) => some (i, sz, len) | _ => none) := by first | (simp only [OP]; done) | (simp only [OP]; rfl)
theorem B6o : OQ (d, .Ba) (d, .Ba) = some true := by simp only [OQ, YJ]
theorem B6p : OQ (.B_, .val) (.B_, .Ba) = some true := by simp only [OQ, YJ]
theorem B6q (d : DV) : OQ (.Hz n d, .val) (.B_, .Ba) = some false := by simp only [OQ, YJ]
theorem B6r (e : DV) (i : Nat) : OQ (e, .ptr i 0) (.B_, .Ba) = some false := by simp only [OQ, YJ]
theorem B8g {α : Type} (l : List α) : l.take 0 = [] := by simp
end Go.Su

/-
 The settings of the data machine for this seat: by program.
-/
namespace Go.Su
noncomputable section
open Go.Proofs
def spread {α : Type} (d : α) : Nat -> Nat -> List (Nat × α) -> List α
 | 0, _, _ => []
 | n + 1, i, [] => d :: spread d n (i + 1) []
 | n + 1, i, (j, x) :: l => match Nat.beq i j with
   | true => x :: spread d n (i + 1) l
   | false => d :: spread d n (i + 1) ((j, x) :: l)
def bxs (d : DV) : Nat -> Nat -> List (DV × Meta)
 | _, 0 => []
 | i, n + 1 => (A7 i d, .val) :: bxs d (i + 1) n
def mst (n : Nat) (a : List (Nat × DV)) (b : List (Nat × Meta)) (c : List (Nat × Option (List (DV × Meta)))) (g : List C9) : St := ⟨spread .undef n 0 a, spread .val n 0 b, spread none n 0 c, g⟩
abbrev sF : Option DV := some (.bool false)
abbrev sT : Option DV := some (.bool true)
abbrev P9 (l : List DV) : List DV := (.int .i64 0)::(.int .i64 0)::(.str ⟨#[]⟩)::(.int .i64 0)::(.int .i64 0)::(.int .i64 0)::(.bool false)::(.list 5 [])::(.list 9 [])::l
abbrev Mh (l : List DV) : List DV := (.int .i64 0)::(.int .i64 0)::(.str ⟨#[]⟩)::(.str ⟨#[]⟩)::(.int .i64 0)::(.str ⟨#[]⟩)::(.int .i64 0)::(.int .i64 0)::(.bool false)::(.list 1 [])::(.int .i64 0)::(.int .i64 0)::(.list 3 [])::(.int .i64 0)::(.int .i64 0)::(.list 3 [])::(.list 3 [])::(.list 7 [])::(.list 20 [])::l
abbrev TD (l : List (DV × Meta)) : List (DV × Meta) := (.int .i64 0, .val)::(.int .i64 0, .val)::(.str ⟨#[]⟩, .val)::(.int .i64 0, .val)::(.int .i64 0, .val)::(.int .i64 0, .val)::(.bool false, .val)::(.list 5 [], .full)::(.list 9 [], .full)::l
abbrev Ab (l : List DV) : List DV := (.int .i64 0)::(.int .i64 0)::(.int .i64 0)::(.bool false)::(.list 5 [])::l
abbrev zz4 (l : List (DV × Meta)) : List (DV × Meta) := (.int .i64 0, .val)::(.int .i64 0, .val)::(.int .i64 0, .val)::(.str ⟨#[]⟩, .val)::(.str ⟨#[]⟩, .val)::(.int .i64 0, .val)::(.str ⟨#[]⟩, .val)::(.int .i64 0, .val)::(.int .i64 0, .val)::(.bool false, .val)::(.list 1 [], .full)::(.int .i64 0, .val)::(.int .i64 0, .val)::(.list 3 [], .full)::(.int .i64 0, .val)::(.int .i64 0, .val)::(.list 3 [], .full)::(.list 3 [], .full)::(.list 7 [], .full)::(.list 20 [], .full)::l
abbrev Bz (l : List DV) : List DV := (.int .i64 0)::(.bool false)::(.int .i64 0)::(.int .i64 0)::(.int .i64 0)::l
abbrev ET (l : List DV) : List DV := (.bool false)::(.bool false)::(.bool false)::(.bool false)::l
abbrev wT (l : List DV) : List DV := (.int .i64 0)::(.bool false)::(.list 1 [])::(.int .i64 0)::(.int .i64 0)::(.list 3 [])::(.int .i64 0)::(.int .i64 0)::(.list 3 [])::(.list 3 [])::(.list 7 [])::l
abbrev zz8 (l : List (DV × Meta)) : List (DV × Meta) := (.int .i64 0, .val)::(.bool false, .val)::(.int .i64 0, .val)::(.int .i64 0, .val)::(.int .i64 0, .val)::(.bool false, .val)::l
abbrev zz9 (l : List DV) : List DV := (.int .i64 0)::(.int .i64 0)::(.str ⟨#[]⟩)::(.str ⟨#[]⟩)::(.int .i64 0)::(.str ⟨#[]⟩)::l
abbrev A0W (l : List (DV × Meta)) : List (DV × Meta) := (.int .i64 0, .val)::(.bool false, .val)::(.int .i64 0, .val)::l
abbrev Pd (l : List DV) : List DV := (.int .i64 0)::(.int .i64 0)::(.bool false)::l
abbrev A6q (l : List (DV × Meta)) : List (DV × Meta) := (.bool false, .val)::(.list 57 [], .full)::(.list 24 [], .full)::l
abbrev Pe (l : List DV) : List DV := (.int .i64 0)::(.int .i64 0)::(.list 3 [])::l
abbrev B6w (l : List (DV × Meta)) : List (DV × Meta) := (.list 36 [], .full)::(.list 23 [], .full)::(.bool false, .val)::(.list 9 [], .full)::(.list 9 [], .full)::l
abbrev B0h (l : List DV) : List DV := (.list 3 [])::(.list 7 [])::(.list 20 [])::l
abbrev V3 (b : DV) (l : List DV) : List DV := A7 0 b::A7 1 b::A7 2 b::A7 3 b::A7 4 b::A7 5 b::A7 6 b::A7 7 b::A7 8 b::l
abbrev B9k (b : DV) (l : List DV) : List DV := A7 0 b::A7 1 b::A7 2 b::A7 3 b::A7 4 b::A7 5 b::A7 6 b::A7 7 b::A7 8 b::A7 9 b::A7 10 b::A7 11 b::A7 12 b::A7 13 b::l
abbrev A9k (b : DV) (l : List DV) : List DV := A7 0 b::A7 1 b::A7 2 b::A7 3 b::A7 4 b::A7 5 b::A7 6 b::A7 7 b::A7 8 b::A7 9 b::A7 10 b::A7 11 b::A7 12 b::A7 13 b::A7 14 b::l
abbrev Y9 (b : DV) (l : List DV) : List DV := A7 0 b::A7 1 b::A7 2 b::A7 3 b::A7 4 b::A7 5 b::A7 6 b::A7 7 b::A7 8 b::A7 9 b::A7 10 b::A7 11 b::A7 12 b::A7 13 b::A7 14 b::A7 15 b::A7 16 b::A7 17 b::A7 18 b::A7 19 b::l
abbrev B36 (b : DV) (l : List DV) : List DV := A7 0 b::A7 1 b::A7 2 b::A7 3 b::A7 4 b::A7 5 b::A7 6 b::A7 7 b::A7 8 b::A7 9 b::A7 10 b::A7 11 b::A7 12 b::A7 13 b::A7 14 b::A7 15 b::A7 16 b::A7 17 b::A7 18 b::A7 19 b::A7 20 b::A7 21 b::A7 22 b::l
abbrev B37 (b : DV) (l : List DV) : List DV := A7 0 b::A7 1 b::A7 2 b::A7 3 b::A7 4 b::A7 5 b::A7 6 b::A7 7 b::A7 8 b::A7 9 b::A7 10 b::A7 11 b::A7 12 b::A7 13 b::A7 14 b::A7 15 b::A7 16 b::A7 17 b::A7 18 b::A7 19 b::A7 20 b::A7 21 b::A7 22 b::A7 23 b::l
abbrev B38 (b : DV) (l : List DV) : List DV := A7 0 b::A7 1 b::A7 2 b::A7 3 b::A7 4 b::A7 5 b::A7 6 b::A7 7 b::A7 8 b::A7 9 b::A7 10 b::A7 11 b::A7 12 b::A7 13 b::A7 14 b::A7 15 b::A7 16 b::A7 17 b::A7 18 b::A7 19 b::A7 20 b::A7 21 b::A7 22 b::A7 23 b::A7 24 b::A7 25 b::A7 26 b::A7 27 b::A7 28 b::A7 29 b::A7 30 b::A7 31 b::A7 32 b::A7 33 b::A7 34 b::A7 35 b::l
abbrev YI (b : DV) (l : List DV) : List DV := A7 0 b::A7 1 b::A7 2 b::A7 3 b::A7 4 b::A7 5 b::A7 6 b::A7 7 b::A7 8 b::A7 9 b::A7 10 b::A7 11 b::A7 12 b::A7 13 b::A7 14 b::A7 15 b::A7 16 b::A7 17 b::A7 18 b::A7 19 b::A7 20 b::A7 21 b::A7 22 b::A7 23 b::A7 24 b::A7 25 b::A7 26 b::A7 27 b::A7 28 b::A7 29 b::A7 30 b::A7 31 b::A7 32 b::A7 33 b::A7 34 b::A7 35 b::A7 36 b::A7 37 b::A7 38 b::A7 39 b::A7 40 b::A7 41 b::A7 42 b::A7 43 b::A7 44 b::A7 45 b::A7 46 b::A7 47 b::A7 48 b::A7 49 b::A7 50 b::A7 51 b::A7 52 b::A7 53 b::A7 54 b::A7 55 b::A7 56 b::l
abbrev aB (b : DV) (l : List DV) : List DV := A7 1 b::A7 2 b::A7 3 b::A7 4 b::A7 5 b::A7 6 b::A7 7 b::A7 8 b::A7 9 b::l
abbrev JA (b : DV) (l : List DV) : List DV := A7 1 b::A7 2 b::A7 3 b::A7 4 b::A7 5 b::A7 6 b::A7 7 b::A7 8 b::A7 9 b::A7 10 b::A7 11 b::A7 12 b::A7 13 b::A7 14 b::A7 15 b::A7 16 b::A7 17 b::A7 18 b::A7 19 b::A7 20 b::l
abbrev B9l (b : DV) (l : List DV) : List DV := A7 1 b::A7 2 b::A7 3 b::A7 4 b::A7 5 b::A7 6 b::A7 7 b::A7 8 b::A7 9 b::A7 10 b::A7 11 b::A7 12 b::A7 13 b::A7 14 b::A7 15 b::A7 16 b::A7 17 b::A7 18 b::A7 19 b::A7 20 b::A7 21 b::A7 22 b::A7 23 b::A7 24 b::A7 25 b::A7 26 b::A7 27 b::A7 28 b::A7 29 b::A7 30 b::A7 31 b::A7 32 b::A7 33 b::A7 34 b::A7 35 b::A7 36 b::A7 37 b::A7 38 b::A7 39 b::A7 40 b::l
abbrev B39 (b : DV) (l : List DV) : List DV := A7 2 b::A7 3 b::A7 4 b::A7 5 b::A7 6 b::A7 7 b::A7 8 b::A7 9 b::A7 10 b::A7 11 b::A7 12 b::A7 13 b::A7 14 b::A7 15 b::A7 16 b::A7 17 b::A7 18 b::A7 19 b::A7 20 b::A7 21 b::l
abbrev B4a (b : DV) (l : List DV) : List DV := A7 3 b::A7 4 b::A7 5 b::A7 6 b::A7 7 b::A7 8 b::A7 9 b::A7 10 b::A7 11 b::A7 12 b::A7 13 b::A7 14 b::A7 15 b::A7 16 b::A7 17 b::A7 18 b::A7 19 b::A7 20 b::A7 21 b::A7 22 b::l
abbrev B1t (b : DV) (l : List DV) : List DV := A7 21 b::A7 22 b::A7 23 b::A7 24 b::A7 25 b::A7 26 b::A7 27 b::A7 28 b::A7 29 b::A7 30 b::A7 31 b::A7 32 b::A7 33 b::A7 34 b::A7 35 b::A7 36 b::A7 37 b::A7 38 b::A7 39 b::A7 40 b::l
abbrev A0u (b : DV) (l : List DV) : List DV := A7 22 b::A7 23 b::A7 24 b::A7 25 b::A7 26 b::A7 27 b::A7 28 b::A7 29 b::A7 30 b::l
abbrev A0v (b : DV) (l : List DV) : List DV := A7 31 b::A7 32 b::A7 33 b::A7 34 b::A7 35 b::l
abbrev A0w (b : DV) (l : List DV) : List DV := A7 43 b::A7 44 b::A7 45 b::A7 46 b::A7 47 b::A7 48 b::A7 49 b::A7 50 b::A7 51 b::l
abbrev oN (b : DV) (l : List DV) : List DV := A7 52 b::A7 53 b::A7 54 b::A7 55 b::A7 56 b::l
abbrev X3 (b : DV) (l : List (DV × Meta)) : List (DV × Meta) := (A7 0 b, .val)::(A7 1 b, .val)::(A7 2 b, .val)::(A7 3 b, .val)::(A7 4 b, .val)::(A7 5 b, .val)::(A7 6 b, .val)::(A7 7 b, .val)::(A7 8 b, .val)::l
abbrev B1u (b : DV) (l : List (DV × Meta)) : List (DV × Meta) := (A7 0 b, .val)::(A7 1 b, .val)::(A7 2 b, .val)::(A7 3 b, .val)::(A7 4 b, .val)::(A7 5 b, .val)::(A7 6 b, .val)::(A7 7 b, .val)::(A7 8 b, .val)::(A7 9 b, .val)::(A7 10 b, .val)::(A7 11 b, .val)::(A7 12 b, .val)::(A7 13 b, .val)::l
abbrev oO (b : DV) (l : List (DV × Meta)) : List (DV × Meta) := (A7 0 b, .val)::(A7 1 b, .val)::(A7 2 b, .val)::(A7 3 b, .val)::(A7 4 b, .val)::(A7 5 b, .val)::(A7 6 b, .val)::(A7 7 b, .val)::(A7 8 b, .val)::(A7 9 b, .val)::(A7 10 b, .val)::(A7 11 b, .val)::(A7 12 b, .val)::(A7 13 b, .val)::(A7 14 b, .val)::l
abbrev V6 (b : DV) (l : List (DV × Meta)) : List (DV × Meta) := (A7 0 b, .val)::(A7 1 b, .val)::(A7 2 b, .val)::(A7 3 b, .val)::(A7 4 b, .val)::(A7 5 b, .val)::(A7 6 b, .val)::(A7 7 b, .val)::(A7 8 b, .val)::(A7 9 b, .val)::(A7 10 b, .val)::(A7 11 b, .val)::(A7 12 b, .val)::(A7 13 b, .val)::(A7 14 b, .val)::(A7 15 b, .val)::(A7 16 b, .val)::(A7 17 b, .val)::(A7 18 b, .val)::(A7 19 b, .val)::l
abbrev fP : FuncId := 3
abbrev jP : FuncId := 5
abbrev Vs : FuncId := 6
abbrev TG : FuncId := 7
abbrev fU : FuncId := 8
abbrev jQ : FuncId := 9
abbrev Bn : FuncId := 10
abbrev Ml : FuncId := 11
abbrev Nn : FuncId := 12
abbrev De : FuncId := 13
abbrev He : FuncId := 14
abbrev jR : FuncId := 15
abbrev XF : FuncId := 16
abbrev XB : FuncId := 24
abbrev jX : FuncId := 25
abbrev Vr : FuncId := 26
abbrev aT : FuncId := 27
abbrev Y1 : FuncId := 28
abbrev TH : FuncId := 29
abbrev CZ : FuncId := 30
abbrev HZ : FuncId := 31
abbrev W_ : FuncId := 32
abbrev FY : FuncId := 33
abbrev Pf : FuncId := 34
abbrev KR : FuncId := 35
abbrev TW : FuncId := 36
abbrev IG : FuncId := 37
abbrev Lj : FuncId := 38
abbrev KS : FuncId := 39
abbrev TL : FuncId := 40
abbrev aQ : FuncId := 41
abbrev jU : FuncId := 42
abbrev Zi : FuncId := 43
abbrev fQ : FuncId := 44
abbrev pG : FuncId := 45
abbrev wW : FuncId := 46
abbrev Pg : FuncId := 57
abbrev Nl : FuncId := 58
abbrev Lr : FuncId := 59
abbrev KU : FuncId := 60
abbrev Nr : FuncId := 61
abbrev TP : FuncId := 62
abbrev Ha : FuncId := 63
abbrev Lm : FuncId := 66
abbrev BA : FuncId := 67
abbrev Bc : FuncId := 68
abbrev fV : FuncId := 69
abbrev O6 : FuncId := 70
abbrev Ph : FuncId := 71
abbrev Y5 : FuncId := 72
abbrev Dx : FuncId := 73
abbrev R6 : FuncId := 74
abbrev O0 : FuncId := 75
abbrev Dy : FuncId := 76
abbrev aU : FuncId := 77
abbrev Ib : FuncId := 78
abbrev Cs : FuncId := 79
abbrev Li : FuncId := 80
abbrev Hd : FuncId := 81
abbrev Vo : FuncId := 82
abbrev KT : FuncId := 83
abbrev Eb : FuncId := 84
abbrev XH : FuncId := 85
abbrev Y2 : FuncId := 86
abbrev Pj : FuncId := 87
abbrev Cy : FuncId := 88
abbrev Rw : FuncId := 89
abbrev DU : FuncId := 90
abbrev aR : FuncId := 91
abbrev Nq : FuncId := 92
abbrev GQ : FuncId := 93
abbrev wX : FuncId := 94
abbrev jV : FuncId := 95
abbrev Ie : FuncId := 96
abbrev Lp : FuncId := 97
abbrev Cx : FuncId := 98
abbrev XE : FuncId := 99
abbrev Zh : FuncId := 100
abbrev Et : FuncId := 101
abbrev Ze : FuncId := 102
abbrev TI : FuncId := 103
abbrev pQ : FuncId := 104
abbrev Zc : FuncId := 105
abbrev Du : FuncId := 106
abbrev Vp : FuncId := 107
abbrev Ic : FuncId := 108
abbrev wV : FuncId := 109
abbrev jO : FuncId := 132
abbrev ZY : FuncId := 133
abbrev FZ : FuncId := 134
abbrev pR : FuncId := 135
abbrev TY : FuncId := 137
abbrev Mm : FuncId := 138
abbrev Eu : FuncId := 139
abbrev YL : FuncId := 140
abbrev C_ : FuncId := 141
abbrev Wz : FuncId := 142
abbrev Mj : FuncId := 143
abbrev pV : FuncId := 144
abbrev TM : FuncId := 145
abbrev Zj : FuncId := 146
abbrev Dv : FuncId := 147
abbrev Zg : FuncId := 148
abbrev Mk : FuncId := 149
abbrev aS : FuncId := 150
abbrev jW : FuncId := 151
abbrev A3s : FuncId := 152
abbrev Pm : FuncId := 153
abbrev Kw : FuncId := 154
abbrev pM : FuncId := 155
abbrev pO : FuncId := 156
abbrev Zd : FuncId := 157
abbrev GN : FuncId := 158
abbrev Vq : FuncId := 159
abbrev pK : FuncId := 160
abbrev Jf : FuncId := 161
abbrev YO : FuncId := 162
abbrev TJ : FuncId := 163
abbrev Np : FuncId := 164
abbrev fT : FuncId := 165
abbrev jT : FuncId := 166
abbrev Pi : FuncId := 167
abbrev pI : FuncId := 168
abbrev wU : FuncId := 169
abbrev Zk : FuncId := 181
abbrev QX : FuncId := 182
abbrev jN : FuncId := 184
abbrev Zb : FuncId := 185
abbrev pJ : FuncId := 186
abbrev Ns : FuncId := 187
abbrev TN : FuncId := 188
abbrev TQ : FuncId := 189
abbrev Cz : FuncId := 190
abbrev jc : FuncId := 191
abbrev aV : FuncId := 192
abbrev XI : FuncId := 193
abbrev Nk : FuncId := 194
abbrev TS : FuncId := 195
abbrev Cw : FuncId := 196
abbrev Dt : FuncId := 197
abbrev FF : FuncId := 198
abbrev Zf : FuncId := 199
abbrev XG : FuncId := 200
abbrev Pk : FuncId := 201
abbrev GR : FuncId := 202
abbrev Za : FuncId := 203
abbrev XD : FuncId := 204
abbrev XC : FuncId := 205
abbrev jS : FuncId := 206
abbrev XA : FuncId := 215
abbrev ZZ : FuncId := 216
abbrev XJ : FuncId := 217
abbrev jY : FuncId := 218
abbrev TU : FuncId := 219
abbrev pW : FuncId := 220
abbrev jZ : FuncId := 221
abbrev TV : FuncId := 222
abbrev CK : FuncId := 223
abbrev TF : FuncId := 224
abbrev YN : FuncId := 225
abbrev TK : FuncId := 226
abbrev QY : FuncId := 227
abbrev A3r : FuncId := 246
abbrev pX : FuncId := 247
abbrev aW : FuncId := 248
abbrev YP : FuncId := 250
abbrev QZ : FuncId := 251
abbrev TE : FuncId := 252
abbrev QW : FuncId := 253
abbrev DT : FuncId := 254
abbrev Kv : FuncId := 255
abbrev fO : FuncId := 256
abbrev YM : FuncId := 270
def Ei : Flags := { keep := [(5, [1, 2], [2], [], [1, 2]), (11, [1, 2, 5, 6, 7], [2], [], [1, 2, 5, 6, 7]), (19, [1, 2, 5, 6], [2], [], [1, 2, 5, 6]), (21, [6, 9, 10, 11], [9, 10], [], [6, 9, 10, 11])] }
def dC : Flags := { keep := [(3, [0, 3, 4], [], [], [0, 3, 4])] }
def U_ : Flags := { keep := [(4, [5], [], [], [5])] }
def A2S : Flags := { shared := [10] }
def fF : Ag := { params := [.val, .val], results := [.ptr] }
def A5c : Flags := { shared := [11] }
def kQ : Ag := { params := [.val, .val], results := [.ptr] }
def Hy : Flags := { P7 := [7, 8, 64, 84, 99], keep := [(4, [0, 1], [], [], [0, 1]), (7, [0, 1, 7, 8, 9], [], [7, 8], [0, 1, 9]), (12, [0, 1, 7, 8], [], [], [0, 1, 7, 8]), (16, [0, 1, 8, 10, 11], [], [], [0, 1, 8, 10, 11]), (22, [1, 12, 13, 14], [12], [], [1, 12, 13, 14])] }
def ES : Ag := { params := [.val, .val], results := [.val] }
def Us : Flags := { DR := [33, 59], B20 := [65, 69, 78, 82] }
def KG : Ag := { params := [.val], results := [.val] }
def vQ : Flags := {}
def Wv : Ag := { params := [.val], results := [.val] }
def jm : Flags := { keep := [(2, [4, 5], [4], [], [4, 5])] }
def QJ : Flags := {}
def IR : Ag := { params := [.val], results := [.val, .val] }
def ZN : Flags := {}
def dD : Flags := { keep := [(8, [2, 3, 4, 5], [2, 3, 4], [], [2, 3, 4, 5])] }
def dK : Flags := { keep := [(4, [1, 3], [1], [], [1, 3])] }
def NI : Flags := { keep := [(5, [1, 2, 5], [2], [], [1, 2, 5]), (11, [1, 2, 6], [2], [], [1, 2, 6]), (15, [1, 2, 7], [2], [], [1, 2, 7])] }
def zz : Flags := {}
def iX : Flags := {}
def vV : Flags := {}
def Ut : Flags := {}
def KH : Ag := { params := [.val, .val], results := [] }
def Qv : Flags := { keep := [(5, [1, 2, 26, 27, 28], [1, 2], [], [1, 2, 26, 27, 28]), (10, [1, 2, 41, 42, 43], [1, 2], [], [1, 2, 41, 42, 43])] }
def zx : Flags := {}
def Yq : Ag := { params := [.val, .val], results := [] }
def Ga : Flags := { P7 := [2, 3, 18, 24], DR := [9], keep := [(3, [3, 9, 10, 11], [], [3], [9, 10, 11])] }
def DY : Ag := { params := [.val], results := [.val] }
def cu : Flags := { keep := [(4, [0, 1, 5], [], [], [0, 1, 5])] }
def JF : Flags := { P7 := [2, 3, 15, 21], DR := [9], keep := [(3, [3, 9, 10, 11], [], [3], [9, 10, 11])] }
def Ea : Ag := { params := [.val], results := [.val] }
def zk : Flags := {}
def Sg : Flags := {}
def JM : Ag := { params := [.val], results := [.val, .val] }
def A28 : Flags := {}
def Ce : Flags := { P7 := [104], opn := [108, 109], DR := [14, 20, 28, 79, 84, 115], B2F := [(17, 111)], keep := [(4, [0, 3], [3], [], [0, 3]), (8, [0, 3], [3], [], [0, 3]), (14, [0, 3], [3], [], [0, 3]), (17, [0, 8], [8], [], [0, 8])] }
def BG : Ag := { params := [.val], results := [] }
def EE : Flags := { refs := [(22, 11), (26, 11), (34, 11)], keep := [(4, [0, 2, 3], [2], [], [0, 2, 3]), (13, [0, 2], [2], [], [0, 2]), (30, [0, 2, 12], [2], [], [0, 2, 12])] }
def CE : Ag := { params := [.val], results := [] }
def Fs : Flags := { keep := [(15, [0, 3], [3], [], [0, 3]), (20, [0, 3, 9], [3], [], [0, 3, 9])] }
def DK : Ag := { params := [.val, .val], results := [] }
def LJ : Flags := { P7 := [52], opn := [56, 57], B2F := [(9, 59)], keep := [(6, [0, 2, 3], [2], [], [0, 2, 3]), (9, [0, 2, 3, 4], [2, 4], [], [0, 2, 3, 4]), (18, [0], [], [], [0])] }
def HV : Ag := { params := [.val], results := [] }
def IX : Flags := { P7 := [73, 115, 188], keep := [(13, [0, 3, 4], [3, 4], [], [0, 3, 4]), (17, [0, 3, 4], [3, 4], [], [0, 3, 4]), (20, [0, 5], [5], [], [0, 5]), (26, [0, 3, 4, 53], [3, 4], [], [0, 3, 4, 53])] }
def Ep : Ag := { params := [.val], results := [] }
def Jt : Flags := { keep := [(8, [0, 2, 3], [2], [], [0, 2, 3]), (10, [0, 3], [], [], [0, 3]), (17, [0, 2], [2], [], [0, 2]), (31, [0, 2, 10], [2], [], [0, 2, 10])] }
def GD : Ag := { params := [.val], results := [] }
def kD : Flags := { keep := [(4, [2, 3, 5], [2, 3], [], [2, 3, 5])] }
def A5b : Flags := {}
def A2R : Flags := {}
def Uz : Flags := { keep := [(5, [1, 5], [1], [], [1, 5]), (10, [1, 6], [1], [], [1, 6]), (15, [1, 7], [1], [], [1, 7])] }
def zm : Flags := {}
def Ur : Flags := { keep := [(5, [1, 2, 5], [2], [], [1, 2, 5])] }
def Rk : Flags := { keep := [(3, [1, 2, 5], [2], [], [1, 2, 5])] }
def Ja : Flags := { keep := [(3, [1, 2, 5], [2], [], [1, 2, 5]), (7, [1, 2, 6], [2], [], [1, 2, 6])] }
def VA : Flags := { keep := [(3, [1, 2, 5], [2], [], [1, 2, 5])] }
def Yh : Flags := { keep := [(4, [9, 10, 11], [], [], [9, 10, 11])] }
def PW : Flags := { keep := [(3, [1, 2, 10, 11, 12], [1, 2], [], [1, 2, 10, 11, 12])] }
def Rh : Flags := { keep := [(3, [1, 2, 10, 11, 12], [1, 2], [], [1, 2, 10, 11, 12])] }
def Z6 : Flags := { keep := [(4, [1, 2, 15, 16, 17], [], [], [1, 2, 15, 16, 17])] }
def U0 : Ag := { params := [.val, .val, .val], results := [.val] }
def w9 : Flags := { keep := [(4, [1, 2, 15, 16, 17], [], [], [1, 2, 15, 16, 17])] }
def V8 : Ag := { params := [.val, .val, .val], results := [.val] }
def Ki : Flags := { keep := [(2, [2, 3, 4], [2, 3, 4], [], [2, 3, 4]), (3, [1, 2, 3, 4], [1, 2, 3, 4], [], [1, 2, 3, 4]), (9, [2, 3, 4, 6, 7, 59], [2, 3, 4, 6, 7], [], [2, 3, 4, 6, 7, 59])] }
def Sk : Flags := {}
def JP : Ag := { params := [.val], results := [] }
def dF : Flags := { keep := [(4, [0, 2, 4], [2, 4], [], [0, 2, 4])] }
def Si : Flags := {}
def JN : Ag := { params := [.val, .val], results := [] }
def Sj : Flags := { P7 := [9] }
def JO : Ag := { params := [.val, .val], results := [.val] }
def Uv : Flags := { DR := [8, 11] }
def KJ : Ag := { params := [.val, .val], results := [] }
def Uu : Flags := {}
def KI : Ag := { params := [.val, .val, .val], results := [] }
def dE : Flags := { Wp := [11] }
def vY : Flags := {}
def Vj : Flags := { DR := [13, 22, 38, 49, 67] }
def Kq : Ag := { params := [.val, .val], results := [] }
def Uw : Flags := {}
def KL : Ag := { params := [.val, .val, .val, .val], results := [] }
def Gb : Flags := { keep := [(13, [0, 3, 4], [3, 4], [], [0, 3, 4]), (17, [0, 4, 7, 8], [4, 7], [], [0, 4, 7, 8])] }
def Dn : Ag := { params := [.val, .val], results := [] }
def vM : Flags := {}
def MW : Flags := { keep := [(5, [3, 4, 5, 6, 7, 8, 9], [3, 4, 5, 6, 7, 8], [], [3, 4, 5, 6, 7, 8, 9]), (14, [3, 4, 5, 6, 7, 10, 39], [3, 4, 5, 6, 7, 10], [], [3, 4, 5, 6, 7, 10, 39])] }
def Fu : Flags := { keep := [(2, [0, 3, 15, 16, 17], [3], [], [0, 3, 15, 16, 17]), (12, [0, 3, 4, 10, 49, 50, 51], [3], [], [0, 3, 4, 10, 49, 50, 51])] }
def DL : Ag := { params := [.val, .val], results := [] }
def Ux : Flags := {}
def KM : Ag := { params := [.val, .val, .val], results := [.val, .val] }
def dO : Flags := { keep := [(9, [1, 2, 3, 4, 6, 7, 8], [1, 2, 3, 4, 6, 7, 8], [], [1, 2, 3, 4, 6, 7, 8])] }
def oC : Flags := {}
def VM : Ag := { params := [.val], results := [] }
def dL : Flags := { keep := [(4, [2, 4, 5], [2, 4], [], [2, 4, 5])] }
def vT : Flags := {}
def Wx : Ag := { params := [.val, .val, .val], results := [] }
def OZ : Flags := { keep := [(17, [1, 3], [1], [], [1, 3]), (19, [1], [1], [], [1]), (21, [1], [1], [], [1]), (23, [1], [1], [], [1])] }
def oD : Flags := {}
def VN : Ag := { params := [.val, .val], results := [] }
def LH : Flags := { keep := [(3, [0, 4, 5], [4, 5], [], [0, 4, 5]), (9, [0, 4, 5], [4, 5], [], [0, 4, 5]), (13, [0, 5, 8, 9], [5, 8], [], [0, 5, 8, 9])] }
def G_ : Ag := { params := [.val, .val, .val], results := [] }
def A24 : Flags := { P7 := [6] }
def A21 : Flags := {}
def Yg : Flags := { keep := [(2, [0, 4, 5, 6], [4, 5], [], [0, 4, 5, 6])] }
def Om : Ag := { params := [.val, .val, .val], results := [] }
def NJ : Flags := { keep := [(4, [0, 5, 6, 7, 8], [5, 6, 7], [], [0, 5, 6, 7, 8]), (9, [0, 5, 6, 7, 9], [5, 6, 7, 9], [], [0, 5, 6, 7, 9]), (12, [0, 5, 9, 10, 11], [5, 9], [], [0, 5, 9, 10, 11])] }
def Ia : Ag := { params := [.val, .val, .val, .val], results := [] }
def dN : Flags := {}
def PZ : Ag := { params := [.val, .val, .val], results := [.val, .val] }
def dM : Flags := { P7 := [9] }
def PY : Ag := { params := [.val, .val], results := [.val] }
def vR : Flags := {}
def Ww : Ag := { params := [.val, .val, .val], results := [] }
def dJ : Flags := { keep := [(10, [2, 3, 5], [2, 3], [], [2, 3, 5])] }
def kC : Flags := { P7 := [79], keep := [(4, [0, 3], [3], [], [0, 3])] }
def VL : Ag := { params := [.val, .val], results := [] }
def A2Z : Flags := {}
def j_ : Flags := { keep := [(4, [2, 3, 5], [2, 3], [], [2, 3, 5])] }
def A2V : Flags := {}
def jy : Flags := { keep := [(25, [1, 2, 4, 9], [1, 2, 4], [], [1, 2, 4, 9])] }
def QL : Flags := { keep := [(3, [2, 3], [2, 3], [], [2, 3]), (6, [2, 3, 5], [2, 3], [], [2, 3, 5]), (11, [2, 3, 6], [2, 3], [], [2, 3, 6])] }
def dG : Flags := { keep := [(4, [1, 3], [1], [], [1, 3])] }
def Uy : Flags := { keep := [(5, [3, 4], [], [], [3, 4])] }
def jo : Flags := { keep := [(4, [0, 3], [], [], [0, 3])] }
def qL : Flags := { keep := [(2, [0, 1, 5], [], [], [0, 1, 5])] }
def dB : Flags := { keep := [(2, [0, 3], [], [], [0, 3])] }
def jv : Flags := { keep := [(3, [1, 3, 4], [1], [], [1, 3, 4])] }
def Rm : Flags := { keep := [(3, [1, 2, 5], [2], [], [1, 2, 5])] }
def JG : Flags := { keep := [(4, [1, 3], [1, 3], [], [1, 3]), (6, [1, 3], [1, 3], [], [1, 3]), (8, [1, 3], [1, 3], [], [1, 3]), (10, [1, 3], [1, 3], [], [1, 3]), (12, [1, 3], [1, 3], [], [1, 3])] }
def A3a : Flags := {}
def Yi : Flags := { keep := [(4, [2, 3, 4, 5, 7], [2, 3, 4, 5, 7], [], [2, 3, 4, 5, 7])] }
def A0b : Flags := {}
def nu : Flags := {}
def Qx : Flags := { keep := [(18, [8, 13], [8, 13], [], [8, 13]), (19, [8, 13, 131, 132, 133], [8, 13], [], [8, 13, 131, 132, 133])] }
def zl : Flags := {}
def vN : Flags := {}
def A27 : Flags := { shared := [10] }
def XT : Flags := { keep := [(4, [2, 3, 4, 5, 7], [2, 3, 4, 5, 7], [], [2, 3, 4, 5, 7]), (12, [2, 4, 5], [2, 4, 5], [], [2, 4, 5])] }
def A25 : Flags := {}
def FL : Flags := { keep := [(2, [1, 3], [1], [], [1, 3]), (3, [1, 3, 4], [1], [], [1, 3, 4]), (8, [1, 3, 4, 26], [1], [], [1, 3, 4, 26]), (13, [1], [1], [], [1]), (15, [1, 4], [1], [], [1, 4]), (20, [1, 7, 8], [1], [], [1, 7, 8])] }
def A23 : Flags := {}
def vO : Flags := {}
def vU : Flags := {}
def zy : Flags := { P7 := [4, 8, 12, 16, 22] }
def A6X : Flags := {}
def z_ : Flags := {}
def WW : Flags := { keep := [(4, [1, 2, 5], [2], [], [1, 2, 5])] }
def A2X : Flags := {}
def A2Y : Flags := {}
def A20 : Flags := {}
def jq : Flags := { keep := [(4, [2, 3, 5], [2, 3], [], [2, 3, 5])] }
def A6W : Flags := {}
def zu : Flags := { P7 := [14], keep := [(3, [0, 2, 3, 4], [2, 3], [3], [0, 2, 4])] }
def Yf : Flags := { keep := [(2, [0, 1, 4, 5], [4], [], [0, 1, 4, 5])] }
def WV : Flags := { keep := [(4, [0, 1, 5], [], [], [0, 1, 5])] }
def Qw : Flags := { keep := [(4, [2, 3, 5], [2, 3], [], [2, 3, 5]), (9, [2, 3, 6], [2, 3], [], [2, 3, 6])] }
def A2U : Flags := {}
def Zu : Flags := { keep := [(25, [1, 3, 4], [1, 4], [], [1, 3, 4]), (28, [1, 3, 5], [1], [], [1, 3, 5])] }
def zt : Flags := { P7 := [2] }
def zo : Flags := {}
def A2T : Flags := {}
def Zt : Flags := { keep := [(2, [0, 3], [], [], [0, 3]), (8, [0, 4, 5], [], [], [0, 4, 5])] }
def kE : Flags := { keep := [(4, [3, 29, 30, 31], [3], [], [3, 29, 30, 31])] }
def OY : Flags := { P7 := [28], keep := [(12, [1, 2, 4], [1, 2, 4], [4], [1, 2]), (13, [2, 4, 24, 25], [2, 4], [4], [2, 24, 25])] }
def cz : Flags := { keep := [(3, [0, 3, 4], [], [], [0, 3, 4])] }
def jw : Flags := { keep := [(4, [1, 2, 5], [2], [], [1, 2, 5])] }
def A2W : Flags := { P7 := [2] }
def iY : Flags := {}
def vW : Flags := {}
def vX : Flags := {}
def LM : Flags := { keep := [(2, [1, 10, 11, 12], [1], [], [1, 10, 11, 12]), (8, [1, 24, 25, 26], [1], [], [1, 24, 25, 26]), (14, [35, 36, 37], [], [], [35, 36, 37])] }
def A0d : Flags := {}
def ve : Flags := {}
def dQ : Flags := { keep := [(9, [33, 34, 35], [], [], [33, 34, 35])] }
def Uq : Flags := { keep := [(8, [3, 33, 34, 35], [3], [], [3, 33, 34, 35])] }
def A26 : Flags := {}
def vJ : Flags := {}
def cZ : Flags := { keep := [(12, [2, 3, 4], [2, 3, 4], [], [2, 3, 4])] }
def Ec : Flags := { P7 := [21], keep := [(20, [0, 4, 5], [4, 5], [], [0, 4, 5]), (22, [0, 4, 5], [4, 5], [], [0, 4, 5]), (24, [0, 9, 10], [9], [], [0, 9, 10])] }
def Cg : Ag := { params := [.val, .val, .val], results := [.val] }
def A22 : Flags := {}
def zw : Flags := {}
def dP : Flags := { P7 := [2, 6, 22, 26, 57, 92, 98, 100, 113, 115], keep := [(12, [2, 3, 4, 8], [3, 4, 8], [2], [3, 4, 8])] }
def RG : Ag := { params := [.val, .val, .own], results := [.own, .val, .val, .val] }
def XR : Flags := { P7 := [10, 139, 145], keep := [(24, [2, 3, 4, 10, 11], [2, 3, 4], [10], [2, 3, 4, 11]), (29, [2, 3, 4, 10, 11, 12, 13], [2, 3, 4, 12, 13], [10], [2, 3, 4, 11, 12, 13])] }
def QK : Flags := { keep := [(3, [2, 3], [2, 3], [], [2, 3]), (6, [2, 3, 5], [2, 3], [], [2, 3, 5]), (11, [2, 3, 6], [2, 3], [], [2, 3, 6])] }
def dI : Flags := { keep := [(4, [2, 3, 5], [2, 3], [], [2, 3, 5])] }
def dH : Flags := { P7 := [1, 4, 9, 26, 28], keep := [(4, [1, 2, 5], [2], [1], [2, 5])] }
def RF : Ag := { params := [.val, .own], results := [.own] }
def zn : Flags := {}
def dA : Flags := { keep := [(3, [1, 2, 5], [2], [], [1, 2, 5])] }
def XQ : Flags := { P7 := [1, 4, 16, 33, 35], keep := [(3, [1, 2], [2], [1], [2]), (4, [1, 2, 5], [2], [1], [2, 5])] }
def Nb : Ag := { params := [.val, .own], results := [.own] }
def dR : Flags := { keep := [(4, [0, 3], [], [], [0, 3])] }
def A0a : Flags := {}
def Ej : Flags := { shared := [1, 2, 3], keep := [(3, [2, 3, 8], [], [], [2, 3, 8]), (6, [3, 4], [4], [], [3, 4])] }
def A29 : Flags := {}
def A0c : Flags := {}
def vZ : Flags := {}
def IW : Flags := { keep := [(6, [1, 5], [1], [], [1, 5]), (8, [1, 5], [1], [], [1, 5]), (11, [1], [1], [], [1]), (12, [1, 3], [1, 3], [], [1, 3])] }
def vL : Flags := {}
def OX : Flags := { P7 := [56, 64], keep := [(3, [2, 3, 4, 6, 7, 18, 19], [2, 3, 4, 6], [6], [2, 3, 4, 7, 18, 19]), (8, [2, 3, 4, 6, 7, 9, 10, 18, 19], [2, 3, 4, 6, 9, 10], [6], [2, 3, 4, 7, 9, 10, 18, 19])] }
def vP : Flags := {}
def WX : Flags := { keep := [(4, [2, 3, 5], [2, 3], [], [2, 3, 5])] }
def zq : Flags := { keep := [(2, [0, 1, 5], [], [], [0, 1, 5])] }
def A3b : Flags := {}
def vg : Flags := {}
def WY : Flags := { keep := [(24, [1, 3, 4], [1, 3], [], [1, 3, 4])] }
def WZ : Flags := { keep := [(4, [1, 12, 13, 14], [], [], [1, 12, 13, 14])] }
def vK : Flags := {}
def nz : Flags := {}
def n_ : Flags := {}
def OW : Flags := { keep := [(4, [1, 3], [1], [], [1, 3]), (8, [3, 4, 30, 31, 32], [], [], [3, 4, 30, 31, 32])] }
def A5a : Flags := {}
def ny : Flags := {}
def flL : List Flags := [{}, {}, {}, Ei, {}, dC, U_, A2S, A5c, Hy, Us, vQ, jm, QJ, ZN, dD, dK, {}, {}, {}, {}, {}, {}, {}, NI, zz, iX, vV, Ut, Qv, zx, Ga, cu, JF, zk, Sg, A28, Ce, EE, Fs, LJ, IX, Jt, kD, A5b, A2R, Uz, {}, {}, {}, {}, {}, {}, {}, {}, {}, {}, zm, Ur, Rk, Ja, VA, Yh, PW, {}, {}, Rh, Z6, w9, Ki, Sk, dF, Si, Sj, Uv, Uu, dE, vY, Vj, Uw, Gb, vM, MW, Fu, Ux, dO, oC, dL, vT, OZ, oD, LH, A24, A21, Yg, NJ, dN, dM, vR, dJ, kC, A2Z, j_, A2V, jy, QL, dG, Uy, jo, qL, {}, {}, {}, {}, {}, {}, {}, {}, {}, {}, {}, {}, {}, {}, {}, {}, {}, {}, {}, {}, {}, {}, dB, jv, Rm, JG, {}, A3a, Yi, A0b, nu, Qx, zl, vN, A27, XT, A25, FL, A23, vO, vU, zy, A6X, z_, WW, A2X, A2Y, A20, jq, A6W, zu, Yf, WV, Qw, A2U, Zu, zt, zo, A2T, Zt, {}, {}, {}, {}, {}, {}, {}, {}, {}, {}, {}, kE, OY, {}, cz, jw, A2W, iY, vW, vX, LM, A0d, ve, dQ, Uq, A26, vJ, cZ, Ec, A22, zw, dP, XR, QK, dI, dH, zn, {}, {}, {}, {}, {}, {}, {}, {}, dA, XQ, dR, A0a, Ej, A29, A0c, vZ, IW, vL, OX, vP, WX, {}, {}, {}, {}, {}, {}, {}, {}, {}, {}, {}, {}, {}, {}, {}, {}, {}, {}, zq, A3b, vg, {}, WY, WZ, vK, nz, n_, OW, A5a, {}, {}, {}, {}, {}, {}, {}, {}, {}, {}, {}, {}, {}, ny, {}, {}, {}, {}, {}, {}, {}, {}, {}, {}, {}, {}, {}, {}, {}, {}, {}, {}, {}, {}, {}, {}, {}, {}, {}, {}, {}, {}]
def C1C : List (Option Ag) := List.replicate 7 (none : Option Ag) ++ [some fF, some kQ, some ES, some KG, some Wv, none, some IR] ++ List.replicate 14 (none : Option Ag) ++ [some KH, none, some Yq, some DY, none, some Ea, none, some JM, none, some BG, some CE, some DK, some HV, some Ep, some GD] ++ List.replicate 24 (none : Option Ag) ++ [some U0, some V8, none, some JP, none, some JN, some JO, some KJ, some KI, none, none, some Kq, some KL, some Dn, none, none, some DL, some KM, none, some VM, none, some Wx, none, some VN, some G_, none, none, some Om, some Ia, some PZ, some PY, some Ww, none, some VL] ++ List.replicate 97 (none : Option Ag) ++ [some Cg, none, none, some RG, none, none, none, some RF] ++ List.replicate 10 (none : Option Ag) ++ [some Nb] ++ List.replicate 81 (none : Option Ag) ++ [none]
def clL : List FuncId := [64, 65, 136]
def csL : List (FuncId × Nat) := [(64, 7), (65, 20), (136, 3), (249, 7)]
def mkL : List (FuncId × FuncId) := [(249, 268)]
def itF (f : FuncId) : Option (List DV -> Option (List DV)) := if f = 268 then some (Qy 7 6) else none
def dcL : List (FuncId × B8i) := []
def dfL : List FuncId := []
def C1A : List TypeId := [65]
def C0A : List (FuncId × Cut) := []
def cfg : AO where
 P := Tryz.prog
 fl f := flL.getD f {}
 sig f := C1C.getD f none
 A0x f := C0A.lookup f
 clone f := clL.contains f
 lV f := (csL.lookup f).getD 0
 jA f := mkL.lookup f
 iter f := itF f
 ref t := C1A.contains t
 B48 f := dcL.lookup f
 dfn f := dfL.contains f
def zb0 : List (DV × Meta) := [((.int .i64 0), .val), ((.int .i64 0), .val), ((.int .i64 0), .val), ((.bool false), .val), ((.list 5 []), .val)]
def pE : List (DV × Meta) := [((.int .i64 0), .val), ((.int .i64 0), .val), ((.int .i64 0), .val), ((.str ⟨#[]⟩), .val), ((.int .i64 0), .val), ((.int .i64 0), .val), ((.int .i64 0), .val), ((.bool false), .val), ((.list 5 []), .val), ((.list 9 []), .val), ((.int .i64 0), .val), ((.bool false), .val), ((.int .i64 0), .val), ((.int .i64 0), .val), ((.int .i64 0), .val)]
def zb2 : List (DV × Meta) := [((.int .i64 0), .val), ((.int .i64 0), .val), ((.int .i64 0), .val), ((.str ⟨#[]⟩), .val), ((.str ⟨#[]⟩), .val), ((.int .i64 0), .val), ((.str ⟨#[]⟩), .val), ((.int .i64 0), .val), ((.int .i64 0), .val), ((.bool false), .val), ((.list 1 []), .val), ((.int .i64 0), .val), ((.int .i64 0), .val), ((.list 3 []), .val), ((.int .i64 0), .val), ((.int .i64 0), .val), ((.list 3 []), .val), ((.list 3 []), .val), ((.list 7 []), .val), ((.list 20 []), .val)]
def zb3 : List (DV × Meta) := [((.int .i64 0), .val), ((.int .i64 0), .val), ((.list 3 []), .val)]
def TC : List (DV × Meta) := [((.int .i64 0), .val), ((.int .i64 0), .val), ((.str ⟨#[]⟩), .val), ((.int .i64 0), .val), ((.int .i64 0), .val), ((.int .i64 0), .val), ((.bool false), .val), ((.list 5 []), .val), ((.list 9 []), .val)]
def hP (fn : Func) (fl : Flags) (R : Q8) (l : List Bool) (s : St) := A71 cfg R fl (Yo cfg.P fn) l (fn.body.getD .skip) s
def eP (fn : Func) (fl : Flags) (R : Q8) (l : List Bool) (s : St) := Vi cfg R fl (Yo cfg.P fn) l (fn.body.getD .skip) s
theorem C1L {f : FuncId} {fn : Func} {ds : List DV} {X : Option DV} {d : DV} (hf : cfg.P.funcs[f]? = some fn) (hp : cfg.A0x f = none) (hb : fn.body = some (fn.body.getD .skip)) (hX : Vi cfg (run cfg) (cfg.fl f) (Yo cfg.P fn) [] (fn.body.getD .skip) (F4 fn (ds.map fun d => (d, .val)) []) = X) (h : X = some d) : (run cfg).p f ds = some d := (A8H hp hf hb).trans (hX.trans h)
def pbA : Nat -> Nat -> List Bool -> List Bool
  | 0, _, a => a
  | k + 1, n, a => match Nat.ble n 1 with
    | true => a
    | false => pbA k (n / 2) (Nat.beq (n % 2) 1 :: a)
def pb (n : Nat) : List Bool := pbA 300 n []
def mrg : Nat -> List (Nat × Meta) -> List Nat -> List (Nat × Meta)
  | 0, _, _ => []
  | _ + 1, l, [] => l
  | k + 1, [], j :: b => (j, .loc j 0) :: mrg k [] b
  | k + 1, (i, m) :: l, j :: b => match Nat.ble i j with
    | true => (i, m) :: mrg k l (j :: b)
    | false => (j, .loc j 0) :: mrg k ((i, m) :: l) b
def ms (n : Nat) (a : List (Nat × DV)) (b : List (Nat × Meta)) (c : List (Nat × Option (List (DV × Meta)))) (g : List C9) : St := mst n a (mrg 300 b (c.map Prod.fst)) c g
def bx (d : DV) (n : Nat) := some (bxs d 0 n)
def bv (l : List DV) : Option (List (DV × Meta)) := some (l.map fun d => (d, .val))
def hR (fn : Func) (g : Ag) (fl : Flags) (R : Q8) (l : List Bool) (s : St) := A71 cfg R fl (fC cfg.P fn g) l (fn.body.getD .skip) s
def eR (fn : Func) (g : Ag) (fl : Flags) (R : Q8) (l : List Bool) (s : St) := Vi cfg R fl (fC cfg.P fn g) l (fn.body.getD .skip) s
theorem DF {f : FuncId} {fn : Func} {s : Ag} {rs : List (DV × Meta)} {sg : List C9} {q : Option (List DV × List C9)} (hf : cfg.P.funcs[f]? = some fn) (hs : cfg.sig f = some s := by kernel_rfl) (hb : fn.body = some (fn.body.getD .skip) := by kernel_rfl) (hp : cfg.B48 f = none := by kernel_rfl) (h : Vi cfg (run cfg) (cfg.fl f) (fC cfg.P fn s) [] (fn.body.getD .skip) (F4 fn rs sg) = q := by kernel_rfl) : (run cfg).r f rs sg = q := (B7f hs hf hb hp).trans h
theorem N8 {f : FuncId} {fn : Func} {ds : List DV} {q : Option DV} (hf : cfg.P.funcs[f]? = some fn) (hp : cfg.A0x f = none := by kernel_rfl) (hb : fn.body = some (fn.body.getD .skip) := by kernel_rfl) (h : Vi cfg (run cfg) (cfg.fl f) (Yo cfg.P fn) [] (fn.body.getD .skip) (F4 fn (ds.map fun d => (d, .val)) []) = q := by kernel_rfl) : (run cfg).p f ds = q := (A8H hp hf hb).trans h
end
end Go.Su

/-
 The program's iterators keep their word: by program.
-/
namespace Go.Su
noncomputable section
open Go.Proofs Go.RowKit Go.Shelf
attribute [local go_sem] Oper.semAt_some
variable {F : Fence}
theorem B4g (hd : F.depth = none) (k : Nat) : F.room k := fun d h => by rw [hd] at h; cases h
theorem RoundIn.C0M (hd : F.depth = none) {m m' : Nat} {P : Program} {l : Nat} {f : FuncId} {tmps : Array Value} {assign body : Code} {w : World} {R : Ending -> World -> Prop} (h : RoundIn F m P l f tmps assign body w R) : RoundIn F m' P l f tmps assign body w R := ⟨h.1, fun c cs _ => h.2 c cs (B4g hd _)⟩
set_option maxHeartbeats 1000000 in
theorem B7r : B4P Tryz.prog 249 268 7 := by
 intro w vs hs;obtain ⟨l⟩ := vs
 match l, hs with
 | [v0, v1, v2, v3, v4, v5, v6], _ =>
 refine (callsIn_wide (n := 1)).1 (callsIn_of_wp Tryz.func249 rfl trivial ?_);simp only [Tryz.ntmps249, z33q, z8q, z14q, Nat.reduceAdd, Nat.reduceSub, z21q, z22q, z34q, z23q, z26q, z38q]
 gi_wp2
 go_ret
 exact ⟨rfl, _, rfl⟩
set_option maxRecDepth 10000 in
set_option maxHeartbeats 4000000 in
theorem B7k (l n0 : Nat) (ds : List DV) (J : Nat -> Env -> World -> Prop) (Jx : World -> Prop) (n : Nat) (hf : ∀ k E' W', J k E' W' -> ∀ b o, W'.heap.size <= b -> E'.O b o = .other) (hI : ∀ k E' W1 W2, J k E' W1 -> Ta n0 E' W1 W2 -> J k E' W2) (hY : ∀ k E' W1 d v, J k E' W1 -> ds[k]? = some d -> RV E'.S W1.heap d v -> YieldAt Fence.wide n Tryz.prog l #[v] W1 fun e W2 =>
   (e = .returned (.bool true) /\ ∃ E2, J (k + 1) E2 W2 /\ Pr O3 E' W1.heap E2 W2.heap) \/ (e = .returned (.bool false) /\ Jx W2)) :
 ∀ (m : Nat) (d : DV) (sub : List DV), BJ 7 6 m d = some sub -> ∀ (k : Nat) (E : Env) (W : World) (v : Value), J k E W -> RV E.S W.heap d v -> (∀ j x, sub[j]? = some x -> ds[k + j]? = some x) -> n0 <= W.heap.size ->
   CallsIn Fence.wide n Tryz.prog 269 #[v, .func (.yield l) #[] #[]] W fun e W' => (e = .returned (.bool true) /\ ∃ E', J (k + sub.length) E' W' /\ Xa E W E' W') \/ (e = .returned (.bool false) /\ Jx W') := by
 intro m
 induction m with
 | zero => intro d sub h; simp [BJ] at h
 | succ m ih =>
   intro d sub NP k E W v hJ hv oF hn0;cases d with
   | agg cs =>
     rw [BJ] at NP;obtain ⟨h1, NP⟩ := F9 NP;cases hk : cs.getD 6 .undef with
     | list s kds =>
       rw [hk] at NP;simp only at NP;obtain ⟨h2, NP⟩ := F9 NP;obtain ⟨ks, h3, NP⟩ := C8 NP;simp only [Option.some.injEq] at NP;subst NP;simp only [beq_iff_eq, z0q, decide_eq_true_eq] at h1 h2;obtain ⟨h2, A0h⟩ := h2;subst h2;have wD := hv;simp only [RV] at wD;obtain ⟨vs, rfl, Vm⟩ := wD;obtain ⟨hl, Vm⟩ := EO.1 Vm;obtain ⟨l', rfl⟩ : ∃ l' : List Value, vs = l'.toArray := ⟨vs.toList, by simp⟩
       simp only at hl Vm
       match l', hl.symm.trans h1 with
       | [v0, v1, v2, v3, v4, v5, v6], _ =>
       have hk5 : cs[6]? = some (.list 7 kds) := by
        have : 6 < cs.length := by omega
        rw [z3q, z2q this] at hk;rw [z2q this];exact congrArg some hk
       have hkc := (Vm 6 _ v6 hk5 rfl).2;simp only [RC] at hkc;obtain ⟨ka, len, cap, h4, h5, h6, h7, h8, h9⟩ := hkc;simp only [List.cons.injEq, and_true] at h4;subst h4 h5;have QN : ∀ k : Nat, (Fence.wide.depth.isSome = true -> 1 <= k) := fun k h => by cases h
       have ho : ∀ o, E.O W.heap.size o = .other := fun o => hf k E W hJ _ o (z35q _)
       have key : ∀ T, ∃ fy ty ay by_, (Instr.yield l #[.agg #[v0, v1, v2, v3, v4, v5, .slice ka kds.length cap]]).run Tryz.prog (W.alloc (.cells #[v0, v1, v2, v3, v4, v5, .slice ka kds.length cap] T)) = .ok (.round l fy ty ay by_) (W.alloc (.cells #[v0, v1, v2, v3, v4, v5, .slice ka kds.length cap] T)) /\
        RoundIn Fence.wide (n - 1) Tryz.prog l fy ty ay by_ (W.alloc (.cells #[v0, v1, v2, v3, v4, v5, .slice ka kds.length cap] T)) fun e W2 =>
         (e = .returned (.bool true) /\ ∃ E2, J (k + 1) E2 W2 /\ Xa E W E2 W2 /\ (W2.heap[W.heap.size]? = some (.cells #[v0, v1, v2, v3, v4, v5, .slice ka kds.length cap] T (0, 0)) /\ (∀ o, E2.O W.heap.size o = .other)) /\ W2.cell? ⟨W.heap.size, 6, none⟩ = some (.slice ka kds.length cap)) \/ (e = .returned (.bool false) /\ Jx W2) := by
        intro T;have hJ1 : J k E (W.alloc (.cells #[v0, v1, v2, v3, v4, v5, .slice ka kds.length cap] T)) := hI _ _ _ _ hJ (Ta.alloc _);have K1 := Xa.alloc (E := E) (W := W) (.cells #[v0, v1, v2, v3, v4, v5, .slice ka kds.length cap] T) (hf k E W hJ);obtain ⟨fy, ty, ay, by_, hy, hR⟩ := hY k E _ (.agg cs) _ hJ1 (oF 0 _ rfl) (RV.mono K1.sh _ hv);refine ⟨fy, ty, ay, by_, hy, RoundIn.C0M rfl (RoundIn.mono hR ?_)⟩;rintro e W2 (⟨rfl, E2, hJ2, hP2⟩ | ⟨rfl, hx⟩)
        ·have K2 := Xa.C0w hP2 (hf _ _ _ hJ1)
         have hb := K2.blk W.heap.size (by simp) ho
         rw [World.alloc_heap_new] at hb;refine .inl ⟨rfl, E2, hJ2, K1.trans K2, hb, ?_⟩;simp [World.cell?, hb.1]
        ·exact .inr ⟨rfl, hx⟩
       obtain ⟨fy, ty, ay, by_, hy, hR⟩ := key 99;refine callsIn_of_wp Tryz.func269 rfl trivial ?_;simp only [Tryz.ntmps269, z33q, z8q, z14q, Nat.reduceAdd, Nat.reduceSub, z21q, z22q, z34q, z23q, z26q, z38q]
       gi_wp2_with ((try refine ⟨QN _, ?_⟩); refine hR.mono ?_; clear hR; rintro e W2 (⟨rfl, E2, hJ2, hK2, hb2, hc2⟩ | ⟨rfl, hx2⟩))
       ·-- the kids, one by one
        refine wpIn_loop_rounds (kds.length + 1) ?_;refine (?loop : ∀ (r i : Nat) (pre rs : List DV) (E3 : Env) (w : World) (x6 x15 x16 x17 x18 x19 x20 x21 x22 : Value), i + r = kds.length -> Jb (BJ 7 6 m) (kds.drop i) = some rs -> ks = pre ++ rs -> J (k + 1 + pre.length) E3 w -> Xa E W E3 w ->
         Code.roundsIn Fence.wide n Tryz.prog _ _ (r + 1) { tmps := #[.agg #[v0, v1, v2, v3, v4, v5, .slice ka kds.length cap], .func (.yield l) #[] #[], .pointer (some { block := W.heap.size, off := 0 }), undef, .bool false, undef, x6,
          .func (.yield l) #[] #[], .agg #[v0, v1, v2, v3, v4, v5, .slice ka kds.length cap], .bool true, .bool false, .pointer (some { block := W.heap.size, off := 6 }), .slice ka kds.length cap, .int .i64 (kds.length : Int), .int .i64 (i : Int), x15, x16, x17, x18, x19, x20, x21, x22], defers := [] } w)
         kds.length 0 [] ks E2 W2 undef undef undef undef undef undef undef undef undef (by simp) h3 rfl hJ2 hK2
        clear hJ2 hK2 hb2 hc2 hy key hJ;intro r
        induction r with
        | zero =>
          intro i pre rs E3 w x6 x15 x16 x17 x18 x19 x20 x21 x22 hi hrs hks hJ3 hK3;have hi' : i = kds.length := by omega
          have C1k : (i : Int) = (kds.length : Int) := by omega
          rw [roundsIn_succ];rw [C1k];have L8 : ¬ ((kds.length : Int) < (kds.length : Int)) := by omega
          gi_wp2
          go_ret
          rw [hi', List.drop_length, Jb] at hrs;simp only [Option.some.injEq] at hrs;subst hrs;refine .inl ⟨rfl, E3, ?_, hK3⟩;rw [show k + (pre.length + ([] : List DV).length + 1) = k + 1 + pre.length by simp; omega]
          exact hJ3
        | succ r ihr =>
          intro i pre rs E3 w x6 x15 x16 x17 x18 x19 x20 x21 x22 hi hrs hks hJ3 hK3;rw [roundsIn_succ];have L8 : ((i : Int) < (kds.length : Int)) := by omega
          have hil : i < kds.length := by omega
          obtain ⟨xa, rfl⟩ : ∃ xa, ka = some xa := by
           cases ka with
           | none => have := h7 rfl; omega
           | some xa => exact ⟨xa, rfl⟩
          obtain ⟨dV, h11⟩ := h9 xa rfl;obtain ⟨xb, xo, xs⟩ := xa;have dV := dV (by omega)
          simp only at dV h11;subst dV;obtain ⟨us, hu1, hu2, hu3⟩ := EA.1 h11 i _ (z2q hil);have hu4 := hu2.mono hK3.sh
          match us, hu1 with
          | [u0, u1, u2, u3, u4, u5, u6], _ =>
          have cc : ∀ (j : Nat) (u : Value), [u0, u1, u2, u3, u4, u5, u6][j]? = some u -> w.cell? ⟨xb, xo + i * 7 + j, none⟩ = some u := fun j u hj => by rw [SC]; exact (hu4 j u hj).1
          have c0 : w.cell? ⟨xb, xo + i * 7, none⟩ = some u0 := cc 0 u0 rfl;have c1 := cc 1 u1 rfl;have c2 := cc 2 u2 rfl;have c3 := cc 3 u3 rfl;have c4 := cc 4 u4 rfl;have c5 := cc 5 u5 rfl;have c6 := cc 6 u6 rfl;have ou : ∀ (j : Nat) (u : Value), [u0, u1, u2, u3, u4, u5, u6][j]? = some u -> u.oneCell' = true := fun j u hj => (OL hu3 hj).elim fun h1 h2 => Ir h1 h2
          have e0 : u0.oneCell' = true := ou 0 u0 rfl;have e1 : u1.oneCell' = true := ou 1 u1 rfl;have e2 : u2.oneCell' = true := ou 2 u2 rfl;have e3 : u3.oneCell' = true := ou 3 u3 rfl;have e4 : u4.oneCell' = true := ou 4 u4 rfl;have e5 : u5.oneCell' = true := ou 5 u5 rfl;have e6 : u6.oneCell' = true := ou 6 u6 rfl;obtain ⟨w1, s0, b0, r0, z0, o0⟩ := Nc (P := Tryz.prog) (j := 0) (World.alloc_heap_new w (.cells #[.int .i64 0, .int .i64 0, .int .i64 0, .string ⟨#[]⟩, .int .i64 0, .string ⟨#[]⟩, .slice none 0 0] 99)) (by simp) e0
          obtain ⟨w2, s1, b1, r1, z1, o1⟩ := Nc (P := Tryz.prog) (j := 1) b0 (by simp) e1
          obtain ⟨w3, s2, b2, r2, z2, o2⟩ := Nc (P := Tryz.prog) (j := 2) b1 (by simp) e2
          obtain ⟨w4, s3, b3, r3, z3, o3⟩ := Nc (P := Tryz.prog) (j := 3) b2 (by simp) e3
          obtain ⟨w5, s4, b4, r4, z4, o4⟩ := Nc (P := Tryz.prog) (j := 4) b3 (by simp) e4
          obtain ⟨w6, s5, b5, r5, z5, o5⟩ := Nc (P := Tryz.prog) (j := 5) b4 (by simp) e5
          obtain ⟨w7, s6, b6, r6, z6, o6⟩ := Nc (P := Tryz.prog) (j := 6) b5 (by simp) e6
          simp only [List.setIfInBounds_toArray, List.set_cons_zero, List.set_cons_succ] at b0 b1 b2 b3 b4 b5 b6;have dd : ∀ (j : Nat) (u : Value), [u0, u1, u2, u3, u4, u5, u6][j]? = some u -> w7.cell? ⟨w.heap.size, j, none⟩ = some u := fun j u hj => by rw [SC]; simp only [hc, b6]; simpa using hj
          have d0 := dd 0 u0 rfl;have d1 := dd 1 u1 rfl;have d2 := dd 2 u2 rfl;have d3 := dd 3 u3 rfl;have d4 := dd 4 u4 rfl;have d5 := dd 5 u5 rfl;have d6 := dd 6 u6 rfl;have low : ∀ b, b < w.heap.size -> w7.heap[b]? = w.heap[b]? := fun b hb => by
           rw [r6 b (by omega), r5 b (by omega), r4 b (by omega), r3 b (by omega), r2 b (by omega), r1 b (by omega), r0 b (by omega)]
           exact Below.heap_alloc _ _ _ hb
          have hz : w.heap.size <= w7.heap.size := by rw [z6, z5, z4, z3, z2, z1, z0]; simp
          have dw : Z4 w w7 := Z4.trans (b := w1) (Z4.trans (b := w.alloc (.cells #[.int .i64 0, .int .i64 0, .int .i64 0, .string ⟨#[]⟩, .int .i64 0, .string ⟨#[]⟩, .slice none 0 0] 99)) ⟨rfl, rfl, rfl⟩ o0) ((((((o1).trans o2).trans o3).trans o4).trans o5).trans o6);have ZP := hf _ _ _ hJ3;have K7 : Xa E3 w E3 w7 := Xa.same hz low ZP;have hJ7 := hI _ _ _ _ hJ3 (Ta.same hz low dw);rw [z27q hil, Jb] at hrs;obtain ⟨sa, hsa, hrs⟩ := C8 hrs;obtain ⟨sb, hsb, hrs⟩ := C8 hrs;simp only [Option.some.injEq] at hrs;subst hrs;have C1f : Fence.wide.fn 269 := trivial;have B6F : CallsIn Fence.wide (n - 1) Tryz.prog 269 _ w7 _ := callsIn_wide.2 (callsIn_wide.1 (ih _ sa hsa (k + 1 + pre.length) E3 w7 (.agg #[u0, u1, u2, u3, u4, u5, u6]) hJ7 (RV.mono (hK3.trans K7).sh _ (flat_agg hsa hu3)) (B7g oF hks) (by have := hK3.size; omega)))
          clear ih
          gi_wp2_with ((try refine ⟨QN _, ?_⟩); gi_at_call 269; refine B6F.mono ?_; clear B6F; rintro e wz (⟨rfl, E4, hJ4, hK4⟩ | ⟨rfl, hx⟩))
          ·rw [show wrap64 ((i : Int) + 1) = ((i + 1 : Nat) : Int) by unfold lim at A0h; rw [wrap64]; omega]
           exact ihr (i + 1) (pre ++ sa) sb E4 wz _ _ _ _ _ _ _ _ _ (by omega) hsb (by rw [hks, z15q]) (by rw [z10q, <- Nat.add_assoc]; exact hJ4) ((hK3.trans K7).trans hK4)
          ·go_ret
           exact .inr ⟨rfl, hx⟩
       ·go_ret
        exact .inr ⟨rfl, hx2⟩
     | _ => rw [hk] at NP; simp at NP
   | _ => simp [BJ] at NP
set_option maxHeartbeats 1000000 in
theorem B7o : A8a Tryz.prog 268 (Qy 7 6) := by
 intro cs ds ic n l b c T0 J Jx E W hb ho hR hf hI hY h0;obtain ⟨m, hm⟩ := qM ic;have JI : cs.length = 7 := by
  cases m with
  | zero => simp [BJ] at hm
  | succ m =>
    rw [BJ] at hm;obtain ⟨h1, -⟩ := F9 hm;simpa using h1
 have hlc := (EO.1 hR).1;obtain ⟨l', rfl⟩ : ∃ l' : List Value, c = l'.toArray := ⟨c.toList, by simp⟩
 simp only at hR hlc
 match l', hlc.symm.trans JI with
 | [v0, v1, v2, v3, v4, v5, v6], _ =>
 have cc : ∀ (j : Nat) (u : Value), [v0, v1, v2, v3, v4, v5, v6][j]? = some u -> W.cell? ⟨b, j, none⟩ = some u := fun j u hj => by rw [SC]; simp only [hc, hb]; simpa using hj
 have c0 := cc 0 v0 rfl;have c1 := cc 1 v1 rfl;have c2 := cc 2 v2 rfl;have c3 := cc 3 v3 rfl;have c4 := cc 4 v4 rfl;have c5 := cc 5 v5 rfl;have c6 := cc 6 v6 rfl;have hgo : CallsIn Fence.wide (n - 1) Tryz.prog 269 _ W _ := callsIn_wide.2 (callsIn_wide.1 (B7k l W.heap.size ds J Jx n hf hI hY m (.agg cs) ds hm 0 E W (.agg #[v0, v1, v2, v3, v4, v5, v6]) h0 (by simp only [RV]; exact ⟨_, rfl, hR⟩) (fun j x h => by rw [z50q]; exact h) (z35q _)))
 have C1f : Fence.wide.fn 269 := trivial;have QN : ∀ k : Nat, (Fence.wide.depth.isSome = true -> 1 <= k) := fun k h => by cases h
 refine callsIn_of_wp Tryz.func268 rfl trivial ?_;simp only [Tryz.ntmps268, z33q, z8q, z14q, Nat.reduceAdd, Nat.reduceSub, z21q, z22q, z34q, z23q, z26q, z38q]
 gi_wp2_with ((try refine ⟨QN _, ?_⟩); gi_at_call 269; refine hgo.mono ?_; clear hgo; rintro e w2 (⟨rfl, E4, hJ4, -⟩ | ⟨rfl, hx⟩))
 ·go_end0
  exact ⟨⟨_, rfl⟩, .inl ⟨E4, by simpa using hJ4⟩⟩
 ·go_end0
  exact ⟨⟨_, rfl⟩, .inr hx⟩
def B90 : ClP where
 i0 := 0
 i1 := 1
 i2 := 2
 i3 := 3
 r0 := (Mc (Tryz.f64.body.getD .skip) [false] 0)
 r1 := (Mc (Tryz.f64.body.getD .skip) [true, false, false] 0)
 r2 := (Mc (Tryz.f64.body.getD .skip) [true, false, false] 1)
 r3 := (Mc (Tryz.f64.body.getD .skip) [true, false, true, false, false] 0)
 r4 := (Mc (Tryz.f64.body.getD .skip) [true, true, false] 0)
 r5 := (Mc (Tryz.f64.body.getD .skip) [true, true, false] 1)
 r6 := (Mc (Tryz.f64.body.getD .skip) [true, true, false] 2)
 r7 := (Mc (Tryz.f64.body.getD .skip) [true, true, false] 3)
 ts := 28
 ty := B6v (Tryz.f64.body.getD .skip) [true, false, false] 1
theorem B40 : aG Tryz.prog 64 7 := A3y (q := B90) (by kernel_rfl) Tryz.func64 (by kernel_rfl) (by kernel_rfl) (by kernel_rfl)
def B91 : ClP where
 i0 := 0
 i1 := 1
 i2 := 2
 i3 := 3
 r0 := (Mc (Tryz.f65.body.getD .skip) [false] 0)
 r1 := (Mc (Tryz.f65.body.getD .skip) [true, false, false] 0)
 r2 := (Mc (Tryz.f65.body.getD .skip) [true, false, false] 1)
 r3 := (Mc (Tryz.f65.body.getD .skip) [true, false, true, false, false] 0)
 r4 := (Mc (Tryz.f65.body.getD .skip) [true, true, false] 0)
 r5 := (Mc (Tryz.f65.body.getD .skip) [true, true, false] 1)
 r6 := (Mc (Tryz.f65.body.getD .skip) [true, true, false] 2)
 r7 := (Mc (Tryz.f65.body.getD .skip) [true, true, false] 3)
 ts := 29
 ty := B6v (Tryz.f65.body.getD .skip) [true, false, false] 1
theorem B41 : aG Tryz.prog 65 20 := A3y (q := B91) (by kernel_rfl) Tryz.func65 (by kernel_rfl) (by kernel_rfl) (by kernel_rfl)
def B8t : ClP where
 i0 := 0
 i1 := 1
 i2 := 2
 i3 := 3
 r0 := (Mc (Tryz.f136.body.getD .skip) [false] 0)
 r1 := (Mc (Tryz.f136.body.getD .skip) [true, false, false] 0)
 r2 := (Mc (Tryz.f136.body.getD .skip) [true, false, false] 1)
 r3 := (Mc (Tryz.f136.body.getD .skip) [true, false, true, false, false] 0)
 r4 := (Mc (Tryz.f136.body.getD .skip) [true, true, false] 0)
 r5 := (Mc (Tryz.f136.body.getD .skip) [true, true, false] 1)
 r6 := (Mc (Tryz.f136.body.getD .skip) [true, true, false] 2)
 r7 := (Mc (Tryz.f136.body.getD .skip) [true, true, false] 3)
 ts := 25
 ty := B6v (Tryz.f136.body.getD .skip) [true, false, false] 1
theorem B3f : aG Tryz.prog 136 3 := A3y (q := B8t) (by kernel_rfl) Tryz.func136 (by kernel_rfl) (by kernel_rfl) (by kernel_rfl)
end
end Go.Su

/-
 The settings are right.
-/
namespace Go.Su
open Go.Proofs
theorem B5F : Tryz.prog.funcs.toList.all (fun fn => fn.name != "runtime.NumGoroutine") = true := by kernel_rfl
theorem B2t {β : Type} {l : List (FuncId × β)} {f : FuncId} {g : β} (h : l.lookup f = some g) : (f, g) ∈ l := by
 induction l with
 | nil => cases h
 | cons x l ih =>
   obtain ⟨a, b⟩ := x;simp only [List.lookup_cons] at h
   by_cases e : f == a
   ·rw [e] at h; simp only [Option.some.injEq] at h; rw [h]; rw [eq_of_beq e]; exact z5q ..
   ·simp only [e] at h; exact z4q _ (ih h)
theorem B8s : A35 cfg where
 mixed := by kernel_rfl
 go f fn h := by
  have h1 : fn ∈ Tryz.prog.funcs.toList := by
   have : Tryz.prog.funcs[f]? = some fn := h;rw [<- Array.getElem?_toList] at this;exact z45q this
  have := z1q.1 B5F fn h1;simpa using this
 A0x f g h := by cases h
 clone f h := by
  have h0 : clL.contains f = true := h;have h1 : f ∈ clL := by simpa using h0
  simp only [clL, z12q, z37q, or_false] at h1;rcases h1 with rfl | rfl | rfl
  ·exact ⟨by kernel_rfl, B40⟩
  ·exact ⟨by kernel_rfl, B41⟩
  ·exact ⟨by kernel_rfl, B3f⟩
 jA f g h := by
  have h1 : (f, g) ∈ mkL := B2t h;simp only [mkL, z12q, z37q, or_false, Prod.mk.injEq] at h1;rcases h1 with ⟨rfl, rfl⟩
  ·exact ⟨by kernel_rfl, B7r⟩
 iter g it h := by
  have h1 : itF g = some it := h;unfold itF at h1
  split at h1
  ·rename_i e
   subst e;cases h1;exact ⟨by kernel_rfl, B7o⟩
  ·cases h1
end Go.Su

/-
 Equations of the program's functions: by program.
-/
namespace Go.Su
set_option maxRecDepth 100000
noncomputable section
open Go.Proofs
variable (R : Q8) (i j k l m n : Nat) (a b c d e f g h o p q r t u v w x y z A B C D E F G H I J K L M N O P Q S T U V W X Y Z a1 a2 a3 a4 a5 a6 a7 a8 a9 a10 a11 a12 a13 a14 a15 a16 a17 a18 a19 a20 a21 a22 a23 a24 a25 a26 a27 a28 a29 a30 a31 a32 a33 a34 a35 a36 a37 a38 a39 a40 a41 a42 a43 a44 a45 a46 a47 a48 a49 a50 a51 a52 a53 a54 a55 a56 a57 a58 a59 : DV) (s : List C9)
def fw := eP Tryz.f3 Ei R [] (F4 Tryz.f3 [(a, .val), (b, .val)] [])
def JW := eP Tryz.f3 Ei R (pb 15) (ms 89 [(1, a)] [] [(2, bx b 20)] [])
def II (R : Q8) (t1 : DV) (t5i t6i : Nat) (t7 b2 : DV) (sg : List C9) : Option DV := hP Tryz.f3 Ei R (pb 1018) (ms 89 [(1, t1), (7, t7)] [(5, (.ptr t5i 0)), (6, (.ptr t6i 0))] [(2, bx b2 20)] sg)
def Ij (R : Q8) (t1 : DV) (t5i t6i : Nat) (b2 : DV) (sg : List C9) : Option DV := eP Tryz.f3 Ei R (pb 255) (ms 89 [(1, t1)] [(5, (.ptr t5i 0)), (6, (.ptr t6i 0))] [(2, bx b2 20)] sg)
def Xb := eP Tryz.f3 Ei R (pb 1023) (ms 89 [(11, a)] [(6, (.ptr i 0))] [(9, bx b 15), (10, bx c 15)] s)
theorem bI : fw R a b =
 (og (D6 20 a) <| ob (R.p jP [(.list 20 [(Q6 a)])]) fun d1 => D7 d1 sT (ob (A8 .gtr b (iI 300)) fun d2 => D7 d2 (ob (A8 .rem b (iI 300)) fun d3 => JW R d3 a) (JW R b a))) := E8 [5, 19, 21]
theorem Xn : JW R a b =
 (ob (R.p Vs [(Q6 b), a]) fun d1 => ob (M5 .not d1) fun d2 => D7 d2 sT (oc (R.r TG [((Q6 b), .val), (a, .val)] []) fun q3 s3 => ob (PL q3) fun i4 => oc (R.r fU [((Q6 b), .val), (a, .val)] s3) fun q5 s5 => ob (PL q5) fun i6 => II R a i4 i6 (iI 0) b s5)) := E8 [5, 19, 21]
theorem UM (R : Q8) (t1 : DV) (t5i t6i : Nat) (t7 b2 : DV) (sg : List C9) : II R t1 t5i t6i t7 b2 sg =
 (ob (A8 .leq t7 (iI 301)) fun d1 => D7 d1 (oc (R.r jQ [(pt t5i), (pt t6i)] sg) fun q2 s2 => ob (M5 .not q2) fun d3 => D7 d3 sF (oc (R.r Bn [(pt t5i)] s2) fun q4 s4 => oc (R.r Ml [(pt t6i)] s4) fun q5 s5 => ob (UE q4 q5) fun b6 => D7 (.bool !b6) sF (ob (M5 .not q4) fun d7 => D7 d7 (Ij R t1 t5i t6i b2 s5) (ob (A8 .add t7 (iI 1)) fun d8 => II R t1 t5i t6i d8 b2 s5)))) (Ij R t1 t5i t6i b2 sg)) := I7 [5, 19, 21]
theorem Va (R : Q8) (t1 : DV) (t5i t6i : Nat) (b2 : DV) (sg : List C9) : Ij R t1 t5i t6i b2 sg =
 (ob (R.p Nn [(Q6 b2), t1]) fun d1 => og (D6 15 d1) <| ob (R.r De [(pt t5i)] sg) fun q2 => ob (J5 0 (.H7 q2.1)) fun d3 => ob (J5 1 (.H7 q2.1)) fun d4 => og (D6 15 d3) <| Xb R t6i d4 d1 d3 q2.2) := E8 [5, 19, 21]
theorem Vb : Xb R i a b c s =
 (F7 a (ob (A8 .eql (A7 14 b) (A7 14 c)) fun d1 => F7 d1 (ob (R.p He [(EU b), (EU c)]) fun d2 => F7 d2 (ob (E9 s i) fun c3 => ob (O8 2 15 c3) fun e4 => ob (R.p He [(EU b), (.agg e4)]) fun d5 => F7 d5 (ob (E9 s i) fun c6 => ob (H5 c6 16) fun d7 => ob (A8 .eql (A7 14 b) d7) fun d8 => F7 d8 (ob (R.p jR []) fun d9 => some d9) sF none) sF none) sF none) sF none) sF none) := E8 [5, 19, 21]
theorem ZF : (run cfg).p fP [a, b] = fw (run cfg) a b := N8 Tryz.func3
def A1z := eP Tryz.f5 dC R [] (F4 Tryz.f5 [(a, .val)] [])
def Vu := hP Tryz.f5 dC R (pb 58) (ms 19 [(0, a), (3, b), (4, c)] [] [] [])
theorem yD : A1z R a =
 (Vu R a (iI 0) (iI 0)) := E8 []
theorem UK : Vu R a b c =
 (ob (dLen a) fun d1 => ob (A8 .lss c d1) fun d2 => D7 d2 (ob (F5 20 a c) fun d3 => ob (R.p XB [(Q6 d3), b]) fun d4 => ob (A8 .add c (iI 1)) fun d5 => Vu R a d4 d5) (ob (A8 .gtr b (iI 500)) fun d6 => some d6)) := I7 []
theorem uV : (run cfg).p jP [a] = A1z (run cfg) a := N8 Tryz.func5
def lH := eP Tryz.f6 U_ R [] (F4 Tryz.f6 [(a, .val), (b, .val)] [])
def GH := hP Tryz.f6 U_ R (pb 60) (ms 26 [] [(5, (.ptr i 0))] [] s)
theorem iB : lH R a b =
 (og (D6 20 a) <| ob (R.p jX [(Q6 a)]) fun d1 => ob (M5 .not d1) fun d2 => D7 d2 sF (oc (R.r fU [((Q6 a), .val), (b, .val)] []) fun q3 s3 => ob (PL q3) fun i4 => GH R i4 s3)) := E8 []
theorem Xp : GH R i s =
 (oc (R.r Ml [(pt i)] s) fun q1 s1 => D7 q1 (ob (E9 s1 i) fun c2 => ob (H5 c2 17) fun d3 => F7 d3 (ob (E9 s1 i) fun c4 => ob (O8 39 9 c4) fun e5 => ob (R.p Vr [(.agg e5)]) fun d6 => ob (M5 .not d6) fun d7 => D7 d7 sF (GH R i s1)) (GH R i s1) none) sT) := I7 []
theorem cB : (run cfg).p Vs [a, b] = lH (run cfg) a b := N8 Tryz.func6
def A37 := eR Tryz.f7 fF A2S R [] (F4 Tryz.f7 [(a, .val), (b, .val)] s)
theorem A18 : A37 R a b s =
 (og (D6 20 a) <| ob (UF b (iI 0)) fun d1 => ob (YU d1 (iI 65536)) fun d2 => og (H6 d2) <| ob (R.p aT [(Q6 a)]) fun d3 => ob (A8 .neq d3 (iI 0)) fun d4 => D7 d4 (oc (R.r Y1 [(.undef, (.ptr s.length 0)), ((.agg ((iI 6)::(P9 (Bz [])))), .val)] (s ++ [C9.box (zz4 ((.B_, .Ba)::(TD (A6q ((d2, .val)::(A0W (TD (zz8 [((.list 9 []), .full), ((.list 9 []), .full)]))))))))])) fun q5 s5 =>
 some ([(.int .u64 (s.length : Nat))], s5)) (ob (R.p TH [(Q6 a)]) fun d6 => ob (E9 (s ++ [C9.box (zz4 ((.B_, .Ba)::(TD (A6q ((d2, .val)::(A0W (TD (zz8 [((.list 9 []), .full), ((.list 9 []), .full)]))))))))]) s.length) fun c7 =>
 og (D6 20 d6) <| if 0 + 20 <= c7.length then (some ([(.int .u64 (s.length : Nat))], ((s ++ [C9.box (zz4 ((.B_, .Ba)::(TD (A6q ((d2, .val)::(A0W (TD (zz8 [((.list 9 []), .full), ((.list 9 []), .full)]))))))))]).set s.length (C9.box (putAt c7 0 (V6 d6 [])))))) else none)) := E8 []
theorem yu : (run cfg).r TG [(a, .val), (b, .val)] s = A37 (run cfg) a b s := DF (s := fF) Tryz.func7
def A6w := eR Tryz.f8 kQ A5c R [] (F4 Tryz.f8 [(a, .val), (b, .val)] s)
theorem A4Z : A6w R a b s =
 (og (D6 20 a) <| ob (UF b (iI 0)) fun d1 => ob (YU d1 (iI 65536)) fun d2 => og (H6 d2) <| ob (R.p XF [(Q6 a)]) fun d3 => ob (M5 .not d3) fun d4 => D7 d4 (oc (R.r CZ [(.undef, (.ptr s.length 0)), ((.agg ((iI 6)::(P9 (Bz [])))), .val)] (s ++ [C9.box ((d2, .val)::((.bool false), .val)::((iI 0), .val)::(TD (zz8 (V6 a (((.list 10 []), .full)::(TD (B6w [])))))))])) fun q5 s5 =>
 some ([(.int .u64 (s.length : Nat))], s5)) (some ([(.int .u64 (s.length : Nat))], (s ++ [C9.box ((d2, .val)::((.bool false), .val)::((iI 0), .val)::(TD (zz8 (V6 a (((.list 10 []), .full)::(TD (B6w [])))))))])))) := E8 []
theorem A2P : (run cfg).r fU [(a, .val), (b, .val)] s = A6w (run cfg) a b s := DF (s := kQ) Tryz.func8
def A1C := eR Tryz.f9 ES Hy R [] (F4 Tryz.f9 [(pt i), (pt j)] s)
def Qa := eR Tryz.f9 ES Hy R (pb 15) (ms 171 [] [(0, (.ptr i 0)), (1, (.ptr j 0))] [] s)
def Gt := hR Tryz.f9 ES Hy R (pb 506) (ms 171 [(7, a), (8, b), (9, c)] [(0, (.ptr i 0)), (1, (.ptr j 0)), (7, .own), (8, .own)] [] s)
def Gs := eR Tryz.f9 ES Hy R (pb 127) (ms 171 [(7, a), (8, b)] [(0, (.ptr i 0)), (1, (.ptr j 0))] [] s)
def Ik := hR Tryz.f9 ES Hy R (pb 4090) (ms 171 [(8, a), (10, b), (11, c)] [(0, (.ptr i 0)), (1, (.ptr j 0))] [] s)
def Jh := eR Tryz.f9 ES Hy R (pb 4095) (ms 171 [(13, a), (14, b)] [(1, (.ptr i 0))] [(12, bx c 9)] s)
theorem yE : A1C R i j s =
 (ob (R.r De [(pt i)] s) fun q1 => ob (J5 0 (.H7 q1.1)) fun d2 => ob (J5 1 (.H7 q1.1)) fun d3 => og (D6 15 d2) <| ob (E9 q1.2 j) fun c4 => ob (H5 c4 1) fun d5 => ob (UE d3 d5) fun b6 => F7 (.bool !b6) (some ([(.bool false)], q1.2)) (F7 d3 (ob (E9 q1.2 j) fun c7 => ob (H5 c7 16) fun d8 => ob (A8 .neq (A7 14 d2) d8) fun d9 => F7 d9 (some ([(.bool false)], q1.2)) (ob (E9 q1.2 j) fun c10 => ob (O8 2 15 c10) fun e11 => ob (R.p He [(EU d2), (.agg e11)]) fun d12 => ob (M5 .not d12) fun d13 => D7 d13 (some ([(.bool false)], q1.2)) (Qa R i j q1.2)) none) (Qa R i j q1.2) none) none) := E8 [4, 12, 22]
theorem l_ : Qa R i j s =
 (Gt R i j (.list 1 []) (.list 5 []) (iI 0) s) := E8 [4, 12, 22]
theorem MQ : Gt R i j a b c s =
 (ob (E9 s j) fun c1 => ob (H5 c1 48) fun d2 => ob (dLen d2) fun d3 => ob (A8 .lss c d3) fun d4 => F7 d4 (ob (E9 s j) fun c5 => ob (H5 c5 1) fun d6 => ob (M5 .not d6) fun d7 => D7 d7 (ob (E9 s j) fun c8 => ob (H5 c8 48) fun d9 => ob (F5 36 d9 c) fun d10 => og (H6 (A7 0 d10)) <| ob (AQ 1 a (.list 1 [(A7 0 d10)])) fun d11 => ob (E9 s j) fun c12 => ob (H5 c12 48) fun d13 => ob (F5 36 d13 c) fun d14 => ob (A8 .eql (A7 0 d14) (iI 12)) fun d15 => D7 d15 (ob (E9 s j) fun c16 => ob (H5 c16 48) fun d17 => ob (F5 36 d17 c) fun d18 => ob (AQ 5 b (.list 5 [(.agg (A0v d18 []))])) fun d19 => ob (A8 .add c (iI 1)) fun d20 => Gt R i j d11 d19 d20 s) (ob (A8 .add c (iI 1)) fun d21 => Gt R i j d11 b d21 s)) (Gs R i j a b s)) (Gs R i j a b s) none) := I7 [4, 12, 22]
theorem gX : Gs R i j a b s =
 (oc (R.r HZ [(pt i)] s) fun q1 s1 => oc (R.r FY [(pt i)] s1) fun q2 s2 => ob (R.p W_ [q2, a]) fun d3 => ob (M5 .not d3) fun d4 => F7 d4 (some ([(.bool false)], s2)) (ob (dLen q1) fun d5 => ob (dLen b) fun d6 => ob (A8 .neq d5 d6) fun d7 => D7 d7 (some ([(.bool false)], s2)) (Ik R i j b q1 (iI 0) s2)) none) := E8 [4, 12, 22]
theorem RN : Ik R i j a b c s =
 (ob (dLen b) fun d1 => ob (A8 .lss c d1) fun d2 => D7 d2 (ob (F5 5 b c) fun d3 => ob (F5 5 a c) fun d4 => ob (R.p Pf [(P6 d3), (P6 d4)]) fun d5 => ob (M5 .not d5) fun d6 => D7 d6 (some ([(.bool false)], s)) (ob (A8 .add c (iI 1)) fun d7 => Ik R i j a b d7 s)) (ob (R.r KR [(pt i)] s) fun q8 => ob (J5 0 (.H7 q8.1)) fun d9 => ob (J5 1 (.H7 q8.1)) fun d10 => og (D6 9 d9) <| ob (E9 q8.2 j) fun c11 => ob (H5 c11 17) fun d12 => F7 d12 (ob (E9 q8.2 j) fun c13 => ob (H5 c13 1) fun d14 => ob (M5 .not d14) fun d15 => F7 d15 (ob (E9 q8.2 j) fun c16 => ob (H5 c16 50) fun d17 => ob (M5 .not d17) fun d18 => Jh R j d10 d18 d9 q8.2) (Jh R j d10 (.bool false) d9 q8.2) none) (Jh R j d10 (.bool false) d9 q8.2) none)) := I7 [4, 12, 22]
theorem gY : Jh R i a b c s =
 (ob (UE a b) fun b1 => F7 (.bool b1) (ob (M5 .not a) fun d2 => F7 d2 (ob (A8 .eql (A7 0 c) (iI 0)) fun d3 => F7 d3 (some ([(.bool true)], s)) (F7 a (ob (E9 s i) fun c4 => ob (O8 39 9 c4) fun e5 => ob (R.p TW [(R8 c), (.agg e5)]) fun d6 => some ([d6], s)) (some ([(.bool false)], s)) none) none) (F7 a (ob (E9 s i) fun c7 => ob (O8 39 9 c7) fun e8 => ob (R.p TW [(R8 c), (.agg e8)]) fun d9 => some ([d9], s)) (some ([(.bool false)], s)) none) none) (some ([(.bool false)], s)) none) := E8 [4, 12, 22]
theorem uW : (run cfg).r jQ [(.undef, (.ptr i 0)), (.undef, (.ptr j 0))] s = A1C (run cfg) i j s := DF (s := ES) Tryz.func9
def VR := eR Tryz.f10 KG Us R [] (F4 Tryz.f10 [(pt i)] s)
theorem UN : VR R i s =
 (ob (E9 s i) fun c1 => ob (H5 c1 35) fun d2 => D7 d2 (some ([(.bool false)], s)) (ob (E9 s i) fun c3 => ob (H5 c3 34) fun d4 => ob (E9 s i) fun c5 => ob (H5 c5 33) fun d6 => ob (A8 .eql d4 d6) fun d7 => D7 d7 (oc (R.r Y1 [(pt i), ((.agg ((iI 5)::(P9 (Bz [])))), .val)] s) fun q8 s8 => some ([(.bool false)], s8)) (ob (E9 s i) fun c9 => ob (H5 c9 34) fun d10 => ob (A8 .add d10 (iI 1)) fun d11 => ob (E9 s i) fun c12 => og (H6 d11) <| ob (c12[34]?) fun u13 => ob (E9 (s.set i (C9.box (c12.set 34 (d11, .val)))) i) fun c14 => ob (H5 c14 51) fun d15 => D7 d15 (oc (R.r IG [(pt i)] (s.set i (C9.box (c12.set 34 (d11, .val))))) fun q16 s16 => some ([(.bool true)], s16)) (ob (E9 (s.set i (C9.box (c12.set 34 (d11, .val)))) i) fun c17 => ob (H5 c17 30) fun d18 => ob (M5 .not d18) fun d19 => D7 d19 (oc (R.r Lj [(pt i)] (s.set i (C9.box (c12.set 34 (d11, .val))))) fun q20 s20 =>
 some ([(.bool true)], s20)) (ob (E9 (s.set i (C9.box (c12.set 34 (d11, .val)))) i) fun c21 => ob (CG (s.set i (C9.box (c12.set 34 (d11, .val)))) i 31 c21 57) fun v22 => ob (VQ v22.2.2.2) fun d23 => ob (A8 .gtr d23 (iI 0)) fun d24 => D7 d24 (ob (E9 v22.1 i) fun c25 => ob (Jo c25 31 57) fun v26 => ob (E9 v22.1 i) fun c27 => ob (Jo c27 31 57) fun v28 => ob (VQ v28.2.2) fun d29 => ob (A8 .sub d29 (iI 1)) fun d30 => ob (AF 0 v26.2.2 d30) fun n31 => ob (AX v22.1 v26.1 v26.2.1) fun a32 => ob (a32.2[n31]?) fun d33 => og (a32.1 == 57) <| ob (E9 v22.1 i) fun c34 => ob (Jo c34 31 57) fun v35 => ob (E9 v22.1 i) fun c36 => ob (Jo c36 31 57) fun v37 => ob (VQ v37.2.2) fun d38 => ob (A8 .sub d38 (iI 1)) fun d39 => ob (bnd v35.2.2 (some d39)) fun n40 => if n40 <= v35.2.2 then (ob (E9 v22.1 i) fun c41 => ob (c41[31]?) fun u42 => oc (R.r KS [(pt i), ((.agg (YI d33 [])), .val)] (v22.1.set i (C9.box (c41.set 31 (.undef, (.M6 v35.1 v35.2.1 57 n40)))))) fun q43 s43 =>
 some ([(.bool true)], s43)) else none) (ob (E9 v22.1 i) fun c44 => ob (O8 21 9 c44) fun e45 => og (D6 9 (.agg e45)) <| ob (E9 (v22.1 ++ [C9.M6 1 9 [(.agg e45)]]) i) fun c46 => ob (c46[51]?) fun u47 => ob (E9 ((v22.1 ++ [C9.M6 1 9 [(.agg e45)]]).set i (C9.box (c46.set 51 ((.bool true), .val)))) i) fun c48 => ob (c48[52]?) fun u49 => oc (R.r IG [(pt i)] (((v22.1 ++ [C9.M6 1 9 [(.agg e45)]]).set i (C9.box (c46.set 51 ((.bool true), .val)))).set i (C9.box (c48.set 52 (.undef, (.M6 v22.1.length 1 9 1)))))) fun q50 s50 => some ([(.bool true)], s50))))))) := E8 []
theorem SQ : (run cfg).r Bn [(.undef, (.ptr i 0))] s = VR (run cfg) i s := DF (s := KG) Tryz.func10
def xE := eR Tryz.f11 Wv vQ R [] (F4 Tryz.f11 [(pt i)] s)
theorem tL : xE R i s =
 (ob (E9 s i) fun c1 => ob (H5 c1 1) fun d2 => D7 d2 (some ([(.bool false)], s)) (ob (E9 s i) fun c3 => ob (H5 c3 16) fun d4 => ob (E9 s i) fun c5 => ob (H5 c5 0) fun d6 => ob (A8 .geq d4 d6) fun d7 => D7 d7 (oc (R.r CZ [(pt i), ((.agg ((iI 5)::(P9 (Bz [])))), .val)] s) fun q8 s8 => some ([(.bool false)], s8)) (ob (E9 s i) fun c9 => ob (H5 c9 16) fun d10 => ob (A8 .add d10 (iI 1)) fun d11 => ob (E9 s i) fun c12 => og (H6 d11) <| ob (c12[16]?) fun u13 => ob (E9 (s.set i (C9.box (c12.set 16 (d11, .val)))) i) fun c14 => ob (H5 c14 50) fun d15 => D7 d15 (oc (R.r TL [(pt i)] (s.set i (C9.box (c12.set 16 (d11, .val))))) fun q16 s16 => some ([(.bool true)], s16)) (ob (E9 (s.set i (C9.box (c12.set 16 (d11, .val)))) i) fun c17 => ob (H5 c17 17) fun d18 => D7 d18 (oc (R.r aQ [(pt i)] (s.set i (C9.box (c12.set 16 (d11, .val))))) fun q19 s19 =>
 some ([(.bool true)], s19)) (oc (R.r jU [(pt i)] (s.set i (C9.box (c12.set 16 (d11, .val))))) fun q20 s20 => some ([(.bool true)], s20)))))) := E8 []
theorem nH : (run cfg).r Ml [(.undef, (.ptr i 0))] s = xE (run cfg) i s := DF (s := Wv) Tryz.func11
def A38 := eP Tryz.f12 jm R [] (F4 Tryz.f12 [(a, .val), (b, .val)] [])
def Qb := hP Tryz.f12 jm R (pb 28) (ms 19 [] [(5, (.ptr i 0))] [(4, some pE)] s)
theorem A19 : A38 R a b =
 (og (D6 20 a) <| oc (R.r TG [((Q6 a), .val), (b, .val)] []) fun q1 s1 => ob (PL q1) fun i2 => Qb R i2 s1) := E8 []
theorem mD : Qb R i s =
 (oc (R.r Bn [(pt i)] s) fun q1 s1 => D7 q1 (Qb R i s1) (ob (R.r De [(pt i)] s1) fun q2 => ob (J5 0 (.H7 q2.1)) fun d3 => ob (J5 1 (.H7 q2.1)) fun d4 => og (D6 15 d3) <| some (EU d3))) := I7 []
theorem yw : (run cfg).p Nn [a, b] = A38 (run cfg) a b := N8 Tryz.func12
def Ry := eR Tryz.f13 IR QJ R [] (F4 Tryz.f13 [(pt i)] s)
theorem Px : Ry R i s =
 (ob (E9 s i) fun c1 => ob (H5 c1 35) fun d2 => ob (M5 .not d2) fun d3 => D7 d3 (some ([(.agg ((iI 0)::(P9 (Bz [])))), (.bool false)], s)) (ob (E9 s i) fun c4 => ob (O8 36 15 c4) fun e5 => og (D6 15 (.agg e5)) <| ob (E9 s i) fun c6 => ob (H5 c6 34) fun d7 => og (H6 d7) <| some ([(.agg (B9k (.agg e5) [d7])), (.bool true)], s))) := E8 []
theorem PG : (run cfg).r De [(.undef, (.ptr i 0))] s = Ry (run cfg) i s := DF (s := IR) Tryz.func13
def aa := eP Tryz.f14 ZN R [] (F4 Tryz.f14 [(a, .val), (b, .val)] [])
theorem ZB : aa R a b =
 (og (D6 15 a) <| og (D6 15 b) <| ob (A8 .eql (A7 0 a) (A7 0 b)) fun d1 => F7 d1 (ob (R.p Zi [(.agg (aB a [])), (.agg (aB b []))]) fun d2 => F7 d2 (ob (A8 .eql (A7 10 a) (A7 10 b)) fun d3 => F7 d3 (ob (UE (A7 11 a) (A7 11 b)) fun b4 => F7 (.bool b4) (ob (WA [.int, .int] (.agg [(A7 12 a), (A7 13 a)]) (.agg [(A7 12 b), (A7 13 b)])) fun b5 => some (.bool b5)) sF none) sF none) sF none) sF none) := E8 []
theorem Xu : (run cfg).p He [a, b] = aa (run cfg) a b := N8 Tryz.func14
def A1D := eP Tryz.f15 dD R [] (F4 Tryz.f15 [] [])
def rX := eP Tryz.f15 dD R (pb 255) (ms 78 [] [(5, (.ptr i 0))] [(2, bx a 15), (3, bx b 15), (4, bx c 15)] s)
theorem A8B : A1D R =
 (ob (R.p fQ [(iI 1)]) fun d1 => ob (R.p fQ [(iI 2)]) fun d2 => og (D6 20 d1) <| og (D6 20 d2) <| ob (R.p Nn [(.agg ((iI 15)::(zz9 ((iI 1)::(wT [(.list 20 [d1, d2])]))))), (iI 6)]) fun d3 => og (D6 15 d3) <| ob (R.p Nn [(.agg ((iI 15)::(zz9 ((iI 1)::(wT [(.list 20 [d1, d2])]))))), (iI 5)]) fun d4 => og (D6 15 d4) <| ob (R.p fQ [(iI 1)]) fun d5 => ob (R.p pG [(iI 1), (iI 5), (iI 6), d5]) fun d6 => ob (R.p pG [(iI 5), (iI 2), (iI 7), d6]) fun d7 => ob (R.p Nn [d7, (iI 50)]) fun d8 => og (D6 15 d8) <| oc (R.r TG [((.agg ((iI 15)::(zz9 ((iI 1)::(wT [(.list 20 [d1, d2])]))))), .val), ((iI 9), .val)] []) fun q9 s9 =>
 ob (PL q9) fun i10 => oc (R.r Bn [(pt i10)] s9) fun q11 s11 => ob (M5 .not q11) fun d12 => D7 d12 sF (rX R i10 d3 d4 d8 s11)) := E8 [8]
theorem A5W : rX R i a b c s =
 (ob (A8 .eql (A7 0 a) (iI 1)) fun d1 => F7 d1 (ob (A8 .eql (A7 1 a) (iI 1)) fun d2 => F7 d2 (ob (A8 .eql (A7 2 a) (iI 3)) fun d3 => F7 d3 (ob (A8 .eql (A7 14 a) (iI 6)) fun d4 => F7 d4 (ob (A8 .eql (A7 0 b) (iI 5)) fun d5 => F7 d5 (ob (A8 .eql (A7 14 b) (iI 5)) fun d6 => F7 d6 (ob (A8 .eql (A7 0 c) (iI 2)) fun d7 => F7 d7 (ob (A8 .eql (A7 10 c) (iI 7)) fun d8 => F7 d8 (ob (M5 .not (A7 11 c)) fun d9 => F7 d9 (oc (R.r FY [(pt i)] s) fun q10 s10 => ob (R.p W_ [q10, (.list 1 [(iI 10)])]) fun d11 => some d11) sF none) sF none) sF none) sF none) sF none) sF none) sF none) sF none) sF none) := E8 [8]
theorem A7y : (run cfg).p jR [] = A1D (run cfg) := N8 Tryz.func15
def A1M := eP Tryz.f16 dK R [] (F4 Tryz.f16 [(a, .val)] [])
def OA := hP Tryz.f16 dK R (pb 58) (ms 21 [(3, a)] [] [(1, bx b 20)] [])
theorem yM : A1M R a =
 (og (D6 20 a) <| ob (R.p wW [(Q6 a)]) fun d1 => ob (M5 .not d1) fun d2 => D7 d2 sF (OA R (iI 0) a)) := E8 []
theorem Uc : OA R a b =
 (ob (dLen (A7 19 b)) fun d1 => ob (A8 .lss a d1) fun d2 => D7 d2 (ob (F5 20 (A7 19 b) a) fun d3 => ob (R.p XF [(Q6 d3)]) fun d4 => ob (M5 .not d4) fun d5 => D7 d5 sF (ob (A8 .add a (iI 1)) fun d6 => OA R d6 b)) sT) := I7 []
theorem uj : (run cfg).p XF [a] = A1M (run cfg) a := N8 Tryz.func16
end
end Go.Su

/-
 Equations of the program's functions: by program.
-/
namespace Go.Su
set_option maxRecDepth 100000
noncomputable section
open Go.Proofs
variable (R : Q8) (i j k l m n : Nat) (a b c d e f g h o p q r t u v w x y z A B C D E F G H I J K L M N O P Q S T U V W X Y Z a1 a2 a3 a4 a5 a6 a7 a8 a9 a10 a11 a12 a13 a14 a15 a16 a17 a18 a19 a20 a21 a22 a23 a24 a25 a26 a27 a28 a29 a30 a31 a32 a33 a34 a35 a36 a37 a38 a39 a40 a41 a42 a43 a44 a45 a46 a47 a48 a49 a50 a51 a52 a53 a54 a55 a56 a57 a58 a59 : DV) (s : List C9)
def A1B := eP Tryz.f24 NI R [] (F4 Tryz.f24 [(a, .val), (b, .val)] [])
def Ny := hP Tryz.f24 NI R (pb 122) (ms 99 [(1, a), (5, b)] [] [(2, bx c 20)] [])
def Ih := hP Tryz.f24 NI R (pb 250) (ms 99 [(1, a), (6, b)] [] [(2, bx c 20)] [])
def Ii := hP Tryz.f24 NI R (pb 506) (ms 99 [(1, a), (7, b)] [] [(2, bx c 20)] [])
theorem Ht : A1B R a b =
 (og (D6 20 a) <| ob (A8 .add b (iI 1)) fun d1 => ob (dLen (A7 10 a)) fun d2 => ob (A8 .add d1 d2) fun d3 => ob (CF (A7 6 a)) fun d4 => ob (A8 .gtr d4 (iI 300)) fun d5 => F7 d5 (some (iI 501)) (ob (CF (A7 3 a)) fun d6 => ob (A8 .gtr d6 (iI 300)) fun d7 => F7 d7 (some (iI 501)) (ob (CF (A7 4 a)) fun d8 => ob (A8 .gtr d8 (iI 300)) fun d9 => F7 d9 (some (iI 501)) (ob (R.p Pg [(.agg [(A7 11 a), (A7 12 a), (A7 13 a)])]) fun d10 => ob (M5 .not d10) fun d11 => F7 d11 (some (iI 501)) (ob (R.p Pg [(.agg [(A7 14 a), (A7 15 a), (A7 16 a)])]) fun d12 => ob (M5 .not d12) fun d13 => D7 d13 (some (iI 501)) (Ny R d3 (iI 0) a)) none) none) none) none) := E8 []
theorem UL : Ny R a b c =
 (ob (dLen (A7 17 c)) fun d1 => ob (A8 .lss b d1) fun d2 => F7 d2 (ob (A8 .leq a (iI 500)) fun d3 => D7 d3 (ob (A8 .add a (iI 1)) fun d4 => ob (F5 3 (A7 17 c) b) fun d5 => ob (R.p Pg [(W9 d5)]) fun d6 => ob (M5 .not d6) fun d7 => D7 d7 (some (iI 501)) (ob (A8 .add b (iI 1)) fun d8 => Ny R d4 d8 c)) (Ih R a (iI 0) c)) (Ih R a (iI 0) c) none) := I7 []
theorem RJ : Ih R a b c =
 (ob (dLen (A7 18 c)) fun d1 => ob (A8 .lss b d1) fun d2 => F7 d2 (ob (A8 .leq a (iI 500)) fun d3 => D7 d3 (ob (F5 7 (A7 18 c) b) fun d4 => ob (R.p Nl [(IP d4), a]) fun d5 => ob (A8 .add b (iI 1)) fun d6 => Ih R d5 d6 c) (Ii R a (iI 0) c)) (Ii R a (iI 0) c) none) := I7 []
theorem RL : Ii R a b c =
 (ob (dLen (A7 19 c)) fun d1 => ob (A8 .lss b d1) fun d2 => F7 d2 (ob (A8 .leq a (iI 500)) fun d3 => D7 d3 (ob (F5 20 (A7 19 c) b) fun d4 => ob (R.p XB [(Q6 d4), a]) fun d5 => ob (A8 .add b (iI 1)) fun d6 => Ii R d5 d6 c) (some a)) (some a) none) := I7 []
theorem Fz : (run cfg).p XB [a, b] = A1B (run cfg) a b := N8 Tryz.func24
def A1W := eP Tryz.f25 zz R [] (F4 Tryz.f25 [(a, .val)] [])
theorem yV : A1W R a =
 (og (D6 20 a) <| ob (R.p Lr [(Q6 a), (iI 0)]) fun d1 => ob (A8 .leq d1 (iI 1200)) fun d2 => F7 d2 (ob (R.p KU [(Q6 a), (iI 0)]) fun d3 => ob (A8 .leq d3 (iI 20000)) fun d4 => some d4) sF none) := E8 []
theorem u_ : (run cfg).p jX [a] = A1W (run cfg) a := N8 Tryz.func25
def lG := eP Tryz.f26 iX R [] (F4 Tryz.f26 [(a, .val)] [])
theorem iA : lG R a =
 (og (D6 9 a) <| ob (R.p Nr [(R8 a), (iI 0)]) fun d1 => ob (A8 .leq d1 (iI 1200)) fun d2 => some d2) := E8 []
theorem b_ : (run cfg).p Vr [a] = lG (run cfg) a := N8 Tryz.func26
def xM := eP Tryz.f27 vV R [] (F4 Tryz.f27 [(a, .val)] [])
theorem t_ : xM R a =
 (og (D6 20 a) <| ob (R.p TP [(Q6 a)]) fun d1 => ob (M5 .not d1) fun d2 => D7 d2 (some (iI 1)) (some (iI 0))) := E8 []
theorem nP : (run cfg).p aT [a] = xM (run cfg) a := N8 Tryz.func27
def VT := eR Tryz.f28 KH Ut R [] (F4 Tryz.f28 [(pt i), (a, .val)] s)
theorem UQ : VT R i a s =
 (og (D6 15 a) <| ob (E9 s i) fun c1 => ob (c1[35]?) fun u2 => ob (E9 (s.set i (C9.box (c1.set 35 ((.bool true), .val)))) i) fun c3 => if 36 + 15 <= c3.length then (ob (E9 ((s.set i (C9.box (c1.set 35 ((.bool true), .val)))).set i (C9.box (putAt c3 36 (oO a [])))) i) fun c4 => ob (c4[31]?) fun u5 => some ([], (((s.set i (C9.box (c1.set 35 ((.bool true), .val)))).set i (C9.box (putAt c3 36 (oO a [])))).set i (C9.box (c4.set 31 ((.list 57 []), .full)))))) else none) := E8 []
theorem SV : (run cfg).r Y1 [(.undef, (.ptr i 0)), (a, .val)] s = VT (run cfg) i a s := DF (s := KH) Tryz.func28
def wu := eP Tryz.f29 Qv R [] (F4 Tryz.f29 [(a, .val)] [])
def Lt (R : Q8) (t26r3 : Nat) (t27 t28 b1_0 b1_1 b1_2 b1_3 b1_4 b1_5 b1_6 b1_7 b1_8 b1_9 b1_11 b1_12 b1_13 b1_14 b1_15 b1_16 : DV) (b1_18r3 b1_19r3 : Nat) (sg : List C9) : Option DV := hP Tryz.f29 Qv R (pb 250) (ms 56 [(27, t27), (28, t28)] [(26, (.arr 0 7 0 t26r3))] [(1, some [(b1_0, .val), (b1_1, .val), (b1_2, .val), (b1_3, .val), (b1_4, .val), (b1_5, .val), (b1_6, .val), (b1_7, .val), (b1_8, .val), (b1_9, .val), ((.list 1 []), .val), (b1_11, .val), (b1_12, .val), (b1_13, .val), (b1_14, .val), (b1_15, .val), (b1_16, .val), ((.list 3 []), .val), (.undef, (.arr 0 7 0 b1_18r3)), (.undef, (.arr 1 20 0 b1_19r3))]), (2, some zb2)] sg)
def KV (R : Q8) (t41r3 : Nat) (t42 t43 b1_0 b1_1 b1_2 b1_3 b1_4 b1_5 b1_6 b1_7 b1_8 b1_9 b1_11 b1_12 b1_13 b1_14 b1_15 b1_16 : DV) (b1_18r3 b1_19r3 : Nat) (sg : List C9) : Option DV := hP Tryz.f29 Qv R (pb 506) (ms 56 [(42, t42), (43, t43)] [(41, (.arr 1 20 0 t41r3))] [(1, some [(b1_0, .val), (b1_1, .val), (b1_2, .val), (b1_3, .val), (b1_4, .val), (b1_5, .val), (b1_6, .val), (b1_7, .val), (b1_8, .val), (b1_9, .val), ((.list 1 []), .val), (b1_11, .val), (b1_12, .val), (b1_13, .val), (b1_14, .val), (b1_15, .val), (b1_16, .val), ((.list 3 []), .val), (.undef, (.arr 0 7 0 b1_18r3)), (.undef, (.arr 1 20 0 b1_19r3))]), (2, some zb2)] sg)
theorem sV : wu R a =
 (og (D6 20 a) <| ob (R.p Ha [(.agg [(A7 11 a), (A7 12 a), (A7 13 a)])]) fun d1 => ob (R.p Ha [(.agg [(A7 14 a), (A7 15 a), (A7 16 a)])]) fun d2 => og (D6 3 d1) <| og (D6 3 d2) <| ob (qB (A7 18 a)) fun p3 => og (true && p3.1 == 7 && decide (p3.2.length <= lim)) <| ob (qB (A7 19 a)) fun p4 => og (true && p4.1 == 20 && decide (p4.2.length <= lim)) <| Lt R (p3.2.length) (.int .i64 p3.2.length) (iI 0) (A7 0 a) (A7 1 a) (A7 2 a) (A7 3 a) (A7 4 a) (A7 5 a) (A7 6 a) (A7 7 a) (A7 8 a) (A7 9 a) (A7 0 d1) (A7 1 d1) (A7 2 d1) (A7 0 d2) (A7 1 d2) (A7 2 d2) (p3.2.length) (p4.2.length) [.arr 7 p3.2, .arr 20 p4.2]) := E8 []
theorem RP (R : Q8) (t26r3 : Nat) (t27 t28 b1_0 b1_1 b1_2 b1_3 b1_4 b1_5 b1_6 b1_7 b1_8 b1_9 b1_11 b1_12 b1_13 b1_14 b1_15 b1_16 : DV) (b1_18r3 b1_19r3 : Nat) (sg : List C9) : Lt R t26r3 t27 t28 b1_0 b1_1 b1_2 b1_3 b1_4 b1_5 b1_6 b1_7 b1_8 b1_9 b1_11 b1_12 b1_13 b1_14 b1_15 b1_16 b1_18r3 b1_19r3 sg =
 (ob (A8 .lss t28 t27) fun d1 => D7 d1 (ob (AF 0 t26r3 t28) fun n2 => ob (DX sg 0) fun r3 => ob (r3.2[n2]?) fun d4 => og (r3.1 == 7) <| ob (R.p Lm [(IP d4)]) fun d5 => ob (AF 0 b1_18r3 t28) fun n6 => ob (DX sg 0) fun r7 => ob (r7.2[n6]?) fun u8 => og (D6 7 d5) <| og (r7.1 == 7) <| ob (A8 .add t28 (iI 1)) fun d9 => Lt R t26r3 t27 d9 b1_0 b1_1 b1_2 b1_3 b1_4 b1_5 b1_6 b1_7 b1_8 b1_9 b1_11 b1_12 b1_13 b1_14 b1_15 b1_16 b1_18r3 b1_19r3 (sg.set 0 (.arr 7 (r7.2.set n6 d5)))) (KV R b1_19r3 (.int .i64 b1_19r3) (iI 0) b1_0 b1_1 b1_2 b1_3 b1_4 b1_5 b1_6 b1_7 b1_8 b1_9 b1_11 b1_12 b1_13 b1_14 b1_15 b1_16 b1_18r3 b1_19r3 sg)) := I7 []
theorem PO (R : Q8) (t41r3 : Nat) (t42 t43 b1_0 b1_1 b1_2 b1_3 b1_4 b1_5 b1_6 b1_7 b1_8 b1_9 b1_11 b1_12 b1_13 b1_14 b1_15 b1_16 : DV) (b1_18r3 b1_19r3 : Nat) (sg : List C9) : KV R t41r3 t42 t43 b1_0 b1_1 b1_2 b1_3 b1_4 b1_5 b1_6 b1_7 b1_8 b1_9 b1_11 b1_12 b1_13 b1_14 b1_15 b1_16 b1_18r3 b1_19r3 sg =
 (ob (A8 .lss t43 t42) fun d1 => D7 d1 (ob (AF 0 t41r3 t43) fun n2 => ob (DX sg 1) fun r3 => ob (r3.2[n2]?) fun d4 => og (r3.1 == 20) <| ob (R.p TH [(Q6 d4)]) fun d5 => ob (AF 0 b1_19r3 t43) fun n6 => ob (DX sg 1) fun r7 => ob (r7.2[n6]?) fun u8 => og (D6 20 d5) <| og (r7.1 == 20) <| ob (A8 .add t43 (iI 1)) fun d9 => KV R t41r3 t42 d9 b1_0 b1_1 b1_2 b1_3 b1_4 b1_5 b1_6 b1_7 b1_8 b1_9 b1_11 b1_12 b1_13 b1_14 b1_15 b1_16 b1_18r3 b1_19r3 (sg.set 1 (.arr 20 (r7.2.set n6 d5)))) (A3T [ob (Y4 sg [(b1_0, .val), (b1_1, .val), (b1_2, .val), (b1_3, .val), (b1_4, .val), (b1_5, .val), (b1_6, .val), (b1_7, .val), (b1_8, .val), (b1_9, .val), ((.list 1 []), .val), (b1_11, .val), (b1_12, .val), (b1_13, .val), (b1_14, .val), (b1_15, .val), (b1_16, .val), ((.list 3 []), .val), (.undef, (.arr 0 7 0 b1_18r3)), (.undef, (.arr 1 20 0 b1_19r3))]) fun ds => some (.agg ds)])) := I7 []
theorem mr : (run cfg).p TH [a] = wu (run cfg) a := N8 Tryz.func29
def A1Q := eR Tryz.f30 Yq zx R [] (F4 Tryz.f30 [(pt i), (a, .val)] s)
theorem yP : A1Q R i a s =
 (og (D6 15 a) <| ob (E9 s i) fun c1 => ob (H5 c1 16) fun d2 => og (H6 d2) <| ob (E9 s i) fun c3 => ob (c3[1]?) fun u4 => ob (E9 (s.set i (C9.box (c3.set 1 ((.bool true), .val)))) i) fun c5 => if 2 + 15 <= c5.length then (some ([], ((s.set i (C9.box (c3.set 1 ((.bool true), .val)))).set i (C9.box (putAt c5 2 (B1u a [(d2, .val)])))))) else none) := E8 []
theorem uq : (run cfg).r CZ [(.undef, (.ptr i 0)), (a, .val)] s = A1Q (run cfg) i a s := DF (s := Yq) Tryz.func30
def Mo := eR Tryz.f31 DY Ga R [] (F4 Tryz.f31 [(pt i)] s)
def BK (R : Q8) (t3 : DV) (t9r0 t9r1 t9r3 : Nat) (t10 t11 : DV) (sg : List C9) : Option (List DV × List C9) := hR Tryz.f31 DY Ga R (pb 58) (ms 25 [(3, t3), (10, t10), (11, t11)] [(3, .own), (9, (.M6 t9r0 t9r1 57 t9r3))] [] sg)
theorem MU : Mo R i s =
 (ob (E9 s i) fun c1 => ob (CG s i 31 c1 57) fun v2 => ob (VQ v2.2.2.2) fun d3 => BK R (.list 5 []) (v2.2.1) (v2.2.2.1) (v2.2.2.2) d3 (iI 0) v2.1) := E8 []
theorem Eg (R : Q8) (t3 : DV) (t9r0 t9r1 t9r3 : Nat) (t10 t11 : DV) (sg : List C9) : BK R t3 t9r0 t9r1 t9r3 t10 t11 sg =
 (ob (A8 .lss t11 t10) fun d1 => D7 d1 (ob (AF 0 t9r3 t11) fun n2 => ob (AX sg t9r0 t9r1) fun a3 => ob (a3.2[n2]?) fun d4 => og (a3.1 == 57) <| ob (A8 .eql (A7 0 d4) (iI 12)) fun d5 => D7 d5 (ob (AQ 5 t3 (.list 5 [(.agg (oN d4 []))])) fun d6 => ob (A8 .add t11 (iI 1)) fun d7 => BK R d6 t9r0 t9r1 t9r3 t10 d7 sg) (ob (A8 .add t11 (iI 1)) fun d8 => BK R t3 t9r0 t9r1 t9r3 t10 d8 sg)) (some ([t3], sg))) := I7 []
theorem LG : (run cfg).r HZ [(.undef, (.ptr i 0))] s = Mo (run cfg) i s := DF (s := DY) Tryz.func31
def A1v := eP Tryz.f32 cu R [] (F4 Tryz.f32 [(a, .val), (b, .val)] [])
def Nv := hP Tryz.f32 cu R (pb 58) (ms 26 [(0, a), (1, b), (5, c)] [] [] [])
theorem x_ : A1v R a b =
 (ob (dLen a) fun d1 => ob (dLen b) fun d2 => ob (A8 .neq d1 d2) fun d3 => D7 d3 sF (Nv R a b (iI 0))) := E8 []
theorem UG : Nv R a b c =
 (ob (dLen a) fun d1 => ob (A8 .lss c d1) fun d2 => D7 d2 (ob (F5 1 a c) fun d3 => og (M4 d3) <| ob (F5 1 b c) fun d4 => og (M4 d4) <| ob (A8 .neq d3 d4) fun d5 => D7 d5 sF (ob (A8 .add c (iI 1)) fun d6 => Nv R a b d6)) sT) := I7 []
theorem uR : (run cfg).p W_ [a, b] = A1v (run cfg) a b := N8 Tryz.func32
def Rx := eR Tryz.f33 Ea JF R [] (F4 Tryz.f33 [(pt i)] s)
def Dz (R : Q8) (t3 : DV) (t9r0 t9r1 t9r3 : Nat) (t10 t11 : DV) (sg : List C9) : Option (List DV × List C9) := hR Tryz.f33 Ea JF R (pb 58) (ms 22 [(3, t3), (10, t10), (11, t11)] [(3, .own), (9, (.M6 t9r0 t9r1 57 t9r3))] [] sg)
theorem Pv : Rx R i s =
 (ob (E9 s i) fun c1 => ob (CG s i 31 c1 57) fun v2 => ob (VQ v2.2.2.2) fun d3 => Dz R (.list 1 []) (v2.2.1) (v2.2.2.1) (v2.2.2.2) d3 (iI 0) v2.1) := E8 []
theorem GY (R : Q8) (t3 : DV) (t9r0 t9r1 t9r3 : Nat) (t10 t11 : DV) (sg : List C9) : Dz R t3 t9r0 t9r1 t9r3 t10 t11 sg =
 (ob (A8 .lss t11 t10) fun d1 => D7 d1 (ob (AF 0 t9r3 t11) fun n2 => ob (AX sg t9r0 t9r1) fun a3 => ob (a3.2[n2]?) fun d4 => og (a3.1 == 57) <| og (H6 (A7 0 d4)) <| ob (AQ 1 t3 (.list 1 [(A7 0 d4)])) fun d5 => ob (A8 .add t11 (iI 1)) fun d6 => Dz R d5 t9r0 t9r1 t9r3 t10 d6 sg) (some ([t3], sg))) := I7 []
theorem PE : (run cfg).r FY [(.undef, (.ptr i 0))] s = Rx (run cfg) i s := DF (s := Ea) Tryz.func33
def A1t := eP Tryz.f34 zk R [] (F4 Tryz.f34 [(a, .val), (b, .val)] [])
theorem xx : A1t R a b =
 (og (D6 5 a) <| og (D6 5 b) <| ob (A8 .eql (A7 0 a) (A7 0 b)) fun d1 => F7 d1 (ob (A8 .eql (A7 1 a) (A7 1 b)) fun d2 => F7 d2 (ob (A8 .eql (A7 2 a) (A7 2 b)) fun d3 => F7 d3 (ob (UE (A7 3 a) (A7 3 b)) fun b4 => F7 (.bool b4) (oc (R.r BA [((A7 4 a), .val), ((A7 4 b), .val), (.undef, (.fn 34 []))] []) fun q5 s5 => some q5) sF none) sF none) sF none) sF none) := E8 []
theorem uO : (run cfg).p Pf [a, b] = A1t (run cfg) a b := N8 Tryz.func34
def Td := eR Tryz.f35 JM Sg R [] (F4 Tryz.f35 [(pt i)] s)
theorem SG : Td R i s =
 (ob (E9 s i) fun c1 => ob (H5 c1 35) fun d2 => F7 d2 (some ([(.agg (P9 [])), (.bool false)], s)) (ob (E9 s i) fun c3 => ob (H5 c3 51) fun d4 => F7 d4 (some ([(.agg (P9 [])), (.bool false)], s)) (ob (E9 s i) fun c5 => ob (H5 c5 30) fun d6 => ob (M5 .not d6) fun d7 => D7 d7 (some ([(.agg (P9 [])), (.bool false)], s)) (ob (E9 s i) fun c8 => ob (O8 21 9 c8) fun e9 => og (D6 9 (.agg e9)) <| some ([(.agg (V3 (.agg e9) [])), (.bool true)], s))) none) none) := E8 []
theorem QD : (run cfg).r KR [(.undef, (.ptr i 0))] s = Td (run cfg) i s := DF (s := JM) Tryz.func35
def A4B := eP Tryz.f36 A28 R [] (F4 Tryz.f36 [(a, .val), (b, .val)] [])
theorem A2E : A4B R a b =
 (og (D6 9 a) <| og (D6 9 b) <| ob (A8 .eql (A7 0 a) (A7 0 b)) fun d1 => F7 d1 (ob (A8 .eql (A7 1 a) (A7 1 b)) fun d2 => F7 d2 (ob (A8 .eql (A7 2 a) (A7 2 b)) fun d3 => F7 d3 (ob (R.p Pf [(.agg [(A7 3 a), (A7 4 a), (A7 5 a), (A7 6 a), (A7 7 a)]), (.agg [(A7 3 b), (A7 4 b), (A7 5 b), (A7 6 b), (A7 7 b)])]) fun d4 => F7 d4 (oc (R.r Bc [((A7 8 a), .val), ((A7 8 b), .val), (.undef, (.fn 36 []))] []) fun q5 s5 => some q5) sF none) sF none) sF none) sF none) := E8 []
theorem zf : (run cfg).p TW [a, b] = A4B (run cfg) a b := N8 Tryz.func36
def VW := eR Tryz.f37 BG Ce R [] (F4 Tryz.f37 [(pt i)] s)
def Fb := eR Tryz.f37 BG Ce R (pb 122) (ms 130 [] [(0, (.ptr i 0))] [(3, bx a 9)] s)
def DC := eR Tryz.f37 BG Ce R (pb 31) (ms 130 [] [(0, (.ptr i 0))] [(3, bv [a, b, c, d, e, f, g, h, o])] s)
def Dh := eR Tryz.f37 BG Ce R (pb 245) (ms 130 [] [(0, (.ptr i 0))] [(3, bv [a, b, c, d, e, f, g, h, o])] s)
def Ey := eR Tryz.f37 BG Ce R (pb 127) (ms 130 [] [(0, (.ptr i 0))] [(8, bv (a::b::c::(Ab [(.list 9 [])])))] s)
theorem UU : VW R i s =
 (ob (E9 s i) fun c1 => ob (CG s i 52 c1 9) fun v2 => ob (VQ v2.2.2.2) fun d3 => ob (A8 .sub d3 (iI 1)) fun d4 => ob (E9 v2.1 i) fun c5 => ob (CG v2.1 i 52 c5 9) fun v6 => ob (AF 0 v6.2.2.2 d4) fun n7 => ob (AX v6.1 v6.2.1 v6.2.2.1) fun a8 => ob (a8.2[n7]?) fun d9 => og (a8.1 == 9) <| ob (E9 v6.1 i) fun c10 => ob (CG v6.1 i 52 c10 9) fun v11 => ob (bnd v11.2.2.2 (some d4)) fun n12 => if n12 <= v11.2.2.2 then (ob (E9 v11.1 i) fun c13 => ob (c13[52]?) fun u14 => ob (A8 .eql (A7 0 d9) (iI 5)) fun d15 => F7 d15 (Fb R i d9 (v11.1.set i (C9.box (c13.set 52 (.undef, (.M6 v11.2.1 v11.2.2.1 9 n12)))))) (ob (A8 .eql (A7 0 d9) (iI 7)) fun d16 => D7 d16 (Fb R i d9 (v11.1.set i (C9.box (c13.set 52 (.undef, (.M6 v11.2.1 v11.2.2.1 9 n12)))))) (DC R i (A7 0 d9) (A7 1 d9) (A7 2 d9) (A7 3 d9) (A7 4 d9) (A7 5 d9) (A7 6 d9) (A7 7 d9) (A7 8 d9) (v11.1.set i (C9.box (c13.set 52 (.undef, (.M6 v11.2.1 v11.2.2.1 9 n12))))))) none) else none) := E8 [4, 8, 14, 17]
theorem Py : Fb R i a s =
 (ob (A8 .eql (A7 3 a) (iI 5)) fun d1 => D7 d1 (ob (F5 5 (A7 7 a) (iI 0)) fun d2 => ob (A8 .eql (A7 0 d2) (iI 1)) fun d3 => D7 d3 (Dh R i (A7 0 a) (A7 1 a) (A7 2 a) (iI 0) (iI 0) (iI 0) (.bool false) (.list 5 []) (A7 8 a) s) (Dh R i (A7 0 a) (A7 1 a) (A7 2 a) (A7 0 d2) (A7 1 d2) (A7 2 d2) (A7 3 d2) (A7 4 d2) (A7 8 a) s)) (Dh R i (A7 0 a) (A7 1 a) (A7 2 a) (A7 3 a) (A7 4 a) (A7 5 a) (A7 6 a) (A7 7 a) (A7 8 a) s)) := E8 [4, 8, 14, 17]
theorem Ox : DC R i a b c d e f g h o s =
 (og (H6 a) <| og (H6 b) <| og (H6 c) <| ob (A8 .eql a (iI 8)) fun d1 => D7 d1 (Ey R i a (iI 0) c s) (Ey R i a b c s)) := E8 [4, 8, 14, 17]
theorem Pz : Dh R i a b c d e f g h o s =
 (ob (R.p fV [(.agg [a, b, c, d, e, f, g, h, o])]) fun d1 => ob (J5 0 d1) fun d2 => ob (J5 1 d1) fun d3 => ob (J5 2 d1) fun d4 => ob (J5 3 d1) fun d5 => og (D6 9 d2) <| og (D6 9 d3) <| og (D6 15 d4) <| ob (A8 .neq d5 (iI 0)) fun d6 => D7 d6 (oc (R.r O6 [(pt i)] s) fun q7 s7 => some ([], s7)) (ob (A8 .neq (A7 0 d4) (iI 0)) fun d8 => D7 d8 (oc (R.r Y1 [(pt i), ((EU d4), .val)] s) fun q9 s9 => some ([], s9)) (ob (E9 s i) fun c10 => ob (CG s i 52 c10 9) fun v11 => ob (VQ v11.2.2.2) fun d12 => ob (AX v11.1 v11.2.1 v11.2.2.1) fun a13 => og (a13.1 == 9 && true && decide (v11.2.2.2 <= a13.2.length)) <| ob (Kb 9 (.list 9 (a13.2.take v11.2.2.2)) (.list 9 [(.agg (P9 [])), (.agg (P9 []))])) fun Vn => ob (AF 0 ((Vn.1.length + Vn.2.length)) d12) fun n15 => ob (AX (v11.1.set v11.2.1 (C9.M6 (v11.2.2.1 + 1) 9 (Vn.1 ++ Vn.2))) v11.2.1 ((v11.2.2.1 + 1))) fun a16 =>
 ob (a16.2[n15]?) fun d17 => og (a16.1 == 9) <| ob (IZ 9 0 d17 (X3 d3 [])) fun e18 => ob (A8 .add d12 (iI 1)) fun d19 => ob (AF 0 ((Vn.1.length + Vn.2.length)) d19) fun n20 => ob (AX ((v11.1.set v11.2.1 (C9.M6 (v11.2.2.1 + 1) 9 (Vn.1 ++ Vn.2))).set v11.2.1 (C9.M6 ((v11.2.2.1 + 1)) 9 (a16.2.set n15 e18))) v11.2.1 ((v11.2.2.1 + 1))) fun a21 => ob (a21.2[n20]?) fun d22 => og (a21.1 == 9) <| ob (IZ 9 0 d22 (X3 d2 [])) fun e23 => ob (E9 (((v11.1.set v11.2.1 (C9.M6 (v11.2.2.1 + 1) 9 (Vn.1 ++ Vn.2))).set v11.2.1 (C9.M6 ((v11.2.2.1 + 1)) 9 (a16.2.set n15 e18))).set v11.2.1 (C9.M6 ((v11.2.2.1 + 1)) 9 (a21.2.set n20 e23))) i) fun c24 => ob (c24[52]?) fun u25 => DC R i a b c d e f g h o ((((v11.1.set v11.2.1 (C9.M6 (v11.2.2.1 + 1) 9 (Vn.1 ++ Vn.2))).set v11.2.1 (C9.M6 ((v11.2.2.1 + 1)) 9 (a16.2.set n15 e18))).set v11.2.1 (C9.M6 ((v11.2.2.1 + 1)) 9 (a21.2.set n20 e23))).set i (C9.box (c24.set 52 (.undef, (.M6 v11.2.1 (v11.2.2.1 + 1) 9 (Vn.1.length + Vn.2.length))))))))) := E8 [4, 8, 14, 17]
theorem Oy : Ey R i a b c s =
 (ob (E9 s i) fun c1 => ob (X9 c1 53) fun d2 => ob (dLen d2) fun d3 => ob (Kb 9 d2 (.list 9 [(.agg (P9 []))])) fun p4 => ob (AF 0 (p4.1.length + p4.2.length) d3) fun n5 => ob (Fw ((s.set i (C9.box (c1.set 53 (d2, .val)))) ++ [C9.opn 9 p4.1 p4.2]) ((s.set i (C9.box (c1.set 53 (d2, .val))))).length) fun q6 => og (q6.1 == 9 && true) <| ob (Lf q6 n5 (.agg (a::b::c::(Ab [(.list 9 [])])))) fun x7 => ob (E9 (((s.set i (C9.box (c1.set 53 (d2, .val)))) ++ [C9.opn 9 p4.1 p4.2]).set ((s.set i (C9.box (c1.set 53 (d2, .val))))).length (x7)) i) fun c8 => ob (c8[53]?) fun u9 => ob (E9 ((((s.set i (C9.box (c1.set 53 (d2, .val)))) ++ [C9.opn 9 p4.1 p4.2]).set ((s.set i (C9.box (c1.set 53 (d2, .val))))).length (x7)).set i (C9.box (c8.set 53 (.undef, (.arr ((s.set i (C9.box (c1.set 53 (d2, .val))))).length 9 0 (p4.1.length + p4.2.length)))))) i) fun c10 => ob (OP c10 53) fun a11 => ob (Fw ((((s.set i (C9.box (c1.set 53 (d2, .val)))) ++ [C9.opn 9 p4.1 p4.2]).set ((s.set i (C9.box (c1.set 53 (d2, .val))))).length (x7)).set i (C9.box (c8.set 53 (.undef, (.arr ((s.set i (C9.box (c1.set 53 (d2, .val))))).length 9 0 (p4.1.length + p4.2.length)))))) a11.1) fun q12 =>
 ob (Hr q12 a11.2.1 a11.2.2) fun d13 => ob (E9 ((((((s.set i (C9.box (c1.set 53 (d2, .val)))) ++ [C9.opn 9 p4.1 p4.2]).set ((s.set i (C9.box (c1.set 53 (d2, .val))))).length (x7)).set i (C9.box (c8.set 53 (.undef, (.arr ((s.set i (C9.box (c1.set 53 (d2, .val))))).length 9 0 (p4.1.length + p4.2.length)))))).set i (C9.box (c10.set 53 (d13, .own)))).set a11.1 (.arr 1 [])) i) fun c14 => ob (CG ((((((s.set i (C9.box (c1.set 53 (d2, .val)))) ++ [C9.opn 9 p4.1 p4.2]).set ((s.set i (C9.box (c1.set 53 (d2, .val))))).length (x7)).set i (C9.box (c8.set 53 (.undef, (.arr ((s.set i (C9.box (c1.set 53 (d2, .val))))).length 9 0 (p4.1.length + p4.2.length)))))).set i (C9.box (c10.set 53 (d13, .own)))).set a11.1 (.arr 1 [])) i 52 c14 9) fun v15 => ob (VQ v15.2.2.2) fun d16 => ob (A8 .eql d16 (iI 0)) fun d17 => D7 d17 (ob (E9 v15.1 i) fun c18 => ob (H5 c18 53) fun d19 => ob (R.p Ph [d19]) fun d20 => ob (J5 0 d20) fun d21 => ob (J5 1 d20) fun d22 => og (D6 9 d21) <| oc (R.r Y1 [(pt i), ((.agg ((iI 1)::(V3 d21 (Bz [])))), .val)] v15.1) fun q23 s23 =>
 some ([], s23)) (some ([], v15.1))) := E8 [4, 8, 14, 17]
theorem Sa : (run cfg).r IG [(.undef, (.ptr i 0))] s = VW (run cfg) i s := DF (s := BG) Tryz.func37
end
end Go.Su

/-
 Equations of the program's functions: by program.
-/
namespace Go.Su
set_option maxRecDepth 100000
noncomputable section
open Go.Proofs
variable (R : Q8) (i j k l m n : Nat) (a b c d e f g h o p q r t u v w x y z A B C D E F G H I J K L M N O P Q S T U V W X Y Z a1 a2 a3 a4 a5 a6 a7 a8 a9 a10 a11 a12 a13 a14 a15 a16 a17 a18 a19 a20 a21 a22 a23 a24 a25 a26 a27 a28 a29 a30 a31 a32 a33 a34 a35 a36 a37 a38 a39 a40 a41 a42 a43 a44 a45 a46 a47 a48 a49 a50 a51 a52 a53 a54 a55 a56 a57 a58 a59 : DV) (s : List C9)
def VX := eR Tryz.f38 CE EE R [] (F4 Tryz.f38 [(pt i)] s)
def Ez := hR Tryz.f38 CE EE R (pb 466) (ms 301 [(3, a)] [(0, (.ptr i 0))] [(2, bx b 20)] s)
def Bh := eR Tryz.f38 CE EE R (pb 238) (ms 301 [] [(0, (.ptr i 0))] [(2, bx a 20)] s)
def Po := eR Tryz.f38 CE EE R (pb 983039) (ms 301 [(12, a)] [(0, (.ptr i 0))] [(2, bx b 20)] s)
theorem UV : VX R i s =
 (ob (E9 s i) fun c1 => ob (O8 0 20 c1) fun e2 => og (D6 20 (.agg e2)) <| ob (A8 .eql (A7 0 (.agg e2)) (iI 1)) fun d3 => D7 d3 (ob (E9 s i) fun c4 => ob (H5 c4 20) fun d5 => Ez R i d5 (.agg e2) s) (ob (A8 .eql (A7 0 (.agg e2)) (iI 2)) fun d6 => D7 d6 (Bh R i (.agg e2) s) (ob (A8 .eql (A7 0 (.agg e2)) (iI 3)) fun d7 => D7 d7 (Bh R i (.agg e2) s) (ob (A8 .eql (A7 0 (.agg e2)) (iI 4)) fun d8 => D7 d8 (Bh R i (.agg e2) s) (ob (A8 .eql (A7 0 (.agg e2)) (iI 5)) fun d9 => D7 d9 (Bh R i (.agg e2) s) (ob (A8 .eql (A7 0 (.agg e2)) (iI 7)) fun d10 => D7 d10 (oc (R.r Y5 [(pt i), ((.agg ((iI 6)::(iI 0)::(.str ⟨#[]⟩)::(Ab [(.list 9 [])]))), .val)] s) fun q11 s11 => some ([], s11)) (ob (A8 .eql (A7 0 (.agg e2)) (iI 9)) fun d12 => D7 d12 (ob (F5 20 (A7 19 (.agg e2)) (iI 0)) fun d13 => ob (E9 s i) fun c14 => ob (H5 c14 20) fun d15 => og (H6 (A7 3 (.agg e2))) <| og (H6 d15) <| oc (R.r Dx [(pt i), ((.agg ((A7 3 (.agg e2))::(.str ⟨#[]⟩)::(.bool false)::(Y9 d13 [d15]))), .val)] s) fun q16 s16 =>
 oc (R.r Y5 [(pt i), (q16, .val)] s16) fun q17 s17 => some ([], s17)) (ob (A8 .eql (A7 0 (.agg e2)) (iI 6)) fun d18 => D7 d18 (ob (F5 20 (A7 19 (.agg e2)) (iI 1)) fun d19 => ob (E9 s i) fun c20 => ob (H5 c20 20) fun d21 => og (H6 d21) <| oc (R.r R6 [(pt i), ((.agg ((iI 1)::(Y9 d19 ((iI 0)::(Mh ((.str ⟨#[]⟩)::d21::(P9 (Ab [])))))))), .val)] s) fun q22 s22 =>
 ob (F5 20 (A7 19 (.agg e2)) (iI 0)) fun d23 => ob (E9 s22 i) fun c24 => ob (H5 c24 20) fun d25 => oc (R.r O0 [(pt i), ((Q6 d23), .val), (d25, .val)] s22) fun q26 s26 => some ([], s26)) (ob (A8 .eql (A7 0 (.agg e2)) (iI 8)) fun d27 => D7 d27 (ob (F5 20 (A7 19 (.agg e2)) (iI 1)) fun d28 => ob (E9 s i) fun c29 => ob (H5 c29 20) fun d30 => og (H6 d30) <| oc (R.r R6 [(pt i), ((.agg ((iI 3)::(Y9 d28 ((iI 0)::(Mh ((.str ⟨#[]⟩)::d30::(P9 (Ab [])))))))), .val)] s) fun q31 s31 =>
 ob (F5 20 (A7 19 (.agg e2)) (iI 0)) fun d32 => ob (E9 s31 i) fun c33 => ob (H5 c33 20) fun d34 => oc (R.r O0 [(pt i), ((Q6 d32), .val), (d34, .val)] s31) fun q35 s35 => some ([], s35)) (ob (A8 .eql (A7 0 (.agg e2)) (iI 10)) fun d36 => D7 d36 (ob (F5 20 (A7 19 (.agg e2)) (iI 1)) fun d37 => ob (E9 s i) fun c38 => ob (H5 c38 20) fun d39 => og (H6 d39) <| oc (R.r R6 [(pt i), ((.agg ((iI 5)::(Y9 d37 ((iI 0)::(Mh ((.str ⟨#[]⟩)::d39::(P9 (Ab [])))))))), .val)] s) fun q40 s40 =>
 ob (F5 20 (A7 19 (.agg e2)) (iI 0)) fun d41 => ob (E9 s40 i) fun c42 => ob (H5 c42 20) fun d43 => oc (R.r O0 [(pt i), ((Q6 d41), .val), (d43, .val)] s40) fun q44 s44 => some ([], s44)) (ob (A8 .eql (A7 0 (.agg e2)) (iI 11)) fun d45 => D7 d45 (ob (F5 20 (A7 19 (.agg e2)) (iI 1)) fun d46 => ob (E9 s i) fun c47 => ob (H5 c47 20) fun d48 => og (H6 (A7 3 (.agg e2))) <| og (H6 d48) <| oc (R.r R6 [(pt i), ((.agg ((iI 7)::(Y9 d46 ((iI 0)::(Mh ((A7 3 (.agg e2))::d48::(P9 (Ab [])))))))), .val)] s) fun q49 s49 =>
 ob (F5 20 (A7 19 (.agg e2)) (iI 0)) fun d50 => ob (E9 s49 i) fun c51 => ob (H5 c51 20) fun d52 => oc (R.r O0 [(pt i), ((Q6 d50), .val), (d52, .val)] s49) fun q53 s53 => some ([], s53)) (Po R i (A7 0 (.agg e2)) (.agg e2) s)))))))))))) := E8 [13, 30]
theorem EZ : Ez R i a b s =
 (ob (OQ (a, .val) (.B_, .Ba)) fun b1 => D7 (.bool !b1) (ob (bB 11 a) fun d2 => ob (A8 .eql (A7 0 d2) (A7 3 b)) fun d3 => D7 d3 (ob (bB 11 a) fun d4 => oc (R.r Y5 [(pt i), ((.agg (aB d4 [])), .val)] s) fun q5 s5 => some ([], s5)) (ob (bB 11 a) fun d6 => Ez R i (A7 10 d6) b s)) (oc (R.r O6 [(pt i)] s) fun q7 s7 => some ([], s7))) := I7 [13, 30]
theorem Oz : Bh R i a s =
 (ob (A8 .sub (A7 0 a) (iI 2)) fun d1 => ob (A8 .add d1 (iI 1)) fun d2 => og (H6 d2) <| og (H6 (A7 5 a)) <| og (H6 (A7 6 a)) <| oc (R.r Y5 [(pt i), ((.agg (d2::(A7 5 a)::(A7 6 a)::(Ab [(.list 9 [])]))), .val)] s) fun q3 s3 => some ([], s3)) := E8 [13, 30]
theorem O_ : Po R i a b s =
 (ob (A8 .eql a (iI 13)) fun d1 => D7 d1 (ob (F5 20 (A7 19 b) (iI 1)) fun d2 => ob (F5 20 (A7 19 b) (iI 2)) fun d3 => ob (E9 s i) fun c4 => ob (H5 c4 20) fun d5 => og (H6 d5) <| oc (R.r R6 [(pt i), ((.agg ((iI 8)::(Y9 d2 (Y9 d3 ((.str ⟨#[]⟩)::d5::(P9 (Ab []))))))), .val)] s) fun q6 s6 => ob (F5 20 (A7 19 b) (iI 0)) fun d7 => ob (E9 s6 i) fun c8 => ob (H5 c8 20) fun d9 =>
 oc (R.r O0 [(pt i), ((Q6 d7), .val), (d9, .val)] s6) fun q10 s10 => some ([], s10)) (ob (A8 .eql a (iI 14)) fun d11 => D7 d11 (ob (E9 s i) fun c12 => ob (H5 c12 20) fun d13 => og (H6 d13) <| oc (R.r R6 [(pt i), ((.agg ((iI 9)::(Y9 b ((iI 0)::(Mh ((.str ⟨#[]⟩)::d13::(P9 (Ab [])))))))), .val)] s) fun q14 s14 => ob (F5 20 (A7 19 b) (iI 0)) fun d15 => ob (E9 s14 i) fun c16 =>
 ob (H5 c16 20) fun d17 => oc (R.r O0 [(pt i), ((Q6 d15), .val), (d17, .val)] s14) fun q18 s18 => some ([], s18)) (ob (A8 .eql a (iI 15)) fun d19 => D7 d19 (ob (E9 s i) fun c20 => ob (H5 c20 20) fun d21 => og (H6 d21) <| oc (R.r R6 [(pt i), ((.agg ((iI 10)::(Y9 b ((iI 0)::(Mh ((.str ⟨#[]⟩)::d21::(P9 (Ab [])))))))), .val)] s) fun q22 s22 => ob (F5 20 (A7 19 b) (iI 0)) fun d23 =>
 ob (E9 s22 i) fun c24 => ob (H5 c24 20) fun d25 => oc (R.r O0 [(pt i), ((Q6 d23), .val), (d25, .val)] s22) fun q26 s26 => some ([], s26)) (ob (A8 .eql a (iI 12)) fun d27 => D7 d27 (ob (F5 20 (A7 19 b) (iI 0)) fun d28 => ob (E9 s i) fun c29 => ob (H5 c29 20) fun d30 => og (H6 (A7 4 b)) <| og (H6 (A7 3 b)) <| og (H6 d30) <| oc (R.r Dx [(pt i), ((.agg ((A7 4 b)::(A7 3 b)::(.bool true)::(Y9 d28 [d30]))), .val)] s) fun q31 s31 => og (D6 9 q31) <| ob (F5 20 (A7 19 b) (iI 1)) fun d32 => ob (E9 s31 i) fun c33 => ob (H5 c33 20) fun d34 => ob (R.p Dy [d34, (A7 3 b), (.agg (V3 q31 []))]) fun d35 =>
 oc (R.r O0 [(pt i), ((Q6 d32), .val), (d35, .val)] s31) fun q36 s36 => some ([], s36)) (ob (A8 .eql a (iI 16)) fun d37 => D7 d37 (ob (R.p aU [(.agg [(A7 11 b), (A7 12 b), (A7 13 b)]), (.agg [(A7 14 b), (A7 15 b), (A7 16 b)]), (A7 8 b), (A7 9 b)]) fun d38 => ob (J5 0 d38) fun d39 => ob (J5 1 d38) fun d40 => og (D6 5 d39) <| ob (A8 .neq d40 (iI 0)) fun d41 => D7 d41 (oc (R.r O6 [(pt i)] s) fun q42 s42 => some ([], s42)) (oc (R.r Ib [(pt i), ((P6 d39), .val)] s) fun q43 s43 => ob (F5 20 (A7 19 b) (iI 0)) fun d44 => ob (E9 s43 i) fun c45 => ob (H5 c45 20) fun d46 => oc (R.r O0 [(pt i), ((Q6 d44), .val), (d46, .val)] s43) fun q47 s47 => some ([], s47))) (some ([], s))))))) := E8 [13, 30]
theorem Sb : (run cfg).r Lj [(.undef, (.ptr i 0))] s = VX (run cfg) i s := DF (s := CE) Tryz.func38
def Te := eR Tryz.f39 DK Fs R [] (F4 Tryz.f39 [(pt i), (a, .val)] s)
def EW := eR Tryz.f39 DK Fs R (pb 122877) (ms 194 [] [(0, (.ptr i 0))] [(3, bx a 57)] s)
def Ou := eR Tryz.f39 DK Fs R (pb 983039) (ms 194 [(9, a)] [(0, (.ptr i 0))] [(3, bx b 57)] s)
theorem SH : Te R i a s =
 (og (D6 57 a) <| ob (A8 .eql (A7 0 a) (iI 1)) fun d1 => D7 d1 (oc (R.r Cs [(pt i), ((iI 2), .val), ((.agg (YI a [])), .val), ((.agg (JA a [])), .val)] s) fun q2 s2 =>
 some ([], s2)) (ob (A8 .eql (A7 0 a) (iI 3)) fun d3 => D7 d3 (oc (R.r Cs [(pt i), ((iI 4), .val), ((.agg (YI a [])), .val), ((.agg (JA a [])), .val)] s) fun q4 s4 =>
 some ([], s4)) (ob (A8 .eql (A7 0 a) (iI 5)) fun d5 => D7 d5 (oc (R.r Cs [(pt i), ((iI 6), .val), ((.agg (YI a [])), .val), ((.agg (JA a [])), .val)] s) fun q6 s6 =>
 some ([], s6)) (ob (A8 .eql (A7 0 a) (iI 10)) fun d7 => D7 d7 (ob (F5 20 (A7 20 a) (iI 1)) fun d8 => oc (R.r Cs [(pt i), ((iI 11), .val), ((.agg (YI a [])), .val), ((Q6 d8), .val)] s) fun q9 s9 => some ([], s9)) (ob (A8 .eql (A7 0 a) (iI 2)) fun d10 => D7 d10 (ob (E9 s i) fun c11 => ob (O8 21 9 c11) fun e12 => og (D6 9 (.agg e12)) <| oc (R.r Y5 [(pt i), ((.agg ((iI 5)::(iI 0)::(.str ⟨#[]⟩)::(Ab [(.list 9 [(.agg (A0w a [])), (.agg e12)])]))), .val)] s) fun q13 s13 =>
 some ([], s13)) (ob (A8 .eql (A7 0 a) (iI 4)) fun d14 => D7 d14 (ob (E9 s i) fun c15 => ob (H5 c15 21) fun d16 => ob (A8 .neq d16 (iI 6)) fun d17 => F7 d17 (ob (E9 s i) fun c18 => ob (H5 c18 21) fun d19 => ob (A8 .neq d19 (iI 7)) fun d20 => F7 d20 (oc (R.r O6 [(pt i)] s) fun q21 s21 => some ([], s21)) (ob (E9 s i) fun c22 => ob (H5 c22 24) fun d23 => ob (A8 .eql d23 (iI 5)) fun d24 => D7 d24 (oc (R.r O6 [(pt i)] s) fun q25 s25 => some ([], s25)) (EW R i a s)) none) (ob (E9 s i) fun c26 => ob (H5 c26 24) fun d27 => ob (A8 .eql d27 (iI 5)) fun d28 => D7 d28 (oc (R.r O6 [(pt i)] s) fun q29 s29 => some ([], s29)) (EW R i a s)) none) (ob (A8 .eql (A7 0 a) (iI 6)) fun d30 => D7 d30 (oc (R.r Li [(pt i), ((.agg (A0w a [])), .val)] s) fun q31 s31 => some ([], s31)) (ob (A8 .eql (A7 0 a) (iI 7)) fun d32 =>
 D7 d32 (ob (E9 s i) fun c33 => ob (O8 21 9 c33) fun e34 => ob (R.p Dy [(A7 42 a), (A7 41 a), (.agg e34)]) fun d35 => oc (R.r O0 [(pt i), ((.agg (JA a [])), .val), (d35, .val)] s) fun q36 s36 => some ([], s36)) (Ou R i (A7 0 a) a s))))))))) := E8 [15, 20]
theorem NE : EW R i a s =
 (ob (E9 s i) fun c1 => ob (O8 21 9 c1) fun e2 => og (D6 9 (.agg e2)) <| oc (R.r Y5 [(pt i), ((.agg ((iI 7)::(iI 0)::(.str ⟨#[]⟩)::(Ab [(.list 9 [(.agg (A0w a [])), (.agg e2)])]))), .val)] s) fun q3 s3 => some ([], s3)) := E8 [15, 20]
theorem NF : Ou R i a b s =
 (ob (A8 .eql a (iI 8)) fun d1 => D7 d1 (ob (E9 s i) fun c2 => ob (H5 c2 21) fun d3 => ob (A8 .neq d3 (iI 2)) fun d4 => F7 d4 (oc (R.r O6 [(pt i)] s) fun q5 s5 => some ([], s5)) (ob (E9 s i) fun c6 => ob (O8 21 9 c6) fun e7 => ob (R.p Hd [(.agg e7)]) fun d8 => ob (M5 .not d8) fun d9 => D7 d9 (oc (R.r O6 [(pt i)] s) fun q10 s10 => some ([], s10)) (ob (E9 s i) fun c11 => ob (H5 c11 22) fun d12 => ob (A8 .eql d12 (iI 1)) fun d13 => D7 d13 (oc (R.r O0 [(pt i), ((.agg (JA b [])), .val), ((A7 42 b), .val)] s) fun q14 s14 => some ([], s14)) (oc (R.r O0 [(pt i), ((.agg (B1t b [])), .val), ((A7 42 b), .val)] s) fun q15 s15 =>
 some ([], s15)))) none) (ob (A8 .eql a (iI 11)) fun d16 => D7 d16 (ob (E9 s i) fun c17 => ob (O8 21 9 c17) fun e18 => ob (R.p Vo [(.agg (JA b [])), (.agg (A0w b [])), (.agg e18)]) fun d19 => ob (J5 0 d19) fun d20 => ob (J5 1 d19) fun d21 => og (D6 9 d20) <| og (D6 15 d21) <| ob (A8 .neq (A7 0 d21) (iI 0)) fun d22 => D7 d22 (oc (R.r Y1 [(pt i), ((EU d21), .val)] s) fun q23 s23 => some ([], s23)) (oc (R.r Y5 [(pt i), ((R8 d20), .val)] s) fun q24 s24 => some ([], s24))) (ob (A8 .eql a (iI 9)) fun d25 => D7 d25 (oc (R.r KT [(pt i), ((.agg (YI b [])), .val)] s) fun q26 s26 =>
 some ([], s26)) (ob (A8 .eql a (iI 12)) fun d27 => D7 d27 (ob (E9 s i) fun c28 => ob (O8 21 9 c28) fun e29 => ob (R.r Eb [(pt i), ((.agg e29), .val), ((.agg (oN b [])), .val)] s) fun q30 => ob (J5 0 (.H7 q30.1)) fun d31 => ob (J5 1 (.H7 q30.1)) fun d32 => og (D6 9 d31) <| D7 d32 (oc (R.r Y5 [(pt i), ((R8 d31), .val)] q30.2) fun q33 s33 => some ([], s33)) (some ([], q30.2))) (some ([], s)))))) := E8 [15, 20]
theorem QE : (run cfg).r KS [(.undef, (.ptr i 0)), (a, .val)] s = Te (run cfg) i a s := DF (s := DK) Tryz.func39
def xJ := eR Tryz.f40 HV LJ R [] (F4 Tryz.f40 [(pt i)] s)
def Ji := eR Tryz.f40 HV LJ R (pb 15) (ms 111 [(3, a)] [(0, (.ptr i 0))] [(2, bv [b, c, d, e, f, g, h, o, p])] s)
def Jj := eR Tryz.f40 HV LJ R (pb 63) (ms 111 [(3, a)] [(0, (.ptr i 0))] [(2, bv [b, c, d, e, f, g, h, o, p]), (4, bv (q::r::t::(Ab [(.list 9 [])])))] s)
def MI := eR Tryz.f40 HV LJ R (pb 511) (ms 111 [] [(0, (.ptr i 0))] [] s)
theorem tX : xJ R i s =
 (ob (E9 s i) fun c1 => ob (H5 c1 51) fun d2 => ob (F5 9 d2 (iI 0)) fun d3 => ob (E9 s i) fun c4 => ob (H5 c4 51) fun d5 => ob (Ak 9 d5 (some (iI 1)) none) fun d6 => ob (A8 .eql (A7 3 d3) (iI 5)) fun d7 => D7 d7 (ob (F5 5 (A7 7 d3) (iI 0)) fun d8 => ob (A8 .eql (A7 0 d8) (iI 1)) fun d9 => D7 d9 (Ji R i d6 (A7 0 d3) (A7 1 d3) (A7 2 d3) (iI 0) (iI 0) (iI 0) (.bool false) (.list 5 []) (A7 8 d3) s) (Ji R i d6 (A7 0 d3) (A7 1 d3) (A7 2 d3) (A7 0 d8) (A7 1 d8) (A7 2 d8) (A7 3 d8) (A7 4 d8) (A7 8 d3) s)) (Ji R i d6 (A7 0 d3) (A7 1 d3) (A7 2 d3) (A7 3 d3) (A7 4 d3) (A7 5 d3) (A7 6 d3) (A7 7 d3) (A7 8 d3) s)) := E8 [6, 9, 18]
theorem g_ : Ji R i a b c d e f g h o p s =
 (og (H6 b) <| og (H6 c) <| og (H6 d) <| ob (A8 .eql b (iI 8)) fun d1 => D7 d1 (Jj R i a b c d e f g h o p b (iI 0) d s) (Jj R i a b c d e f g h o p b c d s)) := E8 [6, 9, 18]
theorem h_ : Jj R i a b c d e f g h o p q r t s =
 (ob (E9 s i) fun c1 => ob (X9 c1 52) fun d2 => ob (dLen d2) fun d3 => ob (Kb 9 d2 (.list 9 [(.agg (P9 []))])) fun p4 => ob (AF 0 (p4.1.length + p4.2.length) d3) fun n5 => ob (Fw ((s.set i (C9.box (c1.set 52 (d2, .val)))) ++ [C9.opn 9 p4.1 p4.2]) ((s.set i (C9.box (c1.set 52 (d2, .val))))).length) fun q6 => og (q6.1 == 9 && true) <| ob (Lf q6 n5 (.agg (q::r::t::(Ab [(.list 9 [])])))) fun x7 => ob (E9 (((s.set i (C9.box (c1.set 52 (d2, .val)))) ++ [C9.opn 9 p4.1 p4.2]).set ((s.set i (C9.box (c1.set 52 (d2, .val))))).length (x7)) i) fun c8 => ob (c8[52]?) fun u9 => ob (E9 ((((s.set i (C9.box (c1.set 52 (d2, .val)))) ++ [C9.opn 9 p4.1 p4.2]).set ((s.set i (C9.box (c1.set 52 (d2, .val))))).length (x7)).set i (C9.box (c8.set 52 (.undef, (.arr ((s.set i (C9.box (c1.set 52 (d2, .val))))).length 9 0 (p4.1.length + p4.2.length)))))) i) fun c10 => ob (OP c10 52) fun a11 => ob (Fw ((((s.set i (C9.box (c1.set 52 (d2, .val)))) ++ [C9.opn 9 p4.1 p4.2]).set ((s.set i (C9.box (c1.set 52 (d2, .val))))).length (x7)).set i (C9.box (c8.set 52 (.undef, (.arr ((s.set i (C9.box (c1.set 52 (d2, .val))))).length 9 0 (p4.1.length + p4.2.length)))))) a11.1) fun q12 =>
 ob (Hr q12 a11.2.1 a11.2.2) fun d13 => ob (E9 ((((((s.set i (C9.box (c1.set 52 (d2, .val)))) ++ [C9.opn 9 p4.1 p4.2]).set ((s.set i (C9.box (c1.set 52 (d2, .val))))).length (x7)).set i (C9.box (c8.set 52 (.undef, (.arr ((s.set i (C9.box (c1.set 52 (d2, .val))))).length 9 0 (p4.1.length + p4.2.length)))))).set i (C9.box (c10.set 52 (d13, .own)))).set a11.1 (.arr 1 [])) i) fun c14 => og (H6 a) <| ob (c14[51]?) fun u15 => ob (dLen p) fun d16 => ob (A8 .eql d16 (iI 2)) fun d17 => D7 d17 (ob (R.p XH [(.agg [b, c, d, e, f, g, h, o, p])]) fun d18 => ob (J5 0 d18) fun d19 => ob (J5 1 d18) fun d20 => ob (J5 2 d18) fun d21 => ob (J5 3 d18) fun d22 => og (D6 9 d19) <| og (D6 9 d20) <| og (D6 15 d21) <| ob (A8 .neq d22 (iI 0)) fun d23 => D7 d23 (oc (R.r Y2 [(pt i)] (((((((s.set i (C9.box (c1.set 52 (d2, .val)))) ++ [C9.opn 9 p4.1 p4.2]).set ((s.set i (C9.box (c1.set 52 (d2, .val))))).length (x7)).set i (C9.box (c8.set 52 (.undef, (.arr ((s.set i (C9.box (c1.set 52 (d2, .val))))).length 9 0 (p4.1.length + p4.2.length)))))).set i (C9.box (c10.set 52 (d13, .own)))).set a11.1 (.arr 1 [])).set i (C9.box (c14.set 51 (a, .val))))) fun q24 s24 =>
 some ([], s24)) (ob (A8 .neq (A7 0 d21) (iI 0)) fun d25 => D7 d25 (oc (R.r CZ [(pt i), ((EU d21), .val)] (((((((s.set i (C9.box (c1.set 52 (d2, .val)))) ++ [C9.opn 9 p4.1 p4.2]).set ((s.set i (C9.box (c1.set 52 (d2, .val))))).length (x7)).set i (C9.box (c8.set 52 (.undef, (.arr ((s.set i (C9.box (c1.set 52 (d2, .val))))).length 9 0 (p4.1.length + p4.2.length)))))).set i (C9.box (c10.set 52 (d13, .own)))).set a11.1 (.arr 1 [])).set i (C9.box (c14.set 51 (a, .val))))) fun q26 s26 => some ([], s26)) (ob (AQ 9 (.list 9 [(R8 d19), (R8 d20)]) a) fun d27 => ob (E9 (((((((s.set i (C9.box (c1.set 52 (d2, .val)))) ++ [C9.opn 9 p4.1 p4.2]).set ((s.set i (C9.box (c1.set 52 (d2, .val))))).length (x7)).set i (C9.box (c8.set 52 (.undef, (.arr ((s.set i (C9.box (c1.set 52 (d2, .val))))).length 9 0 (p4.1.length + p4.2.length)))))).set i (C9.box (c10.set 52 (d13, .own)))).set a11.1 (.arr 1 [])).set i (C9.box (c14.set 51 (a, .val)))) i) fun c28 => ob (c28[51]?) fun u29 => MI R i ((((((((s.set i (C9.box (c1.set 52 (d2, .val)))) ++ [C9.opn 9 p4.1 p4.2]).set ((s.set i (C9.box (c1.set 52 (d2, .val))))).length (x7)).set i (C9.box (c8.set 52 (.undef, (.arr ((s.set i (C9.box (c1.set 52 (d2, .val))))).length 9 0 (p4.1.length + p4.2.length)))))).set i (C9.box (c10.set 52 (d13, .own)))).set a11.1 (.arr 1 [])).set i (C9.box (c14.set 51 (a, .val)))).set i (C9.box (c28.set 51 (d27, .own))))))) (MI R i (((((((s.set i (C9.box (c1.set 52 (d2, .val)))) ++ [C9.opn 9 p4.1 p4.2]).set ((s.set i (C9.box (c1.set 52 (d2, .val))))).length (x7)).set i (C9.box (c8.set 52 (.undef, (.arr ((s.set i (C9.box (c1.set 52 (d2, .val))))).length 9 0 (p4.1.length + p4.2.length)))))).set i (C9.box (c10.set 52 (d13, .own)))).set a11.1 (.arr 1 [])).set i (C9.box (c14.set 51 (a, .val)))))) := E8 [6, 9, 18]
theorem bU : MI R i s =
 (ob (E9 s i) fun c1 => ob (H5 c1 51) fun d2 => ob (dLen d2) fun d3 => ob (A8 .eql d3 (iI 0)) fun d4 => D7 d4 (ob (E9 s i) fun c5 => ob (H5 c5 52) fun d6 => ob (R.p Pj [d6]) fun d7 => ob (J5 0 d7) fun d8 => ob (J5 1 d7) fun d9 => og (D6 9 d8) <| oc (R.r CZ [(pt i), ((.agg ((iI 1)::(V3 d8 (Bz [])))), .val)] s) fun q10 s10 => some ([], s10)) (some ([], s))) := E8 [6, 9, 18]
theorem nM : (run cfg).r TL [(.undef, (.ptr i 0))] s = xJ (run cfg) i s := DF (s := HV) Tryz.func40
end
end Go.Su
