/-
  Parts of the proof, merged: Q, TJ1, TJ2, TJ3, TJ4, TJ5, TJ6, TJ7.
-/
import Derived.Test.YtbmglmlodflfeaaGreatP3
import Derived.Test.YtbmglmlodflfeaaGreatP4
import Derived.Test.YtbmglmlodflfeaaGreatP5
set_option linter.unusedVariables false
set_option linter.unusedSimpArgs false
/-
 The functions' specs that this claim needs.
-/
open Bool renaming false_eq_true → z8q, true_and → z24q, eq_false_iff → z26q, not_eq_true → z27q, eq_iff_iff → z28q, not_false → z30q, and_eq_true → z32q, not_true → z37q, false_and → z43q, and_false → z57q
open Int renaming cast_ofNat_Int → z5q, natCast_zero → z11q, ofNat_zero → z13q, ofNat_inj → z15q, ofNat_lt → z38q, natCast_nonneg → z54q, le_refl → z56q, toNat_natCast → z58q
open List renaming getElem_mem → z0q, drop_eq_getElem_cons → z1q, getD_eq_getElem?_getD → z2q, drop_of_length_le → z3q, length_map → z6q, eq_nil_of_length_eq_zero → z7q, getElem?_eq_getElem → z9q, map_cons → z10q, take_succ_eq_append_getElem → z12q, map_nil → z14q, drop_zero → z16q, take_of_length_le → z17q, sum_cons → z18q, append_assoc → z19q, mem_map_of_mem → z20q, map_id_fun' → z21q, mem_cons_self → z22q, mem_singleton → z23q, mem_take_iff_getElem → z25q, singleton_append → z29q, nodup_iff_pairwise_ne → z34q, getD_cons_zero → z35q, pairwise_iff_getElem → z36q, length_append → z39q, flatMap_cons → z40q, getElem?_cons_succ → z41q, getElem?_cons_zero → z42q, getElem?_set_self → z45q, length_cons → z46q, all_cons → z47q, mem_cons_of_mem → z48q, mem_append → z49q, nil_append → z50q, length_zip → z51q, find?_cons → z52q, of_mem_zip → z53q, set_set → z55q, mem_cons → z59q, nodup_append → z61q, zip_nil_left → z62q, not_mem_nil → z63q, length_take → z64q
open Nat renaming le_of_lt → z4q, le_refl → z33q, zero_le → z44q, lt_or_ge → z60q
open Option renaming getD_some → z31q, bind_none → z65q, bind_some → z66q
namespace Go.Su
theorem big {n : Nat} (h : n ≤ lim) : n < 4294967297 := by unfold lim at h; omega
theorem Ty.B4a {t k : Ty} (ht : t.size ≤ lim) (h : k ∈ t.kids) : k.size ≤ lim := by have := Ty.eF h; omega
theorem Ty.A8Q {t : Ty} (ht : t.size ≤ lim) : t.kids.length < 4294967296 := by have := t.x_; have := big ht; omega
theorem A8i (k : Int) : (run cfg).p nI [.int .i64 k] = some (.int .i64 (arity k)) := by
 refine (wS _).trans ?_;rw [A0G];simp [arity]
 by_cases h1 : k = 1 <;> by_cases h2 : k = 2 <;> by_cases h3 : k = 3 <;> by_cases h4 : k = 4 <;> by_cases h5 : k = 5 <;> by_cases h6 : k = 6 <;> by_cases h7 : k = 7 <;> by_cases h8 : k = 8 <;> by_cases h9 : k = 9 <;> simp_all
theorem A7N (k : Int) : (run cfg).p iq [.int .i64 k] = some (.int .i64 (arity k)) := by
 refine (sN _).trans ?_;rw [wI];simp [arity]
 by_cases h1 : k = 1 <;> by_cases h2 : k = 2 <;> by_cases h3 : k = 3 <;> by_cases h4 : k = 4 <;> by_cases h5 : k = 5 <;> by_cases h6 : k = 6 <;> by_cases h7 : k = 7 <;> by_cases h8 : k = 8 <;> by_cases h9 : k = 9 <;> simp_all
theorem yR (t : Ty) : t.thin = true → (run cfg).p QP [t.enc] = some (.bool t.right) := by
 induction t using Ty.ind with
 | h t ih =>
   intro ht;have hb := t.Av ht;refine (rW _).trans ?_;have loop : Gh (run cfg) (.int .i64 0) t.enc = _ := Lx (l := t.kids) (f := Ty.right) (P := fun i => Gh (run cfg) (.int .i64 i) t.enc) (y := .bool true) (n := .bool false)
    (by rw [UW]; simp)
    (fun i h => by
      rw [UW];simp [h, F3 h, Ty.D8, Ty.ag, ih _ (z0q h) (Ty.Bu ht (z0q h)), J7 (show i < 9223372036854775807 by omega)]
      cases t.kids[i].right <;> rfl)
   rw [vV];simp only [JA, O6, Ty.Y3, Ty.Ar, Ty.AV, A8i, I1, BB, JJ, Br, Ct, X3, N9, loop, Ty.right_eq t, z6q]
   grind
theorem A7O (t : Ty) : t.thin = true → (run cfg).p XI [t.enc] = some (.bool t.right) := by
 induction t using Ty.ind with
 | h t ih =>
   intro ht;have hb := t.Av ht;refine (sO _).trans ?_;have loop : KI (run cfg) (.list 3 (t.kids.map Ty.enc)) (.int .i64 t.kids.length) (.int .i64 0) = _ := Lx (l := t.kids) (f := Ty.right) (P := fun i => KI (run cfg) (.list 3 (t.kids.map Ty.enc)) (.int .i64 t.kids.length) (.int .i64 i)) (y := .bool true) (n := .bool false)
    (by rw [Uh]; simp)
    (fun i h => by
      rw [Uh];simp [h, F3 h, Ty.D8, Ty.ag, ih _ (z0q h) (Ty.Bu ht (z0q h)), J7 (show i < 9223372036854775807 by omega)]
      cases t.kids[i].right <;> rfl)
   rw [wJ];simp only [JA, O6, Ty.Y3, Ty.Ar, Ty.AV, A7N, I1, BB, JJ, Br, Ct, Vw, Ni, CZ, X3, N9, loop, Ty.right_eq t, z6q];have h0 : t.kind = 6 → arity t.kind = 0 := fun h => by rw [h]; rfl
   have h7 : t.kind = 6 → arity t.kind = t.kids.length → t.kids.all Ty.right = true := fun h h' => by
    have : t.kids = [] := z7q (by have := h0 h; omega)
    rw [this]; rfl
   have h8 : (t.kids.length : Int) = arity t.kind ↔ arity t.kind = t.kids.length := eq_comm;simp only [h8, B08, B07];refine B6i ?_
   by_cases h1 : arity t.kind = t.kids.length
   ·have h2 : ¬ (arity t.kind < 0) := by omega
    by_cases h4 : t.kind = 6
    ·simp [h1, h2, h4, h7 h4 h1]
     omega
    ·by_cases h5 : t.n = 0 <;> simp [h1, h2, h4, h5]
   ·by_cases h2 : arity t.kind < 0 <;> simp [h1, h2]
theorem Ce (t : Ty) (ht : t.thin = true) : (run cfg).p E_ [t.enc] = some (.int .i64 (if t.right = true then 0 else 1)) := by
 refine (sM _).trans ?_;rw [wH];simp [Ty.D8, Ty.ag, A7O t ht];cases t.right <;> rfl
theorem Qt (t : Ty) : t.size ≤ lim → (run cfg).p IW [t.enc] = some (.int .i64 t.size) := by
 induction t using Ty.ind with
 | h t ih =>
   intro ht;have hb := Ty.A8Q ht;refine (wX _).trans ?_;rw [A0L];simp only [JA, O6];have loop := FR (l := t.kids) (P := fun i (a : Nat) => RF (run cfg) (.int .i64 a) (.int .i64 i) t.enc) (g := fun a k => a + k.size) (fin := fun a => some (.int .i64 a))
    (I := fun i a => a + ((t.kids.drop i).map Ty.size).sum ≤ lim)
    (fun a _ => by rw [WC]; simp)
    (fun i h a ha => by
      rw [z1q h, z10q, z18q] at ha;have := big ha;refine ⟨?_, by omega⟩
      rw [WC];simp [h, F3 h, Ty.D8, Ty.ag, ih _ (z0q h) (Ty.B4a ht (z0q h)), J7 (show i < 9223372036854775807 by omega)]
      rw [Ck (by omega) (by omega)]
      simp) 1 (by have := Ty.size_eq t; simpa using (by omega : 1 + (t.kids.map Ty.size).sum ≤ lim))
   have e : ∀ (l : List Ty) (a : Nat), l.foldl (fun a k => a + k.size) a = a + (l.map Ty.size).sum := by
    intro l
    induction l with
    | nil => intro a; simp
    | cons x l ih => intro a; simp [ih]; omega
   rw [e, ← Ty.size_eq] at loop;exact loop
theorem JX (a : Ty) : a.thin = true → ∀ b : Ty, (run cfg).p Ez [a.enc, b.enc] = some (.bool (decide (a = b))) := by
 induction a using Ty.ind with
 | h a ih =>
   intro ha b;have hb := a.Av ha;refine (wW _ _).trans ?_;rw [A0K];simp
   by_cases h1 : a.kind = b.kind <;> simp [h1, Ty.Cu]
   by_cases h2 : a.n = b.n <;> simp [h2]
   by_cases h3 : a.kids.length = b.kids.length
   ·have loop := JV (l := a.kids) (m := b.kids) h3 (P := fun i => RD (run cfg) (.int .i64 i) a.enc b.enc) (y := .bool true) (n := .bool false)
     (by rw [WB]; simp [h3])
     (fun i h => by
       have h' : i < b.kids.length := by omega
       rw [WB];simp [h, h', F3 h, F3 h', Ty.D8, Ty.ag, ih _ (z0q h) (Ty.Bu ha (z0q h)), J7 (show i < 9223372036854775807 by omega)])
    simp only [h3] at loop ⊢;simp [loop]
    by_cases h4 : a.kids = b.kids <;> simp [h4]
   ·have : a.kids ≠ b.kids := fun h => h3 (by rw [h])
    simp [z15q, h3, this]
theorem Oa (a : Ty) : a.thin = true → ∀ b : Ty, (run cfg).p JG [a.enc, b.enc] = some (.bool (decide (a = b))) := by
 induction a using Ty.ind with
 | h a ih =>
   intro ha b;have hb := a.Av ha;refine (rE _ _).trans ?_;rw [vH];simp
   by_cases h1 : a.kind = b.kind <;> simp [h1, Ty.Cu]
   by_cases h2 : a.n = b.n <;> simp [h2]
   by_cases h3 : a.kids.length = b.kids.length
   ·have loop := JV (l := a.kids) (m := b.kids) h3 (P := fun i => Oq (run cfg) (.int .i64 i) a.enc b.enc) (y := .bool true) (n := .bool false)
     (by rw [UJ]; simp [h3])
     (fun i h => by
       have h' : i < b.kids.length := by omega
       rw [UJ];simp [h, h', F3 h, F3 h', Ty.D8, Ty.ag, ih _ (z0q h) (Ty.Bu ha (z0q h)), J7 (show i < 9223372036854775807 by omega)])
    simp only [h3] at loop ⊢;simp [loop]
    by_cases h4 : a.kids = b.kids <;> simp [h4]
   ·have : a.kids ≠ b.kids := fun h => h3 (by rw [h])
    simp [z15q, h3, this]
theorem A4n (a b : List Ty) (hl : a.length ≤ lim) (ha : ∀ t ∈ a, t.thin = true) : (run cfg).p YP [.list 3 (a.map Ty.enc), .list 3 (b.map Ty.enc)] = some (.bool (decide (a = b))) := by
 have hb := big hl;refine (gL _ _).trans ?_;rw [kW];simp
 by_cases h3 : a.length = b.length
 ·have loop := JV (l := a) (m := b) h3 (P := fun i => LZ (run cfg) (.list 3 (a.map Ty.enc)) (.list 3 (b.map Ty.enc)) (.int .i64 i)) (y := .bool true) (n := .bool false)
   (by rw [QD]; simp [h3])
   (fun i h => by
     have h' : i < b.length := by omega
     rw [QD];simp [h, h', F3 h, F3 h', Ty.D8, Ty.ag, JX _ (ha _ (z0q h)), J7 (show i < 9223372036854775807 by omega)])
  simp only [h3] at loop ⊢;simp [loop]
  by_cases h4 : a = b <;> simp [h4]
 ·have : a ≠ b := fun h => h3 (by rw [h])
  simp [z15q, h3, this]
theorem nC (q : Int) (t : Ty) : t.thin = true → (run cfg).p MF [t.enc, .int .i64 q] = some (.bool (t.without q)) := by
 induction t using Ty.ind with
 | h t ih =>
   intro ht;have hb := t.Av ht;refine (gV _ _).trans ?_;have loop : Gw (run cfg) (.int .i64 q) (.list 3 (t.kids.map Ty.enc)) (.int .i64 t.kids.length) (.int .i64 0) = _ := YB (l := t.kids) (f := Ty.without q) (P := fun i => Gw (run cfg) (.int .i64 q) (.list 3 (t.kids.map Ty.enc)) (.int .i64 t.kids.length) (.int .i64 i))
    (by rw [QH]; simp)
    (fun i h => by
      rw [QH];simp [h, F3 h, Ty.D8, Ty.ag, ih _ (z0q h) (Ty.Bu ht (z0q h)), J7 (show i < 9223372036854775807 by omega)]
      cases (t.kids[i].without q) <;> rfl)
   rw [lF];simp only [loop, JA, O6, Ty.Y3, Ty.AV, I1, BB, CZ, N9, z6q, Ty.A3P q t]
   by_cases h1 : t.kind = q <;> simp [h1]
theorem Pg (q : Int) (t : Ty) : t.thin = true → (run cfg).p F_ [t.enc, .int .i64 q] = some (.bool (t.without q)) := by
 induction t using Ty.ind with
 | h t ih =>
   intro ht;have hb := t.Av ht;refine (gM _ _).trans ?_;have loop : Gt (run cfg) (.int .i64 q) (.int .i64 0) t.enc = _ := YB (l := t.kids) (f := Ty.without q) (P := fun i => Gt (run cfg) (.int .i64 q) (.int .i64 i) t.enc)
    (by rw [QE]; simp)
    (fun i h => by
      rw [QE];simp [h, F3 h, Ty.D8, Ty.ag, ih _ (z0q h) (Ty.Bu ht (z0q h)), J7 (show i < 9223372036854775807 by omega)]
      cases (t.kids[i].without q) <;> rfl)
   rw [kX];simp only [loop, JA, O6, Ty.Y3, Ty.AV, I1, BB, CZ, N9, z6q, Ty.A3P q t]
   by_cases h1 : t.kind = q <;> simp [h1]
theorem Yt (t : Ty) (ht : t.thin = true) : (run cfg).p Na [t.enc] = some (.bool (t.without 6)) := by
 refine (lq _).trans ?_;rw [qp];simp [Ty.D8, Ty.ag, nC 6 t ht]
theorem yQ (l : List Int) (hl : l.length ≤ lim) (n : Int) : (run cfg).p aP [F4 l, .int .i64 n] = some (.bool (decide (n ∈ l))) := by
 have hb := big hl;refine (A22 _ _).trans ?_;rw [A4M];have loop := yB (l := l) (f := fun x => decide (x = n)) (P := fun i => XJ (run cfg) (F4 l) (.int .i64 n) (.int .i64 i))
  (by rw [bC]; simp)
  (fun i h => by
    rw [bC];simp [h, U0 h, J7 (show i < 9223372036854775807 by omega)])
 refine loop.trans ?_
 congr 2
 rw [z28q];simp
theorem A8j (t : Ty) : ∀ (l : List Int) (sg : List D7), l.length + t.size ≤ lim → (run cfg).r ZP [(t.enc, .val), (F4 l, .own)] sg = some ([F4 (t.BO l)], sg) := by
 induction t using Ty.ind with
 | h t ih =>
   intro l sg hl;have hb := Ty.A8Q (show t.size ≤ lim by omega)
   have hB := big hl;refine (wZ _ _ _).trans ?_;have loop : ∀ l : List Int, l.length + (t.kids.map Ty.size).sum ≤ lim → MI (run cfg) (F4 l) (.int .i64 0) t.enc sg = some ([F4 (t.kids.foldl (fun l k => k.BO l) l)], sg) :=
    FR (l := t.kids) (P := fun i (a : List Int) => MI (run cfg) (F4 a) (.int .i64 i) t.enc sg) (g := fun a k => k.BO a) (fin := fun a => some ([F4 a], sg))
     (I := fun i a => a.length + ((t.kids.drop i).map Ty.size).sum ≤ lim)
     (fun a _ => by rw [WE]; simp)
     (fun i h a ha => by
       rw [z1q h, z10q, z18q] at ha;have h1 := Ty.A3N t.kids[i] a;refine ⟨?_, by omega⟩
       rw [WE];simp [h, F3 h, Ty.D8, Ty.ag, ih _ (z0q h) a sg (by omega), J7 (show i < 9223372036854775807 by omega)])
   have Y9 := Ty.size_eq t;rw [A0N, Ty.YJ];simp
   by_cases h6 : t.kind = 6
   ·simp [h6, yQ l (by omega) t.n]
    by_cases hn : t.n ∈ l
    ·simp [hn, Ra, loop l (by omega)]
    ·simp [hn, Ra]
     rw [show F4 l = .list 1 (l.map fun n => .int .i64 n) from rfl, Dj (by simp; omega)]
     simp;have := loop (l ++ [t.n]) (by simp; omega)
     simpa [F4] using this
   ·simp [h6, Ra, loop l (by omega)]
theorem A1y (t : Ty) (ht : t.size ≤ lim) : (run cfg).p ZO [t.enc] = some (F4 t.vars) := by
 refine (wY _).trans ?_;rw [A0M];have := A8j t [] [] (by simpa using ht)
 have e : F4 [] = .list 1 [] := rfl;rw [e] at this;simp [Ty.D8, Ty.ag, this, Ty.vars]
theorem Mk (k : Int) : (run cfg).p BC [.int .i64 k] = some (Ty.mk k 0 []).enc := by
 refine (wT _).trans ?_;rw [A0H];simp [Ty.enc]
theorem A7u (t : Ty) : ∀ n : Int, t.thin = true → 0 ≤ n → n ≤ 1048576 → ∃ m : Int, (run cfg).p Wy [t.enc, .int .i64 n] = some (.int .i64 m) ∧ 0 ≤ m ∧ m ≤ max (n + 1) 601 := by
 induction t using Ty.ind with
 | h t ih =>
   intro n ht h0 h1;have hb := t.Av ht;have loop : ∀ m : Int, 0 ≤ m → m ≤ 1048577 → ∃ r : Int, Ju (run cfg) (.int .i64 m) (.int .i64 0) t.enc = some (.int .i64 r) ∧ 0 ≤ r ∧ r ≤ max m 601 := by
    have key : ∀ (k i : Nat) (m : Int), i + k = t.kids.length → 0 ≤ m → m ≤ 1048577 → ∃ r : Int, Ju (run cfg) (.int .i64 m) (.int .i64 i) t.enc = some (.int .i64 r) ∧ 0 ≤ r ∧ r ≤ max m 601 := by
     intro k
     induction k with
     | zero =>
       intro i m hi h0 h1;rw [UM];have : ¬ i < t.kids.length := by omega
       exact ⟨m, by simp [this], h0, by omega⟩
     | succ k ihk =>
       intro i m hi h0 h1;have h : i < t.kids.length := by omega
       rw [UM]
       by_cases hm : m ≤ 600
       ·obtain ⟨r, hr, Co, Fw⟩ := ih _ (z0q h) m (Ty.Bu ht (z0q h)) h0 (by omega)
        obtain ⟨s, hs, hs0, Cj⟩ := ihk (i + 1) r (by omega) Co (by omega)
        push_cast at hs;exact ⟨s, by simp [h, hm, F3 h, Ty.D8, Ty.ag, hr, J7 (show i < 9223372036854775807 by omega), hs], hs0, by omega⟩
       ·exact ⟨m, by simp [h, hm], h0, by omega⟩
    exact fun m h0 h1 => key t.kids.length 0 m (by omega) h0 h1
   obtain ⟨r, hr, Co, Fw⟩ := loop (n + 1) (by omega) (by omega)
   refine ⟨r, (rH _ _).trans ?_, Co, Fw⟩;rw [vK];simp;rw [Ck (by omega) (by omega)]
   simpa using hr
theorem A5B (t : Ty) (ht : t.thin = true) : ∃ b : Bool, (run cfg).p iW [.list 3 [t.enc]] = some (.bool b) := by
 obtain ⟨m, h1, h2, h3⟩ := A7u t 0 ht (by omega) (by omega)
 refine ⟨decide (600 < m), (rG _).trans ?_⟩;rw [vJ, UL];have e0 : E8 3 (.list 3 [t.enc]) (.int .i64 0) = some t.enc := by simp [E8]
 simp [e0, Ty.D8, Ty.ag, h1, Ck (show (-9223372036854775808 : Int) ≤ 0 + 1 by omega) (by omega)]
 rw [UL];simp
theorem A8m (t : Ty) : ∀ n : Int, -9223372036854775000 ≤ n → n ≤ 1000 → t.thin = true → (run cfg).p ZU [t.enc, .int .i64 n] = some (.bool (t.deep n)) := by
 induction t using Ty.ind with
 | h t ih =>
   intro n hn0 hn ht;have hb := t.Av ht;refine (wu _ _).trans ?_;rw [A0R, Ty.B3T];simp
   by_cases h0 : n ≤ 0
   ·simp [h0]
   ·have loop := yB (l := t.kids) (f := fun k => k.deep (n - 1)) (P := fun i => RI (run cfg) (.int .i64 n) (.int .i64 i) t.enc)
     (by rw [WI]; simp)
     (fun i h => by
       rw [WI];simp [h, F3 h, Ty.D8, Ty.ag, BU, A_ (show (-9223372036854775808 : Int) ≤ n - 1 by omega) (by omega), ih _ (z0q h) (n - 1) (by omega) (by omega) (Ty.Bu ht (z0q h)), J7 (show i < 9223372036854775807 by omega)])
    simp only [h0, decide_false, Bool.false_or];exact loop
theorem A8y (s : ByteArray) : (run cfg).p nO [.str s] = some (.bool (A1P s)) := by
 refine (xG _).trans ?_;rw [A01];have e : ∀ l : List UInt8, (s = ⟨l.toArray⟩) ↔ s.data.toList = l := fun l => by
  constructor
  ·rintro rfl; simp
  ·intro h; cases s; simp only [ByteArray.mk.injEq]; exact Array.ext' (by simpa using h)
 simp only [uy, I1, N9];simp only [e, A1P, A39, z59q, z63q, or_false];simp only [decide_eq_true_eq, B62, B07, Bool.if_true_left, Bool.decide_or, Bool.or_false]
theorem A5H (c : Int) : (run cfg).p aU [.int .u8 c] = some (.bool (PY c)) := by
 refine (lv _).trans ?_;rw [qy];simp only [Vw, Ni, CZ, I1, X3, decide_eq_true_eq, PY, lowerB, vC]
 by_cases h1 : 97 ≤ c <;> by_cases h2 : c ≤ 122 <;> by_cases h3 : 65 ≤ c <;> by_cases h4 : c ≤ 90 <;> by_cases h5 : 48 ≤ c <;> by_cases h6 : c ≤ 57 <;> by_cases h7 : c = 95 <;> simp [h1, h2, h3, h4, h5, h6, h7]
theorem eT (c : Int) : (run cfg).p QO [.int .u8 c] = some (.bool (lowerB c)) := by
 refine (rV _).trans ?_;rw [vU];simp only [Vw, Ni, I1, X3, decide_eq_true_eq, lowerB]
 by_cases h1 : 97 ≤ c <;> simp [h1]
theorem A7C (c : Int) : (run cfg).p ic [.int .u8 c] = some (.bool (vC c)) := by
 refine (rU _).trans ?_;rw [vT];simp only [Vw, Ni, I1, X3, decide_eq_true_eq, vC]
 by_cases h1 : 48 ≤ c <;> simp [h1]
theorem A8h (c : Int) : (run cfg).p nH [.int .u8 c] = some (.bool (PY c)) := by
 refine (wR _).trans ?_;rw [A0F];simp only [Vw, Ni, CZ, I1, X3, decide_eq_true_eq, eT, A7C, PY]
 by_cases h1 : lowerB c = true <;> by_cases h2 : vC c = true <;> by_cases h3 : 65 ≤ c <;> by_cases h4 : c ≤ 90 <;> by_cases h7 : c = 95 <;> simp [h1, h2, h3, h4, h7]
theorem A83 {s : ByteArray} (h : s.size ≤ lim) : (BA s).length < 4294967297 := by rw [Mf]; exact big h
theorem eX (s : ByteArray) (hs : s.size ≤ lim) : (run cfg).p QV [.str s] = some (.bool (JE s)) := by
 have hb := A83 hs;refine (sP _).trans ?_;rw [wK];simp only [EU, I1, Br, Ct, X3, N9, decide_eq_true_eq, JE, ← Mf]
 by_cases h1 : ((BA s).length : Int) < 1
 ·have : ¬ (1 ≤ (BA s).length) := by omega
  simp [h1, this]
 ·by_cases h2 : (32 : Int) < ((BA s).length : Int)
  ·have : ¬ ((BA s).length ≤ 32) := by omega
   simp [h1, h2, this]
  ·have h0 : 0 < (BA s).length := by omega
   have e0 := a_ (s := s) (k := .i64) h0;simp only [z11q, z13q, z5q] at e0;have loop : ∀ (k i : Nat), i + k = (BA s).length → PM (run cfg) (.str s) (.int .i64 i) = some (.bool (((BA s).drop i).all PY)) := by
    intro k
    induction k with
    | zero =>
      intro i hi;rw [Ui];have : ¬ i < (BA s).length := by omega
      simp [← Mf, this, z3q (show (BA s).length ≤ i by omega)]
    | succ k ih =>
      intro i hi;have h : i < (BA s).length := by omega
      rw [Ui];have := ih (i + 1) (by omega)
      push_cast at this;have H7 : (i : Int) < (s.size : Int) := by rw [← Mf]; omega
      rw [z1q h, z47q];simp only [EU, I1, Br, H7, decide_true, N9, if_true, a_ h, A5H, CO, J7 (show i < 9223372036854775807 by omega)]
      push_cast;rw [this];cases PY (BA s)[i] <;> rfl
   have l1 := loop ((BA s).length - 1) 1 (by omega)
   simp only [Int.natCast_one, Int.ofNat_one, z5q] at l1;have g0 : (BA s).getD 0 0 = (BA s)[0] := by simp [z2q, h0]
   have d0 : BA s = (BA s)[0] :: (BA s).drop 1 := by
    have := z1q h0;simpa using this
   have a1 : (1 ≤ (BA s).length) := by omega
   have a2 : ((BA s).length ≤ 32) := by omega
   have e0' : Y4 (.str s) (.int .i64 0) = some (.int .u8 (BA s)[0]) := e0;simp only [h1, h2, if_false, e0', I1, Br, Ct, X3, decide_eq_true_eq, A8y, N9, g0, a1, a2, decide_true, z24q]
   by_cases h3 : (BA s)[0] < 97
   ·have : lowerB (BA s)[0] = false := by simp [lowerB]; omega
    simp [h3, this]
   ·by_cases h4 : (122 : Int) < (BA s)[0]
    ·have : lowerB (BA s)[0] = false := by simp [lowerB]; omega
     simp [h3, h4, this]
    ·have h5 : lowerB (BA s)[0] = true := by simp [lowerB]; omega
     have h6 : PY (BA s)[0] = true := by simp [PY, h5]
     have h7 : (BA s).all PY = ((BA s).drop 1).all PY := by
      conv => lhs; rw [d0]
      simp [h6]
     cases hk : A1P s
     ·simp only [h3, h4, if_false, z8q, h5, h7, z24q, z30q, Bool.and_true]
      exact l1
     ·simp [h3, h4]
open Classical in
theorem A99 (s : ByteArray) (hs : s.size ≤ 4294967000) : (run cfg).p uE [.str s] = some (.bool (A1P s)) := by
 have hb : (BA s).length ≤ 4294967000 := by rw [Mf]; exact hs
 refine (A05 _).trans ?_;rw [A2Q]
 let t : ByteArray := ⟨#[32]⟩ ++ s ++ ⟨#[32]⟩
 have tl : t.data.toList = 32 :: s.data.toList ++ [32] := by simp [t]
 have ts : t.size = s.size + 2 := by
  have := congrArg List.length tl;simp only [Array.length_toList, z39q, z46q, List.length_nil] at this;have e1 : t.size = t.data.size := rfl;have e2 : s.size = s.data.size := rfl;omega
 have search : ∀ (k i : Nat), i + k = 82 → Nc (run cfg) (.str s) (.str t) (.int .i64 i) = some (.bool (decide (0 < s.size ∧ ∃ j, i ≤ j ∧ j + t.size ≤ 81 ∧ (Cf.drop j).take t.size = t.data.toList))) := by
  intro k
  induction k with
  | zero =>
    intro i hi;rw [YY];simp only [EU, I1];rw [Ck (by omega) (by omega)]
    have : ¬ ((i : Int) + (t.size : Int) ≤ 81) := by omega
    have h2 : ¬ (0 < s.size ∧ ∃ j, i ≤ j ∧ j + t.size ≤ 81 ∧ (Cf.drop j).take t.size = t.data.toList) := by rintro ⟨-, j, h1, h2, -⟩; omega
    simp [this, h2]
  | succ k ih =>
    intro i hi;rw [YY];simp only [EU, I1];rw [Ck (by omega) (by omega)]
    by_cases h1 : (i : Int) + (t.size : Int) ≤ 81
    ·have mF : i + t.size ≤ 81 := by omega
     have nx := ih (i + 1) (by omega)
     simp only [Ni, h1, decide_true, I1, N9, if_true, Ct, X3, decide_eq_true_eq];rw [show ((i + 1 : Nat) : Int) = (i : Int) + 1 by omega] at nx
     by_cases h0 : (0 : Int) < (s.size : Int)
     ·have Iz : 0 < s.size := by omega
      have ext : ∀ w : ByteArray, w.data.toList = Cf → kP (.str w) (some (.int .i64 (i : Int))) (some (.int .i64 ((i : Int) + (t.size : Int)))) = some (.str (w.extract i (i + t.size))) := by
       intro w hw;have hwl : w.size = 81 := by
        have := congrArg List.length hw;rw [B1Q] at this;simpa using this
       have e1 : ((i : Int) + (t.size : Int)).toNat = i + t.size := by omega
       simp only [kP, bnd, I1, e1, show (0 : Int) ≤ (i : Int) + (t.size : Int) by omega, if_true, z54q, z58q, hwl]
       rw [if_pos (by omega)]
      simp only [h0, if_true];rw [ext _ rfl];simp only [I1, uy, N9, decide_eq_true_eq];rw [J7 (by omega)]
      simp only [I1];rw [show ((i + 1 : Nat) : Int) = (i : Int) + 1 by omega, nx]
      have exl : ∀ w : ByteArray, w.data.toList = Cf → ((w.extract i (i + t.size) = t) ↔ (Cf.drop i).take t.size = t.data.toList) := by
       intro w hw;have e : (w.extract i (i + t.size)).data.toList = (Cf.drop i).take t.size := by
        rw [ByteArray.data_extract, Array.toList_extract, hw, List.extract_eq_take_drop]
        congr 1
        omega
       rw [← e];constructor
       ·intro h; rw [h]
       ·intro h
        cases hx : w.extract i (i + t.size);rw [hx] at h;cases ht : t;rw [ht] at h;simp only [ByteArray.mk.injEq];exact Array.ext' h
      by_cases h2 : (Cf.drop i).take t.size = t.data.toList
      ·rw [if_pos ((exl _ rfl).2 h2)]
       have : (0 < s.size ∧ ∃ j, i ≤ j ∧ j + t.size ≤ 81 ∧ (Cf.drop j).take t.size = t.data.toList) := ⟨Iz, i, z33q _, mF, h2⟩;simp [this]
      ·rw [if_neg (fun h => h2 ((exl _ rfl).1 h))]
       congr 2
       rw [z28q];simp only [decide_eq_true_eq];constructor
       ·rintro ⟨a, j, b, c⟩; exact ⟨a, j, by omega, c⟩
       ·rintro ⟨a, j, b, c, d⟩
        refine ⟨a, j, ?_, c, d⟩;rcases z60q i j with h | h
        ·exact h
        ·exact absurd (by rw [show i = j by omega]; exact d) h2
     ·have : ¬ (0 < s.size ∧ ∃ j, i ≤ j ∧ j + t.size ≤ 81 ∧ (Cf.drop j).take t.size = t.data.toList) := fun h => h0 (by have := h.1; omega)
      have B7h : ¬ (0 < s.size ∧ ∃ j, i + 1 ≤ j ∧ j + t.size ≤ 81 ∧ (Cf.drop j).take t.size = t.data.toList) := fun h => h0 (by have := h.1; omega)
      simp only [h0, if_false];rw [J7 (by omega)]
      simp only [I1];rw [show ((i + 1 : Nat) : Int) = (i : Int) + 1 by omega, nx]
      simp [this, B7h]
    ·have h2 : ¬ (0 < s.size ∧ ∃ j, i ≤ j ∧ j + t.size ≤ 81 ∧ (Cf.drop j).take t.size = t.data.toList) := by rintro ⟨-, j, h3, h4, -⟩; omega
     simp [h1, h2]
 have fin : (s.data.toList.all A1R = true ∧ 0 < s.size ∧ ∃ j, 0 ≤ j ∧ j + t.size ≤ 81 ∧ (Cf.drop j).take t.size = t.data.toList) ↔ s.data.toList ∈ A39 := by
  rw [← B1P];have e2 : s.data.toList.length = s.size := by simp
  rw [e2, ts, tl];simp
 have low : ∀ b : UInt8, lowerB (b.toNat : Int) = A1R b := by
  intro b;simp only [lowerB, A1R, UInt8.le_iff_toNat_le];rw [z28q];simp only [z32q, decide_eq_true_eq];have h1 : (97 : UInt8).toNat = 97 := rfl;have h2 : (122 : UInt8).toNat = 122 := rfl;rw [h1, h2];omega
 have loop : ∀ (k i : Nat), i + k = (BA s).length → Tf (run cfg) (.str s) (.int .i64 i) = some (.bool (decide (((BA s).drop i).all lowerB = true ∧ 0 < s.size ∧ ∃ j, 0 ≤ j ∧ j + t.size ≤ 81 ∧ (Cf.drop j).take t.size = t.data.toList))) := by
  intro k
  induction k with
  | zero =>
    intro i hi;rw [YX];have H7 : ¬ (i : Int) < (s.size : Int) := by rw [← Mf]; omega
    have e1 : A8 .add (.str ⟨#[32]⟩) (.str s) = some (.str (⟨#[32]⟩ ++ s)) := by
     simp only [A8, kQ];rw [if_pos];have : (⟨#[32]⟩ : ByteArray).size = 1 := rfl;unfold lim; omega
    have e2 : A8 .add (.str (⟨#[32]⟩ ++ s)) (.str ⟨#[32]⟩) = some (.str t) := by
     simp only [A8, kQ];rw [if_pos];have h1 : (⟨#[32]⟩ : ByteArray).size = 1 := rfl;have h2 : (⟨#[32]⟩ ++ s : ByteArray).size = s.size + 1 := by
      have := ByteArray.size_append (a := ⟨#[32]⟩) (b := s);omega
     unfold lim; omega
    have := search 82 0 rfl;simp only [z11q, z13q, z5q] at this;simp only [EU, I1, Br, H7, decide_false, N9, z8q, if_false, e1, e2, z3q (show (BA s).length ≤ i by omega), List.all_nil, true_and]
    exact this
  | succ k ih =>
    intro i hi;have h : i < (BA s).length := by omega
    rw [YX];have := ih (i + 1) (by omega)
    push_cast at this;have H7 : (i : Int) < (s.size : Int) := by rw [← Mf]; omega
    rw [z1q h, z47q];simp only [EU, I1, Br, H7, decide_true, N9, if_true, a_ h, eT, CO, J7 (show i < 9223372036854775807 by omega)]
    push_cast;rw [this];cases lowerB (BA s)[i] <;> simp
 have l0 := loop (BA s).length 0 (by omega)
 simp only [z11q, z13q, z5q] at l0;have e3 : (BA s).all lowerB = s.data.toList.all A1R := by
  simp only [BA, List.all_map]
  congr 1
  funext b
  exact low b
 refine l0.trans ?_;rw [z16q, e3];simp only [fin, A1P]
theorem jh (s : ByteArray) (hs : s.size ≤ 4294967000) : (run cfg).p IV [.str s] = some (.bool (JE s)) := by
 have hb := A83 (s := s) (by unfold lim; omega)
 refine (wQ _).trans ?_;rw [A0E];have h32 : A8 .gtr (.int .i64 (s.size : Int)) (.int .i64 32) = some (.bool (decide (32 < s.size))) := by
  rw [Ct]; congr 2; rw [decide_eq_decide]; omega
 simp only [EU, I1, Br, h32, X3, N9, decide_eq_true_eq, JE]
 by_cases h1 : (s.size : Int) < 1
 ·have : ¬ (1 ≤ s.size) := by omega
  simp [h1, this]
 ·by_cases h2 : 32 < s.size
  ·have : ¬ (s.size ≤ 32) := by omega
   simp [h1, h2, this]
  ·have h0 : 0 < (BA s).length := by rw [Mf]; omega
   have loop : ∀ (k i : Nat), i + k = (BA s).length → RB (run cfg) (.str s) (.int .i64 i) = some (.bool (((BA s).drop i).all PY && !A1P s)) := by
    intro k
    induction k with
    | zero =>
      intro i hi;rw [WA];have H7 : ¬ (i : Int) < (s.size : Int) := by rw [← Mf]; omega
      simp [H7, z3q (show (BA s).length ≤ i by omega), A99 s hs]
    | succ k ih =>
      intro i hi;have h : i < (BA s).length := by omega
      rw [WA];have := ih (i + 1) (by omega)
      push_cast at this;have H7 : (i : Int) < (s.size : Int) := by rw [← Mf]; omega
      rw [z1q h, z47q];simp only [EU, I1, Br, H7, decide_true, N9, if_true, a_ h, A8h, CO, J7 (show i < 9223372036854775807 by omega)]
      push_cast;rw [this];cases PY (BA s)[i] <;> rfl
   have l0 := loop (BA s).length 0 (by omega)
   simp only [z11q, z13q, z5q, z16q] at l0;have g0 : (BA s).getD 0 0 = (BA s)[0] := by simp [z2q, h0]
   have e0' : Y4 (.str s) (.int .i64 0) = some (.int .u8 (BA s)[0]) := a_ (s := s) (k := .i64) h0;have a1 : (1 ≤ s.size) := by omega
   have a2 : (s.size ≤ 32) := by omega
   simp only [h1, h2, if_false, e0', I1, eT, CO, N9, g0, a1, a2, decide_true, z24q, l0];cases lowerB (BA s)[0] <;> simp
theorem Az : (.str ⟨#[]⟩ : DV) = .str K6 := rfl
theorem A4p (p : D5) (hp : p.texts) : (run cfg).p YR [p.enc] = some (.bool p.one) := by
 obtain ⟨hn, hs⟩ := hp;have h24 : ∀ (t4 : Int) (a b c g : DV) (nm : ByteArray) (n : Int) (s : ByteArray), j6 (run cfg) (.int .i64 t4) p.enc a b c (.str nm) (.int .i64 n) (.str s) g =
  some (.bool (decide ((p.kids.length : Int) = t4) && decide (nm = p.name) && decide (n = p.n) && decide (s = p.s))) := by
  intro t4 a b c g nm n s;rw [ZA];simp only [D5.Zv, D5.Bj, D5.Zu, D5.iK, BB, z6q, I1, CZ, uy, X3, decide_eq_true_eq]
  by_cases h1 : (p.kids.length : Int) = t4 <;> by_cases h2 : nm = p.name <;> by_cases h3 : n = p.n <;> simp [h1, h2, h3]
 refine (gU _).trans ?_;rw [kw];have Dw : A8 .gtr (.int .i64 (p.s.size : Int)) (.int .i64 200) = some (.bool (decide (200 < p.s.size))) := by
  rw [Ct]; congr 2; rw [decide_eq_decide]; omega
 simp only [I_, O6, D5.pj, Zl, A3d, jc, CZ, JJ, I1, N9, X3, eX p.name (by unfold lim; omega), CO, EU, Dw, h24, Az]
 unfold D5.one
 by_cases k1 : p.kind = 1
 ·simp [k1, eq_comm]
 by_cases k6 : p.kind = 6
 ·simp [k6, eq_comm]
 by_cases k8 : p.kind = 8
 ·simp [k8, eq_comm]
 by_cases k2 : p.kind = 2
 ·cases xu : JE p.name <;> simp [k2, xu, eq_comm]
 by_cases k3 : p.kind = 3
 ·simp [k3, eq_comm]
 by_cases k4 : p.kind = 4
 ·by_cases n0 : p.n = 0
  ·simp [k4, n0, eq_comm]
  ·by_cases n1 : p.n = 1 <;> simp [k4, n0, n1, eq_comm]
 by_cases k5 : p.kind = 5
 ·by_cases h : 200 < p.s.size
  ·have : ¬ p.s.size ≤ 200 := by omega
   simp [k5, h, this]
  ·have : p.s.size ≤ 200 := by omega
   simp [k5, h, this, eq_comm]
 have h2 : decide (2 = (p.kids.length : Int)) = decide (2 = p.kids.length) := by rw [decide_eq_decide]; omega
 by_cases k7 : p.kind = 7
 ·simp [k7, eq_comm, h2]
 by_cases k9 : p.kind = 9
 ·simp [k9, eq_comm, h2]
 simp [k1, k2, k3, k4, k5, k6, k7, k8, k9]
theorem B0c (p : D5) : p.thin = true → p.txt → (run cfg).p eu [p.enc] = some (.bool p.pat) := by
 induction p using D5.ind with
 | h p ih =>
   intro ht hx;have hb := p.Av ht;obtain ⟨hn, hs⟩ := hx p p.B21;have loop : MJ (run cfg) (.int .i64 p.kids.length) (.int .i64 0) p.enc = some (.bool (p.kids.all D5.pat)) :=
    YB (l := p.kids) (f := D5.pat) (P := fun i => MJ (run cfg) (.int .i64 p.kids.length) (.int .i64 i) p.enc)
     (by rw [WH]; simp)
     (fun i h => by
       rw [WH];simp [h, F3 h, D5.D8, D5.ag, ih _ (z0q h) (D5.Bu ht (z0q h)) (D5.B4Q hx (z0q h)), J7 (show i < 9223372036854775807 by omega)]
       cases p.kids[i].pat <;> rfl)
   have h25 : ∀ (t4 : Int) (a : DV) (nm : ByteArray) (n : Int) (s : ByteArray), CY (run cfg) (.int .i64 t4) p.enc a (.str nm) (.int .i64 n) (.str s) =
    some (.bool ((decide ((p.kids.length : Int) = t4) && decide (p.name = nm) && decide (p.n = n) && decide (p.s = s)) && p.kids.all D5.pat)) := by
    intro t4 a nm n s;rw [qV];simp only [D5.Zv, D5.Bj, D5.Zu, D5.iK, BB, z6q, I1, JJ, Xj, X3, N9, decide_eq_true_eq]
    by_cases h1 : (p.kids.length : Int) = t4 <;> by_cases h2 : p.name = nm <;> by_cases h3 : p.n = n <;> by_cases h4 : p.s = s <;> simp [h1, h2, h3, h4]
    rw [← h1];rw [loop]
   refine (A08 _).trans ?_;rw [A2T];have Dw : A8 .gtr (.int .i64 (p.s.size : Int)) (.int .i64 200) = some (.bool (decide (200 < p.s.size))) := by
    rw [Ct]; congr 2; rw [decide_eq_decide]; omega
   simp only [I_, O6, D5.pj, Zl, A3d, jc, CZ, JJ, Br, Ct, I1, N9, X3, jh p.name hn, CO, EU, h25, Az];rw [D5.A3q];unfold D5.one
   by_cases k1 : p.kind = 1
   ·simp [k1]
   by_cases k6 : p.kind = 6
   ·simp [k6]
   by_cases k8 : p.kind = 8
   ·simp [k8]
   by_cases k2 : p.kind = 2
   ·cases xu : JE p.name <;> simp [k2, xu]
   by_cases k3 : p.kind = 3
   ·simp [k3]
   by_cases k4 : p.kind = 4
   ·by_cases n0 : p.n < 0
    ·have h1 : ¬ (p.n = 0 ∨ p.n = 1) := by omega
     simp [k4, n0, h1]
    ·by_cases n1 : 1 < p.n
     ·have h1 : ¬ (p.n = 0 ∨ p.n = 1) := by omega
      simp [k4, n0, n1, h1]
     ·have h1 : (p.n = 0 ∨ p.n = 1) := by omega
      simp [k4, n0, n1, h1]
   by_cases k5 : p.kind = 5
   ·by_cases h : (200 : Int) < (p.s.size : Int)
    ·have : ¬ p.s.size ≤ 200 := by omega
     simp [k5, h, this]
    ·have : p.s.size ≤ 200 := by omega
     simp [k5, h, this]
   by_cases k7 : p.kind = 7
   ·simp [k7]
    have : ((p.kids.length : Int) = 2) ↔ (p.kids.length = 2) := by omega
    simp [this]
   by_cases k9 : p.kind = 9
   ·simp [k9]
    have : ((p.kids.length : Int) = 2) ↔ (p.kids.length = 2) := by omega
    simp [this]
   simp [k1, k2, k3, k4, k5, k6, k7, k8, k9]
theorem A7E (t : D5) : ∀ (l : List ByteArray) (sg : List D7), l.length + t.size ≤ lim → (run cfg).r XD [(t.enc, .val), (CP l, .own)] sg = some ([CP (t.Eo l)], sg) := by
 induction t using D5.ind with
 | h t ih =>
   intro l sg hl;have hb := D5.Av _ (D5.DW (show t.size ≤ lim by omega))
   have hB := big hl;refine (rq _ _ _).trans ?_;have loop : ∀ l : List ByteArray, l.length + (t.kids.map D5.size).sum ≤ lim → Gl (run cfg) (CP l) (.int .i64 0) t.enc sg = some ([CP (t.kids.foldl (fun l k => k.Eo l) l)], sg) :=
    FR (l := t.kids) (P := fun i (a : List ByteArray) => Gl (run cfg) (CP a) (.int .i64 i) t.enc sg) (g := fun a k => k.Eo a) (fin := fun a => some ([CP a], sg))
     (I := fun i a => a.length + ((t.kids.drop i).map D5.size).sum ≤ lim)
     (fun a _ => by rw [Ua]; simp)
     (fun i h a ha => by
       rw [z1q h, z10q, z18q] at ha;have h1 := D5.je t.kids[i] a;refine ⟨?_, by omega⟩
       rw [Ua];simp [h, F3 h, D5.D8, D5.ag, ih _ (z0q h) a sg (by omega), J7 (show i < 9223372036854775807 by omega)])
   have Y9 := D5.size_eq t;rw [vZ, D5.oP];simp
   by_cases h6 : t.kind = 2
   ·simp [h6]
    rw [show CP l = .list 1 (l.map fun n => .str n) from rfl, Dj (by simp; omega)]
    have := loop (l ++ [t.name]) (by simp; omega)
    simpa [CP] using this
   ·simp [h6, loop l (by omega)]
theorem yS (t : D5) (ht : t.size ≤ lim) : (run cfg).p XC [t.enc] = some (CP t.names) := by
 refine (rX _).trans ?_;rw [vW];have := A7E t [] [] (by simpa using ht)
 have e : CP [] = .list 1 [] := rfl;rw [e] at this;simp [D5.D8, D5.ag, this, D5.names]
def Yl (l : List ByteArray) (n : ByteArray) : Bool := l.any fun x => decide (x = n)
theorem dI {l : List ByteArray} {n : ByteArray} : Yl l n = true ↔ n ∈ l := by simp [Yl]
theorem B0a (l : List ByteArray) (hl : l.length ≤ lim) (n : ByteArray) : (run cfg).p uF [CP l, .str n] = some (.bool (Yl l n)) := by
 have hb := big hl;refine (A06 _ _).trans ?_;rw [A2R];have loop := yB (l := l) (f := fun x => decide (x = n)) (P := fun i => Tk (run cfg) (CP l) (.str n) (.int .i64 i))
  (by rw [YZ]; simp)
  (fun i h => by
    rw [YZ];simp [h, vB h, J7 (show i < 9223372036854775807 by omega)])
 exact loop
theorem A2K {α : Type} {e : α → DV} {l : List α} {i : Nat} (h : i ≤ l.length) (sz : Nat) : Ca sz (.list sz (l.map e)) none (some (.int .i64 (i : Int))) = some (.list sz ((l.take i).map e)) := by
 simp [Ca, bnd, h, List.map_take]
theorem oU {α : Type} [DecidableEq α] (l : List α) : (∀ (i : Nat) (h : i < l.length), l[i] ∉ l.take i) ↔ l.Nodup := by
 constructor
 ·intro h
  rw [z34q, z36q];intro i j hi hj Pt he;exact h j hj (by rw [← he]; exact z25q.2 ⟨i, by omega, rfl⟩)
 ·intro h i hi hm
  obtain ⟨j, hj, he⟩ := z25q.1 hm;rw [z34q, z36q] at h;exact h j i (by omega) hi (by omega) he
open Classical in
theorem A3G (p : D5) (ht : p.size ≤ lim) (hx : p.txt) : (run cfg).p Vn [p.enc] = some (.bool p.right) := by
 refine (bT _).trans ?_;rw [fo];have hnl : p.names.length ≤ lim := by have := D5.je p []; simp at this; unfold D5.names; omega
 have hb := big hnl;simp [D5.D8, D5.ag, B0c p (D5.DW ht) hx, yS p ht, D5.right];cases hp : p.pat
 ·simp
 ·simp
  have loop : ∀ (k i : Nat), i + k = p.names.length → Ji (run cfg) (CP p.names) (.int .i64 i) = some (.bool (decide (∀ j (h : j < p.names.length), i ≤ j → p.names[j] ∉ p.names.take j))) := by
   intro k
   induction k with
   | zero =>
     intro i hi;rw [Ny];have : ¬ i < p.names.length := by omega
     have h2 : ∀ j (h : j < p.names.length), i ≤ j → p.names[j] ∉ p.names.take j := fun j h h' => by omega
     simp [this];exact h2
   | succ k ih =>
     intro i hi;have h : i < p.names.length := by omega
     have nx := ih (i + 1) (by omega)
     push_cast at nx;rw [Ny];have sl : Ca 1 (CP p.names) none (some (.int .i64 (i : Int))) = some (CP (p.names.take i)) := A2K (by omega) 1
     simp [h, sl, vB h, B0a (p.names.take i) (by simp; omega), J7 (show i < 9223372036854775807 by omega), nx]
     by_cases hm : p.names[i] ∈ p.names.take i
     ·simp only [dI.2 hm, if_true]
      congr 2
      symm
      rw [decide_eq_false_iff_not];exact fun hh => hh i h (z33q _) hm
     ·have Qp : ¬ (Yl (p.names.take i) p.names[i] = true) := fun h => hm (dI.1 h)
      have B7Z : Yl (p.names.take i) p.names[i] = false := by simpa using Qp
      simp only [B7Z, z8q, if_false]
      congr 2
      rw [decide_eq_decide];constructor
      ·intro hh j hj Pt
       rcases z60q i j with h1 | h1
       ·exact hh j hj h1
       ·have : i = j := by omega
        subst this;exact hm
      ·intro hh j hj Pt
       exact hh j hj (by omega)
  have l0 := loop p.names.length 0 (by omega)
  simp only [z11q, z13q, z5q] at l0;rw [l0]
  congr 2
  rw [decide_eq_decide, ← oU];simp
def A59 (es : List (DV × DV)) (s : ByteArray) : DV := (Y7 es (.str s)).getD (.int .i64 0)
def az (a b c e : D7) (n : Int) (es : List (DV × DV)) : List D7 := [a, .box [(.int .i64 n, .val)], .map true es, .box [(.undef, .map 2)], e]
theorem B0x (t0 t6 : DV) (a b c e : D7) (n : Int) (es : List (DV × DV)) : AL (run cfg) t0 t6 .ret (az a b c e n es) = some (.int .i64 n) := by
 rw [NL];rfl
theorem B3Q (t0 t6 : DV) (a b c e : D7) (n : Int) (es : List (DV × DV)) : AL (run cfg) t0 t6 .normal (az a b c e n es) = some (.int .i64 0) := by
 rw [KR];rfl
theorem A4J (t0 t6 : DV) (a b c e : D7) : ∀ (ps : List D5) (pre : List ByteArray) (es : List (DV × DV)), (∀ q ∈ ps, q.texts) → pre.Nodup → (∀ s, A59 es s = .int .i64 (if Yl pre s = true then 1 else 0)) →
 Df (run cfg) t0 t6 (ps.map D5.enc) (az a b c e 0 es) = some (.int .i64 (if ps.all D5.one = true ∧ (pre ++ ps.flatMap Yn).Nodup then 0 else 1))
 | [], pre, es, _, hn, _ => by
   rw [z14q, QX, B3Q];simp [hn]
 | q :: ps, pre, es, hx, hn, hc => by
   rw [z10q, Ph, Sm];have hq := hx q (z22q ..);simp only [I_, O6, D5.pj, D5.D8, D5.ag, A4p q hq, I1, CO, X3, CZ];have sg1 : M7 (az a b c e 0 es) 1 = some [(.int .i64 0, .val)] := rfl;have sg3 : M7 (az a b c e 0 es) 3 = some [(.undef, .map 2)] := rfl;have set1 : (az a b c e 0 es).set 1 (.box ([((.int .i64 0 : DV), Meta.val)].set 0 (.int .i64 1, .val))) = az a b c e 1 es := rfl;have g0 : [((.int .i64 0 : DV), Meta.val)][0]? = some (.int .i64 0, .val) := rfl;have cm : KN [((.undef : DV), Meta.map 2)] 0 = some 2 := rfl;have sm : p9 (az a b c e 0 es) 2 = some (true, es) := rfl;cases h1 : q.one
   ·simp only [z30q, if_true, sg1, I1, g0, set1, B0x]
    simp [h1]
   ·simp only [z37q, z8q, if_false]
    have rest : ∀ (pre' : List ByteArray) (es' : List (DV × DV)), pre'.Nodup → (∀ s, A59 es' s = .int .i64 (if Yl pre' s = true then 1 else 0)) →
     Df (run cfg) t0 t6 (ps.map D5.enc) (az a b c e 0 es') = some (.int .i64 (if ps.all D5.one = true ∧ (pre' ++ ps.flatMap Yn).Nodup then 0 else 1)) :=
     fun pre' es' h h' => A4J t0 t6 a b c e ps pre' es' (fun x hx' => hx x (z48q _ hx')) h h'
    rw [Xo];simp only [D5.Y3, D5.Bj, CZ, I1, N9, decide_eq_true_eq]
    by_cases h2 : q.kind = 2
    ·have hcq := hc q.name
     unfold A59 at hcq;have sm' : (az a b c e 0 es).set 2 (.map true (Cm es (.str q.name) (.int .i64 1))) = az a b c e 0 (Cm es (.str q.name) (.int .i64 1)) := rfl;simp only [h2, if_true, sg3, I1, cm, B06, Bool.and_true, O6, sm, BEq.rfl, hcq, Ct, N9, decide_eq_true_eq]
     by_cases xZ : Yl pre q.name = true
     ·have h3 := dI.1 xZ
      simp only [xZ, if_true, show (0 : Int) < 1 by omega, decide_true, sg1, I1, g0, set1, B0x]
      have : ¬ (pre ++ (q :: ps).flatMap Yn).Nodup := by
       simp only [z40q, Yn, h2, if_true, z29q, z61q];rintro ⟨-, -, h⟩;exact h q.name h3 q.name (z22q ..) rfl
      rw [if_neg (fun h => this h.2)]
     ·have h3 : q.name ∉ pre := fun h => xZ (dI.2 h)
      simp only [xZ, if_false, show ¬ (0 : Int) < 0 by omega, decide_false, z8q]
      rw [Ck (by omega) (by omega)]
      simp only [I1, Int.zero_add];rw [sm', rest (pre ++ [q.name]) _ (by rw [z61q]; refine ⟨hn, by simp, ?_⟩; rintro x hx' y hy rfl; simp at hy; exact h3 (hy ▸ hx')) ?_]
      ·simp [z40q, Yn, h2, h1]
      ·intro s
       unfold A59;rw [B2O];have := hc s;unfold A59 at this
       by_cases h4 : q.name = s
       ·have : Yl (pre ++ [q.name]) s = true := dI.2 (by simp [h4])
        rw [if_pos h4, if_pos this];rfl
       ·have e : Yl (pre ++ [q.name]) s = Yl pre s := by simp [Yl, h4]
        simp only [if_neg h4, e];exact this
    ·simp only [h2, if_false]
     rw [rest pre es hn hc];simp [z40q, Yn, h2, h1]
theorem Sa (p : D5) (ht : p.thin = true) (hx : p.txt) : (run cfg).p M_ [p.enc] = some (.int .i64 (if p.right = true then 0 else 1)) := by
 refine (ZG _).trans ?_;rw [bN];simp only [I_, O6, D5.pj, D5.D8, D5.ag];rw [Ve];obtain ⟨n, hn⟩ := B2p p ht;rw [D5.F9] at hn;simp only [M7, z41q, z42q, I1, Ik, O6, n_ hn];have := A4J p.enc p.enc (.box [(.int .i64 p.kind, .val), (.int .i64 p.lo, .val), (.int .i64 p.hi, .val), (.str p.name, .val), (.int .i64 p.n, .val), (.str p.s, .val), (.list 7 (p.kids.map D5.enc), .val)])
  (.arr 1 []) (.arr 1 []) (.arr 1 []) p.subs [] [] (fun q hq => hx q hq) (by simp) (fun s => rfl)
 refine this.trans ?_
 congr 2
 have e : p.right = true ↔ (p.subs.all D5.one = true ∧ (([] : List ByteArray) ++ p.subs.flatMap Yn).Nodup) := by
  unfold D5.right D5.names;rw [D5.B2V, D5.A6Q];simp
 by_cases h : p.right = true
 ·rw [if_pos h, if_pos (e.1 h)]
 ·rw [if_neg h, if_neg (fun h' => h (e.2 h'))]
@[simp] theorem B7r (a b c d : Int) (k : IntKind) : jI [.int, .int] (.agg [.int k a, .int k b]) (.agg [.int k c, .int k d]) = some (decide (a = c) && decide (b = d)) := by
  simp only [jI, Cw, uz, if_true, I1]
  by_cases h : a = c <;> by_cases h' : b = d <;> simp [h, h']
theorem A4o (a : D5) : a.thin = true → ∀ b : D5, (run cfg).p Qy [a.enc, b.enc] = some (.bool (decide (a.bare = b.bare))) := by
 induction a using D5.ind with
 | h a ih =>
   intro ha b;have hb := a.Av ha;refine (gN _ _).trans ?_;rw [kY];simp
   by_cases h1 : a.kind = b.kind <;> simp [h1, D5.Cu]
   by_cases h2 : a.name = b.name <;> simp [h2]
   by_cases h3 : a.n = b.n <;> simp [h3]
   by_cases h4 : a.s = b.s <;> simp [h4]
   by_cases h5 : a.kids.length = b.kids.length
   ·have loop := TH (l := a.kids.map D5.bare) (m := b.kids.map D5.bare) (by simpa using h5) (P := fun i => La (run cfg) (.int .i64 i) a.enc b.enc)
     (by rw [QF]; simp [h5])
     (fun i h => by
       have h : i < a.kids.length := by simpa using h
       have h' : i < b.kids.length := by omega
       rw [QF];simp [h, h', F3 h, F3 h', D5.D8, D5.ag, ih _ (z0q h) (D5.Bu ha (z0q h)), J7 (show i < 9223372036854775807 by omega)])
    simp only [z6q, h5] at loop ⊢;simp [loop]
   ·have : a.kids.map D5.bare ≠ b.kids.map D5.bare := fun h => h5 (by have := congrArg List.length h; simpa using this)
    simp [z15q, h5, this]
theorem A7F (a : D5) : a.thin = true → ∀ b : D5, a.bare = b.bare → (run cfg).p XE [a.enc, b.enc] = some (.bool (decide (a = b))) := by
 induction a using D5.ind with
 | h a ih =>
   intro ha b he;have hb := a.Av ha;rw [D5.Cu] at he;simp at he;obtain ⟨e1, e2, e3, e4, e5⟩ := he;have h5 : a.kids.length = b.kids.length := by have := congrArg List.length e5; simpa using this
   refine (rz _ _).trans ?_;rw [vk];simp [D5.Cu, e1, e2, e3, e4]
   by_cases h1 : a.lo = b.lo <;> simp [h1]
   by_cases h2 : a.hi = b.hi <;> simp [h2]
   have loop := TH (l := a.kids) (m := b.kids) h5 (P := fun i => PD (run cfg) (.int .i64 i) a.enc b.enc)
    (by rw [Ub]; simp [h5])
    (fun i h => by
      have h' : i < b.kids.length := by omega
      have e6 : a.kids[i].bare = b.kids[i].bare := by
       have : (a.kids.map D5.bare)[i]'(by simpa using h) = (b.kids.map D5.bare)[i]'(by simpa using h') := by simp only [e5]
       simpa using this
      rw [Ub];simp [h, h', F3 h, F3 h', D5.D8, D5.ag, ih _ (z0q h) (D5.Bu ha (z0q h)) _ e6, J7 (show i < 9223372036854775807 by omega)])
   simp [loop]
theorem A8k (a : Ex) : a.fit → ∀ b : Ex, (run cfg).p ZQ [a.enc, b.enc] = some (.bool (decide (a.bare = b.bare))) := by
 induction a using Ex.ind with
 | h a ih =>
   intro ha b;have hk := big (z4q ha.one.kids);have hp := big (z4q ha.one.F6);refine (wh _ _).trans ?_;rw [A0O];simp
   by_cases h1 : a.kind = b.kind <;> simp [h1, Ex.Cu]
   by_cases h2 : a.name = b.name <;> simp [h2]
   by_cases h3 : a.arg = b.arg <;> simp [h3]
   by_cases h4 : a.n = b.n <;> simp [h4]
   by_cases h6 : a.s = b.s <;> simp [h6]
   by_cases h7 : a.op = b.op <;> simp [h7]
   by_cases h8 : a.F6.length = b.F6.length
   ·by_cases h5 : a.kids.length = b.kids.length
    ·have loop := TH (l := a.kids.map Ex.bare) (m := b.kids.map Ex.bare) (by simpa using h5) (P := fun i => Oz (run cfg) (.int .i64 i) a.enc b.enc)
      (by rw [UZ]; simp [h5])
      (fun i h => by
        have h : i < a.kids.length := by simpa using h
        have h' : i < b.kids.length := by omega
        rw [UZ];simp [h, h', F3 h, F3 h', Ex.D8, Ex.ag, ih _ (z0q h) (ha.kid (z0q h)), J7 (show i < 9223372036854775807 by omega)])
     have zP := JV (l := a.F6.map D5.bare) (m := b.F6.map D5.bare) (by simpa using h8) (P := fun i => RG (run cfg) (.int .i64 i) a.enc b.enc) (y := .bool (decide (a.kids.map Ex.bare = b.kids.map Ex.bare))) (n := .bool false)
      (by rw [WF]; simp [h8, loop])
      (fun i h => by
        have h : i < a.F6.length := by simpa using h
        have h' : i < b.F6.length := by omega
        rw [WF];simp [h, h', F3 h, F3 h', D5.D8, D5.ag, A4o _ (D5.WT (ha.one.pat _ (z0q h))), J7 (show i < 9223372036854775807 by omega)])
     simp only [h5, h8];simp [qR, Ty.D8, Ty.ag, JX _ ha.one.a, JX _ ha.one.b]
     by_cases h9 : a.a = b.a <;> simp [h9]
     by_cases X9 : a.b = b.b <;> simp [X9, zP]
     by_cases Af : a.F6.map D5.bare = b.F6.map D5.bare <;> simp [Af]
    ·have : a.kids.map Ex.bare ≠ b.kids.map Ex.bare := fun h => h5 (by have := congrArg List.length h; simpa using this)
     simp [z15q, h5, h8, this]
   ·have : a.F6.map D5.bare ≠ b.F6.map D5.bare := fun h => h8 (by have := congrArg List.length h; simpa using this)
    simp [z15q, h8, this]
theorem tu (a : Ex) : a.fit → ∀ b : Ex, (run cfg).p NY [a.enc, b.enc] = some (.bool (decide (a = b))) := by
 induction a using Ex.ind with
 | h a ih =>
   intro ha b;have hk := big (z4q ha.one.kids);have hp := big (z4q ha.one.F6);refine (lQ _ _).trans ?_;rw [qQ];simp [Ex.D8, Ex.ag, A8k a ha]
   by_cases he : a.bare = b.bare
   ·rw [if_pos he]
    rw [Ex.Cu] at he;simp at he;obtain ⟨e1, e2, e3, e4, e5, e6, e7, e8, e9, e10⟩ := he;have h5 : a.kids.length = b.kids.length := by have := congrArg List.length e10; simpa using this
    have h8 : a.F6.length = b.F6.length := by have := congrArg List.length e9; simpa using this
    have loop := TH (l := a.kids) (m := b.kids) h5 (P := fun i => NF (run cfg) (.int .i64 i) a.enc b.enc)
     (by rw [SC]; simp [h5])
     (fun i h => by
       have h' : i < b.kids.length := by omega
       rw [SC];simp [h, h', F3 h, F3 h', Ex.D8, Ex.ag, ih _ (z0q h) (ha.kid (z0q h)), J7 (show i < 9223372036854775807 by omega)])
    have zP := JV (l := a.F6) (m := b.F6) h8 (P := fun i => NE (run cfg) (.int .i64 i) a.enc b.enc) (y := .bool (decide (a.kids = b.kids))) (n := .bool false)
     (by rw [SB]; simp [h8, loop])
     (fun i h => by
       have h' : i < b.F6.length := by omega
       have e11 : a.F6[i].bare = b.F6[i].bare := by
        have : (a.F6.map D5.bare)[i]'(by simpa using h) = (b.F6.map D5.bare)[i]'(by simpa using h') := by simp only [e9]
        simpa using this
       rw [SB];simp [h, h', F3 h, F3 h', D5.D8, D5.ag, A7F _ (D5.WT (ha.one.pat _ (z0q h))) _ e11, J7 (show i < 9223372036854775807 by omega)])
    simp [Ex.Cu, e1, e2, e3, e4, e5, e6, e7, e8]
    by_cases h1 : a.lo = b.lo <;> simp [h1]
    by_cases h2 : a.hi = b.hi <;> simp [h2, zP]
    by_cases Af : a.F6 = b.F6 <;> simp [Af]
   ·have : a ≠ b := fun h => he (by rw [h])
    rw [if_neg he];simp [this]
def Zb (p : D5) : Ex := .mk 14 0 0 K6 K6 0 K6 0 (.mk 0 0 []) (.mk 0 0 []) [p] []
theorem B0U {p : D5} (h : p.fit) : (Zb p).fit := by
 have t0 : (Ty.mk 0 0 []).thin = true := by rw [Ty.LC]; simp [lim]
 have t1 : (Ty.mk 0 0 []).BP ≤ lim := by rw [Ty.iT]; simp [lim]
 refine .mk _ ⟨?_, ?_, ?_, t0, t0, t1, t1, ?_, ?_, ?_⟩ fun k hk => by simp [Zb] at hk
 ·show K6.size ≤ _; exact z44q _
 ·show K6.size ≤ _; exact z44q _
 ·show K6.size ≤ _; exact z44q _
 ·simp [Zb, lim]
 ·simpa [Zb] using h
 ·simp [Zb, lim]
theorem A2J {α : Type} {e : α → DV} {sz : Nat} {l : List α} {i : Nat} (h : i < l.length) : Ca sz (.list sz (l.map e)) (some (.int .i64 (i : Int))) (some (.int .i64 ((i + 1 : Nat) : Int))) = some (.list sz [e l[i]]) := by
 have e1 : ((l.map e).take (i + 1)).drop i = [e l[i]] := by
  rw [List.drop_take, show i + 1 - i = 1 by omega, z1q (by simpa using h)]
  simp
 simp only [Ca, bnd, I1, z54q, if_true, z58q, z6q, true_and];rw [if_pos ⟨by omega, by omega⟩, e1]
structure Tm.A9v (t : Tm) : Prop where
 vars : t.vars.length < lim
 a : t.a.thin = true
 b : t.b.thin = true
 args : t.args.length < lim
 B7n : ∀ y ∈ t.args, y.thin = true
 F6 : t.F6.length < lim
 pat : ∀ p ∈ t.F6, p.fit
theorem A7M (a : Tm) (ha : a.A9v) (b : Tm) : (run cfg).p nM [a.enc, b.enc] = some (.bool (a.zH b)) := by
 have hv := big (z4q ha.vars);have hp := big (z4q ha.F6);refine (xD _ _).trans ?_;have h3 : ae (run cfg) a.enc b.enc = some (.bool (decide (a.args = b.args) && decide (a.a = b.a) && decide (a.b = b.b) && decide (a.vars = b.vars) && decide (a.F6 = b.F6))) := by
  rw [qb];simp [Ty.D8, Ty.ag, A4n _ _ (z4q ha.args) ha.B7n, JX _ ha.a, JX _ ha.b, z15q]
  by_cases e1 : a.vars.length = b.vars.length
  ·by_cases e2 : a.F6.length = b.F6.length
   ·have l2 := TH (l := a.F6) (m := b.F6) e2 (P := fun i => PI (run cfg) (.int .i64 i) a.enc b.enc)
     (by rw [Uf]; simp [e2])
     (fun i h => by
       have h' : i < b.F6.length := by omega
       rw [Uf];have f := B0U (ha.pat _ (z0q h));have eA : ∀ p : D5, DV.agg [.int .i64 14, .int .i64 0, .int .i64 0, .str ⟨#[]⟩, .str ⟨#[]⟩, .int .i64 0, .str ⟨#[]⟩, .int .i64 0, .int .i64 0, .int .i64 0, .list 3 [], .int .i64 0, .int .i64 0, .list 3 [], .list 7 [p.enc], .list 16 []] = (Zb p).enc := fun p => by
        rw [Ex.F9]; rfl
       have d1 := A2J (e := D5.enc) (sz := 7) h;have d2 := A2J (e := D5.enc) (sz := 7) h';simp only [Tm.B1r, BB, z6q, I1, Br, z38q, h, decide_true, N9, if_true, J7 (show i < 9223372036854775807 by omega), d1, d2, jc, O6, eA, tu _ f, CO]
       have : (Zb a.F6[i] = Zb b.F6[i]) ↔ a.F6[i] = b.F6[i] := by simp [Zb]
       simp only [this]
       by_cases h9 : a.F6[i] = b.F6[i] <;> simp [h9])
    have l1 := JV (l := a.vars) (m := b.vars) e1 (P := fun i => RQ (run cfg) (.int .i64 i) a.enc b.enc) (y := .bool (decide (a.F6 = b.F6))) (n := .bool false)
     (by rw [WN]; simp [e1, l2])
     (fun i h => by
       have h' : i < b.vars.length := by omega
       rw [WN];simp [h, h', U0 h, U0 h', J7 (show i < 9223372036854775807 by omega)])
    simp only [e1, e2, if_true, l1]
    by_cases h1 : a.args = b.args <;> by_cases h2 : a.a = b.a <;> by_cases h3 : a.b = b.b <;> by_cases h4 : a.vars = b.vars <;> simp [h1, h2, h3, h4]
   ·have : a.F6 ≠ b.F6 := fun h => e2 (by rw [h])
    simp [e1, e2, this]
  ·have : a.vars ≠ b.vars := fun h => e1 (by rw [h])
   simp [e1, this]
 rw [A0Y];simp [h3, Tm.zH]
 by_cases h1 : a.kind = b.kind <;> simp [h1]
 by_cases h2 : a.lo = b.lo <;> simp [h2]
 by_cases h4 : a.hi = b.hi <;> simp [h4]
 by_cases h5 : a.name = b.name <;> simp [h5]
 by_cases h6 : a.arg = b.arg <;> simp [h6]
 by_cases h7 : a.n = b.n <;> simp [h7]
 by_cases h8 : a.s = b.s <;> simp [h8]
 by_cases h9 : a.op = b.op <;> simp [h9]
 by_cases X9 : a.label = b.label <;> simp [X9]
 by_cases Af : a.neg = b.neg <;> simp [Af]
theorem A8x (t : Ty) : ∀ (i : Nat) (out : List Int) (sg : List D7) (es : List (DV × DV)) (c : Int → Int) (B : Int), p9 sg i = some (false, es) → Dz es c → (∀ v, 0 ≤ c v ∧ c v ≤ B) → (∀ v, c v = 0 ↔ v ∉ out) → B + t.BP ≤ 4611686018427387904 →
 out.length + t.BP ≤ lim → t.thin = true → ∃ es' c', (run cfg).r ZX [(t.enc, .val), (.undef, .map i), (F4 out, .own)] sg = some ([F4 (t.BO out)], sg.set i (.map false es')) ∧ Dz es' c' ∧ (∀ v, 0 ≤ c' v ∧ c' v ≤ B + t.BP) ∧ (∀ v, c' v = 0 ↔ v ∉ t.BO out) := by
 induction t using Ty.ind with
 | h t ih =>
   intro i out sg es c B hm hc hb hz hB hl TE;have Ew := t.Av TE;have Y9 := Ty.iT t;have hi := A7f hm;have loop : ∀ (n j : Nat) (out : List Int) (es : List (DV × DV)) (c : Int → Int) (B : Int), j + n = t.kids.length → Dz es c → (∀ v, 0 ≤ c v ∧ c v ≤ B) → (∀ v, c v = 0 ↔ v ∉ out) → B + ((t.kids.drop j).map Ty.BP).sum ≤ 4611686018427387904 → out.length + ((t.kids.drop j).map Ty.BP).sum ≤ lim →
    ∃ es' c', RX (run cfg) i (F4 out) (.list 3 (t.kids.map Ty.enc)) (.int .i64 t.kids.length) (.int .i64 j) (sg.set i (.map false es)) = some ([F4 ((t.kids.drop j).foldl (fun l k => k.BO l) out)], sg.set i (.map false es')) ∧ Dz es' c' ∧ (∀ v, 0 ≤ c' v ∧ c' v ≤ B + ((t.kids.drop j).map Ty.BP).sum) ∧
      (∀ v, c' v = 0 ↔ v ∉ (t.kids.drop j).foldl (fun l k => k.BO l) out) := by
    intro n
    induction n with
    | zero =>
      intro j out es c B hj hc hb hz hB hl;have : ¬ j < t.kids.length := by omega
      rw [WO, z3q (by omega)]
      refine ⟨es, c, by simp [this], hc, fun v => ⟨(hb v).1, by simpa using (hb v).2⟩, by simpa using hz⟩
    | succ n ihn =>
      intro j out es c B hj hc hb hz hB hl;have h : j < t.kids.length := by omega
      rw [z1q h] at hB hl ⊢;simp only [z10q, z18q, List.foldl_cons] at hB hl ⊢;obtain ⟨es1, c1, h1, h2, h3, h4⟩ := ih _ (z0q h) i out (sg.set i (.map false es)) es c B (B1x hi _ _) hc hb hz (by omega) (by omega) (Ty.Bu TE (z0q h))
      have hv := Ty.jm t.kids[j] out;obtain ⟨es2, c2, k1, k2, k3, k4⟩ := ihn (j + 1) (t.kids[j].BO out) es1 c1 (B + t.kids[j].BP) (by omega) h2 h3 h4 (by omega) (by omega)
      refine ⟨es2, c2, ?_, k2, fun v => ⟨(k3 v).1, by have := (k3 v).2; omega⟩, k4⟩
      rw [WO];rw [z55q] at h1;simp [h, F3 h, Ty.D8, Ty.ag, h1, J7 (show j < 9223372036854775807 by omega)]
      push_cast at k1;exact k1
   have fin : ∀ (out : List Int) (es : List (DV × DV)) (c : Int → Int) (B : Int), Dz es c → (∀ v, 0 ≤ c v ∧ c v ≤ B) → (∀ v, c v = 0 ↔ v ∉ out) → B + (t.kids.map Ty.BP).sum ≤ 4611686018427387904 → out.length + (t.kids.map Ty.BP).sum ≤ lim →
    ∃ es' c', Ng (run cfg) i (F4 out) t.enc (sg.set i (.map false es)) = some ([F4 (t.kids.foldl (fun l k => k.BO l) out)], sg.set i (.map false es')) ∧ Dz es' c' ∧ (∀ v, 0 ≤ c' v ∧ c' v ≤ B + (t.kids.map Ty.BP).sum) ∧ (∀ v, c' v = 0 ↔ v ∉ t.kids.foldl (fun l k => k.BO l) out) := by
    intro out es c B hc hb hz hB hl;have := loop t.kids.length 0 out es c B (by omega) hc hb hz (by simpa using hB) (by simpa using hl)
    simp only [z16q] at this;obtain ⟨es', c', k1, k2⟩ := this;refine ⟨es', c', ?_, k2⟩;rw [qx];simp;exact k1
   rw [Ty.YJ]
   by_cases h6 : t.kind = 6
   ·rw [if_pos h6] at Y9
    have hcv := hc t.n
    by_cases hn : t.n ∈ out
    ·have hc0 : c t.n ≠ 0 := fun h => (hz t.n).1 h hn
     obtain ⟨es', c', k1, k2, k3, k4⟩ := fin out (Cm es (.int .i64 t.n) (.int .i64 (c t.n + 1))) _ (B + 1) (hc.set t.n (c t.n + 1)) (fun v => by
      have := hb v; have := hb t.n
      by_cases e : t.n = v <;> simp [e] <;> omega) (fun v => by
      by_cases e : t.n = v
      ·subst e; simp [hn]; have := hb t.n; omega
      ·simp [e, hz v]) (by omega) (by omega)
     refine ⟨es', c', (Ul _ _ _ _).trans ?_, k2, fun v => ⟨(k3 v).1, by have := (k3 v).2; omega⟩, by simpa [h6, hn] using k4⟩
     rw [XO];have ha := hb t.n;have EG : A8 .add (.int .i64 (c t.n)) (.int .i64 1) = some (.int .i64 (c t.n + 1)) := Ck (by omega) (by omega)
     simp [h6, hm, hcv, hc0, EG, k1, hn]
    ·have hc0 : c t.n = 0 := (hz t.n).2 hn
     obtain ⟨es', c', k1, k2, k3, k4⟩ := fin (out ++ [t.n]) (Cm es (.int .i64 t.n) (.int .i64 (c t.n + 1))) _ (B + 1) (hc.set t.n (c t.n + 1)) (fun v => by
      have := hb v; have := hb t.n
      by_cases e : t.n = v <;> simp [e] <;> omega) (fun v => by
      by_cases e : t.n = v
      ·subst e; simp; have := hb t.n; omega
      ·simp only [e, if_false, hz v, z49q, z23q]; rw [not_or]; exact ⟨fun h => ⟨h, fun h' => e h'.symm⟩, fun h => h.1⟩) (by omega) (by simp; omega)
     refine ⟨es', c', (Ul _ _ _ _).trans ?_, k2, fun v => ⟨(k3 v).1, by have := (k3 v).2; omega⟩, by simpa [h6, hn] using k4⟩
     rw [XO];have ha := hb t.n;have EG : A8 .add (.int .i64 (c t.n)) (.int .i64 1) = some (.int .i64 (c t.n + 1)) := Ck (by omega) (by omega)
     have B7P : R8 1 (F4 out) (.list 1 [.int .i64 t.n]) = some (F4 (out ++ [t.n])) := l6 (e := fun n => DV.int .i64 n) (by omega)
     rw [hc0] at hcv EG;rw [hc0] at k1;rw [show (0 : Int) + 1 = 1 from rfl] at EG k1
     simp [h6, hm, hcv, B7P, EG, hn, k1]
   ·rw [if_neg h6] at Y9
    obtain ⟨es', c', k1, k2, k3, k4⟩ := fin out es c B hc hb hz (by omega) (by omega)
    refine ⟨es', c', (Ul _ _ _ _).trans ?_, k2, fun v => ⟨(k3 v).1, by have := (k3 v).2; omega⟩, by simpa [h6] using k4⟩
    rw [XO];rw [B23 hm] at k1;simp [h6, k1]
theorem XZ (t : Ty) (TE : t.thin = true) (ht : t.BP ≤ lim) : (run cfg).p Oj [t.enc] = some (F4 t.vars) := by
 refine (xF _).trans ?_;rw [A00];obtain ⟨es', c', h, -⟩ := A8x t 0 [] [.map false []] [] (fun _ => 0) 0 rfl Dz.nil (by simp) (by simp) (by unfold lim at ht; omega) (by simpa using ht) TE
 have e : F4 [] = .list 1 [] := rfl;rw [e] at h;simp [Ty.D8, Ty.ag, h, Ty.vars]
theorem A3J (l : List Int) (hl : l.length ≤ lim) (n : Int) : ∃ k : Int, (run cfg).p IB [F4 l, .int .i64 n] = some (.int .i64 k) ∧ (0 ≤ k ↔ n ∈ l) := by
 have hb := big hl;have loop : ∀ (m i : Nat), i + m = l.length → ∃ k : Int, Db (run cfg) (F4 l) (.int .i64 n) (.int .i64 l.length) (.int .i64 i) = some (.int .i64 k) ∧ (0 ≤ k ↔ n ∈ l.drop i) := by
  intro m
  induction m with
  | zero =>
    intro i hi;have : ¬ i < l.length := by omega
    rw [FP];exact ⟨-1, by simp [this], by simp [z3q (show l.length ≤ i by omega)]⟩
  | succ m ihm =>
    intro i hi;have h : i < l.length := by omega
    rw [FP, z1q h]
    by_cases e : n = l[i]
    ·exact ⟨i, by simp [h, U0 h, e], ⟨fun _ => by rw [e]; exact z22q .., fun _ => by omega⟩⟩
    ·obtain ⟨k, h1, h2⟩ := ihm (i + 1) (by omega)
     push_cast at h1;refine ⟨k, by simp [h, U0 h, e, J7 (show i < 9223372036854775807 by omega), h1], ?_⟩
     rw [h2, z59q];simp [e]
 obtain ⟨k, h1, h2⟩ := loop l.length 0 (by omega)
 refine ⟨k, (NS _ _).trans ?_, by simpa using h2⟩
 rw [N_];simpa using h1
theorem yZ (l : List Int) (hl : l.length ≤ lim) (n : Int) : (run cfg).p GA [F4 l, .int .i64 n] = some (.bool (decide (n ∈ l))) := by
 refine (KV _ _).trans ?_;rw [LH];obtain ⟨k, h1, h2⟩ := A3J l hl n;simp [h1, h2]
def yu (es : List (DV × DV)) (l : List (Int × Ty)) : Prop :=
 ∀ v, match Y7 es (.int .i64 v) with
   | none => ∀ e ∈ l, e.1 ≠ v
   | some d => ∃ (i : Nat) (h : i < l.length), d = .int .i64 i ∧ l[i].1 = v ∧ ∀ j (hj : j < i), (l[j]'(by omega)).1 ≠ v
theorem yu.look {es : List (DV × DV)} {l : List (Int × Ty)} (h : yu es l) (v : Int) : (Y7 es (.int .i64 v) = none ∧ look l v = none) ∨ ∃ (i : Nat) (hi : i < l.length), Y7 es (.int .i64 v) = some (.int .i64 i) ∧ look l v = some l[i].2 := by
 have := h v;cases hm : Y7 es (.int .i64 v) with
 | none =>
   rw [hm] at this
   left
   refine ⟨rfl, ?_⟩;unfold Su.look;rw [List.find?_eq_none.2]
   ·rfl
   ·intro e he; simpa using this e he
 | some d =>
   rw [hm] at this;obtain ⟨i, hi, rfl, h1, h2⟩ := this
   right
   refine ⟨i, hi, rfl, ?_⟩;unfold Su.look;have : l.find? (fun e => decide (e.1 = v)) = some l[i] := by
    rw [List.find?_eq_some_iff_getElem];refine ⟨by simpa using h1, i, hi, rfl, fun j hj => ?_⟩
    simpa using h2 j hj
   rw [this];rfl
@[simp] theorem B8m (e : Int × Ty) : A7 0 (Nk e) = .int .i64 e.1 := rfl
@[simp] theorem B8n (e : Int × Ty) : A7 1 (Nk e) = .int .i64 e.2.kind := rfl
@[simp] theorem B8o (e : Int × Ty) : A7 2 (Nk e) = .int .i64 e.2.n := rfl
@[simp] theorem B8p (e : Int × Ty) : A7 3 (Nk e) = .list 3 (e.2.kids.map Ty.enc) := rfl
@[simp] theorem B6Z (e : Int × Ty) : C9 4 (Nk e) = true := rfl
theorem A5E (l : List (Int × Ty)) (es : List (DV × DV)) (hf : yu es l) (i : Nat) (sg : List D7) (hm : p9 sg i = some (false, es)) (t : Ty) : t.right = true →
 (run cfg).r TR [(t.enc, .val), (Aw l, .val), (.undef, .map i)] sg = some ([(t.put l).enc], sg) := by
 induction t using Ty.ind with
 | h t ih =>
   intro ht;have hb := t.Av (Ty.U8 ht);refine (lX _ _ _ _).trans ?_;rw [qc, Ty.put_eq]
   by_cases h6 : t.kind = 6
   ·have e6 : DV.agg [.int .i64 6, .int .i64 t.n, .list 3 (t.kids.map Ty.enc)] = t.enc := by rw [← h6]; exact Ty.D8 t
    rcases hf.look t.n with ⟨h1, h2⟩ | ⟨j, hj, h1, h2⟩
    ·simp [h6, hm, h1, h2, e6]
    ·have e1 : E8 4 (Aw l) (.int .i64 (j : Int)) = some (Nk l[j]) := F3 hj
     simp [h6, hm, h1, h2, e1, Ty.D8, Ty.ag]
   ·have loop := FR (l := t.kids) (P := fun j (a : List Ty) => Lb (run cfg) (Aw l) i (.list 3 (t.kids.map Ty.enc)) (.int .i64 t.kids.length) (.int .i64 j) (.int .i64 t.kind) (.list 3 (a.map Ty.enc)) sg)
     (g := fun a k => a ++ [k.put l]) (fin := fun a => some ([(Ty.mk t.kind 0 a).enc], sg)) (I := fun j a => a.length = j)
     (fun a _ => by rw [QG]; simp [Ty.F9])
     (fun j h a ha => by
       refine ⟨?_, by simp [ha]⟩
       rw [QG];have := l6 (e := Ty.enc) (sz := 3) (l := a) (x := t.kids[j].put l) (by unfold lim; omega)
       simp [h, F3 h, Ty.D8, Ty.ag, ih _ (z0q h) (Ty.Q0 ht (z0q h)), this, J7 (show j < 9223372036854775807 by omega)]) [] rfl
    have e : ∀ (m : List Ty) (a : List Ty), m.foldl (fun a k => a ++ [k.put l]) a = a ++ m.map (Ty.put l) := by
     intro m
     induction m with
     | nil => intro a; simp
     | cons x m ih => intro a; simp [ih]
    rw [e] at loop;have hn : t.n = 0 := by have := (Ty.X6.1 ht).2.2.2.1; omega
    by_cases h0 : t.kids.length = 0
    ·have hk : t.kids = [] := z7q h0
     simp only [if_neg h6, hk, z14q, Ty.F9 (Ty.mk t.kind t.n [])];simp [h6, hk]
     try (rw [Ty.F9 t, hk]; rfl)
    ·have Iz : ¬ ((t.kids.length : Int) = 0) := by omega
     simp only [z14q, z50q] at loop;have A34 : ¬ t.kids = [] := fun h => h0 (by rw [h]; rfl)
     simp [h6, Iz, A34, hn, loop]
theorem A3I (t : Ty) (l : List (Int × Ty)) (ht : t.thin = true) (hl : l.length ≤ lim) (H7 : ∀ e ∈ l, e.2.thin = true) :
 (run cfg).p Vo [t.enc, Aw l] = some (if t.right = true ∧ MB l = true then .I6 [(t.put l).enc, .int .i64 0] else .I6 [F7.enc, .int .i64 1]) := by
 have hb := big hl;have z : F7.enc = .agg [.int .i64 0, .int .i64 0, .list 3 []] := by rw [Ty.F9]; rfl
 refine (bW _ _).trans ?_;rw [gD]
 by_cases hr : t.right = true
 ·have loop : ∀ (m i : Nat) (es : List (DV × DV)), i + m = l.length → yu es (l.take i) → (l.take i).all (fun e => decide (0 ≤ e.1) && decide (e.1 ≤ 1048576) && e.2.right) = true →
   GI (run cfg) (Aw l) (Aw l) (.int .i64 l.length) (.int .i64 i) t.enc [.map false es] = some (if MB l = true then .I6 [(t.put l).enc, .int .i64 0] else .I6 [F7.enc, .int .i64 1]) := by
   intro m
   induction m with
   | zero =>
     intro i es hi hf ha;rw [z17q (by omega)] at hf ha
     have : ¬ i < l.length := by omega
     rw [Nz];have hp := A5E l es hf 0 [.map false es] rfl t hr;have ha' : MB l = true := ha;simp [this, Ty.D8, Ty.ag, hp, ha']
   | succ m ihm =>
     intro i es hi hf ha;have h : i < l.length := by omega
     have oI : l[i] ∈ l := z0q h;have ha' : ¬ (0 ≤ l[i].1 ∧ l[i].1 ≤ 1048576 ∧ l[i].2.right = true) → MB l = false := by
      intro hh;rw [z26q];intro h';exact hh (mZ.1 h' _ oI)
     rw [Nz];have e1 : E8 4 (Aw l) (.int .i64 (i : Int)) = some (Nk l[i]) := F3 h
     by_cases h1 : l[i].1 < 0
     ·simp [h, e1, h1, ha' (by omega), z]
     by_cases h2 : 1048576 < l[i].1
     ·simp [h, e1, h1, h2, ha' (by omega), z]
     cases h3 : l[i].2.right
     ·simp [h, e1, h1, h2, Ty.D8, Ty.ag, Ce _ (H7 _ oI), h3, ha' (by simp [h3]), z]
     have hm : p9 [D7.map false es] 0 = some (false, es) := rfl;have oF : (l.take (i + 1)).all (fun e => decide (0 ≤ e.1) && decide (e.1 ≤ 1048576) && e.2.right) = true := by
      rw [z12q h, List.all_append, ha];have mF : 0 ≤ l[i].1 := by omega
      have ZJ : l[i].1 ≤ 1048576 := by omega
      simp [mF, ZJ, h3]
     have Z4 : (l.take i).length = i := by simp; omega
     cases hg : Y7 es (.int .i64 l[i].1) with
     | none =>
       have nx := ihm (i + 1) (Cm es (.int .i64 l[i].1) (.int .i64 i)) (by omega) (by
        intro v;rw [A41]
        by_cases e : l[i].1 = v
        ·rw [if_pos e]
         refine ⟨i, by simp; omega, rfl, by simpa using e, fun j hj => ?_⟩
         have := hf l[i].1;rw [hg] at this;have := this l[j] (z25q.2 ⟨j, by omega, rfl⟩)
         simpa [e] using this
        ·rw [if_neg e]
         have := hf v;cases hv : Y7 es (.int .i64 v) with
         | none =>
           rw [hv] at this;intro x hx;rw [z12q h, z49q, z23q] at hx;rcases hx with hx | rfl
           ·exact this x hx
           ·exact e
         | some d =>
           rw [hv] at this;obtain ⟨k, hk, a, b, c⟩ := this;rw [Z4] at hk;refine ⟨k, by simp; omega, a, by simpa using b, fun j hj => by simpa using c j hj⟩) oF
       push_cast at nx;simp [h, e1, h1, h2, Ty.D8, Ty.ag, Ce _ (H7 _ oI), h3, hm, hg, J7 (show i < 9223372036854775807 by omega), nx]
     | some d =>
       have nx := ihm (i + 1) es (by omega) (by
        intro v;have := hf v;cases hv : Y7 es (.int .i64 v) with
        | none =>
          rw [hv] at this;intro x hx;rw [z12q h, z49q, z23q] at hx;rcases hx with hx | rfl
          ·exact this x hx
          ·intro e; rw [e, hv] at hg; cases hg
        | some d =>
          rw [hv] at this;obtain ⟨k, hk, a, b, c⟩ := this;rw [Z4] at hk;refine ⟨k, by simp; omega, a, by simpa using b, fun j hj => by simpa using c j hj⟩) oF
       push_cast at nx;simp [h, e1, h1, h2, Ty.D8, Ty.ag, Ce _ (H7 _ oI), h3, hm, hg, J7 (show i < 9223372036854775807 by omega), nx]
  have l0 := loop l.length 0 [] (by omega) (fun v => by simp [Y7]) (by simp)
  simp only [z11q, z13q, z5q] at l0;have dl : dLen (Aw l) = some (.int .i64 l.length) := by simp [Aw]
  simp [Ty.D8, Ty.ag, Ce t ht, hr, dl, l0]
 ·simp [Ty.D8, Ty.ag, Ce t ht, hr, z]
theorem A6N {α β X : Type} {l : List α} {m : List β} (hl : l.length = m.length) {P : Int → Option X} {f : α → β → Bool} {y n : X} (stop : P l.length = some y)
 (step : ∀ (i : Nat) (h : i < l.length), P i = if f l[i] (m[i]'(by omega)) = true then P ((i : Int) + 1) else some n) : P 0 = some (if ((l.zip m).all fun p => f p.1 p.2) = true then y else n) := by
 refine Lx (l := l.zip m) (f := fun p => f p.1 p.2) (by rw [z51q, ← hl, Nat.min_self]; exact stop) fun i h => ?_
 have h' : i < l.length := by rw [z51q] at h; omega
 rw [step i h'];simp
theorem A4E {a b : Ty} (ha : a.right = true) (hb : b.right = true) (h : a.kind = b.kind) : a.kids.length = b.kids.length := by
 have h1 := (Ty.X6.1 ha).1;have h2 := (Ty.X6.1 hb).1;rw [h] at h1;omega
theorem A3D (a : Ty) : a.right = true → ∀ b : Ty, b.right = true → (run cfg).p Og [a.enc, b.enc] = some (.bool (a.agrees b)) := by
 induction a using Ty.ind with
 | h a ih =>
   intro ha b hb;have hn := a.Av (Ty.U8 ha);refine (bR _ _).trans ?_;rw [fU, Ty.A4C];simp [Ty.D8, Ty.ag, Yt _ (Ty.U8 ha), Yt _ (Ty.U8 hb)]
   by_cases h1 : a.kind = 5 <;> simp [h1]
   by_cases h2 : b.kind = 5 <;> simp [h2]
   by_cases h3 : a.kind = b.kind <;> simp [h3]
   by_cases h4 : a.n = b.n <;> simp [h4]
   have h5 := A4E ha hb h3;have loop := A6N (l := a.kids) (m := b.kids) h5 (P := fun i => Jd (run cfg) (.list 3 (a.kids.map Ty.enc)) (.int .i64 a.kids.length) (.int .i64 i) b.enc) (f := Ty.agrees) (y := .bool true) (n := .bool false)
    (by rw [Np]; simp)
    (fun i h => by
      have h' : i < b.kids.length := by omega
      rw [Np];simp [h, h', F3 h, F3 h', Ty.D8, Ty.ag, ih _ (z0q h) (Ty.Q0 ha (z0q h)) _ (Ty.Q0 hb (z0q h')), J7 (show i < 9223372036854775807 by omega)]
      cases (a.kids[i].agrees b.kids[i]) <;> rfl)
   rw [loop];cases ((a.kids.zip b.kids).all fun p => p.1.agrees p.2) <;> rfl
theorem A4j (a b : Ty) (ha : a.thin = true) (hb : b.thin = true) : (run cfg).p YM [a.enc, b.enc] = some (.bool (a.right && b.right && a.agrees b)) := by
 refine (gH _ _).trans ?_;rw [kS];simp [Ty.D8, Ty.ag, Ce _ ha, Ce _ hb];cases h1 : a.right
 ·simp
 ·cases h2 : b.right
  ·simp
  ·simp [A3D a h1 b h2]
theorem yP (k : Int) : (run cfg).p ib [.int .i64 k] = some (.int .i64 (Mj k)) := by
 refine (rT _).trans ?_;rw [vR];simp [Mj]
 by_cases h3 : k = 3 <;> by_cases h4 : k = 4 <;> by_cases h5 : k = 5 <;> by_cases h6 : k = 6 <;> by_cases h8 : k = 8 <;> simp_all
def uB (R : N7) (p : D5) (t : Ty) (sg : List D7) (out : List (ByteArray × Ty)) : Option (List (ByteArray × Ty)) → Prop
 | some b => R.r QN [(p.enc, .val), (t.enc, .val), (O8 out, .own)] sg = some ([O8 (out ++ b), .bool true], sg)
 | none => ∃ d, R.r QN [(p.enc, .val), (t.enc, .val), (O8 out, .own)] sg = some ([d, .bool false], sg)
theorem A7B (p : D5) : p.pat = true → ∀ (t : Ty) (sg : List D7) (out : List (ByteArray × Ty)), t.right = true → out.length + p.size ≤ lim → uB (run cfg) p t sg out (p.binds t) := by
 induction p using D5.ind with
 | h p ih =>
   intro hp t sg out ht hl;have DR := D5.oV (D5.A8V hp);have Y9 := D5.size_eq p;have loop : ∀ (ts : List Ty), ts.length = p.kids.length → (∀ u ∈ ts, u.right = true) → ∀ (n j : Nat) (out : List (ByteArray × Ty)), j + n = p.kids.length → out.length + ((p.kids.drop j).map D5.size).sum ≤ lim →
    match KQ ((p.kids.drop j).map D5.binds) (ts.drop j) with
    | some b => Ie (run cfg) (O8 out) (.list 3 (ts.map Ty.enc)) (.list 7 (p.kids.map D5.enc)) (.int .i64 p.kids.length) (.int .i64 j) sg = some ([O8 (out ++ b), .bool true], sg)
    | none => ∃ d, Ie (run cfg) (O8 out) (.list 3 (ts.map Ty.enc)) (.list 7 (p.kids.map D5.enc)) (.int .i64 p.kids.length) (.int .i64 j) sg = some ([d, .bool false], sg) := by
    intro ts hts htr n
    induction n with
    | zero =>
      intro j out hj hl;have : ¬ j < p.kids.length := by omega
      rw [z3q (show p.kids.length ≤ j by omega)]
      simp only [z14q, KQ];rw [G_];simp [this]
    | succ n ihn =>
      intro j out hj hl;have h : j < p.kids.length := by omega
      have h' : j < ts.length := by omega
      have hb : p.kids.length < 4294967297 := by rw [DR]; split <;> omega
      rw [z1q h] at hl ⊢;rw [z1q h'];simp only [z10q, z18q, KQ] at hl ⊢;have k1 := ih _ (z0q h) (D5.A4e hp (z0q h)) ts[j] sg out (htr _ (z0q h')) (by omega)
      cases VA : p.kids[j].binds ts[j] with
      | none =>
        rw [VA] at k1;obtain ⟨d, k1⟩ := k1;simp only [z65q];refine ⟨.list 4 [], ?_⟩;rw [G_];simp [h, F3 h, F3 h', D5.D8, D5.ag, Ty.D8, Ty.ag, k1]
      | some b1 =>
        rw [VA] at k1;have B8N := D5.Sk _ _ _ VA;simp only [uB] at k1;have k2 := ihn (j + 1) (out ++ b1) (by omega) (by rw [z39q]; omega)
        simp only [z66q];cases hc : KQ ((p.kids.drop (j + 1)).map D5.binds) (ts.drop (j + 1)) with
        | none =>
          rw [hc] at k2;obtain ⟨d, k2⟩ := k2;simp only [z65q];refine ⟨d, ?_⟩;rw [G_];push_cast at k2;simp [h, F3 h, F3 h', D5.D8, D5.ag, Ty.D8, Ty.ag, k1, J7 (show j < 9223372036854775807 by omega), k2]
        | some b2 =>
          rw [hc] at k2;simp only [z66q];rw [G_];push_cast at k2;simp only [z19q] at k2;simp [h, F3 h, F3 h', D5.D8, D5.ag, Ty.D8, Ty.ag, k1, J7 (show j < 9223372036854775807 by omega), k2]
   have fin : ∀ (ts : List Ty), ts.length = p.kids.length → (∀ u ∈ ts, u.right = true) → match KQ (p.kids.map D5.binds) ts with
    | some b => KC (run cfg) (O8 out) (.list 3 (ts.map Ty.enc)) p.enc sg = some ([O8 (out ++ b), .bool true], sg)
    | none => ∃ d, KC (run cfg) (O8 out) (.list 3 (ts.map Ty.enc)) p.enc sg = some ([d, .bool false], sg) := by
    intro ts hts htr;have := loop ts hts htr p.kids.length 0 out (by omega) (by simp; omega)
    simp only [z16q] at this;rw [fZ];simp only [D5.Zv, BB, z6q, I1];exact this
   rw [D5.nR];unfold aI
   by_cases k1 : p.kind = 1
   ·simp only [if_pos k1, uB]
    refine (Be _ _ _ _).trans ?_;rw [Cb];simp [k1]
   rw [if_neg k1]
   by_cases k2 : p.kind = 2
   ·simp only [if_pos k2, uB]
    refine (Be _ _ _ _).trans ?_;rw [Cb];have := l6 (e := Nl) (sz := 4) (l := out) (x := (p.name, t)) (by omega)
    simp [k1, k2]
    show ob (R8 4 (O8 out) (.list 4 [Nl (p.name, t)])) _ = _
    rw [show O8 out = .list 4 (out.map Nl) from rfl, this]
    rfl
   rw [if_neg k2]
   by_cases k7 : p.kind = 7
   ·rw [if_pos k7]
    by_cases t7 : t.kind = 7
    ·rw [if_pos t7]
     obtain ⟨a, b, hk⟩ := A5h ht (.inl t7);have := fin t.kids (by rw [hk, DR]; simp [k7]) (fun u hu => Ty.Q0 ht hu)
     cases hc : KQ (p.kids.map D5.binds) t.kids with
     | none =>
       rw [hc] at this;obtain ⟨d, this⟩ := this;refine ⟨d, (Be _ _ _ _).trans ?_⟩;rw [Cb];simp [k1, k2, k7, t7, this]
     | some b =>
       rw [hc] at this;refine (Be _ _ _ _).trans ?_;rw [Cb];simp [k1, k2, k7, t7, this]
    ·rw [if_neg t7]
     refine ⟨.list 4 [], (Be _ _ _ _).trans ?_⟩;rw [Cb];simp [k1, k2, k7, t7]
   rw [if_neg k7]
   by_cases k9 : p.kind = 9
   ·rw [if_pos k9]
    by_cases t7 : t.kind = 8
    ·rw [if_pos t7]
     obtain ⟨a, hk⟩ := pM ht t7;have e0 : E8 3 (.list 3 (t.kids.map Ty.enc)) (.int .i64 0) = some a.enc := by rw [hk]; simp [E8]
     have ea : t.kids.getD 0 F7 = a := by rw [hk]; rfl
     have := fin [a, t] (by rw [DR]; simp [k9]) (fun u hu => by
      simp at hu;rcases hu with rfl | rfl
      ·exact Ty.Q0 ht (by rw [hk]; exact z22q ..)
      ·exact ht)
     rw [ea];cases hc : KQ (p.kids.map D5.binds) [a, t] with
     | none =>
       rw [hc] at this;obtain ⟨d, this⟩ := this;refine ⟨d, (Be _ _ _ _).trans ?_⟩;rw [Cb];have e9 : DV.agg [.int .i64 8, .int .i64 t.n, .list 3 (t.kids.map Ty.enc)] = t.enc := by rw [← t7]; exact Ty.D8 t
       simp [k1, k2, k7, k9, t7, e0, Ty.D8, Ty.ag, e9];simpa using this
     | some b =>
       rw [hc] at this;refine (Be _ _ _ _).trans ?_;rw [Cb];have e9 : DV.agg [.int .i64 8, .int .i64 t.n, .list 3 (t.kids.map Ty.enc)] = t.enc := by rw [← t7]; exact Ty.D8 t
       simp [k1, k2, k7, k9, t7, e0, Ty.D8, Ty.ag, e9];simpa using this
    ·rw [if_neg t7]
     refine ⟨.list 4 [], (Be _ _ _ _).trans ?_⟩;rw [Cb];simp [k1, k2, k7, k9, t7]
   rw [if_neg k9]
   by_cases A5Q : t.kind = Mj p.kind
   ·rw [if_pos A5Q]
    refine (Be _ _ _ _).trans ?_;rw [Cb];simp [k1, k2, k7, k9, yP, A5Q]
   ·rw [if_neg A5Q]
    refine ⟨O8 out, (Be _ _ _ _).trans ?_⟩;rw [Cb];simp [k1, k2, k7, k9, yP, A5Q]
theorem A7A (p : D5) (t : Ty) (hf : p.fit) (hp : p.right = true) (ht : t.right = true) :
 (run cfg).p iZ [p.enc, t.enc] = some (match p.binds t with
   | some b => .I6 [O8 b, .int .i64 0]
   | none => .I6 [O8 [], .int .i64 4]) := by
 refine (rR _ _).trans ?_;rw [vQ];have := A7B p (D5.A5b hp) t [] [] ht (by simpa using hf.size)
 have e0 : (DV.list 4 []) = O8 [] := rfl;rw [e0];cases hb : p.binds t with
 | none =>
   rw [hb] at this;obtain ⟨d, this⟩ := this;simp [D5.D8, D5.ag, Ty.D8, Ty.ag, Sa p (D5.WT hf) hf.txt, hp, Ce t (Ty.U8 ht), ht, this]
 | some b =>
   rw [hb] at this;simp only [uB] at this;simp [D5.D8, D5.ag, Ty.D8, Ty.ag, Sa p (D5.WT hf) hf.txt, hp, Ce t (Ty.U8 ht), ht, this]
theorem Ty.A3k (k n : Int) (ks : List Ty) : DV.agg [.int .i64 k, .int .i64 n, .list 3 (ks.map Ty.enc)] = (Ty.mk k n ks).enc := (Ty.F9 (.mk k n ks)).symm
theorem Ty.A8R (k n : Int) (a : Ty) : DV.agg [.int .i64 k, .int .i64 n, .list 3 [a.enc]] = (Ty.mk k n [a]).enc := (Ty.F9 (.mk k n [a])).symm
theorem Ty.A8S (k n : Int) (a b : Ty) : DV.agg [.int .i64 k, .int .i64 n, .list 3 [a.enc, b.enc]] = (Ty.mk k n [a, b]).enc := (Ty.F9 (.mk k n [a, b])).symm
theorem A5k (vs : List Int) (ts : List Ty) (k : Nat) (h1 : k < vs.length) (h2 : k < ts.length) : (vs.take (k + 1)).zip (ts.take (k + 1)) = (vs.take k).zip (ts.take k) ++ [(vs[k], ts[k])] := by
 rw [z12q h1, z12q h2, List.zip_append (by simp; omega)]
 rfl
theorem A7x (ts : List Ty) (hl : ts.length ≤ lim) (h : ∀ t ∈ ts, t.size ≤ lim) : ∃ b : Bool, (run cfg).p iY [.list 3 (ts.map Ty.enc)] = some (.bool b) := by
 have hb := big hl;have loop : ∀ (n j : Nat), j + n = ts.length → ∃ b : Bool, Ov (run cfg) (.list 3 (ts.map Ty.enc)) (.int .i64 j) = some (.bool b) := by
  intro n
  induction n with
  | zero =>
    intro j hj;refine ⟨true, ?_⟩;have : ¬ j < ts.length := by omega
    rw [UR];simp [this]
  | succ n ih =>
    intro j hj;have EH : j < ts.length := by omega
    obtain ⟨b, TC⟩ := ih (j + 1) (by omega)
    have Y9 := h _ (z0q EH);have TE := Ty.DW Y9;obtain ⟨c, hc⟩ := A5B ts[j] TE;have hd := A8m ts[j] 60 (by omega) (by omega) TE
    have hv := A1y ts[j] Y9;push_cast at TC;rw [UR];cases c
    ·cases JZ : ts[j].deep 60
     ·by_cases hq : (8 : Int) < (ts[j].vars.length : Int)
      ·exact ⟨false, by simp [EH, F3 EH, Ty.D8, Ty.ag, hc, hd, JZ, hv, hq]⟩
      ·exact ⟨b, by simp [EH, F3 EH, Ty.D8, Ty.ag, hc, hd, JZ, hv, hq, J7 (show j < 9223372036854775807 by omega), TC]⟩
     ·exact ⟨false, by simp [EH, F3 EH, Ty.D8, Ty.ag, hc, hd, JZ]⟩
    ·exact ⟨false, by simp [EH, F3 EH, Ty.D8, Ty.ag, hc]⟩
 obtain ⟨b, h1⟩ := loop ts.length 0 (by omega)
 refine ⟨b, (rM _).trans ?_⟩;rw [vM];exact h1
def aG (x : ByteArray × Int) : DV := .agg [.str x.1, .int .i64 x.2]
def l7 (l : List (ByteArray × Int)) : DV := .list 2 (l.map aG)
@[simp] theorem B7K (x : ByteArray × Int) : A7 0 (aG x) = .str x.1 := rfl
@[simp] theorem B7L (x : ByteArray × Int) : A7 1 (aG x) = .int .i64 x.2 := rfl
@[simp] theorem B4T (l : List (ByteArray × Int)) : dLen (l7 l) = some (.int .i64 l.length) := by simp [l7]
@[simp] theorem B3u (l : List (ByteArray × Int)) : I7 (l7 l) = true := rfl
def Room (n : Int) : Prop := 0 ≤ n ∧ n ≤ 3000
def PN (l : List (ByteArray × Int)) : Prop := ∀ x ∈ l, Room x.2
theorem A6c (a b : Int) : A1E (.int .i64 a) (.int .i64 b) = some (.int .i64 (if b < a then b else a)) := rfl
theorem B17 (a b : Int) : A3V (.int .i64 a) (.int .i64 b) = some (.int .i64 (if b > a then b else a)) := rfl
def CU (sg : List D7) (i : Nat) (b : Bool) : List D7 := sg.set i (.box [(.bool b, .val)])
theorem uq {sg : List D7} {i : Nat} (hi : i < sg.length) (b : Bool) : M7 (CU sg i b) i = some [(.bool b, .val)] := B1w hi _
theorem B0t {sg : List D7} {i : Nat} (b c : Bool) : (CU sg i b).set i (.box [(.bool c, .val)]) = CU sg i c := by unfold CU; rw [z55q]
theorem yU {sg : List D7} {i : Nat} (hi : i < sg.length) (b : Bool) (n : Int) (hn : 0 ≤ n) : ∃ (m : Int) (c : Bool), (run cfg).r Ah [(.undef, .ptr i 0), (.int .i64 n, .val)] (CU sg i b) = some ([.int .i64 m], CU sg i c) ∧ Room m := by
 by_cases h : 3000 < n
 ·refine ⟨3000, true, (Uk _ _ _).trans ?_, by unfold Room; omega⟩
  rw [WK];have e : [((DV.bool b : DV), Meta.val)].set 0 (.bool true, .val) = [(.bool true, .val)] := rfl;have e0 : [((DV.bool b : DV), Meta.val)][0]? = some (.bool b, .val) := rfl;simp only [Ct, h, decide_true, I1, N9, if_true, uq hi, e0, A6c, e, B0t]
 ·refine ⟨n, b, (Uk _ _ _).trans ?_, by unfold Room; omega⟩
  rw [WK];simp [h, A6c]
theorem A7I {sg : List D7} {i : Nat} (hi : i < sg.length) (b : Bool) (l : List (ByteArray × Int)) (hl : l.length ≤ lim) (ho : PN l) (s : ByteArray) (ts : List Ty) (hts : ts.length ≤ lim) (Y9 : ∀ t ∈ ts, t.size ≤ lim) :
 ∃ (m : Int) (c : Bool), (run cfg).r Rq [(.undef, .ptr i 0), (l7 l, .val), (.str s, .val), (.list 3 (ts.map Ty.enc), .val)] (CU sg i b) = some ([.int .i64 m], CU sg i c) ∧ Room m := by
 have hb := big hl;have dK := big hts;have l2 : ∀ (m : Nat) (a : Int) (b : Bool), m ≤ l.length → 0 ≤ a → a ≤ 3000 → ∃ (r : Int) (c : Bool), Ht (run cfg) i (l7 l) (.str s) (.int .i64 a) (.int .i64 ((m : Int) - 1)) (CU sg i b) = some ([.int .i64 r], CU sg i c) ∧ Room r := by
  intro m
  induction m with
  | zero =>
    intro a b _ h0 h1;refine ⟨1, b, ?_, by unfold Room; omega⟩
    rw [Lh];simp
  | succ m ih =>
    intro a b hm h0 h1;have h : m < l.length := by omega
    have e1 : ((m + 1 : Nat) : Int) - 1 = (m : Int) := by omega
    have e2 : E8 2 (l7 l) (.int .i64 (m : Int)) = some (aG l[m]) := F3 h;have e3 : A8 .sub (.int .i64 (m : Int)) (.int .i64 1) = some (.int .i64 ((m : Int) - 1)) := by rw [BU, A_ (by omega) (by omega)]
    rw [e1, Lh]
    by_cases hn : l[m].1 = s
    ·obtain ⟨r0, r1⟩ := ho _ (z0q h)
     have p0 : 0 ≤ a * l[m].2 := Int.mul_nonneg h0 r0;have p1 : a * l[m].2 ≤ 3000 * 3000 := Int.mul_le_mul h1 r1 r0 (by omega)
     have e4 : A8 .mul (.int .i64 a) (.int .i64 l[m].2) = some (.int .i64 (a * l[m].2)) := by rw [B16, A_ (by omega) (by omega)]
     obtain ⟨r, c, k1, k2⟩ := yU hi b _ p0;exact ⟨r, c, by simp [e2, hn, e4, k1], k2⟩
    ·obtain ⟨r, c, k1, k2⟩ := ih a b (by omega) h0 h1
     exact ⟨r, c, by simp [e2, hn, e3, k1], k2⟩
 have l1 : ∀ (n j : Nat) (a : Int) (b : Bool), j + n = ts.length → 0 ≤ a → a ≤ 3000 → ∃ (r : Int) (c : Bool), Hr (run cfg) i (l7 l) (.str s) (.list 3 (ts.map Ty.enc)) (.int .i64 a) (.int .i64 j) (CU sg i b) = some ([.int .i64 r], CU sg i c) ∧ Room r := by
  intro n
  induction n with
  | zero =>
    intro j a b hj h0 h1;obtain ⟨r, c, k1, k2⟩ := l2 l.length a b (z33q _) h0 h1;refine ⟨r, c, ?_, k2⟩;have : ¬ j < ts.length := by omega
    rw [Lg];have e3 : A8 .sub (.int .i64 (l.length : Int)) (.int .i64 1) = some (.int .i64 ((l.length : Int) - 1)) := by rw [BU, A_ (by omega) (by omega)]
    simp [this, e3, k1]
  | succ n ih =>
    intro j a b hj h0 h1;have h : j < ts.length := by omega
    obtain ⟨m, c, k1, k2, k3⟩ := yU hi b (ts[j].size : Int) (by omega)
    have hmx : 0 ≤ (if m > a then m else a) ∧ (if m > a then m else a) ≤ 3000 := by split <;> omega
    obtain ⟨r, d, q1, q2⟩ := ih (j + 1) (if m > a then m else a) c (by omega) hmx.1 hmx.2
    refine ⟨r, d, ?_, q2⟩;rw [Lg];push_cast at q1;simp only [BB, z6q, Br, z38q, h, decide_true, I1, N9, if_true, F3 h, Ty.Y3, Ty.Ar, Ty.AV, Ty.D8, Ty.ag, Qt _ (Y9 _ (z0q h)), k1, z35q, B17, J7 (show j < 9223372036854775807 by omega)]
    push_cast;exact q1
 obtain ⟨r, c, k1, k2⟩ := l1 ts.length 0 1 b (by omega) (by omega) (by omega)
 refine ⟨r, c, (Xt _ _ _ _ _).trans ?_, k2⟩;rw [Yz];exact k1
theorem Z_ (k : Int) (a b : Ty) : (run cfg).p IX [.int .i64 k, a.enc, b.enc] = some (Ty.mk k 0 [a, b]).enc := by
 refine (jL _ _ _).trans ?_;rw [nX];simp [Ty.D8, Ty.ag, Ty.A8S]
theorem A1x (a : Ty) : (run cfg).p TN [a.enc] = some (Ty.mk 8 0 [a]).enc := by
 refine (wU _).trans ?_;rw [A0I];simp [Ty.D8, Ty.ag, Ty.A8R]
theorem B0d (l : List (Int × Ty)) (hl : l.length ≤ lim) (t : Ty) : t.right = true → (run cfg).p fA [t.enc, Aw l] = some (t.put l).enc := by
 have hb := big hl
 induction t using Ty.ind with
 | h t ih =>
   intro ht;have hn := t.Av (Ty.U8 ht);refine (A09 _ _).trans ?_;rw [A2U, Ty.put_eq]
   by_cases h6 : t.kind = 6
   ·have loop : ∀ (m i : Nat), i + m = l.length → Tp (run cfg) (Aw l) (.int .i64 i) t.enc = some ((look (l.drop i) t.n).getD t).enc := by
     intro m
     induction m with
     | zero =>
       intro i hi;have : ¬ i < l.length := by omega
       rw [Ya, z3q (by omega)]
       simp [this, look, Ty.D8, Ty.ag]
     | succ m ihm =>
       intro i hi;have h : i < l.length := by omega
       have nx := ihm (i + 1) (by omega)
       push_cast at nx;have e1 : E8 4 (Aw l) (.int .i64 (i : Int)) = some (Nk l[i]) := F3 h;rw [Ya, z1q h]
       by_cases e : l[i].1 = t.n
       ·simp only [look, z52q, e, decide_true]
        simp [h, e1, e, Ty.D8, Ty.ag]
       ·simp only [look, z52q, e, decide_false] at nx ⊢
        simp [h, e1, e, J7 (show i < 9223372036854775807 by omega), nx]
    have l0 := loop l.length 0 (by omega)
    simp only [z11q, z13q, z5q, z16q] at l0;simp [h6, l0]
   ·have loop := FR (l := t.kids) (P := fun j (a : List Ty) => RJ (run cfg) (Aw l) (.int .i64 j) t.enc (.int .i64 t.kind) (.list 3 (a.map Ty.enc)))
     (g := fun a k => a ++ [k.put l]) (fin := fun a => some (Ty.mk t.kind 0 a).enc) (I := fun j a => a.length = j)
     (fun a _ => by rw [WJ]; simp [Ty.A3k])
     (fun j h a ha => by
       refine ⟨?_, by simp [ha]⟩
       rw [WJ];have := l6 (e := Ty.enc) (sz := 3) (l := a) (x := t.kids[j].put l) (by unfold lim; omega)
       simp [h, F3 h, Ty.D8, Ty.ag, ih _ (z0q h) (Ty.Q0 ht (z0q h)), this, J7 (show j < 9223372036854775807 by omega)]) [] rfl
    have e : ∀ (m : List Ty) (a : List Ty), m.foldl (fun a k => a ++ [k.put l]) a = a ++ m.map (Ty.put l) := by
     intro m
     induction m with
     | nil => intro a; simp
     | cons x m ih => intro a; simp [ih]
    rw [e] at loop;simp only [z14q, z50q] at loop;have hn0 : t.n = 0 := by have := (Ty.X6.1 ht).2.2.2.1; omega
    simp [h6, hn0, loop]
theorem A8n (a b : Ty) : (run cfg).p nJ [a.enc, b.enc] = some (.bool (decide (a.kids.length = 0) && decide (a.kind = b.kind) && decide (a.n = b.n))) := by
 refine (ww _ _).trans ?_;rw [A0S]
 by_cases h0 : a.kids.length = 0
 ·have Iz : a.kids = [] := z7q h0
  by_cases h1 : a.kind = b.kind <;> simp [Iz, h1]
 ·have Iz : ¬ ((a.kids.length : Int) = 0) := by omega
  have A34 : ¬ a.kids = [] := fun h => h0 (by rw [h]; rfl)
  simp [Iz, A34]
theorem A8o (a b : Ty) : (run cfg).p nK [a.enc, b.enc] = some (.bool (decide (0 < a.kids.length) && decide (a.kind = b.kind))) := by
 refine (wy _ _).trans ?_;rw [A0T]
 by_cases h0 : 0 < a.kids.length
 ·have Iz : (0 : Int) < (a.kids.length : Int) := by omega
  simp [h0, Iz]
 ·have Iz : ¬ (0 : Int) < (a.kids.length : Int) := by omega
  simp [h0, Iz]
theorem A7G (a : Ty) : a.right = true → ∀ b : Ty, b.right = true → (run cfg).p XF [a.enc, b.enc] = some (.bool (a.agrees b)) := by
 induction a using Ty.ind with
 | h a ih =>
   intro ha b hb;have hn := a.Av (Ty.U8 ha);refine (r_ _ _).trans ?_;rw [vo, Ty.A4C];simp [Ty.D8, Ty.ag, Pg _ _ (Ty.U8 ha), Pg _ _ (Ty.U8 hb), A8n, A8o]
   by_cases h1 : a.kind = 5 <;> simp [h1]
   by_cases h2 : b.kind = 5 <;> simp [h2]
   by_cases h3 : a.kind = b.kind
   ·have h5 := A4E ha hb h3
    have loop := A6N (l := a.kids) (m := b.kids) h5 (P := fun i => NG (run cfg) (.int .i64 i) a.enc b.enc) (f := Ty.agrees) (y := .bool true) (n := .bool false)
     (by rw [SF]; simp)
     (fun i h => by
       have h' : i < b.kids.length := by omega
       rw [SF];simp [h, h', F3 h, F3 h', Ty.D8, Ty.ag, ih _ (z0q h) (Ty.Q0 ha (z0q h)) _ (Ty.Q0 hb (z0q h')), J7 (show i < 9223372036854775807 by omega)]
       cases (a.kids[i].agrees b.kids[i]) <;> rfl)
    by_cases h0 : a.kids.length = 0
    ·have Iz : a.kids = [] := z7q h0
     by_cases h4 : a.n = b.n <;> simp [Iz, h3, h4]
    ·have hp : 0 < a.kids.length := by omega
     have A34 : ¬ a.kids = [] := fun h => h0 (by rw [h]; rfl)
     have h4 : a.n = b.n := by
      have h1 := (Ty.X6.1 ha).2.2.2.1;have h2 := (Ty.X6.1 hb).2.2.2.1;have h6 : ¬ a.kind = 6 := fun h => A34 (Ty.B3j ha h)
      omega
     simp only [loop];simp [A34, h3, h4, hp, B08];cases ((a.kids.zip b.kids).all fun p => p.1.agrees p.2) <;> simp
   ·simp [h3]
theorem A7H (vs : List Int) (ts : List Ty) (h : vs.length = ts.length) (hl : vs.length ≤ lim) : (run cfg).p ig [F4 vs, .list 3 (ts.map Ty.enc)] = some (Aw (vs.zip ts)) := by
 have hb := big hl;refine (sD _ _).trans ?_;rw [vw];have loop : ∀ (m i : Nat), i + m = vs.length → PE (run cfg) (F4 vs) (.list 3 (ts.map Ty.enc)) (Aw ((vs.take i).zip (ts.take i))) (.int .i64 i) = some (Aw (vs.zip ts)) := by
  intro m
  induction m with
  | zero =>
    intro i hi;have : ¬ i < vs.length := by omega
    rw [z17q (by omega), z17q (by omega), Uc]
    simp [this]
  | succ m ihm =>
    intro i hi;have h1 : i < vs.length := by omega
    have h2 : i < ts.length := by omega
    have nx := ihm (i + 1) (by omega)
    rw [A5k _ _ _ h1 h2] at nx;push_cast at nx;have Kh : R8 4 (Aw ((vs.take i).zip (ts.take i))) (.list 4 [.agg [.int .i64 vs[i], .int .i64 ts[i].kind, .int .i64 ts[i].n, .list 3 (ts[i].kids.map Ty.enc)]]) = some (Aw ((vs.take i).zip (ts.take i) ++ [(vs[i], ts[i])])) :=
     l6 (e := Nk) (sz := 4) (l := (vs.take i).zip (ts.take i)) (x := (vs[i], ts[i])) (by rw [z51q, z64q, z64q]; omega)
    rw [Uc];simp [h1, U0 h1, F3 h2, Kh, J7 (show i < 9223372036854775807 by omega), nx]
 have := loop vs.length 0 (by omega)
 simp only [List.take_zero, z62q, z11q, z13q, z5q] at this;exact this
def QW (R : N7) (p : D5) (t : Ty) (sg : List D7) (out : List (ByteArray × Ty)) : Option (List (ByteArray × Ty)) → Prop
 | some b => R.r DY [(p.enc, .val), (t.enc, .val), (O8 out, .own)] sg = some ([O8 (out ++ b), .bool true], sg)
 | none => ∃ b : List (ByteArray × Ty), b.length ≤ p.size ∧ R.r DY [(p.enc, .val), (t.enc, .val), (O8 out, .own)] sg = some ([O8 (out ++ b), .bool false], sg)
theorem A8p (p : D5) : p.pat = true → ∀ (t : Ty) (sg : List D7) (out : List (ByteArray × Ty)), t.right = true → out.length + p.size ≤ lim → QW (run cfg) p t sg out (p.binds t) := by
 induction p using D5.ind with
 | h p ih =>
   intro hp t sg out ht hl;have dO := D5.A8V hp;have DR := D5.oV dO;have Y9 := D5.size_eq p;rw [D5.nR];unfold aI;have A5V : ∀ c : Int, p.kind = c → 3 ≤ c → c ≤ 6 → QW (run cfg) p t sg out (if t.kind = Mj p.kind then some [] else none) := by
    intro c hc h3 h6;have hl : Mj p.kind = p.kind - 2 := by unfold Mj; (repeat' split) <;> omega
    have e1 : A8 .sub (.int .i64 p.kind) (.int .i64 3) = some (.int .i64 (p.kind - 3)) := by rw [BU, A_ (by omega) (by omega)]
    have e2 : A8 .add (.int .i64 (p.kind - 3)) (.int .i64 1) = some (.int .i64 (p.kind - 2)) := by rw [Ck (by omega) (by omega)]; congr 2; omega
    have X9 : Tq (run cfg) p.enc t.enc (O8 out) sg = some ([O8 out, .bool (decide (t.kind = Mj p.kind))], sg) := by
     rw [Bo, kZ, hl];simp only [I_, JA, O6, D5.Y3, Ty.Y3, CZ, I1, N9, decide_eq_true_eq, e1, e2];rw [if_neg (by omega), if_neg (by omega)]
     by_cases c3 : p.kind = 3
     ·rw [if_pos c3]
     rw [if_neg c3]
     by_cases c4 : p.kind = 4
     ·rw [if_pos c4]
     rw [if_neg c4]
     by_cases c5 : p.kind = 5
     ·rw [if_pos c5]
     rw [if_neg c5, if_pos (by omega)]
    by_cases ht : t.kind = Mj p.kind
    ·rw [if_pos ht]
     have := RY _ _ _ _ X9;simpa [QW, ht] using this
    ·rw [if_neg ht]
     have := RY _ _ _ _ X9;exact ⟨[], by simp, by simpa [ht] using this⟩
   have two : ∀ (u v : Ty), u.right = true → v.right = true → ∀ (k m : D5), p.kids = [k, m] → QW (run cfg) k u sg out (k.binds u) ∧ (∀ b, k.binds u = some b → QW (run cfg) m v sg (out ++ b) (m.binds v)) := by
    intro u v hu hv k m Ja;have hk : k ∈ p.kids := by rw [Ja]; simp
    have hm : m ∈ p.kids := by rw [Ja]; simp
    rw [Ja] at Y9;simp at Y9;refine ⟨ih k hk (D5.A4e hp hk) u sg out hu (by omega), fun b hb => ?_⟩
    have := D5.Sk _ _ _ hb;exact ih m hm (D5.A4e hp hm) v sg (out ++ b) hv (by simp; omega)
   by_cases k1 : p.kind = 1
   ·rw [if_pos k1]
    refine (Bf _ _ _ _).trans ?_;rw [Bo];simp [k1]
   rw [if_neg k1]
   by_cases k2 : p.kind = 2
   ·rw [if_pos k2]
    refine (Bf _ _ _ _).trans ?_;rw [Bo];have Kh : R8 4 (O8 out) (.list 4 [.agg [.str p.name, .int .i64 t.kind, .int .i64 t.n, .list 3 (t.kids.map Ty.enc)]]) = some (O8 (out ++ [(p.name, t)])) := l6 (e := Nl) (sz := 4) (l := out) (x := (p.name, t)) (by omega)
    simp [k1, k2, Kh]
   rw [if_neg k2]
   by_cases k7 : p.kind = 7
   ·rw [if_pos k7]
    obtain ⟨k, m, Ja⟩ : ∃ k m, p.kids = [k, m] := by
     have : p.kids.length = 2 := by rw [DR]; simp [k7]
     match hx : p.kids, this with
     | [a, b], _ => exact ⟨a, b, rfl⟩
    by_cases t7 : t.kind = 7
    ·rw [if_pos t7]
     obtain ⟨u, v, hu⟩ := A5h ht (.inl t7);have ru := Ty.Q0 ht (k := u) (by rw [hu]; simp)
     have rv := Ty.Q0 ht (k := v) (by rw [hu]; simp)
     obtain ⟨f1, f2⟩ := two u v ru rv k m Ja;have d0 : E8 7 (.list 7 [k.enc, m.enc]) (.int .i64 0) = some k.enc := rfl;have d1 : E8 7 (.list 7 [k.enc, m.enc]) (.int .i64 1) = some m.enc := rfl;have e0 : E8 3 (.list 3 [u.enc, v.enc]) (.int .i64 0) = some u.enc := rfl;have e1 : E8 3 (.list 3 [u.enc, v.enc]) (.int .i64 1) = some v.enc := rfl;rw [Ja] at Y9;simp at Y9;rw [Ja, hu];simp only [z10q, z14q, KQ];cases hb : k.binds u with
     | none =>
       rw [hb] at f1;obtain ⟨b, mI, f1⟩ := f1;refine ⟨b, by omega, (Bf _ _ _ _).trans ?_⟩
       rw [Bo];simp [k1, k2, k7, t7, Ja, hu, d0, e0, D5.D8, D5.ag, Ty.D8, Ty.ag, f1]
     | some b =>
       rw [hb] at f1;have f2 := f2 b hb;have mI := D5.Sk _ _ _ hb;simp only [QW] at f1;cases VB : m.binds v with
       | none =>
         rw [VB] at f2;obtain ⟨b2, B7T, f2⟩ := f2;refine ⟨b ++ b2, by simp; omega, (Bf _ _ _ _).trans ?_⟩
         rw [Bo];simp only [z19q] at f2;simp [k1, k2, k7, t7, Ja, hu, d0, d1, e0, e1, D5.D8, D5.ag, Ty.D8, Ty.ag, f1, f2]
       | some b2 =>
         rw [VB] at f2;simp only [QW, z19q] at f2;refine (Bf _ _ _ _).trans ?_;rw [Bo];simp [k1, k2, k7, t7, Ja, hu, d0, d1, e0, e1, D5.D8, D5.ag, Ty.D8, Ty.ag, f1, f2]
    ·rw [if_neg t7]
     refine ⟨[], by simp, (Bf _ _ _ _).trans ?_⟩
     rw [Bo];simp [k1, k2, k7, t7]
   rw [if_neg k7]
   by_cases k9 : p.kind = 9
   ·rw [if_pos k9]
    obtain ⟨k, m, Ja⟩ : ∃ k m, p.kids = [k, m] := by
     have : p.kids.length = 2 := by rw [DR]; simp [k9]
     match hx : p.kids, this with
     | [a, b], _ => exact ⟨a, b, rfl⟩
    by_cases t7 : t.kind = 8
    ·rw [if_pos t7]
     obtain ⟨u, hu⟩ := pM ht t7;have ru := Ty.Q0 ht (k := u) (by rw [hu]; simp)
     obtain ⟨f1, f2⟩ := two u t ru ht k m Ja;have d0 : E8 7 (.list 7 [k.enc, m.enc]) (.int .i64 0) = some k.enc := rfl;have d1 : E8 7 (.list 7 [k.enc, m.enc]) (.int .i64 1) = some m.enc := rfl;have e0 : E8 3 (.list 3 [u.enc]) (.int .i64 0) = some u.enc := rfl;have et : DV.agg [.int .i64 8, .int .i64 t.n, .list 3 [u.enc]] = t.enc := by rw [Ty.F9 t, t7, hu]; rfl
     rw [Ja] at Y9;simp at Y9;rw [Ja];have eg : t.kids.getD 0 F7 = u := by rw [hu]; rfl
     simp only [z10q, z14q, KQ, eg];cases hb : k.binds u with
     | none =>
       rw [hb] at f1;obtain ⟨b, mI, f1⟩ := f1;refine ⟨b, by omega, (Bf _ _ _ _).trans ?_⟩
       rw [Bo];simp [k1, k2, k7, k9, t7, Ja, hu, d0, e0, D5.D8, D5.ag, Ty.D8, Ty.ag, f1]
     | some b =>
       rw [hb] at f1;have f2 := f2 b hb;have mI := D5.Sk _ _ _ hb;simp only [QW] at f1;cases VB : m.binds t with
       | none =>
         rw [VB] at f2;obtain ⟨b2, B7T, f2⟩ := f2;refine ⟨b ++ b2, by simp; omega, (Bf _ _ _ _).trans ?_⟩
         rw [Bo];simp only [z19q] at f2;simp [k1, k2, k7, k9, t7, Ja, hu, d0, d1, e0, D5.D8, D5.ag, Ty.D8, Ty.ag, f1, et, f2]
       | some b2 =>
         rw [VB] at f2;simp only [QW, z19q] at f2;refine (Bf _ _ _ _).trans ?_;rw [Bo];simp [k1, k2, k7, k9, t7, Ja, hu, d0, d1, e0, D5.D8, D5.ag, Ty.D8, Ty.ag, f1, et, f2]
    ·rw [if_neg t7]
     refine ⟨[], by simp, (Bf _ _ _ _).trans ?_⟩
     rw [Bo];have n8 : ¬ p.kind = 8 := by omega
     simp [k1, k2, k7, k9, n8, t7]
   rw [if_neg k9]
   by_cases k3 : p.kind = 3
   ·exact A5V 3 k3 (by omega) (by omega)
   by_cases k4 : p.kind = 4
   ·exact A5V 4 k4 (by omega) (by omega)
   by_cases k5 : p.kind = 5
   ·exact A5V 5 k5 (by omega) (by omega)
   by_cases k6 : p.kind = 6
   ·exact A5V 6 k6 (by omega) (by omega)
   by_cases k8 : p.kind = 8
   ·have hl8 : Mj p.kind = 8 := by rw [k8]; rfl
    have X9 : Tq (run cfg) p.enc t.enc (O8 out) sg = some ([O8 out, .bool (decide (t.kind = 8))], sg) := by
     rw [Bo];simp [k1, k2, k3, k4, k5, k6, k7, k8]
    by_cases ht : t.kind = 8
    ·rw [if_pos (by rw [ht, hl8])]
     have := RY _ _ _ _ X9;simpa [QW, ht] using this
    ·rw [if_neg (by rw [hl8]; exact ht)]
     have := RY _ _ _ _ X9;exact ⟨[], by simp, by simpa [ht] using this⟩
   ·exfalso
    unfold D5.one at dO;simp [k1, k2, k3, k4, k5, k6, k7, k8, k9] at dO
theorem e4 : B3o 4 := .inl rfl
theorem e6 : B3o 6 := .inr (.inl rfl)
theorem Wj {α β X : Type} {l : List α} {P : Int → List β → Option X} {g : α → β} {fin : List β → Option X} (stop : ∀ a, a.length = l.length → P l.length a = fin a)
 (step : ∀ (i : Nat) (h : i < l.length) (a : List β), a.length = i → P i a = P ((i : Int) + 1) (a ++ [g l[i]])) : P 0 [] = fin (l.map g) := by
 have := FR (l := l) (P := P) (g := fun a k => a ++ [g k]) (fin := fin) (I := fun j a => a.length = j) (fun a h => stop a h)
  (fun j h a ha => ⟨step j h a ha, by simp [ha]⟩) [] rfl
 rw [this]
 congr 1
 have e : ∀ (m : List α) (a : List β), m.foldl (fun a k => a ++ [g k]) a = a ++ m.map g := by
  intro m
  induction m with
  | nil => intro a; simp
  | cons x m ih => intro a; simp [ih]
 rw [e]; rfl
def A9.fit (d : A9) : Prop := d.types.length < lim ∧ d.vars.length < lim ∧ d.kids.length < lim ∧ (∀ t ∈ d.types, t.thin = true) ∧ ∀ k : { x // x ∈ d.kids }, A9.fit k.1
termination_by SizeOf.sizeOf d
decreasing_by exact A9.CK k.2
theorem A9.bQ (d : A9) : d.fit ↔ d.types.length < lim ∧ d.vars.length < lim ∧ d.kids.length < lim ∧ (∀ t ∈ d.types, t.thin = true) ∧ ∀ k ∈ d.kids, k.fit := by
 rw [A9.fit];simp
theorem A9.WS {d : A9} : d.J4 ≤ lim → d.fit := by
 induction d using A9.ind with
 | h d ih =>
   intro h;rw [A9.bQ];have h1 := d.VH;have h2 := d.YC;have h3 := d.dW;have h4 : d.types.length ≤ (d.types.map Ty.size).sum := by
    have : ∀ l : List Ty, l.length ≤ (l.map Ty.size).sum := by
     intro l
     induction l with
     | nil => simp
     | cons x l ih => have := Ty.OZ x; simp only [z46q, z10q, z18q]; omega
    exact this _
   refine ⟨by omega, by omega, by omega, fun t ht => ?_, fun k hk => ih k hk ?_⟩
   ·refine Ty.DW ?_
    have := Ap (z20q (f := Ty.size) ht);omega
   ·have := A9.O5 hk; omega
theorem A9.B1O {d : A9} (h : d.J4 ≤ lim) {t : Ty} (ht : t ∈ d.types) : t.size ≤ lim := by
 have := Ap (z20q (f := Ty.size) ht);have := d.VH;omega
theorem eO (t : Ty) : t.thin = true → (run cfg).p MX [t.enc] = some t.enc := by
 induction t using Ty.ind with
 | h t ih =>
   intro ht;have hb := t.Av ht;refine (rF _).trans ?_;rw [vI];have loop := Wj (l := t.kids) (P := fun j (a : List Ty) => Ot (run cfg) (.int .i64 j) t.enc (.int .i64 t.kind) (.int .i64 t.n) (.list 3 (a.map Ty.enc)))
    (g := fun k => k) (fin := fun a => some (Ty.mk t.kind t.n a).enc)
    (fun a _ => by rw [UK]; simp [Ty.A3k])
    (fun j h a ha => by
      rw [UK];have := l6 (e := Ty.enc) (sz := 3) (l := a) (x := t.kids[j]) (by unfold lim; omega)
      simp [h, F3 h, Ty.D8, Ty.ag, ih _ (z0q h) (Ty.Bu ht (z0q h)), this, J7 (show j < 9223372036854775807 by omega)])
   simp only [z14q, z21q, id_eq] at loop;have e : Ty.mk t.kind t.n t.kids = t := by cases t; rfl
   rw [e] at loop;simp [loop]
theorem A5A (l : List Ty) (hl : l.length < lim) (h : ∀ t ∈ l, t.thin = true) : (run cfg).p aO [.list 3 (l.map Ty.enc)] = some (.list 3 (l.map Ty.enc)) := by
 have hb := big (z4q hl);refine (lN _).trans ?_;rw [qP];have loop := Wj (l := l) (P := fun j (a : List Ty) => ND (run cfg) (.list 3 (l.map Ty.enc)) (.list 3 (a.map Ty.enc)) (.int .i64 j))
  (g := fun k => k) (fin := fun a => some (.list 3 (a.map Ty.enc)))
  (fun a _ => by rw [R_]; simp)
  (fun j hj a ha => by
    rw [R_];have := l6 (e := Ty.enc) (sz := 3) (l := a) (x := l[j]) (by omega)
    simp [hj, F3 hj, Ty.D8, Ty.ag, eO _ (h _ (z0q hj)), this, J7 (show j < 9223372036854775807 by omega)])
 simp only [z14q, z21q, id_eq] at loop;simp [loop]
theorem A7t (a b : List Int) (hl : a.length ≤ lim) : (run cfg).p iV [F4 a, F4 b] = some (.bool (decide (a = b))) := by
 have hb := big hl;refine (rD _ _).trans ?_;rw [vG];simp
 by_cases h3 : a.length = b.length
 ·have loop := JV (l := a) (m := b) h3 (P := fun i => Oo (run cfg) (F4 a) (F4 b) (.int .i64 i)) (y := .bool true) (n := .bool false)
   (by rw [UI]; simp [h3])
   (fun i h => by
     have h' : i < b.length := by omega
     rw [UI]
     by_cases hh : a[i] = b[i] <;> simp [h, h', U0 h, U0 h', hh, J7 (show i < 9223372036854775807 by omega)])
  simp only [h3] at loop ⊢;simp [loop]
  by_cases h4 : a = b <;> simp [h4]
 ·have : a ≠ b := fun h => h3 (by rw [h])
  simp [z15q, h3, this]
theorem A3E (a b : List Ty) (hl : a.length ≤ lim) (ha : ∀ t ∈ a, t.thin = true) : (run cfg).p Vm [.list 3 (a.map Ty.enc), .list 3 (b.map Ty.enc)] = some (.bool (decide (a = b))) := by
 have hb := big hl;refine (bS _ _).trans ?_;rw [fV];simp
 by_cases h3 : a.length = b.length
 ·have loop := JV (l := a) (m := b) h3 (P := fun i => Je (run cfg) (.list 3 (a.map Ty.enc)) (.list 3 (b.map Ty.enc)) (.int .i64 i)) (y := .bool true) (n := .bool false)
   (by rw [Nu]; simp [h3])
   (fun i h => by
     have h' : i < b.length := by omega
     rw [Nu];simp [h, h', F3 h, F3 h', Ty.D8, Ty.ag, Oa _ (ha _ (z0q h)), J7 (show i < 9223372036854775807 by omega)])
  simp only [h3] at loop ⊢;simp [loop]
  by_cases h4 : a = b <;> simp [h4]
 ·have : a ≠ b := fun h => h3 (by rw [h])
  simp [z15q, h3, this]
theorem A4m (a : A9) : a.fit → ∀ b : A9, (run cfg).p Qx [a.enc, b.enc] = some (.bool (decide (a = b))) := by
 induction a using A9.ind with
 | h a ih =>
   intro ha b;have hf := (A9.bQ a).1 ha;have hb := big (z4q hf.2.2.1);refine (gJ _ _).trans ?_;rw [kU];simp [A3E _ _ (z4q hf.1) hf.2.2.2.1, A7t _ _ (z4q hf.2.1)]
   by_cases h1 : a.types = b.types <;> simp [h1, A9.Cu]
   by_cases h2 : a.vars = b.vars <;> simp [h2]
   by_cases h3 : a.kids.length = b.kids.length
   ·have loop := JV (l := a.kids) (m := b.kids) h3 (P := fun i => LX (run cfg) (.int .i64 i) a.enc b.enc) (y := .bool true) (n := .bool false)
     (by rw [QB]; simp [h3])
     (fun i h => by
       have h' : i < b.kids.length := by omega
       rw [QB];simp [h, h', F3 h, F3 h', A9.D8, A9.ag, ih _ (z0q h) (hf.2.2.2.2 _ (z0q h)), J7 (show i < 9223372036854775807 by omega)])
    simp only [h3] at loop ⊢;simp [loop]
    by_cases h4 : a.kids = b.kids <;> simp [h4]
   ·have : a.kids ≠ b.kids := fun h => h3 (by rw [h])
    simp [z15q, h3, this]
theorem A9.A3k (ts : List Ty) (vs : List Int) (ks : List A9) : DV.agg [.list 3 (ts.map Ty.enc), F4 vs, .list 3 (ks.map A9.enc)] = (A9.mk ts vs ks).enc := (A9.F9 (.mk ts vs ks)).symm
theorem B0z {a b : List Int} (h : a.length + b.length ≤ lim) : R8 1 (F4 a) (F4 b) = some (F4 (a ++ b)) := B0A h
theorem A70 : (.list 1 [] : DV) = F4 [] := rfl
theorem A5z (t : A9) : t.fit → (run cfg).p TM [t.enc] = some t.enc := by
 induction t using A9.ind with
 | h t ih =>
   intro ht;have hf := (A9.bQ t).1 ht;have hb := big (z4q hf.2.2.1);refine (lM _).trans ?_;rw [qO];have loop := Wj (l := t.kids) (P := fun j (a : List A9) => NC (run cfg) (.int .i64 j) t.enc (F4 []) (.list 3 (t.types.map Ty.enc)) (F4 t.vars) (.list 3 (a.map A9.enc)))
    (g := fun k => k) (fin := fun a => some (A9.mk t.types t.vars a).enc)
    (fun a _ => by rw [Rz]; simp [A9.A3k])
    (fun j h a ha => by
      rw [Rz];have := l6 (e := A9.enc) (sz := 3) (l := a) (x := t.kids[j]) (by omega)
      simp [h, F3 h, A9.D8, A9.ag, ih _ (z0q h) (hf.2.2.2.2 _ (z0q h)), this, J7 (show j < 9223372036854775807 by omega)])
   simp only [z14q, z21q, id_eq] at loop;have e : A9.mk t.types t.vars t.kids = t := by cases t; rfl
   rw [e] at loop;have hv := B0z (a := []) (b := t.vars) (by simp; omega)
   simp only [A70];simp [A5A _ hf.1 hf.2.2.2.1, hv, loop]
theorem A7y (d : A9) : d.J4 ≤ 4000000000 → ∀ n : Int, 0 ≤ n → n ≤ 1500 → ∃ m : Int, (run cfg).p W_ [d.enc, .int .i64 n] = some (.int .i64 m) ∧ 0 ≤ m ∧ m ≤ 10000000000 := by
 induction d using A9.ind with
 | h d ih =>
   intro hm n h0 h1;have hl : d.J4 ≤ lim := by unfold lim; omega
   have hv := d.YC;have ht := (A9.bQ d).1 (A9.WS hl);have VA := big (z4q ht.1);have hb3 := big (z4q ht.2.2.1);have zP : ∀ (k i : Nat) (m : Int), i + k = d.kids.length → 0 ≤ m → m ≤ 10000000000 → ∃ r : Int, J_ (run cfg) (.int .i64 m) (.int .i64 i) d.enc = some (.int .i64 r) ∧ 0 ≤ r ∧ r ≤ 10000000000 := by
    intro k
    induction k with
    | zero =>
      intro i m hi h0 h1;have : ¬ i < d.kids.length := by omega
      exact ⟨m, by rw [NP]; simp [this], h0, h1⟩
    | succ k ihk =>
      intro i m hi h0 h1;have h : i < d.kids.length := by omega
      by_cases Qp : m ≤ 1500
      ·obtain ⟨r, hr, Co, Fw⟩ := ih _ (z0q h) (by have := A9.O5 (z0q h); omega) m h0 Qp
       obtain ⟨s, hs, hs0, Cj⟩ := ihk (i + 1) r (by omega) Co Fw
       push_cast at hs;exact ⟨s, by rw [NP]; simp [h, Qp, F3 h, A9.D8, A9.ag, hr, J7 (show i < 9223372036854775807 by omega), hs], hs0, Cj⟩
      ·exact ⟨m, by rw [NP]; simp [h, Qp], h0, h1⟩
   have B64 : ∀ (k i : Nat) (m : Int), i + k = d.types.length → 0 ≤ m → m ≤ 10000000000 → ∃ r : Int, Ow (run cfg) (.int .i64 m) (.int .i64 i) d.enc = some (.int .i64 r) ∧ 0 ≤ r ∧ r ≤ 10000000000 := by
    intro k
    induction k with
    | zero =>
      intro i m hi h0 h1;have : ¬ i < d.types.length := by omega
      obtain ⟨r, hr, Co, Fw⟩ := zP d.kids.length 0 m (by omega) h0 h1
      simp only [z11q, z13q, z5q] at hr;exact ⟨r, by rw [Iu]; simp [this, hr], Co, Fw⟩
    | succ k ihk =>
      intro i m hi h0 h1;have h : i < d.types.length := by omega
      by_cases Qp : m ≤ 1500
      ·have Y9 := A9.B1O hl (z0q h)
       obtain ⟨c, hc⟩ := A7x [d.types[i]] (by simp [lim]) (by intro t ht; simp at ht; subst ht; exact Y9)
       simp only [z10q, z14q] at hc;cases c
       ·exact ⟨1501, by rw [Iu]; simp [h, Qp, F3 h, Ty.D8, Ty.ag, hc], by omega, by omega⟩
       ·have hz := Qt _ Y9
        have B8S : d.types[i].size ≤ 4000000000 := by
         have := Ap (z20q (f := Ty.size) (z0q h));have := d.VH;omega
        obtain ⟨s, hs, hs0, Cj⟩ := ihk (i + 1) (m + d.types[i].size) (by omega) (by omega) (by omega)
        push_cast at hs;exact ⟨s, by rw [Iu]; simp [h, Qp, F3 h, Ty.D8, Ty.ag, hc, hz, Ck (show (-9223372036854775808 : Int) ≤ m + d.types[i].size by omega) (by omega), J7 (show i < 9223372036854775807 by omega), hs], hs0, Cj⟩
      ·obtain ⟨r, hr, Co, Fw⟩ := zP d.kids.length 0 m (by omega) h0 h1
       simp only [z11q, z13q, z5q] at hr;exact ⟨r, by rw [Iu]; simp [h, Qp, hr], Co, Fw⟩
   obtain ⟨r, hr, Co, Fw⟩ := B64 d.types.length 0 (n + 1 + d.vars.length) (by omega) (by omega) (by omega)
   simp only [z11q, z13q, z5q] at hr;refine ⟨r, (rP _ _).trans ?_, Co, Fw⟩;rw [vO];simp [Ck (show (-9223372036854775808 : Int) ≤ n + 1 by omega) (by omega), Ck (show (-9223372036854775808 : Int) ≤ n + 1 + d.vars.length by omega) (by omega), hr]
theorem zh (d : A9) (h : d.J4 ≤ 4000000000) : ∃ b : Bool, (run cfg).p Ro [d.enc] = some (.bool b) := by
 obtain ⟨m, h1, h2, h3⟩ := A7y d h 0 (by omega) (by omega)
 refine ⟨decide (1500 < m), (Xq _).trans ?_⟩;rw [Yx];simp [A9.D8, A9.ag, h1]
inductive Tm.Mw : Tm → Prop where
 | mk (t : Tm) : t.A9v → t.kids.length < lim → (∀ k ∈ t.kids, k.Mw) → t.Mw
theorem Tm.Mw.one {t : Tm} (h : t.Mw) : t.A9v := by cases h; assumption
theorem Tm.Mw.len {t : Tm} (h : t.Mw) : t.kids.length < lim := by cases h; assumption
theorem Tm.Mw.kid {t k : Tm} (h : t.Mw) (hk : k ∈ t.kids) : k.Mw := by cases h with | mk _ _ _ g => exact g k hk
theorem yX (a : Tm) : a.Mw → ∀ b : Tm, (run cfg).p ZW [a.enc, b.enc] = some (.bool (decide (a = b))) := by
 induction a using Tm.ind with
 | h a ih =>
   intro ha b;have hk := big (z4q ha.len);refine (xC _ _).trans ?_;rw [A0X];have e : decide (a = b) = (a.zH b && decide (a.kids = b.kids)) := by
    rw [z28q];simp only [decide_eq_true_eq, z32q];exact Tm.B0X.symm
   simp [Tm.D8, Tm.ag, A7M a ha.one b, e];cases h1 : a.zH b
   ·simp
   ·by_cases h5 : a.kids.length = b.kids.length
    ·have loop := TH (l := a.kids) (m := b.kids) h5 (P := fun i => RP (run cfg) (.int .i64 i) a.enc b.enc)
      (by rw [WM]; simp [h5])
      (fun i h => by
        have h' : i < b.kids.length := by omega
        rw [WM];simp [h, h', F3 h, F3 h', Tm.D8, Tm.ag, ih _ (z0q h) (ha.kid (z0q h)), J7 (show i < 9223372036854775807 by omega)])
     simp [h5, loop]
    ·have : a.kids ≠ b.kids := fun h => h5 (by rw [h])
     simp [z15q, h5, this]
def j5 (k : Int) (np : Nat) : DV := .agg [.bool (Z8 k), .bool (BH k), .bool (eN k), .bool (eS k), .bool (DK k), .bool (eA k), .bool (eB k), .bool (AR k), .int .i64 (K3 k np)]
theorem A3K (t : Ex) (ht : t.A1G) : ∃ d, (run cfg).p Oi [t.enc] = some (.I6 [d, .bool (Ip t.kind t.F6.length)]) ∧ (Ip t.kind t.F6.length = true → d = j5 t.kind t.F6.length) ∧ C9 9 d = true := by
 have hp := big (z4q ht.F6)
 suffices h : ∃ d, PL (run cfg) t.enc = some (.I6 [d, .bool (Ip t.kind t.F6.length)]) ∧ (Ip t.kind t.F6.length = true → d = j5 t.kind t.F6.length) ∧ C9 9 d = true by
  obtain ⟨d, h1, h2⟩ := h;exact ⟨d, zY _ h1, h2⟩
 rw [gF];have fl : ∀ {a b c d e f g h : Bool} {n : Int}, C9 9 (.agg [.bool a, .bool b, .bool c, .bool d, .bool e, .bool f, .bool g, .bool h, .int .i64 n]) = true := rfl
 by_cases k14 : t.kind = 14
 ·have h1 : A8 .add (.int .i64 (t.F6.length : Int)) (.int .i64 1) = some (.int .i64 ((t.F6.length : Int) + 1)) := Ck (by omega) (by omega)
  simp [k14, h1, Ip, j5, Z8, BH, eN, eS, DK, eA, eB, AR, K3, fl]
 by_cases k1 : t.kind = 1
 ·simp [k1, Ip, j5, Z8, BH, eN, eS, DK, eA, eB, AR, K3, fl]
 by_cases k2 : t.kind = 2
 ·simp [k2, Ip, j5, Z8, BH, eN, eS, DK, eA, eB, AR, K3, fl]
 by_cases k3 : t.kind = 3
 ·simp [k3, Ip, j5, Z8, BH, eN, eS, DK, eA, eB, AR, K3, fl]
 by_cases k4 : t.kind = 4
 ·simp [k4, Ip, j5, Z8, BH, eN, eS, DK, eA, eB, AR, K3, fl]
 by_cases k5 : t.kind = 5
 ·simp [k5, Ip, j5, Z8, BH, eN, eS, DK, eA, eB, AR, K3, fl]
 by_cases k6 : t.kind = 6
 ·simp [k6, Ip, j5, Z8, BH, eN, eS, DK, eA, eB, AR, K3, fl]
 by_cases k7 : t.kind = 7
 ·simp [k7, Ip, j5, Z8, BH, eN, eS, DK, eA, eB, AR, K3, fl]
 by_cases k8 : t.kind = 8
 ·simp [k8, Ip, j5, Z8, BH, eN, eS, DK, eA, eB, AR, K3, fl]
 by_cases k9 : t.kind = 9
 ·simp [k9, Ip, j5, Z8, BH, eN, eS, DK, eA, eB, AR, K3, fl]
 by_cases k10 : t.kind = 10
 ·simp [k10, Ip, j5, Z8, BH, eN, eS, DK, eA, eB, AR, K3, fl]
 by_cases k11 : t.kind = 11
 ·simp [k11, Ip, j5, Z8, BH, eN, eS, DK, eA, eB, AR, K3, fl]
 by_cases k12 : t.kind = 12
 ·simp [k12, Ip, j5, Z8, BH, eN, eS, DK, eA, eB, AR, K3, fl]
 by_cases k13 : t.kind = 13
 ·simp [k13, Ip, j5, Z8, BH, eN, eS, DK, eA, eB, AR, K3, fl]
 by_cases k15 : t.kind = 15
 ·simp [k15, Ip, j5, Z8, BH, eN, eS, DK, eA, eB, AR, K3, fl]
 by_cases k16 : t.kind = 16
 ·simp [k16, Ip, j5, Z8, BH, eN, eS, DK, eA, eB, AR, K3, fl]
 ·have hk : Ip t.kind t.F6.length = false := by
   unfold Ip;rw [z26q];intro h;simp only [z32q, decide_eq_true_eq] at h;omega
  simp [hk, k1, k2, k3, k4, k5, k6, k7, k8, k9, k10, k11, k12, k13, k14, k15, k16, fl]
theorem yc (t : Ty) : (run cfg).p Ma [t.enc] = some (.bool t.none) := by
 refine (sK _).trans ?_;rw [wG];simp [Ty.none]
 by_cases h1 : t.kind = 0 <;> by_cases h2 : t.n = 0 <;> simp [h1, h2]
theorem nA (t : Ty) (ht : t.thin = true) : (run cfg).p Qz [t.enc] = some (.bool t.closed) := by
 refine (gT _).trans ?_;rw [kv];simp [Ty.D8, Ty.ag, Ce t ht, Yt t ht, Ty.closed];cases t.right <;> simp
theorem A8w (t : Ex) (ht : t.A1G) : (run cfg).p nN [t.enc] = some (.bool t.one) := by
 refine (xE _).trans ?_;obtain ⟨d, h1, h2, h3⟩ := A3K t ht;have hp := big (z4q ht.F6);rw [A0Z];have x0 : ∀ b, O4 0 (.I6 [d, .bool b]) = some d := fun _ => rfl
 have x1 : ∀ b, O4 1 (.I6 [d, .bool b]) = some (.bool b) := fun _ => rfl
 simp only [Ao, O6, Ex.pj, Ex.D8, Ex.ag, Ty.D8, Ty.ag, h1, x0, x1, I1, h3, CO, X3];cases hk : Ip t.kind t.F6.length
 ·simp [Ex.one, hk]
 rw [h2 hk];have p0 : A7 0 (j5 t.kind t.F6.length) = .bool (Z8 t.kind) := rfl;have p1 : A7 1 (j5 t.kind t.F6.length) = .bool (BH t.kind) := rfl;have p2 : A7 2 (j5 t.kind t.F6.length) = .bool (eN t.kind) := rfl;have p3 : A7 3 (j5 t.kind t.F6.length) = .bool (eS t.kind) := rfl;have p4 : A7 4 (j5 t.kind t.F6.length) = .bool (DK t.kind) := rfl;have p5 : A7 5 (j5 t.kind t.F6.length) = .bool (eA t.kind) := rfl;have p6 : A7 6 (j5 t.kind t.F6.length) = .bool (eB t.kind) := rfl;have p7 : A7 7 (j5 t.kind t.F6.length) = .bool (AR t.kind) := rfl;have p8 : A7 8 (j5 t.kind t.F6.length) = .int .i64 (K3 t.kind t.F6.length) := rfl;have l := YB (l := t.F6) (f := D5.right) (P := fun i => PK (run cfg) (.list 7 (t.F6.map D5.enc)) (.int .i64 t.F6.length) (.int .i64 i))
  (by rw [Ug]; simp)
  (fun i h => by
    rw [Ug];have f := ht.pat _ (z0q h);simp [h, F3 h, D5.D8, D5.ag, Sa _ (D5.WT f) f.txt, J7 (show i < 9223372036854775807 by omega)]
    cases t.F6[i].right <;> rfl)
 have h18 : RU (run cfg) t.enc = some (.bool t.A9U) := by
  rw [lD];simp only [Ex.df, BB, z6q, I1];exact l
 have gZ : IM (run cfg) t.enc (j5 t.kind t.F6.length) = some (.bool t.A62) := by
  rw [lC];simp only [p6, Ex.A3s, Ex.A3t, Ex.A3u, Ty.D8, Ty.ag, yc, nA _ ht.b, h18, I1, CO, X3, N9, Ex.A62, iF];cases t.b.none <;> cases eB t.kind <;> cases t.b.closed <;> simp
 have EF : IL (run cfg) t.enc (j5 t.kind t.F6.length) = some (.bool t.A61) := by
  rw [k_];simp only [p5, p7, Ex.A5Z, Ex.A50, Ex.A3r, Ty.D8, Ty.ag, yc, nA _ ht.a, gZ, I1, CO, X3, N9, Ex.A61, iF];cases t.a.none <;> cases eA t.kind <;> cases t.a.closed <;> cases AR t.kind <;> simp
 have AZ : RS (run cfg) t.enc (j5 t.kind t.F6.length) = some (.bool t.A60) := by
  rw [kz];simp only [p4, Ex.A5Y, EF, I1, CO, X3, N9, Ct, Br, JJ, Ex.A60];cases DK t.kind
  ·by_cases v : t.op = 0 <;> simp [v]
  ·by_cases a : t.op < 1
   ·simp [a, show ¬ 1 ≤ t.op by omega]
   ·by_cases p : 7 < t.op
    ·simp [a, p, show ¬ t.op ≤ 7 by omega]
    ·simp [a, p, show 1 ≤ t.op by omega, show t.op ≤ 7 by omega]
 have hs : ∀ n : Nat, A8 .gtr (.int .i64 (n : Int)) (.int .i64 200) = some (.bool (decide (200 < n))) := fun n => by
  rw [Ct]; congr 2; rw [decide_eq_decide]; omega
 have X9 : ES (run cfg) t.enc (j5 t.kind t.F6.length) = some (.bool t.A6Z) := by
  rw [ky];simp only [p3, Ex.Zv, AZ, I1, CO, X3, N9, EU, hs, Az, Xj, Ex.A6Z];generalize t.s.size = z
  by_cases a : 200 < z
  ·have : ¬ z ≤ 200 := by omega
   cases eS t.kind <;> by_cases v : t.s = K6 <;> simp [a, v, this]
  ·have : z ≤ 200 := by omega
   cases eS t.kind <;> by_cases v : t.s = K6 <;> simp [a, v, this]
 have h8 : KH (run cfg) t.enc (j5 t.kind t.F6.length) = some (.bool t.A6Y) := by
  rw [qm];simp only [p2, Ex.iK, Ex.Y3, X9, I1, CO, X3, N9, JJ, CZ, Ex.A6Y];cases eN t.kind <;> by_cases v : t.kind = 3 <;> by_cases x : t.n = 0 <;> by_cases y : t.n = 1 <;> simp [v, x, y]
 have h6 : KG (run cfg) t.enc (j5 t.kind t.F6.length) = some (.bool t.A6X) := by
  rw [ql];simp only [p1, Ex.Zu, h8, eX t.arg (by have := ht.arg; unfold lim; omega), I1, CO, X3, N9, Xj, Az, Ex.A6X, mU]
  cases BH t.kind
  ·by_cases v : t.arg = K6 <;> simp [v]
  ·cases JE t.arg <;> simp
 have h4 : Tx (run cfg) t.enc (j5 t.kind t.F6.length) = some (.bool t.OQ) := by
  rw [qg];simp only [p0, Ex.Bj, h6, eX t.name (by have := ht.name; unfold lim; omega), I1, CO, X3, N9, Xj, Az, Ex.OQ, mU]
  cases Z8 t.kind
  ·by_cases v : t.name = K6 <;> simp [v]
  ·cases JE t.name <;> simp
 have hg : A8 .gtr (.int .i64 (t.F6.length : Int)) (.int .i64 0) = some (.bool (!decide (t.F6.length = 0))) := by
  rw [Ct]; congr 2
  by_cases h : t.F6.length = 0
  ·simp [h]
  ·have : (0 : Int) < (t.F6.length : Int) := by omega
   simp [h];omega
 simp only [p8, h4, BB, z6q, I1, X3, N9, JJ, hg, Ex.one, hk];generalize K3 t.kind t.F6.length = ek
 by_cases v : (t.kids.length : Int) = ek <;> by_cases w : t.kind = 14 <;> by_cases u : t.F6.length = 0 <;> simp [v, w, u]
def B6s (a c : D7) (n : Int) : List D7 := [a, .box [(.int .i64 n, .val)], c]
theorem A5g (t0 t4 : DV) (a c : D7) : ∀ (ps : List Ex), (∀ q ∈ ps, q.A1G) →
 IZ (run cfg) t0 t4 (ps.map Ex.enc) (B6s a c 0) = some (.int .i64 (if ps.all Ex.one = true then 0 else 1))
 | [], _ => by
   rw [z14q, VV, NM];rfl
 | q :: ps, h => by
   rw [z10q, TV, Xm];have hq := A8w q (h q (z22q ..));have ih := A5g t0 t4 a c ps fun x hx => h x (z48q _ hx)
   simp only [Ao, O6, Ex.pj, Ex.D8, Ex.ag, hq, I1, CO, N9, ih, z47q];rcases Bool.eq_false_or_eq_true q.one with hq1 | hq1
   rotate_left
   ·have sg1 : M7 (B6s a c 0) 1 = some [(.int .i64 0, .val)] := rfl
    have g0 : [((.int .i64 0 : DV), Meta.val)][0]? = some (.int .i64 0, .val) := rfl;simp only [hq1, z30q, if_true, sg1, I1, g0];rw [Qb];rfl
   ·simp [hq1]
theorem t_ (t : Ex) (ht : t.fit) : (run cfg).p TS [t.enc] = some (.int .i64 (if t.right = true then 0 else 1)) := by
 refine (lY _).trans ?_;rw [qd];simp only [Ao, O6, Ex.pj, Ex.D8, Ex.ag];rw [bO];obtain ⟨n, hn⟩ := B30 t ht;rw [Ex.F9] at hn;simp only [M7, z41q, z42q, I1, Ik, O6, n_ hn];rw [Ex.A92];exact A5g _ _ _ _ t.subs fun q hq => (Ex.B3X ht q hq).one
theorem Dy (t : Ty) : (run cfg).p DX [t.enc] = some (.bool t.none) := by
 refine (wV _).trans ?_;rw [A0J];simp [Ty.none]
 by_cases h1 : t.kind = 0 <;> by_cases h2 : t.n = 0 <;> simp [h1, h2]
theorem A1z (t : Ty) (ht : t.thin = true) (may : Bool) : (run cfg).p ZT [t.enc, .bool may] = some (.bool (if t.none = true then may else t.closed)) := by
 refine (wo _ _).trans ?_;rw [A0Q];simp [Ty.D8, Ty.ag, Dy, yR t ht, Pg 6 t ht, Ty.closed];cases t.none <;> cases t.right <;> simp
def IJ : Ty := .mk 0 0 []
theorem B1k (t : Ty) : (t = IJ) ↔ t.none = true := Ty.A6T.symm
noncomputable def Q8 (t : Ex) : Ex := .mk t.kind 0 0 (if Z8 t.kind = true then t.name else K6) (if BH t.kind = true then t.arg else K6) (if eN t.kind = true then t.n else 0) (if eS t.kind = true then t.s else K6) (if DK t.kind = true then t.op else 0)
 (if eA t.kind = true then t.a else IJ) (if eB t.kind = true then t.b else IJ) (if t.kind = 14 then t.F6 else []) []
def Dt (t : Ex) : Int := if 1 ≤ t.kind ∧ t.kind ≤ 16 then K3 t.kind t.F6.length else -1
theorem A5D (t : Ex) (ht : t.A1G) : (run cfg).p aQ [t.enc] = some (.I6 [(Q8 t).enc, .int .i64 (Dt t)]) := by
 have hp := big (z4q ht.F6);refine (lS _).trans ?_;rw [qU, Ex.F9 (Q8 t)]
 by_cases k14 : t.kind = 14
 ·have h1 : A8 .add (.int .i64 1) (.int .i64 (t.F6.length : Int)) = some (.int .i64 ((t.F6.length : Int) + 1)) := by
   rw [Vv, A_ (by omega) (by omega), Int.add_comm]
  simp [k14, h1, Q8, Dt, IJ, Z8, BH, eN, eS, DK, eA, eB, AR, K3, Az]
 by_cases k1 : t.kind = 1
 ·simp [k1, Q8, Dt, IJ, Z8, BH, eN, eS, DK, eA, eB, AR, K3, Az]
 by_cases k2 : t.kind = 2
 ·simp [k2, Q8, Dt, IJ, Z8, BH, eN, eS, DK, eA, eB, AR, K3, Az]
 by_cases k3 : t.kind = 3
 ·simp [k3, Q8, Dt, IJ, Z8, BH, eN, eS, DK, eA, eB, AR, K3, Az]
 by_cases k4 : t.kind = 4
 ·simp [k4, Q8, Dt, IJ, Z8, BH, eN, eS, DK, eA, eB, AR, K3, Az]
 by_cases k5 : t.kind = 5
 ·simp [k5, Q8, Dt, IJ, Z8, BH, eN, eS, DK, eA, eB, AR, K3, Az]
 by_cases k6 : t.kind = 6
 ·simp [k6, Q8, Dt, IJ, Z8, BH, eN, eS, DK, eA, eB, AR, K3, Az]
 by_cases k7 : t.kind = 7
 ·simp [k7, Q8, Dt, IJ, Z8, BH, eN, eS, DK, eA, eB, AR, K3, Az]
 by_cases k8 : t.kind = 8
 ·simp [k8, Q8, Dt, IJ, Z8, BH, eN, eS, DK, eA, eB, AR, K3, Az]
 by_cases k9 : t.kind = 9
 ·have d1 : A8 .sub (.int .i64 9) (.int .i64 9) = some (.int .i64 0) := by rw [BU, A_ (by omega) (by omega)]; rfl
  have d2 : A8 .quo (.int .i64 0) (.int .i64 2) = some (.int .i64 0) := rfl;have d3 : A8 .add (.int .i64 1) (.int .i64 0) = some (.int .i64 1) := by rw [Vv, A_ (by omega) (by omega)]; rfl
  simp only [k9, Q8, Dt, IJ, Z8, BH, eN, eS, DK, eA, eB, AR, K3, Az, Ex.Y3, Ao, O6, Zl, CZ, I1, N9];simp [SE, d1, d2, d3, k9, Az]
 by_cases k10 : t.kind = 10
 ·simp [k10, Q8, Dt, IJ, Z8, BH, eN, eS, DK, eA, eB, AR, K3, Az]
 by_cases k11 : t.kind = 11
 ·have d1 : A8 .sub (.int .i64 11) (.int .i64 9) = some (.int .i64 2) := by rw [BU, A_ (by omega) (by omega)]; rfl
  have d2 : A8 .quo (.int .i64 2) (.int .i64 2) = some (.int .i64 1) := rfl;have d3 : A8 .add (.int .i64 1) (.int .i64 1) = some (.int .i64 2) := by rw [Vv, A_ (by omega) (by omega)]; rfl
  simp only [k11, Q8, Dt, IJ, Z8, BH, eN, eS, DK, eA, eB, AR, K3, Az, Ex.Y3, Ao, O6, Zl, CZ, I1, N9];simp [SE, d1, d2, d3, k11, Az]
 by_cases k12 : t.kind = 12
 ·simp [k12, Q8, Dt, IJ, Z8, BH, eN, eS, DK, eA, eB, AR, K3, Az]
 by_cases k13 : t.kind = 13
 ·simp [k13, Q8, Dt, IJ, Z8, BH, eN, eS, DK, eA, eB, AR, K3, Az]
 by_cases k15 : t.kind = 15
 ·simp [k15, Q8, Dt, IJ, Z8, BH, eN, eS, DK, eA, eB, AR, K3, Az]
 by_cases k16 : t.kind = 16
 ·simp [k16, Q8, Dt, IJ, Z8, BH, eN, eS, DK, eA, eB, AR, K3, Az]
 ·have hk : ¬ (1 ≤ t.kind ∧ t.kind ≤ 16) := by omega
  simp [Q8, Dt, hk, IJ, Z8, BH, eN, eS, DK, eA, eB, k1, k2, k3, k4, k5, k6, k7, k8, k9, k10, k11, k12, k13, k14, k15, k16, Az]
def Ex.A9X (t : Ex) : Bool :=
 if t.kind = 1 ∨ t.kind = 9 ∨ t.kind = 11 then JE t.name else if t.kind = 12 then JE t.name && JE t.arg
 else if t.kind = 3 then decide (t.n = 0) || decide (t.n = 1) else if t.kind = 4 then decide (t.s.size ≤ 200)
 else if t.kind = 14 then decide (0 < t.F6.length) else if t.kind = 16 then decide (1 ≤ t.op) && decide (t.op ≤ 7) else true
def Ex.A63 (t : Ex) : Bool := (if t.a.none = true then !decide (t.kind = 15) else t.a.closed) && (if t.b.none = true then true else t.b.closed) && t.A9X
noncomputable def Ex.own (t : Ex) : Bool := decide (Dt t = (t.kids.length : Int)) && decide (t.name = (Q8 t).name) && decide (t.arg = (Q8 t).arg) && decide (t.n = (Q8 t).n) && decide (t.s = (Q8 t).s) && decide (t.op = (Q8 t).op) && decide (t.F6.length = (Q8 t).F6.length) &&
 decide (t.a = (Q8 t).a) && decide (t.b = (Q8 t).b) && t.A63
theorem B0b (t : Ex) (ht : t.A1G) : (run cfg).p uG [t.enc] = some (.bool t.own) := by
 refine (A07 _).trans ?_;have x0 : ∀ a b, O4 0 (.I6 [a, b]) = some a := fun _ _ => rfl
 have x1 : ∀ a b, O4 1 (.I6 [a, b]) = some b := fun _ _ => rfl
 have hg : A8 .gtr (.int .i64 (t.F6.length : Int)) (.int .i64 0) = some (.bool (decide (0 < t.F6.length))) := by
  rw [Ct]; congr 2; rw [decide_eq_decide]; omega
 have hs : A8 .leq (.int .i64 (t.s.size : Int)) (.int .i64 200) = some (.bool (decide (t.s.size ≤ 200))) := by
  rw [Ni]; congr 2; rw [decide_eq_decide]; omega
 have h6 : i_ (run cfg) t.enc = some (.bool t.A63) := by
  rw [vg];simp only [Ex.pj, Ty.D8, Ty.ag, JJ, CZ, I1, A1z _ ht.a, A1z _ ht.b, jh t.name ht.name, jh t.arg ht.arg, CO, X3, N9, EU, hs, BB, z6q, hg, Vw, Ni, Ex.A63, Ex.A9X]
  by_cases c1 : (if t.a.none = true then !decide (t.kind = 15) else t.a.closed) = true
  ·by_cases c2 : (if t.b.none = true then true else t.b.closed) = true
   ·simp only [c1, c2, z37q, z8q, if_false, z24q]
    by_cases k1 : t.kind = 1
    ·simp [k1]
    by_cases k9 : t.kind = 9
    ·simp [k9]
    by_cases k11 : t.kind = 11
    ·simp [k11]
    by_cases k12 : t.kind = 12
    ·simp [k12]; cases JE t.name <;> simp
    by_cases k3 : t.kind = 3
    ·simp [k3]; by_cases n0 : t.n = 0 <;> simp [n0]
    by_cases k4 : t.kind = 4
    ·simp [k4]
    by_cases k14 : t.kind = 14
    ·simp [k14]
    by_cases k16 : t.kind = 16
    ·simp [k16]; by_cases o1 : 1 ≤ t.op <;> simp [o1]
    simp [k1, k9, k11, k12, k3, k4, k14, k16]
   ·have c2' : (if t.b.none = true then true else t.b.closed) = false := z26q.2 c2
    simp only [c1, c2', z37q, z8q, if_false, z30q, if_true, z57q, z43q]
  ·have c1' : (if t.a.none = true then !decide (t.kind = 15) else t.a.closed) = false := z26q.2 c1
   simp only [c1', z30q, if_true, z43q]
 have h4 : iy (run cfg) t.enc (Q8 t).enc = some (.bool (decide (t.a = (Q8 t).a) && decide (t.b = (Q8 t).b) && t.A63)) := by
  rw [ve];simp only [Ex.pj, Ty.D8, Ty.ag, JX _ ht.a, JX _ ht.b, I1, CO, X3, N9, h6]
  by_cases a1 : t.a = (Q8 t).a <;> by_cases a2 : t.b = (Q8 t).b <;> simp [a1, a2]
 rw [A2S];simp only [Ao, O6, Ex.pj, Ex.D8, Ex.ag, A5D t ht, x0, x1, I1, BB, z6q, JJ, Xj, X3, N9, h4, Ex.own]
 by_cases a1 : Dt t = (t.kids.length : Int) <;> simp [a1]
 by_cases a2 : t.name = (Q8 t).name <;> simp [a2]
 by_cases a3 : t.arg = (Q8 t).arg <;> simp [a3]
 by_cases a4 : t.n = (Q8 t).n <;> simp [a4]
 by_cases a5 : t.s = (Q8 t).s <;> simp [a5]
 by_cases a6 : t.op = (Q8 t).op <;> simp [a6]
 by_cases a7 : t.F6.length = (Q8 t).F6.length
 ·have a7' : (t.F6.length : Int) = ((Q8 t).F6.length : Int) := by omega
  simp [a7]
 ·have a7' : ¬ (t.F6.length : Int) = ((Q8 t).F6.length : Int) := by omega
  simp [a7, a7']
theorem Ex.B4i (t : Ex) : t.A9X = ((!Z8 t.kind || JE t.name) && (!BH t.kind || JE t.arg) && (!decide (t.kind = 3) || decide (t.n = 0) || decide (t.n = 1)) && (!decide (t.kind = 4) || decide (t.s.size ≤ 200)) && (!decide (t.kind = 14) || decide (0 < t.F6.length)) && (!DK t.kind || (decide (1 ≤ t.op) && decide (t.op ≤ 7)))) := by
 unfold Ex.A9X Z8 BH DK
 by_cases k1 : t.kind = 1
 ·simp [k1]
 by_cases k9 : t.kind = 9
 ·simp [k9]
 by_cases k11 : t.kind = 11
 ·simp [k11]
 by_cases k12 : t.kind = 12
 ·simp [k12]
 by_cases k3 : t.kind = 3
 ·simp [k3]
 by_cases k4 : t.kind = 4
 ·simp [k4]
 by_cases k14 : t.kind = 14
 ·simp [k14]
 by_cases k16 : t.kind = 16
 ·simp [k16]
 simp [k1, k9, k11, k12, k3, k4, k14, k16]
theorem A4Q (E : Bool) (s : ByteArray) : (decide (s = if E = true then s else K6) && (!E || JE s)) = mU E s := by cases E <;> simp [mU]
theorem B6J (E : Bool) (n : Int) : decide (n = if E = true then n else 0) = (E || decide (n = 0)) := by cases E <;> simp
theorem B6K (k : Int) (s : ByteArray) : (decide (s = if eS k = true then s else K6) && (!decide (k = 4) || decide (s.size ≤ 200))) = ((eS k || decide (s = K6)) && decide (s.size ≤ 200)) := by
 have n200 : K6.size ≤ 200 := by decide
 unfold eS
 by_cases h : k = 4
 ·simp [h]
 ·by_cases e : s = K6
  ·simp [h, e, n200]
  ·simp [h, e]
theorem B5g (E : Bool) (n : Int) (r : Bool) : (decide (n = if E = true then n else 0) && (!E || r)) = ((!E || r) && (E || decide (n = 0))) := by cases E <;> simp
theorem B2q (k : Int) (l : List D5) : decide (l.length = (if k = 14 then l else []).length) = (decide (k = 14) || decide (l.length = 0)) := by by_cases h : k = 14 <;> simp [h]
theorem A6u (E m : Bool) (t : Ty) : (decide (t = if E = true then t else IJ) && (if t.none = true then !m else t.closed)) = iF E m t := by
 have dA : decide (t = IJ) = t.none := by rw [z28q, decide_eq_true_eq]; exact B1k t
 unfold iF;cases E
 ·simp only [z8q, if_false, dA]
  cases hn : t.none <;> simp
 ·simp
theorem Ex.B4j (t : Ex) : (t.own && t.F6.all D5.right) = t.one := by
 by_cases hk : 1 ≤ t.kind ∧ t.kind ≤ 16
 rotate_left
 ·have h1 : Dt t = -1 := by unfold Dt; rw [if_neg hk]
  have h2 : ¬ ((-1 : Int) = (t.kids.length : Int)) := by omega
  have k0 : Ip t.kind t.F6.length = false := by
   unfold Ip;rw [z26q];intro h';simp only [z32q, decide_eq_true_eq] at h';omega
  unfold Ex.own Ex.one;rw [k0, h1];simp [h2]
 have hm : Dt t = K3 t.kind t.F6.length := by unfold Dt; rw [if_pos hk]
 have AU : Ip t.kind t.F6.length = (!decide (t.kind = 14) || decide (0 < t.F6.length)) := by unfold Ip; simp [hk.1, hk.2]
 have cm : decide (K3 t.kind t.F6.length = (t.kids.length : Int)) = decide ((t.kids.length : Int) = K3 t.kind t.F6.length) := by rw [decide_eq_decide]; exact eq_comm
 have hb : (if t.b.none = true then true else t.b.closed) = (if t.b.none = true then !false else t.b.closed) := rfl
 have ha : (if t.a.none = true then !decide (t.kind = 15) else t.a.closed) = (if t.a.none = true then !AR t.kind else t.a.closed) := rfl
 unfold Ex.own Ex.one Ex.A63 Ex.OQ Ex.A6X Ex.A6Y Ex.A6Z Ex.A60 Ex.A61 Ex.A62 Ex.A9U;rw [hm, cm, AU, Ex.B4i, hb, ha];simp only [Q8, Ex.Wl, Ex.A2B, Ex.jd, Ex.A1W, Ex.A5X, Ex.A9a, Ex.A9d, Ex.zV];rw [← A4Q (Z8 t.kind) t.name, ← A4Q (BH t.kind) t.arg, ← B6J (eN t.kind) t.n, ← B6K t.kind t.s, ← B5g (DK t.kind) t.op, ← B2q t.kind t.F6, ← A6u (eA t.kind), ← A6u (eB t.kind)]
 ac_rfl
theorem yT (t : Ex) : t.fit → (run cfg).p QQ [t.enc] = some (.bool t.right) := by
 induction t using Ex.ind with
 | h t ih =>
   intro ht;have hk := big (z4q ht.one.kids);have hp := big (z4q ht.one.F6);refine (rY _).trans ?_;have l2 := YB (l := t.kids) (f := Ex.right) (P := fun i => Oy (run cfg) (.int .i64 i) t.enc)
    (by rw [UY]; simp)
    (fun i h => by
      rw [UY];simp [h, F3 h, Ex.D8, Ex.ag, ih _ (z0q h) (ht.kid (z0q h)), J7 (show i < 9223372036854775807 by omega)]
      cases t.kids[i].right <;> rfl)
   have l1 := Lx (l := t.F6) (f := D5.right) (P := fun i => KD (run cfg) (.int .i64 i) t.enc) (y := .bool (t.kids.all Ex.right)) (n := .bool false)
    (by rw [UX]; simp only [Br, Int.lt_irrefl, decide_false, I1, N9, z8q, if_false, Ex.df, BB, z6q]; exact l2)
    (fun i h => by
      rw [UX];have f := ht.one.pat _ (z0q h);simp [h, F3 h, D5.D8, D5.ag, A3G _ f.size f.txt, J7 (show i < 9223372036854775807 by omega)]
      cases t.F6[i].right <;> rfl)
   rw [vX, Ex.right_eq, ← Ex.B4j];simp only [Ao, O6, Ex.pj, Ex.D8, Ex.ag, B0b t ht.one, I1, CO, N9];have l1' : KD (run cfg) (.int .i64 0) t.enc = _ := l1;rw [l1'];cases t.own <;> cases t.F6.all D5.right <;> simp
theorem eQ (t : Ty) : t.thin = true → ∀ n : Int, 0 ≤ n → n ≤ 401 → ∃ m : Int, (run cfg).p D_ [t.enc, .int .i64 n] = some (.int .i64 m) ∧ n ≤ m ∧ m ≤ 401 := by
 induction t using Ty.ind with
 | h t ih =>
   intro ht n h0 h1;have hb := t.Av ht;have loop : ∀ (k j : Nat) (n : Int), j + k = t.kids.length → 0 ≤ n → n ≤ 401 → ∃ m : Int, Ib (run cfg) (.int .i64 n) (.int .i64 j) t.enc = some (.int .i64 m) ∧ n ≤ m ∧ m ≤ 401 := by
    intro k
    induction k with
    | zero =>
      intro j n hj h0 h1;refine ⟨n, ?_, z56q _, h1⟩;have : ¬ j < t.kids.length := by omega
      rw [Eb];simp [this]
    | succ k ihk =>
      intro j n hj h0 h1;have EH : j < t.kids.length := by omega
      rw [Eb]
      by_cases hn : n ≤ 400
      ·have EG : A8 .add (.int .i64 n) (.int .i64 1) = some (.int .i64 (n + 1)) := Ck (by omega) (by omega)
       obtain ⟨m, a1, a2, a3⟩ := ih _ (z0q EH) (Ty.Bu ht (z0q EH)) (n + 1) (by omega) (by omega)
       obtain ⟨m', b1, b2, b3⟩ := ihk (j + 1) m (by omega) (by omega) a3
       push_cast at b1;exact ⟨m', by simp [EH, hn, EG, F3 EH, Ty.D8, Ty.ag, a1, J7 (show j < 9223372036854775807 by omega), b1], by omega, b3⟩
      ·exact ⟨n, by simp [EH, hn], z56q _, h1⟩
   obtain ⟨m, a1, a2, a3⟩ := loop t.kids.length 0 n (by omega) h0 h1
   refine ⟨m, (Jk _ _).trans ?_, a2, a3⟩;rw [Lf];simp;exact a1
theorem A3F (p : D5) : p.thin = true → ∀ n : Int, 0 ≤ n → n ≤ 401 → ∃ m : Int, (run cfg).p Oh [p.enc, .int .i64 n] = some (.int .i64 m) ∧ n ≤ m ∧ m ≤ 401 := by
 induction p using D5.ind with
 | h p ih =>
   intro ht n h0 h1;have hb := p.Av ht;have loop : ∀ (k j : Nat) (n : Int), j + k = p.kids.length → 0 ≤ n → n ≤ 401 → ∃ m : Int, Jg (run cfg) (.int .i64 n) (.int .i64 j) p.enc = some (.int .i64 m) ∧ n ≤ m ∧ m ≤ 401 := by
    intro k
    induction k with
    | zero =>
      intro j n hj h0 h1;refine ⟨n, ?_, z56q _, h1⟩;have : ¬ j < p.kids.length := by omega
      rw [Nv];simp [this]
    | succ k ihk =>
      intro j n hj h0 h1;have EH : j < p.kids.length := by omega
      rw [Nv]
      by_cases hn : n ≤ 400
      ·have EG : A8 .add (.int .i64 n) (.int .i64 1) = some (.int .i64 (n + 1)) := Ck (by omega) (by omega)
       obtain ⟨m, a1, a2, a3⟩ := ih _ (z0q EH) (D5.Bu ht (z0q EH)) (n + 1) (by omega) (by omega)
       obtain ⟨m', b1, b2, b3⟩ := ihk (j + 1) m (by omega) (by omega) a3
       push_cast at b1;exact ⟨m', by simp [EH, hn, EG, F3 EH, D5.D8, D5.ag, a1, J7 (show j < 9223372036854775807 by omega), b1], by omega, b3⟩
      ·exact ⟨n, by simp [EH, hn], z56q _, h1⟩
   by_cases c1 : (300 : Int) < (p.s.size : Int)
   ·refine ⟨401, (Lm _ _).trans ?_, h1, by omega⟩
    rw [NN];simp [c1]
   by_cases c2 : (300 : Int) < (p.name.size : Int)
   ·refine ⟨401, (Lm _ _).trans ?_, h1, by omega⟩
    rw [NN];simp [c1, c2]
   obtain ⟨m, a1, a2, a3⟩ := loop p.kids.length 0 n (by omega) h0 h1
   refine ⟨m, (Lm _ _).trans ?_, a2, a3⟩;rw [NN];simp [c1, c2];exact a1
theorem A7w (t : Ex) : t.fit → ∀ n : Int, 0 ≤ n → n ≤ 401 → ∃ m : Int, (run cfg).p MZ [t.enc, .int .i64 n] = some (.int .i64 m) ∧ 0 ≤ m ∧ m ≤ 402 ∧ (n = 401 → 401 ≤ m) ∧ (m ≤ 400 → n + t.size ≤ m) := by
 induction t using Ex.ind with
 | h t ih =>
   intro ht n h0 h1;have hk := big (z4q ht.one.kids);have hp := big (z4q ht.one.F6);have e12 : ∀ m : Int, 0 ≤ m → m ≤ 402 → ∃ m' : Int, Jv (run cfg) (.int .i64 m) t.enc = some (.int .i64 m') ∧ 0 ≤ m' ∧ m' ≤ 402 ∧ (m' = m ∨ m' = 401) := by
    intro m hm IA;rw [UQ]
    by_cases c1 : (300 : Int) < (t.s.size : Int)
    ·exact ⟨401, by simp [c1], by omega, by omega, .inr rfl⟩
    by_cases c2 : (300 : Int) < (t.name.size : Int)
    ·exact ⟨401, by simp [c1, c2], by omega, by omega, .inr rfl⟩
    by_cases c3 : (300 : Int) < (t.arg.size : Int)
    ·exact ⟨401, by simp [c1, c2, c3], by omega, by omega, .inr rfl⟩
    ·exact ⟨m, by simp [c1, c2, c3], hm, IA, .inl rfl⟩
   have l9 : ∀ (k j : Nat) (n : Int), j + k = t.kids.length → 0 ≤ n → n ≤ 402 → ∃ m : Int, Jy (run cfg) (.int .i64 n) (.int .i64 j) t.enc = some (.int .i64 m) ∧ 0 ≤ m ∧ m ≤ 402 ∧ (401 ≤ n → 401 ≤ m) ∧ (m ≤ 400 → n + (((t.kids.drop j).map Ex.size).sum : Nat) ≤ m) := by
    intro k
    induction k with
    | zero =>
      intro j n hj h0 h1;obtain ⟨m, a1, a2, a3, a4⟩ := e12 n h0 h1;have : ¬ j < t.kids.length := by omega
      refine ⟨m, by rw [Ir]; simp [this, a1], a2, a3, fun _ => by omega, fun hm => ?_⟩
      rw [z3q (by omega)]
      simp;omega
    | succ k ihk =>
      intro j n hj h0 h1;have EH : j < t.kids.length := by omega
      by_cases hn : n ≤ 400
      ·obtain ⟨m, a1, a2, a3, a4, a5⟩ := ih _ (z0q EH) (ht.kid (z0q EH)) n h0 (by omega)
       obtain ⟨m', b1, b2, b3, b4, b5⟩ := ihk (j + 1) m (by omega) a2 a3
       push_cast at b1;refine ⟨m', by rw [Ir]; simp [EH, hn, F3 EH, Ex.D8, Ex.ag, a1, J7 (show j < 9223372036854775807 by omega), b1], b2, b3, fun h => absurd h (by omega), fun hm => ?_⟩
       have g1 := b5 hm;have g2 : m ≤ 400 := by
        by_cases h : m ≤ 400
        ·exact h
        ·have := b4 (by omega); omega
       have g3 := a5 g2;rw [z1q EH, z10q, z18q];push_cast;omega
      ·obtain ⟨m, a1, a2, a3, a4⟩ := e12 n h0 h1
       exact ⟨m, by rw [Ir]; simp [EH, hn, a1], a2, a3, fun _ => by omega, fun hm => absurd hm (by omega)⟩
   have e8 : ∀ n : Int, 0 ≤ n → n ≤ 402 → ∃ m : Int, MH (run cfg) (.int .i64 n) t.enc = some (.int .i64 m) ∧ 0 ≤ m ∧ m ≤ 402 ∧ (401 ≤ n → 401 ≤ m) ∧ (m ≤ 400 → n + ((t.kids.map Ex.size).sum : Nat) ≤ m) := by
    intro n h0 h1;obtain ⟨m, a1, a2, a3, a4, a5⟩ := l9 t.kids.length 0 n (by omega) h0 h1
    exact ⟨m, by rw [V_]; simpa using a1, a2, a3, a4, by simpa using a5⟩
   have l5 : ∀ (k j : Nat) (n : Int), j + k = t.F6.length → 0 ≤ n → n ≤ 402 → ∃ m : Int, Jw (run cfg) (.int .i64 n) (.int .i64 j) t.enc = some (.int .i64 m) ∧ 0 ≤ m ∧ m ≤ 402 ∧ (401 ≤ n → 401 ≤ m) ∧ (m ≤ 400 → n + ((t.kids.map Ex.size).sum : Nat) ≤ m) := by
    intro k
    induction k with
    | zero =>
      intro j n hj h0 h1;obtain ⟨m, a1, a2, a3, a4, a5⟩ := e8 n h0 h1;have : ¬ j < t.F6.length := by omega
      exact ⟨m, by rw [Iq]; simp [this, a1], a2, a3, a4, a5⟩
    | succ k ihk =>
      intro j n hj h0 h1;have EH : j < t.F6.length := by omega
      by_cases hn : n ≤ 400
      ·obtain ⟨m, a1, a2, a3⟩ := A3F _ (D5.WT (ht.one.pat _ (z0q EH))) n h0 (by omega)
       obtain ⟨m', b1, b2, b3, b4, b5⟩ := ihk (j + 1) m (by omega) (by omega) (by omega)
       push_cast at b1;refine ⟨m', by rw [Iq]; simp [EH, hn, F3 EH, D5.D8, D5.ag, a1, J7 (show j < 9223372036854775807 by omega), b1], b2, b3, fun h => absurd h (by omega), fun hm => ?_⟩
       have := b5 hm;omega
      ·obtain ⟨m, a1, a2, a3, a4, a5⟩ := e8 n h0 h1
       exact ⟨m, by rw [Iq]; simp [EH, hn, a1], a2, a3, a4, a5⟩
   have EG : A8 .add (.int .i64 n) (.int .i64 1) = some (.int .i64 (n + 1)) := Ck (by omega) (by omega)
   by_cases hn1 : n + 1 ≤ 401
   ·obtain ⟨ma, a1, a2, a3⟩ := eQ _ ht.one.a (n + 1) (by omega) hn1
    obtain ⟨mb, b1, b2, b3⟩ := eQ _ ht.one.b ma (by omega) a3
    obtain ⟨m, c1, c2, c3, c4, c5⟩ := l5 t.F6.length 0 mb (by omega) (by omega) (by omega)
    refine ⟨m, (Rb _ _).trans ?_, c2, c3, fun h => absurd h (by omega), fun hm => ?_⟩
    ·rw [UO]
     simp [EG, Ty.D8, Ty.ag, a1, b1];exact c1
    ·have := c5 hm
     have := t.size_eq;push_cast at *;omega
   ·-- more than enough
    have hn : n = 401 := by omega
    subst hn;have A55 : ∀ y : Ty, (run cfg).p D_ [y.enc, .int .i64 402] = some (.int .i64 402) := by
     intro y;refine (Jk _ _).trans ?_;rw [Lf];simp;rw [Eb]
     by_cases h : 0 < y.kids.length <;> simp [h]
    obtain ⟨m, c1, c2, c3, c4, c5⟩ := l5 t.F6.length 0 402 (by omega) (by omega) (by omega)
    refine ⟨m, (Rb _ _).trans ?_, c2, c3, fun _ => c4 (by omega), fun hm => absurd (c4 (by omega)) (by omega)⟩
    rw [UO];simp [EG, Ty.D8, Ty.ag, A55];exact c1
theorem zg (t : Ex) (ht : t.fit) (n : Int) (h0 : 401 ≤ n) (h1 : n ≤ 1000000) : ∃ m : Int, (run cfg).p MZ [t.enc, .int .i64 n] = some (.int .i64 m) ∧ 401 ≤ m ∧ m ≤ n + 1 := by
 have hk := big (z4q ht.one.kids);have hp := big (z4q ht.one.F6);have hn : ¬ n + 1 ≤ 400 := by omega
 have e12 : ∃ m : Int, Jv (run cfg) (.int .i64 (n + 1)) t.enc = some (.int .i64 m) ∧ 401 ≤ m ∧ m ≤ n + 1 := by
  rw [UQ]
  by_cases c1 : (300 : Int) < (t.s.size : Int)
  ·exact ⟨401, by simp [c1], by omega, by omega⟩
  by_cases c2 : (300 : Int) < (t.name.size : Int)
  ·exact ⟨401, by simp [c1, c2], by omega, by omega⟩
  by_cases c3 : (300 : Int) < (t.arg.size : Int)
  ·exact ⟨401, by simp [c1, c2, c3], by omega, by omega⟩
  ·exact ⟨n + 1, by simp [c1, c2, c3], by omega, by omega⟩
 obtain ⟨m, a1, a2, a3⟩ := e12;have e9 : Jy (run cfg) (.int .i64 (n + 1)) (.int .i64 0) t.enc = some (.int .i64 m) := by
  rw [Ir]
  by_cases h : 0 < t.kids.length <;> simp [h, hn, a1]
 have e8 : MH (run cfg) (.int .i64 (n + 1)) t.enc = some (.int .i64 m) := by
  rw [V_];exact e9
 have e5 : Jw (run cfg) (.int .i64 (n + 1)) (.int .i64 0) t.enc = some (.int .i64 m) := by
  rw [Iq]
  by_cases h : 0 < t.F6.length <;> simp [h, hn, e8]
 have A55 : ∀ y : Ty, (run cfg).p D_ [y.enc, .int .i64 (n + 1)] = some (.int .i64 (n + 1)) := by
  intro y;refine (Jk _ _).trans ?_;rw [Lf];simp;rw [Eb]
  by_cases h : 0 < y.kids.length <;> simp [h, hn]
 have EG : A8 .add (.int .i64 n) (.int .i64 1) = some (.int .i64 (n + 1)) := Ck (by omega) (by omega)
 refine ⟨m, (Rb _ _).trans ?_, a2, a3⟩;rw [UO];simp [EG, Ty.D8, Ty.ag, A55];exact e5
theorem A7v (l : List Ex) (hl : l.length ≤ 16) (ft : ∀ t ∈ l, t.fit) : ∃ b : Bool, (run cfg).p iX [.list 16 (l.map Ex.enc)] = some (.bool b) ∧ (b = false → (l.map Ex.size).sum ≤ 400) := by
 have loop : ∀ (k j : Nat) (n : Int), j + k = l.length → 0 ≤ n → n ≤ 500 + j → ∃ b : Bool, Ou (run cfg) (.list 16 (l.map Ex.enc)) (.int .i64 n) (.int .i64 (j : Int)) = some (.bool b) ∧ (b = false → n + (((l.drop j).map Ex.size).sum : Nat) ≤ 400) := by
  intro k
  induction k with
  | zero =>
    intro j n hj h0 h1;have : ¬ j < l.length := by omega
    refine ⟨decide (400 < n), ?_, fun h => ?_⟩
    ·rw [UN]
     simp [this]
    ·rw [z3q (by omega)]
     simp at h;simp;omega
  | succ k ih =>
    intro j n hj h0 h1;have h : j < l.length := by omega
    obtain ⟨m, a1, a2, a3, a4⟩ : ∃ m : Int, (run cfg).p MZ [l[j].enc, .int .i64 n] = some (.int .i64 m) ∧ 0 ≤ m ∧ m ≤ 500 + (j + 1 : Nat) ∧ (m ≤ 400 → n + l[j].size ≤ m) := by
     by_cases hn : n ≤ 400
     ·obtain ⟨m, a1, a2, a3, a4, a5⟩ := A7w _ (ft _ (z0q h)) n h0 (by omega)
      exact ⟨m, a1, a2, by omega, a5⟩
     ·obtain ⟨m, a1, a2, a3⟩ := zg _ (ft _ (z0q h)) n (by omega) (by omega)
      exact ⟨m, a1, by omega, by omega, fun h => absurd h (by omega)⟩
    obtain ⟨b, hb, VB⟩ := ih (j + 1) m (by omega) a2 a3
    push_cast at hb;refine ⟨b, ?_, fun hf => ?_⟩
    ·rw [UN]
     simp [h, F3 h, Ex.D8, Ex.ag, a1, J7 (show j < 9223372036854775807 by omega), hb]
    ·have g1 := VB hf
     rw [z1q h, z10q, z18q];have g2 := a4 (by omega)
     push_cast;omega
 obtain ⟨b, hb, VB⟩ := loop l.length 0 0 (by omega) (by omega) (by omega)
 refine ⟨b, (rJ _).trans ?_, fun h => ?_⟩
 ·rw [vL]
  simpa using hb
 ·have := VB h
  simp at this;omega
theorem A9i {i : Nat} (h : i < 9223372036854775807) : A8 .add (.int .i64 (i : Int)) (.int .i64 1) = some (.int .i64 ((i : Int) + 1)) := by
 rw [J7 h];rfl
theorem exx (k : Ex) : (DV.agg [A7 0 k.enc, A7 1 k.enc, A7 2 k.enc, A7 3 k.enc, A7 4 k.enc, A7 5 k.enc, A7 6 k.enc, A7 7 k.enc, A7 8 k.enc, A7 9 k.enc, A7 10 k.enc, A7 11 k.enc, A7 12 k.enc, A7 13 k.enc, A7 14 k.enc, A7 15 k.enc]) = k.enc := by simp [Ex.D8, Ex.ag]
theorem pax (k : D5) : (DV.agg [A7 0 k.enc, A7 1 k.enc, A7 2 k.enc, A7 3 k.enc, A7 4 k.enc, A7 5 k.enc, A7 6 k.enc]) = k.enc := by simp [D5.D8, D5.ag]
theorem A8l (t : Ex) : t.fit → t.J4 ≤ lim → (run cfg).p ZR [t.enc] = some (.int .i64 t.size) := by
 induction t using Ex.ind with
 | h t ih =>
   intro ft hm;have hk := big (z4q ft.one.kids);have hs := t.OY;have hb := big hm;refine (wm _).trans ?_;rw [A0P];simp only [Ao, O6];have loop := FR (l := t.kids) (P := fun i (a : Nat) => RH (run cfg) (.int .i64 a) (.int .i64 i) t.enc) (g := fun a k => a + k.size) (fin := fun a => some (.int .i64 a))
    (I := fun i a => a + ((t.kids.drop i).map Ex.size).sum ≤ lim)
    (fun a _ => by rw [WG]; simp)
    (fun i h a ha => by
      rw [z1q h, z10q, z18q] at ha;have := big ha;refine ⟨?_, by omega⟩
      rw [WG];have e : A8 .add (.int .i64 (a : Int)) (.int .i64 (t.kids[i].size : Int)) = some (.int .i64 ((a + t.kids[i].size : Nat) : Int)) := by
       rw [Ck (by omega) (by omega)]; simp
      simp [h, F3 h, Ex.D8, Ex.ag, ih _ (z0q h) (ft.kid (z0q h)) (by have := Ex.O5 (z0q h); omega), J7 (show i < 9223372036854775807 by omega), e]) 1
    (by have := t.size_eq; simpa using (by omega : 1 + (t.kids.map Ex.size).sum ≤ lim))
   have e : ∀ (l : List Ex) (a : Nat), l.foldl (fun a k => a + k.size) a = a + (l.map Ex.size).sum := by
    intro l
    induction l with
    | nil => intro a; simp
    | cons x l ih => intro a; simp [ih]; omega
   rw [e, ← Ex.size_eq] at loop;exact loop
theorem Ex.B1d {t : Ex} (rt : t.right = true) (k68 : t.kind = 6 ∨ t.kind = 8) : ∃ (h0 : 0 < t.kids.length) (h1 : 1 < t.kids.length), t.kids.take 2 = [t.kids[0], t.kids[1]] := by
 have Ha := Ex.oV (Ex.A5a rt);have Z4 : t.kids.length = 2 := by
  rcases k68 with k | k <;> rw [k] at Ha <;> simp [K3] at Ha <;> omega
 refine ⟨by omega, by omega, ?_⟩
 apply List.ext_getElem
 ·simp [Z4]
 ·intro i h1 h2
  simp at h2
  match i, h2 with
  | 0, _ => simp
  | 1, _ => simp
theorem A5G (t : Ex) : t.fit → t.right = true → (run cfg).p NZ [t.enc] = some (.bool t.value) := by
 induction t using Ex.ind with
 | h t ih =>
   intro ft rt;refine (lh _).trans ?_;rw [qo, Ex.A7S]
   by_cases k1 : t.kind = 1
   ·simp [k1]
   by_cases k2 : t.kind = 2
   ·simp [k2]
   by_cases k3 : t.kind = 3
   ·simp [k3]
   by_cases k4 : t.kind = 4
   ·simp [k4]
   by_cases k5 : t.kind = 5
   ·simp [k5]
   by_cases k7 : t.kind = 7
   ·simp [k7]
   by_cases k9 : t.kind = 9
   ·simp [k9]
   by_cases k68 : t.kind = 6 ∨ t.kind = 8
   ·obtain ⟨h0, h1, e⟩ := Ex.B1d rt k68
    have d0 : E8 16 (.list 16 (t.kids.map Ex.enc)) (.int .i64 0) = some t.kids[0].enc := F3 h0;have d1 : E8 16 (.list 16 (t.kids.map Ex.enc)) (.int .i64 1) = some t.kids[1].enc := F3 h1;have i0 := ih _ (z0q h0) (ft.kid (z0q h0)) (Ex.Q0 rt (z0q h0));have i1 := ih _ (z0q h1) (ft.kid (z0q h1)) (Ex.Q0 rt (z0q h1));have p11 : NJ (run cfg) t.enc = some (.bool ((t.kids.take 2).all Ex.value)) := by
     rw [bP, e];simp [d0, d1, Ex.D8, Ex.ag, i0, i1];cases t.kids[0].value <;> simp
    rcases k68 with k | k <;> simp [k, p11]
   ·have k6 : ¬ t.kind = 6 := fun h => k68 (.inl h)
    have k8 : ¬ t.kind = 8 := fun h => k68 (.inr h)
    simp [k1, k2, k3, k4, k5, k6, k7, k8, k9]
theorem A5F (t : Ex) (ft : t.fit) : (run cfg).p aT [t.enc] = some (.bool (t.right && t.value)) := by
 refine (lZ _).trans ?_;rw [qf];simp only [Ao, O6, exx, t_ t ft, I1, CZ];cases rt : t.right
 ·simp
 ·simp [exx, A5G t ft rt]
theorem A7D (t : Ex) : t.fit → t.right = true → (run cfg).p QR [t.enc] = some (.bool t.value) := by
 induction t using Ex.ind with
 | h t ih =>
   intro ft rt;refine (rZ _).trans ?_;rw [vY, Ex.A7S]
   by_cases k1 : t.kind = 1
   ·simp [k1]
   by_cases k2 : t.kind = 2
   ·simp [k2]
   by_cases k3 : t.kind = 3
   ·simp [k3]
   by_cases k4 : t.kind = 4
   ·simp [k4]
   by_cases k5 : t.kind = 5
   ·simp [k5]
   by_cases k7 : t.kind = 7
   ·simp [k7]
   by_cases k9 : t.kind = 9
   ·simp [k9]
   by_cases k68 : t.kind = 6 ∨ t.kind = 8
   ·obtain ⟨h0, h1, e⟩ := Ex.B1d rt k68
    have d0 : E8 16 (.list 16 (t.kids.map Ex.enc)) (.int .i64 0) = some t.kids[0].enc := F3 h0;have d1 : E8 16 (.list 16 (t.kids.map Ex.enc)) (.int .i64 1) = some t.kids[1].enc := F3 h1;have i0 := ih _ (z0q h0) (ft.kid (z0q h0)) (Ex.Q0 rt (z0q h0));have i1 := ih _ (z0q h1) (ft.kid (z0q h1)) (Ex.Q0 rt (z0q h1));have p11 : O_ (run cfg) t.enc = some (.bool ((t.kids.take 2).all Ex.value)) := by
     rw [fq, e];simp [d0, d1, Ex.D8, Ex.ag, i0, i1];cases t.kids[0].value <;> simp
    rcases k68 with k | k <;> simp [k, p11]
   ·have k6 : ¬ t.kind = 6 := fun h => k68 (.inl h)
    have k8 : ¬ t.kind = 8 := fun h => k68 (.inr h)
    simp [k1, k2, k3, k4, k5, k6, k7, k8, k9]
theorem A8g (t : D5) : t.size ≤ lim → (run cfg).p ZN [t.enc] = some t.enc := by
 induction t using D5.ind with
 | h t ih =>
   intro hs;have hb := t.x_;have hB := big hs;refine (wP _).trans ?_;rw [A0D];have loop := Wj (l := t.kids) (P := fun j (a : List D5) => RA (run cfg) (.int .i64 j) t.enc (.int .i64 t.kind) (.int .i64 t.lo) (.int .i64 t.hi) (.str t.name) (.int .i64 t.n) (.str t.s) (.list 7 (a.map D5.enc)))
    (g := fun k => k) (fin := fun a => some (D5.mk t.kind t.lo t.hi t.name t.n t.s a).enc)
    (fun a _ => by rw [Vz, D5.F9 (D5.mk _ _ _ _ _ _ _)]; simp)
    (fun j h a ha => by
      have hk := D5.eF (z0q h);have := l6 (e := D5.enc) (sz := 7) (l := a) (x := t.kids[j]) (by omega)
      rw [Vz];simp only [D5.pj, BB, z6q, Br, z38q, h, decide_true, I1, N9, if_true, F3 h, D5.D8, D5.ag, ih _ (z0q h) (by omega), I_, O6, this, A9i (show j < 9223372036854775807 by omega)])
   simp only [z14q, z21q, id_eq] at loop;have e : D5.mk t.kind t.lo t.hi t.name t.n t.s t.kids = t := by cases t; rfl
   rw [e] at loop;simp only [I_, O6, D5.pj];exact loop
theorem A7s (t : Ex) : t.fit → t.J4 ≤ lim → (run cfg).p Wx [t.enc] = some t.enc := by
 induction t using Ex.ind with
 | h t ih =>
   intro ft hm;have hk := ft.one.kids;have hp := ft.one.F6;have hK := big (z4q hk);have hP := big (z4q hp);have YK : (.list 16 [] : DV) = .list 16 (([] : List Ex).map Ex.enc) := rfl;refine (rC _).trans ?_;rw [vF];have l8 : ∀ ps : List D5, _ := fun ps => Wj (l := t.kids) (P := fun j (a : List Ex) => Om (run cfg) (.int .i64 j) t.enc
    (.int .i64 t.kind) (.int .i64 t.lo) (.int .i64 t.hi) (.str t.name) (.str t.arg) (.int .i64 t.n) (.str t.s) (.int .i64 t.op) (.int .i64 t.a.kind) (.int .i64 t.a.n) (.list 3 (t.a.kids.map Ty.enc)) (.int .i64 t.b.kind) (.int .i64 t.b.n) (.list 3 (t.b.kids.map Ty.enc)) (.list 7 (ps.map D5.enc)) (.list 16 (a.map Ex.enc)))
    (g := fun k => k) (fin := fun a => some (Ex.mk t.kind t.lo t.hi t.name t.arg t.n t.s t.op t.a t.b ps a).enc)
    (fun a _ => by rw [UH, Ex.F9 (Ex.mk _ _ _ _ _ _ _ _ _ _ _ _)]; simp)
    (fun j h a ha => by
      have := l6 (e := Ex.enc) (sz := 16) (l := a) (x := t.kids[j]) (by omega)
      rw [UH];simp only [Ex.pj, BB, z6q, Br, z38q, h, decide_true, I1, N9, if_true, F3 h, Ex.D8, Ex.ag, ih _ (z0q h) (ft.kid (z0q h)) (by have := Ex.O5 (z0q h); omega), Ao, O6, this, A9i (show j < 9223372036854775807 by omega)])
   have l4 := Wj (l := t.F6) (P := fun j (a : List D5) => Ol (run cfg) (.int .i64 j) t.enc
    (.int .i64 t.kind) (.int .i64 t.lo) (.int .i64 t.hi) (.str t.name) (.str t.arg) (.int .i64 t.n) (.str t.s) (.int .i64 t.op) (.int .i64 t.a.kind) (.int .i64 t.a.n) (.list 3 (t.a.kids.map Ty.enc)) (.int .i64 t.b.kind) (.int .i64 t.b.n) (.list 3 (t.b.kids.map Ty.enc)) (.list 7 (a.map D5.enc)))
    (g := fun k => k) (fin := fun a => some (Ex.mk t.kind t.lo t.hi t.name t.arg t.n t.s t.op t.a t.b a t.kids).enc)
    (fun a _ => by
      have := l8 a;simp only [z14q, z21q, id_eq] at this;rw [UG];simp only [Ex.df, BB, z6q, Br, Int.lt_irrefl, decide_false, I1, N9, z8q, if_false];exact this)
    (fun j h a ha => by
      have ps : t.F6[j].size ≤ lim := (ft.one.pat _ (z0q h)).size;have := l6 (e := D5.enc) (sz := 7) (l := a) (x := t.F6[j]) (by omega)
      rw [UG];simp only [Ex.df, BB, z6q, Br, z38q, h, decide_true, I1, N9, if_true, F3 h, pax, A8g _ ps, I_, O6, this, A9i (show j < 9223372036854775807 by omega)])
   simp only [z14q, z21q, id_eq] at l4;have e : Ex.mk t.kind t.lo t.hi t.name t.arg t.n t.s t.op t.a t.b t.F6 t.kids = t := by cases t; rfl
   rw [e] at l4;simp only [Ao, O6, Ex.pj, Ty.D8, Ty.ag, eO _ ft.one.a, eO _ ft.one.b, I1, JA, Ty.Y3, Ty.Ar, Ty.AV];exact l4
end Go.Su

/-
 What the program's judging does: the small functions.
-/
namespace Go.Su
def Q9.enc (x : Q9) : DV := .agg [.int .i64 x.lo, .int .i64 x.hi, .int .i64 x.frm.kind, .int .i64 x.frm.n, .list 3 (x.frm.kids.map Ty.enc), .int .i64 x.to.kind, .int .i64 x.to.n, .list 3 (x.to.kids.map Ty.enc)]
def V6 (L : List Q9) : DV := .list 8 (L.map Q9.enc)
@[simp] theorem B0G (L : List Q9) : dLen (V6 L) = some (.int .i64 L.length) := by simp [V6, dLen]
def Z0 (t : Ty) (x : Tm) : DV := .agg [.int .i64 t.kind, .int .i64 t.n, .list 3 (t.kids.map Ty.enc), .int .i64 x.kind, .int .i64 x.lo, .int .i64 x.hi, .str x.name, .str x.arg, .int .i64 x.n, .str x.s, .int .i64 x.op, .int .i64 x.label, .bool x.neg, F4 x.vars, .int .i64 x.a.kind, .int .i64 x.a.n, .list 3 (x.a.kids.map Ty.enc), .int .i64 x.b.kind, .int .i64 x.b.n, .list 3 (x.b.kids.map Ty.enc), .list 3 (x.args.map Ty.enc), .list 7 (x.F6.map D5.enc), .list 20 (x.kids.map Tm.enc)]
section
variable (t : Ty) (x : Tm)
@[simp] theorem A6L : C9 23 (Z0 t x) = true := rfl
@[simp] theorem B52 : A7 0 (Z0 t x) = .int .i64 t.kind := rfl
@[simp] theorem B53 : A7 1 (Z0 t x) = .int .i64 t.n := rfl
@[simp] theorem B54 : A7 2 (Z0 t x) = .list 3 (t.kids.map Ty.enc) := rfl
@[simp] theorem B55 : A7 3 (Z0 t x) = .int .i64 x.kind := rfl
@[simp] theorem B56 : A7 4 (Z0 t x) = .int .i64 x.lo := rfl
@[simp] theorem B57 : A7 5 (Z0 t x) = .int .i64 x.hi := rfl
@[simp] theorem B58 : A7 6 (Z0 t x) = .str x.name := rfl
@[simp] theorem B59 : A7 7 (Z0 t x) = .str x.arg := rfl
@[simp] theorem B6a : A7 8 (Z0 t x) = .int .i64 x.n := rfl
@[simp] theorem B6b : A7 9 (Z0 t x) = .str x.s := rfl
@[simp] theorem B4l : A7 10 (Z0 t x) = .int .i64 x.op := rfl
@[simp] theorem B4m : A7 11 (Z0 t x) = .int .i64 x.label := rfl
@[simp] theorem B4n : A7 12 (Z0 t x) = .bool x.neg := rfl
@[simp] theorem B4o : A7 13 (Z0 t x) = F4 x.vars := rfl
@[simp] theorem B4p : A7 14 (Z0 t x) = .int .i64 x.a.kind := rfl
@[simp] theorem B4q : A7 15 (Z0 t x) = .int .i64 x.a.n := rfl
@[simp] theorem B4r : A7 16 (Z0 t x) = .list 3 (x.a.kids.map Ty.enc) := rfl
@[simp] theorem B4s : A7 17 (Z0 t x) = .int .i64 x.b.kind := rfl
@[simp] theorem B4t : A7 18 (Z0 t x) = .int .i64 x.b.n := rfl
@[simp] theorem B4u : A7 19 (Z0 t x) = .list 3 (x.b.kids.map Ty.enc) := rfl
@[simp] theorem B4v : A7 20 (Z0 t x) = .list 3 (x.args.map Ty.enc) := rfl
@[simp] theorem B4w : A7 21 (Z0 t x) = .list 7 (x.F6.map D5.enc) := rfl
@[simp] theorem B4x : A7 22 (Z0 t x) = .list 20 (x.kids.map Tm.enc) := rfl
theorem A89 : DV.agg [.int .i64 t.kind, .int .i64 t.n, .list 3 (t.kids.map Ty.enc), .int .i64 x.kind, .int .i64 x.lo, .int .i64 x.hi, .str x.name, .str x.arg, .int .i64 x.n, .str x.s, .int .i64 x.op, .int .i64 x.label, .bool x.neg, F4 x.vars, .int .i64 x.a.kind, .int .i64 x.a.n, .list 3 (x.a.kids.map Ty.enc), .int .i64 x.b.kind, .int .i64 x.b.n, .list 3 (x.b.kids.map Ty.enc), .list 3 (x.args.map Ty.enc), .list 7 (x.F6.map D5.enc), .list 20 (x.kids.map Tm.enc)] = Z0 t x := rfl
end
structure JP (sg : List D7) (p mi : Nat) : Prop where
 pl : p < sg.length
 ml : mi < sg.length
 ne : p ≠ mi
def Roomy (m : Meta) : Prop := m = .full ∨ m = .own
def X_ (st : Bool) (mi : Nat) (L : List Q9) (m : Meta) (er : Int) : List (DV × Meta) := [(.bool st, .val), (.undef, .map mi), (V6 L, m), (.int .i64 er, .val)]
def R5 (sg : List D7) (p mi : Nat) (st : Bool) (es : List (DV × DV)) (L : List Q9) (m : Meta) (er : Int) : List D7 := (sg.set p (.box (X_ st mi L m er))).set mi (.map false es)
section
variable {sg : List D7} {p mi : Nat} (h : JP sg p mi) (st : Bool) (es : List (DV × DV)) (L : List Q9) (m : Meta) (er : Int)
include h
theorem CR : M7 (R5 sg p mi st es L m er) p = some (X_ st mi L m er) := by
 simp [M7, R5, List.getElem?_set_ne h.ne.symm, z45q h.pl]
theorem TF : p9 (R5 sg p mi st es L m er) mi = some (false, es) := by
 simp [p9, R5, z45q, h.ml]
theorem A8N (L' : List Q9) (m' : Meta) (er' : Int) : (R5 sg p mi st es L m er).set p (.box (X_ st mi L' m' er')) = R5 sg p mi st es L' m' er' := by
 unfold R5;rw [List.set_comm _ _ h.ne.symm, z55q]
theorem B2J (es' : List (DV × DV)) : (R5 sg p mi st es L m er).set mi (.map false es') = R5 sg p mi st es' L m er := by
 have _ := h;unfold R5;rw [z55q]
end
@[simp] theorem B8V (st : Bool) (mi : Nat) (L : List Q9) (m : Meta) (er : Int) : U4 (X_ st mi L m er) 0 = some (.bool st) := rfl
@[simp] theorem B8W (st : Bool) (mi : Nat) (L : List Q9) (m : Meta) (er : Int) : KN (X_ st mi L m er) 1 = some mi := rfl
@[simp] theorem B8X (st : Bool) (mi : Nat) (L : List Q9) (m : Meta) (er : Int) : U4 (X_ st mi L m er) 3 = some (.int .i64 er) := rfl
@[simp] theorem B8y (st : Bool) (mi : Nat) (L : List Q9) (m : Meta) (er : Int) : (X_ st mi L m er)[3]? = some (.int .i64 er, .val) := rfl
@[simp] theorem B8x (st : Bool) (mi : Nat) (L : List Q9) (m : Meta) (er : Int) : (X_ st mi L m er)[2]? = some (V6 L, m) := rfl
@[simp] theorem B8z (st : Bool) (mi : Nat) (L : List Q9) (m : Meta) (er z : Int) : (X_ st mi L m er).set 3 (.int .i64 z, .val) = X_ st mi L m z := rfl
theorem B5H (st : Bool) (mi : Nat) (L L' : List Q9) (m m' : Meta) (er : Int) : (X_ st mi L m er).set 2 (V6 L', m') = X_ st mi L' m' er := rfl
theorem B5G {m : Meta} (hm : Roomy m) (st : Bool) (mi : Nat) (L : List Q9) (er : Int) : U4 (X_ st mi L m er) 2 = some (V6 L) := by
 rcases hm with rfl | rfl <;> rfl
theorem B63 {m : Meta} (hm : Roomy m) (st : Bool) (mi : Nat) (L : List Q9) (er : Int) : Vu (X_ st mi L m er) 2 = some (V6 L) := by
 rcases hm with rfl | rfl <;> rfl
theorem tq (t : Ty) : (run cfg).p TL [t.enc] = some (j3 t).enc := by
 refine (lJ _).trans ?_;rw [qL];simp [Ty.D8, Ty.ag, Ty.A8R, j3]
theorem eH (a b : Ty) : (run cfg).p MV [a.enc, b.enc] = some (V4 a b).enc := by
 refine (Yc _ _).trans ?_;rw [bA];simp [Ty.D8, Ty.ag, Ty.A8S, V4]
theorem VT (a : Ty) (ts : List Ty) (h : a.kind = 0 → 0 < ts.length) : (run cfg).p MW [a.enc, .list 3 (ts.map Ty.enc)] = some (J6 a (ts.getD 0 F7)).enc := by
 refine (rA _ _).trans ?_;rw [vE]
 by_cases h0 : a.kind = 0
 ·have hl := h h0
  have e1 : E8 3 (.list 3 (ts.map Ty.enc)) (.int .i64 (0 : Int)) = some (ts.getD 0 F7).enc := by
   have := F3 (e := Ty.enc) (sz := 3) (k := .i64) (i := 0) hl;rw [z2q, z9q hl];exact this
  simp [h0, e1, Ty.D8, Ty.ag, J6]
 ·simp [h0, Ty.D8, Ty.ag, J6]
theorem Rm (ds es : List DV) (sg : List D7) (h : ds.length + es.length ≤ lim) : (run cfg).r CV [(.list 5 ds, .val), (.list 5 es, .val)] sg = some ([.list 5 (ds ++ es)], sg) := by
 refine (lL _ _ _).trans ?_;rw [qN];simp [dLen, aD, Ca, bnd, R8, h, z17q]
theorem LA (l m : List Nm) (sg : List D7) (h : l.length + m.length ≤ lim) : (run cfg).r CV [(H8 l, .val), (.list 5 (m.map Nm.enc), .val)] sg = some ([H8 (l ++ m)], sg) := by
 have := Rm (l.map Nm.enc) (m.map Nm.enc) sg (by simpa using h)
 simpa [H8] using this
theorem BI {sg : List D7} {p mi : Nat} (h : JP sg p mi) (st : Bool) (es : List (DV × DV)) (L : List Q9) (m : Meta) (er : Int) : (run cfg).r Al [(.undef, .ptr p 0)] (R5 sg p mi st es L m er) = some ([.bool (decide (er = 0))], R5 sg p mi st es L m er) := by
 refine (Uj _ _).trans ?_;rw [Va];simp [CR h]
theorem Gr {sg : List D7} {p mi : Nat} (h : JP sg p mi) (st : Bool) (es : List (DV × DV)) (L : List Q9) (m : Meta) (er z : Int) : (run cfg).r Ac [(.undef, .ptr p 0), (.int .i64 z, .val)] (R5 sg p mi st es L m er) = some ([], R5 sg p mi st es L m (if er = 0 then z else er)) := by
 refine (Po _ _ _).trans ?_;rw [Qd];simp only [BI h, I1]
 by_cases h0 : er = 0
 ·simp [h0, CR h, A8N h]
 ·simp [h0]
theorem Dq {sg : List D7} {p mi : Nat} (h : JP sg p mi) (st : Bool) (L : List Q9) (m : Meta) (er : Int) (n : Int) (hn : n = 1 ∨ n = -1) (l : List Int) (hl : l.length ≤ lim) : ∀ (es : List (DV × DV)) (c : Int → Int), Dz es c → (∀ v, -1 ≤ c v ∧ c v ≤ 1) →
 ∃ es', (run cfg).r Z5 [(.undef, .ptr p 0), (F4 l, .val), (.int .i64 n, .val)] (R5 sg p mi st es L m er) = some ([], R5 sg p mi st es' L m er) ∧ Dz es' fun v => c v + n * (l.count v : Int) := by
 intro es c hc hb;have mI := big hl;have loop : ∀ (k0 k : Nat) (es : List (DV × DV)) (c : Int → Int), k + k0 = l.length → Dz es c → (∀ v, -4611686018427387904 + (k0 : Int) ≤ c v ∧ c v ≤ 4611686018427387904 - (k0 : Int)) →
  ∃ es', EA (run cfg) p (.int .i64 n) (F4 l) (.int .i64 l.length) (.int .i64 k) (R5 sg p mi st es L m er) = some ([], R5 sg p mi st es' L m er) ∧ Dz es' fun v => c v + n * ((l.drop k).count v : Int) := by
  intro k0
  induction k0 with
  | zero =>
    intro k es c hk hc hb;rw [GV, z3q (by omega)]
    have : ¬ k < l.length := by omega
    exact ⟨es, by simp [this], by simpa using hc⟩
  | succ k0 ih =>
    intro k es c hk hc hb;have H7 : k < l.length := by omega
    have hcv := hc l[k];have hbv := hb l[k];obtain ⟨es', h1, h2⟩ := ih (k + 1) (Cm es (.int .i64 l[k]) (.int .i64 (c l[k] + n))) _ (by omega) (hc.set l[k] (c l[k] + n)) (fun v => by
     have := hb v
     by_cases e : l[k] = v
     ·simp only [e, if_true]; rw [e] at hbv; rcases hn with rfl | rfl <;> omega
     ·simp only [e, if_false]; omega)
    refine ⟨es', ?_, h2.congr fun v => ?_⟩
    ·rw [GV]
     have EG : A8 .add (.int .i64 (c l[k])) (.int .i64 n) = some (.int .i64 (c l[k] + n)) := by
      refine Ck ?_ ?_ <;> (rcases hn with rfl | rfl <;> omega)
     push_cast at h1;simp [H7, U0 H7, CR h, TF h, B2J h, hcv, EG, J7 (show k < 9223372036854775807 by omega), h1]
    ·rw [z1q H7, List.count_cons]
     by_cases e : l[k] = v
     ·simp only [e, if_true, beq_self_eq_true]; rcases hn with rfl | rfl <;> (push_cast; omega)
     ·simp [e]
 obtain ⟨es', h1, h2⟩ := loop l.length 0 es c (by omega) hc (fun v => by have := hb v; omega)
 refine ⟨es', (Pn _ _ _ _).trans ?_, by simpa using h2⟩
 rw [Qc];simp only [B0F, I1];exact h1
end Go.Su

/-
 What the program's judging does: finding a name, a derivation's own part.
-/
namespace Go.Su
theorem Rn (t : Ty) (ht : t.thin = true) : (run cfg).p TU [t.enc] = some (.bool (t.without 5)) := by
 refine (lu _).trans ?_;rw [qw];simp [Ty.D8, Ty.ag, nC 5 t ht]
@[simp] theorem B05 (x : Nm) : C9 5 x.enc = true := rfl
theorem Nm.A1F (x : Nm) : DV.agg [.str x.name, .int .i64 x.ty.kind, .int .i64 x.ty.n, .list 3 (x.ty.kids.map Ty.enc), F4 x.vars] = x.enc := rfl
theorem ifc {α : Type} {p q : Prop} [Decidable p] [Decidable q] (h : p ↔ q) (a b : α) : (if p then a else b) = if q then a else b := by
 by_cases hp : p
 ·rw [if_pos hp, if_pos (h.1 hp)]
 ·rw [if_neg hp, if_neg fun hq => hp (h.2 hq)]
def zNm : Nm := ⟨K6, F7, []⟩
theorem B4S : DV.agg [.str ⟨#[]⟩, .int .i64 0, .int .i64 0, .list 3 [], .list 1 []] = zNm.enc := rfl
theorem A5v (l : List Nm) (hl : l.length ≤ lim) (n : ByteArray) : (run cfg).p aM [H8 l, .str n] = some (.I6 [((BD l n).getD zNm).enc, .bool (BD l n).isSome]) := by
 have hb := big hl;refine (lI _ _).trans ?_;have loop : ∀ (m : Nat) (a b c d e : DV), m ≤ l.length → NB (run cfg) (H8 l) (.str n) (.int .i64 ((m : Int) - 1)) a b c d e = some (.I6 [((BD (l.take m) n).getD zNm).enc, .bool (BD (l.take m) n).isSome]) := by
  intro m a b c d e
  induction m with
  | zero =>
    intro _;rw [Ry];simp [BD, B4S]
  | succ m ih =>
    intro Jb;have h : m < l.length := by omega
    have nx := ih (by omega)
    rw [Ry];have e1 : ((m + 1 : Nat) : Int) - 1 = (m : Int) := by omega
    have e2 : E8 5 (H8 l) (.int .i64 (m : Int)) = some l[m].enc := F3 h;have e3 : A8 .sub (.int .i64 (m : Int)) (.int .i64 1) = some (.int .i64 ((m : Int) - 1)) := by rw [BU, A_ (by omega) (by omega)]
    rw [e1];unfold BD at nx ⊢;rw [z12q h, List.reverse_append];simp only [List.reverse_singleton, z29q, z52q]
    by_cases hn : l[m].name = n
    ·subst hn
     simp [e2];rfl
    ·simp [e2, hn, e3, nx]
 rw [qK];have e3 : A8 .sub (.int .i64 (l.length : Int)) (.int .i64 1) = some (.int .i64 ((l.length : Int) - 1)) := by rw [BU, A_ (by omega) (by omega)]
 have := loop l.length (.str ⟨#[]⟩) (.int .i64 0) (.int .i64 0) (.list 3 []) (.list 1 []) (z33q _);rw [List.take_length] at this;simp [e3, this]
def Vl (e : Ex) (l : List Nm) : Nm := if e.kind = 1 then (BD l e.name).getD zNm else zNm
theorem A5w (e : Ex) (hr : e.right = true) (hf : e.fit) (l : List Nm) (hl : e.kind = 1 → BD l e.name ≠ none) : (run cfg).p aN [e.enc, (Vl e l).enc] = some (.I6 [.int .i64 (M8 e l), .bool (Ay e)]) := by
 have own := Ex.S9 hr;refine (lK _ _).trans ?_;rw [qM];have k1 := own.k1;have k16 := own.k16
 by_cases h1 : e.kind = 1
 ·cases hx : BD l e.name with
  | none => exact absurd hx (hl h1)
  | some x => simp [h1, Vl, hx, M8, Ay]
 by_cases h7 : e.kind = 7
 ·simp [h7, M8, Ay]
 by_cases h8 : e.kind = 8
 ·simp [h8, M8, Ay]
 by_cases Fv : e.kind = 13
 ·simp [Fv, M8, Ay]
 by_cases EF : e.kind = 14
 ·simp [EF, M8, Ay]
 by_cases Af : e.kind = 11
 ·by_cases ha : e.a.kind = 0
  ·have hk : 0 < e.kids.length := own.CK (i := 0) (by simp [K3, Af])
   have e1 : E8 16 (.list 16 (e.kids.map Ex.enc)) (.int .i64 (0 : Int)) = some (e.kid 0).enc := by
    rw [Z9 hk];exact F3 (e := Ex.enc) (sz := 16) (k := .i64) (i := 0) hk
   have hm : e.kid 0 ∈ e.kids := by rw [Z9 hk]; exact z0q hk
   have hv := A5F (e.kid 0) (hf.kid hm);rw [Ex.Q0 hr hm, z24q] at hv;simp [Af, ha, e1, Ex.D8, Ex.ag, hv, M8, Ay]
  ·simp [Af, ha, M8, Ay]
 have gZ : Ia (run cfg) (.int .i64 0) e.enc = some (.I6 [.int .i64 0, .bool (decide (e.kind = 12))]) := by
  rw [Gz]; simp
 have a01 : A8 .add (.int .i64 0) (.int .i64 1) = some (.int .i64 1) := Ck (by omega) (by omega)
 have VZ : A8 .add (.int .i64 1) (.int .i64 1) = some (.int .i64 2) := Ck (by omega) (by omega)
 by_cases h9 : e.kind = 9
 ·by_cases ha : e.a.kind = 0
  ·simp [h9, ha, Ld, Le, Gz, M8, Ay, a01, VZ]
  ·simp [h9, ha, Ld, Le, Gz, M8, Ay, a01, VZ]
 by_cases AZ : e.kind = 12
 ·by_cases ha : e.a.kind = 0 <;> by_cases hb : e.b.kind = 0 <;> simp [AZ, ha, hb, Ld, Le, Gz, M8, Ay, a01, VZ]
 ·simp [h1, h7, h8, Fv, EF, Af, h9, AZ, M8, Ay]
theorem AP.get {es : List (DV × DV)} {S : List Int} (h : AP es S) (v : Int) : (Y7 es (.int .i64 v)).getD (.int .i64 0) = .int .i64 (if v ∈ S then 1 else 0) := h v
section
variable {sg : List D7} {p mi : Nat} (h : JP sg p mi) (st : Bool) {es : List (DV × DV)} (L : List Q9) (m : Meta) (er : Int) {S : List Int} (hs : AP es S)
include h hs
theorem A7Y (ts : List Ty) (hl : ts.length ≤ lim) (ht : ∀ t ∈ ts, t.thin = true ∧ t.BP ≤ lim) : ∀ (m0 k : Nat), k + m0 = ts.length →
 BK (run cfg) p (.list 3 (ts.map Ty.enc)) (.int .i64 ts.length) (.int .i64 k) (R5 sg p mi st es L m er) = some ([.int .i64 (Lv st S (ts.drop k))], R5 sg p mi st es L m er) := by
 have hb := big hl;intro m0
 induction m0 with
 | zero =>
   intro k hk;rw [Ef, z3q (by omega)]
   have : ¬ k < ts.length := by omega
   simp [this, Lv]
 | succ m0 ih =>
   intro k hk;have H7 : k < ts.length := by omega
   have nx := ih (k + 1) (by omega)
   push_cast at nx;obtain ⟨TE, Y9⟩ := ht _ (z0q H7);have hvl : ts[k].vars.length ≤ lim + 1 := by have := Ty.jm ts[k] []; simp at this; unfold Ty.vars; omega
   have hvb : ts[k].vars.length < 4294967299 := by unfold lim at hvl; omega
   have inner := TG (l := ts[k].vars) (f := fun v => decide (v ∈ S)) (P := fun j => BL (run cfg) p (.list 3 (ts.map Ty.enc)) (.int .i64 ts.length) (.int .i64 k) (F4 ts[k].vars) (.int .i64 ts[k].vars.length) (.int .i64 j) (R5 sg p mi st es L m er))
    (y := BK (run cfg) p (.list 3 (ts.map Ty.enc)) (.int .i64 ts.length) (.int .i64 ((k : Int) + 1)) (R5 sg p mi st es L m er)) (n := some ([.int .i64 6], R5 sg p mi st es L m er))
    (by rw [Eg]; simp [J7 (show k < 9223372036854775807 by omega)])
    (fun j hj => by
      rw [Eg];have hc := hs.get ts[k].vars[j]
      by_cases hv : ts[k].vars[j] ∈ S
      ·simp only [hv, if_true] at hc
       simp [hj, U0 hj, CR h, TF h, hc, hv, J7 (show j < 9223372036854775807 by omega)]
      ·simp only [hv, if_false] at hc
       simp [hj, U0 hj, CR h, TF h, hc, hv])
   have hi : ts[k].vars.all (fun v => decide (v ∈ S)) = dU S ts[k] := rfl
   rw [hi] at inner;rw [Ef, z1q H7, Lv];cases st with
   | false =>
     simp only [z43q, z8q, if_false]
     by_cases De : dU S ts[k] = true <;> simp [H7, F3 H7, Ty.D8, Ty.ag, CR h, XZ _ TE Y9, inner, De, nx]
   | true =>
     by_cases h5 : ts[k].without 5 = true
     ·simp only [h5, z37q, z57q, z8q, if_false]
      by_cases De : dU S ts[k] = true <;> simp [H7, F3 H7, Ty.D8, Ty.ag, CR h, Rn _ TE, h5, XZ _ TE Y9, inner, De, nx]
     ·simp only [z27q] at h5
      simp [H7, F3 H7, Ty.D8, Ty.ag, CR h, Rn _ TE, h5]
theorem A57 (dq : FuncId × List (DV × Meta)) (ts : List Ty) (hl : ts.length ≤ lim) (ht : ∀ t ∈ ts, t.thin = true ∧ t.BP ≤ lim) : ∀ (m0 k : Nat), k + m0 = ts.length →
 BF (run cfg) dq p (.list 3 (ts.map Ty.enc)) (.int .i64 ts.length) (.int .i64 k) (R5 sg p mi st es L m er) = ob ((run cfg).r dq.1 dq.2 (R5 sg p mi st es L m er)) fun q => some ([.int .i64 (Lv st S (ts.drop k))], q.2) := by
 have hb := big hl;intro m0
 induction m0 with
 | zero =>
   intro k hk;rw [EX, z3q (by omega)]
   have : ¬ k < ts.length := by omega
   simp [this, Lv]
 | succ m0 ih =>
   intro k hk;have H7 : k < ts.length := by omega
   have nx := ih (k + 1) (by omega)
   push_cast at nx;obtain ⟨TE, Y9⟩ := ht _ (z0q H7);have hvl : ts[k].vars.length ≤ lim + 1 := by have := Ty.jm ts[k] []; simp at this; unfold Ty.vars; omega
   have hvb : ts[k].vars.length < 4294967299 := by unfold lim at hvl; omega
   have inner := TG (l := ts[k].vars) (f := fun v => decide (v ∈ S)) (P := fun j => BG (run cfg) dq p (.list 3 (ts.map Ty.enc)) (.int .i64 ts.length) (.int .i64 k) (F4 ts[k].vars) (.int .i64 ts[k].vars.length) (.int .i64 j) (R5 sg p mi st es L m er))
    (y := BF (run cfg) dq p (.list 3 (ts.map Ty.enc)) (.int .i64 ts.length) (.int .i64 ((k : Int) + 1)) (R5 sg p mi st es L m er)) (n := ob ((run cfg).r dq.1 dq.2 (R5 sg p mi st es L m er)) fun q => some ([.int .i64 6], q.2))
    (by rw [EY]; simp [J7 (show k < 9223372036854775807 by omega)])
    (fun j hj => by
      rw [EY];have hc := hs.get ts[k].vars[j]
      by_cases hv : ts[k].vars[j] ∈ S
      ·simp only [hv, if_true] at hc
       simp [hj, U0 hj, CR h, TF h, hc, hv, J7 (show j < 9223372036854775807 by omega)]
      ·simp only [hv, if_false] at hc
       simp [hj, U0 hj, CR h, TF h, hc, hv])
   have hi : ts[k].vars.all (fun v => decide (v ∈ S)) = dU S ts[k] := rfl
   rw [hi] at inner;rw [EX, z1q H7, Lv];cases st with
   | false =>
     simp only [z43q, z8q, if_false]
     by_cases De : dU S ts[k] = true <;> simp [H7, F3 H7, Ty.D8, Ty.ag, CR h, XZ _ TE Y9, inner, De, nx]
   | true =>
     by_cases h5 : ts[k].without 5 = true
     ·simp only [h5, z37q, z57q, z8q, if_false]
      by_cases De : dU S ts[k] = true <;> simp [H7, F3 H7, Ty.D8, Ty.ag, CR h, Rn _ TE, h5, XZ _ TE Y9, inner, De, nx]
     ·simp only [z27q] at h5
      simp [H7, F3 H7, Ty.D8, Ty.ag, CR h, Rn _ TE, h5]
theorem A58 (e : Ex) (d : A9) (hl : d.vars.length ≤ lim) : Ak (run cfg) p (F4 d.vars) (.int .i64 d.vars.length) (.int .i64 0) e.enc d.enc (R5 sg p mi st es L m er) =
 if takes S d.vars = true then (if e.kind = 12 then DZ (run cfg) p d.enc (R5 sg p mi st es L m er) else Da (run cfg) p d.enc (R5 sg p mi st es L m er)) else some ([.int .i64 6], R5 sg p mi st es L m er) := by
 have hb := big hl;generalize xn : d.vars = l at hl hb ⊢;have loop : ∀ (m0 k : Nat), k + m0 = l.length → Ak (run cfg) p (F4 l) (.int .i64 l.length) (.int .i64 k) e.enc d.enc (R5 sg p mi st es L m er) =
  if (∀ j (h : j < l.length), k ≤ j → l[j] ∉ S ∧ l[j] ∉ l.take j) then (if e.kind = 12 then DZ (run cfg) p d.enc (R5 sg p mi st es L m er) else Da (run cfg) p d.enc (R5 sg p mi st es L m er)) else some ([.int .i64 6], R5 sg p mi st es L m er) := by
  intro m0
  induction m0 with
  | zero =>
    intro k hk;rw [FO];have : ¬ k < l.length := by omega
    have h2 : ∀ j (h : j < l.length), k ≤ j → l[j] ∉ S ∧ l[j] ∉ l.take j := fun j h h' => by omega
    rw [if_pos h2]
    by_cases B7W : e.kind = 12 <;> simp [this, B7W]
  | succ m0 ih =>
    intro k hk;have H7 : k < l.length := by omega
    have nx := ih (k + 1) (by omega)
    push_cast at nx;have hc := hs.get l[k];have sl : Ca 1 (F4 l) none (some (.int .i64 (k : Int))) = some (F4 (l.take k)) := A2K (by omega) 1
    have ct := yZ (l.take k) (by simp; omega) l[k]
    rw [FO]
    by_cases hv : l[k] ∈ S
    ·simp only [hv, if_true] at hc
     have : ¬ ∀ j (h : j < l.length), k ≤ j → l[j] ∉ S ∧ l[j] ∉ l.take j := fun hh => (hh k H7 (z33q _)).1 hv
     rw [if_neg this];simp [H7, xn, U0 H7, CR h, TF h, hc]
    ·simp only [hv, if_false] at hc
     by_cases hd : l[k] ∈ l.take k
     ·have : ¬ ∀ j (h : j < l.length), k ≤ j → l[j] ∉ S ∧ l[j] ∉ l.take j := fun hh => (hh k H7 (z33q _)).2 hd
      rw [if_neg this];simp only [hd, decide_true] at ct;simp [H7, xn, U0 H7, CR h, TF h, hc, sl, ct]
     ·simp only [hd, decide_false] at ct
      have e1 : (∀ j (h : j < l.length), k ≤ j → l[j] ∉ S ∧ l[j] ∉ l.take j) ↔ ∀ j (h : j < l.length), k + 1 ≤ j → l[j] ∉ S ∧ l[j] ∉ l.take j := by
       constructor
       ·intro hh j hj hkj; exact hh j hj (by omega)
       ·intro hh j hj hkj
        rcases z60q k j with h1 | h1
        ·exact hh j hj h1
        ·have : k = j := by omega
         subst this;exact ⟨hv, hd⟩
      rw [ifc e1, ← nx];simp [H7, xn, U0 H7, CR h, TF h, hc, sl, ct, J7 (show k < 9223372036854775807 by omega)]
 have l0 := loop l.length 0 (by omega)
 simp only [z11q, z13q, z5q] at l0;refine l0.trans (ifc ?_ _ _);rw [TI, ← oU];constructor
 ·intro hh
  refine ⟨fun j hj => (hh j hj (z44q _)).2, fun v hv => ?_⟩
  obtain ⟨j, hj, rfl⟩ := List.getElem_of_mem hv;exact (hh j hj (z44q _)).1
 ·rintro ⟨h1, h2⟩ j hj -
  exact ⟨h2 _ (z0q hj), h1 j hj⟩
end
theorem A1Z {sg : List D7} {p mi : Nat} (h : JP sg p mi) (st : Bool) {es : List (DV × DV)} (L : List Q9) (m : Meta) (er : Int) {S : List Int} (hs : AP es S) (e : Ex) (hr : e.right = true) (hf : e.fit) (d : A9) (hd : d.DC) (l : List Nm) (hl : e.kind = 1 → BD l e.name ≠ none) :
 ∃ es', (run cfg).r BQ [(.undef, .ptr p 0), (e.enc, .val), (d.enc, .val), ((Vl e l).enc, .val)] (R5 sg p mi st es L m er) = some ([.int .i64 (DT st e d l S)], R5 sg p mi st es' L m er) ∧ AP es' S := by
 obtain ⟨d1, d2, d3, d4⟩ := hd.all;have gp := A5w e hr hf l hl;have h0 : ¬ (e.kind = 1 ∧ BD l e.name = none) := fun hh => hl hh.1 hh.2
 have key : ∀ {q}, Cn (run cfg) p e.enc d.enc (Vl e l).enc (R5 sg p mi st es L m er) = some q → (run cfg).r BQ [(.undef, .ptr p 0), (e.enc, .val), (d.enc, .val), ((Vl e l).enc, .val)] (R5 sg p mi st es L m er) = some q := fun hq => YV _ _ _ _ _ hq
 unfold DT;rw [if_neg h0];have e0 := Nq (run cfg) p e.enc d.enc (Vl e l).enc (R5 sg p mi st es L m er)
 by_cases s1 : d.types.length = M8 e l
 rotate_left
 ·refine ⟨es, key ?_, hs⟩
  have s1' : ¬ ((d.types.length : Int) = (M8 e l : Int)) := by omega
  rw [e0];simp [Ex.D8, Ex.ag, Nm.A1F, gp, s1, s1', Hl, O4]
 by_cases s2 : d.kids.length = e.kids.length
 rotate_left
 ·refine ⟨es, key ?_, hs⟩
  have s2' : ¬ ((d.kids.length : Int) = (e.kids.length : Int)) := by omega
  rw [e0];simp [Ex.D8, Ex.ag, Nm.A1F, gp, s1, s2, s2', Hl, O4]
 by_cases s3 : d.vars = [] ∨ Ay e = true
 rotate_left
 ·refine ⟨es, key ?_, hs⟩
  simp only [not_or, z27q] at s3;have s3' : (0 : Int) < (d.vars.length : Int) := by have := List.length_pos_iff.2 s3.1; omega
  rw [e0];simp [Ex.D8, Ex.ag, Nm.A1F, gp, s1, s2, s3.1, s3.2, s3', Hl, O4]
 have VC : Hl e d l = true := by
  unfold Hl;simp only [s1, s2, decide_true, z24q, Bool.or_eq_true, decide_eq_true_eq];exact s3
 have e1 : Cn (run cfg) p e.enc d.enc (Vl e l).enc (R5 sg p mi st es L m er) = Bw (run cfg) p e.enc d.enc (R5 sg p mi st es L m er) := by
  rw [e0];rcases s3 with s3 | s3
  ·simp [Ex.D8, Ex.ag, Nm.A1F, gp, s1, s2, s3, O4]
  ·by_cases hv : (0 : Int) < (d.vars.length : Int)
   ·simp [Ex.D8, Ex.ag, Nm.A1F, gp, s1, s2, s3, O4, hv]
   ·simp [Ex.D8, Ex.ag, Nm.A1F, gp, s1, s2, s3, O4, hv]
 have e2 : Bw (run cfg) p e.enc d.enc (R5 sg p mi st es L m er) = Ak (run cfg) p (F4 d.vars) (.int .i64 d.vars.length) (.int .i64 0) e.enc d.enc (R5 sg p mi st es L m er) := by
  rw [MO];simp
 have e3 := e1.trans (e2.trans (A58 h st L m er hs e d d1));rw [if_neg (by rw [VC]; simp)]
 by_cases ht : takes S d.vars = true
 rotate_left
 ·refine ⟨es, key ?_, hs⟩
  rw [e3, if_neg ht];simp only [z27q] at ht;rw [if_pos ht]
 rw [if_neg (by rw [ht]; simp)]
 rw [if_pos ht] at e3
 by_cases AZ : e.kind = 12
 rotate_left
 ·refine ⟨es, key ?_, hs⟩
  rw [e3, if_neg AZ, if_neg AZ, LG];have := A7Y h st L m er hs d.types d2 d4 d.types.length 0 (by omega)
  simp only [z16q, z13q, z11q, z5q] at this;simp [this]
 rw [if_pos AZ] at e3 ⊢;obtain ⟨es1, q1, c1⟩ := Dq h st L m er 1 (.inl rfl) d.vars d1 es _ hs (fun v => by split <;> omega)
 have Cj := A1X ht c1;obtain ⟨es2, q2, c2⟩ := Dq h st L m er (-1) (.inr rfl) d.vars d1 es1 _ Cj (fun v => by split <;> omega)
 have tL := YH ht c2;refine ⟨es2, key ?_, tL⟩;rw [e3, LF];have := A57 h st L m er Cj (Z5, [(.undef, .ptr p 0), (F4 d.vars, .val), (.int .i64 (-1), .val)]) d.types d2 d4 d.types.length 0 (by omega)
 simp only [z16q, z13q, z11q, z5q] at this;simp [q1, KS, this, q2]
end Go.Su

/-
 What the program's judging does: a cast, a kid, a kid that fits, a name.
-/
namespace Go.Su
def Py : Tm := .mk 0 0 0 K6 K6 0 K6 0 0 false [] F7 F7 [] [] []
theorem nD : DV.agg [.int .i64 0, .int .i64 0, .int .i64 0, .str ⟨#[]⟩, .str ⟨#[]⟩, .int .i64 0, .str ⟨#[]⟩, .int .i64 0, .int .i64 0, .bool false, .list 1 [], .int .i64 0, .int .i64 0, .list 3 [], .int .i64 0, .int .i64 0, .list 3 [], .list 3 [], .list 7 [], .list 20 []] = Py.enc := by rw [Tm.F9]; rfl
theorem YL : DV.agg [.int .i64 0, .int .i64 0, .list 3 [], .int .i64 0, .int .i64 0, .int .i64 0, .str ⟨#[]⟩, .str ⟨#[]⟩, .int .i64 0, .str ⟨#[]⟩, .int .i64 0, .int .i64 0, .bool false, .list 1 [], .int .i64 0, .int .i64 0, .list 3 [], .int .i64 0, .int .i64 0, .list 3 [], .list 3 [], .list 7 [], .list 20 []] = Z0 F7 Py := rfl
def L6 (sg : List D7) (p mi : Nat) (st : Bool) (S : List Int) (N : Nat) (q : Option (List DV × List D7)) (r : Except Int (DV × List Q9)) : Prop :=
 ∃ v es L m er, q = some ([v], R5 sg p mi st es L m er) ∧ C9 N v = true ∧ AP es S ∧ Roomy m ∧ (match r with
   | .ok w => er = 0 ∧ v = w.1 ∧ L = w.2
   | .error z => er = z ∧ z ≠ 0)
section
variable {sg : List D7} {p mi : Nat} {st : Bool} {S : List Int} {N : Nat}
theorem L6.ok {v : DV} {es : List (DV × DV)} {L : List Q9} {m : Meta} {q : Option (List DV × List D7)} (h : q = some ([v], R5 sg p mi st es L m 0)) (hn : C9 N v = true) (hs : AP es S) (hm : Roomy m) : L6 sg p mi st S N q (.ok (v, L)) :=
 ⟨v, es, L, m, 0, h, hn, hs, hm, rfl, rfl, rfl⟩
theorem L6.err {v : DV} {es : List (DV × DV)} {L : List Q9} {m : Meta} {z : Int} {q : Option (List DV × List D7)} (h : q = some ([v], R5 sg p mi st es L m z)) (hz : z ≠ 0) (hn : C9 N v = true) (hs : AP es S) (hm : Roomy m) : L6 sg p mi st S N q (.error z) :=
 ⟨v, es, L, m, z, h, hn, hs, hm, rfl, hz⟩
theorem L6.then {M : Nat} {S2 : List Int} {qa : Option (List DV × List D7)} {ra r : Except Int (DV × List Q9)} {k : List DV × List D7 → Option (List DV × List D7)} (h : L6 sg p mi st S N qa ra)
 (AU : ∀ v es L m, ra = .ok (v, L) → AP es S → Roomy m → L6 sg p mi st S2 M (k ([v], R5 sg p mi st es L m 0)) r)
 (B2B : ∀ z v es L m, ra = .error z → z ≠ 0 → C9 N v = true → AP es S → Roomy m → L6 sg p mi st S2 M (k ([v], R5 sg p mi st es L m z)) r) : L6 sg p mi st S2 M (ob qa k) r := by
 obtain ⟨v, es, L, m, er, h1, h2, h3, h4, h5⟩ := h;rw [h1];cases hr : ra with
 | ok w =>
   rw [hr] at h5;obtain ⟨rfl, rfl, rfl⟩ := h5;exact AU _ es _ m hr h3 h4
 | error z =>
   rw [hr] at h5;obtain ⟨rfl, hz⟩ := h5;exact B2B _ v es L m hr hz h2 h3 h4
theorem L6.map {q q' : Option (List DV × List D7)} {r : Except Int (DV × List Q9)} (h : L6 sg p mi st S N q r) (e : q' = q) : L6 sg p mi st S N q' r := e ▸ h
end
def jW (e : Ex) (d : A9) (L : List Q9) : JR → Except Int (DV × List Q9)
 | .ok T => .ok (Z0 T.ty (M4 e d T L).1, (M4 e d T L).2)
 | .error z => .error z
theorem Zp {e : Ex} {d : A9} {L L' : List Q9} {r : JR} {v : DV} (h : jW e d L r = .ok (v, L')) : ∃ T, r = .ok T ∧ v = Z0 T.ty (M4 e d T L).1 ∧ L' = (M4 e d T L).2 := by
 cases r with
 | error z => cases h
 | ok T => cases h; exact ⟨T, rfl, rfl, rfl⟩
theorem VE {e : Ex} {d : A9} {L : List Q9} {r : JR} {z : Int} (h : jW e d L r = .error z) : r = .error z := by
 cases r with
 | error z => cases h; rfl
 | ok T => cases h
def Am (e : Ex) (d : A9) (to : Ty) (T : JT) (L : List Q9) : Tm × List Q9 := FC (M4 e d T L).1 T.ty to e.lo e.hi (M4 e d T L).2
def jF (e : Ex) (d : A9) (L : List Q9) (to : Ty) : JR → Except Int (DV × List Q9)
 | .ok T => .ok ((Am e d to T L).1.enc, (Am e d to T L).2)
 | .error z => .error z
theorem NU {e : Ex} {d : A9} {L L' : List Q9} {to : Ty} {r : JR} {v : DV} (h : jF e d L to r = .ok (v, L')) : ∃ T, r = .ok T ∧ v = (Am e d to T L).1.enc ∧ L' = (Am e d to T L).2 := by
 cases r with
 | error z => cases h
 | ok T => cases h; exact ⟨T, rfl, rfl, rfl⟩
theorem JB {e : Ex} {d : A9} {L : List Q9} {to : Ty} {r : JR} {z : Int} (h : jF e d L to r = .error z) : r = .error z := by
 cases r with
 | error z => cases h; rfl
 | ok T => cases h
def fB (st : Bool) (e : Ex) : Prop := e.right = true → e.fit → ∀ (d : A9) (l : List Nm) (S : List Int), d.AO = true → d.DC → Aa l → l.length + 2 * e.J4 ≤ lim →
 ∀ (sg : List D7) (p mi : Nat), JP sg p mi → ∀ (es : List (DV × DV)) (L : List Q9) (m : Meta), AP es S → Roomy m → L.length + 2 * e.size ≤ 1048576 →
 L6 sg p mi st S 23 ((run cfg).r GR [(.undef, .ptr p 0), (e.enc, .val), (d.enc, .val), (H8 l, .val)] (R5 sg p mi st es L m 0)) (jW e d L (jt st e d l S))
section
variable {sg : List D7} {p mi : Nat} (h : JP sg p mi) (st : Bool)
include h
theorem tZ (es : List (DV × DV)) {L : List Q9} (hL : L.length ≤ 1048576) {m : Meta} (hm : Roomy m) (er : Int) (t : Ty) (x : Tm) (k : Ex) (w : Ty) :
 (run cfg).r GQ [(.undef, .ptr p 0), (Z0 t x, .val), (k.enc, .val), (w.enc, .val)] (R5 sg p mi st es L m er) = some ([(FC x t w k.lo k.hi L).1.enc], R5 sg p mi st es (FC x t w k.lo k.hi L).2 .own er) := by
 refine (Qh _ _ _ _ _).trans ?_;have Kh := l6 (e := Q9.enc) (sz := 8) (l := L) (x := ⟨k.lo, k.hi, t, w⟩) (by unfold lim; omega)
 have oG : R8 8 (V6 L) (.list 8 [.agg [.int .i64 k.lo, .int .i64 k.hi, .int .i64 t.kind, .int .i64 t.n, .list 3 (t.kids.map Ty.enc), .int .i64 w.kind, .int .i64 w.n, .list 3 (w.kids.map Ty.enc)]]) = some (V6 (L ++ [⟨k.lo, k.hi, t, w⟩])) := Kh;have hgt : ¬ ((1048576 : Int) < (L.length : Int)) := by omega
 rw [Sn];simp only [A6L, Ao, JA, O6, CR h, I1, B5G hm, B0G, Ct];simp [hgt, Pk, CR h, B63 hm, B5H, A8N h, oG, Tm.D8, Tm.ag, FC];rw [Tm.F9 (.mk 16 0 0 K6 K6 0 K6 0 L.length false [] t w [] [] [x])];rfl
theorem Hm (es : List (DV × DV)) (L : List Q9) (m : Meta) {er : Int} (he : er ≠ 0) (e : Ex) (d : A9) (i : Int) (l : DV) :
 (run cfg).r U7 [(.undef, .ptr p 0), (e.enc, .val), (d.enc, .val), (.int .i64 i, .val), (l, .val)] (R5 sg p mi st es L m er) = some ([Z0 F7 Py], R5 sg p mi st es L m er) := by
 refine (KU _ _ _ _ _ _).trans ?_;rw [Lc];simp [BI h, he, YL]
theorem wO (es : List (DV × DV)) (L : List Q9) (m : Meta) {er : Int} (he : er ≠ 0) (a b c v : DV) :
 DJ (run cfg) p a b c v (R5 sg p mi st es L m er) = some ([Py.enc], R5 sg p mi st es L m er) := by
 rw [IG];simp [BI h, he, nD]
theorem QM (es : List (DV × DV)) (L : List Q9) (m : Meta) {er : Int} (he : er ≠ 0) (e : Ex) (d : A9) (i : Int) (l : DV) (w : Ty) :
 (run cfg).r O0 [(.undef, .ptr p 0), (e.enc, .val), (d.enc, .val), (.int .i64 i, .val), (l, .val), (w.enc, .val)] (R5 sg p mi st es L m er) = some ([Py.enc], R5 sg p mi st es L m er) := by
 refine (JN _ _ _ _ _ _ _).trans ?_;rw [KT];have kb := fun i => Hm h st es L m he e d i l
 simp [Ex.D8, Ex.ag, A9.D8, A9.ag, kb, BI h, he, wO h]
end
structure JC (st : Bool) (e : Ex) (d : A9) (l : List Nm) : Prop where
 hr : e.right = true
 hf : e.fit
 dr : d.AO = true
 ds : d.DC
 nl : Aa l
 len : l.length + 2 * e.J4 ≤ lim
 kl : d.kids.length = e.kids.length
theorem JC.BZ {st : Bool} {e : Ex} {d : A9} {l : List Nm} (c : JC st e d l) {i : Nat} (hi : i < e.kids.length) : e.kid i ∈ e.kids := by rw [Z9 hi]; exact z0q hi
section
variable {sg : List D7} {p mi : Nat} (h : JP sg p mi) {st : Bool} {e : Ex} {d : A9} {l : List Nm} (c : JC st e d l) (ih : ∀ k ∈ e.kids, fB st k)
include h c ih
theorem EO {i : Nat} (hi : i < e.kids.length) {l' : List Nm} {S : List Int} (nl : Aa l') (xn : l'.length + 2 * (e.kid i).J4 ≤ lim) {es : List (DV × DV)} {L : List Q9} {m : Meta} (hs : AP es S) (hm : Roomy m) (hL : L.length + 2 * (e.kid i).size ≤ 1048576) :
 L6 sg p mi st S 23 ((run cfg).r U7 [(.undef, .ptr p 0), (e.enc, .val), (d.enc, .val), (.int .i64 (i : Int), .val), (H8 l', .val)] (R5 sg p mi st es L m 0)) (jW (e.kid i) (d.kid i) L (jk st e d i l' S)) := by
 have hk := c.BZ hi;have sp := ih _ hk (Ex.Q0 c.hr hk) (c.hf.kid hk) (d.kid i) l' S (A9.Dm c.dr i) (A9.El c.ds i) nl xn sg p mi h es L m hs hm hL;obtain ⟨v, es1, L1, m1, er1, h1, h2, h3, h4, h5⟩ := sp;refine ⟨v, es1, L1, m1, er1, ?_, h2, h3, h4, h5⟩;refine (KU _ _ _ _ _ _).trans ?_;have e1 : E8 16 (.list 16 (e.kids.map Ex.enc)) (.int .i64 (i : Int)) = some (e.kid i).enc := by rw [Z9 hi]; exact F3 hi
 have Vh : i < d.kids.length := by rw [c.kl]; exact hi
 have e2 : E8 3 (.list 3 (d.kids.map A9.enc)) (.int .i64 (i : Int)) = some (d.kid i).enc := by
  have : d.kid i = d.kids[i] := by simp only [A9.kid, z2q, z9q Vh, z31q]
  rw [this]; exact F3 Vh
 rw [Lc];obtain ⟨w, rfl⟩ : ∃ w, v = .agg w := by
  cases v with
  | agg w => exact ⟨w, rfl⟩
  | _ => cases h2
 have hw : w.length = 23 := by simpa [C9] using h2
 have mF := h1;simp [BI h, e1, e2, Ex.D8, Ex.ag, A9.D8, A9.ag, h1, h2]
 match w, hw with
 | [a0, a1, a2, a3, a4, a5, a6, a7, a8, a9, ai, VZ, a12, a13, a14, Yv, a16, a17, a18, a19, a20, a21, a22], _ => rfl
theorem AX {i : Nat} (hi : i < e.kids.length) {l' : List Nm} {S : List Int} (nl : Aa l') (xn : l'.length + 2 * (e.kid i).J4 ≤ lim) {es : List (DV × DV)} {L : List Q9} {m : Meta} (hs : AP es S) (hm : Roomy m) (hL : L.length + 2 * (e.kid i).size ≤ 1048576) {w : Ty} (hw : w.right = true) :
 L6 sg p mi st S 20 ((run cfg).r O0 [(.undef, .ptr p 0), (e.enc, .val), (d.enc, .val), (.int .i64 (i : Int), .val), (H8 l', .val), (w.enc, .val)] (R5 sg p mi st es L m 0)) (jF (e.kid i) (d.kid i) L w (N8 w (jk st e d i l' S))) := by
 have hk := c.BZ hi;have fx := JN p e.enc d.enc (.int .i64 (i : Int)) (H8 l') w.enc (R5 sg p mi st es L m 0);refine L6.map ?_ fx;rw [KT];have e1 : E8 16 (.list 16 (e.kids.map Ex.enc)) (.int .i64 (i : Int)) = some (e.kid i).enc := by rw [Z9 hi]; exact F3 hi
 simp only [Ao, Hg, JA, O6, exx, Ex.D8, Ex.ag, A9.Y3, A9.Ar, A9.AV, A9.D8, A9.ag];refine L6.then (EO h c ih hi nl xn hs hm hL) (fun v es L1 m hr hs hm => ?_) (fun z v es L1 m hr hz hn hs hm => ?_)
 ·obtain ⟨T, hT, rfl, rfl⟩ := Zp hr
  have H_ : T.ty.right = true := JU st _ (Ex.Q0 c.hr hk) _ _ _ T (A9.Dm c.dr i) (A9.El c.ds i) nl hT;have LM := A4j T.ty w (Ty.U8 H_) (Ty.U8 hw);rw [H_, hw, z24q, z24q] at LM
  by_cases ha : T.ty.agrees w = true
  ·have Z4 := OC (e.kid i) (d.kid i) T L
   have hc := tZ h st es (L := (M4 (e.kid i) (d.kid i) T L).2) (by omega) hm 0 T.ty (M4 (e.kid i) (d.kid i) T L).1 (e.kid i) w
   have : jF (e.kid i) (d.kid i) L w (N8 w (jk st e d i l' S)) = .ok ((Am (e.kid i) (d.kid i) w T L).1.enc, (Am (e.kid i) (d.kid i) w T L).2) := by
    rw [hT];simp [N8, Except.bind, ha, jF]
   rw [this];refine L6.ok (es := es) (m := .own) ?_ (by simp) hs (.inr rfl)
   simp [BI h, A89, Ty.D8, Ty.ag, LM, ha, IG, e1, hc, Ex.D8, Ex.ag, Tm.D8, Tm.ag, Am]
  ·have : jF (e.kid i) (d.kid i) L w (N8 w (jk st e d i l' S)) = .error 4 := by
    rw [hT];simp [N8, Except.bind, ha, jF]
   rw [this];simp only [z27q] at ha;have sf := Gr h st es (M4 (e.kid i) (d.kid i) T L).2 m 0 4;refine L6.err (v := Py.enc) (es := es) (L := (M4 (e.kid i) (d.kid i) T L).2) (m := m) ?_ (by omega) (by simp) hs hm
   simp [BI h, A89, Ty.D8, Ty.ag, LM, ha, sf, wO h]
 ·have Hf := VE hr
  have : jF (e.kid i) (d.kid i) L w (N8 w (jk st e d i l' S)) = .error z := by
   rw [Hf];simp [N8, Except.bind, jF]
  rw [this];refine L6.err (v := Py.enc) (es := es) (L := L1) (m := m) ?_ hz (by simp) hs hm
  simp [hn, BI h, hz, wO h]
end
end Go.Su

/-
 What the program's judging does: names, applications, let, rec, the rest.
-/
namespace Go.Su
def eK (e : Ex) (d : A9) (T : JT) (i : Nat) (L : List Q9) : Tm × List Q9 := FE e d T i (M4 (e.kid i)) L
theorem Nj {e : Ex} {d : A9} {T : JT} {i : Nat} {L : List Q9} (hw : ((K5 e d T).getD i F7).kind = 0) : eK e d T i L = M4 (e.kid i) (d.kid i) (T.kid i) L := by
 unfold eK FE;simp only [hw, if_true]
theorem Ee {e : Ex} {d : A9} {T : JT} {i : Nat} {L : List Q9} {w : Ty} (hw : (K5 e d T).getD i F7 = w) (h0 : w.kind ≠ 0) : eK e d T i L = Am (e.kid i) (d.kid i) w (T.kid i) L := by
 unfold eK FE Am;simp only [hw, h0, if_false]
theorem B3w {e : Ex} (h : e.kids.length = 1) : e.kids = [e.kid 0] := by
 match hk : e.kids, h with
 | [a], _ => simp [Ex.kid, hk]
theorem A3f {e : Ex} (h : e.kids.length = 2) : e.kids = [e.kid 0, e.kid 1] := by
 match hk : e.kids, h with
 | [a, b], _ => simp [Ex.kid, hk]
theorem B3x {e : Ex} (h : e.kids.length = 3) : e.kids = [e.kid 0, e.kid 1, e.kid 2] := by
 match hk : e.kids, h with
 | [a, b, c], _ => simp [Ex.kid, hk]
theorem WP {e : Ex} (h : e.kids.length = 0) (d : A9) (T : JT) (L : List Q9) : M4 e d T L = (V3 e d T [], L) := by
 rw [OA, z7q h];rfl
theorem A6k {e : Ex} (h : e.kids.length = 1) (d : A9) (T : JT) (L : List Q9) : M4 e d T L = (V3 e d T [(eK e d T 0 L).1], (eK e d T 0 L).2) := by
 rw [OA, B3w h];rfl
theorem OB {e : Ex} (h : e.kids.length = 2) (d : A9) (T : JT) (L : List Q9) : M4 e d T L = (V3 e d T [(eK e d T 0 L).1, (eK e d T 1 (eK e d T 0 L).2).1], (eK e d T 1 (eK e d T 0 L).2).2) := by
 rw [OA, A3f h];rfl
theorem B2g {e : Ex} (h : e.kids.length = 3) (d : A9) (T : JT) (L : List Q9) : M4 e d T L = (V3 e d T [(eK e d T 0 L).1, (eK e d T 1 (eK e d T 0 L).2).1, (eK e d T 2 (eK e d T 1 (eK e d T 0 L).2).2).1], (eK e d T 2 (eK e d T 1 (eK e d T 0 L).2).2).2) := by
 rw [OA, B3x h];rfl
theorem eG {e : Ex} (h : e.kids.length = 2) : e.size = 1 + (e.kid 0).size + (e.kid 1).size := by
 rw [Ex.size_eq, A3f h];simp;omega
theorem B1H {e : Ex} (h : e.kids.length = 1) : e.size = 1 + (e.kid 0).size := by
 rw [Ex.size_eq, B3w h];simp
theorem B6p {e : Ex} (h : e.kids.length = 3) : e.size = 1 + (e.kid 0).size + (e.kid 1).size + (e.kid 2).size := by
 rw [Ex.size_eq, B3x h];simp;omega
theorem EJ {st : Bool} {e : Ex} {d : A9} {l : List Nm} {S : List Int} (ho : DT st e d l S = 0) : jt st e d l S = CF e (fun i l S => ((e.kids.map (jt st)).getD i fun _ _ _ => .error 4) (d.kid i) l S) d l S := B39 ho
@[simp] theorem A38 (a : Ty) (x : JT) (xs : List JT) : (JT.mk a (x :: xs)).kid 0 = x := rfl
@[simp] theorem A8O (a : Ty) (x y : JT) (xs : List JT) : (JT.mk a (x :: y :: xs)).kid 1 = y := rfl
@[simp] theorem B38 (a : Ty) (x y z : JT) (xs : List JT) : (JT.mk a (x :: y :: z :: xs)).kid 2 = z := rfl
theorem Ty.k0 {t : Ty} (h : t.right = true) : t.kind ≠ 0 := by have := Ty.A3A h; omega
theorem Im (e : Ex) (d : A9) (w : Ty) (T : JT) (L : List Q9) : (Am e d w T L).2.length ≤ L.length + 2 * e.size := by
 have := OC e d T L;simp only [Am, FC, z39q, z46q, List.length_nil];omega
theorem nY (e : Ex) (d : A9) (T : JT) (L : List Q9) : (M4 e d T L).2.length ≤ L.length + 2 * e.size := by have := OC e d T L; omega
theorem JD (e : Ex) (d : A9) (L : List Q9) (T : JT) : jW e d L (.ok T) = .ok (Z0 T.ty (M4 e d T L).1, (M4 e d T L).2) := rfl
theorem R6 {α β : Type} (z : Int) (f : α → Except Int β) : (Except.error z : Except Int α).bind f = .error z := rfl
theorem P5 {α β : Type} (a : α) (f : α → Except Int β) : (Except.ok a : Except Int α).bind f = f a := rfl
@[simp] theorem B5c : F4 [] = .list 1 [] := rfl
theorem Ty.B0O {t : Ty} (h : t.right = true) (hk : t.kind = 5) : t = CL := by
 obtain ⟨h1, h2, h3, h4, h5⟩ := Ty.X6.1 h;cases t with
 | mk k n ks =>
   simp only [Ty.Km] at hk;subst hk;simp [arity] at h1 h4;have : ks = [] := z7q (by omega)
   simp [CL, this, h4]
section
variable {sg : List D7} {p mi : Nat} (h : JP sg p mi) {st : Bool} {e : Ex} {d : A9} {l : List Nm} (c : JC st e d l) (ih : ∀ k ∈ e.kids, fB st k) {S : List Int} (ho : DT st e d l S = 0)
 {es : List (DV × DV)} {L : List Q9} {m : Meta} (hs : AP es S) (hm : Roomy m) (hL : L.length + 2 * e.size ≤ 1048576)
include h c ih ho hs hm hL
theorem A7p (hk : e.kind = 10) : L6 sg p mi st S 23 ((run cfg).r Mq [(.undef, .ptr p 0), (e.enc, .val), (d.enc, .val), (H8 l, .val)] (R5 sg p mi st es L m 0)) (jW e d L (jt st e d l S)) := by
 have own := Ex.S9 c.hr;have hn : e.kids.length = 2 := by have := own.kids; simp [K3, hk] at this; omega
 have h0 : 0 < e.kids.length := by omega
 have h1 : 1 < e.kids.length := by omega
 have m0 := Ex.O5 (c.BZ h0);have m1 := Ex.O5 (c.BZ h1);have Y9 := eG hn;have Z4 := c.len;have hj : jt st e d l S = (jk st e d 0 l S).bind fun a => (jk st e d 1 l S).bind fun b =>
  if a.ty.kind = 5 then if b.ty.agrees CL = true then .ok (.mk CL [a, b]) else .error 4
  else if a.ty.kind = 9 then if b.ty.agrees (a.ty.kids.getD 0 F7) = true then .ok (.mk (a.ty.kids.getD 1 F7) [a, b]) else .error 4
  else .error 4 := by
  rw [EJ ho, gu hk, U5 h0];simp only [U5 h1]
 have e1 : E8 16 (.list 16 (e.kids.map Ex.enc)) (.int .i64 0) = some (e.kid 0).enc := by rw [Z9 h0]; exact F3 (e := Ex.enc) (sz := 16) (k := .i64) (i := 0) h0
 refine L6.map ?_ (Sy p e.enc d.enc (H8 l) _);rw [UD];simp only [Ao, Hg, O6, exx, Ex.D8, Ex.ag, A9.Y3, A9.Ar, A9.AV, A9.D8, A9.ag];refine L6.then (EO h c ih h0 c.nl (by omega) hs hm (by omega)) (fun v es L1 m hr hs hm => ?_) (fun z v es L1 m hr hz hn hs hm => ?_)
 rotate_left
 ·rw [hj, VE hr, R6]
  simp only [z35q, hn, O6, BI h, I1];simp [hz, YL];exact L6.err rfl hz rfl hs hm
 obtain ⟨T, hT, rfl, rfl⟩ := Zp hr;have H_ : T.ty.right = true := JU st _ (Ex.Q0 c.hr (c.BZ h0)) _ _ _ T (A9.Dm c.dr 0) (A9.El c.ds 0) c.nl hT;have Vj := nY (e.kid 0) (d.kid 0) T L;rw [hj, hT, P5];simp only [z35q, A6L, O6, BI h, I1, B52, B53, B54, B55, B56, B57, B58, B59, B6a, B6b, B4l, B4m, B4n, B4o, B4p, B4q, B4r, B4s, B4t, B4u, B4v, B4w, B4x, A89]
 by_cases k5 : T.ty.kind = 5
 ·have hdy := Ty.B0O H_ k5
  have B6R := tZ h st es (L := (M4 (e.kid 0) (d.kid 0) T L).2) (by have := OC (e.kid 0) (d.kid 0) T L; omega) hm 0 T.ty (M4 (e.kid 0) (d.kid 0) T L).1 (e.kid 0) (V4 CL CL)
  have A1H := eH CL CL;have JZ : DV.agg [.int .i64 5, .int .i64 0, .list 3 []] = CL.enc := by rw [Ty.F9]; rfl
  simp only [if_pos k5];simp [k5, e1, JZ, A1H, B6R, Ex.D8, Ex.ag, Tm.D8, Tm.ag, Ty.D8, Ty.ag];have xq : (FC (M4 (e.kid 0) (d.kid 0) T L).1 T.ty (V4 CL CL) (e.kid 0).lo (e.kid 0).hi (M4 (e.kid 0) (d.kid 0) T L).2).2.length ≤ L.length + 2 * (e.kid 0).size := Im (e.kid 0) (d.kid 0) (V4 CL CL) T L;refine L6.then (AX h c ih h1 c.nl (by omega) hs (.inr rfl) (by omega) A49) (fun v es L2 m hr hs hm => ?_) (fun z v es L2 m hr hz hn hs hm => ?_)
  rotate_left
  ·have Hf := JB hr
   have : ((jk st e d 1 l S).bind fun b => if b.ty.agrees CL = true then (.ok (.mk CL [T, b]) : JR) else .error 4) = .error z := by
    cases hx : jk st e d 1 l S with
    | error y => rw [hx] at Hf; exact Hf
    | ok b => rw [hx] at Hf; simp only [N8, P5] at Hf ⊢; split at Hf <;> rename_i LM
              ·cases Hf
              ·simp only [LM, if_false]; exact Hf
   rw [this];simp [hn];exact L6.err rfl hz rfl hs hm
  obtain ⟨T1, hT1, rfl, rfl⟩ := NU hr;obtain ⟨hT1, LM⟩ := Ej hT1;rw [hT1, P5, if_pos LM];have OL : (K5 e d (.mk CL [T, T1])).getD 0 F7 = V4 CL CL := by simp [K5, hk, hdy, show CL.kind = 5 from rfl]
  have Xx : (K5 e d (.mk CL [T, T1])).getD 1 F7 = CL := by simp [K5, hk, hdy, show CL.kind = 5 from rfl]
  have hd0 : (V4 CL CL).kind ≠ 0 := by simp [V4]
  have hd1 : CL.kind ≠ 0 := by simp [CL]
  rw [JD, OB hn, Ee OL hd0, Ee Xx hd1];simp [Tm.D8, Tm.ag];refine L6.ok ?_ rfl hs hm;simp [Z0, V3, hk, Am, CL, K6, F7]
 simp only [if_neg k5]
 by_cases k9 : T.ty.kind = 9
 ·have DR : T.ty.kids.length = 2 := by
   have := (Ty.X6.1 H_).1;simp [arity, k9] at this;omega
  have dL : 0 < T.ty.kids.length := by omega
  have hk1 : 1 < T.ty.kids.length := by omega
  have g0 : T.ty.kids.getD 0 F7 = T.ty.kids[0] := by rw [z2q, z9q dL]; rfl
  have g1 : T.ty.kids.getD 1 F7 = T.ty.kids[1] := by rw [z2q, z9q hk1]; rfl
  have i0 : E8 3 (.list 3 (T.ty.kids.map Ty.enc)) (.int .i64 0) = some (T.ty.kids.getD 0 F7).enc := by rw [g0]; exact F3 (e := Ty.enc) (sz := 3) (k := .i64) (i := 0) dL
  have i1 : E8 3 (.list 3 (T.ty.kids.map Ty.enc)) (.int .i64 1) = some (T.ty.kids.getD 1 F7).enc := by rw [g1]; exact F3 (e := Ty.enc) (sz := 3) (k := .i64) (i := 1) hk1
  have r0 : (T.ty.kids.getD 0 F7).right = true := by rw [g0]; exact (Ty.X6.1 H_).2.2.2.2 _ (z0q dL)
  simp only [if_pos k9];generalize hA : T.ty.kids.getD 0 F7 = A at i0 r0 ⊢;generalize hB : T.ty.kids.getD 1 F7 = B at i1 ⊢;simp [k9, i0, i1, Ty.D8, Ty.ag];refine L6.then (AX h c ih h1 c.nl (by omega) hs hm (by omega) r0) (fun v es L2 m hr hs hm => ?_) (fun z v es L2 m hr hz hn hs hm => ?_)
  rotate_left
  ·have Hf := JB hr
   have : ((jk st e d 1 l S).bind fun b => if b.ty.agrees A = true then (.ok (.mk B [T, b]) : JR) else .error 4) = .error z := by
    cases hx : jk st e d 1 l S with
    | error y => rw [hx] at Hf; exact Hf
    | ok b => rw [hx] at Hf; simp only [N8, P5] at Hf ⊢; split at Hf <;> rename_i LM
              ·cases Hf
              ·simp only [LM, if_false]; exact Hf
   rw [this];simp [hn];exact L6.err rfl hz rfl hs hm
  obtain ⟨T1, hT1, rfl, rfl⟩ := NU hr;obtain ⟨hT1, LM⟩ := Ej hT1;rw [hT1, P5, if_pos LM];have OL : ((K5 e d (.mk B [T, T1])).getD 0 F7).kind = 0 := by simp [K5, hk, k9]; rfl
  have Xx : (K5 e d (.mk B [T, T1])).getD 1 F7 = A := by rw [← hA]; simp [K5, hk, k9]
  rw [JD, OB hn, Nj OL, Ee Xx (Ty.k0 r0)];simp [Tm.D8, Tm.ag];refine L6.ok ?_ rfl hs hm;simp [Z0, V3, hk, K6, F7]
 ·simp only [if_neg k9]
  simp [k5, k9];refine L6.then (EO h c ih h1 c.nl (by omega) hs hm (by omega)) (fun v es L2 m hr hs hm => ?_) (fun z v es L2 m hr hz hn hs hm => ?_)
  rotate_left
  ·rw [VE hr, R6]
   have sf := Gr h st es L2 m z 4;rw [if_neg hz] at sf;simp [sf, YL];exact L6.err rfl hz rfl hs hm
  ·obtain ⟨T1, hT1, rfl, rfl⟩ := Zp hr
   rw [hT1, P5];have sf := Gr h st es (M4 (e.kid 1) (d.kid 1) T1 (M4 (e.kid 0) (d.kid 0) T L).2).2 m 0 4;rw [if_pos rfl] at sf;simp [sf, YL];exact L6.err rfl (by omega) rfl hs hm
omit hs hm hL in
theorem B5J (hk : e.kind = 11) {a : JT} {x : Tm} (ha : Aa (l ++ [⟨e.name, J6 e.a a.ty, d.vars⟩])) {L1 : List Q9} {L0 : List Q9}
 (Vj : L1.length ≤ L0.length + 2 * (e.kid 0).size) (hL0 : L0.length + 2 * e.size ≤ 1048576)
 (hx : ∀ b, M4 e d (.mk b.ty [a, b]) L0 = (.mk 11 0 0 e.name K6 0 K6 0 0 false d.vars F7 F7 [] [] [x, (M4 (e.kid 1) (d.kid 1) b L1).1], (M4 (e.kid 1) (d.kid 1) b L1).2)) {es : List (DV × DV)} {m : Meta} (hs : AP es S) (hm : Roomy m) (z0 z1 z2 z3 z4 z5 z6 z7 z8 z9 z10 z11 z12 z13 z14 z15 YK z17 z18 z19 z20 z21 z22 : DV) :
 L6 sg p mi st S 23 (FY (run cfg) p (H8 l) e.enc d.enc z0 z1 z2 z3 z4 z5 z6 z7 z8 z9 z10 z11 z12 z13 z14 z15 YK z17 z18 z19 z20 z21 z22 (.str e.name) (.int .i64 (J6 e.a a.ty).kind) (.int .i64 (J6 e.a a.ty).n) (.list 3 ((J6 e.a a.ty).kids.map Ty.enc)) (F4 d.vars) (.int .i64 x.kind) (.int .i64 x.lo) (.int .i64 x.hi) (.str x.name) (.str x.arg) (.int .i64 x.n) (.str x.s) (.int .i64 x.op) (.int .i64 x.label) (.bool x.neg) (F4 x.vars) (.int .i64 x.a.kind) (.int .i64 x.a.n) (.list 3 (x.a.kids.map Ty.enc)) (.int .i64 x.b.kind) (.int .i64 x.b.n) (.list 3 (x.b.kids.map Ty.enc)) (.list 3 (x.args.map Ty.enc)) (.list 7 (x.F6.map D5.enc)) (.list 20 (x.kids.map Tm.enc)) (R5 sg p mi st es L1 m 0))
  (jW e d L0 ((jk st e d 1 (l ++ [⟨e.name, J6 e.a a.ty, d.vars⟩]) S).bind fun b => .ok (.mk b.ty [a, b]))) := by
 have _ := ho;have own := Ex.S9 c.hr;have hn : e.kids.length = 2 := by have := own.kids; simp [K3, hk] at this; omega
 have h1 : 1 < e.kids.length := by omega
 have m1 := Ex.O5 (c.BZ h1);have Y9 := eG hn;have Z4 := c.len;have hwi := LA l [⟨e.name, J6 e.a a.ty, d.vars⟩] (R5 sg p mi st es L1 m 0) (by simp; omega)
 have xu : DV.agg [.str e.name, .int .i64 (J6 e.a a.ty).kind, .int .i64 (J6 e.a a.ty).n, .list 3 ((J6 e.a a.ty).kids.map Ty.enc), F4 d.vars] = (Nm.mk e.name (J6 e.a a.ty) d.vars).enc := rfl;rw [FD];simp only [z10q, z14q] at hwi;rw [xu];simp [hwi, Ex.D8, Ex.ag, A9.D8, A9.ag];refine L6.then (EO h c ih h1 ha (by simp; omega) hs hm (by omega)) (fun v es L2 m hr hs hm => ?_) (fun z v es L2 m hr hz hn hs hm => ?_)
 rotate_left
 ·rw [VE hr, R6]
  simp [hn];exact L6.err rfl hz rfl hs hm
 obtain ⟨b, hb, rfl, rfl⟩ := Zp hr;rw [hb, P5];rw [JD, hx b];simp [Tm.D8, Tm.ag];refine L6.ok ?_ rfl hs hm;simp [Z0, K6, F7]
theorem A7q (hk : e.kind = 11) : L6 sg p mi st S 23 ((run cfg).r Mr [(.undef, .ptr p 0), (e.enc, .val), (d.enc, .val), (H8 l, .val)] (R5 sg p mi st es L m 0)) (jW e d L (jt st e d l S)) := by
 have own := Ex.S9 c.hr;have hn : e.kids.length = 2 := by have := own.kids; simp [K3, hk] at this; omega
 have h0 : 0 < e.kids.length := by omega
 have h1 : 1 < e.kids.length := by omega
 have m0 := Ex.O5 (c.BZ h0);have m1 := Ex.O5 (c.BZ h1);have Y9 := eG hn;have Z4 := c.len;obtain ⟨o1, o2, o3, o4⟩ := CG ho;have hj : jt st e d l S = (if e.a.kind = 0 then jk st e d 0 l (d.vars ++ S) else N8 e.a (jk st e d 0 l S)).bind fun a =>
  (jk st e d 1 (l ++ [⟨e.name, J6 e.a a.ty, d.vars⟩]) S).bind fun b => .ok (.mk b.ty [a, b]) := by
  rw [EJ ho, g_ hk, U5 h0, U5 h0];simp only [U5 h1]
 refine L6.map ?_ (Sz p e.enc d.enc (H8 l) _);rw [UE, hj];have A6R : ∀ a : JT, a.ty.right = true → Aa (l ++ [⟨e.name, J6 e.a a.ty, d.vars⟩]) := fun a ha => c.nl.app fun x hx => by
  simp only [z23q] at hx;subst hx;exact ⟨Dx own.a fun _ => ha, by have := c.ds.vars; simpa using this, fun v hv => (A9.EM.1 c.dr).2.1 v hv⟩
 by_cases ha : e.a.kind = 0
 ·obtain ⟨es1, q1, c1⟩ := Dq h st L m 0 1 (.inl rfl) d.vars c.ds.vars es _ hs (fun v => by split <;> omega)
  have Cj := A1X o4 c1;rw [if_pos ha];simp [Ex.D8, Ex.ag, A9.D8, A9.ag];simp [ha, q1];refine L6.then (EO (L := L) h c ih h0 c.nl (by omega) Cj hm (by omega)) (fun v es L1 m hr hs hm => ?_) (fun z v es L1 m hr hz hn hs hm => ?_)
  ·obtain ⟨a, hA, rfl, rfl⟩ := Zp hr
   have H_ : a.ty.right = true := JU st _ (Ex.Q0 c.hr (c.BZ h0)) _ _ _ a (A9.Dm c.dr 0) (A9.El c.ds 0) c.nl hA;obtain ⟨es2, q2, c2⟩ := Dq h st (M4 (e.kid 0) (d.kid 0) a L).2 m 0 (-1) (.inr rfl) d.vars c.ds.vars es _ hs (fun v => by split <;> omega)
   have tL := YH o4 c2;rw [hA, P5];have hg : J6 e.a a.ty = a.ty := by simp [J6, ha]
   have := B5J h c ih ho hk (a := a) (x := (M4 (e.kid 0) (d.kid 0) a L).1) (L1 := (M4 (e.kid 0) (d.kid 0) a L).2) (A6R a H_) (nY _ _ _ _) hL (fun b => by
    have OL : ((K5 e d (.mk b.ty [a, b])).getD 0 F7).kind = 0 := by simp [K5, hk, ha]
    have Xx : ((K5 e d (.mk b.ty [a, b])).getD 1 F7).kind = 0 := by simp [K5, hk]; rfl
    rw [OB hn, Nj OL, Nj Xx];simp [V3, hk]) tL hm (.int .i64 0) (.int .i64 0) (.list 3 []) (.int .i64 0) (.int .i64 0) (.int .i64 0) (.str ⟨#[]⟩) (.str ⟨#[]⟩) (.int .i64 0) (.str ⟨#[]⟩) (.int .i64 0) (.int .i64 0) (.bool false) (.list 1 []) (.int .i64 0) (.int .i64 0) (.list 3 []) (.int .i64 0) (.int .i64 0) (.list 3 []) (.list 3 []) (.list 7 []) (.list 20 [])
   simp [q2];rw [hg] at this ⊢;exact this
  ·obtain ⟨es2, q2, c2⟩ := Dq h st L1 m z (-1) (.inr rfl) d.vars c.ds.vars es _ hs (fun v => by split <;> omega)
   have tL := YH o4 c2;rw [VE hr, R6];have wx : ∀ ds : List DV, ∃ x, (run cfg).r CV [(H8 l, .val), (.list 5 [.agg ds], .val)] (R5 sg p mi st es2 L1 m z) = some ([x], R5 sg p mi st es2 L1 m z) := fun ds => ⟨_, Rm (l.map Nm.enc) [.agg ds] _ (by simp; omega)⟩
   simp [hn, q2, FD];obtain ⟨x, hx⟩ := wx [.str e.name, A7 0 v, A7 1 v, A7 2 v, F4 d.vars];simp [hx, Ex.D8, Ex.ag, A9.D8, A9.ag, Hm h st es2 L1 m hz];exact L6.err rfl hz rfl tL hm
 ·have hdv : d.vars = [] := by
   rcases o3 with o3 | o3
   ·exact o3
   ·simp [Ay, hk, ha] at o3
  have har : e.a.right = true := by
   rcases own.a with h' | h'
   ·exact absurd (Ty.Dn h') ha
   ·exact h'
  rw [if_neg ha];have LM : ∀ t : Ty, J6 e.a t = e.a := fun t => by simp [J6, ha]
  simp [Ex.D8, Ex.ag, A9.D8, A9.ag];simp [ha, Ty.D8, Ty.ag];refine L6.then (AX (L := L) h c ih h0 c.nl (by omega) hs hm (by omega) har) (fun v es L1 m hr hs hm => ?_) (fun z v es L1 m hr hz hn hs hm => ?_)
  ·obtain ⟨a, hA, rfl, rfl⟩ := NU hr
   have H_ : a.ty.right = true := JU st _ (Ex.Q0 c.hr (c.BZ h0)) _ _ _ a (A9.Dm c.dr 0) (A9.El c.ds 0) c.nl (Ej hA).1;rw [hA, P5];have := B5J h c ih ho hk (a := a) (x := (Am (e.kid 0) (d.kid 0) e.a a L).1) (L1 := (Am (e.kid 0) (d.kid 0) e.a a L).2) (A6R a H_) (Im _ _ _ _ _) hL (fun b => by
    have OL : (K5 e d (.mk b.ty [a, b])).getD 0 F7 = e.a := by simp [K5, hk]
    have Xx : ((K5 e d (.mk b.ty [a, b])).getD 1 F7).kind = 0 := by simp [K5, hk]; rfl
    rw [OB hn, Ee OL ha, Nj Xx];simp [V3, hk]) hs hm (.int .i64 0) (.int .i64 0) (.list 3 []) (.int .i64 0) (.int .i64 0) (.int .i64 0) (.str ⟨#[]⟩) (.str ⟨#[]⟩) (.int .i64 0) (.str ⟨#[]⟩) (.int .i64 0) (.int .i64 0) (.bool false) (.list 1 []) (.int .i64 0) (.int .i64 0) (.list 3 []) (.int .i64 0) (.int .i64 0) (.list 3 []) (.list 3 []) (.list 7 []) (.list 20 [])
   rw [LM, hdv] at this ⊢;simp;exact this
  ·rw [JB hr, R6]
   have wx : ∀ ds : List DV, ∃ x, (run cfg).r CV [(H8 l, .val), (.list 5 [.agg ds], .val)] (R5 sg p mi st es L1 m z) = some ([x], R5 sg p mi st es L1 m z) := fun ds => ⟨_, Rm (l.map Nm.enc) [.agg ds] _ (by simp; omega)⟩
   simp [hn, FD];obtain ⟨x, hx⟩ := wx [.str e.name, .int .i64 e.a.kind, .int .i64 e.a.n, .list 3 (e.a.kids.map Ty.enc), .list 1 []];simp [hx, Ex.D8, Ex.ag, A9.D8, A9.ag, Hm h st es L1 m hz];exact L6.err rfl hz rfl hs hm
end
end Go.Su

/-
 What the program's judging does: rec, conditions, operations, names.
-/
namespace Go.Su
theorem A6e (ts : List Ty) (h : 0 < ts.length) : Ca 3 (.list 3 (ts.map Ty.enc)) (some (.int .i64 1)) none = some (.list 3 ((ts.drop 1).map Ty.enc)) := by
 cases ts with
 | nil => simp at h
 | cons x l =>
   simp [Ca, bnd];rw [z17q (by simp)]
section
variable {sg : List D7} {p mi : Nat} (h : JP sg p mi) {st : Bool} {e : Ex} {d : A9} {l : List Nm} (c : JC st e d l) (ih : ∀ k ∈ e.kids, fB st k) {S : List Int} (ho : DT st e d l S = 0)
 {es : List (DV × DV)} {L : List Q9} {m : Meta} (hs : AP es S) (hm : Roomy m) (hL : L.length + 2 * e.size ≤ 1048576)
include h c ih ho hs hm hL
theorem A7r (hk : e.kind = 12) : L6 sg p mi st S 23 ((run cfg).r Ms [(.undef, .ptr p 0), (e.enc, .val), (d.enc, .val), (H8 l, .val)] (R5 sg p mi st es L m 0)) (jW e d L (jt st e d l S)) := by
 have own := Ex.S9 c.hr;have hn : e.kids.length = 2 := by have := own.kids; simp [K3, hk] at this; omega
 have h0 : 0 < e.kids.length := by omega
 have h1 : 1 < e.kids.length := by omega
 have m0 := Ex.O5 (c.BZ h0);have m1 := Ex.O5 (c.BZ h1);have Y9 := eG hn;have Z4 := c.len;have km := Ex.EK (e.kid 0);have km1 := Ex.EK (e.kid 1);have hms : (e.kid 0).J4 + (e.kid 1).J4 < e.J4 := by
  rw [Ex.U9 e, A3f hn];simp;omega
 obtain ⟨o1, o2, o3, o4⟩ := CG ho;have hP := Zw own hk c.dr o1;have hR := VK own hk c.dr o1;have hF := Pd hP hR;have hj : jt st e d l S = (N8 (Q4 e d) (jk st e d 0 (l ++ [⟨e.name, V4 (U6 e d) (Q4 e d), []⟩, ⟨e.arg, U6 e d, []⟩]) (d.vars ++ S))).bind fun a =>
  (jk st e d 1 (l ++ [⟨e.name, V4 (U6 e d) (Q4 e d), d.vars⟩]) S).bind fun b => .ok (.mk b.ty [a, b]) := by
  rw [EJ ho, iA hk, U5 h0];simp only [U5 h1]
 have nm1 : Aa (l ++ [⟨e.name, V4 (U6 e d) (Q4 e d), []⟩, ⟨e.arg, U6 e d, []⟩]) := c.nl.app fun x hx => by
  simp only [z59q, z63q, or_false] at hx;rcases hx with rfl | rfl
  ·exact ⟨hF, by simp, by simp⟩
  ·exact ⟨hP, by simp, by simp⟩
 have nm2 : Aa (l ++ [⟨e.name, V4 (U6 e d) (Q4 e d), d.vars⟩]) := c.nl.app fun x hx => by
  simp only [z23q] at hx;subst hx;exact ⟨hF, c.ds.vars, (A9.EM.1 c.dr).2.1⟩
 have OQ := VT e.a d.types fun h0 => by rw [o1]; simp [M8, hk, h0]; omega
 have hPe : J6 e.a (d.types.getD 0 F7) = U6 e d := rfl;rw [hPe] at OQ;obtain ⟨yl, A9J, hR2⟩ : ∃ ts : List Ty, (if e.a.kind = 0 then Ca 3 (.list 3 (d.types.map Ty.enc)) (some (.int .i64 1)) none else some (.list 3 (d.types.map Ty.enc))) = some (.list 3 (ts.map Ty.enc)) ∧ (run cfg).p MW [e.b.enc, .list 3 (ts.map Ty.enc)] = some (Q4 e d).enc := by
  by_cases ha : e.a.kind = 0
  ·have h1 : 0 < d.types.length := by rw [o1]; simp [M8, hk, ha]; omega
   refine ⟨d.types.drop 1, by rw [if_pos ha]; exact A6e _ h1, ?_⟩
   have := VT e.b (d.types.drop 1) fun h0 => by rw [List.length_drop, o1]; simp [M8, hk, ha, h0]
   rw [this];have : J6 e.b ((d.types.drop 1).getD 0 F7) = Q4 e d := by
    unfold Q4;rw [if_pos ha];simp [A9.t1]
   rw [this]
  ·refine ⟨d.types, by rw [if_neg ha], ?_⟩
   have := VT e.b d.types fun h0 => by rw [o1]; simp [M8, hk, ha, h0]
   rw [this];have : J6 e.b (d.types.getD 0 F7) = Q4 e d := by
    unfold Q4;rw [if_neg ha];rfl
   rw [this]
 have e5 : Mt (run cfg) p e.enc d.enc (H8 l) (R5 sg p mi st es L m 0) = FZ (run cfg) p (H8 l) (.list 3 (yl.map Ty.enc)) e.enc d.enc (U6 e d).enc (R5 sg p mi st es L m 0) := by
  rw [UF];simp [Ex.D8, Ex.ag, A9.D8, A9.ag, Ty.D8, Ty.ag];rw [OQ]
  by_cases ha : e.a.kind = 0
  ·rw [if_pos ha] at A9J
   simp [ha, A9J]
  ·rw [if_neg ha] at A9J
   have h' : DV.list 3 (d.types.map Ty.enc) = .list 3 (yl.map Ty.enc) := Option.some.inj A9J;rw [← h'];simp [ha]
 refine L6.map ?_ ((S_ p e.enc d.enc (H8 l) _).trans e5);rw [Qf, hj];obtain ⟨es1, q1, c1⟩ := Dq h st L m 0 1 (.inl rfl) d.vars c.ds.vars es _ hs (fun v => by split <;> omega)
 have Cj := A1X o4 c1;have A1H := eH (U6 e d) (Q4 e d);have hw := LA l [⟨e.name, V4 (U6 e d) (Q4 e d), []⟩, ⟨e.arg, U6 e d, []⟩] (R5 sg p mi st es1 L m 0) (by simp; omega)
 simp only [z10q, z14q] at hw;have n1 : DV.agg [.str e.name, .int .i64 (V4 (U6 e d) (Q4 e d)).kind, .int .i64 (V4 (U6 e d) (Q4 e d)).n, .list 3 ((V4 (U6 e d) (Q4 e d)).kids.map Ty.enc), .list 1 []] = (Nm.mk e.name (V4 (U6 e d) (Q4 e d)) []).enc := rfl;have n2 : DV.agg [.str e.arg, .int .i64 (U6 e d).kind, .int .i64 (U6 e d).n, .list 3 ((U6 e d).kids.map Ty.enc), .list 1 []] = (Nm.mk e.arg (U6 e d) []).enc := rfl;simp [Ex.D8, Ex.ag, A9.D8, A9.ag, Ty.D8, Ty.ag, hR2, A1H, q1, n1, n2, hw];refine L6.then (AX (L := L) h c ih h0 nm1 (by simp; omega) Cj hm (by omega) hR) (fun v es L1 m hr hs hm => ?_) (fun z v es L1 m hr hz hn hs hm => ?_)
 rotate_left
 ·obtain ⟨es2, q2, c2⟩ := Dq h st L1 m z (-1) (.inr rfl) d.vars c.ds.vars es _ hs (fun v => by split <;> omega)
  have tL := YH o4 c2;rw [JB hr, R6];obtain ⟨x, hx⟩ : ∃ x, (run cfg).r CV [(H8 l, .val), (.list 5 [.agg [.str e.name, .int .i64 (V4 (U6 e d) (Q4 e d)).kind, .int .i64 (V4 (U6 e d) (Q4 e d)).n, .list 3 ((V4 (U6 e d) (Q4 e d)).kids.map Ty.enc), F4 d.vars]], .val)] (R5 sg p mi st es2 L1 m z) = some ([x], R5 sg p mi st es2 L1 m z) := ⟨_, Rm (l.map Nm.enc) [.agg _] _ (by simp; omega)⟩
  simp [hn, q2, hx, Hm h st es2 L1 m hz];exact L6.err rfl hz rfl tL hm
 obtain ⟨a, hA, rfl, rfl⟩ := NU hr;have Vj := Im (e.kid 0) (d.kid 0) (Q4 e d) a L;obtain ⟨es2, q2, c2⟩ := Dq h st (Am (e.kid 0) (d.kid 0) (Q4 e d) a L).2 m 0 (-1) (.inr rfl) d.vars c.ds.vars es _ hs (fun v => by split <;> omega)
 have tL := YH o4 c2;have hw2 := LA l [⟨e.name, V4 (U6 e d) (Q4 e d), d.vars⟩] (R5 sg p mi st es2 (Am (e.kid 0) (d.kid 0) (Q4 e d) a L).2 m 0) (by simp; omega)
 simp only [z10q, z14q] at hw2;have n3 : DV.agg [.str e.name, .int .i64 (V4 (U6 e d) (Q4 e d)).kind, .int .i64 (V4 (U6 e d) (Q4 e d)).n, .list 3 ((V4 (U6 e d) (Q4 e d)).kids.map Ty.enc), F4 d.vars] = (Nm.mk e.name (V4 (U6 e d) (Q4 e d)) d.vars).enc := rfl;rw [hA, P5];simp [q2, n3, hw2];refine L6.then (EO (L := (Am (e.kid 0) (d.kid 0) (Q4 e d) a L).2) h c ih h1 nm2 (by simp; omega) tL hm (by omega)) (fun v es L1 m hr hs hm => ?_) (fun z v es L1 m hr hz hn hs hm => ?_)
 rotate_left
 ·rw [VE hr, R6]
  simp [hn];exact L6.err rfl hz rfl hs hm
 obtain ⟨b, hb, rfl, rfl⟩ := Zp hr;have OL : (K5 e d (.mk b.ty [a, b])).getD 0 F7 = Q4 e d := by simp [K5, hk]
 have Xx : ((K5 e d (.mk b.ty [a, b])).getD 1 F7).kind = 0 := by simp [K5, hk]; rfl
 rw [hb, P5, JD, OB hn, Ee OL (Ty.k0 hR), Nj Xx];simp [Tm.D8, Tm.ag];refine L6.ok ?_ rfl hs hm;simp [Z0, V3, hk, K6, F7]
theorem A3m (hk : e.kind = 16) (z0 z1 z2 z3 z4 z5 z6 z7 z8 z9 z10 z11 z12 z13 z14 z15 YK z17 z18 z19 z20 z21 z22 : DV) {lo hi : Ty} (TD : Ko e = lo) (xg : PX e = hi) (hlo : lo.right = true) :
 L6 sg p mi st S 23 (BR (run cfg) p (H8 l) e.enc d.enc z0 z1 z2 z3 z4 z5 z6 z7 z8 z9 z10 z11 z12 z13 z14 z15 YK z17 z18 z19 z20 z21 z22 (.int .i64 lo.kind) (.int .i64 lo.n) (.list 3 (lo.kids.map Ty.enc)) (.int .i64 hi.kind) (.int .i64 hi.n) (.list 3 (hi.kids.map Ty.enc)) (R5 sg p mi st es L m 0)) (jW e d L (jt st e d l S)) := by
 have own := Ex.S9 c.hr;have hn : e.kids.length = 2 := by have := own.kids; simp [K3, hk] at this; omega
 have h0 : 0 < e.kids.length := by omega
 have h1 : 1 < e.kids.length := by omega
 have m0 := Ex.O5 (c.BZ h0);have m1 := Ex.O5 (c.BZ h1);have Y9 := eG hn;have Z4 := c.len;have hj : jt st e d l S = (N8 lo (jk st e d 0 l S)).bind fun a => (N8 lo (jk st e d 1 l S)).bind fun b => .ok (.mk hi [a, b]) := by
  rw [EJ ho, oN hk, U5 h0, TD, xg];simp only [U5 h1]
 rw [Ns, hj];simp [Ex.D8, Ex.ag, A9.D8, A9.ag, Ty.D8, Ty.ag];refine L6.then (AX (L := L) h c ih h0 c.nl (by omega) hs hm (by omega) hlo) (fun v es L1 m hr hs hm => ?_) (fun z v es L1 m hr hz hn hs hm => ?_)
 rotate_left
 ·rw [JB hr, R6]
  simp [hn];have := QM h st es L1 m hz e d 1 (H8 l) lo;simp [this];exact L6.err rfl hz rfl hs hm
 obtain ⟨a, hA, rfl, rfl⟩ := NU hr;have Vj := Im (e.kid 0) (d.kid 0) lo a L;rw [hA, P5];simp;refine L6.then (AX (L := (Am (e.kid 0) (d.kid 0) lo a L).2) h c ih h1 c.nl (by omega) hs hm (by omega) hlo) (fun v es L1 m hr hs hm => ?_) (fun z v es L1 m hr hz hn hs hm => ?_)
 rotate_left
 ·rw [JB hr, R6]
  simp [hn];exact L6.err rfl hz rfl hs hm
 obtain ⟨b, hb, rfl, rfl⟩ := NU hr;have OL : (K5 e d (.mk hi [a, b])).getD 0 F7 = lo := by simp [K5, hk, TD]
 have Xx : (K5 e d (.mk hi [a, b])).getD 1 F7 = lo := by simp [K5, hk, TD]
 rw [hb, P5, JD, OB hn, Ee OL (Ty.k0 hlo), Ee Xx (Ty.k0 hlo)];simp [Tm.D8, Tm.ag];refine L6.ok ?_ rfl hs hm;simp [Z0, V3, hk, K6, F7]
omit ih hL in
theorem A5y (hk : e.kind = 1) {x : Nm} (hx : BD l e.name = some x) : L6 sg p mi st S 23 ((run cfg).r LU [(.undef, .ptr p 0), (e.enc, .val), (d.enc, .val), (x.enc, .val)] (R5 sg p mi st es L m 0)) (jW e d L (jt st e d l S)) := by
 have _ := h;have own := Ex.S9 c.hr;have hn : e.kids.length = 0 := by have := own.kids; simp [K3, hk] at this; simp [this]
 obtain ⟨o1, o2, o3, o4⟩ := CG ho;have hj : jt st e d l S = .ok (.mk (x.ty.put (x.vars.zip d.types)) []) := by
  rw [EJ ho, Zn hk, hx]
 have gp : M8 e l = x.vars.length := by simp [M8, hk, hx]
 obtain ⟨x1, x2, x3⟩ := c.nl x (yA hx);have hbx := big x2;have hdr := (A9.EM.1 c.dr).1;refine L6.map ?_ (Qk p e.enc d.enc x.enc _);rw [Sv, hj, JD, WP hn];simp only [Ao, Hg, B05, O6]
 by_cases h0 : x.vars.length = 0
 ·have mO : x.vars = [] := z7q h0
  have hg : ¬ ((0 : Int) < (x.vars.length : Int)) := by omega
  rw [mO, z62q, Ty.B4y];simp [hg, mO];refine L6.ok ?_ rfl hs hm;simp [Z0, V3, hk, K6, F7]
 ·have hg : (0 : Int) < (x.vars.length : Int) := by omega
  have hv : x.vars.length = d.types.length := by omega
  have lp := FR (l := x.vars) (P := fun k (a : List (Int × Ty)) => BS (run cfg) (Aw a) (F4 x.vars) (.int .i64 x.vars.length) (.int .i64 k) e.enc d.enc (.int .i64 x.ty.kind) (.int .i64 x.ty.n) (.list 3 (x.ty.kids.map Ty.enc)) (R5 sg p mi st es L m 0))
   (g := fun a v => a ++ [(v, d.types.getD a.length F7)]) (fin := fun a => BS (run cfg) (Aw a) (F4 x.vars) (.int .i64 x.vars.length) (.int .i64 x.vars.length) e.enc d.enc (.int .i64 x.ty.kind) (.int .i64 x.ty.n) (.list 3 (x.ty.kids.map Ty.enc)) (R5 sg p mi st es L m 0))
   (I := fun k a => a = (x.vars.take k).zip (d.types.take k)) (fun a _ => rfl)
   (fun k h' a ha => by
     have Cx : k < d.types.length := by omega
     have hal : a.length = k := by rw [ha]; simp; omega
     have hga : d.types.getD a.length F7 = d.types[k] := by rw [hal, z2q, z9q Cx]; rfl
     refine ⟨?_, by rw [A5k _ _ _ h' Cx, hga, ← ha]⟩
     rw [hga, Gy];have Kh := l6 (e := Nk) (sz := 4) (l := a) (x := (x.vars[k], d.types[k])) (by omega)
     have oG : R8 4 (Aw a) (.list 4 [.agg [.int .i64 x.vars[k], .int .i64 d.types[k].kind, .int .i64 d.types[k].n, .list 3 (d.types[k].kids.map Ty.enc)]]) = some (Aw (a ++ [(x.vars[k], d.types[k])])) := Kh;simp [h', U0 h', F3 Cx, oG, J7 (show k < 9223372036854775807 by omega)]) [] rfl
  have A3b : ∀ (vs : List Int) (a : List (Int × Ty)) (k : Nat), a.length = k → k + vs.length = d.types.length → vs.foldl (fun a v => a ++ [(v, d.types.getD a.length F7)]) a = a ++ vs.zip (d.types.drop k) := by
   intro vs
   induction vs with
   | nil => intro a k _ _; simp
   | cons v vs ihv =>
     intro a k hak DR;have Cx : k < d.types.length := by simp at DR; omega
     rw [List.foldl_cons, ihv _ (k + 1) (by simp [hak]) (by simp at DR; omega), z1q Cx]
     simp only [hak, z2q, z9q Cx, z31q, List.zip_cons_cons, z19q, z29q]
  rw [A3b _ [] 0 rfl (by simpa using hv)] at lp
  simp only [z50q, z16q] at lp;have He : MB (x.vars.zip d.types) = true := by
   rw [mZ];intro b hb;have h1 := x3 _ (z53q hb).1;exact ⟨h1.1, h1.2, hdr _ (z53q hb).2⟩
  have BV := A3I x.ty (x.vars.zip d.types) (Ty.U8 x1) (by simp; omega) (fun b hb => Ty.U8 (hdr _ (z53q hb).2))
  simp only [x1, He, and_self, if_true] at BV;have lp' : BS (run cfg) (.list 4 []) (F4 x.vars) (.int .i64 x.vars.length) (.int .i64 0) e.enc d.enc (.int .i64 x.ty.kind) (.int .i64 x.ty.n) (.list 3 (x.ty.kids.map Ty.enc)) (R5 sg p mi st es L m 0) = some ([Z0 (x.ty.put (x.vars.zip d.types)) (V3 e d (.mk (x.ty.put (x.vars.zip d.types)) []) [])], R5 sg p mi st es L m 0) := by
   refine lp.trans ?_;rw [Gy];simp [Ty.D8, Ty.ag, BV];simp [Z0, V3, hk, K6, F7]
  have hgn : 0 < x.vars.length := by omega
  simp [hgn, lp'];exact L6.ok rfl rfl hs hm
end
end Go.Su

/-
 What the program's judging does: match; all kinds.
-/
namespace Go.Su
def XM (e : Ex) (d : A9) : Nat → List JT → List Q9 → List Tm × List Q9
 | _, [], L => ([], L)
 | i, a :: aa, L => ((Am (e.kid i) (d.kid i) d.t1 a L).1 :: (XM e d (i + 1) aa (Am (e.kid i) (d.kid i) d.t1 a L).2).1, (XM e d (i + 1) aa (Am (e.kid i) (d.kid i) d.t1 a L).2).2)
def fK (st : Bool) (e : Ex) (d : A9) : Nat → List Nm → List Int → JR := fun i l S => ((e.kids.map (jt st)).getD i fun _ _ _ => .error 4) (d.kid i) l S
theorem B0V {st : Bool} {e : Ex} {i : Nat} (h : i < e.kids.length) (d : A9) (l : List Nm) (S : List Int) : fK st e d i l S = jk st e d i l S := U5 h d l S
def A9V (e : Ex) (ks : List Tm) : Tm := .mk 14 e.lo e.hi K6 K6 0 K6 0 0 false [] F7 F7 [] e.F6 ks
theorem A02 {e : Ex} (hk : e.kind = 14) {d : A9} (h1 : d.t1.kind ≠ 0) {T : JT} : ∀ (ks : List Ex) (aa : List JT) (i : Nat) (L : List Q9), 1 ≤ i → i + ks.length = e.kids.length → i + aa.length = e.kids.length → e.F6.length + 1 = e.kids.length →
 (∀ (j : Nat) k, ks[j]? = some k → e.kid (i + j) = k) → (∀ (j : Nat) a, aa[j]? = some a → T.kid (i + j) = a) → Dk e d T i (ks.map M4) L = XM e d i aa L
 | [], aa, i, L, hi, Ha, has, hp, gk, ga => by
   have : aa = [] := z7q (by simp at Ha; omega)
   subst this;rfl
 | k :: ks, aa, i, L, hi, Ha, has, hp, gk, ga => by
   cases aa with
   | nil => simp at Ha has; omega
   | cons a aa =>
     simp at Ha has;have e0 : e.kid i = k := gk 0 k (by simp)
     have a0 : T.kid i = a := ga 0 a (by simp)
     have hw : (K5 e d T).getD i F7 = d.t1 := by
      obtain ⟨j, rfl⟩ : ∃ j, i = j + 1 := ⟨i - 1, by omega⟩
      have hj : j < e.F6.length := by omega
      simp [K5, hk, hj]
     have e1 : FE e d T i (M4 k) L = Am (e.kid i) (d.kid i) d.t1 a L := by
      have := Ee (L := L) hw h1;unfold eK at this;rw [e0, a0] at this;rw [this, e0]
     simp only [z10q, Dk, XM, e1];have := A02 hk h1 (T := T) ks aa (i + 1) (Am (e.kid i) (d.kid i) d.t1 a L).2 (by omega) (by omega) (by omega) hp
      (fun j x hx => by have := gk (j + 1) x (by simpa using hx); rwa [show i + 1 + j = i + (j + 1) by omega])
      (fun j x hx => by have := ga (j + 1) x (by simpa using hx); rwa [show i + 1 + j = i + (j + 1) by omega])
     rw [this]
theorem A72 {e : Ex} (hk : e.kind = 14) {d : A9} (h0 : d.t0.kind ≠ 0) (h1 : d.t1.kind ≠ 0) (hp : e.F6.length + 1 = e.kids.length) {a : JT} {aa : List JT} (hl : aa.length = e.F6.length) (L : List Q9) :
 M4 e d (.mk d.t1 (a :: aa)) L = (A9V e ((Am (e.kid 0) (d.kid 0) d.t0 a L).1 :: (XM e d 1 aa (Am (e.kid 0) (d.kid 0) d.t0 a L).2).1), (XM e d 1 aa (Am (e.kid 0) (d.kid 0) d.t0 a L).2).2) := by
 have hw : (K5 e d (.mk d.t1 (a :: aa))).getD 0 F7 = d.t0 := by simp [K5, hk]
 have e0 := Ee (L := L) hw h0;rw [OA];cases Ha : e.kids with
 | nil => rw [Ha] at hp; simp at hp
 | cons k ks =>
   have k0 : e.kid 0 = k := by simp [Ex.kid, Ha]
   have hw2 := A02 hk h1 (T := .mk d.t1 (a :: aa)) ks aa 1 (Am (e.kid 0) (d.kid 0) d.t0 a L).2 (by omega) (by rw [Ha]; simp; omega) (by rw [Ha]; rw [Ha] at hp; simp at hp ⊢; omega) hp
    (fun j x hx => by
      have : e.kids[1 + j]? = some x := by rw [Ha, Nat.add_comm]; simpa using hx
      simp [Ex.kid, this])
    (fun j x hx => by
      have : (a :: aa)[1 + j]? = some x := by rw [Nat.add_comm]; simpa using hx
      simp [JT.kid, this])
   unfold eK at e0;rw [k0] at e0;simp only [z10q, Dk];rw [e0];rw [← k0];simp only [A38];rw [hw2];simp [V3, hk, A9V]
section
variable {sg : List D7} {p mi : Nat} (h : JP sg p mi) {st : Bool} {e : Ex} {d : A9} {l : List Nm} (c : JC st e d l) (ih : ∀ k ∈ e.kids, fB st k) {S : List Int}
include h
theorem A3i (es : List (DV × DV)) (L : List Q9) (m : Meta) {z : Int} (hz : z ≠ 0) (t : DV) (j : Nat) (hj : j < 4294967297) (x y : DV) (z0 z1 z2 z3 z4 z5 z6 z7 z8 z9 z10 z11 z12 z13 z14 z15 YK z17 z18 z19 z20 z21 z22 : DV) : ∃ v, CX (run cfg) p (H8 l) t (.list 7 (e.F6.map D5.enc)) (.int .i64 e.F6.length) (.int .i64 j) e.enc d.enc z0 z1 z2 z3 z4 z5 z6 z7 z8 z9 z10 z11 z12 z13 z14 z15 YK z17 z18 z19 z20 z21 z22 x y (R5 sg p mi st es L m z) = some ([v], R5 sg p mi st es L m z) ∧ C9 23 v = true := by
 by_cases H7 : j < e.F6.length
 ·refine ⟨Z0 F7 Py, ?_, rfl⟩
  rw [CB];simp [H7, F3 H7, BI h, hz, YL]
 ·have e0 := CB (run cfg) p (H8 l) t (.list 7 (e.F6.map D5.enc)) (.int .i64 e.F6.length) (.int .i64 j) e.enc d.enc z0 z1 z2 z3 z4 z5 z6 z7 z8 z9 z10 z11 z12 z13 z14 z15 YK z17 z18 z19 z20 z21 z22 x y (R5 sg p mi st es L m z)
  simp [H7] at e0;exact ⟨_, e0, rfl⟩
include c ih
theorem B5O (hk : e.kind = 14) (ho : DT st e d l S = 0) (hp : e.F6.length + 1 = e.kids.length) (Co : d.t0.right = true) (Fw : d.t1.right = true) (z0 z1 z2 z3 z4 z5 z6 z7 z8 z9 z10 z11 z12 z13 z14 z15 YK z17 z18 z19 z20 z21 z22 : DV) : ∀ (k0 j : Nat) (ts : List Tm) (es : List (DV × DV)) (L : List Q9) (m : Meta), j + k0 = e.F6.length → ts.length = j + 1 → AP es S → Roomy m → L.length + 2 * ((e.kids.drop (j + 1)).map Ex.size).sum ≤ 1048576 →
 L6 sg p mi st S 23 (CX (run cfg) p (H8 l) (.list 20 (ts.map Tm.enc)) (.list 7 (e.F6.map D5.enc)) (.int .i64 e.F6.length) (.int .i64 j) e.enc d.enc z0 z1 z2 z3 z4 z5 z6 z7 z8 z9 z10 z11 z12 z13 z14 z15 YK z17 z18 z19 z20 z21 z22 d.t0.enc d.t1.enc (R5 sg p mi st es L m 0))
  (match Hy (fK st e d) d.t0 d.t1 l S (j + 1) (e.F6.drop j) with
    | .ok aa => .ok (Z0 d.t1 (A9V e (ts ++ (XM e d (j + 1) aa L).1)), (XM e d (j + 1) aa L).2)
    | .error z => .error z) := by
 have own := Ex.S9 c.hr;have dP := c.hf.one.F6;have hbp : e.F6.length < 4294967296 := by unfold lim at dP; omega
 intro k0
 induction k0 with
 | zero =>
   intro j ts es L m hj hts hs hm hL;rw [z3q (by omega)]
   simp only [Hy, XM, List.append_nil];rw [CB];have : ¬ j < e.F6.length := by omega
   simp [this];refine L6.ok ?_ rfl hs hm;simp [Z0, A9V, K6, F7]
 | succ k0 ih2 =>
   intro j ts es L m hj hts hs hm hL;have H7 : j < e.F6.length := by omega
   have Pv : j + 1 < e.kids.length := by omega
   have hpm := z0q H7;have hb := A7A e.F6[j] d.t0 (c.hf.one.pat _ hpm) (own.F6 _ hpm) Co;have m1 := Ex.O5 (c.BZ Pv);have Z4 := c.len;rw [z1q H7, Hy];rw [CB];cases hbd : e.F6[j].binds d.t0 with
   | none =>
     rw [hbd] at hb;have sf := Gr h st es L m 0 4;simp [H7, F3 H7, BI h, D5.D8, D5.ag, Ty.D8, Ty.ag, hb, O4, sf, YL];exact L6.err rfl (by omega) rfl hs hm
   | some b =>
     rw [hbd] at hb;have mI := D5.Sk _ _ _ hbd;have hbr := D5.jG _ _ _ Co hbd;have hwi := LA l [] (R5 sg p mi st es L m 0) (by simp; omega)
     simp only [z14q, List.append_nil] at hwi;have B7S := D5.OY e.F6[j];have hmm : e.F6[j].J4 + (e.kid (j + 1)).J4 < e.J4 := by
      rw [Ex.U9 e];have a1 := Ap (z20q (f := D5.J4) hpm);have a2 := Ap (z20q (f := Ex.J4) (c.BZ Pv));omega
     have hll : l.length + b.length ≤ lim := by omega
     have dJ : l.length + b.length < 4294967297 := big hll;have l14 := FR (l := b) (P := fun q (a : List Nm) => Bz (run cfg) p (H8 l) (.list 20 (ts.map Tm.enc)) (.int .i64 j) (H8 a) (.list 7 (e.F6.map D5.enc)) (.int .i64 e.F6.length) (.int .i64 j) (O8 b) (.int .i64 b.length) (.int .i64 q) e.enc d.enc z0 z1 z2 z3 z4 z5 z6 z7 z8 z9 z10 z11 z12 z13 z14 z15 YK z17 z18 z19 z20 z21 z22 d.t0.enc d.t1.enc (R5 sg p mi st es L m 0))
      (g := fun a e => a ++ [Du e]) (fin := fun a => Bz (run cfg) p (H8 l) (.list 20 (ts.map Tm.enc)) (.int .i64 j) (H8 a) (.list 7 (e.F6.map D5.enc)) (.int .i64 e.F6.length) (.int .i64 j) (O8 b) (.int .i64 b.length) (.int .i64 b.length) e.enc d.enc z0 z1 z2 z3 z4 z5 z6 z7 z8 z9 z10 z11 z12 z13 z14 z15 YK z17 z18 z19 z20 z21 z22 d.t0.enc d.t1.enc (R5 sg p mi st es L m 0))
      (I := fun q a => a.length = l.length + q) (fun a _ => rfl)
      (fun q hq a ha => by
        refine ⟨?_, by simp [ha]; omega⟩
        rw [GD];have Kh := l6 (e := Nm.enc) (sz := 5) (l := a) (x := Du b[q]) (by omega)
        have oG : R8 5 (H8 a) (.list 5 [.agg [.str b[q].1, .int .i64 b[q].2.kind, .int .i64 b[q].2.n, .list 3 (b[q].2.kids.map Ty.enc), .list 1 []]]) = some (H8 (a ++ [Du b[q]])) := Kh;have e1 : E8 4 (O8 b) (.int .i64 (q : Int)) = some (Nl b[q]) := F3 hq;simp [hq, e1, oG, J7 (show q < 9223372036854775807 by omega)]) l rfl
     have A3b : ∀ (m : List (ByteArray × Ty)) (a : List Nm), m.foldl (fun a e => a ++ [Du e]) a = a ++ m.map Du := by
      intro m
      induction m with
      | nil => intro a; simp
      | cons x m ih => intro a; simp [ih]
     rw [A3b] at l14;have nb : Aa (l ++ b.map Du) := c.nl.app (Aa.B2d hbr);have A1Q : dLen (O8 b) = some (.int .i64 b.length) := by simp [O8, dLen]
     simp [H7, F3 H7, BI h, D5.D8, D5.ag, Ty.D8, Ty.ag, hb, O4, hwi, A1Q];refine L6.map ?_ l14;rw [GD];have EG : A8 .add (.int .i64 (j : Int)) (.int .i64 1) = some (.int .i64 ((j + 1 : Nat) : Int)) := J7 (by omega)
     simp [EG, Ex.D8, Ex.ag, A9.D8, A9.ag, Ty.D8, Ty.ag];rw [← Int.natCast_succ];have B5B : ((e.kids.drop (j + 1)).map Ex.size).sum = (e.kid (j + 1)).size + ((e.kids.drop (j + 1 + 1)).map Ex.size).sum := by
      rw [z1q Pv, Z9 Pv, z10q, z18q]
     have hkf : fK st e d (j + 1) (l ++ b.map Du) S = jk st e d (j + 1) (l ++ b.map Du) S := B0V Pv d _ S;have htl : ts.length < lim := by have := c.hf.one.kids; omega
     refine L6.then (AX (L := L) h c ih Pv nb (by simp; omega) hs hm (by omega) Fw) (fun v es L1 m hr hs hm => ?_) (fun z v es L1 m hr hz hn hs hm => ?_)
     rotate_left
     ·have Hf := JB hr
      rw [hkf, Hf, R6];obtain ⟨v2, Vk, mQ⟩ := A3i h (e := e) (d := d) (l := l) (st := st) es L1 m hz (.list 20 (ts.map Tm.enc ++ [v])) (j + 1) (by omega) d.t0.enc d.t1.enc z0 z1 z2 z3 z4 z5 z6 z7 z8 z9 z10 z11 z12 z13 z14 z15 YK z17 z18 z19 z20 z21 z22
      have Kh : R8 20 (.list 20 (ts.map Tm.enc)) (.list 20 [v]) = some (.list 20 (ts.map Tm.enc ++ [v])) := Dj (by simp; omega)
      simp [hn, Kh, EG];refine L6.err (v := v2) (L := L1) (es := es) (m := m) ?_ hz mQ hs hm;exact Vk
     ·obtain ⟨a, hA, rfl, rfl⟩ := NU hr
      have Vj := Im (e.kid (j + 1)) (d.kid (j + 1)) d.t1 a L;have nx := ih2 (j + 1) (ts ++ [(Am (e.kid (j + 1)) (d.kid (j + 1)) d.t1 a L).1]) es (Am (e.kid (j + 1)) (d.kid (j + 1)) d.t1 a L).2 m (by omega) (by simp; omega) hs hm (by omega)
      have Kh := l6 (e := Tm.enc) (sz := 20) (l := ts) (x := (Am (e.kid (j + 1)) (d.kid (j + 1)) d.t1 a L).1) htl;rw [hkf, hA, P5];simp [Kh, EG];cases Vi : Hy (fK st e d) d.t0 d.t1 l S (j + 1 + 1) (e.F6.drop (j + 1)) with
      | error z => rw [Vi] at nx; simpa [R6] using nx
      | ok aa => rw [Vi] at nx; simpa [P5, XM] using nx
theorem A4k (ho : DT st e d l S = 0) {es : List (DV × DV)} {L : List Q9} {m : Meta} (hs : AP es S) (hm : Roomy m) (hL : L.length + 2 * e.size ≤ 1048576) (hk : e.kind = 14) : L6 sg p mi st S 23 ((run cfg).r Jr [(.undef, .ptr p 0), (e.enc, .val), (d.enc, .val), (H8 l, .val)] (R5 sg p mi st es L m 0)) (jW e d L (jt st e d l S)) := by
 have own := Ex.S9 c.hr;have hp : e.F6.length + 1 = e.kids.length := by have := own.kids; simp [K3, hk] at this; omega
 have h0 : 0 < e.kids.length := by omega
 have m0 := Ex.O5 (c.BZ h0);have Z4 := c.len;obtain ⟨o1, o2, o3, o4⟩ := CG ho;have IA : d.types.length = 2 := by rw [o1]; simp [M8, hk]
 have Co := A9.Bb c.dr (by omega)
 have Fw := A9.eY c.dr (by omega)
 have ht0 : 0 < d.types.length := by omega
 have mM : 1 < d.types.length := by omega
 have i0 : E8 3 (.list 3 (d.types.map Ty.enc)) (.int .i64 0) = some d.t0.enc := by
  have : d.t0 = d.types[0] := by simp only [A9.t0, z2q, z9q ht0, z31q]
  rw [this];exact F3 (e := Ty.enc) (sz := 3) (k := .i64) (i := 0) ht0
 have i1 : E8 3 (.list 3 (d.types.map Ty.enc)) (.int .i64 1) = some d.t1.enc := by
  have : d.t1 = d.types[1] := by simp only [A9.t1, z2q, z9q mM, z31q]
  rw [this];exact F3 (e := Ty.enc) (sz := 3) (k := .i64) (i := 1) mM
 have hj : jt st e d l S = (N8 d.t0 (jk st e d 0 l S)).bind fun a => (Hy (fK st e d) d.t0 d.t1 l S 1 e.F6).bind fun aa => .ok (.mk d.t1 (a :: aa)) := by
  rw [EJ ho, XV hk, U5 h0];rfl
 have Y9 : e.size = 1 + (e.kid 0).size + ((e.kids.drop 1).map Ex.size).sum := by
  rw [Ex.size_eq]
  conv => lhs; rw [← z16q (l := e.kids), z1q h0]
  rw [Z9 h0];simp;omega
 refine L6.map ?_ (Pq p e.enc d.enc (H8 l) _);rw [Qe, hj];simp [Ex.D8, Ex.ag, A9.D8, A9.ag, i0, i1, Ty.D8, Ty.ag];refine L6.then (AX (L := L) h c ih h0 c.nl (by omega) hs hm (by omega) Co) (fun v es L1 m hr hs hm => ?_) (fun z v es L1 m hr hz hn hs hm => ?_)
 rotate_left
 ·rw [JB hr, R6]
  obtain ⟨v2, Vk, mQ⟩ := A3i h (e := e) (d := d) (l := l) (st := st) es L1 m hz (.list 20 [v]) 0 (by omega) d.t0.enc d.t1.enc (.int .i64 0) (.int .i64 0) (.list 3 []) (.int .i64 0) (.int .i64 0) (.int .i64 0) (.str ⟨#[]⟩) (.str ⟨#[]⟩) (.int .i64 0) (.str ⟨#[]⟩) (.int .i64 0) (.int .i64 0) (.bool false) (.list 1 []) (.int .i64 0) (.int .i64 0) (.list 3 []) (.int .i64 0) (.int .i64 0) (.list 3 []) (.list 3 []) (.list 7 []) (.list 20 [])
  simp [hn];refine L6.err (v := v2) (L := L1) (es := es) (m := m) ?_ hz mQ hs hm;exact Vk
 obtain ⟨a, hA, rfl, rfl⟩ := NU hr;have Vj := Im (e.kid 0) (d.kid 0) d.t0 a L;have nx := B5O h c ih hk ho hp Co Fw (.int .i64 0) (.int .i64 0) (.list 3 []) (.int .i64 0) (.int .i64 0) (.int .i64 0) (.str ⟨#[]⟩) (.str ⟨#[]⟩) (.int .i64 0) (.str ⟨#[]⟩) (.int .i64 0) (.int .i64 0) (.bool false) (.list 1 []) (.int .i64 0) (.int .i64 0) (.list 3 []) (.int .i64 0) (.int .i64 0) (.list 3 []) (.list 3 []) (.list 7 []) (.list 20 []) e.F6.length 0 [(Am (e.kid 0) (d.kid 0) d.t0 a L).1] es (Am (e.kid 0) (d.kid 0) d.t0 a L).2 m (by omega) rfl hs hm (by simp at Y9 ⊢; omega)
 rw [hA, P5];simp [Tm.D8, Tm.ag];simp only [z10q, z14q, z16q, Nat.zero_add] at nx;cases Vi : Hy (fK st e d) d.t0 d.t1 l S 1 e.F6 with
 | error z => rw [Vi] at nx; rw [R6]; exact nx
 | ok aa =>
   rw [Vi] at nx;rw [P5, JD, A72 hk (Ty.k0 Co) (Ty.k0 Fw) hp (A1O Vi).1];exact nx
end
end Go.Su

/-
 What the program's judging does: all kinds together.
-/
namespace Go.Su
theorem B4W {n : Nat} {v : DV} (h : C9 n v = true) : ∃ w, v = .agg w ∧ w.length = n := by
 cases v with
 | agg w => exact ⟨w, rfl, by simpa [C9] using h⟩
 | _ => cases h
theorem zB {v : DV} (h : C9 23 v = true) : DV.agg [A7 0 v, A7 1 v, A7 2 v, A7 3 v, A7 4 v, A7 5 v, A7 6 v, A7 7 v, A7 8 v, A7 9 v, A7 10 v, A7 11 v, A7 12 v, A7 13 v, A7 14 v, A7 15 v, A7 16 v, A7 17 v, A7 18 v, A7 19 v, A7 20 v, A7 21 v, A7 22 v] = v := by
 obtain ⟨w, rfl, hw⟩ := B4W h
 match w, hw with
 | [a0, a1, a2, a3, a4, a5, a6, a7, a8, a9, ai, VZ, a12, a13, a14, Yv, a16, a17, a18, a19, a20, a21, a22], _ => rfl
section
variable {sg : List D7} {p mi : Nat} {st : Bool} {S : List Int}
theorem L6.pass {qa : Option (List DV × List D7)} {r : Except Int (DV × List Q9)} (h : L6 sg p mi st S 23 qa r) {k : List DV × List D7 → Option (List DV × List D7)} (hk : ∀ v s, C9 23 v = true → k ([v], s) = some ([v], s)) : L6 sg p mi st S 23 (ob qa k) r := by
 obtain ⟨v, es, L, m, er, h1, h2, h3, h4, h5⟩ := h;exact ⟨v, es, L, m, er, by rw [h1]; exact hk v _ h2, h2, h3, h4, h5⟩
end
section
variable {sg : List D7} {p mi : Nat} (h : JP sg p mi) {st : Bool} {e : Ex} {d : A9} {l : List Nm} (c : JC st e d l) (ih : ∀ k ∈ e.kids, fB st k) {S : List Int} (ho : DT st e d l S = 0)
 {es : List (DV × DV)} {L : List Q9} {m : Meta} (hs : AP es S) (hm : Roomy m) (hL : L.length + 2 * e.size ≤ 1048576)
include h c ih ho hs hm hL
theorem A5x (hk : 10 ≤ e.kind) : L6 sg p mi st S 23 ((run cfg).r LQ [(.undef, .ptr p 0), (e.enc, .val), (d.enc, .val), (H8 l, .val)] (R5 sg p mi st es L m 0)) (jW e d L (jt st e d l S)) := by
 have own := Ex.S9 c.hr;have Z4 := c.len;have k16 := own.k16;obtain ⟨o1, o2, o3, o4⟩ := CG ho;refine L6.map ?_ (Qj p e.enc d.enc (H8 l) _);rw [Sr];simp only [Ao, Hg, O6, exx, Ex.D8, Ex.ag, A9.Y3, A9.Ar, A9.AV, A9.D8, A9.ag, CZ, I1]
 by_cases X9 : e.kind = 10
 ·simp [X9]
  exact (A7p h c ih ho hs hm hL X9).pass fun v s hv => by simp [hv, zB hv]
 by_cases Af : e.kind = 11
 ·simp [Af]
  exact (A7q h c ih ho hs hm hL Af).pass fun v s hv => by simp [hv, zB hv]
 by_cases AZ : e.kind = 12
 ·simp [AZ]
  exact (A7r h c ih ho hs hm hL AZ).pass fun v s hv => by simp [hv, zB hv]
 by_cases Fv : e.kind = 13
 ·have hn : e.kids.length = 3 := by have := own.kids; simp [K3, Fv] at this; omega
  have h0 : 0 < e.kids.length := by omega
  have h1 : 1 < e.kids.length := by omega
  have h2 : 2 < e.kids.length := by omega
  have m0 := Ex.O5 (c.BZ h0);have m1 := Ex.O5 (c.BZ h1);have m2 := Ex.O5 (c.BZ h2);have Y9 := B6p hn;have IA : d.types.length = 1 := by rw [o1]; simp [M8, Fv]
  have Co := A9.Bb c.dr (by omega)
  have ht0 : 0 < d.types.length := by omega
  have i0 : E8 3 (.list 3 (d.types.map Ty.enc)) (.int .i64 0) = some d.t0.enc := by
   have : d.t0 = d.types[0] := by simp only [A9.t0, z2q, z9q ht0, z31q]
   rw [this];exact F3 (e := Ty.enc) (sz := 3) (k := .i64) (i := 0) ht0
  have hbo : DV.agg [.int .i64 2, .int .i64 0, .list 3 []] = (T9 2).enc := by rw [Ty.F9]; rfl
  have hbr : (T9 2).right = true := EN (by omega)
  have hj : jt st e d l S = (N8 (T9 2) (jk st e d 0 l S)).bind fun a => (N8 d.t0 (jk st e d 1 l S)).bind fun b => (N8 d.t0 (jk st e d 2 l S)).bind fun c => .ok (.mk d.t0 [a, b, c]) := by
   rw [EJ ho, oM Fv, U5 h0];simp only [U5 h1, U5 h2]
  rw [hj];simp [X9, Af, AZ, Fv, i0, Ty.D8, Ty.ag, hbo];have fb := fun i es L1 m z (hz : z ≠ 0) => QM h st es L1 m hz e d i (H8 l) d.t0
  refine L6.then (AX (L := L) h c ih h0 c.nl (by omega) hs hm (by omega) hbr) (fun v es L1 m hr hs hm => ?_) (fun z v es L1 m hr hz hn hs hm => ?_)
  rotate_left
  ·rw [JB hr, R6]
   simp [hn, fb _ _ _ _ _ hz];exact L6.err rfl hz rfl hs hm
  obtain ⟨a, hA, rfl, rfl⟩ := NU hr;have Vj := Im (e.kid 0) (d.kid 0) (T9 2) a L;rw [hA, P5];generalize hLa : Am (e.kid 0) (d.kid 0) (T9 2) a L = ca at Vj;simp;refine L6.then (AX (L := ca.2) h c ih h1 c.nl (by omega) hs hm (by omega) Co) (fun v es L1 m hr hs hm => ?_) (fun z v es L1 m hr hz hn hs hm => ?_)
  rotate_left
  ·rw [JB hr, R6]
   simp [hn, fb _ _ _ _ _ hz];exact L6.err rfl hz rfl hs hm
  obtain ⟨b, hB, rfl, rfl⟩ := NU hr;have xq := Im (e.kid 1) (d.kid 1) d.t0 b ca.2;rw [hB, P5];generalize hLb : Am (e.kid 1) (d.kid 1) d.t0 b ca.2 = cb at xq;simp;refine L6.then (AX (L := cb.2) h c ih h2 c.nl (by omega) hs hm (by omega) Co) (fun v es L1 m hr hs hm => ?_) (fun z v es L1 m hr hz hn hs hm => ?_)
  rotate_left
  ·rw [JB hr, R6]
   simp [hn];exact L6.err rfl hz rfl hs hm
  obtain ⟨x, hX, rfl, rfl⟩ := NU hr;have OL : (K5 e d (.mk d.t0 [a, b, x])).getD 0 F7 = T9 2 := by simp [K5, Fv]
  have Xx : (K5 e d (.mk d.t0 [a, b, x])).getD 1 F7 = d.t0 := by simp [K5, Fv]
  have hw2 : (K5 e d (.mk d.t0 [a, b, x])).getD 2 F7 = d.t0 := by simp [K5, Fv]
  rw [hX, P5, JD, B2g hn, Ee OL (Ty.k0 hbr), Ee Xx (Ty.k0 Co), Ee hw2 (Ty.k0 Co)];simp only [A38, A8O, B38, hLa, hLb];simp [Tm.D8, Tm.ag];refine L6.ok ?_ rfl hs hm;simp [Z0, V3, Fv, K6, F7]
 by_cases EF : e.kind = 14
 ·simp [EF]
  exact (A4k h c ih ho hs hm hL EF).pass fun v s hv => by simp [hv, zB hv]
 by_cases Ps : e.kind = 15
 ·have hn : e.kids.length = 1 := by have := own.kids; simp [K3, Ps] at this; omega
  have h0 : 0 < e.kids.length := by omega
  have m0 := Ex.O5 (c.BZ h0);have Y9 := B1H hn;have har := own.Yv Ps;have hj : jt st e d l S = (N8 e.a (jk st e d 0 l S)).bind fun a => .ok (.mk e.a [a]) := by
   rw [EJ ho, gy Ps, U5 h0]
  rw [hj];simp [X9, Af, AZ, Fv, EF, Ps, Ty.D8, Ty.ag];refine L6.then (AX (L := L) h c ih h0 c.nl (by omega) hs hm (by omega) har) (fun v es L1 m hr hs hm => ?_) (fun z v es L1 m hr hz hn hs hm => ?_)
  rotate_left
  ·rw [JB hr, R6]
   simp [hn];exact L6.err rfl hz rfl hs hm
  obtain ⟨a, hA, rfl, rfl⟩ := NU hr;have OL : (K5 e d (.mk e.a [a])).getD 0 F7 = e.a := by simp [K5, Ps]
  rw [hA, P5, JD, A6k hn, Ee OL (Ty.k0 har)];simp;refine L6.ok ?_ rfl hs hm;simp [Z0, V3, Ps]
 have gZ : e.kind = 16 := by omega
 have B2A : (T9 1).right = true := EN (by omega)
 have B7V : (T9 3).right = true := EN (by omega)
 by_cases p5 : e.op = 5
 ·have := A3m h c ih ho hs hm hL gZ (.int .i64 0) (.int .i64 0) (.list 3 []) (.int .i64 0) (.int .i64 0) (.int .i64 0) (.str ⟨#[]⟩) (.str ⟨#[]⟩) (.int .i64 0) (.str ⟨#[]⟩) (.int .i64 0) (.int .i64 0) (.bool false) (.list 1 []) (.int .i64 0) (.int .i64 0) (.list 3 []) (.int .i64 0) (.int .i64 0) (.list 3 []) (.list 3 []) (.list 7 []) (.list 20 []) (lo := T9 1) (hi := T9 2) (by simp [Ko, p5]) (by simp [PX, p5]) B2A
  simp [X9, Af, AZ, Fv, EF, Ps, p5];exact this
 by_cases p6 : e.op = 6
 ·have := A3m h c ih ho hs hm hL gZ (.int .i64 0) (.int .i64 0) (.list 3 []) (.int .i64 0) (.int .i64 0) (.int .i64 0) (.str ⟨#[]⟩) (.str ⟨#[]⟩) (.int .i64 0) (.str ⟨#[]⟩) (.int .i64 0) (.int .i64 0) (.bool false) (.list 1 []) (.int .i64 0) (.int .i64 0) (.list 3 []) (.int .i64 0) (.int .i64 0) (.list 3 []) (.list 3 []) (.list 7 []) (.list 20 []) (lo := T9 1) (hi := T9 2) (by simp [Ko, p6]) (by simp [PX, p6]) B2A
  simp [X9, Af, AZ, Fv, EF, Ps, p5, p6];exact this
 by_cases p7 : e.op = 7
 ·have := A3m h c ih ho hs hm hL gZ (.int .i64 0) (.int .i64 0) (.list 3 []) (.int .i64 0) (.int .i64 0) (.int .i64 0) (.str ⟨#[]⟩) (.str ⟨#[]⟩) (.int .i64 0) (.str ⟨#[]⟩) (.int .i64 0) (.int .i64 0) (.bool false) (.list 1 []) (.int .i64 0) (.int .i64 0) (.list 3 []) (.int .i64 0) (.int .i64 0) (.list 3 []) (.list 3 []) (.list 7 []) (.list 20 []) (lo := T9 3) (hi := T9 2) (by simp [Ko, p7]) (by simp [PX, p7]) B7V
  simp [X9, Af, AZ, Fv, EF, Ps, p5, p6, p7];exact this
 ·have E9 := own.op gZ
  have := A3m h c ih ho hs hm hL gZ (.int .i64 0) (.int .i64 0) (.list 3 []) (.int .i64 0) (.int .i64 0) (.int .i64 0) (.str ⟨#[]⟩) (.str ⟨#[]⟩) (.int .i64 0) (.str ⟨#[]⟩) (.int .i64 0) (.int .i64 0) (.bool false) (.list 1 []) (.int .i64 0) (.int .i64 0) (.list 3 []) (.int .i64 0) (.int .i64 0) (.list 3 []) (.list 3 []) (.list 7 []) (.list 20 []) (lo := T9 1) (hi := T9 1) (by simp [Ko, p7]) (by simp only [PX]; rw [if_neg (by omega)]) B2A
  simp [X9, Af, AZ, Fv, EF, Ps, p5, p6, p7];exact this
end
end Go.Su
