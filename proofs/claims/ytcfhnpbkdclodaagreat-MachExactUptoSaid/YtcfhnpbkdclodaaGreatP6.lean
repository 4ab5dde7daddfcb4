/-
  Parts of the proof, merged: Q, TM1, TM2, TM3, TM4, TM5, TM6, TM7, TM8, TM9, TM10.
-/
import Derived.Test.YtcfhnpbkdclodaaGreatP4
import Derived.Test.YtcfhnpbkdclodaaGreatP5
set_option linter.unusedVariables false
set_option linter.unusedSimpArgs false
/-
 The functions' specs that this claim needs.
-/
open Bool renaming false_eq_true → z0q, not_true → z5q, not_false → z11q, not_eq_true' → z14q, true_and → z18q, and_eq_true_iff → z20q, and_eq_true → z29q, eq_iff_iff → z33q, false_and → z38q, and_assoc → z59q, if_true_left → z62q, not_eq_true → z65q
open Int renaming cast_ofNat_Int → z17q, ofNat_inj → z21q, natCast_zero → z26q, ofNat_zero → z34q, lt_irrefl → z37q, ofNat_lt → z46q, natCast_nonneg → z56q, toNat_natCast → z60q
open List renaming getElem_mem → z1q, getElem?_set_ne → z2q, length_map → z3q, getElem?_set_self → z4q, eq_nil_of_length_eq_zero → z6q, getElem?_eq_getElem → z7q, drop_eq_getElem_cons → z9q, map_cons → z10q, mem_cons_of_mem → z12q, length_cons → z13q, mem_cons_self → z15q, map_nil → z16q, getElem?_append_left → z19q, getElem?_cons_zero → z22q, set_set → z24q, getElem?_append_right → z25q, all_cons → z27q, getD_cons_zero → z28q, getElem?_cons_succ → z30q, length_append → z31q, drop_of_length_le → z32q, length_nil → z35q, reverse_cons → z36q, getD_eq_getElem?_getD → z41q, nodup_iff_pairwise_ne → z42q, sum_cons → z43q, pairwise_iff_getElem → z44q, mem_take_iff_getElem → z45q, getElem?_eq_some_iff → z48q, flatMap_cons → z49q, take_of_length_le → z50q, singleton_append → z51q, length_filter_le → z52q, eq_nil_or_concat → z53q, concat_eq_append → z54q, map_append → z55q, mem_cons → z61q, nodup_append → z63q, any_cons → z64q
open Nat renaming le_of_lt → z8q, le_refl → z23q, zero_add → z47q, zero_le → z57q, add_sub_cancel → z58q
open Option renaming isSome_some → z39q, isSome_none → z40q, bind_some → z66q, map_some → z67q
namespace Go.Su
theorem big {n : Nat} (h : n <= lim) : n < 4294967297 := by unfold lim at h; omega
theorem Ty.B7p {t k : Ty} (ht : t.size <= lim) (h : k ∈ t.kids) : k.size <= lim := by have := Ty.IC h; omega
theorem Ty.B1l {t : Ty} (ht : t.size <= lim) : t.kids.length < 4294967296 := by have := t.oH; have := big ht; omega
variable (k : Int)
theorem QV : (run cfg).p Np [.int .i64 k] = some (.int .i64 (arity k)) := by
 refine (y_ _).trans ?_;rw [A2c];simp [arity]
 by_cases h1 : k = 1 <;> by_cases h2 : k = 2 <;> by_cases h3 : k = 3 <;> by_cases h4 : k = 4 <;> by_cases h5 : k = 5 <;> by_cases h6 : k = 6 <;> by_cases h7 : k = 7 <;> by_cases h8 : k = 8 <;> by_cases h9 : k = 9 <;> simp_all
theorem A93 : (run cfg).p jZ [.int .i64 k] = some (.int .i64 (arity k)) := by
 refine (vF _).trans ?_;rw [yc];simp [arity]
 by_cases h1 : k = 1 <;> by_cases h2 : k = 2 <;> by_cases h3 : k = 3 <;> by_cases h4 : k = 4 <;> by_cases h5 : k = 5 <;> by_cases h6 : k = 6 <;> by_cases h7 : k = 7 <;> by_cases h8 : k = 8 <;> by_cases h9 : k = 9 <;> simp_all
variable (t : Ty)
theorem fI : t.thin = true -> (run cfg).p Du [t.enc] = some (.bool t.right) := by
 induction t using Ty.ind with
 | h t ih =>
   intro ht;have hb := t.Ck ht;refine (uZ _).trans ?_;have loop : Gu (run cfg) (.int .i64 0) t.enc = _ := F_ (l := t.kids) (f := Ty.right) (P := fun i => Gu (run cfg) (.int .i64 i) t.enc) (y := .bool true) (n := .bool false)
    (by rw [UY]; simp)
    (fun i h => by
      rw [UY];simp [h, I8 h, Ty.J9, Ty.ag, ih _ (z1q h) (Ty.EN ht (z1q h)), O5 (show i < 9223372036854775807 by omega)]
      cases t.kids[i].right <;> rfl)
   rw [yH];simp only [CR, E5, Ty.K8, Ty.Q0, Ty.Q4, QV, D5, M7, J7, L9, BZ, I6, D8, loop, Ty.right_eq t, z3q]
   grind
theorem A94 : t.thin = true -> (run cfg).p XI [t.enc] = some (.bool t.right) := by
 induction t using Ty.ind with
 | h t ih =>
   intro ht;have hb := t.Ck ht;refine (vG _).trans ?_;have loop : Jl (run cfg) (.list 3 (t.kids.map Ty.enc)) (.int .i64 t.kids.length) (.int .i64 0) = _ := F_ (l := t.kids) (f := Ty.right) (P := fun i => Jl (run cfg) (.list 3 (t.kids.map Ty.enc)) (.int .i64 t.kids.length) (.int .i64 i)) (y := .bool true) (n := .bool false)
    (by rw [Uk]; simp)
    (fun i h => by
      rw [Uk];simp [h, I8 h, Ty.J9, Ty.ag, ih _ (z1q h) (Ty.EN ht (z1q h)), O5 (show i < 9223372036854775807 by omega)]
      cases t.kids[i].right <;> rfl)
   rw [yf];simp only [CR, E5, Ty.K8, Ty.Q0, Ty.Q4, A93, D5, M7, J7, L9, BZ, Ef, Kc, I5, I6, D8, loop, Ty.right_eq t, z3q];have h0 : t.kind = 6 -> arity t.kind = 0 := fun h => by rw [h]; rfl
   have h7 : t.kind = 6 -> arity t.kind = t.kids.length -> t.kids.all Ty.right = true := fun h h' => by
    have : t.kids = [] := z6q (by have := h0 h; omega)
    rw [this]; rfl
   have h8 : (t.kids.length : Int) = arity t.kind ↔ arity t.kind = t.kids.length := eq_comm;simp only [h8, A83, A82];refine B9x ?_
   by_cases h1 : arity t.kind = t.kids.length
   ·have h2 : ¬ (arity t.kind < 0) := by omega
    by_cases h4 : t.kind = 6
    ·simp [h1, h2, h4, h7 h4 h1]
     omega
    ·by_cases h5 : t.n = 0 <;> simp [h1, h2, h4, h5]
   ·by_cases h2 : arity t.kind < 0 <;> simp [h1, h2]
theorem IE (ht : t.thin = true) : (run cfg).p Eu [t.enc] = some (.int .i64 (if t.right = true then 0 else 1)) := by
 refine (vD _).trans ?_;rw [yZ];simp [Ty.J9, Ty.ag, A94 t ht];cases t.right <;> rfl
theorem B0K : t.size <= lim -> (run cfg).p ZY [t.enc] = some (.int .i64 t.size) := by
 induction t using Ty.ind with
 | h t ih =>
   intro ht;have hb := Ty.B1l ht;refine (zC _).trans ?_;rw [A2f];simp only [CR, E5];have loop := A0l (l := t.kids) (P := fun i (a : Nat) => Qf (run cfg) (.int .i64 a) (.int .i64 i) t.enc) (g := fun a k => a + k.size) (fin := fun a => some (.int .i64 a))
    (I := fun i a => a + ((t.kids.drop i).map Ty.size).sum <= lim)
    (fun a _ => by rw [WH]; simp)
    (fun i h a ha => by
      rw [z9q h, z10q, z43q] at ha;have := big ha;refine ⟨?_, by omega⟩
      rw [WH];simp [h, I8 h, Ty.J9, Ty.ag, ih _ (z1q h) (Ty.B7p ht (z1q h)), O5 (show i < 9223372036854775807 by omega)]
      rw [Mx (by omega) (by omega)]
      simp) 1 (by have := Ty.size_eq t; simpa using (by omega : 1 + (t.kids.map Ty.size).sum <= lim))
   have e : ∀ (l : List Ty) (a : Nat), l.foldl (fun a k => a + k.size) a = a + (l.map Ty.size).sum := by
    intro l
    induction l with
    | nil => intro a; simp
    | cons x l ih => intro a; simp [ih]; omega
   rw [e, <- Ty.size_eq] at loop;exact loop
theorem B0X (a : Ty) : a.thin = true -> ∀ b : Ty, (run cfg).p Zk [a.enc, b.enc] = some (.bool (decide (a = b))) := by
 induction a using Ty.ind with
 | h a ih =>
   intro ha b;have hb := a.Ck ha;refine (za _ _).trans ?_;rw [A2C];simp
   by_cases h1 : a.kind = b.kind <;> simp [h1, Ty.ED]
   by_cases h2 : a.n = b.n <;> simp [h2]
   by_cases h3 : a.kids.length = b.kids.length
   ·have loop := NS (l := a.kids) (m := b.kids) h3 (P := fun i => Qt (run cfg) (.list 3 (a.kids.map Ty.enc)) (.int .i64 a.kids.length) (.int .i64 i) b.enc) (y := .bool true) (n := .bool false)
     (by rw [WT]; simp [h3])
     (fun i h => by
       have h' : i < b.kids.length := by omega
       rw [WT];simp [h, h', I8 h, I8 h', Ty.J9, Ty.ag, ih _ (z1q h) (Ty.EN ha (z1q h)), O5 (show i < 9223372036854775807 by omega)])
    simp only [h3] at loop ⊢;simp [loop]
    by_cases h4 : a.kids = b.kids <;> simp [h4]
   ·have : a.kids ≠ b.kids := fun h => h3 (by rw [h])
    simp [z21q, h3, this]
theorem Lh (a : Ty) : a.thin = true -> ∀ b : Ty, (run cfg).p GN [a.enc, b.enc] = some (.bool (decide (a = b))) := by
 induction a using Ty.ind with
 | h a ih =>
   intro ha b;have hb := a.Ck ha;refine (zB _ _).trans ?_;rw [A2e];simp
   by_cases h1 : a.kind = b.kind <;> simp [h1, Ty.ED]
   by_cases h2 : a.n = b.n <;> simp [h2]
   by_cases h3 : a.kids.length = b.kids.length
   ·have loop := NS (l := a.kids) (m := b.kids) h3 (P := fun i => Qe (run cfg) (.int .i64 i) a.enc b.enc) (y := .bool true) (n := .bool false)
     (by rw [WG]; simp [h3])
     (fun i h => by
       have h' : i < b.kids.length := by omega
       rw [WG];simp [h, h', I8 h, I8 h', Ty.J9, Ty.ag, ih _ (z1q h) (Ty.EN ha (z1q h)), O5 (show i < 9223372036854775807 by omega)])
    simp only [h3] at loop ⊢;simp [loop]
    by_cases h4 : a.kids = b.kids <;> simp [h4]
   ·have : a.kids ≠ b.kids := fun h => h3 (by rw [h])
    simp [z21q, h3, this]
theorem A6j (a b : List Ty) (hl : a.length <= lim) (ha : ∀ t ∈ a, t.thin = true) : (run cfg).p YO [.list 3 (a.map Ty.enc), .list 3 (b.map Ty.enc)] = some (.bool (decide (a = b))) := by
 have hb := big hl;refine (iP _ _).trans ?_;rw [mG];simp
 by_cases h3 : a.length = b.length
 ·have loop := NS (l := a) (m := b) h3 (P := fun i => KW (run cfg) (.list 3 (a.map Ty.enc)) (.list 3 (b.map Ty.enc)) (.int .i64 i)) (y := .bool true) (n := .bool false)
   (by rw [PP]; simp [h3])
   (fun i h => by
     have h' : i < b.length := by omega
     rw [PP];simp [h, h', I8 h, I8 h', Ty.J9, Ty.ag, Lh _ (ha _ (z1q h)), O5 (show i < 9223372036854775807 by omega)])
  simp only [h3] at loop ⊢;simp [loop]
  by_cases h4 : a = b <;> simp [h4]
 ·have : a ≠ b := fun h => h3 (by rw [h])
  simp [z21q, h3, this]
theorem A6m (q : Int) (t : Ty) : t.thin = true -> (run cfg).p QZ [t.enc, .int .i64 q] = some (.bool (t.without q)) := by
 induction t using Ty.ind with
 | h t ih =>
   intro ht;have hb := t.Ck ht;refine (iW _ _).trans ?_;have loop : Ho (run cfg) (.int .i64 q) (.list 3 (t.kids.map Ty.enc)) (.int .i64 t.kids.length) (.int .i64 0) = _ := Sw (l := t.kids) (f := Ty.without q) (P := fun i => Ho (run cfg) (.int .i64 q) (.list 3 (t.kids.map Ty.enc)) (.int .i64 t.kids.length) (.int .i64 i))
    (by rw [PV]; simp)
    (fun i h => by
      rw [PV];simp [h, I8 h, Ty.J9, Ty.ag, ih _ (z1q h) (Ty.EN ht (z1q h)), O5 (show i < 9223372036854775807 by omega)]
      cases (t.kids[i].without q) <;> rfl)
   rw [ma];simp only [loop, CR, E5, Ty.K8, Ty.Q4, D5, M7, I5, D8, z3q, Ty.Kr q t]
   by_cases h1 : t.kind = q <;> simp [h1]
theorem oz (q : Int) (t : Ty) : t.thin = true -> (run cfg).p Kw [t.enc, .int .i64 q] = some (.bool (t.without q)) := by
 induction t using Ty.ind with
 | h t ih =>
   intro ht;have hb := t.Ck ht;refine (iQ _ _).trans ?_;have loop : Hl (run cfg) (.int .i64 q) (.int .i64 0) t.enc = _ := Sw (l := t.kids) (f := Ty.without q) (P := fun i => Hl (run cfg) (.int .i64 q) (.int .i64 i) t.enc)
    (by rw [PQ]; simp)
    (fun i h => by
      rw [PQ];simp [h, I8 h, Ty.J9, Ty.ag, ih _ (z1q h) (Ty.EN ht (z1q h)), O5 (show i < 9223372036854775807 by omega)]
      cases (t.kids[i].without q) <;> rfl)
   rw [mH];simp only [loop, CR, E5, Ty.K8, Ty.Q4, D5, M7, I5, D8, z3q, Ty.Kr q t]
   by_cases h1 : t.kind = q <;> simp [h1]
theorem wR (ht : t.thin = true) : (run cfg).p TV [t.enc] = some (.bool (t.without 6)) := by
 refine (nW _).trans ?_;rw [uJ];simp [Ty.J9, Ty.ag, A6m 6 t ht]
theorem B4p (l : List Int) (hl : l.length <= lim) (n : Int) : (run cfg).p A3r [M8 l, .int .i64 n] = some (.bool (decide (n ∈ l))) := by
 have hb := big hl;refine (A46 _ _).trans ?_;rw [A6N];have loop := A0k (l := l) (f := fun x => decide (x = n)) (P := fun i => XK (run cfg) (M8 l) (.int .i64 n) (.int .i64 i))
  (by rw [bM]; simp)
  (fun i h => by
    rw [bM];simp [h, NA h, O5 (show i < 9223372036854775807 by omega)])
 refine loop.trans ?_
 congr 2
 rw [z33q];simp
theorem B0M : ∀ (l : List Int) (sg : List C9), l.length + t.size <= lim -> (run cfg).r ZZ [(t.enc, .val), (M8 l, .own)] sg = some ([M8 (t.LW l)], sg) := by
 induction t using Ty.ind with
 | h t ih =>
   intro l sg hl;have hb := Ty.B1l (show t.size <= lim by omega)
   have hB := big hl;refine (zF _ _ _).trans ?_;have loop : ∀ l : List Int, l.length + (t.kids.map Ty.size).sum <= lim -> Kz (run cfg) (M8 l) (.int .i64 0) t.enc sg = some ([M8 (t.kids.foldl (fun l k => k.LW l) l)], sg) :=
    A0l (l := t.kids) (P := fun i (a : List Int) => Kz (run cfg) (M8 a) (.int .i64 i) t.enc sg) (g := fun a k => k.LW a) (fin := fun a => some ([M8 a], sg))
     (I := fun i a => a.length + ((t.kids.drop i).map Ty.size).sum <= lim)
     (fun a _ => by rw [WI]; simp)
     (fun i h a ha => by
       rw [z9q h, z10q, z43q] at ha;have h1 := Ty.B2Z t.kids[i] a;refine ⟨?_, by omega⟩
       rw [WI];simp [h, I8 h, Ty.J9, Ty.ag, ih _ (z1q h) a sg (by omega), O5 (show i < 9223372036854775807 by omega)])
   have BF := Ty.size_eq t;rw [A2h, Ty.A7r];simp
   by_cases h6 : t.kind = 6
   ·simp [h6, B4p l (by omega) t.n]
    by_cases hn : t.n ∈ l
    ·simp [hn, Qu, loop l (by omega)]
    ·simp [hn, Qu]
     rw [show M8 l = .list 1 (l.map fun n => .int .i64 n) from rfl, M_ (by simp; omega)]
     simp;have := loop (l ++ [t.n]) (by simp; omega)
     simpa [M8] using this
   ·simp [h6, Qu, loop l (by omega)]
theorem B0L (ht : t.size <= lim) : (run cfg).p pJ [t.enc] = some (M8 t.vars) := by
 refine (zD _).trans ?_;rw [A2g];have := B0M t [] [] (by simpa using ht)
 have e : M8 [] = .list 1 [] := rfl;rw [e] at this;simp [Ty.J9, Ty.ag, this, Ty.vars]
theorem A9O : ∀ n : Int, t.thin = true -> 0 <= n -> n <= 1048576 -> ∃ m : Int, (run cfg).p XA [t.enc, .int .i64 n] = some (.int .i64 m) /\ 0 <= m /\ m <= max (n + 1) 601 := by
 induction t using Ty.ind with
 | h t ih =>
   intro n ht h0 h1;have hb := t.Ck ht;have loop : ∀ m : Int, 0 <= m -> m <= 1048577 -> ∃ r : Int, Jg (run cfg) (.int .i64 m) (.int .i64 0) t.enc = some (.int .i64 r) /\ 0 <= r /\ r <= max m 601 := by
    have key : ∀ (k i : Nat) (m : Int), i + k = t.kids.length -> 0 <= m -> m <= 1048577 -> ∃ r : Int, Jg (run cfg) (.int .i64 m) (.int .i64 i) t.enc = some (.int .i64 r) /\ 0 <= r /\ r <= max m 601 := by
     intro k
     induction k with
     | zero =>
       intro i m hi h0 h1;rw [UI];have : ¬ i < t.kids.length := by omega
       exact ⟨m, by simp [this], h0, by omega⟩
     | succ k ihk =>
       intro i m hi h0 h1;have h : i < t.kids.length := by omega
       rw [UI]
       by_cases hm : m <= 600
       ·obtain ⟨r, hr, hr0, NN⟩ := ih _ (z1q h) m (Ty.EN ht (z1q h)) h0 (by omega)
        obtain ⟨s, hs, hs0, ER⟩ := ihk (i + 1) r (by omega) hr0 (by omega)
        push_cast at hs;exact ⟨s, by simp [h, hm, I8 h, Ty.J9, Ty.ag, hr, O5 (show i < 9223372036854775807 by omega), hs], hs0, by omega⟩
       ·exact ⟨m, by simp [h, hm], h0, by omega⟩
    exact fun m h0 h1 => key t.kids.length 0 m (by omega) h0 h1
   obtain ⟨r, hr, hr0, NN⟩ := loop (n + 1) (by omega) (by omega)
   refine ⟨r, (uT _ _).trans ?_, hr0, NN⟩;rw [yB];simp;rw [Mx (by omega) (by omega)]
   simpa using hr
theorem A7H (ht : t.thin = true) : ∃ b : Bool, (run cfg).p jN [.list 3 [t.enc]] = some (.bool b) := by
 obtain ⟨m, h1, h2, h3⟩ := A9O t 0 ht (by omega) (by omega)
 refine ⟨decide (600 < m), (uS _).trans ?_⟩;rw [yA, UH];have e0 : F5 3 (.list 3 [t.enc]) (.int .i64 0) = some t.enc := by simp [F5]
 simp [e0, Ty.J9, Ty.ag, h1, Mx (show (-9223372036854775808 : Int) <= 0 + 1 by omega) (by omega)]
 rw [UH];simp
theorem B0O : ∀ n : Int, -9223372036854775000 <= n -> n <= 1000 -> t.thin = true -> (run cfg).p Zb [t.enc, .int .i64 n] = some (.bool (t.deep n)) := by
 induction t using Ty.ind with
 | h t ih =>
   intro n hn0 hn ht;have hb := t.Ck ht;refine (zH _ _).trans ?_;rw [A2j, Ty.B68];simp
   by_cases h0 : n <= 0
   ·simp [h0]
   ·have loop := A0k (l := t.kids) (f := fun k => k.deep (n - 1)) (P := fun i => Qh (run cfg) (.int .i64 n) (.int .i64 i) t.enc)
     (by rw [WL]; simp)
     (fun i h => by
       rw [WL];simp [h, I8 h, Ty.J9, Ty.ag, Fy, BS (show (-9223372036854775808 : Int) <= n - 1 by omega) (by omega), ih _ (z1q h) (n - 1) (by omega) (by omega) (Ty.EN ht (z1q h)), O5 (show i < 9223372036854775807 by omega)])
    simp only [h0, decide_false, Bool.false_or];exact loop
variable (s : ByteArray)
theorem B00 : (run cfg).p pX [.str s] = some (.bool (A3K s)) := by
 refine (zi _).trans ?_;rw [A2H];have e : ∀ l : List UInt8, (s = ⟨l.toArray⟩) ↔ s.data.toList = l := fun l => by
  constructor
  ·rintro rfl; simp
  ·intro h; cases s; simp only [ByteArray.mk.injEq]; exact Array.ext' (by simpa using h)
 simp only [KP, D5, D8];simp only [e, A3K, A52, z61q, List.not_mem_nil, or_false];simp only [decide_eq_true_eq, C0q, A82, z62q, Bool.decide_or, Bool.or_false]
variable (c : Int)
theorem A7R : (run cfg).p aW [.int .u8 c] = some (.bool (Oh c)) := by
 refine (nZ _).trans ?_;rw [uN];simp only [Ef, Kc, I5, D5, I6, decide_eq_true_eq, Oh, lowerB, xw]
 by_cases h1 : 97 <= c <;> by_cases h2 : c <= 122 <;> by_cases h3 : 65 <= c <;> by_cases h4 : c <= 90 <;> by_cases h5 : 48 <= c <;> by_cases h6 : c <= 57 <;> by_cases h7 : c = 95 <;> simp [h1, h2, h3, h4, h5, h6, h7]
theorem fH : (run cfg).p Pi [.int .u8 c] = some (.bool (lowerB c)) := by
 refine (uY _).trans ?_;rw [yG];simp only [Ef, Kc, D5, I6, decide_eq_true_eq, lowerB]
 by_cases h1 : 97 <= c <;> simp [h1]
theorem A9S : (run cfg).p jS [.int .u8 c] = some (.bool (xw c)) := by
 refine (uX _).trans ?_;rw [yF];simp only [Ef, Kc, D5, I6, decide_eq_true_eq, xw]
 by_cases h1 : 48 <= c <;> simp [h1]
theorem B0J : (run cfg).p pI [.int .u8 c] = some (.bool (Oh c)) := by
 refine (yz _).trans ?_;rw [A2b];simp only [Ef, Kc, I5, D5, I6, decide_eq_true_eq, fH, A9S, Oh]
 by_cases h1 : lowerB c = true <;> by_cases h2 : xw c = true <;> by_cases h3 : 65 <= c <;> by_cases h4 : c <= 90 <;> by_cases h7 : c = 95 <;> simp [h1, h2, h3, h4, h7]
theorem B1H {s : ByteArray} (h : s.size <= lim) : (Ar s).length < 4294967297 := by rw [La]; exact big h
theorem A0P (hs : s.size <= lim) : (run cfg).p XJ [.str s] = some (.bool (Oe s)) := by
 have hb := B1H hs;refine (vI _).trans ?_;rw [ym];simp only [Cn, D5, L9, BZ, I6, D8, decide_eq_true_eq, Oe, <- La]
 by_cases h1 : ((Ar s).length : Int) < 1
 ·have : ¬ (1 <= (Ar s).length) := by omega
  simp [h1, this]
 ·by_cases h2 : (32 : Int) < ((Ar s).length : Int)
  ·have : ¬ ((Ar s).length <= 32) := by omega
   simp [h1, h2, this]
  ·have h0 : 0 < (Ar s).length := by omega
   have e0 := bC (s := s) (k := .i64) h0;simp only [z26q, z34q, z17q] at e0;have loop : ∀ (k i : Nat), i + k = (Ar s).length -> OJ (run cfg) (.str s) (.int .i64 i) = some (.bool (((Ar s).drop i).all Oh)) := by
    intro k
    induction k with
    | zero =>
      intro i hi;rw [Ul];have : ¬ i < (Ar s).length := by omega
      simp [<- La, this, z32q (show (Ar s).length <= i by omega)]
    | succ k ih =>
      intro i hi;have h : i < (Ar s).length := by omega
      rw [Ul];have := ih (i + 1) (by omega)
      push_cast at this;have L8 : (i : Int) < (s.size : Int) := by rw [<- La]; omega
      rw [z9q h, z27q];simp only [Cn, D5, L9, L8, decide_true, D8, if_true, bC h, A7R, K6, O5 (show i < 9223372036854775807 by omega)]
      push_cast;rw [this];cases Oh (Ar s)[i] <;> rfl
   have l1 := loop ((Ar s).length - 1) 1 (by omega)
   simp only [Int.natCast_one, Int.ofNat_one, z17q] at l1;have g0 : (Ar s).getD 0 0 = (Ar s)[0] := by simp [z41q, h0]
   have d0 : Ar s = (Ar s)[0] :: (Ar s).drop 1 := by
    have := z9q h0;simpa using this
   have a1 : (1 <= (Ar s).length) := by omega
   have a2 : ((Ar s).length <= 32) := by omega
   have e0' : j6 (.str s) (.int .i64 0) = some (.int .u8 (Ar s)[0]) := e0;simp only [h1, h2, if_false, e0', D5, L9, BZ, I6, decide_eq_true_eq, B00, D8, g0, a1, a2, decide_true, z18q]
   by_cases h3 : (Ar s)[0] < 97
   ·have : lowerB (Ar s)[0] = false := by simp [lowerB]; omega
    simp [h3, this]
   ·by_cases h4 : (122 : Int) < (Ar s)[0]
    ·have : lowerB (Ar s)[0] = false := by simp [lowerB]; omega
     simp [h3, h4, this]
    ·have h5 : lowerB (Ar s)[0] = true := by simp [lowerB]; omega
     have h6 : Oh (Ar s)[0] = true := by simp [Oh, h5]
     have h7 : (Ar s).all Oh = ((Ar s).drop 1).all Oh := by
      conv => lhs; rw [d0]
      simp [h6]
     cases hk : A3K s
     ·simp only [h3, h4, if_false, z0q, h5, h7, z18q, z11q, Bool.and_true]
      exact l1
     ·simp [h3, h4]
open Classical in
theorem B2M (hs : s.size <= 4294967000) : (run cfg).p wU [.str s] = some (.bool (A3K s)) := by
 have hb : (Ar s).length <= 4294967000 := by rw [La]; exact hs
 refine (A2L _).trans ?_;rw [A4V]
 let t : ByteArray := ⟨#[32]⟩ ++ s ++ ⟨#[32]⟩
 have tl : t.data.toList = 32 :: s.data.toList ++ [32] := by simp [t]
 have ts : t.size = s.size + 2 := by
  have := congrArg List.length tl;simp only [Array.length_toList, z31q, z13q, z35q] at this;have e1 : t.size = t.data.size := rfl;have e2 : s.size = s.data.size := rfl;omega
 have search : ∀ (k i : Nat), i + k = 82 -> Mq (run cfg) (.str s) (.str t) (.int .i64 i) = some (.bool (decide (0 < s.size /\ ∃ j, i <= j /\ j + t.size <= 81 /\ (CY.drop j).take t.size = t.data.toList))) := by
  intro k
  induction k with
  | zero =>
    intro i hi;rw [YW];simp only [Cn, D5];rw [Mx (by omega) (by omega)]
    have : ¬ ((i : Int) + (t.size : Int) <= 81) := by omega
    have h2 : ¬ (0 < s.size /\ ∃ j, i <= j /\ j + t.size <= 81 /\ (CY.drop j).take t.size = t.data.toList) := by rintro ⟨-, j, h1, h2, -⟩; omega
    simp [this, h2]
  | succ k ih =>
    intro i hi;rw [YW];simp only [Cn, D5];rw [Mx (by omega) (by omega)]
    by_cases h1 : (i : Int) + (t.size : Int) <= 81
    ·have h1' : i + t.size <= 81 := by omega
     have nx := ih (i + 1) (by omega)
     simp only [Kc, h1, decide_true, D5, D8, if_true, BZ, I6, decide_eq_true_eq];rw [show ((i + 1 : Nat) : Int) = (i : Int) + 1 by omega] at nx
     by_cases h0 : (0 : Int) < (s.size : Int)
     ·have VD : 0 < s.size := by omega
      have ext : ∀ w : ByteArray, w.data.toList = CY -> lW (.str w) (some (.int .i64 (i : Int))) (some (.int .i64 ((i : Int) + (t.size : Int)))) = some (.str (w.extract i (i + t.size))) := by
       intro w hw;have hwl : w.size = 81 := by
        have := congrArg List.length hw;rw [B4N] at this;simpa using this
       have e1 : ((i : Int) + (t.size : Int)).toNat = i + t.size := by omega
       simp only [lW, bnd, D5, e1, show (0 : Int) <= (i : Int) + (t.size : Int) by omega, if_true, z56q, z60q, hwl]
       rw [if_pos (by omega)]
      simp only [h0, if_true];rw [ext _ rfl];simp only [D5, KP, D8, decide_eq_true_eq];rw [O5 (by omega)]
      simp only [D5];rw [show ((i + 1 : Nat) : Int) = (i : Int) + 1 by omega, nx]
      have exl : ∀ w : ByteArray, w.data.toList = CY -> ((w.extract i (i + t.size) = t) ↔ (CY.drop i).take t.size = t.data.toList) := by
       intro w hw;have e : (w.extract i (i + t.size)).data.toList = (CY.drop i).take t.size := by
        rw [ByteArray.data_extract, Array.toList_extract, hw, List.extract_eq_take_drop]
        congr 1
        omega
       rw [<- e];constructor
       ·intro h; rw [h]
       ·intro h
        cases hx : w.extract i (i + t.size);rw [hx] at h;cases ht : t;rw [ht] at h;simp only [ByteArray.mk.injEq];exact Array.ext' h
      by_cases h2 : (CY.drop i).take t.size = t.data.toList
      ·rw [if_pos ((exl _ rfl).2 h2)]
       have : (0 < s.size /\ ∃ j, i <= j /\ j + t.size <= 81 /\ (CY.drop j).take t.size = t.data.toList) := ⟨VD, i, z23q _, h1', h2⟩;simp [this]
      ·rw [if_neg (fun h => h2 ((exl _ rfl).1 h))]
       congr 2
       rw [z33q];simp only [decide_eq_true_eq];constructor
       ·rintro ⟨a, j, b, c⟩; exact ⟨a, j, by omega, c⟩
       ·rintro ⟨a, j, b, c, d⟩
        refine ⟨a, j, ?_, c, d⟩;rcases Nat.lt_or_ge i j with h | h
        ·exact h
        ·exact absurd (by rw [show i = j by omega]; exact d) h2
     ·have : ¬ (0 < s.size /\ ∃ j, i <= j /\ j + t.size <= 81 /\ (CY.drop j).take t.size = t.data.toList) := fun h => h0 (by have := h.1; omega)
      have C0G : ¬ (0 < s.size /\ ∃ j, i + 1 <= j /\ j + t.size <= 81 /\ (CY.drop j).take t.size = t.data.toList) := fun h => h0 (by have := h.1; omega)
      simp only [h0, if_false];rw [O5 (by omega)]
      simp only [D5];rw [show ((i + 1 : Nat) : Int) = (i : Int) + 1 by omega, nx]
      simp [this, C0G]
    ·have h2 : ¬ (0 < s.size /\ ∃ j, i <= j /\ j + t.size <= 81 /\ (CY.drop j).take t.size = t.data.toList) := by rintro ⟨-, j, h3, h4, -⟩; omega
     simp [h1, h2]
 have fin : (s.data.toList.all A3L = true /\ 0 < s.size /\ ∃ j, 0 <= j /\ j + t.size <= 81 /\ (CY.drop j).take t.size = t.data.toList) ↔ s.data.toList ∈ A52 := by
  rw [<- B4M];have e2 : s.data.toList.length = s.size := by simp
  rw [e2, ts, tl];simp
 have low : ∀ b : UInt8, lowerB (b.toNat : Int) = A3L b := by
  intro b;simp only [lowerB, A3L, UInt8.le_iff_toNat_le];rw [z33q];simp only [z29q, decide_eq_true_eq];have h1 : (97 : UInt8).toNat = 97 := rfl;have h2 : (122 : UInt8).toNat = 122 := rfl;rw [h1, h2];omega
 have loop : ∀ (k i : Nat), i + k = (Ar s).length -> Tp (run cfg) (.str s) (.int .i64 i) = some (.bool (decide (((Ar s).drop i).all lowerB = true /\ 0 < s.size /\ ∃ j, 0 <= j /\ j + t.size <= 81 /\ (CY.drop j).take t.size = t.data.toList))) := by
  intro k
  induction k with
  | zero =>
    intro i hi;rw [YV];have L8 : ¬ (i : Int) < (s.size : Int) := by rw [<- La]; omega
    have e1 : A8 .add (.str ⟨#[32]⟩) (.str s) = some (.str (⟨#[32]⟩ ++ s)) := by
     simp only [A8, lX];rw [if_pos];have : (⟨#[32]⟩ : ByteArray).size = 1 := rfl;unfold lim; omega
    have e2 : A8 .add (.str (⟨#[32]⟩ ++ s)) (.str ⟨#[32]⟩) = some (.str t) := by
     simp only [A8, lX];rw [if_pos];have h1 : (⟨#[32]⟩ : ByteArray).size = 1 := rfl;have h2 : (⟨#[32]⟩ ++ s : ByteArray).size = s.size + 1 := by
      have := ByteArray.size_append (a := ⟨#[32]⟩) (b := s);omega
     unfold lim; omega
    have := search 82 0 rfl;simp only [z26q, z34q, z17q] at this;simp only [Cn, D5, L9, L8, decide_false, D8, z0q, if_false, e1, e2, z32q (show (Ar s).length <= i by omega), List.all_nil, true_and]
    exact this
  | succ k ih =>
    intro i hi;have h : i < (Ar s).length := by omega
    rw [YV];have := ih (i + 1) (by omega)
    push_cast at this;have L8 : (i : Int) < (s.size : Int) := by rw [<- La]; omega
    rw [z9q h, z27q];simp only [Cn, D5, L9, L8, decide_true, D8, if_true, bC h, fH, K6, O5 (show i < 9223372036854775807 by omega)]
    push_cast;rw [this];cases lowerB (Ar s)[i] <;> simp
 have l0 := loop (Ar s).length 0 (by omega)
 simp only [z26q, z34q, z17q] at l0;have e3 : (Ar s).all lowerB = s.data.toList.all A3L := by
  simp only [Ar, List.all_map]
  congr 1
  funext b
  exact low b
 refine l0.trans ?_;rw [List.drop_zero, e3];simp only [fin, A3K]
theorem kR (hs : s.size <= 4294967000) : (run cfg).p Ic [.str s] = some (.bool (Oe s)) := by
 have hb := B1H (s := s) (by unfold lim; omega)
 refine (yx _).trans ?_;rw [A2a];have h32 : A8 .gtr (.int .i64 (s.size : Int)) (.int .i64 32) = some (.bool (decide (32 < s.size))) := by
  rw [BZ]; congr 2; rw [decide_eq_decide]; omega
 simp only [Cn, D5, L9, h32, I6, D8, decide_eq_true_eq, Oe]
 by_cases h1 : (s.size : Int) < 1
 ·have : ¬ (1 <= s.size) := by omega
  simp [h1, this]
 ·by_cases h2 : 32 < s.size
  ·have : ¬ (s.size <= 32) := by omega
   simp [h1, h2, this]
  ·have h0 : 0 < (Ar s).length := by rw [La]; omega
   have loop : ∀ (k i : Nat), i + k = (Ar s).length -> Qd (run cfg) (.str s) (.int .i64 i) = some (.bool (((Ar s).drop i).all Oh && !A3K s)) := by
    intro k
    induction k with
    | zero =>
      intro i hi;rw [WF];have L8 : ¬ (i : Int) < (s.size : Int) := by rw [<- La]; omega
      simp [L8, z32q (show (Ar s).length <= i by omega), B2M s hs]
    | succ k ih =>
      intro i hi;have h : i < (Ar s).length := by omega
      rw [WF];have := ih (i + 1) (by omega)
      push_cast at this;have L8 : (i : Int) < (s.size : Int) := by rw [<- La]; omega
      rw [z9q h, z27q];simp only [Cn, D5, L9, L8, decide_true, D8, if_true, bC h, B0J, K6, O5 (show i < 9223372036854775807 by omega)]
      push_cast;rw [this];cases Oh (Ar s)[i] <;> rfl
   have l0 := loop (Ar s).length 0 (by omega)
   simp only [z26q, z34q, z17q, List.drop_zero] at l0;have g0 : (Ar s).getD 0 0 = (Ar s)[0] := by simp [z41q, h0]
   have e0' : j6 (.str s) (.int .i64 0) = some (.int .u8 (Ar s)[0]) := bC (s := s) (k := .i64) h0;have a1 : (1 <= s.size) := by omega
   have a2 : (s.size <= 32) := by omega
   simp only [h1, h2, if_false, e0', D5, fH, K6, D8, g0, a1, a2, decide_true, z18q, l0];cases lowerB (Ar s)[0] <;> simp
theorem BR : (.str ⟨#[]⟩ : DV) = .str N9 := rfl
variable (p : D9)
theorem A6l (hp : p.texts) : (run cfg).p YP [p.enc] = some (.bool p.one) := by
 obtain ⟨hn, hs⟩ := hp;have h24 : ∀ (t4 : Int) (a b c g : DV) (nm : ByteArray) (n : Int) (s : ByteArray), z8 (run cfg) (.int .i64 t4) p.enc a b c (.str nm) (.int .i64 n) (.str s) g =
  some (.bool (decide ((p.kids.length : Int) = t4) && decide (nm = p.name) && decide (n = p.n) && decide (s = p.s))) := by
  intro t4 a b c g nm n s;rw [ZE];simp only [D9.Md, D9.Q5, D9.Q7, D9.Jd, M7, z3q, D5, I5, KP, I6, decide_eq_true_eq]
  by_cases h1 : (p.kids.length : Int) = t4 <;> by_cases h2 : nm = p.name <;> by_cases h3 : n = p.n <;> simp [h1, h2, h3]
 refine (iV _).trans ?_;rw [mZ];have EI : A8 .gtr (.int .i64 (p.s.size : Int)) (.int .i64 200) = some (.bool (decide (200 < p.s.size))) := by
  rw [BZ]; congr 2; rw [decide_eq_decide]; omega
 simp only [EJ, E5, D9.pj, P5, Cf, kK, I5, J7, D5, D8, I6, A0P p.name (by unfold lim; omega), K6, Cn, EI, h24, BR]
 unfold D9.one
 by_cases k1 : p.kind = 1
 ·simp [k1, eq_comm]
 by_cases k6 : p.kind = 6
 ·simp [k6, eq_comm]
 by_cases k8 : p.kind = 8
 ·simp [k8, eq_comm]
 by_cases k2 : p.kind = 2
 ·cases hnm : Oe p.name <;> simp [k2, hnm, eq_comm]
 by_cases k3 : p.kind = 3
 ·simp [k3, eq_comm]
 by_cases k4 : p.kind = 4
 ·by_cases n0 : p.n = 0
  ·simp [k4, n0, eq_comm]
  ·by_cases n1 : p.n = 1 <;> simp [k4, n0, n1, eq_comm]
 by_cases k5 : p.kind = 5
 ·by_cases h : 200 < p.s.size
  ·have : ¬ p.s.size <= 200 := by omega
   simp [k5, h, this]
  ·have : p.s.size <= 200 := by omega
   simp [k5, h, this, eq_comm]
 have h2 : decide (2 = (p.kids.length : Int)) = decide (2 = p.kids.length) := by rw [decide_eq_decide]; omega
 by_cases k7 : p.kind = 7
 ·simp [k7, eq_comm, h2]
 by_cases k9 : p.kind = 9
 ·simp [k9, eq_comm, h2]
 simp [k1, k2, k3, k4, k5, k6, k7, k8, k9]
theorem B2O : p.thin = true -> p.txt -> (run cfg).p fT [p.enc] = some (.bool p.pat) := by
 induction p using D9.ind with
 | h p ih =>
   intro ht hx;have hb := p.Ck ht;obtain ⟨hn, hs⟩ := hx p p.B55;have loop : K_ (run cfg) (.int .i64 p.kids.length) (.int .i64 0) p.enc = some (.bool (p.kids.all D9.pat)) :=
    Sw (l := p.kids) (f := D9.pat) (P := fun i => K_ (run cfg) (.int .i64 p.kids.length) (.int .i64 i) p.enc)
     (by rw [WK]; simp)
     (fun i h => by
       rw [WK];simp [h, I8 h, D9.J9, D9.ag, ih _ (z1q h) (D9.EN ht (z1q h)) (D9.B7V hx (z1q h)), O5 (show i < 9223372036854775807 by omega)]
       cases p.kids[i].pat <;> rfl)
   have h25 : ∀ (t4 : Int) (a : DV) (nm : ByteArray) (n : Int) (s : ByteArray), CO (run cfg) (.int .i64 t4) p.enc a (.str nm) (.int .i64 n) (.str s) =
    some (.bool ((decide ((p.kids.length : Int) = t4) && decide (p.name = nm) && decide (p.n = n) && decide (p.s = s)) && p.kids.all D9.pat)) := by
    intro t4 a nm n s;rw [tC];simp only [D9.Md, D9.Q5, D9.Q7, D9.Jd, M7, z3q, D5, J7, Xl, I6, D8, decide_eq_true_eq]
    by_cases h1 : (p.kids.length : Int) = t4 <;> by_cases h2 : p.name = nm <;> by_cases h3 : p.n = n <;> by_cases h4 : p.s = s <;> simp [h1, h2, h3, h4]
    rw [<- h1];rw [loop]
   refine (A2N _).trans ?_;rw [A4X];have EI : A8 .gtr (.int .i64 (p.s.size : Int)) (.int .i64 200) = some (.bool (decide (200 < p.s.size))) := by
    rw [BZ]; congr 2; rw [decide_eq_decide]; omega
   simp only [EJ, E5, D9.pj, P5, Cf, kK, I5, J7, L9, BZ, D5, D8, I6, kR p.name hn, K6, Cn, h25, BR];rw [D9.eZ];unfold D9.one
   by_cases k1 : p.kind = 1
   ·simp [k1]
   by_cases k6 : p.kind = 6
   ·simp [k6]
   by_cases k8 : p.kind = 8
   ·simp [k8]
   by_cases k2 : p.kind = 2
   ·cases hnm : Oe p.name <;> simp [k2, hnm]
   by_cases k3 : p.kind = 3
   ·simp [k3]
   by_cases k4 : p.kind = 4
   ·by_cases n0 : p.n < 0
    ·have h1 : ¬ (p.n = 0 \/ p.n = 1) := by omega
     simp [k4, n0, h1]
    ·by_cases n1 : 1 < p.n
     ·have h1 : ¬ (p.n = 0 \/ p.n = 1) := by omega
      simp [k4, n0, n1, h1]
     ·have h1 : (p.n = 0 \/ p.n = 1) := by omega
      simp [k4, n0, n1, h1]
   by_cases k5 : p.kind = 5
   ·by_cases h : (200 : Int) < (p.s.size : Int)
    ·have : ¬ p.s.size <= 200 := by omega
     simp [k5, h, this]
    ·have : p.s.size <= 200 := by omega
     simp [k5, h, this]
   by_cases k7 : p.kind = 7
   ·simp [k7]
    have : ((p.kids.length : Int) = 2) ↔ (p.kids.length = 2) := by omega
    simp [this]
   by_cases k9 : p.kind = 9
   ·simp [k9]
    have : ((p.kids.length : Int) = 2) ↔ (p.kids.length = 2) := by omega
    simp [this]
   simp [k1, k2, k3, k4, k5, k6, k7, k8, k9]
theorem A9U (t : D9) : ∀ (l : List ByteArray) (sg : List C9), l.length + t.size <= lim -> (run cfg).r XC [(t.enc, .val), (Cb l, .own)] sg = some ([Cb (t.Em l)], sg) := by
 induction t using D9.ind with
 | h t ih =>
   intro l sg hl;have hb := D9.Ck _ (D9.FU (show t.size <= lim by omega))
   have hB := big hl;refine (ug _ _ _).trans ?_;have loop : ∀ l : List ByteArray, l.length + (t.kids.map D9.size).sum <= lim -> Gv (run cfg) (Cb l) (.int .i64 0) t.enc sg = some ([Cb (t.kids.foldl (fun l k => k.Em l) l)], sg) :=
    A0l (l := t.kids) (P := fun i (a : List ByteArray) => Gv (run cfg) (Cb a) (.int .i64 i) t.enc sg) (g := fun a k => k.Em a) (fin := fun a => some ([Cb a], sg))
     (I := fun i a => a.length + ((t.kids.drop i).map D9.size).sum <= lim)
     (fun a _ => by rw [Ua]; simp)
     (fun i h a ha => by
       rw [z9q h, z10q, z43q] at ha;have h1 := D9.A3h t.kids[i] a;refine ⟨?_, by omega⟩
       rw [Ua];simp [h, I8 h, D9.J9, D9.ag, ih _ (z1q h) a sg (by omega), O5 (show i < 9223372036854775807 by omega)])
   have BF := D9.size_eq t;rw [yJ, D9.qX];simp
   by_cases h6 : t.kind = 2
   ·simp [h6]
    rw [show Cb l = .list 1 (l.map fun n => .str n) from rfl, M_ (by simp; omega)]
    have := loop (l ++ [t.name]) (by simp; omega)
    simpa [Cb] using this
   ·simp [h6, loop l (by omega)]
theorem A9T (t : D9) (ht : t.size <= lim) : (run cfg).p jT [t.enc] = some (Cb t.names) := by
 refine (uf _).trans ?_;rw [yI];have := A9U t [] [] (by simpa using ht)
 have e : Cb [] = .list 1 [] := rfl;rw [e] at this;simp [D9.J9, D9.ag, this, D9.names]
variable (l : List ByteArray) (n : ByteArray)
def Yk : Bool := l.any fun x => decide (x = n)
theorem dX {l : List ByteArray} {n : ByteArray} : Yk l n = true ↔ n ∈ l := by simp [Yk]
theorem B2N (hl : l.length <= lim) (n : ByteArray) : (run cfg).p wV [Cb l, .str n] = some (.bool (Yk l n)) := by
 have hb := big hl;refine (A2M _ _).trans ?_;rw [A4W];have loop := A0k (l := l) (f := fun x => decide (x = n)) (P := fun i => Tt (run cfg) (Cb l) (.str n) (.int .i64 i))
  (by rw [YX]; simp)
  (fun i h => by
    rw [YX];simp [h, A6J h, O5 (show i < 9223372036854775807 by omega)])
 exact loop
variable {α : Type}
theorem B12 {e : α -> DV} {l : List α} {i : Nat} (h : i <= l.length) (sz : Nat) : Ak sz (.list sz (l.map e)) none (some (.int .i64 (i : Int))) = some (.list sz ((l.take i).map e)) := by
 simp [Ak, bnd, h, List.map_take]
theorem B2y [DecidableEq α] (l : List α) : (∀ (i : Nat) (h : i < l.length), l[i] ∉ l.take i) ↔ l.Nodup := by
 constructor
 ·intro h
  rw [z42q, z44q];intro i j hi hj PH he;exact h j hj (by rw [<- he]; exact z45q.2 ⟨i, by omega, rfl⟩)
 ·intro h i hi hm
  obtain ⟨j, hj, he⟩ := z45q.1 hm;rw [z42q, z44q] at h;exact h j i (by omega) hi (by omega) he
open Classical in
theorem A5I (ht : p.size <= lim) (hx : p.txt) : (run cfg).p Vp [p.enc] = some (.bool p.right) := by
 refine (bz _).trans ?_;rw [gm];have hnl : p.names.length <= lim := by have := D9.A3h p []; simp at this; unfold D9.names; omega
 have hb := big hnl;simp [D9.J9, D9.ag, B2O p (D9.FU ht) hx, A9T p ht, D9.right];cases hp : p.pat
 ·simp
 ·simp
  have loop : ∀ (k i : Nat), i + k = p.names.length -> JY (run cfg) (Cb p.names) (.int .i64 i) = some (.bool (decide (∀ j (h : j < p.names.length), i <= j -> p.names[j] ∉ p.names.take j))) := by
   intro k
   induction k with
   | zero =>
     intro i hi;rw [NH];have : ¬ i < p.names.length := by omega
     have h2 : ∀ j (h : j < p.names.length), i <= j -> p.names[j] ∉ p.names.take j := fun j h h' => by omega
     simp [this];exact h2
   | succ k ih =>
     intro i hi;have h : i < p.names.length := by omega
     have nx := ih (i + 1) (by omega)
     push_cast at nx;rw [NH];have sl : Ak 1 (Cb p.names) none (some (.int .i64 (i : Int))) = some (Cb (p.names.take i)) := B12 (by omega) 1
     simp [h, sl, A6J h, B2N (p.names.take i) (by simp; omega), O5 (show i < 9223372036854775807 by omega), nx]
     by_cases hm : p.names[i] ∈ p.names.take i
     ·simp only [dX.2 hm, if_true, sF]
      congr 2
      symm
      rw [decide_eq_false_iff_not];exact fun hh => hh i h (z23q _) hm
     ·have hm' : ¬ (Yk (p.names.take i) p.names[i] = true) := fun h => hm (dX.1 h)
      have C1o : Yk (p.names.take i) p.names[i] = false := by simpa using hm'
      simp only [C1o, z0q, if_false]
      congr 2
      rw [decide_eq_decide];constructor
      ·intro hh j hj PH
       rcases Nat.lt_or_ge i j with h1 | h1
       ·exact hh j hj h1
       ·have : i = j := by omega
        subst this;exact hm
      ·intro hh j hj PH
       exact hh j hj (by omega)
  have l0 := loop p.names.length 0 (by omega)
  simp only [z26q, z34q, z17q] at l0;rw [l0]
  congr 2
  rw [decide_eq_decide, <- B2y];simp
variable (es : List (DV × DV))
def A8m (s : ByteArray) : DV := (FQ es (.str s)).getD (.int .i64 0)
def bA (a b c e : C9) (n : Int) (es : List (DV × DV)) : List C9 := [a, .box [(.int .i64 n, .val)], .map true es, .box [(.undef, .map 2)], e]
theorem B3g (t0 t6 : DV) (a b c e : C9) (n : Int) (es : List (DV × DV)) : AC (run cfg) t0 t6 .ret (bA a b c e n es) = some (.int .i64 n) := by
 rw [MO];rfl
theorem B65 (t0 t6 : DV) (a b c e : C9) (n : Int) (es : List (DV × DV)) : AC (run cfg) t0 t6 .normal (bA a b c e n es) = some (.int .i64 0) := by
 rw [Jr];rfl
theorem A6G (t0 t6 : DV) (a b c e : C9) : ∀ (ps : List D9) (pre : List ByteArray) (es : List (DV × DV)), (∀ q ∈ ps, q.texts) -> pre.Nodup -> (∀ s, A8m es s = .int .i64 (if Yk pre s = true then 1 else 0)) ->
 Df (run cfg) t0 t6 (ps.map D9.enc) (bA a b c e 0 es) = some (.int .i64 (if ps.all D9.one = true /\ (pre ++ ps.flatMap Yn).Nodup then 0 else 1))
 | [], pre, es, _, hn, _ => by
   rw [z16q, Pn, B65];simp [hn]
 | q :: ps, pre, es, hx, hn, hc => by
   rw [z10q, Ot, SF];have hq := hx q (z15q ..);simp only [EJ, E5, D9.pj, D9.J9, D9.ag, A6l q hq, D5, K6, I6, I5];have Az : E9 (bA a b c e 0 es) 1 = some [(.int .i64 0, .val)] := rfl;have sg3 : E9 (bA a b c e 0 es) 3 = some [(.undef, .map 2)] := rfl;have set1 : (bA a b c e 0 es).set 1 (.box ([((.int .i64 0 : DV), Meta.val)].set 0 (.int .i64 1, .val))) = bA a b c e 1 es := rfl;have g0 : [((.int .i64 0 : DV), Meta.val)][0]? = some (.int .i64 0, .val) := rfl;have cm : SB [((.undef : DV), Meta.map 2)] 0 = some 2 := rfl;have sm : Ko (bA a b c e 0 es) 2 = some (true, es) := rfl;cases h1 : q.one
   ·simp only [z11q, if_true, Az, D5, g0, set1, B3g]
    simp [h1]
   ·simp only [z5q, z0q, if_false]
    have rest : ∀ (pre' : List ByteArray) (es' : List (DV × DV)), pre'.Nodup -> (∀ s, A8m es' s = .int .i64 (if Yk pre' s = true then 1 else 0)) ->
     Df (run cfg) t0 t6 (ps.map D9.enc) (bA a b c e 0 es') = some (.int .i64 (if ps.all D9.one = true /\ (pre' ++ ps.flatMap Yn).Nodup then 0 else 1)) :=
     fun pre' es' h h' => A6G t0 t6 a b c e ps pre' es' (fun x hx' => hx x (z12q _ hx')) h h'
    rw [Xr];simp only [D9.K8, D9.Q5, I5, D5, D8, decide_eq_true_eq]
    by_cases h2 : q.kind = 2
    ·have hcq := hc q.name
     unfold A8m at hcq;have sm' : (bA a b c e 0 es).set 2 (.map true (JJ es (.str q.name) (.int .i64 1))) = bA a b c e 0 (JJ es (.str q.name) (.int .i64 1)) := rfl;simp only [h2, if_true, sg3, D5, cm, B3N, Bool.and_true, E5, sm, BEq.rfl, hcq, BZ, D8, decide_eq_true_eq]
     by_cases h3' : Yk pre q.name = true
     ·have h3 := dX.1 h3'
      simp only [h3', if_true, show (0 : Int) < 1 by omega, decide_true, Az, D5, g0, set1, B3g]
      have : ¬ (pre ++ (q :: ps).flatMap Yn).Nodup := by
       simp only [z49q, Yn, h2, if_true, z51q, z63q];rintro ⟨-, -, h⟩;exact h q.name h3 q.name (z15q ..) rfl
      rw [if_neg (fun h => this h.2)]
     ·have h3 : q.name ∉ pre := fun h => h3' (dX.2 h)
      simp only [h3', if_false, show ¬ (0 : Int) < 0 by omega, decide_false, z0q]
      rw [Mx (by omega) (by omega)]
      simp only [D5, Int.zero_add];rw [sm', rest (pre ++ [q.name]) _ (by rw [z63q]; refine ⟨hn, by simp, ?_⟩; rintro x hx' y hy rfl; simp at hy; exact h3 (hy ▸ hx')) ?_]
      ·simp [z49q, Yn, h2, h1]
      ·intro s
       unfold A8m;rw [B5D];have := hc s;unfold A8m at this
       by_cases h4 : q.name = s
       ·have : Yk (pre ++ [q.name]) s = true := dX.2 (by simp [h4])
        rw [if_pos h4, if_pos this];rfl
       ·have e : Yk (pre ++ [q.name]) s = Yk pre s := by simp [Yk, h4]
        simp only [if_neg h4, e];exact this
    ·simp only [h2, if_false]
     rw [rest pre es hn hc];simp [z49q, Yn, h2, h1]
theorem A3W (ht : p.thin = true) (hx : p.txt) : (run cfg).p TU [p.enc] = some (.int .i64 (if p.right = true then 0 else 1)) := by
 refine (ZM _).trans ?_;rw [bZ];simp only [EJ, E5, D9.pj, D9.J9, D9.ag];rw [Vg];obtain ⟨n, hn⟩ := B5m p ht;rw [D9.F8] at hn;simp only [E9, z30q, z22q, D5, BL, E5, A3B hn];have := A6G p.enc p.enc (.box [(.int .i64 p.kind, .val), (.int .i64 p.lo, .val), (.int .i64 p.hi, .val), (.str p.name, .val), (.int .i64 p.n, .val), (.str p.s, .val), (.list 7 (p.kids.map D9.enc), .val)])
  (.arr 1 []) (.arr 1 []) (.arr 1 []) p.subs [] [] (fun q hq => hx q hq) (by simp) (fun s => rfl)
 refine this.trans ?_
 congr 2
 have e : p.right = true ↔ (p.subs.all D9.one = true /\ (([] : List ByteArray) ++ p.subs.flatMap Yn).Nodup) := by
  unfold D9.right D9.names;rw [D9.B5O, D9.A9b];simp
 by_cases h : p.right = true
 ·rw [if_pos h, if_pos (e.1 h)]
 ·rw [if_neg h, if_neg (fun h' => h (e.2 h'))]
@[simp] theorem B43 (a b c d : Int) (k : IntKind) : WA [.int, .int] (.agg [.int k a, .int k b]) (.agg [.int k c, .int k d]) = some (decide (a = c) && decide (b = d)) := by
  simp only [WA, Cm, xq, if_true, D5]
  by_cases h : a = c <;> by_cases h' : b = d <;> simp [h, h']
theorem eF (a b : Bool) : (if a = true then DV.bool b else DV.bool false) = DV.bool (a && b) := by cases a <;> rfl
theorem B5A (a b : Bool) : (if a = true then some (DV.bool b) else some (DV.bool false)) = some (DV.bool (a && b)) := by cases a <;> rfl
theorem A6k (a : D9) : a.thin = true -> ∀ b : D9, (run cfg).p QY [a.enc, b.enc] = some (.bool (decide (a.bare = b.bare))) := by
 induction a using D9.ind with
 | h a ih =>
   intro ha b;have hb := a.Ck ha;refine (iR _ _).trans ?_;rw [mI];simp
   by_cases h1 : a.kind = b.kind <;> simp [h1, D9.ED]
   by_cases h2 : a.name = b.name <;> simp [h2]
   by_cases h3 : a.n = b.n <;> simp [h3]
   by_cases h4 : a.s = b.s <;> simp [h4]
   by_cases h5 : a.kids.length = b.kids.length
   ·have loop := YE (l := a.kids.map D9.bare) (m := b.kids.map D9.bare) (by simpa using h5) (P := fun i => KX (run cfg) (.int .i64 i) a.enc b.enc)
     (by rw [PR]; simp [h5])
     (fun i h => by
       have h : i < a.kids.length := by simpa using h
       have h' : i < b.kids.length := by omega
       rw [PR];simp [h, h', I8 h, I8 h', D9.J9, D9.ag, ih _ (z1q h) (D9.EN ha (z1q h)), O5 (show i < 9223372036854775807 by omega)])
    simp only [z3q, h5] at loop ⊢;simp [loop]
   ·have : a.kids.map D9.bare ≠ b.kids.map D9.bare := fun h => h5 (by have := congrArg List.length h; simpa using this)
    simp [z21q, h5, this]
theorem A9V (a : D9) : a.thin = true -> ∀ b : D9, a.bare = b.bare -> (run cfg).p XD [a.enc, b.enc] = some (.bool (decide (a = b))) := by
 induction a using D9.ind with
 | h a ih =>
   intro ha b he;have hb := a.Ck ha;rw [D9.ED] at he;simp at he;obtain ⟨e1, e2, e3, e4, e5⟩ := he;have h5 : a.kids.length = b.kids.length := by have := congrArg List.length e5; simpa using this
   refine (uh _ _).trans ?_;rw [yK];simp [D9.ED, e1, e2, e3, e4]
   by_cases h1 : a.lo = b.lo <;> simp [h1]
   by_cases h2 : a.hi = b.hi <;> simp [h2]
   have loop := YE (l := a.kids) (m := b.kids) h5 (P := fun i => N_ (run cfg) (.int .i64 i) a.enc b.enc)
    (by rw [Ub]; simp [h5])
    (fun i h => by
      have h' : i < b.kids.length := by omega
      have e6 : a.kids[i].bare = b.kids[i].bare := by
       have : (a.kids.map D9.bare)[i]'(by simpa using h) = (b.kids.map D9.bare)[i]'(by simpa using h') := by simp only [e5]
       simpa using this
      rw [Ub];simp [h, h', I8 h, I8 h', D9.J9, D9.ag, ih _ (z1q h) (D9.EN ha (z1q h)) _ e6, O5 (show i < 9223372036854775807 by omega)])
   simp [loop]
theorem B0N (a : Ex) : a.fit -> ∀ b : Ex, (run cfg).p Za [a.enc, b.enc] = some (.bool (decide (a.bare = b.bare))) := by
 induction a using Ex.ind with
 | h a ih =>
   intro ha b;have hk := big (z8q ha.one.kids);have hp := big (z8q ha.one.H8);refine (zG _ _).trans ?_;rw [A2i];simp
   by_cases h1 : a.kind = b.kind <;> simp [h1, Ex.ED]
   by_cases h2 : a.name = b.name <;> simp [h2]
   by_cases h3 : a.arg = b.arg <;> simp [h3]
   by_cases h4 : a.n = b.n <;> simp [h4]
   by_cases h6 : a.s = b.s <;> simp [h6]
   by_cases h7 : a.op = b.op <;> simp [h7]
   by_cases h8 : a.H8.length = b.H8.length
   ·by_cases h5 : a.kids.length = b.kids.length
    ·have loop := YE (l := a.kids.map Ex.bare) (m := b.kids.map Ex.bare) (by simpa using h5) (P := fun i => Nz (run cfg) (.int .i64 i) a.enc b.enc)
      (by rw [UZ]; simp [h5])
      (fun i h => by
        have h : i < a.kids.length := by simpa using h
        have h' : i < b.kids.length := by omega
        rw [UZ];simp [h, h', I8 h, I8 h', Ex.J9, Ex.ag, ih _ (z1q h) (ha.kid (z1q h)), O5 (show i < 9223372036854775807 by omega)])
     have B2u := NS (l := a.H8.map D9.bare) (m := b.H8.map D9.bare) (by simpa using h8) (P := fun i => Qg (run cfg) (.int .i64 i) a.enc b.enc) (y := .bool (decide (a.kids.map Ex.bare = b.kids.map Ex.bare))) (n := .bool false)
      (by rw [WJ]; simp [h8, loop])
      (fun i h => by
        have h : i < a.H8.length := by simpa using h
        have h' : i < b.H8.length := by omega
        rw [WJ];simp [h, h', I8 h, I8 h', D9.J9, D9.ag, A6k _ (D9.qK (ha.one.pat _ (z1q h))), O5 (show i < 9223372036854775807 by omega)])
     simp only [h5, h8];simp [sw, Ty.J9, Ty.ag, Lh _ ha.one.a, Lh _ ha.one.b]
     by_cases h9 : a.a = b.a <;> simp [h9]
     by_cases dV : a.b = b.b <;> simp [dV, B2u]
     by_cases h11 : a.H8.map D9.bare = b.H8.map D9.bare <;> simp [h11]
    ·have : a.kids.map Ex.bare ≠ b.kids.map Ex.bare := fun h => h5 (by have := congrArg List.length h; simpa using this)
     simp [z21q, h5, h8, this]
   ·have : a.H8.map D9.bare ≠ b.H8.map D9.bare := fun h => h8 (by have := congrArg List.length h; simpa using this)
    simp [z21q, h8, this]
theorem A7K (a : Ex) : a.fit -> ∀ b : Ex, (run cfg).p TJ [a.enc, b.enc] = some (.bool (decide (a = b))) := by
 induction a using Ex.ind with
 | h a ih =>
   intro ha b;have hk := big (z8q ha.one.kids);have hp := big (z8q ha.one.H8);refine (nC _ _).trans ?_;rw [su];simp [Ex.J9, Ex.ag, B0N a ha]
   by_cases he : a.bare = b.bare
   ·rw [if_pos he]
    rw [Ex.ED] at he;simp at he;obtain ⟨e1, e2, e3, e4, e5, e6, e7, e8, e9, e10⟩ := he;have h5 : a.kids.length = b.kids.length := by have := congrArg List.length e10; simpa using this
    have h8 : a.H8.length = b.H8.length := by have := congrArg List.length e9; simpa using this
    have loop := YE (l := a.kids) (m := b.kids) h5 (P := fun i => Lv (run cfg) (.int .i64 i) a.enc b.enc)
     (by rw [RS]; simp [h5])
     (fun i h => by
       have h' : i < b.kids.length := by omega
       rw [RS];simp [h, h', I8 h, I8 h', Ex.J9, Ex.ag, ih _ (z1q h) (ha.kid (z1q h)), O5 (show i < 9223372036854775807 by omega)])
    have B2u := NS (l := a.H8) (m := b.H8) h8 (P := fun i => Lu (run cfg) (.int .i64 i) a.enc b.enc) (y := .bool (decide (a.kids = b.kids))) (n := .bool false)
     (by rw [RQ]; simp [h8, loop])
     (fun i h => by
       have h' : i < b.H8.length := by omega
       have e11 : a.H8[i].bare = b.H8[i].bare := by
        have : (a.H8.map D9.bare)[i]'(by simpa using h) = (b.H8.map D9.bare)[i]'(by simpa using h') := by simp only [e9]
        simpa using this
       rw [RQ];simp [h, h', I8 h, I8 h', D9.J9, D9.ag, A9V _ (D9.qK (ha.one.pat _ (z1q h))) _ e11, O5 (show i < 9223372036854775807 by omega)])
    simp [Ex.ED, e1, e2, e3, e4, e5, e6, e7, e8]
    by_cases h1 : a.lo = b.lo <;> simp [h1]
    by_cases h2 : a.hi = b.hi <;> simp [h2, B2u]
    by_cases h11 : a.H8 = b.H8 <;> simp [h11]
   ·have : a ≠ b := fun h => he (by rw [h])
    rw [if_neg he];simp [this]
def j3 (np : Nat) : DV := .agg [.bool (U7 k), .bool (Z8 k), .bool (kN k), .bool (kS k), .bool (Aw k), .bool (Av k), .bool (U9 k), .bool (U6 k), .bool (U8 k), .bool (kA k), .bool (kB k), .bool (O7 k), .int .i64 (O9 k np)]
variable (t : Tm)
theorem A5J (ht : t.Rf) : ∃ d, (run cfg).p Ns [t.enc] = some (.H7 [d, .bool (DJ t.kind t.H8.length)]) /\ (DJ t.kind t.H8.length = true -> d = j3 t.kind t.H8.length) /\ D6 13 d = true := by
 have hp := big (z8q ht.H8)
 suffices h : ∃ d, OH (run cfg) t.enc = some (.H7 [d, .bool (DJ t.kind t.H8.length)]) /\ (DJ t.kind t.H8.length = true -> d = j3 t.kind t.H8.length) /\ D6 13 d = true by
  obtain ⟨d, h1, h2⟩ := h;exact ⟨d, A1s _ h1, h2⟩
 rw [iE];have fl : ∀ {a b c d e f g h i j k l : Bool} {n : Int}, D6 13 (.agg [.bool a, .bool b, .bool c, .bool d, .bool e, .bool f, .bool g, .bool h, .bool i, .bool j, .bool k, .bool l, .int .i64 n]) = true := rfl
 by_cases k14 : t.kind = 14
 ·have h1 : A8 .add (.int .i64 (t.H8.length : Int)) (.int .i64 1) = some (.int .i64 ((t.H8.length : Int) + 1)) := Mx (by omega) (by omega)
  simp [k14, h1, DJ, j3, U7, Z8, kN, kS, Aw, Av, U9, U6, U8, kA, kB, O7, O9, fl]
 by_cases k1 : t.kind = 1
 ·simp [k1, DJ, j3, U7, Z8, kN, kS, Aw, Av, U9, U6, U8, kA, kB, O7, O9, fl]
 by_cases k2 : t.kind = 2
 ·simp [k2, DJ, j3, U7, Z8, kN, kS, Aw, Av, U9, U6, U8, kA, kB, O7, O9, fl]
 by_cases k3 : t.kind = 3
 ·simp [k3, DJ, j3, U7, Z8, kN, kS, Aw, Av, U9, U6, U8, kA, kB, O7, O9, fl]
 by_cases k4 : t.kind = 4
 ·simp [k4, DJ, j3, U7, Z8, kN, kS, Aw, Av, U9, U6, U8, kA, kB, O7, O9, fl]
 by_cases k5 : t.kind = 5
 ·simp [k5, DJ, j3, U7, Z8, kN, kS, Aw, Av, U9, U6, U8, kA, kB, O7, O9, fl]
 by_cases k6 : t.kind = 6
 ·simp [k6, DJ, j3, U7, Z8, kN, kS, Aw, Av, U9, U6, U8, kA, kB, O7, O9, fl]
 by_cases k7 : t.kind = 7
 ·simp [k7, DJ, j3, U7, Z8, kN, kS, Aw, Av, U9, U6, U8, kA, kB, O7, O9, fl]
 by_cases k8 : t.kind = 8
 ·simp [k8, DJ, j3, U7, Z8, kN, kS, Aw, Av, U9, U6, U8, kA, kB, O7, O9, fl]
 by_cases k9 : t.kind = 9
 ·simp [k9, DJ, j3, U7, Z8, kN, kS, Aw, Av, U9, U6, U8, kA, kB, O7, O9, fl]
 by_cases k10 : t.kind = 10
 ·simp [k10, DJ, j3, U7, Z8, kN, kS, Aw, Av, U9, U6, U8, kA, kB, O7, O9, fl]
 by_cases k11 : t.kind = 11
 ·simp [k11, DJ, j3, U7, Z8, kN, kS, Aw, Av, U9, U6, U8, kA, kB, O7, O9, fl]
 by_cases k12 : t.kind = 12
 ·simp [k12, DJ, j3, U7, Z8, kN, kS, Aw, Av, U9, U6, U8, kA, kB, O7, O9, fl]
 by_cases k13 : t.kind = 13
 ·simp [k13, DJ, j3, U7, Z8, kN, kS, Aw, Av, U9, U6, U8, kA, kB, O7, O9, fl]
 by_cases k15 : t.kind = 15
 ·simp [k15, DJ, j3, U7, Z8, kN, kS, Aw, Av, U9, U6, U8, kA, kB, O7, O9, fl]
 by_cases k16 : t.kind = 16
 ·simp [k16, DJ, j3, U7, Z8, kN, kS, Aw, Av, U9, U6, U8, kA, kB, O7, O9, fl]
 ·have hk : DJ t.kind t.H8.length = false := by
   unfold DJ;rw [Bool.eq_false_iff];intro h;simp only [z29q, decide_eq_true_eq] at h;omega
  simp [hk, k1, k2, k3, k4, k5, k6, k7, k8, k9, k10, k11, k12, k13, k14, k15, k16, fl]
theorem A92 (t : Ty) : (run cfg).p jY [t.enc] = some (.bool t.none) := by
 refine (vC _).trans ?_;rw [yY];simp [Ty.none]
 by_cases h1 : t.kind = 0 <;> by_cases h2 : t.n = 0 <;> simp [h1, h2]
theorem wQ (h : Bool) (t : Ty) (ht : t.thin = true) : (run cfg).p TQ [.bool h, t.enc] = some (.bool (CX h t)) := by
 refine (nT _ _).trans ?_;rw [uG];cases h
 ·simp [Ty.J9, Ty.ag, A92, CX]
 ·simp [Ty.J9, Ty.ag, IE t ht, CX]
theorem wP (h : Bool) (s : ByteArray) (hs : s.size <= 4294967000) : (run cfg).p TN [.bool h, .str s] = some (.bool (CU h s)) := by
 refine (nR _ _).trans ?_;rw [uB];cases h
 ·simp [CU, BR]
 ·simp [CU, A0P s (by unfold lim; omega)]
theorem A7N (ht : t.Rf) : (run cfg).p Cz [t.enc] = some (.bool t.lists) := by
 have hv := big (z8q ht.vars);have ha := big (z8q ht.args);have hp := big (z8q ht.H8);refine (nQ _).trans ?_;have l3 := Sw (l := t.H8) (f := D9.right) (P := fun i => KY (run cfg) (.list 7 (t.H8.map D9.enc)) (.int .i64 t.H8.length) (.int .i64 i))
  (by rw [PT]; simp)
  (fun i h => by
    rw [PT];have f := ht.pat _ (z1q h);simp [h, I8 h, D9.J9, D9.ag, A3W _ (D9.qK f) f.txt, O5 (show i < 9223372036854775807 by omega)]
    cases t.H8[i].right <;> rfl)
 have l2 := F_ (l := t.args) (f := Ty.right) (P := fun i => ML (run cfg) (.list 3 (t.args.map Ty.enc)) (.int .i64 t.args.length) (.int .i64 i) t.enc) (y := .bool (t.H8.all D9.right)) (n := .bool false)
  (by rw [Rc]; simp [l3])
  (fun i h => by
    rw [Rc];simp [h, I8 h, Ty.J9, Ty.ag, IE _ (ht.A8g _ (z1q h)), O5 (show i < 9223372036854775807 by omega)]
    cases t.args[i].right <;> rfl)
 have l1 := F_ (l := t.vars) (f := fun v => decide (0 <= v) && decide (v <= 1048576)) (P := fun i => MJ (run cfg) (M8 t.vars) (.int .i64 t.vars.length) (.int .i64 i) t.enc) (y := .bool (t.args.all Ty.right && t.H8.all D9.right)) (n := .bool false)
  (by rw [Rb]; simp only [L9, z37q, decide_false, D5, D8, z0q, if_false, Tm.A9q, M7, z3q, l2, eF])
  (fun i h => by
    rw [Rb];simp [h, NA h, O5 (show i < 9223372036854775807 by omega)]
    by_cases h1 : t.vars[i] < 0
    ·simp [h1, show ¬ 0 <= t.vars[i] by omega]
    ·by_cases h2 : 1048576 < t.vars[i]
     ·simp [h1, h2, show ¬ t.vars[i] <= 1048576 by omega]
     ·simp [h1, h2, show 0 <= t.vars[i] by omega, show t.vars[i] <= 1048576 by omega])
 rw [uA];simp only [Al, E5, Tm.A0y, xu, D5, l1, eF, Tm.lists, z59q]
theorem B0W (ht : t.Rf) : (run cfg).p pR [t.enc] = some (.bool t.one) := by
 refine (zY _).trans ?_;obtain ⟨d, h1, h2, h3⟩ := A5J t ht;rw [A2A];have x0 : ∀ b, J5 0 (.H7 [d, .bool b]) = some d := fun _ => rfl
 have x1 : ∀ b, J5 1 (.H7 [d, .bool b]) = some (.bool b) := fun _ => rfl
 simp only [Al, E5, Tm.pj, Y9, V6, Q6, Tm.J9, Tm.ag, Ty.J9, Ty.ag, h1, x0, x1, D5, h3, K6, I6];cases hk : DJ t.kind t.H8.length
 ·simp [Tm.one, hk]
 rw [h2 hk];have p0 : A7 0 (j3 t.kind t.H8.length) = .bool (U7 t.kind) := rfl;have p1 : A7 1 (j3 t.kind t.H8.length) = .bool (Z8 t.kind) := rfl;have p2 : A7 2 (j3 t.kind t.H8.length) = .bool (kN t.kind) := rfl;have p3 : A7 3 (j3 t.kind t.H8.length) = .bool (kS t.kind) := rfl;have p4 : A7 4 (j3 t.kind t.H8.length) = .bool (Aw t.kind) := rfl;have p5 : A7 5 (j3 t.kind t.H8.length) = .bool (Av t.kind) := rfl;have p6 : A7 6 (j3 t.kind t.H8.length) = .bool (U9 t.kind) := rfl;have p7 : A7 7 (j3 t.kind t.H8.length) = .bool (U6 t.kind) := rfl;have p8 : A7 8 (j3 t.kind t.H8.length) = .bool (U8 t.kind) := rfl;have p9 : A7 9 (j3 t.kind t.H8.length) = .bool (kA t.kind) := rfl;have p10 : A7 10 (j3 t.kind t.H8.length) = .bool (kB t.kind) := rfl;have p11 : A7 11 (j3 t.kind t.H8.length) = .bool (O7 t.kind) := rfl;have p12 : A7 12 (j3 t.kind t.H8.length) = .int .i64 (O9 t.kind t.H8.length) := rfl;have h12 : Qs (run cfg) t.enc (j3 t.kind t.H8.length) = some (.bool t.A55) := by
  rw [mY];simp only [p6, p7, p8, Tm.pj, Y9, V6, Q6, Tm.J9, Tm.ag, A7N t ht, M7, xu, z3q, D5, K6, I6, D8, BZ, Tm.A55];cases U9 t.kind <;> cases U6 t.kind <;> cases U8 t.kind <;> by_cases v : t.vars.length = 0 <;> by_cases a : t.args.length = 0 <;> by_cases p : t.H8.length = 0 <;> simp [v, a, p, Nat.pos_iff_ne_zero]
 have dV : IV (run cfg) t.enc (j3 t.kind t.H8.length) = some (.bool t.A3Q) := by
  rw [mX];simp only [p11, Tm.RA, Tm.A5q, h12, D5, K6, I6, D8, BZ, L9, J7, Tm.A3Q]
  by_cases a : t.label < 0
  ·have a' : ¬ 0 <= t.label := by omega
   cases O7 t.kind <;> cases t.neg <;> by_cases v : t.label = 0 <;> simp [a, a', v]
  ·have a' : 0 <= t.label := by omega
   by_cases p : 1048576 < t.label
   ·have p' : ¬ t.label <= 1048576 := by omega
    cases O7 t.kind <;> cases t.neg <;> by_cases v : t.label = 0 <;> simp [a, a', p, p', v]
   ·have p' : t.label <= 1048576 := by omega
    cases O7 t.kind <;> cases t.neg <;> by_cases v : t.label = 0 <;> simp [a, a', p, p', v]
 have h8 : Jk (run cfg) t.enc (j3 t.kind t.H8.length) = some (.bool t.A3P) := by
  rw [uE];simp only [p4, Tm.Oj, dV, D5, K6, I6, D8, BZ, L9, J7, Tm.A3P];cases Aw t.kind
  ·by_cases v : t.op = 0 <;> simp [v]
  ·by_cases a : t.op < 1
   ·simp [a, show ¬ 1 <= t.op by omega]
   ·by_cases p : 7 < t.op
    ·simp [a, p, show ¬ t.op <= 7 by omega]
    ·simp [a, p, show 1 <= t.op by omega, show t.op <= 7 by omega]
 have hs : ∀ n : Nat, A8 .gtr (.int .i64 (n : Int)) (.int .i64 200) = some (.bool (decide (200 < n))) := fun n => by
  rw [BZ]; congr 2; rw [decide_eq_decide]; omega
 have h6 : FI (run cfg) t.enc (j3 t.kind t.H8.length) = some (.bool t.A0s) := by
  rw [uD];simp only [p3, p5, Tm.Md, Tm.Q0, Tm.Q4, h8, D5, K6, I6, D8, Cn, hs, BR, Xl, B43, Tm.A0s];generalize t.s.size = z
  by_cases a : 200 < z
  ·have : ¬ z <= 200 := by omega
   cases kS t.kind <;> by_cases v : t.s = N9 <;> simp [a, v, this]
  ·have : z <= 200 := by omega
   cases kS t.kind <;> cases Av t.kind <;> by_cases v : t.s = N9 <;> by_cases x : t.lo = 0 <;> by_cases y : t.hi = 0 <;> simp [a, v, x, y, this]
 have h4 : af (run cfg) t.enc (j3 t.kind t.H8.length) = some (.bool t.qa) := by
  rw [uC];simp only [p2, Tm.Jd, Tm.K8, h6, D5, K6, I6, D8, J7, I5, Tm.qa];cases kN t.kind <;> by_cases v : t.kind = 3 <;> by_cases x : t.n = 0 <;> by_cases y : t.n = 1 <;> simp [v, x, y]
 simp only [p0, p1, p9, p10, p12, wP _ _ ht.name, wP _ _ ht.arg, wQ _ _ ht.a, wQ _ _ ht.b, h4, M7, z3q, D5, K6, I6, D8, J7, Tm.one, hk]
 by_cases v : (t.kids.length : Int) = O9 t.kind t.H8.length <;> cases CU (U7 t.kind) t.name <;> cases CU (Z8 t.kind) t.arg <;> cases CX (kA t.kind) t.a <;> cases CX (kB t.kind) t.b <;> simp [v]
theorem A7O : t.fit -> (run cfg).p TP [t.enc] = some (.bool t.right) := by
 induction t using Tm.ind with
 | h t ih =>
   intro ht;have hk := big (z8q ht.one.kids);refine (nS _).trans ?_;have loop := Sw (l := t.kids) (f := Tm.right) (P := fun i => MM (run cfg) (.list 20 (t.kids.map Tm.enc)) (.int .i64 t.kids.length) (.int .i64 i))
    (by rw [Re]; simp)
    (fun i h => by
      rw [Re];simp [h, I8 h, Tm.J9, Tm.ag, ih _ (z1q h) (ht.kid (z1q h)), O5 (show i < 9223372036854775807 by omega)]
      cases t.kids[i].right <;> rfl)
   rw [uF, Tm.right_eq];simp [Tm.J9, Tm.ag, B0W t ht.one, loop];cases t.one <;> simp
theorem A7M (ht : t.fit) : (run cfg).p aT [t.enc] = some (.int .i64 (if t.right = true then 0 else 1)) := by
 refine (nP _).trans ?_;rw [t_];simp [Tm.J9, Tm.ag, A7O t ht];cases t.right <;> rfl
theorem Tm.BM : t.Zn.enc = .agg [.int .i64 t.kind, .int .i64 (if Av t.kind = true then t.lo else 0), .int .i64 (if Av t.kind = true then t.hi else 0), .str (if U7 t.kind = true then t.name else N9), .str (if Z8 t.kind = true then t.arg else N9), .int .i64 (if kN t.kind = true then t.n else 0),
 .str (if kS t.kind = true then t.s else N9), .int .i64 (if Aw t.kind = true then t.op else 0), .int .i64 (if O7 t.kind = true then t.label else 0), .bool (if O7 t.kind = true then t.neg else false), M8 (if U9 t.kind = true then t.vars else []),
 .int .i64 (if kA t.kind = true then t.a else .mk 0 0 []).kind, .int .i64 (if kA t.kind = true then t.a else .mk 0 0 []).n, .list 3 ((if kA t.kind = true then t.a else .mk 0 0 []).kids.map Ty.enc),
 .int .i64 (if kB t.kind = true then t.b else .mk 0 0 []).kind, .int .i64 (if kB t.kind = true then t.b else .mk 0 0 []).n, .list 3 ((if kB t.kind = true then t.b else .mk 0 0 []).kids.map Ty.enc),
 .list 3 ((if U6 t.kind = true then t.args else []).map Ty.enc), .list 7 ((if U8 t.kind = true then t.H8 else []).map D9.enc), .list 20 []] := Tm.F8 t.Zn
theorem B0R (ht : t.Rf) : (run cfg).p pQ [t.enc] = some (.H7 [t.Zn.enc, .int .i64 t.EY]) := by
 have hp := big (z8q ht.H8);refine (zK _).trans ?_;have h25 : ¬ (t.kind = 1) -> ¬ (t.kind = 2) -> ¬ (t.kind = 3) -> ¬ (t.kind = 4) -> ¬ (t.kind = 5) -> ¬ (t.kind = 6) -> ¬ (t.kind = 7) -> ¬ (t.kind = 8) -> ¬ (t.kind = 9) -> ¬ (t.kind = 10) ->
  YR (run cfg) (.int .i64 t.kind) t.enc (.str N9) (.str N9) (.str N9) (.int .i64 t.kind) (.str N9) (.str N9) (.str N9) = some (.H7 [t.Zn.enc, .int .i64 t.EY]) := by
  intro k1 k2 k3 k4 k5 k6 k7 k8 k9 k10;rw [mJ]
  by_cases k11 : t.kind = 11
  ·simp [BR, Tm.BM, Tm.EY, k11, U7, Z8, kN, kS, Aw, Av, U9, U6, U8, kA, kB, O7, O9, M8]
  by_cases k12 : t.kind = 12
  ·simp [BR, Tm.BM, Tm.EY, k12, U7, Z8, kN, kS, Aw, Av, U9, U6, U8, kA, kB, O7, O9, M8]
  by_cases k13 : t.kind = 13
  ·simp [BR, Tm.BM, Tm.EY, k13, U7, Z8, kN, kS, Aw, Av, U9, U6, U8, kA, kB, O7, O9, M8]
  by_cases k14 : t.kind = 14
  ·have h1 : A8 .add (.int .i64 (t.H8.length : Int)) (.int .i64 1) = some (.int .i64 ((t.H8.length : Int) + 1)) := Mx (by omega) (by omega)
   simp [BR, Tm.BM, Tm.EY, k14, h1, U7, Z8, kN, kS, Aw, Av, U9, U6, U8, kA, kB, O7, O9, M8]
  by_cases k15 : t.kind = 15
  ·simp [BR, Tm.BM, Tm.EY, k15, U7, Z8, kN, kS, Aw, Av, U9, U6, U8, kA, kB, O7, O9, M8]
  by_cases k16 : t.kind = 16
  ·simp [BR, Tm.BM, Tm.EY, k16, U7, Z8, kN, kS, Aw, Av, U9, U6, U8, kA, kB, O7, O9, M8]
  have hk : ¬ (1 <= t.kind /\ t.kind <= 16) := by omega
  simp [BR, Tm.BM, Tm.EY, hk, k1, k2, k3, k4, k5, k6, k7, k8, k9, k10, k11, k12, k13, k14, k15, k16, U7, Z8, kN, kS, Aw, Av, U9, U6, U8, kA, kB, O7, O9, M8]
 rw [A2m];simp only [BR]
 by_cases k1 : t.kind = 1
 ·simp [BR, Tm.BM, Tm.EY, k1, U7, Z8, kN, kS, Aw, Av, U9, U6, U8, kA, kB, O7, O9, M8]
 by_cases k2 : t.kind = 2
 ·simp [BR, Tm.BM, Tm.EY, k2, U7, Z8, kN, kS, Aw, Av, U9, U6, U8, kA, kB, O7, O9, M8]
 by_cases k3 : t.kind = 3
 ·simp [BR, Tm.BM, Tm.EY, k3, U7, Z8, kN, kS, Aw, Av, U9, U6, U8, kA, kB, O7, O9, M8]
 by_cases k4 : t.kind = 4
 ·simp [BR, Tm.BM, Tm.EY, k4, U7, Z8, kN, kS, Aw, Av, U9, U6, U8, kA, kB, O7, O9, M8]
 by_cases k5 : t.kind = 5
 ·simp [BR, Tm.BM, Tm.EY, k5, U7, Z8, kN, kS, Aw, Av, U9, U6, U8, kA, kB, O7, O9, M8]
 by_cases k6 : t.kind = 6
 ·simp [BR, Tm.BM, Tm.EY, k6, U7, Z8, kN, kS, Aw, Av, U9, U6, U8, kA, kB, O7, O9, M8]
 by_cases k7 : t.kind = 7
 ·simp [BR, Tm.BM, Tm.EY, k7, U7, Z8, kN, kS, Aw, Av, U9, U6, U8, kA, kB, O7, O9, M8]
 by_cases k8 : t.kind = 8
 ·simp [BR, Tm.BM, Tm.EY, k8, U7, Z8, kN, kS, Aw, Av, U9, U6, U8, kA, kB, O7, O9, M8]
 by_cases k9 : t.kind = 9
 ·simp [BR, Tm.BM, Tm.EY, k9, U7, Z8, kN, kS, Aw, Av, U9, U6, U8, kA, kB, O7, O9, M8]
 by_cases k10 : t.kind = 10
 ·simp [BR, Tm.BM, Tm.EY, k10, U7, Z8, kN, kS, Aw, Av, U9, U6, U8, kA, kB, O7, O9, M8]
 simp [k1, k2, k3, k4, k5, k6, k7, k8, k9, k10, h25]
def Zp : Ex := .mk 14 0 0 N9 N9 0 N9 0 (.mk 0 0 []) (.mk 0 0 []) [p] []
theorem B3B {p : D9} (h : p.fit) : (Zp p).fit := by
 have t0 : (Ty.mk 0 0 []).thin = true := by rw [Ty.KO]; simp [lim]
 have t1 : (Ty.mk 0 0 []).LX <= lim := by rw [Ty.A0U]; simp [lim]
 refine .mk _ ⟨?_, ?_, ?_, t0, t0, t1, t1, ?_, ?_, ?_⟩ fun k hk => by simp [Zp] at hk
 ·show N9.size <= _; exact z57q _
 ·show N9.size <= _; exact z57q _
 ·show N9.size <= _; exact z57q _
 ·simp [Zp, lim]
 ·simpa [Zp] using h
 ·simp [Zp, lim]
theorem A4P {e : α -> DV} {sz : Nat} {l : List α} {i : Nat} (h : i < l.length) : Ak sz (.list sz (l.map e)) (some (.int .i64 (i : Int))) (some (.int .i64 ((i + 1 : Nat) : Int))) = some (.list sz [e l[i]]) := by
 have e1 : ((l.map e).take (i + 1)).drop i = [e l[i]] := by
  rw [List.drop_take, show i + 1 - i = 1 by omega, z9q (by simpa using h)]
  simp
 simp only [Ak, bnd, D5, z56q, if_true, z60q, z3q, true_and];rw [if_pos ⟨by omega, by omega⟩, e1]
structure Tm.B6E (t : Tm) : Prop where
 vars : t.vars.length < lim
 a : t.a.thin = true
 b : t.b.thin = true
 args : t.args.length < lim
 A8g : ∀ y ∈ t.args, y.thin = true
 H8 : t.H8.length < lim
 pat : ∀ p ∈ t.H8, p.fit
theorem Tm.Rf.toS {t : Tm} (h : t.Rf) : t.B6E := ⟨h.vars, h.a, h.b, h.args, h.A8g, h.H8, h.pat⟩
theorem A9Y (a : Tm) (ha : a.B6E) (b : Tm) : (run cfg).p Zc [a.enc, b.enc] = some (.bool (a.A08 b)) := by
 have hv := big (z8q ha.vars);have hp := big (z8q ha.H8);refine (zL _ _).trans ?_;have h3 : aZ (run cfg) a.enc b.enc = some (.bool (decide (a.args = b.args) && decide (a.a = b.a) && decide (a.b = b.b) && decide (a.vars = b.vars) && decide (a.H8 = b.H8))) := by
  rw [tF];simp [Ty.J9, Ty.ag, A6j _ _ (z8q ha.args) ha.A8g, Lh _ ha.a, Lh _ ha.b, z21q]
  by_cases e1 : a.vars.length = b.vars.length
  ·by_cases e2 : a.H8.length = b.H8.length
   ·have l2 := YE (l := a.H8) (m := b.H8) e2 (P := fun i => OB (run cfg) (.int .i64 i) a.enc b.enc)
     (by rw [Ud]; simp [e2])
     (fun i h => by
       have h' : i < b.H8.length := by omega
       rw [Ud];have f := B3B (ha.pat _ (z1q h));have eA : ∀ p : D9, DV.agg ((.int .i64 14)::(zz9 ((.int .i64 0)::(Pe (Pe [.list 7 [p.enc], .list 16 []]))))) = (Zp p).enc := fun p => by
        rw [Ex.F8]; rfl
       have d1 := A4P (e := D9.enc) (sz := 7) h;have d2 := A4P (e := D9.enc) (sz := 7) h';simp only [Tm.B4b, M7, z3q, D5, L9, z46q, h, decide_true, D8, if_true, O5 (show i < 9223372036854775807 by omega), d1, d2, kK, E5, eA, A7K _ f, K6]
       have : (Zp a.H8[i] = Zp b.H8[i]) ↔ a.H8[i] = b.H8[i] := by simp [Zp]
       simp only [this]
       by_cases h9 : a.H8[i] = b.H8[i] <;> simp [h9])
    have l1 := NS (l := a.vars) (m := b.vars) e1 (P := fun i => Qi (run cfg) (.int .i64 i) a.enc b.enc) (y := .bool (decide (a.H8 = b.H8))) (n := .bool false)
     (by rw [WM]; simp [e1, l2])
     (fun i h => by
       have h' : i < b.vars.length := by omega
       rw [WM];simp [h, h', NA h, NA h', O5 (show i < 9223372036854775807 by omega)])
    simp only [e1, e2, if_true, l1]
    by_cases h1 : a.args = b.args <;> by_cases h2 : a.a = b.a <;> by_cases h3 : a.b = b.b <;> by_cases h4 : a.vars = b.vars <;> simp [h1, h2, h3, h4]
   ·have : a.H8 ≠ b.H8 := fun h => e2 (by rw [h])
    simp [e1, e2, this]
  ·have : a.vars ≠ b.vars := fun h => e1 (by rw [h])
   simp [e1, this]
 rw [A2n];simp [h3, Tm.A08]
 by_cases h1 : a.kind = b.kind <;> simp [h1]
 by_cases h2 : a.lo = b.lo <;> simp [h2]
 by_cases h4 : a.hi = b.hi <;> simp [h4]
 by_cases h5 : a.name = b.name <;> simp [h5]
 by_cases h6 : a.arg = b.arg <;> simp [h6]
 by_cases h7 : a.n = b.n <;> simp [h7]
 by_cases h8 : a.s = b.s <;> simp [h8]
 by_cases h9 : a.op = b.op <;> simp [h9]
 by_cases dV : a.label = b.label <;> simp [dV]
 by_cases h11 : a.neg = b.neg <;> simp [h11]
theorem B0S (a : Tm) (ha : a.Rf) (b : Tm) : (run cfg).p Zc [a.enc, b.enc] = some (.bool (a.A08 b)) := A9Y a ha.toS b
theorem B2P (ht : t.Rf) : (run cfg).p wW [t.enc] = some (.bool t.one) := by
 have hv := big (z8q ht.vars);have ha := big (z8q ht.args);have hp := big (z8q ht.H8);have hs : ∀ n : Nat, A8 .leq (.int .i64 (n : Int)) (.int .i64 200) = some (.bool (decide (n <= 200))) := fun n => by
  rw [Kc]; congr 2; rw [decide_eq_decide]; omega
 have hz : ∀ n : Nat, A8 .gtr (.int .i64 (n : Int)) (.int .i64 0) = some (.bool (decide (0 < n))) := fun n => by
  rw [BZ]; congr 2; rw [decide_eq_decide]; omega
 refine (A2O _).trans ?_;have l3 := F_ (l := t.H8) (f := D9.right) (P := fun i => Qk (run cfg) (.int .i64 i) t.enc) (y := .bool t.JK) (n := .bool false)
  (by
    rw [WO];simp only [Tm.pj, Y9, V6, Q6, M7, z3q, D5, L9, z37q, decide_false, D8, I6, z0q, if_false, I5, decide_eq_true_eq,
     kR _ ht.name, kR _ ht.arg, Ty.J9, Ty.ag, fI _ ht.a, fI _ ht.b, Cn, hs, hz, Ef, Kc, Tm.JK, A83, A82]
    simp only [z62q, Bool.if_false_right, Bool.decide_eq_true, z59q])
  (fun i h => by
    rw [WO];have f := ht.pat _ (z1q h);simp [h, I8 h, D9.J9, D9.ag, A5I _ f.size f.txt, O5 (show i < 9223372036854775807 by omega)]
    cases t.H8[i].right <;> rfl)
 have l2 := F_ (l := t.vars) (f := fun v => decide (0 <= v) && decide (v <= 1048576)) (P := fun i => Qj (run cfg) (.int .i64 i) t.enc) (y := .bool (t.H8.all D9.right && t.JK)) (n := .bool false)
  (by rw [WN]; simp only [Tm.A0y, xu, L9, z37q, decide_false, D5, D8, z0q, if_false, l3, eF])
  (fun i h => by
    rw [WN];simp [h, NA h, O5 (show i < 9223372036854775807 by omega)]
    by_cases h1 : t.vars[i] < 0
    ·simp [h1, show ¬ 0 <= t.vars[i] by omega]
    ·by_cases h2 : 1048576 < t.vars[i]
     ·simp [h1, h2, show ¬ t.vars[i] <= 1048576 by omega]
     ·simp [h1, h2, show 0 <= t.vars[i] by omega, show t.vars[i] <= 1048576 by omega])
 have l1 := F_ (l := t.args) (f := Ty.right) (P := fun i => Tu (run cfg) (.int .i64 i) t.enc) (y := .bool (t.vars.all (fun v => decide (0 <= v) && decide (v <= 1048576)) && (t.H8.all D9.right && t.JK))) (n := .bool false)
  (by rw [YY]; simp only [Tm.A9q, M7, z3q, L9, z37q, decide_false, D5, D8, z0q, if_false, l2, eF])
  (fun i h => by
    rw [YY];simp [h, I8 h, Ty.J9, Ty.ag, fI _ (ht.A8g _ (z1q h)), O5 (show i < 9223372036854775807 by omega)]
    cases t.args[i].right <;> rfl)
 have x0 : ∀ a b, J5 0 (.H7 [a, b]) = some a := fun _ _ => rfl
 have x1 : ∀ a b, J5 1 (.H7 [a, b]) = some b := fun _ _ => rfl
 rw [A4Y];simp only [Al, E5, Tm.pj, Y9, V6, Q6, Tm.J9, Tm.ag, B0R t ht, x0, x1, D5, M7, z3q, J7, I6, D8,
  B0S _ (Tm.B29 ht), K6, l1]
 rw [<- Tm.B7t];unfold Tm.lists
 by_cases h1 : t.EY = (t.kids.length : Int)
 ·cases h2 : t.Zn.A08 t
  ·simp [h1]
  ·simp only [h1, decide_true, z5q, z0q, if_false, eF, B5A, z18q, z59q]
   rw [Bool.and_left_comm]
 ·simp [h1]
theorem A9X : t.fit -> (run cfg).p XF [t.enc] = some (.bool t.right) := by
 induction t using Tm.ind with
 | h t ih =>
   intro ht;have hk := big (z8q ht.one.kids);refine (uj _).trans ?_;have loop := Sw (l := t.kids) (f := Tm.right) (P := fun i => OA (run cfg) (.int .i64 i) t.enc)
    (by rw [Uc]; simp)
    (fun i h => by
      rw [Uc];simp [h, I8 h, Tm.J9, Tm.ag, ih _ (z1q h) (ht.kid (z1q h)), O5 (show i < 9223372036854775807 by omega)]
      cases t.kids[i].right <;> rfl)
   rw [yM, Tm.right_eq];simp [Tm.J9, Tm.ag, B2P t ht.one, loop];cases t.one <;> simp
theorem A86 {β X : Type} {l : List α} {m : List β} (hl : l.length = m.length) {P : Int -> Option X} {f : α -> β -> Bool} {y n : X} (stop : P l.length = some y) (step : ∀ (i : Nat) (h : i < l.length), P i = if f l[i] (m[i]'(by omega)) = true then P ((i : Int) + 1) else some n) : P 0 = some (if ((l.zip m).all fun p => f p.1 p.2) = true then y else n) := by
 refine F_ (l := l.zip m) (f := fun p => f p.1 p.2) (by rw [List.length_zip, <- hl, Nat.min_self]; exact stop) fun i h => ?_
 have h' : i < l.length := by rw [List.length_zip] at h; omega
 rw [step i h'];simp
theorem FJ {a b : Ty} (ha : a.right = true) (hb : b.right = true) (h : a.kind = b.kind) : a.kids.length = b.kids.length := by
 have h1 := (Ty.FR.1 ha).1;have h2 := (Ty.FR.1 hb).1;rw [h] at h1;omega
variable (a : Ty)
theorem A5D : a.right = true -> ∀ b : Ty, b.right = true -> (run cfg).p Nk [a.enc, b.enc] = some (.bool (a.agrees b)) := by
 induction a using Ty.ind with
 | h a ih =>
   intro ha b hb;have hn := a.Ck (Ty.Ah ha);refine (bq _ _).trans ?_;rw [gT, Ty.R_];simp [Ty.J9, Ty.ag, wR _ (Ty.Ah ha), wR _ (Ty.Ah hb)]
   by_cases h1 : a.kind = 5 <;> simp [h1]
   by_cases h2 : b.kind = 5 <;> simp [h2]
   by_cases h3 : a.kind = b.kind <;> simp [h3]
   by_cases h4 : a.n = b.n <;> simp [h4]
   have h5 := FJ ha hb h3;have loop := A86 (l := a.kids) (m := b.kids) h5 (P := fun i => JU (run cfg) (.list 3 (a.kids.map Ty.enc)) (.int .i64 a.kids.length) (.int .i64 i) b.enc) (f := Ty.agrees) (y := .bool true) (n := .bool false)
    (by rw [NC]; simp)
    (fun i h => by
      have h' : i < b.kids.length := by omega
      rw [NC];simp [h, h', I8 h, I8 h', Ty.J9, Ty.ag, ih _ (z1q h) (Ty.O4 ha (z1q h)) _ (Ty.O4 hb (z1q h')), O5 (show i < 9223372036854775807 by omega)]
      cases (a.kids[i].agrees b.kids[i]) <;> rfl)
   rw [loop];cases ((a.kids.zip b.kids).all fun p => p.1.agrees p.2) <;> rfl
theorem A6g (b : Ty) (ha : a.thin = true) (hb : b.thin = true) : (run cfg).p YL [a.enc, b.enc] = some (.bool (a.right && b.right && a.agrees b)) := by
 refine (iH _ _).trans ?_;rw [lZ];simp [Ty.J9, Ty.ag, IE _ ha, IE _ hb];cases h1 : a.right
 ·simp
 ·cases h2 : b.right
  ·simp
  ·simp [A5D a h1 b h2]
theorem A9P (ts : List Ty) (hl : ts.length <= lim) (h : ∀ t ∈ ts, t.size <= lim) : ∃ b : Bool, (run cfg).p jO [.list 3 (ts.map Ty.enc)] = some (.bool b) := by
 have hb := big hl;have loop : ∀ (n j : Nat), j + n = ts.length -> ∃ b : Bool, Nw (run cfg) (.list 3 (ts.map Ty.enc)) (.int .i64 j) = some (.bool b) := by
  intro n
  induction n with
  | zero =>
    intro j hj;refine ⟨true, ?_⟩;have : ¬ j < ts.length := by omega
    rw [UJ];simp [this]
  | succ n ih =>
    intro j hj;have DI : j < ts.length := by omega
    obtain ⟨b, GJ⟩ := ih (j + 1) (by omega)
    have BF := h _ (z1q DI);have hth := Ty.FU BF;obtain ⟨c, hc⟩ := A7H ts[j] hth;have hd := B0O ts[j] 60 (by omega) (by omega) hth
    have hv := B0L ts[j] BF;push_cast at GJ;rw [UJ];cases c
    ·cases QN : ts[j].deep 60
     ·by_cases hq : (8 : Int) < (ts[j].vars.length : Int)
      ·exact ⟨false, by simp [DI, I8 DI, Ty.J9, Ty.ag, hc, hd, QN, hv, hq]⟩
      ·exact ⟨b, by simp [DI, I8 DI, Ty.J9, Ty.ag, hc, hd, QN, hv, hq, O5 (show j < 9223372036854775807 by omega), GJ]⟩
     ·exact ⟨false, by simp [DI, I8 DI, Ty.J9, Ty.ag, hc, hd, QN]⟩
    ·exact ⟨false, by simp [DI, I8 DI, Ty.J9, Ty.ag, hc]⟩
 obtain ⟨b, h1⟩ := loop ts.length 0 (by omega)
 refine ⟨b, (uU _).trans ?_⟩;rw [yC];exact h1
theorem fG (t : Ty) (h : t.size <= lim) : ∃ b : Bool, (run cfg).p Pg [t.enc] = some (.bool b) := by
 obtain ⟨b, hb⟩ := A9P [t] (by simp [lim]) (by simpa using h)
 simp only [z10q, z16q] at hb;have hs := B0K t h;cases b
 ·refine ⟨false, (Yc _).trans ?_⟩
  rw [bH];simp [Ty.J9, Ty.ag, hb]
 ·refine ⟨decide ((t.size : Int) <= 60), (Yc _).trans ?_⟩
  rw [bH];simp [Ty.J9, Ty.ag, hb, hs]
theorem A5F : p.thin = true -> ∀ n : Int, 0 <= n -> n <= 500 -> ∃ m : Int, (run cfg).p Nl [p.enc, .int .i64 n] = some (.int .i64 m) /\ 0 <= m /\ m <= 501 := by
 induction p using D9.ind with
 | h p ih =>
   intro ht n h0 h1;have hb := p.Ck ht;have loop : ∀ (k j : Nat) (n : Int), j + k = p.kids.length -> 0 <= n -> n <= 501 -> ∃ m : Int, JV (run cfg) (.int .i64 n) (.int .i64 j) p.enc = some (.int .i64 m) /\ 0 <= m /\ m <= 501 := by
    intro k
    induction k with
    | zero =>
      intro j n hj h0 h1;refine ⟨n, ?_, h0, h1⟩;have : ¬ j < p.kids.length := by omega
      rw [ND];simp [this]
    | succ k ihk =>
      intro j n hj h0 h1;have DI : j < p.kids.length := by omega
      rw [ND]
      by_cases hn : n <= 500
      ·obtain ⟨m, a1, a2, a3⟩ := ih _ (z1q DI) (D9.EN ht (z1q DI)) n h0 hn
       obtain ⟨m', b1, b2, b3⟩ := ihk (j + 1) m (by omega) a2 a3
       push_cast at b1;exact ⟨m', by simp [DI, hn, I8 DI, D9.J9, D9.ag, a1, O5 (show j < 9223372036854775807 by omega), b1], b2, b3⟩
      ·exact ⟨n, by simp [DI, hn], h0, h1⟩
   by_cases c1 : (300 : Int) < (p.s.size : Int)
   ·refine ⟨501, (Kh _ _).trans ?_, by omega, by omega⟩
    rw [MP];simp [c1]
   by_cases c2 : (300 : Int) < (p.name.size : Int)
   ·refine ⟨501, (Kh _ _).trans ?_, by omega, by omega⟩
    rw [MP];simp [c1, c2]
   obtain ⟨m, a1, a2, a3⟩ := loop p.kids.length 0 (n + 1) (by omega) (by omega) (by omega)
   refine ⟨m, (Kh _ _).trans ?_, a2, a3⟩;rw [MP];have dW : A8 .add (.int .i64 n) (.int .i64 1) = some (.int .i64 (n + 1)) := Mx (by omega) (by omega)
   simp [c1, c2, dW];exact a1
theorem A9Q : t.fit -> t.sized -> ∀ n : Int, 0 <= n -> n <= 500 -> ∃ m : Int, (run cfg).p XB [t.enc, .int .i64 n] = some (.int .i64 m) /\ 0 <= m /\ m <= 5000000000 := by
 induction t using Tm.ind with
 | h t ih =>
   intro ht hz n h0 h1;have hk := big (z8q ht.one.kids);have hp := big (z8q ht.one.H8);have ha := big (z8q ht.one.args);have hv := big (z8q ht.one.vars);have l3 : ∀ (k j : Nat) (n : Int), j + k = t.kids.length -> 0 <= n -> n <= 5000000000 -> ∃ m : Int, Ii (run cfg) (.int .i64 n) (.int .i64 j) t.enc = some (.int .i64 m) /\ 0 <= m /\ m <= 5000000000 := by
    intro k
    induction k with
    | zero =>
      intro j n hj h0 h1;refine ⟨n, ?_, h0, h1⟩;have : ¬ j < t.kids.length := by omega
      rw [RL];simp [this]
    | succ k ihk =>
      intro j n hj h0 h1;have DI : j < t.kids.length := by omega
      rw [RL]
      by_cases hn : n <= 500
      ·obtain ⟨m, a1, a2, a3⟩ := ih _ (z1q DI) (ht.kid (z1q DI)) (hz.kid (z1q DI)) n h0 hn
       obtain ⟨m', b1, b2, b3⟩ := ihk (j + 1) m (by omega) a2 a3
       push_cast at b1;exact ⟨m', by simp [DI, hn, I8 DI, Tm.J9, Tm.ag, a1, O5 (show j < 9223372036854775807 by omega), b1], b2, b3⟩
      ·exact ⟨n, by simp [DI, hn], h0, h1⟩
   have l2 : ∀ (k j : Nat) (n : Int), j + k = t.H8.length -> 0 <= n -> n <= 5000000000 -> ∃ m : Int, Ih (run cfg) (.int .i64 n) (.int .i64 j) t.enc = some (.int .i64 m) /\ 0 <= m /\ m <= 5000000000 := by
    intro k
    induction k with
    | zero =>
      intro j n hj h0 h1;obtain ⟨m, a1, a2, a3⟩ := l3 t.kids.length 0 n (by omega) h0 h1
      refine ⟨m, ?_, a2, a3⟩;have : ¬ j < t.H8.length := by omega
      rw [RJ];simp [this];exact a1
    | succ k ihk =>
      intro j n hj h0 h1;have DI : j < t.H8.length := by omega
      rw [RJ]
      by_cases hn : n <= 500
      ·obtain ⟨m, a1, a2, a3⟩ := A5F _ (D9.qK (ht.one.pat _ (z1q DI))) n h0 hn
       obtain ⟨m', b1, b2, b3⟩ := ihk (j + 1) m (by omega) a2 (by omega)
       push_cast at b1;exact ⟨m', by simp [DI, hn, I8 DI, D9.J9, D9.ag, a1, O5 (show j < 9223372036854775807 by omega), b1], b2, b3⟩
      ·obtain ⟨m, a1, a2, a3⟩ := l3 t.kids.length 0 n (by omega) h0 h1
       exact ⟨m, by simp [DI, hn]; exact a1, a2, a3⟩
   have l1 : ∀ (k j : Nat) (n : Int), j + k = t.args.length -> 0 <= n -> n <= 5000000000 -> ∃ m : Int, Ny (run cfg) (.int .i64 n) (.int .i64 j) t.enc = some (.int .i64 m) /\ 0 <= m /\ m <= 5000000000 := by
    intro k
    induction k with
    | zero =>
      intro j n hj h0 h1;obtain ⟨m, a1, a2, a3⟩ := l2 t.H8.length 0 n (by omega) h0 h1
      refine ⟨m, ?_, a2, a3⟩;have : ¬ j < t.args.length := by omega
      rw [UL];simp [this];exact a1
    | succ k ihk =>
      intro j n hj h0 h1;have DI : j < t.args.length := by omega
      rw [UL]
      by_cases hn : n <= 500
      ·obtain ⟨b, hb⟩ := fG _ (hz.args _ (z1q DI))
       have dW : A8 .add (.int .i64 n) (.int .i64 1) = some (.int .i64 (n + 1)) := Mx (by omega) (by omega)
       cases b
       ·exact ⟨501, by simp [DI, hn, dW, I8 DI, Ty.J9, Ty.ag, hb], by omega, by omega⟩
       ·obtain ⟨m', b1, b2, b3⟩ := ihk (j + 1) (n + 1) (by omega) (by omega) (by omega)
        push_cast at b1;exact ⟨m', by simp [DI, hn, dW, I8 DI, Ty.J9, Ty.ag, hb, O5 (show j < 9223372036854775807 by omega), b1], b2, b3⟩
      ·obtain ⟨m, a1, a2, a3⟩ := l2 t.H8.length 0 n (by omega) h0 h1
       exact ⟨m, by simp [DI, hn]; exact a1, a2, a3⟩
   have dW : A8 .add (.int .i64 n) (.int .i64 1) = some (.int .i64 (n + 1)) := Mx (by omega) (by omega)
   have A1b : A8 .add (.int .i64 (n + 1)) (.int .i64 (t.vars.length : Int)) = some (.int .i64 (n + 1 + t.vars.length)) := Mx (by omega) (by omega)
   by_cases c1 : (300 : Int) < (t.s.size : Int)
   ·refine ⟨501, (Fz _ _).trans ?_, by omega, by omega⟩
    rw [Ht];simp [c1, dW, A1b]
   by_cases c2 : (300 : Int) < (t.name.size : Int)
   ·refine ⟨501, (Fz _ _).trans ?_, by omega, by omega⟩
    rw [Ht];simp [c1, c2, dW, A1b]
   by_cases c3 : (300 : Int) < (t.arg.size : Int)
   ·refine ⟨501, (Fz _ _).trans ?_, by omega, by omega⟩
    rw [Ht];simp [c1, c2, c3, dW, A1b]
   obtain ⟨b1, MX⟩ := fG _ hz.a;obtain ⟨b2, hb2⟩ := fG _ hz.b;cases b1
   ·refine ⟨501, (Fz _ _).trans ?_, by omega, by omega⟩
    rw [Ht];simp [c1, c2, c3, dW, A1b, Ty.J9, Ty.ag, MX]
   cases b2
   ·refine ⟨501, (Fz _ _).trans ?_, by omega, by omega⟩
    rw [Ht];simp [c1, c2, c3, dW, A1b, Ty.J9, Ty.ag, MX, hb2]
   obtain ⟨m, a1, a2, a3⟩ := l1 t.args.length 0 (n + 1 + t.vars.length) (by omega) (by omega) (by omega)
   refine ⟨m, (Fz _ _).trans ?_, a2, a3⟩;rw [Ht];simp [c1, c2, c3, dW, A1b, Ty.J9, Ty.ag, MX, hb2];exact a1
theorem A7I (ht : t.fit) (hz : t.sized) : ∃ b : Bool, (run cfg).p jP [.list 20 [t.enc]] = some (.bool b) := by
 obtain ⟨m, h1, h2, h3⟩ := A9Q t ht hz 0 (by omega) (by omega)
 refine ⟨decide (500 < m), (uV _).trans ?_⟩;rw [yD, UK];have e0 : F5 20 (.list 20 [t.enc]) (.int .i64 0) = some t.enc := by simp [F5]
 simp [e0, Tm.J9, Tm.ag, h1, Mx (show (-9223372036854775808 : Int) <= 0 + 1 by omega) (by omega)]
 rw [UK];simp
theorem B0P (b : Ty) : (run cfg).p pM [a.enc, b.enc] = some (.bool (decide (a.kids.length = 0) && decide (a.kind = b.kind) && decide (a.n = b.n))) := by
 refine (zI _ _).trans ?_;rw [A2k]
 by_cases h0 : a.kids.length = 0
 ·have VD : a.kids = [] := z6q h0
  by_cases h1 : a.kind = b.kind <;> simp [VD, h1]
 ·have VD : ¬ ((a.kids.length : Int) = 0) := by omega
  have B2f : ¬ a.kids = [] := fun h => h0 (by rw [h]; rfl)
  simp [VD, B2f]
theorem B0Q (b : Ty) : (run cfg).p pO [a.enc, b.enc] = some (.bool (decide (0 < a.kids.length) && decide (a.kind = b.kind))) := by
 refine (zJ _ _).trans ?_;rw [A2l]
 by_cases h0 : 0 < a.kids.length
 ·have VD : (0 : Int) < (a.kids.length : Int) := by omega
  simp [h0, VD]
 ·have VD : ¬ (0 : Int) < (a.kids.length : Int) := by omega
  simp [h0, VD]
theorem A9W : a.right = true -> ∀ b : Ty, b.right = true -> (run cfg).p XE [a.enc, b.enc] = some (.bool (a.agrees b)) := by
 induction a using Ty.ind with
 | h a ih =>
   intro ha b hb;have hn := a.Ck (Ty.Ah ha);refine (ui _ _).trans ?_;rw [yL, Ty.R_];simp [Ty.J9, Ty.ag, oz _ _ (Ty.Ah ha), oz _ _ (Ty.Ah hb), B0P, B0Q]
   by_cases h1 : a.kind = 5 <;> simp [h1]
   by_cases h2 : b.kind = 5 <;> simp [h2]
   by_cases h3 : a.kind = b.kind
   ·have h5 := FJ ha hb h3
    have loop := A86 (l := a.kids) (m := b.kids) h5 (P := fun i => Lx (run cfg) (.int .i64 i) a.enc b.enc) (f := Ty.agrees) (y := .bool true) (n := .bool false)
     (by rw [RU]; simp)
     (fun i h => by
       have h' : i < b.kids.length := by omega
       rw [RU];simp [h, h', I8 h, I8 h', Ty.J9, Ty.ag, ih _ (z1q h) (Ty.O4 ha (z1q h)) _ (Ty.O4 hb (z1q h')), O5 (show i < 9223372036854775807 by omega)]
       cases (a.kids[i].agrees b.kids[i]) <;> rfl)
    by_cases h0 : a.kids.length = 0
    ·have VD : a.kids = [] := z6q h0
     by_cases h4 : a.n = b.n <;> simp [VD, h3, h4]
    ·have hp : 0 < a.kids.length := by omega
     have B2f : ¬ a.kids = [] := fun h => h0 (by rw [h]; rfl)
     have h4 : a.n = b.n := by
      have h1 := (Ty.FR.1 ha).2.2.2.1;have h2 := (Ty.FR.1 hb).2.2.2.1;have h6 : ¬ a.kind = 6 := fun h => B2f (Ty.B6s ha h)
      omega
     simp only [loop];simp [B2f, h3, h4, hp, A83];cases ((a.kids.zip b.kids).all fun p => p.1.agrees p.2) <;> simp
   ·simp [h3]
theorem e4 : B6C 4 := .inl rfl
theorem e6 : B6C 6 := .inr (.inl rfl)
theorem A9N (a b : List Int) (hl : a.length <= lim) : (run cfg).p W_ [M8 a, M8 b] = some (.bool (decide (a = b))) := by
 have hb := big hl;refine (uR _ _).trans ?_;rw [x_];simp
 by_cases h3 : a.length = b.length
 ·have loop := NS (l := a) (m := b) h3 (P := fun i => Nv (run cfg) (M8 a) (M8 b) (.int .i64 i)) (y := .bool true) (n := .bool false)
   (by rw [UG]; simp [h3])
   (fun i h => by
     have h' : i < b.length := by omega
     rw [UG]
     by_cases hh : a[i] = b[i] <;> simp [h, h', NA h, NA h', hh, O5 (show i < 9223372036854775807 by omega)])
  simp only [h3] at loop ⊢;simp [loop]
  by_cases h4 : a = b <;> simp [h4]
 ·have : a ≠ b := fun h => h3 (by rw [h])
  simp [z21q, h3, this]
theorem A0O (b : Bool) : (run cfg).p Pm [.bool b] = some (.int .i64 (if b = true then 1 else 0)) := by
 refine (vB _).trans ?_;rw [yX];cases b <;> simp
def opN (op a b : Int) : Option Int :=
 if op = 1 then some (IntKind.i64.wrap (a + b)) else if op = 2 then some (IntKind.i64.wrap (a - b)) else if op = 3 then some (IntKind.i64.wrap (a * b))
 else if op = 4 then (if b = 0 then none else some (IntKind.i64.wrap (a.tdiv b))) else if op = 5 then some (if a < b then 1 else 0) else some (if a = b then 1 else 0)
theorem B4q (op a b : Int) : (run cfg).p A3s [.int .i64 op, .int .i64 a, .int .i64 b] = some (match opN op a b with | some n => .H7 [.int .i64 n, .bool true] | none => .H7 [.int .i64 0, .bool false]) := by
 have qu : ∀ x y : Int, y ≠ 0 -> A8 .quo (.int .i64 x) (.int .i64 y) = some (.int .i64 (IntKind.i64.wrap (x.tdiv y))) := fun x y h => by
  show (if y = 0 then none else some (DV.int .i64 (IntKind.i64.wrap (x.tdiv y)))) = _
  rw [if_neg h]
 have mu : ∀ x y : Int, A8 .mul (.int .i64 x) (.int .i64 y) = some (.int .i64 (IntKind.i64.wrap (x * y))) := fun x y => rfl
 refine (A49 _ _ _).trans ?_;rw [A6Q];unfold opN;simp only [I5, L9, Bo, Fy, mu, D5, D8, A0O]
 by_cases c1 : op = 1
 ·simp [c1]
 by_cases c2 : op = 2
 ·simp [c2]
 by_cases c3 : op = 3
 ·simp [c3]
 by_cases c4 : op = 4
 ·by_cases z : b = 0
  ·simp [c4, z]
  ·by_cases m : b = -1
   ·subst m
    simp [c4, Int.tdiv_neg]
   ·simp [c4, z, m, qu]
 by_cases c5 : op = 5
 ·simp [c5]
 simp [c1, c2, c3, c4, c5]
end Go.Su

/-
 What the functions on coercions give: right ones, the same.
-/
namespace Go.Su
attribute [local simp] A9.J9
variable {c : A9}
theorem B1h {i : Nat} (h : i < c.kids.length) : F5 5 (.list 5 (c.kids.map A9.enc)) (.int .i64 (i : Int)) = some (c.kid i).enc := by rw [I8 h, A9.A53 h]
theorem l7 (h : 0 < c.kids.length) : F5 5 (.list 5 (c.kids.map A9.enc)) (.int .i64 0) = some (c.kid 0).enc := B1h h
theorem NQ (h : 1 < c.kids.length) : F5 5 (.list 5 (c.kids.map A9.enc)) (.int .i64 1) = some (c.kid 1).enc := B1h h
variable (n : Int)
theorem wM : (run cfg).p TE [.int .i64 n] = some (.bool (IM n)) := by
 refine (mi _).trans ?_;rw [sQ]
 by_cases h : 0 <= n <;> simp [IM, h]
theorem om : (run cfg).p QW [.int .i64 n] = some (.bool (I_ n)) := by
 refine (iL _).trans ?_;rw [lu];simp only [I5, D5, D8, I_]
 repeat' split
 all_goals simp_all
theorem XW : (run cfg).p Zf [.int .i64 n] = some (.bool (I_ n)) := by
 refine (zQ _).trans ?_;rw [A2s];simp only [QV, D5, Ef, J7, I6, I_, arity]
 by_cases h : n = 1 \/ n = 2 \/ n = 3 \/ n = 4 \/ n = 7 \/ n = 8 \/ n = 9
 ·rcases h with h | h | h | h | h | h | h <;> subst h <;> rfl
 ·by_cases h5 : n = 5
  ·subst h5; rfl
  ·by_cases h6 : n = 6
   ·subst h6; rfl
   ·rw [decide_eq_false h, if_neg]
    rw [if_neg (by omega), if_neg (by omega), if_neg (by omega)]
    decide
theorem A6h : (run cfg).p YM [.int .i64 n] = some (.int .i64 (Ed n)) := by
 refine (iK _).trans ?_;rw [lq];simp only [I5, D5, D8, Ed, decide_eq_true_eq]
 repeat' split
 all_goals rfl
theorem Yu : (run cfg).p Mk [.int .i64 n] = some (.int .i64 (Ed n)) := by
 refine (nD _).trans ?_;rw [tH];simp only [I5, D5, D8, Ed, decide_eq_true_eq]
 repeat' split
 all_goals rfl
theorem oo (h : (run cfg).p CK [c.enc] = some (.bool c.right)) (n : Int) : (run cfg).p DT [c.enc, .int .i64 n] = some (.bool (c.Zr n && c.right)) := by
 refine (iM _ _).trans ?_;rw [lv];simp [h, A6h, A9.Zr]
 by_cases h1 : c.kind = 1 <;> by_cases h2 : Ed c.kind = n <;> simp [h1, h2]
theorem A0M (h : (run cfg).p Dv [c.enc] = some (.bool c.right)) (n : Int) : (run cfg).p XG [c.enc, .int .i64 n] = some (.bool (c.Zr n && c.right)) := by
 refine (um _ _).trans ?_;rw [yO];simp [h, Yu, A9.Zr]
 by_cases h1 : c.kind = 1 <;> by_cases h2 : Ed c.kind = n <;> simp [h1, h2]
variable (ks : List A9)
def Rn : Nat := (ks.filter fun k => decide (k.kind = 1)).length
theorem B3M {k : A9} (h : k.kind = 1) (ks : List A9) : Rn (k :: ks) = Rn ks + 1 := by simp [Rn, h]
theorem B3L {k : A9} (h : k.kind ≠ 1) (ks : List A9) : Rn (k :: ks) = Rn ks := by simp [Rn, h]
theorem B7n : decide (Rn ks < ks.length) = ks.any fun k => decide (k.kind ≠ 1) := by
 have le : ∀ l : List A9, Rn l <= l.length := fun l => z52q ..
 induction ks with
 | nil => rfl
 | cons k ks ih =>
   have := le ks
   by_cases h : k.kind = 1
   ·rw [B3M h, z64q, <- ih]
    simp [h]
   ·rw [B3L h, z64q]
    simp [h];omega
theorem Wy (ih : ∀ k ∈ c.kids, (run cfg).p CK [k.enc] = some (.bool k.right)) (hk : c.kind = 2 \/ c.kind = 3 \/ c.kind = 4) : (run cfg).p Kv [c.enc] = some (.bool c.right) := by
 refine (iJ _).trans ?_;have main : ∀ q : Nat, q <= 2 -> Ls (run cfg) (.int .i64 (q : Int)) c.enc = some (.bool (decide (c.kids.length = q) && decide (c.head = 0) && decide (c.label = 0) && !c.neg && c.kids.all A9.right && c.kids.any fun k => decide (k.kind ≠ 1))) := by
  intro q hq;rw [bD]
  by_cases h1 : c.kids.length = q
  ·subst h1
   have loop := i_ (l := c.kids) (P := fun i (n : Nat) => Hf (run cfg) (.int .i64 (c.kids.length : Int)) (.int .i64 n) (.list 5 (c.kids.map A9.enc)) (.int .i64 c.kids.length) (.int .i64 i)) (I := fun i n => n <= i)
    (F := fun l n => some (.bool (l.all A9.right && decide (n + Rn l < c.kids.length))))
    (fun n hn => by rw [PN]; simp [Rn]; try rfl)
    (fun i h n hn nx => by
      rw [PN];simp only [L9, z46q, h, decide_true, D5, D8, if_true, I8 h, A9.K8, A9.Q0, A9.Q4, A9.Q5, A9.Q7, A9.J9, A9.ag, ih _ (z1q h), K6, I5]
      by_cases h2 : c.kids[i].right = true
      ·by_cases h3 : c.kids[i].kind = 1
       ·simp only [h2, h3, O5 (show n < 9223372036854775807 by omega), O5 (show i < 9223372036854775807 by omega), z5q, z0q, if_false, decide_true, if_true, D5]
        rw [show ((i + 1 : Nat) : Int) = (i : Int) + 1 from rfl, nx (n + 1) (by omega)]
        simp only [B3M h3, z27q, h2, z18q, Nat.add_assoc, Nat.add_comm 1]
       ·simp only [h2, h3, O5 (show i < 9223372036854775807 by omega), z5q, z0q, if_false, decide_false, D5]
        rw [show ((i + 1 : Nat) : Int) = (i : Int) + 1 from rfl, nx n (by omega)]
        simp only [B3L h3, z27q, h2, z18q]
      ·simp only [h2, z11q, if_true, z27q, z38q, z65q])
    0 (z23q _)
   simp only [z47q, B7n] at loop;simp only [A9.Q7, A9.Q0, A9.Q4, A9.Q5, M7, z3q, D5, J7, decide_true, z5q, I6, z0q, if_false, D8, z18q]
   by_cases a1 : c.head = 0 <;> simp only [a1, decide_true, decide_false, z5q, z11q, z0q, if_false, if_true, z18q, z38q]
   by_cases a2 : c.label = 0 <;> simp only [a2, decide_true, decide_false, z5q, z11q, z0q, if_false, if_true, z18q, z38q]
   by_cases a3 : c.neg = true <;> simp only [a3, z5q, z11q, z0q, if_false, if_true, z18q, z38q]
   exact loop
  ·have h1' : ¬ (c.kids.length : Int) = q := by omega
   simp [h1', h1]
 rw [lh, A9.B1z hk];have m1 := main 1 (by omega)
 have m2 := main 2 (by omega)
 by_cases h4 : c.kind = 4
 ·simp only [M9, E5, A9.K8, I5, h4, decide_true, D5, D8, if_true]
  exact m1
 ·simp only [M9, E5, A9.K8, I5, h4, decide_false, D5, D8, z0q, if_false]
  exact m2
variable (c : A9)
theorem A7G : (run cfg).p CK [c.enc] = some (.bool c.right) := by
 induction c using A9.ind with
 | h c ih =>
   refine (mo _).trans ?_;rw [sS]
   by_cases k1 : c.kind = 1
   ·rw [A9.right_eq, A9.Km]
    by_cases h1 : c.kids.length = 0
    ·have := z6q h1
     simp [k1, this]
     by_cases a1 : c.head = 0 <;> simp [a1]
     by_cases a2 : c.label = 0 <;> simp [a2]
    ·simp [k1, h1]
   by_cases k7 : c.kind = 7
   ·rw [A9.right_eq, A9.Km]
    by_cases h1 : c.kids.length = 0
    ·have := z6q h1
     simp [k7, this, wM]
     by_cases a1 : c.head = 0 <;> simp [a1]
    ·simp [k7, h1]
   simp [k1, k7];rw [gU]
   by_cases k5 : c.kind = 5
   ·rw [A9.A6b k5]
    by_cases h1 : c.kids.length = 1
    ·have hk : (c.kid 0) ∈ c.kids := A9.Oc (by omega)
     simp [k5, h1, om, l7 (show 0 < c.kids.length by omega), oo (ih _ hk)]
     by_cases a1 : I_ c.head = true <;> simp [a1]
     by_cases a2 : c.label = 0 <;> simp [a2]
     by_cases a3 : c.neg = true <;> simp [a3]
    ·have : ¬ (c.kids.length : Int) = 1 := by omega
     simp [k5, h1, this]
   simp [k5];rw [gV]
   by_cases k6 : c.kind = 6
   ·rw [A9.B1y k6]
    by_cases h1 : c.kids.length = 1
    ·have hk : (c.kid 0) ∈ c.kids := A9.Oc (by omega)
     simp [k6, h1, om, wM]
     by_cases a1 : I_ c.head = true <;> simp [a1]
     by_cases a2 : IM c.label = true <;> simp [a2]
     rw [bF];simp [l7 (show 0 < c.kids.length by omega)]
     rw [bG];simp [ih _ hk, oo (ih _ hk), A9.Zr]
     by_cases b1 : (c.kid 0).right = true
     ·by_cases b2 : (c.kid 0).kind = 7
      ·simp [b1, b2]
      ·by_cases b3 : (c.kid 0).kind = 5
       ·by_cases b4 : (c.kid 0).head = c.head <;> simp [b1, b2, b3, b4]
       ·simp [b1, b2, b3]
     ·simp [b1]
      try (by_cases b2 : (c.kid 0).kind = 7 <;> by_cases b3 : (c.kid 0).kind = 5 <;> by_cases b4 : (c.kid 0).head = c.head <;> simp [b2, b3, b4])
    ·have : ¬ (c.kids.length : Int) = 1 := by omega
     simp [k6, h1, this]
   simp [k6]
   by_cases k2 : c.kind = 2
   ·simp [k2, Wy ih (.inl k2)]
   by_cases k3 : c.kind = 3
   ·simp [k3, Wy ih (.inr (.inl k3))]
   by_cases k4 : c.kind = 4
   ·simp [k4, Wy ih (.inr (.inr k4))]
   simp [k2, k3, k4];rw [A9.B1A (by omega)]
theorem A0L : (run cfg).p Dv [c.enc] = some (.bool c.right) := by
 induction c using A9.ind with
 | h c ih =>
   refine (uk _).trans ?_;have main : Qm (run cfg) (.bool (IM c.label)) (.bool (decide (c.label = 0) && !c.neg)) c.enc = some (.bool c.right) := by
    rw [mM]
    by_cases k1 : c.kind = 1
    ·rw [A9.right_eq, A9.Km]
     by_cases h1 : c.kids.length = 0
     ·have := z6q h1
      simp [k1, this]
      by_cases a1 : c.head = 0 <;> by_cases a2 : c.label = 0 <;> cases c.neg <;> simp [a1, a2]
     ·simp [k1, h1]
    by_cases k7 : c.kind = 7
    ·rw [A9.right_eq, A9.Km]
     by_cases h1 : c.kids.length = 0
     ·have := z6q h1
      simp [k7, this]
      by_cases a1 : c.head = 0 <;> by_cases a2 : IM c.label = true <;> simp [a1, a2]
     ·simp [k7, h1]
    simp [k1, k7];rw [mO]
    by_cases k5 : c.kind = 5
    ·rw [A9.A6b k5]
     by_cases h1 : c.kids.length = 1
     ·have hk : (c.kid 0) ∈ c.kids := A9.Oc (by omega)
      simp [k5, h1, XW, l7 (show 0 < c.kids.length by omega), A0M (ih _ hk)]
      by_cases a1 : I_ c.head = true <;> by_cases a2 : c.label = 0 <;> by_cases a3 : c.neg = true <;> simp [a1, a2, a3]
     ·have : ¬ (c.kids.length : Int) = 1 := by omega
      simp [k5, h1, this, XW]
    simp [k5]
    by_cases k6 : c.kind = 6
    ·rw [A9.B1y k6]
     by_cases h1 : c.kids.length = 1
     ·have hk : (c.kid 0) ∈ c.kids := A9.Oc (by omega)
      simp [k6, h1, XW]
      by_cases a1 : I_ c.head = true <;> by_cases a2 : IM c.label = true <;> simp [a1, a2]
      rw [gp];simp [l7 (show 0 < c.kids.length by omega), ih _ hk, A0M (ih _ hk), A9.Zr]
      by_cases b1 : (c.kid 0).right = true <;> by_cases b2 : (c.kid 0).kind = 7 <;> by_cases b3 : (c.kid 0).kind = 5 <;> by_cases b4 : (c.kid 0).head = c.head <;> simp [b1, b2, b3, b4]
      all_goals try (by_cases b5 : Ed (c.kid 0).kind = c.head <;> simp [b5])
      all_goals try (by_cases b5 : Ed 5 = c.head <;> simp [b5])
      all_goals try (by_cases b5 : (c.kid 0).kind = 1 <;> simp [b5])
     ·have : ¬ (c.kids.length : Int) = 1 := by omega
      simp [k6, h1, this, XW]
    simp [k6];rw [gq];simp [Yu]
    by_cases kf : c.kind = 2 \/ c.kind = 3 \/ c.kind = 4
    ·have f0 : Ed c.kind ≠ 0 := by rcases kf with k | k | k <;> rw [k] <;> decide
     have ar : arity (Ed c.kind) = ((if c.kind = 4 then 1 else 2 : Nat) : Int) := by rcases kf with k | k | k <;> rw [k] <;> decide
     rw [A9.B1z kf];simp only [f0, decide_false, if_false, QV, D5, ar, A9.Bi]
     by_cases h1 : c.kids.length = if c.kind = 4 then 1 else 2
     ·have h1' : (c.kids.length : Int) = ((if c.kind = 4 then 1 else 2 : Nat) : Int) := by rw [h1]
      have loop := i_ (l := c.kids) (P := fun i (b : Bool) => Im (run cfg) (.bool b) (.int .i64 i) c.enc) (I := fun i n => i <= c.kids.length)
       (F := fun l b => some (.bool (l.all A9.right && (b || l.any fun k => decide (k.kind ≠ 1)))))
       (fun n hn => by rw [RX]; simp)
       (fun i h n hn nx => by
         have hl : c.kids.length <= 2 := by rw [h1]; split <;> omega
         rw [RX];simp only [A9.Q7, M7, z3q, L9, z46q, h, decide_true, D5, D8, I6, if_true, I8 h, A9.K8, A9.Q0, A9.Q4, A9.Q5, A9.Q7, A9.J9, A9.ag, ih _ (z1q h), K6, J7];simp only [O5 (show i < 9223372036854775807 by omega), D5, show ((i + 1 : Nat) : Int) = (i : Int) + 1 from rfl, nx _ (show i + 1 <= c.kids.length by omega)]
         rw [z27q, z64q]
         by_cases h2 : c.kids[i].right = true <;> by_cases h3 : c.kids[i].kind = 1 <;> cases n <;> simp [h2, h3])
       false (z57q _)
      simp only [Bool.false_or] at loop;simp only [A9.Q0, A9.Q7, M7, z3q, D5, J7, h1', decide_true, z5q, z0q, if_false, D8, I6, K6, z65q]
      by_cases a1 : c.head = 0 <;> by_cases a2 : c.label = 0 <;> by_cases a3 : c.neg = true <;> simp [a1, a2, a3, h1]
      simpa using loop
     ·have h1' : ¬ (c.kids.length : Int) = ((if c.kind = 4 then 1 else 2 : Nat) : Int) := by omega
      simp only [A9.Q0, A9.Q7, M7, z3q, D5, J7, h1', decide_false, z11q, if_true, D8, I6, K6, h1, z38q]
      by_cases a1 : c.head = 0 <;> by_cases a2 : c.label = 0 <;> by_cases a3 : c.neg = true <;> simp [a1, a2, a3]
    ·rw [A9.B1A (by omega)]
     simp [Ed, show ¬ c.kind = 2 by omega, show ¬ c.kind = 3 by omega, show ¬ c.kind = 4 by omega]
   have m2 : ∀ b : Bool, b = IM c.label -> Ql (run cfg) (.bool b) c.enc = some (.bool c.right) := by
    rintro b rfl;rw [mK]
    by_cases a2 : c.label = 0 <;> simp [a2] at main ⊢ <;> exact main
   rw [yN]
   by_cases a1 : 0 <= c.label
   ·simp [a1]
    exact m2 _ (by simp [IM, a1])
   ·simp [a1]
    exact m2 _ (by simp [IM, a1])
theorem wL : (run cfg).p Cw [c.enc] = some (.int .i64 (if c.right = true then 0 else 1)) := by
 refine (mh _).trans ?_;rw [sP];simp [A7G];cases c.right <;> rfl
end Go.Su

/-
 What joining coercions gives: the program's, the document's.
-/
namespace Go.Su
attribute [local simp] A9.J9
theorem FC : DV.agg (Ab []) = F6.enc := by rw [A9.F8]; rfl
theorem A50 : DV.agg ((.int .i64 1)::(Pd [.list 5 []])) = iq.enc := by rw [A9.F8]; rfl
theorem A6U (l : Int) (n : Bool) : DV.agg [.int .i64 7, .int .i64 0, .int .i64 l, .bool n, .list 5 []] = (A7Y l n).enc := by rw [A9.F8]; rfl
theorem wN (c k : A9) : (run cfg).p TF [c.enc, k.enc] = some (c.inner k).enc := by
 refine (mq _ _).trans ?_;rw [sU];simp;rw [A9.F8 (c.inner k)]; rfl
theorem wO (c k : A9) : (run cfg).p TK [c.enc, k.enc] = some (c.inner k).enc := by
 refine (nE _ _).trans ?_;rw [tJ];simp;rw [A9.F8 (c.inner k)]; rfl
theorem A5E : (run cfg).p fO [] = some iq.enc := by
 refine A8j ?_;rw [A4T, A50]
theorem A0K : (run cfg).p Vq [] = some iq.enc := by
 refine B0k ?_;rw [A6P, A50]
theorem A7W (d : DV) : AQ 5 (.list 5 []) (.list 5 [d]) = some (.list 5 [d]) := M_ (by simp [lim])
theorem B6B (a d : DV) : AQ 5 (.list 5 [a]) (.list 5 [d]) = some (.list 5 [a, d]) := M_ (by simp [lim])
theorem B6z : A8 .add (.int .i64 1) (.int .i64 1) = some (.int .i64 2) := rfl
theorem A7V : A8 .add (.int .i64 0) (.int .i64 1) = some (.int .i64 1) := rfl
theorem oI (k : Int) (ks : List A9) : DV.agg ((.int .i64 k)::(Pd [.list 5 (ks.map A9.enc)])) = (A9.mk k 0 0 false ks).enc := by rw [A9.F8]; rfl
def pY (F : FuncId) (c d : A9) (o : Option A9) : Prop := ∃ x : A9, (run cfg).p F [c.enc, d.enc] = some (.H7 [x.enc, .bool o.isSome]) /\ ∀ j, o = some j -> x = j
theorem A6i {c d : A9} (hc : c.right = true) (hd : d.right = true) (hk : c.kind = d.kind) (h4 : c.kind = 2 \/ c.kind = 3 \/ c.kind = 4) {n : Nat} (ih : ∀ a b : A9, a.right = true -> b.right = true -> a.size + b.size < c.size + d.size -> pY Dt a b (A9.T9 n a b)) :
 ∃ x : A9, (run cfg).p YN [c.enc, d.enc] = some (.H7 [x.enc, .bool (if c.kind = 4 then (A9.T9 n (c.kid 0) (d.kid 0)).map fun k => Y3 c.kind [k]
   else (A9.T9 n (if c.kind = 2 then d.kid 0 else c.kid 0) (if c.kind = 2 then c.kid 0 else d.kid 0)).bind fun a => (A9.T9 n (c.kid 1) (d.kid 1)).map fun b => Y3 c.kind [a, b]).isSome]) /\
   ∀ j, (if c.kind = 4 then (A9.T9 n (c.kid 0) (d.kid 0)).map fun k => Y3 c.kind [k]
   else (A9.T9 n (if c.kind = 2 then d.kid 0 else c.kid 0) (if c.kind = 2 then c.kid 0 else d.kid 0)).bind fun a => (A9.T9 n (c.kid 1) (d.kid 1)).map fun b => Y3 c.kind [a, b]) = some j -> x = j := by
 have e := iN c.enc d.enc;rw [e, lw];have sz := fun (c : A9) (i : Nat) (h : i < c.kids.length) => A9.IC (A9.Oc h)
 by_cases k4 : c.kind = 4
 ·have l1 := A9.A_ hc (.inl k4)
  have l2 := A9.A_ hd (.inl (by omega))
  obtain ⟨x, hx, hj⟩ := ih (c.kid 0) (d.kid 0) (A9.O4 hc (by omega)) (A9.O4 hd (by omega)) (by have := sz c 0 (by omega); have := sz d 0 (by omega); omega)
  have k2 : ¬ c.kind = 2 := by omega
  simp only [M9, E5, A9.K8, P5, A9.Q7, M7, z3q, D5, l1];rw [Bj];simp [k2, l7 (show 0 < c.kids.length by omega), l7 (show 0 < d.kids.length by omega), k4]
  rw [Ke];simp [hx];cases hJ : A9.T9 n (c.kid 0) (d.kid 0) with
  | none => simp [hJ]; exact ⟨F6, by rw [FC]⟩
  | some j =>
    have := hj j hJ;subst this;simp [A7W, A7V]
    by_cases k1 : x.kind = 1
    ·simp [k1]
     rw [Bj];simp [A5E];simp [Y3, k1]
    ·simp [k1]
     rw [Bj];simp;simp [Y3, k1];exact oI 4 [x]
 ·have k23 : c.kind = 2 \/ c.kind = 3 := by omega
  have l1 := A9.JB hc k23;have l2 := A9.JB hd (by omega)
  have s1 := sz c 0 (by omega)
  have s2 := sz d 0 (by omega)
  have s3 := sz c 1 (by omega)
  have s4 := sz d 1 (by omega)
  have r1 := A9.O4 hc (show 0 < c.kids.length by omega)
  have r2 := A9.O4 hd (show 0 < d.kids.length by omega)
  have A : pY Dt (if c.kind = 2 then d.kid 0 else c.kid 0) (if c.kind = 2 then c.kid 0 else d.kid 0) (A9.T9 n (if c.kind = 2 then d.kid 0 else c.kid 0) (if c.kind = 2 then c.kid 0 else d.kid 0)) := by
   split
   ·exact ih _ _ r2 r1 (by omega)
   ·exact ih _ _ r1 r2 (by omega)
  obtain ⟨y, hy, hi⟩ := ih (c.kid 1) (d.kid 1) (A9.O4 hc (by omega)) (A9.O4 hd (by omega)) (by omega)
  simp only [M9, E5, A9.K8, P5, A9.Q7, M7, z3q, D5, l1];simp only [if_neg k4];have two : ∀ (m : Nat) (x : A9), m = Rn [x] -> ∃ z : A9, Hg (run cfg) (.int .i64 m) (.int .i64 2) (.int .i64 1) c.enc d.enc (.int .i64 c.kind) (.list 5 [x.enc]) =
   some (.H7 [z.enc, .bool ((A9.T9 n (c.kid 1) (d.kid 1)).map fun b => Y3 c.kind [x, b]).isSome]) /\ ∀ j, ((A9.T9 n (c.kid 1) (d.kid 1)).map fun b => Y3 c.kind [x, b]) = some j -> z = j := by
   intro m x hm;have p8 : ∃ z : A9, Fa (run cfg) (.int .i64 m) (.int .i64 2) (.int .i64 1) c.enc d.enc (.int .i64 c.kind) (.list 5 [x.enc]) (c.kid 1).enc (d.kid 1).enc =
    some (.H7 [z.enc, .bool ((A9.T9 n (c.kid 1) (d.kid 1)).map fun b => Y3 c.kind [x, b]).isSome]) /\ ∀ j, ((A9.T9 n (c.kid 1) (d.kid 1)).map fun b => Y3 c.kind [x, b]) = some j -> z = j := by
    rw [Ke];simp [hy];cases hJ : A9.T9 n (c.kid 1) (d.kid 1) with
    | none => simp; exact ⟨F6, by rw [FC]⟩
    | some j =>
      have := hi j hJ;subst this;simp only [z39q, z5q, z0q, if_false, z67q];have m2 : m <= 1 := by rw [hm]; exact z52q ..
      simp only [O5 (show m < 9223372036854775807 by omega), B6B, B6z, D5]
      by_cases k1 : y.kind = 1
      ·simp only [k1, decide_true, if_true]
       rw [Bj]
       by_cases x1 : x.kind = 1
       ·have : m = 1 := by rw [hm]; simp [Rn, x1]
        subst this;simp [A5E];simp [Y3, k1, x1]
       ·have : m = 0 := by rw [hm]; simp [Rn, x1]
        subst this;simp;simp [Y3, k1, x1];exact oI c.kind [x, y]
      ·simp only [k1, decide_false, z0q, if_false]
       rw [Bj];have : ¬ (m : Int) = 2 := by omega
       simp [this];simp [Y3, k1];exact oI c.kind [x, y]
   rw [Bj];simp only [L9, show decide ((1 : Int) < 2) = true from rfl, D5, D8, if_true, A9.Q7, NQ (show 1 < c.kids.length by omega), NQ (show 1 < d.kids.length by omega), A9.K8, I5, I6, show decide ((1 : Int) = 0) = false from rfl, z0q, if_false, ite_self]
   exact p8
  obtain ⟨x, hx, hj⟩ := A;have one : ∃ z : A9, Fa (run cfg) (.int .i64 0) (.int .i64 2) (.int .i64 0) c.enc d.enc (.int .i64 c.kind) (.list 5 []) (if c.kind = 2 then d.kid 0 else c.kid 0).enc (if c.kind = 2 then c.kid 0 else d.kid 0).enc =
   some (.H7 [z.enc, .bool ((A9.T9 n (if c.kind = 2 then d.kid 0 else c.kid 0) (if c.kind = 2 then c.kid 0 else d.kid 0)).bind fun a => (A9.T9 n (c.kid 1) (d.kid 1)).map fun b => Y3 c.kind [a, b]).isSome]) /\ ∀ j, ((A9.T9 n (if c.kind = 2 then d.kid 0 else c.kid 0) (if c.kind = 2 then c.kid 0 else d.kid 0)).bind fun a => (A9.T9 n (c.kid 1) (d.kid 1)).map fun b => Y3 c.kind [a, b]) = some j -> z = j := by
   rw [Ke];simp only [A9.K8, A9.Q0, A9.Q4, A9.Q5, A9.Q7, A9.J9, A9.ag, hx, D5, Q9, R4, M9, E5, K6, D8];cases hJ : A9.T9 n (if c.kind = 2 then d.kid 0 else c.kid 0) (if c.kind = 2 then c.kid 0 else d.kid 0) with
   | none => simp; exact ⟨F6, by rw [FC]⟩
   | some j =>
     have := hj j hJ;subst this;simp only [z39q, z5q, z0q, if_false, z66q, I5, D5, D8, A7V, A7W]
     by_cases k1 : x.kind = 1
     ·simp only [k1, decide_true, if_true]
      exact two 1 x (by simp [Rn, k1])
     ·simp only [k1, decide_false, z0q, if_false]
      exact two 0 x (by simp [Rn, k1])
  rw [Bj];simp only [L9, show ((2 : Nat) : Int) = 2 from rfl, show decide ((0 : Int) < 2) = true from rfl, D5, D8, if_true, A9.Q7, l7 (show 0 < c.kids.length by omega), l7 (show 0 < d.kids.length by omega), A9.K8, I5, I6, decide_true]
  by_cases k2 : c.kind = 2
  ·simp only [k2, decide_true, if_true] at one ⊢
   exact one
  ·simp only [k2, decide_false, z0q, if_false] at one ⊢
   exact one
theorem A9.EL {c : A9} {i : Nat} (h : i < c.kids.length) : (c.kid i).size < c.size := A9.IC (A9.Oc h)
theorem pY.inner {F : FuncId} {c d : A9} {o : Option A9} (u : A9) (h : pY F c d o) : ∃ x : A9, (run cfg).p F [c.enc, d.enc] = some (.H7 [x.enc, .bool (o.map u.inner).isSome]) /\ ∀ j, o.map u.inner = some j -> u.inner x = j := by
 obtain ⟨x, hx, hj⟩ := h;refine ⟨x, by rw [hx, Option.isSome_map], fun j e => ?_⟩
 cases o with
 | none => cases e
 | some y => rw [hj y rfl]; simpa using e
theorem A9M : ∀ (n : Nat) (c d : A9), c.right = true -> d.right = true -> c.size + d.size <= n -> pY Dt c d (A9.T9 n c d) := by
 intro n
 induction n with
 | zero => intro c d _ _ h; have := c.Db; omega
 | succ n ih =>
   intro c d hc hd hs;have cont : ∀ q, jd (run cfg) c.enc d.enc = q -> (∃ x : A9, q = some (.H7 [x.enc, .bool (A9.T9 (n + 1) c d).isSome]) /\ ∀ j, A9.T9 (n + 1) c d = some j -> x = j) -> pY Dt c d (A9.T9 (n + 1) c d) := by
    rintro q rfl ⟨x, h1, h2⟩;exact ⟨x, (uQ _ _).trans h1, h2⟩
   refine cont _ rfl ?_;rw [xz, A9.T9];simp only [M9, E5, A9.K8, A9.Q0, A9.Q4, A9.Q5, A9.Q7, A9.J9, A9.ag, I5, D5, D8, I6, decide_eq_true_eq]
   by_cases k1 : c.kind = 1
   ·simp only [k1, if_true]; exact ⟨d, rfl, fun j e => by cases e; rfl⟩
   by_cases k2 : d.kind = 1 \/ c.kind = 7
   ·simp only [k1, k2, if_true, if_false]
    refine ⟨c, ?_, fun j e => by cases e; rfl⟩
    rcases k2 with k | k <;> simp [k]
   have d1 : ¬ d.kind = 1 := fun h => k2 (.inl h)
   have c7 : ¬ c.kind = 7 := fun h => k2 (.inr h)
   simp only [k1, d1, c7, or_self, if_false]
   by_cases k6 : c.kind = 6
   ·have l1 := A9.A_ hc (.inr (.inr k6))
    have l0 : 0 < c.kids.length := by omega
    have sz := A9.EL l0;obtain ⟨x, hx, hj⟩ := (ih (c.kid 0) d (A9.O4 hc l0) hd (by omega)).inner c
    simp only [k6, if_true, l7 l0, D5, hx, Q9, R4, M9, E5, A9.K8, A9.Q0, A9.Q4, A9.Q5, A9.Q7, A9.J9, A9.ag, wN];exact ⟨_, rfl, hj⟩
   simp only [k6, if_false];have j12 : ¬ (c.kind = 5 /\ d.kind = 6) -> ∃ x : A9, Nu (run cfg) c.enc d.enc = some (.H7 [x.enc, .bool (if c.kind = 5 then (if d.kind = 6 then if c.head ≠ d.head then some (A7Y d.label d.neg) else A9.T9 n (c.kid 0) (d.kid 0) else none)
    else if d.kind = 7 then some d else if d.kind = 5 then (A9.T9 n c (d.kid 0)).map d.inner else if c.kind ≠ d.kind then none
    else if c.kind = 4 then (A9.T9 n (c.kid 0) (d.kid 0)).map fun k => Y3 c.kind [k]
    else (A9.T9 n (if c.kind = 2 then d.kid 0 else c.kid 0) (if c.kind = 2 then c.kid 0 else d.kid 0)).bind fun a => (A9.T9 n (c.kid 1) (d.kid 1)).map fun b => Y3 c.kind [a, b]).isSome]) /\ ∀ j, (if c.kind = 5 then (if d.kind = 6 then if c.head ≠ d.head then some (A7Y d.label d.neg) else A9.T9 n (c.kid 0) (d.kid 0) else none)
    else if d.kind = 7 then some d else if d.kind = 5 then (A9.T9 n c (d.kid 0)).map d.inner else if c.kind ≠ d.kind then none
    else if c.kind = 4 then (A9.T9 n (c.kid 0) (d.kid 0)).map fun k => Y3 c.kind [k]
    else (A9.T9 n (if c.kind = 2 then d.kid 0 else c.kid 0) (if c.kind = 2 then c.kid 0 else d.kid 0)).bind fun a => (A9.T9 n (c.kid 1) (d.kid 1)).map fun b => Y3 c.kind [a, b]) = some j -> x = j := by
    intro h56;rw [gW];simp only [A9.K8, A9.Q0, A9.Q4, A9.Q5, A9.Q7, A9.J9, A9.ag, I5, J7, D5, D8, decide_eq_true_eq]
    by_cases k5 : c.kind = 5
    ·have d6 : ¬ d.kind = 6 := fun h => h56 ⟨k5, h⟩
     simp only [k5, d6, if_true, if_false, z40q];exact ⟨F6, by rw [FC], fun j e => by cases e⟩
    simp only [k5, if_false]
    by_cases d7 : d.kind = 7
    ·simp only [d7, if_true]
     exact ⟨d, rfl, fun j e => by cases e; rfl⟩
    simp only [d7, if_false]
    by_cases d5 : d.kind = 5
    ·have l1 := A9.A_ hd (.inr (.inl d5))
     have l0 : 0 < d.kids.length := by omega
     have sz := A9.EL l0;obtain ⟨x, hx, hj⟩ := (ih c (d.kid 0) hc (A9.O4 hd l0) (by omega)).inner d
     simp only [d5, if_true, l7 l0, D5, hx, Q9, R4, M9, E5, A9.K8, A9.Q0, A9.Q4, A9.Q5, A9.Q7, A9.J9, A9.ag, wN];exact ⟨_, rfl, hj⟩
    simp only [d5, if_false]
    by_cases kk : c.kind = d.kind
    ·have ck := A9.Gl hc
     obtain ⟨x, hx, hj⟩ := A6i hc hd kk (by omega) (n := n) (fun a b ha hb L8 => ih a b ha hb (by omega))
     simp only [kk, ne_eq, not_true, decide_true, z5q, z0q, if_false] at hx hj ⊢;simp only [hx, D5, Q9, R4, M9, E5, A9.K8, A9.Q0, A9.Q4, A9.Q5, A9.Q7, A9.J9, A9.ag, <- kk] at hj ⊢;exact ⟨x, rfl, hj⟩
    ·simp only [kk, ne_eq, not_false_iff, decide_false, z11q, if_true, z40q]
     exact ⟨F6, by rw [FC], fun j e => by cases e⟩
   by_cases k56 : c.kind = 5 /\ d.kind = 6
   ·obtain ⟨k5, d6⟩ := k56
    simp only [k5, d6, if_true];have l1 := A9.A_ hc (.inr (.inl k5));have l2 := A9.A_ hd (.inr (.inr d6));have s1 := A9.EL (show 0 < c.kids.length by omega)
    have s2 := A9.EL (show 0 < d.kids.length by omega)
    obtain ⟨x, hx, hj⟩ := ih (c.kid 0) (d.kid 0) (A9.O4 hc (by omega)) (A9.O4 hd (by omega)) (by omega)
    by_cases hh : c.head = d.head
    ·simp only [hh, J7, D5, D8, decide_true, z5q, z0q, if_false, ne_eq, not_true, l7 (show 0 < c.kids.length by omega), l7 (show 0 < d.kids.length by omega), A9.K8, A9.Q0, A9.Q4, A9.Q5, A9.Q7, A9.J9, A9.ag, hx, Q9, R4, M9, E5]
     exact ⟨x, rfl, hj⟩
    ·simp only [hh, J7, D5, D8, decide_false, z11q, if_true, ne_eq, not_false_iff, P5, Le, E5]
     exact ⟨_, by rw [A6U]; rfl, fun j e => by cases e; rfl⟩
   ·have := j12 k56
    by_cases k5 : c.kind = 5
    ·have d6 : ¬ d.kind = 6 := fun h => k56 ⟨k5, h⟩
     simp only [k5, d6, if_true, if_false] at this ⊢;exact this
    ·simp only [k5, if_false] at this ⊢
     exact this
theorem A0J {c d : A9} (hc : c.right = true) (hd : d.right = true) : (run cfg).p Wz [c.enc, d.enc] = some (match c.join d with | some j => .H7 [j.enc, .int .i64 0] | none => .H7 [F6.enc, .int .i64 8]) := by
 obtain ⟨x, hx, hj⟩ := A9M _ c d hc hd (z23q _);refine (uP _ _).trans ?_;rw [xy];simp only [M9, E5, A9.K8, A9.Q0, A9.Q4, A9.Q5, A9.Q7, A9.J9, A9.ag, wL, hc, hd, if_true, D5, J7, decide_true, z5q, I6, D8, z0q, if_false, hx, Q9, R4, K6];unfold A9.join;cases hJ : A9.T9 (c.size + d.size) c d with
 | none => simp [FC]
 | some j =>
   have := hj j hJ;subst this
   by_cases hr : x.right = true <;> simp [hr, FC]
theorem LV (k : Int) (ks : List A9) (hl : ks.length <= 2) : (run cfg).p Jf [.int .i64 k, .list 5 (ks.map A9.enc)] = some (Y3 k ks).enc := by
 refine (nG _ _).trans ?_;rw [tK];have loop := F_ (l := ks) (P := fun i => L_ (run cfg) (.int .i64 k) (.list 5 (ks.map A9.enc)) (.int .i64 i)) (f := fun x => decide (x.kind = 1)) (y := iq.enc) (n := (A9.mk k 0 0 false ks).enc)
  (by rw [RY]; simp [A0K])
  (fun i h => by
    rw [RY];simp [h, I8 h, O5 (show i < 9223372036854775807 by omega), oI])
 rw [loop];unfold Y3
 split <;> rfl
theorem B0U : ∀ (n : Nat) (c d : A9), c.right = true -> d.right = true -> c.size + d.size <= n -> pY GR c d (A9.T9 n c d) := by
 intro n
 induction n with
 | zero => intro c d _ _ h; have := c.Db; omega
 | succ n ih =>
   intro c d hc hd hs;have cont : ∀ q, pq (run cfg) c.enc d.enc = q -> (∃ x : A9, q = some (.H7 [x.enc, .bool (A9.T9 (n + 1) c d).isSome]) /\ ∀ j, A9.T9 (n + 1) c d = some j -> x = j) -> pY GR c d (A9.T9 (n + 1) c d) := by
    rintro q rfl ⟨x, h1, h2⟩;exact ⟨x, (zR _ _).trans h1, h2⟩
   refine cont _ rfl ?_;rw [A2t, A9.T9];simp only [M9, E5, A9.K8, A9.Q0, A9.Q4, A9.Q5, A9.Q7, A9.J9, A9.ag, I5, J7, D5, D8, I6, decide_eq_true_eq]
   by_cases k1 : c.kind = 1
   ·simp only [k1, if_true]; exact ⟨d, rfl, fun j e => by cases e; rfl⟩
   by_cases k2 : d.kind = 1 \/ c.kind = 7
   ·simp only [k1, k2, if_true, if_false]
    refine ⟨c, ?_, fun j e => by cases e; rfl⟩
    rcases k2 with k | k <;> simp [k]
   have d1 : ¬ d.kind = 1 := fun h => k2 (.inl h)
   have c7 : ¬ c.kind = 7 := fun h => k2 (.inr h)
   simp only [k1, d1, c7, or_self, if_false]
   by_cases k6 : c.kind = 6
   ·have l1 := A9.A_ hc (.inr (.inr k6))
    have l0 : 0 < c.kids.length := by omega
    have sz := A9.EL l0;obtain ⟨x, hx, hj⟩ := (ih (c.kid 0) d (A9.O4 hc l0) hd (by omega)).inner c
    simp only [k6, if_true, l7 l0, D5, hx, Q9, R4, M9, E5, A9.K8, A9.Q0, A9.Q4, A9.Q5, A9.Q7, A9.J9, A9.ag, wO];exact ⟨_, rfl, hj⟩
   simp only [k6, if_false]
   by_cases k5 : c.kind = 5
   ·simp only [k5, if_true]
    by_cases d6 : d.kind = 6
    ·simp only [d6, if_true, decide_true, z5q, z0q, if_false]
     have l1 := A9.A_ hc (.inr (.inl k5));have l2 := A9.A_ hd (.inr (.inr d6));have s1 := A9.EL (show 0 < c.kids.length by omega)
     have s2 := A9.EL (show 0 < d.kids.length by omega)
     obtain ⟨x, hx, hj⟩ := ih (c.kid 0) (d.kid 0) (A9.O4 hc (by omega)) (A9.O4 hd (by omega)) (by omega)
     by_cases hh : c.head = d.head
     ·simp only [hh, D5, D8, decide_true, z5q, z0q, if_false, ne_eq, not_true, l7 (show 0 < c.kids.length by omega), l7 (show 0 < d.kids.length by omega), A9.K8, A9.Q0, A9.Q4, A9.Q5, A9.Q7, A9.J9, A9.ag, hx, Q9, R4, M9, E5]
      exact ⟨x, rfl, hj⟩
     ·simp only [hh, D5, D8, decide_false, z11q, if_true, ne_eq, not_false_iff, P5, Le, E5]
      exact ⟨_, by rw [A6U]; rfl, fun j e => by cases e; rfl⟩
    ·simp only [d6, if_false, decide_false, z11q, if_true, z40q]
     exact ⟨c, rfl, fun j e => by cases e⟩
   simp only [k5, if_false]
   by_cases d7 : d.kind = 7
   ·simp only [d7, if_true]
    exact ⟨d, rfl, fun j e => by cases e; rfl⟩
   simp only [d7, if_false]
   by_cases d5 : d.kind = 5
   ·have l1 := A9.A_ hd (.inr (.inl d5))
    have l0 : 0 < d.kids.length := by omega
    have sz := A9.EL l0;obtain ⟨x, hx, hj⟩ := (ih c (d.kid 0) hc (A9.O4 hd l0) (by omega)).inner d
    simp only [d5, if_true, l7 l0, D5, hx, Q9, R4, M9, E5, A9.K8, A9.Q0, A9.Q4, A9.Q5, A9.Q7, A9.J9, A9.ag, wO];exact ⟨_, rfl, hj⟩
   simp only [d5, if_false]
   by_cases kk : c.kind = d.kind
   ·simp only [<- kk, ne_eq, not_true, decide_true, z5q, z0q, if_false]
    have ck := A9.Gl hc
    by_cases k4 : c.kind = 4
    ·have l1 := A9.A_ hc (.inl k4)
     have l2 := A9.A_ hd (.inl (by omega))
     have l0 : 0 < c.kids.length := by omega
     have l0' : 0 < d.kids.length := by omega
     have s1 := A9.EL l0;have s2 := A9.EL l0';obtain ⟨x, hx, hj⟩ := ih (c.kid 0) (d.kid 0) (A9.O4 hc l0) (A9.O4 hd l0') (by omega)
     rw [Fq];have k2 : ¬ c.kind = 2 := by omega
     simp [l1, k2, l7 l0, l7 l0', k4];rw [OT];simp [hx];cases hJ : A9.T9 n (c.kid 0) (d.kid 0) with
     | none => simp; exact ⟨c, rfl⟩
     | some j =>
       have := hj j hJ;subst this;simp [A7W, A7V];rw [Fq];have := LV 4 [x] (by simp)
       simp only [z10q, z16q] at this;simp [l1, k4, this]
    ·have k23 : c.kind = 2 \/ c.kind = 3 := by omega
     have l1 := A9.JB hc k23;have l2 := A9.JB hd (by omega)
     have s1 := A9.EL (show 0 < c.kids.length by omega)
     have s2 := A9.EL (show 0 < d.kids.length by omega)
     have s3 := A9.EL (show 1 < c.kids.length by omega)
     have s4 := A9.EL (show 1 < d.kids.length by omega)
     have r1 := A9.O4 hc (show 0 < c.kids.length by omega)
     have r2 := A9.O4 hd (show 0 < d.kids.length by omega)
     have A : pY GR (if c.kind = 2 then d.kid 0 else c.kid 0) (if c.kind = 2 then c.kid 0 else d.kid 0) (A9.T9 n (if c.kind = 2 then d.kid 0 else c.kid 0) (if c.kind = 2 then c.kid 0 else d.kid 0)) := by
      split
      ·exact ih _ _ r2 r1 (by omega)
      ·exact ih _ _ r1 r2 (by omega)
     obtain ⟨y, hy, hi⟩ := ih (c.kid 1) (d.kid 1) (A9.O4 hc (by omega)) (A9.O4 hd (by omega)) (by omega)
     obtain ⟨x, hx, hj⟩ := A;simp only [if_neg k4];have go : ∃ z : A9, LA (run cfg) (.list 5 []) (.int .i64 0) c.enc d.enc (if c.kind = 2 then d.kid 0 else c.kid 0).enc (if c.kind = 2 then c.kid 0 else d.kid 0).enc =
      some (.H7 [z.enc, .bool ((A9.T9 n (if c.kind = 2 then d.kid 0 else c.kid 0) (if c.kind = 2 then c.kid 0 else d.kid 0)).bind fun a => (A9.T9 n (c.kid 1) (d.kid 1)).map fun b => Y3 c.kind [a, b]).isSome]) /\ ∀ j, ((A9.T9 n (if c.kind = 2 then d.kid 0 else c.kid 0) (if c.kind = 2 then c.kid 0 else d.kid 0)).bind fun a => (A9.T9 n (c.kid 1) (d.kid 1)).map fun b => Y3 c.kind [a, b]) = some j -> z = j := by
      rw [OT];simp only [A9.K8, A9.Q0, A9.Q4, A9.Q5, A9.Q7, A9.J9, A9.ag, hx, D5, Q9, R4, M9, E5, K6, D8];cases hJ : A9.T9 n (if c.kind = 2 then d.kid 0 else c.kid 0) (if c.kind = 2 then c.kid 0 else d.kid 0) with
      | none => simp; exact ⟨c, rfl⟩
      | some j =>
        have := hj j hJ;subst this;simp only [z39q, z5q, z0q, if_false, z66q, D5, A7V, A7W];rw [Fq];simp only [A9.Q7, M7, z3q, l1, L9, show decide ((1 : Int) < (2 : Nat)) = true from rfl, D5, D8, if_true, NQ (show 1 < c.kids.length by omega), NQ (show 1 < d.kids.length by omega), A9.K8, I5, I6, show decide ((1 : Int) = 0) = false from rfl, z0q, if_false, ite_self]
        rw [OT];simp only [A9.K8, A9.Q0, A9.Q4, A9.Q5, A9.Q7, A9.J9, A9.ag, hy, D5, Q9, R4, M9, E5, K6, D8];cases hJ : A9.T9 n (c.kid 1) (d.kid 1) with
        | none => simp; exact ⟨c, rfl⟩
        | some j =>
          have := hi j hJ;subst this;simp only [z39q, z5q, z0q, if_false, z67q, D5, B6z, B6B];rw [Fq];have := LV c.kind [x, y] (by simp)
          simp only [z10q, z16q] at this;simp [l1, this]
     rw [Fq];simp only [A9.Q7, M7, z3q, l1, L9, show decide ((0 : Int) < (2 : Nat)) = true from rfl, D5, D8, if_true, l7 (show 0 < c.kids.length by omega), l7 (show 0 < d.kids.length by omega), A9.K8, I5, I6, decide_true]
     by_cases k2 : c.kind = 2
     ·simp only [k2, decide_true, if_true] at go ⊢
      exact go
     ·simp only [k2, decide_false, z0q, if_false] at go ⊢
      exact go
   ·simp only [kk, ne_eq, not_false_iff, decide_false, z11q, if_true, z40q]
    exact ⟨c, rfl, fun j e => by cases e⟩
theorem A3m {c d : A9} (hc : c.right = true) (hd : d.right = true) : (run cfg).p Zd [c.enc, d.enc] = some (match c.join d with | some j => .H7 [j.enc, .bool true] | none => .H7 [F6.enc, .bool false]) := by
 obtain ⟨x, hx, hj⟩ := B0U _ c d hc hd (z23q _);refine (zN _ _).trans ?_;rw [A2p];simp only [M9, E5, A9.K8, A9.Q0, A9.Q4, A9.Q5, A9.Q7, A9.J9, A9.ag, D5, I6, D8, hx, Q9, R4, K6];unfold A9.join;cases hJ : A9.T9 (c.size + d.size) c d with
 | none => simp [FC]
 | some j =>
   have := hj j hJ;subst this
   by_cases hr : x.right = true <;> simp [hr, FC, A0L]
end Go.Su

/-
 What casts' coercions are: the program's, the document's.
-/
namespace Go.Su
attribute [local simp] A9.J9 Ty.J9
variable {t : Ty}
theorem B9H {i : Nat} (h : i < t.kids.length) : F5 3 (.list 3 (t.kids.map Ty.enc)) (.int .i64 (i : Int)) = some (t.kd i).enc := by rw [I8 h, Ty.QR h]
theorem RH (h : 0 < t.kids.length) : F5 3 (.list 3 (t.kids.map Ty.enc)) (.int .i64 0) = some (t.kd 0).enc := B9H h
theorem jL (h : 1 < t.kids.length) : F5 3 (.list 3 (t.kids.map Ty.enc)) (.int .i64 1) = some (t.kd 1).enc := B9H h
theorem A6K : DV.agg [.int .i64 5, .int .i64 0, .list 3 []] = WC.enc := by rw [Ty.F8]; rfl
theorem A3d (k : Int) : DV.agg [.int .i64 k, .int .i64 0, .list 3 (List.replicate (arity k).toNat WC.enc)] = (BD k).enc := by
 rw [Ty.F8 (BD k), BD];simp only [Ty.Bi, Ty.Ro, Ty.AZ, List.map_replicate]
theorem A8p (n : Nat) (h : n <= 2) (d : DV) : AQ 3 (.list 3 (List.replicate n d)) (.list 3 [d]) = some (.list 3 (List.replicate (n + 1) d)) := by
 rw [M_ (by simp [lim]; omega), List.replicate_succ']
theorem A5H : (run cfg).p TI [.int .i64 5] = some WC.enc := by
 refine (zA _).trans ?_;rw [A2d];simp [A6K]
theorem A7i {k : Int} (hk : 0 <= arity k) : (run cfg).p pK [.int .i64 k] = some (BD k).enc := by
 refine (A47 _).trans ?_;have al := A3x k;have loop : ∀ (m j : Nat), (j : Int) + m = arity k -> XL (run cfg) (.int .i64 k) (.int .i64 j) (.int .i64 k) (.list 3 (List.replicate j WC.enc)) = some (BD k).enc := by
  intro m
  induction m with
  | zero =>
    intro j hj;rw [bN];have : ¬ (j : Int) < arity k := by omega
    simp only [QV, D5, L9, this, decide_false, D8, z0q, if_false];rw [<- A3d, show (arity k).toNat = j by omega]
  | succ m ih =>
    intro j hj;rw [bN];have : (j : Int) < arity k := by omega
    simp only [QV, D5, L9, this, decide_true, D8, if_true, A5H, CR, E5, A8p j (by omega), O5 (show j < 9223372036854775807 by omega)]
    exact ih (j + 1) (by omega)
 rw [A6O];simp only [P5, E5];exact loop (arity k).toNat 0 (by omega)
theorem ow (h : t.right = true) (h5 : t.kind ≠ 5) (h6 : t.kind ≠ 6) : (run cfg).p QX [t.enc] = some (.H7 [(BD t.kind).enc, .bool true]) := by
 refine (iO _).trans ?_;have hl := Ty.FJ h;have al := A3x t.kind;have loop : ∀ (m j : Nat), j + m = t.kids.length -> JX (run cfg) (.int .i64 t.kids.length) (.int .i64 j) (.int .i64 t.kind) (.list 3 (List.replicate j WC.enc)) = some (.H7 [(BD t.kind).enc, .bool true]) := by
  intro m
  induction m with
  | zero =>
    intro j hj;rw [NG];have : ¬ (j : Int) < (t.kids.length : Int) := by omega
    simp only [D5, L9, this, decide_false, D8, z0q, if_false];rw [<- A3d, show (arity t.kind).toNat = j by omega]
  | succ m ih =>
    intro j hj;rw [NG];have : (j : Int) < (t.kids.length : Int) := by omega
    simp only [D5, L9, this, decide_true, D8, if_true, A6K, A8p j (by omega), O5 (show j < 9223372036854775807 by omega)]
    exact ih (j + 1) (by omega)
 have p12 : BU (run cfg) t.enc (.int .i64 t.kind) = some (.H7 [(BD t.kind).enc, .bool true]) := by
  rw [ZA];simp only [Ty.Q4, M7, z3q, D5];exact loop t.kids.length 0 (by omega)
 rw [mF];have hr : 1 <= t.kind /\ t.kind <= 9 := by
  unfold arity at hl
  repeat' split at hl
  all_goals omega
 simp [IE t (Ty.Ah h), h, p12]
 repeat' split
 all_goals first | rfl | omega
theorem A3n : (run cfg).p TS [] = some iq.enc := by
 refine A7v ?_;rw [A2B, A50]
theorem qy (k : Int) (ks : List A9) (hl : ks.length <= 2) : Iq (run cfg) (.int .i64 k) (.list 5 (ks.map A9.enc)) = some (Y3 k ks).enc := by
 rw [bY];simp only [M7, z3q, D5];have loop := F_ (l := ks) (P := fun i => KZ (run cfg) (.list 5 (ks.map A9.enc)) (.int .i64 ks.length) (.int .i64 i) (.int .i64 k) (.list 5 (ks.map A9.enc))) (f := fun x => decide (x.kind = 1)) (y := iq.enc) (n := (A9.mk k 0 0 false ks).enc)
  (by rw [PU]; simp [A3n])
  (fun i h => by
    rw [PU];simp [h, I8 h, O5 (show i < 9223372036854775807 by omega), oI])
 rw [loop];unfold Y3
 split <;> rfl
theorem A9a (h l : Int) (n : Bool) (k : A9) : DV.agg [.int .i64 6, .int .i64 h, .int .i64 l, .bool n, .list 5 [k.enc]] = (A9.mk 6 h l n [k]).enc := by rw [A9.F8 (A9.mk _ _ _ _ _)]; rfl
theorem A89 (h : Int) (k : A9) : DV.agg [.int .i64 5, .int .i64 h, .int .i64 0, .bool false, .list 5 [k.enc]] = (A9.mk 5 h 0 false [k]).enc := by rw [A9.F8 (A9.mk _ _ _ _ _)]; rfl
theorem Dw.B9b {n : Nat} {a b : Ty} (h : Dw n a b) (h5 : a.kind = 5) : b.kind ≠ 6 := by
 have h3 := h.2.2.1;rw [Ty.UC h5, Ty.Kr] at h3;intro h;simp [h] at h3
theorem A7Q : ∀ (n : Nat) (a b : Ty) (l : Int) (q : Bool), Dw n a b -> (run cfg).p C_ [a.enc, b.enc, .int .i64 l, .bool q] = some (BV n a b l q).enc := by
 intro n
 induction n with
 | zero => intro a b l q h; have := h.2.2.2; unfold XO at this; have := a.Db; omega
 | succ n ih =>
   intro a b l q h;refine (nV _ _ _ _).trans ?_;rw [uI, BV];simp only [CR, E5, Ty.K8, Ty.Q0, Ty.Q4, Ty.J9, Ty.ag, B0X a (Ty.Ah h.1), D5, D8, I5, decide_eq_true_eq]
   by_cases EG : a = b
   ·simp only [EG, if_true, A3n, D5, M9, E5, A9.K8, A9.Q0, A9.Q4, A9.Q5, A9.Q7, A9.J9, A9.ag]
   simp only [EG, if_false]
   by_cases a5 : a.kind = 5
   ·obtain ⟨b5, hk⟩ := h.B13 EG a5
    simp only [a5, if_true, ow h.2.1 b5 (h.B9b a5), D5, Q9, R4, CR, E5, Ty.K8, Ty.Q0, Ty.Q4, Ty.J9, Ty.ag, ih _ _ l q hk, M9, P5, Le];rw [A9a]
   simp only [a5, if_false]
   by_cases b5 : b.kind = 5
   ·obtain ⟨a5, hk⟩ := h.B49 EG b5
    simp only [b5, if_true, ow h.1 a5 (h.comm.B9b b5), D5, Q9, R4, CR, E5, Ty.K8, Ty.Q0, Ty.Q4, Ty.J9, Ty.ag, ih _ _ l q hk, M9, P5, Le];rw [A89]
   simp only [b5, if_false];obtain ⟨kk, hk, ll, Ma⟩ := h.kids EG a5 b5;rcases hk with ⟨k7, hl7⟩ | ⟨k8, hl8⟩ | ⟨k9, hl9⟩
   ·have := qy 3 [BV n (a.kd 0) (b.kd 0) l q, BV n (a.kd 1) (b.kd 1) l q] (by simp)
    simp only [z10q, z16q] at this;simp [k7, RH (show 0 < a.kids.length by omega), RH (show 0 < b.kids.length by omega), jL (show 1 < a.kids.length by omega), jL (show 1 < b.kids.length by omega), ih _ _ l q (Ma 0 (by omega)), ih _ _ l q (Ma 1 (by omega)), this]
   ·have := qy 4 [BV n (a.kd 0) (b.kd 0) l q] (by simp)
    simp only [z10q, z16q] at this;simp [k8, RH (show 0 < a.kids.length by omega), RH (show 0 < b.kids.length by omega), ih _ _ l q (Ma 0 (by omega)), this]
   ·have := qy 2 [BV n (b.kd 0) (a.kd 0) l !q, BV n (a.kd 1) (b.kd 1) l q] (by simp)
    simp only [z10q, z16q] at this;simp [k9, RH (show 0 < a.kids.length by omega), RH (show 0 < b.kids.length by omega), jL (show 1 < a.kids.length by omega), jL (show 1 < b.kids.length by omega), ih _ _ l (!q) (Ma 0 (by omega)).comm, ih _ _ l q (Ma 1 (by omega)), this]
theorem B0T : ∀ (n : Nat) (a b : Ty) (l : Int) (q : Bool), Dw n a b -> (run cfg).p Et [a.enc, b.enc, .int .i64 l, .bool q] = some (BV n a b l q).enc := by
 intro n
 induction n with
 | zero => intro a b l q h; have := h.2.2.2; unfold XO at this; have := a.Db; omega
 | succ n ih =>
   intro a b l q h;refine (zM _ _ _ _).trans ?_;rw [A2o, BV];simp only [CR, E5, Ty.K8, Ty.Q0, Ty.Q4, Ty.J9, Ty.ag, Lh a (Ty.Ah h.1), D5, D8, I5, decide_eq_true_eq];have la := Ty.FJ h.1;have lb := Ty.FJ h.2.1
   by_cases EG : a = b
   ·simp only [EG, if_true, A0K, D5, M9, E5, A9.K8, A9.Q0, A9.Q4, A9.Q5, A9.Q7, A9.J9, A9.ag]
   simp only [EG, if_false]
   by_cases a5 : a.kind = 5
   ·obtain ⟨b5, hk⟩ := h.B13 EG a5
    simp only [a5, if_true, A7i (show 0 <= arity b.kind by omega), D5, CR, E5, Ty.K8, Ty.Q0, Ty.Q4, Ty.J9, Ty.ag, ih _ _ l q hk, M9, P5, Le, A9.K8, A9.Q0, A9.Q4, A9.Q5, A9.Q7, A9.J9, A9.ag]
    rw [A9a]
   simp only [a5, if_false]
   by_cases b5 : b.kind = 5
   ·obtain ⟨a5, hk⟩ := h.B49 EG b5
    simp only [b5, if_true, A7i (show 0 <= arity a.kind by omega), D5, CR, E5, Ty.K8, Ty.Q0, Ty.Q4, Ty.J9, Ty.ag, ih _ _ l q hk, M9, P5, Le, A9.K8, A9.Q0, A9.Q4, A9.Q5, A9.Q7, A9.J9, A9.ag]
    rw [A89]
   simp only [b5, if_false];obtain ⟨kk, hk, ll, Ma⟩ := h.kids EG a5 b5;rcases hk with ⟨k7, hl7⟩ | ⟨k8, hl8⟩ | ⟨k9, hl9⟩
   ·have := LV 3 [BV n (a.kd 0) (b.kd 0) l q, BV n (a.kd 1) (b.kd 1) l q] (by simp)
    simp only [z10q, z16q] at this;simp [k7, RH (show 0 < a.kids.length by omega), RH (show 0 < b.kids.length by omega), jL (show 1 < a.kids.length by omega), jL (show 1 < b.kids.length by omega), ih _ _ l q (Ma 0 (by omega)), ih _ _ l q (Ma 1 (by omega)), this]
   ·have := LV 4 [BV n (a.kd 0) (b.kd 0) l q] (by simp)
    simp only [z10q, z16q] at this;simp [k8, RH (show 0 < a.kids.length by omega), RH (show 0 < b.kids.length by omega), ih _ _ l q (Ma 0 (by omega)), this]
   ·have := LV 2 [BV n (b.kd 0) (a.kd 0) l !q, BV n (a.kd 1) (b.kd 1) l q] (by simp)
    simp only [z10q, z16q] at this;simp [k9, RH (show 0 < a.kids.length by omega), RH (show 0 < b.kids.length by omega), jL (show 1 < a.kids.length by omega), jL (show 1 < b.kids.length by omega), ih _ _ l (!q) (Ma 0 (by omega)).comm, ih _ _ l q (Ma 1 (by omega)), this]
theorem A7P {a b : Ty} {l : Int} (q : Bool) (ha : a.right = true) (hb : b.right = true) (hl : IM l = true) : (run cfg).p aU [a.enc, b.enc, .int .i64 l, .bool q] = some (if a.agrees b = true then .H7 [(A03 a b l q).enc, .int .i64 0] else .H7 [F6.enc, .int .i64 4]) := by
 refine (nU _ _ _ _).trans ?_;rw [uH];simp only [IM, decide_eq_true_eq] at hl;have e1 : ¬ l < 0 := by omega
 have e2 : ¬ (1048576 < l) := by omega
 simp [IE _ (Ty.Ah ha), IE _ (Ty.Ah hb), ha, hb, e1, e2, A6g _ _ (Ty.Ah ha) (Ty.Ah hb)]
 by_cases h : a.agrees b = true
 ·simp [h, A7Q _ a b l q (.of ha hb h), A03]
 ·simp [h, FC]
end Go.Su

/-
 What the functions on values give: wrapped, taken apart; the program's, the document's.
-/
namespace Go.Su
attribute [local simp] A9.J9 Val.J9
variable {v : Val}
theorem B9R {i : Nat} (h : i < v.kids.length) : F5 9 (.list 9 (v.kids.map Val.enc)) (.int .i64 (i : Int)) = some (v.kid i).enc := by rw [I8 h, Val.A53 h]
theorem B21 (h : 0 < v.kids.length) : F5 9 (.list 9 (v.kids.map Val.enc)) (.int .i64 0) = some (v.kid 0).enc := B9R h
theorem A78 (h : 1 < v.kids.length) : F5 9 (.list 9 (v.kids.map Val.enc)) (.int .i64 1) = some (v.kid 1).enc := B9R h
theorem l9 : DV.agg (P9 []) = R5.enc := by rw [Val.F8]; rfl
def Cr : Ci := ⟨0, R5, 0, false, 0, 0, 0⟩
def Bq (l : Int) (n : Bool) : Ci := ⟨2, R5, l, n, 0, 0, 0⟩
theorem U2 : DV.agg ((.int .i64 0)::(P9 (Bz []))) = Cr.enc := rfl
theorem A4K (l : Int) (n : Bool) : DV.agg ((.int .i64 2)::(P9 [.int .i64 l, .bool n, .int .i64 0, .int .i64 0, .int .i64 0])) = (Bq l n).enc := rfl
variable (v : Val)
theorem B2Y : DV.agg [A7 3 v.enc, A7 4 v.enc, A7 5 v.enc, A7 6 v.enc, A7 7 v.enc] = v.c.enc := by rw [Val.F8, A9.F8]; rfl
variable (c : A9)
theorem jM : DV.agg [.int .i64 v.kind, .int .i64 v.n, .str v.s, .int .i64 c.kind, .int .i64 c.head, .int .i64 c.label, .bool c.neg, .list 5 (c.kids.map A9.enc), .list 9 (v.kids.map Val.enc)] = (v.CJ c).enc := by rw [Val.F8]; rfl
theorem B0e : DV.agg ((.int .i64 v.kind)::(.int .i64 v.n)::(.str v.s)::(Ab [.list 9 (v.kids.map Val.enc)])) = (v.CJ F6).enc := by rw [Val.F8]; rfl
variable (r : Ci)
@[simp] theorem rk : A7 0 r.enc = .int .i64 r.kind := rfl
theorem A0D : DV.agg (A9k r.enc []) = r.enc := rfl
theorem FT : DV.agg [.int .i64 r.kind, A7 1 r.enc, A7 2 r.enc, A7 3 r.enc, A7 4 r.enc, A7 5 r.enc, A7 6 r.enc, A7 7 r.enc, A7 8 r.enc, A7 9 r.enc, A7 10 r.enc, A7 11 r.enc, A7 12 r.enc, A7 13 r.enc, A7 14 r.enc] = r.enc := rfl
attribute [local simp] FT
theorem A3O : c = F6 ↔ c.kind = 0 /\ c.head = 0 /\ c.label = 0 /\ c.neg = false /\ c.kids.length = 0 := by
 rw [A9.ED];simp [F6]
theorem A9c : decide (c = F6) = (decide (c.kind = 0) && (decide (c.head = 0) && (decide (c.label = 0) && (!c.neg && decide (c.kids.length = 0))))) := by
 rw [z33q];simp [A3O]
theorem kV : (run cfg).p TY [c.enc] = some (.bool (decide (c = F6))) := by
 refine (zh _).trans ?_;rw [A2G, A9c];simp
 by_cases a1 : c.kind = 0 <;> by_cases a2 : c.head = 0 <;> by_cases a3 : c.label = 0 <;> by_cases a4 : c.neg = true <;> simp [a1, a2, a3, a4]
theorem JQ : (run cfg).p GQ [c.enc] = some (.bool (decide (c = F6))) := by
 refine (zO _).trans ?_;rw [A2q, A9c];simp
 by_cases a1 : c.kind = 0 <;> by_cases a2 : c.head = 0 <;> by_cases a3 : c.label = 0 <;> by_cases a4 : c.neg = true <;> simp [a1, a2, a3, a4]
theorem B0Z (k : Int) : (run cfg).p pW [.int .i64 k] = some (.int .i64 (Zx k)) := by
 refine (zg _).trans ?_;rw [A2F];simp only [I5, D5, D8, decide_eq_true_eq, Zx]
 repeat' split
 all_goals rfl
theorem B0V : (run cfg).p Zg [v.enc] = some (.int .i64 (Zx v.kind)) := by
 refine (zS _).trans ?_;rw [A2u];simp only [I1, E5, Val.K8, I5, D5, D8, decide_eq_true_eq, Zx]
 repeat' split
 all_goals rfl
theorem A95 : (run cfg).p jc [c.enc] = some (Bq c.label c.neg).enc := by
 refine (vH _).trans ?_;rw [yl];simp [A4K]
theorem kU : (run cfg).p Zj [v.enc] = some (.bool (decide (v.kind = 6 \/ v.kind = 7))) := by
 refine (zX _).trans ?_;rw [A2z]
 by_cases h : v.kind = 6 <;> simp [h]
theorem A7L : (run cfg).p aS [v.enc] = some (.bool (decide (v.kind = 5 \/ (v.kind = 6 \/ v.kind = 7) \/ v.kind = 8))) := by
 refine (nO _).trans ?_;rw [tq];simp only [I1, E5, Val.pj, V3, X3, R8, Val.J9, Val.ag, kU, I5, D5, I6, decide_eq_true_eq]
 by_cases h : v.kind = 5
 ·simp [h]
 ·by_cases h2 : v.kind = 6 \/ v.kind = 7 <;> simp [h, h2]
theorem wS (hc : c.right = true) : (run cfg).p aV [(v.CJ c).enc] = some (.bool (decide (Mw v.kind c))) := by
 refine (nY _).trans ?_;rw [uM];have hn := A9.B51 hc;simp only [I1, E5, Val.pj, V3, X3, R8, A9.J9, A9.ag, show (v.CJ c).c = c from rfl, show (v.CJ c).kind = v.kind from rfl, kV, hn, decide_false, D5, D8, z0q, if_false, I5, B0Z, wL, hc, if_true, decide_true, I6, Mw, false_or, true_and, decide_eq_true_eq]
 by_cases k5 : c.kind = 5
 ·by_cases h : c.head = Zx v.kind <;> simp [k5, h]
 by_cases k3 : c.kind = 3
 ·by_cases h : v.kind = 5 <;> simp [k3, h]
 by_cases k4 : c.kind = 4
 ·by_cases h : v.kind = 6 <;> by_cases h' : v.kind = 7 <;> simp [k4, h, h']
 by_cases k2 : c.kind = 2
 ·by_cases h : v.kind = 8 <;> simp [k2, h]
 simp [k5, k3, k4, k2]
theorem qz (hf : v.fields) (hc : v.c = F6 \/ v.c.right = true) : (run cfg).p Rw [v.enc] = some (.bool (decide (Mw v.kind v.c))) := by
 refine (jk _).trans ?_;obtain ⟨hk, hl, hn, h2, h8, hs, hz, h7⟩ := hf;have p23 : T_ (run cfg) v.enc = some (.bool (decide (Mw v.kind v.c))) := by
  rw [tu]
  by_cases h0 : v.c = F6
  ·simp only [Val.Q5, Val.Q7, Val.Jd, Val.Md, Val.Oj, A9.J9, A9.ag, JQ, h0, decide_true, D5, D8, if_true, Mw, true_or]
  ·have hr := hc.resolve_left h0
   have ck := A9.Gl hr;simp only [Val.pj, V3, X3, R8, Val.J9, Val.ag, A9.J9, A9.ag, JQ, h0, decide_false, D5, D8, z0q, if_false, A0L, hr, K6, z5q, I5, decide_eq_true_eq, B0V, Yu, A7L, I6, Mw, false_or, true_and]
   by_cases k5 : v.c.kind = 5
   ·simp [k5]
   ·simp only [k5, if_false, false_and, false_or, Ed, Zx]
    repeat' split
    all_goals simp_all
    all_goals omega
 have p21 : Hm (run cfg) v.enc = some (.bool (decide (Mw v.kind v.c))) := by
  rw [Yb]
  by_cases k7 : v.kind = 7
  ·have l2 : v.kids.length = 2 := by rw [hl, if_pos (.inr k7)]
   obtain ⟨a, b⟩ := h7 k7;simp [k7, A78 (show 1 < v.kids.length by omega), kU, a, b]
   rw [p23, k7]
  ·simp [k7, p23]
 have p19 : Tz (run cfg) v.enc = some (.bool (decide (Mw v.kind v.c))) := by
  rw [Ya];simp only [Val.K8, Val.Q0, J7, D5, I6, D8, p21]
  by_cases k1 : v.kind = 1
  ·simp [k1]
  by_cases k2 : v.kind = 2
  ·simp [k2]
  by_cases k8 : v.kind = 8
  ·simp [k8]
  simp [hn k1 k2 k8]
 have Sz : CP (run cfg) (.int .i64 (if v.kind = 5 \/ v.kind = 7 then 2 else 0)) v.enc = some (.bool (decide (Mw v.kind v.c))) := by
  rw [YZ];have Sq : (v.kids.length : Int) = if v.kind = 5 \/ v.kind = 7 then 2 else 0 := by rw [hl]; split <;> rfl
  have QQ : ¬ (200 : Int) < (v.s.size : Int) := by omega
  simp only [Val.K8, Val.Q4, Val.RA, M7, z3q, Cn, J7, BZ, Xl, D5, I6, D8, Sq, decide_true, z5q, z0q, if_false, QQ, decide_false, p19]
  by_cases k3 : v.kind = 3
  ·simp [k3]
  ·simp [k3, hs k3, N9]
 rw [qF];simp only [I1, E5, Val.K8, Val.Q0, I5, L9, BZ, D5, D8, I6, decide_eq_true_eq]
 by_cases k5 : v.kind = 5
 ·simp [k5] at Sz ⊢; exact Sz
 by_cases k7 : v.kind = 7
 ·simp [k7] at Sz ⊢; exact Sz
 by_cases k2 : v.kind = 2
 ·have := h2 k2
  have e1 : ¬ v.n < 0 := by omega
  have e2 : ¬ 1 < v.n := by omega
  simp [k2, e1, e2] at Sz ⊢; exact Sz
 by_cases k8 : v.kind = 8
 ·have := h8 k8
  have e1 : ¬ v.n < 0 := by omega
  simp [k8, e1] at Sz ⊢; exact Sz
 have : v.kind = 1 \/ v.kind = 4 \/ v.kind = 6 \/ v.kind = 3 := by omega
 rcases this with h | h | h | h <;> simp [h] at Sz ⊢ <;> exact Sz
def WR.DN : WR -> DV
 | .stuck => .H7 [R5.enc, Cr.enc, .int .i64 8]
 | .X5 l n => .H7 [R5.enc, (Bq l n).enc, .int .i64 0]
 | .ok v => .H7 [v.enc, Cr.enc, .int .i64 0]
variable {v : Val}
theorem Yv {c : A9} (hv : v.ok) (hc : c.right = true) : (run cfg).p Mm [v.enc, c.enc] = some (v.wrap c).DN := by
 refine (nX _ _).trans ?_;have main : ∀ d : A9, d.right = true -> OI (run cfg) v.enc c.enc (.int .i64 d.kind) (.int .i64 d.head) (.int .i64 d.label) (.bool d.neg) (.list 5 (d.kids.map A9.enc)) =
  some (v.A1q d c).DN := by
  intro d hd;unfold Val.A1q;rw [iF];simp only [A9.K8, A9.Q0, A9.Q4, A9.Q5, A9.Q7, A9.J9, A9.ag, A0J hd hc, D5];cases hj : d.join c with
  | none => simp [l9, U2, WR.DN]
  | some j =>
    have hr := A9.qV hj
    by_cases k7 : j.kind = 7
    ·have e0 := A95 j
     have e := e0;rw [A9.F8, k7] at e;simp [k7, e, e0, l9, WR.DN]
    ·by_cases k1 : j.kind = 1
     ·simp [k1, U2, B0e, WR.DN]
     ·by_cases ho : Mw v.kind j
      ·simp [k7, k1, jM, wS v j hr, ho, U2, WR.DN]
      ·simp [k7, k1, jM, wS v j hr, ho, U2, l9, WR.DN]
 rw [uK];simp only [I1, M9, E5, B2Y, kV, D5, D8, decide_eq_true_eq];have hr := hv.dcR;unfold Val.wrap;unfold Val.dc at hr ⊢
 by_cases h : v.c = F6
 ·rw [if_pos h, if_pos h]
  exact main iq Sv
 ·rw [if_neg h] at hr
  rw [if_neg h, if_neg h];simpa using main v.c hr
theorem kT {c : A9} (hv : v.ok) (hc : c.right = true) : (run cfg).p TM [v.enc, c.enc] = some (v.wrap c).DN := by
 refine (zV _ _).trans ?_;have main : ∀ d : A9, d.right = true -> Tx (run cfg) v.enc c.enc (.int .i64 d.kind) (.int .i64 d.head) (.int .i64 d.label) (.bool d.neg) (.list 5 (d.kids.map A9.enc)) =
  some (v.A1q d c).DN := by
  intro d hd;unfold Val.A1q;rw [tZ];simp only [A9.K8, A9.Q0, A9.Q4, A9.Q5, A9.Q7, A9.J9, A9.ag, A3m hd hc, D5];have own := fun (j : A9) (h : j = F6 \/ j.right = true) => qz (v.CJ j) hv.fields h
  cases hj : d.join c with
  | none => simp [l9, U2, WR.DN]
  | some j =>
    have hr := A9.qV hj
    by_cases k7 : j.kind = 7
    ·simp [k7, l9, A4K, WR.DN]
    ·by_cases k1 : j.kind = 1
     ·simp [k1]
      rw [WS];simp [B0e, own F6 (.inl rfl), show Mw (v.CJ F6).kind (v.CJ F6).c from .inl rfl, U2, WR.DN]
     ·simp [k7, k1]
      rw [WS];have o := own j (.inr hr);rw [show (v.CJ j).kind = v.kind from rfl, show (v.CJ j).c = j from rfl] at o
      by_cases ho : Mw v.kind j
      ·simp [jM, o, ho, U2, WR.DN]
      ·simp [jM, o, ho, U2, l9, WR.DN]
 rw [A2x];simp only [I1, M9, E5, B2Y, JQ, D5, D8, decide_eq_true_eq, A0K, A9.K8, A9.Q0, A9.Q4, A9.Q5, A9.Q7];have hr := hv.dcR;unfold Val.wrap;unfold Val.dc at hr ⊢
 by_cases h : v.c = F6
 ·rw [if_pos h, if_pos h]
  exact main iq Sv
 ·rw [if_neg h] at hr
  rw [if_neg h, if_neg h];simpa using main v.c hr
def TR.four : TR -> DV
 | .stuck => .H7 [R5.enc, R5.enc, Cr.enc, .int .i64 8]
 | .X5 l n => .H7 [R5.enc, R5.enc, (Bq l n).enc, .int .i64 0]
 | .ok a b => .H7 [a.enc, b.enc, Cr.enc, .int .i64 0]
theorem Val.ok.parts (h : v.ok) (hk : v.kind = 5 \/ v.kind = 7) (h5 : v.c.kind ≠ 5) (hn : v.c ≠ F6) : v.c.right = true /\ 0 < v.c.kids.length /\ (v.c.kid 0).right = true /\ (v.kind = 5 -> 1 < v.c.kids.length /\ (v.c.kid 1).right = true) := by
 obtain ⟨hr, hc⟩ := h.co.resolve_left hn;rcases hc with hc | hc | hc | hc
 ·exact absurd hc.1 h5
 ·have := A9.JB hr (.inr hc.1)
  exact ⟨hr, by omega, A9.O4 hr (by omega), fun _ => ⟨by omega, A9.O4 hr (by omega)⟩⟩
 ·have := A9.A_ hr (.inl hc.1)
  exact ⟨hr, by omega, A9.O4 hr (by omega), fun h => by omega⟩
 ·omega
theorem A5K (hv : v.ok) : (run cfg).p fV [v.enc] = some v.two.four := by
 refine (A2Q _).trans ?_;rw [A40];simp only [yg, I1, E5, Val.K8, Val.Q5, J7, I5, D5, I6, D8, l9, U2];unfold Val.two
 by_cases hk : v.kind = 5 \/ v.kind = 7
 ·have l2 := hv.len hk
  have o0 := hv.kid (show 0 < v.kids.length by omega)
  have o1 := hv.kid (show 1 < v.kids.length by omega)
  by_cases h5 : v.c.kind = 5
  ·rw [if_neg (fun h : (v.kind = 5 \/ v.kind = 7) /\ v.c.kind ≠ 5 => h.2 h5)]
   simp only [h5, decide_true, if_true, ite_self];rfl
  rw [if_pos (show (v.kind = 5 \/ v.kind = 7) /\ v.c.kind ≠ 5 from ⟨hk, h5⟩)]
  have goal : XN (run cfg) v.enc =
   some (TR.four (if v.c = F6 then .ok (v.kid 0) (v.kid 1) else Val.A32 (v.kid 0) (v.kid 1) (v.c.kid 0) (if v.kind = 5 then v.c.kid 1 else v.c))) := by
   rw [yh];simp only [Val.RA, B21 (show 0 < v.kids.length by omega), A78 (show 1 < v.kids.length by omega), D5, B2Y, kV, K6, D8, z14q, decide_eq_false_iff_not]
   by_cases hn : v.c = F6
   ·rw [if_neg (fun h => h hn), if_pos hn]
    simp [U2, TR.four]
   rw [if_pos hn, if_neg hn];obtain ⟨cr, c0, r0, r1⟩ := hv.parts hk h5 hn;have nine : ∀ d : A9, d.right = true -> UA (run cfg)
    (A7 0 (v.kid 0).enc) (A7 1 (v.kid 0).enc) (A7 2 (v.kid 0).enc) (A7 3 (v.kid 0).enc) (A7 4 (v.kid 0).enc) (A7 5 (v.kid 0).enc) (A7 6 (v.kid 0).enc) (A7 7 (v.kid 0).enc) (A7 8 (v.kid 0).enc) (A7 0 (v.kid 1).enc) (A7 1 (v.kid 1).enc) (A7 2 (v.kid 1).enc) (A7 3 (v.kid 1).enc) (A7 4 (v.kid 1).enc) (A7 5 (v.kid 1).enc) (A7 6 (v.kid 1).enc) (A7 7 (v.kid 1).enc) (A7 8 (v.kid 1).enc)
    (A7 0 (v.c.kid 0).enc) (A7 1 (v.c.kid 0).enc) (A7 2 (v.c.kid 0).enc) (A7 3 (v.c.kid 0).enc) (A7 4 (v.c.kid 0).enc) (A7 0 d.enc) (A7 1 d.enc) (A7 2 d.enc) (A7 3 d.enc) (A7 4 d.enc) =
    some (TR.four (Val.A32 (v.kid 0) (v.kid 1) (v.c.kid 0) d)) := by
    intro d hd;rw [uL];simp only [Val.pj, V3, X3, R8, Val.J9, Val.ag, A9.K8, A9.Q0, A9.Q4, A9.Q5, A9.Q7, A9.J9, A9.ag, Yv o0 r0, D5];unfold Val.A32;cases hw : (v.kid 0).wrap (v.c.kid 0) with
    | stuck => simp [WR.DN, TR.four, U2, l9]
    | X5 l n => simp [WR.DN, TR.four, U2, l9, Bq] <;> rfl
    | ok a =>
      simp [WR.DN, Cr, -FT];rw [mf];simp only [Val.J9, Val.ag, A9.J9, A9.ag, Yv o1 hd, D5];cases hw : (v.kid 1).wrap d with
      | stuck => simp [WR.DN, TR.four, U2, l9]
      | X5 l n => simp [WR.DN, TR.four, U2, l9, Bq] <;> rfl
      | ok b =>
        simp [WR.DN, Cr, -FT];rw [mg];simp [U2, TR.four]
   simp only [Val.pj, V3, X3, R8, l7 c0, D5, I5, D8, decide_eq_true_eq]
   by_cases k5 : v.kind = 5
   ·obtain ⟨c1, r1⟩ := r1 k5
    simp only [k5, if_true, NQ c1, D5];have := nine _ r1;simp only [Val.pj, V3, X3, R8, A9.K8, A9.Q0, A9.Q4, A9.Q5, A9.Q7] at this ⊢;exact this
   ·simp only [k5, if_false]
    have := nine _ cr;simp only [Val.pj, V3, X3, R8, A9.K8, A9.Q0, A9.Q4, A9.Q5, A9.Q7] at this ⊢;exact this
  rcases hk with k | k <;> simp only [k, h5, decide_true, decide_false, z5q, z11q, z0q, if_false, if_true, Int.reduceEq] at goal ⊢ <;> exact goal
 ·have a5 : ¬ v.kind = 5 := fun h => hk (.inl h)
  have a7 : ¬ v.kind = 7 := fun h => hk (.inr h)
  rw [if_neg (fun h : (v.kind = 5 \/ v.kind = 7) /\ v.c.kind ≠ 5 => hk h.1)]
  simp only [a5, a7, decide_false, z11q, if_true];rfl
theorem A0N (hv : v.ok) : (run cfg).p XH [v.enc] = some v.two.four := by
 refine (uy _).trans ?_;rw [yT];simp only [I1, E5, Val.K8, Val.Q5, Val.RA, M7, z3q, J7, I5, D5, I6, D8, l9, U2, Val.Q7, Val.Jd, Val.Md, Val.Oj, A9.J9, A9.ag, JQ, decide_eq_true_eq, z14q, decide_eq_false_iff_not];unfold Val.two
 by_cases hk : v.kind = 5 \/ v.kind = 7
 ·have l2 := hv.len hk
  have o0 := hv.kid (show 0 < v.kids.length by omega)
  have o1 := hv.kid (show 1 < v.kids.length by omega)
  rw [if_neg (by omega)]
  by_cases h5 : v.c.kind = 5
  ·rw [if_neg (fun h : (v.kind = 5 \/ v.kind = 7) /\ v.c.kind ≠ 5 => h.2 h5), if_pos h5]
   rfl
  rw [if_pos (show (v.kind = 5 \/ v.kind = 7) /\ v.c.kind ≠ 5 from ⟨hk, h5⟩), if_neg h5]
  simp only [B21 (show 0 < v.kids.length by omega), A78 (show 1 < v.kids.length by omega), D5]
  by_cases hn : v.c = F6
  ·rw [if_pos hn, if_pos hn]
   simp [TR.four]
  rw [if_neg hn, if_neg hn];obtain ⟨cr, c0, r0, r1⟩ := hv.parts hk h5 hn;have nine : ∀ d : A9, d.right = true -> Qq (run cfg) v.enc (v.c.kid 0).enc (.int .i64 d.kind) (.int .i64 d.head) (.int .i64 d.label) (.bool d.neg) (.list 5 (d.kids.map A9.enc)) =
   some (TR.four (Val.A32 (v.kid 0) (v.kid 1) (v.c.kid 0) d)) := by
   intro d hd;rw [mW];simp only [Val.pj, V3, X3, R8, Val.J9, Val.ag, A9.K8, A9.Q0, A9.Q4, A9.Q5, A9.Q7, A9.J9, A9.ag, B21 (show 0 < v.kids.length by omega), A78 (show 1 < v.kids.length by omega), kT o0 r0, kT o1 hd, D5]
   unfold Val.A32;cases hw : (v.kid 0).wrap (v.c.kid 0) with
   | stuck => simp [WR.DN, TR.four, U2, l9]
   | X5 l n => simp [WR.DN, TR.four, U2, l9, Bq] <;> rfl
   | ok a =>
     simp [WR.DN, Cr, -FT];cases hw : (v.kid 1).wrap d with
     | stuck => simp [WR.DN, TR.four, U2, l9] <;> rfl
     | X5 l n => simp [WR.DN, TR.four, U2, l9, Bq] <;> rfl
     | ok b =>
       simp [WR.DN, Cr, U2, TR.four, -FT]
  simp only [Val.pj, V3, X3, R8, l7 c0, D5, I5, D8, decide_eq_true_eq]
  by_cases k5 : v.kind = 5
  ·obtain ⟨c1, r1⟩ := r1 k5
   simp only [k5, if_true, NQ c1, D5, A9.K8, A9.Q0, A9.Q4, A9.Q5, A9.Q7];exact nine _ r1
  ·simp only [k5, if_false]
   exact nine _ cr
 ·have l0 := hv.A84 hk
  rw [if_pos (by omega), if_neg (fun h : (v.kind = 5 \/ v.kind = 7) /\ v.c.kind ≠ 5 => hk h.1)]
  rfl
end Go.Su

/-
 What holding a pattern against a value gives: the program's, the document's; values, results compared.
-/
namespace Go.Su
attribute [local simp] A9.J9 Val.J9 D9.J9 FT
variable {p : D9}
theorem B6Q (h : 0 < p.kids.length) : F5 7 (.list 7 (p.kids.map D9.enc)) (.int .i64 0) = some (p.kd 0).enc := by rw [show (0 : Int) = ((0 : Nat) : Int) from rfl, I8 h, D9.QR h]
theorem B6R (h : 1 < p.kids.length) : F5 7 (.list 7 (p.kids.map D9.enc)) (.int .i64 1) = some (p.kd 1).enc := by rw [show (1 : Int) = ((1 : Nat) : Int) from rfl, I8 h, D9.QR h]
def GX (c : ByteArray × Val) : DV := .agg [.str c.1, .int .i64 c.2.kind, .int .i64 c.2.n, .str c.2.s, .int .i64 c.2.c.kind, .int .i64 c.2.c.head, .int .i64 c.2.c.label, .bool c.2.c.neg, .list 5 (c.2.c.kids.map A9.enc), .list 9 (c.2.kids.map Val.enc)]
variable (s : ByteArray) (v : Val)
theorem A8v : DV.agg [.str s, .int .i64 v.kind, .int .i64 v.n, .str v.s, .int .i64 v.c.kind, .int .i64 v.c.head, .int .i64 v.c.label, .bool v.c.neg, .list 5 (v.c.kids.map A9.enc), .list 9 (v.kids.map Val.enc)] = GX (s, v) := rfl
theorem A8w : DV.agg ((.str s)::(V3 v.enc [])) = GX (s, v) := by rw [Val.F8]; rfl
def MR.res : MR -> Ci
 | .X5 l n => Bq l n
 | _ => Cr
def MR.err : MR -> Int
 | .stuck => 8
 | _ => 0
def MR.eD : MR -> Bool
 | .ok _ => true
 | _ => false
def MR.cells : MR -> List (ByteArray × Val)
 | .ok m => m
 | _ => []
variable (o : MR)
def MR.four : DV := .H7 [.list 10 (o.cells.map GX), .bool o.eD, o.res.enc, .int .i64 o.err]
variable (l : List (ByteArray × Val))
def B8j (sg : List C9) (o : MR) (q : Option (List DV × List C9)) : Prop :=
 ∃ l' : List (ByteArray × Val), q = some ([.list 10 (l'.map GX), .bool o.eD, o.res.enc, .int .i64 o.err], sg) /\ (o.eD = true -> l' = l ++ o.cells)
theorem D9.A9g (h : p.pat = true) : 1 <= p.kind /\ p.kind <= 9 := by
 rw [D9.eZ, z29q] at h;have := h.1;unfold D9.one at this
 repeat' split at this
 all_goals first | omega | simp at this
theorem D9.B6P (h : p.pat = true) (hk : p.kind ≠ 3) (Vl : p.kind ≠ 4) : p.n = 0 := by
 rw [D9.eZ, z29q] at h;have := h.1;unfold D9.one at this
 repeat' split at this
 all_goals first | omega | (simp at this; simp [this]; done) | skip
 all_goals simp at this
theorem D9.B2B (h : p.pat = true) (hk : p.kind ≠ 5) : p.s = N9 := by
 rw [D9.eZ, z29q] at h;have := h.1;unfold D9.one at this
 repeat' split at this
 all_goals first | omega | (simp at this; simp [this]; done) | skip
 all_goals simp at this
theorem A91 (p : D9) : p.pat = true -> ∀ (v : Val), v.ok -> ∀ (l : List (ByteArray × Val)) (sg : List C9), l.length + p.size <= lim ->
 B8j l sg (p.holds v) ((run cfg).r Pk [(p.enc, .val), (v.enc, .val), (.list 10 (l.map GX), .own)] sg) := by
 induction p using D9.ind with
 | h p ih =>
   intro hp v hv l sg hl;have pk := D9.A9g hp;have hs := p.Db;rw [uz, yU, D9.A3F p v (D9.aM hp)];have s1 : A8 .sub (.int .i64 p.kind) (.int .i64 3) = some (.int .i64 (p.kind - 3)) := by rw [Fy, BS (by omega) (by omega)]
   have s2 : A8 .add (.int .i64 (p.kind - 3)) (.int .i64 1) = some (.int .i64 (p.kind - 2)) := by rw [Mx (by omega) (by omega)]; congr 2; omega
   simp only [EJ, I1, E5, D9.K8, D9.Q5, D9.Q7, D9.Jd, Val.pj, V3, X3, R8, I5, J7, KP, D5, D8, I6, decide_eq_true_eq, s1, s2, Cf, A8v, A8w, U2, z14q, decide_eq_false_iff_not]
   by_cases k1 : p.kind = 1
   ·simp only [k1, if_true]; exact ⟨l, rfl, fun _ => by simp [MR.cells]⟩
   simp only [k1, if_false]
   by_cases k2 : p.kind = 2
   ·simp only [k2, if_true, Ee (e := GX) (sz := 10) (l := l) (x := (p.name, v)) (by omega), D5]
    exact ⟨l ++ [(p.name, v)], rfl, fun _ => rfl⟩
   simp only [k2, if_false]
   by_cases c5 : v.c.kind = 5
   ·simp only [c5, true_or, if_true]; exact ⟨[], rfl, fun h => by cases h⟩
   simp only [c5, if_false, false_or]
   by_cases vk : ¬ v.kind = p.kind - 2
   ·simp only [vk, ne_eq, not_false_iff, if_true]; exact ⟨[], rfl, fun h => by cases h⟩
   rw [Classical.not_not] at vk;simp only [vk, ne_eq, not_true, if_false]
   by_cases hk : p.kind = 7 \/ p.kind = 9
   ·have l2 := D9.aM hp hk
    have q12 : B8j l sg (match v.two with
     | .stuck => .stuck
     | .X5 l n => .X5 l n
     | .ok a b => ((p.kd 0).holds a).also fun l => ((p.kd 1).holds b).pre l) (OG (run cfg) (.list 10 (l.map GX)) p.enc v.enc sg) := by
     rw [iD];simp only [Val.pj, V3, X3, R8, Val.J9, Val.ag, A0N hv, D5];cases h2 : v.two with
     | stuck =>
       simp [TR.four, Cr];exact ⟨[], rfl, fun h => by cases h⟩
     | X5 a b =>
       simp [TR.four, Bq];exact ⟨[], rfl, fun h => by cases h⟩
     | ok a b =>
       obtain ⟨oa, ob⟩ := Val.A5R hv h2;have m0 := D9.J_ (show 0 < p.kids.length by omega)
       have m1 := D9.J_ (show 1 < p.kids.length by omega)
       have BF := p.size_eq;have ZQ : p.kids = [p.kd 0, p.kd 1] := by
        match hk : p.kids, l2 with
        | [a, b], _ => simp [D9.kd, hk]
       rw [ZQ] at BF;simp only [z10q, z16q, z43q, List.sum_nil] at BF;obtain ⟨l1, h3, h4⟩ := ih _ m0 (D9.S_ hp m0) a oa l sg (by omega)
       simp [TR.four, Cr, -FT];simp only [B6Q (show 0 < p.kids.length by omega), D5, D9.pj, D9.J9, D9.ag, h3, Q9, R4, Fh, MN, Q3, E5, K6, D8]
       cases hh : (p.kd 0).holds a with
       | ok m =>
         have e := h4 (by rw [hh]; rfl)
         rw [hh] at e;subst e;have hm := (D9.dh _ (D9.S_ hp m0) oa hh).2;obtain ⟨l2, h5, h6⟩ := ih _ m1 (D9.S_ hp m1) b ob (l ++ m) sg (by rw [z31q]; omega)
         simp only [MR.cells] at h5 h6;simp only [MR.eD, z5q, z0q, if_false, B6R (show 1 < p.kids.length by omega), D5, D9.pj, D9.J9, D9.ag, MR.cells, h5, Q9, R4, Fh, MN, Q3, E5, A0D]
         cases hh2 : (p.kd 1).holds b with
         | ok m2 =>
           have e := h6 (by rw [hh2]; rfl)
           rw [hh2] at e;exact ⟨l2, rfl, fun _ => by rw [e]; simp [MR.cells, MR.also, MR.pre]⟩
         | no => exact ⟨l2, rfl, fun h => by cases h⟩
         | stuck => exact ⟨l2, rfl, fun h => by cases h⟩
         | X5 a b => exact ⟨l2, rfl, fun h => by cases h⟩
       | no => exact ⟨[], rfl, fun h => by cases h⟩
       | stuck => exact ⟨[], rfl, fun h => by cases h⟩
       | X5 a b => exact ⟨[], rfl, fun h => by cases h⟩
    simp only [if_pos hk];rcases hk with k | k <;> simp only [k, Int.reduceEq, not_true, not_false_iff, if_true, if_false] at q12 ⊢ <;> exact q12
   ·have k7 : ¬ p.kind = 7 := fun h => hk (.inl h)
    have k9 : ¬ p.kind = 9 := fun h => hk (.inr h)
    simp only [k7, k9, not_false_iff, if_true, or_self, if_false]
    by_cases k8 : p.kind = 8
    ·simp only [k8, if_true, true_or]; exact ⟨l, rfl, fun _ => by simp [MR.cells]⟩
    simp only [k8, if_false, false_or]
    by_cases e1 : v.n = p.n
    ·by_cases e2 : v.s = p.s
     ·simp only [e1, e2, if_true, and_self]; exact ⟨l, rfl, fun _ => by simp [MR.cells]⟩
     ·simp only [e1, e2, if_true, and_false, if_false]; exact ⟨l, rfl, fun h => by cases h⟩
    ·simp only [e1, if_false, false_and]; exact ⟨l, rfl, fun h => by cases h⟩
theorem A90 {v : Val} (hp : p.pat = true) (hv : v.ok) (hl : p.size <= lim) : (run cfg).p jW [p.enc, v.enc] = some (p.holds v).four := by
 refine (uw _ _).trans ?_;rw [yS];obtain ⟨l', h1, h2⟩ := A91 p hp v hv [] [] (by simpa using hl)
 simp only [z16q] at h1;simp only [EJ, I1, E5, Val.pj, V3, X3, R8, Val.J9, Val.ag, D9.pj, D9.J9, D9.ag, h1, D5, Q9, R4, Fh, MN, Q3, K6, D8, A0D];cases hh : p.holds v with
 | ok m =>
   have e := h2 (by rw [hh]; rfl)
   rw [hh] at e;rw [e];rfl
 | no => rfl
 | stuck => rfl
 | X5 a b => rfl
variable (r : Ci)
def GM : List DV := [.int .i64 r.kind, .int .i64 r.val.kind, .int .i64 r.val.n, .str r.val.s, .int .i64 r.val.c.kind, .int .i64 r.val.c.head, .int .i64 r.val.c.label, .bool r.val.c.neg, .list 5 (r.val.c.kids.map A9.enc), .list 9 (r.val.kids.map Val.enc), .int .i64 r.label, .bool r.neg, .int .i64 r.lo, .int .i64 r.hi, .int .i64 r.steps]
theorem aC : DV.agg (GM r) = r.enc := rfl
structure MB (sg : List C9) (i : Nat) (l : List (ByteArray × Val)) (r : Ci) (e : Int) : Prop where
 h : ∃ cs, E9 sg i = some cs /\ cs.length = 17 /\ X9 cs 0 = some (.list 10 (l.map GX)) /\ O8 1 15 cs = some (GM r) /\ H5 cs 16 = some (.int .i64 e)
def A5U (i : Nat) (l : List (ByteArray × Val)) (o : MR) (q : Option (List DV × List C9)) : Prop :=
 ∃ (sg' : List C9) (l' : List (ByteArray × Val)), q = some ([.bool o.eD], sg') /\ MB sg' i l' o.res o.err /\ (o.eD = true -> l' = l ++ o.cells)
variable {cs : List (DV × Meta)}
theorem B54 {x : DV × Meta} (hl : cs.length = 17) : O8 1 15 (cs.set 0 x) = O8 1 15 cs := by
 match cs, hl with
 | _ :: _, _ => rfl
theorem B46 {x : DV × Meta} (hl : cs.length = 17) : H5 (cs.set 0 x) 16 = H5 cs 16 := by
 match cs, hl with
 | _ :: _, _ => rfl
variable {sg : List C9} {l : List (ByteArray × Val)}
theorem B2L {i : Nat} (h : MB sg i l Cr 0) (hl : l.length < lim) :
 A5U i l (.ok [(s, v)]) (ob (E9 sg i) fun c3 => ob (X9 c3 0) fun d4 => ob (AQ 10 d4 (.list 10 [GX (s, v)])) fun d5 => ob (E9 (sg.set i (C9.box (c3.set 0 (d4, .val)))) i) fun c6 => ob (c6[0]?) fun u7 => some ([.bool true], ((sg.set i (C9.box (c3.set 0 (d4, .val)))).set i (C9.box (c6.set 0 (d5, .own)))))) := by
 obtain ⟨cs, h1, h2, h3, h4, h5⟩ := h.h;have hi := X4 h1;have h0 : 0 < cs.length := by omega
 simp only [h1, h3, D5, Ee (e := GX) (sz := 10) (l := l) (x := (s, v)) hl, P8 hi, z24q];rw [z4q h0];simp only [D5];refine ⟨_, l ++ [(s, v)], rfl, ⟨_, P8 hi _, by simp [h2], ?_, ?_, ?_⟩, fun _ => rfl⟩
 ·rw [X9, z4q (by simpa using h0)]
 ·rw [B54 (by simp [h2])]; exact h4
 ·rw [B46 (by simp [h2])]; exact h5
theorem A7h {i : Nat} {r0 : Ci} {e0 : Int} (h : MB sg i l r0 e0) (e : Int) (r : Ci) :
 ∃ sg', Fe (run cfg) i (.int .i64 e) r.enc sg = some ([.bool false], sg') /\ MB sg' i l r e := by
 obtain ⟨cs, h1, h2, h3, h4, h5⟩ := h.h;have hi := X4 h1;rw [QB]
 match cs, h2 with
 | [a0, a1, a2, a3, a4, a5, a6, a7, a8, a9, a10, a11, a12, a13, a14, a15, a16], _ =>
   simp only [h1, D5, z13q, z35q, P8 hi, P5, E5, z24q];rw [if_pos (by omega)]
   refine ⟨_, rfl, ⟨_, P8 hi _, rfl, h3, rfl, rfl⟩⟩
theorem B2Q (p : D9) : p.pat = true -> ∀ (v : Val), v.ok -> ∀ (l : List (ByteArray × Val)) (sg : List C9) (i : Nat), MB sg i l Cr 0 -> l.length + p.size <= lim ->
 A5U i l (p.holds v) ((run cfg).r FF [(.undef, .ptr i 0), (p.enc, .val), (v.enc, .val)] sg) := by
 induction p using D9.ind with
 | h p ih =>
   intro hp v hv l sg i hb hl;have pk := D9.A9g hp;have hs := p.Db;rw [Uo, Vh, D9.A3F p v (D9.aM hp)];simp only [EJ, I1, E5, D9.K8, D9.Q5, D9.Q7, D9.Jd, Val.pj, V3, X3, R8, I5, J7, KP, D5, D8, I6, decide_eq_true_eq, Cf, A8v, A8w, U2, z14q, decide_eq_false_iff_not];have yes : A5U i l (.ok []) (some ([.bool true], sg)) := ⟨sg, l, rfl, hb, fun _ => by simp [MR.cells]⟩
   have no : A5U i l .no (some ([.bool false], sg)) := ⟨sg, l, rfl, hb, fun h => by cases h⟩
   by_cases k1 : p.kind = 1
   ·simp only [k1, if_true]; exact yes
   simp only [k1, if_false]
   by_cases k2 : p.kind = 2
   ·simp only [k2, if_true]
    exact B2L p.name v hb (by omega)
   simp only [k2, if_false]
   by_cases c5 : v.c.kind = 5
   ·simp only [c5, true_or, if_true]; exact no
   simp only [c5, if_false, false_or];have vf := hv.fields;have leaf : ∀ (b : Bool) (c : Prop) [Decidable c], (b = true ↔ c) -> A5U i l (if c then .ok [] else .no) (some ([.bool b], sg)) := by
    intro b c _ h
    by_cases hc : c
    ·rw [if_pos hc, h.2 hc]; exact yes
    ·have : b = false := by cases b; rfl; exact absurd (h.1 rfl) hc
     rw [if_neg hc, this]; exact no
   by_cases k3 : p.kind = 3
   ·have ps := D9.B2B hp (by omega)
    by_cases vk : v.kind = 1
    ·have vs := vf.2.2.2.2.2.1 (by omega)
     simp only [k3, vk, ne_eq, Int.reduceSub, not_true, if_true, if_false, Int.reduceEq, or_self, false_or];exact leaf _ _ (by simp [vs, ps])
    ·simp only [k3, vk, ne_eq, Int.reduceSub, not_false_iff, if_true, if_false]; exact no
   simp only [k3, if_false]
   by_cases k4 : p.kind = 4
   ·have ps := D9.B2B hp (by omega)
    by_cases vk : v.kind = 2
    ·have vs := vf.2.2.2.2.2.1 (by omega)
     simp only [k4, vk, ne_eq, Int.reduceSub, not_true, if_true, if_false, Int.reduceEq, or_self, false_or];exact leaf _ _ (by simp [vs, ps])
    ·simp only [k4, vk, ne_eq, Int.reduceSub, not_false_iff, if_true, if_false]; exact no
   simp only [k4, if_false]
   by_cases k5 : p.kind = 5
   ·have pn := D9.B6P hp (by omega) (by omega)
    by_cases vk : v.kind = 3
    ·have vn := vf.2.2.1 (by omega) (by omega) (by omega)
     simp only [k5, vk, ne_eq, Int.reduceSub, not_true, if_true, if_false, Int.reduceEq, or_self, false_or];exact leaf _ _ (by simp [vn, pn])
    ·simp only [k5, vk, ne_eq, Int.reduceSub, not_false_iff, if_true, if_false]; exact no
   simp only [k5, if_false]
   by_cases k6 : p.kind = 6
   ·have pn := D9.B6P hp (by omega) (by omega)
    have ps := D9.B2B hp (by omega)
    by_cases vk : v.kind = 4
    ·have vn := vf.2.2.1 (by omega) (by omega) (by omega)
     have vs := vf.2.2.2.2.2.1 (by omega)
     simp only [k6, vk, ne_eq, Int.reduceSub, not_true, if_true, if_false, Int.reduceEq, or_self, false_or, vn, pn, vs, ps, and_self, decide_true];exact yes
    ·simp only [k6, vk, ne_eq, Int.reduceSub, not_false_iff, if_true, if_false, decide_false]; exact no
   simp only [k6, if_false]
   by_cases k8 : p.kind = 8
   ·by_cases vk : v.kind = 6
    ·simp only [k8, vk, ne_eq, Int.reduceSub, not_true, if_true, if_false, Int.reduceEq, or_self, true_or, decide_true]; exact yes
    ·simp only [k8, vk, ne_eq, Int.reduceSub, not_false_iff, if_true, if_false, decide_false]; exact no
   simp only [k8, if_false];have hk : p.kind = 7 \/ p.kind = 9 := by omega
   have l2 := D9.aM hp hk;rw [if_pos hk, P_];simp only [D9.K8, Val.K8, I5, J7, D5, D8, I6, decide_eq_true_eq, z14q, decide_eq_false_iff_not];have q22 : A5U i l (match v.two with
    | .stuck => .stuck
    | .X5 l n => .X5 l n
    | .ok a b => ((p.kd 0).holds a).also fun l => ((p.kd 1).holds b).pre l) (CB (run cfg) i p.enc v.enc sg) := by
    rw [QA];simp only [Val.pj, V3, X3, R8, Val.J9, Val.ag, A5K hv, D5];cases h2 : v.two with
    | stuck =>
      simp only [TR.four, Q9, R4, Fh, MN, I1, Q3, E5, D5, J7, I6, show (!decide ((8 : Int) = 0)) = true from rfl, if_true]
      obtain ⟨sg', h3, h4⟩ := A7h hb 8 Cr;exact ⟨sg', l, h3, h4, fun h => by cases h⟩
    | X5 a b =>
      simp only [TR.four, Q9, R4, Fh, MN, I1, Q3, E5, D5, J7, I6, D8, decide_true, z5q, z0q, if_false, rk, show (!decide ((Bq a b).kind = 0)) = true from rfl, if_true]
      obtain ⟨sg', h3, h4⟩ := A7h hb 0 (Bq a b);exact ⟨sg', l, h3, h4, fun h => by cases h⟩
    | ok a b =>
      obtain ⟨oa, ob⟩ := Val.A5R hv h2;have m0 := D9.J_ (show 0 < p.kids.length by omega)
      have m1 := D9.J_ (show 1 < p.kids.length by omega)
      have BF := p.size_eq;have ZQ : p.kids = [p.kd 0, p.kd 1] := by
       match hk : p.kids, l2 with
       | [a, b], _ => simp [D9.kd, hk]
      rw [ZQ] at BF;simp only [z10q, z16q, z43q, List.sum_nil] at BF;obtain ⟨Az, l1, h3, h4, h4'⟩ := ih _ m0 (D9.S_ hp m0) a oa l sg i hb (by omega)
      simp only [TR.four, Q9, R4, Fh, MN, I1, Q3, E5, D5, J7, I6, D8, decide_true, z5q, z0q, if_false, rk, show (!decide (Cr.kind = 0)) = false from rfl, B6Q (show 0 < p.kids.length by omega), D9.pj, D9.J9, D9.ag, Val.pj, V3, X3, R8, Val.J9, Val.ag, h3, z28q]
      cases hh : (p.kd 0).holds a with
      | ok m =>
        have e := h4' (by rw [hh]; rfl)
        rw [hh] at e h4;subst e;have hm := (D9.dh _ (D9.S_ hp m0) oa hh).2;obtain ⟨sg2, l2, h5, h6, h6'⟩ := ih _ m1 (D9.S_ hp m1) b ob (l ++ m) Az i h4 (by rw [z31q]; omega)
        simp only [MR.eD, if_true, B6R (show 1 < p.kids.length by omega), D5, D9.pj, D9.J9, D9.ag, h5, z28q]
        cases hh2 : (p.kd 1).holds b with
        | ok m2 =>
          have e := h6' (by rw [hh2]; rfl)
          rw [hh2] at e h6;exact ⟨sg2, l2, rfl, h6, fun _ => by rw [e]; simp [MR.cells, MR.also, MR.pre]⟩
        | no => rw [hh2] at h6; exact ⟨sg2, l2, rfl, h6, fun h => by cases h⟩
        | stuck => rw [hh2] at h6; exact ⟨sg2, l2, rfl, h6, fun h => by cases h⟩
        | X5 a b => rw [hh2] at h6; exact ⟨sg2, l2, rfl, h6, fun h => by cases h⟩
      | no => rw [hh] at h4; exact ⟨Az, l1, rfl, h4, fun h => by cases h⟩
      | stuck => rw [hh] at h4; exact ⟨Az, l1, rfl, h4, fun h => by cases h⟩
      | X5 a b => rw [hh] at h4; exact ⟨Az, l1, rfl, h4, fun h => by cases h⟩
   by_cases vk : v.kind = p.kind - 2
   ·rw [if_neg (fun h => h vk)]
    rcases hk with k | k <;> simp only [k, vk, Int.reduceEq, Int.reduceSub, not_true, not_false_iff, if_true, if_false] at q22 ⊢ <;> exact q22
   ·rw [if_pos vk]
    rcases hk with k | k
    ·rw [k] at vk
     simp only [Int.reduceSub] at vk;simp only [k, vk, not_false_iff, if_true]; exact no
    ·rw [k] at vk
     simp only [Int.reduceSub] at vk;simp only [k, vk, Int.reduceEq, not_false_iff, if_true, if_false]; exact no
theorem B0Y {v : Val} (hp : p.pat = true) (hv : v.ok) (hl : p.size <= lim) : (run cfg).p pV [p.enc, v.enc] = some (p.holds v).four := by
 refine (zb _ _).trans ?_;rw [A2D];obtain ⟨sg', l', h1, h2, h3⟩ := B2Q p hp v hv [] [C9.box (((.list 10 []), .full)::((.int .i64 0), .val)::(TD (A0W [((.int .i64 0), .val), ((.int .i64 0), .val), ((.int .i64 0), .val)])))] 0 ⟨_, rfl, rfl, rfl, rfl, rfl⟩ (by simpa using hl)
 obtain ⟨cs, g1, g2, g3, g4, g5⟩ := h2.h;have g6 : H5 cs 0 = some (.list 10 (l'.map GX)) := by
  unfold X9 at g3;unfold H5
  split at g3 <;> simp_all
 simp only [EJ, I1, E5, Val.pj, V3, X3, R8, Val.J9, Val.ag, D9.pj, D9.J9, D9.ag, h1, D5, z28q, K6, D8, g1, g4, g5, g6, aC, Q3, A0D, U2];cases hh : p.holds v with
 | ok m =>
   have e := h3 (by rw [hh]; rfl)
   rw [hh] at e;rw [e];rfl
 | no => rfl
 | stuck => rfl
 | X5 a b => rfl
end Go.Su

/-
 The program's machine in memory; what its smallest functions do.
-/
namespace Go.Su
variable {cs : List (DV × Meta)} {k : Nat}
theorem N7 {j : Nat} {x : DV × Meta} (h : k ≠ j) : H5 (cs.set k x) j = H5 cs j := by unfold H5; rw [z2q h]
theorem Dl {j : Nat} {x : DV × Meta} (h : k ≠ j) : X9 (cs.set k x) j = X9 cs j := by unfold X9; rw [z2q h]
theorem aH {d : DV} (h : k < cs.length) : H5 (cs.set k (d, .val)) k = some d := by unfold H5; rw [z4q h]
theorem A04 {d : DV} (h : k < cs.length) : X9 (cs.set k (d, .own)) k = some d := by unfold X9; rw [z4q h]
theorem A0F : ∀ (n o : Nat) (cs es : List (DV × Meta)), (∀ j, o <= j -> j < o + n -> cs[j]? = es[j]?) -> O8 o n cs = O8 o n es
 | 0, _, _, _, _ => rfl
 | n + 1, o, cs, es, h => by
   simp only [O8, H5, h o (z23q _) (by omega)]
   rw [A0F n (o + 1) cs es fun j h1 h2 => h j (by omega) (by omega)]
theorem X6 {o n : Nat} {x : DV × Meta} (h : k < o \/ o + n <= k) : O8 o n (cs.set k x) = O8 o n cs := A0F _ _ _ _ fun j h1 h2 => z2q (by omega)
theorem DD {xs : List (DV × Meta)} {o j : Nat} (hl : o + xs.length <= cs.length) (h : j < o \/ o + xs.length <= j) : H5 (putAt cs o xs) j = H5 cs j := by unfold H5; rw [Dm hl, if_neg (by omega)]
theorem a_ {xs : List (DV × Meta)} {o j : Nat} (hl : o + xs.length <= cs.length) (h : j < o \/ o + xs.length <= j) : X9 (putAt cs o xs) j = X9 cs j := by unfold X9; rw [Dm hl, if_neg (by omega)]
theorem get_put {xs : List (DV × Meta)} {o j : Nat} (hl : o + xs.length <= cs.length) (h : j < o \/ o + xs.length <= j) : (putAt cs o xs)[j]? = cs[j]? := by rw [Dm hl, if_neg (by omega)]
theorem TB {xs : List (DV × Meta)} {o p n : Nat} (hl : o + xs.length <= cs.length) (h : p + n <= o \/ o + xs.length <= p) : O8 p n (putAt cs o xs) = O8 p n cs := A0F _ _ _ _ fun j h1 h2 => get_put hl (by omega)
variable (ds : List DV)
def vals : List (DV × Meta) := ds.map fun d => (d, .val)
theorem B1D : ∀ (ds : List DV) (cs : List (DV × Meta)) (o : Nat), (∀ j, j < ds.length -> cs[o + j]? = (vals ds)[j]?) -> O8 o ds.length cs = some ds
 | [], _, _, _ => rfl
 | d :: ds, cs, o, h => by
   have h0 := h 0 (by simp)
   simp only [vals, z10q, z22q, Nat.add_zero] at h0;simp only [z13q, O8, H5, h0, D5];rw [B1D ds cs (o + 1) fun j hj => by
    have := h (j + 1) (by simp; omega)
    rw [show o + 1 + j = o + (j + 1) by omega, this]
    simp [vals]]
   rfl
variable {ds : List DV}
theorem ql {o n : Nat} (hn : ds.length = n) (hl : o + n <= cs.length) : O8 o n (putAt cs o (vals ds)) = some ds := by
 subst hn;refine B1D ds _ o fun j hj => ?_
 rw [Dm (by simpa [vals] using hl), if_pos (by simp [vals]; omega), show o + j - o = j by omega]
theorem B0d (ds : List DV) : (vals ds).length = ds.length := by simp [vals]
def Tm.strip : Tm -> Tm
 | .mk k lo hi nm ar n s op lb ng _ a b _ ps ks => .mk k lo hi nm ar n s op lb ng [] a b [] ps (ks.map Tm.strip)
variable (t : Tm)
theorem Tm.CW : t.strip = .mk t.kind t.lo t.hi t.name t.arg t.n t.s t.op t.label t.neg [] t.a t.b [] t.H8 (t.kids.map Tm.strip) := by
 cases t;rw [Tm.strip];rfl
@[simp] theorem rC : t.strip.kind = t.kind := by rw [Tm.CW]; rfl
@[simp] theorem A3Y : t.strip.lo = t.lo := by rw [Tm.CW]; rfl
@[simp] theorem A3X : t.strip.hi = t.hi := by rw [Tm.CW]; rfl
@[simp] theorem VO : t.strip.name = t.name := by rw [Tm.CW]; rfl
@[simp] theorem A7m : t.strip.arg = t.arg := by rw [Tm.CW]; rfl
@[simp] theorem B1K : t.strip.n = t.n := by rw [Tm.CW]; rfl
@[simp] theorem B1L : t.strip.s = t.s := by rw [Tm.CW]; rfl
@[simp] theorem A3Z : t.strip.op = t.op := by rw [Tm.CW]; rfl
@[simp] theorem A3p : t.strip.label = t.label := by rw [Tm.CW]; rfl
@[simp] theorem A7n : t.strip.neg = t.neg := by rw [Tm.CW]; rfl
@[simp] theorem B1I : t.strip.a = t.a := by rw [Tm.CW]; rfl
@[simp] theorem B1J : t.strip.b = t.b := by rw [Tm.CW]; rfl
@[simp] theorem A5O : t.strip.H8 = t.H8 := by rw [Tm.CW]; rfl
@[simp] theorem A5N : t.strip.kids = t.kids.map Tm.strip := by rw [Tm.CW]; rfl
variable {t : Tm} {i : Nat}
theorem B2w (h : i < t.kids.length) : F5 20 (.list 20 (t.strip.kids.map Tm.enc)) (.int .i64 (i : Int)) = some (t.kd i).strip.enc := by
 rw [A5N, I8 (by simpa using h), List.getElem_map, Tm.QR h]
theorem C0r (h : 0 < t.kids.length) : F5 20 (.list 20 (t.strip.kids.map Tm.enc)) (.int .i64 0) = some (t.kd 0).strip.enc := B2w h
theorem B6J (h : 1 < t.kids.length) : F5 20 (.list 20 (t.strip.kids.map Tm.enc)) (.int .i64 1) = some (t.kd 1).strip.enc := B2w h
theorem C0s (h : 2 < t.kids.length) : F5 20 (.list 20 (t.strip.kids.map Tm.enc)) (.int .i64 2) = some (t.kd 2).strip.enc := B2w h
variable (t : Tm)
def BH : List DV := [.int .i64 t.kind, .int .i64 t.lo, .int .i64 t.hi, .str t.name, .str t.arg, .int .i64 t.n, .str t.s, .int .i64 t.op, .int .i64 t.label, .bool t.neg, M8 t.vars, .int .i64 t.a.kind, .int .i64 t.a.n, .list 3 (t.a.kids.map Ty.enc), .int .i64 t.b.kind, .int .i64 t.b.n, .list 3 (t.b.kids.map Ty.enc), .list 3 (t.args.map Ty.enc), .list 7 (t.H8.map D9.enc), .list 20 (t.kids.map Tm.enc)]
def xh (c : A9) : List DV := [.int .i64 c.kind, .int .i64 c.head, .int .i64 c.label, .bool c.neg, .list 5 (c.kids.map A9.enc)]
variable (v : Val)
def Ad : List DV := [.int .i64 v.kind, .int .i64 v.n, .str v.s, .int .i64 v.c.kind, .int .i64 v.c.head, .int .i64 v.c.label, .bool v.c.neg, .list 5 (v.c.kids.map A9.enc), .list 9 (v.kids.map Val.enc)]
theorem Oq : DV.agg (BH t) = t.enc := (Tm.F8 t).symm
theorem B1T (c : A9) : DV.agg (xh c) = c.enc := (A9.F8 c).symm
theorem Bw : DV.agg (Ad v) = v.enc := (Val.F8 v).symm
variable (l : List Cell)
def EB : DV := l.foldl (fun e c => .Hz 11 (.agg ([.str c.1] ++ Ad c.2 ++ [e]))) .B_
theorem A3z (c : Cell) : EB (l ++ [c]) = .Hz 11 (.agg ([.str c.1] ++ Ad c.2 ++ [EB l])) := by simp [EB]
theorem gQ : H6 (EB l) = true := by
 rcases z53q l with rfl | ⟨m, c, rfl⟩
 ·rfl
 ·rw [z54q, A3z]; rfl
variable (f : CL)
def pT : Tm := if f.kind = 7 \/ f.kind = 8 then (f.t.kd 1).strip else f.t.strip
def pU : Tm := if f.kind = 8 then (f.t.kd 2).strip else KC
def pN : ByteArray := if f.kind = 7 then f.t.name else N9
def V9 : DV := .agg ([.int .i64 f.kind] ++ BH (pT f) ++ BH (pU f) ++ [.str (pN f), EB f.env] ++ Ad f.v ++ xh f.c)
def Jq (c : fK) : DV := .agg ([.str c.arg, .str c.name, .bool (decide (c.name ≠ N9))] ++ BH c.body.strip ++ [EB c.env])
structure MC (cs : List (DV × Meta)) (S : MS) : Prop where
 len : cs.length = 54
 t : O8 0 20 cs = some (BH S.t.strip)
 env : H5 cs 20 = some (EB S.env)
 v : O8 21 9 cs = some (Ad S.v)
 has : H5 cs 30 = some (.bool S.has)
 U3 : X9 cs 32 = some (.list 24 (S.U3.map Jq))
 fuel : H5 cs 33 = some (.int .i64 S.fuel)
 steps : H5 cs 34 = some (.int .i64 S.steps)
 done : H5 cs 35 = some (.bool S.done)
 res : O8 36 15 cs = some (GM S.res)
 reads : H5 cs 51 = some (.bool S.reads)
 todo : S.reads = false -> S.done = false -> cs[52]? = some (.list 9 [], .full)
 out : S.done = false -> X9 cs 53 = some (.list 9 (S.out.map Val.enc))
def X0 (S : MS) : List CL := if S.done = true then [] else S.frames
structure MV (c : DV × Meta) (sg : List C9) (i j n : Nat) (ds : List DV) (fs : List CL) (G : List (Nat × C9)) : Prop where
 c : c = (.undef, .M6 j n 57 fs.length)
 M6 : AX sg j n = some (57, ds)
 ds : ds.take fs.length = fs.reverse.map V9
 ne : j ≠ i
 g : ∀ p ∈ G, p.1 ≠ j
structure PM (S : MS) (i : Nat) (G : List (Nat × C9)) (sg : List C9) : Prop where
 h : ∃ cs c, E9 sg i = some cs /\ MC cs S /\ cs[31]? = some c /\ (c = (.list 57 [], .full) /\ X0 S = [] \/ ∃ j n ds, MV c sg i j n ds (X0 S) G)
 g : ∀ p ∈ G, sg[p.1]? = some p.2 /\ p.1 ≠ i
variable {sg : List C9}
theorem VJ {j n : Nat} (h : i ≠ j) (o : C9) : AX (sg.set i o) j n = AX sg j n := by
 unfold AX;rw [z2q h]
variable {G : List (Nat × C9)}
theorem MV.box {c : DV × Meta} {j n : Nat} {fs : List CL} (h : MV c sg i j n ds fs G) (o : C9) : MV c (sg.set i o) i j n ds fs G :=
 ⟨h.c, by rw [VJ (Ne.symm h.ne)]; exact h.M6, h.ds, h.ne, h.g⟩
variable {S : MS}
theorem PM.cells {T : MS} {es : List (DV × Meta)} (h : PM S i G sg) (hb : E9 sg i = some cs) (he : MC es T) (h31 : es[31]? = cs[31]?) (hf : X0 T = X0 S) : PM T i G (sg.set i (.box es)) := by
 obtain ⟨cs', c, h1, h2, h3, h4⟩ := h.h;rw [hb] at h1;cases h1;have hi := X4 hb;refine ⟨⟨es, c, P8 hi _, he, by rw [h31]; exact h3, ?_⟩, fun p hp => ?_⟩
 ·rcases h4 with h4 | ⟨j, n, ds, h4⟩
  ·exact .inl ⟨h4.1, by rw [hf]; exact h4.2⟩
  ·exact .inr ⟨j, n, ds, by rw [hf]; exact h4.box _⟩
 ·obtain ⟨a, b⟩ := h.g p hp
  exact ⟨by rw [z2q (Ne.symm b)]; exact a, b⟩
theorem B5R (h : PM S i G sg) (v : Val) : ∃ sg', (run cfg).r Y5 [(.undef, .ptr i 0), (v.enc, .val)] sg = some ([], sg') /\ PM (S.give v) i G sg' := by
 obtain ⟨cs, c, h1, h2, h3, h4⟩ := h.h;have hi := X4 h1;have l := h2.len;rw [QF, SI];have hx : ∀ xs : List (DV × Meta), xs.length = 9 -> 21 + xs.length <= cs.length := by omega
 simp only [I1, E5, h1, D5, Val.pj, V3, X3, R8, P8 hi, z24q, l];rw [if_pos (by omega), get_put (by simp; omega) (.inr (by simp)), z7q (by omega)]
 simp only [D5];refine ⟨_, rfl, h.cells h1 ?_ (by rw [z2q (by omega), get_put (by simp; omega) (.inr (by simp))]) rfl⟩
 have pl : (putAt cs 21 (vals (Ad v))).length = 54 := by rw [Be (by rw [B0d]; simp [Ad]; omega)]; exact l
 show MC ((putAt cs 21 (vals (Ad v))).set 30 (.bool true, .val)) (S.give v)
 have vl : (vals (Ad v)).length = 9 := rfl;constructor
 ·simpa using pl
 ·rw [X6 (by omega), TB (by omega) (by omega)]; exact h2.t
 ·rw [N7 (by omega), DD (by omega) (by omega)]; exact h2.env
 ·rw [X6 (by omega)]; exact ql (ds := Ad v) (n := 9) rfl (by omega)
 ·rw [aH (by omega)]; rfl
 ·rw [Dl (by omega), a_ (by omega) (by omega)]; exact h2.U3
 ·rw [N7 (by omega), DD (by omega) (by omega)]; exact h2.fuel
 ·rw [N7 (by omega), DD (by omega) (by omega)]; exact h2.steps
 ·rw [N7 (by omega), DD (by omega) (by omega)]; exact h2.done
 ·rw [X6 (by omega), TB (by omega) (by omega)]; exact h2.res
 ·rw [N7 (by omega), DD (by omega) (by omega)]; exact h2.reads
 ·rw [z2q (by omega), get_put (by omega) (by omega)]; exact h2.todo
 ·rw [Dl (by omega), a_ (by omega) (by omega)]; exact h2.out
theorem B7x (h : PM S i G sg) (t : Tm) (e : List Cell) : ∃ sg', (run cfg).r O0 [(.undef, .ptr i 0), (t.strip.enc, .val), (EB e, .val)] sg = some ([], sg') /\ PM (S.go t e) i G sg' := by
 obtain ⟨cs, c, h1, h2, h3, h4⟩ := h.h;have hi := X4 h1;have l := h2.len;rw [SX, UR];have ex : ∀ k, (V6 t.strip.enc []) = k -> k = vals (BH t.strip) := by
  rintro k rfl;rw [Tm.F8];rfl
 rw [ex _ rfl];have vl : (vals (BH t.strip)).length = 20 := rfl;have pl : (putAt cs 0 (vals (BH t.strip))).length = 54 := by rw [Be (by omega)]; exact l
 simp only [Al, E5, h1, D5, P8 hi, z24q, l, gQ];rw [if_pos (by omega), z7q (by omega)]
 simp only [D5];rw [z7q (by simp only [List.length_set]; omega)]
 simp only [D5];refine ⟨_, rfl, h.cells h1 ?_ (by rw [z2q (by omega), z2q (by omega), get_put (by omega) (by omega)]) rfl⟩
 have pl2 : ((putAt cs 0 (vals (BH t.strip))).set 20 (EB e, .val)).length = 54 := by simpa using pl
 constructor
 ·simpa using pl
 ·rw [X6 (by omega), X6 (by omega)]; exact ql (ds := BH t.strip) (n := 20) rfl (by omega)
 ·rw [N7 (by omega), aH (by omega)]; rfl
 ·rw [X6 (by omega), X6 (by omega), TB (by omega) (by omega)]; exact h2.v
 ·rw [aH (by omega)]; rfl
 ·rw [Dl (by omega), Dl (by omega), a_ (by omega) (by omega)]; exact h2.U3
 ·rw [N7 (by omega), N7 (by omega), DD (by omega) (by omega)]; exact h2.fuel
 ·rw [N7 (by omega), N7 (by omega), DD (by omega) (by omega)]; exact h2.steps
 ·rw [N7 (by omega), N7 (by omega), DD (by omega) (by omega)]; exact h2.done
 ·rw [X6 (by omega), X6 (by omega), TB (by omega) (by omega)]; exact h2.res
 ·rw [N7 (by omega), N7 (by omega), DD (by omega) (by omega)]; exact h2.reads
 ·rw [z2q (by omega), z2q (by omega), get_put (by omega) (by omega)]; exact h2.todo
 ·rw [Dl (by omega), Dl (by omega), a_ (by omega) (by omega)]; exact h2.out
theorem A58 (h : PM S i G sg) (r : Ci) : ∃ sg', (run cfg).r Y1 [(.undef, .ptr i 0), (r.enc, .val)] sg = some ([], sg') /\ PM (S.ends r) i G sg' := by
 obtain ⟨cs, c, h1, h2, h3, h4⟩ := h.h;have hi := X4 h1;have l := h2.len;rw [SV, UQ];have vl : (vals (GM r)).length = 15 := rfl;have l1 : (cs.set 35 (.bool true, .val)).length = 54 := by simpa using l
 have pl : (putAt (cs.set 35 (.bool true, .val)) 36 (vals (GM r))).length = 54 := by rw [Be (by omega)]; exact l1
 simp only [Q3, E5, h1, D5, P8 hi, z24q, l];rw [z7q (by omega)]
 simp only [D5];rw [if_pos (by omega)]
 have eb : (putAt (cs.set 35 (.bool true, .val)) 36 (vals (GM r)))[31]? = some ((putAt (cs.set 35 (.bool true, .val)) 36 (vals (GM r)))[31]) := z7q (by omega)
 refine ⟨sg.set i (.box ((putAt (cs.set 35 (.bool true, .val)) 36 (vals (GM r))).set 31 (.list 57 [], .full))), ?_, ⟨_, _, P8 hi _, ?_, z4q (by omega), .inl ⟨rfl, rfl⟩⟩, fun p hp => ?_⟩
 ·rw [show (putAt (cs.set 35 (DV.bool true, Meta.val)) 36 (oO r.enc [])) = putAt (cs.set 35 (.bool true, .val)) 36 (vals (GM r)) from rfl, eb]
  rfl
 ·constructor
  ·simpa using pl
  ·rw [X6 (by omega), TB (by omega) (by omega), X6 (by omega)]; exact h2.t
  ·rw [N7 (by omega), DD (by omega) (by omega), N7 (by omega)]; exact h2.env
  ·rw [X6 (by omega), TB (by omega) (by omega), X6 (by omega)]; exact h2.v
  ·rw [N7 (by omega), DD (by omega) (by omega), N7 (by omega)]; exact h2.has
  ·rw [Dl (by omega), a_ (by omega) (by omega), Dl (by omega)]; exact h2.U3
  ·rw [N7 (by omega), DD (by omega) (by omega), N7 (by omega)]; exact h2.fuel
  ·rw [N7 (by omega), DD (by omega) (by omega), N7 (by omega)]; exact h2.steps
  ·rw [N7 (by omega), DD (by omega) (by omega), aH (by omega)]; rfl
  ·rw [X6 (by omega)]; exact ql (ds := GM r) (n := 15) rfl (by omega)
  ·rw [N7 (by omega), DD (by omega) (by omega), N7 (by omega)]; exact h2.reads
  ·intro _ hd; cases hd
  ·intro hd; cases hd
 ·obtain ⟨a, b⟩ := h.g p hp
  exact ⟨by rw [z2q (Ne.symm b)]; exact a, b⟩
theorem rD : DV.agg ((.int .i64 6)::(P9 (Bz []))) = X7.enc := rfl
theorem A9j (h : PM S i G sg) : ∃ sg', (run cfg).r O6 [(.undef, .ptr i 0)] sg = some ([], sg') /\ PM (S.ends X7) i G sg' := by
 obtain ⟨sg', h1, h2⟩ := A58 h X7;refine ⟨sg', ?_, h2⟩;rw [QI, SN, rD, h1];rfl
theorem B5S (h : PM S i G sg) (c : fK) (hl : S.U3.length < 4294967000) : ∃ sg', (run cfg).r Dx [(.undef, .ptr i 0), (Jq c, .val)] sg = some ([(A3C S.U3.length).enc], sg') /\ PM (S.make c) i G sg' := by
 obtain ⟨cs, c31, h1, h2, h3, h4⟩ := h.h;have hi := X4 h1;have l := h2.len;rw [QG, SK];have ap := Ee (e := Jq) (sz := 24) (l := S.U3) (x := c) (by unfold lim; omega)
 have sub : A8 .sub (.int .i64 ((S.U3.length + 1 : Nat) : Int)) (.int .i64 1) = some (.int .i64 (S.U3.length : Int)) := by
  rw [Fy, BS (by omega) (by omega)]
  congr 2
  omega
 have e24 : D6 24 (Jq c) = true := rfl;simp only [e24, E5, h1, D5, h2.U3];rw [show (DV.agg (B37 (Jq c) [])) = Jq c from rfl, ap]
 simp only [D5, P8 hi];rw [z4q (by omega)]
 simp only [D5];rw [P8 (by simpa using hi)]
 simp only [D5, z24q];rw [show H5 (cs.set 32 (DV.list 24 ((S.U3 ++ [c]).map Jq), Meta.own)) 32 = some (.list 24 ((S.U3 ++ [c]).map Jq)) by unfold H5; rw [z4q (by omega)]]
 simp only [D5, M7, z3q, z31q, z13q, z35q, z47q, sub, P5, E5];refine ⟨_, by rw [Val.F8]; rfl, h.cells h1 ?_ (by rw [z2q (by omega)]) rfl⟩
 constructor
 ·simpa using l
 ·rw [X6 (by omega)]; exact h2.t
 ·rw [N7 (by omega)]; exact h2.env
 ·rw [X6 (by omega)]; exact h2.v
 ·rw [N7 (by omega)]; exact h2.has
 ·rw [A04 (by omega)]; rfl
 ·rw [N7 (by omega)]; exact h2.fuel
 ·rw [N7 (by omega)]; exact h2.steps
 ·rw [N7 (by omega)]; exact h2.done
 ·rw [X6 (by omega)]; exact h2.res
 ·rw [N7 (by omega)]; exact h2.reads
 ·rw [z2q (by omega)]; exact h2.todo
 ·rw [Dl (by omega)]; exact h2.out
end Go.Su

/-
 The program's machine: its frames.
-/
namespace Go.Su
variable {S : MS} {i : Nat} {G : List (Nat × C9)} {sg : List C9}
theorem PM.get (h : PM S i G sg) : ∃ cs, E9 sg i = some cs /\ MC cs S := by
 obtain ⟨cs, c, h1, h2, -⟩ := h.h;exact ⟨cs, h1, h2⟩
structure YQ (S : MS) (i j n : Nat) (ds : List DV) (cs : List (DV × Meta)) (G : List (Nat × C9)) (sg : List C9) : Prop where
 box : E9 sg i = some cs
 mc : MC cs S
 c31 : cs[31]? = some (.undef, .M6 j n 57 (X0 S).length)
 mv : MV (.undef, .M6 j n 57 (X0 S).length) sg i j n ds (X0 S) G
 g : ∀ p ∈ G, sg[p.1]? = some p.2 /\ p.1 ≠ i
variable {n : Nat} {ds : List DV} {cs : List (DV × Meta)}
theorem YQ.pm {j : Nat} (h : YQ S i j n ds cs G sg) : PM S i G sg :=
 ⟨⟨cs, _, h.box, h.mc, h.c31, .inr ⟨j, n, ds, h.mv⟩⟩, h.g⟩
theorem YQ.again {j : Nat} (h : YQ S i j n ds cs G sg) : CG sg i 31 cs 57 = some (sg, j, n, (X0 S).length) := by
 unfold CG;rw [h.c31];rfl
theorem YQ.cell {j : Nat} (h : YQ S i j n ds cs G sg) : Jo cs 31 57 = some (j, n, (X0 S).length) := by
 unfold Jo;rw [h.c31];rfl
theorem MC.A5z {T : MS} (h : MC cs S) (c : DV × Meta) (hT : T = { S with frames := T.frames }) : MC (cs.set 31 c) T := by
 have l := h.len;rw [hT];constructor
 ·simpa using l
 ·rw [X6 (by omega)]; exact h.t
 ·rw [N7 (by omega)]; exact h.env
 ·rw [X6 (by omega)]; exact h.v
 ·rw [N7 (by omega)]; exact h.has
 ·rw [Dl (by omega)]; exact h.U3
 ·rw [N7 (by omega)]; exact h.fuel
 ·rw [N7 (by omega)]; exact h.steps
 ·rw [N7 (by omega)]; exact h.done
 ·rw [X6 (by omega)]; exact h.res
 ·rw [N7 (by omega)]; exact h.reads
 ·rw [z2q (by omega)]; exact h.todo
 ·rw [Dl (by omega)]; exact h.out
theorem We {G : List (Nat × C9)} {p : Nat × C9} (h : sg[p.1]? = some p.2) : p.1 < sg.length := (z48q.1 h).1
theorem PM.M6 (h : PM S i G sg) (hb : E9 sg i = some cs) :
 ∃ j n ds sg' cs', CG sg i 31 cs 57 = some (sg', j, n, (X0 S).length) /\ YQ S i j n ds cs' G sg' := by
 obtain ⟨cs', c, h1, h2, h3, h4⟩ := h.h;rw [hb] at h1;cases h1;have hi := X4 hb;rcases h4 with ⟨rfl, h4⟩ | ⟨j, n, ds, h4⟩
 ·have l := h2.len
  refine ⟨sg.length, 1, [], sg.set i (.box (cs.set 31 (.undef, .M6 sg.length 1 57 0))) ++ [.M6 1 57 []], cs.set 31 (.undef, .M6 sg.length 1 57 0), ?_, ?_, h2.A5z _ rfl, ?_, ⟨by simp [h4], ?_, by simp [h4], by omega, fun p hp => ?_⟩, fun p hp => ?_⟩
  ·unfold CG
   rw [h3, h4];rfl
  ·unfold E9
   rw [z19q (by simpa using hi), z4q hi]
  ·rw [z4q (by omega), h4]; rfl
  ·unfold AX
   rw [z25q (by simp)]
   simp
  ·have := We (G := G) (h.g p hp).1
   omega
  ·obtain ⟨a, b⟩ := h.g p hp
   have := We (G := G) a;exact ⟨by rw [z19q (by simpa using this), z2q (Ne.symm b)]; exact a, b⟩
 ·refine ⟨j, n, ds, sg, cs, ?_, hb, h2, by rw [h3, h4.c], ⟨rfl, h4.M6, h4.ds, h4.ne, h4.g⟩, h.g⟩
  unfold CG;rw [h3, h4.c];rfl
theorem A5h (h : S.done = false) : X0 S = S.frames := by unfold X0; rw [h]; rfl
theorem B3i {l : List DV} {d : DV} (h : l.length < lim) : Kb 57 (.list 57 l) (.list 57 [d]) = some (l, [d]) := by
 simp [Kb];omega
theorem Ru {x : Nat × List DV} (h : AX sg i n = some x) : i < sg.length := by
 unfold AX at h;cases hi : sg[i]? with
 | none => rw [hi] at h; cases h
 | some o => exact (z48q.1 hi).1
theorem jH (h : i < sg.length) (n sz : Nat) (ds : List DV) : AX (sg.set i (.M6 n sz ds)) i n = some (sz, ds) := by
 unfold AX;rw [z4q h];simp
theorem A8A (f : CL) : DV.agg (YI (V9 f) []) = V9 f := rfl
theorem B1q (h : PM S i G sg) (hd : S.done = false) (hl : S.frames.length < 4294967000) (f : CL) :
 ∃ sg', (run cfg).r R6 [(.undef, .ptr i 0), (V9 f, .val)] sg = some ([], sg') /\ PM (S.push f) i G sg' := by
 obtain ⟨cs, h1, h2⟩ := h.get;obtain ⟨j, n, ds, Az, cs1, hv, pv⟩ := h.M6 h1;have l := pv.mc.len;rw [SY, UT];have e57 : D6 57 (V9 f) = true := rfl;simp only [e57, E5, h1, D5, hv, pv.mv.M6, A8A];have fr := A5h hd;have tl : (ds.take (X0 S).length).length = (X0 S).length := by rw [pv.mv.ds]; simp
 have dl : (X0 S).length <= ds.length := by rw [List.length_take] at tl; omega
 rw [B3i (by rw [tl, fr]; unfold lim; omega)]
 simp only [beq_self_eq_true, dl, decide_true, Bool.and_self, E5, D5];have hj := Ru pv.mv.M6;rw [IB pv.mv.ne, pv.box];simp only [D5];rw [z7q (by omega)]
 simp only [D5];have hi := X4 pv.box;have frp : X0 (S.push f) = f :: S.frames := by unfold X0; simp only [MS.push, hd, z0q, if_false]
 refine ⟨_, rfl, ⟨_, _, P8 (by simpa using hi) _, pv.mc.A5z _ rfl, z4q (by omega), .inr ⟨j, n + 1, ds.take (X0 S).length ++ [V9 f], ⟨?_, ?_, ?_, pv.mv.ne, pv.mv.g⟩⟩⟩, fun p hp => ?_⟩
 ·rw [tl, frp, fr]; rfl
 ·rw [VJ (Ne.symm pv.mv.ne), jH hj]
 ·rw [pv.mv.ds, frp, fr, z50q (by simp)]
  simp
 ·obtain ⟨a, b⟩ := pv.g p hp
  exact ⟨by rw [z2q (Ne.symm b), z2q (Ne.symm (pv.mv.g p hp))]; exact a, b⟩
theorem KQ (n : Nat) : VQ n = some (.int .i64 n) := A1o n
theorem p_ (h : 0 < n) : AF 0 n (.int .i64 ((n : Int) - 1)) = some (n - 1) := by
 unfold AF;simp only;rw [if_pos ⟨by omega, by omega⟩, z47q]
 congr 1
 omega
theorem A30 (h : n < 9223372036854775807) : A8 .sub (.int .i64 (n : Int)) (.int .i64 1) = some (.int .i64 ((n : Int) - 1)) := by rw [Fy, BS (by omega) (by omega)]
theorem YQ.top {j : Nat} (h : YQ S i j n ds cs G sg) {f : CL} {fs : List CL} (hf : X0 S = f :: fs) : ds[(X0 S).length - 1]? = some (V9 f) /\ ds.take fs.length = fs.reverse.map V9 := by
 have e := h.mv.ds;rw [hf] at e ⊢;simp only [z13q, z36q, z55q, z10q, z16q, z58q] at e ⊢;constructor
 ·have : (ds.take (fs.length + 1))[fs.length]? = some (V9 f) := by
   rw [e, z25q (by simp)]
   simp
  rw [List.getElem?_take_of_lt (by omega)] at this
  exact this
 ·have : (ds.take (fs.length + 1)).take fs.length = fs.reverse.map V9 := by
   rw [e, List.take_left' (by simp)]
  rw [List.take_take, Nat.min_eq_left (by omega)] at this
  exact this
theorem xk (c : A9) : DV.agg ((.int .i64 12)::(.int .i64 0)::(Mh ((.int .i64 0)::(Mh ((.str ⟨#[]⟩)::.B_::(P9 [.int .i64 c.kind, .int .i64 c.head, .int .i64 c.label, .bool c.neg, .list 5 (c.kids.map A9.enc)])))))) = V9 (DW c) := by
 have : KC.strip = KC := by rw [Tm.CW]; rfl
 unfold V9 pT pU pN DW;simp only [this];rfl
theorem B4h (c d : A9) : IZ 57 52 (V9 (DW c)) [((.int .i64 d.kind), .val), ((.int .i64 d.head), .val), ((.int .i64 d.label), .val), ((.bool d.neg), .val), ((.list 5 (d.kids.map A9.enc)), .val)] = some (V9 (DW d)) := by
 rw [<- xk c, <- xk d];rfl
theorem B35 (h : PM S i G sg) (hd : S.done = false) (hl : S.frames.length < 4294967000) (ZP : ∀ f ∈ S.frames, f.kind = 12 -> f.c.right = true /\ f = DW f.c) {c : A9} (hc : c.right = true) :
 ∃ sg', (run cfg).r Ib [(.undef, .ptr i 0), (c.enc, .val)] sg = some ([], sg') /\ PM (S.put c) i G sg' := by
 obtain ⟨cs, h1, h2⟩ := h.get;obtain ⟨j, n, ds, Az, cs1, hv, pv⟩ := h.M6 h1;have l := pv.mc.len;have fr := A5h hd;have hi := X4 pv.box;have hj := Ru pv.mv.M6;rw [Un, Vd];simp only [M9, E5, A9.K8, A9.Q0, A9.Q4, A9.Q5, A9.Q7, I5, D5, D8, decide_eq_true_eq, xk];unfold MS.put
 by_cases k1 : c.kind = 1
 ·rw [if_pos k1, if_pos k1]
  exact ⟨sg, rfl, h⟩
 rw [if_neg k1, if_neg k1];simp only [h1, D5, hv, KQ, A30 (show (X0 S).length < 9223372036854775807 by rw [fr]; omega), L9, I6, decide_eq_true_eq]
 have pushed : ∃ sg', (ob ((run cfg).r R6 [(.undef, .ptr i 0), (V9 (DW c), .val)] Az) fun q => some ([], q.2)) = some (([] : List DV), sg') /\ PM (S.push (DW c)) i G sg' := by
  obtain ⟨sg', e1, e2⟩ := B1q pv.pm hd hl (DW c);exact ⟨sg', by rw [e1]; rfl, e2⟩
 cases hf : S.frames with
 | nil =>
   rw [if_pos (by rw [fr, hf]; simp)]
   exact pushed
 | cons f fs =>
   have Vk : X0 S = f :: fs := by rw [fr, hf]
   have len : (X0 S).length = fs.length + 1 := by rw [Vk]; rfl
   rw [if_neg (by rw [len]; omega)]
   obtain ⟨top, tk⟩ := pv.top Vk;simp only [pv.box, D5, pv.again, p_ (show 0 < (X0 S).length by omega), pv.mv.M6, top, beq_self_eq_true, E5, show A7 0 (V9 f) = .int .i64 f.kind from rfl, J7, D8, z14q, decide_eq_false_iff_not]
   by_cases k12 : f.kind = 12
   ·obtain ⟨cr, fe⟩ := ZP f (by rw [hf]; exact z15q ..) k12
    rw [if_neg (fun h => h k12), if_pos k12]
    have pc : (DV.agg (oN (V9 f) [])) = f.c.enc := by rw [A9.F8]; rfl
    simp only [pc, A9.J9, A9.ag, A0J hc cr, D5];cases hJ : c.join f.c with
    | none =>
      obtain ⟨sg', e1, e2⟩ := A9j pv.pm;simp only [Q9, R4, M9, E5, D5, J7, D8, show (!decide ((8 : Int) = 0)) = true from rfl, if_true, e1]
      exact ⟨sg', rfl, e2⟩
    | some y =>
      simp only [Q9, R4, M9, E5, D5, J7, D8, decide_true, z5q, z0q, if_false, A9.K8, A9.Q0, A9.Q4, A9.Q5, A9.Q7, I5, decide_eq_true_eq]
      by_cases y1 : y.kind = 1
      ·rw [if_pos y1, if_pos y1]
       have b1 : bnd (X0 S).length (some (.int .i64 (((X0 S).length : Int) - 1))) = some fs.length := by
        unfold bnd;simp only;rw [if_pos (by omega)]
        congr 1
        omega
       simp only [b1, D5];rw [if_pos (by omega), z7q (by omega)]
       simp only [D5];refine ⟨_, rfl, ⟨_, _, P8 hi _, pv.mc.A5z _ rfl, z4q (by omega), .inr ⟨j, n, ds, ?_⟩⟩, fun p hp => ?_⟩
       ·have : X0 { S with frames := fs } = fs := by unfold X0; simp only [hd, z0q, if_false]
        exact MV.box ⟨by rw [this], pv.mv.M6, by rw [this]; exact tk, pv.mv.ne, pv.mv.g⟩ _
       ·obtain ⟨a, b⟩ := pv.g p hp
        exact ⟨by rw [z2q (Ne.symm b)]; exact a, b⟩
      ·rw [if_neg y1, if_neg y1]
       rw [fe];simp only [B4h, D5];have frn : X0 { S with frames := DW y :: fs } = DW y :: fs := by unfold X0; simp only [hd, z0q, if_false]
       refine ⟨_, rfl, ⟨cs1, _, by rw [IB pv.mv.ne]; exact pv.box, ?_, pv.c31, .inr ⟨j, n, _, ⟨?_, jH hj _ _ _, ?_, pv.mv.ne, pv.mv.g⟩⟩⟩, fun p hp => ?_⟩
       ·have := pv.mc.A5z (T := { S with frames := DW y :: fs }) (.undef, .M6 j n 57 (X0 S).length) rfl
        have h31 : 31 < cs1.length := by omega
        have e := pv.c31;rw [z7q h31, Option.some.injEq] at e;rw [<- e, List.set_getElem_self h31] at this;exact this
       ·rw [frn, len]; rfl
       ·rw [frn, len]
        simp only [z58q, z13q, z36q, z55q, z10q, z16q];have e := pv.mv.ds;rw [Vk] at e;simp only [z13q, z36q, z55q, z10q, z16q] at e;rw [List.take_set, e, List.set_append_right _ _ (by simp)]
        simp
       ·obtain ⟨a, b⟩ := pv.g p hp
        exact ⟨by rw [z2q (Ne.symm (pv.mv.g p hp))]; exact a, b⟩
   ·rw [if_pos k12, if_neg k12]
    exact pushed
end Go.Su

/-
 The program's machine: a step of a term.
-/
namespace Go.Su
def Goes (X : Option (List DV × List C9)) (r : List DV) (T : MS) (i : Nat) (G : List (Nat × C9)) : Prop := ∃ sg', X = some (r, sg') /\ PM T i G sg'
variable {X : Option (List DV × List C9)} {i : Nat} {G : List (Nat × C9)}
theorem Goes.then {F : List DV × List C9 -> Option (List DV × List C9)} {r r' : List DV} {T T' : MS} (h : Goes X r T i G) (k : ∀ sg', PM T i G sg' -> Goes (F (r, sg')) r' T' i G) : Goes (ob X F) r' T' i G := by
 obtain ⟨sg', rfl, h2⟩ := h;exact k sg' h2
variable {S : MS} {sg : List C9}
theorem Goes.ok (h : PM S i G sg) (r : List DV) : Goes (some (r, sg)) r S i G := ⟨sg, rfl, h⟩
theorem Goes.last {r r' : List DV} {T : MS} (h : Goes X r T i G) : Goes (ob X fun q => some (r', q.2)) r' T i G := h.then fun sg' h => Goes.ok h _
section
variable {S : MS} {i : Nat} {G : List (Nat × C9)} {sg : List C9} (h : PM S i G sg)
include h
theorem NK (v : Val) : Goes ((run cfg).r Y5 [(.undef, .ptr i 0), (v.enc, .val)] sg) [] (S.give v) i G := B5R h v
theorem Ob (t : Tm) (e : List Cell) : Goes ((run cfg).r O0 [(.undef, .ptr i 0), (t.strip.enc, .val), (EB e, .val)] sg) [] (S.go t e) i G := B7x h t e
theorem Sn (r : Ci) : Goes ((run cfg).r Y1 [(.undef, .ptr i 0), (r.enc, .val)] sg) [] (S.ends r) i G := A58 h r
theorem EF : Goes ((run cfg).r O6 [(.undef, .ptr i 0)] sg) [] (S.ends X7) i G := A9j h
theorem A8R (c : fK) (hl : S.U3.length < 4294967000) : Goes ((run cfg).r Dx [(.undef, .ptr i 0), (Jq c, .val)] sg) [(A3C S.U3.length).enc] (S.make c) i G := B5S h c hl
theorem B1f (hd : S.done = false) (hl : S.frames.length < 4294967000) (f : CL) : Goes ((run cfg).r R6 [(.undef, .ptr i 0), (V9 f, .val)] sg) [] (S.push f) i G := B1q h hd hl f
end
theorem QU (e : List Cell) (s : ByteArray) (v : Val) : (run cfg).p Dy [EB e, .str s, v.enc] = some (EB (e ++ [(s, v)])) := by
 refine (ZH _ _ _).trans ?_;rw [bK, A3z];simp only [I1, E5, Cf, gQ, Val.pj, V3, X3, R8];rfl
variable (s : ByteArray)
theorem A65 (l : List Cell) (c : Cell) : Qz s (l ++ [c]) = if c.1 = s then some c.2 else Qz s l := by
 unfold Qz;rw [List.reverse_append];simp only [z36q, List.reverse_nil, List.nil_append, z51q, List.find?_cons]
 by_cases h : c.1 = s <;> simp [h]
theorem B7y (h : PM S i G sg) (t : Tm) : ∀ (n : Nat) (e : List Cell), e.length <= n ->
 Goes (Ez (run cfg) i (EB e) t.enc sg) [] (match Qz t.name e with | some v => S.give v | none => S.ends X7) i G := by
 intro n
 induction n with
 | zero =>
   intro e he;have : e = [] := z6q (by omega)
   subst this;rw [EZ];exact (EF h).last
 | succ n ih =>
   intro e he;rcases z53q e with rfl | ⟨m, c, rfl⟩
   ·rw [EZ]
    exact (EF h).last
   ·rw [z54q] at he ⊢
    rw [A65, A3z, EZ];simp only [show OQ (.Hz 11 (.agg ([DV.str c.1] ++ Ad c.2 ++ [EB m])), .val) (.B_, .Ba) = some false from rfl, D5, z11q, D8, if_true, show bB 11 (.Hz 11 (.agg ([DV.str c.1] ++ Ad c.2 ++ [EB m]))) = some (.agg ([DV.str c.1] ++ Ad c.2 ++ [EB m])) from rfl,
     show A7 0 (.agg ([DV.str c.1] ++ Ad c.2 ++ [EB m])) = .str c.1 from rfl, show A7 10 (.agg ([DV.str c.1] ++ Ad c.2 ++ [EB m])) = EB m from rfl, Tm.Q5, KP, decide_eq_true_eq]
    by_cases hs : c.1 = t.name
    ·rw [if_pos hs, if_pos hs]
     refine Goes.last (r := []) ?_;rw [show (DV.agg (aB (.agg ([DV.str c.1] ++ Ad c.2 ++ [EB m])) [])) = c.2.enc from Bw c.2]
     exact NK h c.2
    ·rw [if_neg hs, if_neg hs]
     exact ih m (by simp at he; omega)
theorem FP (k n : Int) (s : ByteArray) : DV.agg ((.int .i64 k)::(.int .i64 n)::(.str s)::(Ab [.list 9 []])) = (Val.mk k n s F6 []).enc := by rw [Val.F8]; rfl
theorem B7z (h : PM S i G sg) (hd : S.done = false) {L : Nat} (I : MInv L S) (hL : L <= 4000) : Goes ((run cfg).r Lj [(.undef, .ptr i 0)] sg) [] S.term i G := by
 obtain ⟨cs, h1, h2⟩ := h.get;have tr := I.t.1;have tk := Tm.Gl tr;have tn := Tm.CV tr;have fl := I.fl;have ul := I.ul;have el := I.env.2;have tl : S.t.kids.length <= 1048576 := by have := S.t.BQ; have := I.t.2; have := S.t.NU; omega
 rw [Sb, UV];simp only [h1, D5, h2.t, h2.env, Oq, Al, E5, Tm.K8, rC S.t, I5, D8, decide_eq_true_eq, gQ];have x0 : 0 < S.t.kids.length -> F5 20 (.list 20 (S.t.strip.kids.map Tm.enc)) (.int .i64 0) = some (S.t.kd 0).strip.enc := C0r;have x1 : 1 < S.t.kids.length -> F5 20 (.list 20 (S.t.strip.kids.map Tm.enc)) (.int .i64 1) = some (S.t.kd 1).strip.enc := B6J;have x2 : 2 < S.t.kids.length -> F5 20 (.list 20 (S.t.strip.kids.map Tm.enc)) (.int .i64 2) = some (S.t.kd 2).strip.enc := C0s;have J9 : ∀ t : Tm, DV.agg [.int .i64 t.kind, .int .i64 t.lo, .int .i64 t.hi, .str t.name, .str t.arg, .int .i64 t.n, .str t.s, .int .i64 t.op, .int .i64 t.label, .bool t.neg, M8 t.vars, .int .i64 t.a.kind, .int .i64 t.a.n, .list 3 (t.a.kids.map Ty.enc), .int .i64 t.b.kind, .int .i64 t.b.n, .list 3 (t.b.kids.map Ty.enc), .list 3 (t.args.map Ty.enc), .list 7 (t.H8.map D9.enc), .list 20 (t.kids.map Tm.enc)] = t.enc := Oq;have pg : ∀ (f : CL) (X : DV), X = V9 f -> 0 < S.t.kids.length -> Goes (ob ((run cfg).r R6 [(.undef, .ptr i 0), (X, .val)] sg) fun q => ob (F5 20 (.list 20 (S.t.strip.kids.map Tm.enc)) (.int .i64 0)) fun d => ob (E9 q.2 i) fun c => ob (H5 c 20) fun e =>
  ob ((run cfg).r O0 [(.undef, .ptr i 0), (.agg (Y9 d []), .val), (e, .val)] q.2) fun q' => some ([], q'.2)) [] ((S.push f).go (S.t.kd 0) S.env) i G := by
  rintro f X rfl h0;refine (B1f h hd (by omega) f).then fun Az p1 => ?_
  obtain ⟨cs1, e1, e2⟩ := p1.get;simp only [x0 h0, D5, e1, e2.env, Tm.pj, Y9, V6, Q6, J9];exact (Ob p1 _ _).last
 unfold MS.term;unfold O9 at tn
 by_cases k1 : S.t.kind = 1
 ·rw [if_pos k1, if_pos k1]
  have := B7y h S.t.strip S.env.length S.env (z23q _);rw [VO] at this;exact this
 rw [if_neg k1, if_neg k1];have p13 : ∀ k : Int, S.t.kind = k -> 2 <= k -> k <= 5 -> Goes (Bh (run cfg) i S.t.strip.enc sg) [] (S.give (.mk (S.t.kind - 1) S.t.n S.t.s F6 [])) i G := by
  intro k hk h2 h5;rw [Oz];have s1 : A8 .sub (.int .i64 S.t.kind) (.int .i64 2) = some (.int .i64 (S.t.kind - 2)) := by rw [Fy, BS (by omega) (by omega)]
  have s2 : A8 .add (.int .i64 (S.t.kind - 2)) (.int .i64 1) = some (.int .i64 (S.t.kind - 1)) := by rw [Mx (by omega) (by omega)]; congr 2; omega
  simp only [Tm.K8, Tm.Jd, Tm.Md, rC S.t, B1K S.t, B1L S.t, s1, s2, D5, P5, Cf, E5, FP];exact (NK h _).last
 by_cases k2 : S.t.kind = 2
 ·rw [if_pos k2, if_pos (.inl k2)]; exact p13 2 k2 (by omega) (by omega)
 rw [if_neg k2]
 by_cases k3 : S.t.kind = 3
 ·rw [if_pos k3, if_pos (.inr (.inl k3))]; exact p13 3 k3 (by omega) (by omega)
 rw [if_neg k3]
 by_cases k4 : S.t.kind = 4
 ·rw [if_pos k4, if_pos (.inr (.inr (.inl k4)))]; exact p13 4 k4 (by omega) (by omega)
 rw [if_neg k4]
 by_cases k5 : S.t.kind = 5
 ·rw [if_pos k5, if_pos (.inr (.inr (.inr k5)))]; exact p13 5 k5 (by omega) (by omega)
 rw [if_neg k5, if_neg (show ¬ (S.t.kind = 2 \/ S.t.kind = 3 \/ S.t.kind = 4 \/ S.t.kind = 5) by omega)]
 by_cases k7 : S.t.kind = 7
 ·rw [if_pos k7, if_pos k7, FP]
  exact (NK h _).last
 rw [if_neg k7, if_neg k7]
 by_cases k9 : S.t.kind = 9
 ·rw [if_neg (by omega), if_pos (by omega)] at tn
  rw [if_pos k9, if_pos k9];simp only [Tm.Q5, Tm.H_, VO S.t, Cf, E5, x0 (by omega), D5, Tm.pj, Y9, V6, Q6]
  refine (A8R h ⟨N9, S.t.name, S.t.kd 0, S.env⟩ (by omega)).then fun Az p1 => ?_
  exact (NK p1 _).last
 rw [if_neg k9, if_neg k9]
 by_cases k6 : S.t.kind = 6
 ·rw [if_pos (by omega)] at tn
  rw [if_pos k6, if_pos k6];simp only [Tm.H_, x1 (by omega), D5, Tm.pj, Y9, V6, Q6]
  exact pg ⟨1, S.t.kd 1, S.env, R5, F6⟩ _ rfl (by omega)
 rw [if_neg k6, if_neg k6]
 by_cases k8 : S.t.kind = 8
 ·rw [if_pos (by omega)] at tn
  rw [if_pos k8, if_pos k8];simp only [Tm.H_, x1 (by omega), D5, Tm.pj, Y9, V6, Q6]
  exact pg ⟨3, S.t.kd 1, S.env, R5, F6⟩ _ rfl (by omega)
 rw [if_neg k8, if_neg k8]
 by_cases k10 : S.t.kind = 10
 ·rw [if_pos (by omega)] at tn
  rw [if_pos k10, if_pos k10];simp only [Tm.H_, x1 (by omega), D5, Tm.pj, Y9, V6, Q6]
  exact pg ⟨5, S.t.kd 1, S.env, R5, F6⟩ _ rfl (by omega)
 rw [if_neg k10, if_neg k10]
 by_cases k11 : S.t.kind = 11
 ·rw [if_pos (by omega)] at tn
  rw [if_pos k11, if_pos k11];simp only [Tm.H_, Tm.Q5, VO S.t, Cf, E5, x1 (by omega), D5, Tm.pj, Y9, V6, Q6]
  exact pg ⟨7, S.t, S.env, R5, F6⟩ _ rfl (by omega)
 rw [if_neg k11, if_neg k11, O_];simp only [I5, D5, D8, decide_eq_true_eq, h1, h2.env, gQ, E5]
 by_cases k13 : S.t.kind = 13
 ·rw [if_neg (by omega), if_neg (by omega), if_pos (by omega)] at tn
  rw [if_pos k13, if_pos k13];simp only [Tm.H_, x1 (by omega), x2 (by omega), D5, Tm.pj, Y9, V6, Q6]
  exact pg ⟨8, S.t, S.env, R5, F6⟩ _ rfl (by omega)
 rw [if_neg k13, if_neg k13]
 by_cases k14 : S.t.kind = 14
 ·rw [if_neg (by omega), if_neg (by omega), if_neg (by omega), if_pos (by omega)] at tn
  rw [if_pos k14, if_pos k14];simp only [Tm.H_, D5, Tm.pj, Y9, V6, Q6];exact pg ⟨9, S.t, S.env, R5, F6⟩ _ rfl (by omega)
 rw [if_neg k14, if_neg k14]
 by_cases k15 : S.t.kind = 15
 ·rw [if_pos (by omega)] at tn
  rw [if_pos k15, if_pos k15];simp only [Tm.H_, D5, Tm.pj, Y9, V6, Q6];exact pg ⟨10, S.t, S.env, R5, F6⟩ _ rfl (by omega)
 rw [if_neg k15, if_neg k15]
 by_cases k12 : S.t.kind = 12
 ·rw [if_pos (by omega)] at tn
  rw [if_pos k12, if_pos k12];have hne : S.t.name ≠ N9 := by
   have a1 := z20q.1 (show (_ && S.t.qa) = true from Tm.NY tr)
   have a2 := z20q.1 (z20q.1 (z20q.1 a1.1).1).1;have a3 := (z20q.1 a2.1).2;rw [k12] at a3;intro h;rw [h] at a3
   revert a3
   decide
  simp only [Tm.H_, Tm.Q5, Tm.Q7, VO S.t, A7m S.t, Cf, E5, x0 (by omega), D5, Tm.pj, Y9, V6, Q6]
  have m := A8R h ⟨S.t.name, S.t.arg, S.t.kd 0, S.env⟩ (by omega)
  unfold Jq at m;simp only [hne, ne_eq, not_false_iff, decide_true] at m;refine m.then fun Az p1 => ?_
  obtain ⟨cs1, e1, e2⟩ := p1.get;simp only [z28q, I1, E5, x1 (by omega), D5, e1, e2.env, Val.pj, V3, X3, R8, Val.J9, Val.ag]
  rw [show (S.make ⟨S.t.name, S.t.arg, S.t.kd 0, S.env⟩).env = S.env from rfl]
  simp only [QU, D5, Tm.pj, Y9, V6, Q6, J9];exact (Ob p1 _ _).last
 rw [if_neg k12, if_neg k12];have k16 : S.t.kind = 16 := by omega
 rw [if_neg (by omega), if_pos (by omega)] at tn
 rw [if_pos k16];obtain ⟨a1, a2, a3⟩ := Tm.qf tr k16;simp only [Tm.pj, Y9, V6, Q6, B1I S.t, B1J S.t, A3p S.t, A7n S.t, Ty.J9, Ty.ag, A7P S.t.neg a1 a2 a3, D5]
 by_cases ag : S.t.a.agrees S.t.b = true
 ·rw [if_pos ag, if_pos ag]
  simp only [Q9, R4, M9, E5, D5, J7, decide_true, z5q, D8, z0q, if_false, A9.K8, A9.Q0, A9.Q4, A9.Q5, A9.Q7, A9.J9, A9.ag];have pp := B35 h hd (by omega) (fun f hf k => by
   obtain ⟨-, hf⟩ := I.fr f hf;rcases hf with h | h | h | h | h | h | h | h
   all_goals first | exact ⟨h.2.1, h.2.2.2⟩ | omega) (jh (q := S.t.neg) a1 a2 ag a3)
  refine Goes.then (T := S.put (A03 S.t.a S.t.b S.t.label S.t.neg)) (r := []) pp fun Az p1 => ?_
  obtain ⟨cs1, e1, e2⟩ := p1.get;have pe : (S.put (A03 S.t.a S.t.b S.t.label S.t.neg)).env = S.env := by
   unfold MS.put
   split
   ·rfl
   split
   ·rfl
   split
   ·split
    ·rfl
    ·split <;> rfl
   ·rfl
  simp only [Tm.H_, x0 (show 0 < S.t.kids.length by omega), D5, e1, e2.env, pe, Tm.pj, Y9, V6, Q6, J9]
  exact (Ob p1 _ _).last
 ·rw [if_neg ag, if_neg ag]
  simp only [Q9, R4, M9, E5, D5, J7, show (!decide ((4 : Int) = 0)) = true from rfl, D8, if_true]
  exact (EF h).last
end Go.Su

/-
 The program's machine: a step of a value.
-/
namespace Go.Su
variable (t : Tm)
theorem A6p : DV.agg (Y9 t.enc []) = t.enc := by rw [Tm.F8]; rfl
variable (v : Val)
theorem Ao : DV.agg (V3 v.enc []) = v.enc := by rw [Val.F8]; rfl
theorem aJ (c : A9) : DV.agg [A7 0 c.enc, A7 1 c.enc, A7 2 c.enc, A7 3 c.enc, A7 4 c.enc] = c.enc := by rw [A9.F8]; rfl
theorem A9h (p : D9) : DV.agg [A7 0 p.enc, A7 1 p.enc, A7 2 p.enc, A7 3 p.enc, A7 4 p.enc, A7 5 p.enc, A7 6 p.enc] = p.enc := by rw [D9.F8]; rfl
variable (f : CL)
theorem B8K : DV.agg (JA (V9 f) []) = (pT f).enc := Oq (pT f)
theorem C1e : DV.agg (B1t (V9 f) []) = (pU f).enc := Oq (pU f)
theorem B5r : DV.agg (A0w (V9 f) []) = f.v.enc := Bw f.v
theorem C1d : DV.agg (oN (V9 f) []) = f.c.enc := B1T f.c
theorem B2b : D6 57 (V9 f) = true := rfl
theorem C1c : A7 0 (V9 f) = .int .i64 f.kind := rfl
theorem A70 : A7 42 (V9 f) = EB f.env := rfl
theorem C0a : A7 41 (V9 f) = .str (pN f) := rfl
theorem A6L : DV.agg ((.int .i64 f.kind)::(B9l (V9 f) [.str (pN f), EB f.env, A7 43 (V9 f), A7 44 (V9 f), A7 45 (V9 f), A7 46 (V9 f), A7 47 (V9 f), A7 48 (V9 f), A7 49 (V9 f), A7 50 (V9 f), A7 51 (V9 f), A7 52 (V9 f), A7 53 (V9 f), A7 54 (V9 f), A7 55 (V9 f), A7 56 (V9 f)])) = V9 f := rfl
variable {f : CL}
theorem aL (h : f.kind ≠ 7) (h' : f.kind ≠ 8) : pT f = f.t.strip := by unfold pT; rw [if_neg (by omega)]
variable {S : MS} {i : Nat} {G : List (Nat × C9)} {sg : List C9}
theorem A1j (h : PM S i G sg) (hd : S.done = false) (hl : S.frames.length < 4294967000) {k : Int} (hk : k ≠ 7 /\ k ≠ 8) (hf : pT f = f.t.strip) (t : Tm) :
 Goes ((run cfg).r Cs [(.undef, .ptr i 0), (.int .i64 k, .val), (V9 f, .val), (t.strip.enc, .val)] sg) [] ((S.push ⟨k, f.t, [], S.v, F6⟩).go t f.env) i G := by
 obtain ⟨cs, h1, h2⟩ := h.get;rw [Sc, UW];simp only [B2b, Al, E5, h1, D5, h2.v, P5, Bw, I1, A6p, A70, Val.pj, V3, X3, R8];have pu := B1f h hd hl ⟨k, f.t, [], S.v, F6⟩;have e : V9 ⟨k, f.t, [], S.v, F6⟩ = .agg ([.int .i64 k] ++ BH (pT f) ++ BH KC ++ [.str N9, .B_] ++ Ad S.v ++ xh F6) := by
  unfold V9;rw [aL hk.1 hk.2, hf];unfold pU pN;rw [if_neg hk.2, if_neg hk.1];rfl
 rw [e] at pu;refine pu.then fun Az p1 => ?_
 exact (Ob p1 _ _).last
theorem Yr (hv : v.ok) : (run cfg).p Hd [v.enc] = some (.bool (decide (v.c = F6))) := by
 refine (m_ _).trans ?_;rw [sW];simp only [I1, E5, Val.Q5, I5, D5]
 congr 2
 rw [z33q];simp only [decide_eq_true_eq];constructor
 ·intro h
  rcases hv.co with h1 | h1
  ·exact h1
  ·have := A9.Gl h1.1; omega
 ·intro h; rw [h]; rfl
theorem B1s (h : PM S i G sg) {v : Val} (hv : v.ok) {c : A9} (hc : c.right = true) :
 (∃ w, v.wrap c = .ok w /\ (run cfg).r Eb [(.undef, .ptr i 0), (v.enc, .val), (c.enc, .val)] sg = some ([w.enc, .bool true], sg)) \/
 (∃ T, (∀ k, S.wrapped v c k = T) /\ Goes ((run cfg).r Eb [(.undef, .ptr i 0), (v.enc, .val), (c.enc, .val)] sg) [R5.enc, .bool false] T i G) := by
 rw [Sd, UX];simp only [I1, M9, E5, Ao, aJ, Yv hv hc, D5];cases hw : v.wrap c with
 | ok w =>
   refine .inl ⟨w, rfl, ?_⟩;simp only [WR.DN, Q9, R4, Fh, I1, Q3, E5, D5, J7, decide_true, z5q, D8, z0q, if_false, rk, show (!decide (Cr.kind = 0)) = false from rfl, Ao]
 | stuck =>
   refine .inr ⟨S.ends X7, fun k => by unfold MS.wrapped; rw [hw], ?_⟩
   simp only [WR.DN, Q9, R4, Fh, I1, Q3, E5, D5, J7, show (!decide ((8 : Int) = 0)) = true from rfl, D8, if_true, l9]
   exact (EF h).last
 | X5 l n =>
   refine .inr ⟨S.ends (LC l n), fun k => by unfold MS.wrapped; rw [hw], ?_⟩
   simp only [WR.DN, Q9, R4, Fh, I1, Q3, E5, D5, J7, decide_true, z5q, D8, z0q, if_false, rk, show (!decide ((Bq l n).kind = 0)) = true from rfl, if_true, l9]
   exact (Sn h (Bq l n)).last
theorem A9i (h : PM S i G sg) {f : Val} {c : fK} (hc : S.U3[f.n.toNat]? = some c) (h0 : 0 <= f.n) (v : Val) :
 Goes (Ev (run cfg) i (.int .i64 f.kind) (.int .i64 f.n) (.str f.s) (.int .i64 f.c.kind) (.int .i64 f.c.head) (.int .i64 f.c.label) (.bool f.c.neg) (.list 5 (f.c.kids.map A9.enc)) (.list 9 (f.kids.map Val.enc)) v.enc sg) [] (S.enter f v) i G := by
 obtain ⟨cs, h1, h2⟩ := h.get;rw [Ov];have cd : H5 cs 32 = some (.list 24 (S.U3.map Jq)) := by
  have := h2.U3;unfold X9 at this;unfold H5
  split at this <;> simp_all
 have ix : F5 24 (.list 24 (S.U3.map Jq)) (.int .i64 f.n) = some (Jq c) := by
  unfold F5;simp only;rw [if_pos ⟨trivial, h0⟩, List.getElem?_map, hc];rfl
 simp only [h1, D5, cd, ix, show A7 2 (Jq c) = .bool (decide (c.name ≠ N9)) from rfl, D8, decide_eq_true_eq, show A7 1 (Jq c) = .str c.name from rfl, show A7 23 (Jq c) = EB c.env from rfl, Val.J9, Val.ag, QU]
 unfold MS.enter;rw [hc];have Sz : ∀ e : List Cell, Goes (Ew (run cfg) i (EB e) v.enc (Jq c) sg) [] (S.go c.body (e ++ [(c.arg, v)])) i G := by
  intro e;rw [Ow];simp only [show A7 0 (Jq c) = .str c.arg from rfl, Ao, QU, D5]
  refine Goes.last (r := []) ?_;rw [show (DV.agg (B4a (Jq c) [])) = c.body.strip.enc from Oq _]
  exact Ob h _ _
 by_cases hn : c.name = N9
 ·simp only [hn, ne_eq, not_true, if_false, if_true]
  exact Sz c.env
 ·simp only [hn, ne_eq, not_false_iff, if_true, if_false]
  exact Sz (c.env ++ [(c.name, f)])
theorem B7w (h : PM S i G sg) (hd : S.done = false) {L : Nat} (I : MInv L S) (hL : L <= 4000) (hv : S.v.ok) {f : Val} (hf : f.ok) :
 Goes ((run cfg).r Li [(.undef, .ptr i 0), (f.enc, .val)] sg) [] (S.call f) i G := by
 obtain ⟨cs, h1, h2⟩ := h.get;have fl := I.fl;have cd : H5 cs 32 = some (.list 24 (S.U3.map Jq)) := by
  have := h2.U3;unfold X9 at this;unfold H5
  split at this <;> simp_all
 rw [SS, UO];simp only [I1, E5, h1, D5, h2.v, Bw, cd, M7, z3q, Val.pj, V3, X3, R8, Val.J9, Val.ag, J7, Ef, I6, D8, Yr f hf, K6, z14q, decide_eq_false_iff_not, decide_eq_true_eq];unfold MS.call
 by_cases k8 : ¬ f.kind = 8
 ·rw [if_pos k8, if_pos (.inl k8)]
  exact (EF h).last
 rw [if_neg k8];rw [Classical.not_not] at k8
 by_cases hn : (S.U3.length : Int) <= f.n
 ·rw [if_pos hn, if_pos (.inr hn)]
  exact (EF h).last
 rw [if_neg hn, if_neg (show ¬ (f.kind ≠ 8 \/ (S.U3.length : Int) <= f.n) by omega)]
 have f0 := hf.fields.2.2.2.2.1 k8;have L8 : f.n.toNat < S.U3.length := by omega
 have hg : S.U3[f.n.toNat]? = some (S.U3[f.n.toNat]) := z7q L8
 by_cases h0 : f.c = F6
 ·rw [if_neg (fun hx => hx h0), if_pos h0]
  exact A9i h hg f0 S.v
 rw [if_pos h0, if_neg h0]
 by_cases k2 : ¬ f.c.kind = 2
 ·rw [if_pos k2, if_pos k2]
  exact (EF h).last
 rw [if_neg k2, if_neg k2];rw [Classical.not_not] at k2;have cr := hf.coR h0;have cl := A9.JB cr (.inl k2);have r0 := A9.O4 cr (show 0 < f.c.kids.length by omega)
 have r1 := A9.O4 cr (show 1 < f.c.kids.length by omega)
 simp only [l7 (show 0 < f.c.kids.length by omega), D5, A9.K8, A9.Q0, A9.Q4, A9.Q5, A9.Q7, A9.J9, A9.ag]
 rcases B1s h hv r0 with ⟨w, hw, hq⟩ | ⟨T, hT, hq⟩
 ·simp only [hq, D5, Q9, R4, I1, E5, K6, z5q, D8, z0q, if_false, NQ (show 1 < f.c.kids.length by omega), A9.K8, A9.Q0, A9.Q4, A9.Q5, A9.Q7, A9.J9, A9.ag]
  unfold MS.wrapped;rw [hw];simp only;have pp := B35 h hd (by omega) (fun f hf k => by
   obtain ⟨-, hf⟩ := I.fr f hf;rcases hf with h | h | h | h | h | h | h | h
   all_goals first | exact ⟨h.2.1, h.2.2.2⟩ | omega) r1
  obtain ⟨e1, -⟩ := A3R S (f.c.kid 1);refine Goes.then (T := S.put (f.c.kid 1)) (r := []) pp fun Az p1 => ?_
  obtain ⟨cs1, g1, g2⟩ := p1.get;simp only [g1, D5, g2.done, D8]
  by_cases dn : (S.put (f.c.kid 1)).done = true
  ·rw [if_pos dn, if_pos dn]
   exact Goes.ok p1 _
  ·rw [if_neg dn, if_neg dn]
   have := A9i p1 (f := f.CJ F6) (c := S.U3[f.n.toNat]) (by rw [e1]; exact hg) f0 w
   exact this
 ·rw [hT]
  obtain ⟨sg', g1, g2⟩ := hq;simp only [g1, D5, Q9, R4, I1, E5, K6, z11q, D8, if_true];exact Goes.ok g2 _
def OR.pair : OR -> DV
 | .stuck => .H7 [R5.enc, X7.enc]
 | .div lo hi => .H7 [R5.enc, (atR 3 lo hi).enc]
 | .ok v => .H7 [v.enc, Cr.enc]
theorem A02 (k lo hi : Int) : DV.agg ((.int .i64 k)::(P9 [.int .i64 0, .bool false, .int .i64 lo, .int .i64 hi, .int .i64 0])) = (atR k lo hi).enc := rfl
theorem Yt (b : Bool) : (run cfg).p Mj [.bool b] = some (Val.mk 2 (if b = true then 1 else 0) N9 F6 []).enc := by
 refine (nA _).trans ?_;rw [sZ, Val.F8];cases b <;> rfl
theorem A5G (h1 : 1 <= t.op /\ t.op <= 7) {a b : Val} (ha : a.ok) (hb : b.ok) : (run cfg).p Vo [t.enc, a.enc, b.enc] = some (oJ t a b).pair := by
 refine (bu _ _ _).trans ?_;have pl : ∀ (v : Val), v.ok -> (run cfg).p Hd [v.enc] = some (.bool (decide (v.c = F6))) := Yr;have qu : ∀ x y : Int, y ≠ 0 -> A8 .quo (.int .i64 x) (.int .i64 y) = some (.int .i64 (IntKind.i64.wrap (x.tdiv y))) := fun x y h => by
  show (if y = 0 then none else some (DV.int .i64 (IntKind.i64.wrap (x.tdiv y)))) = _
  rw [if_neg h]
 have mu : ∀ x y : Int, A8 .mul (.int .i64 x) (.int .i64 y) = some (.int .i64 (IntKind.i64.wrap (x * y))) := fun x y => rfl
 have stuck : DV.H7 [R5.enc, X7.enc] = OR.stuck.pair := rfl;have F3 : t.op = 1 \/ t.op = 2 \/ t.op = 3 \/ t.op = 4 \/ t.op = 5 \/ t.op = 6 \/ t.op = 7 := by omega
 have B : ∀ x : Val, (∃ h : x.c = F6, True) \/ x.c ≠ F6 := fun x => by by_cases h : x.c = F6; exact .inl ⟨h, trivial⟩; exact .inr h
 rw [gZ];simp only [Al, I1, E5, Tm.Q0, Tm.Q4, Tm.Oj, I5, D5, D8, decide_eq_true_eq, Y_, Xo, Val.pj, V3, X3, R8, Val.J9, Val.ag, pl a ha, pl b hb, J7, I6, K6, z14q, decide_eq_false_iff_not, l9, rD, stuck];unfold oJ
 by_cases h7 : t.op = 7
 ·simp only [h7, if_true, Int.reduceEq, if_false]
  by_cases a3 : a.kind = 3
  ·by_cases b3 : b.kind = 3
   ·by_cases ac : a.c = F6
    ·by_cases bc : b.c = F6
     ·simp only [a3, b3, ac, bc, not_true, if_false, and_self, if_true, KP, D5, Yt, I1, E5, Val.pj, V3, X3, R8, Val.J9, Val.ag, U2, OR.pair, decide_eq_true_eq]
     ·simp only [a3, b3, ac, bc, not_true, not_false_iff, if_false, and_false, and_self, if_true]
    ·simp only [a3, b3, ac, not_true, not_false_iff, if_false, false_and, and_false, if_true]
   ·simp only [a3, b3, not_true, not_false_iff, if_false, false_and, and_false, if_true]
  ·simp only [a3, not_true, not_false_iff, if_false, false_and, if_true]
 ·simp only [h7, if_false]
  by_cases a3 : a.kind = 1
  ·by_cases b3 : b.kind = 1
   ·by_cases ac : a.c = F6
    ·by_cases bc : b.c = F6
     ·rw [if_pos (show a.kind = 1 /\ b.kind = 1 /\ a.c = F6 /\ b.c = F6 from ⟨a3, b3, ac, bc⟩)]
      simp only [a3, b3, ac, bc, not_true, if_false];rcases F3 with h | h | h | h | h | h | h
      ·simp only [h, Int.reduceEq, if_true, if_false, Bo, D5, P5, E5, FP, U2, Q_, OR.pair, Int.reduceLE]
       rfl
      ·simp only [h, Int.reduceEq, if_true, if_false, Fy, D5, P5, E5, FP, U2, Q_, OR.pair, Int.reduceLE]
       rfl
      ·simp only [h, Int.reduceEq, if_true, if_false, mu, D5, P5, E5, FP, U2, Q_, OR.pair, Int.reduceLE]
       rfl
      ·simp only [h, Int.reduceEq, if_true, if_false, Q_]
       by_cases b0 : b.n = 0
       ·simp only [b0, if_true, A02, OR.pair]
       ·simp only [b0, if_false, qu _ _ b0, D5, P5, E5, FP, U2, OR.pair, Int.reduceLE]
        rfl
      ·simp only [h, Int.reduceEq, if_true, if_false, L9, D5, Yt, I1, E5, Val.pj, V3, X3, R8, Val.J9, Val.ag, U2, OR.pair, Q_, decide_eq_true_eq, Int.reduceLE]
      ·simp only [h, Int.reduceEq, if_true, if_false, D5, Yt, I1, E5, Val.pj, V3, X3, R8, Val.J9, Val.ag, U2, OR.pair, Q_, decide_eq_true_eq, Int.reduceLE]
      ·exact absurd h h7
     ·simp only [a3, b3, ac, bc, not_true, not_false_iff, if_false, and_false, and_self, if_true]
    ·simp only [a3, b3, ac, not_true, not_false_iff, if_false, false_and, and_false, if_true]
   ·simp only [a3, b3, not_true, not_false_iff, if_false, false_and, and_false, if_true]
  ·simp only [a3, not_true, not_false_iff, if_false, false_and, if_true]
theorem B5b (v : Val) {l m : List Cell} {e : List Cell} {P : DV -> Int -> Option (List DV × List C9)} {X : Option (List DV × List C9)} (stop : P (EB (e ++ l)) l.length = X) (step : ∀ (i : Nat) (h : i < l.length) (x : List Cell), P (EB x) i = P (EB (x ++ [l[i]])) ((i : Int) + 1)) : P (EB e) 0 = X := by
 have key : ∀ (n i : Nat), i + n = l.length -> P (EB (e ++ l.take i)) i = X := by
  intro n
  induction n with
  | zero =>
    intro i hi;have : i = l.length := by omega
    subst this;rw [List.take_length];exact stop
  | succ n ih =>
    intro i hi;have h : i < l.length := by omega
    rw [step i h, List.append_assoc];have := ih (i + 1) (by omega)
    rw [List.take_succ_eq_append_getElem h] at this;exact this
 have := key l.length 0 (by omega)
 simpa using this
theorem B7v (h : PM S i G sg) (hv : S.v.ok) (k9 : f.kind = 9) (hl : f.t.kids.length <= 1048576) :
 ∀ (ps : List D9) (j : Nat), (∀ x, x < ps.length -> f.t.H8[j + x]? = ps[x]?) -> j + ps.length = f.t.H8.length -> j + ps.length + 1 <= f.t.kids.length -> (∀ p ∈ ps, p.pat = true /\ p.size <= 1048576) ->
   Goes (EX (run cfg) i (.list 7 (f.t.H8.map D9.enc)) (.int .i64 f.t.H8.length) (.int .i64 j) (V9 f) sg) [] (S.arms f j ps) i G := by
 have pt : pT f = f.t.strip := aL (by omega) (by omega)
 have e2 : A7 2 (V9 f) = .int .i64 f.t.lo := by rw [show A7 2 (V9 f) = .int .i64 (pT f).lo from rfl, pt, A3Y]
 have e3 : A7 3 (V9 f) = .int .i64 f.t.hi := by rw [show A7 3 (V9 f) = .int .i64 (pT f).hi from rfl, pt, A3X]
 have e20 : A7 20 (V9 f) = .list 20 (f.t.strip.kids.map Tm.enc) := by rw [show A7 20 (V9 f) = .list 20 ((pT f).kids.map Tm.enc) from rfl, pt]
 obtain ⟨cs, h1, h2⟩ := h.get;intro ps
 induction ps with
 | nil =>
   intro j _ hj _ _;rw [Hu];have : ¬ (j : Int) < (f.t.H8.length : Int) := by simp at hj; omega
   simp only [L9, this, decide_false, D5, D8, z0q, if_false, e2, e3, A02];exact (Sn h (atR 4 f.t.lo f.t.hi)).last
 | cons p ps ih =>
   intro j hx hj hk hp;simp only [z13q] at hj hk;have L8 : j < f.t.H8.length := by omega
   have h0 := hx 0 (by simp)
   rw [Nat.add_zero, z7q L8, z22q, Option.some.injEq] at h0;have hp0 := hp p (z15q ..);rw [Hu];simp only [L9, z46q, L8, decide_true, D5, D8, if_true, I8 L8, h0, h1, h2.v, Bw, A9h, B0Y hp0.1 hv (Nat.le_trans hp0.2 (by unfold lim; omega)), MR.four, Q9, R4, Fh, MN, Q3, E5, J7, rk]
   unfold MS.arms;cases hh : p.holds S.v with
   | stuck =>
     simp only [MR.err, show (!decide ((8 : Int) = 0)) = true from rfl, if_true]
     exact (EF h).last
   | X5 l n =>
     simp only [MR.err, MR.res, decide_true, z5q, z0q, if_false, show (!decide ((Bq l n).kind = 0)) = true from rfl, if_true, FT]
     exact (Sn h (Bq l n)).last
   | no =>
     simp only [MR.err, MR.res, MR.eD, decide_true, z5q, z0q, if_false, show (!decide (Cr.kind = 0)) = false from rfl, O5 (show j < 9223372036854775807 by omega), D5]
     exact ih (j + 1) (fun x hx' => by have := hx (x + 1) (by simp; omega); rw [z30q] at this; rw [<- this]; congr 1; omega) (by omega) (by omega) fun q hq => hp q (z12q _ hq)
   | ok l =>
     have ll := (D9.dh p hp0.1 hv hh).2;simp only [MR.err, MR.res, MR.eD, MR.cells, decide_true, z5q, z0q, if_false, show (!decide (Cr.kind = 0)) = false from rfl, if_true, M7, z3q, D5, A70]
     have loop := B5b S.v (l := l) (m := l) (e := f.env) (P := fun e k => D_ (run cfg) i (.int .i64 j) e (.list 10 (l.map GX)) (.int .i64 l.length) (.int .i64 k) (V9 f) sg) (X := _) rfl (fun k hk x => by
      rw [GZ];simp only [L9, z46q, hk, decide_true, D5, D8, if_true, I8 hk];rw [show A7 0 (GX l[k]) = .str l[k].1 from rfl, show (DV.agg (aB (GX l[k]) [])) = l[k].2.enc from Bw _]
      simp only [QU, D5, O5 (show k < 9223372036854775807 by omega)]
      rfl)
     rw [loop, GZ];simp only [L9, z37q, decide_false, D5, D8, z0q, if_false, O5 (show j < 9223372036854775807 by omega), e20, B2w (show j + 1 < f.t.kids.length by omega), A6p]
     exact (Ob h _ _).last
theorem B5T (h : PM S i G sg) (hv : S.v.ok) (k9 : f.kind = 9) (ht : JD f.t) (tk : f.t.kind = 14) :
 Goes ((run cfg).r KT [(.undef, .ptr i 0), (V9 f, .val)] sg) [] (S.arms f 0 f.t.H8) i G := by
 have tn := Tm.CV ht.1;rw [tk, O9, if_neg (by omega), if_neg (by omega), if_neg (by omega), if_pos (by omega)] at tn
 have tl : f.t.kids.length <= 1048576 := by have := ht.2; have := f.t.NU; omega
 rw [QH, SL];have pt : pT f = f.t.strip := aL (by omega) (by omega)
 have e19 : A7 19 (V9 f) = .list 7 (f.t.H8.map D9.enc) := by rw [show A7 19 (V9 f) = .list 7 ((pT f).H8.map D9.enc) from rfl, pt, A5O]
 simp only [B2b, E5, e19, M7, z3q, D5];exact B7v h hv k9 tl f.t.H8 0 (fun x _ => by rw [z47q]) (by omega) (by omega) ht.H8
theorem B5Q (h : PM S i G sg) (hd : S.done = false) {L : Nat} (I : MInv L S) (hL : L <= 4000) (hv : S.v.ok) (hf : TZ L f) :
 Goes ((run cfg).r KS [(.undef, .ptr i 0), (V9 f, .val)] sg) [] (S.frame f) i G := by
 obtain ⟨cs, h1, h2⟩ := h.get;obtain ⟨he, hf⟩ := hf;have fl := I.fl;rw [QE, SH];simp only [B2b, C1c, E5, I5, D5, D8, decide_eq_true_eq, A6L, B8K, B5r, A70, C0a, h1, h2.v, Bw, I1];have B8q : H5 cs 21 = some (.int .i64 S.v.kind) := by
  have := h2.v;simp only [O8] at this;cases hc : H5 cs 21 with
  | none => rw [hc] at this; cases this
  | some d =>
    rw [hc] at this;simp only [D5] at this;obtain ⟨ds, -, e⟩ := C8 this;simp only [Ad, Option.some.injEq, List.cons.injEq] at e;rw [e.1]
 have cdk : ∀ (k : Nat) (d : DV), (Ad S.v)[k]? = some d -> k < 9 -> H5 cs (21 + k) = some d := by
  have key : ∀ (n o : Nat) (ds : List DV), O8 o n cs = some ds -> ∀ (k : Nat) (d : DV), ds[k]? = some d -> H5 cs (o + k) = some d := by
   intro n
   induction n with
   | zero => intro o ds hs k d hk; simp only [O8, Option.some.injEq] at hs; subst hs; simp at hk
   | succ n ih =>
     intro o ds hs k d hk;simp only [O8] at hs;obtain ⟨x, hx, hs⟩ := C8 hs;obtain ⟨y, hy, hs⟩ := C8 hs;simp only [Option.some.injEq] at hs;subst hs;cases k with
     | zero => simp only [z22q, Option.some.injEq] at hk; subst hk; exact hx
     | succ k =>
       rw [z30q] at hk;have := ih (o + 1) y hy k d hk;rw [show o + (k + 1) = o + 1 + k by omega]
       exact this
  intro k d hk _;exact key 9 21 _ h2.v k d hk
 have C0P : H5 cs 22 = some (.int .i64 S.v.n) := cdk 1 _ rfl (by omega)
 have C0Q : H5 cs 24 = some (.int .i64 S.v.c.kind) := cdk 3 _ rfl (by omega)
 unfold MS.frame;rcases hf with ⟨k, ht⟩ | ⟨k, fv⟩ | ⟨k, ht, tk⟩ | ⟨k, ht, tk⟩ | ⟨k, ht, tk⟩ | ⟨k, ht, tk⟩ | ⟨k, ht, tk, fv⟩ | ⟨k, cr, c1, fe⟩
 ·rw [if_pos k]
  have pt : pT f = f.t.strip := aL (by omega) (by omega)
  simp only [pt];rcases k with k | k | k
  ·rw [if_pos k, k]
   exact (A1j h hd (by omega) (k := 2) (by omega) pt f.t).last
  ·rw [if_neg (by omega), if_pos k, k]
   exact (A1j h hd (by omega) (k := 4) (by omega) pt f.t).last
  ·rw [if_neg (by omega), if_neg (by omega), if_pos k, k]
   exact (A1j h hd (by omega) (k := 6) (by omega) pt f.t).last
 ·rw [if_neg (show ¬ (f.kind = 1 \/ f.kind = 3 \/ f.kind = 5) by omega), if_neg (show ¬ f.kind = 10 by omega), if_neg (show ¬ f.kind = 1 by omega), if_neg (show ¬ f.kind = 3 by omega), if_neg (show ¬ f.kind = 5 by omega), if_neg (show ¬ f.kind = 10 by omega)]
  rcases k with k | k | k
  ·rw [if_pos k, if_pos k]
   have := NK h (.mk 5 0 N9 F6 [f.v, S.v]);rw [Val.F8] at this;exact this.last
  ·rw [if_neg (show ¬ f.kind = 2 by omega), if_neg (show ¬ f.kind = 2 by omega), if_pos k, if_pos k]
   simp only [B8q, C0Q, D5, J7, I5, I6, D8, z14q, decide_eq_false_iff_not, decide_eq_true_eq];have p15 : Goes (EW (run cfg) i (V9 f) sg) [] (S.give (.mk 7 0 N9 F6 [f.v, S.v])) i G := by
    rw [NE];simp only [h1, D5, h2.v, Bw, I1, E5, B5r];have := NK h (.mk 7 0 N9 F6 [f.v, S.v]);rw [Val.F8] at this;exact this.last
   by_cases v6 : S.v.kind = 6
   ·rw [if_neg (fun h => h v6)]
    by_cases c5 : S.v.c.kind = 5
    ·rw [if_pos c5, if_neg (fun h => h.2 c5)]
     exact (EF h).last
    ·rw [if_neg c5, if_pos ⟨.inl v6, c5⟩]
     exact p15
   ·rw [if_pos v6]
    by_cases v7 : S.v.kind = 7
    ·rw [if_neg (fun h => h v7)]
     by_cases c5 : S.v.c.kind = 5
     ·rw [if_pos c5, if_neg (fun h => h.2 c5)]
      exact (EF h).last
     ·rw [if_neg c5, if_pos ⟨.inr v7, c5⟩]
      exact p15
    ·rw [if_pos v7, if_neg (fun h => h.1.elim v6 v7)]
     exact (EF h).last
  ·rw [if_neg (show ¬ f.kind = 2 by omega), if_neg (show ¬ f.kind = 2 by omega), if_neg (show ¬ f.kind = 4 by omega), if_neg (show ¬ f.kind = 4 by omega), if_pos k, if_pos k]
   exact (B7w h hd I hL hv fv).last
 ·have tn := Tm.CV ht.1
  rw [tk, O9, if_pos (by omega)] at tn
  have pt : pT f = (f.t.kd 1).strip := by unfold pT; rw [if_pos (.inl k)]
  have pn : pN f = f.t.name := by unfold pN; rw [if_pos k]
  simp only [k, Int.reduceEq, if_false, if_true, or_self, pt, pn, QU, D5];exact (Ob h _ _).last
 all_goals
  simp only [k, Int.reduceEq, if_false, if_true, or_self]
  try rw [NF]
  try simp only [k, Int.reduceEq, if_false, if_true, I5, D5, D8, decide_eq_true_eq, h1, B8q, C0P, J7, I6, h2.v, Bw, B8K, C1e, B5r, C1d, A70, A6L, I1, E5, Yr S.v hv, K6, z14q, decide_eq_false_iff_not]
 ·have tn := Tm.CV ht.1
  rw [tk, O9, if_neg (by omega), if_neg (by omega), if_pos (by omega)] at tn
  have pt : pT f = (f.t.kd 1).strip := by unfold pT; rw [if_pos (.inr k)]
  have pu : pU f = (f.t.kd 2).strip := by unfold pU; rw [if_pos k]
  rw [pt, pu]
  by_cases v2 : S.v.kind = 2
  ·rw [if_neg (fun h => h v2)]
   by_cases c0 : S.v.c = F6
   ·rw [if_neg (fun h => h c0), if_pos (show S.v.kind = 2 /\ S.v.c = F6 from ⟨v2, c0⟩)]
    by_cases n1 : S.v.n = 1
    ·rw [if_pos n1, if_pos n1]
     exact (Ob h _ _).last
    ·rw [if_neg n1, if_neg n1]
     exact (Ob h _ _).last
   ·rw [if_pos c0, if_neg (fun h : S.v.kind = 2 /\ S.v.c = F6 => c0 h.2)]
    exact (EF h).last
  ·rw [if_pos v2, if_neg (fun h : S.v.kind = 2 /\ S.v.c = F6 => v2 h.1)]
   exact (EF h).last
 ·exact (B5T h hv k ht tk).last
 ·have tn := Tm.CV ht.1
  rw [tk, O9, if_pos (by omega)] at tn
  have pt : pT f = f.t.strip := aL (by omega) (by omega)
  have e20 : A7 20 (V9 f) = .list 20 (f.t.strip.kids.map Tm.enc) := by rw [show A7 20 (V9 f) = .list 20 ((pT f).kids.map Tm.enc) from rfl, pt]
  simp only [e20, B6J (show 1 < f.t.kids.length by omega), D5, A6p]
  exact (A1j h hd (by omega) (k := 11) (by omega) pt _).last
 ·have pt : pT f = f.t.strip := aL (by omega) (by omega)
  have op := Tm.A9w ht.1 tk;rw [pt, A5G f.t.strip (by rw [A3Z]; exact op) fv hv]
  have eo : oJ f.t.strip f.v S.v = oJ f.t f.v S.v := by unfold oJ; rw [A3Z, A3Y, A3X]
  rw [eo];cases oJ f.t f.v S.v with
  | stuck =>
    simp only [OR.pair, D5, Q9, R4, I1, Q3, E5, rk, J7, D8, show (!decide (X7.kind = 0)) = true from rfl, if_true, FT]
    exact (Sn h X7).last
  | div lo hi =>
    simp only [OR.pair, D5, Q9, R4, I1, Q3, E5, rk, J7, D8, show (!decide ((atR 3 lo hi).kind = 0)) = true from rfl, if_true, FT]
    exact (Sn h (atR 3 lo hi)).last
  | ok v =>
    simp only [OR.pair, D5, Q9, R4, I1, Q3, E5, rk, J7, D8, show (!decide (Cr.kind = 0)) = false from rfl, z0q, if_false, Ao]
    exact (NK h v).last
 ·rcases B1s h hv cr with ⟨w, hw, hq⟩ | ⟨T, hT, hq⟩
  ·simp only [hq, D5, Q9, R4, I1, E5, D8, if_true, Ao]
   unfold MS.wrapped;rw [hw];exact (NK h w).last
  ·rw [hT]
   obtain ⟨sg', g1, g2⟩ := hq;simp only [g1, D5, Q9, R4, I1, E5, D8, z0q, if_false];exact Goes.ok g2 _
end Go.Su

/-
 The program's machine: reading, a step.
-/
namespace Go.Su
variable {S : MS} {i : Nat} {G : List (Nat × C9)} {sg : List C9} {cs : List (DV × Meta)}
theorem PM.change {T : MS} {sg' : List C9} {es : List (DV × Meta)} (h : PM S i G sg) (hb : E9 sg i = some cs) (GJ : E9 sg' i = some es) (he : MC es T) (h31 : es[31]? = cs[31]?) (hf : X0 T = X0 S) (ho : ∀ k, k ≠ i -> k < sg.length -> sg'[k]? = sg[k]?) : PM T i G sg' := by
 obtain ⟨cs', c, h1, h2, h3, h4⟩ := h.h;rw [hb] at h1;cases h1;refine ⟨⟨es, c, GJ, he, by rw [h31]; exact h3, ?_⟩, fun p hp => ?_⟩
 ·rcases h4 with h4 | ⟨j, n, ds, h4⟩
  ·exact .inl ⟨h4.1, by rw [hf]; exact h4.2⟩
  ·refine .inr ⟨j, n, ds, ?_⟩
   rw [hf];refine ⟨h4.c, ?_, h4.ds, h4.ne, h4.g⟩;have := h4.M6;unfold AX at this ⊢;rw [ho j h4.ne (Ru h4.M6)];exact this
 ·obtain ⟨a, b⟩ := h.g p hp
  exact ⟨by rw [ho _ b (We (G := G) a)]; exact a, b⟩
structure Grown (sg : List C9) (i k : Nat) (cs : List (DV × Meta)) (l : List DV) (sg' : List C9) : Prop where
 box : E9 sg' i = some (cs.set k (.list 9 l, .own))
 keep : ∀ j, j ≠ i -> j < sg.length -> sg'[j]? = sg[j]?
theorem A5V {l m : List DV} (h : l.length + m.length <= lim) (h0 : 0 < m.length) : Kb 9 (.list 9 l) (.list 9 m) = some (l, m) := by
 unfold Kb;simp only;rw [if_pos ⟨⟨trivial, trivial⟩, h, h0⟩]
variable {k : Nat}
theorem Mt {n : Nat} (h : k < n) : AF 0 n (.int .i64 (k : Int)) = some k := by
 unfold AF;simp only;rw [if_pos ⟨by omega, by omega⟩]
 simp
theorem B3I {l : List DV} (hb : E9 sg i = some cs) (hk : k < cs.length) (z x : DV) :
 Fw ((sg.set i (C9.box (cs.set k (.list 9 l, .val)))) ++ [C9.opn 9 l [z]]) ((sg.set i (C9.box (cs.set k (.list 9 l, .val))))).length = some (9, l, [z]) /\ Lf (9, l, [z]) l.length x = some (.opn 9 l [x]) /\
 E9 (((sg.set i (C9.box (cs.set k (.list 9 l, .val)))) ++ [C9.opn 9 l [z]]).set ((sg.set i (C9.box (cs.set k (.list 9 l, .val))))).length (.opn 9 l [x])) i = some (cs.set k (.list 9 l, .val)) := by
 have hi := X4 hb;refine ⟨?_, ?_, ?_⟩
 ·unfold Fw
  rw [z25q (z23q _), Nat.sub_self];rfl
 ·unfold Lf
  simp only [Nat.sub_self, z13q, z35q];rw [if_pos ⟨z23q _, by omega⟩]
  rfl
 ·rw [IB (by simp; omega)]
  unfold E9;rw [z19q (by simpa using hi), z4q hi]
theorem B3J {l m : List DV} (hb : E9 sg i = some cs) (hk : k < cs.length) (o : C9) (hm : 0 < m.length) (n : Nat) (hn : n = l.length + m.length) :
 E9 ((((sg.set i (C9.box (cs.set k (.list 9 l, .val)))) ++ [o]).set ((sg.set i (C9.box (cs.set k (.list 9 l, .val))))).length (.opn 9 l m)).set i (C9.box ((cs.set k (.list 9 l, .val)).set k (.undef, .arr ((sg.set i (C9.box (cs.set k (.list 9 l, .val))))).length 9 0 n)))) i = some ((cs.set k (.list 9 l, .val)).set k (.undef, .arr ((sg.set i (C9.box (cs.set k (.list 9 l, .val))))).length 9 0 n)) /\
 OP ((cs.set k (.list 9 l, .val)).set k (.undef, .arr ((sg.set i (C9.box (cs.set k (.list 9 l, .val))))).length 9 0 n)) k = some (((sg.set i (C9.box (cs.set k (.list 9 l, .val))))).length, 9, n) /\
 Fw ((((sg.set i (C9.box (cs.set k (.list 9 l, .val)))) ++ [o]).set ((sg.set i (C9.box (cs.set k (.list 9 l, .val))))).length (.opn 9 l m)).set i (C9.box ((cs.set k (.list 9 l, .val)).set k (.undef, .arr ((sg.set i (C9.box (cs.set k (.list 9 l, .val))))).length 9 0 n)))) ((sg.set i (C9.box (cs.set k (.list 9 l, .val))))).length = some (9, l, m) /\
 Hr (9, l, m) 9 n = some (.list 9 (l ++ m)) /\
 Grown sg i k cs (l ++ m) ((((((sg.set i (C9.box (cs.set k (.list 9 l, .val)))) ++ [o]).set ((sg.set i (C9.box (cs.set k (.list 9 l, .val))))).length (.opn 9 l m)).set i (C9.box ((cs.set k (.list 9 l, .val)).set k (.undef, .arr ((sg.set i (C9.box (cs.set k (.list 9 l, .val))))).length 9 0 n)))).set i (C9.box (((cs.set k (.list 9 l, .val)).set k (.undef, .arr ((sg.set i (C9.box (cs.set k (.list 9 l, .val))))).length 9 0 n)).set k (.list 9 (l ++ m), .own)))).set ((sg.set i (C9.box (cs.set k (.list 9 l, .val))))).length (.arr 1 [])) := by
 have hi := X4 hb;have hl : ((sg.set i (C9.box (cs.set k (.list 9 l, .val))))).length = sg.length := by simp
 rw [hl];refine ⟨?_, ?_, ?_, ?_, ?_, fun j hj L8 => ?_⟩
 ·exact P8 (by simp; omega) _
 ·unfold OP
  rw [z4q (by simpa using hk)]
  rfl
 ·unfold Fw
  rw [z2q (by omega), z4q (by simp)]
 ·unfold Hr
  rw [if_pos ⟨rfl, hn.symm, by omega⟩]
 ·rw [IB (by omega), z24q, P8 (by simp; omega), z24q, z24q]
 ·rw [z2q (by omega), z2q (Ne.symm hj), z2q (Ne.symm hj), z2q (by omega), z19q (by simpa using L8), z2q (Ne.symm hj)]
theorem A9R : ∀ (n : Nat) (l : List Val) (k : Nat), l.length <= n -> n <= 100000 -> listing (k + 1) l -> (∀ v ∈ l, v.c = F6 /\ v.kids = []) ->
 (run cfg).p Ph [.list 9 (l.map Val.enc)] = some (.H7 [(AY n l).1.enc, .list 9 ((AY n l).2.map Val.enc)]) /\ (∀ v ∈ (AY n l).2, v ∈ l) := by
 intro n
 induction n with
 | zero =>
   intro l k hl _ h;have : l = [] := z6q (by omega)
   subst this;cases h
 | succ n ih =>
   intro l k hl hn h hb;cases l with
   | nil => cases h
   | cons v l =>
     simp only [z13q] at hl;rw [listing] at h;obtain ⟨vc, vk⟩ := hb v (z15q ..);have GJ : ∀ w ∈ l, w.c = F6 /\ w.kids = [] := fun w hw => hb w (z12q _ hw)
     have d0 : F5 9 (.list 9 ((v :: l).map Val.enc)) (.int .i64 0) = some v.enc := rfl;have ds : Ak 9 (.list 9 ((v :: l).map Val.enc)) (some (.int .i64 1)) none = some (.list 9 (l.map Val.enc)) := by
      simp [Ak, bnd, z50q]
     rw [AY]
     by_cases hk : v.kind = 5 \/ v.kind = 7
     ·rw [if_pos hk]
      rw [Val.ar, if_pos hk] at h;obtain ⟨a1, a2⟩ := ih l (k + 1) (by omega) (by omega) h GJ
      obtain ⟨b1, b2⟩ := A99 n l (k + 1) (by omega) h
      obtain ⟨c1, c2⟩ := ih _ k (by omega) (by omega) b1 fun w hw => GJ w (a2 w hw)
      refine ⟨?_, fun w hw => z12q _ (a2 w (c2 w hw))⟩
      refine (Yd _).trans ?_;rw [bL];simp only [d0, ds, D5, Val.K8, I5, I6, D8, decide_eq_true_eq];have four : ∀ (b : List DV) , Qc (run cfg) (.list 9 (l.map Val.enc)) v.enc = some (.H7 [(Val.mk v.kind v.n v.s v.c [(AY n l).1, (AY n (AY n l).2).1]).enc, .list 9 ((AY n (AY n l).2).2.map Val.enc)]) := by
       intro _;rw [mE];simp only [a1, D5, Q9, R4, I1, E5, c1, Val.J9, Val.ag, Val.pj, V3, X3, R8];rw [Val.F8 (Val.mk _ _ _ _ _)];rfl
      by_cases h5 : v.kind = 5
      ·rw [if_pos h5]; exact four []
      ·rw [if_neg h5, if_pos (by omega)]; exact four []
     ·rw [if_neg hk]
      refine ⟨?_, fun w hw => z12q _ hw⟩
      refine (Yd _).trans ?_;rw [bL];simp only [d0, ds, D5, Val.K8, I5, I6, D8, decide_eq_true_eq];rw [if_neg (by omega), if_neg (by omega)]
      simp only [Val.J9, Val.ag, Val.pj, V3, X3, R8]
theorem A7q (v : Val) : DV.agg ((.int .i64 1)::(V3 v.enc (Bz []))) = (Ci.mk 1 v 0 false 0 0 0).enc := by rw [Val.F8]; rfl
theorem B8r {d : DV} (h : X9 cs k = some d) : H5 cs k = some d := by
 unfold X9 at h;unfold H5
 split at h <;> simp_all
theorem PM.less {q : Nat × C9} (h : PM S i (q :: G) sg) : PM S i G sg := by
 obtain ⟨cs, c, h1, h2, h3, h4⟩ := h.h;refine ⟨⟨cs, c, h1, h2, h3, ?_⟩, fun p hp => h.g p (z12q _ hp)⟩
 rcases h4 with h4 | ⟨j, n, ds, h4⟩
 ·exact .inl h4
 ·exact .inr ⟨j, n, ds, h4.c, h4.M6, h4.ds, h4.ne, fun p hp => h4.g p (z12q _ hp)⟩
theorem PM.swap {o o' : C9} (h : PM S i ((k, o) :: G) sg) (hn : ∀ p ∈ G, p.1 ≠ k) : PM S i ((k, o') :: G) (sg.set k o') := by
 obtain ⟨cs, c, h1, h2, h3, h4⟩ := h.h;obtain ⟨k1, k2⟩ := h.g (k, o) (z15q ..);refine ⟨⟨cs, c, by rw [IB k2]; exact h1, h2, h3, ?_⟩, fun p hp => ?_⟩
 ·rcases h4 with h4 | ⟨j, n, ds, h4⟩
  ·exact .inl h4
  ·have kj : k ≠ j := h4.g (k, o) (z15q ..)
   refine .inr ⟨j, n, ds, h4.c, by rw [VJ kj]; exact h4.M6, h4.ds, h4.ne, fun p hp => ?_⟩
   rcases z61q.1 hp with rfl | hp
   ·exact kj
   ·exact h4.g p (z12q _ hp)
 ·rcases z61q.1 hp with rfl | hp
  ·exact ⟨z4q (We (p := (k, o)) (G := G) k1), k2⟩
  ·obtain ⟨a, b⟩ := h.g p (z12q _ hp)
   exact ⟨by rw [z2q (Ne.symm (hn p hp))]; exact a, b⟩
structure RD (S : MS) (i k m : Nat) (ds : List DV) (cs : List (DV × Meta)) (G : List (Nat × C9)) (sg : List C9) : Prop where
 pm : PM S i ((k, .M6 m 9 ds) :: G) sg
 box : E9 sg i = some cs
 c52 : cs[52]? = some (.undef, .M6 k m 9 S.todo.length)
 ds : ds.take S.todo.length = S.todo.reverse.map Val.enc
 ne : ∀ p ∈ G, p.1 ≠ k
variable {ds : List DV}
theorem RD.vin {m : Nat} (h : RD S i k m ds cs G sg) : CG sg i 52 cs 9 = some (sg, k, m, S.todo.length) := by
 unfold CG;rw [h.c52];rfl
theorem RD.M6 {m : Nat} (h : RD S i k m ds cs G sg) : AX sg k m = some (9, ds) := by
 unfold AX;rw [(h.pm.g _ (z15q ..)).1];simp
theorem RD.mc {m : Nat} (h : RD S i k m ds cs G sg) : MC cs S := by
 obtain ⟨cs', h1, h2⟩ := h.pm.get;rw [h.box] at h1;cases h1;exact h2
theorem RD.nk {m : Nat} (h : RD S i k m ds cs G sg) : k ≠ i := (h.pm.g _ (z15q ..)).2
theorem RD.lk {m : Nat} (h : RD S i k m ds cs G sg) : k < sg.length := Ru h.M6
theorem RD.len {m : Nat} (h : RD S i k m ds cs G sg) : S.todo.length <= ds.length := by
 have := congrArg List.length h.ds;simp at this;omega
theorem MC.C0E {T : MS} (h : MC cs S) (c : DV × Meta) (hr : S.reads = true) (hT : T = { S with todo := T.todo }) : MC (cs.set 52 c) T := by
 have l := h.len;rw [hT];constructor
 ·simpa using l
 ·rw [X6 (by omega)]; exact h.t
 ·rw [N7 (by omega)]; exact h.env
 ·rw [X6 (by omega)]; exact h.v
 ·rw [N7 (by omega)]; exact h.has
 ·rw [Dl (by omega)]; exact h.U3
 ·rw [N7 (by omega)]; exact h.fuel
 ·rw [N7 (by omega)]; exact h.steps
 ·rw [N7 (by omega)]; exact h.done
 ·rw [X6 (by omega)]; exact h.res
 ·rw [N7 (by omega)]; exact h.reads
 ·intro h'; rw [show S.reads = false from h'] at hr; cases hr
 ·rw [Dl (by omega)]; exact h.out
theorem RD.cut {T : MS} {m m' : Nat} {ds' : List DV} {sg' : List C9} (h : RD S i k m ds cs G sg) (hp : PM S i ((k, .M6 m' 9 ds') :: G) sg') (hb : E9 sg' i = some cs) (hr : S.reads = true) (hT : T = { S with todo := T.todo }) (hd : ds'.take T.todo.length = T.todo.reverse.map Val.enc) :
 RD T i k m' ds' (cs.set 52 (.undef, .M6 k m' 9 T.todo.length)) G (sg'.set i (.box (cs.set 52 (.undef, .M6 k m' 9 T.todo.length)))) := by
 have l := h.mc.len;have hf : X0 T = X0 S := by rw [hT]; rfl
 exact ⟨hp.cells hb (h.mc.C0E _ hr hT) (by rw [z2q (by omega)]) hf, P8 (X4 hb) _, z4q (by omega), hd, h.ne⟩
def PK (S : MS) (i : Nat) (G : List (Nat × C9)) (sg : List C9) : Prop := PM S i G sg /\ (S.reads = true -> S.done = false -> ∃ k m ds cs, RD S i k m ds cs G sg)
def Ig (X : Option (List DV × List C9)) (r : List DV) (T : MS) (i : Nat) (G : List (Nat × C9)) : Prop := ∃ sg', X = some (r, sg') /\ PK T i G sg'
theorem Goes.done {X : Option (List DV × List C9)} {r : List DV} {T : MS} (h : Goes X r T i G) (hd : T.done = true) : Ig X r T i G := by
 obtain ⟨sg', h1, h2⟩ := h;exact ⟨sg', h1, h2, fun _ h => by rw [hd] at h; cases h⟩
theorem RD.pk {m : Nat} (h : RD S i k m ds cs G sg) : PK S i G sg := ⟨h.pm.less, fun _ _ => ⟨k, m, ds, cs, h⟩⟩
theorem B1p {m : Nat} (h : RD S i k m ds cs G sg) (hd : S.done = false) (ho : S.out.length < 50000) (v : Val) (hl : S.todo = [] -> listing 1 (S.out ++ [v.L6])) (ig : ∀ w ∈ S.out, w.c = F6 /\ w.kids = []) :
 Ig (DC (run cfg) i (.int .i64 v.kind) (.int .i64 v.n) (.str v.s) (.int .i64 v.c.kind) (.int .i64 v.c.head) (.int .i64 v.c.label) (.bool v.c.neg) (.list 5 (v.c.kids.map A9.enc)) (.list 9 (v.kids.map Val.enc)) sg) []
  (if S.todo = [] then { S with out := S.out ++ [v.L6] }.ends ⟨1, (AY (S.out.length + 1) (S.out ++ [v.L6])).1, 0, false, 0, 0, 0⟩ else { S with out := S.out ++ [v.L6] }) i G := by
 have main : Ig (Ey (run cfg) i (.int .i64 v.L6.kind) (.int .i64 v.L6.n) (.str v.L6.s) sg) []
  (if S.todo = [] then { S with out := S.out ++ [v.L6] }.ends ⟨1, (AY (S.out.length + 1) (S.out ++ [v.L6])).1, 0, false, 0, 0, 0⟩ else { S with out := S.out ++ [v.L6] }) i G := by
  have h1 := h.box;have h2 := h.mc;have l := h2.len;rw [Oy];have e0 : DV.agg ((.int .i64 v.L6.kind)::(.int .i64 v.L6.n)::(.str v.L6.s)::(Ab [.list 9 []])) = v.L6.enc := by rw [FP]; rfl
  obtain ⟨g1, g2, g3⟩ := B3I (k := 53) (l := S.out.map Val.enc) h1 (by omega) R5.enc v.L6.enc
  obtain ⟨g4, g5, g6, g7, g8⟩ := B3J (k := 53) (l := S.out.map Val.enc) (m := [v.L6.enc]) h1 (by omega) (.opn 9 (S.out.map Val.enc) [R5.enc]) (by simp) (S.out.length + 1) (by simp)
  have el : (S.out.map Val.enc).length = S.out.length := by simp
  rw [el] at g2;simp only [h1, D5, h2.out hd, M7, z3q, e0, l9, A5V (l := S.out.map Val.enc) (m := [R5.enc]) (by simp [lim]; omega) (by simp), z13q, z35q, z47q, Mt (show S.out.length < S.out.length + 1 by omega), g1, beq_self_eq_true, Bool.and_self, E5, g2, g3, g4, g5, g6, g7]
  rw [z7q (by simp only [List.length_set]; omega)]
  simp only [D5, g4, g5, g6, g7, g8.box];have pm : PM { S with out := S.out ++ [v.L6] } i ((k, .M6 m 9 ds) :: G) _ := h.pm.change h1 g8.box (by
   constructor
   ·simpa using l
   ·rw [X6 (by omega)]; exact h2.t
   ·rw [N7 (by omega)]; exact h2.env
   ·rw [X6 (by omega)]; exact h2.v
   ·rw [N7 (by omega)]; exact h2.has
   ·rw [Dl (by omega)]; exact h2.U3
   ·rw [N7 (by omega)]; exact h2.fuel
   ·rw [N7 (by omega)]; exact h2.steps
   ·rw [N7 (by omega)]; exact h2.done
   ·rw [X6 (by omega)]; exact h2.res
   ·rw [N7 (by omega)]; exact h2.reads
   ·rw [z2q (by omega)]; exact h2.todo
   ·intro _; rw [A04 (by omega)]; simp) (by rw [z2q (by omega)]) rfl g8.keep
  have rd : RD { S with out := S.out ++ [v.L6] } i k m ds _ G _ := ⟨pm, g8.box, by rw [z2q (by omega)]; exact h.c52, h.ds, h.ne⟩
  have vin := rd.vin;simp only at vin;have d53 : H5 (cs.set 53 (.list 9 (S.out.map Val.enc ++ [v.L6.enc]), .own)) 53 = some (.list 9 ((S.out ++ [v.L6]).map Val.enc)) := by rw [B8r (A04 (by omega))]; simp
  simp only [vin, KQ, g8.box, d53, D5, I5, D8, decide_eq_true_eq]
  by_cases ht : S.todo = []
  ·rw [if_pos (by rw [ht]; rfl), if_pos ht]
   obtain ⟨t1, -⟩ := A9R (S.out.length + 1) (S.out ++ [v.L6]) 0 (by simp) (by omega) (hl ht) (fun w hw => by
    rcases List.mem_append.1 hw with hw | hw
    ·exact ig w hw
    ·rw [List.mem_singleton.1 hw]; exact ⟨rfl, rfl⟩)
   simp only [t1, D5, Q9, R4, I1, E5, A7q];exact (Sn pm.less _).last.done rfl
  ·have : ¬ (S.todo.length : Int) = 0 := by
    intro h;exact ht (z6q (by omega))
   rw [if_neg this, if_neg ht];exact ⟨_, rfl, rd.pk⟩
 rw [Ox];simp only [P5, Cf, E5, I5, D5, D8, decide_eq_true_eq]
 by_cases h8 : v.kind = 8
 ·rw [if_pos h8]
  have e : v.L6 = .mk v.kind 0 v.s F6 [] := by unfold Val.L6; rw [if_pos h8]
  rw [e] at main ⊢;exact main
 ·rw [if_neg h8]
  have e : v.L6 = .mk v.kind v.n v.s F6 [] := by unfold Val.L6; rw [if_neg h8]
  rw [e] at main ⊢;exact main
end Go.Su
