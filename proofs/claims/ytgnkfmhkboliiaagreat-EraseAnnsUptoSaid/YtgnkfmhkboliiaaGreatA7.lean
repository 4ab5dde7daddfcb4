/-
  Parts of the proof, merged: QLEraseAnns, LEraseAnns.
-/
import Derived.Test.YtgnkfmhkboliiaaGreatA3
import Derived.Test.YtgnkfmhkboliiaaGreatA4
import Derived.Test.YtgnkfmhkboliiaaGreatA5
import Derived.Test.YtgnkfmhkboliiaaGreatA6
set_option linter.unusedVariables false
set_option linter.unusedSimpArgs false
/-
 The functions' specs that this claim needs.
-/
namespace Go.Su
set_option linter.unusedVariables false
set_option linter.unusedSimpArgs false
theorem Ty.kid_big {t k : Ty} (ht : t.size ≤ lim) (h : k ∈ t.kids) : k.size ≤ lim := by have := Ty.size_kid h; omega
theorem Ty.len_big {t : Ty} (ht : t.size ≤ lim) : t.kids.length < 4294967296 := by have := t.len_lt; have := big ht; omega
theorem sp_r03_Size (t : Ty) : t.size ≤ lim → (run cfg).p F_r03_Size [t.enc] = some (.int .i64 t.size) := by
 induction t using Ty.ind with
 | h t ih =>
   intro ht
   have hb := Ty.len_big ht
   refine call_r03_Size _ ?_
   rw [eq_r03_Size]
   simp only [isAggN_Ty, og_true']
   have loop := loop_fold (l := t.kids) (P := fun i (a : Nat) => P_r03_Size_3h (run cfg) (.int .i64 a) (.int .i64 i) t.enc) (g := fun a k => a + k.size) (fin := fun a => some (.int .i64 a))
    (I := fun i a => a + ((t.kids.drop i).map Ty.size).sum ≤ lim)
    (fun a _ => by rw [eq_r03_Size_3h]; simp)
    (fun i h a ha => by
      rw [List.drop_eq_getElem_cons h, List.map_cons, List.sum_cons] at ha
      have := big ha
      refine ⟨?_, by omega⟩
      rw [eq_r03_Size_3h]
      simp [h, dIdx_map h, Ty.eta, Ty.ag, ih _ (List.getElem_mem h) (Ty.kid_big ht (List.getElem_mem h)), dAdd1 (show i < 9223372036854775807 by omega)]
      rw [dAdd (by omega) (by omega)]
      simp) 1 (by have := Ty.size_eq t; simpa using (by omega : 1 + (t.kids.map Ty.size).sum ≤ lim))
   have e : ∀ (l : List Ty) (a : Nat), l.foldl (fun a k => a + k.size) a = a + (l.map Ty.size).sum := by
    intro l
    induction l with
    | nil => intro a; simp
    | cons x l ih => intro a; simp [ih]; omega
   rw [e, ← Ty.size_eq] at loop
   exact loop
theorem sp_r03_In (l : List Int) (hl : l.length ≤ lim) (n : Int) : (run cfg).p F_r03_In [encInts l, .int .i64 n] = some (.bool (decide (n ∈ l))) := by
 have hb := big hl
 refine call_r03_In _ _ ?_
 rw [eq_r03_In]
 have loop := loop_anyB (l := l) (f := fun x => decide (x = n)) (P := fun i => P_r03_In_2h (run cfg) (encInts l) (.int .i64 n) (.int .i64 i))
  (by rw [eq_r03_In_2h]; simp)
  (fun i h => by
    rw [eq_r03_In_2h]
    simp [h, dIdx_ints h, dAdd1 (show i < 9223372036854775807 by omega)])
 refine loop.trans ?_
 congr 2
 rw [Bool.eq_iff_iff]
 simp
theorem sp_r03_vars (t : Ty) : ∀ (l : List Int) (sg : List SObj), l.length + t.size ≤ lim → (run cfg).r F_r03_vars [(t.enc, .val), (encInts l, .own)] sg = some ([encInts (t.varsOn l)], sg) := by
 induction t using Ty.ind with
 | h t ih =>
   intro l sg hl
   have hb := Ty.len_big (show t.size ≤ lim by omega)
   have hB := big hl
   refine call_r03_vars _ _ _ ?_
   have loop : ∀ l : List Int, l.length + (t.kids.map Ty.size).sum ≤ lim → P_r03_vars_4h (run cfg) (encInts l) (.int .i64 0) t.enc sg = some ([encInts (t.kids.foldl (fun l k => k.varsOn l) l)], sg) :=
    loop_fold (l := t.kids) (P := fun i (a : List Int) => P_r03_vars_4h (run cfg) (encInts a) (.int .i64 i) t.enc sg) (g := fun a k => k.varsOn a) (fin := fun a => some ([encInts a], sg))
     (I := fun i a => a.length + ((t.kids.drop i).map Ty.size).sum ≤ lim)
     (fun a _ => by rw [eq_r03_vars_4h]; simp)
     (fun i h a ha => by
       rw [List.drop_eq_getElem_cons h, List.map_cons, List.sum_cons] at ha
       have h1 := Ty.varsOn_len t.kids[i] a
       refine ⟨?_, by omega⟩
       rw [eq_r03_vars_4h]
       simp [h, dIdx_map h, Ty.eta, Ty.ag, ih _ (List.getElem_mem h) a sg (by omega), dAdd1 (show i < 9223372036854775807 by omega)])
   have hsz := Ty.size_eq t
   rw [eq_r03_vars, Ty.varsOn_eq]
   simp
   by_cases h6 : t.kind = 6
   ·simp [h6, sp_r03_In l (by omega) t.n]
    by_cases hn : t.n ∈ l
    ·simp [hn, eq_r03_vars_3, loop l (by omega)]
    ·simp [hn, eq_r03_vars_3]
     rw [show encInts l = .list 1 (l.map fun n => .int .i64 n) from rfl, dApp_list (by simp; omega)]
     simp
     have := loop (l ++ [t.n]) (by simp; omega)
     simpa [encInts] using this
   ·simp [h6, eq_r03_vars_3, loop l (by omega)]
theorem sp_r03_Vars (t : Ty) (ht : t.size ≤ lim) : (run cfg).p F_r03_Vars [t.enc] = some (encInts t.vars) := by
 refine call_r03_Vars _ ?_
 rw [eq_r03_Vars]
 have := sp_r03_vars t [] [] (by simpa using ht)
 have e : encInts [] = .list 1 [] := rfl
 rw [e] at this
 simp [Ty.eta, Ty.ag, this, Ty.vars]
theorem sp_l03_count (t : Ty) : ∀ n : Int, t.thin = true → 0 ≤ n → n ≤ 1048576 → ∃ m : Int, (run cfg).p F_l03_count [t.enc, .int .i64 n] = some (.int .i64 m) ∧ 0 ≤ m ∧ m ≤ max (n + 1) 601 := by
 induction t using Ty.ind with
 | h t ih =>
   intro n ht h0 h1
   have hb := t.thin_len ht
   have loop : ∀ m : Int, 0 ≤ m → m ≤ 1048577 → ∃ r : Int, P_l03_count_3h (run cfg) (.int .i64 m) (.int .i64 0) t.enc = some (.int .i64 r) ∧ 0 ≤ r ∧ r ≤ max m 601 := by
    have key : ∀ (k i : Nat) (m : Int), i + k = t.kids.length → 0 ≤ m → m ≤ 1048577 → ∃ r : Int, P_l03_count_3h (run cfg) (.int .i64 m) (.int .i64 i) t.enc = some (.int .i64 r) ∧ 0 ≤ r ∧ r ≤ max m 601 := by
     intro k
     induction k with
     | zero =>
       intro i m hi h0 h1
       rw [eq_l03_count_3h]
       have : ¬ i < t.kids.length := by omega
       exact ⟨m, by simp [this], h0, by omega⟩
     | succ k ihk =>
       intro i m hi h0 h1
       have h : i < t.kids.length := by omega
       rw [eq_l03_count_3h]
       by_cases hm : m ≤ 600
       ·obtain ⟨r, hr, hr0, hr1⟩ := ih _ (List.getElem_mem h) m (Ty.thin_kid ht (List.getElem_mem h)) h0 (by omega)
        obtain ⟨s, hs, hs0, hs1⟩ := ihk (i + 1) r (by omega) hr0 (by omega)
        push_cast at hs
        exact ⟨s, by simp [h, hm, dIdx_map h, Ty.eta, Ty.ag, hr, dAdd1 (show i < 9223372036854775807 by omega), hs], hs0, by omega⟩
       ·exact ⟨m, by simp [h, hm], h0, by omega⟩
    exact fun m h0 h1 => key t.kids.length 0 m (by omega) h0 h1
   obtain ⟨r, hr, hr0, hr1⟩ := loop (n + 1) (by omega) (by omega)
   refine ⟨r, call_l03_count _ _ ?_, hr0, hr1⟩
   rw [eq_l03_count]
   simp
   rw [dAdd (by omega) (by omega)]
   simpa using hr
theorem sp_l03_Heavy1 (t : Ty) (ht : t.thin = true) : ∃ b : Bool, (run cfg).p F_l03_Heavy [.list 3 [t.enc]] = some (.bool b) := by
 obtain ⟨m, h1, h2, h3⟩ := sp_l03_count t 0 ht (by omega) (by omega)
 refine ⟨decide (600 < m), call_l03_Heavy _ ?_⟩
 rw [eq_l03_Heavy, eq_l03_Heavy_3h]
 have e0 : dIdx 3 (.list 3 [t.enc]) (.int .i64 0) = some t.enc := by simp [dIdx]
 simp [e0, Ty.eta, Ty.ag, h1, dAdd (show (-9223372036854775808 : Int) ≤ 0 + 1 by omega) (by omega)]
 rw [eq_l03_Heavy_3h]
 simp
theorem sp_r08_Deep (t : Ty) : ∀ n : Int, -9223372036854775000 ≤ n → n ≤ 1000 → t.thin = true → (run cfg).p F_r08_Deep [t.enc, .int .i64 n] = some (.bool (t.deep n)) := by
 induction t using Ty.ind with
 | h t ih =>
   intro n hn0 hn ht
   have hb := t.thin_len ht
   refine call_r08_Deep _ _ ?_
   rw [eq_r08_Deep, Ty.deep_eq]
   simp
   by_cases h0 : n ≤ 0
   ·simp [h0]
   ·have loop := loop_anyB (l := t.kids) (f := fun k => k.deep (n - 1)) (P := fun i => P_r08_Deep_4h (run cfg) (.int .i64 n) (.int .i64 i) t.enc)
     (by rw [eq_r08_Deep_4h]; simp)
     (fun i h => by
       rw [eq_r08_Deep_4h]
       simp [h, dIdx_map h, Ty.eta, Ty.ag, dBin_sub, wrap_id (show (-9223372036854775808 : Int) ≤ n - 1 by omega) (by omega), ih _ (List.getElem_mem h) (n - 1) (by omega) (by omega) (Ty.thin_kid ht (List.getElem_mem h)), dAdd1 (show i < 9223372036854775807 by omega)])
    simp only [h0, decide_false, Bool.false_or]
    exact loop
theorem sp_l11_Small (ts : List Ty) (hl : ts.length ≤ lim) (h : ∀ t ∈ ts, t.size ≤ lim) : ∃ b : Bool, (run cfg).p F_l11_Small [.list 3 (ts.map Ty.enc)] = some (.bool b) := by
 have hb := big hl
 have loop : ∀ (n j : Nat), j + n = ts.length → ∃ b : Bool, P_l11_Small_2h (run cfg) (.list 3 (ts.map Ty.enc)) (.int .i64 j) = some (.bool b) := by
  intro n
  induction n with
  | zero =>
    intro j hj
    refine ⟨true, ?_⟩
    have : ¬ j < ts.length := by omega
    rw [eq_l11_Small_2h]
    simp [this]
  | succ n ih =>
    intro j hj
    have hj' : j < ts.length := by omega
    obtain ⟨b, hb'⟩ := ih (j + 1) (by omega)
    have hsz := h _ (List.getElem_mem hj')
    have hth := Ty.thin_of_size hsz
    obtain ⟨c, hc⟩ := sp_l03_Heavy1 ts[j] hth
    have hd := sp_r08_Deep ts[j] 60 (by omega) (by omega) hth
    have hv := sp_r03_Vars ts[j] hsz
    push_cast at hb'
    rw [eq_l11_Small_2h]
    cases c
    ·cases hdd : ts[j].deep 60
     ·by_cases hq : (8 : Int) < (ts[j].vars.length : Int)
      ·exact ⟨false, by simp [hj', dIdx_map hj', Ty.eta, Ty.ag, hc, hd, hdd, hv, hq]⟩
      ·exact ⟨b, by simp [hj', dIdx_map hj', Ty.eta, Ty.ag, hc, hd, hdd, hv, hq, dAdd1 (show j < 9223372036854775807 by omega), hb']⟩
     ·exact ⟨false, by simp [hj', dIdx_map hj', Ty.eta, Ty.ag, hc, hd, hdd]⟩
    ·exact ⟨false, by simp [hj', dIdx_map hj', Ty.eta, Ty.ag, hc]⟩
 obtain ⟨b, h1⟩ := loop ts.length 0 (by omega)
 refine ⟨b, call_l11_Small _ ?_⟩
 rw [eq_l11_Small]
 exact h1
theorem Ty.closed_none {t : Ty} (h : t.none = true) : t.closed = false := by
 rw [Ty.none_iff] at h
 subst h
 unfold Ty.closed
 rw [Ty.right_eq]
 simp [arity]
theorem sp_l05_countType (t : Ty) : t.thin = true → ∀ n : Int, 0 ≤ n → n ≤ 401 → ∃ m : Int, (run cfg).p F_l05_countType [t.enc, .int .i64 n] = some (.int .i64 m) ∧ n ≤ m ∧ m ≤ 401 := by
 induction t using Ty.ind with
 | h t ih =>
   intro ht n h0 h1
   have hb := t.thin_len ht
   have loop : ∀ (k j : Nat) (n : Int), j + k = t.kids.length → 0 ≤ n → n ≤ 401 → ∃ m : Int, P_l05_countType_2h (run cfg) (.int .i64 n) (.int .i64 j) t.enc = some (.int .i64 m) ∧ n ≤ m ∧ m ≤ 401 := by
    intro k
    induction k with
    | zero =>
      intro j n hj h0 h1
      refine ⟨n, ?_, Int.le_refl _, h1⟩
      have : ¬ j < t.kids.length := by omega
      rw [eq_l05_countType_2h]
      simp [this]
    | succ k ihk =>
      intro j n hj h0 h1
      have hj' : j < t.kids.length := by omega
      rw [eq_l05_countType_2h]
      by_cases hn : n ≤ 400
      ·have hadd : dBin .add (.int .i64 n) (.int .i64 1) = some (.int .i64 (n + 1)) := dAdd (by omega) (by omega)
       obtain ⟨m, a1, a2, a3⟩ := ih _ (List.getElem_mem hj') (Ty.thin_kid ht (List.getElem_mem hj')) (n + 1) (by omega) (by omega)
       obtain ⟨m', b1, b2, b3⟩ := ihk (j + 1) m (by omega) (by omega) a3
       push_cast at b1
       exact ⟨m', by simp [hj', hn, hadd, dIdx_map hj', Ty.eta, Ty.ag, a1, dAdd1 (show j < 9223372036854775807 by omega), b1], by omega, b3⟩
      ·exact ⟨n, by simp [hj', hn], Int.le_refl _, h1⟩
   obtain ⟨m, a1, a2, a3⟩ := loop t.kids.length 0 n (by omega) h0 h1
   refine ⟨m, call_l05_countType _ _ ?_, a2, a3⟩
   rw [eq_l05_countType]
   simp
   exact a1
theorem sp_l05_countPat (p : Pat) : p.thin = true → ∀ n : Int, 0 ≤ n → n ≤ 401 → ∃ m : Int, (run cfg).p F_l05_countPat [p.enc, .int .i64 n] = some (.int .i64 m) ∧ n ≤ m ∧ m ≤ 401 := by
 induction p using Pat.ind with
 | h p ih =>
   intro ht n h0 h1
   have hb := p.thin_len ht
   have loop : ∀ (k j : Nat) (n : Int), j + k = p.kids.length → 0 ≤ n → n ≤ 401 → ∃ m : Int, P_l05_countPat_4h (run cfg) (.int .i64 n) (.int .i64 j) p.enc = some (.int .i64 m) ∧ n ≤ m ∧ m ≤ 401 := by
    intro k
    induction k with
    | zero =>
      intro j n hj h0 h1
      refine ⟨n, ?_, Int.le_refl _, h1⟩
      have : ¬ j < p.kids.length := by omega
      rw [eq_l05_countPat_4h]
      simp [this]
    | succ k ihk =>
      intro j n hj h0 h1
      have hj' : j < p.kids.length := by omega
      rw [eq_l05_countPat_4h]
      by_cases hn : n ≤ 400
      ·have hadd : dBin .add (.int .i64 n) (.int .i64 1) = some (.int .i64 (n + 1)) := dAdd (by omega) (by omega)
       obtain ⟨m, a1, a2, a3⟩ := ih _ (List.getElem_mem hj') (Pat.thin_kid ht (List.getElem_mem hj')) (n + 1) (by omega) (by omega)
       obtain ⟨m', b1, b2, b3⟩ := ihk (j + 1) m (by omega) (by omega) a3
       push_cast at b1
       exact ⟨m', by simp [hj', hn, hadd, dIdx_map hj', Pat.eta, Pat.ag, a1, dAdd1 (show j < 9223372036854775807 by omega), b1], by omega, b3⟩
      ·exact ⟨n, by simp [hj', hn], Int.le_refl _, h1⟩
   by_cases c1 : (300 : Int) < (p.s.size : Int)
   ·refine ⟨401, call_l05_countPat _ _ ?_, h1, by omega⟩
    rw [eq_l05_countPat]
    simp [c1]
   by_cases c2 : (300 : Int) < (p.name.size : Int)
   ·refine ⟨401, call_l05_countPat _ _ ?_, h1, by omega⟩
    rw [eq_l05_countPat]
    simp [c1, c2]
   obtain ⟨m, a1, a2, a3⟩ := loop p.kids.length 0 n (by omega) h0 h1
   refine ⟨m, call_l05_countPat _ _ ?_, a2, a3⟩
   rw [eq_l05_countPat]
   simp [c1, c2]
   exact a1
theorem sp_l05_count (t : Ex) : t.fit → ∀ n : Int, 0 ≤ n → n ≤ 401 → ∃ m : Int, (run cfg).p F_l05_count [t.enc, .int .i64 n] = some (.int .i64 m) ∧ 0 ≤ m ∧ m ≤ 402 ∧ (n = 401 → 401 ≤ m) ∧ (m ≤ 400 → n + t.size ≤ m) := by
 induction t using Ex.ind with
 | h t ih =>
   intro ht n h0 h1
   have hk := big (Nat.le_of_lt ht.one.kids)
   have hp := big (Nat.le_of_lt ht.one.pats)
   have e12 : ∀ m : Int, 0 ≤ m → m ≤ 402 → ∃ m' : Int, P_l05_count_12 (run cfg) (.int .i64 m) t.enc = some (.int .i64 m') ∧ 0 ≤ m' ∧ m' ≤ 402 ∧ (m' = m ∨ m' = 401) := by
    intro m hm hm2
    rw [eq_l05_count_12]
    by_cases c1 : (300 : Int) < (t.s.size : Int)
    ·exact ⟨401, by simp [c1], by omega, by omega, .inr rfl⟩
    by_cases c2 : (300 : Int) < (t.name.size : Int)
    ·exact ⟨401, by simp [c1, c2], by omega, by omega, .inr rfl⟩
    by_cases c3 : (300 : Int) < (t.arg.size : Int)
    ·exact ⟨401, by simp [c1, c2, c3], by omega, by omega, .inr rfl⟩
    ·exact ⟨m, by simp [c1, c2, c3], hm, hm2, .inl rfl⟩
   have l9 : ∀ (k j : Nat) (n : Int), j + k = t.kids.length → 0 ≤ n → n ≤ 402 → ∃ m : Int, P_l05_count_9h (run cfg) (.int .i64 n) (.int .i64 j) t.enc = some (.int .i64 m) ∧ 0 ≤ m ∧ m ≤ 402 ∧ (401 ≤ n → 401 ≤ m) ∧ (m ≤ 400 → n + (((t.kids.drop j).map Ex.size).sum : Nat) ≤ m) := by
    intro k
    induction k with
    | zero =>
      intro j n hj h0 h1
      obtain ⟨m, a1, a2, a3, a4⟩ := e12 n h0 h1
      have : ¬ j < t.kids.length := by omega
      refine ⟨m, by rw [eq_l05_count_9h]; simp [this, a1], a2, a3, fun _ => by omega, fun hm => ?_⟩
      rw [List.drop_of_length_le (by omega)]
      simp
      omega
    | succ k ihk =>
      intro j n hj h0 h1
      have hj' : j < t.kids.length := by omega
      by_cases hn : n ≤ 400
      ·obtain ⟨m, a1, a2, a3, a4, a5⟩ := ih _ (List.getElem_mem hj') (ht.kid (List.getElem_mem hj')) n h0 (by omega)
       obtain ⟨m', b1, b2, b3, b4, b5⟩ := ihk (j + 1) m (by omega) a2 a3
       push_cast at b1
       refine ⟨m', by rw [eq_l05_count_9h]; simp [hj', hn, dIdx_map hj', Ex.eta, Ex.ag, a1, dAdd1 (show j < 9223372036854775807 by omega), b1], b2, b3, fun h => absurd h (by omega), fun hm => ?_⟩
       have g1 := b5 hm
       have g2 : m ≤ 400 := by
        by_cases h : m ≤ 400
        ·exact h
        ·have := b4 (by omega); omega
       have g3 := a5 g2
       rw [List.drop_eq_getElem_cons hj', List.map_cons, List.sum_cons]
       push_cast
       omega
      ·obtain ⟨m, a1, a2, a3, a4⟩ := e12 n h0 h1
       exact ⟨m, by rw [eq_l05_count_9h]; simp [hj', hn, a1], a2, a3, fun _ => by omega, fun hm => absurd hm (by omega)⟩
   have e8 : ∀ n : Int, 0 ≤ n → n ≤ 402 → ∃ m : Int, P_l05_count_8 (run cfg) (.int .i64 n) t.enc = some (.int .i64 m) ∧ 0 ≤ m ∧ m ≤ 402 ∧ (401 ≤ n → 401 ≤ m) ∧ (m ≤ 400 → n + ((t.kids.map Ex.size).sum : Nat) ≤ m) := by
    intro n h0 h1
    obtain ⟨m, a1, a2, a3, a4, a5⟩ := l9 t.kids.length 0 n (by omega) h0 h1
    exact ⟨m, by rw [eq_l05_count_8]; simpa using a1, a2, a3, a4, by simpa using a5⟩
   have l5 : ∀ (k j : Nat) (n : Int), j + k = t.pats.length → 0 ≤ n → n ≤ 402 → ∃ m : Int, P_l05_count_5h (run cfg) (.int .i64 n) (.int .i64 j) t.enc = some (.int .i64 m) ∧ 0 ≤ m ∧ m ≤ 402 ∧ (401 ≤ n → 401 ≤ m) ∧ (m ≤ 400 → n + ((t.kids.map Ex.size).sum : Nat) ≤ m) := by
    intro k
    induction k with
    | zero =>
      intro j n hj h0 h1
      obtain ⟨m, a1, a2, a3, a4, a5⟩ := e8 n h0 h1
      have : ¬ j < t.pats.length := by omega
      exact ⟨m, by rw [eq_l05_count_5h]; simp [this, a1], a2, a3, a4, a5⟩
    | succ k ihk =>
      intro j n hj h0 h1
      have hj' : j < t.pats.length := by omega
      by_cases hn : n ≤ 400
      ·obtain ⟨m, a1, a2, a3⟩ := sp_l05_countPat _ (Pat.fit_thin (ht.one.pat _ (List.getElem_mem hj'))) n h0 (by omega)
       obtain ⟨m', b1, b2, b3, b4, b5⟩ := ihk (j + 1) m (by omega) (by omega) (by omega)
       push_cast at b1
       refine ⟨m', by rw [eq_l05_count_5h]; simp [hj', hn, dIdx_map hj', Pat.eta, Pat.ag, a1, dAdd1 (show j < 9223372036854775807 by omega), b1], b2, b3, fun h => absurd h (by omega), fun hm => ?_⟩
       have := b5 hm
       omega
      ·obtain ⟨m, a1, a2, a3, a4, a5⟩ := e8 n h0 h1
       exact ⟨m, by rw [eq_l05_count_5h]; simp [hj', hn, a1], a2, a3, a4, a5⟩
   have hadd : dBin .add (.int .i64 n) (.int .i64 1) = some (.int .i64 (n + 1)) := dAdd (by omega) (by omega)
   by_cases hn1 : n + 1 ≤ 401
   ·obtain ⟨ma, a1, a2, a3⟩ := sp_l05_countType _ ht.one.a (n + 1) (by omega) hn1
    obtain ⟨mb, b1, b2, b3⟩ := sp_l05_countType _ ht.one.b ma (by omega) a3
    obtain ⟨m, c1, c2, c3, c4, c5⟩ := l5 t.pats.length 0 mb (by omega) (by omega) (by omega)
    refine ⟨m, call_l05_count _ _ ?_, c2, c3, fun h => absurd h (by omega), fun hm => ?_⟩
    ·rw [eq_l05_count]
     simp [hadd, Ty.eta, Ty.ag, a1, b1]
     exact c1
    ·have := c5 hm
     have := t.size_eq
     push_cast at *
     omega
   ·-- more than enough
    have hn : n = 401 := by omega
    subst hn
    have big402 : ∀ y : Ty, (run cfg).p F_l05_countType [y.enc, .int .i64 402] = some (.int .i64 402) := by
     intro y
     refine call_l05_countType _ _ ?_
     rw [eq_l05_countType]
     simp
     rw [eq_l05_countType_2h]
     by_cases h : 0 < y.kids.length <;> simp [h]
    obtain ⟨m, c1, c2, c3, c4, c5⟩ := l5 t.pats.length 0 402 (by omega) (by omega) (by omega)
    refine ⟨m, call_l05_count _ _ ?_, c2, c3, fun _ => c4 (by omega), fun hm => absurd (c4 (by omega)) (by omega)⟩
    rw [eq_l05_count]
    simp [hadd, Ty.eta, Ty.ag, big402]
    exact c1
theorem sp_l05_count_more (t : Ex) (ht : t.fit) (n : Int) (h0 : 401 ≤ n) (h1 : n ≤ 1000000) : ∃ m : Int, (run cfg).p F_l05_count [t.enc, .int .i64 n] = some (.int .i64 m) ∧ 401 ≤ m ∧ m ≤ n + 1 := by
 have hk := big (Nat.le_of_lt ht.one.kids)
 have hp := big (Nat.le_of_lt ht.one.pats)
 have hn : ¬ n + 1 ≤ 400 := by omega
 have e12 : ∃ m : Int, P_l05_count_12 (run cfg) (.int .i64 (n + 1)) t.enc = some (.int .i64 m) ∧ 401 ≤ m ∧ m ≤ n + 1 := by
  rw [eq_l05_count_12]
  by_cases c1 : (300 : Int) < (t.s.size : Int)
  ·exact ⟨401, by simp [c1], by omega, by omega⟩
  by_cases c2 : (300 : Int) < (t.name.size : Int)
  ·exact ⟨401, by simp [c1, c2], by omega, by omega⟩
  by_cases c3 : (300 : Int) < (t.arg.size : Int)
  ·exact ⟨401, by simp [c1, c2, c3], by omega, by omega⟩
  ·exact ⟨n + 1, by simp [c1, c2, c3], by omega, by omega⟩
 obtain ⟨m, a1, a2, a3⟩ := e12
 have e9 : P_l05_count_9h (run cfg) (.int .i64 (n + 1)) (.int .i64 0) t.enc = some (.int .i64 m) := by
  rw [eq_l05_count_9h]
  by_cases h : 0 < t.kids.length <;> simp [h, hn, a1]
 have e8 : P_l05_count_8 (run cfg) (.int .i64 (n + 1)) t.enc = some (.int .i64 m) := by
  rw [eq_l05_count_8]
  exact e9
 have e5 : P_l05_count_5h (run cfg) (.int .i64 (n + 1)) (.int .i64 0) t.enc = some (.int .i64 m) := by
  rw [eq_l05_count_5h]
  by_cases h : 0 < t.pats.length <;> simp [h, hn, e8]
 have big402 : ∀ y : Ty, (run cfg).p F_l05_countType [y.enc, .int .i64 (n + 1)] = some (.int .i64 (n + 1)) := by
  intro y
  refine call_l05_countType _ _ ?_
  rw [eq_l05_countType]
  simp
  rw [eq_l05_countType_2h]
  by_cases h : 0 < y.kids.length <;> simp [h, hn]
 have hadd : dBin .add (.int .i64 n) (.int .i64 1) = some (.int .i64 (n + 1)) := dAdd (by omega) (by omega)
 refine ⟨m, call_l05_count _ _ ?_, a2, a3⟩
 rw [eq_l05_count]
 simp [hadd, Ty.eta, Ty.ag, big402]
 exact e5
theorem sp_l05_Heavy (l : List Ex) (hl : l.length ≤ 16) (ft : ∀ t ∈ l, t.fit) : ∃ b : Bool, (run cfg).p F_l05_Heavy [.list 16 (l.map Ex.enc)] = some (.bool b) ∧ (b = false → (l.map Ex.size).sum ≤ 400) := by
 have loop : ∀ (k j : Nat) (n : Int), j + k = l.length → 0 ≤ n → n ≤ 500 + j → ∃ b : Bool, P_l05_Heavy_3h (run cfg) (.list 16 (l.map Ex.enc)) (.int .i64 n) (.int .i64 (j : Int)) = some (.bool b) ∧ (b = false → n + (((l.drop j).map Ex.size).sum : Nat) ≤ 400) := by
  intro k
  induction k with
  | zero =>
    intro j n hj h0 h1
    have : ¬ j < l.length := by omega
    refine ⟨decide (400 < n), ?_, fun h => ?_⟩
    ·rw [eq_l05_Heavy_3h]
     simp [this]
    ·rw [List.drop_of_length_le (by omega)]
     simp at h
     simp
     omega
  | succ k ih =>
    intro j n hj h0 h1
    have h : j < l.length := by omega
    obtain ⟨m, a1, a2, a3, a4⟩ : ∃ m : Int, (run cfg).p F_l05_count [l[j].enc, .int .i64 n] = some (.int .i64 m) ∧ 0 ≤ m ∧ m ≤ 500 + (j + 1 : Nat) ∧ (m ≤ 400 → n + l[j].size ≤ m) := by
     by_cases hn : n ≤ 400
     ·obtain ⟨m, a1, a2, a3, a4, a5⟩ := sp_l05_count _ (ft _ (List.getElem_mem h)) n h0 (by omega)
      exact ⟨m, a1, a2, by omega, a5⟩
     ·obtain ⟨m, a1, a2, a3⟩ := sp_l05_count_more _ (ft _ (List.getElem_mem h)) n (by omega) (by omega)
      exact ⟨m, a1, by omega, by omega, fun h => absurd h (by omega)⟩
    obtain ⟨b, hb, hb2⟩ := ih (j + 1) m (by omega) a2 a3
    push_cast at hb
    refine ⟨b, ?_, fun hf => ?_⟩
    ·rw [eq_l05_Heavy_3h]
     simp [h, dIdx_map h, Ex.eta, Ex.ag, a1, dAdd1 (show j < 9223372036854775807 by omega), hb]
    ·have g1 := hb2 hf
     rw [List.drop_eq_getElem_cons h, List.map_cons, List.sum_cons]
     have g2 := a4 (by omega)
     push_cast
     omega
 obtain ⟨b, hb, hb2⟩ := loop l.length 0 0 (by omega) (by omega) (by omega)
 refine ⟨b, call_l05_Heavy _ ?_, fun h => ?_⟩
 ·rw [eq_l05_Heavy]
  simpa using hb
 ·have := hb2 h
  simp at this
  omega
theorem dAddi {i : Nat} (h : i < 9223372036854775807) : dBin .add (.int .i64 (i : Int)) (.int .i64 1) = some (.int .i64 ((i : Int) + 1)) := by
 rw [dAdd1 h]
 rfl
theorem tyx (k : Ty) : (DV.agg [proj 0 k.enc, proj 1 k.enc, proj 2 k.enc]) = k.enc := by simp [Ty.eta, Ty.ag]
theorem sp_r05_anns (t : Ex) : t.fit → ∀ (l : List Ty) (sg : List SObj), l.length + t.anns.length ≤ lim → (run cfg).r F_r05_anns [(t.enc, .val), (.list 3 (l.map Ty.enc), .own)] sg = some ([.list 3 ((l ++ t.anns).map Ty.enc)], sg) := by
 induction t using Ex.ind with
 | h t ih =>
   intro ft l sg hl
   have hK := big (Nat.le_of_lt ft.one.kids)
   rw [Ex.anns_eq, List.length_append, List.length_append] at hl
   have l6 : ∀ l : List Ty, l.length + (t.kids.flatMap Ex.anns).length ≤ lim → P_r05_anns_6h (run cfg) (.list 3 (l.map Ty.enc)) (.int .i64 0) t.enc sg = some ([.list 3 ((t.kids.foldl (fun l k => l ++ k.anns) l).map Ty.enc)], sg) :=
    loop_fold (l := t.kids) (P := fun i (a : List Ty) => P_r05_anns_6h (run cfg) (.list 3 (a.map Ty.enc)) (.int .i64 i) t.enc sg) (g := fun a k => a ++ k.anns) (fin := fun a => some ([.list 3 (a.map Ty.enc)], sg))
     (I := fun i a => a.length + ((t.kids.drop i).flatMap Ex.anns).length ≤ lim)
     (fun a _ => by rw [eq_r05_anns_6h]; simp)
     (fun i h a ha => by
       rw [List.drop_eq_getElem_cons h, List.flatMap_cons, List.length_append] at ha
       refine ⟨?_, by rw [List.length_append]; omega⟩
       have g := ih _ (List.getElem_mem h) (ft.kid (List.getElem_mem h)) a sg (by omega)
       rw [eq_r05_anns_6h]
       simp only [Ex.proj15, dLen_list, List.length_map, dBin_lss, Int.ofNat_lt, h, decide_true, ob_some', oif_bool, if_true, dIdx_map h, Ex.pj, Ex.eta, Ex.ag, g, dAddi (show i < 9223372036854775807 by omega), List.getD_cons_zero])
   have fl : ∀ (ks : List Ex) (l : List Ty), ks.foldl (fun l k => l ++ k.anns) l = l ++ ks.flatMap Ex.anns := by
    intro ks
    induction ks with
    | nil => intro l; simp
    | cons k ks ihk => intro l; rw [List.foldl_cons, ihk, List.flatMap_cons, List.append_assoc]
   simp only [fl] at l6
   have app : ∀ (l : List Ty) (x : Ty), l.length < lim → dApp 3 (.list 3 (l.map Ty.enc)) (.list 3 [x.enc]) = some (.list 3 ((l ++ [x]).map Ty.enc)) := fun l x h => dApp_map h
   have l3 : ∀ l : List Ty, l.length + t.b.anns.length + (t.kids.flatMap Ex.anns).length ≤ lim → P_r05_anns_3 (run cfg) (.list 3 (l.map Ty.enc)) t.enc sg = some ([.list 3 ((l ++ t.b.anns ++ t.kids.flatMap Ex.anns).map Ty.enc)], sg) := by
    intro l hl
    rw [eq_r05_anns_3]
    unfold Ty.anns at hl ⊢
    cases hn : t.b.none
    ·rw [hn] at hl
     simp only [Bool.false_eq_true, if_false, List.length_cons, List.length_nil] at hl
     have := l6 (l ++ [t.b]) (by rw [List.length_append, List.length_singleton]; omega)
     simp only [Ex.proj11, Ex.proj12, Ex.proj13, Ty.eta, Ty.ag, sp_r03_None, hn, dUn_not, Bool.not_false, ob_some', oif_bool, if_true, app l t.b (by omega), this, Bool.false_eq_true, if_false]
    ·rw [hn] at hl
     simp only [if_true, List.length_nil] at hl
     simp only [Ex.proj11, Ex.proj12, Ex.proj13, Ty.eta, Ty.ag, sp_r03_None, hn, dUn_not, Bool.not_true, ob_some', oif_bool, Bool.false_eq_true, if_false, l6 l (by omega), if_true, List.append_nil]
   refine call_r05_anns _ _ _ ?_
   rw [eq_r05_anns, Ex.anns_eq]
   cases hn : t.a.none
   ·have e : t.a.anns = [t.a] := by unfold Ty.anns; rw [hn]; rfl
    rw [e] at hl ⊢
    simp only [List.length_cons, List.length_nil] at hl
    have := l3 (l ++ [t.a]) (by rw [List.length_append, List.length_singleton]; omega)
    simp only [isAggN_Ex, og_true', Ex.proj8, Ex.proj9, Ex.proj10, Ty.eta, Ty.ag, sp_r03_None, hn, dUn_not, Bool.not_false, ob_some', oif_bool, if_true, app l t.a (by omega), this]
    simp only [List.append_assoc]
   ·have e : t.a.anns = [] := by unfold Ty.anns; rw [hn]; rfl
    rw [e] at hl ⊢
    simp only [List.length_nil] at hl
    simp only [isAggN_Ex, og_true', Ex.proj8, Ex.proj9, Ex.proj10, Ty.eta, Ty.ag, sp_r03_None, hn, dUn_not, Bool.not_true, ob_some', oif_bool, Bool.false_eq_true, if_false, l3 l (by omega)]
    simp only [List.append_assoc, List.nil_append]
theorem sp_r05_Anns (t : Ex) (ft : t.fit) (hm : t.mass ≤ lim) : (run cfg).p F_r05_Anns [t.enc] = some (.list 3 (t.anns.map Ty.enc)) := by
 refine call_r05_Anns _ ?_
 rw [eq_r05_Anns]
 have := sp_r05_anns t ft [] [] (by have := t.anns_mass; simp; omega)
 simp only [List.map_nil, List.nil_append] at this
 simp only [isAggN_Ex, og_true', exx, this, ob_some', List.getD_cons_zero]
theorem dIdx_head (x : Ty) (l : List Ty) : dIdx 3 (.list 3 ((x :: l).map Ty.enc)) (.int .i64 0) = some x.enc := rfl
theorem dSlice_tail (x : Ty) (l : List Ty) : dSlice 3 (.list 3 ((x :: l).map Ty.enc)) (some (.int .i64 1)) none = some (.list 3 (l.map Ty.enc)) := by
 simp [dSlice, bnd]
 rw [List.take_of_length_le (by simp)]
theorem take_cases {t : Ty} {l : List Ty} (h : t.anns.length ≤ l.length) : (t.none = true ∧ t.takeA l = t ∧ l.drop t.anns.length = l) ∨ ∃ x l', t.none = false ∧ l = x :: l' ∧ t.takeA l = x ∧ l.drop t.anns.length = l' := by
 unfold Ty.takeA Ty.anns at *
 cases hn : t.none
 ·rw [hn] at h
  simp only [Bool.false_eq_true, if_false, List.length_cons, List.length_nil] at h
  cases l with
  | nil => simp at h
  | cons x l' => exact .inr ⟨x, l', rfl, rfl, by simp, by simp⟩
 ·exact .inl ⟨rfl, by simp, by simp⟩
noncomputable def Ex.withA (t : Ex) (l : List Ty) : DV :=
 if t.right = true ∧ l.all Ty.closed = true then (if t.anns.length = l.length then .tup [(t.wput l).enc, .int .i64 0] else .tup [zeroEx.enc, .int .i64 2]) else .tup [zeroEx.enc, .int .i64 1]
theorem zeroEx_agg2 (e : Int) : DV.tup [.agg [.int .i64 0, .int .i64 0, .int .i64 0, .str ⟨#[]⟩, .str ⟨#[]⟩, .int .i64 0, .str ⟨#[]⟩, .int .i64 0, .int .i64 0, .int .i64 0, .list 3 [], .int .i64 0, .int .i64 0, .list 3 [], .list 7 [], .list 16 []], .int .i64 e] = .tup [zeroEx.enc, .int .i64 e] := by
 rw [zeroEx_agg]
theorem sp_r05_with (t : Ex) : t.fit → ∀ l : List Ty, t.anns.length ≤ l.length → (run cfg).p F_r05_with [t.enc, .list 3 (l.map Ty.enc)] = some (.tup [(t.wput l).enc, .list 3 ((l.drop t.anns.length).map Ty.enc)]) := by
 induction t using Ex.ind with
 | h t ih =>
   intro ft l hl
   have hk := ft.one.kids
   have hK := big (Nat.le_of_lt hk)
   rw [Ex.anns_eq, List.length_append, List.length_append] at hl
   have l7 : ∀ (a b : Ty) (n j : Nat) (done : List Ex) (l : List Ty), j + n = t.kids.length → done.length = j → ((t.kids.drop j).flatMap Ex.anns).length ≤ l.length →
    P_r05_with_9h (run cfg) (.list 3 (l.map Ty.enc)) (.list 16 (done.map Ex.enc)) (.int .i64 (j : Int)) (.int .i64 t.kind) (.int .i64 t.lo) (.int .i64 t.hi) (.str t.name) (.str t.arg) (.int .i64 t.n) (.str t.s) (.int .i64 t.op) (.int .i64 a.kind) (.int .i64 a.n) (.list 3 (a.kids.map Ty.enc)) (.int .i64 b.kind) (.int .i64 b.n) (.list 3 (b.kids.map Ty.enc)) (.list 7 (t.pats.map Pat.enc)) (.list 16 (t.kids.map Ex.enc)) =
    some (.tup [(Ex.mk t.kind t.lo t.hi t.name t.arg t.n t.s t.op a b t.pats (done ++ Ex.wputL (t.kids.drop j) l)).enc, .list 3 ((l.drop ((t.kids.drop j).flatMap Ex.anns).length).map Ty.enc)]) := by
    intro a b n
    induction n with
    | zero =>
      intro j done l hj hd _
      have e : j = t.kids.length := by omega
      subst e
      rw [eq_r05_with_9h, List.drop_length, Ex.wputL_nil, List.append_nil, Ex.enc_eq (Ex.mk _ _ _ _ _ _ _ _ _ _ _ _)]
      simp only [dLen_list, List.length_map, dBin_lss, Int.lt_irrefl, decide_false, ob_some', oif_bool, Bool.false_eq_true, if_false]
      rfl
    | succ n ihn =>
      intro j done l hj hd hl
      have h : j < t.kids.length := by omega
      rw [List.drop_eq_getElem_cons h, List.flatMap_cons, List.length_append] at hl
      have f1 := ih _ (List.getElem_mem h) (ft.kid (List.getElem_mem h)) l (by omega)
      have nx := ihn (j + 1) (done ++ [t.kids[j].wput l]) (l.drop t.kids[j].anns.length) (by omega) (by rw [List.length_append, List.length_singleton]; omega) (by rw [List.length_drop]; omega)
      have ap := dApp_map (e := Ex.enc) (sz := 16) (l := done) (x := t.kids[j].wput l) (by omega)
      rw [eq_r05_with_9h]
      simp only [dLen_list, List.length_map, dBin_lss, Int.ofNat_lt, h, decide_true, ob_some', oif_bool, if_true, dIdx_map h, exx, f1, dExt_0, dExt_1, isAggN_Ex, og_true', ap, dAdd1 (show j < 9223372036854775807 by omega)]
      rw [nx, List.drop_eq_getElem_cons h, Ex.wputL_cons, List.flatMap_cons, List.length_append, List.drop_drop, List.append_assoc]
      rfl
   have l5 : ∀ (a b : Ty) (l : List Ty), (t.kids.flatMap Ex.anns).length ≤ l.length → P_r05_with_7 (run cfg) (.list 3 (l.map Ty.enc)) (.int .i64 t.kind) (.int .i64 t.lo) (.int .i64 t.hi) (.str t.name) (.str t.arg) (.int .i64 t.n) (.str t.s) (.int .i64 t.op) (.int .i64 a.kind) (.int .i64 a.n) (.list 3 (a.kids.map Ty.enc)) (.int .i64 b.kind) (.int .i64 b.n) (.list 3 (b.kids.map Ty.enc)) (.list 7 (t.pats.map Pat.enc)) (.list 16 (t.kids.map Ex.enc)) =
    some (.tup [(Ex.mk t.kind t.lo t.hi t.name t.arg t.n t.s t.op a b t.pats (Ex.wputL t.kids l)).enc, .list 3 ((l.drop (t.kids.flatMap Ex.anns).length).map Ty.enc)]) := by
    intro a b l hl
    rw [eq_r05_with_7]
    have := l7 a b t.kids.length 0 [] l (by omega) rfl (by rw [List.drop_zero]; exact hl)
    simpa using this
   have l3 : ∀ (a : Ty) (l : List Ty), t.b.anns.length + (t.kids.flatMap Ex.anns).length ≤ l.length → P_r05_with_4 (run cfg) (.list 3 (l.map Ty.enc)) (.int .i64 t.kind) (.int .i64 t.lo) (.int .i64 t.hi) (.str t.name) (.str t.arg) (.int .i64 t.n) (.str t.s) (.int .i64 t.op) (.int .i64 a.kind) (.int .i64 a.n) (.list 3 (a.kids.map Ty.enc)) (.int .i64 t.b.kind) (.int .i64 t.b.n) (.list 3 (t.b.kids.map Ty.enc)) (.list 7 (t.pats.map Pat.enc)) (.list 16 (t.kids.map Ex.enc)) =
    some (.tup [(Ex.mk t.kind t.lo t.hi t.name t.arg t.n t.s t.op a (t.b.takeA l) t.pats (Ex.wputL t.kids (l.drop t.b.anns.length))).enc, .list 3 (((l.drop t.b.anns.length).drop (t.kids.flatMap Ex.anns).length).map Ty.enc)]) := by
    intro a l hl
    rw [eq_r05_with_4]
    have e : DV.agg [.int .i64 t.b.kind, .int .i64 t.b.n, .list 3 (t.b.kids.map Ty.enc)] = t.b.enc := Ty.eta t.b
    rcases take_cases (t := t.b) (l := l) (by omega) with ⟨h1, h2, h3⟩ | ⟨x, l', h1, h2, h3, h4⟩
    ·rw [h2, h3]
     simp only [e, sp_r03_None, h1, dUn_not, Bool.not_true, ob_some', oif_bool, Bool.false_eq_true, if_false]
     exact l5 a t.b l (by rw [← h3, List.length_drop]; omega)
    ·rw [h3, h4]
     have := l5 a x l' (by rw [← h4, List.length_drop]; omega)
     rw [h2]
     simp only [e, sp_r03_None, h1, dUn_not, Bool.not_false, ob_some', oif_bool, if_true, dIdx_head, dSlice_tail, Ty.proj0, Ty.proj1, Ty.proj2]
     exact this
   refine call_r05_with _ _ ?_
   rw [eq_r05_with, Ex.wput_eq]
   have ed : l.drop t.anns.length = ((l.drop t.a.anns.length).drop t.b.anns.length).drop (t.kids.flatMap Ex.anns).length := by
    rw [Ex.anns_eq, List.length_append, List.length_append, List.drop_drop, List.drop_drop, Nat.add_assoc]
   rw [ed, show l.drop (t.a.anns.length + t.b.anns.length) = (l.drop t.a.anns.length).drop t.b.anns.length by rw [List.drop_drop]]
   have e : DV.agg [.int .i64 t.a.kind, .int .i64 t.a.n, .list 3 (t.a.kids.map Ty.enc)] = t.a.enc := Ty.eta t.a
   have hd : t.b.anns.length + (t.kids.flatMap Ex.anns).length ≤ (l.drop t.a.anns.length).length := by rw [List.length_drop]; omega
   rcases take_cases (t := t.a) (l := l) (by omega) with ⟨h1, h2, h3⟩ | ⟨x, l', h1, h2, h3, h4⟩
   ·rw [h3] at hd
    rw [h2, h3]
    simp only [isAggN_Ex, og_true', Ex.pj, e, sp_r03_None, h1, dUn_not, Bool.not_true, ob_some', oif_bool, Bool.false_eq_true, if_false]
    exact l3 t.a l hd
   ·rw [h4] at hd
    rw [h3, h4]
    have := l3 x l' hd
    rw [h2]
    simp only [isAggN_Ex, og_true', Ex.pj, e, sp_r03_None, h1, dUn_not, Bool.not_false, ob_some', oif_bool, if_true, dIdx_head, dSlice_tail, Ty.proj0, Ty.proj1, Ty.proj2]
    exact this
theorem sp_r05_With (t : Ex) (ft : t.fit) (hm : t.mass ≤ lim) (l : List Ty) (hl : l.length ≤ lim) (hlt : ∀ x ∈ l, x.thin = true) : (run cfg).p F_r05_With [t.enc, .list 3 (l.map Ty.enc)] = some (t.withA l) := by
 have hL := big hl
 refine call_r05_With _ _ ?_
 rw [eq_r05_With]
 unfold Ex.withA
 simp only [isAggN_Ex, og_true', exx, sp_r05_Right t ft, ob_some', dUn_not, zeroEx_agg2]
 cases rt : t.right
 ·simp
 have z := sp_r05_Anns t ft hm
 have loop := loop_all (l := l) (f := Ty.closed) (P := fun i => P_r05_With_4h (run cfg) (.list 3 (l.map Ty.enc)) (.int .i64 i) t.enc)
  (y := if t.anns.length = l.length then .tup [(t.wput l).enc, .int .i64 0] else .tup [zeroEx.enc, .int .i64 2]) (n := .tup [zeroEx.enc, .int .i64 1])
  (by
    rw [eq_r05_With_4h]
    simp only [dBin_lss, Int.lt_irrefl, decide_false, ob_some', oif_bool, Bool.false_eq_true, if_false, exx, z, dLen_list, List.length_map, dBin_neq, zeroEx_agg2]
    by_cases h : t.anns.length = l.length
    ·have p := sp_r05_with t ft l (Nat.le_of_eq h)
     simp only [h, decide_true, Bool.not_true, Bool.false_eq_true, if_false, p, ob_some', dExt_0, dExt_1, isAggN_Ex, og_true', exx, if_true]
    ·have h' : ¬ ((l.length : Int) = (t.anns.length : Int)) := by omega
     simp only [h, h', decide_false, Bool.not_false, if_true, if_false])
  (fun i h => by
    rw [eq_r05_With_4h]
    simp only [dLen_list, List.length_map, dBin_lss, Int.ofNat_lt, h, decide_true, ob_some', oif_bool, if_true, dIdx_map h, tyx, sp_r03_None, sp_r05_note _ (hlt _ (List.getElem_mem h)), dUn_not, dAddi (show i < 9223372036854775807 by omega), zeroEx_agg2]
    cases hn : l[i].none
    ·cases l[i].closed <;> simp
    ·rw [Ty.closed_none hn]
     simp)
 simp only [if_true, Bool.not_true, oif_bool, Bool.false_eq_true, if_false, true_and]
 exact loop
theorem sp_keep_Int (x : Int) (n : Nat) (h0 : 0 < n) (h1 : n ≤ lim) : ∃ r : Nat, r < n ∧ (run cfg).p F_keep_Int [.int .i64 x, .int .i64 n] = some (.int .i64 r) := by
 have hb := big h1
 have hn : ¬ ((n : Int) < 1) := by omega
 have hu : IntKind.u64.wrap (n : Int) = n := Go.IntWalk.u64_in _ ⟨by omega, by omega⟩
 have hx : 0 ≤ IntKind.u64.wrap x := by
  simp [IntKind.wrap, IntKind.bits, IntKind.signed]; omega
 generalize hw : IntKind.u64.wrap x = w at hx
 have hr1 : 0 ≤ w.tmod n := Int.tmod_nonneg _ hx
 have hr2 : w.tmod n < n := Int.tmod_lt_of_pos _ (by omega)
 refine ⟨(w.tmod n).toNat, by omega, call_keep_Int _ _ ?_⟩
 have hrem : dBin .rem (.int .u64 w) (.int .u64 (n : Int)) = some (.int .u64 (w.tmod n)) := by
  have : ¬ ((n : Int) = 0) := by omega
  simp [dBin, isShift, dArith]
  omega
 have hi : IntKind.i64.wrap (w.tmod n) = w.tmod n := Go.IntWalk.i64_in _ ⟨by omega, by omega⟩
 have hc : ((w.tmod n).toNat : Int) = w.tmod n := by omega
 rw [eq_keep_Int]
 simp only [dBin_lss, hn, decide_false, ob_some', oif_bool, Bool.false_eq_true, if_false, dConv, hw, hu, hrem, hi, hc]
end Go.Su

/-
 The law EraseAnns answers true on data.
-/
namespace Go.Su
set_option linter.unusedVariables false
set_option linter.unusedSimpArgs false
theorem dBin_rem_nat {a b : Nat} (ha : a < 9223372036854775807) (h : 0 < b) : dBin .rem (.int .i64 (a : Int)) (.int .i64 (b : Int)) = some (.int .i64 ((a % b : Nat) : Int)) := by
 have hb : ¬ ((b : Int) = 0) := by omega
 show (if (b : Int) = 0 then none else some (DV.int .i64 ((a : Int).tmod (b : Int)))) = _
 rw [if_neg hb, Int.tmod_eq_emod_of_nonneg (by omega)]
 rfl
theorem law_eraseanns (e : Ex) (l : List Ty) (f : Int) (hm : e.mass + (l.map Ty.size).sum ≤ 1048576) : (run cfg).p F_l26_EraseAnns [e.enc, .list 3 (l.map Ty.enc), .int .i64 f] = some (.bool true) := by
 have fe : e.fit := Ex.fit_mass (by omega)
 have me : e.mass ≤ lim := by unfold lim; omega
 have me2 : 2 * e.mass ≤ lim := by unfold lim; omega
 obtain ⟨b1, h1, h1'⟩ := sp_l05_Heavy [e] (by simp) (by simp [fe])
 simp only [List.map_cons, List.map_nil] at h1
 have le : e.lean 1080576 := Ex.lean.le (by omega) (Ex.lean_of e)
 obtain ⟨F, hF, hk⟩ := sp_keep_Int f 150 (by omega) (by unfold lim; omega)
 have hk : (run cfg).p F_keep_Int [.int .i64 f, .int .i64 150] = some (.int .i64 (F : Int)) := hk
 have hll0 := len_sum (l := l) Ty.size_pos
 have hll : l.length ≤ lim := by unfold lim; omega
 have lsz : ∀ x ∈ l, x.size ≤ 1048576 := fun x hx => by have := mem_sum (f := Ty.size) hx; omega
 have lth : ∀ x ∈ l, x.thin = true := fun x hx => Ty.thin_of_size (by have := lsz x hx; unfold lim; omega)
 have A := sp_r05_Anns e fe me
 refine call_l26_EraseAnns _ _ _ ?_
 rw [eq_l26_EraseAnns]
 simp only [exx, isAggN_Ex, og_true', h1, ob_some', ogd_bool, sp_r05_Right e fe, dUn_not, A, dLen_list, List.length_map, dBin_eql]
 cases b1
 rotate_left
 ·simp
 have hz := h1' rfl
 simp only [List.map_cons, List.map_nil, List.sum_cons, List.sum_nil, Nat.add_zero] at hz
 have an := e.anns_size
 by_cases rt : e.right = true
 rotate_left
 ·simp [rt]
 by_cases a0 : (e.anns.length : Int) = 0
 ·simp [rt, a0]
 by_cases l0 : (l.length : Int) = 0
 ·simp [rt, a0, l0]
 simp only [rt, a0, l0, Bool.not_true, Bool.false_eq_true, if_false, decide_false, oif_bool]
 have lp : 0 < l.length := by omega
 have fin : ∀ acc : List Ty, acc.length = e.anns.length → (∀ x ∈ acc, x.thin = true ∧ x.size ≤ 40) → P_l26_EraseAnns_5h (run cfg) (.list 3 (l.map Ty.enc)) (.int .i64 f) (.list 3 (acc.map Ty.enc)) (.int .i64 (e.anns.length : Int)) e.enc = some (.bool true) := by
  intro acc ha hc
  have W := sp_r05_With e fe me acc (by rw [ha]; unfold lim; omega) fun x hx => (hc x hx).1
  rw [eq_l26_EraseAnns_5h]
  simp only [exx, A, dLen_list, List.length_map, ob_some', dBin_lss, Int.lt_irrefl, decide_false, oif_bool, Bool.false_eq_true, if_false, W]
  by_cases ok : e.right = true ∧ acc.all Ty.closed = true
  rotate_left
  ·have wa : e.withA acc = .tup [zeroEx.enc, .int .i64 1] := by unfold Ex.withA; rw [if_neg ok]
   simp only [wa, dExt_0, dExt_1, ob_some', isAggN_Ex, og_true', dBin_neq, Int.reduceEq, decide_false, Bool.not_false, oif_bool, if_true]
  have wa : e.withA acc = .tup [(e.wput acc).enc, .int .i64 0] := by unfold Ex.withA; rw [if_pos ok, if_pos ha.symm]
  obtain ⟨re, hcl⟩ := ok
  have hcl' : ∀ x ∈ acc, x.closed = true := List.all_eq_true.1 hcl
  have hn' : ∀ x ∈ acc, x.none = false := fun x hx => by
   cases h : x.none
   ·rfl
   ·have := Ty.closed_none h
    rw [hcl' x hx] at this
    cases this
  obtain ⟨b, hb, ht⟩ := sp_r23_TamePlain 1080576 (by omega) e fe me2 le (F : Int) (by omega)
  simp only [wa, dExt_0, dExt_1, ob_some', isAggN_Ex, og_true', dBin_neq, decide_true, Bool.not_true, oif_bool, Bool.false_eq_true, if_false, hk, exx, hb, dUn_not]
  cases b
  ·simp
  have hF2 : (F : Int) = min (max (F : Int) 0) 65536 := by omega
  have tm : e.cl → e.tame F := fun h => by simpa using ht rfl h
  have sumle : ((acc.take e.anns.length).map Ty.size).sum ≤ 40 * acc.length := by
   rw [← ha, List.take_length]
   have key : ∀ ks : List Ty, (∀ k ∈ ks, k.size ≤ 40) → (ks.map Ty.size).sum ≤ 40 * ks.length := by
    intro ks
    induction ks with
    | nil => simp
    | cons k ks ihk =>
      intro h
      have h1 := h k (List.mem_cons_self ..)
      have h2 := ihk fun x hx => h x (List.mem_cons_of_mem _ hx)
      simp only [List.map_cons, List.sum_cons, List.length_cons]
      omega
   exact key acc fun x hx => (hc x hx).2
  have wm := e.wput_mass acc
  have gm : (e.wput acc).mass ≤ 1080576 := by omega
  have fg : (e.wput acc).fit := Ex.fit_mass (by omega)
  have lg : (e.wput acc).lean 1080576 := Ex.lean.le gm (Ex.lean_of _)
  have rg := e.wput_right acc (by omega) hcl' hn' re
  have frg := e.wput_free acc
  have tg : (e.wput acc).cl → (e.wput acc).tame F := fun h => by
   have h2 := tm ⟨re, by rw [← frg]; exact h.2⟩
   rw [← Ex.tame_strip, Ex.wput_strip, Ex.tame_strip]
   exact h2
  have R1 := sp_erase_Run 1080576 (by omega) e fe me2 (F : Int) F hF2 le tm
  have R2 := sp_erase_Run 1080576 (by omega) (e.wput acc) fg (by unfold lim; omega) (F : Int) F hF2 lg tg
  have eq : (e.wput acc).RunE F = e.RunE F := by
   unfold Ex.RunE
   rw [frg, rg, re, ← Ex.runE_strip F 0 (e.wput acc), Ex.wput_strip, Ex.runE_strip]
  rw [eq] at R2
  have same := sp_r23_SameResult_self (e.RunE F) (e.RunE F) (Ex.RunE_plain 1080576 F e (by omega) le) rfl
  simp only [Bool.not_true, Bool.false_eq_true, if_false, R1, R2, ob_some', isAggN_Res, og_true', rslt_eta, same, ogd_bool, if_true]
  simp only [rslt_steps, dBin_eql, decide_true, ob_some', ogd_bool, if_true, w26_wakes]
 have loop : ∀ (n i : Nat) (acc : List Ty), i + n = e.anns.length → acc.length = i → (∀ x ∈ acc, x.thin = true ∧ x.size ≤ 40) → P_l26_EraseAnns_5h (run cfg) (.list 3 (l.map Ty.enc)) (.int .i64 f) (.list 3 (acc.map Ty.enc)) (.int .i64 (i : Int)) e.enc = some (.bool true) := by
  intro n
  induction n with
  | zero =>
    intro i acc hi ha hc
    have hi2 : i = e.anns.length := by omega
    subst hi2
    exact fin acc ha hc
  | succ n ih =>
    intro i acc hi ha hc
    have h : (i : Int) < (e.anns.length : Int) := by omega
    have hr := dBin_rem_nat (a := i) (b := l.length) (by omega) lp
    have hlt : i % l.length < l.length := Nat.mod_lt _ lp
    have mem := List.getElem_mem hlt
    have ts := lsz _ mem
    have th := lth _ mem
    obtain ⟨s1, S⟩ := sp_l11_Small [l[i % l.length]] (by simp [lim]) (by intro t h; rw [List.mem_singleton.1 h]; unfold lim; omega)
    simp only [List.map_cons, List.map_nil] at S
    have e1 : dBin .add (.int .i64 (i : Int)) (.int .i64 1) = some (.int .i64 ((i + 1 : Nat) : Int)) := dAdd1 (show i < 9223372036854775807 by omega)
    have ap := dApp_map (e := Ty.enc) (sz := 3) (l := acc) (x := l[i % l.length]) (by unfold lim; omega)
    rw [eq_l26_EraseAnns_5h]
    simp only [exx, A, dLen_list, List.length_map, ob_some', dBin_lss, h, decide_true, oif_bool, if_true, hr, dIdx_map hlt, tyx, S, dUn_not, ogd_bool, sp_r03_Right _ th, sp_r03_Without 6 _ th, sp_r03_Size _ (show (l[i % l.length]).size ≤ lim by unfold lim; omega), dBin_gtr, ap, e1]
    cases s1
    ·simp
    cases (l[i % l.length]).right
    ·simp
    cases (l[i % l.length]).without 6
    ·simp
    by_cases h40 : (40 : Int) < ((l[i % l.length]).size : Int)
    ·simp [h40]
    ·simp only [Bool.not_true, Bool.false_eq_true, if_false, h40, decide_false]
     refine ih (i + 1) (acc ++ [l[i % l.length]]) (by omega) (by simp; omega) fun x hx => ?_
     rcases List.mem_append.1 hx with g | g
     ·exact hc x g
     ·rw [List.mem_singleton.1 g]
      exact ⟨th, by omega⟩
 exact loop e.anns.length 0 [] (by omega) rfl (by simp)
end Go.Su
