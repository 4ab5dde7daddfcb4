/-
  Parts of the proof, merged: QLTermArgs, LTermArgs.
-/
import Derived.KernelRfl
import Derived.Test.YtcdfkkiomocmpaaA4
import Derived.Test.YtcdfkkiomocmpaaA5
set_option linter.unusedVariables false
set_option linter.unusedSimpArgs false
/-
  The functions' specs that this claim needs.
-/
namespace Go.Su
set_option linter.unusedVariables false
set_option linter.unusedSimpArgs false

theorem big {n : Nat} (h : n ≤ lim) : n < 4294967297 := by unfold lim at h; omega

theorem Ty.kid_big {t k : Ty} (ht : t.size ≤ lim) (h : k ∈ t.kids) : k.size ≤ lim := by have := Ty.size_kid h; omega

theorem Ty.len_big {t : Ty} (ht : t.size ≤ lim) : t.kids.length < 4294967296 := by have := t.len_lt; have := big ht; omega

theorem sp_r03_Kids (k : Int) : (run cfg).p F_r03_Kids [.int .i64 k] = some (.int .i64 (arity k)) := by
  refine call_r03_Kids _ ?_
  rw [eq_r03_Kids]
  simp [arity]
  by_cases h1 : k = 1 <;> by_cases h2 : k = 2 <;> by_cases h3 : k = 3 <;> by_cases h4 : k = 4 <;> by_cases h5 : k = 5 <;> by_cases h6 : k = 6 <;> by_cases h7 : k = 7 <;> by_cases h8 : k = 8 <;> by_cases h9 : k = 9 <;> simp_all

theorem sp_typ_arity (k : Int) : (run cfg).p F_typ_arity [.int .i64 k] = some (.int .i64 (arity k)) := by
  refine call_typ_arity _ ?_
  rw [eq_typ_arity]
  simp [arity]
  by_cases h1 : k = 1 <;> by_cases h2 : k = 2 <;> by_cases h3 : k = 3 <;> by_cases h4 : k = 4 <;> by_cases h5 : k = 5 <;> by_cases h6 : k = 6 <;> by_cases h7 : k = 7 <;> by_cases h8 : k = 8 <;> by_cases h9 : k = 9 <;> simp_all

theorem sp_r03_Right (t : Ty) : t.thin = true → (run cfg).p F_r03_Right [t.enc] = some (.bool t.right) := by
  induction t using Ty.ind with
  | h t ih =>
    intro ht
    have hb := t.thin_len ht
    refine call_r03_Right _ ?_
    have loop : P_r03_Right_4h (run cfg) (.int .i64 0) t.enc = _ := loop_all (l := t.kids) (f := Ty.right) (P := fun i => P_r03_Right_4h (run cfg) (.int .i64 i) t.enc) (y := .bool true) (n := .bool false)
      (by rw [eq_r03_Right_4h]; simp)
      (fun i h => by
        rw [eq_r03_Right_4h]
        simp [h, dIdx_map h, Ty.eta, ih _ (List.getElem_mem h) (Ty.thin_kid ht (List.getElem_mem h)), dAdd1 (show i < 9223372036854775807 by omega)]
        cases t.kids[i].right <;> rfl)
    rw [eq_r03_Right]
    simp only [isAggN_Ty, og_true', Ty.proj0, Ty.proj1, Ty.proj2, sp_r03_Kids, ob_some', dLen_list, dBin_neq, dBin_lss, dBin_gtr, ogd_bool, oif_bool, loop, Ty.right_eq t, List.length_map]
    grind

theorem sp_typ_right (t : Ty) : t.thin = true → (run cfg).p F_typ_right [t.enc] = some (.bool t.right) := by
  induction t using Ty.ind with
  | h t ih =>
    intro ht
    have hb := t.thin_len ht
    refine call_typ_right _ ?_
    have loop : P_typ_right_9h (run cfg) (.list 3 (t.kids.map Ty.enc)) (.int .i64 t.kids.length) (.int .i64 0) = _ := loop_all (l := t.kids) (f := Ty.right) (P := fun i => P_typ_right_9h (run cfg) (.list 3 (t.kids.map Ty.enc)) (.int .i64 t.kids.length) (.int .i64 i)) (y := .bool true) (n := .bool false)
      (by rw [eq_typ_right_9h]; simp)
      (fun i h => by
        rw [eq_typ_right_9h]
        simp [h, dIdx_map h, Ty.eta, ih _ (List.getElem_mem h) (Ty.thin_kid ht (List.getElem_mem h)), dAdd1 (show i < 9223372036854775807 by omega)]
        cases t.kids[i].right <;> rfl)
    rw [eq_typ_right]
    simp only [isAggN_Ty, og_true', Ty.proj0, Ty.proj1, Ty.proj2, sp_typ_arity, ob_some', dLen_list, dBin_neq, dBin_lss, dBin_gtr, dBin_geq, dBin_leq, dBin_eql, ogd_bool, oif_bool, loop, Ty.right_eq t, List.length_map]
    have h0 : t.kind = 6 → arity t.kind = 0 := fun h => by rw [h]; rfl
    have h7 : t.kind = 6 → arity t.kind = t.kids.length → t.kids.all Ty.right = true := fun h h' => by
      have : t.kids = [] := List.eq_nil_of_length_eq_zero (by have := h0 h; omega)
      rw [this]; rfl
    have h8 : (t.kids.length : Int) = arity t.kind ↔ arity t.kind = t.kids.length := eq_comm
    simp only [h8, ite_sb, ite_db]
    refine sb_iff ?_
    by_cases h1 : arity t.kind = t.kids.length
    · have h2 : ¬ (arity t.kind < 0) := by omega
      by_cases h4 : t.kind = 6
      · simp [h1, h2, h4, h7 h4 h1]
        omega
      · by_cases h5 : t.n = 0 <;> simp [h1, h2, h4, h5]
    · by_cases h2 : arity t.kind < 0 <;> simp [h1, h2]

theorem sp_typ_Check (t : Ty) (ht : t.thin = true) : (run cfg).p F_typ_Check [t.enc] = some (.int .i64 (if t.right = true then 0 else 1)) := by
  refine call_typ_Check _ ?_
  rw [eq_typ_Check]
  simp [Ty.eta, sp_typ_right t ht]
  cases t.right <;> rfl

theorem sp_r03_Size (t : Ty) : t.size ≤ lim → (run cfg).p F_r03_Size [t.enc] = some (.int .i64 t.size) := by
  induction t using Ty.ind with
  | h t ih =>
    intro ht
    have hb := Ty.len_big ht
    refine call_r03_Size _ ?_
    rw [eq_r03_Size]
    simp only [isAggN_Ty, og_true']
    have loop := loop_fold (l := t.kids) (P := fun i (a : Nat) => P_r03_Size_3h (run cfg) (.int .i64 a) (.int .i64 i) t.enc) (g := fun a k => a + k.size) (fin := fun a => some (.int .i64 a))
      (I := fun i a => a + ((t.kids.drop i).map Ty.size).sum ≤ lim)
      (fun a _ => by rw [eq_r03_Size_3h]; simp)
      (fun i h a ha => by
        rw [List.drop_eq_getElem_cons h, List.map_cons, List.sum_cons] at ha
        have := big ha
        refine ⟨?_, by omega⟩
        rw [eq_r03_Size_3h]
        simp [h, dIdx_map h, Ty.eta, ih _ (List.getElem_mem h) (Ty.kid_big ht (List.getElem_mem h)), dAdd1 (show i < 9223372036854775807 by omega)]
        rw [dAdd (by omega) (by omega)]
        simp) 1 (by have := Ty.size_eq t; simpa using (by omega : 1 + (t.kids.map Ty.size).sum ≤ lim))
    have e : ∀ (l : List Ty) (a : Nat), l.foldl (fun a k => a + k.size) a = a + (l.map Ty.size).sum := by
      intro l
      induction l with
      | nil => intro a; simp
      | cons x l ih => intro a; simp [ih]; omega
    rw [e, ← Ty.size_eq] at loop
    exact loop

theorem sp_typ_Same (a : Ty) : a.thin = true → ∀ b : Ty, (run cfg).p F_typ_Same [a.enc, b.enc] = some (.bool (decide (a = b))) := by
  induction a using Ty.ind with
  | h a ih =>
    intro ha b
    have hb := a.thin_len ha
    refine call_typ_Same _ _ ?_
    rw [eq_typ_Same]
    simp
    by_cases h1 : a.kind = b.kind <;> simp [h1, Ty.ext_iff']
    by_cases h2 : a.n = b.n <;> simp [h2]
    by_cases h3 : a.kids.length = b.kids.length
    · have loop := loop_two (l := a.kids) (m := b.kids) h3 (P := fun i => P_typ_Same_4h (run cfg) (.list 3 (a.kids.map Ty.enc)) (.int .i64 a.kids.length) (.int .i64 i) b.enc) (y := .bool true) (n := .bool false)
        (by rw [eq_typ_Same_4h]; simp [h3])
        (fun i h => by
          have h' : i < b.kids.length := by omega
          rw [eq_typ_Same_4h]
          simp [h, h', dIdx_map h, dIdx_map h', Ty.eta, ih _ (List.getElem_mem h) (Ty.thin_kid ha (List.getElem_mem h)), dAdd1 (show i < 9223372036854775807 by omega)])
      simp only [h3] at loop ⊢
      simp [loop]
      by_cases h4 : a.kids = b.kids <;> simp [h4]
    · have : a.kids ≠ b.kids := fun h => h3 (by rw [h])
      simp [Int.ofNat_inj, h3, this]

theorem sp_keep_Same (a : Ty) : a.thin = true → ∀ b : Ty, (run cfg).p F_keep_Same [a.enc, b.enc] = some (.bool (decide (a = b))) := by
  induction a using Ty.ind with
  | h a ih =>
    intro ha b
    have hb := a.thin_len ha
    refine call_keep_Same _ _ ?_
    rw [eq_keep_Same]
    simp
    by_cases h1 : a.kind = b.kind <;> simp [h1, Ty.ext_iff']
    by_cases h2 : a.n = b.n <;> simp [h2]
    by_cases h3 : a.kids.length = b.kids.length
    · have loop := loop_two (l := a.kids) (m := b.kids) h3 (P := fun i => P_keep_Same_4h (run cfg) (.int .i64 i) a.enc b.enc) (y := .bool true) (n := .bool false)
        (by rw [eq_keep_Same_4h]; simp [h3])
        (fun i h => by
          have h' : i < b.kids.length := by omega
          rw [eq_keep_Same_4h]
          simp [h, h', dIdx_map h, dIdx_map h', Ty.eta, ih _ (List.getElem_mem h) (Ty.thin_kid ha (List.getElem_mem h)), dAdd1 (show i < 9223372036854775807 by omega)])
      simp only [h3] at loop ⊢
      simp [loop]
      by_cases h4 : a.kids = b.kids <;> simp [h4]
    · have : a.kids ≠ b.kids := fun h => h3 (by rw [h])
      simp [Int.ofNat_inj, h3, this]

theorem sp_r03_In (l : List Int) (hl : l.length ≤ lim) (n : Int) : (run cfg).p F_r03_In [encInts l, .int .i64 n] = some (.bool (decide (n ∈ l))) := by
  have hb := big hl
  refine call_r03_In _ _ ?_
  rw [eq_r03_In]
  have loop := loop_anyB (l := l) (f := fun x => decide (x = n)) (P := fun i => P_r03_In_2h (run cfg) (encInts l) (.int .i64 n) (.int .i64 i))
    (by rw [eq_r03_In_2h]; simp)
    (fun i h => by
      rw [eq_r03_In_2h]
      simp [h, dIdx_ints h, dAdd1 (show i < 9223372036854775807 by omega)])
  refine loop.trans ?_
  congr 2
  rw [Bool.eq_iff_iff]
  simp

theorem sp_r03_vars (t : Ty) : ∀ (l : List Int) (sg : List SObj), l.length + t.size ≤ lim → (run cfg).r F_r03_vars [(t.enc, .val), (encInts l, .own)] sg = some ([encInts (t.varsOn l)], sg) := by
  induction t using Ty.ind with
  | h t ih =>
    intro l sg hl
    have hb := Ty.len_big (show t.size ≤ lim by omega)
    have hB := big hl
    refine call_r03_vars _ _ _ ?_
    have loop : ∀ l : List Int, l.length + (t.kids.map Ty.size).sum ≤ lim → P_r03_vars_4h (run cfg) (encInts l) (.int .i64 0) t.enc sg = some ([encInts (t.kids.foldl (fun l k => k.varsOn l) l)], sg) :=
      loop_fold (l := t.kids) (P := fun i (a : List Int) => P_r03_vars_4h (run cfg) (encInts a) (.int .i64 i) t.enc sg) (g := fun a k => k.varsOn a) (fin := fun a => some ([encInts a], sg))
        (I := fun i a => a.length + ((t.kids.drop i).map Ty.size).sum ≤ lim)
        (fun a _ => by rw [eq_r03_vars_4h]; simp)
        (fun i h a ha => by
          rw [List.drop_eq_getElem_cons h, List.map_cons, List.sum_cons] at ha
          have h1 := Ty.varsOn_len t.kids[i] a
          refine ⟨?_, by omega⟩
          rw [eq_r03_vars_4h]
          simp [h, dIdx_map h, Ty.eta, ih _ (List.getElem_mem h) a sg (by omega), dAdd1 (show i < 9223372036854775807 by omega)])
    have hsz := Ty.size_eq t
    rw [eq_r03_vars, Ty.varsOn_eq]
    simp
    by_cases h6 : t.kind = 6
    · simp [h6, sp_r03_In l (by omega) t.n]
      by_cases hn : t.n ∈ l
      · simp [hn, eq_r03_vars_3, loop l (by omega)]
      · simp [hn, eq_r03_vars_3]
        rw [show encInts l = .list 1 (l.map fun n => .int .i64 n) from rfl, dApp_list (by simp; omega)]
        simp
        have := loop (l ++ [t.n]) (by simp; omega)
        simpa [encInts] using this
    · simp [h6, eq_r03_vars_3, loop l (by omega)]

theorem sp_r03_Vars (t : Ty) (ht : t.size ≤ lim) : (run cfg).p F_r03_Vars [t.enc] = some (encInts t.vars) := by
  refine call_r03_Vars _ ?_
  rw [eq_r03_Vars]
  have := sp_r03_vars t [] [] (by simpa using ht)
  have e : encInts [] = .list 1 [] := rfl
  rw [e] at this
  simp [Ty.eta, this, Ty.vars]

theorem sp_r03_Leaf (k : Int) : (run cfg).p F_r03_Leaf [.int .i64 k] = some (Ty.mk k 0 []).enc := by
  refine call_r03_Leaf _ ?_
  rw [eq_r03_Leaf]
  simp [Ty.enc]

theorem sp_l03_count (t : Ty) : ∀ n : Int, t.thin = true → 0 ≤ n → n ≤ 1048576 → ∃ m : Int, (run cfg).p F_l03_count [t.enc, .int .i64 n] = some (.int .i64 m) ∧ 0 ≤ m ∧ m ≤ max (n + 1) 601 := by
  induction t using Ty.ind with
  | h t ih =>
    intro n ht h0 h1
    have hb := t.thin_len ht
    have loop : ∀ m : Int, 0 ≤ m → m ≤ 1048577 → ∃ r : Int, P_l03_count_3h (run cfg) (.int .i64 m) (.int .i64 0) t.enc = some (.int .i64 r) ∧ 0 ≤ r ∧ r ≤ max m 601 := by
      have key : ∀ (k i : Nat) (m : Int), i + k = t.kids.length → 0 ≤ m → m ≤ 1048577 → ∃ r : Int, P_l03_count_3h (run cfg) (.int .i64 m) (.int .i64 i) t.enc = some (.int .i64 r) ∧ 0 ≤ r ∧ r ≤ max m 601 := by
        intro k
        induction k with
        | zero =>
          intro i m hi h0 h1
          rw [eq_l03_count_3h]
          have : ¬ i < t.kids.length := by omega
          exact ⟨m, by simp [this], h0, by omega⟩
        | succ k ihk =>
          intro i m hi h0 h1
          have h : i < t.kids.length := by omega
          rw [eq_l03_count_3h]
          by_cases hm : m ≤ 600
          · obtain ⟨r, hr, hr0, hr1⟩ := ih _ (List.getElem_mem h) m (Ty.thin_kid ht (List.getElem_mem h)) h0 (by omega)
            obtain ⟨s, hs, hs0, hs1⟩ := ihk (i + 1) r (by omega) hr0 (by omega)
            push_cast at hs
            exact ⟨s, by simp [h, hm, dIdx_map h, Ty.eta, hr, dAdd1 (show i < 9223372036854775807 by omega), hs], hs0, by omega⟩
          · exact ⟨m, by simp [h, hm], h0, by omega⟩
      exact fun m h0 h1 => key t.kids.length 0 m (by omega) h0 h1
    obtain ⟨r, hr, hr0, hr1⟩ := loop (n + 1) (by omega) (by omega)
    refine ⟨r, call_l03_count _ _ ?_, hr0, hr1⟩
    rw [eq_l03_count]
    simp
    rw [dAdd (by omega) (by omega)]
    simpa using hr

theorem sp_l03_Heavy1 (t : Ty) (ht : t.thin = true) : ∃ b : Bool, (run cfg).p F_l03_Heavy [.list 3 [t.enc]] = some (.bool b) := by
  obtain ⟨m, h1, h2, h3⟩ := sp_l03_count t 0 ht (by omega) (by omega)
  refine ⟨decide (600 < m), call_l03_Heavy _ ?_⟩
  rw [eq_l03_Heavy, eq_l03_Heavy_3h]
  have e0 : dIdx 3 (.list 3 [t.enc]) (.int .i64 0) = some t.enc := by simp [dIdx]
  simp [e0, Ty.eta, h1, dAdd (show (-9223372036854775808 : Int) ≤ 0 + 1 by omega) (by omega)]
  rw [eq_l03_Heavy_3h]
  simp

theorem sp_r08_Deep (t : Ty) : ∀ n : Int, -9223372036854775000 ≤ n → n ≤ 1000 → t.thin = true → (run cfg).p F_r08_Deep [t.enc, .int .i64 n] = some (.bool (t.deep n)) := by
  induction t using Ty.ind with
  | h t ih =>
    intro n hn0 hn ht
    have hb := t.thin_len ht
    refine call_r08_Deep _ _ ?_
    rw [eq_r08_Deep, Ty.deep_eq]
    simp
    by_cases h0 : n ≤ 0
    · simp [h0]
    · have loop := loop_anyB (l := t.kids) (f := fun k => k.deep (n - 1)) (P := fun i => P_r08_Deep_4h (run cfg) (.int .i64 n) (.int .i64 i) t.enc)
        (by rw [eq_r08_Deep_4h]; simp)
        (fun i h => by
          rw [eq_r08_Deep_4h]
          simp [h, dIdx_map h, Ty.eta, dBin_sub, wrap_id (show (-9223372036854775808 : Int) ≤ n - 1 by omega) (by omega), ih _ (List.getElem_mem h) (n - 1) (by omega) (by omega) (Ty.thin_kid ht (List.getElem_mem h)), dAdd1 (show i < 9223372036854775807 by omega)])
      simp only [h0, decide_false, Bool.false_or]
      exact loop

theorem sp_word_Key (s : ByteArray) : (run cfg).p F_word_Key [.str s] = some (.bool (keyB s)) := by
  refine call_word_Key _ ?_
  rw [eq_word_Key]
  have e : ∀ l : List UInt8, (s = ⟨l.toArray⟩) ↔ s.data.toList = l := fun l => by
    constructor
    · rintro rfl; simp
    · intro h; cases s; simp only [ByteArray.mk.injEq]; exact Array.ext' (by simpa using h)
  simp only [dBin_seql, ob_some', oif_bool]
  simp only [e, keyB, keyL, List.mem_cons, List.not_mem_nil, or_false]
  simp only [decide_eq_true_eq, ite_s, ite_db, Bool.if_true_left, Bool.decide_or, Bool.or_false]

theorem sp_word_inner (c : Int) : (run cfg).p F_word_inner [.int .u8 c] = some (.bool (partB c)) := by
  refine call_word_inner _ ?_
  rw [eq_word_inner]
  simp only [dBin_geq, dBin_leq, dBin_eql, ob_some', ogd_bool, decide_eq_true_eq, partB, lowerB, digitB]
  by_cases h1 : 97 ≤ c <;> by_cases h2 : c ≤ 122 <;> by_cases h3 : 65 ≤ c <;> by_cases h4 : c ≤ 90 <;> by_cases h5 : 48 ≤ c <;> by_cases h6 : c ≤ 57 <;> by_cases h7 : c = 95 <;> simp [h1, h2, h3, h4, h5, h6, h7]

theorem str_big {s : ByteArray} (h : s.size ≤ lim) : (bts s).length < 4294967297 := by rw [bts_len]; exact big h

theorem sp_word_Name (s : ByteArray) (hs : s.size ≤ lim) : (run cfg).p F_word_Name [.str s] = some (.bool (nameB s)) := by
  have hb := str_big hs
  refine call_word_Name _ ?_
  rw [eq_word_Name]
  simp only [dLenS_str, ob_some', dBin_lss, dBin_gtr, ogd_bool, oif_bool, decide_eq_true_eq, nameB, ← bts_len]
  by_cases h1 : ((bts s).length : Int) < 1
  · have : ¬ (1 ≤ (bts s).length) := by omega
    simp [h1, this]
  · by_cases h2 : (32 : Int) < ((bts s).length : Int)
    · have : ¬ ((bts s).length ≤ 32) := by omega
      simp [h1, h2, this]
    · have h0 : 0 < (bts s).length := by omega
      have e0 := dStr_idx (s := s) (k := .i64) h0
      simp only [Int.natCast_zero, Int.ofNat_zero, Int.cast_ofNat_Int] at e0
      have loop : ∀ (k i : Nat), i + k = (bts s).length → P_word_Name_4h (run cfg) (.str s) (.int .i64 i) = some (.bool (((bts s).drop i).all partB)) := by
        intro k
        induction k with
        | zero =>
          intro i hi
          rw [eq_word_Name_4h]
          have : ¬ i < (bts s).length := by omega
          simp [← bts_len, this, List.drop_of_length_le (show (bts s).length ≤ i by omega)]
        | succ k ih =>
          intro i hi
          have h : i < (bts s).length := by omega
          rw [eq_word_Name_4h]
          have := ih (i + 1) (by omega)
          push_cast at this
          have hlt : (i : Int) < (s.size : Int) := by rw [← bts_len]; omega
          rw [List.drop_eq_getElem_cons h, List.all_cons]
          simp only [dLenS_str, ob_some', dBin_lss, hlt, decide_true, oif_bool, if_true, dStr_idx h, sp_word_inner, dUn_not, dAdd1 (show i < 9223372036854775807 by omega)]
          push_cast
          rw [this]
          cases partB (bts s)[i] <;> rfl
      have l1 := loop ((bts s).length - 1) 1 (by omega)
      simp only [Int.natCast_one, Int.ofNat_one, Int.cast_ofNat_Int] at l1
      have g0 : (bts s).getD 0 0 = (bts s)[0] := by simp [List.getD_eq_getElem?_getD, h0]
      have d0 : bts s = (bts s)[0] :: (bts s).drop 1 := by
        have := List.drop_eq_getElem_cons h0
        simpa using this
      have a1 : (1 ≤ (bts s).length) := by omega
      have a2 : ((bts s).length ≤ 32) := by omega
      have e0' : dStrIdx (.str s) (.int .i64 0) = some (.int .u8 (bts s)[0]) := e0
      simp only [h1, h2, if_false, e0', ob_some', dBin_lss, dBin_gtr, ogd_bool, decide_eq_true_eq, sp_word_Key, oif_bool, g0, a1, a2, decide_true, Bool.true_and]
      by_cases h3 : (bts s)[0] < 97
      · have : lowerB (bts s)[0] = false := by simp [lowerB]; omega
        simp [h3, this]
      · by_cases h4 : (122 : Int) < (bts s)[0]
        · have : lowerB (bts s)[0] = false := by simp [lowerB]; omega
          simp [h3, h4, this]
        · have h5 : lowerB (bts s)[0] = true := by simp [lowerB]; omega
          have h6 : partB (bts s)[0] = true := by simp [partB, h5]
          have h7 : (bts s).all partB = ((bts s).drop 1).all partB := by
            conv => lhs; rw [d0]
            simp [h6]
          cases hk : keyB s
          · simp only [h3, h4, if_false, Bool.false_eq_true, h5, h7, Bool.true_and, Bool.not_false, Bool.and_true]
            exact l1
          · simp [h3, h4]

theorem nil_str : (.str ⟨#[]⟩ : DV) = .str nil8 := rfl

theorem sp_tree_onePat (p : Pat) (hp : p.texts) : (run cfg).p F_tree_onePat [p.enc] = some (.bool p.one) := by
  obtain ⟨hn, hs⟩ := hp
  have h24 : ∀ (t4 : Int) (a b c g : DV) (nm : ByteArray) (n : Int) (s : ByteArray), P_tree_onePat_24 (run cfg) (.int .i64 t4) p.enc a b c (.str nm) (.int .i64 n) (.str s) g =
      some (.bool (decide ((p.kids.length : Int) = t4) && decide (nm = p.name) && decide (n = p.n) && decide (s = p.s))) := by
    intro t4 a b c g nm n s
    rw [eq_tree_onePat_24]
    simp only [Pat.proj6, Pat.proj3, Pat.proj4, Pat.proj5, dLen_list, List.length_map, ob_some', dBin_eql, dBin_seql, ogd_bool, decide_eq_true_eq]
    by_cases h1 : (p.kids.length : Int) = t4 <;> by_cases h2 : nm = p.name <;> by_cases h3 : n = p.n <;> simp [h1, h2, h3]
  refine call_tree_onePat _ ?_
  rw [eq_tree_onePat]
  have hs' : dBin .gtr (.int .i64 (p.s.size : Int)) (.int .i64 200) = some (.bool (decide (200 < p.s.size))) := by
    rw [dBin_gtr]; congr 2; rw [decide_eq_decide]; omega
  simp only [isAggN_Pat, og_true', Pat.proj0, Pat.proj1, Pat.proj2, Pat.proj3, Pat.proj4, Pat.proj5, Pat.proj6, isCell_int, isCell_str, isCell_list, dBin_eql, dBin_neq, ob_some', oif_bool, ogd_bool, sp_word_Name p.name (by unfold lim; omega), dUn_not, dLenS_str, hs', h24, nil_str]
  unfold Pat.one
  by_cases k1 : p.kind = 1
  · simp [k1, eq_comm]
  by_cases k6 : p.kind = 6
  · simp [k6, eq_comm]
  by_cases k8 : p.kind = 8
  · simp [k8, eq_comm]
  by_cases k2 : p.kind = 2
  · cases hnm : nameB p.name <;> simp [k2, hnm, eq_comm]
  by_cases k3 : p.kind = 3
  · simp [k3, eq_comm]
  by_cases k4 : p.kind = 4
  · by_cases n0 : p.n = 0
    · simp [k4, n0, eq_comm]
    · by_cases n1 : p.n = 1 <;> simp [k4, n0, n1, eq_comm]
  by_cases k5 : p.kind = 5
  · by_cases h : 200 < p.s.size
    · have : ¬ p.s.size ≤ 200 := by omega
      simp [k5, h, this]
    · have : p.s.size ≤ 200 := by omega
      simp [k5, h, this, eq_comm]
  have h2 : decide (2 = (p.kids.length : Int)) = decide (2 = p.kids.length) := by rw [decide_eq_decide]; omega
  by_cases k7 : p.kind = 7
  · simp [k7, eq_comm, h2]
  by_cases k9 : p.kind = 9
  · simp [k9, eq_comm, h2]
  simp [k1, k2, k3, k4, k5, k6, k7, k8, k9]

def hasS (l : List ByteArray) (n : ByteArray) : Bool := l.any fun x => decide (x = n)

theorem hasS_iff {l : List ByteArray} {n : ByteArray} : hasS l n = true ↔ n ∈ l := by simp [hasS]

theorem sp_r05_Has (l : List ByteArray) (hl : l.length ≤ lim) (n : ByteArray) : (run cfg).p F_r05_Has [encStrs l, .str n] = some (.bool (hasS l n)) := by
  have hb := big hl
  refine call_r05_Has _ _ ?_
  rw [eq_r05_Has]
  have loop := loop_anyB (l := l) (f := fun x => decide (x = n)) (P := fun i => P_r05_Has_2h (run cfg) (encStrs l) (.str n) (.int .i64 i))
    (by rw [eq_r05_Has_2h]; simp)
    (fun i h => by
      rw [eq_r05_Has_2h]
      simp [h, dIdx_strs h, dAdd1 (show i < 9223372036854775807 by omega)])
  exact loop

/-- How often a name has been seen. -/
def cntS (es : List (DV × DV)) (s : ByteArray) : DV := (mGet es (.str s)).getD (.int .i64 0)

def cpSg (a b c e : SObj) (n : Int) (es : List (DV × DV)) : List SObj := [a, .box [(.int .i64 n, .val)], .map true es, .box [(.undef, .map 2)], e]

theorem cp_end (t0 t6 : DV) (a b c e : SObj) (n : Int) (es : List (DV × DV)) : X_tree_CheckPat_r0 (run cfg) t0 t6 .ret (cpSg a b c e n es) = some (.int .i64 n) := by
  rw [eq_X_tree_CheckPat_r0_ret]
  rfl

theorem cp_norm (t0 t6 : DV) (a b c e : SObj) (n : Int) (es : List (DV × DV)) : X_tree_CheckPat_r0 (run cfg) t0 t6 .normal (cpSg a b c e n es) = some (.int .i64 0) := by
  rw [eq_X_tree_CheckPat_r0_normal]
  rfl

theorem cp_rounds (t0 t6 : DV) (a b c e : SObj) : ∀ (ps : List Pat) (pre : List ByteArray) (es : List (DV × DV)), (∀ q ∈ ps, q.texts) → pre.Nodup → (∀ s, cntS es s = .int .i64 (if hasS pre s = true then 1 else 0)) →
    I_tree_CheckPat_r0 (run cfg) t0 t6 (ps.map Pat.enc) (cpSg a b c e 0 es) = some (.int .i64 (if ps.all Pat.one = true ∧ (pre ++ ps.flatMap nmOf).Nodup then 0 else 1))
  | [], pre, es, _, hn, _ => by
    rw [List.map_nil, I_tree_CheckPat_r0_nil, cp_norm]
    simp [hn]
  | q :: ps, pre, es, hx, hn, hc => by
    rw [List.map_cons, I_tree_CheckPat_r0_cons, eq_B_tree_CheckPat_r0]
    have hq := hx q (List.mem_cons_self ..)
    simp only [isAggN_Pat, og_true', Pat.proj0, Pat.proj1, Pat.proj2, Pat.proj3, Pat.proj4, Pat.proj5, Pat.proj6, Pat.eta, sp_tree_onePat q hq, ob_some', dUn_not, ogd_bool, dBin_eql]
    have sg1 : sgBox (cpSg a b c e 0 es) 1 = some [(.int .i64 0, .val)] := rfl
    have sg3 : sgBox (cpSg a b c e 0 es) 3 = some [(.undef, .map 2)] := rfl
    have set1 : (cpSg a b c e 0 es).set 1 (.box ([((.int .i64 0 : DV), Meta.val)].set 0 (.int .i64 1, .val))) = cpSg a b c e 1 es := rfl
    have g0 : [((.int .i64 0 : DV), Meta.val)][0]? = some (.int .i64 0, .val) := rfl
    have cm : cellMap [((.undef : DV), Meta.map 2)] 0 = some 2 := rfl
    have sm : sgMap (cpSg a b c e 0 es) 2 = some (true, es) := rfl
    cases h1 : q.one
    · simp only [Bool.not_false, if_true, sg1, ob_some', g0, set1, cp_end]
      simp [h1]
    · simp only [Bool.not_true, Bool.false_eq_true, if_false]
      -- what follows
      have rest : ∀ (pre' : List ByteArray) (es' : List (DV × DV)), pre'.Nodup → (∀ s, cntS es' s = .int .i64 (if hasS pre' s = true then 1 else 0)) →
          I_tree_CheckPat_r0 (run cfg) t0 t6 (ps.map Pat.enc) (cpSg a b c e 0 es') = some (.int .i64 (if ps.all Pat.one = true ∧ (pre' ++ ps.flatMap nmOf).Nodup then 0 else 1)) :=
        fun pre' es' h h' => cp_rounds t0 t6 a b c e ps pre' es' (fun x hx' => hx x (List.mem_cons_of_mem _ hx')) h h'
      rw [eq_tree_CheckPat_6]
      simp only [Pat.proj0, Pat.proj3, dBin_eql, ob_some', oif_bool, decide_eq_true_eq]
      by_cases h2 : q.kind = 2
      · have hcq := hc q.name
        unfold cntS at hcq
        have sm' : (cpSg a b c e 0 es).set 2 (.map true (mSet es (.str q.name) (.int .i64 1))) = cpSg a b c e 0 (mSet es (.str q.name) (.int .i64 1)) := rfl
        simp only [h2, if_true, sg3, ob_some', cm, isKey_str, Bool.and_true, og_true', sm, BEq.rfl, hcq, dBin_gtr, oif_bool, decide_eq_true_eq]
        by_cases h3' : hasS pre q.name = true
        · have h3 := hasS_iff.1 h3'
          simp only [h3', if_true, show (0 : Int) < 1 by omega, decide_true, sg1, ob_some', g0, set1, cp_end]
          have : ¬ (pre ++ (q :: ps).flatMap nmOf).Nodup := by
            simp only [List.flatMap_cons, nmOf, h2, if_true, List.singleton_append, List.nodup_append]
            rintro ⟨-, -, h⟩
            exact h q.name h3 q.name (List.mem_cons_self ..) rfl
          rw [if_neg (fun h => this h.2)]
        · have h3 : q.name ∉ pre := fun h => h3' (hasS_iff.2 h)
          simp only [h3', if_false, show ¬ (0 : Int) < 0 by omega, decide_false, Bool.false_eq_true]
          rw [dAdd (by omega) (by omega)]
          simp only [ob_some', Int.zero_add]
          rw [sm', rest (pre ++ [q.name]) _ (by rw [List.nodup_append]; refine ⟨hn, by simp, ?_⟩; rintro x hx' y hy rfl; simp at hy; exact h3 (hy ▸ hx')) ?_]
          · simp [List.flatMap_cons, nmOf, h2, h1]
          · intro s
            unfold cntS
            rw [mGet_set]
            have := hc s
            unfold cntS at this
            by_cases h4 : q.name = s
            · have : hasS (pre ++ [q.name]) s = true := hasS_iff.2 (by simp [h4])
              rw [if_pos h4, if_pos this]
              rfl
            · have e : hasS (pre ++ [q.name]) s = hasS pre s := by simp [hasS, h4]
              simp only [if_neg h4, e]
              exact this
      · simp only [h2, if_false]
        rw [rest pre es hn hc]
        simp [List.flatMap_cons, nmOf, h2, h1]

theorem sp_tree_CheckPat (p : Pat) (ht : p.thin = true) (hx : p.txt) : (run cfg).p F_tree_CheckPat [p.enc] = some (.int .i64 (if p.right = true then 0 else 1)) := by
  refine call_tree_CheckPat _ ?_
  rw [eq_tree_CheckPat]
  simp only [isAggN_Pat, og_true', Pat.proj0, Pat.proj1, Pat.proj2, Pat.proj3, Pat.proj4, Pat.proj5, Pat.proj6, Pat.eta]
  rw [eq_tree_CheckPat_r0]
  obtain ⟨n, hn⟩ := flat_Pat p ht
  rw [Pat.enc_eq] at hn
  simp only [sgBox, List.getElem?_cons_succ, List.getElem?_cons_zero, ob_some', allDat, og_true', flatD_of hn]
  have := cp_rounds p.enc p.enc (.box [(.int .i64 p.kind, .val), (.int .i64 p.lo, .val), (.int .i64 p.hi, .val), (.str p.name, .val), (.int .i64 p.n, .val), (.str p.s, .val), (.list 7 (p.kids.map Pat.enc), .val)])
    (.arr 1 []) (.arr 1 []) (.arr 1 []) p.subs [] [] (fun q hq => hx q hq) (by simp) (fun s => rfl)
  refine this.trans ?_
  congr 2
  have e : p.right = true ↔ (p.subs.all Pat.one = true ∧ (([] : List ByteArray) ++ p.subs.flatMap nmOf).Nodup) := by
    unfold Pat.right Pat.names
    rw [Pat.pat_subs, Pat.namesOn_subs]
    simp
  by_cases h : p.right = true
  · rw [if_pos h, if_pos (e.1 h)]
  · rw [if_neg h, if_neg (fun h' => h (e.2 h'))]

@[simp] theorem dEqA_two (a b c d : Int) (k : IntKind) : dEqA [.int, .int] (.agg [.int k a, .int k b]) (.agg [.int k c, .int k d]) = some (decide (a = c) && decide (b = d)) := by
  simp only [dEqA, dEqLeaves, dEqK, if_true, ob_some']
  by_cases h : a = c <;> by_cases h' : b = d <;> simp [h, h']

theorem ite_andB (a b : Bool) : (if a = true then DV.bool b else DV.bool false) = DV.bool (a && b) := by cases a <;> rfl

def shapeD (k : Int) (np : Nat) : DV := .agg [.bool (kName k), .bool (kArg k), .bool (kN k), .bool (kS k), .bool (kOp k), .bool (kAt k), .bool (kVars k), .bool (kArgs k), .bool (kPats k), .bool (kA k), .bool (kB k), .bool (kLabel k), .int .i64 (kKids k np)]

theorem sp_term_shapeOf (t : Tm) (ht : t.fit1) : ∃ d, (run cfg).p F_term_shapeOf [t.enc] = some (.tup [d, .bool (kOk t.kind t.pats.length)]) ∧ (kOk t.kind t.pats.length = true → d = shapeD t.kind t.pats.length) ∧ isAggN 13 d = true := by
  have hp := big (Nat.le_of_lt ht.pats)
  suffices h : ∃ d, P_term_shapeOf (run cfg) t.enc = some (.tup [d, .bool (kOk t.kind t.pats.length)]) ∧ (kOk t.kind t.pats.length = true → d = shapeD t.kind t.pats.length) ∧ isAggN 13 d = true by
    obtain ⟨d, h1, h2⟩ := h
    exact ⟨d, call_term_shapeOf _ h1, h2⟩
  rw [eq_term_shapeOf]
  have fl : ∀ {a b c d e f g h i j k l : Bool} {n : Int}, isAggN 13 (.agg [.bool a, .bool b, .bool c, .bool d, .bool e, .bool f, .bool g, .bool h, .bool i, .bool j, .bool k, .bool l, .int .i64 n]) = true := rfl
  by_cases k14 : t.kind = 14
  · have h1 : dBin .add (.int .i64 (t.pats.length : Int)) (.int .i64 1) = some (.int .i64 ((t.pats.length : Int) + 1)) := dAdd (by omega) (by omega)
    simp [k14, h1, kOk, shapeD, kName, kArg, kN, kS, kOp, kAt, kVars, kArgs, kPats, kA, kB, kLabel, kKids, fl]
  by_cases k1 : t.kind = 1
  · simp [k1, kOk, shapeD, kName, kArg, kN, kS, kOp, kAt, kVars, kArgs, kPats, kA, kB, kLabel, kKids, fl]
  by_cases k2 : t.kind = 2
  · simp [k2, kOk, shapeD, kName, kArg, kN, kS, kOp, kAt, kVars, kArgs, kPats, kA, kB, kLabel, kKids, fl]
  by_cases k3 : t.kind = 3
  · simp [k3, kOk, shapeD, kName, kArg, kN, kS, kOp, kAt, kVars, kArgs, kPats, kA, kB, kLabel, kKids, fl]
  by_cases k4 : t.kind = 4
  · simp [k4, kOk, shapeD, kName, kArg, kN, kS, kOp, kAt, kVars, kArgs, kPats, kA, kB, kLabel, kKids, fl]
  by_cases k5 : t.kind = 5
  · simp [k5, kOk, shapeD, kName, kArg, kN, kS, kOp, kAt, kVars, kArgs, kPats, kA, kB, kLabel, kKids, fl]
  by_cases k6 : t.kind = 6
  · simp [k6, kOk, shapeD, kName, kArg, kN, kS, kOp, kAt, kVars, kArgs, kPats, kA, kB, kLabel, kKids, fl]
  by_cases k7 : t.kind = 7
  · simp [k7, kOk, shapeD, kName, kArg, kN, kS, kOp, kAt, kVars, kArgs, kPats, kA, kB, kLabel, kKids, fl]
  by_cases k8 : t.kind = 8
  · simp [k8, kOk, shapeD, kName, kArg, kN, kS, kOp, kAt, kVars, kArgs, kPats, kA, kB, kLabel, kKids, fl]
  by_cases k9 : t.kind = 9
  · simp [k9, kOk, shapeD, kName, kArg, kN, kS, kOp, kAt, kVars, kArgs, kPats, kA, kB, kLabel, kKids, fl]
  by_cases k10 : t.kind = 10
  · simp [k10, kOk, shapeD, kName, kArg, kN, kS, kOp, kAt, kVars, kArgs, kPats, kA, kB, kLabel, kKids, fl]
  by_cases k11 : t.kind = 11
  · simp [k11, kOk, shapeD, kName, kArg, kN, kS, kOp, kAt, kVars, kArgs, kPats, kA, kB, kLabel, kKids, fl]
  by_cases k12 : t.kind = 12
  · simp [k12, kOk, shapeD, kName, kArg, kN, kS, kOp, kAt, kVars, kArgs, kPats, kA, kB, kLabel, kKids, fl]
  by_cases k13 : t.kind = 13
  · simp [k13, kOk, shapeD, kName, kArg, kN, kS, kOp, kAt, kVars, kArgs, kPats, kA, kB, kLabel, kKids, fl]
  by_cases k15 : t.kind = 15
  · simp [k15, kOk, shapeD, kName, kArg, kN, kS, kOp, kAt, kVars, kArgs, kPats, kA, kB, kLabel, kKids, fl]
  by_cases k16 : t.kind = 16
  · simp [k16, kOk, shapeD, kName, kArg, kN, kS, kOp, kAt, kVars, kArgs, kPats, kA, kB, kLabel, kKids, fl]
  · have hk : kOk t.kind t.pats.length = false := by
      unfold kOk
      rw [Bool.eq_false_iff]
      intro h
      simp only [Bool.and_eq_true, decide_eq_true_eq] at h
      omega
    simp [hk, k1, k2, k3, k4, k5, k6, k7, k8, k9, k10, k11, k12, k13, k14, k15, k16, fl]

theorem sp_term_none (t : Ty) : (run cfg).p F_term_none [t.enc] = some (.bool t.none) := by
  refine call_term_none _ ?_
  rw [eq_term_none]
  simp [Ty.none]
  by_cases h1 : t.kind = 0 <;> by_cases h2 : t.n = 0 <;> simp [h1, h2]

theorem sp_term_typed (h : Bool) (t : Ty) (ht : t.thin = true) : (run cfg).p F_term_typed [.bool h, t.enc] = some (.bool (typedB h t)) := by
  refine call_term_typed _ _ ?_
  rw [eq_term_typed]
  cases h
  · simp [Ty.eta, sp_term_none, typedB]
  · simp [Ty.eta, sp_typ_Check t ht, typedB]

theorem sp_term_named (h : Bool) (s : ByteArray) (hs : s.size ≤ 4294967000) : (run cfg).p F_term_named [.bool h, .str s] = some (.bool (namedB h s)) := by
  refine call_term_named _ _ ?_
  rw [eq_term_named]
  cases h
  · simp [namedB, nil_str]
  · simp [namedB, sp_word_Name s (by unfold lim; omega)]

theorem sp_term_lists (t : Tm) (ht : t.fit1) : (run cfg).p F_term_lists [t.enc] = some (.bool t.lists) := by
  have hv := big (Nat.le_of_lt ht.vars)
  have ha := big (Nat.le_of_lt ht.args)
  have hp := big (Nat.le_of_lt ht.pats)
  refine call_term_lists _ ?_
  have l3 := loop_allB (l := t.pats) (f := Pat.right) (P := fun i => P_term_lists_14h (run cfg) (.list 7 (t.pats.map Pat.enc)) (.int .i64 t.pats.length) (.int .i64 i))
    (by rw [eq_term_lists_14h]; simp)
    (fun i h => by
      rw [eq_term_lists_14h]
      have f := ht.pat _ (List.getElem_mem h)
      simp [h, dIdx_map h, Pat.eta, sp_tree_CheckPat _ (Pat.fit_thin f) f.txt, dAdd1 (show i < 9223372036854775807 by omega)]
      cases t.pats[i].right <;> rfl)
  have l2 := loop_all (l := t.args) (f := Ty.right) (P := fun i => P_term_lists_8h (run cfg) (.list 3 (t.args.map Ty.enc)) (.int .i64 t.args.length) (.int .i64 i) t.enc) (y := .bool (t.pats.all Pat.right)) (n := .bool false)
    (by rw [eq_term_lists_8h]; simp [l3])
    (fun i h => by
      rw [eq_term_lists_8h]
      simp [h, dIdx_map h, Ty.eta, sp_typ_Check _ (ht.arg1 _ (List.getElem_mem h)), dAdd1 (show i < 9223372036854775807 by omega)]
      cases t.args[i].right <;> rfl)
  have l1 := loop_all (l := t.vars) (f := fun v => decide (0 ≤ v) && decide (v ≤ 1048576)) (P := fun i => P_term_lists_2h (run cfg) (encInts t.vars) (.int .i64 t.vars.length) (.int .i64 i) t.enc) (y := .bool (t.args.all Ty.right && t.pats.all Pat.right)) (n := .bool false)
    (by rw [eq_term_lists_2h]; simp only [dBin_lss, Int.lt_irrefl, decide_false, ob_some', oif_bool, Bool.false_eq_true, if_false, Tm.proj17, dLen_list, List.length_map, l2, ite_andB])
    (fun i h => by
      rw [eq_term_lists_2h]
      simp [h, dIdx_ints h, dAdd1 (show i < 9223372036854775807 by omega)]
      by_cases h1 : t.vars[i] < 0
      · simp [h1, show ¬ 0 ≤ t.vars[i] by omega]
      · by_cases h2 : 1048576 < t.vars[i]
        · simp [h1, h2, show ¬ t.vars[i] ≤ 1048576 by omega]
        · simp [h1, h2, show 0 ≤ t.vars[i] by omega, show t.vars[i] ≤ 1048576 by omega])
  rw [eq_term_lists]
  simp only [isAggN_Tm, og_true', Tm.proj10, dLen_ints, ob_some', l1, ite_andB, Tm.lists, Bool.and_assoc]

theorem sp_term_one (t : Tm) (ht : t.fit1) : (run cfg).p F_term_one [t.enc] = some (.bool t.one) := by
  refine call_term_one _ ?_
  obtain ⟨d, h1, h2, h3⟩ := sp_term_shapeOf t ht
  rw [eq_term_one]
  have x0 : ∀ b, dExt 0 (.tup [d, .bool b]) = some d := fun _ => rfl
  have x1 : ∀ b, dExt 1 (.tup [d, .bool b]) = some (.bool b) := fun _ => rfl
  simp only [isAggN_Tm, og_true', Tm.proj0, Tm.proj1, Tm.proj2, Tm.proj3, Tm.proj4, Tm.proj5, Tm.proj6, Tm.proj7, Tm.proj8, Tm.proj9, Tm.proj10, Tm.proj11, Tm.proj12, Tm.proj13, Tm.proj14, Tm.proj15, Tm.proj16, Tm.proj17, Tm.proj18, Tm.proj19, Tm.eta, Ty.eta, h1, x0, x1, ob_some', h3, dUn_not, ogd_bool]
  cases hk : kOk t.kind t.pats.length
  · simp [Tm.one, hk]
  rw [h2 hk]
  have p0 : proj 0 (shapeD t.kind t.pats.length) = .bool (kName t.kind) := rfl
  have p1 : proj 1 (shapeD t.kind t.pats.length) = .bool (kArg t.kind) := rfl
  have p2 : proj 2 (shapeD t.kind t.pats.length) = .bool (kN t.kind) := rfl
  have p3 : proj 3 (shapeD t.kind t.pats.length) = .bool (kS t.kind) := rfl
  have p4 : proj 4 (shapeD t.kind t.pats.length) = .bool (kOp t.kind) := rfl
  have p5 : proj 5 (shapeD t.kind t.pats.length) = .bool (kAt t.kind) := rfl
  have p6 : proj 6 (shapeD t.kind t.pats.length) = .bool (kVars t.kind) := rfl
  have p7 : proj 7 (shapeD t.kind t.pats.length) = .bool (kArgs t.kind) := rfl
  have p8 : proj 8 (shapeD t.kind t.pats.length) = .bool (kPats t.kind) := rfl
  have p9 : proj 9 (shapeD t.kind t.pats.length) = .bool (kA t.kind) := rfl
  have p10 : proj 10 (shapeD t.kind t.pats.length) = .bool (kB t.kind) := rfl
  have p11 : proj 11 (shapeD t.kind t.pats.length) = .bool (kLabel t.kind) := rfl
  have p12 : proj 12 (shapeD t.kind t.pats.length) = .int .i64 (kKids t.kind t.pats.length) := rfl
  have h12 : P_term_one_12 (run cfg) t.enc (shapeD t.kind t.pats.length) = some (.bool t.one5) := by
    rw [eq_term_one_12]
    simp only [p6, p7, p8, Tm.proj0, Tm.proj1, Tm.proj2, Tm.proj3, Tm.proj4, Tm.proj5, Tm.proj6, Tm.proj7, Tm.proj8, Tm.proj9, Tm.proj10, Tm.proj11, Tm.proj12, Tm.proj13, Tm.proj14, Tm.proj15, Tm.proj16, Tm.proj17, Tm.proj18, Tm.proj19, Tm.eta, sp_term_lists t ht, dLen_list, dLen_ints, List.length_map, ob_some', dUn_not, ogd_bool, oif_bool, dBin_gtr, Tm.one5]
    cases kVars t.kind <;> cases kArgs t.kind <;> cases kPats t.kind <;> by_cases v : t.vars.length = 0 <;> by_cases a : t.args.length = 0 <;> by_cases p : t.pats.length = 0 <;> simp [v, a, p, Nat.pos_iff_ne_zero]
  have h10 : P_term_one_10 (run cfg) t.enc (shapeD t.kind t.pats.length) = some (.bool t.one4) := by
    rw [eq_term_one_10]
    simp only [p11, Tm.proj8, Tm.proj9, h12, ob_some', dUn_not, ogd_bool, oif_bool, dBin_gtr, dBin_lss, dBin_neq, Tm.one4]
    by_cases a : t.label < 0
    · have a' : ¬ 0 ≤ t.label := by omega
      cases kLabel t.kind <;> cases t.neg <;> by_cases v : t.label = 0 <;> simp [a, a', v]
    · have a' : 0 ≤ t.label := by omega
      by_cases p : 1048576 < t.label
      · have p' : ¬ t.label ≤ 1048576 := by omega
        cases kLabel t.kind <;> cases t.neg <;> by_cases v : t.label = 0 <;> simp [a, a', p, p', v]
      · have p' : t.label ≤ 1048576 := by omega
        cases kLabel t.kind <;> cases t.neg <;> by_cases v : t.label = 0 <;> simp [a, a', p, p', v]
  have h8 : P_term_one_8 (run cfg) t.enc (shapeD t.kind t.pats.length) = some (.bool t.one3) := by
    rw [eq_term_one_8]
    simp only [p4, Tm.proj7, h10, ob_some', dUn_not, ogd_bool, oif_bool, dBin_gtr, dBin_lss, dBin_neq, Tm.one3]
    cases kOp t.kind
    · by_cases v : t.op = 0 <;> simp [v]
    · by_cases a : t.op < 1
      · simp [a, show ¬ 1 ≤ t.op by omega]
      · by_cases p : 7 < t.op
        · simp [a, p, show ¬ t.op ≤ 7 by omega]
        · simp [a, p, show 1 ≤ t.op by omega, show t.op ≤ 7 by omega]
  have hs : ∀ n : Nat, dBin .gtr (.int .i64 (n : Int)) (.int .i64 200) = some (.bool (decide (200 < n))) := fun n => by
    rw [dBin_gtr]; congr 2; rw [decide_eq_decide]; omega
  have h6 : P_term_one_6 (run cfg) t.enc (shapeD t.kind t.pats.length) = some (.bool t.one2) := by
    rw [eq_term_one_6]
    simp only [p3, p5, Tm.proj6, Tm.proj1, Tm.proj2, h8, ob_some', dUn_not, ogd_bool, oif_bool, dLenS_str, hs, nil_str, dBin_sneq, dEqA_two, Tm.one2]
    generalize t.s.size = z
    by_cases a : 200 < z
    · have : ¬ z ≤ 200 := by omega
      cases kS t.kind <;> by_cases v : t.s = nil8 <;> simp [a, v, this]
    · have : z ≤ 200 := by omega
      cases kS t.kind <;> cases kAt t.kind <;> by_cases v : t.s = nil8 <;> by_cases x : t.lo = 0 <;> by_cases y : t.hi = 0 <;> simp [a, v, x, y, this]
  have h4 : P_term_one_4 (run cfg) t.enc (shapeD t.kind t.pats.length) = some (.bool t.one1) := by
    rw [eq_term_one_4]
    simp only [p2, Tm.proj5, Tm.proj0, h6, ob_some', dUn_not, ogd_bool, oif_bool, dBin_neq, dBin_eql, Tm.one1]
    cases kN t.kind <;> by_cases v : t.kind = 3 <;> by_cases x : t.n = 0 <;> by_cases y : t.n = 1 <;> simp [v, x, y]
  simp only [p0, p1, p9, p10, p12, sp_term_named _ _ ht.name, sp_term_named _ _ ht.arg, sp_term_typed _ _ ht.a, sp_term_typed _ _ ht.b, h4, dLen_list, List.length_map, ob_some', dUn_not, ogd_bool, oif_bool, dBin_neq, Tm.one, hk]
  by_cases v : (t.kids.length : Int) = kKids t.kind t.pats.length <;> cases namedB (kName t.kind) t.name <;> cases namedB (kArg t.kind) t.arg <;> cases typedB (kA t.kind) t.a <;> cases typedB (kB t.kind) t.b <;> simp [v]

theorem sp_term_right (t : Tm) : t.fit → (run cfg).p F_term_right [t.enc] = some (.bool t.right) := by
  induction t using Tm.ind with
  | h t ih =>
    intro ht
    have hk := big (Nat.le_of_lt ht.one.kids)
    refine call_term_right _ ?_
    have loop := loop_allB (l := t.kids) (f := Tm.right) (P := fun i => P_term_right_4h (run cfg) (.list 20 (t.kids.map Tm.enc)) (.int .i64 t.kids.length) (.int .i64 i))
      (by rw [eq_term_right_4h]; simp)
      (fun i h => by
        rw [eq_term_right_4h]
        simp [h, dIdx_map h, Tm.eta, ih _ (List.getElem_mem h) (ht.kid (List.getElem_mem h)), dAdd1 (show i < 9223372036854775807 by omega)]
        cases t.kids[i].right <;> rfl)
    rw [eq_term_right, Tm.right_eq]
    simp [Tm.eta, sp_term_one t ht.one, loop]
    cases t.one <;> simp

theorem sp_term_Check (t : Tm) (ht : t.fit) : (run cfg).p F_term_Check [t.enc] = some (.int .i64 (if t.right = true then 0 else 1)) := by
  refine call_term_Check _ ?_
  rw [eq_term_Check]
  simp [Tm.eta, sp_term_right t ht]
  cases t.right <;> rfl

theorem sp_slices_Index (l : List Int) (hl : l.length ≤ lim) (n : Int) : ∃ k : Int, (run cfg).p F_slices_Index__int_int [encInts l, .int .i64 n] = some (.int .i64 k) ∧ (0 ≤ k ↔ n ∈ l) := by
  have hb := big hl
  have loop : ∀ (m i : Nat), i + m = l.length → ∃ k : Int, P_slices_Index__int_int_2h (run cfg) (encInts l) (.int .i64 n) (.int .i64 l.length) (.int .i64 i) = some (.int .i64 k) ∧ (0 ≤ k ↔ n ∈ l.drop i) := by
    intro m
    induction m with
    | zero =>
      intro i hi
      have : ¬ i < l.length := by omega
      rw [eq_slices_Index__int_int_2h]
      exact ⟨-1, by simp [this], by simp [List.drop_of_length_le (show l.length ≤ i by omega)]⟩
    | succ m ihm =>
      intro i hi
      have h : i < l.length := by omega
      rw [eq_slices_Index__int_int_2h, List.drop_eq_getElem_cons h]
      by_cases e : n = l[i]
      · exact ⟨i, by simp [h, dIdx_ints h, e], ⟨fun _ => by rw [e]; exact List.mem_cons_self .., fun _ => by omega⟩⟩
      · obtain ⟨k, h1, h2⟩ := ihm (i + 1) (by omega)
        push_cast at h1
        refine ⟨k, by simp [h, dIdx_ints h, e, dAdd1 (show i < 9223372036854775807 by omega), h1], ?_⟩
        rw [h2, List.mem_cons]
        simp [e]
  obtain ⟨k, h1, h2⟩ := loop l.length 0 (by omega)
  refine ⟨k, call_slices_Index__int_int _ _ ?_, by simpa using h2⟩
  rw [eq_slices_Index__int_int]
  simpa using h1

theorem sp_slices_Contains (l : List Int) (hl : l.length ≤ lim) (n : Int) : (run cfg).p F_slices_Contains__int_int [encInts l, .int .i64 n] = some (.bool (decide (n ∈ l))) := by
  refine call_slices_Contains__int_int _ _ ?_
  rw [eq_slices_Contains__int_int]
  obtain ⟨k, h1, h2⟩ := sp_slices_Index l hl n
  simp [h1, h2]

/-- Under each variable the place of its first type. -/
def FirstIs (es : List (DV × DV)) (l : List (Int × Ty)) : Prop :=
  ∀ v, match mGet es (.int .i64 v) with
    | none => ∀ e ∈ l, e.1 ≠ v
    | some d => ∃ (i : Nat) (h : i < l.length), d = .int .i64 i ∧ l[i].1 = v ∧ ∀ j (hj : j < i), (l[j]'(by omega)).1 ≠ v

theorem FirstIs.look {es : List (DV × DV)} {l : List (Int × Ty)} (h : FirstIs es l) (v : Int) : (mGet es (.int .i64 v) = none ∧ look l v = none) ∨ ∃ (i : Nat) (hi : i < l.length), mGet es (.int .i64 v) = some (.int .i64 i) ∧ look l v = some l[i].2 := by
  have := h v
  cases hm : mGet es (.int .i64 v) with
  | none =>
    rw [hm] at this
    left
    refine ⟨rfl, ?_⟩
    unfold Su.look
    rw [List.find?_eq_none.2]
    · rfl
    · intro e he; simpa using this e he
  | some d =>
    rw [hm] at this
    obtain ⟨i, hi, rfl, h1, h2⟩ := this
    right
    refine ⟨i, hi, rfl, ?_⟩
    unfold Su.look
    have : l.find? (fun e => decide (e.1 = v)) = some l[i] := by
      rw [List.find?_eq_some_iff_getElem]
      refine ⟨by simpa using h1, i, hi, rfl, fun j hj => ?_⟩
      simpa using h2 j hj
    rw [this]
    rfl

@[simp] theorem encBnd0 (e : Int × Ty) : proj 0 (encBnd e) = .int .i64 e.1 := rfl

@[simp] theorem encBnd1 (e : Int × Ty) : proj 1 (encBnd e) = .int .i64 e.2.kind := rfl

@[simp] theorem encBnd2 (e : Int × Ty) : proj 2 (encBnd e) = .int .i64 e.2.n := rfl

@[simp] theorem encBnd3 (e : Int × Ty) : proj 3 (encBnd e) = .list 3 (e.2.kids.map Ty.enc) := rfl

@[simp] theorem isAggN_Bnd (e : Int × Ty) : isAggN 4 (encBnd e) = true := rfl

theorem sp_scheme_put (l : List (Int × Ty)) (es : List (DV × DV)) (hf : FirstIs es l) (i : Nat) (sg : List SObj) (hm : sgMap sg i = some (false, es)) (t : Ty) : t.right = true →
    (run cfg).r F_scheme_put [(t.enc, .val), (encBnds l, .val), (.undef, .map i)] sg = some ([(t.put l).enc], sg) := by
  induction t using Ty.ind with
  | h t ih =>
    intro ht
    have hb := t.thin_len (Ty.thin_of_right ht)
    refine call_scheme_put _ _ _ _ ?_
    rw [eq_scheme_put, Ty.put_eq]
    by_cases h6 : t.kind = 6
    · have e6 : DV.agg [.int .i64 6, .int .i64 t.n, .list 3 (t.kids.map Ty.enc)] = t.enc := by rw [← h6]; exact Ty.eta t
      rcases hf.look t.n with ⟨h1, h2⟩ | ⟨j, hj, h1, h2⟩
      · simp [h6, hm, h1, h2, e6]
      · have e1 : dIdx 4 (encBnds l) (.int .i64 (j : Int)) = some (encBnd l[j]) := dIdx_map hj
        simp [h6, hm, h1, h2, e1, Ty.eta]
    · have loop := loop_fold (l := t.kids) (P := fun j (a : List Ty) => P_scheme_put_10h (run cfg) (encBnds l) i (.list 3 (t.kids.map Ty.enc)) (.int .i64 t.kids.length) (.int .i64 j) (.int .i64 0) (.int .i64 0) (.list 3 []) (.int .i64 t.kind) (.int .i64 0) (.list 3 (a.map Ty.enc)) sg)
        (g := fun a k => a ++ [k.put l]) (fin := fun a => some ([(Ty.mk t.kind 0 a).enc], sg)) (I := fun j a => a.length = j)
        (fun a _ => by rw [eq_scheme_put_10h]; simp [Ty.enc_eq])
        (fun j h a ha => by
          refine ⟨?_, by simp [ha]⟩
          rw [eq_scheme_put_10h]
          have := dApp_map (e := Ty.enc) (sz := 3) (l := a) (x := t.kids[j].put l) (by unfold lim; omega)
          simp [h, dIdx_map h, Ty.eta, ih _ (List.getElem_mem h) (Ty.right_kid ht (List.getElem_mem h)), this, dAdd1 (show j < 9223372036854775807 by omega)]) [] rfl
      have e : ∀ (m : List Ty) (a : List Ty), m.foldl (fun a k => a ++ [k.put l]) a = a ++ m.map (Ty.put l) := by
        intro m
        induction m with
        | nil => intro a; simp
        | cons x m ih => intro a; simp [ih]
      rw [e] at loop
      have hn : t.n = 0 := by have := (Ty.right_iff.1 ht).2.2.2.1; omega
      by_cases h0 : t.kids.length = 0
      · have hk : t.kids = [] := List.eq_nil_of_length_eq_zero h0
        simp only [if_neg h6, hk, List.map_nil, Ty.enc_eq (Ty.mk t.kind t.n [])]
        simp [h6, hk]
        try (rw [Ty.enc_eq t, hk]; rfl)
      · have h0' : ¬ ((t.kids.length : Int) = 0) := by omega
        simp only [List.map_nil, List.nil_append] at loop
        have h0'' : ¬ t.kids = [] := fun h => h0 (by rw [h]; rfl)
        simp [h6, h0', h0'', hn, loop]

theorem sp_scheme_Subst (t : Ty) (l : List (Int × Ty)) (ht : t.thin = true) (hl : l.length ≤ lim) (hlt : ∀ e ∈ l, e.2.thin = true) :
    (run cfg).p F_scheme_Subst [t.enc, encBnds l] = some (if t.right = true ∧ rightBinds l = true then .tup [(t.put l).enc, .int .i64 0] else .tup [zeroTy.enc, .int .i64 1]) := by
  have hb := big hl
  have z : zeroTy.enc = .agg [.int .i64 0, .int .i64 0, .list 3 []] := by rw [Ty.enc_eq]; rfl
  refine call_scheme_Subst _ _ ?_
  rw [eq_scheme_Subst]
  by_cases hr : t.right = true
  · have loop : ∀ (m i : Nat) (es : List (DV × DV)), i + m = l.length → FirstIs es (l.take i) → (l.take i).all (fun e => decide (0 ≤ e.1) && decide (e.1 ≤ 1048576) && e.2.right) = true →
        P_scheme_Subst_5h (run cfg) (encBnds l) (encBnds l) (.int .i64 l.length) (.int .i64 i) t.enc (.int .i64 0) (.int .i64 0) (.list 3 []) [.map false es] = some (if rightBinds l = true then .tup [(t.put l).enc, .int .i64 0] else .tup [zeroTy.enc, .int .i64 1]) := by
      intro m
      induction m with
      | zero =>
        intro i es hi hf ha
        rw [List.take_of_length_le (by omega)] at hf ha
        have : ¬ i < l.length := by omega
        rw [eq_scheme_Subst_5h]
        have hp := sp_scheme_put l es hf 0 [.map false es] rfl t hr
        have ha' : rightBinds l = true := ha
        simp [this, Ty.eta, hp, ha']
      | succ m ihm =>
        intro i es hi hf ha
        have h : i < l.length := by omega
        have hmem : l[i] ∈ l := List.getElem_mem h
        have ha' : ¬ (0 ≤ l[i].1 ∧ l[i].1 ≤ 1048576 ∧ l[i].2.right = true) → rightBinds l = false := by
          intro hh
          rw [Bool.eq_false_iff]
          intro h'
          exact hh (rightBinds_iff.1 h' _ hmem)
        rw [eq_scheme_Subst_5h]
        have e1 : dIdx 4 (encBnds l) (.int .i64 (i : Int)) = some (encBnd l[i]) := dIdx_map h
        by_cases h1 : l[i].1 < 0
        · simp [h, e1, h1, ha' (by omega), z]
        by_cases h2 : 1048576 < l[i].1
        · simp [h, e1, h1, h2, ha' (by omega), z]
        cases h3 : l[i].2.right
        · simp [h, e1, h1, h2, Ty.eta, sp_typ_Check _ (hlt _ hmem), h3, ha' (by simp [h3]), z]
        have hm : sgMap [SObj.map false es] 0 = some (false, es) := rfl
        have hall : (l.take (i + 1)).all (fun e => decide (0 ≤ e.1) && decide (e.1 ≤ 1048576) && e.2.right) = true := by
          rw [List.take_succ_eq_append_getElem h, List.all_append, ha]
          have h1' : 0 ≤ l[i].1 := by omega
          have h2' : l[i].1 ≤ 1048576 := by omega
          simp [h1', h2', h3]
        have hlen : (l.take i).length = i := by simp; omega
        cases hg : mGet es (.int .i64 l[i].1) with
        | none =>
          have nx := ihm (i + 1) (mSet es (.int .i64 l[i].1) (.int .i64 i)) (by omega) (by
            intro v
            rw [mGet_setI]
            by_cases e : l[i].1 = v
            · rw [if_pos e]
              refine ⟨i, by simp; omega, rfl, by simpa using e, fun j hj => ?_⟩
              have := hf l[i].1
              rw [hg] at this
              have := this l[j] (List.mem_take_iff_getElem.2 ⟨j, by omega, rfl⟩)
              simpa [e] using this
            · rw [if_neg e]
              have := hf v
              cases hv : mGet es (.int .i64 v) with
              | none =>
                rw [hv] at this
                intro x hx
                rw [List.take_succ_eq_append_getElem h, List.mem_append, List.mem_singleton] at hx
                rcases hx with hx | rfl
                · exact this x hx
                · exact e
              | some d =>
                rw [hv] at this
                obtain ⟨k, hk, a, b, c⟩ := this
                rw [hlen] at hk
                refine ⟨k, by simp; omega, a, by simpa using b, fun j hj => by simpa using c j hj⟩) hall
          push_cast at nx
          simp [h, e1, h1, h2, Ty.eta, sp_typ_Check _ (hlt _ hmem), h3, hm, hg, dAdd1 (show i < 9223372036854775807 by omega), nx]
        | some d =>
          have nx := ihm (i + 1) es (by omega) (by
            intro v
            have := hf v
            cases hv : mGet es (.int .i64 v) with
            | none =>
              rw [hv] at this
              intro x hx
              rw [List.take_succ_eq_append_getElem h, List.mem_append, List.mem_singleton] at hx
              rcases hx with hx | rfl
              · exact this x hx
              · intro e; rw [e, hv] at hg; cases hg
            | some d =>
              rw [hv] at this
              obtain ⟨k, hk, a, b, c⟩ := this
              rw [hlen] at hk
              refine ⟨k, by simp; omega, a, by simpa using b, fun j hj => by simpa using c j hj⟩) hall
          push_cast at nx
          simp [h, e1, h1, h2, Ty.eta, sp_typ_Check _ (hlt _ hmem), h3, hm, hg, dAdd1 (show i < 9223372036854775807 by omega), nx]
    have l0 := loop l.length 0 [] (by omega) (fun v => by simp [mGet]) (by simp)
    simp only [Int.natCast_zero, Int.ofNat_zero, Int.cast_ofNat_Int] at l0
    have dl : dLen (encBnds l) = some (.int .i64 l.length) := by simp [encBnds]
    simp [Ty.eta, sp_typ_Check t ht, hr, dl, l0]
  · simp [Ty.eta, sp_typ_Check t ht, hr, z]

theorem Nm.agg (n : ByteArray) (t : Ty) (vs : List Int) : DV.agg [.str n, .int .i64 t.kind, .int .i64 t.n, .list 3 (t.kids.map Ty.enc), encInts vs] = Nm.enc ⟨n, t, vs⟩ := rfl

theorem sp_l11_Small (ts : List Ty) (hl : ts.length ≤ lim) (h : ∀ t ∈ ts, t.size ≤ lim) : ∃ b : Bool, (run cfg).p F_l11_Small [.list 3 (ts.map Ty.enc)] = some (.bool b) := by
  have hb := big hl
  have loop : ∀ (n j : Nat), j + n = ts.length → ∃ b : Bool, P_l11_Small_2h (run cfg) (.list 3 (ts.map Ty.enc)) (.int .i64 j) = some (.bool b) := by
    intro n
    induction n with
    | zero =>
      intro j hj
      refine ⟨true, ?_⟩
      have : ¬ j < ts.length := by omega
      rw [eq_l11_Small_2h]
      simp [this]
    | succ n ih =>
      intro j hj
      have hj' : j < ts.length := by omega
      obtain ⟨b, hb'⟩ := ih (j + 1) (by omega)
      have hsz := h _ (List.getElem_mem hj')
      have hth := Ty.thin_of_size hsz
      obtain ⟨c, hc⟩ := sp_l03_Heavy1 ts[j] hth
      have hd := sp_r08_Deep ts[j] 60 (by omega) (by omega) hth
      have hv := sp_r03_Vars ts[j] hsz
      push_cast at hb'
      rw [eq_l11_Small_2h]
      cases c
      · cases hdd : ts[j].deep 60
        · by_cases hq : (8 : Int) < (ts[j].vars.length : Int)
          · exact ⟨false, by simp [hj', dIdx_map hj', Ty.eta, hc, hd, hdd, hv, hq]⟩
          · exact ⟨b, by simp [hj', dIdx_map hj', Ty.eta, hc, hd, hdd, hv, hq, dAdd1 (show j < 9223372036854775807 by omega), hb']⟩
        · exact ⟨false, by simp [hj', dIdx_map hj', Ty.eta, hc, hd, hdd]⟩
      · exact ⟨false, by simp [hj', dIdx_map hj', Ty.eta, hc]⟩
  obtain ⟨b, h1⟩ := loop ts.length 0 (by omega)
  refine ⟨b, call_l11_Small _ ?_⟩
  rw [eq_l11_Small]
  exact h1

theorem cd1 (e : Int) : cellDat [((.int .i64 e : DV), Meta.val)] 0 = some (.int .i64 e) := rfl

theorem e4 : errOk 4 := .inl rfl

theorem e6 : errOk 6 := .inr (.inl rfl)

def Deriv.fit (d : Deriv) : Prop := d.types.length < lim ∧ d.vars.length < lim ∧ d.kids.length < lim ∧ (∀ t ∈ d.types, t.thin = true) ∧ ∀ k : { x // x ∈ d.kids }, Deriv.fit k.1
termination_by SizeOf.sizeOf d
decreasing_by exact Deriv.kid_lt k.2

def Deriv.put (l : List (Int × Ty)) : Deriv → Deriv
  | .mk ts vs ks => .mk (ts.map (Ty.put l)) vs (ks.map (Deriv.put l))

def Ty.plain (K : Int → Bool) : Ty → Ty
  | .mk k n ks => if k = 6 ∧ K n = false then .mk 5 0 [] else .mk k n (ks.map (Ty.plain K))

def Deriv.plain (K : Int → Bool) : Deriv → Deriv
  | .mk ts vs ks => .mk (ts.map (Ty.plain K)) vs (ks.map (Deriv.plain K))

theorem Tm.kid_size {t : Tm} {n : Nat} (h : t.size ≤ n) {k : Tm} (hk : k ∈ t.kids) : k.size ≤ n := by
  have := Tm.size_kid hk
  omega

theorem foldl_size (l : List Tm) : ∀ a : Nat, l.foldl (fun a k => a + k.size) a = a + (l.map Tm.size).sum := by
  induction l with
  | nil => intro a; simp
  | cons x l ih => intro a; simp [ih]; omega

theorem sp_term_Size (t : Tm) : t.size ≤ lim → (run cfg).p F_term_Size [t.enc] = some (.int .i64 t.size) := by
  induction t using Tm.ind with
  | h t ih =>
    intro ht
    have hb := big (Nat.le_trans (Nat.le_of_lt t.len_lt) ht)
    refine call_term_Size _ ?_
    rw [eq_term_Size]
    simp only [isAggN_Tm, og_true', Tm.proj19, dLen_list, List.length_map, ob_some']
    have loop := loop_fold (l := t.kids) (P := fun i (a : Nat) => P_term_Size_3h (run cfg) (.int .i64 a) (.list 20 (t.kids.map Tm.enc)) (.int .i64 t.kids.length) (.int .i64 i)) (g := fun a k => a + k.size) (fin := fun a => some (.int .i64 a))
      (I := fun i a => a + ((t.kids.drop i).map Tm.size).sum ≤ lim)
      (fun a _ => by rw [eq_term_Size_3h]; simp)
      (fun i h a ha => by
        rw [List.drop_eq_getElem_cons h, List.map_cons, List.sum_cons] at ha
        have := big ha
        refine ⟨?_, by omega⟩
        rw [eq_term_Size_3h]
        simp [h, dIdx_map h, Tm.eta, ih _ (List.getElem_mem h) (Tm.kid_size ht (List.getElem_mem h)), dAdd1 (show i < 9223372036854775807 by omega)]
        rw [dAdd (by omega) (by omega)]
        simp) 1 (by have := Tm.size_eq t; simpa using (by omega : 1 + (t.kids.map Tm.size).sum ≤ lim))
    rw [foldl_size, ← Tm.size_eq] at loop
    exact loop

theorem sp_eqf_Ty (l m : List Ty) (hl : l.length ≤ lim) (ht : ∀ t ∈ l, t.thin = true) (sg : List SObj) :
    (run cfg).r F_slices_EqualFunc__api_Type__api_Type_api_Type_api_Type [(.list 3 (l.map Ty.enc), .val), (.list 3 (m.map Ty.enc), .val), (.undef, .fn F_typ_Same [])] sg = some ([.bool (decide (l = m))], sg) := by
  have hb := big hl
  refine call_slices_EqualFunc__api_Type__api_Type_api_Type_api_Type _ _ _ ?_
  rw [eq_slices_EqualFunc__api_Type__api_Type_api_Type_api_Type]
  by_cases h5 : l.length = m.length
  · have loop := loop_two (l := l) (m := m) h5 (P := fun i => P_slices_EqualFunc__api_Type__api_Type_api_Type_api_Type_4h (run cfg) (.list 3 (m.map Ty.enc)) (.list 3 (l.map Ty.enc)) (.int .i64 l.length) (.int .i64 i) sg) (y := ([.bool true], sg)) (n := ([.bool false], sg))
      (by rw [eq_slices_EqualFunc__api_Type__api_Type_api_Type_api_Type_4h]; simp)
      (fun i h => by
        have h' : i < m.length := by omega
        rw [eq_slices_EqualFunc__api_Type__api_Type_api_Type_api_Type_4h]
        simp [h, h', dIdx_map h, dIdx_map h', Ty.eta, sp_typ_Same _ (ht _ (List.getElem_mem h)), dAdd1 (show i < 9223372036854775807 by omega)])
    simp [h5] at loop ⊢
    simp only [← h5] at loop ⊢
    rw [loop]
    by_cases e : l = m <;> simp [e]
  · have : l ≠ m := fun h => h5 (by rw [h])
    simp [Int.ofNat_inj, h5, this]

theorem sp_eqf_Pat (l m : List Pat) (hl : l.length ≤ lim) (ht : ∀ t ∈ l, ∀ u, (run cfg).p F_term_samePat [t.enc, u.enc] = some (.bool (decide (t = u)))) (sg : List SObj) :
    (run cfg).r F_slices_EqualFunc__api_Pat__api_Pat_api_Pat_api_Pat [(.list 7 (l.map Pat.enc), .val), (.list 7 (m.map Pat.enc), .val), (.undef, .fn F_term_samePat [])] sg = some ([.bool (decide (l = m))], sg) := by
  have hb := big hl
  refine call_slices_EqualFunc__api_Pat__api_Pat_api_Pat_api_Pat _ _ _ ?_
  rw [eq_slices_EqualFunc__api_Pat__api_Pat_api_Pat_api_Pat]
  by_cases h5 : l.length = m.length
  · have loop := loop_two (l := l) (m := m) h5 (P := fun i => P_slices_EqualFunc__api_Pat__api_Pat_api_Pat_api_Pat_4h (run cfg) (.list 7 (m.map Pat.enc)) (.list 7 (l.map Pat.enc)) (.int .i64 l.length) (.int .i64 i) sg) (y := ([.bool true], sg)) (n := ([.bool false], sg))
      (by rw [eq_slices_EqualFunc__api_Pat__api_Pat_api_Pat_api_Pat_4h]; simp)
      (fun i h => by
        have h' : i < m.length := by omega
        rw [eq_slices_EqualFunc__api_Pat__api_Pat_api_Pat_api_Pat_4h]
        simp [h, h', dIdx_map h, dIdx_map h', Pat.eta, ht _ (List.getElem_mem h), dAdd1 (show i < 9223372036854775807 by omega)])
    simp [h5] at loop ⊢
    simp only [← h5] at loop ⊢
    rw [loop]
    by_cases e : l = m <;> simp [e]
  · have : l ≠ m := fun h => h5 (by rw [h])
    simp [Int.ofNat_inj, h5, this]

theorem sp_eqf_Tm (l m : List Tm) (hl : l.length ≤ lim) (ht : ∀ t ∈ l, ∀ u, (run cfg).p F_term_Same [t.enc, u.enc] = some (.bool (decide (t = u)))) (sg : List SObj) :
    (run cfg).r F_slices_EqualFunc__api_Term__api_Term_api_Term_api_Term [(.list 20 (l.map Tm.enc), .val), (.list 20 (m.map Tm.enc), .val), (.undef, .fn F_term_Same [])] sg = some ([.bool (decide (l = m))], sg) := by
  have hb := big hl
  refine call_slices_EqualFunc__api_Term__api_Term_api_Term_api_Term _ _ _ ?_
  rw [eq_slices_EqualFunc__api_Term__api_Term_api_Term_api_Term]
  by_cases h5 : l.length = m.length
  · have loop := loop_two (l := l) (m := m) h5 (P := fun i => P_slices_EqualFunc__api_Term__api_Term_api_Term_api_Term_4h (run cfg) (.list 20 (m.map Tm.enc)) (.list 20 (l.map Tm.enc)) (.int .i64 l.length) (.int .i64 i) sg) (y := ([.bool true], sg)) (n := ([.bool false], sg))
      (by rw [eq_slices_EqualFunc__api_Term__api_Term_api_Term_api_Term_4h]; simp)
      (fun i h => by
        have h' : i < m.length := by omega
        rw [eq_slices_EqualFunc__api_Term__api_Term_api_Term_api_Term_4h]
        simp [h, h', dIdx_map h, dIdx_map h', Tm.eta, ht _ (List.getElem_mem h), dAdd1 (show i < 9223372036854775807 by omega)])
    simp [h5] at loop ⊢
    simp only [← h5] at loop ⊢
    rw [loop]
    by_cases e : l = m <;> simp [e]
  · have : l ≠ m := fun h => h5 (by rw [h])
    simp [Int.ofNat_inj, h5, this]

theorem sp_slices_Equal (l m : List Int) (hl : l.length ≤ lim) : (run cfg).p F_slices_Equal__int_int [encInts l, encInts m] = some (.bool (decide (l = m))) := by
  have hb := big hl
  refine call_slices_Equal__int_int _ _ ?_
  rw [eq_slices_Equal__int_int]
  by_cases h5 : l.length = m.length
  · have loop := loop_two (l := l) (m := m) h5 (P := fun i => P_slices_Equal__int_int_4h (run cfg) (encInts l) (encInts m) (.int .i64 l.length) (.int .i64 i)) (y := DV.bool true) (n := DV.bool false)
      (by rw [eq_slices_Equal__int_int_4h]; simp)
      (fun i h => by
        have h' : i < m.length := by omega
        rw [eq_slices_Equal__int_int_4h]
        simp [h, h', dIdx_ints h, dIdx_ints h', dAdd1 (show i < 9223372036854775807 by omega)])
    simp [h5] at loop ⊢
    simp only [← h5] at loop ⊢
    rw [loop]
    by_cases e : l = m <;> simp [e]
  · have : l ≠ m := fun h => h5 (by rw [h])
    simp [Int.ofNat_inj, h5, this]

theorem sp_term_samePat (a : Pat) : a.thin = true → ∀ b : Pat, (run cfg).p F_term_samePat [a.enc, b.enc] = some (.bool (decide (a = b))) := by
  induction a using Pat.ind with
  | h a ih =>
    intro ha b
    have hb := a.thin_len ha
    have kids := sp_eqf_Pat a.kids b.kids (by unfold lim; omega) (fun t ht u => ih t ht (Pat.thin_kid ha ht) u) []
    refine call_term_samePat _ _ ?_
    rw [eq_term_samePat]
    simp [Pat.ext_iff', kids]
    by_cases h1 : a.kind = b.kind <;> simp [h1]
    by_cases h2 : a.lo = b.lo <;> simp [h2]
    by_cases h3 : a.hi = b.hi <;> simp [h3]
    by_cases h4 : a.name = b.name <;> simp [h4]
    by_cases h5 : a.n = b.n <;> simp [h5]
    by_cases h6 : a.s = b.s <;> simp [h6]

theorem sp_term_Same (a : Tm) : a.fit → ∀ b : Tm, (run cfg).p F_term_Same [a.enc, b.enc] = some (.bool (decide (a = b))) := by
  induction a using Tm.ind with
  | h a ih =>
    intro ha b
    have kids := fun sg => sp_eqf_Tm a.kids b.kids (Nat.le_of_lt ha.one.kids) (fun t ht u => ih t ht (ha.kid ht) u) sg
    have pats := fun sg => sp_eqf_Pat a.pats b.pats (Nat.le_of_lt ha.one.pats) (fun t ht u => sp_term_samePat t (Pat.fit_thin (ha.one.pat t ht)) u) sg
    have args := fun sg => sp_eqf_Ty a.args b.args (Nat.le_of_lt ha.one.args) ha.one.arg1 sg
    have vars := sp_slices_Equal a.vars b.vars (Nat.le_of_lt ha.one.vars)
    have sa := sp_typ_Same a.a ha.one.a b.a
    have sb := sp_typ_Same a.b ha.one.b b.b
    refine call_term_Same _ _ ?_
    rw [eq_term_Same]
    simp [Tm.ext_iff']
    by_cases h1 : a.kind = b.kind <;> simp [h1]
    by_cases h2 : a.lo = b.lo <;> simp [h2]
    by_cases h3 : a.hi = b.hi <;> simp [h3]
    by_cases h4 : a.name = b.name <;> simp [h4]
    by_cases h5 : a.arg = b.arg <;> simp [h5]
    by_cases h6 : a.n = b.n <;> simp [h6]
    by_cases h7 : a.s = b.s <;> simp [h7]
    by_cases h8 : a.op = b.op <;> simp [h8]
    by_cases h9 : a.label = b.label <;> simp [h9]
    by_cases h10 : a.neg = b.neg <;> simp [h10]
    rw [eq_term_Same_3]
    simp [vars, Ty.eta, sa, sb, args, pats, kids]
    by_cases k1 : a.vars = b.vars <;> simp [k1]
    by_cases k2 : a.a = b.a <;> simp [k2]
    by_cases k3 : a.b = b.b <;> simp [k3]
    by_cases k4 : a.args = b.args <;> simp [k4]
    by_cases k5 : a.pats = b.pats <;> simp [k5]

theorem encStrs_nil : (.list 1 [] : DV) = encStrs [] := rfl

theorem encStrs_one (s : ByteArray) : (.list 1 [.str s] : DV) = encStrs [s] := rfl

theorem encStrs_two (s t : ByteArray) : (.list 1 [.str s, .str t] : DV) = encStrs [s, t] := rfl

theorem sp_term_patNames (t : Pat) : ∀ (l : List ByteArray) (sg : List SObj), l.length + t.size ≤ lim → (run cfg).r F_term_patNames [(t.enc, .val), (encStrs l, .own)] sg = some ([encStrs (t.namesOn l)], sg) := by
  induction t using Pat.ind with
  | h t ih =>
    intro l sg hl
    have hb := Pat.thin_len _ (Pat.thin_of_size (show t.size ≤ lim by omega))
    have hB := big hl
    refine call_term_patNames _ _ _ ?_
    have loop : ∀ l : List ByteArray, l.length + (t.kids.map Pat.size).sum ≤ lim → P_term_patNames_4h (run cfg) (encStrs l) (.list 7 (t.kids.map Pat.enc)) (.int .i64 t.kids.length) (.int .i64 0) sg = some ([encStrs (t.kids.foldl (fun l k => k.namesOn l) l)], sg) :=
      loop_fold (l := t.kids) (P := fun i (a : List ByteArray) => P_term_patNames_4h (run cfg) (encStrs a) (.list 7 (t.kids.map Pat.enc)) (.int .i64 t.kids.length) (.int .i64 i) sg) (g := fun a k => k.namesOn a) (fin := fun a => some ([encStrs a], sg))
        (I := fun i a => a.length + ((t.kids.drop i).map Pat.size).sum ≤ lim)
        (fun a _ => by rw [eq_term_patNames_4h]; simp)
        (fun i h a ha => by
          rw [List.drop_eq_getElem_cons h, List.map_cons, List.sum_cons] at ha
          have h1 := Pat.namesOn_len t.kids[i] a
          refine ⟨?_, by omega⟩
          rw [eq_term_patNames_4h]
          simp [h, dIdx_map h, Pat.eta, ih _ (List.getElem_mem h) a sg (by omega), dAdd1 (show i < 9223372036854775807 by omega)])
    have hsz := Pat.size_eq t
    rw [eq_term_patNames, Pat.namesOn_eq]
    simp
    by_cases h6 : t.kind = 2
    · simp [h6]
      rw [show encStrs l = .list 1 (l.map fun n => .str n) from rfl, dApp_list (by simp; omega)]
      have := loop (l ++ [t.name]) (by simp; omega)
      simpa [encStrs] using this
    · simp [h6, loop l (by omega)]

theorem sp_term_binds (t : Tm) (ht : t.fit1) (i : Nat) (hi : t.kind = 14 → i ≤ t.pats.length) : (run cfg).p F_term_binds [t.enc, .int .i64 i] = some (encStrs (t.binds i)) := by
  have hp := big (Nat.le_of_lt ht.pats)
  refine call_term_binds _ _ ?_
  have p5 : ¬ (t.kind = 9 ∨ (t.kind = 11 ∧ i = 1) ∨ (t.kind = 12 ∧ i = 1)) → P_term_binds_5 (run cfg) (.int .i64 i) t.enc = some (encStrs (t.binds i)) := by
    intro h
    rw [eq_term_binds_5]
    unfold Tm.binds
    rw [if_neg h]
    by_cases h1 : t.kind = 12
    · simp [h1, encStrs_two]
    · by_cases h2 : t.kind = 14
      · by_cases h3 : 0 < i
        · have hlt : i - 1 < t.pats.length := by have := hi h2; omega
          have e1 : dBin .sub (.int .i64 (i : Int)) (.int .i64 1) = some (.int .i64 ((i - 1 : Nat) : Int)) := by
            rw [dBin_sub, wrap_id (by omega) (by have := hi h2; omega)]
            congr 3
            omega
          have nm := sp_term_patNames t.pats[i - 1] [] [] (by have := (ht.pat _ (List.getElem_mem hlt)).size; simpa using this)
          rw [← encStrs_nil] at nm
          simp [h1, h2, h3, e1, dIdx_map hlt, Pat.eta, nm, List.getElem?_eq_getElem hlt, Pat.names]
        · simp [h1, h2, h3, encStrs_nil]
      · simp [h1, h2, encStrs_nil]
  have one : t.kind = 9 ∨ (t.kind = 11 ∧ i = 1) ∨ (t.kind = 12 ∧ i = 1) → t.binds i = [t.name] := fun h => by unfold Tm.binds; rw [if_pos h]
  rw [eq_term_binds]
  have i1 : decide ((i : Int) = 1) = decide (i = 1) := by rw [decide_eq_decide]; omega
  by_cases h9 : t.kind = 9
  · simp [h9, one (.inl h9), encStrs_one]
  · by_cases h11 : t.kind = 11
    · by_cases h1 : i = 1
      · have o1 := one (.inr (.inl ⟨h11, h1⟩))
        subst h1
        simp [h11, o1, encStrs_one]
      · have := p5 (by rintro (h | h | h); exact h9 h; exact h1 h.2; exact h1 h.2)
        simp [h11, h1, i1, this]
    · by_cases h12 : t.kind = 12
      · by_cases h1 : i = 1
        · have o1 := one (.inr (.inr ⟨h12, h1⟩))
          subst h1
          simp [h12, o1, encStrs_one]
        · have := p5 (by rintro (h | h | h); exact h9 h; exact h1 h.2; exact h1 h.2)
          simp [h12, h1, i1, this]
      · have := p5 (by rintro (h | h | h); exact h9 h; exact h11 h.1; exact h12 h.1)
        simp [h9, h11, h12, this]

theorem sp_keep_Texts (l m : List ByteArray) (hl : l.length ≤ lim) : (run cfg).p F_keep_Texts [encStrs l, encStrs m] = some (.bool (decide (l = m))) := by
  have hb := big hl
  refine call_keep_Texts _ _ ?_
  rw [eq_keep_Texts]
  by_cases h5 : l.length = m.length
  · have loop := loop_two (l := l) (m := m) h5 (P := fun i => P_keep_Texts_4h (run cfg) (encStrs l) (encStrs m) (.int .i64 i)) (y := DV.bool true) (n := DV.bool false)
      (by rw [eq_keep_Texts_4h]; simp)
      (fun i h => by
        have h' : i < m.length := by omega
        rw [eq_keep_Texts_4h]
        simp [h, h', dIdx_strs h, dIdx_strs h', dAdd1 (show i < 9223372036854775807 by omega)])
    simp [h5] at loop ⊢
    rw [loop]
    by_cases e : l = m <;> simp [e]
  · have : l ≠ m := fun h => h5 (by rw [h])
    simp [Int.ofNat_inj, h5, this]

/-- How often a name is bound. -/
def cn (L : List ByteArray) (s : ByteArray) : Int := ((L.countP fun x => decide (x = s)) : Nat)

theorem cn_pos (L : List ByteArray) (s : ByteArray) : 0 ≤ cn L s := by unfold cn; omega

theorem cn_le (L : List ByteArray) (s : ByteArray) : cn L s ≤ L.length := by
  unfold cn
  have := List.countP_le_length (p := fun x => decide (x = s)) (l := L)
  omega

theorem cn_zero (L : List ByteArray) (s : ByteArray) : decide (cn L s = 0) = !(L.any fun x => decide (x = s)) := by
  unfold cn
  rw [Bool.eq_iff_iff]
  simp only [decide_eq_true_eq, Bool.not_eq_true', List.any_eq_false, decide_eq_true_eq]
  rw [show ((L.countP fun x => decide (x = s) : Nat) : Int) = 0 ↔ (L.countP fun x => decide (x = s)) = 0 by omega, List.countP_eq_zero]
  simp

theorem cn_inc {es : List (DV × DV)} {L : List ByteArray} (h : CntS es (cn L)) (s : ByteArray) : CntS (mSet es (.str s) (.int .i64 (cn L s + 1))) (cn (L ++ [s])) := by
  intro v
  rw [h.set s (cn L s + 1) v]
  congr 1
  unfold cn
  by_cases e : s = v
  · subst e; simp [List.countP_append]
  · simp [List.countP_append, e]

theorem cn_dec {es : List (DV × DV)} {A D : List ByteArray} {s : ByteArray} (h : CntS es (cn (A ++ s :: D))) : CntS (mSet es (.str s) (.int .i64 (cn (A ++ s :: D) s - 1))) (cn (A ++ D)) := by
  intro v
  rw [h.set s (cn (A ++ s :: D) s - 1) v]
  congr 1
  unfold cn
  by_cases e : s = v
  · subst e; simp [List.countP_append]; omega
  · simp [List.countP_append, e]

def sgT (O B : List (DV × DV)) : List SObj := [.map true O, .map true B]

theorem sp_term_free (t : Tm) : t.fit → t.right = true → ∀ (O B : List (DV × DV)) (P : ByteArray → Prop) (L : List ByteArray), KeysAre O P → CntS B (cn L) → L.length + 2 * t.mass ≤ lim →
    ∃ O' B', (run cfg).r F_term_free [(t.enc, .val), (.undef, .map 1), (.undef, .map 0)] (sgT O B) = some ([], sgT O' B') ∧ KeysAre O' (fun s => P s ∨ s ∈ t.fr L) ∧ CntS B' (cn L) := by
  induction t using Tm.ind with
  | h t ih =>
    intro ft rt O B P L hO hB hL
    have hk := big (Nat.le_of_lt ft.one.kids)
    have hm0 := t.mass_pos
    -- the names of one kid, unbound
    have l14 : ∀ (l : List ByteArray) (i : DV) (k : Nat), L.length + l.length ≤ lim → ∀ (n j : Nat) (O B : List (DV × DV)), j + n = l.length → CntS B (cn (L ++ l.drop j)) →
        ∃ B', P_term_free_14h (run cfg) 1 0 (.list 20 (t.kids.map Tm.enc)) (.int .i64 t.kids.length) i (encStrs l) (.int .i64 l.length) (.int .i64 (j : Int)) t.enc (sgT O B) =
          (ob (dBin .add i (.int .i64 1)) fun d => P_term_free_4h (run cfg) 1 0 (.list 20 (t.kids.map Tm.enc)) (.int .i64 t.kids.length) d t.enc (sgT O B')) ∧ CntS B' (cn L) := by
      intro l i _ hl n
      have hlb := big hl
      induction n with
      | zero =>
        intro j O B hj hc
        have e : j = l.length := by omega
        subst e
        refine ⟨B, ?_, by rwa [List.drop_length, List.append_nil] at hc⟩
        rw [eq_term_free_14h]
        simp
      | succ n ihn =>
        intro j O B hj hc
        have h : j < l.length := by omega
        rw [List.drop_eq_getElem_cons h] at hc
        obtain ⟨B', h1, h2⟩ := ihn (j + 1) O (mSet B (.str l[j]) (.int .i64 (cn (L ++ l[j] :: l.drop (j + 1)) l[j] - 1))) (by omega) (cn_dec hc)
        refine ⟨B', ?_, h2⟩
        rw [eq_term_free_14h]
        have c1 := hc l[j]
        have c2 := cn_pos (L ++ l[j] :: l.drop (j + 1)) l[j]
        have c3 := cn_le (L ++ l[j] :: l.drop (j + 1)) l[j]
        have c4 : (L ++ l[j] :: l.drop (j + 1)).length ≤ 4294967296 := by simp; unfold lim at hl; omega
        have e1 : dBin .sub (.int .i64 (cn (L ++ l[j] :: l.drop (j + 1)) l[j])) (.int .i64 1) = some (.int .i64 (cn (L ++ l[j] :: l.drop (j + 1)) l[j] - 1)) := by
          rw [dBin_sub, wrap_id (by omega) (by omega)]
        simp only [dBin_lss, Int.ofNat_lt, h, decide_true, ob_some', oif_bool, if_true, dIdx_strs h, isLeaf_str, og_true', isKey_str, Bool.and_true, sgT, sgMap, List.getElem?_cons_succ, List.getElem?_cons_zero, BEq.rfl, c1, e1, dAdd1 (show j < 9223372036854775807 by omega), List.set_cons_succ, List.set_cons_zero]
        exact h1
    -- the names of one kid, bound
    have l8 : ∀ (l : List ByteArray) (i : DV) (k : Tm) (O : List (DV × DV)) (Z : List (DV × DV) → Option (List DV × List SObj)), L.length + l.length ≤ lim → (∀ B, CntS B (cn (L ++ l)) → (ob ((run cfg).r F_term_free [(k.enc, .val), (.undef, .map 1), (.undef, .map 0)] (sgT O B)) fun q => P_term_free_14h (run cfg) 1 0 (.list 20 (t.kids.map Tm.enc)) (.int .i64 t.kids.length) i (encStrs l) (.int .i64 l.length) (.int .i64 0) t.enc q.2) = Z B) →
        ∀ (n j : Nat) (B : List (DV × DV)), j + n = l.length → CntS B (cn (L ++ l.take j)) →
        ∃ B', P_term_free_8h (run cfg) 1 0 (encStrs l) (.list 20 (t.kids.map Tm.enc)) (.int .i64 t.kids.length) i (encStrs l) (.int .i64 l.length) (.int .i64 (j : Int)) t.enc k.enc (sgT O B) = Z B' ∧ CntS B' (cn (L ++ l)) := by
      intro l i k O Z hl hZ n
      have hlb := big hl
      induction n with
      | zero =>
        intro j B hj hc
        have e : j = l.length := by omega
        subst e
        rw [List.take_length] at hc
        refine ⟨B, ?_, hc⟩
        rw [eq_term_free_8h, ← hZ B hc]
        simp [Tm.eta]
      | succ n ihn =>
        intro j B hj hc
        have h : j < l.length := by omega
        have hc' := cn_inc hc l[j]
        rw [List.append_assoc, ← List.take_succ_eq_append_getElem h] at hc'
        obtain ⟨B', h1, h2⟩ := ihn (j + 1) (mSet B (.str l[j]) (.int .i64 (cn (L ++ l.take j) l[j] + 1))) (by omega) hc'
        refine ⟨B', ?_, h2⟩
        rw [eq_term_free_8h]
        have c1 := hc l[j]
        have c2 := cn_pos (L ++ l.take j) l[j]
        have c3 := cn_le (L ++ l.take j) l[j]
        have c4 : (L ++ l.take j).length ≤ 4294967296 := by simp; unfold lim at hl; omega
        simp only [dBin_lss, Int.ofNat_lt, h, decide_true, ob_some', oif_bool, if_true, dIdx_strs h, isLeaf_str, og_true', isKey_str, Bool.and_true, sgT, sgMap, List.getElem?_cons_succ, List.getElem?_cons_zero, BEq.rfl, c1, dAdd (show (-9223372036854775808 : Int) ≤ cn (L ++ l.take j) l[j] + 1 by omega) (show cn (L ++ l.take j) l[j] + 1 ≤ 9223372036854775807 by omega), dAdd1 (show j < 9223372036854775807 by omega), List.set_cons_succ, List.set_cons_zero]
        exact h1
    -- the kids
    have l4 : ∀ (n j : Nat) (O B : List (DV × DV)) (P : ByteArray → Prop), j + n = t.kids.length → KeysAre O P → CntS B (cn L) →
        ∃ O' B', P_term_free_4h (run cfg) 1 0 (.list 20 (t.kids.map Tm.enc)) (.int .i64 t.kids.length) (.int .i64 (j : Int)) t.enc (sgT O B) = some ([], sgT O' B') ∧ KeysAre O' (fun s => P s ∨ s ∈ Tm.frL t.binds j (t.kids.drop j) L) ∧ CntS B' (cn L) := by
      intro n
      induction n with
      | zero =>
        intro j O B P hj hO hB
        have e : j = t.kids.length := by omega
        subst e
        refine ⟨O, B, ?_, ?_, hB⟩
        · rw [eq_term_free_4h]; simp
        · rw [List.drop_length, Tm.frL_nil]
          exact hO.congr fun s => by simp
      | succ n ihn =>
        intro j O B P hj hO hB
        have h : j < t.kids.length := by omega
        have hm := t.binds_len j
        have hmk := mem_sum (f := Tm.mass) (List.getElem_mem h)
        have hbi := sp_term_binds t ft.one j (fun h14 => by have := Tm.kids14 rt h14; omega)
        have hll : L.length + (t.binds j).length ≤ lim := by omega
        -- the kid itself
        obtain ⟨O1, k1, k2, k3, k4⟩ : ∃ O1 B1, (P_term_free_8h (run cfg) 1 0 (encStrs (t.binds j)) (.list 20 (t.kids.map Tm.enc)) (.int .i64 t.kids.length) (.int .i64 (j : Int)) (encStrs (t.binds j)) (.int .i64 (t.binds j).length) (.int .i64 0) t.enc t.kids[j].enc (sgT O B) =
            P_term_free_14h (run cfg) 1 0 (.list 20 (t.kids.map Tm.enc)) (.int .i64 t.kids.length) (.int .i64 (j : Int)) (encStrs (t.binds j)) (.int .i64 (t.binds j).length) (.int .i64 0) t.enc (sgT O1 B1)) ∧ KeysAre O1 (fun s => P s ∨ s ∈ t.kids[j].fr (L ++ t.binds j)) ∧ CntS B1 (cn (L ++ t.binds j)) := by
          obtain ⟨B', e1, e2⟩ := l8 (t.binds j) (.int .i64 (j : Int)) t.kids[j] O _ hll (fun B _ => rfl) (t.binds j).length 0 B (by omega) (by rw [List.take_zero, List.append_nil]; exact hB)
          obtain ⟨O1, B1, f1, f2, f3⟩ := ih _ (List.getElem_mem h) (ft.kid (List.getElem_mem h)) (Tm.right_kid rt (List.getElem_mem h)) O B' P (L ++ t.binds j) hO e2 (by simp; omega)
          refine ⟨O1, B1, ?_, f2, f3⟩
          simp only [Int.natCast_zero, Int.ofNat_zero, Int.cast_ofNat_Int] at e1
          rw [e1, f1]
          rfl
        obtain ⟨B2, g1, g2⟩ := l14 (t.binds j) (.int .i64 (j : Int)) j hll (t.binds j).length 0 O1 k1 (by omega) (by rw [List.drop_zero]; exact k4)
        obtain ⟨O', B', i1, i2, i3⟩ := ihn (j + 1) O1 B2 _ (by omega) k3 g2
        refine ⟨O', B', ?_, ?_, i3⟩
        · rw [eq_term_free_4h]
          have ee : (DV.agg [proj 0 t.enc, proj 1 t.enc, proj 2 t.enc, proj 3 t.enc, proj 4 t.enc, proj 5 t.enc, proj 6 t.enc, proj 7 t.enc, proj 8 t.enc, proj 9 t.enc, proj 10 t.enc, proj 11 t.enc, proj 12 t.enc, proj 13 t.enc, proj 14 t.enc, proj 15 t.enc, proj 16 t.enc, proj 17 t.enc, proj 18 t.enc, proj 19 t.enc]) = t.enc := by simp [Tm.eta]
          simp only [dBin_lss, Int.ofNat_lt, h, decide_true, ob_some', oif_bool, if_true, dIdx_map h, ee, hbi, dLen_strs, k2]
          simp only [Int.natCast_zero, Int.ofNat_zero, Int.cast_ofNat_Int] at g1
          rw [g1, dAdd1 (by omega)]
          exact i1
        · refine i2.congr fun s => ?_
          rw [List.drop_eq_getElem_cons h, Tm.frL_cons, List.mem_append, or_assoc]
    have l3 : ∀ (O B : List (DV × DV)) (P : ByteArray → Prop), KeysAre O P → CntS B (cn L) → ∃ O' B', P_term_free_3 (run cfg) 1 0 t.enc (sgT O B) = some ([], sgT O' B') ∧ KeysAre O' (fun s => P s ∨ s ∈ Tm.frL t.binds 0 t.kids L) ∧ CntS B' (cn L) := by
      intro O B P hO hB
      obtain ⟨O', B', h1, h2, h3⟩ := l4 t.kids.length 0 O B P (by omega) hO hB
      refine ⟨O', B', ?_, by simpa using h2, h3⟩
      rw [eq_term_free_3]
      simpa using h1
    by_cases h1 : t.kind = 1 ∧ (L.any fun x => decide (x = t.name)) = false
    · obtain ⟨cnt, hcnt⟩ := hO.get t.name
      obtain ⟨O', B', e1, e2, e3⟩ := l3 (mSet O (.str t.name) (.int .i64 (IntKind.i64.wrap (cnt + 1)))) B _ (hO.set t.name _) hB
      refine ⟨O', B', call_term_free _ _ _ _ ?_, ?_, e3⟩
      · have cb := hB t.name
        have cz := cn_zero L t.name
        rw [h1.2, Bool.not_false] at cz
        rw [eq_term_free]
        simp only [isAggN_Tm, og_true', Tm.proj0, Tm.proj3, dBin_eql, ob_some', ogd_bool, h1.1, decide_true, if_true, isKey_str, Bool.and_true, sgT, sgMap, List.getElem?_cons_succ, List.getElem?_cons_zero, BEq.rfl, cb, cz, oif_bool, hcnt, dBin_add, List.set_cons_zero]
        exact e1
      · refine e2.congr fun s => ?_
        rw [Tm.fr_eq, if_pos h1]
        simp only [List.mem_append, List.mem_singleton]
        constructor
        · rintro ((h | h) | h)
          · exact .inr (.inl h)
          · exact .inl h
          · exact .inr (.inr h)
        · rintro (h | h | h)
          · exact .inl (.inr h)
          · exact .inl (.inl h)
          · exact .inr h
    · obtain ⟨O', B', e1, e2, e3⟩ := l3 O B P hO hB
      refine ⟨O', B', call_term_free _ _ _ _ ?_, ?_, e3⟩
      · have cb := hB t.name
        have cz := cn_zero L t.name
        rw [eq_term_free]
        by_cases hk1 : t.kind = 1
        · have : (L.any fun x => decide (x = t.name)) = true := by
            cases hh : L.any fun x => decide (x = t.name)
            · exact absurd ⟨hk1, hh⟩ h1
            · rfl
          rw [this, Bool.not_true] at cz
          simp only [isAggN_Tm, og_true', Tm.proj0, Tm.proj3, dBin_eql, ob_some', ogd_bool, hk1, decide_true, if_true, isKey_str, Bool.and_true, sgT, sgMap, List.getElem?_cons_succ, List.getElem?_cons_zero, BEq.rfl, cb, cz, oif_bool, Bool.false_eq_true, if_false]
          exact e1
        · simp only [isAggN_Tm, og_true', Tm.proj0, dBin_eql, ob_some', ogd_bool, hk1, decide_false, Bool.false_eq_true, if_false]
          exact e1
      · refine e2.congr fun s => ?_
        rw [Tm.fr_eq, if_neg h1, List.nil_append]

theorem sp_term_Free (t : Tm) (ft : t.fit) (hm : 2 * t.mass ≤ lim) : (run cfg).p F_term_Free [t.enc] = some (encStrs (if t.right = true then t.free else [])) := by
  refine call_term_Free _ ?_
  rw [eq_term_Free]
  cases rt : t.right
  · simp [Tm.eta, sp_term_right t ft, rt, encStrs_nil]
  · obtain ⟨O', B', h1, h2, -⟩ := sp_term_free t ft rt [] [] _ [] KeysAre.nil (fun v => rfl) (by simpa using hm)
    have h3 : KeysAre O' fun s => s ∈ t.free := h2.congr fun s => by rw [Tm.mem_free]; simp
    obtain ⟨h4, h5⟩ := sortKeys_rises h3 t.free_rises
    have hlen : O'.length ≤ lim := by
      have := t.free_len
      have := t.size_mass
      omega
    have h1' : (run cfg).r F_term_free [(t.enc, .val), (.undef, .map 1), (.undef, .map 0)] [.map true [], .map true []] = some ([], sgT O' B') := h1
    simp [Tm.eta, sp_term_right t ft, rt, h1', sgT, sgMap, hlen, h4]

theorem sp_slices_IndexS (l : List ByteArray) (hl : l.length ≤ lim) (n : ByteArray) : ∃ k : Int, (run cfg).p F_slices_Index__string_string [encStrs l, .str n] = some (.int .i64 k) ∧ (0 ≤ k ↔ (l.any fun x => decide (x = n)) = true) := by
  have hb := big hl
  have loop : ∀ (m i : Nat), i + m = l.length → ∃ k : Int, P_slices_Index__string_string_2h (run cfg) (encStrs l) (.str n) (.int .i64 l.length) (.int .i64 i) = some (.int .i64 k) ∧ (0 ≤ k ↔ ((l.drop i).any fun x => decide (x = n)) = true) := by
    intro m
    induction m with
    | zero =>
      intro i hi
      refine ⟨-1, ?_, ?_⟩
      · have : ¬ i < l.length := by omega
        rw [eq_slices_Index__string_string_2h]
        simp [this]
      · rw [List.drop_of_length_le (by omega)]; simp
    | succ m ih =>
      intro i hi
      have h : i < l.length := by omega
      rw [eq_slices_Index__string_string_2h, List.drop_eq_getElem_cons h]
      by_cases e : n = l[i]
      · refine ⟨i, by simp [h, dIdx_strs h, e], ?_⟩
        simp [← e]
      · obtain ⟨k, h1, h2⟩ := ih (i + 1) (by omega)
        push_cast at h1
        refine ⟨k, by simp [h, dIdx_strs h, e, dAdd1 (show i < 9223372036854775807 by omega), h1], ?_⟩
        rw [h2, List.any_cons]
        have : decide (l[i] = n) = false := by simpa using fun h' => e h'.symm
        rw [this, Bool.false_or]
  obtain ⟨k, h1, h2⟩ := loop l.length 0 (by omega)
  refine ⟨k, call_slices_Index__string_string _ _ ?_, by simpa using h2⟩
  rw [eq_slices_Index__string_string]
  simpa using h1

theorem sp_slices_ContainsS (l : List ByteArray) (hl : l.length ≤ lim) (n : ByteArray) : (run cfg).p F_slices_Contains__string_string [encStrs l, .str n] = some (.bool (l.any fun x => decide (x = n))) := by
  refine call_slices_Contains__string_string _ _ ?_
  rw [eq_slices_Contains__string_string]
  obtain ⟨k, h1, h2⟩ := sp_slices_IndexS l hl n
  simp only [h1, ob_some', dBin_geq]
  congr 2
  rw [Bool.eq_iff_iff, ← h2]
  simp

/-- What is put: the name, no variables, the term. -/
def putBox (s : ByteArray) (v : Tm) : List (DV × Meta) :=
  [(.str s, .val), (.list 1 [], .val), (.int .i64 v.kind, .val), (.int .i64 v.lo, .val), (.int .i64 v.hi, .val), (.str v.name, .val), (.str v.arg, .val), (.int .i64 v.n, .val), (.str v.s, .val), (.int .i64 v.op, .val), (.int .i64 v.label, .val), (.bool v.neg, .val), (encInts v.vars, .val),
    (.int .i64 v.a.kind, .val), (.int .i64 v.a.n, .val), (.list 3 (v.a.kids.map Ty.enc), .val), (.int .i64 v.b.kind, .val), (.int .i64 v.b.n, .val), (.list 3 (v.b.kids.map Ty.enc), .val), (.list 3 (v.args.map Ty.enc), .val), (.list 7 (v.pats.map Pat.enc), .val), (.list 20 (v.kids.map Tm.enc), .val)]

theorem putBox_seg (s : ByteArray) (v : Tm) : ∃ e, segDat 2 20 (putBox s v) = some e ∧ DV.agg e = v.enc := ⟨_, rfl, by rw [Tm.enc_eq]⟩

theorem Tm.withKids_enc (t : Tm) (ks : List Tm) : DV.agg [.int .i64 t.kind, .int .i64 t.lo, .int .i64 t.hi, .str t.name, .str t.arg, .int .i64 t.n, .str t.s, .int .i64 t.op, .int .i64 t.label, .bool t.neg, encInts t.vars, .int .i64 t.a.kind, .int .i64 t.a.n, .list 3 (t.a.kids.map Ty.enc), .int .i64 t.b.kind, .int .i64 t.b.n, .list 3 (t.b.kids.map Ty.enc), .list 3 (t.args.map Ty.enc), .list 7 (t.pats.map Pat.enc), .list 20 (ks.map Tm.enc)] = (t.withKids ks).enc := by
  rw [Tm.enc_eq]; rfl

theorem sgArr_app (S J : List SObj) (z : Nat) (l : List DV) : sgArr (S ++ .arr z l :: J) S.length = some (z, l) := by
  unfold sgArr
  rw [List.getElem?_append_right (Nat.le_refl _), Nat.sub_self]
  rfl

theorem sgBox_app {S : List SObj} {c : List (DV × Meta)} (h : sgBox S 0 = some c) (J : List SObj) : sgBox (S ++ J) 0 = some c := by
  have hl := sgBox_lt h
  unfold sgBox at h ⊢
  rw [List.getElem?_append_left hl]
  exact h

theorem set_app (S J : List SObj) (x y : SObj) : (S ++ x :: J).set S.length y = S ++ y :: J := by
  rw [List.set_append_right _ _ (Nat.le_refl _), Nat.sub_self]
  rfl

noncomputable def inLoop (t : Tm) (m n : Nat) (j : Int) (sg : List SObj) : Option (List DV × List SObj) :=
  P_term_putting_in_19h (run cfg) 0 m n m n (.int .i64 n) (.int .i64 j) t.enc (.int .i64 0) (.int .i64 0) (.int .i64 0) (.str ⟨#[]⟩) (.str ⟨#[]⟩) (.int .i64 0) (.str ⟨#[]⟩) (.int .i64 0) (.int .i64 0) (.bool false) (.list 1 []) (.int .i64 0) (.int .i64 0) (.list 3 []) (.int .i64 0) (.int .i64 0) (.list 3 []) (.list 3 []) (.list 7 []) (.list 20 []) sg

theorem in_end (t : Tm) (S J : List SObj) (cur : List Tm) (hc : cur.length = t.kids.length) :
    inLoop t S.length t.kids.length t.kids.length (S ++ .arr 20 (cur.map Tm.enc) :: J) = some ([(t.withKids cur).enc, .bool true], S ++ .arr 1 [] :: J) := by
  unfold inLoop
  rw [eq_term_putting_in_19h]
  have e1 : dBin .lss (.int .i64 (t.kids.length : Int)) (.int .i64 (t.kids.length : Int)) = some (.bool false) := by simp
  have e2 : sealCell (S ++ .arr 20 (cur.map Tm.enc) :: J) (.undef, .arr S.length 20 0 t.kids.length) = some (.list 20 (cur.map Tm.enc)) := by
    simp only [sealCell, sgArr_app, ob_some', BEq.rfl, og_true', Nat.zero_add, List.length_map, hc, Nat.le_refl, if_true, List.drop_zero]
    rw [List.take_of_length_le (by simp [hc])]
  simp only [e1, ob_some', oif_bool, Bool.false_eq_true, if_false, sealCells, e2, seqO, Tm.proj0, Tm.proj1, Tm.proj2, Tm.proj3, Tm.proj4, Tm.proj5, Tm.proj6, Tm.proj7, Tm.proj8, Tm.proj9, Tm.proj10, Tm.proj11, Tm.proj12, Tm.proj13, Tm.proj14, Tm.proj15, Tm.proj16, Tm.proj17, Tm.proj18, set_app, Tm.withKids_enc]
  simp only [sealCell, ob_some', Tm.withKids_enc]

theorem sp_term_in (s : ByteArray) (v : Tm) (t : Tm) : t.fit → t.right = true → 2 * t.mass ≤ lim → ∀ S : List SObj, sgBox S 0 = some (putBox s v) →
    ∃ (J : List SObj) (u : Tm) (b : Bool), (run cfg).r F_term_putting_in [(.undef, .ptr 0 0), (t.enc, .val)] S = some ([u.enc, .bool b], S ++ J) ∧ t.put0 s v = (if b = true then some u else none) := by
  induction t using Tm.ind with
  | h t ih =>
    intro ft rt hm S hS
    have hk := big (Nat.le_of_lt ft.one.kids)
    have loop : ∀ (n j : Nat) (cur : List Tm) (J : List SObj), j + n = t.kids.length → cur.length = t.kids.length → (∀ i : Nat, j ≤ i → cur[i]? = t.kids[i]?) →
        ∃ (J' : List SObj) (u : Tm) (b : Bool), inLoop t S.length t.kids.length j (S ++ .arr 20 (cur.map Tm.enc) :: J) = some ([u.enc, .bool b], S ++ J') ∧
          (Tm.put0L t.binds j (t.kids.drop j) s v).map (fun ks => t.withKids (cur.take j ++ ks)) = (if b = true then some u else none) := by
      intro n
      induction n with
      | zero =>
        intro j cur J hj hc _
        have e : j = t.kids.length := by omega
        subst e
        refine ⟨_, _, _, in_end t S J cur hc, ?_⟩
        rw [List.drop_length, Tm.put0L_nil]
        simp [List.take_of_length_le (Nat.le_of_eq hc)]
      | succ n ihn =>
        intro j cur J hj hc hcur
        have h : j < t.kids.length := by omega
        have h' : j < cur.length := by omega
        have hcj : cur[j] = t.kids[j] := by
          have := hcur j (Nat.le_refl _)
          rw [List.getElem?_eq_getElem h, List.getElem?_eq_getElem h'] at this
          simpa using this
        have hmk := Tm.mass_kid (List.getElem_mem h)
        have hbl := t.binds_len j
        have hbi := sp_term_binds t ft.one j (fun h14 => by have := Tm.kids14 rt h14; omega)
        have hct := sp_slices_ContainsS (t.binds j) (by omega) s
        have ee : (DV.agg [proj 0 t.enc, proj 1 t.enc, proj 2 t.enc, proj 3 t.enc, proj 4 t.enc, proj 5 t.enc, proj 6 t.enc, proj 7 t.enc, proj 8 t.enc, proj 9 t.enc, proj 10 t.enc, proj 11 t.enc, proj 12 t.enc, proj 13 t.enc, proj 14 t.enc, proj 15 t.enc, proj 16 t.enc, proj 17 t.enc, proj 18 t.enc, proj 19 t.enc]) = t.enc := by simp [Tm.eta]
        have ek : ∀ k : Tm, (DV.agg [proj 0 k.enc, proj 1 k.enc, proj 2 k.enc, proj 3 k.enc, proj 4 k.enc, proj 5 k.enc, proj 6 k.enc, proj 7 k.enc, proj 8 k.enc, proj 9 k.enc, proj 10 k.enc, proj 11 k.enc, proj 12 k.enc, proj 13 k.enc, proj 14 k.enc, proj 15 k.enc, proj 16 k.enc, proj 17 k.enc, proj 18 k.enc, proj 19 k.enc]) = k.enc := fun k => by simp [Tm.eta]
        have a1 : arrIdx 0 t.kids.length (.int .i64 (j : Int)) = some j := by
          show (if (0 : Int) ≤ (j : Int) ∧ (j : Int) < (t.kids.length : Int) then some (0 + (j : Int).toNat) else none) = some j
          rw [if_pos ⟨by omega, by omega⟩]
          simp
        have g1 : (cur.map Tm.enc)[j]? = some t.kids[j].enc := by rw [List.getElem?_map, List.getElem?_eq_getElem h', hcj]; rfl
        have cd : cellDat (putBox s v) 0 = some (.str s) := rfl
        rw [List.drop_eq_getElem_cons h, Tm.put0L_cons]
        by_cases hb : ((t.binds j).any fun x => decide (x = s)) = true
        · obtain ⟨J', u, b, k1, k2⟩ := ihn (j + 1) cur J (by omega) hc (fun i hi => hcur i (by omega))
          refine ⟨J', u, b, ?_, ?_⟩
          · rw [← k1]
            unfold inLoop
            rw [eq_term_putting_in_19h]
            simp only [dBin_lss, Int.ofNat_lt, h, decide_true, ob_some', oif_bool, if_true, a1, sgArr_app, g1, BEq.rfl, og_true', ee, hbi, sgBox_app hS, cd, hct, hb]
            rw [dAdd1 (by omega)]
            rfl
          · rw [← k2, if_pos hb]
            simp only [Option.bind_some, Option.map_map]
            congr 1
            funext ks
            simp only [Function.comp_apply]
            rw [List.take_succ_eq_append_getElem h', hcj, List.append_assoc]
            rfl
        · have hb' : ((t.binds j).any fun x => decide (x = s)) = false := Bool.eq_false_iff.2 hb
          obtain ⟨J1, u1, b1, f1, f2⟩ := ih _ (List.getElem_mem h) (ft.kid (List.getElem_mem h)) (Tm.right_kid rt (List.getElem_mem h)) (by omega) (S ++ .arr 20 (cur.map Tm.enc) :: J) (sgBox_app hS _)
          rw [if_neg hb, f2]
          cases b1
          · refine ⟨.arr 20 (cur.map Tm.enc) :: J ++ J1, t, false, ?_, by simp⟩
            unfold inLoop
            rw [eq_term_putting_in_19h]
            simp only [dBin_lss, Int.ofNat_lt, h, decide_true, ob_some', oif_bool, if_true, a1, sgArr_app, g1, BEq.rfl, og_true', ee, ek, hbi, sgBox_app hS, cd, hct, hb', Bool.false_eq_true, if_false, f1, dExt, List.getElem?_cons_succ, List.getElem?_cons_zero, isAggN_Tm, dUn_not, Bool.not_false]
            rw [List.append_assoc]
          · obtain ⟨J', u, b, k1, k2⟩ := ihn (j + 1) (cur.set j u1) (J ++ J1) (by omega) (by simpa using hc) (fun i hi => by rw [List.getElem?_set_ne (by omega)]; exact hcur i (by omega))
            refine ⟨J', u, b, ?_, ?_⟩
            · rw [← k1]
              unfold inLoop
              rw [eq_term_putting_in_19h]
              simp only [dBin_lss, Int.ofNat_lt, h, decide_true, ob_some', oif_bool, if_true, a1, sgArr_app, g1, BEq.rfl, og_true', ee, ek, hbi, sgBox_app hS, cd, hct, hb', Bool.false_eq_true, if_false, f1, dExt, List.getElem?_cons_succ, List.getElem?_cons_zero, isAggN_Tm, dUn_not, Bool.not_true, List.append_assoc, List.cons_append, set_app]
              rw [dAdd1 (by omega)]
              simp only [ob_some', List.map_set]
              try rfl
            · rw [← k2]
              simp only [if_true, Option.bind_some, Option.map_map]
              congr 1
              funext ks
              simp only [Function.comp_apply]
              rw [List.take_succ_eq_append_getElem (by simpa using h'), List.append_assoc, List.take_set_of_le (Nat.le_refl _)]
              simp
    have ee : (DV.agg [proj 0 t.enc, proj 1 t.enc, proj 2 t.enc, proj 3 t.enc, proj 4 t.enc, proj 5 t.enc, proj 6 t.enc, proj 7 t.enc, proj 8 t.enc, proj 9 t.enc, proj 10 t.enc, proj 11 t.enc, proj 12 t.enc, proj 13 t.enc, proj 14 t.enc, proj 15 t.enc, proj 16 t.enc, proj 17 t.enc, proj 18 t.enc, proj 19 t.enc]) = t.enc := by simp [Tm.eta]
    by_cases h1 : t.kind = 1
    · by_cases h2 : t.name = s
      · by_cases h3 : t.args.length = 0
        · refine ⟨[], v, true, call_term_putting_in _ _ _ ?_, by rw [Tm.put0_eq, if_pos h1, if_pos h2, if_pos h3]; rfl⟩
          obtain ⟨e, e1, e2⟩ := putBox_seg s v
          have cd0 : cellDat (putBox s v) 0 = some (.str s) := rfl
          have cd1 : cellDat (putBox s v) 1 = some (.list 1 []) := rfl
          rw [eq_term_putting_in]
          simp only [ee]
          simp [h1, h2, h3, hS, cd0, cd1, e1, e2, Tm.eta]
        · refine ⟨[], t, false, call_term_putting_in _ _ _ ?_, by rw [Tm.put0_eq, if_pos h1, if_pos h2, if_neg h3]; rfl⟩
          have cd0 : cellDat (putBox s v) 0 = some (.str s) := rfl
          have cd1 : cellDat (putBox s v) 1 = some (.list 1 []) := rfl
          have h3' : ¬ (t.args.length : Int) = 0 := by omega
          rw [eq_term_putting_in]
          simp only [ee]
          simp [h1, h2, h3, h3', hS, cd0, cd1, Tm.eta]
      · refine ⟨[], t, true, call_term_putting_in _ _ _ ?_, by rw [Tm.put0_eq, if_pos h1, if_neg h2]; rfl⟩
        have cd0 : cellDat (putBox s v) 0 = some (.str s) := rfl
        rw [eq_term_putting_in]
        simp only [ee]
        simp [h1, h2, hS, cd0, Tm.eta]
    · by_cases h2 : t.kids.length = 0
      · have hnil : t.kids = [] := List.eq_nil_of_length_eq_zero h2
        refine ⟨[], t, true, call_term_putting_in _ _ _ ?_, ?_⟩
        · rw [eq_term_putting_in]
          simp [h1, h2, Tm.eta]
        · rw [Tm.put0_eq, if_neg h1, hnil, Tm.put0L_nil]
          simp only [Option.map_some, if_true]
          rw [← hnil, Tm.withKids_self]
      · obtain ⟨J, u, b, k1, k2⟩ := loop t.kids.length 0 t.kids [] (by omega) rfl (fun i _ => rfl)
        refine ⟨J, u, b, call_term_putting_in _ _ _ ?_, ?_⟩
        · rw [eq_term_putting_in]
          have h2' : ¬ (t.kids.length : Int) = 0 := by omega
          have hle : t.kids.length ≤ lim := Nat.le_of_lt ft.one.kids
          simp only [isAggN_Tm, og_true', Tm.proj0, dBin_eql, ob_some', h1, decide_false, oif_bool, Bool.false_eq_true, if_false, Tm.proj19, dLen_list, List.length_map, h2', dList_list, BEq.rfl, Bool.true_and, hle, decide_true]
          exact k1
        · rw [Tm.put0_eq, if_neg h1, ← k2]
          simp

/-- No term. -/
def zeroTm : Tm := .mk 0 0 0 nil8 nil8 0 nil8 0 0 false [] (.mk 0 0 []) (.mk 0 0 []) [] [] []

theorem zeroTm_agg : DV.agg [.int .i64 0, .int .i64 0, .int .i64 0, .str ⟨#[]⟩, .str ⟨#[]⟩, .int .i64 0, .str ⟨#[]⟩, .int .i64 0, .int .i64 0, .bool false, .list 1 [], .int .i64 0, .int .i64 0, .list 3 [], .int .i64 0, .int .i64 0, .list 3 [], .list 3 [], .list 7 [], .list 20 []] = zeroTm.enc := by
  rw [Tm.enc_eq]; rfl

/-- What substitution answers. -/
def putOut (o : Option Tm) : DV :=
  match o with
  | some u => .tup [u.enc, .int .i64 0]
  | none => .tup [zeroTm.enc, .int .i64 8]

theorem sp_term_For0 (t v : Tm) (s : ByteArray) (ft : t.fit) (rt : t.right = true) (hm : 2 * t.mass ≤ lim) : (run cfg).p F_term_For [t.enc, .str s, .list 1 [], v.enc] = some (putOut (t.put0 s v)) := by
  have ee : ∀ k : Tm, (DV.agg [proj 0 k.enc, proj 1 k.enc, proj 2 k.enc, proj 3 k.enc, proj 4 k.enc, proj 5 k.enc, proj 6 k.enc, proj 7 k.enc, proj 8 k.enc, proj 9 k.enc, proj 10 k.enc, proj 11 k.enc, proj 12 k.enc, proj 13 k.enc, proj 14 k.enc, proj 15 k.enc, proj 16 k.enc, proj 17 k.enc, proj 18 k.enc, proj 19 k.enc]) = k.enc := fun k => by simp [Tm.eta]
  obtain ⟨J, u, b, h1, h2⟩ := sp_term_in s v t ft rt hm [.box (putBox s v)] rfl
  refine call_term_For _ _ _ _ ?_
  rw [eq_term_For]
  have h1' : (run cfg).r F_term_putting_in [(.undef, .ptr 0 0), (t.enc, .val)] [SObj.box [(.str s, .val), (.list 1 [], .val), (proj 0 v.enc, .val), (proj 1 v.enc, .val), (proj 2 v.enc, .val), (proj 3 v.enc, .val), (proj 4 v.enc, .val), (proj 5 v.enc, .val), (proj 6 v.enc, .val), (proj 7 v.enc, .val), (proj 8 v.enc, .val), (proj 9 v.enc, .val), (proj 10 v.enc, .val), (proj 11 v.enc, .val), (proj 12 v.enc, .val), (proj 13 v.enc, .val), (proj 14 v.enc, .val), (proj 15 v.enc, .val), (proj 16 v.enc, .val), (proj 17 v.enc, .val), (proj 18 v.enc, .val), (proj 19 v.enc, .val)]] = some ([u.enc, .bool b], [.box (putBox s v)] ++ J) := by
    rw [← h1]
    simp [putBox]
  simp only [ee, isAggN_Tm, og_true', isCell_str, isCell_list, h1', ob_some', dExt, List.getElem?_cons_succ, List.getElem?_cons_zero, dUn_not, oif_bool, h2, zeroTm_agg]
  cases b <;> simp [putOut]

theorem sp_term_Put0 (t v : Tm) (s : ByteArray) (ft : t.fit) (fv : v.fit) (hm : 2 * t.mass ≤ lim) (hv : 2 * v.mass ≤ lim) (hs : s.size ≤ lim) :
    (run cfg).p F_term_Put [t.enc, .str s, .list 1 [], v.enc] = some (if t.right = true ∧ v.right = true ∧ nameB s = true ∧ v.free = [] then putOut (t.put0 s v) else .tup [zeroTm.enc, .int .i64 1]) := by
  have ee : ∀ k : Tm, (DV.agg [proj 0 k.enc, proj 1 k.enc, proj 2 k.enc, proj 3 k.enc, proj 4 k.enc, proj 5 k.enc, proj 6 k.enc, proj 7 k.enc, proj 8 k.enc, proj 9 k.enc, proj 10 k.enc, proj 11 k.enc, proj 12 k.enc, proj 13 k.enc, proj 14 k.enc, proj 15 k.enc, proj 16 k.enc, proj 17 k.enc, proj 18 k.enc, proj 19 k.enc]) = k.enc := fun k => by simp [Tm.eta]
  refine call_term_Put _ _ _ _ ?_
  rw [eq_term_Put]
  simp only [ee, isAggN_Tm, og_true', sp_term_right t ft, sp_term_right v fv, ob_some', dUn_not, ogd_bool, zeroTm_agg, sp_word_Name s hs]
  cases h1 : t.right
  · simp
  cases h2 : v.right
  · simp
  cases h3 : nameB s
  · simp
  have hF := sp_term_Free v fv hv
  rw [if_pos h2] at hF
  by_cases h4 : v.free = []
  · have hz := sp_term_For0 t v s ft h1 hm
    simp [hF, h4]
    rw [eq_term_Put_4h]
    simp [ee, Tm.eta, hz]
    cases t.put0 s v <;> simp [putOut, dExt, Tm.eta]
  · have : 0 < v.free.length := List.length_pos_iff.2 h4
    simp [hF, h4, this]

def sx : ByteArray := ⟨#[120]⟩

def sy : ByteArray := ⟨#[121]⟩

def leafTm (k : Int) (s : ByteArray) : Tm := .mk k 0 0 s nil8 0 nil8 0 0 false [] (.mk 0 0 []) (.mk 0 0 []) [] [] []

def wkPair (y : Tm) : Tm := .mk 6 0 0 nil8 nil8 0 nil8 0 0 false [] (.mk 0 0 []) (.mk 0 0 []) [] [] [leafTm 1 sx, y]

def wkF (y : Tm) : Tm := .mk 9 0 0 sx nil8 0 nil8 0 0 false [] (.mk 1 0 []) (.mk 0 0 []) [] [] [wkPair y]

theorem wk_nameY : nameB sy = true := by decide +kernel

theorem wk_nameX : nameB sx = true := by decide +kernel

theorem wk_none : (Ty.mk 0 0 []).none = true := by simp [Ty.none]

theorem wk_int : (Ty.mk 1 0 []).right = true := right_leaf (by omega)

theorem wk_rightN {s : ByteArray} (h : nameB s = true) : (leafTm 1 s).right = true := by
  rw [Tm.right_eq]
  simp [leafTm, Tm.one, Tm.one1, Tm.one2, Tm.one3, Tm.one4, Tm.one5, Tm.lists, kOk, kKids, kName, kArg, kN, kS, kOp, kAt, kVars, kArgs, kPats, kA, kB, kLabel, namedB, typedB, nil8_size, wk_none, h]

theorem wk_rightU : (leafTm 5 nil8).right = true := by
  rw [Tm.right_eq]
  simp [leafTm, Tm.one, Tm.one1, Tm.one2, Tm.one3, Tm.one4, Tm.one5, Tm.lists, kOk, kKids, kName, kArg, kN, kS, kOp, kAt, kVars, kArgs, kPats, kA, kB, kLabel, namedB, typedB, nil8_size, wk_none]

theorem wk_rightF {y : Tm} (h : y.right = true) : (wkF y).right = true := by
  rw [Tm.right_eq]
  have h1 : (wkPair y).right = true := by
    rw [Tm.right_eq]
    simp [wkPair, Tm.one, Tm.one1, Tm.one2, Tm.one3, Tm.one4, Tm.one5, Tm.lists, kOk, kKids, kName, kArg, kN, kS, kOp, kAt, kVars, kArgs, kPats, kA, kB, kLabel, namedB, typedB, nil8_size, wk_none, h, wk_rightN wk_nameX]
  simp [wkF, Tm.one, Tm.one1, Tm.one2, Tm.one3, Tm.one4, Tm.one5, Tm.lists, kOk, kKids, kName, kArg, kN, kS, kOp, kAt, kVars, kArgs, kPats, kA, kB, kLabel, namedB, typedB, nil8_size, wk_none, wk_int, wk_nameX, h1]

theorem wk_right : (wkF (leafTm 1 sy)).right = true := wk_rightF (wk_rightN wk_nameY)

theorem wk_rightG : (wkF (leafTm 5 nil8)).right = true := wk_rightF wk_rightU

theorem wk_free : (wkF (leafTm 1 sy)).free = [sy] := by kernel_rfl

theorem wk_freeG : (wkF (leafTm 5 nil8)).free = [] := by kernel_rfl

theorem wk_freeU : (leafTm 5 nil8).free = [] := by kernel_rfl

theorem wk_putY : (wkF (leafTm 1 sy)).put0 sy (leafTm 5 nil8) = some (wkF (leafTm 5 nil8)) := by kernel_rfl

theorem wk_putX : (wkF (leafTm 1 sy)).put0 sx (leafTm 5 nil8) = some (wkF (leafTm 1 sy)) := by kernel_rfl

theorem wk_rightZ : zeroTm.right = false := by
  rw [Tm.right_eq]
  simp [zeroTm, Tm.one, kOk]

theorem wk_mass (y : Tm) (h : y.mass ≤ 10) : (wkF y).mass ≤ 100 := by
  simp [wkF, wkPair, leafTm, Tm.mass_eq, Ty.size_eq, nil8_size] at h ⊢
  have : sx.size = 1 := rfl
  omega

theorem wk_massY : (leafTm 1 sy).mass ≤ 10 := by
  have : sy.size = 1 := rfl
  simp [leafTm, Tm.mass_eq, Ty.size_eq, nil8_size, this]

theorem wk_massU : (leafTm 5 nil8).mass ≤ 10 := by simp [leafTm, Tm.mass_eq, Ty.size_eq, nil8_size]

theorem wk_massZ : zeroTm.mass ≤ 10 := by simp [zeroTm, Tm.mass_eq, Ty.size_eq, nil8_size]

theorem wk_size : (wkF (leafTm 1 sy)).size = 4 := by simp [wkF, wkPair, leafTm, Tm.size_eq]

theorem wk_ne : wkF (leafTm 5 nil8) ≠ wkF (leafTm 1 sy) := by
  intro h
  have := congrArg (fun t => (t.kids.map fun k => k.kids.map Tm.kind)) h
  simp [wkF, wkPair, leafTm] at this

theorem w_l17_wakes : (run cfg).p F_l17_wakes [] = some (.bool true) := by
  have m1 := wk_mass _ wk_massY
  have m2 := wk_mass _ wk_massU
  have m3 := wk_massU
  have m4 := wk_massZ
  have f1 : (wkF (leafTm 1 sy)).fit := Tm.fit_mass (by omega)
  have f2 : (wkF (leafTm 5 nil8)).fit := Tm.fit_mass (by omega)
  have f3 : (leafTm 5 nil8).fit := Tm.fit_mass (by omega)
  have f4 : zeroTm.fit := Tm.fit_mass (by omega)
  have p1 := sp_term_Put0 (wkF (leafTm 1 sy)) (leafTm 5 nil8) sy f1 f3 (by unfold lim; omega) (by unfold lim; omega) (by decide)
  rw [if_pos ⟨wk_right, wk_rightU, wk_nameY, wk_freeU⟩, wk_putY] at p1
  have p2 := sp_term_Put0 (wkF (leafTm 1 sy)) (leafTm 5 nil8) sx f1 f3 (by unfold lim; omega) (by unfold lim; omega) (by decide)
  rw [if_pos ⟨wk_right, wk_rightU, wk_nameX, wk_freeU⟩, wk_putX] at p2
  have c1 := sp_term_Check _ f1
  have c2 := sp_term_Check _ f4
  rw [if_pos wk_right] at c1
  rw [wk_rightZ] at c2
  have z1 := sp_term_Size (wkF (leafTm 1 sy)) (by rw [wk_size]; unfold lim; omega)
  rw [wk_size] at z1
  have e1 := sp_term_Free _ f1 (by unfold lim; omega)
  rw [if_pos wk_right, wk_free] at e1
  have e2 := sp_term_Free _ f2 (by unfold lim; omega)
  rw [if_pos wk_rightG, wk_freeG] at e2
  have s1 := sp_term_Same _ f1 (wkF (leafTm 1 sy))
  have s2 := sp_term_Same _ f2 (wkF (leafTm 1 sy))
  rw [decide_eq_false wk_ne] at s2
  have t1 := sp_keep_Texts [sy] [sy] (by unfold lim; decide)
  have ee : ∀ k : Tm, (DV.agg [proj 0 k.enc, proj 1 k.enc, proj 2 k.enc, proj 3 k.enc, proj 4 k.enc, proj 5 k.enc, proj 6 k.enc, proj 7 k.enc, proj 8 k.enc, proj 9 k.enc, proj 10 k.enc, proj 11 k.enc, proj 12 k.enc, proj 13 k.enc, proj 14 k.enc, proj 15 k.enc, proj 16 k.enc, proj 17 k.enc, proj 18 k.enc, proj 19 k.enc]) = k.enc := fun k => by simp [Tm.eta]
  have n1 : ∀ s : ByteArray, (run cfg).p F_l17_name [.str s, .list 3 []] = some (leafTm 1 s).enc := fun s => by
    refine call_l17_name _ _ ?_
    rw [eq_l17_name, Tm.enc_eq]
    rfl
  have hx : (DV.str ⟨#[120]⟩) = .str sx := rfl
  have hy : (DV.str ⟨#[121]⟩) = .str sy := rfl
  have hE : (DV.agg [.int .i64 9, .int .i64 0, .int .i64 0, .str sx, .str ⟨#[]⟩, .int .i64 0, .str ⟨#[]⟩, .int .i64 0, .int .i64 0, .bool false, .list 1 [], .int .i64 1, .int .i64 0, .list 3 [], .int .i64 0, .int .i64 0, .list 3 [], .list 3 [], .list 7 [], .list 20 [.agg [.int .i64 6, .int .i64 0, .int .i64 0, .str ⟨#[]⟩, .str ⟨#[]⟩, .int .i64 0, .str ⟨#[]⟩, .int .i64 0, .int .i64 0, .bool false, .list 1 [], .int .i64 0, .int .i64 0, .list 3 [], .int .i64 0, .int .i64 0, .list 3 [], .list 3 [], .list 7 [], .list 20 [(leafTm 1 sx).enc, (leafTm 1 sy).enc]]]]) = (wkF (leafTm 1 sy)).enc := by
    rw [Tm.enc_eq (wkF _)]
    simp only [wkF, Tm.kids_mk, List.map_cons, List.map_nil, Tm.enc_eq (wkPair _)]
    rfl
  have hU : (DV.agg [.int .i64 5, .int .i64 0, .int .i64 0, .str ⟨#[]⟩, .str ⟨#[]⟩, .int .i64 0, .str ⟨#[]⟩, .int .i64 0, .int .i64 0, .bool false, .list 1 [], .int .i64 0, .int .i64 0, .list 3 [], .int .i64 0, .int .i64 0, .list 3 [], .list 3 [], .list 7 [], .list 20 []]) = (leafTm 5 nil8).enc := by
    rw [Tm.enc_eq]; rfl
  refine call_l17_wakes ?_
  rw [eq_l17_wakes]
  simp only [sp_r03_Leaf, ob_some', n1, hx, hy, isAggN_Tm, isAggN_Ty, og_true', Ty.proj0, Ty.proj1, Ty.proj2, Ty.kind_mk, Ty.n_mk, Ty.kids_mk, List.map_nil, hE, hU]
  simp only [p1, p2, putOut, ob_some', dExt, List.getElem?_cons_succ, List.getElem?_cons_zero, isAggN_Tm, og_true']
  rw [eq_l17_wakes_4]
  have hT : (DV.list 1 [.str sy]) = encStrs [sy] := rfl
  have d1 : dIdx 20 (DV.list 20 []) (.int .i64 0) = none := rfl
  have k1 : (wkF (leafTm 5 nil8)).kids.length = 1 := rfl
  simp only [ee]
  simp only [hE, zeroTm_agg, c1, c2, z1, e1, e2, s1, s2, hx, hy, hT, t1, ob_some', dBin_eql, ogd_bool, oif_bool, decide_true, if_true, Bool.false_eq_true, if_false, dLen_strs, List.length_nil, Tm.proj19, dLen_list, dUn_not, Bool.not_false, List.length_map, k1]
  simp

def noTy : Ty := .mk 0 0 []

/-- The fields of a kind. -/
noncomputable def fieldsX (t : Ex) : Ex := .mk t.kind 0 0 (if eName t.kind = true then t.name else nil8) (if eArg t.kind = true then t.arg else nil8) (if eN t.kind = true then t.n else 0) (if eS t.kind = true then t.s else nil8) (if eOp t.kind = true then t.op else 0)
  (if eA t.kind = true then t.a else noTy) (if eB t.kind = true then t.b else noTy) (if t.kind = 14 then t.pats else []) []

def manyX (t : Ex) : Int := if 1 ≤ t.kind ∧ t.kind ≤ 16 then eKids t.kind t.pats.length else -1

def Ex.own4 (t : Ex) : Bool :=
  if t.kind = 1 ∨ t.kind = 9 ∨ t.kind = 11 then nameB t.name else if t.kind = 12 then nameB t.name && nameB t.arg
  else if t.kind = 3 then decide (t.n = 0) || decide (t.n = 1) else if t.kind = 4 then decide (t.s.size ≤ 200)
  else if t.kind = 14 then decide (0 < t.pats.length) else if t.kind = 16 then decide (1 ≤ t.op) && decide (t.op ≤ 7) else true

def Ex.own3 (t : Ex) : Bool := (if t.a.none = true then !decide (t.kind = 15) else t.a.closed) && (if t.b.none = true then true else t.b.closed) && t.own4

noncomputable def Ex.own (t : Ex) : Bool := decide (manyX t = (t.kids.length : Int)) && decide (t.name = (fieldsX t).name) && decide (t.arg = (fieldsX t).arg) && decide (t.n = (fieldsX t).n) && decide (t.s = (fieldsX t).s) && decide (t.op = (fieldsX t).op) && decide (t.pats.length = (fieldsX t).pats.length) &&
  decide (t.a = (fieldsX t).a) && decide (t.b = (fieldsX t).b) && t.own3

@[simp] theorem isAggN_R3 (r : R3) : isAggN 15 r.enc = true := rfl

/-- A value that tells no coercions. -/
inductive Val.plain : Val → Prop where
  | mk (v : Val) : v.c = noCoer → v.kids.length < lim → (∀ k ∈ v.kids, k.plain) → v.plain

theorem Val.plain.kid {v k : Val} (h : v.plain) (hk : k ∈ v.kids) : k.plain := by cases h with | mk _ _ _ g => exact g k hk

theorem encBnd_mk (b : Int × Ty) : DV.agg [proj 0 (encBnd b), proj 1 (encBnd b), proj 2 (encBnd b), proj 3 (encBnd b)] = encBnd b := rfl

theorem encBnd_p0 (b : Int × Ty) : proj 0 (encBnd b) = .int .i64 b.1 := rfl

/-- A variable of a box, an array. -/
def outSg (x : List (DV × Meta)) (l : Bds) : List SObj := [.box x, .arr 4 (l.map encBnd)]

theorem sp_out1 (x : List (DV × Meta)) (vs : List Int) (hx : cellDat x 10 = some (encInts vs)) (hv : vs.length ≤ lim) (b : Int × Ty) (cur : Bds) :
    (run cfg).r F_term_outside_1 [(encBnd b, .val), (.undef, .ptr 0 0)] (outSg x cur) = some ([.bool (decide (b.1 ∈ vs))], outSg x cur) := by
  refine call_term_outside_1 _ _ _ ?_
  rw [eq_term_outside_1]
  have e0 : sgBox (outSg x cur) 0 = some x := rfl
  have e1 : isAggN 4 (encBnd b) = true := rfl
  simp only [e0, e1, og_true', ob_some', hx, encBnd_p0, sp_slices_Contains vs hv]

theorem arr_nat {j n : Nat} (h : j < n) : arrIdx 0 n (.int .i64 (j : Int)) = some j := by
  show (if (0 : Int) ≤ (j : Int) ∧ (j : Int) < (n : Int) then some (0 + (j : Int).toNat) else none) = some j
  rw [if_pos ⟨by omega, by omega⟩]
  simp

theorem sp_indexFunc (x : List (DV × Meta)) (vs : List Int) (hx : cellDat x 10 = some (encInts vs)) (hv : vs.length ≤ lim) (l : Bds) (hl : l.length ≤ lim) :
    ∃ j : Nat, (∀ i (h : i < l.length), i < j → l[i].1 ∉ vs) ∧ ((j = l.length ∧ (run cfg).r F_slices_IndexFunc__api_Bind_api_Bind [(.undef, .arr 1 4 0 l.length), (.undef, .fn F_term_outside_1 [(0, 0)])] (outSg x l) = some ([.int .i64 (-1)], outSg x l)) ∨
      (j < l.length ∧ (∀ h : j < l.length, l[j].1 ∈ vs) ∧ (run cfg).r F_slices_IndexFunc__api_Bind_api_Bind [(.undef, .arr 1 4 0 l.length), (.undef, .fn F_term_outside_1 [(0, 0)])] (outSg x l) = some ([.int .i64 (j : Int)], outSg x l))) := by
  have hb := big hl
  have loop : ∀ (n i : Nat), i + n = l.length → (∀ a (h : a < l.length), a < i → l[a].1 ∉ vs) → ∃ j : Nat, (∀ a (h : a < l.length), a < j → l[a].1 ∉ vs) ∧
      ((j = l.length ∧ P_slices_IndexFunc__api_Bind_api_Bind_2h (run cfg) 1 0 l.length 0 (.int .i64 (l.length : Int)) (.int .i64 (i : Int)) (outSg x l) = some ([.int .i64 (-1)], outSg x l)) ∨
      (j < l.length ∧ (∀ h : j < l.length, l[j].1 ∈ vs) ∧ P_slices_IndexFunc__api_Bind_api_Bind_2h (run cfg) 1 0 l.length 0 (.int .i64 (l.length : Int)) (.int .i64 (i : Int)) (outSg x l) = some ([.int .i64 (j : Int)], outSg x l))) := by
    intro n
    induction n with
    | zero =>
      intro i hi ha
      have e : i = l.length := by omega
      subst e
      refine ⟨l.length, ha, .inl ⟨rfl, ?_⟩⟩
      rw [eq_slices_IndexFunc__api_Bind_api_Bind_2h]
      simp only [dBin_lss, Int.lt_irrefl, decide_false, ob_some', oif_bool, Bool.false_eq_true, if_false]
    | succ n ih =>
      intro i hi ha
      have h : i < l.length := by omega
      have s1 : sgArr (outSg x l) 1 = some (4, l.map encBnd) := rfl
      have g1 : (l.map encBnd)[i]? = some (encBnd l[i]) := by rw [List.getElem?_map, List.getElem?_eq_getElem h]; rfl
      have e1 : dBin .add (.int .i64 (i : Int)) (.int .i64 1) = some (.int .i64 ((i + 1 : Nat) : Int)) := dAdd1 (show i < 9223372036854775807 by omega)
      have step : ∀ Z, P_slices_IndexFunc__api_Bind_api_Bind_2h (run cfg) 1 0 l.length 0 (.int .i64 (l.length : Int)) (.int .i64 (i : Int)) (outSg x l) = Z ↔ (if l[i].1 ∈ vs then some ([.int .i64 (i : Int)], outSg x l) else P_slices_IndexFunc__api_Bind_api_Bind_2h (run cfg) 1 0 l.length 0 (.int .i64 (l.length : Int)) (.int .i64 ((i + 1 : Nat) : Int)) (outSg x l)) = Z := by
        intro Z
        rw [eq_slices_IndexFunc__api_Bind_api_Bind_2h (run cfg) 1 0 l.length 0 (.int .i64 (l.length : Int)) (.int .i64 (i : Int))]
        simp only [dBin_lss, Int.ofNat_lt, h, decide_true, ob_some', oif_bool, if_true, arr_nat h, s1, g1, BEq.rfl, og_true', encBnd_mk, sp_out1 x vs hx hv, List.getD_cons_zero, e1, decide_eq_true_eq]
      by_cases hm : l[i].1 ∈ vs
      · refine ⟨i, ha, .inr ⟨h, fun _ => hm, ?_⟩⟩
        rw [step, if_pos hm]
      · obtain ⟨j, h1, h2⟩ := ih (i + 1) (by omega) fun a h ha' => by
          by_cases e : a = i
          · subst e; exact hm
          · exact ha a h (by omega)
        refine ⟨j, h1, ?_⟩
        simp only [step, if_neg hm]
        exact h2
  obtain ⟨j, h1, h2⟩ := loop l.length 0 (by omega) (fun a h ha => by omega)
  refine ⟨j, h1, ?_⟩
  have c : ∀ {q : List DV × List SObj}, P_slices_IndexFunc__api_Bind_api_Bind_2h (run cfg) 1 0 l.length 0 (.int .i64 (l.length : Int)) (.int .i64 0) (outSg x l) = some q → (run cfg).r F_slices_IndexFunc__api_Bind_api_Bind [(.undef, .arr 1 4 0 l.length), (.undef, .fn F_term_outside_1 [(0, 0)])] (outSg x l) = some q := fun h => by
    refine call_slices_IndexFunc__api_Bind_api_Bind 1 0 l.length 0 _ ?_
    rw [eq_slices_IndexFunc__api_Bind_api_Bind]
    exact h
  rcases h2 with ⟨a, b⟩ | ⟨a, b, d⟩
  · exact .inl ⟨a, c b⟩
  · exact .inr ⟨a, b, c d⟩

theorem filter_all {l : Bds} {vs : List Int} (h : ∀ i (h : i < l.length), l[i].1 ∉ vs) : bOut l vs = l := by
  unfold bOut
  rw [List.filter_eq_self]
  intro b hb
  obtain ⟨i, hi, rfl⟩ := List.mem_iff_getElem.1 hb
  simp [h i hi]

theorem sp_deleteFunc (x : List (DV × Meta)) (vs : List Int) (hx : cellDat x 10 = some (encInts vs)) (hv : vs.length ≤ lim) (l : Bds) (hl : l.length ≤ lim) :
    ∃ sg : List SObj, (run cfg).r F_slices_DeleteFunc__api_Bind_api_Bind [(.undef, .arr 1 4 0 l.length), (.undef, .fn F_term_outside_1 [(0, 0)])] (outSg x l) = some ([encBnds (bOut l vs)], sg) := by
  have hb := big hl
  obtain ⟨j0, hj1, hj2⟩ := sp_indexFunc x vs hx hv l hl
  have sealX : ∀ (cur : Bds) (n : Nat), n ≤ cur.length → sealCell (outSg x cur) (.undef, .arr 1 4 0 n) = some (encBnds (cur.take n)) := by
    intro cur n hn
    have : sgArr (outSg x cur) 1 = some (4, cur.map encBnd) := rfl
    simp only [sealCell, this, ob_some', BEq.rfl, og_true', Nat.zero_add, List.length_map, hn, if_true, List.drop_zero, encBnds, List.map_take]
  have kept : ∀ j (h : j < l.length), bOut (l.take (j + 1)) vs = if l[j].1 ∈ vs then bOut (l.take j) vs else bOut (l.take j) vs ++ [l[j]] := by
    intro j h
    unfold bOut
    rw [List.take_succ_eq_append_getElem h, List.filter_append]
    by_cases hm : l[j].1 ∈ vs
    · simp [hm]
    · simp [hm]
  rcases hj2 with ⟨hj, hI⟩ | ⟨hj, hm, hI⟩
  · -- none goes
    refine ⟨(outSg x l).set 1 (.arr 1 []), call_slices_DeleteFunc__api_Bind_api_Bind 1 0 l.length 0 _ ?_⟩
    rw [eq_slices_DeleteFunc__api_Bind_api_Bind]
    rw [filter_all fun i h => hj1 i h (by omega)]
    have e : dBin .eql (.int .i64 (-1)) (.int .i64 (-1)) = some (.bool true) := rfl
    have sl := sealX l l.length (Nat.le_refl _)
    rw [List.take_length] at sl
    simp only [hI, ob_some', List.getD_cons_zero, e, oif_bool, if_true, sl, seqO]
  · have loop : ∀ (n j i : Nat) (cur : Bds), j + n = l.length → i < j → cur.length = l.length → cur.take i = bOut (l.take j) vs → cur.drop j = l.drop j →
        ∃ sg, P_slices_DeleteFunc__api_Bind_api_Bind_5h (run cfg) 1 0 l.length 0 (.int .i64 (i : Int)) (.int .i64 (j : Int)) (outSg x cur) = some ([encBnds (bOut l vs)], sg) := by
      intro n
      induction n with
      | zero =>
        intro j i cur hn hij hc ht hd
        have e : j = l.length := by omega
        subst e
        have b1 : bnd 0 (some (.int .i64 (i : Int))) = some i := by
          show (if (0 : Int) ≤ (i : Int) then some (i : Int).toNat else none) = some i
          rw [if_pos (by omega)]; simp
        have b2 : bnd l.length (some (.int .i64 (i : Int))) = some i := by
          show (if (0 : Int) ≤ (i : Int) then some (i : Int).toNat else none) = some i
          rw [if_pos (by omega)]; simp
        have s1 : sgArr (outSg x cur) 1 = some (4, cur.map encBnd) := rfl
        have s2 : ∀ n : Nat, (outSg x cur).set 1 (.arr 4 ((cur.map encBnd).take n)) = outSg x (cur.take n) := fun n => by rw [← List.map_take]; rfl
        have c1 : i + (l.length - i) ≤ (cur.map encBnd).length := by rw [List.length_map]; omega
        refine ⟨[.box x, .arr 1 []], ?_⟩
        rw [eq_slices_DeleteFunc__api_Bind_api_Bind_5h]
        simp only [dBin_lss, Int.lt_irrefl, decide_false, ob_some', oif_bool, Bool.false_eq_true, if_false, b1, b2, show i ≤ l.length ∧ l.length ≤ l.length from ⟨by omega, Nat.le_refl _⟩, and_self, if_true, s1, BEq.rfl, Bool.true_and, Bool.and_true, c1, decide_true, og_true', Nat.zero_le, show i ≤ l.length by omega, s2, Nat.add_zero, Nat.sub_zero, Nat.zero_add]
        have sl := sealX (cur.take i) i (by rw [List.length_take]; omega)
        rw [List.take_take, Nat.min_self, ht, List.take_length] at sl
        rw [ht]
        simp only [List.take_length, sl, seqO, ob_some']
        rfl
      | succ n ih =>
        intro j i cur hn hij hc ht hd
        have h : j < l.length := by omega
        have hcj : j < cur.length := by omega
        have e : cur[j] = l[j] := by
          have h1 : (cur.drop j)[0]? = (l.drop j)[0]? := by rw [hd]
          rw [List.getElem?_drop, List.getElem?_drop, Nat.add_zero, List.getElem?_eq_getElem hcj, List.getElem?_eq_getElem h, Option.some.injEq] at h1
          exact h1
        have s1 : sgArr (outSg x cur) 1 = some (4, cur.map encBnd) := rfl
        have g1 : (cur.map encBnd)[j]? = some (encBnd l[j]) := by rw [List.getElem?_map, List.getElem?_eq_getElem hcj, e]; rfl
        have hci : i < cur.length := by omega
        have g2 : (cur.map encBnd)[i]? = some (encBnd cur[i]) := by rw [List.getElem?_map, List.getElem?_eq_getElem hci]; rfl
        have a2 : arrIdx 0 l.length (.int .i64 (i : Int)) = some i := arr_nat (by omega)
        have e1 : dBin .add (.int .i64 (j : Int)) (.int .i64 1) = some (.int .i64 ((j + 1 : Nat) : Int)) := dAdd1 (show j < 9223372036854775807 by omega)
        have e2 : dBin .add (.int .i64 (i : Int)) (.int .i64 1) = some (.int .i64 ((i + 1 : Nat) : Int)) := dAdd1 (show i < 9223372036854775807 by omega)
        have s2 : ∀ y : Int × Ty, (outSg x cur).set 1 (.arr 4 ((cur.map encBnd).set i (encBnd y))) = outSg x (cur.set i y) := fun y => by rw [← List.map_set]; rfl
        rw [eq_slices_DeleteFunc__api_Bind_api_Bind_5h]
        simp only [dBin_lss, Int.ofNat_lt, h, decide_true, ob_some', oif_bool, if_true, arr_nat h, s1, g1, BEq.rfl, og_true', encBnd_mk, sp_out1 x vs hx hv, List.getD_cons_zero, dUn_not]
        have hdrop : ∀ (c : Bds), c.drop j = l.drop j → c.drop (j + 1) = l.drop (j + 1) := fun c h => by rw [← List.drop_drop, ← List.drop_drop (l := l), h]
        by_cases hm2 : l[j].1 ∈ vs
        · simp only [hm2, decide_true, Bool.not_true, Bool.false_eq_true, if_false, e1]
          refine ih (j + 1) i cur (by omega) (by omega) hc ?_ (hdrop cur hd)
          rw [kept j h, if_pos hm2, ht]
        · simp only [hm2, decide_false, Bool.not_false, if_true, a2, ob_some', s1, g2, BEq.rfl, og_true', e1, e2, s2]
          refine ih (j + 1) (i + 1) (cur.set i l[j]) (by omega) (by omega) (by simpa using hc) ?_ ?_
          · rw [kept j h, if_neg hm2, List.take_succ_eq_append_getElem (by simpa using hci), List.take_set_of_le (Nat.le_refl _), List.getElem_set_self, ht]
          · rw [List.drop_set, if_pos (by omega)]
            exact hdrop cur hd
    have start : l.take j0 = bOut (l.take (j0 + 1)) vs := by
      rw [kept j0 hj, if_pos (hm hj)]
      refine (filter_all fun i h => ?_).symm
      rw [List.length_take] at h
      rw [List.getElem_take]
      exact hj1 i (by omega) (by omega)
    obtain ⟨sg, hs⟩ := loop (l.length - (j0 + 1)) (j0 + 1) j0 l (by omega) (by omega) rfl start rfl
    refine ⟨sg, call_slices_DeleteFunc__api_Bind_api_Bind 1 0 l.length 0 _ ?_⟩
    rw [eq_slices_DeleteFunc__api_Bind_api_Bind]
    have e : dBin .eql (.int .i64 (j0 : Int)) (.int .i64 (-1)) = some (.bool false) := by
      rw [dBin_eql, decide_eq_false (by omega)]
    have e1 : dBin .add (.int .i64 (j0 : Int)) (.int .i64 1) = some (.int .i64 ((j0 + 1 : Nat) : Int)) := dAdd1 (show j0 < 9223372036854775807 by omega)
    simp only [hI, ob_some', List.getD_cons_zero, e, oif_bool, Bool.false_eq_true, if_false, e1]
    exact hs

theorem sp_term_outside (d : DV) (vs : List Int) (hd : isAggN 20 d = true) (h10 : proj 10 d = encInts vs) (hv : vs.length ≤ lim) (j : Int) (l : Bds) (hl : l.length ≤ lim) :
    (run cfg).p F_term_outside [d, .int .i64 j, encBnds l] = some (encBnds (if 0 < j then l else bOut l vs)) := by
  refine call_term_outside _ _ _ ?_
  rw [eq_term_outside]
  simp only [hd, og_true', dBin_gtr, ob_some', ogd_bool, decide_eq_true_eq, h10, dLen_ints, dBin_eql, oif_bool]
  by_cases hj : 0 < j
  · simp only [hj, if_true]
  simp only [hj, if_false]
  by_cases h0 : vs = []
  · subst h0
    simp [bOut_nil]
  · have h0' : ¬ ((vs.length : Int) = 0) := by
      have := List.length_pos_iff.2 h0
      omega
    obtain ⟨sg, hs⟩ := sp_deleteFunc [(proj 0 d, .val), (proj 1 d, .val), (proj 2 d, .val), (proj 3 d, .val), (proj 4 d, .val), (proj 5 d, .val), (proj 6 d, .val), (proj 7 d, .val), (proj 8 d, .val), (proj 9 d, .val), (proj 10 d, .val), (proj 11 d, .val), (proj 12 d, .val), (proj 13 d, .val), (proj 14 d, .val), (proj 15 d, .val), (proj 16 d, .val), (proj 17 d, .val), (proj 18 d, .val), (proj 19 d, .val)] vs (by rw [← h10]; rfl) hv l hl
    unfold outSg at hs
    have dl : dList (encBnds l) = some (4, l.map encBnd) := rfl
    simp only [h0', decide_false, Bool.false_eq_true, if_false, dl, ob_some', BEq.rfl, Bool.true_and, List.length_map, hl, decide_true, og_true']
    rw [h10] at hs
    simp only [hs, ob_some', List.getD_cons_zero]

theorem tyx3 (k : Ty) : (DV.agg [proj 0 k.enc, proj 1 k.enc, proj 2 k.enc]) = k.enc := by simp [Ty.eta]

theorem tyx3k (k : Ty) : (DV.agg [.int .i64 k.kind, proj 1 k.enc, proj 2 k.enc]) = k.enc := by rw [← Ty.proj0, tyx3]

theorem tmx3 (k : Tm) : (DV.agg [proj 0 k.enc, proj 1 k.enc, proj 2 k.enc, proj 3 k.enc, proj 4 k.enc, proj 5 k.enc, proj 6 k.enc, proj 7 k.enc, proj 8 k.enc, proj 9 k.enc, proj 10 k.enc, proj 11 k.enc, proj 12 k.enc, proj 13 k.enc, proj 14 k.enc, proj 15 k.enc, proj 16 k.enc, proj 17 k.enc, proj 18 k.enc, proj 19 k.enc]) = k.enc := by simp [Tm.eta]

theorem tm_a (t : Tm) : DV.agg [proj 11 t.enc, proj 12 t.enc, proj 13 t.enc] = t.a.enc := by rw [Tm.enc_eq, Ty.enc_eq]; rfl

theorem tm_b (t : Tm) : DV.agg [proj 14 t.enc, proj 15 t.enc, proj 16 t.enc] = t.b.enc := by rw [Tm.enc_eq, Ty.enc_eq]; rfl

theorem rb_right {l : Bds} (h : rightBinds l = true) : ∀ e ∈ l, e.2.right = true := by
  unfold rightBinds at h
  rw [List.all_eq_true] at h
  intro e he
  have := h e he
  simp only [Bool.and_eq_true] at this
  exact this.2

theorem sp_term_put (t : Ty) (l : Bds) (ht : t.right = true ∨ t.none = true) (hl : l.length ≤ lim) (hr : rightBinds l = true) : (run cfg).p F_term_put [t.enc, encBnds l] = some (t.putN l).enc := by
  refine call_term_put _ _ ?_
  rw [eq_term_put]
  unfold Ty.putN
  simp only [Ty.proj0 t, tyx3, tyx3k, isAggN_Ty, og_true', dBin_eql, ob_some', oif_bool]
  by_cases h0 : t.kind = 0
  · simp only [h0, decide_true, if_true]
  · have rt : t.right = true := by
      rcases ht with h | h
      · exact h
      · unfold Ty.none at h
        simp only [Bool.and_eq_true, decide_eq_true_eq] at h
        exact absurd h.1.1 h0
    have s := sp_scheme_Subst t l (Ty.thin_of_right rt) hl fun e he => Ty.thin_of_right (rb_right hr e he)
    rw [if_pos ⟨rt, hr⟩] at s
    have x0 : ∀ a b, dExt 0 (.tup [a, b]) = some a := fun _ _ => rfl
    have x1 : ∀ a b, dExt 1 (.tup [a, b]) = some b := fun _ _ => rfl
    simp only [h0, decide_false, Bool.false_eq_true, if_false, s, ob_some', x0, x1, isAggN_Ty, og_true', tyx3]

/-- A right term's types are right, or none. -/
theorem Tm.types_right {t : Tm} (h : t.right = true) : (t.a.right = true ∨ t.a.none = true) ∧ (t.b.right = true ∨ t.b.none = true) ∧ ∀ y ∈ t.args, y.right = true := by
  have o := Tm.right_one h
  unfold Tm.one Tm.one1 Tm.one2 Tm.one3 Tm.one4 Tm.one5 Tm.lists typedB at o
  simp only [Bool.and_eq_true, List.all_eq_true] at o
  refine ⟨?_, ?_, ?_⟩
  · have := o.1.1.2
    split at this
    · exact .inl this
    · exact .inr this
  · have := o.1.2
    split at this
    · exact .inl this
    · exact .inr this
  · exact o.2.2.2.2.2.2.1.2

noncomputable def tyArgs (t : Tm) (l : Bds) (j : Nat) (A : List Ty) (K : List Tm) : Option DV :=
  P_term_types_3h (run cfg) (encBnds l) t.args.length (.int .i64 t.args.length) (.int .i64 (j : Int)) (proj 0 t.enc) (proj 1 t.enc) (proj 2 t.enc) (proj 3 t.enc) (proj 4 t.enc) (proj 5 t.enc) (proj 6 t.enc) (proj 7 t.enc) (proj 8 t.enc) (proj 9 t.enc) (proj 10 t.enc) (proj 11 t.enc) (proj 12 t.enc) (proj 13 t.enc) (proj 14 t.enc) (proj 15 t.enc) (proj 16 t.enc) t.args.length (proj 18 t.enc) t.kids.length
    (.int .i64 0) (.int .i64 0) (.int .i64 0) (.str ⟨#[]⟩) (.str ⟨#[]⟩) (.int .i64 0) (.str ⟨#[]⟩) (.int .i64 0) (.int .i64 0) (.bool false) (.list 1 []) (.int .i64 0) (.int .i64 0) (.list 3 []) (.int .i64 0) (.int .i64 0) (.list 3 []) (.list 3 []) (.list 7 []) (.list 20 []) [.arr 3 (A.map Ty.enc), .arr 20 (K.map Tm.enc)]

noncomputable def tyKids (t : Tm) (l : Bds) (j : Nat) (A : List Ty) (K : List Tm) : Option DV :=
  P_term_types_8h (run cfg) (encBnds l) t.kids.length (.int .i64 t.kids.length) (.int .i64 (j : Int)) (proj 0 t.enc) (proj 1 t.enc) (proj 2 t.enc) (proj 3 t.enc) (proj 4 t.enc) (proj 5 t.enc) (proj 6 t.enc) (proj 7 t.enc) (proj 8 t.enc) (proj 9 t.enc) (proj 10 t.enc) (proj 11 t.enc) (proj 12 t.enc) (proj 13 t.enc) (proj 14 t.enc) (proj 15 t.enc) (proj 16 t.enc) t.args.length (proj 18 t.enc) t.kids.length
    (.int .i64 0) (.int .i64 0) (.int .i64 0) (.str ⟨#[]⟩) (.str ⟨#[]⟩) (.int .i64 0) (.str ⟨#[]⟩) (.int .i64 0) (.int .i64 0) (.bool false) (.list 1 []) (.int .i64 0) (.int .i64 0) (.list 3 []) (.int .i64 0) (.int .i64 0) (.list 3 []) (.list 3 []) (.list 7 []) (.list 20 []) [.arr 3 (A.map Ty.enc), .arr 20 (K.map Tm.enc)]

theorem arr_at {A : List Ty} {K : List Tm} : sgArr [SObj.arr 3 (A.map Ty.enc), .arr 20 (K.map Tm.enc)] 0 = some (3, A.map Ty.enc) ∧ sgArr [SObj.arr 3 (A.map Ty.enc), .arr 20 (K.map Tm.enc)] 1 = some (20, K.map Tm.enc) := ⟨rfl, rfl⟩

theorem set_get_ne {α : Type} {l m : List α} {j : Nat} {y : α} (h : ∀ i : Nat, j ≤ i → l[i]? = m[i]?) : ∀ i : Nat, j + 1 ≤ i → (l.set j y)[i]? = m[i]? := fun i hi => by rw [List.getElem?_set_ne (by omega)]; exact h i (by omega)

theorem take_set_succ {α : Type} {l : List α} {j : Nat} (h : j < l.length) (y : α) : (l.set j y).take (j + 1) = l.take j ++ [y] := by
  rw [List.take_succ_eq_append_getElem (by simpa using h), List.take_set_of_le (Nat.le_refl _), List.getElem_set_self]

theorem sp_term_types (t : Tm) : t.fit → t.right = true → ∀ l : Bds, l.length ≤ lim → rightBinds l = true → (run cfg).p F_term_types [t.enc, encBnds l] = some (t.typs l).enc := by
  induction t using Tm.ind with
  | h t ih =>
    intro ft rt l hl hr
    obtain ⟨ra, rb, rargs⟩ := Tm.types_right rt
    have fk := Nat.le_of_lt ft.one.kids
    have fa := Nat.le_of_lt ft.one.args
    have hK := big fk
    have hA := big fa
    have fv := Nat.le_of_lt ft.one.vars
    -- the end
    have fin : ∀ (own : Bds) (A : List Ty) (K : List Tm), own.length ≤ lim → rightBinds own = true → A.length = t.args.length → K.length = t.kids.length →
        P_term_types_14 (run cfg) (encBnds own) (proj 0 t.enc) (proj 1 t.enc) (proj 2 t.enc) (proj 3 t.enc) (proj 4 t.enc) (proj 5 t.enc) (proj 6 t.enc) (proj 7 t.enc) (proj 8 t.enc) (proj 9 t.enc) (proj 10 t.enc) (proj 11 t.enc) (proj 12 t.enc) (proj 13 t.enc) (proj 14 t.enc) (proj 15 t.enc) (proj 16 t.enc) t.args.length (proj 18 t.enc) t.kids.length
          (.int .i64 0) (.int .i64 0) (.int .i64 0) (.str ⟨#[]⟩) (.str ⟨#[]⟩) (.int .i64 0) (.str ⟨#[]⟩) (.int .i64 0) (.int .i64 0) (.bool false) (.list 1 []) (.int .i64 0) (.int .i64 0) (.list 3 []) (.int .i64 0) (.int .i64 0) (.list 3 []) (.list 3 []) (.list 7 []) (.list 20 []) [.arr 3 (A.map Ty.enc), .arr 20 (K.map Tm.enc)] =
        some (Tm.mk t.kind t.lo t.hi t.name t.arg t.n t.s t.op t.label t.neg t.vars (t.a.putN own) (t.b.putN own) A t.pats K).enc := by
      intro own A K h1 h2 h3 h4
      have sv : ∀ d, sealCell [SObj.arr 3 (A.map Ty.enc), .arr 20 (K.map Tm.enc)] (d, .val) = some d := fun _ => rfl
      have sa : sealCell [SObj.arr 3 (A.map Ty.enc), .arr 20 (K.map Tm.enc)] (.undef, .arr 0 3 0 t.args.length) = some (.list 3 (A.map Ty.enc)) := by
        simp only [sealCell, arr_at.1, ob_some', BEq.rfl, og_true', Nat.zero_add, List.length_map, h3, Nat.le_refl, if_true, List.drop_zero]
        rw [List.take_of_length_le (by simp [h3])]
      have sk : sealCell [SObj.arr 3 (A.map Ty.enc), .arr 20 (K.map Tm.enc)] (.undef, .arr 1 20 0 t.kids.length) = some (.list 20 (K.map Tm.enc)) := by
        simp only [sealCell, arr_at.2, ob_some', BEq.rfl, og_true', Nat.zero_add, List.length_map, h4, Nat.le_refl, if_true, List.drop_zero]
        rw [List.take_of_length_le (by simp [h4])]
      rw [eq_term_types_14]
      simp only [tm_a, tm_b, sp_term_put t.a own ra h1 h2, sp_term_put t.b own rb h1 h2, ob_some', isAggN_Ty, og_true', sealCells, sv, sa, sk, retL, seqO]
      rw [Tm.enc_eq (Tm.mk _ _ _ _ _ _ _ _ _ _ _ _ _ _ _ _)]
      simp only [Tm.proj0, Tm.proj1, Tm.proj2, Tm.proj3, Tm.proj4, Tm.proj5, Tm.proj6, Tm.proj7, Tm.proj8, Tm.proj9, Tm.proj10, Tm.proj18, Ty.proj0, Ty.proj1, Ty.proj2, Tm.kind_mk, Tm.lo_mk, Tm.hi_mk, Tm.name_mk, Tm.arg_mk, Tm.n_mk, Tm.s_mk, Tm.op_mk, Tm.label_mk, Tm.neg_mk, Tm.vars_mk, Tm.a_mk, Tm.b_mk, Tm.args_mk, Tm.pats_mk, Tm.kids_mk]
      rfl
    -- the kids
    have hid : ∀ j : Int, (run cfg).p F_term_outside [.agg [proj 0 t.enc, proj 1 t.enc, proj 2 t.enc, proj 3 t.enc, proj 4 t.enc, proj 5 t.enc, proj 6 t.enc, proj 7 t.enc, proj 8 t.enc, proj 9 t.enc, proj 10 t.enc, proj 11 t.enc, proj 12 t.enc, proj 13 t.enc, proj 14 t.enc, proj 15 t.enc, proj 16 t.enc, .undef, proj 18 t.enc, .undef], .int .i64 j, encBnds l] = some (encBnds (if 0 < j then l else bOut l t.vars)) := fun j =>
      sp_term_outside _ t.vars rfl (by show proj 10 t.enc = _; rw [Tm.proj10]) fv j l hl
    have kids : ∀ (n j : Nat) (A : List Ty) (K : List Tm), j + n = t.kids.length → A.length = t.args.length → K.length = t.kids.length → (∀ i : Nat, j ≤ i → K[i]? = t.kids[i]?) →
        tyKids t l j A K = some (Tm.mk t.kind t.lo t.hi t.name t.arg t.n t.s t.op t.label t.neg t.vars (t.a.putN (if t.kind = 12 then bOut l t.vars else l)) (t.b.putN (if t.kind = 12 then bOut l t.vars else l)) A t.pats (K.take j ++ (Tm.typsL t.kids (bOut l t.vars) l).drop j)).enc := by
      intro n
      induction n with
      | zero =>
        intro j A K hj ha hk _
        have e : j = t.kids.length := by omega
        subst e
        have ho := hid 0
        rw [if_neg (by omega)] at ho
        unfold tyKids
        rw [eq_term_types_8h]
        simp only [dBin_lss, Int.lt_irrefl, decide_false, ob_some', oif_bool, Bool.false_eq_true, if_false, Tm.proj0 t, dBin_eql]
        rw [← Tm.proj0 t]
        rw [List.take_of_length_le (Nat.le_of_eq hk), List.drop_eq_nil_of_le (by rw [Tm.typsL_len]; exact Nat.le_refl _), List.append_nil]
        by_cases h12 : t.kind = 12
        · simp only [h12, decide_true, if_true, ho, ob_some']
          have := fin (bOut l t.vars) A K (Nat.le_trans (bOut_len l _) hl) (rightBinds_out hr _) ha hk
          rw [this, h12]
        · simp only [h12, decide_false, Bool.false_eq_true, if_false]
          exact fin l A K hl hr ha hk
      | succ n ihn =>
        intro j A K hj ha hk hc
        have h : j < t.kids.length := by omega
        have h' : j < K.length := by omega
        have hcj : K[j] = t.kids[j] := by
          have := hc j (Nat.le_refl _)
          rw [List.getElem?_eq_getElem h, List.getElem?_eq_getElem h'] at this
          simpa using this
        have g1 : (K.map Tm.enc)[j]? = some t.kids[j].enc := by rw [List.getElem?_map, List.getElem?_eq_getElem h', hcj]; rfl
        have e1 : dBin .add (.int .i64 (j : Int)) (.int .i64 1) = some (.int .i64 ((j + 1 : Nat) : Int)) := dAdd1 (show j < 9223372036854775807 by omega)
        have hb : (if (0 : Int) < (j : Int) then l else bOut l t.vars) = bKid j (bOut l t.vars) l := by
          unfold bKid
          by_cases h0 : j = 0
          · subst h0; rfl
          · rw [if_pos (by omega), if_neg h0]
        have ho := hid (j : Int)
        rw [hb] at ho
        have bl : (bKid j (bOut l t.vars) l).length ≤ lim := by
          unfold bKid; split
          · exact Nat.le_trans (bOut_len l _) hl
          · exact hl
        have br : rightBinds (bKid j (bOut l t.vars) l) = true := by
          unfold bKid; split
          · exact rightBinds_out hr _
          · exact hr
        have f1 := ih _ (List.getElem_mem h) (ft.kid (List.getElem_mem h)) (Tm.right_kid rt (List.getElem_mem h)) _ bl br
        have nx := ihn (j + 1) A (K.set j (t.kids[j].typs (bKid j (bOut l t.vars) l))) (by omega) ha (by simpa using hk) (set_get_ne hc)
        rw [take_set_succ h'] at nx
        unfold tyKids at nx ⊢
        rw [eq_term_types_8h]
        rw [List.map_set] at nx
        simp only [dBin_lss, Int.ofNat_lt, h, decide_true, ob_some', oif_bool, if_true, arr_nat h, arr_at.2, g1, BEq.rfl, og_true', ho, tmx3, f1, isAggN_Tm, e1, List.set_cons_succ, List.set_cons_zero]
        rw [nx]
        have e2 : (Tm.typsL t.kids (bOut l t.vars) l).drop j = t.kids[j].typs (bKid j (bOut l t.vars) l) :: (Tm.typsL t.kids (bOut l t.vars) l).drop (j + 1) := by
          have hlt : j < (Tm.typsL t.kids (bOut l t.vars) l).length := by rw [Tm.typsL_len]; exact h
          rw [List.drop_eq_getElem_cons hlt]
          congr 1
          have := Tm.typsL_get (bOut l t.vars) l t.kids j
          rw [List.getElem?_eq_getElem hlt, List.getElem?_eq_getElem h, Option.map_some, Option.some.injEq] at this
          exact this
        rw [e2, List.append_assoc]
        rfl
    -- the args
    have args : ∀ (n j : Nat) (A : List Ty), j + n = t.args.length → A.length = t.args.length → (∀ i : Nat, j ≤ i → A[i]? = t.args[i]?) → tyArgs t l j A t.kids = tyKids t l 0 (A.take j ++ (t.args.map (Ty.putN l)).drop j) t.kids := by
      intro n
      induction n with
      | zero =>
        intro j A hj ha _
        have e : j = t.args.length := by omega
        subst e
        unfold tyArgs tyKids
        rw [eq_term_types_3h]
        simp only [dBin_lss, Int.lt_irrefl, decide_false, ob_some', oif_bool, Bool.false_eq_true, if_false]
        rw [List.take_of_length_le (Nat.le_of_eq ha), List.drop_eq_nil_of_le (by simp), List.append_nil]
        rfl
      | succ n ihn =>
        intro j A hj ha hc
        have h : j < t.args.length := by omega
        have h' : j < A.length := by omega
        have hcj : A[j] = t.args[j] := by
          have := hc j (Nat.le_refl _)
          rw [List.getElem?_eq_getElem h, List.getElem?_eq_getElem h'] at this
          simpa using this
        have g1 : (A.map Ty.enc)[j]? = some t.args[j].enc := by rw [List.getElem?_map, List.getElem?_eq_getElem h', hcj]; rfl
        have e1 : dBin .add (.int .i64 (j : Int)) (.int .i64 1) = some (.int .i64 ((j + 1 : Nat) : Int)) := dAdd1 (show j < 9223372036854775807 by omega)
        have f1 := sp_term_put t.args[j] l (.inl (rargs _ (List.getElem_mem h))) hl hr
        have nx := ihn (j + 1) (A.set j (t.args[j].putN l)) (by omega) (by simpa using ha) (set_get_ne hc)
        rw [take_set_succ h'] at nx
        unfold tyArgs at nx ⊢
        rw [eq_term_types_3h]
        rw [List.map_set] at nx
        simp only [dBin_lss, Int.ofNat_lt, h, decide_true, ob_some', oif_bool, if_true, arr_nat h, arr_at.1, g1, BEq.rfl, og_true', tyx3, f1, isAggN_Ty, e1, List.set_cons_zero]
        rw [nx]
        congr 1
        have hlt : j < (t.args.map (Ty.putN l)).length := by simpa using h
        rw [List.drop_eq_getElem_cons hlt, List.append_assoc, List.getElem_map]
        rfl
    refine call_term_types _ _ ?_
    rw [eq_term_types]
    simp only [isAggN_Tm, og_true', Tm.proj17 t, Tm.proj19 t, dList_list, ob_some', BEq.rfl, Bool.true_and, List.length_map, fa, fk, decide_true]
    have h1 := args t.args.length 0 t.args (by omega) rfl fun i _ => rfl
    have h2 := kids t.kids.length 0 (t.args.map (Ty.putN l)) t.kids (by omega) (by simp) rfl fun i _ => rfl
    rw [List.take_zero, List.drop_zero, List.nil_append] at h1 h2
    rw [Tm.typs_eq, ← h2, ← h1]
    rfl

theorem dApp_bnd (a : Bds) (b : Int × Ty) (h : a.length + 1 ≤ lim) : dApp 4 (encBnds a) (.list 4 [encBnd b]) = some (encBnds (a ++ [b])) := by
  unfold encBnds
  exact dApp_map (e := encBnd) (sz := 4) (l := a) (x := b) h

theorem sp_l17_light2 (t : Ty) (h : t.size ≤ lim) : ∃ b : Bool, (run cfg).p F_l17_light [t.enc] = some (.bool b) ∧ (b = true → t.size ≤ 60) := by
  obtain ⟨b, hb⟩ := sp_l11_Small [t] (by simp [lim]) (by simpa using h)
  simp only [List.map_cons, List.map_nil] at hb
  have hs := sp_r03_Size t h
  cases b
  · refine ⟨false, call_l17_light _ ?_, by simp⟩
    rw [eq_l17_light]
    simp [Ty.eta, hb]
  · refine ⟨decide ((t.size : Int) ≤ 60), call_l17_light _ ?_, fun h => by simp at h; omega⟩
    rw [eq_l17_light]
    simp [Ty.eta, hb, hs]

/-- What is put: the name, its variables, the term. -/
def putBoxV (s : ByteArray) (xs : List Int) (v : Tm) : List (DV × Meta) :=
  [(.str s, .val), (encInts xs, .val), (.int .i64 v.kind, .val), (.int .i64 v.lo, .val), (.int .i64 v.hi, .val), (.str v.name, .val), (.str v.arg, .val), (.int .i64 v.n, .val), (.str v.s, .val), (.int .i64 v.op, .val), (.int .i64 v.label, .val), (.bool v.neg, .val), (encInts v.vars, .val),
    (.int .i64 v.a.kind, .val), (.int .i64 v.a.n, .val), (.list 3 (v.a.kids.map Ty.enc), .val), (.int .i64 v.b.kind, .val), (.int .i64 v.b.n, .val), (.list 3 (v.b.kids.map Ty.enc), .val), (.list 3 (v.args.map Ty.enc), .val), (.list 7 (v.pats.map Pat.enc), .val), (.list 20 (v.kids.map Tm.enc), .val)]

theorem putBoxV_seg (s : ByteArray) (xs : List Int) (v : Tm) : ∃ e, segDat 2 20 (putBoxV s xs v) = some e ∧ DV.agg e = v.enc := ⟨_, rfl, by rw [Tm.enc_eq]⟩

/-- The loop that binds the name's variables. -/
noncomputable def inBind (xs : List Int) (t : Tm) (j : Int) (a : Bds) (S : List SObj) : Option (List DV × List SObj) :=
  P_term_putting_in_10h (run cfg) 0 (encBnds a) (encInts xs) (.int .i64 xs.length) (.int .i64 j) t.enc (.int .i64 0) (.int .i64 0) (.int .i64 0) (.str ⟨#[]⟩) (.str ⟨#[]⟩) (.int .i64 0) (.str ⟨#[]⟩) (.int .i64 0) (.int .i64 0) (.bool false) (.list 1 []) (.int .i64 0) (.int .i64 0) (.list 3 []) (.int .i64 0) (.int .i64 0) (.list 3 []) (.list 3 []) (.list 7 []) (.list 20 []) S

theorem inV_loop (s : ByteArray) (xs : List Int) (v t : Tm) (S : List SObj) (hS : sgBox S 0 = some (putBoxV s xs v)) (hxl : xs.length ≤ lim) (h3 : t.args.length = xs.length) :
    inBind xs t 0 [] S = inBind xs t xs.length (xs.zip t.args) S := by
  have hb := big hxl
  have loop : ∀ (n j : Nat), j + n = xs.length → inBind xs t j ((xs.zip t.args).take j) S = inBind xs t xs.length (xs.zip t.args) S := by
    intro n
    induction n with
    | zero =>
      intro j hj
      have e : j = xs.length := by omega
      subst e
      rw [List.take_of_length_le (by rw [List.length_zip]; omega)]
    | succ n ih =>
      intro j hj
      have h : j < xs.length := by omega
      have h' : j < t.args.length := by omega
      have hz : j < (xs.zip t.args).length := by rw [List.length_zip]; omega
      rw [← ih (j + 1) (by omega), List.take_succ_eq_append_getElem hz, List.getElem_zip]
      have e1 := dIdx_ints (k := .i64) h
      have e2 : dIdx 3 (.list 3 (t.args.map Ty.enc)) (.int .i64 (j : Int)) = some t.args[j].enc := dIdx_map h'
      have e3 := dApp_bnd ((xs.zip t.args).take j) (xs[j], t.args[j]) (by rw [List.length_take]; omega)
      have e5 : encBnd (xs[j], t.args[j]) = .agg [.int .i64 xs[j], proj 0 t.args[j].enc, proj 1 t.args[j].enc, proj 2 t.args[j].enc] := by rw [Ty.enc_eq]; rfl
      rw [e5] at e3
      have e4 : dBin .add (.int .i64 (j : Int)) (.int .i64 1) = some (.int .i64 ((j + 1 : Nat) : Int)) := dAdd1 (show j < 9223372036854775807 by omega)
      have il : isLeaf (.int .i64 xs[j]) = true := rfl
      have ic : isCell (.int .i64 xs[j]) = true := rfl
      unfold inBind
      rw [eq_term_putting_in_10h]
      simp only [dBin_lss, Int.ofNat_lt, h, decide_true, ob_some', oif_bool, if_true, e1, il, ic, og_true', Tm.proj17 t, e2, e3, e4]
  have := loop xs.length 0 (by omega)
  exact this

theorem in_endV (s : ByteArray) (xs : List Int) (v t : Tm) (S : List SObj) (hS : sgBox S 0 = some (putBoxV s xs v)) (e : List DV) (e1 : segDat 2 20 (putBoxV s xs v) = some e) (e2 : DV.agg e = v.enc)
    (hT : (run cfg).p F_term_types [v.enc, encBnds (xs.zip t.args)] = some (v.typs (xs.zip t.args)).enc) :
    inBind xs t xs.length (xs.zip t.args) S = some ([(v.typs (xs.zip t.args)).enc, .bool true], S) := by
  unfold inBind
  rw [eq_term_putting_in_10h]
  simp only [dBin_lss, Int.lt_irrefl, decide_false, ob_some', oif_bool, Bool.false_eq_true, if_false, hS, e1, e2, hT, isAggN_Tm, og_true', tmx3]

theorem sp_term_inV (s : ByteArray) (xs : List Int) (v : Tm) (hx : rightVars xs = true) (hxl : xs.length ≤ lim) (fv : v.fit) (rv : v.right = true) (t : Tm) : t.fit → t.right = true → 2 * t.mass ≤ lim → ∀ S : List SObj, sgBox S 0 = some (putBoxV s xs v) →
    ∃ (J : List SObj) (u : Tm) (b : Bool), (run cfg).r F_term_putting_in [(.undef, .ptr 0 0), (t.enc, .val)] S = some ([u.enc, .bool b], S ++ J) ∧ t.putV s xs v = (if b = true then some u else none) := by
  induction t using Tm.ind with
  | h t ih =>
    intro ft rt hm S hS
    have hk := big (Nat.le_of_lt ft.one.kids)
    have loop : ∀ (n j : Nat) (cur : List Tm) (J : List SObj), j + n = t.kids.length → cur.length = t.kids.length → (∀ i : Nat, j ≤ i → cur[i]? = t.kids[i]?) →
        ∃ (J' : List SObj) (u : Tm) (b : Bool), inLoop t S.length t.kids.length j (S ++ .arr 20 (cur.map Tm.enc) :: J) = some ([u.enc, .bool b], S ++ J') ∧
          (Tm.putVL t.binds j (t.kids.drop j) s xs v).map (fun ks => t.withKids (cur.take j ++ ks)) = (if b = true then some u else none) := by
      intro n
      induction n with
      | zero =>
        intro j cur J hj hc _
        have e : j = t.kids.length := by omega
        subst e
        refine ⟨_, _, _, in_end t S J cur hc, ?_⟩
        rw [List.drop_length, Tm.putVL_nil]
        simp [List.take_of_length_le (Nat.le_of_eq hc)]
      | succ n ihn =>
        intro j cur J hj hc hcur
        have h : j < t.kids.length := by omega
        have h' : j < cur.length := by omega
        have hcj : cur[j] = t.kids[j] := by
          have := hcur j (Nat.le_refl _)
          rw [List.getElem?_eq_getElem h, List.getElem?_eq_getElem h'] at this
          simpa using this
        have hmk := Tm.mass_kid (List.getElem_mem h)
        have hbl := t.binds_len j
        have hbi := sp_term_binds t ft.one j (fun h14 => by have := Tm.kids14 rt h14; omega)
        have hct := sp_slices_ContainsS (t.binds j) (by omega) s
        have ee : (DV.agg [proj 0 t.enc, proj 1 t.enc, proj 2 t.enc, proj 3 t.enc, proj 4 t.enc, proj 5 t.enc, proj 6 t.enc, proj 7 t.enc, proj 8 t.enc, proj 9 t.enc, proj 10 t.enc, proj 11 t.enc, proj 12 t.enc, proj 13 t.enc, proj 14 t.enc, proj 15 t.enc, proj 16 t.enc, proj 17 t.enc, proj 18 t.enc, proj 19 t.enc]) = t.enc := by simp [Tm.eta]
        have ek : ∀ k : Tm, (DV.agg [proj 0 k.enc, proj 1 k.enc, proj 2 k.enc, proj 3 k.enc, proj 4 k.enc, proj 5 k.enc, proj 6 k.enc, proj 7 k.enc, proj 8 k.enc, proj 9 k.enc, proj 10 k.enc, proj 11 k.enc, proj 12 k.enc, proj 13 k.enc, proj 14 k.enc, proj 15 k.enc, proj 16 k.enc, proj 17 k.enc, proj 18 k.enc, proj 19 k.enc]) = k.enc := fun k => by simp [Tm.eta]
        have a1 : arrIdx 0 t.kids.length (.int .i64 (j : Int)) = some j := by
          show (if (0 : Int) ≤ (j : Int) ∧ (j : Int) < (t.kids.length : Int) then some (0 + (j : Int).toNat) else none) = some j
          rw [if_pos ⟨by omega, by omega⟩]
          simp
        have g1 : (cur.map Tm.enc)[j]? = some t.kids[j].enc := by rw [List.getElem?_map, List.getElem?_eq_getElem h', hcj]; rfl
        have cd : cellDat (putBoxV s xs v) 0 = some (.str s) := rfl
        rw [List.drop_eq_getElem_cons h, Tm.putVL_cons]
        by_cases hb : ((t.binds j).any fun x => decide (x = s)) = true
        · obtain ⟨J', u, b, k1, k2⟩ := ihn (j + 1) cur J (by omega) hc (fun i hi => hcur i (by omega))
          refine ⟨J', u, b, ?_, ?_⟩
          · rw [← k1]
            unfold inLoop
            rw [eq_term_putting_in_19h]
            simp only [dBin_lss, Int.ofNat_lt, h, decide_true, ob_some', oif_bool, if_true, a1, sgArr_app, g1, BEq.rfl, og_true', ee, hbi, sgBox_app hS, cd, hct, hb]
            rw [dAdd1 (by omega)]
            rfl
          · rw [← k2, if_pos hb]
            simp only [Option.bind_some, Option.map_map]
            congr 1
            funext ks
            simp only [Function.comp_apply]
            rw [List.take_succ_eq_append_getElem h', hcj, List.append_assoc]
            rfl
        · have hb' : ((t.binds j).any fun x => decide (x = s)) = false := Bool.eq_false_iff.2 hb
          obtain ⟨J1, u1, b1, f1, f2⟩ := ih _ (List.getElem_mem h) (ft.kid (List.getElem_mem h)) (Tm.right_kid rt (List.getElem_mem h)) (by omega) (S ++ .arr 20 (cur.map Tm.enc) :: J) (sgBox_app hS _)
          rw [if_neg hb, f2]
          cases b1
          · refine ⟨.arr 20 (cur.map Tm.enc) :: J ++ J1, t, false, ?_, by simp⟩
            unfold inLoop
            rw [eq_term_putting_in_19h]
            simp only [dBin_lss, Int.ofNat_lt, h, decide_true, ob_some', oif_bool, if_true, a1, sgArr_app, g1, BEq.rfl, og_true', ee, ek, hbi, sgBox_app hS, cd, hct, hb', Bool.false_eq_true, if_false, f1, dExt, List.getElem?_cons_succ, List.getElem?_cons_zero, isAggN_Tm, dUn_not, Bool.not_false]
            rw [List.append_assoc]
          · obtain ⟨J', u, b, k1, k2⟩ := ihn (j + 1) (cur.set j u1) (J ++ J1) (by omega) (by simpa using hc) (fun i hi => by rw [List.getElem?_set_ne (by omega)]; exact hcur i (by omega))
            refine ⟨J', u, b, ?_, ?_⟩
            · rw [← k1]
              unfold inLoop
              rw [eq_term_putting_in_19h]
              simp only [dBin_lss, Int.ofNat_lt, h, decide_true, ob_some', oif_bool, if_true, a1, sgArr_app, g1, BEq.rfl, og_true', ee, ek, hbi, sgBox_app hS, cd, hct, hb', Bool.false_eq_true, if_false, f1, dExt, List.getElem?_cons_succ, List.getElem?_cons_zero, isAggN_Tm, dUn_not, Bool.not_true, List.append_assoc, List.cons_append, set_app]
              rw [dAdd1 (by omega)]
              simp only [ob_some', List.map_set]
              try rfl
            · rw [← k2]
              simp only [if_true, Option.bind_some, Option.map_map]
              congr 1
              funext ks
              simp only [Function.comp_apply]
              rw [List.take_succ_eq_append_getElem (by simpa using h'), List.append_assoc, List.take_set_of_le (Nat.le_refl _)]
              simp
    have ee : (DV.agg [proj 0 t.enc, proj 1 t.enc, proj 2 t.enc, proj 3 t.enc, proj 4 t.enc, proj 5 t.enc, proj 6 t.enc, proj 7 t.enc, proj 8 t.enc, proj 9 t.enc, proj 10 t.enc, proj 11 t.enc, proj 12 t.enc, proj 13 t.enc, proj 14 t.enc, proj 15 t.enc, proj 16 t.enc, proj 17 t.enc, proj 18 t.enc, proj 19 t.enc]) = t.enc := by simp [Tm.eta]
    by_cases h1 : t.kind = 1
    · by_cases h2 : t.name = s
      · have cd0 : cellDat (putBoxV s xs v) 0 = some (.str s) := rfl
        have cd1 : cellDat (putBoxV s xs v) 1 = some (encInts xs) := rfl
        obtain ⟨e, e1, e2⟩ := putBoxV_seg s xs v
        obtain ⟨-, -, rargs⟩ := Tm.types_right rt
        by_cases h3 : t.args.length = xs.length
        · by_cases h0 : xs = []
          · subst h0
            have h3' : t.args.length = 0 := h3
            refine ⟨[], v, true, call_term_putting_in _ _ _ ?_, by rw [Tm.putV_eq, if_pos h1, if_pos h2, if_pos h3, List.zip_nil_left, Tm.typs_nil]; rfl⟩
            rw [eq_term_putting_in]
            simp only [ee]
            simp [h1, h2, h3', hS, cd0, cd1, e1, e2, Tm.eta]
          · refine ⟨[], v.typs (xs.zip t.args), true, call_term_putting_in _ _ _ ?_, by rw [Tm.putV_eq, if_pos h1, if_pos h2, if_pos h3]; rfl⟩
            have h0' : ¬ (xs.length : Int) = 0 := by
              have := List.length_pos_iff.2 h0
              omega
            have hT := sp_term_types v fv rv (xs.zip t.args) (by rw [List.length_zip]; omega) (rightBinds_zip hx rargs)
            have lp := inV_loop s xs v t S hS hxl h3
            rw [in_endV s xs v t S hS e e1 e2 hT] at lp
            rw [eq_term_putting_in]
            have n1 : dBin .neq (.str t.name) (.str s) = some (.bool false) := by rw [h2]; simp
            have n2 : dBin .neq (.int .i64 (t.args.length : Int)) (.int .i64 (xs.length : Int)) = some (.bool false) := by rw [h3]; simp
            simp only [isAggN_Tm, og_true', Tm.proj0 t, Tm.proj3 t, Tm.proj17 t, dBin_eql, h1, decide_true, ob_some', oif_bool, if_true, hS, cd0, cd1, n1, n2, Bool.false_eq_true, if_false, dLen_list, List.length_map, dLen_ints, h0', decide_false]
            rw [List.append_nil]
            exact lp
        · refine ⟨[], t, false, call_term_putting_in _ _ _ ?_, by rw [Tm.putV_eq, if_pos h1, if_pos h2, if_neg h3]; rfl⟩
          have n1 : dBin .neq (.str t.name) (.str s) = some (.bool false) := by rw [h2]; simp
          have n2 : dBin .neq (.int .i64 (t.args.length : Int)) (.int .i64 (xs.length : Int)) = some (.bool true) := by
            have : ¬ (t.args.length : Int) = (xs.length : Int) := by omega
            simp [this]
          rw [eq_term_putting_in]
          simp only [ee]
          simp only [isAggN_Tm, og_true', Tm.proj0 t, Tm.proj3 t, Tm.proj17 t, dBin_eql, h1, decide_true, ob_some', oif_bool, if_true, hS, cd0, cd1, n1, n2, Bool.false_eq_true, if_false, dLen_list, List.length_map, dLen_ints, List.append_nil]
      · refine ⟨[], t, true, call_term_putting_in _ _ _ ?_, by rw [Tm.putV_eq, if_pos h1, if_neg h2]; rfl⟩
        have cd0 : cellDat (putBoxV s xs v) 0 = some (.str s) := rfl
        rw [eq_term_putting_in]
        simp only [ee]
        simp [h1, h2, hS, cd0, Tm.eta]
    · by_cases h2 : t.kids.length = 0
      · have hnil : t.kids = [] := List.eq_nil_of_length_eq_zero h2
        refine ⟨[], t, true, call_term_putting_in _ _ _ ?_, ?_⟩
        · rw [eq_term_putting_in]
          simp [h1, h2, Tm.eta]
        · rw [Tm.putV_eq, if_neg h1, hnil, Tm.putVL_nil]
          simp only [Option.map_some, if_true]
          rw [← hnil, Tm.withKids_self]
      · obtain ⟨J, u, b, k1, k2⟩ := loop t.kids.length 0 t.kids [] (by omega) rfl (fun i _ => rfl)
        refine ⟨J, u, b, call_term_putting_in _ _ _ ?_, ?_⟩
        · rw [eq_term_putting_in]
          have h2' : ¬ (t.kids.length : Int) = 0 := by omega
          have hle : t.kids.length ≤ lim := Nat.le_of_lt ft.one.kids
          simp only [isAggN_Tm, og_true', Tm.proj0, dBin_eql, ob_some', h1, decide_false, oif_bool, Bool.false_eq_true, if_false, Tm.proj19, dLen_list, List.length_map, h2', dList_list, BEq.rfl, Bool.true_and, hle, decide_true]
          exact k1
        · rw [Tm.putV_eq, if_neg h1, ← k2]
          simp

theorem sp_term_ForV (t v : Tm) (s : ByteArray) (xs : List Int) (hx : rightVars xs = true) (hxl : xs.length ≤ lim) (fv : v.fit) (rv : v.right = true) (ft : t.fit) (rt : t.right = true) (hm : 2 * t.mass ≤ lim) : (run cfg).p F_term_For [t.enc, .str s, encInts xs, v.enc] = some (putOut (t.putV s xs v)) := by
  obtain ⟨J, u, b, h1, h2⟩ := sp_term_inV s xs v hx hxl fv rv t ft rt hm [.box (putBoxV s xs v)] rfl
  refine call_term_For _ _ _ _ ?_
  rw [eq_term_For]
  have h1' : (run cfg).r F_term_putting_in [(.undef, .ptr 0 0), (t.enc, .val)] [SObj.box [(.str s, .val), (encInts xs, .val), (proj 0 v.enc, .val), (proj 1 v.enc, .val), (proj 2 v.enc, .val), (proj 3 v.enc, .val), (proj 4 v.enc, .val), (proj 5 v.enc, .val), (proj 6 v.enc, .val), (proj 7 v.enc, .val), (proj 8 v.enc, .val), (proj 9 v.enc, .val), (proj 10 v.enc, .val), (proj 11 v.enc, .val), (proj 12 v.enc, .val), (proj 13 v.enc, .val), (proj 14 v.enc, .val), (proj 15 v.enc, .val), (proj 16 v.enc, .val), (proj 17 v.enc, .val), (proj 18 v.enc, .val), (proj 19 v.enc, .val)]] = some ([u.enc, .bool b], [.box (putBoxV s xs v)] ++ J) := by
    rw [← h1]
    simp [putBoxV]
  have ic : isCell (encInts xs) = true := rfl
  simp only [tmx3, isAggN_Tm, og_true', isCell_str, ic, h1', ob_some', dExt, List.getElem?_cons_succ, List.getElem?_cons_zero, dUn_not, oif_bool, h2, zeroTm_agg]
  cases b <;> simp [putOut]

theorem sp_term_PutV (t v : Tm) (s : ByteArray) (xs : List Int) (hxl : xs.length ≤ lim) (ft : t.fit) (fv : v.fit) (hm : 2 * t.mass ≤ lim) (hv : 2 * v.mass ≤ lim) (hs : s.size ≤ lim) :
    (run cfg).p F_term_Put [t.enc, .str s, encInts xs, v.enc] = some (if t.right = true ∧ v.right = true ∧ nameB s = true ∧ v.free = [] ∧ rightVars xs = true then putOut (t.putV s xs v) else .tup [zeroTm.enc, .int .i64 1]) := by
  have hb := big hxl
  refine call_term_Put _ _ _ _ ?_
  rw [eq_term_Put]
  simp only [tmx3, isAggN_Tm, og_true', sp_term_right t ft, sp_term_right v fv, ob_some', dUn_not, ogd_bool, zeroTm_agg, sp_word_Name s hs]
  cases h1 : t.right
  · simp
  cases h2 : v.right
  · simp
  cases h3 : nameB s
  · simp
  have hF := sp_term_Free v fv hv
  rw [if_pos h2] at hF
  by_cases h4 : v.free = []
  · have loop : ∀ (n j : Nat), j + n = xs.length → P_term_Put_4h (run cfg) (.str s) (encInts xs) (encInts xs) (.int .i64 xs.length) (.int .i64 (j : Int)) t.enc v.enc (.int .i64 0) (.int .i64 0) (.int .i64 0) (.str ⟨#[]⟩) (.str ⟨#[]⟩) (.int .i64 0) (.str ⟨#[]⟩) (.int .i64 0) (.int .i64 0) (.bool false) (.list 1 []) (.int .i64 0) (.int .i64 0) (.list 3 []) (.int .i64 0) (.int .i64 0) (.list 3 []) (.list 3 []) (.list 7 []) (.list 20 []) =
        some (if rightVars (xs.drop j) = true then (if rightVars xs = true then putOut (t.putV s xs v) else .undef) else .tup [zeroTm.enc, .int .i64 1]) ∨ (rightVars (xs.drop j) = true ∧ rightVars xs = false) := by
      intro n
      induction n with
      | zero =>
        intro j hj
        have e : j = xs.length := by omega
        subst e
        rw [List.drop_length]
        have r0 : rightVars [] = true := rfl
        cases hr : rightVars xs
        · exact .inr ⟨r0, rfl⟩
        · refine .inl ?_
          have hz := sp_term_ForV t v s xs hr hxl fv h2 ft h1 hm
          rw [eq_term_Put_4h]
          simp only [dBin_lss, Int.lt_irrefl, decide_false, ob_some', oif_bool, Bool.false_eq_true, if_false, tmx3, hz, r0, if_true]
          cases t.putV s xs v <;> simp only [putOut, dExt, List.getElem?_cons_succ, List.getElem?_cons_zero, ob_some', isAggN_Tm, og_true', tmx3]
      | succ n ih =>
        intro j hj
        have h : j < xs.length := by omega
        have e1 := dIdx_ints (k := .i64) h
        have il : isLeaf (.int .i64 xs[j]) = true := rfl
        have e4 : dBin .add (.int .i64 (j : Int)) (.int .i64 1) = some (.int .i64 ((j + 1 : Nat) : Int)) := dAdd1 (show j < 9223372036854775807 by omega)
        have hd : rightVars (xs.drop j) = ((decide (0 ≤ xs[j]) && decide (xs[j] ≤ 1048576)) && rightVars (xs.drop (j + 1))) := by
          rw [List.drop_eq_getElem_cons h]
          rfl
        rw [hd, eq_term_Put_4h]
        simp only [dBin_lss, Int.ofNat_lt, h, decide_true, ob_some', oif_bool, if_true, e1, il, og_true', dBin_gtr, ogd_bool, zeroTm_agg, decide_eq_true_eq]
        by_cases a1 : xs[j] < 0
        · have a1' : ¬ (0 ≤ xs[j]) := by omega
          refine .inl ?_
          simp [a1, a1']
        · have a1' : 0 ≤ xs[j] := by omega
          by_cases a2 : 1048576 < xs[j]
          · have a2' : ¬ (xs[j] ≤ 1048576) := by omega
            refine .inl ?_
            simp [a1, a1', a2, a2']
          · have a2' : xs[j] ≤ 1048576 := by omega
            simp only [a1, a1', a2, a2', decide_true, Bool.true_and, if_false, e4]
            exact ih (j + 1) (by omega)
    have l0 := loop xs.length 0 (by omega)
    rw [List.drop_zero] at l0
    simp only [hF, h4, ob_some', dBin_gtr, Bool.not_true, Bool.false_eq_true, if_false, dLen_ints]
    have z : ¬ ((0 : Int) < 0) := by omega
    rcases l0 with l0 | ⟨l0, l1⟩
    · have c : ((0 : Nat) : Int) = 0 := rfl
      rw [c] at l0
      have dz : dLen (encStrs []) = some (.int .i64 0) := rfl
      simp only [dz, ob_some', dBin_gtr, z, decide_false, oif_bool, Bool.false_eq_true, if_false, l0]
      cases rightVars xs <;> simp
    · rw [l1] at l0; cases l0
  · have : 0 < v.free.length := List.length_pos_iff.2 h4
    simp [hF, h4, this]

/-- A number made of any that is below a bound. -/
theorem sp_keep_Int (x : Int) (n : Nat) (h0 : 0 < n) (h1 : n ≤ lim) : ∃ r : Nat, r < n ∧ (run cfg).p F_keep_Int [.int .i64 x, .int .i64 n] = some (.int .i64 r) := by
  have hb := big h1
  have hn : ¬ ((n : Int) < 1) := by omega
  have hu : IntKind.u64.wrap (n : Int) = n := Go.IntWalk.u64_in _ ⟨by omega, by omega⟩
  have hx : 0 ≤ IntKind.u64.wrap x := by
    simp [IntKind.wrap, IntKind.bits, IntKind.signed]; omega
  generalize hw : IntKind.u64.wrap x = w at hx
  have hr1 : 0 ≤ w.tmod n := Int.tmod_nonneg _ hx
  have hr2 : w.tmod n < n := Int.tmod_lt_of_pos _ (by omega)
  refine ⟨(w.tmod n).toNat, by omega, call_keep_Int _ _ ?_⟩
  have hrem : dBin .rem (.int .u64 w) (.int .u64 (n : Int)) = some (.int .u64 (w.tmod n)) := by
    have : ¬ ((n : Int) = 0) := by omega
    simp [dBin, isShift, dArith]
    omega
  have hi : IntKind.i64.wrap (w.tmod n) = w.tmod n := Go.IntWalk.i64_in _ ⟨by omega, by omega⟩
  have hc : ((w.tmod n).toNat : Int) = w.tmod n := by omega
  rw [eq_keep_Int]
  simp only [dBin_lss, hn, decide_false, ob_some', oif_bool, Bool.false_eq_true, if_false, dConv, hw, hu, hrem, hi, hc]

end Go.Su

/-
  The law TermArgs answers true on data.
-/
namespace Go.Su
open Go.Proofs
set_option linter.unusedVariables false
set_option linter.unusedSimpArgs false

def agz : ByteArray := ⟨#[122]⟩
def agf : ByteArray := ⟨#[102]⟩
def nmTm (s : ByteArray) (l : List Ty) : Tm := .mk 1 0 0 s nil8 0 nil8 0 0 false [] (.mk 0 0 []) (.mk 0 0 []) l [] []
def agV (r : Int) : Tm := .mk 9 0 0 agz nil8 0 nil8 0 0 false [] (.mk 6 r []) (.mk 0 0 []) [] [] [nmTm agz []]
def agPair (x y : Tm) : Tm := .mk 6 0 0 nil8 nil8 0 nil8 0 0 false [] (.mk 0 0 []) (.mk 0 0 []) [] [] [x, y]

theorem ag_nameZ : nameB agz = true := by decide +kernel
theorem ag_nameF : nameB agf = true := by decide +kernel
theorem nm_right {s : ByteArray} (h : nameB s = true) {l : List Ty} (hl : l.all Ty.right = true) : (nmTm s l).right = true := by
  rw [Tm.right_eq]
  simp only [List.all_eq_true] at hl
  simpa [nmTm, Tm.one, Tm.one1, Tm.one2, Tm.one3, Tm.one4, Tm.one5, Tm.lists, kOk, kKids, kName, kArg, kN, kS, kOp, kAt, kVars, kArgs, kPats, kA, kB, kLabel, namedB, typedB, nil8_size, wk_none, h] using hl
theorem agV_right {r : Int} (h0 : 0 ≤ r) (h1 : r ≤ 1048576) : (agV r).right = true := by
  have ht : (Ty.mk 6 r []).right = true := by rw [Ty.right_mk]; simp [arity, h0, h1]
  rw [Tm.right_eq]
  simp [agV, Tm.one, Tm.one1, Tm.one2, Tm.one3, Tm.one4, Tm.one5, Tm.lists, kOk, kKids, kName, kArg, kN, kS, kOp, kAt, kVars, kArgs, kPats, kA, kB, kLabel, namedB, typedB, nil8_size, wk_none, ht, ag_nameZ, nm_right ag_nameZ (l := []) rfl]
theorem agPair_right {x y : Tm} (hx : x.right = true) (hy : y.right = true) : (agPair x y).right = true := by
  rw [Tm.right_eq]
  simp [agPair, Tm.one, Tm.one1, Tm.one2, Tm.one3, Tm.one4, Tm.one5, Tm.lists, kOk, kKids, kName, kArg, kN, kS, kOp, kAt, kVars, kArgs, kPats, kA, kB, kLabel, namedB, typedB, nil8_size, wk_none, hx, hy]
theorem agV_mass (r : Int) : (agV r).mass ≤ 20 := by
  have : agz.size = 1 := rfl
  simp [agV, nmTm, Tm.mass_eq, Ty.size_eq, nil8_size, this]
theorem nm_mass (s : ByteArray) (l : List Ty) : (nmTm s l).mass ≤ s.size + (l.map Ty.size).sum + 10 := by
  simp [nmTm, Tm.mass_eq, Ty.size_eq, nil8_size]
  omega
theorem agPair_mass (x y : Tm) : (agPair x y).mass ≤ x.mass + y.mass + 10 := by
  simp [agPair, Tm.mass_eq, Ty.size_eq, nil8_size]
  omega
theorem agV_a (r : Int) (a : Ty) : ((agV r).typs [(r, a)]).a = a := by
  rw [Tm.typs_eq]
  simp [agV, Ty.putN, Ty.put_eq, look]
theorem agV_free (r : Int) : (agV r).free = [] := by kernel_rfl
theorem ag_free (a b : Ty) : (agPair (nmTm agf [a]) (nmTm agf [b])).free = [agf] := by kernel_rfl
theorem ag_freeU (r : Int) (a b : Ty) : (agPair ((agV r).typs [(r, a)]) ((agV r).typs [(r, b)])).free = [] := by kernel_rfl
theorem ag_put (r : Int) (a b : Ty) : (agPair (nmTm agf [a]) (nmTm agf [b])).putV agf [r] (agV r) = some (agPair ((agV r).typs [(r, a)]) ((agV r).typs [(r, b)])) := by kernel_rfl
theorem ag_put0 (r : Int) (a b : Ty) : (agPair (nmTm agf [a]) (nmTm agf [b])).putV agf [] (agV r) = none := by kernel_rfl
theorem ag_put2 (r : Int) (a b : Ty) : (agPair (nmTm agf []) (nmTm agf [a, b])).putV agf [r] (agV r) = none := by kernel_rfl

theorem law_termargs (a b : Ty) (n : Int) (hm : a.size + b.size ≤ 1048576) : (run cfg).p F_l17_TermArgs [a.enc, b.enc, .int .i64 n] = some (.bool true) := by
  have sa : a.size ≤ lim := by unfold lim; omega
  have sb : b.size ≤ lim := by unfold lim; omega
  have ta := Ty.thin_of_size sa
  have tb := Ty.thin_of_size sb
  obtain ⟨b1, h1, -⟩ := sp_l17_light2 a sa
  obtain ⟨b2, h2, -⟩ := sp_l17_light2 b sb
  have h3 := sp_r03_Right a ta
  have h4 := sp_r03_Right b tb
  refine call_l17_TermArgs _ _ _ ?_
  rw [eq_l17_TermArgs]
  simp only [isAggN_Ty, og_true', tyx3, h1, h2, h3, h4, ob_some', dUn_not, ogd_bool, oif_bool]
  cases b1
  · simp
  cases b2
  · simp
  cases ra : a.right
  · simp
  cases rb : b.right
  · simp
  obtain ⟨r, hr, h5⟩ := sp_keep_Int n 1000 (by omega) (by unfold lim; omega)
  have c1000 : ((1000 : Nat) : Int) = 1000 := rfl
  rw [c1000] at h5
  have r0 : (0 : Int) ≤ (r : Int) := by omega
  have r1 : (r : Int) ≤ 1048576 := by omega
  have nm0 : ∀ s : ByteArray, (run cfg).p F_l17_name [.str s, .list 3 []] = some (nmTm s []).enc := fun s => by
    refine call_l17_name _ _ ?_
    rw [eq_l17_name, Tm.enc_eq]
    rfl
  have nm1 : ∀ (s : ByteArray) (x : Ty), (run cfg).p F_l17_name [.str s, .list 3 [x.enc]] = some (nmTm s [x]).enc := fun s x => by
    refine call_l17_name _ _ ?_
    rw [eq_l17_name, Tm.enc_eq]
    rfl
  have nm2 : ∀ (s : ByteArray) (x y : Ty), (run cfg).p F_l17_name [.str s, .list 3 [x.enc, y.enc]] = some (nmTm s [x, y]).enc := fun s x y => by
    refine call_l17_name _ _ ?_
    rw [eq_l17_name, Tm.enc_eq]
    rfl
  have hz : (DV.str ⟨#[122]⟩) = .str agz := rfl
  have hf : (DV.str ⟨#[102]⟩) = .str agf := rfl
  have hV : (DV.agg [.int .i64 9, .int .i64 0, .int .i64 0, .str agz, .str ⟨#[]⟩, .int .i64 0, .str ⟨#[]⟩, .int .i64 0, .int .i64 0, .bool false, .list 1 [], .int .i64 6, .int .i64 (r : Int), .list 3 [], .int .i64 0, .int .i64 0, .list 3 [], .list 3 [], .list 7 [], .list 20 [(nmTm agz []).enc]]) = (agV r).enc := by
    rw [Tm.enc_eq (agV _)]; rfl
  have hP : ∀ x y : Tm, (DV.agg [.int .i64 6, .int .i64 0, .int .i64 0, .str ⟨#[]⟩, .str ⟨#[]⟩, .int .i64 0, .str ⟨#[]⟩, .int .i64 0, .int .i64 0, .bool false, .list 1 [], .int .i64 0, .int .i64 0, .list 3 [], .int .i64 0, .int .i64 0, .list 3 [], .list 3 [], .list 7 [], .list 20 [x.enc, y.enc]]) = (agPair x y).enc := fun x y => by
    rw [Tm.enc_eq (agPair _ _)]; rfl
  have hR : (DV.list 1 [.int .i64 (r : Int)]) = encInts [(r : Int)] := rfl
  have h0 : (DV.list 1 []) = encInts [] := rfl
  have ic : isCell (.int .i64 (r : Int)) = true := rfl
  have fs : agf.size = 1 := rfl
  have rV := agV_right r0 r1
  have mV := agV_mass r
  have m1 := nm_mass agf [a]
  have m2 := nm_mass agf [b]
  have m3 := nm_mass agf []
  have m4 := nm_mass agf [a, b]
  simp only [List.map_cons, List.map_nil, List.sum_cons, List.sum_nil, fs] at m1 m2 m3 m4
  have mT := agPair_mass (nmTm agf [a]) (nmTm agf [b])
  have mT2 := agPair_mass (nmTm agf []) (nmTm agf [a, b])
  have mU := agPair_mass ((agV r).typs [((r : Int), a)]) ((agV r).typs [((r : Int), b)])
  have mUa := Tm.typs_mass (M := a.size) (Ty.size_pos a) (agV r) [((r : Int), a)] (by simp)
  have mUb := Tm.typs_mass (M := b.size) (Ty.size_pos b) (agV r) [((r : Int), b)] (by simp)
  have k1 : (agV r).mass * a.size ≤ 20 * a.size := Nat.mul_le_mul_right _ mV
  have k2 : (agV r).mass * b.size ≤ 20 * b.size := Nat.mul_le_mul_right _ mV
  have fV : (agV r).fit := Tm.fit_mass (by omega)
  have fT : (agPair (nmTm agf [a]) (nmTm agf [b])).fit := Tm.fit_mass (by omega)
  have fT2 : (agPair (nmTm agf []) (nmTm agf [a, b])).fit := Tm.fit_mass (by omega)
  have fU : (agPair ((agV r).typs [((r : Int), a)]) ((agV r).typs [((r : Int), b)])).fit := Tm.fit_mass (by omega)
  have rT : (agPair (nmTm agf [a]) (nmTm agf [b])).right = true := agPair_right (nm_right ag_nameF (by simp [ra])) (nm_right ag_nameF (by simp [rb]))
  have rT2 : (agPair (nmTm agf []) (nmTm agf [a, b])).right = true := agPair_right (nm_right ag_nameF rfl) (nm_right ag_nameF (by simp [ra, rb]))
  have rU : (agPair ((agV r).typs [((r : Int), a)]) ((agV r).typs [((r : Int), b)])).right = true :=
    agPair_right (Tm.typs_right _ rV _ (by simp [rightBinds, r0, r1, ra])) (Tm.typs_right _ rV _ (by simp [rightBinds, r0, r1, rb]))
  have xr : rightVars [(r : Int)] = true := by simp [rightVars, r0, r1]
  have p1 := sp_term_PutV (agPair (nmTm agf [a]) (nmTm agf [b])) (agV r) agf [(r : Int)] (by unfold lim; simp) fT fV (by unfold lim; omega) (by unfold lim; omega) (by rw [fs]; unfold lim; omega)
  rw [if_pos ⟨rT, rV, ag_nameF, agV_free r, xr⟩, ag_put] at p1
  have p2 := sp_term_PutV (agPair (nmTm agf [a]) (nmTm agf [b])) (agV r) agf [] (by unfold lim; simp) fT fV (by unfold lim; omega) (by unfold lim; omega) (by rw [fs]; unfold lim; omega)
  rw [if_pos ⟨rT, rV, ag_nameF, agV_free r, rfl⟩, ag_put0] at p2
  have p3 := sp_term_PutV (agPair (nmTm agf []) (nmTm agf [a, b])) (agV r) agf [(r : Int)] (by unfold lim; simp) fT2 fV (by unfold lim; omega) (by unfold lim; omega) (by rw [fs]; unfold lim; omega)
  rw [if_pos ⟨rT2, rV, ag_nameF, agV_free r, xr⟩, ag_put2] at p3
  have e1 := sp_term_Free _ fT (by unfold lim; omega)
  rw [if_pos rT, ag_free] at e1
  have e2 := sp_term_Free _ fU (by unfold lim; omega)
  rw [if_pos rU, ag_freeU] at e2
  have hs := sp_r05_Has [agf] (by unfold lim; simp) agf
  have hs1 : hasS [agf] agf = true := by simp [hasS]
  rw [hs1] at hs
  have s1 := sp_keep_Same a ta a
  have s2 := sp_keep_Same b tb b
  rw [decide_eq_true rfl] at s1 s2
  have x0 : ∀ a b, dExt 0 (.tup [a, b]) = some a := fun _ _ => rfl
  have x1 : ∀ a b, dExt 1 (.tup [a, b]) = some b := fun _ _ => rfl
  simp only [Bool.not_true, Bool.false_eq_true, if_false, h5, ic, og_true', ob_some', hz, hf, nm0, nm1, isAggN_Tm, hP, hV, hR, p1, putOut, x0, x1]
  rw [h0]
  simp only [p2, putOut, x0, x1, ob_some', isAggN_Tm, og_true']
  rw [eq_l17_TermArgs_8]
  rw [← h0]
  simp only [tyx3, hf, nm0, nm2, ob_some', isAggN_Tm, og_true', ic, hP, hV, hR, p3, putOut, x0, x1]
  rw [eq_l17_TermArgs_9]
  have g0 : dIdx 20 (proj 19 (agPair ((agV r).typs [((r : Int), a)]) ((agV r).typs [((r : Int), b)])).enc) (.int .i64 0) = some ((agV r).typs [((r : Int), a)]).enc := by rw [Tm.proj19]; rfl
  have g1 : dIdx 20 (proj 19 (agPair ((agV r).typs [((r : Int), a)]) ((agV r).typs [((r : Int), b)])).enc) (.int .i64 1) = some ((agV r).typs [((r : Int), b)]).enc := by rw [Tm.proj19]; rfl
  have g2 : dLen (proj 19 (agPair ((agV r).typs [((r : Int), a)]) ((agV r).typs [((r : Int), b)])).enc) = some (.int .i64 2) := by rw [Tm.proj19]; rfl
  have l0 : dLen (encStrs []) = some (.int .i64 0) := rfl
  simp only [dBin_eql, decide_true, ob_some', ogd_bool, if_true, g2, g0, g1, tm_a, agV_a, tyx3, s1, s2, hP, e1, hf, hs, tmx3, e2, l0, w_l17_wakes]

end Go.Su
