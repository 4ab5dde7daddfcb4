/-
  Parts of the proof, merged: QF, LTreeFree.
-/
import Derived.Test.YtldedkgnmpmaoaaU3
import Derived.Test.YtldedkgnmpmaoaaU4
import Derived.Test.YtldedkgnmpmaoaaU5
set_option linter.unusedVariables false
set_option linter.unusedSimpArgs false
/-
  The functions' specs that this claim needs.
-/
namespace Go.Su
set_option linter.unusedVariables false
set_option linter.unusedSimpArgs false

theorem big {n : Nat} (h : n ≤ lim) : n < 4294967297 := by unfold lim at h; omega

theorem sp_r03_Kids (k : Int) : (run cfg).p F_r03_Kids [.int .i64 k] = some (.int .i64 (arity k)) := by
  refine call_r03_Kids _ ?_
  rw [eq_r03_Kids]
  simp [arity]
  by_cases h1 : k = 1 <;> by_cases h2 : k = 2 <;> by_cases h3 : k = 3 <;> by_cases h4 : k = 4 <;> by_cases h5 : k = 5 <;> by_cases h6 : k = 6 <;> by_cases h7 : k = 7 <;> by_cases h8 : k = 8 <;> by_cases h9 : k = 9 <;> simp_all

theorem sp_typ_arity (k : Int) : (run cfg).p F_typ_arity [.int .i64 k] = some (.int .i64 (arity k)) := by
  refine call_typ_arity _ ?_
  rw [eq_typ_arity]
  simp [arity]
  by_cases h1 : k = 1 <;> by_cases h2 : k = 2 <;> by_cases h3 : k = 3 <;> by_cases h4 : k = 4 <;> by_cases h5 : k = 5 <;> by_cases h6 : k = 6 <;> by_cases h7 : k = 7 <;> by_cases h8 : k = 8 <;> by_cases h9 : k = 9 <;> simp_all

theorem sp_r03_Right (t : Ty) : t.thin = true → (run cfg).p F_r03_Right [t.enc] = some (.bool t.right) := by
  induction t using Ty.ind with
  | h t ih =>
    intro ht
    have hb := t.thin_len ht
    refine call_r03_Right _ ?_
    have loop : P_r03_Right_4h (run cfg) (.int .i64 0) t.enc = _ := loop_all (l := t.kids) (f := Ty.right) (P := fun i => P_r03_Right_4h (run cfg) (.int .i64 i) t.enc) (y := .bool true) (n := .bool false)
      (by rw [eq_r03_Right_4h]; simp)
      (fun i h => by
        rw [eq_r03_Right_4h]
        simp [h, dIdx_map h, Ty.eta, ih _ (List.getElem_mem h) (Ty.thin_kid ht (List.getElem_mem h)), dAdd1 (show i < 9223372036854775807 by omega)]
        cases t.kids[i].right <;> rfl)
    rw [eq_r03_Right]
    simp only [isAggN_Ty, og_true', Ty.proj0, Ty.proj1, Ty.proj2, sp_r03_Kids, ob_some', dLen_list, dBin_neq, dBin_lss, dBin_gtr, ogd_bool, oif_bool, loop, Ty.right_eq t, List.length_map]
    grind

theorem sp_typ_right (t : Ty) : t.thin = true → (run cfg).p F_typ_right [t.enc] = some (.bool t.right) := by
  induction t using Ty.ind with
  | h t ih =>
    intro ht
    have hb := t.thin_len ht
    refine call_typ_right _ ?_
    have loop : P_typ_right_9h (run cfg) (.list 3 (t.kids.map Ty.enc)) (.int .i64 t.kids.length) (.int .i64 0) = _ := loop_all (l := t.kids) (f := Ty.right) (P := fun i => P_typ_right_9h (run cfg) (.list 3 (t.kids.map Ty.enc)) (.int .i64 t.kids.length) (.int .i64 i)) (y := .bool true) (n := .bool false)
      (by rw [eq_typ_right_9h]; simp)
      (fun i h => by
        rw [eq_typ_right_9h]
        simp [h, dIdx_map h, Ty.eta, ih _ (List.getElem_mem h) (Ty.thin_kid ht (List.getElem_mem h)), dAdd1 (show i < 9223372036854775807 by omega)]
        cases t.kids[i].right <;> rfl)
    rw [eq_typ_right]
    simp only [isAggN_Ty, og_true', Ty.proj0, Ty.proj1, Ty.proj2, sp_typ_arity, ob_some', dLen_list, dBin_neq, dBin_lss, dBin_gtr, dBin_geq, dBin_leq, dBin_eql, ogd_bool, oif_bool, loop, Ty.right_eq t, List.length_map]
    have h0 : t.kind = 6 → arity t.kind = 0 := fun h => by rw [h]; rfl
    have h7 : t.kind = 6 → arity t.kind = t.kids.length → t.kids.all Ty.right = true := fun h h' => by
      have : t.kids = [] := List.eq_nil_of_length_eq_zero (by have := h0 h; omega)
      rw [this]; rfl
    have h8 : (t.kids.length : Int) = arity t.kind ↔ arity t.kind = t.kids.length := eq_comm
    simp only [h8, ite_sb, ite_db]
    refine sb_iff ?_
    by_cases h1 : arity t.kind = t.kids.length
    · have h2 : ¬ (arity t.kind < 0) := by omega
      by_cases h4 : t.kind = 6
      · simp [h1, h2, h4, h7 h4 h1]
        omega
      · by_cases h5 : t.n = 0 <;> simp [h1, h2, h4, h5]
    · by_cases h2 : arity t.kind < 0 <;> simp [h1, h2]

theorem sp_typ_Check (t : Ty) (ht : t.thin = true) : (run cfg).p F_typ_Check [t.enc] = some (.int .i64 (if t.right = true then 0 else 1)) := by
  refine call_typ_Check _ ?_
  rw [eq_typ_Check]
  simp [Ty.eta, sp_typ_right t ht]
  cases t.right <;> rfl

theorem sp_typ_Same (a : Ty) : a.thin = true → ∀ b : Ty, (run cfg).p F_typ_Same [a.enc, b.enc] = some (.bool (decide (a = b))) := by
  induction a using Ty.ind with
  | h a ih =>
    intro ha b
    have hb := a.thin_len ha
    refine call_typ_Same _ _ ?_
    rw [eq_typ_Same]
    simp
    by_cases h1 : a.kind = b.kind <;> simp [h1, Ty.ext_iff']
    by_cases h2 : a.n = b.n <;> simp [h2]
    by_cases h3 : a.kids.length = b.kids.length
    · have loop := loop_two (l := a.kids) (m := b.kids) h3 (P := fun i => P_typ_Same_4h (run cfg) (.list 3 (a.kids.map Ty.enc)) (.int .i64 a.kids.length) (.int .i64 i) b.enc) (y := .bool true) (n := .bool false)
        (by rw [eq_typ_Same_4h]; simp [h3])
        (fun i h => by
          have h' : i < b.kids.length := by omega
          rw [eq_typ_Same_4h]
          simp [h, h', dIdx_map h, dIdx_map h', Ty.eta, ih _ (List.getElem_mem h) (Ty.thin_kid ha (List.getElem_mem h)), dAdd1 (show i < 9223372036854775807 by omega)])
      simp only [h3] at loop ⊢
      simp [loop]
      by_cases h4 : a.kids = b.kids <;> simp [h4]
    · have : a.kids ≠ b.kids := fun h => h3 (by rw [h])
      simp [Int.ofNat_inj, h3, this]

theorem sp_r03_Same (a : Ty) : a.thin = true → ∀ b : Ty, (run cfg).p F_r03_Same [a.enc, b.enc] = some (.bool (decide (a = b))) := by
  induction a using Ty.ind with
  | h a ih =>
    intro ha b
    have hb := a.thin_len ha
    refine call_r03_Same _ _ ?_
    rw [eq_r03_Same]
    simp
    by_cases h1 : a.kind = b.kind <;> simp [h1, Ty.ext_iff']
    by_cases h2 : a.n = b.n <;> simp [h2]
    by_cases h3 : a.kids.length = b.kids.length
    · have loop := loop_two (l := a.kids) (m := b.kids) h3 (P := fun i => P_r03_Same_4h (run cfg) (.int .i64 i) a.enc b.enc) (y := .bool true) (n := .bool false)
        (by rw [eq_r03_Same_4h]; simp [h3])
        (fun i h => by
          have h' : i < b.kids.length := by omega
          rw [eq_r03_Same_4h]
          simp [h, h', dIdx_map h, dIdx_map h', Ty.eta, ih _ (List.getElem_mem h) (Ty.thin_kid ha (List.getElem_mem h)), dAdd1 (show i < 9223372036854775807 by omega)])
      simp only [h3] at loop ⊢
      simp [loop]
      by_cases h4 : a.kids = b.kids <;> simp [h4]
    · have : a.kids ≠ b.kids := fun h => h3 (by rw [h])
      simp [Int.ofNat_inj, h3, this]

theorem sp_typ_without (q : Int) (t : Ty) : t.thin = true → (run cfg).p F_typ_without [t.enc, .int .i64 q] = some (.bool (t.without q)) := by
  induction t using Ty.ind with
  | h t ih =>
    intro ht
    have hb := t.thin_len ht
    refine call_typ_without _ _ ?_
    have loop : P_typ_without_4h (run cfg) (.int .i64 q) (.list 3 (t.kids.map Ty.enc)) (.int .i64 t.kids.length) (.int .i64 0) = _ := loop_allB (l := t.kids) (f := Ty.without q) (P := fun i => P_typ_without_4h (run cfg) (.int .i64 q) (.list 3 (t.kids.map Ty.enc)) (.int .i64 t.kids.length) (.int .i64 i))
      (by rw [eq_typ_without_4h]; simp)
      (fun i h => by
        rw [eq_typ_without_4h]
        simp [h, dIdx_map h, Ty.eta, ih _ (List.getElem_mem h) (Ty.thin_kid ht (List.getElem_mem h)), dAdd1 (show i < 9223372036854775807 by omega)]
        cases (t.kids[i].without q) <;> rfl)
    rw [eq_typ_without]
    simp only [loop, isAggN_Ty, og_true', Ty.proj0, Ty.proj2, ob_some', dLen_list, dBin_eql, oif_bool, List.length_map, Ty.without_eq q t]
    by_cases h1 : t.kind = q <;> simp [h1]

theorem sp_r03_Without (q : Int) (t : Ty) : t.thin = true → (run cfg).p F_r03_Without [t.enc, .int .i64 q] = some (.bool (t.without q)) := by
  induction t using Ty.ind with
  | h t ih =>
    intro ht
    have hb := t.thin_len ht
    refine call_r03_Without _ _ ?_
    have loop : P_r03_Without_4h (run cfg) (.int .i64 q) (.int .i64 0) t.enc = _ := loop_allB (l := t.kids) (f := Ty.without q) (P := fun i => P_r03_Without_4h (run cfg) (.int .i64 q) (.int .i64 i) t.enc)
      (by rw [eq_r03_Without_4h]; simp)
      (fun i h => by
        rw [eq_r03_Without_4h]
        simp [h, dIdx_map h, Ty.eta, ih _ (List.getElem_mem h) (Ty.thin_kid ht (List.getElem_mem h)), dAdd1 (show i < 9223372036854775807 by omega)]
        cases (t.kids[i].without q) <;> rfl)
    rw [eq_r03_Without]
    simp only [loop, isAggN_Ty, og_true', Ty.proj0, Ty.proj2, ob_some', dLen_list, dBin_eql, oif_bool, List.length_map, Ty.without_eq q t]
    by_cases h1 : t.kind = q <;> simp [h1]

theorem sp_typ_Closed (t : Ty) (ht : t.thin = true) : (run cfg).p F_typ_Closed [t.enc] = some (.bool (t.without 6)) := by
  refine call_typ_Closed _ ?_
  rw [eq_typ_Closed]
  simp [Ty.eta, sp_typ_without 6 t ht]

theorem sp_word_Key (s : ByteArray) : (run cfg).p F_word_Key [.str s] = some (.bool (keyB s)) := by
  refine call_word_Key _ ?_
  rw [eq_word_Key]
  have e : ∀ l : List UInt8, (s = ⟨l.toArray⟩) ↔ s.data.toList = l := fun l => by
    constructor
    · rintro rfl; simp
    · intro h; cases s; simp only [ByteArray.mk.injEq]; exact Array.ext' (by simpa using h)
  simp only [dBin_seql, ob_some', oif_bool]
  simp only [e, keyB, keyL, List.mem_cons, List.not_mem_nil, or_false]
  simp only [decide_eq_true_eq, ite_s, ite_db, Bool.if_true_left, Bool.decide_or, Bool.or_false]

theorem sp_word_inner (c : Int) : (run cfg).p F_word_inner [.int .u8 c] = some (.bool (partB c)) := by
  refine call_word_inner _ ?_
  rw [eq_word_inner]
  simp only [dBin_geq, dBin_leq, dBin_eql, ob_some', ogd_bool, decide_eq_true_eq, partB, lowerB, digitB]
  by_cases h1 : 97 ≤ c <;> by_cases h2 : c ≤ 122 <;> by_cases h3 : 65 ≤ c <;> by_cases h4 : c ≤ 90 <;> by_cases h5 : 48 ≤ c <;> by_cases h6 : c ≤ 57 <;> by_cases h7 : c = 95 <;> simp [h1, h2, h3, h4, h5, h6, h7]

theorem sp_r01_lower (c : Int) : (run cfg).p F_r01_lower [.int .u8 c] = some (.bool (lowerB c)) := by
  refine call_r01_lower _ ?_
  rw [eq_r01_lower]
  simp only [dBin_geq, dBin_leq, ob_some', ogd_bool, decide_eq_true_eq, lowerB]
  by_cases h1 : 97 ≤ c <;> simp [h1]

theorem sp_r01_digit (c : Int) : (run cfg).p F_r01_digit [.int .u8 c] = some (.bool (digitB c)) := by
  refine call_r01_digit _ ?_
  rw [eq_r01_digit]
  simp only [dBin_geq, dBin_leq, ob_some', ogd_bool, decide_eq_true_eq, digitB]
  by_cases h1 : 48 ≤ c <;> simp [h1]

theorem sp_r01_part (c : Int) : (run cfg).p F_r01_part [.int .u8 c] = some (.bool (partB c)) := by
  refine call_r01_part _ ?_
  rw [eq_r01_part]
  simp only [dBin_geq, dBin_leq, dBin_eql, ob_some', ogd_bool, decide_eq_true_eq, sp_r01_lower, sp_r01_digit, partB]
  by_cases h1 : lowerB c = true <;> by_cases h2 : digitB c = true <;> by_cases h3 : 65 ≤ c <;> by_cases h4 : c ≤ 90 <;> by_cases h7 : c = 95 <;> simp [h1, h2, h3, h4, h7]

theorem str_big {s : ByteArray} (h : s.size ≤ lim) : (bts s).length < 4294967297 := by rw [bts_len]; exact big h

theorem sp_word_Name (s : ByteArray) (hs : s.size ≤ lim) : (run cfg).p F_word_Name [.str s] = some (.bool (nameB s)) := by
  have hb := str_big hs
  refine call_word_Name _ ?_
  rw [eq_word_Name]
  simp only [dLenS_str, ob_some', dBin_lss, dBin_gtr, ogd_bool, oif_bool, decide_eq_true_eq, nameB, ← bts_len]
  by_cases h1 : ((bts s).length : Int) < 1
  · have : ¬ (1 ≤ (bts s).length) := by omega
    simp [h1, this]
  · by_cases h2 : (32 : Int) < ((bts s).length : Int)
    · have : ¬ ((bts s).length ≤ 32) := by omega
      simp [h1, h2, this]
    · have h0 : 0 < (bts s).length := by omega
      have e0 := dStr_idx (s := s) (k := .i64) h0
      simp only [Int.natCast_zero, Int.ofNat_zero, Int.cast_ofNat_Int] at e0
      have loop : ∀ (k i : Nat), i + k = (bts s).length → P_word_Name_4h (run cfg) (.str s) (.int .i64 i) = some (.bool (((bts s).drop i).all partB)) := by
        intro k
        induction k with
        | zero =>
          intro i hi
          rw [eq_word_Name_4h]
          have : ¬ i < (bts s).length := by omega
          simp [← bts_len, this, List.drop_of_length_le (show (bts s).length ≤ i by omega)]
        | succ k ih =>
          intro i hi
          have h : i < (bts s).length := by omega
          rw [eq_word_Name_4h]
          have := ih (i + 1) (by omega)
          push_cast at this
          have hlt : (i : Int) < (s.size : Int) := by rw [← bts_len]; omega
          rw [List.drop_eq_getElem_cons h, List.all_cons]
          simp only [dLenS_str, ob_some', dBin_lss, hlt, decide_true, oif_bool, if_true, dStr_idx h, sp_word_inner, dUn_not, dAdd1 (show i < 9223372036854775807 by omega)]
          push_cast
          rw [this]
          cases partB (bts s)[i] <;> rfl
      have l1 := loop ((bts s).length - 1) 1 (by omega)
      simp only [Int.natCast_one, Int.ofNat_one, Int.cast_ofNat_Int] at l1
      have g0 : (bts s).getD 0 0 = (bts s)[0] := by simp [List.getD_eq_getElem?_getD, h0]
      have d0 : bts s = (bts s)[0] :: (bts s).drop 1 := by
        have := List.drop_eq_getElem_cons h0
        simpa using this
      have a1 : (1 ≤ (bts s).length) := by omega
      have a2 : ((bts s).length ≤ 32) := by omega
      have e0' : dStrIdx (.str s) (.int .i64 0) = some (.int .u8 (bts s)[0]) := e0
      simp only [h1, h2, if_false, e0', ob_some', dBin_lss, dBin_gtr, ogd_bool, decide_eq_true_eq, sp_word_Key, oif_bool, g0, a1, a2, decide_true, Bool.true_and]
      by_cases h3 : (bts s)[0] < 97
      · have : lowerB (bts s)[0] = false := by simp [lowerB]; omega
        simp [h3, this]
      · by_cases h4 : (122 : Int) < (bts s)[0]
        · have : lowerB (bts s)[0] = false := by simp [lowerB]; omega
          simp [h3, h4, this]
        · have h5 : lowerB (bts s)[0] = true := by simp [lowerB]; omega
          have h6 : partB (bts s)[0] = true := by simp [partB, h5]
          have h7 : (bts s).all partB = ((bts s).drop 1).all partB := by
            conv => lhs; rw [d0]
            simp [h6]
          cases hk : keyB s
          · simp only [h3, h4, if_false, Bool.false_eq_true, h5, h7, Bool.true_and, Bool.not_false, Bool.and_true]
            exact l1
          · simp [h3, h4]

open Classical in
theorem sp_r01_Key (s : ByteArray) (hs : s.size ≤ 4294967000) : (run cfg).p F_r01_Key [.str s] = some (.bool (keyB s)) := by
  have hb : (bts s).length ≤ 4294967000 := by rw [bts_len]; exact hs
  refine call_r01_Key _ ?_
  rw [eq_r01_Key]
  let t : ByteArray := ⟨#[32]⟩ ++ s ++ ⟨#[32]⟩
  have tl : t.data.toList = 32 :: s.data.toList ++ [32] := by simp [t]
  have ts : t.size = s.size + 2 := by
    have := congrArg List.length tl
    simp only [Array.length_toList, List.length_append, List.length_cons, List.length_nil] at this
    have e1 : t.size = t.data.size := rfl
    have e2 : s.size = s.data.size := rfl
    omega
  -- the search
  have search : ∀ (k i : Nat), i + k = 82 → P_r01_Key_8h (run cfg) (.str s) (.str t) (.int .i64 i) = some (.bool (decide (0 < s.size ∧ ∃ j, i ≤ j ∧ j + t.size ≤ 81 ∧ (wordsL.drop j).take t.size = t.data.toList))) := by
    intro k
    induction k with
    | zero =>
      intro i hi
      rw [eq_r01_Key_8h]
      simp only [dLenS_str, ob_some']
      rw [dAdd (by omega) (by omega)]
      have : ¬ ((i : Int) + (t.size : Int) ≤ 81) := by omega
      have h2 : ¬ (0 < s.size ∧ ∃ j, i ≤ j ∧ j + t.size ≤ 81 ∧ (wordsL.drop j).take t.size = t.data.toList) := by rintro ⟨-, j, h1, h2, -⟩; omega
      simp [this, h2]
    | succ k ih =>
      intro i hi
      rw [eq_r01_Key_8h]
      simp only [dLenS_str, ob_some']
      rw [dAdd (by omega) (by omega)]
      by_cases h1 : (i : Int) + (t.size : Int) ≤ 81
      · have h1' : i + t.size ≤ 81 := by omega
        have nx := ih (i + 1) (by omega)
        simp only [dBin_leq, h1, decide_true, ob_some', oif_bool, if_true, dBin_gtr, ogd_bool, decide_eq_true_eq]
        rw [show ((i + 1 : Nat) : Int) = (i : Int) + 1 by omega] at nx
        by_cases h0 : (0 : Int) < (s.size : Int)
        · have h0' : 0 < s.size := by omega
          have ext : ∀ w : ByteArray, w.data.toList = wordsL → dSliceS (.str w) (some (.int .i64 (i : Int))) (some (.int .i64 ((i : Int) + (t.size : Int)))) = some (.str (w.extract i (i + t.size))) := by
            intro w hw
            have hwl : w.size = 81 := by
              have := congrArg List.length hw
              rw [words_len] at this
              simpa using this
            have e1 : ((i : Int) + (t.size : Int)).toNat = i + t.size := by omega
            simp only [dSliceS, bnd, ob_some', e1, show (0 : Int) ≤ (i : Int) + (t.size : Int) by omega, if_true, Int.natCast_nonneg, Int.toNat_natCast, hwl]
            rw [if_pos (by omega)]
          simp only [h0, if_true]
          rw [ext _ rfl]
          simp only [ob_some', dBin_seql, oif_bool, decide_eq_true_eq]
          rw [dAdd1 (by omega)]
          simp only [ob_some']
          rw [show ((i + 1 : Nat) : Int) = (i : Int) + 1 by omega, nx]
          have exl : ∀ w : ByteArray, w.data.toList = wordsL → ((w.extract i (i + t.size) = t) ↔ (wordsL.drop i).take t.size = t.data.toList) := by
            intro w hw
            have e : (w.extract i (i + t.size)).data.toList = (wordsL.drop i).take t.size := by
              rw [ByteArray.data_extract, Array.toList_extract, hw, List.extract_eq_take_drop]
              congr 1
              omega
            rw [← e]
            constructor
            · intro h; rw [h]
            · intro h
              cases hx : w.extract i (i + t.size)
              rw [hx] at h
              cases ht : t
              rw [ht] at h
              simp only [ByteArray.mk.injEq]
              exact Array.ext' h
          by_cases h2 : (wordsL.drop i).take t.size = t.data.toList
          · rw [if_pos ((exl _ rfl).2 h2)]
            have : (0 < s.size ∧ ∃ j, i ≤ j ∧ j + t.size ≤ 81 ∧ (wordsL.drop j).take t.size = t.data.toList) := ⟨h0', i, Nat.le_refl _, h1', h2⟩
            simp [this]
          · rw [if_neg (fun h => h2 ((exl _ rfl).1 h))]
            congr 2
            rw [Bool.eq_iff_iff]
            simp only [decide_eq_true_eq]
            constructor
            · rintro ⟨a, j, b, c⟩; exact ⟨a, j, by omega, c⟩
            · rintro ⟨a, j, b, c, d⟩
              refine ⟨a, j, ?_, c, d⟩
              rcases Nat.lt_or_ge i j with h | h
              · exact h
              · exact absurd (by rw [show i = j by omega]; exact d) h2
        · have : ¬ (0 < s.size ∧ ∃ j, i ≤ j ∧ j + t.size ≤ 81 ∧ (wordsL.drop j).take t.size = t.data.toList) := fun h => h0 (by have := h.1; omega)
          have this' : ¬ (0 < s.size ∧ ∃ j, i + 1 ≤ j ∧ j + t.size ≤ 81 ∧ (wordsL.drop j).take t.size = t.data.toList) := fun h => h0 (by have := h.1; omega)
          simp only [h0, if_false]
          rw [dAdd1 (by omega)]
          simp only [ob_some']
          rw [show ((i + 1 : Nat) : Int) = (i : Int) + 1 by omega, nx]
          simp [this, this']
      · have h2 : ¬ (0 < s.size ∧ ∃ j, i ≤ j ∧ j + t.size ≤ 81 ∧ (wordsL.drop j).take t.size = t.data.toList) := by rintro ⟨-, j, h3, h4, -⟩; omega
        simp [h1, h2]
  have fin : (s.data.toList.all low8 = true ∧ 0 < s.size ∧ ∃ j, 0 ≤ j ∧ j + t.size ≤ 81 ∧ (wordsL.drop j).take t.size = t.data.toList) ↔ s.data.toList ∈ keyL := by
    rw [← words_key]
    have e2 : s.data.toList.length = s.size := by simp
    rw [e2, ts, tl]
    simp
  have low : ∀ b : UInt8, lowerB (b.toNat : Int) = low8 b := by
    intro b
    simp only [lowerB, low8, UInt8.le_iff_toNat_le]
    rw [Bool.eq_iff_iff]
    simp only [Bool.and_eq_true, decide_eq_true_eq]
    have h1 : (97 : UInt8).toNat = 97 := rfl
    have h2 : (122 : UInt8).toNat = 122 := rfl
    rw [h1, h2]
    omega
  have loop : ∀ (k i : Nat), i + k = (bts s).length → P_r01_Key_2h (run cfg) (.str s) (.int .i64 i) = some (.bool (decide (((bts s).drop i).all lowerB = true ∧ 0 < s.size ∧ ∃ j, 0 ≤ j ∧ j + t.size ≤ 81 ∧ (wordsL.drop j).take t.size = t.data.toList))) := by
    intro k
    induction k with
    | zero =>
      intro i hi
      rw [eq_r01_Key_2h]
      have hlt : ¬ (i : Int) < (s.size : Int) := by rw [← bts_len]; omega
      have e1 : dBin .add (.str ⟨#[32]⟩) (.str s) = some (.str (⟨#[32]⟩ ++ s)) := by
        simp only [dBin, dStrOp]
        rw [if_pos]
        have : (⟨#[32]⟩ : ByteArray).size = 1 := rfl
        unfold lim; omega
      have e2 : dBin .add (.str (⟨#[32]⟩ ++ s)) (.str ⟨#[32]⟩) = some (.str t) := by
        simp only [dBin, dStrOp]
        rw [if_pos]
        have h1 : (⟨#[32]⟩ : ByteArray).size = 1 := rfl
        have h2 : (⟨#[32]⟩ ++ s : ByteArray).size = s.size + 1 := by
          have := ByteArray.size_append (a := ⟨#[32]⟩) (b := s)
          omega
        unfold lim; omega
      have := search 82 0 rfl
      simp only [Int.natCast_zero, Int.ofNat_zero, Int.cast_ofNat_Int] at this
      simp only [dLenS_str, ob_some', dBin_lss, hlt, decide_false, oif_bool, Bool.false_eq_true, if_false, e1, e2, List.drop_of_length_le (show (bts s).length ≤ i by omega), List.all_nil, true_and]
      exact this
    | succ k ih =>
      intro i hi
      have h : i < (bts s).length := by omega
      rw [eq_r01_Key_2h]
      have := ih (i + 1) (by omega)
      push_cast at this
      have hlt : (i : Int) < (s.size : Int) := by rw [← bts_len]; omega
      rw [List.drop_eq_getElem_cons h, List.all_cons]
      simp only [dLenS_str, ob_some', dBin_lss, hlt, decide_true, oif_bool, if_true, dStr_idx h, sp_r01_lower, dUn_not, dAdd1 (show i < 9223372036854775807 by omega)]
      push_cast
      rw [this]
      cases lowerB (bts s)[i] <;> simp
  have l0 := loop (bts s).length 0 (by omega)
  simp only [Int.natCast_zero, Int.ofNat_zero, Int.cast_ofNat_Int] at l0
  have e3 : (bts s).all lowerB = s.data.toList.all low8 := by
    simp only [bts, List.all_map]
    congr 1
    funext b
    exact low b
  refine l0.trans ?_
  rw [List.drop_zero, e3]
  simp only [fin, keyB]

theorem sp_r01_Name (s : ByteArray) (hs : s.size ≤ 4294967000) : (run cfg).p F_r01_Name [.str s] = some (.bool (nameB s)) := by
  have hb := str_big (s := s) (by unfold lim; omega)
  refine call_r01_Name _ ?_
  rw [eq_r01_Name]
  have h32 : dBin .gtr (.int .i64 (s.size : Int)) (.int .i64 32) = some (.bool (decide (32 < s.size))) := by
    rw [dBin_gtr]; congr 2; rw [decide_eq_decide]; omega
  simp only [dLenS_str, ob_some', dBin_lss, h32, ogd_bool, oif_bool, decide_eq_true_eq, nameB]
  by_cases h1 : (s.size : Int) < 1
  · have : ¬ (1 ≤ s.size) := by omega
    simp [h1, this]
  · by_cases h2 : 32 < s.size
    · have : ¬ (s.size ≤ 32) := by omega
      simp [h1, h2, this]
    · have h0 : 0 < (bts s).length := by rw [bts_len]; omega
      have loop : ∀ (k i : Nat), i + k = (bts s).length → P_r01_Name_4h (run cfg) (.str s) (.int .i64 i) = some (.bool (((bts s).drop i).all partB && !keyB s)) := by
        intro k
        induction k with
        | zero =>
          intro i hi
          rw [eq_r01_Name_4h]
          have hlt : ¬ (i : Int) < (s.size : Int) := by rw [← bts_len]; omega
          simp [hlt, List.drop_of_length_le (show (bts s).length ≤ i by omega), sp_r01_Key s hs]
        | succ k ih =>
          intro i hi
          have h : i < (bts s).length := by omega
          rw [eq_r01_Name_4h]
          have := ih (i + 1) (by omega)
          push_cast at this
          have hlt : (i : Int) < (s.size : Int) := by rw [← bts_len]; omega
          rw [List.drop_eq_getElem_cons h, List.all_cons]
          simp only [dLenS_str, ob_some', dBin_lss, hlt, decide_true, oif_bool, if_true, dStr_idx h, sp_r01_part, dUn_not, dAdd1 (show i < 9223372036854775807 by omega)]
          push_cast
          rw [this]
          cases partB (bts s)[i] <;> rfl
      have l0 := loop (bts s).length 0 (by omega)
      simp only [Int.natCast_zero, Int.ofNat_zero, Int.cast_ofNat_Int, List.drop_zero] at l0
      have g0 : (bts s).getD 0 0 = (bts s)[0] := by simp [List.getD_eq_getElem?_getD, h0]
      have e0' : dStrIdx (.str s) (.int .i64 0) = some (.int .u8 (bts s)[0]) := dStr_idx (s := s) (k := .i64) h0
      have a1 : (1 ≤ s.size) := by omega
      have a2 : (s.size ≤ 32) := by omega
      simp only [h1, h2, if_false, e0', ob_some', sp_r01_lower, dUn_not, oif_bool, g0, a1, a2, decide_true, Bool.true_and, l0]
      cases lowerB (bts s)[0] <;> simp

theorem nil_str : (.str ⟨#[]⟩ : DV) = .str nil8 := rfl

theorem sp_tree_onePat (p : Pat) (hp : p.texts) : (run cfg).p F_tree_onePat [p.enc] = some (.bool p.one) := by
  obtain ⟨hn, hs⟩ := hp
  have h24 : ∀ (t4 : Int) (a b c g : DV) (nm : ByteArray) (n : Int) (s : ByteArray), P_tree_onePat_24 (run cfg) (.int .i64 t4) p.enc a b c (.str nm) (.int .i64 n) (.str s) g =
      some (.bool (decide ((p.kids.length : Int) = t4) && decide (nm = p.name) && decide (n = p.n) && decide (s = p.s))) := by
    intro t4 a b c g nm n s
    rw [eq_tree_onePat_24]
    simp only [Pat.proj6, Pat.proj3, Pat.proj4, Pat.proj5, dLen_list, List.length_map, ob_some', dBin_eql, dBin_seql, ogd_bool, decide_eq_true_eq]
    by_cases h1 : (p.kids.length : Int) = t4 <;> by_cases h2 : nm = p.name <;> by_cases h3 : n = p.n <;> simp [h1, h2, h3]
  refine call_tree_onePat _ ?_
  rw [eq_tree_onePat]
  have hs' : dBin .gtr (.int .i64 (p.s.size : Int)) (.int .i64 200) = some (.bool (decide (200 < p.s.size))) := by
    rw [dBin_gtr]; congr 2; rw [decide_eq_decide]; omega
  simp only [isAggN_Pat, og_true', Pat.proj0, Pat.proj1, Pat.proj2, Pat.proj3, Pat.proj4, Pat.proj5, Pat.proj6, isCell_int, isCell_str, isCell_list, dBin_eql, dBin_neq, ob_some', oif_bool, ogd_bool, sp_word_Name p.name (by unfold lim; omega), dUn_not, dLenS_str, hs', h24, nil_str]
  unfold Pat.one
  by_cases k1 : p.kind = 1
  · simp [k1, eq_comm]
  by_cases k6 : p.kind = 6
  · simp [k6, eq_comm]
  by_cases k8 : p.kind = 8
  · simp [k8, eq_comm]
  by_cases k2 : p.kind = 2
  · cases hnm : nameB p.name <;> simp [k2, hnm, eq_comm]
  by_cases k3 : p.kind = 3
  · simp [k3, eq_comm]
  by_cases k4 : p.kind = 4
  · by_cases n0 : p.n = 0
    · simp [k4, n0, eq_comm]
    · by_cases n1 : p.n = 1 <;> simp [k4, n0, n1, eq_comm]
  by_cases k5 : p.kind = 5
  · by_cases h : 200 < p.s.size
    · have : ¬ p.s.size ≤ 200 := by omega
      simp [k5, h, this]
    · have : p.s.size ≤ 200 := by omega
      simp [k5, h, this, eq_comm]
  have h2 : decide (2 = (p.kids.length : Int)) = decide (2 = p.kids.length) := by rw [decide_eq_decide]; omega
  by_cases k7 : p.kind = 7
  · simp [k7, eq_comm, h2]
  by_cases k9 : p.kind = 9
  · simp [k9, eq_comm, h2]
  simp [k1, k2, k3, k4, k5, k6, k7, k8, k9]

theorem sp_r05_pat (p : Pat) : p.thin = true → p.txt → (run cfg).p F_r05_pat [p.enc] = some (.bool p.pat) := by
  induction p using Pat.ind with
  | h p ih =>
    intro ht hx
    have hb := p.thin_len ht
    obtain ⟨hn, hs⟩ := hx p p.self_sub
    have loop : P_r05_pat_28h (run cfg) (.int .i64 p.kids.length) (.int .i64 0) p.enc = some (.bool (p.kids.all Pat.pat)) :=
      loop_allB (l := p.kids) (f := Pat.pat) (P := fun i => P_r05_pat_28h (run cfg) (.int .i64 p.kids.length) (.int .i64 i) p.enc)
        (by rw [eq_r05_pat_28h]; simp)
        (fun i h => by
          rw [eq_r05_pat_28h]
          simp [h, dIdx_map h, Pat.eta, ih _ (List.getElem_mem h) (Pat.thin_kid ht (List.getElem_mem h)) (Pat.txt_kid hx (List.getElem_mem h)), dAdd1 (show i < 9223372036854775807 by omega)]
          cases p.kids[i].pat <;> rfl)
    have h25 : ∀ (t4 : Int) (a b c g : DV) (nm : ByteArray) (n : Int) (s : ByteArray), P_r05_pat_25 (run cfg) (.int .i64 t4) p.enc a b c (.str nm) (.int .i64 n) (.str s) g =
        some (.bool ((decide ((p.kids.length : Int) = t4) && decide (p.name = nm) && decide (p.n = n) && decide (p.s = s)) && p.kids.all Pat.pat)) := by
      intro t4 a b c g nm n s
      rw [eq_r05_pat_25]
      simp only [Pat.proj6, Pat.proj3, Pat.proj4, Pat.proj5, dLen_list, List.length_map, ob_some', dBin_neq, dBin_sneq, ogd_bool, oif_bool, decide_eq_true_eq]
      by_cases h1 : (p.kids.length : Int) = t4 <;> by_cases h2 : p.name = nm <;> by_cases h3 : p.n = n <;> by_cases h4 : p.s = s <;> simp [h1, h2, h3, h4]
      rw [← h1]
      rw [loop]
    refine call_r05_pat _ ?_
    rw [eq_r05_pat]
    have hs' : dBin .gtr (.int .i64 (p.s.size : Int)) (.int .i64 200) = some (.bool (decide (200 < p.s.size))) := by
      rw [dBin_gtr]; congr 2; rw [decide_eq_decide]; omega
    simp only [isAggN_Pat, og_true', Pat.proj0, Pat.proj1, Pat.proj2, Pat.proj3, Pat.proj4, Pat.proj5, Pat.proj6, isCell_int, isCell_str, isCell_list, dBin_eql, dBin_neq, dBin_lss, dBin_gtr, ob_some', oif_bool, ogd_bool, sp_r01_Name p.name hn, dUn_not, dLenS_str, h25, nil_str]
    rw [Pat.pat_eq]
    unfold Pat.one
    by_cases k1 : p.kind = 1
    · simp [k1]
    by_cases k6 : p.kind = 6
    · simp [k6]
    by_cases k8 : p.kind = 8
    · simp [k8]
    by_cases k2 : p.kind = 2
    · cases hnm : nameB p.name <;> simp [k2, hnm]
    by_cases k3 : p.kind = 3
    · simp [k3]
    by_cases k4 : p.kind = 4
    · by_cases n0 : p.n < 0
      · have h1 : ¬ (p.n = 0 ∨ p.n = 1) := by omega
        simp [k4, n0, h1]
      · by_cases n1 : 1 < p.n
        · have h1 : ¬ (p.n = 0 ∨ p.n = 1) := by omega
          simp [k4, n0, n1, h1]
        · have h1 : (p.n = 0 ∨ p.n = 1) := by omega
          simp [k4, n0, n1, h1]
    by_cases k5 : p.kind = 5
    · by_cases h : (200 : Int) < (p.s.size : Int)
      · have : ¬ p.s.size ≤ 200 := by omega
        simp [k5, h, this]
      · have : p.s.size ≤ 200 := by omega
        simp [k5, h, this]
    by_cases k7 : p.kind = 7
    · simp [k7]
      have : ((p.kids.length : Int) = 2) ↔ (p.kids.length = 2) := by omega
      simp [this]
    by_cases k9 : p.kind = 9
    · simp [k9]
      have : ((p.kids.length : Int) = 2) ↔ (p.kids.length = 2) := by omega
      simp [this]
    simp [k1, k2, k3, k4, k5, k6, k7, k8, k9]

theorem sp_r05_names (t : Pat) : ∀ (l : List ByteArray) (sg : List SObj), l.length + t.size ≤ lim → (run cfg).r F_r05_names [(t.enc, .val), (encStrs l, .own)] sg = some ([encStrs (t.namesOn l)], sg) := by
  induction t using Pat.ind with
  | h t ih =>
    intro l sg hl
    have hb := Pat.thin_len _ (Pat.thin_of_size (show t.size ≤ lim by omega))
    have hB := big hl
    refine call_r05_names _ _ _ ?_
    have loop : ∀ l : List ByteArray, l.length + (t.kids.map Pat.size).sum ≤ lim → P_r05_names_4h (run cfg) (encStrs l) (.int .i64 0) t.enc sg = some ([encStrs (t.kids.foldl (fun l k => k.namesOn l) l)], sg) :=
      loop_fold (l := t.kids) (P := fun i (a : List ByteArray) => P_r05_names_4h (run cfg) (encStrs a) (.int .i64 i) t.enc sg) (g := fun a k => k.namesOn a) (fin := fun a => some ([encStrs a], sg))
        (I := fun i a => a.length + ((t.kids.drop i).map Pat.size).sum ≤ lim)
        (fun a _ => by rw [eq_r05_names_4h]; simp)
        (fun i h a ha => by
          rw [List.drop_eq_getElem_cons h, List.map_cons, List.sum_cons] at ha
          have h1 := Pat.namesOn_len t.kids[i] a
          refine ⟨?_, by omega⟩
          rw [eq_r05_names_4h]
          simp [h, dIdx_map h, Pat.eta, ih _ (List.getElem_mem h) a sg (by omega), dAdd1 (show i < 9223372036854775807 by omega)])
    have hsz := Pat.size_eq t
    rw [eq_r05_names, Pat.namesOn_eq]
    simp
    by_cases h6 : t.kind = 2
    · simp [h6]
      rw [show encStrs l = .list 1 (l.map fun n => .str n) from rfl, dApp_list (by simp; omega)]
      have := loop (l ++ [t.name]) (by simp; omega)
      simpa [encStrs] using this
    · simp [h6, loop l (by omega)]

theorem sp_r05_Names (t : Pat) (ht : t.size ≤ lim) : (run cfg).p F_r05_Names [t.enc] = some (encStrs t.names) := by
  refine call_r05_Names _ ?_
  rw [eq_r05_Names]
  have := sp_r05_names t [] [] (by simpa using ht)
  have e : encStrs [] = .list 1 [] := rfl
  rw [e] at this
  simp [Pat.eta, this, Pat.names]

def hasS (l : List ByteArray) (n : ByteArray) : Bool := l.any fun x => decide (x = n)

theorem hasS_iff {l : List ByteArray} {n : ByteArray} : hasS l n = true ↔ n ∈ l := by simp [hasS]

theorem sp_r05_Has (l : List ByteArray) (hl : l.length ≤ lim) (n : ByteArray) : (run cfg).p F_r05_Has [encStrs l, .str n] = some (.bool (hasS l n)) := by
  have hb := big hl
  refine call_r05_Has _ _ ?_
  rw [eq_r05_Has]
  have loop := loop_anyB (l := l) (f := fun x => decide (x = n)) (P := fun i => P_r05_Has_2h (run cfg) (encStrs l) (.str n) (.int .i64 i))
    (by rw [eq_r05_Has_2h]; simp)
    (fun i h => by
      rw [eq_r05_Has_2h]
      simp [h, dIdx_strs h, dAdd1 (show i < 9223372036854775807 by omega)])
  exact loop

theorem dSlice_pre {α : Type} {e : α → DV} {l : List α} {i : Nat} (h : i ≤ l.length) (sz : Nat) : dSlice sz (.list sz (l.map e)) none (some (.int .i64 (i : Int))) = some (.list sz ((l.take i).map e)) := by
  simp [dSlice, bnd, h, List.map_take]

theorem nodup_scan {α : Type} [DecidableEq α] (l : List α) : (∀ (i : Nat) (h : i < l.length), l[i] ∉ l.take i) ↔ l.Nodup := by
  constructor
  · intro h
    rw [List.nodup_iff_pairwise_ne, List.pairwise_iff_getElem]
    intro i j hi hj hij he
    exact h j hj (by rw [← he]; exact List.mem_take_iff_getElem.2 ⟨i, by omega, rfl⟩)
  · intro h i hi hm
    obtain ⟨j, hj, he⟩ := List.mem_take_iff_getElem.1 hm
    rw [List.nodup_iff_pairwise_ne, List.pairwise_iff_getElem] at h
    exact h j i (by omega) hi (by omega) he

open Classical in
theorem sp_r05_RightPat (p : Pat) (ht : p.size ≤ lim) (hx : p.txt) : (run cfg).p F_r05_RightPat [p.enc] = some (.bool p.right) := by
  refine call_r05_RightPat _ ?_
  rw [eq_r05_RightPat]
  have hnl : p.names.length ≤ lim := by have := Pat.namesOn_len p []; simp at this; unfold Pat.names; omega
  have hb := big hnl
  simp [Pat.eta, sp_r05_pat p (Pat.thin_of_size ht) hx, sp_r05_Names p ht, Pat.right]
  cases hp : p.pat
  · simp
  · simp
    have loop : ∀ (k i : Nat), i + k = p.names.length → P_r05_RightPat_5h (run cfg) (encStrs p.names) (.int .i64 i) = some (.bool (decide (∀ j (h : j < p.names.length), i ≤ j → p.names[j] ∉ p.names.take j))) := by
      intro k
      induction k with
      | zero =>
        intro i hi
        rw [eq_r05_RightPat_5h]
        have : ¬ i < p.names.length := by omega
        have h2 : ∀ j (h : j < p.names.length), i ≤ j → p.names[j] ∉ p.names.take j := fun j h h' => by omega
        simp [this]
        exact h2
      | succ k ih =>
        intro i hi
        have h : i < p.names.length := by omega
        have nx := ih (i + 1) (by omega)
        push_cast at nx
        rw [eq_r05_RightPat_5h]
        have sl : dSlice 1 (encStrs p.names) none (some (.int .i64 (i : Int))) = some (encStrs (p.names.take i)) := dSlice_pre (by omega) 1
        simp [h, sl, dIdx_strs h, sp_r05_Has (p.names.take i) (by simp; omega), dAdd1 (show i < 9223372036854775807 by omega), nx]
        by_cases hm : p.names[i] ∈ p.names.take i
        · simp only [hasS_iff.2 hm, if_true]
          congr 2
          symm
          rw [decide_eq_false_iff_not]
          exact fun hh => hh i h (Nat.le_refl _) hm
        · have hm' : ¬ (hasS (p.names.take i) p.names[i] = true) := fun h => hm (hasS_iff.1 h)
          have hm'' : hasS (p.names.take i) p.names[i] = false := by simpa using hm'
          simp only [hm'', Bool.false_eq_true, if_false]
          congr 2
          rw [decide_eq_decide]
          constructor
          · intro hh j hj hij
            rcases Nat.lt_or_ge i j with h1 | h1
            · exact hh j hj h1
            · have : i = j := by omega
              subst this
              exact hm
          · intro hh j hj hij
            exact hh j hj (by omega)
    have l0 := loop p.names.length 0 (by omega)
    simp only [Int.natCast_zero, Int.ofNat_zero, Int.cast_ofNat_Int] at l0
    rw [l0]
    congr 2
    rw [decide_eq_decide, ← nodup_scan]
    simp

/-- How often a name has been seen. -/
def cntS (es : List (DV × DV)) (s : ByteArray) : DV := (mGet es (.str s)).getD (.int .i64 0)

def cpSg (a b c e : SObj) (n : Int) (es : List (DV × DV)) : List SObj := [a, .box [(.int .i64 n, .val)], .map true es, .box [(.undef, .map 2)], e]

theorem cp_end (t0 t6 : DV) (a b c e : SObj) (n : Int) (es : List (DV × DV)) : X_tree_CheckPat_r0 (run cfg) t0 t6 .ret (cpSg a b c e n es) = some (.int .i64 n) := by
  rw [eq_X_tree_CheckPat_r0_ret]
  rfl

theorem cp_norm (t0 t6 : DV) (a b c e : SObj) (n : Int) (es : List (DV × DV)) : X_tree_CheckPat_r0 (run cfg) t0 t6 .normal (cpSg a b c e n es) = some (.int .i64 0) := by
  rw [eq_X_tree_CheckPat_r0_normal]
  rfl

theorem cp_rounds (t0 t6 : DV) (a b c e : SObj) : ∀ (ps : List Pat) (pre : List ByteArray) (es : List (DV × DV)), (∀ q ∈ ps, q.texts) → pre.Nodup → (∀ s, cntS es s = .int .i64 (if hasS pre s = true then 1 else 0)) →
    I_tree_CheckPat_r0 (run cfg) t0 t6 (ps.map Pat.enc) (cpSg a b c e 0 es) = some (.int .i64 (if ps.all Pat.one = true ∧ (pre ++ ps.flatMap nmOf).Nodup then 0 else 1))
  | [], pre, es, _, hn, _ => by
    rw [List.map_nil, I_tree_CheckPat_r0_nil, cp_norm]
    simp [hn]
  | q :: ps, pre, es, hx, hn, hc => by
    rw [List.map_cons, I_tree_CheckPat_r0_cons, eq_B_tree_CheckPat_r0]
    have hq := hx q (List.mem_cons_self ..)
    simp only [isAggN_Pat, og_true', Pat.proj0, Pat.proj1, Pat.proj2, Pat.proj3, Pat.proj4, Pat.proj5, Pat.proj6, Pat.eta, sp_tree_onePat q hq, ob_some', dUn_not, ogd_bool, dBin_eql]
    have sg1 : sgBox (cpSg a b c e 0 es) 1 = some [(.int .i64 0, .val)] := rfl
    have sg3 : sgBox (cpSg a b c e 0 es) 3 = some [(.undef, .map 2)] := rfl
    have set1 : (cpSg a b c e 0 es).set 1 (.box ([((.int .i64 0 : DV), Meta.val)].set 0 (.int .i64 1, .val))) = cpSg a b c e 1 es := rfl
    have g0 : [((.int .i64 0 : DV), Meta.val)][0]? = some (.int .i64 0, .val) := rfl
    have cm : cellMap [((.undef : DV), Meta.map 2)] 0 = some 2 := rfl
    have sm : sgMap (cpSg a b c e 0 es) 2 = some (true, es) := rfl
    cases h1 : q.one
    · simp only [Bool.not_false, if_true, sg1, ob_some', g0, set1, cp_end]
      simp [h1]
    · simp only [Bool.not_true, Bool.false_eq_true, if_false]
      -- what follows
      have rest : ∀ (pre' : List ByteArray) (es' : List (DV × DV)), pre'.Nodup → (∀ s, cntS es' s = .int .i64 (if hasS pre' s = true then 1 else 0)) →
          I_tree_CheckPat_r0 (run cfg) t0 t6 (ps.map Pat.enc) (cpSg a b c e 0 es') = some (.int .i64 (if ps.all Pat.one = true ∧ (pre' ++ ps.flatMap nmOf).Nodup then 0 else 1)) :=
        fun pre' es' h h' => cp_rounds t0 t6 a b c e ps pre' es' (fun x hx' => hx x (List.mem_cons_of_mem _ hx')) h h'
      rw [eq_tree_CheckPat_6]
      simp only [Pat.proj0, Pat.proj3, dBin_eql, ob_some', oif_bool, decide_eq_true_eq]
      by_cases h2 : q.kind = 2
      · have hcq := hc q.name
        unfold cntS at hcq
        have sm' : (cpSg a b c e 0 es).set 2 (.map true (mSet es (.str q.name) (.int .i64 1))) = cpSg a b c e 0 (mSet es (.str q.name) (.int .i64 1)) := rfl
        simp only [h2, if_true, sg3, ob_some', cm, isKey_str, Bool.and_true, og_true', sm, BEq.rfl, hcq, dBin_gtr, oif_bool, decide_eq_true_eq]
        by_cases h3' : hasS pre q.name = true
        · have h3 := hasS_iff.1 h3'
          simp only [h3', if_true, show (0 : Int) < 1 by omega, decide_true, sg1, ob_some', g0, set1, cp_end]
          have : ¬ (pre ++ (q :: ps).flatMap nmOf).Nodup := by
            simp only [List.flatMap_cons, nmOf, h2, if_true, List.singleton_append, List.nodup_append]
            rintro ⟨-, -, h⟩
            exact h q.name h3 q.name (List.mem_cons_self ..) rfl
          rw [if_neg (fun h => this h.2)]
        · have h3 : q.name ∉ pre := fun h => h3' (hasS_iff.2 h)
          simp only [h3', if_false, show ¬ (0 : Int) < 0 by omega, decide_false, Bool.false_eq_true]
          rw [dAdd (by omega) (by omega)]
          simp only [ob_some', Int.zero_add]
          rw [sm', rest (pre ++ [q.name]) _ (by rw [List.nodup_append]; refine ⟨hn, by simp, ?_⟩; rintro x hx' y hy rfl; simp at hy; exact h3 (hy ▸ hx')) ?_]
          · simp [List.flatMap_cons, nmOf, h2, h1]
          · intro s
            unfold cntS
            rw [mGet_set]
            have := hc s
            unfold cntS at this
            by_cases h4 : q.name = s
            · have : hasS (pre ++ [q.name]) s = true := hasS_iff.2 (by simp [h4])
              rw [if_pos h4, if_pos this]
              rfl
            · have e : hasS (pre ++ [q.name]) s = hasS pre s := by simp [hasS, h4]
              simp only [if_neg h4, e]
              exact this
      · simp only [h2, if_false]
        rw [rest pre es hn hc]
        simp [List.flatMap_cons, nmOf, h2, h1]

theorem sp_tree_CheckPat (p : Pat) (ht : p.thin = true) (hx : p.txt) : (run cfg).p F_tree_CheckPat [p.enc] = some (.int .i64 (if p.right = true then 0 else 1)) := by
  refine call_tree_CheckPat _ ?_
  rw [eq_tree_CheckPat]
  simp only [isAggN_Pat, og_true', Pat.proj0, Pat.proj1, Pat.proj2, Pat.proj3, Pat.proj4, Pat.proj5, Pat.proj6, Pat.eta]
  rw [eq_tree_CheckPat_r0]
  obtain ⟨n, hn⟩ := flat_Pat p ht
  rw [Pat.enc_eq] at hn
  simp only [sgBox, List.getElem?_cons_succ, List.getElem?_cons_zero, ob_some', allDat, og_true', flatD_of hn]
  have := cp_rounds p.enc p.enc (.box [(.int .i64 p.kind, .val), (.int .i64 p.lo, .val), (.int .i64 p.hi, .val), (.str p.name, .val), (.int .i64 p.n, .val), (.str p.s, .val), (.list 7 (p.kids.map Pat.enc), .val)])
    (.arr 1 []) (.arr 1 []) (.arr 1 []) p.subs [] [] (fun q hq => hx q hq) (by simp) (fun s => rfl)
  refine this.trans ?_
  congr 2
  have e : p.right = true ↔ (p.subs.all Pat.one = true ∧ (([] : List ByteArray) ++ p.subs.flatMap nmOf).Nodup) := by
    unfold Pat.right Pat.names
    rw [Pat.pat_subs, Pat.namesOn_subs]
    simp
  by_cases h : p.right = true
  · rw [if_pos h, if_pos (e.1 h)]
  · rw [if_neg h, if_neg (fun h' => h (e.2 h'))]

@[simp] theorem dEqA_two (a b c d : Int) (k : IntKind) : dEqA [.int, .int] (.agg [.int k a, .int k b]) (.agg [.int k c, .int k d]) = some (decide (a = c) && decide (b = d)) := by
  simp only [dEqA, dEqLeaves, dEqK, if_true, ob_some']
  by_cases h : a = c <;> by_cases h' : b = d <;> simp [h, h']

theorem Nm.agg (n : ByteArray) (t : Ty) (vs : List Int) : DV.agg [.str n, .int .i64 t.kind, .int .i64 t.n, .list 3 (t.kids.map Ty.enc), encInts vs] = Nm.enc ⟨n, t, vs⟩ := rfl

def Deriv.fit (d : Deriv) : Prop := d.types.length < lim ∧ d.vars.length < lim ∧ d.kids.length < lim ∧ (∀ t ∈ d.types, t.thin = true) ∧ ∀ k : { x // x ∈ d.kids }, Deriv.fit k.1
termination_by SizeOf.sizeOf d
decreasing_by exact Deriv.kid_lt k.2

theorem dApp_strs {a b : List ByteArray} (h : a.length + b.length ≤ lim) : dApp 1 (encStrs a) (encStrs b) = some (encStrs (a ++ b)) := by
  show dApp 1 (.list 1 (a.map DV.str)) (.list 1 (b.map DV.str)) = _
  rw [dApp_list (by simpa using h)]
  simp [encStrs]

theorem encStrs_nil : (.list 1 [] : DV) = encStrs [] := rfl

theorem encStrs_one (s : ByteArray) : (.list 1 [.str s] : DV) = encStrs [s] := rfl

theorem sp_r05_Rise (l : List ByteArray) (s : ByteArray) (hl : l.length + 1 ≤ lim) : (run cfg).p F_r05_Rise [encStrs l, .str s] = some (encStrs (rise l s)) := by
  have hb := big hl
  refine call_r05_Rise _ _ ?_
  rw [eq_r05_Rise]
  have p6 : ∀ i, i ≤ l.length → P_r05_Rise_6 (run cfg) (encStrs l) (.str s) (.int .i64 (i : Int)) = some (encStrs (l.take i ++ s :: l.drop i)) := by
    intro i hi
    have e1 : dSlice 1 (encStrs l) none (some (.int .i64 (i : Int))) = some (encStrs (l.take i)) := dSlice_pre hi 1
    have e2 : dSlice 1 (encStrs l) (some (.int .i64 (i : Int))) none = some (encStrs (l.drop i)) := by simp [dSlice, bnd, hi, encStrs, List.map_drop, List.take_of_length_le]
    rw [eq_r05_Rise_6]
    simp only [e1, e2, ob_some', encStrs_nil, encStrs_one, isCell_str, og_true']
    rw [dApp_strs (by simp; omega)]
    simp only [ob_some']
    rw [dApp_strs (by simp; omega)]
    simp only [ob_some']
    rw [dApp_strs (by simp; omega)]
    simp
  have p4 : ∀ i, i ≤ l.length → (∀ (h : i < l.length), strLt l[i] s = false) → P_r05_Rise_4 (run cfg) (encStrs l) (.str s) (.int .i64 (i : Int)) = some (encStrs (l.take i ++ rise (l.drop i) s)) := by
    intro i hi hn
    rw [eq_r05_Rise_4]
    by_cases h : i < l.length
    · have h0 := hn h
      rw [List.drop_eq_getElem_cons h]
      simp only [dLen_strs, ob_some', dBin_lss, Int.ofNat_lt, h, decide_true, ogd_bool, if_true, dIdx_strs h, isLeaf_str, og_true', dBin_seql, oif_bool, decide_eq_true_eq, rise, h0, Bool.false_eq_true, if_false]
      by_cases he : l[i] = s
      · simp only [he, if_true]
        congr 2
        rw [← he, ← List.drop_eq_getElem_cons h, List.take_append_drop]
      · simp only [he, if_false]
        rw [p6 i hi, List.drop_eq_getElem_cons h]
    · have e : i = l.length := by omega
      subst e
      simp only [dLen_strs, ob_some', dBin_lss, Int.lt_irrefl, decide_false, ogd_bool, Bool.false_eq_true, if_false, List.drop_length, rise]
      rw [p6 _ (Nat.le_refl _), List.drop_length]
  have loop : ∀ (n i : Nat), i + n = l.length → P_r05_Rise_2h (run cfg) (encStrs l) (.str s) (.int .i64 (i : Int)) = some (encStrs (l.take i ++ rise (l.drop i) s)) := by
    intro n
    induction n with
    | zero =>
      intro i hi
      have e : i = l.length := by omega
      have := p4 i (by omega) (fun h => by omega)
      subst e
      rw [eq_r05_Rise_2h]
      simp only [dLen_strs, ob_some', dBin_lss, Int.lt_irrefl, decide_false, ogd_bool, Bool.false_eq_true, if_false]
      exact this
    | succ n ih =>
      intro i hi
      have h : i < l.length := by omega
      rw [eq_r05_Rise_2h]
      simp only [dLen_strs, ob_some', dBin_lss, Int.ofNat_lt, h, decide_true, ogd_bool, if_true, dIdx_strs h, isLeaf_str, og_true', dBin_slss, oif_bool]
      cases h0 : strLt l[i] s
      · exact p4 i (by omega) (fun _ => h0)
      · simp only [if_true]
        rw [dAdd1 (by omega)]
        simp only [ob_some']
        rw [ih (i + 1) (by omega)]
        rw [List.drop_eq_getElem_cons h]
        simp only [rise, h0, if_true]
        rw [List.take_succ_eq_append_getElem h, List.append_assoc]
        rfl
  have := loop l.length 0 (by omega)
  simpa using this

theorem sp_keep_Texts (l m : List ByteArray) (hl : l.length ≤ lim) : (run cfg).p F_keep_Texts [encStrs l, encStrs m] = some (.bool (decide (l = m))) := by
  have hb := big hl
  refine call_keep_Texts _ _ ?_
  rw [eq_keep_Texts]
  by_cases h5 : l.length = m.length
  · have loop := loop_two (l := l) (m := m) h5 (P := fun i => P_keep_Texts_4h (run cfg) (encStrs l) (encStrs m) (.int .i64 i)) (y := DV.bool true) (n := DV.bool false)
      (by rw [eq_keep_Texts_4h]; simp)
      (fun i h => by
        have h' : i < m.length := by omega
        rw [eq_keep_Texts_4h]
        simp [h, h', dIdx_strs h, dIdx_strs h', dAdd1 (show i < 9223372036854775807 by omega)])
    simp [h5] at loop ⊢
    rw [loop]
    by_cases e : l = m <;> simp [e]
  · have : l ≠ m := fun h => h5 (by rw [h])
    simp [Int.ofNat_inj, h5, this]

/-- How often a name is bound. -/
def cn (L : List ByteArray) (s : ByteArray) : Int := ((L.countP fun x => decide (x = s)) : Nat)

theorem cn_pos (L : List ByteArray) (s : ByteArray) : 0 ≤ cn L s := by unfold cn; omega

theorem cn_le (L : List ByteArray) (s : ByteArray) : cn L s ≤ L.length := by
  unfold cn
  have := List.countP_le_length (p := fun x => decide (x = s)) (l := L)
  omega

theorem cn_zero (L : List ByteArray) (s : ByteArray) : decide (cn L s = 0) = !(L.any fun x => decide (x = s)) := by
  unfold cn
  rw [Bool.eq_iff_iff]
  simp only [decide_eq_true_eq, Bool.not_eq_true', List.any_eq_false, decide_eq_true_eq]
  rw [show ((L.countP fun x => decide (x = s) : Nat) : Int) = 0 ↔ (L.countP fun x => decide (x = s)) = 0 by omega, List.countP_eq_zero]
  simp

theorem cn_inc {es : List (DV × DV)} {L : List ByteArray} (h : CntS es (cn L)) (s : ByteArray) : CntS (mSet es (.str s) (.int .i64 (cn L s + 1))) (cn (L ++ [s])) := by
  intro v
  rw [h.set s (cn L s + 1) v]
  congr 1
  unfold cn
  by_cases e : s = v
  · subst e; simp [List.countP_append]
  · simp [List.countP_append, e]

theorem cn_dec {es : List (DV × DV)} {A D : List ByteArray} {s : ByteArray} (h : CntS es (cn (A ++ s :: D))) : CntS (mSet es (.str s) (.int .i64 (cn (A ++ s :: D) s - 1))) (cn (A ++ D)) := by
  intro v
  rw [h.set s (cn (A ++ s :: D) s - 1) v]
  congr 1
  unfold cn
  by_cases e : s = v
  · subst e; simp [List.countP_append]; omega
  · simp [List.countP_append, e]

def shapeX (k : Int) (np : Nat) : DV := .agg [.bool (eName k), .bool (eArg k), .bool (eN k), .bool (eS k), .bool (eOp k), .bool (eA k), .bool (eB k), .bool (eMust k), .int .i64 (eKids k np)]

theorem sp_tree_shapeOf (t : Ex) (ht : t.fit1) : ∃ d, (run cfg).p F_tree_shapeOf [t.enc] = some (.tup [d, .bool (eOk t.kind t.pats.length)]) ∧ (eOk t.kind t.pats.length = true → d = shapeX t.kind t.pats.length) ∧ isAggN 9 d = true := by
  have hp := big (Nat.le_of_lt ht.pats)
  suffices h : ∃ d, P_tree_shapeOf (run cfg) t.enc = some (.tup [d, .bool (eOk t.kind t.pats.length)]) ∧ (eOk t.kind t.pats.length = true → d = shapeX t.kind t.pats.length) ∧ isAggN 9 d = true by
    obtain ⟨d, h1, h2⟩ := h
    exact ⟨d, call_tree_shapeOf _ h1, h2⟩
  rw [eq_tree_shapeOf]
  have fl : ∀ {a b c d e f g h : Bool} {n : Int}, isAggN 9 (.agg [.bool a, .bool b, .bool c, .bool d, .bool e, .bool f, .bool g, .bool h, .int .i64 n]) = true := rfl
  by_cases k14 : t.kind = 14
  · have h1 : dBin .add (.int .i64 (t.pats.length : Int)) (.int .i64 1) = some (.int .i64 ((t.pats.length : Int) + 1)) := dAdd (by omega) (by omega)
    simp [k14, h1, eOk, shapeX, eName, eArg, eN, eS, eOp, eA, eB, eMust, eKids, fl]
  by_cases k1 : t.kind = 1
  · simp [k1, eOk, shapeX, eName, eArg, eN, eS, eOp, eA, eB, eMust, eKids, fl]
  by_cases k2 : t.kind = 2
  · simp [k2, eOk, shapeX, eName, eArg, eN, eS, eOp, eA, eB, eMust, eKids, fl]
  by_cases k3 : t.kind = 3
  · simp [k3, eOk, shapeX, eName, eArg, eN, eS, eOp, eA, eB, eMust, eKids, fl]
  by_cases k4 : t.kind = 4
  · simp [k4, eOk, shapeX, eName, eArg, eN, eS, eOp, eA, eB, eMust, eKids, fl]
  by_cases k5 : t.kind = 5
  · simp [k5, eOk, shapeX, eName, eArg, eN, eS, eOp, eA, eB, eMust, eKids, fl]
  by_cases k6 : t.kind = 6
  · simp [k6, eOk, shapeX, eName, eArg, eN, eS, eOp, eA, eB, eMust, eKids, fl]
  by_cases k7 : t.kind = 7
  · simp [k7, eOk, shapeX, eName, eArg, eN, eS, eOp, eA, eB, eMust, eKids, fl]
  by_cases k8 : t.kind = 8
  · simp [k8, eOk, shapeX, eName, eArg, eN, eS, eOp, eA, eB, eMust, eKids, fl]
  by_cases k9 : t.kind = 9
  · simp [k9, eOk, shapeX, eName, eArg, eN, eS, eOp, eA, eB, eMust, eKids, fl]
  by_cases k10 : t.kind = 10
  · simp [k10, eOk, shapeX, eName, eArg, eN, eS, eOp, eA, eB, eMust, eKids, fl]
  by_cases k11 : t.kind = 11
  · simp [k11, eOk, shapeX, eName, eArg, eN, eS, eOp, eA, eB, eMust, eKids, fl]
  by_cases k12 : t.kind = 12
  · simp [k12, eOk, shapeX, eName, eArg, eN, eS, eOp, eA, eB, eMust, eKids, fl]
  by_cases k13 : t.kind = 13
  · simp [k13, eOk, shapeX, eName, eArg, eN, eS, eOp, eA, eB, eMust, eKids, fl]
  by_cases k15 : t.kind = 15
  · simp [k15, eOk, shapeX, eName, eArg, eN, eS, eOp, eA, eB, eMust, eKids, fl]
  by_cases k16 : t.kind = 16
  · simp [k16, eOk, shapeX, eName, eArg, eN, eS, eOp, eA, eB, eMust, eKids, fl]
  · have hk : eOk t.kind t.pats.length = false := by
      unfold eOk
      rw [Bool.eq_false_iff]
      intro h
      simp only [Bool.and_eq_true, decide_eq_true_eq] at h
      omega
    simp [hk, k1, k2, k3, k4, k5, k6, k7, k8, k9, k10, k11, k12, k13, k14, k15, k16, fl]

theorem sp_tree_none (t : Ty) : (run cfg).p F_tree_none [t.enc] = some (.bool t.none) := by
  refine call_tree_none _ ?_
  rw [eq_tree_none]
  simp [Ty.none]
  by_cases h1 : t.kind = 0 <;> by_cases h2 : t.n = 0 <;> simp [h1, h2]

theorem sp_tree_closed (t : Ty) (ht : t.thin = true) : (run cfg).p F_tree_closed [t.enc] = some (.bool t.closed) := by
  refine call_tree_closed _ ?_
  rw [eq_tree_closed]
  simp [Ty.eta, sp_typ_Check t ht, sp_typ_Closed t ht, Ty.closed]
  cases t.right <;> simp

theorem sp_tree_one (t : Ex) (ht : t.fit1) : (run cfg).p F_tree_one [t.enc] = some (.bool t.one) := by
  refine call_tree_one _ ?_
  obtain ⟨d, h1, h2, h3⟩ := sp_tree_shapeOf t ht
  have hp := big (Nat.le_of_lt ht.pats)
  rw [eq_tree_one]
  have x0 : ∀ b, dExt 0 (.tup [d, .bool b]) = some d := fun _ => rfl
  have x1 : ∀ b, dExt 1 (.tup [d, .bool b]) = some (.bool b) := fun _ => rfl
  simp only [isAggN_Ex, og_true', Ex.proj0, Ex.proj1, Ex.proj2, Ex.proj3, Ex.proj4, Ex.proj5, Ex.proj6, Ex.proj7, Ex.proj8, Ex.proj9, Ex.proj10, Ex.proj11, Ex.proj12, Ex.proj13, Ex.proj14, Ex.proj15, Ex.eta, Ty.eta, h1, x0, x1, ob_some', h3, dUn_not, ogd_bool]
  cases hk : eOk t.kind t.pats.length
  · simp [Ex.one, hk]
  rw [h2 hk]
  have p0 : proj 0 (shapeX t.kind t.pats.length) = .bool (eName t.kind) := rfl
  have p1 : proj 1 (shapeX t.kind t.pats.length) = .bool (eArg t.kind) := rfl
  have p2 : proj 2 (shapeX t.kind t.pats.length) = .bool (eN t.kind) := rfl
  have p3 : proj 3 (shapeX t.kind t.pats.length) = .bool (eS t.kind) := rfl
  have p4 : proj 4 (shapeX t.kind t.pats.length) = .bool (eOp t.kind) := rfl
  have p5 : proj 5 (shapeX t.kind t.pats.length) = .bool (eA t.kind) := rfl
  have p6 : proj 6 (shapeX t.kind t.pats.length) = .bool (eB t.kind) := rfl
  have p7 : proj 7 (shapeX t.kind t.pats.length) = .bool (eMust t.kind) := rfl
  have p8 : proj 8 (shapeX t.kind t.pats.length) = .int .i64 (eKids t.kind t.pats.length) := rfl
  have l := loop_allB (l := t.pats) (f := Pat.right) (P := fun i => P_tree_one_19h (run cfg) (.list 7 (t.pats.map Pat.enc)) (.int .i64 t.pats.length) (.int .i64 i))
    (by rw [eq_tree_one_19h]; simp)
    (fun i h => by
      rw [eq_tree_one_19h]
      have f := ht.pat _ (List.getElem_mem h)
      simp [h, dIdx_map h, Pat.eta, sp_tree_CheckPat _ (Pat.fit_thin f) f.txt, dAdd1 (show i < 9223372036854775807 by omega)]
      cases t.pats[i].right <;> rfl)
  have h18 : P_tree_one_18 (run cfg) t.enc = some (.bool t.one8) := by
    rw [eq_tree_one_18]
    simp only [Ex.proj14, dLen_list, List.length_map, ob_some']
    exact l
  have h16 : P_tree_one_16 (run cfg) t.enc (shapeX t.kind t.pats.length) = some (.bool t.one7) := by
    rw [eq_tree_one_16]
    simp only [p6, Ex.proj11, Ex.proj12, Ex.proj13, Ty.eta, sp_tree_none, sp_tree_closed _ ht.b, h18, ob_some', dUn_not, ogd_bool, oif_bool, Ex.one7, noteB]
    cases t.b.none <;> cases eB t.kind <;> cases t.b.closed <;> simp
  have h14 : P_tree_one_14 (run cfg) t.enc (shapeX t.kind t.pats.length) = some (.bool t.one6) := by
    rw [eq_tree_one_14]
    simp only [p5, p7, Ex.proj8, Ex.proj9, Ex.proj10, Ty.eta, sp_tree_none, sp_tree_closed _ ht.a, h16, ob_some', dUn_not, ogd_bool, oif_bool, Ex.one6, noteB]
    cases t.a.none <;> cases eA t.kind <;> cases t.a.closed <;> cases eMust t.kind <;> simp
  have h12 : P_tree_one_12 (run cfg) t.enc (shapeX t.kind t.pats.length) = some (.bool t.one5) := by
    rw [eq_tree_one_12]
    simp only [p4, Ex.proj7, h14, ob_some', dUn_not, ogd_bool, oif_bool, dBin_gtr, dBin_lss, dBin_neq, Ex.one5]
    cases eOp t.kind
    · by_cases v : t.op = 0 <;> simp [v]
    · by_cases a : t.op < 1
      · simp [a, show ¬ 1 ≤ t.op by omega]
      · by_cases p : 7 < t.op
        · simp [a, p, show ¬ t.op ≤ 7 by omega]
        · simp [a, p, show 1 ≤ t.op by omega, show t.op ≤ 7 by omega]
  have hs : ∀ n : Nat, dBin .gtr (.int .i64 (n : Int)) (.int .i64 200) = some (.bool (decide (200 < n))) := fun n => by
    rw [dBin_gtr]; congr 2; rw [decide_eq_decide]; omega
  have h10 : P_tree_one_10 (run cfg) t.enc (shapeX t.kind t.pats.length) = some (.bool t.one4) := by
    rw [eq_tree_one_10]
    simp only [p3, Ex.proj6, h12, ob_some', dUn_not, ogd_bool, oif_bool, dLenS_str, hs, nil_str, dBin_sneq, Ex.one4]
    generalize t.s.size = z
    by_cases a : 200 < z
    · have : ¬ z ≤ 200 := by omega
      cases eS t.kind <;> by_cases v : t.s = nil8 <;> simp [a, v, this]
    · have : z ≤ 200 := by omega
      cases eS t.kind <;> by_cases v : t.s = nil8 <;> simp [a, v, this]
  have h8 : P_tree_one_8 (run cfg) t.enc (shapeX t.kind t.pats.length) = some (.bool t.one3) := by
    rw [eq_tree_one_8]
    simp only [p2, Ex.proj5, Ex.proj0, h10, ob_some', dUn_not, ogd_bool, oif_bool, dBin_neq, dBin_eql, Ex.one3]
    cases eN t.kind <;> by_cases v : t.kind = 3 <;> by_cases x : t.n = 0 <;> by_cases y : t.n = 1 <;> simp [v, x, y]
  have h6 : P_tree_one_6 (run cfg) t.enc (shapeX t.kind t.pats.length) = some (.bool t.one2) := by
    rw [eq_tree_one_6]
    simp only [p1, Ex.proj4, h8, sp_word_Name t.arg (by have := ht.arg; unfold lim; omega), ob_some', dUn_not, ogd_bool, oif_bool, dBin_sneq, nil_str, Ex.one2, namedB]
    cases eArg t.kind
    · by_cases v : t.arg = nil8 <;> simp [v]
    · cases nameB t.arg <;> simp
  have h4 : P_tree_one_4 (run cfg) t.enc (shapeX t.kind t.pats.length) = some (.bool t.one1) := by
    rw [eq_tree_one_4]
    simp only [p0, Ex.proj3, h6, sp_word_Name t.name (by have := ht.name; unfold lim; omega), ob_some', dUn_not, ogd_bool, oif_bool, dBin_sneq, nil_str, Ex.one1, namedB]
    cases eName t.kind
    · by_cases v : t.name = nil8 <;> simp [v]
    · cases nameB t.name <;> simp
  have hg : dBin .gtr (.int .i64 (t.pats.length : Int)) (.int .i64 0) = some (.bool (!decide (t.pats.length = 0))) := by
    rw [dBin_gtr]; congr 2
    by_cases h : t.pats.length = 0
    · simp [h]
    · have : (0 : Int) < (t.pats.length : Int) := by omega
      simp [h]
      omega
  simp only [p8, h4, dLen_list, List.length_map, ob_some', ogd_bool, oif_bool, dBin_neq, hg, Ex.one, hk]
  generalize eKids t.kind t.pats.length = ek
  by_cases v : (t.kids.length : Int) = ek <;> by_cases w : t.kind = 14 <;> by_cases u : t.pats.length = 0 <;> simp [v, w, u]

def tcSg (a c : SObj) (n : Int) : List SObj := [a, .box [(.int .i64 n, .val)], c]

theorem tc_rounds (t0 t4 : DV) (a c : SObj) : ∀ (ps : List Ex), (∀ q ∈ ps, q.fit1) →
    I_tree_Check_r0 (run cfg) t0 t4 (ps.map Ex.enc) (tcSg a c 0) = some (.int .i64 (if ps.all Ex.one = true then 0 else 1))
  | [], _ => by
    rw [List.map_nil, I_tree_Check_r0_nil, eq_X_tree_Check_r0_normal]
    rfl
  | q :: ps, h => by
    rw [List.map_cons, I_tree_Check_r0_cons, eq_B_tree_Check_r0]
    have hq := sp_tree_one q (h q (List.mem_cons_self ..))
    have ih := tc_rounds t0 t4 a c ps fun x hx => h x (List.mem_cons_of_mem _ hx)
    simp only [isAggN_Ex, og_true', Ex.proj0, Ex.proj1, Ex.proj2, Ex.proj3, Ex.proj4, Ex.proj5, Ex.proj6, Ex.proj7, Ex.proj8, Ex.proj9, Ex.proj10, Ex.proj11, Ex.proj12, Ex.proj13, Ex.proj14, Ex.proj15, Ex.eta, hq, ob_some', dUn_not, oif_bool, ih, List.all_cons]
    rcases Bool.eq_false_or_eq_true q.one with hq1 | hq1
    rotate_left
    · have sg1 : sgBox (tcSg a c 0) 1 = some [(.int .i64 0, .val)] := rfl
      have g0 : [((.int .i64 0 : DV), Meta.val)][0]? = some (.int .i64 0, .val) := rfl
      simp only [hq1, Bool.not_false, if_true, sg1, ob_some', g0]
      rw [eq_X_tree_Check_r0_ret]
      rfl
    · simp [hq1]

theorem sp_tree_Check (t : Ex) (ht : t.fit) : (run cfg).p F_tree_Check [t.enc] = some (.int .i64 (if t.right = true then 0 else 1)) := by
  refine call_tree_Check _ ?_
  rw [eq_tree_Check]
  simp only [isAggN_Ex, og_true', Ex.proj0, Ex.proj1, Ex.proj2, Ex.proj3, Ex.proj4, Ex.proj5, Ex.proj6, Ex.proj7, Ex.proj8, Ex.proj9, Ex.proj10, Ex.proj11, Ex.proj12, Ex.proj13, Ex.proj14, Ex.proj15, Ex.eta]
  rw [eq_tree_Check_r0]
  obtain ⟨n, hn⟩ := flat_Ex t ht
  rw [Ex.enc_eq] at hn
  simp only [sgBox, List.getElem?_cons_succ, List.getElem?_cons_zero, ob_some', allDat, og_true', flatD_of hn]
  rw [Ex.right_subs]
  exact tc_rounds _ _ _ _ t.subs fun q hq => (Ex.fit_sub ht q hq).one

theorem sp_r03_None (t : Ty) : (run cfg).p F_r03_None [t.enc] = some (.bool t.none) := by
  refine call_r03_None _ ?_
  rw [eq_r03_None]
  simp [Ty.none]
  by_cases h1 : t.kind = 0 <;> by_cases h2 : t.n = 0 <;> simp [h1, h2]

theorem sp_r05_note (t : Ty) (ht : t.thin = true) (may : Bool) : (run cfg).p F_r05_note [t.enc, .bool may] = some (.bool (if t.none = true then may else t.closed)) := by
  refine call_r05_note _ _ ?_
  rw [eq_r05_note]
  simp [Ty.eta, sp_r03_None, sp_r03_Right t ht, sp_r03_Without 6 t ht, Ty.closed]
  cases t.none <;> cases t.right <;> simp

def noTy : Ty := .mk 0 0 []

theorem noTy_none (t : Ty) : (t = noTy) ↔ t.none = true := Ty.none_iff.symm

/-- The fields of a kind. -/
noncomputable def fieldsX (t : Ex) : Ex := .mk t.kind 0 0 (if eName t.kind = true then t.name else nil8) (if eArg t.kind = true then t.arg else nil8) (if eN t.kind = true then t.n else 0) (if eS t.kind = true then t.s else nil8) (if eOp t.kind = true then t.op else 0)
  (if eA t.kind = true then t.a else noTy) (if eB t.kind = true then t.b else noTy) (if t.kind = 14 then t.pats else []) []

def manyX (t : Ex) : Int := if 1 ≤ t.kind ∧ t.kind ≤ 16 then eKids t.kind t.pats.length else -1

theorem sp_r05_fields (t : Ex) (ht : t.fit1) : (run cfg).p F_r05_fields [t.enc] = some (.tup [(fieldsX t).enc, .int .i64 (manyX t)]) := by
  have hp := big (Nat.le_of_lt ht.pats)
  refine call_r05_fields _ ?_
  rw [eq_r05_fields, Ex.enc_eq (fieldsX t)]
  by_cases k14 : t.kind = 14
  · have h1 : dBin .add (.int .i64 1) (.int .i64 (t.pats.length : Int)) = some (.int .i64 ((t.pats.length : Int) + 1)) := by
      rw [dBin_add, wrap_id (by omega) (by omega), Int.add_comm]
    simp [k14, h1, fieldsX, manyX, noTy, eName, eArg, eN, eS, eOp, eA, eB, eMust, eKids, nil_str]
  by_cases k1 : t.kind = 1
  · simp [k1, fieldsX, manyX, noTy, eName, eArg, eN, eS, eOp, eA, eB, eMust, eKids, nil_str]
  by_cases k2 : t.kind = 2
  · simp [k2, fieldsX, manyX, noTy, eName, eArg, eN, eS, eOp, eA, eB, eMust, eKids, nil_str]
  by_cases k3 : t.kind = 3
  · simp [k3, fieldsX, manyX, noTy, eName, eArg, eN, eS, eOp, eA, eB, eMust, eKids, nil_str]
  by_cases k4 : t.kind = 4
  · simp [k4, fieldsX, manyX, noTy, eName, eArg, eN, eS, eOp, eA, eB, eMust, eKids, nil_str]
  by_cases k5 : t.kind = 5
  · simp [k5, fieldsX, manyX, noTy, eName, eArg, eN, eS, eOp, eA, eB, eMust, eKids, nil_str]
  by_cases k6 : t.kind = 6
  · simp [k6, fieldsX, manyX, noTy, eName, eArg, eN, eS, eOp, eA, eB, eMust, eKids, nil_str]
  by_cases k7 : t.kind = 7
  · simp [k7, fieldsX, manyX, noTy, eName, eArg, eN, eS, eOp, eA, eB, eMust, eKids, nil_str]
  by_cases k8 : t.kind = 8
  · simp [k8, fieldsX, manyX, noTy, eName, eArg, eN, eS, eOp, eA, eB, eMust, eKids, nil_str]
  by_cases k9 : t.kind = 9
  · have d1 : dBin .sub (.int .i64 9) (.int .i64 9) = some (.int .i64 0) := by rw [dBin_sub, wrap_id (by omega) (by omega)]; rfl
    have d2 : dBin .quo (.int .i64 0) (.int .i64 2) = some (.int .i64 0) := rfl
    have d3 : dBin .add (.int .i64 1) (.int .i64 0) = some (.int .i64 1) := by rw [dBin_add, wrap_id (by omega) (by omega)]; rfl
    simp only [k9, fieldsX, manyX, noTy, eName, eArg, eN, eS, eOp, eA, eB, eMust, eKids, nil_str, Ex.proj0, isAggN_Ex, og_true', isCell_int, dBin_eql, ob_some', oif_bool]
    simp [eq_r05_fields_20, d1, d2, d3, k9]
  by_cases k10 : t.kind = 10
  · simp [k10, fieldsX, manyX, noTy, eName, eArg, eN, eS, eOp, eA, eB, eMust, eKids, nil_str]
  by_cases k11 : t.kind = 11
  · have d1 : dBin .sub (.int .i64 11) (.int .i64 9) = some (.int .i64 2) := by rw [dBin_sub, wrap_id (by omega) (by omega)]; rfl
    have d2 : dBin .quo (.int .i64 2) (.int .i64 2) = some (.int .i64 1) := rfl
    have d3 : dBin .add (.int .i64 1) (.int .i64 1) = some (.int .i64 2) := by rw [dBin_add, wrap_id (by omega) (by omega)]; rfl
    simp only [k11, fieldsX, manyX, noTy, eName, eArg, eN, eS, eOp, eA, eB, eMust, eKids, nil_str, Ex.proj0, isAggN_Ex, og_true', isCell_int, dBin_eql, ob_some', oif_bool]
    simp [eq_r05_fields_20, d1, d2, d3, k11]
  by_cases k12 : t.kind = 12
  · simp [k12, fieldsX, manyX, noTy, eName, eArg, eN, eS, eOp, eA, eB, eMust, eKids, nil_str]
  by_cases k13 : t.kind = 13
  · simp [k13, fieldsX, manyX, noTy, eName, eArg, eN, eS, eOp, eA, eB, eMust, eKids, nil_str]
  by_cases k15 : t.kind = 15
  · simp [k15, fieldsX, manyX, noTy, eName, eArg, eN, eS, eOp, eA, eB, eMust, eKids, nil_str]
  by_cases k16 : t.kind = 16
  · simp [k16, fieldsX, manyX, noTy, eName, eArg, eN, eS, eOp, eA, eB, eMust, eKids, nil_str]
  · have hk : ¬ (1 ≤ t.kind ∧ t.kind ≤ 16) := by omega
    simp [fieldsX, manyX, hk, noTy, eName, eArg, eN, eS, eOp, eA, eB, k1, k2, k3, k4, k5, k6, k7, k8, k9, k10, k11, k12, k13, k14, k15, k16, nil_str]

def Ex.own4 (t : Ex) : Bool :=
  if t.kind = 1 ∨ t.kind = 9 ∨ t.kind = 11 then nameB t.name else if t.kind = 12 then nameB t.name && nameB t.arg
  else if t.kind = 3 then decide (t.n = 0) || decide (t.n = 1) else if t.kind = 4 then decide (t.s.size ≤ 200)
  else if t.kind = 14 then decide (0 < t.pats.length) else if t.kind = 16 then decide (1 ≤ t.op) && decide (t.op ≤ 7) else true

def Ex.own3 (t : Ex) : Bool := (if t.a.none = true then !decide (t.kind = 15) else t.a.closed) && (if t.b.none = true then true else t.b.closed) && t.own4

noncomputable def Ex.own (t : Ex) : Bool := decide (manyX t = (t.kids.length : Int)) && decide (t.name = (fieldsX t).name) && decide (t.arg = (fieldsX t).arg) && decide (t.n = (fieldsX t).n) && decide (t.s = (fieldsX t).s) && decide (t.op = (fieldsX t).op) && decide (t.pats.length = (fieldsX t).pats.length) &&
  decide (t.a = (fieldsX t).a) && decide (t.b = (fieldsX t).b) && t.own3

theorem sp_r05_own (t : Ex) (ht : t.fit1) : (run cfg).p F_r05_own [t.enc] = some (.bool t.own) := by
  refine call_r05_own _ ?_
  have x0 : ∀ a b, dExt 0 (.tup [a, b]) = some a := fun _ _ => rfl
  have x1 : ∀ a b, dExt 1 (.tup [a, b]) = some b := fun _ _ => rfl
  have hg : dBin .gtr (.int .i64 (t.pats.length : Int)) (.int .i64 0) = some (.bool (decide (0 < t.pats.length))) := by
    rw [dBin_gtr]; congr 2; rw [decide_eq_decide]; omega
  have hs : dBin .leq (.int .i64 (t.s.size : Int)) (.int .i64 200) = some (.bool (decide (t.s.size ≤ 200))) := by
    rw [dBin_leq]; congr 2; rw [decide_eq_decide]; omega
  have h6 : P_r05_own_6 (run cfg) t.enc = some (.bool t.own3) := by
    rw [eq_r05_own_6]
    simp only [Ex.proj0, Ex.proj3, Ex.proj4, Ex.proj5, Ex.proj6, Ex.proj7, Ex.proj8, Ex.proj9, Ex.proj10, Ex.proj11, Ex.proj12, Ex.proj13, Ex.proj14, Ty.eta, dBin_neq, dBin_eql, ob_some', sp_r05_note _ ht.a, sp_r05_note _ ht.b, sp_r01_Name t.name ht.name, sp_r01_Name t.arg ht.arg, dUn_not, ogd_bool, oif_bool, dLenS_str, hs, dLen_list, List.length_map, hg, dBin_geq, dBin_leq, Ex.own3, Ex.own4]
    by_cases c1 : (if t.a.none = true then !decide (t.kind = 15) else t.a.closed) = true
    · by_cases c2 : (if t.b.none = true then true else t.b.closed) = true
      · simp only [c1, c2, Bool.not_true, Bool.false_eq_true, if_false, Bool.true_and]
        by_cases k1 : t.kind = 1
        · simp [k1]
        by_cases k9 : t.kind = 9
        · simp [k9]
        by_cases k11 : t.kind = 11
        · simp [k11]
        by_cases k12 : t.kind = 12
        · simp [k12]; cases nameB t.name <;> simp
        by_cases k3 : t.kind = 3
        · simp [k3]; by_cases n0 : t.n = 0 <;> simp [n0]
        by_cases k4 : t.kind = 4
        · simp [k4]
        by_cases k14 : t.kind = 14
        · simp [k14]
        by_cases k16 : t.kind = 16
        · simp [k16]; by_cases o1 : 1 ≤ t.op <;> simp [o1]
        simp [k1, k9, k11, k12, k3, k4, k14, k16]
      · have c2' : (if t.b.none = true then true else t.b.closed) = false := Bool.eq_false_iff.2 c2
        simp only [c1, c2', Bool.not_true, Bool.false_eq_true, if_false, Bool.not_false, if_true, Bool.and_false, Bool.false_and]
    · have c1' : (if t.a.none = true then !decide (t.kind = 15) else t.a.closed) = false := Bool.eq_false_iff.2 c1
      simp only [c1', Bool.not_false, if_true, Bool.false_and]
  have h4 : P_r05_own_4 (run cfg) t.enc (fieldsX t).enc = some (.bool (decide (t.a = (fieldsX t).a) && decide (t.b = (fieldsX t).b) && t.own3)) := by
    rw [eq_r05_own_4]
    simp only [Ex.proj8, Ex.proj9, Ex.proj10, Ex.proj11, Ex.proj12, Ex.proj13, Ty.eta, sp_r03_Same _ ht.a, sp_r03_Same _ ht.b, ob_some', dUn_not, ogd_bool, oif_bool, h6]
    by_cases a1 : t.a = (fieldsX t).a <;> by_cases a2 : t.b = (fieldsX t).b <;> simp [a1, a2]
  rw [eq_r05_own]
  simp only [isAggN_Ex, og_true', Ex.proj0, Ex.proj1, Ex.proj2, Ex.proj3, Ex.proj4, Ex.proj5, Ex.proj6, Ex.proj7, Ex.proj8, Ex.proj9, Ex.proj10, Ex.proj11, Ex.proj12, Ex.proj13, Ex.proj14, Ex.proj15, Ex.eta, sp_r05_fields t ht, x0, x1, ob_some', dLen_list, List.length_map, dBin_neq, dBin_sneq, ogd_bool, oif_bool, h4, Ex.own]
  by_cases a1 : manyX t = (t.kids.length : Int) <;> simp [a1]
  by_cases a2 : t.name = (fieldsX t).name <;> simp [a2]
  by_cases a3 : t.arg = (fieldsX t).arg <;> simp [a3]
  by_cases a4 : t.n = (fieldsX t).n <;> simp [a4]
  by_cases a5 : t.s = (fieldsX t).s <;> simp [a5]
  by_cases a6 : t.op = (fieldsX t).op <;> simp [a6]
  by_cases a7 : t.pats.length = (fieldsX t).pats.length
  · have a7' : (t.pats.length : Int) = ((fieldsX t).pats.length : Int) := by omega
    simp [a7]
  · have a7' : ¬ (t.pats.length : Int) = ((fieldsX t).pats.length : Int) := by omega
    simp [a7, a7']

theorem Ex.own4_eq (t : Ex) : t.own4 = ((!eName t.kind || nameB t.name) && (!eArg t.kind || nameB t.arg) && (!decide (t.kind = 3) || decide (t.n = 0) || decide (t.n = 1)) && (!decide (t.kind = 4) || decide (t.s.size ≤ 200)) && (!decide (t.kind = 14) || decide (0 < t.pats.length)) && (!eOp t.kind || (decide (1 ≤ t.op) && decide (t.op ≤ 7)))) := by
  unfold Ex.own4 eName eArg eOp
  by_cases k1 : t.kind = 1
  · simp [k1]
  by_cases k9 : t.kind = 9
  · simp [k9]
  by_cases k11 : t.kind = 11
  · simp [k11]
  by_cases k12 : t.kind = 12
  · simp [k12]
  by_cases k3 : t.kind = 3
  · simp [k3]
  by_cases k4 : t.kind = 4
  · simp [k4]
  by_cases k14 : t.kind = 14
  · simp [k14]
  by_cases k16 : t.kind = 16
  · simp [k16]
  simp [k1, k9, k11, k12, k3, k4, k14, k16]

theorem fld_named (E : Bool) (s : ByteArray) : (decide (s = if E = true then s else nil8) && (!E || nameB s)) = namedB E s := by cases E <;> simp [namedB]

theorem fld_n (E : Bool) (n : Int) : decide (n = if E = true then n else 0) = (E || decide (n = 0)) := by cases E <;> simp

theorem fld_s (k : Int) (s : ByteArray) : (decide (s = if eS k = true then s else nil8) && (!decide (k = 4) || decide (s.size ≤ 200))) = ((eS k || decide (s = nil8)) && decide (s.size ≤ 200)) := by
  have n200 : nil8.size ≤ 200 := by decide
  unfold eS
  by_cases h : k = 4
  · simp [h]
  · by_cases e : s = nil8
    · simp [h, e, n200]
    · simp [h, e]

theorem fld_op (E : Bool) (n : Int) (r : Bool) : (decide (n = if E = true then n else 0) && (!E || r)) = ((!E || r) && (E || decide (n = 0))) := by cases E <;> simp

theorem fld_pats (k : Int) (l : List Pat) : decide (l.length = (if k = 14 then l else []).length) = (decide (k = 14) || decide (l.length = 0)) := by by_cases h : k = 14 <;> simp [h]

theorem fld_note (E m : Bool) (t : Ty) : (decide (t = if E = true then t else noTy) && (if t.none = true then !m else t.closed)) = noteB E m t := by
  have dA : decide (t = noTy) = t.none := by rw [Bool.eq_iff_iff, decide_eq_true_eq]; exact noTy_none t
  unfold noteB
  cases E
  · simp only [Bool.false_eq_true, if_false, dA]
    cases hn : t.none <;> simp
  · simp

theorem Ex.own_one (t : Ex) : (t.own && t.pats.all Pat.right) = t.one := by
  by_cases hk : 1 ≤ t.kind ∧ t.kind ≤ 16
  rotate_left
  · have h1 : manyX t = -1 := by unfold manyX; rw [if_neg hk]
    have h2 : ¬ ((-1 : Int) = (t.kids.length : Int)) := by omega
    have k0 : eOk t.kind t.pats.length = false := by
      unfold eOk
      rw [Bool.eq_false_iff]
      intro h'
      simp only [Bool.and_eq_true, decide_eq_true_eq] at h'
      omega
    unfold Ex.own Ex.one
    rw [k0, h1]
    simp [h2]
  have hm : manyX t = eKids t.kind t.pats.length := by unfold manyX; rw [if_pos hk]
  have hok : eOk t.kind t.pats.length = (!decide (t.kind = 14) || decide (0 < t.pats.length)) := by unfold eOk; simp [hk.1, hk.2]
  have cm : decide (eKids t.kind t.pats.length = (t.kids.length : Int)) = decide ((t.kids.length : Int) = eKids t.kind t.pats.length) := by rw [decide_eq_decide]; exact eq_comm
  have hb : (if t.b.none = true then true else t.b.closed) = (if t.b.none = true then !false else t.b.closed) := rfl
  have ha : (if t.a.none = true then !decide (t.kind = 15) else t.a.closed) = (if t.a.none = true then !eMust t.kind else t.a.closed) := rfl
  unfold Ex.own Ex.one Ex.own3 Ex.one1 Ex.one2 Ex.one3 Ex.one4 Ex.one5 Ex.one6 Ex.one7 Ex.one8
  rw [hm, cm, hok, Ex.own4_eq, hb, ha]
  simp only [fieldsX, Ex.name_mk, Ex.arg_mk, Ex.n_mk, Ex.s_mk, Ex.op_mk, Ex.a_mk, Ex.b_mk, Ex.pats_mk]
  rw [← fld_named (eName t.kind) t.name, ← fld_named (eArg t.kind) t.arg, ← fld_n (eN t.kind) t.n, ← fld_s t.kind t.s, ← fld_op (eOp t.kind) t.op, ← fld_pats t.kind t.pats, ← fld_note (eA t.kind), ← fld_note (eB t.kind)]
  ac_rfl

theorem sp_r05_Right (t : Ex) : t.fit → (run cfg).p F_r05_Right [t.enc] = some (.bool t.right) := by
  induction t using Ex.ind with
  | h t ih =>
    intro ht
    have hk := big (Nat.le_of_lt ht.one.kids)
    have hp := big (Nat.le_of_lt ht.one.pats)
    refine call_r05_Right _ ?_
    have l2 := loop_allB (l := t.kids) (f := Ex.right) (P := fun i => P_r05_Right_9h (run cfg) (.int .i64 i) t.enc)
      (by rw [eq_r05_Right_9h]; simp)
      (fun i h => by
        rw [eq_r05_Right_9h]
        simp [h, dIdx_map h, Ex.eta, ih _ (List.getElem_mem h) (ht.kid (List.getElem_mem h)), dAdd1 (show i < 9223372036854775807 by omega)]
        cases t.kids[i].right <;> rfl)
    have l1 := loop_all (l := t.pats) (f := Pat.right) (P := fun i => P_r05_Right_4h (run cfg) (.int .i64 i) t.enc) (y := .bool (t.kids.all Ex.right)) (n := .bool false)
      (by rw [eq_r05_Right_4h]; simp only [dBin_lss, Int.lt_irrefl, decide_false, ob_some', oif_bool, Bool.false_eq_true, if_false, Ex.proj14, dLen_list, List.length_map]; exact l2)
      (fun i h => by
        rw [eq_r05_Right_4h]
        have f := ht.one.pat _ (List.getElem_mem h)
        simp [h, dIdx_map h, Pat.eta, sp_r05_RightPat _ f.size f.txt, dAdd1 (show i < 9223372036854775807 by omega)]
        cases t.pats[i].right <;> rfl)
    rw [eq_r05_Right, Ex.right_eq, ← Ex.own_one]
    simp only [isAggN_Ex, og_true', Ex.proj0, Ex.proj1, Ex.proj2, Ex.proj3, Ex.proj4, Ex.proj5, Ex.proj6, Ex.proj7, Ex.proj8, Ex.proj9, Ex.proj10, Ex.proj11, Ex.proj12, Ex.proj13, Ex.proj14, Ex.proj15, Ex.eta, sp_r05_own t ht.one, ob_some', dUn_not, oif_bool]
    have l1' : P_r05_Right_4h (run cfg) (.int .i64 0) t.enc = _ := l1
    rw [l1']
    cases t.own <;> cases t.pats.all Pat.right <;> simp

def sgS (B O : List (DV × DV)) (J : List SObj) : List SObj := .map true B :: .map true O :: .box [(.undef, .map 0), (.undef, .map 1)] :: J

theorem sgS_len (B O : List (DV × DV)) (J : List SObj) : (sgS B O J).length = J.length + 3 := rfl

theorem sgS_app (B O : List (DV × DV)) (J K : List SObj) : sgS B O J ++ K = sgS B O (J ++ K) := rfl

theorem sgS_two (B O : List (DV × DV)) (J : List SObj) : sgBox (sgS B O J) 2 = some [(.undef, .map 0), (.undef, .map 1)] := rfl

theorem sgS_map0 (B O : List (DV × DV)) (J : List SObj) : sgMap (sgS B O J) 0 = some (true, B) := rfl

theorem sgS_map1 (B O : List (DV × DV)) (J : List SObj) : sgMap (sgS B O J) 1 = some (true, O) := rfl

theorem sgS_set0 (B B' O : List (DV × DV)) (J : List SObj) : (sgS B O J).set 0 (.map true B') = sgS B' O J := rfl

theorem sgS_set1 (B O O' : List (DV × DV)) (J : List SObj) : (sgS B O J).set 1 (.map true O') = sgS B O' J := rfl

theorem sgS_get (B O : List (DV × DV)) (J K : List SObj) (x : SObj) : (sgS B O (J ++ x :: K))[J.length + 3]? = some x := by
  simp [sgS, List.getElem?_append_right]

theorem sgS_box (B O : List (DV × DV)) (J K : List SObj) (c : List (DV × Meta)) : sgBox (sgS B O (J ++ .box c :: K)) (J.length + 3) = some c := by
  unfold sgBox
  rw [sgS_get]

theorem sgS_put (B O : List (DV × DV)) (J K : List SObj) (x y : SObj) : (sgS B O (J ++ x :: K)).set (J.length + 3) y = sgS B O (J ++ y :: K) := by
  simp [sgS, List.set_append_right]

theorem cm0 : cellMap [((.undef : DV), Meta.map 0), (.undef, .map 1)] 0 = some 0 := rfl

theorem cm1 : cellMap [((.undef : DV), Meta.map 0), (.undef, .map 1)] 1 = some 1 := rfl

/-- What a look into `t` does, with the names `L` bound around. -/
def LookOk (f : FuncId) (args : List (DV × Meta)) (t : Ex) (L M : List ByteArray) : Prop :=
  ∀ (O B : List (DV × DV)) (P : ByteArray → Prop) (J : List SObj), KeysAre O P → CntS B (cn L) →
    ∃ O' B' J', (run cfg).r f args (sgS B O J) = some ([], sgS B' O' (J ++ J')) ∧ KeysAre O' (fun s => P s ∨ s ∈ t.fr M) ∧ CntS B' (cn L)

theorem sp_scope_with (k : Ex) (L l : List ByteArray) (hl : L.length + l.length ≤ lim) (h : LookOk F_tree_scope_look [(.undef, .ptr 2 0), (k.enc, .val)] k (L ++ l) (L ++ l)) :
    LookOk F_tree_scope_with [(.undef, .ptr 2 0), (k.enc, .val), (encStrs l, .val)] k L (L ++ l) := by
  intro O B P J hO hB
  have hlb := big (show l.length ≤ lim by omega)
  have l8 : ∀ (n j : Nat) (O B : List (DV × DV)) (J : List SObj), j + n = l.length → CntS B (cn (L ++ l.drop j)) →
      ∃ B', P_tree_scope_with_8h (run cfg) 2 (encStrs l) (.int .i64 l.length) (.int .i64 (j : Int)) (sgS B O J) = some ([], sgS B' O J) ∧ CntS B' (cn L) := by
    intro n
    induction n with
    | zero =>
      intro j O B J hj hc
      have e : j = l.length := by omega
      subst e
      refine ⟨B, ?_, by rwa [List.drop_length, List.append_nil] at hc⟩
      rw [eq_tree_scope_with_8h]
      simp
    | succ n ihn =>
      intro j O B J hj hc
      have h : j < l.length := by omega
      rw [List.drop_eq_getElem_cons h] at hc
      obtain ⟨B', h1, h2⟩ := ihn (j + 1) O (mSet B (.str l[j]) (.int .i64 (cn (L ++ l[j] :: l.drop (j + 1)) l[j] - 1))) J (by omega) (cn_dec hc)
      refine ⟨B', ?_, h2⟩
      rw [eq_tree_scope_with_8h]
      have c1 := hc l[j]
      have c2 := cn_pos (L ++ l[j] :: l.drop (j + 1)) l[j]
      have c3 := cn_le (L ++ l[j] :: l.drop (j + 1)) l[j]
      have c4 : (L ++ l[j] :: l.drop (j + 1)).length ≤ 4294967296 := by simp; unfold lim at hl; omega
      have e1 : dBin .sub (.int .i64 (cn (L ++ l[j] :: l.drop (j + 1)) l[j])) (.int .i64 1) = some (.int .i64 (cn (L ++ l[j] :: l.drop (j + 1)) l[j] - 1)) := by
        rw [dBin_sub, wrap_id (by omega) (by omega)]
      simp only [dBin_lss, Int.ofNat_lt, h, decide_true, ob_some', oif_bool, if_true, dIdx_strs h, isLeaf_str, og_true', isKey_str, Bool.and_true, sgS_two, cm0, sgS_map0, BEq.rfl, c1, e1, dAdd1 (show j < 9223372036854775807 by omega), sgS_set0]
      exact h1
  have l2 : ∀ (n j : Nat) (B : List (DV × DV)), j + n = l.length → CntS B (cn (L ++ l.take j)) →
      ∃ O' B' J', P_tree_scope_with_2h (run cfg) 2 (encStrs l) (encStrs l) (.int .i64 l.length) (.int .i64 (j : Int)) k.enc (sgS B O J) = some ([], sgS B' O' (J ++ J')) ∧ KeysAre O' (fun s => P s ∨ s ∈ k.fr (L ++ l)) ∧ CntS B' (cn L) := by
    intro n
    induction n with
    | zero =>
      intro j B hj hc
      have e : j = l.length := by omega
      subst e
      rw [List.take_length] at hc
      obtain ⟨O', B', J', h1, h2, h3⟩ := h O B P J hO hc
      obtain ⟨B2, h4, h5⟩ := l8 l.length 0 O' B' (J ++ J') (by omega) (by rw [List.drop_zero]; exact h3)
      refine ⟨O', B2, J', ?_, h2, h5⟩
      rw [eq_tree_scope_with_2h]
      have ee : (DV.agg [proj 0 k.enc, proj 1 k.enc, proj 2 k.enc, proj 3 k.enc, proj 4 k.enc, proj 5 k.enc, proj 6 k.enc, proj 7 k.enc, proj 8 k.enc, proj 9 k.enc, proj 10 k.enc, proj 11 k.enc, proj 12 k.enc, proj 13 k.enc, proj 14 k.enc, proj 15 k.enc]) = k.enc := by simp [Ex.eta]
      simp only [dBin_lss, Int.lt_irrefl, decide_false, ob_some', oif_bool, Bool.false_eq_true, if_false, ee, h1, dLen_strs]
      exact h4
    | succ n ihn =>
      intro j B hj hc
      have h : j < l.length := by omega
      have hc' := cn_inc hc l[j]
      rw [List.append_assoc, ← List.take_succ_eq_append_getElem h] at hc'
      obtain ⟨O', B', J', h1, h2, h3⟩ := ihn (j + 1) (mSet B (.str l[j]) (.int .i64 (cn (L ++ l.take j) l[j] + 1))) (by omega) hc'
      refine ⟨O', B', J', ?_, h2, h3⟩
      rw [eq_tree_scope_with_2h]
      have c1 := hc l[j]
      have c2 := cn_pos (L ++ l.take j) l[j]
      have c3 := cn_le (L ++ l.take j) l[j]
      have c4 : (L ++ l.take j).length ≤ 4294967296 := by simp; unfold lim at hl; omega
      simp only [dBin_lss, Int.ofNat_lt, h, decide_true, ob_some', oif_bool, if_true, dIdx_strs h, isLeaf_str, og_true', isKey_str, Bool.and_true, sgS_two, cm0, sgS_map0, BEq.rfl, c1, dAdd (show (-9223372036854775808 : Int) ≤ cn (L ++ l.take j) l[j] + 1 by omega) (show cn (L ++ l.take j) l[j] + 1 ≤ 9223372036854775807 by omega), dAdd1 (show j < 9223372036854775807 by omega), sgS_set0]
      exact h1
  obtain ⟨O', B', J', h1, h2, h3⟩ := l2 l.length 0 B (by omega) (by rw [List.take_zero, List.append_nil]; exact hB)
  refine ⟨O', B', J', call_tree_scope_with _ _ _ _ ?_, h2, h3⟩
  rw [eq_tree_scope_with]
  simp only [isAggN_Ex, og_true', dLen_strs, ob_some']
  exact h1

/-- The cells of an expression. -/
def exC (t : Ex) : List (DV × Meta) := [(.int .i64 t.kind, .val), (.int .i64 t.lo, .val), (.int .i64 t.hi, .val), (.str t.name, .val), (.str t.arg, .val), (.int .i64 t.n, .val), (.str t.s, .val), (.int .i64 t.op, .val), (.int .i64 t.a.kind, .val), (.int .i64 t.a.n, .val), (.list 3 (t.a.kids.map Ty.enc), .val), (.int .i64 t.b.kind, .val), (.int .i64 t.b.n, .val), (.list 3 (t.b.kids.map Ty.enc), .val), (.list 7 (t.pats.map Pat.enc), .val), (.list 16 (t.kids.map Ex.enc), .val)]

theorem exC0 (t : Ex) : cellDat (exC t) 0 = some (.int .i64 t.kind) := rfl

theorem exC3 (t : Ex) : cellDat (exC t) 3 = some (.str t.name) := rfl

theorem exC4 (t : Ex) : cellDat (exC t) 4 = some (.str t.arg) := rfl

theorem exC14 (t : Ex) : cellDat (exC t) 14 = some (.list 7 (t.pats.map Pat.enc)) := rfl

theorem exC15 (t : Ex) : cellDat (exC t) 15 = some (.list 16 (t.kids.map Ex.enc)) := rfl

theorem exC_seg (t : Ex) : ∃ e, segDat 0 16 (exC t) = some e ∧ DV.agg e = t.enc := ⟨_, rfl, by rw [Ex.enc_eq]⟩

def paC (p : Pat) : List (DV × Meta) := [(.int .i64 p.kind, .val), (.int .i64 p.lo, .val), (.int .i64 p.hi, .val), (.str p.name, .val), (.int .i64 p.n, .val), (.str p.s, .val), (.list 7 (p.kids.map Pat.enc), .val)]

theorem paC_seg (p : Pat) : segDat 0 7 (paC p) = some [.int .i64 p.kind, .int .i64 p.lo, .int .i64 p.hi, .str p.name, .int .i64 p.n, .str p.s, .list 7 (p.kids.map Pat.enc)] := rfl

theorem sgS_boxE (B O : List (DV × DV)) (J : List SObj) (c : List (DV × Meta)) : sgBox (sgS B O (J ++ [.box c])) (J.length + 3) = some c := sgS_box B O J [] c

theorem sgS_putE (B O : List (DV × DV)) (J : List SObj) (x y : SObj) : (sgS B O (J ++ [x])).set (J.length + 3) y = sgS B O (J ++ [y]) := sgS_put B O J [] x y

theorem sgS_boxK (B O : List (DV × DV)) (J K : List SObj) (c : List (DV × Meta)) : sgBox (sgS B O (J ++ [.box c] ++ K)) (J.length + 3) = some c := by
  rw [List.append_assoc]; exact sgS_box B O J K c

theorem sgS_putK (B O : List (DV × DV)) (J K : List SObj) (x y : SObj) : (sgS B O (J ++ [x] ++ K)).set (J.length + 3) y = sgS B O (J ++ [y] ++ K) := by
  rw [List.append_assoc, List.append_assoc]; exact sgS_put B O J K x y

theorem look_names (t4 t100 t101 t102 t104 t105 t106 t107 : DV) (i3 i5 i8 : Nat) (B O : List (DV × DV)) (J K : List SObj) : ∀ (ps : List Pat) (acc : List ByteArray) (m : Meta), (m = .full ∨ m = .own) → acc.length + ps.length ≤ lim →
    ∃ m', (m' = Meta.full ∨ m' = .own) ∧ I_tree_scope_look_r0 (run cfg) 2 i3 t4 i5 (J.length + 3) t100 t101 t102 t104 t105 t106 t107 i8 (ps.map Pat.enc) (sgS B O (J ++ [.box [(encStrs acc, m)]] ++ K)) =
      X_tree_scope_look_r0 (run cfg) 2 i3 t4 i5 (J.length + 3) t100 t101 t102 t104 t105 t106 t107 i8 .normal (sgS B O (J ++ [.box [(encStrs (acc ++ ps.flatMap nmOf), m')]] ++ K))
  | [], acc, m, hm, _ => ⟨m, hm, by rw [List.map_nil, I_tree_scope_look_r0_nil]; simp⟩
  | p :: ps, acc, m, hm, hl => by
    simp only [List.length_cons] at hl
    by_cases h2 : p.kind = 2
    · obtain ⟨m', h3, h4⟩ := look_names t4 t100 t101 t102 t104 t105 t106 t107 i3 i5 i8 B O J K ps (acc ++ [p.name]) .own (.inr rfl) (by simp; omega)
      refine ⟨m', h3, ?_⟩
      have hc : cellOwn [(encStrs acc, m)] 0 = some (encStrs acc) := by rcases hm with rfl | rfl <;> rfl
      have hg : ∀ d : DV, ([(d, Meta.val)] : List (DV × Meta))[0]? = some (d, .val) := fun _ => rfl
      have ha : dApp 1 (encStrs acc) (.list 1 [.str p.name]) = some (encStrs (acc ++ [p.name])) := by
        have := dApp_strs (a := acc) (b := [p.name]) (by simp; omega)
        exact this
      rw [List.map_cons, I_tree_scope_look_r0_cons, eq_B_tree_scope_look_r0]
      simp only [isAggN_Pat, og_true', Pat.proj0, Pat.proj3, dBin_eql, ob_some', oif_bool, h2, decide_true, if_true, sgS_boxK, hc, isCell_str, ha, sgS_putK, List.set_cons_zero, hg]
      rw [h4]
      simp [nmOf, h2]
    · obtain ⟨m', h3, h4⟩ := look_names t4 t100 t101 t102 t104 t105 t106 t107 i3 i5 i8 B O J K ps acc m hm (by omega)
      refine ⟨m', h3, ?_⟩
      rw [List.map_cons, I_tree_scope_look_r0_cons, eq_B_tree_scope_look_r0]
      simp only [isAggN_Pat, og_true', Pat.proj0, dBin_eql, ob_some', oif_bool, h2, decide_false, Bool.false_eq_true, if_false]
      rw [h4]
      simp [nmOf, h2]

theorem Pat.subs_len (t : Pat) : t.subs.length = t.size := by
  induction t using Pat.ind with
  | h t ih =>
    rw [Pat.subs_eq, Pat.size_eq]
    simp only [List.length_cons, List.length_flatMap]
    have : t.kids.map (fun k => k.subs.length) = t.kids.map Pat.size := List.map_congr_left ih
    rw [this]
    omega

theorem exC_of (t : Ex) : ([(proj 0 t.enc, .val), (proj 1 t.enc, .val), (proj 2 t.enc, .val), (proj 3 t.enc, .val), (proj 4 t.enc, .val), (proj 5 t.enc, .val), (proj 6 t.enc, .val), (proj 7 t.enc, .val), (proj 8 t.enc, .val), (proj 9 t.enc, .val), (proj 10 t.enc, .val), (proj 11 t.enc, .val), (proj 12 t.enc, .val), (proj 13 t.enc, .val), (proj 14 t.enc, .val), (proj 15 t.enc, .val)] : List (DV × Meta)) = exC t := by
  simp only [Ex.proj0, Ex.proj1, Ex.proj2, Ex.proj3, Ex.proj4, Ex.proj5, Ex.proj6, Ex.proj7, Ex.proj8, Ex.proj9, Ex.proj10, Ex.proj11, Ex.proj12, Ex.proj13, Ex.proj14, Ex.proj15]
  rfl

theorem paC_of (p : Pat) : ([(proj 0 p.enc, .val), (proj 1 p.enc, .val), (proj 2 p.enc, .val), (proj 3 p.enc, .val), (proj 4 p.enc, .val), (proj 5 p.enc, .val), (proj 6 p.enc, .val)] : List (DV × Meta)) = paC p := by
  simp only [Pat.proj0, Pat.proj1, Pat.proj2, Pat.proj3, Pat.proj4, Pat.proj5, Pat.proj6]
  rfl

theorem putAt_all {α : Type} (l m : List α) (h : l.length = m.length) : putAt l 0 m = m := by
  simp [putAt, h]

theorem sp_scope_look (t : Ex) : t.fit → t.right = true → ∀ L : List ByteArray, L.length + 2 * t.mass ≤ lim → LookOk F_tree_scope_look [(.undef, .ptr 2 0), (t.enc, .val)] t L L := by
  induction t using Ex.ind with
  | h t ih =>
    intro ft rt L hL O B P J hO hB
    have hk := big (Nat.le_of_lt ft.one.kids)
    have hp := big (Nat.le_of_lt ft.one.pats)
    have hm0 := t.mass_pos
    have ee : ∀ k : Ex, (DV.agg [proj 0 k.enc, proj 1 k.enc, proj 2 k.enc, proj 3 k.enc, proj 4 k.enc, proj 5 k.enc, proj 6 k.enc, proj 7 k.enc, proj 8 k.enc, proj 9 k.enc, proj 10 k.enc, proj 11 k.enc, proj 12 k.enc, proj 13 k.enc, proj 14 k.enc, proj 15 k.enc]) = k.enc := fun k => by simp [Ex.eta]
    -- one kid, with the names that it binds
    have kid : ∀ (j : Nat) (h : j < t.kids.length) (O B : List (DV × DV)) (P : ByteArray → Prop) (J : List SObj), KeysAre O P → CntS B (cn L) →
        ∃ O' B' J', (run cfg).r F_tree_scope_with [(.undef, .ptr 2 0), (t.kids[j].enc, .val), (encStrs (t.binds j), .val)] (sgS B O J) = some ([], sgS B' O' (J ++ J')) ∧ KeysAre O' (fun s => P s ∨ s ∈ t.kids[j].fr (L ++ t.binds j)) ∧ CntS B' (cn L) := by
      intro j h O B P J hO hB
      have hm := t.binds_len j
      have hmk := mem_sum (f := Ex.mass) (List.getElem_mem h)
      exact sp_scope_with t.kids[j] L (t.binds j) (by omega) (ih _ (List.getElem_mem h) (ft.kid (List.getElem_mem h)) (Ex.right_kid rt (List.getElem_mem h)) (L ++ t.binds j) (by simp; omega)) O B P J hO hB
    have fr2 : ∀ (s : ByteArray) (k0 k1 : Ex), t.kids = [k0, k1] → t.kind ≠ 1 → (s ∈ t.fr L ↔ s ∈ k0.fr (L ++ t.binds 0) ∨ s ∈ k1.fr (L ++ t.binds 1)) := by
      intro s k0 k1 hk h1
      rw [Ex.fr_eq, hk, if_neg (fun h => h1 h.1), List.nil_append, Ex.frL_cons, Ex.frL_cons, Ex.frL_nil]
      simp
    suffices H : ∃ O' B' J', P_tree_scope_look (run cfg) 2 t.enc (sgS B O J) = some ([], sgS B' O' (J ++ .box (exC t) :: J')) ∧ KeysAre O' (fun s => P s ∨ s ∈ t.fr L) ∧ CntS B' (cn L) by
      obtain ⟨O', B', J', h1, h2, h3⟩ := H
      exact ⟨O', B', _, call_tree_scope_look _ _ _ h1, h2, h3⟩
    have g2 : ∀ (B O : List (DV × DV)) (K : List SObj), sgBox (sgS B O (J ++ .box (exC t) :: K)) (J.length + 3) = some (exC t) := fun B O K => sgS_box B O J K _
    -- the kids of a match
    have l21 : t.kind = 14 → ∀ (n j : Nat) (O B : List (DV × DV)) (P : ByteArray → Prop) (K : List SObj), j + n = t.pats.length → KeysAre O P → CntS B (cn L) →
        ∃ O' B' K', P_tree_scope_look_21h (run cfg) 2 (J.length + 3) (.list 7 (t.pats.map Pat.enc)) (.int .i64 t.pats.length) (.int .i64 (j : Int)) (sgS B O (J ++ .box (exC t) :: K)) = some ([], sgS B' O' (J ++ .box (exC t) :: K')) ∧
          KeysAre O' (fun s => P s ∨ s ∈ Ex.frL t.binds (j + 1) (t.kids.drop (j + 1)) L) ∧ CntS B' (cn L) := by
      intro h14 n
      induction n with
      | zero =>
        intro j O B P K hj hO hB
        have e : j = t.pats.length := by omega
        subst e
        refine ⟨O, B, K, ?_, ?_, hB⟩
        · rw [eq_tree_scope_look_21h]; simp
        · rw [← Ex.kids14 rt h14, List.drop_length, Ex.frL_nil]
          exact hO.congr fun s => by simp
      | succ n ihn =>
        intro j O B P K hj hO hB
        have h : j < t.pats.length := by omega
        have hk14 := Ex.kids14 rt h14
        have h' : j + 1 < t.kids.length := by omega
        have fp := ft.one.pat _ (List.getElem_mem h)
        have hbi : t.binds (j + 1) = t.pats[j].names := by
          unfold Ex.binds
          rw [if_neg (by omega), if_neg (by omega), if_pos ⟨h14, by omega⟩]
          simp [List.getElem?_eq_getElem h]
        have hnm : t.pats[j].names = t.pats[j].subs.flatMap nmOf := by
          unfold Pat.names
          rw [Pat.namesOn_subs, List.nil_append]
        have hsl : t.pats[j].subs.length ≤ lim := by
          rw [Pat.subs_len]; exact fp.size
        obtain ⟨n0, hn0⟩ := flat_Pat t.pats[j] (Pat.fit_thin fp)
        rw [Pat.enc_eq] at hn0
        -- what lies there behind the names
        obtain ⟨Jk, hJk⟩ : ∃ Jk, Jk = J ++ .box (exC t) :: K := ⟨_, rfl⟩
        have g3 : ∀ (a b c : SObj), sgBox (sgS B O (Jk ++ [a] ++ [b] ++ [c])) (J.length + 3) = some (exC t) := fun a b c => by
          rw [hJk]; simp only [List.append_assoc, List.cons_append]; exact sgS_box B O J _ _
        obtain ⟨m', hm', hI⟩ := look_names (.int .i64 (j : Int)) (.list 7 (t.pats.map Pat.enc)) (.int .i64 t.pats.length) (.int .i64 (j : Int)) (.int .i64 (j : Int)) t.pats[j].enc t.pats[j].enc t.pats[j].enc
          (J.length + 3) (Jk.length + 3) ((Jk ++ [SObj.box (paC t.pats[j])] ++ [SObj.box [(.list 1 [], .full)]]).length + 3) B O (Jk ++ [.box (paC t.pats[j])]) [.arr 1 []] t.pats[j].subs [] .full (.inl rfl) (by simpa using hsl)
        rw [List.nil_append, ← hnm, ← hbi] at hI
        obtain ⟨O1, B1, J1, w1, w2, w3⟩ := kid (j + 1) h' O B P (Jk ++ [.box (paC t.pats[j])] ++ [.box [(encStrs (t.binds (j + 1)), m')]] ++ [.arr 1 []]) hO hB
        obtain ⟨O', B', K', i1, i2, i3⟩ := ihn (j + 1) O1 B1 _ (K ++ [SObj.box (paC t.pats[j])] ++ [SObj.box [(encStrs (t.binds (j + 1)), m')]] ++ [SObj.arr 1 []] ++ J1) (by omega) w2 w3
        refine ⟨O', B', K', ?_, ?_, i3⟩
        · rw [← hJk, eq_tree_scope_look_21h]
          have pe : (DV.agg [proj 0 t.pats[j].enc, proj 1 t.pats[j].enc, proj 2 t.pats[j].enc, proj 3 t.pats[j].enc, proj 4 t.pats[j].enc, proj 5 t.pats[j].enc, proj 6 t.pats[j].enc]) = t.pats[j].enc := by simp [Pat.eta]
          have pz : putAt [((.int .i64 0 : DV), Meta.val), ((.int .i64 0), .val), ((.int .i64 0), .val), ((.str ⟨#[]⟩), .val), ((.int .i64 0), .val), ((.str ⟨#[]⟩), .val), ((.list 7 []), .full)] 0 (paC t.pats[j]) = paC t.pats[j] := putAt_all _ _ rfl
          have ps := paC_seg t.pats[j]
          have pg : DV.agg [.int .i64 t.pats[j].kind, .int .i64 t.pats[j].lo, .int .i64 t.pats[j].hi, .str t.pats[j].name, .int .i64 t.pats[j].n, .str t.pats[j].s, .list 7 (t.pats[j].kids.map Pat.enc)] = t.pats[j].enc := (Pat.enc_eq _).symm
          have pc : ([DV.int .i64 t.pats[j].kind, .int .i64 t.pats[j].lo, .int .i64 t.pats[j].hi, .str t.pats[j].name, .int .i64 t.pats[j].n, .str t.pats[j].s, .list 7 (t.pats[j].kids.map Pat.enc)].map fun d => (d, Meta.val)) = paC t.pats[j] := rfl
          simp only [dBin_lss, Int.ofNat_lt, h, decide_true, ob_some', oif_bool, if_true, dIdx_map h, paC_of, pe, sgS_app, sgS_len, sgS_boxE, List.length_cons, List.length_nil, Nat.zero_add, Nat.reduceAdd, Nat.le_refl, pz, sgS_putE, sgS_boxK, ps, aggD, BEq.rfl, Bool.and_self, og_true', pc, pg]
          rw [eq_tree_scope_look_r0]
          have ad : allDat (paC t.pats[j]) = some [.int .i64 t.pats[j].kind, .int .i64 t.pats[j].lo, .int .i64 t.pats[j].hi, .str t.pats[j].name, .int .i64 t.pats[j].n, .str t.pats[j].s, .list 7 (t.pats[j].kids.map Pat.enc)] := rfl
          simp only [sgS_boxE, ob_some', ad, flatD_of hn0, sgS_putE]
          refine hI.trans ?_
          rw [eq_X_tree_scope_look_r0_normal]
          have cd6 : cellDat [(encStrs (t.binds (j + 1)), m')] 0 = some (encStrs (t.binds (j + 1))) := by rcases hm' with rfl | rfl <;> rfl
          have e1 : dBin .add (.int .i64 (j : Int)) (.int .i64 1) = some (.int .i64 ((j + 1 : Nat) : Int)) := dAdd1 (show j < 9223372036854775807 by omega)
          simp only [g3, ob_some', exC15, e1, dIdx_map h', ee, sgS_boxK, cd6, w1]
          have e2 : Jk ++ [SObj.box (paC t.pats[j])] ++ [SObj.box [(encStrs (t.binds (j + 1)), m')]] ++ [SObj.arr 1 []] ++ J1 = J ++ SObj.box (exC t) :: (K ++ [SObj.box (paC t.pats[j])] ++ [SObj.box [(encStrs (t.binds (j + 1)), m')]] ++ [SObj.arr 1 []] ++ J1) := by
            rw [hJk]; simp only [List.append_assoc, List.cons_append]
          rw [e2]
          exact i1
        · refine i2.congr fun s => ?_
          rw [List.drop_eq_getElem_cons h', Ex.frL_cons, List.mem_append, or_assoc]
    -- other kinds
    have l3 : (∀ j, t.binds j = []) → ∀ (n j : Nat) (O B : List (DV × DV)) (P : ByteArray → Prop) (K : List SObj), j + n = t.kids.length → KeysAre O P → CntS B (cn L) →
        ∃ O' B' K', P_tree_scope_look_3h (run cfg) 2 (.list 16 (t.kids.map Ex.enc)) (.int .i64 t.kids.length) (.int .i64 (j : Int)) (sgS B O K) = some ([], sgS B' O' (K ++ K')) ∧
          KeysAre O' (fun s => P s ∨ s ∈ Ex.frL t.binds j (t.kids.drop j) L) ∧ CntS B' (cn L) := by
      intro hb n
      induction n with
      | zero =>
        intro j O B P K hj hO hB
        have e : j = t.kids.length := by omega
        subst e
        refine ⟨O, B, [], ?_, ?_, hB⟩
        · rw [eq_tree_scope_look_3h]; simp
        · rw [List.drop_length, Ex.frL_nil]
          exact hO.congr fun s => by simp
      | succ n ihn =>
        intro j O B P K hj hO hB
        have h : j < t.kids.length := by omega
        obtain ⟨O1, B1, J1, w1, w2, w3⟩ := kid j h O B P (K ++ [.box (exC t.kids[j])]) hO hB
        obtain ⟨O', B', K', i1, i2, i3⟩ := ihn (j + 1) O1 B1 _ (K ++ [.box (exC t.kids[j])] ++ J1) (by omega) w2 w3
        rw [hb j, ← encStrs_nil] at w1
        refine ⟨O', B', [.box (exC t.kids[j])] ++ J1 ++ K', ?_, ?_, i3⟩
        · rw [eq_tree_scope_look_3h]
          have pz : putAt [((.int .i64 0 : DV), Meta.val), ((.int .i64 0), .val), ((.int .i64 0), .val), ((.str ⟨#[]⟩), .val), ((.str ⟨#[]⟩), .val), ((.int .i64 0), .val), ((.str ⟨#[]⟩), .val), ((.int .i64 0), .val), ((.int .i64 0), .val), ((.int .i64 0), .val), ((.list 3 []), .full), ((.int .i64 0), .val), ((.int .i64 0), .val), ((.list 3 []), .full), ((.list 7 []), .full), ((.list 16 []), .full)] 0 (exC t.kids[j]) = exC t.kids[j] := putAt_all _ _ rfl
          obtain ⟨e, e1, e2⟩ := exC_seg t.kids[j]
          have e3 : dBin .add (.int .i64 (j : Int)) (.int .i64 1) = some (.int .i64 ((j + 1 : Nat) : Int)) := dAdd1 (show j < 9223372036854775807 by omega)
          simp only [dBin_lss, Int.ofNat_lt, h, decide_true, ob_some', oif_bool, if_true, dIdx_map h, exC_of, sgS_app, sgS_len, sgS_boxE, List.length_cons, List.length_nil, Nat.zero_add, Nat.reduceAdd, Nat.le_refl, pz, sgS_putE, e1, e2, w1, e3]
          rw [i1]
          simp only [List.append_assoc]
        · refine i2.congr fun s => ?_
          rw [List.drop_eq_getElem_cons h, Ex.frL_cons, List.mem_append, or_assoc]
    have hks := Ex.one_kids (Ex.right_one rt)
    have n1 : (.list 1 [.str t.name] : DV) = encStrs [t.name] := rfl
    have n2 : (.list 1 [.str t.name, .str t.arg] : DV) = encStrs [t.name, t.arg] := rfl
    have sgE : sgBox (sgS B O (J ++ [.box (exC t)])) (J.length + 3) = some (exC t) := sgS_boxE B O J _
    by_cases k1 : t.kind = 1
    · have hnil := Ex.kids01 rt k1
      have cb := hB t.name
      have cz := cn_zero L t.name
      have fr1 : ∀ s, s ∈ t.fr L ↔ (L.any fun x => decide (x = t.name)) = false ∧ s = t.name := fun s => by
        rw [Ex.fr_eq, hnil, Ex.frL_nil, List.append_nil]
        simp only [k1, true_and]
        split
        · rename_i h; simp [h]
        · rename_i h
          simp only [List.not_mem_nil, false_iff]
          exact fun h' => h h'.1
      by_cases hb : (L.any fun x => decide (x = t.name)) = false
      · obtain ⟨cnt, hcnt⟩ := hO.get t.name
        refine ⟨_, B, [], ?_, (hO.set t.name (IntKind.i64.wrap (cnt + 1))).congr fun s => ?_, hB⟩
        · rw [hb, Bool.not_false] at cz
          rw [eq_tree_scope_look]
          simp only [isAggN_Ex, og_true', exC_of, sgS_app, sgS_len, sgE, ob_some', exC0, exC3, k1, dBin_eql, decide_true, oif_bool, if_true, isKey_str, Bool.and_true, show sgBox (sgS B O (J ++ [.box (exC t)])) 2 = some _ from sgS_two _ _ _, cm0, cm1, sgS_map0, sgS_map1, BEq.rfl, cb, cz, hcnt, dBin_add, sgS_set1]
        · rw [fr1 s]
          constructor
          · rintro (h | h)
            · exact .inr ⟨hb, h⟩
            · exact .inl h
          · rintro (h | ⟨-, h⟩)
            · exact .inr h
            · exact .inl h
      · have hb' : (L.any fun x => decide (x = t.name)) = true := by
          cases hh : L.any fun x => decide (x = t.name)
          · exact absurd hh hb
          · rfl
        refine ⟨O, B, [], ?_, hO.congr fun s => ?_, hB⟩
        · rw [hb', Bool.not_true] at cz
          rw [eq_tree_scope_look]
          simp only [isAggN_Ex, og_true', exC_of, sgS_app, sgS_len, sgE, ob_some', exC0, exC3, k1, dBin_eql, decide_true, oif_bool, if_true, isKey_str, Bool.and_true, show sgBox (sgS B O (J ++ [.box (exC t)])) 2 = some _ from sgS_two _ _ _, cm0, cm1, sgS_map0, sgS_map1, BEq.rfl, cb, cz, Bool.false_eq_true, if_false]
        · rw [fr1 s, hb']
          simp
    by_cases k9 : t.kind = 9
    · have hlen : t.kids.length = 1 := by rw [k9] at hks; simp [eKids] at hks; omega
      have h0 : 0 < t.kids.length := by omega
      have hb0 : t.binds 0 = [t.name] := by unfold Ex.binds; rw [if_pos (.inl k9)]
      obtain ⟨O1, B1, J1, w1, w2, w3⟩ := kid 0 h0 O B P (J ++ [.box (exC t)]) hO hB
      refine ⟨O1, B1, J1, ?_, w2.congr fun s => ?_, w3⟩
      · rw [hb0] at w1
        rw [eq_tree_scope_look]
        have d0 : dIdx 16 (.list 16 (t.kids.map Ex.enc)) (.int .i64 0) = some t.kids[0].enc := dIdx_map h0
        simp only [isAggN_Ex, og_true', exC_of, sgS_app, sgS_len, sgE, ob_some', exC0, exC3, exC15, k9, dBin_eql, decide_true, oif_bool, if_true, show decide ((9 : Int) = 1) = false from rfl, Bool.false_eq_true, if_false, d0, ee, isCell_str, n1, w1]
        simp only [List.append_assoc, List.cons_append, List.nil_append]
      · have e : t.kids = [t.kids[0]] := by
          apply List.ext_getElem
          · simpa using hlen
          · intro i h1 h2
            have : i = 0 := by simp at h2; omega
            subst this; rfl
        have e2 : t.fr L = t.kids[0].fr (L ++ t.binds 0) := by
          rw [Ex.fr_eq t L, if_neg (fun h => k1 h.1), List.nil_append]
          conv => lhs; rw [e]
          rw [Ex.frL_cons, Ex.frL_nil, List.append_nil]
        rw [e2]
    -- two kids
    have two : ∀ (l0 l1 : List ByteArray), t.kids.length = 2 → t.binds 0 = l0 → t.binds 1 = l1 → ∃ (h0 : 0 < t.kids.length) (h1 : 1 < t.kids.length) (O1 B1 : List (DV × DV)) (J1 : List SObj) (O2 B2 : List (DV × DV)) (J2 : List SObj),
        (run cfg).r F_tree_scope_with [(.undef, .ptr 2 0), (t.kids[0].enc, .val), (encStrs l0, .val)] (sgS B O (J ++ [.box (exC t)])) = some ([], sgS B1 O1 (J ++ [.box (exC t)] ++ J1)) ∧
        (run cfg).r F_tree_scope_with [(.undef, .ptr 2 0), (t.kids[1].enc, .val), (encStrs l1, .val)] (sgS B1 O1 (J ++ [.box (exC t)] ++ J1)) = some ([], sgS B2 O2 (J ++ .box (exC t) :: (J1 ++ J2))) ∧
        KeysAre O2 (fun s => P s ∨ s ∈ t.fr L) ∧ CntS B2 (cn L) := by
      intro l0 l1 hlen e0 e1
      have h0 : 0 < t.kids.length := by omega
      have h1 : 1 < t.kids.length := by omega
      obtain ⟨O1, B1, J1, w1, w2, w3⟩ := kid 0 h0 O B P (J ++ [.box (exC t)]) hO hB
      obtain ⟨O2, B2, J2, x1, x2, x3⟩ := kid 1 h1 O1 B1 _ (J ++ [.box (exC t)] ++ J1) w2 w3
      rw [e0] at w1
      rw [e1] at x1
      refine ⟨h0, h1, O1, B1, J1, O2, B2, J2, w1, ?_, x2.congr fun s => ?_, x3⟩
      · rw [x1]
        simp only [List.append_assoc, List.cons_append, List.nil_append]
      · have e : t.kids = [t.kids[0], t.kids[1]] := by
          apply List.ext_getElem
          · simpa using hlen
          · intro i h1 h2
            simp at h2
            match i, h2 with
            | 0, _ => rfl
            | 1, _ => rfl
        rw [fr2 s _ _ e k1]
        exact or_assoc
    have g3 : ∀ (B O : List (DV × DV)) (K : List SObj), sgBox (sgS B O (J ++ [.box (exC t)] ++ K)) (J.length + 3) = some (exC t) := fun B O K => sgS_boxK B O J K _
    by_cases k11 : t.kind = 11
    · have hlen : t.kids.length = 2 := by rw [k11] at hks; simp [eKids] at hks; omega
      obtain ⟨h0, h1, O1, B1, J1, O2, B2, J2, w1, w2, w3, w4⟩ := two [] [t.name] hlen (by unfold Ex.binds; rw [if_neg (by omega), if_neg (by omega), if_neg (by omega)]) (by unfold Ex.binds; rw [if_pos (.inr (.inl ⟨k11, rfl⟩))])
      refine ⟨O2, B2, J1 ++ J2, ?_, w3, w4⟩
      rw [eq_tree_scope_look]
      have d0 : dIdx 16 (.list 16 (t.kids.map Ex.enc)) (.int .i64 0) = some t.kids[0].enc := dIdx_map h0
      have d1 : dIdx 16 (.list 16 (t.kids.map Ex.enc)) (.int .i64 1) = some t.kids[1].enc := dIdx_map h1
      simp only [isAggN_Ex, og_true', exC_of, sgS_app, sgS_len, sgE, ob_some', exC0, exC3, exC15, k11, dBin_eql, oif_bool, show decide ((11 : Int) = 1) = false from rfl, show decide ((11 : Int) = 9) = false from rfl, decide_true, if_true, Bool.false_eq_true, if_false, d0, d1, ee, encStrs_nil, w1, g3, isCell_str, n1, w2]
    by_cases k12 : t.kind = 12
    · have hlen : t.kids.length = 2 := by rw [k12] at hks; simp [eKids] at hks; omega
      obtain ⟨h0, h1, O1, B1, J1, O2, B2, J2, w1, w2, w3, w4⟩ := two [t.name, t.arg] [t.name] hlen (by unfold Ex.binds; rw [if_neg (by omega), if_pos k12]) (by unfold Ex.binds; rw [if_pos (.inr (.inr ⟨k12, rfl⟩))])
      refine ⟨O2, B2, J1 ++ J2, ?_, w3, w4⟩
      rw [eq_tree_scope_look]
      have d0 : dIdx 16 (.list 16 (t.kids.map Ex.enc)) (.int .i64 0) = some t.kids[0].enc := dIdx_map h0
      have d1 : dIdx 16 (.list 16 (t.kids.map Ex.enc)) (.int .i64 1) = some t.kids[1].enc := dIdx_map h1
      simp only [isAggN_Ex, og_true', exC_of, sgS_app, sgS_len, sgE, ob_some', exC0, exC3, exC4, exC15, k12, dBin_eql, oif_bool, show decide ((12 : Int) = 1) = false from rfl, show decide ((12 : Int) = 9) = false from rfl, show decide ((12 : Int) = 11) = false from rfl, decide_true, if_true, Bool.false_eq_true, if_false, d0, d1, ee, n2, w1, g3, isCell_str, n1, w2]
    by_cases k14 : t.kind = 14
    · have hlen := Ex.kids14 rt k14
      have h0 : 0 < t.kids.length := by omega
      have hb0 : t.binds 0 = [] := by unfold Ex.binds; rw [if_neg (by omega), if_neg (by omega), if_neg (by omega)]
      obtain ⟨O1, B1, J1, w1, w2, w3⟩ := kid 0 h0 O B P (J ++ [.box (exC t)]) hO hB
      obtain ⟨O2, B2, J2, x1, x2, x3⟩ := l21 k14 t.pats.length 0 O1 B1 _ J1 (by omega) w2 w3
      refine ⟨O2, B2, J2, ?_, x2.congr fun s => ?_, x3⟩
      · rw [hb0, ← encStrs_nil] at w1
        rw [eq_tree_scope_look]
        have d0 : dIdx 16 (.list 16 (t.kids.map Ex.enc)) (.int .i64 0) = some t.kids[0].enc := dIdx_map h0
        simp only [isAggN_Ex, og_true', exC_of, sgS_app, sgS_len, sgE, ob_some', exC0, exC14, exC15, k14, dBin_eql, oif_bool, show decide ((14 : Int) = 1) = false from rfl, show decide ((14 : Int) = 9) = false from rfl, show decide ((14 : Int) = 11) = false from rfl, show decide ((14 : Int) = 12) = false from rfl, decide_true, if_true, Bool.false_eq_true, if_false, d0, ee, w1, g3, dLen_list, List.length_map]
        have e : J ++ [.box (exC t)] ++ J1 = J ++ .box (exC t) :: J1 := by simp
        rw [e]
        exact x1
      · have e : t.kids[0] :: t.kids.drop (0 + 1) = t.kids := by rw [← List.drop_eq_getElem_cons h0, List.drop_zero]
        have e2 : t.fr L = t.kids[0].fr (L ++ t.binds 0) ++ Ex.frL t.binds (0 + 1) (t.kids.drop (0 + 1)) L := by
          rw [Ex.fr_eq t L, if_neg (fun h => k1 h.1), List.nil_append]
          conv => lhs; rw [← e]
          rw [Ex.frL_cons]
        rw [e2, List.mem_append, or_assoc]
    · have hb : ∀ j, t.binds j = [] := fun j => by unfold Ex.binds; rw [if_neg (by omega), if_neg k12, if_neg (by omega)]
      obtain ⟨O2, B2, J2, x1, x2, x3⟩ := l3 hb t.kids.length 0 O B P (J ++ [.box (exC t)]) (by omega) hO hB
      refine ⟨O2, B2, J2, ?_, x2.congr fun s => ?_, x3⟩
      · rw [eq_tree_scope_look]
        simp only [isAggN_Ex, og_true', exC_of, sgS_app, sgS_len, sgE, ob_some', exC0, exC15, dBin_eql, oif_bool, k1, k9, k11, k12, k14, decide_false, Bool.false_eq_true, if_false, dLen_list, List.length_map]
        have e : J ++ [.box (exC t)] ++ J2 = J ++ .box (exC t) :: J2 := by simp
        rw [← e]
        exact x1
      · rw [Ex.fr_eq t L, if_neg (fun h => k1 h.1), List.nil_append, List.drop_zero]

theorem sp_tree_Free (t : Ex) (ft : t.fit) (hm : 2 * t.mass ≤ lim) : (run cfg).p F_tree_Free [t.enc] = some (encStrs (if t.right = true then t.free else [])) := by
  refine call_tree_Free _ ?_
  rw [eq_tree_Free]
  cases rt : t.right
  · simp [Ex.eta, sp_tree_Check t ft, rt, encStrs_nil]
  · obtain ⟨O', B', J', h1, h2, -⟩ := sp_scope_look t ft rt [] (by simpa using hm) [] [] _ [] KeysAre.nil (fun v => rfl)
    have h3 : KeysAre O' fun s => s ∈ t.free := h2.congr fun s => by rw [Ex.mem_free]; simp
    obtain ⟨h4, h5⟩ := sortKeys_rises h3 t.free_rises
    have hlen : O'.length ≤ lim := by
      have := t.free_len
      have := t.size_mass
      omega
    have h1' : (run cfg).r F_tree_scope_look [(.undef, .ptr 2 0), (t.enc, .val)] [.map true [], .map true [], .box [(.undef, .map 0), (.undef, .map 1)]] = some ([], sgS B' O' J') := h1
    simp [Ex.eta, sp_tree_Check t ft, rt, h1', sgS_two, cm1, sgS_map1, hlen, h4]

/-- No expression. -/
def zeroEx : Ex := .mk 0 0 0 nil8 nil8 0 nil8 0 noTy noTy [] []

theorem zeroEx_agg : DV.agg [.int .i64 0, .int .i64 0, .int .i64 0, .str ⟨#[]⟩, .str ⟨#[]⟩, .int .i64 0, .str ⟨#[]⟩, .int .i64 0, .int .i64 0, .int .i64 0, .list 3 [], .int .i64 0, .int .i64 0, .list 3 [], .list 7 [], .list 16 []] = zeroEx.enc := by
  rw [Ex.enc_eq]; rfl

theorem sp_l05_countType (t : Ty) : t.thin = true → ∀ n : Int, 0 ≤ n → n ≤ 401 → ∃ m : Int, (run cfg).p F_l05_countType [t.enc, .int .i64 n] = some (.int .i64 m) ∧ n ≤ m ∧ m ≤ 401 := by
  induction t using Ty.ind with
  | h t ih =>
    intro ht n h0 h1
    have hb := t.thin_len ht
    have loop : ∀ (k j : Nat) (n : Int), j + k = t.kids.length → 0 ≤ n → n ≤ 401 → ∃ m : Int, P_l05_countType_2h (run cfg) (.int .i64 n) (.int .i64 j) t.enc = some (.int .i64 m) ∧ n ≤ m ∧ m ≤ 401 := by
      intro k
      induction k with
      | zero =>
        intro j n hj h0 h1
        refine ⟨n, ?_, Int.le_refl _, h1⟩
        have : ¬ j < t.kids.length := by omega
        rw [eq_l05_countType_2h]
        simp [this]
      | succ k ihk =>
        intro j n hj h0 h1
        have hj' : j < t.kids.length := by omega
        rw [eq_l05_countType_2h]
        by_cases hn : n ≤ 400
        · have hadd : dBin .add (.int .i64 n) (.int .i64 1) = some (.int .i64 (n + 1)) := dAdd (by omega) (by omega)
          obtain ⟨m, a1, a2, a3⟩ := ih _ (List.getElem_mem hj') (Ty.thin_kid ht (List.getElem_mem hj')) (n + 1) (by omega) (by omega)
          obtain ⟨m', b1, b2, b3⟩ := ihk (j + 1) m (by omega) (by omega) a3
          push_cast at b1
          exact ⟨m', by simp [hj', hn, hadd, dIdx_map hj', Ty.eta, a1, dAdd1 (show j < 9223372036854775807 by omega), b1], by omega, b3⟩
        · exact ⟨n, by simp [hj', hn], Int.le_refl _, h1⟩
    obtain ⟨m, a1, a2, a3⟩ := loop t.kids.length 0 n (by omega) h0 h1
    refine ⟨m, call_l05_countType _ _ ?_, a2, a3⟩
    rw [eq_l05_countType]
    simp
    exact a1

theorem sp_l05_countPat (p : Pat) : p.thin = true → ∀ n : Int, 0 ≤ n → n ≤ 401 → ∃ m : Int, (run cfg).p F_l05_countPat [p.enc, .int .i64 n] = some (.int .i64 m) ∧ n ≤ m ∧ m ≤ 401 := by
  induction p using Pat.ind with
  | h p ih =>
    intro ht n h0 h1
    have hb := p.thin_len ht
    have loop : ∀ (k j : Nat) (n : Int), j + k = p.kids.length → 0 ≤ n → n ≤ 401 → ∃ m : Int, P_l05_countPat_4h (run cfg) (.int .i64 n) (.int .i64 j) p.enc = some (.int .i64 m) ∧ n ≤ m ∧ m ≤ 401 := by
      intro k
      induction k with
      | zero =>
        intro j n hj h0 h1
        refine ⟨n, ?_, Int.le_refl _, h1⟩
        have : ¬ j < p.kids.length := by omega
        rw [eq_l05_countPat_4h]
        simp [this]
      | succ k ihk =>
        intro j n hj h0 h1
        have hj' : j < p.kids.length := by omega
        rw [eq_l05_countPat_4h]
        by_cases hn : n ≤ 400
        · have hadd : dBin .add (.int .i64 n) (.int .i64 1) = some (.int .i64 (n + 1)) := dAdd (by omega) (by omega)
          obtain ⟨m, a1, a2, a3⟩ := ih _ (List.getElem_mem hj') (Pat.thin_kid ht (List.getElem_mem hj')) (n + 1) (by omega) (by omega)
          obtain ⟨m', b1, b2, b3⟩ := ihk (j + 1) m (by omega) (by omega) a3
          push_cast at b1
          exact ⟨m', by simp [hj', hn, hadd, dIdx_map hj', Pat.eta, a1, dAdd1 (show j < 9223372036854775807 by omega), b1], by omega, b3⟩
        · exact ⟨n, by simp [hj', hn], Int.le_refl _, h1⟩
    by_cases c1 : (300 : Int) < (p.s.size : Int)
    · refine ⟨401, call_l05_countPat _ _ ?_, h1, by omega⟩
      rw [eq_l05_countPat]
      simp [c1]
    by_cases c2 : (300 : Int) < (p.name.size : Int)
    · refine ⟨401, call_l05_countPat _ _ ?_, h1, by omega⟩
      rw [eq_l05_countPat]
      simp [c1, c2]
    obtain ⟨m, a1, a2, a3⟩ := loop p.kids.length 0 n (by omega) h0 h1
    refine ⟨m, call_l05_countPat _ _ ?_, a2, a3⟩
    rw [eq_l05_countPat]
    simp [c1, c2]
    exact a1

theorem sp_l05_count (t : Ex) : t.fit → ∀ n : Int, 0 ≤ n → n ≤ 401 → ∃ m : Int, (run cfg).p F_l05_count [t.enc, .int .i64 n] = some (.int .i64 m) ∧ 0 ≤ m ∧ m ≤ 402 ∧ (n = 401 → 401 ≤ m) ∧ (m ≤ 400 → n + t.size ≤ m) := by
  induction t using Ex.ind with
  | h t ih =>
    intro ht n h0 h1
    have hk := big (Nat.le_of_lt ht.one.kids)
    have hp := big (Nat.le_of_lt ht.one.pats)
    have e12 : ∀ m : Int, 0 ≤ m → m ≤ 402 → ∃ m' : Int, P_l05_count_12 (run cfg) (.int .i64 m) t.enc = some (.int .i64 m') ∧ 0 ≤ m' ∧ m' ≤ 402 ∧ (m' = m ∨ m' = 401) := by
      intro m hm hm2
      rw [eq_l05_count_12]
      by_cases c1 : (300 : Int) < (t.s.size : Int)
      · exact ⟨401, by simp [c1], by omega, by omega, .inr rfl⟩
      by_cases c2 : (300 : Int) < (t.name.size : Int)
      · exact ⟨401, by simp [c1, c2], by omega, by omega, .inr rfl⟩
      by_cases c3 : (300 : Int) < (t.arg.size : Int)
      · exact ⟨401, by simp [c1, c2, c3], by omega, by omega, .inr rfl⟩
      · exact ⟨m, by simp [c1, c2, c3], hm, hm2, .inl rfl⟩
    have l9 : ∀ (k j : Nat) (n : Int), j + k = t.kids.length → 0 ≤ n → n ≤ 402 → ∃ m : Int, P_l05_count_9h (run cfg) (.int .i64 n) (.int .i64 j) t.enc = some (.int .i64 m) ∧ 0 ≤ m ∧ m ≤ 402 ∧ (401 ≤ n → 401 ≤ m) ∧ (m ≤ 400 → n + (((t.kids.drop j).map Ex.size).sum : Nat) ≤ m) := by
      intro k
      induction k with
      | zero =>
        intro j n hj h0 h1
        obtain ⟨m, a1, a2, a3, a4⟩ := e12 n h0 h1
        have : ¬ j < t.kids.length := by omega
        refine ⟨m, by rw [eq_l05_count_9h]; simp [this, a1], a2, a3, fun _ => by omega, fun hm => ?_⟩
        rw [List.drop_of_length_le (by omega)]
        simp
        omega
      | succ k ihk =>
        intro j n hj h0 h1
        have hj' : j < t.kids.length := by omega
        by_cases hn : n ≤ 400
        · obtain ⟨m, a1, a2, a3, a4, a5⟩ := ih _ (List.getElem_mem hj') (ht.kid (List.getElem_mem hj')) n h0 (by omega)
          obtain ⟨m', b1, b2, b3, b4, b5⟩ := ihk (j + 1) m (by omega) a2 a3
          push_cast at b1
          refine ⟨m', by rw [eq_l05_count_9h]; simp [hj', hn, dIdx_map hj', Ex.eta, a1, dAdd1 (show j < 9223372036854775807 by omega), b1], b2, b3, fun h => absurd h (by omega), fun hm => ?_⟩
          have g1 := b5 hm
          have g2 : m ≤ 400 := by
            by_cases h : m ≤ 400
            · exact h
            · have := b4 (by omega); omega
          have g3 := a5 g2
          rw [List.drop_eq_getElem_cons hj', List.map_cons, List.sum_cons]
          push_cast
          omega
        · obtain ⟨m, a1, a2, a3, a4⟩ := e12 n h0 h1
          exact ⟨m, by rw [eq_l05_count_9h]; simp [hj', hn, a1], a2, a3, fun _ => by omega, fun hm => absurd hm (by omega)⟩
    have e8 : ∀ n : Int, 0 ≤ n → n ≤ 402 → ∃ m : Int, P_l05_count_8 (run cfg) (.int .i64 n) t.enc = some (.int .i64 m) ∧ 0 ≤ m ∧ m ≤ 402 ∧ (401 ≤ n → 401 ≤ m) ∧ (m ≤ 400 → n + ((t.kids.map Ex.size).sum : Nat) ≤ m) := by
      intro n h0 h1
      obtain ⟨m, a1, a2, a3, a4, a5⟩ := l9 t.kids.length 0 n (by omega) h0 h1
      exact ⟨m, by rw [eq_l05_count_8]; simpa using a1, a2, a3, a4, by simpa using a5⟩
    have l5 : ∀ (k j : Nat) (n : Int), j + k = t.pats.length → 0 ≤ n → n ≤ 402 → ∃ m : Int, P_l05_count_5h (run cfg) (.int .i64 n) (.int .i64 j) t.enc = some (.int .i64 m) ∧ 0 ≤ m ∧ m ≤ 402 ∧ (401 ≤ n → 401 ≤ m) ∧ (m ≤ 400 → n + ((t.kids.map Ex.size).sum : Nat) ≤ m) := by
      intro k
      induction k with
      | zero =>
        intro j n hj h0 h1
        obtain ⟨m, a1, a2, a3, a4, a5⟩ := e8 n h0 h1
        have : ¬ j < t.pats.length := by omega
        exact ⟨m, by rw [eq_l05_count_5h]; simp [this, a1], a2, a3, a4, a5⟩
      | succ k ihk =>
        intro j n hj h0 h1
        have hj' : j < t.pats.length := by omega
        by_cases hn : n ≤ 400
        · obtain ⟨m, a1, a2, a3⟩ := sp_l05_countPat _ (Pat.fit_thin (ht.one.pat _ (List.getElem_mem hj'))) n h0 (by omega)
          obtain ⟨m', b1, b2, b3, b4, b5⟩ := ihk (j + 1) m (by omega) (by omega) (by omega)
          push_cast at b1
          refine ⟨m', by rw [eq_l05_count_5h]; simp [hj', hn, dIdx_map hj', Pat.eta, a1, dAdd1 (show j < 9223372036854775807 by omega), b1], b2, b3, fun h => absurd h (by omega), fun hm => ?_⟩
          have := b5 hm
          omega
        · obtain ⟨m, a1, a2, a3, a4, a5⟩ := e8 n h0 h1
          exact ⟨m, by rw [eq_l05_count_5h]; simp [hj', hn, a1], a2, a3, a4, a5⟩
    have hadd : dBin .add (.int .i64 n) (.int .i64 1) = some (.int .i64 (n + 1)) := dAdd (by omega) (by omega)
    by_cases hn1 : n + 1 ≤ 401
    · obtain ⟨ma, a1, a2, a3⟩ := sp_l05_countType _ ht.one.a (n + 1) (by omega) hn1
      obtain ⟨mb, b1, b2, b3⟩ := sp_l05_countType _ ht.one.b ma (by omega) a3
      obtain ⟨m, c1, c2, c3, c4, c5⟩ := l5 t.pats.length 0 mb (by omega) (by omega) (by omega)
      refine ⟨m, call_l05_count _ _ ?_, c2, c3, fun h => absurd h (by omega), fun hm => ?_⟩
      · rw [eq_l05_count]
        simp [hadd, Ty.eta, a1, b1]
        exact c1
      · have := c5 hm
        have := t.size_eq
        push_cast at *
        omega
    · -- more than enough
      have hn : n = 401 := by omega
      subst hn
      have big402 : ∀ y : Ty, (run cfg).p F_l05_countType [y.enc, .int .i64 402] = some (.int .i64 402) := by
        intro y
        refine call_l05_countType _ _ ?_
        rw [eq_l05_countType]
        simp
        rw [eq_l05_countType_2h]
        by_cases h : 0 < y.kids.length <;> simp [h]
      obtain ⟨m, c1, c2, c3, c4, c5⟩ := l5 t.pats.length 0 402 (by omega) (by omega) (by omega)
      refine ⟨m, call_l05_count _ _ ?_, c2, c3, fun _ => c4 (by omega), fun hm => absurd (c4 (by omega)) (by omega)⟩
      rw [eq_l05_count]
      simp [hadd, Ty.eta, big402]
      exact c1

theorem sp_l05_count_more (t : Ex) (ht : t.fit) (n : Int) (h0 : 401 ≤ n) (h1 : n ≤ 1000000) : ∃ m : Int, (run cfg).p F_l05_count [t.enc, .int .i64 n] = some (.int .i64 m) ∧ 401 ≤ m ∧ m ≤ n + 1 := by
  have hk := big (Nat.le_of_lt ht.one.kids)
  have hp := big (Nat.le_of_lt ht.one.pats)
  have hn : ¬ n + 1 ≤ 400 := by omega
  have e12 : ∃ m : Int, P_l05_count_12 (run cfg) (.int .i64 (n + 1)) t.enc = some (.int .i64 m) ∧ 401 ≤ m ∧ m ≤ n + 1 := by
    rw [eq_l05_count_12]
    by_cases c1 : (300 : Int) < (t.s.size : Int)
    · exact ⟨401, by simp [c1], by omega, by omega⟩
    by_cases c2 : (300 : Int) < (t.name.size : Int)
    · exact ⟨401, by simp [c1, c2], by omega, by omega⟩
    by_cases c3 : (300 : Int) < (t.arg.size : Int)
    · exact ⟨401, by simp [c1, c2, c3], by omega, by omega⟩
    · exact ⟨n + 1, by simp [c1, c2, c3], by omega, by omega⟩
  obtain ⟨m, a1, a2, a3⟩ := e12
  have e9 : P_l05_count_9h (run cfg) (.int .i64 (n + 1)) (.int .i64 0) t.enc = some (.int .i64 m) := by
    rw [eq_l05_count_9h]
    by_cases h : 0 < t.kids.length <;> simp [h, hn, a1]
  have e8 : P_l05_count_8 (run cfg) (.int .i64 (n + 1)) t.enc = some (.int .i64 m) := by
    rw [eq_l05_count_8]
    exact e9
  have e5 : P_l05_count_5h (run cfg) (.int .i64 (n + 1)) (.int .i64 0) t.enc = some (.int .i64 m) := by
    rw [eq_l05_count_5h]
    by_cases h : 0 < t.pats.length <;> simp [h, hn, e8]
  have big402 : ∀ y : Ty, (run cfg).p F_l05_countType [y.enc, .int .i64 (n + 1)] = some (.int .i64 (n + 1)) := by
    intro y
    refine call_l05_countType _ _ ?_
    rw [eq_l05_countType]
    simp
    rw [eq_l05_countType_2h]
    by_cases h : 0 < y.kids.length <;> simp [h, hn]
  have hadd : dBin .add (.int .i64 n) (.int .i64 1) = some (.int .i64 (n + 1)) := dAdd (by omega) (by omega)
  refine ⟨m, call_l05_count _ _ ?_, a2, a3⟩
  rw [eq_l05_count]
  simp [hadd, Ty.eta, big402]
  exact e5

theorem sp_l05_Heavy (l : List Ex) (hl : l.length ≤ 16) (ft : ∀ t ∈ l, t.fit) : ∃ b : Bool, (run cfg).p F_l05_Heavy [.list 16 (l.map Ex.enc)] = some (.bool b) ∧ (b = false → (l.map Ex.size).sum ≤ 400) := by
  have loop : ∀ (k j : Nat) (n : Int), j + k = l.length → 0 ≤ n → n ≤ 500 + j → ∃ b : Bool, P_l05_Heavy_3h (run cfg) (.list 16 (l.map Ex.enc)) (.int .i64 n) (.int .i64 (j : Int)) = some (.bool b) ∧ (b = false → n + (((l.drop j).map Ex.size).sum : Nat) ≤ 400) := by
    intro k
    induction k with
    | zero =>
      intro j n hj h0 h1
      have : ¬ j < l.length := by omega
      refine ⟨decide (400 < n), ?_, fun h => ?_⟩
      · rw [eq_l05_Heavy_3h]
        simp [this]
      · rw [List.drop_of_length_le (by omega)]
        simp at h
        simp
        omega
    | succ k ih =>
      intro j n hj h0 h1
      have h : j < l.length := by omega
      obtain ⟨m, a1, a2, a3, a4⟩ : ∃ m : Int, (run cfg).p F_l05_count [l[j].enc, .int .i64 n] = some (.int .i64 m) ∧ 0 ≤ m ∧ m ≤ 500 + (j + 1 : Nat) ∧ (m ≤ 400 → n + l[j].size ≤ m) := by
        by_cases hn : n ≤ 400
        · obtain ⟨m, a1, a2, a3, a4, a5⟩ := sp_l05_count _ (ft _ (List.getElem_mem h)) n h0 (by omega)
          exact ⟨m, a1, a2, by omega, a5⟩
        · obtain ⟨m, a1, a2, a3⟩ := sp_l05_count_more _ (ft _ (List.getElem_mem h)) n (by omega) (by omega)
          exact ⟨m, a1, by omega, by omega, fun h => absurd h (by omega)⟩
      obtain ⟨b, hb, hb2⟩ := ih (j + 1) m (by omega) a2 a3
      push_cast at hb
      refine ⟨b, ?_, fun hf => ?_⟩
      · rw [eq_l05_Heavy_3h]
        simp [h, dIdx_map h, Ex.eta, a1, dAdd1 (show j < 9223372036854775807 by omega), hb]
      · have g1 := hb2 hf
        rw [List.drop_eq_getElem_cons h, List.map_cons, List.sum_cons]
        have g2 := a4 (by omega)
        push_cast
        omega
  obtain ⟨b, hb, hb2⟩ := loop l.length 0 0 (by omega) (by omega) (by omega)
  refine ⟨b, call_l05_Heavy _ ?_, fun h => ?_⟩
  · rw [eq_l05_Heavy]
    simpa using hb
  · have := hb2 h
    simp at this
    omega

def nameEx (s : ByteArray) : Ex := .mk 1 0 0 s nil8 0 nil8 0 (.mk 0 0 []) (.mk 0 0 []) [] []

theorem ex_none : (Ty.mk 0 0 []).none = true := by simp [Ty.none]

theorem nameEx_right {s : ByteArray} (h : nameB s = true) : (nameEx s).right = true := by
  rw [Ex.right_eq]
  simp [nameEx, Ex.one, Ex.one1, Ex.one2, Ex.one3, Ex.one4, Ex.one5, Ex.one6, Ex.one7, Ex.one8, eOk, eKids, eName, eArg, eN, eS, eOp, eA, eB, eMust, noteB, namedB, nil8_size, ex_none, h]

theorem dMax_nat (a b : Nat) : dMax (.int .i64 (a : Int)) (.int .i64 (b : Int)) = some (.int .i64 ((max a b : Nat) : Int)) := by
  simp only [dMax, if_true, Option.some.injEq, DV.int.injEq, true_and]
  split <;> omega

theorem dAddi {i : Nat} (h : i < 9223372036854775807) : dBin .add (.int .i64 (i : Int)) (.int .i64 1) = some (.int .i64 ((i : Int) + 1)) := by
  rw [dAdd1 h]
  rfl

theorem exx (k : Ex) : (DV.agg [proj 0 k.enc, proj 1 k.enc, proj 2 k.enc, proj 3 k.enc, proj 4 k.enc, proj 5 k.enc, proj 6 k.enc, proj 7 k.enc, proj 8 k.enc, proj 9 k.enc, proj 10 k.enc, proj 11 k.enc, proj 12 k.enc, proj 13 k.enc, proj 14 k.enc, proj 15 k.enc]) = k.enc := by simp [Ex.eta]

theorem pax (k : Pat) : (DV.agg [proj 0 k.enc, proj 1 k.enc, proj 2 k.enc, proj 3 k.enc, proj 4 k.enc, proj 5 k.enc, proj 6 k.enc]) = k.enc := by simp [Pat.eta]

theorem tyx (k : Ty) : (DV.agg [proj 0 k.enc, proj 1 k.enc, proj 2 k.enc]) = k.enc := by simp [Ty.eta]

theorem ts_rounds (t0 t4 : DV) (a c : SObj) : ∀ (ps : List Ex) (n : Nat), n + ps.length ≤ lim →
    I_tree_Size_r0 (run cfg) t0 t4 (ps.map Ex.enc) (tcSg a c n) = some (.int .i64 ((n + ps.length : Nat) : Int))
  | [], n, _ => by
    rw [List.map_nil, I_tree_Size_r0_nil, eq_X_tree_Size_r0_normal]
    rfl
  | q :: ps, n, h => by
    rw [List.map_cons, I_tree_Size_r0_cons, eq_B_tree_Size_r0]
    have hb := big h
    have ih := ts_rounds t0 t4 a c ps (n + 1) (by simp only [List.length_cons] at h; omega)
    have sg1 : sgBox (tcSg a c n) 1 = some [(.int .i64 n, .val)] := rfl
    have cd : cellDat [((.int .i64 (n : Int) : DV), Meta.val)] 0 = some (.int .i64 n) := rfl
    have e1 : dBin .add (.int .i64 (n : Int)) (.int .i64 1) = some (.int .i64 ((n + 1 : Nat) : Int)) := dAdd1 (by omega)
    have g0 : [((.int .i64 (n : Int) : DV), Meta.val)][0]? = some (.int .i64 n, .val) := rfl
    simp only [sg1, ob_some', cd, e1, isCell_int, og_true', g0]
    refine Eq.trans ih ?_
    simp only [List.length_cons]
    congr 3
    omega

theorem sp_tree_Size (t : Ex) (ht : t.fit) (hm : t.mass ≤ lim) : (run cfg).p F_tree_Size [t.enc] = some (.int .i64 t.size) := by
  refine call_tree_Size _ ?_
  rw [eq_tree_Size]
  simp only [isAggN_Ex, og_true', Ex.proj0, Ex.proj1, Ex.proj2, Ex.proj3, Ex.proj4, Ex.proj5, Ex.proj6, Ex.proj7, Ex.proj8, Ex.proj9, Ex.proj10, Ex.proj11, Ex.proj12, Ex.proj13, Ex.proj14, Ex.proj15, Ex.eta]
  rw [eq_tree_Size_r0]
  obtain ⟨n, hn⟩ := flat_Ex t ht
  rw [Ex.enc_eq] at hn
  simp only [sgBox, List.getElem?_cons_succ, List.getElem?_cons_zero, ob_some', allDat, og_true', flatD_of hn]
  have := ts_rounds t.enc (.agg [.int .i64 t.kind, .int .i64 t.lo, .int .i64 t.hi, .str t.name, .str t.arg, .int .i64 t.n, .str t.s, .int .i64 t.op, .int .i64 t.a.kind, .int .i64 t.a.n, .list 3 (t.a.kids.map Ty.enc), .int .i64 t.b.kind, .int .i64 t.b.n, .list 3 (t.b.kids.map Ty.enc), .list 7 (t.pats.map Pat.enc), .list 16 (t.kids.map Ex.enc)]) (.box (exC t)) (.arr 1 []) t.subs 0 (by rw [t.subs_len]; have := t.size_mass; omega)
  rw [t.subs_len, Nat.zero_add, Ex.eta] at this
  exact this

theorem sp_typ_Depth (t : Ty) : t.thin = true → t.size ≤ lim → (run cfg).p F_typ_Depth [t.enc] = some (.int .i64 t.depth) := by
  induction t using Ty.ind with
  | h t ih =>
    intro ht hs
    have hb := t.thin_len ht
    have hB := big hs
    refine call_typ_Depth _ ?_
    rw [eq_typ_Depth]
    have loop := loop_fold (l := t.kids) (P := fun i (a : Nat) => P_typ_Depth_3h (run cfg) (.int .i64 a) (.list 3 (t.kids.map Ty.enc)) (.int .i64 t.kids.length) (.int .i64 i)) (g := fun a k => max a k.depth) (fin := fun a => some (.int .i64 ((a + 1 : Nat) : Int)))
      (I := fun i a => a ≤ lim)
      (fun a ha => by
        have := big ha
        rw [eq_typ_Depth_3h]
        simp [dAdd1 (show a < 9223372036854775807 by omega)])
      (fun i h a ha => by
        have h1 := t.kids[i].depth_size
        have h2 := Ty.size_kid (List.getElem_mem h)
        refine ⟨?_, Nat.max_le.2 ⟨ha, by omega⟩⟩
        rw [eq_typ_Depth_3h]
        simp only [dBin_lss, Int.ofNat_lt, h, decide_true, ob_some', oif_bool, if_true, dIdx_map h, tyx, ih _ (List.getElem_mem h) (Ty.thin_kid ht (List.getElem_mem h)) (by omega), dMax_nat, dAddi (show i < 9223372036854775807 by omega)]) 0 (Nat.zero_le _)
    rw [Ty.depth_eq]
    simpa [most] using loop

theorem sp_tree_depthPat (t : Pat) : t.size ≤ lim → (run cfg).p F_tree_depthPat [t.enc] = some (.int .i64 t.depth) := by
  induction t using Pat.ind with
  | h t ih =>
    intro hs
    have hb := t.len_lt
    have hB := big hs
    refine call_tree_depthPat _ ?_
    rw [eq_tree_depthPat]
    have loop := loop_fold (l := t.kids) (P := fun i (a : Nat) => P_tree_depthPat_3h (run cfg) (.int .i64 a) (.list 7 (t.kids.map Pat.enc)) (.int .i64 t.kids.length) (.int .i64 i)) (g := fun a k => max a k.depth) (fin := fun a => some (.int .i64 ((a + 1 : Nat) : Int)))
      (I := fun i a => a ≤ lim)
      (fun a ha => by
        have := big ha
        rw [eq_tree_depthPat_3h]
        simp [dAdd1 (show a < 9223372036854775807 by omega)])
      (fun i h a ha => by
        have h1 := t.kids[i].depth_size
        have h2 := Pat.size_kid (List.getElem_mem h)
        refine ⟨?_, Nat.max_le.2 ⟨ha, by omega⟩⟩
        rw [eq_tree_depthPat_3h]
        simp only [dBin_lss, Int.ofNat_lt, h, decide_true, ob_some', oif_bool, if_true, dIdx_map h, pax, ih _ (List.getElem_mem h) (by omega), dMax_nat, dAddi (show i < 9223372036854775807 by omega)]) 0 (Nat.zero_le _)
    rw [Pat.depth_eq]
    simpa [most] using loop

theorem sp_tree_Depth (t : Ex) : t.fit → t.mass ≤ lim → (run cfg).p F_tree_Depth [t.enc] = some (.int .i64 t.depth) := by
  induction t using Ex.ind with
  | h t ih =>
    intro ft hm
    have hk := big (Nat.le_of_lt ft.one.kids)
    have hp := big (Nat.le_of_lt ft.one.pats)
    have hB := big hm
    have dt := t.depth_mass
    rw [Ex.depth_eq] at dt
    have l13 : ∀ (n : Nat), t.b.dep (t.a.dep n) ≤ lim → P_tree_Depth_13h (run cfg) (.int .i64 n) (.list 3 [t.a.enc, t.b.enc]) (.int .i64 2) (.int .i64 0) = some (.int .i64 ((t.b.dep (t.a.dep n) + 1 : Nat) : Int)) := by
      intro n hn
      have g := big hn
      have d0 : dIdx 3 (.list 3 [t.a.enc, t.b.enc]) (.int .i64 0) = some t.a.enc := rfl
      have d1 : dIdx 3 (.list 3 [t.a.enc, t.b.enc]) (.int .i64 1) = some t.b.enc := rfl
      have a0 : dBin .add (.int .i64 0) (.int .i64 1) = some (.int .i64 1) := by rw [dAdd (by omega) (by omega)]; rfl
      have a1 : dBin .add (.int .i64 1) (.int .i64 1) = some (.int .i64 2) := by rw [dAdd (by omega) (by omega)]; rfl
      have da := sp_typ_Depth t.a ft.one.a (by have := t.mass_a; omega)
      have db := sp_typ_Depth t.b ft.one.b (by have := t.mass_b; omega)
      have s0 : ∀ n : Nat, P_tree_Depth_13h (run cfg) (.int .i64 n) (.list 3 [t.a.enc, t.b.enc]) (.int .i64 2) (.int .i64 0) = P_tree_Depth_13h (run cfg) (.int .i64 ((t.a.dep n : Nat) : Int)) (.list 3 [t.a.enc, t.b.enc]) (.int .i64 2) (.int .i64 1) := by
        intro n
        rw [eq_tree_Depth_13h]
        simp only [dBin_lss, Int.reduceLT, decide_true, ob_some', oif_bool, if_true, d0, tyx, sp_tree_none, dUn_not, a0, da, dMax_nat]
        unfold Ty.dep
        cases t.a.none <;> simp
      have s1 : ∀ n : Nat, P_tree_Depth_13h (run cfg) (.int .i64 n) (.list 3 [t.a.enc, t.b.enc]) (.int .i64 2) (.int .i64 1) = P_tree_Depth_13h (run cfg) (.int .i64 ((t.b.dep n : Nat) : Int)) (.list 3 [t.a.enc, t.b.enc]) (.int .i64 2) (.int .i64 2) := by
        intro n
        rw [eq_tree_Depth_13h]
        simp only [dBin_lss, Int.reduceLT, decide_true, ob_some', oif_bool, if_true, d1, tyx, sp_tree_none, dUn_not, a1, db, dMax_nat]
        unfold Ty.dep
        cases t.b.none <;> simp
      rw [s0, s1, eq_tree_Depth_13h]
      simp [dAdd1 (show t.b.dep (t.a.dep n) < 9223372036854775807 by omega)]
    have l8 := loop_fold (l := t.pats) (P := fun i (a : Nat) => P_tree_Depth_8h (run cfg) (.int .i64 a) (.list 7 (t.pats.map Pat.enc)) (.int .i64 t.pats.length) (.int .i64 i) t.enc) (g := fun a k => max a k.depth) (fin := fun a => some (.int .i64 ((t.b.dep (t.a.dep a) + 1 : Nat) : Int)))
      (I := fun i a => t.b.dep (t.a.dep (most Pat.depth (t.pats.drop i) a)) ≤ lim)
      (fun a ha => by
        rw [List.drop_length, most_nil] at ha
        rw [eq_tree_Depth_8h]
        simp [Ty.eta, l13 a ha])
      (fun i h a ha => by
        rw [List.drop_eq_getElem_cons h, most_cons] at ha
        refine ⟨?_, ha⟩
        rw [eq_tree_Depth_8h]
        have ps : t.pats[i].size ≤ lim := by
          have := t.pats[i].size_mass
          have := mem_sum (f := Pat.mass) (List.getElem_mem h)
          have := t.mass_pats
          omega
        simp only [dBin_lss, Int.ofNat_lt, h, decide_true, ob_some', oif_bool, if_true, dIdx_map h, pax, sp_tree_depthPat _ ps, dMax_nat, dAddi (show i < 9223372036854775807 by omega)])
    have l3 := loop_fold (l := t.kids) (P := fun i (a : Nat) => P_tree_Depth_3h (run cfg) (.int .i64 a) (.list 16 (t.kids.map Ex.enc)) (.int .i64 t.kids.length) (.int .i64 i) t.enc) (g := fun a k => max a k.depth) (fin := fun a => some (.int .i64 ((t.b.dep (t.a.dep (most Pat.depth t.pats a)) + 1 : Nat) : Int)))
      (I := fun i a => t.b.dep (t.a.dep (most Pat.depth t.pats (most Ex.depth (t.kids.drop i) a))) ≤ lim)
      (fun a ha => by
        rw [List.drop_length, most_nil] at ha
        rw [eq_tree_Depth_3h]
        have := l8 a ha
        simp at this
        simp [this, most])
      (fun i h a ha => by
        rw [List.drop_eq_getElem_cons h, most_cons] at ha
        refine ⟨?_, ha⟩
        rw [eq_tree_Depth_3h]
        simp only [dBin_lss, Int.ofNat_lt, h, decide_true, ob_some', oif_bool, if_true, dIdx_map h, exx, ih _ (List.getElem_mem h) (ft.kid (List.getElem_mem h)) (by have := Ex.mass_kid (List.getElem_mem h); omega), dMax_nat, dAddi (show i < 9223372036854775807 by omega)]) 0 (by rw [List.drop_zero]; omega)
    refine call_tree_Depth _ ?_
    rw [eq_tree_Depth, Ex.depth_eq]
    simp only [isAggN_Ex, og_true', Ex.proj15, dLen_list, List.length_map, ob_some']
    exact l3

theorem sp_eqfB_Pat (l m : List Pat) (hl : l.length ≤ lim) (ht : ∀ t ∈ l, ∀ u : Pat, (run cfg).p F_tree_samePat [t.enc, u.enc] = some (.bool (decide (t.bare = u.bare)))) (sg : List SObj) :
    (run cfg).r F_slices_EqualFunc__api_Pat__api_Pat_api_Pat_api_Pat [(.list 7 (l.map Pat.enc), .val), (.list 7 (m.map Pat.enc), .val), (.undef, .fn F_tree_samePat [])] sg = some ([.bool (decide (l.map Pat.bare = m.map Pat.bare))], sg) := by
  have hb := big hl
  refine call_slices_EqualFunc__api_Pat__api_Pat_api_Pat_api_Pat _ _ _ ?_
  rw [eq_slices_EqualFunc__api_Pat__api_Pat_api_Pat_api_Pat]
  by_cases h5 : l.length = m.length
  · have loop := loop_two (l := l.map Pat.bare) (m := m.map Pat.bare) (by simpa using h5) (P := fun i => P_slices_EqualFunc__api_Pat__api_Pat_api_Pat_api_Pat_4h (run cfg) (.list 7 (m.map Pat.enc)) (.list 7 (l.map Pat.enc)) (.int .i64 l.length) (.int .i64 i) sg) (y := ([.bool true], sg)) (n := ([.bool false], sg))
      (by rw [eq_slices_EqualFunc__api_Pat__api_Pat_api_Pat_api_Pat_4h]; simp)
      (fun i h => by
        have h : i < l.length := by simpa using h
        have h' : i < m.length := by omega
        rw [eq_slices_EqualFunc__api_Pat__api_Pat_api_Pat_api_Pat_4h]
        simp only [dBin_lss, Int.ofNat_lt, h, decide_true, ob_some', oif_bool, if_true, dIdx_map h, dIdx_map h', pax, ht _ (List.getElem_mem h), dUn_not, dAddi (show i < 9223372036854775807 by omega), List.getElem_map]
        by_cases e : l[i].bare = m[i].bare <;> simp [e])
    simp [h5] at loop ⊢
    simp only [← h5] at loop ⊢
    rw [loop]
    by_cases e : l.map Pat.bare = m.map Pat.bare <;> simp [e]
  · have : l.map Pat.bare ≠ m.map Pat.bare := fun h => h5 (by have := congrArg List.length h; simpa using this)
    simp [Int.ofNat_inj, h5, this]

theorem sp_eqfB_Ex (l m : List Ex) (hl : l.length ≤ lim) (ht : ∀ t ∈ l, ∀ u : Ex, (run cfg).p F_tree_Same [t.enc, u.enc] = some (.bool (decide (t.bare = u.bare)))) (sg : List SObj) :
    (run cfg).r F_slices_EqualFunc__api_Expr__api_Expr_api_Expr_api_Expr [(.list 16 (l.map Ex.enc), .val), (.list 16 (m.map Ex.enc), .val), (.undef, .fn F_tree_Same [])] sg = some ([.bool (decide (l.map Ex.bare = m.map Ex.bare))], sg) := by
  have hb := big hl
  refine call_slices_EqualFunc__api_Expr__api_Expr_api_Expr_api_Expr _ _ _ ?_
  rw [eq_slices_EqualFunc__api_Expr__api_Expr_api_Expr_api_Expr]
  by_cases h5 : l.length = m.length
  · have loop := loop_two (l := l.map Ex.bare) (m := m.map Ex.bare) (by simpa using h5) (P := fun i => P_slices_EqualFunc__api_Expr__api_Expr_api_Expr_api_Expr_4h (run cfg) (.list 16 (m.map Ex.enc)) (.list 16 (l.map Ex.enc)) (.int .i64 l.length) (.int .i64 i) sg) (y := ([.bool true], sg)) (n := ([.bool false], sg))
      (by rw [eq_slices_EqualFunc__api_Expr__api_Expr_api_Expr_api_Expr_4h]; simp)
      (fun i h => by
        have h : i < l.length := by simpa using h
        have h' : i < m.length := by omega
        rw [eq_slices_EqualFunc__api_Expr__api_Expr_api_Expr_api_Expr_4h]
        simp only [dBin_lss, Int.ofNat_lt, h, decide_true, ob_some', oif_bool, if_true, dIdx_map h, dIdx_map h', exx, ht _ (List.getElem_mem h), dUn_not, dAddi (show i < 9223372036854775807 by omega), List.getElem_map]
        by_cases e : l[i].bare = m[i].bare <;> simp [e])
    simp [h5] at loop ⊢
    simp only [← h5] at loop ⊢
    rw [loop]
    by_cases e : l.map Ex.bare = m.map Ex.bare <;> simp [e]
  · have : l.map Ex.bare ≠ m.map Ex.bare := fun h => h5 (by have := congrArg List.length h; simpa using this)
    simp [Int.ofNat_inj, h5, this]

theorem sp_tree_samePat (a : Pat) : a.thin = true → ∀ b : Pat, (run cfg).p F_tree_samePat [a.enc, b.enc] = some (.bool (decide (a.bare = b.bare))) := by
  induction a using Pat.ind with
  | h a ih =>
    intro ha b
    have hb := a.thin_len ha
    have kids := sp_eqfB_Pat a.kids b.kids (by unfold lim; omega) (fun t ht u => ih t ht (Pat.thin_kid ha ht) u) []
    refine call_tree_samePat _ _ ?_
    rw [eq_tree_samePat]
    simp [Pat.ext_iff', kids]
    by_cases h1 : a.kind = b.kind <;> simp [h1]
    by_cases h4 : a.name = b.name <;> simp [h4]
    by_cases h5 : a.n = b.n <;> simp [h5]
    by_cases h6 : a.s = b.s <;> simp [h6]

theorem sp_tree_Same (a : Ex) : a.fit → ∀ b : Ex, (run cfg).p F_tree_Same [a.enc, b.enc] = some (.bool (decide (a.bare = b.bare))) := by
  induction a using Ex.ind with
  | h a ih =>
    intro ha b
    have pats := sp_eqfB_Pat a.pats b.pats (Nat.le_of_lt ha.one.pats) (fun t ht u => sp_tree_samePat t (Pat.fit_thin (ha.one.pat t ht)) u) []
    have kids := sp_eqfB_Ex a.kids b.kids (Nat.le_of_lt ha.one.kids) (fun t ht u => ih t ht (ha.kid ht) u) []
    refine call_tree_Same _ _ ?_
    rw [eq_tree_Same]
    simp [Ex.ext_iff']
    by_cases h1 : a.kind = b.kind <;> simp [h1]
    by_cases h2 : a.name = b.name <;> simp [h2]
    by_cases h3 : a.arg = b.arg <;> simp [h3]
    by_cases h4 : a.n = b.n <;> simp [h4]
    by_cases h6 : a.s = b.s <;> simp [h6]
    by_cases h7 : a.op = b.op <;> simp [h7]
    rw [eq_tree_Same_3]
    simp [Ty.eta, sp_typ_Same _ ha.one.a, sp_typ_Same _ ha.one.b]
    by_cases h9 : a.a = b.a <;> simp [h9]
    by_cases h10 : a.b = b.b <;> simp [h10, pats]
    by_cases h11 : a.pats.map Pat.bare = b.pats.map Pat.bare <;> simp [h11, kids]

theorem Ex.kids68 {t : Ex} (rt : t.right = true) (k68 : t.kind = 6 ∨ t.kind = 8) : ∃ (h0 : 0 < t.kids.length) (h1 : 1 < t.kids.length), t.kids.take 2 = [t.kids[0], t.kids[1]] := by
  have hks := Ex.one_kids (Ex.right_one rt)
  have hlen : t.kids.length = 2 := by
    rcases k68 with k | k <;> rw [k] at hks <;> simp [eKids] at hks <;> omega
  refine ⟨by omega, by omega, ?_⟩
  apply List.ext_getElem
  · simp [hlen]
  · intro i h1 h2
    simp at h2
    match i, h2 with
    | 0, _ => simp
    | 1, _ => simp

theorem sp_tree_value (t : Ex) : t.fit → t.right = true → (run cfg).p F_tree_value [t.enc] = some (.bool t.value) := by
  induction t using Ex.ind with
  | h t ih =>
    intro ft rt
    refine call_tree_value _ ?_
    rw [eq_tree_value, Ex.value_eq]
    by_cases k1 : t.kind = 1
    · simp [k1]
    by_cases k2 : t.kind = 2
    · simp [k2]
    by_cases k3 : t.kind = 3
    · simp [k3]
    by_cases k4 : t.kind = 4
    · simp [k4]
    by_cases k5 : t.kind = 5
    · simp [k5]
    by_cases k7 : t.kind = 7
    · simp [k7]
    by_cases k9 : t.kind = 9
    · simp [k9]
    by_cases k68 : t.kind = 6 ∨ t.kind = 8
    · obtain ⟨h0, h1, e⟩ := Ex.kids68 rt k68
      have d0 : dIdx 16 (.list 16 (t.kids.map Ex.enc)) (.int .i64 0) = some t.kids[0].enc := dIdx_map h0
      have d1 : dIdx 16 (.list 16 (t.kids.map Ex.enc)) (.int .i64 1) = some t.kids[1].enc := dIdx_map h1
      have i0 := ih _ (List.getElem_mem h0) (ft.kid (List.getElem_mem h0)) (Ex.right_kid rt (List.getElem_mem h0))
      have i1 := ih _ (List.getElem_mem h1) (ft.kid (List.getElem_mem h1)) (Ex.right_kid rt (List.getElem_mem h1))
      have p11 : P_tree_value_12 (run cfg) t.enc = some (.bool ((t.kids.take 2).all Ex.value)) := by
        rw [eq_tree_value_12, e]
        simp [d0, d1, Ex.eta, i0, i1]
        cases t.kids[0].value <;> simp
      rcases k68 with k | k <;> simp [k, p11]
    · have k6 : ¬ t.kind = 6 := fun h => k68 (.inl h)
      have k8 : ¬ t.kind = 8 := fun h => k68 (.inr h)
      simp [k1, k2, k3, k4, k5, k6, k7, k8, k9]

theorem sp_tree_Value (t : Ex) (ft : t.fit) : (run cfg).p F_tree_Value [t.enc] = some (.bool (t.right && t.value)) := by
  refine call_tree_Value _ ?_
  rw [eq_tree_Value]
  simp only [isAggN_Ex, og_true', exx, sp_tree_Check t ft, ob_some', dBin_eql]
  cases rt : t.right
  · simp
  · simp [exx, sp_tree_value t ft rt]

theorem arrIdx_nat {j n : Nat} (h : j < n) : arrIdx 0 n (.int .i64 (j : Int)) = some j := by
  show (if (0 : Int) ≤ (j : Int) ∧ (j : Int) < (n : Int) then some (0 + (j : Int).toNat) else none) = some j
  rw [if_pos ⟨by omega, by omega⟩]
  simp

theorem sealArrG {α : Type} (e : α → DV) {sz i n : Nat} {sg : List SObj} (l : List α) (hg : sgArr sg i = some (sz, l.map e)) (h : l.length = n) : sealCell sg (.undef, .arr i sz 0 n) = some (.list sz (l.map e)) := by
  simp only [sealCell, hg, ob_some', BEq.rfl, og_true', Nat.zero_add, List.length_map, h, Nat.le_refl, if_true, List.drop_zero]
  rw [List.take_of_length_le (by simp [h])]

theorem sealVal' (sg : List SObj) (d : DV) : sealCell sg (d, .val) = some d := rfl

def anSg (a c : SObj) (l : List Ty) (m : Meta) (J : List SObj) : List SObj := a :: .box [(.list 3 (l.map Ty.enc), m)] :: c :: J

theorem an_put (a c : SObj) (l : List Ty) (m : Meta) (J : List SObj) (hm : m = .full ∨ m = .own) : sgBox (anSg a c l m J) 1 = some [(.list 3 (l.map Ty.enc), m)] ∧ cellOwn [(.list 3 (l.map Ty.enc), m)] 0 = some (.list 3 (l.map Ty.enc)) := by
  refine ⟨rfl, ?_⟩
  rcases hm with rfl | rfl <;> rfl

theorem an_ann (t0 t7 t8 t10 : DV) (I : List SObj → Option DV) (a c : SObj) (x : Ex) (t : Ty) (j : Int) (hj : dIdx 3 (.list 3 [x.a.enc, x.b.enc]) (.int .i64 j) = some t.enc) (h0 : 0 ≤ j) (h2 : j < 2) (l : List Ty) (hl : l.length + 1 ≤ lim) (m : Meta) (hm : m = .full ∨ m = .own) (J : List SObj) :
    ∃ m' J', (m' = .full ∨ m' = .own) ∧ P_tree_Anns_7h (run cfg) t0 t7 t8 t10 I (.list 3 [x.a.enc, x.b.enc]) (.int .i64 2) (.int .i64 j) (anSg a c l m J) = P_tree_Anns_7h (run cfg) t0 t7 t8 t10 I (.list 3 [x.a.enc, x.b.enc]) (.int .i64 2) (.int .i64 (j + 1)) (anSg a c (l ++ t.anns) m' J') := by
  have hb := big hl
  have e1 : dBin .add (.int .i64 j) (.int .i64 1) = some (.int .i64 (j + 1)) := by rw [dBin_add, wrap_id (by omega) (by omega)]
  unfold Ty.anns
  cases hn : t.none
  · refine ⟨.own, J ++ [.arr 1 []], .inr rfl, ?_⟩
    rw [eq_tree_Anns_7h]
    have d2 : dApp2 3 (.list 3 (l.map Ty.enc)) (.list 3 [.agg [.int .i64 0, .int .i64 0, .list 3 []]]) = some (l.map Ty.enc, [.agg [.int .i64 0, .int .i64 0, .list 3 []]]) := by
      have : l.length + 1 ≤ lim := hl
      simp [dApp2, this]
    have b1 := (an_put a c l m J hm).1
    have b2 := (an_put a c l m J hm).2
    have ai : arrIdx 0 (l.length + 1) (.int .i64 (l.length : Int)) = some l.length := arrIdx_nat (by omega)
    have s1 : ((anSg a c l m J).set 1 (SObj.box ([(DV.list 3 (l.map Ty.enc), m)].set 0 (DV.list 3 (l.map Ty.enc), .val)))) = anSg a c l .val J := rfl
    have sl : (anSg a c l .val J).length = J.length + 3 := rfl
    have so : ∀ (l' : List Ty) (m' : Meta) (v : SObj), anSg a c l' m' J ++ [v] = anSg a c l' m' (J ++ [v]) := fun _ _ _ => rfl
    have sp : ∀ (l' : List Ty) (m' : Meta) (p q : List DV), sgOpn (anSg a c l' m' (J ++ [.opn 3 p q])) (J.length + 3) = some (3, p, q) := by
      intro l' m' p q
      have : (anSg a c l' m' (J ++ [.opn 3 p q]))[J.length + 3]? = some (.opn 3 p q) := by
        show (J ++ [SObj.opn 3 p q])[J.length]? = _
        rw [List.getElem?_append_right (Nat.le_refl _)]
        simp
      unfold sgOpn
      rw [this]
    have ss : ∀ (cs : List (DV × Meta)) (v w : SObj), (a :: SObj.box cs :: c :: (J ++ [v])).set (J.length + 3) w = a :: SObj.box cs :: c :: (J ++ [w]) := by
      intro cs v w
      show a :: SObj.box cs :: c :: (J ++ [v]).set J.length w = _
      rw [List.set_append_right _ _ (Nat.le_refl _)]
      simp
    have ox : openSet (3, l.map Ty.enc, [.agg [.int .i64 0, .int .i64 0, .list 3 []]]) l.length t.enc = some (.opn 3 (l.map Ty.enc) [t.enc]) := by
      simp [openSet]
    have co : closeObj (3, l.map Ty.enc, [t.enc]) 3 (l.length + 1) = some (.list 3 ((l ++ [t]).map Ty.enc)) := by
      simp [closeObj]
    have g1 : ∀ (cs : List (DV × Meta)) (K : List SObj), sgBox (a :: SObj.box cs :: c :: K) 1 = some cs := fun _ _ => rfl
    have g2 : ∀ (d : DV) (m : Meta), [(d, m)][0]? = some (d, m) := fun _ _ => rfl
    have g3 : ∀ (cs cs' : List (DV × Meta)) (K : List SObj), (a :: SObj.box cs :: c :: K).set 1 (SObj.box cs') = a :: SObj.box cs' :: c :: K := fun _ _ _ => rfl
    have g4 : ∀ (d d' : DV) (m m' : Meta), [(d, m)].set 0 (d', m') = [(d', m')] := fun _ _ _ _ => rfl
    have g5 : ∀ (d : DV) (i n : Nat), cellArr [(d, .arr i 3 0 n)] 0 = some (i, 3, n) := fun _ _ _ => rfl
    have sp' : ∀ (cs : List (DV × Meta)) (p q : List DV), sgOpn (a :: SObj.box cs :: c :: (J ++ [.opn 3 p q])) (J.length + 3) = some (3, p, q) := by
      intro cs p q
      have : (a :: SObj.box cs :: c :: (J ++ [SObj.opn 3 p q]))[J.length + 3]? = some (.opn 3 p q) := by
        show (J ++ [SObj.opn 3 p q])[J.length]? = _
        rw [List.getElem?_append_right (Nat.le_refl _)]
        simp
      unfold sgOpn
      rw [this]
    simp only [dBin_lss, h2, decide_true, ob_some', oif_bool, if_true, hj, tyx, sp_tree_none, dUn_not, hn, Bool.not_false, b1, b2, dLen_list, List.length_map, d2, ai, List.length_cons, List.length_nil, Nat.zero_add, s1, sl, so, sp, BEq.rfl, Bool.and_self, og_true', ox, e1, Bool.false_eq_true, if_false]
    simp only [anSg, ss, g1, g2, g3, g4, g5, ob_some', sp', co]
  · refine ⟨m, J, hm, ?_⟩
    rw [eq_tree_Anns_7h]
    simp only [dBin_lss, h2, decide_true, ob_some', oif_bool, if_true, hj, tyx, sp_tree_none, dUn_not, hn, Bool.not_true, Bool.false_eq_true, if_false, e1, List.append_nil]

theorem an_rounds (t0 t7 t8 t10 : DV) (a c : SObj) : ∀ (ps : List Ex) (l : List Ty) (m : Meta) (J : List SObj), (m = .full ∨ m = .own) → l.length + (ps.flatMap fun x => x.a.anns ++ x.b.anns).length ≤ lim →
    I_tree_Anns_r0 (run cfg) t0 t7 t8 t10 (ps.map Ex.enc) (anSg a c l m J) = some (.list 3 ((l ++ ps.flatMap fun x => x.a.anns ++ x.b.anns).map Ty.enc))
  | [], l, m, J, hm, _ => by
    rw [List.map_nil, I_tree_Anns_r0_nil, eq_X_tree_Anns_r0_normal, (an_put a c l m J hm).1]
    have : cellDat [(DV.list 3 (l.map Ty.enc), m)] 0 = some (.list 3 (l.map Ty.enc)) := by rcases hm with rfl | rfl <;> rfl
    simp [this]
  | q :: ps, l, m, J, hm, hl => by
    rw [List.flatMap_cons, List.length_append, List.length_append] at hl
    rw [List.map_cons, I_tree_Anns_r0_cons, eq_B_tree_Anns_r0]
    have t8e : ∀ k : Ex, (DV.agg [proj 8 k.enc, proj 9 k.enc, proj 10 k.enc]) = k.a.enc := fun k => by rw [Ex.proj8, Ex.proj9, Ex.proj10, Ty.eta]
    have t11e : ∀ k : Ex, (DV.agg [proj 11 k.enc, proj 12 k.enc, proj 13 k.enc]) = k.b.enc := fun k => by rw [Ex.proj11, Ex.proj12, Ex.proj13, Ty.eta]
    simp only [isAggN_Ex, og_true', t8e, t11e]
    have one : ∀ (t : Ty) (l : List Ty), l.length + t.anns.length ≤ lim → t.none = false → l.length + 1 ≤ lim := by
      intro t l h hn
      unfold Ty.anns at h
      rw [hn] at h
      simpa using h
    have big1 : ∀ (t : Ty) (l : List Ty) (m : Meta) (J : List SObj) (j : Int), (m = .full ∨ m = .own) → dIdx 3 (.list 3 [q.a.enc, q.b.enc]) (.int .i64 j) = some t.enc → 0 ≤ j → j < 2 → l.length + t.anns.length ≤ lim →
        ∃ m' J', (m' = .full ∨ m' = .own) ∧ P_tree_Anns_7h (run cfg) t0 t7 t8 t10 (I_tree_Anns_r0 (run cfg) t0 t7 t8 t10 (ps.map Ex.enc)) (.list 3 [q.a.enc, q.b.enc]) (.int .i64 2) (.int .i64 j) (anSg a c l m J) = P_tree_Anns_7h (run cfg) t0 t7 t8 t10 (I_tree_Anns_r0 (run cfg) t0 t7 t8 t10 (ps.map Ex.enc)) (.list 3 [q.a.enc, q.b.enc]) (.int .i64 2) (.int .i64 (j + 1)) (anSg a c (l ++ t.anns) m' J') := by
      intro t l m J j hm hj h0 h2 hl
      cases hn : t.none
      · exact an_ann t0 t7 t8 t10 _ a c q t j hj h0 h2 l (one t l hl hn) m hm J
      · refine ⟨m, J, hm, ?_⟩
        have e1 : dBin .add (.int .i64 j) (.int .i64 1) = some (.int .i64 (j + 1)) := by rw [dBin_add, wrap_id (by omega) (by omega)]
        have e2 : t.anns = [] := by unfold Ty.anns; rw [hn]; rfl
        rw [eq_tree_Anns_7h]
        simp only [dBin_lss, h2, decide_true, ob_some', oif_bool, if_true, hj, tyx, sp_tree_none, dUn_not, hn, Bool.not_true, Bool.false_eq_true, if_false, e1, e2, List.append_nil]
    obtain ⟨m1, J1, hm1, e1⟩ := big1 q.a l m J 0 hm rfl (by omega) (by omega) (by omega)
    obtain ⟨m2, J2, hm2, e2⟩ := big1 q.b (l ++ q.a.anns) m1 J1 1 hm1 rfl (by omega) (by omega) (by rw [List.length_append]; omega)
    rw [e1]
    rw [show (0 : Int) + 1 = 1 from rfl, e2, show (1 : Int) + 1 = 2 from rfl, eq_tree_Anns_7h]
    simp only [dBin_lss, Int.lt_irrefl, decide_false, ob_some', oif_bool, Bool.false_eq_true, if_false]
    rw [an_rounds t0 t7 t8 t10 a c ps _ m2 J2 hm2 (by simp only [List.length_append]; omega)]
    simp

theorem sp_tree_Anns (t : Ex) (ft : t.fit) (hm : t.mass ≤ lim) : (run cfg).p F_tree_Anns [t.enc] = some (.list 3 ((if t.right = true then t.anns else []).map Ty.enc)) := by
  refine call_tree_Anns _ ?_
  rw [eq_tree_Anns]
  simp only [isAggN_Ex, og_true', exx, sp_tree_Check t ft, ob_some', dBin_neq]
  cases rt : t.right
  · simp
  · simp only [if_true, decide_true, Bool.not_true, oif_bool, Bool.false_eq_true, if_false, Ex.proj0, Ex.proj1, Ex.proj2, Ex.proj3, Ex.proj4, Ex.proj5, Ex.proj6, Ex.proj7, Ex.proj8, Ex.proj9, Ex.proj10, Ex.proj11, Ex.proj12, Ex.proj13, Ex.proj14, Ex.proj15]
    rw [eq_tree_Anns_r0]
    obtain ⟨n, hn⟩ := flat_Ex t ft
    rw [Ex.enc_eq] at hn
    simp only [sgBox, List.getElem?_cons_succ, List.getElem?_cons_zero, ob_some', allDat, og_true', flatD_of hn]
    have ha := t.anns_mass
    rw [t.anns_subs] at ha ⊢
    refine Eq.trans (an_rounds _ _ _ _ _ _ t.subs [] .full [] (.inl rfl) (by simpa using Nat.le_trans ha hm)) ?_
    simp

theorem dIdx_head (x : Ty) (l : List Ty) : dIdx 3 (.list 3 ((x :: l).map Ty.enc)) (.int .i64 0) = some x.enc := rfl

theorem dSlice_tail (x : Ty) (l : List Ty) : dSlice 3 (.list 3 ((x :: l).map Ty.enc)) (some (.int .i64 1)) none = some (.list 3 (l.map Ty.enc)) := by
  simp [dSlice, bnd]
  rw [List.take_of_length_le (by simp)]

theorem dExt_0 (a b : DV) : dExt 0 (.tup [a, b]) = some a := rfl

theorem dExt_1 (a b : DV) : dExt 1 (.tup [a, b]) = some b := rfl

/-- One taken. -/
theorem take_cases {t : Ty} {l : List Ty} (h : t.anns.length ≤ l.length) : (t.none = true ∧ t.takeA l = t ∧ l.drop t.anns.length = l) ∨ ∃ x l', t.none = false ∧ l = x :: l' ∧ t.takeA l = x ∧ l.drop t.anns.length = l' := by
  unfold Ty.takeA Ty.anns at *
  cases hn : t.none
  · rw [hn] at h
    simp only [Bool.false_eq_true, if_false, List.length_cons, List.length_nil] at h
    cases l with
    | nil => simp at h
    | cons x l' => exact .inr ⟨x, l', rfl, rfl, by simp, by simp⟩
  · exact .inl ⟨rfl, by simp, by simp⟩

theorem sp_tree_put (t : Ex) : t.fit → ∀ l : List Ty, t.anns.length ≤ l.length → (run cfg).p F_tree_put [t.enc, .list 3 (l.map Ty.enc)] = some (.tup [(t.wput l).enc, .list 3 ((l.drop t.anns.length).map Ty.enc)]) := by
  induction t using Ex.ind with
  | h t ih =>
    intro ft l hl
    have hk := Nat.le_of_lt ft.one.kids
    have hK := big hk
    rw [Ex.anns_eq, List.length_append, List.length_append] at hl
    have l7 : ∀ (a b : Ty) (n j : Nat) (done : List Ex) (l : List Ty), j + n = t.kids.length → done.length = j → ((t.kids.drop j).flatMap Ex.anns).length ≤ l.length →
        P_tree_put_7h (run cfg) (.list 3 (l.map Ty.enc)) t.kids.length (.int .i64 t.kids.length) (.int .i64 (j : Int)) (.int .i64 t.kind) (.int .i64 t.lo) (.int .i64 t.hi) (.str t.name) (.str t.arg) (.int .i64 t.n) (.str t.s) (.int .i64 t.op) (.int .i64 a.kind) (.int .i64 a.n) (.list 3 (a.kids.map Ty.enc)) (.int .i64 b.kind) (.int .i64 b.n) (.list 3 (b.kids.map Ty.enc)) (.list 7 (t.pats.map Pat.enc)) t.kids.length (.int .i64 0) (.int .i64 0) (.int .i64 0) (.str ⟨#[]⟩) (.str ⟨#[]⟩) (.int .i64 0) (.str ⟨#[]⟩) (.int .i64 0) (.int .i64 0) (.int .i64 0) (.list 3 []) (.int .i64 0) (.int .i64 0) (.list 3 []) (.list 7 []) (.list 16 []) [.arr 16 ((done ++ t.kids.drop j).map Ex.enc)] =
        some (.tup [(Ex.mk t.kind t.lo t.hi t.name t.arg t.n t.s t.op a b t.pats (done ++ Ex.wputL (t.kids.drop j) l)).enc, .list 3 ((l.drop ((t.kids.drop j).flatMap Ex.anns).length).map Ty.enc)]) := by
      intro a b n
      induction n with
      | zero =>
        intro j done l hj hd _
        have e : j = t.kids.length := by omega
        subst e
        rw [eq_tree_put_7h, List.drop_length, Ex.wputL_nil, List.append_nil, Ex.enc_eq (Ex.mk _ _ _ _ _ _ _ _ _ _ _ _)]
        have sa := sealArrG Ex.enc (sz := 16) (i := 0) (n := t.kids.length) (sg := [.arr 16 (done.map Ex.enc)]) done rfl hd
        simp only [dBin_lss, Int.lt_irrefl, decide_false, ob_some', oif_bool, Bool.false_eq_true, if_false, sealCells, sa, sealVal', retL, seqO]
        rfl
      | succ n ihn =>
        intro j done l hj hd hl
        have h : j < t.kids.length := by omega
        rw [List.drop_eq_getElem_cons h, List.flatMap_cons, List.length_append] at hl
        have f1 := ih _ (List.getElem_mem h) (ft.kid (List.getElem_mem h)) l (by omega)
        have nx := ihn (j + 1) (done ++ [t.kids[j].wput l]) (l.drop t.kids[j].anns.length) (by omega) (by rw [List.length_append, List.length_singleton]; omega) (by rw [List.length_drop]; omega)
        have sg0 : sgArr [SObj.arr 16 ((done ++ t.kids.drop j).map Ex.enc)] 0 = some (16, (done ++ t.kids.drop j).map Ex.enc) := rfl
        have g1 : ((done ++ t.kids.drop j).map Ex.enc)[j]? = some t.kids[j].enc := by
          rw [List.getElem?_map, List.getElem?_append_right (by omega), hd, Nat.sub_self, List.drop_eq_getElem_cons h]
          rfl
        have g2 : ((done ++ t.kids.drop j).map Ex.enc).set j (t.kids[j].wput l).enc = ((done ++ [t.kids[j].wput l]) ++ t.kids.drop (j + 1)).map Ex.enc := by
          rw [← List.map_set, List.set_append_right _ _ (by omega), hd, Nat.sub_self, List.drop_eq_getElem_cons h, List.set_cons_zero, List.append_assoc]
          rfl
        rw [eq_tree_put_7h]
        simp only [dBin_lss, Int.ofNat_lt, h, decide_true, ob_some', oif_bool, if_true, arrIdx_nat h, sg0, g1, BEq.rfl, og_true', exx, f1, dExt_0, dExt_1, isAggN_Ex, dAdd1 (show j < 9223372036854775807 by omega), List.set_cons_zero, g2]
        rw [nx, List.drop_eq_getElem_cons h, Ex.wputL_cons, List.flatMap_cons, List.length_append, List.drop_drop, List.append_assoc]
        rfl
    have l5 : ∀ (a b : Ty) (l : List Ty), (t.kids.flatMap Ex.anns).length ≤ l.length → P_tree_put_5 (run cfg) (.list 3 (l.map Ty.enc)) (.int .i64 t.kind) (.int .i64 t.lo) (.int .i64 t.hi) (.str t.name) (.str t.arg) (.int .i64 t.n) (.str t.s) (.int .i64 t.op) (.int .i64 a.kind) (.int .i64 a.n) (.list 3 (a.kids.map Ty.enc)) (.int .i64 b.kind) (.int .i64 b.n) (.list 3 (b.kids.map Ty.enc)) (.list 7 (t.pats.map Pat.enc)) (.list 16 (t.kids.map Ex.enc)) (.int .i64 0) (.int .i64 0) (.int .i64 0) (.str ⟨#[]⟩) (.str ⟨#[]⟩) (.int .i64 0) (.str ⟨#[]⟩) (.int .i64 0) (.int .i64 0) (.int .i64 0) (.list 3 []) (.int .i64 0) (.int .i64 0) (.list 3 []) (.list 7 []) (.list 16 []) =
        some (.tup [(Ex.mk t.kind t.lo t.hi t.name t.arg t.n t.s t.op a b t.pats (Ex.wputL t.kids l)).enc, .list 3 ((l.drop (t.kids.flatMap Ex.anns).length).map Ty.enc)]) := by
      intro a b l hl
      rw [eq_tree_put_5]
      simp only [dList_list, ob_some', BEq.rfl, Bool.true_and, List.length_map, hk, decide_true, og_true']
      have := l7 a b t.kids.length 0 [] l (by omega) rfl (by rw [List.drop_zero]; exact hl)
      simpa using this
    have l3 : ∀ (a : Ty) (l : List Ty), t.b.anns.length + (t.kids.flatMap Ex.anns).length ≤ l.length → P_tree_put_3 (run cfg) (.list 3 (l.map Ty.enc)) (.int .i64 t.kind) (.int .i64 t.lo) (.int .i64 t.hi) (.str t.name) (.str t.arg) (.int .i64 t.n) (.str t.s) (.int .i64 t.op) (.int .i64 a.kind) (.int .i64 a.n) (.list 3 (a.kids.map Ty.enc)) (.int .i64 t.b.kind) (.int .i64 t.b.n) (.list 3 (t.b.kids.map Ty.enc)) (.list 7 (t.pats.map Pat.enc)) (.list 16 (t.kids.map Ex.enc)) (.int .i64 0) (.int .i64 0) (.int .i64 0) (.str ⟨#[]⟩) (.str ⟨#[]⟩) (.int .i64 0) (.str ⟨#[]⟩) (.int .i64 0) (.int .i64 0) (.int .i64 0) (.list 3 []) (.int .i64 0) (.int .i64 0) (.list 3 []) (.list 7 []) (.list 16 []) =
        some (.tup [(Ex.mk t.kind t.lo t.hi t.name t.arg t.n t.s t.op a (t.b.takeA l) t.pats (Ex.wputL t.kids (l.drop t.b.anns.length))).enc, .list 3 (((l.drop t.b.anns.length).drop (t.kids.flatMap Ex.anns).length).map Ty.enc)]) := by
      intro a l hl
      rw [eq_tree_put_3]
      have e : DV.agg [.int .i64 t.b.kind, .int .i64 t.b.n, .list 3 (t.b.kids.map Ty.enc)] = t.b.enc := Ty.eta t.b
      rcases take_cases (t := t.b) (l := l) (by omega) with ⟨h1, h2, h3⟩ | ⟨x, l', h1, h2, h3, h4⟩
      · rw [h2, h3]
        simp only [e, sp_tree_none, h1, dUn_not, Bool.not_true, ob_some', oif_bool, Bool.false_eq_true, if_false]
        exact l5 a t.b l (by rw [← h3, List.length_drop]; omega)
      · rw [h3, h4]
        have := l5 a x l' (by rw [← h4, List.length_drop]; omega)
        rw [h2]
        simp only [e, sp_tree_none, h1, dUn_not, Bool.not_false, ob_some', oif_bool, if_true, dIdx_head, dSlice_tail, Ty.proj0, Ty.proj1, Ty.proj2]
        exact this
    refine call_tree_put _ _ ?_
    rw [eq_tree_put, Ex.wput_eq]
    have ed : l.drop t.anns.length = ((l.drop t.a.anns.length).drop t.b.anns.length).drop (t.kids.flatMap Ex.anns).length := by
      rw [Ex.anns_eq, List.length_append, List.length_append, List.drop_drop, List.drop_drop, Nat.add_assoc]
    rw [ed, show l.drop (t.a.anns.length + t.b.anns.length) = (l.drop t.a.anns.length).drop t.b.anns.length by rw [List.drop_drop]]
    have e : DV.agg [.int .i64 t.a.kind, .int .i64 t.a.n, .list 3 (t.a.kids.map Ty.enc)] = t.a.enc := Ty.eta t.a
    have hd : t.b.anns.length + (t.kids.flatMap Ex.anns).length ≤ (l.drop t.a.anns.length).length := by rw [List.length_drop]; omega
    rcases take_cases (t := t.a) (l := l) (by omega) with ⟨h1, h2, h3⟩ | ⟨x, l', h1, h2, h3, h4⟩
    · rw [h3] at hd
      rw [h2, h3]
      simp only [isAggN_Ex, og_true', Ex.proj0, Ex.proj1, Ex.proj2, Ex.proj3, Ex.proj4, Ex.proj5, Ex.proj6, Ex.proj7, Ex.proj8, Ex.proj9, Ex.proj10, Ex.proj11, Ex.proj12, Ex.proj13, Ex.proj14, Ex.proj15, e, sp_tree_none, h1, dUn_not, Bool.not_true, ob_some', oif_bool, Bool.false_eq_true, if_false]
      exact l3 t.a l hd
    · rw [h4] at hd
      rw [h3, h4]
      have := l3 x l' hd
      rw [h2]
      simp only [isAggN_Ex, og_true', Ex.proj0, Ex.proj1, Ex.proj2, Ex.proj3, Ex.proj4, Ex.proj5, Ex.proj6, Ex.proj7, Ex.proj8, Ex.proj9, Ex.proj10, Ex.proj11, Ex.proj12, Ex.proj13, Ex.proj14, Ex.proj15, e, sp_tree_none, h1, dUn_not, Bool.not_false, ob_some', oif_bool, if_true, dIdx_head, dSlice_tail, Ty.proj0, Ty.proj1, Ty.proj2]
      exact this

/-- With others: or why not. -/
noncomputable def Ex.withA (t : Ex) (l : List Ty) : DV :=
  if t.right = true ∧ l.all Ty.closed = true then (if t.anns.length = l.length then .tup [(t.wput l).enc, .int .i64 0] else .tup [zeroEx.enc, .int .i64 2]) else .tup [zeroEx.enc, .int .i64 1]

theorem zeroEx_agg2 (e : Int) : DV.tup [.agg [.int .i64 0, .int .i64 0, .int .i64 0, .str ⟨#[]⟩, .str ⟨#[]⟩, .int .i64 0, .str ⟨#[]⟩, .int .i64 0, .int .i64 0, .int .i64 0, .list 3 [], .int .i64 0, .int .i64 0, .list 3 [], .list 7 [], .list 16 []], .int .i64 e] = .tup [zeroEx.enc, .int .i64 e] := by
  rw [zeroEx_agg]

theorem sp_tree_With (t : Ex) (ft : t.fit) (hm : t.mass ≤ lim) (l : List Ty) (hl : l.length ≤ lim) (hlt : ∀ x ∈ l, x.thin = true) : (run cfg).p F_tree_With [t.enc, .list 3 (l.map Ty.enc)] = some (t.withA l) := by
  have hL := big hl
  refine call_tree_With _ _ ?_
  rw [eq_tree_With]
  unfold Ex.withA
  simp only [isAggN_Ex, og_true', exx, sp_tree_Check t ft, ob_some', dBin_neq, zeroEx_agg2]
  cases rt : t.right
  · simp
  have z := sp_tree_Anns t ft hm
  rw [rt] at z
  simp only [if_true] at z
  have loop := loop_all (l := l) (f := Ty.closed) (P := fun i => P_tree_With_4h (run cfg) (.list 3 (l.map Ty.enc)) (.list 3 (l.map Ty.enc)) (.int .i64 l.length) (.int .i64 i) t.enc (.int .i64 0) (.int .i64 0) (.int .i64 0) (.str ⟨#[]⟩) (.str ⟨#[]⟩) (.int .i64 0) (.str ⟨#[]⟩) (.int .i64 0) (.int .i64 0) (.int .i64 0) (.list 3 []) (.int .i64 0) (.int .i64 0) (.list 3 []) (.list 7 []) (.list 16 []))
    (y := if t.anns.length = l.length then .tup [(t.wput l).enc, .int .i64 0] else .tup [zeroEx.enc, .int .i64 2]) (n := .tup [zeroEx.enc, .int .i64 1])
    (by
      rw [eq_tree_With_4h]
      simp only [dBin_lss, Int.lt_irrefl, decide_false, ob_some', oif_bool, Bool.false_eq_true, if_false, exx, z, dLen_list, List.length_map, dBin_neq, zeroEx_agg2]
      by_cases h : t.anns.length = l.length
      · have p := sp_tree_put t ft l (Nat.le_of_eq h)
        simp only [h, decide_true, Bool.not_true, Bool.false_eq_true, if_false, p, ob_some', dExt_0, dExt_1, isAggN_Ex, og_true', exx, if_true]
      · have h' : ¬ ((t.anns.length : Int) = (l.length : Int)) := by omega
        simp only [h, h', decide_false, Bool.not_false, if_true, if_false])
    (fun i h => by
      rw [eq_tree_With_4h]
      simp only [dBin_lss, Int.ofNat_lt, h, decide_true, ob_some', oif_bool, if_true, dIdx_map h, tyx, sp_tree_closed _ (hlt _ (List.getElem_mem h)), dUn_not, dAddi (show i < 9223372036854775807 by omega), zeroEx_agg2]
      cases l[i].closed <;> simp)
  simp only [if_true, decide_true, Bool.not_true, oif_bool, Bool.false_eq_true, if_false, dLen_list, List.length_map, ob_some', true_and]
  exact loop

def pairEx (a b : Ex) : Ex := .mk 6 0 0 nil8 nil8 0 nil8 0 (.mk 0 0 []) (.mk 0 0 []) [] [a, b]

def funEx (s : ByteArray) (a : Ty) (k : Ex) : Ex := .mk 9 0 0 s nil8 0 nil8 0 a (.mk 0 0 []) [] [k]

def xyEx : Ex := pairEx (nameEx ⟨#[120]⟩) (nameEx ⟨#[121]⟩)

def wkEx : Ex := funEx ⟨#[120]⟩ (.mk 5 0 []) xyEx

theorem lf_closed {k : Int} (h : k = 1 ∨ k = 5) : (Ty.mk k 0 []).closed = true := by
  rcases h with rfl | rfl <;> simp [Ty.closed, Ty.right_eq, Ty.without_eq, arity]

theorem lf_none {k : Int} (h : k = 1 ∨ k = 5) : (Ty.mk k 0 []).none = false := by
  rcases h with rfl | rfl <;> simp [Ty.none]

theorem lf_thin (k : Int) : (Ty.mk k 0 []).thin = true := Ty.thin_of_size (by simp [Ty.size_eq, lim])

theorem pairEx_right {a b : Ex} (ha : a.right = true) (hb : b.right = true) : (pairEx a b).right = true := by
  rw [Ex.right_eq]
  simp [pairEx, Ex.one, Ex.one1, Ex.one2, Ex.one3, Ex.one4, Ex.one5, Ex.one6, Ex.one7, Ex.one8, eOk, eKids, eName, eArg, eN, eS, eOp, eA, eB, eMust, noteB, namedB, nil8_size, ex_none, ha, hb]

theorem funEx_right {s : ByteArray} {a : Ty} {k : Ex} (hs : nameB s = true) (ha : a.closed = true) (hn : a.none = false) (hk : k.right = true) : (funEx s a k).right = true := by
  rw [Ex.right_eq]
  simp [funEx, Ex.one, Ex.one1, Ex.one2, Ex.one3, Ex.one4, Ex.one5, Ex.one6, Ex.one7, Ex.one8, eOk, eKids, eName, eArg, eN, eS, eOp, eA, eB, eMust, noteB, namedB, nil8_size, ex_none, hs, ha, hn, hk]

theorem wkEx_right : wkEx.right = true := funEx_right (by decide +kernel) (lf_closed (.inr rfl)) (lf_none (.inr rfl)) (pairEx_right (nameEx_right (by decide +kernel)) (nameEx_right (by decide +kernel)))

theorem nameEx_mass (s : ByteArray) : (nameEx s).mass = 3 + s.size := by simp [nameEx, Ex.mass_eq, Ty.size_eq, nil8_size]; omega

theorem wkEx_mass : wkEx.mass ≤ 40 := by
  have h1 := nameEx_mass ⟨#[120]⟩
  have h2 := nameEx_mass ⟨#[121]⟩
  have e1 : (⟨#[120]⟩ : ByteArray).size = 1 := rfl
  have e2 : (⟨#[121]⟩ : ByteArray).size = 1 := rfl
  simp [wkEx, funEx, xyEx, pairEx, Ex.mass_eq (.mk _ _ _ _ _ _ _ _ _ _ _ _), Ty.size_eq, nil8_size]
  omega

theorem wkEx_fit : wkEx.fit := Ex.fit_mass (by have := wkEx_mass; omega)

theorem wkEx_size : wkEx.size = 4 := by simp [wkEx, funEx, xyEx, pairEx, nameEx, Ex.size_eq]

theorem wkEx_depth : wkEx.depth = 3 := by
  have h1 : ∀ s, (nameEx s).depth = 1 := fun s => by rw [Ex.depth_eq]; simp [nameEx, most, Ty.dep, ex_none]
  have h2 : xyEx.depth = 2 := by rw [Ex.depth_eq]; simp [xyEx, pairEx, most, Ty.dep, ex_none, h1]
  have h3 : (Ty.mk 5 0 []).depth = 1 := by rw [Ty.depth_eq]; rfl
  have h4 : (Ty.mk 5 0 []).none = false := lf_none (.inr rfl)
  rw [Ex.depth_eq]
  simp [wkEx, funEx, most, Ty.dep, ex_none, h4, h2, h3]

theorem wkEx_anns : wkEx.anns = [.mk 5 0 []] := by simp [wkEx, funEx, xyEx, pairEx, nameEx, Ex.anns_eq, Ty.anns, Ty.none]

theorem wkEx_value : wkEx.value = true := by rw [Ex.value_eq]; simp [wkEx, funEx]

theorem wkEx_free : wkEx.free = [⟨#[121]⟩] := by
  have hxy : ((⟨#[120]⟩ : ByteArray) = ⟨#[121]⟩) = False := by simp
  simp [wkEx, funEx, xyEx, pairEx, nameEx, Ex.free, Ex.fr_eq, Ex.frL_nil, Ex.frL_cons, Ex.binds, hxy, rise]

theorem w_l05_wakes : (run cfg).p F_l05_wakes [] = some (.bool true) := by
  have num : ∀ s : ByteArray, (run cfg).p F_l05_name [.str s] = some (nameEx s).enc := fun s => by
    refine call_l05_name _ ?_
    rw [eq_l05_name, Ex.enc_eq]
    rfl
  have na : DV.agg [.int .i64 9, .int .i64 0, .int .i64 0, .str ⟨#[120]⟩, .str ⟨#[]⟩, .int .i64 0, .str ⟨#[]⟩, .int .i64 0, .int .i64 5, .int .i64 0, .list 3 [], .int .i64 0, .int .i64 0, .list 3 [], .list 7 [], .list 16 [.agg [.int .i64 6, .int .i64 0, .int .i64 0, .str ⟨#[]⟩, .str ⟨#[]⟩, .int .i64 0, .str ⟨#[]⟩, .int .i64 0, .int .i64 0, .int .i64 0, .list 3 [], .int .i64 0, .int .i64 0, .list 3 [], .list 7 [], .list 16 [(nameEx ⟨#[120]⟩).enc, (nameEx ⟨#[121]⟩).enc]]]] = wkEx.enc := by
    rw [Ex.enc_eq wkEx]
    show _ = DV.agg [_, _, _, _, _, _, _, _, _, _, _, _, _, _, _, .list 16 [xyEx.enc]]
    rw [Ex.enc_eq xyEx]
    rfl
  have z16 : DV.agg [.int .i64 0, .int .i64 0, .int .i64 0, .str ⟨#[]⟩, .str ⟨#[]⟩, .int .i64 0, .str ⟨#[]⟩, .int .i64 0, .int .i64 0, .int .i64 0, .list 3 [], .int .i64 0, .int .i64 0, .list 3 [], .list 7 [], .list 16 []] = zeroEx.enc := zeroEx_agg
  have hm := wkEx_mass
  have ff := wkEx_fit
  have zf : zeroEx.fit := Ex.fit_mass (by simp [zeroEx, noTy, Ex.mass_eq, Ty.size_eq, nil8_size])
  have zr : zeroEx.right = false := by rw [Ex.right_eq]; simp [zeroEx, Ex.one, eOk]
  have c1 := sp_tree_Check wkEx ff
  have c2 := sp_tree_Check zeroEx zf
  have c3 := sp_tree_Size wkEx ff (by unfold lim; omega)
  have c4 := sp_tree_Depth wkEx ff (by unfold lim; omega)
  have c5 := sp_tree_Free wkEx ff (by unfold lim; omega)
  have c6 := sp_tree_Anns wkEx ff (by unfold lim; omega)
  have c7 := sp_tree_Value wkEx ff
  have c8 := sp_tree_Same wkEx ff wkEx
  have c9 := sp_keep_Texts [⟨#[121]⟩] [⟨#[121]⟩] (by simp [lim])
  have c10 := sp_tree_With wkEx ff (by unfold lim; omega) [.mk 1 0 []] (by simp [lim]) (by simp [lf_thin])
  have pp : DV.agg [.int .i64 1, .int .i64 0, .int .i64 0, .str ⟨#[]⟩, .int .i64 0, .str ⟨#[]⟩, .list 7 []] = (Pat.mk 1 0 0 nil8 0 nil8 []).enc := by rw [Pat.enc_eq]; rfl
  have pf : (Pat.mk 1 0 0 nil8 0 nil8 []).fit := Pat.fit_mass (by simp [Pat.mass_eq, nil8_size])
  have c11 := sp_tree_CheckPat (Pat.mk 1 0 0 nil8 0 nil8 []) (Pat.fit_thin pf) pf.txt
  have pr : (Pat.mk 1 0 0 nil8 0 nil8 []).right = true := by
    have h1 : (Pat.mk 1 0 0 nil8 0 nil8 []).names = [] := by rw [Pat.names, Pat.namesOn_eq]; simp
    have h2 : (Pat.mk 1 0 0 nil8 0 nil8 []).pat = true := by rw [Pat.pat_eq]; simp [Pat.one]
    rw [Pat.right, h1, h2]
    simp
  have wa : wkEx.withA [.mk 1 0 []] = .tup [(wkEx.wput [.mk 1 0 []]).enc, .int .i64 0] := by
    unfold Ex.withA
    rw [wkEx_right, wkEx_anns]
    simp [lf_closed]
  have w8 : (wkEx.wput [.mk 1 0 []]).a.kind = 1 := by
    rw [Ex.wput_eq]
    simp [wkEx, funEx, Ty.takeA, Ty.none]
  have t1 : DV.list 3 [.agg [.int .i64 1, .int .i64 0, .list 3 []]] = .list 3 (([.mk 1 0 []] : List Ty).map Ty.enc) := by
    simp [Ty.enc_eq (.mk 1 0 [])]
  have s1 : (DV.list 1 [.str ⟨#[121]⟩]) = encStrs [⟨#[121]⟩] := rfl
  refine call_l05_wakes ?_
  rw [eq_l05_wakes]
  simp only [num, ob_some', isAggN_Ex, og_true', na, t1, c10, wa, dExt_0, dExt_1]
  rw [eq_l05_wakes_3]
  simp only [na, z16, c1, wkEx_right, if_true, ob_some', dBin_eql, decide_true, ogd_bool, c2, zr, Bool.false_eq_true, if_false, c3, wkEx_size, c4, wkEx_depth, c5, wkEx_free, s1, c9, c6, wkEx_anns, dLen_list, List.length_map, List.length_cons, List.length_nil, Ex.proj8, w8, c7, wkEx_value, Bool.and_self, c8, pp, c11, pr]
  simp

/-- A number made of any that is below a bound. -/
theorem sp_keep_Int (x : Int) (n : Nat) (h0 : 0 < n) (h1 : n ≤ lim) : ∃ r : Nat, r < n ∧ (run cfg).p F_keep_Int [.int .i64 x, .int .i64 n] = some (.int .i64 r) := by
  have hb := big h1
  have hn : ¬ ((n : Int) < 1) := by omega
  have hu : IntKind.u64.wrap (n : Int) = n := Go.IntWalk.u64_in _ ⟨by omega, by omega⟩
  have hx : 0 ≤ IntKind.u64.wrap x := by
    simp [IntKind.wrap, IntKind.bits, IntKind.signed]; omega
  generalize hw : IntKind.u64.wrap x = w at hx
  have hr1 : 0 ≤ w.tmod n := Int.tmod_nonneg _ hx
  have hr2 : w.tmod n < n := Int.tmod_lt_of_pos _ (by omega)
  refine ⟨(w.tmod n).toNat, by omega, call_keep_Int _ _ ?_⟩
  have hrem : dBin .rem (.int .u64 w) (.int .u64 (n : Int)) = some (.int .u64 (w.tmod n)) := by
    have : ¬ ((n : Int) = 0) := by omega
    simp [dBin, isShift, dArith]
    omega
  have hi : IntKind.i64.wrap (w.tmod n) = w.tmod n := Go.IntWalk.i64_in _ ⟨by omega, by omega⟩
  have hc : ((w.tmod n).toNat : Int) = w.tmod n := by omega
  rw [eq_keep_Int]
  simp only [dBin_lss, hn, decide_false, ob_some', oif_bool, Bool.false_eq_true, if_false, dConv, hw, hu, hrem, hi, hc]

end Go.Su

/-
  The law TreeFree answers true on data.
-/
namespace Go.Su
set_option linter.unusedVariables false
set_option linter.unusedSimpArgs false

theorem loop_filter {X : Type} {F : List ByteArray} {c : ByteArray → Bool} {P : Int → List ByteArray → Option X} {out : Option X} (hend : P F.length (F.filter c) = out)
    (step : ∀ (j : Nat) (h : j < F.length) (a : List ByteArray), a.length ≤ j → P j a = P ((j : Int) + 1) (if c F[j] = true then a ++ [F[j]] else a)) : P 0 [] = out := by
  have key : ∀ (n j : Nat), j + n = F.length → P j ((F.take j).filter c) = out := by
    intro n
    induction n with
    | zero =>
      intro j hj
      have e : j = F.length := by omega
      subst e
      rw [List.take_length]
      exact hend
    | succ n ih =>
      intro j hj
      have h : j < F.length := by omega
      have hi := ih (j + 1) (by omega)
      rw [List.take_succ_eq_append_getElem h, List.filter_append] at hi
      push_cast at hi
      have hl := List.length_filter_le c (F.take j)
      rw [List.length_take] at hl
      rw [step j h _ (by omega), ← hi]
      congr 1
      by_cases hc : c F[j] = true <;> simp [hc]
  have := key F.length 0 (by omega)
  simpa using this

def unitEx : Ex := .mk 5 0 0 nil8 nil8 0 nil8 0 (.mk 0 0 []) (.mk 0 0 []) [] []
def letEx (s : ByteArray) (f e : Ex) : Ex := .mk 11 0 0 s nil8 0 nil8 0 (.mk 0 0 []) (.mk 0 0 []) [] [f, e]
def qName : ByteArray := ⟨#[113]⟩
def recEx (s : ByteArray) (e : Ex) : Ex := .mk 12 0 0 s qName 0 nil8 0 (.mk 0 0 []) (.mk 0 0 []) [] [e, unitEx]
def patA (s : ByteArray) : Pat := .mk 7 0 0 nil8 0 nil8 [.mk 1 0 0 nil8 0 nil8 [], .mk 2 0 0 s 0 nil8 []]
def armEx (s : ByteArray) (e : Ex) : Ex := .mk 14 0 0 nil8 nil8 0 nil8 0 (.mk 0 0 []) (.mk 0 0 []) [patA s] [unitEx, e]
def fun0 (s : ByteArray) (e : Ex) : Ex := funEx s (.mk 0 0 []) e

theorem qName_name : nameB qName = true := by decide +kernel
theorem unitEx_right : unitEx.right = true := by
  rw [Ex.right_eq]
  simp [unitEx, Ex.one, Ex.one1, Ex.one2, Ex.one3, Ex.one4, Ex.one5, Ex.one6, Ex.one7, Ex.one8, eOk, eKids, eName, eArg, eN, eS, eOp, eA, eB, eMust, noteB, namedB, nil8_size, ex_none]
theorem fun0_right {s : ByteArray} {e : Ex} (hs : nameB s = true) (he : e.right = true) : (fun0 s e).right = true := by
  rw [Ex.right_eq]
  simp [fun0, funEx, Ex.one, Ex.one1, Ex.one2, Ex.one3, Ex.one4, Ex.one5, Ex.one6, Ex.one7, Ex.one8, eOk, eKids, eName, eArg, eN, eS, eOp, eA, eB, eMust, noteB, namedB, nil8_size, ex_none, hs, he]
theorem letEx_right {s : ByteArray} {e f : Ex} (hs : nameB s = true) (he : e.right = true) (hf : f.right = true) : (letEx s f e).right = true := by
  rw [Ex.right_eq]
  simp [letEx, Ex.one, Ex.one1, Ex.one2, Ex.one3, Ex.one4, Ex.one5, Ex.one6, Ex.one7, Ex.one8, eOk, eKids, eName, eArg, eN, eS, eOp, eA, eB, eMust, noteB, namedB, nil8_size, ex_none, hs, he, hf]
theorem recEx_right {s : ByteArray} {e : Ex} (hs : nameB s = true) (he : e.right = true) : (recEx s e).right = true := by
  rw [Ex.right_eq]
  simp [recEx, Ex.one, Ex.one1, Ex.one2, Ex.one3, Ex.one4, Ex.one5, Ex.one6, Ex.one7, Ex.one8, eOk, eKids, eName, eArg, eN, eS, eOp, eA, eB, eMust, noteB, namedB, nil8_size, ex_none, hs, he, qName_name, unitEx_right]
theorem patA_names (s : ByteArray) : (patA s).names = [s] := by
  have h1 : ∀ l, (Pat.mk 1 0 0 nil8 0 nil8 []).namesOn l = l := fun l => by rw [Pat.namesOn_eq]; simp
  have h2 : ∀ l, (Pat.mk 2 0 0 s 0 nil8 []).namesOn l = l ++ [s] := fun l => by rw [Pat.namesOn_eq]; simp
  rw [Pat.names, Pat.namesOn_eq]
  simp [patA, h1, h2]
theorem patA_right {s : ByteArray} (hs : nameB s = true) : (patA s).right = true := by
  have h1 : (Pat.mk 1 0 0 nil8 0 nil8 []).pat = true := by rw [Pat.pat_eq]; simp [Pat.one]
  have h2 : (Pat.mk 2 0 0 s 0 nil8 []).pat = true := by rw [Pat.pat_eq]; simp [Pat.one, hs]
  have h3 : (patA s).pat = true := by rw [Pat.pat_eq]; simp [Pat.one, patA, h1, h2]
  rw [Pat.right, patA_names, h3]
  simp
theorem armEx_right {s : ByteArray} {e : Ex} (hs : nameB s = true) (he : e.right = true) : (armEx s e).right = true := by
  rw [Ex.right_eq]
  simp [armEx, Ex.one, Ex.one1, Ex.one2, Ex.one3, Ex.one4, Ex.one5, Ex.one6, Ex.one7, Ex.one8, eOk, eKids, eName, eArg, eN, eS, eOp, eA, eB, eMust, noteB, namedB, nil8_size, ex_none, he, patA_right hs, unitEx_right]

theorem unitEx_fr (L : List ByteArray) : unitEx.fr L = [] := by
  rw [Ex.fr_eq]
  simp [unitEx, Ex.frL_nil]
theorem fun0_fr (s : ByteArray) (e : Ex) : (fun0 s e).fr [] = e.fr [s] := by
  rw [Ex.fr_eq]
  show _ ++ Ex.frL (fun0 s e).binds 0 [e] [] = _
  rw [Ex.frL_cons, Ex.frL_nil]
  simp [fun0, funEx, Ex.binds]
theorem letEx_fr (s : ByteArray) (f e : Ex) : (letEx s f e).fr [] = f.fr [] ++ e.fr [s] := by
  rw [Ex.fr_eq]
  show _ ++ Ex.frL (letEx s f e).binds 0 [f, e] [] = _
  rw [Ex.frL_cons, Ex.frL_cons, Ex.frL_nil]
  simp [letEx, Ex.binds]
theorem recEx_fr (s : ByteArray) (e : Ex) : (recEx s e).fr [] = e.fr [s, qName] := by
  rw [Ex.fr_eq]
  show _ ++ Ex.frL (recEx s e).binds 0 [e, unitEx] [] = _
  rw [Ex.frL_cons, Ex.frL_cons, Ex.frL_nil, unitEx_fr]
  simp [recEx, Ex.binds]
theorem armEx_fr (s : ByteArray) (e : Ex) : (armEx s e).fr [] = e.fr [s] := by
  rw [Ex.fr_eq]
  show _ ++ Ex.frL (armEx s e).binds 0 [unitEx, e] [] = _
  rw [Ex.frL_cons, Ex.frL_cons, Ex.frL_nil, unitEx_fr]
  simp [armEx, Ex.binds, patA_names]

theorem Ex.fr_free (e : Ex) (L : List ByteArray) (x : ByteArray) : x ∈ e.fr L ↔ x ∈ e.free ∧ x ∉ L := by
  rw [Ex.mem_free]
  exact Ex.fr_more e L [] x (by simp)
/-- All but one. -/
def but (s : ByteArray) (l : List ByteArray) : List ByteArray := l.filter fun x => !decide (x = s)
theorem mem_but {s x : ByteArray} {l : List ByteArray} : x ∈ but s l ↔ x ∈ l ∧ x ≠ s := by simp [but]
theorem but_rises {s : ByteArray} {l : List ByteArray} (h : Rises l) : Rises (but s l) := List.Pairwise.filter _ h
theorem but_len (s : ByteArray) (l : List ByteArray) : (but s l).length ≤ l.length := List.length_filter_le _ _

theorem fun0_free (s : ByteArray) (e : Ex) : (fun0 s e).free = but s e.free := by
  refine Rises.eq (Ex.free_rises _) (but_rises e.free_rises) fun x => ?_
  rw [Ex.mem_free, fun0_fr, Ex.fr_free, mem_but]
  simp
theorem armEx_free (s : ByteArray) (e : Ex) : (armEx s e).free = but s e.free := by
  refine Rises.eq (Ex.free_rises _) (but_rises e.free_rises) fun x => ?_
  rw [Ex.mem_free, armEx_fr, Ex.fr_free, mem_but]
  simp
theorem recEx_free (s : ByteArray) (e : Ex) : (recEx s e).free = but qName (but s e.free) := by
  refine Rises.eq (Ex.free_rises _) (but_rises (but_rises e.free_rises)) fun x => ?_
  rw [Ex.mem_free, recEx_fr, Ex.fr_free, mem_but, mem_but]
  simp [and_assoc]
theorem letEx_free (s : ByteArray) (f e : Ex) : (letEx s f e).free = (but s e.free).foldl rise f.free := by
  refine Rises.eq (Ex.free_rises _) (rises_rises f.free_rises) fun x => ?_
  rw [Ex.mem_free, letEx_fr, List.mem_append, Ex.fr_free e [s], mem_rises, mem_but, ← Ex.mem_free]
  simp

theorem Ex.fr_size (t : Ex) : ∀ (L : List ByteArray) (x : ByteArray), x ∈ t.fr L → x.size ≤ t.mass := by
  induction t using Ex.ind with
  | h t ih =>
    intro L x hx
    rcases Ex.mem_fr.1 hx with ⟨-, rfl, -⟩ | ⟨j, k, hk, hx⟩
    · exact Nat.le_of_lt t.mass_name
    · have h1 := ih k (Ex.kid_mem hk) _ x hx
      have h2 := Ex.mass_kid (Ex.kid_mem hk)
      omega

theorem lt_geq {a b : ByteArray} (h : key8 a < key8 b) : dBin .geq (.str a) (.str b) = some (.bool false) := by
  have h1 := dBin_slss a b
  have h2 : strLt a b = true := by simp only [strLt, decide_eq_true_eq]; exact h
  rw [h2] at h1
  have h3 : bytesLt a.toList b.toList = true := by
    have h4 : some (DV.bool (bytesLt a.toList b.toList)) = some (.bool true) := h1
    simpa using h4
  show some (DV.bool (!bytesLt a.toList b.toList)) = _
  rw [h3]
  rfl
theorem dApp_str1 (l : List ByteArray) (s : ByteArray) (h : l.length + 1 ≤ lim) : dApp 1 (encStrs l) (.list 1 [.str s]) = some (encStrs (l ++ [s])) := by
  simp [dApp, encStrs, h]

theorem unit_agg : DV.agg [.int .i64 5, .int .i64 0, .int .i64 0, .str ⟨#[]⟩, .str ⟨#[]⟩, .int .i64 0, .str ⟨#[]⟩, .int .i64 0, .int .i64 0, .int .i64 0, .list 3 [], .int .i64 0, .int .i64 0, .list 3 [], .list 7 [], .list 16 []] = unitEx.enc := by
  rw [Ex.enc_eq]; rfl
theorem fun0_agg (s : ByteArray) (e : Ex) : DV.agg [.int .i64 9, .int .i64 0, .int .i64 0, .str s, .str ⟨#[]⟩, .int .i64 0, .str ⟨#[]⟩, .int .i64 0, .int .i64 0, .int .i64 0, .list 3 [], .int .i64 0, .int .i64 0, .list 3 [], .list 7 [], .list 16 [e.enc]] = (fun0 s e).enc := by
  rw [Ex.enc_eq (fun0 s e)]; rfl
theorem let_agg (s : ByteArray) (f e : Ex) : DV.agg [.int .i64 11, .int .i64 0, .int .i64 0, .str s, .str ⟨#[]⟩, .int .i64 0, .str ⟨#[]⟩, .int .i64 0, .int .i64 0, .int .i64 0, .list 3 [], .int .i64 0, .int .i64 0, .list 3 [], .list 7 [], .list 16 [f.enc, e.enc]] = (letEx s f e).enc := by
  rw [Ex.enc_eq (letEx s f e)]; rfl
theorem rec_agg (s : ByteArray) (e : Ex) : DV.agg [.int .i64 12, .int .i64 0, .int .i64 0, .str s, .str ⟨#[113]⟩, .int .i64 0, .str ⟨#[]⟩, .int .i64 0, .int .i64 0, .int .i64 0, .list 3 [], .int .i64 0, .int .i64 0, .list 3 [], .list 7 [], .list 16 [e.enc, unitEx.enc]] = (recEx s e).enc := by
  rw [Ex.enc_eq (recEx s e)]; rfl
theorem patA_agg (s : ByteArray) : DV.agg [.int .i64 7, .int .i64 0, .int .i64 0, .str ⟨#[]⟩, .int .i64 0, .str ⟨#[]⟩, .list 7 [.agg [.int .i64 1, .int .i64 0, .int .i64 0, .str ⟨#[]⟩, .int .i64 0, .str ⟨#[]⟩, .list 7 []], .agg [.int .i64 2, .int .i64 0, .int .i64 0, .str s, .int .i64 0, .str ⟨#[]⟩, .list 7 []]]] = (patA s).enc := by
  have h1 : (Pat.mk 1 0 0 nil8 0 nil8 []).enc = .agg [.int .i64 1, .int .i64 0, .int .i64 0, .str ⟨#[]⟩, .int .i64 0, .str ⟨#[]⟩, .list 7 []] := by rw [Pat.enc_eq]; rfl
  have h2 : (Pat.mk 2 0 0 s 0 nil8 []).enc = .agg [.int .i64 2, .int .i64 0, .int .i64 0, .str s, .int .i64 0, .str ⟨#[]⟩, .list 7 []] := by rw [Pat.enc_eq]; rfl
  rw [Pat.enc_eq (patA s), ← h1, ← h2]; rfl
theorem arm_agg (s : ByteArray) (e : Ex) : DV.agg [.int .i64 14, .int .i64 0, .int .i64 0, .str ⟨#[]⟩, .str ⟨#[]⟩, .int .i64 0, .str ⟨#[]⟩, .int .i64 0, .int .i64 0, .int .i64 0, .list 3 [], .int .i64 0, .int .i64 0, .list 3 [], .list 7 [(patA s).enc], .list 16 [unitEx.enc, e.enc]] = (armEx s e).enc := by
  rw [Ex.enc_eq (armEx s e)]; rfl

theorem law_treefree (e f : Ex) (w : Int) (hm : e.mass + f.mass ≤ 1048576) : (run cfg).p F_l05_TreeFree [e.enc, f.enc, .int .i64 w] = some (.bool true) := by
  have fe : e.fit := Ex.fit_mass (by omega)
  have ff : f.fit := Ex.fit_mass (by omega)
  have me2 : 2 * e.mass ≤ lim := by unfold lim; omega
  have mf2 : 2 * f.mass ≤ lim := by unfold lim; omega
  obtain ⟨b1, h1, -⟩ := sp_l05_Heavy [e, f] (by simp) (by simp [fe, ff])
  simp only [List.map_cons, List.map_nil] at h1
  refine call_l05_TreeFree _ _ _ ?_
  rw [eq_l05_TreeFree]
  have c1 := sp_tree_Free e fe me2
  have c2 := sp_tree_Free f ff mf2
  simp only [exx, isAggN_Ex, og_true', h1, ob_some', ogd_bool, oif_bool, sp_r05_Right e fe, sp_r05_Right f ff, dUn_not, c1]
  cases b1
  rotate_left
  · simp
  cases re : e.right
  · simp
  cases rf : f.right
  · simp
  rw [rf] at c2
  simp only [if_true] at c2
  have hl : e.free.length ≤ 1048576 := by have := e.free_len; have := e.size_mass; omega
  have hlf : f.free.length ≤ 1048576 := by have := f.free_len; have := f.size_mass; omega
  have hlim : e.free.length ≤ lim := by unfold lim; omega
  have p7 : ∀ s : ByteArray, nameB s = true → s.size ≤ 1048576 → P_l05_TreeFree_7 (run cfg) (encStrs e.free) (.str s) e.enc f.enc = some (.bool true) := by
    intro s hs hz
    have bl := but_len s e.free
    have hq1 : qName.size = 1 := rfl
    have um : unitEx.mass = 3 := by simp [unitEx, Ex.mass_eq, Ty.size_eq, nil8_size]
    have pm : (patA s).mass = 3 + s.size := by simp [patA, Pat.mass_eq (.mk _ _ _ _ _ _ _), nil8_size]; omega
    have m1 : (fun0 s e).mass ≤ 4000000 := by
      simp [fun0, funEx, Ex.mass_eq (.mk _ _ _ _ _ _ _ _ _ _ _ _), Ty.size_eq, nil8_size]; omega
    have m2 : (letEx s f e).mass ≤ 4000000 := by
      simp [letEx, Ex.mass_eq (.mk _ _ _ _ _ _ _ _ _ _ _ _), Ty.size_eq, nil8_size]; omega
    have m3 : (recEx s e).mass ≤ 4000000 := by
      simp [recEx, Ex.mass_eq (.mk _ _ _ _ _ _ _ _ _ _ _ _), Ty.size_eq, nil8_size, um, hq1]; omega
    have m4 : (armEx s e).mass ≤ 4000000 := by
      simp [armEx, Ex.mass_eq (.mk _ _ _ _ _ _ _ _ _ _ _ _), Ty.size_eq, nil8_size, um, pm]; omega
    have g1 := sp_tree_Free (fun0 s e) (Ex.fit_mass (by omega)) (by unfold lim; omega)
    have g2 := sp_tree_Free (letEx s f e) (Ex.fit_mass (by omega)) (by unfold lim; omega)
    have g3 := sp_tree_Free (recEx s e) (Ex.fit_mass (by omega)) (by unfold lim; omega)
    have g4 := sp_tree_Free (armEx s e) (Ex.fit_mass (by omega)) (by unfold lim; omega)
    rw [fun0_right hs re, fun0_free] at g1
    rw [letEx_right hs re rf, letEx_free] at g2
    rw [recEx_right hs re, recEx_free] at g3
    rw [armEx_right hs re, armEx_free] at g4
    simp only [if_true] at g1 g2 g3 g4
    have k1 := sp_keep_Texts (but s e.free) (but s e.free) (by unfold lim; omega)
    have rl := rises_len f.free (but s e.free)
    have k2 := sp_keep_Texts ((but s e.free).foldl rise f.free) ((but s e.free).foldl rise f.free) (by unfold lim; omega)
    have bl2 := but_len qName (but s e.free)
    have k3 := sp_keep_Texts (but qName (but s e.free)) (but qName (but s e.free)) (by unfold lim; omega)
    have ep : patA s = patA s := rfl
    rw [eq_l05_TreeFree_7]
    -- the names that are left
    refine loop_filter (F := e.free) (c := fun x => !decide (x = s)) (P := fun i a => P_l05_TreeFree_9h (run cfg) (encStrs e.free) (.str s) (encStrs a) (.int .i64 i) e.enc f.enc) ?_ ?_
    rotate_left
    · intro j h a ha
      have e13 : ∀ t9 : DV, P_l05_TreeFree_13 (run cfg) (encStrs e.free) (.str s) t9 (.int .i64 (j : Int)) e.enc f.enc = P_l05_TreeFree_9h (run cfg) (encStrs e.free) (.str s) t9 (.int .i64 ((j : Int) + 1)) e.enc f.enc := by
        intro t9
        rw [eq_l05_TreeFree_13]
        have ad := dAddi (i := j) (by omega)
        cases j with
        | zero => simp only [dBin_gtr, Int.ofNat_zero, Int.natCast_zero, Int.cast_ofNat_Int, Int.lt_irrefl, decide_false, ob_some', ogd_bool, Bool.false_eq_true, if_false] at ad ⊢; simp at ad ⊢; simp [ad]
        | succ i =>
          have hp : (0 : Int) < ((i + 1 : Nat) : Int) := by omega
          have sb : dBin .sub (.int .i64 ((i + 1 : Nat) : Int)) (.int .i64 1) = some (.int .i64 (i : Int)) := by
            rw [dBin_sub, wrap_id (by omega) (by omega)]
            congr 2
            omega
          have hi : i < e.free.length := by omega
          have lt : key8 e.free[i] < key8 e.free[i + 1] := List.pairwise_iff_getElem.1 e.free_rises i (i + 1) hi h (by omega)
          simp only [dBin_gtr, hp, decide_true, ob_some', ogd_bool, if_true, sb, dIdx_strs hi, dIdx_strs h, isLeaf_str, og_true', lt_geq lt, oif_bool, Bool.false_eq_true, if_false, ad]
      show P_l05_TreeFree_9h (run cfg) (encStrs e.free) (.str s) (encStrs a) (.int .i64 (j : Int)) e.enc f.enc = _
      rw [eq_l05_TreeFree_9h]
      have ap := dApp_str1 a e.free[j] (by unfold lim; omega)
      simp only [dLen_strs, dBin_lss, Int.ofNat_lt, h, decide_true, ob_some', oif_bool, if_true, dIdx_strs h, isLeaf_str, isCell_str, og_true', dBin_sneq, ap, e13]
      by_cases hc : e.free[j] = s <;> simp [hc]
    show P_l05_TreeFree_9h (run cfg) (encStrs e.free) (.str s) (encStrs (but s e.free)) (.int .i64 (e.free.length : Int)) e.enc f.enc = _
    rw [eq_l05_TreeFree_9h]
    simp only [dLen_strs, dBin_lss, Int.lt_irrefl, decide_false, ob_some', oif_bool, Bool.false_eq_true, if_false, isCell_str, og_true', exx, let_agg, g2, c2, unit_agg, patA_agg]
    -- those of let
    refine (loop_fold (l := but s e.free) (P := fun i (a : List ByteArray) => P_l05_TreeFree_22h (run cfg) (encStrs (but s e.free)) (encStrs ((but s e.free).foldl rise f.free)) (encStrs a) (.int .i64 i) (.int .i64 9) (.int .i64 0) (.int .i64 0) (.str s) (.str ⟨#[]⟩) (.int .i64 0) (.str ⟨#[]⟩) (.int .i64 0) (.int .i64 0) (.int .i64 0) (.list 3 []) (.int .i64 0) (.int .i64 0) (.list 3 []) (.list 7 []) (.list 16 [e.enc])
        (.int .i64 12) (.int .i64 0) (.int .i64 0) (.str s) (.str ⟨#[113]⟩) (.int .i64 0) (.str ⟨#[]⟩) (.int .i64 0) (.int .i64 0) (.int .i64 0) (.list 3 []) (.int .i64 0) (.int .i64 0) (.list 3 []) (.list 7 []) (.list 16 [e.enc, unitEx.enc])
        (.int .i64 14) (.int .i64 0) (.int .i64 0) (.str ⟨#[]⟩) (.str ⟨#[]⟩) (.int .i64 0) (.str ⟨#[]⟩) (.int .i64 0) (.int .i64 0) (.int .i64 0) (.list 3 []) (.int .i64 0) (.int .i64 0) (.list 3 []) (.list 7 [(patA s).enc]) (.list 16 [unitEx.enc, e.enc]))
      (g := rise) (fin := fun a => if a = (but s e.free).foldl rise f.free then some (.bool true) else none) (I := fun i a => a.length ≤ f.free.length + i ∧ a = ((but s e.free).take i).foldl rise f.free) ?_ ?_ f.free ⟨by omega, by simp⟩).trans (by simp)
    · rintro a ⟨-, ha⟩
      rw [List.take_length] at ha
      subst ha
      rw [if_pos rfl]
      show P_l05_TreeFree_22h (run cfg) (encStrs (but s e.free)) _ _ (.int .i64 ((but s e.free).length : Int)) _ _ _ _ _ _ _ _ _ _ _ _ _ _ _ _ _ _ _ _ _ _ _ _ _ _ _ _ _ _ _ _ _ _ _ _ _ _ _ _ _ _ _ _ _ _ _ _ = _
      rw [eq_l05_TreeFree_22h]
      simp only [dLen_strs, dBin_lss, Int.lt_irrefl, decide_false, ob_some', oif_bool, Bool.false_eq_true, if_false]
      -- those of let rec
      refine loop_filter (F := but s e.free) (c := fun x => !decide (x = qName)) (P := fun i a => P_l05_TreeFree_27h (run cfg) (encStrs (but s e.free)) (encStrs ((but s e.free).foldl rise f.free)) (encStrs ((but s e.free).foldl rise f.free)) (encStrs a) (.int .i64 i) (.int .i64 9) (.int .i64 0) (.int .i64 0) (.str s) (.str ⟨#[]⟩) (.int .i64 0) (.str ⟨#[]⟩) (.int .i64 0) (.int .i64 0) (.int .i64 0) (.list 3 []) (.int .i64 0) (.int .i64 0) (.list 3 []) (.list 7 []) (.list 16 [e.enc])
        (.int .i64 12) (.int .i64 0) (.int .i64 0) (.str s) (.str ⟨#[113]⟩) (.int .i64 0) (.str ⟨#[]⟩) (.int .i64 0) (.int .i64 0) (.int .i64 0) (.list 3 []) (.int .i64 0) (.int .i64 0) (.list 3 []) (.list 7 []) (.list 16 [e.enc, unitEx.enc])
        (.int .i64 14) (.int .i64 0) (.int .i64 0) (.str ⟨#[]⟩) (.str ⟨#[]⟩) (.int .i64 0) (.str ⟨#[]⟩) (.int .i64 0) (.int .i64 0) (.int .i64 0) (.list 3 []) (.int .i64 0) (.int .i64 0) (.list 3 []) (.list 7 [(patA s).enc]) (.list 16 [unitEx.enc, e.enc])) ?_ ?_
      rotate_left
      · intro j h a ha
        show P_l05_TreeFree_27h (run cfg) (encStrs (but s e.free)) _ _ (encStrs a) (.int .i64 (j : Int)) _ _ _ _ _ _ _ _ _ _ _ _ _ _ _ _ _ _ _ _ _ _ _ _ _ _ _ _ _ _ _ _ _ _ _ _ _ _ _ _ _ _ _ _ _ _ _ _ = _
        rw [eq_l05_TreeFree_27h]
        have ap := dApp_str1 a (but s e.free)[j] (by unfold lim; omega)
        have ad := dAddi (i := j) (by omega)
        have ne : ∀ x : ByteArray, dBin .neq (.str x) (.str ⟨#[113]⟩) = some (.bool (!decide (x = qName))) := fun x => dBin_sneq x qName
        simp only [dLen_strs, dBin_lss, Int.ofNat_lt, h, decide_true, ob_some', oif_bool, if_true, dIdx_strs h, isLeaf_str, isCell_str, og_true', ne, ap, ad]
        by_cases hc : (but s e.free)[j] = qName <;> simp [hc]
      show P_l05_TreeFree_27h (run cfg) (encStrs (but s e.free)) _ _ (encStrs (but qName (but s e.free))) (.int .i64 ((but s e.free).length : Int)) _ _ _ _ _ _ _ _ _ _ _ _ _ _ _ _ _ _ _ _ _ _ _ _ _ _ _ _ _ _ _ _ _ _ _ _ _ _ _ _ _ _ _ _ _ _ _ _ = _
      rw [eq_l05_TreeFree_27h]
      simp only [dLen_strs, dBin_lss, Int.lt_irrefl, decide_false, ob_some', oif_bool, Bool.false_eq_true, if_false, fun0_agg, rec_agg, arm_agg, g1, g3, g4, k1, k2, k3, ogd_bool, decide_true, if_true, w_l05_wakes]
    · rintro i h a ⟨ha, hb⟩
      refine ⟨?_, ?_, ?_⟩
      · show P_l05_TreeFree_22h (run cfg) (encStrs (but s e.free)) _ (encStrs a) (.int .i64 (i : Int)) _ _ _ _ _ _ _ _ _ _ _ _ _ _ _ _ _ _ _ _ _ _ _ _ _ _ _ _ _ _ _ _ _ _ _ _ _ _ _ _ _ _ _ _ _ _ _ _ = _
        rw [eq_l05_TreeFree_22h]
        have ri := sp_r05_Rise a (but s e.free)[i] (by unfold lim; omega)
        simp only [dLen_strs, dBin_lss, Int.ofNat_lt, h, decide_true, ob_some', oif_bool, if_true, dIdx_strs h, isLeaf_str, og_true', ri, dAddi (show i < 9223372036854775807 by omega)]
      · have := rise_len a (but s e.free)[i]
        omega
      · rw [List.take_succ_eq_append_getElem h, List.foldl_append, ← hb]
        rfl
  simp only [Bool.false_eq_true, if_false, if_true, Bool.not_true, dLen_strs, dBin_gtr, ob_some', oif_bool]
  by_cases h0 : e.free.length = 0
  · have := p7 qName qName_name (by decide)
    simpa [h0, qName] using this
  · have hp : (0 : Int) < (e.free.length : Int) := by omega
    obtain ⟨r, hr, hk⟩ := sp_keep_Int w e.free.length (by omega) hlim
    have hmem : e.free[r] ∈ e.free := List.getElem_mem hr
    have hn := Ex.name_fr e re [] _ (Ex.mem_free.1 hmem)
    have hsz : e.free[r].size ≤ 1048576 := by
      have := Ex.fr_size e [] _ (Ex.mem_free.1 hmem)
      omega
    simp only [hp, decide_true, if_true, hk, ob_some', dIdx_strs hr, isLeaf_str, og_true']
    exact p7 _ hn hsz

end Go.Su
