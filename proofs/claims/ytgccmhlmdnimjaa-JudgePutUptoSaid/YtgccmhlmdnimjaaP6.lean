/-
  Parts of the proof, merged: Q, W, L.
-/
import Derived.Test.YtgccmhlmdnimjaaP3
import Derived.Test.YtgccmhlmdnimjaaP4
import Derived.Test.YtgccmhlmdnimjaaP5
/-
  The functions' specs that this claim needs.
-/
namespace Go.Su
set_option linter.unusedVariables false
set_option linter.unusedSimpArgs false

theorem big {n : Nat} (h : n ≤ lim) : n < 4294967297 := by unfold lim at h; omega

theorem Ty.kid_big {t k : Ty} (ht : t.size ≤ lim) (h : k ∈ t.kids) : k.size ≤ lim := by have := Ty.size_kid h; omega

theorem Ty.len_big {t : Ty} (ht : t.size ≤ lim) : t.kids.length < 4294967296 := by have := t.len_lt; have := big ht; omega

theorem sp_r03_Kids (k : Int) : (run cfg).p F_r03_Kids [.int .i64 k] = some (.int .i64 (arity k)) := by
  refine call_r03_Kids _ ?_
  rw [eq_r03_Kids]
  simp [arity]
  by_cases h1 : k = 1 <;> by_cases h2 : k = 2 <;> by_cases h3 : k = 3 <;> by_cases h4 : k = 4 <;> by_cases h5 : k = 5 <;> by_cases h6 : k = 6 <;> by_cases h7 : k = 7 <;> by_cases h8 : k = 8 <;> by_cases h9 : k = 9 <;> simp_all

theorem sp_typ_arity (k : Int) : (run cfg).p F_typ_arity [.int .i64 k] = some (.int .i64 (arity k)) := by
  refine call_typ_arity _ ?_
  rw [eq_typ_arity]
  simp [arity]
  by_cases h1 : k = 1 <;> by_cases h2 : k = 2 <;> by_cases h3 : k = 3 <;> by_cases h4 : k = 4 <;> by_cases h5 : k = 5 <;> by_cases h6 : k = 6 <;> by_cases h7 : k = 7 <;> by_cases h8 : k = 8 <;> by_cases h9 : k = 9 <;> simp_all

theorem sp_r03_Right (t : Ty) : t.thin = true → (run cfg).p F_r03_Right [t.enc] = some (.bool t.right) := by
  induction t using Ty.ind with
  | h t ih =>
    intro ht
    have hb := t.thin_len ht
    refine call_r03_Right _ ?_
    have loop : P_r03_Right_4h (run cfg) (.int .i64 0) t.enc = _ := loop_all (l := t.kids) (f := Ty.right) (P := fun i => P_r03_Right_4h (run cfg) (.int .i64 i) t.enc) (y := .bool true) (n := .bool false)
      (by rw [eq_r03_Right_4h]; simp)
      (fun i h => by
        rw [eq_r03_Right_4h]
        simp [h, dIdx_map h, Ty.eta, ih _ (List.getElem_mem h) (Ty.thin_kid ht (List.getElem_mem h)), dAdd1 (show i < 9223372036854775807 by omega)]
        cases t.kids[i].right <;> rfl)
    rw [eq_r03_Right]
    simp only [isAggN_Ty, og_true', Ty.proj0, Ty.proj1, Ty.proj2, sp_r03_Kids, ob_some', dLen_list, dBin_neq, dBin_lss, dBin_gtr, ogd_bool, oif_bool, loop, Ty.right_eq t, List.length_map]
    grind

theorem sp_typ_right (t : Ty) : t.thin = true → (run cfg).p F_typ_right [t.enc] = some (.bool t.right) := by
  induction t using Ty.ind with
  | h t ih =>
    intro ht
    have hb := t.thin_len ht
    refine call_typ_right _ ?_
    have loop : P_typ_right_9h (run cfg) (.list 3 (t.kids.map Ty.enc)) (.int .i64 t.kids.length) (.int .i64 0) = _ := loop_all (l := t.kids) (f := Ty.right) (P := fun i => P_typ_right_9h (run cfg) (.list 3 (t.kids.map Ty.enc)) (.int .i64 t.kids.length) (.int .i64 i)) (y := .bool true) (n := .bool false)
      (by rw [eq_typ_right_9h]; simp)
      (fun i h => by
        rw [eq_typ_right_9h]
        simp [h, dIdx_map h, Ty.eta, ih _ (List.getElem_mem h) (Ty.thin_kid ht (List.getElem_mem h)), dAdd1 (show i < 9223372036854775807 by omega)]
        cases t.kids[i].right <;> rfl)
    rw [eq_typ_right]
    simp only [isAggN_Ty, og_true', Ty.proj0, Ty.proj1, Ty.proj2, sp_typ_arity, ob_some', dLen_list, dBin_neq, dBin_lss, dBin_gtr, dBin_geq, dBin_leq, dBin_eql, ogd_bool, oif_bool, loop, Ty.right_eq t, List.length_map]
    have h0 : t.kind = 6 → arity t.kind = 0 := fun h => by rw [h]; rfl
    have h7 : t.kind = 6 → arity t.kind = t.kids.length → t.kids.all Ty.right = true := fun h h' => by
      have : t.kids = [] := List.eq_nil_of_length_eq_zero (by have := h0 h; omega)
      rw [this]; rfl
    have h8 : (t.kids.length : Int) = arity t.kind ↔ arity t.kind = t.kids.length := eq_comm
    simp only [h8, ite_sb, ite_db]
    refine sb_iff ?_
    by_cases h1 : arity t.kind = t.kids.length
    · have h2 : ¬ (arity t.kind < 0) := by omega
      by_cases h4 : t.kind = 6
      · simp [h1, h2, h4, h7 h4 h1]
        omega
      · by_cases h5 : t.n = 0 <;> simp [h1, h2, h4, h5]
    · by_cases h2 : arity t.kind < 0 <;> simp [h1, h2]

theorem sp_typ_Check (t : Ty) (ht : t.thin = true) : (run cfg).p F_typ_Check [t.enc] = some (.int .i64 (if t.right = true then 0 else 1)) := by
  refine call_typ_Check _ ?_
  rw [eq_typ_Check]
  simp [Ty.eta, sp_typ_right t ht]
  cases t.right <;> rfl

theorem sp_r03_Size (t : Ty) : t.size ≤ lim → (run cfg).p F_r03_Size [t.enc] = some (.int .i64 t.size) := by
  induction t using Ty.ind with
  | h t ih =>
    intro ht
    have hb := Ty.len_big ht
    refine call_r03_Size _ ?_
    rw [eq_r03_Size]
    simp only [isAggN_Ty, og_true']
    have loop := loop_fold (l := t.kids) (P := fun i (a : Nat) => P_r03_Size_3h (run cfg) (.int .i64 a) (.int .i64 i) t.enc) (g := fun a k => a + k.size) (fin := fun a => some (.int .i64 a))
      (I := fun i a => a + ((t.kids.drop i).map Ty.size).sum ≤ lim)
      (fun a _ => by rw [eq_r03_Size_3h]; simp)
      (fun i h a ha => by
        rw [List.drop_eq_getElem_cons h, List.map_cons, List.sum_cons] at ha
        have := big ha
        refine ⟨?_, by omega⟩
        rw [eq_r03_Size_3h]
        simp [h, dIdx_map h, Ty.eta, ih _ (List.getElem_mem h) (Ty.kid_big ht (List.getElem_mem h)), dAdd1 (show i < 9223372036854775807 by omega)]
        rw [dAdd (by omega) (by omega)]
        simp) 1 (by have := Ty.size_eq t; simpa using (by omega : 1 + (t.kids.map Ty.size).sum ≤ lim))
    have e : ∀ (l : List Ty) (a : Nat), l.foldl (fun a k => a + k.size) a = a + (l.map Ty.size).sum := by
      intro l
      induction l with
      | nil => intro a; simp
      | cons x l ih => intro a; simp [ih]; omega
    rw [e, ← Ty.size_eq] at loop
    exact loop

theorem sp_keep_Same (a : Ty) : a.thin = true → ∀ b : Ty, (run cfg).p F_keep_Same [a.enc, b.enc] = some (.bool (decide (a = b))) := by
  induction a using Ty.ind with
  | h a ih =>
    intro ha b
    have hb := a.thin_len ha
    refine call_keep_Same _ _ ?_
    rw [eq_keep_Same]
    simp
    by_cases h1 : a.kind = b.kind <;> simp [h1, Ty.ext_iff']
    by_cases h2 : a.n = b.n <;> simp [h2]
    by_cases h3 : a.kids.length = b.kids.length
    · have loop := loop_two (l := a.kids) (m := b.kids) h3 (P := fun i => P_keep_Same_4h (run cfg) (.int .i64 i) a.enc b.enc) (y := .bool true) (n := .bool false)
        (by rw [eq_keep_Same_4h]; simp [h3])
        (fun i h => by
          have h' : i < b.kids.length := by omega
          rw [eq_keep_Same_4h]
          simp [h, h', dIdx_map h, dIdx_map h', Ty.eta, ih _ (List.getElem_mem h) (Ty.thin_kid ha (List.getElem_mem h)), dAdd1 (show i < 9223372036854775807 by omega)])
      simp only [h3] at loop ⊢
      simp [loop]
      by_cases h4 : a.kids = b.kids <;> simp [h4]
    · have : a.kids ≠ b.kids := fun h => h3 (by rw [h])
      simp [Int.ofNat_inj, h3, this]

theorem sp_r03_In (l : List Int) (hl : l.length ≤ lim) (n : Int) : (run cfg).p F_r03_In [encInts l, .int .i64 n] = some (.bool (decide (n ∈ l))) := by
  have hb := big hl
  refine call_r03_In _ _ ?_
  rw [eq_r03_In]
  have loop := loop_anyB (l := l) (f := fun x => decide (x = n)) (P := fun i => P_r03_In_2h (run cfg) (encInts l) (.int .i64 n) (.int .i64 i))
    (by rw [eq_r03_In_2h]; simp)
    (fun i h => by
      rw [eq_r03_In_2h]
      simp [h, dIdx_ints h, dAdd1 (show i < 9223372036854775807 by omega)])
  refine loop.trans ?_
  congr 2
  rw [Bool.eq_iff_iff]
  simp

theorem sp_r03_vars (t : Ty) : ∀ (l : List Int) (sg : List SObj), l.length + t.size ≤ lim → (run cfg).r F_r03_vars [(t.enc, .val), (encInts l, .own)] sg = some ([encInts (t.varsOn l)], sg) := by
  induction t using Ty.ind with
  | h t ih =>
    intro l sg hl
    have hb := Ty.len_big (show t.size ≤ lim by omega)
    have hB := big hl
    refine call_r03_vars _ _ _ ?_
    have loop : ∀ l : List Int, l.length + (t.kids.map Ty.size).sum ≤ lim → P_r03_vars_4h (run cfg) (encInts l) (.int .i64 0) t.enc sg = some ([encInts (t.kids.foldl (fun l k => k.varsOn l) l)], sg) :=
      loop_fold (l := t.kids) (P := fun i (a : List Int) => P_r03_vars_4h (run cfg) (encInts a) (.int .i64 i) t.enc sg) (g := fun a k => k.varsOn a) (fin := fun a => some ([encInts a], sg))
        (I := fun i a => a.length + ((t.kids.drop i).map Ty.size).sum ≤ lim)
        (fun a _ => by rw [eq_r03_vars_4h]; simp)
        (fun i h a ha => by
          rw [List.drop_eq_getElem_cons h, List.map_cons, List.sum_cons] at ha
          have h1 := Ty.varsOn_len t.kids[i] a
          refine ⟨?_, by omega⟩
          rw [eq_r03_vars_4h]
          simp [h, dIdx_map h, Ty.eta, ih _ (List.getElem_mem h) a sg (by omega), dAdd1 (show i < 9223372036854775807 by omega)])
    have hsz := Ty.size_eq t
    rw [eq_r03_vars, Ty.varsOn_eq]
    simp
    by_cases h6 : t.kind = 6
    · simp [h6, sp_r03_In l (by omega) t.n]
      by_cases hn : t.n ∈ l
      · simp [hn, eq_r03_vars_3, loop l (by omega)]
      · simp [hn, eq_r03_vars_3]
        rw [show encInts l = .list 1 (l.map fun n => .int .i64 n) from rfl, dApp_list (by simp; omega)]
        simp
        have := loop (l ++ [t.n]) (by simp; omega)
        simpa [encInts] using this
    · simp [h6, eq_r03_vars_3, loop l (by omega)]

theorem sp_r03_Vars (t : Ty) (ht : t.size ≤ lim) : (run cfg).p F_r03_Vars [t.enc] = some (encInts t.vars) := by
  refine call_r03_Vars _ ?_
  rw [eq_r03_Vars]
  have := sp_r03_vars t [] [] (by simpa using ht)
  have e : encInts [] = .list 1 [] := rfl
  rw [e] at this
  simp [Ty.eta, this, Ty.vars]

theorem sp_l03_count (t : Ty) : ∀ n : Int, t.thin = true → 0 ≤ n → n ≤ 1048576 → ∃ m : Int, (run cfg).p F_l03_count [t.enc, .int .i64 n] = some (.int .i64 m) ∧ 0 ≤ m ∧ m ≤ max (n + 1) 601 := by
  induction t using Ty.ind with
  | h t ih =>
    intro n ht h0 h1
    have hb := t.thin_len ht
    have loop : ∀ m : Int, 0 ≤ m → m ≤ 1048577 → ∃ r : Int, P_l03_count_3h (run cfg) (.int .i64 m) (.int .i64 0) t.enc = some (.int .i64 r) ∧ 0 ≤ r ∧ r ≤ max m 601 := by
      have key : ∀ (k i : Nat) (m : Int), i + k = t.kids.length → 0 ≤ m → m ≤ 1048577 → ∃ r : Int, P_l03_count_3h (run cfg) (.int .i64 m) (.int .i64 i) t.enc = some (.int .i64 r) ∧ 0 ≤ r ∧ r ≤ max m 601 := by
        intro k
        induction k with
        | zero =>
          intro i m hi h0 h1
          rw [eq_l03_count_3h]
          have : ¬ i < t.kids.length := by omega
          exact ⟨m, by simp [this], h0, by omega⟩
        | succ k ihk =>
          intro i m hi h0 h1
          have h : i < t.kids.length := by omega
          rw [eq_l03_count_3h]
          by_cases hm : m ≤ 600
          · obtain ⟨r, hr, hr0, hr1⟩ := ih _ (List.getElem_mem h) m (Ty.thin_kid ht (List.getElem_mem h)) h0 (by omega)
            obtain ⟨s, hs, hs0, hs1⟩ := ihk (i + 1) r (by omega) hr0 (by omega)
            push_cast at hs
            exact ⟨s, by simp [h, hm, dIdx_map h, Ty.eta, hr, dAdd1 (show i < 9223372036854775807 by omega), hs], hs0, by omega⟩
          · exact ⟨m, by simp [h, hm], h0, by omega⟩
      exact fun m h0 h1 => key t.kids.length 0 m (by omega) h0 h1
    obtain ⟨r, hr, hr0, hr1⟩ := loop (n + 1) (by omega) (by omega)
    refine ⟨r, call_l03_count _ _ ?_, hr0, hr1⟩
    rw [eq_l03_count]
    simp
    rw [dAdd (by omega) (by omega)]
    simpa using hr

theorem sp_l03_Heavy1 (t : Ty) (ht : t.thin = true) : ∃ b : Bool, (run cfg).p F_l03_Heavy [.list 3 [t.enc]] = some (.bool b) := by
  obtain ⟨m, h1, h2, h3⟩ := sp_l03_count t 0 ht (by omega) (by omega)
  refine ⟨decide (600 < m), call_l03_Heavy _ ?_⟩
  rw [eq_l03_Heavy, eq_l03_Heavy_3h]
  have e0 : dIdx 3 (.list 3 [t.enc]) (.int .i64 0) = some t.enc := by simp [dIdx]
  simp [e0, Ty.eta, h1, dAdd (show (-9223372036854775808 : Int) ≤ 0 + 1 by omega) (by omega)]
  rw [eq_l03_Heavy_3h]
  simp

theorem sp_r08_Deep (t : Ty) : ∀ n : Int, -9223372036854775000 ≤ n → n ≤ 1000 → t.thin = true → (run cfg).p F_r08_Deep [t.enc, .int .i64 n] = some (.bool (t.deep n)) := by
  induction t using Ty.ind with
  | h t ih =>
    intro n hn0 hn ht
    have hb := t.thin_len ht
    refine call_r08_Deep _ _ ?_
    rw [eq_r08_Deep, Ty.deep_eq]
    simp
    by_cases h0 : n ≤ 0
    · simp [h0]
    · have loop := loop_anyB (l := t.kids) (f := fun k => k.deep (n - 1)) (P := fun i => P_r08_Deep_4h (run cfg) (.int .i64 n) (.int .i64 i) t.enc)
        (by rw [eq_r08_Deep_4h]; simp)
        (fun i h => by
          rw [eq_r08_Deep_4h]
          simp [h, dIdx_map h, Ty.eta, dBin_sub, wrap_id (show (-9223372036854775808 : Int) ≤ n - 1 by omega) (by omega), ih _ (List.getElem_mem h) (n - 1) (by omega) (by omega) (Ty.thin_kid ht (List.getElem_mem h)), dAdd1 (show i < 9223372036854775807 by omega)])
      simp only [h0, decide_false, Bool.false_or]
      exact loop

@[simp] theorem dEqA_two (a b c d : Int) (k : IntKind) : dEqA [.int, .int] (.agg [.int k a, .int k b]) (.agg [.int k c, .int k d]) = some (decide (a = c) && decide (b = d)) := by
  simp only [dEqA, dEqLeaves, dEqK, if_true, ob_some']
  by_cases h : a = c <;> by_cases h' : b = d <;> simp [h, h']

/-- Under each variable the place of its first type. -/
def FirstIs (es : List (DV × DV)) (l : List (Int × Ty)) : Prop :=
  ∀ v, match mGet es (.int .i64 v) with
    | none => ∀ e ∈ l, e.1 ≠ v
    | some d => ∃ (i : Nat) (h : i < l.length), d = .int .i64 i ∧ l[i].1 = v ∧ ∀ j (hj : j < i), (l[j]'(by omega)).1 ≠ v

theorem FirstIs.look {es : List (DV × DV)} {l : List (Int × Ty)} (h : FirstIs es l) (v : Int) : (mGet es (.int .i64 v) = none ∧ look l v = none) ∨ ∃ (i : Nat) (hi : i < l.length), mGet es (.int .i64 v) = some (.int .i64 i) ∧ look l v = some l[i].2 := by
  have := h v
  cases hm : mGet es (.int .i64 v) with
  | none =>
    rw [hm] at this
    left
    refine ⟨rfl, ?_⟩
    unfold Su.look
    rw [List.find?_eq_none.2]
    · rfl
    · intro e he; simpa using this e he
  | some d =>
    rw [hm] at this
    obtain ⟨i, hi, rfl, h1, h2⟩ := this
    right
    refine ⟨i, hi, rfl, ?_⟩
    unfold Su.look
    have : l.find? (fun e => decide (e.1 = v)) = some l[i] := by
      rw [List.find?_eq_some_iff_getElem]
      refine ⟨by simpa using h1, i, hi, rfl, fun j hj => ?_⟩
      simpa using h2 j hj
    rw [this]
    rfl

@[simp] theorem encBnd0 (e : Int × Ty) : proj 0 (encBnd e) = .int .i64 e.1 := rfl

@[simp] theorem encBnd1 (e : Int × Ty) : proj 1 (encBnd e) = .int .i64 e.2.kind := rfl

@[simp] theorem encBnd2 (e : Int × Ty) : proj 2 (encBnd e) = .int .i64 e.2.n := rfl

@[simp] theorem encBnd3 (e : Int × Ty) : proj 3 (encBnd e) = .list 3 (e.2.kids.map Ty.enc) := rfl

@[simp] theorem isAggN_Bnd (e : Int × Ty) : isAggN 4 (encBnd e) = true := rfl

theorem sp_scheme_put (l : List (Int × Ty)) (es : List (DV × DV)) (hf : FirstIs es l) (i : Nat) (sg : List SObj) (hm : sgMap sg i = some (false, es)) (t : Ty) : t.right = true →
    (run cfg).r F_scheme_put [(t.enc, .val), (encBnds l, .val), (.undef, .map i)] sg = some ([(t.put l).enc], sg) := by
  induction t using Ty.ind with
  | h t ih =>
    intro ht
    have hb := t.thin_len (Ty.thin_of_right ht)
    refine call_scheme_put _ _ _ _ ?_
    rw [eq_scheme_put, Ty.put_eq]
    by_cases h6 : t.kind = 6
    · have e6 : DV.agg [.int .i64 6, .int .i64 t.n, .list 3 (t.kids.map Ty.enc)] = t.enc := by rw [← h6]; exact Ty.eta t
      rcases hf.look t.n with ⟨h1, h2⟩ | ⟨j, hj, h1, h2⟩
      · simp [h6, hm, h1, h2, e6]
      · have e1 : dIdx 4 (encBnds l) (.int .i64 (j : Int)) = some (encBnd l[j]) := dIdx_map hj
        simp [h6, hm, h1, h2, e1, Ty.eta]
    · have loop := loop_fold (l := t.kids) (P := fun j (a : List Ty) => P_scheme_put_10h (run cfg) (encBnds l) i (.list 3 (t.kids.map Ty.enc)) (.int .i64 t.kids.length) (.int .i64 j) (.int .i64 0) (.int .i64 0) (.list 3 []) (.int .i64 t.kind) (.int .i64 0) (.list 3 (a.map Ty.enc)) sg)
        (g := fun a k => a ++ [k.put l]) (fin := fun a => some ([(Ty.mk t.kind 0 a).enc], sg)) (I := fun j a => a.length = j)
        (fun a _ => by rw [eq_scheme_put_10h]; simp [Ty.enc_eq])
        (fun j h a ha => by
          refine ⟨?_, by simp [ha]⟩
          rw [eq_scheme_put_10h]
          have := dApp_map (e := Ty.enc) (sz := 3) (l := a) (x := t.kids[j].put l) (by unfold lim; omega)
          simp [h, dIdx_map h, Ty.eta, ih _ (List.getElem_mem h) (Ty.right_kid ht (List.getElem_mem h)), this, dAdd1 (show j < 9223372036854775807 by omega)]) [] rfl
      have e : ∀ (m : List Ty) (a : List Ty), m.foldl (fun a k => a ++ [k.put l]) a = a ++ m.map (Ty.put l) := by
        intro m
        induction m with
        | nil => intro a; simp
        | cons x m ih => intro a; simp [ih]
      rw [e] at loop
      have hn : t.n = 0 := by have := (Ty.right_iff.1 ht).2.2.2.1; omega
      by_cases h0 : t.kids.length = 0
      · have hk : t.kids = [] := List.eq_nil_of_length_eq_zero h0
        simp only [if_neg h6, hk, List.map_nil, Ty.enc_eq (Ty.mk t.kind t.n [])]
        simp [h6, hk]
      · have h0' : ¬ ((t.kids.length : Int) = 0) := by omega
        simp only [List.map_nil, List.nil_append] at loop
        have h0'' : ¬ t.kids = [] := fun h => h0 (by rw [h]; rfl)
        simp [h6, h0', h0'', hn, loop]

theorem sp_scheme_Subst (t : Ty) (l : List (Int × Ty)) (ht : t.thin = true) (hl : l.length ≤ lim) (hlt : ∀ e ∈ l, e.2.thin = true) :
    (run cfg).p F_scheme_Subst [t.enc, encBnds l] = some (if t.right = true ∧ rightBinds l = true then .tup [(t.put l).enc, .int .i64 0] else .tup [zeroTy.enc, .int .i64 1]) := by
  have hb := big hl
  have z : zeroTy.enc = .agg [.int .i64 0, .int .i64 0, .list 3 []] := by rw [Ty.enc_eq]; rfl
  refine call_scheme_Subst _ _ ?_
  rw [eq_scheme_Subst]
  by_cases hr : t.right = true
  · have loop : ∀ (m i : Nat) (es : List (DV × DV)), i + m = l.length → FirstIs es (l.take i) → (l.take i).all (fun e => decide (0 ≤ e.1) && decide (e.1 ≤ 1048576) && e.2.right) = true →
        P_scheme_Subst_5h (run cfg) (encBnds l) (encBnds l) (.int .i64 l.length) (.int .i64 i) t.enc (.int .i64 0) (.int .i64 0) (.list 3 []) [.map false es] = some (if rightBinds l = true then .tup [(t.put l).enc, .int .i64 0] else .tup [zeroTy.enc, .int .i64 1]) := by
      intro m
      induction m with
      | zero =>
        intro i es hi hf ha
        rw [List.take_of_length_le (by omega)] at hf ha
        have : ¬ i < l.length := by omega
        rw [eq_scheme_Subst_5h]
        have hp := sp_scheme_put l es hf 0 [.map false es] rfl t hr
        have ha' : rightBinds l = true := ha
        simp [this, Ty.eta, hp, ha']
      | succ m ihm =>
        intro i es hi hf ha
        have h : i < l.length := by omega
        have hmem : l[i] ∈ l := List.getElem_mem h
        have ha' : ¬ (0 ≤ l[i].1 ∧ l[i].1 ≤ 1048576 ∧ l[i].2.right = true) → rightBinds l = false := by
          intro hh
          rw [Bool.eq_false_iff]
          intro h'
          exact hh (rightBinds_iff.1 h' _ hmem)
        rw [eq_scheme_Subst_5h]
        have e1 : dIdx 4 (encBnds l) (.int .i64 (i : Int)) = some (encBnd l[i]) := dIdx_map h
        by_cases h1 : l[i].1 < 0
        · simp [h, e1, h1, ha' (by omega), z]
        by_cases h2 : 1048576 < l[i].1
        · simp [h, e1, h1, h2, ha' (by omega), z]
        cases h3 : l[i].2.right
        · simp [h, e1, h1, h2, Ty.eta, sp_typ_Check _ (hlt _ hmem), h3, ha' (by simp [h3]), z]
        have hm : sgMap [SObj.map false es] 0 = some (false, es) := rfl
        have hall : (l.take (i + 1)).all (fun e => decide (0 ≤ e.1) && decide (e.1 ≤ 1048576) && e.2.right) = true := by
          rw [List.take_succ_eq_append_getElem h, List.all_append, ha]
          have h1' : 0 ≤ l[i].1 := by omega
          have h2' : l[i].1 ≤ 1048576 := by omega
          simp [h1', h2', h3]
        have hlen : (l.take i).length = i := by simp; omega
        cases hg : mGet es (.int .i64 l[i].1) with
        | none =>
          have nx := ihm (i + 1) (mSet es (.int .i64 l[i].1) (.int .i64 i)) (by omega) (by
            intro v
            rw [mGet_setI]
            by_cases e : l[i].1 = v
            · rw [if_pos e]
              refine ⟨i, by simp; omega, rfl, by simpa using e, fun j hj => ?_⟩
              have := hf l[i].1
              rw [hg] at this
              have := this l[j] (List.mem_take_iff_getElem.2 ⟨j, by omega, rfl⟩)
              simpa [e] using this
            · rw [if_neg e]
              have := hf v
              cases hv : mGet es (.int .i64 v) with
              | none =>
                rw [hv] at this
                intro x hx
                rw [List.take_succ_eq_append_getElem h, List.mem_append, List.mem_singleton] at hx
                rcases hx with hx | rfl
                · exact this x hx
                · exact e
              | some d =>
                rw [hv] at this
                obtain ⟨k, hk, a, b, c⟩ := this
                rw [hlen] at hk
                refine ⟨k, by simp; omega, a, by simpa using b, fun j hj => by simpa using c j hj⟩) hall
          push_cast at nx
          simp [h, e1, h1, h2, Ty.eta, sp_typ_Check _ (hlt _ hmem), h3, hm, hg, dAdd1 (show i < 9223372036854775807 by omega), nx]
        | some d =>
          have nx := ihm (i + 1) es (by omega) (by
            intro v
            have := hf v
            cases hv : mGet es (.int .i64 v) with
            | none =>
              rw [hv] at this
              intro x hx
              rw [List.take_succ_eq_append_getElem h, List.mem_append, List.mem_singleton] at hx
              rcases hx with hx | rfl
              · exact this x hx
              · intro e; rw [e, hv] at hg; cases hg
            | some d =>
              rw [hv] at this
              obtain ⟨k, hk, a, b, c⟩ := this
              rw [hlen] at hk
              refine ⟨k, by simp; omega, a, by simpa using b, fun j hj => by simpa using c j hj⟩) hall
          push_cast at nx
          simp [h, e1, h1, h2, Ty.eta, sp_typ_Check _ (hlt _ hmem), h3, hm, hg, dAdd1 (show i < 9223372036854775807 by omega), nx]
    have l0 := loop l.length 0 [] (by omega) (fun v => by simp [mGet]) (by simp)
    simp only [Int.natCast_zero, Int.ofNat_zero, Int.cast_ofNat_Int] at l0
    have dl : dLen (encBnds l) = some (.int .i64 l.length) := by simp [encBnds]
    simp [Ty.eta, sp_typ_Check t ht, hr, dl, l0]
  · simp [Ty.eta, sp_typ_Check t ht, hr, z]

theorem Ty.mk_agg (k n : Int) (ks : List Ty) : DV.agg [.int .i64 k, .int .i64 n, .list 3 (ks.map Ty.enc)] = (Ty.mk k n ks).enc := (Ty.enc_eq (.mk k n ks)).symm

theorem Nm.agg (n : ByteArray) (t : Ty) (vs : List Int) : DV.agg [.str n, .int .i64 t.kind, .int .i64 t.n, .list 3 (t.kids.map Ty.enc), encInts vs] = Nm.enc ⟨n, t, vs⟩ := rfl

theorem sp_l11_Small (ts : List Ty) (hl : ts.length ≤ lim) (h : ∀ t ∈ ts, t.size ≤ lim) : ∃ b : Bool, (run cfg).p F_l11_Small [.list 3 (ts.map Ty.enc)] = some (.bool b) := by
  have hb := big hl
  have loop : ∀ (n j : Nat), j + n = ts.length → ∃ b : Bool, P_l11_Small_2h (run cfg) (.list 3 (ts.map Ty.enc)) (.int .i64 j) = some (.bool b) := by
    intro n
    induction n with
    | zero =>
      intro j hj
      refine ⟨true, ?_⟩
      have : ¬ j < ts.length := by omega
      rw [eq_l11_Small_2h]
      simp [this]
    | succ n ih =>
      intro j hj
      have hj' : j < ts.length := by omega
      obtain ⟨b, hb'⟩ := ih (j + 1) (by omega)
      have hsz := h _ (List.getElem_mem hj')
      have hth := Ty.thin_of_size hsz
      obtain ⟨c, hc⟩ := sp_l03_Heavy1 ts[j] hth
      have hd := sp_r08_Deep ts[j] 60 (by omega) (by omega) hth
      have hv := sp_r03_Vars ts[j] hsz
      push_cast at hb'
      rw [eq_l11_Small_2h]
      cases c
      · cases hdd : ts[j].deep 60
        · by_cases hq : (8 : Int) < (ts[j].vars.length : Int)
          · exact ⟨false, by simp [hj', dIdx_map hj', Ty.eta, hc, hd, hdd, hv, hq]⟩
          · exact ⟨b, by simp [hj', dIdx_map hj', Ty.eta, hc, hd, hdd, hv, hq, dAdd1 (show j < 9223372036854775807 by omega), hb']⟩
        · exact ⟨false, by simp [hj', dIdx_map hj', Ty.eta, hc, hd, hdd]⟩
      · exact ⟨false, by simp [hj', dIdx_map hj', Ty.eta, hc]⟩
  obtain ⟨b, h1⟩ := loop ts.length 0 (by omega)
  refine ⟨b, call_l11_Small _ ?_⟩
  rw [eq_l11_Small]
  exact h1

theorem sp_r08_Put (l : List (Int × Ty)) (hl : l.length ≤ lim) (t : Ty) : t.right = true → (run cfg).p F_r08_Put [t.enc, encBnds l] = some (t.put l).enc := by
  have hb := big hl
  induction t using Ty.ind with
  | h t ih =>
    intro ht
    have hn := t.thin_len (Ty.thin_of_right ht)
    refine call_r08_Put _ _ ?_
    rw [eq_r08_Put, Ty.put_eq]
    by_cases h6 : t.kind = 6
    · have loop : ∀ (m i : Nat), i + m = l.length → P_r08_Put_3h (run cfg) (encBnds l) (.int .i64 i) t.enc (.int .i64 0) (.int .i64 0) (.list 3 []) = some ((look (l.drop i) t.n).getD t).enc := by
        intro m
        induction m with
        | zero =>
          intro i hi
          have : ¬ i < l.length := by omega
          rw [eq_r08_Put_3h, List.drop_of_length_le (by omega)]
          simp [this, look, Ty.eta]
        | succ m ihm =>
          intro i hi
          have h : i < l.length := by omega
          have nx := ihm (i + 1) (by omega)
          push_cast at nx
          have e1 : dIdx 4 (encBnds l) (.int .i64 (i : Int)) = some (encBnd l[i]) := dIdx_map h
          rw [eq_r08_Put_3h, List.drop_eq_getElem_cons h]
          by_cases e : l[i].1 = t.n
          · simp only [look, List.find?_cons, e, decide_true]
            simp [h, e1, e, Ty.eta]
          · simp only [look, List.find?_cons, e, decide_false] at nx ⊢
            simp [h, e1, e, dAdd1 (show i < 9223372036854775807 by omega), nx]
      have l0 := loop l.length 0 (by omega)
      simp only [Int.natCast_zero, Int.ofNat_zero, Int.cast_ofNat_Int, List.drop_zero] at l0
      simp [h6, l0]
    · have loop := loop_fold (l := t.kids) (P := fun j (a : List Ty) => P_r08_Put_10h (run cfg) (encBnds l) (.int .i64 j) t.enc (.int .i64 0) (.int .i64 0) (.list 3 []) (.int .i64 t.kind) (.int .i64 0) (.list 3 (a.map Ty.enc)))
        (g := fun a k => a ++ [k.put l]) (fin := fun a => some (Ty.mk t.kind 0 a).enc) (I := fun j a => a.length = j)
        (fun a _ => by rw [eq_r08_Put_10h]; simp [Ty.mk_agg])
        (fun j h a ha => by
          refine ⟨?_, by simp [ha]⟩
          rw [eq_r08_Put_10h]
          have := dApp_map (e := Ty.enc) (sz := 3) (l := a) (x := t.kids[j].put l) (by unfold lim; omega)
          simp [h, dIdx_map h, Ty.eta, ih _ (List.getElem_mem h) (Ty.right_kid ht (List.getElem_mem h)), this, dAdd1 (show j < 9223372036854775807 by omega)]) [] rfl
      have e : ∀ (m : List Ty) (a : List Ty), m.foldl (fun a k => a ++ [k.put l]) a = a ++ m.map (Ty.put l) := by
        intro m
        induction m with
        | nil => intro a; simp
        | cons x m ih => intro a; simp [ih]
      rw [e] at loop
      simp only [List.map_nil, List.nil_append] at loop
      have hn0 : t.n = 0 := by have := (Ty.right_iff.1 ht).2.2.2.1; omega
      simp [h6, hn0, loop]

theorem e6 : errOk 6 := .inr (.inl rfl)

theorem loop_map {α β X : Type} {l : List α} {P : Int → List β → Option X} {g : α → β} {fin : List β → Option X} (stop : ∀ a, a.length = l.length → P l.length a = fin a)
    (step : ∀ (i : Nat) (h : i < l.length) (a : List β), a.length = i → P i a = P ((i : Int) + 1) (a ++ [g l[i]])) : P 0 [] = fin (l.map g) := by
  have := loop_fold (l := l) (P := P) (g := fun a k => a ++ [g k]) (fin := fin) (I := fun j a => a.length = j) (fun a h => stop a h)
    (fun j h a ha => ⟨step j h a ha, by simp [ha]⟩) [] rfl
  rw [this]
  congr 1
  have e : ∀ (m : List α) (a : List β), m.foldl (fun a k => a ++ [g k]) a = a ++ m.map g := by
    intro m
    induction m with
    | nil => intro a; simp
    | cons x m ih => intro a; simp [ih]
  rw [e]; rfl

def Deriv.fit (d : Deriv) : Prop := d.types.length < lim ∧ d.vars.length < lim ∧ d.kids.length < lim ∧ (∀ t ∈ d.types, t.thin = true) ∧ ∀ k : { x // x ∈ d.kids }, Deriv.fit k.1
termination_by SizeOf.sizeOf d
decreasing_by exact Deriv.kid_lt k.2

theorem Deriv.fit_eq (d : Deriv) : d.fit ↔ d.types.length < lim ∧ d.vars.length < lim ∧ d.kids.length < lim ∧ (∀ t ∈ d.types, t.thin = true) ∧ ∀ k ∈ d.kids, k.fit := by
  rw [Deriv.fit]
  simp

theorem Deriv.fit_mass {d : Deriv} : d.mass ≤ lim → d.fit := by
  induction d using Deriv.ind with
  | h d ih =>
    intro h
    rw [Deriv.fit_eq]
    have h1 := d.mass_types
    have h2 := d.mass_vars
    have h3 := d.mass_len
    have h4 : d.types.length ≤ (d.types.map Ty.size).sum := by
      have : ∀ l : List Ty, l.length ≤ (l.map Ty.size).sum := by
        intro l
        induction l with
        | nil => simp
        | cons x l ih => have := Ty.size_pos x; simp only [List.length_cons, List.map_cons, List.sum_cons]; omega
      exact this _
    refine ⟨by omega, by omega, by omega, fun t ht => ?_, fun k hk => ih k hk ?_⟩
    · refine Ty.thin_of_size ?_
      have := le_sum_mem (List.mem_map_of_mem (f := Ty.size) ht)
      omega
    · have := Deriv.mass_kid hk; omega

theorem Deriv.type_size {d : Deriv} (h : d.mass ≤ lim) {t : Ty} (ht : t ∈ d.types) : t.size ≤ lim := by
  have := le_sum_mem (List.mem_map_of_mem (f := Ty.size) ht)
  have := d.mass_types
  omega

theorem sp_keep_Type (t : Ty) : t.thin = true → (run cfg).p F_keep_Type [t.enc] = some t.enc := by
  induction t using Ty.ind with
  | h t ih =>
    intro ht
    have hb := t.thin_len ht
    refine call_keep_Type _ ?_
    rw [eq_keep_Type]
    have loop := loop_map (l := t.kids) (P := fun j (a : List Ty) => P_keep_Type_3h (run cfg) (.int .i64 j) t.enc (.int .i64 0) (.int .i64 0) (.list 3 []) (.int .i64 t.kind) (.int .i64 t.n) (.list 3 (a.map Ty.enc)))
      (g := fun k => k) (fin := fun a => some (Ty.mk t.kind t.n a).enc)
      (fun a _ => by rw [eq_keep_Type_3h]; simp [Ty.mk_agg])
      (fun j h a ha => by
        rw [eq_keep_Type_3h]
        have := dApp_map (e := Ty.enc) (sz := 3) (l := a) (x := t.kids[j]) (by unfold lim; omega)
        simp [h, dIdx_map h, Ty.eta, ih _ (List.getElem_mem h) (Ty.thin_kid ht (List.getElem_mem h)), this, dAdd1 (show j < 9223372036854775807 by omega)])
    simp only [List.map_nil, List.map_id_fun', id_eq] at loop
    have e : Ty.mk t.kind t.n t.kids = t := by cases t; rfl
    rw [e] at loop
    simp [loop]

theorem sp_keep_Types (l : List Ty) (hl : l.length < lim) (h : ∀ t ∈ l, t.thin = true) : (run cfg).p F_keep_Types [.list 3 (l.map Ty.enc)] = some (.list 3 (l.map Ty.enc)) := by
  have hb := big (Nat.le_of_lt hl)
  refine call_keep_Types _ ?_
  rw [eq_keep_Types]
  have loop := loop_map (l := l) (P := fun j (a : List Ty) => P_keep_Types_3h (run cfg) (.list 3 (l.map Ty.enc)) (.list 3 (a.map Ty.enc)) (.int .i64 j))
    (g := fun k => k) (fin := fun a => some (.list 3 (a.map Ty.enc)))
    (fun a _ => by rw [eq_keep_Types_3h]; simp)
    (fun j hj a ha => by
      rw [eq_keep_Types_3h]
      have := dApp_map (e := Ty.enc) (sz := 3) (l := a) (x := l[j]) (by omega)
      simp [hj, dIdx_map hj, Ty.eta, sp_keep_Type _ (h _ (List.getElem_mem hj)), this, dAdd1 (show j < 9223372036854775807 by omega)])
  simp only [List.map_nil, List.map_id_fun', id_eq] at loop
  simp [loop]

theorem sp_keep_Ints (a b : List Int) (hl : a.length ≤ lim) : (run cfg).p F_keep_Ints [encInts a, encInts b] = some (.bool (decide (a = b))) := by
  have hb := big hl
  refine call_keep_Ints _ _ ?_
  rw [eq_keep_Ints]
  simp
  by_cases h3 : a.length = b.length
  · have loop := loop_two (l := a) (m := b) h3 (P := fun i => P_keep_Ints_4h (run cfg) (encInts a) (encInts b) (.int .i64 i)) (y := .bool true) (n := .bool false)
      (by rw [eq_keep_Ints_4h]; simp [h3])
      (fun i h => by
        have h' : i < b.length := by omega
        rw [eq_keep_Ints_4h]
        by_cases hh : a[i] = b[i] <;> simp [h, h', dIdx_ints h, dIdx_ints h', hh, dAdd1 (show i < 9223372036854775807 by omega)])
    simp only [h3] at loop ⊢
    simp [loop]
    by_cases h4 : a = b <;> simp [h4]
  · have : a ≠ b := fun h => h3 (by rw [h])
    simp [Int.ofNat_inj, h3, this]

theorem sp_keep_SameAll (a b : List Ty) (hl : a.length ≤ lim) (ha : ∀ t ∈ a, t.thin = true) : (run cfg).p F_keep_SameAll [.list 3 (a.map Ty.enc), .list 3 (b.map Ty.enc)] = some (.bool (decide (a = b))) := by
  have hb := big hl
  refine call_keep_SameAll _ _ ?_
  rw [eq_keep_SameAll]
  simp
  by_cases h3 : a.length = b.length
  · have loop := loop_two (l := a) (m := b) h3 (P := fun i => P_keep_SameAll_4h (run cfg) (.list 3 (a.map Ty.enc)) (.list 3 (b.map Ty.enc)) (.int .i64 i)) (y := .bool true) (n := .bool false)
      (by rw [eq_keep_SameAll_4h]; simp [h3])
      (fun i h => by
        have h' : i < b.length := by omega
        rw [eq_keep_SameAll_4h]
        simp [h, h', dIdx_map h, dIdx_map h', Ty.eta, sp_keep_Same _ (ha _ (List.getElem_mem h)), dAdd1 (show i < 9223372036854775807 by omega)])
    simp only [h3] at loop ⊢
    simp [loop]
    by_cases h4 : a = b <;> simp [h4]
  · have : a ≠ b := fun h => h3 (by rw [h])
    simp [Int.ofNat_inj, h3, this]

theorem sp_keep_Derivs (a : Deriv) : a.fit → ∀ b : Deriv, (run cfg).p F_keep_Derivs [a.enc, b.enc] = some (.bool (decide (a = b))) := by
  induction a using Deriv.ind with
  | h a ih =>
    intro ha b
    have hf := (Deriv.fit_eq a).1 ha
    have hb := big (Nat.le_of_lt hf.2.2.1)
    refine call_keep_Derivs _ _ ?_
    rw [eq_keep_Derivs]
    simp [sp_keep_SameAll _ _ (Nat.le_of_lt hf.1) hf.2.2.2.1, sp_keep_Ints _ _ (Nat.le_of_lt hf.2.1)]
    by_cases h1 : a.types = b.types <;> simp [h1, Deriv.ext_iff']
    by_cases h2 : a.vars = b.vars <;> simp [h2]
    by_cases h3 : a.kids.length = b.kids.length
    · have loop := loop_two (l := a.kids) (m := b.kids) h3 (P := fun i => P_keep_Derivs_4h (run cfg) (.int .i64 i) a.enc b.enc) (y := .bool true) (n := .bool false)
        (by rw [eq_keep_Derivs_4h]; simp [h3])
        (fun i h => by
          have h' : i < b.kids.length := by omega
          rw [eq_keep_Derivs_4h]
          simp [h, h', dIdx_map h, dIdx_map h', Deriv.eta, ih _ (List.getElem_mem h) (hf.2.2.2.2 _ (List.getElem_mem h)), dAdd1 (show i < 9223372036854775807 by omega)])
      simp only [h3] at loop ⊢
      simp [loop]
      by_cases h4 : a.kids = b.kids <;> simp [h4]
    · have : a.kids ≠ b.kids := fun h => h3 (by rw [h])
      simp [Int.ofNat_inj, h3, this]

theorem Deriv.mk_agg (ts : List Ty) (vs : List Int) (ks : List Deriv) : DV.agg [.list 3 (ts.map Ty.enc), encInts vs, .list 3 (ks.map Deriv.enc)] = (Deriv.mk ts vs ks).enc := (Deriv.enc_eq (.mk ts vs ks)).symm

theorem dApp_ints {a b : List Int} (h : a.length + b.length ≤ lim) : dApp 1 (encInts a) (encInts b) = some (encInts (a ++ b)) := dApp_maps h

theorem encInts_nil : (.list 1 [] : DV) = encInts [] := rfl

theorem sp_keep_Deriv (t : Deriv) : t.fit → (run cfg).p F_keep_Deriv [t.enc] = some t.enc := by
  induction t using Deriv.ind with
  | h t ih =>
    intro ht
    have hf := (Deriv.fit_eq t).1 ht
    have hb := big (Nat.le_of_lt hf.2.2.1)
    refine call_keep_Deriv _ ?_
    rw [eq_keep_Deriv]
    have loop := loop_map (l := t.kids) (P := fun j (a : List Deriv) => P_keep_Deriv_3h (run cfg) (.int .i64 j) t.enc (.list 3 []) (encInts []) (.list 3 []) (.list 3 (t.types.map Ty.enc)) (encInts t.vars) (.list 3 (a.map Deriv.enc)))
      (g := fun k => k) (fin := fun a => some (Deriv.mk t.types t.vars a).enc)
      (fun a _ => by rw [eq_keep_Deriv_3h]; simp [Deriv.mk_agg])
      (fun j h a ha => by
        rw [eq_keep_Deriv_3h]
        have := dApp_map (e := Deriv.enc) (sz := 3) (l := a) (x := t.kids[j]) (by omega)
        simp [h, dIdx_map h, Deriv.eta, ih _ (List.getElem_mem h) (hf.2.2.2.2 _ (List.getElem_mem h)), this, dAdd1 (show j < 9223372036854775807 by omega)])
    simp only [List.map_nil, List.map_id_fun', id_eq] at loop
    have e : Deriv.mk t.types t.vars t.kids = t := by cases t; rfl
    rw [e] at loop
    have hv := dApp_ints (a := []) (b := t.vars) (by simp; omega)
    simp only [encInts_nil]
    simp [sp_keep_Types _ hf.1 hf.2.2.2.1, hv, loop]

/-- A loop that makes a list and may stop. -/
theorem loop_mapE {α β X : Type} {l : List α} {P : Int → List β → Option X} {f : α → Bool} {g : α → β} {fin : List β → Option X} {n : Option X} (stop : ∀ a, a.length = l.length → P l.length a = fin a)
    (step : ∀ (i : Nat) (h : i < l.length) (a : List β), a.length = i → P i a = if f l[i] = true then P ((i : Int) + 1) (a ++ [g l[i]]) else n) : P 0 [] = if l.all f = true then fin (l.map g) else n := by
  have key : ∀ (m i : Nat) (a : List β), i + m = l.length → a.length = i → P i a = if (l.drop i).all f = true then fin (a ++ (l.drop i).map g) else n := by
    intro m
    induction m with
    | zero =>
      intro i a hi ha
      have : i = l.length := by omega
      subst this
      rw [stop a ha]
      simp
    | succ m ih =>
      intro i a hi ha
      have h : i < l.length := by omega
      rw [step i h a ha, List.drop_eq_getElem_cons h]
      have nx := ih (i + 1) (a ++ [g l[i]]) (by omega) (by simp [ha])
      push_cast at nx
      rw [nx]
      by_cases hf : f l[i] = true
      · rw [if_pos hf, List.all_cons, hf, Bool.true_and, List.append_assoc]; rfl
      · rw [if_neg hf, if_neg (by rw [List.all_cons, Bool.eq_false_iff.2 hf]; simp)]
  have := key l.length 0 [] (by omega) rfl
  simpa using this

def Deriv.put (l : List (Int × Ty)) : Deriv → Deriv
  | .mk ts vs ks => .mk (ts.map (Ty.put l)) vs (ks.map (Deriv.put l))

theorem Deriv.put_eq (l : List (Int × Ty)) (d : Deriv) : d.put l = .mk (d.types.map (Ty.put l)) d.vars (d.kids.map (Deriv.put l)) := by
  cases d
  rw [Deriv.put]; rfl

def Deriv.rightT : Deriv → Bool
  | .mk ts _ ks => ts.all Ty.right && (ks.map Deriv.rightT).all id

theorem Deriv.rightT_eq (d : Deriv) : d.rightT = (d.types.all Ty.right && d.kids.all Deriv.rightT) := by
  cases d
  rw [Deriv.rightT, List.all_map]; rfl

def zeroDeriv : Deriv := .mk [] [] []

theorem zeroDeriv_enc : (.agg [.list 3 [], .list 1 [], .list 3 []] : DV) = zeroDeriv.enc := (Deriv.enc_eq zeroDeriv).symm

theorem sp_judge_put (l : List (Int × Ty)) (hl : l.length ≤ lim) (hr : rightBinds l = true) (d : Deriv) : d.fit → (run cfg).p F_judge_put [d.enc, encBnds l] = some (if d.rightT = true then .tup [(d.put l).enc, .int .i64 0] else .tup [zeroDeriv.enc, .int .i64 1]) := by
  have hlt : ∀ e ∈ l, e.2.thin = true := fun e he => Ty.thin_of_right (rightBinds_iff.1 hr e he).2.2
  induction d using Deriv.ind with
  | h d ih =>
    intro hd
    have hf := (Deriv.fit_eq d).1 hd
    have hb1 := big (Nat.le_of_lt hf.1)
    have hb3 := big (Nat.le_of_lt hf.2.2.1)
    refine call_judge_put _ _ ?_
    rw [eq_judge_put, Deriv.put_eq, Deriv.rightT_eq]
    have l2 : ∀ us : List Ty, P_judge_put_11h (run cfg) (encBnds l) (.list 3 (d.kids.map Deriv.enc)) (.int .i64 d.kids.length) (.int .i64 0) (.list 3 []) (encInts []) (.list 3 []) (.list 3 (us.map Ty.enc)) (encInts d.vars) (.list 3 [])
        = if d.kids.all Deriv.rightT = true then some (.tup [(Deriv.mk us d.vars (d.kids.map (Deriv.put l))).enc, .int .i64 0]) else some (.tup [zeroDeriv.enc, .int .i64 1]) := fun us =>
      loop_mapE (l := d.kids) (P := fun j (a : List Deriv) => P_judge_put_11h (run cfg) (encBnds l) (.list 3 (d.kids.map Deriv.enc)) (.int .i64 d.kids.length) (.int .i64 j) (.list 3 []) (encInts []) (.list 3 []) (.list 3 (us.map Ty.enc)) (encInts d.vars) (.list 3 (a.map Deriv.enc)))
        (f := Deriv.rightT) (g := Deriv.put l) (fin := fun ks => some (.tup [(Deriv.mk us d.vars ks).enc, .int .i64 0])) (n := some (.tup [zeroDeriv.enc, .int .i64 1]))
        (fun a _ => by rw [eq_judge_put_11h]; simp [Deriv.mk_agg])
        (fun j h a ha => by
          rw [eq_judge_put_11h]
          have := dApp_map (e := Deriv.enc) (sz := 3) (l := a) (x := d.kids[j].put l) (by omega)
          have hk := ih _ (List.getElem_mem h) (hf.2.2.2.2 _ (List.getElem_mem h))
          cases hq : d.kids[j].rightT <;> simp [h, dIdx_map h, Deriv.eta, hk, hq, dExt, this, zeroDeriv_enc, dAdd1 (show j < 9223372036854775807 by omega)])
    have l1 := loop_mapE (l := d.types) (P := fun j (a : List Ty) => P_judge_put_3h (run cfg) (encBnds l) (.list 3 (d.types.map Ty.enc)) (.int .i64 d.types.length) (.int .i64 j) d.enc (.list 3 []) (encInts []) (.list 3 []) (.list 3 (a.map Ty.enc)) (encInts d.vars) (.list 3 []))
        (f := Ty.right) (g := Ty.put l) (fin := fun us => if d.kids.all Deriv.rightT = true then some (.tup [(Deriv.mk us d.vars (d.kids.map (Deriv.put l))).enc, .int .i64 0]) else some (.tup [zeroDeriv.enc, .int .i64 1])) (n := some (.tup [zeroDeriv.enc, .int .i64 1]))
        (fun a _ => by rw [eq_judge_put_3h]; simp [l2])
        (fun j h a ha => by
          rw [eq_judge_put_3h]
          have := dApp_map (e := Ty.enc) (sz := 3) (l := a) (x := d.types[j].put l) (by omega)
          have hs := sp_scheme_Subst d.types[j] l (hf.2.2.2.1 _ (List.getElem_mem h)) hl hlt
          have z : isAggN 3 zeroTy.enc = true := isAggN_Ty _
          cases hq : d.types[j].right <;> simp [h, dIdx_map h, Ty.eta, hs, hq, hr, dExt, this, zeroDeriv_enc, dAdd1 (show j < 9223372036854775807 by omega)])
    simp only [List.map_nil] at l1
    simp only [encInts_nil]
    simp [l1, -List.all_eq_true]
    cases d.types.all Ty.right <;> cases d.kids.all Deriv.rightT <;> rfl

theorem sp_judge_Put (l : List (Int × Ty)) (hl : l.length ≤ lim) (hlt : ∀ e ∈ l, e.2.thin = true) (d : Deriv) (hd : d.fit) : (run cfg).p F_judge_Put [d.enc, encBnds l] = some (if d.rightT = true ∧ rightBinds l = true then .tup [(d.put l).enc, .int .i64 0] else .tup [zeroDeriv.enc, .int .i64 1]) := by
  refine call_judge_Put _ _ ?_
  rw [eq_judge_Put]
  have r1 : (Ty.mk 1 0 []).right = true := right_leaf (by omega)
  have hs := sp_scheme_Subst (.mk 1 0 []) l (Ty.thin_of_right r1) hl hlt
  have e1 : DV.agg [.int .i64 1, .int .i64 0, .list 3 []] = (Ty.mk 1 0 []).enc := by rw [Ty.enc_eq]; rfl
  rw [e1]
  have z : isAggN 3 zeroTy.enc = true := isAggN_Ty _
  cases hq : rightBinds l
  · simp [hs, hq, r1, dExt, zeroDeriv_enc]
  · simp [hs, hq, r1, dExt, Deriv.eta, sp_judge_put l hl hq d hd]
    cases d.rightT <;> simp [Deriv.eta]

theorem sp_r08_RightBinds (l : List (Int × Ty)) (hl : l.length ≤ lim) (hlt : ∀ e ∈ l, e.2.thin = true) : (run cfg).p F_r08_RightBinds [encBnds l] = some (.bool (rightBinds l)) := by
  have hb := big hl
  refine call_r08_RightBinds _ ?_
  rw [eq_r08_RightBinds]
  have loop := loop_allB (l := l) (P := fun i => P_r08_RightBinds_2h (run cfg) (encBnds l) (.int .i64 i)) (f := fun e => decide (0 ≤ e.1) && decide (e.1 ≤ 1048576) && e.2.right)
    (by rw [eq_r08_RightBinds_2h]; simp)
    (fun i h => by
      have e1 : dIdx 4 (encBnds l) (.int .i64 (i : Int)) = some (encBnd l[i]) := dIdx_map h
      rw [eq_r08_RightBinds_2h]
      by_cases h1 : l[i].1 < 0
      · have h1' : ¬ (0 ≤ l[i].1) := by omega
        simp [h, e1, h1, h1']
      · have h1' : 0 ≤ l[i].1 := by omega
        by_cases h2 : 1048576 < l[i].1
        · have h2' : ¬ (l[i].1 ≤ 1048576) := by omega
          simp [h, e1, h1, h1', h2, h2']
        · have h2' : l[i].1 ≤ 1048576 := by omega
          have := sp_r03_Right l[i].2 (hlt _ (List.getElem_mem h))
          cases hq : l[i].2.right <;> simp [h, e1, h1, h1', h2, h2', Ty.eta, this, hq, dAdd1 (show i < 9223372036854775807 by omega)])
  exact loop

theorem sp_r16_types (d : Deriv) : d.fit → (run cfg).p F_r16_types [d.enc] = some (.bool d.rightT) := by
  induction d using Deriv.ind with
  | h d ih =>
    intro hd
    have hf := (Deriv.fit_eq d).1 hd
    have hb1 := big (Nat.le_of_lt hf.1)
    have hb3 := big (Nat.le_of_lt hf.2.2.1)
    refine call_r16_types _ ?_
    rw [eq_r16_types, Deriv.rightT_eq]
    have l2 := loop_allB (l := d.kids) (P := fun i => P_r16_types_7h (run cfg) (.int .i64 i) d.enc) (f := Deriv.rightT)
      (by rw [eq_r16_types_7h]; simp)
      (fun i h => by
        rw [eq_r16_types_7h]
        have hk := ih _ (List.getElem_mem h) (hf.2.2.2.2 _ (List.getElem_mem h))
        cases hq : d.kids[i].rightT <;> simp [h, dIdx_map h, Deriv.eta, hk, hq, dAdd1 (show i < 9223372036854775807 by omega)])
    have l1 := loop_allK (l := d.types) (P := fun i => P_r16_types_2h (run cfg) (.int .i64 i) d.enc) (f := Ty.right) (y := some (.bool (d.kids.all Deriv.rightT))) (n := some (.bool false))
      (by rw [eq_r16_types_2h]; simp [l2])
      (fun i h => by
        rw [eq_r16_types_2h]
        have hk := sp_r03_Right _ (hf.2.2.2.1 _ (List.getElem_mem h))
        cases hq : d.types[i].right <;> simp [h, dIdx_map h, Ty.eta, hk, hq, dAdd1 (show i < 9223372036854775807 by omega)])
    simp [l1, -List.all_eq_true]
    cases d.types.all Ty.right <;> rfl

theorem sp_r16_put (l : List (Int × Ty)) (hl : l.length ≤ lim) (d : Deriv) : d.fit → d.rightT = true → (run cfg).p F_r16_put [d.enc, encBnds l] = some (d.put l).enc := by
  induction d using Deriv.ind with
  | h d ih =>
    intro hd hr
    have hf := (Deriv.fit_eq d).1 hd
    have hb1 := big (Nat.le_of_lt hf.1)
    have hb3 := big (Nat.le_of_lt hf.2.2.1)
    rw [Deriv.rightT_eq] at hr
    simp only [Bool.and_eq_true, List.all_eq_true] at hr
    refine call_r16_put _ _ ?_
    rw [eq_r16_put, Deriv.put_eq]
    have l2 : ∀ us : List Ty, P_r16_put_7h (run cfg) (encBnds l) (.int .i64 0) d.enc (.list 3 []) (encInts []) (.list 3 []) (.list 3 (us.map Ty.enc)) (encInts d.vars) (.list 3 [])
        = some (Deriv.mk us d.vars (d.kids.map (Deriv.put l))).enc := fun us =>
      loop_map (l := d.kids) (P := fun j (a : List Deriv) => P_r16_put_7h (run cfg) (encBnds l) (.int .i64 j) d.enc (.list 3 []) (encInts []) (.list 3 []) (.list 3 (us.map Ty.enc)) (encInts d.vars) (.list 3 (a.map Deriv.enc)))
        (g := Deriv.put l) (fin := fun ks => some (Deriv.mk us d.vars ks).enc)
        (fun a _ => by rw [eq_r16_put_7h]; simp [Deriv.mk_agg])
        (fun j h a ha => by
          rw [eq_r16_put_7h]
          have := dApp_map (e := Deriv.enc) (sz := 3) (l := a) (x := d.kids[j].put l) (by omega)
          have hk := ih _ (List.getElem_mem h) (hf.2.2.2.2 _ (List.getElem_mem h)) (hr.2 _ (List.getElem_mem h))
          simp [h, dIdx_map h, Deriv.eta, hk, this, dAdd1 (show j < 9223372036854775807 by omega)])
    have l1 := loop_map (l := d.types) (P := fun j (a : List Ty) => P_r16_put_3h (run cfg) (encBnds l) (.int .i64 j) d.enc (.list 3 []) (encInts []) (.list 3 []) (.list 3 (a.map Ty.enc)) (encInts d.vars) (.list 3 []))
        (g := Ty.put l) (fin := fun us => some (Deriv.mk us d.vars (d.kids.map (Deriv.put l))).enc)
        (fun a _ => by rw [eq_r16_put_3h]; simp [l2])
        (fun j h a ha => by
          rw [eq_r16_put_3h]
          have := dApp_map (e := Ty.enc) (sz := 3) (l := a) (x := d.types[j].put l) (by omega)
          have hk := sp_r08_Put l hl _ (hr.1 _ (List.getElem_mem h))
          simp [h, dIdx_map h, Ty.eta, hk, this, dAdd1 (show j < 9223372036854775807 by omega)])
    simp only [List.map_nil] at l1
    have hv := dApp_ints (a := []) (b := d.vars) (by simp; omega)
    simp only [encInts_nil]
    simp [hv, l1]

theorem sp_r16_Put (l : List (Int × Ty)) (hl : l.length ≤ lim) (hlt : ∀ e ∈ l, e.2.thin = true) (d : Deriv) (hd : d.fit) : (run cfg).p F_r16_Put [d.enc, encBnds l] = some (if d.rightT = true ∧ rightBinds l = true then .tup [(d.put l).enc, .int .i64 0] else .tup [zeroDeriv.enc, .int .i64 1]) := by
  refine call_r16_Put _ _ ?_
  rw [eq_r16_Put]
  cases hq : d.rightT
  · simp [Deriv.eta, sp_r16_types d hd, hq, zeroDeriv_enc]
  · have hp := sp_r16_put l hl d hd hq
    cases hr : rightBinds l <;> simp [Deriv.eta, sp_r16_types d hd, hq, sp_r08_RightBinds l hl hlt, hr, zeroDeriv_enc, hp]

theorem sp_l16_weigh (d : Deriv) : d.mass ≤ 4000000000 → ∀ n : Int, 0 ≤ n → n ≤ 1500 → ∃ m : Int, (run cfg).p F_l16_weigh [d.enc, .int .i64 n] = some (.int .i64 m) ∧ 0 ≤ m ∧ m ≤ 10000000000 := by
  induction d using Deriv.ind with
  | h d ih =>
    intro hm n h0 h1
    have hl : d.mass ≤ lim := by unfold lim; omega
    have hv := d.mass_vars
    have ht := (Deriv.fit_eq d).1 (Deriv.fit_mass hl)
    have hb1 := big (Nat.le_of_lt ht.1)
    have hb3 := big (Nat.le_of_lt ht.2.2.1)
    have loop2 : ∀ (k i : Nat) (m : Int), i + k = d.kids.length → 0 ≤ m → m ≤ 10000000000 → ∃ r : Int, P_l16_weigh_9h (run cfg) (.int .i64 m) (.int .i64 i) d.enc = some (.int .i64 r) ∧ 0 ≤ r ∧ r ≤ 10000000000 := by
      intro k
      induction k with
      | zero =>
        intro i m hi h0 h1
        have : ¬ i < d.kids.length := by omega
        exact ⟨m, by rw [eq_l16_weigh_9h]; simp [this], h0, h1⟩
      | succ k ihk =>
        intro i m hi h0 h1
        have h : i < d.kids.length := by omega
        by_cases hm' : m ≤ 1500
        · obtain ⟨r, hr, hr0, hr1⟩ := ih _ (List.getElem_mem h) (by have := Deriv.mass_kid (List.getElem_mem h); omega) m h0 hm'
          obtain ⟨s, hs, hs0, hs1⟩ := ihk (i + 1) r (by omega) hr0 hr1
          push_cast at hs
          exact ⟨s, by rw [eq_l16_weigh_9h]; simp [h, hm', dIdx_map h, Deriv.eta, hr, dAdd1 (show i < 9223372036854775807 by omega), hs], hs0, hs1⟩
        · exact ⟨m, by rw [eq_l16_weigh_9h]; simp [h, hm'], h0, h1⟩
    have loop1 : ∀ (k i : Nat) (m : Int), i + k = d.types.length → 0 ≤ m → m ≤ 10000000000 → ∃ r : Int, P_l16_weigh_3h (run cfg) (.int .i64 m) (.int .i64 i) d.enc = some (.int .i64 r) ∧ 0 ≤ r ∧ r ≤ 10000000000 := by
      intro k
      induction k with
      | zero =>
        intro i m hi h0 h1
        have : ¬ i < d.types.length := by omega
        obtain ⟨r, hr, hr0, hr1⟩ := loop2 d.kids.length 0 m (by omega) h0 h1
        simp only [Int.natCast_zero, Int.ofNat_zero, Int.cast_ofNat_Int] at hr
        exact ⟨r, by rw [eq_l16_weigh_3h]; simp [this, hr], hr0, hr1⟩
      | succ k ihk =>
        intro i m hi h0 h1
        have h : i < d.types.length := by omega
        by_cases hm' : m ≤ 1500
        · have hsz := Deriv.type_size hl (List.getElem_mem h)
          obtain ⟨c, hc⟩ := sp_l11_Small [d.types[i]] (by simp [lim]) (by intro t ht; simp at ht; subst ht; exact hsz)
          simp only [List.map_cons, List.map_nil] at hc
          cases c
          · exact ⟨1501, by rw [eq_l16_weigh_3h]; simp [h, hm', dIdx_map h, Ty.eta, hc], by omega, by omega⟩
          · have hz := sp_r03_Size _ hsz
            have hsz' : d.types[i].size ≤ 4000000000 := by
              have := le_sum_mem (List.mem_map_of_mem (f := Ty.size) (List.getElem_mem h))
              have := d.mass_types
              omega
            obtain ⟨s, hs, hs0, hs1⟩ := ihk (i + 1) (m + d.types[i].size) (by omega) (by omega) (by omega)
            push_cast at hs
            exact ⟨s, by rw [eq_l16_weigh_3h]; simp [h, hm', dIdx_map h, Ty.eta, hc, hz, dAdd (show (-9223372036854775808 : Int) ≤ m + d.types[i].size by omega) (by omega), dAdd1 (show i < 9223372036854775807 by omega), hs], hs0, hs1⟩
        · obtain ⟨r, hr, hr0, hr1⟩ := loop2 d.kids.length 0 m (by omega) h0 h1
          simp only [Int.natCast_zero, Int.ofNat_zero, Int.cast_ofNat_Int] at hr
          exact ⟨r, by rw [eq_l16_weigh_3h]; simp [h, hm', hr], hr0, hr1⟩
    obtain ⟨r, hr, hr0, hr1⟩ := loop1 d.types.length 0 (n + 1 + d.vars.length) (by omega) (by omega) (by omega)
    simp only [Int.natCast_zero, Int.ofNat_zero, Int.cast_ofNat_Int] at hr
    refine ⟨r, call_l16_weigh _ _ ?_, hr0, hr1⟩
    rw [eq_l16_weigh]
    simp [dAdd (show (-9223372036854775808 : Int) ≤ n + 1 by omega) (by omega), dAdd (show (-9223372036854775808 : Int) ≤ n + 1 + d.vars.length by omega) (by omega), hr]

theorem sp_l16_HeavyDeriv (d : Deriv) (h : d.mass ≤ 4000000000) : ∃ b : Bool, (run cfg).p F_l16_HeavyDeriv [d.enc] = some (.bool b) := by
  obtain ⟨m, h1, h2, h3⟩ := sp_l16_weigh d h 0 (by omega) (by omega)
  refine ⟨decide (1500 < m), call_l16_HeavyDeriv _ ?_⟩
  rw [eq_l16_HeavyDeriv]
  simp [Deriv.eta, h1]

end Go.Su

/-
  What the closed call of l16_wakes gives: by rewriting.
-/
namespace Go.Su
set_option linter.unusedSimpArgs false
attribute [local congr] ob_cg og_cg oif_cg ogd_cg ite_cg

set_option maxHeartbeats 40000000 in
set_option maxRecDepth 100000 in
theorem w_l16_wakes : (run cfg).p F_l16_wakes [] = some (.bool true) := by
  simp (maxSteps := 200000) (implicitDefEqProofs := false) [eq_tree_shapeOf, fix_tree_shapeOf, eq_r03_In, eq_r03_In_2h, fix_r03_In, eq_typ_Vars, fix_typ_Vars, eq_pats_Bind, fix_pats_Bind, eq_agree_Agree, fix_agree_Agree, eq_typ_right, eq_typ_right_9h, fix_typ_right, eq_judge_right, eq_judge_right_2h, eq_judge_right_8h, eq_judge_right_14h, fix_judge_right, eq_judge_judging_expr, eq_judge_judging_expr_4, eq_judge_judging_expr_26, fix_judge_judging_expr, eq_judge_judging_ok, fix_judge_judging_ok, eq_word_Key, fix_word_Key, eq_word_inner, fix_word_inner, eq_typ_Closed, fix_typ_Closed, eq_typ_vars, eq_typ_vars_5, eq_typ_vars_6h, fix_typ_vars, eq_slices_Contains__int_int, fix_slices_Contains__int_int, eq_pats_bind, eq_pats_bind_16, eq_pats_bind_17h, fix_pats_bind, eq_agree_agrees, eq_agree_agrees_8h, fix_agree_agrees, eq_typ_arity, fix_typ_arity, eq_r16_types, eq_r16_types_2h, eq_r16_types_7h, fix_r16_types, eq_r08_RightBinds, eq_r08_RightBinds_2h, fix_r08_RightBinds, eq_r16_put, eq_r16_put_3h, eq_r16_put_7h, fix_r16_put, eq_keep_Ints, eq_keep_Ints_4h, fix_keep_Ints, eq_judge_Check, fix_judge_Check, eq_r03_Two, fix_r03_Two, eq_tree_onePat, eq_tree_onePat_24, fix_tree_onePat, eq_tree_one, eq_tree_one_4, eq_tree_one_6, eq_tree_one_8, eq_tree_one_10, eq_tree_one_12, eq_tree_one_14, eq_tree_one_16, eq_tree_one_18, eq_tree_one_19h, fix_tree_one, eq_tree_none, fix_tree_none, eq_tree_value, eq_tree_value_12, fix_tree_value, eq_l03_count, eq_l03_count_3h, fix_l03_count, eq_r03_vars, eq_r03_vars_3, eq_r03_vars_4h, fix_r03_vars, eq_keep_Type, eq_keep_Type_3h, fix_keep_Type, eq_typ_Check, fix_typ_Check, eq_scheme_put, eq_scheme_put_10h, fix_scheme_put, eq_r08_Put, eq_r08_Put_3h, eq_r08_Put_10h, fix_r08_Put, eq_judge_Cast, fix_judge_Cast, eq_word_Name, eq_word_Name_4h, fix_word_Name, eq_tree_closed, fix_tree_closed, eq_judge_find, eq_judge_find_2h, fix_judge_find, eq_judge_judging_fails, fix_judge_judging_fails, eq_judge_judging_choices, eq_judge_judging_choices_4, eq_judge_judging_choices_5h, eq_judge_judging_choices_14h, eq_judge_judging_choices_19h, fix_judge_judging_choices, eq_judge_judging_name, eq_judge_judging_name_5h, fix_judge_judging_name, eq_judge_judging_kid, fix_judge_judging_kid, eq_judge_list, fix_judge_list, eq_judge_judging_fits, eq_judge_judging_fits_4, fix_judge_judging_fits, eq_judge_one, fix_judge_one, eq_judge_with, fix_judge_with, eq_judge_fun, fix_judge_fun, eq_judge_judging_more, eq_judge_judging_more_25, fix_judge_judging_more, eq_typ_without, eq_typ_without_4h, fix_typ_without, eq_slices_Index__int_int, eq_slices_Index__int_int_2h, fix_slices_Index__int_int, eq_pats_leaf, fix_pats_leaf, eq_judge_many, eq_judge_many_14, eq_judge_many_16, eq_judge_many_18, fix_judge_many, eq_judge_judging_enter, eq_judge_judging_enter_1h, fix_judge_judging_enter, eq_typ_Static, fix_typ_Static, eq_judge_judging_cast, eq_judge_judging_cast_5, fix_judge_judging_cast, eq_judge_judging_app, fix_judge_judging_app, eq_judge_judging_let, eq_judge_judging_let_9, fix_judge_judging_let, eq_judge_judging_rec, eq_judge_judging_rec_5, fix_judge_judging_rec, eq_judge_judging_match, eq_judge_judging_match_4h, eq_judge_judging_match_14h, fix_judge_judging_match, eq_l16_JudgePut, eq_l16_JudgePut_4h, fix_l16_JudgePut, eq_l11_Small, eq_l11_Small_2h, fix_l11_Small, eq_r03_Right, eq_r03_Right_4h, fix_r03_Right, eq_r03_Size, eq_r03_Size_3h, fix_r03_Size, eq_keep_Same, eq_keep_Same_4h, fix_keep_Same, eq_l16_HeavyDeriv, fix_l16_HeavyDeriv, eq_keep_Deriv, eq_keep_Deriv_3h, fix_keep_Deriv, eq_judge_Put, fix_judge_Put, eq_r16_Put, fix_r16_Put, eq_keep_Derivs, eq_keep_Derivs_4h, fix_keep_Derivs, eq_l16_wakes, eq_l16_wakes_5, fix_l16_wakes, eq_tree_CheckPat, eq_tree_CheckPat_r0, eq_B_tree_CheckPat_r0, eq_X_tree_CheckPat_r0_normal, eq_X_tree_CheckPat_r0_ret, eq_tree_CheckPat_6, fix_tree_CheckPat, eq_tree_Check, eq_tree_Check_r0, eq_B_tree_Check_r0, eq_X_tree_Check_r0_normal, eq_X_tree_Check_r0_ret, fix_tree_Check, eq_tree_Value, fix_tree_Value, eq_r03_Leaf, fix_r03_Leaf, eq_keep_SameAll, eq_keep_SameAll_4h, fix_keep_SameAll, eq_l03_Heavy, eq_l03_Heavy_3h, fix_l03_Heavy, eq_r08_Deep, eq_r08_Deep_4h, fix_r08_Deep, eq_r03_Vars, fix_r03_Vars, eq_r03_Kids, fix_r03_Kids, eq_l16_weigh, eq_l16_weigh_3h, eq_l16_weigh_9h, fix_l16_weigh, eq_keep_Types, eq_keep_Types_3h, fix_keep_Types, eq_scheme_Subst, eq_scheme_Subst_5h, fix_scheme_Subst, eq_judge_put, eq_judge_put_3h, eq_judge_put_11h, fix_judge_put, I_tree_CheckPat_r0_nil, I_tree_CheckPat_r0_cons, I_tree_Check_r0_nil, I_tree_Check_r0_cons,
    flatD_eq, flatK, flatDL_nil, flatDL_cons, proj_agg, isAggN_agg, bs_size, bs_eq, keyEq_lit, keyEq_num, dIx0, dIx1, dIx2, dIx3, dIx4, dIx5, dIx6, dIx7, dIx8, dIx9, dIx10, dIx11, dIx12, dIx13, dIx14, dIx15, dSi0, dSi1, dSi2, dSi3, dSi4, dSi5, dSi6, dSi7, sgBox, sgMap, sgArr, cellDat, cellMap, allDat, mGet_n, mGet_c, mSet_n, mSet_c, dAdd, dBin_sub, wrap_id, lim, dExt_t, dApp_l, dSlice_l, dSlice3_i, bnd_n, bnd_s, isKey, isLeaf, dEqA_a, dEqL_n, oneCell_1, seal_v, seal_f, seal_o, seal_a, ret1_some', retL, seqO, pack, cellOwn, cellPtr, dEqL_c, dEqK_i, dEqK_b, dUn_neg, -ob_some', -oif_bool, -ogd_bool, ↓ob_some', ↓ob_none', ↓og_true', ↓og_false', ↓oif_t, ↓oif_f, ↓ogd_t, ↓ogd_f, ob_some', oif_t, oif_f, ogd_t, ogd_f]
end Go.Su

/-
  The law JudgePut answers true on data.
-/
namespace Go.Su
set_option linter.unusedVariables false
set_option linter.unusedSimpArgs false

theorem Deriv.put_fit {l : List (Int × Ty)} (hl : rightBinds l = true) (d : Deriv) : d.fit → d.rightT = true → (d.put l).fit := by
  induction d using Deriv.ind with
  | h d ih =>
    intro hd hr
    have hf := (Deriv.fit_eq d).1 hd
    rw [Deriv.rightT_eq] at hr
    simp only [Bool.and_eq_true, List.all_eq_true] at hr
    rw [Deriv.put_eq, Deriv.fit_eq]
    simp only [Deriv.types_mk, Deriv.vars_mk, Deriv.kids_mk, List.length_map]
    refine ⟨hf.1, hf.2.1, hf.2.2.1, fun t ht => ?_, fun k hk => ?_⟩
    · obtain ⟨u, hu, rfl⟩ := List.mem_map.1 ht
      exact Ty.thin_of_right (Ty.right_put (fun e he => (rightBinds_iff.1 hl e he).2.2) u (hr.1 u hu))
    · obtain ⟨u, hu, rfl⟩ := List.mem_map.1 hk
      exact ih u hu (hf.2.2.2.2 u hu) (hr.2 u hu)
theorem zeroDeriv_fit : zeroDeriv.fit := by
  rw [Deriv.fit_eq]
  refine ⟨by simp [zeroDeriv, lim], by simp [zeroDeriv, lim], by simp [zeroDeriv, lim], fun t ht => ?_, fun k hk => ?_⟩
  · simp [zeroDeriv] at ht
  · simp [zeroDeriv] at hk

theorem law_put (d : Deriv) (l : List (Int × Ty)) (hm : d.mass ≤ 1048576) (hl : l.length ≤ lim) (hz : ∀ e ∈ l, e.2.size ≤ lim) : (run cfg).p F_l16_JudgePut [d.enc, encBnds l] = some (.bool true) := by
  have hd : d.fit := Deriv.fit_mass (by unfold lim; omega)
  have hlt : ∀ e ∈ l, e.2.thin = true := fun e he => Ty.thin_of_size (hz e he)
  obtain ⟨b1, h1⟩ := sp_l16_HeavyDeriv d (by omega)
  have hk := sp_keep_Deriv d hd
  have hp := sp_judge_Put l hl hlt d hd
  have hq := sp_r16_Put l hl hlt d hd
  have hdd := sp_keep_Derivs d hd d
  have hb := big hl
  refine call_l16_JudgePut _ _ ?_
  rw [eq_l16_JudgePut]
  have stop : P_l16_JudgePut_4h (run cfg) (encBnds l) (.int .i64 l.length) d.enc = some (.bool true) := by
    rw [eq_l16_JudgePut_4h]
    by_cases hc : d.rightT = true ∧ rightBinds l = true
    · have hy := sp_keep_Derivs _ (Deriv.put_fit hc.2 d hd hc.1) (d.put l)
      simp [Deriv.eta, hk, hp, hq, hc, dExt, hy, hdd, w_l16_wakes]
    · have hy := sp_keep_Derivs _ zeroDeriv_fit zeroDeriv
      simp only [if_neg hc] at hp hq
      simp [Deriv.eta, hk, hp, hq, dExt, hy, hdd, w_l16_wakes]
  have loop : ∀ (k i : Nat), i + k = l.length → P_l16_JudgePut_4h (run cfg) (encBnds l) (.int .i64 i) d.enc = some (.bool true) := by
    intro k
    induction k with
    | zero => intro i hi; have : i = l.length := by omega
              subst this; exact stop
    | succ k ih =>
      intro i hi
      have h : i < l.length := by omega
      have hsz := hz _ (List.getElem_mem h)
      obtain ⟨c, hc⟩ := sp_l11_Small [l[i].2] (by simp [lim]) (by intro t ht; simp at ht; subst ht; exact hsz)
      simp only [List.map_cons, List.map_nil] at hc
      have e1 : dIdx 4 (encBnds l) (.int .i64 (i : Int)) = some (encBnd l[i]) := dIdx_map h
      have nx := ih (i + 1) (by omega)
      push_cast at nx
      rw [eq_l16_JudgePut_4h]
      cases c
      · simp [h, e1, Ty.eta, hc]
      · have hs := sp_r03_Size _ hsz
        by_cases h60 : (60 : Int) < (l[i].2.size : Int)
        · simp [h, e1, Ty.eta, hc, hs, h60]
        · simp [h, e1, Ty.eta, hc, hs, h60, dAdd1 (show i < 9223372036854775807 by omega), nx]
  have l0 := loop l.length 0 (by omega)
  simp only [Int.natCast_zero, Int.ofNat_zero, Int.cast_ofNat_Int] at l0
  cases b1
  · by_cases h20 : (20 : Int) < (l.length : Int)
    · simp [Deriv.eta, h1, h20]
    · simp [Deriv.eta, h1, h20, l0]
  · simp [Deriv.eta, h1]
end Go.Su
