/-
  Parts of the proof, merged: Q, W, L.
-/
import Derived.Test.YtgccmhlmdnimjaaE3
import Derived.Test.YtgccmhlmdnimjaaE4
import Derived.Test.YtgccmhlmdnimjaaE5
set_option linter.unusedVariables false
set_option linter.unusedSimpArgs false
/-
  The functions' specs that this claim needs.
-/
namespace Go.Su
set_option linter.unusedVariables false
set_option linter.unusedSimpArgs false

theorem big {n : Nat} (h : n ≤ lim) : n < 4294967297 := by unfold lim at h; omega

theorem Ty.kid_big {t k : Ty} (ht : t.size ≤ lim) (h : k ∈ t.kids) : k.size ≤ lim := by have := Ty.size_kid h; omega

theorem Ty.len_big {t : Ty} (ht : t.size ≤ lim) : t.kids.length < 4294967296 := by have := t.len_lt; have := big ht; omega

theorem sp_r03_Size (t : Ty) : t.size ≤ lim → (run cfg).p F_r03_Size [t.enc] = some (.int .i64 t.size) := by
  induction t using Ty.ind with
  | h t ih =>
    intro ht
    have hb := Ty.len_big ht
    refine call_r03_Size _ ?_
    rw [eq_r03_Size]
    simp only [isAggN_Ty, og_true']
    have loop := loop_fold (l := t.kids) (P := fun i (a : Nat) => P_r03_Size_3h (run cfg) (.int .i64 a) (.int .i64 i) t.enc) (g := fun a k => a + k.size) (fin := fun a => some (.int .i64 a))
      (I := fun i a => a + ((t.kids.drop i).map Ty.size).sum ≤ lim)
      (fun a _ => by rw [eq_r03_Size_3h]; simp)
      (fun i h a ha => by
        rw [List.drop_eq_getElem_cons h, List.map_cons, List.sum_cons] at ha
        have := big ha
        refine ⟨?_, by omega⟩
        rw [eq_r03_Size_3h]
        simp [h, dIdx_map h, Ty.eta, ih _ (List.getElem_mem h) (Ty.kid_big ht (List.getElem_mem h)), dAdd1 (show i < 9223372036854775807 by omega)]
        rw [dAdd (by omega) (by omega)]
        simp) 1 (by have := Ty.size_eq t; simpa using (by omega : 1 + (t.kids.map Ty.size).sum ≤ lim))
    have e : ∀ (l : List Ty) (a : Nat), l.foldl (fun a k => a + k.size) a = a + (l.map Ty.size).sum := by
      intro l
      induction l with
      | nil => intro a; simp
      | cons x l ih => intro a; simp [ih]; omega
    rw [e, ← Ty.size_eq] at loop
    exact loop

theorem sp_keep_Same (a : Ty) : a.thin = true → ∀ b : Ty, (run cfg).p F_keep_Same [a.enc, b.enc] = some (.bool (decide (a = b))) := by
  induction a using Ty.ind with
  | h a ih =>
    intro ha b
    have hb := a.thin_len ha
    refine call_keep_Same _ _ ?_
    rw [eq_keep_Same]
    simp
    by_cases h1 : a.kind = b.kind <;> simp [h1, Ty.ext_iff']
    by_cases h2 : a.n = b.n <;> simp [h2]
    by_cases h3 : a.kids.length = b.kids.length
    · have loop := loop_two (l := a.kids) (m := b.kids) h3 (P := fun i => P_keep_Same_4h (run cfg) (.int .i64 i) a.enc b.enc) (y := .bool true) (n := .bool false)
        (by rw [eq_keep_Same_4h]; simp [h3])
        (fun i h => by
          have h' : i < b.kids.length := by omega
          rw [eq_keep_Same_4h]
          simp [h, h', dIdx_map h, dIdx_map h', Ty.eta, ih _ (List.getElem_mem h) (Ty.thin_kid ha (List.getElem_mem h)), dAdd1 (show i < 9223372036854775807 by omega)])
      simp only [h3] at loop ⊢
      simp [loop]
      by_cases h4 : a.kids = b.kids <;> simp [h4]
    · have : a.kids ≠ b.kids := fun h => h3 (by rw [h])
      simp [Int.ofNat_inj, h3, this]

theorem sp_r03_In (l : List Int) (hl : l.length ≤ lim) (n : Int) : (run cfg).p F_r03_In [encInts l, .int .i64 n] = some (.bool (decide (n ∈ l))) := by
  have hb := big hl
  refine call_r03_In _ _ ?_
  rw [eq_r03_In]
  have loop := loop_anyB (l := l) (f := fun x => decide (x = n)) (P := fun i => P_r03_In_2h (run cfg) (encInts l) (.int .i64 n) (.int .i64 i))
    (by rw [eq_r03_In_2h]; simp)
    (fun i h => by
      rw [eq_r03_In_2h]
      simp [h, dIdx_ints h, dAdd1 (show i < 9223372036854775807 by omega)])
  refine loop.trans ?_
  congr 2
  rw [Bool.eq_iff_iff]
  simp

theorem sp_r03_vars (t : Ty) : ∀ (l : List Int) (sg : List SObj), l.length + t.size ≤ lim → (run cfg).r F_r03_vars [(t.enc, .val), (encInts l, .own)] sg = some ([encInts (t.varsOn l)], sg) := by
  induction t using Ty.ind with
  | h t ih =>
    intro l sg hl
    have hb := Ty.len_big (show t.size ≤ lim by omega)
    have hB := big hl
    refine call_r03_vars _ _ _ ?_
    have loop : ∀ l : List Int, l.length + (t.kids.map Ty.size).sum ≤ lim → P_r03_vars_4h (run cfg) (encInts l) (.int .i64 0) t.enc sg = some ([encInts (t.kids.foldl (fun l k => k.varsOn l) l)], sg) :=
      loop_fold (l := t.kids) (P := fun i (a : List Int) => P_r03_vars_4h (run cfg) (encInts a) (.int .i64 i) t.enc sg) (g := fun a k => k.varsOn a) (fin := fun a => some ([encInts a], sg))
        (I := fun i a => a.length + ((t.kids.drop i).map Ty.size).sum ≤ lim)
        (fun a _ => by rw [eq_r03_vars_4h]; simp)
        (fun i h a ha => by
          rw [List.drop_eq_getElem_cons h, List.map_cons, List.sum_cons] at ha
          have h1 := Ty.varsOn_len t.kids[i] a
          refine ⟨?_, by omega⟩
          rw [eq_r03_vars_4h]
          simp [h, dIdx_map h, Ty.eta, ih _ (List.getElem_mem h) a sg (by omega), dAdd1 (show i < 9223372036854775807 by omega)])
    have hsz := Ty.size_eq t
    rw [eq_r03_vars, Ty.varsOn_eq]
    simp
    by_cases h6 : t.kind = 6
    · simp [h6, sp_r03_In l (by omega) t.n]
      by_cases hn : t.n ∈ l
      · simp [hn, eq_r03_vars_3, loop l (by omega)]
      · simp [hn, eq_r03_vars_3]
        rw [show encInts l = .list 1 (l.map fun n => .int .i64 n) from rfl, dApp_list (by simp; omega)]
        simp
        have := loop (l ++ [t.n]) (by simp; omega)
        simpa [encInts] using this
    · simp [h6, eq_r03_vars_3, loop l (by omega)]

theorem sp_r03_Vars (t : Ty) (ht : t.size ≤ lim) : (run cfg).p F_r03_Vars [t.enc] = some (encInts t.vars) := by
  refine call_r03_Vars _ ?_
  rw [eq_r03_Vars]
  have := sp_r03_vars t [] [] (by simpa using ht)
  have e : encInts [] = .list 1 [] := rfl
  rw [e] at this
  simp [Ty.eta, this, Ty.vars]

theorem sp_r03_Leaf (k : Int) : (run cfg).p F_r03_Leaf [.int .i64 k] = some (Ty.mk k 0 []).enc := by
  refine call_r03_Leaf _ ?_
  rw [eq_r03_Leaf]
  simp [Ty.enc]

theorem sp_l03_count (t : Ty) : ∀ n : Int, t.thin = true → 0 ≤ n → n ≤ 1048576 → ∃ m : Int, (run cfg).p F_l03_count [t.enc, .int .i64 n] = some (.int .i64 m) ∧ 0 ≤ m ∧ m ≤ max (n + 1) 601 := by
  induction t using Ty.ind with
  | h t ih =>
    intro n ht h0 h1
    have hb := t.thin_len ht
    have loop : ∀ m : Int, 0 ≤ m → m ≤ 1048577 → ∃ r : Int, P_l03_count_3h (run cfg) (.int .i64 m) (.int .i64 0) t.enc = some (.int .i64 r) ∧ 0 ≤ r ∧ r ≤ max m 601 := by
      have key : ∀ (k i : Nat) (m : Int), i + k = t.kids.length → 0 ≤ m → m ≤ 1048577 → ∃ r : Int, P_l03_count_3h (run cfg) (.int .i64 m) (.int .i64 i) t.enc = some (.int .i64 r) ∧ 0 ≤ r ∧ r ≤ max m 601 := by
        intro k
        induction k with
        | zero =>
          intro i m hi h0 h1
          rw [eq_l03_count_3h]
          have : ¬ i < t.kids.length := by omega
          exact ⟨m, by simp [this], h0, by omega⟩
        | succ k ihk =>
          intro i m hi h0 h1
          have h : i < t.kids.length := by omega
          rw [eq_l03_count_3h]
          by_cases hm : m ≤ 600
          · obtain ⟨r, hr, hr0, hr1⟩ := ih _ (List.getElem_mem h) m (Ty.thin_kid ht (List.getElem_mem h)) h0 (by omega)
            obtain ⟨s, hs, hs0, hs1⟩ := ihk (i + 1) r (by omega) hr0 (by omega)
            push_cast at hs
            exact ⟨s, by simp [h, hm, dIdx_map h, Ty.eta, hr, dAdd1 (show i < 9223372036854775807 by omega), hs], hs0, by omega⟩
          · exact ⟨m, by simp [h, hm], h0, by omega⟩
      exact fun m h0 h1 => key t.kids.length 0 m (by omega) h0 h1
    obtain ⟨r, hr, hr0, hr1⟩ := loop (n + 1) (by omega) (by omega)
    refine ⟨r, call_l03_count _ _ ?_, hr0, hr1⟩
    rw [eq_l03_count]
    simp
    rw [dAdd (by omega) (by omega)]
    simpa using hr

theorem sp_l03_Heavy1 (t : Ty) (ht : t.thin = true) : ∃ b : Bool, (run cfg).p F_l03_Heavy [.list 3 [t.enc]] = some (.bool b) := by
  obtain ⟨m, h1, h2, h3⟩ := sp_l03_count t 0 ht (by omega) (by omega)
  refine ⟨decide (600 < m), call_l03_Heavy _ ?_⟩
  rw [eq_l03_Heavy, eq_l03_Heavy_3h]
  have e0 : dIdx 3 (.list 3 [t.enc]) (.int .i64 0) = some t.enc := by simp [dIdx]
  simp [e0, Ty.eta, h1, dAdd (show (-9223372036854775808 : Int) ≤ 0 + 1 by omega) (by omega)]
  rw [eq_l03_Heavy_3h]
  simp

theorem sp_r08_Deep (t : Ty) : ∀ n : Int, -9223372036854775000 ≤ n → n ≤ 1000 → t.thin = true → (run cfg).p F_r08_Deep [t.enc, .int .i64 n] = some (.bool (t.deep n)) := by
  induction t using Ty.ind with
  | h t ih =>
    intro n hn0 hn ht
    have hb := t.thin_len ht
    refine call_r08_Deep _ _ ?_
    rw [eq_r08_Deep, Ty.deep_eq]
    simp
    by_cases h0 : n ≤ 0
    · simp [h0]
    · have loop := loop_anyB (l := t.kids) (f := fun k => k.deep (n - 1)) (P := fun i => P_r08_Deep_4h (run cfg) (.int .i64 n) (.int .i64 i) t.enc)
        (by rw [eq_r08_Deep_4h]; simp)
        (fun i h => by
          rw [eq_r08_Deep_4h]
          simp [h, dIdx_map h, Ty.eta, dBin_sub, wrap_id (show (-9223372036854775808 : Int) ≤ n - 1 by omega) (by omega), ih _ (List.getElem_mem h) (n - 1) (by omega) (by omega) (Ty.thin_kid ht (List.getElem_mem h)), dAdd1 (show i < 9223372036854775807 by omega)])
      simp only [h0, decide_false, Bool.false_or]
      exact loop

@[simp] theorem dEqA_two (a b c d : Int) (k : IntKind) : dEqA [.int, .int] (.agg [.int k a, .int k b]) (.agg [.int k c, .int k d]) = some (decide (a = c) && decide (b = d)) := by
  simp only [dEqA, dEqLeaves, dEqK, if_true, ob_some']
  by_cases h : a = c <;> by_cases h' : b = d <;> simp [h, h']

@[simp] theorem encBnd0 (e : Int × Ty) : proj 0 (encBnd e) = .int .i64 e.1 := rfl

@[simp] theorem encBnd1 (e : Int × Ty) : proj 1 (encBnd e) = .int .i64 e.2.kind := rfl

@[simp] theorem encBnd2 (e : Int × Ty) : proj 2 (encBnd e) = .int .i64 e.2.n := rfl

@[simp] theorem encBnd3 (e : Int × Ty) : proj 3 (encBnd e) = .list 3 (e.2.kids.map Ty.enc) := rfl

@[simp] theorem isAggN_Bnd (e : Int × Ty) : isAggN 4 (encBnd e) = true := rfl

theorem Ty.mk_agg (k n : Int) (ks : List Ty) : DV.agg [.int .i64 k, .int .i64 n, .list 3 (ks.map Ty.enc)] = (Ty.mk k n ks).enc := (Ty.enc_eq (.mk k n ks)).symm

theorem Nm.agg (n : ByteArray) (t : Ty) (vs : List Int) : DV.agg [.str n, .int .i64 t.kind, .int .i64 t.n, .list 3 (t.kids.map Ty.enc), encInts vs] = Nm.enc ⟨n, t, vs⟩ := rfl

theorem sp_l11_Small (ts : List Ty) (hl : ts.length ≤ lim) (h : ∀ t ∈ ts, t.size ≤ lim) : ∃ b : Bool, (run cfg).p F_l11_Small [.list 3 (ts.map Ty.enc)] = some (.bool b) := by
  have hb := big hl
  have loop : ∀ (n j : Nat), j + n = ts.length → ∃ b : Bool, P_l11_Small_2h (run cfg) (.list 3 (ts.map Ty.enc)) (.int .i64 j) = some (.bool b) := by
    intro n
    induction n with
    | zero =>
      intro j hj
      refine ⟨true, ?_⟩
      have : ¬ j < ts.length := by omega
      rw [eq_l11_Small_2h]
      simp [this]
    | succ n ih =>
      intro j hj
      have hj' : j < ts.length := by omega
      obtain ⟨b, hb'⟩ := ih (j + 1) (by omega)
      have hsz := h _ (List.getElem_mem hj')
      have hth := Ty.thin_of_size hsz
      obtain ⟨c, hc⟩ := sp_l03_Heavy1 ts[j] hth
      have hd := sp_r08_Deep ts[j] 60 (by omega) (by omega) hth
      have hv := sp_r03_Vars ts[j] hsz
      push_cast at hb'
      rw [eq_l11_Small_2h]
      cases c
      · cases hdd : ts[j].deep 60
        · by_cases hq : (8 : Int) < (ts[j].vars.length : Int)
          · exact ⟨false, by simp [hj', dIdx_map hj', Ty.eta, hc, hd, hdd, hv, hq]⟩
          · exact ⟨b, by simp [hj', dIdx_map hj', Ty.eta, hc, hd, hdd, hv, hq, dAdd1 (show j < 9223372036854775807 by omega), hb']⟩
        · exact ⟨false, by simp [hj', dIdx_map hj', Ty.eta, hc, hd, hdd]⟩
      · exact ⟨false, by simp [hj', dIdx_map hj', Ty.eta, hc]⟩
  obtain ⟨b, h1⟩ := loop ts.length 0 (by omega)
  refine ⟨b, call_l11_Small _ ?_⟩
  rw [eq_l11_Small]
  exact h1

theorem loop_map {α β X : Type} {l : List α} {P : Int → List β → Option X} {g : α → β} {fin : List β → Option X} (stop : ∀ a, a.length = l.length → P l.length a = fin a)
    (step : ∀ (i : Nat) (h : i < l.length) (a : List β), a.length = i → P i a = P ((i : Int) + 1) (a ++ [g l[i]])) : P 0 [] = fin (l.map g) := by
  have := loop_fold (l := l) (P := P) (g := fun a k => a ++ [g k]) (fin := fin) (I := fun j a => a.length = j) (fun a h => stop a h)
    (fun j h a ha => ⟨step j h a ha, by simp [ha]⟩) [] rfl
  rw [this]
  congr 1
  have e : ∀ (m : List α) (a : List β), m.foldl (fun a k => a ++ [g k]) a = a ++ m.map g := by
    intro m
    induction m with
    | nil => intro a; simp
    | cons x m ih => intro a; simp [ih]
  rw [e]; rfl

def Deriv.fit (d : Deriv) : Prop := d.types.length < lim ∧ d.vars.length < lim ∧ d.kids.length < lim ∧ (∀ t ∈ d.types, t.thin = true) ∧ ∀ k : { x // x ∈ d.kids }, Deriv.fit k.1
termination_by SizeOf.sizeOf d
decreasing_by exact Deriv.kid_lt k.2

theorem Deriv.fit_eq (d : Deriv) : d.fit ↔ d.types.length < lim ∧ d.vars.length < lim ∧ d.kids.length < lim ∧ (∀ t ∈ d.types, t.thin = true) ∧ ∀ k ∈ d.kids, k.fit := by
  rw [Deriv.fit]
  simp

theorem Deriv.fit_mass {d : Deriv} : d.mass ≤ lim → d.fit := by
  induction d using Deriv.ind with
  | h d ih =>
    intro h
    rw [Deriv.fit_eq]
    have h1 := d.mass_types
    have h2 := d.mass_vars
    have h3 := d.mass_len
    have h4 : d.types.length ≤ (d.types.map Ty.size).sum := by
      have : ∀ l : List Ty, l.length ≤ (l.map Ty.size).sum := by
        intro l
        induction l with
        | nil => simp
        | cons x l ih => have := Ty.size_pos x; simp only [List.length_cons, List.map_cons, List.sum_cons]; omega
      exact this _
    refine ⟨by omega, by omega, by omega, fun t ht => ?_, fun k hk => ih k hk ?_⟩
    · refine Ty.thin_of_size ?_
      have := le_sum_mem (List.mem_map_of_mem (f := Ty.size) ht)
      omega
    · have := Deriv.mass_kid hk; omega

theorem Deriv.type_size {d : Deriv} (h : d.mass ≤ lim) {t : Ty} (ht : t ∈ d.types) : t.size ≤ lim := by
  have := le_sum_mem (List.mem_map_of_mem (f := Ty.size) ht)
  have := d.mass_types
  omega

theorem sp_keep_Type (t : Ty) : t.thin = true → (run cfg).p F_keep_Type [t.enc] = some t.enc := by
  induction t using Ty.ind with
  | h t ih =>
    intro ht
    have hb := t.thin_len ht
    refine call_keep_Type _ ?_
    rw [eq_keep_Type]
    have loop := loop_map (l := t.kids) (P := fun j (a : List Ty) => P_keep_Type_3h (run cfg) (.int .i64 j) t.enc (.int .i64 0) (.int .i64 0) (.list 3 []) (.int .i64 t.kind) (.int .i64 t.n) (.list 3 (a.map Ty.enc)))
      (g := fun k => k) (fin := fun a => some (Ty.mk t.kind t.n a).enc)
      (fun a _ => by rw [eq_keep_Type_3h]; simp [Ty.mk_agg])
      (fun j h a ha => by
        rw [eq_keep_Type_3h]
        have := dApp_map (e := Ty.enc) (sz := 3) (l := a) (x := t.kids[j]) (by unfold lim; omega)
        simp [h, dIdx_map h, Ty.eta, ih _ (List.getElem_mem h) (Ty.thin_kid ht (List.getElem_mem h)), this, dAdd1 (show j < 9223372036854775807 by omega)])
    simp only [List.map_nil, List.map_id_fun', id_eq] at loop
    have e : Ty.mk t.kind t.n t.kids = t := by cases t; rfl
    rw [e] at loop
    simp [loop]

theorem sp_keep_Types (l : List Ty) (hl : l.length < lim) (h : ∀ t ∈ l, t.thin = true) : (run cfg).p F_keep_Types [.list 3 (l.map Ty.enc)] = some (.list 3 (l.map Ty.enc)) := by
  have hb := big (Nat.le_of_lt hl)
  refine call_keep_Types _ ?_
  rw [eq_keep_Types]
  have loop := loop_map (l := l) (P := fun j (a : List Ty) => P_keep_Types_3h (run cfg) (.list 3 (l.map Ty.enc)) (.list 3 (a.map Ty.enc)) (.int .i64 j))
    (g := fun k => k) (fin := fun a => some (.list 3 (a.map Ty.enc)))
    (fun a _ => by rw [eq_keep_Types_3h]; simp)
    (fun j hj a ha => by
      rw [eq_keep_Types_3h]
      have := dApp_map (e := Ty.enc) (sz := 3) (l := a) (x := l[j]) (by omega)
      simp [hj, dIdx_map hj, Ty.eta, sp_keep_Type _ (h _ (List.getElem_mem hj)), this, dAdd1 (show j < 9223372036854775807 by omega)])
  simp only [List.map_nil, List.map_id_fun', id_eq] at loop
  simp [loop]

theorem sp_keep_Ints (a b : List Int) (hl : a.length ≤ lim) : (run cfg).p F_keep_Ints [encInts a, encInts b] = some (.bool (decide (a = b))) := by
  have hb := big hl
  refine call_keep_Ints _ _ ?_
  rw [eq_keep_Ints]
  simp
  by_cases h3 : a.length = b.length
  · have loop := loop_two (l := a) (m := b) h3 (P := fun i => P_keep_Ints_4h (run cfg) (encInts a) (encInts b) (.int .i64 i)) (y := .bool true) (n := .bool false)
      (by rw [eq_keep_Ints_4h]; simp [h3])
      (fun i h => by
        have h' : i < b.length := by omega
        rw [eq_keep_Ints_4h]
        by_cases hh : a[i] = b[i] <;> simp [h, h', dIdx_ints h, dIdx_ints h', hh, dAdd1 (show i < 9223372036854775807 by omega)])
    simp only [h3] at loop ⊢
    simp [loop]
    by_cases h4 : a = b <;> simp [h4]
  · have : a ≠ b := fun h => h3 (by rw [h])
    simp [Int.ofNat_inj, h3, this]

theorem sp_keep_SameAll (a b : List Ty) (hl : a.length ≤ lim) (ha : ∀ t ∈ a, t.thin = true) : (run cfg).p F_keep_SameAll [.list 3 (a.map Ty.enc), .list 3 (b.map Ty.enc)] = some (.bool (decide (a = b))) := by
  have hb := big hl
  refine call_keep_SameAll _ _ ?_
  rw [eq_keep_SameAll]
  simp
  by_cases h3 : a.length = b.length
  · have loop := loop_two (l := a) (m := b) h3 (P := fun i => P_keep_SameAll_4h (run cfg) (.list 3 (a.map Ty.enc)) (.list 3 (b.map Ty.enc)) (.int .i64 i)) (y := .bool true) (n := .bool false)
      (by rw [eq_keep_SameAll_4h]; simp [h3])
      (fun i h => by
        have h' : i < b.length := by omega
        rw [eq_keep_SameAll_4h]
        simp [h, h', dIdx_map h, dIdx_map h', Ty.eta, sp_keep_Same _ (ha _ (List.getElem_mem h)), dAdd1 (show i < 9223372036854775807 by omega)])
    simp only [h3] at loop ⊢
    simp [loop]
    by_cases h4 : a = b <;> simp [h4]
  · have : a ≠ b := fun h => h3 (by rw [h])
    simp [Int.ofNat_inj, h3, this]

theorem sp_keep_Derivs (a : Deriv) : a.fit → ∀ b : Deriv, (run cfg).p F_keep_Derivs [a.enc, b.enc] = some (.bool (decide (a = b))) := by
  induction a using Deriv.ind with
  | h a ih =>
    intro ha b
    have hf := (Deriv.fit_eq a).1 ha
    have hb := big (Nat.le_of_lt hf.2.2.1)
    refine call_keep_Derivs _ _ ?_
    rw [eq_keep_Derivs]
    simp [sp_keep_SameAll _ _ (Nat.le_of_lt hf.1) hf.2.2.2.1, sp_keep_Ints _ _ (Nat.le_of_lt hf.2.1)]
    by_cases h1 : a.types = b.types <;> simp [h1, Deriv.ext_iff']
    by_cases h2 : a.vars = b.vars <;> simp [h2]
    by_cases h3 : a.kids.length = b.kids.length
    · have loop := loop_two (l := a.kids) (m := b.kids) h3 (P := fun i => P_keep_Derivs_4h (run cfg) (.int .i64 i) a.enc b.enc) (y := .bool true) (n := .bool false)
        (by rw [eq_keep_Derivs_4h]; simp [h3])
        (fun i h => by
          have h' : i < b.kids.length := by omega
          rw [eq_keep_Derivs_4h]
          simp [h, h', dIdx_map h, dIdx_map h', Deriv.eta, ih _ (List.getElem_mem h) (hf.2.2.2.2 _ (List.getElem_mem h)), dAdd1 (show i < 9223372036854775807 by omega)])
      simp only [h3] at loop ⊢
      simp [loop]
      by_cases h4 : a.kids = b.kids <;> simp [h4]
    · have : a.kids ≠ b.kids := fun h => h3 (by rw [h])
      simp [Int.ofNat_inj, h3, this]

theorem Deriv.mk_agg (ts : List Ty) (vs : List Int) (ks : List Deriv) : DV.agg [.list 3 (ts.map Ty.enc), encInts vs, .list 3 (ks.map Deriv.enc)] = (Deriv.mk ts vs ks).enc := (Deriv.enc_eq (.mk ts vs ks)).symm

theorem dApp_ints {a b : List Int} (h : a.length + b.length ≤ lim) : dApp 1 (encInts a) (encInts b) = some (encInts (a ++ b)) := dApp_maps h

theorem encInts_nil : (.list 1 [] : DV) = encInts [] := rfl

theorem sp_keep_Deriv (t : Deriv) : t.fit → (run cfg).p F_keep_Deriv [t.enc] = some t.enc := by
  induction t using Deriv.ind with
  | h t ih =>
    intro ht
    have hf := (Deriv.fit_eq t).1 ht
    have hb := big (Nat.le_of_lt hf.2.2.1)
    refine call_keep_Deriv _ ?_
    rw [eq_keep_Deriv]
    have loop := loop_map (l := t.kids) (P := fun j (a : List Deriv) => P_keep_Deriv_3h (run cfg) (.int .i64 j) t.enc (.list 3 []) (encInts []) (.list 3 []) (.list 3 (t.types.map Ty.enc)) (encInts t.vars) (.list 3 (a.map Deriv.enc)))
      (g := fun k => k) (fin := fun a => some (Deriv.mk t.types t.vars a).enc)
      (fun a _ => by rw [eq_keep_Deriv_3h]; simp [Deriv.mk_agg])
      (fun j h a ha => by
        rw [eq_keep_Deriv_3h]
        have := dApp_map (e := Deriv.enc) (sz := 3) (l := a) (x := t.kids[j]) (by omega)
        simp [h, dIdx_map h, Deriv.eta, ih _ (List.getElem_mem h) (hf.2.2.2.2 _ (List.getElem_mem h)), this, dAdd1 (show j < 9223372036854775807 by omega)])
    simp only [List.map_nil, List.map_id_fun', id_eq] at loop
    have e : Deriv.mk t.types t.vars t.kids = t := by cases t; rfl
    rw [e] at loop
    have hv := dApp_ints (a := []) (b := t.vars) (by simp; omega)
    simp only [encInts_nil]
    simp [sp_keep_Types _ hf.1 hf.2.2.2.1, hv, loop]

theorem sp_l16_weigh (d : Deriv) : d.mass ≤ 4000000000 → ∀ n : Int, 0 ≤ n → n ≤ 1500 → ∃ m : Int, (run cfg).p F_l16_weigh [d.enc, .int .i64 n] = some (.int .i64 m) ∧ 0 ≤ m ∧ m ≤ 10000000000 := by
  induction d using Deriv.ind with
  | h d ih =>
    intro hm n h0 h1
    have hl : d.mass ≤ lim := by unfold lim; omega
    have hv := d.mass_vars
    have ht := (Deriv.fit_eq d).1 (Deriv.fit_mass hl)
    have hb1 := big (Nat.le_of_lt ht.1)
    have hb3 := big (Nat.le_of_lt ht.2.2.1)
    have loop2 : ∀ (k i : Nat) (m : Int), i + k = d.kids.length → 0 ≤ m → m ≤ 10000000000 → ∃ r : Int, P_l16_weigh_9h (run cfg) (.int .i64 m) (.int .i64 i) d.enc = some (.int .i64 r) ∧ 0 ≤ r ∧ r ≤ 10000000000 := by
      intro k
      induction k with
      | zero =>
        intro i m hi h0 h1
        have : ¬ i < d.kids.length := by omega
        exact ⟨m, by rw [eq_l16_weigh_9h]; simp [this], h0, h1⟩
      | succ k ihk =>
        intro i m hi h0 h1
        have h : i < d.kids.length := by omega
        by_cases hm' : m ≤ 1500
        · obtain ⟨r, hr, hr0, hr1⟩ := ih _ (List.getElem_mem h) (by have := Deriv.mass_kid (List.getElem_mem h); omega) m h0 hm'
          obtain ⟨s, hs, hs0, hs1⟩ := ihk (i + 1) r (by omega) hr0 hr1
          push_cast at hs
          exact ⟨s, by rw [eq_l16_weigh_9h]; simp [h, hm', dIdx_map h, Deriv.eta, hr, dAdd1 (show i < 9223372036854775807 by omega), hs], hs0, hs1⟩
        · exact ⟨m, by rw [eq_l16_weigh_9h]; simp [h, hm'], h0, h1⟩
    have loop1 : ∀ (k i : Nat) (m : Int), i + k = d.types.length → 0 ≤ m → m ≤ 10000000000 → ∃ r : Int, P_l16_weigh_3h (run cfg) (.int .i64 m) (.int .i64 i) d.enc = some (.int .i64 r) ∧ 0 ≤ r ∧ r ≤ 10000000000 := by
      intro k
      induction k with
      | zero =>
        intro i m hi h0 h1
        have : ¬ i < d.types.length := by omega
        obtain ⟨r, hr, hr0, hr1⟩ := loop2 d.kids.length 0 m (by omega) h0 h1
        simp only [Int.natCast_zero, Int.ofNat_zero, Int.cast_ofNat_Int] at hr
        exact ⟨r, by rw [eq_l16_weigh_3h]; simp [this, hr], hr0, hr1⟩
      | succ k ihk =>
        intro i m hi h0 h1
        have h : i < d.types.length := by omega
        by_cases hm' : m ≤ 1500
        · have hsz := Deriv.type_size hl (List.getElem_mem h)
          obtain ⟨c, hc⟩ := sp_l11_Small [d.types[i]] (by simp [lim]) (by intro t ht; simp at ht; subst ht; exact hsz)
          simp only [List.map_cons, List.map_nil] at hc
          cases c
          · exact ⟨1501, by rw [eq_l16_weigh_3h]; simp [h, hm', dIdx_map h, Ty.eta, hc], by omega, by omega⟩
          · have hz := sp_r03_Size _ hsz
            have hsz' : d.types[i].size ≤ 4000000000 := by
              have := le_sum_mem (List.mem_map_of_mem (f := Ty.size) (List.getElem_mem h))
              have := d.mass_types
              omega
            obtain ⟨s, hs, hs0, hs1⟩ := ihk (i + 1) (m + d.types[i].size) (by omega) (by omega) (by omega)
            push_cast at hs
            exact ⟨s, by rw [eq_l16_weigh_3h]; simp [h, hm', dIdx_map h, Ty.eta, hc, hz, dAdd (show (-9223372036854775808 : Int) ≤ m + d.types[i].size by omega) (by omega), dAdd1 (show i < 9223372036854775807 by omega), hs], hs0, hs1⟩
        · obtain ⟨r, hr, hr0, hr1⟩ := loop2 d.kids.length 0 m (by omega) h0 h1
          simp only [Int.natCast_zero, Int.ofNat_zero, Int.cast_ofNat_Int] at hr
          exact ⟨r, by rw [eq_l16_weigh_3h]; simp [h, hm', hr], hr0, hr1⟩
    obtain ⟨r, hr, hr0, hr1⟩ := loop1 d.types.length 0 (n + 1 + d.vars.length) (by omega) (by omega) (by omega)
    simp only [Int.natCast_zero, Int.ofNat_zero, Int.cast_ofNat_Int] at hr
    refine ⟨r, call_l16_weigh _ _ ?_, hr0, hr1⟩
    rw [eq_l16_weigh]
    simp [dAdd (show (-9223372036854775808 : Int) ≤ n + 1 by omega) (by omega), dAdd (show (-9223372036854775808 : Int) ≤ n + 1 + d.vars.length by omega) (by omega), hr]

theorem sp_l16_HeavyDeriv (d : Deriv) (h : d.mass ≤ 4000000000) : ∃ b : Bool, (run cfg).p F_l16_HeavyDeriv [d.enc] = some (.bool b) := by
  obtain ⟨m, h1, h2, h3⟩ := sp_l16_weigh d h 0 (by omega) (by omega)
  refine ⟨decide (1500 < m), call_l16_HeavyDeriv _ ?_⟩
  rw [eq_l16_HeavyDeriv]
  simp [Deriv.eta, h1]

def Deriv.allVars : Deriv → List Int
  | .mk _ vs ks => vs ++ (ks.map Deriv.allVars).flatten

theorem Deriv.allVars_eq (d : Deriv) : d.allVars = d.vars ++ (d.kids.map Deriv.allVars).flatten := by
  cases d
  rw [Deriv.allVars]; rfl

theorem Deriv.allVars_mass (d : Deriv) : d.allVars.length ≤ d.mass := by
  induction d using Deriv.ind with
  | h d ih =>
    rw [Deriv.allVars_eq, Deriv.mass_eq, List.length_append, List.length_flatten]
    have : ∀ ks : List Deriv, (∀ k ∈ ks, k.allVars.length ≤ k.mass) → ((ks.map Deriv.allVars).map List.length).sum ≤ (ks.map Deriv.mass).sum := by
      intro ks
      induction ks with
      | nil => simp
      | cons k ks ihk =>
        intro h
        simp only [List.map_cons, List.sum_cons]
        have h1 := h k (by simp)
        have h2 := ihk fun x hx => h x (by simp [hx])
        omega
    have := this d.kids ih
    omega

def Ty.plain (K : Int → Bool) : Ty → Ty
  | .mk k n ks => if k = 6 ∧ K n = false then .mk 5 0 [] else .mk k n (ks.map (Ty.plain K))

theorem Ty.plain_eq (K : Int → Bool) (t : Ty) : t.plain K = if t.kind = 6 ∧ K t.n = false then .mk 5 0 [] else .mk t.kind t.n (t.kids.map (Ty.plain K)) := by
  cases t
  rw [Ty.plain]; rfl

theorem Ty.plain_thin (K : Int → Bool) (t : Ty) : t.thin = true → (t.plain K).thin = true := by
  induction t using Ty.ind with
  | h t ih =>
    intro h
    rw [Ty.plain_eq]
    rw [Ty.thin_eq] at h
    simp only [Bool.and_eq_true, decide_eq_true_eq, List.all_eq_true] at h
    split
    · rw [Ty.thin_eq]; simp
    · rw [Ty.thin_eq]
      simp only [Ty.kids_mk, List.length_map, Bool.and_eq_true, decide_eq_true_eq, List.all_eq_true]
      refine ⟨h.1, fun k hk => ?_⟩
      obtain ⟨u, hu, rfl⟩ := List.mem_map.1 hk
      exact ih u hu (h.2 u hu)

theorem Ty.plain_plain (K : Int → Bool) (t : Ty) : (t.plain K).plain K = t.plain K := by
  induction t using Ty.ind with
  | h t ih =>
    rw [Ty.plain_eq K t]
    split
    · rw [Ty.plain_eq]; simp
    · rename_i h
      rw [Ty.plain_eq]
      simp only [Ty.kind_mk, Ty.n_mk, Ty.kids_mk, if_neg h, List.map_map]
      congr 1
      exact List.map_congr_left fun k hk => ih k hk

def Deriv.plain (K : Int → Bool) : Deriv → Deriv
  | .mk ts vs ks => .mk (ts.map (Ty.plain K)) vs (ks.map (Deriv.plain K))

theorem Deriv.plain_eq (K : Int → Bool) (d : Deriv) : d.plain K = .mk (d.types.map (Ty.plain K)) d.vars (d.kids.map (Deriv.plain K)) := by
  cases d
  rw [Deriv.plain]; rfl

theorem Deriv.plain_plain (K : Int → Bool) (d : Deriv) : (d.plain K).plain K = d.plain K := by
  induction d using Deriv.ind with
  | h d ih =>
    rw [Deriv.plain_eq K d, Deriv.plain_eq]
    simp only [Deriv.types_mk, Deriv.vars_mk, Deriv.kids_mk, List.map_map]
    congr 1
    · exact List.map_congr_left fun t _ => Ty.plain_plain K t
    · exact List.map_congr_left fun k hk => ih k hk

theorem Deriv.plain_vars (K : Int → Bool) (d : Deriv) : (d.plain K).allVars = d.allVars := by
  induction d using Deriv.ind with
  | h d ih =>
    rw [Deriv.plain_eq K d, Deriv.allVars_eq, Deriv.allVars_eq d]
    simp only [Deriv.types_mk, Deriv.vars_mk, Deriv.kids_mk, List.map_map]
    congr 2
    exact List.map_congr_left fun k hk => ih k hk

theorem Deriv.plain_fit (K : Int → Bool) (d : Deriv) : d.fit → (d.plain K).fit := by
  induction d using Deriv.ind with
  | h d ih =>
    intro hd
    have hf := (Deriv.fit_eq d).1 hd
    rw [Deriv.plain_eq, Deriv.fit_eq]
    simp only [Deriv.types_mk, Deriv.vars_mk, Deriv.kids_mk, List.length_map]
    refine ⟨hf.1, hf.2.1, hf.2.2.1, fun t ht => ?_, fun k hk => ?_⟩
    · obtain ⟨u, hu, rfl⟩ := List.mem_map.1 ht
      exact Ty.plain_thin K u (hf.2.2.2.1 u hu)
    · obtain ⟨u, hu, rfl⟩ := List.mem_map.1 hk
      exact ih u hu (hf.2.2.2.2 u hu)

theorem sp_elab_stands (d : Deriv) : d.fit → ∀ (i : Nat) (pre : List Int) (sg : List SObj) (es : List (DV × DV)) (c : Int → Int) (B : Int), i < sg.length → CntIs es c → (∀ v, 0 ≤ c v ∧ c v ≤ B) → (∀ v, c v = 0 ↔ v ∉ pre) → B + d.allVars.length ≤ 4611686018427387904 →
    ∃ es' c', (run cfg).r F_elab_stands [(d.enc, .val), (.undef, .map i)] (sg.set i (.map false es)) = some ([], sg.set i (.map false es')) ∧ CntIs es' c' ∧ (∀ v, 0 ≤ c' v ∧ c' v ≤ B + d.allVars.length) ∧ (∀ v, c' v = 0 ↔ v ∉ pre ++ d.allVars) := by
  induction d using Deriv.ind with
  | h d ih =>
    intro hd i pre sg es c B hi hc hb hz hB
    have hf := (Deriv.fit_eq d).1 hd
    have hb2 := big (Nat.le_of_lt hf.2.1)
    have hb3 := big (Nat.le_of_lt hf.2.2.1)
    rw [Deriv.allVars_eq] at hB ⊢
    rw [List.length_append] at hB ⊢
    have kids : ∀ (n j : Nat) (pre : List Int) (es : List (DV × DV)) (c : Int → Int) (B : Int), j + n = d.kids.length → CntIs es c → (∀ v, 0 ≤ c v ∧ c v ≤ B) → (∀ v, c v = 0 ↔ v ∉ pre) → B + (((d.kids.drop j).map Deriv.allVars).flatten.length : Nat) ≤ 4611686018427387904 →
        ∃ es' c', P_elab_stands_7h (run cfg) i (.list 3 (d.kids.map Deriv.enc)) (.int .i64 d.kids.length) (.int .i64 j) (sg.set i (.map false es)) = some ([], sg.set i (.map false es')) ∧ CntIs es' c' ∧ (∀ v, 0 ≤ c' v ∧ c' v ≤ B + (((d.kids.drop j).map Deriv.allVars).flatten.length : Nat)) ∧ (∀ v, c' v = 0 ↔ v ∉ pre ++ ((d.kids.drop j).map Deriv.allVars).flatten) := by
      intro n
      induction n with
      | zero =>
        intro j pre es c B hj hc hb hz hB
        have : ¬ j < d.kids.length := by omega
        rw [eq_elab_stands_7h, List.drop_of_length_le (by omega)]
        exact ⟨es, c, by simp [this], hc, fun v => ⟨(hb v).1, by simpa using (hb v).2⟩, by simpa using hz⟩
      | succ n ihn =>
        intro j pre es c B hj hc hb hz hB
        have h : j < d.kids.length := by omega
        rw [List.drop_eq_getElem_cons h] at hB ⊢
        simp only [List.map_cons, List.flatten_cons, List.length_append] at hB ⊢
        obtain ⟨es1, c1, h1, h2, h3, h4⟩ := ih _ (List.getElem_mem h) (hf.2.2.2.2 _ (List.getElem_mem h)) i pre sg es c B hi hc hb hz (by omega)
        obtain ⟨es2, c2, k1, k2, k3, k4⟩ := ihn (j + 1) (pre ++ d.kids[j].allVars) es1 c1 (B + d.kids[j].allVars.length) (by omega) h2 h3 h4 (by omega)
        refine ⟨es2, c2, ?_, k2, fun v => ⟨(k3 v).1, by have := (k3 v).2; omega⟩, by simpa [List.append_assoc] using k4⟩
        rw [eq_elab_stands_7h]
        push_cast at k1
        simp [h, dIdx_map h, Deriv.eta, h1, dAdd1 (show j < 9223372036854775807 by omega), k1]
    have vars : ∀ (n j : Nat) (pre : List Int) (es : List (DV × DV)) (c : Int → Int) (B : Int), j + n = d.vars.length → CntIs es c → (∀ v, 0 ≤ c v ∧ c v ≤ B) → (∀ v, c v = 0 ↔ v ∉ pre) → B + ((d.vars.drop j).length + (d.kids.map Deriv.allVars).flatten.length : Nat) ≤ 4611686018427387904 →
        ∃ es' c', P_elab_stands_2h (run cfg) i (encInts d.vars) (.int .i64 d.vars.length) (.int .i64 j) d.enc (sg.set i (.map false es)) = some ([], sg.set i (.map false es')) ∧ CntIs es' c' ∧ (∀ v, 0 ≤ c' v ∧ c' v ≤ B + ((d.vars.drop j).length + (d.kids.map Deriv.allVars).flatten.length : Nat)) ∧ (∀ v, c' v = 0 ↔ v ∉ pre ++ ((d.vars.drop j) ++ (d.kids.map Deriv.allVars).flatten)) := by
      intro n
      induction n with
      | zero =>
        intro j pre es c B hj hc hb hz hB
        have : ¬ j < d.vars.length := by omega
        rw [List.drop_of_length_le (by omega)] at hB ⊢
        obtain ⟨es', c', k1, k2, k3, k4⟩ := kids d.kids.length 0 pre es c B (by omega) hc hb hz (by simpa using hB)
        simp only [Int.natCast_zero, Int.ofNat_zero, Int.cast_ofNat_Int, List.drop_zero] at k1 k3 k4
        refine ⟨es', c', ?_, k2, fun v => ⟨(k3 v).1, by simpa using (k3 v).2⟩, by simpa using k4⟩
        rw [eq_elab_stands_2h]
        simp [this, k1]
      | succ n ihn =>
        intro j pre es c B hj hc hb hz hB
        have h : j < d.vars.length := by omega
        rw [List.drop_eq_getElem_cons h] at hB ⊢
        simp only [List.length_cons] at hB ⊢
        have hcv := hc d.vars[j]
        have hbv := hb d.vars[j]
        obtain ⟨es2, c2, k1, k2, k3, k4⟩ := ihn (j + 1) (pre ++ [d.vars[j]]) (mSet es (.int .i64 d.vars[j]) (.int .i64 (c d.vars[j] + 1))) _ (B + 1) (by omega) (hc.set d.vars[j] (c d.vars[j] + 1)) (fun v => by
          have := hb v
          by_cases e : d.vars[j] = v
          · simp only [e, if_true]; have := hb v; omega
          · simp only [e, if_false]; omega) (fun v => by
          by_cases e : d.vars[j] = v
          · simp only [e, if_true]; have := hb v; constructor
            · intro h0; omega
            · intro h0; exact absurd (by simp) h0
          · simp only [e, if_false]
            rw [hz v]
            have : ¬ v = d.vars[j] := fun h => e h.symm
            simp [this]) (by omega)
        refine ⟨es2, c2, ?_, k2, fun v => ⟨(k3 v).1, by have := (k3 v).2; omega⟩, fun v => by have := k4 v; rw [List.append_assoc] at this; exact this⟩
        rw [eq_elab_stands_2h]
        push_cast at k1
        simp [h, dIdx_ints h, sgMap_set hi, hcv, dAdd (show (-9223372036854775808 : Int) ≤ c d.vars[j] + 1 by omega) (by omega), dAdd1 (show j < 9223372036854775807 by omega), k1, List.set_set]
    obtain ⟨es', c', k1, k2, k3, k4⟩ := vars d.vars.length 0 pre es c B (by omega) hc hb hz (by simpa using hB)
    simp only [Int.natCast_zero, Int.ofNat_zero, Int.cast_ofNat_Int, List.drop_zero] at k1 k3 k4
    refine ⟨es', c', call_elab_stands _ _ _ ?_, k2, k3, k4⟩
    rw [eq_elab_stands]
    simp [k1]

theorem sp_elab_plain (t : Ty) (i : Nat) (sg : List SObj) (es : List (DV × DV)) (c : Int → Int) (hm : sgMap sg i = some (false, es)) (hc : CntIs es c) : t.thin = true →
    (run cfg).r F_elab_plain [(t.enc, .val), (.undef, .map i)] sg = some ([(t.plain fun v => !decide (c v = 0)).enc], sg) := by
  induction t using Ty.ind with
  | h t ih =>
    intro ht
    have hb := t.thin_len ht
    refine call_elab_plain _ _ _ ?_
    rw [eq_elab_plain, Ty.plain_eq]
    have e0 : ∀ f : Ty → Ty, t.kids.length = 0 → Ty.mk t.kind t.n (t.kids.map f) = t := by
      intro f h
      have h := List.length_eq_zero_iff.1 h
      cases t
      simp only [Ty.kids_mk] at h
      subst h
      rfl
    have loop := loop_map (l := t.kids) (P := fun j (a : List Ty) => P_elab_plain_7h (run cfg) i (.list 3 (t.kids.map Ty.enc)) (.int .i64 t.kids.length) (.int .i64 j) (.int .i64 0) (.int .i64 0) (.list 3 []) (.int .i64 t.kind) (.int .i64 t.n) (.list 3 (a.map Ty.enc)) sg)
      (g := Ty.plain fun v => !decide (c v = 0)) (fin := fun a => some ([(Ty.mk t.kind t.n a).enc], sg))
      (fun a _ => by rw [eq_elab_plain_7h]; simp [Ty.mk_agg])
      (fun j h a ha => by
        rw [eq_elab_plain_7h]
        have := dApp_map (e := Ty.enc) (sz := 3) (l := a) (x := t.kids[j].plain fun v => !decide (c v = 0)) (by unfold lim; omega)
        simp [h, dIdx_map h, Ty.eta, ih _ (List.getElem_mem h) (Ty.thin_kid ht (List.getElem_mem h)), this, dAdd1 (show j < 9223372036854775807 by omega)])
    simp only [List.map_nil] at loop
    have p3 : P_elab_plain_3 (run cfg) i t.enc (.int .i64 0) (.int .i64 0) (.list 3 []) sg = some ([(Ty.mk t.kind t.n (t.kids.map (Ty.plain fun v => !decide (c v = 0)))).enc], sg) := by
      rw [eq_elab_plain_3]
      by_cases h0 : t.kids.length = 0
      · rw [e0 _ h0]
        have h0' : t.kids = [] := List.length_eq_zero_iff.1 h0
        simp [h0', Ty.eta]
        rw [Ty.enc_eq, h0']; rfl
      · have h0' : ¬ ((t.kids.length : Int) = 0) := by omega
        have h0'' : ¬ t.kids = [] := fun h => h0 (by rw [h]; rfl)
        simp [h0', h0'', loop]
    have e5 : DV.agg [.int .i64 5, .int .i64 0, .list 3 []] = (Ty.mk 5 0 []).enc := by rw [Ty.enc_eq]; rfl
    have hcv := hc t.n
    by_cases h6 : t.kind = 6
    · by_cases hn : c t.n = 0
      · simp [h6, hm, hcv, hn, e5]
      · simp [h6, hm, hcv, hn]
        rw [p3, h6]
    · simp [h6]
      exact p3

theorem sp_elab_put (d : Deriv) (i : Nat) (sg : List SObj) (es : List (DV × DV)) (c : Int → Int) (hm : sgMap sg i = some (false, es)) (hc : CntIs es c) : d.fit →
    (run cfg).r F_elab_put [(d.enc, .val), (.undef, .map i)] sg = some ([(d.plain fun v => !decide (c v = 0)).enc], sg) := by
  induction d using Deriv.ind with
  | h d ih =>
    intro hd
    have hf := (Deriv.fit_eq d).1 hd
    have hb1 := big (Nat.le_of_lt hf.1)
    have hb3 := big (Nat.le_of_lt hf.2.2.1)
    refine call_elab_put _ _ _ ?_
    rw [eq_elab_put, Deriv.plain_eq]
    have l2 : ∀ us : List Ty, P_elab_put_8h (run cfg) i (.list 3 (d.kids.map Deriv.enc)) (.int .i64 d.kids.length) (.int .i64 0) (.list 3 []) (encInts []) (.list 3 []) (.list 3 (us.map Ty.enc)) (encInts d.vars) (.list 3 []) sg
        = some ([(Deriv.mk us d.vars (d.kids.map (Deriv.plain fun v => !decide (c v = 0)))).enc], sg) := fun us =>
      loop_map (l := d.kids) (P := fun j (a : List Deriv) => P_elab_put_8h (run cfg) i (.list 3 (d.kids.map Deriv.enc)) (.int .i64 d.kids.length) (.int .i64 j) (.list 3 []) (encInts []) (.list 3 []) (.list 3 (us.map Ty.enc)) (encInts d.vars) (.list 3 (a.map Deriv.enc)) sg)
        (g := Deriv.plain fun v => !decide (c v = 0)) (fin := fun ks => some ([(Deriv.mk us d.vars ks).enc], sg))
        (fun a _ => by rw [eq_elab_put_8h]; simp [Deriv.mk_agg])
        (fun j h a ha => by
          rw [eq_elab_put_8h]
          have := dApp_map (e := Deriv.enc) (sz := 3) (l := a) (x := d.kids[j].plain fun v => !decide (c v = 0)) (by omega)
          have hk := ih _ (List.getElem_mem h) (hf.2.2.2.2 _ (List.getElem_mem h))
          simp [h, dIdx_map h, Deriv.eta, hk, this, dAdd1 (show j < 9223372036854775807 by omega)])
    have l1 := loop_map (l := d.types) (P := fun j (a : List Ty) => P_elab_put_3h (run cfg) i (.list 3 (d.types.map Ty.enc)) (.int .i64 d.types.length) (.int .i64 j) d.enc (.list 3 []) (encInts []) (.list 3 []) (.list 3 (a.map Ty.enc)) (encInts d.vars) (.list 3 []) sg)
        (g := Ty.plain fun v => !decide (c v = 0)) (fin := fun us => some ([(Deriv.mk us d.vars (d.kids.map (Deriv.plain fun v => !decide (c v = 0)))).enc], sg))
        (fun a _ => by rw [eq_elab_put_3h]; simp [l2])
        (fun j h a ha => by
          rw [eq_elab_put_3h]
          have := dApp_map (e := Ty.enc) (sz := 3) (l := a) (x := d.types[j].plain fun v => !decide (c v = 0)) (by omega)
          have hk := sp_elab_plain d.types[j] i sg es c hm hc (hf.2.2.2.1 _ (List.getElem_mem h))
          simp [h, dIdx_map h, Ty.eta, hk, this, dAdd1 (show j < 9223372036854775807 by omega)])
    simp only [List.map_nil] at l1
    simp only [encInts_nil]
    simp [l1]

def inVars (d : Deriv) (v : Int) : Bool := decide (v ∈ d.allVars)

theorem sp_elab_Plain (d : Deriv) (hd : d.fit) (hv : d.allVars.length ≤ lim) : (run cfg).p F_elab_Plain [d.enc] = some (d.plain (inVars d)).enc := by
  refine call_elab_Plain _ ?_
  rw [eq_elab_Plain]
  have hb := big hv
  obtain ⟨es, c, h1, h2, h3, h4⟩ := sp_elab_stands d hd 0 [] [.map false []] [] (fun _ => 0) 0 (by simp) CntIs.nil (fun v => by omega) (fun v => by simp) (by omega)
  simp only [List.set_cons_zero] at h1
  have hp := sp_elab_put d 0 [.map false es] es c rfl h2 hd
  have hk : (fun v => !decide (c v = 0)) = inVars d := by
    funext v
    have := h4 v
    simp only [List.nil_append] at this
    unfold inVars
    by_cases e : v ∈ d.allVars
    · have h0 : ¬ c v = 0 := fun h => this.1 h e
      simp [e, h0]
    · have h0 : c v = 0 := this.2 e
      simp [e, h0]
  rw [hk] at hp
  simp [Deriv.eta, h1, hp]

theorem sp_r17_kept (d : Deriv) : d.fit → ∀ (l : List Int) (sg : List SObj), l.length + d.allVars.length ≤ lim → (run cfg).r F_r17_kept [(d.enc, .val), (encInts l, .own)] sg = some ([encInts (l ++ d.allVars)], sg) := by
  induction d using Deriv.ind with
  | h d ih =>
    intro hd l sg hl
    have hf := (Deriv.fit_eq d).1 hd
    have hb3 := big (Nat.le_of_lt hf.2.2.1)
    rw [Deriv.allVars_eq, List.length_append] at hl
    refine call_r17_kept _ _ _ ?_
    rw [eq_r17_kept, Deriv.allVars_eq]
    have loop : ∀ (n j : Nat) (l : List Int), j + n = d.kids.length → l.length + ((d.kids.drop j).map Deriv.allVars).flatten.length ≤ lim → P_r17_kept_3h (run cfg) (encInts l) (.int .i64 j) d.enc sg = some ([encInts (l ++ ((d.kids.drop j).map Deriv.allVars).flatten)], sg) := by
      intro n
      induction n with
      | zero =>
        intro j l hj hl
        have : ¬ j < d.kids.length := by omega
        rw [eq_r17_kept_3h, List.drop_of_length_le (by omega)]
        simp [this]
      | succ n ihn =>
        intro j l hj hl
        have h : j < d.kids.length := by omega
        rw [List.drop_eq_getElem_cons h] at hl ⊢
        simp only [List.map_cons, List.flatten_cons, List.length_append] at hl ⊢
        have h1 := ih _ (List.getElem_mem h) (hf.2.2.2.2 _ (List.getElem_mem h)) l sg (by omega)
        have h2 := ihn (j + 1) (l ++ d.kids[j].allVars) (by omega) (by rw [List.length_append]; omega)
        push_cast at h2
        rw [eq_r17_kept_3h]
        simp [h, dIdx_map h, Deriv.eta, h1, dAdd1 (show j < 9223372036854775807 by omega), h2]
    have ha := dApp_ints (a := l) (b := d.vars) (by omega)
    have l0 := loop d.kids.length 0 (l ++ d.vars) (by omega) (by rw [List.length_append, List.drop_zero]; omega)
    simp only [Int.natCast_zero, Int.ofNat_zero, Int.cast_ofNat_Int, List.drop_zero] at l0
    simp [ha, l0]

theorem sp_r17_dynamic (l : List Int) (hl : l.length ≤ lim) (t : Ty) : t.thin = true → (run cfg).p F_r17_dynamic [t.enc, encInts l] = some (t.plain fun v => decide (v ∈ l)).enc := by
  induction t using Ty.ind with
  | h t ih =>
    intro ht
    have hb := t.thin_len ht
    refine call_r17_dynamic _ _ ?_
    rw [eq_r17_dynamic, Ty.plain_eq]
    have loop := loop_map (l := t.kids) (P := fun j (a : List Ty) => P_r17_dynamic_5h (run cfg) (encInts l) (.int .i64 j) t.enc (.int .i64 0) (.int .i64 0) (.list 3 []) (.int .i64 t.kind) (.int .i64 t.n) (.list 3 (a.map Ty.enc)))
      (g := Ty.plain fun v => decide (v ∈ l)) (fin := fun a => some (Ty.mk t.kind t.n a).enc)
      (fun a _ => by rw [eq_r17_dynamic_5h]; simp [Ty.mk_agg])
      (fun j h a ha => by
        rw [eq_r17_dynamic_5h]
        have := dApp_map (e := Ty.enc) (sz := 3) (l := a) (x := t.kids[j].plain fun v => decide (v ∈ l)) (by unfold lim; omega)
        simp [h, dIdx_map h, Ty.eta, ih _ (List.getElem_mem h) (Ty.thin_kid ht (List.getElem_mem h)), this, dAdd1 (show j < 9223372036854775807 by omega)])
    simp only [List.map_nil] at loop
    have p3 : P_r17_dynamic_3 (run cfg) (encInts l) t.enc (.int .i64 0) (.int .i64 0) (.list 3 []) = some (Ty.mk t.kind t.n (t.kids.map (Ty.plain fun v => decide (v ∈ l)))).enc := by
      rw [eq_r17_dynamic_3]
      simp [loop]
    have hin := sp_r03_In l hl t.n
    by_cases h6 : t.kind = 6
    · by_cases hn : t.n ∈ l
      · simp [h6, hin, hn]
        rw [p3, h6]
      · have e5 : DV.agg [.int .i64 5, .int .i64 0, .list 3 []] = (Ty.mk 5 0 []).enc := by rw [Ty.enc_eq]; rfl
        simp [h6, hin, hn, sp_r03_Leaf, e5]
    · simp [h6]
      exact p3

theorem sp_r17_settled (l : List Int) (hl : l.length ≤ lim) (d : Deriv) : d.fit → (run cfg).p F_r17_settled [d.enc, encInts l] = some (d.plain fun v => decide (v ∈ l)).enc := by
  induction d using Deriv.ind with
  | h d ih =>
    intro hd
    have hf := (Deriv.fit_eq d).1 hd
    have hb1 := big (Nat.le_of_lt hf.1)
    have hb3 := big (Nat.le_of_lt hf.2.2.1)
    refine call_r17_settled _ _ ?_
    rw [eq_r17_settled, Deriv.plain_eq]
    have l2 : ∀ us : List Ty, P_r17_settled_7h (run cfg) (encInts l) (.int .i64 0) d.enc (.list 3 []) (encInts []) (.list 3 []) (.list 3 (us.map Ty.enc)) (encInts d.vars) (.list 3 [])
        = some (Deriv.mk us d.vars (d.kids.map (Deriv.plain fun v => decide (v ∈ l)))).enc := fun us =>
      loop_map (l := d.kids) (P := fun j (a : List Deriv) => P_r17_settled_7h (run cfg) (encInts l) (.int .i64 j) d.enc (.list 3 []) (encInts []) (.list 3 []) (.list 3 (us.map Ty.enc)) (encInts d.vars) (.list 3 (a.map Deriv.enc)))
        (g := Deriv.plain fun v => decide (v ∈ l)) (fin := fun ks => some (Deriv.mk us d.vars ks).enc)
        (fun a _ => by rw [eq_r17_settled_7h]; simp [Deriv.mk_agg])
        (fun j h a ha => by
          rw [eq_r17_settled_7h]
          have := dApp_map (e := Deriv.enc) (sz := 3) (l := a) (x := d.kids[j].plain fun v => decide (v ∈ l)) (by omega)
          have hk := ih _ (List.getElem_mem h) (hf.2.2.2.2 _ (List.getElem_mem h))
          simp [h, dIdx_map h, Deriv.eta, hk, this, dAdd1 (show j < 9223372036854775807 by omega)])
    have l1 := loop_map (l := d.types) (P := fun j (a : List Ty) => P_r17_settled_3h (run cfg) (encInts l) (.int .i64 j) d.enc (.list 3 []) (encInts []) (.list 3 []) (.list 3 (a.map Ty.enc)) (encInts d.vars) (.list 3 []))
        (g := Ty.plain fun v => decide (v ∈ l)) (fin := fun us => some (Deriv.mk us d.vars (d.kids.map (Deriv.plain fun v => decide (v ∈ l)))).enc)
        (fun a _ => by rw [eq_r17_settled_3h]; simp [l2])
        (fun j h a ha => by
          rw [eq_r17_settled_3h]
          have := dApp_map (e := Ty.enc) (sz := 3) (l := a) (x := d.types[j].plain fun v => decide (v ∈ l)) (by omega)
          have hk := sp_r17_dynamic l hl _ (hf.2.2.2.1 _ (List.getElem_mem h))
          simp [h, dIdx_map h, Ty.eta, hk, this, dAdd1 (show j < 9223372036854775807 by omega)])
    simp only [List.map_nil] at l1
    have hv := dApp_ints (a := []) (b := d.vars) (by simp; omega)
    simp only [encInts_nil]
    simp [hv, l1]

theorem sp_r17_Plain (d : Deriv) (hd : d.fit) (hv : d.allVars.length ≤ lim) : (run cfg).p F_r17_Plain [d.enc] = some (d.plain (inVars d)).enc := by
  refine call_r17_Plain _ ?_
  rw [eq_r17_Plain]
  have h1 := sp_r17_kept d hd [] [] (by simpa using hv)
  have h2 := sp_r17_settled d.allVars hv d hd
  simp only [List.nil_append] at h1
  simp only [encInts_nil]
  simp [Deriv.eta, h1, h2]
  rfl

end Go.Su

/-
  What the closed call of l18_wakes gives: by rewriting.
-/
namespace Go.Su
set_option linter.unusedSimpArgs false
attribute [local congr] ob_cg og_cg oif_cg ogd_cg ite_cg

set_option maxHeartbeats 40000000 in
set_option maxRecDepth 100000 in
theorem w_l18_wakes : (run cfg).p F_l18_wakes [] = some (.bool true) := by
  simp (maxSteps := 200000) (implicitDefEqProofs := false) [eq_tree_shapeOf, fix_tree_shapeOf, eq_r03_In, eq_r03_In_2h, fix_r03_In, eq_typ_Vars, fix_typ_Vars, eq_pats_Bind, fix_pats_Bind, eq_agree_Agree, fix_agree_Agree, eq_typ_right, eq_typ_right_9h, fix_typ_right, eq_judge_right, eq_judge_right_2h, eq_judge_right_8h, eq_judge_right_14h, fix_judge_right, eq_judge_judging_expr, eq_judge_judging_expr_4, eq_judge_judging_expr_26, fix_judge_judging_expr, eq_judge_judging_ok, fix_judge_judging_ok, eq_word_Key, fix_word_Key, eq_word_inner, fix_word_inner, eq_typ_Closed, fix_typ_Closed, eq_typ_vars, eq_typ_vars_5, eq_typ_vars_6h, fix_typ_vars, eq_slices_Contains__int_int, fix_slices_Contains__int_int, eq_pats_bind, eq_pats_bind_16, eq_pats_bind_17h, fix_pats_bind, eq_agree_agrees, eq_agree_agrees_8h, fix_agree_agrees, eq_typ_arity, fix_typ_arity, eq_r17_settled, eq_r17_settled_3h, eq_r17_settled_7h, fix_r17_settled, eq_r17_kept, eq_r17_kept_3h, fix_r17_kept, eq_elab_Make, fix_elab_Make, eq_tree_onePat, eq_tree_onePat_24, fix_tree_onePat, eq_tree_one, eq_tree_one_4, eq_tree_one_6, eq_tree_one_8, eq_tree_one_10, eq_tree_one_12, eq_tree_one_14, eq_tree_one_16, eq_tree_one_18, eq_tree_one_19h, fix_tree_one, eq_tree_none, fix_tree_none, eq_tree_value, eq_tree_value_12, fix_tree_value, eq_l03_count, eq_l03_count_3h, fix_l03_count, eq_r03_vars, eq_r03_vars_3, eq_r03_vars_4h, fix_r03_vars, eq_keep_Type, eq_keep_Type_3h, fix_keep_Type, eq_typ_Check, fix_typ_Check, eq_scheme_put, eq_scheme_put_10h, fix_scheme_put, eq_judge_Cast, fix_judge_Cast, eq_elab_plain, eq_elab_plain_3, eq_elab_plain_7h, fix_elab_plain, eq_r17_dynamic, eq_r17_dynamic_3, eq_r17_dynamic_5h, fix_r17_dynamic, eq_word_Name, eq_word_Name_4h, fix_word_Name, eq_tree_closed, fix_tree_closed, eq_judge_find, eq_judge_find_2h, fix_judge_find, eq_judge_judging_fails, fix_judge_judging_fails, eq_judge_judging_choices, eq_judge_judging_choices_4, eq_judge_judging_choices_5h, eq_judge_judging_choices_14h, eq_judge_judging_choices_19h, fix_judge_judging_choices, eq_judge_judging_name, eq_judge_judging_name_5h, fix_judge_judging_name, eq_judge_judging_kid, fix_judge_judging_kid, eq_judge_list, fix_judge_list, eq_judge_judging_fits, eq_judge_judging_fits_4, fix_judge_judging_fits, eq_judge_one, fix_judge_one, eq_judge_with, fix_judge_with, eq_judge_fun, fix_judge_fun, eq_judge_judging_more, eq_judge_judging_more_25, fix_judge_judging_more, eq_typ_without, eq_typ_without_4h, fix_typ_without, eq_slices_Index__int_int, eq_slices_Index__int_int_2h, fix_slices_Index__int_int, eq_pats_leaf, fix_pats_leaf, eq_judge_many, eq_judge_many_14, eq_judge_many_16, eq_judge_many_18, fix_judge_many, eq_judge_judging_enter, eq_judge_judging_enter_1h, fix_judge_judging_enter, eq_typ_Static, fix_typ_Static, eq_judge_judging_cast, eq_judge_judging_cast_5, fix_judge_judging_cast, eq_judge_judging_app, fix_judge_judging_app, eq_judge_judging_let, eq_judge_judging_let_9, fix_judge_judging_let, eq_judge_judging_rec, eq_judge_judging_rec_5, fix_judge_judging_rec, eq_judge_judging_match, eq_judge_judging_match_4h, eq_judge_judging_match_14h, fix_judge_judging_match, eq_l18_ElabPlain, fix_l18_ElabPlain, eq_l11_Small, eq_l11_Small_2h, fix_l11_Small, eq_r03_Size, eq_r03_Size_3h, fix_r03_Size, eq_keep_Same, eq_keep_Same_4h, fix_keep_Same, eq_l16_HeavyDeriv, fix_l16_HeavyDeriv, eq_keep_Deriv, eq_keep_Deriv_3h, fix_keep_Deriv, eq_keep_Derivs, eq_keep_Derivs_4h, fix_keep_Derivs, eq_elab_Plain, fix_elab_Plain, eq_r17_Plain, fix_r17_Plain, eq_l18_wakes, eq_l18_wakes_4, fix_l18_wakes, eq_tree_CheckPat, eq_tree_CheckPat_r0, eq_B_tree_CheckPat_r0, eq_X_tree_CheckPat_r0_normal, eq_X_tree_CheckPat_r0_ret, eq_tree_CheckPat_6, fix_tree_CheckPat, eq_tree_Check, eq_tree_Check_r0, eq_B_tree_Check_r0, eq_X_tree_Check_r0_normal, eq_X_tree_Check_r0_ret, fix_tree_Check, eq_tree_Value, fix_tree_Value, eq_r03_Leaf, fix_r03_Leaf, eq_keep_SameAll, eq_keep_SameAll_4h, fix_keep_SameAll, eq_l03_Heavy, eq_l03_Heavy_3h, fix_l03_Heavy, eq_r08_Deep, eq_r08_Deep_4h, fix_r08_Deep, eq_r03_Vars, fix_r03_Vars, eq_l16_weigh, eq_l16_weigh_3h, eq_l16_weigh_9h, fix_l16_weigh, eq_keep_Types, eq_keep_Types_3h, fix_keep_Types, eq_scheme_Subst, eq_scheme_Subst_5h, fix_scheme_Subst, eq_keep_Ints, eq_keep_Ints_4h, fix_keep_Ints, eq_elab_stands, eq_elab_stands_2h, eq_elab_stands_7h, fix_elab_stands, eq_elab_put, eq_elab_put_3h, eq_elab_put_8h, fix_elab_put, I_tree_CheckPat_r0_nil, I_tree_CheckPat_r0_cons, I_tree_Check_r0_nil, I_tree_Check_r0_cons,
    flatD_eq, flatK, flatDL_nil, flatDL_cons, proj_agg, isAggN_agg, bs_size, bs_eq, keyEq_lit, keyEq_num, dIx0, dIx1, dIx2, dIx3, dIx4, dIx5, dIx6, dIx7, dIx8, dIx9, dIx10, dIx11, dIx12, dIx13, dIx14, dIx15, dSi0, dSi1, dSi2, dSi3, dSi4, dSi5, dSi6, dSi7, sgBox, sgMap, sgArr, cellDat, cellMap, allDat, mGet_n, mGet_c, mSet_n, mSet_c, dAdd, dBin_sub, wrap_id, lim, dExt_t, dApp_l, dSlice_l, dSlice3_i, bnd_n, bnd_s, isKey, isLeaf, dEqA_a, dEqL_n, oneCell_1, seal_v, seal_f, seal_o, seal_a, ret1_some', retL, seqO, pack, cellOwn, cellPtr, dEqL_c, dEqK_i, dEqK_b, dUn_neg, -ob_some', -oif_bool, -ogd_bool, ↓ob_some', ↓ob_none', ↓og_true', ↓og_false', ↓oif_t, ↓oif_f, ↓ogd_t, ↓ogd_f, ob_some', oif_t, oif_f, ogd_t, ogd_f]
end Go.Su

/-
  The law ElabPlain answers true on data.
-/
namespace Go.Su
set_option linter.unusedVariables false
set_option linter.unusedSimpArgs false

theorem law_plain (d : Deriv) (hm : d.mass ≤ 1048576) : (run cfg).p F_l18_ElabPlain [d.enc] = some (.bool true) := by
  have hd : d.fit := Deriv.fit_mass (by unfold lim; omega)
  have hv : d.allVars.length ≤ lim := by have := d.allVars_mass; unfold lim; omega
  obtain ⟨b1, h1⟩ := sp_l16_HeavyDeriv d (by omega)
  have hk := sp_keep_Deriv d hd
  have hp := sp_elab_Plain d hd hv
  have hq := sp_r17_Plain d hd hv
  have hf := Deriv.plain_fit (inVars d) d hd
  have e : inVars (d.plain (inVars d)) = inVars d := by unfold inVars; rw [Deriv.plain_vars]
  have hp2 := sp_elab_Plain (d.plain (inVars d)) hf (by rw [Deriv.plain_vars]; exact hv)
  rw [e, Deriv.plain_plain] at hp2
  have hdd := sp_keep_Derivs d hd d
  have hpp := sp_keep_Derivs _ hf (d.plain (inVars d))
  refine call_l18_ElabPlain _ ?_
  rw [eq_l18_ElabPlain]
  cases b1
  · simp [Deriv.eta, h1, hk, hp, hq, hp2, hdd, hpp, w_l18_wakes]
  · simp [Deriv.eta, h1]
end Go.Su
