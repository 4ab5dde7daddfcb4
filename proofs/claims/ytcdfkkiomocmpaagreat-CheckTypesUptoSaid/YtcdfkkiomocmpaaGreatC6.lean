/-
  Parts of the proof, merged: T51, QT52, T52, QLCheckTypes, LCheckTypes.
-/
import Derived.Test.YtcdfkkiomocmpaaGreatC3
import Derived.Test.YtcdfkkiomocmpaaGreatC4
import Derived.Test.YtcdfkkiomocmpaaGreatC5
set_option linter.unusedVariables false
set_option linter.unusedSimpArgs false
/-
 What the program's functions on terms give: types put into terms.
-/
namespace Go.Su
set_option linter.unusedVariables false
set_option linter.unusedSimpArgs false
theorem tyx3 (k : Ty) : (DV.agg [proj 0 k.enc, proj 1 k.enc, proj 2 k.enc]) = k.enc := by simp [Ty.eta, Ty.ag]
theorem tyx3k (k : Ty) : (DV.agg [.int .i64 k.kind, proj 1 k.enc, proj 2 k.enc]) = k.enc := by rw [← Ty.proj0, tyx3]
theorem tmx3 (k : Tm) : (DV.agg [proj 0 k.enc, proj 1 k.enc, proj 2 k.enc, proj 3 k.enc, proj 4 k.enc, proj 5 k.enc, proj 6 k.enc, proj 7 k.enc, proj 8 k.enc, proj 9 k.enc, proj 10 k.enc, proj 11 k.enc, proj 12 k.enc, proj 13 k.enc, proj 14 k.enc, proj 15 k.enc, proj 16 k.enc, proj 17 k.enc, proj 18 k.enc, proj 19 k.enc]) = k.enc := by simp [Tm.eta, Tm.ag]
theorem tm_a (t : Tm) : DV.agg [proj 11 t.enc, proj 12 t.enc, proj 13 t.enc] = t.a.enc := by rw [Tm.enc_eq, Ty.enc_eq]; rfl
theorem tm_b (t : Tm) : DV.agg [proj 14 t.enc, proj 15 t.enc, proj 16 t.enc] = t.b.enc := by rw [Tm.enc_eq, Ty.enc_eq]; rfl
theorem rb_right {l : Bds} (h : rightBinds l = true) : ∀ e ∈ l, e.2.right = true := by
 unfold rightBinds at h
 rw [List.all_eq_true] at h
 intro e he
 have := h e he
 simp only [Bool.and_eq_true] at this
 exact this.2
theorem sp_term_put (t : Ty) (l : Bds) (ht : t.right = true ∨ t.none = true) (hl : l.length ≤ lim) (hr : rightBinds l = true) : (run cfg).p F_term_put [t.enc, encBnds l] = some (t.putN l).enc := by
 refine call_term_put _ _ ?_
 rw [eq_term_put]
 unfold Ty.putN
 simp only [Ty.proj0 t, tyx3, tyx3k, isAggN_Ty, og_true', dBin_eql, ob_some', oif_bool]
 by_cases h0 : t.kind = 0
 ·simp only [h0, decide_true, if_true]
 ·have rt : t.right = true := by
   rcases ht with h | h
   ·exact h
   ·unfold Ty.none at h
    simp only [Bool.and_eq_true, decide_eq_true_eq] at h
    exact absurd h.1.1 h0
  have s := sp_scheme_Subst t l (Ty.thin_of_right rt) hl fun e he => Ty.thin_of_right (rb_right hr e he)
  rw [if_pos ⟨rt, hr⟩] at s
  have x0 : ∀ a b, dExt 0 (.tup [a, b]) = some a := fun _ _ => rfl
  have x1 : ∀ a b, dExt 1 (.tup [a, b]) = some b := fun _ _ => rfl
  simp only [h0, decide_false, Bool.false_eq_true, if_false, s, ob_some', x0, x1, isAggN_Ty, og_true', tyx3]
theorem sp_term_bindsRight (l : Bds) (hl : l.length ≤ lim) (hlt : ∀ e ∈ l, e.2.thin = true) : (run cfg).p F_term_bindsRight [encBnds l] = some (.bool (rightBinds l)) := by
 have ri : (Ty.mk 1 0 []).right = true := by rw [Ty.right_iff]; simp [arity]
 have s := sp_scheme_Subst (.mk 1 0 []) l (Ty.thin_of_right ri) hl hlt
 have e : (Ty.mk 1 0 []).enc = .agg [.int .i64 1, .int .i64 0, .list 3 []] := by rw [Ty.enc_eq]; rfl
 rw [e] at s
 have x0 : ∀ a b, dExt 0 (.tup [a, b]) = some a := fun _ _ => rfl
 have x1 : ∀ a b, dExt 1 (.tup [a, b]) = some b := fun _ _ => rfl
 refine call_term_bindsRight _ ?_
 rw [eq_term_bindsRight]
 cases hr : rightBinds l
 ·rw [if_neg (by rw [hr]; simp)] at s
  simp only [s, ob_some', x0, x1, isAggN_Ty, og_true', dBin_eql]
  rfl
 ·rw [if_pos ⟨ri, hr⟩] at s
  simp only [s, ob_some', x0, x1, isAggN_Ty, og_true', dBin_eql]
  rfl
theorem Tm.types_right {t : Tm} (h : t.right = true) : (t.a.right = true ∨ t.a.none = true) ∧ (t.b.right = true ∨ t.b.none = true) ∧ ∀ y ∈ t.args, y.right = true := by
 have o := Tm.right_one h
 unfold Tm.one Tm.one1 Tm.one2 Tm.one3 Tm.one4 Tm.one5 Tm.lists typedB at o
 simp only [Bool.and_eq_true, List.all_eq_true] at o
 refine ⟨?_, ?_, ?_⟩
 ·have := o.1.1.2
  split at this
  ·exact .inl this
  ·exact .inr this
 ·have := o.1.2
  split at this
  ·exact .inl this
  ·exact .inr this
 ·exact o.2.2.2.2.2.2.1.2
noncomputable def tyArgs (t : Tm) (l : Bds) (j : Nat) (A : List Ty) (K : List Tm) : Option DV :=
 P_term_types_3h (run cfg) (encBnds l) t.args.length (.int .i64 t.args.length) (.int .i64 (j : Int)) (proj 0 t.enc) (proj 1 t.enc) (proj 2 t.enc) (proj 3 t.enc) (proj 4 t.enc) (proj 5 t.enc) (proj 6 t.enc) (proj 7 t.enc) (proj 8 t.enc) (proj 9 t.enc) (proj 10 t.enc) (proj 11 t.enc) (proj 12 t.enc) (proj 13 t.enc) (proj 14 t.enc) (proj 15 t.enc) (proj 16 t.enc) t.args.length (proj 18 t.enc) t.kids.length [.arr 3 (A.map Ty.enc), .arr 20 (K.map Tm.enc)]
noncomputable def tyKids (t : Tm) (l : Bds) (j : Nat) (A : List Ty) (K : List Tm) : Option DV :=
 P_term_types_8h (run cfg) (encBnds l) t.kids.length (.int .i64 t.kids.length) (.int .i64 (j : Int)) (proj 0 t.enc) (proj 1 t.enc) (proj 2 t.enc) (proj 3 t.enc) (proj 4 t.enc) (proj 5 t.enc) (proj 6 t.enc) (proj 7 t.enc) (proj 8 t.enc) (proj 9 t.enc) (proj 10 t.enc) (proj 11 t.enc) (proj 12 t.enc) (proj 13 t.enc) (proj 14 t.enc) (proj 15 t.enc) (proj 16 t.enc) t.args.length (proj 18 t.enc) t.kids.length [.arr 3 (A.map Ty.enc), .arr 20 (K.map Tm.enc)]
theorem arr_at {A : List Ty} {K : List Tm} : sgArr [SObj.arr 3 (A.map Ty.enc), .arr 20 (K.map Tm.enc)] 0 = some (3, A.map Ty.enc) ∧ sgArr [SObj.arr 3 (A.map Ty.enc), .arr 20 (K.map Tm.enc)] 1 = some (20, K.map Tm.enc) := ⟨rfl, rfl⟩
theorem set_get_ne {α : Type} {l m : List α} {j : Nat} {y : α} (h : ∀ i : Nat, j ≤ i → l[i]? = m[i]?) : ∀ i : Nat, j + 1 ≤ i → (l.set j y)[i]? = m[i]? := fun i hi => by rw [List.getElem?_set_ne (by omega)]; exact h i (by omega)
theorem take_set_succ {α : Type} {l : List α} {j : Nat} (h : j < l.length) (y : α) : (l.set j y).take (j + 1) = l.take j ++ [y] := by
 rw [List.take_succ_eq_append_getElem (by simpa using h), List.take_set_of_le (Nat.le_refl _), List.getElem_set_self]
theorem sp_term_types (t : Tm) : t.fit → t.right = true → ∀ l : Bds, l.length ≤ lim → rightBinds l = true → (run cfg).p F_term_types [t.enc, encBnds l] = some (t.typs l).enc := by
 induction t using Tm.ind with
 | h t ih =>
   intro ft rt l hl hr
   obtain ⟨ra, rb, rargs⟩ := Tm.types_right rt
   have fk := Nat.le_of_lt ft.one.kids
   have fa := Nat.le_of_lt ft.one.args
   have hK := big fk
   have hA := big fa
   have fv := Nat.le_of_lt ft.one.vars
   have fin : ∀ (own : Bds) (A : List Ty) (K : List Tm), own.length ≤ lim → rightBinds own = true → A.length = t.args.length → K.length = t.kids.length →
    P_term_types_14 (run cfg) (encBnds own) (proj 0 t.enc) (proj 1 t.enc) (proj 2 t.enc) (proj 3 t.enc) (proj 4 t.enc) (proj 5 t.enc) (proj 6 t.enc) (proj 7 t.enc) (proj 8 t.enc) (proj 9 t.enc) (proj 10 t.enc) (proj 11 t.enc) (proj 12 t.enc) (proj 13 t.enc) (proj 14 t.enc) (proj 15 t.enc) (proj 16 t.enc) t.args.length (proj 18 t.enc) t.kids.length [.arr 3 (A.map Ty.enc), .arr 20 (K.map Tm.enc)] =
    some (Tm.mk t.kind t.lo t.hi t.name t.arg t.n t.s t.op t.label t.neg t.vars (t.a.putN own) (t.b.putN own) A t.pats K).enc := by
    intro own A K h1 h2 h3 h4
    have sv : ∀ d, sealCell [SObj.arr 3 (A.map Ty.enc), .arr 20 (K.map Tm.enc)] (d, .val) = some d := fun _ => rfl
    have sa : sealCell [SObj.arr 3 (A.map Ty.enc), .arr 20 (K.map Tm.enc)] (.undef, .arr 0 3 0 t.args.length) = some (.list 3 (A.map Ty.enc)) := by
     simp only [sealCell, arr_at.1, ob_some', BEq.rfl, og_true', Nat.zero_add, List.length_map, h3, Nat.le_refl, if_true, List.drop_zero]
     rw [List.take_of_length_le (by simp [h3])]
    have sk : sealCell [SObj.arr 3 (A.map Ty.enc), .arr 20 (K.map Tm.enc)] (.undef, .arr 1 20 0 t.kids.length) = some (.list 20 (K.map Tm.enc)) := by
     simp only [sealCell, arr_at.2, ob_some', BEq.rfl, og_true', Nat.zero_add, List.length_map, h4, Nat.le_refl, if_true, List.drop_zero]
     rw [List.take_of_length_le (by simp [h4])]
    rw [eq_term_types_14]
    simp only [tm_a, tm_b, sp_term_put t.a own ra h1 h2, sp_term_put t.b own rb h1 h2, ob_some', isAggN_Ty, og_true', sealCells, sv, sa, sk, retL, seqO]
    rw [Tm.enc_eq (Tm.mk _ _ _ _ _ _ _ _ _ _ _ _ _ _ _ _)]
    simp only [Tm.pj, Ty.proj0, Ty.proj1, Ty.proj2, Tm.kind_mk, Tm.lo_mk, Tm.hi_mk, Tm.name_mk, Tm.arg_mk, Tm.n_mk, Tm.s_mk, Tm.op_mk, Tm.label_mk, Tm.neg_mk, Tm.vars_mk, Tm.a_mk, Tm.b_mk, Tm.args_mk, Tm.pats_mk, Tm.kids_mk]
    rfl
   have hid : ∀ j : Int, (run cfg).p F_term_outside [.agg [proj 0 t.enc, proj 1 t.enc, proj 2 t.enc, proj 3 t.enc, proj 4 t.enc, proj 5 t.enc, proj 6 t.enc, proj 7 t.enc, proj 8 t.enc, proj 9 t.enc, proj 10 t.enc, proj 11 t.enc, proj 12 t.enc, proj 13 t.enc, proj 14 t.enc, proj 15 t.enc, proj 16 t.enc, .undef, proj 18 t.enc, .undef], .int .i64 j, encBnds l] = some (encBnds (if 0 < j then l else bOut l t.vars)) := fun j =>
    sp_term_outside _ t.vars rfl (by show proj 10 t.enc = _; rw [Tm.proj10]) fv j l hl
   have kids : ∀ (n j : Nat) (A : List Ty) (K : List Tm), j + n = t.kids.length → A.length = t.args.length → K.length = t.kids.length → (∀ i : Nat, j ≤ i → K[i]? = t.kids[i]?) →
    tyKids t l j A K = some (Tm.mk t.kind t.lo t.hi t.name t.arg t.n t.s t.op t.label t.neg t.vars (t.a.putN (if t.kind = 12 then bOut l t.vars else l)) (t.b.putN (if t.kind = 12 then bOut l t.vars else l)) A t.pats (K.take j ++ (Tm.typsL t.kids (bOut l t.vars) l).drop j)).enc := by
    intro n
    induction n with
    | zero =>
      intro j A K hj ha hk _
      have e : j = t.kids.length := by omega
      subst e
      have ho := hid 0
      rw [if_neg (by omega)] at ho
      unfold tyKids
      rw [eq_term_types_8h]
      simp only [dBin_lss, Int.lt_irrefl, decide_false, ob_some', oif_bool, Bool.false_eq_true, if_false, Tm.proj0 t, dBin_eql]
      rw [← Tm.proj0 t]
      rw [List.take_of_length_le (Nat.le_of_eq hk), List.drop_eq_nil_of_le (by rw [Tm.typsL_len]; exact Nat.le_refl _), List.append_nil]
      by_cases h12 : t.kind = 12
      ·simp only [h12, decide_true, if_true, ho, ob_some']
       have := fin (bOut l t.vars) A K (Nat.le_trans (bOut_len l _) hl) (rightBinds_out hr _) ha hk
       rw [this, h12]
      ·simp only [h12, decide_false, Bool.false_eq_true, if_false]
       exact fin l A K hl hr ha hk
    | succ n ihn =>
      intro j A K hj ha hk hc
      have h : j < t.kids.length := by omega
      have h' : j < K.length := by omega
      have hcj : K[j] = t.kids[j] := by
       have := hc j (Nat.le_refl _)
       rw [List.getElem?_eq_getElem h, List.getElem?_eq_getElem h'] at this
       simpa using this
      have g1 : (K.map Tm.enc)[j]? = some t.kids[j].enc := by rw [List.getElem?_map, List.getElem?_eq_getElem h', hcj]; rfl
      have e1 : dBin .add (.int .i64 (j : Int)) (.int .i64 1) = some (.int .i64 ((j + 1 : Nat) : Int)) := dAdd1 (show j < 9223372036854775807 by omega)
      have hb : (if (0 : Int) < (j : Int) then l else bOut l t.vars) = bKid j (bOut l t.vars) l := by
       unfold bKid
       by_cases h0 : j = 0
       ·subst h0; rfl
       ·rw [if_pos (by omega), if_neg h0]
      have ho := hid (j : Int)
      rw [hb] at ho
      have bl : (bKid j (bOut l t.vars) l).length ≤ lim := by
       unfold bKid; split
       ·exact Nat.le_trans (bOut_len l _) hl
       ·exact hl
      have br : rightBinds (bKid j (bOut l t.vars) l) = true := by
       unfold bKid; split
       ·exact rightBinds_out hr _
       ·exact hr
      have f1 := ih _ (List.getElem_mem h) (ft.kid (List.getElem_mem h)) (Tm.right_kid rt (List.getElem_mem h)) _ bl br
      have nx := ihn (j + 1) A (K.set j (t.kids[j].typs (bKid j (bOut l t.vars) l))) (by omega) ha (by simpa using hk) (set_get_ne hc)
      rw [take_set_succ h'] at nx
      unfold tyKids at nx ⊢
      rw [eq_term_types_8h]
      rw [List.map_set] at nx
      simp only [dBin_lss, Int.ofNat_lt, h, decide_true, ob_some', oif_bool, if_true, arr_nat h, arr_at.2, g1, BEq.rfl, og_true', ho, tmx3, f1, isAggN_Tm, e1, List.set_cons_succ, List.set_cons_zero]
      rw [nx]
      have e2 : (Tm.typsL t.kids (bOut l t.vars) l).drop j = t.kids[j].typs (bKid j (bOut l t.vars) l) :: (Tm.typsL t.kids (bOut l t.vars) l).drop (j + 1) := by
       have hlt : j < (Tm.typsL t.kids (bOut l t.vars) l).length := by rw [Tm.typsL_len]; exact h
       rw [List.drop_eq_getElem_cons hlt]
       congr 1
       have := Tm.typsL_get (bOut l t.vars) l t.kids j
       rw [List.getElem?_eq_getElem hlt, List.getElem?_eq_getElem h, Option.map_some, Option.some.injEq] at this
       exact this
      rw [e2, List.append_assoc]
      rfl
   have args : ∀ (n j : Nat) (A : List Ty), j + n = t.args.length → A.length = t.args.length → (∀ i : Nat, j ≤ i → A[i]? = t.args[i]?) → tyArgs t l j A t.kids = tyKids t l 0 (A.take j ++ (t.args.map (Ty.putN l)).drop j) t.kids := by
    intro n
    induction n with
    | zero =>
      intro j A hj ha _
      have e : j = t.args.length := by omega
      subst e
      unfold tyArgs tyKids
      rw [eq_term_types_3h]
      simp only [dBin_lss, Int.lt_irrefl, decide_false, ob_some', oif_bool, Bool.false_eq_true, if_false]
      rw [List.take_of_length_le (Nat.le_of_eq ha), List.drop_eq_nil_of_le (by simp), List.append_nil]
      rfl
    | succ n ihn =>
      intro j A hj ha hc
      have h : j < t.args.length := by omega
      have h' : j < A.length := by omega
      have hcj : A[j] = t.args[j] := by
       have := hc j (Nat.le_refl _)
       rw [List.getElem?_eq_getElem h, List.getElem?_eq_getElem h'] at this
       simpa using this
      have g1 : (A.map Ty.enc)[j]? = some t.args[j].enc := by rw [List.getElem?_map, List.getElem?_eq_getElem h', hcj]; rfl
      have e1 : dBin .add (.int .i64 (j : Int)) (.int .i64 1) = some (.int .i64 ((j + 1 : Nat) : Int)) := dAdd1 (show j < 9223372036854775807 by omega)
      have f1 := sp_term_put t.args[j] l (.inl (rargs _ (List.getElem_mem h))) hl hr
      have nx := ihn (j + 1) (A.set j (t.args[j].putN l)) (by omega) (by simpa using ha) (set_get_ne hc)
      rw [take_set_succ h'] at nx
      unfold tyArgs at nx ⊢
      rw [eq_term_types_3h]
      rw [List.map_set] at nx
      simp only [dBin_lss, Int.ofNat_lt, h, decide_true, ob_some', oif_bool, if_true, arr_nat h, arr_at.1, g1, BEq.rfl, og_true', tyx3, f1, isAggN_Ty, e1, List.set_cons_zero]
      rw [nx]
      congr 1
      have hlt : j < (t.args.map (Ty.putN l)).length := by simpa using h
      rw [List.drop_eq_getElem_cons hlt, List.append_assoc, List.getElem_map]
      rfl
   refine call_term_types _ _ ?_
   rw [eq_term_types]
   simp only [isAggN_Tm, og_true', Tm.proj17 t, Tm.proj19 t, dList_list, ob_some', BEq.rfl, Bool.true_and, List.length_map, fa, fk, decide_true]
   have h1 := args t.args.length 0 t.args (by omega) rfl fun i _ => rfl
   have h2 := kids t.kids.length 0 (t.args.map (Ty.putN l)) t.kids (by omega) (by simp) rfl fun i _ => rfl
   rw [List.take_zero, List.drop_zero, List.nil_append] at h1 h2
   rw [Tm.typs_eq, ← h2, ← h1]
   rfl
end Go.Su

/-
 The functions' specs that this claim needs.
-/
namespace Go.Su
set_option linter.unusedVariables false
set_option linter.unusedSimpArgs false
theorem Ty.kid_big {t k : Ty} (ht : t.size ≤ lim) (h : k ∈ t.kids) : k.size ≤ lim := by have := Ty.size_kid h; omega
theorem Ty.len_big {t : Ty} (ht : t.size ≤ lim) : t.kids.length < 4294967296 := by have := t.len_lt; have := big ht; omega
theorem sp_r03_Size (t : Ty) : t.size ≤ lim → (run cfg).p F_r03_Size [t.enc] = some (.int .i64 t.size) := by
 induction t using Ty.ind with
 | h t ih =>
   intro ht
   have hb := Ty.len_big ht
   refine call_r03_Size _ ?_
   rw [eq_r03_Size]
   simp only [isAggN_Ty, og_true']
   have loop := loop_fold (l := t.kids) (P := fun i (a : Nat) => P_r03_Size_3h (run cfg) (.int .i64 a) (.int .i64 i) t.enc) (g := fun a k => a + k.size) (fin := fun a => some (.int .i64 a))
    (I := fun i a => a + ((t.kids.drop i).map Ty.size).sum ≤ lim)
    (fun a _ => by rw [eq_r03_Size_3h]; simp)
    (fun i h a ha => by
      rw [List.drop_eq_getElem_cons h, List.map_cons, List.sum_cons] at ha
      have := big ha
      refine ⟨?_, by omega⟩
      rw [eq_r03_Size_3h]
      simp [h, dIdx_map h, Ty.eta, Ty.ag, ih _ (List.getElem_mem h) (Ty.kid_big ht (List.getElem_mem h)), dAdd1 (show i < 9223372036854775807 by omega)]
      rw [dAdd (by omega) (by omega)]
      simp) 1 (by have := Ty.size_eq t; simpa using (by omega : 1 + (t.kids.map Ty.size).sum ≤ lim))
   have e : ∀ (l : List Ty) (a : Nat), l.foldl (fun a k => a + k.size) a = a + (l.map Ty.size).sum := by
    intro l
    induction l with
    | nil => intro a; simp
    | cons x l ih => intro a; simp [ih]; omega
   rw [e, ← Ty.size_eq] at loop
   exact loop
theorem sp_r03_In (l : List Int) (hl : l.length ≤ lim) (n : Int) : (run cfg).p F_r03_In [encInts l, .int .i64 n] = some (.bool (decide (n ∈ l))) := by
 have hb := big hl
 refine call_r03_In _ _ ?_
 rw [eq_r03_In]
 have loop := loop_anyB (l := l) (f := fun x => decide (x = n)) (P := fun i => P_r03_In_2h (run cfg) (encInts l) (.int .i64 n) (.int .i64 i))
  (by rw [eq_r03_In_2h]; simp)
  (fun i h => by
    rw [eq_r03_In_2h]
    simp [h, dIdx_ints h, dAdd1 (show i < 9223372036854775807 by omega)])
 refine loop.trans ?_
 congr 2
 rw [Bool.eq_iff_iff]
 simp
theorem sp_r03_vars (t : Ty) : ∀ (l : List Int) (sg : List SObj), l.length + t.size ≤ lim → (run cfg).r F_r03_vars [(t.enc, .val), (encInts l, .own)] sg = some ([encInts (t.varsOn l)], sg) := by
 induction t using Ty.ind with
 | h t ih =>
   intro l sg hl
   have hb := Ty.len_big (show t.size ≤ lim by omega)
   have hB := big hl
   refine call_r03_vars _ _ _ ?_
   have loop : ∀ l : List Int, l.length + (t.kids.map Ty.size).sum ≤ lim → P_r03_vars_4h (run cfg) (encInts l) (.int .i64 0) t.enc sg = some ([encInts (t.kids.foldl (fun l k => k.varsOn l) l)], sg) :=
    loop_fold (l := t.kids) (P := fun i (a : List Int) => P_r03_vars_4h (run cfg) (encInts a) (.int .i64 i) t.enc sg) (g := fun a k => k.varsOn a) (fin := fun a => some ([encInts a], sg))
     (I := fun i a => a.length + ((t.kids.drop i).map Ty.size).sum ≤ lim)
     (fun a _ => by rw [eq_r03_vars_4h]; simp)
     (fun i h a ha => by
       rw [List.drop_eq_getElem_cons h, List.map_cons, List.sum_cons] at ha
       have h1 := Ty.varsOn_len t.kids[i] a
       refine ⟨?_, by omega⟩
       rw [eq_r03_vars_4h]
       simp [h, dIdx_map h, Ty.eta, Ty.ag, ih _ (List.getElem_mem h) a sg (by omega), dAdd1 (show i < 9223372036854775807 by omega)])
   have hsz := Ty.size_eq t
   rw [eq_r03_vars, Ty.varsOn_eq]
   simp
   by_cases h6 : t.kind = 6
   ·simp [h6, sp_r03_In l (by omega) t.n]
    by_cases hn : t.n ∈ l
    ·simp [hn, eq_r03_vars_3, loop l (by omega)]
    ·simp [hn, eq_r03_vars_3]
     rw [show encInts l = .list 1 (l.map fun n => .int .i64 n) from rfl, dApp_list (by simp; omega)]
     simp
     have := loop (l ++ [t.n]) (by simp; omega)
     simpa [encInts] using this
   ·simp [h6, eq_r03_vars_3, loop l (by omega)]
theorem sp_r03_Vars (t : Ty) (ht : t.size ≤ lim) : (run cfg).p F_r03_Vars [t.enc] = some (encInts t.vars) := by
 refine call_r03_Vars _ ?_
 rw [eq_r03_Vars]
 have := sp_r03_vars t [] [] (by simpa using ht)
 have e : encInts [] = .list 1 [] := rfl
 rw [e] at this
 simp [Ty.eta, Ty.ag, this, Ty.vars]
theorem sp_l03_count (t : Ty) : ∀ n : Int, t.thin = true → 0 ≤ n → n ≤ 1048576 → ∃ m : Int, (run cfg).p F_l03_count [t.enc, .int .i64 n] = some (.int .i64 m) ∧ 0 ≤ m ∧ m ≤ max (n + 1) 601 := by
 induction t using Ty.ind with
 | h t ih =>
   intro n ht h0 h1
   have hb := t.thin_len ht
   have loop : ∀ m : Int, 0 ≤ m → m ≤ 1048577 → ∃ r : Int, P_l03_count_3h (run cfg) (.int .i64 m) (.int .i64 0) t.enc = some (.int .i64 r) ∧ 0 ≤ r ∧ r ≤ max m 601 := by
    have key : ∀ (k i : Nat) (m : Int), i + k = t.kids.length → 0 ≤ m → m ≤ 1048577 → ∃ r : Int, P_l03_count_3h (run cfg) (.int .i64 m) (.int .i64 i) t.enc = some (.int .i64 r) ∧ 0 ≤ r ∧ r ≤ max m 601 := by
     intro k
     induction k with
     | zero =>
       intro i m hi h0 h1
       rw [eq_l03_count_3h]
       have : ¬ i < t.kids.length := by omega
       exact ⟨m, by simp [this], h0, by omega⟩
     | succ k ihk =>
       intro i m hi h0 h1
       have h : i < t.kids.length := by omega
       rw [eq_l03_count_3h]
       by_cases hm : m ≤ 600
       ·obtain ⟨r, hr, hr0, hr1⟩ := ih _ (List.getElem_mem h) m (Ty.thin_kid ht (List.getElem_mem h)) h0 (by omega)
        obtain ⟨s, hs, hs0, hs1⟩ := ihk (i + 1) r (by omega) hr0 (by omega)
        push_cast at hs
        exact ⟨s, by simp [h, hm, dIdx_map h, Ty.eta, Ty.ag, hr, dAdd1 (show i < 9223372036854775807 by omega), hs], hs0, by omega⟩
       ·exact ⟨m, by simp [h, hm], h0, by omega⟩
    exact fun m h0 h1 => key t.kids.length 0 m (by omega) h0 h1
   obtain ⟨r, hr, hr0, hr1⟩ := loop (n + 1) (by omega) (by omega)
   refine ⟨r, call_l03_count _ _ ?_, hr0, hr1⟩
   rw [eq_l03_count]
   simp
   rw [dAdd (by omega) (by omega)]
   simpa using hr
theorem sp_l03_Heavy1 (t : Ty) (ht : t.thin = true) : ∃ b : Bool, (run cfg).p F_l03_Heavy [.list 3 [t.enc]] = some (.bool b) := by
 obtain ⟨m, h1, h2, h3⟩ := sp_l03_count t 0 ht (by omega) (by omega)
 refine ⟨decide (600 < m), call_l03_Heavy _ ?_⟩
 rw [eq_l03_Heavy, eq_l03_Heavy_3h]
 have e0 : dIdx 3 (.list 3 [t.enc]) (.int .i64 0) = some t.enc := by simp [dIdx]
 simp [e0, Ty.eta, Ty.ag, h1, dAdd (show (-9223372036854775808 : Int) ≤ 0 + 1 by omega) (by omega)]
 rw [eq_l03_Heavy_3h]
 simp
theorem sp_r08_Deep (t : Ty) : ∀ n : Int, -9223372036854775000 ≤ n → n ≤ 1000 → t.thin = true → (run cfg).p F_r08_Deep [t.enc, .int .i64 n] = some (.bool (t.deep n)) := by
 induction t using Ty.ind with
 | h t ih =>
   intro n hn0 hn ht
   have hb := t.thin_len ht
   refine call_r08_Deep _ _ ?_
   rw [eq_r08_Deep, Ty.deep_eq]
   simp
   by_cases h0 : n ≤ 0
   ·simp [h0]
   ·have loop := loop_anyB (l := t.kids) (f := fun k => k.deep (n - 1)) (P := fun i => P_r08_Deep_4h (run cfg) (.int .i64 n) (.int .i64 i) t.enc)
     (by rw [eq_r08_Deep_4h]; simp)
     (fun i h => by
       rw [eq_r08_Deep_4h]
       simp [h, dIdx_map h, Ty.eta, Ty.ag, dBin_sub, wrap_id (show (-9223372036854775808 : Int) ≤ n - 1 by omega) (by omega), ih _ (List.getElem_mem h) (n - 1) (by omega) (by omega) (Ty.thin_kid ht (List.getElem_mem h)), dAdd1 (show i < 9223372036854775807 by omega)])
    simp only [h0, decide_false, Bool.false_or]
    exact loop
theorem sp_word_Key (s : ByteArray) : (run cfg).p F_word_Key [.str s] = some (.bool (keyB s)) := by
 refine call_word_Key _ ?_
 rw [eq_word_Key]
 have e : ∀ l : List UInt8, (s = ⟨l.toArray⟩) ↔ s.data.toList = l := fun l => by
  constructor
  ·rintro rfl; simp
  ·intro h; cases s; simp only [ByteArray.mk.injEq]; exact Array.ext' (by simpa using h)
 simp only [dBin_seql, ob_some', oif_bool]
 simp only [e, keyB, keyL, List.mem_cons, List.not_mem_nil, or_false]
 simp only [decide_eq_true_eq, ite_s, ite_db, Bool.if_true_left, Bool.decide_or, Bool.or_false]
theorem sp_word_inner (c : Int) : (run cfg).p F_word_inner [.int .u8 c] = some (.bool (partB c)) := by
 refine call_word_inner _ ?_
 rw [eq_word_inner]
 simp only [dBin_geq, dBin_leq, dBin_eql, ob_some', ogd_bool, decide_eq_true_eq, partB, lowerB, digitB]
 by_cases h1 : 97 ≤ c <;> by_cases h2 : c ≤ 122 <;> by_cases h3 : 65 ≤ c <;> by_cases h4 : c ≤ 90 <;> by_cases h5 : 48 ≤ c <;> by_cases h6 : c ≤ 57 <;> by_cases h7 : c = 95 <;> simp [h1, h2, h3, h4, h5, h6, h7]
theorem str_big {s : ByteArray} (h : s.size ≤ lim) : (bts s).length < 4294967297 := by rw [bts_len]; exact big h
theorem sp_word_Name (s : ByteArray) (hs : s.size ≤ lim) : (run cfg).p F_word_Name [.str s] = some (.bool (nameB s)) := by
 have hb := str_big hs
 refine call_word_Name _ ?_
 rw [eq_word_Name]
 simp only [dLenS_str, ob_some', dBin_lss, dBin_gtr, ogd_bool, oif_bool, decide_eq_true_eq, nameB, ← bts_len]
 by_cases h1 : ((bts s).length : Int) < 1
 ·have : ¬ (1 ≤ (bts s).length) := by omega
  simp [h1, this]
 ·by_cases h2 : (32 : Int) < ((bts s).length : Int)
  ·have : ¬ ((bts s).length ≤ 32) := by omega
   simp [h1, h2, this]
  ·have h0 : 0 < (bts s).length := by omega
   have e0 := dStr_idx (s := s) (k := .i64) h0
   simp only [Int.natCast_zero, Int.ofNat_zero, Int.cast_ofNat_Int] at e0
   have loop : ∀ (k i : Nat), i + k = (bts s).length → P_word_Name_4h (run cfg) (.str s) (.int .i64 i) = some (.bool (((bts s).drop i).all partB)) := by
    intro k
    induction k with
    | zero =>
      intro i hi
      rw [eq_word_Name_4h]
      have : ¬ i < (bts s).length := by omega
      simp [← bts_len, this, List.drop_of_length_le (show (bts s).length ≤ i by omega)]
    | succ k ih =>
      intro i hi
      have h : i < (bts s).length := by omega
      rw [eq_word_Name_4h]
      have := ih (i + 1) (by omega)
      push_cast at this
      have hlt : (i : Int) < (s.size : Int) := by rw [← bts_len]; omega
      rw [List.drop_eq_getElem_cons h, List.all_cons]
      simp only [dLenS_str, ob_some', dBin_lss, hlt, decide_true, oif_bool, if_true, dStr_idx h, sp_word_inner, dUn_not, dAdd1 (show i < 9223372036854775807 by omega)]
      push_cast
      rw [this]
      cases partB (bts s)[i] <;> rfl
   have l1 := loop ((bts s).length - 1) 1 (by omega)
   simp only [Int.natCast_one, Int.ofNat_one, Int.cast_ofNat_Int] at l1
   have g0 : (bts s).getD 0 0 = (bts s)[0] := by simp [List.getD_eq_getElem?_getD, h0]
   have d0 : bts s = (bts s)[0] :: (bts s).drop 1 := by
    have := List.drop_eq_getElem_cons h0
    simpa using this
   have a1 : (1 ≤ (bts s).length) := by omega
   have a2 : ((bts s).length ≤ 32) := by omega
   have e0' : dStrIdx (.str s) (.int .i64 0) = some (.int .u8 (bts s)[0]) := e0
   simp only [h1, h2, if_false, e0', ob_some', dBin_lss, dBin_gtr, ogd_bool, decide_eq_true_eq, sp_word_Key, oif_bool, g0, a1, a2, decide_true, Bool.true_and]
   by_cases h3 : (bts s)[0] < 97
   ·have : lowerB (bts s)[0] = false := by simp [lowerB]; omega
    simp [h3, this]
   ·by_cases h4 : (122 : Int) < (bts s)[0]
    ·have : lowerB (bts s)[0] = false := by simp [lowerB]; omega
     simp [h3, h4, this]
    ·have h5 : lowerB (bts s)[0] = true := by simp [lowerB]; omega
     have h6 : partB (bts s)[0] = true := by simp [partB, h5]
     have h7 : (bts s).all partB = ((bts s).drop 1).all partB := by
      conv => lhs; rw [d0]
      simp [h6]
     cases hk : keyB s
     ·simp only [h3, h4, if_false, Bool.false_eq_true, h5, h7, Bool.true_and, Bool.not_false, Bool.and_true]
      exact l1
     ·simp [h3, h4]
theorem nil_str : (.str ⟨#[]⟩ : DV) = .str nil8 := rfl
theorem sp_tree_onePat (p : Pat) (hp : p.texts) : (run cfg).p F_tree_onePat [p.enc] = some (.bool p.one) := by
 obtain ⟨hn, hs⟩ := hp
 have h24 : ∀ (t4 : Int) (a b c g : DV) (nm : ByteArray) (n : Int) (s : ByteArray), P_tree_onePat_24 (run cfg) (.int .i64 t4) p.enc a b c (.str nm) (.int .i64 n) (.str s) g =
  some (.bool (decide ((p.kids.length : Int) = t4) && decide (nm = p.name) && decide (n = p.n) && decide (s = p.s))) := by
  intro t4 a b c g nm n s
  rw [eq_tree_onePat_24]
  simp only [Pat.proj6, Pat.proj3, Pat.proj4, Pat.proj5, dLen_list, List.length_map, ob_some', dBin_eql, dBin_seql, ogd_bool, decide_eq_true_eq]
  by_cases h1 : (p.kids.length : Int) = t4 <;> by_cases h2 : nm = p.name <;> by_cases h3 : n = p.n <;> simp [h1, h2, h3]
 refine call_tree_onePat _ ?_
 rw [eq_tree_onePat]
 have hs' : dBin .gtr (.int .i64 (p.s.size : Int)) (.int .i64 200) = some (.bool (decide (200 < p.s.size))) := by
  rw [dBin_gtr]; congr 2; rw [decide_eq_decide]; omega
 simp only [isAggN_Pat, og_true', Pat.pj, isCell_int, isCell_str, isCell_list, dBin_eql, dBin_neq, ob_some', oif_bool, ogd_bool, sp_word_Name p.name (by unfold lim; omega), dUn_not, dLenS_str, hs', h24, nil_str]
 unfold Pat.one
 by_cases k1 : p.kind = 1
 ·simp [k1, eq_comm]
 by_cases k6 : p.kind = 6
 ·simp [k6, eq_comm]
 by_cases k8 : p.kind = 8
 ·simp [k8, eq_comm]
 by_cases k2 : p.kind = 2
 ·cases hnm : nameB p.name <;> simp [k2, hnm, eq_comm]
 by_cases k3 : p.kind = 3
 ·simp [k3, eq_comm]
 by_cases k4 : p.kind = 4
 ·by_cases n0 : p.n = 0
  ·simp [k4, n0, eq_comm]
  ·by_cases n1 : p.n = 1 <;> simp [k4, n0, n1, eq_comm]
 by_cases k5 : p.kind = 5
 ·by_cases h : 200 < p.s.size
  ·have : ¬ p.s.size ≤ 200 := by omega
   simp [k5, h, this]
  ·have : p.s.size ≤ 200 := by omega
   simp [k5, h, this, eq_comm]
 have h2 : decide (2 = (p.kids.length : Int)) = decide (2 = p.kids.length) := by rw [decide_eq_decide]; omega
 by_cases k7 : p.kind = 7
 ·simp [k7, eq_comm, h2]
 by_cases k9 : p.kind = 9
 ·simp [k9, eq_comm, h2]
 simp [k1, k2, k3, k4, k5, k6, k7, k8, k9]
def hasS (l : List ByteArray) (n : ByteArray) : Bool := l.any fun x => decide (x = n)
theorem hasS_iff {l : List ByteArray} {n : ByteArray} : hasS l n = true ↔ n ∈ l := by simp [hasS]
def cntS (es : List (DV × DV)) (s : ByteArray) : DV := (mGet es (.str s)).getD (.int .i64 0)
def cpSg (a b c e : SObj) (n : Int) (es : List (DV × DV)) : List SObj := [a, .box [(.int .i64 n, .val)], .map true es, .box [(.undef, .map 2)], e]
theorem cp_end (t0 t6 : DV) (a b c e : SObj) (n : Int) (es : List (DV × DV)) : X_tree_CheckPat_r0 (run cfg) t0 t6 .ret (cpSg a b c e n es) = some (.int .i64 n) := by
 rw [eq_X_tree_CheckPat_r0_ret]
 rfl
theorem cp_norm (t0 t6 : DV) (a b c e : SObj) (n : Int) (es : List (DV × DV)) : X_tree_CheckPat_r0 (run cfg) t0 t6 .normal (cpSg a b c e n es) = some (.int .i64 0) := by
 rw [eq_X_tree_CheckPat_r0_normal]
 rfl
theorem cp_rounds (t0 t6 : DV) (a b c e : SObj) : ∀ (ps : List Pat) (pre : List ByteArray) (es : List (DV × DV)), (∀ q ∈ ps, q.texts) → pre.Nodup → (∀ s, cntS es s = .int .i64 (if hasS pre s = true then 1 else 0)) →
 I_tree_CheckPat_r0 (run cfg) t0 t6 (ps.map Pat.enc) (cpSg a b c e 0 es) = some (.int .i64 (if ps.all Pat.one = true ∧ (pre ++ ps.flatMap nmOf).Nodup then 0 else 1))
 | [], pre, es, _, hn, _ => by
   rw [List.map_nil, I_tree_CheckPat_r0_nil, cp_norm]
   simp [hn]
 | q :: ps, pre, es, hx, hn, hc => by
   rw [List.map_cons, I_tree_CheckPat_r0_cons, eq_B_tree_CheckPat_r0]
   have hq := hx q (List.mem_cons_self ..)
   simp only [isAggN_Pat, og_true', Pat.pj, Pat.eta, Pat.ag, sp_tree_onePat q hq, ob_some', dUn_not, ogd_bool, dBin_eql]
   have sg1 : sgBox (cpSg a b c e 0 es) 1 = some [(.int .i64 0, .val)] := rfl
   have sg3 : sgBox (cpSg a b c e 0 es) 3 = some [(.undef, .map 2)] := rfl
   have set1 : (cpSg a b c e 0 es).set 1 (.box ([((.int .i64 0 : DV), Meta.val)].set 0 (.int .i64 1, .val))) = cpSg a b c e 1 es := rfl
   have g0 : [((.int .i64 0 : DV), Meta.val)][0]? = some (.int .i64 0, .val) := rfl
   have cm : cellMap [((.undef : DV), Meta.map 2)] 0 = some 2 := rfl
   have sm : sgMap (cpSg a b c e 0 es) 2 = some (true, es) := rfl
   cases h1 : q.one
   ·simp only [Bool.not_false, if_true, sg1, ob_some', g0, set1, cp_end]
    simp [h1]
   ·simp only [Bool.not_true, Bool.false_eq_true, if_false]
    have rest : ∀ (pre' : List ByteArray) (es' : List (DV × DV)), pre'.Nodup → (∀ s, cntS es' s = .int .i64 (if hasS pre' s = true then 1 else 0)) →
     I_tree_CheckPat_r0 (run cfg) t0 t6 (ps.map Pat.enc) (cpSg a b c e 0 es') = some (.int .i64 (if ps.all Pat.one = true ∧ (pre' ++ ps.flatMap nmOf).Nodup then 0 else 1)) :=
     fun pre' es' h h' => cp_rounds t0 t6 a b c e ps pre' es' (fun x hx' => hx x (List.mem_cons_of_mem _ hx')) h h'
    rw [eq_tree_CheckPat_6]
    simp only [Pat.proj0, Pat.proj3, dBin_eql, ob_some', oif_bool, decide_eq_true_eq]
    by_cases h2 : q.kind = 2
    ·have hcq := hc q.name
     unfold cntS at hcq
     have sm' : (cpSg a b c e 0 es).set 2 (.map true (mSet es (.str q.name) (.int .i64 1))) = cpSg a b c e 0 (mSet es (.str q.name) (.int .i64 1)) := rfl
     simp only [h2, if_true, sg3, ob_some', cm, isKey_str, Bool.and_true, og_true', sm, BEq.rfl, hcq, dBin_gtr, oif_bool, decide_eq_true_eq]
     by_cases h3' : hasS pre q.name = true
     ·have h3 := hasS_iff.1 h3'
      simp only [h3', if_true, show (0 : Int) < 1 by omega, decide_true, sg1, ob_some', g0, set1, cp_end]
      have : ¬ (pre ++ (q :: ps).flatMap nmOf).Nodup := by
       simp only [List.flatMap_cons, nmOf, h2, if_true, List.singleton_append, List.nodup_append]
       rintro ⟨-, -, h⟩
       exact h q.name h3 q.name (List.mem_cons_self ..) rfl
      rw [if_neg (fun h => this h.2)]
     ·have h3 : q.name ∉ pre := fun h => h3' (hasS_iff.2 h)
      simp only [h3', if_false, show ¬ (0 : Int) < 0 by omega, decide_false, Bool.false_eq_true]
      rw [dAdd (by omega) (by omega)]
      simp only [ob_some', Int.zero_add]
      rw [sm', rest (pre ++ [q.name]) _ (by rw [List.nodup_append]; refine ⟨hn, by simp, ?_⟩; rintro x hx' y hy rfl; simp at hy; exact h3 (hy ▸ hx')) ?_]
      ·simp [List.flatMap_cons, nmOf, h2, h1]
      ·intro s
       unfold cntS
       rw [mGet_set]
       have := hc s
       unfold cntS at this
       by_cases h4 : q.name = s
       ·have : hasS (pre ++ [q.name]) s = true := hasS_iff.2 (by simp [h4])
        rw [if_pos h4, if_pos this]
        rfl
       ·have e : hasS (pre ++ [q.name]) s = hasS pre s := by simp [hasS, h4]
        simp only [if_neg h4, e]
        exact this
    ·simp only [h2, if_false]
     rw [rest pre es hn hc]
     simp [List.flatMap_cons, nmOf, h2, h1]
theorem sp_tree_CheckPat (p : Pat) (ht : p.thin = true) (hx : p.txt) : (run cfg).p F_tree_CheckPat [p.enc] = some (.int .i64 (if p.right = true then 0 else 1)) := by
 refine call_tree_CheckPat _ ?_
 rw [eq_tree_CheckPat]
 simp only [isAggN_Pat, og_true', Pat.pj, Pat.eta, Pat.ag]
 rw [eq_tree_CheckPat_r0]
 obtain ⟨n, hn⟩ := flat_Pat p ht
 rw [Pat.enc_eq] at hn
 simp only [sgBox, List.getElem?_cons_succ, List.getElem?_cons_zero, ob_some', allDat, og_true', flatD_of hn]
 have := cp_rounds p.enc p.enc (.box [(.int .i64 p.kind, .val), (.int .i64 p.lo, .val), (.int .i64 p.hi, .val), (.str p.name, .val), (.int .i64 p.n, .val), (.str p.s, .val), (.list 7 (p.kids.map Pat.enc), .val)])
  (.arr 1 []) (.arr 1 []) (.arr 1 []) p.subs [] [] (fun q hq => hx q hq) (by simp) (fun s => rfl)
 refine this.trans ?_
 congr 2
 have e : p.right = true ↔ (p.subs.all Pat.one = true ∧ (([] : List ByteArray) ++ p.subs.flatMap nmOf).Nodup) := by
  unfold Pat.right Pat.names
  rw [Pat.pat_subs, Pat.namesOn_subs]
  simp
 by_cases h : p.right = true
 ·rw [if_pos h, if_pos (e.1 h)]
 ·rw [if_neg h, if_neg (fun h' => h (e.2 h'))]
theorem ite_andB (a b : Bool) : (if a = true then DV.bool b else DV.bool false) = DV.bool (a && b) := by cases a <;> rfl
def shapeD (k : Int) (np : Nat) : DV := .agg [.bool (kName k), .bool (kArg k), .bool (kN k), .bool (kS k), .bool (kOp k), .bool (kAt k), .bool (kVars k), .bool (kArgs k), .bool (kPats k), .bool (kA k), .bool (kB k), .bool (kLabel k), .int .i64 (kKids k np)]
theorem sp_term_shapeOf (t : Tm) (ht : t.fit1) : ∃ d, (run cfg).p F_term_shapeOf [t.enc] = some (.tup [d, .bool (kOk t.kind t.pats.length)]) ∧ (kOk t.kind t.pats.length = true → d = shapeD t.kind t.pats.length) ∧ isAggN 13 d = true := by
 have hp := big (Nat.le_of_lt ht.pats)
 suffices h : ∃ d, P_term_shapeOf (run cfg) t.enc = some (.tup [d, .bool (kOk t.kind t.pats.length)]) ∧ (kOk t.kind t.pats.length = true → d = shapeD t.kind t.pats.length) ∧ isAggN 13 d = true by
  obtain ⟨d, h1, h2⟩ := h
  exact ⟨d, call_term_shapeOf _ h1, h2⟩
 rw [eq_term_shapeOf]
 have fl : ∀ {a b c d e f g h i j k l : Bool} {n : Int}, isAggN 13 (.agg [.bool a, .bool b, .bool c, .bool d, .bool e, .bool f, .bool g, .bool h, .bool i, .bool j, .bool k, .bool l, .int .i64 n]) = true := rfl
 by_cases k14 : t.kind = 14
 ·have h1 : dBin .add (.int .i64 (t.pats.length : Int)) (.int .i64 1) = some (.int .i64 ((t.pats.length : Int) + 1)) := dAdd (by omega) (by omega)
  simp [k14, h1, kOk, shapeD, kName, kArg, kN, kS, kOp, kAt, kVars, kArgs, kPats, kA, kB, kLabel, kKids, fl]
 by_cases k1 : t.kind = 1
 ·simp [k1, kOk, shapeD, kName, kArg, kN, kS, kOp, kAt, kVars, kArgs, kPats, kA, kB, kLabel, kKids, fl]
 by_cases k2 : t.kind = 2
 ·simp [k2, kOk, shapeD, kName, kArg, kN, kS, kOp, kAt, kVars, kArgs, kPats, kA, kB, kLabel, kKids, fl]
 by_cases k3 : t.kind = 3
 ·simp [k3, kOk, shapeD, kName, kArg, kN, kS, kOp, kAt, kVars, kArgs, kPats, kA, kB, kLabel, kKids, fl]
 by_cases k4 : t.kind = 4
 ·simp [k4, kOk, shapeD, kName, kArg, kN, kS, kOp, kAt, kVars, kArgs, kPats, kA, kB, kLabel, kKids, fl]
 by_cases k5 : t.kind = 5
 ·simp [k5, kOk, shapeD, kName, kArg, kN, kS, kOp, kAt, kVars, kArgs, kPats, kA, kB, kLabel, kKids, fl]
 by_cases k6 : t.kind = 6
 ·simp [k6, kOk, shapeD, kName, kArg, kN, kS, kOp, kAt, kVars, kArgs, kPats, kA, kB, kLabel, kKids, fl]
 by_cases k7 : t.kind = 7
 ·simp [k7, kOk, shapeD, kName, kArg, kN, kS, kOp, kAt, kVars, kArgs, kPats, kA, kB, kLabel, kKids, fl]
 by_cases k8 : t.kind = 8
 ·simp [k8, kOk, shapeD, kName, kArg, kN, kS, kOp, kAt, kVars, kArgs, kPats, kA, kB, kLabel, kKids, fl]
 by_cases k9 : t.kind = 9
 ·simp [k9, kOk, shapeD, kName, kArg, kN, kS, kOp, kAt, kVars, kArgs, kPats, kA, kB, kLabel, kKids, fl]
 by_cases k10 : t.kind = 10
 ·simp [k10, kOk, shapeD, kName, kArg, kN, kS, kOp, kAt, kVars, kArgs, kPats, kA, kB, kLabel, kKids, fl]
 by_cases k11 : t.kind = 11
 ·simp [k11, kOk, shapeD, kName, kArg, kN, kS, kOp, kAt, kVars, kArgs, kPats, kA, kB, kLabel, kKids, fl]
 by_cases k12 : t.kind = 12
 ·simp [k12, kOk, shapeD, kName, kArg, kN, kS, kOp, kAt, kVars, kArgs, kPats, kA, kB, kLabel, kKids, fl]
 by_cases k13 : t.kind = 13
 ·simp [k13, kOk, shapeD, kName, kArg, kN, kS, kOp, kAt, kVars, kArgs, kPats, kA, kB, kLabel, kKids, fl]
 by_cases k15 : t.kind = 15
 ·simp [k15, kOk, shapeD, kName, kArg, kN, kS, kOp, kAt, kVars, kArgs, kPats, kA, kB, kLabel, kKids, fl]
 by_cases k16 : t.kind = 16
 ·simp [k16, kOk, shapeD, kName, kArg, kN, kS, kOp, kAt, kVars, kArgs, kPats, kA, kB, kLabel, kKids, fl]
 ·have hk : kOk t.kind t.pats.length = false := by
   unfold kOk
   rw [Bool.eq_false_iff]
   intro h
   simp only [Bool.and_eq_true, decide_eq_true_eq] at h
   omega
  simp [hk, k1, k2, k3, k4, k5, k6, k7, k8, k9, k10, k11, k12, k13, k14, k15, k16, fl]
theorem sp_term_none (t : Ty) : (run cfg).p F_term_none [t.enc] = some (.bool t.none) := by
 refine call_term_none _ ?_
 rw [eq_term_none]
 simp [Ty.none]
 by_cases h1 : t.kind = 0 <;> by_cases h2 : t.n = 0 <;> simp [h1, h2]
theorem sp_term_typed (h : Bool) (t : Ty) (ht : t.thin = true) : (run cfg).p F_term_typed [.bool h, t.enc] = some (.bool (typedB h t)) := by
 refine call_term_typed _ _ ?_
 rw [eq_term_typed]
 cases h
 ·simp [Ty.eta, Ty.ag, sp_term_none, typedB]
 ·simp [Ty.eta, Ty.ag, sp_typ_Check t ht, typedB]
theorem sp_term_named (h : Bool) (s : ByteArray) (hs : s.size ≤ 4294967000) : (run cfg).p F_term_named [.bool h, .str s] = some (.bool (namedB h s)) := by
 refine call_term_named _ _ ?_
 rw [eq_term_named]
 cases h
 ·simp [namedB, nil_str]
 ·simp [namedB, sp_word_Name s (by unfold lim; omega)]
theorem sp_term_lists (t : Tm) (ht : t.fit1) : (run cfg).p F_term_lists [t.enc] = some (.bool t.lists) := by
 have hv := big (Nat.le_of_lt ht.vars)
 have ha := big (Nat.le_of_lt ht.args)
 have hp := big (Nat.le_of_lt ht.pats)
 refine call_term_lists _ ?_
 have l3 := loop_allB (l := t.pats) (f := Pat.right) (P := fun i => P_term_lists_14h (run cfg) (.list 7 (t.pats.map Pat.enc)) (.int .i64 t.pats.length) (.int .i64 i))
  (by rw [eq_term_lists_14h]; simp)
  (fun i h => by
    rw [eq_term_lists_14h]
    have f := ht.pat _ (List.getElem_mem h)
    simp [h, dIdx_map h, Pat.eta, Pat.ag, sp_tree_CheckPat _ (Pat.fit_thin f) f.txt, dAdd1 (show i < 9223372036854775807 by omega)]
    cases t.pats[i].right <;> rfl)
 have l2 := loop_all (l := t.args) (f := Ty.right) (P := fun i => P_term_lists_8h (run cfg) (.list 3 (t.args.map Ty.enc)) (.int .i64 t.args.length) (.int .i64 i) t.enc) (y := .bool (t.pats.all Pat.right)) (n := .bool false)
  (by rw [eq_term_lists_8h]; simp [l3])
  (fun i h => by
    rw [eq_term_lists_8h]
    simp [h, dIdx_map h, Ty.eta, Ty.ag, sp_typ_Check _ (ht.arg1 _ (List.getElem_mem h)), dAdd1 (show i < 9223372036854775807 by omega)]
    cases t.args[i].right <;> rfl)
 have l1 := loop_all (l := t.vars) (f := fun v => decide (0 ≤ v) && decide (v ≤ 1048576)) (P := fun i => P_term_lists_2h (run cfg) (encInts t.vars) (.int .i64 t.vars.length) (.int .i64 i) t.enc) (y := .bool (t.args.all Ty.right && t.pats.all Pat.right)) (n := .bool false)
  (by rw [eq_term_lists_2h]; simp only [dBin_lss, Int.lt_irrefl, decide_false, ob_some', oif_bool, Bool.false_eq_true, if_false, Tm.proj17, dLen_list, List.length_map, l2, ite_andB])
  (fun i h => by
    rw [eq_term_lists_2h]
    simp [h, dIdx_ints h, dAdd1 (show i < 9223372036854775807 by omega)]
    by_cases h1 : t.vars[i] < 0
    ·simp [h1, show ¬ 0 ≤ t.vars[i] by omega]
    ·by_cases h2 : 1048576 < t.vars[i]
     ·simp [h1, h2, show ¬ t.vars[i] ≤ 1048576 by omega]
     ·simp [h1, h2, show 0 ≤ t.vars[i] by omega, show t.vars[i] ≤ 1048576 by omega])
 rw [eq_term_lists]
 simp only [isAggN_Tm, og_true', Tm.proj10, dLen_ints, ob_some', l1, ite_andB, Tm.lists, Bool.and_assoc]
theorem sp_term_one (t : Tm) (ht : t.fit1) : (run cfg).p F_term_one [t.enc] = some (.bool t.one) := by
 refine call_term_one _ ?_
 obtain ⟨d, h1, h2, h3⟩ := sp_term_shapeOf t ht
 rw [eq_term_one]
 have x0 : ∀ b, dExt 0 (.tup [d, .bool b]) = some d := fun _ => rfl
 have x1 : ∀ b, dExt 1 (.tup [d, .bool b]) = some (.bool b) := fun _ => rfl
 simp only [isAggN_Tm, og_true', Tm.pj, Tm.eta, Tm.ag, Ty.eta, Ty.ag, h1, x0, x1, ob_some', h3, dUn_not, ogd_bool]
 cases hk : kOk t.kind t.pats.length
 ·simp [Tm.one, hk]
 rw [h2 hk]
 have p0 : proj 0 (shapeD t.kind t.pats.length) = .bool (kName t.kind) := rfl
 have p1 : proj 1 (shapeD t.kind t.pats.length) = .bool (kArg t.kind) := rfl
 have p2 : proj 2 (shapeD t.kind t.pats.length) = .bool (kN t.kind) := rfl
 have p3 : proj 3 (shapeD t.kind t.pats.length) = .bool (kS t.kind) := rfl
 have p4 : proj 4 (shapeD t.kind t.pats.length) = .bool (kOp t.kind) := rfl
 have p5 : proj 5 (shapeD t.kind t.pats.length) = .bool (kAt t.kind) := rfl
 have p6 : proj 6 (shapeD t.kind t.pats.length) = .bool (kVars t.kind) := rfl
 have p7 : proj 7 (shapeD t.kind t.pats.length) = .bool (kArgs t.kind) := rfl
 have p8 : proj 8 (shapeD t.kind t.pats.length) = .bool (kPats t.kind) := rfl
 have p9 : proj 9 (shapeD t.kind t.pats.length) = .bool (kA t.kind) := rfl
 have p10 : proj 10 (shapeD t.kind t.pats.length) = .bool (kB t.kind) := rfl
 have p11 : proj 11 (shapeD t.kind t.pats.length) = .bool (kLabel t.kind) := rfl
 have p12 : proj 12 (shapeD t.kind t.pats.length) = .int .i64 (kKids t.kind t.pats.length) := rfl
 have h12 : P_term_one_12 (run cfg) t.enc (shapeD t.kind t.pats.length) = some (.bool t.one5) := by
  rw [eq_term_one_12]
  simp only [p6, p7, p8, Tm.pj, Tm.eta, Tm.ag, sp_term_lists t ht, dLen_list, dLen_ints, List.length_map, ob_some', dUn_not, ogd_bool, oif_bool, dBin_gtr, Tm.one5]
  cases kVars t.kind <;> cases kArgs t.kind <;> cases kPats t.kind <;> by_cases v : t.vars.length = 0 <;> by_cases a : t.args.length = 0 <;> by_cases p : t.pats.length = 0 <;> simp [v, a, p, Nat.pos_iff_ne_zero]
 have h10 : P_term_one_10 (run cfg) t.enc (shapeD t.kind t.pats.length) = some (.bool t.one4) := by
  rw [eq_term_one_10]
  simp only [p11, Tm.proj8, Tm.proj9, h12, ob_some', dUn_not, ogd_bool, oif_bool, dBin_gtr, dBin_lss, dBin_neq, Tm.one4]
  by_cases a : t.label < 0
  ·have a' : ¬ 0 ≤ t.label := by omega
   cases kLabel t.kind <;> cases t.neg <;> by_cases v : t.label = 0 <;> simp [a, a', v]
  ·have a' : 0 ≤ t.label := by omega
   by_cases p : 1048576 < t.label
   ·have p' : ¬ t.label ≤ 1048576 := by omega
    cases kLabel t.kind <;> cases t.neg <;> by_cases v : t.label = 0 <;> simp [a, a', p, p', v]
   ·have p' : t.label ≤ 1048576 := by omega
    cases kLabel t.kind <;> cases t.neg <;> by_cases v : t.label = 0 <;> simp [a, a', p, p', v]
 have h8 : P_term_one_8 (run cfg) t.enc (shapeD t.kind t.pats.length) = some (.bool t.one3) := by
  rw [eq_term_one_8]
  simp only [p4, Tm.proj7, h10, ob_some', dUn_not, ogd_bool, oif_bool, dBin_gtr, dBin_lss, dBin_neq, Tm.one3]
  cases kOp t.kind
  ·by_cases v : t.op = 0 <;> simp [v]
  ·by_cases a : t.op < 1
   ·simp [a, show ¬ 1 ≤ t.op by omega]
   ·by_cases p : 7 < t.op
    ·simp [a, p, show ¬ t.op ≤ 7 by omega]
    ·simp [a, p, show 1 ≤ t.op by omega, show t.op ≤ 7 by omega]
 have hs : ∀ n : Nat, dBin .gtr (.int .i64 (n : Int)) (.int .i64 200) = some (.bool (decide (200 < n))) := fun n => by
  rw [dBin_gtr]; congr 2; rw [decide_eq_decide]; omega
 have h6 : P_term_one_6 (run cfg) t.enc (shapeD t.kind t.pats.length) = some (.bool t.one2) := by
  rw [eq_term_one_6]
  simp only [p3, p5, Tm.proj6, Tm.proj1, Tm.proj2, h8, ob_some', dUn_not, ogd_bool, oif_bool, dLenS_str, hs, nil_str, dBin_sneq, dEqA_two, Tm.one2]
  generalize t.s.size = z
  by_cases a : 200 < z
  ·have : ¬ z ≤ 200 := by omega
   cases kS t.kind <;> by_cases v : t.s = nil8 <;> simp [a, v, this]
  ·have : z ≤ 200 := by omega
   cases kS t.kind <;> cases kAt t.kind <;> by_cases v : t.s = nil8 <;> by_cases x : t.lo = 0 <;> by_cases y : t.hi = 0 <;> simp [a, v, x, y, this]
 have h4 : P_term_one_4 (run cfg) t.enc (shapeD t.kind t.pats.length) = some (.bool t.one1) := by
  rw [eq_term_one_4]
  simp only [p2, Tm.proj5, Tm.proj0, h6, ob_some', dUn_not, ogd_bool, oif_bool, dBin_neq, dBin_eql, Tm.one1]
  cases kN t.kind <;> by_cases v : t.kind = 3 <;> by_cases x : t.n = 0 <;> by_cases y : t.n = 1 <;> simp [v, x, y]
 simp only [p0, p1, p9, p10, p12, sp_term_named _ _ ht.name, sp_term_named _ _ ht.arg, sp_term_typed _ _ ht.a, sp_term_typed _ _ ht.b, h4, dLen_list, List.length_map, ob_some', dUn_not, ogd_bool, oif_bool, dBin_neq, Tm.one, hk]
 by_cases v : (t.kids.length : Int) = kKids t.kind t.pats.length <;> cases namedB (kName t.kind) t.name <;> cases namedB (kArg t.kind) t.arg <;> cases typedB (kA t.kind) t.a <;> cases typedB (kB t.kind) t.b <;> simp [v]
theorem sp_term_right (t : Tm) : t.fit → (run cfg).p F_term_right [t.enc] = some (.bool t.right) := by
 induction t using Tm.ind with
 | h t ih =>
   intro ht
   have hk := big (Nat.le_of_lt ht.one.kids)
   refine call_term_right _ ?_
   have loop := loop_allB (l := t.kids) (f := Tm.right) (P := fun i => P_term_right_4h (run cfg) (.list 20 (t.kids.map Tm.enc)) (.int .i64 t.kids.length) (.int .i64 i))
    (by rw [eq_term_right_4h]; simp)
    (fun i h => by
      rw [eq_term_right_4h]
      simp [h, dIdx_map h, Tm.eta, Tm.ag, ih _ (List.getElem_mem h) (ht.kid (List.getElem_mem h)), dAdd1 (show i < 9223372036854775807 by omega)]
      cases t.kids[i].right <;> rfl)
   rw [eq_term_right, Tm.right_eq]
   simp [Tm.eta, Tm.ag, sp_term_one t ht.one, loop]
   cases t.one <;> simp
theorem Ty.mk_agg (k n : Int) (ks : List Ty) : DV.agg [.int .i64 k, .int .i64 n, .list 3 (ks.map Ty.enc)] = (Ty.mk k n ks).enc := (Ty.enc_eq (.mk k n ks)).symm
theorem sp_l11_Small (ts : List Ty) (hl : ts.length ≤ lim) (h : ∀ t ∈ ts, t.size ≤ lim) : ∃ b : Bool, (run cfg).p F_l11_Small [.list 3 (ts.map Ty.enc)] = some (.bool b) := by
 have hb := big hl
 have loop : ∀ (n j : Nat), j + n = ts.length → ∃ b : Bool, P_l11_Small_2h (run cfg) (.list 3 (ts.map Ty.enc)) (.int .i64 j) = some (.bool b) := by
  intro n
  induction n with
  | zero =>
    intro j hj
    refine ⟨true, ?_⟩
    have : ¬ j < ts.length := by omega
    rw [eq_l11_Small_2h]
    simp [this]
  | succ n ih =>
    intro j hj
    have hj' : j < ts.length := by omega
    obtain ⟨b, hb'⟩ := ih (j + 1) (by omega)
    have hsz := h _ (List.getElem_mem hj')
    have hth := Ty.thin_of_size hsz
    obtain ⟨c, hc⟩ := sp_l03_Heavy1 ts[j] hth
    have hd := sp_r08_Deep ts[j] 60 (by omega) (by omega) hth
    have hv := sp_r03_Vars ts[j] hsz
    push_cast at hb'
    rw [eq_l11_Small_2h]
    cases c
    ·cases hdd : ts[j].deep 60
     ·by_cases hq : (8 : Int) < (ts[j].vars.length : Int)
      ·exact ⟨false, by simp [hj', dIdx_map hj', Ty.eta, Ty.ag, hc, hd, hdd, hv, hq]⟩
      ·exact ⟨b, by simp [hj', dIdx_map hj', Ty.eta, Ty.ag, hc, hd, hdd, hv, hq, dAdd1 (show j < 9223372036854775807 by omega), hb']⟩
     ·exact ⟨false, by simp [hj', dIdx_map hj', Ty.eta, Ty.ag, hc, hd, hdd]⟩
    ·exact ⟨false, by simp [hj', dIdx_map hj', Ty.eta, Ty.ag, hc]⟩
 obtain ⟨b, h1⟩ := loop ts.length 0 (by omega)
 refine ⟨b, call_l11_Small _ ?_⟩
 rw [eq_l11_Small]
 exact h1
theorem e4 : errOk 4 := .inl rfl
def zeroTm : Tm := .mk 0 0 0 nil8 nil8 0 nil8 0 0 false [] (.mk 0 0 []) (.mk 0 0 []) [] [] []
theorem zeroTm_agg : DV.agg [.int .i64 0, .int .i64 0, .int .i64 0, .str ⟨#[]⟩, .str ⟨#[]⟩, .int .i64 0, .str ⟨#[]⟩, .int .i64 0, .int .i64 0, .bool false, .list 1 [], .int .i64 0, .int .i64 0, .list 3 [], .int .i64 0, .int .i64 0, .list 3 [], .list 3 [], .list 7 [], .list 20 []] = zeroTm.enc := by
 rw [Tm.enc_eq]; rfl
def noTy : Ty := .mk 0 0 []
noncomputable def fieldsX (t : Ex) : Ex := .mk t.kind 0 0 (if eName t.kind = true then t.name else nil8) (if eArg t.kind = true then t.arg else nil8) (if eN t.kind = true then t.n else 0) (if eS t.kind = true then t.s else nil8) (if eOp t.kind = true then t.op else 0)
 (if eA t.kind = true then t.a else noTy) (if eB t.kind = true then t.b else noTy) (if t.kind = 14 then t.pats else []) []
def manyX (t : Ex) : Int := if 1 ≤ t.kind ∧ t.kind ≤ 16 then eKids t.kind t.pats.length else -1
def Ex.own4 (t : Ex) : Bool :=
 if t.kind = 1 ∨ t.kind = 9 ∨ t.kind = 11 then nameB t.name else if t.kind = 12 then nameB t.name && nameB t.arg
 else if t.kind = 3 then decide (t.n = 0) || decide (t.n = 1) else if t.kind = 4 then decide (t.s.size ≤ 200)
 else if t.kind = 14 then decide (0 < t.pats.length) else if t.kind = 16 then decide (1 ≤ t.op) && decide (t.op ≤ 7) else true
def Ex.own3 (t : Ex) : Bool := (if t.a.none = true then !decide (t.kind = 15) else t.a.closed) && (if t.b.none = true then true else t.b.closed) && t.own4
noncomputable def Ex.own (t : Ex) : Bool := decide (manyX t = (t.kids.length : Int)) && decide (t.name = (fieldsX t).name) && decide (t.arg = (fieldsX t).arg) && decide (t.n = (fieldsX t).n) && decide (t.s = (fieldsX t).s) && decide (t.op = (fieldsX t).op) && decide (t.pats.length = (fieldsX t).pats.length) &&
 decide (t.a = (fieldsX t).a) && decide (t.b = (fieldsX t).b) && t.own3
end Go.Su

/-
 What the program's functions and the reference's on terms give: types put into a whole term.
-/
namespace Go.Su
set_option linter.unusedVariables false
set_option linter.unusedSimpArgs false
theorem sp_term_Types (t : Tm) (ft : t.fit) (l : Bds) (hl : l.length ≤ lim) (hlt : ∀ e ∈ l, e.2.thin = true) :
 (run cfg).p F_term_Types [t.enc, encBnds l] = some (if t.right = true ∧ rightBinds l = true then .tup [(t.typs l).enc, .int .i64 0] else .tup [zeroTm.enc, .int .i64 1]) := by
 refine call_term_Types _ _ ?_
 rw [eq_term_Types]
 have dl : dLen (encBnds l) = some (.int .i64 l.length) := by simp [encBnds]
 simp only [isAggN_Tm, og_true', tmx3, sp_term_right t ft, ob_some', dUn_not, ogd_bool, zeroTm_agg, sp_term_bindsRight l hl hlt, oif_bool, dl, dBin_eql]
 cases h1 : t.right
 ·simp
 cases h2 : rightBinds l
 ·simp
 by_cases h0 : l = []
 ·subst h0
  simp [Tm.typs_nil]
 ·have h0' : ¬ ((l.length : Int) = 0) := by
   have := List.length_pos_iff.2 h0
   omega
  have hs := sp_term_types t ft h1 l hl h2
  simp only [h0', decide_false, Bool.false_eq_true, if_false, if_true, hs, ob_some', isAggN_Tm, og_true', tmx3, Bool.not_true, and_self]
end Go.Su

/-
 The functions' specs that this claim needs.
-/
namespace Go.Su
set_option linter.unusedVariables false
set_option linter.unusedSimpArgs false
theorem sp_r03_Kids (k : Int) : (run cfg).p F_r03_Kids [.int .i64 k] = some (.int .i64 (arity k)) := by
 refine call_r03_Kids _ ?_
 rw [eq_r03_Kids]
 simp [arity]
 by_cases h1 : k = 1 <;> by_cases h2 : k = 2 <;> by_cases h3 : k = 3 <;> by_cases h4 : k = 4 <;> by_cases h5 : k = 5 <;> by_cases h6 : k = 6 <;> by_cases h7 : k = 7 <;> by_cases h8 : k = 8 <;> by_cases h9 : k = 9 <;> simp_all
theorem sp_r03_Right (t : Ty) : t.thin = true → (run cfg).p F_r03_Right [t.enc] = some (.bool t.right) := by
 induction t using Ty.ind with
 | h t ih =>
   intro ht
   have hb := t.thin_len ht
   refine call_r03_Right _ ?_
   have loop : P_r03_Right_4h (run cfg) (.int .i64 0) t.enc = _ := loop_all (l := t.kids) (f := Ty.right) (P := fun i => P_r03_Right_4h (run cfg) (.int .i64 i) t.enc) (y := .bool true) (n := .bool false)
    (by rw [eq_r03_Right_4h]; simp)
    (fun i h => by
      rw [eq_r03_Right_4h]
      simp [h, dIdx_map h, Ty.eta, Ty.ag, ih _ (List.getElem_mem h) (Ty.thin_kid ht (List.getElem_mem h)), dAdd1 (show i < 9223372036854775807 by omega)]
      cases t.kids[i].right <;> rfl)
   rw [eq_r03_Right]
   simp only [isAggN_Ty, og_true', Ty.proj0, Ty.proj1, Ty.proj2, sp_r03_Kids, ob_some', dLen_list, dBin_neq, dBin_lss, dBin_gtr, ogd_bool, oif_bool, loop, Ty.right_eq t, List.length_map]
   grind
theorem sp_typ_Same (a : Ty) : a.thin = true → ∀ b : Ty, (run cfg).p F_typ_Same [a.enc, b.enc] = some (.bool (decide (a = b))) := by
 induction a using Ty.ind with
 | h a ih =>
   intro ha b
   have hb := a.thin_len ha
   refine call_typ_Same _ _ ?_
   rw [eq_typ_Same]
   simp
   by_cases h1 : a.kind = b.kind <;> simp [h1, Ty.ext_iff']
   by_cases h2 : a.n = b.n <;> simp [h2]
   by_cases h3 : a.kids.length = b.kids.length
   ·have loop := loop_two (l := a.kids) (m := b.kids) h3 (P := fun i => P_typ_Same_4h (run cfg) (.list 3 (a.kids.map Ty.enc)) (.int .i64 a.kids.length) (.int .i64 i) b.enc) (y := .bool true) (n := .bool false)
     (by rw [eq_typ_Same_4h]; simp [h3])
     (fun i h => by
       have h' : i < b.kids.length := by omega
       rw [eq_typ_Same_4h]
       simp [h, h', dIdx_map h, dIdx_map h', Ty.eta, Ty.ag, ih _ (List.getElem_mem h) (Ty.thin_kid ha (List.getElem_mem h)), dAdd1 (show i < 9223372036854775807 by omega)])
    simp only [h3] at loop ⊢
    simp [loop]
    by_cases h4 : a.kids = b.kids <;> simp [h4]
   ·have : a.kids ≠ b.kids := fun h => h3 (by rw [h])
    simp [Int.ofNat_inj, h3, this]
theorem sp_r03_Same (a : Ty) : a.thin = true → ∀ b : Ty, (run cfg).p F_r03_Same [a.enc, b.enc] = some (.bool (decide (a = b))) := by
 induction a using Ty.ind with
 | h a ih =>
   intro ha b
   have hb := a.thin_len ha
   refine call_r03_Same _ _ ?_
   rw [eq_r03_Same]
   simp
   by_cases h1 : a.kind = b.kind <;> simp [h1, Ty.ext_iff']
   by_cases h2 : a.n = b.n <;> simp [h2]
   by_cases h3 : a.kids.length = b.kids.length
   ·have loop := loop_two (l := a.kids) (m := b.kids) h3 (P := fun i => P_r03_Same_4h (run cfg) (.int .i64 i) a.enc b.enc) (y := .bool true) (n := .bool false)
     (by rw [eq_r03_Same_4h]; simp [h3])
     (fun i h => by
       have h' : i < b.kids.length := by omega
       rw [eq_r03_Same_4h]
       simp [h, h', dIdx_map h, dIdx_map h', Ty.eta, Ty.ag, ih _ (List.getElem_mem h) (Ty.thin_kid ha (List.getElem_mem h)), dAdd1 (show i < 9223372036854775807 by omega)])
    simp only [h3] at loop ⊢
    simp [loop]
    by_cases h4 : a.kids = b.kids <;> simp [h4]
   ·have : a.kids ≠ b.kids := fun h => h3 (by rw [h])
    simp [Int.ofNat_inj, h3, this]
theorem sp_keep_Same (a : Ty) : a.thin = true → ∀ b : Ty, (run cfg).p F_keep_Same [a.enc, b.enc] = some (.bool (decide (a = b))) := by
 induction a using Ty.ind with
 | h a ih =>
   intro ha b
   have hb := a.thin_len ha
   refine call_keep_Same _ _ ?_
   rw [eq_keep_Same]
   simp
   by_cases h1 : a.kind = b.kind <;> simp [h1, Ty.ext_iff']
   by_cases h2 : a.n = b.n <;> simp [h2]
   by_cases h3 : a.kids.length = b.kids.length
   ·have loop := loop_two (l := a.kids) (m := b.kids) h3 (P := fun i => P_keep_Same_4h (run cfg) (.int .i64 i) a.enc b.enc) (y := .bool true) (n := .bool false)
     (by rw [eq_keep_Same_4h]; simp [h3])
     (fun i h => by
       have h' : i < b.kids.length := by omega
       rw [eq_keep_Same_4h]
       simp [h, h', dIdx_map h, dIdx_map h', Ty.eta, Ty.ag, ih _ (List.getElem_mem h) (Ty.thin_kid ha (List.getElem_mem h)), dAdd1 (show i < 9223372036854775807 by omega)])
    simp only [h3] at loop ⊢
    simp [loop]
    by_cases h4 : a.kids = b.kids <;> simp [h4]
   ·have : a.kids ≠ b.kids := fun h => h3 (by rw [h])
    simp [Int.ofNat_inj, h3, this]
theorem sp_r03_SameAll (a b : List Ty) (hl : a.length ≤ lim) (ha : ∀ t ∈ a, t.thin = true) : (run cfg).p F_r03_SameAll [.list 3 (a.map Ty.enc), .list 3 (b.map Ty.enc)] = some (.bool (decide (a = b))) := by
 have hb := big hl
 refine call_r03_SameAll _ _ ?_
 rw [eq_r03_SameAll]
 simp
 by_cases h3 : a.length = b.length
 ·have loop := loop_two (l := a) (m := b) h3 (P := fun i => P_r03_SameAll_4h (run cfg) (.list 3 (a.map Ty.enc)) (.list 3 (b.map Ty.enc)) (.int .i64 i)) (y := .bool true) (n := .bool false)
   (by rw [eq_r03_SameAll_4h]; simp [h3])
   (fun i h => by
     have h' : i < b.length := by omega
     rw [eq_r03_SameAll_4h]
     simp [h, h', dIdx_map h, dIdx_map h', Ty.eta, Ty.ag, sp_r03_Same _ (ha _ (List.getElem_mem h)), dAdd1 (show i < 9223372036854775807 by omega)])
  simp only [h3] at loop ⊢
  simp [loop]
  by_cases h4 : a = b <;> simp [h4]
 ·have : a ≠ b := fun h => h3 (by rw [h])
  simp [Int.ofNat_inj, h3, this]
theorem sp_typ_without (q : Int) (t : Ty) : t.thin = true → (run cfg).p F_typ_without [t.enc, .int .i64 q] = some (.bool (t.without q)) := by
 induction t using Ty.ind with
 | h t ih =>
   intro ht
   have hb := t.thin_len ht
   refine call_typ_without _ _ ?_
   have loop : P_typ_without_4h (run cfg) (.int .i64 q) (.list 3 (t.kids.map Ty.enc)) (.int .i64 t.kids.length) (.int .i64 0) = _ := loop_allB (l := t.kids) (f := Ty.without q) (P := fun i => P_typ_without_4h (run cfg) (.int .i64 q) (.list 3 (t.kids.map Ty.enc)) (.int .i64 t.kids.length) (.int .i64 i))
    (by rw [eq_typ_without_4h]; simp)
    (fun i h => by
      rw [eq_typ_without_4h]
      simp [h, dIdx_map h, Ty.eta, Ty.ag, ih _ (List.getElem_mem h) (Ty.thin_kid ht (List.getElem_mem h)), dAdd1 (show i < 9223372036854775807 by omega)]
      cases (t.kids[i].without q) <;> rfl)
   rw [eq_typ_without]
   simp only [loop, isAggN_Ty, og_true', Ty.proj0, Ty.proj2, ob_some', dLen_list, dBin_eql, oif_bool, List.length_map, Ty.without_eq q t]
   by_cases h1 : t.kind = q <;> simp [h1]
theorem sp_r03_Without (q : Int) (t : Ty) : t.thin = true → (run cfg).p F_r03_Without [t.enc, .int .i64 q] = some (.bool (t.without q)) := by
 induction t using Ty.ind with
 | h t ih =>
   intro ht
   have hb := t.thin_len ht
   refine call_r03_Without _ _ ?_
   have loop : P_r03_Without_4h (run cfg) (.int .i64 q) (.int .i64 0) t.enc = _ := loop_allB (l := t.kids) (f := Ty.without q) (P := fun i => P_r03_Without_4h (run cfg) (.int .i64 q) (.int .i64 i) t.enc)
    (by rw [eq_r03_Without_4h]; simp)
    (fun i h => by
      rw [eq_r03_Without_4h]
      simp [h, dIdx_map h, Ty.eta, Ty.ag, ih _ (List.getElem_mem h) (Ty.thin_kid ht (List.getElem_mem h)), dAdd1 (show i < 9223372036854775807 by omega)]
      cases (t.kids[i].without q) <;> rfl)
   rw [eq_r03_Without]
   simp only [loop, isAggN_Ty, og_true', Ty.proj0, Ty.proj2, ob_some', dLen_list, dBin_eql, oif_bool, List.length_map, Ty.without_eq q t]
   by_cases h1 : t.kind = q <;> simp [h1]
theorem sp_typ_Closed (t : Ty) (ht : t.thin = true) : (run cfg).p F_typ_Closed [t.enc] = some (.bool (t.without 6)) := by
 refine call_typ_Closed _ ?_
 rw [eq_typ_Closed]
 simp [Ty.eta, Ty.ag, sp_typ_without 6 t ht]
theorem sp_r03_Leaf (k : Int) : (run cfg).p F_r03_Leaf [.int .i64 k] = some (Ty.mk k 0 []).enc := by
 refine call_r03_Leaf _ ?_
 rw [eq_r03_Leaf]
 simp [Ty.enc]
theorem sp_r01_lower (c : Int) : (run cfg).p F_r01_lower [.int .u8 c] = some (.bool (lowerB c)) := by
 refine call_r01_lower _ ?_
 rw [eq_r01_lower]
 simp only [dBin_geq, dBin_leq, ob_some', ogd_bool, decide_eq_true_eq, lowerB]
 by_cases h1 : 97 ≤ c <;> simp [h1]
theorem sp_r01_digit (c : Int) : (run cfg).p F_r01_digit [.int .u8 c] = some (.bool (digitB c)) := by
 refine call_r01_digit _ ?_
 rw [eq_r01_digit]
 simp only [dBin_geq, dBin_leq, ob_some', ogd_bool, decide_eq_true_eq, digitB]
 by_cases h1 : 48 ≤ c <;> simp [h1]
theorem sp_r01_part (c : Int) : (run cfg).p F_r01_part [.int .u8 c] = some (.bool (partB c)) := by
 refine call_r01_part _ ?_
 rw [eq_r01_part]
 simp only [dBin_geq, dBin_leq, dBin_eql, ob_some', ogd_bool, decide_eq_true_eq, sp_r01_lower, sp_r01_digit, partB]
 by_cases h1 : lowerB c = true <;> by_cases h2 : digitB c = true <;> by_cases h3 : 65 ≤ c <;> by_cases h4 : c ≤ 90 <;> by_cases h7 : c = 95 <;> simp [h1, h2, h3, h4, h7]
open Classical in
theorem sp_r01_Key (s : ByteArray) (hs : s.size ≤ 4294967000) : (run cfg).p F_r01_Key [.str s] = some (.bool (keyB s)) := by
 have hb : (bts s).length ≤ 4294967000 := by rw [bts_len]; exact hs
 refine call_r01_Key _ ?_
 rw [eq_r01_Key]
 let t : ByteArray := ⟨#[32]⟩ ++ s ++ ⟨#[32]⟩
 have tl : t.data.toList = 32 :: s.data.toList ++ [32] := by simp [t]
 have ts : t.size = s.size + 2 := by
  have := congrArg List.length tl
  simp only [Array.length_toList, List.length_append, List.length_cons, List.length_nil] at this
  have e1 : t.size = t.data.size := rfl
  have e2 : s.size = s.data.size := rfl
  omega
 have search : ∀ (k i : Nat), i + k = 82 → P_r01_Key_8h (run cfg) (.str s) (.str t) (.int .i64 i) = some (.bool (decide (0 < s.size ∧ ∃ j, i ≤ j ∧ j + t.size ≤ 81 ∧ (wordsL.drop j).take t.size = t.data.toList))) := by
  intro k
  induction k with
  | zero =>
    intro i hi
    rw [eq_r01_Key_8h]
    simp only [dLenS_str, ob_some']
    rw [dAdd (by omega) (by omega)]
    have : ¬ ((i : Int) + (t.size : Int) ≤ 81) := by omega
    have h2 : ¬ (0 < s.size ∧ ∃ j, i ≤ j ∧ j + t.size ≤ 81 ∧ (wordsL.drop j).take t.size = t.data.toList) := by rintro ⟨-, j, h1, h2, -⟩; omega
    simp [this, h2]
  | succ k ih =>
    intro i hi
    rw [eq_r01_Key_8h]
    simp only [dLenS_str, ob_some']
    rw [dAdd (by omega) (by omega)]
    by_cases h1 : (i : Int) + (t.size : Int) ≤ 81
    ·have h1' : i + t.size ≤ 81 := by omega
     have nx := ih (i + 1) (by omega)
     simp only [dBin_leq, h1, decide_true, ob_some', oif_bool, if_true, dBin_gtr, ogd_bool, decide_eq_true_eq]
     rw [show ((i + 1 : Nat) : Int) = (i : Int) + 1 by omega] at nx
     by_cases h0 : (0 : Int) < (s.size : Int)
     ·have h0' : 0 < s.size := by omega
      have ext : ∀ w : ByteArray, w.data.toList = wordsL → dSliceS (.str w) (some (.int .i64 (i : Int))) (some (.int .i64 ((i : Int) + (t.size : Int)))) = some (.str (w.extract i (i + t.size))) := by
       intro w hw
       have hwl : w.size = 81 := by
        have := congrArg List.length hw
        rw [words_len] at this
        simpa using this
       have e1 : ((i : Int) + (t.size : Int)).toNat = i + t.size := by omega
       simp only [dSliceS, bnd, ob_some', e1, show (0 : Int) ≤ (i : Int) + (t.size : Int) by omega, if_true, Int.natCast_nonneg, Int.toNat_natCast, hwl]
       rw [if_pos (by omega)]
      simp only [h0, if_true]
      rw [ext _ rfl]
      simp only [ob_some', dBin_seql, oif_bool, decide_eq_true_eq]
      rw [dAdd1 (by omega)]
      simp only [ob_some']
      rw [show ((i + 1 : Nat) : Int) = (i : Int) + 1 by omega, nx]
      have exl : ∀ w : ByteArray, w.data.toList = wordsL → ((w.extract i (i + t.size) = t) ↔ (wordsL.drop i).take t.size = t.data.toList) := by
       intro w hw
       have e : (w.extract i (i + t.size)).data.toList = (wordsL.drop i).take t.size := by
        rw [ByteArray.data_extract, Array.toList_extract, hw, List.extract_eq_take_drop]
        congr 1
        omega
       rw [← e]
       constructor
       ·intro h; rw [h]
       ·intro h
        cases hx : w.extract i (i + t.size)
        rw [hx] at h
        cases ht : t
        rw [ht] at h
        simp only [ByteArray.mk.injEq]
        exact Array.ext' h
      by_cases h2 : (wordsL.drop i).take t.size = t.data.toList
      ·rw [if_pos ((exl _ rfl).2 h2)]
       have : (0 < s.size ∧ ∃ j, i ≤ j ∧ j + t.size ≤ 81 ∧ (wordsL.drop j).take t.size = t.data.toList) := ⟨h0', i, Nat.le_refl _, h1', h2⟩
       simp [this]
      ·rw [if_neg (fun h => h2 ((exl _ rfl).1 h))]
       congr 2
       rw [Bool.eq_iff_iff]
       simp only [decide_eq_true_eq]
       constructor
       ·rintro ⟨a, j, b, c⟩; exact ⟨a, j, by omega, c⟩
       ·rintro ⟨a, j, b, c, d⟩
        refine ⟨a, j, ?_, c, d⟩
        rcases Nat.lt_or_ge i j with h | h
        ·exact h
        ·exact absurd (by rw [show i = j by omega]; exact d) h2
     ·have : ¬ (0 < s.size ∧ ∃ j, i ≤ j ∧ j + t.size ≤ 81 ∧ (wordsL.drop j).take t.size = t.data.toList) := fun h => h0 (by have := h.1; omega)
      have this' : ¬ (0 < s.size ∧ ∃ j, i + 1 ≤ j ∧ j + t.size ≤ 81 ∧ (wordsL.drop j).take t.size = t.data.toList) := fun h => h0 (by have := h.1; omega)
      simp only [h0, if_false]
      rw [dAdd1 (by omega)]
      simp only [ob_some']
      rw [show ((i + 1 : Nat) : Int) = (i : Int) + 1 by omega, nx]
      simp [this, this']
    ·have h2 : ¬ (0 < s.size ∧ ∃ j, i ≤ j ∧ j + t.size ≤ 81 ∧ (wordsL.drop j).take t.size = t.data.toList) := by rintro ⟨-, j, h3, h4, -⟩; omega
     simp [h1, h2]
 have fin : (s.data.toList.all low8 = true ∧ 0 < s.size ∧ ∃ j, 0 ≤ j ∧ j + t.size ≤ 81 ∧ (wordsL.drop j).take t.size = t.data.toList) ↔ s.data.toList ∈ keyL := by
  rw [← words_key]
  have e2 : s.data.toList.length = s.size := by simp
  rw [e2, ts, tl]
  simp
 have low : ∀ b : UInt8, lowerB (b.toNat : Int) = low8 b := by
  intro b
  simp only [lowerB, low8, UInt8.le_iff_toNat_le]
  rw [Bool.eq_iff_iff]
  simp only [Bool.and_eq_true, decide_eq_true_eq]
  have h1 : (97 : UInt8).toNat = 97 := rfl
  have h2 : (122 : UInt8).toNat = 122 := rfl
  rw [h1, h2]
  omega
 have loop : ∀ (k i : Nat), i + k = (bts s).length → P_r01_Key_2h (run cfg) (.str s) (.int .i64 i) = some (.bool (decide (((bts s).drop i).all lowerB = true ∧ 0 < s.size ∧ ∃ j, 0 ≤ j ∧ j + t.size ≤ 81 ∧ (wordsL.drop j).take t.size = t.data.toList))) := by
  intro k
  induction k with
  | zero =>
    intro i hi
    rw [eq_r01_Key_2h]
    have hlt : ¬ (i : Int) < (s.size : Int) := by rw [← bts_len]; omega
    have e1 : dBin .add (.str ⟨#[32]⟩) (.str s) = some (.str (⟨#[32]⟩ ++ s)) := by
     simp only [dBin, dStrOp]
     rw [if_pos]
     have : (⟨#[32]⟩ : ByteArray).size = 1 := rfl
     unfold lim; omega
    have e2 : dBin .add (.str (⟨#[32]⟩ ++ s)) (.str ⟨#[32]⟩) = some (.str t) := by
     simp only [dBin, dStrOp]
     rw [if_pos]
     have h1 : (⟨#[32]⟩ : ByteArray).size = 1 := rfl
     have h2 : (⟨#[32]⟩ ++ s : ByteArray).size = s.size + 1 := by
      have := ByteArray.size_append (a := ⟨#[32]⟩) (b := s)
      omega
     unfold lim; omega
    have := search 82 0 rfl
    simp only [Int.natCast_zero, Int.ofNat_zero, Int.cast_ofNat_Int] at this
    simp only [dLenS_str, ob_some', dBin_lss, hlt, decide_false, oif_bool, Bool.false_eq_true, if_false, e1, e2, List.drop_of_length_le (show (bts s).length ≤ i by omega), List.all_nil, true_and]
    exact this
  | succ k ih =>
    intro i hi
    have h : i < (bts s).length := by omega
    rw [eq_r01_Key_2h]
    have := ih (i + 1) (by omega)
    push_cast at this
    have hlt : (i : Int) < (s.size : Int) := by rw [← bts_len]; omega
    rw [List.drop_eq_getElem_cons h, List.all_cons]
    simp only [dLenS_str, ob_some', dBin_lss, hlt, decide_true, oif_bool, if_true, dStr_idx h, sp_r01_lower, dUn_not, dAdd1 (show i < 9223372036854775807 by omega)]
    push_cast
    rw [this]
    cases lowerB (bts s)[i] <;> simp
 have l0 := loop (bts s).length 0 (by omega)
 simp only [Int.natCast_zero, Int.ofNat_zero, Int.cast_ofNat_Int] at l0
 have e3 : (bts s).all lowerB = s.data.toList.all low8 := by
  simp only [bts, List.all_map]
  congr 1
  funext b
  exact low b
 refine l0.trans ?_
 rw [List.drop_zero, e3]
 simp only [fin, keyB]
theorem sp_r01_Name (s : ByteArray) (hs : s.size ≤ 4294967000) : (run cfg).p F_r01_Name [.str s] = some (.bool (nameB s)) := by
 have hb := str_big (s := s) (by unfold lim; omega)
 refine call_r01_Name _ ?_
 rw [eq_r01_Name]
 have h32 : dBin .gtr (.int .i64 (s.size : Int)) (.int .i64 32) = some (.bool (decide (32 < s.size))) := by
  rw [dBin_gtr]; congr 2; rw [decide_eq_decide]; omega
 simp only [dLenS_str, ob_some', dBin_lss, h32, ogd_bool, oif_bool, decide_eq_true_eq, nameB]
 by_cases h1 : (s.size : Int) < 1
 ·have : ¬ (1 ≤ s.size) := by omega
  simp [h1, this]
 ·by_cases h2 : 32 < s.size
  ·have : ¬ (s.size ≤ 32) := by omega
   simp [h1, h2, this]
  ·have h0 : 0 < (bts s).length := by rw [bts_len]; omega
   have loop : ∀ (k i : Nat), i + k = (bts s).length → P_r01_Name_4h (run cfg) (.str s) (.int .i64 i) = some (.bool (((bts s).drop i).all partB && !keyB s)) := by
    intro k
    induction k with
    | zero =>
      intro i hi
      rw [eq_r01_Name_4h]
      have hlt : ¬ (i : Int) < (s.size : Int) := by rw [← bts_len]; omega
      simp [hlt, List.drop_of_length_le (show (bts s).length ≤ i by omega), sp_r01_Key s hs]
    | succ k ih =>
      intro i hi
      have h : i < (bts s).length := by omega
      rw [eq_r01_Name_4h]
      have := ih (i + 1) (by omega)
      push_cast at this
      have hlt : (i : Int) < (s.size : Int) := by rw [← bts_len]; omega
      rw [List.drop_eq_getElem_cons h, List.all_cons]
      simp only [dLenS_str, ob_some', dBin_lss, hlt, decide_true, oif_bool, if_true, dStr_idx h, sp_r01_part, dUn_not, dAdd1 (show i < 9223372036854775807 by omega)]
      push_cast
      rw [this]
      cases partB (bts s)[i] <;> rfl
   have l0 := loop (bts s).length 0 (by omega)
   simp only [Int.natCast_zero, Int.ofNat_zero, Int.cast_ofNat_Int, List.drop_zero] at l0
   have g0 : (bts s).getD 0 0 = (bts s)[0] := by simp [List.getD_eq_getElem?_getD, h0]
   have e0' : dStrIdx (.str s) (.int .i64 0) = some (.int .u8 (bts s)[0]) := dStr_idx (s := s) (k := .i64) h0
   have a1 : (1 ≤ s.size) := by omega
   have a2 : (s.size ≤ 32) := by omega
   simp only [h1, h2, if_false, e0', ob_some', sp_r01_lower, dUn_not, oif_bool, g0, a1, a2, decide_true, Bool.true_and, l0]
   cases lowerB (bts s)[0] <;> simp
theorem sp_r05_pat (p : Pat) : p.thin = true → p.txt → (run cfg).p F_r05_pat [p.enc] = some (.bool p.pat) := by
 induction p using Pat.ind with
 | h p ih =>
   intro ht hx
   have hb := p.thin_len ht
   obtain ⟨hn, hs⟩ := hx p p.self_sub
   have loop : P_r05_pat_28h (run cfg) (.int .i64 p.kids.length) (.int .i64 0) p.enc = some (.bool (p.kids.all Pat.pat)) :=
    loop_allB (l := p.kids) (f := Pat.pat) (P := fun i => P_r05_pat_28h (run cfg) (.int .i64 p.kids.length) (.int .i64 i) p.enc)
     (by rw [eq_r05_pat_28h]; simp)
     (fun i h => by
       rw [eq_r05_pat_28h]
       simp [h, dIdx_map h, Pat.eta, Pat.ag, ih _ (List.getElem_mem h) (Pat.thin_kid ht (List.getElem_mem h)) (Pat.txt_kid hx (List.getElem_mem h)), dAdd1 (show i < 9223372036854775807 by omega)]
       cases p.kids[i].pat <;> rfl)
   have h25 : ∀ (t4 : Int) (a : DV) (nm : ByteArray) (n : Int) (s : ByteArray), P_r05_pat_25 (run cfg) (.int .i64 t4) p.enc a (.str nm) (.int .i64 n) (.str s) =
    some (.bool ((decide ((p.kids.length : Int) = t4) && decide (p.name = nm) && decide (p.n = n) && decide (p.s = s)) && p.kids.all Pat.pat)) := by
    intro t4 a nm n s
    rw [eq_r05_pat_25]
    simp only [Pat.proj6, Pat.proj3, Pat.proj4, Pat.proj5, dLen_list, List.length_map, ob_some', dBin_neq, dBin_sneq, ogd_bool, oif_bool, decide_eq_true_eq]
    by_cases h1 : (p.kids.length : Int) = t4 <;> by_cases h2 : p.name = nm <;> by_cases h3 : p.n = n <;> by_cases h4 : p.s = s <;> simp [h1, h2, h3, h4]
    rw [← h1]
    rw [loop]
   refine call_r05_pat _ ?_
   rw [eq_r05_pat]
   have hs' : dBin .gtr (.int .i64 (p.s.size : Int)) (.int .i64 200) = some (.bool (decide (200 < p.s.size))) := by
    rw [dBin_gtr]; congr 2; rw [decide_eq_decide]; omega
   simp only [isAggN_Pat, og_true', Pat.pj, isCell_int, isCell_str, isCell_list, dBin_eql, dBin_neq, dBin_lss, dBin_gtr, ob_some', oif_bool, ogd_bool, sp_r01_Name p.name hn, dUn_not, dLenS_str, h25, nil_str]
   rw [Pat.pat_eq]
   unfold Pat.one
   by_cases k1 : p.kind = 1
   ·simp [k1]
   by_cases k6 : p.kind = 6
   ·simp [k6]
   by_cases k8 : p.kind = 8
   ·simp [k8]
   by_cases k2 : p.kind = 2
   ·cases hnm : nameB p.name <;> simp [k2, hnm]
   by_cases k3 : p.kind = 3
   ·simp [k3]
   by_cases k4 : p.kind = 4
   ·by_cases n0 : p.n < 0
    ·have h1 : ¬ (p.n = 0 ∨ p.n = 1) := by omega
     simp [k4, n0, h1]
    ·by_cases n1 : 1 < p.n
     ·have h1 : ¬ (p.n = 0 ∨ p.n = 1) := by omega
      simp [k4, n0, n1, h1]
     ·have h1 : (p.n = 0 ∨ p.n = 1) := by omega
      simp [k4, n0, n1, h1]
   by_cases k5 : p.kind = 5
   ·by_cases h : (200 : Int) < (p.s.size : Int)
    ·have : ¬ p.s.size ≤ 200 := by omega
     simp [k5, h, this]
    ·have : p.s.size ≤ 200 := by omega
     simp [k5, h, this]
   by_cases k7 : p.kind = 7
   ·simp [k7]
    have : ((p.kids.length : Int) = 2) ↔ (p.kids.length = 2) := by omega
    simp [this]
   by_cases k9 : p.kind = 9
   ·simp [k9]
    have : ((p.kids.length : Int) = 2) ↔ (p.kids.length = 2) := by omega
    simp [this]
   simp [k1, k2, k3, k4, k5, k6, k7, k8, k9]
theorem sp_r05_names (t : Pat) : ∀ (l : List ByteArray) (sg : List SObj), l.length + t.size ≤ lim → (run cfg).r F_r05_names [(t.enc, .val), (encStrs l, .own)] sg = some ([encStrs (t.namesOn l)], sg) := by
 induction t using Pat.ind with
 | h t ih =>
   intro l sg hl
   have hb := Pat.thin_len _ (Pat.thin_of_size (show t.size ≤ lim by omega))
   have hB := big hl
   refine call_r05_names _ _ _ ?_
   have loop : ∀ l : List ByteArray, l.length + (t.kids.map Pat.size).sum ≤ lim → P_r05_names_4h (run cfg) (encStrs l) (.int .i64 0) t.enc sg = some ([encStrs (t.kids.foldl (fun l k => k.namesOn l) l)], sg) :=
    loop_fold (l := t.kids) (P := fun i (a : List ByteArray) => P_r05_names_4h (run cfg) (encStrs a) (.int .i64 i) t.enc sg) (g := fun a k => k.namesOn a) (fin := fun a => some ([encStrs a], sg))
     (I := fun i a => a.length + ((t.kids.drop i).map Pat.size).sum ≤ lim)
     (fun a _ => by rw [eq_r05_names_4h]; simp)
     (fun i h a ha => by
       rw [List.drop_eq_getElem_cons h, List.map_cons, List.sum_cons] at ha
       have h1 := Pat.namesOn_len t.kids[i] a
       refine ⟨?_, by omega⟩
       rw [eq_r05_names_4h]
       simp [h, dIdx_map h, Pat.eta, Pat.ag, ih _ (List.getElem_mem h) a sg (by omega), dAdd1 (show i < 9223372036854775807 by omega)])
   have hsz := Pat.size_eq t
   rw [eq_r05_names, Pat.namesOn_eq]
   simp
   by_cases h6 : t.kind = 2
   ·simp [h6]
    rw [show encStrs l = .list 1 (l.map fun n => .str n) from rfl, dApp_list (by simp; omega)]
    have := loop (l ++ [t.name]) (by simp; omega)
    simpa [encStrs] using this
   ·simp [h6, loop l (by omega)]
theorem sp_r05_Names (t : Pat) (ht : t.size ≤ lim) : (run cfg).p F_r05_Names [t.enc] = some (encStrs t.names) := by
 refine call_r05_Names _ ?_
 rw [eq_r05_Names]
 have := sp_r05_names t [] [] (by simpa using ht)
 have e : encStrs [] = .list 1 [] := rfl
 rw [e] at this
 simp [Pat.eta, Pat.ag, this, Pat.names]
theorem sp_r05_Has (l : List ByteArray) (hl : l.length ≤ lim) (n : ByteArray) : (run cfg).p F_r05_Has [encStrs l, .str n] = some (.bool (hasS l n)) := by
 have hb := big hl
 refine call_r05_Has _ _ ?_
 rw [eq_r05_Has]
 have loop := loop_anyB (l := l) (f := fun x => decide (x = n)) (P := fun i => P_r05_Has_2h (run cfg) (encStrs l) (.str n) (.int .i64 i))
  (by rw [eq_r05_Has_2h]; simp)
  (fun i h => by
    rw [eq_r05_Has_2h]
    simp [h, dIdx_strs h, dAdd1 (show i < 9223372036854775807 by omega)])
 exact loop
theorem dSlice_pre {α : Type} {e : α → DV} {l : List α} {i : Nat} (h : i ≤ l.length) (sz : Nat) : dSlice sz (.list sz (l.map e)) none (some (.int .i64 (i : Int))) = some (.list sz ((l.take i).map e)) := by
 simp [dSlice, bnd, h, List.map_take]
theorem nodup_scan {α : Type} [DecidableEq α] (l : List α) : (∀ (i : Nat) (h : i < l.length), l[i] ∉ l.take i) ↔ l.Nodup := by
 constructor
 ·intro h
  rw [List.nodup_iff_pairwise_ne, List.pairwise_iff_getElem]
  intro i j hi hj hij he
  exact h j hj (by rw [← he]; exact List.mem_take_iff_getElem.2 ⟨i, by omega, rfl⟩)
 ·intro h i hi hm
  obtain ⟨j, hj, he⟩ := List.mem_take_iff_getElem.1 hm
  rw [List.nodup_iff_pairwise_ne, List.pairwise_iff_getElem] at h
  exact h j i (by omega) hi (by omega) he
open Classical in
theorem sp_r05_RightPat (p : Pat) (ht : p.size ≤ lim) (hx : p.txt) : (run cfg).p F_r05_RightPat [p.enc] = some (.bool p.right) := by
 refine call_r05_RightPat _ ?_
 rw [eq_r05_RightPat]
 have hnl : p.names.length ≤ lim := by have := Pat.namesOn_len p []; simp at this; unfold Pat.names; omega
 have hb := big hnl
 simp [Pat.eta, Pat.ag, sp_r05_pat p (Pat.thin_of_size ht) hx, sp_r05_Names p ht, Pat.right]
 cases hp : p.pat
 ·simp
 ·simp
  have loop : ∀ (k i : Nat), i + k = p.names.length → P_r05_RightPat_5h (run cfg) (encStrs p.names) (.int .i64 i) = some (.bool (decide (∀ j (h : j < p.names.length), i ≤ j → p.names[j] ∉ p.names.take j))) := by
   intro k
   induction k with
   | zero =>
     intro i hi
     rw [eq_r05_RightPat_5h]
     have : ¬ i < p.names.length := by omega
     have h2 : ∀ j (h : j < p.names.length), i ≤ j → p.names[j] ∉ p.names.take j := fun j h h' => by omega
     simp [this]
     exact h2
   | succ k ih =>
     intro i hi
     have h : i < p.names.length := by omega
     have nx := ih (i + 1) (by omega)
     push_cast at nx
     rw [eq_r05_RightPat_5h]
     have sl : dSlice 1 (encStrs p.names) none (some (.int .i64 (i : Int))) = some (encStrs (p.names.take i)) := dSlice_pre (by omega) 1
     simp [h, sl, dIdx_strs h, sp_r05_Has (p.names.take i) (by simp; omega), dAdd1 (show i < 9223372036854775807 by omega), nx]
     by_cases hm : p.names[i] ∈ p.names.take i
     ·simp only [hasS_iff.2 hm, if_true]
      congr 2
      symm
      rw [decide_eq_false_iff_not]
      exact fun hh => hh i h (Nat.le_refl _) hm
     ·have hm' : ¬ (hasS (p.names.take i) p.names[i] = true) := fun h => hm (hasS_iff.1 h)
      have hm'' : hasS (p.names.take i) p.names[i] = false := by simpa using hm'
      simp only [hm'', Bool.false_eq_true, if_false]
      congr 2
      rw [decide_eq_decide]
      constructor
      ·intro hh j hj hij
       rcases Nat.lt_or_ge i j with h1 | h1
       ·exact hh j hj h1
       ·have : i = j := by omega
        subst this
        exact hm
      ·intro hh j hj hij
       exact hh j hj (by omega)
  have l0 := loop p.names.length 0 (by omega)
  simp only [Int.natCast_zero, Int.ofNat_zero, Int.cast_ofNat_Int] at l0
  rw [l0]
  congr 2
  rw [decide_eq_decide, ← nodup_scan]
  simp
theorem ite_andS (a b : Bool) : (if a = true then some (DV.bool b) else some (DV.bool false)) = some (DV.bool (a && b)) := by cases a <;> rfl
theorem sp_r05_SamePat (a : Pat) : a.thin = true → ∀ b : Pat, (run cfg).p F_r05_SamePat [a.enc, b.enc] = some (.bool (decide (a.bare = b.bare))) := by
 induction a using Pat.ind with
 | h a ih =>
   intro ha b
   have hb := a.thin_len ha
   refine call_r05_SamePat _ _ ?_
   rw [eq_r05_SamePat]
   simp
   by_cases h1 : a.kind = b.kind <;> simp [h1, Pat.ext_iff']
   by_cases h2 : a.name = b.name <;> simp [h2]
   by_cases h3 : a.n = b.n <;> simp [h3]
   by_cases h4 : a.s = b.s <;> simp [h4]
   by_cases h5 : a.kids.length = b.kids.length
   ·have loop := loop_twoB (l := a.kids.map Pat.bare) (m := b.kids.map Pat.bare) (by simpa using h5) (P := fun i => P_r05_SamePat_4h (run cfg) (.int .i64 i) a.enc b.enc)
     (by rw [eq_r05_SamePat_4h]; simp [h5])
     (fun i h => by
       have h : i < a.kids.length := by simpa using h
       have h' : i < b.kids.length := by omega
       rw [eq_r05_SamePat_4h]
       simp [h, h', dIdx_map h, dIdx_map h', Pat.eta, Pat.ag, ih _ (List.getElem_mem h) (Pat.thin_kid ha (List.getElem_mem h)), dAdd1 (show i < 9223372036854775807 by omega)])
    simp only [List.length_map, h5] at loop ⊢
    simp [loop]
   ·have : a.kids.map Pat.bare ≠ b.kids.map Pat.bare := fun h => h5 (by have := congrArg List.length h; simpa using this)
    simp [Int.ofNat_inj, h5, this]
theorem sp_r05_patAt (a : Pat) : a.thin = true → ∀ b : Pat, a.bare = b.bare → (run cfg).p F_r05_patAt [a.enc, b.enc] = some (.bool (decide (a = b))) := by
 induction a using Pat.ind with
 | h a ih =>
   intro ha b he
   have hb := a.thin_len ha
   rw [Pat.ext_iff'] at he
   simp at he
   obtain ⟨e1, e2, e3, e4, e5⟩ := he
   have h5 : a.kids.length = b.kids.length := by have := congrArg List.length e5; simpa using this
   refine call_r05_patAt _ _ ?_
   rw [eq_r05_patAt]
   simp [Pat.ext_iff', e1, e2, e3, e4]
   by_cases h1 : a.lo = b.lo <;> simp [h1]
   by_cases h2 : a.hi = b.hi <;> simp [h2]
   have loop := loop_twoB (l := a.kids) (m := b.kids) h5 (P := fun i => P_r05_patAt_4h (run cfg) (.int .i64 i) a.enc b.enc)
    (by rw [eq_r05_patAt_4h]; simp [h5])
    (fun i h => by
      have h' : i < b.kids.length := by omega
      have e6 : a.kids[i].bare = b.kids[i].bare := by
       have : (a.kids.map Pat.bare)[i]'(by simpa using h) = (b.kids.map Pat.bare)[i]'(by simpa using h') := by simp only [e5]
       simpa using this
      rw [eq_r05_patAt_4h]
      simp [h, h', dIdx_map h, dIdx_map h', Pat.eta, Pat.ag, ih _ (List.getElem_mem h) (Pat.thin_kid ha (List.getElem_mem h)) _ e6, dAdd1 (show i < 9223372036854775807 by omega)])
   simp [loop]
theorem sp_r05_Same (a : Ex) : a.fit → ∀ b : Ex, (run cfg).p F_r05_Same [a.enc, b.enc] = some (.bool (decide (a.bare = b.bare))) := by
 induction a using Ex.ind with
 | h a ih =>
   intro ha b
   have hk := big (Nat.le_of_lt ha.one.kids)
   have hp := big (Nat.le_of_lt ha.one.pats)
   refine call_r05_Same _ _ ?_
   rw [eq_r05_Same]
   simp
   by_cases h1 : a.kind = b.kind <;> simp [h1, Ex.ext_iff']
   by_cases h2 : a.name = b.name <;> simp [h2]
   by_cases h3 : a.arg = b.arg <;> simp [h3]
   by_cases h4 : a.n = b.n <;> simp [h4]
   by_cases h6 : a.s = b.s <;> simp [h6]
   by_cases h7 : a.op = b.op <;> simp [h7]
   by_cases h8 : a.pats.length = b.pats.length
   ·by_cases h5 : a.kids.length = b.kids.length
    ·have loop := loop_twoB (l := a.kids.map Ex.bare) (m := b.kids.map Ex.bare) (by simpa using h5) (P := fun i => P_r05_Same_11h (run cfg) (.int .i64 i) a.enc b.enc)
      (by rw [eq_r05_Same_11h]; simp [h5])
      (fun i h => by
        have h : i < a.kids.length := by simpa using h
        have h' : i < b.kids.length := by omega
        rw [eq_r05_Same_11h]
        simp [h, h', dIdx_map h, dIdx_map h', Ex.eta, Ex.ag, ih _ (List.getElem_mem h) (ha.kid (List.getElem_mem h)), dAdd1 (show i < 9223372036854775807 by omega)])
     have loop2 := loop_two (l := a.pats.map Pat.bare) (m := b.pats.map Pat.bare) (by simpa using h8) (P := fun i => P_r05_Same_6h (run cfg) (.int .i64 i) a.enc b.enc) (y := .bool (decide (a.kids.map Ex.bare = b.kids.map Ex.bare))) (n := .bool false)
      (by rw [eq_r05_Same_6h]; simp [h8, loop])
      (fun i h => by
        have h : i < a.pats.length := by simpa using h
        have h' : i < b.pats.length := by omega
        rw [eq_r05_Same_6h]
        simp [h, h', dIdx_map h, dIdx_map h', Pat.eta, Pat.ag, sp_r05_SamePat _ (Pat.fit_thin (ha.one.pat _ (List.getElem_mem h))), dAdd1 (show i < 9223372036854775807 by omega)])
     simp only [h5, h8]
     simp [eq_r05_Same_3, Ty.eta, Ty.ag, sp_r03_Same _ ha.one.a, sp_r03_Same _ ha.one.b]
     by_cases h9 : a.a = b.a <;> simp [h9]
     by_cases h10 : a.b = b.b <;> simp [h10, loop2]
     by_cases h11 : a.pats.map Pat.bare = b.pats.map Pat.bare <;> simp [h11]
    ·have : a.kids.map Ex.bare ≠ b.kids.map Ex.bare := fun h => h5 (by have := congrArg List.length h; simpa using this)
     simp [Int.ofNat_inj, h5, h8, this]
   ·have : a.pats.map Pat.bare ≠ b.pats.map Pat.bare := fun h => h8 (by have := congrArg List.length h; simpa using this)
    simp [Int.ofNat_inj, h8, this]
theorem sp_r05_SameAt (a : Ex) : a.fit → ∀ b : Ex, (run cfg).p F_r05_SameAt [a.enc, b.enc] = some (.bool (decide (a = b))) := by
 induction a using Ex.ind with
 | h a ih =>
   intro ha b
   have hk := big (Nat.le_of_lt ha.one.kids)
   have hp := big (Nat.le_of_lt ha.one.pats)
   refine call_r05_SameAt _ _ ?_
   rw [eq_r05_SameAt]
   simp [Ex.eta, Ex.ag, sp_r05_Same a ha]
   by_cases he : a.bare = b.bare
   ·rw [if_pos he]
    rw [Ex.ext_iff'] at he
    simp at he
    obtain ⟨e1, e2, e3, e4, e5, e6, e7, e8, e9, e10⟩ := he
    have h5 : a.kids.length = b.kids.length := by have := congrArg List.length e10; simpa using this
    have h8 : a.pats.length = b.pats.length := by have := congrArg List.length e9; simpa using this
    have loop := loop_twoB (l := a.kids) (m := b.kids) h5 (P := fun i => P_r05_SameAt_9h (run cfg) (.int .i64 i) a.enc b.enc)
     (by rw [eq_r05_SameAt_9h]; simp [h5])
     (fun i h => by
       have h' : i < b.kids.length := by omega
       rw [eq_r05_SameAt_9h]
       simp [h, h', dIdx_map h, dIdx_map h', Ex.eta, Ex.ag, ih _ (List.getElem_mem h) (ha.kid (List.getElem_mem h)), dAdd1 (show i < 9223372036854775807 by omega)])
    have loop2 := loop_two (l := a.pats) (m := b.pats) h8 (P := fun i => P_r05_SameAt_4h (run cfg) (.int .i64 i) a.enc b.enc) (y := .bool (decide (a.kids = b.kids))) (n := .bool false)
     (by rw [eq_r05_SameAt_4h]; simp [h8, loop])
     (fun i h => by
       have h' : i < b.pats.length := by omega
       have e11 : a.pats[i].bare = b.pats[i].bare := by
        have : (a.pats.map Pat.bare)[i]'(by simpa using h) = (b.pats.map Pat.bare)[i]'(by simpa using h') := by simp only [e9]
        simpa using this
       rw [eq_r05_SameAt_4h]
       simp [h, h', dIdx_map h, dIdx_map h', Pat.eta, Pat.ag, sp_r05_patAt _ (Pat.fit_thin (ha.one.pat _ (List.getElem_mem h))) _ e11, dAdd1 (show i < 9223372036854775807 by omega)])
    simp [Ex.ext_iff', e1, e2, e3, e4, e5, e6, e7, e8]
    by_cases h1 : a.lo = b.lo <;> simp [h1]
    by_cases h2 : a.hi = b.hi <;> simp [h2, loop2]
    by_cases h11 : a.pats = b.pats <;> simp [h11]
   ·have : a ≠ b := fun h => he (by rw [h])
    rw [if_neg he]
    simp [this]
theorem sp_term_Check (t : Tm) (ht : t.fit) : (run cfg).p F_term_Check [t.enc] = some (.int .i64 (if t.right = true then 0 else 1)) := by
 refine call_term_Check _ ?_
 rw [eq_term_Check]
 simp [Tm.eta, Tm.ag, sp_term_right t ht]
 cases t.right <;> rfl
theorem Tm.bareF_enc (t : Tm) : t.bareF.enc = .agg [.int .i64 t.kind, .int .i64 (if kAt t.kind = true then t.lo else 0), .int .i64 (if kAt t.kind = true then t.hi else 0), .str (if kName t.kind = true then t.name else nil8), .str (if kArg t.kind = true then t.arg else nil8), .int .i64 (if kN t.kind = true then t.n else 0),
 .str (if kS t.kind = true then t.s else nil8), .int .i64 (if kOp t.kind = true then t.op else 0), .int .i64 (if kLabel t.kind = true then t.label else 0), .bool (if kLabel t.kind = true then t.neg else false), encInts (if kVars t.kind = true then t.vars else []),
 .int .i64 (if kA t.kind = true then t.a else .mk 0 0 []).kind, .int .i64 (if kA t.kind = true then t.a else .mk 0 0 []).n, .list 3 ((if kA t.kind = true then t.a else .mk 0 0 []).kids.map Ty.enc),
 .int .i64 (if kB t.kind = true then t.b else .mk 0 0 []).kind, .int .i64 (if kB t.kind = true then t.b else .mk 0 0 []).n, .list 3 ((if kB t.kind = true then t.b else .mk 0 0 []).kids.map Ty.enc),
 .list 3 ((if kArgs t.kind = true then t.args else []).map Ty.enc), .list 7 ((if kPats t.kind = true then t.pats else []).map Pat.enc), .list 20 []] := Tm.enc_eq t.bareF
theorem sp_r17_bare (t : Tm) (ht : t.fit1) : (run cfg).p F_r17_bare [t.enc] = some (.tup [t.bareF.enc, .int .i64 t.bareN]) := by
 have hp := big (Nat.le_of_lt ht.pats)
 refine call_r17_bare _ ?_
 have h25 : ¬ (t.kind = 1) → ¬ (t.kind = 2) → ¬ (t.kind = 3) → ¬ (t.kind = 4) → ¬ (t.kind = 5) → ¬ (t.kind = 6) → ¬ (t.kind = 7) → ¬ (t.kind = 8) → ¬ (t.kind = 9) → ¬ (t.kind = 10) →
  P_r17_bare_25 (run cfg) (.int .i64 t.kind) t.enc (.int .i64 t.kind) = some (.tup [t.bareF.enc, .int .i64 t.bareN]) := by
  intro k1 k2 k3 k4 k5 k6 k7 k8 k9 k10
  rw [eq_r17_bare_25]
  by_cases k11 : t.kind = 11
  ·simp [nil_str, Tm.bareF_enc, Tm.bareN, k11, kName, kArg, kN, kS, kOp, kAt, kVars, kArgs, kPats, kA, kB, kLabel, kKids, encInts]
  by_cases k12 : t.kind = 12
  ·simp [nil_str, Tm.bareF_enc, Tm.bareN, k12, kName, kArg, kN, kS, kOp, kAt, kVars, kArgs, kPats, kA, kB, kLabel, kKids, encInts]
  by_cases k13 : t.kind = 13
  ·simp [nil_str, Tm.bareF_enc, Tm.bareN, k13, kName, kArg, kN, kS, kOp, kAt, kVars, kArgs, kPats, kA, kB, kLabel, kKids, encInts]
  by_cases k14 : t.kind = 14
  ·have h1 : dBin .add (.int .i64 (t.pats.length : Int)) (.int .i64 1) = some (.int .i64 ((t.pats.length : Int) + 1)) := dAdd (by omega) (by omega)
   simp [nil_str, Tm.bareF_enc, Tm.bareN, k14, h1, kName, kArg, kN, kS, kOp, kAt, kVars, kArgs, kPats, kA, kB, kLabel, kKids, encInts]
  by_cases k15 : t.kind = 15
  ·simp [nil_str, Tm.bareF_enc, Tm.bareN, k15, kName, kArg, kN, kS, kOp, kAt, kVars, kArgs, kPats, kA, kB, kLabel, kKids, encInts]
  by_cases k16 : t.kind = 16
  ·simp [nil_str, Tm.bareF_enc, Tm.bareN, k16, kName, kArg, kN, kS, kOp, kAt, kVars, kArgs, kPats, kA, kB, kLabel, kKids, encInts]
  have hk : ¬ (1 ≤ t.kind ∧ t.kind ≤ 16) := by omega
  simp [nil_str, Tm.bareF_enc, Tm.bareN, hk, k1, k2, k3, k4, k5, k6, k7, k8, k9, k10, k11, k12, k13, k14, k15, k16, kName, kArg, kN, kS, kOp, kAt, kVars, kArgs, kPats, kA, kB, kLabel, kKids, encInts]
 rw [eq_r17_bare]
 simp only [nil_str]
 by_cases k1 : t.kind = 1
 ·simp [nil_str, Tm.bareF_enc, Tm.bareN, k1, kName, kArg, kN, kS, kOp, kAt, kVars, kArgs, kPats, kA, kB, kLabel, kKids, encInts]
 by_cases k2 : t.kind = 2
 ·simp [nil_str, Tm.bareF_enc, Tm.bareN, k2, kName, kArg, kN, kS, kOp, kAt, kVars, kArgs, kPats, kA, kB, kLabel, kKids, encInts]
 by_cases k3 : t.kind = 3
 ·simp [nil_str, Tm.bareF_enc, Tm.bareN, k3, kName, kArg, kN, kS, kOp, kAt, kVars, kArgs, kPats, kA, kB, kLabel, kKids, encInts]
 by_cases k4 : t.kind = 4
 ·simp [nil_str, Tm.bareF_enc, Tm.bareN, k4, kName, kArg, kN, kS, kOp, kAt, kVars, kArgs, kPats, kA, kB, kLabel, kKids, encInts]
 by_cases k5 : t.kind = 5
 ·simp [nil_str, Tm.bareF_enc, Tm.bareN, k5, kName, kArg, kN, kS, kOp, kAt, kVars, kArgs, kPats, kA, kB, kLabel, kKids, encInts]
 by_cases k6 : t.kind = 6
 ·simp [nil_str, Tm.bareF_enc, Tm.bareN, k6, kName, kArg, kN, kS, kOp, kAt, kVars, kArgs, kPats, kA, kB, kLabel, kKids, encInts]
 by_cases k7 : t.kind = 7
 ·simp [nil_str, Tm.bareF_enc, Tm.bareN, k7, kName, kArg, kN, kS, kOp, kAt, kVars, kArgs, kPats, kA, kB, kLabel, kKids, encInts]
 by_cases k8 : t.kind = 8
 ·simp [nil_str, Tm.bareF_enc, Tm.bareN, k8, kName, kArg, kN, kS, kOp, kAt, kVars, kArgs, kPats, kA, kB, kLabel, kKids, encInts]
 by_cases k9 : t.kind = 9
 ·simp [nil_str, Tm.bareF_enc, Tm.bareN, k9, kName, kArg, kN, kS, kOp, kAt, kVars, kArgs, kPats, kA, kB, kLabel, kKids, encInts]
 by_cases k10 : t.kind = 10
 ·simp [nil_str, Tm.bareF_enc, Tm.bareN, k10, kName, kArg, kN, kS, kOp, kAt, kVars, kArgs, kPats, kA, kB, kLabel, kKids, encInts]
 simp [k1, k2, k3, k4, k5, k6, k7, k8, k9, k10, h25]
def exPat (p : Pat) : Ex := .mk 14 0 0 nil8 nil8 0 nil8 0 (.mk 0 0 []) (.mk 0 0 []) [p] []
theorem exPat_fit {p : Pat} (h : p.fit) : (exPat p).fit := by
 have t0 : (Ty.mk 0 0 []).thin = true := by rw [Ty.thin_eq]; simp [lim]
 have t1 : (Ty.mk 0 0 []).vcount ≤ lim := by rw [Ty.vcount_eq]; simp [lim]
 refine .mk _ ⟨?_, ?_, ?_, t0, t0, t1, t1, ?_, ?_, ?_⟩ fun k hk => by simp [exPat] at hk
 ·show nil8.size ≤ _; exact Nat.zero_le _
 ·show nil8.size ≤ _; exact Nat.zero_le _
 ·show nil8.size ≤ _; exact Nat.zero_le _
 ·simp [exPat, lim]
 ·simpa [exPat] using h
 ·simp [exPat, lim]
theorem dSlice_one {α : Type} {e : α → DV} {sz : Nat} {l : List α} {i : Nat} (h : i < l.length) : dSlice sz (.list sz (l.map e)) (some (.int .i64 (i : Int))) (some (.int .i64 ((i + 1 : Nat) : Int))) = some (.list sz [e l[i]]) := by
 have e1 : ((l.map e).take (i + 1)).drop i = [e l[i]] := by
  rw [List.drop_take, show i + 1 - i = 1 by omega, List.drop_eq_getElem_cons (by simpa using h)]
  simp
 simp only [dSlice, bnd, ob_some', Int.natCast_nonneg, if_true, Int.toNat_natCast, List.length_map, true_and]
 rw [if_pos ⟨by omega, by omega⟩, e1]
theorem sp_r17_flat (a : Tm) (ha : a.fit1) (b : Tm) : (run cfg).p F_r17_flat [a.enc, b.enc] = some (.bool (a.flatB b)) := by
 have hv := big (Nat.le_of_lt ha.vars)
 have hp := big (Nat.le_of_lt ha.pats)
 refine call_r17_flat _ _ ?_
 have h3 : P_r17_flat_3 (run cfg) a.enc b.enc = some (.bool (decide (a.args = b.args) && decide (a.a = b.a) && decide (a.b = b.b) && decide (a.vars = b.vars) && decide (a.pats = b.pats))) := by
  rw [eq_r17_flat_3]
  simp [Ty.eta, Ty.ag, sp_r03_SameAll _ _ (Nat.le_of_lt ha.args) ha.arg1, sp_r03_Same _ ha.a, sp_r03_Same _ ha.b, Int.ofNat_inj]
  by_cases e1 : a.vars.length = b.vars.length
  ·by_cases e2 : a.pats.length = b.pats.length
   ·have l2 := loop_twoB (l := a.pats) (m := b.pats) e2 (P := fun i => P_r17_flat_11h (run cfg) (.int .i64 i) a.enc b.enc)
     (by rw [eq_r17_flat_11h]; simp [e2])
     (fun i h => by
       have h' : i < b.pats.length := by omega
       rw [eq_r17_flat_11h]
       have f := exPat_fit (ha.pat _ (List.getElem_mem h))
       have eA : ∀ p : Pat, DV.agg [.int .i64 14, .int .i64 0, .int .i64 0, .str ⟨#[]⟩, .str ⟨#[]⟩, .int .i64 0, .str ⟨#[]⟩, .int .i64 0, .int .i64 0, .int .i64 0, .list 3 [], .int .i64 0, .int .i64 0, .list 3 [], .list 7 [p.enc], .list 16 []] = (exPat p).enc := fun p => by
        rw [Ex.enc_eq]; rfl
       have d1 := dSlice_one (e := Pat.enc) (sz := 7) h
       have d2 := dSlice_one (e := Pat.enc) (sz := 7) h'
       simp only [Tm.proj18, dLen_list, List.length_map, ob_some', dBin_lss, Int.ofNat_lt, h, decide_true, oif_bool, if_true, dAdd1 (show i < 9223372036854775807 by omega), d1, d2, isCell_list, og_true', eA, sp_r05_SameAt _ f, dUn_not]
       have : (exPat a.pats[i] = exPat b.pats[i]) ↔ a.pats[i] = b.pats[i] := by simp [exPat]
       simp only [this]
       by_cases h9 : a.pats[i] = b.pats[i] <;> simp [h9])
    have l1 := loop_two (l := a.vars) (m := b.vars) e1 (P := fun i => P_r17_flat_6h (run cfg) (.int .i64 i) a.enc b.enc) (y := .bool (decide (a.pats = b.pats))) (n := .bool false)
     (by rw [eq_r17_flat_6h]; simp [e1, l2])
     (fun i h => by
       have h' : i < b.vars.length := by omega
       rw [eq_r17_flat_6h]
       simp [h, h', dIdx_ints h, dIdx_ints h', dAdd1 (show i < 9223372036854775807 by omega)])
    simp only [e1, e2, if_true, l1]
    by_cases h1 : a.args = b.args <;> by_cases h2 : a.a = b.a <;> by_cases h3 : a.b = b.b <;> by_cases h4 : a.vars = b.vars <;> simp [h1, h2, h3, h4]
   ·have : a.pats ≠ b.pats := fun h => e2 (by rw [h])
    simp [e1, e2, this]
  ·have : a.vars ≠ b.vars := fun h => e1 (by rw [h])
   simp [e1, this]
 rw [eq_r17_flat]
 simp [h3, Tm.flatB]
 by_cases h1 : a.kind = b.kind <;> simp [h1]
 by_cases h2 : a.lo = b.lo <;> simp [h2]
 by_cases h4 : a.hi = b.hi <;> simp [h4]
 by_cases h5 : a.name = b.name <;> simp [h5]
 by_cases h6 : a.arg = b.arg <;> simp [h6]
 by_cases h7 : a.n = b.n <;> simp [h7]
 by_cases h8 : a.s = b.s <;> simp [h8]
 by_cases h9 : a.op = b.op <;> simp [h9]
 by_cases h10 : a.label = b.label <;> simp [h10]
 by_cases h11 : a.neg = b.neg <;> simp [h11]
theorem sp_r17_own (t : Tm) (ht : t.fit1) : (run cfg).p F_r17_own [t.enc] = some (.bool t.one) := by
 have hv := big (Nat.le_of_lt ht.vars)
 have ha := big (Nat.le_of_lt ht.args)
 have hp := big (Nat.le_of_lt ht.pats)
 have hs : ∀ n : Nat, dBin .leq (.int .i64 (n : Int)) (.int .i64 200) = some (.bool (decide (n ≤ 200))) := fun n => by
  rw [dBin_leq]; congr 2; rw [decide_eq_decide]; omega
 have hz : ∀ n : Nat, dBin .gtr (.int .i64 (n : Int)) (.int .i64 0) = some (.bool (decide (0 < n))) := fun n => by
  rw [dBin_gtr]; congr 2; rw [decide_eq_decide]; omega
 refine call_r17_own _ ?_
 have l3 := loop_all (l := t.pats) (f := Pat.right) (P := fun i => P_r17_own_15h (run cfg) (.int .i64 i) t.enc) (y := .bool t.ownC) (n := .bool false)
  (by
    rw [eq_r17_own_15h]
    simp only [Tm.pj, dLen_list, List.length_map, ob_some', dBin_lss, Int.lt_irrefl, decide_false, oif_bool, ogd_bool, Bool.false_eq_true, if_false, dBin_eql, decide_eq_true_eq,
     sp_r01_Name _ ht.name, sp_r01_Name _ ht.arg, Ty.eta, Ty.ag, sp_r03_Right _ ht.a, sp_r03_Right _ ht.b, dLenS_str, hs, hz, dBin_geq, dBin_leq, Tm.ownC, ite_sb, ite_db]
    simp only [Bool.if_true_left, Bool.if_false_right, Bool.decide_eq_true, Bool.and_assoc])
  (fun i h => by
    rw [eq_r17_own_15h]
    have f := ht.pat _ (List.getElem_mem h)
    simp [h, dIdx_map h, Pat.eta, Pat.ag, sp_r05_RightPat _ f.size f.txt, dAdd1 (show i < 9223372036854775807 by omega)]
    cases t.pats[i].right <;> rfl)
 have l2 := loop_all (l := t.vars) (f := fun v => decide (0 ≤ v) && decide (v ≤ 1048576)) (P := fun i => P_r17_own_10h (run cfg) (.int .i64 i) t.enc) (y := .bool (t.pats.all Pat.right && t.ownC)) (n := .bool false)
  (by rw [eq_r17_own_10h]; simp only [Tm.proj10, dLen_ints, dBin_lss, Int.lt_irrefl, decide_false, ob_some', oif_bool, Bool.false_eq_true, if_false, l3, ite_andB])
  (fun i h => by
    rw [eq_r17_own_10h]
    simp [h, dIdx_ints h, dAdd1 (show i < 9223372036854775807 by omega)]
    by_cases h1 : t.vars[i] < 0
    ·simp [h1, show ¬ 0 ≤ t.vars[i] by omega]
    ·by_cases h2 : 1048576 < t.vars[i]
     ·simp [h1, h2, show ¬ t.vars[i] ≤ 1048576 by omega]
     ·simp [h1, h2, show 0 ≤ t.vars[i] by omega, show t.vars[i] ≤ 1048576 by omega])
 have l1 := loop_all (l := t.args) (f := Ty.right) (P := fun i => P_r17_own_5h (run cfg) (.int .i64 i) t.enc) (y := .bool (t.vars.all (fun v => decide (0 ≤ v) && decide (v ≤ 1048576)) && (t.pats.all Pat.right && t.ownC))) (n := .bool false)
  (by rw [eq_r17_own_5h]; simp only [Tm.proj17, dLen_list, List.length_map, dBin_lss, Int.lt_irrefl, decide_false, ob_some', oif_bool, Bool.false_eq_true, if_false, l2, ite_andB])
  (fun i h => by
    rw [eq_r17_own_5h]
    simp [h, dIdx_map h, Ty.eta, Ty.ag, sp_r03_Right _ (ht.arg1 _ (List.getElem_mem h)), dAdd1 (show i < 9223372036854775807 by omega)]
    cases t.args[i].right <;> rfl)
 have x0 : ∀ a b, dExt 0 (.tup [a, b]) = some a := fun _ _ => rfl
 have x1 : ∀ a b, dExt 1 (.tup [a, b]) = some b := fun _ _ => rfl
 rw [eq_r17_own]
 simp only [isAggN_Tm, og_true', Tm.pj, Tm.eta, Tm.ag, sp_r17_bare t ht, x0, x1, ob_some', dLen_list, List.length_map, dBin_neq, ogd_bool, oif_bool,
  sp_r17_flat _ (Tm.bareF_fit ht), dUn_not, l1]
 rw [← Tm.own_one]
 unfold Tm.lists
 by_cases h1 : t.bareN = (t.kids.length : Int)
 ·cases h2 : t.bareF.flatB t
  ·simp [h1]
  ·simp only [h1, decide_true, Bool.not_true, Bool.false_eq_true, if_false, ite_andB, ite_andS, Bool.true_and, Bool.and_assoc]
   rw [Bool.and_left_comm]
 ·simp [h1]
theorem sp_r17_Right (t : Tm) : t.fit → (run cfg).p F_r17_Right [t.enc] = some (.bool t.right) := by
 induction t using Tm.ind with
 | h t ih =>
   intro ht
   have hk := big (Nat.le_of_lt ht.one.kids)
   refine call_r17_Right _ ?_
   have loop := loop_allB (l := t.kids) (f := Tm.right) (P := fun i => P_r17_Right_4h (run cfg) (.int .i64 i) t.enc)
    (by rw [eq_r17_Right_4h]; simp)
    (fun i h => by
      rw [eq_r17_Right_4h]
      simp [h, dIdx_map h, Tm.eta, Tm.ag, ih _ (List.getElem_mem h) (ht.kid (List.getElem_mem h)), dAdd1 (show i < 9223372036854775807 by omega)]
      cases t.kids[i].right <;> rfl)
   rw [eq_r17_Right, Tm.right_eq]
   simp [Tm.eta, Tm.ag, sp_r17_own t ht.one, loop]
   cases t.one <;> simp
theorem sp_typ_vars (t : Ty) : ∀ (i : Nat) (out : List Int) (sg : List SObj) (es : List (DV × DV)) (c : Int → Int) (B : Int), sgMap sg i = some (false, es) → CntIs es c → (∀ v, 0 ≤ c v ∧ c v ≤ B) → (∀ v, c v = 0 ↔ v ∉ out) → B + t.vcount ≤ 4611686018427387904 →
 out.length + t.vcount ≤ lim → t.thin = true → ∃ es' c', (run cfg).r F_typ_vars [(t.enc, .val), (.undef, .map i), (encInts out, .own)] sg = some ([encInts (t.varsOn out)], sg.set i (.map false es')) ∧ CntIs es' c' ∧ (∀ v, 0 ≤ c' v ∧ c' v ≤ B + t.vcount) ∧ (∀ v, c' v = 0 ↔ v ∉ t.varsOn out) := by
 induction t using Ty.ind with
 | h t ih =>
   intro i out sg es c B hm hc hb hz hB hl hth
   have hbk := t.thin_len hth
   have hsz := Ty.vcount_eq t
   have hi := sgMap_lt hm
   have loop : ∀ (n j : Nat) (out : List Int) (es : List (DV × DV)) (c : Int → Int) (B : Int), j + n = t.kids.length → CntIs es c → (∀ v, 0 ≤ c v ∧ c v ≤ B) → (∀ v, c v = 0 ↔ v ∉ out) → B + ((t.kids.drop j).map Ty.vcount).sum ≤ 4611686018427387904 → out.length + ((t.kids.drop j).map Ty.vcount).sum ≤ lim →
    ∃ es' c', P_typ_vars_6h (run cfg) i (encInts out) (.list 3 (t.kids.map Ty.enc)) (.int .i64 t.kids.length) (.int .i64 j) (sg.set i (.map false es)) = some ([encInts ((t.kids.drop j).foldl (fun l k => k.varsOn l) out)], sg.set i (.map false es')) ∧ CntIs es' c' ∧ (∀ v, 0 ≤ c' v ∧ c' v ≤ B + ((t.kids.drop j).map Ty.vcount).sum) ∧
      (∀ v, c' v = 0 ↔ v ∉ (t.kids.drop j).foldl (fun l k => k.varsOn l) out) := by
    intro n
    induction n with
    | zero =>
      intro j out es c B hj hc hb hz hB hl
      have : ¬ j < t.kids.length := by omega
      rw [eq_typ_vars_6h, List.drop_of_length_le (by omega)]
      refine ⟨es, c, by simp [this], hc, fun v => ⟨(hb v).1, by simpa using (hb v).2⟩, by simpa using hz⟩
    | succ n ihn =>
      intro j out es c B hj hc hb hz hB hl
      have h : j < t.kids.length := by omega
      rw [List.drop_eq_getElem_cons h] at hB hl ⊢
      simp only [List.map_cons, List.sum_cons, List.foldl_cons] at hB hl ⊢
      obtain ⟨es1, c1, h1, h2, h3, h4⟩ := ih _ (List.getElem_mem h) i out (sg.set i (.map false es)) es c B (sgMap_set hi _ _) hc hb hz (by omega) (by omega) (Ty.thin_kid hth (List.getElem_mem h))
      have hv := Ty.varsOn_vlen t.kids[j] out
      obtain ⟨es2, c2, k1, k2, k3, k4⟩ := ihn (j + 1) (t.kids[j].varsOn out) es1 c1 (B + t.kids[j].vcount) (by omega) h2 h3 h4 (by omega) (by omega)
      refine ⟨es2, c2, ?_, k2, fun v => ⟨(k3 v).1, by have := (k3 v).2; omega⟩, k4⟩
      rw [eq_typ_vars_6h]
      rw [List.set_set] at h1
      simp [h, dIdx_map h, Ty.eta, Ty.ag, h1, dAdd1 (show j < 9223372036854775807 by omega)]
      push_cast at k1
      exact k1
   have fin : ∀ (out : List Int) (es : List (DV × DV)) (c : Int → Int) (B : Int), CntIs es c → (∀ v, 0 ≤ c v ∧ c v ≤ B) → (∀ v, c v = 0 ↔ v ∉ out) → B + (t.kids.map Ty.vcount).sum ≤ 4611686018427387904 → out.length + (t.kids.map Ty.vcount).sum ≤ lim →
    ∃ es' c', P_typ_vars_5 (run cfg) i (encInts out) t.enc (sg.set i (.map false es)) = some ([encInts (t.kids.foldl (fun l k => k.varsOn l) out)], sg.set i (.map false es')) ∧ CntIs es' c' ∧ (∀ v, 0 ≤ c' v ∧ c' v ≤ B + (t.kids.map Ty.vcount).sum) ∧ (∀ v, c' v = 0 ↔ v ∉ t.kids.foldl (fun l k => k.varsOn l) out) := by
    intro out es c B hc hb hz hB hl
    have := loop t.kids.length 0 out es c B (by omega) hc hb hz (by simpa using hB) (by simpa using hl)
    simp only [List.drop_zero] at this
    obtain ⟨es', c', k1, k2⟩ := this
    refine ⟨es', c', ?_, k2⟩
    rw [eq_typ_vars_5]
    simp
    exact k1
   rw [Ty.varsOn_eq]
   by_cases h6 : t.kind = 6
   ·rw [if_pos h6] at hsz
    have hcv := hc t.n
    by_cases hn : t.n ∈ out
    ·have hc0 : c t.n ≠ 0 := fun h => (hz t.n).1 h hn
     obtain ⟨es', c', k1, k2, k3, k4⟩ := fin out (mSet es (.int .i64 t.n) (.int .i64 (c t.n + 1))) _ (B + 1) (hc.set t.n (c t.n + 1)) (fun v => by
      have := hb v; have := hb t.n
      by_cases e : t.n = v <;> simp [e] <;> omega) (fun v => by
      by_cases e : t.n = v
      ·subst e; simp [hn]; have := hb t.n; omega
      ·simp [e, hz v]) (by omega) (by omega)
     refine ⟨es', c', call_typ_vars _ _ _ _ ?_, k2, fun v => ⟨(k3 v).1, by have := (k3 v).2; omega⟩, by simpa [h6, hn] using k4⟩
     rw [eq_typ_vars]
     have ha := hb t.n
     have hadd : dBin .add (.int .i64 (c t.n)) (.int .i64 1) = some (.int .i64 (c t.n + 1)) := dAdd (by omega) (by omega)
     simp [h6, hm, hcv, hc0, hadd, k1, hn]
    ·have hc0 : c t.n = 0 := (hz t.n).2 hn
     obtain ⟨es', c', k1, k2, k3, k4⟩ := fin (out ++ [t.n]) (mSet es (.int .i64 t.n) (.int .i64 (c t.n + 1))) _ (B + 1) (hc.set t.n (c t.n + 1)) (fun v => by
      have := hb v; have := hb t.n
      by_cases e : t.n = v <;> simp [e] <;> omega) (fun v => by
      by_cases e : t.n = v
      ·subst e; simp; have := hb t.n; omega
      ·simp only [e, if_false, hz v, List.mem_append, List.mem_singleton]; rw [not_or]; exact ⟨fun h => ⟨h, fun h' => e h'.symm⟩, fun h => h.1⟩) (by omega) (by simp; omega)
     refine ⟨es', c', call_typ_vars _ _ _ _ ?_, k2, fun v => ⟨(k3 v).1, by have := (k3 v).2; omega⟩, by simpa [h6, hn] using k4⟩
     rw [eq_typ_vars]
     have ha := hb t.n
     have hadd : dBin .add (.int .i64 (c t.n)) (.int .i64 1) = some (.int .i64 (c t.n + 1)) := dAdd (by omega) (by omega)
     have happ : dApp 1 (encInts out) (.list 1 [.int .i64 t.n]) = some (encInts (out ++ [t.n])) := dApp_map (e := fun n => DV.int .i64 n) (by omega)
     rw [hc0] at hcv hadd
     rw [hc0] at k1
     rw [show (0 : Int) + 1 = 1 from rfl] at hadd k1
     simp [h6, hm, hcv, happ, hadd, hn, k1]
   ·rw [if_neg h6] at hsz
    obtain ⟨es', c', k1, k2, k3, k4⟩ := fin out es c B hc hb hz (by omega) (by omega)
    refine ⟨es', c', call_typ_vars _ _ _ _ ?_, k2, fun v => ⟨(k3 v).1, by have := (k3 v).2; omega⟩, by simpa [h6] using k4⟩
    rw [eq_typ_vars]
    rw [sgMap_eq hm] at k1
    simp [h6, k1]
theorem sp_typ_Vars (t : Ty) (hth : t.thin = true) (ht : t.vcount ≤ lim) : (run cfg).p F_typ_Vars [t.enc] = some (encInts t.vars) := by
 refine call_typ_Vars _ ?_
 rw [eq_typ_Vars]
 obtain ⟨es', c', h, -⟩ := sp_typ_vars t 0 [] [.map false []] [] (fun _ => 0) 0 rfl CntIs.nil (by simp) (by simp) (by unfold lim at ht; omega) (by simpa using ht) hth
 have e : encInts [] = .list 1 [] := rfl
 rw [e] at h
 simp [Ty.eta, Ty.ag, h, Ty.vars]
theorem loop_zip {α β X : Type} {l : List α} {m : List β} (hl : l.length = m.length) {P : Int → Option X} {f : α → β → Bool} {y n : X} (stop : P l.length = some y)
 (step : ∀ (i : Nat) (h : i < l.length), P i = if f l[i] (m[i]'(by omega)) = true then P ((i : Int) + 1) else some n) : P 0 = some (if ((l.zip m).all fun p => f p.1 p.2) = true then y else n) := by
 refine loop_all (l := l.zip m) (f := fun p => f p.1 p.2) (by rw [List.length_zip, ← hl, Nat.min_self]; exact stop) fun i h => ?_
 have h' : i < l.length := by rw [List.length_zip] at h; omega
 rw [step i h']
 simp
theorem arity_len {a b : Ty} (ha : a.right = true) (hb : b.right = true) (h : a.kind = b.kind) : a.kids.length = b.kids.length := by
 have h1 := (Ty.right_iff.1 ha).1
 have h2 := (Ty.right_iff.1 hb).1
 rw [h] at h1
 omega
theorem sp_agree_agrees (a : Ty) : a.right = true → ∀ b : Ty, b.right = true → (run cfg).p F_agree_agrees [a.enc, b.enc] = some (.bool (a.agrees b)) := by
 induction a using Ty.ind with
 | h a ih =>
   intro ha b hb
   have hn := a.thin_len (Ty.thin_of_right ha)
   refine call_agree_agrees _ _ ?_
   rw [eq_agree_agrees, Ty.agrees_eq]
   simp [Ty.eta, Ty.ag, sp_typ_Closed _ (Ty.thin_of_right ha), sp_typ_Closed _ (Ty.thin_of_right hb)]
   by_cases h1 : a.kind = 5 <;> simp [h1]
   by_cases h2 : b.kind = 5 <;> simp [h2]
   by_cases h3 : a.kind = b.kind <;> simp [h3]
   by_cases h4 : a.n = b.n <;> simp [h4]
   have h5 := arity_len ha hb h3
   have loop := loop_zip (l := a.kids) (m := b.kids) h5 (P := fun i => P_agree_agrees_8h (run cfg) (.list 3 (a.kids.map Ty.enc)) (.int .i64 a.kids.length) (.int .i64 i) b.enc) (f := Ty.agrees) (y := .bool true) (n := .bool false)
    (by rw [eq_agree_agrees_8h]; simp)
    (fun i h => by
      have h' : i < b.kids.length := by omega
      rw [eq_agree_agrees_8h]
      simp [h, h', dIdx_map h, dIdx_map h', Ty.eta, Ty.ag, ih _ (List.getElem_mem h) (Ty.right_kid ha (List.getElem_mem h)) _ (Ty.right_kid hb (List.getElem_mem h')), dAdd1 (show i < 9223372036854775807 by omega)]
      cases (a.kids[i].agrees b.kids[i]) <;> rfl)
   rw [loop]
   cases ((a.kids.zip b.kids).all fun p => p.1.agrees p.2) <;> rfl
theorem sp_agree_Agree (a b : Ty) (ha : a.thin = true) (hb : b.thin = true) : (run cfg).p F_agree_Agree [a.enc, b.enc] = some (.bool (a.right && b.right && a.agrees b)) := by
 refine call_agree_Agree _ _ ?_
 rw [eq_agree_Agree]
 simp [Ty.eta, Ty.ag, sp_typ_Check _ ha, sp_typ_Check _ hb]
 cases h1 : a.right
 ·simp
 ·cases h2 : b.right
  ·simp
  ·simp [sp_agree_agrees a h1 b h2]
theorem sp_pats_leaf (k : Int) : (run cfg).p F_pats_leaf [.int .i64 k] = some (.int .i64 (patLeaf k)) := by
 refine call_pats_leaf _ ?_
 rw [eq_pats_leaf]
 simp [patLeaf]
 by_cases h3 : k = 3 <;> by_cases h4 : k = 4 <;> by_cases h5 : k = 5 <;> by_cases h6 : k = 6 <;> by_cases h8 : k = 8 <;> simp_all
def BindIs (R : Orc) (p : Pat) (t : Ty) (sg : List SObj) (out : List (ByteArray × Ty)) : Option (List (ByteArray × Ty)) → Prop
 | some b => R.r F_pats_bind [(p.enc, .val), (t.enc, .val), (encEnts out, .own)] sg = some ([encEnts (out ++ b), .bool true], sg)
 | none => ∃ d, R.r F_pats_bind [(p.enc, .val), (t.enc, .val), (encEnts out, .own)] sg = some ([d, .bool false], sg)
theorem sp_pats_bind (p : Pat) : p.pat = true → ∀ (t : Ty) (sg : List SObj) (out : List (ByteArray × Ty)), t.right = true → out.length + p.size ≤ lim → BindIs (run cfg) p t sg out (p.binds t) := by
 induction p using Pat.ind with
 | h p ih =>
   intro hp t sg out ht hl
   have hkl := Pat.one_kids (Pat.pat_one hp)
   have hsz := Pat.size_eq p
   have loop : ∀ (ts : List Ty), ts.length = p.kids.length → (∀ u ∈ ts, u.right = true) → ∀ (n j : Nat) (out : List (ByteArray × Ty)), j + n = p.kids.length → out.length + ((p.kids.drop j).map Pat.size).sum ≤ lim →
    match comb ((p.kids.drop j).map Pat.binds) (ts.drop j) with
    | some b => P_pats_bind_17h (run cfg) (encEnts out) (.list 3 (ts.map Ty.enc)) (.list 7 (p.kids.map Pat.enc)) (.int .i64 p.kids.length) (.int .i64 j) sg = some ([encEnts (out ++ b), .bool true], sg)
    | none => ∃ d, P_pats_bind_17h (run cfg) (encEnts out) (.list 3 (ts.map Ty.enc)) (.list 7 (p.kids.map Pat.enc)) (.int .i64 p.kids.length) (.int .i64 j) sg = some ([d, .bool false], sg) := by
    intro ts hts htr n
    induction n with
    | zero =>
      intro j out hj hl
      have : ¬ j < p.kids.length := by omega
      rw [List.drop_of_length_le (show p.kids.length ≤ j by omega)]
      simp only [List.map_nil, comb]
      rw [eq_pats_bind_17h]
      simp [this]
    | succ n ihn =>
      intro j out hj hl
      have h : j < p.kids.length := by omega
      have h' : j < ts.length := by omega
      have hb : p.kids.length < 4294967297 := by rw [hkl]; split <;> omega
      rw [List.drop_eq_getElem_cons h] at hl ⊢
      rw [List.drop_eq_getElem_cons h']
      simp only [List.map_cons, List.sum_cons, comb] at hl ⊢
      have k1 := ih _ (List.getElem_mem h) (Pat.pat_kid hp (List.getElem_mem h)) ts[j] sg out (htr _ (List.getElem_mem h')) (by omega)
      cases hb1 : p.kids[j].binds ts[j] with
      | none =>
        rw [hb1] at k1
        obtain ⟨d, k1⟩ := k1
        simp only [Option.bind_none]
        refine ⟨.list 4 [], ?_⟩
        rw [eq_pats_bind_17h]
        simp [h, dIdx_map h, dIdx_map h', Pat.eta, Pat.ag, Ty.eta, Ty.ag, k1]
      | some b1 =>
        rw [hb1] at k1
        have hb1l := Pat.binds_len _ _ _ hb1
        simp only [BindIs] at k1
        have k2 := ihn (j + 1) (out ++ b1) (by omega) (by rw [List.length_append]; omega)
        simp only [Option.bind_some]
        cases hc : comb ((p.kids.drop (j + 1)).map Pat.binds) (ts.drop (j + 1)) with
        | none =>
          rw [hc] at k2
          obtain ⟨d, k2⟩ := k2
          simp only [Option.bind_none]
          refine ⟨d, ?_⟩
          rw [eq_pats_bind_17h]
          push_cast at k2
          simp [h, dIdx_map h, dIdx_map h', Pat.eta, Pat.ag, Ty.eta, Ty.ag, k1, dAdd1 (show j < 9223372036854775807 by omega), k2]
        | some b2 =>
          rw [hc] at k2
          simp only [Option.bind_some]
          rw [eq_pats_bind_17h]
          push_cast at k2
          simp only [List.append_assoc] at k2
          simp [h, dIdx_map h, dIdx_map h', Pat.eta, Pat.ag, Ty.eta, Ty.ag, k1, dAdd1 (show j < 9223372036854775807 by omega), k2]
   have fin : ∀ (ts : List Ty), ts.length = p.kids.length → (∀ u ∈ ts, u.right = true) → match comb (p.kids.map Pat.binds) ts with
    | some b => P_pats_bind_16 (run cfg) (encEnts out) (.list 3 (ts.map Ty.enc)) p.enc sg = some ([encEnts (out ++ b), .bool true], sg)
    | none => ∃ d, P_pats_bind_16 (run cfg) (encEnts out) (.list 3 (ts.map Ty.enc)) p.enc sg = some ([d, .bool false], sg) := by
    intro ts hts htr
    have := loop ts hts htr p.kids.length 0 out (by omega) (by simp; omega)
    simp only [List.drop_zero] at this
    rw [eq_pats_bind_16]
    simp only [Pat.proj6, dLen_list, List.length_map, ob_some']
    exact this
   rw [Pat.binds_eq]
   unfold patBody
   by_cases k1 : p.kind = 1
   ·simp only [if_pos k1, BindIs]
    refine call_pats_bind _ _ _ _ ?_
    rw [eq_pats_bind]
    simp [k1]
   rw [if_neg k1]
   by_cases k2 : p.kind = 2
   ·simp only [if_pos k2, BindIs]
    refine call_pats_bind _ _ _ _ ?_
    rw [eq_pats_bind]
    have := dApp_map (e := encEnt) (sz := 4) (l := out) (x := (p.name, t)) (by omega)
    simp [k1, k2]
    show ob (dApp 4 (encEnts out) (.list 4 [encEnt (p.name, t)])) _ = _
    rw [show encEnts out = .list 4 (out.map encEnt) from rfl, this]
    rfl
   rw [if_neg k2]
   by_cases k7 : p.kind = 7
   ·rw [if_pos k7]
    by_cases t7 : t.kind = 7
    ·rw [if_pos t7]
     obtain ⟨a, b, hk⟩ := two_arity ht (.inl t7)
     have := fin t.kids (by rw [hk, hkl]; simp [k7]) (fun u hu => Ty.right_kid ht hu)
     cases hc : comb (p.kids.map Pat.binds) t.kids with
     | none =>
       rw [hc] at this
       obtain ⟨d, this⟩ := this
       refine ⟨d, call_pats_bind _ _ _ _ ?_⟩
       rw [eq_pats_bind]
       simp [k1, k2, k7, t7, this]
     | some b =>
       rw [hc] at this
       refine call_pats_bind _ _ _ _ ?_
       rw [eq_pats_bind]
       simp [k1, k2, k7, t7, this]
    ·rw [if_neg t7]
     refine ⟨.list 4 [], call_pats_bind _ _ _ _ ?_⟩
     rw [eq_pats_bind]
     simp [k1, k2, k7, t7]
   rw [if_neg k7]
   by_cases k9 : p.kind = 9
   ·rw [if_pos k9]
    by_cases t7 : t.kind = 8
    ·rw [if_pos t7]
     obtain ⟨a, hk⟩ := zero_arity ht t7
     have e0 : dIdx 3 (.list 3 (t.kids.map Ty.enc)) (.int .i64 0) = some a.enc := by rw [hk]; simp [dIdx]
     have ea : t.kids.getD 0 zeroTy = a := by rw [hk]; rfl
     have := fin [a, t] (by rw [hkl]; simp [k9]) (fun u hu => by
      simp at hu
      rcases hu with rfl | rfl
      ·exact Ty.right_kid ht (by rw [hk]; exact List.mem_cons_self ..)
      ·exact ht)
     rw [ea]
     cases hc : comb (p.kids.map Pat.binds) [a, t] with
     | none =>
       rw [hc] at this
       obtain ⟨d, this⟩ := this
       refine ⟨d, call_pats_bind _ _ _ _ ?_⟩
       rw [eq_pats_bind]
       have e9 : DV.agg [.int .i64 8, .int .i64 t.n, .list 3 (t.kids.map Ty.enc)] = t.enc := by rw [← t7]; exact Ty.eta t
       simp [k1, k2, k7, k9, t7, e0, Ty.eta, Ty.ag, e9]
       simpa using this
     | some b =>
       rw [hc] at this
       refine call_pats_bind _ _ _ _ ?_
       rw [eq_pats_bind]
       have e9 : DV.agg [.int .i64 8, .int .i64 t.n, .list 3 (t.kids.map Ty.enc)] = t.enc := by rw [← t7]; exact Ty.eta t
       simp [k1, k2, k7, k9, t7, e0, Ty.eta, Ty.ag, e9]
       simpa using this
    ·rw [if_neg t7]
     refine ⟨.list 4 [], call_pats_bind _ _ _ _ ?_⟩
     rw [eq_pats_bind]
     simp [k1, k2, k7, k9, t7]
   rw [if_neg k9]
   by_cases hleaf : t.kind = patLeaf p.kind
   ·rw [if_pos hleaf]
    refine call_pats_bind _ _ _ _ ?_
    rw [eq_pats_bind]
    simp [k1, k2, k7, k9, sp_pats_leaf, hleaf]
   ·rw [if_neg hleaf]
    refine ⟨encEnts out, call_pats_bind _ _ _ _ ?_⟩
    rw [eq_pats_bind]
    simp [k1, k2, k7, k9, sp_pats_leaf, hleaf]
theorem sp_pats_Bind (p : Pat) (t : Ty) (hf : p.fit) (hp : p.right = true) (ht : t.right = true) :
 (run cfg).p F_pats_Bind [p.enc, t.enc] = some (match p.binds t with
   | some b => .tup [encEnts b, .int .i64 0]
   | none => .tup [encEnts [], .int .i64 4]) := by
 refine call_pats_Bind _ _ ?_
 rw [eq_pats_Bind]
 have := sp_pats_bind p (Pat.right_pat hp) t [] [] ht (by simpa using hf.size)
 have e0 : (DV.list 4 []) = encEnts [] := rfl
 rw [e0]
 cases hb : p.binds t with
 | none =>
   rw [hb] at this
   obtain ⟨d, this⟩ := this
   simp [Pat.eta, Pat.ag, Ty.eta, Ty.ag, sp_tree_CheckPat p (Pat.fit_thin hf) hf.txt, hp, sp_typ_Check t (Ty.thin_of_right ht), ht, this]
 | some b =>
   rw [hb] at this
   simp only [BindIs] at this
   simp [Pat.eta, Pat.ag, Ty.eta, Ty.ag, sp_tree_CheckPat p (Pat.fit_thin hf) hf.txt, hp, sp_typ_Check t (Ty.thin_of_right ht), ht, this]
theorem zeroTy_agg : zeroTy.enc = .agg [.int .i64 0, .int .i64 0, .list 3 []] := by rw [Ty.enc_eq]; rfl
theorem Ty.mk_agg0 (k n : Int) : DV.agg [.int .i64 k, .int .i64 n, .list 3 []] = (Ty.mk k n []).enc := (Ty.enc_eq (.mk k n [])).symm
theorem Ty.mk_agg1 (k n : Int) (a : Ty) : DV.agg [.int .i64 k, .int .i64 n, .list 3 [a.enc]] = (Ty.mk k n [a]).enc := (Ty.enc_eq (.mk k n [a])).symm
theorem Ty.mk_agg2 (k n : Int) (a b : Ty) : DV.agg [.int .i64 k, .int .i64 n, .list 3 [a.enc, b.enc]] = (Ty.mk k n [a, b]).enc := (Ty.enc_eq (.mk k n [a, b])).symm
theorem sp_check_fun (a b : Ty) : (run cfg).p F_check_fun [a.enc, b.enc] = some (Ty.mk 9 0 [a, b]).enc := by
 refine call_check_fun _ _ ?_
 rw [eq_check_fun]
 simp [Ty.eta, Ty.ag, Ty.mk_agg2]
theorem Nm.agg0 (n : ByteArray) (t : Ty) : DV.agg [.str n, .int .i64 t.kind, .int .i64 t.n, .list 3 (t.kids.map Ty.enc), .list 1 []] = Nm.enc ⟨n, t, []⟩ := rfl
theorem dSlice3_all {α : Type} {e : α → DV} {sz : Nat} (l : List α) : dSlice3 sz (.list sz (l.map e)) none (.int .i64 l.length) (.int .i64 l.length) = some (.list sz (l.map e)) := by
 simp [dSlice3, dSlice, bnd]
 exact List.take_of_length_le (by simp)
theorem sp_check_with (l m : List Nm) (sg : List SObj) (h : l.length + m.length ≤ lim) : (run cfg).r F_check_with [(encNms l, .val), (.list 5 (m.map Nm.enc), .val)] sg = some ([encNms (l ++ m)], sg) := by
 refine call_check_with _ _ _ ?_
 rw [eq_check_with]
 simp only [dLen_encNms, ob_some']
 rw [show encNms l = .list 5 (l.map Nm.enc) from rfl, dSlice3_all]
 simp only [ob_some']
 rw [dApp_maps h]
 rfl
theorem sp_check_has (i : Nat) (S : List Int) (es : List (DV × DV)) (hs : ScopeIs es S) (sg : List SObj) (hm : sgMap sg i = some (false, es)) (ts : List Ty) (hl : ts.length ≤ lim) (ht : ∀ t ∈ ts, t.thin = true ∧ t.vcount ≤ lim) :
 (run cfg).r F_check_scope_has [(.undef, .map i), (.list 3 (ts.map Ty.enc), .val)] sg = some ([.bool (ts.all (inS S))], sg) := by
 have hb := big hl
 refine call_check_scope_has _ _ _ ?_
 have loop := loop_all (l := ts) (f := inS S) (P := fun j => P_check_scope_has_2h (run cfg) i (.list 3 (ts.map Ty.enc)) (.int .i64 ts.length) (.int .i64 j) sg) (y := ([DV.bool true], sg)) (n := ([DV.bool false], sg))
  (by rw [eq_check_scope_has_2h]; simp)
  (fun j h => by
    obtain ⟨hth, hsz⟩ := ht _ (List.getElem_mem h)
    have hvl : ts[j].vars.length ≤ lim + 1 := by have := Ty.varsOn_vlen ts[j] []; simp at this; unfold Ty.vars; omega
    have hvb : ts[j].vars.length < 4294967299 := by unfold lim at hvl; omega
    have inner := loop_allK (l := ts[j].vars) (f := fun v => decide (v ∈ S)) (P := fun k => P_check_scope_has_5h (run cfg) i (.list 3 (ts.map Ty.enc)) (.int .i64 ts.length) (.int .i64 j) (encInts ts[j].vars) (.int .i64 ts[j].vars.length) (.int .i64 k) sg)
     (y := P_check_scope_has_2h (run cfg) i (.list 3 (ts.map Ty.enc)) (.int .i64 ts.length) (.int .i64 ((j : Int) + 1)) sg) (n := some ([DV.bool false], sg))
     (by rw [eq_check_scope_has_5h]; simp [dAdd1 (show j < 9223372036854775807 by omega)])
     (fun k hk => by
       rw [eq_check_scope_has_5h]
       have hc := hs ts[j].vars[k]
       by_cases hv : ts[j].vars[k] ∈ S
       ·simp only [hv, if_true] at hc
        simp [hk, dIdx_ints hk, hm, hc, hv, dAdd1 (show k < 9223372036854775807 by omega)]
       ·simp only [hv, if_false] at hc
        simp [hk, dIdx_ints hk, hm, hc, hv])
    rw [eq_check_scope_has_2h]
    simp [h, dIdx_map h, Ty.eta, Ty.ag, sp_typ_Vars _ hth hsz, inner, inS])
 rw [eq_check_scope_has]
 simp only [dLen_list, List.length_map, ob_some', loop]
 cases ts.all (inS S) <;> rfl
theorem sp_check_takes (i : Nat) (S : List Int) (es : List (DV × DV)) (hs : ScopeIs es S) (sg : List SObj) (hm : sgMap sg i = some (false, es)) (l : List Int) (hl : l.length ≤ lim) :
 (run cfg).r F_check_scope_takes [(.undef, .map i), (encInts l, .val)] sg = some ([.bool (takes S l)], sg) := by
 have hb := big hl
 refine call_check_scope_takes _ _ _ ?_
 have loop : ∀ (m k : Nat), k + m = l.length → P_check_scope_takes_2h (run cfg) i (encInts l) (encInts l) (.int .i64 l.length) (.int .i64 k) sg = some ([.bool (decide (∀ j (h : j < l.length), k ≤ j → l[j] ∉ S ∧ l[j] ∉ l.take j))], sg) := by
  intro m
  induction m with
  | zero =>
    intro k hk
    rw [eq_check_scope_takes_2h]
    have : ¬ k < l.length := by omega
    have h2 : ∀ j (h : j < l.length), k ≤ j → l[j] ∉ S ∧ l[j] ∉ l.take j := fun j h h' => by omega
    simp [this]
    exact h2
  | succ m ih =>
    intro k hk
    have h : k < l.length := by omega
    have nx := ih (k + 1) (by omega)
    push_cast at nx
    have hc := hs l[k]
    have sl : dSlice 1 (encInts l) none (some (.int .i64 (k : Int))) = some (encInts (l.take k)) := dSlice_pre (by omega) 1
    have ct := sp_slices_Contains (l.take k) (by simp; omega) l[k]
    rw [eq_check_scope_takes_2h]
    by_cases hv : l[k] ∈ S
    ·simp only [hv, if_true] at hc
     have : ¬ ∀ j (h : j < l.length), k ≤ j → l[j] ∉ S ∧ l[j] ∉ l.take j := fun hh => (hh k h (Nat.le_refl _)).1 hv
     simp only [this, decide_false]
     simp [h, dIdx_ints h, hm, hc]
    ·simp only [hv, if_false] at hc
     by_cases hd : l[k] ∈ l.take k
     ·have : ¬ ∀ j (h : j < l.length), k ≤ j → l[j] ∉ S ∧ l[j] ∉ l.take j := fun hh => (hh k h (Nat.le_refl _)).2 hd
      simp only [this, decide_false]
      simp only [hd, decide_true] at ct
      simp [h, dIdx_ints h, hm, hc, sl, ct]
     ·simp only [hd, decide_false] at ct
      have e : (∀ j (h : j < l.length), k ≤ j → l[j] ∉ S ∧ l[j] ∉ l.take j) ↔ ∀ j (h : j < l.length), k + 1 ≤ j → l[j] ∉ S ∧ l[j] ∉ l.take j := by
       constructor
       ·intro hh j hj hkj; exact hh j hj (by omega)
       ·intro hh j hj hkj
        rcases Nat.lt_or_ge k j with h1 | h1
        ·exact hh j hj h1
        ·have : k = j := by omega
         subst this
         exact ⟨hv, hd⟩
      simp only [e]
      rw [← nx]
      simp [h, dIdx_ints h, hm, hc, sl, ct, dAdd1 (show k < 9223372036854775807 by omega)]
 have l0 := loop l.length 0 (by omega)
 simp only [Int.natCast_zero, Int.ofNat_zero, Int.cast_ofNat_Int] at l0
 rw [eq_check_scope_takes]
 simp only [dLen_ints, ob_some', l0]
 congr 4
 rw [Bool.eq_iff_iff, decide_eq_true_eq, takes_iff, ← nodup_scan]
 constructor
 ·intro hh
  refine ⟨fun j hj => (hh j hj (Nat.zero_le _)).2, fun v hv => ?_⟩
  obtain ⟨j, hj, rfl⟩ := List.getElem_of_mem hv
  exact (hh j hj (Nat.zero_le _)).1
 ·rintro ⟨h1, h2⟩ j hj -
  exact ⟨h2 _ (List.getElem_mem hj), h1 j hj⟩
theorem sp_check_enter (i : Nat) (n : Int) (hn : n = 1 ∨ n = -1) (sg : List SObj) (l : List Int) (hl : l.length ≤ lim) : ∀ (es : List (DV × DV)) (c : Int → Int), sgMap sg i = some (false, es) → CntIs es c → (∀ v, -1 ≤ c v ∧ c v ≤ 1) →
 ∃ es', (run cfg).r F_check_scope_enter [(.undef, .map i), (encInts l, .val), (.int .i64 n, .val)] sg = some ([], sg.set i (.map false es')) ∧ CntIs es' fun v => c v + n * (l.count v : Int) := by
 intro es c hm hc hb
 have hbl := big hl
 have hi := sgMap_lt hm
 have loop : ∀ (m k : Nat) (es : List (DV × DV)) (c : Int → Int), k + m = l.length → CntIs es c → (∀ v, -4611686018427387904 + (m : Int) ≤ c v ∧ c v ≤ 4611686018427387904 - (m : Int)) →
  ∃ es', P_check_scope_enter_1h (run cfg) i (.int .i64 n) (encInts l) (.int .i64 l.length) (.int .i64 k) (sg.set i (.map false es)) = some ([], sg.set i (.map false es')) ∧ CntIs es' fun v => c v + n * ((l.drop k).count v : Int) := by
  intro m
  induction m with
  | zero =>
    intro k es c hk hc hb
    rw [eq_check_scope_enter_1h, List.drop_of_length_le (by omega)]
    have : ¬ k < l.length := by omega
    exact ⟨es, by simp [this], by simpa using hc⟩
  | succ m ih =>
    intro k es c hk hc hb
    have h : k < l.length := by omega
    have hcv := hc l[k]
    have hbv := hb l[k]
    obtain ⟨es', h1, h2⟩ := ih (k + 1) (mSet es (.int .i64 l[k]) (.int .i64 (c l[k] + n))) _ (by omega) (hc.set l[k] (c l[k] + n)) (fun v => by
     have := hb v
     by_cases e : l[k] = v
     ·simp only [e, if_true]; rw [e] at hbv; rcases hn with rfl | rfl <;> omega
     ·simp only [e, if_false]; omega)
    refine ⟨es', ?_, h2.congr fun v => ?_⟩
    ·rw [eq_check_scope_enter_1h]
     have hadd : dBin .add (.int .i64 (c l[k])) (.int .i64 n) = some (.int .i64 (c l[k] + n)) := by
      refine dAdd ?_ ?_ <;> (rcases hn with rfl | rfl <;> omega)
     push_cast at h1
     simp [h, dIdx_ints h, sgMap_set hi, hcv, hadd, dAdd1 (show k < 9223372036854775807 by omega), h1]
    ·rw [List.drop_eq_getElem_cons h, List.count_cons]
     by_cases e : l[k] = v
     ·simp only [e, if_true, beq_self_eq_true]; rcases hn with rfl | rfl <;> (push_cast; omega)
     ·simp [e]
 obtain ⟨es', h1, h2⟩ := loop l.length 0 es c (by omega) hc (fun v => by have := hb v; omega)
 rw [sgMap_eq hm] at h1
 refine ⟨es', call_check_scope_enter _ _ _ _ ?_, by simpa using h2⟩
 rw [eq_check_scope_enter]
 simp only [dLen_ints, ob_some']
 exact h1
def CkSpec (t : Tm) : Prop := t.right = true → t.fit → ∀ (i : Nat) (l : List Nm) (S : List Int) (sg : List SObj) (es : List (DV × DV)), sgMap sg i = some (false, es) → ScopeIs es S → NmsOk l → l.length + t.wide ≤ lim →
 ∃ es', (run cfg).r F_check_scope_term [(.undef, .map i), (t.enc, .val), (encNms l, .val)] sg = some (resL (ck t l S), sg.set i (.map false es')) ∧ ScopeIs es' S
theorem zip_binds (vs : List Int) (ts : List Ty) (k : Nat) (h1 : k < vs.length) (h2 : k < ts.length) : (vs.take (k + 1)).zip (ts.take (k + 1)) = (vs.take k).zip (ts.take k) ++ [(vs[k], ts[k])] := by
 rw [List.take_succ_eq_append_getElem h1, List.take_succ_eq_append_getElem h2, List.zip_append (by simp; omega)]
 rfl
theorem sp_check_name (t : Tm) (hk : t.kind = 1) (ht : t.right = true) (hf : t.fit) (i : Nat) (l : List Nm) (S : List Int) (sg : List SObj) (es : List (DV × DV)) (hm : sgMap sg i = some (false, es)) (hs : ScopeIs es S) (hl : NmsOk l) (hll : l.length ≤ lim) :
 (run cfg).r F_check_scope_name [(.undef, .map i), (t.enc, .val), (encNms l, .val)] sg = some (resL (ck t l S), sg) := by
 have own := Tm.right_own ht
 have hb := big hll
 refine call_check_scope_name _ _ _ _ ?_
 rw [ck_name hk]
 have loop : ∀ (m : Nat), m ≤ l.length → P_check_scope_name_2h (run cfg) i (encNms l) (.int .i64 ((m : Int) - 1)) t.enc sg = some (resL (match (l.take m).reverse.find? fun x => decide (x.name = t.name) with
  | none => .error 6
  | some x => if x.vars.length = t.args.length then if t.args.all (inS S) = true then .ok (x.ty.put (x.vars.zip t.args)) else .error 6 else .error 8), sg) := by
  intro m
  induction m with
  | zero =>
    intro _
    rw [eq_check_scope_name_2h]
    simp [resL, zeroTy_agg]
  | succ m ih =>
    intro hm1
    have h : m < l.length := by omega
    have nx := ih (by omega)
    rw [List.take_succ_eq_append_getElem h, List.reverse_append]
    simp only [List.reverse_singleton, List.singleton_append, List.find?_cons]
    rw [eq_check_scope_name_2h]
    have e1 : ((m + 1 : Nat) : Int) - 1 = (m : Int) := by omega
    have e2 : dIdx 5 (encNms l) (.int .i64 (m : Int)) = some l[m].enc := dIdx_map h
    have e3 : dBin .sub (.int .i64 (m : Int)) (.int .i64 1) = some (.int .i64 ((m : Int) - 1)) := by rw [dBin_sub, wrap_id (by omega) (by omega)]
    rw [e1]
    by_cases hn : l[m].name = t.name
    ·have hx := hl _ (List.getElem_mem h)
     obtain ⟨x1, x2, x3⟩ := hx
     have hbx := big x2
     simp only [hn, decide_true]
     by_cases hv : l[m].vars.length = t.args.length
     ·have has := sp_check_has i S es hs sg hm t.args (Nat.le_of_lt hf.one.args) fun y hy => ⟨hf.one.arg1 y hy, hf.one.argvc y hy⟩
      by_cases ha : t.args.all (inS S) = true
      ·have lp := loop_fold (l := l[m].vars) (P := fun k (a : List (Int × Ty)) => P_check_scope_name_14h (run cfg) (encBnds a) (encInts l[m].vars) (.int .i64 l[m].vars.length) (.int .i64 k) t.enc l[m].enc sg)
        (g := fun a v => a ++ [(v, t.args.getD a.length zeroTy)]) (fin := fun a => P_check_scope_name_14h (run cfg) (encBnds a) (encInts l[m].vars) (.int .i64 l[m].vars.length) (.int .i64 l[m].vars.length) t.enc l[m].enc sg)
        (I := fun k a => a = (l[m].vars.take k).zip (t.args.take k)) (fun a _ => rfl)
        (fun k h' a ha => by
          have hk' : k < t.args.length := by omega
          have hal : a.length = k := by rw [ha]; simp; omega
          have hga : t.args.getD a.length zeroTy = t.args[k] := by rw [hal, List.getD_eq_getElem?_getD, List.getElem?_eq_getElem hk']; rfl
          refine ⟨?_, by rw [zip_binds _ _ _ h' hk', hga, ← ha]⟩
          rw [hga, eq_check_scope_name_14h]
          have hap := dApp_map (e := encBnd) (sz := 4) (l := a) (x := (l[m].vars[k], t.args[k])) (by omega)
          have hap' : dApp 4 (encBnds a) (.list 4 [.agg [.int .i64 l[m].vars[k], .int .i64 t.args[k].kind, .int .i64 t.args[k].n, .list 3 (t.args[k].kids.map Ty.enc)]]) = some (encBnds (a ++ [(l[m].vars[k], t.args[k])])) := hap
          simp [h', dIdx_ints h', dIdx_map hk', hap', dAdd1 (show k < 9223372036854775807 by omega)]) [] rfl
       have hfold : ∀ (vs : List Int) (a : List (Int × Ty)) (k : Nat), a.length = k → k + vs.length = t.args.length → vs.foldl (fun a v => a ++ [(v, t.args.getD a.length zeroTy)]) a = a ++ vs.zip (t.args.drop k) := by
        intro vs
        induction vs with
        | nil => intro a k _ _; simp
        | cons v vs ihv =>
          intro a k hak hkl
          have hk' : k < t.args.length := by simp at hkl; omega
          rw [List.foldl_cons, ihv _ (k + 1) (by simp [hak]) (by simp at hkl; omega), List.drop_eq_getElem_cons hk']
          simp only [hak, List.getD_eq_getElem?_getD, List.getElem?_eq_getElem hk', Option.getD_some, List.zip_cons_cons, List.append_assoc, List.singleton_append]
       rw [hfold _ [] 0 rfl (by simpa using hv)] at lp
       simp only [List.nil_append, List.drop_zero] at lp
       have hrb : rightBinds (l[m].vars.zip t.args) = true := by
        rw [rightBinds_iff]
        intro e he
        have h1 := x3 _ (List.of_mem_zip he).1
        exact ⟨h1.1, h1.2, own.args _ (List.of_mem_zip he).2⟩
       have hsub := sp_scheme_Subst l[m].ty (l[m].vars.zip t.args) (Ty.thin_of_right x1) (by simp; omega) (fun e he => Ty.thin_of_right (own.args _ (List.of_mem_zip he).2))
       simp only [x1, hrb, and_self, if_true] at hsub
       have lp' : P_check_scope_name_14h (run cfg) (.list 4 []) (encInts l[m].vars) (.int .i64 l[m].vars.length) (.int .i64 0) t.enc l[m].enc sg = some ([(l[m].ty.put (l[m].vars.zip t.args)).enc, .int .i64 0], sg) := by
        refine lp.trans ?_
        rw [eq_check_scope_name_14h]
        simp [Ty.eta, Ty.ag, hsub]
       simp only [hv, if_true, ha]
       by_cases h0 : l[m].vars.length = 0
       ·have hv0 : l[m].vars = [] := List.eq_nil_of_length_eq_zero h0
        have ha0 : t.args = [] := List.eq_nil_of_length_eq_zero (by omega)
        rw [ha0, hv0, List.zip_nil_left, Ty.put_nil]
        simp only [ha0, List.map_nil, List.all_nil] at has
        simp [e2, hn, hv0, ha0, has, resL, Ty.eta, Ty.ag]
       ·have h0' : ¬ ((t.args.length : Int) = 0) := by omega
        have h0'' : ¬ t.args = [] := fun h => h0 (by rw [hv, h]; rfl)
        simp only [ha] at has
        rw [hv] at lp'
        simp [e2, hn, hv, has, h0', h0'', lp', resL]
      ·have ha' : t.args.all (inS S) = false := by simpa using ha
       simp only [ha'] at has
       simp only [hv, if_true, ha', Bool.false_eq_true, if_false]
       simp [e2, hn, hv, has, resL, zeroTy_agg]
     ·have hv' : ¬ ((l[m].vars.length : Int) = (t.args.length : Int)) := by omega
      simp only [if_neg hv]
      simp [e2, hn, hv', resL, zeroTy_agg]
    ·simp only [hn, decide_false]
     simp [e2, hn, e3, nx]
 have l0 := loop l.length (Nat.le_refl _)
 rw [List.take_of_length_le (Nat.le_refl _)] at l0
 rw [eq_check_scope_name]
 simp only [isAggN_Tm, og_true', dLen_encNms, ob_some', dBin_sub, wrap_id (show (-9223372036854775808 : Int) ≤ (l.length : Int) - 1 by omega) (by omega), ob_some', l0]
 try rfl
theorem errOk.ne {e : Int} (h : errOk e) : ¬ e = 0 := by rcases h with rfl | rfl | rfl <;> omega
theorem CkSpec.at {t : Tm} (h : CkSpec t) (ht : t.right = true) (hf : t.fit) {i : Nat} {sg : List SObj} (hi : i < sg.length) {l : List Nm} {S : List Int} {es : List (DV × DV)} (hs : ScopeIs es S) (hl : NmsOk l) (hw : l.length + t.wide ≤ lim) :
 ∃ es', (run cfg).r F_check_scope_term [(.undef, .map i), (t.enc, .val), (encNms l, .val)] (sg.set i (.map false es)) = some (resL (ck t l S), sg.set i (.map false es')) ∧ ScopeIs es' S := by
 obtain ⟨es', h1, h2⟩ := h ht hf i l S (sg.set i (.map false es)) es (sgMap_set hi _ _) hs hl hw
 rw [List.set_set] at h1
 exact ⟨es', h1, h2⟩
theorem zero_agg : DV.agg [.int .i64 0, .int .i64 0, .list 3 []] = zeroTy.enc := zeroTy_agg.symm
def kidsL (acc : List Ty) : Except Int (List Ty) → List DV
 | .ok ys => [.list 3 ((acc ++ ys).map Ty.enc), .int .i64 0]
 | .error e => [.list 3 [], .int .i64 e]
theorem sp_check_kids (t : Tm) (ht : t.right = true) (hf : t.fit) (IH : ∀ k ∈ t.kids, CkSpec k) {i : Nat} {sg : List SObj} (hi : i < sg.length) {l : List Nm} {S : List Int} {es : List (DV × DV)} (hs : ScopeIs es S) (hl : NmsOk l) (hw : l.length + t.wide ≤ lim) :
 ∃ es', (run cfg).r F_check_scope_kids [(.undef, .map i), (t.enc, .val), (encNms l, .val)] (sg.set i (.map false es)) = some (kidsL [] (ckKids l S (t.kids.map ck)), sg.set i (.map false es')) ∧ ScopeIs es' S := by
 have hb := big (Nat.le_of_lt hf.one.kids)
 have hkl := hf.one.kids
 have loop : ∀ (n j : Nat) (acc : List Ty) (es : List (DV × DV)), j + n = t.kids.length → acc.length = j → ScopeIs es S → ∃ es', P_check_scope_kids_3h (run cfg) i (encNms l) (.list 3 (acc.map Ty.enc)) (.list 20 (t.kids.map Tm.enc)) (.int .i64 t.kids.length) (.int .i64 j) (sg.set i (.map false es)) =
  some (kidsL acc (ckKids l S ((t.kids.drop j).map ck)), sg.set i (.map false es')) ∧ ScopeIs es' S := by
  intro n
  induction n with
  | zero =>
    intro j acc es hj ha hs
    refine ⟨es, ?_, hs⟩
    have : ¬ j < t.kids.length := by omega
    rw [List.drop_of_length_le (show t.kids.length ≤ j by omega), eq_check_scope_kids_3h]
    simp [this, ckKids, kidsL]
  | succ n ihn =>
    intro j acc es hj ha hs
    have h : j < t.kids.length := by omega
    have hmem : t.kids[j] ∈ t.kids := List.getElem_mem h
    have hwk := Tm.wide_kid hmem
    obtain ⟨es1, h1, h2⟩ := (IH _ hmem).at (Tm.right_kid ht hmem) (hf.kid hmem) hi hs hl (by omega)
    rw [List.drop_eq_getElem_cons h, eq_check_scope_kids_3h]
    simp only [List.map_cons, ckKids]
    cases hc : ck t.kids[j] l S with
    | error e =>
      rw [hc] at h1
      have he := (ck_err _ _ _ _ hc).ne
      refine ⟨es1, ?_, h2⟩
      simp [h, dIdx_map h, Tm.eta, Tm.ag, h1, resL, he, kidsL, Except.bind]
    | ok y =>
      rw [hc] at h1
      obtain ⟨es2, k1, k2⟩ := ihn (j + 1) (acc ++ [y]) es1 (by omega) (by simp [ha]) h2
      refine ⟨es2, ?_, k2⟩
      have hap := dApp_map (e := Ty.enc) (sz := 3) (l := acc) (x := y) (by omega)
      push_cast at k1
      generalize ckKids l S ((t.kids.drop (j + 1)).map ck) = r at k1 ⊢
      simp [h, dIdx_map h, Tm.eta, Tm.ag, h1, resL, Ty.eta, Ty.ag, hap, dAdd1 (show j < 9223372036854775807 by omega)]
      rw [List.map_append] at k1
      simp only [List.map_cons, List.map_nil] at k1
      rw [k1]
      cases r with
      | error e => simp [kidsL, Except.bind]
      | ok ys => simp [kidsL, Except.bind]
 obtain ⟨es', h1, h2⟩ := loop t.kids.length 0 [] es (by omega) rfl hs
 refine ⟨es', call_check_scope_kids _ _ _ _ ?_, h2⟩
 rw [eq_check_scope_kids]
 simp only [isAggN_Tm, og_true', Tm.proj19, dLen_list, List.length_map, ob_some']
 exact h1
theorem sp_check_of (t : Tm) (ht : t.right = true) (hf : t.fit) (hk : t.kind = 6 ∨ t.kind = 8 ∨ t.kind = 10 ∨ t.kind = 13 ∨ t.kind = 15 ∨ t.kind = 16) {i : Nat} {sg : List SObj} {S : List Int} {es : List (DV × DV)} (hm : sgMap sg i = some (false, es)) (hs : ScopeIs es S)
 {ys : List Ty} (hl : ys.length = t.kids.length) (hy : ∀ y ∈ ys, y.right = true) :
 (run cfg).r F_check_scope_of [(.undef, .map i), (t.enc, .val), (.list 3 (ys.map Ty.enc), .val)] sg = some (resL (ckOf t S ys), sg) := by
 have own := Tm.right_own ht
 refine call_check_scope_of _ _ _ _ ?_
 rw [eq_check_scope_of]
 rcases hk with hk | hk | hk | hk | hk | hk
 ·simp [hk, ckOf, resL, Ty.mk_agg]
 ·obtain ⟨a, b, e⟩ := Tm.kids2 ht (by omega)
  rw [e] at hl
  match ys, hl with
  | [x, y], _ =>
    have d0 : dIdx 3 (.list 3 [x.enc, y.enc]) (.int .i64 0) = some x.enc := rfl
    have d1 : dIdx 3 (.list 3 [x.enc, y.enc]) (.int .i64 1) = some y.enc := rfl
    have rx := hy x (by simp)
    have ry := hy y (by simp)
    by_cases h8 : y.kind = 8
    ·obtain ⟨u, hu⟩ := zero_arity ry h8
     have ru := Ty.right_kid ry (k := u) (by rw [hu]; simp)
     have d2 : dIdx 3 (.list 3 [u.enc]) (.int .i64 0) = some u.enc := rfl
     have e8 : DV.agg [.int .i64 8, .int .i64 y.n, .list 3 [u.enc]] = y.enc := by rw [Ty.enc_eq y, h8, hu]; rfl
     simp [hk, d0, d1, h8, hu, d2, Ty.eta, Ty.ag, sp_typ_Same u (Ty.thin_of_right ru), ckOf, zero_agg, e8]
     by_cases h : u = x <;> simp [h, resL]
    ·simp [hk, d0, d1, h8, ckOf, resL, zero_agg]
 ·obtain ⟨a, b, e⟩ := Tm.kids2 ht (by omega)
  rw [e] at hl
  match ys, hl with
  | [x, y], _ =>
    have d0 : dIdx 3 (.list 3 [x.enc, y.enc]) (.int .i64 0) = some x.enc := rfl
    have d1 : dIdx 3 (.list 3 [x.enc, y.enc]) (.int .i64 1) = some y.enc := rfl
    have rx := hy x (by simp)
    have ry := hy y (by simp)
    by_cases h8 : x.kind = 9
    ·obtain ⟨u, v, hu⟩ := two_arity rx (.inr h8)
     have ru := Ty.right_kid rx (k := u) (by rw [hu]; simp)
     have d2 : dIdx 3 (.list 3 [u.enc, v.enc]) (.int .i64 0) = some u.enc := rfl
     have d3 : dIdx 3 (.list 3 [u.enc, v.enc]) (.int .i64 1) = some v.enc := rfl
     simp [hk, d0, d1, h8, hu, d2, d3, Ty.eta, Ty.ag, sp_typ_Same u (Ty.thin_of_right ru), ckOf, zero_agg]
     by_cases h : u = y <;> simp [h, resL]
    ·simp [hk, d0, d1, h8, ckOf, resL, zero_agg]
 ·obtain ⟨a, b, c, e⟩ := Tm.kids3 ht hk
  rw [e] at hl
  match ys, hl with
  | [x, y, z], _ =>
    have d0 : dIdx 3 (.list 3 [x.enc, y.enc, z.enc]) (.int .i64 0) = some x.enc := rfl
    have d1 : dIdx 3 (.list 3 [x.enc, y.enc, z.enc]) (.int .i64 1) = some y.enc := rfl
    have d2 : dIdx 3 (.list 3 [x.enc, y.enc, z.enc]) (.int .i64 2) = some z.enc := rfl
    have ry := hy y (by simp)
    by_cases h8 : x.kind = 2
    ·simp [hk, d0, d1, d2, h8, Ty.eta, Ty.ag, sp_typ_Same y (Ty.thin_of_right ry), ckOf, zero_agg]
     by_cases h : y = z <;> simp [h, resL]
    ·simp [hk, d0, d1, h8, ckOf, resL, zero_agg]
 ·obtain ⟨a, b, e⟩ := Tm.kids2 ht (by omega)
  rw [e] at hl
  match ys, hl with
  | [x, y], _ =>
    have d0 : dIdx 3 (.list 3 [x.enc, y.enc]) (.int .i64 0) = some x.enc := rfl
    have d1 : dIdx 3 (.list 3 [x.enc, y.enc]) (.int .i64 1) = some y.enc := rfl
    have h21 : ∀ (a b : Int), P_check_scope_of_21 (run cfg) (.list 3 [x.enc, y.enc]) (.int .i64 a) (.int .i64 b) sg = some (if x.kind = a ∧ y.kind = a then resL (.ok (.mk b 0 [])) else resL (.error 4), sg) := by
     intro a b
     rw [eq_check_scope_of_21]
     by_cases h1 : x.kind = a <;> by_cases h2 : y.kind = a <;> simp [d0, d1, h1, h2, resL, Ty.mk_agg0, zero_agg]
     ·rfl
     ·rfl
     ·rfl
    have e13 : P_check_scope_of_13 (run cfg) i (.list 3 [x.enc, y.enc]) (.int .i64 15) t.enc sg = some (resL (ckOf t S [x, y]), sg) := by
     rw [eq_check_scope_of_13]
     simp only [Tm.proj7, dBin_eql, ob_some', oif_bool, decide_true, if_true, h21]
     unfold ckOf
     by_cases o7 : t.op = 7
     ·simp [hk, o7]
      split <;> rfl
     ·by_cases o5 : t.op = 5
      ·simp [hk, o5]
       split <;> rfl
      ·by_cases o6 : t.op = 6
       ·simp [hk, o6]
        split <;> rfl
       ·simp [hk, o5, o6, o7]
        split <;> rfl
    simp [hk]
    exact e13
 ·obtain ⟨k, e⟩ := Tm.kids1 ht (.inr hk)
  rw [e] at hl
  match ys, hl with
  | [x], _ =>
    have d0 : dIdx 3 (.list 3 [x.enc]) (.int .i64 0) = some x.enc := rfl
    have rx := hy x (by simp)
    have ra := own.a (by rw [hk]; rfl)
    have rb := own.b (by rw [hk]; rfl)
    have has := sp_check_has i S es hs sg hm [t.a, t.b] (by simp [lim]) (by
     intro u hu
     simp at hu
     rcases hu with rfl | rfl
     ·exact ⟨hf.one.a, hf.one.avc⟩
     ·exact ⟨hf.one.b, hf.one.bvc⟩)
    simp only [List.map_cons, List.map_nil, List.all_cons, List.all_nil, Bool.and_true] at has
    have e13 : P_check_scope_of_13 (run cfg) i (.list 3 [x.enc]) (.int .i64 16) t.enc sg = some (resL (ckOf t S [x]), sg) := by
     rw [eq_check_scope_of_13]
     simp [Ty.eta, Ty.ag, has, d0, sp_typ_Same x (Ty.thin_of_right rx), sp_agree_Agree _ _ (Ty.thin_of_right ra) (Ty.thin_of_right rb), ra, rb, zero_agg, ckOf, hk]
     cases h1 : inS S t.a
     ·simp [resL]
     ·cases h2 : inS S t.b
      ·simp [resL]
      ·by_cases h3 : x = t.a <;> cases h4 : t.a.agrees t.b <;> simp [h3, resL]
    simp [hk]
    exact e13
theorem sp_check_let (t : Tm) (hk : t.kind = 11) (ht : t.right = true) (hf : t.fit) (IH : ∀ k ∈ t.kids, CkSpec k) {i : Nat} {sg : List SObj} (hi : i < sg.length) {l : List Nm} {S : List Int} {es : List (DV × DV)} (hs : ScopeIs es S) (hl : NmsOk l) (hw : l.length + t.wide ≤ lim) :
 ∃ es', (run cfg).r F_check_scope_let [(.undef, .map i), (t.enc, .val), (encNms l, .val)] (sg.set i (.map false es)) = some (resL (ck t l S), sg.set i (.map false es')) ∧ ScopeIs es' S := by
 have own := Tm.right_own ht
 have hvl := Nat.le_of_lt hf.one.vars
 obtain ⟨k, m, hkk⟩ := Tm.kids2 ht (by omega)
 have hm1 : k ∈ t.kids := by rw [hkk]; simp
 have hm2 : m ∈ t.kids := by rw [hkk]; simp
 have w1 := Tm.wide_kid hm1
 have w2 := Tm.wide_kid hm2
 have d0 : dIdx 20 (.list 20 [k.enc, m.enc]) (.int .i64 0) = some k.enc := rfl
 have d1 : dIdx 20 (.list 20 [k.enc, m.enc]) (.int .i64 1) = some m.enc := rfl
 have tk := sp_check_takes i S es hs (sg.set i (.map false es)) (sgMap_set hi _ _) t.vars hvl
 rw [ck_let hk hkk]
 suffices h : ∃ es', P_check_scope_let (run cfg) i t.enc (encNms l) (sg.set i (.map false es)) = some (resL (if takes S t.vars = true then (ck k l (t.vars ++ S)).bind fun y => ck m (l ++ [⟨t.name, y, t.vars⟩]) S else .error 6), sg.set i (.map false es')) ∧ ScopeIs es' S by
  obtain ⟨es', h1, h2⟩ := h
  exact ⟨es', call_check_scope_let _ _ _ _ h1, h2⟩
 rw [eq_check_scope_let]
 cases htk : takes S t.vars
 ·rw [htk] at tk
  refine ⟨es, ?_, hs⟩
  simp [tk, resL, zero_agg]
 ·rw [htk] at tk
  obtain ⟨es1, a1, a2⟩ := sp_check_enter i 1 (.inl rfl) (sg.set i (.map false es)) t.vars hvl es _ (sgMap_set hi _ _) hs (fun v => by split <;> omega)
  rw [List.set_set] at a1
  have s1 := scope_in htk a2
  obtain ⟨es2, b1, b2⟩ := (IH k hm1).at (Tm.right_kid ht hm1) (hf.kid hm1) hi s1 hl (by omega)
  obtain ⟨es3, c1, c2⟩ := sp_check_enter i (-1) (.inr rfl) (sg.set i (.map false es2)) t.vars hvl es2 _ (sgMap_set hi _ _) b2 (fun v => by split <;> omega)
  rw [List.set_set] at c1
  have s3 := scope_out htk c2
  cases hc : ck k l (t.vars ++ S) with
  | error e =>
    rw [hc] at b1
    have he := (ck_err _ _ _ _ hc).ne
    refine ⟨es3, ?_, s3⟩
    simp [tk, a1, hkk, d0, Tm.eta, Tm.ag, b1, resL, c1, he, zero_agg, Except.bind]
  | ok y =>
    rw [hc] at b1
    have ry := ck_right k (Tm.right_kid ht hm1) (hf.kid hm1) _ _ y hl hc
    obtain ⟨es4, e1, e2⟩ := (IH m hm2).at (Tm.right_kid ht hm2) (hf.kid hm2) hi s3 (hl.app (.one ⟨ry, hvl, own.vars⟩) : NmsOk (l ++ [⟨t.name, y, t.vars⟩])) (by simp; omega)
    have wt := sp_check_with l [⟨t.name, y, t.vars⟩] (sg.set i (.map false es3)) (by simp; omega)
    simp only [List.map_cons, List.map_nil] at wt
    refine ⟨es4, ?_, e2⟩
    simp [tk, a1, hkk, d0, d1, Tm.eta, Tm.ag, b1, resL, c1, Ty.eta, Ty.ag, Nm.agg, wt, e1, Except.bind]
    cases hc2 : ck m (l ++ [⟨t.name, y, t.vars⟩]) S <;> simp [resL, Ty.eta, Ty.ag]
theorem sp_check_rec (t : Tm) (hk : t.kind = 12) (ht : t.right = true) (hf : t.fit) (IH : ∀ k ∈ t.kids, CkSpec k) {i : Nat} {sg : List SObj} (hi : i < sg.length) {l : List Nm} {S : List Int} {es : List (DV × DV)} (hs : ScopeIs es S) (hl : NmsOk l) (hw : l.length + t.wide ≤ lim) :
 ∃ es', (run cfg).r F_check_scope_rec [(.undef, .map i), (t.enc, .val), (encNms l, .val)] (sg.set i (.map false es)) = some (resL (ck t l S), sg.set i (.map false es')) ∧ ScopeIs es' S := by
 have own := Tm.right_own ht
 have hvl := Nat.le_of_lt hf.one.vars
 obtain ⟨k, m, hkk⟩ := Tm.kids2 ht (by omega)
 have hm1 : k ∈ t.kids := by rw [hkk]; simp
 have hm2 : m ∈ t.kids := by rw [hkk]; simp
 have w1 := Tm.wide_kid hm1
 have w2 := Tm.wide_kid hm2
 have ra := own.a (by rw [hk]; rfl)
 have rb := own.b (by rw [hk]; rfl)
 have rf := right_fun ra rb
 have d0 : dIdx 20 (.list 20 [k.enc, m.enc]) (.int .i64 0) = some k.enc := rfl
 have d1 : dIdx 20 (.list 20 [k.enc, m.enc]) (.int .i64 1) = some m.enc := rfl
 have tk := sp_check_takes i S es hs (sg.set i (.map false es)) (sgMap_set hi _ _) t.vars hvl
 rw [ck_rec hk hkk]
 suffices h : ∃ es', P_check_scope_rec (run cfg) i t.enc (encNms l) (sg.set i (.map false es)) = some (resL (if takes S t.vars = true then
  if inS (t.vars ++ S) t.a = true ∧ inS (t.vars ++ S) t.b = true then
   (ck k (l ++ [⟨t.name, .mk 9 0 [t.a, t.b], []⟩, ⟨t.arg, t.a, []⟩]) (t.vars ++ S)).bind fun y =>
     if y = t.b then ck m (l ++ [⟨t.name, .mk 9 0 [t.a, t.b], t.vars⟩]) S else .error 4
  else .error 6
  else .error 6), sg.set i (.map false es')) ∧ ScopeIs es' S by
  obtain ⟨es', h1, h2⟩ := h
  exact ⟨es', call_check_scope_rec _ _ _ _ h1, h2⟩
 rw [eq_check_scope_rec]
 cases htk : takes S t.vars
 ·rw [htk] at tk
  refine ⟨es, ?_, hs⟩
  simp [tk, resL, zero_agg]
 ·rw [htk] at tk
  obtain ⟨es1, a1, a2⟩ := sp_check_enter i 1 (.inl rfl) (sg.set i (.map false es)) t.vars hvl es _ (sgMap_set hi _ _) hs (fun v => by split <;> omega)
  rw [List.set_set] at a1
  have s1 := scope_in htk a2
  have has := sp_check_has i _ es1 s1 (sg.set i (.map false es1)) (sgMap_set hi _ _) [t.a, t.b] (by simp [lim]) (by
   intro u hu
   simp at hu
   rcases hu with rfl | rfl
   ·exact ⟨hf.one.a, hf.one.avc⟩
   ·exact ⟨hf.one.b, hf.one.bvc⟩)
  simp only [List.map_cons, List.map_nil, List.all_cons, List.all_nil, Bool.and_true] at has
  have rest : ∀ (es2 : List (DV × DV)) (e : Int) (y : Ty), ScopeIs es2 (t.vars ++ S) → (e = 0 → y.right = true) → ∃ es', P_check_scope_rec_10 (run cfg) i (encNms l) (.int .i64 e) t.enc (.str t.name) (.int .i64 9) (.int .i64 0) (.list 3 [t.a.enc, t.b.enc])
   (.int .i64 y.kind) (.int .i64 y.n) (.list 3 (y.kids.map Ty.enc)) (sg.set i (.map false es2)) = some (resL (if e = 0 then if y = t.b then ck m (l ++ [⟨t.name, .mk 9 0 [t.a, t.b], t.vars⟩]) S else .error 4 else .error e), sg.set i (.map false es')) ∧ ScopeIs es' S := by
   intro es2 e y hs2 hy
   obtain ⟨es3, c1, c2⟩ := sp_check_enter i (-1) (.inr rfl) (sg.set i (.map false es2)) t.vars hvl es2 _ (sgMap_set hi _ _) hs2 (fun v => by split <;> omega)
   rw [List.set_set] at c1
   have s3 := scope_out htk c2
   rw [eq_check_scope_rec_10]
   by_cases he : e = 0
   ·have ry := hy he
    by_cases hyb : y = t.b
    ·obtain ⟨es4, e1, e2⟩ := (IH m hm2).at (Tm.right_kid ht hm2) (hf.kid hm2) hi s3 (hl.app (.one ⟨rf, hvl, own.vars⟩) : NmsOk (l ++ [⟨t.name, .mk 9 0 [t.a, t.b], t.vars⟩])) (by simp; omega)
     have wt := sp_check_with l [⟨t.name, .mk 9 0 [t.a, t.b], t.vars⟩] (sg.set i (.map false es3)) (by simp; omega)
     simp only [List.map_cons, List.map_nil] at wt
     have ea : DV.agg [.str t.name, .int .i64 9, .int .i64 0, .list 3 [t.a.enc, t.b.enc], encInts t.vars] = Nm.enc ⟨t.name, .mk 9 0 [t.a, t.b], t.vars⟩ := rfl
     refine ⟨es4, ?_, e2⟩
     simp [c1, he, Ty.eta, Ty.ag, sp_typ_Same t.b (Ty.thin_of_right rb), hyb, hkk, d1, Tm.eta, Tm.ag, ea, wt, e1]
     cases hc2 : ck m (l ++ [⟨t.name, .mk 9 0 [t.a, t.b], t.vars⟩]) S <;> simp [resL, Ty.eta, Ty.ag]
    ·refine ⟨es3, ?_, s3⟩
     simp [c1, he, Ty.eta, Ty.ag, sp_typ_Same y (Ty.thin_of_right ry), hyb, resL, zero_agg]
   ·refine ⟨es3, ?_, s3⟩
    simp [c1, he, resL, zero_agg]
  have hfun := sp_check_fun t.a t.b
  have f0 : (Ty.mk 9 0 [t.a, t.b]).enc = .agg [.int .i64 9, .int .i64 0, .list 3 [t.a.enc, t.b.enc]] := Ty.enc_eq _
  by_cases hin : inS (t.vars ++ S) t.a = true ∧ inS (t.vars ++ S) t.b = true
  ·obtain ⟨ha, hb⟩ := hin
   rw [ha, hb] at has
   obtain ⟨es2, b1, b2⟩ := (IH k hm1).at (Tm.right_kid ht hm1) (hf.kid hm1) hi s1 (hl.app (.two (Nm.ok_nil rf) (Nm.ok_nil ra)) : NmsOk (l ++ [⟨t.name, .mk 9 0 [t.a, t.b], []⟩, ⟨t.arg, t.a, []⟩])) (by simp; omega)
   have wt := sp_check_with l [⟨t.name, .mk 9 0 [t.a, t.b], []⟩, ⟨t.arg, t.a, []⟩] (sg.set i (.map false es1)) (by simp; omega)
   simp only [List.map_cons, List.map_nil] at wt
   have ea : DV.agg [.str t.name, .int .i64 9, .int .i64 0, .list 3 [t.a.enc, t.b.enc], .list 1 []] = Nm.enc ⟨t.name, .mk 9 0 [t.a, t.b], []⟩ := rfl
   cases hc : ck k (l ++ [⟨t.name, .mk 9 0 [t.a, t.b], []⟩, ⟨t.arg, t.a, []⟩]) (t.vars ++ S) with
   | error e =>
     rw [hc] at b1
     have he := (ck_err _ _ _ _ hc).ne
     obtain ⟨es3, c1, c2⟩ := rest es2 e zeroTy b2 (fun h => absurd h he)
     refine ⟨es3, ?_, c2⟩
     simp only [if_neg he] at c1
     have z1 : zeroTy.kind = 0 := rfl
     have z2 : zeroTy.n = 0 := rfl
     have z3 : zeroTy.kids = [] := rfl
     rw [z1, z2, z3] at c1
     simp only [List.map_nil] at c1
     simp [tk, a1, has, Ty.eta, Ty.ag, hfun, ha, hb, hkk, d0, Tm.eta, Tm.ag, ea, Nm.agg0, wt, b1, resL, c1, Except.bind, z1, z2, z3]
   | ok y =>
     rw [hc] at b1
     have ry := ck_right k (Tm.right_kid ht hm1) (hf.kid hm1) _ _ y (hl.app (.two (Nm.ok_nil rf) (Nm.ok_nil ra))) hc
     obtain ⟨es3, c1, c2⟩ := rest es2 0 y b2 (fun _ => ry)
     refine ⟨es3, ?_, c2⟩
     simp only [if_true] at c1
     simp [tk, a1, has, Ty.eta, Ty.ag, hfun, ha, hb, hkk, d0, Tm.eta, Tm.ag, ea, Nm.agg0, wt, b1, resL, c1, Except.bind]
  ·obtain ⟨es3, c1, c2⟩ := rest es1 6 zeroTy s1 (fun h => by cases h)
   refine ⟨es3, ?_, c2⟩
   simp only [show ¬ ((6 : Int) = 0) by omega, if_false] at c1
   have z1 : zeroTy.kind = 0 := rfl
   have z2 : zeroTy.n = 0 := rfl
   have z3 : zeroTy.kids = [] := rfl
   rw [z1, z2, z3] at c1
   simp only [List.map_nil] at c1
   have hin' : (inS (t.vars ++ S) t.a && inS (t.vars ++ S) t.b) = false := by
    rw [Bool.eq_false_iff]; intro h; simp only [Bool.and_eq_true] at h; exact hin h
   rw [hin'] at has
   simp [tk, a1, has, Ty.eta, Ty.ag, hfun, if_neg hin, c1, hkk]
theorem sp_check_match (t : Tm) (hk : t.kind = 14) (ht : t.right = true) (hf : t.fit) (IH : ∀ k ∈ t.kids, CkSpec k) {i : Nat} {sg : List SObj} (hi : i < sg.length) {l : List Nm} {S : List Int} {es : List (DV × DV)} (hs : ScopeIs es S) (hl : NmsOk l) (hw : l.length + t.wide ≤ lim) :
 ∃ es', (run cfg).r F_check_scope_match [(.undef, .map i), (t.enc, .val), (encNms l, .val)] (sg.set i (.map false es)) = some (resL (ck t l S), sg.set i (.map false es')) ∧ ScopeIs es' S := by
 have own := Tm.right_own ht
 obtain ⟨k, ks, hkk, hlen⟩ := Tm.kidsM ht hk
 have hm1 : k ∈ t.kids := by rw [hkk]; simp
 have w1 := Tm.wide_kid hm1
 have hpl := hf.one.pats
 have hpb := big (Nat.le_of_lt hpl)
 have d0 : dIdx 20 (.list 20 (k.enc :: ks.map Tm.enc)) (.int .i64 0) = some k.enc := rfl
 rw [ck_match hk hkk]
 suffices h : ∃ es', P_check_scope_match (run cfg) i t.enc (encNms l) (sg.set i (.map false es)) = some (resL ((ck k l S).bind fun y => ckArms y l S (t.pats.zip (ks.map ck)) none), sg.set i (.map false es')) ∧ ScopeIs es' S by
  obtain ⟨es', h1, h2⟩ := h
  exact ⟨es', call_check_scope_match _ _ _ _ h1, h2⟩
 obtain ⟨es1, b1, b2⟩ := (IH k hm1).at (Tm.right_kid ht hm1) (hf.kid hm1) hi hs hl (by omega)
 rw [eq_check_scope_match]
 cases hc : ck k l S with
 | error e =>
   rw [hc] at b1
   have he := (ck_err _ _ _ _ hc).ne
   refine ⟨es1, ?_, b2⟩
   simp [hkk, d0, Tm.eta, Tm.ag, b1, resL, he, zero_agg, Except.bind]
 | ok y =>
   rw [hc] at b1
   have ry := ck_right k (Tm.right_kid ht hm1) (hf.kid hm1) _ _ y hl hc
   have loop : ∀ (n j : Nat) (out : Option Ty) (es : List (DV × DV)), j + n = t.pats.length → (out = none ↔ j = 0) → (∀ o, out = some o → o.right = true) → ScopeIs es S →
    ∃ es', P_check_scope_match_6h (run cfg) i (encNms l) (.list 7 (t.pats.map Pat.enc)) (.int .i64 t.pats.length) (.int .i64 j) t.enc y.enc (.int .i64 (out.getD zeroTy).kind) (.int .i64 (out.getD zeroTy).n) (.list 3 ((out.getD zeroTy).kids.map Ty.enc)) (sg.set i (.map false es)) =
      some (resL (ckArms y l S ((t.pats.zip (ks.map ck)).drop j) out), sg.set i (.map false es')) ∧ ScopeIs es' S := by
    intro n
    induction n with
    | zero =>
      intro j out es hj ho hor hs
      refine ⟨es, ?_, hs⟩
      have : ¬ j < t.pats.length := by omega
      rw [List.drop_of_length_le (by rw [List.length_zip, List.length_map]; omega), eq_check_scope_match_6h]
      simp [this, ckArms, resL, Ty.eta, Ty.ag]
    | succ n ihn =>
      intro j out es hj ho hor hs
      have h : j < t.pats.length := by omega
      have hj' : j < ks.length := by omega
      have hzl : j < (t.pats.zip (ks.map ck)).length := by rw [List.length_zip, List.length_map]; omega
      have hz : (t.pats.zip (ks.map ck))[j] = (t.pats[j], ck ks[j]) := by simp
      have hmp : t.pats[j] ∈ t.pats := List.getElem_mem h
      have hfp := hf.one.pat _ hmp
      have hB := sp_pats_Bind t.pats[j] y hfp (own.pats _ hmp) ry
      rw [List.drop_eq_getElem_cons hzl, hz]
      simp only [ckArms]
      rw [eq_check_scope_match_6h]
      cases hb : t.pats[j].binds y with
      | none =>
        rw [hb] at hB
        refine ⟨es, ?_, hs⟩
        simp [h, dIdx_map h, Pat.eta, Pat.ag, Ty.eta, Ty.ag, hB, resL, zero_agg]
      | some b =>
        rw [hb] at hB
        simp only at hB
        have hbl := Pat.binds_len _ _ _ hb
        have hps := mem_sum (f := Pat.size) hmp
        have hbr := Pat.binds_right _ _ _ ry hb
        have hmk : ks[j] ∈ t.kids := by rw [hkk]; exact List.mem_cons_of_mem _ (List.getElem_mem hj')
        have wk := Tm.wide_kid hmk
        have wt := sp_check_with l [] (sg.set i (.map false es)) (by simp; omega)
        simp only [List.map_nil, List.append_nil] at wt
        have hbb : b.length < 4294967297 := big (by omega)
        have l13 := loop_fold (l := b) (P := fun q (a : List Nm) => P_check_scope_match_13h (run cfg) i (encNms l) (.int .i64 j) (encNms a) (.list 7 (t.pats.map Pat.enc)) (.int .i64 t.pats.length) (.int .i64 j) (encEnts b) (.int .i64 b.length) (.int .i64 q) t.enc y.enc
         (.int .i64 (out.getD zeroTy).kind) (.int .i64 (out.getD zeroTy).n) (.list 3 ((out.getD zeroTy).kids.map Ty.enc)) (sg.set i (.map false es)))
         (g := fun a e => a ++ [nmOfE e]) (fin := fun a => P_check_scope_match_13h (run cfg) i (encNms l) (.int .i64 j) (encNms a) (.list 7 (t.pats.map Pat.enc)) (.int .i64 t.pats.length) (.int .i64 j) (encEnts b) (.int .i64 b.length) (.int .i64 b.length) t.enc y.enc
           (.int .i64 (out.getD zeroTy).kind) (.int .i64 (out.getD zeroTy).n) (.list 3 ((out.getD zeroTy).kids.map Ty.enc)) (sg.set i (.map false es)))
         (I := fun q a => a.length = l.length + q) (fun a _ => rfl)
         (fun q hq a ha => by
           refine ⟨?_, by simp [ha]; omega⟩
           rw [eq_check_scope_match_13h]
           have hap := dApp_map (e := Nm.enc) (sz := 5) (l := a) (x := nmOfE b[q]) (by omega)
           have hap' : dApp 5 (encNms a) (.list 5 [.agg [.str b[q].1, .int .i64 b[q].2.kind, .int .i64 b[q].2.n, .list 3 (b[q].2.kids.map Ty.enc), .list 1 []]]) = some (encNms (a ++ [nmOfE b[q]])) := hap
           have e1 : dIdx 4 (encEnts b) (.int .i64 (q : Int)) = some (encEnt b[q]) := dIdx_map hq
           simp [hq, e1, hap', dAdd1 (show q < 9223372036854775807 by omega)]) l rfl
        have hfold : ∀ (m : List (ByteArray × Ty)) (a : List Nm), m.foldl (fun a e => a ++ [nmOfE e]) a = a ++ m.map nmOfE := by
         intro m
         induction m with
         | nil => intro a; simp
         | cons x m ih => intro a; simp [ih]
        rw [hfold] at l13
        have nb : NmsOk (l ++ b.map nmOfE) := hl.app (NmsOk.ents hbr)
        obtain ⟨es2, e1, e2⟩ := (IH _ hmk).at (Tm.right_kid ht hmk) (hf.kid hmk) hi hs nb (by simp; omega)
        have dj : dIdx 20 (.list 20 (t.kids.map Tm.enc)) (.int .i64 ((j + 1 : Nat) : Int)) = some ks[j].enc := by
         have hx : j + 1 < t.kids.length := by rw [hkk]; simp; omega
         rw [dIdx_map hx]
         congr 2
         simp [hkk]
        have ha1 := dAdd1 (show j < 9223372036854775807 by omega)
        dsimp only
        cases hck : ck ks[j] (l ++ b.map nmOfE) S with
        | error e =>
          rw [hck] at e1
          have he := (ck_err _ _ _ _ hck).ne
          have fin13 : P_check_scope_match_13h (run cfg) i (encNms l) (.int .i64 j) (encNms (l ++ b.map nmOfE)) (.list 7 (t.pats.map Pat.enc)) (.int .i64 t.pats.length) (.int .i64 j) (encEnts b) (.int .i64 b.length) (.int .i64 b.length) t.enc y.enc
           (.int .i64 (out.getD zeroTy).kind) (.int .i64 (out.getD zeroTy).n) (.list 3 ((out.getD zeroTy).kids.map Ty.enc)) (sg.set i (.map false es)) = some ([zeroTy.enc, .int .i64 e], sg.set i (.map false es2)) := by
           rw [eq_check_scope_match_13h]
           simp only [dBin_lss, Int.lt_irrefl, decide_false, ob_some', oif_bool, Bool.false_eq_true, if_false, ha1, Tm.proj19, dj, Tm.eta, Tm.ag, Tm.pj, e1, resL, dExt0, dExt1, isAggN_Ty, og_true', dBin_neq, he, Bool.not_false, if_true, zero_agg]
          refine ⟨es2, ?_, e2⟩
          have := l13.trans fin13
          simp [h, dIdx_map h, Pat.eta, Pat.ag, Ty.eta, Ty.ag, hB, wt, this, resL, Except.bind]
        | ok a =>
          rw [hck] at e1
          have ra := ck_right _ (Tm.right_kid ht hmk) (hf.kid hmk) _ _ a nb hck
          cases out with
          | none =>
            have hj0 : j = 0 := ho.1 rfl
            obtain ⟨es3, f1, f2⟩ := ihn (j + 1) (some a) es2 (by omega) (by simp) (fun o h => by cases h; exact ra) e2
            refine ⟨es3, ?_, f2⟩
            have fin13 : P_check_scope_match_13h (run cfg) i (encNms l) (.int .i64 j) (encNms (l ++ b.map nmOfE)) (.list 7 (t.pats.map Pat.enc)) (.int .i64 t.pats.length) (.int .i64 j) (encEnts b) (.int .i64 b.length) (.int .i64 b.length) t.enc y.enc
             (.int .i64 ((none : Option Ty).getD zeroTy).kind) (.int .i64 ((none : Option Ty).getD zeroTy).n) (.list 3 (((none : Option Ty).getD zeroTy).kids.map Ty.enc)) (sg.set i (.map false es)) = some (resL (ckArms y l S ((t.pats.zip (ks.map ck)).drop (j + 1)) (some a)), sg.set i (.map false es3)) := by
             rw [eq_check_scope_match_13h]
             have hj0' : decide ((j : Int) = 0) = true := by simp [hj0]
             simp only [dBin_lss, Int.lt_irrefl, decide_false, ob_some', oif_bool, Bool.false_eq_true, if_false, ha1, Tm.proj19, dj, Tm.eta, Tm.ag, Tm.pj, e1, resL, dExt0, dExt1, isAggN_Ty, og_true', dBin_neq, dBin_eql, decide_true, Bool.not_true, hj0', if_true, Ty.proj0, Ty.proj1, Ty.proj2]
             exact f1
            have := l13.trans fin13
            simp [h, dIdx_map h, Pat.eta, Pat.ag, Ty.eta, Ty.ag, hB, wt, Except.bind]
            exact this
          | some o =>
            have hj0 : ¬ j = 0 := fun h => by have := ho.2 h; cases this
            by_cases hao : a = o
            ·obtain ⟨es3, f1, f2⟩ := ihn (j + 1) (some o) es2 (by omega) (by simp) hor e2
             refine ⟨es3, ?_, f2⟩
             have fin13 : P_check_scope_match_13h (run cfg) i (encNms l) (.int .i64 j) (encNms (l ++ b.map nmOfE)) (.list 7 (t.pats.map Pat.enc)) (.int .i64 t.pats.length) (.int .i64 j) (encEnts b) (.int .i64 b.length) (.int .i64 b.length) t.enc y.enc
              (.int .i64 ((some o).getD zeroTy).kind) (.int .i64 ((some o).getD zeroTy).n) (.list 3 (((some o).getD zeroTy).kids.map Ty.enc)) (sg.set i (.map false es)) = some (resL (ckArms y l S ((t.pats.zip (ks.map ck)).drop (j + 1)) (some o)), sg.set i (.map false es3)) := by
              rw [eq_check_scope_match_13h]
              have hj0' : ¬ (j : Int) = 0 := by omega
              simp only [dBin_lss, Int.lt_irrefl, decide_false, ob_some', oif_bool, Bool.false_eq_true, if_false, ha1, Tm.proj19, dj, Tm.eta, Tm.ag, Tm.pj, e1, resL, dExt0, dExt1, isAggN_Ty, og_true', dBin_neq, dBin_eql, decide_true, Bool.not_true, hj0', if_true, Ty.proj0, Ty.proj1, Ty.proj2, Ty.eta, Ty.ag, Option.getD_some, sp_typ_Same o (Ty.thin_of_right (hor o rfl)), hao, eq_self, dUn_not]
              exact f1
             have := l13.trans fin13
             simp [h, dIdx_map h, Pat.eta, Pat.ag, Ty.eta, Ty.ag, hB, wt, Except.bind, hao]
             exact this
            ·refine ⟨es2, ?_, e2⟩
             have fin13 : P_check_scope_match_13h (run cfg) i (encNms l) (.int .i64 j) (encNms (l ++ b.map nmOfE)) (.list 7 (t.pats.map Pat.enc)) (.int .i64 t.pats.length) (.int .i64 j) (encEnts b) (.int .i64 b.length) (.int .i64 b.length) t.enc y.enc
              (.int .i64 ((some o).getD zeroTy).kind) (.int .i64 ((some o).getD zeroTy).n) (.list 3 (((some o).getD zeroTy).kids.map Ty.enc)) (sg.set i (.map false es)) = some (resL (.error 4), sg.set i (.map false es2)) := by
              rw [eq_check_scope_match_13h]
              have hj0' : ¬ (j : Int) = 0 := by omega
              simp only [dBin_lss, Int.lt_irrefl, decide_false, ob_some', oif_bool, Bool.false_eq_true, if_false, ha1, Tm.proj19, dj, Tm.eta, Tm.ag, Tm.pj, e1, resL, dExt0, dExt1, isAggN_Ty, og_true', dBin_neq, dBin_eql, decide_true, Bool.not_true, hj0', if_true, Ty.proj0, Ty.proj1, Ty.proj2, Ty.eta, Ty.ag, Option.getD_some, sp_typ_Same a (Ty.thin_of_right ra), hao, dUn_not, zero_agg, Bool.not_false]
             have := l13.trans fin13
             simp [h, dIdx_map h, Pat.eta, Pat.ag, Ty.eta, Ty.ag, hB, wt, Except.bind, hao]
             exact this
   obtain ⟨es', h1, h2⟩ := loop t.pats.length 0 none es1 (by omega) (by simp) (fun o h => by cases h) b2
   refine ⟨es', ?_, h2⟩
   have z1 : ((none : Option Ty).getD zeroTy).kind = 0 := rfl
   have z2 : ((none : Option Ty).getD zeroTy).n = 0 := rfl
   have z3 : ((none : Option Ty).getD zeroTy).kids = [] := rfl
   rw [z1, z2, z3] at h1
   simp only [List.map_nil, List.drop_zero] at h1
   simp [hkk, d0, Tm.eta, Tm.ag, b1, resL, Except.bind]
   exact h1
theorem sp_check_term (t : Tm) : CkSpec t := by
 induction t using Tm.ind with
 | h t ih =>
   intro ht hf i l S sg es hm hs hl hw
   have own := Tm.right_own ht
   have hi := sgMap_lt hm
   have hsg := sgMap_eq hm
   have hw2 : 2 ≤ t.wide := by rw [Tm.wide_eq]; omega
   suffices h : ∃ es', P_check_scope_term (run cfg) i t.enc (encNms l) sg = some (resL (ck t l S), sg.set i (.map false es')) ∧ ScopeIs es' S by
    obtain ⟨es', h1, h2⟩ := h
    exact ⟨es', call_check_scope_term _ _ _ _ h1, h2⟩
   have rest : (t.kind = 6 ∨ t.kind = 8 ∨ t.kind = 10 ∨ t.kind = 13 ∨ t.kind = 15 ∨ t.kind = 16) → ∃ es', P_check_scope_term (run cfg) i t.enc (encNms l) sg = some (resL (ck t l S), sg.set i (.map false es')) ∧ ScopeIs es' S := by
    intro hk
    obtain ⟨es1, k1, k2⟩ := sp_check_kids t ht hf ih hi hs hl hw
    rw [hsg] at k1
    rw [ck_rest hk, eq_check_scope_term]
    have n1 : ¬ t.kind = 1 := by omega
    have n2 : ¬ t.kind = 2 := by omega
    have n3 : ¬ t.kind = 3 := by omega
    have n4 : ¬ t.kind = 4 := by omega
    have n5 : ¬ t.kind = 5 := by omega
    have n7 : ¬ t.kind = 7 := by omega
    have n9 : ¬ t.kind = 9 := by omega
    have n11 : ¬ t.kind = 11 := by omega
    have n12 : ¬ t.kind = 12 := by omega
    have n14 : ¬ t.kind = 14 := by omega
    cases hc : ckKids l S (t.kids.map ck) with
    | error e =>
      rw [hc] at k1
      have he : ¬ e = 0 := by
       obtain ⟨k, _, h⟩ := ckKids_err hc
       exact (ck_err _ _ _ _ h).ne
      refine ⟨es1, ?_, k2⟩
      simp [n1, n2, n3, n4, n5, n7, n9, n11, n12, n14, Tm.eta, Tm.ag, k1, kidsL, he, resL, zero_agg, Except.bind]
    | ok ys =>
      rw [hc] at k1
      obtain ⟨hl1, hy⟩ := ckKids_ok hc
      have hof := sp_check_of t ht hf hk (sgMap_set hi false es1) k2 hl1 (fun y h => by obtain ⟨k, a, b⟩ := hy y h; exact ck_right k (Tm.right_kid ht a) (hf.kid a) l S y hl b)
      refine ⟨es1, ?_, k2⟩
      simp [n1, n2, n3, n4, n5, n7, n9, n11, n12, n14, Tm.eta, Tm.ag, k1, kidsL, hof, Except.bind]
      cases ckOf t S ys <;> simp [resL, Ty.eta, Ty.ag]
   have leaf : ∀ c : Int, t.kind = c → 2 ≤ c → c ≤ 5 → ∃ es', P_check_scope_term (run cfg) i t.enc (encNms l) sg = some (resL (ck t l S), sg.set i (.map false es')) ∧ ScopeIs es' S := by
    intro c hk h2 h5
    refine ⟨es, ?_, hs⟩
    rw [ck_leaf (by omega), eq_check_scope_term, eq_check_scope_term_8, hsg]
    have a1 : dBin .sub (.int .i64 t.kind) (.int .i64 2) = some (.int .i64 (t.kind - 2)) := by rw [dBin_sub, wrap_id (by omega) (by omega)]
    have a2 : dBin .add (.int .i64 (t.kind - 2)) (.int .i64 1) = some (.int .i64 (t.kind - 1)) := by rw [dAdd (by omega) (by omega)]; congr 2; omega
    simp only [isAggN_Tm, og_true', Tm.proj0, dBin_eql, ob_some', oif_bool, decide_eq_true_eq, a1, a2, isCell_int, resL, Ty.mk_agg0]
    rw [if_neg (by omega)]
    by_cases e2 : t.kind = 2
    ·rw [if_pos e2]
    rw [if_neg e2]
    by_cases e3 : t.kind = 3
    ·rw [if_pos e3]
    rw [if_neg e3]
    by_cases e4 : t.kind = 4
    ·rw [if_pos e4]
    rw [if_neg e4, if_pos (by omega)]
   rcases Tm.kinds ht with hk | hk | hk | hk | hk | hk | hk | hk | hk | hk | hk | hk | hk
   ·have := sp_check_name t hk ht hf i l S sg es hm hs hl (by omega)
    refine ⟨es, ?_, hs⟩
    rw [eq_check_scope_term, hsg]
    simp [hk]
    have he : ∀ (x : DV), x = t.enc → (run cfg).r F_check_scope_name [(.undef, .map i), (x, .val), (encNms l, .val)] sg = some (resL (ck t l S), sg) := fun x hx => by rw [hx]; exact this
    rw [he _ (by rw [Tm.enc_eq, hk])]
    cases ck t l S <;> simp [resL, Ty.eta, Ty.ag]
   ·rcases hk with hk | hk | hk | hk
    ·exact leaf 2 hk (by omega) (by omega)
    ·exact leaf 3 hk (by omega) (by omega)
    ·exact leaf 4 hk (by omega) (by omega)
    ·exact leaf 5 hk (by omega) (by omega)
   ·exact rest (by omega)
   ·have has := sp_check_has i S es hs sg hm [t.a] (by simp [lim]) (by
     intro u hu
     simp at hu
     subst hu
     exact ⟨hf.one.a, hf.one.avc⟩)
    simp only [List.map_cons, List.map_nil, List.all_cons, List.all_nil, Bool.and_true] at has
    refine ⟨es, ?_, hs⟩
    rw [eq_check_scope_term, hsg, ck_nil hk]
    simp [hk, Ty.eta, Ty.ag, has]
    cases inS S t.a <;> simp [resL, zero_agg, Ty.mk_agg1]
   ·exact rest (by omega)
   ·obtain ⟨k, hkk⟩ := Tm.kids1 ht (.inl hk)
    have hm1 : k ∈ t.kids := by rw [hkk]; simp
    have w1 := Tm.wide_kid hm1
    have ra := own.a (by rw [hk]; rfl)
    have d0 : dIdx 20 (.list 20 [k.enc]) (.int .i64 0) = some k.enc := rfl
    have has := sp_check_has i S es hs sg hm [t.a] (by simp [lim]) (by
     intro u hu
     simp at hu
     subst hu
     exact ⟨hf.one.a, hf.one.avc⟩)
    simp only [List.map_cons, List.map_nil, List.all_cons, List.all_nil, Bool.and_true] at has
    rw [eq_check_scope_term, ck_fun hk hkk]
    cases hin : inS S t.a
    ·rw [hin] at has
     refine ⟨es, ?_, hs⟩
     rw [hsg]
     simp [hk, Ty.eta, Ty.ag, has, resL, zero_agg]
    ·rw [hin] at has
     have nl : NmsOk (l ++ [⟨t.name, t.a, []⟩]) := hl.app (.one (Nm.ok_nil ra))
     obtain ⟨es1, b1, b2⟩ := (ih k hm1).at (Tm.right_kid ht hm1) (hf.kid hm1) hi hs nl (by simp; omega)
     rw [hsg] at b1
     have wt := sp_check_with l [⟨t.name, t.a, []⟩] sg (by simp; omega)
     simp only [List.map_cons, List.map_nil] at wt
     refine ⟨es1, ?_, b2⟩
     cases hc : ck k (l ++ [⟨t.name, t.a, []⟩]) S with
     | error e =>
       rw [hc] at b1
       have he := (ck_err _ _ _ _ hc).ne
       simp [hk, Ty.eta, Ty.ag, has, hkk, d0, Tm.eta, Tm.ag, Nm.agg0, wt, b1, resL, he, zero_agg, Except.bind]
     | ok y =>
       rw [hc] at b1
       simp [hk, Ty.eta, Ty.ag, has, hkk, d0, Tm.eta, Tm.ag, Nm.agg0, wt, b1, resL, sp_check_fun, Ty.mk_agg2, Except.bind]
   ·exact rest (by omega)
   ·obtain ⟨es1, b1, b2⟩ := sp_check_let t hk ht hf ih hi hs hl hw
    rw [hsg] at b1
    refine ⟨es1, ?_, b2⟩
    rw [eq_check_scope_term]
    have he : ∀ (x : DV), x = t.enc → (run cfg).r F_check_scope_let [(.undef, .map i), (x, .val), (encNms l, .val)] sg = some (resL (ck t l S), sg.set i (.map false es1)) := fun x hx => by rw [hx]; exact b1
    simp [hk]
    rw [he _ (by rw [Tm.enc_eq, hk])]
    cases ck t l S <;> simp [resL, Ty.eta, Ty.ag]
   ·obtain ⟨es1, b1, b2⟩ := sp_check_rec t hk ht hf ih hi hs hl hw
    rw [hsg] at b1
    refine ⟨es1, ?_, b2⟩
    rw [eq_check_scope_term]
    have he : ∀ (x : DV), x = t.enc → (run cfg).r F_check_scope_rec [(.undef, .map i), (x, .val), (encNms l, .val)] sg = some (resL (ck t l S), sg.set i (.map false es1)) := fun x hx => by rw [hx]; exact b1
    simp [hk]
    rw [he _ (by rw [Tm.enc_eq, hk])]
    cases ck t l S <;> simp [resL, Ty.eta, Ty.ag]
   ·exact rest (by omega)
   ·obtain ⟨es1, b1, b2⟩ := sp_check_match t hk ht hf ih hi hs hl hw
    rw [hsg] at b1
    refine ⟨es1, ?_, b2⟩
    rw [eq_check_scope_term]
    have he : ∀ (x : DV), x = t.enc → (run cfg).r F_check_scope_match [(.undef, .map i), (x, .val), (encNms l, .val)] sg = some (resL (ck t l S), sg.set i (.map false es1)) := fun x hx => by rw [hx]; exact b1
    simp [hk]
    rw [he _ (by rw [Tm.enc_eq, hk])]
    cases ck t l S <;> simp [resL, Ty.eta, Ty.ag]
   ·exact rest (by omega)
   ·exact rest (by omega)
theorem sp_check_Type (t : Tm) (hf : t.fit) (hw : t.wide ≤ lim) : (run cfg).p F_check_Type [t.enc] = some (.tup (resL (ckType t))) := by
 refine call_check_Type _ ?_
 rw [eq_check_Type]
 unfold ckType
 by_cases ht : t.right = true
 ·obtain ⟨es', h1, h2⟩ := sp_check_term t ht hf 0 [] [] [.map false []] [] rfl ScopeIs.nil (fun x hx => by cases hx) (by simpa using hw)
  have e : encNms [] = .list 5 [] := rfl
  rw [e] at h1
  simp [Tm.eta, Tm.ag, sp_term_Check t hf, ht, h1]
  cases ck t [] [] <;> simp [resL, Ty.eta, Ty.ag]
 ·simp [Tm.eta, Tm.ag, sp_term_Check t hf, ht, resL, zero_agg]
theorem sp_l17_light (t : Ty) (h : t.size ≤ lim) : ∃ b : Bool, (run cfg).p F_l17_light [t.enc] = some (.bool b) := by
 obtain ⟨b, hb⟩ := sp_l11_Small [t] (by simp [lim]) (by simpa using h)
 simp only [List.map_cons, List.map_nil] at hb
 have hs := sp_r03_Size t h
 cases b
 ·refine ⟨false, call_l17_light _ ?_⟩
  rw [eq_l17_light]
  simp [Ty.eta, Ty.ag, hb]
 ·refine ⟨decide ((t.size : Int) ≤ 60), call_l17_light _ ?_⟩
  rw [eq_l17_light]
  simp [Ty.eta, Ty.ag, hb, hs]
def encRoom (x : ByteArray × Int) : DV := .agg [.str x.1, .int .i64 x.2]
def encRooms (l : List (ByteArray × Int)) : DV := .list 2 (l.map encRoom)
@[simp] theorem encRoom0 (x : ByteArray × Int) : proj 0 (encRoom x) = .str x.1 := rfl
@[simp] theorem encRoom1 (x : ByteArray × Int) : proj 1 (encRoom x) = .int .i64 x.2 := rfl
@[simp] theorem dLen_encRooms (l : List (ByteArray × Int)) : dLen (encRooms l) = some (.int .i64 l.length) := by simp [encRooms]
@[simp] theorem isCell_encRooms (l : List (ByteArray × Int)) : isCell (encRooms l) = true := rfl
theorem sp_r17_more (l : List (ByteArray × Int)) (s : ByteArray) (n : Int) (hl : l.length < lim) : (run cfg).p F_r17_more [encRooms l, .str s, .int .i64 n] = some (encRooms (l ++ [(s, n)])) := by
 refine call_r17_more _ _ _ ?_
 rw [eq_r17_more]
 have h1 : dApp 2 (.list 2 []) (encRooms l) = some (encRooms l) := by
  have := dApp_maps (e := encRoom) (sz := 2) (l := []) (m := l) (by simp; omega)
  exact this
 have h2 : dApp 2 (encRooms l) (.list 2 [.agg [.str s, .int .i64 n]]) = some (encRooms (l ++ [(s, n)])) := dApp_map (e := encRoom) (sz := 2) (l := l) (x := (s, n)) hl
 simp [h1, h2]
def Room (n : Int) : Prop := 0 ≤ n ∧ n ≤ 3000
def RoomsOk (l : List (ByteArray × Int)) : Prop := ∀ x ∈ l, Room x.2
theorem dMin_int (a b : Int) : dMin (.int .i64 a) (.int .i64 b) = some (.int .i64 (if b < a then b else a)) := rfl
theorem dMax_int (a b : Int) : dMax (.int .i64 a) (.int .i64 b) = some (.int .i64 (if b > a then b else a)) := rfl
def bigSg (sg : List SObj) (i : Nat) (b : Bool) : List SObj := sg.set i (.box [(.bool b, .val)])
theorem bigSg_box {sg : List SObj} {i : Nat} (hi : i < sg.length) (b : Bool) : sgBox (bigSg sg i b) i = some [(.bool b, .val)] := sgBox_set hi _
theorem bigSg_set {sg : List SObj} {i : Nat} (b c : Bool) : (bigSg sg i b).set i (.box [(.bool c, .val)]) = bigSg sg i c := by unfold bigSg; rw [List.set_set]
theorem sp_r16_Of {sg : List SObj} {i : Nat} (hi : i < sg.length) (b : Bool) (n : Int) (hn : 0 ≤ n) : ∃ (m : Int) (c : Bool), (run cfg).r F_r16_Bulk_Of [(.undef, .ptr i 0), (.int .i64 n, .val)] (bigSg sg i b) = some ([.int .i64 m], bigSg sg i c) ∧ Room m := by
 by_cases h : 3000 < n
 ·refine ⟨3000, true, call_r16_Bulk_Of _ _ _ ?_, by unfold Room; omega⟩
  rw [eq_r16_Bulk_Of]
  have e : [((DV.bool b : DV), Meta.val)].set 0 (.bool true, .val) = [(.bool true, .val)] := rfl
  have e0 : [((DV.bool b : DV), Meta.val)][0]? = some (.bool b, .val) := rfl
  simp only [dBin_gtr, h, decide_true, ob_some', oif_bool, if_true, bigSg_box hi, e0, dMin_int, e, bigSg_set]
 ·refine ⟨n, b, call_r16_Bulk_Of _ _ _ ?_, by unfold Room; omega⟩
  rw [eq_r16_Bulk_Of]
  simp [h, dMin_int]
theorem sp_r16_Named {sg : List SObj} {i : Nat} (hi : i < sg.length) (b : Bool) (l : List (ByteArray × Int)) (hl : l.length ≤ lim) (ho : RoomsOk l) (s : ByteArray) (ts : List Ty) (hts : ts.length ≤ lim) (hsz : ∀ t ∈ ts, t.size ≤ lim) :
 ∃ (m : Int) (c : Bool), (run cfg).r F_r16_Bulk_Named [(.undef, .ptr i 0), (encRooms l, .val), (.str s, .val), (.list 3 (ts.map Ty.enc), .val)] (bigSg sg i b) = some ([.int .i64 m], bigSg sg i c) ∧ Room m := by
 have hb := big hl
 have hbt := big hts
 have l2 : ∀ (m : Nat) (a : Int) (b : Bool), m ≤ l.length → 0 ≤ a → a ≤ 3000 → ∃ (r : Int) (c : Bool), P_r16_Bulk_Named_7h (run cfg) i (encRooms l) (.str s) (.int .i64 a) (.int .i64 ((m : Int) - 1)) (bigSg sg i b) = some ([.int .i64 r], bigSg sg i c) ∧ Room r := by
  intro m
  induction m with
  | zero =>
    intro a b _ h0 h1
    refine ⟨1, b, ?_, by unfold Room; omega⟩
    rw [eq_r16_Bulk_Named_7h]
    simp
  | succ m ih =>
    intro a b hm h0 h1
    have h : m < l.length := by omega
    have e1 : ((m + 1 : Nat) : Int) - 1 = (m : Int) := by omega
    have e2 : dIdx 2 (encRooms l) (.int .i64 (m : Int)) = some (encRoom l[m]) := dIdx_map h
    have e3 : dBin .sub (.int .i64 (m : Int)) (.int .i64 1) = some (.int .i64 ((m : Int) - 1)) := by rw [dBin_sub, wrap_id (by omega) (by omega)]
    rw [e1, eq_r16_Bulk_Named_7h]
    by_cases hn : l[m].1 = s
    ·obtain ⟨r0, r1⟩ := ho _ (List.getElem_mem h)
     have p0 : 0 ≤ a * l[m].2 := Int.mul_nonneg h0 r0
     have p1 : a * l[m].2 ≤ 3000 * 3000 := Int.mul_le_mul h1 r1 r0 (by omega)
     have e4 : dBin .mul (.int .i64 a) (.int .i64 l[m].2) = some (.int .i64 (a * l[m].2)) := by rw [dBin_mul, wrap_id (by omega) (by omega)]
     obtain ⟨r, c, k1, k2⟩ := sp_r16_Of hi b _ p0
     exact ⟨r, c, by simp [e2, hn, e4, k1], k2⟩
    ·obtain ⟨r, c, k1, k2⟩ := ih a b (by omega) h0 h1
     exact ⟨r, c, by simp [e2, hn, e3, k1], k2⟩
 have l1 : ∀ (n j : Nat) (a : Int) (b : Bool), j + n = ts.length → 0 ≤ a → a ≤ 3000 → ∃ (r : Int) (c : Bool), P_r16_Bulk_Named_3h (run cfg) i (encRooms l) (.str s) (.list 3 (ts.map Ty.enc)) (.int .i64 a) (.int .i64 j) (bigSg sg i b) = some ([.int .i64 r], bigSg sg i c) ∧ Room r := by
  intro n
  induction n with
  | zero =>
    intro j a b hj h0 h1
    obtain ⟨r, c, k1, k2⟩ := l2 l.length a b (Nat.le_refl _) h0 h1
    refine ⟨r, c, ?_, k2⟩
    have : ¬ j < ts.length := by omega
    rw [eq_r16_Bulk_Named_3h]
    have e3 : dBin .sub (.int .i64 (l.length : Int)) (.int .i64 1) = some (.int .i64 ((l.length : Int) - 1)) := by rw [dBin_sub, wrap_id (by omega) (by omega)]
    simp [this, e3, k1]
  | succ n ih =>
    intro j a b hj h0 h1
    have h : j < ts.length := by omega
    obtain ⟨m, c, k1, k2, k3⟩ := sp_r16_Of hi b (ts[j].size : Int) (by omega)
    have hmx : 0 ≤ (if m > a then m else a) ∧ (if m > a then m else a) ≤ 3000 := by split <;> omega
    obtain ⟨r, d, q1, q2⟩ := ih (j + 1) (if m > a then m else a) c (by omega) hmx.1 hmx.2
    refine ⟨r, d, ?_, q2⟩
    rw [eq_r16_Bulk_Named_3h]
    push_cast at q1
    simp only [dLen_list, List.length_map, dBin_lss, Int.ofNat_lt, h, decide_true, ob_some', oif_bool, if_true, dIdx_map h, Ty.proj0, Ty.proj1, Ty.proj2, Ty.eta, Ty.ag, sp_r03_Size _ (hsz _ (List.getElem_mem h)), k1, List.getD_cons_zero, dMax_int, dAdd1 (show j < 9223372036854775807 by omega)]
    push_cast
    exact q1
 obtain ⟨r, c, k1, k2⟩ := l1 ts.length 0 1 b (by omega) (by omega) (by omega)
 refine ⟨r, c, call_r16_Bulk_Named _ _ _ _ _ ?_, k2⟩
 rw [eq_r16_Bulk_Named]
 exact k1
def BulkSpec (t : Tm) : Prop := t.right = true → t.fit → t.sized → ∀ (sg : List SObj) (i : Nat) (l : List (ByteArray × Int)) (b : Bool), i < sg.length → RoomsOk l → l.length + t.wide ≤ lim →
 ∃ (m : Int) (c : Bool), (run cfg).r F_r17_bulk [(.undef, .ptr i 0), (t.enc, .val), (encRooms l, .val)] (bigSg sg i b) = some ([.int .i64 m], bigSg sg i c) ∧ Room m
theorem RoomsOk.app {l : List (ByteArray × Int)} (h : RoomsOk l) {s : ByteArray} {n : Int} (hn : Room n) : RoomsOk (l ++ [(s, n)]) := fun x hx => by
 rcases List.mem_append.1 hx with hx | hx
 ·exact h x hx
 ·simp at hx; subst hx; exact hn
theorem sp_r17_bulk (t : Tm) : BulkSpec t := by
 induction t using Tm.ind with
 | h t ih =>
   intro ht hf hz sg i l b hi hr hw
   have own := Tm.right_own ht
   have hkb := big (Nat.le_of_lt hf.one.kids)
   have hkl := hf.one.kids
   have hpl := hf.one.pats
   have hA := sp_r03_Size t.a hz.a
   have hB := sp_r03_Size t.b hz.b
   have hAb := big hz.a
   have hBb := big hz.b
   have hwt := Tm.wide_eq t
   have l25 : ∀ (ks : List Int), (∀ x ∈ ks, Room x) → ks.length = t.kids.length → ∀ (n j : Nat) (a : Int) (b : Bool), j + n = ks.length → 0 ≤ a → a ≤ 3000 →
    ∃ (m : Int) (c : Bool), P_r17_bulk_25h (run cfg) i (encRooms l) (encInts ks) (.int .i64 a) (.int .i64 j) t.enc (bigSg sg i b) = some ([.int .i64 m], bigSg sg i c) ∧ Room m := by
    intro ks hks hlen n
    induction n with
    | zero =>
      intro j a b hj h0 h1
      have hj' : ¬ j < ks.length := by omega
      rw [eq_r17_bulk_25h]
      by_cases k1 : t.kind = 1
      ·obtain ⟨m, c, q1, q2⟩ := sp_r16_Named hi b l (by omega) hr t.name t.args (Nat.le_of_lt hf.one.args) hz.args
       exact ⟨m, c, by simp [hj', k1, q1], q2⟩
      by_cases k7 : t.kind = 7
      ·obtain ⟨m, c, q1, q2⟩ := sp_r16_Of hi b ((t.a.size : Int) + 1) (by omega)
       exact ⟨m, c, by simp [hj', k7, Ty.eta, Ty.ag, hA, dAdd (show (-9223372036854775808 : Int) ≤ (t.a.size : Int) + 1 by omega) (by omega), q1], q2⟩
      by_cases k6 : t.kind = 6
      ·obtain ⟨u, v, hkk⟩ := Tm.kids2 ht (by omega)
       rw [hkk] at hlen
       match ks, hlen, hks with
       | [x, y], _, hks =>
         obtain ⟨x0, x1⟩ := hks x (by simp)
         obtain ⟨y0, y1⟩ := hks y (by simp)
         have d0 : dIdx 1 (encInts [x, y]) (.int .i64 0) = some (.int .i64 x) := rfl
         have d1 : dIdx 1 (encInts [x, y]) (.int .i64 1) = some (.int .i64 y) := rfl
         obtain ⟨m, c, q1, q2⟩ := sp_r16_Of hi b (x + y + 1) (by omega)
         have hj2 : ¬ (j < 2) := by simpa using hj'
         refine ⟨m, c, ?_, q2⟩
         have hj3 : ¬ ((j : Int) < ((0 + 1 + 1 : Nat) : Int)) := by omega
         simp [hj2, hj3, k1, k7, k6, d0, d1, dAdd (show (-9223372036854775808 : Int) ≤ x + y by omega) (by omega), dAdd (show (-9223372036854775808 : Int) ≤ x + y + 1 by omega) (by omega), q1]
         omega
      by_cases k8 : t.kind = 8
      ·obtain ⟨m, c, q1, q2⟩ := sp_r16_Of hi b (a + 1) (by omega)
       exact ⟨m, c, by simp [hj', k1, k7, k6, k8, dAdd (show (-9223372036854775808 : Int) ≤ a + 1 by omega) (by omega), q1], q2⟩
      by_cases k9 : t.kind = 9
      ·obtain ⟨u, hkk⟩ := Tm.kids1 ht (by omega)
       rw [hkk] at hlen
       match ks, hlen, hks with
       | [x], _, hks =>
         obtain ⟨x0, x1⟩ := hks x (by simp)
         have d0 : dIdx 1 (encInts [x]) (.int .i64 0) = some (.int .i64 x) := rfl
         obtain ⟨m, c, q1, q2⟩ := sp_r16_Of hi b ((t.a.size : Int) + 1 + x) (by omega)
         have hj2 : ¬ (j < 1) := by simpa using hj'
         refine ⟨m, c, ?_, q2⟩
         have hj3 : ¬ ((j : Int) < 1) := by omega
         simp [hj2, hj3, k1, k7, k6, k8, k9, Ty.eta, Ty.ag, hA, d0, dAdd (show (-9223372036854775808 : Int) ≤ (t.a.size : Int) + 1 by omega) (by omega), dAdd (show (-9223372036854775808 : Int) ≤ (t.a.size : Int) + 1 + x by omega) (by omega), q1]
      by_cases k16 : t.kind = 16
      ·obtain ⟨m, c, q1, q2⟩ := sp_r16_Of hi b (t.b.size : Int) (by omega)
       exact ⟨m, c, by simp [hj', k16, Ty.eta, Ty.ag, hB, q1], q2⟩
      exact ⟨a, b, by simp [hj', k1, k7, k6, k8, k9, k16], h0, h1⟩
    | succ n ihn =>
      intro j a b hj h0 h1
      have h : j < ks.length := by omega
      obtain ⟨x0, x1⟩ := hks _ (List.getElem_mem h)
      have hmx : 0 ≤ (if ks[j] > a then ks[j] else a) ∧ (if ks[j] > a then ks[j] else a) ≤ 3000 := by split <;> omega
      obtain ⟨m, c, q1, q2⟩ := ihn (j + 1) _ b (by omega) hmx.1 hmx.2
      refine ⟨m, c, ?_, q2⟩
      rw [eq_r17_bulk_25h]
      push_cast at q1
      simp only [dLen_ints, dBin_lss, Int.ofNat_lt, h, decide_true, ob_some', oif_bool, if_true, dIdx_ints h, isLeaf_int, og_true', dMax_int, dAdd1 (show j < 9223372036854775807 by omega)]
      push_cast
      exact q1
   have l5 : ∀ (n j : Nat) (ks : List Int) (b : Bool), j + n = t.kids.length → ks.length = j → (∀ x ∈ ks, Room x) → ∃ (m : Int) (c : Bool), P_r17_bulk_5h (run cfg) i (encRooms l) (encInts ks) (.int .i64 j) t.enc (bigSg sg i b) = some ([.int .i64 m], bigSg sg i c) ∧ Room m := by
    intro n
    induction n with
    | zero =>
      intro j ks b hj hlen hks
      obtain ⟨m, c, q1, q2⟩ := l25 ks hks (by omega) ks.length 0 1 b (by omega) (by omega) (by omega)
      refine ⟨m, c, ?_, q2⟩
      have hj' : ¬ j < t.kids.length := by omega
      rw [eq_r17_bulk_5h]
      simp [hj']
      exact q1
    | succ n ihn =>
      intro j ks b hj hlen hks
      have h : j < t.kids.length := by omega
      have hmem : t.kids[j] ∈ t.kids := List.getElem_mem h
      have hwk := Tm.wide_kid hmem
      have l22 : ∀ (l' : List (ByteArray × Int)) (b : Bool), RoomsOk l' → l'.length ≤ l.length + 2 + (t.pats.map Pat.size).sum → ∃ (m : Int) (c : Bool), P_r17_bulk_22 (run cfg) i (encRooms l) (encInts ks) (.int .i64 j) (encRooms l') t.enc (bigSg sg i b) = some ([.int .i64 m], bigSg sg i c) ∧ Room m := by
       intro l' b hr' hl'
       obtain ⟨m, c, q1, q2⟩ := ih _ hmem (Tm.right_kid ht hmem) (hf.kid hmem) (hz.kid hmem) sg i l' b hi hr' (by omega)
       obtain ⟨m', c', p1, p2⟩ := ihn (j + 1) (ks ++ [m]) c (by omega) (by simp [hlen]) (fun x hx => by
        rcases List.mem_append.1 hx with hx | hx
        ·exact hks x hx
        ·simp at hx; subst hx; exact q2)
       refine ⟨m', c', ?_, p2⟩
       rw [eq_r17_bulk_22]
       have hap : dApp 1 (encInts ks) (.list 1 [.int .i64 m]) = some (encInts (ks ++ [m])) := dApp_map (e := fun n => DV.int .i64 n) (by omega)
       push_cast at p1
       simp [dIdx_map h, Tm.eta, Tm.ag, q1, hap, dAdd1 (show j < 9223372036854775807 by omega), p1]
      have l12 : ∀ b : Bool, ∃ (m : Int) (c : Bool), P_r17_bulk_12 (run cfg) i (encRooms l) (encInts ks) (.int .i64 j) (encRooms l) t.enc (bigSg sg i b) = some ([.int .i64 m], bigSg sg i c) ∧ Room m := by
       intro b
       rw [eq_r17_bulk_12]
       by_cases k12 : t.kind = 12
       ·obtain ⟨m, c, q1, q2⟩ := sp_r16_Of hi b ((t.a.size : Int) + t.b.size + 1) (by omega)
        have r1 := hr.app (s := t.name) q2
        have m1 := sp_r17_more l t.name m (by omega)
        have a1 : dBin .add (.int .i64 (t.a.size : Int)) (.int .i64 (t.b.size : Int)) = some (.int .i64 ((t.a.size : Int) + t.b.size)) := dAdd (by omega) (by omega)
        have a2 : dBin .add (.int .i64 ((t.a.size : Int) + t.b.size)) (.int .i64 1) = some (.int .i64 ((t.a.size : Int) + t.b.size + 1)) := dAdd (by omega) (by omega)
        by_cases j0 : j = 0
        ·obtain ⟨m', c', p1, p2⟩ := sp_r16_Of hi c (t.a.size : Int) (by omega)
         have m2 := sp_r17_more (l ++ [(t.name, m)]) t.arg m' (by simp; omega)
         obtain ⟨z, d, o1, o2⟩ := l22 _ c' (r1.app (s := t.arg) p2) (by simp)
         refine ⟨z, d, ?_, o2⟩
         have j0' : (j : Int) = 0 := by omega
         rw [j0'] at o1
         simp [k12, Ty.eta, Ty.ag, hA, hB, a1, a2, q1, m1, j0, p1, m2]
         simpa using o1
        ·obtain ⟨z, d, o1, o2⟩ := l22 _ c r1 (by simp; omega)
         refine ⟨z, d, ?_, o2⟩
         simp [k12, Ty.eta, Ty.ag, hA, hB, a1, a2, q1, m1, j0, o1]
       by_cases k14 : t.kind = 14
       ·by_cases j0 : 0 < j
        ·by_cases jp : j ≤ t.pats.length
         ·have hp : j - 1 < t.pats.length := by omega
          have hmp := List.getElem_mem hp
          have fp := hf.one.pat _ hmp
          have hnm := sp_r05_Names _ fp.size
          have hnl := Pat.namesOn_len t.pats[j - 1] []
          have hms := mem_sum (f := Pat.size) hmp
          have j1 : 1 ≤ ks.length := by omega
          have d0 : dIdx 1 (encInts ks) (.int .i64 0) = some (.int .i64 ks[0]) := dIdx_ints (k := .i64) (i := 0) (by omega)
          have hk0 := hks _ (List.getElem_mem (show 0 < ks.length by omega))
          have hns : t.pats[j - 1].names.length ≤ t.pats[j - 1].size := by simpa [Pat.names] using hnl
          have hnb : t.pats[j - 1].names.length < 4294967297 := big (by have := fp.size; omega)
          have l19 : ∀ (n q : Nat) (l' : List (ByteArray × Int)) (b : Bool), q + n = t.pats[j - 1].names.length → l'.length = l.length + q → RoomsOk l' → ∃ (m : Int) (c : Bool), P_r17_bulk_19h (run cfg) i (encRooms l) (encInts ks) (.int .i64 j) (encRooms l') (encStrs t.pats[j - 1].names) (.int .i64 q) t.enc (bigSg sg i b) = some ([.int .i64 m], bigSg sg i c) ∧ Room m := by
           intro n
           induction n with
           | zero =>
             intro q l' b hq hl' hr'
             obtain ⟨z, d, o1, o2⟩ := l22 l' b hr' (by omega)
             refine ⟨z, d, ?_, o2⟩
             have : ¬ q < t.pats[j - 1].names.length := by omega
             rw [eq_r17_bulk_19h]
             simp [this, o1]
           | succ n ihq =>
             intro q l' b hq hl' hr'
             have hq' : q < t.pats[j - 1].names.length := by omega
             obtain ⟨z, d, o1, o2⟩ := ihq (q + 1) (l' ++ [(t.pats[j - 1].names[q], ks[0])]) b (by omega) (by simp [hl']; omega) (hr'.app hk0)
             refine ⟨z, d, ?_, o2⟩
             rw [eq_r17_bulk_19h]
             push_cast at o1
             simp [hq', dIdx_strs hq', d0, sp_r17_more l' _ _ (show l'.length < lim by omega), dAdd1 (show q < 9223372036854775807 by omega), o1]
          obtain ⟨z, d, o1, o2⟩ := l19 t.pats[j - 1].names.length 0 l b (by omega) (by omega) hr
          refine ⟨z, d, ?_, o2⟩
          have e3 : dBin .sub (.int .i64 (j : Int)) (.int .i64 1) = some (.int .i64 ((j - 1 : Nat) : Int)) := by rw [dBin_sub, wrap_id (by omega) (by omega)]; congr 2; omega
          have e4 : dIdx 7 (.list 7 (t.pats.map Pat.enc)) (.int .i64 ((j - 1 : Nat) : Int)) = some t.pats[j - 1].enc := dIdx_map hp
          simp [k14, j0, jp, e3, e4, Pat.eta, Pat.ag, hnm]
          exact o1
         ·obtain ⟨z, d, o1, o2⟩ := l22 l b hr (by omega)
          refine ⟨z, d, ?_, o2⟩
          simp [k14, j0, jp, o1]
        ·obtain ⟨z, d, o1, o2⟩ := l22 l b hr (by omega)
         refine ⟨z, d, ?_, o2⟩
         have j0' : j = 0 := by omega
         have j1' : (j : Int) = 0 := by omega
         rw [j1'] at o1
         simp [k14, j0']
         exact o1
       ·obtain ⟨z, d, o1, o2⟩ := l22 l b hr (by omega)
        refine ⟨z, d, ?_, o2⟩
        simp [k12, k14, o1]
      rw [eq_r17_bulk_5h]
      by_cases k9 : t.kind = 9
      ·obtain ⟨m, c, q1, q2⟩ := sp_r16_Of hi b (t.a.size : Int) (by omega)
       obtain ⟨z, d, o1, o2⟩ := l22 _ c (hr.app (s := t.name) q2) (by simp; omega)
       refine ⟨z, d, ?_, o2⟩
       simp [h, k9, Ty.eta, Ty.ag, hA, q1, sp_r17_more l t.name m (by omega), o1]
      by_cases k11 : t.kind = 11
      ·by_cases j1 : j = 1
       ·have d0 : dIdx 1 (encInts ks) (.int .i64 0) = some (.int .i64 ks[0]) := dIdx_ints (k := .i64) (i := 0) (by omega)
        have hk0 := hks _ (List.getElem_mem (show 0 < ks.length by omega))
        obtain ⟨z, d, o1, o2⟩ := l22 _ b (hr.app (s := t.name) hk0) (by simp; omega)
        refine ⟨z, d, ?_, o2⟩
        have j1' : (j : Int) = 1 := by omega
        have hc : (1 : Int) < (t.kids.length : Int) := by omega
        rw [j1'] at o1
        simp [j1', hc, k11, d0, sp_r17_more l t.name ks[0] (by omega)]
        exact o1
       ·obtain ⟨z, d, o1, o2⟩ := l12 b
        have j1' : ¬ (j : Int) = 1 := by omega
        exact ⟨z, d, by simp [h, k11, j1', j1, o1], o2⟩
      ·obtain ⟨z, d, o1, o2⟩ := l12 b
       exact ⟨z, d, by simp [h, k9, k11, o1], o2⟩
   have cd : cellDat [((.bool b : DV), Meta.val)] 0 = some (.bool b) := rfl
   cases b
   ·obtain ⟨m, c, q1, q2⟩ := l5 t.kids.length 0 [] false (by omega) rfl (by simp)
    refine ⟨m, c, call_r17_bulk _ _ _ _ ?_, q2⟩
    rw [eq_r17_bulk]
    simp [bigSg_box hi, cd]
    exact q1
   ·refine ⟨1, true, call_r17_bulk _ _ _ _ ?_, by unfold Room; omega⟩
    rw [eq_r17_bulk]
    simp [bigSg_box hi, cd]
theorem sp_r17_TameTerm (t : Tm) (hf : t.fit) (hz : t.sized) (hw : t.wide ≤ lim) : ∃ b : Bool, (run cfg).p F_r17_TameTerm [t.enc] = some (.bool b) := by
 by_cases ht : t.right = true
 ·obtain ⟨m, c, q1, q2⟩ := sp_r17_bulk t ht hf hz [.box [(.bool false, .val)]] 0 [] false (by simp) (fun x hx => by cases hx) (by simpa using hw)
  have e : bigSg [SObj.box [(.bool false, .val)]] 0 false = [.box [(.bool false, .val)]] := rfl
  have e2 : encRooms [] = .list 2 [] := rfl
  rw [e, e2] at q1
  refine ⟨!c, call_r17_TameTerm _ ?_⟩
  rw [eq_r17_TameTerm]
  have cd : cellDat [((.bool c : DV), Meta.val)] 0 = some (.bool c) := rfl
  simp [Tm.eta, Tm.ag, sp_r17_Right t hf, ht, q1, bigSg_box (show 0 < [SObj.box [(.bool false, .val)]].length by simp), cd]
 ·refine ⟨true, call_r17_TameTerm _ ?_⟩
  rw [eq_r17_TameTerm]
  have ht' : t.right = false := by simpa using ht
  simp [Tm.eta, Tm.ag, sp_r17_Right t hf, ht']
theorem cast_agg (a b : Ty) (t : Tm) : DV.agg [.int .i64 16, .int .i64 0, .int .i64 0, .str ⟨#[]⟩, .str ⟨#[]⟩, .int .i64 0, .str ⟨#[]⟩, .int .i64 0, .int .i64 0, .bool false, .list 1 [], .int .i64 a.kind, .int .i64 a.n, .list 3 (a.kids.map Ty.enc), .int .i64 b.kind, .int .i64 b.n, .list 3 (b.kids.map Ty.enc), .list 3 [], .list 7 [], .list 20 [t.enc]] = (castTm a b t).enc := (Tm.enc_eq (castTm a b t)).symm
theorem sp_l19_cast (a b : Int) (t : Tm) : (run cfg).p F_l19_cast [.int .i64 a, .int .i64 b, t.enc] = some (castTm (.mk a 0 []) (.mk b 0 []) t).enc := by
 refine call_l19_cast _ _ _ ?_
 rw [eq_l19_cast]
 simp only [isAggN_Tm, og_true', sp_r03_Leaf, ob_some', isAggN_Ty, Ty.proj0, Ty.proj1, Ty.proj2, Tm.pj, Tm.eta, Tm.ag, cast_agg]
def fiveTm : Tm := .mk 2 0 0 nil8 nil8 5 nil8 0 0 false [] zeroTy zeroTy [] [] []
def xTm : Tm := .mk 1 0 0 ⟨#[120]⟩ nil8 0 nil8 0 0 false [] zeroTy zeroTy [] [] []
theorem five_enc : fiveTm.enc = .agg [.int .i64 2, .int .i64 0, .int .i64 0, .str ⟨#[]⟩, .str ⟨#[]⟩, .int .i64 5, .str ⟨#[]⟩, .int .i64 0, .int .i64 0, .bool false, .list 1 [], .int .i64 0, .int .i64 0, .list 3 [], .int .i64 0, .int .i64 0, .list 3 [], .list 3 [], .list 7 [], .list 20 []] := Tm.enc_eq _
theorem x_enc : xTm.enc = .agg [.int .i64 1, .int .i64 0, .int .i64 0, .str ⟨#[120]⟩, .str ⟨#[]⟩, .int .i64 0, .str ⟨#[]⟩, .int .i64 0, .int .i64 0, .bool false, .list 1 [], .int .i64 0, .int .i64 0, .list 3 [], .int .i64 0, .int .i64 0, .list 3 [], .list 3 [], .list 7 [], .list 20 []] := Tm.enc_eq _
theorem zero_none : zeroTy.none = true := by simp [Ty.none, zeroTy]
theorem five_right : fiveTm.right = true := by
 rw [Tm.right_eq]
 simp [fiveTm, Tm.one, Tm.one1, Tm.one2, Tm.one3, Tm.one4, Tm.one5, Tm.lists, kOk, kKids, kName, kArg, kN, kS, kOp, kAt, kVars, kArgs, kPats, kA, kB, kLabel, namedB, typedB, nil8_size, zero_none]
theorem x_right : xTm.right = true := by
 have h : nameB ⟨#[120]⟩ = true := by decide +kernel
 rw [Tm.right_eq]
 simp [xTm, Tm.one, Tm.one1, Tm.one2, Tm.one3, Tm.one4, Tm.one5, Tm.lists, kOk, kKids, kName, kArg, kN, kS, kOp, kAt, kVars, kArgs, kPats, kA, kB, kLabel, namedB, typedB, nil8_size, zero_none, h]
theorem five_mass : fiveTm.mass ≤ 100 := by
 rw [Tm.mass_eq]
 simp [fiveTm, nil8_size, zeroTy, Ty.size_eq]
theorem x_mass : xTm.mass ≤ 100 := by
 have h : (⟨#[120]⟩ : ByteArray).size = 1 := rfl
 rw [Tm.mass_eq]
 simp [xTm, nil8_size, zeroTy, Ty.size_eq, h]
theorem five_ck : ck fiveTm [] [] = .ok (.mk 1 0 []) := by rw [ck_leaf (.inl rfl)]; rfl
theorem x_ck : ckType xTm = .error 6 := by
 unfold ckType
 rw [if_pos x_right, ck_name rfl]
 rfl
theorem leaf_right {k : Int} (h : 1 ≤ k ∧ k ≤ 5) : (Ty.mk k 0 []).right = true := right_leaf h
theorem leaf_closed {k : Int} (h : k ≠ 6) : (Ty.mk k 0 []).without 6 = true := by rw [Ty.without_eq]; simp [h]
theorem leaf_vc {k : Int} (h : k ≠ 6) : (Ty.mk k 0 []).vcount ≤ lim := by rw [Ty.vcount_closed (leaf_closed h)]; exact Nat.zero_le _
theorem sp_l19_wakes : (run cfg).p F_l19_wakes [] = some (.bool true) := by
 refine call_l19_wakes ?_
 rw [eq_l19_wakes]
 have r1 := leaf_right (k := 1) (by omega)
 have r2 := leaf_right (k := 2) (by omega)
 have r5 := leaf_right (k := 5) (by omega)
 have ff : fiveTm.fit := Tm.fit_mass (by have := five_mass; omega)
 have fw : fiveTm.wide ≤ 200 := by have := five_mass; have := Tm.wide_mass fiveTm; omega
 have c1 := sp_check_Type (castTm (.mk 1 0 []) (.mk 5 0 []) fiveTm) (cast_fit (Ty.thin_of_right r1) (Ty.thin_of_right r5) (leaf_vc (by omega)) (leaf_vc (by omega)) ff) (by rw [cast_wide]; unfold lim; omega)
 have c2 := sp_check_Type (castTm (.mk 1 0 []) (.mk 2 0 []) fiveTm) (cast_fit (Ty.thin_of_right r1) (Ty.thin_of_right r2) (leaf_vc (by omega)) (leaf_vc (by omega)) ff) (by rw [cast_wide]; unfold lim; omega)
 have c3 := sp_check_Type xTm (Tm.fit_mass (by have := x_mass; omega)) (by have := x_mass; have := Tm.wide_mass xTm; unfold lim; omega)
 rw [ck_cast five_right r1 r5, five_ck] at c1
 rw [ck_cast five_right r1 r2, five_ck] at c2
 rw [x_ck] at c3
 have a15 : (Ty.mk 1 0 []).agrees (.mk 5 0 []) = true := by rw [Ty.agrees_eq]; simp [Ty.without_eq]
 have a12 : (Ty.mk 1 0 []).agrees (.mk 2 0 []) = false := by rw [Ty.agrees_eq]; simp
 simp only [Except.bind, inS_nil, leaf_closed (show (1 : Int) ≠ 6 by omega), leaf_closed (show (2 : Int) ≠ 6 by omega), leaf_closed (show (5 : Int) ≠ 6 by omega), Bool.and_true, if_true, a15, a12, and_true, and_false, Bool.false_eq_true, if_false, resL] at c1 c2
 simp only [resL] at c3
 simp only [← five_enc, ← x_enc]
 simp [sp_l19_cast, c1, c2, c3]
theorem resL_err (e : Int) : resL (.error e) = [zeroTy.enc, .int .i64 e] := rfl
theorem resL_ok (y : Ty) : resL (.ok y) = [y.enc, .int .i64 0] := rfl
def kw (e c : Int) : Int := if e = 0 then c else e
def kSg (sg : List SObj) (i : Nat) (e : Int) : List SObj := sg.set i (.box [(.int .i64 e, .val)])
def KIs (sg : List SObj) (i : Nat) (r : Option (List DV × List SObj)) : Res → Prop
 | .ok y => r = some ([y.enc], kSg sg i 0)
 | .error e => ∃ z : Ty, z.thin = true ∧ r = some ([z.enc], kSg sg i e)
theorem KIs.ok {sg : List SObj} {i : Nat} {r : Option (List DV × List SObj)} {y : Ty} (h : r = some ([y.enc], kSg sg i 0)) : KIs sg i r (.ok y) := h
theorem sp_l17_weighPat2 (p : Pat) : p.thin = true → ∀ n : Int, 0 ≤ n → n ≤ 500 → ∃ m : Int, (run cfg).p F_l17_weighPat [p.enc, .int .i64 n] = some (.int .i64 m) ∧ 0 ≤ m ∧ m ≤ 501 ∧ n ≤ m := by
 induction p using Pat.ind with
 | h p ih =>
   intro ht n h0 h1
   have hb := p.thin_len ht
   have loop : ∀ (k j : Nat) (n : Int), j + k = p.kids.length → 0 ≤ n → n ≤ 501 → ∃ m : Int, P_l17_weighPat_5h (run cfg) (.int .i64 n) (.int .i64 j) p.enc = some (.int .i64 m) ∧ 0 ≤ m ∧ m ≤ 501 ∧ n ≤ m := by
    intro k
    induction k with
    | zero =>
      intro j n hj h0 h1
      refine ⟨n, ?_, h0, h1, Int.le_refl _⟩
      have : ¬ j < p.kids.length := by omega
      rw [eq_l17_weighPat_5h]
      simp [this]
    | succ k ihk =>
      intro j n hj h0 h1
      have hj' : j < p.kids.length := by omega
      rw [eq_l17_weighPat_5h]
      by_cases hn : n ≤ 500
      ·obtain ⟨m, a1, a2, a3, a4⟩ := ih _ (List.getElem_mem hj') (Pat.thin_kid ht (List.getElem_mem hj')) n h0 hn
       obtain ⟨m', b1, b2, b3, b4⟩ := ihk (j + 1) m (by omega) a2 a3
       push_cast at b1
       exact ⟨m', by simp [hj', hn, dIdx_map hj', Pat.eta, Pat.ag, a1, dAdd1 (show j < 9223372036854775807 by omega), b1], b2, b3, by omega⟩
      ·exact ⟨n, by simp [hj', hn], h0, h1, Int.le_refl _⟩
   by_cases c1 : (300 : Int) < (p.s.size : Int)
   ·refine ⟨501, call_l17_weighPat _ _ ?_, by omega, by omega, by omega⟩
    rw [eq_l17_weighPat]
    simp [c1]
   by_cases c2 : (300 : Int) < (p.name.size : Int)
   ·refine ⟨501, call_l17_weighPat _ _ ?_, by omega, by omega, by omega⟩
    rw [eq_l17_weighPat]
    simp [c1, c2]
   obtain ⟨m, a1, a2, a3, a4⟩ := loop p.kids.length 0 (n + 1) (by omega) (by omega) (by omega)
   refine ⟨m, call_l17_weighPat _ _ ?_, a2, a3, by omega⟩
   rw [eq_l17_weighPat]
   have hadd : dBin .add (.int .i64 n) (.int .i64 1) = some (.int .i64 (n + 1)) := dAdd (by omega) (by omega)
   simp [c1, c2, hadd]
   exact a1
theorem sp_l17_weigh2 (t : Tm) : t.fit → t.sized → ∀ n : Int, 0 ≤ n → n ≤ 500 → ∃ m : Int, (run cfg).p F_l17_weigh [t.enc, .int .i64 n] = some (.int .i64 m) ∧ 0 ≤ m ∧ m ≤ 5000000000 ∧ (m ≤ 500 → n + t.size ≤ m) := by
 induction t using Tm.ind with
 | h t ih =>
   intro ht hz n h0 h1
   have hk := big (Nat.le_of_lt ht.one.kids)
   have hp := big (Nat.le_of_lt ht.one.pats)
   have ha := big (Nat.le_of_lt ht.one.args)
   have hv := big (Nat.le_of_lt ht.one.vars)
   have l3 : ∀ (k j : Nat) (n : Int), j + k = t.kids.length → 0 ≤ n → n ≤ 5000000000 → ∃ m : Int, P_l17_weigh_15h (run cfg) (.int .i64 n) (.int .i64 j) t.enc = some (.int .i64 m) ∧ 0 ≤ m ∧ m ≤ 5000000000 ∧ (m ≤ 500 → n + (((t.kids.drop j).map Tm.size).sum : Nat) ≤ m) := by
    intro k
    induction k with
    | zero =>
      intro j n hj h0 h1
      refine ⟨n, ?_, h0, h1, fun _ => by rw [List.drop_of_length_le (by omega)]; simp⟩
      have : ¬ j < t.kids.length := by omega
      rw [eq_l17_weigh_15h]
      simp [this]
    | succ k ihk =>
      intro j n hj h0 h1
      have hj' : j < t.kids.length := by omega
      rw [eq_l17_weigh_15h]
      by_cases hn : n ≤ 500
      ·obtain ⟨m, a1, a2, a3, a4⟩ := ih _ (List.getElem_mem hj') (ht.kid (List.getElem_mem hj')) (hz.kid (List.getElem_mem hj')) n h0 hn
       obtain ⟨m', b1, b2, b3, b4⟩ := ihk (j + 1) m (by omega) a2 a3
       push_cast at b1
       exact ⟨m', by simp [hj', hn, dIdx_map hj', Tm.eta, Tm.ag, a1, dAdd1 (show j < 9223372036854775807 by omega), b1], b2, b3, fun h => by
        have g1 := b4 h
        rw [List.drop_eq_getElem_cons hj', List.map_cons, List.sum_cons]
        have g2 := a4 (by omega)
        push_cast
        omega⟩
      ·exact ⟨n, by simp [hj', hn], h0, h1, fun h => absurd h (by omega)⟩
   have l2 : ∀ (k j : Nat) (n : Int), j + k = t.pats.length → 0 ≤ n → n ≤ 5000000000 → ∃ m : Int, P_l17_weigh_11h (run cfg) (.int .i64 n) (.int .i64 j) t.enc = some (.int .i64 m) ∧ 0 ≤ m ∧ m ≤ 5000000000 ∧ (m ≤ 500 → n + ((t.kids.map Tm.size).sum : Nat) ≤ m) := by
    intro k
    induction k with
    | zero =>
      intro j n hj h0 h1
      obtain ⟨m, a1, a2, a3, a4⟩ := l3 t.kids.length 0 n (by omega) h0 h1
      refine ⟨m, ?_, a2, a3, by simpa using a4⟩
      have : ¬ j < t.pats.length := by omega
      rw [eq_l17_weigh_11h]
      simp [this]
      exact a1
    | succ k ihk =>
      intro j n hj h0 h1
      have hj' : j < t.pats.length := by omega
      rw [eq_l17_weigh_11h]
      by_cases hn : n ≤ 500
      ·obtain ⟨m, a1, a2, a3, a4⟩ := sp_l17_weighPat2 _ (Pat.fit_thin (ht.one.pat _ (List.getElem_mem hj'))) n h0 hn
       obtain ⟨m', b1, b2, b3, b4⟩ := ihk (j + 1) m (by omega) a2 (by omega)
       push_cast at b1
       exact ⟨m', by simp [hj', hn, dIdx_map hj', Pat.eta, Pat.ag, a1, dAdd1 (show j < 9223372036854775807 by omega), b1], b2, b3, fun h => by have := b4 h; omega⟩
      ·obtain ⟨m, a1, a2, a3, a4⟩ := l3 t.kids.length 0 n (by omega) h0 h1
       exact ⟨m, by simp [hj', hn]; exact a1, a2, a3, by simpa using a4⟩
   have l1 : ∀ (k j : Nat) (n : Int), j + k = t.args.length → 0 ≤ n → n ≤ 5000000000 → ∃ m : Int, P_l17_weigh_5h (run cfg) (.int .i64 n) (.int .i64 j) t.enc = some (.int .i64 m) ∧ 0 ≤ m ∧ m ≤ 5000000000 ∧ (m ≤ 500 → n + ((t.kids.map Tm.size).sum : Nat) ≤ m) := by
    intro k
    induction k with
    | zero =>
      intro j n hj h0 h1
      obtain ⟨m, a1, a2, a3, a4⟩ := l2 t.pats.length 0 n (by omega) h0 h1
      refine ⟨m, ?_, a2, a3, by simpa using a4⟩
      have : ¬ j < t.args.length := by omega
      rw [eq_l17_weigh_5h]
      simp [this]
      exact a1
    | succ k ihk =>
      intro j n hj h0 h1
      have hj' : j < t.args.length := by omega
      rw [eq_l17_weigh_5h]
      by_cases hn : n ≤ 500
      ·obtain ⟨b, hb⟩ := sp_l17_light _ (hz.args _ (List.getElem_mem hj'))
       have hadd : dBin .add (.int .i64 n) (.int .i64 1) = some (.int .i64 (n + 1)) := dAdd (by omega) (by omega)
       cases b
       ·exact ⟨501, by simp [hj', hn, hadd, dIdx_map hj', Ty.eta, Ty.ag, hb], by omega, by omega, fun h => absurd h (by omega)⟩
       ·obtain ⟨m', b1, b2, b3, b4⟩ := ihk (j + 1) (n + 1) (by omega) (by omega) (by omega)
        push_cast at b1
        exact ⟨m', by simp [hj', hn, hadd, dIdx_map hj', Ty.eta, Ty.ag, hb, dAdd1 (show j < 9223372036854775807 by omega), b1], b2, b3, fun h => by have := b4 h; omega⟩
      ·obtain ⟨m, a1, a2, a3, a4⟩ := l2 t.pats.length 0 n (by omega) h0 h1
       exact ⟨m, by simp [hj', hn]; exact a1, a2, a3, by simpa using a4⟩
   have hadd : dBin .add (.int .i64 n) (.int .i64 1) = some (.int .i64 (n + 1)) := dAdd (by omega) (by omega)
   have hadd2 : dBin .add (.int .i64 (n + 1)) (.int .i64 (t.vars.length : Int)) = some (.int .i64 (n + 1 + t.vars.length)) := dAdd (by omega) (by omega)
   by_cases c1 : (300 : Int) < (t.s.size : Int)
   ·refine ⟨501, call_l17_weigh _ _ ?_, by omega, by omega, fun h => absurd h (by omega)⟩
    rw [eq_l17_weigh]
    simp [c1, hadd, hadd2]
   by_cases c2 : (300 : Int) < (t.name.size : Int)
   ·refine ⟨501, call_l17_weigh _ _ ?_, by omega, by omega, fun h => absurd h (by omega)⟩
    rw [eq_l17_weigh]
    simp [c1, c2, hadd, hadd2]
   by_cases c3 : (300 : Int) < (t.arg.size : Int)
   ·refine ⟨501, call_l17_weigh _ _ ?_, by omega, by omega, fun h => absurd h (by omega)⟩
    rw [eq_l17_weigh]
    simp [c1, c2, c3, hadd, hadd2]
   obtain ⟨b1, hb1⟩ := sp_l17_light _ hz.a
   obtain ⟨b2, hb2⟩ := sp_l17_light _ hz.b
   cases b1
   ·refine ⟨501, call_l17_weigh _ _ ?_, by omega, by omega, fun h => absurd h (by omega)⟩
    rw [eq_l17_weigh]
    simp [c1, c2, c3, hadd, hadd2, Ty.eta, Ty.ag, hb1]
   cases b2
   ·refine ⟨501, call_l17_weigh _ _ ?_, by omega, by omega, fun h => absurd h (by omega)⟩
    rw [eq_l17_weigh]
    simp [c1, c2, c3, hadd, hadd2, Ty.eta, Ty.ag, hb1, hb2]
   obtain ⟨m, a1, a2, a3, a4⟩ := l1 t.args.length 0 (n + 1 + t.vars.length) (by omega) (by omega) (by omega)
   refine ⟨m, call_l17_weigh _ _ ?_, a2, a3, fun h => by
    have := a4 h
    have := t.size_eq
    push_cast at *
    omega⟩
   rw [eq_l17_weigh]
   simp [c1, c2, c3, hadd, hadd2, Ty.eta, Ty.ag, hb1, hb2]
   exact a1
theorem sp_l17_weigh_more2 (t : Tm) (ht : t.fit) (hz : t.sized) (n : Int) (h0 : 500 < n) (h1 : n ≤ 1099511627776) : ∃ m : Int, (run cfg).p F_l17_weigh [t.enc, .int .i64 n] = some (.int .i64 m) ∧ 500 < m ∧ m ≤ n + 4294967298 := by
 have hv := big (Nat.le_of_lt ht.one.vars)
 have hn : ∀ m : Int, n ≤ m → ¬ m ≤ 500 := fun m h => by omega
 have l3 : ∀ m : Int, n ≤ m → P_l17_weigh_15h (run cfg) (.int .i64 m) (.int .i64 0) t.enc = some (.int .i64 m) := by
  intro m hm
  have := hn m hm
  rw [eq_l17_weigh_15h]
  simp [this]
 have l2 : ∀ m : Int, n ≤ m → P_l17_weigh_11h (run cfg) (.int .i64 m) (.int .i64 0) t.enc = some (.int .i64 m) := by
  intro m hm
  have := hn m hm
  rw [eq_l17_weigh_11h]
  simp [this, l3 m hm]
 have l1 : ∀ m : Int, n ≤ m → P_l17_weigh_5h (run cfg) (.int .i64 m) (.int .i64 0) t.enc = some (.int .i64 m) := by
  intro m hm
  have := hn m hm
  rw [eq_l17_weigh_5h]
  simp [this, l2 m hm]
 have hadd : dBin .add (.int .i64 n) (.int .i64 1) = some (.int .i64 (n + 1)) := dAdd (by omega) (by omega)
 have hadd2 : dBin .add (.int .i64 (n + 1)) (.int .i64 (t.vars.length : Int)) = some (.int .i64 (n + 1 + t.vars.length)) := dAdd (by omega) (by omega)
 by_cases c1 : (300 : Int) < (t.s.size : Int)
 ·refine ⟨501, call_l17_weigh _ _ ?_, by omega, by omega⟩
  rw [eq_l17_weigh]
  simp [c1, hadd, hadd2]
 by_cases c2 : (300 : Int) < (t.name.size : Int)
 ·refine ⟨501, call_l17_weigh _ _ ?_, by omega, by omega⟩
  rw [eq_l17_weigh]
  simp [c1, c2, hadd, hadd2]
 by_cases c3 : (300 : Int) < (t.arg.size : Int)
 ·refine ⟨501, call_l17_weigh _ _ ?_, by omega, by omega⟩
  rw [eq_l17_weigh]
  simp [c1, c2, c3, hadd, hadd2]
 obtain ⟨b1, hb1⟩ := sp_l17_light _ hz.a
 obtain ⟨b2, hb2⟩ := sp_l17_light _ hz.b
 cases b1
 ·refine ⟨501, call_l17_weigh _ _ ?_, by omega, by omega⟩
  rw [eq_l17_weigh]
  simp [c1, c2, c3, hadd, hadd2, Ty.eta, Ty.ag, hb1]
 cases b2
 ·refine ⟨501, call_l17_weigh _ _ ?_, by omega, by omega⟩
  rw [eq_l17_weigh]
  simp [c1, c2, c3, hadd, hadd2, Ty.eta, Ty.ag, hb1, hb2]
 refine ⟨n + 1 + t.vars.length, call_l17_weigh _ _ ?_, by omega, by omega⟩
 rw [eq_l17_weigh]
 simp [c1, c2, c3, hadd, hadd2, Ty.eta, Ty.ag, hb1, hb2]
 exact l1 _ (by omega)
theorem sp_l17_Heavy2 (l : List Tm) (hl : l.length ≤ 16) (ft : ∀ t ∈ l, t.fit) (hz : ∀ t ∈ l, t.sized) : ∃ b : Bool, (run cfg).p F_l17_Heavy [.list 20 (l.map Tm.enc)] = some (.bool b) ∧ (b = false → (l.map Tm.size).sum ≤ 500) := by
 have loop : ∀ (k j : Nat) (n : Int), j + k = l.length → 0 ≤ n → n ≤ (j + 1) * 5000000000 → ∃ b : Bool, P_l17_Heavy_3h (run cfg) (.list 20 (l.map Tm.enc)) (.int .i64 n) (.int .i64 (j : Int)) = some (.bool b) ∧ (b = false → n + (((l.drop j).map Tm.size).sum : Nat) ≤ 500) := by
  intro k
  induction k with
  | zero =>
    intro j n hj h0 h1
    have : ¬ j < l.length := by omega
    refine ⟨decide (500 < n), ?_, fun h => ?_⟩
    ·rw [eq_l17_Heavy_3h]
     simp [this]
    ·rw [List.drop_of_length_le (by omega)]
     simp at h
     simp
     omega
  | succ k ih =>
    intro j n hj h0 h1
    have h : j < l.length := by omega
    obtain ⟨m, a1, a2, a3, a4⟩ : ∃ m : Int, (run cfg).p F_l17_weigh [l[j].enc, .int .i64 n] = some (.int .i64 m) ∧ 0 ≤ m ∧ m ≤ n + 5000000000 ∧ (m ≤ 500 → n + l[j].size ≤ m) := by
     by_cases hn : n ≤ 500
     ·obtain ⟨m, a1, a2, a3, a4⟩ := sp_l17_weigh2 _ (ft _ (List.getElem_mem h)) (hz _ (List.getElem_mem h)) n h0 hn
      exact ⟨m, a1, a2, by omega, a4⟩
     ·obtain ⟨m, a1, a2, a3⟩ := sp_l17_weigh_more2 _ (ft _ (List.getElem_mem h)) (hz _ (List.getElem_mem h)) n (by omega) (by omega)
      exact ⟨m, a1, by omega, by omega, fun h => absurd h (by omega)⟩
    obtain ⟨b, hb, hb2⟩ := ih (j + 1) m (by omega) a2 (by omega)
    push_cast at hb
    refine ⟨b, ?_, fun hf => ?_⟩
    ·rw [eq_l17_Heavy_3h]
     simp [h, dIdx_map h, Tm.eta, Tm.ag, a1, dAdd1 (show j < 9223372036854775807 by omega), hb]
    ·have g1 := hb2 hf
     rw [List.drop_eq_getElem_cons h, List.map_cons, List.sum_cons]
     have g2 := a4 (by omega)
     push_cast
     omega
 obtain ⟨b, hb, hb2⟩ := loop l.length 0 0 (by omega) (by omega) (by omega)
 refine ⟨b, call_l17_Heavy _ ?_, fun h => ?_⟩
 ·rw [eq_l17_Heavy]
  simpa using hb
 ·have := hb2 h
  simp at this
  omega
theorem tmx (k : Tm) : (DV.agg [proj 0 k.enc, proj 1 k.enc, proj 2 k.enc, proj 3 k.enc, proj 4 k.enc, proj 5 k.enc, proj 6 k.enc, proj 7 k.enc, proj 8 k.enc, proj 9 k.enc, proj 10 k.enc, proj 11 k.enc, proj 12 k.enc, proj 13 k.enc, proj 14 k.enc, proj 15 k.enc, proj 16 k.enc, proj 17 k.enc, proj 18 k.enc, proj 19 k.enc]) = k.enc := by simp [Tm.eta, Tm.ag]
theorem Tm.vs_mass (t : Tm) : t.vs.length ≤ t.mass := by
 induction t using Tm.ind with
 | h t ih =>
   rw [Tm.vs_eq, Tm.mass_eq]
   have key : ∀ ks : List Tm, (∀ k ∈ ks, k.vs.length ≤ k.mass) → (ks.flatMap Tm.vs).length ≤ (ks.map Tm.mass).sum := by
    intro ks
    induction ks with
    | nil => simp
    | cons k ks ihk =>
      intro h
      have h1 := h k (List.mem_cons_self ..)
      have h2 := ihk fun x hx => h x (List.mem_cons_of_mem _ hx)
      simp only [List.flatMap_cons, List.length_append, List.map_cons, List.sum_cons]
      omega
   have := key t.kids ih
   simp only [List.length_append]
   omega
theorem dApp_intsV {l m : List Int} (h : l.length + m.length ≤ lim) : dApp 1 (encInts l) (encInts m) = some (encInts (l ++ m)) := by
 unfold encInts
 exact dApp_maps h
theorem sp_l19_vars (t : Tm) : t.fit → ∀ (l : List Int) (sg : List SObj), l.length + t.vs.length ≤ lim → (run cfg).r F_l19_vars [(t.enc, .val), (encInts l, .own)] sg = some ([encInts (l ++ t.vs)], sg) := by
 induction t using Tm.ind with
 | h t ih =>
   intro ft l sg hl
   have hk := big (Nat.le_of_lt ft.one.kids)
   rw [Tm.vs_eq, List.length_append] at hl
   have loop : ∀ (n j : Nat) (acc : List Int), j + n = t.kids.length → acc.length + ((t.kids.drop j).flatMap Tm.vs).length ≤ lim → P_l19_vars_3h (run cfg) (encInts acc) (.int .i64 (j : Int)) t.enc sg = some ([encInts (acc ++ (t.kids.drop j).flatMap Tm.vs)], sg) := by
    intro n
    induction n with
    | zero =>
      intro j acc hj _
      have e : j = t.kids.length := by omega
      subst e
      rw [eq_l19_vars_3h]
      simp only [Tm.proj19 t, dLen_list, List.length_map, dBin_lss, Int.lt_irrefl, decide_false, ob_some', oif_bool, Bool.false_eq_true, if_false, List.drop_length, List.flatMap_nil, List.append_nil]
    | succ n ihn =>
      intro j acc hj ha
      have h : j < t.kids.length := by omega
      rw [List.drop_eq_getElem_cons h, List.flatMap_cons, List.length_append] at ha
      have e1 : dBin .add (.int .i64 (j : Int)) (.int .i64 1) = some (.int .i64 ((j + 1 : Nat) : Int)) := dAdd1 (show j < 9223372036854775807 by omega)
      have c := ih _ (List.getElem_mem h) (ft.kid (List.getElem_mem h)) acc sg (by omega)
      have nx := ihn (j + 1) (acc ++ t.kids[j].vs) (by omega) (by rw [List.length_append]; omega)
      rw [eq_l19_vars_3h]
      simp only [Tm.proj19 t, dLen_list, List.length_map, dBin_lss, Int.ofNat_lt, h, decide_true, ob_some', oif_bool, if_true, dIdx_map h, tmx, c, List.getD_cons_zero, e1]
      rw [nx, List.drop_eq_getElem_cons h, List.flatMap_cons, List.append_assoc]
   refine call_l19_vars _ _ _ ?_
   rw [eq_l19_vars]
   have p10 : proj 10 t.enc = encInts t.vars := by rw [Tm.proj10]
   have lp := loop t.kids.length 0 (l ++ t.vars) (by omega) (by rw [List.length_append, List.drop_zero]; omega)
   rw [List.drop_zero] at lp
   simp only [isAggN_Tm, og_true', p10, dApp_intsV (l := l) (m := t.vars) (by omega), ob_some']
   rw [Tm.vs_eq, ← List.append_assoc]
   exact lp
end Go.Su

/-
 The law CheckTypes answers true on data.
-/
namespace Go.Su
set_option linter.unusedVariables false
set_option linter.unusedSimpArgs false
theorem law_checktypes (t : Tm) (l : Bds) (hm : t.mass ≤ 1048576) (hl : l.length ≤ lim) (hz : ∀ e ∈ l, e.2.size ≤ lim) : (run cfg).p F_l19_CheckTypes [t.enc, encBnds l] = some (.bool true) := by
 have ft : t.fit := Tm.fit_mass (by omega)
 have zt : t.sized := Tm.sized_mass (by omega)
 have wt : t.wide ≤ lim := by have := t.wide_mass; unfold lim; omega
 have hb := big hl
 have hlt : ∀ e ∈ l, e.2.thin = true := fun e he => Ty.thin_of_size (hz e he)
 obtain ⟨b1, h1, -⟩ := sp_l17_Heavy2 [t] (by simp) (by simp [ft]) (by simp [zt])
 simp only [List.map_cons, List.map_nil] at h1
 have r1 := sp_r17_Right t ft
 obtain ⟨b3, h3⟩ := sp_r17_TameTerm t ft zt wt
 have vt := t.vs_mass
 have q1 := sp_l19_vars t ft [] [] (by unfold lim; simp; omega)
 rw [List.nil_append] at q1
 rw [show encInts [] = (DV.list 1 [] : DV) from rfl] at q1
 have dl : dLen (encBnds l) = some (.int .i64 l.length) := by simp [encBnds]
 have x0 : ∀ a b, dExt 0 (.tup [a, b]) = some a := fun _ _ => rfl
 have x1 : ∀ a b, dExt 1 (.tup [a, b]) = some b := fun _ _ => rfl
 refine call_l19_CheckTypes _ _ ?_
 rw [eq_l19_CheckTypes]
 simp only [tmx3, isAggN_Tm, og_true', h1, ob_some', ogd_bool, r1, dUn_not, dl, dBin_gtr, h3, oif_bool, q1, List.getD_cons_zero]
 split
 ·rfl
 cases c1 : t.right
 ·simp
 simp only [Bool.not_true, Bool.false_eq_true, if_false]
 split
 ·rfl
 split
 ·rfl
 have fin : rightBinds l = true → (∀ b ∈ l, b.1 ∉ t.vs) → P_l19_CheckTypes_5h (run cfg) (encBnds l) (encInts t.vs) (.int .i64 (l.length : Int)) t.enc [] = some (.bool true) := by
  intro hr hv
  have cT := sp_check_Type t ft wt
  rw [eq_l19_CheckTypes_5h]
  simp only [dl, dBin_lss, Int.lt_irrefl, decide_false, ob_some', oif_bool, Bool.false_eq_true, if_false, tmx3, cT]
  cases hc : ckType t with
  | error e =>
    have he : e ≠ 0 := by
     unfold ckType at hc
     rw [if_pos c1] at hc
     exact (ck_err _ _ _ _ hc).ne
    simp only [resL_err, dExt0, dExt1, ob_some', isAggN_Ty, og_true', dBin_neq, he, decide_false, Bool.not_false, oif_bool, if_true, sp_l19_wakes]
  | ok y =>
    have hc2 : ck t [] [] = .ok y := by
     unfold ckType at hc
     rwa [if_pos c1] at hc
    have ht := Tm.typs_off t c1 [] [] y hc2 l fun b hb => ⟨hv b hb, by simp⟩
    have P := sp_term_Types t ft l hl hlt
    rw [if_pos ⟨c1, hr⟩, ht] at P
    have ry := ck_right _ c1 ft [] [] y (fun x hx => by cases hx) hc2
    have oy := ck_occ _ c1 ft [] [] y (fun x hx => by cases hx) (fun x hx => by cases hx) hc2
    have ty := Ty.thin_of_right ry
    have hS := sp_scheme_Subst y l ty hl hlt
    rw [if_pos ⟨ry, hr⟩, Ty.put_off y fun v h => absurd (oy v h) (by simp)] at hS
    have ks := sp_keep_Same y ty y
    have kw := sp_r03_Without 6 y ty
    rw [Ty.closed_iff.2 fun v h => absurd (oy v h) (by simp)] at kw
    rw [hc] at cT
    simp only [resL_ok] at cT
    simp only [resL_ok, x0, x1, ob_some', isAggN_Ty, isAggN_Tm, og_true', dBin_neq, decide_true, Bool.not_true, oif_bool, Bool.false_eq_true, if_false, P, tmx3, tyx3, cT, hS, dBin_eql, ogd_bool, if_true, ks, kw, sp_l19_wakes]
 have loop : ∀ (n j : Nat), j + n = l.length → (∀ i (h : i < l.length), i < j → (0 ≤ l[i].1 ∧ l[i].1 ≤ 1048576 ∧ l[i].2.right = true) ∧ l[i].1 ∉ t.vs) → P_l19_CheckTypes_5h (run cfg) (encBnds l) (encInts t.vs) (.int .i64 (j : Int)) t.enc [] = some (.bool true) := by
  intro n
  induction n with
  | zero =>
    intro j hj h
    have e : j = l.length := by omega
    subst e
    refine fin (rightBinds_iff.2 fun e he => ?_) fun e he => ?_
    ·obtain ⟨i, hi, rfl⟩ := List.mem_iff_getElem.1 he
     exact (h i hi hi).1
    ·obtain ⟨i, hi, rfl⟩ := List.mem_iff_getElem.1 he
     exact (h i hi hi).2
  | succ n ih =>
    intro j hj h
    have hj' : j < l.length := by omega
    have e1 : dIdx 4 (encBnds l) (.int .i64 (j : Int)) = some (encBnd l[j]) := dIdx_map hj'
    have e2 : DV.agg [proj 1 (encBnd l[j]), proj 2 (encBnd l[j]), proj 3 (encBnd l[j])] = l[j].2.enc := by rw [Ty.enc_eq]; rfl
    have e4 : dBin .add (.int .i64 (j : Int)) (.int .i64 1) = some (.int .i64 ((j + 1 : Nat) : Int)) := dAdd1 (show j < 9223372036854775807 by omega)
    have hzj := hz _ (List.getElem_mem hj')
    have htj := hlt _ (List.getElem_mem hj')
    obtain ⟨b, hb1⟩ := sp_l11_Small [l[j].2] (by simp [lim]) (by simpa using hzj)
    simp only [List.map_cons, List.map_nil] at hb1
    have f1 := sp_r03_Right l[j].2 htj
    have f2 := sp_r03_Without 6 l[j].2 htj
    have f3 := sp_r03_In t.vs (by unfold lim; omega) l[j].1
    have f4 := sp_r03_Size l[j].2 hzj
    rw [eq_l19_CheckTypes_5h]
    simp only [dl, ob_some', dBin_lss, Int.ofNat_lt, hj', decide_true, oif_bool, if_true, e1, e2, encBnd_p0, ogd_bool, dBin_gtr, hb1, f1, f2, f3, f4, dUn_not, e4, decide_eq_true_eq, Bool.not_eq_true']
    split
    ·rfl
    next a1 =>
    split
    ·rfl
    next a2 =>
    split
    ·rfl
    split
    ·rfl
    next a4 =>
    split
    ·rfl
    split
    ·rfl
    next a6 =>
    split
    ·rfl
    refine ih (j + 1) (by omega) fun i hi hij => ?_
    by_cases e : i = j
    ·subst e
     exact ⟨⟨by omega, by omega, by simpa using a4⟩, a6⟩
    ·exact h i hi (by omega)
 have := loop l.length 0 (by omega) (fun i h hi => by omega)
 exact this
end Go.Su
