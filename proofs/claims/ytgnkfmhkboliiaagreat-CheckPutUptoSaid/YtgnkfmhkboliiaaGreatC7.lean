/-
 The law CheckPut answers true on data.
-/
import Derived.Test.YtgnkfmhkboliiaaGreatC4
import Derived.Test.YtgnkfmhkboliiaaGreatC6
set_option linter.unusedVariables false
set_option linter.unusedSimpArgs false
namespace Go.Su
set_option linter.unusedVariables false
set_option linter.unusedSimpArgs false
theorem tmx (k : Tm) : (DV.agg [proj 0 k.enc, proj 1 k.enc, proj 2 k.enc, proj 3 k.enc, proj 4 k.enc, proj 5 k.enc, proj 6 k.enc, proj 7 k.enc, proj 8 k.enc, proj 9 k.enc, proj 10 k.enc, proj 11 k.enc, proj 12 k.enc, proj 13 k.enc, proj 14 k.enc, proj 15 k.enc, proj 16 k.enc, proj 17 k.enc, proj 18 k.enc, proj 19 k.enc]) = k.enc := by simp [Tm.eta, Tm.ag]
theorem tyx2 (k : Ty) : (DV.agg [proj 0 k.enc, proj 1 k.enc, proj 2 k.enc]) = k.enc := by simp [Ty.eta, Ty.ag]
theorem Tm.vs_mass (t : Tm) : t.vs.length ≤ t.mass := by
 induction t using Tm.ind with
 | h t ih =>
   rw [Tm.vs_eq, Tm.mass_eq]
   have key : ∀ ks : List Tm, (∀ k ∈ ks, k.vs.length ≤ k.mass) → (ks.flatMap Tm.vs).length ≤ (ks.map Tm.mass).sum := by
    intro ks
    induction ks with
    | nil => simp
    | cons k ks ihk =>
      intro h
      have h1 := h k (List.mem_cons_self ..)
      have h2 := ihk fun x hx => h x (List.mem_cons_of_mem _ hx)
      simp only [List.flatMap_cons, List.length_append, List.map_cons, List.sum_cons]
      omega
   have := key t.kids ih
   simp only [List.length_append]
   omega
theorem dApp_ints {l m : List Int} (h : l.length + m.length ≤ lim) : dApp 1 (encInts l) (encInts m) = some (encInts (l ++ m)) := by
 unfold encInts
 exact dApp_maps h
theorem sp_l19_vars (t : Tm) : t.fit → ∀ (l : List Int) (sg : List SObj), l.length + t.vs.length ≤ lim → (run cfg).r F_l19_vars [(t.enc, .val), (encInts l, .own)] sg = some ([encInts (l ++ t.vs)], sg) := by
 induction t using Tm.ind with
 | h t ih =>
   intro ft l sg hl
   have hk := big (Nat.le_of_lt ft.one.kids)
   rw [Tm.vs_eq, List.length_append] at hl
   have loop : ∀ (n j : Nat) (acc : List Int), j + n = t.kids.length → acc.length + ((t.kids.drop j).flatMap Tm.vs).length ≤ lim → P_l19_vars_3h (run cfg) (encInts acc) (.int .i64 (j : Int)) t.enc sg = some ([encInts (acc ++ (t.kids.drop j).flatMap Tm.vs)], sg) := by
    intro n
    induction n with
    | zero =>
      intro j acc hj _
      have e : j = t.kids.length := by omega
      subst e
      rw [eq_l19_vars_3h]
      simp only [Tm.proj19 t, dLen_list, List.length_map, dBin_lss, Int.lt_irrefl, decide_false, ob_some', oif_bool, Bool.false_eq_true, if_false, List.drop_length, List.flatMap_nil, List.append_nil]
    | succ n ihn =>
      intro j acc hj ha
      have h : j < t.kids.length := by omega
      rw [List.drop_eq_getElem_cons h, List.flatMap_cons, List.length_append] at ha
      have e1 : dBin .add (.int .i64 (j : Int)) (.int .i64 1) = some (.int .i64 ((j + 1 : Nat) : Int)) := dAdd1 (show j < 9223372036854775807 by omega)
      have c := ih _ (List.getElem_mem h) (ft.kid (List.getElem_mem h)) acc sg (by omega)
      have nx := ihn (j + 1) (acc ++ t.kids[j].vs) (by omega) (by rw [List.length_append]; omega)
      rw [eq_l19_vars_3h]
      simp only [Tm.proj19 t, dLen_list, List.length_map, dBin_lss, Int.ofNat_lt, h, decide_true, ob_some', oif_bool, if_true, dIdx_map h, tmx, c, List.getD_cons_zero, e1]
      rw [nx, List.drop_eq_getElem_cons h, List.flatMap_cons, List.append_assoc]
   refine call_l19_vars _ _ _ ?_
   rw [eq_l19_vars]
   have p10 : proj 10 t.enc = encInts t.vars := by rw [Tm.proj10]
   have lp := loop t.kids.length 0 (l ++ t.vars) (by omega) (by rw [List.length_append, List.drop_zero]; omega)
   rw [List.drop_zero] at lp
   simp only [isAggN_Tm, og_true', p10, dApp_ints (l := l) (m := t.vars) (by omega), ob_some']
   rw [Tm.vs_eq, ← List.append_assoc]
   exact lp
def letTm (s : ByteArray) (v t : Tm) : Tm := .mk 11 0 0 s nil8 0 nil8 0 0 false [] (.mk 0 0 []) (.mk 0 0 []) [] [] [v, t]
theorem let_agg (s : ByteArray) (v t : Tm) : DV.agg [.int .i64 11, .int .i64 0, .int .i64 0, .str s, .str ⟨#[]⟩, .int .i64 0, .str ⟨#[]⟩, .int .i64 0, .int .i64 0, .bool false, .list 1 [], .int .i64 0, .int .i64 0, .list 3 [], .int .i64 0, .int .i64 0, .list 3 [], .list 3 [], .list 7 [], .list 20 [v.enc, t.enc]] = (letTm s v t).enc := by
 rw [Tm.enc_eq (letTm s v t)]; rfl
theorem letTm_mass (s : ByteArray) (v t : Tm) : (letTm s v t).mass = 3 + s.size + v.mass + t.mass := by
 rw [Tm.mass_eq]
 simp [letTm, Ty.size_eq, nil8_size]
 omega
theorem ck_letTm (s : ByteArray) (v t : Tm) (y : Ty) (h : ck (letTm s v t) [] [] = .ok y) : ∃ A, ck v [] [] = .ok A ∧ ck t [⟨s, A, []⟩] [] = .ok y := by
 rw [ck_eq] at h
 unfold ckBody at h
 have k : (letTm s v t).kind = 11 := rfl
 simp only [k, Int.reduceEq, or_self, if_false, if_true] at h
 obtain ⟨-, h⟩ := if_ok h
 obtain ⟨A, h1, h2⟩ := Except.bind_ok h
 exact ⟨A, h1, h2⟩
theorem law_checkput (t v : Tm) (s : ByteArray) (hm : t.mass + v.mass + s.size ≤ 1048576) : (run cfg).p F_l19_CheckPut [t.enc, v.enc, .str s] = some (.bool true) := by
 have ft : t.fit := Tm.fit_mass (by omega)
 have fv : v.fit := Tm.fit_mass (by omega)
 have zt : t.sized := Tm.sized_mass (by omega)
 have zv : v.sized := Tm.sized_mass (by omega)
 obtain ⟨b1, h1, h1'⟩ := sp_l17_Heavy2 [t, v] (by simp) (by simp [ft, fv]) (by simp [zt, zv])
 simp only [List.map_cons, List.map_nil] at h1
 have r1 := sp_r17_Right t ft
 have r2 := sp_r17_Right v fv
 refine call_l19_CheckPut _ _ _ ?_
 rw [eq_l19_CheckPut]
 simp only [tmx, isAggN_Tm, og_true', h1, ob_some', ogd_bool, r1, r2, dUn_not, dLenS_str, dBin_gtr]
 cases b1
 rotate_left
 ·simp
 have hz := h1' rfl
 simp only [List.map_cons, List.map_nil, List.sum_cons, List.sum_nil] at hz
 cases c1 : t.right
 ·simp
 cases c2 : v.right
 ·simp
 by_cases l1 : (100 : Int) < (s.size : Int)
 ·simp [l1]
 have f2 := sp_r17_Free v fv c2 (by unfold lim; omega)
 simp only [Bool.false_eq_true, if_false, Bool.not_true, l1, decide_false, f2, ob_some', dLen_strs, dBin_gtr, oif_bool]
 by_cases d2 : v.free = []
 rotate_left
 ·have : 0 < v.free.length := List.length_pos_iff.2 d2
  simp [this]
 have vt := t.vs_mass
 have vv := v.vs_mass
 have e0 : ∀ l : List Int, (DV.list 1 [] : DV) = encInts [] := fun _ => rfl
 have q1 := sp_l19_vars t ft [] [] (by unfold lim; simp; omega)
 have q2 := sp_l19_vars v fv [] [] (by unfold lim; simp; omega)
 rw [List.nil_append] at q1 q2
 rw [show encInts [] = (DV.list 1 [] : DV) from rfl] at q1 q2
 simp only [d2, List.length_nil, Int.natCast_zero, Int.ofNat_zero, Int.cast_ofNat_Int, Int.lt_irrefl, decide_false, Bool.false_eq_true, if_false, q1, q2, ob_some', List.getD_cons_zero]
 have fin : (∀ x ∈ t.vs, x ∉ v.vs) → P_l19_CheckPut_5h (run cfg) (.str s) (encInts t.vs) (encInts v.vs) (.int .i64 (t.vs.length : Int)) t.enc v.enc [] = some (.bool true) := by
  intro hvs
  have hT : (letTm s v t).mass ≤ 4000000 := by rw [letTm_mass]; omega
  have fT : (letTm s v t).fit := Tm.fit_mass (by omega)
  have zT : (letTm s v t).sized := Tm.sized_mass (by omega)
  have wT : (letTm s v t).wide ≤ lim := by have := (letTm s v t).wide_mass; unfold lim; omega
  obtain ⟨b3, h3⟩ := sp_r17_TameTerm (letTm s v t) fT zT wT
  have cT := sp_check_Type (letTm s v t) fT wT
  rw [eq_l19_CheckPut_5h]
  simp only [tmx, let_agg, dLen_ints, dBin_lss, Int.lt_irrefl, decide_false, ob_some', oif_bool, Bool.false_eq_true, if_false, isCell_str, og_true', h3, dUn_not]
  cases b3
  ·simp
  simp only [Bool.not_true, Bool.false_eq_true, if_false, cT, ob_some']
  cases hc : ckType (letTm s v t) with
  | error e =>
    have he : e ≠ 0 := by
     unfold ckType at hc
     split at hc
     ·exact (ck_err _ _ _ _ hc).ne
     ·simp only [Except.error.injEq] at hc; omega
    simp only [resL_err, dExt0, dExt1, ob_some', isAggN_Ty, og_true', dBin_neq, he, decide_false, Bool.not_false, oif_bool, if_true, sp_l19_wakes]
  | ok y =>
    have rT : (letTm s v t).right = true := by
     unfold ckType at hc
     split at hc
     ·assumption
     ·cases hc
    have hc2 : ck (letTm s v t) [] [] = .ok y := by
     unfold ckType at hc
     rwa [if_pos rT] at hc
    have ns : nameB s = true := by
     have o := Tm.right_one rT
     unfold Tm.one at o
     simp only [Bool.and_eq_true] at o
     have h2 : namedB (kName (letTm s v t).kind) (letTm s v t).name = true := o.1.1.1.1.2
     exact h2
    obtain ⟨A, hA, hB⟩ := ck_letTm s v t y hc2
    obtain ⟨u, hu, hU⟩ := ck_put s v A c2 d2 hA t c1 hvs [] [] [] y (by simp) (by simp) hB
    have P := sp_term_Put0 t v s ft fv (by unfold lim; omega) (by unfold lim; omega) (by unfold lim; omega)
    rw [if_pos ⟨c1, c2, ns, d2⟩, hu] at P
    have P : (run cfg).p F_term_Put [t.enc, .str s, .list 1 [], v.enc] = some (.tup [u.enc, .int .i64 0]) := P
    have ru := Tm.put0_right t s v c2 c1 u hu
    have fu := Tm.put0_fit t s v fv ft u hu
    have mu := Tm.put0_mass t s v u hu
    have k1 : t.size * v.mass ≤ 500 * v.mass := Nat.mul_le_mul_right _ (by omega)
    have cu := sp_check_Type u fu (by have := u.wide_mass; unfold lim; omega)
    unfold ckType at cu
    rw [if_pos ru, show ck u [] [] = .ok y from hU] at cu
    have ry := ck_right _ rT fT [] [] y (fun x hx => by cases hx) hc2
    have ks := sp_keep_Same y (Ty.thin_of_right ry) y
    have x0 : ∀ a b, dExt 0 (.tup [a, b]) = some a := fun _ _ => rfl
    have x1 : ∀ a b, dExt 1 (.tup [a, b]) = some b := fun _ _ => rfl
    simp only [resL_ok, x0, x1, ob_some', isAggN_Ty, isAggN_Tm, og_true', dBin_neq, decide_true, Bool.not_true, oif_bool, Bool.false_eq_true, if_false, P, tmx, cu, dBin_eql, ogd_bool, if_true, tyx2, ks, sp_l19_wakes]
 have loop : ∀ (n j : Nat), j + n = t.vs.length → (∀ i (h : i < t.vs.length), i < j → t.vs[i] ∉ v.vs) → P_l19_CheckPut_5h (run cfg) (.str s) (encInts t.vs) (encInts v.vs) (.int .i64 (j : Int)) t.enc v.enc [] = some (.bool true) := by
  intro n
  induction n with
  | zero =>
    intro j hj hd
    have e : j = t.vs.length := by omega
    subst e
    refine fin fun x hx => ?_
    obtain ⟨i, hi, rfl⟩ := List.mem_iff_getElem.1 hx
    exact hd i hi hi
  | succ n ih =>
    intro j hj hd
    have h : j < t.vs.length := by omega
    have e1 : dBin .add (.int .i64 (j : Int)) (.int .i64 1) = some (.int .i64 ((j + 1 : Nat) : Int)) := dAdd1 (show j < 9223372036854775807 by omega)
    have hin := sp_r03_In v.vs (by unfold lim; omega) t.vs[j]
    rw [eq_l19_CheckPut_5h]
    simp only [dLen_ints, dBin_lss, Int.ofNat_lt, h, decide_true, ob_some', oif_bool, if_true, dIdx_ints h, isLeaf_int, og_true', hin, e1]
    by_cases hm : t.vs[j] ∈ v.vs
    ·simp [hm]
    ·simp only [hm, decide_false, Bool.false_eq_true, if_false]
     refine ih (j + 1) (by omega) fun i hi hij => ?_
     by_cases e : i = j
     ·subst e; exact hm
     ·exact hd i hi (by omega)
 exact loop t.vs.length 0 (by omega) (fun i hi h => by omega)
end Go.Su
