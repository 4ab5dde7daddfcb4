/-
  Parts of the proof, merged: T40, QT41, T41, QLEraseExact, LEraseExact.
-/
import Derived.Test.YtgnkfmhkboliiaaGreatE3
import Derived.Test.YtgnkfmhkboliiaaGreatE4
import Derived.Test.YtgnkfmhkboliiaaGreatE5
import Derived.Test.YtgnkfmhkboliiaaGreatE6
set_option linter.unusedVariables false
set_option linter.unusedSimpArgs false
/-
 What the document's functions on expressions without types give: results compared.
-/
namespace Go.Su
set_option linter.unusedVariables false
set_option linter.unusedSimpArgs false
inductive Val.plain : Val → Prop where
 | mk (v : Val) : v.c = noCoer → v.kids.length < lim → (∀ k ∈ v.kids, k.plain) → v.plain
theorem Val.plain.c0 {v : Val} (h : v.plain) : v.c = noCoer := by cases h; assumption
theorem Val.plain.len {v : Val} (h : v.plain) : v.kids.length < lim := by cases h; assumption
theorem Val.plain.kid {v k : Val} (h : v.plain) (hk : k ∈ v.kids) : k.plain := by cases h with | mk _ _ _ g => exact g k hk
theorem noVal_plain : noVal.plain := .mk _ rfl (by simp [noVal, lim]) (by simp [noVal])
theorem Ex.told_plain (t : Ex) : t.fit → t.told.plain := by
 induction t using Ex.ind with
 | h t ih =>
   intro ft
   rw [Ex.told_eq]
   have z : (0 : Nat) < lim := by unfold lim; omega
   split
   ·exact .mk _ rfl (by simpa using z) (by simp)
   split
   ·exact .mk _ rfl (by simpa using z) (by simp)
   split
   ·refine .mk _ rfl (by simpa using ft.one.kids) fun k hk => ?_
    simp only [Val.kids_mk, List.mem_map] at hk
    obtain ⟨x, hx, rfl⟩ := hk
    exact ih x hx (ft.kid hx)
   ·exact .mk _ rfl (by simpa using z) (by simp)
theorem va_c (v : Val) (h : v.c = noCoer) : DV.agg [proj 3 v.enc, proj 4 v.enc, proj 5 v.enc, proj 6 v.enc, proj 7 v.enc] = noCoer.enc := by
 rw [Val.enc_eq, h, Coer.enc_eq]
 rfl
theorem sp_r23_Same_plain (v : Val) : v.plain → (run cfg).p F_r23_Same [v.enc, v.enc] = some (.bool true) := by
 induction v using Val.ind with
 | h v ih =>
   intro hp
   have hl := hp.len
   unfold lim at hl
   have loop : ∀ (n j : Nat), j + n = v.kids.length → P_r23_Same_4h (run cfg) (.int .i64 (j : Int)) v.enc v.enc = some (.bool true) := by
    intro n
    induction n with
    | zero =>
      intro j hj
      have e : j = v.kids.length := by omega
      subst e
      rw [eq_r23_Same_4h]
      simp only [Val.proj8 v, dLen_list, List.length_map, dBin_lss, Int.lt_irrefl, decide_false, ob_some', oif_bool, Bool.false_eq_true, if_false]
    | succ n ihn =>
      intro j hj
      have h : j < v.kids.length := by omega
      have e1 : dBin .add (.int .i64 (j : Int)) (.int .i64 1) = some (.int .i64 ((j + 1 : Nat) : Int)) := dAdd1 (show j < 9223372036854775807 by omega)
      rw [eq_r23_Same_4h]
      simp only [Val.proj8 v, dLen_list, List.length_map, dBin_lss, Int.ofNat_lt, h, decide_true, ob_some', oif_bool, if_true, dIdx_map h, vax, ih _ (List.getElem_mem h) (hp.kid (List.getElem_mem h)), dUn_not, Bool.not_true, Bool.false_eq_true, if_false, e1]
      exact ihn (j + 1) (by omega)
   refine call_r23_Same _ _ ?_
   rw [eq_r23_Same]
   simp only [va_c v hp.c0]
   simp only [isAggN_Val, og_true', Val.proj0 v, Val.proj1 v, Val.proj2 v, Val.proj8 v, dBin_neq, dBin_sneq, decide_true, Bool.not_true, ob_some', ogd_bool, Bool.false_eq_true, if_false, sp_r20_Same_no, dUn_not, dLen_list, List.length_map, oif_bool]
   exact loop v.kids.length 0 (by omega)
theorem rslt_val (r : Rslt) : DV.agg [proj 1 r.enc, proj 2 r.enc, proj 3 r.enc, proj 4 r.enc, proj 5 r.enc, proj 6 r.enc, proj 7 r.enc, proj 8 r.enc, proj 9 r.enc] = r.val.enc := by rw [Val.enc_eq]; rfl
theorem rslt_eta (r : Rslt) : DV.agg [proj 0 r.enc, proj 1 r.enc, proj 2 r.enc, proj 3 r.enc, proj 4 r.enc, proj 5 r.enc, proj 6 r.enc, proj 7 r.enc, proj 8 r.enc, proj 9 r.enc, proj 10 r.enc, proj 11 r.enc, proj 12 r.enc, proj 13 r.enc, proj 14 r.enc] = r.enc := rfl
theorem rslt_steps (r : Rslt) : proj 14 r.enc = .int .i64 r.steps := rfl
theorem sp_r23_SameResult_self (r q : Rslt) (hp : r.val.plain) (h : q = { r with steps := q.steps }) : (run cfg).p F_r23_SameResult [r.enc, q.enc] = some (.bool true) := by
 have p0 : proj 0 q.enc = proj 0 r.enc := by rw [h]; rfl
 have p10 : proj 10 q.enc = proj 10 r.enc := by rw [h]; rfl
 have p11 : proj 11 q.enc = proj 11 r.enc := by rw [h]; rfl
 have p12 : proj 12 q.enc = proj 12 r.enc := by rw [h]; rfl
 have p13 : proj 13 q.enc = proj 13 r.enc := by rw [h]; rfl
 have pv : q.val = r.val := by rw [h]
 have r0 : proj 0 r.enc = .int .i64 r.kind := rfl
 have r10 : proj 10 r.enc = .int .i64 r.label := rfl
 have r11 : proj 11 r.enc = .bool r.neg := rfl
 have r12 : proj 12 r.enc = .int .i64 r.lo := rfl
 have r13 : proj 13 r.enc = .int .i64 r.hi := rfl
 refine call_r23_SameResult _ _ ?_
 rw [eq_r23_SameResult]
 simp only [rslt_val, pv, isAggN_Res, og_true', sp_r23_Same_plain r.val hp]
 simp only [p0, p10, p11, p12, p13, r0, r10, r11, r12, r13, dBin_eql, decide_true, ob_some', ogd_bool, if_true, dEqB_bool, BEq.rfl, dEqA_two, Bool.and_self]
end Go.Su

/-
 The functions' specs that this claim needs.
-/
namespace Go.Su
set_option linter.unusedVariables false
set_option linter.unusedSimpArgs false
theorem sp_erase_Put (t v : Ex) (s : ByteArray) (ft : t.fit) (fv : v.fit) (hv : 2 * v.mass ≤ lim) (hs : s.size ≤ lim) :
 (run cfg).p F_erase_Put [t.enc, .str s, v.enc] = some (if t.right = true ∧ v.right = true ∧ v.free = [] ∧ nameB s = true then .tup [(t.put s v).enc, .int .i64 0] else .tup [zeroEx.enc, .int .i64 1]) := by
 have ee : ∀ k : Ex, (DV.agg [proj 0 k.enc, proj 1 k.enc, proj 2 k.enc, proj 3 k.enc, proj 4 k.enc, proj 5 k.enc, proj 6 k.enc, proj 7 k.enc, proj 8 k.enc, proj 9 k.enc, proj 10 k.enc, proj 11 k.enc, proj 12 k.enc, proj 13 k.enc, proj 14 k.enc, proj 15 k.enc]) = k.enc := fun k => by simp [Ex.eta, Ex.ag]
 refine call_erase_Put _ _ _ ?_
 rw [eq_erase_Put]
 simp only [ee, isAggN_Ex, og_true', sp_tree_Check t ft, sp_erase_closed v fv hv, sp_word_Name s hs, ob_some', dUn_not, dBin_neq, ogd_bool, oif_bool, zeroEx_agg]
 cases h1 : t.right
 ·simp
 have hp := sp_erase_put s v t ft h1
 cases h2 : v.right
 ·simp
 by_cases h3 : v.free = []
 ·cases h4 : nameB s
  ·simp [h3]
  ·simp [h3, hp, Ex.eta, Ex.ag]
 ·simp [h3]
theorem sp_erase_Value (t : Ex) (ft : t.fit) (hm : 2 * t.mass ≤ lim) : (run cfg).p F_erase_Value [t.enc] = some (.bool (t.right && decide (t.free = []) && t.val)) := by
 refine call_erase_Value _ ?_
 rw [eq_erase_Value]
 have hc := sp_erase_closed t ft hm
 cases rt : t.right
 ·rw [rt] at hc
  simp [Ex.eta, Ex.ag, hc]
 ·have hv := sp_erase_value t ft rt
  rw [rt] at hc
  by_cases hf : t.free = [] <;> simp [Ex.eta, Ex.ag, hc, hv, hf]
def numEx (n : Int) : Ex := .mk 2 0 0 nil8 nil8 n nil8 0 (.mk 0 0 []) (.mk 0 0 []) [] []
def nodeEx (k op : Int) (ks : List Ex) : Ex := .mk k 0 0 nil8 nil8 0 nil8 op (.mk 0 0 []) (.mk 0 0 []) [] ks
def nameEx (s : ByteArray) : Ex := .mk 1 0 0 s nil8 0 nil8 0 (.mk 0 0 []) (.mk 0 0 []) [] []
theorem ex_none : (Ty.mk 0 0 []).none = true := by simp [Ty.none]
theorem numEx_right (n : Int) : (numEx n).right = true := by
 rw [Ex.right_eq]
 simp [numEx, Ex.one, Ex.one1, Ex.one2, Ex.one3, Ex.one4, Ex.one5, Ex.one6, Ex.one7, Ex.one8, eOk, eKids, eName, eArg, eN, eS, eOp, eA, eB, eMust, noteB, namedB, nil8_size, ex_none]
theorem opEx_right (a b : Int) : (nodeEx 16 3 [numEx a, numEx b]).right = true := by
 rw [Ex.right_eq]
 simp [nodeEx, Ex.one, Ex.one1, Ex.one2, Ex.one3, Ex.one4, Ex.one5, Ex.one6, Ex.one7, Ex.one8, eOk, eKids, eName, eArg, eN, eS, eOp, eA, eB, eMust, noteB, namedB, nil8_size, ex_none, numEx_right]
theorem appEx_right (a b : Int) : (nodeEx 10 0 [numEx a, numEx b]).right = true := by
 rw [Ex.right_eq]
 simp [nodeEx, Ex.one, Ex.one1, Ex.one2, Ex.one3, Ex.one4, Ex.one5, Ex.one6, Ex.one7, Ex.one8, eOk, eKids, eName, eArg, eN, eS, eOp, eA, eB, eMust, noteB, namedB, nil8_size, ex_none, numEx_right]
theorem nameEx_right {s : ByteArray} (h : nameB s = true) : (nameEx s).right = true := by
 rw [Ex.right_eq]
 simp [nameEx, Ex.one, Ex.one1, Ex.one2, Ex.one3, Ex.one4, Ex.one5, Ex.one6, Ex.one7, Ex.one8, eOk, eKids, eName, eArg, eN, eS, eOp, eA, eB, eMust, noteB, namedB, nil8_size, ex_none, h]
theorem numEx_free (n : Int) : (numEx n).free = [] := by
 simp [Ex.free, Ex.fr_eq, numEx, Ex.frL_nil]
theorem node2_free (k op a b : Int) (h : k ≠ 1) (h2 : k ≠ 9) (h3 : k ≠ 11) (h4 : k ≠ 12) (h5 : k ≠ 14) : (nodeEx k op [numEx a, numEx b]).free = [] := by
 simp [Ex.free, Ex.fr_eq, nodeEx, numEx, Ex.frL_nil, Ex.frL_cons, h]
theorem numEx_mass (n : Int) : (numEx n).mass ≤ 10 := by simp [numEx, Ex.mass_eq, Ty.size_eq, nil8_size]
theorem node2_mass (k op a b : Int) : (nodeEx k op [numEx a, numEx b]).mass ≤ 30 := by
 have h1 := numEx_mass a
 have h2 := numEx_mass b
 simp [nodeEx, Ex.mass_eq (.mk _ _ _ _ _ _ _ _ _ _ _ _), Ty.size_eq, nil8_size]
 omega
theorem numEx_val (n : Int) : (numEx n).val = true := by rw [Ex.val_eq]; simp [numEx]
theorem numEx_agg (n : Int) : DV.agg [.int .i64 2, .int .i64 0, .int .i64 0, .str ⟨#[]⟩, .str ⟨#[]⟩, .int .i64 n, .str ⟨#[]⟩, .int .i64 0, .int .i64 0, .int .i64 0, .list 3 [], .int .i64 0, .int .i64 0, .list 3 [], .list 7 [], .list 16 []] = (numEx n).enc := by
 rw [Ex.enc_eq]; rfl
theorem node_agg (k op : Int) (a b : Ex) : DV.agg [.int .i64 k, .int .i64 0, .int .i64 0, .str ⟨#[]⟩, .str ⟨#[]⟩, .int .i64 0, .str ⟨#[]⟩, .int .i64 op, .int .i64 0, .int .i64 0, .list 3 [], .int .i64 0, .int .i64 0, .list 3 [], .list 7 [], .list 16 [a.enc, b.enc]] = (nodeEx k op [a, b]).enc := by
 rw [Ex.enc_eq (nodeEx k op [a, b])]; rfl
end Go.Su

/-
 The law's constant checks, by what a step and a run come to.
-/
namespace Go.Su
set_option linter.unusedVariables false
set_option linter.unusedSimpArgs false
theorem node2_due (k op a b : Int) : (nodeEx k op [numEx a, numEx b]).due = none := by
 have h0 : ((nodeEx k op [numEx a, numEx b]).kid 0).val = true := numEx_val a
 have h1 : ((nodeEx k op [numEx a, numEx b]).kid 1).val = true := numEx_val b
 unfold Ex.due
 rw [h0, h1]
 simp
theorem mul_step : (nodeEx 16 3 [numEx 6, numEx 7]).stepE = (numEx 42, R3.ok) := by
 rw [Ex.stepE_eq, node2_due]
 rfl
theorem app_step : (nodeEx 10 0 [numEx 1, numEx 2]).stepE = (noEx, R3.stuck) := by
 rw [Ex.stepE_eq, node2_due]
 rfl
theorem node2_val (k op a b : Int) (h : k = 16 ∨ k = 10) : (nodeEx k op [numEx a, numEx b]).val = false := by
 rw [Ex.val_eq]
 rcases h with rfl | rfl <;> simp [nodeEx]
theorem w26_wakes : (run cfg).p F_l26_wakes [] = some (.bool true) := by
 have nx : nameB ⟨#[120]⟩ = true := by decide +kernel
 have num : ∀ n : Int, (run cfg).p F_l26_num [.int .i64 n] = some (numEx n).enc := fun n => by
  refine call_l26_num _ ?_
  rw [eq_l26_num]
  simp only [isCell_int, og_true', numEx_agg]
 have na : DV.agg [.int .i64 1, .int .i64 0, .int .i64 0, .str ⟨#[120]⟩, .str ⟨#[]⟩, .int .i64 0, .str ⟨#[]⟩, .int .i64 0, .int .i64 0, .int .i64 0, .list 3 [], .int .i64 0, .int .i64 0, .list 3 [], .list 7 [], .list 16 []] = (nameEx ⟨#[120]⟩).enc := by
  rw [Ex.enc_eq]; rfl
 have m1 := node2_mass 16 3 6 7
 have m2 := node2_mass 10 0 1 2
 have fm : (nodeEx 16 3 [numEx 6, numEx 7]).fit := Ex.fit_mass (by omega)
 have fa : (nodeEx 10 0 [numEx 1, numEx 2]).fit := Ex.fit_mass (by omega)
 have cm : (nodeEx 16 3 [numEx 6, numEx 7]).cl := ⟨opEx_right 6 7, node2_free 16 3 6 7 (by omega) (by omega) (by omega) (by omega) (by omega)⟩
 have ca : (nodeEx 10 0 [numEx 1, numEx 2]).cl := ⟨appEx_right 1 2, node2_free 10 0 1 2 (by omega) (by omega) (by omega) (by omega) (by omega)⟩
 have lm : (nodeEx 16 3 [numEx 6, numEx 7]).lean 30 := Ex.lean.le m1 (Ex.lean_of _)
 have la : (nodeEx 10 0 [numEx 1, numEx 2]).lean 30 := Ex.lean.le m2 (Ex.lean_of _)
 have vm := node2_val 16 3 6 7 (.inl rfl)
 have va := node2_val 10 0 1 2 (.inr rfl)
 have S1 := sp_erase_Step 30 (by omega) _ fm (by unfold lim; omega) lm
 have S2 := sp_erase_Step 30 (by omega) _ fa (by unfold lim; omega) la
 unfold Ex.StepE at S1 S2
 rw [if_pos (show _ ∧ _ from cm), vm, mul_step] at S1
 rw [if_pos (show _ ∧ _ from ca), va, app_step] at S2
 simp only [Bool.false_eq_true, if_false] at S1 S2
 have R1 := sp_erase_Run 30 (by omega) _ fm (by unfold lim; omega) 2 2 rfl lm (fun _ => ⟨by have := (nodeEx 16 3 [numEx 6, numEx 7]).size_mass; omega, fun _ _ => by
  rw [mul_step]
  exact ⟨by show (numEx 42).size ≤ 1200; have := (numEx 42).size_mass; have := numEx_mass 42; omega, fun h => by rw [numEx_val] at h; cases h⟩⟩)
 unfold Ex.RunE at R1
 rw [if_pos (show _ ∧ _ from cm), Ex.runE_succ 1 0 vm, mul_step, if_neg (by decide), Ex.runE_val 1 1 (numEx_val 42), show (numEx 42).many = 1 by rw [Ex.many_eq]; rfl, if_neg (by decide)] at R1
 have R1 : (run cfg).p F_erase_Run [(nodeEx 16 3 [numEx 6, numEx 7]).enc, .int .i64 2] = some (Rslt.mk 1 (numEx 42).told 0 false 0 0 2).enc := R1
 have tk : proj 0 (Rslt.mk 1 (numEx 42).told 0 false 0 0 2).enc = .int .i64 1 := rfl
 have tn : proj 2 (Rslt.mk 1 (numEx 42).told 0 false 0 0 2).enc = .int .i64 42 := by
  show DV.int .i64 (numEx 42).told.n = _
  rw [Ex.told_eq]; rfl
 have ts : proj 14 (Rslt.mk 1 (numEx 42).told 0 false 0 0 2).enc = .int .i64 2 := rfl
 have mn := numEx_mass 3
 have P1 := sp_erase_Put (nameEx ⟨#[120]⟩) (numEx 3) ⟨#[120]⟩ (Ex.fit_mass (by simp [nameEx, Ex.mass_eq, Ty.size_eq, nil8_size]; decide)) (Ex.fit_mass (by omega)) (by unfold lim; omega) (by decide)
 rw [if_pos ⟨nameEx_right nx, numEx_right 3, numEx_free 3, nx⟩, show (nameEx ⟨#[120]⟩).put ⟨#[120]⟩ (numEx 3) = numEx 3 by rw [Ex.put_eq, if_pos ⟨rfl, rfl⟩]] at P1
 have V1 := sp_erase_Value (numEx 1) (Ex.fit_mass (by have := numEx_mass 1; omega)) (by have := numEx_mass 1; unfold lim; omega)
 rw [numEx_right, numEx_free, numEx_val] at V1
 have V2 := sp_erase_Value (nodeEx 16 3 [numEx 6, numEx 7]) fm (by unfold lim; omega)
 rw [vm, Bool.and_false] at V2
 have k0 : ∀ n, proj 0 (numEx n).enc = .int .i64 2 := fun n => by rw [Ex.proj0]; rfl
 have k5 : ∀ n, proj 5 (numEx n).enc = .int .i64 n := fun n => by rw [Ex.proj5]; rfl
 have q0 : proj 0 R3.ok.enc = .int .i64 0 := rfl
 have q6 : proj 0 R3.stuck.enc = .int .i64 6 := rfl
 refine call_l26_wakes ?_
 rw [eq_l26_wakes]
 simp only [num, ob_some', isAggN_Ex, isAggN_R3, isAggN_Res, og_true', node_agg, na, S1, S2, R1, dExt_0, dExt_1, P1]
 rw [eq_l26_wakes_6]
 simp only [node_agg, k0, k5, q0, q6, tk, tn, ts, dBin_eql, decide_true, ob_some', ogd_bool, if_true, num, V1, V2, dUn_not, Bool.and_self, Bool.not_false]
end Go.Su

/-
 The functions' specs that this claim needs.
-/
namespace Go.Su
set_option linter.unusedVariables false
set_option linter.unusedSimpArgs false
theorem sp_r05_SamePat (a : Pat) : a.thin = true → ∀ b : Pat, (run cfg).p F_r05_SamePat [a.enc, b.enc] = some (.bool (decide (a.bare = b.bare))) := by
 induction a using Pat.ind with
 | h a ih =>
   intro ha b
   have hb := a.thin_len ha
   refine call_r05_SamePat _ _ ?_
   rw [eq_r05_SamePat]
   simp
   by_cases h1 : a.kind = b.kind <;> simp [h1, Pat.ext_iff']
   by_cases h2 : a.name = b.name <;> simp [h2]
   by_cases h3 : a.n = b.n <;> simp [h3]
   by_cases h4 : a.s = b.s <;> simp [h4]
   by_cases h5 : a.kids.length = b.kids.length
   ·have loop := loop_twoB (l := a.kids.map Pat.bare) (m := b.kids.map Pat.bare) (by simpa using h5) (P := fun i => P_r05_SamePat_4h (run cfg) (.int .i64 i) a.enc b.enc)
     (by rw [eq_r05_SamePat_4h]; simp [h5])
     (fun i h => by
       have h : i < a.kids.length := by simpa using h
       have h' : i < b.kids.length := by omega
       rw [eq_r05_SamePat_4h]
       simp [h, h', dIdx_map h, dIdx_map h', Pat.eta, Pat.ag, ih _ (List.getElem_mem h) (Pat.thin_kid ha (List.getElem_mem h)), dAdd1 (show i < 9223372036854775807 by omega)])
    simp only [List.length_map, h5] at loop ⊢
    simp [loop]
   ·have : a.kids.map Pat.bare ≠ b.kids.map Pat.bare := fun h => h5 (by have := congrArg List.length h; simpa using this)
    simp [Int.ofNat_inj, h5, this]
theorem sp_r05_patAt (a : Pat) : a.thin = true → ∀ b : Pat, a.bare = b.bare → (run cfg).p F_r05_patAt [a.enc, b.enc] = some (.bool (decide (a = b))) := by
 induction a using Pat.ind with
 | h a ih =>
   intro ha b he
   have hb := a.thin_len ha
   rw [Pat.ext_iff'] at he
   simp at he
   obtain ⟨e1, e2, e3, e4, e5⟩ := he
   have h5 : a.kids.length = b.kids.length := by have := congrArg List.length e5; simpa using this
   refine call_r05_patAt _ _ ?_
   rw [eq_r05_patAt]
   simp [Pat.ext_iff', e1, e2, e3, e4]
   by_cases h1 : a.lo = b.lo <;> simp [h1]
   by_cases h2 : a.hi = b.hi <;> simp [h2]
   have loop := loop_twoB (l := a.kids) (m := b.kids) h5 (P := fun i => P_r05_patAt_4h (run cfg) (.int .i64 i) a.enc b.enc)
    (by rw [eq_r05_patAt_4h]; simp [h5])
    (fun i h => by
      have h' : i < b.kids.length := by omega
      have e6 : a.kids[i].bare = b.kids[i].bare := by
       have : (a.kids.map Pat.bare)[i]'(by simpa using h) = (b.kids.map Pat.bare)[i]'(by simpa using h') := by simp only [e5]
       simpa using this
      rw [eq_r05_patAt_4h]
      simp [h, h', dIdx_map h, dIdx_map h', Pat.eta, Pat.ag, ih _ (List.getElem_mem h) (Pat.thin_kid ha (List.getElem_mem h)) _ e6, dAdd1 (show i < 9223372036854775807 by omega)])
   simp [loop]
theorem sp_r05_Same (a : Ex) : a.fit → ∀ b : Ex, (run cfg).p F_r05_Same [a.enc, b.enc] = some (.bool (decide (a.bare = b.bare))) := by
 induction a using Ex.ind with
 | h a ih =>
   intro ha b
   have hk := big (Nat.le_of_lt ha.one.kids)
   have hp := big (Nat.le_of_lt ha.one.pats)
   refine call_r05_Same _ _ ?_
   rw [eq_r05_Same]
   simp
   by_cases h1 : a.kind = b.kind <;> simp [h1, Ex.ext_iff']
   by_cases h2 : a.name = b.name <;> simp [h2]
   by_cases h3 : a.arg = b.arg <;> simp [h3]
   by_cases h4 : a.n = b.n <;> simp [h4]
   by_cases h6 : a.s = b.s <;> simp [h6]
   by_cases h7 : a.op = b.op <;> simp [h7]
   by_cases h8 : a.pats.length = b.pats.length
   ·by_cases h5 : a.kids.length = b.kids.length
    ·have loop := loop_twoB (l := a.kids.map Ex.bare) (m := b.kids.map Ex.bare) (by simpa using h5) (P := fun i => P_r05_Same_11h (run cfg) (.int .i64 i) a.enc b.enc)
      (by rw [eq_r05_Same_11h]; simp [h5])
      (fun i h => by
        have h : i < a.kids.length := by simpa using h
        have h' : i < b.kids.length := by omega
        rw [eq_r05_Same_11h]
        simp [h, h', dIdx_map h, dIdx_map h', Ex.eta, Ex.ag, ih _ (List.getElem_mem h) (ha.kid (List.getElem_mem h)), dAdd1 (show i < 9223372036854775807 by omega)])
     have loop2 := loop_two (l := a.pats.map Pat.bare) (m := b.pats.map Pat.bare) (by simpa using h8) (P := fun i => P_r05_Same_6h (run cfg) (.int .i64 i) a.enc b.enc) (y := .bool (decide (a.kids.map Ex.bare = b.kids.map Ex.bare))) (n := .bool false)
      (by rw [eq_r05_Same_6h]; simp [h8, loop])
      (fun i h => by
        have h : i < a.pats.length := by simpa using h
        have h' : i < b.pats.length := by omega
        rw [eq_r05_Same_6h]
        simp [h, h', dIdx_map h, dIdx_map h', Pat.eta, Pat.ag, sp_r05_SamePat _ (Pat.fit_thin (ha.one.pat _ (List.getElem_mem h))), dAdd1 (show i < 9223372036854775807 by omega)])
     simp only [h5, h8]
     simp [eq_r05_Same_3, Ty.eta, Ty.ag, sp_r03_Same _ ha.one.a, sp_r03_Same _ ha.one.b]
     by_cases h9 : a.a = b.a <;> simp [h9]
     by_cases h10 : a.b = b.b <;> simp [h10, loop2]
     by_cases h11 : a.pats.map Pat.bare = b.pats.map Pat.bare <;> simp [h11]
    ·have : a.kids.map Ex.bare ≠ b.kids.map Ex.bare := fun h => h5 (by have := congrArg List.length h; simpa using this)
     simp [Int.ofNat_inj, h5, h8, this]
   ·have : a.pats.map Pat.bare ≠ b.pats.map Pat.bare := fun h => h8 (by have := congrArg List.length h; simpa using this)
    simp [Int.ofNat_inj, h8, this]
theorem sp_r05_SameAt (a : Ex) : a.fit → ∀ b : Ex, (run cfg).p F_r05_SameAt [a.enc, b.enc] = some (.bool (decide (a = b))) := by
 induction a using Ex.ind with
 | h a ih =>
   intro ha b
   have hk := big (Nat.le_of_lt ha.one.kids)
   have hp := big (Nat.le_of_lt ha.one.pats)
   refine call_r05_SameAt _ _ ?_
   rw [eq_r05_SameAt]
   simp [Ex.eta, Ex.ag, sp_r05_Same a ha]
   by_cases he : a.bare = b.bare
   ·rw [if_pos he]
    rw [Ex.ext_iff'] at he
    simp at he
    obtain ⟨e1, e2, e3, e4, e5, e6, e7, e8, e9, e10⟩ := he
    have h5 : a.kids.length = b.kids.length := by have := congrArg List.length e10; simpa using this
    have h8 : a.pats.length = b.pats.length := by have := congrArg List.length e9; simpa using this
    have loop := loop_twoB (l := a.kids) (m := b.kids) h5 (P := fun i => P_r05_SameAt_9h (run cfg) (.int .i64 i) a.enc b.enc)
     (by rw [eq_r05_SameAt_9h]; simp [h5])
     (fun i h => by
       have h' : i < b.kids.length := by omega
       rw [eq_r05_SameAt_9h]
       simp [h, h', dIdx_map h, dIdx_map h', Ex.eta, Ex.ag, ih _ (List.getElem_mem h) (ha.kid (List.getElem_mem h)), dAdd1 (show i < 9223372036854775807 by omega)])
    have loop2 := loop_two (l := a.pats) (m := b.pats) h8 (P := fun i => P_r05_SameAt_4h (run cfg) (.int .i64 i) a.enc b.enc) (y := .bool (decide (a.kids = b.kids))) (n := .bool false)
     (by rw [eq_r05_SameAt_4h]; simp [h8, loop])
     (fun i h => by
       have h' : i < b.pats.length := by omega
       have e11 : a.pats[i].bare = b.pats[i].bare := by
        have : (a.pats.map Pat.bare)[i]'(by simpa using h) = (b.pats.map Pat.bare)[i]'(by simpa using h') := by simp only [e9]
        simpa using this
       rw [eq_r05_SameAt_4h]
       simp [h, h', dIdx_map h, dIdx_map h', Pat.eta, Pat.ag, sp_r05_patAt _ (Pat.fit_thin (ha.one.pat _ (List.getElem_mem h))) _ e11, dAdd1 (show i < 9223372036854775807 by omega)])
    simp [Ex.ext_iff', e1, e2, e3, e4, e5, e6, e7, e8]
    by_cases h1 : a.lo = b.lo <;> simp [h1]
    by_cases h2 : a.hi = b.hi <;> simp [h2, loop2]
    by_cases h11 : a.pats = b.pats <;> simp [h11]
   ·have : a ≠ b := fun h => he (by rw [h])
    rw [if_neg he]
    simp [this]
theorem Ty.mk_agg (k n : Int) (ks : List Ty) : DV.agg [.int .i64 k, .int .i64 n, .list 3 (ks.map Ty.enc)] = (Ty.mk k n ks).enc := (Ty.enc_eq (.mk k n ks)).symm
theorem e4 : errOk 4 := .inl rfl
theorem e6 : errOk 6 := .inr (.inl rfl)
theorem loop_map {α β X : Type} {l : List α} {P : Int → List β → Option X} {g : α → β} {fin : List β → Option X} (stop : ∀ a, a.length = l.length → P l.length a = fin a)
 (step : ∀ (i : Nat) (h : i < l.length) (a : List β), a.length = i → P i a = P ((i : Int) + 1) (a ++ [g l[i]])) : P 0 [] = fin (l.map g) := by
 have := loop_fold (l := l) (P := P) (g := fun a k => a ++ [g k]) (fin := fin) (I := fun j a => a.length = j) (fun a h => stop a h)
  (fun j h a ha => ⟨step j h a ha, by simp [ha]⟩) [] rfl
 rw [this]
 congr 1
 have e : ∀ (m : List α) (a : List β), m.foldl (fun a k => a ++ [g k]) a = a ++ m.map g := by
  intro m
  induction m with
  | nil => intro a; simp
  | cons x m ih => intro a; simp [ih]
 rw [e]; rfl
theorem sp_keep_Type (t : Ty) : t.thin = true → (run cfg).p F_keep_Type [t.enc] = some t.enc := by
 induction t using Ty.ind with
 | h t ih =>
   intro ht
   have hb := t.thin_len ht
   refine call_keep_Type _ ?_
   rw [eq_keep_Type]
   have loop := loop_map (l := t.kids) (P := fun j (a : List Ty) => P_keep_Type_3h (run cfg) (.int .i64 j) t.enc (.int .i64 t.kind) (.int .i64 t.n) (.list 3 (a.map Ty.enc)))
    (g := fun k => k) (fin := fun a => some (Ty.mk t.kind t.n a).enc)
    (fun a _ => by rw [eq_keep_Type_3h]; simp [Ty.mk_agg])
    (fun j h a ha => by
      rw [eq_keep_Type_3h]
      have := dApp_map (e := Ty.enc) (sz := 3) (l := a) (x := t.kids[j]) (by unfold lim; omega)
      simp [h, dIdx_map h, Ty.eta, Ty.ag, ih _ (List.getElem_mem h) (Ty.thin_kid ht (List.getElem_mem h)), this, dAdd1 (show j < 9223372036854775807 by omega)])
   simp only [List.map_nil, List.map_id_fun', id_eq] at loop
   have e : Ty.mk t.kind t.n t.kids = t := by cases t; rfl
   rw [e] at loop
   simp [loop]
theorem sp_l05_countType (t : Ty) : t.thin = true → ∀ n : Int, 0 ≤ n → n ≤ 401 → ∃ m : Int, (run cfg).p F_l05_countType [t.enc, .int .i64 n] = some (.int .i64 m) ∧ n ≤ m ∧ m ≤ 401 := by
 induction t using Ty.ind with
 | h t ih =>
   intro ht n h0 h1
   have hb := t.thin_len ht
   have loop : ∀ (k j : Nat) (n : Int), j + k = t.kids.length → 0 ≤ n → n ≤ 401 → ∃ m : Int, P_l05_countType_2h (run cfg) (.int .i64 n) (.int .i64 j) t.enc = some (.int .i64 m) ∧ n ≤ m ∧ m ≤ 401 := by
    intro k
    induction k with
    | zero =>
      intro j n hj h0 h1
      refine ⟨n, ?_, Int.le_refl _, h1⟩
      have : ¬ j < t.kids.length := by omega
      rw [eq_l05_countType_2h]
      simp [this]
    | succ k ihk =>
      intro j n hj h0 h1
      have hj' : j < t.kids.length := by omega
      rw [eq_l05_countType_2h]
      by_cases hn : n ≤ 400
      ·have hadd : dBin .add (.int .i64 n) (.int .i64 1) = some (.int .i64 (n + 1)) := dAdd (by omega) (by omega)
       obtain ⟨m, a1, a2, a3⟩ := ih _ (List.getElem_mem hj') (Ty.thin_kid ht (List.getElem_mem hj')) (n + 1) (by omega) (by omega)
       obtain ⟨m', b1, b2, b3⟩ := ihk (j + 1) m (by omega) (by omega) a3
       push_cast at b1
       exact ⟨m', by simp [hj', hn, hadd, dIdx_map hj', Ty.eta, Ty.ag, a1, dAdd1 (show j < 9223372036854775807 by omega), b1], by omega, b3⟩
      ·exact ⟨n, by simp [hj', hn], Int.le_refl _, h1⟩
   obtain ⟨m, a1, a2, a3⟩ := loop t.kids.length 0 n (by omega) h0 h1
   refine ⟨m, call_l05_countType _ _ ?_, a2, a3⟩
   rw [eq_l05_countType]
   simp
   exact a1
theorem sp_l05_countPat (p : Pat) : p.thin = true → ∀ n : Int, 0 ≤ n → n ≤ 401 → ∃ m : Int, (run cfg).p F_l05_countPat [p.enc, .int .i64 n] = some (.int .i64 m) ∧ n ≤ m ∧ m ≤ 401 := by
 induction p using Pat.ind with
 | h p ih =>
   intro ht n h0 h1
   have hb := p.thin_len ht
   have loop : ∀ (k j : Nat) (n : Int), j + k = p.kids.length → 0 ≤ n → n ≤ 401 → ∃ m : Int, P_l05_countPat_4h (run cfg) (.int .i64 n) (.int .i64 j) p.enc = some (.int .i64 m) ∧ n ≤ m ∧ m ≤ 401 := by
    intro k
    induction k with
    | zero =>
      intro j n hj h0 h1
      refine ⟨n, ?_, Int.le_refl _, h1⟩
      have : ¬ j < p.kids.length := by omega
      rw [eq_l05_countPat_4h]
      simp [this]
    | succ k ihk =>
      intro j n hj h0 h1
      have hj' : j < p.kids.length := by omega
      rw [eq_l05_countPat_4h]
      by_cases hn : n ≤ 400
      ·have hadd : dBin .add (.int .i64 n) (.int .i64 1) = some (.int .i64 (n + 1)) := dAdd (by omega) (by omega)
       obtain ⟨m, a1, a2, a3⟩ := ih _ (List.getElem_mem hj') (Pat.thin_kid ht (List.getElem_mem hj')) (n + 1) (by omega) (by omega)
       obtain ⟨m', b1, b2, b3⟩ := ihk (j + 1) m (by omega) (by omega) a3
       push_cast at b1
       exact ⟨m', by simp [hj', hn, hadd, dIdx_map hj', Pat.eta, Pat.ag, a1, dAdd1 (show j < 9223372036854775807 by omega), b1], by omega, b3⟩
      ·exact ⟨n, by simp [hj', hn], Int.le_refl _, h1⟩
   by_cases c1 : (300 : Int) < (p.s.size : Int)
   ·refine ⟨401, call_l05_countPat _ _ ?_, h1, by omega⟩
    rw [eq_l05_countPat]
    simp [c1]
   by_cases c2 : (300 : Int) < (p.name.size : Int)
   ·refine ⟨401, call_l05_countPat _ _ ?_, h1, by omega⟩
    rw [eq_l05_countPat]
    simp [c1, c2]
   obtain ⟨m, a1, a2, a3⟩ := loop p.kids.length 0 n (by omega) h0 h1
   refine ⟨m, call_l05_countPat _ _ ?_, a2, a3⟩
   rw [eq_l05_countPat]
   simp [c1, c2]
   exact a1
theorem sp_l05_count (t : Ex) : t.fit → ∀ n : Int, 0 ≤ n → n ≤ 401 → ∃ m : Int, (run cfg).p F_l05_count [t.enc, .int .i64 n] = some (.int .i64 m) ∧ 0 ≤ m ∧ m ≤ 402 ∧ (n = 401 → 401 ≤ m) ∧ (m ≤ 400 → n + t.size ≤ m) := by
 induction t using Ex.ind with
 | h t ih =>
   intro ht n h0 h1
   have hk := big (Nat.le_of_lt ht.one.kids)
   have hp := big (Nat.le_of_lt ht.one.pats)
   have e12 : ∀ m : Int, 0 ≤ m → m ≤ 402 → ∃ m' : Int, P_l05_count_12 (run cfg) (.int .i64 m) t.enc = some (.int .i64 m') ∧ 0 ≤ m' ∧ m' ≤ 402 ∧ (m' = m ∨ m' = 401) := by
    intro m hm hm2
    rw [eq_l05_count_12]
    by_cases c1 : (300 : Int) < (t.s.size : Int)
    ·exact ⟨401, by simp [c1], by omega, by omega, .inr rfl⟩
    by_cases c2 : (300 : Int) < (t.name.size : Int)
    ·exact ⟨401, by simp [c1, c2], by omega, by omega, .inr rfl⟩
    by_cases c3 : (300 : Int) < (t.arg.size : Int)
    ·exact ⟨401, by simp [c1, c2, c3], by omega, by omega, .inr rfl⟩
    ·exact ⟨m, by simp [c1, c2, c3], hm, hm2, .inl rfl⟩
   have l9 : ∀ (k j : Nat) (n : Int), j + k = t.kids.length → 0 ≤ n → n ≤ 402 → ∃ m : Int, P_l05_count_9h (run cfg) (.int .i64 n) (.int .i64 j) t.enc = some (.int .i64 m) ∧ 0 ≤ m ∧ m ≤ 402 ∧ (401 ≤ n → 401 ≤ m) ∧ (m ≤ 400 → n + (((t.kids.drop j).map Ex.size).sum : Nat) ≤ m) := by
    intro k
    induction k with
    | zero =>
      intro j n hj h0 h1
      obtain ⟨m, a1, a2, a3, a4⟩ := e12 n h0 h1
      have : ¬ j < t.kids.length := by omega
      refine ⟨m, by rw [eq_l05_count_9h]; simp [this, a1], a2, a3, fun _ => by omega, fun hm => ?_⟩
      rw [List.drop_of_length_le (by omega)]
      simp
      omega
    | succ k ihk =>
      intro j n hj h0 h1
      have hj' : j < t.kids.length := by omega
      by_cases hn : n ≤ 400
      ·obtain ⟨m, a1, a2, a3, a4, a5⟩ := ih _ (List.getElem_mem hj') (ht.kid (List.getElem_mem hj')) n h0 (by omega)
       obtain ⟨m', b1, b2, b3, b4, b5⟩ := ihk (j + 1) m (by omega) a2 a3
       push_cast at b1
       refine ⟨m', by rw [eq_l05_count_9h]; simp [hj', hn, dIdx_map hj', Ex.eta, Ex.ag, a1, dAdd1 (show j < 9223372036854775807 by omega), b1], b2, b3, fun h => absurd h (by omega), fun hm => ?_⟩
       have g1 := b5 hm
       have g2 : m ≤ 400 := by
        by_cases h : m ≤ 400
        ·exact h
        ·have := b4 (by omega); omega
       have g3 := a5 g2
       rw [List.drop_eq_getElem_cons hj', List.map_cons, List.sum_cons]
       push_cast
       omega
      ·obtain ⟨m, a1, a2, a3, a4⟩ := e12 n h0 h1
       exact ⟨m, by rw [eq_l05_count_9h]; simp [hj', hn, a1], a2, a3, fun _ => by omega, fun hm => absurd hm (by omega)⟩
   have e8 : ∀ n : Int, 0 ≤ n → n ≤ 402 → ∃ m : Int, P_l05_count_8 (run cfg) (.int .i64 n) t.enc = some (.int .i64 m) ∧ 0 ≤ m ∧ m ≤ 402 ∧ (401 ≤ n → 401 ≤ m) ∧ (m ≤ 400 → n + ((t.kids.map Ex.size).sum : Nat) ≤ m) := by
    intro n h0 h1
    obtain ⟨m, a1, a2, a3, a4, a5⟩ := l9 t.kids.length 0 n (by omega) h0 h1
    exact ⟨m, by rw [eq_l05_count_8]; simpa using a1, a2, a3, a4, by simpa using a5⟩
   have l5 : ∀ (k j : Nat) (n : Int), j + k = t.pats.length → 0 ≤ n → n ≤ 402 → ∃ m : Int, P_l05_count_5h (run cfg) (.int .i64 n) (.int .i64 j) t.enc = some (.int .i64 m) ∧ 0 ≤ m ∧ m ≤ 402 ∧ (401 ≤ n → 401 ≤ m) ∧ (m ≤ 400 → n + ((t.kids.map Ex.size).sum : Nat) ≤ m) := by
    intro k
    induction k with
    | zero =>
      intro j n hj h0 h1
      obtain ⟨m, a1, a2, a3, a4, a5⟩ := e8 n h0 h1
      have : ¬ j < t.pats.length := by omega
      exact ⟨m, by rw [eq_l05_count_5h]; simp [this, a1], a2, a3, a4, a5⟩
    | succ k ihk =>
      intro j n hj h0 h1
      have hj' : j < t.pats.length := by omega
      by_cases hn : n ≤ 400
      ·obtain ⟨m, a1, a2, a3⟩ := sp_l05_countPat _ (Pat.fit_thin (ht.one.pat _ (List.getElem_mem hj'))) n h0 (by omega)
       obtain ⟨m', b1, b2, b3, b4, b5⟩ := ihk (j + 1) m (by omega) (by omega) (by omega)
       push_cast at b1
       refine ⟨m', by rw [eq_l05_count_5h]; simp [hj', hn, dIdx_map hj', Pat.eta, Pat.ag, a1, dAdd1 (show j < 9223372036854775807 by omega), b1], b2, b3, fun h => absurd h (by omega), fun hm => ?_⟩
       have := b5 hm
       omega
      ·obtain ⟨m, a1, a2, a3, a4, a5⟩ := e8 n h0 h1
       exact ⟨m, by rw [eq_l05_count_5h]; simp [hj', hn, a1], a2, a3, a4, a5⟩
   have hadd : dBin .add (.int .i64 n) (.int .i64 1) = some (.int .i64 (n + 1)) := dAdd (by omega) (by omega)
   by_cases hn1 : n + 1 ≤ 401
   ·obtain ⟨ma, a1, a2, a3⟩ := sp_l05_countType _ ht.one.a (n + 1) (by omega) hn1
    obtain ⟨mb, b1, b2, b3⟩ := sp_l05_countType _ ht.one.b ma (by omega) a3
    obtain ⟨m, c1, c2, c3, c4, c5⟩ := l5 t.pats.length 0 mb (by omega) (by omega) (by omega)
    refine ⟨m, call_l05_count _ _ ?_, c2, c3, fun h => absurd h (by omega), fun hm => ?_⟩
    ·rw [eq_l05_count]
     simp [hadd, Ty.eta, Ty.ag, a1, b1]
     exact c1
    ·have := c5 hm
     have := t.size_eq
     push_cast at *
     omega
   ·-- more than enough
    have hn : n = 401 := by omega
    subst hn
    have big402 : ∀ y : Ty, (run cfg).p F_l05_countType [y.enc, .int .i64 402] = some (.int .i64 402) := by
     intro y
     refine call_l05_countType _ _ ?_
     rw [eq_l05_countType]
     simp
     rw [eq_l05_countType_2h]
     by_cases h : 0 < y.kids.length <;> simp [h]
    obtain ⟨m, c1, c2, c3, c4, c5⟩ := l5 t.pats.length 0 402 (by omega) (by omega) (by omega)
    refine ⟨m, call_l05_count _ _ ?_, c2, c3, fun _ => c4 (by omega), fun hm => absurd (c4 (by omega)) (by omega)⟩
    rw [eq_l05_count]
    simp [hadd, Ty.eta, Ty.ag, big402]
    exact c1
theorem sp_l05_count_more (t : Ex) (ht : t.fit) (n : Int) (h0 : 401 ≤ n) (h1 : n ≤ 1000000) : ∃ m : Int, (run cfg).p F_l05_count [t.enc, .int .i64 n] = some (.int .i64 m) ∧ 401 ≤ m ∧ m ≤ n + 1 := by
 have hk := big (Nat.le_of_lt ht.one.kids)
 have hp := big (Nat.le_of_lt ht.one.pats)
 have hn : ¬ n + 1 ≤ 400 := by omega
 have e12 : ∃ m : Int, P_l05_count_12 (run cfg) (.int .i64 (n + 1)) t.enc = some (.int .i64 m) ∧ 401 ≤ m ∧ m ≤ n + 1 := by
  rw [eq_l05_count_12]
  by_cases c1 : (300 : Int) < (t.s.size : Int)
  ·exact ⟨401, by simp [c1], by omega, by omega⟩
  by_cases c2 : (300 : Int) < (t.name.size : Int)
  ·exact ⟨401, by simp [c1, c2], by omega, by omega⟩
  by_cases c3 : (300 : Int) < (t.arg.size : Int)
  ·exact ⟨401, by simp [c1, c2, c3], by omega, by omega⟩
  ·exact ⟨n + 1, by simp [c1, c2, c3], by omega, by omega⟩
 obtain ⟨m, a1, a2, a3⟩ := e12
 have e9 : P_l05_count_9h (run cfg) (.int .i64 (n + 1)) (.int .i64 0) t.enc = some (.int .i64 m) := by
  rw [eq_l05_count_9h]
  by_cases h : 0 < t.kids.length <;> simp [h, hn, a1]
 have e8 : P_l05_count_8 (run cfg) (.int .i64 (n + 1)) t.enc = some (.int .i64 m) := by
  rw [eq_l05_count_8]
  exact e9
 have e5 : P_l05_count_5h (run cfg) (.int .i64 (n + 1)) (.int .i64 0) t.enc = some (.int .i64 m) := by
  rw [eq_l05_count_5h]
  by_cases h : 0 < t.pats.length <;> simp [h, hn, e8]
 have big402 : ∀ y : Ty, (run cfg).p F_l05_countType [y.enc, .int .i64 (n + 1)] = some (.int .i64 (n + 1)) := by
  intro y
  refine call_l05_countType _ _ ?_
  rw [eq_l05_countType]
  simp
  rw [eq_l05_countType_2h]
  by_cases h : 0 < y.kids.length <;> simp [h, hn]
 have hadd : dBin .add (.int .i64 n) (.int .i64 1) = some (.int .i64 (n + 1)) := dAdd (by omega) (by omega)
 refine ⟨m, call_l05_count _ _ ?_, a2, a3⟩
 rw [eq_l05_count]
 simp [hadd, Ty.eta, Ty.ag, big402]
 exact e5
theorem sp_l05_Heavy (l : List Ex) (hl : l.length ≤ 16) (ft : ∀ t ∈ l, t.fit) : ∃ b : Bool, (run cfg).p F_l05_Heavy [.list 16 (l.map Ex.enc)] = some (.bool b) ∧ (b = false → (l.map Ex.size).sum ≤ 400) := by
 have loop : ∀ (k j : Nat) (n : Int), j + k = l.length → 0 ≤ n → n ≤ 500 + j → ∃ b : Bool, P_l05_Heavy_3h (run cfg) (.list 16 (l.map Ex.enc)) (.int .i64 n) (.int .i64 (j : Int)) = some (.bool b) ∧ (b = false → n + (((l.drop j).map Ex.size).sum : Nat) ≤ 400) := by
  intro k
  induction k with
  | zero =>
    intro j n hj h0 h1
    have : ¬ j < l.length := by omega
    refine ⟨decide (400 < n), ?_, fun h => ?_⟩
    ·rw [eq_l05_Heavy_3h]
     simp [this]
    ·rw [List.drop_of_length_le (by omega)]
     simp at h
     simp
     omega
  | succ k ih =>
    intro j n hj h0 h1
    have h : j < l.length := by omega
    obtain ⟨m, a1, a2, a3, a4⟩ : ∃ m : Int, (run cfg).p F_l05_count [l[j].enc, .int .i64 n] = some (.int .i64 m) ∧ 0 ≤ m ∧ m ≤ 500 + (j + 1 : Nat) ∧ (m ≤ 400 → n + l[j].size ≤ m) := by
     by_cases hn : n ≤ 400
     ·obtain ⟨m, a1, a2, a3, a4, a5⟩ := sp_l05_count _ (ft _ (List.getElem_mem h)) n h0 (by omega)
      exact ⟨m, a1, a2, by omega, a5⟩
     ·obtain ⟨m, a1, a2, a3⟩ := sp_l05_count_more _ (ft _ (List.getElem_mem h)) n (by omega) (by omega)
      exact ⟨m, a1, by omega, by omega, fun h => absurd h (by omega)⟩
    obtain ⟨b, hb, hb2⟩ := ih (j + 1) m (by omega) a2 a3
    push_cast at hb
    refine ⟨b, ?_, fun hf => ?_⟩
    ·rw [eq_l05_Heavy_3h]
     simp [h, dIdx_map h, Ex.eta, Ex.ag, a1, dAdd1 (show j < 9223372036854775807 by omega), hb]
    ·have g1 := hb2 hf
     rw [List.drop_eq_getElem_cons h, List.map_cons, List.sum_cons]
     have g2 := a4 (by omega)
     push_cast
     omega
 obtain ⟨b, hb, hb2⟩ := loop l.length 0 0 (by omega) (by omega) (by omega)
 refine ⟨b, call_l05_Heavy _ ?_, fun h => ?_⟩
 ·rw [eq_l05_Heavy]
  simpa using hb
 ·have := hb2 h
  simp at this
  omega
theorem dAddi {i : Nat} (h : i < 9223372036854775807) : dBin .add (.int .i64 (i : Int)) (.int .i64 1) = some (.int .i64 ((i : Int) + 1)) := by
 rw [dAdd1 h]
 rfl
theorem sp_keep_Pat (t : Pat) : t.size ≤ lim → (run cfg).p F_keep_Pat [t.enc] = some t.enc := by
 induction t using Pat.ind with
 | h t ih =>
   intro hs
   have hb := t.len_lt
   have hB := big hs
   refine call_keep_Pat _ ?_
   rw [eq_keep_Pat]
   have loop := loop_map (l := t.kids) (P := fun j (a : List Pat) => P_keep_Pat_4h (run cfg) (.int .i64 j) t.enc (.int .i64 t.kind) (.int .i64 t.lo) (.int .i64 t.hi) (.str t.name) (.int .i64 t.n) (.str t.s) (.list 7 (a.map Pat.enc)))
    (g := fun k => k) (fin := fun a => some (Pat.mk t.kind t.lo t.hi t.name t.n t.s a).enc)
    (fun a _ => by rw [eq_keep_Pat_4h, Pat.enc_eq (Pat.mk _ _ _ _ _ _ _)]; simp)
    (fun j h a ha => by
      have hk := Pat.size_kid (List.getElem_mem h)
      have := dApp_map (e := Pat.enc) (sz := 7) (l := a) (x := t.kids[j]) (by omega)
      rw [eq_keep_Pat_4h]
      simp only [Pat.pj, dLen_list, List.length_map, dBin_lss, Int.ofNat_lt, h, decide_true, ob_some', oif_bool, if_true, dIdx_map h, Pat.eta, Pat.ag, ih _ (List.getElem_mem h) (by omega), isAggN_Pat, og_true', this, dAddi (show j < 9223372036854775807 by omega)])
   simp only [List.map_nil, List.map_id_fun', id_eq] at loop
   have e : Pat.mk t.kind t.lo t.hi t.name t.n t.s t.kids = t := by cases t; rfl
   rw [e] at loop
   simp only [isAggN_Pat, og_true', Pat.pj]
   exact loop
theorem sp_keep_Expr (t : Ex) : t.fit → t.mass ≤ lim → (run cfg).p F_keep_Expr [t.enc] = some t.enc := by
 induction t using Ex.ind with
 | h t ih =>
   intro ft hm
   have hk := ft.one.kids
   have hp := ft.one.pats
   have hK := big (Nat.le_of_lt hk)
   have hP := big (Nat.le_of_lt hp)
   have z16 : (.list 16 [] : DV) = .list 16 (([] : List Ex).map Ex.enc) := rfl
   refine call_keep_Expr _ ?_
   rw [eq_keep_Expr]
   have l8 : ∀ ps : List Pat, _ := fun ps => loop_map (l := t.kids) (P := fun j (a : List Ex) => P_keep_Expr_8h (run cfg) (.int .i64 j) t.enc
    (.int .i64 t.kind) (.int .i64 t.lo) (.int .i64 t.hi) (.str t.name) (.str t.arg) (.int .i64 t.n) (.str t.s) (.int .i64 t.op) (.int .i64 t.a.kind) (.int .i64 t.a.n) (.list 3 (t.a.kids.map Ty.enc)) (.int .i64 t.b.kind) (.int .i64 t.b.n) (.list 3 (t.b.kids.map Ty.enc)) (.list 7 (ps.map Pat.enc)) (.list 16 (a.map Ex.enc)))
    (g := fun k => k) (fin := fun a => some (Ex.mk t.kind t.lo t.hi t.name t.arg t.n t.s t.op t.a t.b ps a).enc)
    (fun a _ => by rw [eq_keep_Expr_8h, Ex.enc_eq (Ex.mk _ _ _ _ _ _ _ _ _ _ _ _)]; simp)
    (fun j h a ha => by
      have := dApp_map (e := Ex.enc) (sz := 16) (l := a) (x := t.kids[j]) (by omega)
      rw [eq_keep_Expr_8h]
      simp only [Ex.pj, dLen_list, List.length_map, dBin_lss, Int.ofNat_lt, h, decide_true, ob_some', oif_bool, if_true, dIdx_map h, Ex.eta, Ex.ag, ih _ (List.getElem_mem h) (ft.kid (List.getElem_mem h)) (by have := Ex.mass_kid (List.getElem_mem h); omega), isAggN_Ex, og_true', this, dAddi (show j < 9223372036854775807 by omega)])
   have l4 := loop_map (l := t.pats) (P := fun j (a : List Pat) => P_keep_Expr_4h (run cfg) (.int .i64 j) t.enc
    (.int .i64 t.kind) (.int .i64 t.lo) (.int .i64 t.hi) (.str t.name) (.str t.arg) (.int .i64 t.n) (.str t.s) (.int .i64 t.op) (.int .i64 t.a.kind) (.int .i64 t.a.n) (.list 3 (t.a.kids.map Ty.enc)) (.int .i64 t.b.kind) (.int .i64 t.b.n) (.list 3 (t.b.kids.map Ty.enc)) (.list 7 (a.map Pat.enc)))
    (g := fun k => k) (fin := fun a => some (Ex.mk t.kind t.lo t.hi t.name t.arg t.n t.s t.op t.a t.b a t.kids).enc)
    (fun a _ => by
      have := l8 a
      simp only [List.map_nil, List.map_id_fun', id_eq] at this
      rw [eq_keep_Expr_4h]
      simp only [Ex.proj14, dLen_list, List.length_map, dBin_lss, Int.lt_irrefl, decide_false, ob_some', oif_bool, Bool.false_eq_true, if_false]
      exact this)
    (fun j h a ha => by
      have ps : t.pats[j].size ≤ lim := (ft.one.pat _ (List.getElem_mem h)).size
      have := dApp_map (e := Pat.enc) (sz := 7) (l := a) (x := t.pats[j]) (by omega)
      rw [eq_keep_Expr_4h]
      simp only [Ex.proj14, dLen_list, List.length_map, dBin_lss, Int.ofNat_lt, h, decide_true, ob_some', oif_bool, if_true, dIdx_map h, pax, sp_keep_Pat _ ps, isAggN_Pat, og_true', this, dAddi (show j < 9223372036854775807 by omega)])
   simp only [List.map_nil, List.map_id_fun', id_eq] at l4
   have e : Ex.mk t.kind t.lo t.hi t.name t.arg t.n t.s t.op t.a t.b t.pats t.kids = t := by cases t; rfl
   rw [e] at l4
   simp only [isAggN_Ex, og_true', Ex.pj, Ty.eta, Ty.ag, sp_keep_Type _ ft.one.a, sp_keep_Type _ ft.one.b, ob_some', isAggN_Ty, Ty.proj0, Ty.proj1, Ty.proj2]
   exact l4
end Go.Su

/-
 The law EraseExact answers true on data.
-/
namespace Go.Su
set_option linter.unusedVariables false
set_option linter.unusedSimpArgs false
theorem Ex.runE_plain (F : Nat) : ∀ (m n : Nat) (t : Ex), t.cl → t.lean F → F ≤ 4294960000 → (t.runE m n).val.plain := by
 intro m
 induction m with
 | zero =>
   intro n t ht hl hF
   cases v : t.val
   ·rw [Ex.runE_zero n v]; exact noVal_plain
   ·rw [Ex.runE_val 0 n v]
    split
    ·exact noVal_plain
    ·exact Ex.told_plain t (Ex.right_fit hF t ht.1 hl)
 | succ m ih =>
   intro n t ht hl hF
   cases v : t.val
   ·rw [Ex.runE_succ m n v]
    by_cases hz : t.stepE.2.kind = 0
    ·rw [if_neg (by simpa using hz)]
     exact ih _ _ (Ex.stepE_cl t ht hz) (Ex.stepE_lean t hl) hF
    ·rw [if_pos hz]; exact noVal_plain
   ·rw [Ex.runE_val (m + 1) n v]
    split
    ·exact noVal_plain
    ·exact Ex.told_plain t (Ex.right_fit hF t ht.1 hl)
theorem Ex.RunE_plain (B F : Nat) (t : Ex) (hB : B ≤ 4294960000) (hl : t.lean B) : (t.RunE F).val.plain := by
 unfold Ex.RunE
 split
 ·rename_i h
  exact Ex.runE_plain B F 0 t h hl hB
 ·split <;> exact noVal_plain
theorem Ex.opE_bad (t a b : Ex) : (t.opE a b).2.kind = 0 ∨ (t.opE a b).1 = noEx := by
 unfold Ex.opE
 repeat' split
 all_goals first
  | exact .inl rfl
  | exact .inr rfl
theorem Ex.redE_or (t : Ex) : t.redE.2.kind = 0 ∨ t.redE.1 = noEx := by
 unfold Ex.redE
 split
 ·split
  ·exact .inl rfl
  ·exact .inr rfl
 split
 ·exact .inl rfl
 split
 ·exact .inl rfl
 split
 ·split
  ·exact .inl rfl
  ·exact .inr rfl
 split
 ·exact Ex.opE_bad _ _ _
 split
 ·split
  ·exact .inl rfl
  ·exact .inr rfl
 split
 ·exact .inl rfl
 ·exact .inr rfl
theorem Ex.redE_bad {t : Ex} (h : t.redE.2.kind ≠ 0) : t.redE.1 = noEx := t.redE_or.resolve_left h
theorem Ex.stepE_bad {t : Ex} (h : t.stepE.2.kind ≠ 0) : t.stepE.1 = noEx := by
 rw [Ex.stepE_eq] at h ⊢
 cases hd : t.due with
 | none => rw [hd] at h; exact Ex.redE_bad h
 | some i =>
   rw [hd] at h
   simp only at h ⊢
   split
   ·rfl
   ·rename_i c
    rw [if_neg c] at h
    exact absurd rfl h
theorem noEx_fit : noEx.fit := Ex.fit_mass (by simp [noEx, Ex.mass_eq, Ty.size_eq, nil8_size])
theorem Ex.StepE_fit (B : Nat) (hB : B ≤ 4294960000) (t : Ex) (ft : t.fit) (hl : t.lean B) : t.StepE.1.fit := by
 unfold Ex.StepE
 split
 ·rename_i h
  split
  ·exact ft
  ·by_cases hz : t.stepE.2.kind = 0
   ·exact Ex.right_fit hB _ (Ex.stepE_cl t h hz).1 (Ex.stepE_lean t hl)
   ·rw [Ex.stepE_bad hz]; exact noEx_fit
 ·exact noEx_fit
theorem law_eraseexact (e v : Ex) (s : ByteArray) (f : Int) (hm : e.mass + v.mass + s.size ≤ 1048576) : (run cfg).p F_l26_EraseExact [e.enc, v.enc, .str s, .int .i64 f] = some (.bool true) := by
 have fe : e.fit := Ex.fit_mass (by omega)
 have fv : v.fit := Ex.fit_mass (by omega)
 have me : e.mass ≤ lim := by unfold lim; omega
 have me2 : 2 * e.mass ≤ lim := by unfold lim; omega
 have mv2 : 2 * v.mass ≤ lim := by unfold lim; omega
 obtain ⟨b1, h1, -⟩ := sp_l05_Heavy [e, v] (by simp) (by simp [fe, fv])
 simp only [List.map_cons, List.map_nil] at h1
 have le : e.lean 1048576 := Ex.lean.le (by omega) (Ex.lean_of e)
 have d0 : ∀ b : Bool, dEqB (.bool b) (.bool b) = some true := fun b => by cases b <;> rfl
 have p5 : ∀ g : Int, g ≤ 80 → P_l26_EraseExact_5 (run cfg) (.str s) (.int .i64 g) e.enc v.enc = some (.bool true) := by
  intro g hg
  obtain ⟨b, hb, ht⟩ := sp_r23_TamePlain 1048576 (by omega) e fe me2 le g (by omega)
  rw [eq_l26_EraseExact_5]
  simp only [exx, hb, ob_some', dUn_not, oif_bool]
  cases b
  ·simp
  have tm : e.cl → e.tame (min (max g 0) 65536).toNat := fun h => by
   have := ht rfl h
   rwa [show (min (max g 0) 65536).toNat = g.toNat by omega]
  have hF : ((min (max g 0) 65536).toNat : Int) = min (max g 0) 65536 := by omega
  have c1 := sp_keep_Expr e fe me
  have c2 := sp_erase_Step 1048576 (by omega) e fe me2 le
  have c3 := sp_r23_StepPlain 1048576 (by omega) e fe me2 le
  have c4 := sp_erase_Run 1048576 (by omega) e fe me2 g _ hF le tm
  have c5 := sp_r23_RunPlain 1048576 (by omega) e fe me2 g _ hF le tm
  have c6 := sp_erase_Put e v s fe fv mv2 (by unfold lim; omega)
  have c7 := sp_r23_PutPlain e v s fe fv mv2 (by omega)
  have c8 := sp_erase_Value e fe me2
  have c9 := sp_r23_ValuePlain e fe me2
  have c10 := sp_r05_SameAt e.StepE.1 (Ex.StepE_fit 1048576 (by omega) e fe le) e.StepE.1
  have c11 := sp_r05_SameAt e fe e
  have rp := Ex.RunE_plain 1048576 (min (max g 0) 65536).toNat e (by omega) le
  have c12 := sp_r23_SameResult_self (e.RunE (min (max g 0) 65536).toNat) (e.RunE (min (max g 0) 65536).toNat) rp rfl
  have c13 := sp_r23_SameResult_self (e.StepE.2.res 0) (e.StepE.2.res 0) noVal_plain rfl
  rw [← R3.enc_res] at c13
  obtain ⟨q, n, fq, hq1⟩ : ∃ (q : Ex) (n : Int), q.fit ∧ (if e.right = true ∧ v.right = true ∧ v.free = [] ∧ nameB s = true then DV.tup [(e.put s v).enc, .int .i64 0] else .tup [zeroEx.enc, .int .i64 1]) = .tup [q.enc, .int .i64 n] := by
   split
   ·exact ⟨_, 0, Ex.put_fit e s v fv fe, rfl⟩
   ·exact ⟨zeroEx, 1, noEx_fit, rfl⟩
  rw [hq1] at c6 c7
  have c14 := sp_r05_SameAt q fq q
  have s14 : proj 14 e.StepE.2.enc = .int .i64 0 := rfl
  simp only [Bool.not_true, Bool.false_eq_true, if_false, c1, c2, c3, c4, c5, c6, c7, ob_some', exx, isAggN_Ex, isAggN_R3, isAggN_Res, og_true', dExt_0, dExt_1]
  rw [eq_l26_EraseExact_13]
  simp only [exx, r3x, rslt_eta]
  simp only [c8, c9, c10, c11, c12, c13, c14, ob_some', d0, ogd_bool, if_true, s14, rslt_steps, dBin_eql, decide_true, w26_wakes]
 refine call_l26_EraseExact _ _ _ _ ?_
 rw [eq_l26_EraseExact]
 simp only [exx, isAggN_Ex, og_true', h1, ob_some', ogd_bool, dLenS_str, dBin_gtr, oif_bool]
 cases b1
 rotate_left
 ·simp
 by_cases l1 : (100 : Int) < (s.size : Int)
 ·simp [l1]
 simp only [l1, decide_false, Bool.false_eq_true, if_false]
 by_cases l2 : (80 : Int) < f
 ·have hr : dBin .rem (.int .i64 f) (.int .i64 80) = some (.int .i64 (f.tmod 80)) := rfl
  have h3 : f.tmod 80 ≤ 80 := by have := Int.tmod_lt_of_pos f (show (0 : Int) < 80 by omega); omega
  have h4 : 0 ≤ f.tmod 80 := Int.tmod_nonneg 80 (by omega)
  simp only [l2, decide_true, if_true, hr, ob_some']
  exact p5 _ h3
 ·simp only [l2, decide_false, Bool.false_eq_true, if_false]
  exact p5 f (by omega)
end Go.Su
