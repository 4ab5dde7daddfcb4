/-
  Parts of the proof, merged: T52, QT53, T53, QT54, T54, QT55, T55, QLTermPut, LTermPut.
-/
import Derived.Test.YtcdfkkiomocmpaaGreatP3
import Derived.Test.YtcdfkkiomocmpaaGreatP4
import Derived.Test.YtcdfkkiomocmpaaGreatP5
set_option linter.unusedVariables false
set_option linter.unusedSimpArgs false
/-
 What the program's functions and the reference's on terms give: types put into a whole term.
-/
namespace Go.Su
set_option linter.unusedVariables false
set_option linter.unusedSimpArgs false
theorem sp_r17_put (t : Ty) (l : Bds) (ht : t.right = true ∨ t.none = true) (hl : l.length ≤ lim) : (run cfg).p F_r17_put [t.enc, encBnds l] = some (t.putN l).enc := by
 refine call_r17_put _ _ ?_
 rw [eq_r17_put]
 simp only [tyx3, isAggN_Ty, og_true', sp_r03_None, ob_some', oif_bool]
 cases hn : t.none
 ·have rt : t.right = true := by
   rcases ht with h | h
   ·exact h
   ·rw [hn] at h; cases h
  have hp := sp_r08_Put l hl t rt
  simp only [Bool.false_eq_true, if_false, hp, ob_some', isAggN_Ty, og_true', tyx3]
  unfold Ty.putN
  rw [if_neg (Ty.kind_right rt)]
 ·simp only [if_true]
  rw [Ty.putN_none l hn]
theorem encBnd_mk1 (b : Int × Ty) : DV.agg [.int .i64 b.1, proj 1 (encBnd b), proj 2 (encBnd b), proj 3 (encBnd b)] = encBnd b := rfl
theorem dApp_bnd (a : Bds) (b : Int × Ty) (h : a.length + 1 ≤ lim) : dApp 4 (encBnds a) (.list 4 [encBnd b]) = some (encBnds (a ++ [b])) := by
 unfold encBnds
 exact dApp_map (e := encBnd) (sz := 4) (l := a) (x := b) h
theorem sp_r17_without (l : Bds) (vs : List Int) (hl : l.length ≤ lim) (hv : vs.length ≤ lim) : (run cfg).p F_r17_without [encBnds l, encInts vs] = some (encBnds (bOut l vs)) := by
 have hb := big hl
 refine call_r17_without _ _ ?_
 rw [eq_r17_without]
 have loop := loop_fold (l := l) (P := fun j (a : Bds) => P_r17_without_3h (run cfg) (encBnds l) (encInts vs) (encBnds a) (.int .i64 j))
  (g := fun a b => if b.1 ∈ vs then a else a ++ [b]) (fin := fun a => some (encBnds a)) (I := fun j a => a.length ≤ j)
  (fun a _ => by
    have dl : dLen (encBnds l) = some (.int .i64 l.length) := by simp [encBnds]
    rw [eq_r17_without_3h]
    simp [dl])
  (fun j h a ha => by
    have dl : dLen (encBnds l) = some (.int .i64 l.length) := by simp [encBnds]
    have e1 : dIdx 4 (encBnds l) (.int .i64 (j : Int)) = some (encBnd l[j]) := dIdx_map h
    have e2 := sp_r03_In vs hv l[j].1
    have e3 := dApp_bnd a l[j] (by omega)
    have e4 : dBin .add (.int .i64 (j : Int)) (.int .i64 1) = some (.int .i64 ((j : Int) + 1)) := dAdd1 (show j < 9223372036854775807 by omega)
    rw [eq_r17_without_3h]
    by_cases hm : l[j].1 ∈ vs
    ·refine ⟨?_, by rw [if_pos hm]; omega⟩
     simp only [dl, ob_some', dBin_lss, Int.ofNat_lt, h, decide_true, oif_bool, if_true, e1, encBnd_p0, e2, hm, dUn_not, Bool.not_true, Bool.false_eq_true, if_false, e4]
    ·refine ⟨?_, by rw [if_neg hm]; simp; omega⟩
     simp only [dl, ob_some', dBin_lss, Int.ofNat_lt, h, decide_true, oif_bool, if_true, e1, encBnd_p0, e2, hm, decide_false, dUn_not, Bool.not_false, encBnd_mk1, e3, e4, if_false]) [] (Nat.zero_le _)
 have e : ∀ (m : Bds) (a : Bds), m.foldl (fun a b => if b.1 ∈ vs then a else a ++ [b]) a = a ++ bOut m vs := by
  intro m
  induction m with
  | nil => intro a; simp [bOut]
  | cons x m ih =>
    intro a
    rw [List.foldl_cons, ih]
    by_cases hm : x.1 ∈ vs
    ·simp [bOut, hm]
    ·simp [bOut, hm]
 rw [e, List.nil_append] at loop
 exact loop
theorem sp_r17_Types (t : Tm) : t.fit → t.right = true → ∀ l : Bds, l.length ≤ lim → (run cfg).p F_r17_Types [t.enc, encBnds l] = some (t.typs l).enc := by
 induction t using Tm.ind with
 | h t ih =>
   intro ft rt l hl
   obtain ⟨ra, rb, rargs⟩ := Tm.types_right rt
   have fk := Nat.le_of_lt ft.one.kids
   have fa := Nat.le_of_lt ft.one.args
   have hK := big fk
   have hA := big fa
   have fv := Nat.le_of_lt ft.one.vars
   have ho := sp_r17_without l t.vars hl fv
   have lo : (bOut l t.vars).length ≤ lim := Nat.le_trans (bOut_len l _) hl
   have main : ∀ own : Bds, own.length ≤ lim → P_r17_Types_4 (run cfg) (encBnds l) (encBnds (bOut l t.vars)) (encBnds own) t.enc =
    some (Tm.mk t.kind t.lo t.hi t.name t.arg t.n t.s t.op t.label t.neg t.vars (t.a.putN own) (t.b.putN own) (t.args.map (Ty.putN l)) t.pats (Tm.typsL t.kids (bOut l t.vars) l)).enc := by
    intro own hown
    rw [eq_r17_Types_4]
    simp only [tm_a, tm_b, sp_r17_put t.a own ra hown, sp_r17_put t.b own rb hown, ob_some', isAggN_Ty, og_true']
    have kids := fun (A : List Ty) => loop_fold (l := t.kids.mapIdx fun j k => (j, k)) (P := fun j (K : List Tm) => P_r17_Types_12h (run cfg) (encBnds l) (encBnds (bOut l t.vars)) (.list 3 (A.map Ty.enc)) (.list 20 (K.map Tm.enc)) (.int .i64 j) (proj 0 t.enc) (proj 1 t.enc) (proj 2 t.enc) (proj 3 t.enc) (proj 4 t.enc) (proj 5 t.enc) (proj 6 t.enc) (proj 7 t.enc) (proj 8 t.enc) (proj 9 t.enc) (proj 10 t.enc) (proj 0 (t.a.putN own).enc) (proj 1 (t.a.putN own).enc) (proj 2 (t.a.putN own).enc) (proj 0 (t.b.putN own).enc) (proj 1 (t.b.putN own).enc) (proj 2 (t.b.putN own).enc) (proj 17 t.enc) (proj 18 t.enc) (proj 19 t.enc))
     (g := fun K b => K ++ [b.2.typs (bKid b.1 (bOut l t.vars) l)])
     (fin := fun K => some (Tm.mk t.kind t.lo t.hi t.name t.arg t.n t.s t.op t.label t.neg t.vars (t.a.putN own) (t.b.putN own) A t.pats K).enc) (I := fun j K => K.length = j)
     (fun K _ => by
       have ci : isCell (.list 3 (A.map Ty.enc)) = true := rfl
       simp only [List.length_mapIdx]
       rw [eq_r17_Types_12h]
       simp only [Tm.proj19 t, dLen_list, List.length_map, ob_some', dBin_lss, Int.lt_irrefl, decide_false, oif_bool, Bool.false_eq_true, if_false, ci, og_true']
       rw [Tm.enc_eq (Tm.mk _ _ _ _ _ _ _ _ _ _ _ _ _ _ _ _)]
       simp only [Tm.pj, Ty.proj0, Ty.proj1, Ty.proj2, Tm.kind_mk, Tm.lo_mk, Tm.hi_mk, Tm.name_mk, Tm.arg_mk, Tm.n_mk, Tm.s_mk, Tm.op_mk, Tm.label_mk, Tm.neg_mk, Tm.vars_mk, Tm.a_mk, Tm.b_mk, Tm.args_mk, Tm.pats_mk, Tm.kids_mk])
     (fun j h K hK' => by
       have h : j < t.kids.length := by simpa using h
       refine ⟨?_, by simp [hK']⟩
       have e1 : dIdx 20 (.list 20 (t.kids.map Tm.enc)) (.int .i64 (j : Int)) = some t.kids[j].enc := dIdx_map h
       have e2 := dApp_map (e := Tm.enc) (sz := 20) (l := K) (x := t.kids[j].typs (bKid j (bOut l t.vars) l)) (by omega)
       have e4 : dBin .add (.int .i64 (j : Int)) (.int .i64 1) = some (.int .i64 ((j : Int) + 1)) := dAdd1 (show j < 9223372036854775807 by omega)
       have f1 := ih _ (List.getElem_mem h) (ft.kid (List.getElem_mem h)) (Tm.right_kid rt (List.getElem_mem h)) (bKid j (bOut l t.vars) l) (by unfold bKid; split; exact lo; exact hl)
       simp only [List.getElem_mapIdx]
       rw [eq_r17_Types_12h]
       simp only [Tm.proj19 t, dLen_list, List.length_map, ob_some', dBin_lss, Int.ofNat_lt, h, decide_true, oif_bool, if_true, dBin_eql, e1, tmx3]
       by_cases h0 : j = 0
       ·have hj : (j : Int) = 0 := by omega
        have eb : bKid j (bOut l t.vars) l = bOut l t.vars := if_pos h0
        rw [eb] at f1 e2 ⊢
        simp only [hj, decide_true, if_true] at e4 ⊢
        simp only [f1, ob_some', isAggN_Tm, og_true', tmx3, e2, e4]
       ·have hj : ¬ (j : Int) = 0 := by omega
        have eb : bKid j (bOut l t.vars) l = l := if_neg h0
        rw [eb] at f1 e2 ⊢
        simp only [hj, decide_false, Bool.false_eq_true, if_false, f1, ob_some', isAggN_Tm, og_true', tmx3, e2, e4]) [] rfl
    have args := loop_fold (l := t.args) (P := fun j (A : List Ty) => P_r17_Types_7h (run cfg) (encBnds l) (encBnds (bOut l t.vars)) (.list 3 (A.map Ty.enc)) (.int .i64 j) (proj 0 t.enc) (proj 1 t.enc) (proj 2 t.enc) (proj 3 t.enc) (proj 4 t.enc) (proj 5 t.enc) (proj 6 t.enc) (proj 7 t.enc) (proj 8 t.enc) (proj 9 t.enc) (proj 10 t.enc) (proj 0 (t.a.putN own).enc) (proj 1 (t.a.putN own).enc) (proj 2 (t.a.putN own).enc) (proj 0 (t.b.putN own).enc) (proj 1 (t.b.putN own).enc) (proj 2 (t.b.putN own).enc) (proj 17 t.enc) (proj 18 t.enc) (proj 19 t.enc))
     (g := fun A b => A ++ [b.putN l]) (fin := fun A => some (Tm.mk t.kind t.lo t.hi t.name t.arg t.n t.s t.op t.label t.neg t.vars (t.a.putN own) (t.b.putN own) A t.pats (Tm.typsL t.kids (bOut l t.vars) l)).enc) (I := fun j A => A.length = j)
     (fun A _ => by
       have k := kids A
       have ek : ∀ (m : List (Nat × Tm)) (a : List Tm), m.foldl (fun K b => K ++ [b.2.typs (bKid b.1 (bOut l t.vars) l)]) a = a ++ m.map fun b => b.2.typs (bKid b.1 (bOut l t.vars) l) := by
        intro m
        induction m with
        | nil => intro a; simp
        | cons x m ih => intro a; rw [List.foldl_cons, ih]; simp
       rw [ek, List.nil_append] at k
       have em : ((t.kids.mapIdx fun j k => (j, k)).map fun b : Nat × Tm => b.2.typs (bKid b.1 (bOut l t.vars) l)) = Tm.typsL t.kids (bOut l t.vars) l := by
        refine List.ext_getElem? fun j => ?_
        rw [Tm.typsL_get, List.getElem?_map, List.getElem?_mapIdx, Option.map_map]
        rfl
       rw [em] at k
       rw [eq_r17_Types_7h]
       simp only [Tm.proj17 t, dLen_list, List.length_map, ob_some', dBin_lss, Int.lt_irrefl, decide_false, oif_bool, Bool.false_eq_true, if_false]
       rw [Tm.proj17 t] at k
       exact k)
     (fun j h A hA' => by
       refine ⟨?_, by simp [hA']⟩
       have e1 : dIdx 3 (.list 3 (t.args.map Ty.enc)) (.int .i64 (j : Int)) = some t.args[j].enc := dIdx_map h
       have e2 := dApp_map (e := Ty.enc) (sz := 3) (l := A) (x := t.args[j].putN l) (by omega)
       have e4 : dBin .add (.int .i64 (j : Int)) (.int .i64 1) = some (.int .i64 ((j : Int) + 1)) := dAdd1 (show j < 9223372036854775807 by omega)
       have f1 := sp_r17_put t.args[j] l (.inl (rargs _ (List.getElem_mem h))) hl
       rw [eq_r17_Types_7h]
       simp only [Tm.proj17 t, dLen_list, List.length_map, ob_some', dBin_lss, Int.ofNat_lt, h, decide_true, oif_bool, if_true, e1, tyx3, f1, isAggN_Ty, og_true', e2, e4]) [] rfl
    have ea : ∀ (m : List Ty) (a : List Ty), m.foldl (fun A b => A ++ [b.putN l]) a = a ++ m.map (Ty.putN l) := by
     intro m
     induction m with
     | nil => intro a; simp
     | cons x m ih => intro a; simp [ih]
    rw [ea, List.nil_append] at args
    exact args
   refine call_r17_Types _ _ ?_
   rw [eq_r17_Types, Tm.typs_eq]
   simp only [isAggN_Tm, og_true', Tm.proj10, ho, ob_some', Tm.proj0, dBin_eql, oif_bool, tmx3]
   by_cases h12 : t.kind = 12
   ·simp only [h12, decide_true, if_true]
    have := main (bOut l t.vars) lo
    rw [h12] at this
    exact this
   ·simp only [h12, decide_false, Bool.false_eq_true, if_false]
    exact main l hl
theorem sp_l17_light2 (t : Ty) (h : t.size ≤ lim) : ∃ b : Bool, (run cfg).p F_l17_light [t.enc] = some (.bool b) ∧ (b = true → t.size ≤ 60) := by
 obtain ⟨b, hb⟩ := sp_l11_Small [t] (by simp [lim]) (by simpa using h)
 simp only [List.map_cons, List.map_nil] at hb
 have hs := sp_r03_Size t h
 cases b
 ·refine ⟨false, call_l17_light _ ?_, by simp⟩
  rw [eq_l17_light]
  simp [Ty.eta, Ty.ag, hb]
 ·refine ⟨decide ((t.size : Int) ≤ 60), call_l17_light _ ?_, fun h => by simp at h; omega⟩
  rw [eq_l17_light]
  simp [Ty.eta, Ty.ag, hb, hs]
end Go.Su

/-
 The functions' specs that this claim needs.
-/
namespace Go.Su
set_option linter.unusedVariables false
set_option linter.unusedSimpArgs false
theorem cd1 (e : Int) : cellDat [((.int .i64 e : DV), Meta.val)] 0 = some (.int .i64 e) := rfl
theorem encStrs_nil : (.list 1 [] : DV) = encStrs [] := rfl
theorem encStrs_one (s : ByteArray) : (.list 1 [.str s] : DV) = encStrs [s] := rfl
theorem encStrs_two (s t : ByteArray) : (.list 1 [.str s, .str t] : DV) = encStrs [s, t] := rfl
theorem sp_term_patNames (t : Pat) : ∀ (l : List ByteArray) (sg : List SObj), l.length + t.size ≤ lim → (run cfg).r F_term_patNames [(t.enc, .val), (encStrs l, .own)] sg = some ([encStrs (t.namesOn l)], sg) := by
 induction t using Pat.ind with
 | h t ih =>
   intro l sg hl
   have hb := Pat.thin_len _ (Pat.thin_of_size (show t.size ≤ lim by omega))
   have hB := big hl
   refine call_term_patNames _ _ _ ?_
   have loop : ∀ l : List ByteArray, l.length + (t.kids.map Pat.size).sum ≤ lim → P_term_patNames_4h (run cfg) (encStrs l) (.list 7 (t.kids.map Pat.enc)) (.int .i64 t.kids.length) (.int .i64 0) sg = some ([encStrs (t.kids.foldl (fun l k => k.namesOn l) l)], sg) :=
    loop_fold (l := t.kids) (P := fun i (a : List ByteArray) => P_term_patNames_4h (run cfg) (encStrs a) (.list 7 (t.kids.map Pat.enc)) (.int .i64 t.kids.length) (.int .i64 i) sg) (g := fun a k => k.namesOn a) (fin := fun a => some ([encStrs a], sg))
     (I := fun i a => a.length + ((t.kids.drop i).map Pat.size).sum ≤ lim)
     (fun a _ => by rw [eq_term_patNames_4h]; simp)
     (fun i h a ha => by
       rw [List.drop_eq_getElem_cons h, List.map_cons, List.sum_cons] at ha
       have h1 := Pat.namesOn_len t.kids[i] a
       refine ⟨?_, by omega⟩
       rw [eq_term_patNames_4h]
       simp [h, dIdx_map h, Pat.eta, Pat.ag, ih _ (List.getElem_mem h) a sg (by omega), dAdd1 (show i < 9223372036854775807 by omega)])
   have hsz := Pat.size_eq t
   rw [eq_term_patNames, Pat.namesOn_eq]
   simp
   by_cases h6 : t.kind = 2
   ·simp [h6]
    rw [show encStrs l = .list 1 (l.map fun n => .str n) from rfl, dApp_list (by simp; omega)]
    have := loop (l ++ [t.name]) (by simp; omega)
    simpa [encStrs] using this
   ·simp [h6, loop l (by omega)]
theorem sp_term_binds (t : Tm) (ht : t.fit1) (i : Nat) (hi : t.kind = 14 → i ≤ t.pats.length) : (run cfg).p F_term_binds [t.enc, .int .i64 i] = some (encStrs (t.binds i)) := by
 have hp := big (Nat.le_of_lt ht.pats)
 refine call_term_binds _ _ ?_
 have p5 : ¬ (t.kind = 9 ∨ (t.kind = 11 ∧ i = 1) ∨ (t.kind = 12 ∧ i = 1)) → P_term_binds_5 (run cfg) (.int .i64 i) t.enc = some (encStrs (t.binds i)) := by
  intro h
  rw [eq_term_binds_5]
  unfold Tm.binds
  rw [if_neg h]
  by_cases h1 : t.kind = 12
  ·simp [h1, encStrs_two]
  ·by_cases h2 : t.kind = 14
   ·by_cases h3 : 0 < i
    ·have hlt : i - 1 < t.pats.length := by have := hi h2; omega
     have e1 : dBin .sub (.int .i64 (i : Int)) (.int .i64 1) = some (.int .i64 ((i - 1 : Nat) : Int)) := by
      rw [dBin_sub, wrap_id (by omega) (by have := hi h2; omega)]
      congr 3
      omega
     have nm := sp_term_patNames t.pats[i - 1] [] [] (by have := (ht.pat _ (List.getElem_mem hlt)).size; simpa using this)
     rw [← encStrs_nil] at nm
     simp [h1, h2, h3, e1, dIdx_map hlt, Pat.eta, Pat.ag, nm, List.getElem?_eq_getElem hlt, Pat.names]
    ·simp [h1, h2, h3, encStrs_nil]
   ·simp [h1, h2, encStrs_nil]
 have one : t.kind = 9 ∨ (t.kind = 11 ∧ i = 1) ∨ (t.kind = 12 ∧ i = 1) → t.binds i = [t.name] := fun h => by unfold Tm.binds; rw [if_pos h]
 rw [eq_term_binds]
 have i1 : decide ((i : Int) = 1) = decide (i = 1) := by rw [decide_eq_decide]; omega
 by_cases h9 : t.kind = 9
 ·simp [h9, one (.inl h9), encStrs_one]
 ·by_cases h11 : t.kind = 11
  ·by_cases h1 : i = 1
   ·have o1 := one (.inr (.inl ⟨h11, h1⟩))
    subst h1
    simp [h11, o1, encStrs_one]
   ·have := p5 (by rintro (h | h | h); exact h9 h; exact h1 h.2; exact h1 h.2)
    simp [h11, h1, i1, this]
  ·by_cases h12 : t.kind = 12
   ·by_cases h1 : i = 1
    ·have o1 := one (.inr (.inr ⟨h12, h1⟩))
     subst h1
     simp [h12, o1, encStrs_one]
    ·have := p5 (by rintro (h | h | h); exact h9 h; exact h1 h.2; exact h1 h.2)
     simp [h12, h1, i1, this]
   ·have := p5 (by rintro (h | h | h); exact h9 h; exact h11 h.1; exact h12 h.1)
    simp [h9, h11, h12, this]
def cn (L : List ByteArray) (s : ByteArray) : Int := ((L.countP fun x => decide (x = s)) : Nat)
theorem cn_pos (L : List ByteArray) (s : ByteArray) : 0 ≤ cn L s := by unfold cn; omega
theorem cn_le (L : List ByteArray) (s : ByteArray) : cn L s ≤ L.length := by
 unfold cn
 have := List.countP_le_length (p := fun x => decide (x = s)) (l := L)
 omega
theorem cn_zero (L : List ByteArray) (s : ByteArray) : decide (cn L s = 0) = !(L.any fun x => decide (x = s)) := by
 unfold cn
 rw [Bool.eq_iff_iff]
 simp only [decide_eq_true_eq, Bool.not_eq_true', List.any_eq_false, decide_eq_true_eq]
 rw [show ((L.countP fun x => decide (x = s) : Nat) : Int) = 0 ↔ (L.countP fun x => decide (x = s)) = 0 by omega, List.countP_eq_zero]
 simp
theorem cn_inc {es : List (DV × DV)} {L : List ByteArray} (h : CntS es (cn L)) (s : ByteArray) : CntS (mSet es (.str s) (.int .i64 (cn L s + 1))) (cn (L ++ [s])) := by
 intro v
 rw [h.set s (cn L s + 1) v]
 congr 1
 unfold cn
 by_cases e : s = v
 ·subst e; simp [List.countP_append]
 ·simp [List.countP_append, e]
theorem cn_dec {es : List (DV × DV)} {A D : List ByteArray} {s : ByteArray} (h : CntS es (cn (A ++ s :: D))) : CntS (mSet es (.str s) (.int .i64 (cn (A ++ s :: D) s - 1))) (cn (A ++ D)) := by
 intro v
 rw [h.set s (cn (A ++ s :: D) s - 1) v]
 congr 1
 unfold cn
 by_cases e : s = v
 ·subst e; simp [List.countP_append]; omega
 ·simp [List.countP_append, e]
def sgT (O B : List (DV × DV)) : List SObj := [.map true O, .map true B]
theorem sp_term_free (t : Tm) : t.fit → t.right = true → ∀ (O B : List (DV × DV)) (P : ByteArray → Prop) (L : List ByteArray), KeysAre O P → CntS B (cn L) → L.length + 2 * t.mass ≤ lim →
 ∃ O' B', (run cfg).r F_term_free [(t.enc, .val), (.undef, .map 1), (.undef, .map 0)] (sgT O B) = some ([], sgT O' B') ∧ KeysAre O' (fun s => P s ∨ s ∈ t.fr L) ∧ CntS B' (cn L) := by
 induction t using Tm.ind with
 | h t ih =>
   intro ft rt O B P L hO hB hL
   have hk := big (Nat.le_of_lt ft.one.kids)
   have hm0 := t.mass_pos
   have l14 : ∀ (l : List ByteArray) (i : DV) (k : Nat), L.length + l.length ≤ lim → ∀ (n j : Nat) (O B : List (DV × DV)), j + n = l.length → CntS B (cn (L ++ l.drop j)) →
    ∃ B', P_term_free_14h (run cfg) 1 0 (.list 20 (t.kids.map Tm.enc)) (.int .i64 t.kids.length) i (encStrs l) (.int .i64 l.length) (.int .i64 (j : Int)) t.enc (sgT O B) =
      (ob (dBin .add i (.int .i64 1)) fun d => P_term_free_4h (run cfg) 1 0 (.list 20 (t.kids.map Tm.enc)) (.int .i64 t.kids.length) d t.enc (sgT O B')) ∧ CntS B' (cn L) := by
    intro l i _ hl n
    have hlb := big hl
    induction n with
    | zero =>
      intro j O B hj hc
      have e : j = l.length := by omega
      subst e
      refine ⟨B, ?_, by rwa [List.drop_length, List.append_nil] at hc⟩
      rw [eq_term_free_14h]
      simp
    | succ n ihn =>
      intro j O B hj hc
      have h : j < l.length := by omega
      rw [List.drop_eq_getElem_cons h] at hc
      obtain ⟨B', h1, h2⟩ := ihn (j + 1) O (mSet B (.str l[j]) (.int .i64 (cn (L ++ l[j] :: l.drop (j + 1)) l[j] - 1))) (by omega) (cn_dec hc)
      refine ⟨B', ?_, h2⟩
      rw [eq_term_free_14h]
      have c1 := hc l[j]
      have c2 := cn_pos (L ++ l[j] :: l.drop (j + 1)) l[j]
      have c3 := cn_le (L ++ l[j] :: l.drop (j + 1)) l[j]
      have c4 : (L ++ l[j] :: l.drop (j + 1)).length ≤ 4294967296 := by simp; unfold lim at hl; omega
      have e1 : dBin .sub (.int .i64 (cn (L ++ l[j] :: l.drop (j + 1)) l[j])) (.int .i64 1) = some (.int .i64 (cn (L ++ l[j] :: l.drop (j + 1)) l[j] - 1)) := by
       rw [dBin_sub, wrap_id (by omega) (by omega)]
      simp only [dBin_lss, Int.ofNat_lt, h, decide_true, ob_some', oif_bool, if_true, dIdx_strs h, isLeaf_str, og_true', isKey_str, Bool.and_true, sgT, sgMap, List.getElem?_cons_succ, List.getElem?_cons_zero, BEq.rfl, c1, e1, dAdd1 (show j < 9223372036854775807 by omega), List.set_cons_succ, List.set_cons_zero]
      exact h1
   have l8 : ∀ (l : List ByteArray) (i : DV) (k : Tm) (O : List (DV × DV)) (Z : List (DV × DV) → Option (List DV × List SObj)), L.length + l.length ≤ lim → (∀ B, CntS B (cn (L ++ l)) → (ob ((run cfg).r F_term_free [(k.enc, .val), (.undef, .map 1), (.undef, .map 0)] (sgT O B)) fun q => P_term_free_14h (run cfg) 1 0 (.list 20 (t.kids.map Tm.enc)) (.int .i64 t.kids.length) i (encStrs l) (.int .i64 l.length) (.int .i64 0) t.enc q.2) = Z B) →
    ∀ (n j : Nat) (B : List (DV × DV)), j + n = l.length → CntS B (cn (L ++ l.take j)) →
    ∃ B', P_term_free_8h (run cfg) 1 0 (encStrs l) (.list 20 (t.kids.map Tm.enc)) (.int .i64 t.kids.length) i (encStrs l) (.int .i64 l.length) (.int .i64 (j : Int)) t.enc k.enc (sgT O B) = Z B' ∧ CntS B' (cn (L ++ l)) := by
    intro l i k O Z hl hZ n
    have hlb := big hl
    induction n with
    | zero =>
      intro j B hj hc
      have e : j = l.length := by omega
      subst e
      rw [List.take_length] at hc
      refine ⟨B, ?_, hc⟩
      rw [eq_term_free_8h, ← hZ B hc]
      simp [Tm.eta, Tm.ag]
    | succ n ihn =>
      intro j B hj hc
      have h : j < l.length := by omega
      have hc' := cn_inc hc l[j]
      rw [List.append_assoc, ← List.take_succ_eq_append_getElem h] at hc'
      obtain ⟨B', h1, h2⟩ := ihn (j + 1) (mSet B (.str l[j]) (.int .i64 (cn (L ++ l.take j) l[j] + 1))) (by omega) hc'
      refine ⟨B', ?_, h2⟩
      rw [eq_term_free_8h]
      have c1 := hc l[j]
      have c2 := cn_pos (L ++ l.take j) l[j]
      have c3 := cn_le (L ++ l.take j) l[j]
      have c4 : (L ++ l.take j).length ≤ 4294967296 := by simp; unfold lim at hl; omega
      simp only [dBin_lss, Int.ofNat_lt, h, decide_true, ob_some', oif_bool, if_true, dIdx_strs h, isLeaf_str, og_true', isKey_str, Bool.and_true, sgT, sgMap, List.getElem?_cons_succ, List.getElem?_cons_zero, BEq.rfl, c1, dAdd (show (-9223372036854775808 : Int) ≤ cn (L ++ l.take j) l[j] + 1 by omega) (show cn (L ++ l.take j) l[j] + 1 ≤ 9223372036854775807 by omega), dAdd1 (show j < 9223372036854775807 by omega), List.set_cons_succ, List.set_cons_zero]
      exact h1
   have l4 : ∀ (n j : Nat) (O B : List (DV × DV)) (P : ByteArray → Prop), j + n = t.kids.length → KeysAre O P → CntS B (cn L) →
    ∃ O' B', P_term_free_4h (run cfg) 1 0 (.list 20 (t.kids.map Tm.enc)) (.int .i64 t.kids.length) (.int .i64 (j : Int)) t.enc (sgT O B) = some ([], sgT O' B') ∧ KeysAre O' (fun s => P s ∨ s ∈ Tm.frL t.binds j (t.kids.drop j) L) ∧ CntS B' (cn L) := by
    intro n
    induction n with
    | zero =>
      intro j O B P hj hO hB
      have e : j = t.kids.length := by omega
      subst e
      refine ⟨O, B, ?_, ?_, hB⟩
      ·rw [eq_term_free_4h]; simp
      ·rw [List.drop_length, Tm.frL_nil]
       exact hO.congr fun s => by simp
    | succ n ihn =>
      intro j O B P hj hO hB
      have h : j < t.kids.length := by omega
      have hm := t.binds_len j
      have hmk := mem_sum (f := Tm.mass) (List.getElem_mem h)
      have hbi := sp_term_binds t ft.one j (fun h14 => by have := Tm.kids14 rt h14; omega)
      have hll : L.length + (t.binds j).length ≤ lim := by omega
      obtain ⟨O1, k1, k2, k3, k4⟩ : ∃ O1 B1, (P_term_free_8h (run cfg) 1 0 (encStrs (t.binds j)) (.list 20 (t.kids.map Tm.enc)) (.int .i64 t.kids.length) (.int .i64 (j : Int)) (encStrs (t.binds j)) (.int .i64 (t.binds j).length) (.int .i64 0) t.enc t.kids[j].enc (sgT O B) =
       P_term_free_14h (run cfg) 1 0 (.list 20 (t.kids.map Tm.enc)) (.int .i64 t.kids.length) (.int .i64 (j : Int)) (encStrs (t.binds j)) (.int .i64 (t.binds j).length) (.int .i64 0) t.enc (sgT O1 B1)) ∧ KeysAre O1 (fun s => P s ∨ s ∈ t.kids[j].fr (L ++ t.binds j)) ∧ CntS B1 (cn (L ++ t.binds j)) := by
       obtain ⟨B', e1, e2⟩ := l8 (t.binds j) (.int .i64 (j : Int)) t.kids[j] O _ hll (fun B _ => rfl) (t.binds j).length 0 B (by omega) (by rw [List.take_zero, List.append_nil]; exact hB)
       obtain ⟨O1, B1, f1, f2, f3⟩ := ih _ (List.getElem_mem h) (ft.kid (List.getElem_mem h)) (Tm.right_kid rt (List.getElem_mem h)) O B' P (L ++ t.binds j) hO e2 (by simp; omega)
       refine ⟨O1, B1, ?_, f2, f3⟩
       simp only [Int.natCast_zero, Int.ofNat_zero, Int.cast_ofNat_Int] at e1
       rw [e1, f1]
       rfl
      obtain ⟨B2, g1, g2⟩ := l14 (t.binds j) (.int .i64 (j : Int)) j hll (t.binds j).length 0 O1 k1 (by omega) (by rw [List.drop_zero]; exact k4)
      obtain ⟨O', B', i1, i2, i3⟩ := ihn (j + 1) O1 B2 _ (by omega) k3 g2
      refine ⟨O', B', ?_, ?_, i3⟩
      ·rw [eq_term_free_4h]
       have ee : (DV.agg [proj 0 t.enc, proj 1 t.enc, proj 2 t.enc, proj 3 t.enc, proj 4 t.enc, proj 5 t.enc, proj 6 t.enc, proj 7 t.enc, proj 8 t.enc, proj 9 t.enc, proj 10 t.enc, proj 11 t.enc, proj 12 t.enc, proj 13 t.enc, proj 14 t.enc, proj 15 t.enc, proj 16 t.enc, proj 17 t.enc, proj 18 t.enc, proj 19 t.enc]) = t.enc := by simp [Tm.eta, Tm.ag]
       simp only [dBin_lss, Int.ofNat_lt, h, decide_true, ob_some', oif_bool, if_true, dIdx_map h, ee, hbi, dLen_strs, k2]
       simp only [Int.natCast_zero, Int.ofNat_zero, Int.cast_ofNat_Int] at g1
       rw [g1, dAdd1 (by omega)]
       exact i1
      ·refine i2.congr fun s => ?_
       rw [List.drop_eq_getElem_cons h, Tm.frL_cons, List.mem_append, or_assoc]
   have l3 : ∀ (O B : List (DV × DV)) (P : ByteArray → Prop), KeysAre O P → CntS B (cn L) → ∃ O' B', P_term_free_3 (run cfg) 1 0 t.enc (sgT O B) = some ([], sgT O' B') ∧ KeysAre O' (fun s => P s ∨ s ∈ Tm.frL t.binds 0 t.kids L) ∧ CntS B' (cn L) := by
    intro O B P hO hB
    obtain ⟨O', B', h1, h2, h3⟩ := l4 t.kids.length 0 O B P (by omega) hO hB
    refine ⟨O', B', ?_, by simpa using h2, h3⟩
    rw [eq_term_free_3]
    simpa using h1
   by_cases h1 : t.kind = 1 ∧ (L.any fun x => decide (x = t.name)) = false
   ·obtain ⟨cnt, hcnt⟩ := hO.get t.name
    obtain ⟨O', B', e1, e2, e3⟩ := l3 (mSet O (.str t.name) (.int .i64 (IntKind.i64.wrap (cnt + 1)))) B _ (hO.set t.name _) hB
    refine ⟨O', B', call_term_free _ _ _ _ ?_, ?_, e3⟩
    ·have cb := hB t.name
     have cz := cn_zero L t.name
     rw [h1.2, Bool.not_false] at cz
     rw [eq_term_free]
     simp only [isAggN_Tm, og_true', Tm.proj0, Tm.proj3, dBin_eql, ob_some', ogd_bool, h1.1, decide_true, if_true, isKey_str, Bool.and_true, sgT, sgMap, List.getElem?_cons_succ, List.getElem?_cons_zero, BEq.rfl, cb, cz, oif_bool, hcnt, dBin_add, List.set_cons_zero]
     exact e1
    ·refine e2.congr fun s => ?_
     rw [Tm.fr_eq, if_pos h1]
     simp only [List.mem_append, List.mem_singleton]
     constructor
     ·rintro ((h | h) | h)
      ·exact .inr (.inl h)
      ·exact .inl h
      ·exact .inr (.inr h)
     ·rintro (h | h | h)
      ·exact .inl (.inr h)
      ·exact .inl (.inl h)
      ·exact .inr h
   ·obtain ⟨O', B', e1, e2, e3⟩ := l3 O B P hO hB
    refine ⟨O', B', call_term_free _ _ _ _ ?_, ?_, e3⟩
    ·have cb := hB t.name
     have cz := cn_zero L t.name
     rw [eq_term_free]
     by_cases hk1 : t.kind = 1
     ·have : (L.any fun x => decide (x = t.name)) = true := by
       cases hh : L.any fun x => decide (x = t.name)
       ·exact absurd ⟨hk1, hh⟩ h1
       ·rfl
      rw [this, Bool.not_true] at cz
      simp only [isAggN_Tm, og_true', Tm.proj0, Tm.proj3, dBin_eql, ob_some', ogd_bool, hk1, decide_true, if_true, isKey_str, Bool.and_true, sgT, sgMap, List.getElem?_cons_succ, List.getElem?_cons_zero, BEq.rfl, cb, cz, oif_bool, Bool.false_eq_true, if_false]
      exact e1
     ·simp only [isAggN_Tm, og_true', Tm.proj0, dBin_eql, ob_some', ogd_bool, hk1, decide_false, Bool.false_eq_true, if_false]
      exact e1
    ·refine e2.congr fun s => ?_
     rw [Tm.fr_eq, if_neg h1, List.nil_append]
theorem sp_term_Free (t : Tm) (ft : t.fit) (hm : 2 * t.mass ≤ lim) : (run cfg).p F_term_Free [t.enc] = some (encStrs (if t.right = true then t.free else [])) := by
 refine call_term_Free _ ?_
 rw [eq_term_Free]
 cases rt : t.right
 ·simp [Tm.eta, Tm.ag, sp_term_right t ft, rt, encStrs_nil]
 ·obtain ⟨O', B', h1, h2, -⟩ := sp_term_free t ft rt [] [] _ [] KeysAre.nil (fun v => rfl) (by simpa using hm)
  have h3 : KeysAre O' fun s => s ∈ t.free := h2.congr fun s => by rw [Tm.mem_free]; simp
  obtain ⟨h4, h5⟩ := sortKeys_rises h3 t.free_rises
  have hlen : O'.length ≤ lim := by
   have := t.free_len
   have := t.size_mass
   omega
  have h1' : (run cfg).r F_term_free [(t.enc, .val), (.undef, .map 1), (.undef, .map 0)] [.map true [], .map true []] = some ([], sgT O' B') := h1
  simp [Tm.eta, Tm.ag, sp_term_right t ft, rt, h1', sgT, sgMap, hlen, h4]
theorem sp_slices_IndexS (l : List ByteArray) (hl : l.length ≤ lim) (n : ByteArray) : ∃ k : Int, (run cfg).p F_slices_Index__string_string [encStrs l, .str n] = some (.int .i64 k) ∧ (0 ≤ k ↔ (l.any fun x => decide (x = n)) = true) := by
 have hb := big hl
 have loop : ∀ (m i : Nat), i + m = l.length → ∃ k : Int, P_slices_Index__string_string_2h (run cfg) (encStrs l) (.str n) (.int .i64 l.length) (.int .i64 i) = some (.int .i64 k) ∧ (0 ≤ k ↔ ((l.drop i).any fun x => decide (x = n)) = true) := by
  intro m
  induction m with
  | zero =>
    intro i hi
    refine ⟨-1, ?_, ?_⟩
    ·have : ¬ i < l.length := by omega
     rw [eq_slices_Index__string_string_2h]
     simp [this]
    ·rw [List.drop_of_length_le (by omega)]; simp
  | succ m ih =>
    intro i hi
    have h : i < l.length := by omega
    rw [eq_slices_Index__string_string_2h, List.drop_eq_getElem_cons h]
    by_cases e : n = l[i]
    ·refine ⟨i, by simp [h, dIdx_strs h, e], ?_⟩
     simp [← e]
    ·obtain ⟨k, h1, h2⟩ := ih (i + 1) (by omega)
     push_cast at h1
     refine ⟨k, by simp [h, dIdx_strs h, e, dAdd1 (show i < 9223372036854775807 by omega), h1], ?_⟩
     rw [h2, List.any_cons]
     have : decide (l[i] = n) = false := by simpa using fun h' => e h'.symm
     rw [this, Bool.false_or]
 obtain ⟨k, h1, h2⟩ := loop l.length 0 (by omega)
 refine ⟨k, call_slices_Index__string_string _ _ ?_, by simpa using h2⟩
 rw [eq_slices_Index__string_string]
 simpa using h1
theorem sp_slices_ContainsS (l : List ByteArray) (hl : l.length ≤ lim) (n : ByteArray) : (run cfg).p F_slices_Contains__string_string [encStrs l, .str n] = some (.bool (l.any fun x => decide (x = n))) := by
 refine call_slices_Contains__string_string _ _ ?_
 rw [eq_slices_Contains__string_string]
 obtain ⟨k, h1, h2⟩ := sp_slices_IndexS l hl n
 simp only [h1, ob_some', dBin_geq]
 congr 2
 rw [Bool.eq_iff_iff, ← h2]
 simp
theorem Tm.withKids_enc (t : Tm) (ks : List Tm) : DV.agg [.int .i64 t.kind, .int .i64 t.lo, .int .i64 t.hi, .str t.name, .str t.arg, .int .i64 t.n, .str t.s, .int .i64 t.op, .int .i64 t.label, .bool t.neg, encInts t.vars, .int .i64 t.a.kind, .int .i64 t.a.n, .list 3 (t.a.kids.map Ty.enc), .int .i64 t.b.kind, .int .i64 t.b.n, .list 3 (t.b.kids.map Ty.enc), .list 3 (t.args.map Ty.enc), .list 7 (t.pats.map Pat.enc), .list 20 (ks.map Tm.enc)] = (t.withKids ks).enc := by
 rw [Tm.enc_eq]; rfl
theorem sgArr_app (S J : List SObj) (z : Nat) (l : List DV) : sgArr (S ++ .arr z l :: J) S.length = some (z, l) := by
 unfold sgArr
 rw [List.getElem?_append_right (Nat.le_refl _), Nat.sub_self]
 rfl
theorem sgBox_app {S : List SObj} {c : List (DV × Meta)} (h : sgBox S 0 = some c) (J : List SObj) : sgBox (S ++ J) 0 = some c := by
 have hl := sgBox_lt h
 unfold sgBox at h ⊢
 rw [List.getElem?_append_left hl]
 exact h
theorem set_app (S J : List SObj) (x y : SObj) : (S ++ x :: J).set S.length y = S ++ y :: J := by
 rw [List.set_append_right _ _ (Nat.le_refl _), Nat.sub_self]
 rfl
noncomputable def inLoop (t : Tm) (m n : Nat) (j : Int) (sg : List SObj) : Option (List DV × List SObj) :=
 P_term_putting_in_19h (run cfg) 0 m n m n (.int .i64 n) (.int .i64 j) t.enc sg
theorem in_end (t : Tm) (S J : List SObj) (cur : List Tm) (hc : cur.length = t.kids.length) :
 inLoop t S.length t.kids.length t.kids.length (S ++ .arr 20 (cur.map Tm.enc) :: J) = some ([(t.withKids cur).enc, .bool true], S ++ .arr 1 [] :: J) := by
 unfold inLoop
 rw [eq_term_putting_in_19h]
 have e1 : dBin .lss (.int .i64 (t.kids.length : Int)) (.int .i64 (t.kids.length : Int)) = some (.bool false) := by simp
 have e2 : sealCell (S ++ .arr 20 (cur.map Tm.enc) :: J) (.undef, .arr S.length 20 0 t.kids.length) = some (.list 20 (cur.map Tm.enc)) := by
  simp only [sealCell, sgArr_app, ob_some', BEq.rfl, og_true', Nat.zero_add, List.length_map, hc, Nat.le_refl, if_true, List.drop_zero]
  rw [List.take_of_length_le (by simp [hc])]
 simp only [e1, ob_some', oif_bool, Bool.false_eq_true, if_false, sealCells, e2, seqO, Tm.pj, set_app, Tm.withKids_enc]
 simp only [sealCell, ob_some', Tm.withKids_enc]
def putOut (o : Option Tm) : DV :=
 match o with
 | some u => .tup [u.enc, .int .i64 0]
 | none => .tup [zeroTm.enc, .int .i64 8]
end Go.Su

/-
 What the program's substitution gives, for a name that has variables.
-/
namespace Go.Su
set_option linter.unusedVariables false
set_option linter.unusedSimpArgs false
def putBoxV (s : ByteArray) (xs : List Int) (v : Tm) : List (DV × Meta) :=
 [(.str s, .val), (encInts xs, .val), (.int .i64 v.kind, .val), (.int .i64 v.lo, .val), (.int .i64 v.hi, .val), (.str v.name, .val), (.str v.arg, .val), (.int .i64 v.n, .val), (.str v.s, .val), (.int .i64 v.op, .val), (.int .i64 v.label, .val), (.bool v.neg, .val), (encInts v.vars, .val),
   (.int .i64 v.a.kind, .val), (.int .i64 v.a.n, .val), (.list 3 (v.a.kids.map Ty.enc), .val), (.int .i64 v.b.kind, .val), (.int .i64 v.b.n, .val), (.list 3 (v.b.kids.map Ty.enc), .val), (.list 3 (v.args.map Ty.enc), .val), (.list 7 (v.pats.map Pat.enc), .val), (.list 20 (v.kids.map Tm.enc), .val)]
theorem putBoxV_seg (s : ByteArray) (xs : List Int) (v : Tm) : ∃ e, segDat 2 20 (putBoxV s xs v) = some e ∧ DV.agg e = v.enc := ⟨_, rfl, by rw [Tm.enc_eq]⟩
noncomputable def inBind (xs : List Int) (t : Tm) (j : Int) (a : Bds) (S : List SObj) : Option (List DV × List SObj) :=
 P_term_putting_in_10h (run cfg) 0 (encBnds a) (encInts xs) (.int .i64 xs.length) (.int .i64 j) t.enc S
theorem inV_loop (s : ByteArray) (xs : List Int) (v t : Tm) (S : List SObj) (hS : sgBox S 0 = some (putBoxV s xs v)) (hxl : xs.length ≤ lim) (h3 : t.args.length = xs.length) :
 inBind xs t 0 [] S = inBind xs t xs.length (xs.zip t.args) S := by
 have hb := big hxl
 have loop : ∀ (n j : Nat), j + n = xs.length → inBind xs t j ((xs.zip t.args).take j) S = inBind xs t xs.length (xs.zip t.args) S := by
  intro n
  induction n with
  | zero =>
    intro j hj
    have e : j = xs.length := by omega
    subst e
    rw [List.take_of_length_le (by rw [List.length_zip]; omega)]
  | succ n ih =>
    intro j hj
    have h : j < xs.length := by omega
    have h' : j < t.args.length := by omega
    have hz : j < (xs.zip t.args).length := by rw [List.length_zip]; omega
    rw [← ih (j + 1) (by omega), List.take_succ_eq_append_getElem hz, List.getElem_zip]
    have e1 := dIdx_ints (k := .i64) h
    have e2 : dIdx 3 (.list 3 (t.args.map Ty.enc)) (.int .i64 (j : Int)) = some t.args[j].enc := dIdx_map h'
    have e3 := dApp_bnd ((xs.zip t.args).take j) (xs[j], t.args[j]) (by rw [List.length_take]; omega)
    have e5 : encBnd (xs[j], t.args[j]) = .agg [.int .i64 xs[j], proj 0 t.args[j].enc, proj 1 t.args[j].enc, proj 2 t.args[j].enc] := by rw [Ty.enc_eq]; rfl
    rw [e5] at e3
    have e4 : dBin .add (.int .i64 (j : Int)) (.int .i64 1) = some (.int .i64 ((j + 1 : Nat) : Int)) := dAdd1 (show j < 9223372036854775807 by omega)
    have il : isLeaf (.int .i64 xs[j]) = true := rfl
    have ic : isCell (.int .i64 xs[j]) = true := rfl
    unfold inBind
    rw [eq_term_putting_in_10h]
    simp only [dBin_lss, Int.ofNat_lt, h, decide_true, ob_some', oif_bool, if_true, e1, il, ic, og_true', Tm.proj17 t, e2, e3, e4]
 have := loop xs.length 0 (by omega)
 exact this
theorem in_endV (s : ByteArray) (xs : List Int) (v t : Tm) (S : List SObj) (hS : sgBox S 0 = some (putBoxV s xs v)) (e : List DV) (e1 : segDat 2 20 (putBoxV s xs v) = some e) (e2 : DV.agg e = v.enc)
 (hT : (run cfg).p F_term_types [v.enc, encBnds (xs.zip t.args)] = some (v.typs (xs.zip t.args)).enc) :
 inBind xs t xs.length (xs.zip t.args) S = some ([(v.typs (xs.zip t.args)).enc, .bool true], S) := by
 unfold inBind
 rw [eq_term_putting_in_10h]
 simp only [dBin_lss, Int.lt_irrefl, decide_false, ob_some', oif_bool, Bool.false_eq_true, if_false, hS, e1, e2, hT, isAggN_Tm, og_true', tmx3]
theorem sp_term_inV (s : ByteArray) (xs : List Int) (v : Tm) (hx : rightVars xs = true) (hxl : xs.length ≤ lim) (fv : v.fit) (rv : v.right = true) (t : Tm) : t.fit → t.right = true → 2 * t.mass ≤ lim → ∀ S : List SObj, sgBox S 0 = some (putBoxV s xs v) →
 ∃ (J : List SObj) (u : Tm) (b : Bool), (run cfg).r F_term_putting_in [(.undef, .ptr 0 0), (t.enc, .val)] S = some ([u.enc, .bool b], S ++ J) ∧ t.putV s xs v = (if b = true then some u else none) := by
 induction t using Tm.ind with
 | h t ih =>
   intro ft rt hm S hS
   have hk := big (Nat.le_of_lt ft.one.kids)
   have loop : ∀ (n j : Nat) (cur : List Tm) (J : List SObj), j + n = t.kids.length → cur.length = t.kids.length → (∀ i : Nat, j ≤ i → cur[i]? = t.kids[i]?) →
    ∃ (J' : List SObj) (u : Tm) (b : Bool), inLoop t S.length t.kids.length j (S ++ .arr 20 (cur.map Tm.enc) :: J) = some ([u.enc, .bool b], S ++ J') ∧
      (Tm.putVL t.binds j (t.kids.drop j) s xs v).map (fun ks => t.withKids (cur.take j ++ ks)) = (if b = true then some u else none) := by
    intro n
    induction n with
    | zero =>
      intro j cur J hj hc _
      have e : j = t.kids.length := by omega
      subst e
      refine ⟨_, _, _, in_end t S J cur hc, ?_⟩
      rw [List.drop_length, Tm.putVL_nil]
      simp [List.take_of_length_le (Nat.le_of_eq hc)]
    | succ n ihn =>
      intro j cur J hj hc hcur
      have h : j < t.kids.length := by omega
      have h' : j < cur.length := by omega
      have hcj : cur[j] = t.kids[j] := by
       have := hcur j (Nat.le_refl _)
       rw [List.getElem?_eq_getElem h, List.getElem?_eq_getElem h'] at this
       simpa using this
      have hmk := Tm.mass_kid (List.getElem_mem h)
      have hbl := t.binds_len j
      have hbi := sp_term_binds t ft.one j (fun h14 => by have := Tm.kids14 rt h14; omega)
      have hct := sp_slices_ContainsS (t.binds j) (by omega) s
      have ee : (DV.agg [proj 0 t.enc, proj 1 t.enc, proj 2 t.enc, proj 3 t.enc, proj 4 t.enc, proj 5 t.enc, proj 6 t.enc, proj 7 t.enc, proj 8 t.enc, proj 9 t.enc, proj 10 t.enc, proj 11 t.enc, proj 12 t.enc, proj 13 t.enc, proj 14 t.enc, proj 15 t.enc, proj 16 t.enc, proj 17 t.enc, proj 18 t.enc, proj 19 t.enc]) = t.enc := by simp [Tm.eta, Tm.ag]
      have ek : ∀ k : Tm, (DV.agg [proj 0 k.enc, proj 1 k.enc, proj 2 k.enc, proj 3 k.enc, proj 4 k.enc, proj 5 k.enc, proj 6 k.enc, proj 7 k.enc, proj 8 k.enc, proj 9 k.enc, proj 10 k.enc, proj 11 k.enc, proj 12 k.enc, proj 13 k.enc, proj 14 k.enc, proj 15 k.enc, proj 16 k.enc, proj 17 k.enc, proj 18 k.enc, proj 19 k.enc]) = k.enc := fun k => by simp [Tm.eta, Tm.ag]
      have a1 : arrIdx 0 t.kids.length (.int .i64 (j : Int)) = some j := by
       show (if (0 : Int) ≤ (j : Int) ∧ (j : Int) < (t.kids.length : Int) then some (0 + (j : Int).toNat) else none) = some j
       rw [if_pos ⟨by omega, by omega⟩]
       simp
      have g1 : (cur.map Tm.enc)[j]? = some t.kids[j].enc := by rw [List.getElem?_map, List.getElem?_eq_getElem h', hcj]; rfl
      have cd : cellDat (putBoxV s xs v) 0 = some (.str s) := rfl
      rw [List.drop_eq_getElem_cons h, Tm.putVL_cons]
      by_cases hb : ((t.binds j).any fun x => decide (x = s)) = true
      ·obtain ⟨J', u, b, k1, k2⟩ := ihn (j + 1) cur J (by omega) hc (fun i hi => hcur i (by omega))
       refine ⟨J', u, b, ?_, ?_⟩
       ·rw [← k1]
        unfold inLoop
        rw [eq_term_putting_in_19h]
        simp only [dBin_lss, Int.ofNat_lt, h, decide_true, ob_some', oif_bool, if_true, a1, sgArr_app, g1, BEq.rfl, og_true', ee, hbi, sgBox_app hS, cd, hct, hb]
        rw [dAdd1 (by omega)]
        rfl
       ·rw [← k2, if_pos hb]
        simp only [Option.bind_some, Option.map_map]
        congr 1
        funext ks
        simp only [Function.comp_apply]
        rw [List.take_succ_eq_append_getElem h', hcj, List.append_assoc]
        rfl
      ·have hb' : ((t.binds j).any fun x => decide (x = s)) = false := Bool.eq_false_iff.2 hb
       obtain ⟨J1, u1, b1, f1, f2⟩ := ih _ (List.getElem_mem h) (ft.kid (List.getElem_mem h)) (Tm.right_kid rt (List.getElem_mem h)) (by omega) (S ++ .arr 20 (cur.map Tm.enc) :: J) (sgBox_app hS _)
       rw [if_neg hb, f2]
       cases b1
       ·refine ⟨.arr 20 (cur.map Tm.enc) :: J ++ J1, t, false, ?_, by simp⟩
        unfold inLoop
        rw [eq_term_putting_in_19h]
        simp only [dBin_lss, Int.ofNat_lt, h, decide_true, ob_some', oif_bool, if_true, a1, sgArr_app, g1, BEq.rfl, og_true', ee, ek, hbi, sgBox_app hS, cd, hct, hb', Bool.false_eq_true, if_false, f1, dExt, List.getElem?_cons_succ, List.getElem?_cons_zero, isAggN_Tm, dUn_not, Bool.not_false]
        rw [List.append_assoc]
       ·obtain ⟨J', u, b, k1, k2⟩ := ihn (j + 1) (cur.set j u1) (J ++ J1) (by omega) (by simpa using hc) (fun i hi => by rw [List.getElem?_set_ne (by omega)]; exact hcur i (by omega))
        refine ⟨J', u, b, ?_, ?_⟩
        ·rw [← k1]
         unfold inLoop
         rw [eq_term_putting_in_19h]
         simp only [dBin_lss, Int.ofNat_lt, h, decide_true, ob_some', oif_bool, if_true, a1, sgArr_app, g1, BEq.rfl, og_true', ee, ek, hbi, sgBox_app hS, cd, hct, hb', Bool.false_eq_true, if_false, f1, dExt, List.getElem?_cons_succ, List.getElem?_cons_zero, isAggN_Tm, dUn_not, Bool.not_true, List.append_assoc, List.cons_append, set_app]
         rw [dAdd1 (by omega)]
         simp only [ob_some', List.map_set]
         try rfl
        ·rw [← k2]
         simp only [if_true, Option.bind_some, Option.map_map]
         congr 1
         funext ks
         simp only [Function.comp_apply]
         rw [List.take_succ_eq_append_getElem (by simpa using h'), List.append_assoc, List.take_set_of_le (Nat.le_refl _)]
         simp
   have ee : (DV.agg [proj 0 t.enc, proj 1 t.enc, proj 2 t.enc, proj 3 t.enc, proj 4 t.enc, proj 5 t.enc, proj 6 t.enc, proj 7 t.enc, proj 8 t.enc, proj 9 t.enc, proj 10 t.enc, proj 11 t.enc, proj 12 t.enc, proj 13 t.enc, proj 14 t.enc, proj 15 t.enc, proj 16 t.enc, proj 17 t.enc, proj 18 t.enc, proj 19 t.enc]) = t.enc := by simp [Tm.eta, Tm.ag]
   by_cases h1 : t.kind = 1
   ·by_cases h2 : t.name = s
    ·have cd0 : cellDat (putBoxV s xs v) 0 = some (.str s) := rfl
     have cd1 : cellDat (putBoxV s xs v) 1 = some (encInts xs) := rfl
     obtain ⟨e, e1, e2⟩ := putBoxV_seg s xs v
     obtain ⟨-, -, rargs⟩ := Tm.types_right rt
     by_cases h3 : t.args.length = xs.length
     ·by_cases h0 : xs = []
      ·subst h0
       have h3' : t.args.length = 0 := h3
       refine ⟨[], v, true, call_term_putting_in _ _ _ ?_, by rw [Tm.putV_eq, if_pos h1, if_pos h2, if_pos h3, List.zip_nil_left, Tm.typs_nil]; rfl⟩
       rw [eq_term_putting_in]
       simp only [ee]
       simp [h1, h2, h3', hS, cd0, cd1, e1, e2, Tm.eta, Tm.ag]
      ·refine ⟨[], v.typs (xs.zip t.args), true, call_term_putting_in _ _ _ ?_, by rw [Tm.putV_eq, if_pos h1, if_pos h2, if_pos h3]; rfl⟩
       have h0' : ¬ (xs.length : Int) = 0 := by
        have := List.length_pos_iff.2 h0
        omega
       have hT := sp_term_types v fv rv (xs.zip t.args) (by rw [List.length_zip]; omega) (rightBinds_zip hx rargs)
       have lp := inV_loop s xs v t S hS hxl h3
       rw [in_endV s xs v t S hS e e1 e2 hT] at lp
       rw [eq_term_putting_in]
       have n1 : dBin .neq (.str t.name) (.str s) = some (.bool false) := by rw [h2]; simp
       have n2 : dBin .neq (.int .i64 (t.args.length : Int)) (.int .i64 (xs.length : Int)) = some (.bool false) := by rw [h3]; simp
       simp only [isAggN_Tm, og_true', Tm.proj0 t, Tm.proj3 t, Tm.proj17 t, dBin_eql, h1, decide_true, ob_some', oif_bool, if_true, hS, cd0, cd1, n1, n2, Bool.false_eq_true, if_false, dLen_list, List.length_map, dLen_ints, h0', decide_false]
       rw [List.append_nil]
       exact lp
     ·refine ⟨[], t, false, call_term_putting_in _ _ _ ?_, by rw [Tm.putV_eq, if_pos h1, if_pos h2, if_neg h3]; rfl⟩
      have n1 : dBin .neq (.str t.name) (.str s) = some (.bool false) := by rw [h2]; simp
      have n2 : dBin .neq (.int .i64 (t.args.length : Int)) (.int .i64 (xs.length : Int)) = some (.bool true) := by
       have : ¬ (t.args.length : Int) = (xs.length : Int) := by omega
       simp [this]
      rw [eq_term_putting_in]
      simp only [ee]
      simp only [isAggN_Tm, og_true', Tm.proj0 t, Tm.proj3 t, Tm.proj17 t, dBin_eql, h1, decide_true, ob_some', oif_bool, if_true, hS, cd0, cd1, n1, n2, Bool.false_eq_true, if_false, dLen_list, List.length_map, dLen_ints, List.append_nil]
    ·refine ⟨[], t, true, call_term_putting_in _ _ _ ?_, by rw [Tm.putV_eq, if_pos h1, if_neg h2]; rfl⟩
     have cd0 : cellDat (putBoxV s xs v) 0 = some (.str s) := rfl
     rw [eq_term_putting_in]
     simp only [ee]
     simp [h1, h2, hS, cd0, Tm.eta, Tm.ag]
   ·by_cases h2 : t.kids.length = 0
    ·have hnil : t.kids = [] := List.eq_nil_of_length_eq_zero h2
     refine ⟨[], t, true, call_term_putting_in _ _ _ ?_, ?_⟩
     ·rw [eq_term_putting_in]
      simp [h1, h2, Tm.eta, Tm.ag]
     ·rw [Tm.putV_eq, if_neg h1, hnil, Tm.putVL_nil]
      simp only [Option.map_some, if_true]
      rw [← hnil, Tm.withKids_self]
    ·obtain ⟨J, u, b, k1, k2⟩ := loop t.kids.length 0 t.kids [] (by omega) rfl (fun i _ => rfl)
     refine ⟨J, u, b, call_term_putting_in _ _ _ ?_, ?_⟩
     ·rw [eq_term_putting_in]
      have h2' : ¬ (t.kids.length : Int) = 0 := by omega
      have hle : t.kids.length ≤ lim := Nat.le_of_lt ft.one.kids
      simp only [isAggN_Tm, og_true', Tm.proj0, dBin_eql, ob_some', h1, decide_false, oif_bool, Bool.false_eq_true, if_false, Tm.proj19, dLen_list, List.length_map, h2', dList_list, BEq.rfl, Bool.true_and, hle, decide_true]
      exact k1
     ·rw [Tm.putV_eq, if_neg h1, ← k2]
      simp
theorem sp_term_ForV (t v : Tm) (s : ByteArray) (xs : List Int) (hx : rightVars xs = true) (hxl : xs.length ≤ lim) (fv : v.fit) (rv : v.right = true) (ft : t.fit) (rt : t.right = true) (hm : 2 * t.mass ≤ lim) : (run cfg).p F_term_For [t.enc, .str s, encInts xs, v.enc] = some (putOut (t.putV s xs v)) := by
 obtain ⟨J, u, b, h1, h2⟩ := sp_term_inV s xs v hx hxl fv rv t ft rt hm [.box (putBoxV s xs v)] rfl
 refine call_term_For _ _ _ _ ?_
 rw [eq_term_For]
 have h1' : (run cfg).r F_term_putting_in [(.undef, .ptr 0 0), (t.enc, .val)] [SObj.box [(.str s, .val), (encInts xs, .val), (proj 0 v.enc, .val), (proj 1 v.enc, .val), (proj 2 v.enc, .val), (proj 3 v.enc, .val), (proj 4 v.enc, .val), (proj 5 v.enc, .val), (proj 6 v.enc, .val), (proj 7 v.enc, .val), (proj 8 v.enc, .val), (proj 9 v.enc, .val), (proj 10 v.enc, .val), (proj 11 v.enc, .val), (proj 12 v.enc, .val), (proj 13 v.enc, .val), (proj 14 v.enc, .val), (proj 15 v.enc, .val), (proj 16 v.enc, .val), (proj 17 v.enc, .val), (proj 18 v.enc, .val), (proj 19 v.enc, .val)]] = some ([u.enc, .bool b], [.box (putBoxV s xs v)] ++ J) := by
  rw [← h1]
  simp [putBoxV]
 have ic : isCell (encInts xs) = true := rfl
 simp only [tmx3, isAggN_Tm, og_true', isCell_str, ic, h1', ob_some', dExt, List.getElem?_cons_succ, List.getElem?_cons_zero, dUn_not, oif_bool, h2, zeroTm_agg]
 cases b <;> simp [putOut]
theorem sp_term_PutV (t v : Tm) (s : ByteArray) (xs : List Int) (hxl : xs.length ≤ lim) (ft : t.fit) (fv : v.fit) (hm : 2 * t.mass ≤ lim) (hv : 2 * v.mass ≤ lim) (hs : s.size ≤ lim) :
 (run cfg).p F_term_Put [t.enc, .str s, encInts xs, v.enc] = some (if t.right = true ∧ v.right = true ∧ nameB s = true ∧ v.free = [] ∧ rightVars xs = true then putOut (t.putV s xs v) else .tup [zeroTm.enc, .int .i64 1]) := by
 have hb := big hxl
 refine call_term_Put _ _ _ _ ?_
 rw [eq_term_Put]
 simp only [tmx3, isAggN_Tm, og_true', sp_term_right t ft, sp_term_right v fv, ob_some', dUn_not, ogd_bool, zeroTm_agg, sp_word_Name s hs]
 cases h1 : t.right
 ·simp
 cases h2 : v.right
 ·simp
 cases h3 : nameB s
 ·simp
 have hF := sp_term_Free v fv hv
 rw [if_pos h2] at hF
 by_cases h4 : v.free = []
 ·have loop : ∀ (n j : Nat), j + n = xs.length → P_term_Put_4h (run cfg) (.str s) (encInts xs) (encInts xs) (.int .i64 xs.length) (.int .i64 (j : Int)) t.enc v.enc =
   some (if rightVars (xs.drop j) = true then (if rightVars xs = true then putOut (t.putV s xs v) else .undef) else .tup [zeroTm.enc, .int .i64 1]) ∨ (rightVars (xs.drop j) = true ∧ rightVars xs = false) := by
   intro n
   induction n with
   | zero =>
     intro j hj
     have e : j = xs.length := by omega
     subst e
     rw [List.drop_length]
     have r0 : rightVars [] = true := rfl
     cases hr : rightVars xs
     ·exact .inr ⟨r0, rfl⟩
     ·refine .inl ?_
      have hz := sp_term_ForV t v s xs hr hxl fv h2 ft h1 hm
      rw [eq_term_Put_4h]
      simp only [dBin_lss, Int.lt_irrefl, decide_false, ob_some', oif_bool, Bool.false_eq_true, if_false, tmx3, hz, r0, if_true]
      cases t.putV s xs v <;> simp only [putOut, dExt, List.getElem?_cons_succ, List.getElem?_cons_zero, ob_some', isAggN_Tm, og_true', tmx3]
   | succ n ih =>
     intro j hj
     have h : j < xs.length := by omega
     have e1 := dIdx_ints (k := .i64) h
     have il : isLeaf (.int .i64 xs[j]) = true := rfl
     have e4 : dBin .add (.int .i64 (j : Int)) (.int .i64 1) = some (.int .i64 ((j + 1 : Nat) : Int)) := dAdd1 (show j < 9223372036854775807 by omega)
     have hd : rightVars (xs.drop j) = ((decide (0 ≤ xs[j]) && decide (xs[j] ≤ 1048576)) && rightVars (xs.drop (j + 1))) := by
      rw [List.drop_eq_getElem_cons h]
      rfl
     rw [hd, eq_term_Put_4h]
     simp only [dBin_lss, Int.ofNat_lt, h, decide_true, ob_some', oif_bool, if_true, e1, il, og_true', dBin_gtr, ogd_bool, zeroTm_agg, decide_eq_true_eq]
     by_cases a1 : xs[j] < 0
     ·have a1' : ¬ (0 ≤ xs[j]) := by omega
      refine .inl ?_
      simp [a1, a1']
     ·have a1' : 0 ≤ xs[j] := by omega
      by_cases a2 : 1048576 < xs[j]
      ·have a2' : ¬ (xs[j] ≤ 1048576) := by omega
       refine .inl ?_
       simp [a1, a1', a2, a2']
      ·have a2' : xs[j] ≤ 1048576 := by omega
       simp only [a1, a1', a2, a2', decide_true, Bool.true_and, if_false, e4]
       exact ih (j + 1) (by omega)
  have l0 := loop xs.length 0 (by omega)
  rw [List.drop_zero] at l0
  simp only [hF, h4, ob_some', dBin_gtr, Bool.not_true, Bool.false_eq_true, if_false, dLen_ints]
  have z : ¬ ((0 : Int) < 0) := by omega
  rcases l0 with l0 | ⟨l0, l1⟩
  ·have c : ((0 : Nat) : Int) = 0 := rfl
   rw [c] at l0
   have dz : dLen (encStrs []) = some (.int .i64 0) := rfl
   simp only [dz, ob_some', dBin_gtr, z, decide_false, oif_bool, Bool.false_eq_true, if_false, l0]
   cases rightVars xs <;> simp
  ·rw [l1] at l0; cases l0
 ·have : 0 < v.free.length := List.length_pos_iff.2 h4
  simp [hF, h4, this]
end Go.Su

/-
 The functions' specs that this claim needs.
-/
namespace Go.Su
set_option linter.unusedVariables false
set_option linter.unusedSimpArgs false
theorem sp_l17_light (t : Ty) (h : t.size ≤ lim) : ∃ b : Bool, (run cfg).p F_l17_light [t.enc] = some (.bool b) := by
 obtain ⟨b, hb⟩ := sp_l11_Small [t] (by simp [lim]) (by simpa using h)
 simp only [List.map_cons, List.map_nil] at hb
 have hs := sp_r03_Size t h
 cases b
 ·refine ⟨false, call_l17_light _ ?_⟩
  rw [eq_l17_light]
  simp [Ty.eta, Ty.ag, hb]
 ·refine ⟨decide ((t.size : Int) ≤ 60), call_l17_light _ ?_⟩
  rw [eq_l17_light]
  simp [Ty.eta, Ty.ag, hb, hs]
theorem sp_l17_weighPat2 (p : Pat) : p.thin = true → ∀ n : Int, 0 ≤ n → n ≤ 500 → ∃ m : Int, (run cfg).p F_l17_weighPat [p.enc, .int .i64 n] = some (.int .i64 m) ∧ 0 ≤ m ∧ m ≤ 501 ∧ n ≤ m := by
 induction p using Pat.ind with
 | h p ih =>
   intro ht n h0 h1
   have hb := p.thin_len ht
   have loop : ∀ (k j : Nat) (n : Int), j + k = p.kids.length → 0 ≤ n → n ≤ 501 → ∃ m : Int, P_l17_weighPat_5h (run cfg) (.int .i64 n) (.int .i64 j) p.enc = some (.int .i64 m) ∧ 0 ≤ m ∧ m ≤ 501 ∧ n ≤ m := by
    intro k
    induction k with
    | zero =>
      intro j n hj h0 h1
      refine ⟨n, ?_, h0, h1, Int.le_refl _⟩
      have : ¬ j < p.kids.length := by omega
      rw [eq_l17_weighPat_5h]
      simp [this]
    | succ k ihk =>
      intro j n hj h0 h1
      have hj' : j < p.kids.length := by omega
      rw [eq_l17_weighPat_5h]
      by_cases hn : n ≤ 500
      ·obtain ⟨m, a1, a2, a3, a4⟩ := ih _ (List.getElem_mem hj') (Pat.thin_kid ht (List.getElem_mem hj')) n h0 hn
       obtain ⟨m', b1, b2, b3, b4⟩ := ihk (j + 1) m (by omega) a2 a3
       push_cast at b1
       exact ⟨m', by simp [hj', hn, dIdx_map hj', Pat.eta, Pat.ag, a1, dAdd1 (show j < 9223372036854775807 by omega), b1], b2, b3, by omega⟩
      ·exact ⟨n, by simp [hj', hn], h0, h1, Int.le_refl _⟩
   by_cases c1 : (300 : Int) < (p.s.size : Int)
   ·refine ⟨501, call_l17_weighPat _ _ ?_, by omega, by omega, by omega⟩
    rw [eq_l17_weighPat]
    simp [c1]
   by_cases c2 : (300 : Int) < (p.name.size : Int)
   ·refine ⟨501, call_l17_weighPat _ _ ?_, by omega, by omega, by omega⟩
    rw [eq_l17_weighPat]
    simp [c1, c2]
   obtain ⟨m, a1, a2, a3, a4⟩ := loop p.kids.length 0 (n + 1) (by omega) (by omega) (by omega)
   refine ⟨m, call_l17_weighPat _ _ ?_, a2, a3, by omega⟩
   rw [eq_l17_weighPat]
   have hadd : dBin .add (.int .i64 n) (.int .i64 1) = some (.int .i64 (n + 1)) := dAdd (by omega) (by omega)
   simp [c1, c2, hadd]
   exact a1
theorem sp_l17_weigh_more2 (t : Tm) (ht : t.fit) (hz : t.sized) (n : Int) (h0 : 500 < n) (h1 : n ≤ 1099511627776) : ∃ m : Int, (run cfg).p F_l17_weigh [t.enc, .int .i64 n] = some (.int .i64 m) ∧ 500 < m ∧ m ≤ n + 4294967298 := by
 have hv := big (Nat.le_of_lt ht.one.vars)
 have hn : ∀ m : Int, n ≤ m → ¬ m ≤ 500 := fun m h => by omega
 have l3 : ∀ m : Int, n ≤ m → P_l17_weigh_15h (run cfg) (.int .i64 m) (.int .i64 0) t.enc = some (.int .i64 m) := by
  intro m hm
  have := hn m hm
  rw [eq_l17_weigh_15h]
  simp [this]
 have l2 : ∀ m : Int, n ≤ m → P_l17_weigh_11h (run cfg) (.int .i64 m) (.int .i64 0) t.enc = some (.int .i64 m) := by
  intro m hm
  have := hn m hm
  rw [eq_l17_weigh_11h]
  simp [this, l3 m hm]
 have l1 : ∀ m : Int, n ≤ m → P_l17_weigh_5h (run cfg) (.int .i64 m) (.int .i64 0) t.enc = some (.int .i64 m) := by
  intro m hm
  have := hn m hm
  rw [eq_l17_weigh_5h]
  simp [this, l2 m hm]
 have hadd : dBin .add (.int .i64 n) (.int .i64 1) = some (.int .i64 (n + 1)) := dAdd (by omega) (by omega)
 have hadd2 : dBin .add (.int .i64 (n + 1)) (.int .i64 (t.vars.length : Int)) = some (.int .i64 (n + 1 + t.vars.length)) := dAdd (by omega) (by omega)
 by_cases c1 : (300 : Int) < (t.s.size : Int)
 ·refine ⟨501, call_l17_weigh _ _ ?_, by omega, by omega⟩
  rw [eq_l17_weigh]
  simp [c1, hadd, hadd2]
 by_cases c2 : (300 : Int) < (t.name.size : Int)
 ·refine ⟨501, call_l17_weigh _ _ ?_, by omega, by omega⟩
  rw [eq_l17_weigh]
  simp [c1, c2, hadd, hadd2]
 by_cases c3 : (300 : Int) < (t.arg.size : Int)
 ·refine ⟨501, call_l17_weigh _ _ ?_, by omega, by omega⟩
  rw [eq_l17_weigh]
  simp [c1, c2, c3, hadd, hadd2]
 obtain ⟨b1, hb1⟩ := sp_l17_light _ hz.a
 obtain ⟨b2, hb2⟩ := sp_l17_light _ hz.b
 cases b1
 ·refine ⟨501, call_l17_weigh _ _ ?_, by omega, by omega⟩
  rw [eq_l17_weigh]
  simp [c1, c2, c3, hadd, hadd2, Ty.eta, Ty.ag, hb1]
 cases b2
 ·refine ⟨501, call_l17_weigh _ _ ?_, by omega, by omega⟩
  rw [eq_l17_weigh]
  simp [c1, c2, c3, hadd, hadd2, Ty.eta, Ty.ag, hb1, hb2]
 refine ⟨n + 1 + t.vars.length, call_l17_weigh _ _ ?_, by omega, by omega⟩
 rw [eq_l17_weigh]
 simp [c1, c2, c3, hadd, hadd2, Ty.eta, Ty.ag, hb1, hb2]
 exact l1 _ (by omega)
end Go.Su

/-
 What heavy terms are: one that is not heavy bears small types only.
-/
namespace Go.Su
set_option linter.unusedVariables false
set_option linter.unusedSimpArgs false
theorem sp_l17_weigh3 (t : Tm) : t.fit → t.sized → ∀ n : Int, 0 ≤ n → n ≤ 500 → ∃ m : Int, (run cfg).p F_l17_weigh [t.enc, .int .i64 n] = some (.int .i64 m) ∧ 0 ≤ m ∧ m ≤ 5000000000 ∧ (m ≤ 500 → n + t.size ≤ m ∧ t.slim) := by
 induction t using Tm.ind with
 | h t ih =>
   intro ht hz n h0 h1
   have hk := big (Nat.le_of_lt ht.one.kids)
   have hp := big (Nat.le_of_lt ht.one.pats)
   have ha := big (Nat.le_of_lt ht.one.args)
   have hv := big (Nat.le_of_lt ht.one.vars)
   have l3 : ∀ (k j : Nat) (n : Int), j + k = t.kids.length → 0 ≤ n → n ≤ 5000000000 → ∃ m : Int, P_l17_weigh_15h (run cfg) (.int .i64 n) (.int .i64 j) t.enc = some (.int .i64 m) ∧ 0 ≤ m ∧ m ≤ 5000000000 ∧ (m ≤ 500 → n + (((t.kids.drop j).map Tm.size).sum : Nat) ≤ m ∧ ∀ k ∈ t.kids.drop j, k.slim) := by
    intro k
    induction k with
    | zero =>
      intro j n hj h0 h1
      refine ⟨n, ?_, h0, h1, fun _ => by rw [List.drop_of_length_le (by omega)]; simp⟩
      have : ¬ j < t.kids.length := by omega
      rw [eq_l17_weigh_15h]
      simp [this]
    | succ k ihk =>
      intro j n hj h0 h1
      have hj' : j < t.kids.length := by omega
      rw [eq_l17_weigh_15h]
      by_cases hn : n ≤ 500
      ·obtain ⟨m, a1, a2, a3, a4⟩ := ih _ (List.getElem_mem hj') (ht.kid (List.getElem_mem hj')) (hz.kid (List.getElem_mem hj')) n h0 hn
       obtain ⟨m', b1, b2, b3, b4⟩ := ihk (j + 1) m (by omega) a2 a3
       push_cast at b1
       exact ⟨m', by simp [hj', hn, dIdx_map hj', Tm.eta, Tm.ag, a1, dAdd1 (show j < 9223372036854775807 by omega), b1], b2, b3, fun h => by
        have g1 := b4 h
        rw [List.drop_eq_getElem_cons hj', List.map_cons, List.sum_cons]
        have g2 := a4 (by omega)
        push_cast
        refine ⟨by omega, fun k hk => ?_⟩
        rcases List.mem_cons.1 hk with rfl | hk
        ·exact g2.2
        ·exact g1.2 k hk⟩
      ·exact ⟨n, by simp [hj', hn], h0, h1, fun h => absurd h (by omega)⟩
   have l2 : ∀ (k j : Nat) (n : Int), j + k = t.pats.length → 0 ≤ n → n ≤ 5000000000 → ∃ m : Int, P_l17_weigh_11h (run cfg) (.int .i64 n) (.int .i64 j) t.enc = some (.int .i64 m) ∧ 0 ≤ m ∧ m ≤ 5000000000 ∧ (m ≤ 500 → n + ((t.kids.map Tm.size).sum : Nat) ≤ m ∧ ∀ k ∈ t.kids, k.slim) := by
    intro k
    induction k with
    | zero =>
      intro j n hj h0 h1
      obtain ⟨m, a1, a2, a3, a4⟩ := l3 t.kids.length 0 n (by omega) h0 h1
      refine ⟨m, ?_, a2, a3, by simpa using a4⟩
      have : ¬ j < t.pats.length := by omega
      rw [eq_l17_weigh_11h]
      simp [this]
      exact a1
    | succ k ihk =>
      intro j n hj h0 h1
      have hj' : j < t.pats.length := by omega
      rw [eq_l17_weigh_11h]
      by_cases hn : n ≤ 500
      ·obtain ⟨m, a1, a2, a3, a4⟩ := sp_l17_weighPat2 _ (Pat.fit_thin (ht.one.pat _ (List.getElem_mem hj'))) n h0 hn
       obtain ⟨m', b1, b2, b3, b4⟩ := ihk (j + 1) m (by omega) a2 (by omega)
       push_cast at b1
       exact ⟨m', by simp [hj', hn, dIdx_map hj', Pat.eta, Pat.ag, a1, dAdd1 (show j < 9223372036854775807 by omega), b1], b2, b3, fun h => ⟨by have := b4 h; omega, (b4 h).2⟩⟩
      ·obtain ⟨m, a1, a2, a3, a4⟩ := l3 t.kids.length 0 n (by omega) h0 h1
       exact ⟨m, by simp [hj', hn]; exact a1, a2, a3, by simpa using a4⟩
   have l1 : ∀ (k j : Nat) (n : Int), j + k = t.args.length → 0 ≤ n → n ≤ 5000000000 → ∃ m : Int, P_l17_weigh_5h (run cfg) (.int .i64 n) (.int .i64 j) t.enc = some (.int .i64 m) ∧ 0 ≤ m ∧ m ≤ 5000000000 ∧ (m ≤ 500 → n + ((t.kids.map Tm.size).sum : Nat) ≤ m ∧ (∀ k ∈ t.kids, k.slim) ∧ ∀ y ∈ t.args.drop j, y.size ≤ 60) := by
    intro k
    induction k with
    | zero =>
      intro j n hj h0 h1
      obtain ⟨m, a1, a2, a3, a4⟩ := l2 t.pats.length 0 n (by omega) h0 h1
      refine ⟨m, ?_, a2, a3, fun h => ⟨(a4 h).1, (a4 h).2, by rw [List.drop_of_length_le (by omega)]; simp⟩⟩
      have : ¬ j < t.args.length := by omega
      rw [eq_l17_weigh_5h]
      simp [this]
      exact a1
    | succ k ihk =>
      intro j n hj h0 h1
      have hj' : j < t.args.length := by omega
      rw [eq_l17_weigh_5h]
      by_cases hn : n ≤ 500
      ·obtain ⟨b, hb, hq⟩ := sp_l17_light2 _ (hz.args _ (List.getElem_mem hj'))
       have hadd : dBin .add (.int .i64 n) (.int .i64 1) = some (.int .i64 (n + 1)) := dAdd (by omega) (by omega)
       cases b
       ·exact ⟨501, by simp [hj', hn, hadd, dIdx_map hj', Ty.eta, Ty.ag, hb], by omega, by omega, fun h => absurd h (by omega)⟩
       ·obtain ⟨m', b1, b2, b3, b4⟩ := ihk (j + 1) (n + 1) (by omega) (by omega) (by omega)
        push_cast at b1
        exact ⟨m', by simp [hj', hn, hadd, dIdx_map hj', Ty.eta, Ty.ag, hb, dAdd1 (show j < 9223372036854775807 by omega), b1], b2, b3, fun h => ⟨by have := b4 h; omega, (b4 h).2.1, fun y hy => by
         rw [List.drop_eq_getElem_cons hj'] at hy
         rcases List.mem_cons.1 hy with rfl | hy
         ·exact hq rfl
         ·exact (b4 h).2.2 y hy⟩⟩
      ·obtain ⟨m, a1, a2, a3, a4⟩ := l2 t.pats.length 0 n (by omega) h0 h1
       exact ⟨m, by simp [hj', hn]; exact a1, a2, a3, fun h => absurd (a4 h).1 (by omega)⟩
   have hadd : dBin .add (.int .i64 n) (.int .i64 1) = some (.int .i64 (n + 1)) := dAdd (by omega) (by omega)
   have hadd2 : dBin .add (.int .i64 (n + 1)) (.int .i64 (t.vars.length : Int)) = some (.int .i64 (n + 1 + t.vars.length)) := dAdd (by omega) (by omega)
   by_cases c1 : (300 : Int) < (t.s.size : Int)
   ·refine ⟨501, call_l17_weigh _ _ ?_, by omega, by omega, fun h => absurd h (by omega)⟩
    rw [eq_l17_weigh]
    simp [c1, hadd, hadd2]
   by_cases c2 : (300 : Int) < (t.name.size : Int)
   ·refine ⟨501, call_l17_weigh _ _ ?_, by omega, by omega, fun h => absurd h (by omega)⟩
    rw [eq_l17_weigh]
    simp [c1, c2, hadd, hadd2]
   by_cases c3 : (300 : Int) < (t.arg.size : Int)
   ·refine ⟨501, call_l17_weigh _ _ ?_, by omega, by omega, fun h => absurd h (by omega)⟩
    rw [eq_l17_weigh]
    simp [c1, c2, c3, hadd, hadd2]
   obtain ⟨b1, hb1, hq1⟩ := sp_l17_light2 _ hz.a
   obtain ⟨b2, hb2, hq2⟩ := sp_l17_light2 _ hz.b
   cases b1
   ·refine ⟨501, call_l17_weigh _ _ ?_, by omega, by omega, fun h => absurd h (by omega)⟩
    rw [eq_l17_weigh]
    simp [c1, c2, c3, hadd, hadd2, Ty.eta, Ty.ag, hb1]
   cases b2
   ·refine ⟨501, call_l17_weigh _ _ ?_, by omega, by omega, fun h => absurd h (by omega)⟩
    rw [eq_l17_weigh]
    simp [c1, c2, c3, hadd, hadd2, Ty.eta, Ty.ag, hb1, hb2]
   obtain ⟨m, a1, a2, a3, a4⟩ := l1 t.args.length 0 (n + 1 + t.vars.length) (by omega) (by omega) (by omega)
   refine ⟨m, call_l17_weigh _ _ ?_, a2, a3, fun h => ⟨by
    have := (a4 h).1
    have := t.size_eq
    push_cast at *
    omega, .mk _ ⟨hq1 rfl, hq2 rfl, by simpa using (a4 h).2.2⟩ (a4 h).2.1⟩⟩
   rw [eq_l17_weigh]
   simp [c1, c2, c3, hadd, hadd2, Ty.eta, Ty.ag, hb1, hb2]
   exact a1
theorem sp_l17_Heavy3 (l : List Tm) (hl : l.length ≤ 16) (ft : ∀ t ∈ l, t.fit) (hz : ∀ t ∈ l, t.sized) : ∃ b : Bool, (run cfg).p F_l17_Heavy [.list 20 (l.map Tm.enc)] = some (.bool b) ∧ (b = false → (l.map Tm.size).sum ≤ 500 ∧ ∀ t ∈ l, t.slim) := by
 have loop : ∀ (k j : Nat) (n : Int), j + k = l.length → 0 ≤ n → n ≤ (j + 1) * 5000000000 → ∃ b : Bool, P_l17_Heavy_3h (run cfg) (.list 20 (l.map Tm.enc)) (.int .i64 n) (.int .i64 (j : Int)) = some (.bool b) ∧ (b = false → n + (((l.drop j).map Tm.size).sum : Nat) ≤ 500 ∧ ∀ t ∈ l.drop j, t.slim) := by
  intro k
  induction k with
  | zero =>
    intro j n hj h0 h1
    have : ¬ j < l.length := by omega
    refine ⟨decide (500 < n), ?_, fun h => ?_⟩
    ·rw [eq_l17_Heavy_3h]
     simp [this]
    ·rw [List.drop_of_length_le (by omega)]
     simp at h
     simp
     omega
  | succ k ih =>
    intro j n hj h0 h1
    have h : j < l.length := by omega
    obtain ⟨m, a1, a2, a3, a4⟩ : ∃ m : Int, (run cfg).p F_l17_weigh [l[j].enc, .int .i64 n] = some (.int .i64 m) ∧ 0 ≤ m ∧ m ≤ n + 5000000000 ∧ (m ≤ 500 → n + l[j].size ≤ m ∧ l[j].slim) := by
     by_cases hn : n ≤ 500
     ·obtain ⟨m, a1, a2, a3, a4⟩ := sp_l17_weigh3 _ (ft _ (List.getElem_mem h)) (hz _ (List.getElem_mem h)) n h0 hn
      exact ⟨m, a1, a2, by omega, a4⟩
     ·obtain ⟨m, a1, a2, a3⟩ := sp_l17_weigh_more2 _ (ft _ (List.getElem_mem h)) (hz _ (List.getElem_mem h)) n (by omega) (by omega)
      exact ⟨m, a1, by omega, by omega, fun h => absurd h (by omega)⟩
    obtain ⟨b, hb, hb2⟩ := ih (j + 1) m (by omega) a2 (by omega)
    push_cast at hb
    refine ⟨b, ?_, fun hf => ?_⟩
    ·rw [eq_l17_Heavy_3h]
     simp [h, dIdx_map h, Tm.eta, Tm.ag, a1, dAdd1 (show j < 9223372036854775807 by omega), hb]
    ·have g1 := hb2 hf
     rw [List.drop_eq_getElem_cons h, List.map_cons, List.sum_cons]
     have g2 := a4 (by omega)
     push_cast
     refine ⟨by omega, fun k hk => ?_⟩
     rcases List.mem_cons.1 hk with rfl | hk
     ·exact g2.2
     ·exact g1.2 k hk
 obtain ⟨b, hb, hb2⟩ := loop l.length 0 0 (by omega) (by omega) (by omega)
 refine ⟨b, call_l17_Heavy _ ?_, fun h => ?_⟩
 ·rw [eq_l17_Heavy]
  simpa using hb
 ·have := hb2 h
  rw [List.drop_zero] at this
  exact ⟨by omega, this.2⟩
end Go.Su

/-
 The functions' specs that this claim needs.
-/
namespace Go.Su
set_option linter.unusedVariables false
set_option linter.unusedSimpArgs false
theorem sp_r03_Kids (k : Int) : (run cfg).p F_r03_Kids [.int .i64 k] = some (.int .i64 (arity k)) := by
 refine call_r03_Kids _ ?_
 rw [eq_r03_Kids]
 simp [arity]
 by_cases h1 : k = 1 <;> by_cases h2 : k = 2 <;> by_cases h3 : k = 3 <;> by_cases h4 : k = 4 <;> by_cases h5 : k = 5 <;> by_cases h6 : k = 6 <;> by_cases h7 : k = 7 <;> by_cases h8 : k = 8 <;> by_cases h9 : k = 9 <;> simp_all
theorem sp_r03_Right (t : Ty) : t.thin = true → (run cfg).p F_r03_Right [t.enc] = some (.bool t.right) := by
 induction t using Ty.ind with
 | h t ih =>
   intro ht
   have hb := t.thin_len ht
   refine call_r03_Right _ ?_
   have loop : P_r03_Right_4h (run cfg) (.int .i64 0) t.enc = _ := loop_all (l := t.kids) (f := Ty.right) (P := fun i => P_r03_Right_4h (run cfg) (.int .i64 i) t.enc) (y := .bool true) (n := .bool false)
    (by rw [eq_r03_Right_4h]; simp)
    (fun i h => by
      rw [eq_r03_Right_4h]
      simp [h, dIdx_map h, Ty.eta, Ty.ag, ih _ (List.getElem_mem h) (Ty.thin_kid ht (List.getElem_mem h)), dAdd1 (show i < 9223372036854775807 by omega)]
      cases t.kids[i].right <;> rfl)
   rw [eq_r03_Right]
   simp only [isAggN_Ty, og_true', Ty.proj0, Ty.proj1, Ty.proj2, sp_r03_Kids, ob_some', dLen_list, dBin_neq, dBin_lss, dBin_gtr, ogd_bool, oif_bool, loop, Ty.right_eq t, List.length_map]
   grind
theorem sp_r03_Same (a : Ty) : a.thin = true → ∀ b : Ty, (run cfg).p F_r03_Same [a.enc, b.enc] = some (.bool (decide (a = b))) := by
 induction a using Ty.ind with
 | h a ih =>
   intro ha b
   have hb := a.thin_len ha
   refine call_r03_Same _ _ ?_
   rw [eq_r03_Same]
   simp
   by_cases h1 : a.kind = b.kind <;> simp [h1, Ty.ext_iff']
   by_cases h2 : a.n = b.n <;> simp [h2]
   by_cases h3 : a.kids.length = b.kids.length
   ·have loop := loop_two (l := a.kids) (m := b.kids) h3 (P := fun i => P_r03_Same_4h (run cfg) (.int .i64 i) a.enc b.enc) (y := .bool true) (n := .bool false)
     (by rw [eq_r03_Same_4h]; simp [h3])
     (fun i h => by
       have h' : i < b.kids.length := by omega
       rw [eq_r03_Same_4h]
       simp [h, h', dIdx_map h, dIdx_map h', Ty.eta, Ty.ag, ih _ (List.getElem_mem h) (Ty.thin_kid ha (List.getElem_mem h)), dAdd1 (show i < 9223372036854775807 by omega)])
    simp only [h3] at loop ⊢
    simp [loop]
    by_cases h4 : a.kids = b.kids <;> simp [h4]
   ·have : a.kids ≠ b.kids := fun h => h3 (by rw [h])
    simp [Int.ofNat_inj, h3, this]
theorem sp_r03_SameAll (a b : List Ty) (hl : a.length ≤ lim) (ha : ∀ t ∈ a, t.thin = true) : (run cfg).p F_r03_SameAll [.list 3 (a.map Ty.enc), .list 3 (b.map Ty.enc)] = some (.bool (decide (a = b))) := by
 have hb := big hl
 refine call_r03_SameAll _ _ ?_
 rw [eq_r03_SameAll]
 simp
 by_cases h3 : a.length = b.length
 ·have loop := loop_two (l := a) (m := b) h3 (P := fun i => P_r03_SameAll_4h (run cfg) (.list 3 (a.map Ty.enc)) (.list 3 (b.map Ty.enc)) (.int .i64 i)) (y := .bool true) (n := .bool false)
   (by rw [eq_r03_SameAll_4h]; simp [h3])
   (fun i h => by
     have h' : i < b.length := by omega
     rw [eq_r03_SameAll_4h]
     simp [h, h', dIdx_map h, dIdx_map h', Ty.eta, Ty.ag, sp_r03_Same _ (ha _ (List.getElem_mem h)), dAdd1 (show i < 9223372036854775807 by omega)])
  simp only [h3] at loop ⊢
  simp [loop]
  by_cases h4 : a = b <;> simp [h4]
 ·have : a ≠ b := fun h => h3 (by rw [h])
  simp [Int.ofNat_inj, h3, this]
theorem sp_r01_lower (c : Int) : (run cfg).p F_r01_lower [.int .u8 c] = some (.bool (lowerB c)) := by
 refine call_r01_lower _ ?_
 rw [eq_r01_lower]
 simp only [dBin_geq, dBin_leq, ob_some', ogd_bool, decide_eq_true_eq, lowerB]
 by_cases h1 : 97 ≤ c <;> simp [h1]
theorem sp_r01_digit (c : Int) : (run cfg).p F_r01_digit [.int .u8 c] = some (.bool (digitB c)) := by
 refine call_r01_digit _ ?_
 rw [eq_r01_digit]
 simp only [dBin_geq, dBin_leq, ob_some', ogd_bool, decide_eq_true_eq, digitB]
 by_cases h1 : 48 ≤ c <;> simp [h1]
theorem sp_r01_part (c : Int) : (run cfg).p F_r01_part [.int .u8 c] = some (.bool (partB c)) := by
 refine call_r01_part _ ?_
 rw [eq_r01_part]
 simp only [dBin_geq, dBin_leq, dBin_eql, ob_some', ogd_bool, decide_eq_true_eq, sp_r01_lower, sp_r01_digit, partB]
 by_cases h1 : lowerB c = true <;> by_cases h2 : digitB c = true <;> by_cases h3 : 65 ≤ c <;> by_cases h4 : c ≤ 90 <;> by_cases h7 : c = 95 <;> simp [h1, h2, h3, h4, h7]
open Classical in
theorem sp_r01_Key (s : ByteArray) (hs : s.size ≤ 4294967000) : (run cfg).p F_r01_Key [.str s] = some (.bool (keyB s)) := by
 have hb : (bts s).length ≤ 4294967000 := by rw [bts_len]; exact hs
 refine call_r01_Key _ ?_
 rw [eq_r01_Key]
 let t : ByteArray := ⟨#[32]⟩ ++ s ++ ⟨#[32]⟩
 have tl : t.data.toList = 32 :: s.data.toList ++ [32] := by simp [t]
 have ts : t.size = s.size + 2 := by
  have := congrArg List.length tl
  simp only [Array.length_toList, List.length_append, List.length_cons, List.length_nil] at this
  have e1 : t.size = t.data.size := rfl
  have e2 : s.size = s.data.size := rfl
  omega
 have search : ∀ (k i : Nat), i + k = 82 → P_r01_Key_8h (run cfg) (.str s) (.str t) (.int .i64 i) = some (.bool (decide (0 < s.size ∧ ∃ j, i ≤ j ∧ j + t.size ≤ 81 ∧ (wordsL.drop j).take t.size = t.data.toList))) := by
  intro k
  induction k with
  | zero =>
    intro i hi
    rw [eq_r01_Key_8h]
    simp only [dLenS_str, ob_some']
    rw [dAdd (by omega) (by omega)]
    have : ¬ ((i : Int) + (t.size : Int) ≤ 81) := by omega
    have h2 : ¬ (0 < s.size ∧ ∃ j, i ≤ j ∧ j + t.size ≤ 81 ∧ (wordsL.drop j).take t.size = t.data.toList) := by rintro ⟨-, j, h1, h2, -⟩; omega
    simp [this, h2]
  | succ k ih =>
    intro i hi
    rw [eq_r01_Key_8h]
    simp only [dLenS_str, ob_some']
    rw [dAdd (by omega) (by omega)]
    by_cases h1 : (i : Int) + (t.size : Int) ≤ 81
    ·have h1' : i + t.size ≤ 81 := by omega
     have nx := ih (i + 1) (by omega)
     simp only [dBin_leq, h1, decide_true, ob_some', oif_bool, if_true, dBin_gtr, ogd_bool, decide_eq_true_eq]
     rw [show ((i + 1 : Nat) : Int) = (i : Int) + 1 by omega] at nx
     by_cases h0 : (0 : Int) < (s.size : Int)
     ·have h0' : 0 < s.size := by omega
      have ext : ∀ w : ByteArray, w.data.toList = wordsL → dSliceS (.str w) (some (.int .i64 (i : Int))) (some (.int .i64 ((i : Int) + (t.size : Int)))) = some (.str (w.extract i (i + t.size))) := by
       intro w hw
       have hwl : w.size = 81 := by
        have := congrArg List.length hw
        rw [words_len] at this
        simpa using this
       have e1 : ((i : Int) + (t.size : Int)).toNat = i + t.size := by omega
       simp only [dSliceS, bnd, ob_some', e1, show (0 : Int) ≤ (i : Int) + (t.size : Int) by omega, if_true, Int.natCast_nonneg, Int.toNat_natCast, hwl]
       rw [if_pos (by omega)]
      simp only [h0, if_true]
      rw [ext _ rfl]
      simp only [ob_some', dBin_seql, oif_bool, decide_eq_true_eq]
      rw [dAdd1 (by omega)]
      simp only [ob_some']
      rw [show ((i + 1 : Nat) : Int) = (i : Int) + 1 by omega, nx]
      have exl : ∀ w : ByteArray, w.data.toList = wordsL → ((w.extract i (i + t.size) = t) ↔ (wordsL.drop i).take t.size = t.data.toList) := by
       intro w hw
       have e : (w.extract i (i + t.size)).data.toList = (wordsL.drop i).take t.size := by
        rw [ByteArray.data_extract, Array.toList_extract, hw, List.extract_eq_take_drop]
        congr 1
        omega
       rw [← e]
       constructor
       ·intro h; rw [h]
       ·intro h
        cases hx : w.extract i (i + t.size)
        rw [hx] at h
        cases ht : t
        rw [ht] at h
        simp only [ByteArray.mk.injEq]
        exact Array.ext' h
      by_cases h2 : (wordsL.drop i).take t.size = t.data.toList
      ·rw [if_pos ((exl _ rfl).2 h2)]
       have : (0 < s.size ∧ ∃ j, i ≤ j ∧ j + t.size ≤ 81 ∧ (wordsL.drop j).take t.size = t.data.toList) := ⟨h0', i, Nat.le_refl _, h1', h2⟩
       simp [this]
      ·rw [if_neg (fun h => h2 ((exl _ rfl).1 h))]
       congr 2
       rw [Bool.eq_iff_iff]
       simp only [decide_eq_true_eq]
       constructor
       ·rintro ⟨a, j, b, c⟩; exact ⟨a, j, by omega, c⟩
       ·rintro ⟨a, j, b, c, d⟩
        refine ⟨a, j, ?_, c, d⟩
        rcases Nat.lt_or_ge i j with h | h
        ·exact h
        ·exact absurd (by rw [show i = j by omega]; exact d) h2
     ·have : ¬ (0 < s.size ∧ ∃ j, i ≤ j ∧ j + t.size ≤ 81 ∧ (wordsL.drop j).take t.size = t.data.toList) := fun h => h0 (by have := h.1; omega)
      have this' : ¬ (0 < s.size ∧ ∃ j, i + 1 ≤ j ∧ j + t.size ≤ 81 ∧ (wordsL.drop j).take t.size = t.data.toList) := fun h => h0 (by have := h.1; omega)
      simp only [h0, if_false]
      rw [dAdd1 (by omega)]
      simp only [ob_some']
      rw [show ((i + 1 : Nat) : Int) = (i : Int) + 1 by omega, nx]
      simp [this, this']
    ·have h2 : ¬ (0 < s.size ∧ ∃ j, i ≤ j ∧ j + t.size ≤ 81 ∧ (wordsL.drop j).take t.size = t.data.toList) := by rintro ⟨-, j, h3, h4, -⟩; omega
     simp [h1, h2]
 have fin : (s.data.toList.all low8 = true ∧ 0 < s.size ∧ ∃ j, 0 ≤ j ∧ j + t.size ≤ 81 ∧ (wordsL.drop j).take t.size = t.data.toList) ↔ s.data.toList ∈ keyL := by
  rw [← words_key]
  have e2 : s.data.toList.length = s.size := by simp
  rw [e2, ts, tl]
  simp
 have low : ∀ b : UInt8, lowerB (b.toNat : Int) = low8 b := by
  intro b
  simp only [lowerB, low8, UInt8.le_iff_toNat_le]
  rw [Bool.eq_iff_iff]
  simp only [Bool.and_eq_true, decide_eq_true_eq]
  have h1 : (97 : UInt8).toNat = 97 := rfl
  have h2 : (122 : UInt8).toNat = 122 := rfl
  rw [h1, h2]
  omega
 have loop : ∀ (k i : Nat), i + k = (bts s).length → P_r01_Key_2h (run cfg) (.str s) (.int .i64 i) = some (.bool (decide (((bts s).drop i).all lowerB = true ∧ 0 < s.size ∧ ∃ j, 0 ≤ j ∧ j + t.size ≤ 81 ∧ (wordsL.drop j).take t.size = t.data.toList))) := by
  intro k
  induction k with
  | zero =>
    intro i hi
    rw [eq_r01_Key_2h]
    have hlt : ¬ (i : Int) < (s.size : Int) := by rw [← bts_len]; omega
    have e1 : dBin .add (.str ⟨#[32]⟩) (.str s) = some (.str (⟨#[32]⟩ ++ s)) := by
     simp only [dBin, dStrOp]
     rw [if_pos]
     have : (⟨#[32]⟩ : ByteArray).size = 1 := rfl
     unfold lim; omega
    have e2 : dBin .add (.str (⟨#[32]⟩ ++ s)) (.str ⟨#[32]⟩) = some (.str t) := by
     simp only [dBin, dStrOp]
     rw [if_pos]
     have h1 : (⟨#[32]⟩ : ByteArray).size = 1 := rfl
     have h2 : (⟨#[32]⟩ ++ s : ByteArray).size = s.size + 1 := by
      have := ByteArray.size_append (a := ⟨#[32]⟩) (b := s)
      omega
     unfold lim; omega
    have := search 82 0 rfl
    simp only [Int.natCast_zero, Int.ofNat_zero, Int.cast_ofNat_Int] at this
    simp only [dLenS_str, ob_some', dBin_lss, hlt, decide_false, oif_bool, Bool.false_eq_true, if_false, e1, e2, List.drop_of_length_le (show (bts s).length ≤ i by omega), List.all_nil, true_and]
    exact this
  | succ k ih =>
    intro i hi
    have h : i < (bts s).length := by omega
    rw [eq_r01_Key_2h]
    have := ih (i + 1) (by omega)
    push_cast at this
    have hlt : (i : Int) < (s.size : Int) := by rw [← bts_len]; omega
    rw [List.drop_eq_getElem_cons h, List.all_cons]
    simp only [dLenS_str, ob_some', dBin_lss, hlt, decide_true, oif_bool, if_true, dStr_idx h, sp_r01_lower, dUn_not, dAdd1 (show i < 9223372036854775807 by omega)]
    push_cast
    rw [this]
    cases lowerB (bts s)[i] <;> simp
 have l0 := loop (bts s).length 0 (by omega)
 simp only [Int.natCast_zero, Int.ofNat_zero, Int.cast_ofNat_Int] at l0
 have e3 : (bts s).all lowerB = s.data.toList.all low8 := by
  simp only [bts, List.all_map]
  congr 1
  funext b
  exact low b
 refine l0.trans ?_
 rw [List.drop_zero, e3]
 simp only [fin, keyB]
theorem sp_r01_Name (s : ByteArray) (hs : s.size ≤ 4294967000) : (run cfg).p F_r01_Name [.str s] = some (.bool (nameB s)) := by
 have hb := str_big (s := s) (by unfold lim; omega)
 refine call_r01_Name _ ?_
 rw [eq_r01_Name]
 have h32 : dBin .gtr (.int .i64 (s.size : Int)) (.int .i64 32) = some (.bool (decide (32 < s.size))) := by
  rw [dBin_gtr]; congr 2; rw [decide_eq_decide]; omega
 simp only [dLenS_str, ob_some', dBin_lss, h32, ogd_bool, oif_bool, decide_eq_true_eq, nameB]
 by_cases h1 : (s.size : Int) < 1
 ·have : ¬ (1 ≤ s.size) := by omega
  simp [h1, this]
 ·by_cases h2 : 32 < s.size
  ·have : ¬ (s.size ≤ 32) := by omega
   simp [h1, h2, this]
  ·have h0 : 0 < (bts s).length := by rw [bts_len]; omega
   have loop : ∀ (k i : Nat), i + k = (bts s).length → P_r01_Name_4h (run cfg) (.str s) (.int .i64 i) = some (.bool (((bts s).drop i).all partB && !keyB s)) := by
    intro k
    induction k with
    | zero =>
      intro i hi
      rw [eq_r01_Name_4h]
      have hlt : ¬ (i : Int) < (s.size : Int) := by rw [← bts_len]; omega
      simp [hlt, List.drop_of_length_le (show (bts s).length ≤ i by omega), sp_r01_Key s hs]
    | succ k ih =>
      intro i hi
      have h : i < (bts s).length := by omega
      rw [eq_r01_Name_4h]
      have := ih (i + 1) (by omega)
      push_cast at this
      have hlt : (i : Int) < (s.size : Int) := by rw [← bts_len]; omega
      rw [List.drop_eq_getElem_cons h, List.all_cons]
      simp only [dLenS_str, ob_some', dBin_lss, hlt, decide_true, oif_bool, if_true, dStr_idx h, sp_r01_part, dUn_not, dAdd1 (show i < 9223372036854775807 by omega)]
      push_cast
      rw [this]
      cases partB (bts s)[i] <;> rfl
   have l0 := loop (bts s).length 0 (by omega)
   simp only [Int.natCast_zero, Int.ofNat_zero, Int.cast_ofNat_Int, List.drop_zero] at l0
   have g0 : (bts s).getD 0 0 = (bts s)[0] := by simp [List.getD_eq_getElem?_getD, h0]
   have e0' : dStrIdx (.str s) (.int .i64 0) = some (.int .u8 (bts s)[0]) := dStr_idx (s := s) (k := .i64) h0
   have a1 : (1 ≤ s.size) := by omega
   have a2 : (s.size ≤ 32) := by omega
   simp only [h1, h2, if_false, e0', ob_some', sp_r01_lower, dUn_not, oif_bool, g0, a1, a2, decide_true, Bool.true_and, l0]
   cases lowerB (bts s)[0] <;> simp
theorem sp_r05_pat (p : Pat) : p.thin = true → p.txt → (run cfg).p F_r05_pat [p.enc] = some (.bool p.pat) := by
 induction p using Pat.ind with
 | h p ih =>
   intro ht hx
   have hb := p.thin_len ht
   obtain ⟨hn, hs⟩ := hx p p.self_sub
   have loop : P_r05_pat_28h (run cfg) (.int .i64 p.kids.length) (.int .i64 0) p.enc = some (.bool (p.kids.all Pat.pat)) :=
    loop_allB (l := p.kids) (f := Pat.pat) (P := fun i => P_r05_pat_28h (run cfg) (.int .i64 p.kids.length) (.int .i64 i) p.enc)
     (by rw [eq_r05_pat_28h]; simp)
     (fun i h => by
       rw [eq_r05_pat_28h]
       simp [h, dIdx_map h, Pat.eta, Pat.ag, ih _ (List.getElem_mem h) (Pat.thin_kid ht (List.getElem_mem h)) (Pat.txt_kid hx (List.getElem_mem h)), dAdd1 (show i < 9223372036854775807 by omega)]
       cases p.kids[i].pat <;> rfl)
   have h25 : ∀ (t4 : Int) (a : DV) (nm : ByteArray) (n : Int) (s : ByteArray), P_r05_pat_25 (run cfg) (.int .i64 t4) p.enc a (.str nm) (.int .i64 n) (.str s) =
    some (.bool ((decide ((p.kids.length : Int) = t4) && decide (p.name = nm) && decide (p.n = n) && decide (p.s = s)) && p.kids.all Pat.pat)) := by
    intro t4 a nm n s
    rw [eq_r05_pat_25]
    simp only [Pat.proj6, Pat.proj3, Pat.proj4, Pat.proj5, dLen_list, List.length_map, ob_some', dBin_neq, dBin_sneq, ogd_bool, oif_bool, decide_eq_true_eq]
    by_cases h1 : (p.kids.length : Int) = t4 <;> by_cases h2 : p.name = nm <;> by_cases h3 : p.n = n <;> by_cases h4 : p.s = s <;> simp [h1, h2, h3, h4]
    rw [← h1]
    rw [loop]
   refine call_r05_pat _ ?_
   rw [eq_r05_pat]
   have hs' : dBin .gtr (.int .i64 (p.s.size : Int)) (.int .i64 200) = some (.bool (decide (200 < p.s.size))) := by
    rw [dBin_gtr]; congr 2; rw [decide_eq_decide]; omega
   simp only [isAggN_Pat, og_true', Pat.pj, isCell_int, isCell_str, isCell_list, dBin_eql, dBin_neq, dBin_lss, dBin_gtr, ob_some', oif_bool, ogd_bool, sp_r01_Name p.name hn, dUn_not, dLenS_str, h25, nil_str]
   rw [Pat.pat_eq]
   unfold Pat.one
   by_cases k1 : p.kind = 1
   ·simp [k1]
   by_cases k6 : p.kind = 6
   ·simp [k6]
   by_cases k8 : p.kind = 8
   ·simp [k8]
   by_cases k2 : p.kind = 2
   ·cases hnm : nameB p.name <;> simp [k2, hnm]
   by_cases k3 : p.kind = 3
   ·simp [k3]
   by_cases k4 : p.kind = 4
   ·by_cases n0 : p.n < 0
    ·have h1 : ¬ (p.n = 0 ∨ p.n = 1) := by omega
     simp [k4, n0, h1]
    ·by_cases n1 : 1 < p.n
     ·have h1 : ¬ (p.n = 0 ∨ p.n = 1) := by omega
      simp [k4, n0, n1, h1]
     ·have h1 : (p.n = 0 ∨ p.n = 1) := by omega
      simp [k4, n0, n1, h1]
   by_cases k5 : p.kind = 5
   ·by_cases h : (200 : Int) < (p.s.size : Int)
    ·have : ¬ p.s.size ≤ 200 := by omega
     simp [k5, h, this]
    ·have : p.s.size ≤ 200 := by omega
     simp [k5, h, this]
   by_cases k7 : p.kind = 7
   ·simp [k7]
    have : ((p.kids.length : Int) = 2) ↔ (p.kids.length = 2) := by omega
    simp [this]
   by_cases k9 : p.kind = 9
   ·simp [k9]
    have : ((p.kids.length : Int) = 2) ↔ (p.kids.length = 2) := by omega
    simp [this]
   simp [k1, k2, k3, k4, k5, k6, k7, k8, k9]
theorem sp_r05_names (t : Pat) : ∀ (l : List ByteArray) (sg : List SObj), l.length + t.size ≤ lim → (run cfg).r F_r05_names [(t.enc, .val), (encStrs l, .own)] sg = some ([encStrs (t.namesOn l)], sg) := by
 induction t using Pat.ind with
 | h t ih =>
   intro l sg hl
   have hb := Pat.thin_len _ (Pat.thin_of_size (show t.size ≤ lim by omega))
   have hB := big hl
   refine call_r05_names _ _ _ ?_
   have loop : ∀ l : List ByteArray, l.length + (t.kids.map Pat.size).sum ≤ lim → P_r05_names_4h (run cfg) (encStrs l) (.int .i64 0) t.enc sg = some ([encStrs (t.kids.foldl (fun l k => k.namesOn l) l)], sg) :=
    loop_fold (l := t.kids) (P := fun i (a : List ByteArray) => P_r05_names_4h (run cfg) (encStrs a) (.int .i64 i) t.enc sg) (g := fun a k => k.namesOn a) (fin := fun a => some ([encStrs a], sg))
     (I := fun i a => a.length + ((t.kids.drop i).map Pat.size).sum ≤ lim)
     (fun a _ => by rw [eq_r05_names_4h]; simp)
     (fun i h a ha => by
       rw [List.drop_eq_getElem_cons h, List.map_cons, List.sum_cons] at ha
       have h1 := Pat.namesOn_len t.kids[i] a
       refine ⟨?_, by omega⟩
       rw [eq_r05_names_4h]
       simp [h, dIdx_map h, Pat.eta, Pat.ag, ih _ (List.getElem_mem h) a sg (by omega), dAdd1 (show i < 9223372036854775807 by omega)])
   have hsz := Pat.size_eq t
   rw [eq_r05_names, Pat.namesOn_eq]
   simp
   by_cases h6 : t.kind = 2
   ·simp [h6]
    rw [show encStrs l = .list 1 (l.map fun n => .str n) from rfl, dApp_list (by simp; omega)]
    have := loop (l ++ [t.name]) (by simp; omega)
    simpa [encStrs] using this
   ·simp [h6, loop l (by omega)]
theorem sp_r05_Names (t : Pat) (ht : t.size ≤ lim) : (run cfg).p F_r05_Names [t.enc] = some (encStrs t.names) := by
 refine call_r05_Names _ ?_
 rw [eq_r05_Names]
 have := sp_r05_names t [] [] (by simpa using ht)
 have e : encStrs [] = .list 1 [] := rfl
 rw [e] at this
 simp [Pat.eta, Pat.ag, this, Pat.names]
theorem sp_r05_Has (l : List ByteArray) (hl : l.length ≤ lim) (n : ByteArray) : (run cfg).p F_r05_Has [encStrs l, .str n] = some (.bool (hasS l n)) := by
 have hb := big hl
 refine call_r05_Has _ _ ?_
 rw [eq_r05_Has]
 have loop := loop_anyB (l := l) (f := fun x => decide (x = n)) (P := fun i => P_r05_Has_2h (run cfg) (encStrs l) (.str n) (.int .i64 i))
  (by rw [eq_r05_Has_2h]; simp)
  (fun i h => by
    rw [eq_r05_Has_2h]
    simp [h, dIdx_strs h, dAdd1 (show i < 9223372036854775807 by omega)])
 exact loop
theorem dSlice_pre {α : Type} {e : α → DV} {l : List α} {i : Nat} (h : i ≤ l.length) (sz : Nat) : dSlice sz (.list sz (l.map e)) none (some (.int .i64 (i : Int))) = some (.list sz ((l.take i).map e)) := by
 simp [dSlice, bnd, h, List.map_take]
theorem nodup_scan {α : Type} [DecidableEq α] (l : List α) : (∀ (i : Nat) (h : i < l.length), l[i] ∉ l.take i) ↔ l.Nodup := by
 constructor
 ·intro h
  rw [List.nodup_iff_pairwise_ne, List.pairwise_iff_getElem]
  intro i j hi hj hij he
  exact h j hj (by rw [← he]; exact List.mem_take_iff_getElem.2 ⟨i, by omega, rfl⟩)
 ·intro h i hi hm
  obtain ⟨j, hj, he⟩ := List.mem_take_iff_getElem.1 hm
  rw [List.nodup_iff_pairwise_ne, List.pairwise_iff_getElem] at h
  exact h j i (by omega) hi (by omega) he
open Classical in
theorem sp_r05_RightPat (p : Pat) (ht : p.size ≤ lim) (hx : p.txt) : (run cfg).p F_r05_RightPat [p.enc] = some (.bool p.right) := by
 refine call_r05_RightPat _ ?_
 rw [eq_r05_RightPat]
 have hnl : p.names.length ≤ lim := by have := Pat.namesOn_len p []; simp at this; unfold Pat.names; omega
 have hb := big hnl
 simp [Pat.eta, Pat.ag, sp_r05_pat p (Pat.thin_of_size ht) hx, sp_r05_Names p ht, Pat.right]
 cases hp : p.pat
 ·simp
 ·simp
  have loop : ∀ (k i : Nat), i + k = p.names.length → P_r05_RightPat_5h (run cfg) (encStrs p.names) (.int .i64 i) = some (.bool (decide (∀ j (h : j < p.names.length), i ≤ j → p.names[j] ∉ p.names.take j))) := by
   intro k
   induction k with
   | zero =>
     intro i hi
     rw [eq_r05_RightPat_5h]
     have : ¬ i < p.names.length := by omega
     have h2 : ∀ j (h : j < p.names.length), i ≤ j → p.names[j] ∉ p.names.take j := fun j h h' => by omega
     simp [this]
     exact h2
   | succ k ih =>
     intro i hi
     have h : i < p.names.length := by omega
     have nx := ih (i + 1) (by omega)
     push_cast at nx
     rw [eq_r05_RightPat_5h]
     have sl : dSlice 1 (encStrs p.names) none (some (.int .i64 (i : Int))) = some (encStrs (p.names.take i)) := dSlice_pre (by omega) 1
     simp [h, sl, dIdx_strs h, sp_r05_Has (p.names.take i) (by simp; omega), dAdd1 (show i < 9223372036854775807 by omega), nx]
     by_cases hm : p.names[i] ∈ p.names.take i
     ·simp only [hasS_iff.2 hm, if_true]
      congr 2
      symm
      rw [decide_eq_false_iff_not]
      exact fun hh => hh i h (Nat.le_refl _) hm
     ·have hm' : ¬ (hasS (p.names.take i) p.names[i] = true) := fun h => hm (hasS_iff.1 h)
      have hm'' : hasS (p.names.take i) p.names[i] = false := by simpa using hm'
      simp only [hm'', Bool.false_eq_true, if_false]
      congr 2
      rw [decide_eq_decide]
      constructor
      ·intro hh j hj hij
       rcases Nat.lt_or_ge i j with h1 | h1
       ·exact hh j hj h1
       ·have : i = j := by omega
        subst this
        exact hm
      ·intro hh j hj hij
       exact hh j hj (by omega)
  have l0 := loop p.names.length 0 (by omega)
  simp only [Int.natCast_zero, Int.ofNat_zero, Int.cast_ofNat_Int] at l0
  rw [l0]
  congr 2
  rw [decide_eq_decide, ← nodup_scan]
  simp
theorem ite_andS (a b : Bool) : (if a = true then some (DV.bool b) else some (DV.bool false)) = some (DV.bool (a && b)) := by cases a <;> rfl
theorem sp_r05_SamePat (a : Pat) : a.thin = true → ∀ b : Pat, (run cfg).p F_r05_SamePat [a.enc, b.enc] = some (.bool (decide (a.bare = b.bare))) := by
 induction a using Pat.ind with
 | h a ih =>
   intro ha b
   have hb := a.thin_len ha
   refine call_r05_SamePat _ _ ?_
   rw [eq_r05_SamePat]
   simp
   by_cases h1 : a.kind = b.kind <;> simp [h1, Pat.ext_iff']
   by_cases h2 : a.name = b.name <;> simp [h2]
   by_cases h3 : a.n = b.n <;> simp [h3]
   by_cases h4 : a.s = b.s <;> simp [h4]
   by_cases h5 : a.kids.length = b.kids.length
   ·have loop := loop_twoB (l := a.kids.map Pat.bare) (m := b.kids.map Pat.bare) (by simpa using h5) (P := fun i => P_r05_SamePat_4h (run cfg) (.int .i64 i) a.enc b.enc)
     (by rw [eq_r05_SamePat_4h]; simp [h5])
     (fun i h => by
       have h : i < a.kids.length := by simpa using h
       have h' : i < b.kids.length := by omega
       rw [eq_r05_SamePat_4h]
       simp [h, h', dIdx_map h, dIdx_map h', Pat.eta, Pat.ag, ih _ (List.getElem_mem h) (Pat.thin_kid ha (List.getElem_mem h)), dAdd1 (show i < 9223372036854775807 by omega)])
    simp only [List.length_map, h5] at loop ⊢
    simp [loop]
   ·have : a.kids.map Pat.bare ≠ b.kids.map Pat.bare := fun h => h5 (by have := congrArg List.length h; simpa using this)
    simp [Int.ofNat_inj, h5, this]
theorem sp_r05_patAt (a : Pat) : a.thin = true → ∀ b : Pat, a.bare = b.bare → (run cfg).p F_r05_patAt [a.enc, b.enc] = some (.bool (decide (a = b))) := by
 induction a using Pat.ind with
 | h a ih =>
   intro ha b he
   have hb := a.thin_len ha
   rw [Pat.ext_iff'] at he
   simp at he
   obtain ⟨e1, e2, e3, e4, e5⟩ := he
   have h5 : a.kids.length = b.kids.length := by have := congrArg List.length e5; simpa using this
   refine call_r05_patAt _ _ ?_
   rw [eq_r05_patAt]
   simp [Pat.ext_iff', e1, e2, e3, e4]
   by_cases h1 : a.lo = b.lo <;> simp [h1]
   by_cases h2 : a.hi = b.hi <;> simp [h2]
   have loop := loop_twoB (l := a.kids) (m := b.kids) h5 (P := fun i => P_r05_patAt_4h (run cfg) (.int .i64 i) a.enc b.enc)
    (by rw [eq_r05_patAt_4h]; simp [h5])
    (fun i h => by
      have h' : i < b.kids.length := by omega
      have e6 : a.kids[i].bare = b.kids[i].bare := by
       have : (a.kids.map Pat.bare)[i]'(by simpa using h) = (b.kids.map Pat.bare)[i]'(by simpa using h') := by simp only [e5]
       simpa using this
      rw [eq_r05_patAt_4h]
      simp [h, h', dIdx_map h, dIdx_map h', Pat.eta, Pat.ag, ih _ (List.getElem_mem h) (Pat.thin_kid ha (List.getElem_mem h)) _ e6, dAdd1 (show i < 9223372036854775807 by omega)])
   simp [loop]
theorem sp_r05_Same (a : Ex) : a.fit → ∀ b : Ex, (run cfg).p F_r05_Same [a.enc, b.enc] = some (.bool (decide (a.bare = b.bare))) := by
 induction a using Ex.ind with
 | h a ih =>
   intro ha b
   have hk := big (Nat.le_of_lt ha.one.kids)
   have hp := big (Nat.le_of_lt ha.one.pats)
   refine call_r05_Same _ _ ?_
   rw [eq_r05_Same]
   simp
   by_cases h1 : a.kind = b.kind <;> simp [h1, Ex.ext_iff']
   by_cases h2 : a.name = b.name <;> simp [h2]
   by_cases h3 : a.arg = b.arg <;> simp [h3]
   by_cases h4 : a.n = b.n <;> simp [h4]
   by_cases h6 : a.s = b.s <;> simp [h6]
   by_cases h7 : a.op = b.op <;> simp [h7]
   by_cases h8 : a.pats.length = b.pats.length
   ·by_cases h5 : a.kids.length = b.kids.length
    ·have loop := loop_twoB (l := a.kids.map Ex.bare) (m := b.kids.map Ex.bare) (by simpa using h5) (P := fun i => P_r05_Same_11h (run cfg) (.int .i64 i) a.enc b.enc)
      (by rw [eq_r05_Same_11h]; simp [h5])
      (fun i h => by
        have h : i < a.kids.length := by simpa using h
        have h' : i < b.kids.length := by omega
        rw [eq_r05_Same_11h]
        simp [h, h', dIdx_map h, dIdx_map h', Ex.eta, Ex.ag, ih _ (List.getElem_mem h) (ha.kid (List.getElem_mem h)), dAdd1 (show i < 9223372036854775807 by omega)])
     have loop2 := loop_two (l := a.pats.map Pat.bare) (m := b.pats.map Pat.bare) (by simpa using h8) (P := fun i => P_r05_Same_6h (run cfg) (.int .i64 i) a.enc b.enc) (y := .bool (decide (a.kids.map Ex.bare = b.kids.map Ex.bare))) (n := .bool false)
      (by rw [eq_r05_Same_6h]; simp [h8, loop])
      (fun i h => by
        have h : i < a.pats.length := by simpa using h
        have h' : i < b.pats.length := by omega
        rw [eq_r05_Same_6h]
        simp [h, h', dIdx_map h, dIdx_map h', Pat.eta, Pat.ag, sp_r05_SamePat _ (Pat.fit_thin (ha.one.pat _ (List.getElem_mem h))), dAdd1 (show i < 9223372036854775807 by omega)])
     simp only [h5, h8]
     simp [eq_r05_Same_3, Ty.eta, Ty.ag, sp_r03_Same _ ha.one.a, sp_r03_Same _ ha.one.b]
     by_cases h9 : a.a = b.a <;> simp [h9]
     by_cases h10 : a.b = b.b <;> simp [h10, loop2]
     by_cases h11 : a.pats.map Pat.bare = b.pats.map Pat.bare <;> simp [h11]
    ·have : a.kids.map Ex.bare ≠ b.kids.map Ex.bare := fun h => h5 (by have := congrArg List.length h; simpa using this)
     simp [Int.ofNat_inj, h5, h8, this]
   ·have : a.pats.map Pat.bare ≠ b.pats.map Pat.bare := fun h => h8 (by have := congrArg List.length h; simpa using this)
    simp [Int.ofNat_inj, h8, this]
theorem sp_r05_SameAt (a : Ex) : a.fit → ∀ b : Ex, (run cfg).p F_r05_SameAt [a.enc, b.enc] = some (.bool (decide (a = b))) := by
 induction a using Ex.ind with
 | h a ih =>
   intro ha b
   have hk := big (Nat.le_of_lt ha.one.kids)
   have hp := big (Nat.le_of_lt ha.one.pats)
   refine call_r05_SameAt _ _ ?_
   rw [eq_r05_SameAt]
   simp [Ex.eta, Ex.ag, sp_r05_Same a ha]
   by_cases he : a.bare = b.bare
   ·rw [if_pos he]
    rw [Ex.ext_iff'] at he
    simp at he
    obtain ⟨e1, e2, e3, e4, e5, e6, e7, e8, e9, e10⟩ := he
    have h5 : a.kids.length = b.kids.length := by have := congrArg List.length e10; simpa using this
    have h8 : a.pats.length = b.pats.length := by have := congrArg List.length e9; simpa using this
    have loop := loop_twoB (l := a.kids) (m := b.kids) h5 (P := fun i => P_r05_SameAt_9h (run cfg) (.int .i64 i) a.enc b.enc)
     (by rw [eq_r05_SameAt_9h]; simp [h5])
     (fun i h => by
       have h' : i < b.kids.length := by omega
       rw [eq_r05_SameAt_9h]
       simp [h, h', dIdx_map h, dIdx_map h', Ex.eta, Ex.ag, ih _ (List.getElem_mem h) (ha.kid (List.getElem_mem h)), dAdd1 (show i < 9223372036854775807 by omega)])
    have loop2 := loop_two (l := a.pats) (m := b.pats) h8 (P := fun i => P_r05_SameAt_4h (run cfg) (.int .i64 i) a.enc b.enc) (y := .bool (decide (a.kids = b.kids))) (n := .bool false)
     (by rw [eq_r05_SameAt_4h]; simp [h8, loop])
     (fun i h => by
       have h' : i < b.pats.length := by omega
       have e11 : a.pats[i].bare = b.pats[i].bare := by
        have : (a.pats.map Pat.bare)[i]'(by simpa using h) = (b.pats.map Pat.bare)[i]'(by simpa using h') := by simp only [e9]
        simpa using this
       rw [eq_r05_SameAt_4h]
       simp [h, h', dIdx_map h, dIdx_map h', Pat.eta, Pat.ag, sp_r05_patAt _ (Pat.fit_thin (ha.one.pat _ (List.getElem_mem h))) _ e11, dAdd1 (show i < 9223372036854775807 by omega)])
    simp [Ex.ext_iff', e1, e2, e3, e4, e5, e6, e7, e8]
    by_cases h1 : a.lo = b.lo <;> simp [h1]
    by_cases h2 : a.hi = b.hi <;> simp [h2, loop2]
    by_cases h11 : a.pats = b.pats <;> simp [h11]
   ·have : a ≠ b := fun h => he (by rw [h])
    rw [if_neg he]
    simp [this]
theorem Tm.bareF_enc (t : Tm) : t.bareF.enc = .agg [.int .i64 t.kind, .int .i64 (if kAt t.kind = true then t.lo else 0), .int .i64 (if kAt t.kind = true then t.hi else 0), .str (if kName t.kind = true then t.name else nil8), .str (if kArg t.kind = true then t.arg else nil8), .int .i64 (if kN t.kind = true then t.n else 0),
 .str (if kS t.kind = true then t.s else nil8), .int .i64 (if kOp t.kind = true then t.op else 0), .int .i64 (if kLabel t.kind = true then t.label else 0), .bool (if kLabel t.kind = true then t.neg else false), encInts (if kVars t.kind = true then t.vars else []),
 .int .i64 (if kA t.kind = true then t.a else .mk 0 0 []).kind, .int .i64 (if kA t.kind = true then t.a else .mk 0 0 []).n, .list 3 ((if kA t.kind = true then t.a else .mk 0 0 []).kids.map Ty.enc),
 .int .i64 (if kB t.kind = true then t.b else .mk 0 0 []).kind, .int .i64 (if kB t.kind = true then t.b else .mk 0 0 []).n, .list 3 ((if kB t.kind = true then t.b else .mk 0 0 []).kids.map Ty.enc),
 .list 3 ((if kArgs t.kind = true then t.args else []).map Ty.enc), .list 7 ((if kPats t.kind = true then t.pats else []).map Pat.enc), .list 20 []] := Tm.enc_eq t.bareF
theorem sp_r17_bare (t : Tm) (ht : t.fit1) : (run cfg).p F_r17_bare [t.enc] = some (.tup [t.bareF.enc, .int .i64 t.bareN]) := by
 have hp := big (Nat.le_of_lt ht.pats)
 refine call_r17_bare _ ?_
 have h25 : ¬ (t.kind = 1) → ¬ (t.kind = 2) → ¬ (t.kind = 3) → ¬ (t.kind = 4) → ¬ (t.kind = 5) → ¬ (t.kind = 6) → ¬ (t.kind = 7) → ¬ (t.kind = 8) → ¬ (t.kind = 9) → ¬ (t.kind = 10) →
  P_r17_bare_25 (run cfg) (.int .i64 t.kind) t.enc (.int .i64 t.kind) = some (.tup [t.bareF.enc, .int .i64 t.bareN]) := by
  intro k1 k2 k3 k4 k5 k6 k7 k8 k9 k10
  rw [eq_r17_bare_25]
  by_cases k11 : t.kind = 11
  ·simp [nil_str, Tm.bareF_enc, Tm.bareN, k11, kName, kArg, kN, kS, kOp, kAt, kVars, kArgs, kPats, kA, kB, kLabel, kKids, encInts]
  by_cases k12 : t.kind = 12
  ·simp [nil_str, Tm.bareF_enc, Tm.bareN, k12, kName, kArg, kN, kS, kOp, kAt, kVars, kArgs, kPats, kA, kB, kLabel, kKids, encInts]
  by_cases k13 : t.kind = 13
  ·simp [nil_str, Tm.bareF_enc, Tm.bareN, k13, kName, kArg, kN, kS, kOp, kAt, kVars, kArgs, kPats, kA, kB, kLabel, kKids, encInts]
  by_cases k14 : t.kind = 14
  ·have h1 : dBin .add (.int .i64 (t.pats.length : Int)) (.int .i64 1) = some (.int .i64 ((t.pats.length : Int) + 1)) := dAdd (by omega) (by omega)
   simp [nil_str, Tm.bareF_enc, Tm.bareN, k14, h1, kName, kArg, kN, kS, kOp, kAt, kVars, kArgs, kPats, kA, kB, kLabel, kKids, encInts]
  by_cases k15 : t.kind = 15
  ·simp [nil_str, Tm.bareF_enc, Tm.bareN, k15, kName, kArg, kN, kS, kOp, kAt, kVars, kArgs, kPats, kA, kB, kLabel, kKids, encInts]
  by_cases k16 : t.kind = 16
  ·simp [nil_str, Tm.bareF_enc, Tm.bareN, k16, kName, kArg, kN, kS, kOp, kAt, kVars, kArgs, kPats, kA, kB, kLabel, kKids, encInts]
  have hk : ¬ (1 ≤ t.kind ∧ t.kind ≤ 16) := by omega
  simp [nil_str, Tm.bareF_enc, Tm.bareN, hk, k1, k2, k3, k4, k5, k6, k7, k8, k9, k10, k11, k12, k13, k14, k15, k16, kName, kArg, kN, kS, kOp, kAt, kVars, kArgs, kPats, kA, kB, kLabel, kKids, encInts]
 rw [eq_r17_bare]
 simp only [nil_str]
 by_cases k1 : t.kind = 1
 ·simp [nil_str, Tm.bareF_enc, Tm.bareN, k1, kName, kArg, kN, kS, kOp, kAt, kVars, kArgs, kPats, kA, kB, kLabel, kKids, encInts]
 by_cases k2 : t.kind = 2
 ·simp [nil_str, Tm.bareF_enc, Tm.bareN, k2, kName, kArg, kN, kS, kOp, kAt, kVars, kArgs, kPats, kA, kB, kLabel, kKids, encInts]
 by_cases k3 : t.kind = 3
 ·simp [nil_str, Tm.bareF_enc, Tm.bareN, k3, kName, kArg, kN, kS, kOp, kAt, kVars, kArgs, kPats, kA, kB, kLabel, kKids, encInts]
 by_cases k4 : t.kind = 4
 ·simp [nil_str, Tm.bareF_enc, Tm.bareN, k4, kName, kArg, kN, kS, kOp, kAt, kVars, kArgs, kPats, kA, kB, kLabel, kKids, encInts]
 by_cases k5 : t.kind = 5
 ·simp [nil_str, Tm.bareF_enc, Tm.bareN, k5, kName, kArg, kN, kS, kOp, kAt, kVars, kArgs, kPats, kA, kB, kLabel, kKids, encInts]
 by_cases k6 : t.kind = 6
 ·simp [nil_str, Tm.bareF_enc, Tm.bareN, k6, kName, kArg, kN, kS, kOp, kAt, kVars, kArgs, kPats, kA, kB, kLabel, kKids, encInts]
 by_cases k7 : t.kind = 7
 ·simp [nil_str, Tm.bareF_enc, Tm.bareN, k7, kName, kArg, kN, kS, kOp, kAt, kVars, kArgs, kPats, kA, kB, kLabel, kKids, encInts]
 by_cases k8 : t.kind = 8
 ·simp [nil_str, Tm.bareF_enc, Tm.bareN, k8, kName, kArg, kN, kS, kOp, kAt, kVars, kArgs, kPats, kA, kB, kLabel, kKids, encInts]
 by_cases k9 : t.kind = 9
 ·simp [nil_str, Tm.bareF_enc, Tm.bareN, k9, kName, kArg, kN, kS, kOp, kAt, kVars, kArgs, kPats, kA, kB, kLabel, kKids, encInts]
 by_cases k10 : t.kind = 10
 ·simp [nil_str, Tm.bareF_enc, Tm.bareN, k10, kName, kArg, kN, kS, kOp, kAt, kVars, kArgs, kPats, kA, kB, kLabel, kKids, encInts]
 simp [k1, k2, k3, k4, k5, k6, k7, k8, k9, k10, h25]
def exPat (p : Pat) : Ex := .mk 14 0 0 nil8 nil8 0 nil8 0 (.mk 0 0 []) (.mk 0 0 []) [p] []
theorem exPat_fit {p : Pat} (h : p.fit) : (exPat p).fit := by
 have t0 : (Ty.mk 0 0 []).thin = true := by rw [Ty.thin_eq]; simp [lim]
 have t1 : (Ty.mk 0 0 []).vcount ≤ lim := by rw [Ty.vcount_eq]; simp [lim]
 refine .mk _ ⟨?_, ?_, ?_, t0, t0, t1, t1, ?_, ?_, ?_⟩ fun k hk => by simp [exPat] at hk
 ·show nil8.size ≤ _; exact Nat.zero_le _
 ·show nil8.size ≤ _; exact Nat.zero_le _
 ·show nil8.size ≤ _; exact Nat.zero_le _
 ·simp [exPat, lim]
 ·simpa [exPat] using h
 ·simp [exPat, lim]
theorem dSlice_one {α : Type} {e : α → DV} {sz : Nat} {l : List α} {i : Nat} (h : i < l.length) : dSlice sz (.list sz (l.map e)) (some (.int .i64 (i : Int))) (some (.int .i64 ((i + 1 : Nat) : Int))) = some (.list sz [e l[i]]) := by
 have e1 : ((l.map e).take (i + 1)).drop i = [e l[i]] := by
  rw [List.drop_take, show i + 1 - i = 1 by omega, List.drop_eq_getElem_cons (by simpa using h)]
  simp
 simp only [dSlice, bnd, ob_some', Int.natCast_nonneg, if_true, Int.toNat_natCast, List.length_map, true_and]
 rw [if_pos ⟨by omega, by omega⟩, e1]
theorem sp_r17_flat (a : Tm) (ha : a.fit1) (b : Tm) : (run cfg).p F_r17_flat [a.enc, b.enc] = some (.bool (a.flatB b)) := by
 have hv := big (Nat.le_of_lt ha.vars)
 have hp := big (Nat.le_of_lt ha.pats)
 refine call_r17_flat _ _ ?_
 have h3 : P_r17_flat_3 (run cfg) a.enc b.enc = some (.bool (decide (a.args = b.args) && decide (a.a = b.a) && decide (a.b = b.b) && decide (a.vars = b.vars) && decide (a.pats = b.pats))) := by
  rw [eq_r17_flat_3]
  simp [Ty.eta, Ty.ag, sp_r03_SameAll _ _ (Nat.le_of_lt ha.args) ha.arg1, sp_r03_Same _ ha.a, sp_r03_Same _ ha.b, Int.ofNat_inj]
  by_cases e1 : a.vars.length = b.vars.length
  ·by_cases e2 : a.pats.length = b.pats.length
   ·have l2 := loop_twoB (l := a.pats) (m := b.pats) e2 (P := fun i => P_r17_flat_11h (run cfg) (.int .i64 i) a.enc b.enc)
     (by rw [eq_r17_flat_11h]; simp [e2])
     (fun i h => by
       have h' : i < b.pats.length := by omega
       rw [eq_r17_flat_11h]
       have f := exPat_fit (ha.pat _ (List.getElem_mem h))
       have eA : ∀ p : Pat, DV.agg [.int .i64 14, .int .i64 0, .int .i64 0, .str ⟨#[]⟩, .str ⟨#[]⟩, .int .i64 0, .str ⟨#[]⟩, .int .i64 0, .int .i64 0, .int .i64 0, .list 3 [], .int .i64 0, .int .i64 0, .list 3 [], .list 7 [p.enc], .list 16 []] = (exPat p).enc := fun p => by
        rw [Ex.enc_eq]; rfl
       have d1 := dSlice_one (e := Pat.enc) (sz := 7) h
       have d2 := dSlice_one (e := Pat.enc) (sz := 7) h'
       simp only [Tm.proj18, dLen_list, List.length_map, ob_some', dBin_lss, Int.ofNat_lt, h, decide_true, oif_bool, if_true, dAdd1 (show i < 9223372036854775807 by omega), d1, d2, isCell_list, og_true', eA, sp_r05_SameAt _ f, dUn_not]
       have : (exPat a.pats[i] = exPat b.pats[i]) ↔ a.pats[i] = b.pats[i] := by simp [exPat]
       simp only [this]
       by_cases h9 : a.pats[i] = b.pats[i] <;> simp [h9])
    have l1 := loop_two (l := a.vars) (m := b.vars) e1 (P := fun i => P_r17_flat_6h (run cfg) (.int .i64 i) a.enc b.enc) (y := .bool (decide (a.pats = b.pats))) (n := .bool false)
     (by rw [eq_r17_flat_6h]; simp [e1, l2])
     (fun i h => by
       have h' : i < b.vars.length := by omega
       rw [eq_r17_flat_6h]
       simp [h, h', dIdx_ints h, dIdx_ints h', dAdd1 (show i < 9223372036854775807 by omega)])
    simp only [e1, e2, if_true, l1]
    by_cases h1 : a.args = b.args <;> by_cases h2 : a.a = b.a <;> by_cases h3 : a.b = b.b <;> by_cases h4 : a.vars = b.vars <;> simp [h1, h2, h3, h4]
   ·have : a.pats ≠ b.pats := fun h => e2 (by rw [h])
    simp [e1, e2, this]
  ·have : a.vars ≠ b.vars := fun h => e1 (by rw [h])
   simp [e1, this]
 rw [eq_r17_flat]
 simp [h3, Tm.flatB]
 by_cases h1 : a.kind = b.kind <;> simp [h1]
 by_cases h2 : a.lo = b.lo <;> simp [h2]
 by_cases h4 : a.hi = b.hi <;> simp [h4]
 by_cases h5 : a.name = b.name <;> simp [h5]
 by_cases h6 : a.arg = b.arg <;> simp [h6]
 by_cases h7 : a.n = b.n <;> simp [h7]
 by_cases h8 : a.s = b.s <;> simp [h8]
 by_cases h9 : a.op = b.op <;> simp [h9]
 by_cases h10 : a.label = b.label <;> simp [h10]
 by_cases h11 : a.neg = b.neg <;> simp [h11]
theorem sp_r17_own (t : Tm) (ht : t.fit1) : (run cfg).p F_r17_own [t.enc] = some (.bool t.one) := by
 have hv := big (Nat.le_of_lt ht.vars)
 have ha := big (Nat.le_of_lt ht.args)
 have hp := big (Nat.le_of_lt ht.pats)
 have hs : ∀ n : Nat, dBin .leq (.int .i64 (n : Int)) (.int .i64 200) = some (.bool (decide (n ≤ 200))) := fun n => by
  rw [dBin_leq]; congr 2; rw [decide_eq_decide]; omega
 have hz : ∀ n : Nat, dBin .gtr (.int .i64 (n : Int)) (.int .i64 0) = some (.bool (decide (0 < n))) := fun n => by
  rw [dBin_gtr]; congr 2; rw [decide_eq_decide]; omega
 refine call_r17_own _ ?_
 have l3 := loop_all (l := t.pats) (f := Pat.right) (P := fun i => P_r17_own_15h (run cfg) (.int .i64 i) t.enc) (y := .bool t.ownC) (n := .bool false)
  (by
    rw [eq_r17_own_15h]
    simp only [Tm.pj, dLen_list, List.length_map, ob_some', dBin_lss, Int.lt_irrefl, decide_false, oif_bool, ogd_bool, Bool.false_eq_true, if_false, dBin_eql, decide_eq_true_eq,
     sp_r01_Name _ ht.name, sp_r01_Name _ ht.arg, Ty.eta, Ty.ag, sp_r03_Right _ ht.a, sp_r03_Right _ ht.b, dLenS_str, hs, hz, dBin_geq, dBin_leq, Tm.ownC, ite_sb, ite_db]
    simp only [Bool.if_true_left, Bool.if_false_right, Bool.decide_eq_true, Bool.and_assoc])
  (fun i h => by
    rw [eq_r17_own_15h]
    have f := ht.pat _ (List.getElem_mem h)
    simp [h, dIdx_map h, Pat.eta, Pat.ag, sp_r05_RightPat _ f.size f.txt, dAdd1 (show i < 9223372036854775807 by omega)]
    cases t.pats[i].right <;> rfl)
 have l2 := loop_all (l := t.vars) (f := fun v => decide (0 ≤ v) && decide (v ≤ 1048576)) (P := fun i => P_r17_own_10h (run cfg) (.int .i64 i) t.enc) (y := .bool (t.pats.all Pat.right && t.ownC)) (n := .bool false)
  (by rw [eq_r17_own_10h]; simp only [Tm.proj10, dLen_ints, dBin_lss, Int.lt_irrefl, decide_false, ob_some', oif_bool, Bool.false_eq_true, if_false, l3, ite_andB])
  (fun i h => by
    rw [eq_r17_own_10h]
    simp [h, dIdx_ints h, dAdd1 (show i < 9223372036854775807 by omega)]
    by_cases h1 : t.vars[i] < 0
    ·simp [h1, show ¬ 0 ≤ t.vars[i] by omega]
    ·by_cases h2 : 1048576 < t.vars[i]
     ·simp [h1, h2, show ¬ t.vars[i] ≤ 1048576 by omega]
     ·simp [h1, h2, show 0 ≤ t.vars[i] by omega, show t.vars[i] ≤ 1048576 by omega])
 have l1 := loop_all (l := t.args) (f := Ty.right) (P := fun i => P_r17_own_5h (run cfg) (.int .i64 i) t.enc) (y := .bool (t.vars.all (fun v => decide (0 ≤ v) && decide (v ≤ 1048576)) && (t.pats.all Pat.right && t.ownC))) (n := .bool false)
  (by rw [eq_r17_own_5h]; simp only [Tm.proj17, dLen_list, List.length_map, dBin_lss, Int.lt_irrefl, decide_false, ob_some', oif_bool, Bool.false_eq_true, if_false, l2, ite_andB])
  (fun i h => by
    rw [eq_r17_own_5h]
    simp [h, dIdx_map h, Ty.eta, Ty.ag, sp_r03_Right _ (ht.arg1 _ (List.getElem_mem h)), dAdd1 (show i < 9223372036854775807 by omega)]
    cases t.args[i].right <;> rfl)
 have x0 : ∀ a b, dExt 0 (.tup [a, b]) = some a := fun _ _ => rfl
 have x1 : ∀ a b, dExt 1 (.tup [a, b]) = some b := fun _ _ => rfl
 rw [eq_r17_own]
 simp only [isAggN_Tm, og_true', Tm.pj, Tm.eta, Tm.ag, sp_r17_bare t ht, x0, x1, ob_some', dLen_list, List.length_map, dBin_neq, ogd_bool, oif_bool,
  sp_r17_flat _ (Tm.bareF_fit ht), dUn_not, l1]
 rw [← Tm.own_one]
 unfold Tm.lists
 by_cases h1 : t.bareN = (t.kids.length : Int)
 ·cases h2 : t.bareF.flatB t
  ·simp [h1]
  ·simp only [h1, decide_true, Bool.not_true, Bool.false_eq_true, if_false, ite_andB, ite_andS, Bool.true_and, Bool.and_assoc]
   rw [Bool.and_left_comm]
 ·simp [h1]
theorem sp_r17_Right (t : Tm) : t.fit → (run cfg).p F_r17_Right [t.enc] = some (.bool t.right) := by
 induction t using Tm.ind with
 | h t ih =>
   intro ht
   have hk := big (Nat.le_of_lt ht.one.kids)
   refine call_r17_Right _ ?_
   have loop := loop_allB (l := t.kids) (f := Tm.right) (P := fun i => P_r17_Right_4h (run cfg) (.int .i64 i) t.enc)
    (by rw [eq_r17_Right_4h]; simp)
    (fun i h => by
      rw [eq_r17_Right_4h]
      simp [h, dIdx_map h, Tm.eta, Tm.ag, ih _ (List.getElem_mem h) (ht.kid (List.getElem_mem h)), dAdd1 (show i < 9223372036854775807 by omega)]
      cases t.kids[i].right <;> rfl)
   rw [eq_r17_Right, Tm.right_eq]
   simp [Tm.eta, Tm.ag, sp_r17_own t ht.one, loop]
   cases t.one <;> simp
theorem zip_binds (vs : List Int) (ts : List Ty) (k : Nat) (h1 : k < vs.length) (h2 : k < ts.length) : (vs.take (k + 1)).zip (ts.take (k + 1)) = (vs.take k).zip (ts.take k) ++ [(vs[k], ts[k])] := by
 rw [List.take_succ_eq_append_getElem h1, List.take_succ_eq_append_getElem h2, List.zip_append (by simp; omega)]
 rfl
theorem sp_r16_Binds (vs : List Int) (ts : List Ty) (h : vs.length = ts.length) (hl : vs.length ≤ lim) : (run cfg).p F_r16_Binds [encInts vs, .list 3 (ts.map Ty.enc)] = some (encBnds (vs.zip ts)) := by
 have hb := big hl
 refine call_r16_Binds _ _ ?_
 rw [eq_r16_Binds]
 have loop : ∀ (m i : Nat), i + m = vs.length → P_r16_Binds_3h (run cfg) (encInts vs) (.list 3 (ts.map Ty.enc)) (encBnds ((vs.take i).zip (ts.take i))) (.int .i64 i) = some (encBnds (vs.zip ts)) := by
  intro m
  induction m with
  | zero =>
    intro i hi
    have : ¬ i < vs.length := by omega
    rw [List.take_of_length_le (by omega), List.take_of_length_le (by omega), eq_r16_Binds_3h]
    simp [this]
  | succ m ihm =>
    intro i hi
    have h1 : i < vs.length := by omega
    have h2 : i < ts.length := by omega
    have nx := ihm (i + 1) (by omega)
    rw [zip_binds _ _ _ h1 h2] at nx
    push_cast at nx
    have hap : dApp 4 (encBnds ((vs.take i).zip (ts.take i))) (.list 4 [.agg [.int .i64 vs[i], .int .i64 ts[i].kind, .int .i64 ts[i].n, .list 3 (ts[i].kids.map Ty.enc)]]) = some (encBnds ((vs.take i).zip (ts.take i) ++ [(vs[i], ts[i])])) :=
     dApp_map (e := encBnd) (sz := 4) (l := (vs.take i).zip (ts.take i)) (x := (vs[i], ts[i])) (by rw [List.length_zip, List.length_take, List.length_take]; omega)
    rw [eq_r16_Binds_3h]
    simp [h1, dIdx_ints h1, dIdx_map h2, hap, dAdd1 (show i < 9223372036854775807 by omega), nx]
 have := loop vs.length 0 (by omega)
 simp only [List.take_zero, List.zip_nil_left, Int.natCast_zero, Int.ofNat_zero, Int.cast_ofNat_Int] at this
 exact this
theorem dApp_strs {a b : List ByteArray} (h : a.length + b.length ≤ lim) : dApp 1 (encStrs a) (encStrs b) = some (encStrs (a ++ b)) := by
 show dApp 1 (.list 1 (a.map DV.str)) (.list 1 (b.map DV.str)) = _
 rw [dApp_list (by simpa using h)]
 simp [encStrs]
theorem sp_r17_Binds (t : Tm) (ht : t.fit1) (i : Nat) (hi : t.kind = 14 → i ≤ t.pats.length) : (run cfg).p F_r17_Binds [t.enc, .int .i64 i] = some (encStrs (t.binds i)) := by
 have hp := big (Nat.le_of_lt ht.pats)
 refine call_r17_Binds _ _ ?_
 have p5 : ¬ (t.kind = 9 ∨ (t.kind = 11 ∧ i = 1) ∨ (t.kind = 12 ∧ i = 1)) → P_r17_Binds_5 (run cfg) (.int .i64 i) t.enc = some (encStrs (t.binds i)) := by
  intro h
  rw [eq_r17_Binds_5]
  unfold Tm.binds
  rw [if_neg h]
  by_cases h1 : t.kind = 12
  ·simp [h1, encStrs_two]
  ·by_cases h2 : t.kind = 14
   ·by_cases h3 : 0 < i
    ·have hlt : i - 1 < t.pats.length := by have := hi h2; omega
     have e1 : dBin .sub (.int .i64 (i : Int)) (.int .i64 1) = some (.int .i64 ((i - 1 : Nat) : Int)) := by
      rw [dBin_sub, wrap_id (by omega) (by have := hi h2; omega)]
      congr 3
      omega
     have nm := sp_r05_Names t.pats[i - 1] (ht.pat _ (List.getElem_mem hlt)).size
     simp [h1, h2, h3, e1, dIdx_map hlt, Pat.eta, Pat.ag, nm, List.getElem?_eq_getElem hlt]
    ·simp [h1, h2, h3, encStrs_nil]
   ·simp [h1, h2, encStrs_nil]
 have one : t.kind = 9 ∨ (t.kind = 11 ∧ i = 1) ∨ (t.kind = 12 ∧ i = 1) → t.binds i = [t.name] := fun h => by unfold Tm.binds; rw [if_pos h]
 rw [eq_r17_Binds]
 have i1 : decide ((i : Int) = 1) = decide (i = 1) := by rw [decide_eq_decide]; omega
 by_cases h9 : t.kind = 9
 ·simp [h9, one (.inl h9), encStrs_one]
 ·by_cases h11 : t.kind = 11
  ·by_cases h1 : i = 1
   ·have o1 := one (.inr (.inl ⟨h11, h1⟩))
    subst h1
    simp [h11, o1, encStrs_one]
   ·have := p5 (by rintro (h | h | h); exact h9 h; exact h1 h.2; exact h1 h.2)
    simp [h11, h1, i1, this]
  ·by_cases h12 : t.kind = 12
   ·by_cases h1 : i = 1
    ·have o1 := one (.inr (.inr ⟨h12, h1⟩))
     subst h1
     simp [h12, o1, encStrs_one]
    ·have := p5 (by rintro (h | h | h); exact h9 h; exact h1 h.2; exact h1 h.2)
     simp [h12, h1, i1, this]
   ·have := p5 (by rintro (h | h | h); exact h9 h; exact h11 h.1; exact h12 h.1)
    simp [h9, h11, h12, this]
theorem sp_r05_Rise (l : List ByteArray) (s : ByteArray) (hl : l.length + 1 ≤ lim) : (run cfg).p F_r05_Rise [encStrs l, .str s] = some (encStrs (rise l s)) := by
 have hb := big hl
 refine call_r05_Rise _ _ ?_
 rw [eq_r05_Rise]
 have p6 : ∀ i, i ≤ l.length → P_r05_Rise_6 (run cfg) (encStrs l) (.str s) (.int .i64 (i : Int)) = some (encStrs (l.take i ++ s :: l.drop i)) := by
  intro i hi
  have e1 : dSlice 1 (encStrs l) none (some (.int .i64 (i : Int))) = some (encStrs (l.take i)) := dSlice_pre hi 1
  have e2 : dSlice 1 (encStrs l) (some (.int .i64 (i : Int))) none = some (encStrs (l.drop i)) := by simp [dSlice, bnd, hi, encStrs, List.map_drop, List.take_of_length_le]
  rw [eq_r05_Rise_6]
  simp only [e1, e2, ob_some', encStrs_nil, encStrs_one, isCell_str, og_true']
  rw [dApp_strs (by simp; omega)]
  simp only [ob_some']
  rw [dApp_strs (by simp; omega)]
  simp only [ob_some']
  rw [dApp_strs (by simp; omega)]
  simp
 have p4 : ∀ i, i ≤ l.length → (∀ (h : i < l.length), strLt l[i] s = false) → P_r05_Rise_4 (run cfg) (encStrs l) (.str s) (.int .i64 (i : Int)) = some (encStrs (l.take i ++ rise (l.drop i) s)) := by
  intro i hi hn
  rw [eq_r05_Rise_4]
  by_cases h : i < l.length
  ·have h0 := hn h
   rw [List.drop_eq_getElem_cons h]
   simp only [dLen_strs, ob_some', dBin_lss, Int.ofNat_lt, h, decide_true, ogd_bool, if_true, dIdx_strs h, isLeaf_str, og_true', dBin_seql, oif_bool, decide_eq_true_eq, rise, h0, Bool.false_eq_true, if_false]
   by_cases he : l[i] = s
   ·simp only [he, if_true]
    congr 2
    rw [← he, ← List.drop_eq_getElem_cons h, List.take_append_drop]
   ·simp only [he, if_false]
    rw [p6 i hi, List.drop_eq_getElem_cons h]
  ·have e : i = l.length := by omega
   subst e
   simp only [dLen_strs, ob_some', dBin_lss, Int.lt_irrefl, decide_false, ogd_bool, Bool.false_eq_true, if_false, List.drop_length, rise]
   rw [p6 _ (Nat.le_refl _), List.drop_length]
 have loop : ∀ (n i : Nat), i + n = l.length → P_r05_Rise_2h (run cfg) (encStrs l) (.str s) (.int .i64 (i : Int)) = some (encStrs (l.take i ++ rise (l.drop i) s)) := by
  intro n
  induction n with
  | zero =>
    intro i hi
    have e : i = l.length := by omega
    have := p4 i (by omega) (fun h => by omega)
    subst e
    rw [eq_r05_Rise_2h]
    simp only [dLen_strs, ob_some', dBin_lss, Int.lt_irrefl, decide_false, ogd_bool, Bool.false_eq_true, if_false]
    exact this
  | succ n ih =>
    intro i hi
    have h : i < l.length := by omega
    rw [eq_r05_Rise_2h]
    simp only [dLen_strs, ob_some', dBin_lss, Int.ofNat_lt, h, decide_true, ogd_bool, if_true, dIdx_strs h, isLeaf_str, og_true', dBin_slss, oif_bool]
    cases h0 : strLt l[i] s
    ·exact p4 i (by omega) (fun _ => h0)
    ·simp only [if_true]
     rw [dAdd1 (by omega)]
     simp only [ob_some']
     rw [ih (i + 1) (by omega)]
     rw [List.drop_eq_getElem_cons h]
     simp only [rise, h0, if_true]
     rw [List.take_succ_eq_append_getElem h, List.append_assoc]
     rfl
 have := loop l.length 0 (by omega)
 simpa using this
theorem sp_r17_free (t : Tm) : t.fit → t.right = true → ∀ (B l : List ByteArray), B.length + 2 * t.mass ≤ lim → l.length + t.size ≤ lim →
 (run cfg).p F_r17_free [t.enc, encStrs B, encStrs l] = some (encStrs ((t.fr B).foldl rise l)) := by
 induction t using Tm.ind with
 | h t ih =>
   intro ft rt B l hB hl
   have hk := big (Nat.le_of_lt ft.one.kids)
   have loop : ∀ (n j : Nat) (l : List ByteArray), j + n = t.kids.length → l.length + ((t.kids.drop j).map Tm.size).sum ≤ lim →
    P_r17_free_4h (run cfg) (encStrs B) (encStrs l) (.int .i64 (j : Int)) t.enc = some (encStrs ((Tm.frL t.binds j (t.kids.drop j) B).foldl rise l)) := by
    intro n
    induction n with
    | zero =>
      intro j l hj _
      have e : j = t.kids.length := by omega
      subst e
      rw [eq_r17_free_4h, List.drop_length, Tm.frL_nil]
      simp
    | succ n ihn =>
      intro j l hj hl
      have h : j < t.kids.length := by omega
      have hm := t.binds_len j
      have hmk := mem_sum (f := Tm.mass) (List.getElem_mem h)
      rw [List.drop_eq_getElem_cons h, List.map_cons, List.sum_cons] at hl
      have hbi := sp_r17_Binds t ft.one j (fun h14 => by have := Tm.kids14 rt h14; omega)
      have hkid := ih _ (List.getElem_mem h) (ft.kid (List.getElem_mem h)) (Tm.right_kid rt (List.getElem_mem h)) (B ++ t.binds j) l (by simp; omega) (by omega)
      have hlen : ((t.kids[j].fr (B ++ t.binds j)).foldl rise l).length ≤ l.length + t.kids[j].size := by
       have h1 := rises_len l (t.kids[j].fr (B ++ t.binds j))
       have h2 := t.kids[j].fr_len (B ++ t.binds j)
       omega
      have nx := ihn (j + 1) ((t.kids[j].fr (B ++ t.binds j)).foldl rise l) (by omega) (by omega)
      rw [eq_r17_free_4h]
      simp only [Tm.proj19, dLen_list, List.length_map, ob_some', dBin_lss, Int.ofNat_lt, h, decide_true, oif_bool, if_true, dIdx_map h, Tm.eta, Tm.ag, encStrs_nil]
      rw [dApp_strs (by simp; omega)]
      simp only [ob_some', List.nil_append]
      have ee : (DV.agg [proj 0 t.enc, proj 1 t.enc, proj 2 t.enc, proj 3 t.enc, proj 4 t.enc, proj 5 t.enc, proj 6 t.enc, proj 7 t.enc, proj 8 t.enc, proj 9 t.enc, proj 10 t.enc, proj 11 t.enc, proj 12 t.enc, proj 13 t.enc, proj 14 t.enc, proj 15 t.enc, proj 16 t.enc, proj 17 t.enc, proj 18 t.enc, proj 19 t.enc]) = t.enc := by simp [Tm.eta, Tm.ag]
      have ek : (DV.agg [proj 0 t.kids[j].enc, proj 1 t.kids[j].enc, proj 2 t.kids[j].enc, proj 3 t.kids[j].enc, proj 4 t.kids[j].enc, proj 5 t.kids[j].enc, proj 6 t.kids[j].enc, proj 7 t.kids[j].enc, proj 8 t.kids[j].enc, proj 9 t.kids[j].enc, proj 10 t.kids[j].enc, proj 11 t.kids[j].enc, proj 12 t.kids[j].enc, proj 13 t.kids[j].enc, proj 14 t.kids[j].enc, proj 15 t.kids[j].enc, proj 16 t.kids[j].enc, proj 17 t.kids[j].enc, proj 18 t.kids[j].enc, proj 19 t.kids[j].enc]) = t.kids[j].enc := by simp [Tm.eta, Tm.ag]
      simp only [Tm.proj19] at ee ek
      try rw [ee]
      try rw [ek]
      rw [hbi]
      simp only [ob_some']
      rw [dApp_strs (by omega)]
      simp only [ob_some', hkid]
      rw [dAdd1 (by omega)]
      simp only [ob_some', nx]
      rw [List.drop_eq_getElem_cons h, Tm.frL_cons, List.foldl_append]
   have hsz := t.size_eq
   have p3 : ∀ l : List ByteArray, l.length + (t.kids.map Tm.size).sum ≤ lim → P_r17_free_3 (run cfg) (encStrs B) (encStrs l) t.enc = some (encStrs ((Tm.frL t.binds 0 t.kids B).foldl rise l)) := by
    intro l hl
    rw [eq_r17_free_3]
    have := loop t.kids.length 0 l (by omega) (by simpa using hl)
    simpa using this
   refine call_r17_free _ _ _ ?_
   rw [eq_r17_free, Tm.fr_eq]
   have hh := sp_r05_Has B (by omega) t.name
   have hr := sp_r05_Rise l t.name (by omega)
   have p3a := p3 l (by omega)
   have p3b := p3 (rise l t.name) (by have := rise_len l t.name; omega)
   by_cases h1 : t.kind = 1
   ·cases h2 : hasS B t.name
    ·have h2' : (B.any fun x => decide (x = t.name)) = false := h2
     simp [h1, hh, h2, h2', hr, p3b]
    ·have h2' : (B.any fun x => decide (x = t.name)) = true := h2
     simp only [isAggN_Tm, og_true', Tm.proj0, Tm.proj3, dBin_eql, ob_some', ogd_bool, h1, decide_true, if_true, hh, h2, dUn_not, Bool.not_true, oif_bool, Bool.false_eq_true, if_false, p3a, h2', and_false, reduceCtorEq, List.nil_append]
   ·simp [h1, p3a]
theorem sp_r17_Free (t : Tm) (ft : t.fit) (rt : t.right = true) (hm : 2 * t.mass ≤ lim) : (run cfg).p F_r17_Free [t.enc] = some (encStrs t.free) := by
 refine call_r17_Free _ ?_
 rw [eq_r17_Free]
 have hs := t.size_mass
 have := sp_r17_free t ft rt [] [] (by simpa using hm) (by simp; omega)
 rw [← encStrs_nil] at this
 simp [Tm.eta, Tm.ag, this, Tm.free]
end Go.Su

/-
 What the reference's substitution gives, for a name that has variables.
-/
namespace Go.Su
set_option linter.unusedVariables false
set_option linter.unusedSimpArgs false
theorem Tm.kidsName {t : Tm} (h : t.right = true) (h1 : t.kind = 1) : t.kids = [] := by
 have o := Tm.right_one h
 unfold Tm.one at o
 simp only [Bool.and_eq_true, decide_eq_true_eq] at o
 have := o.1.1.1.1.1.2
 rw [h1] at this
 simp [kKids] at this
 exact this
theorem sp_r17_counts (s : ByteArray) (xs : List Int) (hxl : xs.length ≤ lim) (v : Tm) (t : Tm) : t.fit → t.right = true → 2 * t.mass ≤ lim → (run cfg).p F_r17_counts [t.enc, .str s, .int .i64 xs.length] = some (.bool (t.putV s xs v).isSome) := by
 induction t using Tm.ind with
 | h t ih =>
   intro ft rt hm
   have hk := big (Nat.le_of_lt ft.one.kids)
   have loop : ∀ (n j : Nat), j + n = t.kids.length → P_r17_counts_4h (run cfg) (.str s) (.int .i64 xs.length) (.int .i64 (j : Int)) t.enc = some (.bool (Tm.putVL t.binds j (t.kids.drop j) s xs v).isSome) := by
    intro n
    induction n with
    | zero =>
      intro j hj
      have e : j = t.kids.length := by omega
      subst e
      rw [eq_r17_counts_4h, List.drop_length, Tm.putVL_nil]
      simp only [Tm.proj19 t, dLen_list, List.length_map, ob_some', dBin_lss, Int.lt_irrefl, decide_false, oif_bool, Bool.false_eq_true, if_false, Option.isSome_some]
    | succ n ihn =>
      intro j hj
      have h : j < t.kids.length := by omega
      have hmk := Tm.mass_kid (List.getElem_mem h)
      have hbl := t.binds_len j
      have hbi := sp_r17_Binds t ft.one j (fun h14 => by have := Tm.kids14 rt h14; omega)
      have hct := sp_r05_Has (t.binds j) (by omega) s
      have hany : hasS (t.binds j) s = (t.binds j).any fun x => decide (x = s) := rfl
      have e1 : dIdx 20 (.list 20 (t.kids.map Tm.enc)) (.int .i64 (j : Int)) = some t.kids[j].enc := dIdx_map h
      have e4 : dBin .add (.int .i64 (j : Int)) (.int .i64 1) = some (.int .i64 ((j + 1 : Nat) : Int)) := dAdd1 (show j < 9223372036854775807 by omega)
      have f1 := ih _ (List.getElem_mem h) (ft.kid (List.getElem_mem h)) (Tm.right_kid rt (List.getElem_mem h)) (by omega)
      have nx := ihn (j + 1) (by omega)
      rw [List.drop_eq_getElem_cons h, Tm.putVL_cons, eq_r17_counts_4h]
      rw [hany] at hct
      simp only [tmx3]
      simp only [Tm.proj19 t, dLen_list, List.length_map, ob_some', dBin_lss, Int.ofNat_lt, h, decide_true, oif_bool, if_true, tmx3, hbi, hct, dUn_not, ogd_bool, e1, f1, e4, nx]
      cases hb : (t.binds j).any fun x => decide (x = s)
      ·simp only [Bool.not_false, if_true, Bool.false_eq_true, if_false]
       cases hp : t.kids[j].putV s xs v with
       | none => simp
       | some k' => simp
      ·simp
   have main := loop t.kids.length 0 (by omega)
   rw [List.drop_zero] at main
   have c0 : ((0 : Nat) : Int) = 0 := rfl
   rw [c0] at main
   refine call_r17_counts _ _ _ ?_
   rw [eq_r17_counts, Tm.putV_eq]
   try simp only [tmx3]
   simp only [isAggN_Tm, og_true', Tm.proj0 t, Tm.proj3 t, Tm.proj17 t, dBin_eql, ob_some', ogd_bool, main, dLen_list, List.length_map]
   by_cases h1 : t.kind = 1
   ·have hnil := Tm.kidsName rt h1
    have n1 : dBin .eql (.str t.name) (.str s) = some (.bool (decide (t.name = s))) := by simp
    rw [hnil, Tm.putVL_nil]
    by_cases h2 : t.name = s
    ·by_cases h3 : t.args.length = xs.length
     ·have n2 : dBin .neq (.int .i64 (t.args.length : Int)) (.int .i64 (xs.length : Int)) = some (.bool false) := by rw [h3]; simp
      simp [h1, h2, h3, n1, n2]
     ·have h3' : ¬ (t.args.length : Int) = (xs.length : Int) := by omega
      simp [h1, h2, h3, h3', n1]
    ·simp [h1, h2, n1]
   ·simp only [h1, decide_false, Bool.false_eq_true, if_false, Option.isSome_map]
theorem sp_r17_replaced (s : ByteArray) (xs : List Int) (hxl : xs.length ≤ lim) (v : Tm) (fv : v.fit) (rv : v.right = true) (t : Tm) : t.fit → t.right = true → 2 * t.mass ≤ lim → ∀ u, t.putV s xs v = some u → (run cfg).p F_r17_replaced [t.enc, .str s, encInts xs, v.enc] = some u.enc := by
 induction t using Tm.ind with
 | h t ih =>
   intro ft rt hm u hu
   have hk := big (Nat.le_of_lt ft.one.kids)
   have loop : ∀ (n j : Nat) (A ks : List Tm), j + n = t.kids.length → A.length = j → Tm.putVL t.binds j (t.kids.drop j) s xs v = some ks →
    P_r17_replaced_5h (run cfg) (.str s) (encInts xs) (.list 20 (A.map Tm.enc)) (.int .i64 (j : Int)) t.enc v.enc =
     some (t.withKids (A ++ ks)).enc := by
    intro n
    induction n with
    | zero =>
      intro j A ks hj hA hp
      have e : j = t.kids.length := by omega
      subst e
      rw [List.drop_length, Tm.putVL_nil] at hp
      simp only [Option.some.injEq] at hp
      subst hp
      rw [eq_r17_replaced_5h, List.append_nil]
      simp only [Tm.proj19 t, dLen_list, List.length_map, ob_some', dBin_lss, Int.lt_irrefl, decide_false, oif_bool, Bool.false_eq_true, if_false]
      rw [← Tm.withKids_enc]
      simp only [Tm.pj]
    | succ n ihn =>
      intro j A ks hj hA hp
      have h : j < t.kids.length := by omega
      have hmk := Tm.mass_kid (List.getElem_mem h)
      have hbl := t.binds_len j
      have hbi := sp_r17_Binds t ft.one j (fun h14 => by have := Tm.kids14 rt h14; omega)
      have hct := sp_r05_Has (t.binds j) (by omega) s
      have hany : hasS (t.binds j) s = (t.binds j).any fun x => decide (x = s) := rfl
      have e1 : dIdx 20 (.list 20 (t.kids.map Tm.enc)) (.int .i64 (j : Int)) = some t.kids[j].enc := dIdx_map h
      have e4 : dBin .add (.int .i64 (j : Int)) (.int .i64 1) = some (.int .i64 ((j + 1 : Nat) : Int)) := dAdd1 (show j < 9223372036854775807 by omega)
      have hap := fun x : Tm => dApp_map (e := Tm.enc) (sz := 20) (l := A) (x := x) (by have := ft.one.kids; omega)
      rw [List.drop_eq_getElem_cons h, Tm.putVL_cons] at hp
      rw [hany] at hct
      rw [eq_r17_replaced_5h]
      simp only [tmx3]
      simp only [Tm.proj19 t, dLen_list, List.length_map, ob_some', dBin_lss, Int.ofNat_lt, h, decide_true, oif_bool, if_true, tmx3, hbi, hct, e1, e4]
      cases hb : (t.binds j).any fun x => decide (x = s)
      ·rw [hb] at hp
       simp only [Bool.false_eq_true, if_false] at hp ⊢
       cases hk1 : t.kids[j].putV s xs v with
       | none => rw [hk1] at hp; cases hp
       | some k' =>
         rw [hk1, Option.bind_some] at hp
         cases hp2 : Tm.putVL t.binds (j + 1) (t.kids.drop (j + 1)) s xs v with
         | none => rw [hp2] at hp; cases hp
         | some m =>
           rw [hp2] at hp
           simp only [Option.map_some, Option.some.injEq] at hp
           subst hp
           have f1 := ih _ (List.getElem_mem h) (ft.kid (List.getElem_mem h)) (Tm.right_kid rt (List.getElem_mem h)) (by omega) _ hk1
           have nx := ihn (j + 1) (A ++ [k']) m (by omega) (by simp [hA]) hp2
           rw [List.append_assoc] at nx
           simp only [f1, ob_some', isAggN_Tm, og_true', tmx3, hap]
           exact nx
      ·rw [hb] at hp
       simp only [if_true, Option.bind_some] at hp ⊢
       cases hp2 : Tm.putVL t.binds (j + 1) (t.kids.drop (j + 1)) s xs v with
       | none => rw [hp2] at hp; cases hp
       | some m =>
         rw [hp2] at hp
         simp only [Option.map_some, Option.some.injEq] at hp
         subst hp
         have nx := ihn (j + 1) (A ++ [t.kids[j]]) m (by omega) (by simp [hA]) hp2
         rw [List.append_assoc] at nx
         simp only [hap, ob_some']
         exact nx
   have out : ∀ ks, Tm.putVL t.binds 0 t.kids s xs v = some ks → P_r17_replaced_3 (run cfg) (.str s) (encInts xs) t.enc v.enc = some (t.withKids ks).enc := by
    intro ks hp
    rw [eq_r17_replaced_3]
    have := loop t.kids.length 0 [] ks (by omega) rfl (by rw [List.drop_zero]; exact hp)
    exact this
   refine call_r17_replaced _ _ _ _ ?_
   rw [eq_r17_replaced]
   rw [Tm.putV_eq] at hu
   have n1 : dBin .eql (.str t.name) (.str s) = some (.bool (decide (t.name = s))) := by simp
   try simp only [tmx3]
   simp only [isAggN_Tm, og_true', Tm.proj0 t, Tm.proj3 t, Tm.proj17 t, dBin_eql, ob_some', ogd_bool, oif_bool, n1, tmx3]
   by_cases h1 : t.kind = 1
   ·rw [if_pos h1] at hu
    by_cases h2 : t.name = s
    ·rw [if_pos h2] at hu
     by_cases h3 : t.args.length = xs.length
     ·rw [if_pos h3] at hu
      simp only [Option.some.injEq] at hu
      subst hu
      have hB := sp_r16_Binds xs t.args h3.symm hxl
      have hT := sp_r17_Types v fv rv (xs.zip t.args) (by rw [List.length_zip]; omega)
      simp only [h1, h2, decide_true, if_true, hB, ob_some', hT, isAggN_Tm, og_true', tmx3]
     ·rw [if_neg h3] at hu; cases hu
    ·rw [if_neg h2] at hu
     simp only [Option.some.injEq] at hu
     subst hu
     have hnil := Tm.kidsName rt h1
     have := out [] (by rw [hnil, Tm.putVL_nil])
     simp only [h1, h2, decide_true, decide_false, if_true, Bool.false_eq_true, if_false, this]
     rw [← hnil, Tm.withKids_self]
   ·rw [if_neg h1] at hu
    cases hp : Tm.putVL t.binds 0 t.kids s xs v with
    | none => rw [hp] at hu; cases hu
    | some ks =>
      rw [hp] at hu
      simp only [Option.map_some, Option.some.injEq] at hu
      subst hu
      simp only [h1, decide_false, Bool.false_eq_true, if_false]
      exact out ks hp
theorem sp_r17_PutV (t v : Tm) (s : ByteArray) (xs : List Int) (hxl : xs.length ≤ lim) (ft : t.fit) (fv : v.fit) (hm : 2 * t.mass ≤ lim) (hv : 2 * v.mass ≤ lim) (hs : s.size ≤ 4294967000) :
 (run cfg).p F_r17_Put [t.enc, .str s, encInts xs, v.enc] = some (if t.right = true ∧ v.right = true ∧ nameB s = true ∧ v.free = [] ∧ rightVars xs = true then putOut (t.putV s xs v) else .tup [zeroTm.enc, .int .i64 1]) := by
 have hb := big hxl
 refine call_r17_Put _ _ _ _ ?_
 rw [eq_r17_Put]
 simp only [tmx3, isAggN_Tm, og_true', sp_r17_Right t ft, sp_r17_Right v fv, ob_some', dUn_not, ogd_bool, zeroTm_agg, sp_r01_Name s hs]
 cases h1 : t.right
 ·simp
 cases h2 : v.right
 ·simp
 cases h3 : nameB s
 ·simp
 have hF := sp_r17_Free v fv h2 hv
 by_cases h4 : v.free = []
 ·have loop : ∀ (n j : Nat), j + n = xs.length → P_r17_Put_4h (run cfg) (.str s) (encInts xs) (.int .i64 (j : Int)) t.enc v.enc =
   some (if rightVars (xs.drop j) = true then putOut (t.putV s xs v) else .tup [zeroTm.enc, .int .i64 1]) := by
   intro n
   induction n with
   | zero =>
     intro j hj
     have e : j = xs.length := by omega
     subst e
     rw [List.drop_length]
     have r0 : rightVars [] = true := rfl
     have hc := sp_r17_counts s xs hxl v t ft h1 hm
     rw [eq_r17_Put_4h]
     simp only [dLen_ints, dBin_lss, Int.lt_irrefl, decide_false, ob_some', oif_bool, Bool.false_eq_true, if_false, tmx3, hc, r0, if_true, dUn_not, zeroTm_agg]
     cases hp : t.putV s xs v with
     | none => simp [putOut]
     | some u =>
       have hr := sp_r17_replaced s xs hxl v fv h2 t ft h1 hm u hp
       simp only [Option.isSome_some, Bool.not_true, Bool.false_eq_true, if_false, hr, ob_some', isAggN_Tm, og_true', tmx3, putOut]
   | succ n ih =>
     intro j hj
     have h : j < xs.length := by omega
     have e1 := dIdx_ints (k := .i64) h
     have il : isLeaf (.int .i64 xs[j]) = true := rfl
     have e4 : dBin .add (.int .i64 (j : Int)) (.int .i64 1) = some (.int .i64 ((j + 1 : Nat) : Int)) := dAdd1 (show j < 9223372036854775807 by omega)
     have hd : rightVars (xs.drop j) = ((decide (0 ≤ xs[j]) && decide (xs[j] ≤ 1048576)) && rightVars (xs.drop (j + 1))) := by
      rw [List.drop_eq_getElem_cons h]
      rfl
     rw [hd, eq_r17_Put_4h]
     simp only [dLen_ints, dBin_lss, Int.ofNat_lt, h, decide_true, ob_some', oif_bool, if_true, e1, il, og_true', dBin_gtr, ogd_bool, zeroTm_agg, decide_eq_true_eq]
     by_cases a1 : xs[j] < 0
     ·have a1' : ¬ (0 ≤ xs[j]) := by omega
      simp [a1, a1']
     ·have a1' : 0 ≤ xs[j] := by omega
      by_cases a2 : 1048576 < xs[j]
      ·have a2' : ¬ (xs[j] ≤ 1048576) := by omega
       simp [a1, a1', a2, a2']
      ·have a2' : xs[j] ≤ 1048576 := by omega
       simp only [a1, a1', a2, a2', decide_true, Bool.true_and, if_false, e4]
       exact ih (j + 1) (by omega)
  have l0 := loop xs.length 0 (by omega)
  rw [List.drop_zero] at l0
  have c : ((0 : Nat) : Int) = 0 := rfl
  rw [c] at l0
  have z : ¬ ((0 : Int) < 0) := by omega
  have dz : dLen (encStrs []) = some (.int .i64 0) := rfl
  simp only [hF, h4, ob_some', dBin_gtr, Bool.not_true, Bool.false_eq_true, if_false, dz, z, decide_false, oif_bool, l0]
  cases rightVars xs <;> simp
 ·have : 0 < v.free.length := List.length_pos_iff.2 h4
  simp [hF, h4, this]
end Go.Su

/-
 The functions' specs that this claim needs.
-/
namespace Go.Su
set_option linter.unusedVariables false
set_option linter.unusedSimpArgs false
theorem sp_typ_Same (a : Ty) : a.thin = true → ∀ b : Ty, (run cfg).p F_typ_Same [a.enc, b.enc] = some (.bool (decide (a = b))) := by
 induction a using Ty.ind with
 | h a ih =>
   intro ha b
   have hb := a.thin_len ha
   refine call_typ_Same _ _ ?_
   rw [eq_typ_Same]
   simp
   by_cases h1 : a.kind = b.kind <;> simp [h1, Ty.ext_iff']
   by_cases h2 : a.n = b.n <;> simp [h2]
   by_cases h3 : a.kids.length = b.kids.length
   ·have loop := loop_two (l := a.kids) (m := b.kids) h3 (P := fun i => P_typ_Same_4h (run cfg) (.list 3 (a.kids.map Ty.enc)) (.int .i64 a.kids.length) (.int .i64 i) b.enc) (y := .bool true) (n := .bool false)
     (by rw [eq_typ_Same_4h]; simp [h3])
     (fun i h => by
       have h' : i < b.kids.length := by omega
       rw [eq_typ_Same_4h]
       simp [h, h', dIdx_map h, dIdx_map h', Ty.eta, Ty.ag, ih _ (List.getElem_mem h) (Ty.thin_kid ha (List.getElem_mem h)), dAdd1 (show i < 9223372036854775807 by omega)])
    simp only [h3] at loop ⊢
    simp [loop]
    by_cases h4 : a.kids = b.kids <;> simp [h4]
   ·have : a.kids ≠ b.kids := fun h => h3 (by rw [h])
    simp [Int.ofNat_inj, h3, this]
theorem sp_r03_Leaf (k : Int) : (run cfg).p F_r03_Leaf [.int .i64 k] = some (Ty.mk k 0 []).enc := by
 refine call_r03_Leaf _ ?_
 rw [eq_r03_Leaf]
 simp [Ty.enc]
theorem sp_term_Check (t : Tm) (ht : t.fit) : (run cfg).p F_term_Check [t.enc] = some (.int .i64 (if t.right = true then 0 else 1)) := by
 refine call_term_Check _ ?_
 rw [eq_term_Check]
 simp [Tm.eta, Tm.ag, sp_term_right t ht]
 cases t.right <;> rfl
theorem Tm.kid_size {t : Tm} {n : Nat} (h : t.size ≤ n) {k : Tm} (hk : k ∈ t.kids) : k.size ≤ n := by
 have := Tm.size_kid hk
 omega
theorem foldl_size (l : List Tm) : ∀ a : Nat, l.foldl (fun a k => a + k.size) a = a + (l.map Tm.size).sum := by
 induction l with
 | nil => intro a; simp
 | cons x l ih => intro a; simp [ih]; omega
theorem sp_term_Size (t : Tm) : t.size ≤ lim → (run cfg).p F_term_Size [t.enc] = some (.int .i64 t.size) := by
 induction t using Tm.ind with
 | h t ih =>
   intro ht
   have hb := big (Nat.le_trans (Nat.le_of_lt t.len_lt) ht)
   refine call_term_Size _ ?_
   rw [eq_term_Size]
   simp only [isAggN_Tm, og_true', Tm.proj19, dLen_list, List.length_map, ob_some']
   have loop := loop_fold (l := t.kids) (P := fun i (a : Nat) => P_term_Size_3h (run cfg) (.int .i64 a) (.list 20 (t.kids.map Tm.enc)) (.int .i64 t.kids.length) (.int .i64 i)) (g := fun a k => a + k.size) (fin := fun a => some (.int .i64 a))
    (I := fun i a => a + ((t.kids.drop i).map Tm.size).sum ≤ lim)
    (fun a _ => by rw [eq_term_Size_3h]; simp)
    (fun i h a ha => by
      rw [List.drop_eq_getElem_cons h, List.map_cons, List.sum_cons] at ha
      have := big ha
      refine ⟨?_, by omega⟩
      rw [eq_term_Size_3h]
      simp [h, dIdx_map h, Tm.eta, Tm.ag, ih _ (List.getElem_mem h) (Tm.kid_size ht (List.getElem_mem h)), dAdd1 (show i < 9223372036854775807 by omega)]
      rw [dAdd (by omega) (by omega)]
      simp) 1 (by have := Tm.size_eq t; simpa using (by omega : 1 + (t.kids.map Tm.size).sum ≤ lim))
   rw [foldl_size, ← Tm.size_eq] at loop
   exact loop
theorem sp_r17_Same (a : Tm) : a.fit → ∀ b : Tm, (run cfg).p F_r17_Same [a.enc, b.enc] = some (.bool (decide (a = b))) := by
 induction a using Tm.ind with
 | h a ih =>
   intro ha b
   have hk := big (Nat.le_of_lt ha.one.kids)
   refine call_r17_Same _ _ ?_
   rw [eq_r17_Same]
   have e : decide (a = b) = (a.flatB b && decide (a.kids = b.kids)) := by
    rw [Bool.eq_iff_iff]
    simp only [decide_eq_true_eq, Bool.and_eq_true]
    exact Tm.flatB_iff.symm
   simp [Tm.eta, Tm.ag, sp_r17_flat a ha.one b, e]
   cases h1 : a.flatB b
   ·simp
   ·by_cases h5 : a.kids.length = b.kids.length
    ·have loop := loop_twoB (l := a.kids) (m := b.kids) h5 (P := fun i => P_r17_Same_4h (run cfg) (.int .i64 i) a.enc b.enc)
      (by rw [eq_r17_Same_4h]; simp [h5])
      (fun i h => by
        have h' : i < b.kids.length := by omega
        rw [eq_r17_Same_4h]
        simp [h, h', dIdx_map h, dIdx_map h', Tm.eta, Tm.ag, ih _ (List.getElem_mem h) (ha.kid (List.getElem_mem h)), dAdd1 (show i < 9223372036854775807 by omega)])
     simp [h5, loop]
    ·have : a.kids ≠ b.kids := fun h => h5 (by rw [h])
     simp [Int.ofNat_inj, h5, this]
theorem sp_eqf_Ty (l m : List Ty) (hl : l.length ≤ lim) (ht : ∀ t ∈ l, t.thin = true) (sg : List SObj) :
 (run cfg).r F_slices_EqualFunc__api_Type__api_Type_api_Type_api_Type [(.list 3 (l.map Ty.enc), .val), (.list 3 (m.map Ty.enc), .val), (.undef, .fn F_typ_Same [])] sg = some ([.bool (decide (l = m))], sg) := by
 have hb := big hl
 refine call_slices_EqualFunc__api_Type__api_Type_api_Type_api_Type _ _ _ ?_
 rw [eq_slices_EqualFunc__api_Type__api_Type_api_Type_api_Type]
 by_cases h5 : l.length = m.length
 ·have loop := loop_two (l := l) (m := m) h5 (P := fun i => P_slices_EqualFunc__api_Type__api_Type_api_Type_api_Type_4h (run cfg) (.list 3 (m.map Ty.enc)) (.list 3 (l.map Ty.enc)) (.int .i64 l.length) (.int .i64 i) sg) (y := ([.bool true], sg)) (n := ([.bool false], sg))
   (by rw [eq_slices_EqualFunc__api_Type__api_Type_api_Type_api_Type_4h]; simp)
   (fun i h => by
     have h' : i < m.length := by omega
     rw [eq_slices_EqualFunc__api_Type__api_Type_api_Type_api_Type_4h]
     simp [h, h', dIdx_map h, dIdx_map h', Ty.eta, Ty.ag, sp_typ_Same _ (ht _ (List.getElem_mem h)), dAdd1 (show i < 9223372036854775807 by omega)])
  simp [h5] at loop ⊢
  simp only [← h5] at loop ⊢
  rw [loop]
  by_cases e : l = m <;> simp [e]
 ·have : l ≠ m := fun h => h5 (by rw [h])
  simp [Int.ofNat_inj, h5, this]
theorem sp_eqf_Pat (l m : List Pat) (hl : l.length ≤ lim) (ht : ∀ t ∈ l, ∀ u, (run cfg).p F_term_samePat [t.enc, u.enc] = some (.bool (decide (t = u)))) (sg : List SObj) :
 (run cfg).r F_slices_EqualFunc__api_Pat__api_Pat_api_Pat_api_Pat [(.list 7 (l.map Pat.enc), .val), (.list 7 (m.map Pat.enc), .val), (.undef, .fn F_term_samePat [])] sg = some ([.bool (decide (l = m))], sg) := by
 have hb := big hl
 refine call_slices_EqualFunc__api_Pat__api_Pat_api_Pat_api_Pat _ _ _ ?_
 rw [eq_slices_EqualFunc__api_Pat__api_Pat_api_Pat_api_Pat]
 by_cases h5 : l.length = m.length
 ·have loop := loop_two (l := l) (m := m) h5 (P := fun i => P_slices_EqualFunc__api_Pat__api_Pat_api_Pat_api_Pat_4h (run cfg) (.list 7 (m.map Pat.enc)) (.list 7 (l.map Pat.enc)) (.int .i64 l.length) (.int .i64 i) sg) (y := ([.bool true], sg)) (n := ([.bool false], sg))
   (by rw [eq_slices_EqualFunc__api_Pat__api_Pat_api_Pat_api_Pat_4h]; simp)
   (fun i h => by
     have h' : i < m.length := by omega
     rw [eq_slices_EqualFunc__api_Pat__api_Pat_api_Pat_api_Pat_4h]
     simp [h, h', dIdx_map h, dIdx_map h', Pat.eta, Pat.ag, ht _ (List.getElem_mem h), dAdd1 (show i < 9223372036854775807 by omega)])
  simp [h5] at loop ⊢
  simp only [← h5] at loop ⊢
  rw [loop]
  by_cases e : l = m <;> simp [e]
 ·have : l ≠ m := fun h => h5 (by rw [h])
  simp [Int.ofNat_inj, h5, this]
theorem sp_eqf_Tm (l m : List Tm) (hl : l.length ≤ lim) (ht : ∀ t ∈ l, ∀ u, (run cfg).p F_term_Same [t.enc, u.enc] = some (.bool (decide (t = u)))) (sg : List SObj) :
 (run cfg).r F_slices_EqualFunc__api_Term__api_Term_api_Term_api_Term [(.list 20 (l.map Tm.enc), .val), (.list 20 (m.map Tm.enc), .val), (.undef, .fn F_term_Same [])] sg = some ([.bool (decide (l = m))], sg) := by
 have hb := big hl
 refine call_slices_EqualFunc__api_Term__api_Term_api_Term_api_Term _ _ _ ?_
 rw [eq_slices_EqualFunc__api_Term__api_Term_api_Term_api_Term]
 by_cases h5 : l.length = m.length
 ·have loop := loop_two (l := l) (m := m) h5 (P := fun i => P_slices_EqualFunc__api_Term__api_Term_api_Term_api_Term_4h (run cfg) (.list 20 (m.map Tm.enc)) (.list 20 (l.map Tm.enc)) (.int .i64 l.length) (.int .i64 i) sg) (y := ([.bool true], sg)) (n := ([.bool false], sg))
   (by rw [eq_slices_EqualFunc__api_Term__api_Term_api_Term_api_Term_4h]; simp)
   (fun i h => by
     have h' : i < m.length := by omega
     rw [eq_slices_EqualFunc__api_Term__api_Term_api_Term_api_Term_4h]
     simp [h, h', dIdx_map h, dIdx_map h', Tm.eta, Tm.ag, ht _ (List.getElem_mem h), dAdd1 (show i < 9223372036854775807 by omega)])
  simp [h5] at loop ⊢
  simp only [← h5] at loop ⊢
  rw [loop]
  by_cases e : l = m <;> simp [e]
 ·have : l ≠ m := fun h => h5 (by rw [h])
  simp [Int.ofNat_inj, h5, this]
theorem sp_slices_Equal (l m : List Int) (hl : l.length ≤ lim) : (run cfg).p F_slices_Equal__int_int [encInts l, encInts m] = some (.bool (decide (l = m))) := by
 have hb := big hl
 refine call_slices_Equal__int_int _ _ ?_
 rw [eq_slices_Equal__int_int]
 by_cases h5 : l.length = m.length
 ·have loop := loop_two (l := l) (m := m) h5 (P := fun i => P_slices_Equal__int_int_4h (run cfg) (encInts l) (encInts m) (.int .i64 l.length) (.int .i64 i)) (y := DV.bool true) (n := DV.bool false)
   (by rw [eq_slices_Equal__int_int_4h]; simp)
   (fun i h => by
     have h' : i < m.length := by omega
     rw [eq_slices_Equal__int_int_4h]
     simp [h, h', dIdx_ints h, dIdx_ints h', dAdd1 (show i < 9223372036854775807 by omega)])
  simp [h5] at loop ⊢
  simp only [← h5] at loop ⊢
  rw [loop]
  by_cases e : l = m <;> simp [e]
 ·have : l ≠ m := fun h => h5 (by rw [h])
  simp [Int.ofNat_inj, h5, this]
theorem sp_term_samePat (a : Pat) : a.thin = true → ∀ b : Pat, (run cfg).p F_term_samePat [a.enc, b.enc] = some (.bool (decide (a = b))) := by
 induction a using Pat.ind with
 | h a ih =>
   intro ha b
   have hb := a.thin_len ha
   have kids := sp_eqf_Pat a.kids b.kids (by unfold lim; omega) (fun t ht u => ih t ht (Pat.thin_kid ha ht) u) []
   refine call_term_samePat _ _ ?_
   rw [eq_term_samePat]
   simp [Pat.ext_iff', kids]
   by_cases h1 : a.kind = b.kind <;> simp [h1]
   by_cases h2 : a.lo = b.lo <;> simp [h2]
   by_cases h3 : a.hi = b.hi <;> simp [h3]
   by_cases h4 : a.name = b.name <;> simp [h4]
   by_cases h5 : a.n = b.n <;> simp [h5]
   by_cases h6 : a.s = b.s <;> simp [h6]
theorem sp_term_Same (a : Tm) : a.fit → ∀ b : Tm, (run cfg).p F_term_Same [a.enc, b.enc] = some (.bool (decide (a = b))) := by
 induction a using Tm.ind with
 | h a ih =>
   intro ha b
   have kids := fun sg => sp_eqf_Tm a.kids b.kids (Nat.le_of_lt ha.one.kids) (fun t ht u => ih t ht (ha.kid ht) u) sg
   have pats := fun sg => sp_eqf_Pat a.pats b.pats (Nat.le_of_lt ha.one.pats) (fun t ht u => sp_term_samePat t (Pat.fit_thin (ha.one.pat t ht)) u) sg
   have args := fun sg => sp_eqf_Ty a.args b.args (Nat.le_of_lt ha.one.args) ha.one.arg1 sg
   have vars := sp_slices_Equal a.vars b.vars (Nat.le_of_lt ha.one.vars)
   have sa := sp_typ_Same a.a ha.one.a b.a
   have sb := sp_typ_Same a.b ha.one.b b.b
   refine call_term_Same _ _ ?_
   rw [eq_term_Same]
   simp [Tm.ext_iff']
   by_cases h1 : a.kind = b.kind <;> simp [h1]
   by_cases h2 : a.lo = b.lo <;> simp [h2]
   by_cases h3 : a.hi = b.hi <;> simp [h3]
   by_cases h4 : a.name = b.name <;> simp [h4]
   by_cases h5 : a.arg = b.arg <;> simp [h5]
   by_cases h6 : a.n = b.n <;> simp [h6]
   by_cases h7 : a.s = b.s <;> simp [h7]
   by_cases h8 : a.op = b.op <;> simp [h8]
   by_cases h9 : a.label = b.label <;> simp [h9]
   by_cases h10 : a.neg = b.neg <;> simp [h10]
   rw [eq_term_Same_3]
   simp [vars, Ty.eta, Ty.ag, sa, sb, args, pats, kids]
   by_cases k1 : a.vars = b.vars <;> simp [k1]
   by_cases k2 : a.a = b.a <;> simp [k2]
   by_cases k3 : a.b = b.b <;> simp [k3]
   by_cases k4 : a.args = b.args <;> simp [k4]
   by_cases k5 : a.pats = b.pats <;> simp [k5]
theorem sp_keep_Texts (l m : List ByteArray) (hl : l.length ≤ lim) : (run cfg).p F_keep_Texts [encStrs l, encStrs m] = some (.bool (decide (l = m))) := by
 have hb := big hl
 refine call_keep_Texts _ _ ?_
 rw [eq_keep_Texts]
 by_cases h5 : l.length = m.length
 ·have loop := loop_two (l := l) (m := m) h5 (P := fun i => P_keep_Texts_4h (run cfg) (encStrs l) (encStrs m) (.int .i64 i)) (y := DV.bool true) (n := DV.bool false)
   (by rw [eq_keep_Texts_4h]; simp)
   (fun i h => by
     have h' : i < m.length := by omega
     rw [eq_keep_Texts_4h]
     simp [h, h', dIdx_strs h, dIdx_strs h', dAdd1 (show i < 9223372036854775807 by omega)])
  simp [h5] at loop ⊢
  rw [loop]
  by_cases e : l = m <;> simp [e]
 ·have : l ≠ m := fun h => h5 (by rw [h])
  simp [Int.ofNat_inj, h5, this]
def putBox (s : ByteArray) (v : Tm) : List (DV × Meta) :=
 [(.str s, .val), (.list 1 [], .val), (.int .i64 v.kind, .val), (.int .i64 v.lo, .val), (.int .i64 v.hi, .val), (.str v.name, .val), (.str v.arg, .val), (.int .i64 v.n, .val), (.str v.s, .val), (.int .i64 v.op, .val), (.int .i64 v.label, .val), (.bool v.neg, .val), (encInts v.vars, .val),
   (.int .i64 v.a.kind, .val), (.int .i64 v.a.n, .val), (.list 3 (v.a.kids.map Ty.enc), .val), (.int .i64 v.b.kind, .val), (.int .i64 v.b.n, .val), (.list 3 (v.b.kids.map Ty.enc), .val), (.list 3 (v.args.map Ty.enc), .val), (.list 7 (v.pats.map Pat.enc), .val), (.list 20 (v.kids.map Tm.enc), .val)]
theorem putBox_seg (s : ByteArray) (v : Tm) : ∃ e, segDat 2 20 (putBox s v) = some e ∧ DV.agg e = v.enc := ⟨_, rfl, by rw [Tm.enc_eq]⟩
theorem sp_term_in (s : ByteArray) (v : Tm) (t : Tm) : t.fit → t.right = true → 2 * t.mass ≤ lim → ∀ S : List SObj, sgBox S 0 = some (putBox s v) →
 ∃ (J : List SObj) (u : Tm) (b : Bool), (run cfg).r F_term_putting_in [(.undef, .ptr 0 0), (t.enc, .val)] S = some ([u.enc, .bool b], S ++ J) ∧ t.put0 s v = (if b = true then some u else none) := by
 induction t using Tm.ind with
 | h t ih =>
   intro ft rt hm S hS
   have hk := big (Nat.le_of_lt ft.one.kids)
   have loop : ∀ (n j : Nat) (cur : List Tm) (J : List SObj), j + n = t.kids.length → cur.length = t.kids.length → (∀ i : Nat, j ≤ i → cur[i]? = t.kids[i]?) →
    ∃ (J' : List SObj) (u : Tm) (b : Bool), inLoop t S.length t.kids.length j (S ++ .arr 20 (cur.map Tm.enc) :: J) = some ([u.enc, .bool b], S ++ J') ∧
      (Tm.put0L t.binds j (t.kids.drop j) s v).map (fun ks => t.withKids (cur.take j ++ ks)) = (if b = true then some u else none) := by
    intro n
    induction n with
    | zero =>
      intro j cur J hj hc _
      have e : j = t.kids.length := by omega
      subst e
      refine ⟨_, _, _, in_end t S J cur hc, ?_⟩
      rw [List.drop_length, Tm.put0L_nil]
      simp [List.take_of_length_le (Nat.le_of_eq hc)]
    | succ n ihn =>
      intro j cur J hj hc hcur
      have h : j < t.kids.length := by omega
      have h' : j < cur.length := by omega
      have hcj : cur[j] = t.kids[j] := by
       have := hcur j (Nat.le_refl _)
       rw [List.getElem?_eq_getElem h, List.getElem?_eq_getElem h'] at this
       simpa using this
      have hmk := Tm.mass_kid (List.getElem_mem h)
      have hbl := t.binds_len j
      have hbi := sp_term_binds t ft.one j (fun h14 => by have := Tm.kids14 rt h14; omega)
      have hct := sp_slices_ContainsS (t.binds j) (by omega) s
      have ee : (DV.agg [proj 0 t.enc, proj 1 t.enc, proj 2 t.enc, proj 3 t.enc, proj 4 t.enc, proj 5 t.enc, proj 6 t.enc, proj 7 t.enc, proj 8 t.enc, proj 9 t.enc, proj 10 t.enc, proj 11 t.enc, proj 12 t.enc, proj 13 t.enc, proj 14 t.enc, proj 15 t.enc, proj 16 t.enc, proj 17 t.enc, proj 18 t.enc, proj 19 t.enc]) = t.enc := by simp [Tm.eta, Tm.ag]
      have ek : ∀ k : Tm, (DV.agg [proj 0 k.enc, proj 1 k.enc, proj 2 k.enc, proj 3 k.enc, proj 4 k.enc, proj 5 k.enc, proj 6 k.enc, proj 7 k.enc, proj 8 k.enc, proj 9 k.enc, proj 10 k.enc, proj 11 k.enc, proj 12 k.enc, proj 13 k.enc, proj 14 k.enc, proj 15 k.enc, proj 16 k.enc, proj 17 k.enc, proj 18 k.enc, proj 19 k.enc]) = k.enc := fun k => by simp [Tm.eta, Tm.ag]
      have a1 : arrIdx 0 t.kids.length (.int .i64 (j : Int)) = some j := by
       show (if (0 : Int) ≤ (j : Int) ∧ (j : Int) < (t.kids.length : Int) then some (0 + (j : Int).toNat) else none) = some j
       rw [if_pos ⟨by omega, by omega⟩]
       simp
      have g1 : (cur.map Tm.enc)[j]? = some t.kids[j].enc := by rw [List.getElem?_map, List.getElem?_eq_getElem h', hcj]; rfl
      have cd : cellDat (putBox s v) 0 = some (.str s) := rfl
      rw [List.drop_eq_getElem_cons h, Tm.put0L_cons]
      by_cases hb : ((t.binds j).any fun x => decide (x = s)) = true
      ·obtain ⟨J', u, b, k1, k2⟩ := ihn (j + 1) cur J (by omega) hc (fun i hi => hcur i (by omega))
       refine ⟨J', u, b, ?_, ?_⟩
       ·rw [← k1]
        unfold inLoop
        rw [eq_term_putting_in_19h]
        simp only [dBin_lss, Int.ofNat_lt, h, decide_true, ob_some', oif_bool, if_true, a1, sgArr_app, g1, BEq.rfl, og_true', ee, hbi, sgBox_app hS, cd, hct, hb]
        rw [dAdd1 (by omega)]
        rfl
       ·rw [← k2, if_pos hb]
        simp only [Option.bind_some, Option.map_map]
        congr 1
        funext ks
        simp only [Function.comp_apply]
        rw [List.take_succ_eq_append_getElem h', hcj, List.append_assoc]
        rfl
      ·have hb' : ((t.binds j).any fun x => decide (x = s)) = false := Bool.eq_false_iff.2 hb
       obtain ⟨J1, u1, b1, f1, f2⟩ := ih _ (List.getElem_mem h) (ft.kid (List.getElem_mem h)) (Tm.right_kid rt (List.getElem_mem h)) (by omega) (S ++ .arr 20 (cur.map Tm.enc) :: J) (sgBox_app hS _)
       rw [if_neg hb, f2]
       cases b1
       ·refine ⟨.arr 20 (cur.map Tm.enc) :: J ++ J1, t, false, ?_, by simp⟩
        unfold inLoop
        rw [eq_term_putting_in_19h]
        simp only [dBin_lss, Int.ofNat_lt, h, decide_true, ob_some', oif_bool, if_true, a1, sgArr_app, g1, BEq.rfl, og_true', ee, ek, hbi, sgBox_app hS, cd, hct, hb', Bool.false_eq_true, if_false, f1, dExt, List.getElem?_cons_succ, List.getElem?_cons_zero, isAggN_Tm, dUn_not, Bool.not_false]
        rw [List.append_assoc]
       ·obtain ⟨J', u, b, k1, k2⟩ := ihn (j + 1) (cur.set j u1) (J ++ J1) (by omega) (by simpa using hc) (fun i hi => by rw [List.getElem?_set_ne (by omega)]; exact hcur i (by omega))
        refine ⟨J', u, b, ?_, ?_⟩
        ·rw [← k1]
         unfold inLoop
         rw [eq_term_putting_in_19h]
         simp only [dBin_lss, Int.ofNat_lt, h, decide_true, ob_some', oif_bool, if_true, a1, sgArr_app, g1, BEq.rfl, og_true', ee, ek, hbi, sgBox_app hS, cd, hct, hb', Bool.false_eq_true, if_false, f1, dExt, List.getElem?_cons_succ, List.getElem?_cons_zero, isAggN_Tm, dUn_not, Bool.not_true, List.append_assoc, List.cons_append, set_app]
         rw [dAdd1 (by omega)]
         simp only [ob_some', List.map_set]
         try rfl
        ·rw [← k2]
         simp only [if_true, Option.bind_some, Option.map_map]
         congr 1
         funext ks
         simp only [Function.comp_apply]
         rw [List.take_succ_eq_append_getElem (by simpa using h'), List.append_assoc, List.take_set_of_le (Nat.le_refl _)]
         simp
   have ee : (DV.agg [proj 0 t.enc, proj 1 t.enc, proj 2 t.enc, proj 3 t.enc, proj 4 t.enc, proj 5 t.enc, proj 6 t.enc, proj 7 t.enc, proj 8 t.enc, proj 9 t.enc, proj 10 t.enc, proj 11 t.enc, proj 12 t.enc, proj 13 t.enc, proj 14 t.enc, proj 15 t.enc, proj 16 t.enc, proj 17 t.enc, proj 18 t.enc, proj 19 t.enc]) = t.enc := by simp [Tm.eta, Tm.ag]
   by_cases h1 : t.kind = 1
   ·by_cases h2 : t.name = s
    ·by_cases h3 : t.args.length = 0
     ·refine ⟨[], v, true, call_term_putting_in _ _ _ ?_, by rw [Tm.put0_eq, if_pos h1, if_pos h2, if_pos h3]; rfl⟩
      obtain ⟨e, e1, e2⟩ := putBox_seg s v
      have cd0 : cellDat (putBox s v) 0 = some (.str s) := rfl
      have cd1 : cellDat (putBox s v) 1 = some (.list 1 []) := rfl
      rw [eq_term_putting_in]
      simp only [ee]
      simp [h1, h2, h3, hS, cd0, cd1, e1, e2, Tm.eta, Tm.ag]
     ·refine ⟨[], t, false, call_term_putting_in _ _ _ ?_, by rw [Tm.put0_eq, if_pos h1, if_pos h2, if_neg h3]; rfl⟩
      have cd0 : cellDat (putBox s v) 0 = some (.str s) := rfl
      have cd1 : cellDat (putBox s v) 1 = some (.list 1 []) := rfl
      have h3' : ¬ (t.args.length : Int) = 0 := by omega
      rw [eq_term_putting_in]
      simp only [ee]
      simp [h1, h2, h3, h3', hS, cd0, cd1, Tm.eta, Tm.ag]
    ·refine ⟨[], t, true, call_term_putting_in _ _ _ ?_, by rw [Tm.put0_eq, if_pos h1, if_neg h2]; rfl⟩
     have cd0 : cellDat (putBox s v) 0 = some (.str s) := rfl
     rw [eq_term_putting_in]
     simp only [ee]
     simp [h1, h2, hS, cd0, Tm.eta, Tm.ag]
   ·by_cases h2 : t.kids.length = 0
    ·have hnil : t.kids = [] := List.eq_nil_of_length_eq_zero h2
     refine ⟨[], t, true, call_term_putting_in _ _ _ ?_, ?_⟩
     ·rw [eq_term_putting_in]
      simp [h1, h2, Tm.eta, Tm.ag]
     ·rw [Tm.put0_eq, if_neg h1, hnil, Tm.put0L_nil]
      simp only [Option.map_some, if_true]
      rw [← hnil, Tm.withKids_self]
    ·obtain ⟨J, u, b, k1, k2⟩ := loop t.kids.length 0 t.kids [] (by omega) rfl (fun i _ => rfl)
     refine ⟨J, u, b, call_term_putting_in _ _ _ ?_, ?_⟩
     ·rw [eq_term_putting_in]
      have h2' : ¬ (t.kids.length : Int) = 0 := by omega
      have hle : t.kids.length ≤ lim := Nat.le_of_lt ft.one.kids
      simp only [isAggN_Tm, og_true', Tm.proj0, dBin_eql, ob_some', h1, decide_false, oif_bool, Bool.false_eq_true, if_false, Tm.proj19, dLen_list, List.length_map, h2', dList_list, BEq.rfl, Bool.true_and, hle, decide_true]
      exact k1
     ·rw [Tm.put0_eq, if_neg h1, ← k2]
      simp
theorem sp_term_For0 (t v : Tm) (s : ByteArray) (ft : t.fit) (rt : t.right = true) (hm : 2 * t.mass ≤ lim) : (run cfg).p F_term_For [t.enc, .str s, .list 1 [], v.enc] = some (putOut (t.put0 s v)) := by
 have ee : ∀ k : Tm, (DV.agg [proj 0 k.enc, proj 1 k.enc, proj 2 k.enc, proj 3 k.enc, proj 4 k.enc, proj 5 k.enc, proj 6 k.enc, proj 7 k.enc, proj 8 k.enc, proj 9 k.enc, proj 10 k.enc, proj 11 k.enc, proj 12 k.enc, proj 13 k.enc, proj 14 k.enc, proj 15 k.enc, proj 16 k.enc, proj 17 k.enc, proj 18 k.enc, proj 19 k.enc]) = k.enc := fun k => by simp [Tm.eta, Tm.ag]
 obtain ⟨J, u, b, h1, h2⟩ := sp_term_in s v t ft rt hm [.box (putBox s v)] rfl
 refine call_term_For _ _ _ _ ?_
 rw [eq_term_For]
 have h1' : (run cfg).r F_term_putting_in [(.undef, .ptr 0 0), (t.enc, .val)] [SObj.box [(.str s, .val), (.list 1 [], .val), (proj 0 v.enc, .val), (proj 1 v.enc, .val), (proj 2 v.enc, .val), (proj 3 v.enc, .val), (proj 4 v.enc, .val), (proj 5 v.enc, .val), (proj 6 v.enc, .val), (proj 7 v.enc, .val), (proj 8 v.enc, .val), (proj 9 v.enc, .val), (proj 10 v.enc, .val), (proj 11 v.enc, .val), (proj 12 v.enc, .val), (proj 13 v.enc, .val), (proj 14 v.enc, .val), (proj 15 v.enc, .val), (proj 16 v.enc, .val), (proj 17 v.enc, .val), (proj 18 v.enc, .val), (proj 19 v.enc, .val)]] = some ([u.enc, .bool b], [.box (putBox s v)] ++ J) := by
  rw [← h1]
  simp [putBox]
 simp only [ee, isAggN_Tm, og_true', isCell_str, isCell_list, h1', ob_some', dExt, List.getElem?_cons_succ, List.getElem?_cons_zero, dUn_not, oif_bool, h2, zeroTm_agg]
 cases b <;> simp [putOut]
theorem sp_term_Put0 (t v : Tm) (s : ByteArray) (ft : t.fit) (fv : v.fit) (hm : 2 * t.mass ≤ lim) (hv : 2 * v.mass ≤ lim) (hs : s.size ≤ lim) :
 (run cfg).p F_term_Put [t.enc, .str s, .list 1 [], v.enc] = some (if t.right = true ∧ v.right = true ∧ nameB s = true ∧ v.free = [] then putOut (t.put0 s v) else .tup [zeroTm.enc, .int .i64 1]) := by
 have ee : ∀ k : Tm, (DV.agg [proj 0 k.enc, proj 1 k.enc, proj 2 k.enc, proj 3 k.enc, proj 4 k.enc, proj 5 k.enc, proj 6 k.enc, proj 7 k.enc, proj 8 k.enc, proj 9 k.enc, proj 10 k.enc, proj 11 k.enc, proj 12 k.enc, proj 13 k.enc, proj 14 k.enc, proj 15 k.enc, proj 16 k.enc, proj 17 k.enc, proj 18 k.enc, proj 19 k.enc]) = k.enc := fun k => by simp [Tm.eta, Tm.ag]
 refine call_term_Put _ _ _ _ ?_
 rw [eq_term_Put]
 simp only [ee, isAggN_Tm, og_true', sp_term_right t ft, sp_term_right v fv, ob_some', dUn_not, ogd_bool, zeroTm_agg, sp_word_Name s hs]
 cases h1 : t.right
 ·simp
 cases h2 : v.right
 ·simp
 cases h3 : nameB s
 ·simp
 have hF := sp_term_Free v fv hv
 rw [if_pos h2] at hF
 by_cases h4 : v.free = []
 ·have hz := sp_term_For0 t v s ft h1 hm
  simp [hF, h4]
  rw [eq_term_Put_4h]
  simp [ee, Tm.eta, Tm.ag, hz]
  cases t.put0 s v <;> simp [putOut, dExt, Tm.eta, Tm.ag]
 ·have : 0 < v.free.length := List.length_pos_iff.2 h4
  simp [hF, h4, this]
def sx : ByteArray := ⟨#[120]⟩
def sy : ByteArray := ⟨#[121]⟩
def leafTm (k : Int) (s : ByteArray) : Tm := .mk k 0 0 s nil8 0 nil8 0 0 false [] (.mk 0 0 []) (.mk 0 0 []) [] [] []
def wkPair (y : Tm) : Tm := .mk 6 0 0 nil8 nil8 0 nil8 0 0 false [] (.mk 0 0 []) (.mk 0 0 []) [] [] [leafTm 1 sx, y]
def wkF (y : Tm) : Tm := .mk 9 0 0 sx nil8 0 nil8 0 0 false [] (.mk 1 0 []) (.mk 0 0 []) [] [] [wkPair y]
theorem wk_nameY : nameB sy = true := by decide +kernel
theorem wk_nameX : nameB sx = true := by decide +kernel
theorem wk_none : (Ty.mk 0 0 []).none = true := by simp [Ty.none]
theorem wk_int : (Ty.mk 1 0 []).right = true := right_leaf (by omega)
theorem wk_rightN {s : ByteArray} (h : nameB s = true) : (leafTm 1 s).right = true := by
 rw [Tm.right_eq]
 simp [leafTm, Tm.one, Tm.one1, Tm.one2, Tm.one3, Tm.one4, Tm.one5, Tm.lists, kOk, kKids, kName, kArg, kN, kS, kOp, kAt, kVars, kArgs, kPats, kA, kB, kLabel, namedB, typedB, nil8_size, wk_none, h]
theorem wk_rightU : (leafTm 5 nil8).right = true := by
 rw [Tm.right_eq]
 simp [leafTm, Tm.one, Tm.one1, Tm.one2, Tm.one3, Tm.one4, Tm.one5, Tm.lists, kOk, kKids, kName, kArg, kN, kS, kOp, kAt, kVars, kArgs, kPats, kA, kB, kLabel, namedB, typedB, nil8_size, wk_none]
theorem wk_rightF {y : Tm} (h : y.right = true) : (wkF y).right = true := by
 rw [Tm.right_eq]
 have h1 : (wkPair y).right = true := by
  rw [Tm.right_eq]
  simp [wkPair, Tm.one, Tm.one1, Tm.one2, Tm.one3, Tm.one4, Tm.one5, Tm.lists, kOk, kKids, kName, kArg, kN, kS, kOp, kAt, kVars, kArgs, kPats, kA, kB, kLabel, namedB, typedB, nil8_size, wk_none, h, wk_rightN wk_nameX]
 simp [wkF, Tm.one, Tm.one1, Tm.one2, Tm.one3, Tm.one4, Tm.one5, Tm.lists, kOk, kKids, kName, kArg, kN, kS, kOp, kAt, kVars, kArgs, kPats, kA, kB, kLabel, namedB, typedB, nil8_size, wk_none, wk_int, wk_nameX, h1]
theorem wk_right : (wkF (leafTm 1 sy)).right = true := wk_rightF (wk_rightN wk_nameY)
theorem wk_rightG : (wkF (leafTm 5 nil8)).right = true := wk_rightF wk_rightU
theorem wk_free : (wkF (leafTm 1 sy)).free = [sy] := by kernel_rfl
theorem wk_freeG : (wkF (leafTm 5 nil8)).free = [] := by kernel_rfl
theorem wk_freeU : (leafTm 5 nil8).free = [] := by kernel_rfl
theorem wk_putY : (wkF (leafTm 1 sy)).put0 sy (leafTm 5 nil8) = some (wkF (leafTm 5 nil8)) := by kernel_rfl
theorem wk_putX : (wkF (leafTm 1 sy)).put0 sx (leafTm 5 nil8) = some (wkF (leafTm 1 sy)) := by kernel_rfl
theorem wk_rightZ : zeroTm.right = false := by
 rw [Tm.right_eq]
 simp [zeroTm, Tm.one, kOk]
theorem wk_mass (y : Tm) (h : y.mass ≤ 10) : (wkF y).mass ≤ 100 := by
 simp [wkF, wkPair, leafTm, Tm.mass_eq, Ty.size_eq, nil8_size] at h ⊢
 have : sx.size = 1 := rfl
 omega
theorem wk_massY : (leafTm 1 sy).mass ≤ 10 := by
 have : sy.size = 1 := rfl
 simp [leafTm, Tm.mass_eq, Ty.size_eq, nil8_size, this]
theorem wk_massU : (leafTm 5 nil8).mass ≤ 10 := by simp [leafTm, Tm.mass_eq, Ty.size_eq, nil8_size]
theorem wk_massZ : zeroTm.mass ≤ 10 := by simp [zeroTm, Tm.mass_eq, Ty.size_eq, nil8_size]
theorem wk_size : (wkF (leafTm 1 sy)).size = 4 := by simp [wkF, wkPair, leafTm, Tm.size_eq]
theorem wk_ne : wkF (leafTm 5 nil8) ≠ wkF (leafTm 1 sy) := by
 intro h
 have := congrArg (fun t => (t.kids.map fun k => k.kids.map Tm.kind)) h
 simp [wkF, wkPair, leafTm] at this
theorem w_l17_wakes : (run cfg).p F_l17_wakes [] = some (.bool true) := by
 have m1 := wk_mass _ wk_massY
 have m2 := wk_mass _ wk_massU
 have m3 := wk_massU
 have m4 := wk_massZ
 have f1 : (wkF (leafTm 1 sy)).fit := Tm.fit_mass (by omega)
 have f2 : (wkF (leafTm 5 nil8)).fit := Tm.fit_mass (by omega)
 have f3 : (leafTm 5 nil8).fit := Tm.fit_mass (by omega)
 have f4 : zeroTm.fit := Tm.fit_mass (by omega)
 have p1 := sp_term_Put0 (wkF (leafTm 1 sy)) (leafTm 5 nil8) sy f1 f3 (by unfold lim; omega) (by unfold lim; omega) (by decide)
 rw [if_pos ⟨wk_right, wk_rightU, wk_nameY, wk_freeU⟩, wk_putY] at p1
 have p2 := sp_term_Put0 (wkF (leafTm 1 sy)) (leafTm 5 nil8) sx f1 f3 (by unfold lim; omega) (by unfold lim; omega) (by decide)
 rw [if_pos ⟨wk_right, wk_rightU, wk_nameX, wk_freeU⟩, wk_putX] at p2
 have c1 := sp_term_Check _ f1
 have c2 := sp_term_Check _ f4
 rw [if_pos wk_right] at c1
 rw [wk_rightZ] at c2
 have z1 := sp_term_Size (wkF (leafTm 1 sy)) (by rw [wk_size]; unfold lim; omega)
 rw [wk_size] at z1
 have e1 := sp_term_Free _ f1 (by unfold lim; omega)
 rw [if_pos wk_right, wk_free] at e1
 have e2 := sp_term_Free _ f2 (by unfold lim; omega)
 rw [if_pos wk_rightG, wk_freeG] at e2
 have s1 := sp_term_Same _ f1 (wkF (leafTm 1 sy))
 have s2 := sp_term_Same _ f2 (wkF (leafTm 1 sy))
 rw [decide_eq_false wk_ne] at s2
 have t1 := sp_keep_Texts [sy] [sy] (by unfold lim; decide)
 have ee : ∀ k : Tm, (DV.agg [proj 0 k.enc, proj 1 k.enc, proj 2 k.enc, proj 3 k.enc, proj 4 k.enc, proj 5 k.enc, proj 6 k.enc, proj 7 k.enc, proj 8 k.enc, proj 9 k.enc, proj 10 k.enc, proj 11 k.enc, proj 12 k.enc, proj 13 k.enc, proj 14 k.enc, proj 15 k.enc, proj 16 k.enc, proj 17 k.enc, proj 18 k.enc, proj 19 k.enc]) = k.enc := fun k => by simp [Tm.eta, Tm.ag]
 have n1 : ∀ s : ByteArray, (run cfg).p F_l17_name [.str s, .list 3 []] = some (leafTm 1 s).enc := fun s => by
  refine call_l17_name _ _ ?_
  rw [eq_l17_name, Tm.enc_eq]
  rfl
 have hx : (DV.str ⟨#[120]⟩) = .str sx := rfl
 have hy : (DV.str ⟨#[121]⟩) = .str sy := rfl
 have hE : (DV.agg [.int .i64 9, .int .i64 0, .int .i64 0, .str sx, .str ⟨#[]⟩, .int .i64 0, .str ⟨#[]⟩, .int .i64 0, .int .i64 0, .bool false, .list 1 [], .int .i64 1, .int .i64 0, .list 3 [], .int .i64 0, .int .i64 0, .list 3 [], .list 3 [], .list 7 [], .list 20 [.agg [.int .i64 6, .int .i64 0, .int .i64 0, .str ⟨#[]⟩, .str ⟨#[]⟩, .int .i64 0, .str ⟨#[]⟩, .int .i64 0, .int .i64 0, .bool false, .list 1 [], .int .i64 0, .int .i64 0, .list 3 [], .int .i64 0, .int .i64 0, .list 3 [], .list 3 [], .list 7 [], .list 20 [(leafTm 1 sx).enc, (leafTm 1 sy).enc]]]]) = (wkF (leafTm 1 sy)).enc := by
  rw [Tm.enc_eq (wkF _)]
  simp only [wkF, Tm.kids_mk, List.map_cons, List.map_nil, Tm.enc_eq (wkPair _)]
  rfl
 have hU : (DV.agg [.int .i64 5, .int .i64 0, .int .i64 0, .str ⟨#[]⟩, .str ⟨#[]⟩, .int .i64 0, .str ⟨#[]⟩, .int .i64 0, .int .i64 0, .bool false, .list 1 [], .int .i64 0, .int .i64 0, .list 3 [], .int .i64 0, .int .i64 0, .list 3 [], .list 3 [], .list 7 [], .list 20 []]) = (leafTm 5 nil8).enc := by
  rw [Tm.enc_eq]; rfl
 refine call_l17_wakes ?_
 rw [eq_l17_wakes]
 simp only [sp_r03_Leaf, ob_some', n1, hx, hy, isAggN_Tm, isAggN_Ty, og_true', Ty.proj0, Ty.proj1, Ty.proj2, Ty.kind_mk, Ty.n_mk, Ty.kids_mk, List.map_nil, hE, hU]
 simp only [p1, p2, putOut, ob_some', dExt, List.getElem?_cons_succ, List.getElem?_cons_zero, isAggN_Tm, og_true']
 rw [eq_l17_wakes_4]
 have hT : (DV.list 1 [.str sy]) = encStrs [sy] := rfl
 have d1 : dIdx 20 (DV.list 20 []) (.int .i64 0) = none := rfl
 have k1 : (wkF (leafTm 5 nil8)).kids.length = 1 := rfl
 simp only [ee]
 simp only [hE, zeroTm_agg, c1, c2, z1, e1, e2, s1, s2, hx, hy, hT, t1, ob_some', dBin_eql, ogd_bool, oif_bool, decide_true, if_true, Bool.false_eq_true, if_false, dLen_strs, List.length_nil, Tm.proj19, dLen_list, dUn_not, Bool.not_false, List.length_map, k1]
 simp
end Go.Su

/-
 The law TermPut answers true on data.
-/
namespace Go.Su
set_option linter.unusedVariables false
set_option linter.unusedSimpArgs false
theorem law_termput (t v : Tm) (s : ByteArray) (xs : List Int) (hm : t.mass + v.mass ≤ 1048576) (hs : s.size ≤ 1048576) (hx : xs.length ≤ 1048576) : (run cfg).p F_l17_TermPut [t.enc, v.enc, .str s, encInts xs] = some (.bool true) := by
 have ft : t.fit := Tm.fit_mass (by omega)
 have fv : v.fit := Tm.fit_mass (by omega)
 have zt : t.sized := Tm.sized_mass (by omega)
 have zv : v.sized := Tm.sized_mass (by omega)
 have hxl : xs.length ≤ lim := by unfold lim; omega
 obtain ⟨b, h1, h1'⟩ := sp_l17_Heavy3 [t, v] (by simp) (by simp [ft, fv]) (by simp [zt, zv])
 simp only [List.map_cons, List.map_nil] at h1
 have p1 := sp_term_PutV t v s xs hxl ft fv (by unfold lim; omega) (by unfold lim; omega) (by unfold lim; omega)
 have p2 := sp_r17_PutV t v s xs hxl ft fv (by unfold lim; omega) (by unfold lim; omega) (by omega)
 have x0 : ∀ a b, dExt 0 (.tup [a, b]) = some a := fun _ _ => rfl
 have x1 : ∀ a b, dExt 1 (.tup [a, b]) = some b := fun _ _ => rfl
 have fz : zeroTm.fit := Tm.fit_mass (by have := wk_massZ; omega)
 refine call_l17_TermPut _ _ _ _ ?_
 rw [eq_l17_TermPut]
 simp only [isAggN_Tm, og_true', tmx3, h1, ob_some', ogd_bool]
 by_cases hb : b = true
 ·subst hb
  simp only [if_true]
 have hb' : b = false := by simpa using hb
 subst hb'
 simp only [Bool.false_eq_true, if_false, dLenS_str, ob_some', dBin_gtr, ogd_bool, dLen_ints, oif_bool]
 split
 ·rfl
 split
 ·rfl
 have st := (h1' rfl).2 t (by simp)
 have out : ∃ (u : Tm) (e : Int), (run cfg).p F_term_Put [t.enc, .str s, encInts xs, v.enc] = some (.tup [u.enc, .int .i64 e]) ∧ (run cfg).p F_r17_Put [t.enc, .str s, encInts xs, v.enc] = some (.tup [u.enc, .int .i64 e]) ∧ u.fit := by
  rw [p1, p2]
  by_cases c : t.right = true ∧ v.right = true ∧ nameB s = true ∧ v.free = [] ∧ rightVars xs = true
  ·rw [if_pos c]
   cases hp : t.putV s xs v with
   | none => exact ⟨zeroTm, 8, rfl, rfl, fz⟩
   | some u => exact ⟨u, 0, rfl, rfl, Tm.putV_fit s xs v c.2.2.2.2 fv c.2.1 (by omega) t ft c.1 st u hp⟩
  ·rw [if_neg c]
   exact ⟨zeroTm, 1, rfl, rfl, fz⟩
 obtain ⟨u, e, q1, q2, fu⟩ := out
 have hS := sp_r17_Same u fu u
 rw [decide_eq_true rfl] at hS
 simp only [q1, q2, ob_some', x0, x1, isAggN_Tm, og_true', tmx3, dBin_eql, decide_true, ogd_bool, if_true, hS, w_l17_wakes]
end Go.Su
