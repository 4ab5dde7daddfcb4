/-
  The law TermOrder answers true on data.
-/
import Derived.Test.YtnjllcbmmmplcaaGreatF6
set_option linter.unusedVariables false
set_option linter.unusedSimpArgs false
namespace Go.Su
set_option linter.unusedVariables false
set_option linter.unusedSimpArgs false

theorem putOut_0 (o : Option Tm) : ∃ (u : Tm) (e : Int), putOut o = .tup [u.enc, .int .i64 e] ∧ (e = 0 ∨ e = 8) ∧ (e = 0 → o = some u) := by
  cases o with
  | none => exact ⟨zeroTm, 8, rfl, .inr rfl, by simp⟩
  | some u => exact ⟨u, 0, rfl, .inl rfl, by simp⟩

/-- What Put answers. -/
theorem sp_put_any (t v : Tm) (s : ByteArray) (ft : t.fit) (fv : v.fit) (hm : 2 * t.mass ≤ lim) (hv : 2 * v.mass ≤ lim) (hs : s.size ≤ lim) : ∃ (u : Tm) (e : Int), (run cfg).p F_term_Put [t.enc, .str s, .list 1 [], v.enc] = some (.tup [u.enc, .int .i64 e]) ∧ (e = 0 ∨ e = 8 ∨ e = 1) ∧
    (e = 0 → t.put0 s v = some u) ∧ (t.right = true → v.right = true → v.free = [] → (e = 0 → nameB s = true)) := by
  have h := sp_term_Put0 t v s ft fv hm hv hs
  by_cases hc : t.right = true ∧ v.right = true ∧ nameB s = true ∧ v.free = []
  · rw [if_pos hc] at h
    obtain ⟨u, e, h1, h2, h3⟩ := putOut_0 (t.put0 s v)
    rw [h1] at h
    exact ⟨u, e, h, by rcases h2 with h2 | h2; exact .inl h2; exact .inr (.inl h2), h3, fun _ _ _ _ => hc.2.2.1⟩
  · rw [if_neg hc] at h
    exact ⟨zeroTm, 1, h, .inr (.inr rfl), fun h => absurd h (by decide), fun _ _ _ h => absurd h (by decide)⟩

theorem order_end (e : Int) (h : e = 0 ∨ e = 8 ∨ e = 1) : P_l17_TermOrder_6 (run cfg) (.int .i64 e) = some (.bool true) := by
  rw [eq_l17_TermOrder_6]
  rcases h with rfl | rfl | rfl <;> simp [w_l17_wakes]

theorem law_termorder (t v w : Tm) (a b : ByteArray) (hm : t.mass + v.mass + w.mass + a.size + b.size ≤ 1048576) : (run cfg).p F_l17_TermOrder [t.enc, v.enc, w.enc, .str a, .str b] = some (.bool true) := by
  have ft : t.fit := Tm.fit_mass (by omega)
  have fv : v.fit := Tm.fit_mass (by omega)
  have fw : w.fit := Tm.fit_mass (by omega)
  have zt : t.sized := Tm.sized_mass (by omega)
  have zv : v.sized := Tm.sized_mass (by omega)
  have zw : w.sized := Tm.sized_mass (by omega)
  have ee : ∀ k : Tm, (DV.agg [proj 0 k.enc, proj 1 k.enc, proj 2 k.enc, proj 3 k.enc, proj 4 k.enc, proj 5 k.enc, proj 6 k.enc, proj 7 k.enc, proj 8 k.enc, proj 9 k.enc, proj 10 k.enc, proj 11 k.enc, proj 12 k.enc, proj 13 k.enc, proj 14 k.enc, proj 15 k.enc, proj 16 k.enc, proj 17 k.enc, proj 18 k.enc, proj 19 k.enc]) = k.enc := fun k => by simp [Tm.eta]
  obtain ⟨b1, h1, h1'⟩ := sp_l17_Heavy2 [t, v, w] (by simp) (by simp [ft, fv, fw]) (by simp [zt, zv, zw])
  simp only [List.map_cons, List.map_nil] at h1
  have r1 := sp_r17_Right t ft
  have r2 := sp_r17_Right v fv
  have r3 := sp_r17_Right w fw
  refine call_l17_TermOrder _ _ _ _ _ ?_
  rw [eq_l17_TermOrder]
  simp only [ee, isAggN_Tm, og_true', h1, ob_some', ogd_bool, r1, r2, r3, dUn_not, dLenS_str]
  cases b1
  rotate_left
  · simp
  have hz := h1' rfl
  simp only [List.map_cons, List.map_nil, List.sum_cons, List.sum_nil] at hz
  cases c1 : t.right
  · simp
  cases c2 : v.right
  · simp
  cases c3 : w.right
  · simp
  have f2 := sp_r17_Free v fv c2 (by unfold lim; omega)
  have f3 := sp_r17_Free w fw c3 (by unfold lim; omega)
  simp only [Bool.false_eq_true, if_false, Bool.not_true, f2, f3, ob_some', dLen_strs, dBin_gtr, ogd_bool, dBin_seql]
  by_cases d2 : v.free = []
  rotate_left
  · have : 0 < v.free.length := List.length_pos_iff.2 d2
    simp [this]
  by_cases d3 : w.free = []
  rotate_left
  · have : 0 < w.free.length := List.length_pos_iff.2 d3
    simp [d2, this]
  by_cases hab : a = b
  · simp [d2, d3, hab]
  by_cases l1 : (100 : Int) < (a.size : Int)
  · simp [d2, d3, hab, l1]
  by_cases l2 : (100 : Int) < (b.size : Int)
  · simp [d2, d3, hab, l1, l2]
  have m1 : 2 * t.mass ≤ lim := by unfold lim; omega
  have m2 : 2 * v.mass ≤ lim := by unfold lim; omega
  have m3 : 2 * w.mass ≤ lim := by unfold lim; omega
  have sa : a.size ≤ lim := by unfold lim; omega
  have sb : b.size ≤ lim := by unfold lim; omega
  obtain ⟨u1, e1, p1, q1, s1, n1⟩ := sp_put_any t v a ft fv m1 m2 sa
  obtain ⟨u2, e2, p2, q2, s2, n2⟩ := sp_put_any t w b ft fw m1 m3 sb
  simp [d2, d3, hab, l1, l2]
  rw [eq_l17_TermOrder_3]
  simp only [ee, p1, ob_some', dExt, List.getElem?_cons_succ, List.getElem?_cons_zero, isAggN_Tm, og_true']
  rw [eq_l17_TermOrder_4]
  simp only [ee, p2, ob_some', dExt, List.getElem?_cons_succ, List.getElem?_cons_zero, isAggN_Tm, og_true', dBin_neq, ogd_bool, oif_bool]
  by_cases z1 : e1 = 0
  rotate_left
  · simp [z1, order_end e1 q1]
  by_cases z2 : e2 = 0
  rotate_left
  · simp [z1, z2, order_end 0 (.inl rfl)]
  have g1 := s1 z1
  have g2 := s2 z2
  have na := n1 c1 c2 d2 z1
  have nb := n2 c1 c3 d3 z2
  -- both at once
  have ru1 := Tm.put0_right t a v c2 c1 _ g1
  have ru2 := Tm.put0_right t b w c3 c1 _ g2
  have mu1 := Tm.put0_mass t a v _ g1
  have mu2 := Tm.put0_mass t b w _ g2
  have k1 : t.size * v.mass ≤ 500 * v.mass := Nat.mul_le_mul_right _ (by omega)
  have k2 : t.size * w.mass ≤ 500 * w.mass := Nat.mul_le_mul_right _ (by omega)
  have fu1 : u1.fit := Tm.fit_mass (by omega)
  have fu2 : u2.fit := Tm.fit_mass (by omega)
  obtain ⟨x, hx⟩ := Tm.put0_both t a b v w d2 u1 u2 g1 g2
  have hcomm := Tm.put0_comm t a b v w d2 d3 hab
  rw [g1, g2] at hcomm
  simp only [Option.bind_some] at hcomm
  have o1 := sp_term_Put0 u1 w b fu1 fw (by unfold lim; omega) m3 sb
  have o2 := sp_term_Put0 u2 v a fu2 fv (by unfold lim; omega) m2 sa
  rw [if_pos ⟨ru1, c3, nb, d3⟩, hx] at o1
  rw [if_pos ⟨ru2, c2, na, d2⟩, ← hcomm, hx] at o2
  have fx : x.fit := Tm.put0_fit u1 b w fw fu1 _ hx
  have hs := sp_term_Same x fx x
  simp [z1, z2, o1, o2, putOut, dExt, Tm.eta, hs, w_l17_wakes]

end Go.Su
