/-
  Parts of the proof, merged: T31, QT32, T32, QT33, T33, QT34, T34, QT35, T35, QT36, T36, QT37, T37, QT38, T38, QT39, T39, QT40, T40, QT41, T41.
-/
import Derived.Test.YtgnkfmhkboliiaaGreatA3
import Derived.Test.YtgnkfmhkboliiaaGreatA4
import Derived.Test.YtgnkfmhkboliiaaGreatA5
set_option linter.unusedVariables false
set_option linter.unusedSimpArgs false
/-
 What the program's functions on expressions without types give: patterns held against values.
-/
namespace Go.Su
set_option linter.unusedVariables false
set_option linter.unusedSimpArgs false
def encBd (b : ByteArray × Ex) : DV := .agg [.str b.1, .int .i64 b.2.kind, .int .i64 b.2.lo, .int .i64 b.2.hi, .str b.2.name, .str b.2.arg, .int .i64 b.2.n, .str b.2.s, .int .i64 b.2.op, .int .i64 b.2.a.kind, .int .i64 b.2.a.n, .list 3 (b.2.a.kids.map Ty.enc), .int .i64 b.2.b.kind, .int .i64 b.2.b.n, .list 3 (b.2.b.kids.map Ty.enc), .list 7 (b.2.pats.map Pat.enc), .list 16 (b.2.kids.map Ex.enc)]
theorem Ex.own_n {t : Ex} (h : t.right = true) (k : ¬ (t.kind = 2 ∨ t.kind = 3)) : t.n = 0 := by
 have o := Ex.right_one h
 unfold Ex.one Ex.one1 Ex.one2 Ex.one3 at o
 simp only [Bool.and_eq_true] at o
 have := o.2.2.2.1.1
 simpa [eN, k] using this
theorem Ex.own_s {t : Ex} (h : t.right = true) (k : ¬ t.kind = 4) : t.s = nil8 := by
 have o := Ex.right_one h
 unfold Ex.one Ex.one1 Ex.one2 Ex.one3 Ex.one4 at o
 simp only [Bool.and_eq_true] at o
 have := o.2.2.2.2.1.1
 simpa [eS, k] using this
def Held (l : List (ByteArray × Ex)) (sg : List SObj) (p : Pat) (v : Ex) (R : Option (List DV × List SObj)) : Prop :=
 match p.fits v with
 | some m => m.length ≤ p.size ∧ R = some ([.list 17 ((l ++ m).map encBd), .bool true], sg)
 | none => ∃ l' : List (ByteArray × Ex), R = some ([.list 17 (l'.map encBd), .bool false], sg)
theorem sp_erase_matches (p : Pat) : p.pat = true → ∀ v : Ex, v.right = true → ∀ (l : List (ByteArray × Ex)) (sg : List SObj), l.length + p.size ≤ lim →
 Held l sg p v ((run cfg).r F_erase_matches [(p.enc, .val), (v.enc, .val), (.list 17 (l.map encBd), .own)] sg) := by
 induction p using Pat.ind with
 | h p ih =>
   intro hp v hv l sg hl
   have hsz := p.size_pos
   have call : ∀ {q : List DV × List SObj}, P_erase_matches (run cfg) p.enc v.enc (.list 17 (l.map encBd)) sg = some q → (run cfg).r F_erase_matches [(p.enc, .val), (v.enc, .val), (.list 17 (l.map encBd), .own)] sg = some q := fun h => call_erase_matches _ _ _ _ h
   have yes : ∀ {m : List (ByteArray × Ex)}, p.fits v = some m → m.length ≤ p.size → P_erase_matches (run cfg) p.enc v.enc (.list 17 (l.map encBd)) sg = some ([.list 17 ((l ++ m).map encBd), .bool true], sg) → Held l sg p v ((run cfg).r F_erase_matches [(p.enc, .val), (v.enc, .val), (.list 17 (l.map encBd), .own)] sg) := by
    intro m h1 h2 h3
    unfold Held
    rw [h1]
    exact ⟨h2, call h3⟩
   have no : ∀ {l' : List (ByteArray × Ex)}, p.fits v = none → P_erase_matches (run cfg) p.enc v.enc (.list 17 (l.map encBd)) sg = some ([.list 17 (l'.map encBd), .bool false], sg) → Held l sg p v ((run cfg).r F_erase_matches [(p.enc, .val), (v.enc, .val), (.list 17 (l.map encBd), .own)] sg) := by
    intro l' h1 h3
    unfold Held
    rw [h1]
    exact ⟨l', call h3⟩
   have hpo := hp
   rw [Pat.pat_eq, Bool.and_eq_true] at hpo
   have ho := hpo.1
   have hf := p.fits_eq v
   rw [eq_erase_matches] at yes no
   simp only [isAggN_Pat, isAggN_Ex, og_true', Pat.proj0, Pat.proj3, dBin_eql, ob_some', oif_bool] at yes no
   by_cases k1 : p.kind = 1
   ·rw [if_pos k1] at hf
    exact yes hf (by simp) (by simp [k1])
   rw [if_neg k1] at hf
   by_cases k2 : p.kind = 2
   ·rw [if_pos k2] at hf
    have ap := dApp_map (e := encBd) (sz := 17) (l := l) (x := (p.name, v)) (by omega)
    refine yes hf (by simp; omega) ?_
    simp only [k2, Int.reduceEq, decide_false, decide_true, Bool.false_eq_true, if_false, if_true, isCell_str, og_true', Ex.pj]
    rw [show (DV.list 17 [DV.agg [.str p.name, .int .i64 v.kind, .int .i64 v.lo, .int .i64 v.hi, .str v.name, .str v.arg, .int .i64 v.n, .str v.s, .int .i64 v.op, .int .i64 v.a.kind, .int .i64 v.a.n, .list 3 (v.a.kids.map Ty.enc), .int .i64 v.b.kind, .int .i64 v.b.n, .list 3 (v.b.kids.map Ty.enc), .list 7 (v.pats.map Pat.enc), .list 16 (v.kids.map Ex.enc)]]) = .list 17 [encBd (p.name, v)] from rfl, ap]
    rfl
   rw [if_neg k2] at hf
   unfold Pat.one at ho
   have flat : ∀ (c : Int), v.kind = c → p.kids = [] → c ≠ 5 → c ≠ 7 → P_erase_matches_21 (run cfg) (.list 17 (l.map encBd)) (.int .i64 c) p.enc v.enc sg = some ([.list 17 (l.map encBd), .bool (decide (v.n = p.n) && decide (v.s = p.s))], sg) := by
    intro c hc hk h5 h7
    rw [eq_erase_matches_21]
    simp only [Ex.proj0, Ex.proj5, Ex.proj6, Pat.proj4, Pat.proj5, Pat.proj6, hc, hk, List.map_nil, dBin_neq, dBin_eql, dBin_seql, dLen_list, List.length_nil, ob_some', oif_bool, ogd_bool, decide_true, Bool.not_true, Bool.false_eq_true, if_false, Int.natCast_zero, Int.ofNat_zero, Int.cast_ofNat_Int, if_true, h5, h7, decide_false]
    cases decide (v.n = p.n) <;> simp
   have unit : ∀ (c : Int), v.kind = c → p.kids = [] → c = 5 ∨ c = 7 → P_erase_matches_21 (run cfg) (.list 17 (l.map encBd)) (.int .i64 c) p.enc v.enc sg = some ([.list 17 (l.map encBd), .bool true], sg) := by
    intro c hc hk h57
    rw [eq_erase_matches_21]
    rcases h57 with rfl | rfl <;> simp [Ex.proj0, hc, hk]
   have other : ∀ (c : Int), v.kind ≠ c → P_erase_matches_21 (run cfg) (.list 17 (l.map encBd)) (.int .i64 c) p.enc v.enc sg = some ([.list 17 (l.map encBd), .bool false], sg) := by
    intro c hc
    rw [eq_erase_matches_21]
    simp [hc]
   have nil0 : l ++ [] = l := List.append_nil l
   by_cases k3 : p.kind = 3
   ·rw [if_pos k3] at hf
    have hk := Pat.kids0 hp (by omega)
    have ps : p.s = nil8 := by
     simp only [k3, Int.reduceEq, or_self, if_false, if_true, Bool.and_eq_true, decide_eq_true_eq] at ho
     exact ho.2
    by_cases hc : v.kind = 2
    ·have vs := Ex.own_s hv (by omega)
     have fl := flat 2 hc hk (by omega) (by omega)
     by_cases hn : v.n = p.n
     ·rw [if_pos ⟨hc, hn⟩] at hf
      refine yes hf (by simp) ?_
      simp only [k3, Int.reduceEq, decide_false, decide_true, Bool.false_eq_true, if_false, if_true, fl, nil0, hn, ps, vs, Bool.and_self]
     ·rw [if_neg (fun h => hn h.2)] at hf
      refine no (l' := l) hf ?_
      simp only [k3, Int.reduceEq, decide_false, decide_true, Bool.false_eq_true, if_false, if_true, fl, hn, Bool.false_and]
    ·rw [if_neg (fun h => hc h.1)] at hf
     refine no (l' := l) hf ?_
     simp only [k3, Int.reduceEq, decide_false, decide_true, Bool.false_eq_true, if_false, if_true, other 2 hc]
   rw [if_neg k3] at hf
   by_cases k4 : p.kind = 4
   ·rw [if_pos k4] at hf
    have hk := Pat.kids0 hp (by omega)
    have ps : p.s = nil8 := by
     simp only [k4, Int.reduceEq, or_self, if_false, if_true, Bool.and_eq_true, decide_eq_true_eq] at ho
     exact ho.2
    by_cases hc : v.kind = 3
    ·have vs := Ex.own_s hv (by omega)
     have fl := flat 3 hc hk (by omega) (by omega)
     by_cases hn : v.n = p.n
     ·rw [if_pos ⟨hc, hn⟩] at hf
      refine yes hf (by simp) ?_
      simp only [k4, Int.reduceEq, decide_false, decide_true, Bool.false_eq_true, if_false, if_true, fl, nil0, hn, ps, vs, Bool.and_self]
     ·rw [if_neg (fun h => hn h.2)] at hf
      refine no (l' := l) hf ?_
      simp only [k4, Int.reduceEq, decide_false, decide_true, Bool.false_eq_true, if_false, if_true, fl, hn, Bool.false_and]
    ·rw [if_neg (fun h => hc h.1)] at hf
     refine no (l' := l) hf ?_
     simp only [k4, Int.reduceEq, decide_false, decide_true, Bool.false_eq_true, if_false, if_true, other 3 hc]
   rw [if_neg k4] at hf
   by_cases k5 : p.kind = 5
   ·rw [if_pos k5] at hf
    have hk := Pat.kids0 hp (by omega)
    have pn : p.n = 0 := by
     simp only [k5, Int.reduceEq, or_self, if_false, if_true, Bool.and_eq_true, decide_eq_true_eq] at ho
     exact ho.2
    by_cases hc : v.kind = 4
    ·have vn := Ex.own_n hv (by omega)
     have fl := flat 4 hc hk (by omega) (by omega)
     by_cases hn : v.s = p.s
     ·rw [if_pos ⟨hc, hn⟩] at hf
      refine yes hf (by simp) ?_
      simp only [k5, Int.reduceEq, decide_false, decide_true, Bool.false_eq_true, if_false, if_true, fl, nil0, hn, pn, vn, Bool.and_self]
     ·rw [if_neg (fun h => hn h.2)] at hf
      refine no (l' := l) hf ?_
      simp only [k5, Int.reduceEq, decide_false, decide_true, Bool.false_eq_true, if_false, if_true, fl, hn, Bool.and_false]
    ·rw [if_neg (fun h => hc h.1)] at hf
     refine no (l' := l) hf ?_
     simp only [k5, Int.reduceEq, decide_false, decide_true, Bool.false_eq_true, if_false, if_true, other 4 hc]
   rw [if_neg k5] at hf
   by_cases k6 : p.kind = 6
   ·rw [if_pos k6] at hf
    have hk := Pat.kids0 hp (by omega)
    by_cases hc : v.kind = 5
    ·rw [if_pos hc] at hf
     refine yes hf (by simp) ?_
     simp only [k6, Int.reduceEq, decide_false, decide_true, Bool.false_eq_true, if_false, if_true, unit 5 hc hk (.inl rfl), nil0]
    ·rw [if_neg hc] at hf
     refine no (l' := l) hf ?_
     simp only [k6, Int.reduceEq, decide_false, decide_true, Bool.false_eq_true, if_false, if_true, other 5 hc]
   rw [if_neg k6] at hf
   by_cases k8 : p.kind = 8
   ·rw [if_pos k8] at hf
    have hk := Pat.kids0 hp (by omega)
    by_cases hc : v.kind = 7
    ·rw [if_pos hc] at hf
     refine yes hf (by simp) ?_
     simp only [k8, Int.reduceEq, decide_false, decide_true, Bool.false_eq_true, if_false, if_true, unit 7 hc hk (.inr rfl), nil0]
    ·rw [if_neg hc] at hf
     refine no (l' := l) hf ?_
     simp only [k8, Int.reduceEq, decide_false, decide_true, Bool.false_eq_true, if_false, if_true, other 7 hc]
   rw [if_neg k8] at hf
   have two : ∀ c : Int, v.kind = c → (c = 6 ∨ c = 8) → (p.kind = 7 ∧ v.kind = 6 ∨ p.kind = 9 ∧ v.kind = 8) → ∃ l', P_erase_matches_21 (run cfg) (.list 17 (l.map encBd)) (.int .i64 c) p.enc v.enc sg = some ([.list 17 (l'.map encBd), .bool (p.fits v).isSome], sg) ∧ ∀ m, p.fits v = some m → l' = l ++ m ∧ m.length ≤ p.size := by
    intro c hc hc68 hk
    rw [if_pos hk] at hf
    have v68 : v.kind = 6 ∨ v.kind = 8 := by omega
    have hlen := Ex.one_kids (Ex.right_one hv)
    have hl2 : v.kids.length = 2 := by
     rcases v68 with k | k <;> rw [k] at hlen <;> simp [eKids] at hlen <;> omega
    obtain ⟨a, b, hab⟩ : ∃ a b, v.kids = [a, b] := by
     match hvk : v.kids, hl2 with
     | [a, b], _ => exact ⟨a, b, rfl⟩
    have hpl : p.kids.length = 2 := by
     have k79 : p.kind = 7 ∨ p.kind = 9 := by omega
     have n1 : ¬ (p.kind = 1 ∨ p.kind = 6 ∨ p.kind = 8) := by omega
     simp only [n1, k2, k3, k4, k5, k79, if_false, if_true, Bool.and_eq_true, decide_eq_true_eq] at ho
     exact ho.1.1.1
    obtain ⟨f, g, hfg⟩ : ∃ f g, p.kids = [f, g] := by
     match hpk : p.kids, hpl with
     | [a, b], _ => exact ⟨a, b, rfl⟩
    have hp2 := hpo.2
    rw [hfg] at hp2
    simp only [List.all_cons, List.all_nil, Bool.and_true, Bool.and_eq_true] at hp2
    have psz := p.size_eq
    rw [hfg] at psz
    simp only [List.map_cons, List.map_nil, List.sum_cons, List.sum_nil] at psz
    rw [hfg, hab] at hf
    simp only [List.map_cons, List.map_nil] at hf
    have ra : a.right = true := Ex.right_kid hv (by rw [hab]; simp)
    have rb : b.right = true := Ex.right_kid hv (by rw [hab]; simp)
    have i1 := ih f (by rw [hfg]; simp) hp2.1 a ra l sg (by omega)
    have c5 : c ≠ 5 := by omega
    have c7 : c ≠ 7 := by omega
    rw [eq_erase_matches_21]
    have dp0 : dIdx 7 (.list 7 (p.kids.map Pat.enc)) (.int .i64 0) = some f.enc := by rw [hfg]; rfl
    have dp1 : dIdx 7 (.list 7 (p.kids.map Pat.enc)) (.int .i64 1) = some g.enc := by rw [hfg]; rfl
    have dv0 : dIdx 16 (.list 16 (v.kids.map Ex.enc)) (.int .i64 0) = some a.enc := by rw [hab]; rfl
    have dv1 : dIdx 16 (.list 16 (v.kids.map Ex.enc)) (.int .i64 1) = some b.enc := by rw [hab]; rfl
    unfold Held at i1
    cases h1 : f.fits a with
    | none =>
      rw [h1] at i1 hf
      obtain ⟨l', e1⟩ := i1
      refine ⟨l', ?_, fun m hm => ?_⟩
      ·rw [hf]
       simp only [Ex.pj, Ex.eta, Ex.ag, Pat.pj, Pat.eta, Pat.ag, hc, dBin_neq, decide_true, Bool.not_true, ob_some', oif_bool, Bool.false_eq_true, if_false, dLen_list, List.length_map, hpl, dBin_eql, Int.cast_ofNat_Int, Int.reduceEq, decide_false, dp0, dv0, e1, dExt_0, dExt_1, dUn_not, Bool.not_false, if_true]
       rfl
      ·rw [hf] at hm; cases hm
    | some m1 =>
      rw [h1] at i1 hf
      obtain ⟨s1, e1⟩ := i1
      simp only [Option.bind_some] at hf
      have s1' : m1.length ≤ f.size := s1
      have hlm : (l ++ m1).length + g.size ≤ lim := by rw [List.length_append]; omega
      have i2 := ih g (by rw [hfg]; simp) hp2.2 b rb (l ++ m1) sg hlm
      unfold Held at i2
      cases h2 : g.fits b with
      | none =>
        rw [h2] at i2 hf
        obtain ⟨l', e2⟩ := i2
        refine ⟨l', ?_, fun m hm => ?_⟩
        ·rw [hf]
         simp only [Ex.pj, Ex.eta, Ex.ag, Pat.pj, Pat.eta, Pat.ag, hc, dBin_neq, decide_true, Bool.not_true, ob_some', oif_bool, Bool.false_eq_true, if_false, dLen_list, List.length_map, hpl, dBin_eql, Int.cast_ofNat_Int, Int.reduceEq, decide_false, dp0, dv0, dp1, dv1, e1, e2, dExt_0, dExt_1, dUn_not, if_true]
         rfl
        ·rw [hf] at hm; cases hm
      | some m2 =>
        rw [h2] at i2 hf
        obtain ⟨s2, e2⟩ := i2
        refine ⟨l ++ (m1 ++ m2), ?_, fun m hm => ?_⟩
        ·rw [hf]
         simp only [Ex.pj, Ex.eta, Ex.ag, Pat.pj, Pat.eta, Pat.ag, hc, dBin_neq, decide_true, Bool.not_true, ob_some', oif_bool, Bool.false_eq_true, if_false, dLen_list, List.length_map, hpl, dBin_eql, Int.cast_ofNat_Int, Int.reduceEq, decide_false, dp0, dv0, dp1, dv1, e1, e2, dExt_0, dExt_1, dUn_not, if_true, List.append_assoc]
         rfl
        ·rw [hf] at hm
         simp only [Option.map_some, Option.some.injEq] at hm
         subst hm
         exact ⟨rfl, by rw [List.length_append]; omega⟩
   have fin : ∀ c : Int, (c = 6 ∨ c = 8) → (v.kind = c → p.kind = 7 ∧ v.kind = 6 ∨ p.kind = 9 ∧ v.kind = 8) → (v.kind ≠ c → ¬ (p.kind = 7 ∧ v.kind = 6 ∨ p.kind = 9 ∧ v.kind = 8)) → ∃ l', P_erase_matches_21 (run cfg) (.list 17 (l.map encBd)) (.int .i64 c) p.enc v.enc sg = some ([.list 17 (l'.map encBd), .bool (p.fits v).isSome], sg) ∧ ∀ m, p.fits v = some m → l' = l ++ m ∧ m.length ≤ p.size := by
    intro c h68 h1 h2
    by_cases hc : v.kind = c
    ·exact two c hc h68 (h1 hc)
    ·rw [if_neg (h2 hc)] at hf
     exact ⟨l, by rw [other c hc, hf]; rfl, fun m hm => by rw [hf] at hm; cases hm⟩
   have done : ∀ c : Int, (c = 6 ∨ c = 8) → (v.kind = c → p.kind = 7 ∧ v.kind = 6 ∨ p.kind = 9 ∧ v.kind = 8) → (v.kind ≠ c → ¬ (p.kind = 7 ∧ v.kind = 6 ∨ p.kind = 9 ∧ v.kind = 8)) → (P_erase_matches (run cfg) p.enc v.enc (.list 17 (l.map encBd)) sg = P_erase_matches_21 (run cfg) (.list 17 (l.map encBd)) (.int .i64 c) p.enc v.enc sg) → Held l sg p v ((run cfg).r F_erase_matches [(p.enc, .val), (v.enc, .val), (.list 17 (l.map encBd), .own)] sg) := by
    intro c h68 h1 h2 e
    obtain ⟨l', e1, e2⟩ := fin c h68 h1 h2
    unfold Held
    cases hm : p.fits v with
    | none =>
      rw [hm] at e1
      exact ⟨l', call (e.trans e1)⟩
    | some m =>
      obtain ⟨rfl, e3⟩ := e2 m hm
      rw [hm] at e1
      exact ⟨e3, call (e.trans e1)⟩
   by_cases k7 : p.kind = 7
   ·refine done 6 (.inl rfl) (fun h => .inl ⟨k7, h⟩) (fun h => by omega) ?_
    rw [eq_erase_matches]
    simp [k7]
   ·have k9 : p.kind = 9 := by
     have n1 : ¬ (p.kind = 1 ∨ p.kind = 6 ∨ p.kind = 8) := by omega
     simp only [n1, k2, k3, k4, k5, if_false] at ho
     split at ho
     ·omega
     ·cases ho
    refine done 8 (.inr rfl) (fun h => .inr ⟨k9, h⟩) (fun h => by omega) ?_
    rw [eq_erase_matches]
    simp [k9]
end Go.Su

/-
 The functions' specs that this claim needs.
-/
namespace Go.Su
set_option linter.unusedVariables false
set_option linter.unusedSimpArgs false
theorem big {n : Nat} (h : n ≤ lim) : n < 4294967297 := by unfold lim at h; omega
def Deriv.fit (d : Deriv) : Prop := d.types.length < lim ∧ d.vars.length < lim ∧ d.kids.length < lim ∧ (∀ t ∈ d.types, t.thin = true) ∧ ∀ k : { x // x ∈ d.kids }, Deriv.fit k.1
termination_by SizeOf.sizeOf d
decreasing_by exact Deriv.kid_lt k.2
def Deriv.put (l : List (Int × Ty)) : Deriv → Deriv
 | .mk ts vs ks => .mk (ts.map (Ty.put l)) vs (ks.map (Deriv.put l))
theorem encStrs_nil : (.list 1 [] : DV) = encStrs [] := rfl
theorem sp_slices_IndexS (l : List ByteArray) (hl : l.length ≤ lim) (n : ByteArray) : ∃ k : Int, (run cfg).p F_slices_Index__string_string [encStrs l, .str n] = some (.int .i64 k) ∧ (0 ≤ k ↔ (l.any fun x => decide (x = n)) = true) := by
 have hb := big hl
 have loop : ∀ (m i : Nat), i + m = l.length → ∃ k : Int, P_slices_Index__string_string_2h (run cfg) (encStrs l) (.str n) (.int .i64 l.length) (.int .i64 i) = some (.int .i64 k) ∧ (0 ≤ k ↔ ((l.drop i).any fun x => decide (x = n)) = true) := by
  intro m
  induction m with
  | zero =>
    intro i hi
    refine ⟨-1, ?_, ?_⟩
    ·have : ¬ i < l.length := by omega
     rw [eq_slices_Index__string_string_2h]
     simp [this]
    ·rw [List.drop_of_length_le (by omega)]; simp
  | succ m ih =>
    intro i hi
    have h : i < l.length := by omega
    rw [eq_slices_Index__string_string_2h, List.drop_eq_getElem_cons h]
    by_cases e : n = l[i]
    ·refine ⟨i, by simp [h, dIdx_strs h, e], ?_⟩
     simp [← e]
    ·obtain ⟨k, h1, h2⟩ := ih (i + 1) (by omega)
     push_cast at h1
     refine ⟨k, by simp [h, dIdx_strs h, e, dAdd1 (show i < 9223372036854775807 by omega), h1], ?_⟩
     rw [h2, List.any_cons]
     have : decide (l[i] = n) = false := by simpa using fun h' => e h'.symm
     rw [this, Bool.false_or]
 obtain ⟨k, h1, h2⟩ := loop l.length 0 (by omega)
 refine ⟨k, call_slices_Index__string_string _ _ ?_, by simpa using h2⟩
 rw [eq_slices_Index__string_string]
 simpa using h1
theorem sp_slices_ContainsS (l : List ByteArray) (hl : l.length ≤ lim) (n : ByteArray) : (run cfg).p F_slices_Contains__string_string [encStrs l, .str n] = some (.bool (l.any fun x => decide (x = n))) := by
 refine call_slices_Contains__string_string _ _ ?_
 rw [eq_slices_Contains__string_string]
 obtain ⟨k, h1, h2⟩ := sp_slices_IndexS l hl n
 simp only [h1, ob_some', dBin_geq]
 congr 2
 rw [Bool.eq_iff_iff, ← h2]
 simp
theorem sp_erase_patNames (t : Pat) : ∀ (l : List ByteArray) (sg : List SObj), l.length + t.size ≤ lim → (run cfg).r F_erase_patNames [(t.enc, .val), (encStrs l, .own)] sg = some ([encStrs (t.namesOn l)], sg) := by
 induction t using Pat.ind with
 | h t ih =>
   intro l sg hl
   have hb := Pat.thin_len _ (Pat.thin_of_size (show t.size ≤ lim by omega))
   have hB := big hl
   refine call_erase_patNames _ _ _ ?_
   have loop : ∀ l : List ByteArray, l.length + (t.kids.map Pat.size).sum ≤ lim → P_erase_patNames_4h (run cfg) (encStrs l) (.list 7 (t.kids.map Pat.enc)) (.int .i64 t.kids.length) (.int .i64 0) sg = some ([encStrs (t.kids.foldl (fun l k => k.namesOn l) l)], sg) :=
    loop_fold (l := t.kids) (P := fun i (a : List ByteArray) => P_erase_patNames_4h (run cfg) (encStrs a) (.list 7 (t.kids.map Pat.enc)) (.int .i64 t.kids.length) (.int .i64 i) sg) (g := fun a k => k.namesOn a) (fin := fun a => some ([encStrs a], sg))
     (I := fun i a => a.length + ((t.kids.drop i).map Pat.size).sum ≤ lim)
     (fun a _ => by rw [eq_erase_patNames_4h]; simp)
     (fun i h a ha => by
       rw [List.drop_eq_getElem_cons h, List.map_cons, List.sum_cons] at ha
       have h1 := Pat.namesOn_len t.kids[i] a
       refine ⟨?_, by omega⟩
       rw [eq_erase_patNames_4h]
       simp [h, dIdx_map h, Pat.eta, Pat.ag, ih _ (List.getElem_mem h) a sg (by omega), dAdd1 (show i < 9223372036854775807 by omega)])
   have hsz := Pat.size_eq t
   rw [eq_erase_patNames, Pat.namesOn_eq]
   simp
   by_cases h6 : t.kind = 2
   ·simp [h6]
    rw [show encStrs l = .list 1 (l.map fun n => .str n) from rfl, dApp_list (by simp; omega)]
    have := loop (l ++ [t.name]) (by simp; omega)
    simpa [encStrs] using this
   ·simp [h6, loop l (by omega)]
def Ex.hid (t : Ex) (x : DV) : DV := .agg [.int .i64 t.kind, .int .i64 t.lo, .int .i64 t.hi, .str t.name, .str t.arg, .int .i64 t.n, .str t.s, .int .i64 t.op, .int .i64 t.a.kind, .int .i64 t.a.n, .list 3 (t.a.kids.map Ty.enc), .int .i64 t.b.kind, .int .i64 t.b.n, .list 3 (t.b.kids.map Ty.enc), .list 7 (t.pats.map Pat.enc), x]
@[simp] theorem Ex.hid_agg (t : Ex) (x : DV) : isAggN 16 (t.hid x) = true := rfl
@[simp] theorem Ex.hid0 (t : Ex) (x : DV) : proj 0 (t.hid x) = .int .i64 t.kind := rfl
@[simp] theorem Ex.hid3 (t : Ex) (x : DV) : proj 3 (t.hid x) = .str t.name := rfl
@[simp] theorem Ex.hid4 (t : Ex) (x : DV) : proj 4 (t.hid x) = .str t.arg := rfl
@[simp] theorem Ex.hid14 (t : Ex) (x : DV) : proj 14 (t.hid x) = .list 7 (t.pats.map Pat.enc) := rfl
theorem sp_erase_binds (t : Ex) (x : DV) (ht : t.fit1) (i : Nat) (s : ByteArray) (hi : t.kind = 14 → i ≤ t.pats.length) : (run cfg).p F_erase_binds [t.hid x, .int .i64 i, .str s] = some (.bool ((t.binds i).any fun x => decide (x = s))) := by
 have hp := big (Nat.le_of_lt ht.pats)
 refine call_erase_binds _ _ _ ?_
 have i1 : decide ((i : Int) = 1) = decide (i = 1) := by rw [decide_eq_decide]; omega
 have p4 : P_erase_binds_4 (run cfg) (.str s) (t.hid x) = some (.bool (decide (t.name = s))) := by
  rw [eq_erase_binds_4]
  simp
 have p5 : ¬ (t.kind = 9 ∨ (t.kind = 11 ∧ i = 1) ∨ (t.kind = 12 ∧ i = 1)) → P_erase_binds_5 (run cfg) (.int .i64 i) (.str s) (t.hid x) = some (.bool ((t.binds i).any fun x => decide (x = s))) := by
  intro h
  rw [eq_erase_binds_5]
  unfold Ex.binds
  rw [if_neg h]
  by_cases h1 : t.kind = 12
  ·simp [h1]
   by_cases e : t.name = s <;> simp [e]
  ·by_cases h2 : t.kind = 14
   ·by_cases h3 : 0 < i
    ·have hlt : i - 1 < t.pats.length := by have := hi h2; omega
     have e1 : dBin .sub (.int .i64 (i : Int)) (.int .i64 1) = some (.int .i64 ((i - 1 : Nat) : Int)) := by
      rw [dBin_sub, wrap_id (by omega) (by have := hi h2; omega)]
      congr 3
      omega
     have hsz := (ht.pat _ (List.getElem_mem hlt)).size
     have nm := sp_erase_patNames t.pats[i - 1] [] [] (by simpa using hsz)
     rw [← encStrs_nil] at nm
     have hnl : t.pats[i - 1].names.length ≤ lim := by have := Pat.namesOn_len t.pats[i - 1] []; simp at this; unfold Pat.names; omega
     have hc := sp_slices_ContainsS t.pats[i - 1].names hnl s
     simp [h1, h2, h3, e1, dIdx_map hlt, Pat.eta, Pat.ag, nm, List.getElem?_eq_getElem hlt]
     rw [show t.pats[i - 1].namesOn [] = t.pats[i - 1].names from rfl, hc]
     rfl
    ·simp [h1, h2, h3]
   ·simp [h1, h2]
 have one : t.kind = 9 ∨ (t.kind = 11 ∧ i = 1) ∨ (t.kind = 12 ∧ i = 1) → ((t.binds i).any fun x => decide (x = s)) = decide (t.name = s) := fun h => by unfold Ex.binds; rw [if_pos h]; simp
 rw [eq_erase_binds]
 by_cases h9 : t.kind = 9
 ·simp [h9, one (.inl h9), p4]
 ·by_cases h11 : t.kind = 11
  ·by_cases h1 : i = 1
   ·have o1 := one (.inr (.inl ⟨h11, h1⟩))
    subst h1
    simp [h11, o1, p4]
   ·have := p5 (by rintro (h | h | h); exact h9 h; exact h1 h.2; exact h1 h.2)
    simp only [Ex.hid_agg, og_true', Ex.hid0, h11, dBin_eql, ob_some', oif_bool, ogd_bool, i1, h1, decide_false, decide_true, Bool.false_eq_true, if_false, if_true, show decide ((11 : Int) = 9) = false from rfl, show decide ((11 : Int) = 12) = false from rfl, this]
  ·by_cases h12 : t.kind = 12
   ·by_cases h1 : i = 1
    ·have o1 := one (.inr (.inr ⟨h12, h1⟩))
     subst h1
     simp [h12, o1, p4]
    ·have := p5 (by rintro (h | h | h); exact h9 h; exact h1 h.2; exact h1 h.2)
     simp only [Ex.hid_agg, og_true', Ex.hid0, h12, dBin_eql, ob_some', oif_bool, ogd_bool, i1, h1, decide_false, decide_true, Bool.false_eq_true, if_false, if_true, show decide ((12 : Int) = 9) = false from rfl, show decide ((12 : Int) = 11) = false from rfl, this]
   ·have := p5 (by rintro (h | h | h); exact h9 h; exact h11 h.1; exact h12 h.1)
    simp only [Ex.hid_agg, og_true', Ex.hid0, dBin_eql, ob_some', oif_bool, ogd_bool, h9, h11, h12, decide_false, Bool.false_eq_true, if_false, this]
theorem Ex.withKids_enc (t : Ex) (ks : List Ex) : DV.agg [.int .i64 t.kind, .int .i64 t.lo, .int .i64 t.hi, .str t.name, .str t.arg, .int .i64 t.n, .str t.s, .int .i64 t.op, .int .i64 t.a.kind, .int .i64 t.a.n, .list 3 (t.a.kids.map Ty.enc), .int .i64 t.b.kind, .int .i64 t.b.n, .list 3 (t.b.kids.map Ty.enc), .list 7 (t.pats.map Pat.enc), .list 16 (ks.map Ex.enc)] = (t.withKids ks).enc := by
 rw [Ex.enc_eq]; rfl
theorem sealVal (sg : List SObj) (d : DV) : sealCell sg (d, .val) = some d := rfl
theorem sealArr (l : List Ex) (n : Nat) (h : l.length = n) : sealCell [.arr 16 (l.map Ex.enc)] (.undef, .arr 0 16 0 n) = some (.list 16 (l.map Ex.enc)) := by
 have : sgArr [SObj.arr 16 (l.map Ex.enc)] 0 = some (16, l.map Ex.enc) := rfl
 simp only [sealCell, this, ob_some', BEq.rfl, og_true', Nat.zero_add, List.length_map, h, Nat.le_refl, if_true, List.drop_zero]
 rw [List.take_of_length_le (by simp [h])]
theorem sp_erase_put (s : ByteArray) (v : Ex) (t : Ex) : t.fit → t.right = true → (run cfg).p F_erase_put [t.enc, .str s, v.enc] = some (t.put s v).enc := by
 induction t using Ex.ind with
 | h t ih =>
   intro ft rt
   have hk := big (Nat.le_of_lt ft.one.kids)
   have ee : ∀ k : Ex, (DV.agg [proj 0 k.enc, proj 1 k.enc, proj 2 k.enc, proj 3 k.enc, proj 4 k.enc, proj 5 k.enc, proj 6 k.enc, proj 7 k.enc, proj 8 k.enc, proj 9 k.enc, proj 10 k.enc, proj 11 k.enc, proj 12 k.enc, proj 13 k.enc, proj 14 k.enc, proj 15 k.enc]) = k.enc := fun k => by simp [Ex.eta, Ex.ag]
   have loop : ∀ (n j : Nat) (cur : List Ex), j + n = t.kids.length → cur.length = t.kids.length → (∀ i : Nat, j ≤ i → cur[i]? = t.kids[i]?) →
    P_erase_put_5h (run cfg) (.str s) t.kids.length (.int .i64 t.kids.length) (.int .i64 (j : Int)) (.int .i64 t.kind) (.int .i64 t.lo) (.int .i64 t.hi) (.str t.name) (.str t.arg) (.int .i64 t.n) (.str t.s) (.int .i64 t.op) (.int .i64 t.a.kind) (.int .i64 t.a.n) (.list 3 (t.a.kids.map Ty.enc)) (.int .i64 t.b.kind) (.int .i64 t.b.n) (.list 3 (t.b.kids.map Ty.enc)) (.list 7 (t.pats.map Pat.enc)) t.kids.length v.enc [.arr 16 (cur.map Ex.enc)] =
    some (t.withKids (cur.take j ++ Ex.putL t.binds j (t.kids.drop j) s v)).enc := by
    intro n
    induction n with
    | zero =>
      intro j cur hj hc _
      have e : j = t.kids.length := by omega
      subst e
      rw [eq_erase_put_5h, List.drop_length, Ex.putL_nil, List.append_nil, List.take_of_length_le (Nat.le_of_eq hc)]
      simp only [dBin_lss, Int.lt_irrefl, decide_false, ob_some', oif_bool, Bool.false_eq_true, if_false, sealCells, sealArr cur _ hc, sealVal, retL, seqO]
      rw [Ex.withKids_enc]
      rfl
    | succ n ihn =>
      intro j cur hj hc hcur
      have h : j < t.kids.length := by omega
      have h' : j < cur.length := by omega
      have hcj : cur[j] = t.kids[j] := by
       have := hcur j (Nat.le_refl _)
       rw [List.getElem?_eq_getElem h, List.getElem?_eq_getElem h'] at this
       simpa using this
      have hbi := sp_erase_binds t .undef ft.one j s (fun h14 => by have := Ex.kids14 rt h14; omega)
      unfold Ex.hid at hbi
      have a1 : arrIdx 0 t.kids.length (.int .i64 (j : Int)) = some j := by
       show (if (0 : Int) ≤ (j : Int) ∧ (j : Int) < (t.kids.length : Int) then some (0 + (j : Int).toNat) else none) = some j
       rw [if_pos ⟨by omega, by omega⟩]
       simp
      have g1 : (cur.map Ex.enc)[j]? = some t.kids[j].enc := by rw [List.getElem?_map, List.getElem?_eq_getElem h', hcj]; rfl
      have sa : sgArr [SObj.arr 16 (cur.map Ex.enc)] 0 = some (16, cur.map Ex.enc) := rfl
      have e1 : dBin .add (.int .i64 (j : Int)) (.int .i64 1) = some (.int .i64 ((j + 1 : Nat) : Int)) := dAdd1 (show j < 9223372036854775807 by omega)
      rw [List.drop_eq_getElem_cons h, Ex.putL_cons, eq_erase_put_5h]
      by_cases hb : ((t.binds j).any fun x => decide (x = s)) = true
      ·have nx := ihn (j + 1) cur (by omega) hc (fun i hi => hcur i (by omega))
       simp only [dBin_lss, Int.ofNat_lt, h, decide_true, ob_some', oif_bool, if_true, a1, sa, g1, BEq.rfl, og_true', hbi, hb, dUn_not, Bool.not_true, Bool.false_eq_true, if_false, e1]
       rw [nx, List.take_succ_eq_append_getElem h', hcj, List.append_assoc]
       rfl
      ·have hb' : ((t.binds j).any fun x => decide (x = s)) = false := Bool.eq_false_iff.2 hb
       have f1 := ih _ (List.getElem_mem h) (ft.kid (List.getElem_mem h)) (Ex.right_kid rt (List.getElem_mem h))
       have nx := ihn (j + 1) (cur.set j (t.kids[j].put s v)) (by omega) (by simpa using hc) (fun i hi => by rw [List.getElem?_set_ne (by omega)]; exact hcur i (by omega))
       simp only [dBin_lss, Int.ofNat_lt, h, decide_true, ob_some', oif_bool, if_true, a1, sa, g1, BEq.rfl, og_true', hbi, hb', dUn_not, Bool.not_false, ee, f1, isAggN_Ex, e1, List.set_cons_zero]
       rw [List.map_set] at nx
       rw [nx, List.take_succ_eq_append_getElem (by simpa using h'), List.append_assoc, List.take_set_of_le (Nat.le_refl _)]
       simp only [List.getElem_set_self, Bool.false_eq_true, if_false]
       rfl
   have h3 : P_erase_put_3 (run cfg) (.str s) t.enc v.enc = some (t.withKids (Ex.putL t.binds 0 t.kids s v)).enc := by
    rw [eq_erase_put_3]
    have hle : t.kids.length ≤ lim := Nat.le_of_lt ft.one.kids
    simp only [Ex.pj, dList_list, ob_some', BEq.rfl, Bool.true_and, List.length_map, hle, decide_true, og_true']
    have := loop t.kids.length 0 t.kids (by omega) rfl (fun i _ => rfl)
    simpa using this
   refine call_erase_put _ _ _ ?_
   rw [eq_erase_put, Ex.put_eq]
   by_cases h1 : t.kind = 1
   ·by_cases h2 : t.name = s
    ·simp only [isAggN_Ex, og_true', Ex.proj0 t, Ex.proj3 t, dBin_eql, dBin_seql, ob_some', ogd_bool, oif_bool, h1, h2, decide_true, if_true, ee, and_self]
    ·simp only [isAggN_Ex, og_true', Ex.proj0 t, Ex.proj3 t, dBin_eql, dBin_seql, ob_some', ogd_bool, oif_bool, h1, h2, decide_true, decide_false, if_true, Bool.false_eq_true, if_false, and_false]
     exact h3
   ·simp only [isAggN_Ex, og_true', Ex.proj0 t, Ex.proj3 t, dBin_eql, ob_some', ogd_bool, h1, decide_false, Bool.false_eq_true, if_false, false_and]
    exact h3
end Go.Su

/-
 What the program's functions on expressions without types give: an arm of a match.
-/
namespace Go.Su
set_option linter.unusedVariables false
set_option linter.unusedSimpArgs false
theorem encBd0 (b : ByteArray × Ex) : proj 0 (encBd b) = .str b.1 := rfl
theorem encBdE (b : ByteArray × Ex) : DV.agg [proj 1 (encBd b), proj 2 (encBd b), proj 3 (encBd b), proj 4 (encBd b), proj 5 (encBd b), proj 6 (encBd b), proj 7 (encBd b), proj 8 (encBd b), proj 9 (encBd b), proj 10 (encBd b), proj 11 (encBd b), proj 12 (encBd b), proj 13 (encBd b), proj 14 (encBd b), proj 15 (encBd b), proj 16 (encBd b)] = b.2.enc := Ex.eta b.2
theorem sp_match_put (l : List (ByteArray × Ex)) (hl : l.length ≤ lim) (hb : ∀ b ∈ l, b.2.fit ∧ b.2.right = true) (b2_0 b2_1 b2_2 b2_3 b2_4 b2_5 b2_6 b2_7 b2_8 b2_9 b2_10 b2_11 b2_12 b2_13 b2_14 b2_15 : DV) (x : Ex) (fx : x.fit) (rx : x.right = true) (sg : List SObj) :
 P_erase_match_8h (run cfg) (.list 17 (l.map encBd)) (.int .i64 l.length) (.int .i64 0) x.enc sg =
  some (.tup [(x.putAll l).enc, R3.ok.enc]) := by
 have hB := big hl
 have ok0 : DV.agg [.int .i64 0, .int .i64 0, .int .i64 0, .str ⟨#[]⟩, .int .i64 0, .int .i64 0, .int .i64 0, .bool false, .list 5 [], .list 9 [], .int .i64 0, .bool false, .int .i64 0, .int .i64 0, .int .i64 0] = R3.ok.enc := rfl
 have loop : ∀ (n j : Nat) (x : Ex), j + n = l.length → x.fit → x.right = true → P_erase_match_8h (run cfg) (.list 17 (l.map encBd)) (.int .i64 l.length) (.int .i64 (j : Int)) x.enc sg = some (.tup [(x.putAll (l.drop j)).enc, R3.ok.enc]) := by
  intro n
  induction n with
  | zero =>
    intro j x hj _ _
    have e : j = l.length := by omega
    subst e
    rw [eq_erase_match_8h, List.drop_length]
    simp only [dBin_lss, Int.lt_irrefl, decide_false, ob_some', oif_bool, Bool.false_eq_true, if_false, exx, ok0]
    rfl
  | succ n ihn =>
    intro j x hj fx rx
    have h : j < l.length := by omega
    obtain ⟨fv, rv⟩ := hb _ (List.getElem_mem h)
    have p := sp_erase_put l[j].1 l[j].2 x fx rx
    have nx := ihn (j + 1) (x.put l[j].1 l[j].2) (by omega) (Ex.put_fit x _ _ fv fx) (Ex.put_right x _ _ rv rx)
    rw [eq_erase_match_8h]
    simp only [dBin_lss, Int.ofNat_lt, h, decide_true, ob_some', oif_bool, if_true, dIdx_map h, exx, encBd0, encBdE, p, isAggN_Ex, og_true', dAdd1 (show j < 9223372036854775807 by omega)]
    rw [nx, List.drop_eq_getElem_cons h]
    rfl
 have := loop l.length 0 x (by omega) fx rx
 simpa using this
end Go.Su

/-
 The functions' specs that this claim needs.
-/
namespace Go.Su
set_option linter.unusedVariables false
set_option linter.unusedSimpArgs false
theorem pax (k : Pat) : (DV.agg [proj 0 k.enc, proj 1 k.enc, proj 2 k.enc, proj 3 k.enc, proj 4 k.enc, proj 5 k.enc, proj 6 k.enc]) = k.enc := by simp [Pat.eta, Pat.ag]
end Go.Su

/-
 What the program's functions on expressions without types give: a match.
-/
namespace Go.Su
set_option linter.unusedVariables false
set_option linter.unusedSimpArgs false
noncomputable def armD (t : Ex) (o : Option Ex) : DV :=
 match o with
 | some x => .tup [x.enc, R3.ok.enc]
 | none => .tup [noEx.enc, (R3.mk 4 t.lo t.hi).enc]
theorem sp_erase_match (t : Ex) (ft : t.fit) (rt : t.right = true) (hk : t.kids.length = t.pats.length + 1) (fits : ∀ p ∈ t.pats, ∀ l, p.fits (t.kid 0) = some l → ∀ b ∈ l, b.2.fit ∧ b.2.right = true) :
 (run cfg).p F_erase_match [t.enc] = some (armD t ((t.kid 0).armE t.pats (t.kids.drop 1))) := by
 have hP := big (Nat.le_of_lt ft.one.pats)
 have h0 : 0 < t.kids.length := by omega
 have v0 := Ex.kid_get h0
 have vr : (t.kid 0).right = true := Ex.right_kid rt (Ex.kid_mem v0)
 have d0 : dIdx 16 (.list 16 (t.kids.map Ex.enc)) (.int .i64 0) = some (t.kid 0).enc := by
  have h2 : dIdx 16 (.list 16 (t.kids.map Ex.enc)) (.int .i64 0) = some t.kids[0].enc := dIdx_map h0
  rw [List.getElem?_eq_getElem h0, Option.some.injEq] at v0
  rw [h2, v0]
 have pr : ∀ p ∈ t.pats, p.pat = true ∧ p.size ≤ lim := fun p hp => by
  have := Ex.one_pats rt p hp
  unfold Pat.right at this
  rw [Bool.and_eq_true] at this
  exact ⟨this.1, (ft.one.pat p hp).size⟩
 have none17 : (DV.list 17 [] : DV) = .list 17 (([] : List (ByteArray × Ex)).map encBd) := rfl
 have z16 := noEx_agg
 have st4 : DV.agg [.int .i64 4, .int .i64 0, .int .i64 0, .str ⟨#[]⟩, .int .i64 0, .int .i64 0, .int .i64 0, .bool false, .list 5 [], .list 9 [], .int .i64 0, .bool false, .int .i64 t.lo, .int .i64 t.hi, .int .i64 0] = (R3.mk 4 t.lo t.hi).enc := rfl
 have kidj : ∀ j, j < t.pats.length → ∃ k, t.kids[j + 1]? = some k ∧ k.fit ∧ k.right = true ∧ dIdx 16 (.list 16 (t.kids.map Ex.enc)) (.int .i64 ((j + 1 : Nat) : Int)) = some k.enc ∧ (t.kids.drop 1)[j]? = some k := by
  intro j hj
  have h : j + 1 < t.kids.length := by omega
  exact ⟨t.kids[j + 1], List.getElem?_eq_getElem h, ft.kid (List.getElem_mem h), Ex.right_kid rt (List.getElem_mem h), dIdx_map h, by rw [List.getElem?_drop, Nat.add_comm, List.getElem?_eq_getElem h]⟩
 have arm_cons : ∀ (j : Nat) (h : j < t.pats.length) (k : Ex), (t.kids.drop 1)[j]? = some k → (t.kid 0).armE (t.pats.drop j) ((t.kids.drop 1).drop j) = match t.pats[j].fits (t.kid 0) with
  | some l => some (k.putAll l)
  | none => (t.kid 0).armE (t.pats.drop (j + 1)) ((t.kids.drop 1).drop (j + 1)) := by
  intro j h k hk
  have h2 : j < (t.kids.drop 1).length := by
   rcases Nat.lt_or_ge j (t.kids.drop 1).length with g | g
   ·exact g
   ·rw [List.getElem?_eq_none g] at hk; cases hk
  rw [List.getElem?_eq_getElem h2, Option.some.injEq] at hk
  rw [List.drop_eq_getElem_cons h, List.drop_eq_getElem_cons h2, hk, Ex.armE]
  cases t.pats[j].fits (t.kid 0) <;> rfl
 have arm_end : ∀ j, j = t.pats.length → (t.kid 0).armE (t.pats.drop j) ((t.kids.drop 1).drop j) = none := by
  intro j hj
  subst hj
  rw [List.drop_length]
  cases ((t.kids.drop 1).drop t.pats.length) <;> rfl
 have lb : ∀ (n j : Nat) (sg : List SObj), j + n = t.pats.length → P_erase_match_2hb (run cfg) (.list 7 (t.pats.map Pat.enc)) (.int .i64 t.pats.length) (.int .i64 (j : Int)) t.enc sg = some (armD t ((t.kid 0).armE (t.pats.drop j) ((t.kids.drop 1).drop j))) := by
  intro n
  induction n with
  | zero =>
    intro j sg hj
    have e : j = t.pats.length := by omega
    rw [arm_end j e]
    subst e
    rw [eq_erase_match_2hb]
    simp only [dBin_lss, Int.lt_irrefl, decide_false, ob_some', oif_bool, Bool.false_eq_true, if_false, z16, Ex.proj1, Ex.proj2, st4]
    rfl
  | succ n ihn =>
    intro j sg hj
    have h : j < t.pats.length := by omega
    obtain ⟨k, -, fk, rk, dk, ek⟩ := kidj j h
    obtain ⟨pp, ps⟩ := pr _ (List.getElem_mem h)
    have hm := sp_erase_matches t.pats[j] pp (t.kid 0) vr [] sg (by simpa using ps)
    have e1 : dBin .add (.int .i64 (j : Int)) (.int .i64 1) = some (.int .i64 ((j + 1 : Nat) : Int)) := dAdd1 (show j < 9223372036854775807 by omega)
    rw [arm_cons j h k ek, eq_erase_match_2hb]
    unfold Held at hm
    cases hf : t.pats[j].fits (t.kid 0) with
    | none =>
      rw [hf] at hm
      obtain ⟨l', hm⟩ := hm
      have hm : (run cfg).r F_erase_matches [(t.pats[j].enc, .val), ((t.kid 0).enc, .val), (.list 17 [], .own)] sg = some ([.list 17 (l'.map encBd), .bool false], sg) := hm
      simp only [dBin_lss, Int.ofNat_lt, h, decide_true, ob_some', oif_bool, if_true, dIdx_map h, Ex.proj15 t, d0]
      simp only [pax, exx, hm, ob_some', dExt_0, dExt_1, dUn_not, Bool.not_false, oif_bool, if_true, e1]
      exact ihn (j + 1) sg (by omega)
    | some m =>
      rw [hf] at hm
      obtain ⟨hs, hm⟩ := hm
      have hm : (run cfg).r F_erase_matches [(t.pats[j].enc, .val), ((t.kid 0).enc, .val), (.list 17 [], .own)] sg = some ([.list 17 (m.map encBd), .bool true], sg) := hm
      have hb := fits _ (List.getElem_mem h) m hf
      have hml : m.length ≤ lim := by omega
      have sp := sp_match_put m hml hb (.int .i64 0) (.int .i64 0) (.int .i64 0) (.str ⟨#[]⟩) (.str ⟨#[]⟩) (.int .i64 0) (.str ⟨#[]⟩) (.int .i64 0) (.int .i64 0) (.int .i64 0) (.list 3 []) (.int .i64 0) (.int .i64 0) (.list 3 []) (.list 7 []) (.list 16 []) k fk rk sg
      simp only [dBin_lss, Int.ofNat_lt, h, decide_true, ob_some', oif_bool, if_true, dIdx_map h, Ex.proj15 t, d0]
      simp only [pax, exx, hm, ob_some', dExt_0, dExt_1, dUn_not, Bool.not_true, oif_bool, Bool.false_eq_true, if_false, e1, dk, List.nil_append, dLen_list, List.length_map, sp]
      rfl
 have la : P_erase_match_2h (run cfg) (.list 7 (t.pats.map Pat.enc)) (.int .i64 t.pats.length) t.enc = P_erase_match_2hb (run cfg) (.list 7 (t.pats.map Pat.enc)) (.int .i64 t.pats.length) (.int .i64 ((0 : Nat) : Int)) t.enc [] := by
  rw [eq_erase_match_2h, eq_erase_match_2hb]
  rfl
 refine call_erase_match _ ?_
 rw [eq_erase_match]
 simp only [isAggN_Ex, og_true', Ex.proj14, dLen_list, List.length_map, ob_some']
 rw [la]
 exact lb t.pats.length 0 [] (by omega)
end Go.Su

/-
 The functions' specs that this claim needs.
-/
namespace Go.Su
set_option linter.unusedVariables false
set_option linter.unusedSimpArgs false
theorem sp_erase_value (t : Ex) : t.fit → t.right = true → (run cfg).p F_erase_value [t.enc] = some (.bool t.val) := by
 induction t using Ex.ind with
 | h t ih =>
   intro ft rt
   have hks := Ex.one_kids (Ex.right_one rt)
   refine call_erase_value _ ?_
   rw [eq_erase_value, Ex.val_eq]
   by_cases k2 : t.kind = 2
   ·simp [k2]
   by_cases k3 : t.kind = 3
   ·simp [k3]
   by_cases k4 : t.kind = 4
   ·simp [k4]
   by_cases k5 : t.kind = 5
   ·simp [k5]
   by_cases k7 : t.kind = 7
   ·simp [k7]
   by_cases k9 : t.kind = 9
   ·simp [k9]
   by_cases k68 : t.kind = 6 ∨ t.kind = 8
   ·have hlen : t.kids.length = 2 := by
     rcases k68 with k | k <;> rw [k] at hks <;> simp [eKids] at hks <;> omega
    have h0 : 0 < t.kids.length := by omega
    have h1 : 1 < t.kids.length := by omega
    have d0 : dIdx 16 (.list 16 (t.kids.map Ex.enc)) (.int .i64 0) = some t.kids[0].enc := dIdx_map h0
    have d1 : dIdx 16 (.list 16 (t.kids.map Ex.enc)) (.int .i64 1) = some t.kids[1].enc := dIdx_map h1
    have i0 := ih _ (List.getElem_mem h0) (ft.kid (List.getElem_mem h0)) (Ex.right_kid rt (List.getElem_mem h0))
    have i1 := ih _ (List.getElem_mem h1) (ft.kid (List.getElem_mem h1)) (Ex.right_kid rt (List.getElem_mem h1))
    have e : t.kids.take 2 = [t.kids[0], t.kids[1]] := by
     apply List.ext_getElem
     ·simp [hlen]
     ·intro i h1 h2
      simp at h2
      match i, h2 with
      | 0, _ => simp
      | 1, _ => simp
    have p11 : P_erase_value_11 (run cfg) t.enc = some (.bool ((t.kids.take 2).all Ex.val)) := by
     rw [eq_erase_value_11, e]
     simp [d0, d1, Ex.eta, Ex.ag, i0, i1]
     cases t.kids[0].val <;> simp
    rcases k68 with k | k <;> simp [k, p11]
   ·have k6 : ¬ t.kind = 6 := fun h => k68 (.inl h)
    have k8 : ¬ t.kind = 8 := fun h => k68 (.inr h)
    simp [k2, k3, k4, k5, k6, k7, k8, k9]
end Go.Su

/-
 What the program's functions on expressions without types give: a step.
-/
namespace Go.Su
set_option linter.unusedVariables false
set_option linter.unusedSimpArgs false
theorem sp_erase_many (k : Int) : (run cfg).p F_erase_many [.int .i64 k] = some (.int .i64 (manyK k)) := by
 refine call_erase_many _ ?_
 rw [eq_erase_many]
 unfold manyK
 simp only [dBin_eql, ob_some', oif_bool]
 by_cases c1 : k = 6
 ·simp [c1]
 by_cases c2 : k = 8
 ·simp [c2]
 by_cases c3 : k = 10
 ·simp [c3]
 by_cases c4 : k = 16
 ·simp [c4]
 by_cases c5 : k = 11
 ·simp [c5]
 by_cases c6 : k = 13
 ·simp [c6]
 by_cases c7 : k = 14
 ·simp [c7]
 by_cases c8 : k = 15
 ·simp [c8]
 simp [c1, c2, c3, c4, c5, c6, c7, c8]
theorem kidx (t : Ex) (i : Nat) (h : i < t.kids.length) : dIdx 16 (.list 16 (t.kids.map Ex.enc)) (.int .i64 (i : Int)) = some (t.kid i).enc := by
 have h1 := Ex.kid_get h
 have h2 : dIdx 16 (.list 16 (t.kids.map Ex.enc)) (.int .i64 (i : Int)) = some t.kids[i].enc := dIdx_map h
 rw [List.getElem?_eq_getElem h, Option.some.injEq] at h1
 rw [h2, h1]
noncomputable def stepAt (t : Ex) (m i : Int) : Option DV :=
 P_erase_step_2h (run cfg) (.int .i64 m) (.int .i64 i) t.enc
theorem ok0_r3 : DV.agg [.int .i64 0, .int .i64 0, .int .i64 0, .str ⟨#[]⟩, .int .i64 0, .int .i64 0, .int .i64 0, .bool false, .list 5 [], .list 9 [], .int .i64 0, .bool false, .int .i64 0, .int .i64 0, .int .i64 0] = R3.ok.enc := rfl
theorem Ex.arms_fit {B : Nat} (hB : B ≤ 4294960000) {t : Ex} (ht : t.cl) (hl : t.lean B) (h0 : 0 < t.kids.length) (hc : (t.kid 0).cl) : ∀ p ∈ t.pats, ∀ l, p.fits (t.kid 0) = some l → ∀ b ∈ l, b.2.fit ∧ b.2.right = true := by
 intro p hp l hf b hb
 have pr := Ex.one_pats ht.1 p hp
 unfold Pat.right at pr
 rw [Bool.and_eq_true] at pr
 have h1 := (Pat.fits_spec p _ l pr.1 hf hc).2 b hb
 have h2 := Pat.fits_lean p _ l hf (Ex.kid_lean hl 0) b hb
 exact ⟨Ex.right_fit hB _ h1.1 h2, h1.1⟩
theorem step_done (B : Nat) (hB : B ≤ 4294960000) (t : Ex) (ht : t.cl) (hl : t.lean B) : stepAt t (manyK t.kind) (manyK t.kind) = some (.tup [t.redE.1.enc, t.redE.2.enc]) := by
 have ft := Ex.right_fit hB t ht.1 hl
 have hlen := Ex.one_of ht
 have fk : ∀ i, i < t.kids.length → (t.kid i).fit ∧ (t.kid i).right = true := fun i h => ⟨ft.kid (Ex.kid_mem (Ex.kid_get h)), Ex.right_kid ht.1 (Ex.kid_mem (Ex.kid_get h))⟩
 have d0 : 0 < t.kids.length → dIdx 16 (.list 16 (t.kids.map Ex.enc)) (.int .i64 0) = some (t.kid 0).enc := kidx t 0
 have d1 : 1 < t.kids.length → dIdx 16 (.list 16 (t.kids.map Ex.enc)) (.int .i64 1) = some (t.kid 1).enc := kidx t 1
 have st31 : P_erase_step_31 (run cfg) = some (.tup [noEx.enc, R3.stuck.enc]) := by
  rw [eq_erase_step_31]
  simp only [sp_erase_stop, ob_some', dExt_0, dExt_1, isAggN_Ex, isAggN_R3, og_true', exx, r3x]
 unfold stepAt Ex.redE
 rw [eq_erase_step_2h]
 simp only [exx]
 simp only [dBin_lss, Int.lt_irrefl, decide_false, ob_some', oif_bool, Bool.false_eq_true, if_false, Ex.proj0 t, Ex.proj15 t, dBin_eql, st31, exx, ok0_r3]
 by_cases c10 : t.kind = 10
 ·have h2 : t.kids.length = 2 := by rw [c10] at hlen; simp [eKids] at hlen; omega
  simp only [c10, decide_true, if_true, d0 (by omega), d1 (by omega), ob_some', Ex.proj0 (t.kid 0), Ex.proj3 (t.kid 0), Ex.proj15 (t.kid 0), dBin_eql, oif_bool]
  by_cases c9 : (t.kid 0).kind = 9
  ·have f0 := fk 0 (by omega)
   have hk := Ex.one_kids (Ex.right_one f0.2)
   have hk1 : 0 < (t.kid 0).kids.length := by rw [c9] at hk; simp [eKids] at hk; omega
   have e0 : dIdx 16 (.list 16 ((t.kid 0).kids.map Ex.enc)) (.int .i64 0) = some ((t.kid 0).kid 0).enc := kidx (t.kid 0) 0 hk1
   have p := sp_erase_put (t.kid 0).name (t.kid 1) ((t.kid 0).kid 0) (f0.1.kid (Ex.kid_mem (Ex.kid_get hk1))) (Ex.right_kid f0.2 (Ex.kid_mem (Ex.kid_get hk1)))
   simp only [c9, decide_true, if_true, e0, ob_some', exx, p, isAggN_Ex, og_true']
  ·simp only [c9, decide_false, Bool.false_eq_true, if_false]
 by_cases c11 : t.kind = 11
 ·have h2 : t.kids.length = 2 := by rw [c11] at hlen; simp [eKids] at hlen; omega
  have p := sp_erase_put t.name (t.kid 0) (t.kid 1) (fk 1 (by omega)).1 (fk 1 (by omega)).2
  simp only [c11, Int.reduceEq, decide_false, decide_true, Bool.false_eq_true, if_false, if_true, d0 (by omega), d1 (by omega), ob_some', Ex.proj3 t, exx, p, isAggN_Ex, og_true']
 by_cases c12 : t.kind = 12
 ·have h2 : t.kids.length = 2 := by rw [c12] at hlen; simp [eKids] at hlen; omega
  have p := sp_erase_put t.name (t.recE (t.kid 0)) (t.kid 1) (fk 1 (by omega)).1 (fk 1 (by omega)).2
  have r := sp_erase_rec t (by omega)
  simp only [c12, Int.reduceEq, decide_false, decide_true, Bool.false_eq_true, if_false, if_true, d1 (by omega), ob_some', Ex.proj3 t, exx, p, r, isAggN_Ex, og_true']
 by_cases c13 : t.kind = 13
 ·have h2 : t.kids.length = 3 := by rw [c13] at hlen; simp [eKids] at hlen; omega
  simp only [c13, Int.reduceEq, decide_false, decide_true, Bool.false_eq_true, if_false, if_true, d0 (by omega), ob_some', Ex.proj0 (t.kid 0), Ex.proj5 (t.kid 0), dBin_eql, oif_bool]
  by_cases c3 : (t.kid 0).kind = 3
  ·have n01 := Ex.truth3 (fk 0 (by omega)).2 c3
   have sb : dBin .sub (.int .i64 2) (.int .i64 (t.kid 0).n) = some (.int .i64 ((2 - (t.kid 0).n).toNat : Int)) := by
    rw [dBin_sub]
    rcases n01 with n | n <;> rw [n] <;> rfl
   have dn := kidx t (2 - (t.kid 0).n).toNat (by rcases n01 with n | n <;> rw [n, h2] <;> decide)
   simp only [c3, decide_true, if_true, sb, dn, ob_some', exx]
  ·simp only [c3, decide_false, Bool.false_eq_true, if_false]
 by_cases c16 : t.kind = 16
 ·have h2 : t.kids.length = 2 := by rw [c16] at hlen; simp [eKids] at hlen; omega
  have p := sp_erase_operate t (t.kid 0) (t.kid 1)
  simp only [c16, Int.reduceEq, decide_false, decide_true, Bool.false_eq_true, if_false, if_true, d0 (by omega), d1 (by omega), ob_some', exx, p, isAggN_Ex, isAggN_R3, og_true', dExt_0, dExt_1, r3x]
 by_cases c14 : t.kind = 14
 ·have h14 := Ex.kids14 ht.1 c14
  have m1 : 0 < manyK t.kind := by rw [c14]; decide
  have p := sp_erase_match t ft ht.1 h14 (Ex.arms_fit hB ht hl (by omega) (Ex.many_cl ht 0 m1).2)
  simp only [c14, Int.reduceEq, decide_false, decide_true, Bool.false_eq_true, if_false, if_true, ob_some', exx, p]
  cases ha : (t.kid 0).armE t.pats (t.kids.drop 1) with
  | none => simp only [armD, ob_some', dExt_0, dExt_1, isAggN_Ex, isAggN_R3, og_true', exx, r3x]
  | some x => simp only [armD, ob_some', dExt_0, dExt_1, isAggN_Ex, isAggN_R3, og_true', exx, r3x]
 by_cases c15 : t.kind = 15
 ·have h2 : t.kids.length = 1 := by rw [c15] at hlen; simp [eKids] at hlen; omega
  simp only [c15, Int.reduceEq, decide_false, decide_true, Bool.false_eq_true, if_false, if_true, d0 (by omega), ob_some', exx]
 simp only [c10, c11, c12, c13, c16, c14, c15, decide_false, Bool.false_eq_true, if_false]
theorem step_next (t : Ex) (ft : t.fit) (rt : t.right = true) (m i : Nat) (hi : i < m) (hm : m ≤ 2) (hk : i < t.kids.length) (hv : (t.kid i).val = true) : stepAt t m i = stepAt t m ((i + 1 : Nat) : Int) := by
 have v := sp_erase_value (t.kid i) (ft.kid (Ex.kid_mem (Ex.kid_get hk))) (Ex.right_kid rt (Ex.kid_mem (Ex.kid_get hk)))
 have e1 : dBin .add (.int .i64 (i : Int)) (.int .i64 1) = some (.int .i64 ((i + 1 : Nat) : Int)) := dAdd1 (show i < 9223372036854775807 by omega)
 unfold stepAt
 rw [eq_erase_step_2h]
 simp only [dBin_lss, Int.ofNat_lt, hi, decide_true, ob_some', oif_bool, if_true, Ex.proj15 t, kidx t i hk, exx, v, hv, e1]
theorem step_kid (t : Ex) (ft : t.fit) (rt : t.right = true) (m i : Nat) (hi : i < m) (hk : i < t.kids.length) (hv : (t.kid i).val = false) (x : Ex) (r : R3) (hs : (run cfg).p F_erase_step [(t.kid i).enc] = some (.tup [x.enc, r.enc])) :
 stepAt t m i = some (if r.kind ≠ 0 then .tup [noEx.enc, r.enc] else .tup [(t.withKids (t.kids.set i x)).enc, R3.ok.enc]) := by
 have v := sp_erase_value (t.kid i) (ft.kid (Ex.kid_mem (Ex.kid_get hk))) (Ex.right_kid rt (Ex.kid_mem (Ex.kid_get hk)))
 have a1 : arrIdx 0 (t.kids.map Ex.enc).length (.int .i64 (i : Int)) = some i := by
  show (if (0 : Int) ≤ (i : Int) ∧ (i : Int) < ((t.kids.map Ex.enc).length : Int) then some (0 + (i : Int).toNat) else none) = some i
  rw [List.length_map, if_pos ⟨by omega, by omega⟩]
  simp
 have g1 : (t.kids.map Ex.enc)[i]? = some t.kids[i].enc := by rw [List.getElem?_map, List.getElem?_eq_getElem hk]; rfl
 have hle : t.kids.length ≤ lim := Nat.le_of_lt ft.one.kids
 have sa : sealCell [.arr 16 ((t.kids.map Ex.enc).set i x.enc)] (.undef, .arr 0 16 0 (t.kids.map Ex.enc).length) = some (.list 16 ((t.kids.set i x).map Ex.enc)) := by
  rw [← List.map_set]
  exact sealArr (t.kids.set i x) _ (by simp)
 unfold stepAt
 rw [eq_erase_step_2h]
 simp only [dBin_lss, Int.ofNat_lt, hi, decide_true, ob_some', oif_bool, if_true, Ex.proj15 t, kidx t i hk, exx, v, hv, Bool.false_eq_true, if_false, hs, dExt_0, dExt_1, isAggN_Ex, isAggN_R3, og_true', r3x]
 simp only [r3_kind, dBin_neq, ob_some', oif_bool]
 by_cases hz : r.kind = 0
 ·simp only [hz, decide_true, Bool.not_true, Bool.false_eq_true, if_false, ne_eq, not_true, dList_list, ob_some', BEq.rfl, Bool.true_and, List.length_map, hle, og_true']
  simp only [List.length_map] at a1 sa
  simp only [a1, g1, ob_some', sealCells, sa, sealVal, retL, seqO, Ex.pj t]
  rw [Ex.withKids_enc]
  rfl
 ·simp only [hz, decide_false, Bool.not_false, if_true, ne_eq, not_false_eq_true, noEx_agg]
theorem sp_erase_step (B : Nat) (hB : B ≤ 4294960000) (t : Ex) : t.cl → t.lean B → (run cfg).p F_erase_step [t.enc] = some (.tup [t.stepE.1.enc, t.stepE.2.enc]) := by
 induction t using Ex.ind with
 | h t ih =>
   intro ht hl
   have ft := Ex.right_fit hB t ht.1 hl
   have m2 := manyK_le t.kind
   have start : P_erase_step (run cfg) t.enc = stepAt t (manyK t.kind) ((0 : Nat) : Int) := by
    rw [eq_erase_step]
    simp only [isAggN_Ex, og_true', Ex.proj0 t, sp_erase_many, ob_some']
    rfl
   have past : ∀ i, i ≤ manyK t.kind → (∀ j, j < i → (t.kid j).val = true) → stepAt t (manyK t.kind) ((0 : Nat) : Int) = stepAt t (manyK t.kind) (i : Int) := by
    intro i
    induction i with
    | zero => intro _ _; rfl
    | succ i ihi =>
      intro hi hj
      rw [ihi (by omega) fun j h => hj j (by omega)]
      exact step_next t ft ht.1 _ i (by omega) m2 (Ex.many_cl ht i (by omega)).1 (hj i (by omega))
   refine call_erase_step _ ?_
   rw [start]
   rcases Ex.due_cases t with ⟨i, hd, hi, hv, hj⟩ | ⟨hd, hj⟩
   ·obtain ⟨hk, hc⟩ := Ex.many_cl ht i hi
    have hs := ih _ (Ex.kid_mem (Ex.kid_get hk)) hc (Ex.kid_lean hl i)
    rw [past i (by omega) hj, step_kid t ft ht.1 _ i hi hk hv _ _ hs, Ex.stepE_eq t, hd]
    simp only [Ex.step_at hk]
    by_cases hz : (t.kid i).stepE.2.kind = 0
    ·simp only [hz, ne_eq, not_true, if_false]
    ·simp only [ne_eq, hz, not_false_eq_true, if_true]
   ·rw [past _ (Nat.le_refl _) hj, step_done B hB t ht hl, Ex.stepE_eq t, hd]
end Go.Su

/-
 The functions' specs that this claim needs.
-/
namespace Go.Su
set_option linter.unusedVariables false
set_option linter.unusedSimpArgs false
theorem sp_typ_arity (k : Int) : (run cfg).p F_typ_arity [.int .i64 k] = some (.int .i64 (arity k)) := by
 refine call_typ_arity _ ?_
 rw [eq_typ_arity]
 simp [arity]
 by_cases h1 : k = 1 <;> by_cases h2 : k = 2 <;> by_cases h3 : k = 3 <;> by_cases h4 : k = 4 <;> by_cases h5 : k = 5 <;> by_cases h6 : k = 6 <;> by_cases h7 : k = 7 <;> by_cases h8 : k = 8 <;> by_cases h9 : k = 9 <;> simp_all
theorem sp_typ_right (t : Ty) : t.thin = true → (run cfg).p F_typ_right [t.enc] = some (.bool t.right) := by
 induction t using Ty.ind with
 | h t ih =>
   intro ht
   have hb := t.thin_len ht
   refine call_typ_right _ ?_
   have loop : P_typ_right_9h (run cfg) (.list 3 (t.kids.map Ty.enc)) (.int .i64 t.kids.length) (.int .i64 0) = _ := loop_all (l := t.kids) (f := Ty.right) (P := fun i => P_typ_right_9h (run cfg) (.list 3 (t.kids.map Ty.enc)) (.int .i64 t.kids.length) (.int .i64 i)) (y := .bool true) (n := .bool false)
    (by rw [eq_typ_right_9h]; simp)
    (fun i h => by
      rw [eq_typ_right_9h]
      simp [h, dIdx_map h, Ty.eta, Ty.ag, ih _ (List.getElem_mem h) (Ty.thin_kid ht (List.getElem_mem h)), dAdd1 (show i < 9223372036854775807 by omega)]
      cases t.kids[i].right <;> rfl)
   rw [eq_typ_right]
   simp only [isAggN_Ty, og_true', Ty.proj0, Ty.proj1, Ty.proj2, sp_typ_arity, ob_some', dLen_list, dBin_neq, dBin_lss, dBin_gtr, dBin_geq, dBin_leq, dBin_eql, ogd_bool, oif_bool, loop, Ty.right_eq t, List.length_map]
   have h0 : t.kind = 6 → arity t.kind = 0 := fun h => by rw [h]; rfl
   have h7 : t.kind = 6 → arity t.kind = t.kids.length → t.kids.all Ty.right = true := fun h h' => by
    have : t.kids = [] := List.eq_nil_of_length_eq_zero (by have := h0 h; omega)
    rw [this]; rfl
   have h8 : (t.kids.length : Int) = arity t.kind ↔ arity t.kind = t.kids.length := eq_comm
   simp only [h8, ite_sb, ite_db]
   refine sb_iff ?_
   by_cases h1 : arity t.kind = t.kids.length
   ·have h2 : ¬ (arity t.kind < 0) := by omega
    by_cases h4 : t.kind = 6
    ·simp [h1, h2, h4, h7 h4 h1]
     omega
    ·by_cases h5 : t.n = 0 <;> simp [h1, h2, h4, h5]
   ·by_cases h2 : arity t.kind < 0 <;> simp [h1, h2]
theorem sp_typ_Check (t : Ty) (ht : t.thin = true) : (run cfg).p F_typ_Check [t.enc] = some (.int .i64 (if t.right = true then 0 else 1)) := by
 refine call_typ_Check _ ?_
 rw [eq_typ_Check]
 simp [Ty.eta, Ty.ag, sp_typ_right t ht]
 cases t.right <;> rfl
theorem sp_typ_without (q : Int) (t : Ty) : t.thin = true → (run cfg).p F_typ_without [t.enc, .int .i64 q] = some (.bool (t.without q)) := by
 induction t using Ty.ind with
 | h t ih =>
   intro ht
   have hb := t.thin_len ht
   refine call_typ_without _ _ ?_
   have loop : P_typ_without_4h (run cfg) (.int .i64 q) (.list 3 (t.kids.map Ty.enc)) (.int .i64 t.kids.length) (.int .i64 0) = _ := loop_allB (l := t.kids) (f := Ty.without q) (P := fun i => P_typ_without_4h (run cfg) (.int .i64 q) (.list 3 (t.kids.map Ty.enc)) (.int .i64 t.kids.length) (.int .i64 i))
    (by rw [eq_typ_without_4h]; simp)
    (fun i h => by
      rw [eq_typ_without_4h]
      simp [h, dIdx_map h, Ty.eta, Ty.ag, ih _ (List.getElem_mem h) (Ty.thin_kid ht (List.getElem_mem h)), dAdd1 (show i < 9223372036854775807 by omega)]
      cases (t.kids[i].without q) <;> rfl)
   rw [eq_typ_without]
   simp only [loop, isAggN_Ty, og_true', Ty.proj0, Ty.proj2, ob_some', dLen_list, dBin_eql, oif_bool, List.length_map, Ty.without_eq q t]
   by_cases h1 : t.kind = q <;> simp [h1]
theorem sp_typ_Closed (t : Ty) (ht : t.thin = true) : (run cfg).p F_typ_Closed [t.enc] = some (.bool (t.without 6)) := by
 refine call_typ_Closed _ ?_
 rw [eq_typ_Closed]
 simp [Ty.eta, Ty.ag, sp_typ_without 6 t ht]
theorem sp_word_Key (s : ByteArray) : (run cfg).p F_word_Key [.str s] = some (.bool (keyB s)) := by
 refine call_word_Key _ ?_
 rw [eq_word_Key]
 have e : ∀ l : List UInt8, (s = ⟨l.toArray⟩) ↔ s.data.toList = l := fun l => by
  constructor
  ·rintro rfl; simp
  ·intro h; cases s; simp only [ByteArray.mk.injEq]; exact Array.ext' (by simpa using h)
 simp only [dBin_seql, ob_some', oif_bool]
 simp only [e, keyB, keyL, List.mem_cons, List.not_mem_nil, or_false]
 simp only [decide_eq_true_eq, ite_s, ite_db, Bool.if_true_left, Bool.decide_or, Bool.or_false]
theorem sp_word_inner (c : Int) : (run cfg).p F_word_inner [.int .u8 c] = some (.bool (partB c)) := by
 refine call_word_inner _ ?_
 rw [eq_word_inner]
 simp only [dBin_geq, dBin_leq, dBin_eql, ob_some', ogd_bool, decide_eq_true_eq, partB, lowerB, digitB]
 by_cases h1 : 97 ≤ c <;> by_cases h2 : c ≤ 122 <;> by_cases h3 : 65 ≤ c <;> by_cases h4 : c ≤ 90 <;> by_cases h5 : 48 ≤ c <;> by_cases h6 : c ≤ 57 <;> by_cases h7 : c = 95 <;> simp [h1, h2, h3, h4, h5, h6, h7]
theorem str_big {s : ByteArray} (h : s.size ≤ lim) : (bts s).length < 4294967297 := by rw [bts_len]; exact big h
theorem sp_word_Name (s : ByteArray) (hs : s.size ≤ lim) : (run cfg).p F_word_Name [.str s] = some (.bool (nameB s)) := by
 have hb := str_big hs
 refine call_word_Name _ ?_
 rw [eq_word_Name]
 simp only [dLenS_str, ob_some', dBin_lss, dBin_gtr, ogd_bool, oif_bool, decide_eq_true_eq, nameB, ← bts_len]
 by_cases h1 : ((bts s).length : Int) < 1
 ·have : ¬ (1 ≤ (bts s).length) := by omega
  simp [h1, this]
 ·by_cases h2 : (32 : Int) < ((bts s).length : Int)
  ·have : ¬ ((bts s).length ≤ 32) := by omega
   simp [h1, h2, this]
  ·have h0 : 0 < (bts s).length := by omega
   have e0 := dStr_idx (s := s) (k := .i64) h0
   simp only [Int.natCast_zero, Int.ofNat_zero, Int.cast_ofNat_Int] at e0
   have loop : ∀ (k i : Nat), i + k = (bts s).length → P_word_Name_4h (run cfg) (.str s) (.int .i64 i) = some (.bool (((bts s).drop i).all partB)) := by
    intro k
    induction k with
    | zero =>
      intro i hi
      rw [eq_word_Name_4h]
      have : ¬ i < (bts s).length := by omega
      simp [← bts_len, this, List.drop_of_length_le (show (bts s).length ≤ i by omega)]
    | succ k ih =>
      intro i hi
      have h : i < (bts s).length := by omega
      rw [eq_word_Name_4h]
      have := ih (i + 1) (by omega)
      push_cast at this
      have hlt : (i : Int) < (s.size : Int) := by rw [← bts_len]; omega
      rw [List.drop_eq_getElem_cons h, List.all_cons]
      simp only [dLenS_str, ob_some', dBin_lss, hlt, decide_true, oif_bool, if_true, dStr_idx h, sp_word_inner, dUn_not, dAdd1 (show i < 9223372036854775807 by omega)]
      push_cast
      rw [this]
      cases partB (bts s)[i] <;> rfl
   have l1 := loop ((bts s).length - 1) 1 (by omega)
   simp only [Int.natCast_one, Int.ofNat_one, Int.cast_ofNat_Int] at l1
   have g0 : (bts s).getD 0 0 = (bts s)[0] := by simp [List.getD_eq_getElem?_getD, h0]
   have d0 : bts s = (bts s)[0] :: (bts s).drop 1 := by
    have := List.drop_eq_getElem_cons h0
    simpa using this
   have a1 : (1 ≤ (bts s).length) := by omega
   have a2 : ((bts s).length ≤ 32) := by omega
   have e0' : dStrIdx (.str s) (.int .i64 0) = some (.int .u8 (bts s)[0]) := e0
   simp only [h1, h2, if_false, e0', ob_some', dBin_lss, dBin_gtr, ogd_bool, decide_eq_true_eq, sp_word_Key, oif_bool, g0, a1, a2, decide_true, Bool.true_and]
   by_cases h3 : (bts s)[0] < 97
   ·have : lowerB (bts s)[0] = false := by simp [lowerB]; omega
    simp [h3, this]
   ·by_cases h4 : (122 : Int) < (bts s)[0]
    ·have : lowerB (bts s)[0] = false := by simp [lowerB]; omega
     simp [h3, h4, this]
    ·have h5 : lowerB (bts s)[0] = true := by simp [lowerB]; omega
     have h6 : partB (bts s)[0] = true := by simp [partB, h5]
     have h7 : (bts s).all partB = ((bts s).drop 1).all partB := by
      conv => lhs; rw [d0]
      simp [h6]
     cases hk : keyB s
     ·simp only [h3, h4, if_false, Bool.false_eq_true, h5, h7, Bool.true_and, Bool.not_false, Bool.and_true]
      exact l1
     ·simp [h3, h4]
theorem nil_str : (.str ⟨#[]⟩ : DV) = .str nil8 := rfl
theorem sp_tree_onePat (p : Pat) (hp : p.texts) : (run cfg).p F_tree_onePat [p.enc] = some (.bool p.one) := by
 obtain ⟨hn, hs⟩ := hp
 have h24 : ∀ (t4 : Int) (a b c g : DV) (nm : ByteArray) (n : Int) (s : ByteArray), P_tree_onePat_24 (run cfg) (.int .i64 t4) p.enc a b c (.str nm) (.int .i64 n) (.str s) g =
  some (.bool (decide ((p.kids.length : Int) = t4) && decide (nm = p.name) && decide (n = p.n) && decide (s = p.s))) := by
  intro t4 a b c g nm n s
  rw [eq_tree_onePat_24]
  simp only [Pat.proj6, Pat.proj3, Pat.proj4, Pat.proj5, dLen_list, List.length_map, ob_some', dBin_eql, dBin_seql, ogd_bool, decide_eq_true_eq]
  by_cases h1 : (p.kids.length : Int) = t4 <;> by_cases h2 : nm = p.name <;> by_cases h3 : n = p.n <;> simp [h1, h2, h3]
 refine call_tree_onePat _ ?_
 rw [eq_tree_onePat]
 have hs' : dBin .gtr (.int .i64 (p.s.size : Int)) (.int .i64 200) = some (.bool (decide (200 < p.s.size))) := by
  rw [dBin_gtr]; congr 2; rw [decide_eq_decide]; omega
 simp only [isAggN_Pat, og_true', Pat.pj, isCell_int, isCell_str, isCell_list, dBin_eql, dBin_neq, ob_some', oif_bool, ogd_bool, sp_word_Name p.name (by unfold lim; omega), dUn_not, dLenS_str, hs', h24, nil_str]
 unfold Pat.one
 by_cases k1 : p.kind = 1
 ·simp [k1, eq_comm]
 by_cases k6 : p.kind = 6
 ·simp [k6, eq_comm]
 by_cases k8 : p.kind = 8
 ·simp [k8, eq_comm]
 by_cases k2 : p.kind = 2
 ·cases hnm : nameB p.name <;> simp [k2, hnm, eq_comm]
 by_cases k3 : p.kind = 3
 ·simp [k3, eq_comm]
 by_cases k4 : p.kind = 4
 ·by_cases n0 : p.n = 0
  ·simp [k4, n0, eq_comm]
  ·by_cases n1 : p.n = 1 <;> simp [k4, n0, n1, eq_comm]
 by_cases k5 : p.kind = 5
 ·by_cases h : 200 < p.s.size
  ·have : ¬ p.s.size ≤ 200 := by omega
   simp [k5, h, this]
  ·have : p.s.size ≤ 200 := by omega
   simp [k5, h, this, eq_comm]
 have h2 : decide (2 = (p.kids.length : Int)) = decide (2 = p.kids.length) := by rw [decide_eq_decide]; omega
 by_cases k7 : p.kind = 7
 ·simp [k7, eq_comm, h2]
 by_cases k9 : p.kind = 9
 ·simp [k9, eq_comm, h2]
 simp [k1, k2, k3, k4, k5, k6, k7, k8, k9]
def hasS (l : List ByteArray) (n : ByteArray) : Bool := l.any fun x => decide (x = n)
theorem hasS_iff {l : List ByteArray} {n : ByteArray} : hasS l n = true ↔ n ∈ l := by simp [hasS]
def cntS (es : List (DV × DV)) (s : ByteArray) : DV := (mGet es (.str s)).getD (.int .i64 0)
def cpSg (a b c e : SObj) (n : Int) (es : List (DV × DV)) : List SObj := [a, .box [(.int .i64 n, .val)], .map true es, .box [(.undef, .map 2)], e]
theorem cp_end (t0 t6 : DV) (a b c e : SObj) (n : Int) (es : List (DV × DV)) : X_tree_CheckPat_r0 (run cfg) t0 t6 .ret (cpSg a b c e n es) = some (.int .i64 n) := by
 rw [eq_X_tree_CheckPat_r0_ret]
 rfl
theorem cp_norm (t0 t6 : DV) (a b c e : SObj) (n : Int) (es : List (DV × DV)) : X_tree_CheckPat_r0 (run cfg) t0 t6 .normal (cpSg a b c e n es) = some (.int .i64 0) := by
 rw [eq_X_tree_CheckPat_r0_normal]
 rfl
theorem cp_rounds (t0 t6 : DV) (a b c e : SObj) : ∀ (ps : List Pat) (pre : List ByteArray) (es : List (DV × DV)), (∀ q ∈ ps, q.texts) → pre.Nodup → (∀ s, cntS es s = .int .i64 (if hasS pre s = true then 1 else 0)) →
 I_tree_CheckPat_r0 (run cfg) t0 t6 (ps.map Pat.enc) (cpSg a b c e 0 es) = some (.int .i64 (if ps.all Pat.one = true ∧ (pre ++ ps.flatMap nmOf).Nodup then 0 else 1))
 | [], pre, es, _, hn, _ => by
   rw [List.map_nil, I_tree_CheckPat_r0_nil, cp_norm]
   simp [hn]
 | q :: ps, pre, es, hx, hn, hc => by
   rw [List.map_cons, I_tree_CheckPat_r0_cons, eq_B_tree_CheckPat_r0]
   have hq := hx q (List.mem_cons_self ..)
   simp only [isAggN_Pat, og_true', Pat.pj, Pat.eta, Pat.ag, sp_tree_onePat q hq, ob_some', dUn_not, ogd_bool, dBin_eql]
   have sg1 : sgBox (cpSg a b c e 0 es) 1 = some [(.int .i64 0, .val)] := rfl
   have sg3 : sgBox (cpSg a b c e 0 es) 3 = some [(.undef, .map 2)] := rfl
   have set1 : (cpSg a b c e 0 es).set 1 (.box ([((.int .i64 0 : DV), Meta.val)].set 0 (.int .i64 1, .val))) = cpSg a b c e 1 es := rfl
   have g0 : [((.int .i64 0 : DV), Meta.val)][0]? = some (.int .i64 0, .val) := rfl
   have cm : cellMap [((.undef : DV), Meta.map 2)] 0 = some 2 := rfl
   have sm : sgMap (cpSg a b c e 0 es) 2 = some (true, es) := rfl
   cases h1 : q.one
   ·simp only [Bool.not_false, if_true, sg1, ob_some', g0, set1, cp_end]
    simp [h1]
   ·simp only [Bool.not_true, Bool.false_eq_true, if_false]
    have rest : ∀ (pre' : List ByteArray) (es' : List (DV × DV)), pre'.Nodup → (∀ s, cntS es' s = .int .i64 (if hasS pre' s = true then 1 else 0)) →
     I_tree_CheckPat_r0 (run cfg) t0 t6 (ps.map Pat.enc) (cpSg a b c e 0 es') = some (.int .i64 (if ps.all Pat.one = true ∧ (pre' ++ ps.flatMap nmOf).Nodup then 0 else 1)) :=
     fun pre' es' h h' => cp_rounds t0 t6 a b c e ps pre' es' (fun x hx' => hx x (List.mem_cons_of_mem _ hx')) h h'
    rw [eq_tree_CheckPat_6]
    simp only [Pat.proj0, Pat.proj3, dBin_eql, ob_some', oif_bool, decide_eq_true_eq]
    by_cases h2 : q.kind = 2
    ·have hcq := hc q.name
     unfold cntS at hcq
     have sm' : (cpSg a b c e 0 es).set 2 (.map true (mSet es (.str q.name) (.int .i64 1))) = cpSg a b c e 0 (mSet es (.str q.name) (.int .i64 1)) := rfl
     simp only [h2, if_true, sg3, ob_some', cm, isKey_str, Bool.and_true, og_true', sm, BEq.rfl, hcq, dBin_gtr, oif_bool, decide_eq_true_eq]
     by_cases h3' : hasS pre q.name = true
     ·have h3 := hasS_iff.1 h3'
      simp only [h3', if_true, show (0 : Int) < 1 by omega, decide_true, sg1, ob_some', g0, set1, cp_end]
      have : ¬ (pre ++ (q :: ps).flatMap nmOf).Nodup := by
       simp only [List.flatMap_cons, nmOf, h2, if_true, List.singleton_append, List.nodup_append]
       rintro ⟨-, -, h⟩
       exact h q.name h3 q.name (List.mem_cons_self ..) rfl
      rw [if_neg (fun h => this h.2)]
     ·have h3 : q.name ∉ pre := fun h => h3' (hasS_iff.2 h)
      simp only [h3', if_false, show ¬ (0 : Int) < 0 by omega, decide_false, Bool.false_eq_true]
      rw [dAdd (by omega) (by omega)]
      simp only [ob_some', Int.zero_add]
      rw [sm', rest (pre ++ [q.name]) _ (by rw [List.nodup_append]; refine ⟨hn, by simp, ?_⟩; rintro x hx' y hy rfl; simp at hy; exact h3 (hy ▸ hx')) ?_]
      ·simp [List.flatMap_cons, nmOf, h2, h1]
      ·intro s
       unfold cntS
       rw [mGet_set]
       have := hc s
       unfold cntS at this
       by_cases h4 : q.name = s
       ·have : hasS (pre ++ [q.name]) s = true := hasS_iff.2 (by simp [h4])
        rw [if_pos h4, if_pos this]
        rfl
       ·have e : hasS (pre ++ [q.name]) s = hasS pre s := by simp [hasS, h4]
        simp only [if_neg h4, e]
        exact this
    ·simp only [h2, if_false]
     rw [rest pre es hn hc]
     simp [List.flatMap_cons, nmOf, h2, h1]
theorem sp_tree_CheckPat (p : Pat) (ht : p.thin = true) (hx : p.txt) : (run cfg).p F_tree_CheckPat [p.enc] = some (.int .i64 (if p.right = true then 0 else 1)) := by
 refine call_tree_CheckPat _ ?_
 rw [eq_tree_CheckPat]
 simp only [isAggN_Pat, og_true', Pat.pj, Pat.eta, Pat.ag]
 rw [eq_tree_CheckPat_r0]
 obtain ⟨n, hn⟩ := flat_Pat p ht
 rw [Pat.enc_eq] at hn
 simp only [sgBox, List.getElem?_cons_succ, List.getElem?_cons_zero, ob_some', allDat, og_true', flatD_of hn]
 have := cp_rounds p.enc p.enc (.box [(.int .i64 p.kind, .val), (.int .i64 p.lo, .val), (.int .i64 p.hi, .val), (.str p.name, .val), (.int .i64 p.n, .val), (.str p.s, .val), (.list 7 (p.kids.map Pat.enc), .val)])
  (.arr 1 []) (.arr 1 []) (.arr 1 []) p.subs [] [] (fun q hq => hx q hq) (by simp) (fun s => rfl)
 refine this.trans ?_
 congr 2
 have e : p.right = true ↔ (p.subs.all Pat.one = true ∧ (([] : List ByteArray) ++ p.subs.flatMap nmOf).Nodup) := by
  unfold Pat.right Pat.names
  rw [Pat.pat_subs, Pat.namesOn_subs]
  simp
 by_cases h : p.right = true
 ·rw [if_pos h, if_pos (e.1 h)]
 ·rw [if_neg h, if_neg (fun h' => h (e.2 h'))]
theorem dApp_strs {a b : List ByteArray} (h : a.length + b.length ≤ lim) : dApp 1 (encStrs a) (encStrs b) = some (encStrs (a ++ b)) := by
 show dApp 1 (.list 1 (a.map DV.str)) (.list 1 (b.map DV.str)) = _
 rw [dApp_list (by simpa using h)]
 simp [encStrs]
def cn (L : List ByteArray) (s : ByteArray) : Int := ((L.countP fun x => decide (x = s)) : Nat)
theorem cn_pos (L : List ByteArray) (s : ByteArray) : 0 ≤ cn L s := by unfold cn; omega
theorem cn_le (L : List ByteArray) (s : ByteArray) : cn L s ≤ L.length := by
 unfold cn
 have := List.countP_le_length (p := fun x => decide (x = s)) (l := L)
 omega
theorem cn_zero (L : List ByteArray) (s : ByteArray) : decide (cn L s = 0) = !(L.any fun x => decide (x = s)) := by
 unfold cn
 rw [Bool.eq_iff_iff]
 simp only [decide_eq_true_eq, Bool.not_eq_true', List.any_eq_false, decide_eq_true_eq]
 rw [show ((L.countP fun x => decide (x = s) : Nat) : Int) = 0 ↔ (L.countP fun x => decide (x = s)) = 0 by omega, List.countP_eq_zero]
 simp
theorem cn_inc {es : List (DV × DV)} {L : List ByteArray} (h : CntS es (cn L)) (s : ByteArray) : CntS (mSet es (.str s) (.int .i64 (cn L s + 1))) (cn (L ++ [s])) := by
 intro v
 rw [h.set s (cn L s + 1) v]
 congr 1
 unfold cn
 by_cases e : s = v
 ·subst e; simp [List.countP_append]
 ·simp [List.countP_append, e]
theorem cn_dec {es : List (DV × DV)} {A D : List ByteArray} {s : ByteArray} (h : CntS es (cn (A ++ s :: D))) : CntS (mSet es (.str s) (.int .i64 (cn (A ++ s :: D) s - 1))) (cn (A ++ D)) := by
 intro v
 rw [h.set s (cn (A ++ s :: D) s - 1) v]
 congr 1
 unfold cn
 by_cases e : s = v
 ·subst e; simp [List.countP_append]; omega
 ·simp [List.countP_append, e]
def shapeX (k : Int) (np : Nat) : DV := .agg [.bool (eName k), .bool (eArg k), .bool (eN k), .bool (eS k), .bool (eOp k), .bool (eA k), .bool (eB k), .bool (eMust k), .int .i64 (eKids k np)]
theorem sp_tree_shapeOf (t : Ex) (ht : t.fit1) : ∃ d, (run cfg).p F_tree_shapeOf [t.enc] = some (.tup [d, .bool (eOk t.kind t.pats.length)]) ∧ (eOk t.kind t.pats.length = true → d = shapeX t.kind t.pats.length) ∧ isAggN 9 d = true := by
 have hp := big (Nat.le_of_lt ht.pats)
 suffices h : ∃ d, P_tree_shapeOf (run cfg) t.enc = some (.tup [d, .bool (eOk t.kind t.pats.length)]) ∧ (eOk t.kind t.pats.length = true → d = shapeX t.kind t.pats.length) ∧ isAggN 9 d = true by
  obtain ⟨d, h1, h2⟩ := h
  exact ⟨d, call_tree_shapeOf _ h1, h2⟩
 rw [eq_tree_shapeOf]
 have fl : ∀ {a b c d e f g h : Bool} {n : Int}, isAggN 9 (.agg [.bool a, .bool b, .bool c, .bool d, .bool e, .bool f, .bool g, .bool h, .int .i64 n]) = true := rfl
 by_cases k14 : t.kind = 14
 ·have h1 : dBin .add (.int .i64 (t.pats.length : Int)) (.int .i64 1) = some (.int .i64 ((t.pats.length : Int) + 1)) := dAdd (by omega) (by omega)
  simp [k14, h1, eOk, shapeX, eName, eArg, eN, eS, eOp, eA, eB, eMust, eKids, fl]
 by_cases k1 : t.kind = 1
 ·simp [k1, eOk, shapeX, eName, eArg, eN, eS, eOp, eA, eB, eMust, eKids, fl]
 by_cases k2 : t.kind = 2
 ·simp [k2, eOk, shapeX, eName, eArg, eN, eS, eOp, eA, eB, eMust, eKids, fl]
 by_cases k3 : t.kind = 3
 ·simp [k3, eOk, shapeX, eName, eArg, eN, eS, eOp, eA, eB, eMust, eKids, fl]
 by_cases k4 : t.kind = 4
 ·simp [k4, eOk, shapeX, eName, eArg, eN, eS, eOp, eA, eB, eMust, eKids, fl]
 by_cases k5 : t.kind = 5
 ·simp [k5, eOk, shapeX, eName, eArg, eN, eS, eOp, eA, eB, eMust, eKids, fl]
 by_cases k6 : t.kind = 6
 ·simp [k6, eOk, shapeX, eName, eArg, eN, eS, eOp, eA, eB, eMust, eKids, fl]
 by_cases k7 : t.kind = 7
 ·simp [k7, eOk, shapeX, eName, eArg, eN, eS, eOp, eA, eB, eMust, eKids, fl]
 by_cases k8 : t.kind = 8
 ·simp [k8, eOk, shapeX, eName, eArg, eN, eS, eOp, eA, eB, eMust, eKids, fl]
 by_cases k9 : t.kind = 9
 ·simp [k9, eOk, shapeX, eName, eArg, eN, eS, eOp, eA, eB, eMust, eKids, fl]
 by_cases k10 : t.kind = 10
 ·simp [k10, eOk, shapeX, eName, eArg, eN, eS, eOp, eA, eB, eMust, eKids, fl]
 by_cases k11 : t.kind = 11
 ·simp [k11, eOk, shapeX, eName, eArg, eN, eS, eOp, eA, eB, eMust, eKids, fl]
 by_cases k12 : t.kind = 12
 ·simp [k12, eOk, shapeX, eName, eArg, eN, eS, eOp, eA, eB, eMust, eKids, fl]
 by_cases k13 : t.kind = 13
 ·simp [k13, eOk, shapeX, eName, eArg, eN, eS, eOp, eA, eB, eMust, eKids, fl]
 by_cases k15 : t.kind = 15
 ·simp [k15, eOk, shapeX, eName, eArg, eN, eS, eOp, eA, eB, eMust, eKids, fl]
 by_cases k16 : t.kind = 16
 ·simp [k16, eOk, shapeX, eName, eArg, eN, eS, eOp, eA, eB, eMust, eKids, fl]
 ·have hk : eOk t.kind t.pats.length = false := by
   unfold eOk
   rw [Bool.eq_false_iff]
   intro h
   simp only [Bool.and_eq_true, decide_eq_true_eq] at h
   omega
  simp [hk, k1, k2, k3, k4, k5, k6, k7, k8, k9, k10, k11, k12, k13, k14, k15, k16, fl]
theorem sp_tree_none (t : Ty) : (run cfg).p F_tree_none [t.enc] = some (.bool t.none) := by
 refine call_tree_none _ ?_
 rw [eq_tree_none]
 simp [Ty.none]
 by_cases h1 : t.kind = 0 <;> by_cases h2 : t.n = 0 <;> simp [h1, h2]
theorem sp_tree_closed (t : Ty) (ht : t.thin = true) : (run cfg).p F_tree_closed [t.enc] = some (.bool t.closed) := by
 refine call_tree_closed _ ?_
 rw [eq_tree_closed]
 simp [Ty.eta, Ty.ag, sp_typ_Check t ht, sp_typ_Closed t ht, Ty.closed]
 cases t.right <;> simp
theorem sp_tree_one (t : Ex) (ht : t.fit1) : (run cfg).p F_tree_one [t.enc] = some (.bool t.one) := by
 refine call_tree_one _ ?_
 obtain ⟨d, h1, h2, h3⟩ := sp_tree_shapeOf t ht
 have hp := big (Nat.le_of_lt ht.pats)
 rw [eq_tree_one]
 have x0 : ∀ b, dExt 0 (.tup [d, .bool b]) = some d := fun _ => rfl
 have x1 : ∀ b, dExt 1 (.tup [d, .bool b]) = some (.bool b) := fun _ => rfl
 simp only [isAggN_Ex, og_true', Ex.pj, Ex.eta, Ex.ag, Ty.eta, Ty.ag, h1, x0, x1, ob_some', h3, dUn_not, ogd_bool]
 cases hk : eOk t.kind t.pats.length
 ·simp [Ex.one, hk]
 rw [h2 hk]
 have p0 : proj 0 (shapeX t.kind t.pats.length) = .bool (eName t.kind) := rfl
 have p1 : proj 1 (shapeX t.kind t.pats.length) = .bool (eArg t.kind) := rfl
 have p2 : proj 2 (shapeX t.kind t.pats.length) = .bool (eN t.kind) := rfl
 have p3 : proj 3 (shapeX t.kind t.pats.length) = .bool (eS t.kind) := rfl
 have p4 : proj 4 (shapeX t.kind t.pats.length) = .bool (eOp t.kind) := rfl
 have p5 : proj 5 (shapeX t.kind t.pats.length) = .bool (eA t.kind) := rfl
 have p6 : proj 6 (shapeX t.kind t.pats.length) = .bool (eB t.kind) := rfl
 have p7 : proj 7 (shapeX t.kind t.pats.length) = .bool (eMust t.kind) := rfl
 have p8 : proj 8 (shapeX t.kind t.pats.length) = .int .i64 (eKids t.kind t.pats.length) := rfl
 have l := loop_allB (l := t.pats) (f := Pat.right) (P := fun i => P_tree_one_19h (run cfg) (.list 7 (t.pats.map Pat.enc)) (.int .i64 t.pats.length) (.int .i64 i))
  (by rw [eq_tree_one_19h]; simp)
  (fun i h => by
    rw [eq_tree_one_19h]
    have f := ht.pat _ (List.getElem_mem h)
    simp [h, dIdx_map h, Pat.eta, Pat.ag, sp_tree_CheckPat _ (Pat.fit_thin f) f.txt, dAdd1 (show i < 9223372036854775807 by omega)]
    cases t.pats[i].right <;> rfl)
 have h18 : P_tree_one_18 (run cfg) t.enc = some (.bool t.one8) := by
  rw [eq_tree_one_18]
  simp only [Ex.proj14, dLen_list, List.length_map, ob_some']
  exact l
 have h16 : P_tree_one_16 (run cfg) t.enc (shapeX t.kind t.pats.length) = some (.bool t.one7) := by
  rw [eq_tree_one_16]
  simp only [p6, Ex.proj11, Ex.proj12, Ex.proj13, Ty.eta, Ty.ag, sp_tree_none, sp_tree_closed _ ht.b, h18, ob_some', dUn_not, ogd_bool, oif_bool, Ex.one7, noteB]
  cases t.b.none <;> cases eB t.kind <;> cases t.b.closed <;> simp
 have h14 : P_tree_one_14 (run cfg) t.enc (shapeX t.kind t.pats.length) = some (.bool t.one6) := by
  rw [eq_tree_one_14]
  simp only [p5, p7, Ex.proj8, Ex.proj9, Ex.proj10, Ty.eta, Ty.ag, sp_tree_none, sp_tree_closed _ ht.a, h16, ob_some', dUn_not, ogd_bool, oif_bool, Ex.one6, noteB]
  cases t.a.none <;> cases eA t.kind <;> cases t.a.closed <;> cases eMust t.kind <;> simp
 have h12 : P_tree_one_12 (run cfg) t.enc (shapeX t.kind t.pats.length) = some (.bool t.one5) := by
  rw [eq_tree_one_12]
  simp only [p4, Ex.proj7, h14, ob_some', dUn_not, ogd_bool, oif_bool, dBin_gtr, dBin_lss, dBin_neq, Ex.one5]
  cases eOp t.kind
  ·by_cases v : t.op = 0 <;> simp [v]
  ·by_cases a : t.op < 1
   ·simp [a, show ¬ 1 ≤ t.op by omega]
   ·by_cases p : 7 < t.op
    ·simp [a, p, show ¬ t.op ≤ 7 by omega]
    ·simp [a, p, show 1 ≤ t.op by omega, show t.op ≤ 7 by omega]
 have hs : ∀ n : Nat, dBin .gtr (.int .i64 (n : Int)) (.int .i64 200) = some (.bool (decide (200 < n))) := fun n => by
  rw [dBin_gtr]; congr 2; rw [decide_eq_decide]; omega
 have h10 : P_tree_one_10 (run cfg) t.enc (shapeX t.kind t.pats.length) = some (.bool t.one4) := by
  rw [eq_tree_one_10]
  simp only [p3, Ex.proj6, h12, ob_some', dUn_not, ogd_bool, oif_bool, dLenS_str, hs, nil_str, dBin_sneq, Ex.one4]
  generalize t.s.size = z
  by_cases a : 200 < z
  ·have : ¬ z ≤ 200 := by omega
   cases eS t.kind <;> by_cases v : t.s = nil8 <;> simp [a, v, this]
  ·have : z ≤ 200 := by omega
   cases eS t.kind <;> by_cases v : t.s = nil8 <;> simp [a, v, this]
 have h8 : P_tree_one_8 (run cfg) t.enc (shapeX t.kind t.pats.length) = some (.bool t.one3) := by
  rw [eq_tree_one_8]
  simp only [p2, Ex.proj5, Ex.proj0, h10, ob_some', dUn_not, ogd_bool, oif_bool, dBin_neq, dBin_eql, Ex.one3]
  cases eN t.kind <;> by_cases v : t.kind = 3 <;> by_cases x : t.n = 0 <;> by_cases y : t.n = 1 <;> simp [v, x, y]
 have h6 : P_tree_one_6 (run cfg) t.enc (shapeX t.kind t.pats.length) = some (.bool t.one2) := by
  rw [eq_tree_one_6]
  simp only [p1, Ex.proj4, h8, sp_word_Name t.arg (by have := ht.arg; unfold lim; omega), ob_some', dUn_not, ogd_bool, oif_bool, dBin_sneq, nil_str, Ex.one2, namedB]
  cases eArg t.kind
  ·by_cases v : t.arg = nil8 <;> simp [v]
  ·cases nameB t.arg <;> simp
 have h4 : P_tree_one_4 (run cfg) t.enc (shapeX t.kind t.pats.length) = some (.bool t.one1) := by
  rw [eq_tree_one_4]
  simp only [p0, Ex.proj3, h6, sp_word_Name t.name (by have := ht.name; unfold lim; omega), ob_some', dUn_not, ogd_bool, oif_bool, dBin_sneq, nil_str, Ex.one1, namedB]
  cases eName t.kind
  ·by_cases v : t.name = nil8 <;> simp [v]
  ·cases nameB t.name <;> simp
 have hg : dBin .gtr (.int .i64 (t.pats.length : Int)) (.int .i64 0) = some (.bool (!decide (t.pats.length = 0))) := by
  rw [dBin_gtr]; congr 2
  by_cases h : t.pats.length = 0
  ·simp [h]
  ·have : (0 : Int) < (t.pats.length : Int) := by omega
   simp [h]
   omega
 simp only [p8, h4, dLen_list, List.length_map, ob_some', ogd_bool, oif_bool, dBin_neq, hg, Ex.one, hk]
 generalize eKids t.kind t.pats.length = ek
 by_cases v : (t.kids.length : Int) = ek <;> by_cases w : t.kind = 14 <;> by_cases u : t.pats.length = 0 <;> simp [v, w, u]
def tcSg (a c : SObj) (n : Int) : List SObj := [a, .box [(.int .i64 n, .val)], c]
theorem tc_rounds (t0 t4 : DV) (a c : SObj) : ∀ (ps : List Ex), (∀ q ∈ ps, q.fit1) →
 I_tree_Check_r0 (run cfg) t0 t4 (ps.map Ex.enc) (tcSg a c 0) = some (.int .i64 (if ps.all Ex.one = true then 0 else 1))
 | [], _ => by
   rw [List.map_nil, I_tree_Check_r0_nil, eq_X_tree_Check_r0_normal]
   rfl
 | q :: ps, h => by
   rw [List.map_cons, I_tree_Check_r0_cons, eq_B_tree_Check_r0]
   have hq := sp_tree_one q (h q (List.mem_cons_self ..))
   have ih := tc_rounds t0 t4 a c ps fun x hx => h x (List.mem_cons_of_mem _ hx)
   simp only [isAggN_Ex, og_true', Ex.pj, Ex.eta, Ex.ag, hq, ob_some', dUn_not, oif_bool, ih, List.all_cons]
   rcases Bool.eq_false_or_eq_true q.one with hq1 | hq1
   rotate_left
   ·have sg1 : sgBox (tcSg a c 0) 1 = some [(.int .i64 0, .val)] := rfl
    have g0 : [((.int .i64 0 : DV), Meta.val)][0]? = some (.int .i64 0, .val) := rfl
    simp only [hq1, Bool.not_false, if_true, sg1, ob_some', g0]
    rw [eq_X_tree_Check_r0_ret]
    rfl
   ·simp [hq1]
theorem sp_tree_Check (t : Ex) (ht : t.fit) : (run cfg).p F_tree_Check [t.enc] = some (.int .i64 (if t.right = true then 0 else 1)) := by
 refine call_tree_Check _ ?_
 rw [eq_tree_Check]
 simp only [isAggN_Ex, og_true', Ex.pj, Ex.eta, Ex.ag]
 rw [eq_tree_Check_r0]
 obtain ⟨n, hn⟩ := flat_Ex t ht
 rw [Ex.enc_eq] at hn
 simp only [sgBox, List.getElem?_cons_succ, List.getElem?_cons_zero, ob_some', allDat, og_true', flatD_of hn]
 rw [Ex.right_subs]
 exact tc_rounds _ _ _ _ t.subs fun q hq => (Ex.fit_sub ht q hq).one
def sgS (B O : List (DV × DV)) (J : List SObj) : List SObj := .map true B :: .map true O :: .box [(.undef, .map 0), (.undef, .map 1)] :: J
theorem sgS_len (B O : List (DV × DV)) (J : List SObj) : (sgS B O J).length = J.length + 3 := rfl
theorem sgS_app (B O : List (DV × DV)) (J K : List SObj) : sgS B O J ++ K = sgS B O (J ++ K) := rfl
theorem sgS_two (B O : List (DV × DV)) (J : List SObj) : sgBox (sgS B O J) 2 = some [(.undef, .map 0), (.undef, .map 1)] := rfl
theorem sgS_map0 (B O : List (DV × DV)) (J : List SObj) : sgMap (sgS B O J) 0 = some (true, B) := rfl
theorem sgS_map1 (B O : List (DV × DV)) (J : List SObj) : sgMap (sgS B O J) 1 = some (true, O) := rfl
theorem sgS_set0 (B B' O : List (DV × DV)) (J : List SObj) : (sgS B O J).set 0 (.map true B') = sgS B' O J := rfl
theorem sgS_set1 (B O O' : List (DV × DV)) (J : List SObj) : (sgS B O J).set 1 (.map true O') = sgS B O' J := rfl
theorem sgS_get (B O : List (DV × DV)) (J K : List SObj) (x : SObj) : (sgS B O (J ++ x :: K))[J.length + 3]? = some x := by
 simp [sgS, List.getElem?_append_right]
theorem sgS_box (B O : List (DV × DV)) (J K : List SObj) (c : List (DV × Meta)) : sgBox (sgS B O (J ++ .box c :: K)) (J.length + 3) = some c := by
 unfold sgBox
 rw [sgS_get]
theorem sgS_put (B O : List (DV × DV)) (J K : List SObj) (x y : SObj) : (sgS B O (J ++ x :: K)).set (J.length + 3) y = sgS B O (J ++ y :: K) := by
 simp [sgS, List.set_append_right]
theorem cm0 : cellMap [((.undef : DV), Meta.map 0), (.undef, .map 1)] 0 = some 0 := rfl
theorem cm1 : cellMap [((.undef : DV), Meta.map 0), (.undef, .map 1)] 1 = some 1 := rfl
def LookOk (f : FuncId) (args : List (DV × Meta)) (t : Ex) (L M : List ByteArray) : Prop :=
 ∀ (O B : List (DV × DV)) (P : ByteArray → Prop) (J : List SObj), KeysAre O P → CntS B (cn L) →
   ∃ O' B' J', (run cfg).r f args (sgS B O J) = some ([], sgS B' O' (J ++ J')) ∧ KeysAre O' (fun s => P s ∨ s ∈ t.fr M) ∧ CntS B' (cn L)
theorem sp_scope_with (k : Ex) (L l : List ByteArray) (hl : L.length + l.length ≤ lim) (h : LookOk F_tree_scope_look [(.undef, .ptr 2 0), (k.enc, .val)] k (L ++ l) (L ++ l)) :
 LookOk F_tree_scope_with [(.undef, .ptr 2 0), (k.enc, .val), (encStrs l, .val)] k L (L ++ l) := by
 intro O B P J hO hB
 have hlb := big (show l.length ≤ lim by omega)
 have l8 : ∀ (n j : Nat) (O B : List (DV × DV)) (J : List SObj), j + n = l.length → CntS B (cn (L ++ l.drop j)) →
  ∃ B', P_tree_scope_with_8h (run cfg) 2 (encStrs l) (.int .i64 l.length) (.int .i64 (j : Int)) (sgS B O J) = some ([], sgS B' O J) ∧ CntS B' (cn L) := by
  intro n
  induction n with
  | zero =>
    intro j O B J hj hc
    have e : j = l.length := by omega
    subst e
    refine ⟨B, ?_, by rwa [List.drop_length, List.append_nil] at hc⟩
    rw [eq_tree_scope_with_8h]
    simp
  | succ n ihn =>
    intro j O B J hj hc
    have h : j < l.length := by omega
    rw [List.drop_eq_getElem_cons h] at hc
    obtain ⟨B', h1, h2⟩ := ihn (j + 1) O (mSet B (.str l[j]) (.int .i64 (cn (L ++ l[j] :: l.drop (j + 1)) l[j] - 1))) J (by omega) (cn_dec hc)
    refine ⟨B', ?_, h2⟩
    rw [eq_tree_scope_with_8h]
    have c1 := hc l[j]
    have c2 := cn_pos (L ++ l[j] :: l.drop (j + 1)) l[j]
    have c3 := cn_le (L ++ l[j] :: l.drop (j + 1)) l[j]
    have c4 : (L ++ l[j] :: l.drop (j + 1)).length ≤ 4294967296 := by simp; unfold lim at hl; omega
    have e1 : dBin .sub (.int .i64 (cn (L ++ l[j] :: l.drop (j + 1)) l[j])) (.int .i64 1) = some (.int .i64 (cn (L ++ l[j] :: l.drop (j + 1)) l[j] - 1)) := by
     rw [dBin_sub, wrap_id (by omega) (by omega)]
    simp only [dBin_lss, Int.ofNat_lt, h, decide_true, ob_some', oif_bool, if_true, dIdx_strs h, isLeaf_str, og_true', isKey_str, Bool.and_true, sgS_two, cm0, sgS_map0, BEq.rfl, c1, e1, dAdd1 (show j < 9223372036854775807 by omega), sgS_set0]
    exact h1
 have l2 : ∀ (n j : Nat) (B : List (DV × DV)), j + n = l.length → CntS B (cn (L ++ l.take j)) →
  ∃ O' B' J', P_tree_scope_with_2h (run cfg) 2 (encStrs l) (encStrs l) (.int .i64 l.length) (.int .i64 (j : Int)) k.enc (sgS B O J) = some ([], sgS B' O' (J ++ J')) ∧ KeysAre O' (fun s => P s ∨ s ∈ k.fr (L ++ l)) ∧ CntS B' (cn L) := by
  intro n
  induction n with
  | zero =>
    intro j B hj hc
    have e : j = l.length := by omega
    subst e
    rw [List.take_length] at hc
    obtain ⟨O', B', J', h1, h2, h3⟩ := h O B P J hO hc
    obtain ⟨B2, h4, h5⟩ := l8 l.length 0 O' B' (J ++ J') (by omega) (by rw [List.drop_zero]; exact h3)
    refine ⟨O', B2, J', ?_, h2, h5⟩
    rw [eq_tree_scope_with_2h]
    have ee : (DV.agg [proj 0 k.enc, proj 1 k.enc, proj 2 k.enc, proj 3 k.enc, proj 4 k.enc, proj 5 k.enc, proj 6 k.enc, proj 7 k.enc, proj 8 k.enc, proj 9 k.enc, proj 10 k.enc, proj 11 k.enc, proj 12 k.enc, proj 13 k.enc, proj 14 k.enc, proj 15 k.enc]) = k.enc := by simp [Ex.eta, Ex.ag]
    simp only [dBin_lss, Int.lt_irrefl, decide_false, ob_some', oif_bool, Bool.false_eq_true, if_false, ee, h1, dLen_strs]
    exact h4
  | succ n ihn =>
    intro j B hj hc
    have h : j < l.length := by omega
    have hc' := cn_inc hc l[j]
    rw [List.append_assoc, ← List.take_succ_eq_append_getElem h] at hc'
    obtain ⟨O', B', J', h1, h2, h3⟩ := ihn (j + 1) (mSet B (.str l[j]) (.int .i64 (cn (L ++ l.take j) l[j] + 1))) (by omega) hc'
    refine ⟨O', B', J', ?_, h2, h3⟩
    rw [eq_tree_scope_with_2h]
    have c1 := hc l[j]
    have c2 := cn_pos (L ++ l.take j) l[j]
    have c3 := cn_le (L ++ l.take j) l[j]
    have c4 : (L ++ l.take j).length ≤ 4294967296 := by simp; unfold lim at hl; omega
    simp only [dBin_lss, Int.ofNat_lt, h, decide_true, ob_some', oif_bool, if_true, dIdx_strs h, isLeaf_str, og_true', isKey_str, Bool.and_true, sgS_two, cm0, sgS_map0, BEq.rfl, c1, dAdd (show (-9223372036854775808 : Int) ≤ cn (L ++ l.take j) l[j] + 1 by omega) (show cn (L ++ l.take j) l[j] + 1 ≤ 9223372036854775807 by omega), dAdd1 (show j < 9223372036854775807 by omega), sgS_set0]
    exact h1
 obtain ⟨O', B', J', h1, h2, h3⟩ := l2 l.length 0 B (by omega) (by rw [List.take_zero, List.append_nil]; exact hB)
 refine ⟨O', B', J', call_tree_scope_with _ _ _ _ ?_, h2, h3⟩
 rw [eq_tree_scope_with]
 simp only [isAggN_Ex, og_true', dLen_strs, ob_some']
 exact h1
def exC (t : Ex) : List (DV × Meta) := [(.int .i64 t.kind, .val), (.int .i64 t.lo, .val), (.int .i64 t.hi, .val), (.str t.name, .val), (.str t.arg, .val), (.int .i64 t.n, .val), (.str t.s, .val), (.int .i64 t.op, .val), (.int .i64 t.a.kind, .val), (.int .i64 t.a.n, .val), (.list 3 (t.a.kids.map Ty.enc), .val), (.int .i64 t.b.kind, .val), (.int .i64 t.b.n, .val), (.list 3 (t.b.kids.map Ty.enc), .val), (.list 7 (t.pats.map Pat.enc), .val), (.list 16 (t.kids.map Ex.enc), .val)]
theorem exC0 (t : Ex) : cellDat (exC t) 0 = some (.int .i64 t.kind) := rfl
theorem exC3 (t : Ex) : cellDat (exC t) 3 = some (.str t.name) := rfl
theorem exC4 (t : Ex) : cellDat (exC t) 4 = some (.str t.arg) := rfl
theorem exC14 (t : Ex) : cellDat (exC t) 14 = some (.list 7 (t.pats.map Pat.enc)) := rfl
theorem exC15 (t : Ex) : cellDat (exC t) 15 = some (.list 16 (t.kids.map Ex.enc)) := rfl
theorem exC_seg (t : Ex) : ∃ e, segDat 0 16 (exC t) = some e ∧ DV.agg e = t.enc := ⟨_, rfl, by rw [Ex.enc_eq]⟩
def paC (p : Pat) : List (DV × Meta) := [(.int .i64 p.kind, .val), (.int .i64 p.lo, .val), (.int .i64 p.hi, .val), (.str p.name, .val), (.int .i64 p.n, .val), (.str p.s, .val), (.list 7 (p.kids.map Pat.enc), .val)]
theorem paC_seg (p : Pat) : segDat 0 7 (paC p) = some [.int .i64 p.kind, .int .i64 p.lo, .int .i64 p.hi, .str p.name, .int .i64 p.n, .str p.s, .list 7 (p.kids.map Pat.enc)] := rfl
theorem sgS_boxE (B O : List (DV × DV)) (J : List SObj) (c : List (DV × Meta)) : sgBox (sgS B O (J ++ [.box c])) (J.length + 3) = some c := sgS_box B O J [] c
theorem sgS_putE (B O : List (DV × DV)) (J : List SObj) (x y : SObj) : (sgS B O (J ++ [x])).set (J.length + 3) y = sgS B O (J ++ [y]) := sgS_put B O J [] x y
theorem sgS_boxK (B O : List (DV × DV)) (J K : List SObj) (c : List (DV × Meta)) : sgBox (sgS B O (J ++ [.box c] ++ K)) (J.length + 3) = some c := by
 rw [List.append_assoc]; exact sgS_box B O J K c
theorem sgS_putK (B O : List (DV × DV)) (J K : List SObj) (x y : SObj) : (sgS B O (J ++ [x] ++ K)).set (J.length + 3) y = sgS B O (J ++ [y] ++ K) := by
 rw [List.append_assoc, List.append_assoc]; exact sgS_put B O J K x y
theorem look_names (t4 t100 t101 t102 t104 t105 t106 t107 : DV) (i3 i5 i8 : Nat) (B O : List (DV × DV)) (J K : List SObj) : ∀ (ps : List Pat) (acc : List ByteArray) (m : Meta), (m = .full ∨ m = .own) → acc.length + ps.length ≤ lim →
 ∃ m', (m' = Meta.full ∨ m' = .own) ∧ I_tree_scope_look_r0 (run cfg) 2 i3 t4 i5 (J.length + 3) t100 t101 t102 t104 t105 t106 t107 i8 (ps.map Pat.enc) (sgS B O (J ++ [.box [(encStrs acc, m)]] ++ K)) =
   X_tree_scope_look_r0 (run cfg) 2 i3 t4 i5 (J.length + 3) t100 t101 t102 t104 t105 t106 t107 i8 .normal (sgS B O (J ++ [.box [(encStrs (acc ++ ps.flatMap nmOf), m')]] ++ K))
 | [], acc, m, hm, _ => ⟨m, hm, by rw [List.map_nil, I_tree_scope_look_r0_nil]; simp⟩
 | p :: ps, acc, m, hm, hl => by
   simp only [List.length_cons] at hl
   by_cases h2 : p.kind = 2
   ·obtain ⟨m', h3, h4⟩ := look_names t4 t100 t101 t102 t104 t105 t106 t107 i3 i5 i8 B O J K ps (acc ++ [p.name]) .own (.inr rfl) (by simp; omega)
    refine ⟨m', h3, ?_⟩
    have hc : cellOwn [(encStrs acc, m)] 0 = some (encStrs acc) := by rcases hm with rfl | rfl <;> rfl
    have hg : ∀ d : DV, ([(d, Meta.val)] : List (DV × Meta))[0]? = some (d, .val) := fun _ => rfl
    have ha : dApp 1 (encStrs acc) (.list 1 [.str p.name]) = some (encStrs (acc ++ [p.name])) := by
     have := dApp_strs (a := acc) (b := [p.name]) (by simp; omega)
     exact this
    rw [List.map_cons, I_tree_scope_look_r0_cons, eq_B_tree_scope_look_r0]
    simp only [isAggN_Pat, og_true', Pat.proj0, Pat.proj3, dBin_eql, ob_some', oif_bool, h2, decide_true, if_true, sgS_boxK, hc, isCell_str, ha, sgS_putK, List.set_cons_zero, hg]
    rw [h4]
    simp [nmOf, h2]
   ·obtain ⟨m', h3, h4⟩ := look_names t4 t100 t101 t102 t104 t105 t106 t107 i3 i5 i8 B O J K ps acc m hm (by omega)
    refine ⟨m', h3, ?_⟩
    rw [List.map_cons, I_tree_scope_look_r0_cons, eq_B_tree_scope_look_r0]
    simp only [isAggN_Pat, og_true', Pat.proj0, dBin_eql, ob_some', oif_bool, h2, decide_false, Bool.false_eq_true, if_false]
    rw [h4]
    simp [nmOf, h2]
theorem Pat.subs_len (t : Pat) : t.subs.length = t.size := by
 induction t using Pat.ind with
 | h t ih =>
   rw [Pat.subs_eq, Pat.size_eq]
   simp only [List.length_cons, List.length_flatMap]
   have : t.kids.map (fun k => k.subs.length) = t.kids.map Pat.size := List.map_congr_left ih
   rw [this]
   omega
theorem exC_of (t : Ex) : ([(proj 0 t.enc, .val), (proj 1 t.enc, .val), (proj 2 t.enc, .val), (proj 3 t.enc, .val), (proj 4 t.enc, .val), (proj 5 t.enc, .val), (proj 6 t.enc, .val), (proj 7 t.enc, .val), (proj 8 t.enc, .val), (proj 9 t.enc, .val), (proj 10 t.enc, .val), (proj 11 t.enc, .val), (proj 12 t.enc, .val), (proj 13 t.enc, .val), (proj 14 t.enc, .val), (proj 15 t.enc, .val)] : List (DV × Meta)) = exC t := by
 simp only [Ex.pj]
 rfl
theorem paC_of (p : Pat) : ([(proj 0 p.enc, .val), (proj 1 p.enc, .val), (proj 2 p.enc, .val), (proj 3 p.enc, .val), (proj 4 p.enc, .val), (proj 5 p.enc, .val), (proj 6 p.enc, .val)] : List (DV × Meta)) = paC p := by
 simp only [Pat.pj]
 rfl
theorem putAt_all {α : Type} (l m : List α) (h : l.length = m.length) : putAt l 0 m = m := by
 simp [putAt, h]
theorem sp_scope_look (t : Ex) : t.fit → t.right = true → ∀ L : List ByteArray, L.length + 2 * t.mass ≤ lim → LookOk F_tree_scope_look [(.undef, .ptr 2 0), (t.enc, .val)] t L L := by
 induction t using Ex.ind with
 | h t ih =>
   intro ft rt L hL O B P J hO hB
   have hk := big (Nat.le_of_lt ft.one.kids)
   have hp := big (Nat.le_of_lt ft.one.pats)
   have hm0 := t.mass_pos
   have ee : ∀ k : Ex, (DV.agg [proj 0 k.enc, proj 1 k.enc, proj 2 k.enc, proj 3 k.enc, proj 4 k.enc, proj 5 k.enc, proj 6 k.enc, proj 7 k.enc, proj 8 k.enc, proj 9 k.enc, proj 10 k.enc, proj 11 k.enc, proj 12 k.enc, proj 13 k.enc, proj 14 k.enc, proj 15 k.enc]) = k.enc := fun k => by simp [Ex.eta, Ex.ag]
   have kid : ∀ (j : Nat) (h : j < t.kids.length) (O B : List (DV × DV)) (P : ByteArray → Prop) (J : List SObj), KeysAre O P → CntS B (cn L) →
    ∃ O' B' J', (run cfg).r F_tree_scope_with [(.undef, .ptr 2 0), (t.kids[j].enc, .val), (encStrs (t.binds j), .val)] (sgS B O J) = some ([], sgS B' O' (J ++ J')) ∧ KeysAre O' (fun s => P s ∨ s ∈ t.kids[j].fr (L ++ t.binds j)) ∧ CntS B' (cn L) := by
    intro j h O B P J hO hB
    have hm := t.binds_len j
    have hmk := mem_sum (f := Ex.mass) (List.getElem_mem h)
    exact sp_scope_with t.kids[j] L (t.binds j) (by omega) (ih _ (List.getElem_mem h) (ft.kid (List.getElem_mem h)) (Ex.right_kid rt (List.getElem_mem h)) (L ++ t.binds j) (by simp; omega)) O B P J hO hB
   have fr2 : ∀ (s : ByteArray) (k0 k1 : Ex), t.kids = [k0, k1] → t.kind ≠ 1 → (s ∈ t.fr L ↔ s ∈ k0.fr (L ++ t.binds 0) ∨ s ∈ k1.fr (L ++ t.binds 1)) := by
    intro s k0 k1 hk h1
    rw [Ex.fr_eq, hk, if_neg (fun h => h1 h.1), List.nil_append, Ex.frL_cons, Ex.frL_cons, Ex.frL_nil]
    simp
   suffices H : ∃ O' B' J', P_tree_scope_look (run cfg) 2 t.enc (sgS B O J) = some ([], sgS B' O' (J ++ .box (exC t) :: J')) ∧ KeysAre O' (fun s => P s ∨ s ∈ t.fr L) ∧ CntS B' (cn L) by
    obtain ⟨O', B', J', h1, h2, h3⟩ := H
    exact ⟨O', B', _, call_tree_scope_look _ _ _ h1, h2, h3⟩
   have g2 : ∀ (B O : List (DV × DV)) (K : List SObj), sgBox (sgS B O (J ++ .box (exC t) :: K)) (J.length + 3) = some (exC t) := fun B O K => sgS_box B O J K _
   have l21 : t.kind = 14 → ∀ (n j : Nat) (O B : List (DV × DV)) (P : ByteArray → Prop) (K : List SObj), j + n = t.pats.length → KeysAre O P → CntS B (cn L) →
    ∃ O' B' K', P_tree_scope_look_21h (run cfg) 2 (J.length + 3) (.list 7 (t.pats.map Pat.enc)) (.int .i64 t.pats.length) (.int .i64 (j : Int)) (sgS B O (J ++ .box (exC t) :: K)) = some ([], sgS B' O' (J ++ .box (exC t) :: K')) ∧
      KeysAre O' (fun s => P s ∨ s ∈ Ex.frL t.binds (j + 1) (t.kids.drop (j + 1)) L) ∧ CntS B' (cn L) := by
    intro h14 n
    induction n with
    | zero =>
      intro j O B P K hj hO hB
      have e : j = t.pats.length := by omega
      subst e
      refine ⟨O, B, K, ?_, ?_, hB⟩
      ·rw [eq_tree_scope_look_21h]; simp
      ·rw [← Ex.kids14 rt h14, List.drop_length, Ex.frL_nil]
       exact hO.congr fun s => by simp
    | succ n ihn =>
      intro j O B P K hj hO hB
      have h : j < t.pats.length := by omega
      have hk14 := Ex.kids14 rt h14
      have h' : j + 1 < t.kids.length := by omega
      have fp := ft.one.pat _ (List.getElem_mem h)
      have hbi : t.binds (j + 1) = t.pats[j].names := by
       unfold Ex.binds
       rw [if_neg (by omega), if_neg (by omega), if_pos ⟨h14, by omega⟩]
       simp [List.getElem?_eq_getElem h]
      have hnm : t.pats[j].names = t.pats[j].subs.flatMap nmOf := by
       unfold Pat.names
       rw [Pat.namesOn_subs, List.nil_append]
      have hsl : t.pats[j].subs.length ≤ lim := by
       rw [Pat.subs_len]; exact fp.size
      obtain ⟨n0, hn0⟩ := flat_Pat t.pats[j] (Pat.fit_thin fp)
      rw [Pat.enc_eq] at hn0
      obtain ⟨Jk, hJk⟩ : ∃ Jk, Jk = J ++ .box (exC t) :: K := ⟨_, rfl⟩
      have g3 : ∀ (a b c : SObj), sgBox (sgS B O (Jk ++ [a] ++ [b] ++ [c])) (J.length + 3) = some (exC t) := fun a b c => by
       rw [hJk]; simp only [List.append_assoc, List.cons_append]; exact sgS_box B O J _ _
      obtain ⟨m', hm', hI⟩ := look_names (.int .i64 (j : Int)) (.list 7 (t.pats.map Pat.enc)) (.int .i64 t.pats.length) (.int .i64 (j : Int)) (.int .i64 (j : Int)) t.pats[j].enc t.pats[j].enc t.pats[j].enc
       (J.length + 3) (Jk.length + 3) ((Jk ++ [SObj.box (paC t.pats[j])] ++ [SObj.box [(.list 1 [], .full)]]).length + 3) B O (Jk ++ [.box (paC t.pats[j])]) [.arr 1 []] t.pats[j].subs [] .full (.inl rfl) (by simpa using hsl)
      rw [List.nil_append, ← hnm, ← hbi] at hI
      obtain ⟨O1, B1, J1, w1, w2, w3⟩ := kid (j + 1) h' O B P (Jk ++ [.box (paC t.pats[j])] ++ [.box [(encStrs (t.binds (j + 1)), m')]] ++ [.arr 1 []]) hO hB
      obtain ⟨O', B', K', i1, i2, i3⟩ := ihn (j + 1) O1 B1 _ (K ++ [SObj.box (paC t.pats[j])] ++ [SObj.box [(encStrs (t.binds (j + 1)), m')]] ++ [SObj.arr 1 []] ++ J1) (by omega) w2 w3
      refine ⟨O', B', K', ?_, ?_, i3⟩
      ·rw [← hJk, eq_tree_scope_look_21h]
       have pe : (DV.agg [proj 0 t.pats[j].enc, proj 1 t.pats[j].enc, proj 2 t.pats[j].enc, proj 3 t.pats[j].enc, proj 4 t.pats[j].enc, proj 5 t.pats[j].enc, proj 6 t.pats[j].enc]) = t.pats[j].enc := by simp [Pat.eta, Pat.ag]
       have pz : putAt [((.int .i64 0 : DV), Meta.val), ((.int .i64 0), .val), ((.int .i64 0), .val), ((.str ⟨#[]⟩), .val), ((.int .i64 0), .val), ((.str ⟨#[]⟩), .val), ((.list 7 []), .full)] 0 (paC t.pats[j]) = paC t.pats[j] := putAt_all _ _ rfl
       have ps := paC_seg t.pats[j]
       have pg : DV.agg [.int .i64 t.pats[j].kind, .int .i64 t.pats[j].lo, .int .i64 t.pats[j].hi, .str t.pats[j].name, .int .i64 t.pats[j].n, .str t.pats[j].s, .list 7 (t.pats[j].kids.map Pat.enc)] = t.pats[j].enc := (Pat.enc_eq _).symm
       have pc : ([DV.int .i64 t.pats[j].kind, .int .i64 t.pats[j].lo, .int .i64 t.pats[j].hi, .str t.pats[j].name, .int .i64 t.pats[j].n, .str t.pats[j].s, .list 7 (t.pats[j].kids.map Pat.enc)].map fun d => (d, Meta.val)) = paC t.pats[j] := rfl
       simp only [dBin_lss, Int.ofNat_lt, h, decide_true, ob_some', oif_bool, if_true, dIdx_map h, paC_of, pe, sgS_app, sgS_len, sgS_boxE, List.length_cons, List.length_nil, Nat.zero_add, Nat.reduceAdd, Nat.le_refl, pz, sgS_putE, sgS_boxK, ps, aggD, BEq.rfl, Bool.and_self, og_true', pc, pg]
       rw [eq_tree_scope_look_r0]
       have ad : allDat (paC t.pats[j]) = some [.int .i64 t.pats[j].kind, .int .i64 t.pats[j].lo, .int .i64 t.pats[j].hi, .str t.pats[j].name, .int .i64 t.pats[j].n, .str t.pats[j].s, .list 7 (t.pats[j].kids.map Pat.enc)] := rfl
       simp only [sgS_boxE, ob_some', ad, flatD_of hn0, sgS_putE]
       refine hI.trans ?_
       rw [eq_X_tree_scope_look_r0_normal]
       have cd6 : cellDat [(encStrs (t.binds (j + 1)), m')] 0 = some (encStrs (t.binds (j + 1))) := by rcases hm' with rfl | rfl <;> rfl
       have e1 : dBin .add (.int .i64 (j : Int)) (.int .i64 1) = some (.int .i64 ((j + 1 : Nat) : Int)) := dAdd1 (show j < 9223372036854775807 by omega)
       simp only [g3, ob_some', exC15, e1, dIdx_map h', ee, sgS_boxK, cd6, w1]
       have e2 : Jk ++ [SObj.box (paC t.pats[j])] ++ [SObj.box [(encStrs (t.binds (j + 1)), m')]] ++ [SObj.arr 1 []] ++ J1 = J ++ SObj.box (exC t) :: (K ++ [SObj.box (paC t.pats[j])] ++ [SObj.box [(encStrs (t.binds (j + 1)), m')]] ++ [SObj.arr 1 []] ++ J1) := by
        rw [hJk]; simp only [List.append_assoc, List.cons_append]
       rw [e2]
       exact i1
      ·refine i2.congr fun s => ?_
       rw [List.drop_eq_getElem_cons h', Ex.frL_cons, List.mem_append, or_assoc]
   have l3 : (∀ j, t.binds j = []) → ∀ (n j : Nat) (O B : List (DV × DV)) (P : ByteArray → Prop) (K : List SObj), j + n = t.kids.length → KeysAre O P → CntS B (cn L) →
    ∃ O' B' K', P_tree_scope_look_3h (run cfg) 2 (.list 16 (t.kids.map Ex.enc)) (.int .i64 t.kids.length) (.int .i64 (j : Int)) (sgS B O K) = some ([], sgS B' O' (K ++ K')) ∧
      KeysAre O' (fun s => P s ∨ s ∈ Ex.frL t.binds j (t.kids.drop j) L) ∧ CntS B' (cn L) := by
    intro hb n
    induction n with
    | zero =>
      intro j O B P K hj hO hB
      have e : j = t.kids.length := by omega
      subst e
      refine ⟨O, B, [], ?_, ?_, hB⟩
      ·rw [eq_tree_scope_look_3h]; simp
      ·rw [List.drop_length, Ex.frL_nil]
       exact hO.congr fun s => by simp
    | succ n ihn =>
      intro j O B P K hj hO hB
      have h : j < t.kids.length := by omega
      obtain ⟨O1, B1, J1, w1, w2, w3⟩ := kid j h O B P (K ++ [.box (exC t.kids[j])]) hO hB
      obtain ⟨O', B', K', i1, i2, i3⟩ := ihn (j + 1) O1 B1 _ (K ++ [.box (exC t.kids[j])] ++ J1) (by omega) w2 w3
      rw [hb j, ← encStrs_nil] at w1
      refine ⟨O', B', [.box (exC t.kids[j])] ++ J1 ++ K', ?_, ?_, i3⟩
      ·rw [eq_tree_scope_look_3h]
       have pz : putAt [((.int .i64 0 : DV), Meta.val), ((.int .i64 0), .val), ((.int .i64 0), .val), ((.str ⟨#[]⟩), .val), ((.str ⟨#[]⟩), .val), ((.int .i64 0), .val), ((.str ⟨#[]⟩), .val), ((.int .i64 0), .val), ((.int .i64 0), .val), ((.int .i64 0), .val), ((.list 3 []), .full), ((.int .i64 0), .val), ((.int .i64 0), .val), ((.list 3 []), .full), ((.list 7 []), .full), ((.list 16 []), .full)] 0 (exC t.kids[j]) = exC t.kids[j] := putAt_all _ _ rfl
       obtain ⟨e, e1, e2⟩ := exC_seg t.kids[j]
       have e3 : dBin .add (.int .i64 (j : Int)) (.int .i64 1) = some (.int .i64 ((j + 1 : Nat) : Int)) := dAdd1 (show j < 9223372036854775807 by omega)
       simp only [dBin_lss, Int.ofNat_lt, h, decide_true, ob_some', oif_bool, if_true, dIdx_map h, exC_of, sgS_app, sgS_len, sgS_boxE, List.length_cons, List.length_nil, Nat.zero_add, Nat.reduceAdd, Nat.le_refl, pz, sgS_putE, e1, e2, w1, e3]
       rw [i1]
       simp only [List.append_assoc]
      ·refine i2.congr fun s => ?_
       rw [List.drop_eq_getElem_cons h, Ex.frL_cons, List.mem_append, or_assoc]
   have hks := Ex.one_kids (Ex.right_one rt)
   have n1 : (.list 1 [.str t.name] : DV) = encStrs [t.name] := rfl
   have n2 : (.list 1 [.str t.name, .str t.arg] : DV) = encStrs [t.name, t.arg] := rfl
   have sgE : sgBox (sgS B O (J ++ [.box (exC t)])) (J.length + 3) = some (exC t) := sgS_boxE B O J _
   by_cases k1 : t.kind = 1
   ·have hnil := Ex.kids01 rt k1
    have cb := hB t.name
    have cz := cn_zero L t.name
    have fr1 : ∀ s, s ∈ t.fr L ↔ (L.any fun x => decide (x = t.name)) = false ∧ s = t.name := fun s => by
     rw [Ex.fr_eq, hnil, Ex.frL_nil, List.append_nil]
     simp only [k1, true_and]
     split
     ·rename_i h; simp [h]
     ·rename_i h
      simp only [List.not_mem_nil, false_iff]
      exact fun h' => h h'.1
    by_cases hb : (L.any fun x => decide (x = t.name)) = false
    ·obtain ⟨cnt, hcnt⟩ := hO.get t.name
     refine ⟨_, B, [], ?_, (hO.set t.name (IntKind.i64.wrap (cnt + 1))).congr fun s => ?_, hB⟩
     ·rw [hb, Bool.not_false] at cz
      rw [eq_tree_scope_look]
      simp only [isAggN_Ex, og_true', exC_of, sgS_app, sgS_len, sgE, ob_some', exC0, exC3, k1, dBin_eql, decide_true, oif_bool, if_true, isKey_str, Bool.and_true, show sgBox (sgS B O (J ++ [.box (exC t)])) 2 = some _ from sgS_two _ _ _, cm0, cm1, sgS_map0, sgS_map1, BEq.rfl, cb, cz, hcnt, dBin_add, sgS_set1]
     ·rw [fr1 s]
      constructor
      ·rintro (h | h)
       ·exact .inr ⟨hb, h⟩
       ·exact .inl h
      ·rintro (h | ⟨-, h⟩)
       ·exact .inr h
       ·exact .inl h
    ·have hb' : (L.any fun x => decide (x = t.name)) = true := by
      cases hh : L.any fun x => decide (x = t.name)
      ·exact absurd hh hb
      ·rfl
     refine ⟨O, B, [], ?_, hO.congr fun s => ?_, hB⟩
     ·rw [hb', Bool.not_true] at cz
      rw [eq_tree_scope_look]
      simp only [isAggN_Ex, og_true', exC_of, sgS_app, sgS_len, sgE, ob_some', exC0, exC3, k1, dBin_eql, decide_true, oif_bool, if_true, isKey_str, Bool.and_true, show sgBox (sgS B O (J ++ [.box (exC t)])) 2 = some _ from sgS_two _ _ _, cm0, cm1, sgS_map0, sgS_map1, BEq.rfl, cb, cz, Bool.false_eq_true, if_false]
     ·rw [fr1 s, hb']
      simp
   by_cases k9 : t.kind = 9
   ·have hlen : t.kids.length = 1 := by rw [k9] at hks; simp [eKids] at hks; omega
    have h0 : 0 < t.kids.length := by omega
    have hb0 : t.binds 0 = [t.name] := by unfold Ex.binds; rw [if_pos (.inl k9)]
    obtain ⟨O1, B1, J1, w1, w2, w3⟩ := kid 0 h0 O B P (J ++ [.box (exC t)]) hO hB
    refine ⟨O1, B1, J1, ?_, w2.congr fun s => ?_, w3⟩
    ·rw [hb0] at w1
     rw [eq_tree_scope_look]
     have d0 : dIdx 16 (.list 16 (t.kids.map Ex.enc)) (.int .i64 0) = some t.kids[0].enc := dIdx_map h0
     simp only [isAggN_Ex, og_true', exC_of, sgS_app, sgS_len, sgE, ob_some', exC0, exC3, exC15, k9, dBin_eql, decide_true, oif_bool, if_true, show decide ((9 : Int) = 1) = false from rfl, Bool.false_eq_true, if_false, d0, ee, isCell_str, n1, w1]
     simp only [List.append_assoc, List.cons_append, List.nil_append]
    ·have e : t.kids = [t.kids[0]] := by
      apply List.ext_getElem
      ·simpa using hlen
      ·intro i h1 h2
       have : i = 0 := by simp at h2; omega
       subst this; rfl
     have e2 : t.fr L = t.kids[0].fr (L ++ t.binds 0) := by
      rw [Ex.fr_eq t L, if_neg (fun h => k1 h.1), List.nil_append]
      conv => lhs; rw [e]
      rw [Ex.frL_cons, Ex.frL_nil, List.append_nil]
     rw [e2]
   have two : ∀ (l0 l1 : List ByteArray), t.kids.length = 2 → t.binds 0 = l0 → t.binds 1 = l1 → ∃ (h0 : 0 < t.kids.length) (h1 : 1 < t.kids.length) (O1 B1 : List (DV × DV)) (J1 : List SObj) (O2 B2 : List (DV × DV)) (J2 : List SObj),
    (run cfg).r F_tree_scope_with [(.undef, .ptr 2 0), (t.kids[0].enc, .val), (encStrs l0, .val)] (sgS B O (J ++ [.box (exC t)])) = some ([], sgS B1 O1 (J ++ [.box (exC t)] ++ J1)) ∧
    (run cfg).r F_tree_scope_with [(.undef, .ptr 2 0), (t.kids[1].enc, .val), (encStrs l1, .val)] (sgS B1 O1 (J ++ [.box (exC t)] ++ J1)) = some ([], sgS B2 O2 (J ++ .box (exC t) :: (J1 ++ J2))) ∧
    KeysAre O2 (fun s => P s ∨ s ∈ t.fr L) ∧ CntS B2 (cn L) := by
    intro l0 l1 hlen e0 e1
    have h0 : 0 < t.kids.length := by omega
    have h1 : 1 < t.kids.length := by omega
    obtain ⟨O1, B1, J1, w1, w2, w3⟩ := kid 0 h0 O B P (J ++ [.box (exC t)]) hO hB
    obtain ⟨O2, B2, J2, x1, x2, x3⟩ := kid 1 h1 O1 B1 _ (J ++ [.box (exC t)] ++ J1) w2 w3
    rw [e0] at w1
    rw [e1] at x1
    refine ⟨h0, h1, O1, B1, J1, O2, B2, J2, w1, ?_, x2.congr fun s => ?_, x3⟩
    ·rw [x1]
     simp only [List.append_assoc, List.cons_append, List.nil_append]
    ·have e : t.kids = [t.kids[0], t.kids[1]] := by
      apply List.ext_getElem
      ·simpa using hlen
      ·intro i h1 h2
       simp at h2
       match i, h2 with
       | 0, _ => rfl
       | 1, _ => rfl
     rw [fr2 s _ _ e k1]
     exact or_assoc
   have g3 : ∀ (B O : List (DV × DV)) (K : List SObj), sgBox (sgS B O (J ++ [.box (exC t)] ++ K)) (J.length + 3) = some (exC t) := fun B O K => sgS_boxK B O J K _
   by_cases k11 : t.kind = 11
   ·have hlen : t.kids.length = 2 := by rw [k11] at hks; simp [eKids] at hks; omega
    obtain ⟨h0, h1, O1, B1, J1, O2, B2, J2, w1, w2, w3, w4⟩ := two [] [t.name] hlen (by unfold Ex.binds; rw [if_neg (by omega), if_neg (by omega), if_neg (by omega)]) (by unfold Ex.binds; rw [if_pos (.inr (.inl ⟨k11, rfl⟩))])
    refine ⟨O2, B2, J1 ++ J2, ?_, w3, w4⟩
    rw [eq_tree_scope_look]
    have d0 : dIdx 16 (.list 16 (t.kids.map Ex.enc)) (.int .i64 0) = some t.kids[0].enc := dIdx_map h0
    have d1 : dIdx 16 (.list 16 (t.kids.map Ex.enc)) (.int .i64 1) = some t.kids[1].enc := dIdx_map h1
    simp only [isAggN_Ex, og_true', exC_of, sgS_app, sgS_len, sgE, ob_some', exC0, exC3, exC15, k11, dBin_eql, oif_bool, show decide ((11 : Int) = 1) = false from rfl, show decide ((11 : Int) = 9) = false from rfl, decide_true, if_true, Bool.false_eq_true, if_false, d0, d1, ee, encStrs_nil, w1, g3, isCell_str, n1, w2]
   by_cases k12 : t.kind = 12
   ·have hlen : t.kids.length = 2 := by rw [k12] at hks; simp [eKids] at hks; omega
    obtain ⟨h0, h1, O1, B1, J1, O2, B2, J2, w1, w2, w3, w4⟩ := two [t.name, t.arg] [t.name] hlen (by unfold Ex.binds; rw [if_neg (by omega), if_pos k12]) (by unfold Ex.binds; rw [if_pos (.inr (.inr ⟨k12, rfl⟩))])
    refine ⟨O2, B2, J1 ++ J2, ?_, w3, w4⟩
    rw [eq_tree_scope_look]
    have d0 : dIdx 16 (.list 16 (t.kids.map Ex.enc)) (.int .i64 0) = some t.kids[0].enc := dIdx_map h0
    have d1 : dIdx 16 (.list 16 (t.kids.map Ex.enc)) (.int .i64 1) = some t.kids[1].enc := dIdx_map h1
    simp only [isAggN_Ex, og_true', exC_of, sgS_app, sgS_len, sgE, ob_some', exC0, exC3, exC4, exC15, k12, dBin_eql, oif_bool, show decide ((12 : Int) = 1) = false from rfl, show decide ((12 : Int) = 9) = false from rfl, show decide ((12 : Int) = 11) = false from rfl, decide_true, if_true, Bool.false_eq_true, if_false, d0, d1, ee, n2, w1, g3, isCell_str, n1, w2]
   by_cases k14 : t.kind = 14
   ·have hlen := Ex.kids14 rt k14
    have h0 : 0 < t.kids.length := by omega
    have hb0 : t.binds 0 = [] := by unfold Ex.binds; rw [if_neg (by omega), if_neg (by omega), if_neg (by omega)]
    obtain ⟨O1, B1, J1, w1, w2, w3⟩ := kid 0 h0 O B P (J ++ [.box (exC t)]) hO hB
    obtain ⟨O2, B2, J2, x1, x2, x3⟩ := l21 k14 t.pats.length 0 O1 B1 _ J1 (by omega) w2 w3
    refine ⟨O2, B2, J2, ?_, x2.congr fun s => ?_, x3⟩
    ·rw [hb0, ← encStrs_nil] at w1
     rw [eq_tree_scope_look]
     have d0 : dIdx 16 (.list 16 (t.kids.map Ex.enc)) (.int .i64 0) = some t.kids[0].enc := dIdx_map h0
     simp only [isAggN_Ex, og_true', exC_of, sgS_app, sgS_len, sgE, ob_some', exC0, exC14, exC15, k14, dBin_eql, oif_bool, show decide ((14 : Int) = 1) = false from rfl, show decide ((14 : Int) = 9) = false from rfl, show decide ((14 : Int) = 11) = false from rfl, show decide ((14 : Int) = 12) = false from rfl, decide_true, if_true, Bool.false_eq_true, if_false, d0, ee, w1, g3, dLen_list, List.length_map]
     have e : J ++ [.box (exC t)] ++ J1 = J ++ .box (exC t) :: J1 := by simp
     rw [e]
     exact x1
    ·have e : t.kids[0] :: t.kids.drop (0 + 1) = t.kids := by rw [← List.drop_eq_getElem_cons h0, List.drop_zero]
     have e2 : t.fr L = t.kids[0].fr (L ++ t.binds 0) ++ Ex.frL t.binds (0 + 1) (t.kids.drop (0 + 1)) L := by
      rw [Ex.fr_eq t L, if_neg (fun h => k1 h.1), List.nil_append]
      conv => lhs; rw [← e]
      rw [Ex.frL_cons]
     rw [e2, List.mem_append, or_assoc]
   ·have hb : ∀ j, t.binds j = [] := fun j => by unfold Ex.binds; rw [if_neg (by omega), if_neg k12, if_neg (by omega)]
    obtain ⟨O2, B2, J2, x1, x2, x3⟩ := l3 hb t.kids.length 0 O B P (J ++ [.box (exC t)]) (by omega) hO hB
    refine ⟨O2, B2, J2, ?_, x2.congr fun s => ?_, x3⟩
    ·rw [eq_tree_scope_look]
     simp only [isAggN_Ex, og_true', exC_of, sgS_app, sgS_len, sgE, ob_some', exC0, exC15, dBin_eql, oif_bool, k1, k9, k11, k12, k14, decide_false, Bool.false_eq_true, if_false, dLen_list, List.length_map]
     have e : J ++ [.box (exC t)] ++ J2 = J ++ .box (exC t) :: J2 := by simp
     rw [← e]
     exact x1
    ·rw [Ex.fr_eq t L, if_neg (fun h => k1 h.1), List.nil_append, List.drop_zero]
theorem sp_tree_Free (t : Ex) (ft : t.fit) (hm : 2 * t.mass ≤ lim) : (run cfg).p F_tree_Free [t.enc] = some (encStrs (if t.right = true then t.free else [])) := by
 refine call_tree_Free _ ?_
 rw [eq_tree_Free]
 cases rt : t.right
 ·simp [Ex.eta, Ex.ag, sp_tree_Check t ft, rt, encStrs_nil]
 ·obtain ⟨O', B', J', h1, h2, -⟩ := sp_scope_look t ft rt [] (by simpa using hm) [] [] _ [] KeysAre.nil (fun v => rfl)
  have h3 : KeysAre O' fun s => s ∈ t.free := h2.congr fun s => by rw [Ex.mem_free]; simp
  obtain ⟨h4, h5⟩ := sortKeys_rises h3 t.free_rises
  have hlen : O'.length ≤ lim := by
   have := t.free_len
   have := t.size_mass
   omega
  have h1' : (run cfg).r F_tree_scope_look [(.undef, .ptr 2 0), (t.enc, .val)] [.map true [], .map true [], .box [(.undef, .map 0), (.undef, .map 1)]] = some ([], sgS B' O' J') := h1
  simp [Ex.eta, Ex.ag, sp_tree_Check t ft, rt, h1', sgS_two, cm1, sgS_map1, hlen, h4]
theorem sp_erase_closed (t : Ex) (ft : t.fit) (hm : 2 * t.mass ≤ lim) : (run cfg).p F_erase_closed [t.enc] = some (.bool (t.right && decide (t.free = []))) := by
 refine call_erase_closed _ ?_
 rw [eq_erase_closed]
 have hc := sp_tree_Check t ft
 have hf := sp_tree_Free t ft hm
 cases rt : t.right
 ·rw [rt] at hc
  simp [Ex.eta, Ex.ag, hc]
 ·rw [rt] at hc hf
  have : ((t.free.length : Int) = 0) ↔ t.free = [] := by rw [← List.length_eq_zero_iff]; omega
  simp [Ex.eta, Ex.ag, hc, hf, this]
end Go.Su

/-
 What the program's functions on expressions without types give: a run.
-/
namespace Go.Su
set_option linter.unusedVariables false
set_option linter.unusedSimpArgs false
noncomputable def Ex.StepE (t : Ex) : Ex × R3 := if t.right = true ∧ t.free = [] then (if t.val = true then (t, ⟨1, 0, 0⟩) else t.stepE) else (noEx, .stuck)
theorem val_r3 : DV.agg [.int .i64 1, .int .i64 0, .int .i64 0, .str ⟨#[]⟩, .int .i64 0, .int .i64 0, .int .i64 0, .bool false, .list 5 [], .list 9 [], .int .i64 0, .bool false, .int .i64 0, .int .i64 0, .int .i64 0] = (R3.mk 1 0 0).enc := rfl
theorem sp_erase_Step (B : Nat) (hB : B ≤ 4294960000) (t : Ex) (ft : t.fit) (hm : 2 * t.mass ≤ lim) (hl : t.lean B) : (run cfg).p F_erase_Step [t.enc] = some (.tup [t.StepE.1.enc, t.StepE.2.enc]) := by
 refine call_erase_Step _ ?_
 rw [eq_erase_Step]
 unfold Ex.StepE
 simp only [isAggN_Ex, og_true', exx, sp_erase_closed t ft hm, ob_some', dUn_not, oif_bool]
 by_cases hc : t.right = true ∧ t.free = []
 ·obtain ⟨rt, fr⟩ := hc
  simp only [rt, fr, decide_true, Bool.and_self, Bool.not_true, Bool.false_eq_true, if_false, and_self, if_true, sp_erase_value t ft rt, ob_some', oif_bool]
  by_cases hv : t.val = true
  ·simp only [hv, if_true, val_r3]
  ·simp only [hv, if_false, sp_erase_step B hB t ⟨rt, fr⟩ hl, ob_some', dExt_0, dExt_1, isAggN_Ex, isAggN_R3, og_true', exx, r3x]
   rfl
 ·have h1 : (t.right && decide (t.free = [])) = false := by
   rw [Bool.eq_false_iff]
   intro h
   rw [Bool.and_eq_true, decide_eq_true_eq] at h
   exact hc h
  simp only [h1, hc, Bool.not_false, if_true, if_false, sp_erase_stop, ob_some', dExt_0, dExt_1, isAggN_Ex, isAggN_R3, og_true', exx, r3x]
theorem vax (v : Val) : DV.agg [proj 0 v.enc, proj 1 v.enc, proj 2 v.enc, proj 3 v.enc, proj 4 v.enc, proj 5 v.enc, proj 6 v.enc, proj 7 v.enc, proj 8 v.enc] = v.enc := by rw [Val.enc_eq]; rfl
theorem val_agg (k n : Int) (s : ByteArray) (ks : List Val) : DV.agg [.int .i64 k, .int .i64 n, .str s, .int .i64 0, .int .i64 0, .int .i64 0, .bool false, .list 5 [], .list 9 (ks.map Val.enc)] = (Val.mk k n s noCoer ks).enc := by rw [Val.enc_eq (Val.mk _ _ _ _ _)]; rfl
theorem val_agg0 (k n : Int) (s : ByteArray) : DV.agg [.int .i64 k, .int .i64 n, .str s, .int .i64 0, .int .i64 0, .int .i64 0, .bool false, .list 5 [], .list 9 []] = (Val.mk k n s noCoer []).enc := val_agg k n s []
theorem Ex.val_kids {t : Ex} (rt : t.right = true) (hv : t.val = true) (h : t.kind = 6 ∨ t.kind = 8) : ∀ k ∈ t.kids, k.val = true := by
 have hk := Ex.one_kids (Ex.right_one rt)
 have h2 : t.kids.length = 2 := by
  rcases h with k | k <;> rw [k] at hk <;> simp [eKids] at hk <;> omega
 rw [Ex.val_eq, if_neg (by omega), if_pos h, List.take_of_length_le (by omega), List.all_eq_true] at hv
 exact hv
theorem Ex.val_kind {t : Ex} (hv : t.val = true) : t.kind = 2 ∨ t.kind = 3 ∨ t.kind = 4 ∨ t.kind = 5 ∨ t.kind = 7 ∨ t.kind = 9 ∨ t.kind = 6 ∨ t.kind = 8 := by
 rw [Ex.val_eq] at hv
 split at hv
 ·omega
 ·split at hv
  ·omega
  ·cases hv
theorem many_kid {t k : Ex} (h : k ∈ t.kids) : k.size ≤ t.size := by
 rw [Ex.size_eq t]
 have := le_sum_mem (List.mem_map_of_mem (f := Ex.size) h)
 omega
theorem sp_erase_told (t : Ex) : t.fit → t.right = true → t.val = true → t.size ≤ lim → (run cfg).p F_erase_told [t.enc] = some (.tup [t.told.enc, .int .i64 t.many]) := by
 induction t using Ex.ind with
 | h t ih =>
   intro ft rt hv hs
   have loop : ∀ (c : Int) (n j : Nat), j + n = t.kids.length → (∀ k ∈ t.kids, (run cfg).p F_erase_told [k.enc] = some (.tup [k.told.enc, .int .i64 k.many])) → ((t.kids.map Ex.many).sum < lim) →
    P_erase_told_7h (run cfg) (.int .i64 ((1 + ((t.kids.take j).map Ex.many).sum : Nat) : Int)) (.list 16 (t.kids.map Ex.enc)) (.int .i64 t.kids.length) (.int .i64 (j : Int)) (.int .i64 c) (.int .i64 t.n) (.str t.s) (.list 9 (((t.kids.take j).map Ex.told).map Val.enc)) =
    some (.tup [(Val.mk c t.n t.s noCoer (t.kids.map Ex.told)).enc, .int .i64 ((1 + (t.kids.map Ex.many).sum : Nat) : Int)]) := by
    intro c n
    induction n with
    | zero =>
      intro j hj _ _
      have e : j = t.kids.length := by omega
      subst e
      rw [eq_erase_told_7h]
      simp only [dBin_lss, Int.lt_irrefl, decide_false, ob_some', oif_bool, Bool.false_eq_true, if_false, List.take_length]
      rw [val_agg]
    | succ n ihn =>
      intro j hj hk hsum
      have h : j < t.kids.length := by omega
      have e1 : dBin .add (.int .i64 (j : Int)) (.int .i64 1) = some (.int .i64 ((j + 1 : Nat) : Int)) := dAdd1 (show j < 9223372036854775807 by have := ft.one.kids; unfold lim at this; omega)
      have tk : t.kids.take (j + 1) = t.kids.take j ++ [t.kids[j]] := List.take_succ_eq_append_getElem h
      have sm : ((t.kids.take (j + 1)).map Ex.many).sum = ((t.kids.take j).map Ex.many).sum + t.kids[j].many := by rw [tk]; simp only [List.map_append, List.sum_append, List.map_cons, List.map_nil, List.sum_cons, List.sum_nil, Nat.add_zero]
      have le : ((t.kids.take (j + 1)).map Ex.many).sum ≤ (t.kids.map Ex.many).sum := by
       have e : t.kids.map Ex.many = ((t.kids.take (j + 1)).map Ex.many) ++ ((t.kids.drop (j + 1)).map Ex.many) := by rw [← List.map_append, List.take_append_drop]
       rw [e, List.sum_append]
       omega
      have ad : dBin .add (.int .i64 ((1 + ((t.kids.take j).map Ex.many).sum : Nat) : Int)) (.int .i64 (t.kids[j].many : Int)) = some (.int .i64 ((1 + ((t.kids.take (j + 1)).map Ex.many).sum : Nat) : Int)) := by
       unfold lim at hsum
       rw [dAdd (by omega) (by omega), sm]
       congr 2
       omega
      have ap := dApp_map (e := Val.enc) (sz := 9) (l := (t.kids.take j).map Ex.told) (x := t.kids[j].told) (by have := ft.one.kids; simp; omega)
      have nx := ihn (j + 1) (by omega) hk hsum
      rw [tk, List.map_append (f := Ex.told)] at nx
      rw [eq_erase_told_7h]
      simp only [dBin_lss, Int.ofNat_lt, h, decide_true, ob_some', oif_bool, if_true, dIdx_map h, exx, hk _ (List.getElem_mem h), dExt_0, dExt_1, isAggN_Val, og_true', vax, ap, ad, e1]
      rw [← tk] at nx
      exact nx
   have kk := Ex.val_kind hv
   have p16 : ∀ c : Int, 2 ≤ c → c ≤ 5 → t.kind = c → P_erase_told_16 (run cfg) t.enc (.int .i64 t.n) (.str t.s) = some (.tup [(Val.mk (t.kind - 1) t.n t.s noCoer []).enc, .int .i64 1]) := by
    intro c h1 h2 hc
    rw [eq_erase_told_16]
    have s1 : dBin .sub (.int .i64 t.kind) (.int .i64 2) = some (.int .i64 (t.kind - 2)) := by rw [dBin_sub, wrap_id (by omega) (by omega)]
    have s2 : dBin .add (.int .i64 (t.kind - 2)) (.int .i64 1) = some (.int .i64 (t.kind - 1)) := by rw [dAdd (by omega) (by omega)]; congr 2; omega
    simp only [Ex.proj0 t, s1, s2, ob_some', isCell_int, og_true', val_agg0]
   refine call_erase_told _ ?_
   rw [eq_erase_told, Ex.told_eq, Ex.many_eq]
   simp only [isAggN_Ex, og_true', Ex.proj0 t, Ex.proj5 t, Ex.proj6 t, Ex.proj15 t, isCell_int, isCell_str, dBin_eql, ob_some', oif_bool]
   by_cases c2 : t.kind = 2
   ·have := p16 2 (by omega) (by omega) c2
    simp only [c2, Int.reduceEq, decide_false, decide_true, Bool.false_eq_true, if_false, if_true, or_self]
    rw [this, c2]; rfl
   by_cases c3 : t.kind = 3
   ·have := p16 3 (by omega) (by omega) c3
    simp only [c3, Int.reduceEq, decide_false, decide_true, Bool.false_eq_true, if_false, if_true, or_self]
    rw [this, c3]; rfl
   by_cases c4 : t.kind = 4
   ·have := p16 4 (by omega) (by omega) c4
    simp only [c4, Int.reduceEq, decide_false, decide_true, Bool.false_eq_true, if_false, if_true, or_self]
    rw [this, c4]; rfl
   by_cases c5 : t.kind = 5
   ·have := p16 5 (by omega) (by omega) c5
    simp only [c5, Int.reduceEq, decide_false, decide_true, Bool.false_eq_true, if_false, if_true, or_self]
    rw [this, c5]; rfl
   by_cases c7 : t.kind = 7
   ·simp only [c7, Int.reduceEq, decide_false, decide_true, Bool.false_eq_true, if_false, if_true, or_self, val_agg0]; rfl
   by_cases c9 : t.kind = 9
   ·simp only [c9, Int.reduceEq, decide_false, decide_true, Bool.false_eq_true, if_false, if_true, or_self, val_agg0]; rfl
   have k68 : t.kind = 6 ∨ t.kind = 8 := by omega
   have kv := Ex.val_kids rt hv k68
   have hk : ∀ k ∈ t.kids, (run cfg).p F_erase_told [k.enc] = some (.tup [k.told.enc, .int .i64 k.many]) := fun k h => ih k h (ft.kid h) (Ex.right_kid rt h) (kv k h) (by have := many_kid h; omega)
   have hsum : (t.kids.map Ex.many).sum < lim := by
    have h1 := t.many_size
    rw [Ex.many_eq, if_pos k68] at h1
    omega
   have lp := fun c => loop c t.kids.length 0 (by omega) hk hsum
   simp only [List.take_zero, List.map_nil, List.sum_nil, Nat.add_zero] at lp
   rcases k68 with c | c
   ·have l5 := lp 5
    simp only [c, Int.reduceEq, decide_false, decide_true, Bool.false_eq_true, if_false, if_true, or_self, or_true, true_or, dLen_list, List.length_map, ob_some']
    exact l5
   ·have l7 := lp 7
    simp only [c, Int.reduceEq, decide_false, decide_true, Bool.false_eq_true, if_false, if_true, or_self, or_true, true_or, dLen_list, List.length_map, ob_some']
    exact l7
noncomputable def runAt (F : Nat) (ok : Bool) (n : Nat) (t : Ex) : Option DV :=
 P_erase_Run_3h (run cfg) (.int .i64 (F : Int)) (.bool ok) (.int .i64 (n : Int)) (proj 0 t.enc) (proj 1 t.enc) (proj 2 t.enc) (proj 3 t.enc) (proj 4 t.enc) (proj 5 t.enc) (proj 6 t.enc) (proj 7 t.enc) (proj 8 t.enc) (proj 9 t.enc) (proj 10 t.enc) (proj 11 t.enc) (proj 12 t.enc) (proj 13 t.enc) (proj 14 t.enc) (proj 15 t.enc)
theorem fuel_agg (n : Int) : DV.agg [.int .i64 5, .int .i64 0, .int .i64 0, .str ⟨#[]⟩, .int .i64 0, .int .i64 0, .int .i64 0, .bool false, .list 5 [], .list 9 [], .int .i64 0, .bool false, .int .i64 0, .int .i64 0, .int .i64 n] = (Rslt.mk 5 noVal 0 false 0 0 n).enc := rfl
theorem told_agg (v : Val) (n : Int) : DV.agg [.int .i64 1, proj 0 v.enc, proj 1 v.enc, proj 2 v.enc, proj 3 v.enc, proj 4 v.enc, proj 5 v.enc, proj 6 v.enc, proj 7 v.enc, proj 8 v.enc, .int .i64 0, .bool false, .int .i64 0, .int .i64 0, .int .i64 n] = (Rslt.mk 1 v 0 false 0 0 n).enc := by rw [Val.enc_eq]; rfl
theorem r3_res (r : R3) (n : Int) : DV.agg [proj 0 r.enc, proj 1 r.enc, proj 2 r.enc, proj 3 r.enc, proj 4 r.enc, proj 5 r.enc, proj 6 r.enc, proj 7 r.enc, proj 8 r.enc, proj 9 r.enc, proj 10 r.enc, proj 11 r.enc, proj 12 r.enc, proj 13 r.enc, .int .i64 n] = (r.res n).enc := rfl
theorem sp_run_loop (B : Nat) (hB : 1200 * B ≤ 2147483648) (F : Nat) (hF : F ≤ 65536) : ∀ (m n : Nat) (t : Ex), n + m = F → t.cl → t.lean B → t.tame m → runAt F true n t = some (t.runE m n).enc := by
 intro m
 induction m with
 | zero =>
   intro n t hn ht hl hm
   have ms := Ex.tame_mass hl hm
   have ft := Ex.right_fit (by omega) t ht.1 hl
   have hv := sp_erase_value t ft ht.1
   have e : n = F := by omega
   subst e
   unfold runAt
   rw [eq_erase_Run_3h]
   simp only [exx, dUn_not, ob_some', ogd_bool, Bool.not_true, Bool.false_eq_true, if_false, hv, oif_bool]
   cases v : t.val
   ·rw [Ex.runE_zero n v, eq_erase_Run_5]
    simp only [Bool.not_false, if_true, dBin_eql, decide_true, ob_some', oif_bool, isCell_int, og_true', fuel_agg]
   ·have tl := sp_erase_told t ft ht.1 v (by have := t.size_mass; unfold lim; omega)
    have sb : dBin .sub (.int .i64 (n : Int)) (.int .i64 (n : Int)) = some (.int .i64 0) := by rw [dBin_sub, wrap_id (by omega) (by omega)]; simp
    have mp := t.many_pos
    have mp' : (0 : Int) < (t.many : Int) := by omega
    rw [Ex.runE_val 0 n v, if_pos (show ((0 : Nat) : Int) < (t.many : Int) by omega)]
    simp only [Bool.not_true, Bool.false_eq_true, if_false, tl, ob_some', dExt_0, dExt_1, isAggN_Val, og_true', sb, dBin_gtr, mp', decide_true, oif_bool, if_true, isCell_int, fuel_agg]
    rfl
 | succ m ihm =>
   intro n t hn ht hl hm
   have ms := Ex.tame_mass hl hm
   have ft := Ex.right_fit (by omega) t ht.1 hl
   have hv := sp_erase_value t ft ht.1
   unfold runAt
   rw [eq_erase_Run_3h]
   simp only [exx, dUn_not, ob_some', ogd_bool, Bool.not_true, Bool.false_eq_true, if_false, hv, oif_bool]
   cases v : t.val
   ·have ne : ¬ ((n : Int) = (F : Int)) := by omega
    have st := sp_erase_step B (by omega) t ht hl
    have e1 : dBin .add (.int .i64 (n : Int)) (.int .i64 1) = some (.int .i64 ((n + 1 : Nat) : Int)) := dAdd1 (show n < 9223372036854775807 by omega)
    rw [Ex.runE_succ m n v, eq_erase_Run_5]
    simp only [exx, Bool.not_false, if_true, dBin_eql, ne, decide_false, ob_some', oif_bool, Bool.false_eq_true, if_false, st, dExt_0, dExt_1, isAggN_Ex, isAggN_R3, og_true']
    rw [eq_erase_Run_10]
    simp only [r3_kind, dBin_neq, ob_some', oif_bool, e1, isCell_int, og_true']
    by_cases hz : t.stepE.2.kind = 0
    ·simp only [hz, decide_true, Bool.not_true, Bool.false_eq_true, if_false, ne_eq, not_true]
     exact ihm (n + 1) t.stepE.1 (by omega) (Ex.stepE_cl t ht hz) (Ex.stepE_lean t hl) (Ex.tame_step hm v hz)
    ·simp only [hz, decide_false, Bool.not_false, if_true, ne_eq, not_false_eq_true]
     exact congrArg some (r3_res _ _)
   ·have tl := sp_erase_told t ft ht.1 v (by have := t.size_mass; unfold lim; omega)
    have sb : dBin .sub (.int .i64 (F : Int)) (.int .i64 (n : Int)) = some (.int .i64 ((m + 1 : Nat) : Int)) := by
     rw [dBin_sub, wrap_id (by omega) (by omega)]
     congr 2
     omega
    have sz := t.many_size
    have szm := t.size_mass
    have ad : dBin .add (.int .i64 (n : Int)) (.int .i64 (t.many : Int)) = some (.int .i64 ((n : Int) + (t.many : Int))) := dAdd (by omega) (by omega)
    rw [Ex.runE_val (m + 1) n v]
    simp only [Bool.not_true, Bool.false_eq_true, if_false, tl, ob_some', dExt_0, dExt_1, isAggN_Val, og_true', sb, dBin_gtr, oif_bool, isCell_int, ad]
    by_cases hlt : ((m + 1 : Nat) : Int) < (t.many : Int)
    ·simp only [hlt, decide_true, if_true, fuel_agg]
     congr 3
     omega
    ·simp only [hlt, decide_false, Bool.false_eq_true, if_false, told_agg]
noncomputable def Ex.RunE (F : Nat) (t : Ex) : Rslt := if t.right = true ∧ t.free = [] then t.runE F 0 else if F = 0 then ⟨5, noVal, 0, false, 0, 0, 0⟩ else R3.stuck.res 1
theorem sp_erase_Run (B : Nat) (hB : 1200 * B ≤ 2147483648) (t : Ex) (ft : t.fit) (hm : 2 * t.mass ≤ lim) (f : Int) (F : Nat) (hF : (F : Int) = min (max f 0) 65536) (hl : t.lean B) (htm : t.cl → t.tame F) : (run cfg).p F_erase_Run [t.enc, .int .i64 f] = some (t.RunE F).enc := by
 have mx : dMax (.int .i64 f) (.int .i64 0) = some (.int .i64 (max f 0)) := by
  show some (DV.int .i64 (if (0 : Int) > f then 0 else f)) = _
  congr 2
  split <;> omega
 have mn : dMin (.int .i64 (max f 0)) (.int .i64 65536) = some (.int .i64 (F : Int)) := by
  show some (DV.int .i64 (if (65536 : Int) < max f 0 then 65536 else max f 0)) = _
  congr 2
  split <;> omega
 refine call_erase_Run _ _ ?_
 rw [eq_erase_Run]
 unfold Ex.RunE
 simp only [exx, isAggN_Ex, og_true', mx, mn, ob_some', sp_erase_closed t ft hm]
 by_cases hc : t.right = true ∧ t.free = []
 ·simp only [hc.1, hc.2, decide_true, Bool.and_self, and_self, if_true]
  exact sp_run_loop B hB F (by omega) F 0 t (by omega) hc hl (htm hc)
 ·have h1 : (t.right && decide (t.free = [])) = false := by
   rw [Bool.eq_false_iff]
   intro h
   rw [Bool.and_eq_true, decide_eq_true_eq] at h
   exact hc h
  rw [h1, if_neg hc, eq_erase_Run_3h]
  simp only [dUn_not, ob_some', ogd_bool, Bool.not_false, if_true]
  rw [eq_erase_Run_5]
  by_cases h0 : F = 0
  ·subst h0
   simp only [Int.natCast_zero, Int.ofNat_zero, Int.cast_ofNat_Int, dBin_eql, decide_true, ob_some', oif_bool, if_true, isCell_int, og_true', fuel_agg]
  ·have ne : ¬ ((0 : Int) = (F : Int)) := by omega
   have a0 : dBin .add (.int .i64 0) (.int .i64 1) = some (.int .i64 1) := by rw [dAdd (by omega) (by omega)]; rfl
   simp only [dBin_eql, ne, decide_false, ob_some', oif_bool, Bool.false_eq_true, if_false, h0]
   rw [eq_erase_Run_10]
   simp only [dBin_neq, Int.reduceEq, decide_false, Bool.not_false, ob_some', oif_bool, if_true, a0, isCell_int, og_true']
   rfl
end Go.Su

/-
 The functions' specs that this claim needs.
-/
namespace Go.Su
set_option linter.unusedVariables false
set_option linter.unusedSimpArgs false
theorem sp_r03_Kids (k : Int) : (run cfg).p F_r03_Kids [.int .i64 k] = some (.int .i64 (arity k)) := by
 refine call_r03_Kids _ ?_
 rw [eq_r03_Kids]
 simp [arity]
 by_cases h1 : k = 1 <;> by_cases h2 : k = 2 <;> by_cases h3 : k = 3 <;> by_cases h4 : k = 4 <;> by_cases h5 : k = 5 <;> by_cases h6 : k = 6 <;> by_cases h7 : k = 7 <;> by_cases h8 : k = 8 <;> by_cases h9 : k = 9 <;> simp_all
theorem sp_r03_Right (t : Ty) : t.thin = true → (run cfg).p F_r03_Right [t.enc] = some (.bool t.right) := by
 induction t using Ty.ind with
 | h t ih =>
   intro ht
   have hb := t.thin_len ht
   refine call_r03_Right _ ?_
   have loop : P_r03_Right_4h (run cfg) (.int .i64 0) t.enc = _ := loop_all (l := t.kids) (f := Ty.right) (P := fun i => P_r03_Right_4h (run cfg) (.int .i64 i) t.enc) (y := .bool true) (n := .bool false)
    (by rw [eq_r03_Right_4h]; simp)
    (fun i h => by
      rw [eq_r03_Right_4h]
      simp [h, dIdx_map h, Ty.eta, Ty.ag, ih _ (List.getElem_mem h) (Ty.thin_kid ht (List.getElem_mem h)), dAdd1 (show i < 9223372036854775807 by omega)]
      cases t.kids[i].right <;> rfl)
   rw [eq_r03_Right]
   simp only [isAggN_Ty, og_true', Ty.proj0, Ty.proj1, Ty.proj2, sp_r03_Kids, ob_some', dLen_list, dBin_neq, dBin_lss, dBin_gtr, ogd_bool, oif_bool, loop, Ty.right_eq t, List.length_map]
   grind
theorem sp_r03_Same (a : Ty) : a.thin = true → ∀ b : Ty, (run cfg).p F_r03_Same [a.enc, b.enc] = some (.bool (decide (a = b))) := by
 induction a using Ty.ind with
 | h a ih =>
   intro ha b
   have hb := a.thin_len ha
   refine call_r03_Same _ _ ?_
   rw [eq_r03_Same]
   simp
   by_cases h1 : a.kind = b.kind <;> simp [h1, Ty.ext_iff']
   by_cases h2 : a.n = b.n <;> simp [h2]
   by_cases h3 : a.kids.length = b.kids.length
   ·have loop := loop_two (l := a.kids) (m := b.kids) h3 (P := fun i => P_r03_Same_4h (run cfg) (.int .i64 i) a.enc b.enc) (y := .bool true) (n := .bool false)
     (by rw [eq_r03_Same_4h]; simp [h3])
     (fun i h => by
       have h' : i < b.kids.length := by omega
       rw [eq_r03_Same_4h]
       simp [h, h', dIdx_map h, dIdx_map h', Ty.eta, Ty.ag, ih _ (List.getElem_mem h) (Ty.thin_kid ha (List.getElem_mem h)), dAdd1 (show i < 9223372036854775807 by omega)])
    simp only [h3] at loop ⊢
    simp [loop]
    by_cases h4 : a.kids = b.kids <;> simp [h4]
   ·have : a.kids ≠ b.kids := fun h => h3 (by rw [h])
    simp [Int.ofNat_inj, h3, this]
theorem sp_r03_Without (q : Int) (t : Ty) : t.thin = true → (run cfg).p F_r03_Without [t.enc, .int .i64 q] = some (.bool (t.without q)) := by
 induction t using Ty.ind with
 | h t ih =>
   intro ht
   have hb := t.thin_len ht
   refine call_r03_Without _ _ ?_
   have loop : P_r03_Without_4h (run cfg) (.int .i64 q) (.int .i64 0) t.enc = _ := loop_allB (l := t.kids) (f := Ty.without q) (P := fun i => P_r03_Without_4h (run cfg) (.int .i64 q) (.int .i64 i) t.enc)
    (by rw [eq_r03_Without_4h]; simp)
    (fun i h => by
      rw [eq_r03_Without_4h]
      simp [h, dIdx_map h, Ty.eta, Ty.ag, ih _ (List.getElem_mem h) (Ty.thin_kid ht (List.getElem_mem h)), dAdd1 (show i < 9223372036854775807 by omega)]
      cases (t.kids[i].without q) <;> rfl)
   rw [eq_r03_Without]
   simp only [loop, isAggN_Ty, og_true', Ty.proj0, Ty.proj2, ob_some', dLen_list, dBin_eql, oif_bool, List.length_map, Ty.without_eq q t]
   by_cases h1 : t.kind = q <;> simp [h1]
theorem sp_r01_lower (c : Int) : (run cfg).p F_r01_lower [.int .u8 c] = some (.bool (lowerB c)) := by
 refine call_r01_lower _ ?_
 rw [eq_r01_lower]
 simp only [dBin_geq, dBin_leq, ob_some', ogd_bool, decide_eq_true_eq, lowerB]
 by_cases h1 : 97 ≤ c <;> simp [h1]
theorem sp_r01_digit (c : Int) : (run cfg).p F_r01_digit [.int .u8 c] = some (.bool (digitB c)) := by
 refine call_r01_digit _ ?_
 rw [eq_r01_digit]
 simp only [dBin_geq, dBin_leq, ob_some', ogd_bool, decide_eq_true_eq, digitB]
 by_cases h1 : 48 ≤ c <;> simp [h1]
theorem sp_r01_part (c : Int) : (run cfg).p F_r01_part [.int .u8 c] = some (.bool (partB c)) := by
 refine call_r01_part _ ?_
 rw [eq_r01_part]
 simp only [dBin_geq, dBin_leq, dBin_eql, ob_some', ogd_bool, decide_eq_true_eq, sp_r01_lower, sp_r01_digit, partB]
 by_cases h1 : lowerB c = true <;> by_cases h2 : digitB c = true <;> by_cases h3 : 65 ≤ c <;> by_cases h4 : c ≤ 90 <;> by_cases h7 : c = 95 <;> simp [h1, h2, h3, h4, h7]
open Classical in
theorem sp_r01_Key (s : ByteArray) (hs : s.size ≤ 4294967000) : (run cfg).p F_r01_Key [.str s] = some (.bool (keyB s)) := by
 have hb : (bts s).length ≤ 4294967000 := by rw [bts_len]; exact hs
 refine call_r01_Key _ ?_
 rw [eq_r01_Key]
 let t : ByteArray := ⟨#[32]⟩ ++ s ++ ⟨#[32]⟩
 have tl : t.data.toList = 32 :: s.data.toList ++ [32] := by simp [t]
 have ts : t.size = s.size + 2 := by
  have := congrArg List.length tl
  simp only [Array.length_toList, List.length_append, List.length_cons, List.length_nil] at this
  have e1 : t.size = t.data.size := rfl
  have e2 : s.size = s.data.size := rfl
  omega
 have search : ∀ (k i : Nat), i + k = 82 → P_r01_Key_8h (run cfg) (.str s) (.str t) (.int .i64 i) = some (.bool (decide (0 < s.size ∧ ∃ j, i ≤ j ∧ j + t.size ≤ 81 ∧ (wordsL.drop j).take t.size = t.data.toList))) := by
  intro k
  induction k with
  | zero =>
    intro i hi
    rw [eq_r01_Key_8h]
    simp only [dLenS_str, ob_some']
    rw [dAdd (by omega) (by omega)]
    have : ¬ ((i : Int) + (t.size : Int) ≤ 81) := by omega
    have h2 : ¬ (0 < s.size ∧ ∃ j, i ≤ j ∧ j + t.size ≤ 81 ∧ (wordsL.drop j).take t.size = t.data.toList) := by rintro ⟨-, j, h1, h2, -⟩; omega
    simp [this, h2]
  | succ k ih =>
    intro i hi
    rw [eq_r01_Key_8h]
    simp only [dLenS_str, ob_some']
    rw [dAdd (by omega) (by omega)]
    by_cases h1 : (i : Int) + (t.size : Int) ≤ 81
    ·have h1' : i + t.size ≤ 81 := by omega
     have nx := ih (i + 1) (by omega)
     simp only [dBin_leq, h1, decide_true, ob_some', oif_bool, if_true, dBin_gtr, ogd_bool, decide_eq_true_eq]
     rw [show ((i + 1 : Nat) : Int) = (i : Int) + 1 by omega] at nx
     by_cases h0 : (0 : Int) < (s.size : Int)
     ·have h0' : 0 < s.size := by omega
      have ext : ∀ w : ByteArray, w.data.toList = wordsL → dSliceS (.str w) (some (.int .i64 (i : Int))) (some (.int .i64 ((i : Int) + (t.size : Int)))) = some (.str (w.extract i (i + t.size))) := by
       intro w hw
       have hwl : w.size = 81 := by
        have := congrArg List.length hw
        rw [words_len] at this
        simpa using this
       have e1 : ((i : Int) + (t.size : Int)).toNat = i + t.size := by omega
       simp only [dSliceS, bnd, ob_some', e1, show (0 : Int) ≤ (i : Int) + (t.size : Int) by omega, if_true, Int.natCast_nonneg, Int.toNat_natCast, hwl]
       rw [if_pos (by omega)]
      simp only [h0, if_true]
      rw [ext _ rfl]
      simp only [ob_some', dBin_seql, oif_bool, decide_eq_true_eq]
      rw [dAdd1 (by omega)]
      simp only [ob_some']
      rw [show ((i + 1 : Nat) : Int) = (i : Int) + 1 by omega, nx]
      have exl : ∀ w : ByteArray, w.data.toList = wordsL → ((w.extract i (i + t.size) = t) ↔ (wordsL.drop i).take t.size = t.data.toList) := by
       intro w hw
       have e : (w.extract i (i + t.size)).data.toList = (wordsL.drop i).take t.size := by
        rw [ByteArray.data_extract, Array.toList_extract, hw, List.extract_eq_take_drop]
        congr 1
        omega
       rw [← e]
       constructor
       ·intro h; rw [h]
       ·intro h
        cases hx : w.extract i (i + t.size)
        rw [hx] at h
        cases ht : t
        rw [ht] at h
        simp only [ByteArray.mk.injEq]
        exact Array.ext' h
      by_cases h2 : (wordsL.drop i).take t.size = t.data.toList
      ·rw [if_pos ((exl _ rfl).2 h2)]
       have : (0 < s.size ∧ ∃ j, i ≤ j ∧ j + t.size ≤ 81 ∧ (wordsL.drop j).take t.size = t.data.toList) := ⟨h0', i, Nat.le_refl _, h1', h2⟩
       simp [this]
      ·rw [if_neg (fun h => h2 ((exl _ rfl).1 h))]
       congr 2
       rw [Bool.eq_iff_iff]
       simp only [decide_eq_true_eq]
       constructor
       ·rintro ⟨a, j, b, c⟩; exact ⟨a, j, by omega, c⟩
       ·rintro ⟨a, j, b, c, d⟩
        refine ⟨a, j, ?_, c, d⟩
        rcases Nat.lt_or_ge i j with h | h
        ·exact h
        ·exact absurd (by rw [show i = j by omega]; exact d) h2
     ·have : ¬ (0 < s.size ∧ ∃ j, i ≤ j ∧ j + t.size ≤ 81 ∧ (wordsL.drop j).take t.size = t.data.toList) := fun h => h0 (by have := h.1; omega)
      have this' : ¬ (0 < s.size ∧ ∃ j, i + 1 ≤ j ∧ j + t.size ≤ 81 ∧ (wordsL.drop j).take t.size = t.data.toList) := fun h => h0 (by have := h.1; omega)
      simp only [h0, if_false]
      rw [dAdd1 (by omega)]
      simp only [ob_some']
      rw [show ((i + 1 : Nat) : Int) = (i : Int) + 1 by omega, nx]
      simp [this, this']
    ·have h2 : ¬ (0 < s.size ∧ ∃ j, i ≤ j ∧ j + t.size ≤ 81 ∧ (wordsL.drop j).take t.size = t.data.toList) := by rintro ⟨-, j, h3, h4, -⟩; omega
     simp [h1, h2]
 have fin : (s.data.toList.all low8 = true ∧ 0 < s.size ∧ ∃ j, 0 ≤ j ∧ j + t.size ≤ 81 ∧ (wordsL.drop j).take t.size = t.data.toList) ↔ s.data.toList ∈ keyL := by
  rw [← words_key]
  have e2 : s.data.toList.length = s.size := by simp
  rw [e2, ts, tl]
  simp
 have low : ∀ b : UInt8, lowerB (b.toNat : Int) = low8 b := by
  intro b
  simp only [lowerB, low8, UInt8.le_iff_toNat_le]
  rw [Bool.eq_iff_iff]
  simp only [Bool.and_eq_true, decide_eq_true_eq]
  have h1 : (97 : UInt8).toNat = 97 := rfl
  have h2 : (122 : UInt8).toNat = 122 := rfl
  rw [h1, h2]
  omega
 have loop : ∀ (k i : Nat), i + k = (bts s).length → P_r01_Key_2h (run cfg) (.str s) (.int .i64 i) = some (.bool (decide (((bts s).drop i).all lowerB = true ∧ 0 < s.size ∧ ∃ j, 0 ≤ j ∧ j + t.size ≤ 81 ∧ (wordsL.drop j).take t.size = t.data.toList))) := by
  intro k
  induction k with
  | zero =>
    intro i hi
    rw [eq_r01_Key_2h]
    have hlt : ¬ (i : Int) < (s.size : Int) := by rw [← bts_len]; omega
    have e1 : dBin .add (.str ⟨#[32]⟩) (.str s) = some (.str (⟨#[32]⟩ ++ s)) := by
     simp only [dBin, dStrOp]
     rw [if_pos]
     have : (⟨#[32]⟩ : ByteArray).size = 1 := rfl
     unfold lim; omega
    have e2 : dBin .add (.str (⟨#[32]⟩ ++ s)) (.str ⟨#[32]⟩) = some (.str t) := by
     simp only [dBin, dStrOp]
     rw [if_pos]
     have h1 : (⟨#[32]⟩ : ByteArray).size = 1 := rfl
     have h2 : (⟨#[32]⟩ ++ s : ByteArray).size = s.size + 1 := by
      have := ByteArray.size_append (a := ⟨#[32]⟩) (b := s)
      omega
     unfold lim; omega
    have := search 82 0 rfl
    simp only [Int.natCast_zero, Int.ofNat_zero, Int.cast_ofNat_Int] at this
    simp only [dLenS_str, ob_some', dBin_lss, hlt, decide_false, oif_bool, Bool.false_eq_true, if_false, e1, e2, List.drop_of_length_le (show (bts s).length ≤ i by omega), List.all_nil, true_and]
    exact this
  | succ k ih =>
    intro i hi
    have h : i < (bts s).length := by omega
    rw [eq_r01_Key_2h]
    have := ih (i + 1) (by omega)
    push_cast at this
    have hlt : (i : Int) < (s.size : Int) := by rw [← bts_len]; omega
    rw [List.drop_eq_getElem_cons h, List.all_cons]
    simp only [dLenS_str, ob_some', dBin_lss, hlt, decide_true, oif_bool, if_true, dStr_idx h, sp_r01_lower, dUn_not, dAdd1 (show i < 9223372036854775807 by omega)]
    push_cast
    rw [this]
    cases lowerB (bts s)[i] <;> simp
 have l0 := loop (bts s).length 0 (by omega)
 simp only [Int.natCast_zero, Int.ofNat_zero, Int.cast_ofNat_Int] at l0
 have e3 : (bts s).all lowerB = s.data.toList.all low8 := by
  simp only [bts, List.all_map]
  congr 1
  funext b
  exact low b
 refine l0.trans ?_
 rw [List.drop_zero, e3]
 simp only [fin, keyB]
theorem sp_r01_Name (s : ByteArray) (hs : s.size ≤ 4294967000) : (run cfg).p F_r01_Name [.str s] = some (.bool (nameB s)) := by
 have hb := str_big (s := s) (by unfold lim; omega)
 refine call_r01_Name _ ?_
 rw [eq_r01_Name]
 have h32 : dBin .gtr (.int .i64 (s.size : Int)) (.int .i64 32) = some (.bool (decide (32 < s.size))) := by
  rw [dBin_gtr]; congr 2; rw [decide_eq_decide]; omega
 simp only [dLenS_str, ob_some', dBin_lss, h32, ogd_bool, oif_bool, decide_eq_true_eq, nameB]
 by_cases h1 : (s.size : Int) < 1
 ·have : ¬ (1 ≤ s.size) := by omega
  simp [h1, this]
 ·by_cases h2 : 32 < s.size
  ·have : ¬ (s.size ≤ 32) := by omega
   simp [h1, h2, this]
  ·have h0 : 0 < (bts s).length := by rw [bts_len]; omega
   have loop : ∀ (k i : Nat), i + k = (bts s).length → P_r01_Name_4h (run cfg) (.str s) (.int .i64 i) = some (.bool (((bts s).drop i).all partB && !keyB s)) := by
    intro k
    induction k with
    | zero =>
      intro i hi
      rw [eq_r01_Name_4h]
      have hlt : ¬ (i : Int) < (s.size : Int) := by rw [← bts_len]; omega
      simp [hlt, List.drop_of_length_le (show (bts s).length ≤ i by omega), sp_r01_Key s hs]
    | succ k ih =>
      intro i hi
      have h : i < (bts s).length := by omega
      rw [eq_r01_Name_4h]
      have := ih (i + 1) (by omega)
      push_cast at this
      have hlt : (i : Int) < (s.size : Int) := by rw [← bts_len]; omega
      rw [List.drop_eq_getElem_cons h, List.all_cons]
      simp only [dLenS_str, ob_some', dBin_lss, hlt, decide_true, oif_bool, if_true, dStr_idx h, sp_r01_part, dUn_not, dAdd1 (show i < 9223372036854775807 by omega)]
      push_cast
      rw [this]
      cases partB (bts s)[i] <;> rfl
   have l0 := loop (bts s).length 0 (by omega)
   simp only [Int.natCast_zero, Int.ofNat_zero, Int.cast_ofNat_Int, List.drop_zero] at l0
   have g0 : (bts s).getD 0 0 = (bts s)[0] := by simp [List.getD_eq_getElem?_getD, h0]
   have e0' : dStrIdx (.str s) (.int .i64 0) = some (.int .u8 (bts s)[0]) := dStr_idx (s := s) (k := .i64) h0
   have a1 : (1 ≤ s.size) := by omega
   have a2 : (s.size ≤ 32) := by omega
   simp only [h1, h2, if_false, e0', ob_some', sp_r01_lower, dUn_not, oif_bool, g0, a1, a2, decide_true, Bool.true_and, l0]
   cases lowerB (bts s)[0] <;> simp
theorem sp_r05_pat (p : Pat) : p.thin = true → p.txt → (run cfg).p F_r05_pat [p.enc] = some (.bool p.pat) := by
 induction p using Pat.ind with
 | h p ih =>
   intro ht hx
   have hb := p.thin_len ht
   obtain ⟨hn, hs⟩ := hx p p.self_sub
   have loop : P_r05_pat_28h (run cfg) (.int .i64 p.kids.length) (.int .i64 0) p.enc = some (.bool (p.kids.all Pat.pat)) :=
    loop_allB (l := p.kids) (f := Pat.pat) (P := fun i => P_r05_pat_28h (run cfg) (.int .i64 p.kids.length) (.int .i64 i) p.enc)
     (by rw [eq_r05_pat_28h]; simp)
     (fun i h => by
       rw [eq_r05_pat_28h]
       simp [h, dIdx_map h, Pat.eta, Pat.ag, ih _ (List.getElem_mem h) (Pat.thin_kid ht (List.getElem_mem h)) (Pat.txt_kid hx (List.getElem_mem h)), dAdd1 (show i < 9223372036854775807 by omega)]
       cases p.kids[i].pat <;> rfl)
   have h25 : ∀ (t4 : Int) (a : DV) (nm : ByteArray) (n : Int) (s : ByteArray), P_r05_pat_25 (run cfg) (.int .i64 t4) p.enc a (.str nm) (.int .i64 n) (.str s) =
    some (.bool ((decide ((p.kids.length : Int) = t4) && decide (p.name = nm) && decide (p.n = n) && decide (p.s = s)) && p.kids.all Pat.pat)) := by
    intro t4 a nm n s
    rw [eq_r05_pat_25]
    simp only [Pat.proj6, Pat.proj3, Pat.proj4, Pat.proj5, dLen_list, List.length_map, ob_some', dBin_neq, dBin_sneq, ogd_bool, oif_bool, decide_eq_true_eq]
    by_cases h1 : (p.kids.length : Int) = t4 <;> by_cases h2 : p.name = nm <;> by_cases h3 : p.n = n <;> by_cases h4 : p.s = s <;> simp [h1, h2, h3, h4]
    rw [← h1]
    rw [loop]
   refine call_r05_pat _ ?_
   rw [eq_r05_pat]
   have hs' : dBin .gtr (.int .i64 (p.s.size : Int)) (.int .i64 200) = some (.bool (decide (200 < p.s.size))) := by
    rw [dBin_gtr]; congr 2; rw [decide_eq_decide]; omega
   simp only [isAggN_Pat, og_true', Pat.pj, isCell_int, isCell_str, isCell_list, dBin_eql, dBin_neq, dBin_lss, dBin_gtr, ob_some', oif_bool, ogd_bool, sp_r01_Name p.name hn, dUn_not, dLenS_str, h25, nil_str]
   rw [Pat.pat_eq]
   unfold Pat.one
   by_cases k1 : p.kind = 1
   ·simp [k1]
   by_cases k6 : p.kind = 6
   ·simp [k6]
   by_cases k8 : p.kind = 8
   ·simp [k8]
   by_cases k2 : p.kind = 2
   ·cases hnm : nameB p.name <;> simp [k2, hnm]
   by_cases k3 : p.kind = 3
   ·simp [k3]
   by_cases k4 : p.kind = 4
   ·by_cases n0 : p.n < 0
    ·have h1 : ¬ (p.n = 0 ∨ p.n = 1) := by omega
     simp [k4, n0, h1]
    ·by_cases n1 : 1 < p.n
     ·have h1 : ¬ (p.n = 0 ∨ p.n = 1) := by omega
      simp [k4, n0, n1, h1]
     ·have h1 : (p.n = 0 ∨ p.n = 1) := by omega
      simp [k4, n0, n1, h1]
   by_cases k5 : p.kind = 5
   ·by_cases h : (200 : Int) < (p.s.size : Int)
    ·have : ¬ p.s.size ≤ 200 := by omega
     simp [k5, h, this]
    ·have : p.s.size ≤ 200 := by omega
     simp [k5, h, this]
   by_cases k7 : p.kind = 7
   ·simp [k7]
    have : ((p.kids.length : Int) = 2) ↔ (p.kids.length = 2) := by omega
    simp [this]
   by_cases k9 : p.kind = 9
   ·simp [k9]
    have : ((p.kids.length : Int) = 2) ↔ (p.kids.length = 2) := by omega
    simp [this]
   simp [k1, k2, k3, k4, k5, k6, k7, k8, k9]
theorem sp_r05_names (t : Pat) : ∀ (l : List ByteArray) (sg : List SObj), l.length + t.size ≤ lim → (run cfg).r F_r05_names [(t.enc, .val), (encStrs l, .own)] sg = some ([encStrs (t.namesOn l)], sg) := by
 induction t using Pat.ind with
 | h t ih =>
   intro l sg hl
   have hb := Pat.thin_len _ (Pat.thin_of_size (show t.size ≤ lim by omega))
   have hB := big hl
   refine call_r05_names _ _ _ ?_
   have loop : ∀ l : List ByteArray, l.length + (t.kids.map Pat.size).sum ≤ lim → P_r05_names_4h (run cfg) (encStrs l) (.int .i64 0) t.enc sg = some ([encStrs (t.kids.foldl (fun l k => k.namesOn l) l)], sg) :=
    loop_fold (l := t.kids) (P := fun i (a : List ByteArray) => P_r05_names_4h (run cfg) (encStrs a) (.int .i64 i) t.enc sg) (g := fun a k => k.namesOn a) (fin := fun a => some ([encStrs a], sg))
     (I := fun i a => a.length + ((t.kids.drop i).map Pat.size).sum ≤ lim)
     (fun a _ => by rw [eq_r05_names_4h]; simp)
     (fun i h a ha => by
       rw [List.drop_eq_getElem_cons h, List.map_cons, List.sum_cons] at ha
       have h1 := Pat.namesOn_len t.kids[i] a
       refine ⟨?_, by omega⟩
       rw [eq_r05_names_4h]
       simp [h, dIdx_map h, Pat.eta, Pat.ag, ih _ (List.getElem_mem h) a sg (by omega), dAdd1 (show i < 9223372036854775807 by omega)])
   have hsz := Pat.size_eq t
   rw [eq_r05_names, Pat.namesOn_eq]
   simp
   by_cases h6 : t.kind = 2
   ·simp [h6]
    rw [show encStrs l = .list 1 (l.map fun n => .str n) from rfl, dApp_list (by simp; omega)]
    have := loop (l ++ [t.name]) (by simp; omega)
    simpa [encStrs] using this
   ·simp [h6, loop l (by omega)]
theorem sp_r05_Names (t : Pat) (ht : t.size ≤ lim) : (run cfg).p F_r05_Names [t.enc] = some (encStrs t.names) := by
 refine call_r05_Names _ ?_
 rw [eq_r05_Names]
 have := sp_r05_names t [] [] (by simpa using ht)
 have e : encStrs [] = .list 1 [] := rfl
 rw [e] at this
 simp [Pat.eta, Pat.ag, this, Pat.names]
theorem sp_r05_Has (l : List ByteArray) (hl : l.length ≤ lim) (n : ByteArray) : (run cfg).p F_r05_Has [encStrs l, .str n] = some (.bool (hasS l n)) := by
 have hb := big hl
 refine call_r05_Has _ _ ?_
 rw [eq_r05_Has]
 have loop := loop_anyB (l := l) (f := fun x => decide (x = n)) (P := fun i => P_r05_Has_2h (run cfg) (encStrs l) (.str n) (.int .i64 i))
  (by rw [eq_r05_Has_2h]; simp)
  (fun i h => by
    rw [eq_r05_Has_2h]
    simp [h, dIdx_strs h, dAdd1 (show i < 9223372036854775807 by omega)])
 exact loop
theorem dSlice_pre {α : Type} {e : α → DV} {l : List α} {i : Nat} (h : i ≤ l.length) (sz : Nat) : dSlice sz (.list sz (l.map e)) none (some (.int .i64 (i : Int))) = some (.list sz ((l.take i).map e)) := by
 simp [dSlice, bnd, h, List.map_take]
theorem nodup_scan {α : Type} [DecidableEq α] (l : List α) : (∀ (i : Nat) (h : i < l.length), l[i] ∉ l.take i) ↔ l.Nodup := by
 constructor
 ·intro h
  rw [List.nodup_iff_pairwise_ne, List.pairwise_iff_getElem]
  intro i j hi hj hij he
  exact h j hj (by rw [← he]; exact List.mem_take_iff_getElem.2 ⟨i, by omega, rfl⟩)
 ·intro h i hi hm
  obtain ⟨j, hj, he⟩ := List.mem_take_iff_getElem.1 hm
  rw [List.nodup_iff_pairwise_ne, List.pairwise_iff_getElem] at h
  exact h j i (by omega) hi (by omega) he
open Classical in
theorem sp_r05_RightPat (p : Pat) (ht : p.size ≤ lim) (hx : p.txt) : (run cfg).p F_r05_RightPat [p.enc] = some (.bool p.right) := by
 refine call_r05_RightPat _ ?_
 rw [eq_r05_RightPat]
 have hnl : p.names.length ≤ lim := by have := Pat.namesOn_len p []; simp at this; unfold Pat.names; omega
 have hb := big hnl
 simp [Pat.eta, Pat.ag, sp_r05_pat p (Pat.thin_of_size ht) hx, sp_r05_Names p ht, Pat.right]
 cases hp : p.pat
 ·simp
 ·simp
  have loop : ∀ (k i : Nat), i + k = p.names.length → P_r05_RightPat_5h (run cfg) (encStrs p.names) (.int .i64 i) = some (.bool (decide (∀ j (h : j < p.names.length), i ≤ j → p.names[j] ∉ p.names.take j))) := by
   intro k
   induction k with
   | zero =>
     intro i hi
     rw [eq_r05_RightPat_5h]
     have : ¬ i < p.names.length := by omega
     have h2 : ∀ j (h : j < p.names.length), i ≤ j → p.names[j] ∉ p.names.take j := fun j h h' => by omega
     simp [this]
     exact h2
   | succ k ih =>
     intro i hi
     have h : i < p.names.length := by omega
     have nx := ih (i + 1) (by omega)
     push_cast at nx
     rw [eq_r05_RightPat_5h]
     have sl : dSlice 1 (encStrs p.names) none (some (.int .i64 (i : Int))) = some (encStrs (p.names.take i)) := dSlice_pre (by omega) 1
     simp [h, sl, dIdx_strs h, sp_r05_Has (p.names.take i) (by simp; omega), dAdd1 (show i < 9223372036854775807 by omega), nx]
     by_cases hm : p.names[i] ∈ p.names.take i
     ·simp only [hasS_iff.2 hm, if_true]
      congr 2
      symm
      rw [decide_eq_false_iff_not]
      exact fun hh => hh i h (Nat.le_refl _) hm
     ·have hm' : ¬ (hasS (p.names.take i) p.names[i] = true) := fun h => hm (hasS_iff.1 h)
      have hm'' : hasS (p.names.take i) p.names[i] = false := by simpa using hm'
      simp only [hm'', Bool.false_eq_true, if_false]
      congr 2
      rw [decide_eq_decide]
      constructor
      ·intro hh j hj hij
       rcases Nat.lt_or_ge i j with h1 | h1
       ·exact hh j hj h1
       ·have : i = j := by omega
        subst this
        exact hm
      ·intro hh j hj hij
       exact hh j hj (by omega)
  have l0 := loop p.names.length 0 (by omega)
  simp only [Int.natCast_zero, Int.ofNat_zero, Int.cast_ofNat_Int] at l0
  rw [l0]
  congr 2
  rw [decide_eq_decide, ← nodup_scan]
  simp
theorem encStrs_one (s : ByteArray) : (.list 1 [.str s] : DV) = encStrs [s] := rfl
theorem encStrs_two (s t : ByteArray) : (.list 1 [.str s, .str t] : DV) = encStrs [s, t] := rfl
theorem sp_r05_Rise (l : List ByteArray) (s : ByteArray) (hl : l.length + 1 ≤ lim) : (run cfg).p F_r05_Rise [encStrs l, .str s] = some (encStrs (rise l s)) := by
 have hb := big hl
 refine call_r05_Rise _ _ ?_
 rw [eq_r05_Rise]
 have p6 : ∀ i, i ≤ l.length → P_r05_Rise_6 (run cfg) (encStrs l) (.str s) (.int .i64 (i : Int)) = some (encStrs (l.take i ++ s :: l.drop i)) := by
  intro i hi
  have e1 : dSlice 1 (encStrs l) none (some (.int .i64 (i : Int))) = some (encStrs (l.take i)) := dSlice_pre hi 1
  have e2 : dSlice 1 (encStrs l) (some (.int .i64 (i : Int))) none = some (encStrs (l.drop i)) := by simp [dSlice, bnd, hi, encStrs, List.map_drop, List.take_of_length_le]
  rw [eq_r05_Rise_6]
  simp only [e1, e2, ob_some', encStrs_nil, encStrs_one, isCell_str, og_true']
  rw [dApp_strs (by simp; omega)]
  simp only [ob_some']
  rw [dApp_strs (by simp; omega)]
  simp only [ob_some']
  rw [dApp_strs (by simp; omega)]
  simp
 have p4 : ∀ i, i ≤ l.length → (∀ (h : i < l.length), strLt l[i] s = false) → P_r05_Rise_4 (run cfg) (encStrs l) (.str s) (.int .i64 (i : Int)) = some (encStrs (l.take i ++ rise (l.drop i) s)) := by
  intro i hi hn
  rw [eq_r05_Rise_4]
  by_cases h : i < l.length
  ·have h0 := hn h
   rw [List.drop_eq_getElem_cons h]
   simp only [dLen_strs, ob_some', dBin_lss, Int.ofNat_lt, h, decide_true, ogd_bool, if_true, dIdx_strs h, isLeaf_str, og_true', dBin_seql, oif_bool, decide_eq_true_eq, rise, h0, Bool.false_eq_true, if_false]
   by_cases he : l[i] = s
   ·simp only [he, if_true]
    congr 2
    rw [← he, ← List.drop_eq_getElem_cons h, List.take_append_drop]
   ·simp only [he, if_false]
    rw [p6 i hi, List.drop_eq_getElem_cons h]
  ·have e : i = l.length := by omega
   subst e
   simp only [dLen_strs, ob_some', dBin_lss, Int.lt_irrefl, decide_false, ogd_bool, Bool.false_eq_true, if_false, List.drop_length, rise]
   rw [p6 _ (Nat.le_refl _), List.drop_length]
 have loop : ∀ (n i : Nat), i + n = l.length → P_r05_Rise_2h (run cfg) (encStrs l) (.str s) (.int .i64 (i : Int)) = some (encStrs (l.take i ++ rise (l.drop i) s)) := by
  intro n
  induction n with
  | zero =>
    intro i hi
    have e : i = l.length := by omega
    have := p4 i (by omega) (fun h => by omega)
    subst e
    rw [eq_r05_Rise_2h]
    simp only [dLen_strs, ob_some', dBin_lss, Int.lt_irrefl, decide_false, ogd_bool, Bool.false_eq_true, if_false]
    exact this
  | succ n ih =>
    intro i hi
    have h : i < l.length := by omega
    rw [eq_r05_Rise_2h]
    simp only [dLen_strs, ob_some', dBin_lss, Int.ofNat_lt, h, decide_true, ogd_bool, if_true, dIdx_strs h, isLeaf_str, og_true', dBin_slss, oif_bool]
    cases h0 : strLt l[i] s
    ·exact p4 i (by omega) (fun _ => h0)
    ·simp only [if_true]
     rw [dAdd1 (by omega)]
     simp only [ob_some']
     rw [ih (i + 1) (by omega)]
     rw [List.drop_eq_getElem_cons h]
     simp only [rise, h0, if_true]
     rw [List.take_succ_eq_append_getElem h, List.append_assoc]
     rfl
 have := loop l.length 0 (by omega)
 simpa using this
theorem sp_r03_None (t : Ty) : (run cfg).p F_r03_None [t.enc] = some (.bool t.none) := by
 refine call_r03_None _ ?_
 rw [eq_r03_None]
 simp [Ty.none]
 by_cases h1 : t.kind = 0 <;> by_cases h2 : t.n = 0 <;> simp [h1, h2]
theorem sp_r05_note (t : Ty) (ht : t.thin = true) (may : Bool) : (run cfg).p F_r05_note [t.enc, .bool may] = some (.bool (if t.none = true then may else t.closed)) := by
 refine call_r05_note _ _ ?_
 rw [eq_r05_note]
 simp [Ty.eta, Ty.ag, sp_r03_None, sp_r03_Right t ht, sp_r03_Without 6 t ht, Ty.closed]
 cases t.none <;> cases t.right <;> simp
theorem noTy_none (t : Ty) : (t = noTy) ↔ t.none = true := Ty.none_iff.symm
theorem sp_r05_fields (t : Ex) (ht : t.fit1) : (run cfg).p F_r05_fields [t.enc] = some (.tup [(fieldsX t).enc, .int .i64 (manyX t)]) := by
 have hp := big (Nat.le_of_lt ht.pats)
 refine call_r05_fields _ ?_
 rw [eq_r05_fields, Ex.enc_eq (fieldsX t)]
 by_cases k14 : t.kind = 14
 ·have h1 : dBin .add (.int .i64 1) (.int .i64 (t.pats.length : Int)) = some (.int .i64 ((t.pats.length : Int) + 1)) := by
   rw [dBin_add, wrap_id (by omega) (by omega), Int.add_comm]
  simp [k14, h1, fieldsX, manyX, noTy, eName, eArg, eN, eS, eOp, eA, eB, eMust, eKids, nil_str]
 by_cases k1 : t.kind = 1
 ·simp [k1, fieldsX, manyX, noTy, eName, eArg, eN, eS, eOp, eA, eB, eMust, eKids, nil_str]
 by_cases k2 : t.kind = 2
 ·simp [k2, fieldsX, manyX, noTy, eName, eArg, eN, eS, eOp, eA, eB, eMust, eKids, nil_str]
 by_cases k3 : t.kind = 3
 ·simp [k3, fieldsX, manyX, noTy, eName, eArg, eN, eS, eOp, eA, eB, eMust, eKids, nil_str]
 by_cases k4 : t.kind = 4
 ·simp [k4, fieldsX, manyX, noTy, eName, eArg, eN, eS, eOp, eA, eB, eMust, eKids, nil_str]
 by_cases k5 : t.kind = 5
 ·simp [k5, fieldsX, manyX, noTy, eName, eArg, eN, eS, eOp, eA, eB, eMust, eKids, nil_str]
 by_cases k6 : t.kind = 6
 ·simp [k6, fieldsX, manyX, noTy, eName, eArg, eN, eS, eOp, eA, eB, eMust, eKids, nil_str]
 by_cases k7 : t.kind = 7
 ·simp [k7, fieldsX, manyX, noTy, eName, eArg, eN, eS, eOp, eA, eB, eMust, eKids, nil_str]
 by_cases k8 : t.kind = 8
 ·simp [k8, fieldsX, manyX, noTy, eName, eArg, eN, eS, eOp, eA, eB, eMust, eKids, nil_str]
 by_cases k9 : t.kind = 9
 ·have d1 : dBin .sub (.int .i64 9) (.int .i64 9) = some (.int .i64 0) := by rw [dBin_sub, wrap_id (by omega) (by omega)]; rfl
  have d2 : dBin .quo (.int .i64 0) (.int .i64 2) = some (.int .i64 0) := rfl
  have d3 : dBin .add (.int .i64 1) (.int .i64 0) = some (.int .i64 1) := by rw [dBin_add, wrap_id (by omega) (by omega)]; rfl
  simp only [k9, fieldsX, manyX, noTy, eName, eArg, eN, eS, eOp, eA, eB, eMust, eKids, nil_str, Ex.proj0, isAggN_Ex, og_true', isCell_int, dBin_eql, ob_some', oif_bool]
  simp [eq_r05_fields_20, d1, d2, d3, k9, nil_str]
 by_cases k10 : t.kind = 10
 ·simp [k10, fieldsX, manyX, noTy, eName, eArg, eN, eS, eOp, eA, eB, eMust, eKids, nil_str]
 by_cases k11 : t.kind = 11
 ·have d1 : dBin .sub (.int .i64 11) (.int .i64 9) = some (.int .i64 2) := by rw [dBin_sub, wrap_id (by omega) (by omega)]; rfl
  have d2 : dBin .quo (.int .i64 2) (.int .i64 2) = some (.int .i64 1) := rfl
  have d3 : dBin .add (.int .i64 1) (.int .i64 1) = some (.int .i64 2) := by rw [dBin_add, wrap_id (by omega) (by omega)]; rfl
  simp only [k11, fieldsX, manyX, noTy, eName, eArg, eN, eS, eOp, eA, eB, eMust, eKids, nil_str, Ex.proj0, isAggN_Ex, og_true', isCell_int, dBin_eql, ob_some', oif_bool]
  simp [eq_r05_fields_20, d1, d2, d3, k11, nil_str]
 by_cases k12 : t.kind = 12
 ·simp [k12, fieldsX, manyX, noTy, eName, eArg, eN, eS, eOp, eA, eB, eMust, eKids, nil_str]
 by_cases k13 : t.kind = 13
 ·simp [k13, fieldsX, manyX, noTy, eName, eArg, eN, eS, eOp, eA, eB, eMust, eKids, nil_str]
 by_cases k15 : t.kind = 15
 ·simp [k15, fieldsX, manyX, noTy, eName, eArg, eN, eS, eOp, eA, eB, eMust, eKids, nil_str]
 by_cases k16 : t.kind = 16
 ·simp [k16, fieldsX, manyX, noTy, eName, eArg, eN, eS, eOp, eA, eB, eMust, eKids, nil_str]
 ·have hk : ¬ (1 ≤ t.kind ∧ t.kind ≤ 16) := by omega
  simp [fieldsX, manyX, hk, noTy, eName, eArg, eN, eS, eOp, eA, eB, k1, k2, k3, k4, k5, k6, k7, k8, k9, k10, k11, k12, k13, k14, k15, k16, nil_str]
theorem sp_r05_own (t : Ex) (ht : t.fit1) : (run cfg).p F_r05_own [t.enc] = some (.bool t.own) := by
 refine call_r05_own _ ?_
 have x0 : ∀ a b, dExt 0 (.tup [a, b]) = some a := fun _ _ => rfl
 have x1 : ∀ a b, dExt 1 (.tup [a, b]) = some b := fun _ _ => rfl
 have hg : dBin .gtr (.int .i64 (t.pats.length : Int)) (.int .i64 0) = some (.bool (decide (0 < t.pats.length))) := by
  rw [dBin_gtr]; congr 2; rw [decide_eq_decide]; omega
 have hs : dBin .leq (.int .i64 (t.s.size : Int)) (.int .i64 200) = some (.bool (decide (t.s.size ≤ 200))) := by
  rw [dBin_leq]; congr 2; rw [decide_eq_decide]; omega
 have h6 : P_r05_own_6 (run cfg) t.enc = some (.bool t.own3) := by
  rw [eq_r05_own_6]
  simp only [Ex.pj, Ty.eta, Ty.ag, dBin_neq, dBin_eql, ob_some', sp_r05_note _ ht.a, sp_r05_note _ ht.b, sp_r01_Name t.name ht.name, sp_r01_Name t.arg ht.arg, dUn_not, ogd_bool, oif_bool, dLenS_str, hs, dLen_list, List.length_map, hg, dBin_geq, dBin_leq, Ex.own3, Ex.own4]
  by_cases c1 : (if t.a.none = true then !decide (t.kind = 15) else t.a.closed) = true
  ·by_cases c2 : (if t.b.none = true then true else t.b.closed) = true
   ·simp only [c1, c2, Bool.not_true, Bool.false_eq_true, if_false, Bool.true_and]
    by_cases k1 : t.kind = 1
    ·simp [k1]
    by_cases k9 : t.kind = 9
    ·simp [k9]
    by_cases k11 : t.kind = 11
    ·simp [k11]
    by_cases k12 : t.kind = 12
    ·simp [k12]; cases nameB t.name <;> simp
    by_cases k3 : t.kind = 3
    ·simp [k3]; by_cases n0 : t.n = 0 <;> simp [n0]
    by_cases k4 : t.kind = 4
    ·simp [k4]
    by_cases k14 : t.kind = 14
    ·simp [k14]
    by_cases k16 : t.kind = 16
    ·simp [k16]; by_cases o1 : 1 ≤ t.op <;> simp [o1]
    simp [k1, k9, k11, k12, k3, k4, k14, k16]
   ·have c2' : (if t.b.none = true then true else t.b.closed) = false := Bool.eq_false_iff.2 c2
    simp only [c1, c2', Bool.not_true, Bool.false_eq_true, if_false, Bool.not_false, if_true, Bool.and_false, Bool.false_and]
  ·have c1' : (if t.a.none = true then !decide (t.kind = 15) else t.a.closed) = false := Bool.eq_false_iff.2 c1
   simp only [c1', Bool.not_false, if_true, Bool.false_and]
 have h4 : P_r05_own_4 (run cfg) t.enc (fieldsX t).enc = some (.bool (decide (t.a = (fieldsX t).a) && decide (t.b = (fieldsX t).b) && t.own3)) := by
  rw [eq_r05_own_4]
  simp only [Ex.pj, Ty.eta, Ty.ag, sp_r03_Same _ ht.a, sp_r03_Same _ ht.b, ob_some', dUn_not, ogd_bool, oif_bool, h6]
  by_cases a1 : t.a = (fieldsX t).a <;> by_cases a2 : t.b = (fieldsX t).b <;> simp [a1, a2]
 rw [eq_r05_own]
 simp only [isAggN_Ex, og_true', Ex.pj, Ex.eta, Ex.ag, sp_r05_fields t ht, x0, x1, ob_some', dLen_list, List.length_map, dBin_neq, dBin_sneq, ogd_bool, oif_bool, h4, Ex.own]
 by_cases a1 : manyX t = (t.kids.length : Int) <;> simp [a1]
 by_cases a2 : t.name = (fieldsX t).name <;> simp [a2]
 by_cases a3 : t.arg = (fieldsX t).arg <;> simp [a3]
 by_cases a4 : t.n = (fieldsX t).n <;> simp [a4]
 by_cases a5 : t.s = (fieldsX t).s <;> simp [a5]
 by_cases a6 : t.op = (fieldsX t).op <;> simp [a6]
 by_cases a7 : t.pats.length = (fieldsX t).pats.length
 ·have a7' : (t.pats.length : Int) = ((fieldsX t).pats.length : Int) := by omega
  simp [a7]
 ·have a7' : ¬ (t.pats.length : Int) = ((fieldsX t).pats.length : Int) := by omega
  simp [a7, a7']
theorem Ex.own4_eq (t : Ex) : t.own4 = ((!eName t.kind || nameB t.name) && (!eArg t.kind || nameB t.arg) && (!decide (t.kind = 3) || decide (t.n = 0) || decide (t.n = 1)) && (!decide (t.kind = 4) || decide (t.s.size ≤ 200)) && (!decide (t.kind = 14) || decide (0 < t.pats.length)) && (!eOp t.kind || (decide (1 ≤ t.op) && decide (t.op ≤ 7)))) := by
 unfold Ex.own4 eName eArg eOp
 by_cases k1 : t.kind = 1
 ·simp [k1]
 by_cases k9 : t.kind = 9
 ·simp [k9]
 by_cases k11 : t.kind = 11
 ·simp [k11]
 by_cases k12 : t.kind = 12
 ·simp [k12]
 by_cases k3 : t.kind = 3
 ·simp [k3]
 by_cases k4 : t.kind = 4
 ·simp [k4]
 by_cases k14 : t.kind = 14
 ·simp [k14]
 by_cases k16 : t.kind = 16
 ·simp [k16]
 simp [k1, k9, k11, k12, k3, k4, k14, k16]
theorem fld_named (E : Bool) (s : ByteArray) : (decide (s = if E = true then s else nil8) && (!E || nameB s)) = namedB E s := by cases E <;> simp [namedB]
theorem fld_n (E : Bool) (n : Int) : decide (n = if E = true then n else 0) = (E || decide (n = 0)) := by cases E <;> simp
theorem fld_s (k : Int) (s : ByteArray) : (decide (s = if eS k = true then s else nil8) && (!decide (k = 4) || decide (s.size ≤ 200))) = ((eS k || decide (s = nil8)) && decide (s.size ≤ 200)) := by
 have n200 : nil8.size ≤ 200 := by decide
 unfold eS
 by_cases h : k = 4
 ·simp [h]
 ·by_cases e : s = nil8
  ·simp [h, e, n200]
  ·simp [h, e]
theorem fld_op (E : Bool) (n : Int) (r : Bool) : (decide (n = if E = true then n else 0) && (!E || r)) = ((!E || r) && (E || decide (n = 0))) := by cases E <;> simp
theorem fld_pats (k : Int) (l : List Pat) : decide (l.length = (if k = 14 then l else []).length) = (decide (k = 14) || decide (l.length = 0)) := by by_cases h : k = 14 <;> simp [h]
theorem fld_note (E m : Bool) (t : Ty) : (decide (t = if E = true then t else noTy) && (if t.none = true then !m else t.closed)) = noteB E m t := by
 have dA : decide (t = noTy) = t.none := by rw [Bool.eq_iff_iff, decide_eq_true_eq]; exact noTy_none t
 unfold noteB
 cases E
 ·simp only [Bool.false_eq_true, if_false, dA]
  cases hn : t.none <;> simp
 ·simp
theorem Ex.own_one (t : Ex) : (t.own && t.pats.all Pat.right) = t.one := by
 by_cases hk : 1 ≤ t.kind ∧ t.kind ≤ 16
 rotate_left
 ·have h1 : manyX t = -1 := by unfold manyX; rw [if_neg hk]
  have h2 : ¬ ((-1 : Int) = (t.kids.length : Int)) := by omega
  have k0 : eOk t.kind t.pats.length = false := by
   unfold eOk
   rw [Bool.eq_false_iff]
   intro h'
   simp only [Bool.and_eq_true, decide_eq_true_eq] at h'
   omega
  unfold Ex.own Ex.one
  rw [k0, h1]
  simp [h2]
 have hm : manyX t = eKids t.kind t.pats.length := by unfold manyX; rw [if_pos hk]
 have hok : eOk t.kind t.pats.length = (!decide (t.kind = 14) || decide (0 < t.pats.length)) := by unfold eOk; simp [hk.1, hk.2]
 have cm : decide (eKids t.kind t.pats.length = (t.kids.length : Int)) = decide ((t.kids.length : Int) = eKids t.kind t.pats.length) := by rw [decide_eq_decide]; exact eq_comm
 have hb : (if t.b.none = true then true else t.b.closed) = (if t.b.none = true then !false else t.b.closed) := rfl
 have ha : (if t.a.none = true then !decide (t.kind = 15) else t.a.closed) = (if t.a.none = true then !eMust t.kind else t.a.closed) := rfl
 unfold Ex.own Ex.one Ex.own3 Ex.one1 Ex.one2 Ex.one3 Ex.one4 Ex.one5 Ex.one6 Ex.one7 Ex.one8
 rw [hm, cm, hok, Ex.own4_eq, hb, ha]
 simp only [fieldsX, Ex.name_mk, Ex.arg_mk, Ex.n_mk, Ex.s_mk, Ex.op_mk, Ex.a_mk, Ex.b_mk, Ex.pats_mk]
 rw [← fld_named (eName t.kind) t.name, ← fld_named (eArg t.kind) t.arg, ← fld_n (eN t.kind) t.n, ← fld_s t.kind t.s, ← fld_op (eOp t.kind) t.op, ← fld_pats t.kind t.pats, ← fld_note (eA t.kind), ← fld_note (eB t.kind)]
 ac_rfl
theorem sp_r05_Right (t : Ex) : t.fit → (run cfg).p F_r05_Right [t.enc] = some (.bool t.right) := by
 induction t using Ex.ind with
 | h t ih =>
   intro ht
   have hk := big (Nat.le_of_lt ht.one.kids)
   have hp := big (Nat.le_of_lt ht.one.pats)
   refine call_r05_Right _ ?_
   have l2 := loop_allB (l := t.kids) (f := Ex.right) (P := fun i => P_r05_Right_9h (run cfg) (.int .i64 i) t.enc)
    (by rw [eq_r05_Right_9h]; simp)
    (fun i h => by
      rw [eq_r05_Right_9h]
      simp [h, dIdx_map h, Ex.eta, Ex.ag, ih _ (List.getElem_mem h) (ht.kid (List.getElem_mem h)), dAdd1 (show i < 9223372036854775807 by omega)]
      cases t.kids[i].right <;> rfl)
   have l1 := loop_all (l := t.pats) (f := Pat.right) (P := fun i => P_r05_Right_4h (run cfg) (.int .i64 i) t.enc) (y := .bool (t.kids.all Ex.right)) (n := .bool false)
    (by rw [eq_r05_Right_4h]; simp only [dBin_lss, Int.lt_irrefl, decide_false, ob_some', oif_bool, Bool.false_eq_true, if_false, Ex.proj14, dLen_list, List.length_map]; exact l2)
    (fun i h => by
      rw [eq_r05_Right_4h]
      have f := ht.one.pat _ (List.getElem_mem h)
      simp [h, dIdx_map h, Pat.eta, Pat.ag, sp_r05_RightPat _ f.size f.txt, dAdd1 (show i < 9223372036854775807 by omega)]
      cases t.pats[i].right <;> rfl)
   rw [eq_r05_Right, Ex.right_eq, ← Ex.own_one]
   simp only [isAggN_Ex, og_true', Ex.pj, Ex.eta, Ex.ag, sp_r05_own t ht.one, ob_some', dUn_not, oif_bool]
   have l1' : P_r05_Right_4h (run cfg) (.int .i64 0) t.enc = _ := l1
   rw [l1']
   cases t.own <;> cases t.pats.all Pat.right <;> simp
theorem sp_r05_Binds (t : Ex) (ht : t.fit1) (i : Nat) (hi : t.kind = 14 → i ≤ t.pats.length) : (run cfg).p F_r05_Binds [t.enc, .int .i64 i] = some (encStrs (t.binds i)) := by
 have hp := big (Nat.le_of_lt ht.pats)
 refine call_r05_Binds _ _ ?_
 have p5 : ¬ (t.kind = 9 ∨ (t.kind = 11 ∧ i = 1) ∨ (t.kind = 12 ∧ i = 1)) → P_r05_Binds_5 (run cfg) (.int .i64 i) t.enc = some (encStrs (t.binds i)) := by
  intro h
  rw [eq_r05_Binds_5]
  unfold Ex.binds
  rw [if_neg h]
  by_cases h1 : t.kind = 12
  ·simp [h1, encStrs_two]
  ·by_cases h2 : t.kind = 14
   ·by_cases h3 : 0 < i
    ·have hlt : i - 1 < t.pats.length := by have := hi h2; omega
     have e1 : dBin .sub (.int .i64 (i : Int)) (.int .i64 1) = some (.int .i64 ((i - 1 : Nat) : Int)) := by
      rw [dBin_sub, wrap_id (by omega) (by have := hi h2; omega)]
      congr 3
      omega
     have nm := sp_r05_Names t.pats[i - 1] (ht.pat _ (List.getElem_mem hlt)).size
     simp [h1, h2, h3, e1, dIdx_map hlt, Pat.eta, Pat.ag, nm, List.getElem?_eq_getElem hlt]
    ·simp [h1, h2, h3, encStrs_nil]
   ·simp [h1, h2, encStrs_nil]
 have one : t.kind = 9 ∨ (t.kind = 11 ∧ i = 1) ∨ (t.kind = 12 ∧ i = 1) → t.binds i = [t.name] := fun h => by unfold Ex.binds; rw [if_pos h]
 rw [eq_r05_Binds]
 have i1 : decide ((i : Int) = 1) = decide (i = 1) := by rw [decide_eq_decide]; omega
 by_cases h9 : t.kind = 9
 ·simp [h9, one (.inl h9), encStrs_one]
 ·by_cases h11 : t.kind = 11
  ·by_cases h1 : i = 1
   ·have o1 := one (.inr (.inl ⟨h11, h1⟩))
    subst h1
    simp [h11, o1, encStrs_one]
   ·have := p5 (by rintro (h | h | h); exact h9 h; exact h1 h.2; exact h1 h.2)
    simp [h11, h1, i1, this]
  ·by_cases h12 : t.kind = 12
   ·by_cases h1 : i = 1
    ·have o1 := one (.inr (.inr ⟨h12, h1⟩))
     subst h1
     simp [h12, o1, encStrs_one]
    ·have := p5 (by rintro (h | h | h); exact h9 h; exact h1 h.2; exact h1 h.2)
     simp [h12, h1, i1, this]
   ·have := p5 (by rintro (h | h | h); exact h9 h; exact h11 h.1; exact h12 h.1)
    simp [h9, h11, h12, this]
theorem sp_r05_free (t : Ex) : t.fit → t.right = true → ∀ (B l : List ByteArray), B.length + 2 * t.mass ≤ lim → l.length + t.size ≤ lim →
 (run cfg).p F_r05_free [t.enc, encStrs B, encStrs l] = some (encStrs ((t.fr B).foldl rise l)) := by
 induction t using Ex.ind with
 | h t ih =>
   intro ft rt B l hB hl
   have hk := big (Nat.le_of_lt ft.one.kids)
   have hm := t.mass_pos
   have hsz := t.size_eq
   have ee : ∀ k : Ex, (DV.agg [proj 0 k.enc, proj 1 k.enc, proj 2 k.enc, proj 3 k.enc, proj 4 k.enc, proj 5 k.enc, proj 6 k.enc, proj 7 k.enc, proj 8 k.enc, proj 9 k.enc, proj 10 k.enc, proj 11 k.enc, proj 12 k.enc, proj 13 k.enc, proj 14 k.enc, proj 15 k.enc]) = k.enc := fun k => by simp [Ex.eta, Ex.ag]
   have l4 : ∀ (n j : Nat) (l : List ByteArray), j + n = t.kids.length → l.length + ((t.kids.drop j).map Ex.size).sum ≤ lim →
    P_r05_free_4h (run cfg) (encStrs B) (encStrs l) (.int .i64 (j : Int)) t.enc = some (encStrs ((Ex.frL t.binds j (t.kids.drop j) B).foldl rise l)) := by
    intro n
    induction n with
    | zero =>
      intro j l hj hl
      have e : j = t.kids.length := by omega
      subst e
      rw [eq_r05_free_4h, List.drop_length, Ex.frL_nil]
      simp
    | succ n ihn =>
      intro j l hj hl
      have h : j < t.kids.length := by omega
      rw [List.drop_eq_getElem_cons h, List.map_cons, List.sum_cons] at hl
      have hb := t.binds_len j
      have hmk := mem_sum (f := Ex.mass) (List.getElem_mem h)
      have hbi := sp_r05_Binds t ft.one j (fun h14 => by have := Ex.kids14 rt h14; omega)
      have hi := ih _ (List.getElem_mem h) (ft.kid (List.getElem_mem h)) (Ex.right_kid rt (List.getElem_mem h)) (B ++ t.binds j) l (by simp; omega) (by omega)
      have hlen := rises_len l (t.kids[j].fr (B ++ t.binds j))
      have hfl := Ex.fr_len t.kids[j] (B ++ t.binds j)
      have nx := ihn (j + 1) ((t.kids[j].fr (B ++ t.binds j)).foldl rise l) (by omega) (by omega)
      push_cast at nx
      rw [eq_r05_free_4h, List.drop_eq_getElem_cons h, Ex.frL_cons, List.foldl_append]
      simp only [ee]
      simp only [Ex.proj15 t, dLen_list, List.length_map, ob_some', dBin_lss, Int.ofNat_lt, h, decide_true, oif_bool, if_true, dIdx_map h, ee, hbi, encStrs_nil]
      rw [dApp_strs (by simp; omega)]
      simp only [ob_some', List.nil_append]
      rw [dApp_strs (a := B) (b := t.binds j) (by omega)]
      simp only [ob_some', hi, dAdd1 (show j < 9223372036854775807 by omega)]
      exact nx
   have l3 : ∀ l : List ByteArray, l.length + (t.kids.map Ex.size).sum ≤ lim → P_r05_free_3 (run cfg) (encStrs B) (encStrs l) t.enc = some (encStrs ((Ex.frL t.binds 0 t.kids B).foldl rise l)) := by
    intro l hl
    rw [eq_r05_free_3]
    have := l4 t.kids.length 0 l (by omega) (by simpa using hl)
    simpa using this
   refine call_r05_free _ _ _ ?_
   rw [eq_r05_free, Ex.fr_eq, List.foldl_append]
   have hh := sp_r05_Has B (by omega) t.name
   have hany : hasS B t.name = B.any fun x => decide (x = t.name) := rfl
   simp only [isAggN_Ex, og_true', Ex.proj0, Ex.proj3, dBin_eql, ob_some', ogd_bool, decide_eq_true_eq]
   by_cases h1 : t.kind = 1
   ·cases hb : B.any fun x => decide (x = t.name)
    ·have hr := sp_r05_Rise l t.name (by omega)
     have hrl := rise_len l t.name
     simp only [h1, if_true, hh, hany, hb, ob_some', dUn_not, Bool.not_false, oif_bool, hr]
     simp only [and_self, if_true, List.foldl_cons, List.foldl_nil]
     exact l3 _ (by omega)
    ·simp only [h1, if_true, hh, hany, hb, ob_some', dUn_not, Bool.not_true, oif_bool, Bool.false_eq_true, if_false]
     simp only [and_false, if_false, List.foldl_nil, Bool.true_eq_false]
     exact l3 _ (by omega)
   ·simp only [h1, if_false, false_and, List.foldl_nil]
    exact l3 _ (by omega)
theorem sp_r05_Free (t : Ex) (ft : t.fit) (rt : t.right = true) (hm : 2 * t.mass ≤ lim) : (run cfg).p F_r05_Free [t.enc] = some (encStrs t.free) := by
 refine call_r05_Free _ ?_
 rw [eq_r05_Free]
 have h := sp_r05_free t ft rt [] [] (by simpa using hm) (by have := t.size_mass; simp; omega)
 rw [← encStrs_nil] at h
 simp [Ex.eta, Ex.ag, h, Ex.free]
end Go.Su

/-
 What the document's functions on expressions without types give: values, what is put, operators.
-/
namespace Go.Su
set_option linter.unusedVariables false
set_option linter.unusedSimpArgs false
theorem sp_r23_Plain (t : Ex) : t.fit → t.right = true → (run cfg).p F_r23_Plain [t.enc] = some (.bool t.val) := by
 induction t using Ex.ind with
 | h t ih =>
   intro ft rt
   have hks := Ex.one_kids (Ex.right_one rt)
   refine call_r23_Plain _ ?_
   rw [eq_r23_Plain, Ex.val_eq]
   by_cases k2 : t.kind = 2
   ·simp [k2]
   by_cases k3 : t.kind = 3
   ·simp [k3]
   by_cases k4 : t.kind = 4
   ·simp [k4]
   by_cases k5 : t.kind = 5
   ·simp [k5]
   by_cases k7 : t.kind = 7
   ·simp [k7]
   by_cases k9 : t.kind = 9
   ·simp [k9]
   by_cases k68 : t.kind = 6 ∨ t.kind = 8
   ·have hlen : t.kids.length = 2 := by
     rcases k68 with k | k <;> rw [k] at hks <;> simp [eKids] at hks <;> omega
    have h0 : 0 < t.kids.length := by omega
    have h1 : 1 < t.kids.length := by omega
    have d0 : dIdx 16 (.list 16 (t.kids.map Ex.enc)) (.int .i64 0) = some t.kids[0].enc := dIdx_map h0
    have d1 : dIdx 16 (.list 16 (t.kids.map Ex.enc)) (.int .i64 1) = some t.kids[1].enc := dIdx_map h1
    have i0 := ih _ (List.getElem_mem h0) (ft.kid (List.getElem_mem h0)) (Ex.right_kid rt (List.getElem_mem h0))
    have i1 := ih _ (List.getElem_mem h1) (ft.kid (List.getElem_mem h1)) (Ex.right_kid rt (List.getElem_mem h1))
    have e : t.kids.take 2 = [t.kids[0], t.kids[1]] := by
     apply List.ext_getElem
     ·simp [hlen]
     ·intro i h1 h2
      simp at h2
      match i, h2 with
      | 0, _ => simp
      | 1, _ => simp
    have p11 : P_r23_Plain_11 (run cfg) t.enc = some (.bool ((t.kids.take 2).all Ex.val)) := by
     rw [eq_r23_Plain_11, e]
     simp [d0, d1, Ex.eta, Ex.ag, i0, i1]
     cases t.kids[0].val <;> simp
    rcases k68 with k | k <;> simp [k, p11]
   ·have k6 : ¬ t.kind = 6 := fun h => k68 (.inl h)
    have k8 : ¬ t.kind = 8 := fun h => k68 (.inr h)
    simp [k2, k3, k4, k5, k6, k7, k8, k9]
theorem hasS_any (l : List ByteArray) (s : ByteArray) : hasS l s = l.any fun x => decide (x = s) := by
 rw [Bool.eq_iff_iff, hasS_iff, any_mem]
theorem sp_r23_replaced (s : ByteArray) (v : Ex) (t : Ex) : t.fit → t.right = true → (run cfg).p F_r23_replaced [t.enc, .str s, v.enc] = some (t.put s v).enc := by
 induction t using Ex.ind with
 | h t ih =>
   intro ft rt
   have hk := big (Nat.le_of_lt ft.one.kids)
   have loop : ∀ (n j : Nat) (acc : List Ex), j + n = t.kids.length → acc.length = j →
    P_r23_replaced_5h (run cfg) (.str s) (.list 16 (acc.map Ex.enc)) (.int .i64 (j : Int)) t.enc v.enc =
    some (t.withKids (acc ++ Ex.putL t.binds j (t.kids.drop j) s v)).enc := by
    intro n
    induction n with
    | zero =>
      intro j acc hj ha
      have e : j = t.kids.length := by omega
      subst e
      rw [eq_r23_replaced_5h, List.drop_length, Ex.putL_nil, List.append_nil]
      simp only [Ex.pj t, dLen_list, List.length_map, dBin_lss, Int.lt_irrefl, decide_false, ob_some', oif_bool, Bool.false_eq_true, if_false]
      rw [Ex.withKids_enc]
    | succ n ihn =>
      intro j acc hj ha
      have h : j < t.kids.length := by omega
      have hbi := sp_r05_Binds t ft.one j (fun h14 => by have := Ex.kids14 rt h14; omega)
      have bl := t.binds_len j
      have hhas := sp_r05_Has (t.binds j) (by
       have : (t.binds j).length ≤ 2 ∨ ∃ p ∈ t.pats, (t.binds j).length ≤ p.size := by
        unfold Ex.binds
        split
        ·exact .inl (by simp)
        ·split
         ·exact .inl (by simp)
         ·split
          ·split
           ·rename_i p hp
            refine .inr ⟨p, List.mem_of_getElem? hp, ?_⟩
            have h3 := p.namesOn_len []
            have h5 : p.names = p.namesOn [] := rfl
            rw [h5]
            simp only [List.length_nil] at h3
            omega
           ·exact .inl (by simp)
          ·exact .inl (by simp)
       rcases this with h2 | ⟨p, hp, h2⟩
       ·unfold lim; omega
       ·have := (ft.one.pat p hp).size; omega) s
      rw [hasS_any] at hhas
      have e1 : dBin .add (.int .i64 (j : Int)) (.int .i64 1) = some (.int .i64 ((j + 1 : Nat) : Int)) := dAdd1 (show j < 9223372036854775807 by omega)
      have fk := ft.one.kids
      rw [List.drop_eq_getElem_cons h, Ex.putL_cons, eq_r23_replaced_5h]
      simp only [exx]
      by_cases hb : ((t.binds j).any fun x => decide (x = s)) = true
      ·have ap := dApp_map (e := Ex.enc) (sz := 16) (l := acc) (x := t.kids[j]) (by omega)
       have nx := ihn (j + 1) (acc ++ [t.kids[j]]) (by omega) (by simp; omega)
       simp only [Ex.proj15 t, dLen_list, List.length_map, dBin_lss, Int.ofNat_lt, h, decide_true, ob_some', oif_bool, if_true, hbi, hhas, hb, dIdx_map h, exx, ap, e1]
       rw [nx, List.append_assoc]
       rfl
      ·have hb' : ((t.binds j).any fun x => decide (x = s)) = false := Bool.eq_false_iff.2 hb
       have f1 := ih _ (List.getElem_mem h) (ft.kid (List.getElem_mem h)) (Ex.right_kid rt (List.getElem_mem h))
       have ap := dApp_map (e := Ex.enc) (sz := 16) (l := acc) (x := t.kids[j].put s v) (by omega)
       have nx := ihn (j + 1) (acc ++ [t.kids[j].put s v]) (by omega) (by simp; omega)
       simp only [Ex.proj15 t, dLen_list, List.length_map, dBin_lss, Int.ofNat_lt, h, decide_true, ob_some', oif_bool, if_true, hbi, hhas, hb', Bool.false_eq_true, if_false, dIdx_map h, exx, f1, isAggN_Ex, og_true', ap, e1]
       rw [nx, List.append_assoc]
       rfl
   have h3 : P_r23_replaced_3 (run cfg) (.str s) t.enc v.enc = some (t.withKids (Ex.putL t.binds 0 t.kids s v)).enc := by
    rw [eq_r23_replaced_3]
    have := loop t.kids.length 0 [] (by omega) rfl
    simpa using this
   refine call_r23_replaced _ _ _ ?_
   rw [eq_r23_replaced, Ex.put_eq]
   by_cases h1 : t.kind = 1
   ·by_cases h2 : t.name = s
    ·simp only [exx, isAggN_Ex, og_true', Ex.proj0 t, Ex.proj3 t, dBin_eql, dBin_seql, ob_some', ogd_bool, oif_bool, h1, h2, decide_true, if_true, and_self]
    ·simp only [exx, isAggN_Ex, og_true', Ex.proj0 t, Ex.proj3 t, dBin_eql, dBin_seql, ob_some', ogd_bool, oif_bool, h1, h2, decide_true, decide_false, if_true, Bool.false_eq_true, if_false, and_false]
     exact h3
   ·simp only [exx, isAggN_Ex, og_true', Ex.proj0 t, Ex.proj3 t, dBin_eql, ob_some', ogd_bool, h1, decide_false, Bool.false_eq_true, if_false, false_and]
    exact h3
theorem len_free (t : Ex) : ((t.free.length : Int) = 0) ↔ t.free = [] := by rw [← List.length_eq_zero_iff]; omega
theorem len_free' (t : Ex) : ((0 : Int) < (t.free.length : Int)) ↔ ¬ t.free = [] := by rw [← len_free]; omega
theorem sp_r23_duePlain (t : Ex) (ft : t.fit) (ht : t.cl) : (run cfg).p F_r23_duePlain [t.enc] = some (.int .i64 (match t.due with | some i => (i : Int) | none => -1)) := by
 have m2 := manyK_le t.kind
 have kidv : ∀ i, i < manyK t.kind → dIdx 16 (.list 16 (t.kids.map Ex.enc)) (.int .i64 (i : Int)) = some (t.kid i).enc ∧ (run cfg).p F_r23_Plain [(t.kid i).enc] = some (.bool (t.kid i).val) := by
  intro i hi
  have hk := (Ex.many_cl ht i hi).1
  exact ⟨kidx t i hk, sp_r23_Plain (t.kid i) (ft.kid (Ex.kid_mem (Ex.kid_get hk))) (Ex.right_kid ht.1 (Ex.kid_mem (Ex.kid_get hk)))⟩
 have past : ∀ i, i ≤ manyK t.kind → (∀ j, j < i → (t.kid j).val = true) → P_r23_duePlain_14h (run cfg) (.int .i64 (manyK t.kind : Int)) (.int .i64 0) t.enc = P_r23_duePlain_14h (run cfg) (.int .i64 (manyK t.kind : Int)) (.int .i64 (i : Int)) t.enc := by
  intro i
  induction i with
  | zero => intro _ _; rfl
  | succ i ihi =>
    intro hi hj
    have h : i < manyK t.kind := by omega
    have e1 : dBin .add (.int .i64 (i : Int)) (.int .i64 1) = some (.int .i64 ((i + 1 : Nat) : Int)) := dAdd1 (show i < 9223372036854775807 by omega)
    rw [ihi (by omega) fun j h => hj j (by omega), eq_r23_duePlain_14h (run cfg) _ (.int .i64 (i : Int))]
    simp only [dBin_lss, Int.ofNat_lt, h, decide_true, ob_some', oif_bool, if_true, Ex.proj15 t, (kidv i h).1, exx, (kidv i h).2, hj i (by omega), dUn_not, Bool.not_true, Bool.false_eq_true, if_false, e1]
 have main : P_r23_duePlain_14h (run cfg) (.int .i64 (manyK t.kind : Int)) (.int .i64 0) t.enc = some (.int .i64 (match t.due with | some i => (i : Int) | none => -1)) := by
  rcases Ex.due_cases t with ⟨i, hd, hi, hv, hj⟩ | ⟨hd, hj⟩
  ·rw [past i (by omega) hj, hd, eq_r23_duePlain_14h]
   simp only [dBin_lss, Int.ofNat_lt, hi, decide_true, ob_some', oif_bool, if_true, Ex.proj15 t, (kidv i hi).1, exx, (kidv i hi).2, hv, dUn_not, Bool.not_false]
  ·rw [past _ (Nat.le_refl _) hj, hd, eq_r23_duePlain_14h]
   simp only [dBin_lss, Int.lt_irrefl, decide_false, ob_some', oif_bool, Bool.false_eq_true, if_false]
 refine call_r23_duePlain _ ?_
 rw [eq_r23_duePlain, ← main]
 simp only [isAggN_Ex, og_true', Ex.proj0 t, dBin_eql, ob_some', oif_bool]
 unfold manyK
 by_cases c1 : t.kind = 6
 ·simp [c1]
 by_cases c2 : t.kind = 8
 ·simp [c2]
 by_cases c3 : t.kind = 10
 ·simp [c3]
 by_cases c4 : t.kind = 16
 ·simp [c4]
 by_cases c5 : t.kind = 11
 ·simp [c5]
 by_cases c6 : t.kind = 13
 ·simp [c6]
 by_cases c7 : t.kind = 14
 ·simp [c7]
 by_cases c8 : t.kind = 15
 ·simp [c8]
 simp [c1, c2, c3, c4, c5, c6, c7, c8]
theorem sp_r23_truth (b : Bool) : (run cfg).p F_r23_truth [.bool b] = some (.int .i64 (if b = true then 1 else 0)) := by
 refine call_r23_truth _ ?_
 rw [eq_r23_truth]
 cases b <;> simp
theorem sp_r23_stop : (run cfg).p F_r23_stop [] = some R3.stuck.enc := by
 refine call_r23_stop ?_
 rw [eq_r23_stop]
 rfl
def opN (op a b : Int) : Option Int :=
 if op = 1 then some (IntKind.i64.wrap (a + b)) else if op = 2 then some (IntKind.i64.wrap (a - b)) else if op = 3 then some (IntKind.i64.wrap (a * b))
 else if op = 4 then (if b = 0 then none else some (IntKind.i64.wrap (a.tdiv b))) else if op = 5 then some (if a < b then 1 else 0) else some (if a = b then 1 else 0)
theorem sp_r23_Op (op a b : Int) : (run cfg).p F_r23_Op [.int .i64 op, .int .i64 a, .int .i64 b] = some (match opN op a b with | some n => .tup [.int .i64 n, .bool true] | none => .tup [.int .i64 0, .bool false]) := by
 have qu : ∀ x y : Int, y ≠ 0 → dBin .quo (.int .i64 x) (.int .i64 y) = some (.int .i64 (IntKind.i64.wrap (x.tdiv y))) := fun x y h => by
  show (if y = 0 then none else some (DV.int .i64 (IntKind.i64.wrap (x.tdiv y)))) = _
  rw [if_neg h]
 have mu : ∀ x y : Int, dBin .mul (.int .i64 x) (.int .i64 y) = some (.int .i64 (IntKind.i64.wrap (x * y))) := fun x y => rfl
 refine call_r23_Op _ _ _ ?_
 rw [eq_r23_Op]
 unfold opN
 simp only [dBin_eql, dBin_lss, dBin_add, dBin_sub, mu, ob_some', oif_bool, sp_r23_truth]
 by_cases c1 : op = 1
 ·simp [c1]
 by_cases c2 : op = 2
 ·simp [c2]
 by_cases c3 : op = 3
 ·simp [c3]
 by_cases c4 : op = 4
 ·by_cases z : b = 0
  ·simp [c4, z]
  ·by_cases m : b = -1
   ·subst m
    simp [c4, Int.tdiv_neg]
   ·simp [c4, z, m, qu]
 by_cases c5 : op = 5
 ·simp [c5]
 simp [c1, c2, c3, c4, c5]
theorem sp_r23_operatePlain (t a b : Ex) (h1 : 1 ≤ t.op) (h7 : t.op ≤ 7) : (run cfg).p F_r23_operatePlain [t.enc, a.enc, b.enc] = some (.tup [(t.opE a b).1.enc, (t.opE a b).2.enc]) := by
 have main : ∀ w : Int, w = (if t.op = 7 then 4 else 2) → P_r23_operatePlain_4 (run cfg) (.int .i64 w) t.enc a.enc b.enc = some (.tup [(t.opE a b).1.enc, (t.opE a b).2.enc]) := by
  intro w hw
  rw [eq_r23_operatePlain_4]
  unfold Ex.opE
  rw [← hw]
  simp only [Ex.proj0, Ex.proj1, Ex.proj2, Ex.proj7, dBin_neq, dBin_geq, ob_some', ogd_bool, oif_bool, sp_r23_stop, isAggN_R3, og_true', r3x, noEx_agg]
  by_cases ha : a.kind = w
  rotate_left
  ·simp [ha]
  by_cases hb : b.kind = w
  rotate_left
  ·simp [ha, hb]
  simp only [ha, hb, decide_true, Bool.not_true, Bool.false_eq_true, if_false, and_self, not_true]
  by_cases c1 : t.op = 1
  ·simp [c1, eq_r23_operatePlain_9, sp_r23_Op, opN, num_agg, ok0_r3]
  by_cases c2 : t.op = 2
  ·simp [c2, eq_r23_operatePlain_9, sp_r23_Op, opN, num_agg, ok0_r3]
  by_cases c3 : t.op = 3
  ·simp [c3, eq_r23_operatePlain_9, sp_r23_Op, opN, num_agg, ok0_r3]
  by_cases c4 : t.op = 4
  ·by_cases z : b.n = 0
   ·simp [c4, z, eq_r23_operatePlain_9, sp_r23_Op, opN, noEx_agg, r3_agg]
   ·simp [c4, z, eq_r23_operatePlain_9, sp_r23_Op, opN, num_agg, ok0_r3]
  by_cases c5 : t.op = 5
  ·simp [c5, eq_r23_operatePlain_9, sp_r23_Op, opN, num_agg, ok0_r3]
  by_cases c6 : t.op = 6
  ·simp [c6, eq_r23_operatePlain_9, sp_r23_Op, opN, num_agg, ok0_r3]
  have c7 : t.op = 7 := by omega
  simp [c7, eq_r23_operatePlain_9, sp_r23_Op, opN, sp_r23_truth, num_agg, ok0_r3]
 refine call_r23_operatePlain _ _ _ ?_
 rw [eq_r23_operatePlain]
 simp only [isAggN_Ex, og_true', Ex.proj7, dBin_eql, ob_some', oif_bool]
 by_cases h7 : t.op = 7
 ·simp only [h7, decide_true, if_true]
  exact main 4 (by rw [if_pos h7])
 ·simp only [h7, decide_false, Bool.false_eq_true, if_false]
  exact main 2 (by rw [if_neg h7])
end Go.Su

/-
 The functions' specs that this claim needs.
-/
namespace Go.Su
set_option linter.unusedVariables false
set_option linter.unusedSimpArgs false
end Go.Su

/-
 What the document's functions on expressions without types give: patterns, a step.
-/
namespace Go.Su
set_option linter.unusedVariables false
set_option linter.unusedSimpArgs false
theorem sp_r23_fitsPlain (p : Pat) : p.pat = true → ∀ v : Ex, v.right = true → ∀ (l : List (ByteArray × Ex)) (sg : List SObj), l.length + p.size ≤ lim →
 Held l sg p v ((run cfg).r F_r23_fitsPlain [(p.enc, .val), (v.enc, .val), (.list 17 (l.map encBd), .own)] sg) := by
 induction p using Pat.ind with
 | h p ih =>
   intro hp v hv l sg hl
   have hsz := p.size_pos
   have call : ∀ {q : List DV × List SObj}, P_r23_fitsPlain (run cfg) p.enc v.enc (.list 17 (l.map encBd)) sg = some q → (run cfg).r F_r23_fitsPlain [(p.enc, .val), (v.enc, .val), (.list 17 (l.map encBd), .own)] sg = some q := fun h => call_r23_fitsPlain _ _ _ _ h
   have yes : ∀ {m : List (ByteArray × Ex)}, p.fits v = some m → m.length ≤ p.size → P_r23_fitsPlain (run cfg) p.enc v.enc (.list 17 (l.map encBd)) sg = some ([.list 17 ((l ++ m).map encBd), .bool true], sg) → Held l sg p v ((run cfg).r F_r23_fitsPlain [(p.enc, .val), (v.enc, .val), (.list 17 (l.map encBd), .own)] sg) := by
    intro m h1 h2 h3
    unfold Held
    rw [h1]
    exact ⟨h2, call h3⟩
   have no : ∀ {l' : List (ByteArray × Ex)}, p.fits v = none → P_r23_fitsPlain (run cfg) p.enc v.enc (.list 17 (l.map encBd)) sg = some ([.list 17 (l'.map encBd), .bool false], sg) → Held l sg p v ((run cfg).r F_r23_fitsPlain [(p.enc, .val), (v.enc, .val), (.list 17 (l.map encBd), .own)] sg) := by
    intro l' h1 h3
    unfold Held
    rw [h1]
    exact ⟨l', call h3⟩
   have hpo := hp
   rw [Pat.pat_eq, Bool.and_eq_true] at hpo
   have ho := hpo.1
   have hf := p.fits_eq v
   have nil0 : l ++ [] = l := List.append_nil l
   rw [eq_r23_fitsPlain] at yes no
   simp only [isAggN_Pat, isAggN_Ex, og_true', Pat.proj0, dBin_eql, ob_some', oif_bool] at yes no
   by_cases k1 : p.kind = 1
   ·rw [if_pos k1] at hf
    exact yes hf (by simp) (by simp [k1])
   rw [if_neg k1] at hf
   simp only [k1, decide_false, Bool.false_eq_true, if_false, eq_r23_fitsPlain_4, dBin_eql, ob_some', oif_bool, Pat.proj3, isCell_str, og_true'] at yes no
   by_cases k2 : p.kind = 2
   ·rw [if_pos k2] at hf
    have ap := dApp_map (e := encBd) (sz := 17) (l := l) (x := (p.name, v)) (by omega)
    refine yes hf (by simp; omega) ?_
    simp only [k2, decide_true, if_true, Ex.pj]
    rw [show (DV.list 17 [DV.agg [.str p.name, .int .i64 v.kind, .int .i64 v.lo, .int .i64 v.hi, .str v.name, .str v.arg, .int .i64 v.n, .str v.s, .int .i64 v.op, .int .i64 v.a.kind, .int .i64 v.a.n, .list 3 (v.a.kids.map Ty.enc), .int .i64 v.b.kind, .int .i64 v.b.n, .list 3 (v.b.kids.map Ty.enc), .list 7 (v.pats.map Pat.enc), .list 16 (v.kids.map Ex.enc)]]) = .list 17 [encBd (p.name, v)] from rfl, ap]
    rfl
   rw [if_neg k2] at hf
   simp only [k2, decide_false, Bool.false_eq_true, if_false, Ex.proj0 v, Ex.proj5 v, Pat.proj4 p, dBin_eql, ob_some', ogd_bool] at yes no
   by_cases k3 : p.kind = 3
   ·rw [if_pos k3] at hf
    by_cases hc : v.kind = 2 ∧ v.n = p.n
    ·rw [if_pos hc] at hf
     exact yes hf (by simp) (by simp [k3, hc.1, hc.2])
    ·rw [if_neg hc] at hf
     refine no (l' := l) hf ?_
     by_cases h1 : v.kind = 2
     ·have h2 : ¬ v.n = p.n := fun h => hc ⟨h1, h⟩
      simp [k3, h1, h2]
     ·simp [k3, h1]
   rw [if_neg k3] at hf
   by_cases k4 : p.kind = 4
   ·rw [if_pos k4] at hf
    by_cases hc : v.kind = 3 ∧ v.n = p.n
    ·rw [if_pos hc] at hf
     exact yes hf (by simp) (by simp [k4, hc.1, hc.2])
    ·rw [if_neg hc] at hf
     refine no (l' := l) hf ?_
     by_cases h1 : v.kind = 3
     ·have h2 : ¬ v.n = p.n := fun h => hc ⟨h1, h⟩
      simp [k4, h1, h2]
     ·simp [k4, h1]
   rw [if_neg k4] at hf
   simp only [k3, k4, decide_false, Bool.false_eq_true, if_false, eq_r23_fitsPlain_10, dBin_eql, dBin_neq, ob_some', oif_bool, ogd_bool, Ex.proj0 v, Ex.proj6 v, Pat.proj0 p, Pat.proj5 p, dBin_seql] at yes no
   by_cases k5 : p.kind = 5
   ·rw [if_pos k5] at hf
    by_cases hc : v.kind = 4 ∧ v.s = p.s
    ·rw [if_pos hc] at hf
     exact yes hf (by simp) (by simp [k5, hc.1, hc.2])
    ·rw [if_neg hc] at hf
     refine no (l' := l) hf ?_
     by_cases h1 : v.kind = 4
     ·have h2 : ¬ v.s = p.s := fun h => hc ⟨h1, h⟩
      simp [k5, h1, h2]
     ·simp [k5, h1]
   rw [if_neg k5] at hf
   by_cases k6 : p.kind = 6
   ·rw [if_pos k6] at hf
    by_cases hc : v.kind = 5
    ·rw [if_pos hc] at hf
     exact yes hf (by simp) (by simp [k6, hc])
    ·rw [if_neg hc] at hf
     exact no (l' := l) hf (by simp [k6, hc])
   rw [if_neg k6] at hf
   by_cases k8 : p.kind = 8
   ·rw [if_pos k8] at hf
    by_cases hc : v.kind = 7
    ·rw [if_pos hc] at hf
     exact yes hf (by simp) (by simp [k8, hc])
    ·rw [if_neg hc] at hf
     exact no (l' := l) hf (by simp [k8, hc])
   rw [if_neg k8] at hf
   unfold Pat.one at ho
   have k79 : p.kind = 7 ∨ p.kind = 9 := by
    have n1 : ¬ (p.kind = 1 ∨ p.kind = 6 ∨ p.kind = 8) := by omega
    simp only [n1, k2, k3, k4, k5, if_false] at ho
    split at ho
    ·omega
    ·cases ho
   have zl : (DV.list 17 [] : DV) = .list 17 (([] : List (ByteArray × Ex)).map encBd) := rfl
   by_cases hk : p.kind = 7 ∧ v.kind = 6 ∨ p.kind = 9 ∧ v.kind = 8
   rotate_left
   ·rw [if_neg hk] at hf
    refine no (l' := []) hf ?_
    rcases k79 with k | k
    ·have h1 : ¬ v.kind = 6 := fun h => hk (.inl ⟨k, h⟩)
     simp [k, h1]
    ·have h1 : ¬ v.kind = 8 := fun h => hk (.inr ⟨k, h⟩)
     simp [k, h1]
   rw [if_pos hk] at hf
   have e18 : ∀ X : Option (List DV × List SObj), P_r23_fitsPlain_18 (run cfg) (.list 17 (l.map encBd)) p.enc v.enc sg = X → (run cfg).r F_r23_fitsPlain [(p.enc, .val), (v.enc, .val), (.list 17 (l.map encBd), .own)] sg = X := by
    intro X hX
    rw [fix_r23_fitsPlain, ← hX, eq_r23_fitsPlain]
    simp only [isAggN_Pat, isAggN_Ex, og_true', Pat.proj0, dBin_eql, ob_some', oif_bool, k1, decide_false, Bool.false_eq_true, if_false, eq_r23_fitsPlain_4, k2, k3, k4, eq_r23_fitsPlain_10, k5, k6, k8, ogd_bool, dBin_neq, Ex.proj0 v]
    rcases hk with ⟨a, b⟩ | ⟨a, b⟩
    ·simp [a, b]
    ·simp [a, b]
   have v68 : v.kind = 6 ∨ v.kind = 8 := by omega
   have hlen := Ex.one_kids (Ex.right_one hv)
   have hl2 : v.kids.length = 2 := by
    rcases v68 with k | k <;> rw [k] at hlen <;> simp [eKids] at hlen <;> omega
   obtain ⟨a, b, hab⟩ : ∃ a b, v.kids = [a, b] := by
    match hvk : v.kids, hl2 with
    | [a, b], _ => exact ⟨a, b, rfl⟩
   have hpl : p.kids.length = 2 := by
    have n1 : ¬ (p.kind = 1 ∨ p.kind = 6 ∨ p.kind = 8) := by omega
    simp only [n1, k2, k3, k4, k5, k79, if_false, if_true, Bool.and_eq_true, decide_eq_true_eq] at ho
    exact ho.1.1.1
   obtain ⟨f, g, hfg⟩ : ∃ f g, p.kids = [f, g] := by
    match hpk : p.kids, hpl with
    | [a, b], _ => exact ⟨a, b, rfl⟩
   have hp2 := hpo.2
   rw [hfg] at hp2
   simp only [List.all_cons, List.all_nil, Bool.and_true, Bool.and_eq_true] at hp2
   have psz := p.size_eq
   rw [hfg] at psz
   simp only [List.map_cons, List.map_nil, List.sum_cons, List.sum_nil] at psz
   rw [hfg, hab] at hf
   simp only [List.map_cons, List.map_nil] at hf
   have ra : a.right = true := Ex.right_kid hv (by rw [hab]; simp)
   have rb : b.right = true := Ex.right_kid hv (by rw [hab]; simp)
   have i1 := ih f (by rw [hfg]; simp) hp2.1 a ra l sg (by omega)
   have dp0 : dIdx 7 (.list 7 (p.kids.map Pat.enc)) (.int .i64 0) = some f.enc := by rw [hfg]; rfl
   have dp1 : dIdx 7 (.list 7 (p.kids.map Pat.enc)) (.int .i64 1) = some g.enc := by rw [hfg]; rfl
   have dv0 : dIdx 16 (.list 16 (v.kids.map Ex.enc)) (.int .i64 0) = some a.enc := by rw [hab]; rfl
   have dv1 : dIdx 16 (.list 16 (v.kids.map Ex.enc)) (.int .i64 1) = some b.enc := by rw [hab]; rfl
   unfold Held at i1 ⊢
   cases h1 : f.fits a with
   | none =>
     rw [h1] at i1 hf
     obtain ⟨l', e1⟩ := i1
     rw [hf]
     refine ⟨[], e18 _ ?_⟩
     rw [eq_r23_fitsPlain_18]
     simp only [Ex.proj15 v, Pat.proj6 p, dp0, dv0, ob_some', pax, exx, e1, dExt_0, dExt_1, dUn_not, Bool.not_false, oif_bool, if_true]
     rfl
   | some m1 =>
     rw [h1] at i1 hf
     obtain ⟨s1, e1⟩ := i1
     simp only [Option.bind_some] at hf
     have s1' : m1.length ≤ f.size := s1
     have hlm : (l ++ m1).length + g.size ≤ lim := by rw [List.length_append]; omega
     have i2 := ih g (by rw [hfg]; simp) hp2.2 b rb (l ++ m1) sg hlm
     unfold Held at i2
     cases h2 : g.fits b with
     | none =>
       rw [h2] at i2 hf
       obtain ⟨l', e2⟩ := i2
       rw [hf]
       refine ⟨l', e18 _ ?_⟩
       rw [eq_r23_fitsPlain_18]
       simp only [Ex.proj15 v, Pat.proj6 p, dp0, dv0, dp1, dv1, ob_some', pax, exx, e1, e2, dExt_0, dExt_1, dUn_not, Bool.not_true, oif_bool, Bool.false_eq_true, if_false]
     | some m2 =>
       rw [h2] at i2 hf
       obtain ⟨s2, e2⟩ := i2
       rw [hf]
       refine ⟨by rw [List.length_append]; omega, e18 _ ?_⟩
       rw [eq_r23_fitsPlain_18]
       simp only [Ex.proj15 v, Pat.proj6 p, dp0, dv0, dp1, dv1, ob_some', pax, exx, e1, e2, dExt_0, dExt_1, dUn_not, Bool.not_true, oif_bool, Bool.false_eq_true, if_false, List.append_assoc]
end Go.Su

/-
 The functions' specs that this claim needs.
-/
namespace Go.Su
set_option linter.unusedVariables false
set_option linter.unusedSimpArgs false
end Go.Su

/-
 What the document's functions on expressions without types give: a step, what a value tells, a run.
-/
namespace Go.Su
set_option linter.unusedVariables false
set_option linter.unusedSimpArgs false
noncomputable def putAt37 (l : List (ByteArray × Ex)) (j : Nat) (x : Ex) (sg : List SObj) : Option DV :=
 P_r23_stepPlain_37h (run cfg) (.list 17 (l.map encBd)) (.int .i64 (j : Int)) x.enc sg
theorem sp_plain_put (l : List (ByteArray × Ex)) (hl : l.length ≤ lim) (hb : ∀ b ∈ l, b.2.fit ∧ b.2.right = true) (sg : List SObj) : ∀ (n j : Nat) (x : Ex), j + n = l.length → x.fit → x.right = true →
 putAt37 l j x sg = some (.tup [(x.putAll (l.drop j)).enc, R3.ok.enc]) := by
 have hB := big hl
 intro n
 induction n with
 | zero =>
   intro j x hj _ _
   have e : j = l.length := by omega
   subst e
   unfold putAt37
   rw [eq_r23_stepPlain_37h, List.drop_length]
   simp only [dLen_list, List.length_map, dBin_lss, Int.lt_irrefl, decide_false, ob_some', oif_bool, Bool.false_eq_true, if_false, exx, ok0_r3]
   rfl
 | succ n ihn =>
   intro j x hj fx rx
   have h : j < l.length := by omega
   obtain ⟨fv, rv⟩ := hb _ (List.getElem_mem h)
   have p := sp_r23_replaced l[j].1 l[j].2 x fx rx
   have nx := ihn (j + 1) (x.put l[j].1 l[j].2) (by omega) (Ex.put_fit x _ _ fv fx) (Ex.put_right x _ _ rv rx)
   unfold putAt37 at nx ⊢
   rw [eq_r23_stepPlain_37h]
   simp only [dLen_list, List.length_map, dBin_lss, Int.ofNat_lt, h, decide_true, ob_some', oif_bool, if_true, dIdx_map h, exx, encBd0, encBdE, p, isAggN_Ex, og_true', dAdd1 (show j < 9223372036854775807 by omega)]
   rw [nx, List.drop_eq_getElem_cons h]
   rfl
noncomputable def armAt (t : Ex) (j : Nat) (sg : List SObj) : Option DV :=
 P_r23_stepPlain_31hb (run cfg) (.int .i64 (j : Int)) t.enc sg
theorem sp_plain_arms (t : Ex) (ft : t.fit) (rt : t.right = true) (hk : t.kids.length = t.pats.length + 1) (fits : ∀ p ∈ t.pats, ∀ l, p.fits (t.kid 0) = some l → ∀ b ∈ l, b.2.fit ∧ b.2.right = true) :
 ∀ (n j : Nat) (sg : List SObj), j + n = t.pats.length → armAt t j sg = some (armD t ((t.kid 0).armE (t.pats.drop j) ((t.kids.drop 1).drop j))) := by
 have hP := big (Nat.le_of_lt ft.one.pats)
 have h0 : 0 < t.kids.length := by omega
 have v0 := Ex.kid_get h0
 have vr : (t.kid 0).right = true := Ex.right_kid rt (Ex.kid_mem v0)
 have d0 : dIdx 16 (.list 16 (t.kids.map Ex.enc)) (.int .i64 0) = some (t.kid 0).enc := kidx t 0 h0
 have pr : ∀ p ∈ t.pats, p.pat = true ∧ p.size ≤ lim := fun p hp => by
  have := Ex.one_pats rt p hp
  unfold Pat.right at this
  rw [Bool.and_eq_true] at this
  exact ⟨this.1, (ft.one.pat p hp).size⟩
 have st4 : DV.agg [.int .i64 4, .int .i64 0, .int .i64 0, .str ⟨#[]⟩, .int .i64 0, .int .i64 0, .int .i64 0, .bool false, .list 5 [], .list 9 [], .int .i64 0, .bool false, .int .i64 t.lo, .int .i64 t.hi, .int .i64 0] = (R3.mk 4 t.lo t.hi).enc := rfl
 have kidj : ∀ j, j < t.pats.length → ∃ k, t.kids[j + 1]? = some k ∧ k.fit ∧ k.right = true ∧ dIdx 16 (.list 16 (t.kids.map Ex.enc)) (.int .i64 ((j + 1 : Nat) : Int)) = some k.enc ∧ (t.kids.drop 1)[j]? = some k := by
  intro j hj
  have h : j + 1 < t.kids.length := by omega
  exact ⟨t.kids[j + 1], List.getElem?_eq_getElem h, ft.kid (List.getElem_mem h), Ex.right_kid rt (List.getElem_mem h), dIdx_map h, by rw [List.getElem?_drop, Nat.add_comm, List.getElem?_eq_getElem h]⟩
 have arm_cons : ∀ (j : Nat) (h : j < t.pats.length) (k : Ex), (t.kids.drop 1)[j]? = some k → (t.kid 0).armE (t.pats.drop j) ((t.kids.drop 1).drop j) = match t.pats[j].fits (t.kid 0) with
  | some l => some (k.putAll l)
  | none => (t.kid 0).armE (t.pats.drop (j + 1)) ((t.kids.drop 1).drop (j + 1)) := by
  intro j h k hk
  have h2 : j < (t.kids.drop 1).length := by
   rcases Nat.lt_or_ge j (t.kids.drop 1).length with g | g
   ·exact g
   ·rw [List.getElem?_eq_none g] at hk; cases hk
  rw [List.getElem?_eq_getElem h2, Option.some.injEq] at hk
  rw [List.drop_eq_getElem_cons h, List.drop_eq_getElem_cons h2, hk, Ex.armE]
  cases t.pats[j].fits (t.kid 0) <;> rfl
 have arm_end : ∀ j, j = t.pats.length → (t.kid 0).armE (t.pats.drop j) ((t.kids.drop 1).drop j) = none := by
  intro j hj
  subst hj
  rw [List.drop_length]
  cases ((t.kids.drop 1).drop t.pats.length) <;> rfl
 intro n
 induction n with
 | zero =>
   intro j sg hj
   have e : j = t.pats.length := by omega
   rw [arm_end j e]
   subst e
   unfold armAt
   rw [eq_r23_stepPlain_31hb]
   simp only [Ex.proj14 t, dLen_list, List.length_map, dBin_lss, Int.lt_irrefl, decide_false, ob_some', oif_bool, Bool.false_eq_true, if_false, noEx_agg, Ex.proj1 t, Ex.proj2 t, st4]
   rfl
 | succ n ihn =>
   intro j sg hj
   have h : j < t.pats.length := by omega
   obtain ⟨k, -, fk, rk, dk, ek⟩ := kidj j h
   obtain ⟨pp, ps⟩ := pr _ (List.getElem_mem h)
   have hm := sp_r23_fitsPlain t.pats[j] pp (t.kid 0) vr [] sg (by simpa using ps)
   have e1 : dBin .add (.int .i64 (j : Int)) (.int .i64 1) = some (.int .i64 ((j + 1 : Nat) : Int)) := dAdd1 (show j < 9223372036854775807 by omega)
   rw [arm_cons j h k ek]
   unfold armAt
   rw [eq_r23_stepPlain_31hb]
   unfold Held at hm
   cases hf : t.pats[j].fits (t.kid 0) with
   | none =>
     rw [hf] at hm
     obtain ⟨l', hm⟩ := hm
     have hm : (run cfg).r F_r23_fitsPlain [(t.pats[j].enc, .val), ((t.kid 0).enc, .val), (.list 17 [], .own)] sg = some ([.list 17 (l'.map encBd), .bool false], sg) := hm
     simp only [Ex.proj14 t, dLen_list, List.length_map, dBin_lss, Int.ofNat_lt, h, decide_true, ob_some', oif_bool, if_true, dIdx_map h, Ex.proj15 t, d0]
     simp only [pax, exx, hm, ob_some', dExt_0, dExt_1, dUn_not, Bool.not_false, oif_bool, if_true, e1]
     exact ihn (j + 1) sg (by omega)
   | some m =>
     rw [hf] at hm
     obtain ⟨hs, hm⟩ := hm
     have hm : (run cfg).r F_r23_fitsPlain [(t.pats[j].enc, .val), ((t.kid 0).enc, .val), (.list 17 [], .own)] sg = some ([.list 17 (m.map encBd), .bool true], sg) := hm
     have hb := fits _ (List.getElem_mem h) m hf
     have sp := sp_plain_put m (by omega) hb sg m.length 0 k (by omega) fk rk
     rw [List.drop_zero] at sp
     simp only [Ex.proj14 t, dLen_list, List.length_map, dBin_lss, Int.ofNat_lt, h, decide_true, ob_some', oif_bool, if_true, dIdx_map h, Ex.proj15 t, d0]
     simp only [pax, exx, hm, ob_some', dExt_0, dExt_1, dUn_not, Bool.not_true, oif_bool, Bool.false_eq_true, if_false, e1, dk]
     exact sp
theorem plain_red (B : Nat) (hB : B ≤ 4294960000) (t : Ex) (ht : t.cl) (hl : t.lean B) (hd : t.due = none) : P_r23_stepPlain (run cfg) t.enc = some (.tup [t.redE.1.enc, t.redE.2.enc]) := by
 have ft := Ex.right_fit hB t ht.1 hl
 have hlen := Ex.one_of ht
 have fk : ∀ i, i < t.kids.length → (t.kid i).fit ∧ (t.kid i).right = true := fun i h => ⟨ft.kid (Ex.kid_mem (Ex.kid_get h)), Ex.right_kid ht.1 (Ex.kid_mem (Ex.kid_get h))⟩
 have d0 : 0 < t.kids.length → dIdx 16 (.list 16 (t.kids.map Ex.enc)) (.int .i64 0) = some (t.kid 0).enc := kidx t 0
 have d1 : 1 < t.kids.length → dIdx 16 (.list 16 (t.kids.map Ex.enc)) (.int .i64 1) = some (t.kid 1).enc := kidx t 1
 have du := sp_r23_duePlain t ft ht
 rw [hd] at du
 unfold Ex.redE
 rw [eq_r23_stepPlain]
 simp only [exx, isAggN_Ex, og_true', du, ob_some']
 simp only [dBin_geq, Int.reduceLE, decide_false, ob_some', oif_bool, Bool.false_eq_true, if_false, Ex.proj0 t, Ex.proj15 t, dBin_eql, exx, ok0_r3]
 by_cases c10 : t.kind = 10
 ·have h2 : t.kids.length = 2 := by rw [c10] at hlen; simp [eKids] at hlen; omega
  simp only [c10, decide_true, if_true, d0 (by omega), d1 (by omega), ob_some', Ex.proj0 (t.kid 0), Ex.proj3 (t.kid 0), Ex.proj15 (t.kid 0), dBin_eql, oif_bool]
  by_cases c9 : (t.kid 0).kind = 9
  ·have f0 := fk 0 (by omega)
   have hk := Ex.one_kids (Ex.right_one f0.2)
   have hk1 : 0 < (t.kid 0).kids.length := by rw [c9] at hk; simp [eKids] at hk; omega
   have e0 : dIdx 16 (.list 16 ((t.kid 0).kids.map Ex.enc)) (.int .i64 0) = some ((t.kid 0).kid 0).enc := kidx (t.kid 0) 0 hk1
   have p := sp_r23_replaced (t.kid 0).name (t.kid 1) ((t.kid 0).kid 0) (f0.1.kid (Ex.kid_mem (Ex.kid_get hk1))) (Ex.right_kid f0.2 (Ex.kid_mem (Ex.kid_get hk1)))
   simp only [c9, decide_true, if_true, e0, ob_some', exx, p, isAggN_Ex, og_true']
  ·simp only [c9, decide_false, Bool.false_eq_true, if_false, sp_r23_stop, ob_some', isAggN_R3, og_true', noEx_agg, r3x]
 by_cases c11 : t.kind = 11
 ·have h2 : t.kids.length = 2 := by rw [c11] at hlen; simp [eKids] at hlen; omega
  have p := sp_r23_replaced t.name (t.kid 0) (t.kid 1) (fk 1 (by omega)).1 (fk 1 (by omega)).2
  simp only [c11, Int.reduceEq, decide_false, decide_true, Bool.false_eq_true, if_false, if_true, d0 (by omega), d1 (by omega), ob_some', Ex.proj3 t, exx, p, isAggN_Ex, og_true']
 simp only [c10, c11, decide_false, Bool.false_eq_true, if_false]
 rw [eq_r23_stepPlain_17]
 simp only [exx, ok0_r3]
 simp only [Ex.proj15 t, Ex.proj3 t, Ex.proj4 t, dBin_eql, ob_some', oif_bool, isCell_str, og_true', dBin_seql]
 by_cases c12 : t.kind = 12
 ·have h2 : t.kids.length = 2 := by rw [c12] at hlen; simp [eKids] at hlen; omega
  have p := sp_r23_replaced t.name (t.recE (t.kid 0)) (t.kid 1) (fk 1 (by omega)).1 (fk 1 (by omega)).2
  have f9 : ∀ (s : ByteArray) (b : Ex), DV.agg [.int .i64 9, .int .i64 0, .int .i64 0, .str s, .str ⟨#[]⟩, .int .i64 0, .str ⟨#[]⟩, .int .i64 0, .int .i64 0, .int .i64 0, .list 3 [], .int .i64 0, .int .i64 0, .list 3 [], .list 7 [], .list 16 [b.enc]] = (Ex.mk 9 0 0 s nil8 0 nil8 0 (.mk 0 0 []) (.mk 0 0 []) [] [b]).enc := fun s b => by rw [Ex.enc_eq (Ex.mk _ _ _ _ _ _ _ _ _ _ _ _)]; rfl
  have f12 : ∀ (s u : ByteArray) (b : Ex), DV.agg [.int .i64 12, .int .i64 0, .int .i64 0, .str s, .str u, .int .i64 0, .str ⟨#[]⟩, .int .i64 0, .int .i64 0, .int .i64 0, .list 3 [], .int .i64 0, .int .i64 0, .list 3 [], .list 7 [], .list 16 [b.enc, b.enc]] = (Ex.mk 12 0 0 s u 0 nil8 0 (.mk 0 0 []) (.mk 0 0 []) [] [b, b]).enc := fun s u b => by rw [Ex.enc_eq (Ex.mk _ _ _ _ _ _ _ _ _ _ _ _)]; rfl
  unfold Ex.recE at p ⊢
  by_cases e : t.name = t.arg
  ·simp only [c12, e, if_true, Int.reduceEq, decide_false, decide_true, Bool.false_eq_true, if_false, d0 (by omega), d1 (by omega), ob_some'] at p ⊢
   rw [eq_r23_stepPlain_21]
   simp only [exx, f9, ok0_r3]
   simp only [Ex.proj15 t, Ex.proj3 t, Ex.proj4 t, isCell_str, og_true', d1 (by omega), ob_some', exx, e, f9, p, isAggN_Ex]
  ·simp only [c12, e, if_true, Int.reduceEq, decide_false, decide_true, Bool.false_eq_true, if_false, d0 (by omega), d1 (by omega), ob_some', exx] at p ⊢
   rw [eq_r23_stepPlain_21]
   simp only [f12, f9, ok0_r3]
   simp only [Ex.proj15 t, Ex.proj3 t, Ex.proj4 t, isCell_str, og_true', d1 (by omega), ob_some', exx, f9, p, isAggN_Ex]
 by_cases c13 : t.kind = 13
 ·have h2 : t.kids.length = 3 := by rw [c13] at hlen; simp [eKids] at hlen; omega
  simp only [c13, Int.reduceEq, decide_false, decide_true, Bool.false_eq_true, if_false, if_true, d0 (by omega), ob_some', Ex.proj0 (t.kid 0), Ex.proj5 (t.kid 0), dBin_eql, oif_bool]
  by_cases c3 : (t.kid 0).kind = 3
  ·have n01 := Ex.truth3 (fk 0 (by omega)).2 c3
   have sb : dBin .sub (.int .i64 2) (.int .i64 (t.kid 0).n) = some (.int .i64 ((2 - (t.kid 0).n).toNat : Int)) := by
    rw [dBin_sub]
    rcases n01 with n | n <;> rw [n] <;> rfl
   have dn := kidx t (2 - (t.kid 0).n).toNat (by rcases n01 with n | n <;> rw [n, h2] <;> decide)
   simp only [c3, decide_true, if_true, sb, dn, ob_some', exx]
  ·simp only [c3, decide_false, Bool.false_eq_true, if_false, sp_r23_stop, ob_some', isAggN_R3, og_true', noEx_agg, r3x]
 by_cases c16 : t.kind = 16
 ·have h2 : t.kids.length = 2 := by rw [c16] at hlen; simp [eKids] at hlen; omega
  have hop : 1 ≤ t.op ∧ t.op ≤ 7 := by
   have o := Ex.right_one ht.1
   unfold Ex.one Ex.one1 Ex.one2 Ex.one3 Ex.one4 Ex.one5 at o
   simp only [Bool.and_eq_true] at o
   have := o.2.2.2.2.2.1.1
   rw [c16] at this
   simpa [eOp] using this
  have p := sp_r23_operatePlain t (t.kid 0) (t.kid 1) hop.1 hop.2
  simp only [c16, Int.reduceEq, decide_false, decide_true, Bool.false_eq_true, if_false, if_true, d0 (by omega), d1 (by omega), ob_some', exx, p, isAggN_Ex, isAggN_R3, og_true', dExt_0, dExt_1, r3x]
 by_cases c14 : t.kind = 14
 ·have h14 := Ex.kids14 ht.1 c14
  have m1 : 0 < manyK t.kind := by rw [c14]; decide
  have p := sp_plain_arms t ft ht.1 h14 (Ex.arms_fit hB ht hl (by omega) (Ex.many_cl ht 0 m1).2) t.pats.length 0 [] (by omega)
  rw [List.drop_zero, List.drop_zero] at p
  simp only [c14, Int.reduceEq, decide_false, decide_true, Bool.false_eq_true, if_false, if_true, ob_some']
  rw [eq_r23_stepPlain_31h]
  unfold armAt at p
  rw [eq_r23_stepPlain_31hb] at p
  refine Eq.trans p ?_
  unfold armD
  cases ha : (t.kid 0).armE t.pats (t.kids.drop 1) <;> rfl
 by_cases c15 : t.kind = 15
 ·have h2 : t.kids.length = 1 := by rw [c15] at hlen; simp [eKids] at hlen; omega
  simp only [c15, Int.reduceEq, decide_false, decide_true, Bool.false_eq_true, if_false, if_true, d0 (by omega), ob_some', exx]
 simp only [c12, c13, c16, c14, c15, decide_false, Bool.false_eq_true, if_false, sp_r23_stop, ob_some', isAggN_R3, og_true', noEx_agg, r3x]
theorem sp_r23_stepPlain (B : Nat) (hB : B ≤ 4294960000) (t : Ex) : t.cl → t.lean B → (run cfg).p F_r23_stepPlain [t.enc] = some (.tup [t.stepE.1.enc, t.stepE.2.enc]) := by
 induction t using Ex.ind with
 | h t ih =>
   intro ht hl
   have ft := Ex.right_fit hB t ht.1 hl
   refine call_r23_stepPlain _ ?_
   rw [Ex.stepE_eq t]
   cases hd : t.due with
   | none => exact plain_red B hB t ht hl hd
   | some i =>
     obtain ⟨hk, -, hc, hv⟩ := Ex.due_spec ht hd
     have hs := ih _ (Ex.kid_mem (Ex.kid_get hk)) hc (Ex.kid_lean hl i)
     have du := sp_r23_duePlain t ft ht
     rw [hd] at du
     have hle : t.kids.length ≤ lim := Nat.le_of_lt ft.one.kids
     have a2 : dApp2 16 (.list 16 []) (.list 16 (t.kids.map Ex.enc)) = some ([], t.kids.map Ex.enc) := by
      have h0 : 0 < t.kids.length := by omega
      simp [dApp2, hle, h0]
     have a1 : arrIdx 0 t.kids.length (.int .i64 (i : Int)) = some i := by
      show (if (0 : Int) ≤ (i : Int) ∧ (i : Int) < (t.kids.length : Int) then some (0 + (i : Int).toNat) else none) = some i
      rw [if_pos ⟨by omega, by omega⟩]
      simp
     have ox : ∀ x : Ex, openSet (16, [], t.kids.map Ex.enc) i x.enc = some (.opn 16 [] ((t.kids.set i x).map Ex.enc)) := by
      intro x
      simp [openSet, hk, List.map_set]
     have sg : ∀ ds : List DV, sgOpn [SObj.opn 16 [] ds] 0 = some (16, [], ds) := fun ds => rfl
     have co : ∀ x : Ex, closeObj (16, [], (t.kids.set i x).map Ex.enc) 16 t.kids.length = some (.list 16 ((t.kids.set i x).map Ex.enc)) := by
      intro x
      have h0 : 0 < t.kids.length := by omega
      simp [closeObj, h0]
     rw [eq_r23_stepPlain]
     simp only [exx, isAggN_Ex, og_true', du, ob_some']
     have i0 : (0 : Int) ≤ (i : Int) := by omega
     simp only [dBin_geq, i0, decide_true, ob_some', oif_bool, if_true, Ex.proj15 t, kidx t i hk, exx, hs, dExt_0, dExt_1, isAggN_Ex, isAggN_R3, og_true', noEx_agg, r3x, ok0_r3]
     simp only [r3_kind, dBin_neq, ob_some', oif_bool, Ex.step_at hk]
     by_cases hz : (t.kid i).stepE.2.kind = 0
     ·simp only [hz, decide_true, Bool.not_true, Bool.false_eq_true, if_false, ne_eq, not_true, a2, ob_some', List.length_nil, Nat.zero_add, List.length_map, a1, ox, sg, co, Ex.pj t]
      rw [Ex.withKids_enc]
     ·simp only [hz, decide_false, Bool.not_false, if_true, ne_eq, not_false_eq_true]
end Go.Su

/-
 The functions' specs that this claim needs.
-/
namespace Go.Su
set_option linter.unusedVariables false
set_option linter.unusedSimpArgs false
end Go.Su

/-
 What the document's functions on expressions without types give: a run; what is small along it; results compared.
-/
namespace Go.Su
set_option linter.unusedVariables false
set_option linter.unusedSimpArgs false
theorem sp_r23_countExpr (t : Ex) : t.fit → ∀ n : Int, 0 ≤ n → n ≤ 1200 → ∃ m : Int, (run cfg).p F_r23_countExpr [t.enc, .int .i64 n] = some (.int .i64 m) ∧ 0 ≤ m ∧ m ≤ 1201 ∧ (m ≤ 1200 → n + t.size ≤ m) := by
 induction t using Ex.ind with
 | h t ih =>
   intro ft n h0 h1
   have hk := big (Nat.le_of_lt ft.one.kids)
   have loop : ∀ (r j : Nat) (c : Int), j + r = t.kids.length → 0 ≤ c → c ≤ 1201 → ∃ m : Int, P_r23_countExpr_3h (run cfg) (.int .i64 c) (.int .i64 (j : Int)) t.enc = some (.int .i64 m) ∧ 0 ≤ m ∧ m ≤ 1201 ∧ (m ≤ 1200 → c + ((t.kids.drop j).map Ex.size).sum ≤ m) := by
    intro r
    induction r with
    | zero =>
      intro j c hj c0 c1
      have e : j = t.kids.length := by omega
      subst e
      refine ⟨c, ?_, c0, c1, fun _ => by simp⟩
      rw [eq_r23_countExpr_3h]
      simp only [Ex.proj15 t, dLen_list, List.length_map, dBin_lss, Int.lt_irrefl, decide_false, ob_some', ogd_bool, Bool.false_eq_true, if_false]
    | succ r ihr =>
      intro j c hj c0 c1
      have h : j < t.kids.length := by omega
      by_cases hc : c ≤ 1200
      ·obtain ⟨m1, e1, g0, g1, g2⟩ := ih _ (List.getElem_mem h) (ft.kid (List.getElem_mem h)) c c0 hc
       obtain ⟨m2, e2, k0, k1, k2⟩ := ihr (j + 1) m1 (by omega) g0 g1
       have a1 : dBin .add (.int .i64 (j : Int)) (.int .i64 1) = some (.int .i64 ((j + 1 : Nat) : Int)) := dAdd1 (show j < 9223372036854775807 by omega)
       refine ⟨m2, ?_, k0, k1, fun hm => ?_⟩
       ·rw [eq_r23_countExpr_3h, ← e2]
        simp only [Ex.proj15 t, dLen_list, List.length_map, dBin_lss, Int.ofNat_lt, h, decide_true, ob_some', ogd_bool, if_true, dBin_leq, hc, oif_bool, dIdx_map h, exx, e1, a1]
       ·have q2 := k2 hm
        have p1 : m1 ≤ 1200 := by omega
        have q1 := g2 p1
        rw [List.drop_eq_getElem_cons h, List.map_cons, List.sum_cons]
        omega
      ·refine ⟨c, ?_, c0, c1, fun hm => absurd hm hc⟩
       rw [eq_r23_countExpr_3h]
       simp only [Ex.proj15 t, dLen_list, List.length_map, dBin_lss, Int.ofNat_lt, h, decide_true, ob_some', ogd_bool, if_true, dBin_leq, hc, decide_false, oif_bool, Bool.false_eq_true, if_false]
   obtain ⟨m, e, g0, g1, g2⟩ := loop t.kids.length 0 (n + 1) (by omega) (by omega) (by omega)
   refine ⟨m, ?_, g0, g1, fun hm => ?_⟩
   ·refine call_r23_countExpr _ _ ?_
    rw [eq_r23_countExpr, ← e]
    simp only [isAggN_Ex, og_true', dAdd (show -9223372036854775808 ≤ n + 1 by omega) (by omega), ob_some']
    rfl
   ·have := g2 hm
    rw [List.drop_zero] at this
    rw [Ex.size_eq]
    omega
theorem count_gtr (t : Ex) (ft : t.fit) : ∃ b : Bool, (∀ {k : DV → Option DV}, (ob ((run cfg).p F_r23_countExpr [t.enc, .int .i64 0]) fun d => ob (dBin .gtr d (.int .i64 1200)) k) = k (.bool b)) ∧ (b = false → t.size ≤ 1200) := by
 obtain ⟨m, e, g0, g1, g2⟩ := sp_r23_countExpr t ft 0 (by omega) (by omega)
 refine ⟨decide (1200 < m), fun {k} => by rw [e]; simp only [ob_some', dBin_gtr], fun h => ?_⟩
 have hm : m ≤ 1200 := by
  have := of_decide_eq_false h
  omega
 have := g2 hm
 omega
theorem sp_tame_loop (B : Nat) (hB : 1200 * B ≤ 2147483648) (f : Int) (hf : f ≤ 65536) : ∀ (m : Nat) (n : Nat) (t : Ex), (f - n).toNat = m → t.cl → t.lean B → t.size ≤ 1200 → ∃ b : Bool, P_r23_TamePlain_6h (run cfg) (.int .i64 f) (.int .i64 (n : Int)) t.enc = some (.bool b) ∧ (b = true → t.tame m) := by
 intro m
 induction m with
 | zero =>
   intro n t hn ht hl hs
   have ge : ¬ ((n : Int) < f) := by omega
   refine ⟨true, ?_, fun _ => hs⟩
   rw [eq_r23_TamePlain_6h]
   simp only [dBin_lss, ge, decide_false, ob_some', ogd_bool, Bool.false_eq_true, if_false]
 | succ m ihm =>
   intro n t hn ht hl hs
   have lt : (n : Int) < f := by omega
   have ft := Ex.right_fit (by omega) t ht.1 hl
   have pl := sp_r23_Plain t ft ht.1
   rw [eq_r23_TamePlain_6h]
   cases v : t.val
   ·rw [v] at pl
    have st := sp_r23_stepPlain B (by omega) t ht hl
    have a1 : dBin .add (.int .i64 (n : Int)) (.int .i64 1) = some (.int .i64 ((n + 1 : Nat) : Int)) := dAdd1 (show n < 9223372036854775807 by omega)
    by_cases hz : t.stepE.2.kind = 0
    ·have hc' := Ex.stepE_cl t ht hz
     have hl' := Ex.stepE_lean t hl
     obtain ⟨b, e, hb⟩ := count_gtr t.stepE.1 (Ex.right_fit (by omega) _ hc'.1 hl')
     cases b
     ·obtain ⟨b2, e2, hb2⟩ := ihm (n + 1) t.stepE.1 (by omega) hc' hl' (hb rfl)
      refine ⟨b2, ?_, fun h => ⟨hs, fun _ _ => hb2 h⟩⟩
      simp only [dBin_lss, lt, decide_true, ob_some', ogd_bool, if_true, exx, pl, dUn_not, Bool.not_false, oif_bool, st, dExt_0, dExt_1, isAggN_Ex, isAggN_R3, og_true', r3_kind, dBin_neq, hz, Bool.not_true, Bool.false_eq_true, if_false, e, a1, e2]
     ·refine ⟨false, ?_, fun h => by cases h⟩
      simp only [dBin_lss, lt, decide_true, ob_some', ogd_bool, if_true, exx, pl, dUn_not, Bool.not_false, oif_bool, st, dExt_0, dExt_1, isAggN_Ex, isAggN_R3, og_true', r3_kind, dBin_neq, hz, Bool.not_true, Bool.false_eq_true, if_false, e]
    ·refine ⟨true, ?_, fun _ => ⟨hs, fun _ h => absurd h hz⟩⟩
     simp only [dBin_lss, lt, decide_true, ob_some', ogd_bool, if_true, exx, pl, dUn_not, Bool.not_false, oif_bool, st, dExt_0, dExt_1, isAggN_Ex, isAggN_R3, og_true', r3_kind, dBin_neq, hz, decide_false]
   ·rw [v] at pl
    refine ⟨true, ?_, fun _ => ⟨hs, fun h => by rw [v] at h; cases h⟩⟩
    simp only [dBin_lss, lt, decide_true, ob_some', ogd_bool, if_true, exx, pl, dUn_not, Bool.not_true, oif_bool, Bool.false_eq_true, if_false]
theorem sp_r23_TamePlain (B : Nat) (hB : 1200 * B ≤ 2147483648) (t : Ex) (ft : t.fit) (hm : 2 * t.mass ≤ lim) (hl : t.lean B) (f : Int) (hf : f ≤ 65536) : ∃ b : Bool, (run cfg).p F_r23_TamePlain [t.enc, .int .i64 f] = some (.bool b) ∧ (b = true → t.cl → t.tame f.toNat) := by
 obtain ⟨b, e, hb⟩ := count_gtr t ft
 cases b
 rotate_left
 ·refine ⟨false, call_r23_TamePlain _ _ ?_, fun h => by cases h⟩
  rw [eq_r23_TamePlain]
  simp only [isAggN_Ex, og_true', exx, e, oif_bool, if_true]
 by_cases rt : t.right = true
 ·by_cases fr : t.free = []
  ·obtain ⟨b2, e2, hb2⟩ := sp_tame_loop B hB f hf f.toNat 0 t (by simp) ⟨rt, fr⟩ hl (hb rfl)
   refine ⟨b2, call_r23_TamePlain _ _ ?_, fun h _ => hb2 h⟩
   rw [eq_r23_TamePlain]
   have e2 : P_r23_TamePlain_6h (run cfg) (.int .i64 f) (.int .i64 0) t.enc = some (.bool b2) := e2
   simp only [isAggN_Ex, og_true', exx, e, oif_bool, Bool.false_eq_true, if_false, sp_r05_Right t ft, rt, dUn_not, Bool.not_true, ob_some', ogd_bool, sp_r05_Free t ft rt hm, dLen_strs, dBin_gtr, fr, e2]
   rfl
  ·refine ⟨true, call_r23_TamePlain _ _ ?_, fun _ h => absurd h.2 fr⟩
   rw [eq_r23_TamePlain]
   simp only [isAggN_Ex, og_true', exx, e, oif_bool, Bool.false_eq_true, if_false, sp_r05_Right t ft, rt, dUn_not, Bool.not_true, ob_some', ogd_bool, sp_r05_Free t ft rt hm, dLen_strs, dBin_gtr, len_free', fr, not_false_eq_true, decide_true, if_true]
 ·refine ⟨true, call_r23_TamePlain _ _ ?_, fun _ h => absurd h.1 rt⟩
  rw [eq_r23_TamePlain]
  simp only [isAggN_Ex, og_true', exx, e, oif_bool, Bool.false_eq_true, if_false, sp_r05_Right t ft, rt, dUn_not, Bool.not_false, ob_some', ogd_bool, if_true]
theorem sp_r20_Same_no : (run cfg).p F_r20_Same [noCoer.enc, noCoer.enc] = some (.bool true) := by
 refine call_r20_Same _ _ ?_
 rw [eq_r20_Same]
 have d0 : ∀ b : Bool, dEqB (.bool b) (.bool b) = some true := fun b => by cases b <;> rfl
 have n4 : proj 4 noCoer.enc = .list 5 [] := by rw [Coer.proj4]; rfl
 simp only [isAggN_Coer, og_true', Coer.proj0, Coer.proj1, Coer.proj2, Coer.proj3, dBin_neq, decide_true, Bool.not_true, ob_some', ogd_bool, Bool.false_eq_true, if_false, d0, n4, dLen_list, List.length_nil, oif_bool]
 rw [eq_r20_Same_4h]
 simp [n4]
end Go.Su

/-
 The functions' specs that this claim needs.
-/
namespace Go.Su
set_option linter.unusedVariables false
set_option linter.unusedSimpArgs false
def Ty.plain (K : Int → Bool) : Ty → Ty
 | .mk k n ks => if k = 6 ∧ K n = false then .mk 5 0 [] else .mk k n (ks.map (Ty.plain K))
def Deriv.plain (K : Int → Bool) : Deriv → Deriv
 | .mk ts vs ks => .mk (ts.map (Ty.plain K)) vs (ks.map (Deriv.plain K))
end Go.Su

/-
 What the document's functions on expressions without types give: results compared.
-/
namespace Go.Su
set_option linter.unusedVariables false
set_option linter.unusedSimpArgs false
inductive Val.plain : Val → Prop where
 | mk (v : Val) : v.c = noCoer → v.kids.length < lim → (∀ k ∈ v.kids, k.plain) → v.plain
theorem Val.plain.c0 {v : Val} (h : v.plain) : v.c = noCoer := by cases h; assumption
theorem Val.plain.len {v : Val} (h : v.plain) : v.kids.length < lim := by cases h; assumption
theorem Val.plain.kid {v k : Val} (h : v.plain) (hk : k ∈ v.kids) : k.plain := by cases h with | mk _ _ _ g => exact g k hk
theorem noVal_plain : noVal.plain := .mk _ rfl (by simp [noVal, lim]) (by simp [noVal])
theorem Ex.told_plain (t : Ex) : t.fit → t.told.plain := by
 induction t using Ex.ind with
 | h t ih =>
   intro ft
   rw [Ex.told_eq]
   have z : (0 : Nat) < lim := by unfold lim; omega
   split
   ·exact .mk _ rfl (by simpa using z) (by simp)
   split
   ·exact .mk _ rfl (by simpa using z) (by simp)
   split
   ·refine .mk _ rfl (by simpa using ft.one.kids) fun k hk => ?_
    simp only [Val.kids_mk, List.mem_map] at hk
    obtain ⟨x, hx, rfl⟩ := hk
    exact ih x hx (ft.kid hx)
   ·exact .mk _ rfl (by simpa using z) (by simp)
theorem va_c (v : Val) (h : v.c = noCoer) : DV.agg [proj 3 v.enc, proj 4 v.enc, proj 5 v.enc, proj 6 v.enc, proj 7 v.enc] = noCoer.enc := by
 rw [Val.enc_eq, h, Coer.enc_eq]
 rfl
theorem sp_r23_Same_plain (v : Val) : v.plain → (run cfg).p F_r23_Same [v.enc, v.enc] = some (.bool true) := by
 induction v using Val.ind with
 | h v ih =>
   intro hp
   have hl := hp.len
   unfold lim at hl
   have loop : ∀ (n j : Nat), j + n = v.kids.length → P_r23_Same_4h (run cfg) (.int .i64 (j : Int)) v.enc v.enc = some (.bool true) := by
    intro n
    induction n with
    | zero =>
      intro j hj
      have e : j = v.kids.length := by omega
      subst e
      rw [eq_r23_Same_4h]
      simp only [Val.proj8 v, dLen_list, List.length_map, dBin_lss, Int.lt_irrefl, decide_false, ob_some', oif_bool, Bool.false_eq_true, if_false]
    | succ n ihn =>
      intro j hj
      have h : j < v.kids.length := by omega
      have e1 : dBin .add (.int .i64 (j : Int)) (.int .i64 1) = some (.int .i64 ((j + 1 : Nat) : Int)) := dAdd1 (show j < 9223372036854775807 by omega)
      rw [eq_r23_Same_4h]
      simp only [Val.proj8 v, dLen_list, List.length_map, dBin_lss, Int.ofNat_lt, h, decide_true, ob_some', oif_bool, if_true, dIdx_map h, vax, ih _ (List.getElem_mem h) (hp.kid (List.getElem_mem h)), dUn_not, Bool.not_true, Bool.false_eq_true, if_false, e1]
      exact ihn (j + 1) (by omega)
   refine call_r23_Same _ _ ?_
   rw [eq_r23_Same]
   simp only [va_c v hp.c0]
   simp only [isAggN_Val, og_true', Val.proj0 v, Val.proj1 v, Val.proj2 v, Val.proj8 v, dBin_neq, dBin_sneq, decide_true, Bool.not_true, ob_some', ogd_bool, Bool.false_eq_true, if_false, sp_r20_Same_no, dUn_not, dLen_list, List.length_map, oif_bool]
   exact loop v.kids.length 0 (by omega)
theorem rslt_val (r : Rslt) : DV.agg [proj 1 r.enc, proj 2 r.enc, proj 3 r.enc, proj 4 r.enc, proj 5 r.enc, proj 6 r.enc, proj 7 r.enc, proj 8 r.enc, proj 9 r.enc] = r.val.enc := by rw [Val.enc_eq]; rfl
theorem rslt_eta (r : Rslt) : DV.agg [proj 0 r.enc, proj 1 r.enc, proj 2 r.enc, proj 3 r.enc, proj 4 r.enc, proj 5 r.enc, proj 6 r.enc, proj 7 r.enc, proj 8 r.enc, proj 9 r.enc, proj 10 r.enc, proj 11 r.enc, proj 12 r.enc, proj 13 r.enc, proj 14 r.enc] = r.enc := rfl
theorem rslt_steps (r : Rslt) : proj 14 r.enc = .int .i64 r.steps := rfl
theorem sp_r23_SameResult_self (r q : Rslt) (hp : r.val.plain) (h : q = { r with steps := q.steps }) : (run cfg).p F_r23_SameResult [r.enc, q.enc] = some (.bool true) := by
 have p0 : proj 0 q.enc = proj 0 r.enc := by rw [h]; rfl
 have p10 : proj 10 q.enc = proj 10 r.enc := by rw [h]; rfl
 have p11 : proj 11 q.enc = proj 11 r.enc := by rw [h]; rfl
 have p12 : proj 12 q.enc = proj 12 r.enc := by rw [h]; rfl
 have p13 : proj 13 q.enc = proj 13 r.enc := by rw [h]; rfl
 have pv : q.val = r.val := by rw [h]
 have r0 : proj 0 r.enc = .int .i64 r.kind := rfl
 have r10 : proj 10 r.enc = .int .i64 r.label := rfl
 have r11 : proj 11 r.enc = .bool r.neg := rfl
 have r12 : proj 12 r.enc = .int .i64 r.lo := rfl
 have r13 : proj 13 r.enc = .int .i64 r.hi := rfl
 refine call_r23_SameResult _ _ ?_
 rw [eq_r23_SameResult]
 simp only [rslt_val, pv, isAggN_Res, og_true', sp_r23_Same_plain r.val hp]
 simp only [p0, p10, p11, p12, p13, r0, r10, r11, r12, r13, dBin_eql, decide_true, ob_some', ogd_bool, if_true, dEqB_bool, BEq.rfl, dEqA_two, Bool.and_self]
theorem Ex.runE_plain (F : Nat) : ∀ (m n : Nat) (t : Ex), t.cl → t.lean F → F ≤ 4294960000 → (t.runE m n).val.plain := by
 intro m
 induction m with
 | zero =>
   intro n t ht hl hF
   cases v : t.val
   ·rw [Ex.runE_zero n v]; exact noVal_plain
   ·rw [Ex.runE_val 0 n v]
    split
    ·exact noVal_plain
    ·exact Ex.told_plain t (Ex.right_fit hF t ht.1 hl)
 | succ m ih =>
   intro n t ht hl hF
   cases v : t.val
   ·rw [Ex.runE_succ m n v]
    by_cases hz : t.stepE.2.kind = 0
    ·rw [if_neg (by simpa using hz)]
     exact ih _ _ (Ex.stepE_cl t ht hz) (Ex.stepE_lean t hl) hF
    ·rw [if_pos hz]; exact noVal_plain
   ·rw [Ex.runE_val (m + 1) n v]
    split
    ·exact noVal_plain
    ·exact Ex.told_plain t (Ex.right_fit hF t ht.1 hl)
theorem Ex.RunE_plain (B F : Nat) (t : Ex) (hB : B ≤ 4294960000) (hl : t.lean B) : (t.RunE F).val.plain := by
 unfold Ex.RunE
 split
 ·rename_i h
  exact Ex.runE_plain B F 0 t h hl hB
 ·split <;> exact noVal_plain
end Go.Su

/-
 The functions' specs that this claim needs.
-/
namespace Go.Su
set_option linter.unusedVariables false
set_option linter.unusedSimpArgs false
theorem sp_erase_Put (t v : Ex) (s : ByteArray) (ft : t.fit) (fv : v.fit) (hv : 2 * v.mass ≤ lim) (hs : s.size ≤ lim) :
 (run cfg).p F_erase_Put [t.enc, .str s, v.enc] = some (if t.right = true ∧ v.right = true ∧ v.free = [] ∧ nameB s = true then .tup [(t.put s v).enc, .int .i64 0] else .tup [zeroEx.enc, .int .i64 1]) := by
 have ee : ∀ k : Ex, (DV.agg [proj 0 k.enc, proj 1 k.enc, proj 2 k.enc, proj 3 k.enc, proj 4 k.enc, proj 5 k.enc, proj 6 k.enc, proj 7 k.enc, proj 8 k.enc, proj 9 k.enc, proj 10 k.enc, proj 11 k.enc, proj 12 k.enc, proj 13 k.enc, proj 14 k.enc, proj 15 k.enc]) = k.enc := fun k => by simp [Ex.eta, Ex.ag]
 refine call_erase_Put _ _ _ ?_
 rw [eq_erase_Put]
 simp only [ee, isAggN_Ex, og_true', sp_tree_Check t ft, sp_erase_closed v fv hv, sp_word_Name s hs, ob_some', dUn_not, dBin_neq, ogd_bool, oif_bool, zeroEx_agg]
 cases h1 : t.right
 ·simp
 have hp := sp_erase_put s v t ft h1
 cases h2 : v.right
 ·simp
 by_cases h3 : v.free = []
 ·cases h4 : nameB s
  ·simp [h3]
  ·simp [h3, hp, Ex.eta, Ex.ag]
 ·simp [h3]
theorem sp_erase_Value (t : Ex) (ft : t.fit) (hm : 2 * t.mass ≤ lim) : (run cfg).p F_erase_Value [t.enc] = some (.bool (t.right && decide (t.free = []) && t.val)) := by
 refine call_erase_Value _ ?_
 rw [eq_erase_Value]
 have hc := sp_erase_closed t ft hm
 cases rt : t.right
 ·rw [rt] at hc
  simp [Ex.eta, Ex.ag, hc]
 ·have hv := sp_erase_value t ft rt
  rw [rt] at hc
  by_cases hf : t.free = [] <;> simp [Ex.eta, Ex.ag, hc, hv, hf]
def numEx (n : Int) : Ex := .mk 2 0 0 nil8 nil8 n nil8 0 (.mk 0 0 []) (.mk 0 0 []) [] []
def nodeEx (k op : Int) (ks : List Ex) : Ex := .mk k 0 0 nil8 nil8 0 nil8 op (.mk 0 0 []) (.mk 0 0 []) [] ks
def nameEx (s : ByteArray) : Ex := .mk 1 0 0 s nil8 0 nil8 0 (.mk 0 0 []) (.mk 0 0 []) [] []
theorem ex_none : (Ty.mk 0 0 []).none = true := by simp [Ty.none]
theorem numEx_right (n : Int) : (numEx n).right = true := by
 rw [Ex.right_eq]
 simp [numEx, Ex.one, Ex.one1, Ex.one2, Ex.one3, Ex.one4, Ex.one5, Ex.one6, Ex.one7, Ex.one8, eOk, eKids, eName, eArg, eN, eS, eOp, eA, eB, eMust, noteB, namedB, nil8_size, ex_none]
theorem opEx_right (a b : Int) : (nodeEx 16 3 [numEx a, numEx b]).right = true := by
 rw [Ex.right_eq]
 simp [nodeEx, Ex.one, Ex.one1, Ex.one2, Ex.one3, Ex.one4, Ex.one5, Ex.one6, Ex.one7, Ex.one8, eOk, eKids, eName, eArg, eN, eS, eOp, eA, eB, eMust, noteB, namedB, nil8_size, ex_none, numEx_right]
theorem appEx_right (a b : Int) : (nodeEx 10 0 [numEx a, numEx b]).right = true := by
 rw [Ex.right_eq]
 simp [nodeEx, Ex.one, Ex.one1, Ex.one2, Ex.one3, Ex.one4, Ex.one5, Ex.one6, Ex.one7, Ex.one8, eOk, eKids, eName, eArg, eN, eS, eOp, eA, eB, eMust, noteB, namedB, nil8_size, ex_none, numEx_right]
theorem nameEx_right {s : ByteArray} (h : nameB s = true) : (nameEx s).right = true := by
 rw [Ex.right_eq]
 simp [nameEx, Ex.one, Ex.one1, Ex.one2, Ex.one3, Ex.one4, Ex.one5, Ex.one6, Ex.one7, Ex.one8, eOk, eKids, eName, eArg, eN, eS, eOp, eA, eB, eMust, noteB, namedB, nil8_size, ex_none, h]
theorem numEx_free (n : Int) : (numEx n).free = [] := by
 simp [Ex.free, Ex.fr_eq, numEx, Ex.frL_nil]
theorem node2_free (k op a b : Int) (h : k ≠ 1) (h2 : k ≠ 9) (h3 : k ≠ 11) (h4 : k ≠ 12) (h5 : k ≠ 14) : (nodeEx k op [numEx a, numEx b]).free = [] := by
 simp [Ex.free, Ex.fr_eq, nodeEx, numEx, Ex.frL_nil, Ex.frL_cons, h]
theorem numEx_mass (n : Int) : (numEx n).mass ≤ 10 := by simp [numEx, Ex.mass_eq, Ty.size_eq, nil8_size]
theorem node2_mass (k op a b : Int) : (nodeEx k op [numEx a, numEx b]).mass ≤ 30 := by
 have h1 := numEx_mass a
 have h2 := numEx_mass b
 simp [nodeEx, Ex.mass_eq (.mk _ _ _ _ _ _ _ _ _ _ _ _), Ty.size_eq, nil8_size]
 omega
theorem numEx_val (n : Int) : (numEx n).val = true := by rw [Ex.val_eq]; simp [numEx]
theorem numEx_agg (n : Int) : DV.agg [.int .i64 2, .int .i64 0, .int .i64 0, .str ⟨#[]⟩, .str ⟨#[]⟩, .int .i64 n, .str ⟨#[]⟩, .int .i64 0, .int .i64 0, .int .i64 0, .list 3 [], .int .i64 0, .int .i64 0, .list 3 [], .list 7 [], .list 16 []] = (numEx n).enc := by
 rw [Ex.enc_eq]; rfl
theorem node_agg (k op : Int) (a b : Ex) : DV.agg [.int .i64 k, .int .i64 0, .int .i64 0, .str ⟨#[]⟩, .str ⟨#[]⟩, .int .i64 0, .str ⟨#[]⟩, .int .i64 op, .int .i64 0, .int .i64 0, .list 3 [], .int .i64 0, .int .i64 0, .list 3 [], .list 7 [], .list 16 [a.enc, b.enc]] = (nodeEx k op [a, b]).enc := by
 rw [Ex.enc_eq (nodeEx k op [a, b])]; rfl
end Go.Su

/-
 The law's constant checks, by what a step and a run come to.
-/
namespace Go.Su
set_option linter.unusedVariables false
set_option linter.unusedSimpArgs false
theorem node2_due (k op a b : Int) : (nodeEx k op [numEx a, numEx b]).due = none := by
 have h0 : ((nodeEx k op [numEx a, numEx b]).kid 0).val = true := numEx_val a
 have h1 : ((nodeEx k op [numEx a, numEx b]).kid 1).val = true := numEx_val b
 unfold Ex.due
 rw [h0, h1]
 simp
theorem mul_step : (nodeEx 16 3 [numEx 6, numEx 7]).stepE = (numEx 42, R3.ok) := by
 rw [Ex.stepE_eq, node2_due]
 rfl
theorem app_step : (nodeEx 10 0 [numEx 1, numEx 2]).stepE = (noEx, R3.stuck) := by
 rw [Ex.stepE_eq, node2_due]
 rfl
theorem node2_val (k op a b : Int) (h : k = 16 ∨ k = 10) : (nodeEx k op [numEx a, numEx b]).val = false := by
 rw [Ex.val_eq]
 rcases h with rfl | rfl <;> simp [nodeEx]
theorem w26_wakes : (run cfg).p F_l26_wakes [] = some (.bool true) := by
 have nx : nameB ⟨#[120]⟩ = true := by decide +kernel
 have num : ∀ n : Int, (run cfg).p F_l26_num [.int .i64 n] = some (numEx n).enc := fun n => by
  refine call_l26_num _ ?_
  rw [eq_l26_num]
  simp only [isCell_int, og_true', numEx_agg]
 have na : DV.agg [.int .i64 1, .int .i64 0, .int .i64 0, .str ⟨#[120]⟩, .str ⟨#[]⟩, .int .i64 0, .str ⟨#[]⟩, .int .i64 0, .int .i64 0, .int .i64 0, .list 3 [], .int .i64 0, .int .i64 0, .list 3 [], .list 7 [], .list 16 []] = (nameEx ⟨#[120]⟩).enc := by
  rw [Ex.enc_eq]; rfl
 have m1 := node2_mass 16 3 6 7
 have m2 := node2_mass 10 0 1 2
 have fm : (nodeEx 16 3 [numEx 6, numEx 7]).fit := Ex.fit_mass (by omega)
 have fa : (nodeEx 10 0 [numEx 1, numEx 2]).fit := Ex.fit_mass (by omega)
 have cm : (nodeEx 16 3 [numEx 6, numEx 7]).cl := ⟨opEx_right 6 7, node2_free 16 3 6 7 (by omega) (by omega) (by omega) (by omega) (by omega)⟩
 have ca : (nodeEx 10 0 [numEx 1, numEx 2]).cl := ⟨appEx_right 1 2, node2_free 10 0 1 2 (by omega) (by omega) (by omega) (by omega) (by omega)⟩
 have lm : (nodeEx 16 3 [numEx 6, numEx 7]).lean 30 := Ex.lean.le m1 (Ex.lean_of _)
 have la : (nodeEx 10 0 [numEx 1, numEx 2]).lean 30 := Ex.lean.le m2 (Ex.lean_of _)
 have vm := node2_val 16 3 6 7 (.inl rfl)
 have va := node2_val 10 0 1 2 (.inr rfl)
 have S1 := sp_erase_Step 30 (by omega) _ fm (by unfold lim; omega) lm
 have S2 := sp_erase_Step 30 (by omega) _ fa (by unfold lim; omega) la
 unfold Ex.StepE at S1 S2
 rw [if_pos (show _ ∧ _ from cm), vm, mul_step] at S1
 rw [if_pos (show _ ∧ _ from ca), va, app_step] at S2
 simp only [Bool.false_eq_true, if_false] at S1 S2
 have R1 := sp_erase_Run 30 (by omega) _ fm (by unfold lim; omega) 2 2 rfl lm (fun _ => ⟨by have := (nodeEx 16 3 [numEx 6, numEx 7]).size_mass; omega, fun _ _ => by
  rw [mul_step]
  exact ⟨by show (numEx 42).size ≤ 1200; have := (numEx 42).size_mass; have := numEx_mass 42; omega, fun h => by rw [numEx_val] at h; cases h⟩⟩)
 unfold Ex.RunE at R1
 rw [if_pos (show _ ∧ _ from cm), Ex.runE_succ 1 0 vm, mul_step, if_neg (by decide), Ex.runE_val 1 1 (numEx_val 42), show (numEx 42).many = 1 by rw [Ex.many_eq]; rfl, if_neg (by decide)] at R1
 have R1 : (run cfg).p F_erase_Run [(nodeEx 16 3 [numEx 6, numEx 7]).enc, .int .i64 2] = some (Rslt.mk 1 (numEx 42).told 0 false 0 0 2).enc := R1
 have tk : proj 0 (Rslt.mk 1 (numEx 42).told 0 false 0 0 2).enc = .int .i64 1 := rfl
 have tn : proj 2 (Rslt.mk 1 (numEx 42).told 0 false 0 0 2).enc = .int .i64 42 := by
  show DV.int .i64 (numEx 42).told.n = _
  rw [Ex.told_eq]; rfl
 have ts : proj 14 (Rslt.mk 1 (numEx 42).told 0 false 0 0 2).enc = .int .i64 2 := rfl
 have mn := numEx_mass 3
 have P1 := sp_erase_Put (nameEx ⟨#[120]⟩) (numEx 3) ⟨#[120]⟩ (Ex.fit_mass (by simp [nameEx, Ex.mass_eq, Ty.size_eq, nil8_size]; decide)) (Ex.fit_mass (by omega)) (by unfold lim; omega) (by decide)
 rw [if_pos ⟨nameEx_right nx, numEx_right 3, numEx_free 3, nx⟩, show (nameEx ⟨#[120]⟩).put ⟨#[120]⟩ (numEx 3) = numEx 3 by rw [Ex.put_eq, if_pos ⟨rfl, rfl⟩]] at P1
 have V1 := sp_erase_Value (numEx 1) (Ex.fit_mass (by have := numEx_mass 1; omega)) (by have := numEx_mass 1; unfold lim; omega)
 rw [numEx_right, numEx_free, numEx_val] at V1
 have V2 := sp_erase_Value (nodeEx 16 3 [numEx 6, numEx 7]) fm (by unfold lim; omega)
 rw [vm, Bool.and_false] at V2
 have k0 : ∀ n, proj 0 (numEx n).enc = .int .i64 2 := fun n => by rw [Ex.proj0]; rfl
 have k5 : ∀ n, proj 5 (numEx n).enc = .int .i64 n := fun n => by rw [Ex.proj5]; rfl
 have q0 : proj 0 R3.ok.enc = .int .i64 0 := rfl
 have q6 : proj 0 R3.stuck.enc = .int .i64 6 := rfl
 refine call_l26_wakes ?_
 rw [eq_l26_wakes]
 simp only [num, ob_some', isAggN_Ex, isAggN_R3, isAggN_Res, og_true', node_agg, na, S1, S2, R1, dExt_0, dExt_1, P1]
 rw [eq_l26_wakes_6]
 simp only [node_agg, k0, k5, q0, q6, tk, tn, ts, dBin_eql, decide_true, ob_some', ogd_bool, if_true, num, V1, V2, dUn_not, Bool.and_self, Bool.not_false]
end Go.Su
