/-
  Parts of the proof, merged: T15, T16, LCheckExact, J0.
-/
import Derived.Test.YtgccmhlmdnimjaaGreatP5
import Derived.Test.YtgccmhlmdnimjaaGreatP6
import Derived.Test.YtgccmhlmdnimjaaGreatP13
/-
  What the reference's checker of terms gives: it is the checker.
-/
namespace Go.Su
set_option linter.unusedVariables false
set_option linter.unusedSimpArgs false

theorem thin1 {k n : Int} {a : Ty} (ha : a.thin = true) : (Ty.mk k n [a]).thin = true := by rw [Ty.thin_eq]; simp [ha, lim]
theorem thin2 {k n : Int} {a b : Ty} (ha : a.thin = true) (hb : b.thin = true) : (Ty.mk k n [a, b]).thin = true := by rw [Ty.thin_eq]; simp [ha, hb, lim]
theorem thin0 {k n : Int} : (Ty.mk k n []).thin = true := by rw [Ty.thin_eq]; simp [lim]

theorem errOk.kw {e c : Int} (h : errOk e) : kw e c = e := kw_ne h.ne
theorem mk_list_iff {y x : Ty} (hy : y.right = true) : y = .mk 8 0 [x] ↔ y.kind = 8 ∧ y.kids.getD 0 zeroTy = x := by
  constructor
  · rintro rfl; exact ⟨rfl, rfl⟩
  · rintro ⟨h1, h2⟩
    obtain ⟨a, ha⟩ := zero_arity hy h1
    have hn := (Ty.right_iff.1 hy).2.2.2.1
    rw [ha] at h2
    simp at h2
    rw [Ty.ext_iff']
    exact ⟨h1, by simp; omega, by rw [ha, h2]; rfl⟩
theorem leaf_iff {y : Ty} (hy : y.right = true) {k : Int} (hk : 1 ≤ k ∧ k ≤ 5) : y = .mk k 0 [] ↔ y.kind = k := by
  constructor
  · rintro rfl; rfl
  · intro h
    have h1 := (Ty.right_iff.1 hy).1
    have hn := (Ty.right_iff.1 hy).2.2.2.1
    have ha : arity y.kind = 0 := by rw [h]; unfold arity; rw [if_pos (by omega)]
    have hl : y.kids = [] := List.eq_nil_of_length_eq_zero (by omega)
    rw [Ty.ext_iff']
    exact ⟨h, by simp; omega, hl⟩

theorem KSpec.at {k : Tm} (h : KSpec k) {t : Tm} (ht : t.right = true) (hf : t.fit) (hz : t.sized) (hk : k ∈ t.kids) {sg : List SObj} {i : Nat} (hi : i < sg.length) {l : List Nm} {S S0 : List Int} (hl : NmsOk l) (hSS : ∀ v, v ∈ S ↔ v ∈ S0) (hw : l.length + k.wide ≤ lim) (hS : S.length + k.mass ≤ lim) :
    (∃ y, ck k l S0 = .ok y ∧ y.right = true ∧ (run cfg).r F_r17_K_typ [(.undef, .ptr i 0), (k.enc, .val), (encNms l, .val), (encInts S, .val)] (kSg sg i 0) = some ([y.enc], kSg sg i 0)) ∨
    (∃ (e : Int) (z : Ty), ck k l S0 = .error e ∧ errOk e ∧ z.thin = true ∧ (run cfg).r F_r17_K_typ [(.undef, .ptr i 0), (k.enc, .val), (encNms l, .val), (encInts S, .val)] (kSg sg i 0) = some ([z.enc], kSg sg i e)) := by
  have := h (Tm.right_kid ht hk) (hf.kid hk) (hz.kid hk) sg i l S S0 hi hl hSS hw hS
  cases hc : ck k l S0 with
  | ok y => rw [hc] at this; exact .inl ⟨y, rfl, ck_right k (Tm.right_kid ht hk) (hf.kid hk) l S0 y hl hc, this⟩
  | error e => rw [hc] at this; obtain ⟨z, h1, h2⟩ := this; exact .inr ⟨e, z, rfl, ck_err _ _ _ _ hc, h1, h2⟩

theorem sp_k_op (t : Tm) (hk : t.kind = 15) (ht : t.right = true) (hf : t.fit) (hz : t.sized) (IH : ∀ k ∈ t.kids, KSpec k) (sg : List SObj) (i : Nat) (l : List Nm) (S S0 : List Int) (hi : i < sg.length) (hl : NmsOk l) (hSS : ∀ v, v ∈ S ↔ v ∈ S0) (hw : l.length + t.wide ≤ lim) (hS : S.length + t.mass ≤ lim) :
    KIs sg i ((run cfg).r F_r17_K_op [(.undef, .ptr i 0), (t.enc, .val), (encNms l, .val), (encInts S, .val)] (kSg sg i 0)) (ck t l S0) := by
  have own := Tm.right_own ht
  have ho := own.op (by rw [hk]; rfl)
  obtain ⟨a, b, hkk⟩ := Tm.kids2 ht (by omega)
  have hm1 : a ∈ t.kids := by rw [hkk]; simp
  have hm2 : b ∈ t.kids := by rw [hkk]; simp
  have w1 := Tm.wide_kid hm1
  have w2 := Tm.wide_kid hm2
  have q1 := Tm.mass_kid hm1
  have q2 := Tm.mass_kid hm2
  have d0 : dIdx 20 (.list 20 [a.enc, b.enc]) (.int .i64 0) = some a.enc := rfl
  have d1 : dIdx 20 (.list 20 [a.enc, b.enc]) (.int .i64 1) = some b.enc := rfl
  rw [ck_rest (by omega), hkk]
  simp only [List.map_cons, List.map_nil, ckKids]
  -- with the operand's type
  have h4 : ∀ c : Int, (1 ≤ c ∧ c ≤ 5) → (t.op = 7 ∧ c = 3 ∨ ¬ t.op = 7 ∧ c = 1) → KIs sg i (P_r17_K_op_4 (run cfg) i (encNms l) (encInts S) t.enc (.int .i64 0) (.int .i64 0) (.list 3 []) (Ty.mk c 0 []).enc (kSg sg i 0))
      ((ck a l S0).bind fun x => ((ck b l S0).bind fun y => Except.ok [y]).bind fun ys => Except.ok (x :: ys) |>.bind fun k => ckOf t S0 k) := by
    intro c hc hoc
    rw [eq_r17_K_op_4]
    have fin : ∀ z w : Ty, ∀ e : Int, ∃ u : Ty, u.thin = true ∧ (∀ e' : Int, (ogd (.bool (decide (z = Ty.mk c 0 []))) (ob (some (.bool (decide (w = Ty.mk c 0 [])))) fun d6 => ob ((run cfg).r F_r17_K_must [(.undef, .ptr i 0), (d6, .val)] (kSg sg i e)) fun q7 => ob (dBin .geq (.int .i64 t.op) (.int .i64 5)) fun d8 => oif d8 (ob ((run cfg).p F_r03_Leaf [.int .i64 2]) fun d9 => og (isAggN 3 d9) <| some ([.agg [proj 0 d9, proj 1 d9, proj 2 d9]], q7.2)) (some ([(Ty.mk c 0 []).enc], q7.2)))
        (ob ((run cfg).r F_r17_K_must [(.undef, .ptr i 0), (.bool false, .val)] (kSg sg i e)) fun q10 => ob (dBin .geq (.int .i64 t.op) (.int .i64 5)) fun d11 => oif d11 (ob ((run cfg).p F_r03_Leaf [.int .i64 2]) fun d12 => og (isAggN 3 d12) <| some ([.agg [proj 0 d12, proj 1 d12, proj 2 d12]], q10.2)) (some ([(Ty.mk c 0 []).enc], q10.2))) none) =
        some ([u.enc], kSg sg i (if z = Ty.mk c 0 [] ∧ w = Ty.mk c 0 [] then e else kw e 4))) ∧ u = if 5 ≤ t.op then .mk 2 0 [] else .mk c 0 [] := by
      intro z w e
      refine ⟨if 5 ≤ t.op then .mk 2 0 [] else .mk c 0 [], by split <;> exact thin0, fun _ => ?_, rfl⟩
      by_cases h5 : 5 ≤ t.op <;> by_cases hz : z = Ty.mk c 0 [] <;> by_cases hw : w = Ty.mk c 0 [] <;> simp [h5, hz, hw, sp_k_must hi, sp_r03_Leaf, Ty.eta, Ty.mk_agg0]
    rcases (IH a hm1).at ht hf hz hm1 hi hl hSS (by omega) (by omega) with ⟨x, c1, rx, r1⟩ | ⟨e, z, c1, he, tz, r1⟩
    · rcases (IH b hm2).at ht hf hz hm2 hi hl hSS (by omega) (by omega) with ⟨y, c2, ry, r2⟩ | ⟨e, z, c2, he, tz, r2⟩
      · rw [c1, c2]
        simp only [Except.bind]
        obtain ⟨u, tu, hu, eu⟩ := fin x y 0
        have hs1 := sp_r03_Same x (Ty.thin_of_right rx) (Ty.mk c 0 [])
        have hs2 := sp_r03_Same y (Ty.thin_of_right ry) (Ty.mk c 0 [])
        have main : ckOf t S0 [x, y] = if x = Ty.mk c 0 [] ∧ y = Ty.mk c 0 [] then .ok u else .error 4 := by
          simp only [leaf_iff rx hc, leaf_iff ry hc]
          rw [eu]
          unfold ckOf
          rcases hoc with ⟨o7, rfl⟩ | ⟨o7, rfl⟩
          · simp [hk, o7]
          · simp [hk, o7]
            by_cases o5 : 5 ≤ t.op
            · have : t.op = 5 ∨ t.op = 6 := by omega
              simp [this, o5]
            · have : ¬ (t.op = 5 ∨ t.op = 6) := by omega
              simp [this, o5]
        rw [main]
        simp only [hkk, Tm.proj0, Tm.proj1, Tm.proj2, Tm.proj3, Tm.proj4, Tm.proj5, Tm.proj6, Tm.proj7, Tm.proj8, Tm.proj9, Tm.proj10, Tm.proj11, Tm.proj12, Tm.proj13, Tm.proj14, Tm.proj15, Tm.proj16, Tm.proj17, Tm.proj18, Tm.proj19, Tm.eta, List.map_cons, List.map_nil, d0, d1, ob_some', r1, r2, List.getD_cons_zero, isAggN_Ty, og_true', Ty.proj0, Ty.proj1, Ty.proj2, Ty.eta, hs1, hs2]
        by_cases hxy : x = Ty.mk c 0 [] ∧ y = Ty.mk c 0 []
        · have := hu 0
          rw [if_pos hxy] at this ⊢
          simpa [KIs] using this
        · have := hu 0
          rw [if_neg hxy] at this ⊢
          exact ⟨u, tu, by simpa [kw] using this⟩
      · rw [c1, c2]
        simp only [Except.bind]
        obtain ⟨u, tu, hu, eu⟩ := fin x z e
        have hs1 := sp_r03_Same x (Ty.thin_of_right rx) (Ty.mk c 0 [])
        have hs2 := sp_r03_Same z tz (Ty.mk c 0 [])
        simp only [hkk, Tm.proj0, Tm.proj1, Tm.proj2, Tm.proj3, Tm.proj4, Tm.proj5, Tm.proj6, Tm.proj7, Tm.proj8, Tm.proj9, Tm.proj10, Tm.proj11, Tm.proj12, Tm.proj13, Tm.proj14, Tm.proj15, Tm.proj16, Tm.proj17, Tm.proj18, Tm.proj19, Tm.eta, List.map_cons, List.map_nil, d0, d1, ob_some', r1, r2, List.getD_cons_zero, isAggN_Ty, og_true', Ty.proj0, Ty.proj1, Ty.proj2, Ty.eta, hs1, hs2]
        have := hu 0
        rw [he.kw, ite_self] at this
        exact ⟨u, tu, this⟩
    · rw [c1]
      simp only [Except.bind]
      have r2 := sp_k_stuck b (encNms l) (encInts S) sg i hi he.ne
      obtain ⟨u, tu, hu, eu⟩ := fin z zeroTy e
      have hs1 := sp_r03_Same z tz (Ty.mk c 0 [])
      have hs2 := sp_r03_Same zeroTy thin_zero (Ty.mk c 0 [])
      simp only [hkk, Tm.proj0, Tm.proj1, Tm.proj2, Tm.proj3, Tm.proj4, Tm.proj5, Tm.proj6, Tm.proj7, Tm.proj8, Tm.proj9, Tm.proj10, Tm.proj11, Tm.proj12, Tm.proj13, Tm.proj14, Tm.proj15, Tm.proj16, Tm.proj17, Tm.proj18, Tm.proj19, Tm.eta, List.map_cons, List.map_nil, d0, d1, ob_some', r1, r2, List.getD_cons_zero, isAggN_Ty, og_true', Ty.proj0, Ty.proj1, Ty.proj2, Ty.eta, hs1, hs2]
      have := hu 0
      rw [he.kw, ite_self] at this
      exact ⟨u, tu, this⟩
  have e0 : ((ck a l S0).bind fun y => ((ck b l S0).bind fun y => Except.ok [y]).bind fun ys => Except.ok (y :: ys)).bind (fun k => ckOf t S0 k) = ((ck a l S0).bind fun x => ((ck b l S0).bind fun y => Except.ok [y]).bind fun ys => Except.ok (x :: ys) |>.bind fun k => ckOf t S0 k) := by
    cases ck a l S0 <;> cases ck b l S0 <;> rfl
  have e1 : ((ck a l S0).bind fun y => ((ck b l S0).bind fun y => (Except.ok []).bind fun ys => Except.ok (y :: ys)).bind fun ys => Except.ok (y :: ys)).bind (fun k => ckOf t S0 k) = ((ck a l S0).bind fun y => ((ck b l S0).bind fun y => Except.ok [y]).bind fun ys => Except.ok (y :: ys)).bind (fun k => ckOf t S0 k) := by
    cases ck a l S0 <;> cases ck b l S0 <;> rfl
  rw [e1, e0]
  have hp : P_r17_K_op (run cfg) i t.enc (encNms l) (encInts S) (kSg sg i 0) = P_r17_K_op_4 (run cfg) i (encNms l) (encInts S) t.enc (.int .i64 0) (.int .i64 0) (.list 3 []) (Ty.mk (if t.op = 7 then 3 else 1) 0 []).enc (kSg sg i 0) := by
    rw [eq_r17_K_op]
    by_cases o7 : t.op = 7 <;> simp [o7, sp_r03_Leaf]
  refine KIs.mono (r := P_r17_K_op (run cfg) i t.enc (encNms l) (encInts S) (kSg sg i 0)) (fun v h => call_r17_K_op _ _ _ _ _ h) ?_
  rw [hp]
  exact h4 _ (by split <;> omega) (by by_cases o7 : t.op = 7 <;> simp [o7])

/-- Behind an error, whatever is held against whatever. -/
theorem sp_k_mustE {sg : List SObj} {i : Nat} (hi : i < sg.length) {e : Int} (he : errOk e) (b : Bool) : (run cfg).r F_r17_K_must [(.undef, .ptr i 0), (.bool b, .val)] (kSg sg i e) = some ([], kSg sg i e) := by
  rw [sp_k_must hi, he.kw, ite_self]
theorem sp_k_scopedE {sg : List SObj} {i : Nat} (hi : i < sg.length) {e : Int} (he : errOk e) (t : Ty) (ht : t.size ≤ lim) (S : List Int) (hS : S.length ≤ lim) : (run cfg).r F_r17_K_scoped [(.undef, .ptr i 0), (t.enc, .val), (encInts S, .val)] (kSg sg i e) = some ([], kSg sg i e) := by
  rw [sp_k_scoped hi e t ht S hS, he.kw, ite_self]
theorem e4 : errOk 4 := .inl rfl
theorem e6 : errOk 6 := .inr (.inl rfl)

theorem KIs.ok {sg : List SObj} {i : Nat} {r : Option (List DV × List SObj)} {y : Ty} (h : r = some ([y.enc], kSg sg i 0)) : KIs sg i r (.ok y) := h
theorem KIs.err {sg : List SObj} {i : Nat} {r : Option (List DV × List SObj)} {e : Int} (z : Ty) (hz : z.thin = true) (h : r = some ([z.enc], kSg sg i e)) : KIs sg i r (.error e) := ⟨z, hz, h⟩

theorem mem_app_comm {S S0 vs : List Int} (h : ∀ v, v ∈ S ↔ v ∈ S0) : ∀ v, v ∈ S ++ vs ↔ v ∈ vs ++ S0 := fun v => by
  rw [List.mem_append, List.mem_append, h v]; exact or_comm

theorem dApp_nil {l : List Nm} (hl : l.length ≤ lim) : dApp 5 (.list 5 []) (encNms l) = some (encNms l) := by
  have := dApp_maps (e := Nm.enc) (sz := 5) (l := []) (m := l) (by simp; omega)
  exact this
theorem dApp_nm {l : List Nm} (x : Nm) (hl : l.length < lim) : dApp 5 (encNms l) (.list 5 [x.enc]) = some (encNms (l ++ [x])) := dApp_map (e := Nm.enc) (sz := 5) (l := l) (x := x) hl

theorem sp_k_rec (t : Tm) (hk : t.kind = 12) (ht : t.right = true) (hf : t.fit) (hz : t.sized) (IH : ∀ k ∈ t.kids, KSpec k) (sg : List SObj) (i : Nat) (l : List Nm) (S S0 : List Int) (hi : i < sg.length) (hl : NmsOk l) (hSS : ∀ v, v ∈ S ↔ v ∈ S0) (hw : l.length + t.wide ≤ lim) (hS : S.length + t.mass ≤ lim) :
    KIs sg i ((run cfg).r F_r17_K_rec [(.undef, .ptr i 0), (t.enc, .val), (encNms l, .val), (encInts S, .val)] (kSg sg i 0)) (ck t l S0) := by
  have own := Tm.right_own ht
  have hvl := Nat.le_of_lt hf.one.vars
  have hmm := Tm.mass_eq t
  obtain ⟨a, b, hkk⟩ := Tm.kids2 ht (by omega)
  have hm1 : a ∈ t.kids := by rw [hkk]; simp
  have hm2 : b ∈ t.kids := by rw [hkk]; simp
  have w1 := Tm.wide_kid hm1
  have w2 := Tm.wide_kid hm2
  have q1 := mem_sum (f := Tm.mass) hm1
  have q2 := mem_sum (f := Tm.mass) hm2
  have ra := own.a (by rw [hk]; rfl)
  have rb := own.b (by rw [hk]; rfl)
  have rf := right_fun ra rb
  have d0 : dIdx 20 (.list 20 [a.enc, b.enc]) (.int .i64 0) = some a.enc := rfl
  have d1 : dIdx 20 (.list 20 [a.enc, b.enc]) (.int .i64 1) = some b.enc := rfl
  refine KIs.mono (r := P_r17_K_rec (run cfg) i t.enc (encNms l) (encInts S) (kSg sg i 0)) (fun v h => call_r17_K_rec _ _ _ _ _ h) ?_
  rw [ck_rec hk hkk, eq_r17_K_rec, ← takes_congr hSS]
  have hc := mem_app_comm (vs := t.vars) hSS
  simp only [← inS_congr hc]
  have wt := sp_k_with hi 0 S t.vars (by omega)
  have p1 := sp_plain l t.name (.mk 9 0 [t.a, t.b]) (by omega)
  have p2 := sp_plain (l ++ [⟨t.name, .mk 9 0 [t.a, t.b], []⟩]) t.arg t.a (by simp; omega)
  have n1 := dApp_nil (l := l) (by omega)
  have n2 := dApp_nm (l := l) ⟨t.name, .mk 9 0 [t.a, t.b], t.vars⟩ (by omega)
  have ea : DV.agg [.str t.name, .int .i64 9, .int .i64 0, .list 3 [t.a.enc, t.b.enc], encInts t.vars] = Nm.enc ⟨t.name, .mk 9 0 [t.a, t.b], t.vars⟩ := rfl
  have ef : (Ty.mk 9 0 [t.a, t.b]).enc = .agg [.int .i64 9, .int .i64 0, .list 3 [t.a.enc, t.b.enc]] := Ty.enc_eq _
  have el : l ++ [⟨t.name, .mk 9 0 [t.a, t.b], []⟩] ++ [⟨t.arg, t.a, []⟩] = l ++ [⟨t.name, .mk 9 0 [t.a, t.b], []⟩, ⟨t.arg, t.a, []⟩] := by simp
  rw [el] at p2
  have nl : NmsOk (l ++ [⟨t.name, .mk 9 0 [t.a, t.b], []⟩, ⟨t.arg, t.a, []⟩]) := hl.app (.two (Nm.ok_nil rf) (Nm.ok_nil ra))
  have nl2 : NmsOk (l ++ [⟨t.name, .mk 9 0 [t.a, t.b], t.vars⟩]) := hl.app (.one ⟨rf, hvl, own.vars⟩)
  have hSl : (S ++ t.vars).length ≤ lim := by simp; omega
  -- behind an error
  have stuck : ∀ e : Int, errOk e → KIs sg i (ob ((run cfg).r F_r17_K_scoped [(.undef, .ptr i 0), (t.b.enc, .val), (encInts (S ++ t.vars), .val)] (kSg sg i e)) fun q3 => ob ((run cfg).r F_r17_K_typ [(.undef, .ptr i 0), (a.enc, .val), (encNms (l ++ [⟨t.name, .mk 9 0 [t.a, t.b], []⟩, ⟨t.arg, t.a, []⟩]), .val), (encInts (S ++ t.vars), .val)] q3.2) fun q8 =>
      og (isAggN 3 (q8.1.getD 0 .undef)) <| ob ((run cfg).p F_r03_Same [.agg [proj 0 (q8.1.getD 0 .undef), proj 1 (q8.1.getD 0 .undef), proj 2 (q8.1.getD 0 .undef)], t.b.enc]) fun d9 => ob ((run cfg).r F_r17_K_must [(.undef, .ptr i 0), (d9, .val)] q8.2) fun q10 =>
      ob ((run cfg).r F_r17_K_typ [(.undef, .ptr i 0), (b.enc, .val), (encNms (l ++ [⟨t.name, .mk 9 0 [t.a, t.b], t.vars⟩]), .val), (encInts S, .val)] q10.2) fun q14 => og (isAggN 3 (q14.1.getD 0 .undef)) <| some ([.agg [proj 0 (q14.1.getD 0 .undef), proj 1 (q14.1.getD 0 .undef), proj 2 (q14.1.getD 0 .undef)]], q14.2)) (.error e) := by
    intro e he
    refine .err zeroTy thin_zero ?_
    have z2 := sp_r03_Same zeroTy thin_zero t.b
    simp [sp_k_scopedE hi he t.b hz.b (S ++ t.vars) hSl, sp_k_stuck a _ _ sg i hi he.ne, sp_k_stuck b _ _ sg i hi he.ne, Ty.eta, z2, sp_k_mustE hi he]
  cases htk : takes S t.vars
  · rw [htk] at wt
    simp only [Bool.false_eq_true, if_false, kw_zero] at wt ⊢
    have := stuck 6 e6
    simpa [wt, Ty.eta, sp_k_scopedE hi e6 t.a hz.a (S ++ t.vars) hSl, sp_r03_Two, Ty.mk_agg2, p1, p2, hkk, d0, d1, Tm.eta, n1, ea, n2] using this
  · rw [htk] at wt
    simp only [if_true] at wt ⊢
    have s1 := sp_k_scoped hi 0 t.a hz.a (S ++ t.vars) hSl
    have s2 := sp_k_scoped hi 0 t.b hz.b (S ++ t.vars) hSl
    by_cases ha : inS (S ++ t.vars) t.a = true
    · by_cases hb : inS (S ++ t.vars) t.b = true
      · rw [if_pos ha] at s1
        rw [if_pos hb] at s2
        rw [if_pos ⟨ha, hb⟩]
        rcases (IH a hm1).at ht hf hz hm1 hi nl hc (by simp; omega) (by simp; omega) with ⟨x, c1, rx, r1⟩ | ⟨e, z, c1, he, tz, r1⟩
        · rw [c1]
          simp only [Except.bind]
          have hs := sp_r03_Same x (Ty.thin_of_right rx) t.b
          have mu := sp_k_must hi 0 (decide (x = t.b))
          by_cases hxb : x = t.b
          · rw [if_pos hxb]
            have hd : decide (x = t.b) = true := by simp [hxb]
            rw [hd] at hs mu
            rw [if_pos rfl] at mu
            rcases (IH b hm2).at ht hf hz hm2 hi nl2 hSS (by simp; omega) (by omega) with ⟨y, c2, ry, r2⟩ | ⟨e, z, c2, he, tz, r2⟩
            · rw [c2]
              refine .ok ?_
              simp [wt, Ty.eta, s1, s2, sp_r03_Two, Ty.mk_agg2, p1, p2, hkk, d0, d1, Tm.eta, r1, hs, mu, n1, ea, n2, r2]
            · rw [c2]
              refine .err z tz ?_
              simp [wt, Ty.eta, s1, s2, sp_r03_Two, Ty.mk_agg2, p1, p2, hkk, d0, d1, Tm.eta, r1, hs, mu, n1, ea, n2, r2]
          · rw [if_neg hxb]
            have hd : decide (x = t.b) = false := by simp [hxb]
            rw [hd] at hs mu
            simp only [Bool.false_eq_true, if_false, kw_zero] at mu
            refine .err zeroTy thin_zero ?_
            simp [wt, Ty.eta, s1, s2, sp_r03_Two, Ty.mk_agg2, p1, p2, hkk, d0, d1, Tm.eta, r1, hs, mu, n1, ea, n2, sp_k_stuck b _ _ sg i hi e4.ne]
        · rw [c1]
          simp only [Except.bind]
          have hs := sp_r03_Same z tz t.b
          refine .err zeroTy thin_zero ?_
          simp [wt, Ty.eta, s1, s2, sp_r03_Two, Ty.mk_agg2, p1, p2, hkk, d0, d1, Tm.eta, r1, hs, sp_k_mustE hi he, n1, ea, n2, sp_k_stuck b _ _ sg i hi he.ne]
      · rw [if_pos ha] at s1
        rw [if_neg hb] at s2
        rw [if_neg (fun h => hb h.2)]
        simp only [kw_zero] at s2
        refine .err zeroTy thin_zero ?_
        have z2 := sp_r03_Same zeroTy thin_zero t.b
        simp [wt, Ty.eta, s1, s2, sp_r03_Two, Ty.mk_agg2, p1, p2, hkk, d0, d1, Tm.eta, z2, sp_k_mustE hi e6, n1, ea, n2, sp_k_stuck a _ _ sg i hi e6.ne, sp_k_stuck b _ _ sg i hi e6.ne]
    · rw [if_neg ha] at s1
      rw [if_neg (fun h => ha h.1)]
      simp only [kw_zero] at s1
      have := stuck 6 e6
      simpa [wt, Ty.eta, s1, sp_r03_Two, Ty.mk_agg2, p1, p2, hkk, d0, d1, Tm.eta, n1, ea, n2] using this

end Go.Su

/-
  What the reference's checker of terms gives: match, and all kinds together.
-/
namespace Go.Su
set_option linter.unusedVariables false
set_option linter.unusedSimpArgs false

theorem sp_k_match (t : Tm) (hk : t.kind = 14) (ht : t.right = true) (hf : t.fit) (hz : t.sized) (IH : ∀ k ∈ t.kids, KSpec k) (sg : List SObj) (i : Nat) (l : List Nm) (S S0 : List Int) (hi : i < sg.length) (hl : NmsOk l) (hSS : ∀ v, v ∈ S ↔ v ∈ S0) (hw : l.length + t.wide ≤ lim) (hS : S.length + t.mass ≤ lim) :
    KIs sg i ((run cfg).r F_r17_K_match [(.undef, .ptr i 0), (t.enc, .val), (encNms l, .val), (encInts S, .val)] (kSg sg i 0)) (ck t l S0) := by
  have own := Tm.right_own ht
  obtain ⟨k, ks, hkk, hlen⟩ := Tm.kidsM ht hk
  have hm1 : k ∈ t.kids := by rw [hkk]; simp
  have w1 := Tm.wide_kid hm1
  have hmm := Tm.mass_eq t
  have q1 := mem_sum (f := Tm.mass) hm1
  have hpl := hf.one.pats
  have hpb := big (Nat.le_of_lt hpl)
  have d0 : dIdx 20 (.list 20 (k.enc :: ks.map Tm.enc)) (.int .i64 0) = some k.enc := rfl
  refine KIs.mono (r := P_r17_K_match (run cfg) i t.enc (encNms l) (encInts S) (kSg sg i 0)) (fun v h => call_r17_K_match _ _ _ _ _ h) ?_
  rw [ck_match hk hkk, eq_r17_K_match]
  -- behind an error
  have stop : ∀ (j : Nat) (x f : Ty) (e : Int), ¬ e = 0 → P_r17_K_match_4h (run cfg) i (encNms l) (encInts S) (.int .i64 (j : Int)) t.enc (.int .i64 0) (.int .i64 0) (.list 3 []) x.enc (.int .i64 f.kind) (.int .i64 f.n) (.list 3 (f.kids.map Ty.enc)) (kSg sg i e) = some ([f.enc], kSg sg i e) := by
    intro j x f e he
    rw [eq_r17_K_match_4h]
    by_cases h : j < t.pats.length <;> simp [h, kSg_box hi, cd1, he, Ty.eta]
  have zk : zeroTy.kind = 0 := rfl
  have zn : zeroTy.n = 0 := rfl
  have zs : zeroTy.kids.map Ty.enc = [] := rfl
  rcases (IH k hm1).at ht hf hz hm1 hi hl hSS (by omega) (by omega) with ⟨y, c1, ry, r1⟩ | ⟨e, z, c1, he, tz, r1⟩
  · rw [c1]
    simp only [Except.bind]
    have loop : ∀ (n j : Nat) (out : Option Ty), j + n = t.pats.length → (out = none ↔ j = 0) → (∀ o, out = some o → o.right = true) →
        KIs sg i (P_r17_K_match_4h (run cfg) i (encNms l) (encInts S) (.int .i64 (j : Int)) t.enc (.int .i64 0) (.int .i64 0) (.list 3 []) y.enc (.int .i64 (out.getD zeroTy).kind) (.int .i64 (out.getD zeroTy).n) (.list 3 ((out.getD zeroTy).kids.map Ty.enc)) (kSg sg i 0)) (ckArms y l S0 ((t.pats.zip (ks.map ck)).drop j) out) := by
      intro n
      induction n with
      | zero =>
        intro j out hj ho hor
        have : ¬ j < t.pats.length := by omega
        rw [List.drop_of_length_le (by rw [List.length_zip, List.length_map]; omega), eq_r17_K_match_4h]
        refine .ok ?_
        simp [this, Ty.eta]
      | succ n ihn =>
        intro j out hj ho hor
        have h : j < t.pats.length := by omega
        have hj' : j < ks.length := by omega
        have hzl : j < (t.pats.zip (ks.map ck)).length := by rw [List.length_zip, List.length_map]; omega
        have hzz : (t.pats.zip (ks.map ck))[j] = (t.pats[j], ck ks[j]) := by simp
        have hmp : t.pats[j] ∈ t.pats := List.getElem_mem h
        have hfp := hf.one.pat _ hmp
        have hps := mem_sum (f := Pat.size) hmp
        have hmk : ks[j] ∈ t.kids := by rw [hkk]; exact List.mem_cons_of_mem _ (List.getElem_mem hj')
        have wk := Tm.wide_kid hmk
        have qk := mem_sum (f := Tm.mass) hmk
        have hF := sp_r16_Fits t.pats[j] (Pat.right_pat (own.pats _ hmp)) y (kSg sg i 0) [] ry (by have := hfp.size; simpa using this)
        have e0 : encEnts [] = .list 4 [] := rfl
        rw [List.drop_eq_getElem_cons hzl, hzz]
        simp only [ckArms]
        have tF : (out.getD zeroTy).thin = true := by
          cases out with
          | none => exact thin_zero
          | some o => exact Ty.thin_of_right (hor o rfl)
        -- the names
        have l10 : ∀ (b : List (ByteArray × Ty)) (e : Int), b.length ≤ t.pats[j].size → P_r17_K_match_10h (run cfg) i (encNms l) (encInts S) (.int .i64 (j : Int)) (encEnts b) (encNms l) (.int .i64 0) t.enc (.int .i64 0) (.int .i64 0) (.list 3 []) y.enc (.int .i64 (out.getD zeroTy).kind) (.int .i64 (out.getD zeroTy).n) (.list 3 ((out.getD zeroTy).kids.map Ty.enc)) (kSg sg i e) =
            P_r17_K_match_10h (run cfg) i (encNms l) (encInts S) (.int .i64 (j : Int)) (encEnts b) (encNms (l ++ b.map nmOfE)) (.int .i64 b.length) t.enc (.int .i64 0) (.int .i64 0) (.list 3 []) y.enc (.int .i64 (out.getD zeroTy).kind) (.int .i64 (out.getD zeroTy).n) (.list 3 ((out.getD zeroTy).kids.map Ty.enc)) (kSg sg i e) := by
          intro b e hbl
          have hbb : b.length < 4294967297 := big (by omega)
          have l13 := loop_fold (l := b) (P := fun q (a : List Nm) => P_r17_K_match_10h (run cfg) i (encNms l) (encInts S) (.int .i64 (j : Int)) (encEnts b) (encNms a) (.int .i64 q) t.enc (.int .i64 0) (.int .i64 0) (.list 3 []) y.enc (.int .i64 (out.getD zeroTy).kind) (.int .i64 (out.getD zeroTy).n) (.list 3 ((out.getD zeroTy).kids.map Ty.enc)) (kSg sg i e))
            (g := fun a x => a ++ [nmOfE x]) (fin := fun a => P_r17_K_match_10h (run cfg) i (encNms l) (encInts S) (.int .i64 (j : Int)) (encEnts b) (encNms a) (.int .i64 b.length) t.enc (.int .i64 0) (.int .i64 0) (.list 3 []) y.enc (.int .i64 (out.getD zeroTy).kind) (.int .i64 (out.getD zeroTy).n) (.list 3 ((out.getD zeroTy).kids.map Ty.enc)) (kSg sg i e))
            (I := fun q a => a.length = l.length + q) (fun a _ => rfl)
            (fun q hq a ha => by
              refine ⟨?_, by simp [ha]; omega⟩
              rw [eq_r17_K_match_10h]
              have hap : dApp 5 (encNms a) (.list 5 [.agg [.str b[q].1, .int .i64 b[q].2.kind, .int .i64 b[q].2.n, .list 3 (b[q].2.kids.map Ty.enc), .list 1 []]]) = some (encNms (a ++ [nmOfE b[q]])) := dApp_map (e := Nm.enc) (sz := 5) (l := a) (x := nmOfE b[q]) (by omega)
              have e1 : dIdx 4 (encEnts b) (.int .i64 (q : Int)) = some (encEnt b[q]) := dIdx_map hq
              simp [hq, e1, hap, dAdd1 (show q < 9223372036854775807 by omega)]) l rfl
          have hfold : ∀ (m : List (ByteArray × Ty)) (a : List Nm), m.foldl (fun a e => a ++ [nmOfE e]) a = a ++ m.map nmOfE := by
            intro m
            induction m with
            | nil => intro a; simp
            | cons x m ih => intro a; simp [ih]
          rw [hfold] at l13
          exact l13
        have dj : dIdx 20 (.list 20 (t.kids.map Tm.enc)) (.int .i64 ((j + 1 : Nat) : Int)) = some ks[j].enc := by
          have hx : j + 1 < t.kids.length := by rw [hkk]; simp; omega
          rw [dIdx_map hx]
          congr 2
          simp [hkk]
        have ha1 := dAdd1 (show j < 9223372036854775807 by omega)
        -- behind the kid
        have fin : ∀ (b : List (ByteArray × Ty)) (e e' : Int) (z : Ty), z.thin = true → (run cfg).r F_r17_K_typ [(.undef, .ptr i 0), (ks[j].enc, .val), (encNms (l ++ b.map nmOfE), .val), (encInts S, .val)] (kSg sg i e) = some ([z.enc], kSg sg i e') →
            P_r17_K_match_10h (run cfg) i (encNms l) (encInts S) (.int .i64 (j : Int)) (encEnts b) (encNms (l ++ b.map nmOfE)) (.int .i64 b.length) t.enc (.int .i64 0) (.int .i64 0) (.list 3 []) y.enc (.int .i64 (out.getD zeroTy).kind) (.int .i64 (out.getD zeroTy).n) (.list 3 ((out.getD zeroTy).kids.map Ty.enc)) (kSg sg i e) =
            if j = 0 then P_r17_K_match_4h (run cfg) i (encNms l) (encInts S) (.int .i64 ((j + 1 : Nat) : Int)) t.enc (.int .i64 0) (.int .i64 0) (.list 3 []) y.enc (.int .i64 z.kind) (.int .i64 z.n) (.list 3 (z.kids.map Ty.enc)) (kSg sg i e')
            else P_r17_K_match_4h (run cfg) i (encNms l) (encInts S) (.int .i64 ((j + 1 : Nat) : Int)) t.enc (.int .i64 0) (.int .i64 0) (.list 3 []) y.enc (.int .i64 (out.getD zeroTy).kind) (.int .i64 (out.getD zeroTy).n) (.list 3 ((out.getD zeroTy).kids.map Ty.enc)) (kSg sg i (if z = out.getD zeroTy then e' else kw e' 4)) := by
          intro b e e' z tz hr
          rw [eq_r17_K_match_10h]
          have s1 := sp_r03_Same z tz z
          have s2 := sp_r03_Same z tz (out.getD zeroTy)
          have m1 := sp_k_must hi e' (decide (z = z))
          have m2 := sp_k_must hi e' (decide (z = out.getD zeroTy))
          simp only [decide_true, if_true] at m1
          simp only [decide_eq_true_eq] at m2
          by_cases hj0 : j = 0
          · rw [if_pos hj0]
            have hj1 : decide ((j : Int) = 0) = true := by simp [hj0]
            simp only [dLen_encEnts, dBin_lss, Int.lt_irrefl, decide_false, ob_some', oif_bool, Bool.false_eq_true, if_false, ha1, Tm.proj0, Tm.proj1, Tm.proj2, Tm.proj3, Tm.proj4, Tm.proj5, Tm.proj6, Tm.proj7, Tm.proj8, Tm.proj9, Tm.proj10, Tm.proj11, Tm.proj12, Tm.proj13, Tm.proj14, Tm.proj15, Tm.proj16, Tm.proj17, Tm.proj18, Tm.proj19, Tm.eta, dj, hr, List.getD_cons_zero, isAggN_Ty, og_true', dBin_eql, hj1, if_true, Ty.proj0, Ty.proj1, Ty.proj2, Ty.eta, s1, decide_true, m1]
          · rw [if_neg hj0]
            have hj1 : decide ((j : Int) = 0) = false := by simp [hj0]
            simp only [dLen_encEnts, dBin_lss, Int.lt_irrefl, decide_false, ob_some', oif_bool, Bool.false_eq_true, if_false, ha1, Tm.proj0, Tm.proj1, Tm.proj2, Tm.proj3, Tm.proj4, Tm.proj5, Tm.proj6, Tm.proj7, Tm.proj8, Tm.proj9, Tm.proj10, Tm.proj11, Tm.proj12, Tm.proj13, Tm.proj14, Tm.proj15, Tm.proj16, Tm.proj17, Tm.proj18, Tm.proj19, Tm.eta, dj, hr, List.getD_cons_zero, isAggN_Ty, og_true', dBin_eql, hj1, Ty.proj0, Ty.proj1, Ty.proj2, Ty.eta, s2, m2]
        have head : ∀ (b : List (ByteArray × Ty)) (c : Bool), (run cfg).r F_r16_Fits [(t.pats[j].enc, .val), (y.enc, .val), (.list 4 [], .own)] (kSg sg i 0) = some ([encEnts b, .bool c], kSg sg i 0) → b.length ≤ t.pats[j].size →
            P_r17_K_match_4h (run cfg) i (encNms l) (encInts S) (.int .i64 (j : Int)) t.enc (.int .i64 0) (.int .i64 0) (.list 3 []) y.enc (.int .i64 (out.getD zeroTy).kind) (.int .i64 (out.getD zeroTy).n) (.list 3 ((out.getD zeroTy).kids.map Ty.enc)) (kSg sg i 0) =
            P_r17_K_match_10h (run cfg) i (encNms l) (encInts S) (.int .i64 (j : Int)) (encEnts b) (encNms (l ++ b.map nmOfE)) (.int .i64 b.length) t.enc (.int .i64 0) (.int .i64 0) (.list 3 []) y.enc (.int .i64 (out.getD zeroTy).kind) (.int .i64 (out.getD zeroTy).n) (.list 3 ((out.getD zeroTy).kids.map Ty.enc)) (kSg sg i (if c = true then 0 else 4)) := by
          intro b c hb hbl
          rw [eq_r17_K_match_4h]
          have m1 := sp_k_must hi 0 c
          rw [kw_zero] at m1
          simp only [Tm.proj18, dLen_list, List.length_map, dBin_lss, Int.ofNat_lt, h, decide_true, ob_some', ogd_bool, oif_bool, if_true, kSg_box hi, cd1, dBin_eql, dIdx_map h, Pat.proj0, Pat.proj1, Pat.proj2, Pat.proj3, Pat.proj4, Pat.proj5, Pat.proj6, Pat.eta, Ty.proj0, Ty.proj1, Ty.proj2, Ty.eta, hb, dExt0, dExt1, m1, dApp_nil (show l.length ≤ lim by omega)]
          exact l10 b _ hbl
        cases hb : t.pats[j].binds y with
        | none =>
          rw [hb] at hF
          obtain ⟨b, hbl, hF⟩ := hF
          rw [head b false hF hbl]
          simp only [Bool.false_eq_true, if_false]
          rw [fin b 4 4 zeroTy thin_zero (sp_k_stuck _ _ _ sg i hi e4.ne)]
          by_cases hj0 : j = 0
          · rw [if_pos hj0]
            exact .err zeroTy thin_zero (stop _ y zeroTy 4 e4.ne)
          · rw [if_neg hj0, e4.kw, ite_self]
            exact .err _ tF (stop _ y _ 4 e4.ne)
        | some b =>
          rw [hb] at hF
          simp only [FitsIs, List.nil_append] at hF
          have hbl := Pat.binds_len _ _ _ hb
          have nb : NmsOk (l ++ b.map nmOfE) := hl.app (NmsOk.ents (Pat.binds_right _ _ _ ry hb))
          dsimp only
          rw [head b true hF hbl]
          simp only [if_true]
          rcases (IH _ hmk).at ht hf hz hmk hi nb hSS (by simp; omega) (by omega) with ⟨a, c2, ra, r2⟩ | ⟨e, z, c2, he, tz, r2⟩
          · rw [fin b 0 0 a (Ty.thin_of_right ra) r2, c2]
            simp only [Except.bind]
            cases out with
            | none =>
              have hj0 : j = 0 := ho.1 rfl
              rw [if_pos hj0]
              exact ihn (j + 1) (some a) (by omega) (by simp) (fun o h => by cases h; exact ra)
            | some o =>
              have hj0 : ¬ j = 0 := fun h => by have := ho.2 h; cases this
              rw [if_neg hj0]
              simp only [Option.getD_some]
              by_cases hao : a = o
              · rw [if_pos hao, if_pos hao]
                exact ihn (j + 1) (some o) (by omega) (by simp) hor
              · rw [if_neg hao, if_neg hao, kw_zero]
                exact .err o (Ty.thin_of_right (hor o rfl)) (stop _ y o 4 e4.ne)
          · rw [fin b 0 e z tz r2, c2]
            simp only [Except.bind]
            by_cases hj0 : j = 0
            · rw [if_pos hj0]
              exact .err z tz (stop _ y z e he.ne)
            · rw [if_neg hj0, he.kw, ite_self]
              exact .err _ tF (stop _ y _ e he.ne)
    have l0 := loop t.pats.length 0 none (by omega) (by simp) (fun o h => by cases h)
    simp only [Option.getD_none, zk, zn, zs, Int.natCast_zero, Int.ofNat_zero, Int.cast_ofNat_Int, List.drop_zero] at l0
    simpa [hkk, d0, Tm.eta, r1] using l0
  · rw [c1]
    simp only [Except.bind]
    refine .err zeroTy thin_zero ?_
    have := stop 0 z zeroTy e he.ne
    simp only [zk, zn, zs, Int.natCast_zero, Int.ofNat_zero, Int.cast_ofNat_Int] at this
    simp [hkk, d0, Tm.eta, r1, this]

theorem ck_two {t a b : Tm} (hk : t.kind = 6 ∨ t.kind = 8 ∨ t.kind = 10 ∨ t.kind = 13 ∨ t.kind = 15 ∨ t.kind = 16) (hkk : t.kids = [a, b]) (l : List Nm) (S : List Int) : ck t l S = (ck a l S).bind fun x => (ck b l S).bind fun y => ckOf t S [x, y] := by
  rw [ck_rest hk, hkk]
  simp only [List.map_cons, List.map_nil, ckKids]
  cases ck a l S <;> cases ck b l S <;> rfl
theorem ck_three {t a b c : Tm} (hk : t.kind = 6 ∨ t.kind = 8 ∨ t.kind = 10 ∨ t.kind = 13 ∨ t.kind = 15 ∨ t.kind = 16) (hkk : t.kids = [a, b, c]) (l : List Nm) (S : List Int) : ck t l S = (ck a l S).bind fun x => (ck b l S).bind fun y => (ck c l S).bind fun z => ckOf t S [x, y, z] := by
  rw [ck_rest hk, hkk]
  simp only [List.map_cons, List.map_nil, ckKids]
  cases ck a l S <;> cases ck b l S <;> cases ck c l S <;> rfl
theorem ck_one {t a : Tm} (hk : t.kind = 6 ∨ t.kind = 8 ∨ t.kind = 10 ∨ t.kind = 13 ∨ t.kind = 15 ∨ t.kind = 16) (hkk : t.kids = [a]) (l : List Nm) (S : List Int) : ck t l S = (ck a l S).bind fun x => ckOf t S [x] := by
  rw [ck_rest hk, hkk]
  simp only [List.map_cons, List.map_nil, ckKids]
  cases ck a l S <;> rfl

theorem sp_k_typ (t : Tm) : KSpec t := by
  induction t using Tm.ind with
  | h t ih =>
    intro ht hf hz sg i l S S0 hi hl hSS hw hS
    have own := Tm.right_own ht
    have hvl := Nat.le_of_lt hf.one.vars
    have hmm := Tm.mass_eq t
    have hSl : S.length ≤ lim := by omega
    have hw2 : 2 ≤ t.wide := by rw [Tm.wide_eq]; omega
    refine KIs.mono (r := P_r17_K_typ (run cfg) i t.enc (encNms l) (encInts S) (kSg sg i 0)) (fun v h => call_r17_K_typ _ _ _ _ _ h) ?_
    have leaf : ∀ c : Int, t.kind = c → 2 ≤ c → c ≤ 5 → KIs sg i (P_r17_K_typ (run cfg) i t.enc (encNms l) (encInts S) (kSg sg i 0)) (ck t l S0) := by
      intro c hk h2 h5
      rw [ck_leaf (by omega), eq_r17_K_typ, eq_r17_K_typ_10]
      refine .ok ?_
      have a1 : dBin .sub (.int .i64 t.kind) (.int .i64 2) = some (.int .i64 (t.kind - 2)) := by rw [dBin_sub, wrap_id (by omega) (by omega)]
      have a2 : dBin .add (.int .i64 (t.kind - 2)) (.int .i64 1) = some (.int .i64 (t.kind - 1)) := by rw [dAdd (by omega) (by omega)]; congr 2; omega
      simp only [isAggN_Tm, og_true', kSg_box hi, cd1, dBin_neq, decide_true, Bool.not_true, Bool.false_eq_true, if_false, Tm.proj0, dBin_eql, ob_some', oif_bool, decide_eq_true_eq, a1, a2, sp_r03_Leaf, isAggN_Ty, Ty.proj0, Ty.proj1, Ty.proj2, Ty.eta]
      rw [if_neg (by omega)]
      by_cases e2 : t.kind = 2
      · rw [if_pos e2]
      rw [if_neg e2]
      by_cases e3 : t.kind = 3
      · rw [if_pos e3]
      rw [if_neg e3]
      by_cases e4 : t.kind = 4
      · rw [if_pos e4]
      rw [if_neg e4, if_pos (by omega)]
    have enc_k : ∀ c : Int, t.kind = c → DV.agg [.int .i64 c, .int .i64 t.lo, .int .i64 t.hi, .str t.name, .str t.arg, .int .i64 t.n, .str t.s, .int .i64 t.op, .int .i64 t.label, .bool t.neg, encInts t.vars, .int .i64 t.a.kind, .int .i64 t.a.n, .list 3 (t.a.kids.map Ty.enc), .int .i64 t.b.kind, .int .i64 t.b.n, .list 3 (t.b.kids.map Ty.enc), .list 3 (t.args.map Ty.enc), .list 7 (t.pats.map Pat.enc), .list 20 (t.kids.map Tm.enc)] = t.enc := by
      intro c hc
      rw [Tm.enc_eq, hc]
    rcases Tm.kinds ht with hk | hk | hk | hk | hk | hk | hk | hk | hk | hk | hk | hk | hk
    · -- a name
      have := sp_k_name t hk ht hf hz sg i l S S0 hi hl hSS (by omega) hSl
      rw [eq_r17_K_typ]
      cases hc : ck t l S0 with
      | ok y =>
        rw [hc] at this; simp only [KIs] at this
        refine .ok ?_
        simp [kSg_box hi, cd1, hk, enc_k 1 hk, this, Ty.eta]
      | error e =>
        rw [hc] at this; obtain ⟨z, h1, h2⟩ := this
        refine .err z h1 ?_
        simp [kSg_box hi, cd1, hk, enc_k 1 hk, h2, Ty.eta]
    · rcases hk with hk | hk | hk | hk
      · exact leaf 2 hk (by omega) (by omega)
      · exact leaf 3 hk (by omega) (by omega)
      · exact leaf 4 hk (by omega) (by omega)
      · exact leaf 5 hk (by omega) (by omega)
    · -- a pair
      obtain ⟨a, b, hkk⟩ := Tm.kids2 ht (by omega)
      have hm1 : a ∈ t.kids := by rw [hkk]; simp
      have hm2 : b ∈ t.kids := by rw [hkk]; simp
      have w1 := Tm.wide_kid hm1
      have w2 := Tm.wide_kid hm2
      have q1 := mem_sum (f := Tm.mass) hm1
      have q2 := mem_sum (f := Tm.mass) hm2
      have d0 : dIdx 20 (.list 20 [a.enc, b.enc]) (.int .i64 0) = some a.enc := rfl
      have d1 : dIdx 20 (.list 20 [a.enc, b.enc]) (.int .i64 1) = some b.enc := rfl
      rw [ck_two (by omega) hkk, eq_r17_K_typ]
      rcases (ih a hm1).at ht hf hz hm1 hi hl hSS (by omega) (by omega) with ⟨x, c1, rx, r1⟩ | ⟨e, z, c1, he, tz, r1⟩
      · rw [c1]
        simp only [Except.bind]
        rcases (ih b hm2).at ht hf hz hm2 hi hl hSS (by omega) (by omega) with ⟨y, c2, ry, r2⟩ | ⟨e, z, c2, he, tz, r2⟩
        · rw [c2]
          have : ckOf t S0 [x, y] = .ok (.mk 7 0 [x, y]) := by unfold ckOf; simp [hk]
          simp only [this]
          refine .ok ?_
          simp [kSg_box hi, cd1, hk, hkk, d0, d1, Tm.eta, r1, Ty.eta, r2, sp_r03_Two, Ty.mk_agg2]
        · rw [c2]
          refine .err (.mk 7 0 [x, z]) (thin2 (Ty.thin_of_right rx) tz) ?_
          simp [kSg_box hi, cd1, hk, hkk, d0, d1, Tm.eta, r1, Ty.eta, r2, sp_r03_Two, Ty.mk_agg2]
      · rw [c1]
        simp only [Except.bind]
        refine .err (.mk 7 0 [z, zeroTy]) (thin2 tz thin_zero) ?_
        simp [kSg_box hi, cd1, hk, hkk, d0, d1, Tm.eta, r1, Ty.eta, sp_k_stuck b _ _ sg i hi he.ne, sp_r03_Two, Ty.mk_agg2]
    · -- nil
      have ra := own.a (by rw [hk]; rfl)
      have s1 := sp_k_scoped hi 0 t.a hz.a S hSl
      rw [ck_nil hk, eq_r17_K_typ, ← inS_congr hSS]
      by_cases ha : inS S t.a = true
      · rw [if_pos ha] at s1 ⊢
        refine .ok ?_
        simp [kSg_box hi, cd1, hk, Ty.eta, s1, sp_r03_List, Ty.mk_agg1]
      · rw [if_neg ha] at s1 ⊢
        rw [kw_zero] at s1
        refine .err (.mk 8 0 [t.a]) (thin1 hf.one.a) ?_
        simp [kSg_box hi, cd1, hk, Ty.eta, s1, sp_r03_List, Ty.mk_agg1]
    · -- cons
      obtain ⟨a, b, hkk⟩ := Tm.kids2 ht (by omega)
      have hm1 : a ∈ t.kids := by rw [hkk]; simp
      have hm2 : b ∈ t.kids := by rw [hkk]; simp
      have w1 := Tm.wide_kid hm1
      have w2 := Tm.wide_kid hm2
      have q1 := mem_sum (f := Tm.mass) hm1
      have q2 := mem_sum (f := Tm.mass) hm2
      have d0 : dIdx 20 (.list 20 [a.enc, b.enc]) (.int .i64 0) = some a.enc := rfl
      have d1 : dIdx 20 (.list 20 [a.enc, b.enc]) (.int .i64 1) = some b.enc := rfl
      rw [ck_two (by omega) hkk, eq_r17_K_typ]
      rcases (ih a hm1).at ht hf hz hm1 hi hl hSS (by omega) (by omega) with ⟨x, c1, rx, r1⟩ | ⟨e, z, c1, he, tz, r1⟩
      · rw [c1]
        simp only [Except.bind]
        rcases (ih b hm2).at ht hf hz hm2 hi hl hSS (by omega) (by omega) with ⟨y, c2, ry, r2⟩ | ⟨e, z, c2, he, tz, r2⟩
        · rw [c2]
          have hs := sp_r03_Same y (Ty.thin_of_right ry) (.mk 8 0 [x])
          have mu := sp_k_must hi 0 (decide (y = .mk 8 0 [x]))
          have hof : ckOf t S0 [x, y] = if y = .mk 8 0 [x] then .ok y else .error 4 := by
            simp only [mk_list_iff ry]
            unfold ckOf; simp [hk]
          simp only [hof]
          by_cases hy : y = .mk 8 0 [x]
          · rw [if_pos hy]
            simp only [hy, decide_true, if_true] at hs mu
            rw [hy] at r2
            refine .ok ?_
            simp [kSg_box hi, cd1, hk, hkk, d0, d1, Tm.eta, r1, Ty.eta, r2, sp_r03_List, Ty.mk_agg1, hs, mu, hy]
          · rw [if_neg hy]
            simp only [hy, decide_false, Bool.false_eq_true, if_false, kw_zero] at hs mu
            refine .err (.mk 8 0 [x]) (thin1 (Ty.thin_of_right rx)) ?_
            simp [kSg_box hi, cd1, hk, hkk, d0, d1, Tm.eta, r1, Ty.eta, r2, sp_r03_List, Ty.mk_agg1, hs, mu]
        · rw [c2]
          have hs := sp_r03_Same z tz (.mk 8 0 [x])
          refine .err (.mk 8 0 [x]) (thin1 (Ty.thin_of_right rx)) ?_
          simp [kSg_box hi, cd1, hk, hkk, d0, d1, Tm.eta, r1, Ty.eta, r2, sp_r03_List, Ty.mk_agg1, hs, sp_k_mustE hi he]
      · rw [c1]
        simp only [Except.bind]
        have hs := sp_r03_Same zeroTy thin_zero (.mk 8 0 [z])
        refine .err (.mk 8 0 [z]) (thin1 tz) ?_
        simp [kSg_box hi, cd1, hk, hkk, d0, d1, Tm.eta, r1, Ty.eta, sp_k_stuck b _ _ sg i hi he.ne, sp_r03_List, Ty.mk_agg1, hs, sp_k_mustE hi he]
    · -- fun
      obtain ⟨a, hkk⟩ := Tm.kids1 ht (.inl hk)
      have hm1 : a ∈ t.kids := by rw [hkk]; simp
      have w1 := Tm.wide_kid hm1
      have q1 := mem_sum (f := Tm.mass) hm1
      have ra := own.a (by rw [hk]; rfl)
      have d0 : dIdx 20 (.list 20 [a.enc]) (.int .i64 0) = some a.enc := rfl
      have s1 := sp_k_scoped hi 0 t.a hz.a S hSl
      have p1 := sp_plain l t.name t.a (by omega)
      have nl : NmsOk (l ++ [⟨t.name, t.a, []⟩]) := hl.app (.one (Nm.ok_nil ra))
      rw [ck_fun hk hkk, eq_r17_K_typ, ← inS_congr hSS]
      by_cases ha : inS S t.a = true
      · rw [if_pos ha] at s1 ⊢
        rcases (ih a hm1).at ht hf hz hm1 hi nl hSS (by simp; omega) (by omega) with ⟨x, c1, rx, r1⟩ | ⟨e, z, c1, he, tz, r1⟩
        · rw [c1]
          refine .ok ?_
          simp [kSg_box hi, cd1, hk, hkk, d0, Tm.eta, r1, Ty.eta, s1, p1, sp_r03_Two, Ty.mk_agg2]
        · rw [c1]
          refine .err (.mk 9 0 [t.a, z]) (thin2 hf.one.a tz) ?_
          simp [kSg_box hi, cd1, hk, hkk, d0, Tm.eta, r1, Ty.eta, s1, p1, sp_r03_Two, Ty.mk_agg2]
      · rw [if_neg ha] at s1 ⊢
        rw [kw_zero] at s1
        refine .err (.mk 9 0 [t.a, zeroTy]) (thin2 hf.one.a thin_zero) ?_
        simp [kSg_box hi, cd1, hk, hkk, d0, Tm.eta, Ty.eta, s1, p1, sp_k_stuck a _ _ sg i hi e6.ne, sp_r03_Two, Ty.mk_agg2]
    · -- app
      obtain ⟨a, b, hkk⟩ := Tm.kids2 ht (by omega)
      have hm1 : a ∈ t.kids := by rw [hkk]; simp
      have hm2 : b ∈ t.kids := by rw [hkk]; simp
      have w1 := Tm.wide_kid hm1
      have w2 := Tm.wide_kid hm2
      have q1 := mem_sum (f := Tm.mass) hm1
      have q2 := mem_sum (f := Tm.mass) hm2
      have d0 : dIdx 20 (.list 20 [a.enc, b.enc]) (.int .i64 0) = some a.enc := rfl
      have d1 : dIdx 20 (.list 20 [a.enc, b.enc]) (.int .i64 1) = some b.enc := rfl
      have wr := fun e => sp_k_wrong hi e 4
      rw [ck_two (by omega) hkk, eq_r17_K_typ, eq_r17_K_typ_24]
      rcases (ih a hm1).at ht hf hz hm1 hi hl hSS (by omega) (by omega) with ⟨x, c1, rx, r1⟩ | ⟨e, z, c1, he, tz, r1⟩
      · rw [c1]
        simp only [Except.bind]
        rcases (ih b hm2).at ht hf hz hm2 hi hl hSS (by omega) (by omega) with ⟨y, c2, ry, r2⟩ | ⟨e, z, c2, he, tz, r2⟩
        · rw [c2]
          by_cases hx : x.kind = 9
          · obtain ⟨u, v, hu⟩ := two_arity rx (.inr hx)
            have ru := Ty.right_kid rx (k := u) (by rw [hu]; simp)
            have hs := sp_r03_Same u (Ty.thin_of_right ru) y
            have e0 : dIdx 3 (.list 3 [u.enc, v.enc]) (.int .i64 0) = some u.enc := rfl
            have e1 : dIdx 3 (.list 3 [u.enc, v.enc]) (.int .i64 1) = some v.enc := rfl
            have hof : ckOf t S0 [x, y] = if u = y then .ok v else .error 4 := by unfold ckOf; simp [hk, hx, hu]
            simp only [hof]
            by_cases huy : u = y
            · rw [if_pos huy]
              subst huy
              simp only [decide_true] at hs
              refine .ok ?_
              simp [kSg_box hi, cd1, hk, hkk, d0, d1, Tm.eta, r1, Ty.eta, r2, hx, hu, e0, e1, hs]
            · rw [if_neg huy]
              simp only [huy, decide_false] at hs
              refine .err zeroTy thin_zero ?_
              simp [kSg_box hi, cd1, hk, hkk, d0, d1, Tm.eta, r1, Ty.eta, r2, hx, hu, e0, e1, hs, wr, kw_zero, zero_agg]
          · have hof : ckOf t S0 [x, y] = .error 4 := by unfold ckOf; simp [hk, hx]
            simp only [hof]
            refine .err zeroTy thin_zero ?_
            simp [kSg_box hi, cd1, hk, hkk, d0, d1, Tm.eta, r1, Ty.eta, r2, hx, wr, kw_zero, zero_agg]
        · rw [c2]
          refine .err zeroTy thin_zero ?_
          simp [kSg_box hi, cd1, hk, hkk, d0, d1, Tm.eta, r1, Ty.eta, r2, he.ne, wr, he.kw, zero_agg]
      · rw [c1]
        simp only [Except.bind]
        refine .err zeroTy thin_zero ?_
        simp [kSg_box hi, cd1, hk, hkk, d0, d1, Tm.eta, r1, Ty.eta, sp_k_stuck b _ _ sg i hi he.ne, he.ne, wr, he.kw, zero_agg]
    · -- let
      obtain ⟨a, b, hkk⟩ := Tm.kids2 ht (by omega)
      have hm1 : a ∈ t.kids := by rw [hkk]; simp
      have hm2 : b ∈ t.kids := by rw [hkk]; simp
      have w1 := Tm.wide_kid hm1
      have w2 := Tm.wide_kid hm2
      have q1 := mem_sum (f := Tm.mass) hm1
      have q2 := mem_sum (f := Tm.mass) hm2
      have d0 : dIdx 20 (.list 20 [a.enc, b.enc]) (.int .i64 0) = some a.enc := rfl
      have d1 : dIdx 20 (.list 20 [a.enc, b.enc]) (.int .i64 1) = some b.enc := rfl
      have wt := sp_k_with hi 0 S t.vars (by omega)
      have n1 := dApp_nil (l := l) (by omega)
      have n2 := fun z : Ty => dApp_nm (l := l) ⟨t.name, z, t.vars⟩ (by omega)
      have ea := fun z : Ty => Nm.agg t.name z t.vars
      have hc := mem_app_comm (vs := t.vars) hSS
      rw [ck_let hk hkk, eq_r17_K_typ, eq_r17_K_typ_24, eq_r17_K_typ_30, ← takes_congr hSS]
      by_cases htk : takes S t.vars = true
      · rw [if_pos htk] at wt ⊢
        rcases (ih a hm1).at ht hf hz hm1 hi hl hc (by omega) (by simp; omega) with ⟨x, c1, rx, r1⟩ | ⟨e, z, c1, he, tz, r1⟩
        · rw [c1]
          simp only [Except.bind]
          rcases (ih b hm2).at ht hf hz hm2 hi (hl.app (.one ⟨rx, hvl, own.vars⟩) : NmsOk (l ++ [⟨t.name, x, t.vars⟩])) hSS (by simp; omega) (by omega) with ⟨y, c2, ry, r2⟩ | ⟨e, z, c2, he, tz, r2⟩
          · rw [c2]
            refine .ok ?_
            simp [kSg_box hi, cd1, hk, hkk, d0, d1, Tm.eta, wt, r1, Ty.eta, n1, ea, n2, r2]
          · rw [c2]
            refine .err z tz ?_
            simp [kSg_box hi, cd1, hk, hkk, d0, d1, Tm.eta, wt, r1, Ty.eta, n1, ea, n2, r2]
        · rw [c1]
          simp only [Except.bind]
          refine .err zeroTy thin_zero ?_
          simp [kSg_box hi, cd1, hk, hkk, d0, d1, Tm.eta, wt, r1, Ty.eta, n1, ea, n2, sp_k_stuck b _ _ sg i hi he.ne]
      · rw [if_neg htk] at wt ⊢
        rw [kw_zero] at wt
        refine .err zeroTy thin_zero ?_
        simp [kSg_box hi, cd1, hk, hkk, d0, d1, Tm.eta, wt, Ty.eta, n1, ea, n2, sp_k_stuck a _ _ sg i hi e6.ne, sp_k_stuck b _ _ sg i hi e6.ne]
    · -- rec
      have := sp_k_rec t hk ht hf hz ih sg i l S S0 hi hl hSS hw hS
      rw [eq_r17_K_typ, eq_r17_K_typ_24, eq_r17_K_typ_30]
      cases hc : ck t l S0 with
      | ok y =>
        rw [hc] at this; simp only [KIs] at this
        refine .ok ?_
        simp [kSg_box hi, cd1, hk, enc_k 12 hk, this, Ty.eta]
      | error e =>
        rw [hc] at this; obtain ⟨z, h1, h2⟩ := this
        refine .err z h1 ?_
        simp [kSg_box hi, cd1, hk, enc_k 12 hk, h2, Ty.eta]
    · -- if
      obtain ⟨a, b, c, hkk⟩ := Tm.kids3 ht hk
      have hm1 : a ∈ t.kids := by rw [hkk]; simp
      have hm2 : b ∈ t.kids := by rw [hkk]; simp
      have hm3 : c ∈ t.kids := by rw [hkk]; simp
      have w1 := Tm.wide_kid hm1
      have w2 := Tm.wide_kid hm2
      have w3 := Tm.wide_kid hm3
      have q1 := mem_sum (f := Tm.mass) hm1
      have q2 := mem_sum (f := Tm.mass) hm2
      have q3 := mem_sum (f := Tm.mass) hm3
      have d0 : dIdx 20 (.list 20 [a.enc, b.enc, c.enc]) (.int .i64 0) = some a.enc := rfl
      have d1 : dIdx 20 (.list 20 [a.enc, b.enc, c.enc]) (.int .i64 1) = some b.enc := rfl
      have d2 : dIdx 20 (.list 20 [a.enc, b.enc, c.enc]) (.int .i64 2) = some c.enc := rfl
      rw [ck_three (by omega) hkk, eq_r17_K_typ, eq_r17_K_typ_24, eq_r17_K_typ_30]
      rcases (ih a hm1).at ht hf hz hm1 hi hl hSS (by omega) (by omega) with ⟨x, c1, rx, r1⟩ | ⟨e, z, c1, he, tz, r1⟩
      · rw [c1]
        simp only [Except.bind]
        rcases (ih b hm2).at ht hf hz hm2 hi hl hSS (by omega) (by omega) with ⟨y, c2, ry, r2⟩ | ⟨e, z, c2, he, tz, r2⟩
        · rw [c2]
          simp only
          rcases (ih c hm3).at ht hf hz hm3 hi hl hSS (by omega) (by omega) with ⟨w, c3, rw', r3⟩ | ⟨e, z, c3, he, tz, r3⟩
          · rw [c3]
            have hs := sp_r03_Same y (Ty.thin_of_right ry) w
            have mu := fun b => sp_k_must hi 0 b
            have hof : ckOf t S0 [x, y, w] = if x.kind = 2 ∧ y = w then .ok y else .error 4 := by unfold ckOf; simp [hk]
            simp only [hof]
            by_cases hx : x.kind = 2
            · by_cases hyw : y = w
              · rw [if_pos ⟨hx, hyw⟩]
                simp only [hyw, decide_true] at hs
                rw [hyw] at r2
                refine .ok ?_
                simp [kSg_box hi, cd1, hk, hkk, d0, d1, d2, Tm.eta, r1, Ty.eta, r2, r3, hx, hs, mu, hyw]
              · rw [if_neg (fun h => hyw h.2)]
                simp only [hyw, decide_false] at hs
                refine .err y (Ty.thin_of_right ry) ?_
                simp [kSg_box hi, cd1, hk, hkk, d0, d1, d2, Tm.eta, r1, Ty.eta, r2, r3, hx, hs, mu, kw_zero]
            · rw [if_neg (fun h => hx h.1)]
              refine .err y (Ty.thin_of_right ry) ?_
              simp [kSg_box hi, cd1, hk, hkk, d0, d1, d2, Tm.eta, r1, Ty.eta, r2, r3, hx, mu, kw_zero]
          · rw [c3]
            have hs := sp_r03_Same y (Ty.thin_of_right ry) z
            refine .err y (Ty.thin_of_right ry) ?_
            by_cases hx : x.kind = 2 <;> simp [kSg_box hi, cd1, hk, hkk, d0, d1, d2, Tm.eta, r1, Ty.eta, r2, r3, hx, hs, sp_k_mustE hi he]
        · rw [c2]
          have hs := sp_r03_Same z tz zeroTy
          refine .err z tz ?_
          by_cases hx : x.kind = 2 <;> simp [kSg_box hi, cd1, hk, hkk, d0, d1, d2, Tm.eta, r1, Ty.eta, r2, sp_k_stuck c _ _ sg i hi he.ne, hx, hs, sp_k_mustE hi he]
      · rw [c1]
        simp only [Except.bind]
        have hs := sp_r03_Same zeroTy thin_zero zeroTy
        refine .err zeroTy thin_zero ?_
        by_cases hx : z.kind = 2 <;> simp [kSg_box hi, cd1, hk, hkk, d0, d1, d2, Tm.eta, r1, Ty.eta, sp_k_stuck b _ _ sg i hi he.ne, sp_k_stuck c _ _ sg i hi he.ne, hx, hs, sp_k_mustE hi he]
    · -- match
      have := sp_k_match t hk ht hf hz ih sg i l S S0 hi hl hSS hw hS
      rw [eq_r17_K_typ, eq_r17_K_typ_24, eq_r17_K_typ_30, eq_r17_K_typ_41]
      cases hc : ck t l S0 with
      | ok y =>
        rw [hc] at this; simp only [KIs] at this
        refine .ok ?_
        simp [kSg_box hi, cd1, hk, enc_k 14 hk, this, Ty.eta]
      | error e =>
        rw [hc] at this; obtain ⟨z, h1, h2⟩ := this
        refine .err z h1 ?_
        simp [kSg_box hi, cd1, hk, enc_k 14 hk, h2, Ty.eta]
    · -- op
      have := sp_k_op t hk ht hf hz ih sg i l S S0 hi hl hSS hw hS
      rw [eq_r17_K_typ, eq_r17_K_typ_24, eq_r17_K_typ_30, eq_r17_K_typ_41]
      cases hc : ck t l S0 with
      | ok y =>
        rw [hc] at this; simp only [KIs] at this
        refine .ok ?_
        simp [kSg_box hi, cd1, hk, enc_k 15 hk, this, Ty.eta]
      | error e =>
        rw [hc] at this; obtain ⟨z, h1, h2⟩ := this
        refine .err z h1 ?_
        simp [kSg_box hi, cd1, hk, enc_k 15 hk, h2, Ty.eta]
    · -- cast
      obtain ⟨a, hkk⟩ := Tm.kids1 ht (.inr hk)
      have hm1 : a ∈ t.kids := by rw [hkk]; simp
      have w1 := Tm.wide_kid hm1
      have q1 := mem_sum (f := Tm.mass) hm1
      have ra := own.a (by rw [hk]; rfl)
      have rb := own.b (by rw [hk]; rfl)
      have d0 : dIdx 20 (.list 20 [a.enc]) (.int .i64 0) = some a.enc := rfl
      have s1 := fun e => sp_k_scoped hi e t.a hz.a S hSl
      have s2 := fun e => sp_k_scoped hi e t.b hz.b S hSl
      have hg := sp_r08_Agree t.a ra t.b rb
      have mu := fun e b => sp_k_must hi e b
      rw [ck_one (by omega) hkk, eq_r17_K_typ, eq_r17_K_typ_24, eq_r17_K_typ_30, eq_r17_K_typ_41]
      rcases (ih a hm1).at ht hf hz hm1 hi hl hSS (by omega) (by omega) with ⟨x, c1, rx, r1⟩ | ⟨e, z, c1, he, tz, r1⟩
      · rw [c1]
        simp only [Except.bind]
        have hs := sp_r03_Same x (Ty.thin_of_right rx) t.a
        have hof : ckOf t S0 [x] = if inS S t.a && inS S t.b then if x = t.a ∧ t.a.agrees t.b = true then .ok t.b else .error 4 else .error 6 := by
          rw [inS_congr hSS t.a, inS_congr hSS t.b]
          unfold ckOf
          rw [if_neg (by omega), if_neg (by omega), if_neg (by omega), if_neg (by omega), if_neg (by omega), if_pos hk]
          rfl
        simp only [hof]
        by_cases ha : inS S t.a = true
        · by_cases hb : inS S t.b = true
          · rw [if_pos (by rw [ha, hb]; rfl)]
            have s1' := s1 0
            have s2' := s2 0
            rw [if_pos ha] at s1'
            rw [if_pos hb] at s2'
            by_cases hxa : x = t.a
            · simp only [hxa, decide_true] at hs
              rw [hxa] at r1
              cases hag : t.a.agrees t.b
              · rw [if_neg (by simp)]
                rw [hag] at hg
                refine .err t.b hf.one.b ?_
                simp [kSg_box hi, cd1, hk, hkk, d0, Tm.eta, r1, Ty.eta, s1', s2', hs, hg, mu, kw_zero]
              · rw [if_pos ⟨hxa, rfl⟩]
                rw [hag] at hg
                refine .ok ?_
                simp [kSg_box hi, cd1, hk, hkk, d0, Tm.eta, r1, Ty.eta, s1', s2', hs, hg, mu]
            · rw [if_neg (fun h => hxa h.1)]
              simp only [hxa, decide_false] at hs
              refine .err t.b hf.one.b ?_
              simp [kSg_box hi, cd1, hk, hkk, d0, Tm.eta, r1, Ty.eta, s1', s2', hs, mu, kw_zero]
          · rw [if_neg (by simp [hb])]
            have s1' := s1 0
            have s2' := s2 0
            rw [if_pos ha] at s1'
            rw [if_neg hb, kw_zero] at s2'
            refine .err t.b hf.one.b ?_
            by_cases hxa : x = t.a
            · simp only [hxa, decide_true] at hs
              rw [hxa] at r1
              simp [kSg_box hi, cd1, hk, hkk, d0, Tm.eta, r1, Ty.eta, s1', s2', hs, hg, sp_k_mustE hi e6]
            · simp only [hxa, decide_false] at hs
              simp [kSg_box hi, cd1, hk, hkk, d0, Tm.eta, r1, Ty.eta, s1', s2', hs, hg, sp_k_mustE hi e6]
        · rw [if_neg (by simp [ha])]
          have s1' := s1 0
          rw [if_neg ha, kw_zero] at s1'
          have s2' := sp_k_scopedE hi e6 t.b hz.b S hSl
          refine .err t.b hf.one.b ?_
          by_cases hxa : x = t.a
          · simp only [hxa, decide_true] at hs
            rw [hxa] at r1
            simp [kSg_box hi, cd1, hk, hkk, d0, Tm.eta, r1, Ty.eta, s1', s2', hs, hg, sp_k_mustE hi e6]
          · simp only [hxa, decide_false] at hs
            simp [kSg_box hi, cd1, hk, hkk, d0, Tm.eta, r1, Ty.eta, s1', s2', hs, hg, sp_k_mustE hi e6]
      · rw [c1]
        simp only [Except.bind]
        have s1' := sp_k_scopedE hi he t.a hz.a S hSl
        have s2' := sp_k_scopedE hi he t.b hz.b S hSl
        have hs := sp_r03_Same z tz t.a
        refine .err t.b hf.one.b ?_
        by_cases hxa : z = t.a
        · simp only [hxa, decide_true] at hs
          rw [hxa] at r1
          simp [kSg_box hi, cd1, hk, hkk, d0, Tm.eta, r1, Ty.eta, s1', s2', hs, hg, sp_k_mustE hi he]
        · simp only [hxa, decide_false] at hs
          simp [kSg_box hi, cd1, hk, hkk, d0, Tm.eta, r1, Ty.eta, s1', s2', hs, hg, sp_k_mustE hi he]

theorem sp_r17_Type (t : Tm) (ht : t.right = true) (hf : t.fit) (hz : t.sized) (hm : t.mass ≤ lim) (hw : t.wide ≤ lim) : (run cfg).p F_r17_Type [t.enc] = some (.tup (resL (ck t [] []))) := by
  refine call_r17_Type _ ?_
  rw [eq_r17_Type]
  have := sp_k_typ t ht hf hz [.box [(.int .i64 0, .val)]] 0 [] [] [] (by simp) (fun x hx => by cases hx) (fun _ => Iff.rfl) (by simpa using hw) (by simpa using hm)
  have e0 : ∀ e, kSg [.box [(.int .i64 0, .val)]] 0 e = [.box [(.int .i64 e, .val)]] := fun _ => rfl
  have e1 : encNms [] = .list 5 [] := rfl
  have e2 : encInts [] = .list 1 [] := rfl
  have sb : ∀ e : Int, sgBox [SObj.box [(.int .i64 e, .val)]] 0 = some [(.int .i64 e, .val)] := fun _ => rfl
  rw [e0, e1, e2] at this
  cases hc : ck t [] [] with
  | ok y =>
    rw [hc] at this
    simp only [KIs, e0] at this
    simp [Tm.eta, this, sb, cd1, resL, Ty.eta]
  | error e =>
    rw [hc] at this
    obtain ⟨z, h1, h2⟩ := this
    rw [e0] at h2
    have he := (ck_err _ _ _ _ hc).ne
    simp [Tm.eta, h2, sb, cd1, resL, he, zero_agg]

end Go.Su

/-
  The law CheckExact answers true on data.
-/
namespace Go.Su
set_option linter.unusedVariables false
set_option linter.unusedSimpArgs false

theorem law_exact (t : Tm) (hm : t.mass ≤ 1048576) : (run cfg).p F_l19_CheckExact [t.enc] = some (.bool true) := by
  have ft : t.fit := Tm.fit_mass (by omega)
  have zt : t.sized := Tm.sized_mass (by omega)
  have ml : t.mass ≤ lim := by unfold lim; omega
  have wt : t.wide ≤ lim := by have := t.wide_mass; unfold lim; omega
  obtain ⟨b1, h1⟩ := sp_l17_Heavy1 t ft zt
  obtain ⟨b2, h2⟩ := sp_r17_TameTerm t ft zt wt
  have hR := sp_r17_Right t ft
  have c1 := sp_check_Type t ft wt
  refine call_l19_CheckExact _ ?_
  rw [eq_l19_CheckExact]
  cases b1
  · cases b2
    · simp [Tm.eta, h1, h2]
    · by_cases ht : t.right = true
      · have c2 := sp_r17_Type t ht ft zt ml wt
        unfold ckType at c1
        rw [if_pos ht] at c1
        cases hc : ck t [] [] with
        | error e =>
          rw [hc] at c1 c2
          have hk := sp_keep_Same zeroTy thin_zero zeroTy
          simp [Tm.eta, h1, h2, hR, ht, c1, c2, resL, Ty.eta, hk, sp_l19_wakes]
        | ok y =>
          have ry := ck_right t ht ft [] [] y (fun x hx => by cases hx) hc
          rw [hc] at c1 c2
          have hk := sp_keep_Same y (Ty.thin_of_right ry) y
          simp [Tm.eta, h1, h2, hR, ht, c1, c2, resL, Ty.eta, hk, sp_l19_wakes]
      · unfold ckType at c1
        rw [if_neg ht] at c1
        have ht' : t.right = false := by simpa using ht
        simp [Tm.eta, h1, h2, hR, ht', c1, resL, zero_kind, sp_l19_wakes]
  · simp [Tm.eta, h1]

end Go.Su

/-
  The settings are right.
-/
namespace Go.Su
open Go.Proofs

theorem names_ok : Tryz.prog.funcs.toList.all (fun fn => fn.name != "runtime.NumGoroutine") = true := by kernel_rfl

theorem lookup_mem {l : List (FuncId × FuncId)} {f g : FuncId} (h : l.lookup f = some g) : (f, g) ∈ l := by
  induction l with
  | nil => cases h
  | cons x l ih =>
    obtain ⟨a, b⟩ := x
    simp only [List.lookup_cons] at h
    by_cases e : f == a
    · rw [e] at h; simp only [Option.some.injEq] at h; rw [h]; rw [eq_of_beq e]; exact List.mem_cons_self ..
    · simp only [e] at h; exact List.mem_cons_of_mem _ (ih h)

theorem cfg_ok : CfgOk cfg where
  mixed := by kernel_rfl
  go f fn h := by
    have h1 : fn ∈ Tryz.prog.funcs.toList := by
      have : Tryz.prog.funcs[f]? = some fn := h
      rw [← Array.getElem?_toList] at this
      exact List.mem_of_getElem? this
    have := List.all_eq_true.1 names_ok fn h1
    simpa using this
  prim f g h := by cases h
  clone f h := by
    have : clL.contains f = true := h
    cases this
  mki f g h := by
    have h1 : (f, g) ∈ mkL := lookup_mem h
    simp only [mkL, List.mem_cons, List.not_mem_nil, or_false, Prod.mk.injEq] at h1
    rcases h1 with ⟨rfl, rfl⟩
    · exact ⟨by kernel_rfl, mk_pats⟩
  iter g it h := by
    have h1 : itF g = some it := h
    unfold itF at h1
    split at h1
    · rename_i e
      subst e
      cases h1
      exact ⟨by kernel_rfl, it_pats⟩
    · cases h1
end Go.Su
