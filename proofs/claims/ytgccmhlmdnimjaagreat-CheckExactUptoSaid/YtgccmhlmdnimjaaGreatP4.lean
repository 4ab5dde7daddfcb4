/-
  Parts of the proof, merged: SuM8, SuM9, SuJoin, SuRd.
-/
import Derived.Below
import Derived.ChangeArms
import Derived.DataReads
import Derived.Test.YtgccmhlmdnimjaaGreatP3
/-
  The CHECKER: which errors there are; how many names stand at once; scopes as maps of counters.
-/
namespace Go.Su

def errOk (e : Int) : Prop := e = 4 ∨ e = 6 ∨ e = 8

theorem bind_err {α β : Type} {x : Except Int α} {f : α → Except Int β} {e : Int} (h : x.bind f = .error e) : x = .error e ∨ ∃ a, x = .ok a ∧ f a = .error e := by
  cases x with
  | error e' => left; simpa [Except.bind] using h
  | ok a => right; exact ⟨a, rfl, h⟩
theorem bind_ok {α β : Type} {x : Except Int α} {f : α → Except Int β} {y : β} (h : x.bind f = .ok y) : ∃ a, x = .ok a ∧ f a = .ok y := by
  cases x with
  | error e' => cases h
  | ok a => exact ⟨a, rfl, h⟩

theorem ckKids_err {l : List Nm} {S : List Int} : ∀ {ks : List Tm} {e : Int}, ckKids l S (ks.map ck) = .error e → ∃ k ∈ ks, ck k l S = .error e
  | [], e, h => by cases h
  | k :: ks, e, h => by
    simp only [List.map_cons, ckKids] at h
    rcases bind_err h with h | ⟨a, h1, h⟩
    · exact ⟨k, List.mem_cons_self .., h⟩
    · rcases bind_err h with h | ⟨a, h1, h⟩
      · obtain ⟨k', a, b⟩ := ckKids_err h; exact ⟨k', List.mem_cons_of_mem _ a, b⟩
      · cases h

theorem ckOf_err {t : Tm} {S : List Int} {ys : List Ty} {e : Int} (h : ckOf t S ys = .error e) : errOk e := by
  unfold ckOf at h
  simp only at h
  repeat' (split at h)
  all_goals first | (cases h; done) | (cases h; simp [errOk])

theorem ckArms_err {y : Ty} {l : List Nm} {S : List Int} : ∀ {r : List (Pat × Chk)} {out : Option Ty} {e : Int}, (∀ p ∈ r, ∀ (m : List Nm) e, p.2 m S = .error e → errOk e) → ckArms y l S r out = .error e → errOk e
  | [], out, e, _, h => by cases h
  | (p, f) :: r, out, e, hr, h => by
    simp only [ckArms] at h
    cases hb : p.binds y with
    | none => rw [hb] at h; cases h; simp [errOk]
    | some b =>
      rw [hb] at h
      rcases bind_err h with h | ⟨a, h1, h⟩
      · exact hr _ (List.mem_cons_self ..) _ _ h
      · cases out with
        | none => exact ckArms_err (fun p' hp' => hr p' (List.mem_cons_of_mem _ hp')) h
        | some o =>
          simp only at h
          split at h
          · exact ckArms_err (fun p' hp' => hr p' (List.mem_cons_of_mem _ hp')) h
          · cases h; simp [errOk]

theorem ck_err (t : Tm) : ∀ (l : List Nm) (S : List Int) (e : Int), ck t l S = .error e → errOk e := by
  induction t using Tm.ind with
  | h t ih =>
    intro l S e h
    have hd : ∀ (i : Nat) l S e, ((t.kids.map ck).getD i fun _ _ => .error 4) l S = .error e → errOk e := by
      intro i l S e h
      rw [List.getD_eq_getElem?_getD] at h
      rcases Nat.lt_or_ge i t.kids.length with hi | hi
      · rw [List.getElem?_eq_getElem (by simpa using hi)] at h
        simp only [Option.getD_some, List.getElem_map] at h
        exact ih _ (List.getElem_mem hi) _ _ _ h
      · rw [List.getElem?_eq_none (by simpa using hi)] at h
        cases h; simp [errOk]
    rw [ck_eq] at h
    unfold ckBody at h
    simp only at h
    split at h
    · split at h
      · cases h; simp [errOk]
      · split at h
        · split at h
          · cases h
          · cases h; simp [errOk]
        · cases h; simp [errOk]
    split at h
    · cases h
    split at h
    · split at h
      · cases h
      · cases h; simp [errOk]
    split at h
    · split at h
      · rcases bind_err h with h | ⟨a, h1, h⟩
        · exact hd _ _ _ _ h
        · cases h
      · cases h; simp [errOk]
    split at h
    · split at h
      · rcases bind_err h with h | ⟨a, h1, h⟩
        · exact hd _ _ _ _ h
        · exact hd _ _ _ _ h
      · cases h; simp [errOk]
    split at h
    · split at h
      · split at h
        · rcases bind_err h with h | ⟨a, h1, h⟩
          · exact hd _ _ _ _ h
          · split at h
            · exact hd _ _ _ _ h
            · cases h; simp [errOk]
        · cases h; simp [errOk]
      · cases h; simp [errOk]
    split at h
    · rcases bind_err h with h | ⟨a, h1, h⟩
      · exact hd _ _ _ _ h
      · refine ckArms_err (fun p hp m e he => ?_) h
        have := (List.of_mem_zip hp).2
        obtain ⟨k', hk', e'⟩ := List.mem_map.1 (List.mem_of_mem_drop this)
        rw [← e'] at he
        exact ih k' hk' _ _ _ he
    · rcases bind_err h with h | ⟨a, h1, h⟩
      · obtain ⟨k, hk, h⟩ := ckKids_err h
        exact ih k hk _ _ _ h
      · exact ckOf_err h

/-! ### How many names -/
def Tm.wide (t : Tm) : Nat := 2 + (t.pats.map Pat.size).sum + (t.kids.attach.map fun k => Tm.wide k.1).sum
termination_by SizeOf.sizeOf t
decreasing_by exact Tm.kid_lt k.2
theorem Tm.wide_eq (t : Tm) : t.wide = 2 + (t.pats.map Pat.size).sum + (t.kids.map Tm.wide).sum := by
  rw [Tm.wide]
  congr 2
  exact List.attach_map_val (f := Tm.wide) ..
theorem Tm.wide_kid {t k : Tm} (h : k ∈ t.kids) : k.wide + 2 + (t.pats.map Pat.size).sum ≤ t.wide := by
  rw [Tm.wide_eq t]
  have := mem_sum (f := Tm.wide) h
  omega

theorem loop_allK {α X : Type} {l : List α} {P : Int → Option X} {f : α → Bool} {y n : Option X} (stop : P l.length = y)
    (step : ∀ (i : Nat) (h : i < l.length), P i = if f l[i] = true then P ((i : Int) + 1) else n) : P 0 = if l.all f = true then y else n := by
  have key : ∀ (m i : Nat), i + m = l.length → P i = if (l.drop i).all f = true then y else n := by
    intro m
    induction m with
    | zero => intro i hi; rw [List.drop_of_length_le (by omega), show i = l.length by omega, stop]; rfl
    | succ m ih =>
      intro i hi
      have h : i < l.length := by omega
      have := ih (i + 1) (by omega)
      push_cast at this
      rw [step i h, List.drop_eq_getElem_cons h, List.all_cons, this]
      by_cases h3 : f l[i] = true <;> simp [h3]
  have := key l.length 0 (by omega)
  simpa using this

/-! ### Scopes -/
def ScopeIs (es : List (DV × DV)) (S : List Int) : Prop := CntIs es fun v => if v ∈ S then 1 else 0
theorem ScopeIs.nil : ScopeIs [] [] := by
  have : (fun v : Int => if v ∈ ([] : List Int) then (1 : Int) else 0) = fun _ => 0 := by funext v; simp
  unfold ScopeIs; rw [this]; exact CntIs.nil
theorem CntIs.congr {es : List (DV × DV)} {c d : Int → Int} (h : CntIs es c) (e : ∀ v, c v = d v) : CntIs es d := fun v => by rw [h v, e v]

theorem takes_iff {S l : List Int} : takes S l = true ↔ l.Nodup ∧ ∀ v ∈ l, v ∉ S := by
  unfold takes
  simp

theorem scope_in {S l : List Int} (h : takes S l = true) {es : List (DV × DV)} (k : CntIs es fun v => (if v ∈ S then 1 else 0) + 1 * (l.count v : Int)) : ScopeIs es (l ++ S) := by
  obtain ⟨h1, h2⟩ := takes_iff.1 h
  refine k.congr fun v => ?_
  by_cases hv : v ∈ l
  · have : l.count v = 1 := by have a := (List.nodup_iff_count.1 h1) v; have b := List.count_pos_iff.2 hv; omega
    simp [hv, h2 v hv, this]
  · have : l.count v = 0 := List.count_eq_zero_of_not_mem hv
    simp [hv, this]
theorem scope_out {S l : List Int} (h : takes S l = true) {es : List (DV × DV)} (k : CntIs es fun v => (if v ∈ l ++ S then 1 else 0) + (-1) * (l.count v : Int)) : ScopeIs es S := by
  obtain ⟨h1, h2⟩ := takes_iff.1 h
  refine k.congr fun v => ?_
  by_cases hv : v ∈ l
  · have : l.count v = 1 := by have a := (List.nodup_iff_count.1 h1) v; have b := List.count_pos_iff.2 hv; omega
    simp [hv, h2 v hv, this]
  · have : l.count v = 0 := List.count_eq_zero_of_not_mem hv
    simp [hv, this]

/-- What the checker's functions give back. -/
def resL : Res → List DV
  | .ok y => [y.enc, .int .i64 0]
  | .error e => [zeroTy.enc, .int .i64 e]

/-- What check.Type says. -/
noncomputable def ckType (t : Tm) : Res := if t.right = true then ck t [] [] else .error 1

end Go.Su

/-
  The CHECKER: a term's type has no variables but those in scope.
-/
namespace Go.Su

/-- A variable stands in a type. -/
inductive Ty.Occ (v : Int) : Ty → Prop where
  | here (t : Ty) : t.kind = 6 → t.n = v → Ty.Occ v t
  | kid (t k : Ty) : k ∈ t.kids → Ty.Occ v k → Ty.Occ v t

theorem Ty.occ_iff {v : Int} {t : Ty} : t.Occ v ↔ (t.kind = 6 ∧ t.n = v) ∨ ∃ k ∈ t.kids, k.Occ v := by
  constructor
  · intro h
    cases h with
    | here _ a b => exact .inl ⟨a, b⟩
    | kid _ k a b => exact .inr ⟨k, a, b⟩
  · rintro (⟨a, b⟩ | ⟨k, a, b⟩)
    · exact .here t a b
    · exact .kid t k a b

theorem Ty.mem_varsOn {v : Int} (t : Ty) : ∀ l : List Int, v ∈ t.varsOn l ↔ v ∈ l ∨ t.Occ v := by
  induction t using Ty.ind with
  | h t ih =>
    intro l
    rw [Ty.varsOn_eq, Ty.occ_iff]
    have key : ∀ (ks : List Ty), (∀ k ∈ ks, ∀ l : List Int, v ∈ k.varsOn l ↔ v ∈ l ∨ k.Occ v) → ∀ l : List Int, v ∈ ks.foldl (fun l k => k.varsOn l) l ↔ v ∈ l ∨ ∃ k ∈ ks, k.Occ v := by
      intro ks
      induction ks with
      | nil => intro _ l; simp
      | cons k ks ihk =>
        intro h l
        simp only [List.foldl_cons]
        rw [ihk (fun k' hk' => h k' (List.mem_cons_of_mem _ hk')), h k (List.mem_cons_self ..)]
        simp only [List.mem_cons, exists_eq_or_imp, or_assoc]
    rw [key t.kids ih]
    by_cases h6 : t.kind = 6
    · by_cases hn : t.n ∈ l
      · simp only [h6, hn, not_true, and_false, if_false, true_and]
        constructor
        · rintro (h | h)
          · exact .inl h
          · exact .inr (.inr h)
        · rintro (h | h | h)
          · exact .inl h
          · subst h; exact .inl hn
          · exact .inr h
      · simp only [h6, hn, not_false_eq_true, and_self, if_true, List.mem_append, List.mem_singleton, true_and, or_assoc]
        have : v = t.n ↔ t.n = v := eq_comm
        rw [this]
    · simp [h6]

theorem inS_iff {S : List Int} {t : Ty} : inS S t = true ↔ ∀ v, t.Occ v → v ∈ S := by
  unfold inS Ty.vars
  simp only [List.all_eq_true, decide_eq_true_eq, Ty.mem_varsOn, List.not_mem_nil, false_or]

theorem Ty.closed_iff {t : Ty} : t.without 6 = true ↔ ∀ v, ¬ t.Occ v := by
  induction t using Ty.ind with
  | h t ih =>
    rw [Ty.without_eq]
    simp only [Bool.and_eq_true, Bool.not_eq_true', decide_eq_false_iff_not, List.all_eq_true]
    constructor
    · rintro ⟨h1, h2⟩ v hv
      rcases Ty.occ_iff.1 hv with ⟨a, -⟩ | ⟨k, a, b⟩
      · exact h1 a
      · exact (ih k a).1 (h2 k a) v b
    · intro h
      refine ⟨fun h6 => h t.n (.here t h6 rfl), fun k hk => (ih k hk).2 fun v hv => h v (.kid t k hk hv)⟩

theorem Ty.var_kids {t : Ty} (h : t.right = true) (h6 : t.kind = 6) : t.kids = [] := by
  have := (Ty.right_iff.1 h).1
  rw [h6] at this
  have e : arity 6 = 0 := rfl
  exact List.eq_nil_of_length_eq_zero (by omega)

theorem Ty.occ_put {v : Int} {l : List (Int × Ty)} {t : Ty} : t.right = true → (t.put l).Occ v → (∃ n u, t.Occ n ∧ look l n = some u ∧ u.Occ v) ∨ (t.Occ v ∧ look l v = Option.none) := by
  induction t using Ty.ind with
  | h t ih =>
    intro hr h
    rw [Ty.put_eq] at h
    by_cases h6 : t.kind = 6
    · rw [if_pos h6] at h
      cases hl : look l t.n with
      | none =>
        rw [hl] at h
        simp only [Option.getD_none] at h
        rcases Ty.occ_iff.1 h with ⟨a, b⟩ | ⟨k, a, b⟩
        · exact .inr ⟨h, by rw [← b]; exact hl⟩
        · rw [Ty.var_kids hr h6] at a; cases a
      | some u =>
        rw [hl] at h
        exact .inl ⟨t.n, u, .here t h6 rfl, hl, h⟩
    · rw [if_neg h6] at h
      rcases Ty.occ_iff.1 h with ⟨a, -⟩ | ⟨k, a, b⟩
      · exact absurd a h6
      · obtain ⟨k', hk', rfl⟩ := List.mem_map.1 a
        rcases ih k' hk' (Ty.right_kid hr hk') b with ⟨n, u, c, d⟩ | ⟨c, d⟩
        · exact .inl ⟨n, u, .kid t k' hk' c, d⟩
        · exact .inr ⟨.kid t k' hk' c, d⟩

theorem look_zip_none {vs : List Int} {ts : List Ty} (h : vs.length = ts.length) {v : Int} (hl : look (vs.zip ts) v = none) : v ∉ vs := by
  intro hv
  obtain ⟨i, hi, rfl⟩ := List.getElem_of_mem hv
  unfold look at hl
  simp only [Option.map_eq_none_iff, List.find?_eq_none, decide_eq_true_eq] at hl
  have hz : i < (vs.zip ts).length := by rw [List.length_zip]; omega
  exact hl _ (List.getElem_mem hz) (by simp)

/-- The names' variables are in scope, or their own. -/
def NmsIn (S : List Int) (l : List Nm) : Prop := ∀ x ∈ l, ∀ v, x.ty.Occ v → v ∈ S ∨ v ∈ x.vars
theorem NmsIn.app {S : List Int} {l m : List Nm} (h : NmsIn S l) (h' : NmsIn S m) : NmsIn S (l ++ m) := fun x hx => by
  rcases List.mem_append.1 hx with hx | hx
  · exact h x hx
  · exact h' x hx
theorem NmsIn.more {S : List Int} {l : List Nm} (h : NmsIn S l) (vs : List Int) : NmsIn (vs ++ S) l := fun x hx v hv => by
  rcases h x hx v hv with h | h
  · exact .inl (List.mem_append_right _ h)
  · exact .inr h

theorem comb_occ {S : List Int} {ks : List Pat} : (∀ k ∈ ks, ∀ t b, (∀ v, t.Occ v → v ∈ S) → k.binds t = some b → ∀ e ∈ b, ∀ v, e.2.Occ v → v ∈ S) → ∀ ts b, (∀ t ∈ ts, ∀ v, t.Occ v → v ∈ S) → comb (ks.map Pat.binds) ts = some b → ∀ e ∈ b, ∀ v, e.2.Occ v → v ∈ S := by
  induction ks with
  | nil => intro _ ts b _ h; simp only [List.map_nil, comb, Option.some.injEq] at h; subst h; simp
  | cons k ks ih =>
    intro hk ts b ht h
    cases ts with
    | nil => simp [comb] at h
    | cons t ts =>
      simp only [List.map_cons, comb, Option.bind_eq_some_iff, Option.some.injEq] at h
      obtain ⟨a, h1, c, h2, rfl⟩ := h
      have a1 := hk k (List.mem_cons_self ..) t a (ht t (List.mem_cons_self ..)) h1
      have a2 := ih (fun k' hk' => hk k' (List.mem_cons_of_mem _ hk')) ts c (fun t' ht' => ht t' (List.mem_cons_of_mem _ ht')) h2
      intro e he
      rcases List.mem_append.1 he with he | he
      · exact a1 e he
      · exact a2 e he

theorem occ_zero (v : Int) : ¬ zeroTy.Occ v := by
  intro h
  rcases Ty.occ_iff.1 h with ⟨a, -⟩ | ⟨k, a, -⟩
  · cases a
  · cases a

theorem getD_occ {S : List Int} {l : List Ty} (h : ∀ t ∈ l, ∀ v, t.Occ v → v ∈ S) (i : Nat) : ∀ v, (l.getD i zeroTy).Occ v → v ∈ S := by
  intro v hv
  rw [List.getD_eq_getElem?_getD] at hv
  rcases Nat.lt_or_ge i l.length with hi | hi
  · rw [List.getElem?_eq_getElem hi] at hv
    exact h _ (List.getElem_mem hi) v hv
  · rw [List.getElem?_eq_none hi] at hv
    exact absurd hv (occ_zero v)
theorem kids_occ {S : List Int} {t : Ty} (h : ∀ v, t.Occ v → v ∈ S) : ∀ k ∈ t.kids, ∀ v, k.Occ v → v ∈ S := fun k hk v hv => h v (.kid t k hk hv)

theorem Pat.binds_occ {S : List Int} (p : Pat) : ∀ t b, (∀ v, t.Occ v → v ∈ S) → p.binds t = some b → ∀ e ∈ b, ∀ v, e.2.Occ v → v ∈ S := by
  induction p using Pat.ind with
  | h p ih =>
    intro t b ht h
    rw [Pat.binds_eq] at h
    unfold patBody at h
    split at h
    · simp only [Option.some.injEq] at h; subst h; simp
    split at h
    · simp only [Option.some.injEq] at h; subst h; simpa using ht
    split at h
    · split at h
      · exact comb_occ ih _ _ (kids_occ ht) h
      · cases h
    split at h
    · split at h
      · refine comb_occ ih _ _ ?_ h
        intro k hk
        simp at hk
        rcases hk with rfl | rfl
        · have := getD_occ (kids_occ ht) 0
          simpa [List.getD_eq_getElem?_getD] using this
        · exact ht
      · cases h
    split at h
    · simp only [Option.some.injEq] at h; subst h; simp
    · cases h

theorem occ_mk {S : List Int} {k n : Int} (hk : k ≠ 6) {ks : List Ty} (h : ∀ t ∈ ks, ∀ v, t.Occ v → v ∈ S) : ∀ v, (Ty.mk k n ks).Occ v → v ∈ S := by
  intro v hv
  rcases Ty.occ_iff.1 hv with ⟨a, -⟩ | ⟨k', a, b⟩
  · exact absurd a hk
  · exact h k' a v b

theorem ckOf_occ {t : Tm} {S : List Int} {ys : List Ty} (hy : ∀ y ∈ ys, ∀ v, y.Occ v → v ∈ S) {y : Ty} (h : ckOf t S ys = .ok y) : ∀ v, y.Occ v → v ∈ S := by
  unfold ckOf at h
  simp only at h
  split at h
  · cases h; exact occ_mk (by omega) hy
  split at h
  · split at h
    · cases h; exact getD_occ hy 1
    · cases h
  split at h
  · split at h
    · cases h; exact getD_occ (kids_occ (getD_occ hy 0)) 1
    · cases h
  split at h
  · split at h
    · cases h; exact getD_occ hy 1
    · cases h
  split at h
  · split at h
    · split at h
      · cases h; exact occ_mk (by omega) (by simp)
      · cases h
    · split at h
      · cases h; exact occ_mk (by split <;> omega) (by simp)
      · cases h
  split at h
  · split at h
    · rename_i hin
      split at h
      · cases h
        simp only [Bool.and_eq_true] at hin
        exact inS_iff.1 hin.2
      · cases h
    · cases h
  · cases h

theorem ckArms_occ {y : Ty} {l : List Nm} {S : List Int} (hy : ∀ v, y.Occ v → v ∈ S) (hl : NmsIn S l) : ∀ {r : List (Pat × Chk)} {out : Option Ty} {z : Ty},
    (∀ p ∈ r, ∀ m : List Nm, NmsIn S m → ∀ u, p.2 m S = .ok u → ∀ v, u.Occ v → v ∈ S) → (∀ o, out = some o → ∀ v, o.Occ v → v ∈ S) → ckArms y l S r out = .ok z → ∀ v, z.Occ v → v ∈ S
  | [], out, z, _, ho, h => by
    simp only [ckArms, Except.ok.injEq] at h
    cases out with
    | none => subst h; exact fun v hv => absurd hv (occ_zero v)
    | some o => simp only [Option.getD_some] at h; subst h; exact ho o rfl
  | (p, f) :: r, out, z, hr, ho, h => by
    simp only [ckArms] at h
    cases hb : p.binds y with
    | none => rw [hb] at h; cases h
    | some b =>
      rw [hb] at h
      obtain ⟨a, hf, h⟩ := bind_ok h
      have nb : NmsIn S (b.map nmOfE) := fun x hx v hv => by
        obtain ⟨e, he, rfl⟩ := List.mem_map.1 hx
        exact .inl (Pat.binds_occ p y b hy hb e he v hv)
      have ha := hr (p, f) (List.mem_cons_self ..) _ (hl.app nb) a hf
      cases out with
      | none => exact ckArms_occ hy hl (fun p' hp' => hr p' (List.mem_cons_of_mem _ hp')) (fun o h => by cases h; exact ha) h
      | some o =>
        simp only at h
        split at h
        · exact ckArms_occ hy hl (fun p' hp' => hr p' (List.mem_cons_of_mem _ hp')) ho h
        · cases h

theorem ck_occ (t : Tm) : t.right = true → t.fit → ∀ (l : List Nm) (S : List Int) (y : Ty), NmsOk l → NmsIn S l → ck t l S = .ok y → ∀ v, y.Occ v → v ∈ S := by
  induction t using Tm.ind with
  | h t ih =>
    intro ht hfit l S y hl hn h
    have own := Tm.right_own ht
    have hvl := Nat.le_of_lt hfit.one.vars
    have rest : (t.kind = 6 ∨ t.kind = 8 ∨ t.kind = 10 ∨ t.kind = 13 ∨ t.kind = 15 ∨ t.kind = 16) → ∀ v, y.Occ v → v ∈ S := by
      intro hk
      rw [ck_rest hk] at h
      obtain ⟨ys, hr, h⟩ := bind_ok h
      obtain ⟨h1, h2⟩ := ckKids_ok hr
      exact ckOf_occ (fun y hy => by obtain ⟨k, a, b⟩ := h2 y hy; exact ih k a (Tm.right_kid ht a) (hfit.kid a) l S y hl hn b) h
    rcases Tm.kinds ht with hk | hk | hk | hk | hk | hk | hk | hk | hk | hk | hk | hk | hk
    · rw [ck_name hk] at h
      cases hf : l.reverse.find? fun x => decide (x.name = t.name) with
      | none => rw [hf] at h; cases h
      | some x =>
        rw [hf] at h
        simp only at h
        have hm := List.mem_reverse.1 (List.mem_of_find?_eq_some hf)
        split at h
        · rename_i hlen
          split at h
          · rename_i hin
            cases h
            intro v hv
            rcases Ty.occ_put (hl x hm).1 hv with ⟨n, u, a, b, c⟩ | ⟨a, b⟩
            · have hu := (List.of_mem_zip (look_mem b)).2
              exact inS_iff.1 (List.all_eq_true.1 hin u hu) v c
            · rcases hn x hm v a with c | c
              · exact c
              · exact absurd c (look_zip_none hlen b)
          · cases h
        · cases h
    · rw [ck_leaf hk] at h
      cases h
      exact occ_mk (by omega) (by simp)
    · exact rest (by omega)
    · rw [ck_nil hk] at h
      split at h
      · rename_i hin
        cases h; exact occ_mk (by omega) (by simpa using inS_iff.1 hin)
      · cases h
    · exact rest (by omega)
    · obtain ⟨k, hkk⟩ := Tm.kids1 ht (.inl hk)
      have hm : k ∈ t.kids := by rw [hkk]; simp
      rw [ck_fun hk hkk] at h
      split at h
      · rename_i hin
        have hin := inS_iff.1 hin
        obtain ⟨z, hc, h⟩ := bind_ok h
        cases h
        have hz := ih k hm (Tm.right_kid ht hm) (hfit.kid hm) _ _ _ (hl.app (.one (Nm.ok_nil (own.a (by rw [hk]; rfl))))) (hn.app (fun x hx => by simp at hx; subst hx; exact fun v hv => .inl (hin v hv))) hc
        refine occ_mk (by omega) ?_
        intro u hu
        simp at hu
        rcases hu with rfl | rfl
        · exact hin
        · exact hz
      · cases h
    · exact rest (by omega)
    · obtain ⟨k, m, hkk⟩ := Tm.kids2 ht (by omega)
      have hm1 : k ∈ t.kids := by rw [hkk]; simp
      have hm2 : m ∈ t.kids := by rw [hkk]; simp
      rw [ck_let hk hkk] at h
      split at h
      · obtain ⟨z, hc, h⟩ := bind_ok h
        have rz := ck_right k (Tm.right_kid ht hm1) (hfit.kid hm1) _ _ _ hl hc
        have hz := ih k hm1 (Tm.right_kid ht hm1) (hfit.kid hm1) _ _ _ hl (hn.more t.vars) hc
        exact ih m hm2 (Tm.right_kid ht hm2) (hfit.kid hm2) _ _ _ (hl.app (.one ⟨rz, hvl, own.vars⟩)) (hn.app (fun x hx => by
          simp at hx; subst hx; intro v hv
          rcases List.mem_append.1 (hz v hv) with a | a
          · exact .inr a
          · exact .inl a)) h
      · cases h
    · obtain ⟨k, m, hkk⟩ := Tm.kids2 ht (by omega)
      have hm1 : k ∈ t.kids := by rw [hkk]; simp
      have hm2 : m ∈ t.kids := by rw [hkk]; simp
      have ha := own.a (by rw [hk]; rfl)
      have hb := own.b (by rw [hk]; rfl)
      rw [ck_rec hk hkk] at h
      split at h
      · split at h
        · rename_i hin
          have i1 := inS_iff.1 hin.1
          have i2 := inS_iff.1 hin.2
          have i3 : ∀ v, (Ty.mk 9 0 [t.a, t.b]).Occ v → v ∈ t.vars ++ S := occ_mk (by omega) (by
            intro u hu
            simp at hu
            rcases hu with rfl | rfl
            · exact i1
            · exact i2)
          obtain ⟨z, hc, h⟩ := bind_ok h
          split at h
          · exact ih m hm2 (Tm.right_kid ht hm2) (hfit.kid hm2) _ _ _ (hl.app (.one ⟨right_fun ha hb, hvl, own.vars⟩)) (hn.app (fun x hx => by
              simp at hx; subst hx; intro v hv
              rcases List.mem_append.1 (i3 v hv) with a | a
              · exact .inr a
              · exact .inl a)) h
          · cases h
        · cases h
      · cases h
    · exact rest (by omega)
    · obtain ⟨k, ks, hkk, hlen⟩ := Tm.kidsM ht hk
      have hm1 : k ∈ t.kids := by rw [hkk]; simp
      rw [ck_match hk hkk] at h
      obtain ⟨z, hc, h⟩ := bind_ok h
      have rz := ck_right k (Tm.right_kid ht hm1) (hfit.kid hm1) _ _ _ hl hc
      have hz := ih k hm1 (Tm.right_kid ht hm1) (hfit.kid hm1) _ _ _ hl hn hc
      -- the arms' names are right, too
      have key : ∀ {r : List (Pat × Chk)} {out : Option Ty} {w : Ty}, (∀ p ∈ r, ∀ m : List Nm, NmsOk m → NmsIn S m → ∀ u, p.2 m S = .ok u → ∀ v, u.Occ v → v ∈ S) → (∀ o, out = some o → ∀ v, o.Occ v → v ∈ S) → ckArms z l S r out = .ok w → ∀ v, w.Occ v → v ∈ S := by
        intro r
        induction r with
        | nil =>
          intro out w _ ho h
          exact ckArms_occ hz hn (r := []) (fun p hp => by cases hp) ho h
        | cons q r ihr =>
          intro out w hr ho h
          obtain ⟨p, f⟩ := q
          simp only [ckArms] at h
          cases hb : p.binds z with
          | none => rw [hb] at h; cases h
          | some b =>
            rw [hb] at h
            obtain ⟨a, hf, h⟩ := bind_ok h
            have nb : NmsIn S (b.map nmOfE) := fun x hx v hv => by
              obtain ⟨e, he, rfl⟩ := List.mem_map.1 hx
              exact .inl (Pat.binds_occ p z b hz hb e he v hv)
            have ha := hr (p, f) (List.mem_cons_self ..) _ (hl.app (NmsOk.ents (Pat.binds_right p z b rz hb))) (hn.app nb) a hf
            cases out with
            | none => exact ihr (fun p' hp' => hr p' (List.mem_cons_of_mem _ hp')) (fun o h => by cases h; exact ha) h
            | some o =>
              simp only at h
              split at h
              · exact ihr (fun p' hp' => hr p' (List.mem_cons_of_mem _ hp')) ho h
              · cases h
      refine key (fun p hp m hm hmi u hu => ?_) (fun o h => by cases h) h
      obtain ⟨k', hk', e⟩ := List.mem_map.1 (List.of_mem_zip hp).2
      have hm2 : k' ∈ t.kids := by rw [hkk]; exact List.mem_cons_of_mem _ hk'
      exact ih k' hm2 (Tm.right_kid ht hm2) (hfit.kid hm2) m S u hm hmi (by rw [e]; exact hu)
    · exact rest (by omega)
    · exact rest (by omega)

/-- A term's type is closed. -/
theorem ck_closed {t : Tm} (ht : t.right = true) (hf : t.fit) {y : Ty} (h : ck t [] [] = .ok y) : y.without 6 = true :=
  Ty.closed_iff.2 fun v hv => by
    have := ck_occ t ht hf [] [] y (fun x hx => by cases hx) (fun x hx => by cases hx) h v hv
    cases this

theorem Tm.wide_mass (t : Tm) : t.wide ≤ 2 * t.mass := by
  induction t using Tm.ind with
  | h t ih =>
    rw [Tm.wide_eq, Tm.mass_eq]
    have h1 := sum_le_sum ih
    have h2 := sum_le_sum (l := t.pats) (f := Pat.size) (g := Pat.mass) fun p _ => p.size_mass
    have h3 : (t.kids.map fun k => 2 * k.mass).sum = 2 * (t.kids.map Tm.mass).sum := by
      have : ∀ l : List Tm, (l.map fun k => 2 * k.mass).sum = 2 * (l.map Tm.mass).sum := by
        intro l
        induction l with
        | nil => rfl
        | cons a l ih => simp only [List.map_cons, List.sum_cons, ih]; omega
      exact this _
    omega

/-- A cast. -/
def castTm (a b : Ty) (t : Tm) : Tm := .mk 16 0 0 nil8 nil8 0 nil8 0 0 false [] a b [] [] [t]
theorem cast_right {a b : Ty} {t : Tm} (ha : a.right = true) (hb : b.right = true) (ht : t.right = true) : (castTm a b t).right = true := by
  have n0 : (0 : Nat) ≤ 200 := by omega
  rw [Tm.right_eq]
  simp [castTm, Tm.one, Tm.one1, Tm.one2, Tm.one3, Tm.one4, Tm.one5, Tm.lists, kOk, kKids, kName, kArg, kN, kS, kOp, kAt, kVars, kArgs, kPats, kA, kB, kLabel, namedB, typedB, nil8_size, ha, hb, ht]
theorem cast_fit {a b : Ty} {t : Tm} (ha : a.thin = true) (hb : b.thin = true) (va : a.vcount ≤ lim) (vb : b.vcount ≤ lim) (ht : t.fit) : (castTm a b t).fit := by
  refine .mk _ ⟨?_, ?_, ?_, ?_, ha, hb, va, vb, ?_, ?_, ?_, ?_, ?_, ?_⟩ fun k hk => ?_
  · show nil8.size ≤ _; rw [nil8_size]; omega
  · show nil8.size ≤ _; rw [nil8_size]; omega
  · show nil8.size ≤ _; rw [nil8_size]; omega
  · simp [castTm, lim]
  · simp [castTm, lim]
  · simp [castTm]
  · simp [castTm]
  · simp [castTm, lim]
  · simp [castTm]
  · simp [castTm, lim]
  · simp [castTm] at hk; subst hk; exact ht
theorem cast_wide (a b : Ty) (t : Tm) : (castTm a b t).wide = t.wide + 2 := by rw [Tm.wide_eq]; simp [castTm]; omega

theorem ck_cast {a b : Ty} {t : Tm} (ht : t.right = true) (ha : a.right = true) (hb : b.right = true) : ckType (castTm a b t) = (ck t [] []).bind fun y =>
    if inS [] a && inS [] b then if y = a ∧ a.agrees b = true then .ok b else .error 4 else .error 6 := by
  unfold ckType
  rw [if_pos (cast_right ha hb ht), ck_rest (.inr (.inr (.inr (.inr (.inr rfl)))))]
  have : (castTm a b t).kids = [t] := rfl
  rw [this]
  simp only [List.map_cons, List.map_nil, ckKids]
  cases ck t [] [] with
  | error e => rfl
  | ok y =>
    simp only [Except.bind]
    unfold ckOf
    have k : (castTm a b t).kind = 16 := rfl
    rw [if_neg (by rw [k]; omega), if_neg (by rw [k]; omega), if_neg (by rw [k]; omega), if_neg (by rw [k]; omega), if_neg (by rw [k]; omega), if_pos k]
    rfl

theorem inS_nil {t : Ty} : inS [] t = t.without 6 := by
  rw [Bool.eq_iff_iff, inS_iff, Ty.closed_iff]
  simp
end Go.Su

/-
  FROM A READING TO DATA: what an argument reads as lies in memory as plain data.
-/
namespace Go.Su

mutual
def bulkW {H : Type} : DataW H → Nat
  | .lit (.string bytes) => bytes.length + 1
  | .lit _ => 1
  | .nil => 1
  | .ptr d => bulkW d + 1
  | .slice elems spare => bulkAll elems + bulkAll spare + 1
  | .agg parts => bulkAll parts + 1
  | .iface _ d => bulkW d + 1
  | .map entries => bulkEntries entries + 1
  | .held _ => 1
def bulkAll {H : Type} : List (DataW H) → Nat
  | [] => 0
  | d :: r => bulkW d + bulkAll r
def bulkEntries {H : Type} : List (Lit × DataW H) → Nat
  | [] => 0
  | x :: r => bulkEntry x + bulkEntries r
def bulkEntry {H : Type} : Lit × DataW H → Nat
  | (.string bytes, d) => bytes.length + bulkW d + 1
  | (_, d) => bulkW d + 1
end

/-- All that is there. -/
def Old (w : World) : Seal := fun b _ => b < w.heap.size

section
variable {H : Type} {enc : TypeId × Value → H} {P : Program} {w : World} {held : Bool}

abbrev Rd (enc : TypeId × Value → H) (P : Program) (w : World) (held : Bool) : Nat → TypeId → List Value → Option (DataW H × List MemPlace) := DataW.trod enc P w 0 (fun _ => true) held

theorem bulkAll_ge {l : List (DataW H)} {m : List Nat} (h1 : m.length = l.length) (h2 : ∀ (i : Nat) (a : Nat) (d : DataW H), m[i]? = some a → l[i]? = some d → a ≤ bulkW d) : m.sum ≤ bulkAll l := by
  induction l generalizing m with
  | nil => cases m <;> simp_all
  | cons d l ih =>
    cases m with
    | nil => simp at h1
    | cons a m =>
      simp only [List.sum_cons, bulkAll]
      have h3 := h2 0 a d rfl rfl
      have h4 := ih (m := m) (by simpa using h1) fun i a d ha hd => h2 (i + 1) a d (by simpa using ha) (by simpa using hd)
      omega

theorem add_block (a : Addr) (k : Nat) : (a.add k).block = a.block := by unfold Addr.add; split <;> rfl
theorem add_off (a : Addr) (k : Nat) : (a.add k).off = a.off + k := by unfold Addr.add; split <;> simp_all

theorem rd_cells {a : Addr} {n : Nat} {cs : List Value} (h : w.cells? 0 a n = some cs) (hn : 0 < n) : a.spot = none ∧ cs.length = n ∧ At (Old w) w.heap a.block a.off cs := by
  obtain ⟨-, hl, hc⟩ := World.cells?_some h
  have hs : a.spot = none := by
    have h0 := hc 0 hn
    have : cs[0]? = some (cs[0]'(by omega)) := List.getElem?_eq_getElem (by omega)
    rw [this] at h0
    unfold World.cell? at h0
    split at h0
    · split at h0
      · cases h0
      · rename_i hsp
        simpa [Addr.add] using hsp
    · cases h0
  refine ⟨hs, hl, fun j v hv => ?_⟩
  have hj : j < n := by rw [← hl]; exact (List.getElem?_eq_some_iff.1 hv).1
  have h1 := hc j hj
  have e : a.add j = ⟨a.block, a.off + j, none⟩ := by
    unfold Addr.add
    split
    · rename_i h0; cases a; simp only at hs; subst hs; simp [h0]
    · rfl
  rw [e, cell_hc, hv] at h1
  refine ⟨h1, ?_⟩
  unfold Su.hc at h1
  split at h1
  · rename_i hb
    exact (Array.getElem?_eq_some_iff.1 hb).1
  · cases h1

theorem rd_slice {α : Type} {e : α → DV} {sz : α → Nat} {el t : TypeId} {fuel : Nat} {cs : List Value} {x : DataW H × List MemPlace} (ht : P.underlying t = some (.slice el)) (hz : 0 < P.cellsOf el)
    (h : ∀ n cs x, n < fuel → Rd enc P w held n el cs = some x → ∃ a : α, RC (Old w) w.heap (e a) cs ∧ sz a ≤ bulkW x.1) (hr : Rd enc P w held fuel t cs = some x) :
    ∃ l : List α, RC (Old w) w.heap (.list (P.cellsOf el) (l.map e)) cs ∧ (l.map sz).sum + 1 ≤ bulkW x.1 := by
  rcases DataW.trod_slice ht hr with ⟨rfl, rfl⟩ | ⟨a, len, cap, elems, rest, n, rfl, rfl, rfl, hb, hlc, hcm, hel, hi, hsp, -⟩
  · refine ⟨[], ?_, by simp [bulkW]⟩
    simp only [RC, List.map_nil]
    exact ⟨none, 0, 0, rfl, rfl, Nat.le_refl _, fun _ => rfl, by simp, by simp⟩
  · have each : ∀ i : Fin len, ∃ y : α, ((i.1 = 0 → a.spot = none) ∧ Elem (Old w) w.heap (P.cellsOf el) a.block (a.off + i.1 * P.cellsOf el) (e y)) ∧ ∀ d, (elems.map (·.1))[i.1]? = some d → sz y ≤ bulkW d := by
      intro i
      have h1 := hi i.1 i.2
      have h2 : elems[i.1]? = some (elems[i.1]'(by omega)) := List.getElem?_eq_getElem (by omega)
      rw [h2] at h1
      obtain ⟨cs', h3, h4⟩ := Option.bind_eq_some_iff.1 h1
      obtain ⟨y, h5, h6⟩ := h n cs' _ (Nat.lt_succ_self n) h4
      obtain ⟨q1, q2, q3⟩ := rd_cells h3 hz
      rw [add_block, add_off] at q3
      refine ⟨y, ⟨fun h0 => by rw [h0] at q1; simpa [Addr.add] using q1, cs', q2, q3, h5⟩, fun d hd => ?_⟩
      rw [List.getElem?_map, h2] at hd
      simp only [Option.map_some, Option.some.injEq] at hd
      rw [← hd]
      exact h6
    let f : Fin len → α := fun i => (each i).choose
    have hf := fun i : Fin len => (each i).choose_spec
    refine ⟨List.ofFn f, ?_, ?_⟩
    · simp only [RC]
      refine ⟨some a, len, cap, rfl, by simp, hlc, by simp, fun _ => hz, fun y hy => ?_⟩
      simp only [Option.some.injEq] at hy
      subst hy
      refine ⟨fun hcap => ?_, ?_⟩
      · by_cases hl : 0 < len
        · exact (hf ⟨0, hl⟩).1.1 rfl
        · obtain ⟨r1, r2⟩ := hsp rfl
          have h1 := r2 0 (by omega)
          have h2 : rest[0]? = some (rest[0]'(by omega)) := List.getElem?_eq_getElem (by omega)
          rw [h2] at h1
          obtain ⟨cs', h3, -⟩ := Option.bind_eq_some_iff.1 h1
          have hl0 : len = 0 := by omega
          have := (rd_cells h3 hz).1
          simpa [Addr.add, hl0] using this
      · rw [RElems_iff]
        intro i d hd
        rw [List.getElem?_map, Option.map_eq_some_iff] at hd
        obtain ⟨y, hy, rfl⟩ := hd
        have hlt : i < len := by have := (List.getElem?_eq_some_iff.1 hy).1; simpa using this
        rw [List.getElem?_ofFn, dif_pos hlt] at hy
        simp only [Option.some.injEq] at hy
        subst hy
        exact (hf ⟨i, hlt⟩).1.2
    · simp only [bulkW]
      have := bulkAll_ge (l := elems.map (·.1)) (m := (List.ofFn f).map sz) (by simp [hel]) fun i b d hb hd => by
        rw [List.getElem?_map, Option.map_eq_some_iff] at hb
        obtain ⟨y, hy, rfl⟩ := hb
        have hlt : i < len := by have := (List.getElem?_eq_some_iff.1 hy).1; simpa using this
        rw [List.getElem?_ofFn, dif_pos hlt] at hy
        simp only [Option.some.injEq] at hy
        subst hy
        exact (hf ⟨i, hlt⟩).2 d hd
      omega

theorem RLs_append {S : Seal} {h : Heap} : ∀ {a b : List DV} {p q : List Value}, RLs S h a p → RLs S h b q → RLs S h (a ++ b) (p ++ q)
  | [], b, p, q, ha, hb => by simp only [RLs] at ha; subst ha; simpa using hb
  | d :: a, b, p, q, ha, hb => by
    simp only [RLs] at ha
    obtain ⟨v, vs', rfl, h1, h2, h3⟩ := ha
    simp only [List.cons_append, RLs]
    exact ⟨v, vs' ++ q, rfl, h1, h2, RLs_append h3 hb⟩

theorem RLs_one {S : Seal} {h : Heap} {d : DV} {cs : List Value} (hd : isLeaf d = true) (hr : RC S h d cs) : RLs S h [d] cs := by
  obtain ⟨v, rfl⟩ := RC_leaf hd hr
  exact ⟨v, [], rfl, hd, hr, rfl⟩

/-- What the fields of a struct read as, one by one. -/
theorem rd_struct {fs : Array Field} {t : TypeId} {fuel : Nat} {cs : List Value} {x : DataW H × List MemPlace} (ht : P.underlying t = some (.struct fs)) (hr : Rd enc P w held fuel t cs = some x) :
    ∃ (n : Nat) (ds : List (DataW H)), fuel = n + 1 ∧ bulkW x.1 = bulkAll ds + 1 ∧ cs.length = P.cellsOf t ∧ ds.length = fs.size ∧
      ∀ (i : Nat) f, fs[i]? = some f → ∃ y, Rd enc P w held n f.type ((cs.drop f.offset).take (P.cellsOf f.type)) = some y ∧ ds[i]? = some y.1 := by
  obtain ⟨xs, n, rfl, rfl, h1, h2, h3⟩ := DataW.trod_struct ht hr
  refine ⟨n, xs.map (·.1), rfl, by simp [bulkW], h1, by simpa using h2, fun i f hf => ?_⟩
  have hi : i < xs.length := by rw [h2]; exact (Array.getElem?_eq_some_iff.1 hf).1
  refine ⟨xs[i], ?_, by simp [List.getElem?_eq_getElem hi]⟩
  have h4 := h3 i f hf
  rw [List.getElem?_eq_getElem hi] at h4
  exact h4

theorem rd_int {k : IntKind} {t : TypeId} {fuel : Nat} {cs : List Value} {x : DataW H × List MemPlace} (ht : P.underlying t = some (.int k)) (hr : Rd enc P w held fuel t cs = some x) : ∃ n : Int, RC (Old w) w.heap (.int k n) cs ∧ (Lit.int k n).wf = true ∧ 1 ≤ bulkW x.1 := by
  obtain ⟨n, rfl, rfl, hw⟩ := DataW.trod_int ht hr
  exact ⟨n, by simp only [RC], hw, by simp [bulkW]⟩

theorem rd_bool {t : TypeId} {fuel : Nat} {cs : List Value} {x : DataW H × List MemPlace} (ht : P.underlying t = some .bool) (hr : Rd enc P w held fuel t cs = some x) : ∃ b : Bool, RC (Old w) w.heap (.bool b) cs ∧ 1 ≤ bulkW x.1 := by
  obtain ⟨b, rfl, rfl⟩ := DataW.trod_bool ht hr
  exact ⟨b, by simp only [RC], by simp [bulkW]⟩

theorem rd_str {t : TypeId} {fuel : Nat} {cs : List Value} {x : DataW H × List MemPlace} (ht : P.underlying t = some .string) (hr : Rd enc P w held fuel t cs = some x) : ∃ s : ByteArray, RC (Old w) w.heap (.str s) cs ∧ s.size + 1 ≤ bulkW x.1 := by
  obtain ⟨s, rfl, rfl, hw⟩ := DataW.trod_string ht hr
  exact ⟨s, by simp only [RC], by simp [bulkW]⟩

theorem bulkW_pos (d : DataW H) : 1 ≤ bulkW d := by
  cases d with
  | lit l => cases l <;> simp [bulkW]
  | _ => simp [bulkW]

theorem bulk_part {ds : List (DataW H)} {i : Nat} {d : DataW H} (h : ds[i]? = some d) : bulkW d ≤ bulkAll ds := by
  induction ds generalizing i with
  | nil => simp at h
  | cons a ds ih =>
    cases i with
    | zero => simp at h; subst h; simp only [bulkAll]; omega
    | succ i => simp at h; have := ih h; simp only [bulkAll]; omega

end
end Go.Su

/-
  FROM A READING TO DATA: the program's types, one by one. By program.
-/
namespace Go.Su
set_option linter.unusedSimpArgs false
set_option linter.unusedVariables false

def IntAt (P : Program) (t : TypeId) : Prop := P.underlying t = some (.int .i64) ∧ P.cellsOf t = 1
def StrAt (P : Program) (t : TypeId) : Prop := P.underlying t = some .string ∧ P.cellsOf t = 1
def BoolAt (P : Program) (t : TypeId) : Prop := P.underlying t = some .bool ∧ P.cellsOf t = 1
def SliceAt (P : Program) (t el : TypeId) : Prop := P.underlying t = some (.slice el) ∧ P.cellsOf t = 1
def SpanAt (P : Program) (t : TypeId) : Prop := ∃ f0 f1 : Field, P.underlying t = some (.struct #[f0, f1]) ∧ P.cellsOf t = 2 ∧ (IntAt P f0.type ∧ f0.offset = 0) ∧ (IntAt P f1.type ∧ f1.offset = 1)
def IntsAt (P : Program) (t : TypeId) : Prop := ∃ el, SliceAt P t el ∧ IntAt P el

section
variable {H : Type} {enc : TypeId × Value → H} {P : Program} {w : World} {held : Bool}

theorem rd_ints {t : TypeId} (A : IntsAt P t) {fuel : Nat} {cs : List Value} {x : DataW H × List MemPlace} (hr : Rd enc P w held fuel t cs = some x) : ∃ l : List Int, RC (Old w) w.heap (encInts l) cs ∧ l.length + 1 ≤ bulkW x.1 := by
  obtain ⟨el, A1, A2⟩ := A
  obtain ⟨l, h1, h2⟩ := rd_slice (e := fun n : Int => .int .i64 n) (sz := fun _ => 1) A1.1 (by rw [A2.2]; omega) (fun n cs x _ h => by obtain ⟨n, h1, -, h2⟩ := rd_int A2.1 h; exact ⟨n, h1, h2⟩) hr
  rw [A2.2] at h1
  have h3 : ∀ l : List Int, (l.map fun _ => 1).sum = l.length := by
    intro l
    induction l with
    | nil => rfl
    | cons a l ih => simp only [List.map_cons, List.sum_cons, ih, List.length_cons]; omega
  rw [h3] at h2
  exact ⟨l, h1, h2⟩

theorem rd_span {t : TypeId} (A : SpanAt P t) {fuel : Nat} {cs : List Value} {x : DataW H × List MemPlace} (hr : Rd enc P w held fuel t cs = some x) : ∃ a b : Int, RLs (Old w) w.heap [.int .i64 a, .int .i64 b] cs ∧ 1 ≤ bulkW x.1 := by
  obtain ⟨f0, f1, hu, hc, ⟨t0, o0⟩, t1, o1⟩ := A
  obtain ⟨n, ds, rfl, hb, hl, hd, hf⟩ := rd_struct hu hr
  obtain ⟨y0, r0, d0⟩ := hf 0 f0 rfl
  obtain ⟨y1, r1, d1⟩ := hf 1 f1 rfl
  rw [o0, t0.2] at r0
  rw [o1, t1.2] at r1
  rw [hc] at hl
  obtain ⟨k, q0, -, b0⟩ := rd_int t0.1 r0
  obtain ⟨m, q1, -, b1⟩ := rd_int t1.1 r1
  refine ⟨k, m, ?_, bulkW_pos _⟩
  have e : cs = (cs.drop 0).take 1 ++ (cs.drop 1).take 1 := by
    match cs, hl with
    | [a, b], _ => rfl
  rw [e]
  exact RLs_append (a := [_]) (RLs_one rfl q0) (RLs_one rfl q1)

def TyAt (P : Program) (t : TypeId) : Prop := ∃ f0 f1 f2 : Field, P.underlying t = some (.struct #[f0, f1, f2]) ∧ P.cellsOf t = 3 ∧ (IntAt P f0.type ∧ f0.offset = 0) ∧ (IntAt P f1.type ∧ f1.offset = 1) ∧ (SliceAt P f2.type t ∧ f2.offset = 2)
theorem TyAt.cells {t : TypeId} (A : TyAt P t) : P.cellsOf t = 3 := by obtain ⟨_, _, _, _, h, _⟩ := A; exact h
theorem rd_Ty {t : TypeId} (A : TyAt P t) : ∀ (fuel : Nat) (cs : List Value) (x : DataW H × List MemPlace), Rd enc P w held fuel t cs = some x → ∃ a : Ty, RC (Old w) w.heap a.enc cs ∧ a.size ≤ bulkW x.1 := by
  intro fuel
  induction fuel using Nat.strongRecOn with
  | ind fuel ih =>
    intro cs x hr
    have A0 := A
    obtain ⟨f0, f1, f2, hu, hc, ⟨t0, o0⟩, ⟨t1, o1⟩, t2, o2⟩ := A
    obtain ⟨n, ds, rfl, hb, hl, hd, hf⟩ := rd_struct hu hr
    rw [hc] at hl
    obtain ⟨y0, r0, d0⟩ := hf 0 f0 rfl
    rw [o0, t0.2] at r0
    obtain ⟨v0, q0, -, b0⟩ := rd_int t0.1 r0
    obtain ⟨y1, r1, d1⟩ := hf 1 f1 rfl
    rw [o1, t1.2] at r1
    obtain ⟨v1, q1, -, b1⟩ := rd_int t1.1 r1
    obtain ⟨y2, r2, d2⟩ := hf 2 f2 rfl
    rw [o2, t2.2] at r2
    obtain ⟨v2, q2, b2⟩ := rd_slice (sz := Ty.size) t2.1 (by rw [hc]; omega) (fun n' cs x hn h => ih n' (by omega) cs x h) r2
    rw [hc] at q2
    refine ⟨.mk v0 v1 v2, ?_, ?_⟩
    · rw [Ty.enc_eq]
      simp only [RC, Ty.kind_mk, Ty.n_mk, Ty.kids_mk]
      have e : cs = (cs.drop 0).take 1 ++ ((cs.drop 1).take 1 ++ ((cs.drop 2).take 1)) := by
        match cs, hl with
        | [c0, c1, c2], _ => rfl
      rw [e]
      exact (RLs_append (a := [_]) (RLs_one rfl q0) (RLs_append (a := [_]) (RLs_one rfl q1) (RLs_one rfl q2)))
    · rw [Ty.size_eq, hb]
      simp only [Ty.kind_mk, Ty.n_mk, Ty.kids_mk]
      have hs : ds = [y0.1, y1.1, y2.1] := by
        have hd : ds.length = 3 := hd
        match ds, hd, d0, d1, d2 with
        | [a0, a1, a2], _, d0, d1, d2 => simp_all
      rw [hs]
      simp only [bulkAll]
      omega

def PatAt (P : Program) (t : TypeId) : Prop := ∃ f0 f1 f2 f3 f4 f5 : Field, P.underlying t = some (.struct #[f0, f1, f2, f3, f4, f5]) ∧ P.cellsOf t = 7 ∧ (IntAt P f0.type ∧ f0.offset = 0) ∧ (SpanAt P f1.type ∧ f1.offset = 1) ∧ (StrAt P f2.type ∧ f2.offset = 3) ∧ (IntAt P f3.type ∧ f3.offset = 4) ∧ (StrAt P f4.type ∧ f4.offset = 5) ∧ (SliceAt P f5.type t ∧ f5.offset = 6)
theorem PatAt.cells {t : TypeId} (A : PatAt P t) : P.cellsOf t = 7 := by obtain ⟨_, _, _, _, _, _, _, h, _⟩ := A; exact h
theorem rd_Pat {t : TypeId} (A : PatAt P t) : ∀ (fuel : Nat) (cs : List Value) (x : DataW H × List MemPlace), Rd enc P w held fuel t cs = some x → ∃ a : Pat, RC (Old w) w.heap a.enc cs ∧ a.mass ≤ bulkW x.1 := by
  intro fuel
  induction fuel using Nat.strongRecOn with
  | ind fuel ih =>
    intro cs x hr
    have A0 := A
    obtain ⟨f0, f1, f2, f3, f4, f5, hu, hc, ⟨t0, o0⟩, ⟨t1, o1⟩, ⟨t2, o2⟩, ⟨t3, o3⟩, ⟨t4, o4⟩, t5, o5⟩ := A
    obtain ⟨n, ds, rfl, hb, hl, hd, hf⟩ := rd_struct hu hr
    rw [hc] at hl
    obtain ⟨y0, r0, d0⟩ := hf 0 f0 rfl
    rw [o0, t0.2] at r0
    obtain ⟨v0, q0, -, b0⟩ := rd_int t0.1 r0
    obtain ⟨y1, r1, d1⟩ := hf 1 f1 rfl
    obtain ⟨g10, g11, gu1, gc1, gr1⟩ := id t1
    rw [o1, gc1] at r1
    obtain ⟨v1, v1b, q1, b1⟩ := rd_span t1 r1
    obtain ⟨y2, r2, d2⟩ := hf 2 f2 rfl
    rw [o2, t2.2] at r2
    obtain ⟨v2, q2, b2⟩ := rd_str t2.1 r2
    obtain ⟨y3, r3, d3⟩ := hf 3 f3 rfl
    rw [o3, t3.2] at r3
    obtain ⟨v3, q3, -, b3⟩ := rd_int t3.1 r3
    obtain ⟨y4, r4, d4⟩ := hf 4 f4 rfl
    rw [o4, t4.2] at r4
    obtain ⟨v4, q4, b4⟩ := rd_str t4.1 r4
    obtain ⟨y5, r5, d5⟩ := hf 5 f5 rfl
    rw [o5, t5.2] at r5
    obtain ⟨v5, q5, b5⟩ := rd_slice (sz := Pat.mass) t5.1 (by rw [hc]; omega) (fun n' cs x hn h => ih n' (by omega) cs x h) r5
    rw [hc] at q5
    refine ⟨.mk v0 v1 v1b v2 v3 v4 v5, ?_, ?_⟩
    · rw [Pat.enc_eq]
      simp only [RC, Pat.kind_mk, Pat.lo_mk, Pat.hi_mk, Pat.name_mk, Pat.n_mk, Pat.s_mk, Pat.kids_mk]
      have e : cs = (cs.drop 0).take 1 ++ ((cs.drop 1).take 2 ++ ((cs.drop 3).take 1 ++ ((cs.drop 4).take 1 ++ ((cs.drop 5).take 1 ++ ((cs.drop 6).take 1))))) := by
        match cs, hl with
        | [c0, c1, c2, c3, c4, c5, c6], _ => rfl
      rw [e]
      exact (RLs_append (a := [_]) (RLs_one rfl q0) (RLs_append (a := [_, _]) (q1) (RLs_append (a := [_]) (RLs_one rfl q2) (RLs_append (a := [_]) (RLs_one rfl q3) (RLs_append (a := [_]) (RLs_one rfl q4) (RLs_one rfl q5))))))
    · rw [Pat.mass_eq, hb]
      simp only [Pat.kind_mk, Pat.lo_mk, Pat.hi_mk, Pat.name_mk, Pat.n_mk, Pat.s_mk, Pat.kids_mk]
      have hs : ds = [y0.1, y1.1, y2.1, y3.1, y4.1, y5.1] := by
        have hd : ds.length = 6 := hd
        match ds, hd, d0, d1, d2, d3, d4, d5 with
        | [a0, a1, a2, a3, a4, a5], _, d0, d1, d2, d3, d4, d5 => simp_all
      rw [hs]
      simp only [bulkAll]
      omega

def ExAt (P : Program) (t : TypeId) : Prop := ∃ f0 f1 f2 f3 f4 f5 f6 f7 f8 f9 f10 : Field, P.underlying t = some (.struct #[f0, f1, f2, f3, f4, f5, f6, f7, f8, f9, f10]) ∧ P.cellsOf t = 16 ∧ (IntAt P f0.type ∧ f0.offset = 0) ∧ (SpanAt P f1.type ∧ f1.offset = 1) ∧ (StrAt P f2.type ∧ f2.offset = 3) ∧ (StrAt P f3.type ∧ f3.offset = 4) ∧ (IntAt P f4.type ∧ f4.offset = 5) ∧ (StrAt P f5.type ∧ f5.offset = 6) ∧ (IntAt P f6.type ∧ f6.offset = 7) ∧ (TyAt P f7.type ∧ f7.offset = 8) ∧ (TyAt P f8.type ∧ f8.offset = 11) ∧ ((∃ el, SliceAt P f9.type el ∧ PatAt P el) ∧ f9.offset = 14) ∧ (SliceAt P f10.type t ∧ f10.offset = 15)
theorem ExAt.cells {t : TypeId} (A : ExAt P t) : P.cellsOf t = 16 := by obtain ⟨_, _, _, _, _, _, _, _, _, _, _, _, h, _⟩ := A; exact h
theorem rd_Ex {t : TypeId} (A : ExAt P t) : ∀ (fuel : Nat) (cs : List Value) (x : DataW H × List MemPlace), Rd enc P w held fuel t cs = some x → ∃ a : Ex, RC (Old w) w.heap a.enc cs ∧ a.mass ≤ bulkW x.1 := by
  intro fuel
  induction fuel using Nat.strongRecOn with
  | ind fuel ih =>
    intro cs x hr
    have A0 := A
    obtain ⟨f0, f1, f2, f3, f4, f5, f6, f7, f8, f9, f10, hu, hc, ⟨t0, o0⟩, ⟨t1, o1⟩, ⟨t2, o2⟩, ⟨t3, o3⟩, ⟨t4, o4⟩, ⟨t5, o5⟩, ⟨t6, o6⟩, ⟨t7, o7⟩, ⟨t8, o8⟩, ⟨t9, o9⟩, t10, o10⟩ := A
    obtain ⟨n, ds, rfl, hb, hl, hd, hf⟩ := rd_struct hu hr
    rw [hc] at hl
    obtain ⟨y0, r0, d0⟩ := hf 0 f0 rfl
    rw [o0, t0.2] at r0
    obtain ⟨v0, q0, -, b0⟩ := rd_int t0.1 r0
    obtain ⟨y1, r1, d1⟩ := hf 1 f1 rfl
    obtain ⟨g10, g11, gu1, gc1, gr1⟩ := id t1
    rw [o1, gc1] at r1
    obtain ⟨v1, v1b, q1, b1⟩ := rd_span t1 r1
    obtain ⟨y2, r2, d2⟩ := hf 2 f2 rfl
    rw [o2, t2.2] at r2
    obtain ⟨v2, q2, b2⟩ := rd_str t2.1 r2
    obtain ⟨y3, r3, d3⟩ := hf 3 f3 rfl
    rw [o3, t3.2] at r3
    obtain ⟨v3, q3, b3⟩ := rd_str t3.1 r3
    obtain ⟨y4, r4, d4⟩ := hf 4 f4 rfl
    rw [o4, t4.2] at r4
    obtain ⟨v4, q4, -, b4⟩ := rd_int t4.1 r4
    obtain ⟨y5, r5, d5⟩ := hf 5 f5 rfl
    rw [o5, t5.2] at r5
    obtain ⟨v5, q5, b5⟩ := rd_str t5.1 r5
    obtain ⟨y6, r6, d6⟩ := hf 6 f6 rfl
    rw [o6, t6.2] at r6
    obtain ⟨v6, q6, -, b6⟩ := rd_int t6.1 r6
    obtain ⟨y7, r7, d7⟩ := hf 7 f7 rfl
    rw [o7, t7.cells] at r7
    obtain ⟨v7, q7, b7⟩ := rd_Ty t7 _ _ _ r7
    rw [Ty.enc_eq] at q7
    simp only [RC] at q7
    obtain ⟨y8, r8, d8⟩ := hf 8 f8 rfl
    rw [o8, t8.cells] at r8
    obtain ⟨v8, q8, b8⟩ := rd_Ty t8 _ _ _ r8
    rw [Ty.enc_eq] at q8
    simp only [RC] at q8
    obtain ⟨y9, r9, d9⟩ := hf 9 f9 rfl
    obtain ⟨e9, s9, z9⟩ := t9
    rw [o9, s9.2] at r9
    obtain ⟨v9, q9, b9⟩ := rd_slice (sz := Pat.mass) s9.1 (by rw [z9.cells]; omega) (fun n' cs x hn h => rd_Pat z9 n' cs x h) r9
    rw [z9.cells] at q9
    obtain ⟨y10, r10, d10⟩ := hf 10 f10 rfl
    rw [o10, t10.2] at r10
    obtain ⟨v10, q10, b10⟩ := rd_slice (sz := Ex.mass) t10.1 (by rw [hc]; omega) (fun n' cs x hn h => ih n' (by omega) cs x h) r10
    rw [hc] at q10
    refine ⟨.mk v0 v1 v1b v2 v3 v4 v5 v6 v7 v8 v9 v10, ?_, ?_⟩
    · rw [Ex.enc_eq]
      simp only [RC, Ex.kind_mk, Ex.lo_mk, Ex.hi_mk, Ex.name_mk, Ex.arg_mk, Ex.n_mk, Ex.s_mk, Ex.op_mk, Ex.a_mk, Ex.b_mk, Ex.pats_mk, Ex.kids_mk]
      have e : cs = (cs.drop 0).take 1 ++ ((cs.drop 1).take 2 ++ ((cs.drop 3).take 1 ++ ((cs.drop 4).take 1 ++ ((cs.drop 5).take 1 ++ ((cs.drop 6).take 1 ++ ((cs.drop 7).take 1 ++ ((cs.drop 8).take 3 ++ ((cs.drop 11).take 3 ++ ((cs.drop 14).take 1 ++ ((cs.drop 15).take 1)))))))))) := by
        match cs, hl with
        | [c0, c1, c2, c3, c4, c5, c6, c7, c8, c9, c10, c11, c12, c13, c14, c15], _ => rfl
      rw [e]
      exact (RLs_append (a := [_]) (RLs_one rfl q0) (RLs_append (a := [_, _]) (q1) (RLs_append (a := [_]) (RLs_one rfl q2) (RLs_append (a := [_]) (RLs_one rfl q3) (RLs_append (a := [_]) (RLs_one rfl q4) (RLs_append (a := [_]) (RLs_one rfl q5) (RLs_append (a := [_]) (RLs_one rfl q6) (RLs_append (a := [_, _, _]) (q7) (RLs_append (a := [_, _, _]) (q8) (RLs_append (a := [_]) (RLs_one rfl q9) (RLs_one rfl q10)))))))))))
    · rw [Ex.mass_eq, hb]
      simp only [Ex.kind_mk, Ex.lo_mk, Ex.hi_mk, Ex.name_mk, Ex.arg_mk, Ex.n_mk, Ex.s_mk, Ex.op_mk, Ex.a_mk, Ex.b_mk, Ex.pats_mk, Ex.kids_mk]
      have hs : ds = [y0.1, y1.1, y2.1, y3.1, y4.1, y5.1, y6.1, y7.1, y8.1, y9.1, y10.1] := by
        have hd : ds.length = 11 := hd
        match ds, hd, d0, d1, d2, d3, d4, d5, d6, d7, d8, d9, d10 with
        | [a0, a1, a2, a3, a4, a5, a6, a7, a8, a9, a10], _, d0, d1, d2, d3, d4, d5, d6, d7, d8, d9, d10 => simp_all
      rw [hs]
      simp only [bulkAll]
      omega

def TmAt (P : Program) (t : TypeId) : Prop := ∃ f0 f1 f2 f3 f4 f5 f6 f7 f8 f9 f10 f11 f12 f13 f14 : Field, P.underlying t = some (.struct #[f0, f1, f2, f3, f4, f5, f6, f7, f8, f9, f10, f11, f12, f13, f14]) ∧ P.cellsOf t = 20 ∧ (IntAt P f0.type ∧ f0.offset = 0) ∧ (SpanAt P f1.type ∧ f1.offset = 1) ∧ (StrAt P f2.type ∧ f2.offset = 3) ∧ (StrAt P f3.type ∧ f3.offset = 4) ∧ (IntAt P f4.type ∧ f4.offset = 5) ∧ (StrAt P f5.type ∧ f5.offset = 6) ∧ (IntAt P f6.type ∧ f6.offset = 7) ∧ (IntAt P f7.type ∧ f7.offset = 8) ∧ (BoolAt P f8.type ∧ f8.offset = 9) ∧ (IntsAt P f9.type ∧ f9.offset = 10) ∧ (TyAt P f10.type ∧ f10.offset = 11) ∧ (TyAt P f11.type ∧ f11.offset = 14) ∧ ((∃ el, SliceAt P f12.type el ∧ TyAt P el) ∧ f12.offset = 17) ∧ ((∃ el, SliceAt P f13.type el ∧ PatAt P el) ∧ f13.offset = 18) ∧ (SliceAt P f14.type t ∧ f14.offset = 19)
theorem TmAt.cells {t : TypeId} (A : TmAt P t) : P.cellsOf t = 20 := by obtain ⟨_, _, _, _, _, _, _, _, _, _, _, _, _, _, _, _, h, _⟩ := A; exact h
theorem rd_Tm {t : TypeId} (A : TmAt P t) : ∀ (fuel : Nat) (cs : List Value) (x : DataW H × List MemPlace), Rd enc P w held fuel t cs = some x → ∃ a : Tm, RC (Old w) w.heap a.enc cs ∧ a.mass ≤ bulkW x.1 := by
  intro fuel
  induction fuel using Nat.strongRecOn with
  | ind fuel ih =>
    intro cs x hr
    have A0 := A
    obtain ⟨f0, f1, f2, f3, f4, f5, f6, f7, f8, f9, f10, f11, f12, f13, f14, hu, hc, ⟨t0, o0⟩, ⟨t1, o1⟩, ⟨t2, o2⟩, ⟨t3, o3⟩, ⟨t4, o4⟩, ⟨t5, o5⟩, ⟨t6, o6⟩, ⟨t7, o7⟩, ⟨t8, o8⟩, ⟨t9, o9⟩, ⟨t10, o10⟩, ⟨t11, o11⟩, ⟨t12, o12⟩, ⟨t13, o13⟩, t14, o14⟩ := A
    obtain ⟨n, ds, rfl, hb, hl, hd, hf⟩ := rd_struct hu hr
    rw [hc] at hl
    obtain ⟨y0, r0, d0⟩ := hf 0 f0 rfl
    rw [o0, t0.2] at r0
    obtain ⟨v0, q0, -, b0⟩ := rd_int t0.1 r0
    obtain ⟨y1, r1, d1⟩ := hf 1 f1 rfl
    obtain ⟨g10, g11, gu1, gc1, gr1⟩ := id t1
    rw [o1, gc1] at r1
    obtain ⟨v1, v1b, q1, b1⟩ := rd_span t1 r1
    obtain ⟨y2, r2, d2⟩ := hf 2 f2 rfl
    rw [o2, t2.2] at r2
    obtain ⟨v2, q2, b2⟩ := rd_str t2.1 r2
    obtain ⟨y3, r3, d3⟩ := hf 3 f3 rfl
    rw [o3, t3.2] at r3
    obtain ⟨v3, q3, b3⟩ := rd_str t3.1 r3
    obtain ⟨y4, r4, d4⟩ := hf 4 f4 rfl
    rw [o4, t4.2] at r4
    obtain ⟨v4, q4, -, b4⟩ := rd_int t4.1 r4
    obtain ⟨y5, r5, d5⟩ := hf 5 f5 rfl
    rw [o5, t5.2] at r5
    obtain ⟨v5, q5, b5⟩ := rd_str t5.1 r5
    obtain ⟨y6, r6, d6⟩ := hf 6 f6 rfl
    rw [o6, t6.2] at r6
    obtain ⟨v6, q6, -, b6⟩ := rd_int t6.1 r6
    obtain ⟨y7, r7, d7⟩ := hf 7 f7 rfl
    rw [o7, t7.2] at r7
    obtain ⟨v7, q7, -, b7⟩ := rd_int t7.1 r7
    obtain ⟨y8, r8, d8⟩ := hf 8 f8 rfl
    rw [o8, t8.2] at r8
    obtain ⟨v8, q8, b8⟩ := rd_bool t8.1 r8
    obtain ⟨y9, r9, d9⟩ := hf 9 f9 rfl
    obtain ⟨e9, s9, z9⟩ := id t9
    rw [o9, s9.2] at r9
    obtain ⟨v9, q9, b9⟩ := rd_ints t9 r9
    obtain ⟨y10, r10, d10⟩ := hf 10 f10 rfl
    rw [o10, t10.cells] at r10
    obtain ⟨v10, q10, b10⟩ := rd_Ty t10 _ _ _ r10
    rw [Ty.enc_eq] at q10
    simp only [RC] at q10
    obtain ⟨y11, r11, d11⟩ := hf 11 f11 rfl
    rw [o11, t11.cells] at r11
    obtain ⟨v11, q11, b11⟩ := rd_Ty t11 _ _ _ r11
    rw [Ty.enc_eq] at q11
    simp only [RC] at q11
    obtain ⟨y12, r12, d12⟩ := hf 12 f12 rfl
    obtain ⟨e12, s12, z12⟩ := t12
    rw [o12, s12.2] at r12
    obtain ⟨v12, q12, b12⟩ := rd_slice (sz := Ty.size) s12.1 (by rw [z12.cells]; omega) (fun n' cs x hn h => rd_Ty z12 n' cs x h) r12
    rw [z12.cells] at q12
    obtain ⟨y13, r13, d13⟩ := hf 13 f13 rfl
    obtain ⟨e13, s13, z13⟩ := t13
    rw [o13, s13.2] at r13
    obtain ⟨v13, q13, b13⟩ := rd_slice (sz := Pat.mass) s13.1 (by rw [z13.cells]; omega) (fun n' cs x hn h => rd_Pat z13 n' cs x h) r13
    rw [z13.cells] at q13
    obtain ⟨y14, r14, d14⟩ := hf 14 f14 rfl
    rw [o14, t14.2] at r14
    obtain ⟨v14, q14, b14⟩ := rd_slice (sz := Tm.mass) t14.1 (by rw [hc]; omega) (fun n' cs x hn h => ih n' (by omega) cs x h) r14
    rw [hc] at q14
    refine ⟨.mk v0 v1 v1b v2 v3 v4 v5 v6 v7 v8 v9 v10 v11 v12 v13 v14, ?_, ?_⟩
    · rw [Tm.enc_eq]
      simp only [RC, Tm.kind_mk, Tm.lo_mk, Tm.hi_mk, Tm.name_mk, Tm.arg_mk, Tm.n_mk, Tm.s_mk, Tm.op_mk, Tm.label_mk, Tm.neg_mk, Tm.vars_mk, Tm.a_mk, Tm.b_mk, Tm.args_mk, Tm.pats_mk, Tm.kids_mk]
      have e : cs = (cs.drop 0).take 1 ++ ((cs.drop 1).take 2 ++ ((cs.drop 3).take 1 ++ ((cs.drop 4).take 1 ++ ((cs.drop 5).take 1 ++ ((cs.drop 6).take 1 ++ ((cs.drop 7).take 1 ++ ((cs.drop 8).take 1 ++ ((cs.drop 9).take 1 ++ ((cs.drop 10).take 1 ++ ((cs.drop 11).take 3 ++ ((cs.drop 14).take 3 ++ ((cs.drop 17).take 1 ++ ((cs.drop 18).take 1 ++ ((cs.drop 19).take 1)))))))))))))) := by
        match cs, hl with
        | [c0, c1, c2, c3, c4, c5, c6, c7, c8, c9, c10, c11, c12, c13, c14, c15, c16, c17, c18, c19], _ => rfl
      rw [e]
      exact (RLs_append (a := [_]) (RLs_one rfl q0) (RLs_append (a := [_, _]) (q1) (RLs_append (a := [_]) (RLs_one rfl q2) (RLs_append (a := [_]) (RLs_one rfl q3) (RLs_append (a := [_]) (RLs_one rfl q4) (RLs_append (a := [_]) (RLs_one rfl q5) (RLs_append (a := [_]) (RLs_one rfl q6) (RLs_append (a := [_]) (RLs_one rfl q7) (RLs_append (a := [_]) (RLs_one rfl q8) (RLs_append (a := [_]) (RLs_one rfl q9) (RLs_append (a := [_, _, _]) (q10) (RLs_append (a := [_, _, _]) (q11) (RLs_append (a := [_]) (RLs_one rfl q12) (RLs_append (a := [_]) (RLs_one rfl q13) (RLs_one rfl q14)))))))))))))))
    · rw [Tm.mass_eq, hb]
      simp only [Tm.kind_mk, Tm.lo_mk, Tm.hi_mk, Tm.name_mk, Tm.arg_mk, Tm.n_mk, Tm.s_mk, Tm.op_mk, Tm.label_mk, Tm.neg_mk, Tm.vars_mk, Tm.a_mk, Tm.b_mk, Tm.args_mk, Tm.pats_mk, Tm.kids_mk]
      have hs : ds = [y0.1, y1.1, y2.1, y3.1, y4.1, y5.1, y6.1, y7.1, y8.1, y9.1, y10.1, y11.1, y12.1, y13.1, y14.1] := by
        have hd : ds.length = 15 := hd
        match ds, hd, d0, d1, d2, d3, d4, d5, d6, d7, d8, d9, d10, d11, d12, d13, d14 with
        | [a0, a1, a2, a3, a4, a5, a6, a7, a8, a9, a10, a11, a12, a13, a14], _, d0, d1, d2, d3, d4, d5, d6, d7, d8, d9, d10, d11, d12, d13, d14 => simp_all
      rw [hs]
      simp only [bulkAll]
      omega

def DerivAt (P : Program) (t : TypeId) : Prop := ∃ f0 f1 f2 : Field, P.underlying t = some (.struct #[f0, f1, f2]) ∧ P.cellsOf t = 3 ∧ ((∃ el, SliceAt P f0.type el ∧ TyAt P el) ∧ f0.offset = 0) ∧ (IntsAt P f1.type ∧ f1.offset = 1) ∧ (SliceAt P f2.type t ∧ f2.offset = 2)
theorem DerivAt.cells {t : TypeId} (A : DerivAt P t) : P.cellsOf t = 3 := by obtain ⟨_, _, _, _, h, _⟩ := A; exact h
theorem rd_Deriv {t : TypeId} (A : DerivAt P t) : ∀ (fuel : Nat) (cs : List Value) (x : DataW H × List MemPlace), Rd enc P w held fuel t cs = some x → ∃ a : Deriv, RC (Old w) w.heap a.enc cs ∧ a.mass ≤ bulkW x.1 := by
  intro fuel
  induction fuel using Nat.strongRecOn with
  | ind fuel ih =>
    intro cs x hr
    have A0 := A
    obtain ⟨f0, f1, f2, hu, hc, ⟨t0, o0⟩, ⟨t1, o1⟩, t2, o2⟩ := A
    obtain ⟨n, ds, rfl, hb, hl, hd, hf⟩ := rd_struct hu hr
    rw [hc] at hl
    obtain ⟨y0, r0, d0⟩ := hf 0 f0 rfl
    obtain ⟨e0, s0, z0⟩ := t0
    rw [o0, s0.2] at r0
    obtain ⟨v0, q0, b0⟩ := rd_slice (sz := Ty.size) s0.1 (by rw [z0.cells]; omega) (fun n' cs x hn h => rd_Ty z0 n' cs x h) r0
    rw [z0.cells] at q0
    obtain ⟨y1, r1, d1⟩ := hf 1 f1 rfl
    obtain ⟨e1, s1, z1⟩ := id t1
    rw [o1, s1.2] at r1
    obtain ⟨v1, q1, b1⟩ := rd_ints t1 r1
    obtain ⟨y2, r2, d2⟩ := hf 2 f2 rfl
    rw [o2, t2.2] at r2
    obtain ⟨v2, q2, b2⟩ := rd_slice (sz := Deriv.mass) t2.1 (by rw [hc]; omega) (fun n' cs x hn h => ih n' (by omega) cs x h) r2
    rw [hc] at q2
    refine ⟨.mk v0 v1 v2, ?_, ?_⟩
    · rw [Deriv.enc_eq]
      simp only [RC, Deriv.types_mk, Deriv.vars_mk, Deriv.kids_mk]
      have e : cs = (cs.drop 0).take 1 ++ ((cs.drop 1).take 1 ++ ((cs.drop 2).take 1)) := by
        match cs, hl with
        | [c0, c1, c2], _ => rfl
      rw [e]
      exact (RLs_append (a := [_]) (RLs_one rfl q0) (RLs_append (a := [_]) (RLs_one rfl q1) (RLs_one rfl q2)))
    · rw [Deriv.mass_eq, hb]
      simp only [Deriv.types_mk, Deriv.vars_mk, Deriv.kids_mk]
      have hs : ds = [y0.1, y1.1, y2.1] := by
        have hd : ds.length = 3 := hd
        match ds, hd, d0, d1, d2 with
        | [a0, a1, a2], _, d0, d1, d2 => simp_all
      rw [hs]
      simp only [bulkAll]
      omega

def CoerAt (P : Program) (t : TypeId) : Prop := ∃ f0 f1 f2 f3 f4 : Field, P.underlying t = some (.struct #[f0, f1, f2, f3, f4]) ∧ P.cellsOf t = 5 ∧ (IntAt P f0.type ∧ f0.offset = 0) ∧ (IntAt P f1.type ∧ f1.offset = 1) ∧ (IntAt P f2.type ∧ f2.offset = 2) ∧ (BoolAt P f3.type ∧ f3.offset = 3) ∧ (SliceAt P f4.type t ∧ f4.offset = 4)
theorem CoerAt.cells {t : TypeId} (A : CoerAt P t) : P.cellsOf t = 5 := by obtain ⟨_, _, _, _, _, _, h, _⟩ := A; exact h
theorem rd_Coer {t : TypeId} (A : CoerAt P t) : ∀ (fuel : Nat) (cs : List Value) (x : DataW H × List MemPlace), Rd enc P w held fuel t cs = some x → ∃ a : Coer, RC (Old w) w.heap a.enc cs ∧ a.size ≤ bulkW x.1 := by
  intro fuel
  induction fuel using Nat.strongRecOn with
  | ind fuel ih =>
    intro cs x hr
    have A0 := A
    obtain ⟨f0, f1, f2, f3, f4, hu, hc, ⟨t0, o0⟩, ⟨t1, o1⟩, ⟨t2, o2⟩, ⟨t3, o3⟩, t4, o4⟩ := A
    obtain ⟨n, ds, rfl, hb, hl, hd, hf⟩ := rd_struct hu hr
    rw [hc] at hl
    obtain ⟨y0, r0, d0⟩ := hf 0 f0 rfl
    rw [o0, t0.2] at r0
    obtain ⟨v0, q0, -, b0⟩ := rd_int t0.1 r0
    obtain ⟨y1, r1, d1⟩ := hf 1 f1 rfl
    rw [o1, t1.2] at r1
    obtain ⟨v1, q1, -, b1⟩ := rd_int t1.1 r1
    obtain ⟨y2, r2, d2⟩ := hf 2 f2 rfl
    rw [o2, t2.2] at r2
    obtain ⟨v2, q2, -, b2⟩ := rd_int t2.1 r2
    obtain ⟨y3, r3, d3⟩ := hf 3 f3 rfl
    rw [o3, t3.2] at r3
    obtain ⟨v3, q3, b3⟩ := rd_bool t3.1 r3
    obtain ⟨y4, r4, d4⟩ := hf 4 f4 rfl
    rw [o4, t4.2] at r4
    obtain ⟨v4, q4, b4⟩ := rd_slice (sz := Coer.size) t4.1 (by rw [hc]; omega) (fun n' cs x hn h => ih n' (by omega) cs x h) r4
    rw [hc] at q4
    refine ⟨.mk v0 v1 v2 v3 v4, ?_, ?_⟩
    · rw [Coer.enc_eq]
      simp only [RC, Coer.kind_mk, Coer.head_mk, Coer.label_mk, Coer.neg_mk, Coer.kids_mk]
      have e : cs = (cs.drop 0).take 1 ++ ((cs.drop 1).take 1 ++ ((cs.drop 2).take 1 ++ ((cs.drop 3).take 1 ++ ((cs.drop 4).take 1)))) := by
        match cs, hl with
        | [c0, c1, c2, c3, c4], _ => rfl
      rw [e]
      exact (RLs_append (a := [_]) (RLs_one rfl q0) (RLs_append (a := [_]) (RLs_one rfl q1) (RLs_append (a := [_]) (RLs_one rfl q2) (RLs_append (a := [_]) (RLs_one rfl q3) (RLs_one rfl q4)))))
    · rw [Coer.size_eq, hb]
      simp only [Coer.kind_mk, Coer.head_mk, Coer.label_mk, Coer.neg_mk, Coer.kids_mk]
      have hs : ds = [y0.1, y1.1, y2.1, y3.1, y4.1] := by
        have hd : ds.length = 5 := hd
        match ds, hd, d0, d1, d2, d3, d4 with
        | [a0, a1, a2, a3, a4], _, d0, d1, d2, d3, d4 => simp_all
      rw [hs]
      simp only [bulkAll]
      omega

def ValAt (P : Program) (t : TypeId) : Prop := ∃ f0 f1 f2 f3 f4 : Field, P.underlying t = some (.struct #[f0, f1, f2, f3, f4]) ∧ P.cellsOf t = 9 ∧ (IntAt P f0.type ∧ f0.offset = 0) ∧ (IntAt P f1.type ∧ f1.offset = 1) ∧ (StrAt P f2.type ∧ f2.offset = 2) ∧ (CoerAt P f3.type ∧ f3.offset = 3) ∧ (SliceAt P f4.type t ∧ f4.offset = 8)
theorem ValAt.cells {t : TypeId} (A : ValAt P t) : P.cellsOf t = 9 := by obtain ⟨_, _, _, _, _, _, h, _⟩ := A; exact h
theorem rd_Val {t : TypeId} (A : ValAt P t) : ∀ (fuel : Nat) (cs : List Value) (x : DataW H × List MemPlace), Rd enc P w held fuel t cs = some x → ∃ a : Val, RC (Old w) w.heap a.enc cs ∧ a.mass ≤ bulkW x.1 := by
  intro fuel
  induction fuel using Nat.strongRecOn with
  | ind fuel ih =>
    intro cs x hr
    have A0 := A
    obtain ⟨f0, f1, f2, f3, f4, hu, hc, ⟨t0, o0⟩, ⟨t1, o1⟩, ⟨t2, o2⟩, ⟨t3, o3⟩, t4, o4⟩ := A
    obtain ⟨n, ds, rfl, hb, hl, hd, hf⟩ := rd_struct hu hr
    rw [hc] at hl
    obtain ⟨y0, r0, d0⟩ := hf 0 f0 rfl
    rw [o0, t0.2] at r0
    obtain ⟨v0, q0, -, b0⟩ := rd_int t0.1 r0
    obtain ⟨y1, r1, d1⟩ := hf 1 f1 rfl
    rw [o1, t1.2] at r1
    obtain ⟨v1, q1, -, b1⟩ := rd_int t1.1 r1
    obtain ⟨y2, r2, d2⟩ := hf 2 f2 rfl
    rw [o2, t2.2] at r2
    obtain ⟨v2, q2, b2⟩ := rd_str t2.1 r2
    obtain ⟨y3, r3, d3⟩ := hf 3 f3 rfl
    rw [o3, t3.cells] at r3
    obtain ⟨v3, q3, b3⟩ := rd_Coer t3 _ _ _ r3
    rw [Coer.enc_eq] at q3
    simp only [RC] at q3
    obtain ⟨y4, r4, d4⟩ := hf 4 f4 rfl
    rw [o4, t4.2] at r4
    obtain ⟨v4, q4, b4⟩ := rd_slice (sz := Val.mass) t4.1 (by rw [hc]; omega) (fun n' cs x hn h => ih n' (by omega) cs x h) r4
    rw [hc] at q4
    refine ⟨.mk v0 v1 v2 v3 v4, ?_, ?_⟩
    · rw [Val.enc_eq]
      simp only [RC, Val.kind_mk, Val.n_mk, Val.s_mk, Val.c_mk, Val.kids_mk]
      have e : cs = (cs.drop 0).take 1 ++ ((cs.drop 1).take 1 ++ ((cs.drop 2).take 1 ++ ((cs.drop 3).take 5 ++ ((cs.drop 8).take 1)))) := by
        match cs, hl with
        | [c0, c1, c2, c3, c4, c5, c6, c7, c8], _ => rfl
      rw [e]
      exact (RLs_append (a := [_]) (RLs_one rfl q0) (RLs_append (a := [_]) (RLs_one rfl q1) (RLs_append (a := [_]) (RLs_one rfl q2) (RLs_append (a := [_, _, _, _, _]) (q3) (RLs_one rfl q4)))))
    · rw [Val.mass_eq, hb]
      simp only [Val.kind_mk, Val.n_mk, Val.s_mk, Val.c_mk, Val.kids_mk]
      have hs : ds = [y0.1, y1.1, y2.1, y3.1, y4.1] := by
        have hd : ds.length = 5 := hd
        match ds, hd, d0, d1, d2, d3, d4 with
        | [a0, a1, a2, a3, a4], _, d0, d1, d2, d3, d4 => simp_all
      rw [hs]
      simp only [bulkAll]
      omega

end
end Go.Su
