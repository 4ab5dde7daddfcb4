/-
  Parts of the proof, merged: SuM7, SuM8, SuM9, SuJoin, SuRd, SuRd2, SuWk, Cfg, It, J0, G1.
-/
import Derived.Below
import Derived.ChangeArms
import Derived.DataReads
import Derived.KernelRfl
import Derived.LoopNIn
import Derived.OwnWalkIn
import Derived.RangeFuncBound
import Derived.RangeFuncKeeps
import Derived.RangeFuncLeaves
import Derived.Shelf.Abstract
import Derived.TacticsInMore
import Derived.Test.YtgccmhlmdnimjaaProg
import Derived.Test.YtgccmhlmdnimjaaRows
import Derived.WalkKit
import Derived.Test.YtgccmhlmdnimjaaE3
set_option linter.unusedVariables false
set_option linter.unusedSimpArgs false
/-
  The CHECKER of terms, kind by kind.
-/
namespace Go.Su

structure Tm.Own (t : Tm) : Prop where
  lo : 1 ≤ t.kind
  hi : t.kind ≤ 16
  match1 : t.kind = 14 → 0 < t.pats.length
  kids : (t.kids.length : Int) = kKids t.kind t.pats.length
  name : kName t.kind = true → nameB t.name = true
  arg : kArg t.kind = true → nameB t.arg = true
  a : kA t.kind = true → t.a.right = true
  b : kB t.kind = true → t.b.right = true
  a0 : kA t.kind = false → t.a = zeroTy
  b0 : kB t.kind = false → t.b = zeroTy
  op : kOp t.kind = true → 1 ≤ t.op ∧ t.op ≤ 7
  vars0 : kVars t.kind = false → t.vars = []
  args0 : kArgs t.kind = false → t.args = []
  pats0 : kPats t.kind = false → t.pats = []
  vars : ∀ v ∈ t.vars, 0 ≤ v ∧ v ≤ 1048576
  args : ∀ y ∈ t.args, y.right = true
  pats : ∀ p ∈ t.pats, p.right = true

theorem Tm.own_of {t : Tm} (h : t.one = true) : t.Own := by
  simp only [Tm.one, Tm.one1, Tm.one2, Tm.one3, Tm.one4, Tm.one5, Tm.lists, kOk, namedB, typedB, Bool.and_eq_true, Bool.or_eq_true, Bool.not_eq_true', decide_eq_true_eq, decide_eq_false_iff_not, List.all_eq_true] at h
  obtain ⟨⟨⟨⟨⟨⟨⟨⟨k1, k2⟩, k3⟩, k4⟩, k5⟩, k6⟩, k7⟩, k8⟩, ⟨k9, k10⟩, ⟨⟨k11, k12⟩, k13⟩, ⟨k14, k15⟩, ⟨k16, k17⟩, ⟨⟨k18, k19⟩, k20⟩, ⟨k21, k22⟩, k23⟩ := h
  refine ⟨k1, k2, fun h => ?_, k4, fun h => ?_, fun h => ?_, fun h => ?_, fun h => ?_, fun h => ?_, fun h => ?_, fun h => ?_, fun h => ?_, fun h => ?_, fun h => ?_, k21, k22, k23⟩
  · rcases k3 with k3 | k3
    · exact absurd h k3
    · exact k3
  · simpa [h] using k5
  · simpa [h] using k6
  · simpa [h] using k7
  · simpa [h] using k8
  · rw [h] at k7; exact Ty.none_iff.1 (by simpa using k7)
  · rw [h] at k8; exact Ty.none_iff.1 (by simpa using k8)
  · simpa [h] using k14
  · rw [h] at k18; exact List.eq_nil_of_length_eq_zero (by simpa using k18)
  · rw [h] at k19; exact List.eq_nil_of_length_eq_zero (by simpa using k19)
  · rw [h] at k20; exact List.eq_nil_of_length_eq_zero (by simpa using k20)

theorem Tm.right_own {t : Tm} (h : t.right = true) : t.Own := by
  rw [Tm.right_eq] at h
  simp only [Bool.and_eq_true] at h
  exact Tm.own_of h.1
theorem Tm.right_kid {t k : Tm} (h : t.right = true) (hk : k ∈ t.kids) : k.right = true := by
  rw [Tm.right_eq] at h
  simp only [Bool.and_eq_true, List.all_eq_true] at h
  exact h.2 k hk
theorem Tm.kids1 {t : Tm} (h : t.right = true) (hk : t.kind = 9 ∨ t.kind = 16) : ∃ a, t.kids = [a] := by
  have := (Tm.right_own h).kids
  have h1 : t.kids.length = 1 := by
    rcases hk with hk | hk <;> (rw [hk] at this; simp [kKids] at this; omega)
  exact List.length_eq_one_iff.1 h1
theorem Tm.kids2 {t : Tm} (h : t.right = true) (hk : t.kind = 6 ∨ t.kind = 8 ∨ t.kind = 10 ∨ t.kind = 11 ∨ t.kind = 12 ∨ t.kind = 15) : ∃ a b, t.kids = [a, b] := by
  have := (Tm.right_own h).kids
  have h1 : t.kids.length = 2 := by
    rcases hk with hk | hk | hk | hk | hk | hk <;> (rw [hk] at this; simp [kKids] at this; omega)
  match hx : t.kids, h1 with
  | [a, b], _ => exact ⟨a, b, rfl⟩
theorem Tm.kids3 {t : Tm} (h : t.right = true) (hk : t.kind = 13) : ∃ a b c, t.kids = [a, b, c] := by
  have := (Tm.right_own h).kids
  have h1 : t.kids.length = 3 := by rw [hk] at this; simp [kKids] at this; omega
  match hx : t.kids, h1 with
  | [a, b, c], _ => exact ⟨a, b, c, rfl⟩
theorem Tm.kidsM {t : Tm} (h : t.right = true) (hk : t.kind = 14) : ∃ a l, t.kids = a :: l ∧ l.length = t.pats.length := by
  have := (Tm.right_own h).kids
  have h1 : t.kids.length = t.pats.length + 1 := by rw [hk] at this; simp [kKids] at this; omega
  match hx : t.kids, h1 with
  | a :: l, h1 => exact ⟨a, l, rfl, by simpa using h1⟩
theorem Tm.kids0 {t : Tm} (h : t.right = true) (hk : t.kind = 1 ∨ t.kind = 2 ∨ t.kind = 3 ∨ t.kind = 4 ∨ t.kind = 5 ∨ t.kind = 7) : t.kids = [] := by
  have := (Tm.right_own h).kids
  refine List.eq_nil_of_length_eq_zero ?_
  rcases hk with hk | hk | hk | hk | hk | hk <;> (rw [hk] at this; simp [kKids] at this; simp [this])
/-- The kinds. -/
theorem Tm.kinds {t : Tm} (h : t.right = true) : t.kind = 1 ∨ (t.kind = 2 ∨ t.kind = 3 ∨ t.kind = 4 ∨ t.kind = 5) ∨ t.kind = 6 ∨ t.kind = 7 ∨ t.kind = 8 ∨ t.kind = 9 ∨ t.kind = 10 ∨ t.kind = 11 ∨ t.kind = 12 ∨ t.kind = 13 ∨ t.kind = 14 ∨ t.kind = 15 ∨ t.kind = 16 := by
  have := (Tm.right_own h).lo
  have := (Tm.right_own h).hi
  omega

/-! ### The checker, kind by kind -/
theorem ck_name {t : Tm} (h : t.kind = 1) (l : List Nm) (S : List Int) : ck t l S = match l.reverse.find? fun x => decide (x.name = t.name) with
    | none => .error 6
    | some x => if x.vars.length = t.args.length then if t.args.all (inS S) = true then .ok (x.ty.put (x.vars.zip t.args)) else .error 6 else .error 8 := by
  rw [ck_eq]; unfold ckBody; simp only [h, if_true]; try rfl
theorem ck_leaf {t : Tm} (h : t.kind = 2 ∨ t.kind = 3 ∨ t.kind = 4 ∨ t.kind = 5) (l : List Nm) (S : List Int) : ck t l S = .ok (.mk (t.kind - 1) 0 []) := by
  rw [ck_eq]; unfold ckBody; rw [if_neg (by omega), if_pos h]
theorem ck_nil {t : Tm} (h : t.kind = 7) (l : List Nm) (S : List Int) : ck t l S = if inS S t.a = true then .ok (.mk 8 0 [t.a]) else .error 6 := by
  rw [ck_eq]; unfold ckBody; simp [h]
theorem ck_fun {t k : Tm} (h : t.kind = 9) (hk : t.kids = [k]) (l : List Nm) (S : List Int) : ck t l S = if inS S t.a = true then (ck k (l ++ [⟨t.name, t.a, []⟩]) S).bind fun y => .ok (.mk 9 0 [t.a, y]) else .error 6 := by
  rw [ck_eq]; unfold ckBody; simp [h, hk]
theorem ck_let {t k m : Tm} (h : t.kind = 11) (hk : t.kids = [k, m]) (l : List Nm) (S : List Int) : ck t l S = if takes S t.vars = true then (ck k l (t.vars ++ S)).bind fun y => ck m (l ++ [⟨t.name, y, t.vars⟩]) S else .error 6 := by
  rw [ck_eq]; unfold ckBody; simp [h, hk]
theorem ck_rec {t k m : Tm} (h : t.kind = 12) (hk : t.kids = [k, m]) (l : List Nm) (S : List Int) : ck t l S = if takes S t.vars = true then
      if inS (t.vars ++ S) t.a = true ∧ inS (t.vars ++ S) t.b = true then
        (ck k (l ++ [⟨t.name, .mk 9 0 [t.a, t.b], []⟩, ⟨t.arg, t.a, []⟩]) (t.vars ++ S)).bind fun y =>
          if y = t.b then ck m (l ++ [⟨t.name, .mk 9 0 [t.a, t.b], t.vars⟩]) S else .error 4
      else .error 6
    else .error 6 := by
  rw [ck_eq]; unfold ckBody; simp [h, hk]
theorem ck_match {t k : Tm} {ks : List Tm} (h : t.kind = 14) (hk : t.kids = k :: ks) (l : List Nm) (S : List Int) : ck t l S = (ck k l S).bind fun y => ckArms y l S (t.pats.zip (ks.map ck)) none := by
  rw [ck_eq]; unfold ckBody; simp [h, hk]
theorem ck_rest {t : Tm} (h : t.kind = 6 ∨ t.kind = 8 ∨ t.kind = 10 ∨ t.kind = 13 ∨ t.kind = 15 ∨ t.kind = 16) (l : List Nm) (S : List Int) : ck t l S = (ckKids l S (t.kids.map ck)).bind fun k => ckOf t S k := by
  rw [ck_eq]; unfold ckBody
  rw [if_neg (by omega), if_neg (by omega), if_neg (by omega), if_neg (by omega), if_neg (by omega), if_neg (by omega), if_neg (by omega)]

/-! ### What it says of what is right -/
def Nm.ok (x : Nm) : Prop := x.ty.right = true ∧ x.vars.length ≤ lim ∧ ∀ v ∈ x.vars, 0 ≤ v ∧ v ≤ 1048576
def NmsOk (l : List Nm) : Prop := ∀ x ∈ l, x.ok
theorem NmsOk.app {l m : List Nm} (h : NmsOk l) (h' : NmsOk m) : NmsOk (l ++ m) := fun x hx => by
  rcases List.mem_append.1 hx with hx | hx
  · exact h x hx
  · exact h' x hx
theorem NmsOk.one {x : Nm} (h : x.ok) : NmsOk [x] := fun y hy => by simp at hy; subst hy; exact h
theorem NmsOk.two {x y : Nm} (h : x.ok) (h' : y.ok) : NmsOk [x, y] := fun z hz => by
  simp at hz; rcases hz with rfl | rfl
  · exact h
  · exact h'
theorem NmsOk.ents {b : List (ByteArray × Ty)} (h : ∀ e ∈ b, e.2.right = true) : NmsOk (b.map nmOfE) := fun x hx => by
  obtain ⟨e, he, rfl⟩ := List.mem_map.1 hx
  exact ⟨h e he, by simp [nmOfE], by simp [nmOfE]⟩
theorem Nm.ok_nil {n : ByteArray} {t : Ty} (h : t.right = true) : (⟨n, t, []⟩ : Nm).ok := ⟨h, by simp, by simp⟩

theorem right_fun {a b : Ty} (ha : a.right = true) (hb : b.right = true) : (Ty.mk 9 0 [a, b]).right = true := by
  rw [Ty.right_mk]
  refine ⟨rfl, by omega, by omega, .inr rfl, ?_⟩
  simp [ha, hb]
theorem right_pair {a b : Ty} (ha : a.right = true) (hb : b.right = true) : (Ty.mk 7 0 [a, b]).right = true := by
  rw [Ty.right_mk]
  refine ⟨rfl, by omega, by omega, .inr rfl, ?_⟩
  simp [ha, hb]
theorem right_list {a : Ty} (ha : a.right = true) : (Ty.mk 8 0 [a]).right = true := by
  rw [Ty.right_mk]
  refine ⟨rfl, by omega, by omega, .inr rfl, ?_⟩
  simp [ha]
theorem right_leaf {k : Int} (h : 1 ≤ k ∧ k ≤ 5) : (Ty.mk k 0 []).right = true := by
  rw [Ty.right_mk]
  refine ⟨?_, by omega, by omega, .inr rfl, by simp⟩
  unfold arity
  rw [if_pos (by omega)]
  rfl

theorem getD_right {l : List Ty} (h : ∀ t ∈ l, t.right = true) {i : Nat} (hi : i < l.length) : (l.getD i zeroTy).right = true := by
  rw [List.getD_eq_getElem?_getD, List.getElem?_eq_getElem hi]
  exact h _ (List.getElem_mem hi)

theorem ckKids_ok {l : List Nm} {S : List Int} : ∀ {ks : List Tm} {ys : List Ty}, ckKids l S (ks.map ck) = .ok ys → ys.length = ks.length ∧ ∀ y ∈ ys, ∃ k ∈ ks, ck k l S = .ok y
  | [], ys, h => by simp only [List.map_nil, ckKids, Except.ok.injEq] at h; subst h; simp
  | k :: ks, ys, h => by
    simp only [List.map_cons, ckKids] at h
    cases hk : ck k l S with
    | error e => rw [hk] at h; cases h
    | ok y =>
      rw [hk] at h
      simp only [Except.bind] at h
      cases hr : ckKids l S (ks.map ck) with
      | error e => rw [hr] at h; cases h
      | ok r =>
        rw [hr] at h
        simp only [Except.ok.injEq] at h
        subst h
        obtain ⟨h1, h2⟩ := ckKids_ok hr
        refine ⟨by simp [h1], fun z hz => ?_⟩
        rcases List.mem_cons.1 hz with rfl | hz
        · exact ⟨k, List.mem_cons_self .., hk⟩
        · obtain ⟨k', a, b⟩ := h2 z hz
          exact ⟨k', List.mem_cons_of_mem _ a, b⟩

theorem ckOf_right {t : Tm} (ht : t.right = true) (hk : t.kind = 6 ∨ t.kind = 8 ∨ t.kind = 10 ∨ t.kind = 13 ∨ t.kind = 15 ∨ t.kind = 16) {S : List Int} {ys : List Ty} (hl : ys.length = t.kids.length) (hy : ∀ y ∈ ys, y.right = true) {y : Ty} (h : ckOf t S ys = .ok y) : y.right = true := by
  have own := Tm.right_own ht
  unfold ckOf at h
  simp only at h
  split at h
  · rename_i h6
    obtain ⟨a, b, e⟩ := Tm.kids2 ht (.inl h6)
    rw [e] at hl
    match ys, hl with
    | [a, b], _ => cases h; exact right_pair (hy _ (by simp)) (hy _ (by simp))
  split at h
  · rename_i h8
    obtain ⟨a, b, e⟩ := Tm.kids2 ht (by omega)
    split at h
    · cases h; exact getD_right hy (by rw [hl, e]; simp)
    · cases h
  split at h
  · rename_i h8
    obtain ⟨a, b, e⟩ := Tm.kids2 ht (by omega)
    split at h
    · rename_i hx
      cases h
      have hr := getD_right hy (i := 0) (by rw [hl, e]; simp)
      obtain ⟨p, q, e2⟩ := two_arity hr (.inr hx.1)
      refine getD_right (fun u hu => Ty.right_kid hr hu) (by rw [e2]; simp)
    · cases h
  split at h
  · rename_i h8
    obtain ⟨a, b, c, e⟩ := Tm.kids3 ht h8
    split at h
    · cases h; exact getD_right hy (by rw [hl, e]; simp)
    · cases h
  split at h
  · split at h
    · split at h
      · cases h; exact right_leaf (by omega)
      · cases h
    · split at h
      · cases h; refine right_leaf ?_; split <;> omega
      · cases h
  split at h
  · rename_i h16
    split at h
    · split at h
      · cases h; exact own.b (by rw [h16]; rfl)
      · cases h
    · cases h
  · cases h

theorem ckArms_right {y : Ty} (hy : y.right = true) {l : List Nm} (hl : NmsOk l) {S : List Int} : ∀ {r : List (Pat × Chk)} {out : Option Ty} {z : Ty},
    (∀ p ∈ r, ∀ m : List Nm, NmsOk m → ∀ u, p.2 m S = .ok u → u.right = true) → (∀ o, out = some o → o.right = true) → (r = [] → out ≠ none) → ckArms y l S r out = .ok z → z.right = true
  | [], out, z, _, ho, hn, h => by
    simp only [ckArms, Except.ok.injEq] at h
    cases out with
    | none => exact absurd rfl (hn rfl)
    | some o => simp only [Option.getD_some] at h; subst h; exact ho o rfl
  | (p, f) :: r, out, z, hr, ho, hn, h => by
    simp only [ckArms] at h
    cases hb : p.binds y with
    | none => rw [hb] at h; cases h
    | some b =>
      rw [hb] at h
      simp only at h
      cases hf : f (l ++ b.map nmOfE) S with
      | error e => rw [hf] at h; cases h
      | ok a =>
        rw [hf] at h
        simp only [Except.bind] at h
        have ha : a.right = true := hr (p, f) (List.mem_cons_self ..) _ (hl.app (NmsOk.ents (Pat.binds_right p y b hy hb))) a hf
        cases out with
        | none => exact ckArms_right hy hl (fun p' hp' => hr p' (List.mem_cons_of_mem _ hp')) (fun o h => by cases h; exact ha) (by simp) h
        | some o =>
          simp only at h
          split at h
          · exact ckArms_right hy hl (fun p' hp' => hr p' (List.mem_cons_of_mem _ hp')) ho (by simp) h
          · cases h

theorem ck_right (t : Tm) : t.right = true → t.fit → ∀ (l : List Nm) (S : List Int) (y : Ty), NmsOk l → ck t l S = .ok y → y.right = true := by
  induction t using Tm.ind with
  | h t ih =>
    intro ht hfit l S y hl h
    have own := Tm.right_own ht
    have hvars : ∀ v ∈ t.vars, 0 ≤ v ∧ v ≤ 1048576 := own.vars
    have hvl := Nat.le_of_lt hfit.one.vars
    rcases Tm.kinds ht with hk | hk | hk | hk | hk | hk | hk | hk | hk | hk | hk | hk | hk
    · rw [ck_name hk] at h
      cases hf : l.reverse.find? fun x => decide (x.name = t.name) with
      | none => rw [hf] at h; cases h
      | some x =>
        rw [hf] at h
        simp only at h
        have hx := hl x (List.mem_reverse.1 (List.mem_of_find?_eq_some hf))
        split at h
        · split at h
          · cases h
            refine Ty.right_put (fun e he => ?_) _ hx.1
            exact own.args _ (List.of_mem_zip he).2
          · cases h
        · cases h
    · rw [ck_leaf hk] at h
      cases h
      exact right_leaf (by omega)
    · rw [ck_rest (by omega)] at h
      cases hr : ckKids l S (t.kids.map ck) with
      | error e => rw [hr] at h; cases h
      | ok ys =>
        rw [hr] at h
        obtain ⟨h1, h2⟩ := ckKids_ok hr
        exact ckOf_right ht (by omega) h1 (fun y hy => by obtain ⟨k, a, b⟩ := h2 y hy; exact ih k a (Tm.right_kid ht a) (hfit.kid a) l S y hl b) h
    · rw [ck_nil hk] at h
      split at h
      · cases h; exact right_list (own.a (by rw [hk]; rfl))
      · cases h
    · rw [ck_rest (by omega)] at h
      cases hr : ckKids l S (t.kids.map ck) with
      | error e => rw [hr] at h; cases h
      | ok ys =>
        rw [hr] at h
        obtain ⟨h1, h2⟩ := ckKids_ok hr
        exact ckOf_right ht (by omega) h1 (fun y hy => by obtain ⟨k, a, b⟩ := h2 y hy; exact ih k a (Tm.right_kid ht a) (hfit.kid a) l S y hl b) h
    · obtain ⟨k, hkk⟩ := Tm.kids1 ht (.inl hk)
      have hm : k ∈ t.kids := by rw [hkk]; simp
      have ha := own.a (by rw [hk]; rfl)
      rw [ck_fun hk hkk] at h
      split at h
      · cases hc : ck k (l ++ [⟨t.name, t.a, []⟩]) S with
        | error e => rw [hc] at h; cases h
        | ok z =>
          rw [hc] at h
          cases h
          exact right_fun ha (ih k hm (Tm.right_kid ht hm) (hfit.kid hm) _ _ _ (hl.app (.one (Nm.ok_nil ha))) hc)
      · cases h
    · rw [ck_rest (by omega)] at h
      cases hr : ckKids l S (t.kids.map ck) with
      | error e => rw [hr] at h; cases h
      | ok ys =>
        rw [hr] at h
        obtain ⟨h1, h2⟩ := ckKids_ok hr
        exact ckOf_right ht (by omega) h1 (fun y hy => by obtain ⟨k, a, b⟩ := h2 y hy; exact ih k a (Tm.right_kid ht a) (hfit.kid a) l S y hl b) h
    · obtain ⟨k, m, hkk⟩ := Tm.kids2 ht (by omega)
      have hm1 : k ∈ t.kids := by rw [hkk]; simp
      have hm2 : m ∈ t.kids := by rw [hkk]; simp
      rw [ck_let hk hkk] at h
      split at h
      · cases hc : ck k l (t.vars ++ S) with
        | error e => rw [hc] at h; cases h
        | ok z =>
          rw [hc] at h
          have hz := ih k hm1 (Tm.right_kid ht hm1) (hfit.kid hm1) _ _ _ hl hc
          exact ih m hm2 (Tm.right_kid ht hm2) (hfit.kid hm2) _ _ _ (hl.app (.one ⟨hz, hvl, hvars⟩)) h
      · cases h
    · obtain ⟨k, m, hkk⟩ := Tm.kids2 ht (by omega)
      have hm1 : k ∈ t.kids := by rw [hkk]; simp
      have hm2 : m ∈ t.kids := by rw [hkk]; simp
      have ha := own.a (by rw [hk]; rfl)
      have hb := own.b (by rw [hk]; rfl)
      rw [ck_rec hk hkk] at h
      split at h
      · split at h
        · cases hc : ck k (l ++ [⟨t.name, .mk 9 0 [t.a, t.b], []⟩, ⟨t.arg, t.a, []⟩]) (t.vars ++ S) with
          | error e => rw [hc] at h; cases h
          | ok z =>
            rw [hc] at h
            simp only [Except.bind] at h
            split at h
            · exact ih m hm2 (Tm.right_kid ht hm2) (hfit.kid hm2) _ _ _ (hl.app (.one ⟨right_fun ha hb, hvl, hvars⟩)) h
            · cases h
        · cases h
      · cases h
    · rw [ck_rest (by omega)] at h
      cases hr : ckKids l S (t.kids.map ck) with
      | error e => rw [hr] at h; cases h
      | ok ys =>
        rw [hr] at h
        obtain ⟨h1, h2⟩ := ckKids_ok hr
        exact ckOf_right ht (by omega) h1 (fun y hy => by obtain ⟨k, a, b⟩ := h2 y hy; exact ih k a (Tm.right_kid ht a) (hfit.kid a) l S y hl b) h
    · obtain ⟨k, ks, hkk, hlen⟩ := Tm.kidsM ht hk
      have hm1 : k ∈ t.kids := by rw [hkk]; simp
      rw [ck_match hk hkk] at h
      cases hc : ck k l S with
      | error e => rw [hc] at h; cases h
      | ok z =>
        rw [hc] at h
        have hz := ih k hm1 (Tm.right_kid ht hm1) (hfit.kid hm1) _ _ _ hl hc
        refine ckArms_right hz hl (fun p hp m hm u hu => ?_) (fun o h => by cases h) (fun hn => ?_) h
        · obtain ⟨k', hk', e⟩ := List.mem_map.1 (List.of_mem_zip hp).2
          have hm2 : k' ∈ t.kids := by rw [hkk]; exact List.mem_cons_of_mem _ hk'
          exact ih k' hm2 (Tm.right_kid ht hm2) (hfit.kid hm2) m S u hm (by rw [e]; exact hu)
        · have := own.match1 hk
          have h1 := congrArg List.length hn
          rw [List.length_zip, List.length_map, hlen, Nat.min_self, List.length_nil] at h1
          omega
    · rw [ck_rest (by omega)] at h
      cases hr : ckKids l S (t.kids.map ck) with
      | error e => rw [hr] at h; cases h
      | ok ys =>
        rw [hr] at h
        obtain ⟨h1, h2⟩ := ckKids_ok hr
        exact ckOf_right ht (by omega) h1 (fun y hy => by obtain ⟨k, a, b⟩ := h2 y hy; exact ih k a (Tm.right_kid ht a) (hfit.kid a) l S y hl b) h
    · rw [ck_rest (by omega)] at h
      cases hr : ckKids l S (t.kids.map ck) with
      | error e => rw [hr] at h; cases h
      | ok ys =>
        rw [hr] at h
        obtain ⟨h1, h2⟩ := ckKids_ok hr
        exact ckOf_right ht (by omega) h1 (fun y hy => by obtain ⟨k, a, b⟩ := h2 y hy; exact ih k a (Tm.right_kid ht a) (hfit.kid a) l S y hl b) h

end Go.Su

/-
  The CHECKER: which errors there are; how many names stand at once; scopes as maps of counters.
-/
namespace Go.Su

def errOk (e : Int) : Prop := e = 4 ∨ e = 6 ∨ e = 8

theorem bind_err {α β : Type} {x : Except Int α} {f : α → Except Int β} {e : Int} (h : x.bind f = .error e) : x = .error e ∨ ∃ a, x = .ok a ∧ f a = .error e := by
  cases x with
  | error e' => left; simpa [Except.bind] using h
  | ok a => right; exact ⟨a, rfl, h⟩
theorem bind_ok {α β : Type} {x : Except Int α} {f : α → Except Int β} {y : β} (h : x.bind f = .ok y) : ∃ a, x = .ok a ∧ f a = .ok y := by
  cases x with
  | error e' => cases h
  | ok a => exact ⟨a, rfl, h⟩

theorem ckKids_err {l : List Nm} {S : List Int} : ∀ {ks : List Tm} {e : Int}, ckKids l S (ks.map ck) = .error e → ∃ k ∈ ks, ck k l S = .error e
  | [], e, h => by cases h
  | k :: ks, e, h => by
    simp only [List.map_cons, ckKids] at h
    rcases bind_err h with h | ⟨a, h1, h⟩
    · exact ⟨k, List.mem_cons_self .., h⟩
    · rcases bind_err h with h | ⟨a, h1, h⟩
      · obtain ⟨k', a, b⟩ := ckKids_err h; exact ⟨k', List.mem_cons_of_mem _ a, b⟩
      · cases h

theorem ckOf_err {t : Tm} {S : List Int} {ys : List Ty} {e : Int} (h : ckOf t S ys = .error e) : errOk e := by
  unfold ckOf at h
  simp only at h
  repeat' (split at h)
  all_goals first | (cases h; done) | (cases h; simp [errOk])

theorem ckArms_err {y : Ty} {l : List Nm} {S : List Int} : ∀ {r : List (Pat × Chk)} {out : Option Ty} {e : Int}, (∀ p ∈ r, ∀ (m : List Nm) e, p.2 m S = .error e → errOk e) → ckArms y l S r out = .error e → errOk e
  | [], out, e, _, h => by cases h
  | (p, f) :: r, out, e, hr, h => by
    simp only [ckArms] at h
    cases hb : p.binds y with
    | none => rw [hb] at h; cases h; simp [errOk]
    | some b =>
      rw [hb] at h
      rcases bind_err h with h | ⟨a, h1, h⟩
      · exact hr _ (List.mem_cons_self ..) _ _ h
      · cases out with
        | none => exact ckArms_err (fun p' hp' => hr p' (List.mem_cons_of_mem _ hp')) h
        | some o =>
          simp only at h
          split at h
          · exact ckArms_err (fun p' hp' => hr p' (List.mem_cons_of_mem _ hp')) h
          · cases h; simp [errOk]

theorem ck_err (t : Tm) : ∀ (l : List Nm) (S : List Int) (e : Int), ck t l S = .error e → errOk e := by
  induction t using Tm.ind with
  | h t ih =>
    intro l S e h
    have hd : ∀ (i : Nat) l S e, ((t.kids.map ck).getD i fun _ _ => .error 4) l S = .error e → errOk e := by
      intro i l S e h
      rw [List.getD_eq_getElem?_getD] at h
      rcases Nat.lt_or_ge i t.kids.length with hi | hi
      · rw [List.getElem?_eq_getElem (by simpa using hi)] at h
        simp only [Option.getD_some, List.getElem_map] at h
        exact ih _ (List.getElem_mem hi) _ _ _ h
      · rw [List.getElem?_eq_none (by simpa using hi)] at h
        cases h; simp [errOk]
    rw [ck_eq] at h
    unfold ckBody at h
    simp only at h
    split at h
    · split at h
      · cases h; simp [errOk]
      · split at h
        · split at h
          · cases h
          · cases h; simp [errOk]
        · cases h; simp [errOk]
    split at h
    · cases h
    split at h
    · split at h
      · cases h
      · cases h; simp [errOk]
    split at h
    · split at h
      · rcases bind_err h with h | ⟨a, h1, h⟩
        · exact hd _ _ _ _ h
        · cases h
      · cases h; simp [errOk]
    split at h
    · split at h
      · rcases bind_err h with h | ⟨a, h1, h⟩
        · exact hd _ _ _ _ h
        · exact hd _ _ _ _ h
      · cases h; simp [errOk]
    split at h
    · split at h
      · split at h
        · rcases bind_err h with h | ⟨a, h1, h⟩
          · exact hd _ _ _ _ h
          · split at h
            · exact hd _ _ _ _ h
            · cases h; simp [errOk]
        · cases h; simp [errOk]
      · cases h; simp [errOk]
    split at h
    · rcases bind_err h with h | ⟨a, h1, h⟩
      · exact hd _ _ _ _ h
      · refine ckArms_err (fun p hp m e he => ?_) h
        have := (List.of_mem_zip hp).2
        obtain ⟨k', hk', e'⟩ := List.mem_map.1 (List.mem_of_mem_drop this)
        rw [← e'] at he
        exact ih k' hk' _ _ _ he
    · rcases bind_err h with h | ⟨a, h1, h⟩
      · obtain ⟨k, hk, h⟩ := ckKids_err h
        exact ih k hk _ _ _ h
      · exact ckOf_err h

/-! ### How many names -/
def Tm.wide (t : Tm) : Nat := 2 + (t.pats.map Pat.size).sum + (t.kids.attach.map fun k => Tm.wide k.1).sum
termination_by SizeOf.sizeOf t
decreasing_by exact Tm.kid_lt k.2
theorem Tm.wide_eq (t : Tm) : t.wide = 2 + (t.pats.map Pat.size).sum + (t.kids.map Tm.wide).sum := by
  rw [Tm.wide]
  congr 2
  exact List.attach_map_val (f := Tm.wide) ..
theorem Tm.wide_kid {t k : Tm} (h : k ∈ t.kids) : k.wide + 2 + (t.pats.map Pat.size).sum ≤ t.wide := by
  rw [Tm.wide_eq t]
  have := mem_sum (f := Tm.wide) h
  omega

theorem loop_allK {α X : Type} {l : List α} {P : Int → Option X} {f : α → Bool} {y n : Option X} (stop : P l.length = y)
    (step : ∀ (i : Nat) (h : i < l.length), P i = if f l[i] = true then P ((i : Int) + 1) else n) : P 0 = if l.all f = true then y else n := by
  have key : ∀ (m i : Nat), i + m = l.length → P i = if (l.drop i).all f = true then y else n := by
    intro m
    induction m with
    | zero => intro i hi; rw [List.drop_of_length_le (by omega), show i = l.length by omega, stop]; rfl
    | succ m ih =>
      intro i hi
      have h : i < l.length := by omega
      have := ih (i + 1) (by omega)
      push_cast at this
      rw [step i h, List.drop_eq_getElem_cons h, List.all_cons, this]
      by_cases h3 : f l[i] = true <;> simp [h3]
  have := key l.length 0 (by omega)
  simpa using this

/-! ### Scopes -/
def ScopeIs (es : List (DV × DV)) (S : List Int) : Prop := CntIs es fun v => if v ∈ S then 1 else 0
theorem ScopeIs.nil : ScopeIs [] [] := by
  have : (fun v : Int => if v ∈ ([] : List Int) then (1 : Int) else 0) = fun _ => 0 := by funext v; simp
  unfold ScopeIs; rw [this]; exact CntIs.nil
theorem CntIs.congr {es : List (DV × DV)} {c d : Int → Int} (h : CntIs es c) (e : ∀ v, c v = d v) : CntIs es d := fun v => by rw [h v, e v]

theorem takes_iff {S l : List Int} : takes S l = true ↔ l.Nodup ∧ ∀ v ∈ l, v ∉ S := by
  unfold takes
  simp

theorem scope_in {S l : List Int} (h : takes S l = true) {es : List (DV × DV)} (k : CntIs es fun v => (if v ∈ S then 1 else 0) + 1 * (l.count v : Int)) : ScopeIs es (l ++ S) := by
  obtain ⟨h1, h2⟩ := takes_iff.1 h
  refine k.congr fun v => ?_
  by_cases hv : v ∈ l
  · have : l.count v = 1 := by have a := (List.nodup_iff_count.1 h1) v; have b := List.count_pos_iff.2 hv; omega
    simp [hv, h2 v hv, this]
  · have : l.count v = 0 := List.count_eq_zero_of_not_mem hv
    simp [hv, this]
theorem scope_out {S l : List Int} (h : takes S l = true) {es : List (DV × DV)} (k : CntIs es fun v => (if v ∈ l ++ S then 1 else 0) + (-1) * (l.count v : Int)) : ScopeIs es S := by
  obtain ⟨h1, h2⟩ := takes_iff.1 h
  refine k.congr fun v => ?_
  by_cases hv : v ∈ l
  · have : l.count v = 1 := by have a := (List.nodup_iff_count.1 h1) v; have b := List.count_pos_iff.2 hv; omega
    simp [hv, h2 v hv, this]
  · have : l.count v = 0 := List.count_eq_zero_of_not_mem hv
    simp [hv, this]

/-- What the checker's functions give back. -/
def resL : Res → List DV
  | .ok y => [y.enc, .int .i64 0]
  | .error e => [zeroTy.enc, .int .i64 e]

/-- What check.Type says. -/
noncomputable def ckType (t : Tm) : Res := if t.right = true then ck t [] [] else .error 1

end Go.Su

/-
  The CHECKER: a term's type has no variables but those in scope.
-/
namespace Go.Su

/-- A variable stands in a type. -/
inductive Ty.Occ (v : Int) : Ty → Prop where
  | here (t : Ty) : t.kind = 6 → t.n = v → Ty.Occ v t
  | kid (t k : Ty) : k ∈ t.kids → Ty.Occ v k → Ty.Occ v t

theorem Ty.occ_iff {v : Int} {t : Ty} : t.Occ v ↔ (t.kind = 6 ∧ t.n = v) ∨ ∃ k ∈ t.kids, k.Occ v := by
  constructor
  · intro h
    cases h with
    | here _ a b => exact .inl ⟨a, b⟩
    | kid _ k a b => exact .inr ⟨k, a, b⟩
  · rintro (⟨a, b⟩ | ⟨k, a, b⟩)
    · exact .here t a b
    · exact .kid t k a b

theorem Ty.mem_varsOn {v : Int} (t : Ty) : ∀ l : List Int, v ∈ t.varsOn l ↔ v ∈ l ∨ t.Occ v := by
  induction t using Ty.ind with
  | h t ih =>
    intro l
    rw [Ty.varsOn_eq, Ty.occ_iff]
    have key : ∀ (ks : List Ty), (∀ k ∈ ks, ∀ l : List Int, v ∈ k.varsOn l ↔ v ∈ l ∨ k.Occ v) → ∀ l : List Int, v ∈ ks.foldl (fun l k => k.varsOn l) l ↔ v ∈ l ∨ ∃ k ∈ ks, k.Occ v := by
      intro ks
      induction ks with
      | nil => intro _ l; simp
      | cons k ks ihk =>
        intro h l
        simp only [List.foldl_cons]
        rw [ihk (fun k' hk' => h k' (List.mem_cons_of_mem _ hk')), h k (List.mem_cons_self ..)]
        simp only [List.mem_cons, exists_eq_or_imp, or_assoc]
    rw [key t.kids ih]
    by_cases h6 : t.kind = 6
    · by_cases hn : t.n ∈ l
      · simp only [h6, hn, not_true, and_false, if_false, true_and]
        constructor
        · rintro (h | h)
          · exact .inl h
          · exact .inr (.inr h)
        · rintro (h | h | h)
          · exact .inl h
          · subst h; exact .inl hn
          · exact .inr h
      · simp only [h6, hn, not_false_eq_true, and_self, if_true, List.mem_append, List.mem_singleton, true_and, or_assoc]
        have : v = t.n ↔ t.n = v := eq_comm
        rw [this]
    · simp [h6]

theorem inS_iff {S : List Int} {t : Ty} : inS S t = true ↔ ∀ v, t.Occ v → v ∈ S := by
  unfold inS Ty.vars
  simp only [List.all_eq_true, decide_eq_true_eq, Ty.mem_varsOn, List.not_mem_nil, false_or]

theorem Ty.closed_iff {t : Ty} : t.without 6 = true ↔ ∀ v, ¬ t.Occ v := by
  induction t using Ty.ind with
  | h t ih =>
    rw [Ty.without_eq]
    simp only [Bool.and_eq_true, Bool.not_eq_true', decide_eq_false_iff_not, List.all_eq_true]
    constructor
    · rintro ⟨h1, h2⟩ v hv
      rcases Ty.occ_iff.1 hv with ⟨a, -⟩ | ⟨k, a, b⟩
      · exact h1 a
      · exact (ih k a).1 (h2 k a) v b
    · intro h
      refine ⟨fun h6 => h t.n (.here t h6 rfl), fun k hk => (ih k hk).2 fun v hv => h v (.kid t k hk hv)⟩

theorem Ty.var_kids {t : Ty} (h : t.right = true) (h6 : t.kind = 6) : t.kids = [] := by
  have := (Ty.right_iff.1 h).1
  rw [h6] at this
  have e : arity 6 = 0 := rfl
  exact List.eq_nil_of_length_eq_zero (by omega)

theorem Ty.occ_put {v : Int} {l : List (Int × Ty)} {t : Ty} : t.right = true → (t.put l).Occ v → (∃ n u, t.Occ n ∧ look l n = some u ∧ u.Occ v) ∨ (t.Occ v ∧ look l v = Option.none) := by
  induction t using Ty.ind with
  | h t ih =>
    intro hr h
    rw [Ty.put_eq] at h
    by_cases h6 : t.kind = 6
    · rw [if_pos h6] at h
      cases hl : look l t.n with
      | none =>
        rw [hl] at h
        simp only [Option.getD_none] at h
        rcases Ty.occ_iff.1 h with ⟨a, b⟩ | ⟨k, a, b⟩
        · exact .inr ⟨h, by rw [← b]; exact hl⟩
        · rw [Ty.var_kids hr h6] at a; cases a
      | some u =>
        rw [hl] at h
        exact .inl ⟨t.n, u, .here t h6 rfl, hl, h⟩
    · rw [if_neg h6] at h
      rcases Ty.occ_iff.1 h with ⟨a, -⟩ | ⟨k, a, b⟩
      · exact absurd a h6
      · obtain ⟨k', hk', rfl⟩ := List.mem_map.1 a
        rcases ih k' hk' (Ty.right_kid hr hk') b with ⟨n, u, c, d⟩ | ⟨c, d⟩
        · exact .inl ⟨n, u, .kid t k' hk' c, d⟩
        · exact .inr ⟨.kid t k' hk' c, d⟩

theorem look_zip_none {vs : List Int} {ts : List Ty} (h : vs.length = ts.length) {v : Int} (hl : look (vs.zip ts) v = none) : v ∉ vs := by
  intro hv
  obtain ⟨i, hi, rfl⟩ := List.getElem_of_mem hv
  unfold look at hl
  simp only [Option.map_eq_none_iff, List.find?_eq_none, decide_eq_true_eq] at hl
  have hz : i < (vs.zip ts).length := by rw [List.length_zip]; omega
  exact hl _ (List.getElem_mem hz) (by simp)

/-- The names' variables are in scope, or their own. -/
def NmsIn (S : List Int) (l : List Nm) : Prop := ∀ x ∈ l, ∀ v, x.ty.Occ v → v ∈ S ∨ v ∈ x.vars
theorem NmsIn.app {S : List Int} {l m : List Nm} (h : NmsIn S l) (h' : NmsIn S m) : NmsIn S (l ++ m) := fun x hx => by
  rcases List.mem_append.1 hx with hx | hx
  · exact h x hx
  · exact h' x hx
theorem NmsIn.more {S : List Int} {l : List Nm} (h : NmsIn S l) (vs : List Int) : NmsIn (vs ++ S) l := fun x hx v hv => by
  rcases h x hx v hv with h | h
  · exact .inl (List.mem_append_right _ h)
  · exact .inr h

theorem comb_occ {S : List Int} {ks : List Pat} : (∀ k ∈ ks, ∀ t b, (∀ v, t.Occ v → v ∈ S) → k.binds t = some b → ∀ e ∈ b, ∀ v, e.2.Occ v → v ∈ S) → ∀ ts b, (∀ t ∈ ts, ∀ v, t.Occ v → v ∈ S) → comb (ks.map Pat.binds) ts = some b → ∀ e ∈ b, ∀ v, e.2.Occ v → v ∈ S := by
  induction ks with
  | nil => intro _ ts b _ h; simp only [List.map_nil, comb, Option.some.injEq] at h; subst h; simp
  | cons k ks ih =>
    intro hk ts b ht h
    cases ts with
    | nil => simp [comb] at h
    | cons t ts =>
      simp only [List.map_cons, comb, Option.bind_eq_some_iff, Option.some.injEq] at h
      obtain ⟨a, h1, c, h2, rfl⟩ := h
      have a1 := hk k (List.mem_cons_self ..) t a (ht t (List.mem_cons_self ..)) h1
      have a2 := ih (fun k' hk' => hk k' (List.mem_cons_of_mem _ hk')) ts c (fun t' ht' => ht t' (List.mem_cons_of_mem _ ht')) h2
      intro e he
      rcases List.mem_append.1 he with he | he
      · exact a1 e he
      · exact a2 e he

theorem occ_zero (v : Int) : ¬ zeroTy.Occ v := by
  intro h
  rcases Ty.occ_iff.1 h with ⟨a, -⟩ | ⟨k, a, -⟩
  · cases a
  · cases a

theorem getD_occ {S : List Int} {l : List Ty} (h : ∀ t ∈ l, ∀ v, t.Occ v → v ∈ S) (i : Nat) : ∀ v, (l.getD i zeroTy).Occ v → v ∈ S := by
  intro v hv
  rw [List.getD_eq_getElem?_getD] at hv
  rcases Nat.lt_or_ge i l.length with hi | hi
  · rw [List.getElem?_eq_getElem hi] at hv
    exact h _ (List.getElem_mem hi) v hv
  · rw [List.getElem?_eq_none hi] at hv
    exact absurd hv (occ_zero v)
theorem kids_occ {S : List Int} {t : Ty} (h : ∀ v, t.Occ v → v ∈ S) : ∀ k ∈ t.kids, ∀ v, k.Occ v → v ∈ S := fun k hk v hv => h v (.kid t k hk hv)

theorem Pat.binds_occ {S : List Int} (p : Pat) : ∀ t b, (∀ v, t.Occ v → v ∈ S) → p.binds t = some b → ∀ e ∈ b, ∀ v, e.2.Occ v → v ∈ S := by
  induction p using Pat.ind with
  | h p ih =>
    intro t b ht h
    rw [Pat.binds_eq] at h
    unfold patBody at h
    split at h
    · simp only [Option.some.injEq] at h; subst h; simp
    split at h
    · simp only [Option.some.injEq] at h; subst h; simpa using ht
    split at h
    · split at h
      · exact comb_occ ih _ _ (kids_occ ht) h
      · cases h
    split at h
    · split at h
      · refine comb_occ ih _ _ ?_ h
        intro k hk
        simp at hk
        rcases hk with rfl | rfl
        · have := getD_occ (kids_occ ht) 0
          simpa [List.getD_eq_getElem?_getD] using this
        · exact ht
      · cases h
    split at h
    · simp only [Option.some.injEq] at h; subst h; simp
    · cases h

theorem occ_mk {S : List Int} {k n : Int} (hk : k ≠ 6) {ks : List Ty} (h : ∀ t ∈ ks, ∀ v, t.Occ v → v ∈ S) : ∀ v, (Ty.mk k n ks).Occ v → v ∈ S := by
  intro v hv
  rcases Ty.occ_iff.1 hv with ⟨a, -⟩ | ⟨k', a, b⟩
  · exact absurd a hk
  · exact h k' a v b

theorem ckOf_occ {t : Tm} {S : List Int} {ys : List Ty} (hy : ∀ y ∈ ys, ∀ v, y.Occ v → v ∈ S) {y : Ty} (h : ckOf t S ys = .ok y) : ∀ v, y.Occ v → v ∈ S := by
  unfold ckOf at h
  simp only at h
  split at h
  · cases h; exact occ_mk (by omega) hy
  split at h
  · split at h
    · cases h; exact getD_occ hy 1
    · cases h
  split at h
  · split at h
    · cases h; exact getD_occ (kids_occ (getD_occ hy 0)) 1
    · cases h
  split at h
  · split at h
    · cases h; exact getD_occ hy 1
    · cases h
  split at h
  · split at h
    · split at h
      · cases h; exact occ_mk (by omega) (by simp)
      · cases h
    · split at h
      · cases h; exact occ_mk (by split <;> omega) (by simp)
      · cases h
  split at h
  · split at h
    · rename_i hin
      split at h
      · cases h
        simp only [Bool.and_eq_true] at hin
        exact inS_iff.1 hin.2
      · cases h
    · cases h
  · cases h

theorem ckArms_occ {y : Ty} {l : List Nm} {S : List Int} (hy : ∀ v, y.Occ v → v ∈ S) (hl : NmsIn S l) : ∀ {r : List (Pat × Chk)} {out : Option Ty} {z : Ty},
    (∀ p ∈ r, ∀ m : List Nm, NmsIn S m → ∀ u, p.2 m S = .ok u → ∀ v, u.Occ v → v ∈ S) → (∀ o, out = some o → ∀ v, o.Occ v → v ∈ S) → ckArms y l S r out = .ok z → ∀ v, z.Occ v → v ∈ S
  | [], out, z, _, ho, h => by
    simp only [ckArms, Except.ok.injEq] at h
    cases out with
    | none => subst h; exact fun v hv => absurd hv (occ_zero v)
    | some o => simp only [Option.getD_some] at h; subst h; exact ho o rfl
  | (p, f) :: r, out, z, hr, ho, h => by
    simp only [ckArms] at h
    cases hb : p.binds y with
    | none => rw [hb] at h; cases h
    | some b =>
      rw [hb] at h
      obtain ⟨a, hf, h⟩ := bind_ok h
      have nb : NmsIn S (b.map nmOfE) := fun x hx v hv => by
        obtain ⟨e, he, rfl⟩ := List.mem_map.1 hx
        exact .inl (Pat.binds_occ p y b hy hb e he v hv)
      have ha := hr (p, f) (List.mem_cons_self ..) _ (hl.app nb) a hf
      cases out with
      | none => exact ckArms_occ hy hl (fun p' hp' => hr p' (List.mem_cons_of_mem _ hp')) (fun o h => by cases h; exact ha) h
      | some o =>
        simp only at h
        split at h
        · exact ckArms_occ hy hl (fun p' hp' => hr p' (List.mem_cons_of_mem _ hp')) ho h
        · cases h

theorem ck_occ (t : Tm) : t.right = true → t.fit → ∀ (l : List Nm) (S : List Int) (y : Ty), NmsOk l → NmsIn S l → ck t l S = .ok y → ∀ v, y.Occ v → v ∈ S := by
  induction t using Tm.ind with
  | h t ih =>
    intro ht hfit l S y hl hn h
    have own := Tm.right_own ht
    have hvl := Nat.le_of_lt hfit.one.vars
    have rest : (t.kind = 6 ∨ t.kind = 8 ∨ t.kind = 10 ∨ t.kind = 13 ∨ t.kind = 15 ∨ t.kind = 16) → ∀ v, y.Occ v → v ∈ S := by
      intro hk
      rw [ck_rest hk] at h
      obtain ⟨ys, hr, h⟩ := bind_ok h
      obtain ⟨h1, h2⟩ := ckKids_ok hr
      exact ckOf_occ (fun y hy => by obtain ⟨k, a, b⟩ := h2 y hy; exact ih k a (Tm.right_kid ht a) (hfit.kid a) l S y hl hn b) h
    rcases Tm.kinds ht with hk | hk | hk | hk | hk | hk | hk | hk | hk | hk | hk | hk | hk
    · rw [ck_name hk] at h
      cases hf : l.reverse.find? fun x => decide (x.name = t.name) with
      | none => rw [hf] at h; cases h
      | some x =>
        rw [hf] at h
        simp only at h
        have hm := List.mem_reverse.1 (List.mem_of_find?_eq_some hf)
        split at h
        · rename_i hlen
          split at h
          · rename_i hin
            cases h
            intro v hv
            rcases Ty.occ_put (hl x hm).1 hv with ⟨n, u, a, b, c⟩ | ⟨a, b⟩
            · have hu := (List.of_mem_zip (look_mem b)).2
              exact inS_iff.1 (List.all_eq_true.1 hin u hu) v c
            · rcases hn x hm v a with c | c
              · exact c
              · exact absurd c (look_zip_none hlen b)
          · cases h
        · cases h
    · rw [ck_leaf hk] at h
      cases h
      exact occ_mk (by omega) (by simp)
    · exact rest (by omega)
    · rw [ck_nil hk] at h
      split at h
      · rename_i hin
        cases h; exact occ_mk (by omega) (by simpa using inS_iff.1 hin)
      · cases h
    · exact rest (by omega)
    · obtain ⟨k, hkk⟩ := Tm.kids1 ht (.inl hk)
      have hm : k ∈ t.kids := by rw [hkk]; simp
      rw [ck_fun hk hkk] at h
      split at h
      · rename_i hin
        have hin := inS_iff.1 hin
        obtain ⟨z, hc, h⟩ := bind_ok h
        cases h
        have hz := ih k hm (Tm.right_kid ht hm) (hfit.kid hm) _ _ _ (hl.app (.one (Nm.ok_nil (own.a (by rw [hk]; rfl))))) (hn.app (fun x hx => by simp at hx; subst hx; exact fun v hv => .inl (hin v hv))) hc
        refine occ_mk (by omega) ?_
        intro u hu
        simp at hu
        rcases hu with rfl | rfl
        · exact hin
        · exact hz
      · cases h
    · exact rest (by omega)
    · obtain ⟨k, m, hkk⟩ := Tm.kids2 ht (by omega)
      have hm1 : k ∈ t.kids := by rw [hkk]; simp
      have hm2 : m ∈ t.kids := by rw [hkk]; simp
      rw [ck_let hk hkk] at h
      split at h
      · obtain ⟨z, hc, h⟩ := bind_ok h
        have rz := ck_right k (Tm.right_kid ht hm1) (hfit.kid hm1) _ _ _ hl hc
        have hz := ih k hm1 (Tm.right_kid ht hm1) (hfit.kid hm1) _ _ _ hl (hn.more t.vars) hc
        exact ih m hm2 (Tm.right_kid ht hm2) (hfit.kid hm2) _ _ _ (hl.app (.one ⟨rz, hvl, own.vars⟩)) (hn.app (fun x hx => by
          simp at hx; subst hx; intro v hv
          rcases List.mem_append.1 (hz v hv) with a | a
          · exact .inr a
          · exact .inl a)) h
      · cases h
    · obtain ⟨k, m, hkk⟩ := Tm.kids2 ht (by omega)
      have hm1 : k ∈ t.kids := by rw [hkk]; simp
      have hm2 : m ∈ t.kids := by rw [hkk]; simp
      have ha := own.a (by rw [hk]; rfl)
      have hb := own.b (by rw [hk]; rfl)
      rw [ck_rec hk hkk] at h
      split at h
      · split at h
        · rename_i hin
          have i1 := inS_iff.1 hin.1
          have i2 := inS_iff.1 hin.2
          have i3 : ∀ v, (Ty.mk 9 0 [t.a, t.b]).Occ v → v ∈ t.vars ++ S := occ_mk (by omega) (by
            intro u hu
            simp at hu
            rcases hu with rfl | rfl
            · exact i1
            · exact i2)
          obtain ⟨z, hc, h⟩ := bind_ok h
          split at h
          · exact ih m hm2 (Tm.right_kid ht hm2) (hfit.kid hm2) _ _ _ (hl.app (.one ⟨right_fun ha hb, hvl, own.vars⟩)) (hn.app (fun x hx => by
              simp at hx; subst hx; intro v hv
              rcases List.mem_append.1 (i3 v hv) with a | a
              · exact .inr a
              · exact .inl a)) h
          · cases h
        · cases h
      · cases h
    · exact rest (by omega)
    · obtain ⟨k, ks, hkk, hlen⟩ := Tm.kidsM ht hk
      have hm1 : k ∈ t.kids := by rw [hkk]; simp
      rw [ck_match hk hkk] at h
      obtain ⟨z, hc, h⟩ := bind_ok h
      have rz := ck_right k (Tm.right_kid ht hm1) (hfit.kid hm1) _ _ _ hl hc
      have hz := ih k hm1 (Tm.right_kid ht hm1) (hfit.kid hm1) _ _ _ hl hn hc
      -- the arms' names are right, too
      have key : ∀ {r : List (Pat × Chk)} {out : Option Ty} {w : Ty}, (∀ p ∈ r, ∀ m : List Nm, NmsOk m → NmsIn S m → ∀ u, p.2 m S = .ok u → ∀ v, u.Occ v → v ∈ S) → (∀ o, out = some o → ∀ v, o.Occ v → v ∈ S) → ckArms z l S r out = .ok w → ∀ v, w.Occ v → v ∈ S := by
        intro r
        induction r with
        | nil =>
          intro out w _ ho h
          exact ckArms_occ hz hn (r := []) (fun p hp => by cases hp) ho h
        | cons q r ihr =>
          intro out w hr ho h
          obtain ⟨p, f⟩ := q
          simp only [ckArms] at h
          cases hb : p.binds z with
          | none => rw [hb] at h; cases h
          | some b =>
            rw [hb] at h
            obtain ⟨a, hf, h⟩ := bind_ok h
            have nb : NmsIn S (b.map nmOfE) := fun x hx v hv => by
              obtain ⟨e, he, rfl⟩ := List.mem_map.1 hx
              exact .inl (Pat.binds_occ p z b hz hb e he v hv)
            have ha := hr (p, f) (List.mem_cons_self ..) _ (hl.app (NmsOk.ents (Pat.binds_right p z b rz hb))) (hn.app nb) a hf
            cases out with
            | none => exact ihr (fun p' hp' => hr p' (List.mem_cons_of_mem _ hp')) (fun o h => by cases h; exact ha) h
            | some o =>
              simp only at h
              split at h
              · exact ihr (fun p' hp' => hr p' (List.mem_cons_of_mem _ hp')) ho h
              · cases h
      refine key (fun p hp m hm hmi u hu => ?_) (fun o h => by cases h) h
      obtain ⟨k', hk', e⟩ := List.mem_map.1 (List.of_mem_zip hp).2
      have hm2 : k' ∈ t.kids := by rw [hkk]; exact List.mem_cons_of_mem _ hk'
      exact ih k' hm2 (Tm.right_kid ht hm2) (hfit.kid hm2) m S u hm hmi (by rw [e]; exact hu)
    · exact rest (by omega)
    · exact rest (by omega)

/-- A term's type is closed. -/
theorem ck_closed {t : Tm} (ht : t.right = true) (hf : t.fit) {y : Ty} (h : ck t [] [] = .ok y) : y.without 6 = true :=
  Ty.closed_iff.2 fun v hv => by
    have := ck_occ t ht hf [] [] y (fun x hx => by cases hx) (fun x hx => by cases hx) h v hv
    cases this

theorem Tm.wide_mass (t : Tm) : t.wide ≤ 2 * t.mass := by
  induction t using Tm.ind with
  | h t ih =>
    rw [Tm.wide_eq, Tm.mass_eq]
    have h1 := sum_le_sum ih
    have h2 := sum_le_sum (l := t.pats) (f := Pat.size) (g := Pat.mass) fun p _ => p.size_mass
    have h3 : (t.kids.map fun k => 2 * k.mass).sum = 2 * (t.kids.map Tm.mass).sum := by
      have : ∀ l : List Tm, (l.map fun k => 2 * k.mass).sum = 2 * (l.map Tm.mass).sum := by
        intro l
        induction l with
        | nil => rfl
        | cons a l ih => simp only [List.map_cons, List.sum_cons, ih]; omega
      exact this _
    omega

/-- A cast. -/
def castTm (a b : Ty) (t : Tm) : Tm := .mk 16 0 0 nil8 nil8 0 nil8 0 0 false [] a b [] [] [t]
theorem cast_right {a b : Ty} {t : Tm} (ha : a.right = true) (hb : b.right = true) (ht : t.right = true) : (castTm a b t).right = true := by
  have n0 : (0 : Nat) ≤ 200 := by omega
  rw [Tm.right_eq]
  simp [castTm, Tm.one, Tm.one1, Tm.one2, Tm.one3, Tm.one4, Tm.one5, Tm.lists, kOk, kKids, kName, kArg, kN, kS, kOp, kAt, kVars, kArgs, kPats, kA, kB, kLabel, namedB, typedB, nil8_size, ha, hb, ht]
theorem cast_fit {a b : Ty} {t : Tm} (ha : a.thin = true) (hb : b.thin = true) (va : a.vcount ≤ lim) (vb : b.vcount ≤ lim) (ht : t.fit) : (castTm a b t).fit := by
  refine .mk _ ⟨?_, ?_, ?_, ?_, ha, hb, va, vb, ?_, ?_, ?_, ?_, ?_, ?_⟩ fun k hk => ?_
  · show nil8.size ≤ _; rw [nil8_size]; omega
  · show nil8.size ≤ _; rw [nil8_size]; omega
  · show nil8.size ≤ _; rw [nil8_size]; omega
  · simp [castTm, lim]
  · simp [castTm, lim]
  · simp [castTm]
  · simp [castTm]
  · simp [castTm, lim]
  · simp [castTm]
  · simp [castTm, lim]
  · simp [castTm] at hk; subst hk; exact ht
theorem cast_wide (a b : Ty) (t : Tm) : (castTm a b t).wide = t.wide + 2 := by rw [Tm.wide_eq]; simp [castTm]; omega

theorem ck_cast {a b : Ty} {t : Tm} (ht : t.right = true) (ha : a.right = true) (hb : b.right = true) : ckType (castTm a b t) = (ck t [] []).bind fun y =>
    if inS [] a && inS [] b then if y = a ∧ a.agrees b = true then .ok b else .error 4 else .error 6 := by
  unfold ckType
  rw [if_pos (cast_right ha hb ht), ck_rest (.inr (.inr (.inr (.inr (.inr rfl)))))]
  have : (castTm a b t).kids = [t] := rfl
  rw [this]
  simp only [List.map_cons, List.map_nil, ckKids]
  cases ck t [] [] with
  | error e => rfl
  | ok y =>
    simp only [Except.bind]
    unfold ckOf
    have k : (castTm a b t).kind = 16 := rfl
    rw [if_neg (by rw [k]; omega), if_neg (by rw [k]; omega), if_neg (by rw [k]; omega), if_neg (by rw [k]; omega), if_neg (by rw [k]; omega), if_pos k]
    rfl

theorem inS_nil {t : Ty} : inS [] t = t.without 6 := by
  rw [Bool.eq_iff_iff, inS_iff, Ty.closed_iff]
  simp
end Go.Su

/-
  FROM A READING TO DATA: what an argument reads as lies in memory as plain data.
-/
namespace Go.Su

mutual
def bulkW {H : Type} : DataW H → Nat
  | .lit (.string bytes) => bytes.length + 1
  | .lit _ => 1
  | .nil => 1
  | .ptr d => bulkW d + 1
  | .slice elems spare => bulkAll elems + bulkAll spare + 1
  | .agg parts => bulkAll parts + 1
  | .iface _ d => bulkW d + 1
  | .map entries => bulkEntries entries + 1
  | .held _ => 1
def bulkAll {H : Type} : List (DataW H) → Nat
  | [] => 0
  | d :: r => bulkW d + bulkAll r
def bulkEntries {H : Type} : List (Lit × DataW H) → Nat
  | [] => 0
  | x :: r => bulkEntry x + bulkEntries r
def bulkEntry {H : Type} : Lit × DataW H → Nat
  | (.string bytes, d) => bytes.length + bulkW d + 1
  | (_, d) => bulkW d + 1
end

/-- All that is there. -/
def Old (w : World) : Seal := fun b _ => b < w.heap.size

section
variable {H : Type} {enc : TypeId × Value → H} {P : Program} {w : World} {held : Bool}

abbrev Rd (enc : TypeId × Value → H) (P : Program) (w : World) (held : Bool) : Nat → TypeId → List Value → Option (DataW H × List MemPlace) := DataW.trod enc P w 0 (fun _ => true) held

theorem bulkAll_ge {l : List (DataW H)} {m : List Nat} (h1 : m.length = l.length) (h2 : ∀ (i : Nat) (a : Nat) (d : DataW H), m[i]? = some a → l[i]? = some d → a ≤ bulkW d) : m.sum ≤ bulkAll l := by
  induction l generalizing m with
  | nil => cases m <;> simp_all
  | cons d l ih =>
    cases m with
    | nil => simp at h1
    | cons a m =>
      simp only [List.sum_cons, bulkAll]
      have h3 := h2 0 a d rfl rfl
      have h4 := ih (m := m) (by simpa using h1) fun i a d ha hd => h2 (i + 1) a d (by simpa using ha) (by simpa using hd)
      omega

theorem add_block (a : Addr) (k : Nat) : (a.add k).block = a.block := by unfold Addr.add; split <;> rfl
theorem add_off (a : Addr) (k : Nat) : (a.add k).off = a.off + k := by unfold Addr.add; split <;> simp_all

theorem rd_cells {a : Addr} {n : Nat} {cs : List Value} (h : w.cells? 0 a n = some cs) (hn : 0 < n) : a.spot = none ∧ cs.length = n ∧ At (Old w) w.heap a.block a.off cs := by
  obtain ⟨-, hl, hc⟩ := World.cells?_some h
  have hs : a.spot = none := by
    have h0 := hc 0 hn
    have : cs[0]? = some (cs[0]'(by omega)) := List.getElem?_eq_getElem (by omega)
    rw [this] at h0
    unfold World.cell? at h0
    split at h0
    · split at h0
      · cases h0
      · rename_i hsp
        simpa [Addr.add] using hsp
    · cases h0
  refine ⟨hs, hl, fun j v hv => ?_⟩
  have hj : j < n := by rw [← hl]; exact (List.getElem?_eq_some_iff.1 hv).1
  have h1 := hc j hj
  have e : a.add j = ⟨a.block, a.off + j, none⟩ := by
    unfold Addr.add
    split
    · rename_i h0; cases a; simp only at hs; subst hs; simp [h0]
    · rfl
  rw [e, cell_hc, hv] at h1
  refine ⟨h1, ?_⟩
  unfold Su.hc at h1
  split at h1
  · rename_i hb
    exact (Array.getElem?_eq_some_iff.1 hb).1
  · cases h1

theorem rd_slice {α : Type} {e : α → DV} {sz : α → Nat} {el t : TypeId} {fuel : Nat} {cs : List Value} {x : DataW H × List MemPlace} (ht : P.underlying t = some (.slice el)) (hz : 0 < P.cellsOf el)
    (h : ∀ n cs x, n < fuel → Rd enc P w held n el cs = some x → ∃ a : α, RC (Old w) w.heap (e a) cs ∧ sz a ≤ bulkW x.1) (hr : Rd enc P w held fuel t cs = some x) :
    ∃ l : List α, RC (Old w) w.heap (.list (P.cellsOf el) (l.map e)) cs ∧ (l.map sz).sum + 1 ≤ bulkW x.1 := by
  rcases DataW.trod_slice ht hr with ⟨rfl, rfl⟩ | ⟨a, len, cap, elems, rest, n, rfl, rfl, rfl, hb, hlc, hcm, hel, hi, hsp, -⟩
  · refine ⟨[], ?_, by simp [bulkW]⟩
    simp only [RC, List.map_nil]
    exact ⟨none, 0, 0, rfl, rfl, Nat.le_refl _, fun _ => rfl, by simp, by simp⟩
  · have each : ∀ i : Fin len, ∃ y : α, ((i.1 = 0 → a.spot = none) ∧ Elem (Old w) w.heap (P.cellsOf el) a.block (a.off + i.1 * P.cellsOf el) (e y)) ∧ ∀ d, (elems.map (·.1))[i.1]? = some d → sz y ≤ bulkW d := by
      intro i
      have h1 := hi i.1 i.2
      have h2 : elems[i.1]? = some (elems[i.1]'(by omega)) := List.getElem?_eq_getElem (by omega)
      rw [h2] at h1
      obtain ⟨cs', h3, h4⟩ := Option.bind_eq_some_iff.1 h1
      obtain ⟨y, h5, h6⟩ := h n cs' _ (Nat.lt_succ_self n) h4
      obtain ⟨q1, q2, q3⟩ := rd_cells h3 hz
      rw [add_block, add_off] at q3
      refine ⟨y, ⟨fun h0 => by rw [h0] at q1; simpa [Addr.add] using q1, cs', q2, q3, h5⟩, fun d hd => ?_⟩
      rw [List.getElem?_map, h2] at hd
      simp only [Option.map_some, Option.some.injEq] at hd
      rw [← hd]
      exact h6
    let f : Fin len → α := fun i => (each i).choose
    have hf := fun i : Fin len => (each i).choose_spec
    refine ⟨List.ofFn f, ?_, ?_⟩
    · simp only [RC]
      refine ⟨some a, len, cap, rfl, by simp, hlc, by simp, fun _ => hz, fun y hy => ?_⟩
      simp only [Option.some.injEq] at hy
      subst hy
      refine ⟨fun hcap => ?_, ?_⟩
      · by_cases hl : 0 < len
        · exact (hf ⟨0, hl⟩).1.1 rfl
        · obtain ⟨r1, r2⟩ := hsp rfl
          have h1 := r2 0 (by omega)
          have h2 : rest[0]? = some (rest[0]'(by omega)) := List.getElem?_eq_getElem (by omega)
          rw [h2] at h1
          obtain ⟨cs', h3, -⟩ := Option.bind_eq_some_iff.1 h1
          have hl0 : len = 0 := by omega
          have := (rd_cells h3 hz).1
          simpa [Addr.add, hl0] using this
      · rw [RElems_iff]
        intro i d hd
        rw [List.getElem?_map, Option.map_eq_some_iff] at hd
        obtain ⟨y, hy, rfl⟩ := hd
        have hlt : i < len := by have := (List.getElem?_eq_some_iff.1 hy).1; simpa using this
        rw [List.getElem?_ofFn, dif_pos hlt] at hy
        simp only [Option.some.injEq] at hy
        subst hy
        exact (hf ⟨i, hlt⟩).1.2
    · simp only [bulkW]
      have := bulkAll_ge (l := elems.map (·.1)) (m := (List.ofFn f).map sz) (by simp [hel]) fun i b d hb hd => by
        rw [List.getElem?_map, Option.map_eq_some_iff] at hb
        obtain ⟨y, hy, rfl⟩ := hb
        have hlt : i < len := by have := (List.getElem?_eq_some_iff.1 hy).1; simpa using this
        rw [List.getElem?_ofFn, dif_pos hlt] at hy
        simp only [Option.some.injEq] at hy
        subst hy
        exact (hf ⟨i, hlt⟩).2 d hd
      omega

theorem RLs_append {S : Seal} {h : Heap} : ∀ {a b : List DV} {p q : List Value}, RLs S h a p → RLs S h b q → RLs S h (a ++ b) (p ++ q)
  | [], b, p, q, ha, hb => by simp only [RLs] at ha; subst ha; simpa using hb
  | d :: a, b, p, q, ha, hb => by
    simp only [RLs] at ha
    obtain ⟨v, vs', rfl, h1, h2, h3⟩ := ha
    simp only [List.cons_append, RLs]
    exact ⟨v, vs' ++ q, rfl, h1, h2, RLs_append h3 hb⟩

theorem RLs_one {S : Seal} {h : Heap} {d : DV} {cs : List Value} (hd : isLeaf d = true) (hr : RC S h d cs) : RLs S h [d] cs := by
  obtain ⟨v, rfl⟩ := RC_leaf hd hr
  exact ⟨v, [], rfl, hd, hr, rfl⟩

/-- What the fields of a struct read as, one by one. -/
theorem rd_struct {fs : Array Field} {t : TypeId} {fuel : Nat} {cs : List Value} {x : DataW H × List MemPlace} (ht : P.underlying t = some (.struct fs)) (hr : Rd enc P w held fuel t cs = some x) :
    ∃ (n : Nat) (ds : List (DataW H)), fuel = n + 1 ∧ bulkW x.1 = bulkAll ds + 1 ∧ cs.length = P.cellsOf t ∧ ds.length = fs.size ∧
      ∀ (i : Nat) f, fs[i]? = some f → ∃ y, Rd enc P w held n f.type ((cs.drop f.offset).take (P.cellsOf f.type)) = some y ∧ ds[i]? = some y.1 := by
  obtain ⟨xs, n, rfl, rfl, h1, h2, h3⟩ := DataW.trod_struct ht hr
  refine ⟨n, xs.map (·.1), rfl, by simp [bulkW], h1, by simpa using h2, fun i f hf => ?_⟩
  have hi : i < xs.length := by rw [h2]; exact (Array.getElem?_eq_some_iff.1 hf).1
  refine ⟨xs[i], ?_, by simp [List.getElem?_eq_getElem hi]⟩
  have h4 := h3 i f hf
  rw [List.getElem?_eq_getElem hi] at h4
  exact h4

theorem rd_int {k : IntKind} {t : TypeId} {fuel : Nat} {cs : List Value} {x : DataW H × List MemPlace} (ht : P.underlying t = some (.int k)) (hr : Rd enc P w held fuel t cs = some x) : ∃ n : Int, RC (Old w) w.heap (.int k n) cs ∧ (Lit.int k n).wf = true ∧ 1 ≤ bulkW x.1 := by
  obtain ⟨n, rfl, rfl, hw⟩ := DataW.trod_int ht hr
  exact ⟨n, by simp only [RC], hw, by simp [bulkW]⟩

theorem rd_bool {t : TypeId} {fuel : Nat} {cs : List Value} {x : DataW H × List MemPlace} (ht : P.underlying t = some .bool) (hr : Rd enc P w held fuel t cs = some x) : ∃ b : Bool, RC (Old w) w.heap (.bool b) cs ∧ 1 ≤ bulkW x.1 := by
  obtain ⟨b, rfl, rfl⟩ := DataW.trod_bool ht hr
  exact ⟨b, by simp only [RC], by simp [bulkW]⟩

theorem rd_str {t : TypeId} {fuel : Nat} {cs : List Value} {x : DataW H × List MemPlace} (ht : P.underlying t = some .string) (hr : Rd enc P w held fuel t cs = some x) : ∃ s : ByteArray, RC (Old w) w.heap (.str s) cs ∧ s.size + 1 ≤ bulkW x.1 := by
  obtain ⟨s, rfl, rfl, hw⟩ := DataW.trod_string ht hr
  exact ⟨s, by simp only [RC], by simp [bulkW]⟩

theorem bulkW_pos (d : DataW H) : 1 ≤ bulkW d := by
  cases d with
  | lit l => cases l <;> simp [bulkW]
  | _ => simp [bulkW]

theorem bulk_part {ds : List (DataW H)} {i : Nat} {d : DataW H} (h : ds[i]? = some d) : bulkW d ≤ bulkAll ds := by
  induction ds generalizing i with
  | nil => simp at h
  | cons a ds ih =>
    cases i with
    | zero => simp at h; subst h; simp only [bulkAll]; omega
    | succ i => simp at h; have := ih h; simp only [bulkAll]; omega

end
end Go.Su

/-
  FROM A READING TO DATA: the program's types, one by one. By program.
-/
namespace Go.Su
set_option linter.unusedSimpArgs false
set_option linter.unusedVariables false

def IntAt (P : Program) (t : TypeId) : Prop := P.underlying t = some (.int .i64) ∧ P.cellsOf t = 1
def StrAt (P : Program) (t : TypeId) : Prop := P.underlying t = some .string ∧ P.cellsOf t = 1
def BoolAt (P : Program) (t : TypeId) : Prop := P.underlying t = some .bool ∧ P.cellsOf t = 1
def SliceAt (P : Program) (t el : TypeId) : Prop := P.underlying t = some (.slice el) ∧ P.cellsOf t = 1
def SpanAt (P : Program) (t : TypeId) : Prop := ∃ f0 f1 : Field, P.underlying t = some (.struct #[f0, f1]) ∧ P.cellsOf t = 2 ∧ (IntAt P f0.type ∧ f0.offset = 0) ∧ (IntAt P f1.type ∧ f1.offset = 1)
def IntsAt (P : Program) (t : TypeId) : Prop := ∃ el, SliceAt P t el ∧ IntAt P el

section
variable {H : Type} {enc : TypeId × Value → H} {P : Program} {w : World} {held : Bool}

theorem rd_ints {t : TypeId} (A : IntsAt P t) {fuel : Nat} {cs : List Value} {x : DataW H × List MemPlace} (hr : Rd enc P w held fuel t cs = some x) : ∃ l : List Int, RC (Old w) w.heap (encInts l) cs ∧ l.length + 1 ≤ bulkW x.1 := by
  obtain ⟨el, A1, A2⟩ := A
  obtain ⟨l, h1, h2⟩ := rd_slice (e := fun n : Int => .int .i64 n) (sz := fun _ => 1) A1.1 (by rw [A2.2]; omega) (fun n cs x _ h => by obtain ⟨n, h1, -, h2⟩ := rd_int A2.1 h; exact ⟨n, h1, h2⟩) hr
  rw [A2.2] at h1
  have h3 : ∀ l : List Int, (l.map fun _ => 1).sum = l.length := by
    intro l
    induction l with
    | nil => rfl
    | cons a l ih => simp only [List.map_cons, List.sum_cons, ih, List.length_cons]; omega
  rw [h3] at h2
  exact ⟨l, h1, h2⟩

theorem rd_span {t : TypeId} (A : SpanAt P t) {fuel : Nat} {cs : List Value} {x : DataW H × List MemPlace} (hr : Rd enc P w held fuel t cs = some x) : ∃ a b : Int, RLs (Old w) w.heap [.int .i64 a, .int .i64 b] cs ∧ 1 ≤ bulkW x.1 := by
  obtain ⟨f0, f1, hu, hc, ⟨t0, o0⟩, t1, o1⟩ := A
  obtain ⟨n, ds, rfl, hb, hl, hd, hf⟩ := rd_struct hu hr
  obtain ⟨y0, r0, d0⟩ := hf 0 f0 rfl
  obtain ⟨y1, r1, d1⟩ := hf 1 f1 rfl
  rw [o0, t0.2] at r0
  rw [o1, t1.2] at r1
  rw [hc] at hl
  obtain ⟨k, q0, -, b0⟩ := rd_int t0.1 r0
  obtain ⟨m, q1, -, b1⟩ := rd_int t1.1 r1
  refine ⟨k, m, ?_, bulkW_pos _⟩
  have e : cs = (cs.drop 0).take 1 ++ (cs.drop 1).take 1 := by
    match cs, hl with
    | [a, b], _ => rfl
  rw [e]
  exact RLs_append (a := [_]) (RLs_one rfl q0) (RLs_one rfl q1)

def TyAt (P : Program) (t : TypeId) : Prop := ∃ f0 f1 f2 : Field, P.underlying t = some (.struct #[f0, f1, f2]) ∧ P.cellsOf t = 3 ∧ (IntAt P f0.type ∧ f0.offset = 0) ∧ (IntAt P f1.type ∧ f1.offset = 1) ∧ (SliceAt P f2.type t ∧ f2.offset = 2)
theorem TyAt.cells {t : TypeId} (A : TyAt P t) : P.cellsOf t = 3 := by obtain ⟨_, _, _, _, h, _⟩ := A; exact h
theorem rd_Ty {t : TypeId} (A : TyAt P t) : ∀ (fuel : Nat) (cs : List Value) (x : DataW H × List MemPlace), Rd enc P w held fuel t cs = some x → ∃ a : Ty, RC (Old w) w.heap a.enc cs ∧ a.size ≤ bulkW x.1 := by
  intro fuel
  induction fuel using Nat.strongRecOn with
  | ind fuel ih =>
    intro cs x hr
    have A0 := A
    obtain ⟨f0, f1, f2, hu, hc, ⟨t0, o0⟩, ⟨t1, o1⟩, t2, o2⟩ := A
    obtain ⟨n, ds, rfl, hb, hl, hd, hf⟩ := rd_struct hu hr
    rw [hc] at hl
    obtain ⟨y0, r0, d0⟩ := hf 0 f0 rfl
    rw [o0, t0.2] at r0
    obtain ⟨v0, q0, -, b0⟩ := rd_int t0.1 r0
    obtain ⟨y1, r1, d1⟩ := hf 1 f1 rfl
    rw [o1, t1.2] at r1
    obtain ⟨v1, q1, -, b1⟩ := rd_int t1.1 r1
    obtain ⟨y2, r2, d2⟩ := hf 2 f2 rfl
    rw [o2, t2.2] at r2
    obtain ⟨v2, q2, b2⟩ := rd_slice (sz := Ty.size) t2.1 (by rw [hc]; omega) (fun n' cs x hn h => ih n' (by omega) cs x h) r2
    rw [hc] at q2
    refine ⟨.mk v0 v1 v2, ?_, ?_⟩
    · rw [Ty.enc_eq]
      simp only [RC, Ty.kind_mk, Ty.n_mk, Ty.kids_mk]
      have e : cs = (cs.drop 0).take 1 ++ ((cs.drop 1).take 1 ++ ((cs.drop 2).take 1)) := by
        match cs, hl with
        | [c0, c1, c2], _ => rfl
      rw [e]
      exact (RLs_append (a := [_]) (RLs_one rfl q0) (RLs_append (a := [_]) (RLs_one rfl q1) (RLs_one rfl q2)))
    · rw [Ty.size_eq, hb]
      simp only [Ty.kind_mk, Ty.n_mk, Ty.kids_mk]
      have hs : ds = [y0.1, y1.1, y2.1] := by
        have hd : ds.length = 3 := hd
        match ds, hd, d0, d1, d2 with
        | [a0, a1, a2], _, d0, d1, d2 => simp_all
      rw [hs]
      simp only [bulkAll]
      omega

def PatAt (P : Program) (t : TypeId) : Prop := ∃ f0 f1 f2 f3 f4 f5 : Field, P.underlying t = some (.struct #[f0, f1, f2, f3, f4, f5]) ∧ P.cellsOf t = 7 ∧ (IntAt P f0.type ∧ f0.offset = 0) ∧ (SpanAt P f1.type ∧ f1.offset = 1) ∧ (StrAt P f2.type ∧ f2.offset = 3) ∧ (IntAt P f3.type ∧ f3.offset = 4) ∧ (StrAt P f4.type ∧ f4.offset = 5) ∧ (SliceAt P f5.type t ∧ f5.offset = 6)
theorem PatAt.cells {t : TypeId} (A : PatAt P t) : P.cellsOf t = 7 := by obtain ⟨_, _, _, _, _, _, _, h, _⟩ := A; exact h
theorem rd_Pat {t : TypeId} (A : PatAt P t) : ∀ (fuel : Nat) (cs : List Value) (x : DataW H × List MemPlace), Rd enc P w held fuel t cs = some x → ∃ a : Pat, RC (Old w) w.heap a.enc cs ∧ a.mass ≤ bulkW x.1 := by
  intro fuel
  induction fuel using Nat.strongRecOn with
  | ind fuel ih =>
    intro cs x hr
    have A0 := A
    obtain ⟨f0, f1, f2, f3, f4, f5, hu, hc, ⟨t0, o0⟩, ⟨t1, o1⟩, ⟨t2, o2⟩, ⟨t3, o3⟩, ⟨t4, o4⟩, t5, o5⟩ := A
    obtain ⟨n, ds, rfl, hb, hl, hd, hf⟩ := rd_struct hu hr
    rw [hc] at hl
    obtain ⟨y0, r0, d0⟩ := hf 0 f0 rfl
    rw [o0, t0.2] at r0
    obtain ⟨v0, q0, -, b0⟩ := rd_int t0.1 r0
    obtain ⟨y1, r1, d1⟩ := hf 1 f1 rfl
    obtain ⟨g10, g11, gu1, gc1, gr1⟩ := id t1
    rw [o1, gc1] at r1
    obtain ⟨v1, v1b, q1, b1⟩ := rd_span t1 r1
    obtain ⟨y2, r2, d2⟩ := hf 2 f2 rfl
    rw [o2, t2.2] at r2
    obtain ⟨v2, q2, b2⟩ := rd_str t2.1 r2
    obtain ⟨y3, r3, d3⟩ := hf 3 f3 rfl
    rw [o3, t3.2] at r3
    obtain ⟨v3, q3, -, b3⟩ := rd_int t3.1 r3
    obtain ⟨y4, r4, d4⟩ := hf 4 f4 rfl
    rw [o4, t4.2] at r4
    obtain ⟨v4, q4, b4⟩ := rd_str t4.1 r4
    obtain ⟨y5, r5, d5⟩ := hf 5 f5 rfl
    rw [o5, t5.2] at r5
    obtain ⟨v5, q5, b5⟩ := rd_slice (sz := Pat.mass) t5.1 (by rw [hc]; omega) (fun n' cs x hn h => ih n' (by omega) cs x h) r5
    rw [hc] at q5
    refine ⟨.mk v0 v1 v1b v2 v3 v4 v5, ?_, ?_⟩
    · rw [Pat.enc_eq]
      simp only [RC, Pat.kind_mk, Pat.lo_mk, Pat.hi_mk, Pat.name_mk, Pat.n_mk, Pat.s_mk, Pat.kids_mk]
      have e : cs = (cs.drop 0).take 1 ++ ((cs.drop 1).take 2 ++ ((cs.drop 3).take 1 ++ ((cs.drop 4).take 1 ++ ((cs.drop 5).take 1 ++ ((cs.drop 6).take 1))))) := by
        match cs, hl with
        | [c0, c1, c2, c3, c4, c5, c6], _ => rfl
      rw [e]
      exact (RLs_append (a := [_]) (RLs_one rfl q0) (RLs_append (a := [_, _]) (q1) (RLs_append (a := [_]) (RLs_one rfl q2) (RLs_append (a := [_]) (RLs_one rfl q3) (RLs_append (a := [_]) (RLs_one rfl q4) (RLs_one rfl q5))))))
    · rw [Pat.mass_eq, hb]
      simp only [Pat.kind_mk, Pat.lo_mk, Pat.hi_mk, Pat.name_mk, Pat.n_mk, Pat.s_mk, Pat.kids_mk]
      have hs : ds = [y0.1, y1.1, y2.1, y3.1, y4.1, y5.1] := by
        have hd : ds.length = 6 := hd
        match ds, hd, d0, d1, d2, d3, d4, d5 with
        | [a0, a1, a2, a3, a4, a5], _, d0, d1, d2, d3, d4, d5 => simp_all
      rw [hs]
      simp only [bulkAll]
      omega

def ExAt (P : Program) (t : TypeId) : Prop := ∃ f0 f1 f2 f3 f4 f5 f6 f7 f8 f9 f10 : Field, P.underlying t = some (.struct #[f0, f1, f2, f3, f4, f5, f6, f7, f8, f9, f10]) ∧ P.cellsOf t = 16 ∧ (IntAt P f0.type ∧ f0.offset = 0) ∧ (SpanAt P f1.type ∧ f1.offset = 1) ∧ (StrAt P f2.type ∧ f2.offset = 3) ∧ (StrAt P f3.type ∧ f3.offset = 4) ∧ (IntAt P f4.type ∧ f4.offset = 5) ∧ (StrAt P f5.type ∧ f5.offset = 6) ∧ (IntAt P f6.type ∧ f6.offset = 7) ∧ (TyAt P f7.type ∧ f7.offset = 8) ∧ (TyAt P f8.type ∧ f8.offset = 11) ∧ ((∃ el, SliceAt P f9.type el ∧ PatAt P el) ∧ f9.offset = 14) ∧ (SliceAt P f10.type t ∧ f10.offset = 15)
theorem ExAt.cells {t : TypeId} (A : ExAt P t) : P.cellsOf t = 16 := by obtain ⟨_, _, _, _, _, _, _, _, _, _, _, _, h, _⟩ := A; exact h
theorem rd_Ex {t : TypeId} (A : ExAt P t) : ∀ (fuel : Nat) (cs : List Value) (x : DataW H × List MemPlace), Rd enc P w held fuel t cs = some x → ∃ a : Ex, RC (Old w) w.heap a.enc cs ∧ a.mass ≤ bulkW x.1 := by
  intro fuel
  induction fuel using Nat.strongRecOn with
  | ind fuel ih =>
    intro cs x hr
    have A0 := A
    obtain ⟨f0, f1, f2, f3, f4, f5, f6, f7, f8, f9, f10, hu, hc, ⟨t0, o0⟩, ⟨t1, o1⟩, ⟨t2, o2⟩, ⟨t3, o3⟩, ⟨t4, o4⟩, ⟨t5, o5⟩, ⟨t6, o6⟩, ⟨t7, o7⟩, ⟨t8, o8⟩, ⟨t9, o9⟩, t10, o10⟩ := A
    obtain ⟨n, ds, rfl, hb, hl, hd, hf⟩ := rd_struct hu hr
    rw [hc] at hl
    obtain ⟨y0, r0, d0⟩ := hf 0 f0 rfl
    rw [o0, t0.2] at r0
    obtain ⟨v0, q0, -, b0⟩ := rd_int t0.1 r0
    obtain ⟨y1, r1, d1⟩ := hf 1 f1 rfl
    obtain ⟨g10, g11, gu1, gc1, gr1⟩ := id t1
    rw [o1, gc1] at r1
    obtain ⟨v1, v1b, q1, b1⟩ := rd_span t1 r1
    obtain ⟨y2, r2, d2⟩ := hf 2 f2 rfl
    rw [o2, t2.2] at r2
    obtain ⟨v2, q2, b2⟩ := rd_str t2.1 r2
    obtain ⟨y3, r3, d3⟩ := hf 3 f3 rfl
    rw [o3, t3.2] at r3
    obtain ⟨v3, q3, b3⟩ := rd_str t3.1 r3
    obtain ⟨y4, r4, d4⟩ := hf 4 f4 rfl
    rw [o4, t4.2] at r4
    obtain ⟨v4, q4, -, b4⟩ := rd_int t4.1 r4
    obtain ⟨y5, r5, d5⟩ := hf 5 f5 rfl
    rw [o5, t5.2] at r5
    obtain ⟨v5, q5, b5⟩ := rd_str t5.1 r5
    obtain ⟨y6, r6, d6⟩ := hf 6 f6 rfl
    rw [o6, t6.2] at r6
    obtain ⟨v6, q6, -, b6⟩ := rd_int t6.1 r6
    obtain ⟨y7, r7, d7⟩ := hf 7 f7 rfl
    rw [o7, t7.cells] at r7
    obtain ⟨v7, q7, b7⟩ := rd_Ty t7 _ _ _ r7
    rw [Ty.enc_eq] at q7
    simp only [RC] at q7
    obtain ⟨y8, r8, d8⟩ := hf 8 f8 rfl
    rw [o8, t8.cells] at r8
    obtain ⟨v8, q8, b8⟩ := rd_Ty t8 _ _ _ r8
    rw [Ty.enc_eq] at q8
    simp only [RC] at q8
    obtain ⟨y9, r9, d9⟩ := hf 9 f9 rfl
    obtain ⟨e9, s9, z9⟩ := t9
    rw [o9, s9.2] at r9
    obtain ⟨v9, q9, b9⟩ := rd_slice (sz := Pat.mass) s9.1 (by rw [z9.cells]; omega) (fun n' cs x hn h => rd_Pat z9 n' cs x h) r9
    rw [z9.cells] at q9
    obtain ⟨y10, r10, d10⟩ := hf 10 f10 rfl
    rw [o10, t10.2] at r10
    obtain ⟨v10, q10, b10⟩ := rd_slice (sz := Ex.mass) t10.1 (by rw [hc]; omega) (fun n' cs x hn h => ih n' (by omega) cs x h) r10
    rw [hc] at q10
    refine ⟨.mk v0 v1 v1b v2 v3 v4 v5 v6 v7 v8 v9 v10, ?_, ?_⟩
    · rw [Ex.enc_eq]
      simp only [RC, Ex.kind_mk, Ex.lo_mk, Ex.hi_mk, Ex.name_mk, Ex.arg_mk, Ex.n_mk, Ex.s_mk, Ex.op_mk, Ex.a_mk, Ex.b_mk, Ex.pats_mk, Ex.kids_mk]
      have e : cs = (cs.drop 0).take 1 ++ ((cs.drop 1).take 2 ++ ((cs.drop 3).take 1 ++ ((cs.drop 4).take 1 ++ ((cs.drop 5).take 1 ++ ((cs.drop 6).take 1 ++ ((cs.drop 7).take 1 ++ ((cs.drop 8).take 3 ++ ((cs.drop 11).take 3 ++ ((cs.drop 14).take 1 ++ ((cs.drop 15).take 1)))))))))) := by
        match cs, hl with
        | [c0, c1, c2, c3, c4, c5, c6, c7, c8, c9, c10, c11, c12, c13, c14, c15], _ => rfl
      rw [e]
      exact (RLs_append (a := [_]) (RLs_one rfl q0) (RLs_append (a := [_, _]) (q1) (RLs_append (a := [_]) (RLs_one rfl q2) (RLs_append (a := [_]) (RLs_one rfl q3) (RLs_append (a := [_]) (RLs_one rfl q4) (RLs_append (a := [_]) (RLs_one rfl q5) (RLs_append (a := [_]) (RLs_one rfl q6) (RLs_append (a := [_, _, _]) (q7) (RLs_append (a := [_, _, _]) (q8) (RLs_append (a := [_]) (RLs_one rfl q9) (RLs_one rfl q10)))))))))))
    · rw [Ex.mass_eq, hb]
      simp only [Ex.kind_mk, Ex.lo_mk, Ex.hi_mk, Ex.name_mk, Ex.arg_mk, Ex.n_mk, Ex.s_mk, Ex.op_mk, Ex.a_mk, Ex.b_mk, Ex.pats_mk, Ex.kids_mk]
      have hs : ds = [y0.1, y1.1, y2.1, y3.1, y4.1, y5.1, y6.1, y7.1, y8.1, y9.1, y10.1] := by
        have hd : ds.length = 11 := hd
        match ds, hd, d0, d1, d2, d3, d4, d5, d6, d7, d8, d9, d10 with
        | [a0, a1, a2, a3, a4, a5, a6, a7, a8, a9, a10], _, d0, d1, d2, d3, d4, d5, d6, d7, d8, d9, d10 => simp_all
      rw [hs]
      simp only [bulkAll]
      omega

def TmAt (P : Program) (t : TypeId) : Prop := ∃ f0 f1 f2 f3 f4 f5 f6 f7 f8 f9 f10 f11 f12 f13 f14 : Field, P.underlying t = some (.struct #[f0, f1, f2, f3, f4, f5, f6, f7, f8, f9, f10, f11, f12, f13, f14]) ∧ P.cellsOf t = 20 ∧ (IntAt P f0.type ∧ f0.offset = 0) ∧ (SpanAt P f1.type ∧ f1.offset = 1) ∧ (StrAt P f2.type ∧ f2.offset = 3) ∧ (StrAt P f3.type ∧ f3.offset = 4) ∧ (IntAt P f4.type ∧ f4.offset = 5) ∧ (StrAt P f5.type ∧ f5.offset = 6) ∧ (IntAt P f6.type ∧ f6.offset = 7) ∧ (IntAt P f7.type ∧ f7.offset = 8) ∧ (BoolAt P f8.type ∧ f8.offset = 9) ∧ (IntsAt P f9.type ∧ f9.offset = 10) ∧ (TyAt P f10.type ∧ f10.offset = 11) ∧ (TyAt P f11.type ∧ f11.offset = 14) ∧ ((∃ el, SliceAt P f12.type el ∧ TyAt P el) ∧ f12.offset = 17) ∧ ((∃ el, SliceAt P f13.type el ∧ PatAt P el) ∧ f13.offset = 18) ∧ (SliceAt P f14.type t ∧ f14.offset = 19)
theorem TmAt.cells {t : TypeId} (A : TmAt P t) : P.cellsOf t = 20 := by obtain ⟨_, _, _, _, _, _, _, _, _, _, _, _, _, _, _, _, h, _⟩ := A; exact h
theorem rd_Tm {t : TypeId} (A : TmAt P t) : ∀ (fuel : Nat) (cs : List Value) (x : DataW H × List MemPlace), Rd enc P w held fuel t cs = some x → ∃ a : Tm, RC (Old w) w.heap a.enc cs ∧ a.mass ≤ bulkW x.1 := by
  intro fuel
  induction fuel using Nat.strongRecOn with
  | ind fuel ih =>
    intro cs x hr
    have A0 := A
    obtain ⟨f0, f1, f2, f3, f4, f5, f6, f7, f8, f9, f10, f11, f12, f13, f14, hu, hc, ⟨t0, o0⟩, ⟨t1, o1⟩, ⟨t2, o2⟩, ⟨t3, o3⟩, ⟨t4, o4⟩, ⟨t5, o5⟩, ⟨t6, o6⟩, ⟨t7, o7⟩, ⟨t8, o8⟩, ⟨t9, o9⟩, ⟨t10, o10⟩, ⟨t11, o11⟩, ⟨t12, o12⟩, ⟨t13, o13⟩, t14, o14⟩ := A
    obtain ⟨n, ds, rfl, hb, hl, hd, hf⟩ := rd_struct hu hr
    rw [hc] at hl
    obtain ⟨y0, r0, d0⟩ := hf 0 f0 rfl
    rw [o0, t0.2] at r0
    obtain ⟨v0, q0, -, b0⟩ := rd_int t0.1 r0
    obtain ⟨y1, r1, d1⟩ := hf 1 f1 rfl
    obtain ⟨g10, g11, gu1, gc1, gr1⟩ := id t1
    rw [o1, gc1] at r1
    obtain ⟨v1, v1b, q1, b1⟩ := rd_span t1 r1
    obtain ⟨y2, r2, d2⟩ := hf 2 f2 rfl
    rw [o2, t2.2] at r2
    obtain ⟨v2, q2, b2⟩ := rd_str t2.1 r2
    obtain ⟨y3, r3, d3⟩ := hf 3 f3 rfl
    rw [o3, t3.2] at r3
    obtain ⟨v3, q3, b3⟩ := rd_str t3.1 r3
    obtain ⟨y4, r4, d4⟩ := hf 4 f4 rfl
    rw [o4, t4.2] at r4
    obtain ⟨v4, q4, -, b4⟩ := rd_int t4.1 r4
    obtain ⟨y5, r5, d5⟩ := hf 5 f5 rfl
    rw [o5, t5.2] at r5
    obtain ⟨v5, q5, b5⟩ := rd_str t5.1 r5
    obtain ⟨y6, r6, d6⟩ := hf 6 f6 rfl
    rw [o6, t6.2] at r6
    obtain ⟨v6, q6, -, b6⟩ := rd_int t6.1 r6
    obtain ⟨y7, r7, d7⟩ := hf 7 f7 rfl
    rw [o7, t7.2] at r7
    obtain ⟨v7, q7, -, b7⟩ := rd_int t7.1 r7
    obtain ⟨y8, r8, d8⟩ := hf 8 f8 rfl
    rw [o8, t8.2] at r8
    obtain ⟨v8, q8, b8⟩ := rd_bool t8.1 r8
    obtain ⟨y9, r9, d9⟩ := hf 9 f9 rfl
    obtain ⟨e9, s9, z9⟩ := id t9
    rw [o9, s9.2] at r9
    obtain ⟨v9, q9, b9⟩ := rd_ints t9 r9
    obtain ⟨y10, r10, d10⟩ := hf 10 f10 rfl
    rw [o10, t10.cells] at r10
    obtain ⟨v10, q10, b10⟩ := rd_Ty t10 _ _ _ r10
    rw [Ty.enc_eq] at q10
    simp only [RC] at q10
    obtain ⟨y11, r11, d11⟩ := hf 11 f11 rfl
    rw [o11, t11.cells] at r11
    obtain ⟨v11, q11, b11⟩ := rd_Ty t11 _ _ _ r11
    rw [Ty.enc_eq] at q11
    simp only [RC] at q11
    obtain ⟨y12, r12, d12⟩ := hf 12 f12 rfl
    obtain ⟨e12, s12, z12⟩ := t12
    rw [o12, s12.2] at r12
    obtain ⟨v12, q12, b12⟩ := rd_slice (sz := Ty.size) s12.1 (by rw [z12.cells]; omega) (fun n' cs x hn h => rd_Ty z12 n' cs x h) r12
    rw [z12.cells] at q12
    obtain ⟨y13, r13, d13⟩ := hf 13 f13 rfl
    obtain ⟨e13, s13, z13⟩ := t13
    rw [o13, s13.2] at r13
    obtain ⟨v13, q13, b13⟩ := rd_slice (sz := Pat.mass) s13.1 (by rw [z13.cells]; omega) (fun n' cs x hn h => rd_Pat z13 n' cs x h) r13
    rw [z13.cells] at q13
    obtain ⟨y14, r14, d14⟩ := hf 14 f14 rfl
    rw [o14, t14.2] at r14
    obtain ⟨v14, q14, b14⟩ := rd_slice (sz := Tm.mass) t14.1 (by rw [hc]; omega) (fun n' cs x hn h => ih n' (by omega) cs x h) r14
    rw [hc] at q14
    refine ⟨.mk v0 v1 v1b v2 v3 v4 v5 v6 v7 v8 v9 v10 v11 v12 v13 v14, ?_, ?_⟩
    · rw [Tm.enc_eq]
      simp only [RC, Tm.kind_mk, Tm.lo_mk, Tm.hi_mk, Tm.name_mk, Tm.arg_mk, Tm.n_mk, Tm.s_mk, Tm.op_mk, Tm.label_mk, Tm.neg_mk, Tm.vars_mk, Tm.a_mk, Tm.b_mk, Tm.args_mk, Tm.pats_mk, Tm.kids_mk]
      have e : cs = (cs.drop 0).take 1 ++ ((cs.drop 1).take 2 ++ ((cs.drop 3).take 1 ++ ((cs.drop 4).take 1 ++ ((cs.drop 5).take 1 ++ ((cs.drop 6).take 1 ++ ((cs.drop 7).take 1 ++ ((cs.drop 8).take 1 ++ ((cs.drop 9).take 1 ++ ((cs.drop 10).take 1 ++ ((cs.drop 11).take 3 ++ ((cs.drop 14).take 3 ++ ((cs.drop 17).take 1 ++ ((cs.drop 18).take 1 ++ ((cs.drop 19).take 1)))))))))))))) := by
        match cs, hl with
        | [c0, c1, c2, c3, c4, c5, c6, c7, c8, c9, c10, c11, c12, c13, c14, c15, c16, c17, c18, c19], _ => rfl
      rw [e]
      exact (RLs_append (a := [_]) (RLs_one rfl q0) (RLs_append (a := [_, _]) (q1) (RLs_append (a := [_]) (RLs_one rfl q2) (RLs_append (a := [_]) (RLs_one rfl q3) (RLs_append (a := [_]) (RLs_one rfl q4) (RLs_append (a := [_]) (RLs_one rfl q5) (RLs_append (a := [_]) (RLs_one rfl q6) (RLs_append (a := [_]) (RLs_one rfl q7) (RLs_append (a := [_]) (RLs_one rfl q8) (RLs_append (a := [_]) (RLs_one rfl q9) (RLs_append (a := [_, _, _]) (q10) (RLs_append (a := [_, _, _]) (q11) (RLs_append (a := [_]) (RLs_one rfl q12) (RLs_append (a := [_]) (RLs_one rfl q13) (RLs_one rfl q14)))))))))))))))
    · rw [Tm.mass_eq, hb]
      simp only [Tm.kind_mk, Tm.lo_mk, Tm.hi_mk, Tm.name_mk, Tm.arg_mk, Tm.n_mk, Tm.s_mk, Tm.op_mk, Tm.label_mk, Tm.neg_mk, Tm.vars_mk, Tm.a_mk, Tm.b_mk, Tm.args_mk, Tm.pats_mk, Tm.kids_mk]
      have hs : ds = [y0.1, y1.1, y2.1, y3.1, y4.1, y5.1, y6.1, y7.1, y8.1, y9.1, y10.1, y11.1, y12.1, y13.1, y14.1] := by
        have hd : ds.length = 15 := hd
        match ds, hd, d0, d1, d2, d3, d4, d5, d6, d7, d8, d9, d10, d11, d12, d13, d14 with
        | [a0, a1, a2, a3, a4, a5, a6, a7, a8, a9, a10, a11, a12, a13, a14], _, d0, d1, d2, d3, d4, d5, d6, d7, d8, d9, d10, d11, d12, d13, d14 => simp_all
      rw [hs]
      simp only [bulkAll]
      omega

def DerivAt (P : Program) (t : TypeId) : Prop := ∃ f0 f1 f2 : Field, P.underlying t = some (.struct #[f0, f1, f2]) ∧ P.cellsOf t = 3 ∧ ((∃ el, SliceAt P f0.type el ∧ TyAt P el) ∧ f0.offset = 0) ∧ (IntsAt P f1.type ∧ f1.offset = 1) ∧ (SliceAt P f2.type t ∧ f2.offset = 2)
theorem DerivAt.cells {t : TypeId} (A : DerivAt P t) : P.cellsOf t = 3 := by obtain ⟨_, _, _, _, h, _⟩ := A; exact h
theorem rd_Deriv {t : TypeId} (A : DerivAt P t) : ∀ (fuel : Nat) (cs : List Value) (x : DataW H × List MemPlace), Rd enc P w held fuel t cs = some x → ∃ a : Deriv, RC (Old w) w.heap a.enc cs ∧ a.mass ≤ bulkW x.1 := by
  intro fuel
  induction fuel using Nat.strongRecOn with
  | ind fuel ih =>
    intro cs x hr
    have A0 := A
    obtain ⟨f0, f1, f2, hu, hc, ⟨t0, o0⟩, ⟨t1, o1⟩, t2, o2⟩ := A
    obtain ⟨n, ds, rfl, hb, hl, hd, hf⟩ := rd_struct hu hr
    rw [hc] at hl
    obtain ⟨y0, r0, d0⟩ := hf 0 f0 rfl
    obtain ⟨e0, s0, z0⟩ := t0
    rw [o0, s0.2] at r0
    obtain ⟨v0, q0, b0⟩ := rd_slice (sz := Ty.size) s0.1 (by rw [z0.cells]; omega) (fun n' cs x hn h => rd_Ty z0 n' cs x h) r0
    rw [z0.cells] at q0
    obtain ⟨y1, r1, d1⟩ := hf 1 f1 rfl
    obtain ⟨e1, s1, z1⟩ := id t1
    rw [o1, s1.2] at r1
    obtain ⟨v1, q1, b1⟩ := rd_ints t1 r1
    obtain ⟨y2, r2, d2⟩ := hf 2 f2 rfl
    rw [o2, t2.2] at r2
    obtain ⟨v2, q2, b2⟩ := rd_slice (sz := Deriv.mass) t2.1 (by rw [hc]; omega) (fun n' cs x hn h => ih n' (by omega) cs x h) r2
    rw [hc] at q2
    refine ⟨.mk v0 v1 v2, ?_, ?_⟩
    · rw [Deriv.enc_eq]
      simp only [RC, Deriv.types_mk, Deriv.vars_mk, Deriv.kids_mk]
      have e : cs = (cs.drop 0).take 1 ++ ((cs.drop 1).take 1 ++ ((cs.drop 2).take 1)) := by
        match cs, hl with
        | [c0, c1, c2], _ => rfl
      rw [e]
      exact (RLs_append (a := [_]) (RLs_one rfl q0) (RLs_append (a := [_]) (RLs_one rfl q1) (RLs_one rfl q2)))
    · rw [Deriv.mass_eq, hb]
      simp only [Deriv.types_mk, Deriv.vars_mk, Deriv.kids_mk]
      have hs : ds = [y0.1, y1.1, y2.1] := by
        have hd : ds.length = 3 := hd
        match ds, hd, d0, d1, d2 with
        | [a0, a1, a2], _, d0, d1, d2 => simp_all
      rw [hs]
      simp only [bulkAll]
      omega

def CoerAt (P : Program) (t : TypeId) : Prop := ∃ f0 f1 f2 f3 f4 : Field, P.underlying t = some (.struct #[f0, f1, f2, f3, f4]) ∧ P.cellsOf t = 5 ∧ (IntAt P f0.type ∧ f0.offset = 0) ∧ (IntAt P f1.type ∧ f1.offset = 1) ∧ (IntAt P f2.type ∧ f2.offset = 2) ∧ (BoolAt P f3.type ∧ f3.offset = 3) ∧ (SliceAt P f4.type t ∧ f4.offset = 4)
theorem CoerAt.cells {t : TypeId} (A : CoerAt P t) : P.cellsOf t = 5 := by obtain ⟨_, _, _, _, _, _, h, _⟩ := A; exact h
theorem rd_Coer {t : TypeId} (A : CoerAt P t) : ∀ (fuel : Nat) (cs : List Value) (x : DataW H × List MemPlace), Rd enc P w held fuel t cs = some x → ∃ a : Coer, RC (Old w) w.heap a.enc cs ∧ a.size ≤ bulkW x.1 := by
  intro fuel
  induction fuel using Nat.strongRecOn with
  | ind fuel ih =>
    intro cs x hr
    have A0 := A
    obtain ⟨f0, f1, f2, f3, f4, hu, hc, ⟨t0, o0⟩, ⟨t1, o1⟩, ⟨t2, o2⟩, ⟨t3, o3⟩, t4, o4⟩ := A
    obtain ⟨n, ds, rfl, hb, hl, hd, hf⟩ := rd_struct hu hr
    rw [hc] at hl
    obtain ⟨y0, r0, d0⟩ := hf 0 f0 rfl
    rw [o0, t0.2] at r0
    obtain ⟨v0, q0, -, b0⟩ := rd_int t0.1 r0
    obtain ⟨y1, r1, d1⟩ := hf 1 f1 rfl
    rw [o1, t1.2] at r1
    obtain ⟨v1, q1, -, b1⟩ := rd_int t1.1 r1
    obtain ⟨y2, r2, d2⟩ := hf 2 f2 rfl
    rw [o2, t2.2] at r2
    obtain ⟨v2, q2, -, b2⟩ := rd_int t2.1 r2
    obtain ⟨y3, r3, d3⟩ := hf 3 f3 rfl
    rw [o3, t3.2] at r3
    obtain ⟨v3, q3, b3⟩ := rd_bool t3.1 r3
    obtain ⟨y4, r4, d4⟩ := hf 4 f4 rfl
    rw [o4, t4.2] at r4
    obtain ⟨v4, q4, b4⟩ := rd_slice (sz := Coer.size) t4.1 (by rw [hc]; omega) (fun n' cs x hn h => ih n' (by omega) cs x h) r4
    rw [hc] at q4
    refine ⟨.mk v0 v1 v2 v3 v4, ?_, ?_⟩
    · rw [Coer.enc_eq]
      simp only [RC, Coer.kind_mk, Coer.head_mk, Coer.label_mk, Coer.neg_mk, Coer.kids_mk]
      have e : cs = (cs.drop 0).take 1 ++ ((cs.drop 1).take 1 ++ ((cs.drop 2).take 1 ++ ((cs.drop 3).take 1 ++ ((cs.drop 4).take 1)))) := by
        match cs, hl with
        | [c0, c1, c2, c3, c4], _ => rfl
      rw [e]
      exact (RLs_append (a := [_]) (RLs_one rfl q0) (RLs_append (a := [_]) (RLs_one rfl q1) (RLs_append (a := [_]) (RLs_one rfl q2) (RLs_append (a := [_]) (RLs_one rfl q3) (RLs_one rfl q4)))))
    · rw [Coer.size_eq, hb]
      simp only [Coer.kind_mk, Coer.head_mk, Coer.label_mk, Coer.neg_mk, Coer.kids_mk]
      have hs : ds = [y0.1, y1.1, y2.1, y3.1, y4.1] := by
        have hd : ds.length = 5 := hd
        match ds, hd, d0, d1, d2, d3, d4 with
        | [a0, a1, a2, a3, a4], _, d0, d1, d2, d3, d4 => simp_all
      rw [hs]
      simp only [bulkAll]
      omega

def ValAt (P : Program) (t : TypeId) : Prop := ∃ f0 f1 f2 f3 f4 : Field, P.underlying t = some (.struct #[f0, f1, f2, f3, f4]) ∧ P.cellsOf t = 9 ∧ (IntAt P f0.type ∧ f0.offset = 0) ∧ (IntAt P f1.type ∧ f1.offset = 1) ∧ (StrAt P f2.type ∧ f2.offset = 2) ∧ (CoerAt P f3.type ∧ f3.offset = 3) ∧ (SliceAt P f4.type t ∧ f4.offset = 8)
theorem ValAt.cells {t : TypeId} (A : ValAt P t) : P.cellsOf t = 9 := by obtain ⟨_, _, _, _, _, _, h, _⟩ := A; exact h
theorem rd_Val {t : TypeId} (A : ValAt P t) : ∀ (fuel : Nat) (cs : List Value) (x : DataW H × List MemPlace), Rd enc P w held fuel t cs = some x → ∃ a : Val, RC (Old w) w.heap a.enc cs ∧ a.mass ≤ bulkW x.1 := by
  intro fuel
  induction fuel using Nat.strongRecOn with
  | ind fuel ih =>
    intro cs x hr
    have A0 := A
    obtain ⟨f0, f1, f2, f3, f4, hu, hc, ⟨t0, o0⟩, ⟨t1, o1⟩, ⟨t2, o2⟩, ⟨t3, o3⟩, t4, o4⟩ := A
    obtain ⟨n, ds, rfl, hb, hl, hd, hf⟩ := rd_struct hu hr
    rw [hc] at hl
    obtain ⟨y0, r0, d0⟩ := hf 0 f0 rfl
    rw [o0, t0.2] at r0
    obtain ⟨v0, q0, -, b0⟩ := rd_int t0.1 r0
    obtain ⟨y1, r1, d1⟩ := hf 1 f1 rfl
    rw [o1, t1.2] at r1
    obtain ⟨v1, q1, -, b1⟩ := rd_int t1.1 r1
    obtain ⟨y2, r2, d2⟩ := hf 2 f2 rfl
    rw [o2, t2.2] at r2
    obtain ⟨v2, q2, b2⟩ := rd_str t2.1 r2
    obtain ⟨y3, r3, d3⟩ := hf 3 f3 rfl
    rw [o3, t3.cells] at r3
    obtain ⟨v3, q3, b3⟩ := rd_Coer t3 _ _ _ r3
    rw [Coer.enc_eq] at q3
    simp only [RC] at q3
    obtain ⟨y4, r4, d4⟩ := hf 4 f4 rfl
    rw [o4, t4.2] at r4
    obtain ⟨v4, q4, b4⟩ := rd_slice (sz := Val.mass) t4.1 (by rw [hc]; omega) (fun n' cs x hn h => ih n' (by omega) cs x h) r4
    rw [hc] at q4
    refine ⟨.mk v0 v1 v2 v3 v4, ?_, ?_⟩
    · rw [Val.enc_eq]
      simp only [RC, Val.kind_mk, Val.n_mk, Val.s_mk, Val.c_mk, Val.kids_mk]
      have e : cs = (cs.drop 0).take 1 ++ ((cs.drop 1).take 1 ++ ((cs.drop 2).take 1 ++ ((cs.drop 3).take 5 ++ ((cs.drop 8).take 1)))) := by
        match cs, hl with
        | [c0, c1, c2, c3, c4, c5, c6, c7, c8], _ => rfl
      rw [e]
      exact (RLs_append (a := [_]) (RLs_one rfl q0) (RLs_append (a := [_]) (RLs_one rfl q1) (RLs_append (a := [_]) (RLs_one rfl q2) (RLs_append (a := [_, _, _, _, _]) (q3) (RLs_one rfl q4)))))
    · rw [Val.mass_eq, hb]
      simp only [Val.kind_mk, Val.n_mk, Val.s_mk, Val.c_mk, Val.kids_mk]
      have hs : ds = [y0.1, y1.1, y2.1, y3.1, y4.1] := by
        have hd : ds.length = 5 := hd
        match ds, hd, d0, d1, d2, d3, d4 with
        | [a0, a1, a2, a3, a4], _, d0, d1, d2, d3, d4 => simp_all
      rw [hs]
      simp only [bulkAll]
      omega

end
end Go.Su

/-
  FROM A READING TO DATA: binds, numbers, slices.
-/
namespace Go.Su
set_option linter.unusedSimpArgs false
set_option linter.unusedVariables false

section
variable {H : Type} {enc : TypeId × Value → H} {P : Program} {w : World} {held : Bool}

def BndAt (P : Program) (t : TypeId) : Prop := ∃ f0 f1 : Field, P.underlying t = some (.struct #[f0, f1]) ∧ P.cellsOf t = 4 ∧ (IntAt P f0.type ∧ f0.offset = 0) ∧ (TyAt P f1.type ∧ f1.offset = 1)
theorem BndAt.cells {t : TypeId} (A : BndAt P t) : P.cellsOf t = 4 := by obtain ⟨_, _, _, h, _⟩ := A; exact h
theorem rd_Bnd {t : TypeId} (A : BndAt P t) (fuel : Nat) (cs : List Value) (x : DataW H × List MemPlace) (hr : Rd enc P w held fuel t cs = some x) : ∃ a : Int × Ty, RC (Old w) w.heap (encBnd a) cs ∧ a.2.size ≤ bulkW x.1 := by
  obtain ⟨f0, f1, hu, hc, ⟨t0, o0⟩, t1, o1⟩ := A
  obtain ⟨n, ds, rfl, hb, hl, hd, hf⟩ := rd_struct hu hr
  rw [hc] at hl
  obtain ⟨y0, r0, d0⟩ := hf 0 f0 rfl
  rw [o0, t0.2] at r0
  obtain ⟨v0, q0, -, b0⟩ := rd_int t0.1 r0
  obtain ⟨y1, r1, d1⟩ := hf 1 f1 rfl
  rw [o1, t1.cells] at r1
  obtain ⟨v1, q1, b1⟩ := rd_Ty t1 _ _ _ r1
  rw [Ty.enc_eq] at q1
  simp only [RC] at q1
  refine ⟨(v0, v1), ?_, ?_⟩
  · simp only [encBnd, RC]
    have e : cs = (cs.drop 0).take 1 ++ (cs.drop 1).take 3 := by
      match cs, hl with
      | [c0, c1, c2, c3], _ => rfl
    rw [e]
    exact RLs_append (a := [_]) (RLs_one rfl q0) q1
  · rw [hb]
    have hs : ds = [y0.1, y1.1] := by
      have hd : ds.length = 2 := hd
      match ds, hd, d0, d1 with
      | [a0, a1], _, d0, d1 => simp_all
    rw [hs]
    simp only [bulkAll]
    omega
theorem bnds_size {l : List (Int × Ty)} {n : Nat} (h : (l.map fun e => e.2.size).sum + 1 ≤ n) : (∀ e ∈ l, e.2.size ≤ n) ∧ l.length ≤ n := by
  constructor
  · intro e he
    have := le_sum_mem (List.mem_map_of_mem (f := fun e : Int × Ty => e.2.size) he)
    omega
  · have : ∀ l : List (Int × Ty), l.length ≤ (l.map fun e => e.2.size).sum := by
      intro l
      induction l with
      | nil => simp
      | cons x l ih => have := Ty.size_pos x.2; simp only [List.length_cons, List.map_cons, List.sum_cons]; omega
    have := this l
    omega
end

theorem RV_of_slice {P : Program} {w : World} {r : Reach} {b : Nat} {t el : TypeId} {v : Value} {S : Seal} {h' : Heap} {sz : Nat} {ds : List DV} (ht : P.underlying t = some (.slice el)) (h : Value.okWide P w r b t v) (hr : RC S h' (.list sz ds) v.cells.toList) : RV S h' (.list sz ds) v := by
  unfold Value.okWide at h
  rw [ht] at h
  have hv : v.cells = #[v] := by
    cases v <;> first | rfl | (exfalso; revert h; simp [Cell.okWide, Cell.ok, ht])
  rw [hv] at hr
  simpa [RV] using hr
theorem RV_of_int {P : Program} {w : World} {r : Reach} {b : Nat} {t : TypeId} {v : Value} {S : Seal} {h' : Heap} {k : IntKind} {n : Int} (ht : P.underlying t = some (.int k)) (h : Value.okWide P w r b t v) (hr : RC S h' (.int k n) v.cells.toList) : RV S h' (.int k n) v := by
  unfold Value.okWide at h
  rw [ht] at h
  have hv : v.cells = #[v] := by
    cases v <;> first | rfl | (exfalso; revert h; simp [Cell.okWide, Cell.ok, ht])
  rw [hv] at hr
  simpa [RC, RV] using hr
end Go.Su

/-
  RUNS ON CLOSED DATA, by rewriting: what the data's operations make of data that are written out.
-/
namespace Go.Su
theorem ite_cg {α : Type} {c c' : Prop} [d : Decidable c] (h : c = c') (x y : α) : (if c then x else y) = @ite α c' (h ▸ d) x y := by subst h; rfl
theorem proj_agg (j : Nat) (cs : List DV) : proj j (.agg cs) = cs.getD j .undef := rfl
theorem isAggN_agg (n : Nat) (cs : List DV) : isAggN n (.agg cs) = (cs.length == n) := rfl
theorem bs_size (a : Array UInt8) : (ByteArray.mk a).size = a.size := rfl
theorem bs_eq (a b : Array UInt8) : ((ByteArray.mk a) = ByteArray.mk b) = (a.toList = b.toList) := by
  apply propext; constructor
  · intro h; cases h; rfl
  · intro h; rw [Array.ext' h]
theorem keyEq_lit (a b : Array UInt8) : keyEq (.str ⟨a⟩) (.str ⟨b⟩) = decide (a.toList = b.toList) := by
  simp only [keyEq]; rw [bytes_dec]; congr 1; exact bs_eq a b
theorem keyEq_num (k k' : IntKind) (a b : Int) : keyEq (.int k a) (.int k' b) = decide (a = b) := by simp only [keyEq]; rfl
theorem dApp_l (sz : Nat) (ds es : List DV) : dApp sz (.list sz ds) (.list sz es) = if ds.length + es.length ≤ 4294967296 then some (.list sz (ds ++ es)) else none := by
  simp [dApp, lim]
theorem dExt_t (i : Nat) (cs : List DV) : dExt i (.tup cs) = cs[i]? := rfl
theorem bnd_n (m : Nat) : bnd m none = some m := rfl
theorem bnd_s (m : Nat) (k : IntKind) (n : Int) : bnd m (some (.int k n)) = if 0 ≤ n then some n.toNat else none := rfl
theorem dSlice_l (sz : Nat) (ds : List DV) (lo hi : Option DV) : dSlice sz (.list sz ds) lo hi = ob (bnd ds.length hi) fun h => ob (bnd 0 lo) fun l => if l ≤ h ∧ h ≤ ds.length then some (.list sz ((ds.take h).drop l)) else none := by
  simp [dSlice]
theorem dSlice3_i (sz : Nat) (d : DV) (lo : Option DV) (k k' : IntKind) (h m : Int) : dSlice3 sz d lo (.int k h) (.int k' m) = if h = m then dSlice sz d lo (some (.int k h)) else none := rfl
theorem dEqA_a (ks : List LK) (xs ys : List DV) : dEqA ks (.agg xs) (.agg ys) = dEqLeaves ks xs ys := rfl
theorem dEqL_n : dEqLeaves [] [] [] = some true := rfl
theorem dEqL_c (k : LK) (ks : List LK) (x y : DV) (xs ys : List DV) : dEqLeaves (k :: ks) (x :: xs) (y :: ys) = ob (dEqK k x y) fun b => bif b then dEqLeaves ks xs ys else some false := by
  simp only [dEqLeaves]
  congr 1; funext b; cases b <;> rfl
theorem dEqK_i (k : IntKind) (a b : Int) : dEqK .int (.int k a) (.int k b) = some (decide (a = b)) := by simp only [dEqK, if_true]; rfl
theorem dEqK_b (a b : Bool) : dEqK .bool (.bool a) (.bool b) = some (a == b) := rfl
theorem dUn_neg (k : IntKind) (n : Int) : dUn .neg (.int k n) = some (.int k (k.wrap (0 - n))) := rfl
theorem mGet_n (k : DV) : mGet [] k = none := rfl
theorem mGet_c (e : DV × DV) (es : List (DV × DV)) (k : DV) : mGet (e :: es) k = bif keyEq k e.1 then some e.2 else mGet es k := by
  simp only [mGet, List.find?_cons]
  cases keyEq k e.1 <;> rfl
theorem mSet_n (k v : DV) : mSet [] k v = [(k, v)] := rfl
theorem mSet_c (e : DV × DV) (es : List (DV × DV)) (k v : DV) : mSet (e :: es) k v = bif keyEq k e.1 then (e.1, v) :: es else e :: mSet es k v := by
  simp only [mSet]
  cases keyEq k e.1 <;> rfl
theorem oneCell_1 (sg : List SObj) (c : DV × Meta) : oneCell sg [c] = sealCell sg c := rfl
theorem seal_v (sg : List SObj) (d : DV) : sealCell sg (d, .val) = some d := rfl
theorem seal_f (sg : List SObj) (d : DV) : sealCell sg (d, .full) = some d := rfl
theorem seal_o (sg : List SObj) (d : DV) : sealCell sg (d, .own) = some d := rfl
theorem seal_a (sg : List SObj) (d : DV) (i sz off len : Nat) : sealCell sg (d, .arr i sz off len) = ob (sgArr sg i) fun a => og (a.1 == sz) (if off + len ≤ a.2.length then some (.list sz ((a.2.drop off).take len)) else none) := rfl
theorem ret1_some' (d : DV) : ret1 (some d) = some d := rfl
theorem dIx0 (sz : Nat) (ds : List DV) (k : IntKind) : dIdx sz (.list sz ds) (.int k 0) = ds[0]? := by simp [dIdx]
theorem dIx1 (sz : Nat) (ds : List DV) (k : IntKind) : dIdx sz (.list sz ds) (.int k 1) = ds[1]? := by simp [dIdx]
theorem dIx2 (sz : Nat) (ds : List DV) (k : IntKind) : dIdx sz (.list sz ds) (.int k 2) = ds[2]? := by simp [dIdx]
theorem dIx3 (sz : Nat) (ds : List DV) (k : IntKind) : dIdx sz (.list sz ds) (.int k 3) = ds[3]? := by simp [dIdx]
theorem dIx4 (sz : Nat) (ds : List DV) (k : IntKind) : dIdx sz (.list sz ds) (.int k 4) = ds[4]? := by simp [dIdx]
theorem dIx5 (sz : Nat) (ds : List DV) (k : IntKind) : dIdx sz (.list sz ds) (.int k 5) = ds[5]? := by simp [dIdx]
theorem dIx6 (sz : Nat) (ds : List DV) (k : IntKind) : dIdx sz (.list sz ds) (.int k 6) = ds[6]? := by simp [dIdx]
theorem dIx7 (sz : Nat) (ds : List DV) (k : IntKind) : dIdx sz (.list sz ds) (.int k 7) = ds[7]? := by simp [dIdx]
theorem dIx8 (sz : Nat) (ds : List DV) (k : IntKind) : dIdx sz (.list sz ds) (.int k 8) = ds[8]? := by simp [dIdx]
theorem dIx9 (sz : Nat) (ds : List DV) (k : IntKind) : dIdx sz (.list sz ds) (.int k 9) = ds[9]? := by simp [dIdx]
theorem dIx10 (sz : Nat) (ds : List DV) (k : IntKind) : dIdx sz (.list sz ds) (.int k 10) = ds[10]? := by simp [dIdx]
theorem dIx11 (sz : Nat) (ds : List DV) (k : IntKind) : dIdx sz (.list sz ds) (.int k 11) = ds[11]? := by simp [dIdx]
theorem dIx12 (sz : Nat) (ds : List DV) (k : IntKind) : dIdx sz (.list sz ds) (.int k 12) = ds[12]? := by simp [dIdx]
theorem dIx13 (sz : Nat) (ds : List DV) (k : IntKind) : dIdx sz (.list sz ds) (.int k 13) = ds[13]? := by simp [dIdx]
theorem dIx14 (sz : Nat) (ds : List DV) (k : IntKind) : dIdx sz (.list sz ds) (.int k 14) = ds[14]? := by simp [dIdx]
theorem dIx15 (sz : Nat) (ds : List DV) (k : IntKind) : dIdx sz (.list sz ds) (.int k 15) = ds[15]? := by simp [dIdx]
theorem dSi0 (a : Array UInt8) (k : IntKind) : dStrIdx (.str ⟨a⟩) (.int k 0) = (a.toList[0]?).map fun b => .int .u8 b.toNat := by simp [dStrIdx]
theorem dSi1 (a : Array UInt8) (k : IntKind) : dStrIdx (.str ⟨a⟩) (.int k 1) = (a.toList[1]?).map fun b => .int .u8 b.toNat := by simp [dStrIdx]
theorem dSi2 (a : Array UInt8) (k : IntKind) : dStrIdx (.str ⟨a⟩) (.int k 2) = (a.toList[2]?).map fun b => .int .u8 b.toNat := by simp [dStrIdx]
theorem dSi3 (a : Array UInt8) (k : IntKind) : dStrIdx (.str ⟨a⟩) (.int k 3) = (a.toList[3]?).map fun b => .int .u8 b.toNat := by simp [dStrIdx]
theorem dSi4 (a : Array UInt8) (k : IntKind) : dStrIdx (.str ⟨a⟩) (.int k 4) = (a.toList[4]?).map fun b => .int .u8 b.toNat := by simp [dStrIdx]
theorem dSi5 (a : Array UInt8) (k : IntKind) : dStrIdx (.str ⟨a⟩) (.int k 5) = (a.toList[5]?).map fun b => .int .u8 b.toNat := by simp [dStrIdx]
theorem dSi6 (a : Array UInt8) (k : IntKind) : dStrIdx (.str ⟨a⟩) (.int k 6) = (a.toList[6]?).map fun b => .int .u8 b.toNat := by simp [dStrIdx]
theorem dSi7 (a : Array UInt8) (k : IntKind) : dStrIdx (.str ⟨a⟩) (.int k 7) = (a.toList[7]?).map fun b => .int .u8 b.toNat := by simp [dStrIdx]
end Go.Su

/-
  The settings of the data machine for this seat: by program.
-/
namespace Go.Su
open Go.Proofs

def spread {α : Type} (d : α) : Nat → Nat → List (Nat × α) → List α
  | 0, _, _ => []
  | n + 1, i, [] => d :: spread d n (i + 1) []
  | n + 1, i, (j, x) :: l => match Nat.beq i j with
    | true => x :: spread d n (i + 1) l
    | false => d :: spread d n (i + 1) ((j, x) :: l)

abbrev F_main_main : FuncId := 0
abbrev F_gosem_cut : FuncId := 1
abbrev F_gosem_cut_init : FuncId := 2
abbrev F_l19_CheckCast : FuncId := 3
abbrev F_l16_JudgePut : FuncId := 4
abbrev F_l18_ElabPlain : FuncId := 5
abbrev F_l05_TreePats : FuncId := 6
abbrev F_l05_TreeFree : FuncId := 7
abbrev F_l05_TreeGrow : FuncId := 8
abbrev F_l17_Heavy : FuncId := 9
abbrev F_r17_Right : FuncId := 10
abbrev F_r17_TameTerm : FuncId := 11
abbrev F_l11_Small : FuncId := 12
abbrev F_r03_Right : FuncId := 13
abbrev F_r03_Size : FuncId := 14
abbrev F_check_Type : FuncId := 15
abbrev F_l19_wakes : FuncId := 16
abbrev F_r03_Without : FuncId := 17
abbrev F_l19_agrees : FuncId := 18
abbrev F_keep_Same : FuncId := 19
abbrev F_l16_HeavyDeriv : FuncId := 20
abbrev F_keep_Deriv : FuncId := 21
abbrev F_judge_Put : FuncId := 22
abbrev F_r16_Put : FuncId := 23
abbrev F_keep_Derivs : FuncId := 24
abbrev F_l16_wakes : FuncId := 25
abbrev F_elab_Plain : FuncId := 26
abbrev F_r17_Plain : FuncId := 27
abbrev F_l18_wakes : FuncId := 28
abbrev F_l05_HeavyPat : FuncId := 29
abbrev F_l05_isPat : FuncId := 30
abbrev F_r05_Names : FuncId := 31
abbrev F_r05_Has : FuncId := 32
abbrev F_tree_CheckPat : FuncId := 33
abbrev F_l05_wakes : FuncId := 34
abbrev F_l05_Heavy : FuncId := 35
abbrev F_r05_Right : FuncId := 36
abbrev F_tree_Free : FuncId := 37
abbrev F_keep_Int : FuncId := 38
abbrev F_r05_Rise : FuncId := 39
abbrev F_keep_Texts : FuncId := 40
abbrev F_tree_Check : FuncId := 41
abbrev F_tree_Anns : FuncId := 42
abbrev F_tree_Value : FuncId := 43
abbrev F_r03_Leaf : FuncId := 44
abbrev F_tree_Size : FuncId := 45
abbrev F_tree_Depth : FuncId := 46
abbrev F_keep_SameAll : FuncId := 47
abbrev F_l17_weigh : FuncId := 48
abbrev F_r17_own : FuncId := 49
abbrev F_r17_bulk : FuncId := 50
abbrev F_l03_Heavy : FuncId := 51
abbrev F_r08_Deep : FuncId := 52
abbrev F_r03_Vars : FuncId := 53
abbrev F_r03_Kids : FuncId := 54
abbrev F_term_Check : FuncId := 55
abbrev F_check_scope_term : FuncId := 56
abbrev F_l19_cast : FuncId := 57
abbrev F_l16_weigh : FuncId := 58
abbrev F_keep_Types : FuncId := 59
abbrev F_scheme_Subst : FuncId := 60
abbrev F_judge_put : FuncId := 61
abbrev F_r16_types : FuncId := 62
abbrev F_r08_RightBinds : FuncId := 63
abbrev F_r16_put : FuncId := 64
abbrev F_keep_Ints : FuncId := 65
abbrev F_judge_Check : FuncId := 66
abbrev F_r03_Two : FuncId := 67
abbrev F_elab_stands : FuncId := 68
abbrev F_elab_put : FuncId := 69
abbrev F_r17_settled : FuncId := 70
abbrev F_r17_kept : FuncId := 71
abbrev F_elab_Make : FuncId := 72
abbrev F_l05_countPat : FuncId := 73
abbrev F_r05_RightPat : FuncId := 74
abbrev F_r05_names : FuncId := 75
abbrev F_tree_pats : FuncId := 76
abbrev F_tree_onePat : FuncId := 77
abbrev F_l05_name : FuncId := 78
abbrev F_tree_With : FuncId := 79
abbrev F_tree_Same : FuncId := 80
abbrev F_l05_count : FuncId := 81
abbrev F_r05_own : FuncId := 82
abbrev F_tree_scope_look : FuncId := 83
abbrev F_slices_Sort__string_string : FuncId := 84
abbrev F_tree_all : FuncId := 85
abbrev F_tree_one : FuncId := 86
abbrev F_tree_none : FuncId := 87
abbrev F_tree_value : FuncId := 88
abbrev F_tree_depthPat : FuncId := 89
abbrev F_typ_Depth : FuncId := 90
abbrev F_l17_light : FuncId := 91
abbrev F_l17_weighPat : FuncId := 92
abbrev F_r17_bare : FuncId := 93
abbrev F_r17_flat : FuncId := 94
abbrev F_r01_Name : FuncId := 95
abbrev F_r17_more : FuncId := 96
abbrev F_r16_Bulk_Of : FuncId := 97
abbrev F_r16_Bulk_Named : FuncId := 98
abbrev F_l03_count : FuncId := 99
abbrev F_r03_vars : FuncId := 100
abbrev F_term_right : FuncId := 101
abbrev F_check_scope_name : FuncId := 102
abbrev F_check_scope_has : FuncId := 103
abbrev F_check_with : FuncId := 104
abbrev F_check_fun : FuncId := 105
abbrev F_check_scope_let : FuncId := 106
abbrev F_check_scope_rec : FuncId := 107
abbrev F_check_scope_match : FuncId := 108
abbrev F_check_scope_kids : FuncId := 109
abbrev F_check_scope_of : FuncId := 110
abbrev F_keep_Type : FuncId := 111
abbrev F_typ_Check : FuncId := 112
abbrev F_scheme_put : FuncId := 113
abbrev F_r08_Put : FuncId := 114
abbrev F_judge_Cast : FuncId := 115
abbrev F_elab_plain : FuncId := 116
abbrev F_r17_dynamic : FuncId := 117
abbrev F_r05_pat : FuncId := 118
abbrev F_tree_pats_1 : FuncId := 119
abbrev F_tree_goPats : FuncId := 120
abbrev F_word_Name : FuncId := 121
abbrev F_tree_closed : FuncId := 122
abbrev F_tree_put : FuncId := 123
abbrev F_typ_Same : FuncId := 124
abbrev F_slices_EqualFunc__api_Pat__api_Pat_api_Pat_api_Pat : FuncId := 125
abbrev F_tree_samePat : FuncId := 126
abbrev F_slices_EqualFunc__api_Expr__api_Expr_api_Expr_api_Expr : FuncId := 127
abbrev F_l05_countType : FuncId := 128
abbrev F_r05_fields : FuncId := 129
abbrev F_r03_Same : FuncId := 130
abbrev F_r05_note : FuncId := 131
abbrev F_tree_scope_with : FuncId := 132
abbrev F_slices_pdqsortOrdered_string : FuncId := 133
abbrev F_math_bits_Len : FuncId := 134
abbrev F_tree_all_1 : FuncId := 135
abbrev F_tree_goExprs : FuncId := 136
abbrev F_tree_shapeOf : FuncId := 137
abbrev F_r03_SameAll : FuncId := 138
abbrev F_r05_SameAt : FuncId := 139
abbrev F_r01_lower : FuncId := 140
abbrev F_r01_part : FuncId := 141
abbrev F_r01_Key : FuncId := 142
abbrev F_r03_In : FuncId := 143
abbrev F_term_one : FuncId := 144
abbrev F_typ_Vars : FuncId := 145
abbrev F_check_scope_takes : FuncId := 146
abbrev F_check_scope_enter : FuncId := 147
abbrev F_pats_Bind : FuncId := 148
abbrev F_agree_Agree : FuncId := 149
abbrev F_typ_right : FuncId := 150
abbrev F_judge_right : FuncId := 151
abbrev F_judge_judging_expr : FuncId := 152
abbrev F_judge_judging_ok : FuncId := 153
abbrev F_word_Key : FuncId := 154
abbrev F_word_inner : FuncId := 155
abbrev F_typ_Closed : FuncId := 156
abbrev F_slices_Clone__api_Expr_api_Expr : FuncId := 157
abbrev F_r03_None : FuncId := 158
abbrev F_slices_insertionSortOrdered_string : FuncId := 159
abbrev F_slices_heapSortOrdered_string : FuncId := 160
abbrev F_slices_breakPatternsOrdered_string : FuncId := 161
abbrev F_slices_choosePivotOrdered_string : FuncId := 162
abbrev F_slices_reverseRangeOrdered_string : FuncId := 163
abbrev F_slices_partialInsertionSortOrdered_string : FuncId := 164
abbrev F_cmp_Less_string : FuncId := 165
abbrev F_slices_partitionEqualOrdered_string : FuncId := 166
abbrev F_slices_partitionOrdered_string : FuncId := 167
abbrev F_math_bits_Len32 : FuncId := 168
abbrev F_math_bits_Len64 : FuncId := 169
abbrev F_r05_Same : FuncId := 170
abbrev F_r05_patAt : FuncId := 171
abbrev F_r01_digit : FuncId := 172
abbrev F_term_shapeOf : FuncId := 173
abbrev F_term_named : FuncId := 174
abbrev F_term_typed : FuncId := 175
abbrev F_term_lists : FuncId := 176
abbrev F_typ_vars : FuncId := 177
abbrev F_slices_Contains__int_int : FuncId := 178
abbrev F_pats_bind : FuncId := 179
abbrev F_agree_agrees : FuncId := 180
abbrev F_typ_arity : FuncId := 181
abbrev F_judge_find : FuncId := 182
abbrev F_judge_judging_fails : FuncId := 183
abbrev F_judge_judging_choices : FuncId := 184
abbrev F_judge_judging_name : FuncId := 185
abbrev F_judge_judging_kid : FuncId := 186
abbrev F_judge_list : FuncId := 187
abbrev F_judge_judging_fits : FuncId := 188
abbrev F_judge_one : FuncId := 189
abbrev F_judge_with : FuncId := 190
abbrev F_judge_fun : FuncId := 191
abbrev F_judge_judging_more : FuncId := 192
abbrev F_typ_without : FuncId := 193
abbrev F_slices_siftDownOrdered_string : FuncId := 194
abbrev F_slices_nextPowerOfTwo : FuncId := 195
abbrev F_slices_xorshift_Next : FuncId := 196
abbrev F_slices_medianAdjacentOrdered_string : FuncId := 197
abbrev F_slices_medianOrdered_string : FuncId := 198
abbrev F_cmp_isNaN_string : FuncId := 199
abbrev F_r05_SamePat : FuncId := 200
abbrev F_term_none : FuncId := 201
abbrev F_slices_Index__int_int : FuncId := 202
abbrev F_pats_leaf : FuncId := 203
abbrev F_judge_many : FuncId := 204
abbrev F_judge_judging_enter : FuncId := 205
abbrev F_typ_Static : FuncId := 206
abbrev F_judge_judging_cast : FuncId := 207
abbrev F_judge_judging_app : FuncId := 208
abbrev F_judge_judging_let : FuncId := 209
abbrev F_judge_judging_rec : FuncId := 210
abbrev F_judge_judging_match : FuncId := 211
abbrev F_slices_order2Ordered_string : FuncId := 212
abbrev F_runtime_boundsError_Error : FuncId := 213
abbrev F_runtime_boundsError_RuntimeError : FuncId := 214
abbrev F_runtime_errorString_Error : FuncId := 215
abbrev F_runtime_errorString_RuntimeError : FuncId := 216
abbrev F_runtime_plainError_Error : FuncId := 217
abbrev F_runtime_plainError_RuntimeError : FuncId := 218
abbrev F_runtime_errorAddressString_Error : FuncId := 219
abbrev F_runtime_errorAddressString_RuntimeError : FuncId := 220
abbrev F_runtime_TypeAssertionError_Error : FuncId := 221
abbrev F_runtime_TypeAssertionError_RuntimeError : FuncId := 222
abbrev F_runtime_PanicNilError_Error : FuncId := 223
abbrev F_runtime_PanicNilError_RuntimeError : FuncId := 224
abbrev F_internal_abi_Type_Align : FuncId := 225
abbrev F_internal_runtime_maps_unhashableTypeError_Error : FuncId := 226
abbrev F_internal_runtime_maps_unhashableTypeError_RuntimeError : FuncId := 227
abbrev F_api_Errno_Error : FuncId := 228
abbrev F_internal_abi_Kind_String : FuncId := 229

def fl_l18_ElabPlain : Flags := {}
def fl_l11_Small : Flags := { keep := [(2, [0, 3], [], [], [0, 3])] }
def fl_r03_Size : Flags := { keep := [(3, [1, 3, 4], [1], [], [1, 3, 4])] }
def fl_keep_Same : Flags := { keep := [(4, [2, 3, 5], [2, 3], [], [2, 3, 5])] }
def fl_l16_HeavyDeriv : Flags := {}
def fl_keep_Deriv : Flags := { steal := [21], keep := [(3, [1, 2, 3, 4], [1, 2, 3], [3], [1, 2, 4])] }
def fl_keep_Derivs : Flags := { keep := [(4, [2, 3, 5], [2, 3], [], [2, 3, 5])] }
def fl_elab_Plain : Flags := {}
def fl_r17_Plain : Flags := {}
def fl_l18_wakes : Flags := { keep := [(4, [2, 3, 4, 5, 6], [2, 4, 6], [], [2, 3, 4, 5, 6])] }
def fl_tree_CheckPat : Flags := { shared := [1, 2, 3], keep := [(3, [2, 3, 8], [], [], [2, 3, 8]), (6, [3, 4], [4], [], [3, 4])] }
def fl_tree_Check : Flags := { shared := [1, 2], keep := [(2, [2, 6], [], [], [2, 6])] }
def fl_tree_Value : Flags := {}
def fl_r03_Leaf : Flags := {}
def fl_keep_SameAll : Flags := { keep := [(4, [0, 1, 5], [], [], [0, 1, 5])] }
def fl_l03_Heavy : Flags := { keep := [(3, [0, 3, 4], [], [], [0, 3, 4])] }
def fl_r08_Deep : Flags := { keep := [(4, [1, 2, 5], [2], [], [1, 2, 5])] }
def fl_r03_Vars : Flags := { steal := [2] }
def fl_l16_weigh : Flags := { keep := [(3, [1, 2, 5], [2], [], [1, 2, 5]), (9, [1, 2, 6], [2], [], [1, 2, 6])] }
def fl_keep_Types : Flags := { steal := [2, 3, 11, 19], keep := [(3, [0, 3, 4], [], [3], [0, 4])] }
def fl_scheme_Subst : Flags := { keep := [(5, [1, 2, 4, 6, 16, 17, 18], [2, 4], [], [1, 2, 4, 6, 16, 17, 18])] }
def fl_keep_Ints : Flags := { keep := [(4, [0, 1, 5], [], [], [0, 1, 5])] }
def fl_elab_stands : Flags := { keep := [(2, [1, 2, 9, 10, 11], [2], [], [1, 2, 9, 10, 11]), (7, [1, 21, 22, 23], [], [], [1, 21, 22, 23])] }
def sig_elab_stands : Sig := { params := [.val, .val], results := [] }
def fl_elab_put : Flags := { steal := [21, 37], keep := [(3, [1, 2, 4, 5, 14, 15, 16], [2, 4, 5], [5], [1, 2, 4, 14, 15, 16]), (8, [1, 4, 5, 30, 31, 32], [4, 5], [5], [1, 4, 30, 31, 32])] }
def sig_elab_put : Sig := { params := [.val, .val], results := [.val] }
def fl_r17_settled : Flags := { steal := [21, 40], keep := [(3, [1, 2, 4, 5, 6], [2, 4, 5], [5], [1, 2, 4, 6]), (7, [1, 2, 4, 5, 7], [2, 4, 5], [5], [1, 2, 4, 7])] }
def fl_r17_kept : Flags := { steal := [1, 4, 6, 22, 24], keep := [(3, [1, 2, 5], [2], [1], [2, 5])] }
def sig_r17_kept : Sig := { params := [.val, .own], results := [.own] }
def fl_elab_Make : Flags := {}
def fl_tree_onePat : Flags := { keep := [(24, [1, 3, 4], [1, 3], [], [1, 3, 4])] }
def fl_tree_one : Flags := { keep := [(4, [1, 3], [1, 3], [], [1, 3]), (6, [1, 3], [1, 3], [], [1, 3]), (8, [1, 3], [1, 3], [], [1, 3]), (10, [1, 3], [1, 3], [], [1, 3]), (12, [1, 3], [1, 3], [], [1, 3]), (14, [1, 3], [1, 3], [], [1, 3]), (16, [1, 3], [1, 3], [], [1, 3]), (18, [1], [1], [], [1]), (19, [176, 177, 178], [], [], [176, 177, 178])] }
def fl_tree_none : Flags := {}
def fl_tree_value : Flags := { keep := [(12, [1], [1], [], [1])] }
def fl_l03_count : Flags := { keep := [(3, [1, 2, 5], [2], [], [1, 2, 5])] }
def fl_r03_vars : Flags := { steal := [1, 4, 16, 33, 35], keep := [(3, [1, 2], [2], [1], [2]), (4, [1, 2, 5], [2], [1], [2, 5])] }
def sig_r03_vars : Sig := { params := [.val, .own], results := [.own] }
def fl_keep_Type : Flags := { steal := [18], keep := [(3, [1, 2, 3, 4], [1, 2, 3], [3], [1, 2, 4])] }
def fl_typ_Check : Flags := {}
def fl_scheme_put : Flags := { steal := [45], keep := [(10, [1, 2, 6, 9, 38, 39, 40], [6, 9], [9], [1, 2, 6, 38, 39, 40])] }
def sig_scheme_put : Sig := { params := [.val, .val, .val], results := [.val] }
def fl_judge_Cast : Flags := { shared := [25] }
def fl_elab_plain : Flags := { steal := [37], keep := [(3, [1, 2, 4], [2, 4], [], [1, 2, 4]), (7, [1, 4, 5, 30, 31, 32], [4, 5], [5], [1, 4, 30, 31, 32])] }
def sig_elab_plain : Sig := { params := [.val, .val], results := [.val] }
def fl_r17_dynamic : Flags := { steal := [31], keep := [(3, [1, 2, 4], [2, 4], [], [1, 2, 4]), (5, [1, 2, 4, 5, 6], [2, 4, 5], [5], [1, 2, 4, 6])] }
def fl_word_Name : Flags := { keep := [(4, [0, 3], [], [], [0, 3])] }
def fl_tree_closed : Flags := {}
def fl_tree_shapeOf : Flags := {}
def fl_r03_In : Flags := { keep := [(2, [0, 1, 5], [], [], [0, 1, 5])] }
def fl_typ_Vars : Flags := { steal := [2] }
def fl_pats_Bind : Flags := { steal := [4, 6, 16, 20, 24] }
def fl_agree_Agree : Flags := {}
def fl_typ_right : Flags := { keep := [(9, [33, 34, 35], [], [], [33, 34, 35])] }
def fl_judge_right : Flags := { keep := [(2, [1, 10, 11, 12], [1], [], [1, 10, 11, 12]), (8, [1, 21, 22, 23], [1], [], [1, 21, 22, 23]), (14, [35, 36, 37], [], [], [35, 36, 37])] }
def fl_judge_judging_expr : Flags := { keep := [(4, [0, 3, 5, 6, 8, 9, 10], [5, 6, 8, 9], [], [0, 3, 5, 6, 8, 9, 10]), (26, [0, 3, 5, 6, 8, 47], [5, 6, 8], [], [0, 3, 5, 6, 8, 47])] }
def sig_judge_judging_expr : Sig := { params := [.val, .val, .val, .val], results := [.val] }
def fl_judge_judging_ok : Flags := {}
def sig_judge_judging_ok : Sig := { params := [.val], results := [.val] }
def fl_word_Key : Flags := {}
def fl_word_inner : Flags := {}
def fl_typ_Closed : Flags := {}
def fl_typ_vars : Flags := { steal := [2, 6, 17, 36, 39], keep := [(5, [1, 2, 3], [3], [2], [1, 3]), (6, [1, 2, 28, 29, 30], [], [2], [1, 28, 29, 30])] }
def sig_typ_vars : Sig := { params := [.val, .val, .own], results := [.own] }
def fl_slices_Contains__int_int : Flags := {}
def fl_pats_bind : Flags := { steal := [2, 6, 14, 23, 26, 59, 65, 67, 72], keep := [(16, [2, 3, 8], [3], [2], [3, 8]), (17, [2, 8, 52, 53, 54], [], [2], [8, 52, 53, 54])] }
def sig_pats_bind : Sig := { params := [.val, .val, .own], results := [.own, .val] }
def fl_agree_agrees : Flags := { keep := [(8, [3, 33, 34, 35], [3], [], [3, 33, 34, 35])] }
def fl_typ_arity : Flags := {}
def fl_judge_find : Flags := { keep := [(2, [0, 1, 4, 6], [4], [], [0, 1, 4, 6])] }
def fl_judge_judging_fails : Flags := {}
def sig_judge_judging_fails : Sig := { params := [.val, .val], results := [] }
def fl_judge_judging_choices : Flags := { keep := [(4, [0, 5, 6], [5, 6], [], [0, 5, 6]), (5, [0, 5, 6, 48, 49, 50], [5, 6], [], [0, 5, 6, 48, 49, 50]), (14, [0, 82, 83, 84], [], [], [0, 82, 83, 84]), (19, [0, 82, 83, 84, 98, 99, 100], [], [], [0, 82, 83, 84, 98, 99, 100])] }
def sig_judge_judging_choices : Sig := { params := [.val, .val, .val, .val], results := [.val] }
def fl_judge_judging_name : Flags := { steal := [10, 27, 40], keep := [(5, [5, 6, 8, 9, 10, 20, 21, 22], [5, 6, 8, 9], [10], [5, 6, 8, 9, 20, 21, 22])] }
def sig_judge_judging_name : Sig := { params := [.val, .val, .val, .val], results := [.val] }
def fl_judge_judging_kid : Flags := {}
def sig_judge_judging_kid : Sig := { params := [.val, .val, .val, .val, .val], results := [.val] }
def fl_judge_list : Flags := {}
def fl_judge_judging_fits : Flags := { keep := [(4, [0, 3, 7, 11, 12, 13], [7, 11, 12, 13], [], [0, 3, 7, 11, 12, 13])] }
def sig_judge_judging_fits : Sig := { params := [.val, .val, .val, .val, .val, .val], results := [.val] }
def fl_judge_one : Flags := {}
def fl_judge_with : Flags := { steal := [4] }
def sig_judge_with : Sig := { params := [.val, .val], results := [.own] }
def fl_judge_fun : Flags := {}
def fl_judge_judging_more : Flags := { keep := [(25, [0, 3, 5, 6, 8, 13, 14], [5, 6, 8, 13, 14], [], [0, 3, 5, 6, 8, 13, 14])] }
def sig_judge_judging_more : Sig := { params := [.val, .val, .val, .val], results := [.val] }
def fl_typ_without : Flags := { keep := [(4, [1, 12, 13, 14], [], [], [1, 12, 13, 14])] }
def fl_slices_Index__int_int : Flags := { keep := [(2, [0, 1, 7, 8], [], [], [0, 1, 7, 8])] }
def fl_pats_leaf : Flags := {}
def fl_judge_many : Flags := { keep := [(14, [2, 4], [2], [], [2, 4]), (16, [2, 4], [2], [], [2, 4]), (18, [2, 4], [2], [], [2, 4])] }
def fl_judge_judging_enter : Flags := { keep := [(1, [0, 2, 8, 9, 10], [], [], [0, 2, 8, 9, 10])] }
def sig_judge_judging_enter : Sig := { params := [.val, .val, .val], results := [] }
def fl_typ_Static : Flags := {}
def fl_judge_judging_cast : Flags := { steal := [31], keep := [(5, [0, 5, 6, 7, 8, 9], [5, 6, 7, 8], [], [0, 5, 6, 7, 8, 9])] }
def sig_judge_judging_cast : Sig := { params := [.val, .val, .val, .val], results := [.val] }
def fl_judge_judging_app : Flags := {}
def sig_judge_judging_app : Sig := { params := [.val, .val, .val, .val], results := [.val] }
def fl_judge_judging_let : Flags := { keep := [(9, [0, 3, 5, 6, 8, 9, 10], [5, 6, 8, 9, 10], [], [0, 3, 5, 6, 8, 9, 10])] }
def sig_judge_judging_let : Sig := { params := [.val, .val, .val, .val], results := [.val] }
def fl_judge_judging_rec : Flags := { keep := [(5, [0, 3, 5, 6, 8, 9, 10], [5, 6, 8, 9], [], [0, 3, 5, 6, 8, 9, 10])] }
def sig_judge_judging_rec : Sig := { params := [.val, .val, .val, .val], results := [.val] }
def fl_judge_judging_match : Flags := { steal := [11, 16, 66, 75, 81, 92], keep := [(4, [0, 3, 5, 6, 8, 9, 10, 11, 35, 36, 37], [5, 6, 8, 9, 10], [11], [0, 3, 5, 6, 8, 9, 10, 35, 36, 37]), (14, [0, 3, 5, 6, 8, 9, 10, 11, 12, 16, 35, 36, 37, 60, 61, 62], [5, 6, 8, 9, 10], [11, 16], [0, 3, 5, 6, 8, 9, 10, 12, 35, 36, 37, 60, 61, 62])] }
def sig_judge_judging_match : Sig := { params := [.val, .val, .val, .val], results := [.val] }

def flL : List Flags := [{}, {}, {}, {}, {}, fl_l18_ElabPlain, {}, {}, {}, {}, {}, {}, fl_l11_Small, {}, fl_r03_Size, {}, {}, {}, {}, fl_keep_Same, fl_l16_HeavyDeriv, fl_keep_Deriv, {}, {}, fl_keep_Derivs, {}, fl_elab_Plain, fl_r17_Plain, fl_l18_wakes, {}, {}, {}, {}, fl_tree_CheckPat, {}, {}, {}, {}, {}, {}, {}, fl_tree_Check, {}, fl_tree_Value, fl_r03_Leaf, {}, {}, fl_keep_SameAll, {}, {}, {}, fl_l03_Heavy, fl_r08_Deep, fl_r03_Vars, {}, {}, {}, {}, fl_l16_weigh, fl_keep_Types, fl_scheme_Subst, {}, {}, {}, {}, fl_keep_Ints, {}, {}, fl_elab_stands, fl_elab_put, fl_r17_settled, fl_r17_kept, fl_elab_Make, {}, {}, {}, {}, fl_tree_onePat, {}, {}, {}, {}, {}, {}, {}, {}, fl_tree_one, fl_tree_none, fl_tree_value, {}, {}, {}, {}, {}, {}, {}, {}, {}, {}, fl_l03_count, fl_r03_vars, {}, {}, {}, {}, {}, {}, {}, {}, {}, {}, fl_keep_Type, fl_typ_Check, fl_scheme_put, {}, fl_judge_Cast, fl_elab_plain, fl_r17_dynamic, {}, {}, {}, fl_word_Name, fl_tree_closed, {}, {}, {}, {}, {}, {}, {}, {}, {}, {}, {}, {}, {}, {}, fl_tree_shapeOf, {}, {}, {}, {}, {}, fl_r03_In, {}, fl_typ_Vars, {}, {}, fl_pats_Bind, fl_agree_Agree, fl_typ_right, fl_judge_right, fl_judge_judging_expr, fl_judge_judging_ok, fl_word_Key, fl_word_inner, fl_typ_Closed, {}, {}, {}, {}, {}, {}, {}, {}, {}, {}, {}, {}, {}, {}, {}, {}, {}, {}, {}, {}, fl_typ_vars, fl_slices_Contains__int_int, fl_pats_bind, fl_agree_agrees, fl_typ_arity, fl_judge_find, fl_judge_judging_fails, fl_judge_judging_choices, fl_judge_judging_name, fl_judge_judging_kid, fl_judge_list, fl_judge_judging_fits, fl_judge_one, fl_judge_with, fl_judge_fun, fl_judge_judging_more, fl_typ_without, {}, {}, {}, {}, {}, {}, {}, {}, fl_slices_Index__int_int, fl_pats_leaf, fl_judge_many, fl_judge_judging_enter, fl_typ_Static, fl_judge_judging_cast, fl_judge_judging_app, fl_judge_judging_let, fl_judge_judging_rec, fl_judge_judging_match, {}, {}, {}, {}, {}, {}, {}, {}, {}, {}, {}, {}, {}, {}, {}, {}, {}, {}]
def sigL : List (Option Sig) := [none, none, none, none, none, none, none, none, none, none, none, none, none, none, none, none, none, none, none, none, none, none, none, none, none, none, none, none, none, none, none, none, none, none, none, none, none, none, none, none, none, none, none, none, none, none, none, none, none, none, none, none, none, none, none, none, none, none, none, none, none, none, none, none, none, none, none, none, some sig_elab_stands, some sig_elab_put, none, some sig_r17_kept, none, none, none, none, none, none, none, none, none, none, none, none, none, none, none, none, none, none, none, none, none, none, none, none, none, none, none, none, some sig_r03_vars, none, none, none, none, none, none, none, none, none, none, none, none, some sig_scheme_put, none, none, some sig_elab_plain, none, none, none, none, none, none, none, none, none, none, none, none, none, none, none, none, none, none, none, none, none, none, none, none, none, none, none, none, none, none, none, none, none, none, none, some sig_judge_judging_expr, some sig_judge_judging_ok, none, none, none, none, none, none, none, none, none, none, none, none, none, none, none, none, none, none, none, none, none, none, none, some sig_typ_vars, none, some sig_pats_bind, none, none, none, some sig_judge_judging_fails, some sig_judge_judging_choices, some sig_judge_judging_name, some sig_judge_judging_kid, none, some sig_judge_judging_fits, none, some sig_judge_with, none, some sig_judge_judging_more, none, none, none, none, none, none, none, none, none, none, none, none, some sig_judge_judging_enter, none, some sig_judge_judging_cast, some sig_judge_judging_app, some sig_judge_judging_let, some sig_judge_judging_rec, some sig_judge_judging_match, none, none, none, none, none, none, none, none, none, none, none, none, none, none, none, none, none, none]
def clL : List FuncId := []
def csL : List (FuncId × Nat) := [(76, 7), (85, 16)]
def mkL : List (FuncId × FuncId) := [(76, 119), (85, 135)]
noncomputable def itF (f : FuncId) : Option (List DV → Option (List DV)) := if f = 119 then some (flatD 7 6) else if f = 135 then some (flatD 16 15) else none
noncomputable def cfg : Cfg where
  P := Try.prog
  fl f := flL.getD f {}
  sig f := sigL.getD f none
  prim _ := none
  clone f := clL.contains f
  csz f := (csL.lookup f).getD 0
  mki f := mkL.lookup f
  iter f := itF f

end Go.Su

/-
  The program's iterators keep their word: by program.
-/
namespace Go.Su
open Go.Proofs Go.RowKit Go.Shelf
attribute [local go_sem] Oper.semAt_some
set_option linter.unusedSimpArgs false
set_option linter.unusedVariables false

theorem room_none {F : Fence} (hd : F.depth = none) (k : Nat) : F.room k := fun d h => by rw [hd] at h; cases h
theorem RoundIn.anyD {F : Fence} (hd : F.depth = none) {m m' : Nat} {P : Program} {l : Nat} {f : FuncId} {tmps : Array Value} {assign body : Code} {w : World} {R : Ending → World → Prop}
    (h : RoundIn F m P l f tmps assign body w R) : RoundIn F m' P l f tmps assign body w R := ⟨h.1, fun c cs _ => h.2 c cs (room_none hd _)⟩


/-! ### pats -/
set_option maxHeartbeats 1000000 in
theorem mk_pats : MkOk Try.prog 76 119 7 := by
  intro w vs hs
  obtain ⟨l⟩ := vs
  match l, hs with
  | [v0, v1, v2, v3, v4, v5, v6], _ =>
  refine (callsIn_wide (n := 1)).1 (callsIn_of_wp Try.func76 rfl trivial ?_)
  simp only [Try.ntmps76, List.size_toArray, List.length_cons, List.length_nil, Nat.reduceAdd, Nat.reduceSub, Array.replicate_succ, Array.replicate_zero, List.push_toArray, List.append_toArray, List.nil_append, List.cons_append]
  gi_wp2
  go_ret
  exact ⟨rfl, _, rfl⟩

set_option maxRecDepth 10000 in
set_option maxHeartbeats 4000000 in
theorem go_pats (l n0 : Nat) (ds : List DV) (J : Nat → Env → World → Prop) (Jx : World → Prop) (n : Nat)
    (hf : ∀ k E' W', J k E' W' → ∀ b o, W'.heap.size ≤ b → E'.O b o = .other)
    (hI : ∀ k E' W1 W2, J k E' W1 → ItLe n0 E' W1 W2 → J k E' W2)
    (hY : ∀ k E' W1 d v, J k E' W1 → ds[k]? = some d → RV E'.S W1.heap d v → YieldAt Fence.wide n Try.prog l #[v] W1 fun e W2 =>
      (e = .returned (.bool true) ∧ ∃ E2, J (k + 1) E2 W2 ∧ Pr Ours E' W1.heap E2 W2.heap) ∨ (e = .returned (.bool false) ∧ Jx W2)) :
    ∀ (m : Nat) (d : DV) (sub : List DV), flatN 7 6 m d = some sub → ∀ (k : Nat) (E : Env) (W : World) (v : Value), J k E W → RV E.S W.heap d v → (∀ j x, sub[j]? = some x → ds[k + j]? = some x) → n0 ≤ W.heap.size →
      CallsIn Fence.wide n Try.prog 120 #[v, .func (.yield l) #[] #[]] W fun e W' => (e = .returned (.bool true) ∧ ∃ E', J (k + sub.length) E' W' ∧ Kpt E W E' W') ∨ (e = .returned (.bool false) ∧ Jx W') := by
  intro m
  induction m with
  | zero => intro d sub h; simp [flatN] at h
  | succ m ih =>
    intro d sub hsub k E W v hJ hv hin hn0
    cases d with
    | agg cs =>
      rw [flatN] at hsub
      obtain ⟨h1, hsub⟩ := og_some hsub
      cases hk : cs.getD 6 .undef with
      | list s kds =>
        rw [hk] at hsub
        simp only at hsub
        obtain ⟨h2, hsub⟩ := og_some hsub
        obtain ⟨ks, h3, hsub⟩ := ob_some hsub
        simp only [Option.some.injEq] at hsub
        subst hsub
        simp only [beq_iff_eq, Bool.and_eq_true, decide_eq_true_eq] at h1 h2
        obtain ⟨h2, hlim⟩ := h2
        subst h2
        have hv0 := hv
        simp only [RV] at hv0
        obtain ⟨vs, rfl, hvs⟩ := hv0
        obtain ⟨hl, hvs⟩ := RLs_iff.1 hvs
        obtain ⟨l', rfl⟩ : ∃ l' : List Value, vs = l'.toArray := ⟨vs.toList, by simp⟩
        simp only at hl hvs
        match l', hl.symm.trans h1 with
        | [v0, v1, v2, v3, v4, v5, v6], _ =>
        -- the kids
        have hk5 : cs[6]? = some (.list 7 kds) := by
          have : 6 < cs.length := by omega
          rw [List.getD_eq_getElem?_getD, List.getElem?_eq_getElem this] at hk
          rw [List.getElem?_eq_getElem this]
          exact congrArg some hk
        have hkc := (hvs 6 _ v6 hk5 rfl).2
        simp only [RC] at hkc
        obtain ⟨ka, len, cap, h4, h5, h6, h7, h8, h9⟩ := hkc
        simp only [List.cons.injEq, and_true] at h4
        subst h4 h5
        have hdd : ∀ k : Nat, (Fence.wide.depth.isSome = true → 1 ≤ k) := fun k h => by cases h
        -- the round
        have ho : ∀ o, E.O W.heap.size o = .other := fun o => hf k E W hJ _ o (Nat.le_refl _)
        have key : ∀ T, ∃ fy ty ay by_, (Instr.yield l #[.agg #[v0, v1, v2, v3, v4, v5, .slice ka kds.length cap]]).run Try.prog (W.alloc (.cells #[v0, v1, v2, v3, v4, v5, .slice ka kds.length cap] T)) = .ok (.round l fy ty ay by_) (W.alloc (.cells #[v0, v1, v2, v3, v4, v5, .slice ka kds.length cap] T)) ∧
            RoundIn Fence.wide (n - 1) Try.prog l fy ty ay by_ (W.alloc (.cells #[v0, v1, v2, v3, v4, v5, .slice ka kds.length cap] T)) fun e W2 =>
              (e = .returned (.bool true) ∧ ∃ E2, J (k + 1) E2 W2 ∧ Kpt E W E2 W2 ∧ (W2.heap[W.heap.size]? = some (.cells #[v0, v1, v2, v3, v4, v5, .slice ka kds.length cap] T (0, 0)) ∧ (∀ o, E2.O W.heap.size o = .other)) ∧ W2.cell? ⟨W.heap.size, 6, none⟩ = some (.slice ka kds.length cap)) ∨ (e = .returned (.bool false) ∧ Jx W2) := by
          intro T
          have hJ1 : J k E (W.alloc (.cells #[v0, v1, v2, v3, v4, v5, .slice ka kds.length cap] T)) := hI _ _ _ _ hJ (ItLe.alloc _)
          have K1 := Kpt.alloc (E := E) (W := W) (.cells #[v0, v1, v2, v3, v4, v5, .slice ka kds.length cap] T) (hf k E W hJ)
          obtain ⟨fy, ty, ay, by_, hy, hR⟩ := hY k E _ (.agg cs) _ hJ1 (hin 0 _ rfl) (RV.mono K1.sh _ hv)
          refine ⟨fy, ty, ay, by_, hy, RoundIn.anyD rfl (RoundIn.mono hR ?_)⟩
          rintro e W2 (⟨rfl, E2, hJ2, hP2⟩ | ⟨rfl, hx⟩)
          · have K2 := Kpt.of_pr hP2 (hf _ _ _ hJ1)
            have hb := K2.blk W.heap.size (by simp) ho
            rw [World.alloc_heap_new] at hb
            refine .inl ⟨rfl, E2, hJ2, K1.trans K2, hb, ?_⟩
            simp [World.cell?, hb.1]
          · exact .inr ⟨rfl, hx⟩
        obtain ⟨fy, ty, ay, by_, hy, hR⟩ := key 57
        refine callsIn_of_wp Try.func120 rfl trivial ?_
        simp only [Try.ntmps120, List.size_toArray, List.length_cons, List.length_nil, Nat.reduceAdd, Nat.reduceSub, Array.replicate_succ, Array.replicate_zero, List.push_toArray, List.append_toArray, List.nil_append, List.cons_append]
        gi_wp2_with ((try refine ⟨hdd _, ?_⟩); refine hR.mono ?_; clear hR; rintro e W2 (⟨rfl, E2, hJ2, hK2, hb2, hc2⟩ | ⟨rfl, hx2⟩))
        · -- the kids, one by one
          refine wpIn_loop_rounds (kds.length + 1) ?_
          refine (?loop : ∀ (r i : Nat) (pre rs : List DV) (E3 : Env) (w : World) (x6 x15 x16 x17 x18 x19 x20 x21 x22 : Value), i + r = kds.length → flatL (flatN 7 6 m) (kds.drop i) = some rs → ks = pre ++ rs → J (k + 1 + pre.length) E3 w → Kpt E W E3 w →
              Code.roundsIn Fence.wide n Try.prog _ _ (r + 1) { tmps := #[.agg #[v0, v1, v2, v3, v4, v5, .slice ka kds.length cap], .func (.yield l) #[] #[], .pointer (some { block := W.heap.size, off := 0 }), undef, .bool false, undef, x6,
                .func (.yield l) #[] #[], .agg #[v0, v1, v2, v3, v4, v5, .slice ka kds.length cap], .bool true, .bool false, .pointer (some { block := W.heap.size, off := 6 }), .slice ka kds.length cap, .int .i64 (kds.length : Int), .int .i64 (i : Int), x15, x16, x17, x18, x19, x20, x21, x22], defers := [] } w)
            kds.length 0 [] ks E2 W2 undef undef undef undef undef undef undef undef undef (by simp) h3 rfl hJ2 hK2
          clear hJ2 hK2 hb2 hc2 hy key hJ
          intro r
          induction r with
          | zero =>
            intro i pre rs E3 w x6 x15 x16 x17 x18 x19 x20 x21 x22 hi hrs hks hJ3 hK3
            have hi' : i = kds.length := by omega
            have hi'' : (i : Int) = (kds.length : Int) := by omega
            rw [roundsIn_succ]
            rw [hi'']
            have hlt : ¬ ((kds.length : Int) < (kds.length : Int)) := by omega
            gi_wp2
            go_ret
            rw [hi', List.drop_length, flatL] at hrs
            simp only [Option.some.injEq] at hrs
            subst hrs
            refine .inl ⟨rfl, E3, ?_, hK3⟩
            rw [show k + (pre.length + ([] : List DV).length + 1) = k + 1 + pre.length by simp; omega]
            exact hJ3
          | succ r ihr =>
            intro i pre rs E3 w x6 x15 x16 x17 x18 x19 x20 x21 x22 hi hrs hks hJ3 hK3
            rw [roundsIn_succ]
            have hlt : ((i : Int) < (kds.length : Int)) := by omega
            have hil : i < kds.length := by omega
            -- the kid in memory
            obtain ⟨xa, rfl⟩ : ∃ xa, ka = some xa := by
              cases ka with
              | none => have := h7 rfl; omega
              | some xa => exact ⟨xa, rfl⟩
            obtain ⟨h10, h11⟩ := h9 xa rfl
            obtain ⟨xb, xo, xs⟩ := xa
            have h10 := h10 (by omega)
            simp only at h10 h11
            subst h10
            obtain ⟨us, hu1, hu2, hu3⟩ := RElems_iff.1 h11 i _ (List.getElem?_eq_getElem hil)
            have hu4 := hu2.mono hK3.sh
            match us, hu1 with
            | [u0, u1, u2, u3, u4, u5, u6], _ =>
            have cc : ∀ (j : Nat) (u : Value), [u0, u1, u2, u3, u4, u5, u6][j]? = some u → w.cell? ⟨xb, xo + i * 7 + j, none⟩ = some u := fun j u hj => by rw [cell_hc]; exact (hu4 j u hj).1
            have c0 : w.cell? ⟨xb, xo + i * 7, none⟩ = some u0 := cc 0 u0 rfl
            have c1 := cc 1 u1 rfl
            have c2 := cc 2 u2 rfl
            have c3 := cc 3 u3 rfl
            have c4 := cc 4 u4 rfl
            have c5 := cc 5 u5 rfl
            have c6 := cc 6 u6 rfl
            have ou : ∀ (j : Nat) (u : Value), [u0, u1, u2, u3, u4, u5, u6][j]? = some u → u.oneCell' = true := fun j u hj => (RC_proj hu3 hj).elim fun h1 h2 => RC_one h1 h2
            have e0 : u0.oneCell' = true := ou 0 u0 rfl
            have e1 : u1.oneCell' = true := ou 1 u1 rfl
            have e2 : u2.oneCell' = true := ou 2 u2 rfl
            have e3 : u3.oneCell' = true := ou 3 u3 rfl
            have e4 : u4.oneCell' = true := ou 4 u4 rfl
            have e5 : u5.oneCell' = true := ou 5 u5 rfl
            have e6 : u6.oneCell' = true := ou 6 u6 rfl
            obtain ⟨w1, s0, b0, r0, z0, o0⟩ := store_one (P := Try.prog) (j := 0) (World.alloc_heap_new w (.cells #[.int .i64 0, .int .i64 0, .int .i64 0, .string ⟨#[]⟩, .int .i64 0, .string ⟨#[]⟩, .slice none 0 0] 57)) (by simp) e0
            obtain ⟨w2, s1, b1, r1, z1, o1⟩ := store_one (P := Try.prog) (j := 1) b0 (by simp) e1
            obtain ⟨w3, s2, b2, r2, z2, o2⟩ := store_one (P := Try.prog) (j := 2) b1 (by simp) e2
            obtain ⟨w4, s3, b3, r3, z3, o3⟩ := store_one (P := Try.prog) (j := 3) b2 (by simp) e3
            obtain ⟨w5, s4, b4, r4, z4, o4⟩ := store_one (P := Try.prog) (j := 4) b3 (by simp) e4
            obtain ⟨w6, s5, b5, r5, z5, o5⟩ := store_one (P := Try.prog) (j := 5) b4 (by simp) e5
            obtain ⟨w7, s6, b6, r6, z6, o6⟩ := store_one (P := Try.prog) (j := 6) b5 (by simp) e6
            simp only [List.setIfInBounds_toArray, List.set_cons_zero, List.set_cons_succ] at b0 b1 b2 b3 b4 b5 b6
            have dd : ∀ (j : Nat) (u : Value), [u0, u1, u2, u3, u4, u5, u6][j]? = some u → w7.cell? ⟨w.heap.size, j, none⟩ = some u := fun j u hj => by rw [cell_hc]; simp only [hc, b6]; simpa using hj
            have d0 := dd 0 u0 rfl
            have d1 := dd 1 u1 rfl
            have d2 := dd 2 u2 rfl
            have d3 := dd 3 u3 rfl
            have d4 := dd 4 u4 rfl
            have d5 := dd 5 u5 rfl
            have d6 := dd 6 u6 rfl
            have low : ∀ b, b < w.heap.size → w7.heap[b]? = w.heap[b]? := fun b hb => by
              rw [r6 b (by omega), r5 b (by omega), r4 b (by omega), r3 b (by omega), r2 b (by omega), r1 b (by omega), r0 b (by omega)]
              exact Below.heap_alloc _ _ _ hb
            have hz : w.heap.size ≤ w7.heap.size := by rw [z6, z5, z4, z3, z2, z1, z0]; simp
            have hout : Outer w w7 := Outer.trans (b := w1) (Outer.trans (b := w.alloc (.cells #[.int .i64 0, .int .i64 0, .int .i64 0, .string ⟨#[]⟩, .int .i64 0, .string ⟨#[]⟩, .slice none 0 0] 57)) ⟨rfl, rfl, rfl⟩ o0) ((((((o1).trans o2).trans o3).trans o4).trans o5).trans o6)
            have hfr := hf _ _ _ hJ3
            have K7 : Kpt E3 w E3 w7 := Kpt.same hz low hfr
            have hJ7 := hI _ _ _ _ hJ3 (ItLe.same hz low hout)
            rw [List.drop_eq_getElem_cons hil, flatL] at hrs
            obtain ⟨sa, hsa, hrs⟩ := ob_some hrs
            obtain ⟨sb, hsb, hrs⟩ := ob_some hrs
            simp only [Option.some.injEq] at hrs
            subst hrs
            have h120 : Fence.wide.fn 120 := trivial
            have hcall : CallsIn Fence.wide (n - 1) Try.prog 120 _ w7 _ := callsIn_wide.2 (callsIn_wide.1 (ih _ sa hsa (k + 1 + pre.length) E3 w7 (.agg #[u0, u1, u2, u3, u4, u5, u6]) hJ7 (RV.mono (hK3.trans K7).sh _ (flat_agg hsa hu3)) (flat_at hin hks) (by have := hK3.size; omega)))
            clear ih
            gi_wp2_with ((try refine ⟨hdd _, ?_⟩); gi_at_call 120; refine hcall.mono ?_; clear hcall; rintro e wz (⟨rfl, E4, hJ4, hK4⟩ | ⟨rfl, hx⟩))
            · rw [show wrap64 ((i : Int) + 1) = ((i + 1 : Nat) : Int) by unfold lim at hlim; rw [wrap64]; omega]
              exact ihr (i + 1) (pre ++ sa) sb E4 wz _ _ _ _ _ _ _ _ _ (by omega) hsb (by rw [hks, List.append_assoc]) (by rw [List.length_append, ← Nat.add_assoc]; exact hJ4) ((hK3.trans K7).trans hK4)
            · go_ret
              exact .inr ⟨rfl, hx⟩
        · go_ret
          exact .inr ⟨rfl, hx2⟩
      | _ => rw [hk] at hsub; simp at hsub
    | _ => simp [flatN] at hsub

set_option maxHeartbeats 1000000 in
theorem it_pats : IterOk Try.prog 119 (flatD 7 6) := by
  intro cs ds hds n l b c T0 J Jx E W hb ho hR hf hI hY h0
  obtain ⟨m, hm⟩ := flatD_some hds
  have hlen : cs.length = 7 := by
    cases m with
    | zero => simp [flatN] at hm
    | succ m =>
      rw [flatN] at hm
      obtain ⟨h1, -⟩ := og_some hm
      simpa using h1
  have hlc := (RLs_iff.1 hR).1
  obtain ⟨l', rfl⟩ : ∃ l' : List Value, c = l'.toArray := ⟨c.toList, by simp⟩
  simp only at hR hlc
  match l', hlc.symm.trans hlen with
  | [v0, v1, v2, v3, v4, v5, v6], _ =>
  have cc : ∀ (j : Nat) (u : Value), [v0, v1, v2, v3, v4, v5, v6][j]? = some u → W.cell? ⟨b, j, none⟩ = some u := fun j u hj => by rw [cell_hc]; simp only [hc, hb]; simpa using hj
  have c0 := cc 0 v0 rfl
  have c1 := cc 1 v1 rfl
  have c2 := cc 2 v2 rfl
  have c3 := cc 3 v3 rfl
  have c4 := cc 4 v4 rfl
  have c5 := cc 5 v5 rfl
  have c6 := cc 6 v6 rfl
  have hgo : CallsIn Fence.wide (n - 1) Try.prog 120 _ W _ := callsIn_wide.2 (callsIn_wide.1 (go_pats l W.heap.size ds J Jx n hf hI hY m (.agg cs) ds hm 0 E W (.agg #[v0, v1, v2, v3, v4, v5, v6]) h0 (by simp only [RV]; exact ⟨_, rfl, hR⟩) (fun j x h => by rw [Nat.zero_add]; exact h) (Nat.le_refl _)))
  have h120 : Fence.wide.fn 120 := trivial
  have hdd : ∀ k : Nat, (Fence.wide.depth.isSome = true → 1 ≤ k) := fun k h => by cases h
  refine callsIn_of_wp Try.func119 rfl trivial ?_
  simp only [Try.ntmps119, List.size_toArray, List.length_cons, List.length_nil, Nat.reduceAdd, Nat.reduceSub, Array.replicate_succ, Array.replicate_zero, List.push_toArray, List.append_toArray, List.nil_append, List.cons_append]
  gi_wp2_with ((try refine ⟨hdd _, ?_⟩); gi_at_call 120; refine hgo.mono ?_; clear hgo; rintro e w2 (⟨rfl, E4, hJ4, -⟩ | ⟨rfl, hx⟩))
  · go_end0
    exact ⟨⟨_, rfl⟩, .inl ⟨E4, by simpa using hJ4⟩⟩
  · go_end0
    exact ⟨⟨_, rfl⟩, .inr hx⟩

/-! ### all -/
set_option maxHeartbeats 1000000 in
theorem mk_all : MkOk Try.prog 85 135 16 := by
  intro w vs hs
  obtain ⟨l⟩ := vs
  match l, hs with
  | [v0, v1, v2, v3, v4, v5, v6, v7, v8, v9, v10, v11, v12, v13, v14, v15], _ =>
  refine (callsIn_wide (n := 1)).1 (callsIn_of_wp Try.func85 rfl trivial ?_)
  simp only [Try.ntmps85, List.size_toArray, List.length_cons, List.length_nil, Nat.reduceAdd, Nat.reduceSub, Array.replicate_succ, Array.replicate_zero, List.push_toArray, List.append_toArray, List.nil_append, List.cons_append]
  gi_wp2
  go_ret
  exact ⟨rfl, _, rfl⟩

set_option maxRecDepth 10000 in
set_option maxHeartbeats 4000000 in
theorem go_all (l n0 : Nat) (ds : List DV) (J : Nat → Env → World → Prop) (Jx : World → Prop) (n : Nat)
    (hf : ∀ k E' W', J k E' W' → ∀ b o, W'.heap.size ≤ b → E'.O b o = .other)
    (hI : ∀ k E' W1 W2, J k E' W1 → ItLe n0 E' W1 W2 → J k E' W2)
    (hY : ∀ k E' W1 d v, J k E' W1 → ds[k]? = some d → RV E'.S W1.heap d v → YieldAt Fence.wide n Try.prog l #[v] W1 fun e W2 =>
      (e = .returned (.bool true) ∧ ∃ E2, J (k + 1) E2 W2 ∧ Pr Ours E' W1.heap E2 W2.heap) ∨ (e = .returned (.bool false) ∧ Jx W2)) :
    ∀ (m : Nat) (d : DV) (sub : List DV), flatN 16 15 m d = some sub → ∀ (k : Nat) (E : Env) (W : World) (v : Value), J k E W → RV E.S W.heap d v → (∀ j x, sub[j]? = some x → ds[k + j]? = some x) → n0 ≤ W.heap.size →
      CallsIn Fence.wide n Try.prog 136 #[v, .func (.yield l) #[] #[]] W fun e W' => (e = .returned (.bool true) ∧ ∃ E', J (k + sub.length) E' W' ∧ Kpt E W E' W') ∨ (e = .returned (.bool false) ∧ Jx W') := by
  intro m
  induction m with
  | zero => intro d sub h; simp [flatN] at h
  | succ m ih =>
    intro d sub hsub k E W v hJ hv hin hn0
    cases d with
    | agg cs =>
      rw [flatN] at hsub
      obtain ⟨h1, hsub⟩ := og_some hsub
      cases hk : cs.getD 15 .undef with
      | list s kds =>
        rw [hk] at hsub
        simp only at hsub
        obtain ⟨h2, hsub⟩ := og_some hsub
        obtain ⟨ks, h3, hsub⟩ := ob_some hsub
        simp only [Option.some.injEq] at hsub
        subst hsub
        simp only [beq_iff_eq, Bool.and_eq_true, decide_eq_true_eq] at h1 h2
        obtain ⟨h2, hlim⟩ := h2
        subst h2
        have hv0 := hv
        simp only [RV] at hv0
        obtain ⟨vs, rfl, hvs⟩ := hv0
        obtain ⟨hl, hvs⟩ := RLs_iff.1 hvs
        obtain ⟨l', rfl⟩ : ∃ l' : List Value, vs = l'.toArray := ⟨vs.toList, by simp⟩
        simp only at hl hvs
        match l', hl.symm.trans h1 with
        | [v0, v1, v2, v3, v4, v5, v6, v7, v8, v9, v10, v11, v12, v13, v14, v15], _ =>
        -- the kids
        have hk5 : cs[15]? = some (.list 16 kds) := by
          have : 15 < cs.length := by omega
          rw [List.getD_eq_getElem?_getD, List.getElem?_eq_getElem this] at hk
          rw [List.getElem?_eq_getElem this]
          exact congrArg some hk
        have hkc := (hvs 15 _ v15 hk5 rfl).2
        simp only [RC] at hkc
        obtain ⟨ka, len, cap, h4, h5, h6, h7, h8, h9⟩ := hkc
        simp only [List.cons.injEq, and_true] at h4
        subst h4 h5
        have hdd : ∀ k : Nat, (Fence.wide.depth.isSome = true → 1 ≤ k) := fun k h => by cases h
        -- the round
        have ho : ∀ o, E.O W.heap.size o = .other := fun o => hf k E W hJ _ o (Nat.le_refl _)
        have key : ∀ T, ∃ fy ty ay by_, (Instr.yield l #[.agg #[v0, v1, v2, v3, v4, v5, v6, v7, v8, v9, v10, v11, v12, v13, v14, .slice ka kds.length cap]]).run Try.prog (W.alloc (.cells #[v0, v1, v2, v3, v4, v5, v6, v7, v8, v9, v10, v11, v12, v13, v14, .slice ka kds.length cap] T)) = .ok (.round l fy ty ay by_) (W.alloc (.cells #[v0, v1, v2, v3, v4, v5, v6, v7, v8, v9, v10, v11, v12, v13, v14, .slice ka kds.length cap] T)) ∧
            RoundIn Fence.wide (n - 1) Try.prog l fy ty ay by_ (W.alloc (.cells #[v0, v1, v2, v3, v4, v5, v6, v7, v8, v9, v10, v11, v12, v13, v14, .slice ka kds.length cap] T)) fun e W2 =>
              (e = .returned (.bool true) ∧ ∃ E2, J (k + 1) E2 W2 ∧ Kpt E W E2 W2 ∧ (W2.heap[W.heap.size]? = some (.cells #[v0, v1, v2, v3, v4, v5, v6, v7, v8, v9, v10, v11, v12, v13, v14, .slice ka kds.length cap] T (0, 0)) ∧ (∀ o, E2.O W.heap.size o = .other)) ∧ W2.cell? ⟨W.heap.size, 15, none⟩ = some (.slice ka kds.length cap)) ∨ (e = .returned (.bool false) ∧ Jx W2) := by
          intro T
          have hJ1 : J k E (W.alloc (.cells #[v0, v1, v2, v3, v4, v5, v6, v7, v8, v9, v10, v11, v12, v13, v14, .slice ka kds.length cap] T)) := hI _ _ _ _ hJ (ItLe.alloc _)
          have K1 := Kpt.alloc (E := E) (W := W) (.cells #[v0, v1, v2, v3, v4, v5, v6, v7, v8, v9, v10, v11, v12, v13, v14, .slice ka kds.length cap] T) (hf k E W hJ)
          obtain ⟨fy, ty, ay, by_, hy, hR⟩ := hY k E _ (.agg cs) _ hJ1 (hin 0 _ rfl) (RV.mono K1.sh _ hv)
          refine ⟨fy, ty, ay, by_, hy, RoundIn.anyD rfl (RoundIn.mono hR ?_)⟩
          rintro e W2 (⟨rfl, E2, hJ2, hP2⟩ | ⟨rfl, hx⟩)
          · have K2 := Kpt.of_pr hP2 (hf _ _ _ hJ1)
            have hb := K2.blk W.heap.size (by simp) ho
            rw [World.alloc_heap_new] at hb
            refine .inl ⟨rfl, E2, hJ2, K1.trans K2, hb, ?_⟩
            simp [World.cell?, hb.1]
          · exact .inr ⟨rfl, hx⟩
        obtain ⟨fy, ty, ay, by_, hy, hR⟩ := key 66
        refine callsIn_of_wp Try.func136 rfl trivial ?_
        simp only [Try.ntmps136, List.size_toArray, List.length_cons, List.length_nil, Nat.reduceAdd, Nat.reduceSub, Array.replicate_succ, Array.replicate_zero, List.push_toArray, List.append_toArray, List.nil_append, List.cons_append]
        gi_wp2_with ((try refine ⟨hdd _, ?_⟩); refine hR.mono ?_; clear hR; rintro e W2 (⟨rfl, E2, hJ2, hK2, hb2, hc2⟩ | ⟨rfl, hx2⟩))
        · -- the kids, one by one
          refine wpIn_loop_rounds (kds.length + 1) ?_
          refine (?loop : ∀ (r i : Nat) (pre rs : List DV) (E3 : Env) (w : World) (x6 x15 x16 x17 x18 x19 x20 x21 x22 : Value), i + r = kds.length → flatL (flatN 16 15 m) (kds.drop i) = some rs → ks = pre ++ rs → J (k + 1 + pre.length) E3 w → Kpt E W E3 w →
              Code.roundsIn Fence.wide n Try.prog _ _ (r + 1) { tmps := #[.agg #[v0, v1, v2, v3, v4, v5, v6, v7, v8, v9, v10, v11, v12, v13, v14, .slice ka kds.length cap], .func (.yield l) #[] #[], .pointer (some { block := W.heap.size, off := 0 }), undef, .bool false, undef, x6,
                .func (.yield l) #[] #[], .agg #[v0, v1, v2, v3, v4, v5, v6, v7, v8, v9, v10, v11, v12, v13, v14, .slice ka kds.length cap], .bool true, .bool false, .pointer (some { block := W.heap.size, off := 15 }), .slice ka kds.length cap, .int .i64 (kds.length : Int), .int .i64 (i : Int), x15, x16, x17, x18, x19, x20, x21, x22], defers := [] } w)
            kds.length 0 [] ks E2 W2 undef undef undef undef undef undef undef undef undef (by simp) h3 rfl hJ2 hK2
          clear hJ2 hK2 hb2 hc2 hy key hJ
          intro r
          induction r with
          | zero =>
            intro i pre rs E3 w x6 x15 x16 x17 x18 x19 x20 x21 x22 hi hrs hks hJ3 hK3
            have hi' : i = kds.length := by omega
            have hi'' : (i : Int) = (kds.length : Int) := by omega
            rw [roundsIn_succ]
            rw [hi'']
            have hlt : ¬ ((kds.length : Int) < (kds.length : Int)) := by omega
            gi_wp2
            go_ret
            rw [hi', List.drop_length, flatL] at hrs
            simp only [Option.some.injEq] at hrs
            subst hrs
            refine .inl ⟨rfl, E3, ?_, hK3⟩
            rw [show k + (pre.length + ([] : List DV).length + 1) = k + 1 + pre.length by simp; omega]
            exact hJ3
          | succ r ihr =>
            intro i pre rs E3 w x6 x15 x16 x17 x18 x19 x20 x21 x22 hi hrs hks hJ3 hK3
            rw [roundsIn_succ]
            have hlt : ((i : Int) < (kds.length : Int)) := by omega
            have hil : i < kds.length := by omega
            -- the kid in memory
            obtain ⟨xa, rfl⟩ : ∃ xa, ka = some xa := by
              cases ka with
              | none => have := h7 rfl; omega
              | some xa => exact ⟨xa, rfl⟩
            obtain ⟨h10, h11⟩ := h9 xa rfl
            obtain ⟨xb, xo, xs⟩ := xa
            have h10 := h10 (by omega)
            simp only at h10 h11
            subst h10
            obtain ⟨us, hu1, hu2, hu3⟩ := RElems_iff.1 h11 i _ (List.getElem?_eq_getElem hil)
            have hu4 := hu2.mono hK3.sh
            match us, hu1 with
            | [u0, u1, u2, u3, u4, u5, u6, u7, u8, u9, u10, u11, u12, u13, u14, u15], _ =>
            have cc : ∀ (j : Nat) (u : Value), [u0, u1, u2, u3, u4, u5, u6, u7, u8, u9, u10, u11, u12, u13, u14, u15][j]? = some u → w.cell? ⟨xb, xo + i * 16 + j, none⟩ = some u := fun j u hj => by rw [cell_hc]; exact (hu4 j u hj).1
            have c0 : w.cell? ⟨xb, xo + i * 16, none⟩ = some u0 := cc 0 u0 rfl
            have c1 := cc 1 u1 rfl
            have c2 := cc 2 u2 rfl
            have c3 := cc 3 u3 rfl
            have c4 := cc 4 u4 rfl
            have c5 := cc 5 u5 rfl
            have c6 := cc 6 u6 rfl
            have c7 := cc 7 u7 rfl
            have c8 := cc 8 u8 rfl
            have c9 := cc 9 u9 rfl
            have c10 := cc 10 u10 rfl
            have c11 := cc 11 u11 rfl
            have c12 := cc 12 u12 rfl
            have c13 := cc 13 u13 rfl
            have c14 := cc 14 u14 rfl
            have c15 := cc 15 u15 rfl
            have ou : ∀ (j : Nat) (u : Value), [u0, u1, u2, u3, u4, u5, u6, u7, u8, u9, u10, u11, u12, u13, u14, u15][j]? = some u → u.oneCell' = true := fun j u hj => (RC_proj hu3 hj).elim fun h1 h2 => RC_one h1 h2
            have e0 : u0.oneCell' = true := ou 0 u0 rfl
            have e1 : u1.oneCell' = true := ou 1 u1 rfl
            have e2 : u2.oneCell' = true := ou 2 u2 rfl
            have e3 : u3.oneCell' = true := ou 3 u3 rfl
            have e4 : u4.oneCell' = true := ou 4 u4 rfl
            have e5 : u5.oneCell' = true := ou 5 u5 rfl
            have e6 : u6.oneCell' = true := ou 6 u6 rfl
            have e7 : u7.oneCell' = true := ou 7 u7 rfl
            have e8 : u8.oneCell' = true := ou 8 u8 rfl
            have e9 : u9.oneCell' = true := ou 9 u9 rfl
            have e10 : u10.oneCell' = true := ou 10 u10 rfl
            have e11 : u11.oneCell' = true := ou 11 u11 rfl
            have e12 : u12.oneCell' = true := ou 12 u12 rfl
            have e13 : u13.oneCell' = true := ou 13 u13 rfl
            have e14 : u14.oneCell' = true := ou 14 u14 rfl
            have e15 : u15.oneCell' = true := ou 15 u15 rfl
            obtain ⟨w1, s0, b0, r0, z0, o0⟩ := store_one (P := Try.prog) (j := 0) (World.alloc_heap_new w (.cells #[.int .i64 0, .int .i64 0, .int .i64 0, .string ⟨#[]⟩, .string ⟨#[]⟩, .int .i64 0, .string ⟨#[]⟩, .int .i64 0, .int .i64 0, .int .i64 0, .slice none 0 0, .int .i64 0, .int .i64 0, .slice none 0 0, .slice none 0 0, .slice none 0 0] 66)) (by simp) e0
            obtain ⟨w2, s1, b1, r1, z1, o1⟩ := store_one (P := Try.prog) (j := 1) b0 (by simp) e1
            obtain ⟨w3, s2, b2, r2, z2, o2⟩ := store_one (P := Try.prog) (j := 2) b1 (by simp) e2
            obtain ⟨w4, s3, b3, r3, z3, o3⟩ := store_one (P := Try.prog) (j := 3) b2 (by simp) e3
            obtain ⟨w5, s4, b4, r4, z4, o4⟩ := store_one (P := Try.prog) (j := 4) b3 (by simp) e4
            obtain ⟨w6, s5, b5, r5, z5, o5⟩ := store_one (P := Try.prog) (j := 5) b4 (by simp) e5
            obtain ⟨w7, s6, b6, r6, z6, o6⟩ := store_one (P := Try.prog) (j := 6) b5 (by simp) e6
            obtain ⟨w8, s7, b7, r7, z7, o7⟩ := store_one (P := Try.prog) (j := 7) b6 (by simp) e7
            obtain ⟨w9, s8, b8, r8, z8, o8⟩ := store_one (P := Try.prog) (j := 8) b7 (by simp) e8
            obtain ⟨w10, s9, b9, r9, z9, o9⟩ := store_one (P := Try.prog) (j := 9) b8 (by simp) e9
            obtain ⟨w11, s10, b10, r10, z10, o10⟩ := store_one (P := Try.prog) (j := 10) b9 (by simp) e10
            obtain ⟨w12, s11, b11, r11, z11, o11⟩ := store_one (P := Try.prog) (j := 11) b10 (by simp) e11
            obtain ⟨w13, s12, b12, r12, z12, o12⟩ := store_one (P := Try.prog) (j := 12) b11 (by simp) e12
            obtain ⟨w14, s13, b13, r13, z13, o13⟩ := store_one (P := Try.prog) (j := 13) b12 (by simp) e13
            obtain ⟨w15, s14, b14, r14, z14, o14⟩ := store_one (P := Try.prog) (j := 14) b13 (by simp) e14
            obtain ⟨w16, s15, b15, r15, z15, o15⟩ := store_one (P := Try.prog) (j := 15) b14 (by simp) e15
            simp only [List.setIfInBounds_toArray, List.set_cons_zero, List.set_cons_succ] at b0 b1 b2 b3 b4 b5 b6 b7 b8 b9 b10 b11 b12 b13 b14 b15
            have dd : ∀ (j : Nat) (u : Value), [u0, u1, u2, u3, u4, u5, u6, u7, u8, u9, u10, u11, u12, u13, u14, u15][j]? = some u → w16.cell? ⟨w.heap.size, j, none⟩ = some u := fun j u hj => by rw [cell_hc]; simp only [hc, b15]; simpa using hj
            have d0 := dd 0 u0 rfl
            have d1 := dd 1 u1 rfl
            have d2 := dd 2 u2 rfl
            have d3 := dd 3 u3 rfl
            have d4 := dd 4 u4 rfl
            have d5 := dd 5 u5 rfl
            have d6 := dd 6 u6 rfl
            have d7 := dd 7 u7 rfl
            have d8 := dd 8 u8 rfl
            have d9 := dd 9 u9 rfl
            have d10 := dd 10 u10 rfl
            have d11 := dd 11 u11 rfl
            have d12 := dd 12 u12 rfl
            have d13 := dd 13 u13 rfl
            have d14 := dd 14 u14 rfl
            have d15 := dd 15 u15 rfl
            have low : ∀ b, b < w.heap.size → w16.heap[b]? = w.heap[b]? := fun b hb => by
              rw [r15 b (by omega), r14 b (by omega), r13 b (by omega), r12 b (by omega), r11 b (by omega), r10 b (by omega), r9 b (by omega), r8 b (by omega), r7 b (by omega), r6 b (by omega), r5 b (by omega), r4 b (by omega), r3 b (by omega), r2 b (by omega), r1 b (by omega), r0 b (by omega)]
              exact Below.heap_alloc _ _ _ hb
            have hz : w.heap.size ≤ w16.heap.size := by rw [z15, z14, z13, z12, z11, z10, z9, z8, z7, z6, z5, z4, z3, z2, z1, z0]; simp
            have hout : Outer w w16 := Outer.trans (b := w1) (Outer.trans (b := w.alloc (.cells #[.int .i64 0, .int .i64 0, .int .i64 0, .string ⟨#[]⟩, .string ⟨#[]⟩, .int .i64 0, .string ⟨#[]⟩, .int .i64 0, .int .i64 0, .int .i64 0, .slice none 0 0, .int .i64 0, .int .i64 0, .slice none 0 0, .slice none 0 0, .slice none 0 0] 66)) ⟨rfl, rfl, rfl⟩ o0) (((((((((((((((o1).trans o2).trans o3).trans o4).trans o5).trans o6).trans o7).trans o8).trans o9).trans o10).trans o11).trans o12).trans o13).trans o14).trans o15)
            have hfr := hf _ _ _ hJ3
            have K7 : Kpt E3 w E3 w16 := Kpt.same hz low hfr
            have hJ7 := hI _ _ _ _ hJ3 (ItLe.same hz low hout)
            rw [List.drop_eq_getElem_cons hil, flatL] at hrs
            obtain ⟨sa, hsa, hrs⟩ := ob_some hrs
            obtain ⟨sb, hsb, hrs⟩ := ob_some hrs
            simp only [Option.some.injEq] at hrs
            subst hrs
            have h120 : Fence.wide.fn 136 := trivial
            have hcall : CallsIn Fence.wide (n - 1) Try.prog 136 _ w16 _ := callsIn_wide.2 (callsIn_wide.1 (ih _ sa hsa (k + 1 + pre.length) E3 w16 (.agg #[u0, u1, u2, u3, u4, u5, u6, u7, u8, u9, u10, u11, u12, u13, u14, u15]) hJ7 (RV.mono (hK3.trans K7).sh _ (flat_agg hsa hu3)) (flat_at hin hks) (by have := hK3.size; omega)))
            clear ih
            gi_wp2_with ((try refine ⟨hdd _, ?_⟩); gi_at_call 136; refine hcall.mono ?_; clear hcall; rintro e wz (⟨rfl, E4, hJ4, hK4⟩ | ⟨rfl, hx⟩))
            · rw [show wrap64 ((i : Int) + 1) = ((i + 1 : Nat) : Int) by unfold lim at hlim; rw [wrap64]; omega]
              exact ihr (i + 1) (pre ++ sa) sb E4 wz _ _ _ _ _ _ _ _ _ (by omega) hsb (by rw [hks, List.append_assoc]) (by rw [List.length_append, ← Nat.add_assoc]; exact hJ4) ((hK3.trans K7).trans hK4)
            · go_ret
              exact .inr ⟨rfl, hx⟩
        · go_ret
          exact .inr ⟨rfl, hx2⟩
      | _ => rw [hk] at hsub; simp at hsub
    | _ => simp [flatN] at hsub

set_option maxHeartbeats 1000000 in
theorem it_all : IterOk Try.prog 135 (flatD 16 15) := by
  intro cs ds hds n l b c T0 J Jx E W hb ho hR hf hI hY h0
  obtain ⟨m, hm⟩ := flatD_some hds
  have hlen : cs.length = 16 := by
    cases m with
    | zero => simp [flatN] at hm
    | succ m =>
      rw [flatN] at hm
      obtain ⟨h1, -⟩ := og_some hm
      simpa using h1
  have hlc := (RLs_iff.1 hR).1
  obtain ⟨l', rfl⟩ : ∃ l' : List Value, c = l'.toArray := ⟨c.toList, by simp⟩
  simp only at hR hlc
  match l', hlc.symm.trans hlen with
  | [v0, v1, v2, v3, v4, v5, v6, v7, v8, v9, v10, v11, v12, v13, v14, v15], _ =>
  have cc : ∀ (j : Nat) (u : Value), [v0, v1, v2, v3, v4, v5, v6, v7, v8, v9, v10, v11, v12, v13, v14, v15][j]? = some u → W.cell? ⟨b, j, none⟩ = some u := fun j u hj => by rw [cell_hc]; simp only [hc, hb]; simpa using hj
  have c0 := cc 0 v0 rfl
  have c1 := cc 1 v1 rfl
  have c2 := cc 2 v2 rfl
  have c3 := cc 3 v3 rfl
  have c4 := cc 4 v4 rfl
  have c5 := cc 5 v5 rfl
  have c6 := cc 6 v6 rfl
  have c7 := cc 7 v7 rfl
  have c8 := cc 8 v8 rfl
  have c9 := cc 9 v9 rfl
  have c10 := cc 10 v10 rfl
  have c11 := cc 11 v11 rfl
  have c12 := cc 12 v12 rfl
  have c13 := cc 13 v13 rfl
  have c14 := cc 14 v14 rfl
  have c15 := cc 15 v15 rfl
  have hgo : CallsIn Fence.wide (n - 1) Try.prog 136 _ W _ := callsIn_wide.2 (callsIn_wide.1 (go_all l W.heap.size ds J Jx n hf hI hY m (.agg cs) ds hm 0 E W (.agg #[v0, v1, v2, v3, v4, v5, v6, v7, v8, v9, v10, v11, v12, v13, v14, v15]) h0 (by simp only [RV]; exact ⟨_, rfl, hR⟩) (fun j x h => by rw [Nat.zero_add]; exact h) (Nat.le_refl _)))
  have h120 : Fence.wide.fn 136 := trivial
  have hdd : ∀ k : Nat, (Fence.wide.depth.isSome = true → 1 ≤ k) := fun k h => by cases h
  refine callsIn_of_wp Try.func135 rfl trivial ?_
  simp only [Try.ntmps135, List.size_toArray, List.length_cons, List.length_nil, Nat.reduceAdd, Nat.reduceSub, Array.replicate_succ, Array.replicate_zero, List.push_toArray, List.append_toArray, List.nil_append, List.cons_append]
  gi_wp2_with ((try refine ⟨hdd _, ?_⟩); gi_at_call 136; refine hgo.mono ?_; clear hgo; rintro e w2 (⟨rfl, E4, hJ4, -⟩ | ⟨rfl, hx⟩))
  · go_end0
    exact ⟨⟨_, rfl⟩, .inl ⟨E4, by simpa using hJ4⟩⟩
  · go_end0
    exact ⟨⟨_, rfl⟩, .inr hx⟩

end Go.Su

/-
  The settings are right.
-/
namespace Go.Su
open Go.Proofs

theorem names_ok : Try.prog.funcs.toList.all (fun fn => fn.name != "runtime.NumGoroutine") = true := by kernel_rfl

theorem lookup_mem {l : List (FuncId × FuncId)} {f g : FuncId} (h : l.lookup f = some g) : (f, g) ∈ l := by
  induction l with
  | nil => cases h
  | cons x l ih =>
    obtain ⟨a, b⟩ := x
    simp only [List.lookup_cons] at h
    by_cases e : f == a
    · rw [e] at h; simp only [Option.some.injEq] at h; rw [h]; rw [eq_of_beq e]; exact List.mem_cons_self ..
    · simp only [e] at h; exact List.mem_cons_of_mem _ (ih h)

theorem cfg_ok : CfgOk cfg where
  mixed := by kernel_rfl
  go f fn h := by
    have h1 : fn ∈ Try.prog.funcs.toList := by
      have : Try.prog.funcs[f]? = some fn := h
      rw [← Array.getElem?_toList] at this
      exact List.mem_of_getElem? this
    have := List.all_eq_true.1 names_ok fn h1
    simpa using this
  prim f g h := by cases h
  clone f h := by
    have : clL.contains f = true := h
    cases this
  mki f g h := by
    have h1 : (f, g) ∈ mkL := lookup_mem h
    simp only [mkL, List.mem_cons, List.not_mem_nil, or_false, Prod.mk.injEq] at h1
    rcases h1 with ⟨rfl, rfl⟩ | ⟨rfl, rfl⟩
    · exact ⟨by kernel_rfl, mk_pats⟩
    · exact ⟨by kernel_rfl, mk_all⟩
  iter g it h := by
    have h1 : itF g = some it := h
    unfold itF at h1
    split at h1
    · rename_i e
      subst e
      cases h1
      exact ⟨by kernel_rfl, it_pats⟩
    split at h1
    · rename_i e
      subst e
      cases h1
      exact ⟨by kernel_rfl, it_all⟩
    · cases h1
end Go.Su

/-
  Equations of the program's functions: by program.
-/
namespace Go.Su
open Go.Proofs
set_option linter.unusedVariables false

/-! ### l18_ElabPlain -/
noncomputable def code_l18_ElabPlain : Code := Try.f5.body.getD .skip
noncomputable def P_l18_ElabPlain (R : Orc) (x0 : DV) : Option DV := evP cfg R fl_l18_ElabPlain (retP cfg.P Try.f5) [] code_l18_ElabPlain (initSt Try.f5 [(x0, .val)] [])
set_option maxRecDepth 100000 in
theorem eq_l18_ElabPlain (R : Orc) (x0 : DV) : P_l18_ElabPlain R x0 =
  (og (isAggN 3 x0) <|
  ob (R.p F_l16_HeavyDeriv [(.agg [(proj 0 x0), (proj 1 x0), (proj 2 x0)])]) fun d1 =>
  oif d1
   (some (.bool true))
   (ob (R.p F_keep_Deriv [(.agg [(proj 0 x0), (proj 1 x0), (proj 2 x0)])]) fun d2 =>
   og (isAggN 3 d2) <|
   ob (R.p F_elab_Plain [(.agg [(proj 0 d2), (proj 1 d2), (proj 2 d2)])]) fun d3 =>
   og (isAggN 3 d3) <|
   ob (R.p F_r17_Plain [(.agg [(proj 0 x0), (proj 1 x0), (proj 2 x0)])]) fun d4 =>
   ob (R.p F_keep_Derivs [(.agg [(proj 0 d3), (proj 1 d3), (proj 2 d3)]), d4]) fun d5 =>
   ogd d5
    (ob (R.p F_elab_Plain [(.agg [(proj 0 d3), (proj 1 d3), (proj 2 d3)])]) fun d6 =>
    ob (R.p F_keep_Derivs [d6, (.agg [(proj 0 d3), (proj 1 d3), (proj 2 d3)])]) fun d7 =>
    ogd d7
     (ob (R.p F_keep_Derivs [(.agg [(proj 0 d2), (proj 1 d2), (proj 2 d2)]), (.agg [(proj 0 x0), (proj 1 x0), (proj 2 x0)])]) fun d8 =>
     ogd d8
      (ob (R.p F_l18_wakes []) fun d9 =>
      some d9)
      (some (.bool false))
      none)
     (some (.bool false))
     none)
    (some (.bool false))
    none)) := evP_of [] (by kernel_rfl)
theorem fix_l18_ElabPlain (x0 : DV) : (run cfg).p F_l18_ElabPlain [x0] = P_l18_ElabPlain (run cfg) x0 :=
  (fix_pure (C := cfg) (f := F_l18_ElabPlain) (fn := Try.f5) (c := code_l18_ElabPlain) (by kernel_rfl) Try.func5 (by kernel_rfl)).trans (by kernel_rfl)
theorem call_l18_ElabPlain (x0 : DV) {d : DV} (h : P_l18_ElabPlain (run cfg) x0 = some d) : (run cfg).p F_l18_ElabPlain [x0] = some d := (fix_l18_ElabPlain x0).trans h

/-! ### l11_Small -/
noncomputable def code_l11_Small : Code := Try.f12.body.getD .skip
noncomputable def P_l11_Small (R : Orc) (x0 : DV) : Option DV := evP cfg R fl_l11_Small (retP cfg.P Try.f12) [] code_l11_Small (initSt Try.f12 [(x0, .val)] [])
noncomputable def P_l11_Small_2h (R : Orc) (t0 : DV) (t3 : DV) : Option DV := headP cfg R fl_l11_Small (retP cfg.P Try.f12) [true, false, true, false] code_l11_Small ⟨spread .undef 32 0 [(0, t0), (3, t3)], spread .val 32 0 [], spread none 32 0 [], []⟩
theorem eq_l11_Small (R : Orc) (x0 : DV) : P_l11_Small R x0 =
  (P_l11_Small_2h R x0 (.int .i64 0)) := evP_of [] (by kernel_rfl)
set_option maxRecDepth 100000 in
theorem eq_l11_Small_2h (R : Orc) (t0 : DV) (t3 : DV) : P_l11_Small_2h R t0 t3 =
  (ob (dLen t0) fun d1 =>
  ob (dBin .lss t3 d1) fun d2 =>
  oif d2
   (ob (dIdx 3 t0 t3) fun d3 =>
   ob (R.p F_l03_Heavy [(.list 3 [(.agg [(proj 0 d3), (proj 1 d3), (proj 2 d3)])])]) fun d4 =>
   ogd d4
    (some (.bool false))
    (ob (dIdx 3 t0 t3) fun d5 =>
    ob (R.p F_r08_Deep [(.agg [(proj 0 d5), (proj 1 d5), (proj 2 d5)]), (.int .i64 60)]) fun d6 =>
    ogd d6
     (some (.bool false))
     (ob (dIdx 3 t0 t3) fun d7 =>
     ob (R.p F_r03_Vars [(.agg [(proj 0 d7), (proj 1 d7), (proj 2 d7)])]) fun d8 =>
     ob (dLen d8) fun d9 =>
     ob (dBin .gtr d9 (.int .i64 8)) fun d10 =>
     oif d10
      (some (.bool false))
      (ob (dBin .add t3 (.int .i64 1)) fun d11 =>
      P_l11_Small_2h R t0 d11))
     none)
    none)
   (some (.bool true))) := headP_of [] (by kernel_rfl)
theorem fix_l11_Small (x0 : DV) : (run cfg).p F_l11_Small [x0] = P_l11_Small (run cfg) x0 :=
  (fix_pure (C := cfg) (f := F_l11_Small) (fn := Try.f12) (c := code_l11_Small) (by kernel_rfl) Try.func12 (by kernel_rfl)).trans (by kernel_rfl)
theorem call_l11_Small (x0 : DV) {d : DV} (h : P_l11_Small (run cfg) x0 = some d) : (run cfg).p F_l11_Small [x0] = some d := (fix_l11_Small x0).trans h

/-! ### r03_Size -/
noncomputable def code_r03_Size : Code := Try.f14.body.getD .skip
noncomputable def P_r03_Size (R : Orc) (x0 : DV) : Option DV := evP cfg R fl_r03_Size (retP cfg.P Try.f14) [] code_r03_Size (initSt Try.f14 [(x0, .val)] [])
noncomputable def P_r03_Size_3h (R : Orc) (t3 : DV) (t4 : DV) (b1 : DV) : Option DV := headP cfg R fl_r03_Size (retP cfg.P Try.f14) [true, true, false, true, false] code_r03_Size ⟨spread .undef 21 0 [(3, t3), (4, t4)], spread .val 21 0 [(1, (.loc 1 0))], spread none 21 0 [(1, some [((proj 0 b1), .val), ((proj 1 b1), .val), ((proj 2 b1), .val)])], []⟩
theorem eq_r03_Size (R : Orc) (x0 : DV) : P_r03_Size R x0 =
  (og (isAggN 3 x0) <|
  P_r03_Size_3h R (.int .i64 1) (.int .i64 0) x0) := evP_of [] (by kernel_rfl)
theorem eq_r03_Size_3h (R : Orc) (t3 : DV) (t4 : DV) (b1 : DV) : P_r03_Size_3h R t3 t4 b1 =
  (ob (dLen (proj 2 b1)) fun d1 =>
  ob (dBin .lss t4 d1) fun d2 =>
  oif d2
   (ob (dIdx 3 (proj 2 b1) t4) fun d3 =>
   ob (R.p F_r03_Size [(.agg [(proj 0 d3), (proj 1 d3), (proj 2 d3)])]) fun d4 =>
   ob (dBin .add t3 d4) fun d5 =>
   ob (dBin .add t4 (.int .i64 1)) fun d6 =>
   P_r03_Size_3h R d5 d6 b1)
   (some t3)) := headP_of [] (by kernel_rfl)
theorem fix_r03_Size (x0 : DV) : (run cfg).p F_r03_Size [x0] = P_r03_Size (run cfg) x0 :=
  (fix_pure (C := cfg) (f := F_r03_Size) (fn := Try.f14) (c := code_r03_Size) (by kernel_rfl) Try.func14 (by kernel_rfl)).trans (by kernel_rfl)
theorem call_r03_Size (x0 : DV) {d : DV} (h : P_r03_Size (run cfg) x0 = some d) : (run cfg).p F_r03_Size [x0] = some d := (fix_r03_Size x0).trans h

/-! ### keep_Same -/
noncomputable def code_keep_Same : Code := Try.f19.body.getD .skip
noncomputable def P_keep_Same (R : Orc) (x0 : DV) (x1 : DV) : Option DV := evP cfg R fl_keep_Same (retP cfg.P Try.f19) [] code_keep_Same (initSt Try.f19 [(x0, .val), (x1, .val)] [])
noncomputable def P_keep_Same_4h (R : Orc) (t5 : DV) (b2 : DV) (b3 : DV) : Option DV := headP cfg R fl_keep_Same (retP cfg.P Try.f19) [true, true, false, true, false] code_keep_Same ⟨spread .undef 46 0 [(5, t5)], spread .val 46 0 [(2, (.loc 2 0)), (3, (.loc 3 0))], spread none 46 0 [(2, some [((proj 0 b2), .val), ((proj 1 b2), .val), ((proj 2 b2), .val)]), (3, some [((proj 0 b3), .val), ((proj 1 b3), .val), ((proj 2 b3), .val)])], []⟩
set_option maxRecDepth 100000 in
theorem eq_keep_Same (R : Orc) (x0 : DV) (x1 : DV) : P_keep_Same R x0 x1 =
  (og (isAggN 3 x0) <|
  og (isAggN 3 x1) <|
  ob (dBin .neq (proj 0 x0) (proj 0 x1)) fun d1 =>
  ogd d1
   (some (.bool false))
   (ob (dBin .neq (proj 1 x0) (proj 1 x1)) fun d2 =>
   ogd d2
    (some (.bool false))
    (ob (dLen (proj 2 x0)) fun d3 =>
    ob (dLen (proj 2 x1)) fun d4 =>
    ob (dBin .neq d3 d4) fun d5 =>
    oif d5
     (some (.bool false))
     (P_keep_Same_4h R (.int .i64 0) x0 x1))
    none)
   none) := evP_of [] (by kernel_rfl)
theorem eq_keep_Same_4h (R : Orc) (t5 : DV) (b2 : DV) (b3 : DV) : P_keep_Same_4h R t5 b2 b3 =
  (ob (dLen (proj 2 b2)) fun d1 =>
  ob (dBin .lss t5 d1) fun d2 =>
  oif d2
   (ob (dIdx 3 (proj 2 b2) t5) fun d3 =>
   ob (dIdx 3 (proj 2 b3) t5) fun d4 =>
   ob (R.p F_keep_Same [(.agg [(proj 0 d3), (proj 1 d3), (proj 2 d3)]), (.agg [(proj 0 d4), (proj 1 d4), (proj 2 d4)])]) fun d5 =>
   ob (dUn .not d5) fun d6 =>
   oif d6
    (some (.bool false))
    (ob (dBin .add t5 (.int .i64 1)) fun d7 =>
    P_keep_Same_4h R d7 b2 b3))
   (some (.bool true))) := headP_of [] (by kernel_rfl)
theorem fix_keep_Same (x0 : DV) (x1 : DV) : (run cfg).p F_keep_Same [x0, x1] = P_keep_Same (run cfg) x0 x1 :=
  (fix_pure (C := cfg) (f := F_keep_Same) (fn := Try.f19) (c := code_keep_Same) (by kernel_rfl) Try.func19 (by kernel_rfl)).trans (by kernel_rfl)
theorem call_keep_Same (x0 : DV) (x1 : DV) {d : DV} (h : P_keep_Same (run cfg) x0 x1 = some d) : (run cfg).p F_keep_Same [x0, x1] = some d := (fix_keep_Same x0 x1).trans h

/-! ### l16_HeavyDeriv -/
noncomputable def code_l16_HeavyDeriv : Code := Try.f20.body.getD .skip
noncomputable def P_l16_HeavyDeriv (R : Orc) (x0 : DV) : Option DV := evP cfg R fl_l16_HeavyDeriv (retP cfg.P Try.f20) [] code_l16_HeavyDeriv (initSt Try.f20 [(x0, .val)] [])
theorem eq_l16_HeavyDeriv (R : Orc) (x0 : DV) : P_l16_HeavyDeriv R x0 =
  (og (isAggN 3 x0) <|
  ob (R.p F_l16_weigh [(.agg [(proj 0 x0), (proj 1 x0), (proj 2 x0)]), (.int .i64 0)]) fun d1 =>
  ob (dBin .gtr d1 (.int .i64 1500)) fun d2 =>
  some d2) := evP_of [] (by kernel_rfl)
theorem fix_l16_HeavyDeriv (x0 : DV) : (run cfg).p F_l16_HeavyDeriv [x0] = P_l16_HeavyDeriv (run cfg) x0 :=
  (fix_pure (C := cfg) (f := F_l16_HeavyDeriv) (fn := Try.f20) (c := code_l16_HeavyDeriv) (by kernel_rfl) Try.func20 (by kernel_rfl)).trans (by kernel_rfl)
theorem call_l16_HeavyDeriv (x0 : DV) {d : DV} (h : P_l16_HeavyDeriv (run cfg) x0 = some d) : (run cfg).p F_l16_HeavyDeriv [x0] = some d := (fix_l16_HeavyDeriv x0).trans h

/-! ### keep_Deriv -/
noncomputable def code_keep_Deriv : Code := Try.f21.body.getD .skip
noncomputable def P_keep_Deriv (R : Orc) (x0 : DV) : Option DV := evP cfg R fl_keep_Deriv (retP cfg.P Try.f21) [] code_keep_Deriv (initSt Try.f21 [(x0, .val)] [])
noncomputable def P_keep_Deriv_3h (R : Orc) (t4 : DV) (b1 : DV) (b2_0 : DV) (b2_1 : DV) (b2_2 : DV) (b3_0 : DV) (b3_1 : DV) (b3_2 : DV) : Option DV := headP cfg R fl_keep_Deriv (retP cfg.P Try.f21) [true, true, false, true, false] code_keep_Deriv ⟨spread .undef 32 0 [(4, t4)], spread .val 32 0 [(1, (.loc 1 0)), (2, (.loc 2 0)), (3, (.loc 3 0))], spread none 32 0 [(1, some [((proj 0 b1), .val), ((proj 1 b1), .val), ((proj 2 b1), .val)]), (2, some [(b2_0, .val), (b2_1, .val), (b2_2, .val)]), (3, some [(b3_0, .val), (b3_1, .val), (b3_2, .own)])], []⟩
theorem eq_keep_Deriv (R : Orc) (x0 : DV) : P_keep_Deriv R x0 =
  (og (isAggN 3 x0) <|
  ob (R.p F_keep_Types [(proj 0 x0)]) fun d1 =>
  ob (dApp 1 (.list 1 []) (proj 1 x0)) fun d2 =>
  og (isCell d1) <|
  P_keep_Deriv_3h R (.int .i64 0) x0 (.list 3 []) (.list 1 []) (.list 3 []) d1 d2 (.list 3 [])) := evP_of [] (by kernel_rfl)
theorem eq_keep_Deriv_3h (R : Orc) (t4 : DV) (b1 : DV) (b2_0 : DV) (b2_1 : DV) (b2_2 : DV) (b3_0 : DV) (b3_1 : DV) (b3_2 : DV) : P_keep_Deriv_3h R t4 b1 b2_0 b2_1 b2_2 b3_0 b3_1 b3_2 =
  (ob (dLen (proj 2 b1)) fun d1 =>
  ob (dBin .lss t4 d1) fun d2 =>
  oif d2
   (ob (dIdx 3 (proj 2 b1) t4) fun d3 =>
   ob (R.p F_keep_Deriv [(.agg [(proj 0 d3), (proj 1 d3), (proj 2 d3)])]) fun d4 =>
   og (isAggN 3 d4) <|
   ob (dApp 3 b3_2 (.list 3 [d4])) fun d5 =>
   ob (dBin .add t4 (.int .i64 1)) fun d6 =>
   P_keep_Deriv_3h R d6 b1 b2_0 b2_1 b2_2 b3_0 b3_1 d5)
   (some (.agg [b3_0, b3_1, b3_2]))) := headP_of [] (by kernel_rfl)
theorem fix_keep_Deriv (x0 : DV) : (run cfg).p F_keep_Deriv [x0] = P_keep_Deriv (run cfg) x0 :=
  (fix_pure (C := cfg) (f := F_keep_Deriv) (fn := Try.f21) (c := code_keep_Deriv) (by kernel_rfl) Try.func21 (by kernel_rfl)).trans (by kernel_rfl)
theorem call_keep_Deriv (x0 : DV) {d : DV} (h : P_keep_Deriv (run cfg) x0 = some d) : (run cfg).p F_keep_Deriv [x0] = some d := (fix_keep_Deriv x0).trans h

/-! ### keep_Derivs -/
noncomputable def code_keep_Derivs : Code := Try.f24.body.getD .skip
noncomputable def P_keep_Derivs (R : Orc) (x0 : DV) (x1 : DV) : Option DV := evP cfg R fl_keep_Derivs (retP cfg.P Try.f24) [] code_keep_Derivs (initSt Try.f24 [(x0, .val), (x1, .val)] [])
noncomputable def P_keep_Derivs_4h (R : Orc) (t5 : DV) (b2 : DV) (b3 : DV) : Option DV := headP cfg R fl_keep_Derivs (retP cfg.P Try.f24) [true, true, false, true, false] code_keep_Derivs ⟨spread .undef 48 0 [(5, t5)], spread .val 48 0 [(2, (.loc 2 0)), (3, (.loc 3 0))], spread none 48 0 [(2, some [((proj 0 b2), .val), ((proj 1 b2), .val), ((proj 2 b2), .val)]), (3, some [((proj 0 b3), .val), ((proj 1 b3), .val), ((proj 2 b3), .val)])], []⟩
set_option maxRecDepth 100000 in
theorem eq_keep_Derivs (R : Orc) (x0 : DV) (x1 : DV) : P_keep_Derivs R x0 x1 =
  (og (isAggN 3 x0) <|
  og (isAggN 3 x1) <|
  ob (R.p F_keep_SameAll [(proj 0 x0), (proj 0 x1)]) fun d1 =>
  ob (dUn .not d1) fun d2 =>
  ogd d2
   (some (.bool false))
   (ob (R.p F_keep_Ints [(proj 1 x0), (proj 1 x1)]) fun d3 =>
   ob (dUn .not d3) fun d4 =>
   ogd d4
    (some (.bool false))
    (ob (dLen (proj 2 x0)) fun d5 =>
    ob (dLen (proj 2 x1)) fun d6 =>
    ob (dBin .neq d5 d6) fun d7 =>
    oif d7
     (some (.bool false))
     (P_keep_Derivs_4h R (.int .i64 0) x0 x1))
    none)
   none) := evP_of [] (by kernel_rfl)
theorem eq_keep_Derivs_4h (R : Orc) (t5 : DV) (b2 : DV) (b3 : DV) : P_keep_Derivs_4h R t5 b2 b3 =
  (ob (dLen (proj 2 b2)) fun d1 =>
  ob (dBin .lss t5 d1) fun d2 =>
  oif d2
   (ob (dIdx 3 (proj 2 b2) t5) fun d3 =>
   ob (dIdx 3 (proj 2 b3) t5) fun d4 =>
   ob (R.p F_keep_Derivs [(.agg [(proj 0 d3), (proj 1 d3), (proj 2 d3)]), (.agg [(proj 0 d4), (proj 1 d4), (proj 2 d4)])]) fun d5 =>
   ob (dUn .not d5) fun d6 =>
   oif d6
    (some (.bool false))
    (ob (dBin .add t5 (.int .i64 1)) fun d7 =>
    P_keep_Derivs_4h R d7 b2 b3))
   (some (.bool true))) := headP_of [] (by kernel_rfl)
theorem fix_keep_Derivs (x0 : DV) (x1 : DV) : (run cfg).p F_keep_Derivs [x0, x1] = P_keep_Derivs (run cfg) x0 x1 :=
  (fix_pure (C := cfg) (f := F_keep_Derivs) (fn := Try.f24) (c := code_keep_Derivs) (by kernel_rfl) Try.func24 (by kernel_rfl)).trans (by kernel_rfl)
theorem call_keep_Derivs (x0 : DV) (x1 : DV) {d : DV} (h : P_keep_Derivs (run cfg) x0 x1 = some d) : (run cfg).p F_keep_Derivs [x0, x1] = some d := (fix_keep_Derivs x0 x1).trans h

/-! ### elab_Plain -/
noncomputable def code_elab_Plain : Code := Try.f26.body.getD .skip
noncomputable def P_elab_Plain (R : Orc) (x0 : DV) : Option DV := evP cfg R fl_elab_Plain (retP cfg.P Try.f26) [] code_elab_Plain (initSt Try.f26 [(x0, .val)] [])
theorem eq_elab_Plain (R : Orc) (x0 : DV) : P_elab_Plain R x0 =
  (og (isAggN 3 x0) <|
  ob (R.r F_elab_stands [((.agg [(proj 0 x0), (proj 1 x0), (proj 2 x0)]), .val), (.undef, (.map 0))] [.map false []]) fun q1 =>
  ob (R.r F_elab_put [((.agg [(proj 0 x0), (proj 1 x0), (proj 2 x0)]), .val), (.undef, (.map 0))] q1.2) fun q2 =>
  og (isAggN 3 (q2.1.getD 0 .undef)) <|
  some (.agg [(proj 0 (q2.1.getD 0 .undef)), (proj 1 (q2.1.getD 0 .undef)), (proj 2 (q2.1.getD 0 .undef))])) := evP_of [] (by kernel_rfl)
theorem fix_elab_Plain (x0 : DV) : (run cfg).p F_elab_Plain [x0] = P_elab_Plain (run cfg) x0 :=
  (fix_pure (C := cfg) (f := F_elab_Plain) (fn := Try.f26) (c := code_elab_Plain) (by kernel_rfl) Try.func26 (by kernel_rfl)).trans (by kernel_rfl)
theorem call_elab_Plain (x0 : DV) {d : DV} (h : P_elab_Plain (run cfg) x0 = some d) : (run cfg).p F_elab_Plain [x0] = some d := (fix_elab_Plain x0).trans h

/-! ### r17_Plain -/
noncomputable def code_r17_Plain : Code := Try.f27.body.getD .skip
noncomputable def P_r17_Plain (R : Orc) (x0 : DV) : Option DV := evP cfg R fl_r17_Plain (retP cfg.P Try.f27) [] code_r17_Plain (initSt Try.f27 [(x0, .val)] [])
theorem eq_r17_Plain (R : Orc) (x0 : DV) : P_r17_Plain R x0 =
  (og (isAggN 3 x0) <|
  ob (R.r F_r17_kept [((.agg [(proj 0 x0), (proj 1 x0), (proj 2 x0)]), .val), ((.list 1 []), .own)] []) fun q1 =>
  ob (R.p F_r17_settled [(.agg [(proj 0 x0), (proj 1 x0), (proj 2 x0)]), (q1.1.getD 0 .undef)]) fun d2 =>
  og (isAggN 3 d2) <|
  some (.agg [(proj 0 d2), (proj 1 d2), (proj 2 d2)])) := evP_of [] (by kernel_rfl)
theorem fix_r17_Plain (x0 : DV) : (run cfg).p F_r17_Plain [x0] = P_r17_Plain (run cfg) x0 :=
  (fix_pure (C := cfg) (f := F_r17_Plain) (fn := Try.f27) (c := code_r17_Plain) (by kernel_rfl) Try.func27 (by kernel_rfl)).trans (by kernel_rfl)
theorem call_r17_Plain (x0 : DV) {d : DV} (h : P_r17_Plain (run cfg) x0 = some d) : (run cfg).p F_r17_Plain [x0] = some d := (fix_r17_Plain x0).trans h

/-! ### l18_wakes -/
noncomputable def code_l18_wakes : Code := Try.f28.body.getD .skip
noncomputable def P_l18_wakes (R : Orc) : Option DV := evP cfg R fl_l18_wakes (retP cfg.P Try.f28) [] code_l18_wakes (initSt Try.f28 [] [])
noncomputable def P_l18_wakes_4 (R : Orc) (t3 : DV) (t5 : DV) (b2 : DV) (b4 : DV) (b6 : DV) : Option DV := evP cfg R fl_l18_wakes (retP cfg.P Try.f28) [true, true, true, true] code_l18_wakes ⟨spread .undef 82 0 [(3, t3), (5, t5)], spread .val 82 0 [(2, (.loc 2 0)), (4, (.loc 4 0)), (6, (.loc 6 0))], spread none 82 0 [(2, some [((proj 0 b2), .val), ((proj 1 b2), .val), ((proj 2 b2), .val), ((proj 3 b2), .val), ((proj 4 b2), .val), ((proj 5 b2), .val), ((proj 6 b2), .val), ((proj 7 b2), .val), ((proj 8 b2), .val), ((proj 9 b2), .val), ((proj 10 b2), .val), ((proj 11 b2), .val), ((proj 12 b2), .val), ((proj 13 b2), .val), ((proj 14 b2), .val), ((proj 15 b2), .val), ((proj 16 b2), .val), ((proj 17 b2), .val), ((proj 18 b2), .val), ((proj 19 b2), .val)]), (4, some [((proj 0 b4), .val), ((proj 1 b4), .val), ((proj 2 b4), .val)]), (6, some [((proj 0 b6), .val), ((proj 1 b6), .val), ((proj 2 b6), .val)])], []⟩
theorem eq_l18_wakes (R : Orc) : P_l18_wakes R =
  (ob (R.p F_r03_Leaf [(.int .i64 5)]) fun d1 =>
  og (isAggN 3 d1) <|
  ob (R.p F_elab_Make [(.agg [(.int .i64 15), (.int .i64 0), (.int .i64 0), (.str ⟨#[]⟩), (.str ⟨#[]⟩), (.int .i64 0), (.str ⟨#[]⟩), (.int .i64 0), (proj 0 d1), (proj 1 d1), (proj 2 d1), (.int .i64 0), (.int .i64 0), (.list 3 []), (.list 7 []), (.list 16 [(.agg [(.int .i64 2), (.int .i64 1), (.int .i64 2), (.str ⟨#[]⟩), (.str ⟨#[]⟩), (.int .i64 5), (.str ⟨#[]⟩), (.int .i64 0), (.int .i64 0), (.int .i64 0), (.list 3 []), (.int .i64 0), (.int .i64 0), (.list 3 []), (.list 7 []), (.list 16 [])])])]), (.agg [(.list 3 []), (.list 1 []), (.list 3 [(.agg [(.list 3 []), (.list 1 []), (.list 3 [])])])])]) fun d2 =>
  ob (dExt 0 d2) fun d3 =>
  ob (dExt 1 d2) fun d4 =>
  ob (dExt 2 d2) fun d5 =>
  ob (dExt 3 d2) fun d6 =>
  og (isAggN 20 d3) <|
  og (isAggN 3 d5) <|
  ob (R.p F_elab_Plain [(.agg [(.list 3 [(.agg [(.int .i64 6), (.int .i64 3), (.list 3 [])])]), (.list 1 []), (.list 3 [])])]) fun d7 =>
  og (isAggN 3 d7) <|
  P_l18_wakes_4 R d4 d6 d3 d5 d7) := evP_of [4] (by kernel_rfl)
set_option maxRecDepth 100000 in
theorem eq_l18_wakes_4 (R : Orc) (t3 : DV) (t5 : DV) (b2 : DV) (b4 : DV) (b6 : DV) : P_l18_wakes_4 R t3 t5 b2 b4 b6 =
  (ob (dBin .eql t5 (.int .i64 0)) fun d1 =>
  ogd d1
   (ob (dBin .eql (proj 0 b2) (.int .i64 16)) fun d2 =>
   ogd d2
    (ob (dBin .eql (proj 8 b2) (.int .i64 0)) fun d3 =>
    ogd d3
     (ob (dBin .eql (proj 11 b2) (.int .i64 1)) fun d4 =>
     ogd d4
      (ob (dBin .eql (proj 14 b2) (.int .i64 5)) fun d5 =>
      ogd d5
       (ob (dLen t3) fun d6 =>
       ob (dBin .eql d6 (.int .i64 1)) fun d7 =>
       ogd d7
        (ob (dIdx 8 t3 (.int .i64 0)) fun d8 =>
        ob (dBin .eql (proj 0 d8) (.int .i64 1)) fun d9 =>
        ogd d9
         (ob (dBin .eql (proj 0 b4) (.int .i64 5)) fun d10 =>
         ogd d10
          (ob (dLen (proj 0 b6)) fun d11 =>
          ob (dBin .eql d11 (.int .i64 1)) fun d12 =>
          ogd d12
           (ob (dIdx 3 (proj 0 b6) (.int .i64 0)) fun d13 =>
           ob (dBin .eql (proj 0 d13) (.int .i64 5)) fun d14 =>
           some d14)
           (some (.bool false))
           none)
          (some (.bool false))
          none)
         (some (.bool false))
         none)
        (some (.bool false))
        none)
       (some (.bool false))
       none)
      (some (.bool false))
      none)
     (some (.bool false))
     none)
    (some (.bool false))
    none)
   (some (.bool false))
   none) := evP_of [4] (by kernel_rfl)
theorem fix_l18_wakes : (run cfg).p F_l18_wakes [] = P_l18_wakes (run cfg) :=
  (fix_pure (C := cfg) (f := F_l18_wakes) (fn := Try.f28) (c := code_l18_wakes) (by kernel_rfl) Try.func28 (by kernel_rfl)).trans (by kernel_rfl)
theorem call_l18_wakes {d : DV} (h : P_l18_wakes (run cfg) = some d) : (run cfg).p F_l18_wakes [] = some d := (fix_l18_wakes).trans h

/-! ### tree_CheckPat -/
noncomputable def code_tree_CheckPat : Code := Try.f33.body.getD .skip
noncomputable def P_tree_CheckPat (R : Orc) (x0 : DV) : Option DV := evP cfg R fl_tree_CheckPat (retP cfg.P Try.f33) [] code_tree_CheckPat (initSt Try.f33 [(x0, .val)] [])
noncomputable def P_tree_CheckPat_r0 (R : Orc) (t0 : DV) (t6 : DV) (sg : List SObj) : Option DV := evP cfg R fl_tree_CheckPat (retP cfg.P Try.f33) [true, true, false, true, false] code_tree_CheckPat ⟨spread .undef 32 0 [(0, t0), (4, (.tup [])), (6, t6), (8, (.tup [])), (9, (.tup [])), (10, (.tup [])), (11, (.tup [])), (12, (.tup [])), (13, (.tup [])), (14, (.tup [])), (15, (.tup [])), (16, (.tup [])), (17, (.tup [])), (18, (.tup [])), (19, (.tup [])), (20, (.tup [])), (21, (.tup [])), (22, (.tup [])), (23, (.tup [])), (24, (.tup [])), (25, (.tup [])), (26, (.tup [])), (27, (.tup [])), (28, (.tup [])), (29, (.tup [])), (30, (.tup [])), (31, (.tup []))], spread .val 32 0 [(1, (.ptr 0 0)), (2, (.ptr 1 0)), (3, (.ptr 3 0)), (5, (.map 2)), (7, (.fn 119 [(4, 0)]))], spread none 32 0 [], sg⟩
noncomputable def rcode_tree_CheckPat_r0 : Code := match (sub [true, true, false, true, false] code_tree_CheckPat []).1 with
  | .rangeFunc _ _ a b => .seq a b
  | c => c
noncomputable def X_tree_CheckPat_r0 (R : Orc) (t0 : DV) (t6 : DV) (o : Out) (sg : List SObj) : Option DV := konP cfg R fl_tree_CheckPat (retP cfg.P Try.f33) [true, true, false, true, false] code_tree_CheckPat o (outerSt ⟨spread .undef 32 0 [(0, t0), (4, (.tup [])), (6, t6), (8, (.tup [])), (9, (.tup [])), (10, (.tup [])), (11, (.tup [])), (12, (.tup [])), (13, (.tup [])), (14, (.tup [])), (15, (.tup [])), (16, (.tup [])), (17, (.tup [])), (18, (.tup [])), (19, (.tup [])), (20, (.tup [])), (21, (.tup [])), (22, (.tup [])), (23, (.tup [])), (24, (.tup [])), (25, (.tup [])), (26, (.tup [])), (27, (.tup [])), (28, (.tup [])), (29, (.tup [])), (30, (.tup [])), (31, (.tup []))], spread .val 32 0 [(1, (.ptr 0 0)), (2, (.ptr 1 0)), (3, (.ptr 3 0)), (5, (.map 2)), (7, (.fn 119 [(4, 0)]))], spread none 32 0 [], []⟩ sg)
noncomputable def B_tree_CheckPat_r0 (R : Orc) (t0 : DV) (t6 : DV) (I : List SObj → Option DV) (x : DV) (sg : List SObj) : Option DV := evP cfg R fl_tree_CheckPat (kr I (X_tree_CheckPat_r0 R t0 t6)) [] rcode_tree_CheckPat_r0 ⟨spread .undef 32 0 [(8, x)], spread .val 32 0 [(2, (.ptr 1 0)), (3, (.ptr 3 0))], spread none 32 0 [], sg⟩
noncomputable def I_tree_CheckPat_r0 (R : Orc) (t0 : DV) (t6 : DV) : List DV → List SObj → Option DV := foldIt (fun x I sg => B_tree_CheckPat_r0 R t0 t6 I x sg) (X_tree_CheckPat_r0 R t0 t6 .normal)
noncomputable def P_tree_CheckPat_6 (R : Orc) (t0 : DV) (t6 : DV) (I : List SObj → Option DV) (b4 : DV) (sg : List SObj) : Option DV := evP cfg R fl_tree_CheckPat (kr I (X_tree_CheckPat_r0 R t0 t6)) [true, false, true] rcode_tree_CheckPat_r0 ⟨spread .undef 32 0 [], spread .val 32 0 [(3, (.ptr 3 0)), (4, (.loc 4 0))], spread none 32 0 [(4, some [((proj 0 b4), .val), ((proj 1 b4), .val), ((proj 2 b4), .val), ((proj 3 b4), .val), ((proj 4 b4), .val), ((proj 5 b4), .val), ((proj 6 b4), .val)])], sg⟩
theorem eq_tree_CheckPat (R : Orc) (x0 : DV) : P_tree_CheckPat R x0 =
  (og (isAggN 7 x0) <|
  P_tree_CheckPat_r0 R x0 (.agg [(proj 0 x0), (proj 1 x0), (proj 2 x0), (proj 3 x0), (proj 4 x0), (proj 5 x0), (proj 6 x0)]) [SObj.box [((proj 0 x0), .val), ((proj 1 x0), .val), ((proj 2 x0), .val), ((proj 3 x0), .val), ((proj 4 x0), .val), ((proj 5 x0), .val), ((proj 6 x0), .val)], SObj.box [((.int .i64 0), .val)], .map true [], SObj.box [(.undef, (.map 2))], SObj.box [((proj 0 x0), .val), ((proj 1 x0), .val), ((proj 2 x0), .val), ((proj 3 x0), .val), ((proj 4 x0), .val), ((proj 5 x0), .val), ((proj 6 x0), .val)]]) := evP_of [6] (by kernel_rfl)
theorem eq_tree_CheckPat_r0 (R : Orc) (t0 : DV) (t6 : DV) (sg : List SObj) : P_tree_CheckPat_r0 R t0 t6 sg =
  ob (sgBox sg 4) fun cs => ob (allDat cs) fun cd => ob (flatD 7 6 cd) fun ds => I_tree_CheckPat_r0 R t0 t6 ds (sg.set 4 (.arr 1 [])) :=
  (rangeP2 (t := 7) (f := 119) (i := 4) (q := 8) (it := flatD 7 6) (by kernel_rfl) (by kernel_rfl) (by kernel_rfl) (by kernel_rfl)).trans (by kernel_rfl)
theorem I_tree_CheckPat_r0_nil (R : Orc) (t0 : DV) (t6 : DV) (sg : List SObj) : I_tree_CheckPat_r0 R t0 t6 [] sg = X_tree_CheckPat_r0 R t0 t6 .normal sg := rfl
theorem I_tree_CheckPat_r0_cons (R : Orc) (t0 : DV) (t6 : DV) (x : DV) (ds : List DV) (sg : List SObj) : I_tree_CheckPat_r0 R t0 t6 (x :: ds) sg = B_tree_CheckPat_r0 R t0 t6 (I_tree_CheckPat_r0 R t0 t6 ds) x sg := rfl
theorem eq_B_tree_CheckPat_r0 (R : Orc) (t0 : DV) (t6 : DV) (I : List SObj → Option DV) (x : DV) (sg : List SObj) : B_tree_CheckPat_r0 R t0 t6 I x sg =
  (og (isAggN 7 x) <|
  ob (R.p F_tree_onePat [(.agg [(proj 0 x), (proj 1 x), (proj 2 x), (proj 3 x), (proj 4 x), (proj 5 x), (proj 6 x)])]) fun d1 =>
  ob (dUn .not d1) fun d2 =>
  ogd d2
   (ob (sgBox sg 1) fun c3 =>
   ob (c3[0]?) fun u4 =>
   X_tree_CheckPat_r0 R t0 t6 .ret (sg.set 1 (SObj.box (c3.set 0 ((.int .i64 1), .val)))))
   (ob (dBin .eql (proj 0 x) (.int .i64 2)) fun d5 =>
   ogd d5
    (ob (sgBox sg 3) fun c6 =>
    ob (cellMap c6 0) fun i7 =>
    og (isKey true (proj 3 x) && true) <|
    ob (sgMap sg i7) fun m8 =>
    og (m8.1 == true) <|
    ob (dBin .gtr ((mGet m8.2 (proj 3 x)).getD (.int .i64 0)) (.int .i64 0)) fun d9 =>
    oif d9
     (ob (sgBox sg 1) fun c10 =>
     ob (c10[0]?) fun u11 =>
     X_tree_CheckPat_r0 R t0 t6 .ret (sg.set 1 (SObj.box (c10.set 0 ((.int .i64 1), .val)))))
     (P_tree_CheckPat_6 R t0 t6 I x sg))
    (P_tree_CheckPat_6 R t0 t6 I x sg)
    none)
   none) := evP_of [6] (by kernel_rfl)
theorem eq_X_tree_CheckPat_r0_normal (R : Orc) (t0 : DV) (t6 : DV) (sg : List SObj) : X_tree_CheckPat_r0 R t0 t6 .normal sg =
  (ob (sgBox sg 1) fun c1 =>
  ob (c1[0]?) fun u2 =>
  ret1 (ob (sgBox (sg.set 1 (SObj.box (c1.set 0 ((.int .i64 0), .val)))) 1) fun c => oneCell (sg.set 1 (SObj.box (c1.set 0 ((.int .i64 0), .val)))) c)) := konP_of [6] (by kernel_rfl)
theorem eq_X_tree_CheckPat_r0_ret (R : Orc) (t0 : DV) (t6 : DV) (sg : List SObj) : X_tree_CheckPat_r0 R t0 t6 .ret sg =
  (ret1 (ob (sgBox sg 1) fun c => oneCell sg c)) := konP_of [6] (by kernel_rfl)
theorem eq_tree_CheckPat_6 (R : Orc) (t0 : DV) (t6 : DV) (I : List SObj → Option DV) (b4 : DV) (sg : List SObj) : P_tree_CheckPat_6 R t0 t6 I b4 sg =
  (ob (dBin .eql (proj 0 b4) (.int .i64 2)) fun d1 =>
  oif d1
   (ob (sgBox sg 3) fun c2 =>
   ob (cellMap c2 0) fun i3 =>
   og (isKey true (proj 3 b4) && true) <|
   ob (sgMap sg i3) fun m4 =>
   og (m4.1 == true) <|
   ob (dBin .add ((mGet m4.2 (proj 3 b4)).getD (.int .i64 0)) (.int .i64 1)) fun d5 =>
   og (isKey true (proj 3 b4) && true && true) <|
   ob (sgMap sg i3) fun m6 =>
   og (m6.1 == true) <|
   I (sg.set i3 (.map true (mSet m6.2 (proj 3 b4) d5))))
   (I sg)) := evP_of [6] (by kernel_rfl)
theorem fix_tree_CheckPat (x0 : DV) : (run cfg).p F_tree_CheckPat [x0] = P_tree_CheckPat (run cfg) x0 :=
  (fix_pure (C := cfg) (f := F_tree_CheckPat) (fn := Try.f33) (c := code_tree_CheckPat) (by kernel_rfl) Try.func33 (by kernel_rfl)).trans (by kernel_rfl)
theorem call_tree_CheckPat (x0 : DV) {d : DV} (h : P_tree_CheckPat (run cfg) x0 = some d) : (run cfg).p F_tree_CheckPat [x0] = some d := (fix_tree_CheckPat x0).trans h

/-! ### tree_Check -/
noncomputable def code_tree_Check : Code := Try.f41.body.getD .skip
noncomputable def P_tree_Check (R : Orc) (x0 : DV) : Option DV := evP cfg R fl_tree_Check (retP cfg.P Try.f41) [] code_tree_Check (initSt Try.f41 [(x0, .val)] [])
noncomputable def P_tree_Check_r0 (R : Orc) (t0 : DV) (t4 : DV) (sg : List SObj) : Option DV := evP cfg R fl_tree_Check (retP cfg.P Try.f41) [true, false, true, false] code_tree_Check ⟨spread .undef 10 0 [(0, t0), (3, (.tup [])), (4, t4), (6, (.tup [])), (7, (.tup [])), (8, (.tup [])), (9, (.tup []))], spread .val 10 0 [(1, (.ptr 0 0)), (2, (.ptr 1 0)), (5, (.fn 135 [(2, 0)]))], spread none 10 0 [], sg⟩
noncomputable def rcode_tree_Check_r0 : Code := match (sub [true, false, true, false] code_tree_Check []).1 with
  | .rangeFunc _ _ a b => .seq a b
  | c => c
noncomputable def X_tree_Check_r0 (R : Orc) (t0 : DV) (t4 : DV) (o : Out) (sg : List SObj) : Option DV := konP cfg R fl_tree_Check (retP cfg.P Try.f41) [true, false, true, false] code_tree_Check o (outerSt ⟨spread .undef 10 0 [(0, t0), (3, (.tup [])), (4, t4), (6, (.tup [])), (7, (.tup [])), (8, (.tup [])), (9, (.tup []))], spread .val 10 0 [(1, (.ptr 0 0)), (2, (.ptr 1 0)), (5, (.fn 135 [(2, 0)]))], spread none 10 0 [], []⟩ sg)
noncomputable def B_tree_Check_r0 (R : Orc) (t0 : DV) (t4 : DV) (I : List SObj → Option DV) (x : DV) (sg : List SObj) : Option DV := evP cfg R fl_tree_Check (kr I (X_tree_Check_r0 R t0 t4)) [] rcode_tree_Check_r0 ⟨spread .undef 10 0 [(6, x)], spread .val 10 0 [(2, (.ptr 1 0))], spread none 10 0 [], sg⟩
noncomputable def I_tree_Check_r0 (R : Orc) (t0 : DV) (t4 : DV) : List DV → List SObj → Option DV := foldIt (fun x I sg => B_tree_Check_r0 R t0 t4 I x sg) (X_tree_Check_r0 R t0 t4 .normal)
theorem eq_tree_Check (R : Orc) (x0 : DV) : P_tree_Check R x0 =
  (og (isAggN 16 x0) <|
  P_tree_Check_r0 R x0 (.agg [(proj 0 x0), (proj 1 x0), (proj 2 x0), (proj 3 x0), (proj 4 x0), (proj 5 x0), (proj 6 x0), (proj 7 x0), (proj 8 x0), (proj 9 x0), (proj 10 x0), (proj 11 x0), (proj 12 x0), (proj 13 x0), (proj 14 x0), (proj 15 x0)]) [SObj.box [((proj 0 x0), .val), ((proj 1 x0), .val), ((proj 2 x0), .val), ((proj 3 x0), .val), ((proj 4 x0), .val), ((proj 5 x0), .val), ((proj 6 x0), .val), ((proj 7 x0), .val), ((proj 8 x0), .val), ((proj 9 x0), .val), ((proj 10 x0), .val), ((proj 11 x0), .val), ((proj 12 x0), .val), ((proj 13 x0), .val), ((proj 14 x0), .val), ((proj 15 x0), .val)], SObj.box [((.int .i64 0), .val)], SObj.box [((proj 0 x0), .val), ((proj 1 x0), .val), ((proj 2 x0), .val), ((proj 3 x0), .val), ((proj 4 x0), .val), ((proj 5 x0), .val), ((proj 6 x0), .val), ((proj 7 x0), .val), ((proj 8 x0), .val), ((proj 9 x0), .val), ((proj 10 x0), .val), ((proj 11 x0), .val), ((proj 12 x0), .val), ((proj 13 x0), .val), ((proj 14 x0), .val), ((proj 15 x0), .val)]]) := evP_of [] (by kernel_rfl)
theorem eq_tree_Check_r0 (R : Orc) (t0 : DV) (t4 : DV) (sg : List SObj) : P_tree_Check_r0 R t0 t4 sg =
  ob (sgBox sg 2) fun cs => ob (allDat cs) fun cd => ob (flatD 16 15 cd) fun ds => I_tree_Check_r0 R t0 t4 ds (sg.set 2 (.arr 1 [])) :=
  (rangeP2 (t := 5) (f := 135) (i := 2) (q := 6) (it := flatD 16 15) (by kernel_rfl) (by kernel_rfl) (by kernel_rfl) (by kernel_rfl)).trans (by kernel_rfl)
theorem I_tree_Check_r0_nil (R : Orc) (t0 : DV) (t4 : DV) (sg : List SObj) : I_tree_Check_r0 R t0 t4 [] sg = X_tree_Check_r0 R t0 t4 .normal sg := rfl
theorem I_tree_Check_r0_cons (R : Orc) (t0 : DV) (t4 : DV) (x : DV) (ds : List DV) (sg : List SObj) : I_tree_Check_r0 R t0 t4 (x :: ds) sg = B_tree_Check_r0 R t0 t4 (I_tree_Check_r0 R t0 t4 ds) x sg := rfl
theorem eq_B_tree_Check_r0 (R : Orc) (t0 : DV) (t4 : DV) (I : List SObj → Option DV) (x : DV) (sg : List SObj) : B_tree_Check_r0 R t0 t4 I x sg =
  (og (isAggN 16 x) <|
  ob (R.p F_tree_one [(.agg [(proj 0 x), (proj 1 x), (proj 2 x), (proj 3 x), (proj 4 x), (proj 5 x), (proj 6 x), (proj 7 x), (proj 8 x), (proj 9 x), (proj 10 x), (proj 11 x), (proj 12 x), (proj 13 x), (proj 14 x), (proj 15 x)])]) fun d1 =>
  ob (dUn .not d1) fun d2 =>
  oif d2
   (ob (sgBox sg 1) fun c3 =>
   ob (c3[0]?) fun u4 =>
   X_tree_Check_r0 R t0 t4 .ret (sg.set 1 (SObj.box (c3.set 0 ((.int .i64 1), .val)))))
   (I sg)) := evP_of [] (by kernel_rfl)
theorem eq_X_tree_Check_r0_normal (R : Orc) (t0 : DV) (t4 : DV) (sg : List SObj) : X_tree_Check_r0 R t0 t4 .normal sg =
  (ob (sgBox sg 1) fun c1 =>
  ob (c1[0]?) fun u2 =>
  ret1 (ob (sgBox (sg.set 1 (SObj.box (c1.set 0 ((.int .i64 0), .val)))) 1) fun c => oneCell (sg.set 1 (SObj.box (c1.set 0 ((.int .i64 0), .val)))) c)) := konP_of [] (by kernel_rfl)
theorem eq_X_tree_Check_r0_ret (R : Orc) (t0 : DV) (t4 : DV) (sg : List SObj) : X_tree_Check_r0 R t0 t4 .ret sg =
  (ret1 (ob (sgBox sg 1) fun c => oneCell sg c)) := konP_of [] (by kernel_rfl)
theorem fix_tree_Check (x0 : DV) : (run cfg).p F_tree_Check [x0] = P_tree_Check (run cfg) x0 :=
  (fix_pure (C := cfg) (f := F_tree_Check) (fn := Try.f41) (c := code_tree_Check) (by kernel_rfl) Try.func41 (by kernel_rfl)).trans (by kernel_rfl)
theorem call_tree_Check (x0 : DV) {d : DV} (h : P_tree_Check (run cfg) x0 = some d) : (run cfg).p F_tree_Check [x0] = some d := (fix_tree_Check x0).trans h

/-! ### tree_Value -/
noncomputable def code_tree_Value : Code := Try.f43.body.getD .skip
noncomputable def P_tree_Value (R : Orc) (x0 : DV) : Option DV := evP cfg R fl_tree_Value (retP cfg.P Try.f43) [] code_tree_Value (initSt Try.f43 [(x0, .val)] [])
theorem eq_tree_Value (R : Orc) (x0 : DV) : P_tree_Value R x0 =
  (og (isAggN 16 x0) <|
  ob (R.p F_tree_Check [(.agg [(proj 0 x0), (proj 1 x0), (proj 2 x0), (proj 3 x0), (proj 4 x0), (proj 5 x0), (proj 6 x0), (proj 7 x0), (proj 8 x0), (proj 9 x0), (proj 10 x0), (proj 11 x0), (proj 12 x0), (proj 13 x0), (proj 14 x0), (proj 15 x0)])]) fun d1 =>
  ob (dBin .eql d1 (.int .i64 0)) fun d2 =>
  ogd d2
   (ob (R.p F_tree_value [(.agg [(proj 0 x0), (proj 1 x0), (proj 2 x0), (proj 3 x0), (proj 4 x0), (proj 5 x0), (proj 6 x0), (proj 7 x0), (proj 8 x0), (proj 9 x0), (proj 10 x0), (proj 11 x0), (proj 12 x0), (proj 13 x0), (proj 14 x0), (proj 15 x0)])]) fun d3 =>
   some d3)
   (some (.bool false))
   none) := evP_of [] (by kernel_rfl)
theorem fix_tree_Value (x0 : DV) : (run cfg).p F_tree_Value [x0] = P_tree_Value (run cfg) x0 :=
  (fix_pure (C := cfg) (f := F_tree_Value) (fn := Try.f43) (c := code_tree_Value) (by kernel_rfl) Try.func43 (by kernel_rfl)).trans (by kernel_rfl)
theorem call_tree_Value (x0 : DV) {d : DV} (h : P_tree_Value (run cfg) x0 = some d) : (run cfg).p F_tree_Value [x0] = some d := (fix_tree_Value x0).trans h

/-! ### r03_Leaf -/
noncomputable def code_r03_Leaf : Code := Try.f44.body.getD .skip
noncomputable def P_r03_Leaf (R : Orc) (x0 : DV) : Option DV := evP cfg R fl_r03_Leaf (retP cfg.P Try.f44) [] code_r03_Leaf (initSt Try.f44 [(x0, .val)] [])
theorem eq_r03_Leaf (R : Orc) (x0 : DV) : P_r03_Leaf R x0 =
  (og (isCell x0) <|
  some (.agg [x0, (.int .i64 0), (.list 3 [])])) := evP_of [] (by kernel_rfl)
theorem fix_r03_Leaf (x0 : DV) : (run cfg).p F_r03_Leaf [x0] = P_r03_Leaf (run cfg) x0 :=
  (fix_pure (C := cfg) (f := F_r03_Leaf) (fn := Try.f44) (c := code_r03_Leaf) (by kernel_rfl) Try.func44 (by kernel_rfl)).trans (by kernel_rfl)
theorem call_r03_Leaf (x0 : DV) {d : DV} (h : P_r03_Leaf (run cfg) x0 = some d) : (run cfg).p F_r03_Leaf [x0] = some d := (fix_r03_Leaf x0).trans h

/-! ### keep_SameAll -/
noncomputable def code_keep_SameAll : Code := Try.f47.body.getD .skip
noncomputable def P_keep_SameAll (R : Orc) (x0 : DV) (x1 : DV) : Option DV := evP cfg R fl_keep_SameAll (retP cfg.P Try.f47) [] code_keep_SameAll (initSt Try.f47 [(x0, .val), (x1, .val)] [])
noncomputable def P_keep_SameAll_4h (R : Orc) (t0 : DV) (t1 : DV) (t5 : DV) : Option DV := headP cfg R fl_keep_SameAll (retP cfg.P Try.f47) [true, true, false, true, false] code_keep_SameAll ⟨spread .undef 27 0 [(0, t0), (1, t1), (5, t5)], spread .val 27 0 [], spread none 27 0 [], []⟩
theorem eq_keep_SameAll (R : Orc) (x0 : DV) (x1 : DV) : P_keep_SameAll R x0 x1 =
  (ob (dLen x0) fun d1 =>
  ob (dLen x1) fun d2 =>
  ob (dBin .neq d1 d2) fun d3 =>
  oif d3
   (some (.bool false))
   (P_keep_SameAll_4h R x0 x1 (.int .i64 0))) := evP_of [] (by kernel_rfl)
theorem eq_keep_SameAll_4h (R : Orc) (t0 : DV) (t1 : DV) (t5 : DV) : P_keep_SameAll_4h R t0 t1 t5 =
  (ob (dLen t0) fun d1 =>
  ob (dBin .lss t5 d1) fun d2 =>
  oif d2
   (ob (dIdx 3 t0 t5) fun d3 =>
   ob (dIdx 3 t1 t5) fun d4 =>
   ob (R.p F_keep_Same [(.agg [(proj 0 d3), (proj 1 d3), (proj 2 d3)]), (.agg [(proj 0 d4), (proj 1 d4), (proj 2 d4)])]) fun d5 =>
   ob (dUn .not d5) fun d6 =>
   oif d6
    (some (.bool false))
    (ob (dBin .add t5 (.int .i64 1)) fun d7 =>
    P_keep_SameAll_4h R t0 t1 d7))
   (some (.bool true))) := headP_of [] (by kernel_rfl)
theorem fix_keep_SameAll (x0 : DV) (x1 : DV) : (run cfg).p F_keep_SameAll [x0, x1] = P_keep_SameAll (run cfg) x0 x1 :=
  (fix_pure (C := cfg) (f := F_keep_SameAll) (fn := Try.f47) (c := code_keep_SameAll) (by kernel_rfl) Try.func47 (by kernel_rfl)).trans (by kernel_rfl)
theorem call_keep_SameAll (x0 : DV) (x1 : DV) {d : DV} (h : P_keep_SameAll (run cfg) x0 x1 = some d) : (run cfg).p F_keep_SameAll [x0, x1] = some d := (fix_keep_SameAll x0 x1).trans h

/-! ### l03_Heavy -/
noncomputable def code_l03_Heavy : Code := Try.f51.body.getD .skip
noncomputable def P_l03_Heavy (R : Orc) (x0 : DV) : Option DV := evP cfg R fl_l03_Heavy (retP cfg.P Try.f51) [] code_l03_Heavy (initSt Try.f51 [(x0, .val)] [])
noncomputable def P_l03_Heavy_3h (R : Orc) (t0 : DV) (t3 : DV) (t4 : DV) : Option DV := headP cfg R fl_l03_Heavy (retP cfg.P Try.f51) [true, true, false, true, false] code_l03_Heavy ⟨spread .undef 19 0 [(0, t0), (3, t3), (4, t4)], spread .val 19 0 [], spread none 19 0 [], []⟩
theorem eq_l03_Heavy (R : Orc) (x0 : DV) : P_l03_Heavy R x0 =
  (P_l03_Heavy_3h R x0 (.int .i64 0) (.int .i64 0)) := evP_of [] (by kernel_rfl)
theorem eq_l03_Heavy_3h (R : Orc) (t0 : DV) (t3 : DV) (t4 : DV) : P_l03_Heavy_3h R t0 t3 t4 =
  (ob (dLen t0) fun d1 =>
  ob (dBin .lss t4 d1) fun d2 =>
  oif d2
   (ob (dIdx 3 t0 t4) fun d3 =>
   ob (R.p F_l03_count [(.agg [(proj 0 d3), (proj 1 d3), (proj 2 d3)]), t3]) fun d4 =>
   ob (dBin .add t4 (.int .i64 1)) fun d5 =>
   P_l03_Heavy_3h R t0 d4 d5)
   (ob (dBin .gtr t3 (.int .i64 600)) fun d6 =>
   some d6)) := headP_of [] (by kernel_rfl)
theorem fix_l03_Heavy (x0 : DV) : (run cfg).p F_l03_Heavy [x0] = P_l03_Heavy (run cfg) x0 :=
  (fix_pure (C := cfg) (f := F_l03_Heavy) (fn := Try.f51) (c := code_l03_Heavy) (by kernel_rfl) Try.func51 (by kernel_rfl)).trans (by kernel_rfl)
theorem call_l03_Heavy (x0 : DV) {d : DV} (h : P_l03_Heavy (run cfg) x0 = some d) : (run cfg).p F_l03_Heavy [x0] = some d := (fix_l03_Heavy x0).trans h

/-! ### r08_Deep -/
noncomputable def code_r08_Deep : Code := Try.f52.body.getD .skip
noncomputable def P_r08_Deep (R : Orc) (x0 : DV) (x1 : DV) : Option DV := evP cfg R fl_r08_Deep (retP cfg.P Try.f52) [] code_r08_Deep (initSt Try.f52 [(x0, .val), (x1, .val)] [])
noncomputable def P_r08_Deep_4h (R : Orc) (t1 : DV) (t5 : DV) (b2 : DV) : Option DV := headP cfg R fl_r08_Deep (retP cfg.P Try.f52) [true, true, false, true, false] code_r08_Deep ⟨spread .undef 23 0 [(1, t1), (5, t5)], spread .val 23 0 [(2, (.loc 2 0))], spread none 23 0 [(2, some [((proj 0 b2), .val), ((proj 1 b2), .val), ((proj 2 b2), .val)])], []⟩
theorem eq_r08_Deep (R : Orc) (x0 : DV) (x1 : DV) : P_r08_Deep R x0 x1 =
  (og (isAggN 3 x0) <|
  ob (dBin .leq x1 (.int .i64 0)) fun d1 =>
  oif d1
   (some (.bool true))
   (P_r08_Deep_4h R x1 (.int .i64 0) x0)) := evP_of [] (by kernel_rfl)
theorem eq_r08_Deep_4h (R : Orc) (t1 : DV) (t5 : DV) (b2 : DV) : P_r08_Deep_4h R t1 t5 b2 =
  (ob (dLen (proj 2 b2)) fun d1 =>
  ob (dBin .lss t5 d1) fun d2 =>
  oif d2
   (ob (dIdx 3 (proj 2 b2) t5) fun d3 =>
   ob (dBin .sub t1 (.int .i64 1)) fun d4 =>
   ob (R.p F_r08_Deep [(.agg [(proj 0 d3), (proj 1 d3), (proj 2 d3)]), d4]) fun d5 =>
   oif d5
    (some (.bool true))
    (ob (dBin .add t5 (.int .i64 1)) fun d6 =>
    P_r08_Deep_4h R t1 d6 b2))
   (some (.bool false))) := headP_of [] (by kernel_rfl)
theorem fix_r08_Deep (x0 : DV) (x1 : DV) : (run cfg).p F_r08_Deep [x0, x1] = P_r08_Deep (run cfg) x0 x1 :=
  (fix_pure (C := cfg) (f := F_r08_Deep) (fn := Try.f52) (c := code_r08_Deep) (by kernel_rfl) Try.func52 (by kernel_rfl)).trans (by kernel_rfl)
theorem call_r08_Deep (x0 : DV) (x1 : DV) {d : DV} (h : P_r08_Deep (run cfg) x0 x1 = some d) : (run cfg).p F_r08_Deep [x0, x1] = some d := (fix_r08_Deep x0 x1).trans h

/-! ### r03_Vars -/
noncomputable def code_r03_Vars : Code := Try.f53.body.getD .skip
noncomputable def P_r03_Vars (R : Orc) (x0 : DV) : Option DV := evP cfg R fl_r03_Vars (retP cfg.P Try.f53) [] code_r03_Vars (initSt Try.f53 [(x0, .val)] [])
theorem eq_r03_Vars (R : Orc) (x0 : DV) : P_r03_Vars R x0 =
  (og (isAggN 3 x0) <|
  ob (R.r F_r03_vars [((.agg [(proj 0 x0), (proj 1 x0), (proj 2 x0)]), .val), ((.list 1 []), .own)] []) fun q1 =>
  some (q1.1.getD 0 .undef)) := evP_of [] (by kernel_rfl)
theorem fix_r03_Vars (x0 : DV) : (run cfg).p F_r03_Vars [x0] = P_r03_Vars (run cfg) x0 :=
  (fix_pure (C := cfg) (f := F_r03_Vars) (fn := Try.f53) (c := code_r03_Vars) (by kernel_rfl) Try.func53 (by kernel_rfl)).trans (by kernel_rfl)
theorem call_r03_Vars (x0 : DV) {d : DV} (h : P_r03_Vars (run cfg) x0 = some d) : (run cfg).p F_r03_Vars [x0] = some d := (fix_r03_Vars x0).trans h

/-! ### l16_weigh -/
noncomputable def code_l16_weigh : Code := Try.f58.body.getD .skip
noncomputable def P_l16_weigh (R : Orc) (x0 : DV) (x1 : DV) : Option DV := evP cfg R fl_l16_weigh (retP cfg.P Try.f58) [] code_l16_weigh (initSt Try.f58 [(x0, .val), (x1, .val)] [])
noncomputable def P_l16_weigh_3h (R : Orc) (t1 : DV) (t5 : DV) (b2 : DV) : Option DV := headP cfg R fl_l16_weigh (retP cfg.P Try.f58) [true, true, false, true, false] code_l16_weigh ⟨spread .undef 59 0 [(1, t1), (5, t5)], spread .val 59 0 [(2, (.loc 2 0))], spread none 59 0 [(2, some [((proj 0 b2), .val), ((proj 1 b2), .val), ((proj 2 b2), .val)])], []⟩
noncomputable def P_l16_weigh_9h (R : Orc) (t1 : DV) (t6 : DV) (b2 : DV) : Option DV := headP cfg R fl_l16_weigh (retP cfg.P Try.f58) [true, true, true, false, true, false] code_l16_weigh ⟨spread .undef 59 0 [(1, t1), (6, t6)], spread .val 59 0 [(2, (.loc 2 0))], spread none 59 0 [(2, some [((proj 0 b2), .val), ((proj 1 b2), .val), ((proj 2 b2), .val)])], []⟩
theorem eq_l16_weigh (R : Orc) (x0 : DV) (x1 : DV) : P_l16_weigh R x0 x1 =
  (og (isAggN 3 x0) <|
  ob (dBin .add x1 (.int .i64 1)) fun d1 =>
  ob (dLen (proj 1 x0)) fun d2 =>
  ob (dBin .add d1 d2) fun d3 =>
  P_l16_weigh_3h R d3 (.int .i64 0) x0) := evP_of [] (by kernel_rfl)
theorem eq_l16_weigh_3h (R : Orc) (t1 : DV) (t5 : DV) (b2 : DV) : P_l16_weigh_3h R t1 t5 b2 =
  (ob (dLen (proj 0 b2)) fun d1 =>
  ob (dBin .lss t5 d1) fun d2 =>
  ogd d2
   (ob (dBin .leq t1 (.int .i64 1500)) fun d3 =>
   oif d3
    (ob (dIdx 3 (proj 0 b2) t5) fun d4 =>
    ob (R.p F_l11_Small [(.list 3 [(.agg [(proj 0 d4), (proj 1 d4), (proj 2 d4)])])]) fun d5 =>
    ob (dUn .not d5) fun d6 =>
    oif d6
     (some (.int .i64 1501))
     (ob (dIdx 3 (proj 0 b2) t5) fun d7 =>
     ob (R.p F_r03_Size [(.agg [(proj 0 d7), (proj 1 d7), (proj 2 d7)])]) fun d8 =>
     ob (dBin .add t1 d8) fun d9 =>
     ob (dBin .add t5 (.int .i64 1)) fun d10 =>
     P_l16_weigh_3h R d9 d10 b2))
    (P_l16_weigh_9h R t1 (.int .i64 0) b2))
   (P_l16_weigh_9h R t1 (.int .i64 0) b2)
   none) := headP_of [] (by kernel_rfl)
theorem eq_l16_weigh_9h (R : Orc) (t1 : DV) (t6 : DV) (b2 : DV) : P_l16_weigh_9h R t1 t6 b2 =
  (ob (dLen (proj 2 b2)) fun d1 =>
  ob (dBin .lss t6 d1) fun d2 =>
  ogd d2
   (ob (dBin .leq t1 (.int .i64 1500)) fun d3 =>
   oif d3
    (ob (dIdx 3 (proj 2 b2) t6) fun d4 =>
    ob (R.p F_l16_weigh [(.agg [(proj 0 d4), (proj 1 d4), (proj 2 d4)]), t1]) fun d5 =>
    ob (dBin .add t6 (.int .i64 1)) fun d6 =>
    P_l16_weigh_9h R d5 d6 b2)
    (some t1))
   (some t1)
   none) := headP_of [] (by kernel_rfl)
theorem fix_l16_weigh (x0 : DV) (x1 : DV) : (run cfg).p F_l16_weigh [x0, x1] = P_l16_weigh (run cfg) x0 x1 :=
  (fix_pure (C := cfg) (f := F_l16_weigh) (fn := Try.f58) (c := code_l16_weigh) (by kernel_rfl) Try.func58 (by kernel_rfl)).trans (by kernel_rfl)
theorem call_l16_weigh (x0 : DV) (x1 : DV) {d : DV} (h : P_l16_weigh (run cfg) x0 x1 = some d) : (run cfg).p F_l16_weigh [x0, x1] = some d := (fix_l16_weigh x0 x1).trans h

/-! ### keep_Types -/
noncomputable def code_keep_Types : Code := Try.f59.body.getD .skip
noncomputable def P_keep_Types (R : Orc) (x0 : DV) : Option DV := evP cfg R fl_keep_Types (retP cfg.P Try.f59) [] code_keep_Types (initSt Try.f59 [(x0, .val)] [])
noncomputable def P_keep_Types_3h (R : Orc) (t0 : DV) (t3 : DV) (t4 : DV) : Option DV := headP cfg R fl_keep_Types (retP cfg.P Try.f59) [true, true, false, true, false] code_keep_Types ⟨spread .undef 20 0 [(0, t0), (3, t3), (4, t4)], spread .val 20 0 [(3, .own)], spread none 20 0 [], []⟩
theorem eq_keep_Types (R : Orc) (x0 : DV) : P_keep_Types R x0 =
  (P_keep_Types_3h R x0 (.list 3 []) (.int .i64 0)) := evP_of [] (by kernel_rfl)
theorem eq_keep_Types_3h (R : Orc) (t0 : DV) (t3 : DV) (t4 : DV) : P_keep_Types_3h R t0 t3 t4 =
  (ob (dLen t0) fun d1 =>
  ob (dBin .lss t4 d1) fun d2 =>
  oif d2
   (ob (dIdx 3 t0 t4) fun d3 =>
   ob (R.p F_keep_Type [(.agg [(proj 0 d3), (proj 1 d3), (proj 2 d3)])]) fun d4 =>
   og (isAggN 3 d4) <|
   ob (dApp 3 t3 (.list 3 [d4])) fun d5 =>
   ob (dBin .add t4 (.int .i64 1)) fun d6 =>
   P_keep_Types_3h R t0 d5 d6)
   (some t3)) := headP_of [] (by kernel_rfl)
theorem fix_keep_Types (x0 : DV) : (run cfg).p F_keep_Types [x0] = P_keep_Types (run cfg) x0 :=
  (fix_pure (C := cfg) (f := F_keep_Types) (fn := Try.f59) (c := code_keep_Types) (by kernel_rfl) Try.func59 (by kernel_rfl)).trans (by kernel_rfl)
theorem call_keep_Types (x0 : DV) {d : DV} (h : P_keep_Types (run cfg) x0 = some d) : (run cfg).p F_keep_Types [x0] = some d := (fix_keep_Types x0).trans h

/-! ### scheme_Subst -/
noncomputable def code_scheme_Subst : Code := Try.f60.body.getD .skip
noncomputable def P_scheme_Subst (R : Orc) (x0 : DV) (x1 : DV) : Option DV := evP cfg R fl_scheme_Subst (retP cfg.P Try.f60) [] code_scheme_Subst (initSt Try.f60 [(x0, .val), (x1, .val)] [])
noncomputable def P_scheme_Subst_5h (R : Orc) (t1 : DV) (t16 : DV) (t17 : DV) (t18 : DV) (b2 : DV) (b4_0 : DV) (b4_1 : DV) (b4_2 : DV) (sg : List SObj) : Option DV := headP cfg R fl_scheme_Subst (retP cfg.P Try.f60) [true, true, true, false, true, false] code_scheme_Subst ⟨spread .undef 56 0 [(1, t1), (16, t16), (17, t17), (18, t18)], spread .val 56 0 [(2, (.loc 2 0)), (4, (.loc 4 0)), (6, (.map 0))], spread none 56 0 [(2, some [((proj 0 b2), .val), ((proj 1 b2), .val), ((proj 2 b2), .val)]), (4, some [(b4_0, .val), (b4_1, .val), (b4_2, .val)])], sg⟩
theorem eq_scheme_Subst (R : Orc) (x0 : DV) (x1 : DV) : P_scheme_Subst R x0 x1 =
  (og (isAggN 3 x0) <|
  ob (R.p F_typ_Check [(.agg [(proj 0 x0), (proj 1 x0), (proj 2 x0)])]) fun d1 =>
  ob (dBin .neq d1 (.int .i64 0)) fun d2 =>
  oif d2
   (some (.tup [(.agg [(.int .i64 0), (.int .i64 0), (.list 3 [])]), (.int .i64 1)]))
   (ob (dLen x1) fun d3 =>
   P_scheme_Subst_5h R x1 x1 d3 (.int .i64 0) x0 (.int .i64 0) (.int .i64 0) (.list 3 []) [.map false []])) := evP_of [] (by kernel_rfl)
set_option maxRecDepth 100000 in
theorem eq_scheme_Subst_5h (R : Orc) (t1 : DV) (t16 : DV) (t17 : DV) (t18 : DV) (b2 : DV) (b4_0 : DV) (b4_1 : DV) (b4_2 : DV) (sg : List SObj) : P_scheme_Subst_5h R t1 t16 t17 t18 b2 b4_0 b4_1 b4_2 sg =
  (ob (dBin .lss t18 t17) fun d1 =>
  oif d1
   (ob (dIdx 4 t16 t18) fun d2 =>
   ob (dBin .lss (proj 0 d2) (.int .i64 0)) fun d3 =>
   ogd d3
    (some (.tup [(.agg [(.int .i64 0), (.int .i64 0), (.list 3 [])]), (.int .i64 1)]))
    (ob (dBin .gtr (proj 0 d2) (.int .i64 1048576)) fun d4 =>
    ogd d4
     (some (.tup [(.agg [(.int .i64 0), (.int .i64 0), (.list 3 [])]), (.int .i64 1)]))
     (ob (R.p F_typ_Check [(.agg [(proj 1 d2), (proj 2 d2), (proj 3 d2)])]) fun d5 =>
     ob (dBin .neq d5 (.int .i64 0)) fun d6 =>
     oif d6
      (some (.tup [(.agg [(.int .i64 0), (.int .i64 0), (.list 3 [])]), (.int .i64 1)]))
      (og (isKey false (proj 0 d2) && true) <|
      ob (sgMap sg 0) fun m7 =>
      og (m7.1 == false) <|
      ob (dUn .not (.bool (mGet m7.2 (proj 0 d2)).isSome)) fun d8 =>
      oif d8
       (og (isKey false (proj 0 d2) && true && true) <|
       ob (sgMap sg 0) fun m9 =>
       og (m9.1 == false) <|
       ob (dBin .add t18 (.int .i64 1)) fun d10 =>
       P_scheme_Subst_5h R t1 t16 t17 d10 b2 b4_0 b4_1 b4_2 (sg.set 0 (.map false (mSet m9.2 (proj 0 d2) t18))))
       (ob (dBin .add t18 (.int .i64 1)) fun d11 =>
       P_scheme_Subst_5h R t1 t16 t17 d11 b2 b4_0 b4_1 b4_2 sg)))
     none)
    none)
   (ob (R.r F_scheme_put [((.agg [(proj 0 b2), (proj 1 b2), (proj 2 b2)]), .val), (t1, .val), (.undef, (.map 0))] sg) fun q12 =>
   og (isAggN 3 (q12.1.getD 0 .undef)) <|
   some (.tup [(.agg [(proj 0 (q12.1.getD 0 .undef)), (proj 1 (q12.1.getD 0 .undef)), (proj 2 (q12.1.getD 0 .undef))]), (.int .i64 0)]))) := headP_of [] (by kernel_rfl)
theorem fix_scheme_Subst (x0 : DV) (x1 : DV) : (run cfg).p F_scheme_Subst [x0, x1] = P_scheme_Subst (run cfg) x0 x1 :=
  (fix_pure (C := cfg) (f := F_scheme_Subst) (fn := Try.f60) (c := code_scheme_Subst) (by kernel_rfl) Try.func60 (by kernel_rfl)).trans (by kernel_rfl)
theorem call_scheme_Subst (x0 : DV) (x1 : DV) {d : DV} (h : P_scheme_Subst (run cfg) x0 x1 = some d) : (run cfg).p F_scheme_Subst [x0, x1] = some d := (fix_scheme_Subst x0 x1).trans h

/-! ### keep_Ints -/
noncomputable def code_keep_Ints : Code := Try.f65.body.getD .skip
noncomputable def P_keep_Ints (R : Orc) (x0 : DV) (x1 : DV) : Option DV := evP cfg R fl_keep_Ints (retP cfg.P Try.f65) [] code_keep_Ints (initSt Try.f65 [(x0, .val), (x1, .val)] [])
noncomputable def P_keep_Ints_4h (R : Orc) (t0 : DV) (t1 : DV) (t5 : DV) : Option DV := headP cfg R fl_keep_Ints (retP cfg.P Try.f65) [true, true, false, true, false] code_keep_Ints ⟨spread .undef 26 0 [(0, t0), (1, t1), (5, t5)], spread .val 26 0 [], spread none 26 0 [], []⟩
theorem eq_keep_Ints (R : Orc) (x0 : DV) (x1 : DV) : P_keep_Ints R x0 x1 =
  (ob (dLen x0) fun d1 =>
  ob (dLen x1) fun d2 =>
  ob (dBin .neq d1 d2) fun d3 =>
  oif d3
   (some (.bool false))
   (P_keep_Ints_4h R x0 x1 (.int .i64 0))) := evP_of [] (by kernel_rfl)
theorem eq_keep_Ints_4h (R : Orc) (t0 : DV) (t1 : DV) (t5 : DV) : P_keep_Ints_4h R t0 t1 t5 =
  (ob (dLen t0) fun d1 =>
  ob (dBin .lss t5 d1) fun d2 =>
  oif d2
   (ob (dIdx 1 t0 t5) fun d3 =>
   og (isLeaf d3) <|
   ob (dIdx 1 t1 t5) fun d4 =>
   og (isLeaf d4) <|
   ob (dBin .neq d3 d4) fun d5 =>
   oif d5
    (some (.bool false))
    (ob (dBin .add t5 (.int .i64 1)) fun d6 =>
    P_keep_Ints_4h R t0 t1 d6))
   (some (.bool true))) := headP_of [] (by kernel_rfl)
theorem fix_keep_Ints (x0 : DV) (x1 : DV) : (run cfg).p F_keep_Ints [x0, x1] = P_keep_Ints (run cfg) x0 x1 :=
  (fix_pure (C := cfg) (f := F_keep_Ints) (fn := Try.f65) (c := code_keep_Ints) (by kernel_rfl) Try.func65 (by kernel_rfl)).trans (by kernel_rfl)
theorem call_keep_Ints (x0 : DV) (x1 : DV) {d : DV} (h : P_keep_Ints (run cfg) x0 x1 = some d) : (run cfg).p F_keep_Ints [x0, x1] = some d := (fix_keep_Ints x0 x1).trans h

/-! ### elab_stands -/
noncomputable def code_elab_stands : Code := Try.f68.body.getD .skip
noncomputable def P_elab_stands (R : Orc) (x0 : DV) (x1 : Nat) (sg : List SObj) : Option (List DV × List SObj) := evP cfg R fl_elab_stands (retR cfg.P Try.f68 sig_elab_stands) [] code_elab_stands (initSt Try.f68 [(x0, .val), (.undef, (.map x1))] sg)
noncomputable def P_elab_stands_2h (R : Orc) (t1i : Nat) (t9 : DV) (t10 : DV) (t11 : DV) (b2 : DV) (sg : List SObj) : Option (List DV × List SObj) := headP cfg R fl_elab_stands (retR cfg.P Try.f68 sig_elab_stands) [true, false, true, false] code_elab_stands ⟨spread .undef 31 0 [(9, t9), (10, t10), (11, t11)], spread .val 31 0 [(1, (.map t1i)), (2, (.loc 2 0))], spread none 31 0 [(2, some [((proj 0 b2), .val), ((proj 1 b2), .val), ((proj 2 b2), .val)])], sg⟩
noncomputable def P_elab_stands_7h (R : Orc) (t1i : Nat) (t21 : DV) (t22 : DV) (t23 : DV) (sg : List SObj) : Option (List DV × List SObj) := headP cfg R fl_elab_stands (retR cfg.P Try.f68 sig_elab_stands) [true, true, true, false] code_elab_stands ⟨spread .undef 31 0 [(21, t21), (22, t22), (23, t23)], spread .val 31 0 [(1, (.map t1i))], spread none 31 0 [], sg⟩
theorem eq_elab_stands (R : Orc) (x0 : DV) (x1 : Nat) (sg : List SObj) : P_elab_stands R x0 x1 sg =
  (og (isAggN 3 x0) <|
  ob (dLen (proj 1 x0)) fun d1 =>
  P_elab_stands_2h R x1 (proj 1 x0) d1 (.int .i64 0) x0 sg) := evP_of [] (by kernel_rfl)
theorem eq_elab_stands_2h (R : Orc) (t1i : Nat) (t9 : DV) (t10 : DV) (t11 : DV) (b2 : DV) (sg : List SObj) : P_elab_stands_2h R t1i t9 t10 t11 b2 sg =
  (ob (dBin .lss t11 t10) fun d1 =>
  oif d1
   (ob (dIdx 1 t9 t11) fun d2 =>
   og (isLeaf d2) <|
   og (isKey false d2 && true) <|
   ob (sgMap sg t1i) fun m3 =>
   og (m3.1 == false) <|
   ob (dBin .add ((mGet m3.2 d2).getD (.int .i64 0)) (.int .i64 1)) fun d4 =>
   og (isKey false d2 && true && true) <|
   ob (sgMap sg t1i) fun m5 =>
   og (m5.1 == false) <|
   ob (dBin .add t11 (.int .i64 1)) fun d6 =>
   P_elab_stands_2h R t1i t9 t10 d6 b2 (sg.set t1i (.map false (mSet m5.2 d2 d4))))
   (ob (dLen (proj 2 b2)) fun d7 =>
   P_elab_stands_7h R t1i (proj 2 b2) d7 (.int .i64 0) sg)) := headP_of [] (by kernel_rfl)
theorem eq_elab_stands_7h (R : Orc) (t1i : Nat) (t21 : DV) (t22 : DV) (t23 : DV) (sg : List SObj) : P_elab_stands_7h R t1i t21 t22 t23 sg =
  (ob (dBin .lss t23 t22) fun d1 =>
  oif d1
   (ob (dIdx 3 t21 t23) fun d2 =>
   ob (R.r F_elab_stands [((.agg [(proj 0 d2), (proj 1 d2), (proj 2 d2)]), .val), (.undef, (.map t1i))] sg) fun q3 =>
   ob (dBin .add t23 (.int .i64 1)) fun d4 =>
   P_elab_stands_7h R t1i t21 t22 d4 q3.2)
   (some ([], sg))) := headP_of [] (by kernel_rfl)
theorem fix_elab_stands (x0 : DV) (x1 : Nat) (sg : List SObj) : (run cfg).r F_elab_stands [(x0, .val), (.undef, (.map x1))] sg = P_elab_stands (run cfg) x0 x1 sg :=
  (fix_raw (C := cfg) (f := F_elab_stands) (s := sig_elab_stands) (fn := Try.f68) (c := code_elab_stands) (by kernel_rfl) Try.func68 (by kernel_rfl)).trans (by kernel_rfl)
theorem call_elab_stands (x0 : DV) (x1 : Nat) (sg : List SObj) {q : List DV × List SObj} (h : P_elab_stands (run cfg) x0 x1 sg = some q) : (run cfg).r F_elab_stands [(x0, .val), (.undef, (.map x1))] sg = some q := (fix_elab_stands x0 x1 sg).trans h

/-! ### elab_put -/
noncomputable def code_elab_put : Code := Try.f69.body.getD .skip
noncomputable def P_elab_put (R : Orc) (x0 : DV) (x1 : Nat) (sg : List SObj) : Option (List DV × List SObj) := evP cfg R fl_elab_put (retR cfg.P Try.f69 sig_elab_put) [] code_elab_put (initSt Try.f69 [(x0, .val), (.undef, (.map x1))] sg)
noncomputable def P_elab_put_3h (R : Orc) (t1i : Nat) (t14 : DV) (t15 : DV) (t16 : DV) (b2 : DV) (b4_0 : DV) (b4_1 : DV) (b4_2 : DV) (b5_0 : DV) (b5_1 : DV) (b5_2 : DV) (sg : List SObj) : Option (List DV × List SObj) := headP cfg R fl_elab_put (retR cfg.P Try.f69 sig_elab_put) [true, true, false, true, false] code_elab_put ⟨spread .undef 46 0 [(14, t14), (15, t15), (16, t16)], spread .val 46 0 [(1, (.map t1i)), (2, (.loc 2 0)), (4, (.loc 4 0)), (5, (.loc 5 0))], spread none 46 0 [(2, some [((proj 0 b2), .val), ((proj 1 b2), .val), ((proj 2 b2), .val)]), (4, some [(b4_0, .val), (b4_1, .val), (b4_2, .val)]), (5, some [(b5_0, .own), (b5_1, .val), (b5_2, .own)])], sg⟩
noncomputable def P_elab_put_8h (R : Orc) (t1i : Nat) (t30 : DV) (t31 : DV) (t32 : DV) (b4_0 : DV) (b4_1 : DV) (b4_2 : DV) (b5_0 : DV) (b5_1 : DV) (b5_2 : DV) (sg : List SObj) : Option (List DV × List SObj) := headP cfg R fl_elab_put (retR cfg.P Try.f69 sig_elab_put) [true, true, true, false, true, false] code_elab_put ⟨spread .undef 46 0 [(30, t30), (31, t31), (32, t32)], spread .val 46 0 [(1, (.map t1i)), (4, (.loc 4 0)), (5, (.loc 5 0))], spread none 46 0 [(4, some [(b4_0, .val), (b4_1, .val), (b4_2, .val)]), (5, some [(b5_0, .own), (b5_1, .val), (b5_2, .own)])], sg⟩
theorem eq_elab_put (R : Orc) (x0 : DV) (x1 : Nat) (sg : List SObj) : P_elab_put R x0 x1 sg =
  (og (isAggN 3 x0) <|
  og (isCell (proj 1 x0)) <|
  ob (dLen (proj 0 x0)) fun d1 =>
  P_elab_put_3h R x1 (proj 0 x0) d1 (.int .i64 0) x0 (.list 3 []) (.list 1 []) (.list 3 []) (.list 3 []) (proj 1 x0) (.list 3 []) sg) := evP_of [] (by kernel_rfl)
theorem eq_elab_put_3h (R : Orc) (t1i : Nat) (t14 : DV) (t15 : DV) (t16 : DV) (b2 : DV) (b4_0 : DV) (b4_1 : DV) (b4_2 : DV) (b5_0 : DV) (b5_1 : DV) (b5_2 : DV) (sg : List SObj) : P_elab_put_3h R t1i t14 t15 t16 b2 b4_0 b4_1 b4_2 b5_0 b5_1 b5_2 sg =
  (ob (dBin .lss t16 t15) fun d1 =>
  oif d1
   (ob (dIdx 3 t14 t16) fun d2 =>
   ob (R.r F_elab_plain [((.agg [(proj 0 d2), (proj 1 d2), (proj 2 d2)]), .val), (.undef, (.map t1i))] sg) fun q3 =>
   og (isAggN 3 (q3.1.getD 0 .undef)) <|
   ob (dApp 3 b5_0 (.list 3 [(q3.1.getD 0 .undef)])) fun d4 =>
   ob (dBin .add t16 (.int .i64 1)) fun d5 =>
   P_elab_put_3h R t1i t14 t15 d5 b2 b4_0 b4_1 b4_2 d4 b5_1 b5_2 q3.2)
   (ob (dLen (proj 2 b2)) fun d6 =>
   P_elab_put_8h R t1i (proj 2 b2) d6 (.int .i64 0) b4_0 b4_1 b4_2 b5_0 b5_1 b5_2 sg)) := headP_of [] (by kernel_rfl)
theorem eq_elab_put_8h (R : Orc) (t1i : Nat) (t30 : DV) (t31 : DV) (t32 : DV) (b4_0 : DV) (b4_1 : DV) (b4_2 : DV) (b5_0 : DV) (b5_1 : DV) (b5_2 : DV) (sg : List SObj) : P_elab_put_8h R t1i t30 t31 t32 b4_0 b4_1 b4_2 b5_0 b5_1 b5_2 sg =
  (ob (dBin .lss t32 t31) fun d1 =>
  oif d1
   (ob (dIdx 3 t30 t32) fun d2 =>
   ob (R.r F_elab_put [((.agg [(proj 0 d2), (proj 1 d2), (proj 2 d2)]), .val), (.undef, (.map t1i))] sg) fun q3 =>
   og (isAggN 3 (q3.1.getD 0 .undef)) <|
   ob (dApp 3 b5_2 (.list 3 [(q3.1.getD 0 .undef)])) fun d4 =>
   ob (dBin .add t32 (.int .i64 1)) fun d5 =>
   P_elab_put_8h R t1i t30 t31 d5 b4_0 b4_1 b4_2 b5_0 b5_1 d4 q3.2)
   (some ([(.agg [b5_0, b5_1, b5_2])], sg))) := headP_of [] (by kernel_rfl)
theorem fix_elab_put (x0 : DV) (x1 : Nat) (sg : List SObj) : (run cfg).r F_elab_put [(x0, .val), (.undef, (.map x1))] sg = P_elab_put (run cfg) x0 x1 sg :=
  (fix_raw (C := cfg) (f := F_elab_put) (s := sig_elab_put) (fn := Try.f69) (c := code_elab_put) (by kernel_rfl) Try.func69 (by kernel_rfl)).trans (by kernel_rfl)
theorem call_elab_put (x0 : DV) (x1 : Nat) (sg : List SObj) {q : List DV × List SObj} (h : P_elab_put (run cfg) x0 x1 sg = some q) : (run cfg).r F_elab_put [(x0, .val), (.undef, (.map x1))] sg = some q := (fix_elab_put x0 x1 sg).trans h

end Go.Su
