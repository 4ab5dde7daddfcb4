/-
  Parts of the proof, merged: SuCont, SuCont2, SuCont3, SuAt, SuTy, SuPl, SuJoin, SuRd, SuM1, SuIt, SuM2, SuM3, SuM4, SuM5, SuRd2, SuFix, SuKeys, SuClone, SuWk, SuWk2, Cfg, It, J0, G1.
-/
import Derived.Below
import Derived.ChangeArms
import Derived.ChangeShapes
import Derived.DataReads
import Derived.IntWalk
import Derived.KernelRfl
import Derived.Lib.SliceRun
import Derived.LoopNIn
import Derived.Maps.RangeRun
import Derived.OwnWalkIn
import Derived.RangeFuncBound
import Derived.RangeFuncKeeps
import Derived.RangeFuncLeaves
import Derived.Shelf.Abstract
import Derived.Sort.KeysCollected
import Derived.Sort.OwnSorted
import Derived.TacticsInMore
import Derived.Test.YtcfhnpbkdclodaaProg
import Derived.Test.YtcfhnpbkdclodaaRows
import Derived.WalkKit
import Derived.Test.YtcfhnpbkdclodaaP3
set_option linter.unusedVariables false
set_option linter.unusedSimpArgs false
/-
  THE DATA MACHINE, part 28: more is known of the functions that are called: more comes out.
-/
namespace Go.Su

structure OLe (R R' : Orc) : Prop where
  p : ∀ f ds d, R.p f ds = some d → R'.p f ds = some d
  r : ∀ f rs sg q, R.r f rs sg = some q → R'.r f rs sg = some q

theorem OLe.refl (R : Orc) : OLe R R := ⟨fun _ _ _ h => h, fun _ _ _ _ h => h⟩
theorem OLe.trans {R S T : Orc} (a : OLe R S) (b : OLe S T) : OLe R T := ⟨fun f ds d h => b.p f ds d (a.p f ds d h), fun f rs sg q h => b.r f rs sg q (a.r f rs sg q h)⟩

section
variable {C : Cfg} {R : Orc} {fl : Flags} {o : Oper} {st s : St}

/-- An operation asks for one call at most. -/
theorem evOp_asks (H : evOp C R fl o st some = some s) : (∀ R' : Orc, evOp C R' fl o st some = some s) ∨
    (∃ f ds d, R.p f ds = some d ∧ ∀ R' : Orc, R'.p f ds = some d → evOp C R' fl o st some = some s) ∨
    (∃ f rs sg q, R.r f rs sg = some q ∧ ∀ R' : Orc, R'.r f rs sg = some q → evOp C R' fl o st some = some s) := by
  have H0 := H
  unfold evOp at H
  split at H
  case h_24 c hop =>
    unfold evCall at H
    split at H
    · rename_i b hb
      refine .inl fun R' => ?_
      rw [← H0]
      simp only [evOp, hop, evCall, hb]
    · rename_i y hy
      obtain ⟨r, h1, H⟩ := ob_some H
      obtain ⟨rs, h2, H⟩ := ob_some H
      split at H
      · rename_i g caps hm
        have hev : ∀ R' : Orc, evOp C R' fl o st some = callF C R' o g c.args.toList (rs ++ caps.map fun m => (.undef, .ptr m.1 m.2)) st some := by
          intro R'
          simp only [evOp, hop, evCall, hy, h1, h2, ob_mk, hm]
        generalize rs ++ caps.map (fun m => ((.undef, .ptr m.1 m.2) : DV × Meta)) = rs' at H hev
        by_cases hcl : C.clone g = true
        · refine .inl fun R' => ?_
          rw [← H0, hev, hev]
          simp only [callF, if_pos hcl]
        · unfold callF at H
          rw [if_neg hcl] at H
          cases hmk : C.mki g with
          | some g' =>
            refine .inl fun R' => ?_
            rw [← H0, hev, hev]
            simp only [callF, if_neg hcl, hmk]
          | none =>
          rw [hmk] at H
          simp only at H
          split at H
          · rename_i hs
            obtain ⟨h3, H⟩ := og_some H
            obtain ⟨d, h4, H⟩ := ob_some H
            refine .inr (.inl ⟨g, _, d, h4, fun R' h => ?_⟩)
            rw [hev]
            simp only [callF, if_neg hcl, hmk, hs, h3, og_mk, h, ob_mk]
            exact H
          · rename_i sg hs
            obtain ⟨h3, H⟩ := og_some H
            obtain ⟨q, h4, H⟩ := ob_some H
            refine .inr (.inr ⟨g, _, _, q, h4, fun R' h => ?_⟩)
            rw [hev]
            simp only [callF, if_neg hcl, hmk, hs, h3, og_mk, h, ob_mk]
            exact H
      · simp at H
    · simp at H
  all_goals first
    | (simp at H; done)
    | (rename_i hop
       refine .inl fun R' => ?_
       rw [← H0]
       simp only [evOp, hop])

theorem evOp_mono {R' : Orc} (hR : OLe R R') (H : evOp C R fl o st some = some s) : evOp C R' fl o st some = some s := by
  rcases evOp_asks H with h | ⟨f, ds, d, h1, h2⟩ | ⟨f, rs, sg, q, h1, h2⟩
  · exact h R'
  · exact h2 R' (hR.p _ _ _ h1)
  · exact h2 R' (hR.r _ _ _ _ h1)

/-- Step by step known. -/
structure Lim (Rs : Nat → Orc) (R : Orc) : Prop where
  up : ∀ n, OLe (Rs n) (Rs (n + 1))
  p : ∀ f ds d, R.p f ds = some d → ∃ n, (Rs n).p f ds = some d
  r : ∀ f rs sg q, R.r f rs sg = some q → ∃ n, (Rs n).r f rs sg = some q

theorem Lim.le {Rs : Nat → Orc} (L : Lim Rs R) {n m : Nat} (h : n ≤ m) : OLe (Rs n) (Rs m) := by
  induction m with
  | zero => rw [Nat.le_zero.1 h]; exact OLe.refl _
  | succ m ih =>
    rcases Nat.lt_or_ge m n with h1 | h1
    · rw [show n = m + 1 by omega]; exact OLe.refl _
    · exact (ih h1).trans (L.up m)

theorem evOp_lim {Rs : Nat → Orc} (L : Lim Rs R) (H : evOp C R fl o st some = some s) : ∃ n, evOp C (Rs n) fl o st some = some s := by
  rcases evOp_asks H with h | ⟨f, ds, d, h1, h2⟩ | ⟨f, rs, sg, q, h1, h2⟩
  · exact ⟨0, h _⟩
  · obtain ⟨n, hn⟩ := L.p _ _ _ h1; exact ⟨n, h2 _ hn⟩
  · obtain ⟨n, hn⟩ := L.r _ _ _ _ h1; exact ⟨n, h2 _ hn⟩

variable {ops : List Oper}

theorem RunG.mono {R' : Orc} {s1 : St} (hR : OLe R R') (H : RunG C R fl ops o s s1) : RunG C R' fl ops o s s1 := by
  unfold RunG at H ⊢
  split at H
  · exact evOp_mono hR H
  · obtain ⟨t, h1, h2, h3⟩ := H
    exact ⟨t, h1, h2, h3.imp (fun h => ⟨h.1, evOp_mono hR h.2⟩) id⟩

theorem RunG.lim {Rs : Nat → Orc} {s1 : St} (L : Lim Rs R) (H : RunG C R fl ops o s s1) : ∃ n, RunG C (Rs n) fl ops o s s1 := by
  unfold RunG at H ⊢
  split at H
  · exact evOp_lim L H
  · obtain ⟨t, h1, h2, h3⟩ := H
    rcases h3 with ⟨h3, h4⟩ | h3
    · obtain ⟨n, hn⟩ := evOp_lim L h4
      exact ⟨n, t, h1, h2, .inl ⟨h3, hn⟩⟩
    · exact ⟨0, t, h1, h2, .inr h3⟩

end
end Go.Su

/-
  THE DATA MACHINE, part 29: regions and code, when more is known.
-/
namespace Go.Su

section
variable {X : Type} {C : Cfg} {R : Orc} {fl : Flags} {o : Oper} {st s : St} {ops : List Oper}

theorem evOp_to {s1 : St} (H : evOp C R fl o st some = some s1) (k : St → Option X) : evOp C R fl o st k = k s1 := by
  obtain ⟨s, h1, h2⟩ := evOp_nat H
  simp only [Option.some.injEq] at h1
  subst h1
  exact h2 X k

theorem evOps_to {os : List Oper} {s1 : St} (H : RunG C R fl ops o st s1) (k : St → Option X) : evOps C R fl ops (o :: os) st k = evOps C R fl ops os s1 k := by
  simp only [evOps, forceSt_eq]
  unfold RunG at H
  split at H
  · rename_i hg
    simp only [hg]
    exact evOp_to H _
  · rename_i g want hg
    obtain ⟨t, h1, h2, h3⟩ := H
    simp only [hg, h1, ob_mk, h2, og_mk]
    rcases h3 with ⟨h3, h4⟩ | ⟨h3, h4⟩
    · rw [h3]
      cases want <;> simp only [ogd, if_true, Bool.false_eq_true, if_false] <;> rw [know_self h3 (by simp)] <;> exact evOp_to h4 _
    · subst h4
      cases want <;> simp only [Bool.not_true, Bool.not_false] at h3 <;> rcases h3 with h3 | h3 <;> simp only [h3, ogd, if_true, Bool.false_eq_true, if_false] <;> rw [know_self h3 (by simp)]

theorem evDraw_to {bf : List (List Nat)} {os : List Oper} {i : Nat} {acc : List (Nat × Fp)} {s1 : St} (H : RunG C R fl ops o st s1) (k : St → Option X) :
    evDraw C R fl ops bf (o :: os) i acc st k = og (mayCome bf i acc ((fpG C fl ops o st).locs st s1)) (evDraw C R fl ops bf os (i + 1) ((i, (fpG C fl ops o st).locs st s1) :: acc) s1 k) := by
  have H0 := H
  simp only [evDraw, forceSt_eq, forceFp_eq]
  unfold RunG at H
  split at H
  · rename_i hg
    simp only [hg]
    rw [evOp_to H, fpG_none hg]
    rfl
  · rename_i g want hg
    obtain ⟨t, h1, h2, h3⟩ := H
    rw [fpG_some hg h1]
    simp only [hg, h1, ob_mk, h2, og_mk]
    rcases h3 with ⟨h3, h4⟩ | ⟨h3, h4⟩
    · rw [if_pos (isB_iff.2 h3)]
      rw [h3]
      cases want <;> simp only [ogd, if_true, Bool.false_eq_true, if_false, drawRun] <;> rw [know_self h3 (by simp), evOp_to h4] <;> rfl
    · have hB : ¬ (isB want (st.get t).1 = true) := by
        rw [isB_iff]
        rcases h3 with h | h <;> rw [h] <;> cases want <;> simp
      rw [if_neg hB]
      subst h4
      cases want <;> simp only [Bool.not_true, Bool.not_false] at h3 <;> rcases h3 with h3 | h3 <;> simp only [h3, ogd, if_true, Bool.false_eq_true, if_false, drawSkip] <;> rw [know_self h3 (by simp)] <;> rfl

end
end Go.Su

/-
  THE DATA MACHINE, part 30: the code's answers are limits; the program's functions are what one step makes of them.
-/
namespace Go.Su

section
variable {X : Type} {C : Cfg} {fl : Flags}

/-- From some step on. -/
def Evt (p : Nat → Prop) : Prop := ∃ n, ∀ m, n ≤ m → p m

theorem Evt.mono {p q : Nat → Prop} (h : Evt p) (f : ∀ m, p m → q m) : Evt q := h.imp fun _ h m hm => f m (h m hm)
theorem Evt.and {p q : Nat → Prop} (h : Evt p) (h' : Evt q) : Evt fun m => p m ∧ q m := by
  obtain ⟨n, hn⟩ := h
  obtain ⟨k, hk⟩ := h'
  exact ⟨n + k, fun m hm => ⟨hn m (by omega), hk m (by omega)⟩⟩
theorem Evt.all {p : Nat → Prop} (h : ∀ m, p m) : Evt p := ⟨0, fun m _ => h m⟩

theorem evOps_lim {R : Orc} {Rs : Nat → Orc} (L : Lim Rs R) {ops : List Oper} {k : St → Option X} {ks : Nat → St → Option X} (hk : ∀ st x, k st = some x → Evt fun m => ks m st = some x) :
    ∀ {os : List Oper} {st : St} {x : X}, evOps C R fl ops os st k = some x → Evt fun m => evOps C (Rs m) fl ops os st (ks m) = some x
  | [], st, x, H => by
    simp only [evOps] at H ⊢
    exact hk st x H
  | o :: os, st, x, H => by
    obtain ⟨s1, h1, h2⟩ := evOps_step H
    obtain ⟨n, hn⟩ := h1.lim L
    refine (Evt.and ⟨n, fun m hm => hn.mono (L.le hm)⟩ (evOps_lim L hk h2)).mono fun m h => ?_
    rw [evOps_to h.1]
    exact h.2

theorem evDraw_lim {R : Orc} {Rs : Nat → Orc} (L : Lim Rs R) {ops : List Oper} {bf : List (List Nat)} {k : St → Option X} {ks : Nat → St → Option X} (hk : ∀ st x, k st = some x → Evt fun m => ks m st = some x) :
    ∀ {os : List Oper} {i : Nat} {acc : List (Nat × Fp)} {st : St} {x : X}, evDraw C R fl ops bf os i acc st k = some x → Evt fun m => evDraw C (Rs m) fl ops bf os i acc st (ks m) = some x
  | [], i, acc, st, x, H => by
    simp only [evDraw] at H ⊢
    exact hk st x H
  | o :: os, i, acc, st, x, H => by
    obtain ⟨s1, h1, h2, h3⟩ := evDraw_step H
    obtain ⟨n, hn⟩ := h1.lim L
    refine (Evt.and ⟨n, fun m hm => hn.mono (L.le hm)⟩ (evDraw_lim L hk h3)).mono fun m h => ?_
    rw [evDraw_to h.1, h2]
    exact h.2

theorem closeAt_nat {X : Type} {fl : Flags} {id : Nat} {st : St} {k : St → Option X} {x : X} (H : closeAt fl id st k = some x) : ∃ s, k s = some x ∧ ∀ (Y : Type) (k' : St → Option Y), closeAt fl id st k' = k' s := by
  unfold closeAt at H
  split at H
  · rename_i e he
    unfold closeSt at H
    split at H
    · rename_i i sz len hm
      obtain ⟨q, h1, H⟩ := ob_some H
      obtain ⟨d, h2, H⟩ := ob_some H
      exact ⟨_, H, fun Y k' => by simp only [closeAt, he, closeSt, hm, h1, h2, ob_mk]⟩
    · rename_i b off hm
      obtain ⟨cs, h1, H⟩ := ob_some H
      obtain ⟨a, h2, H⟩ := ob_some H
      obtain ⟨q, h3, H⟩ := ob_some H
      obtain ⟨d, h4, H⟩ := ob_some H
      exact ⟨_, H, fun Y k' => by simp only [closeAt, he, closeSt, hm, h1, h2, h3, h4, ob_mk]⟩
    · cases H
  · rename_i he
    exact ⟨st, H, fun Y k' => by simp only [closeAt, he]⟩

theorem closeAt_lim {X : Type} {fl : Flags} {id : Nat} {k : St → Option X} {ks : Nat → St → Option X} (hk : ∀ st x, k st = some x → Evt fun m => ks m st = some x) (st : St) (x : X) (H : closeAt fl id st k = some x) : Evt fun m => closeAt fl id st (ks m) = some x := by
  obtain ⟨s, h1, h2⟩ := closeAt_nat H
  exact (hk s x h1).mono fun m h => by rw [h2]; exact h

theorem evK_lim : ∀ (c : Code) {R : Orc} {Rs : Nat → Orc} {K : Out → St → Option X} {Ks : Nat → Out → St → Option X} {st : St} {x : X}, Lim Rs R →
    (∀ o st x, K o st = some x → Evt fun m => Ks m o st = some x) → evK C R fl c K st = some x → Evt fun m => evK C (Rs m) fl c (Ks m) st = some x := by
  intro c
  induction c with
  | skip =>
    intro R Rs K Ks st x L hK H
    simp only [evK] at H ⊢
    exact hK _ _ _ H
  | region id ops d =>
    intro R Rs K Ks st x L hK H
    cases d
    · simp only [evK] at H ⊢
      exact evOps_lim L (closeAt_lim (hK .normal)) H
    · simp only [evK, forceNss_eq] at H ⊢
      obtain ⟨h1, H⟩ := og_some H
      simp only [h1, og_mk]
      exact evDraw_lim L (closeAt_lim (hK .normal)) H
  | seq c d ihc ihd =>
    intro R Rs K Ks st x L hK H
    simp only [evK] at H ⊢
    refine ihc L ?_ H
    intro o s y h
    cases o with
    | normal => exact ihd L hK h
    | exit i => exact hK _ _ _ h
    | ret => exact hK _ _ _ h
  | cond y c d ihc ihd =>
    intro R Rs K Ks st x L hK H
    simp only [evK, evCond] at H ⊢
    obtain ⟨r, h1, H⟩ := ob_some H
    obtain ⟨h2, H⟩ := og_some H
    simp only [h1, ob_mk, h2, og_mk]
    cases y with
    | tmp t =>
      simp only at H ⊢
      rcases oif_some H with ⟨h3, h4⟩ | ⟨h3, h4⟩ <;> rw [h3]
      · exact ihc L hK h4
      · exact ihd L hK h4
    | _ =>
      rcases oif_some H with ⟨h3, h4⟩ | ⟨h3, h4⟩ <;> rw [h3]
      · exact ihc L hK h4
      · exact ihd L hK h4
  | block id c ih =>
    intro R Rs K Ks st x L hK H
    simp only [evK] at H ⊢
    refine ih L ?_ H
    intro o s y h
    cases o with
    | normal => exact hK _ _ _ h
    | exit i =>
      simp only at h ⊢
      by_cases hi : i = id
      · simp only [if_pos hi] at h ⊢; exact hK _ _ _ h
      · simp only [if_neg hi] at h ⊢; exact hK _ _ _ h
    | ret => exact hK _ _ _ h
  | loop c ih =>
    intro R Rs K Ks st x L hK H
    simp only [evK] at H ⊢
    obtain ⟨n, H9⟩ := loopL_some H
    clear H
    have up : ∀ m, Evt (fun m' => iter (fun J st => evK C (Rs m) fl c (fun o st => match o with
        | .normal => J (clean fl c st)
        | .exit i => Ks m (.exit i) st
        | .ret => Ks m .ret st) st) m' (clean fl c st) = some x) → loopL (fun J st => evK C (Rs m) fl c (fun o st => match o with
        | .normal => J (clean fl c st)
        | .exit i => Ks m (.exit i) st
        | .ret => Ks m .ret st) st) (clean fl c st) = some x := by
      intro m h
      generalize clean fl c st = st9 at h ⊢
      have mono : ∀ k s y, iter (fun J st => evK C (Rs m) fl c (fun o st => match o with
        | .normal => J (clean fl c st)
        | .exit i => Ks m (.exit i) st
        | .ret => Ks m .ret st) st) k s = some y → iter (fun J st => evK C (Rs m) fl c (fun o st => match o with
        | .normal => J (clean fl c st)
        | .exit i => Ks m (.exit i) st
        | .ret => Ks m .ret st) st) (k + 1) s = some y := by
        intro k
        induction k with
        | zero => intro s y h; simp [iter] at h
        | succ k ihk =>
          intro s y h
          rw [iter] at h ⊢
          have := ih (R := Rs m) (Rs := fun _ => Rs m) (Ks := fun _ o st => match o with
            | .normal => iter (fun J st => evK C (Rs m) fl c (fun o st => match o with
        | .normal => J (clean fl c st)
        | .exit i => Ks m (.exit i) st
        | .ret => Ks m .ret st) st) (k + 1) (clean fl c st)
            | .exit i => Ks m (.exit i) st
            | .ret => Ks m .ret st) ⟨fun _ => OLe.refl _, fun _ _ _ h => ⟨0, h⟩, fun _ _ _ _ h => ⟨0, h⟩⟩ ?_ h
          · obtain ⟨n, hn⟩ := this
            exact hn n (Nat.le_refl _)
          · intro o s y h
            refine Evt.all fun _ => ?_
            cases o with
            | normal => exact ihk _ _ h
            | exit i => exact h
            | ret => exact h
      obtain ⟨k, hk⟩ := h
      unfold loopL
      have he : ∃ x n, iter (fun J st => evK C (Rs m) fl c (fun o st => match o with
        | .normal => J (clean fl c st)
        | .exit i => Ks m (.exit i) st
        | .ret => Ks m .ret st) st) n st9 = some x := ⟨x, k, hk k (Nat.le_refl _)⟩
      rw [dif_pos he]
      obtain ⟨j, hj⟩ := he.choose_spec
      have le : ∀ a b s y, a ≤ b → iter (fun J st => evK C (Rs m) fl c (fun o st => match o with
        | .normal => J (clean fl c st)
        | .exit i => Ks m (.exit i) st
        | .ret => Ks m .ret st) st) a s = some y → iter (fun J st => evK C (Rs m) fl c (fun o st => match o with
        | .normal => J (clean fl c st)
        | .exit i => Ks m (.exit i) st
        | .ret => Ks m .ret st) st) b s = some y := by
        intro a b s y hab h
        induction b with
        | zero => rw [Nat.le_zero.1 hab] at h; exact h
        | succ b ihb =>
          rcases Nat.lt_or_ge b a with h1 | h1
          · rw [show b + 1 = a by omega]; exact h
          · exact mono _ _ _ (ihb h1)
      have h1 := le j (j + k) _ _ (by omega) hj
      have h2 := le k (j + k) _ _ (by omega) (hk k (Nat.le_refl _))
      rw [h1] at h2
      exact h2
    have main : Evt fun m => Evt fun m' => iter (fun J st => evK C (Rs m) fl c (fun o st => match o with
        | .normal => J (clean fl c st)
        | .exit i => Ks m (.exit i) st
        | .ret => Ks m .ret st) st) m' (clean fl c st) = some x := by
      have lim : ∀ k s y, iter (fun J st => evK C R fl c (fun o st => match o with
        | .normal => J (clean fl c st)
        | .exit i => K (.exit i) st
        | .ret => K .ret st) st) k s = some y → Evt fun m => iter (fun J st => evK C (Rs m) fl c (fun o st => match o with
        | .normal => J (clean fl c st)
        | .exit i => Ks m (.exit i) st
        | .ret => Ks m .ret st) st) k s = some y := by
        intro k
        induction k with
        | zero => intro s y h; simp [iter] at h
        | succ k ihk =>
          intro s y h
          simp only [iter] at h ⊢
          refine ih L ?_ h
          intro o s y h
          cases o with
          | normal => exact ihk _ _ h
          | exit i => exact hK _ _ _ h
          | ret => exact hK _ _ _ h
      obtain ⟨k, hk⟩ := lim n _ _ H9
      -- at one step of the chain: from round n on
      refine ⟨k, fun m hm => ⟨n, fun m' hm' => ?_⟩⟩
      have h0 := hk m hm
      have mono : ∀ k s y, iter (fun J st => evK C (Rs m) fl c (fun o st => match o with
        | .normal => J (clean fl c st)
        | .exit i => Ks m (.exit i) st
        | .ret => Ks m .ret st) st) k s = some y → iter (fun J st => evK C (Rs m) fl c (fun o st => match o with
        | .normal => J (clean fl c st)
        | .exit i => Ks m (.exit i) st
        | .ret => Ks m .ret st) st) (k + 1) s = some y := by
        intro k
        induction k with
        | zero => intro s y h; simp [iter] at h
        | succ k ihk =>
          intro s y h
          rw [iter] at h ⊢
          have := ih (R := Rs m) (Rs := fun _ => Rs m) (Ks := fun _ o st => match o with
            | .normal => iter (fun J st => evK C (Rs m) fl c (fun o st => match o with
        | .normal => J (clean fl c st)
        | .exit i => Ks m (.exit i) st
        | .ret => Ks m .ret st) st) (k + 1) (clean fl c st)
            | .exit i => Ks m (.exit i) st
            | .ret => Ks m .ret st) ⟨fun _ => OLe.refl _, fun _ _ _ h => ⟨0, h⟩, fun _ _ _ _ h => ⟨0, h⟩⟩ ?_ h
          · obtain ⟨n, hn⟩ := this
            exact hn n (Nat.le_refl _)
          · intro o s y h
            refine Evt.all fun _ => ?_
            cases o with
            | normal => exact ihk _ _ h
            | exit i => exact h
            | ret => exact h
      induction m' with
      | zero => rw [Nat.le_zero.1 hm'] at h0; exact h0
      | succ b ihb =>
        rcases Nat.lt_or_ge b n with h1 | h1
        · rw [show b + 1 = n by omega]; exact h0
        · exact mono _ _ _ (ihb h1)
    exact main.mono up
  | rangeFunc g ps assign body iha ihb =>
    intro R Rs K Ks st x L hK H
    simp only [evK] at H ⊢
    have H9 := evItr_some H
    clear H
    obtain ⟨t, p, f, i, it, cs, cd, ds, rfl, h1, h2, h3, h4, h5, h6, h7, H⟩ := H9
    simp only [h7, evItr_mk h1 h2 h3 h4 h5 h6]
    clear h6
    generalize st.sg.set i (.arr 1 []) = sg at H
    induction ds generalizing sg x with
    | nil => exact hK _ _ _ H
    | cons d ds ih =>
      simp only [foldIt] at H ⊢
      refine iha L ?_ H
      intro o s y h
      cases o with
      | exit e => cases h
      | ret => cases h
      | normal =>
        refine ihb L ?_ h
        intro o s y h
        cases o with
        | normal => exact ih _ h
        | exit e => exact hK _ _ _ h
        | ret => exact hK _ _ _ h
  | exit id =>
    intro R Rs K Ks st x L hK H
    simp only [evK] at H ⊢
    exact hK _ _ _ H
  | ret =>
    intro R Rs K Ks st x L hK H
    simp only [evK] at H ⊢
    exact hK _ _ _ H
  | _ =>
    intro R Rs K Ks st x L hK H
    simp [evK] at H

theorem Lim.evt_r {R : Orc} {Rs : Nat → Orc} (L : Lim Rs R) {f : FuncId} {rs : List (DV × Meta)} {sg : List SObj} {q : List DV × List SObj} (h : R.r f rs sg = some q) : Evt fun m => (Rs m).r f rs sg = some q := by
  obtain ⟨n, hn⟩ := L.r f rs sg q h
  exact ⟨n, fun m hm => (L.le hm).r _ _ _ _ hn⟩

theorem dcutK_lim {X : Type} {fl : Flags} {R : Orc} {Rs : Nat → Orc} (L : Lim Rs R) {p : DCut} {K : Out → St → Option X} {Ks : Nat → Out → St → Option X} {D : FuncId × List (DV × Meta) → Out → St → Option X} {Ds : Nat → FuncId × List (DV × Meta) → Out → St → Option X}
    (hK : ∀ o st x, K o st = some x → Evt fun m => Ks m o st = some x) (hD : ∀ q o st x, D q o st = some x → Evt fun m => Ds m q o st = some x) {o : Out} {st : St} {x : X} (H : dcutK C R fl p K D o st = some x) :
    Evt fun m => dcutK C (Rs m) fl p (Ks m) (Ds m) o st = some x := by
  cases o with
  | exit i => simp [dcutK] at H
  | ret => exact hK _ _ _ H
  | normal =>
    simp only [dcutK, evCond] at H ⊢
    obtain ⟨r, h1, H⟩ := ob_some H
    obtain ⟨h2, H⟩ := og_some H
    simp only [h1, ob_mk, h2, og_mk]
    have A : ∀ st x, evK C R fl p.a (fun o st => match o with
        | .normal => evOps C R fl (p.ops ++ [p.dop]) p.ops (keepAt fl p.id st) fun st => ob (dfrArgs C p.dop st) fun q => evK C R fl p.post (D q) (clean fl p.post st)
        | .exit _ => none
        | .ret => K .ret st) (clean fl p.a st) = some x → Evt fun m => evK C (Rs m) fl p.a (fun o st => match o with
        | .normal => evOps C (Rs m) fl (p.ops ++ [p.dop]) p.ops (keepAt fl p.id st) fun st => ob (dfrArgs C p.dop st) fun q => evK C (Rs m) fl p.post (Ds m q) (clean fl p.post st)
        | .exit _ => none
        | .ret => Ks m .ret st) (clean fl p.a st) = some x := by
      intro st x H
      refine evK_lim p.a L (fun o st x h => ?_) H
      cases o with
      | exit i => cases h
      | ret => exact hK _ _ _ h
      | normal =>
        refine evOps_lim L (fun st x h => ?_) h
        obtain ⟨q, k1, k2⟩ := ob_some h
        simp only [k1, ob_mk]
        exact evK_lim p.post L (hD q) k2
    have B : ∀ st x, evK C R fl p.post K (clean fl p.post st) = some x → Evt fun m => evK C (Rs m) fl p.post (Ks m) (clean fl p.post st) = some x := fun st x H => evK_lim p.post L hK H
    cases hy : p.c with
    | tmp t =>
      rw [hy] at H
      simp only at H ⊢
      rcases oif_some H with ⟨h3, h4⟩ | ⟨h3, h4⟩
      · exact (A _ _ h4).mono fun m hm => by rw [h3]; exact hm
      · exact (B _ _ h4).mono fun m hm => by rw [h3]; exact hm
    | _ =>
      rw [hy] at H
      simp only at H ⊢
      rcases oif_some H with ⟨h3, h4⟩ | ⟨h3, h4⟩
      · exact (A _ _ h4).mono fun m hm => by rw [h3]; exact hm
      · exact (B _ _ h4).mono fun m hm => by rw [h3]; exact hm

theorem step_lim {R : Orc} {Rs : Nat → Orc} (L : Lim Rs R) : (∀ f ds d, (stepOrc C R).p f ds = some d → Evt fun m => (stepOrc C (Rs m)).p f ds = some d) ∧
    (∀ f rs sg q, (stepOrc C R).r f rs sg = some q → Evt fun m => (stepOrc C (Rs m)).r f rs sg = some q) := by
  constructor
  · intro f ds d H
    simp only [stepOrc] at H ⊢
    obtain ⟨fn, h1, H⟩ := ob_some H
    obtain ⟨c, h2, H⟩ := ob_some H
    simp only [h1, ob_mk, h2]
    cases hq : C.prim f with
    | none =>
      rw [hq] at H
      exact evK_lim c L (fun o st x h => Evt.all fun _ => h) H
    | some p =>
      rw [hq] at H
      refine evK_lim (seqs p.pre .skip) L (fun o st x h => ?_) H
      cases o with
      | exit i => simp [cutK] at h
      | ret => exact Evt.all fun _ => h
      | normal =>
        simp only [cutK] at h ⊢
        obtain ⟨st2, k1, k2⟩ := ob_some h
        simp only [k1, ob_mk]
        exact evK_lim p.post L (fun o st x h => Evt.all fun _ => h) k2
  · intro f rs sg q H
    simp only [stepOrc] at H ⊢
    obtain ⟨s, h0, H⟩ := ob_some H
    obtain ⟨fn, h1, H⟩ := ob_some H
    obtain ⟨c, h2, H⟩ := ob_some H
    simp only [h0, h1, ob_mk, h2]
    cases hq : C.dcut f with
    | none =>
      rw [hq] at H
      exact evK_lim c L (fun o st x h => Evt.all fun _ => h) H
    | some p =>
      rw [hq] at H
      refine evK_lim (seqs (p.pre ++ [p.r]) .skip) L (fun o st x h => ?_) H
      refine dcutK_lim L (fun o st x h => Evt.all fun _ => h) (fun g o st x h => ?_) h
      cases o with
      | exit i => simp [dfrK] at h
      | normal =>
        obtain ⟨pq, y1, y2⟩ := ob_some h
        refine (L.evt_r y1).mono fun m hm => ?_
        show ob ((Rs m).r g.1 g.2 st.sg) _ = some x
        rw [hm]; exact y2
      | ret =>
        obtain ⟨pq, y1, y2⟩ := ob_some h
        refine (L.evt_r y1).mono fun m hm => ?_
        show ob ((Rs m).r g.1 g.2 st.sg) _ = some x
        rw [hm]; exact y2

theorem step_mono {R R' : Orc} (h : OLe R R') : OLe (stepOrc C R) (stepOrc C R') := by
  have L : Lim (fun _ => R') R := ⟨fun _ => OLe.refl _, fun _ _ _ k => ⟨0, h.p _ _ _ k⟩, fun _ _ _ _ k => ⟨0, h.r _ _ _ _ k⟩⟩
  constructor
  · intro f ds d H
    obtain ⟨n, hn⟩ := (step_lim L).1 f ds d H
    exact hn n (Nat.le_refl _)
  · intro f rs sg q H
    obtain ⟨n, hn⟩ := (step_lim L).2 f rs sg q H
    exact hn n (Nat.le_refl _)

theorem orcN_up (n : Nat) : OLe (orcN C n) (orcN C (n + 1)) := by
  induction n with
  | zero => exact ⟨fun _ _ _ h => by simp [orcN] at h, fun _ _ _ _ h => by simp [orcN] at h⟩
  | succ n ih => exact step_mono ih

theorem orcN_le {n m : Nat} (h : n ≤ m) : OLe (orcN C n) (orcN C m) := by
  induction m with
  | zero => rw [Nat.le_zero.1 h]; exact OLe.refl _
  | succ m ih =>
    rcases Nat.lt_or_ge m n with h1 | h1
    · rw [show n = m + 1 by omega]; exact OLe.refl _
    · exact (ih h1).trans (orcN_up m)

theorem run_lim : Lim (orcN C) (run C) := by
  refine ⟨orcN_up, fun f ds d H => ?_, fun f rs sg q H => ?_⟩
  · simp only [run] at H
    split at H
    · rename_i h
      simp only [Option.some.injEq] at H
      rw [← H]
      exact h.choose_spec
    · cases H
  · simp only [run] at H
    split at H
    · rename_i h
      simp only [Option.some.injEq] at H
      rw [← H]
      exact h.choose_spec
    · cases H

theorem orc_run (n : Nat) : OLe (orcN C n) (run C) := by
  constructor
  · intro f ds d H
    have h : ∃ x n, (orcN C n).p f ds = some x := ⟨d, n, H⟩
    simp only [run, dif_pos h]
    obtain ⟨m, hm⟩ := h.choose_spec
    have h1 := (orcN_le (C := C) (Nat.le_add_right n m)).p _ _ _ H
    have h2 := (orcN_le (C := C) (Nat.le_add_left m n)).p _ _ _ hm
    rw [h1] at h2
    exact h2.symm
  · intro f rs sg q H
    have h : ∃ x n, (orcN C n).r f rs sg = some x := ⟨q, n, H⟩
    simp only [run, dif_pos h]
    obtain ⟨m, hm⟩ := h.choose_spec
    have h1 := (orcN_le (C := C) (Nat.le_add_right n m)).r _ _ _ _ H
    have h2 := (orcN_le (C := C) (Nat.le_add_left m n)).r _ _ _ _ hm
    rw [h1] at h2
    exact h2.symm

/-- What one step makes of the functions is theirs. -/
theorem run_step : OLe (stepOrc C (run C)) (run C) := by
  constructor
  · intro f ds d H
    obtain ⟨n, hn⟩ := (step_lim run_lim).1 f ds d H
    exact (orc_run (n + 1)).p _ _ _ (hn n (Nat.le_refl _))
  · intro f rs sg q H
    obtain ⟨n, hn⟩ := (step_lim run_lim).2 f rs sg q H
    exact (orc_run (n + 1)).r _ _ _ _ (hn n (Nat.le_refl _))

end
end Go.Su

/-
  THE DATA MACHINE, part 31: places in a code; what a loop's head says of itself.
-/
namespace Go.Su

section
variable {X : Type} (C : Cfg) (R : Orc) (fl : Flags)

/-- One round of a loop. -/
noncomputable def loopF (b : Code) (K : Out → St → Option X) : (St → Option X) → St → Option X := fun J st => evK C R fl b (fun o st => match o with
  | .normal => J (clean fl b st)
  | .exit i => K (.exit i) st
  | .ret => K .ret st) st

theorem evK_loop (b : Code) (K : Out → St → Option X) (st : St) : evK C R fl (.loop b) K st = loopL (loopF C R fl b K) (clean fl b st) := rfl

theorem loopF_lim {b : Code} {K : Out → St → Option X} {J : St → Option X} {Js : Nat → St → Option X} {st : St} {x : X}
    (hJ : ∀ st x, J st = some x → Evt fun m => Js m st = some x) (H : loopF C R fl b K J st = some x) : Evt fun m => loopF C R fl b K (Js m) st = some x := by
  refine evK_lim b (Rs := fun _ => R) ⟨fun _ => OLe.refl _, fun _ _ _ h => ⟨0, h⟩, fun _ _ _ _ h => ⟨0, h⟩⟩ ?_ H
  intro o st x h
  cases o with
  | normal => exact hJ _ _ h
  | exit i => exact Evt.all fun _ => h
  | ret => exact Evt.all fun _ => h

theorem loopF_mono {b : Code} {K : Out → St → Option X} {J J' : St → Option X} {st : St} {x : X}
    (hJ : ∀ st x, J st = some x → J' st = some x) (H : loopF C R fl b K J st = some x) : loopF C R fl b K J' st = some x := by
  obtain ⟨n, hn⟩ := loopF_lim C R fl (J := J) (Js := fun _ => J') (fun st x h => Evt.all fun _ => hJ st x h) H
  exact hn n (Nat.le_refl _)

theorem iter_up {b : Code} {K : Out → St → Option X} : ∀ {n m : Nat} {st : St} {x : X}, n ≤ m → iter (loopF C R fl b K) n st = some x → iter (loopF C R fl b K) m st = some x := by
  intro n
  induction n with
  | zero => intro m st x _ h; simp [iter] at h
  | succ n ih =>
    intro m st x hm h
    obtain ⟨m', rfl⟩ : ∃ m', m = m' + 1 := ⟨m - 1, by omega⟩
    simp only [iter] at h ⊢
    exact loopF_mono C R fl (fun st x h => ih (by omega) h) h

theorem loopL_of_iter {b : Code} {K : Out → St → Option X} {n : Nat} {st : St} {x : X} (h : iter (loopF C R fl b K) n st = some x) : loopL (loopF C R fl b K) st = some x := by
  have he : ∃ x n, iter (loopF C R fl b K) n st = some x := ⟨x, n, h⟩
  unfold loopL
  rw [dif_pos he]
  obtain ⟨j, hj⟩ := he.choose_spec
  have h1 := iter_up C R fl (Nat.le_add_right j n) hj
  have h2 := iter_up C R fl (Nat.le_add_left n j) h
  rw [h1] at h2
  exact h2

theorem loop_fix (b : Code) (K : Out → St → Option X) (st : St) : loopL (loopF C R fl b K) st = loopF C R fl b K (loopL (loopF C R fl b K)) st := by
  have h1 : ∀ x, loopL (loopF C R fl b K) st = some x → loopF C R fl b K (loopL (loopF C R fl b K)) st = some x := by
    intro x h
    obtain ⟨n, hn⟩ := loopL_some h
    cases n with
    | zero => simp [iter] at hn
    | succ n => exact loopF_mono C R fl (fun st x h => loopL_of_iter C R fl h) hn
  have h2 : ∀ x, loopF C R fl b K (loopL (loopF C R fl b K)) st = some x → loopL (loopF C R fl b K) st = some x := by
    intro x h
    obtain ⟨n, hn⟩ := loopF_lim C R fl (J := loopL (loopF C R fl b K)) (Js := iter (loopF C R fl b K)) (fun st x h => by
      obtain ⟨n, hn⟩ := loopL_some h
      exact ⟨n, fun m hm => iter_up C R fl hm hn⟩) h
    exact loopL_of_iter C R fl (n := n + 1) (hn n (Nat.le_refl _))
  cases h : loopL (loopF C R fl b K) st with
  | some x => exact (h1 x h).symm
  | none =>
    cases h' : loopF C R fl b K (loopL (loopF C R fl b K)) st with
    | none => rfl
    | some x => rw [h2 x h'] at h; exact h.symm

/-- What waits behind a code. -/
inductive Wait where
  | seq (b : Code)
  | blk (id : Nat)
  | lp (b : Code)

variable (K0 : Out → St → Option X)

noncomputable def kontOf : List Wait → Out → St → Option X
  | [] => K0
  | .seq b :: ks => fun o st => match o with
    | .normal => evK C R fl b (kontOf ks) (clean fl b st)
    | .exit i => kontOf ks (.exit i) st
    | .ret => kontOf ks .ret st
  | .blk id :: ks => fun o st => match o with
    | .normal => kontOf ks .normal st
    | .exit i => if i = id then kontOf ks .normal st else kontOf ks (.exit i) st
    | .ret => kontOf ks .ret st
  | .lp b :: ks => fun o st => match o with
    | .normal => loopL (loopF C R fl b (kontOf ks)) (clean fl b st)
    | .exit i => kontOf ks (.exit i) st
    | .ret => kontOf ks .ret st

/-- From a code on. -/
noncomputable def evJ (c : Code) (ks : List Wait) (st : St) : Option X := evK C R fl c (kontOf C R fl K0 ks) st

/-- From a loop's head on. -/
noncomputable def headJ (b : Code) (ks : List Wait) (st : St) : Option X := loopL (loopF C R fl b (kontOf C R fl K0 ks)) st

section
variable (J JL : Code → List Wait → St → Option X) (cut : List Nat)

def popF (go : Code → List Wait → St → Option X) : List Wait → Out → St → Option X
  | [], o, st => K0 o st
  | .seq b :: ks, o, st => match o with
    | .normal => go b ks st
    | .exit i => popF go ks (.exit i) st
    | .ret => popF go ks .ret st
  | .blk id :: ks, o, st => match o with
    | .normal => popF go ks .normal st
    | .exit i => if i = id then popF go ks .normal st else popF go ks (.exit i) st
    | .ret => popF go ks .ret st
  | .lp b :: ks, o, st => match o with
    | .normal => JL b ks (clean fl b st)
    | .exit i => popF go ks (.exit i) st
    | .ret => popF go ks .ret st

def cutAt (b : Code) : Bool :=
  match headId b with
  | some id => cut.contains id
  | none => false

def startF (ev : Code → List Wait → St → Option X) (b : Code) (ks : List Wait) (st : St) : Option X :=
  match cutAt cut b with
  | true => J b ks (clean fl b st)
  | false => ev b ks (clean fl b st)

def evF : Nat → Code → List Wait → St → Option X
  | 0, c, ks, st => J c ks st
  | n + 1, c, ks, st =>
    match c with
    | .skip => popF fl K0 JL (startF fl J cut (evF n)) ks .normal st
    | .region id ops false => evOps C R fl ops.toList ops.toList (keepAt fl id st) fun st => closeAt fl id st fun st => popF fl K0 JL (startF fl J cut (evF n)) ks .normal st
    | .region id ops true => og (edgesOk 0 ops.toList) (forceNss (befores ops.toList []) fun bf => evDraw C R fl ops.toList bf ops.toList 0 [] (keepAt fl id st) fun st => closeAt fl id st fun st => popF fl K0 JL (startF fl J cut (evF n)) ks .normal st)
    | .seq a b => evF n a (.seq b :: ks) st
    | .cond c a b => evCond C.P c st (fun st => startF fl J cut (evF n) a ks st) (fun st => startF fl J cut (evF n) b ks st)
    | .block id b => evF n b (.blk id :: ks) st
    | .loop b => JL b ks (clean fl b st)
    | .rangeFunc g ps a b => J (.rangeFunc g ps a b) ks st
    | .exit id => popF fl K0 JL (startF fl J cut (evF n)) ks (.exit id) st
    | .ret => popF fl K0 JL (startF fl J cut (evF n)) ks .ret st
    | _ => none

end

theorem popF_eq {go : Code → List Wait → St → Option X} (h : ∀ b ks st, go b ks st = evK C R fl b (kontOf C R fl K0 ks) (clean fl b st)) : ∀ (ks : List Wait) (o : Out) (st : St),
    popF fl K0 (headJ C R fl K0) go ks o st = kontOf C R fl K0 ks o st
  | [], o, st => rfl
  | .seq b :: ks, o, st => by
    cases o with
    | normal => simp only [popF, kontOf, h]
    | exit i => simp only [popF, kontOf, popF_eq h ks]
    | ret => simp only [popF, kontOf, popF_eq h ks]
  | .blk id :: ks, o, st => by
    cases o with
    | normal => simp only [popF, kontOf, popF_eq h ks]
    | exit i => simp only [popF, kontOf, popF_eq h ks]
    | ret => simp only [popF, kontOf, popF_eq h ks]
  | .lp b :: ks, o, st => by
    cases o with
    | normal => simp only [popF, kontOf, headJ]
    | exit i => simp only [popF, kontOf, popF_eq h ks]
    | ret => simp only [popF, kontOf, popF_eq h ks]

theorem evF_eq (cut : List Nat) : ∀ (n : Nat) (c : Code) (ks : List Wait) (st : St), evF C R fl K0 (evJ C R fl K0) (headJ C R fl K0) cut n c ks st = evJ C R fl K0 c ks st := by
  intro n
  induction n with
  | zero => intro c ks st; rfl
  | succ n ih =>
    intro c ks st
    have hs : ∀ b ks st, startF fl (evJ C R fl K0) cut (evF C R fl K0 (evJ C R fl K0) (headJ C R fl K0) cut n) b ks st = evK C R fl b (kontOf C R fl K0 ks) (clean fl b st) := by
      intro b ks st
      unfold startF
      split
      · rfl
      · rw [ih]; rfl
    have hp : ∀ ks o st, popF fl K0 (headJ C R fl K0) (startF fl (evJ C R fl K0) cut (evF C R fl K0 (evJ C R fl K0) (headJ C R fl K0) cut n)) ks o st = kontOf C R fl K0 ks o st :=
      fun ks o st => popF_eq C R fl K0 hs ks o st
    cases c with
    | skip => simp only [evF, evJ, evK, hp]
    | region id ops d => cases d <;> simp only [evF, evJ, evK, hp]
    | seq a b => rw [evF, ih]; rfl
    | cond y a b => simp only [evF, evJ, evK, hs]
    | block id b => rw [evF, ih]; rfl
    | loop b => simp only [evF, evJ, evK_loop, headJ]
    | exit id => simp only [evF, evJ, evK, hp]
    | ret => simp only [evF, evJ, evK, hp]
    | _ => simp only [evF, evJ, evK]

/-- A place in a code. -/
def sub : List Bool → Code → List Wait → Code × List Wait
  | [], c, ks => (c, ks)
  | false :: p, .seq a b, ks => sub p a (.seq b :: ks)
  | true :: p, .seq _ b, ks => sub p b ks
  | false :: p, .cond _ a _, ks => sub p a ks
  | true :: p, .cond _ _ b, ks => sub p b ks
  | _ :: p, .block id b, ks => sub p b (.blk id :: ks)
  | _ :: p, .loop b, ks => sub p b (.lp b :: ks)
  | _ :: _, c, ks => (c, ks)

def lbody : Code → Code
  | .loop b => b
  | c => c

/-- The same; but nobody looks inside. -/
noncomputable def hide {α : Type} (a : α) : α := Classical.choose (⟨a, rfl⟩ : ∃ b, b = a)

theorem hide_eq {α : Type} (a : α) : hide a = a := Classical.choose_spec (⟨a, rfl⟩ : ∃ b, b = a)

noncomputable def evP (p : List Bool) (c : Code) (st : St) : Option X := hide (evJ C R fl K0) (sub p c []).1 (sub p c []).2 st
noncomputable def headP (p : List Bool) (c : Code) (st : St) : Option X := hide (headJ C R fl K0) (lbody (sub p c []).1) (sub p c []).2 st

variable {C R fl K0}

theorem evP_of {p : List Bool} {c : Code} {st : St} {r : Option X} (cut : List Nat)
    (h : evF C R fl K0 (hide (evJ C R fl K0)) (hide (headJ C R fl K0)) cut 200 (sub p c []).1 (sub p c []).2 st = r) : evP C R fl K0 p c st = r := by
  rw [hide_eq, hide_eq, evF_eq] at h
  unfold evP
  rw [hide_eq]
  exact h

theorem headP_of {p : List Bool} {c : Code} {st : St} {r : Option X} (cut : List Nat)
    (h : evF C R fl K0 (hide (evJ C R fl K0)) (hide (headJ C R fl K0)) cut 200 (lbody (sub p c []).1) (.lp (lbody (sub p c []).1) :: (sub p c []).2) st = r) : headP C R fl K0 p c st = r := by
  rw [hide_eq, hide_eq, evF_eq] at h
  rw [← h]
  unfold headP
  rw [hide_eq]
  unfold headJ evJ
  rw [loop_fix]
  rfl

theorem evP_nil {c : Code} {st : St} : evP C R fl K0 [] c st = evK C R fl c K0 st := by
  unfold evP
  rw [hide_eq]
  rfl

end

section
variable {X : Type} (C : Cfg) (R : Orc) (fl : Flags) (K0 : Out → St → Option X)

/-- Behind a place. -/
noncomputable def konP (p : List Bool) (c : Code) (o : Out) (st : St) : Option X := hide (kontOf C R fl K0) (sub p c []).2 o st

/-- How a round ends. -/
def kr (I : List SObj → Option X) (Xf : Out → List SObj → Option X) : Out → St → Option X := fun o st => match o with
  | .normal => I st.sg
  | .exit e => Xf (.exit e) st.sg
  | .ret => Xf .ret st.sg

variable {C R fl K0}

theorem startF_eq (cut : List Nat) (n : Nat) (b : Code) (ks : List Wait) (st : St) : startF fl (evJ C R fl K0) cut (evF C R fl K0 (evJ C R fl K0) (headJ C R fl K0) cut n) b ks st = evK C R fl b (kontOf C R fl K0 ks) (clean fl b st) := by
  unfold startF
  split
  · rfl
  · rw [evF_eq]; rfl

theorem konP_of {p : List Bool} {c : Code} {o : Out} {st : St} {r : Option X} (cut : List Nat)
    (h : popF fl K0 (hide (headJ C R fl K0)) (startF fl (hide (evJ C R fl K0)) cut (evF C R fl K0 (hide (evJ C R fl K0)) (hide (headJ C R fl K0)) cut 200)) (sub p c []).2 o st = r) : konP C R fl K0 p c o st = r := by
  rw [hide_eq, hide_eq, popF_eq C R fl K0 (startF_eq cut 200)] at h
  unfold konP
  rw [hide_eq]
  exact h

theorem rangeP {p : List Bool} {c : Code} {st : St} {t f i q : Nat} {ps : Array Nat} {a b : Code} {ks : List Wait} {it : List DV → Option (List DV)} (hs : sub p c [] = (.rangeFunc (.tmp t) ps a b, ks)) (hm : (st.get t).2 = .fn f [(i, 0)])
    (hp : ps.toList = [q]) (hi : C.iter f = some it) (ha : isReg a = true) (hb : plainC b = true) :
    evP C R fl K0 p c st = ob (sgBox st.sg i) fun cs => ob (allDat cs) fun cd => ob (it cd) fun ds =>
      foldIt (fun d I sg => evP C R fl (kr I fun o sg => konP C R fl K0 p c o (outerSt st sg)) [] (.seq a b) (clean fl a (roundSt st q d sg))) (fun sg => konP C R fl K0 p c .normal (outerSt st sg)) ds (st.sg.set i (.arr 1 [])) := by
  unfold evP konP
  simp only [hide_eq]
  rw [hs]
  simp only [evJ, evK, evItr, hp, hm, hi, ha, hb, ob, Bool.and_self, og]
  have hst : ∀ (d : DV) (I : List SObj → Option X) (sg : List SObj), evK C R fl a (fun o st1 => match o with
        | .normal => evK C R fl b (fun o st2 => match o with
          | .normal => I st2.sg
          | .exit e => kontOf C R fl K0 ks (.exit e) (outerSt st st2.sg)
          | .ret => kontOf C R fl K0 ks .ret (outerSt st st2.sg)) (clean fl b st1)
        | .exit _ => none
        | .ret => none) (clean fl a (roundSt st q d sg)) =
      evK C R fl a (fun o st' => match o with
        | .normal => evK C R fl b (kontOf C R fl (kr I fun o sg => kontOf C R fl K0 ks o (outerSt st sg)) []) (clean fl b st')
        | .exit i => kontOf C R fl (kr I fun o sg => kontOf C R fl K0 ks o (outerSt st sg)) [] (.exit i) st'
        | .ret => kontOf C R fl (kr I fun o sg => kontOf C R fl K0 ks o (outerSt st sg)) [] .ret st') (clean fl a (roundSt st q d sg)) := by
    intro d I sg
    cases a with
    | region id ops dr =>
      cases dr with
      | false =>
        simp only [evK]
        congr 1
      | true => simp [isReg] at ha
    | skip =>
      simp only [evK]
      congr 1
    | _ => simp [isReg] at ha
  congr 1
  funext cs
  congr 1
  funext cd
  congr 1
  funext ds
  congr 1
  funext d I sg
  exact hst d I sg

def rgT : Code → Option (Nat × Nat)
  | .rangeFunc (.tmp t) ps _ _ => match ps.toList with
    | [q] => some (t, q)
    | _ => none
  | _ => none
def rgA : Code → Code
  | .rangeFunc _ _ a _ => a
  | _ => .skip
def rgB : Code → Code
  | .rangeFunc _ _ _ b => b
  | _ => .skip

theorem rangeP2 {p : List Bool} {c : Code} {st : St} {t f i q : Nat} {it : List DV → Option (List DV)} (hs : rgT (sub p c []).1 = some (t, q)) (hm : (st.get t).2 = .fn f [(i, 0)])
    (hi : C.iter f = some it) (hab : (isReg (rgA (sub p c []).1) && plainC (rgB (sub p c []).1)) = true) :
    evP C R fl K0 p c st = ob (sgBox st.sg i) fun cs => ob (allDat cs) fun cd => ob (it cd) fun ds =>
      foldIt (fun d I sg => evP C R fl (kr I fun o sg => konP C R fl K0 p c o (outerSt st sg)) [] (.seq (rgA (sub p c []).1) (rgB (sub p c []).1)) (clean fl (rgA (sub p c []).1) (roundSt st q d sg))) (fun sg => konP C R fl K0 p c .normal (outerSt st sg)) ds (st.sg.set i (.arr 1 [])) := by
  simp only [Bool.and_eq_true] at hab
  generalize hc : (sub p c []).1 = c1 at hs hab
  cases c1 with
  | rangeFunc g ps a b =>
    cases g with
    | tmp t' =>
      simp only [rgT] at hs
      split at hs
      · rename_i q' hq
        simp only [Option.some.injEq, Prod.mk.injEq] at hs
        obtain ⟨rfl, rfl⟩ := hs
        simp only [rgA, rgB] at hab ⊢
        exact rangeP (ks := (sub p c []).2) (by rw [← hc]) hm hq hi hab.1 hab.2
      · cases hs
    | _ => simp [rgT] at hs
  | _ => simp [rgT] at hs

end

/-- A result in a shared variable. -/
def oneCell (sg : List SObj) (cs : List (DV × Meta)) : Option DV :=
  if 1 = cs.length then match cs with
    | [c] => sealCell sg c
    | _ => none
  else none

def ret1 (x : Option DV) : Option DV := ob (ob x fun d => ob (some []) fun ds => some (d :: ds)) fun ds => some (pack ds)

def seqO : List (Option DV) → Option (List DV)
  | [] => some []
  | x :: xs => ob x fun d => ob (seqO xs) fun ds => some (d :: ds)

/-- Results in writable memory. -/
def retL (xs : List (Option DV)) : Option DV := ob (seqO xs) fun ds => some (pack ds)

theorem run_pure {C : Cfg} {f : FuncId} {fn : Func} {c : Code} {ds : List DV} {d : DV} (hp : C.prim f = none) (hf : C.P.funcs[f]? = some fn) (hb : fn.body = some c)
    (H : evP C (run C) (C.fl f) (retP C.P fn) [] c (initSt fn (ds.map fun d => (d, .val)) []) = some d) : (run C).p f ds = some d := by
  rw [evP_nil] at H
  refine run_step.p f ds d ?_
  simp only [stepOrc, evBody, hp, hf, hb, ob_mk]
  exact H

end Go.Su

/-
  PLAIN DATA with types: the program's types, patterns, expressions, terms; how they lie as data. By program.
-/
namespace Go.Su

def encInts (l : List Int) : DV := .list 1 (l.map fun n => .int .i64 n)
inductive Ty where
  | mk (kind : Int) (n : Int) (kids : List Ty)

def Ty.kind : Ty → Int | .mk x0 _ _ => x0
def Ty.n : Ty → Int | .mk _ x1 _ => x1
def Ty.kids : Ty → List Ty | .mk _ _ x2 => x2
@[simp] theorem Ty.kind_mk (x0 : Int) (x1 : Int) (x2 : List Ty) : (Ty.mk x0 x1 x2).kind = x0 := rfl
@[simp] theorem Ty.n_mk (x0 : Int) (x1 : Int) (x2 : List Ty) : (Ty.mk x0 x1 x2).n = x1 := rfl
@[simp] theorem Ty.kids_mk (x0 : Int) (x1 : Int) (x2 : List Ty) : (Ty.mk x0 x1 x2).kids = x2 := rfl
def Ty.enc : Ty → DV
  | .mk x0 x1 x2 => .agg [.int .i64 x0, .int .i64 x1, .list 3 (x2.map Ty.enc)]
theorem Ty.enc_eq (t : Ty) : t.enc = .agg [.int .i64 t.kind, .int .i64 t.n, .list 3 (t.kids.map Ty.enc)] := by cases t; rw [Ty.enc]; rfl
noncomputable instance : DecidableEq Ty := fun a b => Classical.propDecidable (a = b)
@[simp] theorem isAggN_Ty (t : Ty) : isAggN 3 t.enc = true := by rw [Ty.enc_eq]; rfl
@[simp] theorem Ty.proj0 (t : Ty) : proj 0 t.enc = .int .i64 t.kind := by rw [Ty.enc_eq]; rfl
@[simp] theorem Ty.proj1 (t : Ty) : proj 1 t.enc = .int .i64 t.n := by rw [Ty.enc_eq]; rfl
@[simp] theorem Ty.proj2 (t : Ty) : proj 2 t.enc = .list 3 (t.kids.map Ty.enc) := by rw [Ty.enc_eq]; rfl
theorem Ty.ext' {t u : Ty} (h0 : t.kind = u.kind) (h1 : t.n = u.n) (h2 : t.kids = u.kids) : t = u := by cases t; cases u; simp_all
theorem Ty.kid_lt {t k : Ty} (h : k ∈ t.kids) : SizeOf.sizeOf k < SizeOf.sizeOf t := by
  cases t
  simp only [Ty.kids_mk] at h
  have := List.sizeOf_lt_of_mem h
  simp only [Ty.mk.sizeOf_spec]
  omega
def Ty.size (t : Ty) : Nat := 1 + (t.kids.attach.map fun k => Ty.size k.1).sum
termination_by SizeOf.sizeOf t
decreasing_by exact Ty.kid_lt k.2
inductive Pat where
  | mk (kind : Int) (lo : Int) (hi : Int) (name : ByteArray) (n : Int) (s : ByteArray) (kids : List Pat)

def Pat.kind : Pat → Int | .mk x0 _ _ _ _ _ _ => x0
def Pat.lo : Pat → Int | .mk _ x1 _ _ _ _ _ => x1
def Pat.hi : Pat → Int | .mk _ _ x2 _ _ _ _ => x2
def Pat.name : Pat → ByteArray | .mk _ _ _ x3 _ _ _ => x3
def Pat.n : Pat → Int | .mk _ _ _ _ x4 _ _ => x4
def Pat.s : Pat → ByteArray | .mk _ _ _ _ _ x5 _ => x5
def Pat.kids : Pat → List Pat | .mk _ _ _ _ _ _ x6 => x6
@[simp] theorem Pat.kind_mk (x0 : Int) (x1 : Int) (x2 : Int) (x3 : ByteArray) (x4 : Int) (x5 : ByteArray) (x6 : List Pat) : (Pat.mk x0 x1 x2 x3 x4 x5 x6).kind = x0 := rfl
@[simp] theorem Pat.lo_mk (x0 : Int) (x1 : Int) (x2 : Int) (x3 : ByteArray) (x4 : Int) (x5 : ByteArray) (x6 : List Pat) : (Pat.mk x0 x1 x2 x3 x4 x5 x6).lo = x1 := rfl
@[simp] theorem Pat.hi_mk (x0 : Int) (x1 : Int) (x2 : Int) (x3 : ByteArray) (x4 : Int) (x5 : ByteArray) (x6 : List Pat) : (Pat.mk x0 x1 x2 x3 x4 x5 x6).hi = x2 := rfl
@[simp] theorem Pat.name_mk (x0 : Int) (x1 : Int) (x2 : Int) (x3 : ByteArray) (x4 : Int) (x5 : ByteArray) (x6 : List Pat) : (Pat.mk x0 x1 x2 x3 x4 x5 x6).name = x3 := rfl
@[simp] theorem Pat.n_mk (x0 : Int) (x1 : Int) (x2 : Int) (x3 : ByteArray) (x4 : Int) (x5 : ByteArray) (x6 : List Pat) : (Pat.mk x0 x1 x2 x3 x4 x5 x6).n = x4 := rfl
@[simp] theorem Pat.s_mk (x0 : Int) (x1 : Int) (x2 : Int) (x3 : ByteArray) (x4 : Int) (x5 : ByteArray) (x6 : List Pat) : (Pat.mk x0 x1 x2 x3 x4 x5 x6).s = x5 := rfl
@[simp] theorem Pat.kids_mk (x0 : Int) (x1 : Int) (x2 : Int) (x3 : ByteArray) (x4 : Int) (x5 : ByteArray) (x6 : List Pat) : (Pat.mk x0 x1 x2 x3 x4 x5 x6).kids = x6 := rfl
def Pat.enc : Pat → DV
  | .mk x0 x1 x2 x3 x4 x5 x6 => .agg [.int .i64 x0, .int .i64 x1, .int .i64 x2, .str x3, .int .i64 x4, .str x5, .list 7 (x6.map Pat.enc)]
theorem Pat.enc_eq (t : Pat) : t.enc = .agg [.int .i64 t.kind, .int .i64 t.lo, .int .i64 t.hi, .str t.name, .int .i64 t.n, .str t.s, .list 7 (t.kids.map Pat.enc)] := by cases t; rw [Pat.enc]; rfl
noncomputable instance : DecidableEq Pat := fun a b => Classical.propDecidable (a = b)
@[simp] theorem isAggN_Pat (t : Pat) : isAggN 7 t.enc = true := by rw [Pat.enc_eq]; rfl
@[simp] theorem Pat.proj0 (t : Pat) : proj 0 t.enc = .int .i64 t.kind := by rw [Pat.enc_eq]; rfl
@[simp] theorem Pat.proj1 (t : Pat) : proj 1 t.enc = .int .i64 t.lo := by rw [Pat.enc_eq]; rfl
@[simp] theorem Pat.proj2 (t : Pat) : proj 2 t.enc = .int .i64 t.hi := by rw [Pat.enc_eq]; rfl
@[simp] theorem Pat.proj3 (t : Pat) : proj 3 t.enc = .str t.name := by rw [Pat.enc_eq]; rfl
@[simp] theorem Pat.proj4 (t : Pat) : proj 4 t.enc = .int .i64 t.n := by rw [Pat.enc_eq]; rfl
@[simp] theorem Pat.proj5 (t : Pat) : proj 5 t.enc = .str t.s := by rw [Pat.enc_eq]; rfl
@[simp] theorem Pat.proj6 (t : Pat) : proj 6 t.enc = .list 7 (t.kids.map Pat.enc) := by rw [Pat.enc_eq]; rfl
theorem Pat.ext' {t u : Pat} (h0 : t.kind = u.kind) (h1 : t.lo = u.lo) (h2 : t.hi = u.hi) (h3 : t.name = u.name) (h4 : t.n = u.n) (h5 : t.s = u.s) (h6 : t.kids = u.kids) : t = u := by cases t; cases u; simp_all
theorem Pat.kid_lt {t k : Pat} (h : k ∈ t.kids) : SizeOf.sizeOf k < SizeOf.sizeOf t := by
  cases t
  simp only [Pat.kids_mk] at h
  have := List.sizeOf_lt_of_mem h
  simp only [Pat.mk.sizeOf_spec]
  omega
def Pat.size (t : Pat) : Nat := 1 + (t.kids.attach.map fun k => Pat.size k.1).sum
termination_by SizeOf.sizeOf t
decreasing_by exact Pat.kid_lt k.2
inductive Ex where
  | mk (kind : Int) (lo : Int) (hi : Int) (name : ByteArray) (arg : ByteArray) (n : Int) (s : ByteArray) (op : Int) (a : Ty) (b : Ty) (pats : List Pat) (kids : List Ex)

def Ex.kind : Ex → Int | .mk x0 _ _ _ _ _ _ _ _ _ _ _ => x0
def Ex.lo : Ex → Int | .mk _ x1 _ _ _ _ _ _ _ _ _ _ => x1
def Ex.hi : Ex → Int | .mk _ _ x2 _ _ _ _ _ _ _ _ _ => x2
def Ex.name : Ex → ByteArray | .mk _ _ _ x3 _ _ _ _ _ _ _ _ => x3
def Ex.arg : Ex → ByteArray | .mk _ _ _ _ x4 _ _ _ _ _ _ _ => x4
def Ex.n : Ex → Int | .mk _ _ _ _ _ x5 _ _ _ _ _ _ => x5
def Ex.s : Ex → ByteArray | .mk _ _ _ _ _ _ x6 _ _ _ _ _ => x6
def Ex.op : Ex → Int | .mk _ _ _ _ _ _ _ x7 _ _ _ _ => x7
def Ex.a : Ex → Ty | .mk _ _ _ _ _ _ _ _ x8 _ _ _ => x8
def Ex.b : Ex → Ty | .mk _ _ _ _ _ _ _ _ _ x9 _ _ => x9
def Ex.pats : Ex → List Pat | .mk _ _ _ _ _ _ _ _ _ _ x10 _ => x10
def Ex.kids : Ex → List Ex | .mk _ _ _ _ _ _ _ _ _ _ _ x11 => x11
@[simp] theorem Ex.kind_mk (x0 : Int) (x1 : Int) (x2 : Int) (x3 : ByteArray) (x4 : ByteArray) (x5 : Int) (x6 : ByteArray) (x7 : Int) (x8 : Ty) (x9 : Ty) (x10 : List Pat) (x11 : List Ex) : (Ex.mk x0 x1 x2 x3 x4 x5 x6 x7 x8 x9 x10 x11).kind = x0 := rfl
@[simp] theorem Ex.lo_mk (x0 : Int) (x1 : Int) (x2 : Int) (x3 : ByteArray) (x4 : ByteArray) (x5 : Int) (x6 : ByteArray) (x7 : Int) (x8 : Ty) (x9 : Ty) (x10 : List Pat) (x11 : List Ex) : (Ex.mk x0 x1 x2 x3 x4 x5 x6 x7 x8 x9 x10 x11).lo = x1 := rfl
@[simp] theorem Ex.hi_mk (x0 : Int) (x1 : Int) (x2 : Int) (x3 : ByteArray) (x4 : ByteArray) (x5 : Int) (x6 : ByteArray) (x7 : Int) (x8 : Ty) (x9 : Ty) (x10 : List Pat) (x11 : List Ex) : (Ex.mk x0 x1 x2 x3 x4 x5 x6 x7 x8 x9 x10 x11).hi = x2 := rfl
@[simp] theorem Ex.name_mk (x0 : Int) (x1 : Int) (x2 : Int) (x3 : ByteArray) (x4 : ByteArray) (x5 : Int) (x6 : ByteArray) (x7 : Int) (x8 : Ty) (x9 : Ty) (x10 : List Pat) (x11 : List Ex) : (Ex.mk x0 x1 x2 x3 x4 x5 x6 x7 x8 x9 x10 x11).name = x3 := rfl
@[simp] theorem Ex.arg_mk (x0 : Int) (x1 : Int) (x2 : Int) (x3 : ByteArray) (x4 : ByteArray) (x5 : Int) (x6 : ByteArray) (x7 : Int) (x8 : Ty) (x9 : Ty) (x10 : List Pat) (x11 : List Ex) : (Ex.mk x0 x1 x2 x3 x4 x5 x6 x7 x8 x9 x10 x11).arg = x4 := rfl
@[simp] theorem Ex.n_mk (x0 : Int) (x1 : Int) (x2 : Int) (x3 : ByteArray) (x4 : ByteArray) (x5 : Int) (x6 : ByteArray) (x7 : Int) (x8 : Ty) (x9 : Ty) (x10 : List Pat) (x11 : List Ex) : (Ex.mk x0 x1 x2 x3 x4 x5 x6 x7 x8 x9 x10 x11).n = x5 := rfl
@[simp] theorem Ex.s_mk (x0 : Int) (x1 : Int) (x2 : Int) (x3 : ByteArray) (x4 : ByteArray) (x5 : Int) (x6 : ByteArray) (x7 : Int) (x8 : Ty) (x9 : Ty) (x10 : List Pat) (x11 : List Ex) : (Ex.mk x0 x1 x2 x3 x4 x5 x6 x7 x8 x9 x10 x11).s = x6 := rfl
@[simp] theorem Ex.op_mk (x0 : Int) (x1 : Int) (x2 : Int) (x3 : ByteArray) (x4 : ByteArray) (x5 : Int) (x6 : ByteArray) (x7 : Int) (x8 : Ty) (x9 : Ty) (x10 : List Pat) (x11 : List Ex) : (Ex.mk x0 x1 x2 x3 x4 x5 x6 x7 x8 x9 x10 x11).op = x7 := rfl
@[simp] theorem Ex.a_mk (x0 : Int) (x1 : Int) (x2 : Int) (x3 : ByteArray) (x4 : ByteArray) (x5 : Int) (x6 : ByteArray) (x7 : Int) (x8 : Ty) (x9 : Ty) (x10 : List Pat) (x11 : List Ex) : (Ex.mk x0 x1 x2 x3 x4 x5 x6 x7 x8 x9 x10 x11).a = x8 := rfl
@[simp] theorem Ex.b_mk (x0 : Int) (x1 : Int) (x2 : Int) (x3 : ByteArray) (x4 : ByteArray) (x5 : Int) (x6 : ByteArray) (x7 : Int) (x8 : Ty) (x9 : Ty) (x10 : List Pat) (x11 : List Ex) : (Ex.mk x0 x1 x2 x3 x4 x5 x6 x7 x8 x9 x10 x11).b = x9 := rfl
@[simp] theorem Ex.pats_mk (x0 : Int) (x1 : Int) (x2 : Int) (x3 : ByteArray) (x4 : ByteArray) (x5 : Int) (x6 : ByteArray) (x7 : Int) (x8 : Ty) (x9 : Ty) (x10 : List Pat) (x11 : List Ex) : (Ex.mk x0 x1 x2 x3 x4 x5 x6 x7 x8 x9 x10 x11).pats = x10 := rfl
@[simp] theorem Ex.kids_mk (x0 : Int) (x1 : Int) (x2 : Int) (x3 : ByteArray) (x4 : ByteArray) (x5 : Int) (x6 : ByteArray) (x7 : Int) (x8 : Ty) (x9 : Ty) (x10 : List Pat) (x11 : List Ex) : (Ex.mk x0 x1 x2 x3 x4 x5 x6 x7 x8 x9 x10 x11).kids = x11 := rfl
def Ex.enc : Ex → DV
  | .mk x0 x1 x2 x3 x4 x5 x6 x7 x8 x9 x10 x11 => .agg [.int .i64 x0, .int .i64 x1, .int .i64 x2, .str x3, .str x4, .int .i64 x5, .str x6, .int .i64 x7, .int .i64 x8.kind, .int .i64 x8.n, .list 3 (x8.kids.map Ty.enc), .int .i64 x9.kind, .int .i64 x9.n, .list 3 (x9.kids.map Ty.enc), .list 7 (x10.map Pat.enc), .list 16 (x11.map Ex.enc)]
theorem Ex.enc_eq (t : Ex) : t.enc = .agg [.int .i64 t.kind, .int .i64 t.lo, .int .i64 t.hi, .str t.name, .str t.arg, .int .i64 t.n, .str t.s, .int .i64 t.op, .int .i64 t.a.kind, .int .i64 t.a.n, .list 3 (t.a.kids.map Ty.enc), .int .i64 t.b.kind, .int .i64 t.b.n, .list 3 (t.b.kids.map Ty.enc), .list 7 (t.pats.map Pat.enc), .list 16 (t.kids.map Ex.enc)] := by cases t; rw [Ex.enc]; rfl
noncomputable instance : DecidableEq Ex := fun a b => Classical.propDecidable (a = b)
@[simp] theorem isAggN_Ex (t : Ex) : isAggN 16 t.enc = true := by rw [Ex.enc_eq]; rfl
@[simp] theorem Ex.proj0 (t : Ex) : proj 0 t.enc = .int .i64 t.kind := by rw [Ex.enc_eq]; rfl
@[simp] theorem Ex.proj1 (t : Ex) : proj 1 t.enc = .int .i64 t.lo := by rw [Ex.enc_eq]; rfl
@[simp] theorem Ex.proj2 (t : Ex) : proj 2 t.enc = .int .i64 t.hi := by rw [Ex.enc_eq]; rfl
@[simp] theorem Ex.proj3 (t : Ex) : proj 3 t.enc = .str t.name := by rw [Ex.enc_eq]; rfl
@[simp] theorem Ex.proj4 (t : Ex) : proj 4 t.enc = .str t.arg := by rw [Ex.enc_eq]; rfl
@[simp] theorem Ex.proj5 (t : Ex) : proj 5 t.enc = .int .i64 t.n := by rw [Ex.enc_eq]; rfl
@[simp] theorem Ex.proj6 (t : Ex) : proj 6 t.enc = .str t.s := by rw [Ex.enc_eq]; rfl
@[simp] theorem Ex.proj7 (t : Ex) : proj 7 t.enc = .int .i64 t.op := by rw [Ex.enc_eq]; rfl
@[simp] theorem Ex.proj8 (t : Ex) : proj 8 t.enc = .int .i64 t.a.kind := by rw [Ex.enc_eq]; rfl
@[simp] theorem Ex.proj9 (t : Ex) : proj 9 t.enc = .int .i64 t.a.n := by rw [Ex.enc_eq]; rfl
@[simp] theorem Ex.proj10 (t : Ex) : proj 10 t.enc = .list 3 (t.a.kids.map Ty.enc) := by rw [Ex.enc_eq]; rfl
@[simp] theorem Ex.proj11 (t : Ex) : proj 11 t.enc = .int .i64 t.b.kind := by rw [Ex.enc_eq]; rfl
@[simp] theorem Ex.proj12 (t : Ex) : proj 12 t.enc = .int .i64 t.b.n := by rw [Ex.enc_eq]; rfl
@[simp] theorem Ex.proj13 (t : Ex) : proj 13 t.enc = .list 3 (t.b.kids.map Ty.enc) := by rw [Ex.enc_eq]; rfl
@[simp] theorem Ex.proj14 (t : Ex) : proj 14 t.enc = .list 7 (t.pats.map Pat.enc) := by rw [Ex.enc_eq]; rfl
@[simp] theorem Ex.proj15 (t : Ex) : proj 15 t.enc = .list 16 (t.kids.map Ex.enc) := by rw [Ex.enc_eq]; rfl
theorem Ex.ext' {t u : Ex} (h0 : t.kind = u.kind) (h1 : t.lo = u.lo) (h2 : t.hi = u.hi) (h3 : t.name = u.name) (h4 : t.arg = u.arg) (h5 : t.n = u.n) (h6 : t.s = u.s) (h7 : t.op = u.op) (h8 : t.a = u.a) (h9 : t.b = u.b) (h10 : t.pats = u.pats) (h11 : t.kids = u.kids) : t = u := by cases t; cases u; simp_all
theorem Ex.kid_lt {t k : Ex} (h : k ∈ t.kids) : SizeOf.sizeOf k < SizeOf.sizeOf t := by
  cases t
  simp only [Ex.kids_mk] at h
  have := List.sizeOf_lt_of_mem h
  simp only [Ex.mk.sizeOf_spec]
  omega
def Ex.size (t : Ex) : Nat := 1 + (t.kids.attach.map fun k => Ex.size k.1).sum
termination_by SizeOf.sizeOf t
decreasing_by exact Ex.kid_lt k.2
inductive Tm where
  | mk (kind : Int) (lo : Int) (hi : Int) (name : ByteArray) (arg : ByteArray) (n : Int) (s : ByteArray) (op : Int) (label : Int) (neg : Bool) (vars : List Int) (a : Ty) (b : Ty) (args : List Ty) (pats : List Pat) (kids : List Tm)

def Tm.kind : Tm → Int | .mk x0 _ _ _ _ _ _ _ _ _ _ _ _ _ _ _ => x0
def Tm.lo : Tm → Int | .mk _ x1 _ _ _ _ _ _ _ _ _ _ _ _ _ _ => x1
def Tm.hi : Tm → Int | .mk _ _ x2 _ _ _ _ _ _ _ _ _ _ _ _ _ => x2
def Tm.name : Tm → ByteArray | .mk _ _ _ x3 _ _ _ _ _ _ _ _ _ _ _ _ => x3
def Tm.arg : Tm → ByteArray | .mk _ _ _ _ x4 _ _ _ _ _ _ _ _ _ _ _ => x4
def Tm.n : Tm → Int | .mk _ _ _ _ _ x5 _ _ _ _ _ _ _ _ _ _ => x5
def Tm.s : Tm → ByteArray | .mk _ _ _ _ _ _ x6 _ _ _ _ _ _ _ _ _ => x6
def Tm.op : Tm → Int | .mk _ _ _ _ _ _ _ x7 _ _ _ _ _ _ _ _ => x7
def Tm.label : Tm → Int | .mk _ _ _ _ _ _ _ _ x8 _ _ _ _ _ _ _ => x8
def Tm.neg : Tm → Bool | .mk _ _ _ _ _ _ _ _ _ x9 _ _ _ _ _ _ => x9
def Tm.vars : Tm → List Int | .mk _ _ _ _ _ _ _ _ _ _ x10 _ _ _ _ _ => x10
def Tm.a : Tm → Ty | .mk _ _ _ _ _ _ _ _ _ _ _ x11 _ _ _ _ => x11
def Tm.b : Tm → Ty | .mk _ _ _ _ _ _ _ _ _ _ _ _ x12 _ _ _ => x12
def Tm.args : Tm → List Ty | .mk _ _ _ _ _ _ _ _ _ _ _ _ _ x13 _ _ => x13
def Tm.pats : Tm → List Pat | .mk _ _ _ _ _ _ _ _ _ _ _ _ _ _ x14 _ => x14
def Tm.kids : Tm → List Tm | .mk _ _ _ _ _ _ _ _ _ _ _ _ _ _ _ x15 => x15
@[simp] theorem Tm.kind_mk (x0 : Int) (x1 : Int) (x2 : Int) (x3 : ByteArray) (x4 : ByteArray) (x5 : Int) (x6 : ByteArray) (x7 : Int) (x8 : Int) (x9 : Bool) (x10 : List Int) (x11 : Ty) (x12 : Ty) (x13 : List Ty) (x14 : List Pat) (x15 : List Tm) : (Tm.mk x0 x1 x2 x3 x4 x5 x6 x7 x8 x9 x10 x11 x12 x13 x14 x15).kind = x0 := rfl
@[simp] theorem Tm.lo_mk (x0 : Int) (x1 : Int) (x2 : Int) (x3 : ByteArray) (x4 : ByteArray) (x5 : Int) (x6 : ByteArray) (x7 : Int) (x8 : Int) (x9 : Bool) (x10 : List Int) (x11 : Ty) (x12 : Ty) (x13 : List Ty) (x14 : List Pat) (x15 : List Tm) : (Tm.mk x0 x1 x2 x3 x4 x5 x6 x7 x8 x9 x10 x11 x12 x13 x14 x15).lo = x1 := rfl
@[simp] theorem Tm.hi_mk (x0 : Int) (x1 : Int) (x2 : Int) (x3 : ByteArray) (x4 : ByteArray) (x5 : Int) (x6 : ByteArray) (x7 : Int) (x8 : Int) (x9 : Bool) (x10 : List Int) (x11 : Ty) (x12 : Ty) (x13 : List Ty) (x14 : List Pat) (x15 : List Tm) : (Tm.mk x0 x1 x2 x3 x4 x5 x6 x7 x8 x9 x10 x11 x12 x13 x14 x15).hi = x2 := rfl
@[simp] theorem Tm.name_mk (x0 : Int) (x1 : Int) (x2 : Int) (x3 : ByteArray) (x4 : ByteArray) (x5 : Int) (x6 : ByteArray) (x7 : Int) (x8 : Int) (x9 : Bool) (x10 : List Int) (x11 : Ty) (x12 : Ty) (x13 : List Ty) (x14 : List Pat) (x15 : List Tm) : (Tm.mk x0 x1 x2 x3 x4 x5 x6 x7 x8 x9 x10 x11 x12 x13 x14 x15).name = x3 := rfl
@[simp] theorem Tm.arg_mk (x0 : Int) (x1 : Int) (x2 : Int) (x3 : ByteArray) (x4 : ByteArray) (x5 : Int) (x6 : ByteArray) (x7 : Int) (x8 : Int) (x9 : Bool) (x10 : List Int) (x11 : Ty) (x12 : Ty) (x13 : List Ty) (x14 : List Pat) (x15 : List Tm) : (Tm.mk x0 x1 x2 x3 x4 x5 x6 x7 x8 x9 x10 x11 x12 x13 x14 x15).arg = x4 := rfl
@[simp] theorem Tm.n_mk (x0 : Int) (x1 : Int) (x2 : Int) (x3 : ByteArray) (x4 : ByteArray) (x5 : Int) (x6 : ByteArray) (x7 : Int) (x8 : Int) (x9 : Bool) (x10 : List Int) (x11 : Ty) (x12 : Ty) (x13 : List Ty) (x14 : List Pat) (x15 : List Tm) : (Tm.mk x0 x1 x2 x3 x4 x5 x6 x7 x8 x9 x10 x11 x12 x13 x14 x15).n = x5 := rfl
@[simp] theorem Tm.s_mk (x0 : Int) (x1 : Int) (x2 : Int) (x3 : ByteArray) (x4 : ByteArray) (x5 : Int) (x6 : ByteArray) (x7 : Int) (x8 : Int) (x9 : Bool) (x10 : List Int) (x11 : Ty) (x12 : Ty) (x13 : List Ty) (x14 : List Pat) (x15 : List Tm) : (Tm.mk x0 x1 x2 x3 x4 x5 x6 x7 x8 x9 x10 x11 x12 x13 x14 x15).s = x6 := rfl
@[simp] theorem Tm.op_mk (x0 : Int) (x1 : Int) (x2 : Int) (x3 : ByteArray) (x4 : ByteArray) (x5 : Int) (x6 : ByteArray) (x7 : Int) (x8 : Int) (x9 : Bool) (x10 : List Int) (x11 : Ty) (x12 : Ty) (x13 : List Ty) (x14 : List Pat) (x15 : List Tm) : (Tm.mk x0 x1 x2 x3 x4 x5 x6 x7 x8 x9 x10 x11 x12 x13 x14 x15).op = x7 := rfl
@[simp] theorem Tm.label_mk (x0 : Int) (x1 : Int) (x2 : Int) (x3 : ByteArray) (x4 : ByteArray) (x5 : Int) (x6 : ByteArray) (x7 : Int) (x8 : Int) (x9 : Bool) (x10 : List Int) (x11 : Ty) (x12 : Ty) (x13 : List Ty) (x14 : List Pat) (x15 : List Tm) : (Tm.mk x0 x1 x2 x3 x4 x5 x6 x7 x8 x9 x10 x11 x12 x13 x14 x15).label = x8 := rfl
@[simp] theorem Tm.neg_mk (x0 : Int) (x1 : Int) (x2 : Int) (x3 : ByteArray) (x4 : ByteArray) (x5 : Int) (x6 : ByteArray) (x7 : Int) (x8 : Int) (x9 : Bool) (x10 : List Int) (x11 : Ty) (x12 : Ty) (x13 : List Ty) (x14 : List Pat) (x15 : List Tm) : (Tm.mk x0 x1 x2 x3 x4 x5 x6 x7 x8 x9 x10 x11 x12 x13 x14 x15).neg = x9 := rfl
@[simp] theorem Tm.vars_mk (x0 : Int) (x1 : Int) (x2 : Int) (x3 : ByteArray) (x4 : ByteArray) (x5 : Int) (x6 : ByteArray) (x7 : Int) (x8 : Int) (x9 : Bool) (x10 : List Int) (x11 : Ty) (x12 : Ty) (x13 : List Ty) (x14 : List Pat) (x15 : List Tm) : (Tm.mk x0 x1 x2 x3 x4 x5 x6 x7 x8 x9 x10 x11 x12 x13 x14 x15).vars = x10 := rfl
@[simp] theorem Tm.a_mk (x0 : Int) (x1 : Int) (x2 : Int) (x3 : ByteArray) (x4 : ByteArray) (x5 : Int) (x6 : ByteArray) (x7 : Int) (x8 : Int) (x9 : Bool) (x10 : List Int) (x11 : Ty) (x12 : Ty) (x13 : List Ty) (x14 : List Pat) (x15 : List Tm) : (Tm.mk x0 x1 x2 x3 x4 x5 x6 x7 x8 x9 x10 x11 x12 x13 x14 x15).a = x11 := rfl
@[simp] theorem Tm.b_mk (x0 : Int) (x1 : Int) (x2 : Int) (x3 : ByteArray) (x4 : ByteArray) (x5 : Int) (x6 : ByteArray) (x7 : Int) (x8 : Int) (x9 : Bool) (x10 : List Int) (x11 : Ty) (x12 : Ty) (x13 : List Ty) (x14 : List Pat) (x15 : List Tm) : (Tm.mk x0 x1 x2 x3 x4 x5 x6 x7 x8 x9 x10 x11 x12 x13 x14 x15).b = x12 := rfl
@[simp] theorem Tm.args_mk (x0 : Int) (x1 : Int) (x2 : Int) (x3 : ByteArray) (x4 : ByteArray) (x5 : Int) (x6 : ByteArray) (x7 : Int) (x8 : Int) (x9 : Bool) (x10 : List Int) (x11 : Ty) (x12 : Ty) (x13 : List Ty) (x14 : List Pat) (x15 : List Tm) : (Tm.mk x0 x1 x2 x3 x4 x5 x6 x7 x8 x9 x10 x11 x12 x13 x14 x15).args = x13 := rfl
@[simp] theorem Tm.pats_mk (x0 : Int) (x1 : Int) (x2 : Int) (x3 : ByteArray) (x4 : ByteArray) (x5 : Int) (x6 : ByteArray) (x7 : Int) (x8 : Int) (x9 : Bool) (x10 : List Int) (x11 : Ty) (x12 : Ty) (x13 : List Ty) (x14 : List Pat) (x15 : List Tm) : (Tm.mk x0 x1 x2 x3 x4 x5 x6 x7 x8 x9 x10 x11 x12 x13 x14 x15).pats = x14 := rfl
@[simp] theorem Tm.kids_mk (x0 : Int) (x1 : Int) (x2 : Int) (x3 : ByteArray) (x4 : ByteArray) (x5 : Int) (x6 : ByteArray) (x7 : Int) (x8 : Int) (x9 : Bool) (x10 : List Int) (x11 : Ty) (x12 : Ty) (x13 : List Ty) (x14 : List Pat) (x15 : List Tm) : (Tm.mk x0 x1 x2 x3 x4 x5 x6 x7 x8 x9 x10 x11 x12 x13 x14 x15).kids = x15 := rfl
def Tm.enc : Tm → DV
  | .mk x0 x1 x2 x3 x4 x5 x6 x7 x8 x9 x10 x11 x12 x13 x14 x15 => .agg [.int .i64 x0, .int .i64 x1, .int .i64 x2, .str x3, .str x4, .int .i64 x5, .str x6, .int .i64 x7, .int .i64 x8, .bool x9, encInts x10, .int .i64 x11.kind, .int .i64 x11.n, .list 3 (x11.kids.map Ty.enc), .int .i64 x12.kind, .int .i64 x12.n, .list 3 (x12.kids.map Ty.enc), .list 3 (x13.map Ty.enc), .list 7 (x14.map Pat.enc), .list 20 (x15.map Tm.enc)]
theorem Tm.enc_eq (t : Tm) : t.enc = .agg [.int .i64 t.kind, .int .i64 t.lo, .int .i64 t.hi, .str t.name, .str t.arg, .int .i64 t.n, .str t.s, .int .i64 t.op, .int .i64 t.label, .bool t.neg, encInts t.vars, .int .i64 t.a.kind, .int .i64 t.a.n, .list 3 (t.a.kids.map Ty.enc), .int .i64 t.b.kind, .int .i64 t.b.n, .list 3 (t.b.kids.map Ty.enc), .list 3 (t.args.map Ty.enc), .list 7 (t.pats.map Pat.enc), .list 20 (t.kids.map Tm.enc)] := by cases t; rw [Tm.enc]; rfl
noncomputable instance : DecidableEq Tm := fun a b => Classical.propDecidable (a = b)
@[simp] theorem isAggN_Tm (t : Tm) : isAggN 20 t.enc = true := by rw [Tm.enc_eq]; rfl
@[simp] theorem Tm.proj0 (t : Tm) : proj 0 t.enc = .int .i64 t.kind := by rw [Tm.enc_eq]; rfl
@[simp] theorem Tm.proj1 (t : Tm) : proj 1 t.enc = .int .i64 t.lo := by rw [Tm.enc_eq]; rfl
@[simp] theorem Tm.proj2 (t : Tm) : proj 2 t.enc = .int .i64 t.hi := by rw [Tm.enc_eq]; rfl
@[simp] theorem Tm.proj3 (t : Tm) : proj 3 t.enc = .str t.name := by rw [Tm.enc_eq]; rfl
@[simp] theorem Tm.proj4 (t : Tm) : proj 4 t.enc = .str t.arg := by rw [Tm.enc_eq]; rfl
@[simp] theorem Tm.proj5 (t : Tm) : proj 5 t.enc = .int .i64 t.n := by rw [Tm.enc_eq]; rfl
@[simp] theorem Tm.proj6 (t : Tm) : proj 6 t.enc = .str t.s := by rw [Tm.enc_eq]; rfl
@[simp] theorem Tm.proj7 (t : Tm) : proj 7 t.enc = .int .i64 t.op := by rw [Tm.enc_eq]; rfl
@[simp] theorem Tm.proj8 (t : Tm) : proj 8 t.enc = .int .i64 t.label := by rw [Tm.enc_eq]; rfl
@[simp] theorem Tm.proj9 (t : Tm) : proj 9 t.enc = .bool t.neg := by rw [Tm.enc_eq]; rfl
@[simp] theorem Tm.proj10 (t : Tm) : proj 10 t.enc = encInts t.vars := by rw [Tm.enc_eq]; rfl
@[simp] theorem Tm.proj11 (t : Tm) : proj 11 t.enc = .int .i64 t.a.kind := by rw [Tm.enc_eq]; rfl
@[simp] theorem Tm.proj12 (t : Tm) : proj 12 t.enc = .int .i64 t.a.n := by rw [Tm.enc_eq]; rfl
@[simp] theorem Tm.proj13 (t : Tm) : proj 13 t.enc = .list 3 (t.a.kids.map Ty.enc) := by rw [Tm.enc_eq]; rfl
@[simp] theorem Tm.proj14 (t : Tm) : proj 14 t.enc = .int .i64 t.b.kind := by rw [Tm.enc_eq]; rfl
@[simp] theorem Tm.proj15 (t : Tm) : proj 15 t.enc = .int .i64 t.b.n := by rw [Tm.enc_eq]; rfl
@[simp] theorem Tm.proj16 (t : Tm) : proj 16 t.enc = .list 3 (t.b.kids.map Ty.enc) := by rw [Tm.enc_eq]; rfl
@[simp] theorem Tm.proj17 (t : Tm) : proj 17 t.enc = .list 3 (t.args.map Ty.enc) := by rw [Tm.enc_eq]; rfl
@[simp] theorem Tm.proj18 (t : Tm) : proj 18 t.enc = .list 7 (t.pats.map Pat.enc) := by rw [Tm.enc_eq]; rfl
@[simp] theorem Tm.proj19 (t : Tm) : proj 19 t.enc = .list 20 (t.kids.map Tm.enc) := by rw [Tm.enc_eq]; rfl
theorem Tm.ext' {t u : Tm} (h0 : t.kind = u.kind) (h1 : t.lo = u.lo) (h2 : t.hi = u.hi) (h3 : t.name = u.name) (h4 : t.arg = u.arg) (h5 : t.n = u.n) (h6 : t.s = u.s) (h7 : t.op = u.op) (h8 : t.label = u.label) (h9 : t.neg = u.neg) (h10 : t.vars = u.vars) (h11 : t.a = u.a) (h12 : t.b = u.b) (h13 : t.args = u.args) (h14 : t.pats = u.pats) (h15 : t.kids = u.kids) : t = u := by cases t; cases u; simp_all
theorem Tm.kid_lt {t k : Tm} (h : k ∈ t.kids) : SizeOf.sizeOf k < SizeOf.sizeOf t := by
  cases t
  simp only [Tm.kids_mk] at h
  have := List.sizeOf_lt_of_mem h
  simp only [Tm.mk.sizeOf_spec]
  omega
def Tm.size (t : Tm) : Nat := 1 + (t.kids.attach.map fun k => Tm.size k.1).sum
termination_by SizeOf.sizeOf t
decreasing_by exact Tm.kid_lt k.2
inductive Deriv where
  | mk (types : List Ty) (vars : List Int) (kids : List Deriv)

def Deriv.types : Deriv → List Ty | .mk x0 _ _ => x0
def Deriv.vars : Deriv → List Int | .mk _ x1 _ => x1
def Deriv.kids : Deriv → List Deriv | .mk _ _ x2 => x2
@[simp] theorem Deriv.types_mk (x0 : List Ty) (x1 : List Int) (x2 : List Deriv) : (Deriv.mk x0 x1 x2).types = x0 := rfl
@[simp] theorem Deriv.vars_mk (x0 : List Ty) (x1 : List Int) (x2 : List Deriv) : (Deriv.mk x0 x1 x2).vars = x1 := rfl
@[simp] theorem Deriv.kids_mk (x0 : List Ty) (x1 : List Int) (x2 : List Deriv) : (Deriv.mk x0 x1 x2).kids = x2 := rfl
def Deriv.enc : Deriv → DV
  | .mk x0 x1 x2 => .agg [.list 3 (x0.map Ty.enc), encInts x1, .list 3 (x2.map Deriv.enc)]
theorem Deriv.enc_eq (t : Deriv) : t.enc = .agg [.list 3 (t.types.map Ty.enc), encInts t.vars, .list 3 (t.kids.map Deriv.enc)] := by cases t; rw [Deriv.enc]; rfl
noncomputable instance : DecidableEq Deriv := fun a b => Classical.propDecidable (a = b)
@[simp] theorem isAggN_Deriv (t : Deriv) : isAggN 3 t.enc = true := by rw [Deriv.enc_eq]; rfl
@[simp] theorem Deriv.proj0 (t : Deriv) : proj 0 t.enc = .list 3 (t.types.map Ty.enc) := by rw [Deriv.enc_eq]; rfl
@[simp] theorem Deriv.proj1 (t : Deriv) : proj 1 t.enc = encInts t.vars := by rw [Deriv.enc_eq]; rfl
@[simp] theorem Deriv.proj2 (t : Deriv) : proj 2 t.enc = .list 3 (t.kids.map Deriv.enc) := by rw [Deriv.enc_eq]; rfl
theorem Deriv.ext' {t u : Deriv} (h0 : t.types = u.types) (h1 : t.vars = u.vars) (h2 : t.kids = u.kids) : t = u := by cases t; cases u; simp_all
theorem Deriv.kid_lt {t k : Deriv} (h : k ∈ t.kids) : SizeOf.sizeOf k < SizeOf.sizeOf t := by
  cases t
  simp only [Deriv.kids_mk] at h
  have := List.sizeOf_lt_of_mem h
  simp only [Deriv.mk.sizeOf_spec]
  omega
def Deriv.size (t : Deriv) : Nat := 1 + (t.kids.attach.map fun k => Deriv.size k.1).sum
termination_by SizeOf.sizeOf t
decreasing_by exact Deriv.kid_lt k.2
inductive Coer where
  | mk (kind : Int) (head : Int) (label : Int) (neg : Bool) (kids : List Coer)

def Coer.kind : Coer → Int | .mk x0 _ _ _ _ => x0
def Coer.head : Coer → Int | .mk _ x1 _ _ _ => x1
def Coer.label : Coer → Int | .mk _ _ x2 _ _ => x2
def Coer.neg : Coer → Bool | .mk _ _ _ x3 _ => x3
def Coer.kids : Coer → List Coer | .mk _ _ _ _ x4 => x4
@[simp] theorem Coer.kind_mk (x0 : Int) (x1 : Int) (x2 : Int) (x3 : Bool) (x4 : List Coer) : (Coer.mk x0 x1 x2 x3 x4).kind = x0 := rfl
@[simp] theorem Coer.head_mk (x0 : Int) (x1 : Int) (x2 : Int) (x3 : Bool) (x4 : List Coer) : (Coer.mk x0 x1 x2 x3 x4).head = x1 := rfl
@[simp] theorem Coer.label_mk (x0 : Int) (x1 : Int) (x2 : Int) (x3 : Bool) (x4 : List Coer) : (Coer.mk x0 x1 x2 x3 x4).label = x2 := rfl
@[simp] theorem Coer.neg_mk (x0 : Int) (x1 : Int) (x2 : Int) (x3 : Bool) (x4 : List Coer) : (Coer.mk x0 x1 x2 x3 x4).neg = x3 := rfl
@[simp] theorem Coer.kids_mk (x0 : Int) (x1 : Int) (x2 : Int) (x3 : Bool) (x4 : List Coer) : (Coer.mk x0 x1 x2 x3 x4).kids = x4 := rfl
def Coer.enc : Coer → DV
  | .mk x0 x1 x2 x3 x4 => .agg [.int .i64 x0, .int .i64 x1, .int .i64 x2, .bool x3, .list 5 (x4.map Coer.enc)]
theorem Coer.enc_eq (t : Coer) : t.enc = .agg [.int .i64 t.kind, .int .i64 t.head, .int .i64 t.label, .bool t.neg, .list 5 (t.kids.map Coer.enc)] := by cases t; rw [Coer.enc]; rfl
noncomputable instance : DecidableEq Coer := fun a b => Classical.propDecidable (a = b)
@[simp] theorem isAggN_Coer (t : Coer) : isAggN 5 t.enc = true := by rw [Coer.enc_eq]; rfl
@[simp] theorem Coer.proj0 (t : Coer) : proj 0 t.enc = .int .i64 t.kind := by rw [Coer.enc_eq]; rfl
@[simp] theorem Coer.proj1 (t : Coer) : proj 1 t.enc = .int .i64 t.head := by rw [Coer.enc_eq]; rfl
@[simp] theorem Coer.proj2 (t : Coer) : proj 2 t.enc = .int .i64 t.label := by rw [Coer.enc_eq]; rfl
@[simp] theorem Coer.proj3 (t : Coer) : proj 3 t.enc = .bool t.neg := by rw [Coer.enc_eq]; rfl
@[simp] theorem Coer.proj4 (t : Coer) : proj 4 t.enc = .list 5 (t.kids.map Coer.enc) := by rw [Coer.enc_eq]; rfl
theorem Coer.ext' {t u : Coer} (h0 : t.kind = u.kind) (h1 : t.head = u.head) (h2 : t.label = u.label) (h3 : t.neg = u.neg) (h4 : t.kids = u.kids) : t = u := by cases t; cases u; simp_all
theorem Coer.kid_lt {t k : Coer} (h : k ∈ t.kids) : SizeOf.sizeOf k < SizeOf.sizeOf t := by
  cases t
  simp only [Coer.kids_mk] at h
  have := List.sizeOf_lt_of_mem h
  simp only [Coer.mk.sizeOf_spec]
  omega
def Coer.size (t : Coer) : Nat := 1 + (t.kids.attach.map fun k => Coer.size k.1).sum
termination_by SizeOf.sizeOf t
decreasing_by exact Coer.kid_lt k.2
inductive Val where
  | mk (kind : Int) (n : Int) (s : ByteArray) (c : Coer) (kids : List Val)

def Val.kind : Val → Int | .mk x0 _ _ _ _ => x0
def Val.n : Val → Int | .mk _ x1 _ _ _ => x1
def Val.s : Val → ByteArray | .mk _ _ x2 _ _ => x2
def Val.c : Val → Coer | .mk _ _ _ x3 _ => x3
def Val.kids : Val → List Val | .mk _ _ _ _ x4 => x4
@[simp] theorem Val.kind_mk (x0 : Int) (x1 : Int) (x2 : ByteArray) (x3 : Coer) (x4 : List Val) : (Val.mk x0 x1 x2 x3 x4).kind = x0 := rfl
@[simp] theorem Val.n_mk (x0 : Int) (x1 : Int) (x2 : ByteArray) (x3 : Coer) (x4 : List Val) : (Val.mk x0 x1 x2 x3 x4).n = x1 := rfl
@[simp] theorem Val.s_mk (x0 : Int) (x1 : Int) (x2 : ByteArray) (x3 : Coer) (x4 : List Val) : (Val.mk x0 x1 x2 x3 x4).s = x2 := rfl
@[simp] theorem Val.c_mk (x0 : Int) (x1 : Int) (x2 : ByteArray) (x3 : Coer) (x4 : List Val) : (Val.mk x0 x1 x2 x3 x4).c = x3 := rfl
@[simp] theorem Val.kids_mk (x0 : Int) (x1 : Int) (x2 : ByteArray) (x3 : Coer) (x4 : List Val) : (Val.mk x0 x1 x2 x3 x4).kids = x4 := rfl
def Val.enc : Val → DV
  | .mk x0 x1 x2 x3 x4 => .agg [.int .i64 x0, .int .i64 x1, .str x2, .int .i64 x3.kind, .int .i64 x3.head, .int .i64 x3.label, .bool x3.neg, .list 5 (x3.kids.map Coer.enc), .list 9 (x4.map Val.enc)]
theorem Val.enc_eq (t : Val) : t.enc = .agg [.int .i64 t.kind, .int .i64 t.n, .str t.s, .int .i64 t.c.kind, .int .i64 t.c.head, .int .i64 t.c.label, .bool t.c.neg, .list 5 (t.c.kids.map Coer.enc), .list 9 (t.kids.map Val.enc)] := by cases t; rw [Val.enc]; rfl
noncomputable instance : DecidableEq Val := fun a b => Classical.propDecidable (a = b)
@[simp] theorem isAggN_Val (t : Val) : isAggN 9 t.enc = true := by rw [Val.enc_eq]; rfl
@[simp] theorem Val.proj0 (t : Val) : proj 0 t.enc = .int .i64 t.kind := by rw [Val.enc_eq]; rfl
@[simp] theorem Val.proj1 (t : Val) : proj 1 t.enc = .int .i64 t.n := by rw [Val.enc_eq]; rfl
@[simp] theorem Val.proj2 (t : Val) : proj 2 t.enc = .str t.s := by rw [Val.enc_eq]; rfl
@[simp] theorem Val.proj3 (t : Val) : proj 3 t.enc = .int .i64 t.c.kind := by rw [Val.enc_eq]; rfl
@[simp] theorem Val.proj4 (t : Val) : proj 4 t.enc = .int .i64 t.c.head := by rw [Val.enc_eq]; rfl
@[simp] theorem Val.proj5 (t : Val) : proj 5 t.enc = .int .i64 t.c.label := by rw [Val.enc_eq]; rfl
@[simp] theorem Val.proj6 (t : Val) : proj 6 t.enc = .bool t.c.neg := by rw [Val.enc_eq]; rfl
@[simp] theorem Val.proj7 (t : Val) : proj 7 t.enc = .list 5 (t.c.kids.map Coer.enc) := by rw [Val.enc_eq]; rfl
@[simp] theorem Val.proj8 (t : Val) : proj 8 t.enc = .list 9 (t.kids.map Val.enc) := by rw [Val.enc_eq]; rfl
theorem Val.ext' {t u : Val} (h0 : t.kind = u.kind) (h1 : t.n = u.n) (h2 : t.s = u.s) (h3 : t.c = u.c) (h4 : t.kids = u.kids) : t = u := by cases t; cases u; simp_all
theorem Val.kid_lt {t k : Val} (h : k ∈ t.kids) : SizeOf.sizeOf k < SizeOf.sizeOf t := by
  cases t
  simp only [Val.kids_mk] at h
  have := List.sizeOf_lt_of_mem h
  simp only [Val.mk.sizeOf_spec]
  omega
def Val.size (t : Val) : Nat := 1 + (t.kids.attach.map fun k => Val.size k.1).sum
termination_by SizeOf.sizeOf t
decreasing_by exact Val.kid_lt k.2
end Go.Su

/-
  PLAIN DATA: what the data's operations make of numbers, texts, lists.
-/
namespace Go.Su

@[simp] theorem ob_some' {α β : Type} (a : α) (f : α → Option β) : ob (some a) f = f a := rfl
@[simp] theorem ob_none' {α β : Type} (f : α → Option β) : ob none f = none := rfl
@[simp] theorem og_true' {β : Type} (x : Option β) : og true x = x := rfl
@[simp] theorem og_false' {β : Type} (x : Option β) : og false x = none := rfl
@[simp] theorem oif_bool {β : Type} (b : Bool) (x y : Option β) : oif (.bool b) x y = if b = true then x else y := by cases b <;> rfl
@[simp] theorem ogd_bool {β : Type} (b : Bool) (x y z : Option β) : ogd (.bool b) x y z = if b = true then x else y := by cases b <;> rfl
@[simp] theorem dLen_list (sz : Nat) (ds : List DV) : dLen (.list sz ds) = some (.int .i64 ds.length) := rfl
@[simp] theorem dLen_ints (l : List Int) : dLen (encInts l) = some (.int .i64 l.length) := by simp [encInts]
@[simp] theorem dList_list (sz : Nat) (ds : List DV) : dList (.list sz ds) = some (sz, ds) := rfl
@[simp] theorem dLenS_str (s : ByteArray) : dLenS (.str s) = some (.int .i64 s.size) := rfl
@[simp] theorem dBin_eql (k : IntKind) (a b : Int) : dBin .eql (.int k a) (.int k b) = some (.bool (decide (a = b))) := by
  simp only [dBin, isShift, dArith, if_true]; rfl
@[simp] theorem dBin_neq (k : IntKind) (a b : Int) : dBin .neq (.int k a) (.int k b) = some (.bool (!decide (a = b))) := by
  simp only [dBin, isShift, dArith, if_true]; rfl
@[simp] theorem dBin_lss (k : IntKind) (a b : Int) : dBin .lss (.int k a) (.int k b) = some (.bool (decide (a < b))) := by
  simp only [dBin, isShift, dArith, if_true]
@[simp] theorem dBin_leq (k : IntKind) (a b : Int) : dBin .leq (.int k a) (.int k b) = some (.bool (decide (a ≤ b))) := by
  simp only [dBin, isShift, dArith, if_true]
@[simp] theorem dBin_gtr (k : IntKind) (a b : Int) : dBin .gtr (.int k a) (.int k b) = some (.bool (decide (b < a))) := by
  simp only [dBin, isShift, dArith, if_true, gt_iff_lt]
@[simp] theorem dBin_geq (k : IntKind) (a b : Int) : dBin .geq (.int k a) (.int k b) = some (.bool (decide (b ≤ a))) := by
  simp only [dBin, isShift, dArith, if_true, ge_iff_le]
theorem dBin_add (k : IntKind) (a b : Int) : dBin .add (.int k a) (.int k b) = some (.int k (k.wrap (a + b))) := by
  simp only [dBin, isShift, dArith, if_true]
theorem dBin_sub (k : IntKind) (a b : Int) : dBin .sub (.int k a) (.int k b) = some (.int k (k.wrap (a - b))) := by
  simp only [dBin, isShift, dArith, if_true]
theorem dBin_mul (k : IntKind) (a b : Int) : dBin .mul (.int k a) (.int k b) = some (.int k (k.wrap (a * b))) := by
  simp only [dBin, isShift, dArith, if_true]

theorem wrap_id {n : Int} (h1 : -9223372036854775808 ≤ n) (h2 : n ≤ 9223372036854775807) : IntKind.i64.wrap n = n := Go.IntWalk.i64_in n ⟨h1, h2⟩

theorem dAdd {a b : Int} (h1 : -9223372036854775808 ≤ a + b) (h2 : a + b ≤ 9223372036854775807) : dBin .add (.int .i64 a) (.int .i64 b) = some (.int .i64 (a + b)) := by
  rw [dBin_add, wrap_id h1 h2]

theorem bytes_toList (s : ByteArray) : s.toList = s.data.toList := by
  have loop : ∀ (n i : Nat) (r : List UInt8), s.size - i = n → ByteArray.toList.loop s i r = r.reverse ++ s.data.toList.drop i := by
    intro n
    induction n with
    | zero =>
      intro i r h
      rw [ByteArray.toList.loop, if_neg (by omega)]
      have : s.data.toList.length ≤ i := by simp only [Array.length_toList]; exact Nat.le_of_sub_eq_zero h
      simp [List.drop_of_length_le this]
    | succ n ih =>
      intro i r h
      have hi : i < s.size := by omega
      rw [ByteArray.toList.loop, if_pos hi, ih (i + 1) _ (by omega)]
      have hl : i < s.data.toList.length := by simpa using hi
      rw [List.drop_eq_getElem_cons hl]
      have : s.get! i = s.data.toList[i] := by
        simp only [ByteArray.get!, Array.getElem_toList]
        exact getElem!_pos s.data i hi
      rw [this]
      simp
  rw [ByteArray.toList, loop _ 0 [] rfl]
  simp

theorem bytes_ext {a b : ByteArray} (h : a.toList = b.toList) : a = b := by
  rw [bytes_toList, bytes_toList] at h
  cases a; cases b
  simp only [ByteArray.mk.injEq]
  exact Array.ext' h

theorem bytes_dec (a b : ByteArray) : (a.toList == b.toList) = decide (a = b) := by
  by_cases h : a = b
  · subst h; simp
  · have : a.toList ≠ b.toList := fun h' => h (bytes_ext h')
    simp [h, this]

@[simp] theorem dBin_seql (a b : ByteArray) : dBin .eql (.str a) (.str b) = some (.bool (decide (a = b))) := by
  simp only [dBin, dStrOp]
  rw [bytes_dec]
@[simp] theorem dBin_sneq (a b : ByteArray) : dBin .neq (.str a) (.str b) = some (.bool (!decide (a = b))) := by
  simp only [dBin, dStrOp]
  rw [bytes_dec]

@[simp] theorem dEqB_bool (a b : Bool) : dEqB (.bool a) (.bool b) = some (a == b) := rfl
@[simp] theorem dUn_not (b : Bool) : dUn .not (.bool b) = some (.bool !b) := rfl
@[simp] theorem dPick_bool (c : Bool) (a b : DV) : dPick (.bool c) a b = some (if c = true then a else b) := by cases c <;> rfl
@[simp] theorem isCell_int (k : IntKind) (n : Int) : isCell (.int k n) = true := rfl
@[simp] theorem isCell_bool (b : Bool) : isCell (.bool b) = true := rfl
@[simp] theorem isCell_str (s : ByteArray) : isCell (.str s) = true := rfl
@[simp] theorem isCell_list (sz : Nat) (ds : List DV) : isCell (.list sz ds) = true := rfl
@[simp] theorem isCell_ints (l : List Int) : isCell (encInts l) = true := rfl
@[simp] theorem isLeaf_int (k : IntKind) (n : Int) : isLeaf (.int k n) = true := rfl
@[simp] theorem isLeaf_str (s : ByteArray) : isLeaf (.str s) = true := rfl
@[simp] theorem isKey_int (n : Int) : isKey false (.int .i64 n) = true := rfl
@[simp] theorem isKey_str (s : ByteArray) : isKey true (.str s) = true := rfl

end Go.Su

/-
  FROM A READING TO DATA: what an argument reads as lies in memory as plain data.
-/
namespace Go.Su

mutual
def bulkW {H : Type} : DataW H → Nat
  | .lit (.string bytes) => bytes.length + 1
  | .lit _ => 1
  | .nil => 1
  | .ptr d => bulkW d + 1
  | .slice elems spare => bulkAll elems + bulkAll spare + 1
  | .agg parts => bulkAll parts + 1
  | .iface _ d => bulkW d + 1
  | .map entries => bulkEntries entries + 1
  | .held _ => 1
def bulkAll {H : Type} : List (DataW H) → Nat
  | [] => 0
  | d :: r => bulkW d + bulkAll r
def bulkEntries {H : Type} : List (Lit × DataW H) → Nat
  | [] => 0
  | x :: r => bulkEntry x + bulkEntries r
def bulkEntry {H : Type} : Lit × DataW H → Nat
  | (.string bytes, d) => bytes.length + bulkW d + 1
  | (_, d) => bulkW d + 1
end

/-- All that is there. -/
def Old (w : World) : Seal := fun b _ => b < w.heap.size

section
variable {H : Type} {enc : TypeId × Value → H} {P : Program} {w : World} {held : Bool}

abbrev Rd (enc : TypeId × Value → H) (P : Program) (w : World) (held : Bool) : Nat → TypeId → List Value → Option (DataW H × List MemPlace) := DataW.trod enc P w 0 (fun _ => true) held

theorem rd_int {k : IntKind} {t : TypeId} {fuel : Nat} {cs : List Value} {x : DataW H × List MemPlace} (ht : P.underlying t = some (.int k)) (hr : Rd enc P w held fuel t cs = some x) : ∃ n : Int, RC (Old w) w.heap (.int k n) cs ∧ (Lit.int k n).wf = true ∧ 1 ≤ bulkW x.1 := by
  obtain ⟨n, rfl, rfl, hw⟩ := DataW.trod_int ht hr
  exact ⟨n, by simp only [RC], hw, by simp [bulkW]⟩

end
end Go.Su

/-
  FROM A READING TO DATA: the program's types, one by one. By program.
-/
namespace Go.Su
set_option linter.unusedSimpArgs false
set_option linter.unusedVariables false

def IntAt (P : Program) (t : TypeId) : Prop := P.underlying t = some (.int .i64) ∧ P.cellsOf t = 1
def StrAt (P : Program) (t : TypeId) : Prop := P.underlying t = some .string ∧ P.cellsOf t = 1
def BoolAt (P : Program) (t : TypeId) : Prop := P.underlying t = some .bool ∧ P.cellsOf t = 1
def SliceAt (P : Program) (t el : TypeId) : Prop := P.underlying t = some (.slice el) ∧ P.cellsOf t = 1
def SpanAt (P : Program) (t : TypeId) : Prop := ∃ f0 f1 : Field, P.underlying t = some (.struct #[f0, f1]) ∧ P.cellsOf t = 2 ∧ (IntAt P f0.type ∧ f0.offset = 0) ∧ (IntAt P f1.type ∧ f1.offset = 1)
def IntsAt (P : Program) (t : TypeId) : Prop := ∃ el, SliceAt P t el ∧ IntAt P el

section
variable {H : Type} {enc : TypeId × Value → H} {P : Program} {w : World} {held : Bool}

def TyAt (P : Program) (t : TypeId) : Prop := ∃ f0 f1 f2 : Field, P.underlying t = some (.struct #[f0, f1, f2]) ∧ P.cellsOf t = 3 ∧ (IntAt P f0.type ∧ f0.offset = 0) ∧ (IntAt P f1.type ∧ f1.offset = 1) ∧ (SliceAt P f2.type t ∧ f2.offset = 2)
theorem TyAt.cells {t : TypeId} (A : TyAt P t) : P.cellsOf t = 3 := by obtain ⟨_, _, _, _, h, _⟩ := A; exact h
def PatAt (P : Program) (t : TypeId) : Prop := ∃ f0 f1 f2 f3 f4 f5 : Field, P.underlying t = some (.struct #[f0, f1, f2, f3, f4, f5]) ∧ P.cellsOf t = 7 ∧ (IntAt P f0.type ∧ f0.offset = 0) ∧ (SpanAt P f1.type ∧ f1.offset = 1) ∧ (StrAt P f2.type ∧ f2.offset = 3) ∧ (IntAt P f3.type ∧ f3.offset = 4) ∧ (StrAt P f4.type ∧ f4.offset = 5) ∧ (SliceAt P f5.type t ∧ f5.offset = 6)
theorem PatAt.cells {t : TypeId} (A : PatAt P t) : P.cellsOf t = 7 := by obtain ⟨_, _, _, _, _, _, _, h, _⟩ := A; exact h
def ExAt (P : Program) (t : TypeId) : Prop := ∃ f0 f1 f2 f3 f4 f5 f6 f7 f8 f9 f10 : Field, P.underlying t = some (.struct #[f0, f1, f2, f3, f4, f5, f6, f7, f8, f9, f10]) ∧ P.cellsOf t = 16 ∧ (IntAt P f0.type ∧ f0.offset = 0) ∧ (SpanAt P f1.type ∧ f1.offset = 1) ∧ (StrAt P f2.type ∧ f2.offset = 3) ∧ (StrAt P f3.type ∧ f3.offset = 4) ∧ (IntAt P f4.type ∧ f4.offset = 5) ∧ (StrAt P f5.type ∧ f5.offset = 6) ∧ (IntAt P f6.type ∧ f6.offset = 7) ∧ (TyAt P f7.type ∧ f7.offset = 8) ∧ (TyAt P f8.type ∧ f8.offset = 11) ∧ ((∃ el, SliceAt P f9.type el ∧ PatAt P el) ∧ f9.offset = 14) ∧ (SliceAt P f10.type t ∧ f10.offset = 15)
theorem ExAt.cells {t : TypeId} (A : ExAt P t) : P.cellsOf t = 16 := by obtain ⟨_, _, _, _, _, _, _, _, _, _, _, _, h, _⟩ := A; exact h
def TmAt (P : Program) (t : TypeId) : Prop := ∃ f0 f1 f2 f3 f4 f5 f6 f7 f8 f9 f10 f11 f12 f13 f14 : Field, P.underlying t = some (.struct #[f0, f1, f2, f3, f4, f5, f6, f7, f8, f9, f10, f11, f12, f13, f14]) ∧ P.cellsOf t = 20 ∧ (IntAt P f0.type ∧ f0.offset = 0) ∧ (SpanAt P f1.type ∧ f1.offset = 1) ∧ (StrAt P f2.type ∧ f2.offset = 3) ∧ (StrAt P f3.type ∧ f3.offset = 4) ∧ (IntAt P f4.type ∧ f4.offset = 5) ∧ (StrAt P f5.type ∧ f5.offset = 6) ∧ (IntAt P f6.type ∧ f6.offset = 7) ∧ (IntAt P f7.type ∧ f7.offset = 8) ∧ (BoolAt P f8.type ∧ f8.offset = 9) ∧ (IntsAt P f9.type ∧ f9.offset = 10) ∧ (TyAt P f10.type ∧ f10.offset = 11) ∧ (TyAt P f11.type ∧ f11.offset = 14) ∧ ((∃ el, SliceAt P f12.type el ∧ TyAt P el) ∧ f12.offset = 17) ∧ ((∃ el, SliceAt P f13.type el ∧ PatAt P el) ∧ f13.offset = 18) ∧ (SliceAt P f14.type t ∧ f14.offset = 19)
theorem TmAt.cells {t : TypeId} (A : TmAt P t) : P.cellsOf t = 20 := by obtain ⟨_, _, _, _, _, _, _, _, _, _, _, _, _, _, _, _, h, _⟩ := A; exact h
def DerivAt (P : Program) (t : TypeId) : Prop := ∃ f0 f1 f2 : Field, P.underlying t = some (.struct #[f0, f1, f2]) ∧ P.cellsOf t = 3 ∧ ((∃ el, SliceAt P f0.type el ∧ TyAt P el) ∧ f0.offset = 0) ∧ (IntsAt P f1.type ∧ f1.offset = 1) ∧ (SliceAt P f2.type t ∧ f2.offset = 2)
theorem DerivAt.cells {t : TypeId} (A : DerivAt P t) : P.cellsOf t = 3 := by obtain ⟨_, _, _, _, h, _⟩ := A; exact h
def CoerAt (P : Program) (t : TypeId) : Prop := ∃ f0 f1 f2 f3 f4 : Field, P.underlying t = some (.struct #[f0, f1, f2, f3, f4]) ∧ P.cellsOf t = 5 ∧ (IntAt P f0.type ∧ f0.offset = 0) ∧ (IntAt P f1.type ∧ f1.offset = 1) ∧ (IntAt P f2.type ∧ f2.offset = 2) ∧ (BoolAt P f3.type ∧ f3.offset = 3) ∧ (SliceAt P f4.type t ∧ f4.offset = 4)
theorem CoerAt.cells {t : TypeId} (A : CoerAt P t) : P.cellsOf t = 5 := by obtain ⟨_, _, _, _, _, _, h, _⟩ := A; exact h
def ValAt (P : Program) (t : TypeId) : Prop := ∃ f0 f1 f2 f3 f4 : Field, P.underlying t = some (.struct #[f0, f1, f2, f3, f4]) ∧ P.cellsOf t = 9 ∧ (IntAt P f0.type ∧ f0.offset = 0) ∧ (IntAt P f1.type ∧ f1.offset = 1) ∧ (StrAt P f2.type ∧ f2.offset = 2) ∧ (CoerAt P f3.type ∧ f3.offset = 3) ∧ (SliceAt P f4.type t ∧ f4.offset = 8)
theorem ValAt.cells {t : TypeId} (A : ValAt P t) : P.cellsOf t = 9 := by obtain ⟨_, _, _, _, _, _, h, _⟩ := A; exact h
end
end Go.Su

/-
  TYPES: what is said of them.
-/
namespace Go.Su

/-- How many kids a kind of types has; -1: it is none. -/
def arity (k : Int) : Int :=
  if k = 1 ∨ k = 2 ∨ k = 3 ∨ k = 4 ∨ k = 5 ∨ k = 6 then 0 else if k = 8 then 1 else if k = 7 ∨ k = 9 then 2 else -1

def Ty.right : Ty → Bool
  | .mk k n ks => decide (arity k = ks.length) && decide (0 ≤ n) && decide (n ≤ 1048576) && (decide (k = 6) || decide (n = 0)) && (ks.map Ty.right).all id

def Ty.depth : Ty → Nat
  | .mk _ _ ks => (ks.map Ty.depth).foldl max 0 + 1

/-- Its variables behind others, each once. -/
def Ty.varsOn : Ty → List Int → List Int
  | .mk k n ks, l => ks.foldl (fun l k => Ty.varsOn k l) (if k = 6 ∧ n ∉ l then l ++ [n] else l)

def Ty.vars (t : Ty) : List Int := t.varsOn []

/-- No node has too many kids to be counted. -/
def Ty.thin : Ty → Bool
  | .mk _ _ ks => decide (ks.length ≤ lim) && (ks.map Ty.thin).all id

/-- How many nodes are variables. -/
def Ty.vcount : Ty → Nat
  | .mk k _ ks => (if k = 6 then 1 else 0) + (ks.map Ty.vcount).sum
end Go.Su

/-
  THE DATA MACHINE: iterators over trees: which elements come.
-/
namespace Go.Su

def flatL (f : DV → Option (List DV)) : List DV → Option (List DV)
  | [] => some []
  | d :: ds => ob (f d) fun a => ob (flatL f ds) fun b => some (a ++ b)

/-- A tree of aggregates of `sz` cells, its kids in cell `kf`: it and all within it, in the tree's order. -/
def flatN (sz kf : Nat) : Nat → DV → Option (List DV)
  | 0, _ => none
  | n + 1, d =>
    match d with
    | .agg cs => og (cs.length == sz) (match cs.getD kf .undef with
      | .list s ds => og (s == sz && decide (ds.length ≤ lim)) (ob (flatL (flatN sz kf n) ds) fun l => some (.agg cs :: l))
      | _ => none)
    | _ => none

open Classical in
noncomputable def flatD (sz kf : Nat) (cs : List DV) : Option (List DV) :=
  if h : ∃ ds n, flatN sz kf n (.agg cs) = some ds then some h.choose else none

theorem flatL_mono {f g : DV → Option (List DV)} (h : ∀ d l, f d = some l → g d = some l) : ∀ {ds l : List DV}, flatL f ds = some l → flatL g ds = some l
  | [], l, H => H
  | d :: ds, l, H => by
    simp only [flatL] at H ⊢
    obtain ⟨a, h1, H⟩ := ob_some H
    obtain ⟨b, h2, H⟩ := ob_some H
    rw [h _ _ h1, flatL_mono h h2]
    exact H

theorem flatN_up {sz kf : Nat} : ∀ {n : Nat} {d : DV} {l : List DV}, flatN sz kf n d = some l → flatN sz kf (n + 1) d = some l
  | 0, d, l, H => by simp [flatN] at H
  | n + 1, d, l, H => by
    cases d with
    | agg cs =>
      rw [flatN] at H ⊢
      obtain ⟨h1, H⟩ := og_some H
      rw [h1]
      cases hk : cs.getD kf .undef with
      | list s ds =>
        rw [hk] at H
        simp only at H ⊢
        obtain ⟨h2, H⟩ := og_some H
        rw [h2]
        obtain ⟨a, h3, H⟩ := ob_some H
        rw [flatL_mono (fun d l h => flatN_up h) h3]
        exact H
      | _ => rw [hk] at H; simp at H
    | _ => simp [flatN] at H

theorem flatN_le {sz kf n m : Nat} (h : n ≤ m) {d : DV} {l : List DV} (H : flatN sz kf n d = some l) : flatN sz kf m d = some l := by
  induction m with
  | zero => rw [Nat.le_zero.1 h] at H; exact H
  | succ m ih =>
    rcases Nat.lt_or_ge m n with h1 | h1
    · rw [show m + 1 = n by omega]; exact H
    · exact flatN_up (ih h1)

theorem flatD_of {sz kf n : Nat} {cs ds : List DV} (H : flatN sz kf n (.agg cs) = some ds) : flatD sz kf cs = some ds := by
  have h : ∃ ds n, flatN sz kf n (.agg cs) = some ds := ⟨ds, n, H⟩
  unfold flatD
  rw [dif_pos h]
  obtain ⟨m, hm⟩ := h.choose_spec
  have h1 := flatN_le (Nat.le_add_right n m) H
  have h2 := flatN_le (Nat.le_add_left m n) hm
  rw [h1] at h2
  exact h2.symm

theorem flatD_some {sz kf : Nat} {cs ds : List DV} (H : flatD sz kf cs = some ds) : ∃ n, flatN sz kf n (.agg cs) = some ds := by
  unfold flatD at H
  split at H
  · rename_i h
    simp only [Option.some.injEq] at H
    rw [← H]
    exact h.choose_spec
  · cases H

/-- What an iterator's frames may lean on: their own variables, and what is sealed. -/
structure Kpt (E : Env) (W : World) (E' : Env) (W' : World) : Prop where
  size : W.heap.size ≤ W'.heap.size
  blk : ∀ b, b < W.heap.size → (∀ o, E.O b o = .other) → W'.heap[b]? = W.heap[b]? ∧ ∀ o, E'.O b o = .other
  sh : SealLe E.S W.heap E'.S W'.heap

theorem Kpt.trans {E E1 E2 : Env} {W W1 W2 : World} (h : Kpt E W E1 W1) (k : Kpt E1 W1 E2 W2) : Kpt E W E2 W2 := by
  refine ⟨Nat.le_trans h.size k.size, fun b hb ho => ?_, ⟨fun b o hs => k.sh.s b o (h.sh.s b o hs), fun b o v hs hv => k.sh.c b o v (h.sh.s b o hs) (h.sh.c b o v hs hv)⟩⟩
  obtain ⟨h1, h2⟩ := h.blk b hb ho
  obtain ⟨h3, h4⟩ := k.blk b (Nat.lt_of_lt_of_le hb h.size) h2
  exact ⟨h3.trans h1, h4⟩

theorem Kpt.of_pr {E E' : Env} {W W' : World} (P : Pr Ours E W.heap E' W'.heap) (hf : ∀ b o, W.heap.size ≤ b → E.O b o = .other) : Kpt E W E' W' := by
  refine ⟨P.size, fun b hb ho => ⟨?_, fun o => P.otherTag hb (ho o)⟩, P.shut (by simp [Ours]) hf⟩
  have hk := P.blk b hb
  have hb' : W.heap[b]? = some W.heap[b] := Array.getElem?_eq_getElem hb
  rw [hb'] at hk ⊢
  unfold KeepBlk at hk
  split at hk
  · rename_i hx; cases hx
  · rename_i c T f hx
    simp only [Option.some.injEq] at hx
    obtain ⟨c', h1, h2, h3⟩ := hk
    rw [h1, hx]
    congr 2
    refine Array.ext_getElem? fun o => h3 o ?_
    rw [ho o]; simp [Ours]
  · rename_i ob _ hx
    simp only [Option.some.injEq] at hx
    rw [hx]
    exact hk (by rw [ho 0]; simp [Ours])

/-- A new variable of the iterator's. -/
theorem ItLe.alloc {n : Nat} {E : Env} {W : World} (o : Obj) : ItLe n E W (W.alloc o) := by
  refine ⟨by simp, fun b hb => .inl ?_, ⟨rfl, rfl, rfl⟩⟩
  exact Go.RowKit.Below.heap_alloc _ _ _ hb

theorem Kpt.alloc {E : Env} {W : World} (o : Obj) (hf : ∀ b o, W.heap.size ≤ b → E.O b o = .other) : Kpt E W E (W.alloc o) := by
  refine ⟨by simp, fun b hb ho => ⟨Go.RowKit.Below.heap_alloc _ _ _ hb, ho⟩, fun _ _ h => h, fun b o' v hs hv => ?_⟩
  have hb : b < W.heap.size := by
    rcases Nat.lt_or_ge b W.heap.size with h | h
    · exact h
    · have h9 := hf b o' h
      rw [show E.O b o' = .shut from hs] at h9; cases h9
  unfold hc at hv ⊢
  rw [show (W.alloc o).heap[b]? = W.heap[b]? from Go.RowKit.Below.heap_alloc _ _ _ hb]
  exact hv

/-- What lay lies as it lay. -/
theorem Kpt.same {E : Env} {W W' : World} (hs : W.heap.size ≤ W'.heap.size) (h : ∀ b, b < W.heap.size → W'.heap[b]? = W.heap[b]?) (hf : ∀ b o, W.heap.size ≤ b → E.O b o = .other) : Kpt E W E W' := by
  refine ⟨hs, fun b hb ho => ⟨h b hb, ho⟩, fun _ _ h => h, fun b o' v hv hc0 => ?_⟩
  have hb : b < W.heap.size := by
    rcases Nat.lt_or_ge b W.heap.size with h | h
    · exact h
    · have h9 := hf b o' h
      rw [show E.O b o' = .shut from hv] at h9; cases h9
  unfold hc at hc0 ⊢
  rw [h b hb]
  exact hc0

theorem ItLe.same {n : Nat} {E : Env} {W W' : World} (hs : W.heap.size ≤ W'.heap.size) (h : ∀ b, b < W.heap.size → W'.heap[b]? = W.heap[b]?) (ho : Outer W W') : ItLe n E W W' :=
  ⟨hs, fun b hb => .inl (h b hb), ho⟩

theorem flat_agg {sz kf n : Nat} {d : DV} {l : List DV} {S : Seal} {h : Heap} {us : List Value} (H : flatN sz kf n d = some l) (R : RC S h d us) : RV S h d (.agg us.toArray) := by
  cases n with
  | zero => simp [flatN] at H
  | succ n =>
    cases d with
    | agg cs =>
      simp only [RC] at R
      simp only [RV]
      exact ⟨_, rfl, R⟩
    | _ => simp [flatN] at H

theorem flat_at {d : DV} {ds ks pre sa sb : List DV} {k : Nat} (hin : ∀ (j : Nat) x, (d :: ks)[j]? = some x → ds[k + j]? = some x) (hk : ks = pre ++ (sa ++ sb)) (j : Nat) (x : DV) (hj : sa[j]? = some x) : ds[k + 1 + pre.length + j]? = some x := by
  have hjl := (List.getElem?_eq_some_iff.1 hj).1
  have := hin (pre.length + j + 1) x (by
    rw [List.getElem?_cons_succ, hk, List.getElem?_append_right (by omega), Nat.add_sub_cancel_left, List.getElem?_append_left hjl]
    exact hj)
  rw [← this]; congr 1; omega

/-- One cell is written. -/
theorem store_one {P : Program} {W : World} {b j : Nat} {c : Array Value} {T : TypeId} {u : Value} (hb : W.heap[b]? = some (.cells c T (0, 0))) (hj : j < c.size) (hu : u.oneCell' = true) :
    ∃ W', (store ⟨b, j, none⟩ u).run P W = .ok () W' ∧ W'.heap[b]? = some (.cells (c.setIfInBounds j u) T (0, 0)) ∧ (∀ b', b' ≠ b → W'.heap[b']? = W.heap[b']?) ∧ W'.heap.size = W.heap.size ∧ Outer W W' := by
  refine ⟨W.setCell ⟨b, j, none⟩ u, ?_, ?_, fun b' hb' => ?_, by simp [World.setCell], ⟨rfl, rfl, rfl⟩⟩
  · rw [run_store _ _ _ _ _ hu]
    simp [World.cell?, World.frozen?, hb, hj]
  · simp [World.setCell, Array.getElem?_modify, hb]
  · simp [World.setCell, Array.getElem?_modify, Ne.symm hb']

end Go.Su

/-
  NAMES and PATTERNS: what is said of them.
-/
namespace Go.Su

def bts (s : ByteArray) : List Int := s.data.toList.map fun b => (b.toNat : Int)

def lowerB (c : Int) : Bool := decide (97 ≤ c) && decide (c ≤ 122)
def digitB (c : Int) : Bool := decide (48 ≤ c) && decide (c ≤ 57)
def partB (c : Int) : Bool := lowerB c || digitB c || (decide (65 ≤ c) && decide (c ≤ 90)) || decide (c = 95) || decide (c = 39)

def keyL : List (List UInt8) := [[108, 101, 116], [114, 101, 99], [105, 110], [102, 117, 110], [105, 102], [116, 104, 101, 110], [101, 108, 115, 101], [109, 97, 116, 99, 104], [119, 105, 116, 104], [101, 110, 100], [116, 114, 117, 101],
  [102, 97, 108, 115, 101], [105, 110, 116], [98, 111, 111, 108], [115, 116, 114, 105, 110, 103], [117, 110, 105, 116], [108, 105, 115, 116]]

def keyB (s : ByteArray) : Bool := decide (s.data.toList ∈ keyL)

/-- A right name. -/
def nameB (s : ByteArray) : Bool :=
  decide (1 ≤ s.size) && decide (s.size ≤ 32) && lowerB ((bts s).getD 0 0) && (bts s).all partB && !keyB s

def nil8 : ByteArray := ⟨#[]⟩

def Pat.one (p : Pat) : Bool :=
  if p.kind = 1 ∨ p.kind = 6 ∨ p.kind = 8 then decide (p.kids.length = 0) && decide (p.name = nil8) && decide (p.n = 0) && decide (p.s = nil8)
  else if p.kind = 2 then nameB p.name && decide (p.kids.length = 0) && decide (p.n = 0) && decide (p.s = nil8)
  else if p.kind = 3 then decide (p.kids.length = 0) && decide (p.name = nil8) && decide (p.s = nil8)
  else if p.kind = 4 then decide (p.n = 0 ∨ p.n = 1) && decide (p.kids.length = 0) && decide (p.name = nil8) && decide (p.s = nil8)
  else if p.kind = 5 then decide (p.s.size ≤ 200) && decide (p.kids.length = 0) && decide (p.name = nil8) && decide (p.n = 0)
  else if p.kind = 7 ∨ p.kind = 9 then decide (p.kids.length = 2) && decide (p.name = nil8) && decide (p.n = 0) && decide (p.s = nil8)
  else false

def Pat.thin : Pat → Bool
  | .mk _ _ _ _ _ _ ks => decide (ks.length ≤ lim) && (ks.map Pat.thin).all id

/-- All own fields, from here down. -/
def Pat.pat : Pat → Bool
  | .mk a b c d e f ks => Pat.one (.mk a b c d e f ks) && (ks.map Pat.pat).all id

/-- Its names behind others. -/
def Pat.namesOn : Pat → List ByteArray → List ByteArray
  | .mk k _ _ nm _ _ ks, l => ks.foldl (fun l k => Pat.namesOn k l) (if k = 2 then l ++ [nm] else l)

def Pat.names (t : Pat) : List ByteArray := t.namesOn []

/-- It and all within it. -/
def Pat.subs : Pat → List Pat
  | .mk a b c d e f ks => .mk a b c d e f ks :: (ks.map Pat.subs).flatten

/-- A right pattern. -/
def Pat.right (t : Pat) : Bool := t.pat && decide t.names.Nodup

/-- A pattern's texts are short enough. -/
def Pat.texts (p : Pat) : Prop := p.name.size ≤ 4294967000 ∧ p.s.size ≤ 4294967000

/-- All texts in it are short enough. -/
def Pat.txt (p : Pat) : Prop := ∀ q ∈ p.subs, q.texts

end Go.Su

/-
  TERMS and EXPRESSIONS: what is said of them.
-/
namespace Go.Su

structure Pat.fit (p : Pat) : Prop where
  size : p.size ≤ lim
  txt : p.txt

def Pat.bare : Pat → Pat
  | .mk k _ _ nm n s ks => .mk k 0 0 nm n s (ks.map Pat.bare)
@[simp] theorem Pat.bare_kind (p : Pat) : p.bare.kind = p.kind := by cases p; rw [Pat.bare]; rfl
@[simp] theorem Pat.bare_lo (p : Pat) : p.bare.lo = 0 := by cases p; rw [Pat.bare]; rfl
@[simp] theorem Pat.bare_hi (p : Pat) : p.bare.hi = 0 := by cases p; rw [Pat.bare]; rfl
@[simp] theorem Pat.bare_name (p : Pat) : p.bare.name = p.name := by cases p; rw [Pat.bare]; rfl
@[simp] theorem Pat.bare_n (p : Pat) : p.bare.n = p.n := by cases p; rw [Pat.bare]; rfl
@[simp] theorem Pat.bare_s (p : Pat) : p.bare.s = p.s := by cases p; rw [Pat.bare]; rfl
@[simp] theorem Pat.bare_kids (p : Pat) : p.bare.kids = p.kids.map Pat.bare := by cases p; rw [Pat.bare]; rfl

def Ex.bare : Ex → Ex
  | .mk k _ _ nm ar n s op a b ps ks => .mk k 0 0 nm ar n s op a b (ps.map Pat.bare) (ks.map Ex.bare)
@[simp] theorem Ex.bare_kind (p : Ex) : p.bare.kind = p.kind := by cases p; rw [Ex.bare]; rfl
@[simp] theorem Ex.bare_lo (p : Ex) : p.bare.lo = 0 := by cases p; rw [Ex.bare]; rfl
@[simp] theorem Ex.bare_hi (p : Ex) : p.bare.hi = 0 := by cases p; rw [Ex.bare]; rfl
@[simp] theorem Ex.bare_name (p : Ex) : p.bare.name = p.name := by cases p; rw [Ex.bare]; rfl
@[simp] theorem Ex.bare_arg (p : Ex) : p.bare.arg = p.arg := by cases p; rw [Ex.bare]; rfl
@[simp] theorem Ex.bare_n (p : Ex) : p.bare.n = p.n := by cases p; rw [Ex.bare]; rfl
@[simp] theorem Ex.bare_s (p : Ex) : p.bare.s = p.s := by cases p; rw [Ex.bare]; rfl
@[simp] theorem Ex.bare_op (p : Ex) : p.bare.op = p.op := by cases p; rw [Ex.bare]; rfl
@[simp] theorem Ex.bare_a (p : Ex) : p.bare.a = p.a := by cases p; rw [Ex.bare]; rfl
@[simp] theorem Ex.bare_b (p : Ex) : p.bare.b = p.b := by cases p; rw [Ex.bare]; rfl
@[simp] theorem Ex.bare_pats (p : Ex) : p.bare.pats = p.pats.map Pat.bare := by cases p; rw [Ex.bare]; rfl
@[simp] theorem Ex.bare_kids (p : Ex) : p.bare.kids = p.kids.map Ex.bare := by cases p; rw [Ex.bare]; rfl

structure Ex.fit1 (t : Ex) : Prop where
  name : t.name.size ≤ 4294967000
  arg : t.arg.size ≤ 4294967000
  s : t.s.size ≤ 4294967000
  a : t.a.thin = true
  b : t.b.thin = true
  avc : t.a.vcount ≤ lim
  bvc : t.b.vcount ≤ lim
  pats : t.pats.length < lim
  pat : ∀ p ∈ t.pats, p.fit
  kids : t.kids.length < lim
inductive Ex.fit : Ex → Prop where
  | mk (t : Ex) : t.fit1 → (∀ k ∈ t.kids, k.fit) → t.fit
theorem Ex.fit.one {t : Ex} (h : t.fit) : t.fit1 := by cases h; assumption
structure Tm.fit1 (t : Tm) : Prop where
  name : t.name.size ≤ 4294967000
  arg : t.arg.size ≤ 4294967000
  s : t.s.size ≤ 4294967000
  vars : t.vars.length < lim
  a : t.a.thin = true
  b : t.b.thin = true
  avc : t.a.vcount ≤ lim
  bvc : t.b.vcount ≤ lim
  args : t.args.length < lim
  arg1 : ∀ y ∈ t.args, y.thin = true
  argvc : ∀ y ∈ t.args, y.vcount ≤ lim
  pats : t.pats.length < lim
  pat : ∀ p ∈ t.pats, p.fit
  kids : t.kids.length < lim
inductive Tm.fit : Tm → Prop where
  | mk (t : Tm) : t.fit1 → (∀ k ∈ t.kids, k.fit) → t.fit
theorem Tm.fit.one {t : Tm} (h : t.fit) : t.fit1 := by cases h; assumption
/-- All types in it are small. -/
inductive Tm.sized : Tm → Prop where
  | mk (t : Tm) : t.a.size ≤ lim → t.b.size ≤ lim → (∀ y ∈ t.args, y.size ≤ lim) → (∀ k ∈ t.kids, k.sized) → t.sized
theorem Tm.sized.a {t : Tm} (h : t.sized) : t.a.size ≤ lim := by cases h; assumption
theorem Tm.sized.b {t : Tm} (h : t.sized) : t.b.size ≤ lim := by cases h; assumption
theorem Tm.sized.args {t : Tm} (h : t.sized) : ∀ y ∈ t.args, y.size ≤ lim := by cases h; assumption
def Ty.none (t : Ty) : Bool := decide (t.kind = 0) && decide (t.n = 0) && decide (t.kids.length = 0)
def kName (k : Int) : Bool := decide (k = 1 ∨ k = 9 ∨ k = 11 ∨ k = 12)
def kArg (k : Int) : Bool := decide (k = 12)
def kN (k : Int) : Bool := decide (k = 2 ∨ k = 3)
def kS (k : Int) : Bool := decide (k = 4)
def kOp (k : Int) : Bool := decide (k = 15)
def kAt (k : Int) : Bool := decide (k = 14 ∨ k = 15)
def kVars (k : Int) : Bool := decide (k = 11 ∨ k = 12)
def kArgs (k : Int) : Bool := decide (k = 1)
def kPats (k : Int) : Bool := decide (k = 14)
def kA (k : Int) : Bool := decide (k = 7 ∨ k = 9 ∨ k = 12 ∨ k = 16)
def kB (k : Int) : Bool := decide (k = 12 ∨ k = 16)
def kLabel (k : Int) : Bool := decide (k = 16)
def kOk (k : Int) (np : Nat) : Bool := decide (1 ≤ k) && decide (k ≤ 16) && (!decide (k = 14) || decide (0 < np))
/-- How many kids a kind of terms has. -/
def kKids (k : Int) (np : Nat) : Int :=
  if k = 6 ∨ k = 8 ∨ k = 10 ∨ k = 11 ∨ k = 12 ∨ k = 15 then 2 else if k = 9 ∨ k = 16 then 1 else if k = 13 then 3 else if k = 14 then np + 1 else 0

def namedB (h : Bool) (s : ByteArray) : Bool := if h = true then nameB s else decide (s = nil8)
def typedB (h : Bool) (t : Ty) : Bool := if h = true then t.right else t.none

def Tm.lists (t : Tm) : Bool := t.vars.all (fun v => decide (0 ≤ v) && decide (v ≤ 1048576)) && t.args.all Ty.right && t.pats.all Pat.right

def Tm.one5 (t : Tm) : Bool := (kVars t.kind || decide (t.vars.length = 0)) && (kArgs t.kind || decide (t.args.length = 0)) && (kPats t.kind || decide (t.pats.length = 0)) && t.lists
def Tm.one4 (t : Tm) : Bool := (kLabel t.kind || (decide (t.label = 0) && !t.neg)) && (decide (0 ≤ t.label) && decide (t.label ≤ 1048576)) && t.one5
def Tm.one3 (t : Tm) : Bool := (!kOp t.kind || (decide (1 ≤ t.op) && decide (t.op ≤ 7))) && (kOp t.kind || decide (t.op = 0)) && t.one4
def Tm.one2 (t : Tm) : Bool := (kS t.kind || decide (t.s = nil8)) && decide (t.s.size ≤ 200) && (kAt t.kind || (decide (t.lo = 0) && decide (t.hi = 0))) && t.one3
def Tm.one1 (t : Tm) : Bool := (kN t.kind || decide (t.n = 0)) && (!decide (t.kind = 3) || decide (t.n = 0) || decide (t.n = 1)) && t.one2
def Tm.one (t : Tm) : Bool := kOk t.kind t.pats.length && decide ((t.kids.length : Int) = kKids t.kind t.pats.length) && namedB (kName t.kind) t.name && namedB (kArg t.kind) t.arg && typedB (kA t.kind) t.a && typedB (kB t.kind) t.b && t.one1

def Tm.right : Tm → Bool
  | .mk a b c d e f g h i j k l m n o ks => Tm.one (.mk a b c d e f g h i j k l m n o ks) && (ks.map Tm.right).all id
end Go.Su

/-
  TERMS, as the reference has them.
-/
namespace Go.Su
end Go.Su

/-
  TYPES put for variables, types that agree, and the CHECKER of terms: what is said of them, without any program.
-/
namespace Go.Su

def look (l : List (Int × Ty)) (n : Int) : Option Ty := (l.find? fun e => decide (e.1 = n)).map (·.2)

def Ty.put (l : List (Int × Ty)) : Ty → Ty
  | .mk k n ks => if k = 6 then (look l n).getD (.mk k n ks) else .mk k n (ks.map (Ty.put l))
def zeroTy : Ty := .mk 0 0 []
def patLeaf (k : Int) : Int := if k = 3 then 1 else if k = 4 then 2 else if k = 5 then 3 else if k = 6 then 4 else if k = 8 then 8 else 0

def comb : List (Ty → Option (List (ByteArray × Ty))) → List Ty → Option (List (ByteArray × Ty))
  | [], _ => some []
  | _ :: _, [] => none
  | f :: fs, t :: ts => (f t).bind fun a => (comb fs ts).bind fun b => some (a ++ b)

def patBody (p : Pat) (fs : List (Ty → Option (List (ByteArray × Ty)))) (t : Ty) : Option (List (ByteArray × Ty)) :=
  if p.kind = 1 then some []
  else if p.kind = 2 then some [(p.name, t)]
  else if p.kind = 7 then if t.kind = 7 then comb fs t.kids else none
  else if p.kind = 9 then if t.kind = 8 then comb fs [t.kids.getD 0 zeroTy, t] else none
  else if t.kind = patLeaf p.kind then some [] else none

def Pat.binds (p : Pat) : Ty → Option (List (ByteArray × Ty)) := patBody p (p.kids.attach.map fun k => Pat.binds k.1)
termination_by SizeOf.sizeOf p
decreasing_by exact Pat.kid_lt k.2
structure Nm where
  name : ByteArray
  ty : Ty
  vars : List Int

def Nm.enc (x : Nm) : DV := .agg [.str x.name, .int .i64 x.ty.kind, .int .i64 x.ty.n, .list 3 (x.ty.kids.map Ty.enc), encInts x.vars]
end Go.Su

/-
  FROM A READING TO DATA: binds, numbers, slices.
-/
namespace Go.Su
set_option linter.unusedSimpArgs false
set_option linter.unusedVariables false

section
variable {H : Type} {enc : TypeId × Value → H} {P : Program} {w : World} {held : Bool}

def BndAt (P : Program) (t : TypeId) : Prop := ∃ f0 f1 : Field, P.underlying t = some (.struct #[f0, f1]) ∧ P.cellsOf t = 4 ∧ (IntAt P f0.type ∧ f0.offset = 0) ∧ (TyAt P f1.type ∧ f1.offset = 1)
theorem BndAt.cells {t : TypeId} (A : BndAt P t) : P.cellsOf t = 4 := by obtain ⟨_, _, _, h, _⟩ := A; exact h
end

theorem RV_of_int {P : Program} {w : World} {r : Reach} {b : Nat} {t : TypeId} {v : Value} {S : Seal} {h' : Heap} {k : IntKind} {n : Int} (ht : P.underlying t = some (.int k)) (h : Value.okWide P w r b t v) (hr : RC S h' (.int k n) v.cells.toList) : RV S h' (.int k n) v := by
  unfold Value.okWide at h
  rw [ht] at h
  have hv : v.cells = #[v] := by
    cases v <;> first | rfl | (exfalso; revert h; simp [Cell.okWide, Cell.ok, ht])
  rw [hv] at hr
  simpa [RC, RV] using hr
section
variable {H : Type} {enc : TypeId × Value → H} {P : Program} {w : World} {base : Nat} {spare : Nat → Bool} {held : Bool}
end
end Go.Su

/-
  THE DATA MACHINE: the program's functions are what one step makes of them: as an equation; runs on closed data by rewriting.
-/
namespace Go.Su

theorem run_fix {C : Cfg} : OLe (run C) (stepOrc C (run C)) := by
  constructor
  · intro f ds d H
    obtain ⟨n, hn⟩ := run_lim.p f ds d H
    cases n with
    | zero => simp [orcN] at hn
    | succ n => exact (step_mono (orc_run n)).p _ _ _ hn
  · intro f rs sg q H
    obtain ⟨n, hn⟩ := run_lim.r f rs sg q H
    cases n with
    | zero => simp [orcN] at hn
    | succ n => exact (step_mono (orc_run n)).r _ _ _ _ hn

theorem eq_of_le {α : Type} {x y : Option α} (h : ∀ a, x = some a → y = some a) (h' : ∀ a, y = some a → x = some a) : x = y := by
  cases hx : x with
  | some a => exact (h a hx).symm
  | none =>
    cases hy : y with
    | none => rfl
    | some b => have := h' b hy; rw [hx] at this; cases this

theorem fix_pure {C : Cfg} {f : FuncId} {fn : Func} {c : Code} {ds : List DV} (hp : C.prim f = none) (hf : C.P.funcs[f]? = some fn) (hb : fn.body = some c) :
    (run C).p f ds = evP C (run C) (C.fl f) (retP C.P fn) [] c (initSt fn (ds.map fun d => (d, .val)) []) := by
  rw [evP_nil]
  have e : (stepOrc C (run C)).p f ds = evK C (run C) (C.fl f) c (retP C.P fn) (initSt fn (ds.map fun d => (d, .val)) []) := by simp only [stepOrc, evBody, hp, hf, hb, ob_mk]
  rw [← e]
  exact eq_of_le (fun a h => run_fix.p _ _ _ h) (fun a h => run_step.p _ _ _ h)

theorem fix_raw {C : Cfg} {f : FuncId} {fn : Func} {c : Code} {s : Sig} {rs : List (DV × Meta)} {sg : List SObj} (hs : C.sig f = some s) (hf : C.P.funcs[f]? = some fn) (hb : fn.body = some c) (hp : C.dcut f = none := by rfl) :
    (run C).r f rs sg = evP C (run C) (C.fl f) (retR C.P fn s) [] c (initSt fn rs sg) := by
  rw [evP_nil]
  have e : (stepOrc C (run C)).r f rs sg = evK C (run C) (C.fl f) c (retR C.P fn s) (initSt fn rs sg) := by simp only [stepOrc, hs, hp, hf, hb, ob_mk]
  rw [← e]
  exact eq_of_le (fun a h => run_fix.r _ _ _ _ h) (fun a h => run_step.r _ _ _ _ h)

theorem ob_cg {α β : Type} {x y : Option α} (h : x = y) (f : α → Option β) : ob x f = ob y f := by rw [h]
theorem og_cg {β : Type} {x y : Bool} (h : x = y) (f : Option β) : og x f = og y f := by rw [h]
theorem oif_cg {β : Type} {x y : DV} (h : x = y) (a b : Option β) : oif x a b = oif y a b := by rw [h]
theorem ogd_cg {β : Type} {x y : DV} (h : x = y) (a b c : Option β) : ogd x a b c = ogd y a b c := by rw [h]
theorem oif_t {β : Type} (x y : Option β) : oif (.bool true) x y = x := rfl
theorem oif_f {β : Type} (x y : Option β) : oif (.bool false) x y = y := rfl
theorem ogd_t {β : Type} (x y z : Option β) : ogd (.bool true) x y z = x := rfl
theorem ogd_f {β : Type} (x y z : Option β) : ogd (.bool false) x y z = y := rfl

noncomputable def flatDL (sz kf : Nat) : List DV → Option (List DV) := flatL fun d => match d with
  | .agg cs => flatD sz kf cs
  | _ => none
theorem flatD_agg {sz kf : Nat} {cs ds l : List DV} (h : cs.length = sz) (hk : cs.getD kf .undef = .list sz ds) (hl : ds.length ≤ lim) (hs : flatDL sz kf ds = some l) : flatD sz kf cs = some (.agg cs :: l) := by
  have key : ∀ (ds l : List DV), flatDL sz kf ds = some l → ∃ n, flatL (flatN sz kf n) ds = some l := by
    intro ds
    induction ds with
    | nil => intro l h; exact ⟨0, h⟩
    | cons d ds ih =>
      intro l h
      simp only [flatDL, flatL] at h
      obtain ⟨a, h1, h5⟩ := ob_some h
      obtain ⟨b, h2, h6⟩ := ob_some h5
      obtain ⟨m, hm⟩ := ih b h2
      cases d with
      | agg cs =>
        simp only at h1
        obtain ⟨n, hn⟩ := flatD_some h1
        refine ⟨n + m, ?_⟩
        simp only [flatL, flatN_le (Nat.le_add_right n m) hn, flatL_mono (fun d l h => flatN_le (Nat.le_add_left m n) h) hm, ob_mk]
        exact h6
      | _ => simp at h1
  obtain ⟨n, hn⟩ := key ds l hs
  refine flatD_of (n := n + 1) ?_
  rw [flatN, hk]
  simp only [h, beq_self_eq_true, Bool.true_and, decide_eq_true hl, hn, ob_mk, og_mk]
theorem flatDL_nil (sz kf : Nat) : flatDL sz kf [] = some [] := rfl
theorem flatDL_cons (sz kf : Nat) (cs : List DV) (ds : List DV) : flatDL sz kf (.agg cs :: ds) = ob (flatD sz kf cs) fun a => ob (flatDL sz kf ds) fun b => some (a ++ b) := rfl

/-- The kids of a tree. -/
noncomputable def flatK (sz kf : Nat) (cs : List DV) : DV → Option (List DV)
  | .list s ds => og (s == sz && decide (ds.length ≤ lim)) (ob (flatDL sz kf ds) fun l => some (.agg cs :: l))
  | _ => none

theorem flatN_DL {sz kf n : Nat} : ∀ {ds l : List DV}, flatL (flatN sz kf n) ds = some l → flatDL sz kf ds = some l := by
  intro ds
  induction ds with
  | nil => intro l h; exact h
  | cons d ds ih =>
    intro l h
    simp only [flatL] at h
    obtain ⟨a, h1, h2⟩ := ob_some h
    obtain ⟨b, h3, h4⟩ := ob_some h2
    cases d with
    | agg cs =>
      rw [flatDL_cons, flatD_of h1, ih h3]
      exact h4
    | _ => cases n <;> simp [flatN] at h1

theorem flatD_eq (sz kf : Nat) (cs : List DV) : flatD sz kf cs = og (cs.length == sz) (flatK sz kf cs (cs.getD kf .undef)) := by
  refine eq_of_le (fun l h => ?_) fun l h => ?_
  · obtain ⟨n, hn⟩ := flatD_some h
    cases n with
    | zero => simp [flatN] at hn
    | succ n =>
      rw [flatN] at hn
      obtain ⟨h1, hn⟩ := og_some hn
      rw [h1]
      cases hk : cs.getD kf .undef with
      | list s ds =>
        rw [hk] at hn
        simp only at hn
        obtain ⟨h2, hn⟩ := og_some hn
        obtain ⟨a, h3, h4⟩ := ob_some hn
        simp only [flatK, h2, og_mk, flatN_DL h3, ob_mk]
        exact h4
      | _ => rw [hk] at hn; simp at hn
  · obtain ⟨h1, h⟩ := og_some h
    cases hk : cs.getD kf .undef with
    | list s ds =>
      rw [hk] at h
      simp only [flatK] at h
      obtain ⟨h2, h⟩ := og_some h
      obtain ⟨a, h3, h4⟩ := ob_some h
      simp only [Bool.and_eq_true, decide_eq_true_eq, beq_iff_eq] at h2 h1
      obtain ⟨rfl, h2⟩ := h2
      simp only [Option.some.injEq] at h4
      rw [← h4]
      exact flatD_agg h1 hk h2 h3
    | _ => rw [hk] at h; simp [flatK] at h

end Go.Su

/-
  THE DATA MACHINE, part 36: a map's keys, collected by a loop and sorted.
-/
namespace Go.Su
open Go.Sort

def mkeyB : DV → List UInt8
  | .str s => s.data.toList
  | _ => []

def strD (l : List UInt8) : DV := .str ⟨l.toArray⟩

def sortB (l : List (List UInt8)) : List (List UInt8) := l.mergeSort fun x y => decide (x ≤ y)

/-- The keys of a map, rising. -/
def sortKeys (es : List (DV × DV)) : DV := .list 1 ((sortB (es.map fun e => mkeyB e.1)).map strD)

def blank (n k : Nat) : St := { tm := List.replicate n .undef, mt := List.replicate n .val, bx := List.replicate n none, sg := List.replicate k (.arr 1 []) }

/-- What an operation is besides what it does. -/
structure OpR where
  type : TypeId
  pos : String
  after : Array Edge

def OpR.mk' (r : OpR) (dst : Option Nat) (op : Op) : Oper := ⟨dst, op, r.type, r.pos, r.after, none⟩

structure KP where
  pre6 : List Oper
  rRange : OpR
  rNext : OpR
  rExt : OpR
  rEntry : OpR
  rExt2 : OpR
  rAsg : OpR
  rMv : OpR
  rMv2 : OpR
  rBs : OpR
  rApp : OpR
  rAsg2 : OpR
  rMv3 : OpR
  rCall : OpR
  i6 : Nat
  b0 : Nat
  i7 : Nat
  b1 : Nat
  i8 : Nat
  i9 : Nat
  i10 : Nat
  it : Nat
  mm : Nat
  t21 : Nat
  t22 : Nat
  t23 : Nat
  t24 : Nat
  tk : Nat
  t25 : Nat
  t26 : Nat
  t27 : Nat
  t28 : Nat
  tl : Nat
  t29 : Nat
  t30 : Nat
  tm : TypeId
  ts : TypeId
  te : TypeId
  kt : TypeId
  vt : TypeId
  f : FuncId

def KP.code (q : KP) (post : Code) : Code :=
  .seq (.seq (.region q.i6 (q.pre6 ++ [q.rRange.mk' (some q.it) (.range q.tm (.tmp q.mm))]).toArray false)
      (.block q.b0 (.loop (.seq (.region q.i7 #[q.rNext.mk' (some q.t21) (.next (.tmp q.it) false), q.rExt.mk' (some q.t22) (.extract (.tmp q.t21) 0)] false)
        (.seq (.cond (.tmp q.t22) .skip (.exit q.b0))
          (.block q.b1 (.seq (.region q.i8 #[q.rEntry.mk' (some q.t23) (.entry (.tmp q.it)), q.rExt2.mk' (some q.t24) (.extract (.tmp q.t23) 0), q.rAsg.mk' (some q.tk) (.assign (.tmp q.t24))] false)
            (.region q.i9 #[q.rMv.mk' (some q.t25) (.move (.tmp q.tl)), q.rMv2.mk' (some q.t26) (.move (.tmp q.tk)), q.rBs.mk' (some q.t27) (.buildSlice q.ts 1 #[(0, .tmp q.t26)]),
              q.rApp.mk' (some q.t28) (.call { callee := .builtin .append, args := #[.tmp q.t25, .tmp q.t27], argTypes := #[q.ts, q.ts] }), q.rAsg2.mk' (some q.tl) (.assign (.tmp q.t28))] false))))))))
    (.seq (.region q.i10 #[q.rMv3.mk' (some q.t29) (.move (.tmp q.tl)), q.rCall.mk' (some q.t30) (.call { callee := .value (.func q.f), args := #[.tmp q.t29], argTypes := #[q.ts] })] false) post)

/-- A setting in which nothing can be called. -/
def dumC (P : Program) : Cfg := { P := P, fl := fun _ => {}, sig := fun _ => none, prim := fun _ => none, clone := fun _ => false, csz := fun _ => 0 }
def dumR : Orc := { p := fun _ _ => none, r := fun _ _ _ => none }

def isNilSl : DV × Meta → Bool
  | (.list _ [], .full) => true
  | _ => false

def KP.regs (q : KP) : List Nat := [q.it, q.t21, q.t22, q.t23, q.t24, q.tk, q.t25, q.t26, q.t27, q.t28, q.tl, q.t29, q.t30]

def mapIx : Meta → Option Nat
  | .map i => some i
  | _ => none

/-- The operations ahead: none of them is guarded. -/
def evPre {X : Type} (C : Cfg) (R : Orc) : List Oper → St → (St → Option X) → Option X
  | [], st, k => k st
  | o :: os, st, k =>
    match o.guard with
    | none => evOp C R {} o st fun st => evPre C R os st k
    | some _ => none

def KP.midK {X : Type} (P : Program) (q : KP) (st : St) (k : St → Option X) : Option X :=
  evPre (dumC P) dumR q.pre6 st fun st1 =>
    ob (mapIx (st1.get q.mm).2) fun i => ob (sgMap st1.sg i) fun p => og (p.1 && isNilSl (st1.get q.tl) && q.regs.all (fun t => decide (t < st1.tm.length)))
      (if p.2.length ≤ lim then k ((blank st1.tm.length st1.sg.length).put (some q.tl) (sortKeys p.2) .val) else none)

def KP.mid (P : Program) (q : KP) (st : St) : Option St := q.midK P st some

section
variable {P : Program} {n : Nat} {ops : Array Oper} {Q : Exit → Act → World → Prop} {a : Act} {w w' : World} {o : Oper} {rest : List Oper} {v : Value}

theorem step_value (hg : o.guard = none) (hd : ∀ c, o.op ≠ .defer c) (hr : (execOp a.eval o).run P w = .ok (.value v) w') (hk : wpListIn (rnd none) n P ops Q rest (a.put o.dst v) w') : wpListIn (rnd none) n P ops Q (o :: rest) a w :=
  wpListIn_plain hg fun K hK => Gp.wpIn hd (wp_value hr (hK _ _ hk))

theorem step_move {r : OpR} {t u : Nat} (hk : wpListIn (rnd none) n P ops Q rest (a.put (some t) (a.eval (.tmp u))) w) : wpListIn (rnd none) n P ops Q (r.mk' (some t) (.move (.tmp u)) :: rest) a w :=
  step_value rfl (fun c h => by cases h) (by simp [OpR.mk', execOp]) hk

theorem step_assign {r : OpR} {t u : Nat} (hk : wpListIn (rnd none) n P ops Q rest (a.put (some t) (a.eval (.tmp u))) w) : wpListIn (rnd none) n P ops Q (r.mk' (some t) (.assign (.tmp u)) :: rest) a w :=
  step_value rfl (fun c h => by cases h) (by simp [OpR.mk', execOp]) hk

theorem append_nil {ts te ty : TypeId} {i : TypeInfo} (hs : P.underlying ts = some (.slice te)) (hi : P.info? te = some i) (hi1 : i.size = 1) (hb : i.bytes = 16) (p : Option Addr) (y : Addr) (w : World) :
    (Builtin.append_ #[ts, ts] ty #[.slice p 0 0, .slice (some y) 1 1]).run P w = (Builtin.append_ #[ts, ts] ty #[.slice none 0 0, .slice (some y) 1 1]).run P w := by
  have hcap : ¬ (281474976710656 < Builtin.nextslicecap 1 0 * 16) := by decide
  cases p with
  | none => rfl
  | some q =>
    have hl : ∀ w', (loadCells q 0).run P w' = .ok #[] w' := fun w' => rfl
    unfold Builtin.append_
    simp [run_underlying hs, sizeOf, typeInfo, hi, hi1, hb, Builtin.lenOf, Builtin.firstCells, hcap, hl]

end

end Go.Su

/-
  THE DATA MACHINE, part 37: the library's copy of a slice.
-/
namespace Go.Su

/-- The parts of a code. -/
def regL (c : Code) (p : List Bool) : List Oper :=
  match (sub p c []).1 with
  | .region _ ops _ => ops.toList
  | _ => []

def opR (c : Code) (p : List Bool) (j : Nat) : OpR :=
  match (regL c p)[j]? with
  | some o => ⟨o.type, o.pos, o.after⟩
  | none => ⟨0, "", #[]⟩

def ytOf (c : Code) (p : List Bool) (j : Nat) : TypeId :=
  match (regL c p)[j]? with
  | some o =>
    match o.op with
    | .binOp _ _ _ _ t => t
    | _ => 0
  | none => 0

structure ClP where
  i0 : Nat
  i1 : Nat
  i2 : Nat
  i3 : Nat
  r0 : OpR
  r1 : OpR
  r2 : OpR
  r3 : OpR
  r4 : OpR
  r5 : OpR
  r6 : OpR
  r7 : OpR
  ts : TypeId
  ty : TypeId

def ClP.code (q : ClP) : Code :=
  .seq (.region q.i0 #[q.r0.mk' (some 2) (.assign (.const (.slice none 0 0)))] false)
    (.seq (.seq (.region q.i1 #[q.r1.mk' (some 3) (.move (.tmp 0)), q.r2.mk' (some 4) (.binOp .eql q.ts (.tmp 3) (.const (.slice none 0 0)) q.ty)] false)
        (.cond (.tmp 4) (.seq (.region q.i2 #[q.r3.mk' (some 2) (.assign (.const (.slice none 0 0)))] false) .ret) .skip))
      (.seq (.region q.i3 #[q.r4.mk' (some 5) (.buildSlice q.ts 0 #[]), q.r5.mk' (some 6) (.move (.tmp 0)),
        q.r6.mk' (some 7) (.call { callee := .builtin .append, args := #[.tmp 5, .tmp 6], argTypes := #[q.ts, q.ts] }), q.r7.mk' (some 2) (.assign (.tmp 7))] false) .ret))

section
variable {P : Program} {n : Nat} {ops : Array Oper} {Q : Exit → Act → World → Prop} {a : Act} {w : World} {rest : List Oper}

theorem step_assignC {r : OpR} {t : Nat} {v : Value} (hk : wpListIn (rnd none) n P ops Q rest (a.put (some t) v) w) : wpListIn (rnd none) n P ops Q (r.mk' (some t) (.assign (.const v)) :: rest) a w :=
  step_value rfl (fun c h => by cases h) (by simp [OpR.mk', execOp, Act.eval]) hk

theorem step_eqlNil {r : OpR} {t u : Nat} {ts te ty : TypeId} {b : Option Addr} {l c : Nat} (hs : P.underlying ts = some (.slice te)) (hv : a.eval (.tmp u) = .slice b l c)
    (hk : wpListIn (rnd none) n P ops Q rest (a.put (some t) (.bool b.isNone)) w) : wpListIn (rnd none) n P ops Q (r.mk' (some t) (.binOp .eql ts (.tmp u) (.const (.slice none 0 0)) ty) :: rest) a w := by
  refine step_value (v := .bool b.isNone) rfl (fun c h => by cases h) ?_ hk
  simp only [OpR.mk', execOp, hv]
  exact run_v (Go.Lib.run_eql_slice_nil w ts te b l c 0 0 hs)

theorem step_buildNone {r : OpR} {t : Nat} {ts te : TypeId} {i : TypeInfo} (hs : P.underlying ts = some (.slice te)) (hi : P.info? te = some i)
    (hk : wpListIn (rnd none) n P ops Q rest (a.put (some t) (.slice (some ⟨w.heap.size, 0, none⟩) 0 0)) (w.alloc (.cells #[] te))) :
    wpListIn (rnd none) n P ops Q (r.mk' (some t) (.buildSlice ts 0 #[]) :: rest) a w := by
  refine step_value (v := .slice (some ⟨w.heap.size, 0, none⟩) 0 0) rfl (fun c h => by cases h) ?_ hk
  simp only [OpR.mk', execOp]
  refine run_v ?_
  unfold Instr.buildSlice
  have hsz : (sizeOf te).run P w = .ok i.size w := by simp [sizeOf, typeInfo, hi]
  simp only [Sem.run_bind, run_underlying hs, Result.andThen_ok, hsz, Sem.run_ite]
  rw [if_neg (by simp), if_pos (by simp)]
  simp only [Sem.run_pure, Result.andThen_ok]
  have : Instr.fill (fun j => some (j * i.size, i.size)) ((Array.range (0 * i.size)).map ((#[] : Array Value)[· % (#[] : Array Value).size]!)) (Array.map (fun x : Nat × Operand => (x.1, a.eval x.2)) #[]).toList = some #[] := by
    rw [Nat.zero_mul]
    simp [Instr.fill]
  simp only [this]
  rfl

end

theorem clone_ok {P : Program} {f : FuncId} {fn : Func} {q : ClP} {sz : Nat} (hsz : appSz P q.ts q.ts = some sz) (hf : P.funcs[f]? = some fn) (hb : fn.body = some q.code) (hres : fn.results = #[.tmp 2]) (hnt : fn.ntmps = 8) : CloneOk P f sz := by
  intro S w v ds hl hS hv
  obtain ⟨e, e', z, inf, zv, hu, hu', hz, hz1, hpos, hinf, hbytes, hzv, hzs⟩ := appSz_some hsz
  rw [hu] at hu'
  simp only [Option.some.injEq, TypeDesc.slice.injEq] at hu'
  subst hu'
  have hinfsz : inf.size = sz := by
    obtain ⟨i', d', q1, -, q2, -⟩ := tz_some hz
    rw [hinf] at q1
    simp only [Option.some.injEq] at q1
    rw [← hz1, q2, q1]
  obtain ⟨b, len, cap, all, rfl, f1, f2, f3, f4, f5, f6, f7⟩ := first_flat (P := P) hv
  have fin : ∀ (a : Act) (v : Value) (w1 : World), a.defers = [] → a.tmps.getD 2 undef = v → ∀ R : Ending → World → Prop, R (.returned v) w1 → bodyPost P fn R .ret a w1 := by
    intro a v w1 h1 h2 R h3
    refine ⟨h1, v, ?_, h3⟩
    rw [results_eq, hres, ← h2]
    simp [resRun]
  refine (callsIn_wide (n := 0)).1 (callsIn_of_wp hf hb trivial ?_)
  rw [hnt]
  show Code.wpIn (rnd none) 0 P _ _ _ _
  have hlit : (#[Value.slice b len cap] ++ Array.replicate (8 - #[Value.slice b len cap].size) undef : Array Value) = #[.slice b len cap, undef, undef, undef, undef, undef, undef, undef] := by rfl
  rw [hlit]
  refine wpIn_seq (wpIn_region_list (show wpListIn _ _ _ _ _ [_] _ _ from step_assignC ?_))
  refine wpIn_seq (wpIn_seq (wpIn_region_list (show wpListIn _ _ _ _ _ [_, _] _ _ from step_move (step_eqlNil (b := b) (l := len) (c := cap) hu rfl ?_))))
  cases b with
  | none =>
    have h0 := f3 rfl
    have hds : ds = [] := List.eq_nil_of_length_eq_zero (by omega)
    subst hds
    refine wpIn_cond_true rfl (wpIn_seq (wpIn_region_list (show wpListIn _ _ _ _ _ [_] _ _ from step_assignC ?_)))
    show Code.wpIn _ _ _ Code.ret _ _ _
    refine wpIn_ret ?_
    dsimp only [Exit.then]
    exact fin _ _ _ rfl rfl _ ⟨none, 0, 0, 0, rfl, by simp, by simp, by simp, by simp, Nat.le_refl _, Outer.refl _, fun _ _ => rfl, by simp⟩
  | some p =>
    refine wpIn_cond_false rfl (wpIn_skip ?_)
    refine wpIn_seq (wpIn_region_list (show wpListIn _ _ _ _ _ [_, _, _, _] _ _ from step_buildNone hu hinf (step_move ?_)))
    have hw1 : ∀ w' : World, w'.heap = (w.alloc (.cells #[] e)).heap → (Builtin.firstCells sz len (Value.slice (some p) len cap)).run P w' = .ok all.toArray w' := by
      intro w' hw'
      show (loadCells p (len * sz)).run P w' = _
      obtain ⟨hp, hc⟩ := f5 p rfl
      have hl2 : len * sz = all.length := by rw [f4.1, f1]
      by_cases h0 : 0 < cap
      · rw [hl2, hp h0]
        refine loadCells_flat fun j u hu => ?_
        rw [hw']
        have h3 := (hc j u hu).1
        have h4 : w.heap[p.block]? ≠ none := fun h => by simp [Su.hc, h] at h3
        have h5 : p.block < w.heap.size := by
          rcases Nat.lt_or_ge p.block w.heap.size with h | h
          · exact h
          · exact absurd (Array.getElem?_eq_none h) h4
        unfold Su.hc at h3 ⊢
        rw [show (w.alloc (.cells #[] e)).heap[p.block]? = w.heap[p.block]? from Go.RowKit.Below.heap_alloc _ _ _ h5]
        exact h3
      · have h0 : len = 0 := by omega
        have h9 : all = [] := List.eq_nil_of_length_eq_zero (by rw [← hl2, h0]; simp)
        rw [h9, h0, Nat.zero_mul]
        rfl
    have go : ∀ (v' : Value) (w' : World), (Builtin.append_ #[q.ts, q.ts] q.r6.type #[.slice (some ⟨w.heap.size, 0, none⟩) 0 0, .slice (some p) len cap]).run P (w.alloc (.cells #[] e)) = .ok v' w' → ∀ R : Ending → World → Prop, R (.returned v') w' →
        wpListIn (rnd none) 0 P #[q.r4.mk' (some 5) (.buildSlice q.ts 0 #[]), q.r5.mk' (some 6) (.move (.tmp 0)), q.r6.mk' (some 7) (.call { callee := .builtin .append, args := #[.tmp 5, .tmp 6], argTypes := #[q.ts, q.ts] }), q.r7.mk' (some 2) (.assign (.tmp 7))]
          (Exit.then (Code.ret.wpIn (rnd none) 0 P (bodyPost P fn R)) (bodyPost P fn R)) [q.r6.mk' (some 7) (.call { callee := .builtin .append, args := #[.tmp 5, .tmp 6], argTypes := #[q.ts, q.ts] }), q.r7.mk' (some 2) (.assign (.tmp 7))]
          { tmps := #[.slice (some p) len cap, undef, .slice none 0 0, .slice (some p) len cap, .bool false, .slice (some ⟨w.heap.size, 0, none⟩) 0 0, .slice (some p) len cap, undef], defers := [] } (w.alloc (.cells #[] e)) := by
      intro v' w' hr R hR
      refine step_value (v := v') (w' := w') rfl (fun c h => by cases h) ?_ (step_assign ?_)
      · refine call_builtin (C := dumC P) (b := .append) rfl rfl ?_
        simp only [List.map_toArray, List.map_cons, List.map_nil]
        exact run_v hr
      · show Code.wpIn _ _ _ Code.ret _ _ _
        refine wpIn_ret ?_
        show bodyPost P fn R .ret _ _
        exact fin _ _ _ rfl rfl _ hR
    by_cases hds : ds = []
    · subst hds
      have h0 : len = 0 := f1
      have h9 : all = [] := List.eq_nil_of_length_eq_zero (by rw [f4.1]; simp)
      refine go _ (w.alloc (.cells #[] e)) (run_append_some (n := len) hu hu hinf (lenOf_slice _ _ _) (by rw [hinfsz]; exact hw1 _ rfl) (by omega) (by rw [h9]; simp [storeCells])) _ ⟨some ⟨w.heap.size, 0, none⟩, 0, 0, 0, ?_, by simp, by simp, by simp, by simp, by simp, ⟨rfl, rfl, rfl⟩, fun b' hb' => Go.RowKit.Below.heap_alloc _ _ _ hb', by simp⟩
      simp [h0]
    · have hlen : 0 < len := by rw [f1]; exact List.length_pos_iff.2 hds
      obtain ⟨nc, hnc, hr⟩ := run_append_grow (P := P) (t := q.ts) (u := q.ts) (ty := q.r6.type) (b := some ⟨w.heap.size, 0, none⟩) (len := 0) (cap := 0) (n := len) (all := []) (all' := all) (v := .slice (some p) len cap) (w := w.alloc (.cells #[] e)) hu hu hinf (lenOf_slice _ _ _) (by rw [hinfsz]; exact hw1) (fun w' _ => by show (loadCells _ (0 * inf.size)).run P w' = _; rw [Nat.zero_mul]; rfl) hzv (by omega) (by unfold lim at hl; omega) hbytes
      simp only [Nat.zero_add, List.nil_append] at hr
      have hsz1 : (w.alloc (.cells #[] e)).heap.size = w.heap.size + 1 := by simp
      refine go _ _ hr _ ⟨_, w.heap.size + 1, 0, nc, by rw [f1, hsz1], fun _ => rfl, by omega, by simp, fun x hx => ?_, ?_, ⟨rfl, rfl, rfl⟩, fun b' hb' => ?_, fun _ => ⟨by omega, (all ++ (Builtin.zeroCells zv.cells (nc - len)).toList).toArray, e, ?_, ?_, hpos, fun j d hj => ?_⟩⟩
      · simp only [Option.some.injEq] at hx
        subst hx
        rfl
      · simp; omega
      · refine (Go.RowKit.Below.heap_alloc _ _ _ (by show b' < (w.alloc (.cells #[] e)).heap.size; omega)).trans ?_
        exact Go.RowKit.Below.heap_alloc _ _ _ hb'
      · rw [← hsz1]
        exact World.alloc_heap_new _ _
      · simp [f4.1]
      · obtain ⟨vs, v1, v2, v3⟩ := f4.2 j d hj
        refine ⟨vs, v1, fun x u hx => ?_, v3.mono ⟨fun _ _ h => h, fun b o v hs hv => ?_⟩⟩
        · have h1 := v2 x u hx
          have h2 := (List.getElem?_eq_some_iff.1 h1).1
          rw [Nat.zero_add, List.getElem?_toArray, List.getElem?_append_left h2]
          exact h1
        · have hb : b < w.heap.size := by
            rcases Nat.lt_or_ge b w.heap.size with h | h
            · exact h
            · exact absurd hs (hS b o h)
          unfold Su.hc at hv ⊢
          have e1 : ((w.alloc (.cells #[] e)).drew.alloc (.cells (all ++ (Builtin.zeroCells zv.cells (nc - len)).toList).toArray e)).heap[b]? = w.heap[b]? :=
            (Go.RowKit.Below.heap_alloc _ _ _ (by show b < (w.alloc (.cells #[] e)).heap.size; omega)).trans (Go.RowKit.Below.heap_alloc _ _ _ hb)
          rw [e1]
          exact hv

end Go.Su

/-
  RUNS ON CLOSED DATA, by rewriting: what the data's operations make of data that are written out.
-/
namespace Go.Su
theorem ite_cg {α : Type} {c c' : Prop} [d : Decidable c] (h : c = c') (x y : α) : (if c then x else y) = @ite α c' (h ▸ d) x y := by subst h; rfl
theorem proj_agg (j : Nat) (cs : List DV) : proj j (.agg cs) = cs.getD j .undef := rfl
theorem isAggN_agg (n : Nat) (cs : List DV) : isAggN n (.agg cs) = (cs.length == n) := rfl
theorem bs_size (a : Array UInt8) : (ByteArray.mk a).size = a.size := rfl
theorem bs_eq (a b : Array UInt8) : ((ByteArray.mk a) = ByteArray.mk b) = (a.toList = b.toList) := by
  apply propext; constructor
  · intro h; cases h; rfl
  · intro h; rw [Array.ext' h]
theorem keyEq_lit (a b : Array UInt8) : keyEq (.str ⟨a⟩) (.str ⟨b⟩) = decide (a.toList = b.toList) := by
  simp only [keyEq]; rw [bytes_dec]; congr 1; exact bs_eq a b
theorem keyEq_num (k k' : IntKind) (a b : Int) : keyEq (.int k a) (.int k' b) = decide (a = b) := by simp only [keyEq]; rfl
theorem dApp_l (sz : Nat) (ds es : List DV) : dApp sz (.list sz ds) (.list sz es) = if ds.length + es.length ≤ 4294967296 then some (.list sz (ds ++ es)) else none := by
  simp [dApp, lim]
theorem dExt_t (i : Nat) (cs : List DV) : dExt i (.tup cs) = cs[i]? := rfl
theorem bnd_n (m : Nat) : bnd m none = some m := rfl
theorem bnd_s (m : Nat) (k : IntKind) (n : Int) : bnd m (some (.int k n)) = if 0 ≤ n then some n.toNat else none := rfl
theorem dSlice_l (sz : Nat) (ds : List DV) (lo hi : Option DV) : dSlice sz (.list sz ds) lo hi = ob (bnd ds.length hi) fun h => ob (bnd 0 lo) fun l => if l ≤ h ∧ h ≤ ds.length then some (.list sz ((ds.take h).drop l)) else none := by
  simp [dSlice]
theorem dSlice3_i (sz : Nat) (d : DV) (lo : Option DV) (k k' : IntKind) (h m : Int) : dSlice3 sz d lo (.int k h) (.int k' m) = if h = m then dSlice sz d lo (some (.int k h)) else none := rfl
theorem dEqA_a (ks : List LK) (xs ys : List DV) : dEqA ks (.agg xs) (.agg ys) = dEqLeaves ks xs ys := rfl
theorem dEqL_n : dEqLeaves [] [] [] = some true := rfl
theorem dEqL_c (k : LK) (ks : List LK) (x y : DV) (xs ys : List DV) : dEqLeaves (k :: ks) (x :: xs) (y :: ys) = ob (dEqK k x y) fun b => bif b then dEqLeaves ks xs ys else some false := by
  simp only [dEqLeaves]
  congr 1; funext b; cases b <;> rfl
theorem dEqK_i (k : IntKind) (a b : Int) : dEqK .int (.int k a) (.int k b) = some (decide (a = b)) := by simp only [dEqK, if_true]; rfl
theorem dEqK_b (a b : Bool) : dEqK .bool (.bool a) (.bool b) = some (a == b) := rfl
theorem dUn_neg (k : IntKind) (n : Int) : dUn .neg (.int k n) = some (.int k (k.wrap (0 - n))) := rfl
theorem mGet_n (k : DV) : mGet [] k = none := rfl
theorem mGet_c (e : DV × DV) (es : List (DV × DV)) (k : DV) : mGet (e :: es) k = bif keyEq k e.1 then some e.2 else mGet es k := by
  simp only [mGet, List.find?_cons]
  cases keyEq k e.1 <;> rfl
theorem mSet_n (k v : DV) : mSet [] k v = [(k, v)] := rfl
theorem mSet_c (e : DV × DV) (es : List (DV × DV)) (k v : DV) : mSet (e :: es) k v = bif keyEq k e.1 then (e.1, v) :: es else e :: mSet es k v := by
  simp only [mSet]
  cases keyEq k e.1 <;> rfl
theorem oneCell_1 (sg : List SObj) (c : DV × Meta) : oneCell sg [c] = sealCell sg c := rfl
theorem seal_v (sg : List SObj) (d : DV) : sealCell sg (d, .val) = some d := rfl
theorem seal_f (sg : List SObj) (d : DV) : sealCell sg (d, .full) = some d := rfl
theorem seal_o (sg : List SObj) (d : DV) : sealCell sg (d, .own) = some d := rfl
theorem seal_a (sg : List SObj) (d : DV) (i sz off len : Nat) : sealCell sg (d, .arr i sz off len) = ob (sgArr sg i) fun a => og (a.1 == sz) (if off + len ≤ a.2.length then some (.list sz ((a.2.drop off).take len)) else none) := rfl
theorem ret1_some' (d : DV) : ret1 (some d) = some d := rfl
theorem dIx0 (sz : Nat) (ds : List DV) (k : IntKind) : dIdx sz (.list sz ds) (.int k 0) = ds[0]? := by simp [dIdx]
theorem dIx1 (sz : Nat) (ds : List DV) (k : IntKind) : dIdx sz (.list sz ds) (.int k 1) = ds[1]? := by simp [dIdx]
theorem dIx2 (sz : Nat) (ds : List DV) (k : IntKind) : dIdx sz (.list sz ds) (.int k 2) = ds[2]? := by simp [dIdx]
theorem dIx3 (sz : Nat) (ds : List DV) (k : IntKind) : dIdx sz (.list sz ds) (.int k 3) = ds[3]? := by simp [dIdx]
theorem dIx4 (sz : Nat) (ds : List DV) (k : IntKind) : dIdx sz (.list sz ds) (.int k 4) = ds[4]? := by simp [dIdx]
theorem dIx5 (sz : Nat) (ds : List DV) (k : IntKind) : dIdx sz (.list sz ds) (.int k 5) = ds[5]? := by simp [dIdx]
theorem dIx6 (sz : Nat) (ds : List DV) (k : IntKind) : dIdx sz (.list sz ds) (.int k 6) = ds[6]? := by simp [dIdx]
theorem dIx7 (sz : Nat) (ds : List DV) (k : IntKind) : dIdx sz (.list sz ds) (.int k 7) = ds[7]? := by simp [dIdx]
theorem dIx8 (sz : Nat) (ds : List DV) (k : IntKind) : dIdx sz (.list sz ds) (.int k 8) = ds[8]? := by simp [dIdx]
theorem dIx9 (sz : Nat) (ds : List DV) (k : IntKind) : dIdx sz (.list sz ds) (.int k 9) = ds[9]? := by simp [dIdx]
theorem dIx10 (sz : Nat) (ds : List DV) (k : IntKind) : dIdx sz (.list sz ds) (.int k 10) = ds[10]? := by simp [dIdx]
theorem dIx11 (sz : Nat) (ds : List DV) (k : IntKind) : dIdx sz (.list sz ds) (.int k 11) = ds[11]? := by simp [dIdx]
theorem dIx12 (sz : Nat) (ds : List DV) (k : IntKind) : dIdx sz (.list sz ds) (.int k 12) = ds[12]? := by simp [dIdx]
theorem dIx13 (sz : Nat) (ds : List DV) (k : IntKind) : dIdx sz (.list sz ds) (.int k 13) = ds[13]? := by simp [dIdx]
theorem dIx14 (sz : Nat) (ds : List DV) (k : IntKind) : dIdx sz (.list sz ds) (.int k 14) = ds[14]? := by simp [dIdx]
theorem dIx15 (sz : Nat) (ds : List DV) (k : IntKind) : dIdx sz (.list sz ds) (.int k 15) = ds[15]? := by simp [dIdx]
theorem dSi0 (a : Array UInt8) (k : IntKind) : dStrIdx (.str ⟨a⟩) (.int k 0) = (a.toList[0]?).map fun b => .int .u8 b.toNat := by simp [dStrIdx]
theorem dSi1 (a : Array UInt8) (k : IntKind) : dStrIdx (.str ⟨a⟩) (.int k 1) = (a.toList[1]?).map fun b => .int .u8 b.toNat := by simp [dStrIdx]
theorem dSi2 (a : Array UInt8) (k : IntKind) : dStrIdx (.str ⟨a⟩) (.int k 2) = (a.toList[2]?).map fun b => .int .u8 b.toNat := by simp [dStrIdx]
theorem dSi3 (a : Array UInt8) (k : IntKind) : dStrIdx (.str ⟨a⟩) (.int k 3) = (a.toList[3]?).map fun b => .int .u8 b.toNat := by simp [dStrIdx]
theorem dSi4 (a : Array UInt8) (k : IntKind) : dStrIdx (.str ⟨a⟩) (.int k 4) = (a.toList[4]?).map fun b => .int .u8 b.toNat := by simp [dStrIdx]
theorem dSi5 (a : Array UInt8) (k : IntKind) : dStrIdx (.str ⟨a⟩) (.int k 5) = (a.toList[5]?).map fun b => .int .u8 b.toNat := by simp [dStrIdx]
theorem dSi6 (a : Array UInt8) (k : IntKind) : dStrIdx (.str ⟨a⟩) (.int k 6) = (a.toList[6]?).map fun b => .int .u8 b.toNat := by simp [dStrIdx]
theorem dSi7 (a : Array UInt8) (k : IntKind) : dStrIdx (.str ⟨a⟩) (.int k 7) = (a.toList[7]?).map fun b => .int .u8 b.toNat := by simp [dStrIdx]
end Go.Su

/-
  More rewriting rules for closed calls: none of them is by `rfl` alone (else the congruence rules fail and the lambdas are entered).
-/
namespace Go.Su
theorem u_arrIdx (off len : Nat) (k : IntKind) (n : Int) : arrIdx off len (.int k n) = if 0 ≤ n ∧ n < len then some (off + n.toNat) else none := by first | (simp only [arrIdx]; done) | (simp only [arrIdx]; rfl)
theorem u_sgBox (sg : List SObj) (i : Nat) : sgBox sg i = (match sg[i]? with | some (.box cs) => some cs | _ => none) := by first | (simp only [sgBox]; done) | (simp only [sgBox]; rfl)
theorem u_sgArr (sg : List SObj) (i : Nat) : sgArr sg i = (match sg[i]? with | some (.arr sz ds) => some (sz, ds) | _ => none) := by first | (simp only [sgArr]; done) | (simp only [sgArr]; rfl)
theorem u_sgMap (sg : List SObj) (i : Nat) : sgMap sg i = (match sg[i]? with | some (.map ks es) => some (ks, es) | _ => none) := by first | (simp only [sgMap]; done) | (simp only [sgMap]; rfl)
theorem u_sgOpn (sg : List SObj) (i : Nat) : sgOpn sg i = (match sg[i]? with | some (.opn sz pre ds) => some (sz, pre, ds) | _ => none) := by first | (simp only [sgOpn]; done) | (simp only [sgOpn]; rfl)
theorem u_sgVec (sg : List SObj) (i n : Nat) : sgVec sg i n = (match sg[i]? with | some (.vec n' sz ds) => if n' = n then some (sz, ds) else none | _ => none) := by first | (simp only [sgVec]; done) | (simp only [sgVec]; rfl)
theorem u_cellDat (cs : List (DV × Meta)) (o : Nat) : cellDat cs o = (match cs[o]? with | some (d, .val) => some d | some (d, .full) => some d | some (d, .own) => some d | some (d, .nilp) => some d | _ => none) := by first | (simp only [cellDat]; done) | (simp only [cellDat]; rfl)
theorem u_cellOwn (cs : List (DV × Meta)) (o : Nat) : cellOwn cs o = (match cs[o]? with | some (d, .full) => some d | some (d, .own) => some d | _ => none) := by first | (simp only [cellOwn]; done) | (simp only [cellOwn]; rfl)
theorem u_cellMap (cs : List (DV × Meta)) (o : Nat) : cellMap cs o = (match cs[o]? with | some (_, .map i) => some i | _ => none) := by first | (simp only [cellMap]; done) | (simp only [cellMap]; rfl)
theorem u_cellPtr (cs : List (DV × Meta)) (o : Nat) : cellPtr cs o = (match cs[o]? with | some (_, .ptr i 0) => some i | _ => none) := by first | (simp only [cellPtr]; done) | (simp only [cellPtr]; rfl)
theorem u_cellVec (cs : List (DV × Meta)) (o sz : Nat) : cellVec cs o sz = (match cs[o]? with | some (_, .vec i n sz' len) => if sz' = sz then some (i, n, len) else none | _ => none) := by first | (simp only [cellVec]; done) | (simp only [cellVec]; rfl)
theorem u_vecIn (sg : List SObj) (i off : Nat) (cs : List (DV × Meta)) (sz : Nat) : vecIn sg i off cs sz = (match cs[off]? with
  | some (_, .vec j n sz' len) => if sz' = sz then some (sg, j, n, len) else none
  | some (.list sz' [], .full) => if sz' = sz ∧ 0 < sz then some (sg.set i (.box (cs.set off (.undef, .vec sg.length 1 sz 0))) ++ [.vec 1 sz []], sg.length, 1, 0) else none
  | _ => none) := by first | (simp only [vecIn]; done) | (simp only [vecIn]; rfl)
theorem u_vLen (n : Nat) : vLen n = some (.int .i64 n) := by cases n <;> simp only [vLen] <;> rfl
theorem u_segDat0 (o : Nat) (cs : List (DV × Meta)) : segDat o 0 cs = some [] := by first | (simp only [segDat]; done) | (simp only [segDat]; rfl)
theorem u_segDatS (o n : Nat) (cs : List (DV × Meta)) : segDat o (n + 1) cs = ob (cellDat cs o) fun d => ob (segDat (o + 1) n cs) fun ds => some (d :: ds) := by first | (simp only [segDat]; done) | (simp only [segDat]; rfl)
theorem u_sealCells0 (sg : List SObj) : sealCells sg [] = some [] := by first | (simp only [sealCells]; done) | (simp only [sealCells]; rfl)
theorem u_sealCellsS (sg : List SObj) (c : DV × Meta) (cs : List (DV × Meta)) : sealCells sg (c :: cs) = ob (sealCell sg c) fun d => ob (sealCells sg cs) fun ds => some (d :: ds) := by first | (simp only [sealCells]; done) | (simp only [sealCells]; rfl)
theorem u_allDat0 : allDat [] = some [] := by first | (simp only [allDat]; done) | (simp only [allDat]; rfl)
theorem u_allDatV (d : DV) (cs : List (DV × Meta)) : allDat ((d, .val) :: cs) = ob (allDat cs) fun ds => some (d :: ds) := by first | (simp only [allDat]; done) | (simp only [allDat]; rfl)
theorem u_allDatF (d : DV) (cs : List (DV × Meta)) : allDat ((d, .full) :: cs) = ob (allDat cs) fun ds => some (d :: ds) := by first | (simp only [allDat]; done) | (simp only [allDat]; rfl)
theorem u_allDatO (d : DV) (cs : List (DV × Meta)) : allDat ((d, .own) :: cs) = ob (allDat cs) fun ds => some (d :: ds) := by first | (simp only [allDat]; done) | (simp only [allDat]; rfl)
theorem u_dRef (sz sz' : Nat) (d : DV) : dRef sz (.pref sz' d) = if sz' = sz then some d else none := by first | (simp only [dRef]; done) | (simp only [dRef]; rfl)
theorem u_dPtr (k : IntKind) (n : Int) : dPtr (.int k n) = some n.toNat := by first | (simp only [dPtr]; done) | (simp only [dPtr]; rfl)
theorem u_dMax (k k' : IntKind) (a b : Int) : dMax (.int k a) (.int k' b) = if k = k' then some (.int k (if b > a then b else a)) else none := by first | (simp only [dMax]; done) | (simp only [dMax]; rfl)
theorem u_dMin (k k' : IntKind) (a b : Int) : dMin (.int k a) (.int k' b) = if k = k' then some (.int k (if b < a then b else a)) else none := by first | (simp only [dMin]; done) | (simp only [dMin]; rfl)
theorem u_dLenS (s : ByteArray) : dLenS (.str s) = some (.int .i64 s.size) := by first | (simp only [dLenS]; done) | (simp only [dLenS]; rfl)
theorem u_dConv (k k' : IntKind) (n : Int) : dConv k (.int k' n) = some (.int k (k.wrap n)) := by first | (simp only [dConv]; done) | (simp only [dConv]; rfl)
theorem u_openSet (a : Nat) (b c : List DV) (idx : Nat) (e : DV) : openSet (a, b, c) idx e = if b.length ≤ idx ∧ idx - b.length < c.length then some (.opn a b (c.set (idx - b.length) e)) else none := by first | (simp only [openSet]; done) | (simp only [openSet]; rfl)
theorem u_setPart (sz off : Nat) (cs : List DV) (xs : List (DV × Meta)) : setPart sz off (.agg cs) xs = if xs.all (fun c => isData c.2 && isLeaf c.1) = true ∧ cs.length = sz ∧ off + xs.length ≤ sz then some (.agg (putAt cs off (xs.map (·.1)))) else none := by first | (simp only [setPart]; done) | (simp only [setPart]; rfl)
theorem u_cellI (k : IntKind) (n : Int) : isCell (.int k n) = true := by first | (simp only [isCell]; done) | (simp only [isCell]; rfl)
theorem u_cellB (b : Bool) : isCell (.bool b) = true := by first | (simp only [isCell]; done) | (simp only [isCell]; rfl)
theorem u_cellS (s : ByteArray) : isCell (.str s) = true := by first | (simp only [isCell]; done) | (simp only [isCell]; rfl)
theorem u_cellL (n : Nat) (l : List DV) : isCell (.list n l) = true := by first | (simp only [isCell]; done) | (simp only [isCell]; rfl)
theorem u_cellN : isCell .pnil = true := by first | (simp only [isCell]; done) | (simp only [isCell]; rfl)
theorem u_cellP (n : Nat) (d : DV) : isCell (.pref n d) = true := by first | (simp only [isCell]; done) | (simp only [isCell]; rfl)
theorem u_leafI (k : IntKind) (n : Int) : isLeaf (.int k n) = true := by first | (simp only [isLeaf]; done) | (simp only [isLeaf]; rfl)
theorem u_leafB (b : Bool) : isLeaf (.bool b) = true := by first | (simp only [isLeaf]; done) | (simp only [isLeaf]; rfl)
theorem u_leafS (s : ByteArray) : isLeaf (.str s) = true := by first | (simp only [isLeaf]; done) | (simp only [isLeaf]; rfl)
theorem u_leafL (n : Nat) (l : List DV) : isLeaf (.list n l) = true := by first | (simp only [isLeaf]; done) | (simp only [isLeaf]; rfl)
theorem u_leafN : isLeaf .pnil = true := by first | (simp only [isLeaf]; done) | (simp only [isLeaf]; rfl)
theorem u_leafP (n : Nat) (d : DV) : isLeaf (.pref n d) = true := by first | (simp only [isLeaf]; done) | (simp only [isLeaf]; rfl)
theorem u_dApp2 (sz a b : Nat) (ds es : List DV) : dApp2 sz (.list a ds) (.list b es) = if (a = sz ∧ b = sz) ∧ ds.length + es.length ≤ lim ∧ 0 < es.length then some (ds, es) else none := by first | (simp only [dApp2]; done) | (simp only [dApp2]; rfl)
theorem u_dEqB (a b : Bool) : dEqB (.bool a) (.bool b) = some (a == b) := by first | (simp only [dEqB]; done) | (simp only [dEqB]; rfl)
theorem u_closeObj (a : Nat) (b c : List DV) (sz len : Nat) : closeObj (a, b, c) sz len = if a = sz ∧ b.length + c.length = len ∧ 0 < len then some (.list sz (b ++ c)) else none := by first | (simp only [closeObj]; done) | (simp only [closeObj]; rfl)
theorem u_cellArr (cs : List (DV × Meta)) (o : Nat) : cellArr cs o = (match cs[o]? with | some (_, .arr i sz 0 len) => some (i, sz, len) | _ => none) := by first | (simp only [cellArr]; done) | (simp only [cellArr]; rfl)
theorem u_eqNil1 (d : DV) : eqNil (d, .nilp) (d, .nilp) = some true := by simp only [eqNil, ptrNil]
theorem u_eqNil2 : eqNil (.pnil, .val) (.pnil, .nilp) = some true := by simp only [eqNil, ptrNil]
theorem u_eqNil3 (n : Nat) (d : DV) : eqNil (.pref n d, .val) (.pnil, .nilp) = some false := by simp only [eqNil, ptrNil]
theorem u_eqNil4 (e : DV) (i : Nat) : eqNil (e, .ptr i 0) (.pnil, .nilp) = some false := by simp only [eqNil, ptrNil]
theorem u_take0 {α : Type} (l : List α) : l.take 0 = [] := by simp
end Go.Su

/-
  The settings of the data machine for this seat: by program.
-/
namespace Go.Su
open Go.Proofs

def spread {α : Type} (d : α) : Nat → Nat → List (Nat × α) → List α
  | 0, _, _ => []
  | n + 1, i, [] => d :: spread d n (i + 1) []
  | n + 1, i, (j, x) :: l => match Nat.beq i j with
    | true => x :: spread d n (i + 1) l
    | false => d :: spread d n (i + 1) ((j, x) :: l)

abbrev F_l24_MachNums : FuncId := 3
abbrev F_keep_Int : FuncId := 4
abbrev F_l24_num : FuncId := 5
abbrev F_mach_Run : FuncId := 6
abbrev F_l24_wakes : FuncId := 7
abbrev F_l24_quotient : FuncId := 8
abbrev F_val_Same : FuncId := 9
abbrev F_mach_New : FuncId := 10
abbrev F_mach_Machine_Step : FuncId := 11
abbrev F_mach_Machine_Result : FuncId := 12
abbrev F_l24_cast : FuncId := 13
abbrev F_keep_Ints : FuncId := 14
abbrev F_mach_Machine_Frames : FuncId := 15
abbrev F_coer_Same : FuncId := 16
abbrev F_slices_EqualFunc__api_Val__api_Val_api_Val_api_Val : FuncId := 17
abbrev F_term_Check : FuncId := 18
abbrev F_mach_Machine_ends : FuncId := 19
abbrev F_mach_clone : FuncId := 20
abbrev F_mach_Machine_read : FuncId := 21
abbrev F_mach_Machine_term : FuncId := 22
abbrev F_mach_Machine_frame : FuncId := 23
abbrev F_r03_Leaf : FuncId := 24
abbrev F_slices_EqualFunc__api_Coer__api_Coer_api_Coer_api_Coer : FuncId := 25
abbrev F_term_right : FuncId := 26
abbrev F_mach_cloneType : FuncId := 27
abbrev F_mach_clonePat : FuncId := 30
abbrev F_val_Two : FuncId := 31
abbrev F_mach_Machine_stuck : FuncId := 32
abbrev F_mach_told : FuncId := 33
abbrev F_mach_Machine_gives : FuncId := 34
abbrev F_mach_Machine_makes : FuncId := 35
abbrev F_mach_Machine_push : FuncId := 36
abbrev F_mach_Machine_goes : FuncId := 37
abbrev F_mach_env_with : FuncId := 38
abbrev F_trans_Cast : FuncId := 39
abbrev F_mach_Machine_put : FuncId := 40
abbrev F_mach_Machine_then : FuncId := 41
abbrev F_mach_Machine_call : FuncId := 42
abbrev F_mach_plain : FuncId := 43
abbrev F_mach_operate : FuncId := 44
abbrev F_mach_Machine_match : FuncId := 45
abbrev F_mach_Machine_wrap : FuncId := 46
abbrev F_term_one : FuncId := 47
abbrev F_val_none : FuncId := 49
abbrev F_val_Around : FuncId := 50
abbrev F_typ_Check : FuncId := 51
abbrev F_agree_Agree : FuncId := 52
abbrev F_trans_cast : FuncId := 53
abbrev F_comp_Join : FuncId := 54
abbrev F_mach_truth : FuncId := 55
abbrev F_val_Fits : FuncId := 56
abbrev F_term_shapeOf : FuncId := 57
abbrev F_term_named : FuncId := 58
abbrev F_term_typed : FuncId := 59
abbrev F_term_lists : FuncId := 60
abbrev F_val_blame : FuncId := 61
abbrev F_val_around : FuncId := 62
abbrev F_typ_right : FuncId := 63
abbrev F_agree_agrees : FuncId := 64
abbrev F_typ_Same : FuncId := 65
abbrev F_trans_id : FuncId := 66
abbrev F_prec_Ground : FuncId := 67
abbrev F_coer_Check : FuncId := 68
abbrev F_comp_join : FuncId := 69
abbrev F_val_matching_pat : FuncId := 70
abbrev F_word_Name : FuncId := 71
abbrev F_term_none : FuncId := 72
abbrev F_tree_CheckPat : FuncId := 73
abbrev F_val_head : FuncId := 74
abbrev F_typ_arity : FuncId := 75
abbrev F_typ_Closed : FuncId := 76
abbrev F_coer_right : FuncId := 77
abbrev F_comp_inner : FuncId := 78
abbrev F_comp_formed : FuncId := 79
abbrev F_word_Key : FuncId := 80
abbrev F_word_inner : FuncId := 81
abbrev F_tree_onePat : FuncId := 83
abbrev F_typ_without : FuncId := 84
abbrev F_coer_label : FuncId := 85
abbrev F_coer_isHead : FuncId := 86
abbrev F_coer_within : FuncId := 87
abbrev F_coer_formed : FuncId := 88
abbrev F_comp_id : FuncId := 89
abbrev F_coer_former : FuncId := 92
def fl_l24_MachNums : Flags := { keep := [(19, [8, 9], [8, 9], [], [8, 9])] }
def fl_keep_Int : Flags := {}
def fl_l24_num : Flags := {}
def fl_mach_Run : Flags := { keep := [(2, [4, 5], [4], [], [4, 5])] }
def fl_l24_wakes : Flags := { keep := [(8, [2, 3, 4, 5], [2, 3, 4], [], [2, 3, 4, 5])] }
def fl_l24_quotient : Flags := { keep := [(4, [0, 1, 5, 6], [], [], [0, 1, 5, 6]), (6, [0, 1, 5, 6], [], [], [0, 1, 5, 6])] }
def fl_val_Same : Flags := {}
def fl_mach_New : Flags := { shared := [10] }
def sig_mach_New : Sig := { params := [.val, .val], results := [.ptr] }
def fl_mach_Machine_Step : Flags := { vecs := [59], vecr := [65, 69, 78, 82] }
def sig_mach_Machine_Step : Sig := { params := [.val], results := [.val] }
def fl_mach_Machine_Result : Flags := {}
def sig_mach_Machine_Result : Sig := { params := [.val], results := [.val, .val] }
def fl_l24_cast : Flags := {}
def fl_keep_Ints : Flags := { keep := [(4, [0, 1, 5], [], [], [0, 1, 5])] }
def fl_mach_Machine_Frames : Flags := { steal := [2, 3, 15, 21], vecs := [9], keep := [(3, [3, 9, 10, 11], [], [3], [9, 10, 11])] }
def sig_mach_Machine_Frames : Sig := { params := [.val], results := [.val] }
def fl_coer_Same : Flags := {}
def fl_slices_EqualFunc__api_Val__api_Val_api_Val_api_Val : Flags := { keep := [(4, [1, 2, 15, 16, 17], [], [], [1, 2, 15, 16, 17])] }
def sig_slices_EqualFunc__api_Val__api_Val_api_Val_api_Val : Sig := { params := [.val, .val, .val], results := [.val] }
def fl_term_Check : Flags := {}
def fl_mach_Machine_ends : Flags := {}
def sig_mach_Machine_ends : Sig := { params := [.val, .val], results := [] }
def fl_mach_clone : Flags := { keep := [(5, [1, 2, 26, 27, 28], [1, 2], [], [1, 2, 26, 27, 28]), (10, [1, 2, 41, 42, 43], [1, 2], [], [1, 2, 41, 42, 43])] }
def fl_mach_Machine_read : Flags := { steal := [79, 104], opn := [84, 85, 87, 108, 109], seals := [(13, 89), (17, 111)], keep := [(4, [0, 3], [3], [], [0, 3]), (8, [0, 3], [3], [], [0, 3]), (14, [0, 3], [3], [], [0, 3]), (17, [0, 8], [8], [], [0, 8])] }
def sig_mach_Machine_read : Sig := { params := [.val], results := [] }
def fl_mach_Machine_term : Flags := { refs := [(22, 11), (26, 11), (34, 11)], keep := [(4, [0, 2, 3], [2], [], [0, 2, 3]), (13, [0, 2], [2], [], [0, 2]), (30, [0, 2, 12], [2], [], [0, 2, 12])] }
def sig_mach_Machine_term : Sig := { params := [.val], results := [] }
def fl_mach_Machine_frame : Flags := { keep := [(15, [0, 3], [3], [], [0, 3]), (20, [0, 3, 9], [3], [], [0, 3, 9])] }
def sig_mach_Machine_frame : Sig := { params := [.val, .val], results := [] }
def fl_r03_Leaf : Flags := {}
def fl_slices_EqualFunc__api_Coer__api_Coer_api_Coer_api_Coer : Flags := { keep := [(4, [1, 2, 15, 16, 17], [], [], [1, 2, 15, 16, 17])] }
def sig_slices_EqualFunc__api_Coer__api_Coer_api_Coer_api_Coer : Sig := { params := [.val, .val, .val], results := [.val] }
def fl_term_right : Flags := { keep := [(4, [9, 10, 11], [], [], [9, 10, 11])] }
def fl_mach_cloneType : Flags := { keep := [(3, [1, 2, 10, 11, 12], [1, 2], [], [1, 2, 10, 11, 12])] }
def fl_mach_clonePat : Flags := { keep := [(3, [1, 2, 10, 11, 12], [1, 2], [], [1, 2, 10, 11, 12])] }
def fl_mach_Machine_stuck : Flags := {}
def sig_mach_Machine_stuck : Sig := { params := [.val], results := [] }
def fl_mach_told : Flags := { keep := [(4, [0, 2, 4], [2, 4], [], [0, 2, 4])] }
def fl_mach_Machine_gives : Flags := {}
def sig_mach_Machine_gives : Sig := { params := [.val, .val], results := [] }
def fl_mach_Machine_makes : Flags := { steal := [9] }
def sig_mach_Machine_makes : Sig := { params := [.val, .val], results := [.val] }
def fl_mach_Machine_push : Flags := { vecs := [8, 11] }
def sig_mach_Machine_push : Sig := { params := [.val, .val], results := [] }
def fl_mach_Machine_goes : Flags := {}
def sig_mach_Machine_goes : Sig := { params := [.val, .val, .val], results := [] }
def fl_mach_env_with : Flags := { refb := [11] }
def fl_trans_Cast : Flags := {}
def fl_mach_Machine_put : Flags := { vecs := [13, 22, 38, 49, 67] }
def sig_mach_Machine_put : Sig := { params := [.val, .val], results := [] }
def fl_mach_Machine_then : Flags := {}
def sig_mach_Machine_then : Sig := { params := [.val, .val, .val, .val], results := [] }
def fl_mach_Machine_call : Flags := { keep := [(13, [0, 3, 4], [3, 4], [], [0, 3, 4]), (17, [0, 4, 7, 8], [4, 7], [], [0, 4, 7, 8])] }
def sig_mach_Machine_call : Sig := { params := [.val, .val], results := [] }
def fl_mach_plain : Flags := {}
def fl_mach_operate : Flags := { keep := [(5, [3, 4, 5, 6, 7, 8, 9], [3, 4, 5, 6, 7, 8], [], [3, 4, 5, 6, 7, 8, 9]), (14, [3, 4, 5, 6, 7, 10, 39], [3, 4, 5, 6, 7, 10], [], [3, 4, 5, 6, 7, 10, 39])] }
def fl_mach_Machine_match : Flags := { keep := [(2, [0, 3, 15, 16, 17], [3], [], [0, 3, 15, 16, 17]), (12, [0, 3, 4, 10, 49, 50, 51], [3], [], [0, 3, 4, 10, 49, 50, 51])] }
def sig_mach_Machine_match : Sig := { params := [.val, .val], results := [] }
def fl_mach_Machine_wrap : Flags := {}
def sig_mach_Machine_wrap : Sig := { params := [.val, .val, .val], results := [.val, .val] }
def fl_term_one : Flags := { keep := [(4, [1, 3], [1, 3], [], [1, 3]), (6, [1, 3], [1, 3], [], [1, 3]), (8, [1, 3], [1, 3], [], [1, 3]), (10, [1, 3], [1, 3], [], [1, 3]), (12, [1, 3], [1, 3], [], [1, 3])] }
def fl_val_none : Flags := {}
def fl_val_Around : Flags := { keep := [(4, [2, 3, 4, 5, 7], [2, 3, 4, 5, 7], [], [2, 3, 4, 5, 7])] }
def fl_typ_Check : Flags := {}
def fl_agree_Agree : Flags := {}
def fl_trans_cast : Flags := { keep := [(18, [8, 13], [8, 13], [], [8, 13]), (19, [8, 13, 131, 132, 133], [8, 13], [], [8, 13, 131, 132, 133])] }
def fl_comp_Join : Flags := {}
def fl_mach_truth : Flags := {}
def fl_val_Fits : Flags := { shared := [10] }
def fl_term_shapeOf : Flags := {}
def fl_term_named : Flags := {}
def fl_term_typed : Flags := {}
def fl_term_lists : Flags := { keep := [(2, [1, 10, 11, 12], [1], [], [1, 10, 11, 12]), (8, [1, 24, 25, 26], [1], [], [1, 24, 25, 26]), (14, [35, 36, 37], [], [], [35, 36, 37])] }
def fl_val_blame : Flags := {}
def fl_val_around : Flags := {}
def fl_typ_right : Flags := { keep := [(9, [33, 34, 35], [], [], [33, 34, 35])] }
def fl_agree_agrees : Flags := { keep := [(8, [3, 33, 34, 35], [3], [], [3, 33, 34, 35])] }
def fl_typ_Same : Flags := { keep := [(4, [3, 29, 30, 31], [3], [], [3, 29, 30, 31])] }
def fl_trans_id : Flags := {}
def fl_prec_Ground : Flags := { steal := [28], keep := [(12, [1, 2, 4], [1, 2, 4], [4], [1, 2]), (13, [2, 4, 24, 25], [2, 4], [4], [2, 24, 25])] }
def fl_coer_Check : Flags := {}
def fl_comp_join : Flags := { keep := [(12, [2, 3, 4], [2, 3, 4], [], [2, 3, 4])] }
def fl_val_matching_pat : Flags := { steal := [21], keep := [(20, [0, 4, 5], [4, 5], [], [0, 4, 5]), (22, [0, 4, 5], [4, 5], [], [0, 4, 5]), (24, [0, 9, 10], [9], [], [0, 9, 10])] }
def sig_val_matching_pat : Sig := { params := [.val, .val, .val], results := [.val] }
def fl_word_Name : Flags := { keep := [(4, [0, 3], [], [], [0, 3])] }
def fl_term_none : Flags := {}
def fl_tree_CheckPat : Flags := { shared := [1, 2, 3], keep := [(3, [2, 3, 8], [], [], [2, 3, 8]), (6, [3, 4], [4], [], [3, 4])] }
def fl_val_head : Flags := {}
def fl_typ_arity : Flags := {}
def fl_typ_Closed : Flags := {}
def fl_coer_right : Flags := { keep := [(6, [1, 5], [1], [], [1, 5]), (8, [1, 5], [1], [], [1, 5]), (11, [1], [1], [], [1]), (12, [1, 3], [1, 3], [], [1, 3])] }
def fl_comp_inner : Flags := {}
def fl_comp_formed : Flags := { steal := [56, 64], keep := [(3, [2, 3, 4, 6, 7, 18, 19], [2, 3, 4, 6], [6], [2, 3, 4, 7, 18, 19]), (8, [2, 3, 4, 6, 7, 9, 10, 18, 19], [2, 3, 4, 6, 9, 10], [6], [2, 3, 4, 7, 9, 10, 18, 19])] }
def fl_word_Key : Flags := {}
def fl_word_inner : Flags := {}
def fl_tree_onePat : Flags := { keep := [(24, [1, 3, 4], [1, 3], [], [1, 3, 4])] }
def fl_typ_without : Flags := { keep := [(4, [1, 12, 13, 14], [], [], [1, 12, 13, 14])] }
def fl_coer_label : Flags := {}
def fl_coer_isHead : Flags := {}
def fl_coer_within : Flags := {}
def fl_coer_formed : Flags := { keep := [(4, [1, 3], [1], [], [1, 3]), (8, [3, 4, 30, 31, 32], [], [], [3, 4, 30, 31, 32])] }
def fl_comp_id : Flags := {}
def fl_coer_former : Flags := {}

def flL : List Flags := [{}, {}, {}, fl_l24_MachNums, fl_keep_Int, fl_l24_num, fl_mach_Run, fl_l24_wakes, fl_l24_quotient, fl_val_Same, fl_mach_New, fl_mach_Machine_Step, fl_mach_Machine_Result, fl_l24_cast, fl_keep_Ints, fl_mach_Machine_Frames, fl_coer_Same, fl_slices_EqualFunc__api_Val__api_Val_api_Val_api_Val, fl_term_Check, fl_mach_Machine_ends, fl_mach_clone, fl_mach_Machine_read, fl_mach_Machine_term, fl_mach_Machine_frame, fl_r03_Leaf, fl_slices_EqualFunc__api_Coer__api_Coer_api_Coer_api_Coer, fl_term_right, fl_mach_cloneType, {}, {}, fl_mach_clonePat, {}, fl_mach_Machine_stuck, fl_mach_told, fl_mach_Machine_gives, fl_mach_Machine_makes, fl_mach_Machine_push, fl_mach_Machine_goes, fl_mach_env_with, fl_trans_Cast, fl_mach_Machine_put, fl_mach_Machine_then, fl_mach_Machine_call, fl_mach_plain, fl_mach_operate, fl_mach_Machine_match, fl_mach_Machine_wrap, fl_term_one, {}, fl_val_none, fl_val_Around, fl_typ_Check, fl_agree_Agree, fl_trans_cast, fl_comp_Join, fl_mach_truth, fl_val_Fits, fl_term_shapeOf, fl_term_named, fl_term_typed, fl_term_lists, fl_val_blame, fl_val_around, fl_typ_right, fl_agree_agrees, fl_typ_Same, fl_trans_id, fl_prec_Ground, fl_coer_Check, fl_comp_join, fl_val_matching_pat, fl_word_Name, fl_term_none, fl_tree_CheckPat, fl_val_head, fl_typ_arity, fl_typ_Closed, fl_coer_right, fl_comp_inner, fl_comp_formed, fl_word_Key, fl_word_inner, {}, fl_tree_onePat, fl_typ_without, fl_coer_label, fl_coer_isHead, fl_coer_within, fl_coer_formed, fl_comp_id, {}, {}, fl_coer_former, {}, {}, {}, {}, {}, {}, {}, {}, {}, {}, {}, {}, {}, {}, {}, {}, {}]
def sigL : List (Option Sig) := [none, none, none, none, none, none, none, none, none, none, some sig_mach_New, some sig_mach_Machine_Step, some sig_mach_Machine_Result, none, none, some sig_mach_Machine_Frames, none, some sig_slices_EqualFunc__api_Val__api_Val_api_Val_api_Val, none, some sig_mach_Machine_ends, none, some sig_mach_Machine_read, some sig_mach_Machine_term, some sig_mach_Machine_frame, none, some sig_slices_EqualFunc__api_Coer__api_Coer_api_Coer_api_Coer, none, none, none, none, none, none, some sig_mach_Machine_stuck, none, some sig_mach_Machine_gives, some sig_mach_Machine_makes, some sig_mach_Machine_push, some sig_mach_Machine_goes, none, none, some sig_mach_Machine_put, some sig_mach_Machine_then, some sig_mach_Machine_call, none, none, some sig_mach_Machine_match, some sig_mach_Machine_wrap, none, none, none, none, none, none, none, none, none, none, none, none, none, none, none, none, none, none, none, none, none, none, none, some sig_val_matching_pat, none, none, none, none, none, none, none, none, none, none, none, none, none, none, none, none, none, none, none, none, none, none, none, none, none, none, none, none, none, none, none, none, none, none, none, none, none, none, none]
def clL : List FuncId := [28, 29, 48]
def csL : List (FuncId × Nat) := [(28, 7), (29, 20), (48, 3), (82, 7)]
def mkL : List (FuncId × FuncId) := [(82, 90)]
noncomputable def itF (f : FuncId) : Option (List DV → Option (List DV)) := if f = 90 then some (flatD 7 6) else none
noncomputable def dcL : List (FuncId × DCut) := []
def dfL : List FuncId := []
def refL : List TypeId := [58]
noncomputable def primL : List (FuncId × Cut) := []
noncomputable def cfg : Cfg where
  P := Try.prog
  fl f := flL.getD f {}
  sig f := sigL.getD f none
  prim f := primL.lookup f
  clone f := clL.contains f
  csz f := (csL.lookup f).getD 0
  mki f := mkL.lookup f
  iter f := itF f
  ref t := refL.contains t
  dcut f := dcL.lookup f
  dfn f := dfL.contains f

end Go.Su

/-
  The program's iterators keep their word: by program.
-/
namespace Go.Su
open Go.Proofs Go.RowKit Go.Shelf
attribute [local go_sem] Oper.semAt_some
set_option linter.unusedSimpArgs false
set_option linter.unusedVariables false

theorem room_none {F : Fence} (hd : F.depth = none) (k : Nat) : F.room k := fun d h => by rw [hd] at h; cases h
theorem RoundIn.anyD {F : Fence} (hd : F.depth = none) {m m' : Nat} {P : Program} {l : Nat} {f : FuncId} {tmps : Array Value} {assign body : Code} {w : World} {R : Ending → World → Prop}
    (h : RoundIn F m P l f tmps assign body w R) : RoundIn F m' P l f tmps assign body w R := ⟨h.1, fun c cs _ => h.2 c cs (room_none hd _)⟩

set_option maxHeartbeats 1000000 in
theorem mk_pats : MkOk Try.prog 82 90 7 := by
  intro w vs hs
  obtain ⟨l⟩ := vs
  match l, hs with
  | [v0, v1, v2, v3, v4, v5, v6], _ =>
  refine (callsIn_wide (n := 1)).1 (callsIn_of_wp Try.func82 rfl trivial ?_)
  simp only [Try.ntmps82, List.size_toArray, List.length_cons, List.length_nil, Nat.reduceAdd, Nat.reduceSub, Array.replicate_succ, Array.replicate_zero, List.push_toArray, List.append_toArray, List.nil_append, List.cons_append]
  gi_wp2
  go_ret
  exact ⟨rfl, _, rfl⟩

set_option maxRecDepth 10000 in
set_option maxHeartbeats 4000000 in
theorem go_pats (l n0 : Nat) (ds : List DV) (J : Nat → Env → World → Prop) (Jx : World → Prop) (n : Nat)
    (hf : ∀ k E' W', J k E' W' → ∀ b o, W'.heap.size ≤ b → E'.O b o = .other)
    (hI : ∀ k E' W1 W2, J k E' W1 → ItLe n0 E' W1 W2 → J k E' W2)
    (hY : ∀ k E' W1 d v, J k E' W1 → ds[k]? = some d → RV E'.S W1.heap d v → YieldAt Fence.wide n Try.prog l #[v] W1 fun e W2 =>
      (e = .returned (.bool true) ∧ ∃ E2, J (k + 1) E2 W2 ∧ Pr Ours E' W1.heap E2 W2.heap) ∨ (e = .returned (.bool false) ∧ Jx W2)) :
    ∀ (m : Nat) (d : DV) (sub : List DV), flatN 7 6 m d = some sub → ∀ (k : Nat) (E : Env) (W : World) (v : Value), J k E W → RV E.S W.heap d v → (∀ j x, sub[j]? = some x → ds[k + j]? = some x) → n0 ≤ W.heap.size →
      CallsIn Fence.wide n Try.prog 91 #[v, .func (.yield l) #[] #[]] W fun e W' => (e = .returned (.bool true) ∧ ∃ E', J (k + sub.length) E' W' ∧ Kpt E W E' W') ∨ (e = .returned (.bool false) ∧ Jx W') := by
  intro m
  induction m with
  | zero => intro d sub h; simp [flatN] at h
  | succ m ih =>
    intro d sub hsub k E W v hJ hv hin hn0
    cases d with
    | agg cs =>
      rw [flatN] at hsub
      obtain ⟨h1, hsub⟩ := og_some hsub
      cases hk : cs.getD 6 .undef with
      | list s kds =>
        rw [hk] at hsub
        simp only at hsub
        obtain ⟨h2, hsub⟩ := og_some hsub
        obtain ⟨ks, h3, hsub⟩ := ob_some hsub
        simp only [Option.some.injEq] at hsub
        subst hsub
        simp only [beq_iff_eq, Bool.and_eq_true, decide_eq_true_eq] at h1 h2
        obtain ⟨h2, hlim⟩ := h2
        subst h2
        have hv0 := hv
        simp only [RV] at hv0
        obtain ⟨vs, rfl, hvs⟩ := hv0
        obtain ⟨hl, hvs⟩ := RLs_iff.1 hvs
        obtain ⟨l', rfl⟩ : ∃ l' : List Value, vs = l'.toArray := ⟨vs.toList, by simp⟩
        simp only at hl hvs
        match l', hl.symm.trans h1 with
        | [v0, v1, v2, v3, v4, v5, v6], _ =>
        -- the kids
        have hk5 : cs[6]? = some (.list 7 kds) := by
          have : 6 < cs.length := by omega
          rw [List.getD_eq_getElem?_getD, List.getElem?_eq_getElem this] at hk
          rw [List.getElem?_eq_getElem this]
          exact congrArg some hk
        have hkc := (hvs 6 _ v6 hk5 rfl).2
        simp only [RC] at hkc
        obtain ⟨ka, len, cap, h4, h5, h6, h7, h8, h9⟩ := hkc
        simp only [List.cons.injEq, and_true] at h4
        subst h4 h5
        have hdd : ∀ k : Nat, (Fence.wide.depth.isSome = true → 1 ≤ k) := fun k h => by cases h
        -- the round
        have ho : ∀ o, E.O W.heap.size o = .other := fun o => hf k E W hJ _ o (Nat.le_refl _)
        have key : ∀ T, ∃ fy ty ay by_, (Instr.yield l #[.agg #[v0, v1, v2, v3, v4, v5, .slice ka kds.length cap]]).run Try.prog (W.alloc (.cells #[v0, v1, v2, v3, v4, v5, .slice ka kds.length cap] T)) = .ok (.round l fy ty ay by_) (W.alloc (.cells #[v0, v1, v2, v3, v4, v5, .slice ka kds.length cap] T)) ∧
            RoundIn Fence.wide (n - 1) Try.prog l fy ty ay by_ (W.alloc (.cells #[v0, v1, v2, v3, v4, v5, .slice ka kds.length cap] T)) fun e W2 =>
              (e = .returned (.bool true) ∧ ∃ E2, J (k + 1) E2 W2 ∧ Kpt E W E2 W2 ∧ (W2.heap[W.heap.size]? = some (.cells #[v0, v1, v2, v3, v4, v5, .slice ka kds.length cap] T (0, 0)) ∧ (∀ o, E2.O W.heap.size o = .other)) ∧ W2.cell? ⟨W.heap.size, 6, none⟩ = some (.slice ka kds.length cap)) ∨ (e = .returned (.bool false) ∧ Jx W2) := by
          intro T
          have hJ1 : J k E (W.alloc (.cells #[v0, v1, v2, v3, v4, v5, .slice ka kds.length cap] T)) := hI _ _ _ _ hJ (ItLe.alloc _)
          have K1 := Kpt.alloc (E := E) (W := W) (.cells #[v0, v1, v2, v3, v4, v5, .slice ka kds.length cap] T) (hf k E W hJ)
          obtain ⟨fy, ty, ay, by_, hy, hR⟩ := hY k E _ (.agg cs) _ hJ1 (hin 0 _ rfl) (RV.mono K1.sh _ hv)
          refine ⟨fy, ty, ay, by_, hy, RoundIn.anyD rfl (RoundIn.mono hR ?_)⟩
          rintro e W2 (⟨rfl, E2, hJ2, hP2⟩ | ⟨rfl, hx⟩)
          · have K2 := Kpt.of_pr hP2 (hf _ _ _ hJ1)
            have hb := K2.blk W.heap.size (by simp) ho
            rw [World.alloc_heap_new] at hb
            refine .inl ⟨rfl, E2, hJ2, K1.trans K2, hb, ?_⟩
            simp [World.cell?, hb.1]
          · exact .inr ⟨rfl, hx⟩
        obtain ⟨fy, ty, ay, by_, hy, hR⟩ := key 76
        refine callsIn_of_wp Try.func91 rfl trivial ?_
        simp only [Try.ntmps91, List.size_toArray, List.length_cons, List.length_nil, Nat.reduceAdd, Nat.reduceSub, Array.replicate_succ, Array.replicate_zero, List.push_toArray, List.append_toArray, List.nil_append, List.cons_append]
        gi_wp2_with ((try refine ⟨hdd _, ?_⟩); refine hR.mono ?_; clear hR; rintro e W2 (⟨rfl, E2, hJ2, hK2, hb2, hc2⟩ | ⟨rfl, hx2⟩))
        · -- the kids, one by one
          refine wpIn_loop_rounds (kds.length + 1) ?_
          refine (?loop : ∀ (r i : Nat) (pre rs : List DV) (E3 : Env) (w : World) (x6 x15 x16 x17 x18 x19 x20 x21 x22 : Value), i + r = kds.length → flatL (flatN 7 6 m) (kds.drop i) = some rs → ks = pre ++ rs → J (k + 1 + pre.length) E3 w → Kpt E W E3 w →
              Code.roundsIn Fence.wide n Try.prog _ _ (r + 1) { tmps := #[.agg #[v0, v1, v2, v3, v4, v5, .slice ka kds.length cap], .func (.yield l) #[] #[], .pointer (some { block := W.heap.size, off := 0 }), undef, .bool false, undef, x6,
                .func (.yield l) #[] #[], .agg #[v0, v1, v2, v3, v4, v5, .slice ka kds.length cap], .bool true, .bool false, .pointer (some { block := W.heap.size, off := 6 }), .slice ka kds.length cap, .int .i64 (kds.length : Int), .int .i64 (i : Int), x15, x16, x17, x18, x19, x20, x21, x22], defers := [] } w)
            kds.length 0 [] ks E2 W2 undef undef undef undef undef undef undef undef undef (by simp) h3 rfl hJ2 hK2
          clear hJ2 hK2 hb2 hc2 hy key hJ
          intro r
          induction r with
          | zero =>
            intro i pre rs E3 w x6 x15 x16 x17 x18 x19 x20 x21 x22 hi hrs hks hJ3 hK3
            have hi' : i = kds.length := by omega
            have hi'' : (i : Int) = (kds.length : Int) := by omega
            rw [roundsIn_succ]
            rw [hi'']
            have hlt : ¬ ((kds.length : Int) < (kds.length : Int)) := by omega
            gi_wp2
            go_ret
            rw [hi', List.drop_length, flatL] at hrs
            simp only [Option.some.injEq] at hrs
            subst hrs
            refine .inl ⟨rfl, E3, ?_, hK3⟩
            rw [show k + (pre.length + ([] : List DV).length + 1) = k + 1 + pre.length by simp; omega]
            exact hJ3
          | succ r ihr =>
            intro i pre rs E3 w x6 x15 x16 x17 x18 x19 x20 x21 x22 hi hrs hks hJ3 hK3
            rw [roundsIn_succ]
            have hlt : ((i : Int) < (kds.length : Int)) := by omega
            have hil : i < kds.length := by omega
            -- the kid in memory
            obtain ⟨xa, rfl⟩ : ∃ xa, ka = some xa := by
              cases ka with
              | none => have := h7 rfl; omega
              | some xa => exact ⟨xa, rfl⟩
            obtain ⟨h10, h11⟩ := h9 xa rfl
            obtain ⟨xb, xo, xs⟩ := xa
            have h10 := h10 (by omega)
            simp only at h10 h11
            subst h10
            obtain ⟨us, hu1, hu2, hu3⟩ := RElems_iff.1 h11 i _ (List.getElem?_eq_getElem hil)
            have hu4 := hu2.mono hK3.sh
            match us, hu1 with
            | [u0, u1, u2, u3, u4, u5, u6], _ =>
            have cc : ∀ (j : Nat) (u : Value), [u0, u1, u2, u3, u4, u5, u6][j]? = some u → w.cell? ⟨xb, xo + i * 7 + j, none⟩ = some u := fun j u hj => by rw [cell_hc]; exact (hu4 j u hj).1
            have c0 : w.cell? ⟨xb, xo + i * 7, none⟩ = some u0 := cc 0 u0 rfl
            have c1 := cc 1 u1 rfl
            have c2 := cc 2 u2 rfl
            have c3 := cc 3 u3 rfl
            have c4 := cc 4 u4 rfl
            have c5 := cc 5 u5 rfl
            have c6 := cc 6 u6 rfl
            have ou : ∀ (j : Nat) (u : Value), [u0, u1, u2, u3, u4, u5, u6][j]? = some u → u.oneCell' = true := fun j u hj => (RC_proj hu3 hj).elim fun h1 h2 => RC_one h1 h2
            have e0 : u0.oneCell' = true := ou 0 u0 rfl
            have e1 : u1.oneCell' = true := ou 1 u1 rfl
            have e2 : u2.oneCell' = true := ou 2 u2 rfl
            have e3 : u3.oneCell' = true := ou 3 u3 rfl
            have e4 : u4.oneCell' = true := ou 4 u4 rfl
            have e5 : u5.oneCell' = true := ou 5 u5 rfl
            have e6 : u6.oneCell' = true := ou 6 u6 rfl
            obtain ⟨w1, s0, b0, r0, z0, o0⟩ := store_one (P := Try.prog) (j := 0) (World.alloc_heap_new w (.cells #[.int .i64 0, .int .i64 0, .int .i64 0, .string ⟨#[]⟩, .int .i64 0, .string ⟨#[]⟩, .slice none 0 0] 76)) (by simp) e0
            obtain ⟨w2, s1, b1, r1, z1, o1⟩ := store_one (P := Try.prog) (j := 1) b0 (by simp) e1
            obtain ⟨w3, s2, b2, r2, z2, o2⟩ := store_one (P := Try.prog) (j := 2) b1 (by simp) e2
            obtain ⟨w4, s3, b3, r3, z3, o3⟩ := store_one (P := Try.prog) (j := 3) b2 (by simp) e3
            obtain ⟨w5, s4, b4, r4, z4, o4⟩ := store_one (P := Try.prog) (j := 4) b3 (by simp) e4
            obtain ⟨w6, s5, b5, r5, z5, o5⟩ := store_one (P := Try.prog) (j := 5) b4 (by simp) e5
            obtain ⟨w7, s6, b6, r6, z6, o6⟩ := store_one (P := Try.prog) (j := 6) b5 (by simp) e6
            simp only [List.setIfInBounds_toArray, List.set_cons_zero, List.set_cons_succ] at b0 b1 b2 b3 b4 b5 b6
            have dd : ∀ (j : Nat) (u : Value), [u0, u1, u2, u3, u4, u5, u6][j]? = some u → w7.cell? ⟨w.heap.size, j, none⟩ = some u := fun j u hj => by rw [cell_hc]; simp only [hc, b6]; simpa using hj
            have d0 := dd 0 u0 rfl
            have d1 := dd 1 u1 rfl
            have d2 := dd 2 u2 rfl
            have d3 := dd 3 u3 rfl
            have d4 := dd 4 u4 rfl
            have d5 := dd 5 u5 rfl
            have d6 := dd 6 u6 rfl
            have low : ∀ b, b < w.heap.size → w7.heap[b]? = w.heap[b]? := fun b hb => by
              rw [r6 b (by omega), r5 b (by omega), r4 b (by omega), r3 b (by omega), r2 b (by omega), r1 b (by omega), r0 b (by omega)]
              exact Below.heap_alloc _ _ _ hb
            have hz : w.heap.size ≤ w7.heap.size := by rw [z6, z5, z4, z3, z2, z1, z0]; simp
            have hout : Outer w w7 := Outer.trans (b := w1) (Outer.trans (b := w.alloc (.cells #[.int .i64 0, .int .i64 0, .int .i64 0, .string ⟨#[]⟩, .int .i64 0, .string ⟨#[]⟩, .slice none 0 0] 76)) ⟨rfl, rfl, rfl⟩ o0) ((((((o1).trans o2).trans o3).trans o4).trans o5).trans o6)
            have hfr := hf _ _ _ hJ3
            have K7 : Kpt E3 w E3 w7 := Kpt.same hz low hfr
            have hJ7 := hI _ _ _ _ hJ3 (ItLe.same hz low hout)
            rw [List.drop_eq_getElem_cons hil, flatL] at hrs
            obtain ⟨sa, hsa, hrs⟩ := ob_some hrs
            obtain ⟨sb, hsb, hrs⟩ := ob_some hrs
            simp only [Option.some.injEq] at hrs
            subst hrs
            have h120 : Fence.wide.fn 91 := trivial
            have hcall : CallsIn Fence.wide (n - 1) Try.prog 91 _ w7 _ := callsIn_wide.2 (callsIn_wide.1 (ih _ sa hsa (k + 1 + pre.length) E3 w7 (.agg #[u0, u1, u2, u3, u4, u5, u6]) hJ7 (RV.mono (hK3.trans K7).sh _ (flat_agg hsa hu3)) (flat_at hin hks) (by have := hK3.size; omega)))
            clear ih
            gi_wp2_with ((try refine ⟨hdd _, ?_⟩); gi_at_call 91; refine hcall.mono ?_; clear hcall; rintro e wz (⟨rfl, E4, hJ4, hK4⟩ | ⟨rfl, hx⟩))
            · rw [show wrap64 ((i : Int) + 1) = ((i + 1 : Nat) : Int) by unfold lim at hlim; rw [wrap64]; omega]
              exact ihr (i + 1) (pre ++ sa) sb E4 wz _ _ _ _ _ _ _ _ _ (by omega) hsb (by rw [hks, List.append_assoc]) (by rw [List.length_append, ← Nat.add_assoc]; exact hJ4) ((hK3.trans K7).trans hK4)
            · go_ret
              exact .inr ⟨rfl, hx⟩
        · go_ret
          exact .inr ⟨rfl, hx2⟩
      | _ => rw [hk] at hsub; simp at hsub
    | _ => simp [flatN] at hsub

set_option maxHeartbeats 1000000 in
theorem it_pats : IterOk Try.prog 90 (flatD 7 6) := by
  intro cs ds hds n l b c T0 J Jx E W hb ho hR hf hI hY h0
  obtain ⟨m, hm⟩ := flatD_some hds
  have hlen : cs.length = 7 := by
    cases m with
    | zero => simp [flatN] at hm
    | succ m =>
      rw [flatN] at hm
      obtain ⟨h1, -⟩ := og_some hm
      simpa using h1
  have hlc := (RLs_iff.1 hR).1
  obtain ⟨l', rfl⟩ : ∃ l' : List Value, c = l'.toArray := ⟨c.toList, by simp⟩
  simp only at hR hlc
  match l', hlc.symm.trans hlen with
  | [v0, v1, v2, v3, v4, v5, v6], _ =>
  have cc : ∀ (j : Nat) (u : Value), [v0, v1, v2, v3, v4, v5, v6][j]? = some u → W.cell? ⟨b, j, none⟩ = some u := fun j u hj => by rw [cell_hc]; simp only [hc, hb]; simpa using hj
  have c0 := cc 0 v0 rfl
  have c1 := cc 1 v1 rfl
  have c2 := cc 2 v2 rfl
  have c3 := cc 3 v3 rfl
  have c4 := cc 4 v4 rfl
  have c5 := cc 5 v5 rfl
  have c6 := cc 6 v6 rfl
  have hgo : CallsIn Fence.wide (n - 1) Try.prog 91 _ W _ := callsIn_wide.2 (callsIn_wide.1 (go_pats l W.heap.size ds J Jx n hf hI hY m (.agg cs) ds hm 0 E W (.agg #[v0, v1, v2, v3, v4, v5, v6]) h0 (by simp only [RV]; exact ⟨_, rfl, hR⟩) (fun j x h => by rw [Nat.zero_add]; exact h) (Nat.le_refl _)))
  have h120 : Fence.wide.fn 91 := trivial
  have hdd : ∀ k : Nat, (Fence.wide.depth.isSome = true → 1 ≤ k) := fun k h => by cases h
  refine callsIn_of_wp Try.func90 rfl trivial ?_
  simp only [Try.ntmps90, List.size_toArray, List.length_cons, List.length_nil, Nat.reduceAdd, Nat.reduceSub, Array.replicate_succ, Array.replicate_zero, List.push_toArray, List.append_toArray, List.nil_append, List.cons_append]
  gi_wp2_with ((try refine ⟨hdd _, ?_⟩); gi_at_call 91; refine hgo.mono ?_; clear hgo; rintro e w2 (⟨rfl, E4, hJ4, -⟩ | ⟨rfl, hx⟩))
  · go_end0
    exact ⟨⟨_, rfl⟩, .inl ⟨E4, by simpa using hJ4⟩⟩
  · go_end0
    exact ⟨⟨_, rfl⟩, .inr hx⟩

noncomputable def cl_28 : ClP where
  i0 := 0
  i1 := 1
  i2 := 2
  i3 := 3
  r0 := (opR (Try.f28.body.getD .skip) [false] 0)
  r1 := (opR (Try.f28.body.getD .skip) [true, false, false] 0)
  r2 := (opR (Try.f28.body.getD .skip) [true, false, false] 1)
  r3 := (opR (Try.f28.body.getD .skip) [true, false, true, false, false] 0)
  r4 := (opR (Try.f28.body.getD .skip) [true, true, false] 0)
  r5 := (opR (Try.f28.body.getD .skip) [true, true, false] 1)
  r6 := (opR (Try.f28.body.getD .skip) [true, true, false] 2)
  r7 := (opR (Try.f28.body.getD .skip) [true, true, false] 3)
  ts := 29
  ty := ytOf (Try.f28.body.getD .skip) [true, false, false] 1
theorem clone_28 : CloneOk Try.prog 28 7 := clone_ok (q := cl_28) (by kernel_rfl) Try.func28 (by kernel_rfl) (by kernel_rfl) (by kernel_rfl)

noncomputable def cl_29 : ClP where
  i0 := 0
  i1 := 1
  i2 := 2
  i3 := 3
  r0 := (opR (Try.f29.body.getD .skip) [false] 0)
  r1 := (opR (Try.f29.body.getD .skip) [true, false, false] 0)
  r2 := (opR (Try.f29.body.getD .skip) [true, false, false] 1)
  r3 := (opR (Try.f29.body.getD .skip) [true, false, true, false, false] 0)
  r4 := (opR (Try.f29.body.getD .skip) [true, true, false] 0)
  r5 := (opR (Try.f29.body.getD .skip) [true, true, false] 1)
  r6 := (opR (Try.f29.body.getD .skip) [true, true, false] 2)
  r7 := (opR (Try.f29.body.getD .skip) [true, true, false] 3)
  ts := 30
  ty := ytOf (Try.f29.body.getD .skip) [true, false, false] 1
theorem clone_29 : CloneOk Try.prog 29 20 := clone_ok (q := cl_29) (by kernel_rfl) Try.func29 (by kernel_rfl) (by kernel_rfl) (by kernel_rfl)

noncomputable def cl_48 : ClP where
  i0 := 0
  i1 := 1
  i2 := 2
  i3 := 3
  r0 := (opR (Try.f48.body.getD .skip) [false] 0)
  r1 := (opR (Try.f48.body.getD .skip) [true, false, false] 0)
  r2 := (opR (Try.f48.body.getD .skip) [true, false, false] 1)
  r3 := (opR (Try.f48.body.getD .skip) [true, false, true, false, false] 0)
  r4 := (opR (Try.f48.body.getD .skip) [true, true, false] 0)
  r5 := (opR (Try.f48.body.getD .skip) [true, true, false] 1)
  r6 := (opR (Try.f48.body.getD .skip) [true, true, false] 2)
  r7 := (opR (Try.f48.body.getD .skip) [true, true, false] 3)
  ts := 26
  ty := ytOf (Try.f48.body.getD .skip) [true, false, false] 1
theorem clone_48 : CloneOk Try.prog 48 3 := clone_ok (q := cl_48) (by kernel_rfl) Try.func48 (by kernel_rfl) (by kernel_rfl) (by kernel_rfl)

end Go.Su

/-
  The settings are right.
-/
namespace Go.Su
open Go.Proofs

theorem names_ok : Try.prog.funcs.toList.all (fun fn => fn.name != "runtime.NumGoroutine") = true := by kernel_rfl

theorem lookup_mem {β : Type} {l : List (FuncId × β)} {f : FuncId} {g : β} (h : l.lookup f = some g) : (f, g) ∈ l := by
  induction l with
  | nil => cases h
  | cons x l ih =>
    obtain ⟨a, b⟩ := x
    simp only [List.lookup_cons] at h
    by_cases e : f == a
    · rw [e] at h; simp only [Option.some.injEq] at h; rw [h]; rw [eq_of_beq e]; exact List.mem_cons_self ..
    · simp only [e] at h; exact List.mem_cons_of_mem _ (ih h)

theorem cfg_ok : CfgOk cfg where
  mixed := by kernel_rfl
  go f fn h := by
    have h1 : fn ∈ Try.prog.funcs.toList := by
      have : Try.prog.funcs[f]? = some fn := h
      rw [← Array.getElem?_toList] at this
      exact List.mem_of_getElem? this
    have := List.all_eq_true.1 names_ok fn h1
    simpa using this
  prim f g h := by cases h
  clone f h := by
    have h0 : clL.contains f = true := h
    have h1 : f ∈ clL := by simpa using h0
    simp only [clL, List.mem_cons, List.not_mem_nil, or_false] at h1
    rcases h1 with rfl | rfl | rfl
    · exact ⟨by kernel_rfl, clone_28⟩
    · exact ⟨by kernel_rfl, clone_29⟩
    · exact ⟨by kernel_rfl, clone_48⟩
  mki f g h := by
    have h1 : (f, g) ∈ mkL := lookup_mem h
    simp only [mkL, List.mem_cons, List.not_mem_nil, or_false, Prod.mk.injEq] at h1
    rcases h1 with ⟨rfl, rfl⟩
    · exact ⟨by kernel_rfl, mk_pats⟩
  iter g it h := by
    have h1 : itF g = some it := h
    unfold itF at h1
    split at h1
    · rename_i e
      subst e
      cases h1
      exact ⟨by kernel_rfl, it_pats⟩
    · cases h1
end Go.Su

/-
  Equations of the program's functions: by program.
-/
namespace Go.Su
open Go.Proofs
set_option linter.unusedVariables false

noncomputable def code_l24_MachNums : Code := Try.f3.body.getD .skip
noncomputable def P_l24_MachNums (R : Orc) (x0 : DV) (x1 : DV) (x2 : DV) : Option DV := evP cfg R fl_l24_MachNums (retP cfg.P Try.f3) [] code_l24_MachNums (initSt Try.f3 [(x0, .val), (x1, .val), (x2, .val)] [])
noncomputable def P_l24_MachNums_19 (R : Orc) (b8 : DV) (b9_0 : DV) (b9_1 : DV) (b9_2 : DV) (b9_3 : DV) (b9_4 : DV) (b9_5 : DV) (b9_6 : DV) (b9_7 : DV) (b9_8 : DV) : Option DV := evP cfg R fl_l24_MachNums (retP cfg.P Try.f3) [true, true, true, true, true, true] code_l24_MachNums ⟨spread .undef 108 0 [], spread .val 108 0 [(8, (.loc 8 0)), (9, (.loc 9 0))], spread none 108 0 [(8, some [((proj 0 b8), .val), ((proj 1 b8), .val), ((proj 2 b8), .val), ((proj 3 b8), .val), ((proj 4 b8), .val), ((proj 5 b8), .val), ((proj 6 b8), .val), ((proj 7 b8), .val), ((proj 8 b8), .val), ((proj 9 b8), .val), ((proj 10 b8), .val), ((proj 11 b8), .val), ((proj 12 b8), .val), ((proj 13 b8), .val), ((proj 14 b8), .val)]), (9, some [(b9_0, .val), (b9_1, .val), (b9_2, .val), (b9_3, .val), (b9_4, .val), (b9_5, .val), (b9_6, .val), (b9_7, .val), (b9_8, .val)])], []⟩
set_option maxRecDepth 100000 in
theorem eq_l24_MachNums (R : Orc) (x0 : DV) (x1 : DV) (x2 : DV) : P_l24_MachNums R x0 x1 x2 =
  (ob (R.p F_keep_Int [x2, (.int .i64 6)]) fun d1 =>
  ob (dBin .add (.int .i64 1) d1) fun d2 =>
  ob (R.p F_l24_num [x0]) fun d3 =>
  ob (R.p F_l24_num [x1]) fun d4 =>
  og (isAggN 20 d3) <|
  og (isAggN 20 d4) <|
  og (isCell d2) <|
  ob (R.p F_mach_Run [(.agg [(.int .i64 15), (.int .i64 3), (.int .i64 9), (.str ⟨#[]⟩), (.str ⟨#[]⟩), (.int .i64 0), (.str ⟨#[]⟩), d2, (.int .i64 0), (.bool false), (.list 1 []), (.int .i64 0), (.int .i64 0), (.list 3 []), (.int .i64 0), (.int .i64 0), (.list 3 []), (.list 3 []), (.list 7 []), (.list 20 [d3, d4])]), (.int .i64 20)]) fun d5 =>
  og (isAggN 15 d5) <|
  ob (dBin .eql d2 (.int .i64 1)) fun d6 =>
  oif d6
   (ob (dConv .u64 x0) fun d7 =>
   ob (dConv .u64 x1) fun d8 =>
   ob (dBin .add d7 d8) fun d9 =>
   ob (dConv .i64 d9) fun d10 =>
   og (isCell d10) <|
   P_l24_MachNums_19 R d5 (.int .i64 1) d10 (.str ⟨#[]⟩) (.int .i64 0) (.int .i64 0) (.int .i64 0) (.bool false) (.list 5 []) (.list 9 []))
   (ob (dBin .eql d2 (.int .i64 2)) fun d11 =>
   oif d11
    (ob (dConv .u64 x0) fun d12 =>
    ob (dConv .u64 x1) fun d13 =>
    ob (dBin .sub d12 d13) fun d14 =>
    ob (dConv .i64 d14) fun d15 =>
    og (isCell d15) <|
    P_l24_MachNums_19 R d5 (.int .i64 1) d15 (.str ⟨#[]⟩) (.int .i64 0) (.int .i64 0) (.int .i64 0) (.bool false) (.list 5 []) (.list 9 []))
    (ob (dBin .eql d2 (.int .i64 3)) fun d16 =>
    oif d16
     (ob (dConv .u64 x0) fun d17 =>
     ob (dConv .u64 x1) fun d18 =>
     ob (dBin .mul d17 d18) fun d19 =>
     ob (dConv .i64 d19) fun d20 =>
     og (isCell d20) <|
     P_l24_MachNums_19 R d5 (.int .i64 1) d20 (.str ⟨#[]⟩) (.int .i64 0) (.int .i64 0) (.int .i64 0) (.bool false) (.list 5 []) (.list 9 []))
     (ob (dBin .eql d2 (.int .i64 4)) fun d21 =>
     oif d21
      (ob (dBin .eql x1 (.int .i64 0)) fun d22 =>
      oif d22
       (ob (dBin .eql (proj 0 d5) (.int .i64 3)) fun d23 =>
       ogd d23
        (ob (dEqA [.int, .int] (.agg [(proj 12 d5), (proj 13 d5)]) (.agg [(.int .i64 3), (.int .i64 9)])) fun b24 =>
        ogd (.bool b24)
         (ob (R.p F_l24_wakes []) fun d25 =>
         some d25)
         (some (.bool false))
         none)
        (some (.bool false))
        none)
       (ob (R.p F_l24_quotient [x0, x1]) fun d26 =>
       og (isCell d26) <|
       P_l24_MachNums_19 R d5 (.int .i64 1) d26 (.str ⟨#[]⟩) (.int .i64 0) (.int .i64 0) (.int .i64 0) (.bool false) (.list 5 []) (.list 9 [])))
      (ob (dBin .eql d2 (.int .i64 5)) fun d27 =>
      ogd d27
       (ob (dBin .lss x0 x1) fun d28 =>
       ogd d28
        (P_l24_MachNums_19 R d5 (.int .i64 2) (.int .i64 1) (.str ⟨#[]⟩) (.int .i64 0) (.int .i64 0) (.int .i64 0) (.bool false) (.list 5 []) (.list 9 []))
        (ob (dBin .eql d2 (.int .i64 6)) fun d29 =>
        ogd d29
         (ob (dBin .eql x0 x1) fun d30 =>
         oif d30
          (P_l24_MachNums_19 R d5 (.int .i64 2) (.int .i64 1) (.str ⟨#[]⟩) (.int .i64 0) (.int .i64 0) (.int .i64 0) (.bool false) (.list 5 []) (.list 9 []))
          (P_l24_MachNums_19 R d5 (.int .i64 2) (.int .i64 0) (.str ⟨#[]⟩) (.int .i64 0) (.int .i64 0) (.int .i64 0) (.bool false) (.list 5 []) (.list 9 [])))
         (P_l24_MachNums_19 R d5 (.int .i64 2) (.int .i64 0) (.str ⟨#[]⟩) (.int .i64 0) (.int .i64 0) (.int .i64 0) (.bool false) (.list 5 []) (.list 9 []))
         none)
        none)
       (ob (dBin .eql d2 (.int .i64 6)) fun d31 =>
       ogd d31
        (ob (dBin .eql x0 x1) fun d32 =>
        oif d32
         (P_l24_MachNums_19 R d5 (.int .i64 2) (.int .i64 1) (.str ⟨#[]⟩) (.int .i64 0) (.int .i64 0) (.int .i64 0) (.bool false) (.list 5 []) (.list 9 []))
         (P_l24_MachNums_19 R d5 (.int .i64 2) (.int .i64 0) (.str ⟨#[]⟩) (.int .i64 0) (.int .i64 0) (.int .i64 0) (.bool false) (.list 5 []) (.list 9 [])))
        (P_l24_MachNums_19 R d5 (.int .i64 2) (.int .i64 0) (.str ⟨#[]⟩) (.int .i64 0) (.int .i64 0) (.int .i64 0) (.bool false) (.list 5 []) (.list 9 []))
        none)
       none))))) := evP_of [19] (by kernel_rfl)
theorem eq_l24_MachNums_19 (R : Orc) (b8 : DV) (b9_0 : DV) (b9_1 : DV) (b9_2 : DV) (b9_3 : DV) (b9_4 : DV) (b9_5 : DV) (b9_6 : DV) (b9_7 : DV) (b9_8 : DV) : P_l24_MachNums_19 R b8 b9_0 b9_1 b9_2 b9_3 b9_4 b9_5 b9_6 b9_7 b9_8 =
  (ob (dBin .eql (proj 0 b8) (.int .i64 1)) fun d1 =>
  ogd d1
   (ob (R.p F_val_Same [(.agg [(proj 1 b8), (proj 2 b8), (proj 3 b8), (proj 4 b8), (proj 5 b8), (proj 6 b8), (proj 7 b8), (proj 8 b8), (proj 9 b8)]), (.agg [b9_0, b9_1, b9_2, b9_3, b9_4, b9_5, b9_6, b9_7, b9_8])]) fun d2 =>
   ogd d2
    (ob (dBin .eql (proj 14 b8) (.int .i64 6)) fun d3 =>
    ogd d3
     (ob (R.p F_l24_wakes []) fun d4 =>
     some d4)
     (some (.bool false))
     none)
    (some (.bool false))
    none)
   (some (.bool false))
   none) := evP_of [19] (by kernel_rfl)
theorem fix_l24_MachNums (x0 : DV) (x1 : DV) (x2 : DV) : (run cfg).p F_l24_MachNums [x0, x1, x2] = P_l24_MachNums (run cfg) x0 x1 x2 :=
  (fix_pure (C := cfg) (f := F_l24_MachNums) (fn := Try.f3) (c := code_l24_MachNums) (by kernel_rfl) Try.func3 (by kernel_rfl)).trans (by kernel_rfl)
theorem call_l24_MachNums (x0 : DV) (x1 : DV) (x2 : DV) {d : DV} (h : P_l24_MachNums (run cfg) x0 x1 x2 = some d) : (run cfg).p F_l24_MachNums [x0, x1, x2] = some d := (fix_l24_MachNums x0 x1 x2).trans h

noncomputable def code_keep_Int : Code := Try.f4.body.getD .skip
noncomputable def P_keep_Int (R : Orc) (x0 : DV) (x1 : DV) : Option DV := evP cfg R fl_keep_Int (retP cfg.P Try.f4) [] code_keep_Int (initSt Try.f4 [(x0, .val), (x1, .val)] [])
theorem eq_keep_Int (R : Orc) (x0 : DV) (x1 : DV) : P_keep_Int R x0 x1 =
  (ob (dBin .lss x1 (.int .i64 1)) fun d1 =>
  oif d1
   (some (.int .i64 0))
   (ob (dConv .u64 x0) fun d2 =>
   ob (dConv .u64 x1) fun d3 =>
   ob (dBin .rem d2 d3) fun d4 =>
   ob (dConv .i64 d4) fun d5 =>
   some d5)) := evP_of [] (by kernel_rfl)
theorem fix_keep_Int (x0 : DV) (x1 : DV) : (run cfg).p F_keep_Int [x0, x1] = P_keep_Int (run cfg) x0 x1 :=
  (fix_pure (C := cfg) (f := F_keep_Int) (fn := Try.f4) (c := code_keep_Int) (by kernel_rfl) Try.func4 (by kernel_rfl)).trans (by kernel_rfl)
theorem call_keep_Int (x0 : DV) (x1 : DV) {d : DV} (h : P_keep_Int (run cfg) x0 x1 = some d) : (run cfg).p F_keep_Int [x0, x1] = some d := (fix_keep_Int x0 x1).trans h

noncomputable def code_l24_num : Code := Try.f5.body.getD .skip
noncomputable def P_l24_num (R : Orc) (x0 : DV) : Option DV := evP cfg R fl_l24_num (retP cfg.P Try.f5) [] code_l24_num (initSt Try.f5 [(x0, .val)] [])
theorem eq_l24_num (R : Orc) (x0 : DV) : P_l24_num R x0 =
  (og (isCell x0) <|
  some (.agg [(.int .i64 2), (.int .i64 0), (.int .i64 0), (.str ⟨#[]⟩), (.str ⟨#[]⟩), x0, (.str ⟨#[]⟩), (.int .i64 0), (.int .i64 0), (.bool false), (.list 1 []), (.int .i64 0), (.int .i64 0), (.list 3 []), (.int .i64 0), (.int .i64 0), (.list 3 []), (.list 3 []), (.list 7 []), (.list 20 [])])) := evP_of [] (by kernel_rfl)
theorem fix_l24_num (x0 : DV) : (run cfg).p F_l24_num [x0] = P_l24_num (run cfg) x0 :=
  (fix_pure (C := cfg) (f := F_l24_num) (fn := Try.f5) (c := code_l24_num) (by kernel_rfl) Try.func5 (by kernel_rfl)).trans (by kernel_rfl)
theorem call_l24_num (x0 : DV) {d : DV} (h : P_l24_num (run cfg) x0 = some d) : (run cfg).p F_l24_num [x0] = some d := (fix_l24_num x0).trans h

noncomputable def code_mach_Run : Code := Try.f6.body.getD .skip
noncomputable def P_mach_Run (R : Orc) (x0 : DV) (x1 : DV) : Option DV := evP cfg R fl_mach_Run (retP cfg.P Try.f6) [] code_mach_Run (initSt Try.f6 [(x0, .val), (x1, .val)] [])
noncomputable def P_mach_Run_2h (R : Orc) (t5i : Nat) (b4_0 : DV) (b4_1 : DV) (b4_2 : DV) (b4_3 : DV) (b4_4 : DV) (b4_5 : DV) (b4_6 : DV) (b4_7 : DV) (b4_8 : DV) (b4_9 : DV) (b4_10 : DV) (b4_11 : DV) (b4_12 : DV) (b4_13 : DV) (b4_14 : DV) (sg : List SObj) : Option DV := headP cfg R fl_mach_Run (retP cfg.P Try.f6) [true, true, false, false] code_mach_Run ⟨spread .undef 19 0 [], spread .val 19 0 [(4, (.loc 4 0)), (5, (.ptr t5i 0))], spread none 19 0 [(4, some [(b4_0, .val), (b4_1, .val), (b4_2, .val), (b4_3, .val), (b4_4, .val), (b4_5, .val), (b4_6, .val), (b4_7, .val), (b4_8, .val), (b4_9, .val), (b4_10, .val), (b4_11, .val), (b4_12, .val), (b4_13, .val), (b4_14, .val)])], sg⟩
theorem eq_mach_Run (R : Orc) (x0 : DV) (x1 : DV) : P_mach_Run R x0 x1 =
  (og (isAggN 20 x0) <|
  ob (R.r F_mach_New [((.agg [(proj 0 x0), (proj 1 x0), (proj 2 x0), (proj 3 x0), (proj 4 x0), (proj 5 x0), (proj 6 x0), (proj 7 x0), (proj 8 x0), (proj 9 x0), (proj 10 x0), (proj 11 x0), (proj 12 x0), (proj 13 x0), (proj 14 x0), (proj 15 x0), (proj 16 x0), (proj 17 x0), (proj 18 x0), (proj 19 x0)]), .val), (x1, .val)] []) fun q1 =>
  ob (dPtr (q1.1.getD 0 .undef)) fun i2 =>
  P_mach_Run_2h R i2 (.int .i64 0) (.int .i64 0) (.int .i64 0) (.str ⟨#[]⟩) (.int .i64 0) (.int .i64 0) (.int .i64 0) (.bool false) (.list 5 []) (.list 9 []) (.int .i64 0) (.bool false) (.int .i64 0) (.int .i64 0) (.int .i64 0) q1.2) := evP_of [] (by kernel_rfl)
theorem eq_mach_Run_2h (R : Orc) (t5i : Nat) (b4_0 : DV) (b4_1 : DV) (b4_2 : DV) (b4_3 : DV) (b4_4 : DV) (b4_5 : DV) (b4_6 : DV) (b4_7 : DV) (b4_8 : DV) (b4_9 : DV) (b4_10 : DV) (b4_11 : DV) (b4_12 : DV) (b4_13 : DV) (b4_14 : DV) (sg : List SObj) : P_mach_Run_2h R t5i b4_0 b4_1 b4_2 b4_3 b4_4 b4_5 b4_6 b4_7 b4_8 b4_9 b4_10 b4_11 b4_12 b4_13 b4_14 sg =
  (ob (R.r F_mach_Machine_Step [(.undef, (.ptr t5i 0))] sg) fun q1 =>
  oif (q1.1.getD 0 .undef)
   (P_mach_Run_2h R t5i b4_0 b4_1 b4_2 b4_3 b4_4 b4_5 b4_6 b4_7 b4_8 b4_9 b4_10 b4_11 b4_12 b4_13 b4_14 q1.2)
   (ob (R.r F_mach_Machine_Result [(.undef, (.ptr t5i 0))] q1.2) fun q2 =>
   ob (dExt 0 (.tup q2.1)) fun d3 =>
   ob (dExt 1 (.tup q2.1)) fun d4 =>
   og (isAggN 15 d3) <|
   some (.agg [(proj 0 d3), (proj 1 d3), (proj 2 d3), (proj 3 d3), (proj 4 d3), (proj 5 d3), (proj 6 d3), (proj 7 d3), (proj 8 d3), (proj 9 d3), (proj 10 d3), (proj 11 d3), (proj 12 d3), (proj 13 d3), (proj 14 d3)]))) := headP_of [] (by kernel_rfl)
theorem fix_mach_Run (x0 : DV) (x1 : DV) : (run cfg).p F_mach_Run [x0, x1] = P_mach_Run (run cfg) x0 x1 :=
  (fix_pure (C := cfg) (f := F_mach_Run) (fn := Try.f6) (c := code_mach_Run) (by kernel_rfl) Try.func6 (by kernel_rfl)).trans (by kernel_rfl)
noncomputable def code_l24_wakes : Code := Try.f7.body.getD .skip
noncomputable def P_l24_wakes (R : Orc) : Option DV := evP cfg R fl_l24_wakes (retP cfg.P Try.f7) [] code_l24_wakes (initSt Try.f7 [] [])
noncomputable def P_l24_wakes_8 (R : Orc) (t5i : Nat) (b2 : DV) (b3 : DV) (b4 : DV) (sg : List SObj) : Option DV := evP cfg R fl_l24_wakes (retP cfg.P Try.f7) [true, true, true, true, true, true, true] code_l24_wakes ⟨spread .undef 78 0 [], spread .val 78 0 [(2, (.loc 2 0)), (3, (.loc 3 0)), (4, (.loc 4 0)), (5, (.ptr t5i 0))], spread none 78 0 [(2, some [((proj 0 b2), .val), ((proj 1 b2), .val), ((proj 2 b2), .val), ((proj 3 b2), .val), ((proj 4 b2), .val), ((proj 5 b2), .val), ((proj 6 b2), .val), ((proj 7 b2), .val), ((proj 8 b2), .val), ((proj 9 b2), .val), ((proj 10 b2), .val), ((proj 11 b2), .val), ((proj 12 b2), .val), ((proj 13 b2), .val), ((proj 14 b2), .val)]), (3, some [((proj 0 b3), .val), ((proj 1 b3), .val), ((proj 2 b3), .val), ((proj 3 b3), .val), ((proj 4 b3), .val), ((proj 5 b3), .val), ((proj 6 b3), .val), ((proj 7 b3), .val), ((proj 8 b3), .val), ((proj 9 b3), .val), ((proj 10 b3), .val), ((proj 11 b3), .val), ((proj 12 b3), .val), ((proj 13 b3), .val), ((proj 14 b3), .val)]), (4, some [((proj 0 b4), .val), ((proj 1 b4), .val), ((proj 2 b4), .val), ((proj 3 b4), .val), ((proj 4 b4), .val), ((proj 5 b4), .val), ((proj 6 b4), .val), ((proj 7 b4), .val), ((proj 8 b4), .val), ((proj 9 b4), .val), ((proj 10 b4), .val), ((proj 11 b4), .val), ((proj 12 b4), .val), ((proj 13 b4), .val), ((proj 14 b4), .val)])], sg⟩
theorem eq_l24_wakes (R : Orc) : P_l24_wakes R =
  (ob (R.p F_l24_num [(.int .i64 1)]) fun d1 =>
  ob (R.p F_l24_num [(.int .i64 2)]) fun d2 =>
  og (isAggN 20 d1) <|
  og (isAggN 20 d2) <|
  ob (R.p F_mach_Run [(.agg [(.int .i64 15), (.int .i64 0), (.int .i64 0), (.str ⟨#[]⟩), (.str ⟨#[]⟩), (.int .i64 0), (.str ⟨#[]⟩), (.int .i64 1), (.int .i64 0), (.bool false), (.list 1 []), (.int .i64 0), (.int .i64 0), (.list 3 []), (.int .i64 0), (.int .i64 0), (.list 3 []), (.list 3 []), (.list 7 []), (.list 20 [d1, d2])]), (.int .i64 6)]) fun d3 =>
  og (isAggN 15 d3) <|
  ob (R.p F_mach_Run [(.agg [(.int .i64 15), (.int .i64 0), (.int .i64 0), (.str ⟨#[]⟩), (.str ⟨#[]⟩), (.int .i64 0), (.str ⟨#[]⟩), (.int .i64 1), (.int .i64 0), (.bool false), (.list 1 []), (.int .i64 0), (.int .i64 0), (.list 3 []), (.int .i64 0), (.int .i64 0), (.list 3 []), (.list 3 []), (.list 7 []), (.list 20 [d1, d2])]), (.int .i64 5)]) fun d4 =>
  og (isAggN 15 d4) <|
  ob (R.p F_l24_num [(.int .i64 1)]) fun d5 =>
  ob (R.p F_l24_cast [(.int .i64 1), (.int .i64 5), (.int .i64 6), d5]) fun d6 =>
  ob (R.p F_l24_cast [(.int .i64 5), (.int .i64 2), (.int .i64 7), d6]) fun d7 =>
  ob (R.p F_mach_Run [d7, (.int .i64 50)]) fun d8 =>
  og (isAggN 15 d8) <|
  ob (R.r F_mach_New [((.agg [(.int .i64 15), (.int .i64 0), (.int .i64 0), (.str ⟨#[]⟩), (.str ⟨#[]⟩), (.int .i64 0), (.str ⟨#[]⟩), (.int .i64 1), (.int .i64 0), (.bool false), (.list 1 []), (.int .i64 0), (.int .i64 0), (.list 3 []), (.int .i64 0), (.int .i64 0), (.list 3 []), (.list 3 []), (.list 7 []), (.list 20 [d1, d2])]), .val), ((.int .i64 9), .val)] []) fun q9 =>
  ob (dPtr (q9.1.getD 0 .undef)) fun i10 =>
  ob (R.r F_mach_Machine_Step [(.undef, (.ptr i10 0))] q9.2) fun q11 =>
  ob (dUn .not (q11.1.getD 0 .undef)) fun d12 =>
  oif d12
   (some (.bool false))
   (P_l24_wakes_8 R i10 d3 d4 d8 q11.2)) := evP_of [8] (by kernel_rfl)
set_option maxRecDepth 100000 in
theorem eq_l24_wakes_8 (R : Orc) (t5i : Nat) (b2 : DV) (b3 : DV) (b4 : DV) (sg : List SObj) : P_l24_wakes_8 R t5i b2 b3 b4 sg =
  (ob (dBin .eql (proj 0 b2) (.int .i64 1)) fun d1 =>
  ogd d1
   (ob (dBin .eql (proj 1 b2) (.int .i64 1)) fun d2 =>
   ogd d2
    (ob (dBin .eql (proj 2 b2) (.int .i64 3)) fun d3 =>
    ogd d3
     (ob (dBin .eql (proj 14 b2) (.int .i64 6)) fun d4 =>
     ogd d4
      (ob (dBin .eql (proj 0 b3) (.int .i64 5)) fun d5 =>
      ogd d5
       (ob (dBin .eql (proj 14 b3) (.int .i64 5)) fun d6 =>
       ogd d6
        (ob (dBin .eql (proj 0 b4) (.int .i64 2)) fun d7 =>
        ogd d7
         (ob (dBin .eql (proj 10 b4) (.int .i64 7)) fun d8 =>
         ogd d8
          (ob (dUn .not (proj 11 b4)) fun d9 =>
          ogd d9
           (ob (R.r F_mach_Machine_Frames [(.undef, (.ptr t5i 0))] sg) fun q10 =>
           ob (R.p F_keep_Ints [(q10.1.getD 0 .undef), (.list 1 [(.int .i64 10)])]) fun d11 =>
           some d11)
           (some (.bool false))
           none)
          (some (.bool false))
          none)
         (some (.bool false))
         none)
        (some (.bool false))
        none)
       (some (.bool false))
       none)
      (some (.bool false))
      none)
     (some (.bool false))
     none)
    (some (.bool false))
    none)
   (some (.bool false))
   none) := evP_of [8] (by kernel_rfl)
theorem fix_l24_wakes : (run cfg).p F_l24_wakes [] = P_l24_wakes (run cfg) :=
  (fix_pure (C := cfg) (f := F_l24_wakes) (fn := Try.f7) (c := code_l24_wakes) (by kernel_rfl) Try.func7 (by kernel_rfl)).trans (by kernel_rfl)
noncomputable def code_l24_quotient : Code := Try.f8.body.getD .skip
noncomputable def P_l24_quotient (R : Orc) (x0 : DV) (x1 : DV) : Option DV := evP cfg R fl_l24_quotient (retP cfg.P Try.f8) [] code_l24_quotient (initSt Try.f8 [(x0, .val), (x1, .val)] [])
noncomputable def P_l24_quotient_4 (R : Orc) (t0 : DV) (t1 : DV) (t5 : DV) (t6 : DV) : Option DV := evP cfg R fl_l24_quotient (retP cfg.P Try.f8) [true, true, true] code_l24_quotient ⟨spread .undef 32 0 [(0, t0), (1, t1), (5, t5), (6, t6)], spread .val 32 0 [], spread none 32 0 [], []⟩
noncomputable def P_l24_quotient_6 (R : Orc) (t0 : DV) (t1 : DV) (t5 : DV) (t6 : DV) : Option DV := evP cfg R fl_l24_quotient (retP cfg.P Try.f8) [true, true, true, true] code_l24_quotient ⟨spread .undef 32 0 [(0, t0), (1, t1), (5, t5), (6, t6)], spread .val 32 0 [], spread none 32 0 [], []⟩
theorem eq_l24_quotient (R : Orc) (x0 : DV) (x1 : DV) : P_l24_quotient R x0 x1 =
  (ob (dConv .u64 x0) fun d1 =>
  ob (dConv .u64 x1) fun d2 =>
  ob (dBin .lss x0 (.int .i64 0)) fun d3 =>
  oif d3
   (ob (dUn .neg d1) fun d4 =>
   P_l24_quotient_4 R x0 x1 d4 d2)
   (P_l24_quotient_4 R x0 x1 d1 d2)) := evP_of [4, 6] (by kernel_rfl)
theorem eq_l24_quotient_4 (R : Orc) (t0 : DV) (t1 : DV) (t5 : DV) (t6 : DV) : P_l24_quotient_4 R t0 t1 t5 t6 =
  (ob (dBin .lss t1 (.int .i64 0)) fun d1 =>
  oif d1
   (ob (dUn .neg t6) fun d2 =>
   P_l24_quotient_6 R t0 t1 t5 d2)
   (P_l24_quotient_6 R t0 t1 t5 t6)) := evP_of [4, 6] (by kernel_rfl)
theorem eq_l24_quotient_6 (R : Orc) (t0 : DV) (t1 : DV) (t5 : DV) (t6 : DV) : P_l24_quotient_6 R t0 t1 t5 t6 =
  (ob (dBin .quo t5 t6) fun d1 =>
  ob (dBin .lss t0 (.int .i64 0)) fun d2 =>
  ob (dBin .lss t1 (.int .i64 0)) fun d3 =>
  ob (dEqB d2 d3) fun b4 =>
  oif (.bool !b4)
   (ob (dUn .neg d1) fun d5 =>
   ob (dConv .i64 d5) fun d6 =>
   some d6)
   (ob (dConv .i64 d1) fun d7 =>
   some d7)) := evP_of [4, 6] (by kernel_rfl)
theorem fix_l24_quotient (x0 : DV) (x1 : DV) : (run cfg).p F_l24_quotient [x0, x1] = P_l24_quotient (run cfg) x0 x1 :=
  (fix_pure (C := cfg) (f := F_l24_quotient) (fn := Try.f8) (c := code_l24_quotient) (by kernel_rfl) Try.func8 (by kernel_rfl)).trans (by kernel_rfl)
theorem call_l24_quotient (x0 : DV) (x1 : DV) {d : DV} (h : P_l24_quotient (run cfg) x0 x1 = some d) : (run cfg).p F_l24_quotient [x0, x1] = some d := (fix_l24_quotient x0 x1).trans h

noncomputable def code_val_Same : Code := Try.f9.body.getD .skip
noncomputable def P_val_Same (R : Orc) (x0 : DV) (x1 : DV) : Option DV := evP cfg R fl_val_Same (retP cfg.P Try.f9) [] code_val_Same (initSt Try.f9 [(x0, .val), (x1, .val)] [])
set_option maxRecDepth 100000 in
theorem eq_val_Same (R : Orc) (x0 : DV) (x1 : DV) : P_val_Same R x0 x1 =
  (og (isAggN 9 x0) <|
  og (isAggN 9 x1) <|
  ob (dBin .eql (proj 0 x0) (proj 0 x1)) fun d1 =>
  ogd d1
   (ob (dBin .eql (proj 1 x0) (proj 1 x1)) fun d2 =>
   ogd d2
    (ob (dBin .eql (proj 2 x0) (proj 2 x1)) fun d3 =>
    ogd d3
     (ob (R.p F_coer_Same [(.agg [(proj 3 x0), (proj 4 x0), (proj 5 x0), (proj 6 x0), (proj 7 x0)]), (.agg [(proj 3 x1), (proj 4 x1), (proj 5 x1), (proj 6 x1), (proj 7 x1)])]) fun d4 =>
     ogd d4
      (ob (R.r F_slices_EqualFunc__api_Val__api_Val_api_Val_api_Val [((proj 8 x0), .val), ((proj 8 x1), .val), (.undef, (.fn 9 []))] []) fun q5 =>
      some (q5.1.getD 0 .undef))
      (some (.bool false))
      none)
     (some (.bool false))
     none)
    (some (.bool false))
    none)
   (some (.bool false))
   none) := evP_of [] (by kernel_rfl)
theorem fix_val_Same (x0 : DV) (x1 : DV) : (run cfg).p F_val_Same [x0, x1] = P_val_Same (run cfg) x0 x1 :=
  (fix_pure (C := cfg) (f := F_val_Same) (fn := Try.f9) (c := code_val_Same) (by kernel_rfl) Try.func9 (by kernel_rfl)).trans (by kernel_rfl)
noncomputable def code_mach_New : Code := Try.f10.body.getD .skip
noncomputable def P_mach_New (R : Orc) (x0 : DV) (x1 : DV) (sg : List SObj) : Option (List DV × List SObj) := evP cfg R fl_mach_New (retR cfg.P Try.f10 sig_mach_New) [] code_mach_New (initSt Try.f10 [(x0, .val), (x1, .val)] sg)
theorem eq_mach_New (R : Orc) (x0 : DV) (x1 : DV) (sg : List SObj) : P_mach_New R x0 x1 sg =
  (og (isAggN 20 x0) <|
  ob (dMax x1 (.int .i64 0)) fun d1 =>
  ob (dMin d1 (.int .i64 65536)) fun d2 =>
  og (isCell d2) <|
  ob (R.p F_term_Check [(.agg [(proj 0 x0), (proj 1 x0), (proj 2 x0), (proj 3 x0), (proj 4 x0), (proj 5 x0), (proj 6 x0), (proj 7 x0), (proj 8 x0), (proj 9 x0), (proj 10 x0), (proj 11 x0), (proj 12 x0), (proj 13 x0), (proj 14 x0), (proj 15 x0), (proj 16 x0), (proj 17 x0), (proj 18 x0), (proj 19 x0)])]) fun d3 =>
  ob (dBin .neq d3 (.int .i64 0)) fun d4 =>
  oif d4
   (ob (R.r F_mach_Machine_ends [(.undef, (.ptr sg.length 0)), ((.agg [(.int .i64 6), (.int .i64 0), (.int .i64 0), (.str ⟨#[]⟩), (.int .i64 0), (.int .i64 0), (.int .i64 0), (.bool false), (.list 5 []), (.list 9 []), (.int .i64 0), (.bool false), (.int .i64 0), (.int .i64 0), (.int .i64 0)]), .val)] (sg ++ [SObj.box [((.int .i64 0), .val), ((.int .i64 0), .val), ((.int .i64 0), .val), ((.str ⟨#[]⟩), .val), ((.str ⟨#[]⟩), .val), ((.int .i64 0), .val), ((.str ⟨#[]⟩), .val), ((.int .i64 0), .val), ((.int .i64 0), .val), ((.bool false), .val), ((.list 1 []), .full), ((.int .i64 0), .val), ((.int .i64 0), .val), ((.list 3 []), .full), ((.int .i64 0), .val), ((.int .i64 0), .val), ((.list 3 []), .full), ((.list 3 []), .full), ((.list 7 []), .full), ((.list 20 []), .full), (.pnil, .nilp), ((.int .i64 0), .val), ((.int .i64 0), .val), ((.str ⟨#[]⟩), .val), ((.int .i64 0), .val), ((.int .i64 0), .val), ((.int .i64 0), .val), ((.bool false), .val), ((.list 5 []), .full), ((.list 9 []), .full), ((.bool false), .val), ((.list 57 []), .full), ((.list 24 []), .full), (d2, .val), ((.int .i64 0), .val), ((.bool false), .val), ((.int .i64 0), .val), ((.int .i64 0), .val), ((.int .i64 0), .val), ((.str ⟨#[]⟩), .val), ((.int .i64 0), .val), ((.int .i64 0), .val), ((.int .i64 0), .val), ((.bool false), .val), ((.list 5 []), .full), ((.list 9 []), .full), ((.int .i64 0), .val), ((.bool false), .val), ((.int .i64 0), .val), ((.int .i64 0), .val), ((.int .i64 0), .val), ((.bool false), .val), ((.list 9 []), .full), ((.list 9 []), .full)]])) fun q5 =>
   some ([(.int .u64 (sg.length : Nat))], q5.2))
   (ob (R.p F_mach_clone [(.agg [(proj 0 x0), (proj 1 x0), (proj 2 x0), (proj 3 x0), (proj 4 x0), (proj 5 x0), (proj 6 x0), (proj 7 x0), (proj 8 x0), (proj 9 x0), (proj 10 x0), (proj 11 x0), (proj 12 x0), (proj 13 x0), (proj 14 x0), (proj 15 x0), (proj 16 x0), (proj 17 x0), (proj 18 x0), (proj 19 x0)])]) fun d6 =>
   ob (sgBox (sg ++ [SObj.box [((.int .i64 0), .val), ((.int .i64 0), .val), ((.int .i64 0), .val), ((.str ⟨#[]⟩), .val), ((.str ⟨#[]⟩), .val), ((.int .i64 0), .val), ((.str ⟨#[]⟩), .val), ((.int .i64 0), .val), ((.int .i64 0), .val), ((.bool false), .val), ((.list 1 []), .full), ((.int .i64 0), .val), ((.int .i64 0), .val), ((.list 3 []), .full), ((.int .i64 0), .val), ((.int .i64 0), .val), ((.list 3 []), .full), ((.list 3 []), .full), ((.list 7 []), .full), ((.list 20 []), .full), (.pnil, .nilp), ((.int .i64 0), .val), ((.int .i64 0), .val), ((.str ⟨#[]⟩), .val), ((.int .i64 0), .val), ((.int .i64 0), .val), ((.int .i64 0), .val), ((.bool false), .val), ((.list 5 []), .full), ((.list 9 []), .full), ((.bool false), .val), ((.list 57 []), .full), ((.list 24 []), .full), (d2, .val), ((.int .i64 0), .val), ((.bool false), .val), ((.int .i64 0), .val), ((.int .i64 0), .val), ((.int .i64 0), .val), ((.str ⟨#[]⟩), .val), ((.int .i64 0), .val), ((.int .i64 0), .val), ((.int .i64 0), .val), ((.bool false), .val), ((.list 5 []), .full), ((.list 9 []), .full), ((.int .i64 0), .val), ((.bool false), .val), ((.int .i64 0), .val), ((.int .i64 0), .val), ((.int .i64 0), .val), ((.bool false), .val), ((.list 9 []), .full), ((.list 9 []), .full)]]) sg.length) fun c7 =>
   og (isAggN 20 d6) <|
   if 0 + 20 ≤ c7.length then
    (some ([(.int .u64 (sg.length : Nat))], ((sg ++ [SObj.box [((.int .i64 0), .val), ((.int .i64 0), .val), ((.int .i64 0), .val), ((.str ⟨#[]⟩), .val), ((.str ⟨#[]⟩), .val), ((.int .i64 0), .val), ((.str ⟨#[]⟩), .val), ((.int .i64 0), .val), ((.int .i64 0), .val), ((.bool false), .val), ((.list 1 []), .full), ((.int .i64 0), .val), ((.int .i64 0), .val), ((.list 3 []), .full), ((.int .i64 0), .val), ((.int .i64 0), .val), ((.list 3 []), .full), ((.list 3 []), .full), ((.list 7 []), .full), ((.list 20 []), .full), (.pnil, .nilp), ((.int .i64 0), .val), ((.int .i64 0), .val), ((.str ⟨#[]⟩), .val), ((.int .i64 0), .val), ((.int .i64 0), .val), ((.int .i64 0), .val), ((.bool false), .val), ((.list 5 []), .full), ((.list 9 []), .full), ((.bool false), .val), ((.list 57 []), .full), ((.list 24 []), .full), (d2, .val), ((.int .i64 0), .val), ((.bool false), .val), ((.int .i64 0), .val), ((.int .i64 0), .val), ((.int .i64 0), .val), ((.str ⟨#[]⟩), .val), ((.int .i64 0), .val), ((.int .i64 0), .val), ((.int .i64 0), .val), ((.bool false), .val), ((.list 5 []), .full), ((.list 9 []), .full), ((.int .i64 0), .val), ((.bool false), .val), ((.int .i64 0), .val), ((.int .i64 0), .val), ((.int .i64 0), .val), ((.bool false), .val), ((.list 9 []), .full), ((.list 9 []), .full)]]).set sg.length (SObj.box (putAt c7 0 [((proj 0 d6), .val), ((proj 1 d6), .val), ((proj 2 d6), .val), ((proj 3 d6), .val), ((proj 4 d6), .val), ((proj 5 d6), .val), ((proj 6 d6), .val), ((proj 7 d6), .val), ((proj 8 d6), .val), ((proj 9 d6), .val), ((proj 10 d6), .val), ((proj 11 d6), .val), ((proj 12 d6), .val), ((proj 13 d6), .val), ((proj 14 d6), .val), ((proj 15 d6), .val), ((proj 16 d6), .val), ((proj 17 d6), .val), ((proj 18 d6), .val), ((proj 19 d6), .val)])))))
   else none)) := evP_of [] (by kernel_rfl)
theorem fix_mach_New (x0 : DV) (x1 : DV) (sg : List SObj) : (run cfg).r F_mach_New [(x0, .val), (x1, .val)] sg = P_mach_New (run cfg) x0 x1 sg :=
  (fix_raw (C := cfg) (f := F_mach_New) (s := sig_mach_New) (fn := Try.f10) (c := code_mach_New) (by kernel_rfl) Try.func10 (by kernel_rfl) (by kernel_rfl)).trans (by kernel_rfl)
noncomputable def code_mach_Machine_Step : Code := Try.f11.body.getD .skip
noncomputable def P_mach_Machine_Step (R : Orc) (x0 : Nat) (sg : List SObj) : Option (List DV × List SObj) := evP cfg R fl_mach_Machine_Step (retR cfg.P Try.f11 sig_mach_Machine_Step) [] code_mach_Machine_Step (initSt Try.f11 [(.undef, (.ptr x0 0))] sg)
set_option maxRecDepth 100000 in
theorem eq_mach_Machine_Step (R : Orc) (x0 : Nat) (sg : List SObj) : P_mach_Machine_Step R x0 sg =
  (ob (sgBox sg x0) fun c1 =>
  ob (cellDat c1 35) fun d2 =>
  oif d2
   (some ([(.bool false)], sg))
   (ob (sgBox sg x0) fun c3 =>
   ob (cellDat c3 34) fun d4 =>
   ob (sgBox sg x0) fun c5 =>
   ob (cellDat c5 33) fun d6 =>
   ob (dBin .eql d4 d6) fun d7 =>
   oif d7
    (ob (R.r F_mach_Machine_ends [(.undef, (.ptr x0 0)), ((.agg [(.int .i64 5), (.int .i64 0), (.int .i64 0), (.str ⟨#[]⟩), (.int .i64 0), (.int .i64 0), (.int .i64 0), (.bool false), (.list 5 []), (.list 9 []), (.int .i64 0), (.bool false), (.int .i64 0), (.int .i64 0), (.int .i64 0)]), .val)] sg) fun q8 =>
    some ([(.bool false)], q8.2))
    (ob (sgBox sg x0) fun c9 =>
    ob (cellDat c9 34) fun d10 =>
    ob (dBin .add d10 (.int .i64 1)) fun d11 =>
    ob (sgBox sg x0) fun c12 =>
    og (isCell d11) <|
    ob (c12[34]?) fun u13 =>
    ob (sgBox (sg.set x0 (SObj.box (c12.set 34 (d11, .val)))) x0) fun c14 =>
    ob (cellDat c14 51) fun d15 =>
    oif d15
     (ob (R.r F_mach_Machine_read [(.undef, (.ptr x0 0))] (sg.set x0 (SObj.box (c12.set 34 (d11, .val))))) fun q16 =>
     some ([(.bool true)], q16.2))
     (ob (sgBox (sg.set x0 (SObj.box (c12.set 34 (d11, .val)))) x0) fun c17 =>
     ob (cellDat c17 30) fun d18 =>
     ob (dUn .not d18) fun d19 =>
     oif d19
      (ob (R.r F_mach_Machine_term [(.undef, (.ptr x0 0))] (sg.set x0 (SObj.box (c12.set 34 (d11, .val))))) fun q20 =>
      some ([(.bool true)], q20.2))
      (ob (sgBox (sg.set x0 (SObj.box (c12.set 34 (d11, .val)))) x0) fun c21 =>
      ob (vecIn (sg.set x0 (SObj.box (c12.set 34 (d11, .val)))) x0 31 c21 57) fun v22 =>
      ob (vLen v22.2.2.2) fun d23 =>
      ob (dBin .gtr d23 (.int .i64 0)) fun d24 =>
      oif d24
       (ob (sgBox v22.1 x0) fun c25 =>
       ob (cellVec c25 31 57) fun v26 =>
       ob (sgBox v22.1 x0) fun c27 =>
       ob (cellVec c27 31 57) fun v28 =>
       ob (vLen v28.2.2) fun d29 =>
       ob (dBin .sub d29 (.int .i64 1)) fun d30 =>
       ob (arrIdx 0 v26.2.2 d30) fun n31 =>
       ob (sgVec v22.1 v26.1 v26.2.1) fun a32 =>
       ob (a32.2[n31]?) fun d33 =>
       og (a32.1 == 57) <|
       ob (sgBox v22.1 x0) fun c34 =>
       ob (cellVec c34 31 57) fun v35 =>
       ob (sgBox v22.1 x0) fun c36 =>
       ob (cellVec c36 31 57) fun v37 =>
       ob (vLen v37.2.2) fun d38 =>
       ob (dBin .sub d38 (.int .i64 1)) fun d39 =>
       ob (bnd v35.2.2 (some d39)) fun n40 =>
       if n40 ≤ v35.2.2 then
        (ob (sgBox v22.1 x0) fun c41 =>
        ob (c41[31]?) fun u42 =>
        ob (R.r F_mach_Machine_frame [(.undef, (.ptr x0 0)), ((.agg [(proj 0 d33), (proj 1 d33), (proj 2 d33), (proj 3 d33), (proj 4 d33), (proj 5 d33), (proj 6 d33), (proj 7 d33), (proj 8 d33), (proj 9 d33), (proj 10 d33), (proj 11 d33), (proj 12 d33), (proj 13 d33), (proj 14 d33), (proj 15 d33), (proj 16 d33), (proj 17 d33), (proj 18 d33), (proj 19 d33), (proj 20 d33), (proj 21 d33), (proj 22 d33), (proj 23 d33), (proj 24 d33), (proj 25 d33), (proj 26 d33), (proj 27 d33), (proj 28 d33), (proj 29 d33), (proj 30 d33), (proj 31 d33), (proj 32 d33), (proj 33 d33), (proj 34 d33), (proj 35 d33), (proj 36 d33), (proj 37 d33), (proj 38 d33), (proj 39 d33), (proj 40 d33), (proj 41 d33), (proj 42 d33), (proj 43 d33), (proj 44 d33), (proj 45 d33), (proj 46 d33), (proj 47 d33), (proj 48 d33), (proj 49 d33), (proj 50 d33), (proj 51 d33), (proj 52 d33), (proj 53 d33), (proj 54 d33), (proj 55 d33), (proj 56 d33)]), .val)] (v22.1.set x0 (SObj.box (c41.set 31 (.undef, (.vec v35.1 v35.2.1 57 n40)))))) fun q43 =>
        some ([(.bool true)], q43.2))
       else none)
       (ob (sgBox v22.1 x0) fun c44 =>
       ob (segDat 21 9 c44) fun e45 =>
       og (isAggN 9 (.agg e45)) <|
       ob (sgBox v22.1 x0) fun c46 =>
       ob (c46[51]?) fun u47 =>
       ob (sgBox (v22.1.set x0 (SObj.box (c46.set 51 ((.bool true), .val)))) x0) fun c48 =>
       ob (c48[52]?) fun u49 =>
       ob (R.r F_mach_Machine_read [(.undef, (.ptr x0 0))] ((v22.1.set x0 (SObj.box (c46.set 51 ((.bool true), .val)))).set x0 (SObj.box (c48.set 52 ((.list 9 [(.agg e45)]), .full))))) fun q50 =>
       some ([(.bool true)], q50.2))))))) := evP_of [] (by kernel_rfl)
theorem fix_mach_Machine_Step (x0 : Nat) (sg : List SObj) : (run cfg).r F_mach_Machine_Step [(.undef, (.ptr x0 0))] sg = P_mach_Machine_Step (run cfg) x0 sg :=
  (fix_raw (C := cfg) (f := F_mach_Machine_Step) (s := sig_mach_Machine_Step) (fn := Try.f11) (c := code_mach_Machine_Step) (by kernel_rfl) Try.func11 (by kernel_rfl) (by kernel_rfl)).trans (by kernel_rfl)
noncomputable def code_mach_Machine_Result : Code := Try.f12.body.getD .skip
noncomputable def P_mach_Machine_Result (R : Orc) (x0 : Nat) (sg : List SObj) : Option (List DV × List SObj) := evP cfg R fl_mach_Machine_Result (retR cfg.P Try.f12 sig_mach_Machine_Result) [] code_mach_Machine_Result (initSt Try.f12 [(.undef, (.ptr x0 0))] sg)
theorem eq_mach_Machine_Result (R : Orc) (x0 : Nat) (sg : List SObj) : P_mach_Machine_Result R x0 sg =
  (ob (sgBox sg x0) fun c1 =>
  ob (cellDat c1 35) fun d2 =>
  ob (dUn .not d2) fun d3 =>
  oif d3
   (some ([(.agg [(.int .i64 0), (.int .i64 0), (.int .i64 0), (.str ⟨#[]⟩), (.int .i64 0), (.int .i64 0), (.int .i64 0), (.bool false), (.list 5 []), (.list 9 []), (.int .i64 0), (.bool false), (.int .i64 0), (.int .i64 0), (.int .i64 0)]), (.bool false)], sg))
   (ob (sgBox sg x0) fun c4 =>
   ob (segDat 36 15 c4) fun e5 =>
   og (isAggN 15 (.agg e5)) <|
   ob (sgBox sg x0) fun c6 =>
   ob (cellDat c6 34) fun d7 =>
   og (isCell d7) <|
   some ([(.agg [(proj 0 (.agg e5)), (proj 1 (.agg e5)), (proj 2 (.agg e5)), (proj 3 (.agg e5)), (proj 4 (.agg e5)), (proj 5 (.agg e5)), (proj 6 (.agg e5)), (proj 7 (.agg e5)), (proj 8 (.agg e5)), (proj 9 (.agg e5)), (proj 10 (.agg e5)), (proj 11 (.agg e5)), (proj 12 (.agg e5)), (proj 13 (.agg e5)), d7]), (.bool true)], sg))) := evP_of [] (by kernel_rfl)
theorem fix_mach_Machine_Result (x0 : Nat) (sg : List SObj) : (run cfg).r F_mach_Machine_Result [(.undef, (.ptr x0 0))] sg = P_mach_Machine_Result (run cfg) x0 sg :=
  (fix_raw (C := cfg) (f := F_mach_Machine_Result) (s := sig_mach_Machine_Result) (fn := Try.f12) (c := code_mach_Machine_Result) (by kernel_rfl) Try.func12 (by kernel_rfl) (by kernel_rfl)).trans (by kernel_rfl)
noncomputable def code_l24_cast : Code := Try.f13.body.getD .skip
noncomputable def P_l24_cast (R : Orc) (x0 : DV) (x1 : DV) (x2 : DV) (x3 : DV) : Option DV := evP cfg R fl_l24_cast (retP cfg.P Try.f13) [] code_l24_cast (initSt Try.f13 [(x0, .val), (x1, .val), (x2, .val), (x3, .val)] [])
theorem eq_l24_cast (R : Orc) (x0 : DV) (x1 : DV) (x2 : DV) (x3 : DV) : P_l24_cast R x0 x1 x2 x3 =
  (og (isAggN 20 x3) <|
  ob (R.p F_r03_Leaf [x0]) fun d1 =>
  ob (R.p F_r03_Leaf [x1]) fun d2 =>
  og (isCell x2) <|
  og (isAggN 3 d1) <|
  og (isAggN 3 d2) <|
  some (.agg [(.int .i64 16), (.int .i64 0), (.int .i64 0), (.str ⟨#[]⟩), (.str ⟨#[]⟩), (.int .i64 0), (.str ⟨#[]⟩), (.int .i64 0), x2, (.bool false), (.list 1 []), (proj 0 d1), (proj 1 d1), (proj 2 d1), (proj 0 d2), (proj 1 d2), (proj 2 d2), (.list 3 []), (.list 7 []), (.list 20 [(.agg [(proj 0 x3), (proj 1 x3), (proj 2 x3), (proj 3 x3), (proj 4 x3), (proj 5 x3), (proj 6 x3), (proj 7 x3), (proj 8 x3), (proj 9 x3), (proj 10 x3), (proj 11 x3), (proj 12 x3), (proj 13 x3), (proj 14 x3), (proj 15 x3), (proj 16 x3), (proj 17 x3), (proj 18 x3), (proj 19 x3)])])])) := evP_of [] (by kernel_rfl)
theorem fix_l24_cast (x0 : DV) (x1 : DV) (x2 : DV) (x3 : DV) : (run cfg).p F_l24_cast [x0, x1, x2, x3] = P_l24_cast (run cfg) x0 x1 x2 x3 :=
  (fix_pure (C := cfg) (f := F_l24_cast) (fn := Try.f13) (c := code_l24_cast) (by kernel_rfl) Try.func13 (by kernel_rfl)).trans (by kernel_rfl)
noncomputable def code_keep_Ints : Code := Try.f14.body.getD .skip
noncomputable def P_keep_Ints (R : Orc) (x0 : DV) (x1 : DV) : Option DV := evP cfg R fl_keep_Ints (retP cfg.P Try.f14) [] code_keep_Ints (initSt Try.f14 [(x0, .val), (x1, .val)] [])
noncomputable def P_keep_Ints_4h (R : Orc) (t0 : DV) (t1 : DV) (t5 : DV) : Option DV := headP cfg R fl_keep_Ints (retP cfg.P Try.f14) [true, true, false, true, false] code_keep_Ints ⟨spread .undef 26 0 [(0, t0), (1, t1), (5, t5)], spread .val 26 0 [], spread none 26 0 [], []⟩
theorem eq_keep_Ints (R : Orc) (x0 : DV) (x1 : DV) : P_keep_Ints R x0 x1 =
  (ob (dLen x0) fun d1 =>
  ob (dLen x1) fun d2 =>
  ob (dBin .neq d1 d2) fun d3 =>
  oif d3
   (some (.bool false))
   (P_keep_Ints_4h R x0 x1 (.int .i64 0))) := evP_of [] (by kernel_rfl)
theorem eq_keep_Ints_4h (R : Orc) (t0 : DV) (t1 : DV) (t5 : DV) : P_keep_Ints_4h R t0 t1 t5 =
  (ob (dLen t0) fun d1 =>
  ob (dBin .lss t5 d1) fun d2 =>
  oif d2
   (ob (dIdx 1 t0 t5) fun d3 =>
   og (isLeaf d3) <|
   ob (dIdx 1 t1 t5) fun d4 =>
   og (isLeaf d4) <|
   ob (dBin .neq d3 d4) fun d5 =>
   oif d5
    (some (.bool false))
    (ob (dBin .add t5 (.int .i64 1)) fun d6 =>
    P_keep_Ints_4h R t0 t1 d6))
   (some (.bool true))) := headP_of [] (by kernel_rfl)
theorem fix_keep_Ints (x0 : DV) (x1 : DV) : (run cfg).p F_keep_Ints [x0, x1] = P_keep_Ints (run cfg) x0 x1 :=
  (fix_pure (C := cfg) (f := F_keep_Ints) (fn := Try.f14) (c := code_keep_Ints) (by kernel_rfl) Try.func14 (by kernel_rfl)).trans (by kernel_rfl)
noncomputable def code_mach_Machine_Frames : Code := Try.f15.body.getD .skip
noncomputable def P_mach_Machine_Frames (R : Orc) (x0 : Nat) (sg : List SObj) : Option (List DV × List SObj) := evP cfg R fl_mach_Machine_Frames (retR cfg.P Try.f15 sig_mach_Machine_Frames) [] code_mach_Machine_Frames (initSt Try.f15 [(.undef, (.ptr x0 0))] sg)
noncomputable def P_mach_Machine_Frames_3h (R : Orc) (t3 : DV) (t9r0 : Nat) (t9r1 : Nat) (t9r3 : Nat) (t10 : DV) (t11 : DV) (sg : List SObj) : Option (List DV × List SObj) := headP cfg R fl_mach_Machine_Frames (retR cfg.P Try.f15 sig_mach_Machine_Frames) [true, true, false, true, false] code_mach_Machine_Frames ⟨spread .undef 22 0 [(3, t3), (10, t10), (11, t11)], spread .val 22 0 [(3, .own), (9, (.vec t9r0 t9r1 57 t9r3))], spread none 22 0 [], sg⟩
theorem eq_mach_Machine_Frames (R : Orc) (x0 : Nat) (sg : List SObj) : P_mach_Machine_Frames R x0 sg =
  (ob (sgBox sg x0) fun c1 =>
  ob (vecIn sg x0 31 c1 57) fun v2 =>
  ob (vLen v2.2.2.2) fun d3 =>
  P_mach_Machine_Frames_3h R (.list 1 []) (v2.2.1) (v2.2.2.1) (v2.2.2.2) d3 (.int .i64 0) v2.1) := evP_of [] (by kernel_rfl)
theorem eq_mach_Machine_Frames_3h (R : Orc) (t3 : DV) (t9r0 : Nat) (t9r1 : Nat) (t9r3 : Nat) (t10 : DV) (t11 : DV) (sg : List SObj) : P_mach_Machine_Frames_3h R t3 t9r0 t9r1 t9r3 t10 t11 sg =
  (ob (dBin .lss t11 t10) fun d1 =>
  oif d1
   (ob (arrIdx 0 t9r3 t11) fun n2 =>
   ob (sgVec sg t9r0 t9r1) fun a3 =>
   ob (a3.2[n2]?) fun d4 =>
   og (a3.1 == 57) <|
   og (isCell (proj 0 d4)) <|
   ob (dApp 1 t3 (.list 1 [(proj 0 d4)])) fun d5 =>
   ob (dBin .add t11 (.int .i64 1)) fun d6 =>
   P_mach_Machine_Frames_3h R d5 t9r0 t9r1 t9r3 t10 d6 sg)
   (some ([t3], sg))) := headP_of [] (by kernel_rfl)
theorem fix_mach_Machine_Frames (x0 : Nat) (sg : List SObj) : (run cfg).r F_mach_Machine_Frames [(.undef, (.ptr x0 0))] sg = P_mach_Machine_Frames (run cfg) x0 sg :=
  (fix_raw (C := cfg) (f := F_mach_Machine_Frames) (s := sig_mach_Machine_Frames) (fn := Try.f15) (c := code_mach_Machine_Frames) (by kernel_rfl) Try.func15 (by kernel_rfl) (by kernel_rfl)).trans (by kernel_rfl)
noncomputable def code_coer_Same : Code := Try.f16.body.getD .skip
noncomputable def P_coer_Same (R : Orc) (x0 : DV) (x1 : DV) : Option DV := evP cfg R fl_coer_Same (retP cfg.P Try.f16) [] code_coer_Same (initSt Try.f16 [(x0, .val), (x1, .val)] [])
set_option maxRecDepth 100000 in
theorem eq_coer_Same (R : Orc) (x0 : DV) (x1 : DV) : P_coer_Same R x0 x1 =
  (og (isAggN 5 x0) <|
  og (isAggN 5 x1) <|
  ob (dBin .eql (proj 0 x0) (proj 0 x1)) fun d1 =>
  ogd d1
   (ob (dBin .eql (proj 1 x0) (proj 1 x1)) fun d2 =>
   ogd d2
    (ob (dBin .eql (proj 2 x0) (proj 2 x1)) fun d3 =>
    ogd d3
     (ob (dEqB (proj 3 x0) (proj 3 x1)) fun b4 =>
     ogd (.bool b4)
      (ob (R.r F_slices_EqualFunc__api_Coer__api_Coer_api_Coer_api_Coer [((proj 4 x0), .val), ((proj 4 x1), .val), (.undef, (.fn 16 []))] []) fun q5 =>
      some (q5.1.getD 0 .undef))
      (some (.bool false))
      none)
     (some (.bool false))
     none)
    (some (.bool false))
    none)
   (some (.bool false))
   none) := evP_of [] (by kernel_rfl)
theorem fix_coer_Same (x0 : DV) (x1 : DV) : (run cfg).p F_coer_Same [x0, x1] = P_coer_Same (run cfg) x0 x1 :=
  (fix_pure (C := cfg) (f := F_coer_Same) (fn := Try.f16) (c := code_coer_Same) (by kernel_rfl) Try.func16 (by kernel_rfl)).trans (by kernel_rfl)
noncomputable def code_slices_EqualFunc__api_Val__api_Val_api_Val_api_Val : Code := Try.f17.body.getD .skip
noncomputable def P_slices_EqualFunc__api_Val__api_Val_api_Val_api_Val (R : Orc) (x0 : DV) (x1 : DV) (sg : List SObj) : Option (List DV × List SObj) := evP cfg R fl_slices_EqualFunc__api_Val__api_Val_api_Val_api_Val (retR cfg.P Try.f17 sig_slices_EqualFunc__api_Val__api_Val_api_Val_api_Val) [] code_slices_EqualFunc__api_Val__api_Val_api_Val_api_Val (initSt Try.f17 [(x0, .val), (x1, .val), (.undef, (.fn 9 []))] sg)
noncomputable def P_slices_EqualFunc__api_Val__api_Val_api_Val_api_Val_4h (R : Orc) (t1 : DV) (t15 : DV) (t16 : DV) (t17 : DV) (sg : List SObj) : Option (List DV × List SObj) := headP cfg R fl_slices_EqualFunc__api_Val__api_Val_api_Val_api_Val (retR cfg.P Try.f17 sig_slices_EqualFunc__api_Val__api_Val_api_Val_api_Val) [true, true, false, true, false] code_slices_EqualFunc__api_Val__api_Val_api_Val_api_Val ⟨spread .undef 32 0 [(1, t1), (15, t15), (16, t16), (17, t17)], spread .val 32 0 [(2, (.fn 9 []))], spread none 32 0 [], sg⟩
theorem eq_slices_EqualFunc__api_Val__api_Val_api_Val_api_Val (R : Orc) (x0 : DV) (x1 : DV) (sg : List SObj) : P_slices_EqualFunc__api_Val__api_Val_api_Val_api_Val R x0 x1 sg =
  (ob (dLen x0) fun d1 =>
  ob (dLen x1) fun d2 =>
  ob (dBin .neq d1 d2) fun d3 =>
  oif d3
   (some ([(.bool false)], sg))
   (ob (dLen x0) fun d4 =>
   P_slices_EqualFunc__api_Val__api_Val_api_Val_api_Val_4h R x1 x0 d4 (.int .i64 0) sg)) := evP_of [] (by kernel_rfl)
theorem eq_slices_EqualFunc__api_Val__api_Val_api_Val_api_Val_4h (R : Orc) (t1 : DV) (t15 : DV) (t16 : DV) (t17 : DV) (sg : List SObj) : P_slices_EqualFunc__api_Val__api_Val_api_Val_api_Val_4h R t1 t15 t16 t17 sg =
  (ob (dBin .lss t17 t16) fun d1 =>
  oif d1
   (ob (dIdx 9 t15 t17) fun d2 =>
   ob (dIdx 9 t1 t17) fun d3 =>
   ob (R.p F_val_Same [(.agg [(proj 0 d2), (proj 1 d2), (proj 2 d2), (proj 3 d2), (proj 4 d2), (proj 5 d2), (proj 6 d2), (proj 7 d2), (proj 8 d2)]), (.agg [(proj 0 d3), (proj 1 d3), (proj 2 d3), (proj 3 d3), (proj 4 d3), (proj 5 d3), (proj 6 d3), (proj 7 d3), (proj 8 d3)])]) fun d4 =>
   ob (dUn .not d4) fun d5 =>
   oif d5
    (some ([(.bool false)], sg))
    (ob (dBin .add t17 (.int .i64 1)) fun d6 =>
    P_slices_EqualFunc__api_Val__api_Val_api_Val_api_Val_4h R t1 t15 t16 d6 sg))
   (some ([(.bool true)], sg))) := headP_of [] (by kernel_rfl)
theorem fix_slices_EqualFunc__api_Val__api_Val_api_Val_api_Val (x0 : DV) (x1 : DV) (sg : List SObj) : (run cfg).r F_slices_EqualFunc__api_Val__api_Val_api_Val_api_Val [(x0, .val), (x1, .val), (.undef, (.fn 9 []))] sg = P_slices_EqualFunc__api_Val__api_Val_api_Val_api_Val (run cfg) x0 x1 sg :=
  (fix_raw (C := cfg) (f := F_slices_EqualFunc__api_Val__api_Val_api_Val_api_Val) (s := sig_slices_EqualFunc__api_Val__api_Val_api_Val_api_Val) (fn := Try.f17) (c := code_slices_EqualFunc__api_Val__api_Val_api_Val_api_Val) (by kernel_rfl) Try.func17 (by kernel_rfl) (by kernel_rfl)).trans (by kernel_rfl)
noncomputable def code_term_Check : Code := Try.f18.body.getD .skip
noncomputable def P_term_Check (R : Orc) (x0 : DV) : Option DV := evP cfg R fl_term_Check (retP cfg.P Try.f18) [] code_term_Check (initSt Try.f18 [(x0, .val)] [])
theorem eq_term_Check (R : Orc) (x0 : DV) : P_term_Check R x0 =
  (og (isAggN 20 x0) <|
  ob (R.p F_term_right [(.agg [(proj 0 x0), (proj 1 x0), (proj 2 x0), (proj 3 x0), (proj 4 x0), (proj 5 x0), (proj 6 x0), (proj 7 x0), (proj 8 x0), (proj 9 x0), (proj 10 x0), (proj 11 x0), (proj 12 x0), (proj 13 x0), (proj 14 x0), (proj 15 x0), (proj 16 x0), (proj 17 x0), (proj 18 x0), (proj 19 x0)])]) fun d1 =>
  ob (dUn .not d1) fun d2 =>
  oif d2
   (some (.int .i64 1))
   (some (.int .i64 0))) := evP_of [] (by kernel_rfl)
theorem fix_term_Check (x0 : DV) : (run cfg).p F_term_Check [x0] = P_term_Check (run cfg) x0 :=
  (fix_pure (C := cfg) (f := F_term_Check) (fn := Try.f18) (c := code_term_Check) (by kernel_rfl) Try.func18 (by kernel_rfl)).trans (by kernel_rfl)
noncomputable def code_mach_Machine_ends : Code := Try.f19.body.getD .skip
noncomputable def P_mach_Machine_ends (R : Orc) (x0 : Nat) (x1 : DV) (sg : List SObj) : Option (List DV × List SObj) := evP cfg R fl_mach_Machine_ends (retR cfg.P Try.f19 sig_mach_Machine_ends) [] code_mach_Machine_ends (initSt Try.f19 [(.undef, (.ptr x0 0)), (x1, .val)] sg)
theorem eq_mach_Machine_ends (R : Orc) (x0 : Nat) (x1 : DV) (sg : List SObj) : P_mach_Machine_ends R x0 x1 sg =
  (og (isAggN 15 x1) <|
  ob (sgBox sg x0) fun c1 =>
  ob (c1[35]?) fun u2 =>
  ob (sgBox (sg.set x0 (SObj.box (c1.set 35 ((.bool true), .val)))) x0) fun c3 =>
  if 36 + 15 ≤ c3.length then
   (ob (sgBox ((sg.set x0 (SObj.box (c1.set 35 ((.bool true), .val)))).set x0 (SObj.box (putAt c3 36 [((proj 0 x1), .val), ((proj 1 x1), .val), ((proj 2 x1), .val), ((proj 3 x1), .val), ((proj 4 x1), .val), ((proj 5 x1), .val), ((proj 6 x1), .val), ((proj 7 x1), .val), ((proj 8 x1), .val), ((proj 9 x1), .val), ((proj 10 x1), .val), ((proj 11 x1), .val), ((proj 12 x1), .val), ((proj 13 x1), .val), ((proj 14 x1), .val)]))) x0) fun c4 =>
   ob (c4[31]?) fun u5 =>
   some ([], (((sg.set x0 (SObj.box (c1.set 35 ((.bool true), .val)))).set x0 (SObj.box (putAt c3 36 [((proj 0 x1), .val), ((proj 1 x1), .val), ((proj 2 x1), .val), ((proj 3 x1), .val), ((proj 4 x1), .val), ((proj 5 x1), .val), ((proj 6 x1), .val), ((proj 7 x1), .val), ((proj 8 x1), .val), ((proj 9 x1), .val), ((proj 10 x1), .val), ((proj 11 x1), .val), ((proj 12 x1), .val), ((proj 13 x1), .val), ((proj 14 x1), .val)]))).set x0 (SObj.box (c4.set 31 ((.list 57 []), .full))))))
  else none) := evP_of [] (by kernel_rfl)
theorem fix_mach_Machine_ends (x0 : Nat) (x1 : DV) (sg : List SObj) : (run cfg).r F_mach_Machine_ends [(.undef, (.ptr x0 0)), (x1, .val)] sg = P_mach_Machine_ends (run cfg) x0 x1 sg :=
  (fix_raw (C := cfg) (f := F_mach_Machine_ends) (s := sig_mach_Machine_ends) (fn := Try.f19) (c := code_mach_Machine_ends) (by kernel_rfl) Try.func19 (by kernel_rfl) (by kernel_rfl)).trans (by kernel_rfl)
noncomputable def code_mach_clone : Code := Try.f20.body.getD .skip
noncomputable def P_mach_clone (R : Orc) (x0 : DV) : Option DV := evP cfg R fl_mach_clone (retP cfg.P Try.f20) [] code_mach_clone (initSt Try.f20 [(x0, .val)] [])
noncomputable def P_mach_clone_5h (R : Orc) (t26r3 : Nat) (t27 : DV) (t28 : DV) (b1_0 : DV) (b1_1 : DV) (b1_2 : DV) (b1_3 : DV) (b1_4 : DV) (b1_5 : DV) (b1_6 : DV) (b1_7 : DV) (b1_8 : DV) (b1_9 : DV) (b1_10 : DV) (b1_11 : DV) (b1_12 : DV) (b1_13 : DV) (b1_14 : DV) (b1_15 : DV) (b1_16 : DV) (b1_17 : DV) (b1_18r3 : Nat) (b1_19r3 : Nat) (b2_0 : DV) (b2_1 : DV) (b2_2 : DV) (b2_3 : DV) (b2_4 : DV) (b2_5 : DV) (b2_6 : DV) (b2_7 : DV) (b2_8 : DV) (b2_9 : DV) (b2_10 : DV) (b2_11 : DV) (b2_12 : DV) (b2_13 : DV) (b2_14 : DV) (b2_15 : DV) (b2_16 : DV) (b2_17 : DV) (b2_18 : DV) (b2_19 : DV) (sg : List SObj) : Option DV := headP cfg R fl_mach_clone (retP cfg.P Try.f20) [true, true, true, true, false, true, false] code_mach_clone ⟨spread .undef 56 0 [(27, t27), (28, t28)], spread .val 56 0 [(1, (.loc 1 0)), (2, (.loc 2 0)), (26, (.arr 0 7 0 t26r3))], spread none 56 0 [(1, some [(b1_0, .val), (b1_1, .val), (b1_2, .val), (b1_3, .val), (b1_4, .val), (b1_5, .val), (b1_6, .val), (b1_7, .val), (b1_8, .val), (b1_9, .val), (b1_10, .val), (b1_11, .val), (b1_12, .val), (b1_13, .val), (b1_14, .val), (b1_15, .val), (b1_16, .val), (b1_17, .val), (.undef, (.arr 0 7 0 b1_18r3)), (.undef, (.arr 1 20 0 b1_19r3))]), (2, some [(b2_0, .val), (b2_1, .val), (b2_2, .val), (b2_3, .val), (b2_4, .val), (b2_5, .val), (b2_6, .val), (b2_7, .val), (b2_8, .val), (b2_9, .val), (b2_10, .val), (b2_11, .val), (b2_12, .val), (b2_13, .val), (b2_14, .val), (b2_15, .val), (b2_16, .val), (b2_17, .val), (b2_18, .val), (b2_19, .val)])], sg⟩
noncomputable def P_mach_clone_10h (R : Orc) (t41r3 : Nat) (t42 : DV) (t43 : DV) (b1_0 : DV) (b1_1 : DV) (b1_2 : DV) (b1_3 : DV) (b1_4 : DV) (b1_5 : DV) (b1_6 : DV) (b1_7 : DV) (b1_8 : DV) (b1_9 : DV) (b1_10 : DV) (b1_11 : DV) (b1_12 : DV) (b1_13 : DV) (b1_14 : DV) (b1_15 : DV) (b1_16 : DV) (b1_17 : DV) (b1_18r3 : Nat) (b1_19r3 : Nat) (b2_0 : DV) (b2_1 : DV) (b2_2 : DV) (b2_3 : DV) (b2_4 : DV) (b2_5 : DV) (b2_6 : DV) (b2_7 : DV) (b2_8 : DV) (b2_9 : DV) (b2_10 : DV) (b2_11 : DV) (b2_12 : DV) (b2_13 : DV) (b2_14 : DV) (b2_15 : DV) (b2_16 : DV) (b2_17 : DV) (b2_18 : DV) (b2_19 : DV) (sg : List SObj) : Option DV := headP cfg R fl_mach_clone (retP cfg.P Try.f20) [true, true, true, true, true, false, true, false] code_mach_clone ⟨spread .undef 56 0 [(42, t42), (43, t43)], spread .val 56 0 [(1, (.loc 1 0)), (2, (.loc 2 0)), (41, (.arr 1 20 0 t41r3))], spread none 56 0 [(1, some [(b1_0, .val), (b1_1, .val), (b1_2, .val), (b1_3, .val), (b1_4, .val), (b1_5, .val), (b1_6, .val), (b1_7, .val), (b1_8, .val), (b1_9, .val), (b1_10, .val), (b1_11, .val), (b1_12, .val), (b1_13, .val), (b1_14, .val), (b1_15, .val), (b1_16, .val), (b1_17, .val), (.undef, (.arr 0 7 0 b1_18r3)), (.undef, (.arr 1 20 0 b1_19r3))]), (2, some [(b2_0, .val), (b2_1, .val), (b2_2, .val), (b2_3, .val), (b2_4, .val), (b2_5, .val), (b2_6, .val), (b2_7, .val), (b2_8, .val), (b2_9, .val), (b2_10, .val), (b2_11, .val), (b2_12, .val), (b2_13, .val), (b2_14, .val), (b2_15, .val), (b2_16, .val), (b2_17, .val), (b2_18, .val), (b2_19, .val)])], sg⟩
theorem eq_mach_clone (R : Orc) (x0 : DV) : P_mach_clone R x0 =
  (og (isAggN 20 x0) <|
  ob (R.p F_mach_cloneType [(.agg [(proj 11 x0), (proj 12 x0), (proj 13 x0)])]) fun d1 =>
  ob (R.p F_mach_cloneType [(.agg [(proj 14 x0), (proj 15 x0), (proj 16 x0)])]) fun d2 =>
  og (isAggN 3 d1) <|
  og (isAggN 3 d2) <|
  ob (dList (proj 18 x0)) fun p3 =>
  og (true && p3.1 == 7 && decide (p3.2.length ≤ lim)) <|
  ob (dList (proj 19 x0)) fun p4 =>
  og (true && p4.1 == 20 && decide (p4.2.length ≤ lim)) <|
  P_mach_clone_5h R (p3.2.length) (.int .i64 p3.2.length) (.int .i64 0) (proj 0 x0) (proj 1 x0) (proj 2 x0) (proj 3 x0) (proj 4 x0) (proj 5 x0) (proj 6 x0) (proj 7 x0) (proj 8 x0) (proj 9 x0) (.list 1 []) (proj 0 d1) (proj 1 d1) (proj 2 d1) (proj 0 d2) (proj 1 d2) (proj 2 d2) (.list 3 []) (p3.2.length) (p4.2.length) (.int .i64 0) (.int .i64 0) (.int .i64 0) (.str ⟨#[]⟩) (.str ⟨#[]⟩) (.int .i64 0) (.str ⟨#[]⟩) (.int .i64 0) (.int .i64 0) (.bool false) (.list 1 []) (.int .i64 0) (.int .i64 0) (.list 3 []) (.int .i64 0) (.int .i64 0) (.list 3 []) (.list 3 []) (.list 7 []) (.list 20 []) [.arr 7 p3.2, .arr 20 p4.2]) := evP_of [] (by kernel_rfl)
theorem eq_mach_clone_5h (R : Orc) (t26r3 : Nat) (t27 : DV) (t28 : DV) (b1_0 : DV) (b1_1 : DV) (b1_2 : DV) (b1_3 : DV) (b1_4 : DV) (b1_5 : DV) (b1_6 : DV) (b1_7 : DV) (b1_8 : DV) (b1_9 : DV) (b1_10 : DV) (b1_11 : DV) (b1_12 : DV) (b1_13 : DV) (b1_14 : DV) (b1_15 : DV) (b1_16 : DV) (b1_17 : DV) (b1_18r3 : Nat) (b1_19r3 : Nat) (b2_0 : DV) (b2_1 : DV) (b2_2 : DV) (b2_3 : DV) (b2_4 : DV) (b2_5 : DV) (b2_6 : DV) (b2_7 : DV) (b2_8 : DV) (b2_9 : DV) (b2_10 : DV) (b2_11 : DV) (b2_12 : DV) (b2_13 : DV) (b2_14 : DV) (b2_15 : DV) (b2_16 : DV) (b2_17 : DV) (b2_18 : DV) (b2_19 : DV) (sg : List SObj) : P_mach_clone_5h R t26r3 t27 t28 b1_0 b1_1 b1_2 b1_3 b1_4 b1_5 b1_6 b1_7 b1_8 b1_9 b1_10 b1_11 b1_12 b1_13 b1_14 b1_15 b1_16 b1_17 b1_18r3 b1_19r3 b2_0 b2_1 b2_2 b2_3 b2_4 b2_5 b2_6 b2_7 b2_8 b2_9 b2_10 b2_11 b2_12 b2_13 b2_14 b2_15 b2_16 b2_17 b2_18 b2_19 sg =
  (ob (dBin .lss t28 t27) fun d1 =>
  oif d1
   (ob (arrIdx 0 t26r3 t28) fun n2 =>
   ob (sgArr sg 0) fun r3 =>
   ob (r3.2[n2]?) fun d4 =>
   og (r3.1 == 7) <|
   ob (R.p F_mach_clonePat [(.agg [(proj 0 d4), (proj 1 d4), (proj 2 d4), (proj 3 d4), (proj 4 d4), (proj 5 d4), (proj 6 d4)])]) fun d5 =>
   ob (arrIdx 0 b1_18r3 t28) fun n6 =>
   ob (sgArr sg 0) fun r7 =>
   ob (r7.2[n6]?) fun u8 =>
   og (isAggN 7 d5) <|
   og (r7.1 == 7) <|
   ob (dBin .add t28 (.int .i64 1)) fun d9 =>
   P_mach_clone_5h R t26r3 t27 d9 b1_0 b1_1 b1_2 b1_3 b1_4 b1_5 b1_6 b1_7 b1_8 b1_9 b1_10 b1_11 b1_12 b1_13 b1_14 b1_15 b1_16 b1_17 b1_18r3 b1_19r3 b2_0 b2_1 b2_2 b2_3 b2_4 b2_5 b2_6 b2_7 b2_8 b2_9 b2_10 b2_11 b2_12 b2_13 b2_14 b2_15 b2_16 b2_17 b2_18 b2_19 (sg.set 0 (.arr 7 (r7.2.set n6 d5))))
   (P_mach_clone_10h R b1_19r3 (.int .i64 b1_19r3) (.int .i64 0) b1_0 b1_1 b1_2 b1_3 b1_4 b1_5 b1_6 b1_7 b1_8 b1_9 b1_10 b1_11 b1_12 b1_13 b1_14 b1_15 b1_16 b1_17 b1_18r3 b1_19r3 b2_0 b2_1 b2_2 b2_3 b2_4 b2_5 b2_6 b2_7 b2_8 b2_9 b2_10 b2_11 b2_12 b2_13 b2_14 b2_15 b2_16 b2_17 b2_18 b2_19 sg)) := headP_of [] (by kernel_rfl)
theorem eq_mach_clone_10h (R : Orc) (t41r3 : Nat) (t42 : DV) (t43 : DV) (b1_0 : DV) (b1_1 : DV) (b1_2 : DV) (b1_3 : DV) (b1_4 : DV) (b1_5 : DV) (b1_6 : DV) (b1_7 : DV) (b1_8 : DV) (b1_9 : DV) (b1_10 : DV) (b1_11 : DV) (b1_12 : DV) (b1_13 : DV) (b1_14 : DV) (b1_15 : DV) (b1_16 : DV) (b1_17 : DV) (b1_18r3 : Nat) (b1_19r3 : Nat) (b2_0 : DV) (b2_1 : DV) (b2_2 : DV) (b2_3 : DV) (b2_4 : DV) (b2_5 : DV) (b2_6 : DV) (b2_7 : DV) (b2_8 : DV) (b2_9 : DV) (b2_10 : DV) (b2_11 : DV) (b2_12 : DV) (b2_13 : DV) (b2_14 : DV) (b2_15 : DV) (b2_16 : DV) (b2_17 : DV) (b2_18 : DV) (b2_19 : DV) (sg : List SObj) : P_mach_clone_10h R t41r3 t42 t43 b1_0 b1_1 b1_2 b1_3 b1_4 b1_5 b1_6 b1_7 b1_8 b1_9 b1_10 b1_11 b1_12 b1_13 b1_14 b1_15 b1_16 b1_17 b1_18r3 b1_19r3 b2_0 b2_1 b2_2 b2_3 b2_4 b2_5 b2_6 b2_7 b2_8 b2_9 b2_10 b2_11 b2_12 b2_13 b2_14 b2_15 b2_16 b2_17 b2_18 b2_19 sg =
  (ob (dBin .lss t43 t42) fun d1 =>
  oif d1
   (ob (arrIdx 0 t41r3 t43) fun n2 =>
   ob (sgArr sg 1) fun r3 =>
   ob (r3.2[n2]?) fun d4 =>
   og (r3.1 == 20) <|
   ob (R.p F_mach_clone [(.agg [(proj 0 d4), (proj 1 d4), (proj 2 d4), (proj 3 d4), (proj 4 d4), (proj 5 d4), (proj 6 d4), (proj 7 d4), (proj 8 d4), (proj 9 d4), (proj 10 d4), (proj 11 d4), (proj 12 d4), (proj 13 d4), (proj 14 d4), (proj 15 d4), (proj 16 d4), (proj 17 d4), (proj 18 d4), (proj 19 d4)])]) fun d5 =>
   ob (arrIdx 0 b1_19r3 t43) fun n6 =>
   ob (sgArr sg 1) fun r7 =>
   ob (r7.2[n6]?) fun u8 =>
   og (isAggN 20 d5) <|
   og (r7.1 == 20) <|
   ob (dBin .add t43 (.int .i64 1)) fun d9 =>
   P_mach_clone_10h R t41r3 t42 d9 b1_0 b1_1 b1_2 b1_3 b1_4 b1_5 b1_6 b1_7 b1_8 b1_9 b1_10 b1_11 b1_12 b1_13 b1_14 b1_15 b1_16 b1_17 b1_18r3 b1_19r3 b2_0 b2_1 b2_2 b2_3 b2_4 b2_5 b2_6 b2_7 b2_8 b2_9 b2_10 b2_11 b2_12 b2_13 b2_14 b2_15 b2_16 b2_17 b2_18 b2_19 (sg.set 1 (.arr 20 (r7.2.set n6 d5))))
   (retL [ob (sealCells sg [(b1_0, .val), (b1_1, .val), (b1_2, .val), (b1_3, .val), (b1_4, .val), (b1_5, .val), (b1_6, .val), (b1_7, .val), (b1_8, .val), (b1_9, .val), (b1_10, .val), (b1_11, .val), (b1_12, .val), (b1_13, .val), (b1_14, .val), (b1_15, .val), (b1_16, .val), (b1_17, .val), (.undef, (.arr 0 7 0 b1_18r3)), (.undef, (.arr 1 20 0 b1_19r3))]) fun ds => some (.agg ds)])) := headP_of [] (by kernel_rfl)
theorem fix_mach_clone (x0 : DV) : (run cfg).p F_mach_clone [x0] = P_mach_clone (run cfg) x0 :=
  (fix_pure (C := cfg) (f := F_mach_clone) (fn := Try.f20) (c := code_mach_clone) (by kernel_rfl) Try.func20 (by kernel_rfl)).trans (by kernel_rfl)
end Go.Su
