/-
  Parts of the proof, merged: SuDraw2, SuDraw3, SuItr, SuCode, SuFun, SuRun, SuCont, SuCont2, SuCont3, SuAt, SuTy, SuPl, SuJoin, SuRd, SuM1, SuIt.
-/
import Derived.Below
import Derived.ChangeArms
import Derived.DataReads
import Derived.IntWalk
import Derived.LoopNIn
import Derived.OrdersIn
import Derived.RangeFuncBound
import Derived.RangeFuncCalls
import Derived.RangeFuncLeaves
import Derived.Test.YtcdfkkiomocmpaaGreatC2
set_option linter.unusedVariables false
set_option linter.unusedSimpArgs false
/-
 THE DATA MACHINE, part 23: regions, in the text's order and in any.
-/
namespace Go.Su
section
variable {X : Type} {C : Cfg} {R : Orc} {fl : Flags} {ops : List Oper}
theorem RunG_none {o : Oper} (hg : o.guard = none) (s s1 : St) : RunG C R fl ops o s s1 ↔ evOp C R fl o s some = some s1 := by unfold RunG; rw [hg]
theorem RunG_some {o : Oper} {g : Nat} {want : Bool} {t : Nat} (hg : o.guard = some (g, want)) (ht : guardTmp ops g = some t) (s s1 : St) : RunG C R fl ops o s s1 ↔ isData (s.get t).2 = true ∧
 (((s.get t).1 = .bool want ∧ evOp C R fl o s some = some s1) ∨ (((s.get t).1 = .bool !want ∨ (s.get t).1 = .tup []) ∧ s1 = s.put o.dst (.tup []) .val)) := by
 unfold RunG; rw [hg]
 simp only [ht, Option.some.injEq, exists_eq_left']
theorem fpG_none {o : Oper} (hg : o.guard = none) (s : St) : fpG C fl ops o s = fpB C fl o s := by unfold fpG; rw [hg]
theorem fpG_some {o : Oper} {g : Nat} {want : Bool} {t : Nat} (hg : o.guard = some (g, want)) (ht : guardTmp ops g = some t) (s : St) :
 fpG C fl ops o s = if isB want (s.get t).1 then (fpB C fl o s).look t else { rt := [t], wt := o.dst.toList } := by
 unfold fpG; rw [hg]
 simp only [ht]
theorem run_know {o : Oper} {st : St} {t : Nat} {want : Bool} {J : St → Option X} {x : X} (hb : (st.get t).1 = .bool want) (H : evOp C R fl o (st.know t (.bool want)) J = some x) :
 ∃ s1, evOp C R fl o st some = some s1 ∧ J s1 = some x := by
 rw [know_self hb (by simp)] at H
 obtain ⟨s1, h1, h2⟩ := evOp_nat H
 exact ⟨s1, h2 _ some, h1⟩
theorem evDraw_step {bf : List (List Nat)} {o : Oper} {os : List Oper} {i : Nat} {acc : List (Nat × Fp)} {st : St} {k : St → Option X} {x : X} (H : evDraw C R fl ops bf (o :: os) i acc st k = some x) :
 ∃ s1, RunG C R fl ops o st s1 ∧ mayCome bf i acc ((fpG C fl ops o st).locs st s1) = true ∧ evDraw C R fl ops bf os (i + 1) ((i, (fpG C fl ops o st).locs st s1) :: acc) s1 k = some x := by
 simp only [evDraw, forceSt_eq, forceFp_eq] at H
 split at H
 ·rename_i hg
  rw [fpG_none hg]
  obtain ⟨s1, h1, h2⟩ := evOp_nat H
  obtain ⟨h3, h4⟩ := og_some h1
  exact ⟨s1, (RunG_none hg _ _).2 (h2 _ some), h3, h4⟩
 ·rename_i g want hg
  obtain ⟨t, ht, H⟩ := ob_some H
  obtain ⟨hd, H⟩ := og_some H
  rw [fpG_some hg ht]
  have run : (st.get t).1 = .bool want → drawRun C R fl o t (st.know t (.bool want)) (fun f st1 => og (mayCome bf i acc f) (evDraw C R fl ops bf os (i + 1) ((i, f) :: acc) st1 k)) = some x →
   ∃ s1, RunG C R fl ops o st s1 ∧ mayCome bf i acc ((if isB want (st.get t).1 then (fpB C fl o st).look t else { rt := [t], wt := o.dst.toList }).locs st s1) = true ∧
     evDraw C R fl ops bf os (i + 1) ((i, (if isB want (st.get t).1 then (fpB C fl o st).look t else { rt := [t], wt := o.dst.toList }).locs st s1) :: acc) s1 k = some x := by
   intro hbt H9
   rw [if_pos (isB_iff.2 hbt)]
   unfold drawRun at H9
   obtain ⟨s1, h1, h2⟩ := run_know hbt H9
   rw [know_self hbt (by simp)] at h2
   obtain ⟨h3, h4⟩ := og_some h2
   exact ⟨s1, (RunG_some hg ht _ _).2 ⟨hd, .inl ⟨hbt, h1⟩⟩, h3, h4⟩
  have skip : ∀ d : DV, (d = .bool !want ∨ d = .tup []) → (st.get t).1 = d → drawSkip o t (st.know t d) (fun f st1 => og (mayCome bf i acc f) (evDraw C R fl ops bf os (i + 1) ((i, f) :: acc) st1 k)) = some x →
   ∃ s1, RunG C R fl ops o st s1 ∧ mayCome bf i acc ((if isB want (st.get t).1 then (fpB C fl o st).look t else { rt := [t], wt := o.dst.toList }).locs st s1) = true ∧
     evDraw C R fl ops bf os (i + 1) ((i, (if isB want (st.get t).1 then (fpB C fl o st).look t else { rt := [t], wt := o.dst.toList }).locs st s1) :: acc) s1 k = some x := by
   intro d hdd hbt H9
   rw [know_self hbt (by rcases hdd with h | h <;> rw [h] <;> simp)] at H9
   have hB : ¬ (isB want (st.get t).1 = true) := by
    rw [isB_iff, hbt]
    rcases hdd with h | h <;> rw [h] <;> cases want <;> simp
   rw [if_neg hB]
   unfold drawSkip at H9
   obtain ⟨h3, h4⟩ := og_some H9
   exact ⟨_, (RunG_some hg ht _ _).2 ⟨hd, .inr ⟨by rw [hbt]; exact hdd, rfl⟩⟩, h3, h4⟩
  rcases ogd_some H with ⟨hb, H9⟩ | ⟨hb, H9⟩ | ⟨hb, H9⟩
  ·cases want
   ·exact skip _ (.inl rfl) hb H9
   ·exact run hb H9
  ·cases want
   ·exact run hb H9
   ·exact skip _ (.inl rfl) hb H9
  ·exact skip _ (.inr rfl) hb H9
theorem evOps_step {o : Oper} {os : List Oper} {st : St} {k : St → Option X} {x : X} (H : evOps C R fl ops (o :: os) st k = some x) :
 ∃ s1, RunG C R fl ops o st s1 ∧ evOps C R fl ops os s1 k = some x := by
 simp only [evOps, forceSt_eq] at H
 split at H
 ·rename_i hg
  obtain ⟨s1, h1, h2⟩ := evOp_nat H
  exact ⟨s1, (RunG_none hg _ _).2 (h2 _ some), h1⟩
 ·rename_i g want hg
  obtain ⟨t, ht, H⟩ := ob_some H
  obtain ⟨hd, H⟩ := og_some H
  have run : (st.get t).1 = .bool want → evOp C R fl o (st.know t (.bool want)) (fun st => evOps C R fl ops os st k) = some x →
   ∃ s1, RunG C R fl ops o st s1 ∧ evOps C R fl ops os s1 k = some x := by
   intro hbt H9
   obtain ⟨s1, h1, h2⟩ := run_know hbt H9
   exact ⟨s1, (RunG_some hg ht _ _).2 ⟨hd, .inl ⟨hbt, h1⟩⟩, h2⟩
  have skip : ∀ d : DV, (d = .bool !want ∨ d = .tup []) → (st.get t).1 = d → evOps C R fl ops os ((st.know t d).put o.dst (.tup []) .val) k = some x →
   ∃ s1, RunG C R fl ops o st s1 ∧ evOps C R fl ops os s1 k = some x := by
   intro d hdd hbt H9
   rw [know_self hbt (by rcases hdd with h | h <;> rw [h] <;> simp)] at H9
   exact ⟨_, (RunG_some hg ht _ _).2 ⟨hd, .inr ⟨by rw [hbt]; exact hdd, rfl⟩⟩, H9⟩
  rcases ogd_some H with ⟨hb, H9⟩ | ⟨hb, H9⟩ | ⟨hb, H9⟩
  ·cases want
   ·exact skip _ (.inl rfl) hb H9
   ·exact run hb H9
  ·cases want
   ·exact run hb H9
   ·exact skip _ (.inl rfl) hb H9
  ·exact skip _ (.inr rfl) hb H9
def Chain (C : Cfg) (R : Orc) (fl : Flags) (ops : List Oper) : List (Nat × Fp) → St → St → Prop
 | [], s, t => s = t
 | p :: l, s, t => ∃ o s1, ops[p.1]? = some o ∧ RunG C R fl ops o s s1 ∧ p.2 = (fpG C fl ops o s).locs s s1 ∧ Chain C R fl ops l s1 t
theorem Chain.first : ∀ {A B : List (Nat × Fp)} {p : Nat × Fp} {s t : St}, Chain C R fl ops (A ++ p :: B) s t → (∀ q ∈ A, comm q.2 p.2 = true) →
 ∃ o s1, ops[p.1]? = some o ∧ RunG C R fl ops o s s1 ∧ p.2 = (fpG C fl ops o s).locs s s1 ∧ Chain C R fl ops (A ++ B) s1 t
 | [], B, p, s, t, H, _ => H
 | q :: A, B, p, s, t, H, hc => by
   obtain ⟨oq, s1, h1, h2, h3, H⟩ := H
   obtain ⟨op, s2, h4, h5, h6, H⟩ := Chain.first (A := A) H fun q' hq' => hc q' (List.mem_cons_of_mem _ hq')
   have h7 := hc q (List.mem_cons_self ..)
   rw [h3, h6] at h7
   obtain ⟨s1', k1, k2, k3, k4⟩ := step_comm h2 h5 h7
   exact ⟨op, s1', h4, k1, by rw [h6, k3], oq, s2, h1, k2, by rw [h3, k4], H⟩
theorem evDraw_chain {bf : List (List Nat)} {k : St → Option X} {x : X} : ∀ {os : List Oper} {i : Nat} {acc : List (Nat × Fp)} {st : St}, (∀ j : Nat, os[j]? = ops[i + j]?) → evDraw C R fl ops bf os i acc st k = some x →
 ∃ l t, k t = some x ∧ Chain C R fl ops l st t ∧ l.map (·.1) = List.range' i os.length ∧ (∀ p ∈ acc, ∀ q ∈ l, p.1 ∈ bf.getD q.1 [] ∨ comm p.2 q.2 = true) ∧
   l.Pairwise fun p q => p.1 ∈ bf.getD q.1 [] ∨ comm p.2 q.2 = true
 | [], i, acc, st, _, H => ⟨[], st, H, rfl, rfl, by simp, .nil⟩
 | o :: os, i, acc, st, hs, H => by
   obtain ⟨s1, h1, h2, h3⟩ := evDraw_step H
   have hs' : ∀ j : Nat, os[j]? = ops[i + 1 + j]? := fun j => by
    have := hs (j + 1)
    simp only [List.getElem?_cons_succ] at this
    rw [this]; congr 1; omega
   obtain ⟨l, t, k1, k2, k3, k4, k5⟩ := evDraw_chain hs' h3
   refine ⟨(i, (fpG C fl ops o st).locs st s1) :: l, t, k1, ⟨o, s1, ?_, h1, rfl, k2⟩, ?_, fun p hp q hq => ?_, .cons (fun q hq => k4 _ (List.mem_cons_self ..) q hq) k5⟩
   ·have := hs 0
    simpa using this.symm
   ·simp only [List.map_cons, List.length_cons, List.range'_succ, k3]
   ·rcases List.mem_cons.1 hq with rfl | hq
    ·have := List.all_eq_true.1 h2 p hp
     simp only [Bool.or_eq_true, List.contains_eq_mem, decide_eq_true_eq] at this
     exact this
    ·exact k4 p (List.mem_cons_of_mem _ hp) q hq
end
section
variable {C : Cfg} {R : Orc} {fl : Flags} {ops : List Oper} {E : Env} {a : Act} {w : World} {K : Act → World → Prop} {Q : Exit → Act → World → Prop}
theorem yielded_bool {st : St} {g t : Nat} {b : Bool} (Rl : Rel E st a w.heap) (ht : guardTmp ops g = some t) (hd : isData (st.get t).2 = true) (hb : (st.get t).1 = .bool b) : yielded ops.toArray a.tmps g = some b := by
 unfold guardTmp at ht
 obtain ⟨o, h1, h2⟩ := ob_some ht
 have hlt : t < a.tmps.size := by
  rw [Rl.size]
  rcases Nat.lt_or_ge t st.tm.length with h | h
  ·exact h
  ·rw [get_of_ge h Rl.mlen] at hb; cases hb
 have hv : a.tmps[t]? = some a.tmps[t] := Array.getElem?_eq_getElem hlt
 have := (Rl.regs t _ hv).data hd
 rw [hb] at this
 simp only [RV] at this
 unfold yielded
 simp [h1, h2, hv, this]
theorem yielded_tup {st : St} {g t : Nat} (Rl : Rel E st a w.heap) (ht : guardTmp ops g = some t) (hd : isData (st.get t).2 = true) (hb : (st.get t).1 = .tup []) : yielded ops.toArray a.tmps g = none := by
 unfold guardTmp at ht
 obtain ⟨o, h1, h2⟩ := ob_some ht
 have hlt : t < a.tmps.size := by
  rw [Rl.size]
  rcases Nat.lt_or_ge t st.tm.length with h | h
  ·exact h
  ·rw [get_of_ge h Rl.mlen] at hb; cases hb
 have hv : a.tmps[t]? = some a.tmps[t] := Array.getElem?_eq_getElem hlt
 have := (Rl.regs t _ hv).data hd
 rw [hb] at this
 simp only [RV] at this
 obtain ⟨vs, h3, h4⟩ := this
 unfold yielded
 simp [h1, h2, hv, h3]
def rnd (ro : Option Nat) : Fence := { fn := fun _ => True, depth := none, alive := false, round := ro }
theorem callsIn_rnd {ro : Option Nat} {n : Nat} {P : Program} {f : FuncId} {args : Array Value} {w : World} {R : Ending → World → Prop} (h : Calls P f args w R) : CallsIn (rnd ro) n P f args w R := by
 have h1 : CallsIn Fence.wide n P f args w R := callsIn_wide.2 h
 cases ro with
 | none => exact h1
 | some l => exact CallsIn.inRound l h1
theorem Gp.wpIn {ro : Option Nat} {n : Nat} {P : Program} {o : Oper} (hd : ∀ c, o.op ≠ .defer c) (H : Gp P o a w K) : o.wpIn (rnd ro) n P a w K Q := by
 refine ⟨fun _ _ => trivial, ?_⟩
 rw [Oper.semAt_eq _ _ _ hd]
 rcases H with ⟨v, w', h1, h2⟩ | ⟨w', h1, h2⟩ | ⟨f, args, h1, h2⟩
 ·rw [h1]; exact h2
 ·rw [h1]; exact h2
 ·rw [h1]
  exact ⟨fun h => (by cases h), callsIn_rnd (h2.mono fun e w' ⟨v, he, hk⟩ => by subst he; exact hk)⟩
theorem sim_G {ro : Option Nat} {n i : Nat} {o : Oper} {s s1 : St} (hO : OrcOk C R) (ho : ops[i]? = some o) (H : RunG C R fl ops o s s1) (Rl : Rel E s a w.heap)
 (T : ∀ E' a' w', a'.defers = a.defers → Rel E' s1 a' w'.heap → Pr Ours E w.heap E' w'.heap → Outer w w' → K a' w') : wpOpIn (rnd ro) n C.P ops.toArray Q i K a w := by
 unfold wpOpIn
 have ho' : ops.toArray[i]? = some o := by simpa using ho
 simp only [ho']
 unfold RunG at H
 have run : evOp C R fl o s some = some s1 → o.wpIn (rnd ro) n C.P a w K Q := fun H => by
  have hd : ∀ c, o.op ≠ .defer c := fun c hc => by simp [evOp, hc] at H
  have h0 : Gp C.P o a w fun a' w' => ∃ E', Rel E' s1 a' w'.heap ∧ Pr Ours E w.heap E' w'.heap ∧ Outer w w' := sim_op hO H Rl fun E' st' a' w' h1 h2 h3 h4 => by
   simp only [Option.some.injEq] at h1
   subst h1
   exact ⟨E', h2, h3, h4⟩
  exact Gp.wpIn hd (h0.mono fun a' w' hd ⟨E', h1, h2, h3⟩ => T E' a' w' hd h1 h2 h3)
 split at H
 ·rename_i hg
  have hw : Region.wanted o (yielded ops.toArray a.tmps) = true := by simp [Region.wanted, hg]
  rw [if_pos hw]
  exact run H
 ·rename_i g want hg
  obtain ⟨t, ht, hd, H⟩ := H
  rcases H with ⟨hb, H⟩ | ⟨hb, H⟩
  ·have hw : Region.wanted o (yielded ops.toArray a.tmps) = true := by simp [Region.wanted, hg, yielded_bool Rl ht hd hb]
   rw [if_pos hw]
   exact run H
  ·have hw : ¬ (Region.wanted o (yielded ops.toArray a.tmps) = true) := by
    rcases hb with hb | hb
    ·cases want <;> simp [Region.wanted, hg, yielded_bool Rl ht hd hb]
    ·simp [Region.wanted, hg, yielded_tup Rl ht hd hb]
   rw [if_neg hw]
   subst H
   refine ⟨fun _ _ => trivial, T E _ w (act_put_defers ..) (Rl.put fun t _ => ?_) (Pr.refl _ _ _) (Outer.refl _)⟩
   simp only [RR, RM1, RV, undef]
   exact ⟨#[], rfl, by simp [RVs]⟩
theorem sim_ops {X : Type} {k : St → Option X} {x : X} {ro : Option Nat} {n : Nat} (hO : OrcOk C R) : ∀ {os : List Oper} {i : Nat} {st : St} {E : Env} {a : Act} {w : World}, (∀ j : Nat, os[j]? = ops[i + j]?) → evOps C R fl ops os st k = some x → Rel E st a w.heap →
 (∀ E' t a' w', k t = some x → a'.defers = a.defers → Rel E' t a' w'.heap → Pr Ours E w.heap E' w'.heap → Outer w w' → Q .normal a' w') → wpOpsIn (rnd ro) n C.P ops.toArray Q (List.range' i os.length) a w
 | [], i, st, E, a, w, _, H, Rl, T => T E st a w H rfl Rl (Pr.refl _ _ _) (Outer.refl _)
 | o :: os, i, st, E, a, w, hs, H, Rl, T => by
   obtain ⟨s1, h1, h2⟩ := evOps_step H
   have hs' : ∀ j : Nat, os[j]? = ops[i + 1 + j]? := fun j => by
    have := hs (j + 1)
    simp only [List.getElem?_cons_succ] at this
    rw [this]; congr 1; omega
   simp only [List.length_cons, List.range'_succ]
   rw [wpOpsIn_cons]
   refine sim_G hO (by simpa using (hs 0).symm) h1 Rl fun E' a' w' D1 R1 P1 O1 => ?_
   exact sim_ops hO hs' h2 R1 fun E2 t a2 w2 k1 k0 k2 k3 k4 => T E2 t a2 w2 k1 (k0.trans D1) k2 (P1.trans k3) (O1.trans k4)
end
end Go.Su

/-
 THE DATA MACHINE, part 24: a region in whatever order.
-/
namespace Go.Su
def aft (o : Oper) : List Edge := o.after.toList.filter (Region.binds .any)
theorem befores_pre : ∀ {os : List Oper} {acc : List (List Nat)} {j : Nat}, j < acc.length → (befores os acc)[j]? = acc[j]?
 | [], acc, j, _ => rfl
 | o :: os, acc, j, h => by
   simp only [befores, forceNs_eq]
   rw [befores_pre (by simp; omega), List.getElem?_append_left h]
theorem befores_at : ∀ {os : List Oper} {acc : List (List Nat)}, edgesOk acc.length os = true → ∀ (j : Nat) o, os[j]? = some o →
 (befores os acc).getD (acc.length + j) [] = uniq ((aft o).flatMap fun e => e.on :: (befores os acc).getD e.on [])
 | [], acc, _, j, o, h => by simp at h
 | o' :: os, acc, he, j, o, h => by
   simp only [edgesOk, Bool.and_eq_true] at he
   simp only [befores, forceNs_eq]
   generalize hr : (acc ++ [uniq ((o'.after.toList.filter (Region.binds .any)).flatMap fun e => e.on :: acc.getD e.on [])]) = acc'
   have hl : acc'.length = acc.length + 1 := by rw [← hr]; simp
   cases j with
   | zero =>
     simp only [List.getElem?_cons_zero, Option.some.injEq] at h
     subst h
     have h1 : (befores os acc').getD (acc.length + 0) [] = uniq ((o'.after.toList.filter (Region.binds .any)).flatMap fun e => e.on :: acc.getD e.on []) := by
      rw [List.getD_eq_getElem?_getD, befores_pre (by omega), ← hr]
      simp
     rw [h1]
     refine congrArg uniq (flatMap_congr' fun e hm => ?_)
     have h2 := List.all_eq_true.1 he.1 e hm
     simp only [decide_eq_true_eq] at h2
     rw [List.getD_eq_getElem?_getD, List.getD_eq_getElem?_getD, befores_pre (by omega), ← hr, List.getElem?_append_left h2]
   | succ j =>
     have := befores_at (os := os) (acc := acc') (by rw [hl]; exact he.2) j o (by simpa using h)
     rw [hl] at this
     rw [show acc.length + (j + 1) = acc.length + 1 + j by omega]
     exact this
theorem edges_lt : ∀ {os : List Oper} {i : Nat}, edgesOk i os = true → ∀ (j : Nat) o, os[j]? = some o → ∀ e ∈ aft o, e.on < i + j
 | [], i, _, j, o, h => by simp at h
 | o' :: os, i, he, j, o, h => by
   simp only [edgesOk, Bool.and_eq_true] at he
   cases j with
   | zero =>
     simp only [List.getElem?_cons_zero, Option.some.injEq] at h
     subst h
     intro e hm
     have h2 := List.all_eq_true.1 he.1 e hm
     simpa using h2
   | succ j =>
     intro e hm
     have := edges_lt he.2 j o (by simpa using h) e hm
     omega
structure Inv (bf : List (List Nat)) (n : Nat) (listed : Array Bool) (l : List (Nat × Fp)) : Prop where
 size : listed.size = n
 idx : ∀ j : Nat, (∃ f, (j, f) ∈ l) ↔ listed[j]? = some false
 sorted : l.Pairwise fun p q => p.1 < q.1
 pw : l.Pairwise fun p q => p.1 ∈ bf.getD q.1 [] ∨ comm p.2 q.2 = true
 down : ∀ j : Nat, listed[j]? = some true → ∀ p ∈ bf.getD j [], listed[p]? = some true
theorem listed_true {listed : Array Bool} {j : Nat} : listed.getD j false = true ↔ listed[j]? = some true := by
 rw [Array.getD_eq_getD_getElem?]
 cases listed[j]? <;> simp
theorem listed_false {listed : Array Bool} {j : Nat} : listed.getD j true = false ↔ listed[j]? = some false := by
 rw [Array.getD_eq_getD_getElem?]
 cases listed[j]? <;> simp
section
variable {C : Cfg} {R : Orc} {fl : Flags} {ops : List Oper} {Q : Exit → Act → World → Prop}
theorem sim_any {bf : List (List Nat)} {t : St} {ro : Option Nat} {m : Nat} (hO : OrcOk C R) (hbf : ∀ (i : Nat) o, ops[i]? = some o → ∀ p, p ∈ bf.getD i [] → p ∈ (aft o).flatMap fun e => e.on :: bf.getD e.on []) (hlt : ∀ (i : Nat) o, ops[i]? = some o → ∀ e ∈ aft o, e.on < i) :
 ∀ (n : Nat) (l : List (Nat × Fp)) (listed : Array Bool) (s : St) (E : Env) (a : Act) (w : World), l.length = n → Inv bf ops.length listed l → Chain C R fl ops l s t → Rel E s a w.heap →
   (∀ E' a' w', a'.defers = a.defers → Rel E' t a' w'.heap → Pr Ours E w.heap E' w'.heap → Outer w w' → Q .normal a' w') → wpAnyIn (rnd ro) m C.P .any ops.toArray Q n listed a w := by
 intro n
 induction n with
 | zero =>
   intro l listed s E a w hl I Ch Rl T
   have hl0 := List.eq_nil_of_length_eq_zero hl
   subst hl0
   simp only [Chain] at Ch
   subst Ch
   refine ⟨?_, T E a w rfl Rl (Pr.refl _ _ _) (Outer.refl _)⟩
   rw [List.eq_nil_iff_forall_not_mem]
   intro j hj
   obtain ⟨h0, -⟩ := mem_ready.1 hj
   obtain ⟨f, hf⟩ := (I.idx j).2 (listed_false.1 h0)
   cases hf
 | succ n ih =>
   intro l listed s E a w hl I Ch Rl T
   constructor
   ·intro hr
    exfalso
    cases l with
    | nil => simp at hl
    | cons p l =>
      have hp : listed[p.1]? = some false := (I.idx p.1).1 ⟨p.2, List.mem_cons_self ..⟩
      obtain ⟨o, s1, ho, -⟩ := Ch
      have : p.1 ∈ Region.ready .any ops.toArray listed := by
       refine mem_ready.2 ⟨listed_false.2 hp, o, by simpa using ho, fun e he hb => listed_true.2 ?_⟩
       have hlt' := hlt p.1 o ho e (List.mem_filter.2 ⟨by simpa using he, hb⟩)
       have hp' := (Array.getElem?_eq_some_iff.1 hp).1
       have hin : listed[e.on]? = some (listed[e.on]'(by omega)) := Array.getElem?_eq_getElem (by omega)
       cases hv : (listed[e.on]'(by omega)) with
       | true => rw [hin, hv]
       | false =>
         rw [hv] at hin
         obtain ⟨f, hf⟩ := (I.idx e.on).2 hin
         rcases List.mem_cons.1 hf with h | h
         ·have : e.on = p.1 := by rw [← h]
          omega
         ·have := (List.pairwise_cons.1 I.sorted).1 _ h
          simp only at this
          omega
      rw [hr] at this
      cases this
   ·intro i hi
    obtain ⟨h0, o, ho, hall⟩ := mem_ready.1 hi
    have hif := listed_false.1 h0
    obtain ⟨g, hg⟩ := (I.idx i).2 hif
    obtain ⟨A, B, rfl⟩ := List.append_of_mem hg
    have ho' : ops[i]? = some o := by simpa using ho
    have hbi : ∀ p ∈ bf.getD i [], listed[p]? = some true := by
     intro p hp
     replace hp := hbf i o ho' _ hp
     obtain ⟨e, he, hp⟩ := List.mem_flatMap.1 hp
     obtain ⟨he1, he2⟩ := List.mem_filter.1 he
     have hl := listed_true.1 (hall e (by simpa using he1) he2)
     rcases List.mem_cons.1 hp with rfl | hp
     ·exact hl
     ·exact I.down _ hl p hp
    obtain ⟨pA, pB, pAB⟩ := List.pairwise_append.1 I.pw
    obtain ⟨sA, sB, sAB⟩ := List.pairwise_append.1 I.sorted
    obtain ⟨sB1, sB2⟩ := List.pairwise_cons.1 sB
    have hcomm : ∀ q ∈ A, comm q.2 g = true := by
     intro q hq
     rcases pAB q hq (i, g) (List.mem_cons_self ..) with h | h
     ·have h1 := hbi _ h
      have h2 := (I.idx q.1).1 ⟨q.2, List.mem_append.2 (.inl hq)⟩
      rw [h1] at h2
      cases h2
     ·exact h
    obtain ⟨o', s1, k1, k2, k3, k4⟩ := Chain.first Ch hcomm
    have hisz := (Array.getElem?_eq_some_iff.1 hif).1
    refine sim_G hO k1 k2 Rl fun E' a' w' D1 R1 P1 O1 => ih (A ++ B) _ s1 E' a' w' ?_ ⟨?_, fun j => ?_, ?_, ?_, fun j hj p hp => ?_⟩ k4 R1 fun E2 a2 w2 D2 R2 P2 O2 => T E2 a2 w2 (D2.trans D1) R2 (P1.trans P2) (O1.trans O2)
    ·simp only [List.length_append, List.length_cons] at hl ⊢; omega
    ·rw [Array.size_setIfInBounds]; exact I.size
    ·constructor
     ·rintro ⟨f, hf⟩
      have hne : i ≠ j := by
       rcases List.mem_append.1 hf with h | h
       ·have := sAB _ h (i, g) (List.mem_cons_self ..)
        simp only at this; omega
       ·have := sB1 _ h
        simp only at this; omega
      rw [Array.getElem?_setIfInBounds_ne hne]
      exact (I.idx j).1 ⟨f, by
       rcases List.mem_append.1 hf with h | h
       ·exact List.mem_append.2 (.inl h)
       ·exact List.mem_append.2 (.inr (List.mem_cons_of_mem _ h))⟩
     ·intro hj
      by_cases hne : i = j
      ·subst hne
       rw [Array.getElem?_setIfInBounds_self_of_lt hisz] at hj
       cases hj
      ·rw [Array.getElem?_setIfInBounds_ne hne] at hj
       obtain ⟨f, hf⟩ := (I.idx j).2 hj
       refine ⟨f, ?_⟩
       rcases List.mem_append.1 hf with h | h
       ·exact List.mem_append.2 (.inl h)
       ·rcases List.mem_cons.1 h with h | h
        ·simp only [Prod.mk.injEq] at h; exact absurd h.1.symm hne
        ·exact List.mem_append.2 (.inr h)
    ·exact List.pairwise_append.2 ⟨sA, sB2, fun p hp q hq => sAB p hp q (List.mem_cons_of_mem _ hq)⟩
    ·exact List.pairwise_append.2 ⟨pA, (List.pairwise_cons.1 pB).2, fun p hp q hq => pAB p hp q (List.mem_cons_of_mem _ hq)⟩
    ·have mono : ∀ q : Nat, listed[q]? = some true → (listed.setIfInBounds i true)[q]? = some true := by
      intro q hq
      by_cases hne : i = q
      ·subst hne; exact Array.getElem?_setIfInBounds_self_of_lt hisz
      ·rw [Array.getElem?_setIfInBounds_ne hne]; exact hq
     by_cases hne : i = j
     ·subst hne; exact mono p (hbi p hp)
     ·rw [Array.getElem?_setIfInBounds_ne hne] at hj
      exact mono p (I.down j hj p hp)
theorem sim_region {X : Type} {ro : Option Nat} {n : Nat} {k : St → Option X} {x : X} {ops : Array Oper} {id : Nat} {st : St} {E : Env} {a : Act} {w : World} (hO : OrcOk C R) (H : evOps C R fl ops.toList ops.toList st k = some x) (Rl : Rel E st a w.heap)
 (T : ∀ E' t a' w', k t = some x → a'.defers = a.defers → Rel E' t a' w'.heap → Pr Ours E w.heap E' w'.heap → Outer w w' → Q .normal a' w') : (Code.region id ops false).wpIn (rnd ro) n C.P Q a w := by
 refine wpIn_region ?_
 have := sim_ops (ro := ro) (n := n) (i := 0) hO (fun j => by rw [Nat.zero_add]) H Rl T
 rwa [List.range_eq_range', ← Array.length_toList]
theorem sim_draw {X : Type} {ro : Option Nat} {n : Nat} {k : St → Option X} {x : X} {ops : Array Oper} {id : Nat} {st : St} {E : Env} {a : Act} {w : World} (hm : C.P.follows .mixedOrders = true) (hO : OrcOk C R)
 (H : og (edgesOk 0 ops.toList) (evDraw C R fl ops.toList (befores ops.toList []) ops.toList 0 [] st k) = some x) (Rl : Rel E st a w.heap)
 (T : ∀ E' t a' w', k t = some x → a'.defers = a.defers → Rel E' t a' w'.heap → Pr Ours E w.heap E' w'.heap → Outer w w' → Q .normal a' w') : (Code.region id ops true).wpIn (rnd ro) n C.P Q a w := by
 obtain ⟨he, H⟩ := og_some H
 obtain ⟨l, t, h1, h2, h3, h4, h5⟩ := evDraw_chain (fun j => by rw [Nat.zero_add]) H
 refine wpIn_region_any hm ?_
 have hlen : l.length = ops.size := by
  have := congrArg List.length h3
  simpa using this
 have hidx : ∀ j : Nat, (∃ f, (j, f) ∈ l) ↔ j < ops.size := by
  intro j
  have : j ∈ l.map (·.1) ↔ j ∈ List.range' 0 ops.toList.length := by rw [h3]
  rw [List.mem_map] at this
  simp only [List.mem_range'_1, Nat.zero_le, true_and, Nat.zero_add, Array.length_toList] at this
  rw [← this]
  constructor
  ·rintro ⟨f, hf⟩; exact ⟨_, hf, rfl⟩
  ·rintro ⟨p, hp, rfl⟩; exact ⟨p.2, hp⟩
 have hsorted : l.Pairwise fun p q => p.1 < q.1 := by
  have : (l.map (·.1)).Pairwise (· < ·) := by rw [h3]; exact List.pairwise_lt_range' ..
  exact List.pairwise_map.1 this
 have := sim_any (ro := ro) (m := n) (t := t) (fl := fl) (Q := Q) (ops := ops.toList) (bf := befores ops.toList []) hO (fun i o ho p hp => by
  have h := befores_at (acc := []) he i o ho
  simp only [List.length_nil, Nat.zero_add] at h
  rw [h] at hp
  exact mem_uniq.1 hp) (fun i o ho e hm => by simpa using edges_lt he i o ho e hm)
  ops.size l (Array.replicate ops.size false) st E a { w with drawn := w.drawn + 1 } hlen ⟨by simp, fun j => ?_, hsorted, h5, fun j hj => ?_⟩ h2 Rl fun E' a' w' D1 R1 P1 O1 => T E' t a' w' h1 D1 R1 P1 ⟨O1.os, O1.tape, O1.output⟩
 ·simpa using this
 ·rw [hidx]
  rw [Array.getElem?_replicate]
  split <;> simp_all
 ·rw [Array.getElem?_replicate] at hj
  split at hj <;> simp at hj
end
end Go.Su

/-
 THE DATA MACHINE, part 24a: what a loop over an iterator leaves as it was.
-/
namespace Go.Su
def Marks (n : Nat) (E : Env) (h : Heap) (ms : List Deferred) : Prop :=
 (∀ m ∈ ms, ∃ D, m = { target := .collected D, args := #[] } ∧ h[D]? = some (.deferred (some [])) ∧ E.O D 0 = .other ∧ n ≤ D) ∧ ms.Pairwise (· ≠ ·)
theorem Marks.nil {n : Nat} {E : Env} {h : Heap} : Marks n E h [] := ⟨fun _ hm => (by cases hm), .nil⟩
theorem Pr.otherBlk {E E' : Env} {h h' : Heap} (P : Pr Ours E h E' h') {b : Nat} {ob : Obj} (hb : h[b]? = some ob) (hc : ob.isCells = false) (ho : E.O b 0 = .other) : h'[b]? = some ob := by
 have hlt := (Array.getElem?_eq_some_iff.1 hb).1
 have hk := P.blk b hlt
 rw [hb] at hk
 unfold KeepBlk at hk
 split at hk
 ·rename_i hx; cases hx
 ·rename_i hx
  simp only [Option.some.injEq] at hx
  subst hx
  simp [Obj.isCells] at hc
 ·rename_i ob' _ hx
  simp only [Option.some.injEq] at hx
  subst hx
  exact hk (by rw [ho]; simp [Ours])
theorem Pr.otherTag {E E' : Env} {h h' : Heap} (P : Pr Ours E h E' h') {b o : Nat} (hb : b < h.size) (ho : E.O b o = .other) : E'.O b o = .other := by
 rw [P.tags b o hb (by rw [ho]; simp [Ours]), ho]
theorem Marks.mono {n : Nat} {E E' : Env} {h h' : Heap} {ms : List Deferred} (H : Marks n E h ms) (P : Pr Ours E h E' h') : Marks n E' h' ms := ⟨fun m hm => by
 obtain ⟨D, h1, h2, h3, h4⟩ := H.1 m hm
 exact ⟨D, h1, P.otherBlk h2 rfl h3, P.otherTag (Array.getElem?_eq_some_iff.1 h2).1 h3, h4⟩, H.2⟩
theorem Marks.append {n : Nat} {E E0 : Env} {h h0 : Heap} {ms ns : List Deferred} (H : Marks h0.size E h ns) (K0 : Marks n E0 h0 ms) (P : Pr Ours E0 h0 E h) (hn : n ≤ h0.size) : Marks n E h (ns ++ ms) := by
 have K := K0.mono P
 refine ⟨fun m hm => ?_, List.pairwise_append.2 ⟨H.2, K.2, fun x hx y hy he => ?_⟩⟩
 ·rcases List.mem_append.1 hm with h1 | h1
  ·obtain ⟨D, h1, h2, h3, h4⟩ := H.1 m h1
   exact ⟨D, h1, h2, h3, Nat.le_trans hn h4⟩
  ·exact K.1 m h1
 ·obtain ⟨D, h1, -, -, h4⟩ := H.1 x hx
  obtain ⟨D', k1, k2, -⟩ := K0.1 y hy
  have := (Array.getElem?_eq_some_iff.1 k2).1
  rw [h1, k1] at he
  simp only [Deferred.mk.injEq, Target.collected.injEq, and_true] at he
  omega
theorem Pr.swap {ch : Tag → Prop} {E E' : Env} {h h' : Heap} {l : Nat} {x y : Obj} (P : Pr ch E (h.setIfInBounds l x) E' h') (hy : h[l]? = some y) : Pr ch E h E' (h'.setIfInBounds l y) := by
 have hl := (Array.getElem?_eq_some_iff.1 hy).1
 have hs : h.size ≤ h'.size := by have := P.size; simpa using this
 refine ⟨by simpa using hs, fun b hb => ?_, fun b o hb hn => P.tags b o (by simpa using hb) hn, P.n, P.objs, P.blks⟩
 by_cases hbl : l = b
 ·subst hbl
  rw [Array.getElem?_setIfInBounds_self_of_lt (by omega), hy]
  exact KeepBlk.refl _ _
 ·have := P.blk b (by simpa using hb)
  rw [Array.getElem?_setIfInBounds_ne hbl] at this
  rw [Array.getElem?_setIfInBounds_ne hbl]
  exact this
theorem Pr.setBehind {ch : Tag → Prop} {E E' : Env} {h h' : Heap} {l : Nat} {x : Obj} (P : Pr ch E h E' h') (hl : h.size ≤ l) : Pr ch E h E' (h'.setIfInBounds l x) := by
 refine ⟨by simpa using P.size, fun b hb => ?_, P.tags, P.n, P.objs, P.blks⟩
 rw [Array.getElem?_setIfInBounds_ne (by omega)]
 exact P.blk b hb
theorem Pr.setOther {E : Env} {h : Heap} {l : Nat} {x y : Obj} (hy : h[l]? = some y) (hc : y.isCells = false) (ho : E.O l 0 = .other) : Pr (fun T => T = .other) E h E (h.setIfInBounds l x) := by
 refine ⟨by simp, fun b hb => ?_, fun _ _ _ _ => rfl, Nat.le_refl _, fun _ _ => ⟨rfl, rfl, rfl⟩, fun _ _ => rfl⟩
 by_cases hbl : l = b
 ·subst hbl
  rw [hy]
  unfold KeepBlk
  split
  ·trivial
  ·rename_i hx
   simp only [Option.some.injEq] at hx
   subst hx
   simp [Obj.isCells] at hc
  ·exact fun h0 => absurd ho h0
 ·rw [Array.getElem?_setIfInBounds_ne hbl]
  exact KeepBlk.refl _ _
section
variable {E E' : Env} {st : St} {a : Act} {h h' : Heap}
theorem Rel.others (Rl : Rel E st a h) (P : Pr (fun T => T = .other) E h E' h') (hn : E'.n = E.n) (hf : ∀ b o, h'.size ≤ b → E'.O b o = .other) : Rel E' st a h' := by
 have hle := P.shut (by simp) Rl.fresh
 exact ⟨Rl.size, Rl.mlen, Rl.blen, by rw [hn]; exact Rl.n, fun t v hv => (Rl.regs t v hv).mono P hle (by simp) (by simp), fun s cs hs => by rw [P.blks s (by simp)]; exact (Rl.boxes s cs hs).mono P hle (by simp) (by simp),
  fun i ob hi => (Rl.objs i ob hi).mono P hle (by rw [← Rl.n]; exact (List.getElem?_eq_some_iff.1 hi).1) (by simp) (by simp), hf⟩
theorem ItLe.pr {n : Nat} {w w' : World} (H : ItLe n E w w') : Pr (fun T => T = .other) E w.heap E w'.heap := by
 refine ⟨H.size, fun b hb => ?_, fun _ _ _ _ => rfl, Nat.le_refl _, fun _ _ => ⟨rfl, rfl, rfl⟩, fun _ _ => rfl⟩
 rcases H.blk b hb with h1 | ⟨-, ⟨c, T, f, c', h1, h2, h3⟩, h4⟩
 ·rw [h1]; exact KeepBlk.refl _ _
 ·rw [h1, h2]
  exact ⟨c', rfl, h3, fun o ho => absurd (h4 o) ho⟩
theorem ItLe.keep {n : Nat} {w w' : World} (H : ItLe n E w w') {b : Nat} {ob : Obj} (hb : w.heap[b]? = some ob) (hc : ob.isCells = false) : w'.heap[b]? = some ob := by
 rcases H.blk b (Array.getElem?_eq_some_iff.1 hb).1 with h1 | ⟨-, ⟨c, T, f, c', h1, h2, h3⟩, h4⟩
 ·rw [h1, hb]
 ·rw [hb] at h1
  simp only [Option.some.injEq] at h1
  subst h1
  simp [Obj.isCells] at hc
theorem ItLe.after {n : Nat} {w w' : World} {E0 : Env} {h0 : Heap} (H : ItLe n E w w') (hn : h0.size ≤ n) (P : Pr Ours E0 h0 E w.heap) : Pr Ours E0 h0 E w'.heap := by
 refine ⟨Nat.le_trans P.size H.size, fun b hb => ?_, P.tags, P.n, P.objs, P.blks⟩
 have := P.blk b hb
 rcases H.blk b (Nat.lt_of_lt_of_le hb P.size) with h1 | ⟨h1, -⟩
 ·rw [h1]; exact this
 ·omega
theorem RR.stay {k t : Nat} {d : DV} {m : Meta} {v : Value} {k' t' : Nat} (R : RR E h k t d m v) (hle : SealLe E.S h E'.S h') (hn : E.n ≤ E'.n) (ho : ∀ i, i < E.n → E'.obj i = E.obj i) :
 RR E' h' k' t' (stayR (d, m)).1 (stayR (d, m)).2 v := by
 cases m <;> simp only [stayR, RR, RM1, RV] at R ⊢
 case val => exact R.mono hle
 case full => exact ⟨R.1.mono hle, R.2⟩
 case own => exact R.1.mono hle
 case ptr i o => exact ⟨Nat.lt_of_lt_of_le R.1 hn, by rw [ho i R.1]; exact R.2⟩
 case nilp => exact R
 case map i => exact ⟨Nat.lt_of_lt_of_le R.1 hn, by rw [ho i R.1]; exact R.2⟩
 case nilm => exact R
 case fn f caps =>
  refine ⟨?_, fun c hc => Nat.lt_of_lt_of_le (R.2 c hc) hn⟩
  rw [R.1]
  congr 2
  refine List.map_congr_left fun c hc => ?_
  rw [ho _ (R.2 c hc)]
theorem outer_get {st : St} {sg : List SObj} (hl : st.mt.length = st.tm.length) (t : Nat) (ht : t < st.tm.length) : (outerSt st sg).get t = stayR (st.get t) := by
 simp only [St.get, outerSt, List.getD_eq_getElem?_getD, List.getElem?_map, List.getElem?_zip_eq_some]
 have h1 : (st.tm.zip st.mt)[t]? = some (st.tm[t], st.mt[t]'(by omega)) := by
  rw [List.getElem?_zip_eq_some]
  exact ⟨List.getElem?_eq_getElem ht, List.getElem?_eq_getElem (by omega)⟩
 rw [h1]
 simp [List.getElem?_eq_getElem ht, List.getElem?_eq_getElem (show t < st.mt.length by omega)]
theorem Rel.outer (Rl : Rel E st a h) {sg : List SObj} (hle : SealLe E.S h E'.S h') (hn : E.n ≤ E'.n) (ho : ∀ i, i < E.n → E'.obj i = E.obj i) (hs : sg.length = E'.n) (hob : ∀ (i : Nat) ob, sg[i]? = some ob → RO E' h' i ob)
 (hf : ∀ b o, h'.size ≤ b → E'.O b o = .other) {ds : List Deferred} : Rel E' (outerSt st sg) { a with defers := ds } h' := by
 have hl := Rl.mlen
 refine ⟨?_, by simp [outerSt, hl], by simp [outerSt, hl, Rl.blen], hs, fun t v hv => ?_, fun s cs hcs => ?_, hob, hf⟩
 ·simp [outerSt, hl]; exact Rl.size
 ·have ht : t < st.tm.length := by rw [← Rl.size]; exact (Array.getElem?_eq_some_iff.1 hv).1
  rw [outer_get hl t ht]
  exact (Rl.regs t v hv).stay hle hn ho
 ·simp only [outerSt, List.getD_eq_getElem?_getD, List.getElem?_map] at hcs
  cases hb : st.bx[s]? <;> rw [hb] at hcs <;> simp at hcs
end
def itTag (i : Nat) : Tag → Tag
 | .other => .other
 | .shut => .shut
 | .priv _ => .other
 | .obj j => if j = i then .other else .obj j
 | .sp k a b => if k = 2 ∧ a ≠ i then .sp k a b else .other
theorem allDat_ok {E : Env} {h : Heap} {k a : Nat} : ∀ {cs : List (DV × Meta)} {cd : List DV} {vs : List Value}, allDat cs = some cd → cs.length = vs.length →
 (∀ (j : Nat) r v, cs[j]? = some r → vs[j]? = some v → isLeaf r.1 = true ∧ v.oneCell' = true ∧ mayLie r.2 = true ∧ ∃ q, RM1 E h (.sp k a q) r.1 r.2 v) → RLs E.S h cd vs
 | [], cd, vs, H, hl, _ => by
   simp only [allDat, Option.some.injEq] at H
   subst H
   simp only [RLs]
   exact List.eq_nil_of_length_eq_zero hl.symm
 | c :: cs, cd, vs, H, hl, hr => by
   simp only [allDat] at H
   obtain ⟨h1, H⟩ := og_some H
   obtain ⟨ds, h2, H⟩ := ob_some H
   simp only [Option.some.injEq] at H
   subst H
   cases vs with
   | nil => simp at hl
   | cons v vs =>
     obtain ⟨a1, a2, a3, q, a4⟩ := hr 0 c v rfl rfl
     simp only [RLs]
     refine ⟨v, vs, rfl, a1, RC_of_RV a1 a2 ?_, allDat_ok h2 (by simpa using hl) fun j r u hj hu => hr (j + 1) r u (by simpa using hj) (by simpa using hu)⟩
     revert a4 h1
     cases c.2 <;> simp only [RM1] <;> intro h1 a4 <;> first | exact a4 | exact a4.1 | (simp at h1)
end Go.Su

/-
 THE DATA MACHINE, part 25: code.
-/
namespace Go.Su
def Out.toExit : Out → Exit
 | .normal => .normal
 | .exit i => .exit i
 | .ret => .ret
theorem keepL_get {α : Type} {ts : List Nat} {d : α} : ∀ {l : List α} {i j : Nat}, (keepL ts d i l)[j]? = (l[j]?).map fun y => if ts.contains (i + j) then y else d
 | [], i, j => by simp [keepL]
 | y :: l, i, 0 => by simp [keepL]
 | y :: l, i, j + 1 => by
   simp only [keepL, List.getElem?_cons_succ]
   rw [keepL_get, show i + 1 + j = i + (j + 1) by omega]
theorem keepL_length {α : Type} {ts : List Nat} {d : α} : ∀ {l : List α} {i : Nat}, (keepL ts d i l).length = l.length
 | [], i => rfl
 | y :: l, i => by simp [keepL, keepL_length]
theorem ownL_get {α : Type} {f : α → α} {ts : List Nat} : ∀ {l : List α} {i j : Nat}, (ownL f ts i l)[j]? = (l[j]?).map fun y => if ts.contains (i + j) then f y else y
 | [], i, j => by simp [ownL]
 | y :: l, i, 0 => by simp [ownL]
 | y :: l, i, j + 1 => by
   simp only [ownL, List.getElem?_cons_succ]
   rw [ownL_get, show i + 1 + j = i + (j + 1) by omega]
theorem ownL_length {α : Type} {f : α → α} {ts : List Nat} : ∀ {l : List α} {i : Nat}, (ownL f ts i l).length = l.length
 | [], i => rfl
 | y :: l, i => by simp [ownL, ownL_length]
theorem own_of_full {E : Env} {h : Heap} {tg : Tag} {d : DV} {v : Value} (H : RM1 E h tg d .full v) : RM1 E h tg d .own v := by
 obtain ⟨g1, ⟨a1, n1, g2⟩, sz, ds, g3⟩ := H
 refine ⟨g1, sz, ds, g3, fun x len cap hx hlt => ?_⟩
 rw [g2] at hx
 simp only [Value.slice.injEq] at hx
 omega
theorem toOwn_rm {E : Env} {h : Heap} {tg : Tag} {d : DV} {m : Meta} {v : Value} (H : RM1 E h tg d m v) : RM1 E h tg d (toOwn m) v := by
 cases m <;> first | exact own_of_full H | exact H
theorem toOwn_rr {E : Env} {h : Heap} {k a : Nat} {d : DV} {m : Meta} {v : Value} (H : RR E h k a d m v) : RR E h k a d (toOwn m) v := by
 cases m <;> first | exact own_of_full H | exact H
theorem toOwn_lie {m : Meta} (H : mayLie m = true) : mayLie (toOwn m) = true := by
 cases m <;> first | rfl | exact H
theorem toVal_rm {E : Env} {h : Heap} {tg : Tag} {d : DV} {m : Meta} {v : Value} (H : RM1 E h tg d m v) : RM1 E h tg d (toVal m) v := by
 unfold toVal
 split
 ·rename_i hd
  cases m <;> first | exact H | exact H.1 | (simp [isData] at hd; done) | exact H.elim
 ·exact H
theorem toVal_rr {E : Env} {h : Heap} {k a : Nat} {d : DV} {m : Meta} {v : Value} (H : RR E h k a d m v) : RR E h k a d (toVal m) v := by
 unfold toVal
 split
 ·rename_i hd
  exact RR.val (RR.data hd H)
 ·exact H
theorem toVal_lie {m : Meta} (H : mayLie m = true) : mayLie (toVal m) = true := by
 unfold toVal
 split
 ·rfl
 ·exact H
theorem Rel.keep {E : Env} {st : St} {a : Act} {h : Heap} (R : Rel E st a h) (ts bs os vs : List Nat) : Rel E (st.keep ts bs os vs) a h := by
 refine ⟨by simp only [St.keep, keepL_length]; exact R.size, by simp only [St.keep, keepL_length, ownL_length]; exact R.mlen, by simp only [St.keep, keepL_length, ownL_length]; exact R.blen, R.n, fun t v hv => ?_, fun s cs hs => ?_, R.objs, R.fresh⟩
 ·have ht : t < st.tm.length := by rw [← R.size]; exact (Array.getElem?_eq_some_iff.1 hv).1
  have ht' : t < st.mt.length := by rw [R.mlen]; exact ht
  have h0 := R.regs t v hv
  by_cases hc : ts.contains t = true
  ·have : (st.keep ts bs os vs).get t = ((st.get t).1, (fun m => if vs.contains t then toVal m else m) ((fun m => if os.contains t then toOwn m else m) (st.get t).2)) := by
    simp only [St.get, St.keep, List.getD_eq_getElem?_getD, keepL_get, ownL_get, Nat.zero_add, hc, if_true, Option.map_id', List.getElem?_eq_getElem ht']
    rfl
   rw [this]
   have h1 : RR E h 0 t (st.get t).1 ((fun m => if os.contains t then toOwn m else m) (st.get t).2) v := by
    simp only
    split
    ·exact toOwn_rr h0
    ·exact h0
   simp only at h1 ⊢
   split
   ·exact toVal_rr h1
   ·exact h1
  ·have : (st.keep ts bs os vs).get t = (.undef, .val) := by
    simp only [St.get, St.keep, List.getD_eq_getElem?_getD, keepL_get, ownL_get, Nat.zero_add, hc, List.getElem?_eq_getElem ht, List.getElem?_eq_getElem ht', Option.map_some, Option.getD_some]
    simp only [Bool.false_eq_true, if_false, toOwn, toVal, isData, ite_self]
   rw [this]
   simp only [RR, RM1, RV]
 ·simp only [St.keep, List.getD_eq_getElem?_getD, keepL_get, ownL_get, Nat.zero_add] at hs ⊢
  cases hb : st.bx[s]? with
  | none => rw [hb] at hs; simp at hs
  | some y =>
    rw [hb] at hs
    simp only [Option.map_some, Option.getD_some] at hs ⊢
    by_cases hc : bs.contains s = true
    ·simp only [hc, if_true] at hs
     have old : ∀ cs', y = some cs' → RBox E h (.priv s) 1 s (E.blk s) cs' := fun cs' hy => R.boxes s cs' (by simp only [List.getD_eq_getElem?_getD, hb, Option.getD_some, hy])
     have step1 : ∀ cs', (if os.contains s = true then ownCells y else y) = some cs' → RBox E h (.priv s) 1 s (E.blk s) cs' := by
      intro cs hs
      by_cases ho : os.contains s = true
      ·simp only [ho, if_true] at hs
       cases y with
       | none => simp [ownCells] at hs
       | some cs' =>
         simp only [ownCells, Option.some.injEq] at hs
         subst hs
         obtain ⟨c, T, h1, h2, h3, h4⟩ := old cs' rfl
         refine ⟨c, T, h1, by simpa using h2, h3, fun j r v hr hv => ?_⟩
         simp only [List.getElem?_map, Option.map_eq_some_iff] at hr
         obtain ⟨r0, hr0, rfl⟩ := hr
         obtain ⟨k1, k2, k3, k4⟩ := h4 j r0 v hr0 hv
         exact ⟨k1, k2, toOwn_lie k3, toOwn_rm k4⟩
      ·simp only [ho, Bool.false_eq_true, if_false] at hs
       exact old cs hs
     by_cases hv : vs.contains s = true
     ·simp only [hv, if_true] at hs
      generalize (if os.contains s = true then ownCells y else y) = z at hs step1
      cases z with
      | none => simp [valCells] at hs
      | some cs' =>
        simp only [valCells, Option.some.injEq] at hs
        subst hs
        obtain ⟨c, T, h1, h2, h3, h4⟩ := step1 cs' rfl
        refine ⟨c, T, h1, by simpa using h2, h3, fun j r v hr hv => ?_⟩
        simp only [List.getElem?_map, Option.map_eq_some_iff] at hr
        obtain ⟨r0, hr0, rfl⟩ := hr
        obtain ⟨k1, k2, k3, k4⟩ := h4 j r0 v hr0 hv
        exact ⟨k1, k2, toVal_lie k3, toVal_rm k4⟩
     ·simp only [hv, Bool.false_eq_true, if_false] at hs
      exact step1 cs hs
    ·simp only [hc, Bool.false_eq_true, if_false] at hs
     split at hs <;> split at hs <;> simp [ownCells, valCells] at hs
theorem Rel.keepAt {E : Env} {st : St} {a : Act} {h : Heap} (R : Rel E st a h) (fl : Flags) (id : Nat) : Rel E (keepAt fl id st) a h := by
 unfold Su.keepAt
 split
 ·exact R.keep _ _ _ _
 ·exact R
theorem Rel.clean {E : Env} {st : St} {a : Act} {h : Heap} (R : Rel E st a h) (fl : Flags) (c : Code) : Rel E (clean fl c st) a h := by
 unfold Su.clean
 split
 ·exact R.keepAt fl _
 ·exact R
theorem loopL_some {S X : Type} {F : (S → Option X) → S → Option X} {s : S} {x : X} (H : loopL F s = some x) : ∃ n, iter F n s = some x := by
 unfold loopL at H
 split at H
 ·rename_i h
  simp only [Option.some.injEq] at H
  obtain ⟨n, hn⟩ := h.choose_spec
  rw [H] at hn
  exact ⟨n, hn⟩
 ·cases H
section
variable {X : Type} {C : Cfg} {R : Orc} {fl : Flags}
theorem evItr_some {C : Cfg} {st : St} {g : Operand} {ps : Array Nat} {pl : Bool} {fin : St → Option X} {step : Nat → DV → (List SObj → Option X) → List SObj → Option X} {x : X} (H : evItr C st g ps pl fin step = some x) :
 ∃ t p f i it cs cd ds, g = .tmp t ∧ ps.toList = [p] ∧ (st.get t).2 = .fn f [(i, 0)] ∧ C.iter f = some it ∧ sgBox st.sg i = some cs ∧ allDat cs = some cd ∧ it cd = some ds ∧ pl = true ∧
   foldIt (step p) (fun sg => fin (outerSt st sg)) ds (st.sg.set i (.arr 1 [])) = some x := by
 unfold evItr at H
 split at H
 ·rename_i t p hp
  split at H
  ·rename_i f i hm
   obtain ⟨it, h1, H⟩ := ob_some H
   obtain ⟨cs, h2, H⟩ := ob_some H
   obtain ⟨cd, h3, H⟩ := ob_some H
   obtain ⟨ds, h4, H⟩ := ob_some H
   obtain ⟨h5, H⟩ := og_some H
   exact ⟨t, p, f, i, it, cs, cd, ds, rfl, hp, hm, h1, h2, h3, h4, h5, H⟩
  ·cases H
 ·cases H
theorem evItr_mk {C : Cfg} {st : St} {ps : Array Nat} {fin : St → Option X} {step : Nat → DV → (List SObj → Option X) → List SObj → Option X} {t p f i : Nat} {it : List DV → Option (List DV)} {cs : List (DV × Meta)} {cd ds : List DV}
 (hp : ps.toList = [p]) (hm : (st.get t).2 = .fn f [(i, 0)]) (h1 : C.iter f = some it) (h2 : sgBox st.sg i = some cs) (h3 : allDat cs = some cd) (h4 : it cd = some ds) :
 evItr C st (.tmp t) ps true fin step = foldIt (step p) (fun sg => fin (outerSt st sg)) ds (st.sg.set i (.arr 1 [])) := by
 unfold evItr
 simp only [hp, hm, h1, h2, h3, h4, ob, og]
theorem foldIt_drop {step : DV → (List SObj → Option X) → List SObj → Option X} {fin : List SObj → Option X} {ds : List DV} {k : Nat} {d : DV} (h : ds[k]? = some d) (sg : List SObj) :
 foldIt step fin (ds.drop k) sg = step d (foldIt step fin (ds.drop (k + 1))) sg := by
 obtain ⟨hk, h⟩ := List.getElem?_eq_some_iff.1 h
 rw [List.drop_eq_getElem_cons hk, h]
 rfl
def Left (c : Code) (n : Nat) (E : Env) (h : Heap) (ds ds' : List Deferred) : Prop := ∃ ms, ds' = ms ++ ds ∧ Marks n E h ms ∧ (plainC c = true → ms = [])
theorem Left.same {c : Code} {n : Nat} {E : Env} {h : Heap} {ds ds' : List Deferred} (e : ds' = ds) : Left c n E h ds ds' := ⟨[], e, Marks.nil, fun _ => rfl⟩
theorem Left.plain {c : Code} {n : Nat} {E : Env} {h : Heap} {ds ds' : List Deferred} (L : Left c n E h ds ds') (hp : plainC c = true) : ds' = ds := by
 obtain ⟨ms, h1, -, h2⟩ := L
 rw [h1, h2 hp]; rfl
theorem isReg_plain {c : Code} (h : isReg c = true) : plainC c = true := by
 unfold isReg at h
 split at h
 ·rfl
 ·rfl
 ·cases h
set_option maxHeartbeats 1000000 in
theorem sim_code (hm : C.P.follows .mixedOrders = true) (hO : OrcOk C R) : ∀ (c : Code) {ro : Option Nat} {n : Nat} {K : Out → St → Option X} {st : St} {x : X} {E : Env} {a : Act} {w : World} {Q : Exit → Act → World → Prop}, (ro = none ∨ plainC c = true) → evK C R fl c K st = some x → Rel E st a w.heap →
 (∀ out E' st' a' w', K out st' = some x → Left c w.heap.size E' w'.heap a.defers a'.defers → Rel E' st' a' w'.heap → Pr Ours E w.heap E' w'.heap → Outer w w' → Q out.toExit a' w') → c.wpIn (rnd ro) n C.P Q a w := by
 intro c
 induction c with
 | skip =>
   intro ro n K st x E a w Q hro H Rl T
   exact wpIn_skip (T .normal E st a w H (Left.same rfl) Rl (Pr.refl _ _ _) (Outer.refl _))
 | region id ops d =>
   intro ro n K st x E a w Q hro H Rl T
   cases d
   ·exact sim_region hO H (Rl.keepAt fl id) fun E' t a' w' h1 h0 h2 h3 h4 => by
     obtain ⟨E2, t2, k1, k2, k3⟩ := closeAt_ok h1 h2
     exact T .normal E2 t2 a' w' k1 (Left.same h0) k2 (h3.trans k3) h4
   ·simp only [evK, forceNss_eq] at H
    exact sim_draw hm hO H (Rl.keepAt fl id) fun E' t a' w' h1 h0 h2 h3 h4 => by
     obtain ⟨E2, t2, k1, k2, k3⟩ := closeAt_ok h1 h2
     exact T .normal E2 t2 a' w' k1 (Left.same h0) k2 (h3.trans k3) h4
 | seq c d ihc ihd =>
   intro ro n K st x E a w Q hro H Rl T
   have hp : plainC (.seq c d) = true → plainC c = true ∧ plainC d = true := fun h => by simpa [plainC] using h
   refine wpIn_seq (ihc (hro.imp id fun h => (hp h).1) H Rl fun out E' st' a' w' h1 h0 h2 h3 h4 => ?_)
   obtain ⟨ms, q1, q2, q3⟩ := h0
   cases out with
   | normal =>
     refine ihd (hro.imp id fun h => (hp h).2) h1 (h2.clean fl d) fun out E2 st2 a2 w2 k1 k0 k2 k3 k4 => T out E2 st2 a2 w2 k1 ?_ k2 (h3.trans k3) (h4.trans k4)
     obtain ⟨ns, p1, p2, p3⟩ := k0
     exact ⟨ns ++ ms, by rw [p1, q1, List.append_assoc], p2.append q2 k3 h3.size, fun h => by rw [p3 (hp h).2, q3 (hp h).1]; rfl⟩
   | exit i => exact T (.exit i) E' st' a' w' h1 ⟨ms, q1, q2, fun h => q3 (hp h).1⟩ h2 h3 h4
   | ret => exact T .ret E' st' a' w' h1 ⟨ms, q1, q2, fun h => q3 (hp h).1⟩ h2 h3 h4
 | cond y c d ihc ihd =>
   intro ro n K st x E a w Q hro H Rl T
   have hp : plainC (.cond y c d) = true → plainC c = true ∧ plainC d = true := fun h => by simpa [plainC] using h
   simp only [evK, evCond] at H
   obtain ⟨r, h1, H⟩ := ob_some H
   obtain ⟨h2, H⟩ := og_some H
   have e1 := (Rl.src h1).data h2
   have fin : (r.1 = .bool true ∧ evK C R fl c K (Su.clean fl c st) = some x) ∨ (r.1 = .bool false ∧ evK C R fl d K (Su.clean fl d st) = some x) := by
    cases y with
    | tmp t =>
      simp only [src, Option.some.injEq] at h1
      subst h1
      simp only at H
      rcases oif_some H with ⟨h3, h4⟩ | ⟨h3, h4⟩
      ·rw [know_self h3 (by simp)] at h4
       exact .inl ⟨h3, h4⟩
      ·rw [know_self h3 (by simp)] at h4
       exact .inr ⟨h3, h4⟩
    | _ => exact oif_some H
   rcases fin with ⟨h3, h4⟩ | ⟨h3, h4⟩
   ·rw [h3] at e1
    simp only [RV] at e1
    exact wpIn_cond_true e1 (ihc (hro.imp id fun h => (hp h).1) h4 (Rl.clean fl c) fun out E' st' a' w' h1 ⟨ms, q1, q2, q3⟩ h2 h3 h4 => T out E' st' a' w' h1 ⟨ms, q1, q2, fun h => q3 (hp h).1⟩ h2 h3 h4)
   ·rw [h3] at e1
    simp only [RV] at e1
    exact wpIn_cond_false e1 (ihd (hro.imp id fun h => (hp h).2) h4 (Rl.clean fl d) fun out E' st' a' w' h1 ⟨ms, q1, q2, q3⟩ h2 h3 h4 => T out E' st' a' w' h1 ⟨ms, q1, q2, fun h => q3 (hp h).2⟩ h2 h3 h4)
 | block id c ih =>
   intro ro n K st x E a w Q hro H Rl T
   refine wpIn_block (ih hro H Rl fun out E' st' a' w' h1 h0 h2 h3 h4 => ?_)
   cases out with
   | normal => exact T .normal E' st' a' w' h1 h0 h2 h3 h4
   | exit i =>
     simp only [Out.toExit, Exit.inBlock]
     have h1 : (if i = id then K .normal st' else K (.exit i) st') = some x := h1
     by_cases hi : i = id
     ·rw [if_pos hi] at h1 ⊢
      exact T .normal E' st' a' w' h1 h0 h2 h3 h4
     ·rw [if_neg hi] at h1 ⊢
      exact T (.exit i) E' st' a' w' h1 h0 h2 h3 h4
   | ret => exact T .ret E' st' a' w' h1 h0 h2 h3 h4
 | loop c ih =>
   intro ro n K st x E a w Q hro H Rl T
   simp only [evK] at H
   obtain ⟨m, H9⟩ := loopL_some H
   refine wpIn_loop_rounds m ?_
   clear H
   have Rl9 := Rl.clean fl c
   clear Rl
   generalize Su.clean fl c st = st9 at H9 Rl9
   clear st
   induction m generalizing st9 E a w with
   | zero => simp [iter] at H9
   | succ m ihn =>
     rw [roundsIn_succ]
     simp only [iter] at H9
     refine ih hro H9 Rl9 fun out E' st' a' w' h1 h0 h2 h3 h4 => ?_
     obtain ⟨ms, q1, q2, q3⟩ := h0
     cases out with
     | normal =>
       refine ihn (fun out E2 st2 a2 w2 k1 k0 k2 k3 k4 => T out E2 st2 a2 w2 k1 ?_ k2 (h3.trans k3) (h4.trans k4)) _ h1 (h2.clean fl c)
       obtain ⟨ns, p1, p2, p3⟩ := k0
       exact ⟨ns ++ ms, by rw [p1, q1, List.append_assoc], p2.append q2 k3 h3.size, fun h => by rw [p3 h, q3 h]; rfl⟩
     | exit i => exact T (.exit i) E' st' a' w' h1 ⟨ms, q1, q2, q3⟩ h2 h3 h4
     | ret => exact T .ret E' st' a' w' h1 ⟨ms, q1, q2, q3⟩ h2 h3 h4
 | exit id =>
   intro ro n K st x E a w Q hro H Rl T
   exact wpIn_exit (T (.exit id) E st a w H (Left.same rfl) Rl (Pr.refl _ _ _) (Outer.refl _))
 | ret =>
   intro ro n K st x E a w Q hro H Rl T
   exact wpIn_ret (T .ret E st a w H (Left.same rfl) Rl (Pr.refl _ _ _) (Outer.refl _))
 | rangeFunc g ps assign body iha ihb =>
   intro ro n K st x E a w Q hro H Rl T
   obtain rfl : ro = none := by
    rcases hro with h | h
    ·exact h
    ·simp [plainC] at h
   obtain ⟨t, p, f, i, it, cs, cd, ds, rfl, hps, hmt, hit, hbx, hcd, hds, hpl, H⟩ := evItr_some H
   simp only [Bool.and_eq_true] at hpl
   obtain ⟨hra, hpb⟩ := hpl
   have hpa := isReg_plain hra
   have hfn := Rl.src (P := C.P) (t := 0) (x := .tmp t) rfl
   rw [hmt] at hfn
   simp only [RR, RM1] at hfn
   obtain ⟨hfv, hfi⟩ := hfn
   have hin : i < E.n := hfi (i, 0) (by simp)
   have hsi : st.sg[i]? = some (.box cs) := by
    unfold sgBox at hbx
    split at hbx
    ·rename_i h; simp only [Option.some.injEq] at hbx; subst hbx; exact h
    ·cases hbx
   have hRO := Rl.objs i _ hsi
   simp only [RO] at hRO
   obtain ⟨c, T0, b1, b2, b3, b4⟩ := hRO
   have hRLs : RLs E.S w.heap cd c.toList := allDat_ok (k := 2) (a := i) hcd (by simp [b2]) fun j r v hr hv => by
    obtain ⟨a1, a2, a3, a4⟩ := b4 j r v hr (by simpa using hv)
    exact ⟨a1, a2, a3, j, a4⟩
   let E1 := E.re (itTag i)
   have hS1 : SealLe E.S w.heap E1.S w.heap := re_le rfl
   have P01 : Pr Ours E w.heap E1 w.heap := Pr.re fun T hT => by
    cases T <;> simp [Ours] at hT <;> rfl
   have hob1 : ∀ (j : Nat) ob, (st.sg.set i (.arr 1 []))[j]? = some ob → RO E1 w.heap j ob := by
    intro j ob hj
    by_cases hij : i = j
    ·subst hij
     rw [List.getElem?_set_self (List.getElem?_eq_some_iff.1 hsi).1] at hj
     simp only [Option.some.injEq] at hj
     subst hj
     simp [RO]
    ·rw [List.getElem?_set_ne hij] at hj
     have hji : ¬ j = i := fun h => hij h.symm
     refine (Rl.objs j ob hj).to (E := E) ⟨fun b o h => by simp only [E1, Env.re]; rw [h]; rfl, fun b o h => by simp only [E1, Env.re]; rw [h]; simp [itTag, hji], rfl, rfl, rfl, rfl⟩ fun q b o h => by
      simp only [E1, Env.re]; rw [h]; simp [itTag, hji]
   have hboth : ∀ o, o < c.size → E1.O (E.obj i) o = .other := by
    intro o ho
    simp only [E1, Env.re]
    rcases b3 o with h | h
    ·rw [h]; simp [itTag]
    ·omega
   refine wpIn_rangeFunc fun fn _ => ?_
   obtain ⟨rec, hrec⟩ : ∃ rec : LoopState → Option Code → Loop, rec = fun st pe => { state := st, pending := pe, fn, tmps := a.tmps, params := ps, assign, body, defers := w.heap.size } := ⟨_, rfl⟩
   obtain ⟨W1, hW1⟩ : ∃ W1, (w.alloc (.deferred (some []))).alloc (.loop (rec .ready none)) = W1 := ⟨_, rfl⟩
   have hsz1 : W1.heap.size = w.heap.size + 2 := by rw [← hW1]; simp
   have hL1 : W1.heap[w.heap.size + 1]? = some (.loop (rec .ready none)) := by
    rw [← hW1]; have := World.alloc_heap_new (w.alloc (.deferred (some []))) (.loop (rec .ready none)); rwa [World.size_alloc] at this
   have hK1 : W1.heap[w.heap.size]? = some (.deferred (some [])) := by
    rw [← hW1]; exact (Go.RowKit.Below.heap_alloc _ _ _ (by simp)).trans (World.alloc_heap_new w _)
   have P1 : Pr (fun _ => False) E1 w.heap E1 W1.heap := by
    rw [← hW1]
    exact (Pr.push (fun _ _ _ _ => rfl) (Nat.le_refl _) (fun _ _ => ⟨rfl, rfl, rfl⟩) (fun _ _ => rfl)).trans (Pr.push (fun _ _ _ _ => rfl) (Nat.le_refl _) (fun _ _ => ⟨rfl, rfl, rfl⟩) (fun _ _ => rfl))
   have hfr1 : ∀ b o, w.heap.size ≤ b → E1.O b o = .other := fun b o hb => by simp only [E1, Env.re]; rw [Rl.fresh b o hb]; rfl
   have hle1 : SealLe E1.S w.heap E1.S W1.heap := P1.shut (by simp) hfr1
   have hout1 : Outer w W1 := by rw [← hW1]; exact ⟨rfl, rfl, rfl⟩
   refine ⟨w.heap.size + 1, [{ target := .collected w.heap.size, args := #[] }], W1, { target := .fn (.func f) #[.pointer (some ⟨E.obj i, 0, none⟩)], args := #[.func (.yield (w.heap.size + 1)) #[] #[]] }, W1, f,
    #[.func (.yield (w.heap.size + 1)) #[] #[], .pointer (some ⟨E.obj i, 0, none⟩)], W1, ?_, ?_, fun _ _ => trivial, ?_, fun h => (by cases h), ?_⟩
   ·rw [← hW1, hrec]; exact run_enterLoop_outer _ _ _ _ _
   ·simp only [resolve, hfv]
    simp [go_sem]
   ·have := run_callFunc (hO.i f it hit).1 #[.func (.yield (w.heap.size + 1)) #[] #[], .pointer (some ⟨E.obj i, 0, none⟩)] W1
    simpa [invoke, go_sem] using this
   let step : DV → (List SObj → Option X) → List SObj → Option X := fun d J sg =>
    evK C R fl assign (fun o st1 => match o with
     | .normal => evK C R fl body (fun o st2 => match o with
       | .normal => J st2.sg
       | .exit e => K (.exit e) (outerSt st st2.sg)
       | .ret => K .ret (outerSt st st2.sg)) (Su.clean fl body st1)
     | .exit _ => none
     | .ret => none) (Su.clean fl assign (roundSt st p d sg))
   let fin : List SObj → Option X := fun sg => K .normal (outerSt st sg)
   have H : foldIt step fin ds (st.sg.set i (.arr 1 [])) = some x := H
   let Good : Env → World → List SObj → Prop := fun E' W sg => sg.length = E'.n ∧ (∀ (j : Nat) ob, sg[j]? = some ob → RO E' W.heap j ob) ∧ (∀ b o, W.heap.size ≤ b → E'.O b o = .other) ∧ Pr Ours E1 w.heap E' W.heap ∧ Outer w W ∧
    W.heap[w.heap.size]? = some (.deferred (some [])) ∧ E'.O w.heap.size 0 = .other ∧ E'.O (w.heap.size + 1) 0 = .other
   let J : Nat → Env → World → Prop := fun k E' W => ∃ sg, foldIt step fin (ds.drop k) sg = some x ∧ Good E' W sg ∧ W.heap[w.heap.size + 1]? = some (.loop (rec .ready none))
   let Jx : World → Prop := fun W => ∃ (out : Out) (cd : Code) (E' : Env) (sg : List SObj), ((out = .ret ∧ cd = .ret) ∨ ∃ e, out = .exit e ∧ cd = .exit e) ∧ K out (outerSt st sg) = some x ∧ Good E' W sg ∧ W.heap[w.heap.size + 1]? = some (.loop (rec .done (some cd)))
   have behind : ∀ E' W sg (dl : List Deferred), Good E' W sg → Rel E' (outerSt st sg) { a with defers := dl } W.heap := by
    intro E' W sg dl ⟨g1, g2, g3, g4, g5, g6, g7, g8⟩
    have hle : SealLe E.S w.heap E'.S W.heap := by
     have h2 := g4.shut (by simp [Ours]) hfr1
     exact ⟨fun b o hs => h2.s b o (hS1.s b o hs), fun b o v hs hv => h2.c b o v (hS1.s b o hs) hv⟩
    exact Rl.outer hle g4.n (fun j hj => (g4.objs j hj).1) g1 g2 g3
   have goodPut : ∀ E' W sg (o : Obj) (o' : Obj), Good E' W sg → W.heap[w.heap.size + 1]? = some o → o.isCells = false → Good E' (W.putObj (w.heap.size + 1) o') sg := by
    intro E' W sg o o' ⟨g1, g2, g3, g4, g5, g6, g7, g8⟩ ho hc
    have Pp : Pr (fun T => T = .other) E' W.heap E' (W.putObj (w.heap.size + 1) o').heap := Pr.setOther ho hc g8
    have hle := Pp.shut (by simp) g3
    refine ⟨g1, fun j ob hj => (g2 j ob hj).mono Pp hle (by rw [← g1]; exact (List.getElem?_eq_some_iff.1 hj).1) (by simp) (by simp), fun b o hb => g3 b o (by simpa using hb), g4.setBehind (by omega), ⟨g5.os, g5.tape, g5.output⟩, ?_, g7, g8⟩
    exact (World.putObj_heap_other (by omega)).trans g6
   have hbW1 : W1.heap[E.obj i]? = some (.cells c T0 (0, 0)) := by
    have hlt := (Array.getElem?_eq_some_iff.1 b1).1
    rw [← hW1]
    exact (Go.RowKit.Below.heap_alloc _ _ _ (by simp; omega)).trans ((Go.RowKit.Below.heap_alloc _ _ _ hlt).trans b1)
   have key := (hO.i f it hit).2 cd ds hds (n - 1) (w.heap.size + 1) (E.obj i) c T0 J Jx E1 W1 hbW1 hboth (RLs.mono ⟨fun b o hs => hle1.s b o (hS1.s b o hs), fun b o v hs hv => hle1.c b o v (hS1.s b o hs) hv⟩ _ hRLs)
    (fun k E' W' ⟨sg, _, g, _⟩ => g.2.2.1) ?_ ?_ ?_
   ·refine CallsIn.mono key ?_
    rintro e W2 ⟨⟨v, rfl⟩, ⟨E', sg, h1, g, hl⟩ | ⟨out, cd, E', sg, ho, h1, g, hl⟩⟩
    ·-- all have come
     have g' := goodPut E' W2 sg _ (.loop { rec .ready none with state := .exhausted }) g hl rfl
     refine ⟨none, W2.putObj (w.heap.size + 1) (.loop { rec .ready none with state := .exhausted }), by have := run_endLoop (P := C.P) hl (by rw [hrec]; simp); rw [this]; rw [hrec], ?_⟩
     rw [List.drop_length] at h1
     refine T .normal E' _ _ _ h1 ⟨[{ target := .collected w.heap.size, args := #[] }], rfl, ?_, fun h => by simp [plainC] at h⟩ (behind E' _ sg _ g') (P01.trans g'.2.2.2.1) g'.2.2.2.2.1
     refine ⟨fun m hm => ?_, by simp⟩
     simp only [List.mem_singleton] at hm
     subst hm
     exact ⟨_, rfl, g'.2.2.2.2.2.1, g'.2.2.2.2.2.2.1, Nat.le_refl _⟩
    ·-- a round has left the loop
     have g' := goodPut E' W2 sg _ (.loop { rec .done (some cd) with state := .exhausted }) g hl rfl
     refine ⟨some cd, W2.putObj (w.heap.size + 1) (.loop { rec .done (some cd) with state := .exhausted }), by have := run_endLoop (P := C.P) hl (by rw [hrec]; simp); rw [this]; rw [hrec], ?_⟩
     have hT : Q out.toExit { a with defers := [{ target := .collected w.heap.size, args := #[] }] ++ a.defers } (W2.putObj (w.heap.size + 1) (.loop { rec .done (some cd) with state := .exhausted })) := by
      refine T out E' _ _ _ h1 ⟨[{ target := .collected w.heap.size, args := #[] }], rfl, ?_, fun h => by simp [plainC] at h⟩ (behind E' _ sg _ g') (P01.trans g'.2.2.2.1) g'.2.2.2.2.1
      refine ⟨fun m hm => ?_, by simp⟩
      simp only [List.mem_singleton] at hm
      subst hm
      exact ⟨_, rfl, g'.2.2.2.2.2.1, g'.2.2.2.2.2.2.1, Nat.le_refl _⟩
     rcases ho with ⟨rfl, rfl⟩ | ⟨e, rfl, rfl⟩
     ·exact wpIn_ret hT
     ·exact wpIn_exit hT
   ·intro k E' Wa Wb ⟨sg, h1, ⟨g1, g2, g3, g4, g5, g6, g7, g8⟩, hl⟩ hIt
    have hle := hIt.pr.shut (by simp) g3
    exact ⟨sg, h1, ⟨g1, fun j ob hj => (g2 j ob hj).mono hIt.pr hle (by rw [← g1]; exact (List.getElem?_eq_some_iff.1 hj).1) (by simp) (by simp), fun b o hb => g3 b o (Nat.le_trans hIt.size hb), hIt.after (by omega) g4, g5.trans hIt.out, hIt.keep g6 rfl, g7, g8⟩, hIt.keep hl rfl⟩
   ·-- one round
    intro k E' W d v ⟨sg, h1, g, hl⟩ hd hv
    rw [foldIt_drop hd] at h1
    have hps' : ps = #[p] := by
     apply Array.ext'
     simpa using hps
    have hy := run_yield (P := C.P) (args := #[v]) hl (by rw [hrec]; simp [hps'])
    rw [hrec] at hy
    refine ⟨fn, _, assign, body, hy, roundIn_of_wpIn trivial ?_⟩
    obtain ⟨g1, g2, g3, g4, g5, g6, g7, g8⟩ := g
    have R0 : Rel E' (roundSt st p d sg) ({ tmps := a.tmps.setIfInBounds p v, defers := [] } : Act) W.heap := by
     have := (behind E' W sg [] ⟨g1, g2, g3, g4, g5, g6, g7, g8⟩).put (dst := some p) (d := d) (m := .val) (v := v) fun t0 _ => hv
     exact this
    have hact' : (Array.zip ps #[v]).foldl (fun tmps (t, a) => tmps.setIfInBounds t a) a.tmps = a.tmps.setIfInBounds p v := by rw [hps']; simp
    simp only [hact']
    refine iha (ro := some (w.heap.size + 1)) (.inr hpa) h1 (R0.clean fl assign) fun out E2 st1 a1 w1 k1 k0 k2 k3 k4 => ?_
    cases out with
    | exit e => cases k1
    | ret => cases k1
    | normal =>
    have d1 : a1.defers = [] := k0.plain hpa
    have hl1 := k3.otherBlk hl rfl g8
    have t1 : E2.O (w.heap.size + 1) 0 = .other := k3.otherTag (Array.getElem?_eq_some_iff.1 hl).1 g8
    refine ⟨_, run_beginRound hl1 (by rw [hrec]), ?_⟩
    have R2 : Rel E2 (Su.clean fl body st1) a1 (w1.putObj (w.heap.size + 1) (.loop { rec .ready none with state := .busy })).heap :=
     (k2.others (Pr.setOther hl1 rfl t1) rfl (fun b o hb => k2.fresh b o (by simpa using hb))).clean fl body
    refine ihb (ro := some (w.heap.size + 1)) (.inr hpb) k1 R2 fun out E3 st2 a3 w3 q1 q0 q2 q3 q4 => ?_
    have hl2 : (w1.putObj (w.heap.size + 1) (.loop { rec .ready none with state := .busy })).heap[w.heap.size + 1]? = some (.loop { rec .ready none with state := .busy }) := World.putObj_heap_same (Array.getElem?_eq_some_iff.1 hl1).1
    have hl3 := q3.otherBlk hl2 rfl t1
    have t3 : E3.O (w.heap.size + 1) 0 = .other := q3.otherTag (Array.getElem?_eq_some_iff.1 hl2).1 t1
    have lt3 := (Array.getElem?_eq_some_iff.1 hl3).1
    have sz1 := k3.size
    have hlt := (Array.getElem?_eq_some_iff.1 hl).1
    have Pw : Pr Ours E' W.heap E3 (w3.heap.setIfInBounds (w.heap.size + 1) (.loop (rec .ready none))) := k3.trans (q3.swap hl1)
    have Pb : ∀ o, Pr Ours E1 w.heap E3 (w3.heap.setIfInBounds (w.heap.size + 1) o) := fun o => by
     have := (g4.trans Pw).setBehind (l := w.heap.size + 1) (x := o) (by omega)
     rwa [Array.setIfInBounds_setIfInBounds] at this
    have hD1 := k3.otherBlk g6 rfl g7
    have tD1 : E2.O w.heap.size 0 = .other := k3.otherTag (Array.getElem?_eq_some_iff.1 g6).1 g7
    have hD2 : (w1.putObj (w.heap.size + 1) (.loop { rec .ready none with state := .busy })).heap[w.heap.size]? = some (.deferred (some [])) := (World.putObj_heap_other (by omega)).trans hD1
    have hD3 := q3.otherBlk hD2 rfl tD1
    have tD3 : E3.O w.heap.size 0 = .other := q3.otherTag (Array.getElem?_eq_some_iff.1 hD2).1 tD1
    have good3 : ∀ o, Good E3 (w3.putObj (w.heap.size + 1) o) st2.sg := fun o => by
     have R3 := q2.others (Pr.setOther (x := o) hl3 rfl t3) rfl (fun b o hb => q2.fresh b o (by simpa using hb))
     refine ⟨R3.n, R3.objs, R3.fresh, Pb o, ?_, (World.putObj_heap_other (by omega)).trans hD3, tD3, t3⟩
     have := (g5.trans k4).trans (Outer.trans (b := w1.putObj (w.heap.size + 1) (.loop { rec .ready none with state := .busy })) ⟨rfl, rfl, rfl⟩ q4)
     exact ⟨this.os, this.tape, this.output⟩
    cases out with
    | normal =>
      refine ⟨_, _, run_endRound none hl3, .inl ⟨rfl, E3, ⟨st2.sg, q1, good3 _, ?_⟩, ?_⟩⟩
      ·rw [World.putObj_heap_same lt3]; rw [hrec]; rfl
      ·have : (Obj.loop { { rec .ready none with state := .busy } with state := if (none : Option Code).isNone = true then .ready else .done, pending := none }) = .loop (rec .ready none) := by rw [hrec]; rfl
       rw [this]
       exact Pw
    | ret =>
      refine ⟨_, _, run_endRound (some .ret) hl3, .inr ⟨rfl, .ret, .ret, E3, st2.sg, .inl ⟨rfl, rfl⟩, q1, good3 _, ?_⟩⟩
      rw [World.putObj_heap_same lt3]; rw [hrec]; rfl
    | exit e =>
      refine ⟨_, _, run_endRound (some (.exit e)) hl3, .inr ⟨rfl, .exit e, .exit e, E3, st2.sg, .inr ⟨e, rfl, rfl⟩, q1, good3 _, ?_⟩⟩
      rw [World.putObj_heap_same lt3]; rw [hrec]; rfl
   ·-- where it begins
    refine ⟨_, H, ⟨by rw [List.length_set]; exact Rl.n, fun j ob hj => (hob1 j ob hj).mono P1 hle1 ?_ (by simp) (by simp), fun b o hb => hfr1 b o (by omega), P1.weaken (by simp), hout1, hK1, hfr1 _ _ (Nat.le_refl _), hfr1 _ _ (by omega)⟩, hL1⟩
    have := (List.getElem?_eq_some_iff.1 hj).1
    rw [List.length_set, Rl.n] at this
    exact this
 | _ =>
   intro ro n K st x E a w Q hro H Rl T
   simp [evK] at H
end
end Go.Su

/-
 THE DATA MACHINE, part 26: a plain function's results.
-/
namespace Go.Su
structure Shuts (E : Env) (h : Heap) (g : List SObj) (S : Seal) : Prop where
 le : SealLe E.S h S h
 ob : ∀ (i : Nat) ob, g[i]? = some ob → RO E h i ob ∧ (ob ≠ .arr 1 [] → ∀ b o, E.O b o = .obj i → S b o)
def Env.fin (E : Env) : Seal := fun b o => E.O b o = .shut ∨ ∃ i, E.O b o = .obj i
theorem fin_le (E : Env) (h : Heap) : SealLe E.S h E.fin h := ⟨fun _ _ hs => .inl hs, fun _ _ _ _ hv => hv⟩
theorem fin_shuts {E : Env} {st : St} {a : Act} {h : Heap} (Rl : Rel E st a h) : Shuts E h st.sg E.fin := ⟨fin_le E h, fun i ob hi => ⟨Rl.objs i ob hi, fun _ _ _ h => .inr ⟨i, h⟩⟩⟩
theorem none_shuts (E : Env) (h : Heap) : Shuts E h [] E.S := ⟨⟨fun _ _ hs => hs, fun _ _ _ _ hv => hv⟩, fun i ob hi => by simp at hi⟩
theorem sealCell_ok {E : Env} {h : Heap} {sg : List SObj} {c : DV × Meta} {d : DV} {tg : Tag} {v : Value} (H : sealCell sg c = some d) (R : RM1 E h tg c.1 c.2 v) {S : Seal} (ho : Shuts E h sg S) :
 RV S h d v ∧ (isLeaf c.1 = true → c.2 = .val → isLeaf d = true) ∧ (c.2 ≠ .val → isLeaf d = true) := by
 unfold sealCell at H
 split at H
 ·rename_i hm
  simp only [Option.some.injEq] at H
  subst H
  rw [hm] at R
  exact ⟨RV.mono ho.le _ R, fun h _ => h, fun h => absurd hm h⟩
 ·rename_i hm
  simp only [Option.some.injEq] at H
  subst H
  rw [hm] at R
  obtain ⟨R1, -, sz, ds, hd⟩ := R
  exact ⟨R1.mono ho.le, fun h _ => h, fun _ => by rw [hd]; rfl⟩
 ·rename_i hm
  simp only [Option.some.injEq] at H
  subst H
  rw [hm] at R
  obtain ⟨R1, sz, ds, hd, -⟩ := R
  exact ⟨R1.mono ho.le, fun h _ => h, fun _ => by rw [hd]; rfl⟩
 ·rename_i i sz off len hm
  obtain ⟨p, hp, H⟩ := ob_some H
  obtain ⟨h1, H⟩ := og_some H
  obtain ⟨h2, H⟩ := ite_some H
  simp only [Option.some.injEq] at H
  subst H
  rw [hm] at R
  simp only [RM1] at R
  obtain ⟨hi, a, cap, rfl, ha, hcap, hcap0, hspot, -⟩ := R
  refine ⟨?_, fun _ _ => rfl, fun _ => rfl⟩
  simp only [RV, RC]
  have hll : ((p.2.drop off).take len).length = len := by simp; omega
  obtain ⟨hob, hsh⟩ := ho.ob i _ (sgArr_some hp)
  simp only [beq_iff_eq] at h1
  refine ⟨a, len, cap, rfl, hll.symm, hcap, hcap0, fun hne => ?_, fun x hx => ⟨fun _ => hspot x hx, ?_⟩⟩
  ·simp only [RO] at hob
   have : p.2 ≠ [] := fun h => by rw [h] at hne; simp at hne
   obtain ⟨c, T, e1, e2, e3, -⟩ := hob this
   rw [← h1]; exact e3
  ·rw [RElems_iff]
   intro j d hj
   have hjl : j < len := by
    have := (List.getElem?_eq_some_iff.1 hj).1
    omega
   rw [List.getElem?_take_of_lt hjl, List.getElem?_drop] at hj
   have hne : p.2 ≠ [] := fun h => by rw [h] at hj; simp at hj
   simp only [RO] at hob
   obtain ⟨c, T, e1, e2, e3, e4, e5⟩ := hob hne
   obtain ⟨vs, v1, v2, v3⟩ := e5 (off + j) d hj
   have hax := ha (by omega)
   rw [hx] at hax
   simp only [Option.some.injEq] at hax
   subst hax
   refine ⟨vs, by rw [← h1]; exact v1, fun y u hu => ?_, v3.mono ho.le⟩
   have hy : y < p.1 := by have := (List.getElem?_eq_some_iff.1 hu).1; omega
   have hjp : off + j < p.2.length := (List.getElem?_eq_some_iff.1 hj).1
   have hlt : (off + j) * p.1 + y < p.2.length * p.1 := seg_lt hjp hy
   have e : E.base i + off * sz + j * sz + y = E.base i + (off + j) * p.1 + y := by rw [← h1, Nat.add_mul]; omega
   refine ⟨?_, hsh (fun h => hne (by have := congrArg (fun ob => match ob with | SObj.arr _ ds => ds | _ => []) h; exact this)) _ _ ?_⟩
   ·rw [e]
    simp only [hc, e1]
    exact v2 y u hu
   ·rw [e]
    exact e4 _ (by omega) (by omega)
 ·cases H
theorem sealCells_ok {E : Env} {h : Heap} {sg : List SObj} {S : Seal} (ho : Shuts E h sg S) : ∀ {cs : List (DV × Meta)} {vs : List Value} {ds : List DV}, sealCells sg cs = some ds → cs.length = vs.length →
 (∀ (j : Nat) r v, cs[j]? = some r → vs[j]? = some v → isLeaf r.1 = true ∧ v.oneCell' = true ∧ ∃ tg, RM1 E h tg r.1 r.2 v) → RLs S h ds vs
 | [], vs, ds, H, hl, _ => by
   simp only [sealCells, Option.some.injEq] at H
   subst H
   exact List.eq_nil_of_length_eq_zero hl.symm
 | c :: cs, [], ds, H, hl, _ => by simp at hl
 | c :: cs, v :: vs, ds, H, hl, hR => by
   simp only [sealCells] at H
   obtain ⟨d, h1, H⟩ := ob_some H
   obtain ⟨ds', h2, H⟩ := ob_some H
   simp only [Option.some.injEq] at H
   subst H
   obtain ⟨q1, q2, tg, q3⟩ := hR 0 c v rfl rfl
   obtain ⟨r1, r2, r3⟩ := sealCell_ok h1 q3 ho
   have hlf : isLeaf d = true := by
    by_cases hm : c.2 = .val
    ·exact r2 q1 hm
    ·exact r3 hm
   simp only [RLs]
   exact ⟨v, vs, rfl, hlf, RC_of_RV hlf q2 r1, sealCells_ok ho h2 (by simpa using hl) fun j r u hr hu => hR (j + 1) r u (by simpa using hr) (by simpa using hu)⟩
def resRun (tmps : Array Value) : ResultVar → Sem Value
 | .tmp t => pure (tmps.getD t undef)
 | .cell a t => do loadVar t (← asAddr (tmps.getD a undef))
theorem resVal_ok {P : Program} {E : Env} {st : St} {a : Act} {w : World} {rv : ResultVar} {d : DV} {S : Seal} {g : List SObj} (H : resVal P (st.setSg g) rv = some d) (Rl : Rel E st a w.heap) (ho : Shuts E w.heap g S) :
 ∃ v, (resRun a.tmps rv).run P w = .ok v w ∧ RV S w.heap d v := by
 cases rv with
 | tmp t =>
   have H : (match (st.get t).2 with
    | .aggm ms => og (isData (.aggm ms)) (some (st.get t).1)
    | _ => sealCell g (st.get t)) = some d := H
   have hR : RR E w.heap 0 t (st.get t).1 (st.get t).2 (a.tmps.getD t undef) := Rl.src (P := P) (t := 0) (x := .tmp t) rfl
   refine ⟨a.tmps.getD t undef, rfl, ?_⟩
   split at H
   ·rename_i ms hm
    obtain ⟨h1, H⟩ := og_some H
    simp only [Option.some.injEq] at H
    subst H
    exact (hR.data (by rw [hm]; exact h1)).mono ho.le
   ·rename_i hm
    have hnt : ∀ ms, (st.get t).2 ≠ .tupm ms := fun ms h => by
     unfold sealCell at H
     rw [h] at H
     simp at H
    exact (sealCell_ok H (hR.to_RM1 hnt fun ms h => hm ms h) ho).1
 | cell p t =>
   have H : (match (st.get p).2 with
    | .loc s 0 => ob (st.bx.getD s none) fun cs => ob (tz P t) fun z =>
      if z.1 = cs.length then
       if z.2 then ob (sealCells g cs) fun ds => some (.agg ds)
       else match cs with
        | [c] => sealCell g c
        | _ => none
      else none
    | .ptr i 0 => ob (sgBox g i) fun cs => ob (tz P t) fun z =>
      if z.1 = cs.length then
       if z.2 then ob (sealCells g cs) fun ds => some (.agg ds)
       else match cs with
        | [c] => sealCell g c
        | _ => none
      else none
    | _ => none) = some d := H
   have hR : RR E w.heap 0 p (st.get p).1 (st.get p).2 (a.tmps.getD p undef) := Rl.src (P := P) (t := 0) (x := .tmp p) rfl
   split at H
   ·rename_i s hm
    obtain ⟨cs, h1, H⟩ := ob_some H
    obtain ⟨z, h2, H⟩ := ob_some H
    obtain ⟨h3, H⟩ := ite_some H
    rw [hm] at hR
    simp only [RR, RM1] at hR
    obtain ⟨c, T, b1, b2, b3, b4⟩ := Rl.boxes s cs h1
    obtain ⟨v, hv, hv1, hv2⟩ := run_loadVar (w := w) h2 (b := E.blk s) (off := 0) (vs := c.toList) (by simp [b2, h3]) fun j u hu => by
     simp only [hc, b1, Nat.zero_add]
     simpa using hu
    have hrun : (resRun a.tmps (.cell p t)).run P w = .ok v w := by
     simp only [resRun, hR.2, asAddr, Sem.run_bind, Sem.run_pure, Result.andThen_ok]
     exact hv
    refine ⟨v, hrun, ?_⟩
    have b5 : ∀ (j : Nat) r u, cs[j]? = some r → c.toList[j]? = some u → isLeaf r.1 = true ∧ u.oneCell' = true ∧ ∃ tg, RM1 E w.heap tg r.1 r.2 u := fun j r u hr hu => by
     obtain ⟨q1, q2, q3, q4⟩ := b4 j r u hr (by simpa using hu)
     exact ⟨q1, q2, _, q4⟩
    by_cases hz : z.2 = true
    ·rw [if_pos hz] at H
     obtain ⟨ds, h4, H⟩ := ob_some H
     simp only [Option.some.injEq] at H
     subst H
     rw [hv1 hz]
     simp only [RV]
     exact ⟨_, rfl, sealCells_ok ho h4 (by simp [b2]) b5⟩
    ·rw [if_neg hz] at H
     have hcv := hv2 (by simpa using hz)
     have h5 : ∃ c0, cs = [c0] ∧ sealCell g c0 = some d := by
      split at H
      ·exact ⟨_, rfl, H⟩
      ·cases H
     obtain ⟨c0, rfl, h6⟩ := h5
     obtain ⟨q1, q2, tg, q3⟩ := b5 0 c0 v rfl (by rw [hcv]; rfl)
     exact (sealCell_ok h6 q3 ho).1
   ·rename_i i hm
    obtain ⟨cs, h1, H⟩ := ob_some H
    obtain ⟨z, h2, H⟩ := ob_some H
    obtain ⟨h3, H⟩ := ite_some H
    rw [hm] at hR
    simp only [RR, RM1] at hR
    have hgi : g[i]? = some (.box cs) := by
     unfold sgBox at h1
     split at h1
     ·rename_i h; simp only [Option.some.injEq] at h1; subst h1; exact h
     ·cases h1
    have hRO := (ho.ob i _ hgi).1
    simp only [RO] at hRO
    obtain ⟨c, T, b1, b2, b3, b4⟩ := hRO
    obtain ⟨v, hv, hv1, hv2⟩ := run_loadVar (w := w) h2 (b := E.obj i) (off := 0) (vs := c.toList) (by simp [b2, h3]) fun j u hu => by
     simp only [hc, b1, Nat.zero_add]
     simpa using hu
    have hrun : (resRun a.tmps (.cell p t)).run P w = .ok v w := by
     simp only [resRun, hR.2, asAddr, Sem.run_bind, Sem.run_pure, Result.andThen_ok]
     exact hv
    refine ⟨v, hrun, ?_⟩
    have b5 : ∀ (j : Nat) r u, cs[j]? = some r → c.toList[j]? = some u → isLeaf r.1 = true ∧ u.oneCell' = true ∧ ∃ tg, RM1 E w.heap tg r.1 r.2 u := fun j r u hr hu => by
     obtain ⟨q1, q2, q3, q4⟩ := b4 j r u hr (by simpa using hu)
     exact ⟨q1, q2, _, q4⟩
    by_cases hz : z.2 = true
    ·rw [if_pos hz] at H
     obtain ⟨ds, h4, H⟩ := ob_some H
     simp only [Option.some.injEq] at H
     subst H
     rw [hv1 hz]
     simp only [RV]
     exact ⟨_, rfl, sealCells_ok ho h4 (by simp [b2]) b5⟩
    ·rw [if_neg hz] at H
     have hcv := hv2 (by simpa using hz)
     have h5 : ∃ c0, cs = [c0] ∧ sealCell g c0 = some d := by
      split at H
      ·exact ⟨_, rfl, H⟩
      ·cases H
     obtain ⟨c0, rfl, h6⟩ := h5
     obtain ⟨q1, q2, tg, q3⟩ := b5 0 c0 v rfl (by rw [hcv]; rfl)
     exact (sealCell_ok h6 q3 ho).1
   ·cases H
theorem resVals_ok {P : Program} {E : Env} {st : St} {a : Act} {w : World} (Rl : Rel E st a w.heap) : ∀ {rs : List ResultVar} {ds : List DV}, resVals P st rs = some ds →
 ∃ vs : List Value, (rs.mapM (resRun a.tmps)).run P w = .ok vs w ∧ RVs E.fin w.heap ds vs ∧ vs.length = rs.length
 | [], ds, H => by
   simp only [resVals, Option.some.injEq] at H
   subst H
   exact ⟨[], rfl, rfl, rfl⟩
 | r :: rs, ds, H => by
   simp only [resVals] at H
   obtain ⟨d, h1, H⟩ := ob_some H
   obtain ⟨ds', h2, H⟩ := ob_some H
   simp only [Option.some.injEq] at H
   subst H
   obtain ⟨v, q1, q2⟩ := resVal_ok (g := st.sg) h1 Rl (fin_shuts Rl)
   obtain ⟨vs, q3, q4, q5⟩ := resVals_ok Rl h2
   refine ⟨v :: vs, ?_, ⟨v, vs, rfl, q2, q4⟩, by simp [q5]⟩
   simp only [List.mapM_cons, Sem.run_bind, q1, q3, Result.andThen_ok, Sem.run_pure]
theorem results_eq (fn : Func) (tmps : Array Value) : results fn tmps = (do
 let vs ← fn.results.toList.mapM (resRun tmps)
 pure (if h : vs.toArray.size = 1 then vs.toArray[0] else .tuple vs.toArray)) := by
 have : results fn tmps = (do
  let vs ← fn.results.mapM (resRun tmps)
  pure (if h : vs.size = 1 then vs[0] else .tuple vs)) := by
  unfold results
  congr 1
 rw [this, Array.mapM_eq_mapM_toList]
 simp
theorem pack_RV {S : Seal} {h : Heap} {ds : List DV} {vs : List Value} (R : RVs S h ds vs) : RV S h (pack ds) (if h : vs.toArray.size = 1 then vs.toArray[0] else .tuple vs.toArray) := by
 obtain ⟨hl, hR⟩ := RVs_iff.1 R
 by_cases h1 : vs.toArray.size = 1
 ·rw [dif_pos h1]
  obtain ⟨v, rfl⟩ := List.length_eq_one_iff.1 (by simpa using h1)
  obtain ⟨d, rfl⟩ := List.length_eq_one_iff.1 (by simpa using hl)
  exact hR 0 d v rfl rfl
 ·rw [dif_neg h1]
  unfold pack
  split
  ·simp at hl h1; omega
  ·simp only [RV]
   exact ⟨_, rfl, by simpa using R⟩
def maskG (us : List Nat) (sg : List SObj) : List SObj := sg.mapIdx fun i ob => if i ∈ us then ob else .arr 1 []
def shutTag (us : List Nat) (T : Tag) : Tag :=
 match T with
 | .obj i => if i ∈ us then .shut else .obj i
 | T => T
theorem shutTag_id {us : List Nat} {T : Tag} (h : ∀ i ∈ us, T ≠ .obj i) : shutTag us T = T := by
 unfold shutTag
 split
 ·rename_i i
  rw [if_neg fun hi => h i hi rfl]
 ·rfl
theorem shutTag_ours (us : List Nat) {T : Tag} (h : ¬ ∃ i ∈ us, T = .obj i) : shutTag us T = T := shutTag_id fun i hi he => h ⟨i, hi, he⟩
theorem maskG_get {us : List Nat} {sg : List SObj} {i : Nat} (h : i ∈ us) : (maskG us sg)[i]? = sg[i]? := by
 unfold maskG
 rw [List.getElem?_mapIdx]
 cases sg[i]? <;> simp [h]
theorem sgArr_mask {us : List Nat} {sg : List SObj} {i : Nat} (h : i ∈ us) : sgArr (maskG us sg) i = sgArr sg i := by
 unfold sgArr
 rw [maskG_get h]
theorem sealCell_mask {us : List Nat} {sg : List SObj} {c : DV × Meta} (h : ∀ i ∈ arrIx c.2, i ∈ us) : sealCell (maskG us sg) c = sealCell sg c := by
 obtain ⟨d, m⟩ := c
 cases m <;> try rfl
 case arr i sz off len =>
  simp only [sealCell]
  rw [sgArr_mask (h i (by simp [arrIx]))]
theorem sealCells_mask {us : List Nat} {sg : List SObj} : ∀ {cs : List (DV × Meta)}, (∀ c ∈ cs, ∀ i ∈ arrIx c.2, i ∈ us) → sealCells (maskG us sg) cs = sealCells sg cs
 | [], _ => rfl
 | c :: cs, h => by
   simp only [sealCells]
   rw [sealCell_mask (h c (List.mem_cons_self ..)), sealCells_mask fun c' hc' => h c' (List.mem_cons_of_mem _ hc')]
theorem resVal_mask {P : Program} {st : St} {rv : ResultVar} {us : List Nat} {d : DV} (hl : isLocRes st rv = true) (hu : ∀ i ∈ arrsOf st rv, i ∈ us) (H : resVal P st rv = some d) : resVal P (st.setSg (maskG us st.sg)) rv = some d := by
 cases rv with
 | tmp t =>
   simp only [arrsOf] at hu
   have e := sealCell_mask (us := us) (sg := st.sg) (c := st.get t) hu
   show (match (st.get t).2 with
    | .aggm ms => og (isData (.aggm ms)) (some (st.get t).1)
    | _ => sealCell (maskG us st.sg) (st.get t)) = some d
   rw [e]
   exact H
 | cell p t =>
   simp only [isLocRes] at hl
   simp only [arrsOf] at hu
   simp only [resVal] at H ⊢
   show (match (st.get p).2 with
    | .loc s 0 => ob (st.bx.getD s none) fun cs => ob (tz P t) fun z =>
      if z.1 = cs.length then
       if z.2 then ob (sealCells (maskG us st.sg) cs) fun ds => some (.agg ds)
       else match cs with
        | [c] => sealCell (maskG us st.sg) c
        | _ => none
      else none
    | .ptr i 0 => ob (sgBox (maskG us st.sg) i) fun cs => ob (tz P t) fun z =>
      if z.1 = cs.length then
       if z.2 then ob (sealCells (maskG us st.sg) cs) fun ds => some (.agg ds)
       else match cs with
        | [c] => sealCell (maskG us st.sg) c
        | _ => none
      else none
    | _ => none) = some d
   cases hm : (st.get p).2 with
   | loc s o =>
     rw [hm] at H hu
     cases o with
     | succ o => simp at H
     | zero =>
       simp only at H hu ⊢
       obtain ⟨cs, h1, H⟩ := ob_some H
       rw [h1] at hu
       simp only at hu
       have hc : ∀ c ∈ cs, ∀ i ∈ arrIx c.2, i ∈ us := fun c hc i hi => hu i (List.mem_flatMap.2 ⟨c, hc, hi⟩)
       rw [h1, ob_mk, sealCells_mask hc]
       obtain ⟨z, h2, H⟩ := ob_some H
       rw [h2, ob_mk]
       obtain ⟨h3, H⟩ := ite_some H
       rw [if_pos h3]
       by_cases hz : z.2 = true
       ·rw [if_pos hz] at H ⊢
        exact H
       ·rw [if_neg hz] at H ⊢
        match cs, hc, H with
        | [c], hc, H =>
          simp only at H ⊢
          rw [sealCell_mask (hc c (List.mem_cons_self ..))]
          exact H
        | [], _, H => simp at H
        | _ :: _ :: _, _, H => simp at H
   | _ => rw [hm] at hl; simp at hl
theorem mask_shuts {E : Env} {st : St} {a : Act} {h : Heap} (Rl : Rel E st a h) (us : List Nat) : Shuts E h (maskG us st.sg) (E.re (shutTag us)).S := by
 refine ⟨re_le (shutTag_id (by simp)), fun i ob hi => ?_⟩
 unfold maskG at hi
 rw [List.getElem?_mapIdx] at hi
 cases hg : st.sg[i]? with
 | none => rw [hg] at hi; simp at hi
 | some o =>
   rw [hg] at hi
   simp only [Option.map_some, Option.some.injEq] at hi
   by_cases hm : i ∈ us
   ·rw [if_pos hm] at hi
    subst hi
    refine ⟨Rl.objs i _ hg, fun _ b o hb => ?_⟩
    simp only [Env.S, Env.re]
    rw [hb]
    simp [shutTag, hm]
   ·rw [if_neg hm] at hi
    subst hi
    exact ⟨by simp [RO], fun h => absurd rfl h⟩
theorem kill_get (sg : List SObj) : ∀ (us : List Nat) (i : Nat), (kill sg us)[i]? = if i ∈ us then (sg[i]?).map (fun _ => SObj.arr 1 []) else sg[i]? := by
 intro us
 induction us generalizing sg with
 | nil => intro i; simp [kill]
 | cons u us ih =>
   intro i
   show (kill (sg.set u (.arr 1 [])) us)[i]? = _
   rw [ih]
   by_cases h1 : i ∈ us
   ·rw [if_pos h1, if_pos (List.mem_cons_of_mem _ h1), List.getElem?_set]
    split
    ·rename_i h; subst h; split <;> simp_all
    ·rfl
   ·rw [if_neg h1]
    by_cases h2 : u = i
    ·subst h2
     rw [if_pos (List.mem_cons_self ..), List.getElem?_set]
     simp only [if_true]
     split
     ·rename_i h; rw [List.getElem?_eq_getElem h]; rfl
     ·rename_i h; rw [List.getElem?_eq_none (by omega)]; rfl
    ·rw [if_neg (by simp [h1]; exact fun h => h2 h.symm), List.getElem?_set_ne h2]
theorem Rel.shut {E : Env} {st : St} {a : Act} {h : Heap} (R : Rel E st a h) (us : List Nat) : Rel (E.re (shutTag us)) { st with sg := kill st.sg us } a h := by
 have P : Pr (fun T => ∃ i ∈ us, T = .obj i) E h (E.re (shutTag us)) h := Pr.re fun T hT => shutTag_ours us hT
 have hle : SealLe E.S h (E.re (shutTag us)).S h := re_le (shutTag_id (by simp))
 have hlen : ∀ (us : List Nat) (g : List SObj), (kill g us).length = g.length := by
  intro us
  induction us with
  | nil => intro g; rfl
  | cons u us ih => intro g; show (kill (g.set u _) us).length = _; rw [ih]; simp
 refine ⟨R.size, R.mlen, R.blen, (hlen us st.sg).trans R.n, fun t v hv => (R.regs t v hv).mono P hle (by simp) (by simp), fun s cs hs => (R.boxes s cs hs).mono P hle (by simp) (by simp), fun i ob hi => ?_, fun b o hb => ?_⟩
 ·rw [kill_get] at hi
  split at hi
  ·cases hg : st.sg[i]? with
   | none => rw [hg] at hi; simp at hi
   | some o =>
     rw [hg] at hi
     simp only [Option.map_some, Option.some.injEq] at hi
     subst hi
     simp [RO]
  ·rename_i hm
   have hlt : i < E.n := by rw [← R.n]; exact (List.getElem?_eq_some_iff.1 hi).1
   exact (R.objs i ob hi).mono P hle hlt (by rintro ⟨j, hj, he⟩; simp only [Tag.obj.injEq] at he; subst he; exact hm hj) (by simp)
 ·simp only [Env.re]
  rw [R.fresh b o hb]
  rfl
end Go.Su

/-
 THE DATA MACHINE, part 27: the program's functions give what the data machine says.
-/
namespace Go.Su
section
variable {C : Cfg} {R : Orc} {X : Type}
open Classical in
noncomputable def env0 (S : Seal) : Env where
 blk := fun _ => 0
 top := fun _ => 0
 obj := fun _ => 0
 base := fun _ => 0
 O := fun b o => if S b o then .shut else .other
 n := 0
theorem env0_S (S : Seal) (b o : Nat) : (env0 S).S b o ↔ S b o := by
 simp only [Env.S, env0]
 split <;> simp_all
theorem init_get {fn : Func} {rs : List (DV × Meta)} {sg : List SObj} {t : Nat} : (∀ r, rs[t]? = some r → (initSt fn rs sg).get t = r) ∧ (rs.length ≤ t → t < rs.length + (fn.ntmps - rs.length) → (initSt fn rs sg).get t = (.tup [], .val)) := by
 constructor
 ·intro r hr
  have ht := (List.getElem?_eq_some_iff.1 hr).1
  simp only [St.get, initSt, List.getD_eq_getElem?_getD]
  rw [List.getElem?_append_left (by simpa using ht), List.getElem?_append_left (by simpa using ht)]
  simp [hr]
 ·intro h1 h2
  simp only [St.get, initSt, List.getD_eq_getElem?_getD]
  rw [List.getElem?_append_right (by simpa using h1), List.getElem?_append_right (by simpa using h1)]
  simp only [List.length_map]
  rw [List.getElem?_replicate, List.getElem?_replicate, if_pos (by omega), if_pos (by omega)]
  rfl
theorem init_rel {fn : Func} {rs : List (DV × Meta)} {sg : List SObj} {E : Env} {w : World} {vs : List Value} (hf : ∀ b o, w.heap.size ≤ b → E.O b o = .other) (hn : sg.length = E.n) (ho : ∀ (i : Nat) ob, sg[i]? = some ob → RO E w.heap i ob)
 (hl : vs.length = rs.length) (hr : ∀ (i : Nat) r v, rs[i]? = some r → vs[i]? = some v → RR E w.heap 0 i r.1 r.2 v) :
 Rel E (initSt fn rs sg) { tmps := vs.toArray ++ Array.replicate (fn.ntmps - vs.toArray.size) undef, defers := [] } w.heap := by
 refine ⟨by simp [initSt, hl], by simp [initSt], by simp [initSt], hn, fun t v hv => ?_, fun s cs hs => ?_, ho, hf⟩
 ·have hlt : t < rs.length + (fn.ntmps - rs.length) := by
   have := (Array.getElem?_eq_some_iff.1 hv).1
   simpa [hl] using this
  obtain ⟨i1, i2⟩ := init_get (fn := fn) (rs := rs) (sg := sg) (t := t)
  by_cases ht : t < rs.length
  ·have hrt : rs[t]? = some rs[t] := List.getElem?_eq_getElem ht
   rw [i1 _ hrt]
   refine hr t _ v hrt ?_
   rw [Array.getElem?_append_left (by simpa [hl] using ht)] at hv
   simpa using hv
  ·rw [i2 (Nat.le_of_not_lt ht) hlt]
   rw [Array.getElem?_append_right (by simpa [hl] using Nat.le_of_not_lt ht)] at hv
   rw [Array.getElem?_replicate] at hv
   split at hv
   ·simp only [Option.some.injEq] at hv
    subst hv
    simp only [RR, RM1, RV, undef]
    exact ⟨#[], rfl, by simp [RVs]⟩
   ·cases hv
 ·simp only [initSt, List.getD_eq_getElem?_getD, List.getElem?_replicate] at hs
  split at hs <;> simp at hs
theorem old_blk {S : Seal} {E' : Env} {h h' : Heap} (P : Pr Ours (env0 S) h E' h') {b : Nat} (hb : b < h.size) : h'[b]? = h[b]? := by
 have hk := P.blk b hb
 have hno : ∀ o, ¬ Ours ((env0 S).O b o) := fun o => by
  simp only [env0]
  split <;> simp [Ours]
 have he : h[b]? = some h[b] := Array.getElem?_eq_getElem hb
 rw [he] at hk ⊢
 unfold KeepBlk at hk
 split at hk
 ·rename_i hx; cases hx
 ·rename_i c T f hx
  obtain ⟨c', h1, h2, h3⟩ := hk
  rw [h1, hx]
  congr 2
  exact Array.ext_getElem? fun o => h3 o (hno o)
 ·have := hk (hno 0)
  simp_all
theorem leaves_marks {m : Nat} {P : Program} {fn : Func} {Rp : Ending → World → Prop} {E0 E : Env} {st : St} {a : Act} {w : World}
 (fin : ∀ w2, Rel E st a w2.heap → Pr Ours E0 w.heap E w2.heap → Outer w w2 → ∃ v, (results fn a.tmps).run P w2 = .ok v w2 ∧ Rp (.returned v) w2) :
 ∀ (ms : List Deferred) (w1 : World), Marks w.heap.size E w1.heap ms → Rel E st a w1.heap → Pr Ours E0 w.heap E w1.heap → Outer w w1 → LeavesInM Fence.wide m P fn a.tmps Rp ms .returning w1
 | [], w1, _, Rl, P1, O1 => fin w1 Rl P1 O1
 | d :: ms, w1, M, Rl, P1, O1 => by
   obtain ⟨D, rfl, h2, h3, h4⟩ := M.1 d (List.mem_cons_self ..)
   obtain ⟨p1, p2⟩ := List.pairwise_cons.1 M.2
   refine ⟨by simp, .inl ⟨D, w1.putObj D (.deferred none), rfl, run_takeDeferred h2, ?_⟩⟩
   refine leaves_marks fin ms _ ⟨fun m' hm' => ?_, p2⟩ (Rl.others (Pr.setOther h2 rfl h3) rfl fun b o hb => Rl.fresh b o (by simpa using hb)) (P1.setBehind h4) ⟨O1.os, O1.tape, O1.output⟩
   obtain ⟨D', q1, q2, q3, q4⟩ := M.1 m' (List.mem_cons_of_mem _ hm')
   refine ⟨D', q1, ?_, q3, q4⟩
   have hne : D' ≠ D := fun h => p1 m' hm' (by rw [q1, h])
   exact (World.putObj_heap_other hne).trans q2
def CutOk (P : Program) (c : Code) (p : Cut) : Prop :=
 ∃ M : Code, c = seqs p.pre M ∧ (plainC M = true → plainC p.post = true) ∧
   ∀ {n : Nat} {E : Env} {st st2 : St} {a : Act} {w : World} {Q : Exit → Act → World → Prop}, Rel E st a w.heap → p.mid st = some st2 →
     (∀ E' a' w', a'.defers = a.defers → Rel E' st2 a' w'.heap → Pr Ours E w.heap E' w'.heap → Outer w w' → p.post.wpIn (rnd none) n P Q a' w') → M.wpIn (rnd none) n P Q a w
theorem Marks.weak {n m : Nat} {E : Env} {h : Heap} {ms : List Deferred} (H : Marks n E h ms) (hn : m ≤ n) : Marks m E h ms :=
 ⟨fun x hx => let ⟨D, h1, h2, h3, h4⟩ := H.1 x hx; ⟨D, h1, h2, h3, Nat.le_trans hn h4⟩, H.2⟩
theorem sim_seqs (hm : C.P.follows .mixedOrders = true) (hO : OrcOk C R) {fl : Flags} {M : Code} : ∀ (ps : List Code) {n : Nat} {K : Out → St → Option X} {st : St} {x : X} {E : Env} {a : Act} {w : World} {Q : Exit → Act → World → Prop},
 evK C R fl (seqs ps .skip) K st = some x → Rel E st a w.heap →
 (∀ out E' st' a' w', out ≠ .normal → K out st' = some x → Left (seqs ps .skip) w.heap.size E' w'.heap a.defers a'.defers → Rel E' st' a' w'.heap → Pr Ours E w.heap E' w'.heap → Outer w w' → Q out.toExit a' w') →
 (∀ E' st' a' w', K .normal st' = some x → Left (seqs ps .skip) w.heap.size E' w'.heap a.defers a'.defers → Rel E' st' a' w'.heap → Pr Ours E w.heap E' w'.heap → Outer w w' → M.wpIn (rnd none) n C.P Q a' w') → (seqs ps M).wpIn (rnd none) n C.P Q a w
 | [], n, K, st, x, E, a, w, Q, H, Rl, T, N => N E st a w H (Left.same rfl) Rl (Pr.refl _ _ _) (Outer.refl _)
 | p :: ps, n, K, st, x, E, a, w, Q, H, Rl, T, N => by
   have hp : plainC (.seq p (seqs ps .skip)) = true → plainC p = true ∧ plainC (seqs ps .skip) = true := fun h => by simpa [plainC] using h
   refine wpIn_seq (sim_code hm hO p (.inl rfl) H Rl fun out E' st' a' w' h1 h0 h2 h3 h4 => ?_)
   obtain ⟨ms, q1, q2, q3⟩ := h0
   have join : ∀ {E2 : Env} {a2 : Act} {w2 : World}, Left (seqs ps .skip) w'.heap.size E2 w2.heap a'.defers a2.defers → Pr Ours E' w'.heap E2 w2.heap → Left (seqs (p :: ps) .skip) w.heap.size E2 w2.heap a.defers a2.defers := by
    rintro E2 a2 w2 ⟨ns, p1, p2, p3⟩ k3
    exact ⟨ns ++ ms, by rw [p1, q1, List.append_assoc], p2.append q2 k3 h3.size, fun h => by rw [p3 (hp h).2, q3 (hp h).1]; rfl⟩
   cases out with
   | normal =>
     exact sim_seqs hm hO ps h1 (h2.clean fl _) (fun out E2 st2 a2 w2 hn k1 k0 k2 k3 k4 => T out E2 st2 a2 w2 hn k1 (join k0 k3) k2 (h3.trans k3) (h4.trans k4))
      fun E2 st2 a2 w2 k1 k0 k2 k3 k4 => N E2 st2 a2 w2 k1 (join k0 k3) k2 (h3.trans k3) (h4.trans k4)
   | exit i => exact T (.exit i) E' st' a' w' (by simp) h1 ⟨ms, q1, q2, fun h => q3 (hp h).1⟩ h2 h3 h4
   | ret => exact T .ret E' st' a' w' (by simp) h1 ⟨ms, q1, q2, fun h => q3 (hp h).1⟩ h2 h3 h4
theorem plain_seqs : ∀ (ps : List Code) (M : Code), plainC (seqs ps M) = true → plainC (seqs ps .skip) = true ∧ plainC M = true
 | [], M, h => ⟨rfl, h⟩
 | p :: ps, M, h => by
   simp only [seqs, plainC, Bool.and_eq_true] at h ⊢
   obtain ⟨h1, h2⟩ := plain_seqs ps M h.2
   exact ⟨⟨h.1, h1⟩, h2⟩
theorem sim_cut (hm : C.P.follows .mixedOrders = true) (hO : OrcOk C R) {fl : Flags} {c : Code} {p : Cut} (hc : CutOk C.P c p) {n : Nat} {K : Out → St → Option X} {st : St} {x : X} {E : Env} {a : Act} {w : World} {Q : Exit → Act → World → Prop}
 (H : evK C R fl (seqs p.pre .skip) (cutK C R fl p K) st = some x) (Rl : Rel E st a w.heap)
 (T : ∀ out E' st' a' w', K out st' = some x → Left c w.heap.size E' w'.heap a.defers a'.defers → Rel E' st' a' w'.heap → Pr Ours E w.heap E' w'.heap → Outer w w' → Q out.toExit a' w') : c.wpIn (rnd none) n C.P Q a w := by
 obtain ⟨M, rfl, hM, hmid⟩ := hc
 refine sim_seqs hm hO p.pre H Rl (fun out E1 st1 a1 w1 hn h1 h0 h2 h3 h4 => ?_) fun E1 st1 a1 w1 h1 h0 h2 h3 h4 => ?_
 ·obtain ⟨ms, q1, q2, q3⟩ := h0
  cases out with
  | exit i => simp [cutK] at h1
  | ret => exact T .ret E1 st1 a1 w1 h1 ⟨ms, q1, q2, fun h => q3 (plain_seqs _ _ h).1⟩ h2 h3 h4
  | normal => exact absurd rfl hn
 ·obtain ⟨ms, q1, q2, q3⟩ := h0
  simp only [cutK] at h1
  obtain ⟨st2, k1, k2⟩ := ob_some h1
  refine hmid h2 k1 fun E2 a2 w2 d2 r2 p2 o2 => ?_
  refine sim_code hm hO p.post (.inl rfl) k2 (r2.clean fl p.post) fun out E3 st3 a3 w3 g1 g0 g2 g3 g4 => T out E3 st3 a3 w3 g1 ?_ g2 ((h3.trans p2).trans g3) ((h4.trans o2).trans g4)
  obtain ⟨ns, p1, p2', p3⟩ := g0
  exact ⟨ns ++ ms, by rw [p1, d2, q1, List.append_assoc], (p2'.weak p2.size).append q2 (p2.trans g3) h3.size, fun h => by rw [p3 (hM (plain_seqs _ _ h).2), q3 (plain_seqs _ _ h).1]; rfl⟩
theorem sim_body (hm : C.P.follows .mixedOrders = true) (hO : OrcOk C R) {fl : Flags} {c : Code} {q : Option Cut} (hc : ∀ p, q = some p → CutOk C.P c p) {n : Nat} {K : Out → St → Option X} {st : St} {x : X} {E : Env} {a : Act} {w : World} {Q : Exit → Act → World → Prop}
 (H : evBody C R fl q c K st = some x) (Rl : Rel E st a w.heap)
 (T : ∀ out E' st' a' w', K out st' = some x → Left c w.heap.size E' w'.heap a.defers a'.defers → Rel E' st' a' w'.heap → Pr Ours E w.heap E' w'.heap → Outer w w' → Q out.toExit a' w') : c.wpIn (rnd none) n C.P Q a w := by
 cases q with
 | none => exact sim_code hm hO c (.inl rfl) H Rl T
 | some p => exact sim_cut hm hO (hc p rfl) H Rl T
theorem pure_ok {f : FuncId} {fn : Func} {c : Code} {ds : List DV} {d : DV} {cut : Option Cut} (hm : C.P.follows .mixedOrders = true) (hO : OrcOk C R) (hf : C.P.funcs[f]? = some fn) (hb : fn.body = some c) (hcut : ∀ p, cut = some p → CutOk C.P c p)
 (H : evBody C R (C.fl f) cut c (retP C.P fn) (initSt fn (ds.map fun d => (d, .val)) []) = some d) : PureOk C.P f ds d := by
 intro S w vs hS hvs
 obtain ⟨hl, hv⟩ := RVs_iff.1 hvs
 have hle : SealLe S w.heap (env0 S).S w.heap := ⟨fun b o hs => (env0_S S b o).2 hs, fun _ _ _ _ h => h⟩
 have fr : ∀ b o, w.heap.size ≤ b → (env0 S).O b o = .other := fun b o hb => by
  simp only [env0]
  rw [if_neg (hS b o hb)]
 refine (callsIn_wide (n := 0)).1 (callsIn_of_wp_marks hf hb trivial (sim_body hm hO hcut H (init_rel (E := env0 S) fr rfl (by simp) (by simp [hl]) fun i r v hr hv' => ?_) fun out E' st' a' w1 h1 h0 h2' h3' hout' => ?_))
 ·simp only [List.getElem?_map, Option.map_eq_some_iff] at hr
  obtain ⟨d', hd', rfl⟩ := hr
  exact RR.val ((hv i d' v hd' hv').mono hle)
 ·obtain ⟨ms, e0, M, -⟩ := h0
  rw [List.append_nil] at e0
  have fin : ∀ ds', resVals C.P st' fn.results.toList = some ds' → d = pack ds' → ∀ w', Rel E' st' a' w'.heap → Pr Ours (env0 S) w.heap E' w'.heap → Outer w w' → ∃ v, (results fn a'.tmps).run C.P w' = .ok v w' ∧ ∃ v' S', Ending.returned v = .returned v' ∧ Ext S w.heap S' w'.heap ∧ RV S' w'.heap d v' ∧ Outer w w' := by
   intro ds' k1 k2 w' h2 h3 hout
   obtain ⟨us, q1, q2, -⟩ := resVals_ok h2 k1
   refine ⟨if h : us.toArray.size = 1 then us.toArray[0] else .tuple us.toArray, ?_, _, E'.fin, rfl, ⟨h3.size, fun b hb => old_blk h3 hb, fun b o hb => ?_, fun b o hb => ?_⟩, by rw [k2]; exact pack_RV q2, hout⟩
   ·rw [results_eq]
    simp only [Sem.run_bind, q1, Result.andThen_ok, Sem.run_pure]
   ·have hno : ¬ Ours ((env0 S).O b o) := by
     simp only [env0]
     split <;> simp [Ours]
    have ht := h3.tags b o hb hno
    simp only [Env.fin, ht, env0]
    split <;> simp_all
   ·simp only [Env.fin, h2.fresh b o hb]
    simp
  cases out with
  | exit i => simp [retP] at h1
  | normal =>
    simp only [retP] at h1
    obtain ⟨ds', k1, k2⟩ := ob_some h1
    simp only [Option.some.injEq] at k2
    show LeavesInM Fence.wide 0 C.P fn a'.tmps _ a'.defers .returning w1
    rw [e0]
    exact leaves_marks (fin ds' k1 k2.symm) ms w1 M h2' h3' hout'
  | ret =>
    simp only [retP] at h1
    obtain ⟨ds', k1, k2⟩ := ob_some h1
    simp only [Option.some.injEq] at k2
    show LeavesInM Fence.wide 0 C.P fn a'.tmps _ a'.defers .returning w1
    rw [e0]
    exact leaves_marks (fin ds' k1 k2.symm) ms w1 M h2' h3' hout'
theorem resOfs_ok {P : Program} {sl : Bool} {us : List Nat} {E : Env} {st : St} {a : Act} {w : World} (Rl : Rel E st a w.heap) : ∀ {ks : List MK} {rs : List ResultVar} {ds : List DV}, (sl = true → ∀ v ∈ rs, ∀ i ∈ arrsOf st v, i ∈ us) → resOfs P sl st ks rs = some ds →
 ks.length = rs.length ∧ ds.length = ks.length ∧ ∃ vs : List Value, (rs.mapM (resRun a.tmps)).run P w = .ok vs w ∧ vs.length = rs.length ∧
  ∀ (i : Nat) k r d v, ks[i]? = some k → rs[i]? = some r → ds[i]? = some d → vs[i]? = some v →
    (k = .val → RV (E.re (shutTag us)).S w.heap d v) ∧ (k = .own → ∃ t, r = .tmp t ∧ isRoom (st.get t).2 = true ∧ d = (st.get t).1 ∧ v = a.tmps.getD t undef)
 | [], [], ds, _, H => by
   simp only [resOfs, Option.some.injEq] at H
   subst H
   exact ⟨rfl, rfl, [], rfl, rfl, fun i k r d v h => by simp at h⟩
 | k :: ks, r :: rs, ds, hu, H => by
   simp only [resOfs] at H
   obtain ⟨d, h1, H⟩ := ob_some H
   obtain ⟨ds', h2, H⟩ := ob_some H
   simp only [Option.some.injEq] at H
   subst H
   obtain ⟨l1, l2, vs, q1, q2, q3⟩ := resOfs_ok Rl (fun h v hv => hu h v (List.mem_cons_of_mem _ hv)) h2
   have one : ∃ v, (resRun a.tmps r).run P w = .ok v w ∧ (k = .val → RV (E.re (shutTag us)).S w.heap d v) ∧ (k = .own → ∃ t, r = .tmp t ∧ isRoom (st.get t).2 = true ∧ d = (st.get t).1 ∧ v = a.tmps.getD t undef) := by
    cases k with
    | val =>
      simp only [resOf] at h1
      split at h1
      ·rename_i hb
       simp only [Bool.and_eq_true] at hb
       obtain ⟨v, k1, k2⟩ := resVal_ok (g := maskG us st.sg) (resVal_mask hb.2 (hu hb.1 r (List.mem_cons_self ..)) h1) Rl (mask_shuts Rl us)
       exact ⟨v, k1, fun _ => k2, fun h => by cases h⟩
      ·obtain ⟨v, k1, k2⟩ := resVal_ok (g := []) h1 Rl (none_shuts E w.heap)
       exact ⟨v, k1, fun _ => k2.mono (re_le (shutTag_id (by simp))), fun h => by cases h⟩
    | own =>
      simp only [resOf] at h1
      cases r with
      | tmp t =>
        simp only at h1
        obtain ⟨k1, k2⟩ := og_some h1
        simp only [Option.some.injEq] at k2
        exact ⟨_, rfl, fun h => (by cases h), fun _ => ⟨t, rfl, k1, k2.symm, rfl⟩⟩
      | cell p t => simp at h1
   obtain ⟨v, k1, k2⟩ := one
   refine ⟨by simp [l1], by simp [l2], v :: vs, by simp only [List.mapM_cons, Sem.run_bind, k1, q1, Result.andThen_ok, Sem.run_pure], by simp [q2], fun i k' r' d' v' e1 e2 e3 e4 => ?_⟩
   cases i with
   | zero =>
     simp only [List.getElem?_cons_zero, Option.some.injEq] at e1 e2 e3 e4
     subst e1 e2 e3 e4
     exact k2
   | succ i =>
     simp only [List.getElem?_cons_succ] at e1 e2 e3 e4
     exact q3 i k' r' d' v' e1 e2 e3 e4
 | [], _ :: _, ds, _, H => by simp [resOfs] at H
 | _ :: _, [], ds, _, H => by simp [resOfs] at H
theorem own_unique : ∀ {ks : List MK} {i j : Nat}, (ks.filter isOwn).length ≤ 1 → ks[i]? = some .own → ks[j]? = some .own → i = j
 | [], i, j, _, h, _ => by simp at h
 | k :: ks, i, j, hl, hi, hj => by
   have nomem : k = .own → ∀ m : Nat, ks[m]? = some .own → False := by
    intro hk m hm
    subst hk
    have h1 : MK.own ∈ ks.filter isOwn := List.mem_filter.2 ⟨List.mem_of_getElem? hm, rfl⟩
    have h2 : 0 < (ks.filter isOwn).length := List.length_pos_of_mem h1
    simp only [List.filter_cons, isOwn, if_true, List.length_cons] at hl
    omega
   cases i with
   | zero =>
     simp only [List.getElem?_cons_zero, Option.some.injEq] at hi
     cases j with
     | zero => rfl
     | succ j => simp only [List.getElem?_cons_succ] at hj; exact (nomem hi j hj).elim
   | succ i =>
     simp only [List.getElem?_cons_succ] at hi
     cases j with
     | zero => simp only [List.getElem?_cons_zero, Option.some.injEq] at hj; exact (nomem hj i hi).elim
     | succ j =>
       simp only [List.getElem?_cons_succ] at hj
       have hl' : (ks.filter isOwn).length ≤ 1 := by
        cases k
        ·simpa [List.filter_cons, isOwn] using hl
        ·simp only [List.filter_cons, isOwn, if_true, List.length_cons] at hl; omega
       rw [own_unique hl' hi hj]
theorem raw_ok {f : FuncId} {fn : Func} {c : Code} {s : Sig} {rs : List (DV × Meta)} {sg : List SObj} {q : List DV × List SObj} (hm : C.P.follows .mixedOrders = true) (hO : OrcOk C R) (hf : C.P.funcs[f]? = some fn) (hb : fn.body = some c)
 (H : evK C R (C.fl f) c (retR C.P fn s) (initSt fn rs sg) = some q) : RawOk C.P f s rs sg q := by
 intro E w vs hfr hn ho hl hr
 refine (callsIn_wide (n := 0)).1 (callsIn_of_wp_marks hf hb trivial (sim_code hm hO c (.inl rfl) H (init_rel hfr hn ho hl hr) fun out E' st' a' w1 h1 h0 h2' h3' hout' => ?_))
 obtain ⟨ms, e0, M, -⟩ := h0
 rw [List.append_nil] at e0
 have fin : (s.results.filter isOwn).length ≤ 1 → ∀ ds', resOfs C.P s.lock st' s.results fn.results.toList = some ds' → q = (ds', match s.lock with
  | true => kill st'.sg (fn.results.toList.flatMap (arrsOf st'))
  | false => st'.sg) → ∀ w', Rel E' st' a' w'.heap → Pr Ours E w.heap E' w'.heap → Outer w w' → ∃ v, (results fn a'.tmps).run C.P w' = .ok v w' ∧ Outer w w' ∧ ∃ v' E2, Ending.returned v = .returned v' ∧ Pr Ours E w.heap E2 w'.heap ∧
  (∀ b o, w'.heap.size ≤ b → E2.O b o = .other) ∧ q.2.length = E2.n ∧ (∀ (i : Nat) ob, q.2[i]? = some ob → RO E2 w'.heap i ob) ∧ RRes E2 w'.heap s.results q.1 v' := by
  intro h4 ds' k1 k2 w' h2 h3 hout
  obtain ⟨ks, hks⟩ : ∃ ks, (match s.lock with
   | true => fn.results.toList.flatMap (arrsOf st')
   | false => []) = ks := ⟨_, rfl⟩
  have hks1 : s.lock = true → ∀ v ∈ fn.results.toList, ∀ i ∈ arrsOf st' v, i ∈ ks := fun hl v hv i hi => by
   rw [← hks, hl]
   exact List.mem_flatMap.2 ⟨v, hv, hi⟩
  have hks2 : (match s.lock with
   | true => kill st'.sg (fn.results.toList.flatMap (arrsOf st'))
   | false => st'.sg) = kill st'.sg ks := by
   rw [← hks]
   cases s.lock <;> rfl
  rw [hks2] at k2
  clear hks2 hks
  subst k2
  obtain ⟨l1, l2, us, q1, q2, q3⟩ := resOfs_ok (us := ks) h2 hks1 k1
  have h2 : Rel (E'.re (shutTag ks)) { st' with sg := kill st'.sg ks } a' w'.heap := h2.shut ks
  have h3 : Pr Ours E w.heap (E'.re (shutTag ks)) w'.heap := h3.trans (Pr.re fun T hT => shutTag_id fun i _ he => hT (by rw [he]; simp [Ours]))
  clear hks1
  generalize hE : E'.re (shutTag ks) = E' at h2 h3 q3
  generalize hst : ({ st' with sg := kill st'.sg ks } : St) = st2 at h2
  have hgs : st2.sg = kill st'.sg ks := by rw [← hst]
  have hgt : ∀ t, st'.get t = st2.get t := fun t => by rw [← hst]; rfl
  rw [← hgs]
  simp only [hgt] at q3
  clear hgs hgt hst hE k1
  have pick : ∃ (i : Nat) (t : Nat), (∀ j : Nat, s.results[j]? = some MK.own → j = i ∧ fn.results.toList[j]? = some (.tmp t)) := by
   by_cases hx : ∃ i : Nat, s.results[i]? = some MK.own
   ·obtain ⟨i, hi⟩ := hx
    have hlt : i < s.results.length := (List.getElem?_eq_some_iff.1 hi).1
    have e2 : fn.results.toList[i]? = some (fn.results.toList[i]'(by omega)) := List.getElem?_eq_getElem (by omega)
    have e3 : ds'[i]? = some (ds'[i]'(by omega)) := List.getElem?_eq_getElem (by omega)
    have e4 : us[i]? = some (us[i]'(by omega)) := List.getElem?_eq_getElem (by omega)
    obtain ⟨t, ht, -⟩ := (q3 i _ _ _ _ hi e2 e3 e4).2 rfl
    exact ⟨i, t, fun j hj => by
     have := own_unique h4 hi hj
     subst this
     exact ⟨rfl, by rw [e2, ht]⟩⟩
   ·exact ⟨0, 0, fun j hj => absurd ⟨j, hj⟩ hx⟩
  obtain ⟨i0, t0, hpick⟩ := pick
  have Rl := h2.release (x := .tmp t0) (f := mvTag (.tmp t0) 3 i0) fun T hT => mvTag_id hT
  have hle : SealLe E'.S w'.heap (E'.re (mvTag (.tmp t0) 3 i0)).S w'.heap := re_le (mvTag_id (by simp))
  refine ⟨if h : us.toArray.size = 1 then us.toArray[0] else .tuple us.toArray, ?_, hout, _, E'.re (mvTag (.tmp t0) 3 i0), rfl, h3.trans (Pr.re fun T hT => mvTag_id fun s b _ he => hT (by rw [he]; simp [Ours])), Rl.fresh, ?_, ?_, l2, us, by omega, ?_, ?_⟩
  ·rw [results_eq]
   simp only [Sem.run_bind, q1, Result.andThen_ok, Sem.run_pure]
  ·exact h2.n
  ·intro i ob hi
   exact Rl.objs i ob hi
  ·match us with
   | [] => rfl
   | [u] => rfl
   | u :: u' :: us => rfl
  ·intro i k d v e1 e2 e3
   have hlt : i < s.results.length := (List.getElem?_eq_some_iff.1 e1).1
   have e4 : fn.results.toList[i]? = some (fn.results.toList[i]'(by omega)) := List.getElem?_eq_getElem (by omega)
   obtain ⟨a1, a2⟩ := q3 i k _ d v e1 e4 e2 e3
   cases k with
   | val => exact (a1 rfl).mono hle
   | own =>
     obtain ⟨t, ht, hroom, rfl, rfl⟩ := a2 rfl
     obtain ⟨rfl, hp⟩ := hpick i e1
     rw [e4, ht] at hp
     simp only [Option.some.injEq, ResultVar.tmp.injEq] at hp
     subst hp
     have hR : RR E' w'.heap 0 t (st2.get t).1 (st2.get t).2 (a'.tmps.getD t undef) := h2.src (P := C.P) (t := 0) (x := .tmp t) rfl
     have hR2 : RR (E'.re (mvTag (.tmp t) 3 i)) w'.heap 3 i (st2.get t).1 (st2.get t).2 (a'.tmps.getD t undef) :=
      hR.re (mvTag_id (by simp)) (mvTag_id (by simp)) fun b => by simp [mvTag]
     show RM1 _ _ (.sp 3 i 0) _ .own _
     revert hR2
     unfold isRoom at hroom
     split at hroom
     ·rename_i hmm
      rw [hmm]
      rintro ⟨g1, ⟨a1, n1, g2⟩, sz, ds, g3⟩
      refine ⟨g1, sz, ds, g3, fun x len cap hx hlt => ?_⟩
      rw [g2] at hx
      simp only [Value.slice.injEq] at hx
      omega
     ·rename_i hmm
      rw [hmm]
      exact id
     ·cases hroom
 cases out with
 | exit i => simp [retR] at h1
 | normal =>
   simp only [retR] at h1
   obtain ⟨k0, h1⟩ := og_some h1
   obtain ⟨ds', k1, k2⟩ := ob_some h1
   simp only [Option.some.injEq] at k2
   show LeavesInM Fence.wide 0 C.P fn a'.tmps _ a'.defers .returning w1
   rw [e0]
   exact leaves_marks (fin (by simpa using k0) ds' k1 k2.symm) ms w1 M h2' h3' hout'
 | ret =>
   simp only [retR] at h1
   obtain ⟨k0, h1⟩ := og_some h1
   obtain ⟨ds', k1, k2⟩ := ob_some h1
   simp only [Option.some.injEq] at k2
   show LeavesInM Fence.wide 0 C.P fn a'.tmps _ a'.defers .returning w1
   rw [e0]
   exact leaves_marks (fin (by simpa using k0) ds' k1 k2.symm) ms w1 M h2' h3' hout'
end
structure CfgOk (C : Cfg) : Prop where
 mixed : C.P.follows .mixedOrders = true
 go : ∀ (f : Nat) fn, C.P.funcs[f]? = some fn → fn.name ≠ "runtime.NumGoroutine"
 prim : ∀ f p, C.prim f = some p → ∀ fn c, C.P.funcs[f]? = some fn → fn.body = some c → CutOk C.P c p
 clone : ∀ f, C.clone f = true → isGo C.P f = true ∧ CloneOk C.P f (C.csz f)
 mki : ∀ f g, C.mki f = some g → isGo C.P f = true ∧ MkOk C.P f g (C.csz f)
 iter : ∀ g it, C.iter g = some it → isGo C.P g = true ∧ IterOk C.P g it
theorem isGo_of {C : Cfg} (hC : CfgOk C) {f : Nat} {fn : Func} {c : Code} (hf : C.P.funcs[f]? = some fn) (hb : fn.body = some c) : isGo C.P f = true := by
 unfold isGo
 rw [hf]
 simp [hC.go f fn hf, hb]
theorem step_ok {C : Cfg} {R : Orc} (hC : CfgOk C) (hO : OrcOk C R) : OrcOk C (stepOrc C R) := by
 refine ⟨fun f ds d H => ?_, fun f rs sg q H => ?_, hC.clone, hC.mki, hC.iter⟩
 ·simp only [stepOrc] at H
  obtain ⟨fn, hf, H⟩ := ob_some H
  obtain ⟨c, hb, H⟩ := ob_some H
  exact ⟨isGo_of hC hf hb, pure_ok hC.mixed hO hf hb (fun p hp => hC.prim f p hp fn c hf hb) H⟩
 ·simp only [stepOrc] at H
  obtain ⟨s, hs, H⟩ := ob_some H
  obtain ⟨fn, hf, H⟩ := ob_some H
  obtain ⟨c, hb, H⟩ := ob_some H
  exact ⟨s, hs, isGo_of hC hf hb, raw_ok hC.mixed hO hf hb H⟩
theorem orcN_ok {C : Cfg} (hC : CfgOk C) : ∀ n, OrcOk C (orcN C n)
 | 0 => ⟨fun f ds d H => by simp [orcN] at H, fun f rs sg q H => by simp [orcN] at H, hC.clone, hC.mki, hC.iter⟩
 | n + 1 => step_ok hC (orcN_ok hC n)
theorem run_ok {C : Cfg} (hC : CfgOk C) : OrcOk C (run C) := by
 refine ⟨fun f ds d H => ?_, fun f rs sg q H => ?_, hC.clone, hC.mki, hC.iter⟩
 ·simp only [run] at H
  split at H
  ·rename_i h
   simp only [Option.some.injEq] at H
   obtain ⟨n, hn⟩ := h.choose_spec
   rw [H] at hn
   exact (orcN_ok hC n).p f ds d hn
  ·cases H
 ·simp only [run] at H
  split at H
  ·rename_i h
   simp only [Option.some.injEq] at H
   obtain ⟨n, hn⟩ := h.choose_spec
   rw [H] at hn
   exact (orcN_ok hC n).r f rs sg q hn
  ·cases H
end Go.Su

/-
 THE DATA MACHINE, part 28: more is known of the functions that are called: more comes out.
-/
namespace Go.Su
structure OLe (R R' : Orc) : Prop where
 p : ∀ f ds d, R.p f ds = some d → R'.p f ds = some d
 r : ∀ f rs sg q, R.r f rs sg = some q → R'.r f rs sg = some q
theorem OLe.refl (R : Orc) : OLe R R := ⟨fun _ _ _ h => h, fun _ _ _ _ h => h⟩
theorem OLe.trans {R S T : Orc} (a : OLe R S) (b : OLe S T) : OLe R T := ⟨fun f ds d h => b.p f ds d (a.p f ds d h), fun f rs sg q h => b.r f rs sg q (a.r f rs sg q h)⟩
section
variable {C : Cfg} {R : Orc} {fl : Flags} {o : Oper} {st s : St}
theorem evOp_asks (H : evOp C R fl o st some = some s) : (∀ R' : Orc, evOp C R' fl o st some = some s) ∨
 (∃ f ds d, R.p f ds = some d ∧ ∀ R' : Orc, R'.p f ds = some d → evOp C R' fl o st some = some s) ∨
 (∃ f rs sg q, R.r f rs sg = some q ∧ ∀ R' : Orc, R'.r f rs sg = some q → evOp C R' fl o st some = some s) := by
 have H0 := H
 unfold evOp at H
 split at H
 case h_24 c hop =>
  unfold evCall at H
  split at H
  ·rename_i b hb
   refine .inl fun R' => ?_
   rw [← H0]
   simp only [evOp, hop, evCall, hb]
  ·rename_i y hy
   obtain ⟨r, h1, H⟩ := ob_some H
   obtain ⟨rs, h2, H⟩ := ob_some H
   split at H
   ·rename_i g caps hm
    have hev : ∀ R' : Orc, evOp C R' fl o st some = callF C R' o g c.args.toList (rs ++ caps.map fun m => (.undef, .ptr m.1 m.2)) st some := by
     intro R'
     simp only [evOp, hop, evCall, hy, h1, h2, ob_mk, hm]
    generalize rs ++ caps.map (fun m => ((.undef, .ptr m.1 m.2) : DV × Meta)) = rs' at H hev
    by_cases hcl : C.clone g = true
    ·refine .inl fun R' => ?_
     rw [← H0, hev, hev]
     simp only [callF, if_pos hcl]
    ·unfold callF at H
     rw [if_neg hcl] at H
     cases hmk : C.mki g with
     | some g' =>
       refine .inl fun R' => ?_
       rw [← H0, hev, hev]
       simp only [callF, if_neg hcl, hmk]
     | none =>
     rw [hmk] at H
     simp only at H
     split at H
     ·rename_i hs
      obtain ⟨h3, H⟩ := og_some H
      obtain ⟨d, h4, H⟩ := ob_some H
      refine .inr (.inl ⟨g, _, d, h4, fun R' h => ?_⟩)
      rw [hev]
      simp only [callF, if_neg hcl, hmk, hs, h3, og_mk, h, ob_mk]
      exact H
     ·rename_i sg hs
      obtain ⟨h3, H⟩ := og_some H
      obtain ⟨q, h4, H⟩ := ob_some H
      refine .inr (.inr ⟨g, _, _, q, h4, fun R' h => ?_⟩)
      rw [hev]
      simp only [callF, if_neg hcl, hmk, hs, h3, og_mk, h, ob_mk]
      exact H
   ·simp at H
  ·simp at H
 all_goals first
  | (simp at H; done)
  | (rename_i hop
     refine .inl fun R' => ?_
     rw [← H0]
     simp only [evOp, hop])
theorem evOp_mono {R' : Orc} (hR : OLe R R') (H : evOp C R fl o st some = some s) : evOp C R' fl o st some = some s := by
 rcases evOp_asks H with h | ⟨f, ds, d, h1, h2⟩ | ⟨f, rs, sg, q, h1, h2⟩
 ·exact h R'
 ·exact h2 R' (hR.p _ _ _ h1)
 ·exact h2 R' (hR.r _ _ _ _ h1)
structure Lim (Rs : Nat → Orc) (R : Orc) : Prop where
 up : ∀ n, OLe (Rs n) (Rs (n + 1))
 p : ∀ f ds d, R.p f ds = some d → ∃ n, (Rs n).p f ds = some d
 r : ∀ f rs sg q, R.r f rs sg = some q → ∃ n, (Rs n).r f rs sg = some q
theorem Lim.le {Rs : Nat → Orc} (L : Lim Rs R) {n m : Nat} (h : n ≤ m) : OLe (Rs n) (Rs m) := by
 induction m with
 | zero => rw [Nat.le_zero.1 h]; exact OLe.refl _
 | succ m ih =>
   rcases Nat.lt_or_ge m n with h1 | h1
   ·rw [show n = m + 1 by omega]; exact OLe.refl _
   ·exact (ih h1).trans (L.up m)
theorem evOp_lim {Rs : Nat → Orc} (L : Lim Rs R) (H : evOp C R fl o st some = some s) : ∃ n, evOp C (Rs n) fl o st some = some s := by
 rcases evOp_asks H with h | ⟨f, ds, d, h1, h2⟩ | ⟨f, rs, sg, q, h1, h2⟩
 ·exact ⟨0, h _⟩
 ·obtain ⟨n, hn⟩ := L.p _ _ _ h1; exact ⟨n, h2 _ hn⟩
 ·obtain ⟨n, hn⟩ := L.r _ _ _ _ h1; exact ⟨n, h2 _ hn⟩
variable {ops : List Oper}
theorem RunG.mono {R' : Orc} {s1 : St} (hR : OLe R R') (H : RunG C R fl ops o s s1) : RunG C R' fl ops o s s1 := by
 unfold RunG at H ⊢
 split at H
 ·exact evOp_mono hR H
 ·obtain ⟨t, h1, h2, h3⟩ := H
  exact ⟨t, h1, h2, h3.imp (fun h => ⟨h.1, evOp_mono hR h.2⟩) id⟩
theorem RunG.lim {Rs : Nat → Orc} {s1 : St} (L : Lim Rs R) (H : RunG C R fl ops o s s1) : ∃ n, RunG C (Rs n) fl ops o s s1 := by
 unfold RunG at H ⊢
 split at H
 ·exact evOp_lim L H
 ·obtain ⟨t, h1, h2, h3⟩ := H
  rcases h3 with ⟨h3, h4⟩ | h3
  ·obtain ⟨n, hn⟩ := evOp_lim L h4
   exact ⟨n, t, h1, h2, .inl ⟨h3, hn⟩⟩
  ·exact ⟨0, t, h1, h2, .inr h3⟩
end
end Go.Su

/-
 THE DATA MACHINE, part 29: regions and code, when more is known.
-/
namespace Go.Su
section
variable {X : Type} {C : Cfg} {R : Orc} {fl : Flags} {o : Oper} {st s : St} {ops : List Oper}
theorem evOp_to {s1 : St} (H : evOp C R fl o st some = some s1) (k : St → Option X) : evOp C R fl o st k = k s1 := by
 obtain ⟨s, h1, h2⟩ := evOp_nat H
 simp only [Option.some.injEq] at h1
 subst h1
 exact h2 X k
theorem evOps_to {os : List Oper} {s1 : St} (H : RunG C R fl ops o st s1) (k : St → Option X) : evOps C R fl ops (o :: os) st k = evOps C R fl ops os s1 k := by
 simp only [evOps, forceSt_eq]
 unfold RunG at H
 split at H
 ·rename_i hg
  simp only [hg]
  exact evOp_to H _
 ·rename_i g want hg
  obtain ⟨t, h1, h2, h3⟩ := H
  simp only [hg, h1, ob_mk, h2, og_mk]
  rcases h3 with ⟨h3, h4⟩ | ⟨h3, h4⟩
  ·rw [h3]
   cases want <;> simp only [ogd, if_true, Bool.false_eq_true, if_false] <;> rw [know_self h3 (by simp)] <;> exact evOp_to h4 _
  ·subst h4
   cases want <;> simp only [Bool.not_true, Bool.not_false] at h3 <;> rcases h3 with h3 | h3 <;> simp only [h3, ogd, if_true, Bool.false_eq_true, if_false] <;> rw [know_self h3 (by simp)]
theorem evDraw_to {bf : List (List Nat)} {os : List Oper} {i : Nat} {acc : List (Nat × Fp)} {s1 : St} (H : RunG C R fl ops o st s1) (k : St → Option X) :
 evDraw C R fl ops bf (o :: os) i acc st k = og (mayCome bf i acc ((fpG C fl ops o st).locs st s1)) (evDraw C R fl ops bf os (i + 1) ((i, (fpG C fl ops o st).locs st s1) :: acc) s1 k) := by
 have H0 := H
 simp only [evDraw, forceSt_eq, forceFp_eq]
 unfold RunG at H
 split at H
 ·rename_i hg
  simp only [hg]
  rw [evOp_to H, fpG_none hg]
  rfl
 ·rename_i g want hg
  obtain ⟨t, h1, h2, h3⟩ := H
  rw [fpG_some hg h1]
  simp only [hg, h1, ob_mk, h2, og_mk]
  rcases h3 with ⟨h3, h4⟩ | ⟨h3, h4⟩
  ·rw [if_pos (isB_iff.2 h3)]
   rw [h3]
   cases want <;> simp only [ogd, if_true, Bool.false_eq_true, if_false, drawRun] <;> rw [know_self h3 (by simp), evOp_to h4] <;> rfl
  ·have hB : ¬ (isB want (st.get t).1 = true) := by
    rw [isB_iff]
    rcases h3 with h | h <;> rw [h] <;> cases want <;> simp
   rw [if_neg hB]
   subst h4
   cases want <;> simp only [Bool.not_true, Bool.not_false] at h3 <;> rcases h3 with h3 | h3 <;> simp only [h3, ogd, if_true, Bool.false_eq_true, if_false, drawSkip] <;> rw [know_self h3 (by simp)] <;> rfl
end
end Go.Su

/-
 THE DATA MACHINE, part 30: the code's answers are limits; the program's functions are what one step makes of them.
-/
namespace Go.Su
section
variable {X : Type} {C : Cfg} {fl : Flags}
def Evt (p : Nat → Prop) : Prop := ∃ n, ∀ m, n ≤ m → p m
theorem Evt.mono {p q : Nat → Prop} (h : Evt p) (f : ∀ m, p m → q m) : Evt q := h.imp fun _ h m hm => f m (h m hm)
theorem Evt.and {p q : Nat → Prop} (h : Evt p) (h' : Evt q) : Evt fun m => p m ∧ q m := by
 obtain ⟨n, hn⟩ := h
 obtain ⟨k, hk⟩ := h'
 exact ⟨n + k, fun m hm => ⟨hn m (by omega), hk m (by omega)⟩⟩
theorem Evt.all {p : Nat → Prop} (h : ∀ m, p m) : Evt p := ⟨0, fun m _ => h m⟩
theorem evOps_lim {R : Orc} {Rs : Nat → Orc} (L : Lim Rs R) {ops : List Oper} {k : St → Option X} {ks : Nat → St → Option X} (hk : ∀ st x, k st = some x → Evt fun m => ks m st = some x) :
 ∀ {os : List Oper} {st : St} {x : X}, evOps C R fl ops os st k = some x → Evt fun m => evOps C (Rs m) fl ops os st (ks m) = some x
 | [], st, x, H => by
   simp only [evOps] at H ⊢
   exact hk st x H
 | o :: os, st, x, H => by
   obtain ⟨s1, h1, h2⟩ := evOps_step H
   obtain ⟨n, hn⟩ := h1.lim L
   refine (Evt.and ⟨n, fun m hm => hn.mono (L.le hm)⟩ (evOps_lim L hk h2)).mono fun m h => ?_
   rw [evOps_to h.1]
   exact h.2
theorem evDraw_lim {R : Orc} {Rs : Nat → Orc} (L : Lim Rs R) {ops : List Oper} {bf : List (List Nat)} {k : St → Option X} {ks : Nat → St → Option X} (hk : ∀ st x, k st = some x → Evt fun m => ks m st = some x) :
 ∀ {os : List Oper} {i : Nat} {acc : List (Nat × Fp)} {st : St} {x : X}, evDraw C R fl ops bf os i acc st k = some x → Evt fun m => evDraw C (Rs m) fl ops bf os i acc st (ks m) = some x
 | [], i, acc, st, x, H => by
   simp only [evDraw] at H ⊢
   exact hk st x H
 | o :: os, i, acc, st, x, H => by
   obtain ⟨s1, h1, h2, h3⟩ := evDraw_step H
   obtain ⟨n, hn⟩ := h1.lim L
   refine (Evt.and ⟨n, fun m hm => hn.mono (L.le hm)⟩ (evDraw_lim L hk h3)).mono fun m h => ?_
   rw [evDraw_to h.1, h2]
   exact h.2
theorem closeAt_nat {X : Type} {fl : Flags} {id : Nat} {st : St} {k : St → Option X} {x : X} (H : closeAt fl id st k = some x) : ∃ s, k s = some x ∧ ∀ (Y : Type) (k' : St → Option Y), closeAt fl id st k' = k' s := by
 unfold closeAt at H
 split at H
 ·rename_i e he
  unfold closeSt at H
  split at H
  ·rename_i i sz len hm
   obtain ⟨q, h1, H⟩ := ob_some H
   obtain ⟨d, h2, H⟩ := ob_some H
   exact ⟨_, H, fun Y k' => by simp only [closeAt, he, closeSt, hm, h1, h2, ob_mk]⟩
  ·rename_i b off hm
   obtain ⟨cs, h1, H⟩ := ob_some H
   obtain ⟨a, h2, H⟩ := ob_some H
   obtain ⟨q, h3, H⟩ := ob_some H
   obtain ⟨d, h4, H⟩ := ob_some H
   exact ⟨_, H, fun Y k' => by simp only [closeAt, he, closeSt, hm, h1, h2, h3, h4, ob_mk]⟩
  ·cases H
 ·rename_i he
  exact ⟨st, H, fun Y k' => by simp only [closeAt, he]⟩
theorem closeAt_lim {X : Type} {fl : Flags} {id : Nat} {k : St → Option X} {ks : Nat → St → Option X} (hk : ∀ st x, k st = some x → Evt fun m => ks m st = some x) (st : St) (x : X) (H : closeAt fl id st k = some x) : Evt fun m => closeAt fl id st (ks m) = some x := by
 obtain ⟨s, h1, h2⟩ := closeAt_nat H
 exact (hk s x h1).mono fun m h => by rw [h2]; exact h
theorem evK_lim : ∀ (c : Code) {R : Orc} {Rs : Nat → Orc} {K : Out → St → Option X} {Ks : Nat → Out → St → Option X} {st : St} {x : X}, Lim Rs R →
 (∀ o st x, K o st = some x → Evt fun m => Ks m o st = some x) → evK C R fl c K st = some x → Evt fun m => evK C (Rs m) fl c (Ks m) st = some x := by
 intro c
 induction c with
 | skip =>
   intro R Rs K Ks st x L hK H
   simp only [evK] at H ⊢
   exact hK _ _ _ H
 | region id ops d =>
   intro R Rs K Ks st x L hK H
   cases d
   ·simp only [evK] at H ⊢
    exact evOps_lim L (closeAt_lim (hK .normal)) H
   ·simp only [evK, forceNss_eq] at H ⊢
    obtain ⟨h1, H⟩ := og_some H
    simp only [h1, og_mk]
    exact evDraw_lim L (closeAt_lim (hK .normal)) H
 | seq c d ihc ihd =>
   intro R Rs K Ks st x L hK H
   simp only [evK] at H ⊢
   refine ihc L ?_ H
   intro o s y h
   cases o with
   | normal => exact ihd L hK h
   | exit i => exact hK _ _ _ h
   | ret => exact hK _ _ _ h
 | cond y c d ihc ihd =>
   intro R Rs K Ks st x L hK H
   simp only [evK, evCond] at H ⊢
   obtain ⟨r, h1, H⟩ := ob_some H
   obtain ⟨h2, H⟩ := og_some H
   simp only [h1, ob_mk, h2, og_mk]
   cases y with
   | tmp t =>
     simp only at H ⊢
     rcases oif_some H with ⟨h3, h4⟩ | ⟨h3, h4⟩ <;> rw [h3]
     ·exact ihc L hK h4
     ·exact ihd L hK h4
   | _ =>
     rcases oif_some H with ⟨h3, h4⟩ | ⟨h3, h4⟩ <;> rw [h3]
     ·exact ihc L hK h4
     ·exact ihd L hK h4
 | block id c ih =>
   intro R Rs K Ks st x L hK H
   simp only [evK] at H ⊢
   refine ih L ?_ H
   intro o s y h
   cases o with
   | normal => exact hK _ _ _ h
   | exit i =>
     simp only at h ⊢
     by_cases hi : i = id
     ·simp only [if_pos hi] at h ⊢; exact hK _ _ _ h
     ·simp only [if_neg hi] at h ⊢; exact hK _ _ _ h
   | ret => exact hK _ _ _ h
 | loop c ih =>
   intro R Rs K Ks st x L hK H
   simp only [evK] at H ⊢
   obtain ⟨n, H9⟩ := loopL_some H
   clear H
   have up : ∀ m, Evt (fun m' => iter (fun J st => evK C (Rs m) fl c (fun o st => match o with
    | .normal => J (clean fl c st)
    | .exit i => Ks m (.exit i) st
    | .ret => Ks m .ret st) st) m' (clean fl c st) = some x) → loopL (fun J st => evK C (Rs m) fl c (fun o st => match o with
    | .normal => J (clean fl c st)
    | .exit i => Ks m (.exit i) st
    | .ret => Ks m .ret st) st) (clean fl c st) = some x := by
    intro m h
    generalize clean fl c st = st9 at h ⊢
    have mono : ∀ k s y, iter (fun J st => evK C (Rs m) fl c (fun o st => match o with
     | .normal => J (clean fl c st)
     | .exit i => Ks m (.exit i) st
     | .ret => Ks m .ret st) st) k s = some y → iter (fun J st => evK C (Rs m) fl c (fun o st => match o with
     | .normal => J (clean fl c st)
     | .exit i => Ks m (.exit i) st
     | .ret => Ks m .ret st) st) (k + 1) s = some y := by
     intro k
     induction k with
     | zero => intro s y h; simp [iter] at h
     | succ k ihk =>
       intro s y h
       rw [iter] at h ⊢
       have := ih (R := Rs m) (Rs := fun _ => Rs m) (Ks := fun _ o st => match o with
        | .normal => iter (fun J st => evK C (Rs m) fl c (fun o st => match o with
     | .normal => J (clean fl c st)
     | .exit i => Ks m (.exit i) st
     | .ret => Ks m .ret st) st) (k + 1) (clean fl c st)
        | .exit i => Ks m (.exit i) st
        | .ret => Ks m .ret st) ⟨fun _ => OLe.refl _, fun _ _ _ h => ⟨0, h⟩, fun _ _ _ _ h => ⟨0, h⟩⟩ ?_ h
       ·obtain ⟨n, hn⟩ := this
        exact hn n (Nat.le_refl _)
       ·intro o s y h
        refine Evt.all fun _ => ?_
        cases o with
        | normal => exact ihk _ _ h
        | exit i => exact h
        | ret => exact h
    obtain ⟨k, hk⟩ := h
    unfold loopL
    have he : ∃ x n, iter (fun J st => evK C (Rs m) fl c (fun o st => match o with
     | .normal => J (clean fl c st)
     | .exit i => Ks m (.exit i) st
     | .ret => Ks m .ret st) st) n st9 = some x := ⟨x, k, hk k (Nat.le_refl _)⟩
    rw [dif_pos he]
    obtain ⟨j, hj⟩ := he.choose_spec
    have le : ∀ a b s y, a ≤ b → iter (fun J st => evK C (Rs m) fl c (fun o st => match o with
     | .normal => J (clean fl c st)
     | .exit i => Ks m (.exit i) st
     | .ret => Ks m .ret st) st) a s = some y → iter (fun J st => evK C (Rs m) fl c (fun o st => match o with
     | .normal => J (clean fl c st)
     | .exit i => Ks m (.exit i) st
     | .ret => Ks m .ret st) st) b s = some y := by
     intro a b s y hab h
     induction b with
     | zero => rw [Nat.le_zero.1 hab] at h; exact h
     | succ b ihb =>
       rcases Nat.lt_or_ge b a with h1 | h1
       ·rw [show b + 1 = a by omega]; exact h
       ·exact mono _ _ _ (ihb h1)
    have h1 := le j (j + k) _ _ (by omega) hj
    have h2 := le k (j + k) _ _ (by omega) (hk k (Nat.le_refl _))
    rw [h1] at h2
    exact h2
   have main : Evt fun m => Evt fun m' => iter (fun J st => evK C (Rs m) fl c (fun o st => match o with
    | .normal => J (clean fl c st)
    | .exit i => Ks m (.exit i) st
    | .ret => Ks m .ret st) st) m' (clean fl c st) = some x := by
    have lim : ∀ k s y, iter (fun J st => evK C R fl c (fun o st => match o with
     | .normal => J (clean fl c st)
     | .exit i => K (.exit i) st
     | .ret => K .ret st) st) k s = some y → Evt fun m => iter (fun J st => evK C (Rs m) fl c (fun o st => match o with
     | .normal => J (clean fl c st)
     | .exit i => Ks m (.exit i) st
     | .ret => Ks m .ret st) st) k s = some y := by
     intro k
     induction k with
     | zero => intro s y h; simp [iter] at h
     | succ k ihk =>
       intro s y h
       simp only [iter] at h ⊢
       refine ih L ?_ h
       intro o s y h
       cases o with
       | normal => exact ihk _ _ h
       | exit i => exact hK _ _ _ h
       | ret => exact hK _ _ _ h
    obtain ⟨k, hk⟩ := lim n _ _ H9
    refine ⟨k, fun m hm => ⟨n, fun m' hm' => ?_⟩⟩
    have h0 := hk m hm
    have mono : ∀ k s y, iter (fun J st => evK C (Rs m) fl c (fun o st => match o with
     | .normal => J (clean fl c st)
     | .exit i => Ks m (.exit i) st
     | .ret => Ks m .ret st) st) k s = some y → iter (fun J st => evK C (Rs m) fl c (fun o st => match o with
     | .normal => J (clean fl c st)
     | .exit i => Ks m (.exit i) st
     | .ret => Ks m .ret st) st) (k + 1) s = some y := by
     intro k
     induction k with
     | zero => intro s y h; simp [iter] at h
     | succ k ihk =>
       intro s y h
       rw [iter] at h ⊢
       have := ih (R := Rs m) (Rs := fun _ => Rs m) (Ks := fun _ o st => match o with
        | .normal => iter (fun J st => evK C (Rs m) fl c (fun o st => match o with
     | .normal => J (clean fl c st)
     | .exit i => Ks m (.exit i) st
     | .ret => Ks m .ret st) st) (k + 1) (clean fl c st)
        | .exit i => Ks m (.exit i) st
        | .ret => Ks m .ret st) ⟨fun _ => OLe.refl _, fun _ _ _ h => ⟨0, h⟩, fun _ _ _ _ h => ⟨0, h⟩⟩ ?_ h
       ·obtain ⟨n, hn⟩ := this
        exact hn n (Nat.le_refl _)
       ·intro o s y h
        refine Evt.all fun _ => ?_
        cases o with
        | normal => exact ihk _ _ h
        | exit i => exact h
        | ret => exact h
    induction m' with
    | zero => rw [Nat.le_zero.1 hm'] at h0; exact h0
    | succ b ihb =>
      rcases Nat.lt_or_ge b n with h1 | h1
      ·rw [show b + 1 = n by omega]; exact h0
      ·exact mono _ _ _ (ihb h1)
   exact main.mono up
 | rangeFunc g ps assign body iha ihb =>
   intro R Rs K Ks st x L hK H
   simp only [evK] at H ⊢
   have H9 := evItr_some H
   clear H
   obtain ⟨t, p, f, i, it, cs, cd, ds, rfl, h1, h2, h3, h4, h5, h6, h7, H⟩ := H9
   simp only [h7, evItr_mk h1 h2 h3 h4 h5 h6]
   clear h6
   generalize st.sg.set i (.arr 1 []) = sg at H
   induction ds generalizing sg x with
   | nil => exact hK _ _ _ H
   | cons d ds ih =>
     simp only [foldIt] at H ⊢
     refine iha L ?_ H
     intro o s y h
     cases o with
     | exit e => cases h
     | ret => cases h
     | normal =>
       refine ihb L ?_ h
       intro o s y h
       cases o with
       | normal => exact ih _ h
       | exit e => exact hK _ _ _ h
       | ret => exact hK _ _ _ h
 | exit id =>
   intro R Rs K Ks st x L hK H
   simp only [evK] at H ⊢
   exact hK _ _ _ H
 | ret =>
   intro R Rs K Ks st x L hK H
   simp only [evK] at H ⊢
   exact hK _ _ _ H
 | _ =>
   intro R Rs K Ks st x L hK H
   simp [evK] at H
theorem step_lim {R : Orc} {Rs : Nat → Orc} (L : Lim Rs R) : (∀ f ds d, (stepOrc C R).p f ds = some d → Evt fun m => (stepOrc C (Rs m)).p f ds = some d) ∧
 (∀ f rs sg q, (stepOrc C R).r f rs sg = some q → Evt fun m => (stepOrc C (Rs m)).r f rs sg = some q) := by
 constructor
 ·intro f ds d H
  simp only [stepOrc] at H ⊢
  obtain ⟨fn, h1, H⟩ := ob_some H
  obtain ⟨c, h2, H⟩ := ob_some H
  simp only [h1, ob_mk, h2]
  cases hq : C.prim f with
  | none =>
    rw [hq] at H
    exact evK_lim c L (fun o st x h => Evt.all fun _ => h) H
  | some p =>
    rw [hq] at H
    refine evK_lim (seqs p.pre .skip) L (fun o st x h => ?_) H
    cases o with
    | exit i => simp [cutK] at h
    | ret => exact Evt.all fun _ => h
    | normal =>
      simp only [cutK] at h ⊢
      obtain ⟨st2, k1, k2⟩ := ob_some h
      simp only [k1, ob_mk]
      exact evK_lim p.post L (fun o st x h => Evt.all fun _ => h) k2
 ·intro f rs sg q H
  simp only [stepOrc] at H ⊢
  obtain ⟨s, h0, H⟩ := ob_some H
  obtain ⟨fn, h1, H⟩ := ob_some H
  obtain ⟨c, h2, H⟩ := ob_some H
  simp only [h0, h1, ob_mk, h2]
  exact evK_lim c L (fun o st x h => Evt.all fun _ => h) H
theorem step_mono {R R' : Orc} (h : OLe R R') : OLe (stepOrc C R) (stepOrc C R') := by
 have L : Lim (fun _ => R') R := ⟨fun _ => OLe.refl _, fun _ _ _ k => ⟨0, h.p _ _ _ k⟩, fun _ _ _ _ k => ⟨0, h.r _ _ _ _ k⟩⟩
 constructor
 ·intro f ds d H
  obtain ⟨n, hn⟩ := (step_lim L).1 f ds d H
  exact hn n (Nat.le_refl _)
 ·intro f rs sg q H
  obtain ⟨n, hn⟩ := (step_lim L).2 f rs sg q H
  exact hn n (Nat.le_refl _)
theorem orcN_up (n : Nat) : OLe (orcN C n) (orcN C (n + 1)) := by
 induction n with
 | zero => exact ⟨fun _ _ _ h => by simp [orcN] at h, fun _ _ _ _ h => by simp [orcN] at h⟩
 | succ n ih => exact step_mono ih
theorem orcN_le {n m : Nat} (h : n ≤ m) : OLe (orcN C n) (orcN C m) := by
 induction m with
 | zero => rw [Nat.le_zero.1 h]; exact OLe.refl _
 | succ m ih =>
   rcases Nat.lt_or_ge m n with h1 | h1
   ·rw [show n = m + 1 by omega]; exact OLe.refl _
   ·exact (ih h1).trans (orcN_up m)
theorem run_lim : Lim (orcN C) (run C) := by
 refine ⟨orcN_up, fun f ds d H => ?_, fun f rs sg q H => ?_⟩
 ·simp only [run] at H
  split at H
  ·rename_i h
   simp only [Option.some.injEq] at H
   rw [← H]
   exact h.choose_spec
  ·cases H
 ·simp only [run] at H
  split at H
  ·rename_i h
   simp only [Option.some.injEq] at H
   rw [← H]
   exact h.choose_spec
  ·cases H
theorem orc_run (n : Nat) : OLe (orcN C n) (run C) := by
 constructor
 ·intro f ds d H
  have h : ∃ x n, (orcN C n).p f ds = some x := ⟨d, n, H⟩
  simp only [run, dif_pos h]
  obtain ⟨m, hm⟩ := h.choose_spec
  have h1 := (orcN_le (C := C) (Nat.le_add_right n m)).p _ _ _ H
  have h2 := (orcN_le (C := C) (Nat.le_add_left m n)).p _ _ _ hm
  rw [h1] at h2
  exact h2.symm
 ·intro f rs sg q H
  have h : ∃ x n, (orcN C n).r f rs sg = some x := ⟨q, n, H⟩
  simp only [run, dif_pos h]
  obtain ⟨m, hm⟩ := h.choose_spec
  have h1 := (orcN_le (C := C) (Nat.le_add_right n m)).r _ _ _ _ H
  have h2 := (orcN_le (C := C) (Nat.le_add_left m n)).r _ _ _ _ hm
  rw [h1] at h2
  exact h2.symm
theorem run_step : OLe (stepOrc C (run C)) (run C) := by
 constructor
 ·intro f ds d H
  obtain ⟨n, hn⟩ := (step_lim run_lim).1 f ds d H
  exact (orc_run (n + 1)).p _ _ _ (hn n (Nat.le_refl _))
 ·intro f rs sg q H
  obtain ⟨n, hn⟩ := (step_lim run_lim).2 f rs sg q H
  exact (orc_run (n + 1)).r _ _ _ _ (hn n (Nat.le_refl _))
end
end Go.Su

/-
 THE DATA MACHINE, part 31: places in a code; what a loop's head says of itself.
-/
namespace Go.Su
section
variable {X : Type} (C : Cfg) (R : Orc) (fl : Flags)
noncomputable def loopF (b : Code) (K : Out → St → Option X) : (St → Option X) → St → Option X := fun J st => evK C R fl b (fun o st => match o with
 | .normal => J (clean fl b st)
 | .exit i => K (.exit i) st
 | .ret => K .ret st) st
theorem evK_loop (b : Code) (K : Out → St → Option X) (st : St) : evK C R fl (.loop b) K st = loopL (loopF C R fl b K) (clean fl b st) := rfl
theorem loopF_lim {b : Code} {K : Out → St → Option X} {J : St → Option X} {Js : Nat → St → Option X} {st : St} {x : X}
 (hJ : ∀ st x, J st = some x → Evt fun m => Js m st = some x) (H : loopF C R fl b K J st = some x) : Evt fun m => loopF C R fl b K (Js m) st = some x := by
 refine evK_lim b (Rs := fun _ => R) ⟨fun _ => OLe.refl _, fun _ _ _ h => ⟨0, h⟩, fun _ _ _ _ h => ⟨0, h⟩⟩ ?_ H
 intro o st x h
 cases o with
 | normal => exact hJ _ _ h
 | exit i => exact Evt.all fun _ => h
 | ret => exact Evt.all fun _ => h
theorem loopF_mono {b : Code} {K : Out → St → Option X} {J J' : St → Option X} {st : St} {x : X}
 (hJ : ∀ st x, J st = some x → J' st = some x) (H : loopF C R fl b K J st = some x) : loopF C R fl b K J' st = some x := by
 obtain ⟨n, hn⟩ := loopF_lim C R fl (J := J) (Js := fun _ => J') (fun st x h => Evt.all fun _ => hJ st x h) H
 exact hn n (Nat.le_refl _)
theorem iter_up {b : Code} {K : Out → St → Option X} : ∀ {n m : Nat} {st : St} {x : X}, n ≤ m → iter (loopF C R fl b K) n st = some x → iter (loopF C R fl b K) m st = some x := by
 intro n
 induction n with
 | zero => intro m st x _ h; simp [iter] at h
 | succ n ih =>
   intro m st x hm h
   obtain ⟨m', rfl⟩ : ∃ m', m = m' + 1 := ⟨m - 1, by omega⟩
   simp only [iter] at h ⊢
   exact loopF_mono C R fl (fun st x h => ih (by omega) h) h
theorem loopL_of_iter {b : Code} {K : Out → St → Option X} {n : Nat} {st : St} {x : X} (h : iter (loopF C R fl b K) n st = some x) : loopL (loopF C R fl b K) st = some x := by
 have he : ∃ x n, iter (loopF C R fl b K) n st = some x := ⟨x, n, h⟩
 unfold loopL
 rw [dif_pos he]
 obtain ⟨j, hj⟩ := he.choose_spec
 have h1 := iter_up C R fl (Nat.le_add_right j n) hj
 have h2 := iter_up C R fl (Nat.le_add_left n j) h
 rw [h1] at h2
 exact h2
theorem loop_fix (b : Code) (K : Out → St → Option X) (st : St) : loopL (loopF C R fl b K) st = loopF C R fl b K (loopL (loopF C R fl b K)) st := by
 have h1 : ∀ x, loopL (loopF C R fl b K) st = some x → loopF C R fl b K (loopL (loopF C R fl b K)) st = some x := by
  intro x h
  obtain ⟨n, hn⟩ := loopL_some h
  cases n with
  | zero => simp [iter] at hn
  | succ n => exact loopF_mono C R fl (fun st x h => loopL_of_iter C R fl h) hn
 have h2 : ∀ x, loopF C R fl b K (loopL (loopF C R fl b K)) st = some x → loopL (loopF C R fl b K) st = some x := by
  intro x h
  obtain ⟨n, hn⟩ := loopF_lim C R fl (J := loopL (loopF C R fl b K)) (Js := iter (loopF C R fl b K)) (fun st x h => by
   obtain ⟨n, hn⟩ := loopL_some h
   exact ⟨n, fun m hm => iter_up C R fl hm hn⟩) h
  exact loopL_of_iter C R fl (n := n + 1) (hn n (Nat.le_refl _))
 cases h : loopL (loopF C R fl b K) st with
 | some x => exact (h1 x h).symm
 | none =>
   cases h' : loopF C R fl b K (loopL (loopF C R fl b K)) st with
   | none => rfl
   | some x => rw [h2 x h'] at h; exact h.symm
inductive Wait where
 | seq (b : Code)
 | blk (id : Nat)
 | lp (b : Code)
variable (K0 : Out → St → Option X)
noncomputable def kontOf : List Wait → Out → St → Option X
 | [] => K0
 | .seq b :: ks => fun o st => match o with
   | .normal => evK C R fl b (kontOf ks) (clean fl b st)
   | .exit i => kontOf ks (.exit i) st
   | .ret => kontOf ks .ret st
 | .blk id :: ks => fun o st => match o with
   | .normal => kontOf ks .normal st
   | .exit i => if i = id then kontOf ks .normal st else kontOf ks (.exit i) st
   | .ret => kontOf ks .ret st
 | .lp b :: ks => fun o st => match o with
   | .normal => loopL (loopF C R fl b (kontOf ks)) (clean fl b st)
   | .exit i => kontOf ks (.exit i) st
   | .ret => kontOf ks .ret st
noncomputable def evJ (c : Code) (ks : List Wait) (st : St) : Option X := evK C R fl c (kontOf C R fl K0 ks) st
noncomputable def headJ (b : Code) (ks : List Wait) (st : St) : Option X := loopL (loopF C R fl b (kontOf C R fl K0 ks)) st
section
variable (J JL : Code → List Wait → St → Option X) (cut : List Nat)
def popF (go : Code → List Wait → St → Option X) : List Wait → Out → St → Option X
 | [], o, st => K0 o st
 | .seq b :: ks, o, st => match o with
   | .normal => go b ks st
   | .exit i => popF go ks (.exit i) st
   | .ret => popF go ks .ret st
 | .blk id :: ks, o, st => match o with
   | .normal => popF go ks .normal st
   | .exit i => if i = id then popF go ks .normal st else popF go ks (.exit i) st
   | .ret => popF go ks .ret st
 | .lp b :: ks, o, st => match o with
   | .normal => JL b ks (clean fl b st)
   | .exit i => popF go ks (.exit i) st
   | .ret => popF go ks .ret st
def cutAt (b : Code) : Bool :=
 match headId b with
 | some id => cut.contains id
 | none => false
def startF (ev : Code → List Wait → St → Option X) (b : Code) (ks : List Wait) (st : St) : Option X :=
 match cutAt cut b with
 | true => J b ks (clean fl b st)
 | false => ev b ks (clean fl b st)
def evF : Nat → Code → List Wait → St → Option X
 | 0, c, ks, st => J c ks st
 | n + 1, c, ks, st =>
   match c with
   | .skip => popF fl K0 JL (startF fl J cut (evF n)) ks .normal st
   | .region id ops false => evOps C R fl ops.toList ops.toList (keepAt fl id st) fun st => closeAt fl id st fun st => popF fl K0 JL (startF fl J cut (evF n)) ks .normal st
   | .region id ops true => og (edgesOk 0 ops.toList) (forceNss (befores ops.toList []) fun bf => evDraw C R fl ops.toList bf ops.toList 0 [] (keepAt fl id st) fun st => closeAt fl id st fun st => popF fl K0 JL (startF fl J cut (evF n)) ks .normal st)
   | .seq a b => evF n a (.seq b :: ks) st
   | .cond c a b => evCond C.P c st (fun st => startF fl J cut (evF n) a ks st) (fun st => startF fl J cut (evF n) b ks st)
   | .block id b => evF n b (.blk id :: ks) st
   | .loop b => JL b ks (clean fl b st)
   | .rangeFunc g ps a b => J (.rangeFunc g ps a b) ks st
   | .exit id => popF fl K0 JL (startF fl J cut (evF n)) ks (.exit id) st
   | .ret => popF fl K0 JL (startF fl J cut (evF n)) ks .ret st
   | _ => none
end
theorem popF_eq {go : Code → List Wait → St → Option X} (h : ∀ b ks st, go b ks st = evK C R fl b (kontOf C R fl K0 ks) (clean fl b st)) : ∀ (ks : List Wait) (o : Out) (st : St),
 popF fl K0 (headJ C R fl K0) go ks o st = kontOf C R fl K0 ks o st
 | [], o, st => rfl
 | .seq b :: ks, o, st => by
   cases o with
   | normal => simp only [popF, kontOf, h]
   | exit i => simp only [popF, kontOf, popF_eq h ks]
   | ret => simp only [popF, kontOf, popF_eq h ks]
 | .blk id :: ks, o, st => by
   cases o with
   | normal => simp only [popF, kontOf, popF_eq h ks]
   | exit i => simp only [popF, kontOf, popF_eq h ks]
   | ret => simp only [popF, kontOf, popF_eq h ks]
 | .lp b :: ks, o, st => by
   cases o with
   | normal => simp only [popF, kontOf, headJ]
   | exit i => simp only [popF, kontOf, popF_eq h ks]
   | ret => simp only [popF, kontOf, popF_eq h ks]
theorem evF_eq (cut : List Nat) : ∀ (n : Nat) (c : Code) (ks : List Wait) (st : St), evF C R fl K0 (evJ C R fl K0) (headJ C R fl K0) cut n c ks st = evJ C R fl K0 c ks st := by
 intro n
 induction n with
 | zero => intro c ks st; rfl
 | succ n ih =>
   intro c ks st
   have hs : ∀ b ks st, startF fl (evJ C R fl K0) cut (evF C R fl K0 (evJ C R fl K0) (headJ C R fl K0) cut n) b ks st = evK C R fl b (kontOf C R fl K0 ks) (clean fl b st) := by
    intro b ks st
    unfold startF
    split
    ·rfl
    ·rw [ih]; rfl
   have hp : ∀ ks o st, popF fl K0 (headJ C R fl K0) (startF fl (evJ C R fl K0) cut (evF C R fl K0 (evJ C R fl K0) (headJ C R fl K0) cut n)) ks o st = kontOf C R fl K0 ks o st :=
    fun ks o st => popF_eq C R fl K0 hs ks o st
   cases c with
   | skip => simp only [evF, evJ, evK, hp]
   | region id ops d => cases d <;> simp only [evF, evJ, evK, hp]
   | seq a b => rw [evF, ih]; rfl
   | cond y a b => simp only [evF, evJ, evK, hs]
   | block id b => rw [evF, ih]; rfl
   | loop b => simp only [evF, evJ, evK_loop, headJ]
   | exit id => simp only [evF, evJ, evK, hp]
   | ret => simp only [evF, evJ, evK, hp]
   | _ => simp only [evF, evJ, evK]
def sub : List Bool → Code → List Wait → Code × List Wait
 | [], c, ks => (c, ks)
 | false :: p, .seq a b, ks => sub p a (.seq b :: ks)
 | true :: p, .seq _ b, ks => sub p b ks
 | false :: p, .cond _ a _, ks => sub p a ks
 | true :: p, .cond _ _ b, ks => sub p b ks
 | _ :: p, .block id b, ks => sub p b (.blk id :: ks)
 | _ :: p, .loop b, ks => sub p b (.lp b :: ks)
 | _ :: _, c, ks => (c, ks)
def lbody : Code → Code
 | .loop b => b
 | c => c
noncomputable def hide {α : Type} (a : α) : α := Classical.choose (⟨a, rfl⟩ : ∃ b, b = a)
theorem hide_eq {α : Type} (a : α) : hide a = a := Classical.choose_spec (⟨a, rfl⟩ : ∃ b, b = a)
noncomputable def evP (p : List Bool) (c : Code) (st : St) : Option X := hide (evJ C R fl K0) (sub p c []).1 (sub p c []).2 st
noncomputable def headP (p : List Bool) (c : Code) (st : St) : Option X := hide (headJ C R fl K0) (lbody (sub p c []).1) (sub p c []).2 st
variable {C R fl K0}
theorem evP_of {p : List Bool} {c : Code} {st : St} {r : Option X} (cut : List Nat)
 (h : evF C R fl K0 (hide (evJ C R fl K0)) (hide (headJ C R fl K0)) cut 200 (sub p c []).1 (sub p c []).2 st = r) : evP C R fl K0 p c st = r := by
 rw [hide_eq, hide_eq, evF_eq] at h
 unfold evP
 rw [hide_eq]
 exact h
theorem headP_of {p : List Bool} {c : Code} {st : St} {r : Option X} (cut : List Nat)
 (h : evF C R fl K0 (hide (evJ C R fl K0)) (hide (headJ C R fl K0)) cut 200 (lbody (sub p c []).1) (.lp (lbody (sub p c []).1) :: (sub p c []).2) st = r) : headP C R fl K0 p c st = r := by
 rw [hide_eq, hide_eq, evF_eq] at h
 rw [← h]
 unfold headP
 rw [hide_eq]
 unfold headJ evJ
 rw [loop_fix]
 rfl
theorem evP_nil {c : Code} {st : St} : evP C R fl K0 [] c st = evK C R fl c K0 st := by
 unfold evP
 rw [hide_eq]
 rfl
end
section
variable {X : Type} (C : Cfg) (R : Orc) (fl : Flags) (K0 : Out → St → Option X)
noncomputable def konP (p : List Bool) (c : Code) (o : Out) (st : St) : Option X := hide (kontOf C R fl K0) (sub p c []).2 o st
def kr (I : List SObj → Option X) (Xf : Out → List SObj → Option X) : Out → St → Option X := fun o st => match o with
 | .normal => I st.sg
 | .exit e => Xf (.exit e) st.sg
 | .ret => Xf .ret st.sg
variable {C R fl K0}
theorem startF_eq (cut : List Nat) (n : Nat) (b : Code) (ks : List Wait) (st : St) : startF fl (evJ C R fl K0) cut (evF C R fl K0 (evJ C R fl K0) (headJ C R fl K0) cut n) b ks st = evK C R fl b (kontOf C R fl K0 ks) (clean fl b st) := by
 unfold startF
 split
 ·rfl
 ·rw [evF_eq]; rfl
theorem konP_of {p : List Bool} {c : Code} {o : Out} {st : St} {r : Option X} (cut : List Nat)
 (h : popF fl K0 (hide (headJ C R fl K0)) (startF fl (hide (evJ C R fl K0)) cut (evF C R fl K0 (hide (evJ C R fl K0)) (hide (headJ C R fl K0)) cut 200)) (sub p c []).2 o st = r) : konP C R fl K0 p c o st = r := by
 rw [hide_eq, hide_eq, popF_eq C R fl K0 (startF_eq cut 200)] at h
 unfold konP
 rw [hide_eq]
 exact h
theorem rangeP {p : List Bool} {c : Code} {st : St} {t f i q : Nat} {ps : Array Nat} {a b : Code} {ks : List Wait} {it : List DV → Option (List DV)} (hs : sub p c [] = (.rangeFunc (.tmp t) ps a b, ks)) (hm : (st.get t).2 = .fn f [(i, 0)])
 (hp : ps.toList = [q]) (hi : C.iter f = some it) (ha : isReg a = true) (hb : plainC b = true) :
 evP C R fl K0 p c st = ob (sgBox st.sg i) fun cs => ob (allDat cs) fun cd => ob (it cd) fun ds =>
  foldIt (fun d I sg => evP C R fl (kr I fun o sg => konP C R fl K0 p c o (outerSt st sg)) [] (.seq a b) (clean fl a (roundSt st q d sg))) (fun sg => konP C R fl K0 p c .normal (outerSt st sg)) ds (st.sg.set i (.arr 1 [])) := by
 unfold evP konP
 simp only [hide_eq]
 rw [hs]
 simp only [evJ, evK, evItr, hp, hm, hi, ha, hb, ob, Bool.and_self, og]
 have hst : ∀ (d : DV) (I : List SObj → Option X) (sg : List SObj), evK C R fl a (fun o st1 => match o with
       | .normal => evK C R fl b (fun o st2 => match o with
         | .normal => I st2.sg
         | .exit e => kontOf C R fl K0 ks (.exit e) (outerSt st st2.sg)
         | .ret => kontOf C R fl K0 ks .ret (outerSt st st2.sg)) (clean fl b st1)
       | .exit _ => none
       | .ret => none) (clean fl a (roundSt st q d sg)) =
  evK C R fl a (fun o st' => match o with
   | .normal => evK C R fl b (kontOf C R fl (kr I fun o sg => kontOf C R fl K0 ks o (outerSt st sg)) []) (clean fl b st')
   | .exit i => kontOf C R fl (kr I fun o sg => kontOf C R fl K0 ks o (outerSt st sg)) [] (.exit i) st'
   | .ret => kontOf C R fl (kr I fun o sg => kontOf C R fl K0 ks o (outerSt st sg)) [] .ret st') (clean fl a (roundSt st q d sg)) := by
  intro d I sg
  cases a with
  | region id ops dr =>
    cases dr with
    | false =>
      simp only [evK]
      congr 1
    | true => simp [isReg] at ha
  | skip =>
    simp only [evK]
    congr 1
  | _ => simp [isReg] at ha
 congr 1
 funext cs
 congr 1
 funext cd
 congr 1
 funext ds
 congr 1
 funext d I sg
 exact hst d I sg
def rgT : Code → Option (Nat × Nat)
 | .rangeFunc (.tmp t) ps _ _ => match ps.toList with
   | [q] => some (t, q)
   | _ => none
 | _ => none
def rgA : Code → Code
 | .rangeFunc _ _ a _ => a
 | _ => .skip
def rgB : Code → Code
 | .rangeFunc _ _ _ b => b
 | _ => .skip
theorem rangeP2 {p : List Bool} {c : Code} {st : St} {t f i q : Nat} {it : List DV → Option (List DV)} (hs : rgT (sub p c []).1 = some (t, q)) (hm : (st.get t).2 = .fn f [(i, 0)])
 (hi : C.iter f = some it) (hab : (isReg (rgA (sub p c []).1) && plainC (rgB (sub p c []).1)) = true) :
 evP C R fl K0 p c st = ob (sgBox st.sg i) fun cs => ob (allDat cs) fun cd => ob (it cd) fun ds =>
  foldIt (fun d I sg => evP C R fl (kr I fun o sg => konP C R fl K0 p c o (outerSt st sg)) [] (.seq (rgA (sub p c []).1) (rgB (sub p c []).1)) (clean fl (rgA (sub p c []).1) (roundSt st q d sg))) (fun sg => konP C R fl K0 p c .normal (outerSt st sg)) ds (st.sg.set i (.arr 1 [])) := by
 simp only [Bool.and_eq_true] at hab
 generalize hc : (sub p c []).1 = c1 at hs hab
 cases c1 with
 | rangeFunc g ps a b =>
   cases g with
   | tmp t' =>
     simp only [rgT] at hs
     split at hs
     ·rename_i q' hq
      simp only [Option.some.injEq, Prod.mk.injEq] at hs
      obtain ⟨rfl, rfl⟩ := hs
      simp only [rgA, rgB] at hab ⊢
      exact rangeP (ks := (sub p c []).2) (by rw [← hc]) hm hq hi hab.1 hab.2
     ·cases hs
   | _ => simp [rgT] at hs
 | _ => simp [rgT] at hs
end
def oneCell (sg : List SObj) (cs : List (DV × Meta)) : Option DV :=
 if 1 = cs.length then match cs with
  | [c] => sealCell sg c
  | _ => none
 else none
def ret1 (x : Option DV) : Option DV := ob (ob x fun d => ob (some []) fun ds => some (d :: ds)) fun ds => some (pack ds)
def seqO : List (Option DV) → Option (List DV)
 | [] => some []
 | x :: xs => ob x fun d => ob (seqO xs) fun ds => some (d :: ds)
def retL (xs : List (Option DV)) : Option DV := ob (seqO xs) fun ds => some (pack ds)
theorem run_pure {C : Cfg} {f : FuncId} {fn : Func} {c : Code} {ds : List DV} {d : DV} (hp : C.prim f = none) (hf : C.P.funcs[f]? = some fn) (hb : fn.body = some c)
 (H : evP C (run C) (C.fl f) (retP C.P fn) [] c (initSt fn (ds.map fun d => (d, .val)) []) = some d) : (run C).p f ds = some d := by
 rw [evP_nil] at H
 refine run_step.p f ds d ?_
 simp only [stepOrc, evBody, hp, hf, hb, ob_mk]
 exact H
end Go.Su

/-
 PLAIN DATA with types: the program's types, patterns, expressions, terms; how they lie as data. By program.
-/
namespace Go.Su
theorem le_sum_mem {l : List Nat} {a : Nat} (h : a ∈ l) : a ≤ l.sum := by
 induction l with
 | nil => simp at h
 | cons x l ih =>
   rw [List.sum_cons]
   rcases List.mem_cons.1 h with rfl | h
   ·omega
   ·have := ih h; omega
def encInts (l : List Int) : DV := .list 1 (l.map fun n => .int .i64 n)
def encStrs (l : List ByteArray) : DV := .list 1 (l.map fun s => .str s)
inductive Ty where
 | mk (kind : Int) (n : Int) (kids : List Ty)
def Ty.kind : Ty → Int | .mk x0 _ _ => x0
def Ty.n : Ty → Int | .mk _ x1 _ => x1
def Ty.kids : Ty → List Ty | .mk _ _ x2 => x2
@[simp] theorem Ty.kind_mk (x0 : Int) (x1 : Int) (x2 : List Ty) : (Ty.mk x0 x1 x2).kind = x0 := rfl
@[simp] theorem Ty.n_mk (x0 : Int) (x1 : Int) (x2 : List Ty) : (Ty.mk x0 x1 x2).n = x1 := rfl
@[simp] theorem Ty.kids_mk (x0 : Int) (x1 : Int) (x2 : List Ty) : (Ty.mk x0 x1 x2).kids = x2 := rfl
def Ty.enc : Ty → DV
 | .mk x0 x1 x2 => .agg [.int .i64 x0, .int .i64 x1, .list 3 (x2.map Ty.enc)]
theorem Ty.enc_eq (t : Ty) : t.enc = .agg [.int .i64 t.kind, .int .i64 t.n, .list 3 (t.kids.map Ty.enc)] := by cases t; rw [Ty.enc]; rfl
noncomputable instance : DecidableEq Ty := fun a b => Classical.propDecidable (a = b)
@[simp] theorem isAggN_Ty (t : Ty) : isAggN 3 t.enc = true := by rw [Ty.enc_eq]; rfl
@[simp] theorem Ty.proj0 (t : Ty) : proj 0 t.enc = .int .i64 t.kind := by rw [Ty.enc_eq]; rfl
@[simp] theorem Ty.proj1 (t : Ty) : proj 1 t.enc = .int .i64 t.n := by rw [Ty.enc_eq]; rfl
@[simp] theorem Ty.proj2 (t : Ty) : proj 2 t.enc = .list 3 (t.kids.map Ty.enc) := by rw [Ty.enc_eq]; rfl
theorem Ty.eta (t : Ty) : DV.agg [.int .i64 t.kind, .int .i64 t.n, .list 3 (t.kids.map Ty.enc)] = t.enc := (Ty.enc_eq t).symm
theorem Ty.ext' {t u : Ty} (h0 : t.kind = u.kind) (h1 : t.n = u.n) (h2 : t.kids = u.kids) : t = u := by cases t; cases u; simp_all
theorem Ty.ext_iff' {t u : Ty} : t = u ↔ t.kind = u.kind ∧ t.n = u.n ∧ t.kids = u.kids := ⟨fun h => by subst h; simp, fun h => by cases t; cases u; simp_all⟩
theorem Ty.kid_lt {t k : Ty} (h : k ∈ t.kids) : SizeOf.sizeOf k < SizeOf.sizeOf t := by
 cases t
 simp only [Ty.kids_mk] at h
 have := List.sizeOf_lt_of_mem h
 simp only [Ty.mk.sizeOf_spec]
 omega
theorem Ty.ind {P : Ty → Prop} (h : ∀ t, (∀ k ∈ t.kids, P k) → P t) (t : Ty) : P t :=
 h t fun k hk => Ty.ind h k
termination_by SizeOf.sizeOf t
decreasing_by exact Ty.kid_lt hk
def Ty.size (t : Ty) : Nat := 1 + (t.kids.attach.map fun k => Ty.size k.1).sum
termination_by SizeOf.sizeOf t
decreasing_by exact Ty.kid_lt k.2
theorem Ty.size_eq (t : Ty) : t.size = 1 + (t.kids.map Ty.size).sum := by
 rw [Ty.size]
 congr 2
 exact List.attach_map_val (f := Ty.size) ..
theorem Ty.size_kid {t k : Ty} (h : k ∈ t.kids) : k.size < t.size := by
 rw [Ty.size_eq t]
 have := le_sum_mem (List.mem_map_of_mem (f := Ty.size) h)
 omega
theorem Ty.size_pos (t : Ty) : 0 < t.size := by rw [Ty.size_eq]; omega
theorem Ty.len_lt (t : Ty) : t.kids.length < t.size := by
 rw [Ty.size_eq]
 have : ∀ l : List Ty, l.length ≤ (l.map Ty.size).sum := by
  intro l
  induction l with
  | nil => simp
  | cons x l ih => have := Ty.size_pos x; simp only [List.length_cons, List.map_cons, List.sum_cons]; omega
 have := this t.kids
 omega
def Ty.mass (t : Ty) : Nat := 1 + (t.kids.attach.map fun k => Ty.mass k.1).sum
termination_by SizeOf.sizeOf t
decreasing_by exact Ty.kid_lt k.2
theorem Ty.mass_eq (t : Ty) : t.mass = 1 + (t.kids.map Ty.mass).sum := by
 rw [Ty.mass]
 congr 2
 exact List.attach_map_val (f := Ty.mass) ..
theorem Ty.mass_pos (t : Ty) : 0 < t.mass := by rw [Ty.mass_eq]; omega
theorem Ty.mass_len (t : Ty) : t.kids.length < t.mass := by
 rw [Ty.mass_eq]
 have : ∀ l : List Ty, l.length ≤ (l.map Ty.mass).sum := by
  intro l
  induction l with
  | nil => simp
  | cons x l ih => have := Ty.mass_pos x; simp only [List.length_cons, List.map_cons, List.sum_cons]; omega
 have := this t.kids
 omega
inductive Pat where
 | mk (kind : Int) (lo : Int) (hi : Int) (name : ByteArray) (n : Int) (s : ByteArray) (kids : List Pat)
def Pat.kind : Pat → Int | .mk x0 _ _ _ _ _ _ => x0
def Pat.lo : Pat → Int | .mk _ x1 _ _ _ _ _ => x1
def Pat.hi : Pat → Int | .mk _ _ x2 _ _ _ _ => x2
def Pat.name : Pat → ByteArray | .mk _ _ _ x3 _ _ _ => x3
def Pat.n : Pat → Int | .mk _ _ _ _ x4 _ _ => x4
def Pat.s : Pat → ByteArray | .mk _ _ _ _ _ x5 _ => x5
def Pat.kids : Pat → List Pat | .mk _ _ _ _ _ _ x6 => x6
@[simp] theorem Pat.kind_mk (x0 : Int) (x1 : Int) (x2 : Int) (x3 : ByteArray) (x4 : Int) (x5 : ByteArray) (x6 : List Pat) : (Pat.mk x0 x1 x2 x3 x4 x5 x6).kind = x0 := rfl
@[simp] theorem Pat.lo_mk (x0 : Int) (x1 : Int) (x2 : Int) (x3 : ByteArray) (x4 : Int) (x5 : ByteArray) (x6 : List Pat) : (Pat.mk x0 x1 x2 x3 x4 x5 x6).lo = x1 := rfl
@[simp] theorem Pat.hi_mk (x0 : Int) (x1 : Int) (x2 : Int) (x3 : ByteArray) (x4 : Int) (x5 : ByteArray) (x6 : List Pat) : (Pat.mk x0 x1 x2 x3 x4 x5 x6).hi = x2 := rfl
@[simp] theorem Pat.name_mk (x0 : Int) (x1 : Int) (x2 : Int) (x3 : ByteArray) (x4 : Int) (x5 : ByteArray) (x6 : List Pat) : (Pat.mk x0 x1 x2 x3 x4 x5 x6).name = x3 := rfl
@[simp] theorem Pat.n_mk (x0 : Int) (x1 : Int) (x2 : Int) (x3 : ByteArray) (x4 : Int) (x5 : ByteArray) (x6 : List Pat) : (Pat.mk x0 x1 x2 x3 x4 x5 x6).n = x4 := rfl
@[simp] theorem Pat.s_mk (x0 : Int) (x1 : Int) (x2 : Int) (x3 : ByteArray) (x4 : Int) (x5 : ByteArray) (x6 : List Pat) : (Pat.mk x0 x1 x2 x3 x4 x5 x6).s = x5 := rfl
@[simp] theorem Pat.kids_mk (x0 : Int) (x1 : Int) (x2 : Int) (x3 : ByteArray) (x4 : Int) (x5 : ByteArray) (x6 : List Pat) : (Pat.mk x0 x1 x2 x3 x4 x5 x6).kids = x6 := rfl
def Pat.enc : Pat → DV
 | .mk x0 x1 x2 x3 x4 x5 x6 => .agg [.int .i64 x0, .int .i64 x1, .int .i64 x2, .str x3, .int .i64 x4, .str x5, .list 7 (x6.map Pat.enc)]
theorem Pat.enc_eq (t : Pat) : t.enc = .agg [.int .i64 t.kind, .int .i64 t.lo, .int .i64 t.hi, .str t.name, .int .i64 t.n, .str t.s, .list 7 (t.kids.map Pat.enc)] := by cases t; rw [Pat.enc]; rfl
noncomputable instance : DecidableEq Pat := fun a b => Classical.propDecidable (a = b)
@[simp] theorem isAggN_Pat (t : Pat) : isAggN 7 t.enc = true := by rw [Pat.enc_eq]; rfl
@[simp] theorem Pat.proj0 (t : Pat) : proj 0 t.enc = .int .i64 t.kind := by rw [Pat.enc_eq]; rfl
@[simp] theorem Pat.proj1 (t : Pat) : proj 1 t.enc = .int .i64 t.lo := by rw [Pat.enc_eq]; rfl
@[simp] theorem Pat.proj2 (t : Pat) : proj 2 t.enc = .int .i64 t.hi := by rw [Pat.enc_eq]; rfl
@[simp] theorem Pat.proj3 (t : Pat) : proj 3 t.enc = .str t.name := by rw [Pat.enc_eq]; rfl
@[simp] theorem Pat.proj4 (t : Pat) : proj 4 t.enc = .int .i64 t.n := by rw [Pat.enc_eq]; rfl
@[simp] theorem Pat.proj5 (t : Pat) : proj 5 t.enc = .str t.s := by rw [Pat.enc_eq]; rfl
@[simp] theorem Pat.proj6 (t : Pat) : proj 6 t.enc = .list 7 (t.kids.map Pat.enc) := by rw [Pat.enc_eq]; rfl
theorem Pat.eta (t : Pat) : DV.agg [.int .i64 t.kind, .int .i64 t.lo, .int .i64 t.hi, .str t.name, .int .i64 t.n, .str t.s, .list 7 (t.kids.map Pat.enc)] = t.enc := (Pat.enc_eq t).symm
theorem Pat.ext' {t u : Pat} (h0 : t.kind = u.kind) (h1 : t.lo = u.lo) (h2 : t.hi = u.hi) (h3 : t.name = u.name) (h4 : t.n = u.n) (h5 : t.s = u.s) (h6 : t.kids = u.kids) : t = u := by cases t; cases u; simp_all
theorem Pat.ext_iff' {t u : Pat} : t = u ↔ t.kind = u.kind ∧ t.lo = u.lo ∧ t.hi = u.hi ∧ t.name = u.name ∧ t.n = u.n ∧ t.s = u.s ∧ t.kids = u.kids := ⟨fun h => by subst h; simp, fun h => by cases t; cases u; simp_all⟩
theorem Pat.kid_lt {t k : Pat} (h : k ∈ t.kids) : SizeOf.sizeOf k < SizeOf.sizeOf t := by
 cases t
 simp only [Pat.kids_mk] at h
 have := List.sizeOf_lt_of_mem h
 simp only [Pat.mk.sizeOf_spec]
 omega
theorem Pat.ind {P : Pat → Prop} (h : ∀ t, (∀ k ∈ t.kids, P k) → P t) (t : Pat) : P t :=
 h t fun k hk => Pat.ind h k
termination_by SizeOf.sizeOf t
decreasing_by exact Pat.kid_lt hk
def Pat.size (t : Pat) : Nat := 1 + (t.kids.attach.map fun k => Pat.size k.1).sum
termination_by SizeOf.sizeOf t
decreasing_by exact Pat.kid_lt k.2
theorem Pat.size_eq (t : Pat) : t.size = 1 + (t.kids.map Pat.size).sum := by
 rw [Pat.size]
 congr 2
 exact List.attach_map_val (f := Pat.size) ..
theorem Pat.size_kid {t k : Pat} (h : k ∈ t.kids) : k.size < t.size := by
 rw [Pat.size_eq t]
 have := le_sum_mem (List.mem_map_of_mem (f := Pat.size) h)
 omega
theorem Pat.size_pos (t : Pat) : 0 < t.size := by rw [Pat.size_eq]; omega
theorem Pat.len_lt (t : Pat) : t.kids.length < t.size := by
 rw [Pat.size_eq]
 have : ∀ l : List Pat, l.length ≤ (l.map Pat.size).sum := by
  intro l
  induction l with
  | nil => simp
  | cons x l ih => have := Pat.size_pos x; simp only [List.length_cons, List.map_cons, List.sum_cons]; omega
 have := this t.kids
 omega
def Pat.mass (t : Pat) : Nat := 1 + t.name.size + t.s.size + (t.kids.attach.map fun k => Pat.mass k.1).sum
termination_by SizeOf.sizeOf t
decreasing_by exact Pat.kid_lt k.2
theorem Pat.mass_eq (t : Pat) : t.mass = 1 + t.name.size + t.s.size + (t.kids.map Pat.mass).sum := by
 rw [Pat.mass]
 congr 2
 exact List.attach_map_val (f := Pat.mass) ..
theorem Pat.mass_pos (t : Pat) : 0 < t.mass := by rw [Pat.mass_eq]; omega
theorem Pat.mass_kid {t k : Pat} (h : k ∈ t.kids) : k.mass < t.mass := by
 rw [Pat.mass_eq t]
 have := le_sum_mem (List.mem_map_of_mem (f := Pat.mass) h)
 omega
theorem Pat.mass_len (t : Pat) : t.kids.length < t.mass := by
 rw [Pat.mass_eq]
 have : ∀ l : List Pat, l.length ≤ (l.map Pat.mass).sum := by
  intro l
  induction l with
  | nil => simp
  | cons x l ih => have := Pat.mass_pos x; simp only [List.length_cons, List.map_cons, List.sum_cons]; omega
 have := this t.kids
 omega
theorem Pat.mass_name (t : Pat) : t.name.size < t.mass := by rw [Pat.mass_eq]; omega
theorem Pat.mass_s (t : Pat) : t.s.size < t.mass := by rw [Pat.mass_eq]; omega
inductive Ex where
 | mk (kind : Int) (lo : Int) (hi : Int) (name : ByteArray) (arg : ByteArray) (n : Int) (s : ByteArray) (op : Int) (a : Ty) (b : Ty) (pats : List Pat) (kids : List Ex)
def Ex.kind : Ex → Int | .mk x0 _ _ _ _ _ _ _ _ _ _ _ => x0
def Ex.lo : Ex → Int | .mk _ x1 _ _ _ _ _ _ _ _ _ _ => x1
def Ex.hi : Ex → Int | .mk _ _ x2 _ _ _ _ _ _ _ _ _ => x2
def Ex.name : Ex → ByteArray | .mk _ _ _ x3 _ _ _ _ _ _ _ _ => x3
def Ex.arg : Ex → ByteArray | .mk _ _ _ _ x4 _ _ _ _ _ _ _ => x4
def Ex.n : Ex → Int | .mk _ _ _ _ _ x5 _ _ _ _ _ _ => x5
def Ex.s : Ex → ByteArray | .mk _ _ _ _ _ _ x6 _ _ _ _ _ => x6
def Ex.op : Ex → Int | .mk _ _ _ _ _ _ _ x7 _ _ _ _ => x7
def Ex.a : Ex → Ty | .mk _ _ _ _ _ _ _ _ x8 _ _ _ => x8
def Ex.b : Ex → Ty | .mk _ _ _ _ _ _ _ _ _ x9 _ _ => x9
def Ex.pats : Ex → List Pat | .mk _ _ _ _ _ _ _ _ _ _ x10 _ => x10
def Ex.kids : Ex → List Ex | .mk _ _ _ _ _ _ _ _ _ _ _ x11 => x11
@[simp] theorem Ex.kind_mk (x0 : Int) (x1 : Int) (x2 : Int) (x3 : ByteArray) (x4 : ByteArray) (x5 : Int) (x6 : ByteArray) (x7 : Int) (x8 : Ty) (x9 : Ty) (x10 : List Pat) (x11 : List Ex) : (Ex.mk x0 x1 x2 x3 x4 x5 x6 x7 x8 x9 x10 x11).kind = x0 := rfl
@[simp] theorem Ex.lo_mk (x0 : Int) (x1 : Int) (x2 : Int) (x3 : ByteArray) (x4 : ByteArray) (x5 : Int) (x6 : ByteArray) (x7 : Int) (x8 : Ty) (x9 : Ty) (x10 : List Pat) (x11 : List Ex) : (Ex.mk x0 x1 x2 x3 x4 x5 x6 x7 x8 x9 x10 x11).lo = x1 := rfl
@[simp] theorem Ex.hi_mk (x0 : Int) (x1 : Int) (x2 : Int) (x3 : ByteArray) (x4 : ByteArray) (x5 : Int) (x6 : ByteArray) (x7 : Int) (x8 : Ty) (x9 : Ty) (x10 : List Pat) (x11 : List Ex) : (Ex.mk x0 x1 x2 x3 x4 x5 x6 x7 x8 x9 x10 x11).hi = x2 := rfl
@[simp] theorem Ex.name_mk (x0 : Int) (x1 : Int) (x2 : Int) (x3 : ByteArray) (x4 : ByteArray) (x5 : Int) (x6 : ByteArray) (x7 : Int) (x8 : Ty) (x9 : Ty) (x10 : List Pat) (x11 : List Ex) : (Ex.mk x0 x1 x2 x3 x4 x5 x6 x7 x8 x9 x10 x11).name = x3 := rfl
@[simp] theorem Ex.arg_mk (x0 : Int) (x1 : Int) (x2 : Int) (x3 : ByteArray) (x4 : ByteArray) (x5 : Int) (x6 : ByteArray) (x7 : Int) (x8 : Ty) (x9 : Ty) (x10 : List Pat) (x11 : List Ex) : (Ex.mk x0 x1 x2 x3 x4 x5 x6 x7 x8 x9 x10 x11).arg = x4 := rfl
@[simp] theorem Ex.n_mk (x0 : Int) (x1 : Int) (x2 : Int) (x3 : ByteArray) (x4 : ByteArray) (x5 : Int) (x6 : ByteArray) (x7 : Int) (x8 : Ty) (x9 : Ty) (x10 : List Pat) (x11 : List Ex) : (Ex.mk x0 x1 x2 x3 x4 x5 x6 x7 x8 x9 x10 x11).n = x5 := rfl
@[simp] theorem Ex.s_mk (x0 : Int) (x1 : Int) (x2 : Int) (x3 : ByteArray) (x4 : ByteArray) (x5 : Int) (x6 : ByteArray) (x7 : Int) (x8 : Ty) (x9 : Ty) (x10 : List Pat) (x11 : List Ex) : (Ex.mk x0 x1 x2 x3 x4 x5 x6 x7 x8 x9 x10 x11).s = x6 := rfl
@[simp] theorem Ex.op_mk (x0 : Int) (x1 : Int) (x2 : Int) (x3 : ByteArray) (x4 : ByteArray) (x5 : Int) (x6 : ByteArray) (x7 : Int) (x8 : Ty) (x9 : Ty) (x10 : List Pat) (x11 : List Ex) : (Ex.mk x0 x1 x2 x3 x4 x5 x6 x7 x8 x9 x10 x11).op = x7 := rfl
@[simp] theorem Ex.a_mk (x0 : Int) (x1 : Int) (x2 : Int) (x3 : ByteArray) (x4 : ByteArray) (x5 : Int) (x6 : ByteArray) (x7 : Int) (x8 : Ty) (x9 : Ty) (x10 : List Pat) (x11 : List Ex) : (Ex.mk x0 x1 x2 x3 x4 x5 x6 x7 x8 x9 x10 x11).a = x8 := rfl
@[simp] theorem Ex.b_mk (x0 : Int) (x1 : Int) (x2 : Int) (x3 : ByteArray) (x4 : ByteArray) (x5 : Int) (x6 : ByteArray) (x7 : Int) (x8 : Ty) (x9 : Ty) (x10 : List Pat) (x11 : List Ex) : (Ex.mk x0 x1 x2 x3 x4 x5 x6 x7 x8 x9 x10 x11).b = x9 := rfl
@[simp] theorem Ex.pats_mk (x0 : Int) (x1 : Int) (x2 : Int) (x3 : ByteArray) (x4 : ByteArray) (x5 : Int) (x6 : ByteArray) (x7 : Int) (x8 : Ty) (x9 : Ty) (x10 : List Pat) (x11 : List Ex) : (Ex.mk x0 x1 x2 x3 x4 x5 x6 x7 x8 x9 x10 x11).pats = x10 := rfl
@[simp] theorem Ex.kids_mk (x0 : Int) (x1 : Int) (x2 : Int) (x3 : ByteArray) (x4 : ByteArray) (x5 : Int) (x6 : ByteArray) (x7 : Int) (x8 : Ty) (x9 : Ty) (x10 : List Pat) (x11 : List Ex) : (Ex.mk x0 x1 x2 x3 x4 x5 x6 x7 x8 x9 x10 x11).kids = x11 := rfl
def Ex.enc : Ex → DV
 | .mk x0 x1 x2 x3 x4 x5 x6 x7 x8 x9 x10 x11 => .agg [.int .i64 x0, .int .i64 x1, .int .i64 x2, .str x3, .str x4, .int .i64 x5, .str x6, .int .i64 x7, .int .i64 x8.kind, .int .i64 x8.n, .list 3 (x8.kids.map Ty.enc), .int .i64 x9.kind, .int .i64 x9.n, .list 3 (x9.kids.map Ty.enc), .list 7 (x10.map Pat.enc), .list 16 (x11.map Ex.enc)]
theorem Ex.enc_eq (t : Ex) : t.enc = .agg [.int .i64 t.kind, .int .i64 t.lo, .int .i64 t.hi, .str t.name, .str t.arg, .int .i64 t.n, .str t.s, .int .i64 t.op, .int .i64 t.a.kind, .int .i64 t.a.n, .list 3 (t.a.kids.map Ty.enc), .int .i64 t.b.kind, .int .i64 t.b.n, .list 3 (t.b.kids.map Ty.enc), .list 7 (t.pats.map Pat.enc), .list 16 (t.kids.map Ex.enc)] := by cases t; rw [Ex.enc]; rfl
noncomputable instance : DecidableEq Ex := fun a b => Classical.propDecidable (a = b)
@[simp] theorem isAggN_Ex (t : Ex) : isAggN 16 t.enc = true := by rw [Ex.enc_eq]; rfl
@[simp] theorem Ex.proj0 (t : Ex) : proj 0 t.enc = .int .i64 t.kind := by rw [Ex.enc_eq]; rfl
@[simp] theorem Ex.proj1 (t : Ex) : proj 1 t.enc = .int .i64 t.lo := by rw [Ex.enc_eq]; rfl
@[simp] theorem Ex.proj2 (t : Ex) : proj 2 t.enc = .int .i64 t.hi := by rw [Ex.enc_eq]; rfl
@[simp] theorem Ex.proj3 (t : Ex) : proj 3 t.enc = .str t.name := by rw [Ex.enc_eq]; rfl
@[simp] theorem Ex.proj4 (t : Ex) : proj 4 t.enc = .str t.arg := by rw [Ex.enc_eq]; rfl
@[simp] theorem Ex.proj5 (t : Ex) : proj 5 t.enc = .int .i64 t.n := by rw [Ex.enc_eq]; rfl
@[simp] theorem Ex.proj6 (t : Ex) : proj 6 t.enc = .str t.s := by rw [Ex.enc_eq]; rfl
@[simp] theorem Ex.proj7 (t : Ex) : proj 7 t.enc = .int .i64 t.op := by rw [Ex.enc_eq]; rfl
@[simp] theorem Ex.proj8 (t : Ex) : proj 8 t.enc = .int .i64 t.a.kind := by rw [Ex.enc_eq]; rfl
@[simp] theorem Ex.proj9 (t : Ex) : proj 9 t.enc = .int .i64 t.a.n := by rw [Ex.enc_eq]; rfl
@[simp] theorem Ex.proj10 (t : Ex) : proj 10 t.enc = .list 3 (t.a.kids.map Ty.enc) := by rw [Ex.enc_eq]; rfl
@[simp] theorem Ex.proj11 (t : Ex) : proj 11 t.enc = .int .i64 t.b.kind := by rw [Ex.enc_eq]; rfl
@[simp] theorem Ex.proj12 (t : Ex) : proj 12 t.enc = .int .i64 t.b.n := by rw [Ex.enc_eq]; rfl
@[simp] theorem Ex.proj13 (t : Ex) : proj 13 t.enc = .list 3 (t.b.kids.map Ty.enc) := by rw [Ex.enc_eq]; rfl
@[simp] theorem Ex.proj14 (t : Ex) : proj 14 t.enc = .list 7 (t.pats.map Pat.enc) := by rw [Ex.enc_eq]; rfl
@[simp] theorem Ex.proj15 (t : Ex) : proj 15 t.enc = .list 16 (t.kids.map Ex.enc) := by rw [Ex.enc_eq]; rfl
theorem Ex.eta (t : Ex) : DV.agg [.int .i64 t.kind, .int .i64 t.lo, .int .i64 t.hi, .str t.name, .str t.arg, .int .i64 t.n, .str t.s, .int .i64 t.op, .int .i64 t.a.kind, .int .i64 t.a.n, .list 3 (t.a.kids.map Ty.enc), .int .i64 t.b.kind, .int .i64 t.b.n, .list 3 (t.b.kids.map Ty.enc), .list 7 (t.pats.map Pat.enc), .list 16 (t.kids.map Ex.enc)] = t.enc := (Ex.enc_eq t).symm
theorem Ex.ext' {t u : Ex} (h0 : t.kind = u.kind) (h1 : t.lo = u.lo) (h2 : t.hi = u.hi) (h3 : t.name = u.name) (h4 : t.arg = u.arg) (h5 : t.n = u.n) (h6 : t.s = u.s) (h7 : t.op = u.op) (h8 : t.a = u.a) (h9 : t.b = u.b) (h10 : t.pats = u.pats) (h11 : t.kids = u.kids) : t = u := by cases t; cases u; simp_all
theorem Ex.ext_iff' {t u : Ex} : t = u ↔ t.kind = u.kind ∧ t.lo = u.lo ∧ t.hi = u.hi ∧ t.name = u.name ∧ t.arg = u.arg ∧ t.n = u.n ∧ t.s = u.s ∧ t.op = u.op ∧ t.a = u.a ∧ t.b = u.b ∧ t.pats = u.pats ∧ t.kids = u.kids := ⟨fun h => by subst h; simp, fun h => by cases t; cases u; simp_all⟩
theorem Ex.kid_lt {t k : Ex} (h : k ∈ t.kids) : SizeOf.sizeOf k < SizeOf.sizeOf t := by
 cases t
 simp only [Ex.kids_mk] at h
 have := List.sizeOf_lt_of_mem h
 simp only [Ex.mk.sizeOf_spec]
 omega
theorem Ex.ind {P : Ex → Prop} (h : ∀ t, (∀ k ∈ t.kids, P k) → P t) (t : Ex) : P t :=
 h t fun k hk => Ex.ind h k
termination_by SizeOf.sizeOf t
decreasing_by exact Ex.kid_lt hk
def Ex.size (t : Ex) : Nat := 1 + (t.kids.attach.map fun k => Ex.size k.1).sum
termination_by SizeOf.sizeOf t
decreasing_by exact Ex.kid_lt k.2
theorem Ex.size_eq (t : Ex) : t.size = 1 + (t.kids.map Ex.size).sum := by
 rw [Ex.size]
 congr 2
 exact List.attach_map_val (f := Ex.size) ..
theorem Ex.size_pos (t : Ex) : 0 < t.size := by rw [Ex.size_eq]; omega
theorem Ex.len_lt (t : Ex) : t.kids.length < t.size := by
 rw [Ex.size_eq]
 have : ∀ l : List Ex, l.length ≤ (l.map Ex.size).sum := by
  intro l
  induction l with
  | nil => simp
  | cons x l ih => have := Ex.size_pos x; simp only [List.length_cons, List.map_cons, List.sum_cons]; omega
 have := this t.kids
 omega
def Ex.mass (t : Ex) : Nat := 1 + t.name.size + t.arg.size + t.s.size + t.a.size + t.b.size + (t.pats.map Pat.mass).sum + (t.kids.attach.map fun k => Ex.mass k.1).sum
termination_by SizeOf.sizeOf t
decreasing_by exact Ex.kid_lt k.2
theorem Ex.mass_eq (t : Ex) : t.mass = 1 + t.name.size + t.arg.size + t.s.size + t.a.size + t.b.size + (t.pats.map Pat.mass).sum + (t.kids.map Ex.mass).sum := by
 rw [Ex.mass]
 congr 2
 exact List.attach_map_val (f := Ex.mass) ..
theorem Ex.mass_pos (t : Ex) : 0 < t.mass := by rw [Ex.mass_eq]; omega
theorem Ex.mass_len (t : Ex) : t.kids.length < t.mass := by
 rw [Ex.mass_eq]
 have : ∀ l : List Ex, l.length ≤ (l.map Ex.mass).sum := by
  intro l
  induction l with
  | nil => simp
  | cons x l ih => have := Ex.mass_pos x; simp only [List.length_cons, List.map_cons, List.sum_cons]; omega
 have := this t.kids
 omega
theorem Ex.mass_name (t : Ex) : t.name.size < t.mass := by rw [Ex.mass_eq]; omega
theorem Ex.mass_arg (t : Ex) : t.arg.size < t.mass := by rw [Ex.mass_eq]; omega
theorem Ex.mass_s (t : Ex) : t.s.size < t.mass := by rw [Ex.mass_eq]; omega
theorem Ex.mass_a (t : Ex) : t.a.size < t.mass := by rw [Ex.mass_eq]; omega
theorem Ex.mass_b (t : Ex) : t.b.size < t.mass := by rw [Ex.mass_eq]; omega
theorem Ex.mass_pats (t : Ex) : (t.pats.map Pat.mass).sum < t.mass := by rw [Ex.mass_eq]; omega
inductive Tm where
 | mk (kind : Int) (lo : Int) (hi : Int) (name : ByteArray) (arg : ByteArray) (n : Int) (s : ByteArray) (op : Int) (label : Int) (neg : Bool) (vars : List Int) (a : Ty) (b : Ty) (args : List Ty) (pats : List Pat) (kids : List Tm)
def Tm.kind : Tm → Int | .mk x0 _ _ _ _ _ _ _ _ _ _ _ _ _ _ _ => x0
def Tm.lo : Tm → Int | .mk _ x1 _ _ _ _ _ _ _ _ _ _ _ _ _ _ => x1
def Tm.hi : Tm → Int | .mk _ _ x2 _ _ _ _ _ _ _ _ _ _ _ _ _ => x2
def Tm.name : Tm → ByteArray | .mk _ _ _ x3 _ _ _ _ _ _ _ _ _ _ _ _ => x3
def Tm.arg : Tm → ByteArray | .mk _ _ _ _ x4 _ _ _ _ _ _ _ _ _ _ _ => x4
def Tm.n : Tm → Int | .mk _ _ _ _ _ x5 _ _ _ _ _ _ _ _ _ _ => x5
def Tm.s : Tm → ByteArray | .mk _ _ _ _ _ _ x6 _ _ _ _ _ _ _ _ _ => x6
def Tm.op : Tm → Int | .mk _ _ _ _ _ _ _ x7 _ _ _ _ _ _ _ _ => x7
def Tm.label : Tm → Int | .mk _ _ _ _ _ _ _ _ x8 _ _ _ _ _ _ _ => x8
def Tm.neg : Tm → Bool | .mk _ _ _ _ _ _ _ _ _ x9 _ _ _ _ _ _ => x9
def Tm.vars : Tm → List Int | .mk _ _ _ _ _ _ _ _ _ _ x10 _ _ _ _ _ => x10
def Tm.a : Tm → Ty | .mk _ _ _ _ _ _ _ _ _ _ _ x11 _ _ _ _ => x11
def Tm.b : Tm → Ty | .mk _ _ _ _ _ _ _ _ _ _ _ _ x12 _ _ _ => x12
def Tm.args : Tm → List Ty | .mk _ _ _ _ _ _ _ _ _ _ _ _ _ x13 _ _ => x13
def Tm.pats : Tm → List Pat | .mk _ _ _ _ _ _ _ _ _ _ _ _ _ _ x14 _ => x14
def Tm.kids : Tm → List Tm | .mk _ _ _ _ _ _ _ _ _ _ _ _ _ _ _ x15 => x15
@[simp] theorem Tm.kind_mk (x0 : Int) (x1 : Int) (x2 : Int) (x3 : ByteArray) (x4 : ByteArray) (x5 : Int) (x6 : ByteArray) (x7 : Int) (x8 : Int) (x9 : Bool) (x10 : List Int) (x11 : Ty) (x12 : Ty) (x13 : List Ty) (x14 : List Pat) (x15 : List Tm) : (Tm.mk x0 x1 x2 x3 x4 x5 x6 x7 x8 x9 x10 x11 x12 x13 x14 x15).kind = x0 := rfl
@[simp] theorem Tm.lo_mk (x0 : Int) (x1 : Int) (x2 : Int) (x3 : ByteArray) (x4 : ByteArray) (x5 : Int) (x6 : ByteArray) (x7 : Int) (x8 : Int) (x9 : Bool) (x10 : List Int) (x11 : Ty) (x12 : Ty) (x13 : List Ty) (x14 : List Pat) (x15 : List Tm) : (Tm.mk x0 x1 x2 x3 x4 x5 x6 x7 x8 x9 x10 x11 x12 x13 x14 x15).lo = x1 := rfl
@[simp] theorem Tm.hi_mk (x0 : Int) (x1 : Int) (x2 : Int) (x3 : ByteArray) (x4 : ByteArray) (x5 : Int) (x6 : ByteArray) (x7 : Int) (x8 : Int) (x9 : Bool) (x10 : List Int) (x11 : Ty) (x12 : Ty) (x13 : List Ty) (x14 : List Pat) (x15 : List Tm) : (Tm.mk x0 x1 x2 x3 x4 x5 x6 x7 x8 x9 x10 x11 x12 x13 x14 x15).hi = x2 := rfl
@[simp] theorem Tm.name_mk (x0 : Int) (x1 : Int) (x2 : Int) (x3 : ByteArray) (x4 : ByteArray) (x5 : Int) (x6 : ByteArray) (x7 : Int) (x8 : Int) (x9 : Bool) (x10 : List Int) (x11 : Ty) (x12 : Ty) (x13 : List Ty) (x14 : List Pat) (x15 : List Tm) : (Tm.mk x0 x1 x2 x3 x4 x5 x6 x7 x8 x9 x10 x11 x12 x13 x14 x15).name = x3 := rfl
@[simp] theorem Tm.arg_mk (x0 : Int) (x1 : Int) (x2 : Int) (x3 : ByteArray) (x4 : ByteArray) (x5 : Int) (x6 : ByteArray) (x7 : Int) (x8 : Int) (x9 : Bool) (x10 : List Int) (x11 : Ty) (x12 : Ty) (x13 : List Ty) (x14 : List Pat) (x15 : List Tm) : (Tm.mk x0 x1 x2 x3 x4 x5 x6 x7 x8 x9 x10 x11 x12 x13 x14 x15).arg = x4 := rfl
@[simp] theorem Tm.n_mk (x0 : Int) (x1 : Int) (x2 : Int) (x3 : ByteArray) (x4 : ByteArray) (x5 : Int) (x6 : ByteArray) (x7 : Int) (x8 : Int) (x9 : Bool) (x10 : List Int) (x11 : Ty) (x12 : Ty) (x13 : List Ty) (x14 : List Pat) (x15 : List Tm) : (Tm.mk x0 x1 x2 x3 x4 x5 x6 x7 x8 x9 x10 x11 x12 x13 x14 x15).n = x5 := rfl
@[simp] theorem Tm.s_mk (x0 : Int) (x1 : Int) (x2 : Int) (x3 : ByteArray) (x4 : ByteArray) (x5 : Int) (x6 : ByteArray) (x7 : Int) (x8 : Int) (x9 : Bool) (x10 : List Int) (x11 : Ty) (x12 : Ty) (x13 : List Ty) (x14 : List Pat) (x15 : List Tm) : (Tm.mk x0 x1 x2 x3 x4 x5 x6 x7 x8 x9 x10 x11 x12 x13 x14 x15).s = x6 := rfl
@[simp] theorem Tm.op_mk (x0 : Int) (x1 : Int) (x2 : Int) (x3 : ByteArray) (x4 : ByteArray) (x5 : Int) (x6 : ByteArray) (x7 : Int) (x8 : Int) (x9 : Bool) (x10 : List Int) (x11 : Ty) (x12 : Ty) (x13 : List Ty) (x14 : List Pat) (x15 : List Tm) : (Tm.mk x0 x1 x2 x3 x4 x5 x6 x7 x8 x9 x10 x11 x12 x13 x14 x15).op = x7 := rfl
@[simp] theorem Tm.label_mk (x0 : Int) (x1 : Int) (x2 : Int) (x3 : ByteArray) (x4 : ByteArray) (x5 : Int) (x6 : ByteArray) (x7 : Int) (x8 : Int) (x9 : Bool) (x10 : List Int) (x11 : Ty) (x12 : Ty) (x13 : List Ty) (x14 : List Pat) (x15 : List Tm) : (Tm.mk x0 x1 x2 x3 x4 x5 x6 x7 x8 x9 x10 x11 x12 x13 x14 x15).label = x8 := rfl
@[simp] theorem Tm.neg_mk (x0 : Int) (x1 : Int) (x2 : Int) (x3 : ByteArray) (x4 : ByteArray) (x5 : Int) (x6 : ByteArray) (x7 : Int) (x8 : Int) (x9 : Bool) (x10 : List Int) (x11 : Ty) (x12 : Ty) (x13 : List Ty) (x14 : List Pat) (x15 : List Tm) : (Tm.mk x0 x1 x2 x3 x4 x5 x6 x7 x8 x9 x10 x11 x12 x13 x14 x15).neg = x9 := rfl
@[simp] theorem Tm.vars_mk (x0 : Int) (x1 : Int) (x2 : Int) (x3 : ByteArray) (x4 : ByteArray) (x5 : Int) (x6 : ByteArray) (x7 : Int) (x8 : Int) (x9 : Bool) (x10 : List Int) (x11 : Ty) (x12 : Ty) (x13 : List Ty) (x14 : List Pat) (x15 : List Tm) : (Tm.mk x0 x1 x2 x3 x4 x5 x6 x7 x8 x9 x10 x11 x12 x13 x14 x15).vars = x10 := rfl
@[simp] theorem Tm.a_mk (x0 : Int) (x1 : Int) (x2 : Int) (x3 : ByteArray) (x4 : ByteArray) (x5 : Int) (x6 : ByteArray) (x7 : Int) (x8 : Int) (x9 : Bool) (x10 : List Int) (x11 : Ty) (x12 : Ty) (x13 : List Ty) (x14 : List Pat) (x15 : List Tm) : (Tm.mk x0 x1 x2 x3 x4 x5 x6 x7 x8 x9 x10 x11 x12 x13 x14 x15).a = x11 := rfl
@[simp] theorem Tm.b_mk (x0 : Int) (x1 : Int) (x2 : Int) (x3 : ByteArray) (x4 : ByteArray) (x5 : Int) (x6 : ByteArray) (x7 : Int) (x8 : Int) (x9 : Bool) (x10 : List Int) (x11 : Ty) (x12 : Ty) (x13 : List Ty) (x14 : List Pat) (x15 : List Tm) : (Tm.mk x0 x1 x2 x3 x4 x5 x6 x7 x8 x9 x10 x11 x12 x13 x14 x15).b = x12 := rfl
@[simp] theorem Tm.args_mk (x0 : Int) (x1 : Int) (x2 : Int) (x3 : ByteArray) (x4 : ByteArray) (x5 : Int) (x6 : ByteArray) (x7 : Int) (x8 : Int) (x9 : Bool) (x10 : List Int) (x11 : Ty) (x12 : Ty) (x13 : List Ty) (x14 : List Pat) (x15 : List Tm) : (Tm.mk x0 x1 x2 x3 x4 x5 x6 x7 x8 x9 x10 x11 x12 x13 x14 x15).args = x13 := rfl
@[simp] theorem Tm.pats_mk (x0 : Int) (x1 : Int) (x2 : Int) (x3 : ByteArray) (x4 : ByteArray) (x5 : Int) (x6 : ByteArray) (x7 : Int) (x8 : Int) (x9 : Bool) (x10 : List Int) (x11 : Ty) (x12 : Ty) (x13 : List Ty) (x14 : List Pat) (x15 : List Tm) : (Tm.mk x0 x1 x2 x3 x4 x5 x6 x7 x8 x9 x10 x11 x12 x13 x14 x15).pats = x14 := rfl
@[simp] theorem Tm.kids_mk (x0 : Int) (x1 : Int) (x2 : Int) (x3 : ByteArray) (x4 : ByteArray) (x5 : Int) (x6 : ByteArray) (x7 : Int) (x8 : Int) (x9 : Bool) (x10 : List Int) (x11 : Ty) (x12 : Ty) (x13 : List Ty) (x14 : List Pat) (x15 : List Tm) : (Tm.mk x0 x1 x2 x3 x4 x5 x6 x7 x8 x9 x10 x11 x12 x13 x14 x15).kids = x15 := rfl
def Tm.enc : Tm → DV
 | .mk x0 x1 x2 x3 x4 x5 x6 x7 x8 x9 x10 x11 x12 x13 x14 x15 => .agg [.int .i64 x0, .int .i64 x1, .int .i64 x2, .str x3, .str x4, .int .i64 x5, .str x6, .int .i64 x7, .int .i64 x8, .bool x9, encInts x10, .int .i64 x11.kind, .int .i64 x11.n, .list 3 (x11.kids.map Ty.enc), .int .i64 x12.kind, .int .i64 x12.n, .list 3 (x12.kids.map Ty.enc), .list 3 (x13.map Ty.enc), .list 7 (x14.map Pat.enc), .list 20 (x15.map Tm.enc)]
theorem Tm.enc_eq (t : Tm) : t.enc = .agg [.int .i64 t.kind, .int .i64 t.lo, .int .i64 t.hi, .str t.name, .str t.arg, .int .i64 t.n, .str t.s, .int .i64 t.op, .int .i64 t.label, .bool t.neg, encInts t.vars, .int .i64 t.a.kind, .int .i64 t.a.n, .list 3 (t.a.kids.map Ty.enc), .int .i64 t.b.kind, .int .i64 t.b.n, .list 3 (t.b.kids.map Ty.enc), .list 3 (t.args.map Ty.enc), .list 7 (t.pats.map Pat.enc), .list 20 (t.kids.map Tm.enc)] := by cases t; rw [Tm.enc]; rfl
noncomputable instance : DecidableEq Tm := fun a b => Classical.propDecidable (a = b)
@[simp] theorem isAggN_Tm (t : Tm) : isAggN 20 t.enc = true := by rw [Tm.enc_eq]; rfl
@[simp] theorem Tm.proj0 (t : Tm) : proj 0 t.enc = .int .i64 t.kind := by rw [Tm.enc_eq]; rfl
@[simp] theorem Tm.proj1 (t : Tm) : proj 1 t.enc = .int .i64 t.lo := by rw [Tm.enc_eq]; rfl
@[simp] theorem Tm.proj2 (t : Tm) : proj 2 t.enc = .int .i64 t.hi := by rw [Tm.enc_eq]; rfl
@[simp] theorem Tm.proj3 (t : Tm) : proj 3 t.enc = .str t.name := by rw [Tm.enc_eq]; rfl
@[simp] theorem Tm.proj4 (t : Tm) : proj 4 t.enc = .str t.arg := by rw [Tm.enc_eq]; rfl
@[simp] theorem Tm.proj5 (t : Tm) : proj 5 t.enc = .int .i64 t.n := by rw [Tm.enc_eq]; rfl
@[simp] theorem Tm.proj6 (t : Tm) : proj 6 t.enc = .str t.s := by rw [Tm.enc_eq]; rfl
@[simp] theorem Tm.proj7 (t : Tm) : proj 7 t.enc = .int .i64 t.op := by rw [Tm.enc_eq]; rfl
@[simp] theorem Tm.proj8 (t : Tm) : proj 8 t.enc = .int .i64 t.label := by rw [Tm.enc_eq]; rfl
@[simp] theorem Tm.proj9 (t : Tm) : proj 9 t.enc = .bool t.neg := by rw [Tm.enc_eq]; rfl
@[simp] theorem Tm.proj10 (t : Tm) : proj 10 t.enc = encInts t.vars := by rw [Tm.enc_eq]; rfl
@[simp] theorem Tm.proj11 (t : Tm) : proj 11 t.enc = .int .i64 t.a.kind := by rw [Tm.enc_eq]; rfl
@[simp] theorem Tm.proj12 (t : Tm) : proj 12 t.enc = .int .i64 t.a.n := by rw [Tm.enc_eq]; rfl
@[simp] theorem Tm.proj13 (t : Tm) : proj 13 t.enc = .list 3 (t.a.kids.map Ty.enc) := by rw [Tm.enc_eq]; rfl
@[simp] theorem Tm.proj14 (t : Tm) : proj 14 t.enc = .int .i64 t.b.kind := by rw [Tm.enc_eq]; rfl
@[simp] theorem Tm.proj15 (t : Tm) : proj 15 t.enc = .int .i64 t.b.n := by rw [Tm.enc_eq]; rfl
@[simp] theorem Tm.proj16 (t : Tm) : proj 16 t.enc = .list 3 (t.b.kids.map Ty.enc) := by rw [Tm.enc_eq]; rfl
@[simp] theorem Tm.proj17 (t : Tm) : proj 17 t.enc = .list 3 (t.args.map Ty.enc) := by rw [Tm.enc_eq]; rfl
@[simp] theorem Tm.proj18 (t : Tm) : proj 18 t.enc = .list 7 (t.pats.map Pat.enc) := by rw [Tm.enc_eq]; rfl
@[simp] theorem Tm.proj19 (t : Tm) : proj 19 t.enc = .list 20 (t.kids.map Tm.enc) := by rw [Tm.enc_eq]; rfl
theorem Tm.eta (t : Tm) : DV.agg [.int .i64 t.kind, .int .i64 t.lo, .int .i64 t.hi, .str t.name, .str t.arg, .int .i64 t.n, .str t.s, .int .i64 t.op, .int .i64 t.label, .bool t.neg, encInts t.vars, .int .i64 t.a.kind, .int .i64 t.a.n, .list 3 (t.a.kids.map Ty.enc), .int .i64 t.b.kind, .int .i64 t.b.n, .list 3 (t.b.kids.map Ty.enc), .list 3 (t.args.map Ty.enc), .list 7 (t.pats.map Pat.enc), .list 20 (t.kids.map Tm.enc)] = t.enc := (Tm.enc_eq t).symm
theorem Tm.ext' {t u : Tm} (h0 : t.kind = u.kind) (h1 : t.lo = u.lo) (h2 : t.hi = u.hi) (h3 : t.name = u.name) (h4 : t.arg = u.arg) (h5 : t.n = u.n) (h6 : t.s = u.s) (h7 : t.op = u.op) (h8 : t.label = u.label) (h9 : t.neg = u.neg) (h10 : t.vars = u.vars) (h11 : t.a = u.a) (h12 : t.b = u.b) (h13 : t.args = u.args) (h14 : t.pats = u.pats) (h15 : t.kids = u.kids) : t = u := by cases t; cases u; simp_all
theorem Tm.kid_lt {t k : Tm} (h : k ∈ t.kids) : SizeOf.sizeOf k < SizeOf.sizeOf t := by
 cases t
 simp only [Tm.kids_mk] at h
 have := List.sizeOf_lt_of_mem h
 simp only [Tm.mk.sizeOf_spec]
 omega
theorem Tm.ind {P : Tm → Prop} (h : ∀ t, (∀ k ∈ t.kids, P k) → P t) (t : Tm) : P t :=
 h t fun k hk => Tm.ind h k
termination_by SizeOf.sizeOf t
decreasing_by exact Tm.kid_lt hk
def Tm.size (t : Tm) : Nat := 1 + (t.kids.attach.map fun k => Tm.size k.1).sum
termination_by SizeOf.sizeOf t
decreasing_by exact Tm.kid_lt k.2
theorem Tm.size_eq (t : Tm) : t.size = 1 + (t.kids.map Tm.size).sum := by
 rw [Tm.size]
 congr 2
 exact List.attach_map_val (f := Tm.size) ..
theorem Tm.size_pos (t : Tm) : 0 < t.size := by rw [Tm.size_eq]; omega
theorem Tm.len_lt (t : Tm) : t.kids.length < t.size := by
 rw [Tm.size_eq]
 have : ∀ l : List Tm, l.length ≤ (l.map Tm.size).sum := by
  intro l
  induction l with
  | nil => simp
  | cons x l ih => have := Tm.size_pos x; simp only [List.length_cons, List.map_cons, List.sum_cons]; omega
 have := this t.kids
 omega
def Tm.mass (t : Tm) : Nat := 1 + t.name.size + t.arg.size + t.s.size + t.vars.length + t.a.size + t.b.size + (t.args.map Ty.size).sum + (t.pats.map Pat.mass).sum + (t.kids.attach.map fun k => Tm.mass k.1).sum
termination_by SizeOf.sizeOf t
decreasing_by exact Tm.kid_lt k.2
theorem Tm.mass_eq (t : Tm) : t.mass = 1 + t.name.size + t.arg.size + t.s.size + t.vars.length + t.a.size + t.b.size + (t.args.map Ty.size).sum + (t.pats.map Pat.mass).sum + (t.kids.map Tm.mass).sum := by
 rw [Tm.mass]
 congr 2
 exact List.attach_map_val (f := Tm.mass) ..
theorem Tm.mass_pos (t : Tm) : 0 < t.mass := by rw [Tm.mass_eq]; omega
theorem Tm.mass_kid {t k : Tm} (h : k ∈ t.kids) : k.mass < t.mass := by
 rw [Tm.mass_eq t]
 have := le_sum_mem (List.mem_map_of_mem (f := Tm.mass) h)
 omega
theorem Tm.mass_len (t : Tm) : t.kids.length < t.mass := by
 rw [Tm.mass_eq]
 have : ∀ l : List Tm, l.length ≤ (l.map Tm.mass).sum := by
  intro l
  induction l with
  | nil => simp
  | cons x l ih => have := Tm.mass_pos x; simp only [List.length_cons, List.map_cons, List.sum_cons]; omega
 have := this t.kids
 omega
theorem Tm.mass_name (t : Tm) : t.name.size < t.mass := by rw [Tm.mass_eq]; omega
theorem Tm.mass_arg (t : Tm) : t.arg.size < t.mass := by rw [Tm.mass_eq]; omega
theorem Tm.mass_s (t : Tm) : t.s.size < t.mass := by rw [Tm.mass_eq]; omega
theorem Tm.mass_vars (t : Tm) : t.vars.length < t.mass := by rw [Tm.mass_eq]; omega
theorem Tm.mass_a (t : Tm) : t.a.size < t.mass := by rw [Tm.mass_eq]; omega
theorem Tm.mass_b (t : Tm) : t.b.size < t.mass := by rw [Tm.mass_eq]; omega
theorem Tm.mass_args (t : Tm) : (t.args.map Ty.size).sum < t.mass := by rw [Tm.mass_eq]; omega
theorem Tm.mass_pats (t : Tm) : (t.pats.map Pat.mass).sum < t.mass := by rw [Tm.mass_eq]; omega
inductive Deriv where
 | mk (types : List Ty) (vars : List Int) (kids : List Deriv)
def Deriv.types : Deriv → List Ty | .mk x0 _ _ => x0
def Deriv.vars : Deriv → List Int | .mk _ x1 _ => x1
def Deriv.kids : Deriv → List Deriv | .mk _ _ x2 => x2
@[simp] theorem Deriv.types_mk (x0 : List Ty) (x1 : List Int) (x2 : List Deriv) : (Deriv.mk x0 x1 x2).types = x0 := rfl
@[simp] theorem Deriv.vars_mk (x0 : List Ty) (x1 : List Int) (x2 : List Deriv) : (Deriv.mk x0 x1 x2).vars = x1 := rfl
@[simp] theorem Deriv.kids_mk (x0 : List Ty) (x1 : List Int) (x2 : List Deriv) : (Deriv.mk x0 x1 x2).kids = x2 := rfl
def Deriv.enc : Deriv → DV
 | .mk x0 x1 x2 => .agg [.list 3 (x0.map Ty.enc), encInts x1, .list 3 (x2.map Deriv.enc)]
theorem Deriv.enc_eq (t : Deriv) : t.enc = .agg [.list 3 (t.types.map Ty.enc), encInts t.vars, .list 3 (t.kids.map Deriv.enc)] := by cases t; rw [Deriv.enc]; rfl
noncomputable instance : DecidableEq Deriv := fun a b => Classical.propDecidable (a = b)
@[simp] theorem isAggN_Deriv (t : Deriv) : isAggN 3 t.enc = true := by rw [Deriv.enc_eq]; rfl
@[simp] theorem Deriv.proj0 (t : Deriv) : proj 0 t.enc = .list 3 (t.types.map Ty.enc) := by rw [Deriv.enc_eq]; rfl
@[simp] theorem Deriv.proj1 (t : Deriv) : proj 1 t.enc = encInts t.vars := by rw [Deriv.enc_eq]; rfl
@[simp] theorem Deriv.proj2 (t : Deriv) : proj 2 t.enc = .list 3 (t.kids.map Deriv.enc) := by rw [Deriv.enc_eq]; rfl
theorem Deriv.ext' {t u : Deriv} (h0 : t.types = u.types) (h1 : t.vars = u.vars) (h2 : t.kids = u.kids) : t = u := by cases t; cases u; simp_all
theorem Deriv.kid_lt {t k : Deriv} (h : k ∈ t.kids) : SizeOf.sizeOf k < SizeOf.sizeOf t := by
 cases t
 simp only [Deriv.kids_mk] at h
 have := List.sizeOf_lt_of_mem h
 simp only [Deriv.mk.sizeOf_spec]
 omega
theorem Deriv.ind {P : Deriv → Prop} (h : ∀ t, (∀ k ∈ t.kids, P k) → P t) (t : Deriv) : P t :=
 h t fun k hk => Deriv.ind h k
termination_by SizeOf.sizeOf t
decreasing_by exact Deriv.kid_lt hk
def Deriv.size (t : Deriv) : Nat := 1 + (t.kids.attach.map fun k => Deriv.size k.1).sum
termination_by SizeOf.sizeOf t
decreasing_by exact Deriv.kid_lt k.2
theorem Deriv.size_eq (t : Deriv) : t.size = 1 + (t.kids.map Deriv.size).sum := by
 rw [Deriv.size]
 congr 2
 exact List.attach_map_val (f := Deriv.size) ..
theorem Deriv.size_pos (t : Deriv) : 0 < t.size := by rw [Deriv.size_eq]; omega
theorem Deriv.len_lt (t : Deriv) : t.kids.length < t.size := by
 rw [Deriv.size_eq]
 have : ∀ l : List Deriv, l.length ≤ (l.map Deriv.size).sum := by
  intro l
  induction l with
  | nil => simp
  | cons x l ih => have := Deriv.size_pos x; simp only [List.length_cons, List.map_cons, List.sum_cons]; omega
 have := this t.kids
 omega
def Deriv.mass (t : Deriv) : Nat := 1 + (t.types.map Ty.size).sum + t.vars.length + (t.kids.attach.map fun k => Deriv.mass k.1).sum
termination_by SizeOf.sizeOf t
decreasing_by exact Deriv.kid_lt k.2
theorem Deriv.mass_eq (t : Deriv) : t.mass = 1 + (t.types.map Ty.size).sum + t.vars.length + (t.kids.map Deriv.mass).sum := by
 rw [Deriv.mass]
 congr 2
 exact List.attach_map_val (f := Deriv.mass) ..
theorem Deriv.mass_pos (t : Deriv) : 0 < t.mass := by rw [Deriv.mass_eq]; omega
theorem Deriv.mass_len (t : Deriv) : t.kids.length < t.mass := by
 rw [Deriv.mass_eq]
 have : ∀ l : List Deriv, l.length ≤ (l.map Deriv.mass).sum := by
  intro l
  induction l with
  | nil => simp
  | cons x l ih => have := Deriv.mass_pos x; simp only [List.length_cons, List.map_cons, List.sum_cons]; omega
 have := this t.kids
 omega
theorem Deriv.mass_vars (t : Deriv) : t.vars.length < t.mass := by rw [Deriv.mass_eq]; omega
inductive Coer where
 | mk (kind : Int) (head : Int) (label : Int) (neg : Bool) (kids : List Coer)
def Coer.kind : Coer → Int | .mk x0 _ _ _ _ => x0
def Coer.head : Coer → Int | .mk _ x1 _ _ _ => x1
def Coer.label : Coer → Int | .mk _ _ x2 _ _ => x2
def Coer.neg : Coer → Bool | .mk _ _ _ x3 _ => x3
def Coer.kids : Coer → List Coer | .mk _ _ _ _ x4 => x4
@[simp] theorem Coer.kind_mk (x0 : Int) (x1 : Int) (x2 : Int) (x3 : Bool) (x4 : List Coer) : (Coer.mk x0 x1 x2 x3 x4).kind = x0 := rfl
@[simp] theorem Coer.head_mk (x0 : Int) (x1 : Int) (x2 : Int) (x3 : Bool) (x4 : List Coer) : (Coer.mk x0 x1 x2 x3 x4).head = x1 := rfl
@[simp] theorem Coer.label_mk (x0 : Int) (x1 : Int) (x2 : Int) (x3 : Bool) (x4 : List Coer) : (Coer.mk x0 x1 x2 x3 x4).label = x2 := rfl
@[simp] theorem Coer.neg_mk (x0 : Int) (x1 : Int) (x2 : Int) (x3 : Bool) (x4 : List Coer) : (Coer.mk x0 x1 x2 x3 x4).neg = x3 := rfl
@[simp] theorem Coer.kids_mk (x0 : Int) (x1 : Int) (x2 : Int) (x3 : Bool) (x4 : List Coer) : (Coer.mk x0 x1 x2 x3 x4).kids = x4 := rfl
def Coer.enc : Coer → DV
 | .mk x0 x1 x2 x3 x4 => .agg [.int .i64 x0, .int .i64 x1, .int .i64 x2, .bool x3, .list 5 (x4.map Coer.enc)]
theorem Coer.enc_eq (t : Coer) : t.enc = .agg [.int .i64 t.kind, .int .i64 t.head, .int .i64 t.label, .bool t.neg, .list 5 (t.kids.map Coer.enc)] := by cases t; rw [Coer.enc]; rfl
noncomputable instance : DecidableEq Coer := fun a b => Classical.propDecidable (a = b)
@[simp] theorem isAggN_Coer (t : Coer) : isAggN 5 t.enc = true := by rw [Coer.enc_eq]; rfl
@[simp] theorem Coer.proj0 (t : Coer) : proj 0 t.enc = .int .i64 t.kind := by rw [Coer.enc_eq]; rfl
@[simp] theorem Coer.proj1 (t : Coer) : proj 1 t.enc = .int .i64 t.head := by rw [Coer.enc_eq]; rfl
@[simp] theorem Coer.proj2 (t : Coer) : proj 2 t.enc = .int .i64 t.label := by rw [Coer.enc_eq]; rfl
@[simp] theorem Coer.proj3 (t : Coer) : proj 3 t.enc = .bool t.neg := by rw [Coer.enc_eq]; rfl
@[simp] theorem Coer.proj4 (t : Coer) : proj 4 t.enc = .list 5 (t.kids.map Coer.enc) := by rw [Coer.enc_eq]; rfl
theorem Coer.ext' {t u : Coer} (h0 : t.kind = u.kind) (h1 : t.head = u.head) (h2 : t.label = u.label) (h3 : t.neg = u.neg) (h4 : t.kids = u.kids) : t = u := by cases t; cases u; simp_all
theorem Coer.kid_lt {t k : Coer} (h : k ∈ t.kids) : SizeOf.sizeOf k < SizeOf.sizeOf t := by
 cases t
 simp only [Coer.kids_mk] at h
 have := List.sizeOf_lt_of_mem h
 simp only [Coer.mk.sizeOf_spec]
 omega
theorem Coer.ind {P : Coer → Prop} (h : ∀ t, (∀ k ∈ t.kids, P k) → P t) (t : Coer) : P t :=
 h t fun k hk => Coer.ind h k
termination_by SizeOf.sizeOf t
decreasing_by exact Coer.kid_lt hk
def Coer.size (t : Coer) : Nat := 1 + (t.kids.attach.map fun k => Coer.size k.1).sum
termination_by SizeOf.sizeOf t
decreasing_by exact Coer.kid_lt k.2
theorem Coer.size_eq (t : Coer) : t.size = 1 + (t.kids.map Coer.size).sum := by
 rw [Coer.size]
 congr 2
 exact List.attach_map_val (f := Coer.size) ..
theorem Coer.size_pos (t : Coer) : 0 < t.size := by rw [Coer.size_eq]; omega
theorem Coer.len_lt (t : Coer) : t.kids.length < t.size := by
 rw [Coer.size_eq]
 have : ∀ l : List Coer, l.length ≤ (l.map Coer.size).sum := by
  intro l
  induction l with
  | nil => simp
  | cons x l ih => have := Coer.size_pos x; simp only [List.length_cons, List.map_cons, List.sum_cons]; omega
 have := this t.kids
 omega
def Coer.mass (t : Coer) : Nat := 1 + (t.kids.attach.map fun k => Coer.mass k.1).sum
termination_by SizeOf.sizeOf t
decreasing_by exact Coer.kid_lt k.2
theorem Coer.mass_eq (t : Coer) : t.mass = 1 + (t.kids.map Coer.mass).sum := by
 rw [Coer.mass]
 congr 2
 exact List.attach_map_val (f := Coer.mass) ..
theorem Coer.mass_pos (t : Coer) : 0 < t.mass := by rw [Coer.mass_eq]; omega
theorem Coer.mass_len (t : Coer) : t.kids.length < t.mass := by
 rw [Coer.mass_eq]
 have : ∀ l : List Coer, l.length ≤ (l.map Coer.mass).sum := by
  intro l
  induction l with
  | nil => simp
  | cons x l ih => have := Coer.mass_pos x; simp only [List.length_cons, List.map_cons, List.sum_cons]; omega
 have := this t.kids
 omega
inductive Val where
 | mk (kind : Int) (n : Int) (s : ByteArray) (c : Coer) (kids : List Val)
def Val.kind : Val → Int | .mk x0 _ _ _ _ => x0
def Val.n : Val → Int | .mk _ x1 _ _ _ => x1
def Val.s : Val → ByteArray | .mk _ _ x2 _ _ => x2
def Val.c : Val → Coer | .mk _ _ _ x3 _ => x3
def Val.kids : Val → List Val | .mk _ _ _ _ x4 => x4
@[simp] theorem Val.kind_mk (x0 : Int) (x1 : Int) (x2 : ByteArray) (x3 : Coer) (x4 : List Val) : (Val.mk x0 x1 x2 x3 x4).kind = x0 := rfl
@[simp] theorem Val.n_mk (x0 : Int) (x1 : Int) (x2 : ByteArray) (x3 : Coer) (x4 : List Val) : (Val.mk x0 x1 x2 x3 x4).n = x1 := rfl
@[simp] theorem Val.s_mk (x0 : Int) (x1 : Int) (x2 : ByteArray) (x3 : Coer) (x4 : List Val) : (Val.mk x0 x1 x2 x3 x4).s = x2 := rfl
@[simp] theorem Val.c_mk (x0 : Int) (x1 : Int) (x2 : ByteArray) (x3 : Coer) (x4 : List Val) : (Val.mk x0 x1 x2 x3 x4).c = x3 := rfl
@[simp] theorem Val.kids_mk (x0 : Int) (x1 : Int) (x2 : ByteArray) (x3 : Coer) (x4 : List Val) : (Val.mk x0 x1 x2 x3 x4).kids = x4 := rfl
def Val.enc : Val → DV
 | .mk x0 x1 x2 x3 x4 => .agg [.int .i64 x0, .int .i64 x1, .str x2, .int .i64 x3.kind, .int .i64 x3.head, .int .i64 x3.label, .bool x3.neg, .list 5 (x3.kids.map Coer.enc), .list 9 (x4.map Val.enc)]
theorem Val.enc_eq (t : Val) : t.enc = .agg [.int .i64 t.kind, .int .i64 t.n, .str t.s, .int .i64 t.c.kind, .int .i64 t.c.head, .int .i64 t.c.label, .bool t.c.neg, .list 5 (t.c.kids.map Coer.enc), .list 9 (t.kids.map Val.enc)] := by cases t; rw [Val.enc]; rfl
noncomputable instance : DecidableEq Val := fun a b => Classical.propDecidable (a = b)
@[simp] theorem isAggN_Val (t : Val) : isAggN 9 t.enc = true := by rw [Val.enc_eq]; rfl
@[simp] theorem Val.proj0 (t : Val) : proj 0 t.enc = .int .i64 t.kind := by rw [Val.enc_eq]; rfl
@[simp] theorem Val.proj1 (t : Val) : proj 1 t.enc = .int .i64 t.n := by rw [Val.enc_eq]; rfl
@[simp] theorem Val.proj2 (t : Val) : proj 2 t.enc = .str t.s := by rw [Val.enc_eq]; rfl
@[simp] theorem Val.proj3 (t : Val) : proj 3 t.enc = .int .i64 t.c.kind := by rw [Val.enc_eq]; rfl
@[simp] theorem Val.proj4 (t : Val) : proj 4 t.enc = .int .i64 t.c.head := by rw [Val.enc_eq]; rfl
@[simp] theorem Val.proj5 (t : Val) : proj 5 t.enc = .int .i64 t.c.label := by rw [Val.enc_eq]; rfl
@[simp] theorem Val.proj6 (t : Val) : proj 6 t.enc = .bool t.c.neg := by rw [Val.enc_eq]; rfl
@[simp] theorem Val.proj7 (t : Val) : proj 7 t.enc = .list 5 (t.c.kids.map Coer.enc) := by rw [Val.enc_eq]; rfl
@[simp] theorem Val.proj8 (t : Val) : proj 8 t.enc = .list 9 (t.kids.map Val.enc) := by rw [Val.enc_eq]; rfl
theorem Val.ext' {t u : Val} (h0 : t.kind = u.kind) (h1 : t.n = u.n) (h2 : t.s = u.s) (h3 : t.c = u.c) (h4 : t.kids = u.kids) : t = u := by cases t; cases u; simp_all
theorem Val.kid_lt {t k : Val} (h : k ∈ t.kids) : SizeOf.sizeOf k < SizeOf.sizeOf t := by
 cases t
 simp only [Val.kids_mk] at h
 have := List.sizeOf_lt_of_mem h
 simp only [Val.mk.sizeOf_spec]
 omega
theorem Val.ind {P : Val → Prop} (h : ∀ t, (∀ k ∈ t.kids, P k) → P t) (t : Val) : P t :=
 h t fun k hk => Val.ind h k
termination_by SizeOf.sizeOf t
decreasing_by exact Val.kid_lt hk
def Val.size (t : Val) : Nat := 1 + (t.kids.attach.map fun k => Val.size k.1).sum
termination_by SizeOf.sizeOf t
decreasing_by exact Val.kid_lt k.2
theorem Val.size_eq (t : Val) : t.size = 1 + (t.kids.map Val.size).sum := by
 rw [Val.size]
 congr 2
 exact List.attach_map_val (f := Val.size) ..
theorem Val.size_pos (t : Val) : 0 < t.size := by rw [Val.size_eq]; omega
theorem Val.len_lt (t : Val) : t.kids.length < t.size := by
 rw [Val.size_eq]
 have : ∀ l : List Val, l.length ≤ (l.map Val.size).sum := by
  intro l
  induction l with
  | nil => simp
  | cons x l ih => have := Val.size_pos x; simp only [List.length_cons, List.map_cons, List.sum_cons]; omega
 have := this t.kids
 omega
def Val.mass (t : Val) : Nat := 1 + t.s.size + t.c.size + (t.kids.attach.map fun k => Val.mass k.1).sum
termination_by SizeOf.sizeOf t
decreasing_by exact Val.kid_lt k.2
theorem Val.mass_eq (t : Val) : t.mass = 1 + t.s.size + t.c.size + (t.kids.map Val.mass).sum := by
 rw [Val.mass]
 congr 2
 exact List.attach_map_val (f := Val.mass) ..
theorem Val.mass_pos (t : Val) : 0 < t.mass := by rw [Val.mass_eq]; omega
theorem Val.mass_len (t : Val) : t.kids.length < t.mass := by
 rw [Val.mass_eq]
 have : ∀ l : List Val, l.length ≤ (l.map Val.mass).sum := by
  intro l
  induction l with
  | nil => simp
  | cons x l ih => have := Val.mass_pos x; simp only [List.length_cons, List.map_cons, List.sum_cons]; omega
 have := this t.kids
 omega
theorem Val.mass_s (t : Val) : t.s.size < t.mass := by rw [Val.mass_eq]; omega
@[simp] theorem Ty.ag (t : Ty) : ag3 t.enc = t.enc := by rw [Ty.enc_eq]; rfl
@[simp] theorem Deriv.ag (t : Deriv) : ag3 t.enc = t.enc := by rw [Deriv.enc_eq]; rfl
@[simp] theorem Pat.ag (t : Pat) : ag7 t.enc = t.enc := by rw [Pat.enc_eq]; rfl
@[simp] theorem Ex.ag (t : Ex) : ag16 t.enc = t.enc := by rw [Ex.enc_eq]; rfl
@[simp] theorem Tm.ag (t : Tm) : ag20 t.enc = t.enc := by rw [Tm.enc_eq]; rfl
theorem Ex.pj (t : Ex) : proj 0 t.enc = .int .i64 t.kind ∧ proj 1 t.enc = .int .i64 t.lo ∧ proj 2 t.enc = .int .i64 t.hi ∧ proj 3 t.enc = .str t.name ∧ proj 4 t.enc = .str t.arg ∧ proj 5 t.enc = .int .i64 t.n ∧ proj 6 t.enc = .str t.s ∧ proj 7 t.enc = .int .i64 t.op ∧ proj 8 t.enc = .int .i64 t.a.kind ∧ proj 9 t.enc = .int .i64 t.a.n ∧ proj 10 t.enc = .list 3 (t.a.kids.map Ty.enc) ∧ proj 11 t.enc = .int .i64 t.b.kind ∧ proj 12 t.enc = .int .i64 t.b.n ∧ proj 13 t.enc = .list 3 (t.b.kids.map Ty.enc) ∧ proj 14 t.enc = .list 7 (t.pats.map Pat.enc) ∧ proj 15 t.enc = .list 16 (t.kids.map Ex.enc) := ⟨t.proj0, t.proj1, t.proj2, t.proj3, t.proj4, t.proj5, t.proj6, t.proj7, t.proj8, t.proj9, t.proj10, t.proj11, t.proj12, t.proj13, t.proj14, t.proj15⟩
theorem Pat.pj (t : Pat) : proj 0 t.enc = .int .i64 t.kind ∧ proj 1 t.enc = .int .i64 t.lo ∧ proj 2 t.enc = .int .i64 t.hi ∧ proj 3 t.enc = .str t.name ∧ proj 4 t.enc = .int .i64 t.n ∧ proj 5 t.enc = .str t.s ∧ proj 6 t.enc = .list 7 (t.kids.map Pat.enc) := ⟨t.proj0, t.proj1, t.proj2, t.proj3, t.proj4, t.proj5, t.proj6⟩
theorem Tm.pj (t : Tm) : proj 0 t.enc = .int .i64 t.kind ∧ proj 1 t.enc = .int .i64 t.lo ∧ proj 2 t.enc = .int .i64 t.hi ∧ proj 3 t.enc = .str t.name ∧ proj 4 t.enc = .str t.arg ∧ proj 5 t.enc = .int .i64 t.n ∧ proj 6 t.enc = .str t.s ∧ proj 7 t.enc = .int .i64 t.op ∧ proj 8 t.enc = .int .i64 t.label ∧ proj 9 t.enc = .bool t.neg ∧ proj 10 t.enc = encInts t.vars ∧ proj 11 t.enc = .int .i64 t.a.kind ∧ proj 12 t.enc = .int .i64 t.a.n ∧ proj 13 t.enc = .list 3 (t.a.kids.map Ty.enc) ∧ proj 14 t.enc = .int .i64 t.b.kind ∧ proj 15 t.enc = .int .i64 t.b.n ∧ proj 16 t.enc = .list 3 (t.b.kids.map Ty.enc) ∧ proj 17 t.enc = .list 3 (t.args.map Ty.enc) ∧ proj 18 t.enc = .list 7 (t.pats.map Pat.enc) ∧ proj 19 t.enc = .list 20 (t.kids.map Tm.enc) := ⟨t.proj0, t.proj1, t.proj2, t.proj3, t.proj4, t.proj5, t.proj6, t.proj7, t.proj8, t.proj9, t.proj10, t.proj11, t.proj12, t.proj13, t.proj14, t.proj15, t.proj16, t.proj17, t.proj18, t.proj19⟩
theorem Val.pj (t : Val) : proj 0 t.enc = .int .i64 t.kind ∧ proj 1 t.enc = .int .i64 t.n ∧ proj 2 t.enc = .str t.s ∧ proj 3 t.enc = .int .i64 t.c.kind ∧ proj 4 t.enc = .int .i64 t.c.head ∧ proj 5 t.enc = .int .i64 t.c.label ∧ proj 6 t.enc = .bool t.c.neg ∧ proj 7 t.enc = .list 5 (t.c.kids.map Coer.enc) ∧ proj 8 t.enc = .list 9 (t.kids.map Val.enc) := ⟨t.proj0, t.proj1, t.proj2, t.proj3, t.proj4, t.proj5, t.proj6, t.proj7, t.proj8⟩
end Go.Su

/-
 PLAIN DATA: what the data's operations make of numbers, texts, lists.
-/
namespace Go.Su
@[simp] theorem ob_some' {α β : Type} (a : α) (f : α → Option β) : ob (some a) f = f a := rfl
@[simp] theorem ob_none' {α β : Type} (f : α → Option β) : ob none f = none := rfl
@[simp] theorem og_true' {β : Type} (x : Option β) : og true x = x := rfl
@[simp] theorem og_false' {β : Type} (x : Option β) : og false x = none := rfl
@[simp] theorem oif_bool {β : Type} (b : Bool) (x y : Option β) : oif (.bool b) x y = if b = true then x else y := by cases b <;> rfl
@[simp] theorem ogd_bool {β : Type} (b : Bool) (x y z : Option β) : ogd (.bool b) x y z = if b = true then x else y := by cases b <;> rfl
@[simp] theorem dLen_list (sz : Nat) (ds : List DV) : dLen (.list sz ds) = some (.int .i64 ds.length) := rfl
@[simp] theorem dLen_ints (l : List Int) : dLen (encInts l) = some (.int .i64 l.length) := by simp [encInts]
@[simp] theorem dLen_strs (l : List ByteArray) : dLen (encStrs l) = some (.int .i64 l.length) := by simp [encStrs]
@[simp] theorem dList_list (sz : Nat) (ds : List DV) : dList (.list sz ds) = some (sz, ds) := rfl
@[simp] theorem dLenS_str (s : ByteArray) : dLenS (.str s) = some (.int .i64 s.size) := rfl
@[simp] theorem dBin_eql (k : IntKind) (a b : Int) : dBin .eql (.int k a) (.int k b) = some (.bool (decide (a = b))) := by
  simp only [dBin, isShift, dArith, if_true]; rfl
@[simp] theorem dBin_neq (k : IntKind) (a b : Int) : dBin .neq (.int k a) (.int k b) = some (.bool (!decide (a = b))) := by
  simp only [dBin, isShift, dArith, if_true]; rfl
@[simp] theorem dBin_lss (k : IntKind) (a b : Int) : dBin .lss (.int k a) (.int k b) = some (.bool (decide (a < b))) := by
  simp only [dBin, isShift, dArith, if_true]
@[simp] theorem dBin_leq (k : IntKind) (a b : Int) : dBin .leq (.int k a) (.int k b) = some (.bool (decide (a ≤ b))) := by
  simp only [dBin, isShift, dArith, if_true]
@[simp] theorem dBin_gtr (k : IntKind) (a b : Int) : dBin .gtr (.int k a) (.int k b) = some (.bool (decide (b < a))) := by
  simp only [dBin, isShift, dArith, if_true, gt_iff_lt]
@[simp] theorem dBin_geq (k : IntKind) (a b : Int) : dBin .geq (.int k a) (.int k b) = some (.bool (decide (b ≤ a))) := by
  simp only [dBin, isShift, dArith, if_true, ge_iff_le]
theorem dBin_add (k : IntKind) (a b : Int) : dBin .add (.int k a) (.int k b) = some (.int k (k.wrap (a + b))) := by
 simp only [dBin, isShift, dArith, if_true]
theorem dBin_sub (k : IntKind) (a b : Int) : dBin .sub (.int k a) (.int k b) = some (.int k (k.wrap (a - b))) := by
 simp only [dBin, isShift, dArith, if_true]
theorem dBin_mul (k : IntKind) (a b : Int) : dBin .mul (.int k a) (.int k b) = some (.int k (k.wrap (a * b))) := by
 simp only [dBin, isShift, dArith, if_true]
theorem wrap_id {n : Int} (h1 : -9223372036854775808 ≤ n) (h2 : n ≤ 9223372036854775807) : IntKind.i64.wrap n = n := Go.IntWalk.i64_in n ⟨h1, h2⟩
theorem dAdd {a b : Int} (h1 : -9223372036854775808 ≤ a + b) (h2 : a + b ≤ 9223372036854775807) : dBin .add (.int .i64 a) (.int .i64 b) = some (.int .i64 (a + b)) := by
 rw [dBin_add, wrap_id h1 h2]
theorem dAdd1 {i : Nat} (h : i < 9223372036854775807) : dBin .add (.int .i64 (i : Int)) (.int .i64 1) = some (.int .i64 ((i + 1 : Nat) : Int)) := by
 rw [dAdd (by omega) (by omega)]
 simp
theorem ite_sb {c : Prop} [Decidable c] {a b : Bool} : (if c then some (DV.bool a) else some (DV.bool b)) = some (DV.bool (if c then a else b)) := by split <;> rfl
theorem ite_db {c : Prop} [Decidable c] {a b : Bool} : (if c then DV.bool a else DV.bool b) = DV.bool (if c then a else b) := by split <;> rfl
theorem ite_s {c : Prop} [Decidable c] {a b : DV} : (if c then some a else some b) = some (if c then a else b) := by split <;> rfl
theorem sb_iff {a b : Bool} (h : a = true ↔ b = true) : some (DV.bool a) = some (DV.bool b) := by rw [Bool.eq_iff_iff.2 h]
theorem bytes_toList (s : ByteArray) : s.toList = s.data.toList := by
 have loop : ∀ (n i : Nat) (r : List UInt8), s.size - i = n → ByteArray.toList.loop s i r = r.reverse ++ s.data.toList.drop i := by
  intro n
  induction n with
  | zero =>
    intro i r h
    rw [ByteArray.toList.loop, if_neg (by omega)]
    have : s.data.toList.length ≤ i := by simp only [Array.length_toList]; exact Nat.le_of_sub_eq_zero h
    simp [List.drop_of_length_le this]
  | succ n ih =>
    intro i r h
    have hi : i < s.size := by omega
    rw [ByteArray.toList.loop, if_pos hi, ih (i + 1) _ (by omega)]
    have hl : i < s.data.toList.length := by simpa using hi
    rw [List.drop_eq_getElem_cons hl]
    have : s.get! i = s.data.toList[i] := by
     simp only [ByteArray.get!, Array.getElem_toList]
     exact getElem!_pos s.data i hi
    rw [this]
    simp
 rw [ByteArray.toList, loop _ 0 [] rfl]
 simp
theorem bytes_ext {a b : ByteArray} (h : a.toList = b.toList) : a = b := by
 rw [bytes_toList, bytes_toList] at h
 cases a; cases b
 simp only [ByteArray.mk.injEq]
 exact Array.ext' h
theorem bytes_dec (a b : ByteArray) : (a.toList == b.toList) = decide (a = b) := by
 by_cases h : a = b
 ·subst h; simp
 ·have : a.toList ≠ b.toList := fun h' => h (bytes_ext h')
  simp [h, this]
@[simp] theorem dBin_seql (a b : ByteArray) : dBin .eql (.str a) (.str b) = some (.bool (decide (a = b))) := by
  simp only [dBin, dStrOp]
  rw [bytes_dec]
@[simp] theorem dBin_sneq (a b : ByteArray) : dBin .neq (.str a) (.str b) = some (.bool (!decide (a = b))) := by
  simp only [dBin, dStrOp]
  rw [bytes_dec]
@[simp] theorem dEqB_bool (a b : Bool) : dEqB (.bool a) (.bool b) = some (a == b) := rfl
@[simp] theorem dUn_not (b : Bool) : dUn .not (.bool b) = some (.bool !b) := rfl
@[simp] theorem dPick_bool (c : Bool) (a b : DV) : dPick (.bool c) a b = some (if c = true then a else b) := by cases c <;> rfl
@[simp] theorem isCell_int (k : IntKind) (n : Int) : isCell (.int k n) = true := rfl
@[simp] theorem isCell_bool (b : Bool) : isCell (.bool b) = true := rfl
@[simp] theorem isCell_str (s : ByteArray) : isCell (.str s) = true := rfl
@[simp] theorem isCell_list (sz : Nat) (ds : List DV) : isCell (.list sz ds) = true := rfl
@[simp] theorem isCell_ints (l : List Int) : isCell (encInts l) = true := rfl
@[simp] theorem isCell_strs (l : List ByteArray) : isCell (encStrs l) = true := rfl
@[simp] theorem isLeaf_int (k : IntKind) (n : Int) : isLeaf (.int k n) = true := rfl
@[simp] theorem isLeaf_str (s : ByteArray) : isLeaf (.str s) = true := rfl
@[simp] theorem isKey_int (n : Int) : isKey false (.int .i64 n) = true := rfl
@[simp] theorem isKey_str (s : ByteArray) : isKey true (.str s) = true := rfl
theorem dIdx_list (sz : Nat) (ds : List DV) (k : IntKind) (i : Nat) : dIdx sz (.list sz ds) (.int k (i : Int)) = ds[i]? := by
 simp [dIdx]
theorem dIdx_map {α : Type} {e : α → DV} {sz : Nat} {l : List α} {k : IntKind} {i : Nat} (h : i < l.length) : dIdx sz (.list sz (l.map e)) (.int k (i : Int)) = some (e l[i]) := by
 rw [dIdx_list, List.getElem?_map, List.getElem?_eq_getElem h]; rfl
theorem dIdx_ints {l : List Int} {k : IntKind} {i : Nat} (h : i < l.length) : dIdx 1 (encInts l) (.int k (i : Int)) = some (.int .i64 l[i]) := dIdx_map h
theorem dIdx_strs {l : List ByteArray} {k : IntKind} {i : Nat} (h : i < l.length) : dIdx 1 (encStrs l) (.int k (i : Int)) = some (.str l[i]) := dIdx_map h
theorem dApp_list {sz : Nat} {a b : List DV} (h : a.length + b.length ≤ lim) : dApp sz (.list sz a) (.list sz b) = some (.list sz (a ++ b)) := by
 simp [dApp, h]
theorem loop_each {α A X : Type} {l : List α} {P : Int → A → Option X} {I : Nat → A → Prop} {F : List α → A → Option X} (stop : ∀ a, I l.length a → P l.length a = F [] a)
 (step : ∀ (i : Nat) (h : i < l.length) a, I i a → (∀ a', I (i + 1) a' → P ((i : Int) + 1) a' = F (l.drop (i + 1)) a') → P i a = F (l[i] :: l.drop (i + 1)) a) :
 ∀ a, I 0 a → P 0 a = F l a := by
 have key : ∀ (n i : Nat) a, i + n = l.length → I i a → P i a = F (l.drop i) a := by
  intro n
  induction n with
  | zero =>
    intro i a hi ha
    have : i = l.length := by omega
    subst this
    rw [stop a ha, List.drop_length]
  | succ n ih =>
    intro i a hi ha
    have h : i < l.length := by omega
    rw [List.drop_eq_getElem_cons h]
    refine step i h a ha fun a' ha' => ?_
    have := ih (i + 1) a' (by omega) ha'
    push_cast at this
    exact this
 intro a ha
 have := key l.length 0 a (by omega) ha
 simpa using this
theorem loop_all {α X : Type} {l : List α} {P : Int → Option X} {f : α → Bool} {y n : X} (stop : P l.length = some y)
 (step : ∀ (i : Nat) (h : i < l.length), P i = if f l[i] = true then P ((i : Int) + 1) else some n) : P 0 = some (if l.all f = true then y else n) := by
 have := loop_each (l := l) (P := fun i (_ : Unit) => P i) (I := fun _ _ => True) (F := fun l _ => some (if l.all f = true then y else n)) (fun _ _ => by simpa using stop)
  (fun i h a _ ih => by
    rw [step i h]
    have h2 := ih () trivial
    rw [h2]
    simp only [List.all_cons, Bool.and_eq_true]
    by_cases h3 : f l[i] = true <;> simp [h3]) () trivial
 exact this
theorem loop_fold {α A X : Type} {l : List α} {P : Int → A → Option X} {g : A → α → A} {fin : A → Option X} {I : Nat → A → Prop} (stop : ∀ a, I l.length a → P l.length a = fin a)
 (step : ∀ (i : Nat) (h : i < l.length) a, I i a → P i a = P ((i : Int) + 1) (g a l[i]) ∧ I (i + 1) (g a l[i])) : ∀ a, I 0 a → P 0 a = fin (l.foldl g a) := by
 refine loop_each (F := fun l a => fin (l.foldl g a)) (fun a ha => by simpa using stop a ha) fun i h a ha ih => ?_
 obtain ⟨h1, h2⟩ := step i h a ha
 rw [h1, ih _ h2]
 rfl
theorem loop_two {α X : Type} [DecidableEq α] {l m : List α} (hl : l.length = m.length) {P : Int → Option X} {y n : X} (stop : P l.length = some y)
 (step : ∀ (i : Nat) (h : i < l.length), P i = if l[i] = m[i]'(by omega) then P ((i : Int) + 1) else some n) : P 0 = some (if l = m then y else n) := by
 have key : ∀ (k i : Nat), i + k = l.length → P i = some (if l.drop i = m.drop i then y else n) := by
  intro k
  induction k with
  | zero =>
    intro i hi
    have : i = l.length := by omega
    subst this
    rw [stop, List.drop_length, List.drop_of_length_le (by omega), if_pos rfl]
  | succ k ih =>
    intro i hi
    have h : i < l.length := by omega
    have h' : i < m.length := by omega
    have h2 := ih (i + 1) (by omega)
    push_cast at h2
    have e1 : l.drop i = l[i] :: l.drop (i + 1) := List.drop_eq_getElem_cons h
    have e2 : m.drop i = m[i] :: m.drop (i + 1) := List.drop_eq_getElem_cons h'
    have e3 : (l.drop i = m.drop i) ↔ (l[i] = m[i] ∧ l.drop (i + 1) = m.drop (i + 1)) := by rw [e1, e2, List.cons.injEq]
    rw [step i h, h2]
    by_cases h3 : l[i] = m[i] <;> by_cases h4 : l.drop (i + 1) = m.drop (i + 1) <;> simp only [e3, h3, h4, true_and, and_true, false_and, and_false, if_true, if_false]
 have := key l.length 0 (by omega)
 simpa using this
theorem loop_allB {α : Type} {l : List α} {P : Int → Option DV} {f : α → Bool} (stop : P l.length = some (.bool true))
 (step : ∀ (i : Nat) (h : i < l.length), P i = if f l[i] = true then P ((i : Int) + 1) else some (.bool false)) : P 0 = some (.bool (l.all f)) := by
 rw [loop_all stop step]
 cases l.all f <;> rfl
theorem loop_anyB {α : Type} {l : List α} {P : Int → Option DV} {f : α → Bool} (stop : P l.length = some (.bool false))
 (step : ∀ (i : Nat) (h : i < l.length), P i = if f l[i] = true then some (.bool true) else P ((i : Int) + 1)) : P 0 = some (.bool (l.any f)) := by
 have := loop_all (l := l) (P := P) (f := fun x => !f x) (y := .bool false) (n := .bool true) stop (fun i h => by rw [step i h]; cases f l[i] <;> rfl)
 rw [this, show l.any f = !l.all (fun x => !f x) by rw [List.all_eq_not_any_not]; simp]
 cases l.all (fun x => !f x) <;> rfl
theorem loop_twoB {α : Type} [DecidableEq α] {l m : List α} (hl : l.length = m.length) {P : Int → Option DV} (stop : P l.length = some (.bool true))
 (step : ∀ (i : Nat) (h : i < l.length), P i = if l[i] = m[i]'(by omega) then P ((i : Int) + 1) else some (.bool false)) : P 0 = some (.bool (decide (l = m))) := by
 rw [loop_two hl stop step]
 by_cases h : l = m <;> simp [h]
end Go.Su

/-
 FROM A READING TO DATA: what an argument reads as lies in memory as plain data.
-/
namespace Go.Su
mutual
def bulkW {H : Type} : DataW H → Nat
 | .lit (.string bytes) => bytes.length + 1
 | .lit _ => 1
 | .nil => 1
 | .ptr d => bulkW d + 1
 | .slice elems spare => bulkAll elems + bulkAll spare + 1
 | .agg parts => bulkAll parts + 1
 | .iface _ d => bulkW d + 1
 | .map entries => bulkEntries entries + 1
 | .held _ => 1
def bulkAll {H : Type} : List (DataW H) → Nat
 | [] => 0
 | d :: r => bulkW d + bulkAll r
def bulkEntries {H : Type} : List (Lit × DataW H) → Nat
 | [] => 0
 | x :: r => bulkEntry x + bulkEntries r
def bulkEntry {H : Type} : Lit × DataW H → Nat
 | (.string bytes, d) => bytes.length + bulkW d + 1
 | (_, d) => bulkW d + 1
end
def Old (w : World) : Seal := fun b _ => b < w.heap.size
section
variable {H : Type} {enc : TypeId × Value → H} {P : Program} {w : World} {held : Bool}
abbrev Rd (enc : TypeId × Value → H) (P : Program) (w : World) (held : Bool) : Nat → TypeId → List Value → Option (DataW H × List MemPlace) := DataW.trod enc P w 0 (fun _ => true) held
theorem bulkAll_ge {l : List (DataW H)} {m : List Nat} (h1 : m.length = l.length) (h2 : ∀ (i : Nat) (a : Nat) (d : DataW H), m[i]? = some a → l[i]? = some d → a ≤ bulkW d) : m.sum ≤ bulkAll l := by
 induction l generalizing m with
 | nil => cases m <;> simp_all
 | cons d l ih =>
   cases m with
   | nil => simp at h1
   | cons a m =>
     simp only [List.sum_cons, bulkAll]
     have h3 := h2 0 a d rfl rfl
     have h4 := ih (m := m) (by simpa using h1) fun i a d ha hd => h2 (i + 1) a d (by simpa using ha) (by simpa using hd)
     omega
theorem add_block (a : Addr) (k : Nat) : (a.add k).block = a.block := by unfold Addr.add; split <;> rfl
theorem add_off (a : Addr) (k : Nat) : (a.add k).off = a.off + k := by unfold Addr.add; split <;> simp_all
theorem rd_cells {a : Addr} {n : Nat} {cs : List Value} (h : w.cells? 0 a n = some cs) (hn : 0 < n) : a.spot = none ∧ cs.length = n ∧ At (Old w) w.heap a.block a.off cs := by
 obtain ⟨-, hl, hc⟩ := World.cells?_some h
 have hs : a.spot = none := by
  have h0 := hc 0 hn
  have : cs[0]? = some (cs[0]'(by omega)) := List.getElem?_eq_getElem (by omega)
  rw [this] at h0
  unfold World.cell? at h0
  split at h0
  ·split at h0
   ·cases h0
   ·rename_i hsp
    simpa [Addr.add] using hsp
  ·cases h0
 refine ⟨hs, hl, fun j v hv => ?_⟩
 have hj : j < n := by rw [← hl]; exact (List.getElem?_eq_some_iff.1 hv).1
 have h1 := hc j hj
 have e : a.add j = ⟨a.block, a.off + j, none⟩ := by
  unfold Addr.add
  split
  ·rename_i h0; cases a; simp only at hs; subst hs; simp [h0]
  ·rfl
 rw [e, cell_hc, hv] at h1
 refine ⟨h1, ?_⟩
 unfold Su.hc at h1
 split at h1
 ·rename_i hb
  exact (Array.getElem?_eq_some_iff.1 hb).1
 ·cases h1
theorem rd_slice {α : Type} {e : α → DV} {sz : α → Nat} {el t : TypeId} {fuel : Nat} {cs : List Value} {x : DataW H × List MemPlace} (ht : P.underlying t = some (.slice el)) (hz : 0 < P.cellsOf el)
 (h : ∀ n cs x, n < fuel → Rd enc P w held n el cs = some x → ∃ a : α, RC (Old w) w.heap (e a) cs ∧ sz a ≤ bulkW x.1) (hr : Rd enc P w held fuel t cs = some x) :
 ∃ l : List α, RC (Old w) w.heap (.list (P.cellsOf el) (l.map e)) cs ∧ (l.map sz).sum + 1 ≤ bulkW x.1 := by
 rcases DataW.trod_slice ht hr with ⟨rfl, rfl⟩ | ⟨a, len, cap, elems, rest, n, rfl, rfl, rfl, hb, hlc, hcm, hel, hi, hsp, -⟩
 ·refine ⟨[], ?_, by simp [bulkW]⟩
  simp only [RC, List.map_nil]
  exact ⟨none, 0, 0, rfl, rfl, Nat.le_refl _, fun _ => rfl, by simp, by simp⟩
 ·have each : ∀ i : Fin len, ∃ y : α, ((i.1 = 0 → a.spot = none) ∧ Elem (Old w) w.heap (P.cellsOf el) a.block (a.off + i.1 * P.cellsOf el) (e y)) ∧ ∀ d, (elems.map (·.1))[i.1]? = some d → sz y ≤ bulkW d := by
   intro i
   have h1 := hi i.1 i.2
   have h2 : elems[i.1]? = some (elems[i.1]'(by omega)) := List.getElem?_eq_getElem (by omega)
   rw [h2] at h1
   obtain ⟨cs', h3, h4⟩ := Option.bind_eq_some_iff.1 h1
   obtain ⟨y, h5, h6⟩ := h n cs' _ (Nat.lt_succ_self n) h4
   obtain ⟨q1, q2, q3⟩ := rd_cells h3 hz
   rw [add_block, add_off] at q3
   refine ⟨y, ⟨fun h0 => by rw [h0] at q1; simpa [Addr.add] using q1, cs', q2, q3, h5⟩, fun d hd => ?_⟩
   rw [List.getElem?_map, h2] at hd
   simp only [Option.map_some, Option.some.injEq] at hd
   rw [← hd]
   exact h6
  let f : Fin len → α := fun i => (each i).choose
  have hf := fun i : Fin len => (each i).choose_spec
  refine ⟨List.ofFn f, ?_, ?_⟩
  ·simp only [RC]
   refine ⟨some a, len, cap, rfl, by simp, hlc, by simp, fun _ => hz, fun y hy => ?_⟩
   simp only [Option.some.injEq] at hy
   subst hy
   refine ⟨fun hcap => ?_, ?_⟩
   ·by_cases hl : 0 < len
    ·exact (hf ⟨0, hl⟩).1.1 rfl
    ·obtain ⟨r1, r2⟩ := hsp rfl
     have h1 := r2 0 (by omega)
     have h2 : rest[0]? = some (rest[0]'(by omega)) := List.getElem?_eq_getElem (by omega)
     rw [h2] at h1
     obtain ⟨cs', h3, -⟩ := Option.bind_eq_some_iff.1 h1
     have hl0 : len = 0 := by omega
     have := (rd_cells h3 hz).1
     simpa [Addr.add, hl0] using this
   ·rw [RElems_iff]
    intro i d hd
    rw [List.getElem?_map, Option.map_eq_some_iff] at hd
    obtain ⟨y, hy, rfl⟩ := hd
    have hlt : i < len := by have := (List.getElem?_eq_some_iff.1 hy).1; simpa using this
    rw [List.getElem?_ofFn, dif_pos hlt] at hy
    simp only [Option.some.injEq] at hy
    subst hy
    exact (hf ⟨i, hlt⟩).1.2
  ·simp only [bulkW]
   have := bulkAll_ge (l := elems.map (·.1)) (m := (List.ofFn f).map sz) (by simp [hel]) fun i b d hb hd => by
    rw [List.getElem?_map, Option.map_eq_some_iff] at hb
    obtain ⟨y, hy, rfl⟩ := hb
    have hlt : i < len := by have := (List.getElem?_eq_some_iff.1 hy).1; simpa using this
    rw [List.getElem?_ofFn, dif_pos hlt] at hy
    simp only [Option.some.injEq] at hy
    subst hy
    exact (hf ⟨i, hlt⟩).2 d hd
   omega
theorem RLs_append {S : Seal} {h : Heap} : ∀ {a b : List DV} {p q : List Value}, RLs S h a p → RLs S h b q → RLs S h (a ++ b) (p ++ q)
 | [], b, p, q, ha, hb => by simp only [RLs] at ha; subst ha; simpa using hb
 | d :: a, b, p, q, ha, hb => by
   simp only [RLs] at ha
   obtain ⟨v, vs', rfl, h1, h2, h3⟩ := ha
   simp only [List.cons_append, RLs]
   exact ⟨v, vs' ++ q, rfl, h1, h2, RLs_append h3 hb⟩
theorem RLs_one {S : Seal} {h : Heap} {d : DV} {cs : List Value} (hd : isLeaf d = true) (hr : RC S h d cs) : RLs S h [d] cs := by
 obtain ⟨v, rfl⟩ := RC_leaf hd hr
 exact ⟨v, [], rfl, hd, hr, rfl⟩
theorem rd_struct {fs : Array Field} {t : TypeId} {fuel : Nat} {cs : List Value} {x : DataW H × List MemPlace} (ht : P.underlying t = some (.struct fs)) (hr : Rd enc P w held fuel t cs = some x) :
 ∃ (n : Nat) (ds : List (DataW H)), fuel = n + 1 ∧ bulkW x.1 = bulkAll ds + 1 ∧ cs.length = P.cellsOf t ∧ ds.length = fs.size ∧
   ∀ (i : Nat) f, fs[i]? = some f → ∃ y, Rd enc P w held n f.type ((cs.drop f.offset).take (P.cellsOf f.type)) = some y ∧ ds[i]? = some y.1 := by
 obtain ⟨xs, n, rfl, rfl, h1, h2, h3⟩ := DataW.trod_struct ht hr
 refine ⟨n, xs.map (·.1), rfl, by simp [bulkW], h1, by simpa using h2, fun i f hf => ?_⟩
 have hi : i < xs.length := by rw [h2]; exact (Array.getElem?_eq_some_iff.1 hf).1
 refine ⟨xs[i], ?_, by simp [List.getElem?_eq_getElem hi]⟩
 have h4 := h3 i f hf
 rw [List.getElem?_eq_getElem hi] at h4
 exact h4
theorem rd_int {k : IntKind} {t : TypeId} {fuel : Nat} {cs : List Value} {x : DataW H × List MemPlace} (ht : P.underlying t = some (.int k)) (hr : Rd enc P w held fuel t cs = some x) : ∃ n : Int, RC (Old w) w.heap (.int k n) cs ∧ (Lit.int k n).wf = true ∧ 1 ≤ bulkW x.1 := by
 obtain ⟨n, rfl, rfl, hw⟩ := DataW.trod_int ht hr
 exact ⟨n, by simp only [RC], hw, by simp [bulkW]⟩
theorem rd_bool {t : TypeId} {fuel : Nat} {cs : List Value} {x : DataW H × List MemPlace} (ht : P.underlying t = some .bool) (hr : Rd enc P w held fuel t cs = some x) : ∃ b : Bool, RC (Old w) w.heap (.bool b) cs ∧ 1 ≤ bulkW x.1 := by
 obtain ⟨b, rfl, rfl⟩ := DataW.trod_bool ht hr
 exact ⟨b, by simp only [RC], by simp [bulkW]⟩
theorem rd_str {t : TypeId} {fuel : Nat} {cs : List Value} {x : DataW H × List MemPlace} (ht : P.underlying t = some .string) (hr : Rd enc P w held fuel t cs = some x) : ∃ s : ByteArray, RC (Old w) w.heap (.str s) cs ∧ s.size + 1 ≤ bulkW x.1 := by
 obtain ⟨s, rfl, rfl, hw⟩ := DataW.trod_string ht hr
 exact ⟨s, by simp only [RC], by simp [bulkW]⟩
theorem bulkW_pos (d : DataW H) : 1 ≤ bulkW d := by
 cases d with
 | lit l => cases l <;> simp [bulkW]
 | _ => simp [bulkW]
end
end Go.Su

/-
 FROM A READING TO DATA: the program's types, one by one. By program.
-/
namespace Go.Su
set_option linter.unusedSimpArgs false
set_option linter.unusedVariables false
def IntAt (P : Program) (t : TypeId) : Prop := P.underlying t = some (.int .i64) ∧ P.cellsOf t = 1
def StrAt (P : Program) (t : TypeId) : Prop := P.underlying t = some .string ∧ P.cellsOf t = 1
def BoolAt (P : Program) (t : TypeId) : Prop := P.underlying t = some .bool ∧ P.cellsOf t = 1
def SliceAt (P : Program) (t el : TypeId) : Prop := P.underlying t = some (.slice el) ∧ P.cellsOf t = 1
def SpanAt (P : Program) (t : TypeId) : Prop := ∃ f0 f1 : Field, P.underlying t = some (.struct #[f0, f1]) ∧ P.cellsOf t = 2 ∧ (IntAt P f0.type ∧ f0.offset = 0) ∧ (IntAt P f1.type ∧ f1.offset = 1)
def IntsAt (P : Program) (t : TypeId) : Prop := ∃ el, SliceAt P t el ∧ IntAt P el
section
variable {H : Type} {enc : TypeId × Value → H} {P : Program} {w : World} {held : Bool}
theorem rd_ints {t : TypeId} (A : IntsAt P t) {fuel : Nat} {cs : List Value} {x : DataW H × List MemPlace} (hr : Rd enc P w held fuel t cs = some x) : ∃ l : List Int, RC (Old w) w.heap (encInts l) cs ∧ l.length + 1 ≤ bulkW x.1 := by
 obtain ⟨el, A1, A2⟩ := A
 obtain ⟨l, h1, h2⟩ := rd_slice (e := fun n : Int => .int .i64 n) (sz := fun _ => 1) A1.1 (by rw [A2.2]; omega) (fun n cs x _ h => by obtain ⟨n, h1, -, h2⟩ := rd_int A2.1 h; exact ⟨n, h1, h2⟩) hr
 rw [A2.2] at h1
 have h3 : ∀ l : List Int, (l.map fun _ => 1).sum = l.length := by
  intro l
  induction l with
  | nil => rfl
  | cons a l ih => simp only [List.map_cons, List.sum_cons, ih, List.length_cons]; omega
 rw [h3] at h2
 exact ⟨l, h1, h2⟩
theorem rd_span {t : TypeId} (A : SpanAt P t) {fuel : Nat} {cs : List Value} {x : DataW H × List MemPlace} (hr : Rd enc P w held fuel t cs = some x) : ∃ a b : Int, RLs (Old w) w.heap [.int .i64 a, .int .i64 b] cs ∧ 1 ≤ bulkW x.1 := by
 obtain ⟨f0, f1, hu, hc, ⟨t0, o0⟩, t1, o1⟩ := A
 obtain ⟨n, ds, rfl, hb, hl, hd, hf⟩ := rd_struct hu hr
 obtain ⟨y0, r0, d0⟩ := hf 0 f0 rfl
 obtain ⟨y1, r1, d1⟩ := hf 1 f1 rfl
 rw [o0, t0.2] at r0
 rw [o1, t1.2] at r1
 rw [hc] at hl
 obtain ⟨k, q0, -, b0⟩ := rd_int t0.1 r0
 obtain ⟨m, q1, -, b1⟩ := rd_int t1.1 r1
 refine ⟨k, m, ?_, bulkW_pos _⟩
 have e : cs = (cs.drop 0).take 1 ++ (cs.drop 1).take 1 := by
  match cs, hl with
  | [a, b], _ => rfl
 rw [e]
 exact RLs_append (a := [_]) (RLs_one rfl q0) (RLs_one rfl q1)
def TyAt (P : Program) (t : TypeId) : Prop := ∃ f0 f1 f2 : Field, P.underlying t = some (.struct #[f0, f1, f2]) ∧ P.cellsOf t = 3 ∧ (IntAt P f0.type ∧ f0.offset = 0) ∧ (IntAt P f1.type ∧ f1.offset = 1) ∧ (SliceAt P f2.type t ∧ f2.offset = 2)
theorem TyAt.cells {t : TypeId} (A : TyAt P t) : P.cellsOf t = 3 := by obtain ⟨_, _, _, _, h, _⟩ := A; exact h
theorem rd_Ty {t : TypeId} (A : TyAt P t) : ∀ (fuel : Nat) (cs : List Value) (x : DataW H × List MemPlace), Rd enc P w held fuel t cs = some x → ∃ a : Ty, RC (Old w) w.heap a.enc cs ∧ a.size ≤ bulkW x.1 := by
 intro fuel
 induction fuel using Nat.strongRecOn with
 | ind fuel ih =>
   intro cs x hr
   have A0 := A
   obtain ⟨f0, f1, f2, hu, hc, ⟨t0, o0⟩, ⟨t1, o1⟩, t2, o2⟩ := A
   obtain ⟨n, ds, rfl, hb, hl, hd, hf⟩ := rd_struct hu hr
   rw [hc] at hl
   obtain ⟨y0, r0, d0⟩ := hf 0 f0 rfl
   rw [o0, t0.2] at r0
   obtain ⟨v0, q0, -, b0⟩ := rd_int t0.1 r0
   obtain ⟨y1, r1, d1⟩ := hf 1 f1 rfl
   rw [o1, t1.2] at r1
   obtain ⟨v1, q1, -, b1⟩ := rd_int t1.1 r1
   obtain ⟨y2, r2, d2⟩ := hf 2 f2 rfl
   rw [o2, t2.2] at r2
   obtain ⟨v2, q2, b2⟩ := rd_slice (sz := Ty.size) t2.1 (by rw [hc]; omega) (fun n' cs x hn h => ih n' (by omega) cs x h) r2
   rw [hc] at q2
   refine ⟨.mk v0 v1 v2, ?_, ?_⟩
   ·rw [Ty.enc_eq]
    simp only [RC, Ty.kind_mk, Ty.n_mk, Ty.kids_mk]
    have e : cs = (cs.drop 0).take 1 ++ ((cs.drop 1).take 1 ++ ((cs.drop 2).take 1)) := by
     match cs, hl with
     | [c0, c1, c2], _ => rfl
    rw [e]
    exact (RLs_append (a := [_]) (RLs_one rfl q0) (RLs_append (a := [_]) (RLs_one rfl q1) (RLs_one rfl q2)))
   ·rw [Ty.size_eq, hb]
    simp only [Ty.kind_mk, Ty.n_mk, Ty.kids_mk]
    have hs : ds = [y0.1, y1.1, y2.1] := by
     have hd : ds.length = 3 := hd
     match ds, hd, d0, d1, d2 with
     | [a0, a1, a2], _, d0, d1, d2 => simp_all
    rw [hs]
    simp only [bulkAll]
    omega
def PatAt (P : Program) (t : TypeId) : Prop := ∃ f0 f1 f2 f3 f4 f5 : Field, P.underlying t = some (.struct #[f0, f1, f2, f3, f4, f5]) ∧ P.cellsOf t = 7 ∧ (IntAt P f0.type ∧ f0.offset = 0) ∧ (SpanAt P f1.type ∧ f1.offset = 1) ∧ (StrAt P f2.type ∧ f2.offset = 3) ∧ (IntAt P f3.type ∧ f3.offset = 4) ∧ (StrAt P f4.type ∧ f4.offset = 5) ∧ (SliceAt P f5.type t ∧ f5.offset = 6)
theorem PatAt.cells {t : TypeId} (A : PatAt P t) : P.cellsOf t = 7 := by obtain ⟨_, _, _, _, _, _, _, h, _⟩ := A; exact h
theorem rd_Pat {t : TypeId} (A : PatAt P t) : ∀ (fuel : Nat) (cs : List Value) (x : DataW H × List MemPlace), Rd enc P w held fuel t cs = some x → ∃ a : Pat, RC (Old w) w.heap a.enc cs ∧ a.mass ≤ bulkW x.1 := by
 intro fuel
 induction fuel using Nat.strongRecOn with
 | ind fuel ih =>
   intro cs x hr
   have A0 := A
   obtain ⟨f0, f1, f2, f3, f4, f5, hu, hc, ⟨t0, o0⟩, ⟨t1, o1⟩, ⟨t2, o2⟩, ⟨t3, o3⟩, ⟨t4, o4⟩, t5, o5⟩ := A
   obtain ⟨n, ds, rfl, hb, hl, hd, hf⟩ := rd_struct hu hr
   rw [hc] at hl
   obtain ⟨y0, r0, d0⟩ := hf 0 f0 rfl
   rw [o0, t0.2] at r0
   obtain ⟨v0, q0, -, b0⟩ := rd_int t0.1 r0
   obtain ⟨y1, r1, d1⟩ := hf 1 f1 rfl
   obtain ⟨g10, g11, gu1, gc1, gr1⟩ := id t1
   rw [o1, gc1] at r1
   obtain ⟨v1, v1b, q1, b1⟩ := rd_span t1 r1
   obtain ⟨y2, r2, d2⟩ := hf 2 f2 rfl
   rw [o2, t2.2] at r2
   obtain ⟨v2, q2, b2⟩ := rd_str t2.1 r2
   obtain ⟨y3, r3, d3⟩ := hf 3 f3 rfl
   rw [o3, t3.2] at r3
   obtain ⟨v3, q3, -, b3⟩ := rd_int t3.1 r3
   obtain ⟨y4, r4, d4⟩ := hf 4 f4 rfl
   rw [o4, t4.2] at r4
   obtain ⟨v4, q4, b4⟩ := rd_str t4.1 r4
   obtain ⟨y5, r5, d5⟩ := hf 5 f5 rfl
   rw [o5, t5.2] at r5
   obtain ⟨v5, q5, b5⟩ := rd_slice (sz := Pat.mass) t5.1 (by rw [hc]; omega) (fun n' cs x hn h => ih n' (by omega) cs x h) r5
   rw [hc] at q5
   refine ⟨.mk v0 v1 v1b v2 v3 v4 v5, ?_, ?_⟩
   ·rw [Pat.enc_eq]
    simp only [RC, Pat.kind_mk, Pat.lo_mk, Pat.hi_mk, Pat.name_mk, Pat.n_mk, Pat.s_mk, Pat.kids_mk]
    have e : cs = (cs.drop 0).take 1 ++ ((cs.drop 1).take 2 ++ ((cs.drop 3).take 1 ++ ((cs.drop 4).take 1 ++ ((cs.drop 5).take 1 ++ ((cs.drop 6).take 1))))) := by
     match cs, hl with
     | [c0, c1, c2, c3, c4, c5, c6], _ => rfl
    rw [e]
    exact (RLs_append (a := [_]) (RLs_one rfl q0) (RLs_append (a := [_, _]) (q1) (RLs_append (a := [_]) (RLs_one rfl q2) (RLs_append (a := [_]) (RLs_one rfl q3) (RLs_append (a := [_]) (RLs_one rfl q4) (RLs_one rfl q5))))))
   ·rw [Pat.mass_eq, hb]
    simp only [Pat.kind_mk, Pat.lo_mk, Pat.hi_mk, Pat.name_mk, Pat.n_mk, Pat.s_mk, Pat.kids_mk]
    have hs : ds = [y0.1, y1.1, y2.1, y3.1, y4.1, y5.1] := by
     have hd : ds.length = 6 := hd
     match ds, hd, d0, d1, d2, d3, d4, d5 with
     | [a0, a1, a2, a3, a4, a5], _, d0, d1, d2, d3, d4, d5 => simp_all
    rw [hs]
    simp only [bulkAll]
    omega
def ExAt (P : Program) (t : TypeId) : Prop := ∃ f0 f1 f2 f3 f4 f5 f6 f7 f8 f9 f10 : Field, P.underlying t = some (.struct #[f0, f1, f2, f3, f4, f5, f6, f7, f8, f9, f10]) ∧ P.cellsOf t = 16 ∧ (IntAt P f0.type ∧ f0.offset = 0) ∧ (SpanAt P f1.type ∧ f1.offset = 1) ∧ (StrAt P f2.type ∧ f2.offset = 3) ∧ (StrAt P f3.type ∧ f3.offset = 4) ∧ (IntAt P f4.type ∧ f4.offset = 5) ∧ (StrAt P f5.type ∧ f5.offset = 6) ∧ (IntAt P f6.type ∧ f6.offset = 7) ∧ (TyAt P f7.type ∧ f7.offset = 8) ∧ (TyAt P f8.type ∧ f8.offset = 11) ∧ ((∃ el, SliceAt P f9.type el ∧ PatAt P el) ∧ f9.offset = 14) ∧ (SliceAt P f10.type t ∧ f10.offset = 15)
theorem ExAt.cells {t : TypeId} (A : ExAt P t) : P.cellsOf t = 16 := by obtain ⟨_, _, _, _, _, _, _, _, _, _, _, _, h, _⟩ := A; exact h
def TmAt (P : Program) (t : TypeId) : Prop := ∃ f0 f1 f2 f3 f4 f5 f6 f7 f8 f9 f10 f11 f12 f13 f14 : Field, P.underlying t = some (.struct #[f0, f1, f2, f3, f4, f5, f6, f7, f8, f9, f10, f11, f12, f13, f14]) ∧ P.cellsOf t = 20 ∧ (IntAt P f0.type ∧ f0.offset = 0) ∧ (SpanAt P f1.type ∧ f1.offset = 1) ∧ (StrAt P f2.type ∧ f2.offset = 3) ∧ (StrAt P f3.type ∧ f3.offset = 4) ∧ (IntAt P f4.type ∧ f4.offset = 5) ∧ (StrAt P f5.type ∧ f5.offset = 6) ∧ (IntAt P f6.type ∧ f6.offset = 7) ∧ (IntAt P f7.type ∧ f7.offset = 8) ∧ (BoolAt P f8.type ∧ f8.offset = 9) ∧ (IntsAt P f9.type ∧ f9.offset = 10) ∧ (TyAt P f10.type ∧ f10.offset = 11) ∧ (TyAt P f11.type ∧ f11.offset = 14) ∧ ((∃ el, SliceAt P f12.type el ∧ TyAt P el) ∧ f12.offset = 17) ∧ ((∃ el, SliceAt P f13.type el ∧ PatAt P el) ∧ f13.offset = 18) ∧ (SliceAt P f14.type t ∧ f14.offset = 19)
theorem TmAt.cells {t : TypeId} (A : TmAt P t) : P.cellsOf t = 20 := by obtain ⟨_, _, _, _, _, _, _, _, _, _, _, _, _, _, _, _, h, _⟩ := A; exact h
theorem rd_Tm {t : TypeId} (A : TmAt P t) : ∀ (fuel : Nat) (cs : List Value) (x : DataW H × List MemPlace), Rd enc P w held fuel t cs = some x → ∃ a : Tm, RC (Old w) w.heap a.enc cs ∧ a.mass ≤ bulkW x.1 := by
 intro fuel
 induction fuel using Nat.strongRecOn with
 | ind fuel ih =>
   intro cs x hr
   have A0 := A
   obtain ⟨f0, f1, f2, f3, f4, f5, f6, f7, f8, f9, f10, f11, f12, f13, f14, hu, hc, ⟨t0, o0⟩, ⟨t1, o1⟩, ⟨t2, o2⟩, ⟨t3, o3⟩, ⟨t4, o4⟩, ⟨t5, o5⟩, ⟨t6, o6⟩, ⟨t7, o7⟩, ⟨t8, o8⟩, ⟨t9, o9⟩, ⟨t10, o10⟩, ⟨t11, o11⟩, ⟨t12, o12⟩, ⟨t13, o13⟩, t14, o14⟩ := A
   obtain ⟨n, ds, rfl, hb, hl, hd, hf⟩ := rd_struct hu hr
   rw [hc] at hl
   obtain ⟨y0, r0, d0⟩ := hf 0 f0 rfl
   rw [o0, t0.2] at r0
   obtain ⟨v0, q0, -, b0⟩ := rd_int t0.1 r0
   obtain ⟨y1, r1, d1⟩ := hf 1 f1 rfl
   obtain ⟨g10, g11, gu1, gc1, gr1⟩ := id t1
   rw [o1, gc1] at r1
   obtain ⟨v1, v1b, q1, b1⟩ := rd_span t1 r1
   obtain ⟨y2, r2, d2⟩ := hf 2 f2 rfl
   rw [o2, t2.2] at r2
   obtain ⟨v2, q2, b2⟩ := rd_str t2.1 r2
   obtain ⟨y3, r3, d3⟩ := hf 3 f3 rfl
   rw [o3, t3.2] at r3
   obtain ⟨v3, q3, b3⟩ := rd_str t3.1 r3
   obtain ⟨y4, r4, d4⟩ := hf 4 f4 rfl
   rw [o4, t4.2] at r4
   obtain ⟨v4, q4, -, b4⟩ := rd_int t4.1 r4
   obtain ⟨y5, r5, d5⟩ := hf 5 f5 rfl
   rw [o5, t5.2] at r5
   obtain ⟨v5, q5, b5⟩ := rd_str t5.1 r5
   obtain ⟨y6, r6, d6⟩ := hf 6 f6 rfl
   rw [o6, t6.2] at r6
   obtain ⟨v6, q6, -, b6⟩ := rd_int t6.1 r6
   obtain ⟨y7, r7, d7⟩ := hf 7 f7 rfl
   rw [o7, t7.2] at r7
   obtain ⟨v7, q7, -, b7⟩ := rd_int t7.1 r7
   obtain ⟨y8, r8, d8⟩ := hf 8 f8 rfl
   rw [o8, t8.2] at r8
   obtain ⟨v8, q8, b8⟩ := rd_bool t8.1 r8
   obtain ⟨y9, r9, d9⟩ := hf 9 f9 rfl
   obtain ⟨e9, s9, z9⟩ := id t9
   rw [o9, s9.2] at r9
   obtain ⟨v9, q9, b9⟩ := rd_ints t9 r9
   obtain ⟨y10, r10, d10⟩ := hf 10 f10 rfl
   rw [o10, t10.cells] at r10
   obtain ⟨v10, q10, b10⟩ := rd_Ty t10 _ _ _ r10
   rw [Ty.enc_eq] at q10
   simp only [RC] at q10
   obtain ⟨y11, r11, d11⟩ := hf 11 f11 rfl
   rw [o11, t11.cells] at r11
   obtain ⟨v11, q11, b11⟩ := rd_Ty t11 _ _ _ r11
   rw [Ty.enc_eq] at q11
   simp only [RC] at q11
   obtain ⟨y12, r12, d12⟩ := hf 12 f12 rfl
   obtain ⟨e12, s12, z12⟩ := t12
   rw [o12, s12.2] at r12
   obtain ⟨v12, q12, b12⟩ := rd_slice (sz := Ty.size) s12.1 (by rw [z12.cells]; omega) (fun n' cs x hn h => rd_Ty z12 n' cs x h) r12
   rw [z12.cells] at q12
   obtain ⟨y13, r13, d13⟩ := hf 13 f13 rfl
   obtain ⟨e13, s13, z13⟩ := t13
   rw [o13, s13.2] at r13
   obtain ⟨v13, q13, b13⟩ := rd_slice (sz := Pat.mass) s13.1 (by rw [z13.cells]; omega) (fun n' cs x hn h => rd_Pat z13 n' cs x h) r13
   rw [z13.cells] at q13
   obtain ⟨y14, r14, d14⟩ := hf 14 f14 rfl
   rw [o14, t14.2] at r14
   obtain ⟨v14, q14, b14⟩ := rd_slice (sz := Tm.mass) t14.1 (by rw [hc]; omega) (fun n' cs x hn h => ih n' (by omega) cs x h) r14
   rw [hc] at q14
   refine ⟨.mk v0 v1 v1b v2 v3 v4 v5 v6 v7 v8 v9 v10 v11 v12 v13 v14, ?_, ?_⟩
   ·rw [Tm.enc_eq]
    simp only [RC, Tm.kind_mk, Tm.lo_mk, Tm.hi_mk, Tm.name_mk, Tm.arg_mk, Tm.n_mk, Tm.s_mk, Tm.op_mk, Tm.label_mk, Tm.neg_mk, Tm.vars_mk, Tm.a_mk, Tm.b_mk, Tm.args_mk, Tm.pats_mk, Tm.kids_mk]
    have e : cs = (cs.drop 0).take 1 ++ ((cs.drop 1).take 2 ++ ((cs.drop 3).take 1 ++ ((cs.drop 4).take 1 ++ ((cs.drop 5).take 1 ++ ((cs.drop 6).take 1 ++ ((cs.drop 7).take 1 ++ ((cs.drop 8).take 1 ++ ((cs.drop 9).take 1 ++ ((cs.drop 10).take 1 ++ ((cs.drop 11).take 3 ++ ((cs.drop 14).take 3 ++ ((cs.drop 17).take 1 ++ ((cs.drop 18).take 1 ++ ((cs.drop 19).take 1)))))))))))))) := by
     match cs, hl with
     | [c0, c1, c2, c3, c4, c5, c6, c7, c8, c9, c10, c11, c12, c13, c14, c15, c16, c17, c18, c19], _ => rfl
    rw [e]
    exact (RLs_append (a := [_]) (RLs_one rfl q0) (RLs_append (a := [_, _]) (q1) (RLs_append (a := [_]) (RLs_one rfl q2) (RLs_append (a := [_]) (RLs_one rfl q3) (RLs_append (a := [_]) (RLs_one rfl q4) (RLs_append (a := [_]) (RLs_one rfl q5) (RLs_append (a := [_]) (RLs_one rfl q6) (RLs_append (a := [_]) (RLs_one rfl q7) (RLs_append (a := [_]) (RLs_one rfl q8) (RLs_append (a := [_]) (RLs_one rfl q9) (RLs_append (a := [_, _, _]) (q10) (RLs_append (a := [_, _, _]) (q11) (RLs_append (a := [_]) (RLs_one rfl q12) (RLs_append (a := [_]) (RLs_one rfl q13) (RLs_one rfl q14)))))))))))))))
   ·rw [Tm.mass_eq, hb]
    simp only [Tm.kind_mk, Tm.lo_mk, Tm.hi_mk, Tm.name_mk, Tm.arg_mk, Tm.n_mk, Tm.s_mk, Tm.op_mk, Tm.label_mk, Tm.neg_mk, Tm.vars_mk, Tm.a_mk, Tm.b_mk, Tm.args_mk, Tm.pats_mk, Tm.kids_mk]
    have hs : ds = [y0.1, y1.1, y2.1, y3.1, y4.1, y5.1, y6.1, y7.1, y8.1, y9.1, y10.1, y11.1, y12.1, y13.1, y14.1] := by
     have hd : ds.length = 15 := hd
     match ds, hd, d0, d1, d2, d3, d4, d5, d6, d7, d8, d9, d10, d11, d12, d13, d14 with
     | [a0, a1, a2, a3, a4, a5, a6, a7, a8, a9, a10, a11, a12, a13, a14], _, d0, d1, d2, d3, d4, d5, d6, d7, d8, d9, d10, d11, d12, d13, d14 => simp_all
    rw [hs]
    simp only [bulkAll]
    omega
def DerivAt (P : Program) (t : TypeId) : Prop := ∃ f0 f1 f2 : Field, P.underlying t = some (.struct #[f0, f1, f2]) ∧ P.cellsOf t = 3 ∧ ((∃ el, SliceAt P f0.type el ∧ TyAt P el) ∧ f0.offset = 0) ∧ (IntsAt P f1.type ∧ f1.offset = 1) ∧ (SliceAt P f2.type t ∧ f2.offset = 2)
theorem DerivAt.cells {t : TypeId} (A : DerivAt P t) : P.cellsOf t = 3 := by obtain ⟨_, _, _, _, h, _⟩ := A; exact h
def CoerAt (P : Program) (t : TypeId) : Prop := ∃ f0 f1 f2 f3 f4 : Field, P.underlying t = some (.struct #[f0, f1, f2, f3, f4]) ∧ P.cellsOf t = 5 ∧ (IntAt P f0.type ∧ f0.offset = 0) ∧ (IntAt P f1.type ∧ f1.offset = 1) ∧ (IntAt P f2.type ∧ f2.offset = 2) ∧ (BoolAt P f3.type ∧ f3.offset = 3) ∧ (SliceAt P f4.type t ∧ f4.offset = 4)
theorem CoerAt.cells {t : TypeId} (A : CoerAt P t) : P.cellsOf t = 5 := by obtain ⟨_, _, _, _, _, _, h, _⟩ := A; exact h
def ValAt (P : Program) (t : TypeId) : Prop := ∃ f0 f1 f2 f3 f4 : Field, P.underlying t = some (.struct #[f0, f1, f2, f3, f4]) ∧ P.cellsOf t = 9 ∧ (IntAt P f0.type ∧ f0.offset = 0) ∧ (IntAt P f1.type ∧ f1.offset = 1) ∧ (StrAt P f2.type ∧ f2.offset = 2) ∧ (CoerAt P f3.type ∧ f3.offset = 3) ∧ (SliceAt P f4.type t ∧ f4.offset = 8)
theorem ValAt.cells {t : TypeId} (A : ValAt P t) : P.cellsOf t = 9 := by obtain ⟨_, _, _, _, _, _, h, _⟩ := A; exact h
end
end Go.Su

/-
 TYPES: what is said of them.
-/
namespace Go.Su
def arity (k : Int) : Int :=
 if k = 1 ∨ k = 2 ∨ k = 3 ∨ k = 4 ∨ k = 5 ∨ k = 6 then 0 else if k = 8 then 1 else if k = 7 ∨ k = 9 then 2 else -1
def Ty.right : Ty → Bool
 | .mk k n ks => decide (arity k = ks.length) && decide (0 ≤ n) && decide (n ≤ 1048576) && (decide (k = 6) || decide (n = 0)) && (ks.map Ty.right).all id
theorem Ty.right_eq (t : Ty) : t.right = (decide (arity t.kind = t.kids.length) && decide (0 ≤ t.n) && decide (t.n ≤ 1048576) && (decide (t.kind = 6) || decide (t.n = 0)) && t.kids.all Ty.right) := by
 cases t
 rw [Ty.right]
 simp [List.all_map]
 rfl
def Ty.without (q : Int) : Ty → Bool
 | .mk k _ ks => !decide (k = q) && (ks.map (Ty.without q)).all id
theorem Ty.without_eq (q : Int) (t : Ty) : t.without q = (!decide (t.kind = q) && t.kids.all (Ty.without q)) := by
 cases t
 rw [Ty.without]
 simp [List.all_map]
 rfl
def Ty.depth : Ty → Nat
 | .mk _ _ ks => (ks.map Ty.depth).foldl max 0 + 1
def Ty.deep : Ty → Int → Bool
 | .mk _ _ ks, n => decide (n ≤ 0) || (ks.map fun k => Ty.deep k (n - 1)).any id
def Ty.varsOn : Ty → List Int → List Int
 | .mk k n ks, l => ks.foldl (fun l k => Ty.varsOn k l) (if k = 6 ∧ n ∉ l then l ++ [n] else l)
def Ty.vars (t : Ty) : List Int := t.varsOn []
theorem Ty.varsOn_eq (t : Ty) (l : List Int) : t.varsOn l = t.kids.foldl (fun l k => k.varsOn l) (if t.kind = 6 ∧ t.n ∉ l then l ++ [t.n] else l) := by
 cases t
 rw [Ty.varsOn]
 rfl
theorem Ty.deep_eq (t : Ty) (n : Int) : t.deep n = (decide (n ≤ 0) || t.kids.any fun k => k.deep (n - 1)) := by
 cases t
 rw [Ty.deep]
 simp [List.any_map]
theorem Ty.varsOn_len (t : Ty) : ∀ l : List Int, (t.varsOn l).length ≤ l.length + t.size := by
 induction t using Ty.ind with
 | h t ih =>
   intro l
   rw [Ty.varsOn_eq]
   have key : ∀ (ks : List Ty), (∀ k ∈ ks, ∀ l : List Int, (k.varsOn l).length ≤ l.length + k.size) → ∀ l : List Int, (ks.foldl (fun l k => k.varsOn l) l).length ≤ l.length + (ks.map Ty.size).sum := by
    intro ks
    induction ks with
    | nil => intro _ l; simp
    | cons k ks ihk =>
      intro h l
      simp only [List.foldl_cons, List.map_cons, List.sum_cons]
      have h1 := ihk (fun k' hk' => h k' (List.mem_cons_of_mem _ hk')) (k.varsOn l)
      have h2 := h k (List.mem_cons_self ..) l
      omega
   have h1 := key t.kids ih (if t.kind = 6 ∧ t.n ∉ l then l ++ [t.n] else l)
   rw [Ty.size_eq]
   have h2 : (if t.kind = 6 ∧ t.n ∉ l then l ++ [t.n] else l).length ≤ l.length + 1 := by split <;> simp
   omega
def Ty.count : Ty → Int → Int
 | .mk _ _ ks, n => ks.foldl (fun n k => if n ≤ 600 then Ty.count k n else n) (n + 1)
def Ty.thin : Ty → Bool
 | .mk _ _ ks => decide (ks.length ≤ lim) && (ks.map Ty.thin).all id
theorem Ty.thin_eq (t : Ty) : t.thin = (decide (t.kids.length ≤ lim) && t.kids.all Ty.thin) := by
 cases t
 rw [Ty.thin]
 simp [List.all_map]
 rfl
theorem Ty.thin_len (t : Ty) (h : t.thin = true) : t.kids.length < 4294967297 := by
 rw [Ty.thin_eq] at h
 simp only [Bool.and_eq_true, decide_eq_true_eq] at h
 have := h.1
 unfold lim at this
 omega
theorem Ty.thin_kid {t k : Ty} (h : t.thin = true) (hk : k ∈ t.kids) : k.thin = true := by
 rw [Ty.thin_eq] at h
 simp only [Bool.and_eq_true, List.all_eq_true] at h
 exact h.2 k hk
theorem Ty.thin_of_size {t : Ty} : t.size ≤ lim → t.thin = true := by
 induction t using Ty.ind with
 | h t ih =>
   intro h
   rw [Ty.thin_eq]
   simp only [Bool.and_eq_true, decide_eq_true_eq, List.all_eq_true]
   refine ⟨by have := t.len_lt; omega, fun k hk => ih k hk (by have := Ty.size_kid hk; omega)⟩
theorem arity_le (k : Int) : arity k ≤ 2 := by unfold arity; split <;> (try split) <;> (try split) <;> omega
theorem Ty.thin_of_right {t : Ty} : t.right = true → t.thin = true := by
 induction t using Ty.ind with
 | h t ih =>
   intro h
   rw [Ty.right_eq] at h
   simp only [Bool.and_eq_true, decide_eq_true_eq, List.all_eq_true] at h
   rw [Ty.thin_eq]
   simp only [Bool.and_eq_true, decide_eq_true_eq, List.all_eq_true]
   have := arity_le t.kind
   refine ⟨by unfold lim; omega, fun k hk => ih k hk (h.2 k hk)⟩
def Ty.vcount : Ty → Nat
 | .mk k _ ks => (if k = 6 then 1 else 0) + (ks.map Ty.vcount).sum
theorem Ty.vcount_eq (t : Ty) : t.vcount = (if t.kind = 6 then 1 else 0) + (t.kids.map Ty.vcount).sum := by
 cases t
 rw [Ty.vcount]
 rfl
theorem sum_le_sum {α : Type} {l : List α} {f g : α → Nat} (h : ∀ a ∈ l, f a ≤ g a) : (l.map f).sum ≤ (l.map g).sum := by
 induction l with
 | nil => simp
 | cons a l ih =>
   simp only [List.map_cons, List.sum_cons]
   have := h a (List.mem_cons_self ..)
   have := ih fun b hb => h b (List.mem_cons_of_mem _ hb)
   omega
theorem Ty.vcount_size (t : Ty) : t.vcount ≤ t.size := by
 induction t using Ty.ind with
 | h t ih =>
   rw [Ty.vcount_eq, Ty.size_eq]
   have := sum_le_sum ih
   split <;> omega
theorem Ty.vcount_closed {t : Ty} : t.without 6 = true → t.vcount = 0 := by
 induction t using Ty.ind with
 | h t ih =>
   intro h
   rw [Ty.without_eq] at h
   simp only [Bool.and_eq_true, Bool.not_eq_true', decide_eq_false_iff_not, List.all_eq_true] at h
   rw [Ty.vcount_eq, if_neg h.1]
   have := sum_le_sum (l := t.kids) (f := Ty.vcount) (g := fun _ => 0) fun k hk => Nat.le_of_eq (ih k hk (h.2 k hk))
   have e : (t.kids.map fun _ => 0).sum = 0 := by
    have : ∀ l : List Ty, (l.map fun _ => 0).sum = 0 := by
     intro l; induction l <;> simp_all
    exact this _
   omega
theorem Ty.varsOn_vlen (t : Ty) : ∀ l : List Int, (t.varsOn l).length ≤ l.length + t.vcount := by
 induction t using Ty.ind with
 | h t ih =>
   intro l
   rw [Ty.varsOn_eq]
   have key : ∀ (ks : List Ty), (∀ k ∈ ks, ∀ l : List Int, (k.varsOn l).length ≤ l.length + k.vcount) → ∀ l : List Int, (ks.foldl (fun l k => k.varsOn l) l).length ≤ l.length + (ks.map Ty.vcount).sum := by
    intro ks
    induction ks with
    | nil => intro _ l; simp
    | cons k ks ihk =>
      intro h l
      simp only [List.foldl_cons, List.map_cons, List.sum_cons]
      have h1 := ihk (fun k' hk' => h k' (List.mem_cons_of_mem _ hk')) (k.varsOn l)
      have h2 := h k (List.mem_cons_self ..) l
      omega
   have h1 := key t.kids ih (if t.kind = 6 ∧ t.n ∉ l then l ++ [t.n] else l)
   rw [Ty.vcount_eq]
   have h2 : (if t.kind = 6 ∧ t.n ∉ l then l ++ [t.n] else l).length ≤ l.length + (if t.kind = 6 then 1 else 0) := by
    by_cases h6 : t.kind = 6
    ·by_cases hn : t.n ∈ l <;> simp [h6, hn]
    ·simp [h6]
   omega
end Go.Su

/-
 THE DATA MACHINE: iterators over trees: which elements come.
-/
namespace Go.Su
def flatL (f : DV → Option (List DV)) : List DV → Option (List DV)
 | [] => some []
 | d :: ds => ob (f d) fun a => ob (flatL f ds) fun b => some (a ++ b)
def flatN (sz kf : Nat) : Nat → DV → Option (List DV)
 | 0, _ => none
 | n + 1, d =>
   match d with
   | .agg cs => og (cs.length == sz) (match cs.getD kf .undef with
     | .list s ds => og (s == sz && decide (ds.length ≤ lim)) (ob (flatL (flatN sz kf n) ds) fun l => some (.agg cs :: l))
     | _ => none)
   | _ => none
open Classical in
noncomputable def flatD (sz kf : Nat) (cs : List DV) : Option (List DV) :=
 if h : ∃ ds n, flatN sz kf n (.agg cs) = some ds then some h.choose else none
theorem flatL_mono {f g : DV → Option (List DV)} (h : ∀ d l, f d = some l → g d = some l) : ∀ {ds l : List DV}, flatL f ds = some l → flatL g ds = some l
 | [], l, H => H
 | d :: ds, l, H => by
   simp only [flatL] at H ⊢
   obtain ⟨a, h1, H⟩ := ob_some H
   obtain ⟨b, h2, H⟩ := ob_some H
   rw [h _ _ h1, flatL_mono h h2]
   exact H
theorem flatN_up {sz kf : Nat} : ∀ {n : Nat} {d : DV} {l : List DV}, flatN sz kf n d = some l → flatN sz kf (n + 1) d = some l
 | 0, d, l, H => by simp [flatN] at H
 | n + 1, d, l, H => by
   cases d with
   | agg cs =>
     rw [flatN] at H ⊢
     obtain ⟨h1, H⟩ := og_some H
     rw [h1]
     cases hk : cs.getD kf .undef with
     | list s ds =>
       rw [hk] at H
       simp only at H ⊢
       obtain ⟨h2, H⟩ := og_some H
       rw [h2]
       obtain ⟨a, h3, H⟩ := ob_some H
       rw [flatL_mono (fun d l h => flatN_up h) h3]
       exact H
     | _ => rw [hk] at H; simp at H
   | _ => simp [flatN] at H
theorem flatN_le {sz kf n m : Nat} (h : n ≤ m) {d : DV} {l : List DV} (H : flatN sz kf n d = some l) : flatN sz kf m d = some l := by
 induction m with
 | zero => rw [Nat.le_zero.1 h] at H; exact H
 | succ m ih =>
   rcases Nat.lt_or_ge m n with h1 | h1
   ·rw [show m + 1 = n by omega]; exact H
   ·exact flatN_up (ih h1)
theorem flatD_of {sz kf n : Nat} {cs ds : List DV} (H : flatN sz kf n (.agg cs) = some ds) : flatD sz kf cs = some ds := by
 have h : ∃ ds n, flatN sz kf n (.agg cs) = some ds := ⟨ds, n, H⟩
 unfold flatD
 rw [dif_pos h]
 obtain ⟨m, hm⟩ := h.choose_spec
 have h1 := flatN_le (Nat.le_add_right n m) H
 have h2 := flatN_le (Nat.le_add_left m n) hm
 rw [h1] at h2
 exact h2.symm
theorem flatD_some {sz kf : Nat} {cs ds : List DV} (H : flatD sz kf cs = some ds) : ∃ n, flatN sz kf n (.agg cs) = some ds := by
 unfold flatD at H
 split at H
 ·rename_i h
  simp only [Option.some.injEq] at H
  rw [← H]
  exact h.choose_spec
 ·cases H
structure Kpt (E : Env) (W : World) (E' : Env) (W' : World) : Prop where
 size : W.heap.size ≤ W'.heap.size
 blk : ∀ b, b < W.heap.size → (∀ o, E.O b o = .other) → W'.heap[b]? = W.heap[b]? ∧ ∀ o, E'.O b o = .other
 sh : SealLe E.S W.heap E'.S W'.heap
theorem Kpt.trans {E E1 E2 : Env} {W W1 W2 : World} (h : Kpt E W E1 W1) (k : Kpt E1 W1 E2 W2) : Kpt E W E2 W2 := by
 refine ⟨Nat.le_trans h.size k.size, fun b hb ho => ?_, ⟨fun b o hs => k.sh.s b o (h.sh.s b o hs), fun b o v hs hv => k.sh.c b o v (h.sh.s b o hs) (h.sh.c b o v hs hv)⟩⟩
 obtain ⟨h1, h2⟩ := h.blk b hb ho
 obtain ⟨h3, h4⟩ := k.blk b (Nat.lt_of_lt_of_le hb h.size) h2
 exact ⟨h3.trans h1, h4⟩
theorem Kpt.of_pr {E E' : Env} {W W' : World} (P : Pr Ours E W.heap E' W'.heap) (hf : ∀ b o, W.heap.size ≤ b → E.O b o = .other) : Kpt E W E' W' := by
 refine ⟨P.size, fun b hb ho => ⟨?_, fun o => P.otherTag hb (ho o)⟩, P.shut (by simp [Ours]) hf⟩
 have hk := P.blk b hb
 have hb' : W.heap[b]? = some W.heap[b] := Array.getElem?_eq_getElem hb
 rw [hb'] at hk ⊢
 unfold KeepBlk at hk
 split at hk
 ·rename_i hx; cases hx
 ·rename_i c T f hx
  simp only [Option.some.injEq] at hx
  obtain ⟨c', h1, h2, h3⟩ := hk
  rw [h1, hx]
  congr 2
  refine Array.ext_getElem? fun o => h3 o ?_
  rw [ho o]; simp [Ours]
 ·rename_i ob _ hx
  simp only [Option.some.injEq] at hx
  rw [hx]
  exact hk (by rw [ho 0]; simp [Ours])
theorem ItLe.alloc {n : Nat} {E : Env} {W : World} (o : Obj) : ItLe n E W (W.alloc o) := by
 refine ⟨by simp, fun b hb => .inl ?_, ⟨rfl, rfl, rfl⟩⟩
 exact Go.RowKit.Below.heap_alloc _ _ _ hb
theorem Kpt.alloc {E : Env} {W : World} (o : Obj) (hf : ∀ b o, W.heap.size ≤ b → E.O b o = .other) : Kpt E W E (W.alloc o) := by
 refine ⟨by simp, fun b hb ho => ⟨Go.RowKit.Below.heap_alloc _ _ _ hb, ho⟩, fun _ _ h => h, fun b o' v hs hv => ?_⟩
 have hb : b < W.heap.size := by
  rcases Nat.lt_or_ge b W.heap.size with h | h
  ·exact h
  ·have h9 := hf b o' h
   rw [show E.O b o' = .shut from hs] at h9; cases h9
 unfold hc at hv ⊢
 rw [show (W.alloc o).heap[b]? = W.heap[b]? from Go.RowKit.Below.heap_alloc _ _ _ hb]
 exact hv
theorem Kpt.same {E : Env} {W W' : World} (hs : W.heap.size ≤ W'.heap.size) (h : ∀ b, b < W.heap.size → W'.heap[b]? = W.heap[b]?) (hf : ∀ b o, W.heap.size ≤ b → E.O b o = .other) : Kpt E W E W' := by
 refine ⟨hs, fun b hb ho => ⟨h b hb, ho⟩, fun _ _ h => h, fun b o' v hv hc0 => ?_⟩
 have hb : b < W.heap.size := by
  rcases Nat.lt_or_ge b W.heap.size with h | h
  ·exact h
  ·have h9 := hf b o' h
   rw [show E.O b o' = .shut from hv] at h9; cases h9
 unfold hc at hc0 ⊢
 rw [h b hb]
 exact hc0
theorem ItLe.same {n : Nat} {E : Env} {W W' : World} (hs : W.heap.size ≤ W'.heap.size) (h : ∀ b, b < W.heap.size → W'.heap[b]? = W.heap[b]?) (ho : Outer W W') : ItLe n E W W' :=
 ⟨hs, fun b hb => .inl (h b hb), ho⟩
theorem flat_agg {sz kf n : Nat} {d : DV} {l : List DV} {S : Seal} {h : Heap} {us : List Value} (H : flatN sz kf n d = some l) (R : RC S h d us) : RV S h d (.agg us.toArray) := by
 cases n with
 | zero => simp [flatN] at H
 | succ n =>
   cases d with
   | agg cs =>
     simp only [RC] at R
     simp only [RV]
     exact ⟨_, rfl, R⟩
   | _ => simp [flatN] at H
theorem flat_at {d : DV} {ds ks pre sa sb : List DV} {k : Nat} (hin : ∀ (j : Nat) x, (d :: ks)[j]? = some x → ds[k + j]? = some x) (hk : ks = pre ++ (sa ++ sb)) (j : Nat) (x : DV) (hj : sa[j]? = some x) : ds[k + 1 + pre.length + j]? = some x := by
 have hjl := (List.getElem?_eq_some_iff.1 hj).1
 have := hin (pre.length + j + 1) x (by
  rw [List.getElem?_cons_succ, hk, List.getElem?_append_right (by omega), Nat.add_sub_cancel_left, List.getElem?_append_left hjl]
  exact hj)
 rw [← this]; congr 1; omega
theorem store_one {P : Program} {W : World} {b j : Nat} {c : Array Value} {T : TypeId} {u : Value} (hb : W.heap[b]? = some (.cells c T (0, 0))) (hj : j < c.size) (hu : u.oneCell' = true) :
 ∃ W', (store ⟨b, j, none⟩ u).run P W = .ok () W' ∧ W'.heap[b]? = some (.cells (c.setIfInBounds j u) T (0, 0)) ∧ (∀ b', b' ≠ b → W'.heap[b']? = W.heap[b']?) ∧ W'.heap.size = W.heap.size ∧ Outer W W' := by
 refine ⟨W.setCell ⟨b, j, none⟩ u, ?_, ?_, fun b' hb' => ?_, by simp [World.setCell], ⟨rfl, rfl, rfl⟩⟩
 ·rw [run_store _ _ _ _ _ hu]
  simp [World.cell?, World.frozen?, hb, hj]
 ·simp [World.setCell, Array.getElem?_modify, hb]
 ·simp [World.setCell, Array.getElem?_modify, Ne.symm hb']
end Go.Su
