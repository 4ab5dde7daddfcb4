/-
  Parts of the proof, merged: SuDraw2, SuDraw3, SuItr, SuCode, SuFun, SuRun, SuCont, SuCont2, SuCont3, SuAt, SuTy, SuPl, SuJoin, SuRd, SuM1, SuIt, SuM2.
-/
import Derived.Below
import Derived.ChangeArms
import Derived.DataReads
import Derived.IntWalk
import Derived.KernelRfl
import Derived.LoopNIn
import Derived.OrdersIn
import Derived.RangeFuncBound
import Derived.RangeFuncCalls
import Derived.RangeFuncLeaves
import Derived.Test.YtbmglmlodflfeaaGreatP2
set_option linter.unusedVariables false
set_option linter.unusedSimpArgs false
/-
 THE DATA MACHINE, part 23: regions, in the text's order and in any.
-/
namespace Go.Su
section
variable {X : Type} {C : V6} {R : N7} {fl : Flags} {ops : List Oper}
theorem A27 {o : Oper} (hg : o.guard = none) (s s1 : St) : X3 C R fl ops o s s1 ↔ I1 C R fl o s some = some s1 := by unfold X3; rw [hg]
theorem bX {o : Oper} {g : Nat} {want : Bool} {t : Nat} (hg : o.guard = some (g, want)) (ht : Iu ops g = some t) (s s1 : St) : X3 C R fl ops o s s1 ↔ J2 (s.get t).2 = true ∧
 (((s.get t).1 = .bool want ∧ I1 C R fl o s some = some s1) ∨ (((s.get t).1 = .bool !want ∨ (s.get t).1 = .H7 []) ∧ s1 = s.put o.dst (.H7 []) .val)) := by
 unfold X3; rw [hg];simp only [ht, Option.some.injEq, exists_eq_left']
theorem A47 {o : Oper} (hg : o.guard = none) (s : St) : Bb C fl ops o s = U6 C fl o s := by unfold Bb; rw [hg]
theorem A48 {o : Oper} {g : Nat} {want : Bool} {t : Nat} (hg : o.guard = some (g, want)) (ht : Iu ops g = some t) (s : St) :
 Bb C fl ops o s = if qB want (s.get t).1 then (U6 C fl o s).look t else { rt := [t], wt := o.dst.toList } := by
 unfold Bb; rw [hg];simp only [ht]
theorem A5L {o : Oper} {st : St} {t : Nat} {want : Bool} {J : St → Option X} {x : X} (hb : (st.get t).1 = .bool want) (H : I1 C R fl o (st.know t (.bool want)) J = some x) :
 ∃ s1, I1 C R fl o st some = some s1 ∧ J s1 = some x := by
 rw [EF hb (by simp)] at H
 obtain ⟨s1, h1, h2⟩ := kv H;exact ⟨s1, h2 _ some, h1⟩
theorem zD {bf : List (List Nat)} {o : Oper} {os : List Oper} {i : Nat} {acc : List (Nat × Fp)} {st : St} {k : St → Option X} {x : X} (H : CB C R fl ops bf (o :: os) i acc st k = some x) :
 ∃ s1, X3 C R fl ops o st s1 ∧ Hu bf i acc ((Bb C fl ops o st).AP st s1) = true ∧ CB C R fl ops bf os (i + 1) ((i, (Bb C fl ops o st).AP st s1) :: acc) s1 k = some x := by
 simp only [CB, Yc, A1E] at H
 split at H
 ·rename_i hg
  rw [A47 hg];obtain ⟨s1, h1, h2⟩ := kv H;obtain ⟨h3, h4⟩ := F6 h1;exact ⟨s1, (A27 hg _ _).2 (h2 _ some), h3, h4⟩
 ·rename_i g want hg
  obtain ⟨t, ht, H⟩ := A9 H;obtain ⟨hd, H⟩ := F6 H;rw [A48 hg ht];have run : (st.get t).1 = .bool want → iL C R fl o t (st.know t (.bool want)) (fun f st1 => og (Hu bf i acc f) (CB C R fl ops bf os (i + 1) ((i, f) :: acc) st1 k)) = some x →
   ∃ s1, X3 C R fl ops o st s1 ∧ Hu bf i acc ((if qB want (st.get t).1 then (U6 C fl o st).look t else { rt := [t], wt := o.dst.toList }).AP st s1) = true ∧
     CB C R fl ops bf os (i + 1) ((i, (if qB want (st.get t).1 then (U6 C fl o st).look t else { rt := [t], wt := o.dst.toList }).AP st s1) :: acc) s1 k = some x := by
   intro aT H9;rw [if_pos (Yw.2 aT)];unfold iL at H9;obtain ⟨s1, h1, h2⟩ := A5L aT H9;rw [EF aT (by simp)] at h2
   obtain ⟨h3, h4⟩ := F6 h2;exact ⟨s1, (bX hg ht _ _).2 ⟨hd, .inl ⟨aT, h1⟩⟩, h3, h4⟩
  have skip : ∀ d : DV, (d = .bool !want ∨ d = .H7 []) → (st.get t).1 = d → VD o t (st.know t d) (fun f st1 => og (Hu bf i acc f) (CB C R fl ops bf os (i + 1) ((i, f) :: acc) st1 k)) = some x →
   ∃ s1, X3 C R fl ops o st s1 ∧ Hu bf i acc ((if qB want (st.get t).1 then (U6 C fl o st).look t else { rt := [t], wt := o.dst.toList }).AP st s1) = true ∧
     CB C R fl ops bf os (i + 1) ((i, (if qB want (st.get t).1 then (U6 C fl o st).look t else { rt := [t], wt := o.dst.toList }).AP st s1) :: acc) s1 k = some x := by
   intro d JA aT H9;rw [EF aT (by rcases JA with h | h <;> rw [h] <;> simp)] at H9
   have hB : ¬ (qB want (st.get t).1 = true) := by
    rw [Yw, aT];rcases JA with h | h <;> rw [h] <;> cases want <;> simp
   rw [if_neg hB];unfold VD at H9;obtain ⟨h3, h4⟩ := F6 H9;exact ⟨_, (bX hg ht _ _).2 ⟨hd, .inr ⟨by rw [aT]; exact JA, rfl⟩⟩, h3, h4⟩
  rcases A5w H with ⟨hb, H9⟩ | ⟨hb, H9⟩ | ⟨hb, H9⟩
  ·cases want
   ·exact skip _ (.inl rfl) hb H9
   ·exact run hb H9
  ·cases want
   ·exact run hb H9
   ·exact skip _ (.inl rfl) hb H9
  ·exact skip _ (.inr rfl) hb H9
theorem kw {o : Oper} {os : List Oper} {st : St} {k : St → Option X} {x : X} (H : Bh C R fl ops (o :: os) st k = some x) :
 ∃ s1, X3 C R fl ops o st s1 ∧ Bh C R fl ops os s1 k = some x := by
 simp only [Bh, Yc] at H
 split at H
 ·rename_i hg
  obtain ⟨s1, h1, h2⟩ := kv H;exact ⟨s1, (A27 hg _ _).2 (h2 _ some), h1⟩
 ·rename_i g want hg
  obtain ⟨t, ht, H⟩ := A9 H;obtain ⟨hd, H⟩ := F6 H;have run : (st.get t).1 = .bool want → I1 C R fl o (st.know t (.bool want)) (fun st => Bh C R fl ops os st k) = some x →
   ∃ s1, X3 C R fl ops o st s1 ∧ Bh C R fl ops os s1 k = some x := by
   intro aT H9;obtain ⟨s1, h1, h2⟩ := A5L aT H9;exact ⟨s1, (bX hg ht _ _).2 ⟨hd, .inl ⟨aT, h1⟩⟩, h2⟩
  have skip : ∀ d : DV, (d = .bool !want ∨ d = .H7 []) → (st.get t).1 = d → Bh C R fl ops os ((st.know t d).put o.dst (.H7 []) .val) k = some x →
   ∃ s1, X3 C R fl ops o st s1 ∧ Bh C R fl ops os s1 k = some x := by
   intro d JA aT H9;rw [EF aT (by rcases JA with h | h <;> rw [h] <;> simp)] at H9
   exact ⟨_, (bX hg ht _ _).2 ⟨hd, .inr ⟨by rw [aT]; exact JA, rfl⟩⟩, H9⟩
  rcases A5w H with ⟨hb, H9⟩ | ⟨hb, H9⟩ | ⟨hb, H9⟩
  ·cases want
   ·exact skip _ (.inl rfl) hb H9
   ·exact run hb H9
  ·cases want
   ·exact run hb H9
   ·exact skip _ (.inl rfl) hb H9
  ·exact skip _ (.inr rfl) hb H9
def YI (C : V6) (R : N7) (fl : Flags) (ops : List Oper) : List (Nat × Fp) → St → St → Prop
 | [], s, t => s = t
 | p :: l, s, t => ∃ o s1, ops[p.1]? = some o ∧ X3 C R fl ops o s s1 ∧ p.2 = (Bb C fl ops o s).AP s s1 ∧ YI C R fl ops l s1 t
theorem YI.first : ∀ {A B : List (Nat × Fp)} {p : Nat × Fp} {s t : St}, YI C R fl ops (A ++ p :: B) s t → (∀ q ∈ A, comm q.2 p.2 = true) →
 ∃ o s1, ops[p.1]? = some o ∧ X3 C R fl ops o s s1 ∧ p.2 = (Bb C fl ops o s).AP s s1 ∧ YI C R fl ops (A ++ B) s1 t
 | [], B, p, s, t, H, _ => H
 | q :: A, B, p, s, t, H, hc => by
   obtain ⟨oq, s1, h1, h2, h3, H⟩ := H;obtain ⟨op, s2, h4, h5, h6, H⟩ := YI.first (A := A) H fun q' hq' => hc q' (List.mem_cons_of_mem _ hq')
   have h7 := hc q (List.mem_cons_self ..);rw [h3, h6] at h7;obtain ⟨s1', k1, k2, k3, k4⟩ := B0e h2 h5 h7;exact ⟨op, s1', h4, k1, by rw [h6, k3], oq, s2, h1, k2, by rw [h3, k4], H⟩
theorem tN {bf : List (List Nat)} {k : St → Option X} {x : X} : ∀ {os : List Oper} {i : Nat} {acc : List (Nat × Fp)} {st : St}, (∀ j : Nat, os[j]? = ops[i + j]?) → CB C R fl ops bf os i acc st k = some x →
 ∃ l t, k t = some x ∧ YI C R fl ops l st t ∧ l.map (·.1) = List.range' i os.length ∧ (∀ p ∈ acc, ∀ q ∈ l, p.1 ∈ bf.getD q.1 [] ∨ comm p.2 q.2 = true) ∧
   l.Pairwise fun p q => p.1 ∈ bf.getD q.1 [] ∨ comm p.2 q.2 = true
 | [], i, acc, st, _, H => ⟨[], st, H, rfl, rfl, by simp, .nil⟩
 | o :: os, i, acc, st, hs, H => by
   obtain ⟨s1, h1, h2, h3⟩ := zD H;have DZ : ∀ j : Nat, os[j]? = ops[i + 1 + j]? := fun j => by
    have := hs (j + 1);simp only [List.getElem?_cons_succ] at this;rw [this]; congr 1; omega
   obtain ⟨l, t, k1, k2, k3, k4, k5⟩ := tN DZ h3;refine ⟨(i, (Bb C fl ops o st).AP st s1) :: l, t, k1, ⟨o, s1, ?_, h1, rfl, k2⟩, ?_, fun p hp q hq => ?_, .cons (fun q hq => k4 _ (List.mem_cons_self ..) q hq) k5⟩
   ·have := hs 0
    simpa using this.symm
   ·simp only [List.map_cons, List.length_cons, List.range'_succ, k3]
   ·rcases List.mem_cons.1 hq with rfl | hq
    ·have := List.all_eq_true.1 h2 p hp
     simp only [Bool.or_eq_true, List.contains_eq_mem, decide_eq_true_eq] at this;exact this
    ·exact k4 p (List.mem_cons_of_mem _ hp) q hq
end
section
variable {C : V6} {R : N7} {fl : Flags} {ops : List Oper} {E : Env} {a : Act} {w : World} {K : Act → World → Prop} {Q : Exit → Act → World → Prop}
theorem wN {st : St} {g t : Nat} {b : Bool} (Rl : I9 E st a w.heap) (ht : Iu ops g = some t) (hd : J2 (st.get t).2 = true) (hb : (st.get t).1 = .bool b) : yielded ops.toArray a.tmps g = some b := by
 unfold Iu at ht;obtain ⟨o, h1, h2⟩ := A9 ht;have I4 : t < a.tmps.size := by
  rw [Rl.size];rcases Nat.lt_or_ge t st.tm.length with h | h
  ·exact h
  ·rw [dV h Rl.AZ] at hb; cases hb
 have hv : a.tmps[t]? = some a.tmps[t] := Array.getElem?_eq_getElem I4;have := (Rl.regs t _ hv).data hd;rw [hb] at this;simp only [RV] at this;unfold yielded;simp [h1, h2, hv, this]
theorem A68 {st : St} {g t : Nat} (Rl : I9 E st a w.heap) (ht : Iu ops g = some t) (hd : J2 (st.get t).2 = true) (hb : (st.get t).1 = .H7 []) : yielded ops.toArray a.tmps g = none := by
 unfold Iu at ht;obtain ⟨o, h1, h2⟩ := A9 ht;have I4 : t < a.tmps.size := by
  rw [Rl.size];rcases Nat.lt_or_ge t st.tm.length with h | h
  ·exact h
  ·rw [dV h Rl.AZ] at hb; cases hb
 have hv : a.tmps[t]? = some a.tmps[t] := Array.getElem?_eq_getElem I4;have := (Rl.regs t _ hv).data hd;rw [hb] at this;simp only [RV] at this;obtain ⟨vs, h3, h4⟩ := this;unfold yielded;simp [h1, h2, hv, h3]
def QO (ro : Option Nat) : Fence := { fn := fun _ => True, depth := none, alive := false, round := ro }
theorem A6w {ro : Option Nat} {n : Nat} {P : Program} {f : FuncId} {args : Array Value} {w : World} {R : Ending → World → Prop} (h : Calls P f args w R) : CallsIn (QO ro) n P f args w R := by
 have h1 : CallsIn Fence.wide n P f args w R := callsIn_wide.2 h;cases ro with
 | none => exact h1
 | some l => exact CallsIn.inRound l h1
theorem Gp.wpIn {ro : Option Nat} {n : Nat} {P : Program} {o : Oper} (hd : ∀ c, o.op ≠ .defer c) (H : Gp P o a w K) : o.wpIn (QO ro) n P a w K Q := by
 refine ⟨fun _ _ => trivial, ?_⟩
 rw [Oper.semAt_eq _ _ _ hd];rcases H with ⟨v, w', h1, h2⟩ | ⟨w', h1, h2⟩ | ⟨f, args, h1, h2⟩
 ·rw [h1]; exact h2
 ·rw [h1]; exact h2
 ·rw [h1]
  exact ⟨fun h => (by cases h), A6w (h2.mono fun e w' ⟨v, he, hk⟩ => by subst he; exact hk)⟩
theorem A8D {ro : Option Nat} {n i : Nat} {o : Oper} {s s1 : St} (hO : Ce C R) (ho : ops[i]? = some o) (H : X3 C R fl ops o s s1) (Rl : I9 E s a w.heap)
 (T : ∀ E' a' w', a'.defers = a.defers → I9 E' s1 a' w'.heap → Pr J6 E w.heap E' w'.heap → P9 w w' → K a' w') : wpOpIn (QO ro) n C.P ops.toArray Q i K a w := by
 unfold wpOpIn;have ho' : ops.toArray[i]? = some o := by simpa using ho
 simp only [ho'];unfold X3 at H;have run : I1 C R fl o s some = some s1 → o.wpIn (QO ro) n C.P a w K Q := fun H => by
  have hd : ∀ c, o.op ≠ .defer c := fun c hc => by simp [I1, hc] at H
  have h0 : Gp C.P o a w fun a' w' => ∃ E', I9 E' s1 a' w'.heap ∧ Pr J6 E w.heap E' w'.heap ∧ P9 w w' := B4K hO H Rl fun E' st' a' w' h1 h2 h3 h4 => by
   simp only [Option.some.injEq] at h1;subst h1;exact ⟨E', h2, h3, h4⟩
  exact Gp.wpIn hd (h0.mono fun a' w' hd ⟨E', h1, h2, h3⟩ => T E' a' w' hd h1 h2 h3)
 split at H
 ·rename_i hg
  have hw : Region.wanted o (yielded ops.toArray a.tmps) = true := by simp [Region.wanted, hg]
  rw [if_pos hw];exact run H
 ·rename_i g want hg
  obtain ⟨t, ht, hd, H⟩ := H;rcases H with ⟨hb, H⟩ | ⟨hb, H⟩
  ·have hw : Region.wanted o (yielded ops.toArray a.tmps) = true := by simp [Region.wanted, hg, wN Rl ht hd hb]
   rw [if_pos hw];exact run H
  ·have hw : ¬ (Region.wanted o (yielded ops.toArray a.tmps) = true) := by
    rcases hb with hb | hb
    ·cases want <;> simp [Region.wanted, hg, wN Rl ht hd hb]
    ·simp [Region.wanted, hg, A68 Rl ht hd hb]
   rw [if_neg hw];subst H;refine ⟨fun _ _ => trivial, T E _ w (iA ..) (Rl.put fun t _ => ?_) (Pr.refl _ _ _) (P9.refl _)⟩
   simp only [RR, J8, RV, undef];exact ⟨#[], rfl, by simp [O_]⟩
theorem A7w {X : Type} {k : St → Option X} {x : X} {ro : Option Nat} {n : Nat} (hO : Ce C R) : ∀ {os : List Oper} {i : Nat} {st : St} {E : Env} {a : Act} {w : World}, (∀ j : Nat, os[j]? = ops[i + j]?) → Bh C R fl ops os st k = some x → I9 E st a w.heap →
 (∀ E' t a' w', k t = some x → a'.defers = a.defers → I9 E' t a' w'.heap → Pr J6 E w.heap E' w'.heap → P9 w w' → Q .normal a' w') → wpOpsIn (QO ro) n C.P ops.toArray Q (List.range' i os.length) a w
 | [], i, st, E, a, w, _, H, Rl, T => T E st a w H rfl Rl (Pr.refl _ _ _) (P9.refl _)
 | o :: os, i, st, E, a, w, hs, H, Rl, T => by
   obtain ⟨s1, h1, h2⟩ := kw H;have DZ : ∀ j : Nat, os[j]? = ops[i + 1 + j]? := fun j => by
    have := hs (j + 1);simp only [List.getElem?_cons_succ] at this;rw [this]; congr 1; omega
   simp only [List.length_cons, List.range'_succ];rw [wpOpsIn_cons];refine A8D hO (by simpa using (hs 0).symm) h1 Rl fun E' a' w' D1 R1 P1 O1 => ?_
   exact A7w hO DZ h2 R1 fun E2 t a2 w2 k1 k0 k2 k3 k4 => T E2 t a2 w2 k1 (k0.trans D1) k2 (P1.trans k3) (O1.trans k4)
end
end Go.Su

/-
 THE DATA MACHINE, part 24: a region in whatever order.
-/
namespace Go.Su
def aft (o : Oper) : List Edge := o.after.toList.filter (Region.binds .any)
theorem fU : ∀ {os : List Oper} {acc : List (List Nat)} {j : Nat}, j < acc.length → (Jn os acc)[j]? = acc[j]?
 | [], acc, j, _ => rfl
 | o :: os, acc, j, h => by
   simp only [Jn, UG];rw [fU (by simp; omega), List.getElem?_append_left h]
theorem A1f : ∀ {os : List Oper} {acc : List (List Nat)}, Rf acc.length os = true → ∀ (j : Nat) o, os[j]? = some o →
 (Jn os acc).getD (acc.length + j) [] = uniq ((aft o).flatMap fun e => e.on :: (Jn os acc).getD e.on [])
 | [], acc, _, j, o, h => by simp at h
 | o' :: os, acc, he, j, o, h => by
   simp only [Rf, Bool.and_eq_true] at he;simp only [Jn, UG];generalize hr : (acc ++ [uniq ((o'.after.toList.filter (Region.binds .any)).flatMap fun e => e.on :: acc.getD e.on [])]) = acc'
   have hl : acc'.length = acc.length + 1 := by rw [← hr]; simp
   cases j with
   | zero =>
     simp only [List.getElem?_cons_zero, Option.some.injEq] at h;subst h;have h1 : (Jn os acc').getD (acc.length + 0) [] = uniq ((o'.after.toList.filter (Region.binds .any)).flatMap fun e => e.on :: acc.getD e.on []) := by
      rw [List.getD_eq_getElem?_getD, fU (by omega), ← hr]
      simp
     rw [h1];refine congrArg uniq (l6 fun e hm => ?_)
     have h2 := List.all_eq_true.1 he.1 e hm;simp only [decide_eq_true_eq] at h2;rw [List.getD_eq_getElem?_getD, List.getD_eq_getElem?_getD, fU (by omega), ← hr, List.getElem?_append_left h2]
   | succ j =>
     have := A1f (os := os) (acc := acc') (by rw [hl]; exact he.2) j o (by simpa using h)
     rw [hl] at this;rw [show acc.length + (j + 1) = acc.length + 1 + j by omega]
     exact this
theorem A4Q : ∀ {os : List Oper} {i : Nat}, Rf i os = true → ∀ (j : Nat) o, os[j]? = some o → ∀ e ∈ aft o, e.on < i + j
 | [], i, _, j, o, h => by simp at h
 | o' :: os, i, he, j, o, h => by
   simp only [Rf, Bool.and_eq_true] at he;cases j with
   | zero =>
     simp only [List.getElem?_cons_zero, Option.some.injEq] at h;subst h;intro e hm;have h2 := List.all_eq_true.1 he.1 e hm;simpa using h2
   | succ j =>
     intro e hm;have := A4Q he.2 j o (by simpa using h) e hm
     omega
structure Inv (bf : List (List Nat)) (n : Nat) (listed : Array Bool) (l : List (Nat × Fp)) : Prop where
 size : listed.size = n
 idx : ∀ j : Nat, (∃ f, (j, f) ∈ l) ↔ listed[j]? = some false
 sorted : l.Pairwise fun p q => p.1 < q.1
 pw : l.Pairwise fun p q => p.1 ∈ bf.getD q.1 [] ∨ comm p.2 q.2 = true
 down : ∀ j : Nat, listed[j]? = some true → ∀ p ∈ bf.getD j [], listed[p]? = some true
theorem zo {listed : Array Bool} {j : Nat} : listed.getD j false = true ↔ listed[j]? = some true := by
 rw [Array.getD_eq_getD_getElem?];cases listed[j]? <;> simp
theorem af {listed : Array Bool} {j : Nat} : listed.getD j true = false ↔ listed[j]? = some false := by
 rw [Array.getD_eq_getD_getElem?];cases listed[j]? <;> simp
section
variable {C : V6} {R : N7} {fl : Flags} {ops : List Oper} {Q : Exit → Act → World → Prop}
theorem B21 {bf : List (List Nat)} {t : St} {ro : Option Nat} {m : Nat} (hO : Ce C R) (hbf : ∀ (i : Nat) o, ops[i]? = some o → ∀ p, p ∈ bf.getD i [] → p ∈ (aft o).flatMap fun e => e.on :: bf.getD e.on []) (I4 : ∀ (i : Nat) o, ops[i]? = some o → ∀ e ∈ aft o, e.on < i) :
 ∀ (n : Nat) (l : List (Nat × Fp)) (listed : Array Bool) (s : St) (E : Env) (a : Act) (w : World), l.length = n → Inv bf ops.length listed l → YI C R fl ops l s t → I9 E s a w.heap →
   (∀ E' a' w', a'.defers = a.defers → I9 E' t a' w'.heap → Pr J6 E w.heap E' w'.heap → P9 w w' → Q .normal a' w') → wpAnyIn (QO ro) m C.P .any ops.toArray Q n listed a w := by
 intro n
 induction n with
 | zero =>
   intro l listed s E a w hl I Ch Rl T;have hl0 := List.eq_nil_of_length_eq_zero hl;subst hl0;simp only [YI] at Ch;subst Ch;refine ⟨?_, T E a w rfl Rl (Pr.refl _ _ _) (P9.refl _)⟩;rw [List.eq_nil_iff_forall_not_mem];intro j hj;obtain ⟨h0, -⟩ := mem_ready.1 hj;obtain ⟨f, hf⟩ := (I.idx j).2 (af.1 h0);cases hf
 | succ n ih =>
   intro l listed s E a w hl I Ch Rl T;constructor
   ·intro hr
    exfalso;cases l with
    | nil => simp at hl
    | cons p l =>
      have hp : listed[p.1]? = some false := (I.idx p.1).1 ⟨p.2, List.mem_cons_self ..⟩;obtain ⟨o, s1, ho, -⟩ := Ch;have : p.1 ∈ Region.ready .any ops.toArray listed := by
       refine mem_ready.2 ⟨af.2 hp, o, by simpa using ho, fun e he hb => zo.2 ?_⟩
       have B67 := I4 p.1 o ho e (List.mem_filter.2 ⟨by simpa using he, hb⟩)
       have hp' := (Array.getElem?_eq_some_iff.1 hp).1;have DD : listed[e.on]? = some (listed[e.on]'(by omega)) := Array.getElem?_eq_getElem (by omega)
       cases hv : (listed[e.on]'(by omega)) with
       | true => rw [DD, hv]
       | false =>
         rw [hv] at DD;obtain ⟨f, hf⟩ := (I.idx e.on).2 DD;rcases List.mem_cons.1 hf with h | h
         ·have : e.on = p.1 := by rw [← h]
          omega
         ·have := (List.pairwise_cons.1 I.sorted).1 _ h
          simp only at this;omega
      rw [hr] at this;cases this
   ·intro i hi
    obtain ⟨h0, o, ho, lG⟩ := mem_ready.1 hi;have hif := af.1 h0;obtain ⟨g, hg⟩ := (I.idx i).2 hif;obtain ⟨A, B, rfl⟩ := List.append_of_mem hg;have ho' : ops[i]? = some o := by simpa using ho
    have hbi : ∀ p ∈ bf.getD i [], listed[p]? = some true := by
     intro p hp
     replace hp := hbf i o ho' _ hp
     obtain ⟨e, he, hp⟩ := List.mem_flatMap.1 hp;obtain ⟨he1, he2⟩ := List.mem_filter.1 he;have hl := zo.1 (lG e (by simpa using he1) he2)
     rcases List.mem_cons.1 hp with rfl | hp
     ·exact hl
     ·exact I.down _ hl p hp
    obtain ⟨pA, pB, pAB⟩ := List.pairwise_append.1 I.pw;obtain ⟨sA, sB, sAB⟩ := List.pairwise_append.1 I.sorted;obtain ⟨sB1, sB2⟩ := List.pairwise_cons.1 sB;have B5e : ∀ q ∈ A, comm q.2 g = true := by
     intro q hq;rcases pAB q hq (i, g) (List.mem_cons_self ..) with h | h
     ·have h1 := hbi _ h
      have h2 := (I.idx q.1).1 ⟨q.2, List.mem_append.2 (.inl hq)⟩;rw [h1] at h2;cases h2
     ·exact h
    obtain ⟨o', s1, k1, k2, k3, k4⟩ := YI.first Ch B5e
    have B3Q := (Array.getElem?_eq_some_iff.1 hif).1;refine A8D hO k1 k2 Rl fun E' a' w' D1 R1 P1 O1 => ih (A ++ B) _ s1 E' a' w' ?_ ⟨?_, fun j => ?_, ?_, ?_, fun j hj p hp => ?_⟩ k4 R1 fun E2 a2 w2 D2 R2 P2 O2 => T E2 a2 w2 (D2.trans D1) R2 (P1.trans P2) (O1.trans O2)
    ·simp only [List.length_append, List.length_cons] at hl ⊢; omega
    ·rw [Array.size_setIfInBounds]; exact I.size
    ·constructor
     ·rintro ⟨f, hf⟩
      have hne : i ≠ j := by
       rcases List.mem_append.1 hf with h | h
       ·have := sAB _ h (i, g) (List.mem_cons_self ..)
        simp only at this; omega
       ·have := sB1 _ h
        simp only at this; omega
      rw [Array.getElem?_setIfInBounds_ne hne];exact (I.idx j).1 ⟨f, by
       rcases List.mem_append.1 hf with h | h
       ·exact List.mem_append.2 (.inl h)
       ·exact List.mem_append.2 (.inr (List.mem_cons_of_mem _ h))⟩
     ·intro hj
      by_cases hne : i = j
      ·subst hne
       rw [Array.getElem?_setIfInBounds_self_of_lt B3Q] at hj;cases hj
      ·rw [Array.getElem?_setIfInBounds_ne hne] at hj
       obtain ⟨f, hf⟩ := (I.idx j).2 hj;refine ⟨f, ?_⟩;rcases List.mem_append.1 hf with h | h
       ·exact List.mem_append.2 (.inl h)
       ·rcases List.mem_cons.1 h with h | h
        ·simp only [Prod.mk.injEq] at h; exact absurd h.1.symm hne
        ·exact List.mem_append.2 (.inr h)
    ·exact List.pairwise_append.2 ⟨sA, sB2, fun p hp q hq => sAB p hp q (List.mem_cons_of_mem _ hq)⟩
    ·exact List.pairwise_append.2 ⟨pA, (List.pairwise_cons.1 pB).2, fun p hp q hq => pAB p hp q (List.mem_cons_of_mem _ hq)⟩
    ·have mono : ∀ q : Nat, listed[q]? = some true → (listed.setIfInBounds i true)[q]? = some true := by
      intro q hq
      by_cases hne : i = q
      ·subst hne; exact Array.getElem?_setIfInBounds_self_of_lt B3Q
      ·rw [Array.getElem?_setIfInBounds_ne hne]; exact hq
     by_cases hne : i = j
     ·subst hne; exact mono p (hbi p hp)
     ·rw [Array.getElem?_setIfInBounds_ne hne] at hj
      exact mono p (I.down j hj p hp)
theorem A8G {X : Type} {ro : Option Nat} {n : Nat} {k : St → Option X} {x : X} {ops : Array Oper} {id : Nat} {st : St} {E : Env} {a : Act} {w : World} (hO : Ce C R) (H : Bh C R fl ops.toList ops.toList st k = some x) (Rl : I9 E st a w.heap)
 (T : ∀ E' t a' w', k t = some x → a'.defers = a.defers → I9 E' t a' w'.heap → Pr J6 E w.heap E' w'.heap → P9 w w' → Q .normal a' w') : (Code.region id ops false).wpIn (QO ro) n C.P Q a w := by
 refine wpIn_region ?_;have := A7w (ro := ro) (n := n) (i := 0) hO (fun j => by rw [Nat.zero_add]) H Rl T
 rwa [List.range_eq_range', ← Array.length_toList]
theorem B1x {X : Type} {ro : Option Nat} {n : Nat} {k : St → Option X} {x : X} {ops : Array Oper} {id : Nat} {st : St} {E : Env} {a : Act} {w : World} (hm : C.P.follows .mixedOrders = true) (hO : Ce C R)
 (H : og (Rf 0 ops.toList) (CB C R fl ops.toList (Jn ops.toList []) ops.toList 0 [] st k) = some x) (Rl : I9 E st a w.heap)
 (T : ∀ E' t a' w', k t = some x → a'.defers = a.defers → I9 E' t a' w'.heap → Pr J6 E w.heap E' w'.heap → P9 w w' → Q .normal a' w') : (Code.region id ops true).wpIn (QO ro) n C.P Q a w := by
 obtain ⟨he, H⟩ := F6 H;obtain ⟨l, t, h1, h2, h3, h4, h5⟩ := tN (fun j => by rw [Nat.zero_add]) H
 refine wpIn_region_any hm ?_;have Z0 : l.length = ops.size := by
  have := congrArg List.length h3;simpa using this
 have hidx : ∀ j : Nat, (∃ f, (j, f) ∈ l) ↔ j < ops.size := by
  intro j;have : j ∈ l.map (·.1) ↔ j ∈ List.range' 0 ops.toList.length := by rw [h3]
  rw [List.mem_map] at this;simp only [List.mem_range'_1, Nat.zero_le, true_and, Nat.zero_add, Array.length_toList] at this;rw [← this];constructor
  ·rintro ⟨f, hf⟩; exact ⟨_, hf, rfl⟩
  ·rintro ⟨p, hp, rfl⟩; exact ⟨p.2, hp⟩
 have B2u : l.Pairwise fun p q => p.1 < q.1 := by
  have : (l.map (·.1)).Pairwise (· < ·) := by rw [h3]; exact List.pairwise_lt_range' ..
  exact List.pairwise_map.1 this
 have := B21 (ro := ro) (m := n) (t := t) (fl := fl) (Q := Q) (ops := ops.toList) (bf := Jn ops.toList []) hO (fun i o ho p hp => by
  have h := A1f (acc := []) he i o ho;simp only [List.length_nil, Nat.zero_add] at h;rw [h] at hp;exact A0y.1 hp) (fun i o ho e hm => by simpa using A4Q he i o ho e hm)
  ops.size l (Array.replicate ops.size false) st E a { w with drawn := w.drawn + 1 } Z0 ⟨by simp, fun j => ?_, B2u, h5, fun j hj => ?_⟩ h2 Rl fun E' a' w' D1 R1 P1 O1 => T E' t a' w' h1 D1 R1 P1 ⟨O1.os, O1.tape, O1.output⟩
 ·simpa using this
 ·rw [hidx]
  rw [Array.getElem?_replicate]
  split <;> simp_all
 ·rw [Array.getElem?_replicate] at hj
  split at hj <;> simp at hj
end
end Go.Su

/-
 THE DATA MACHINE, part 24a: what a loop over an iterator leaves as it was.
-/
namespace Go.Su
def Marks (n : Nat) (E : Env) (h : Heap) (ms : List Deferred) : Prop :=
 (∀ m ∈ ms, ∃ D, m = { target := .collected D, args := #[] } ∧ h[D]? = some (.deferred (some [])) ∧ E.O D 0 = .other ∧ n ≤ D) ∧ ms.Pairwise (· ≠ ·)
theorem Marks.nil {n : Nat} {E : Env} {h : Heap} : Marks n E h [] := ⟨fun _ hm => (by cases hm), .nil⟩
theorem Pr.ai {E E' : Env} {h h' : Heap} (P : Pr J6 E h E' h') {b : Nat} {ob : Obj} (hb : h[b]? = some ob) (hc : ob.isCells = false) (ho : E.O b 0 = .other) : h'[b]? = some ob := by
 have I4 := (Array.getElem?_eq_some_iff.1 hb).1;have hk := P.blk b I4;rw [hb] at hk;unfold V4 at hk
 split at hk
 ·rename_i hx; cases hx
 ·rename_i hx
  simp only [Option.some.injEq] at hx;subst hx;simp [Obj.isCells] at hc
 ·rename_i ob' _ hx
  simp only [Option.some.injEq] at hx;subst hx;exact hk (by rw [ho]; simp [J6])
theorem Pr.Vk {E E' : Env} {h h' : Heap} (P : Pr J6 E h E' h') {b o : Nat} (hb : b < h.size) (ho : E.O b o = .other) : E'.O b o = .other := by
 rw [P.tags b o hb (by rw [ho]; simp [J6]), ho]
theorem Marks.mono {n : Nat} {E E' : Env} {h h' : Heap} {ms : List Deferred} (H : Marks n E h ms) (P : Pr J6 E h E' h') : Marks n E' h' ms := ⟨fun m hm => by
 obtain ⟨D, h1, h2, h3, h4⟩ := H.1 m hm;exact ⟨D, h1, P.ai h2 rfl h3, P.Vk (Array.getElem?_eq_some_iff.1 h2).1 h3, h4⟩, H.2⟩
theorem Marks.append {n : Nat} {E E0 : Env} {h h0 : Heap} {ms ns : List Deferred} (H : Marks h0.size E h ns) (K0 : Marks n E0 h0 ms) (P : Pr J6 E0 h0 E h) (hn : n ≤ h0.size) : Marks n E h (ns ++ ms) := by
 have K := K0.mono P;refine ⟨fun m hm => ?_, List.pairwise_append.2 ⟨H.2, K.2, fun x hx y hy he => ?_⟩⟩
 ·rcases List.mem_append.1 hm with h1 | h1
  ·obtain ⟨D, h1, h2, h3, h4⟩ := H.1 m h1
   exact ⟨D, h1, h2, h3, Nat.le_trans hn h4⟩
  ·exact K.1 m h1
 ·obtain ⟨D, h1, -, -, h4⟩ := H.1 x hx
  obtain ⟨D', k1, k2, -⟩ := K0.1 y hy;have := (Array.getElem?_eq_some_iff.1 k2).1;rw [h1, k1] at he;simp only [Deferred.mk.injEq, Target.collected.injEq, and_true] at he;omega
theorem Pr.swap {ch : Tag → Prop} {E E' : Env} {h h' : Heap} {l : Nat} {x y : Obj} (P : Pr ch E (h.setIfInBounds l x) E' h') (hy : h[l]? = some y) : Pr ch E h E' (h'.setIfInBounds l y) := by
 have hl := (Array.getElem?_eq_some_iff.1 hy).1;have hs : h.size ≤ h'.size := by have := P.size; simpa using this
 refine ⟨by simpa using hs, fun b hb => ?_, fun b o hb hn => P.tags b o (by simpa using hb) hn, P.n, P.P8, P.fV⟩
 by_cases je : l = b
 ·subst je
  rw [Array.getElem?_setIfInBounds_self_of_lt (by omega), hy]
  exact V4.refl _ _
 ·have := P.blk b (by simpa using hb)
  rw [Array.getElem?_setIfInBounds_ne je] at this;rw [Array.getElem?_setIfInBounds_ne je];exact this
theorem Pr.vk {ch : Tag → Prop} {E E' : Env} {h h' : Heap} {l : Nat} {x : Obj} (P : Pr ch E h E' h') (hl : h.size ≤ l) : Pr ch E h E' (h'.setIfInBounds l x) := by
 refine ⟨by simpa using P.size, fun b hb => ?_, P.tags, P.n, P.P8, P.fV⟩
 rw [Array.getElem?_setIfInBounds_ne (by omega)]
 exact P.blk b hb
theorem Pr.setOther {E : Env} {h : Heap} {l : Nat} {x y : Obj} (hy : h[l]? = some y) (hc : y.isCells = false) (ho : E.O l 0 = .other) : Pr (fun T => T = .other) E h E (h.setIfInBounds l x) := by
 refine ⟨by simp, fun b hb => ?_, fun _ _ _ _ => rfl, Nat.le_refl _, fun _ _ => ⟨rfl, rfl, rfl⟩, fun _ _ => rfl⟩
 by_cases je : l = b
 ·subst je
  rw [hy];unfold V4
  split
  ·trivial
  ·rename_i hx
   simp only [Option.some.injEq] at hx;subst hx;simp [Obj.isCells] at hc
  ·exact fun h0 => absurd ho h0
 ·rw [Array.getElem?_setIfInBounds_ne je]
  exact V4.refl _ _
section
variable {E E' : Env} {st : St} {a : Act} {h h' : Heap}
theorem I9.others (Rl : I9 E st a h) (P : Pr (fun T => T = .other) E h E' h') (hn : E'.n = E.n) (hf : ∀ b o, h'.size ≤ b → E'.O b o = .other) : I9 E' st a h' := by
 have I8 := P.shut (by simp) Rl.fresh
 exact ⟨Rl.size, Rl.AZ, Rl.Ca, by rw [hn]; exact Rl.n, fun t v hv => (Rl.regs t v hv).mono P I8 (by simp) (by simp), fun s cs hs => by rw [P.fV s (by simp)]; exact (Rl.boxes s cs hs).mono P I8 (by simp) (by simp),
  fun i ob hi => (Rl.P8 i ob hi).mono P I8 (by rw [← Rl.n]; exact (List.getElem?_eq_some_iff.1 hi).1) (by simp) (by simp), hf⟩
theorem NE.pr {n : Nat} {w w' : World} (H : NE n E w w') : Pr (fun T => T = .other) E w.heap E w'.heap := by
 refine ⟨H.size, fun b hb => ?_, fun _ _ _ _ => rfl, Nat.le_refl _, fun _ _ => ⟨rfl, rfl, rfl⟩, fun _ _ => rfl⟩
 rcases H.blk b hb with h1 | ⟨-, ⟨c, T, f, c', h1, h2, h3⟩, h4⟩
 ·rw [h1]; exact V4.refl _ _
 ·rw [h1, h2]
  exact ⟨c', rfl, h3, fun o ho => absurd (h4 o) ho⟩
theorem NE.keep {n : Nat} {w w' : World} (H : NE n E w w') {b : Nat} {ob : Obj} (hb : w.heap[b]? = some ob) (hc : ob.isCells = false) : w'.heap[b]? = some ob := by
 rcases H.blk b (Array.getElem?_eq_some_iff.1 hb).1 with h1 | ⟨-, ⟨c, T, f, c', h1, h2, h3⟩, h4⟩
 ·rw [h1, hb]
 ·rw [hb] at h1
  simp only [Option.some.injEq] at h1;subst h1;simp [Obj.isCells] at hc
theorem NE.after {n : Nat} {w w' : World} {E0 : Env} {h0 : Heap} (H : NE n E w w') (hn : h0.size ≤ n) (P : Pr J6 E0 h0 E w.heap) : Pr J6 E0 h0 E w'.heap := by
 refine ⟨Nat.le_trans P.size H.size, fun b hb => ?_, P.tags, P.n, P.P8, P.fV⟩
 have := P.blk b hb;rcases H.blk b (Nat.lt_of_lt_of_le hb P.size) with h1 | ⟨h1, -⟩
 ·rw [h1]; exact this
 ·omega
theorem RR.stay {k t : Nat} {d : DV} {m : Meta} {v : Value} {k' t' : Nat} (R : RR E h k t d m v) (I8 : V9 E.S h E'.S h') (hn : E.n ≤ E'.n) (ho : ∀ i, i < E.n → E'.obj i = E.obj i) :
 RR E' h' k' t' (Ue (d, m)).1 (Ue (d, m)).2 v := by
 cases m <;> simp only [Ue, RR, J8, RV] at R ⊢
 case val => exact R.mono I8
 case full => exact ⟨R.1.mono I8, R.2⟩
 case own => exact R.1.mono I8
 case ptr i o => exact ⟨Nat.lt_of_lt_of_le R.1 hn, by rw [ho i R.1]; exact R.2⟩
 case E_ => exact ⟨trivial, R.2⟩
 case map i => exact ⟨Nat.lt_of_lt_of_le R.1 hn, by rw [ho i R.1]; exact R.2⟩
 case PY => exact R
 case fn f caps =>
  refine ⟨?_, fun c hc => Nat.lt_of_lt_of_le (R.2 c hc) hn⟩
  rw [R.1]
  congr 2
  refine List.map_congr_left fun c hc => ?_
  rw [ho _ (R.2 c hc)]
theorem A9U {st : St} {sg : List D7} (hl : st.mt.length = st.tm.length) (t : Nat) (ht : t < st.tm.length) : (Y6 st sg).get t = Ue (st.get t) := by
 simp only [St.get, Y6, List.getD_eq_getElem?_getD, List.getElem?_map, List.getElem?_zip_eq_some];have h1 : (st.tm.zip st.mt)[t]? = some (st.tm[t], st.mt[t]'(by omega)) := by
  rw [List.getElem?_zip_eq_some];exact ⟨List.getElem?_eq_getElem ht, List.getElem?_eq_getElem (by omega)⟩
 rw [h1];simp [List.getElem?_eq_getElem ht, List.getElem?_eq_getElem (show t < st.mt.length by omega)]
theorem I9.outer (Rl : I9 E st a h) {sg : List D7} (I8 : V9 E.S h E'.S h') (hn : E.n ≤ E'.n) (ho : ∀ i, i < E.n → E'.obj i = E.obj i) (hs : sg.length = E'.n) (hob : ∀ (i : Nat) ob, sg[i]? = some ob → RO E' h' i ob)
 (hf : ∀ b o, h'.size ≤ b → E'.O b o = .other) {ds : List Deferred} : I9 E' (Y6 st sg) { a with defers := ds } h' := by
 have hl := Rl.AZ;refine ⟨?_, by simp [Y6, hl], by simp [Y6, hl, Rl.Ca], hs, fun t v hv => ?_, fun s cs GI => ?_, hob, hf⟩
 ·simp [Y6, hl]; exact Rl.size
 ·have ht : t < st.tm.length := by rw [← Rl.size]; exact (Array.getElem?_eq_some_iff.1 hv).1
  rw [A9U hl t ht];exact (Rl.regs t v hv).stay I8 hn ho
 ·simp only [Y6, List.getD_eq_getElem?_getD, List.getElem?_map] at GI
  cases hb : st.bx[s]? <;> rw [hb] at GI <;> simp at GI
end
def A4u (i : Nat) : Tag → Tag
 | .other => .other
 | .shut => .shut
 | .RN _ => .other
 | .obj j => if j = i then .other else .obj j
 | .sp k a b => if k = 2 ∧ a ≠ i then .sp k a b else .other
theorem A3a {E : Env} {h : Heap} {k a : Nat} : ∀ {cs : List (DV × Meta)} {cd : List DV} {vs : List Value}, IP cs = some cd → cs.length = vs.length →
 (∀ (j : Nat) r v, cs[j]? = some r → vs[j]? = some v → M7 r.1 = true ∧ v.oneCell' = true ∧ U8 r.2 = true ∧ ∃ q, J8 E h (.sp k a q) r.1 r.2 v) → Fe E.S h cd vs
 | [], cd, vs, H, hl, _ => by
   simp only [IP, Option.some.injEq] at H;subst H;simp only [Fe];exact List.eq_nil_of_length_eq_zero hl.symm
 | c :: cs, cd, vs, H, hl, hr => by
   simp only [IP] at H;obtain ⟨h1, H⟩ := F6 H;obtain ⟨ds, h2, H⟩ := A9 H;simp only [Option.some.injEq] at H;subst H;cases vs with
   | nil => simp at hl
   | cons v vs =>
     obtain ⟨a1, a2, a3, q, a4⟩ := hr 0 c v rfl rfl;simp only [Fe];refine ⟨v, vs, rfl, a1, Qx a1 a2 ?_, A3a h2 (by simpa using hl) fun j r u hj hu => hr (j + 1) r u (by simpa using hj) (by simpa using hu)⟩
     revert a4 h1
     cases c.2 <;> simp only [J8] <;> intro h1 a4 <;> first | exact a4 | exact a4.1 | (simp at h1)
end Go.Su

/-
 THE DATA MACHINE, part 25: code.
-/
namespace Go.Su
def Out.XI : Out → Exit
 | .normal => .normal
 | .exit i => .exit i
 | .ret => .ret
theorem dY {α : Type} {ts : List Nat} {d : α} : ∀ {l : List α} {i j : Nat}, (WM ts d i l)[j]? = (l[j]?).map fun y => if ts.contains (i + j) then y else d
 | [], i, j => by simp [WM]
 | y :: l, i, 0 => by simp [WM]
 | y :: l, i, j + 1 => by
   simp only [WM, List.getElem?_cons_succ];rw [dY, show i + 1 + j = i + (j + 1) by omega]
theorem UO {α : Type} {ts : List Nat} {d : α} : ∀ {l : List α} {i : Nat}, (WM ts d i l).length = l.length
 | [], i => rfl
 | y :: l, i => by simp [WM, UO]
theorem lY {α : Type} {f : α → α} {ts : List Nat} : ∀ {l : List α} {i j : Nat}, (aj f ts i l)[j]? = (l[j]?).map fun y => if ts.contains (i + j) then f y else y
 | [], i, j => by simp [aj]
 | y :: l, i, 0 => by simp [aj]
 | y :: l, i, j + 1 => by
   simp only [aj, List.getElem?_cons_succ];rw [lY, show i + 1 + j = i + (j + 1) by omega]
theorem gQ {α : Type} {f : α → α} {ts : List Nat} : ∀ {l : List α} {i : Nat}, (aj f ts i l).length = l.length
 | [], i => rfl
 | y :: l, i => by simp [aj, gQ]
theorem zq {E : Env} {h : Heap} {tg : Tag} {d : DV} {v : Value} (H : J8 E h tg d .full v) : J8 E h tg d .own v := by
 obtain ⟨g1, ⟨a1, n1, g2⟩, sz, ds, g3⟩ := H;refine ⟨g1, sz, ds, g3, fun x len cap hx I4 => ?_⟩
 rw [g2] at hx;simp only [Value.slice.injEq] at hx;omega
theorem B1D {E : Env} {h : Heap} {tg : Tag} {d : DV} {m : Meta} {v : Value} (H : J8 E h tg d m v) : J8 E h tg d (NA m) v := by
 cases m <;> first | exact zq H | exact H
theorem B1E {E : Env} {h : Heap} {k a : Nat} {d : DV} {m : Meta} {v : Value} (H : RR E h k a d m v) : RR E h k a d (NA m) v := by
 cases m <;> first | exact zq H | exact H
theorem B0g {m : Meta} (H : U8 m = true) : U8 (NA m) = true := by
 cases m <;> first | rfl | exact H
theorem B1F {E : Env} {h : Heap} {tg : Tag} {d : DV} {m : Meta} {v : Value} (H : J8 E h tg d m v) : J8 E h tg d (WS m) v := by
 unfold WS
 split
 ·rename_i hd
  cases m
  case E_ => obtain ⟨rfl, rfl⟩ := (H : _ ∧ _); simp only [J8, RV]
  all_goals first | exact H | exact H.1 | (simp [J2] at hd; done) | exact H.elim
 ·exact H
theorem B1G {E : Env} {h : Heap} {k a : Nat} {d : DV} {m : Meta} {v : Value} (H : RR E h k a d m v) : RR E h k a d (WS m) v := by
 unfold WS
 split
 ·rename_i hd
  exact RR.val (RR.data hd H)
 ·exact H
theorem B0h {m : Meta} (H : U8 m = true) : U8 (WS m) = true := by
 unfold WS
 split
 ·rfl
 ·exact H
theorem I9.keep {E : Env} {st : St} {a : Act} {h : Heap} (R : I9 E st a h) (ts bs os vs : List Nat) : I9 E (st.keep ts bs os vs) a h := by
 refine ⟨by simp only [St.keep, UO]; exact R.size, by simp only [St.keep, UO, gQ]; exact R.AZ, by simp only [St.keep, UO, gQ]; exact R.Ca, R.n, fun t v hv => ?_, fun s cs hs => ?_, R.P8, R.fresh⟩
 ·have ht : t < st.tm.length := by rw [← R.size]; exact (Array.getElem?_eq_some_iff.1 hv).1
  have ht' : t < st.mt.length := by rw [R.AZ]; exact ht
  have h0 := R.regs t v hv
  by_cases hc : ts.contains t = true
  ·have : (st.keep ts bs os vs).get t = ((st.get t).1, (fun m => if vs.contains t then WS m else m) ((fun m => if os.contains t then NA m else m) (st.get t).2)) := by
    simp only [St.get, St.keep, List.getD_eq_getElem?_getD, dY, lY, Nat.zero_add, hc, if_true, Option.map_id', List.getElem?_eq_getElem ht'];rfl
   rw [this];have h1 : RR E h 0 t (st.get t).1 ((fun m => if os.contains t then NA m else m) (st.get t).2) v := by
    simp only
    split
    ·exact B1E h0
    ·exact h0
   simp only at h1 ⊢
   split
   ·exact B1G h1
   ·exact h1
  ·have : (st.keep ts bs os vs).get t = (.undef, .val) := by
    simp only [St.get, St.keep, List.getD_eq_getElem?_getD, dY, lY, Nat.zero_add, hc, List.getElem?_eq_getElem ht, List.getElem?_eq_getElem ht', Option.map_some, Option.getD_some];simp only [Bool.false_eq_true, if_false, NA, WS, J2, ite_self]
   rw [this];simp only [RR, J8, RV]
 ·simp only [St.keep, List.getD_eq_getElem?_getD, dY, lY, Nat.zero_add] at hs ⊢
  cases hb : st.bx[s]? with
  | none => rw [hb] at hs; simp at hs
  | some y =>
    rw [hb] at hs;simp only [Option.map_some, Option.getD_some] at hs ⊢
    by_cases hc : bs.contains s = true
    ·simp only [hc, if_true] at hs
     have old : ∀ cs', y = some cs' → ZR E h (.RN s) 1 s (E.blk s) cs' := fun cs' hy => R.boxes s cs' (by simp only [List.getD_eq_getElem?_getD, hb, Option.getD_some, hy])
     have step1 : ∀ cs', (if os.contains s = true then Vl y else y) = some cs' → ZR E h (.RN s) 1 s (E.blk s) cs' := by
      intro cs hs
      by_cases ho : os.contains s = true
      ·simp only [ho, if_true] at hs
       cases y with
       | none => simp [Vl] at hs
       | some cs' =>
         simp only [Vl, Option.some.injEq] at hs;subst hs;obtain ⟨c, T, h1, h2, h3, h4⟩ := old cs' rfl;refine ⟨c, T, h1, by simpa using h2, h3, fun j r v hr hv => ?_⟩
         simp only [List.getElem?_map, Option.map_eq_some_iff] at hr;obtain ⟨r0, CW, rfl⟩ := hr;obtain ⟨k1, k2, k3, k4⟩ := h4 j r0 v CW hv;exact ⟨k1, k2, B0g k3, B1D k4⟩
      ·simp only [ho, Bool.false_eq_true, if_false] at hs
       exact old cs hs
     by_cases hv : vs.contains s = true
     ·simp only [hv, if_true] at hs
      generalize (if os.contains s = true then Vl y else y) = z at hs step1
      cases z with
      | none => simp [mM] at hs
      | some cs' =>
        simp only [mM, Option.some.injEq] at hs;subst hs;obtain ⟨c, T, h1, h2, h3, h4⟩ := step1 cs' rfl;refine ⟨c, T, h1, by simpa using h2, h3, fun j r v hr hv => ?_⟩
        simp only [List.getElem?_map, Option.map_eq_some_iff] at hr;obtain ⟨r0, CW, rfl⟩ := hr;obtain ⟨k1, k2, k3, k4⟩ := h4 j r0 v CW hv;exact ⟨k1, k2, B0h k3, B1F k4⟩
     ·simp only [hv, Bool.false_eq_true, if_false] at hs
      exact step1 cs hs
    ·simp only [hc, Bool.false_eq_true, if_false] at hs
     split at hs <;> split at hs <;> simp [Vl, mM] at hs
theorem I9.Ez {E : Env} {st : St} {a : Act} {h : Heap} (R : I9 E st a h) (fl : Flags) (id : Nat) : I9 E (Ez fl id st) a h := by
 unfold Su.Ez
 split
 ·exact R.keep _ _ _ _
 ·exact R
theorem I9.clean {E : Env} {st : St} {a : Act} {h : Heap} (R : I9 E st a h) (fl : Flags) (c : Code) : I9 E (clean fl c st) a h := by
 unfold Su.clean
 split
 ·exact R.Ez fl _
 ·exact R
theorem Yg {S X : Type} {F : (S → Option X) → S → Option X} {s : S} {x : X} (H : Fz F s = some x) : ∃ n, iter F n s = some x := by
 unfold Fz at H
 split at H
 ·rename_i h
  simp only [Option.some.injEq] at H;obtain ⟨n, hn⟩ := h.choose_spec;rw [H] at hn;exact ⟨n, hn⟩
 ·cases H
section
variable {X : Type} {C : V6} {R : N7} {fl : Flags}
theorem A1z {C : V6} {st : St} {g : Operand} {ps : Array Nat} {pl : Bool} {fin : St → Option X} {step : Nat → DV → (List D7 → Option X) → List D7 → Option X} {x : X} (H : wX C st g ps pl fin step = some x) :
 ∃ t p f i it cs cd ds, g = .tmp t ∧ ps.toList = [p] ∧ (st.get t).2 = .fn f [(i, 0)] ∧ C.iter f = some it ∧ M4 st.sg i = some cs ∧ IP cs = some cd ∧ it cd = some ds ∧ pl = true ∧
   KI (step p) (fun sg => fin (Y6 st sg)) ds (st.sg.set i (.arr 1 [])) = some x := by
 unfold wX at H
 split at H
 ·rename_i t p hp
  split at H
  ·rename_i f i hm
   obtain ⟨it, h1, H⟩ := A9 H;obtain ⟨cs, h2, H⟩ := A9 H;obtain ⟨cd, h3, H⟩ := A9 H;obtain ⟨ds, h4, H⟩ := A9 H;obtain ⟨h5, H⟩ := F6 H;exact ⟨t, p, f, i, it, cs, cd, ds, rfl, hp, hm, h1, h2, h3, h4, h5, H⟩
  ·cases H
 ·cases H
theorem B0H {C : V6} {st : St} {ps : Array Nat} {fin : St → Option X} {step : Nat → DV → (List D7 → Option X) → List D7 → Option X} {t p f i : Nat} {it : List DV → Option (List DV)} {cs : List (DV × Meta)} {cd ds : List DV}
 (hp : ps.toList = [p]) (hm : (st.get t).2 = .fn f [(i, 0)]) (h1 : C.iter f = some it) (h2 : M4 st.sg i = some cs) (h3 : IP cs = some cd) (h4 : it cd = some ds) :
 wX C st (.tmp t) ps true fin step = KI (step p) (fun sg => fin (Y6 st sg)) ds (st.sg.set i (.arr 1 [])) := by
 unfold wX;simp only [hp, hm, h1, h2, h3, h4, ob, og]
theorem A6F {step : DV → (List D7 → Option X) → List D7 → Option X} {fin : List D7 → Option X} {ds : List DV} {k : Nat} {d : DV} (h : ds[k]? = some d) (sg : List D7) :
 KI step fin (ds.drop k) sg = step d (KI step fin (ds.drop (k + 1))) sg := by
 obtain ⟨hk, h⟩ := List.getElem?_eq_some_iff.1 h;rw [List.drop_eq_getElem_cons hk, h];rfl
def Left (c : Code) (n : Nat) (E : Env) (h : Heap) (ds ds' : List Deferred) : Prop := ∃ ms, ds' = ms ++ ds ∧ Marks n E h ms ∧ (O7 c = true → ms = [])
theorem Left.same {c : Code} {n : Nat} {E : Env} {h : Heap} {ds ds' : List Deferred} (e : ds' = ds) : Left c n E h ds ds' := ⟨[], e, Marks.nil, fun _ => rfl⟩
theorem Left.plain {c : Code} {n : Nat} {E : Env} {h : Heap} {ds ds' : List Deferred} (L : Left c n E h ds ds') (hp : O7 c = true) : ds' = ds := by
 obtain ⟨ms, h1, -, h2⟩ := L;rw [h1, h2 hp]; rfl
theorem A6K {c : Code} (h : lL c = true) : O7 c = true := by
 unfold lL at h
 split at h
 ·rfl
 ·rfl
 ·cases h
set_option maxHeartbeats 1000000 in
theorem Iy (hm : C.P.follows .mixedOrders = true) (hO : Ce C R) : ∀ (c : Code) {ro : Option Nat} {n : Nat} {K : Out → St → Option X} {st : St} {x : X} {E : Env} {a : Act} {w : World} {Q : Exit → Act → World → Prop}, (ro = none ∨ O7 c = true) → R5 C R fl c K st = some x → I9 E st a w.heap →
 (∀ out E' st' a' w', K out st' = some x → Left c w.heap.size E' w'.heap a.defers a'.defers → I9 E' st' a' w'.heap → Pr J6 E w.heap E' w'.heap → P9 w w' → Q out.XI a' w') → c.wpIn (QO ro) n C.P Q a w := by
 intro c
 induction c with
 | skip =>
   intro ro n K st x E a w Q YH H Rl T;exact wpIn_skip (T .normal E st a w H (Left.same rfl) Rl (Pr.refl _ _ _) (P9.refl _))
 | region id ops d =>
   intro ro n K st x E a w Q YH H Rl T;cases d
   ·exact A8G hO H (Rl.Ez fl id) fun E' t a' w' h1 h0 h2 h3 h4 => by
     obtain ⟨E2, t2, k1, k2, k3⟩ := A1h h1 h2;exact T .normal E2 t2 a' w' k1 (Left.same h0) k2 (h3.trans k3) h4
   ·simp only [R5, gI] at H
    exact B1x hm hO H (Rl.Ez fl id) fun E' t a' w' h1 h0 h2 h3 h4 => by
     obtain ⟨E2, t2, k1, k2, k3⟩ := A1h h1 h2;exact T .normal E2 t2 a' w' k1 (Left.same h0) k2 (h3.trans k3) h4
 | seq c d ihc ihd =>
   intro ro n K st x E a w Q YH H Rl T;have hp : O7 (.seq c d) = true → O7 c = true ∧ O7 d = true := fun h => by simpa [O7] using h
   refine wpIn_seq (ihc (YH.imp id fun h => (hp h).1) H Rl fun out E' st' a' w' h1 h0 h2 h3 h4 => ?_)
   obtain ⟨ms, q1, q2, q3⟩ := h0;cases out with
   | normal =>
     refine ihd (YH.imp id fun h => (hp h).2) h1 (h2.clean fl d) fun out E2 st2 a2 w2 k1 k0 k2 k3 k4 => T out E2 st2 a2 w2 k1 ?_ k2 (h3.trans k3) (h4.trans k4)
     obtain ⟨ns, p1, p2, p3⟩ := k0;exact ⟨ns ++ ms, by rw [p1, q1, List.append_assoc], p2.append q2 k3 h3.size, fun h => by rw [p3 (hp h).2, q3 (hp h).1]; rfl⟩
   | exit i => exact T (.exit i) E' st' a' w' h1 ⟨ms, q1, q2, fun h => q3 (hp h).1⟩ h2 h3 h4
   | ret => exact T .ret E' st' a' w' h1 ⟨ms, q1, q2, fun h => q3 (hp h).1⟩ h2 h3 h4
 | cond y c d ihc ihd =>
   intro ro n K st x E a w Q YH H Rl T;have hp : O7 (.cond y c d) = true → O7 c = true ∧ O7 d = true := fun h => by simpa [O7] using h
   simp only [R5, Wl] at H;obtain ⟨r, h1, H⟩ := A9 H;obtain ⟨h2, H⟩ := F6 H;have e1 := (Rl.src h1).data h2;have fin : (r.1 = .bool true ∧ R5 C R fl c K (Su.clean fl c st) = some x) ∨ (r.1 = .bool false ∧ R5 C R fl d K (Su.clean fl d st) = some x) := by
    cases y with
    | tmp t =>
      simp only [src, Option.some.injEq] at h1;subst h1;simp only at H;rcases Nn H with ⟨h3, h4⟩ | ⟨h3, h4⟩
      ·rw [EF h3 (by simp)] at h4
       exact .inl ⟨h3, h4⟩
      ·rw [EF h3 (by simp)] at h4
       exact .inr ⟨h3, h4⟩
    | _ => exact Nn H
   rcases fin with ⟨h3, h4⟩ | ⟨h3, h4⟩
   ·rw [h3] at e1
    simp only [RV] at e1;exact wpIn_cond_true e1 (ihc (YH.imp id fun h => (hp h).1) h4 (Rl.clean fl c) fun out E' st' a' w' h1 ⟨ms, q1, q2, q3⟩ h2 h3 h4 => T out E' st' a' w' h1 ⟨ms, q1, q2, fun h => q3 (hp h).1⟩ h2 h3 h4)
   ·rw [h3] at e1
    simp only [RV] at e1;exact wpIn_cond_false e1 (ihd (YH.imp id fun h => (hp h).2) h4 (Rl.clean fl d) fun out E' st' a' w' h1 ⟨ms, q1, q2, q3⟩ h2 h3 h4 => T out E' st' a' w' h1 ⟨ms, q1, q2, fun h => q3 (hp h).2⟩ h2 h3 h4)
 | block id c ih =>
   intro ro n K st x E a w Q YH H Rl T;refine wpIn_block (ih YH H Rl fun out E' st' a' w' h1 h0 h2 h3 h4 => ?_)
   cases out with
   | normal => exact T .normal E' st' a' w' h1 h0 h2 h3 h4
   | exit i =>
     simp only [Out.XI, Exit.inBlock];have h1 : (if i = id then K .normal st' else K (.exit i) st') = some x := h1
     by_cases hi : i = id
     ·rw [if_pos hi] at h1 ⊢
      exact T .normal E' st' a' w' h1 h0 h2 h3 h4
     ·rw [if_neg hi] at h1 ⊢
      exact T (.exit i) E' st' a' w' h1 h0 h2 h3 h4
   | ret => exact T .ret E' st' a' w' h1 h0 h2 h3 h4
 | loop c ih =>
   intro ro n K st x E a w Q YH H Rl T;simp only [R5] at H;obtain ⟨m, H9⟩ := Yg H;refine wpIn_loop_rounds m ?_;clear H;have Rl9 := Rl.clean fl c;clear Rl;generalize Su.clean fl c st = st9 at H9 Rl9;clear st
   induction m generalizing st9 E a w with
   | zero => simp [iter] at H9
   | succ m ihn =>
     rw [roundsIn_succ];simp only [iter] at H9;refine ih YH H9 Rl9 fun out E' st' a' w' h1 h0 h2 h3 h4 => ?_
     obtain ⟨ms, q1, q2, q3⟩ := h0;cases out with
     | normal =>
       refine ihn (fun out E2 st2 a2 w2 k1 k0 k2 k3 k4 => T out E2 st2 a2 w2 k1 ?_ k2 (h3.trans k3) (h4.trans k4)) _ h1 (h2.clean fl c)
       obtain ⟨ns, p1, p2, p3⟩ := k0;exact ⟨ns ++ ms, by rw [p1, q1, List.append_assoc], p2.append q2 k3 h3.size, fun h => by rw [p3 h, q3 h]; rfl⟩
     | exit i => exact T (.exit i) E' st' a' w' h1 ⟨ms, q1, q2, q3⟩ h2 h3 h4
     | ret => exact T .ret E' st' a' w' h1 ⟨ms, q1, q2, q3⟩ h2 h3 h4
 | exit id =>
   intro ro n K st x E a w Q YH H Rl T;exact wpIn_exit (T (.exit id) E st a w H (Left.same rfl) Rl (Pr.refl _ _ _) (P9.refl _))
 | ret =>
   intro ro n K st x E a w Q YH H Rl T;exact wpIn_ret (T .ret E st a w H (Left.same rfl) Rl (Pr.refl _ _ _) (P9.refl _))
 | rangeFunc g ps assign body iha ihb =>
   intro ro n K st x E a w Q YH H Rl T;obtain rfl : ro = none := by
    rcases YH with h | h
    ·exact h
    ·simp [O7] at h
   obtain ⟨t, p, f, i, it, cs, cd, ds, rfl, hps, hmt, hit, hbx, hcd, uq, aX, H⟩ := A1z H;simp only [Bool.and_eq_true] at aX;obtain ⟨hra, hpb⟩ := aX;have hpa := A6K hra;have hfn := Rl.src (P := C.P) (t := 0) (x := .tmp t) rfl;rw [hmt] at hfn;simp only [RR, J8] at hfn;obtain ⟨hfv, hfi⟩ := hfn;have DD : i < E.n := hfi (i, 0) (by simp)
   have hsi : st.sg[i]? = some (.box cs) := by
    unfold M4 at hbx
    split at hbx
    ·rename_i h; simp only [Option.some.injEq] at hbx; subst hbx; exact h
    ·cases hbx
   have hRO := Rl.P8 i _ hsi;simp only [RO] at hRO;obtain ⟨c, T0, b1, b2, b3, b4⟩ := hRO;have B54 : Fe E.S w.heap cd c.toList := A3a (k := 2) (a := i) hcd (by simp [b2]) fun j r v hr hv => by
    obtain ⟨a1, a2, a3, a4⟩ := b4 j r v hr (by simpa using hv)
    exact ⟨a1, a2, a3, j, a4⟩
   let E1 := E.re (A4u i)
   have hS1 : V9 E.S w.heap E1.S w.heap := JU rfl;have P01 : Pr J6 E w.heap E1 w.heap := Pr.re fun T hT => by
    cases T <;> simp [J6] at hT <;> rfl
   have B6l : ∀ (j : Nat) ob, (st.sg.set i (.arr 1 []))[j]? = some ob → RO E1 w.heap j ob := by
    intro j ob hj
    by_cases PL : i = j
    ·subst PL
     rw [List.getElem?_set_self (List.getElem?_eq_some_iff.1 hsi).1] at hj;simp only [Option.some.injEq] at hj;subst hj;simp [RO]
    ·rw [List.getElem?_set_ne PL] at hj
     have hji : ¬ j = i := fun h => PL h.symm
     refine (Rl.P8 j ob hj).to (E := E) ⟨fun b o h => by simp only [E1, Env.re]; rw [h]; rfl, fun b o h => by simp only [E1, Env.re]; rw [h]; simp [A4u, hji], rfl, rfl, rfl, rfl⟩ fun q b o h => by
      simp only [E1, Env.re]; rw [h]; simp [A4u, hji]
   have B5b : ∀ o, o < c.size → E1.O (E.obj i) o = .other := by
    intro o ho;simp only [E1, Env.re];rcases b3 o with h | h
    ·rw [h]; simp [A4u]
    ·omega
   refine wpIn_rangeFunc fun fn _ => ?_
   obtain ⟨rec, Xj⟩ : ∃ rec : LoopState → Option Code → Loop, rec = fun st pe => { state := st, pending := pe, fn, tmps := a.tmps, params := ps, assign, body, defers := w.heap.size } := ⟨_, rfl⟩
   obtain ⟨W1, hW1⟩ : ∃ W1, (w.alloc (.deferred (some []))).alloc (.loop (rec .ready none)) = W1 := ⟨_, rfl⟩;have B7e : W1.heap.size = w.heap.size + 2 := by rw [← hW1]; simp
   have hL1 : W1.heap[w.heap.size + 1]? = some (.loop (rec .ready none)) := by
    rw [← hW1]; have := World.alloc_heap_new (w.alloc (.deferred (some []))) (.loop (rec .ready none)); rwa [World.size_alloc] at this
   have hK1 : W1.heap[w.heap.size]? = some (.deferred (some [])) := by
    rw [← hW1]; exact (Go.RowKit.Below.heap_alloc _ _ _ (by simp)).trans (World.alloc_heap_new w _)
   have P1 : Pr (fun _ => False) E1 w.heap E1 W1.heap := by
    rw [← hW1];exact (Pr.push (fun _ _ _ _ => rfl) (Nat.le_refl _) (fun _ _ => ⟨rfl, rfl, rfl⟩) (fun _ _ => rfl)).trans (Pr.push (fun _ _ _ _ => rfl) (Nat.le_refl _) (fun _ _ => ⟨rfl, rfl, rfl⟩) (fun _ _ => rfl))
   have A5g : ∀ b o, w.heap.size ≤ b → E1.O b o = .other := fun b o hb => by simp only [E1, Env.re]; rw [Rl.fresh b o hb]; rfl
   have A8b : V9 E1.S w.heap E1.S W1.heap := P1.shut (by simp) A5g
   have B5h : P9 w W1 := by rw [← hW1]; exact ⟨rfl, rfl, rfl⟩
   refine ⟨w.heap.size + 1, [{ target := .collected w.heap.size, args := #[] }], W1, { target := .fn (.func f) #[.pointer (some ⟨E.obj i, 0, none⟩)], args := #[.func (.yield (w.heap.size + 1)) #[] #[]] }, W1, f,
    #[.func (.yield (w.heap.size + 1)) #[] #[], .pointer (some ⟨E.obj i, 0, none⟩)], W1, ?_, ?_, fun _ _ => trivial, ?_, fun h => (by cases h), ?_⟩
   ·rw [← hW1, Xj]; exact run_enterLoop_outer _ _ _ _ _
   ·simp only [resolve, hfv]
    simp [go_sem]
   ·have := bB (hO.i f it hit).1 #[.func (.yield (w.heap.size + 1)) #[] #[], .pointer (some ⟨E.obj i, 0, none⟩)] W1
    simpa [invoke, go_sem] using this
   let step : DV → (List D7 → Option X) → List D7 → Option X := fun d J sg =>
    R5 C R fl assign (fun o st1 => match o with
     | .normal => R5 C R fl body (fun o st2 => match o with
       | .normal => J st2.sg
       | .exit e => K (.exit e) (Y6 st st2.sg)
       | .ret => K .ret (Y6 st st2.sg)) (Su.clean fl body st1)
     | .exit _ => none
     | .ret => none) (Su.clean fl assign (Vo st p d sg))
   let fin : List D7 → Option X := fun sg => K .normal (Y6 st sg)
   have H : KI step fin ds (st.sg.set i (.arr 1 [])) = some x := H
   let Good : Env → World → List D7 → Prop := fun E' W sg => sg.length = E'.n ∧ (∀ (j : Nat) ob, sg[j]? = some ob → RO E' W.heap j ob) ∧ (∀ b o, W.heap.size ≤ b → E'.O b o = .other) ∧ Pr J6 E1 w.heap E' W.heap ∧ P9 w W ∧
    W.heap[w.heap.size]? = some (.deferred (some [])) ∧ E'.O w.heap.size 0 = .other ∧ E'.O (w.heap.size + 1) 0 = .other
   let J : Nat → Env → World → Prop := fun k E' W => ∃ sg, KI step fin (ds.drop k) sg = some x ∧ Good E' W sg ∧ W.heap[w.heap.size + 1]? = some (.loop (rec .ready none))
   let Jx : World → Prop := fun W => ∃ (out : Out) (cd : Code) (E' : Env) (sg : List D7), ((out = .ret ∧ cd = .ret) ∨ ∃ e, out = .exit e ∧ cd = .exit e) ∧ K out (Y6 st sg) = some x ∧ Good E' W sg ∧ W.heap[w.heap.size + 1]? = some (.loop (rec .done (some cd)))
   have behind : ∀ E' W sg (dl : List Deferred), Good E' W sg → I9 E' (Y6 st sg) { a with defers := dl } W.heap := by
    intro E' W sg dl ⟨g1, g2, g3, g4, g5, g6, g7, g8⟩;have I8 : V9 E.S w.heap E'.S W.heap := by
     have h2 := g4.shut (by simp [J6]) A5g
     exact ⟨fun b o hs => h2.s b o (hS1.s b o hs), fun b o v hs hv => h2.c b o v (hS1.s b o hs) hv⟩
    exact Rl.outer I8 g4.n (fun j hj => (g4.P8 j hj).1) g1 g2 g3
   have A7j : ∀ E' W sg (o : Obj) (o' : Obj), Good E' W sg → W.heap[w.heap.size + 1]? = some o → o.isCells = false → Good E' (W.putObj (w.heap.size + 1) o') sg := by
    intro E' W sg o o' ⟨g1, g2, g3, g4, g5, g6, g7, g8⟩ ho hc;have Pp : Pr (fun T => T = .other) E' W.heap E' (W.putObj (w.heap.size + 1) o').heap := Pr.setOther ho hc g8
    have I8 := Pp.shut (by simp) g3
    refine ⟨g1, fun j ob hj => (g2 j ob hj).mono Pp I8 (by rw [← g1]; exact (List.getElem?_eq_some_iff.1 hj).1) (by simp) (by simp), fun b o hb => g3 b o (by simpa using hb), g4.vk (by omega), ⟨g5.os, g5.tape, g5.output⟩, ?_, g7, g8⟩
    exact (World.putObj_heap_other (by omega)).trans g6
   have B59 : W1.heap[E.obj i]? = some (.cells c T0 (0, 0)) := by
    have I4 := (Array.getElem?_eq_some_iff.1 b1).1;rw [← hW1];exact (Go.RowKit.Below.heap_alloc _ _ _ (by simp; omega)).trans ((Go.RowKit.Below.heap_alloc _ _ _ I4).trans b1)
   have key := (hO.i f it hit).2 cd ds uq (n - 1) (w.heap.size + 1) (E.obj i) c T0 J Jx E1 W1 B59 B5b (Fe.mono ⟨fun b o hs => A8b.s b o (hS1.s b o hs), fun b o v hs hv => A8b.c b o v (hS1.s b o hs) hv⟩ _ B54)
    (fun k E' W' ⟨sg, _, g, _⟩ => g.2.2.1) ?_ ?_ ?_
   ·refine CallsIn.mono key ?_
    rintro e W2 ⟨⟨v, rfl⟩, ⟨E', sg, h1, g, hl⟩ | ⟨out, cd, E', sg, ho, h1, g, hl⟩⟩
    ·-- all have come
     have g' := A7j E' W2 sg _ (.loop { rec .ready none with state := .exhausted }) g hl rfl
     refine ⟨none, W2.putObj (w.heap.size + 1) (.loop { rec .ready none with state := .exhausted }), by have := run_endLoop (P := C.P) hl (by rw [Xj]; simp); rw [this]; rw [Xj], ?_⟩
     rw [List.drop_length] at h1;refine T .normal E' _ _ _ h1 ⟨[{ target := .collected w.heap.size, args := #[] }], rfl, ?_, fun h => by simp [O7] at h⟩ (behind E' _ sg _ g') (P01.trans g'.2.2.2.1) g'.2.2.2.2.1
     refine ⟨fun m hm => ?_, by simp⟩
     simp only [List.mem_singleton] at hm;subst hm;exact ⟨_, rfl, g'.2.2.2.2.2.1, g'.2.2.2.2.2.2.1, Nat.le_refl _⟩
    ·-- a round has left the loop
     have g' := A7j E' W2 sg _ (.loop { rec .done (some cd) with state := .exhausted }) g hl rfl
     refine ⟨some cd, W2.putObj (w.heap.size + 1) (.loop { rec .done (some cd) with state := .exhausted }), by have := run_endLoop (P := C.P) hl (by rw [Xj]; simp); rw [this]; rw [Xj], ?_⟩
     have hT : Q out.XI { a with defers := [{ target := .collected w.heap.size, args := #[] }] ++ a.defers } (W2.putObj (w.heap.size + 1) (.loop { rec .done (some cd) with state := .exhausted })) := by
      refine T out E' _ _ _ h1 ⟨[{ target := .collected w.heap.size, args := #[] }], rfl, ?_, fun h => by simp [O7] at h⟩ (behind E' _ sg _ g') (P01.trans g'.2.2.2.1) g'.2.2.2.2.1
      refine ⟨fun m hm => ?_, by simp⟩
      simp only [List.mem_singleton] at hm;subst hm;exact ⟨_, rfl, g'.2.2.2.2.2.1, g'.2.2.2.2.2.2.1, Nat.le_refl _⟩
     rcases ho with ⟨rfl, rfl⟩ | ⟨e, rfl, rfl⟩
     ·exact wpIn_ret hT
     ·exact wpIn_exit hT
   ·intro k E' Wa Wb ⟨sg, h1, ⟨g1, g2, g3, g4, g5, g6, g7, g8⟩, hl⟩ hIt
    have I8 := hIt.pr.shut (by simp) g3
    exact ⟨sg, h1, ⟨g1, fun j ob hj => (g2 j ob hj).mono hIt.pr I8 (by rw [← g1]; exact (List.getElem?_eq_some_iff.1 hj).1) (by simp) (by simp), fun b o hb => g3 b o (Nat.le_trans hIt.size hb), hIt.after (by omega) g4, g5.trans hIt.out, hIt.keep g6 rfl, g7, g8⟩, hIt.keep hl rfl⟩
   ·-- one round
    intro k E' W d v ⟨sg, h1, g, hl⟩ hd hv;rw [A6F hd] at h1;have B3V : ps = #[p] := by
     apply Array.ext';simpa using hps
    have hy := run_yield (P := C.P) (args := #[v]) hl (by rw [Xj]; simp [B3V])
    rw [Xj] at hy;refine ⟨fn, _, assign, body, hy, roundIn_of_wpIn trivial ?_⟩;obtain ⟨g1, g2, g3, g4, g5, g6, g7, g8⟩ := g;have R0 : I9 E' (Vo st p d sg) ({ tmps := a.tmps.setIfInBounds p v, defers := [] } : Act) W.heap := by
     have := (behind E' W sg [] ⟨g1, g2, g3, g4, g5, g6, g7, g8⟩).put (dst := some p) (d := d) (m := .val) (v := v) fun t0 _ => hv
     exact this
    have B48 : (Array.zip ps #[v]).foldl (fun tmps (t, a) => tmps.setIfInBounds t a) a.tmps = a.tmps.setIfInBounds p v := by rw [B3V]; simp
    simp only [B48];refine iha (ro := some (w.heap.size + 1)) (.inr hpa) h1 (R0.clean fl assign) fun out E2 st1 a1 w1 k1 k0 k2 k3 k4 => ?_
    cases out with
    | exit e => cases k1
    | ret => cases k1
    | normal =>
    have d1 : a1.defers = [] := k0.plain hpa;have Ut := k3.ai hl rfl g8;have t1 : E2.O (w.heap.size + 1) 0 = .other := k3.Vk (Array.getElem?_eq_some_iff.1 hl).1 g8;refine ⟨_, run_beginRound Ut (by rw [Xj]), ?_⟩
    have R2 : I9 E2 (Su.clean fl body st1) a1 (w1.putObj (w.heap.size + 1) (.loop { rec .ready none with state := .busy })).heap :=
     (k2.others (Pr.setOther Ut rfl t1) rfl (fun b o hb => k2.fresh b o (by simpa using hb))).clean fl body
    refine ihb (ro := some (w.heap.size + 1)) (.inr hpb) k1 R2 fun out E3 st2 a3 w3 q1 q0 q2 q3 q4 => ?_
    have vB : (w1.putObj (w.heap.size + 1) (.loop { rec .ready none with state := .busy })).heap[w.heap.size + 1]? = some (.loop { rec .ready none with state := .busy }) := World.putObj_heap_same (Array.getElem?_eq_some_iff.1 Ut).1
    have hl3 := q3.ai vB rfl t1;have t3 : E3.O (w.heap.size + 1) 0 = .other := q3.Vk (Array.getElem?_eq_some_iff.1 vB).1 t1;have lt3 := (Array.getElem?_eq_some_iff.1 hl3).1;have sz1 := k3.size;have I4 := (Array.getElem?_eq_some_iff.1 hl).1;have Pw : Pr J6 E' W.heap E3 (w3.heap.setIfInBounds (w.heap.size + 1) (.loop (rec .ready none))) := k3.trans (q3.swap Ut);have Pb : ∀ o, Pr J6 E1 w.heap E3 (w3.heap.setIfInBounds (w.heap.size + 1) o) := fun o => by
     have := (g4.trans Pw).vk (l := w.heap.size + 1) (x := o) (by omega)
     rwa [Array.setIfInBounds_setIfInBounds] at this
    have hD1 := k3.ai g6 rfl g7;have tD1 : E2.O w.heap.size 0 = .other := k3.Vk (Array.getElem?_eq_some_iff.1 g6).1 g7;have hD2 : (w1.putObj (w.heap.size + 1) (.loop { rec .ready none with state := .busy })).heap[w.heap.size]? = some (.deferred (some [])) := (World.putObj_heap_other (by omega)).trans hD1
    have hD3 := q3.ai hD2 rfl tD1;have tD3 : E3.O w.heap.size 0 = .other := q3.Vk (Array.getElem?_eq_some_iff.1 hD2).1 tD1;have A76 : ∀ o, Good E3 (w3.putObj (w.heap.size + 1) o) st2.sg := fun o => by
     have R3 := q2.others (Pr.setOther (x := o) hl3 rfl t3) rfl (fun b o hb => q2.fresh b o (by simpa using hb))
     refine ⟨R3.n, R3.P8, R3.fresh, Pb o, ?_, (World.putObj_heap_other (by omega)).trans hD3, tD3, t3⟩
     have := (g5.trans k4).trans (P9.trans (b := w1.putObj (w.heap.size + 1) (.loop { rec .ready none with state := .busy })) ⟨rfl, rfl, rfl⟩ q4)
     exact ⟨this.os, this.tape, this.output⟩
    cases out with
    | normal =>
      refine ⟨_, _, run_endRound none hl3, .inl ⟨rfl, E3, ⟨st2.sg, q1, A76 _, ?_⟩, ?_⟩⟩
      ·rw [World.putObj_heap_same lt3]; rw [Xj]; rfl
      ·have : (Obj.loop { { rec .ready none with state := .busy } with state := if (none : Option Code).isNone = true then .ready else .done, pending := none }) = .loop (rec .ready none) := by rw [Xj]; rfl
       rw [this];exact Pw
    | ret =>
      refine ⟨_, _, run_endRound (some .ret) hl3, .inr ⟨rfl, .ret, .ret, E3, st2.sg, .inl ⟨rfl, rfl⟩, q1, A76 _, ?_⟩⟩;rw [World.putObj_heap_same lt3]; rw [Xj]; rfl
    | exit e =>
      refine ⟨_, _, run_endRound (some (.exit e)) hl3, .inr ⟨rfl, .exit e, .exit e, E3, st2.sg, .inr ⟨e, rfl, rfl⟩, q1, A76 _, ?_⟩⟩;rw [World.putObj_heap_same lt3]; rw [Xj]; rfl
   ·-- where it begins
    refine ⟨_, H, ⟨by rw [List.length_set]; exact Rl.n, fun j ob hj => (B6l j ob hj).mono P1 A8b ?_ (by simp) (by simp), fun b o hb => A5g b o (by omega), P1.weaken (by simp), B5h, hK1, A5g _ _ (Nat.le_refl _), A5g _ _ (by omega)⟩, hL1⟩
    have := (List.getElem?_eq_some_iff.1 hj).1;rw [List.length_set, Rl.n] at this;exact this
 | _ =>
   intro ro n K st x E a w Q YH H Rl T;simp [R5] at H
end
end Go.Su

/-
 THE DATA MACHINE, part 26: a plain function's results.
-/
namespace Go.Su
structure wR (E : Env) (h : Heap) (g : List D7) (S : Q0) : Prop where
 le : V9 E.S h S h
 ob : ∀ (i : Nat) ob, g[i]? = some ob → RO E h i ob ∧ (ob ≠ .arr 1 [] → ∀ b o, E.O b o = .obj i → S b o)
def Env.fin (E : Env) : Q0 := fun b o => E.O b o = .shut ∨ ∃ i, E.O b o = .obj i
theorem B3D (E : Env) (h : Heap) : V9 E.S h E.fin h := ⟨fun _ _ hs => .inl hs, fun _ _ _ _ hv => hv⟩
theorem A9r {E : Env} {st : St} {a : Act} {h : Heap} (Rl : I9 E st a h) : wR E h st.sg E.fin := ⟨B3D E h, fun i ob hi => ⟨Rl.P8 i ob hi, fun _ _ _ h => .inr ⟨i, h⟩⟩⟩
theorem A8q (E : Env) (h : Heap) : wR E h [] E.S := ⟨⟨fun _ _ hs => hs, fun _ _ _ _ hv => hv⟩, fun i ob hi => by simp at hi⟩
theorem WP {E : Env} {h : Heap} {sg : List D7} {c : DV × Meta} {d : DV} {tg : Tag} {v : Value} (H : j3 sg c = some d) (R : J8 E h tg c.1 c.2 v) {S : Q0} (ho : wR E h sg S) :
 RV S h d v ∧ (M7 c.1 = true → c.2 = .val → M7 d = true) ∧ (c.2 ≠ .val → M7 d = true) := by
 unfold j3 at H
 split at H
 ·rename_i hm
  simp only [Option.some.injEq] at H;subst H;rw [hm] at R;exact ⟨RV.mono ho.le _ R, fun h _ => h, fun h => absurd hm h⟩
 ·rename_i hm
  simp only [Option.some.injEq] at H;subst H;rw [hm] at R;obtain ⟨R1, -, sz, ds, hd⟩ := R;exact ⟨R1.mono ho.le, fun h _ => h, fun _ => by rw [hd]; rfl⟩
 ·rename_i hm
  simp only [Option.some.injEq] at H;subst H;rw [hm] at R;obtain ⟨R1, sz, ds, hd, -⟩ := R;exact ⟨R1.mono ho.le, fun h _ => h, fun _ => by rw [hd]; rfl⟩
 ·rename_i hm
  simp only [Option.some.injEq] at H;subst H;rw [hm] at R;obtain ⟨R1, R2⟩ := (R : _ ∧ _);exact ⟨by rw [R1, R2]; simp only [RV], fun h _ => h, fun _ => by rw [R1]; rfl⟩
 ·rename_i i sz off len hm
  obtain ⟨p, hp, H⟩ := A9 H;obtain ⟨h1, H⟩ := F6 H;obtain ⟨h2, H⟩ := L9 H;simp only [Option.some.injEq] at H;subst H;rw [hm] at R;simp only [J8] at R;obtain ⟨hi, a, cap, rfl, ha, A2y, A78, A8e, -⟩ := R;refine ⟨?_, fun _ _ => rfl, fun _ => rfl⟩
  simp only [RV, RC];have hll : ((p.2.drop off).take len).length = len := by simp; omega
  obtain ⟨hob, UL⟩ := ho.ob i _ (Yn hp);simp only [beq_iff_eq] at h1;refine ⟨a, len, cap, rfl, hll.symm, A2y, A78, fun hne => ?_, fun x hx => ⟨fun _ => A8e x hx, ?_⟩⟩
  ·simp only [RO] at hob
   have : p.2 ≠ [] := fun h => by rw [h] at hne; simp at hne
   obtain ⟨c, T, e1, e2, e3, -⟩ := hob this;rw [← h1]; exact e3
  ·rw [C_]
   intro j d hj;have hjl : j < len := by
    have := (List.getElem?_eq_some_iff.1 hj).1;omega
   rw [List.getElem?_take_of_lt hjl, List.getElem?_drop] at hj;have hne : p.2 ≠ [] := fun h => by rw [h] at hj; simp at hj
   simp only [RO] at hob;obtain ⟨c, T, e1, e2, e3, e4, e5⟩ := hob hne;obtain ⟨vs, v1, v2, v3⟩ := e5 (off + j) d hj;have hax := ha (by omega)
   rw [hx] at hax;simp only [Option.some.injEq] at hax;subst hax;refine ⟨vs, by rw [← h1]; exact v1, fun y u hu => ?_, v3.mono ho.le⟩
   have hy : y < p.1 := by have := (List.getElem?_eq_some_iff.1 hu).1; omega
   have hjp : off + j < p.2.length := (List.getElem?_eq_some_iff.1 hj).1;have I4 : (off + j) * p.1 + y < p.2.length * p.1 := seg_lt hjp hy;have e : E.base i + off * sz + j * sz + y = E.base i + (off + j) * p.1 + y := by rw [← h1, Nat.add_mul]; omega
   refine ⟨?_, UL (fun h => hne (by have := congrArg (fun ob => match ob with | D7.arr _ ds => ds | _ => []) h; exact this)) _ _ ?_⟩
   ·rw [e]
    simp only [hc, e1];exact v2 y u hu
   ·rw [e]
    exact e4 _ (by omega) (by omega)
 ·cases H
theorem bC {E : Env} {h : Heap} {sg : List D7} {S : Q0} (ho : wR E h sg S) : ∀ {cs : List (DV × Meta)} {vs : List Value} {ds : List DV}, DN sg cs = some ds → cs.length = vs.length →
 (∀ (j : Nat) r v, cs[j]? = some r → vs[j]? = some v → M7 r.1 = true ∧ v.oneCell' = true ∧ ∃ tg, J8 E h tg r.1 r.2 v) → Fe S h ds vs
 | [], vs, ds, H, hl, _ => by
   simp only [DN, Option.some.injEq] at H;subst H;exact List.eq_nil_of_length_eq_zero hl.symm
 | c :: cs, [], ds, H, hl, _ => by simp at hl
 | c :: cs, v :: vs, ds, H, hl, hR => by
   simp only [DN] at H;obtain ⟨d, h1, H⟩ := A9 H;obtain ⟨ds', h2, H⟩ := A9 H;simp only [Option.some.injEq] at H;subst H;obtain ⟨q1, q2, tg, q3⟩ := hR 0 c v rfl rfl;obtain ⟨r1, r2, r3⟩ := WP h1 q3 ho;have hlf : M7 d = true := by
    by_cases hm : c.2 = .val
    ·exact r2 q1 hm
    ·exact r3 hm
   simp only [Fe];exact ⟨v, vs, rfl, hlf, Qx hlf q2 r1, bC ho h2 (by simpa using hl) fun j r u hr hu => hR (j + 1) r u (by simpa using hr) (by simpa using hu)⟩
def Lu (tmps : Array Value) : ResultVar → Sem Value
 | .tmp t => pure (tmps.getD t undef)
 | .cell a t => do loadVar t (← asAddr (tmps.getD a undef))
theorem vX {P : Program} {E : Env} {st : St} {a : Act} {w : World} {rv : ResultVar} {d : DV} {S : Q0} {g : List D7} (H : bA P (st.Ha g) rv = some d) (Rl : I9 E st a w.heap) (ho : wR E w.heap g S) :
 ∃ v, (Lu a.tmps rv).run P w = .ok v w ∧ RV S w.heap d v := by
 cases rv with
 | tmp t =>
   have H : (match (st.get t).2 with
    | .AO ms => og (J2 (.AO ms)) (some (st.get t).1)
    | _ => j3 g (st.get t)) = some d := H
   have hR : RR E w.heap 0 t (st.get t).1 (st.get t).2 (a.tmps.getD t undef) := Rl.src (P := P) (t := 0) (x := .tmp t) rfl;refine ⟨a.tmps.getD t undef, rfl, ?_⟩
   split at H
   ·rename_i ms hm
    obtain ⟨h1, H⟩ := F6 H;simp only [Option.some.injEq] at H;subst H;exact (hR.data (by rw [hm]; exact h1)).mono ho.le
   ·rename_i hm
    have hnt : ∀ ms, (st.get t).2 ≠ .BR ms := fun ms h => by
     unfold j3 at H;rw [h] at H;simp at H
    exact (WP H (hR.wL hnt fun ms h => hm ms h) ho).1
 | cell p t =>
   have H : (match (st.get p).2 with
    | .loc s 0 => ob (st.bx.getD s none) fun cs => ob (tz P t) fun z =>
      if z.1 = cs.length then
       if z.2 then ob (DN g cs) fun ds => some (.agg ds)
       else match cs with
        | [c] => j3 g c
        | _ => none
      else none
    | .ptr i 0 => ob (M4 g i) fun cs => ob (tz P t) fun z =>
      if z.1 = cs.length then
       if z.2 then ob (DN g cs) fun ds => some (.agg ds)
       else match cs with
        | [c] => j3 g c
        | _ => none
      else none
    | _ => none) = some d := H
   have hR : RR E w.heap 0 p (st.get p).1 (st.get p).2 (a.tmps.getD p undef) := Rl.src (P := P) (t := 0) (x := .tmp p) rfl
   split at H
   ·rename_i s hm
    obtain ⟨cs, h1, H⟩ := A9 H;obtain ⟨z, h2, H⟩ := A9 H;obtain ⟨h3, H⟩ := L9 H;rw [hm] at hR;simp only [RR, J8] at hR;obtain ⟨c, T, b1, b2, b3, b4⟩ := Rl.boxes s cs h1;obtain ⟨v, hv, jm, Uu⟩ := GN (w := w) h2 (b := E.blk s) (off := 0) (vs := c.toList) (by simp [b2, h3]) fun j u hu => by
     simp only [hc, b1, Nat.zero_add];simpa using hu
    have R8 : (Lu a.tmps (.cell p t)).run P w = .ok v w := by
     simp only [Lu, hR.2, asAddr, Sem.run_bind, Sem.run_pure, Result.andThen_ok];exact hv
    refine ⟨v, R8, ?_⟩;have b5 : ∀ (j : Nat) r u, cs[j]? = some r → c.toList[j]? = some u → M7 r.1 = true ∧ u.oneCell' = true ∧ ∃ tg, J8 E w.heap tg r.1 r.2 u := fun j r u hr hu => by
     obtain ⟨q1, q2, q3, q4⟩ := b4 j r u hr (by simpa using hu)
     exact ⟨q1, q2, _, q4⟩
    by_cases hz : z.2 = true
    ·rw [if_pos hz] at H
     obtain ⟨ds, h4, H⟩ := A9 H;simp only [Option.some.injEq] at H;subst H;rw [jm hz];simp only [RV];exact ⟨_, rfl, bC ho h4 (by simp [b2]) b5⟩
    ·rw [if_neg hz] at H
     have hcv := Uu (by simpa using hz)
     have h5 : ∃ c0, cs = [c0] ∧ j3 g c0 = some d := by
      split at H
      ·exact ⟨_, rfl, H⟩
      ·cases H
     obtain ⟨c0, rfl, h6⟩ := h5;obtain ⟨q1, q2, tg, q3⟩ := b5 0 c0 v rfl (by rw [hcv]; rfl)
     exact (WP h6 q3 ho).1
   ·rename_i i hm
    obtain ⟨cs, h1, H⟩ := A9 H;obtain ⟨z, h2, H⟩ := A9 H;obtain ⟨h3, H⟩ := L9 H;rw [hm] at hR;simp only [RR, J8] at hR;have hgi : g[i]? = some (.box cs) := by
     unfold M4 at h1
     split at h1
     ·rename_i h; simp only [Option.some.injEq] at h1; subst h1; exact h
     ·cases h1
    have hRO := (ho.ob i _ hgi).1;simp only [RO] at hRO;obtain ⟨c, T, b1, b2, b3, b4⟩ := hRO;obtain ⟨v, hv, jm, Uu⟩ := GN (w := w) h2 (b := E.obj i) (off := 0) (vs := c.toList) (by simp [b2, h3]) fun j u hu => by
     simp only [hc, b1, Nat.zero_add];simpa using hu
    have R8 : (Lu a.tmps (.cell p t)).run P w = .ok v w := by
     simp only [Lu, hR.2, asAddr, Sem.run_bind, Sem.run_pure, Result.andThen_ok];exact hv
    refine ⟨v, R8, ?_⟩;have b5 : ∀ (j : Nat) r u, cs[j]? = some r → c.toList[j]? = some u → M7 r.1 = true ∧ u.oneCell' = true ∧ ∃ tg, J8 E w.heap tg r.1 r.2 u := fun j r u hr hu => by
     obtain ⟨q1, q2, q3, q4⟩ := b4 j r u hr (by simpa using hu)
     exact ⟨q1, q2, _, q4⟩
    by_cases hz : z.2 = true
    ·rw [if_pos hz] at H
     obtain ⟨ds, h4, H⟩ := A9 H;simp only [Option.some.injEq] at H;subst H;rw [jm hz];simp only [RV];exact ⟨_, rfl, bC ho h4 (by simp [b2]) b5⟩
    ·rw [if_neg hz] at H
     have hcv := Uu (by simpa using hz)
     have h5 : ∃ c0, cs = [c0] ∧ j3 g c0 = some d := by
      split at H
      ·exact ⟨_, rfl, H⟩
      ·cases H
     obtain ⟨c0, rfl, h6⟩ := h5;obtain ⟨q1, q2, tg, q3⟩ := b5 0 c0 v rfl (by rw [hcv]; rfl)
     exact (WP h6 q3 ho).1
   ·cases H
theorem A16 {P : Program} {E : Env} {st : St} {a : Act} {w : World} (Rl : I9 E st a w.heap) : ∀ {rs : List ResultVar} {ds : List DV}, Yy P st rs = some ds →
 ∃ vs : List Value, (rs.mapM (Lu a.tmps)).run P w = .ok vs w ∧ O_ E.fin w.heap ds vs ∧ vs.length = rs.length
 | [], ds, H => by
   simp only [Yy, Option.some.injEq] at H;subst H;exact ⟨[], rfl, rfl, rfl⟩
 | r :: rs, ds, H => by
   simp only [Yy] at H;obtain ⟨d, h1, H⟩ := A9 H;obtain ⟨ds', h2, H⟩ := A9 H;simp only [Option.some.injEq] at H;subst H;obtain ⟨v, q1, q2⟩ := vX (g := st.sg) h1 Rl (A9r Rl);obtain ⟨vs, q3, q4, q5⟩ := A16 Rl h2;refine ⟨v :: vs, ?_, ⟨v, vs, rfl, q2, q4⟩, by simp [q5]⟩
   simp only [List.mapM_cons, Sem.run_bind, q1, q3, Result.andThen_ok, Sem.run_pure]
theorem A17 (fn : Func) (tmps : Array Value) : results fn tmps = (do
 let vs ← fn.results.toList.mapM (Lu tmps)
 pure (if h : vs.toArray.size = 1 then vs.toArray[0] else .tuple vs.toArray)) := by
 have : results fn tmps = (do
  let vs ← fn.results.mapM (Lu tmps)
  pure (if h : vs.size = 1 then vs[0] else .tuple vs)) := by
  unfold results
  congr 1
 rw [this, Array.mapM_eq_mapM_toList];simp
theorem B2H {S : Q0} {h : Heap} {ds : List DV} {vs : List Value} (R : O_ S h ds vs) : RV S h (pack ds) (if h : vs.toArray.size = 1 then vs.toArray[0] else .tuple vs.toArray) := by
 obtain ⟨hl, hR⟩ := VA.1 R
 by_cases h1 : vs.toArray.size = 1
 ·rw [dif_pos h1]
  obtain ⟨v, rfl⟩ := List.length_eq_one_iff.1 (by simpa using h1)
  obtain ⟨d, rfl⟩ := List.length_eq_one_iff.1 (by simpa using hl)
  exact hR 0 d v rfl rfl
 ·rw [dif_neg h1]
  unfold pack
  split
  ·simp at hl h1; omega
  ·simp only [RV]
   exact ⟨_, rfl, by simpa using R⟩
def LX (us : List Nat) (sg : List D7) : List D7 := sg.mapIdx fun i ob => if i ∈ us then ob else .arr 1 []
def EZ (us : List Nat) (T : Tag) : Tag :=
 match T with
 | .obj i => if i ∈ us then .shut else .obj i
 | T => T
theorem UZ {us : List Nat} {T : Tag} (h : ∀ i ∈ us, T ≠ .obj i) : EZ us T = T := by
 unfold EZ
 split
 ·rename_i i
  rw [if_neg fun hi => h i hi rfl]
 ·rfl
theorem A5Q (us : List Nat) {T : Tag} (h : ¬ ∃ i ∈ us, T = .obj i) : EZ us T = T := UZ fun i hi he => h ⟨i, hi, he⟩
theorem A9M {us : List Nat} {sg : List D7} {i : Nat} (h : i ∈ us) : (LX us sg)[i]? = sg[i]? := by
 unfold LX;rw [List.getElem?_mapIdx];cases sg[i]? <;> simp [h]
theorem A8C {us : List Nat} {sg : List D7} {i : Nat} (h : i ∈ us) : UY (LX us sg) i = UY sg i := by
 unfold UY;rw [A9M h]
theorem Xm {us : List Nat} {sg : List D7} {c : DV × Meta} (h : ∀ i ∈ wV c.2, i ∈ us) : j3 (LX us sg) c = j3 sg c := by
 obtain ⟨d, m⟩ := c;cases m <;> try rfl
 case arr i sz off len =>
  simp only [j3];rw [A8C (h i (by simp [wV]))]
theorem kE {us : List Nat} {sg : List D7} : ∀ {cs : List (DV × Meta)}, (∀ c ∈ cs, ∀ i ∈ wV c.2, i ∈ us) → DN (LX us sg) cs = DN sg cs
 | [], _ => rfl
 | c :: cs, h => by
   simp only [DN];rw [Xm (h c (List.mem_cons_self ..)), kE fun c' hc' => h c' (List.mem_cons_of_mem _ hc')]
theorem A6L {P : Program} {st : St} {rv : ResultVar} {us : List Nat} {d : DV} (hl : A0s st rv = true) (hu : ∀ i ∈ TA st rv, i ∈ us) (H : bA P st rv = some d) : bA P (st.Ha (LX us st.sg)) rv = some d := by
 cases rv with
 | tmp t =>
   simp only [TA] at hu;have e := Xm (us := us) (sg := st.sg) (c := st.get t) hu
   show (match (st.get t).2 with
    | .AO ms => og (J2 (.AO ms)) (some (st.get t).1)
    | _ => j3 (LX us st.sg) (st.get t)) = some d
   rw [e];exact H
 | cell p t =>
   simp only [A0s] at hl;simp only [TA] at hu;simp only [bA] at H ⊢
   show (match (st.get p).2 with
    | .loc s 0 => ob (st.bx.getD s none) fun cs => ob (tz P t) fun z =>
      if z.1 = cs.length then
       if z.2 then ob (DN (LX us st.sg) cs) fun ds => some (.agg ds)
       else match cs with
        | [c] => j3 (LX us st.sg) c
        | _ => none
      else none
    | .ptr i 0 => ob (M4 (LX us st.sg) i) fun cs => ob (tz P t) fun z =>
      if z.1 = cs.length then
       if z.2 then ob (DN (LX us st.sg) cs) fun ds => some (.agg ds)
       else match cs with
        | [c] => j3 (LX us st.sg) c
        | _ => none
      else none
    | _ => none) = some d
   cases hm : (st.get p).2 with
   | loc s o =>
     rw [hm] at H hu;cases o with
     | succ o => simp at H
     | zero =>
       simp only at H hu ⊢;obtain ⟨cs, h1, H⟩ := A9 H;rw [h1] at hu;simp only at hu;have hc : ∀ c ∈ cs, ∀ i ∈ wV c.2, i ∈ us := fun c hc i hi => hu i (List.mem_flatMap.2 ⟨c, hc, hi⟩)
       rw [h1, K3, kE hc];obtain ⟨z, h2, H⟩ := A9 H;rw [h2, K3];obtain ⟨h3, H⟩ := L9 H;rw [if_pos h3]
       by_cases hz : z.2 = true
       ·rw [if_pos hz] at H ⊢
        exact H
       ·rw [if_neg hz] at H ⊢
        match cs, hc, H with
        | [c], hc, H =>
          simp only at H ⊢;rw [Xm (hc c (List.mem_cons_self ..))];exact H
        | [], _, H => simp at H
        | _ :: _ :: _, _, H => simp at H
   | _ => rw [hm] at hl; simp at hl
theorem A8m {E : Env} {st : St} {a : Act} {h : Heap} (Rl : I9 E st a h) (us : List Nat) : wR E h (LX us st.sg) (E.re (EZ us)).S := by
 refine ⟨JU (UZ (by simp)), fun i ob hi => ?_⟩
 unfold LX at hi;rw [List.getElem?_mapIdx] at hi;cases hg : st.sg[i]? with
 | none => rw [hg] at hi; simp at hi
 | some o =>
   rw [hg] at hi;simp only [Option.map_some, Option.some.injEq] at hi
   by_cases hm : i ∈ us
   ·rw [if_pos hm] at hi
    subst hi;refine ⟨Rl.P8 i _ hg, fun _ b o hb => ?_⟩
    simp only [Env.S, Env.re];rw [hb];simp [EZ, hm]
   ·rw [if_neg hm] at hi
    subst hi;exact ⟨by simp [RO], fun h => absurd rfl h⟩
theorem B09 (sg : List D7) : ∀ (us : List Nat) (i : Nat), (kill sg us)[i]? = if i ∈ us then (sg[i]?).map (fun _ => D7.arr 1 []) else sg[i]? := by
 intro us
 induction us generalizing sg with
 | nil => intro i; simp [kill]
 | cons u us ih =>
   intro i
   show (kill (sg.set u (.arr 1 [])) us)[i]? = _
   rw [ih]
   by_cases h1 : i ∈ us
   ·rw [if_pos h1, if_pos (List.mem_cons_of_mem _ h1), List.getElem?_set]
    split
    ·rename_i h; subst h; split <;> simp_all
    ·rfl
   ·rw [if_neg h1]
    by_cases h2 : u = i
    ·subst h2
     rw [if_pos (List.mem_cons_self ..), List.getElem?_set];simp only [if_true]
     split
     ·rename_i h; rw [List.getElem?_eq_getElem h]; rfl
     ·rename_i h; rw [List.getElem?_eq_none (by omega)]; rfl
    ·rw [if_neg (by simp [h1]; exact fun h => h2 h.symm), List.getElem?_set_ne h2]
theorem I9.shut {E : Env} {st : St} {a : Act} {h : Heap} (R : I9 E st a h) (us : List Nat) : I9 (E.re (EZ us)) { st with sg := kill st.sg us } a h := by
 have P : Pr (fun T => ∃ i ∈ us, T = .obj i) E h (E.re (EZ us)) h := Pr.re fun T hT => A5Q us hT
 have I8 : V9 E.S h (E.re (EZ us)).S h := JU (UZ (by simp))
 have Z0 : ∀ (us : List Nat) (g : List D7), (kill g us).length = g.length := by
  intro us
  induction us with
  | nil => intro g; rfl
  | cons u us ih => intro g; show (kill (g.set u _) us).length = _; rw [ih]; simp
 refine ⟨R.size, R.AZ, R.Ca, (Z0 us st.sg).trans R.n, fun t v hv => (R.regs t v hv).mono P I8 (by simp) (by simp), fun s cs hs => (R.boxes s cs hs).mono P I8 (by simp) (by simp), fun i ob hi => ?_, fun b o hb => ?_⟩
 ·rw [B09] at hi
  split at hi
  ·cases hg : st.sg[i]? with
   | none => rw [hg] at hi; simp at hi
   | some o =>
     rw [hg] at hi;simp only [Option.map_some, Option.some.injEq] at hi;subst hi;simp [RO]
  ·rename_i hm
   have I4 : i < E.n := by rw [← R.n]; exact (List.getElem?_eq_some_iff.1 hi).1
   exact (R.P8 i ob hi).mono P I8 I4 (by rintro ⟨j, hj, he⟩; simp only [Tag.obj.injEq] at he; subst he; exact hm hj) (by simp)
 ·simp only [Env.re]
  rw [R.fresh b o hb];rfl
end Go.Su

/-
 THE DATA MACHINE, part 27: the program's functions give what the data machine says.
-/
namespace Go.Su
section
variable {C : V6} {R : N7} {X : Type} {fl : Flags} {Q : Exit → Act → World → Prop} {ops : List Oper}
theorem A7x {k : St → Option X} {x : X} {ro : Option Nat} {n : Nat} {rest : List Nat} (hO : Ce C R) : ∀ {os : List Oper} {i : Nat} {st : St} {E : Env} {a : Act} {w : World}, (∀ (j : Nat) o, os[j]? = some o → ops[i + j]? = some o) → Bh C R fl ops os st k = some x → I9 E st a w.heap →
 (∀ E' t a' w', k t = some x → a'.defers = a.defers → I9 E' t a' w'.heap → Pr J6 E w.heap E' w'.heap → P9 w w' → wpOpsIn (QO ro) n C.P ops.toArray Q rest a' w') → wpOpsIn (QO ro) n C.P ops.toArray Q (List.range' i os.length ++ rest) a w
 | [], i, st, E, a, w, _, H, Rl, T => T E st a w H rfl Rl (Pr.refl _ _ _) (P9.refl _)
 | o :: os, i, st, E, a, w, hs, H, Rl, T => by
   obtain ⟨s1, h1, h2⟩ := kw H;have DZ : ∀ (j : Nat) o, os[j]? = some o → ops[i + 1 + j]? = some o := fun j o ho => by
    rw [show i + 1 + j = i + (j + 1) by omega]
    exact hs (j + 1) o (by simpa using ho)
   simp only [List.length_cons, List.range'_succ, List.cons_append];rw [wpOpsIn_cons];refine A8D hO (by simpa using hs 0 o rfl) h1 Rl fun E' a' w' D1 R1 P1 O1 => ?_
   exact A7x hO DZ h2 R1 fun E2 t a2 w2 k1 k0 k2 k3 k4 => T E2 t a2 w2 k1 (k0.trans D1) k2 (P1.trans k3) (O1.trans k4)
end
section
variable {C : V6} {R : N7} {X : Type}
open Classical in
noncomputable def VE (S : Q0) : Env where
 blk := fun _ => 0
 top := fun _ => 0
 obj := fun _ => 0
 base := fun _ => 0
 O := fun b o => if S b o then .shut else .other
 n := 0
theorem B3B (S : Q0) (b o : Nat) : (VE S).S b o ↔ S b o := by
 simp only [Env.S, VE]
 split <;> simp_all
theorem B07 {fn : Func} {rs : List (DV × Meta)} {sg : List D7} {t : Nat} : (∀ r, rs[t]? = some r → (F5 fn rs sg).get t = r) ∧ (rs.length ≤ t → t < rs.length + (fn.ntmps - rs.length) → (F5 fn rs sg).get t = (.H7 [], .val)) := by
 constructor
 ·intro r hr
  have ht := (List.getElem?_eq_some_iff.1 hr).1;simp only [St.get, F5, List.getD_eq_getElem?_getD];rw [List.getElem?_append_left (by simpa using ht), List.getElem?_append_left (by simpa using ht)]
  simp [hr]
 ·intro h1 h2
  simp only [St.get, F5, List.getD_eq_getElem?_getD];rw [List.getElem?_append_right (by simpa using h1), List.getElem?_append_right (by simpa using h1)]
  simp only [List.length_map];rw [List.getElem?_replicate, List.getElem?_replicate, if_pos (by omega), if_pos (by omega)]
  rfl
theorem lK {fn : Func} {rs : List (DV × Meta)} {sg : List D7} {E : Env} {w : World} {vs : List Value} (hf : ∀ b o, w.heap.size ≤ b → E.O b o = .other) (hn : sg.length = E.n) (ho : ∀ (i : Nat) ob, sg[i]? = some ob → RO E w.heap i ob)
 (hl : vs.length = rs.length) (hr : ∀ (i : Nat) r v, rs[i]? = some r → vs[i]? = some v → RR E w.heap 0 i r.1 r.2 v) :
 I9 E (F5 fn rs sg) { tmps := vs.toArray ++ Array.replicate (fn.ntmps - vs.toArray.size) undef, defers := [] } w.heap := by
 refine ⟨by simp [F5, hl], by simp [F5], by simp [F5], hn, fun t v hv => ?_, fun s cs hs => ?_, ho, hf⟩
 ·have I4 : t < rs.length + (fn.ntmps - rs.length) := by
   have := (Array.getElem?_eq_some_iff.1 hv).1;simpa [hl] using this
  obtain ⟨i1, i2⟩ := B07 (fn := fn) (rs := rs) (sg := sg) (t := t)
  by_cases ht : t < rs.length
  ·have hrt : rs[t]? = some rs[t] := List.getElem?_eq_getElem ht
   rw [i1 _ hrt];refine hr t _ v hrt ?_;rw [Array.getElem?_append_left (by simpa [hl] using ht)] at hv
   simpa using hv
  ·rw [i2 (Nat.le_of_not_lt ht) I4]
   rw [Array.getElem?_append_right (by simpa [hl] using Nat.le_of_not_lt ht)] at hv
   rw [Array.getElem?_replicate] at hv
   split at hv
   ·simp only [Option.some.injEq] at hv
    subst hv;simp only [RR, J8, RV, undef];exact ⟨#[], rfl, by simp [O_]⟩
   ·cases hv
 ·simp only [F5, List.getD_eq_getElem?_getD, List.getElem?_replicate] at hs
  split at hs <;> simp at hs
theorem B2E {S : Q0} {E' : Env} {h h' : Heap} (P : Pr J6 (VE S) h E' h') {b : Nat} (hb : b < h.size) : h'[b]? = h[b]? := by
 have hk := P.blk b hb;have Eg : ∀ o, ¬ J6 ((VE S).O b o) := fun o => by
  simp only [VE]
  split <;> simp [J6]
 have he : h[b]? = some h[b] := Array.getElem?_eq_getElem hb;rw [he] at hk ⊢;unfold V4 at hk
 split at hk
 ·rename_i hx; cases hx
 ·rename_i c T f hx
  obtain ⟨c', h1, h2, h3⟩ := hk;rw [h1, hx]
  congr 2
  exact Array.ext_getElem? fun o => h3 o (Eg o)
 ·have := hk (Eg 0)
  simp_all
theorem UQ {m : Nat} {P : Program} {fn : Func} {Rp : Ending → World → Prop} {E0 E : Env} {st : St} {a : Act} {w : World}
 (fin : ∀ w2, I9 E st a w2.heap → Pr J6 E0 w.heap E w2.heap → P9 w w2 → ∃ v, (results fn a.tmps).run P w2 = .ok v w2 ∧ Rp (.returned v) w2) :
 ∀ (ms : List Deferred) (w1 : World), Marks w.heap.size E w1.heap ms → I9 E st a w1.heap → Pr J6 E0 w.heap E w1.heap → P9 w w1 → LeavesInM Fence.wide m P fn a.tmps Rp ms .returning w1
 | [], w1, _, Rl, P1, O1 => fin w1 Rl P1 O1
 | d :: ms, w1, M, Rl, P1, O1 => by
   obtain ⟨D, rfl, h2, h3, h4⟩ := M.1 d (List.mem_cons_self ..);obtain ⟨p1, p2⟩ := List.pairwise_cons.1 M.2;refine ⟨by simp, .inl ⟨D, w1.putObj D (.deferred none), rfl, run_takeDeferred h2, ?_⟩⟩
   refine UQ fin ms _ ⟨fun m' Wv => ?_, p2⟩ (Rl.others (Pr.setOther h2 rfl h3) rfl fun b o hb => Rl.fresh b o (by simpa using hb)) (P1.vk h4) ⟨O1.os, O1.tape, O1.output⟩
   obtain ⟨D', q1, q2, q3, q4⟩ := M.1 m' (List.mem_cons_of_mem _ Wv);refine ⟨D', q1, ?_, q3, q4⟩;have hne : D' ≠ D := fun h => p1 m' Wv (by rw [q1, h])
   exact (World.putObj_heap_other hne).trans q2
def A4l (P : Program) (c : Code) (p : Cut) : Prop :=
 ∃ M : Code, c = BQ p.pre M ∧ (O7 M = true → O7 p.post = true) ∧
   ∀ {n : Nat} {E : Env} {st st2 : St} {a : Act} {w : World} {Q : Exit → Act → World → Prop}, I9 E st a w.heap → p.mid st = some st2 →
     (∀ E' a' w', a'.defers = a.defers → I9 E' st2 a' w'.heap → Pr J6 E w.heap E' w'.heap → P9 w w' → p.post.wpIn (QO none) n P Q a' w') → M.wpIn (QO none) n P Q a w
theorem Marks.weak {n m : Nat} {E : Env} {h : Heap} {ms : List Deferred} (H : Marks n E h ms) (hn : m ≤ n) : Marks m E h ms :=
 ⟨fun x hx => let ⟨D, h1, h2, h3, h4⟩ := H.1 x hx; ⟨D, h1, h2, h3, Nat.le_trans hn h4⟩, H.2⟩
theorem A5V (hm : C.P.follows .mixedOrders = true) (hO : Ce C R) {fl : Flags} {M : Code} : ∀ (ps : List Code) {n : Nat} {K : Out → St → Option X} {st : St} {x : X} {E : Env} {a : Act} {w : World} {Q : Exit → Act → World → Prop},
 R5 C R fl (BQ ps .skip) K st = some x → I9 E st a w.heap →
 (∀ out E' st' a' w', out ≠ .normal → K out st' = some x → Left (BQ ps .skip) w.heap.size E' w'.heap a.defers a'.defers → I9 E' st' a' w'.heap → Pr J6 E w.heap E' w'.heap → P9 w w' → Q out.XI a' w') →
 (∀ E' st' a' w', K .normal st' = some x → Left (BQ ps .skip) w.heap.size E' w'.heap a.defers a'.defers → I9 E' st' a' w'.heap → Pr J6 E w.heap E' w'.heap → P9 w w' → M.wpIn (QO none) n C.P Q a' w') → (BQ ps M).wpIn (QO none) n C.P Q a w
 | [], n, K, st, x, E, a, w, Q, H, Rl, T, N => N E st a w H (Left.same rfl) Rl (Pr.refl _ _ _) (P9.refl _)
 | p :: ps, n, K, st, x, E, a, w, Q, H, Rl, T, N => by
   have hp : O7 (.seq p (BQ ps .skip)) = true → O7 p = true ∧ O7 (BQ ps .skip) = true := fun h => by simpa [O7] using h
   refine wpIn_seq (Iy hm hO p (.inl rfl) H Rl fun out E' st' a' w' h1 h0 h2 h3 h4 => ?_)
   obtain ⟨ms, q1, q2, q3⟩ := h0;have join : ∀ {E2 : Env} {a2 : Act} {w2 : World}, Left (BQ ps .skip) w'.heap.size E2 w2.heap a'.defers a2.defers → Pr J6 E' w'.heap E2 w2.heap → Left (BQ (p :: ps) .skip) w.heap.size E2 w2.heap a.defers a2.defers := by
    rintro E2 a2 w2 ⟨ns, p1, p2, p3⟩ k3;exact ⟨ns ++ ms, by rw [p1, q1, List.append_assoc], p2.append q2 k3 h3.size, fun h => by rw [p3 (hp h).2, q3 (hp h).1]; rfl⟩
   cases out with
   | normal =>
     exact A5V hm hO ps h1 (h2.clean fl _) (fun out E2 st2 a2 w2 hn k1 k0 k2 k3 k4 => T out E2 st2 a2 w2 hn k1 (join k0 k3) k2 (h3.trans k3) (h4.trans k4))
      fun E2 st2 a2 w2 k1 k0 k2 k3 k4 => N E2 st2 a2 w2 k1 (join k0 k3) k2 (h3.trans k3) (h4.trans k4)
   | exit i => exact T (.exit i) E' st' a' w' (by simp) h1 ⟨ms, q1, q2, fun h => q3 (hp h).1⟩ h2 h3 h4
   | ret => exact T .ret E' st' a' w' (by simp) h1 ⟨ms, q1, q2, fun h => q3 (hp h).1⟩ h2 h3 h4
theorem Yi : ∀ (ps : List Code) (M : Code), O7 (BQ ps M) = true → O7 (BQ ps .skip) = true ∧ O7 M = true
 | [], M, h => ⟨rfl, h⟩
 | p :: ps, M, h => by
   simp only [BQ, O7, Bool.and_eq_true] at h ⊢;obtain ⟨h1, h2⟩ := Yi ps M h.2;exact ⟨⟨h.1, h1⟩, h2⟩
theorem B24 (hm : C.P.follows .mixedOrders = true) (hO : Ce C R) {fl : Flags} {c : Code} {p : Cut} (hc : A4l C.P c p) {n : Nat} {K : Out → St → Option X} {st : St} {x : X} {E : Env} {a : Act} {w : World} {Q : Exit → Act → World → Prop}
 (H : R5 C R fl (BQ p.pre .skip) (A2q C R fl p K) st = some x) (Rl : I9 E st a w.heap)
 (T : ∀ out E' st' a' w', K out st' = some x → Left c w.heap.size E' w'.heap a.defers a'.defers → I9 E' st' a' w'.heap → Pr J6 E w.heap E' w'.heap → P9 w w' → Q out.XI a' w') : c.wpIn (QO none) n C.P Q a w := by
 obtain ⟨M, rfl, hM, B6j⟩ := hc;refine A5V hm hO p.pre H Rl (fun out E1 st1 a1 w1 hn h1 h0 h2 h3 h4 => ?_) fun E1 st1 a1 w1 h1 h0 h2 h3 h4 => ?_
 ·obtain ⟨ms, q1, q2, q3⟩ := h0
  cases out with
  | exit i => simp [A2q] at h1
  | ret => exact T .ret E1 st1 a1 w1 h1 ⟨ms, q1, q2, fun h => q3 (Yi _ _ h).1⟩ h2 h3 h4
  | normal => exact absurd rfl hn
 ·obtain ⟨ms, q1, q2, q3⟩ := h0
  simp only [A2q] at h1;obtain ⟨st2, k1, k2⟩ := A9 h1;refine B6j h2 k1 fun E2 a2 w2 d2 r2 p2 o2 => ?_
  refine Iy hm hO p.post (.inl rfl) k2 (r2.clean fl p.post) fun out E3 st3 a3 w3 g1 g0 g2 g3 g4 => T out E3 st3 a3 w3 g1 ?_ g2 ((h3.trans p2).trans g3) ((h4.trans o2).trans g4)
  obtain ⟨ns, p1, p2', p3⟩ := g0;exact ⟨ns ++ ms, by rw [p1, d2, q1, List.append_assoc], (p2'.weak p2.size).append q2 (p2.trans g3) h3.size, fun h => by rw [p3 (hM (Yi _ _ h).2), q3 (Yi _ _ h).1]; rfl⟩
theorem B1u (hm : C.P.follows .mixedOrders = true) (hO : Ce C R) {fl : Flags} {c : Code} {q : Option Cut} (hc : ∀ p, q = some p → A4l C.P c p) {n : Nat} {K : Out → St → Option X} {st : St} {x : X} {E : Env} {a : Act} {w : World} {Q : Exit → Act → World → Prop}
 (H : A1x C R fl q c K st = some x) (Rl : I9 E st a w.heap)
 (T : ∀ out E' st' a' w', K out st' = some x → Left c w.heap.size E' w'.heap a.defers a'.defers → I9 E' st' a' w'.heap → Pr J6 E w.heap E' w'.heap → P9 w w' → Q out.XI a' w') : c.wpIn (QO none) n C.P Q a w := by
 cases q with
 | none => exact Iy hm hO c (.inl rfl) H Rl T
 | some p => exact B24 hm hO (hc p rfl) H Rl T
theorem pure_ok {f : FuncId} {fn : Func} {c : Code} {ds : List DV} {d : DV} {cut : Option Cut} (hm : C.P.follows .mixedOrders = true) (hO : Ce C R) (hf : C.P.funcs[f]? = some fn) (hb : fn.body = some c) (B6c : ∀ p, cut = some p → A4l C.P c p)
 (H : A1x C R (C.fl f) cut c (Vn C.P fn) (F5 fn (ds.map fun d => (d, .val)) []) = some d) : A8U C.P f ds d := by
 intro S w vs hS Mx;obtain ⟨hl, hv⟩ := VA.1 Mx;have I8 : V9 S w.heap (VE S).S w.heap := ⟨fun b o hs => (B3B S b o).2 hs, fun _ _ _ _ h => h⟩
 have fr : ∀ b o, w.heap.size ≤ b → (VE S).O b o = .other := fun b o hb => by
  simp only [VE];rw [if_neg (hS b o hb)]
 refine (callsIn_wide (n := 0)).1 (callsIn_of_wp_marks hf hb trivial (B1u hm hO B6c H (lK (E := VE S) fr rfl (by simp) (by simp [hl]) fun i r v hr zl => ?_) fun out E' st' a' w1 h1 h0 YG um wo => ?_))
 ·simp only [List.getElem?_map, Option.map_eq_some_iff] at hr
  obtain ⟨d', GJ, rfl⟩ := hr;exact RR.val ((hv i d' v GJ zl).mono I8)
 ·obtain ⟨ms, e0, M, -⟩ := h0
  rw [List.append_nil] at e0;have fin : ∀ ds', Yy C.P st' fn.results.toList = some ds' → d = pack ds' → ∀ w', I9 E' st' a' w'.heap → Pr J6 (VE S) w.heap E' w'.heap → P9 w w' → ∃ v, (results fn a'.tmps).run C.P w' = .ok v w' ∧ ∃ v' S', Ending.returned v = .returned v' ∧ Ext S w.heap S' w'.heap ∧ RV S' w'.heap d v' ∧ P9 w w' := by
   intro ds' k1 k2 w' h2 h3 Nh;obtain ⟨us, q1, q2, -⟩ := A16 h2 k1;refine ⟨if h : us.toArray.size = 1 then us.toArray[0] else .tuple us.toArray, ?_, _, E'.fin, rfl, ⟨h3.size, fun b hb => B2E h3 hb, fun b o hb => ?_, fun b o hb => ?_⟩, by rw [k2]; exact B2H q2, Nh⟩
   ·rw [A17]
    simp only [Sem.run_bind, q1, Result.andThen_ok, Sem.run_pure]
   ·have Eg : ¬ J6 ((VE S).O b o) := by
     simp only [VE]
     split <;> simp [J6]
    have ht := h3.tags b o hb Eg;simp only [Env.fin, ht, VE]
    split <;> simp_all
   ·simp only [Env.fin, h2.fresh b o hb]
    simp
  cases out with
  | exit i => simp [Vn] at h1
  | normal =>
    simp only [Vn] at h1;obtain ⟨ds', k1, k2⟩ := A9 h1;simp only [Option.some.injEq] at k2
    show LeavesInM Fence.wide 0 C.P fn a'.tmps _ a'.defers .returning w1
    rw [e0];exact UQ (fin ds' k1 k2.symm) ms w1 M YG um wo
  | ret =>
    simp only [Vn] at h1;obtain ⟨ds', k1, k2⟩ := A9 h1;simp only [Option.some.injEq] at k2
    show LeavesInM Fence.wide 0 C.P fn a'.tmps _ a'.defers .returning w1
    rw [e0];exact UQ (fin ds' k1 k2.symm) ms w1 M YG um wo
def A7E (S : Q0) (E : Env) (st : St) (a : Act) (w : World) (r : ResultVar) (d : DV) (v : Value) : MK → Prop
 | .val => RV S w.heap d v
 | .own => ∃ t, r = .tmp t ∧ KO (st.get t).2 = true ∧ d = (st.get t).1 ∧ v = a.tmps.getD t undef
 | .ptr => ∃ t, r = .tmp t ∧ A5F (st.get t) = some d ∧ v = a.tmps.getD t undef
 | .S_ n os => ∃ p t s cs, r = .cell p t ∧ (st.get p).2 = .loc s 0 ∧ st.bx.getD s none = some cs ∧ n = cs.length ∧ iB os 0 cs = true ∧ d = .agg (cs.map (·.1)) ∧ ∃ c T, w.heap[E.blk s]? = some (.cells c T (0, 0)) ∧ v = .agg c
theorem A3E {P : Program} {sl : Bool} {us : List Nat} {E : Env} {st : St} {a : Act} {w : World} (Rl : I9 E st a w.heap) : ∀ {ks : List MK} {rs : List ResultVar} {ds : List DV}, (sl = true → ∀ v ∈ rs, ∀ i ∈ TA st v, i ∈ us) → XG P sl st ks rs = some ds →
 ks.length = rs.length ∧ ds.length = ks.length ∧ ∃ vs : List Value, (rs.mapM (Lu a.tmps)).run P w = .ok vs w ∧ vs.length = rs.length ∧
  ∀ (i : Nat) k r d v, ks[i]? = some k → rs[i]? = some r → ds[i]? = some d → vs[i]? = some v → A7E (E.re (EZ us)).S E st a w r d v k
 | [], [], ds, _, H => by
   simp only [XG, Option.some.injEq] at H;subst H;exact ⟨rfl, rfl, [], rfl, rfl, fun i k r d v h => by simp at h⟩
 | k :: ks, r :: rs, ds, hu, H => by
   simp only [XG] at H;obtain ⟨d, h1, H⟩ := A9 H;obtain ⟨ds', h2, H⟩ := A9 H;simp only [Option.some.injEq] at H;subst H;obtain ⟨l1, l2, vs, q1, q2, q3⟩ := A3E Rl (fun h v hv => hu h v (List.mem_cons_of_mem _ hv)) h2
   have one : ∃ v, (Lu a.tmps r).run P w = .ok v w ∧ A7E (E.re (EZ us)).S E st a w r d v k := by
    cases k with
    | val =>
      simp only [A15] at h1
      split at h1
      ·rename_i hb
       simp only [Bool.and_eq_true] at hb;obtain ⟨v, k1, k2⟩ := vX (g := LX us st.sg) (A6L hb.2 (hu hb.1 r (List.mem_cons_self ..)) h1) Rl (A8m Rl us);exact ⟨v, k1, k2⟩
      ·obtain ⟨v, k1, k2⟩ := vX (g := []) h1 Rl (A8q E w.heap)
       exact ⟨v, k1, k2.mono (JU (UZ (by simp)))⟩
    | own =>
      simp only [A15] at h1;cases r with
      | tmp t =>
        simp only at h1;obtain ⟨k1, k2⟩ := F6 h1;simp only [Option.some.injEq] at k2;exact ⟨_, rfl, t, rfl, k1, k2.symm, rfl⟩
      | cell p t => simp at h1
    | ptr =>
      simp only [A15] at h1;cases r with
      | tmp t => exact ⟨_, rfl, t, rfl, h1, rfl⟩
      | cell p t => simp at h1
    | S_ n os =>
      simp only [A15] at h1;cases r with
      | tmp t => simp at h1
      | cell p t =>
        simp only at h1
        split at h1
        ·rename_i s hm
         obtain ⟨cs, g1, h1⟩ := A9 h1;obtain ⟨z, g2, h1⟩ := A9 h1;obtain ⟨g3, h1⟩ := F6 h1;simp only [Bool.and_eq_true, beq_iff_eq] at g3;obtain ⟨⟨⟨hz, g3⟩, g4⟩, g5⟩ := g3;simp only [Option.some.injEq] at h1;have hR : RR E w.heap 0 p (st.get p).1 (st.get p).2 (a.tmps.getD p undef) := Rl.src (P := P) (t := 0) (x := .tmp p) rfl;rw [hm] at hR;simp only [RR, J8] at hR;obtain ⟨c, T, b1, b2, b3, b4⟩ := Rl.boxes s cs g1;obtain ⟨v, hv, jm, Uu⟩ := GN (w := w) g2 (b := E.blk s) (off := 0) (vs := c.toList) (by simp [b2, g3]) fun j u hu => by
          simp only [hc, b1, Nat.zero_add];simpa using hu
         have R8 : (Lu a.tmps (.cell p t)).run P w = .ok v w := by
          simp only [Lu, hR.2, asAddr, Sem.run_bind, Sem.run_pure, Result.andThen_ok];exact hv
         exact ⟨v, R8, p, t, s, cs, rfl, hm, g1, by omega, g5, h1.symm, c, T, b1, by rw [jm hz]⟩
        ·cases h1
   obtain ⟨v, k1, k2⟩ := one;refine ⟨by simp [l1], by simp [l2], v :: vs, by simp only [List.mapM_cons, Sem.run_bind, k1, q1, Result.andThen_ok, Sem.run_pure], by simp [q2], fun i k' r' d' v' e1 e2 e3 e4 => ?_⟩
   cases i with
   | zero =>
     simp only [List.getElem?_cons_zero, Option.some.injEq] at e1 e2 e3 e4;subst e1 e2 e3 e4;exact k2
   | succ i =>
     simp only [List.getElem?_cons_succ] at e1 e2 e3 e4;exact q3 i k' r' d' v' e1 e2 e3 e4
 | [], _ :: _, ds, _, H => by simp [XG] at H
 | _ :: _, [], ds, _, H => by simp [XG] at H
theorem A1X : ∀ {ks : List MK} {i j : Nat} {k k' : MK}, (ks.filter Ci).length ≤ 1 → ks[i]? = some k → Ci k = true → ks[j]? = some k' → Ci k' = true → i = j
 | [], i, j, _, _, _, h, _, _, _ => by simp at h
 | k0 :: ks, i, j, k, k', hl, hi, hk, hj, Dr => by
   have nomem : Ci k0 = true → ∀ (m : Nat) q, ks[m]? = some q → Ci q = true → False := by
    intro h0 m q hm hq;have h1 : q ∈ ks.filter Ci := List.mem_filter.2 ⟨List.mem_of_getElem? hm, hq⟩;have h2 : 0 < (ks.filter Ci).length := List.length_pos_of_mem h1;simp only [List.filter_cons, h0, if_true, List.length_cons] at hl;omega
   cases i with
   | zero =>
     simp only [List.getElem?_cons_zero, Option.some.injEq] at hi;subst hi;cases j with
     | zero => rfl
     | succ j => simp only [List.getElem?_cons_succ] at hj; exact (nomem hk j _ hj Dr).elim
   | succ i =>
     simp only [List.getElem?_cons_succ] at hi;cases j with
     | zero =>
       simp only [List.getElem?_cons_zero, Option.some.injEq] at hj;subst hj;exact (nomem Dr i _ hi hk).elim
     | succ j =>
       simp only [List.getElem?_cons_succ] at hj;have u_ : (ks.filter Ci).length ≤ 1 := by
        simp only [List.filter_cons] at hl
        split at hl
        ·simp only [List.length_cons] at hl; omega
        ·exact hl
       rw [A1X u_ hi hk hj Dr]
def A1W (st : St) (k : MK) (r : ResultVar) : Option (Nat × Nat) :=
 match k, r with
 | .own, .tmp t => some (0, t)
 | .S_ _ _, .cell p _ => match (st.get p).2 with
   | .loc s _ => some (1, s)
   | _ => none
 | _, _ => none
def a_ (q : Option (Nat × Nat)) (i : Nat) (T : Tag) : Tag :=
 match T with
 | .sp 0 t b => if q = some (0, t) then .sp 3 i b else .sp 0 t b
 | .sp 1 s j => if q = some (1, s) then .sp 3 i (j + 1) else .sp 1 s j
 | T => T
theorem A1a : ∀ {os : List Nat} {i0 j : Nat} {cs : List (DV × Meta)} {c : DV × Meta}, iB os i0 cs = true → cs[j]? = some c → (if os.contains (i0 + j) then KO c.2 else J2 c.2) = true
 | os, i0, j, [], c, _, h => by simp at h
 | os, i0, 0, c0 :: cs, c, H, h => by
   simp only [List.getElem?_cons_zero, Option.some.injEq] at h;subst h;simp only [iB, Bool.and_eq_true] at H;exact H.1
 | os, i0, j + 1, c0 :: cs, c, H, h => by
   simp only [iB, Bool.and_eq_true] at H;have := A1a H.2 (by simpa using h)
   rwa [Nat.add_assoc, Nat.add_comm 1 j] at this
theorem B0D {m : Meta} (h : J2 m = true) (hl : U8 m = true) : m = .val ∨ m = .full ∨ m = .own ∨ m = .E_ := by
 cases m <;> simp_all [J2, U8]
theorem A5K {E : Env} {h : Heap} {tg : Tag} {d : DV} {m : Meta} {v : Value} (hr : KO m = true) (R : J8 E h tg d m v) : J8 E h tg d .own v := by
 cases m <;> first | exact R | exact R.lD | (simp [KO] at hr)
def h_ (E : Env) (w : World) (s : Z8) (q : List DV × List D7) (e : Ending) (w' : World) : Prop :=
 P9 w w' ∧ ∃ v E', e = .returned v ∧ Pr J6 E w.heap E' w'.heap ∧ (∀ b o, w'.heap.size ≤ b → E'.O b o = .other) ∧ q.2.length = E'.n ∧ (∀ (i : Nat) ob, q.2[i]? = some ob → RO E' w'.heap i ob) ∧ A4D E' w'.heap s.results q.1 v
theorem A7t {fn : Func} {s : Z8} {q : List DV × List D7} {E E' : Env} {st' : St} {a' : Act} {w : World} (h4 : (s.results.filter Ci).length ≤ 1) {ds' : List DV} (k1 : XG C.P s.lock st' s.results fn.results.toList = some ds')
 (k2 : q = (ds', match s.lock with
   | true => kill st'.sg (fn.results.toList.flatMap (TA st'))
   | false => st'.sg)) (w' : World) (h2 : I9 E' st' a' w'.heap) (h3 : Pr J6 E w.heap E' w'.heap) (Nh : P9 w w') : ∃ v, (results fn a'.tmps).run C.P w' = .ok v w' ∧ h_ E w s q (.returned v) w' := by
 obtain ⟨ks, JD⟩ : ∃ ks, (match s.lock with
  | true => fn.results.toList.flatMap (TA st')
  | false => []) = ks := ⟨_, rfl⟩
 have B3R : s.lock = true → ∀ v ∈ fn.results.toList, ∀ i ∈ TA st' v, i ∈ ks := fun hl v hv i hi => by
  rw [← JD, hl];exact List.mem_flatMap.2 ⟨v, hv, hi⟩
 have B3S : (match s.lock with
  | true => kill st'.sg (fn.results.toList.flatMap (TA st'))
  | false => st'.sg) = kill st'.sg ks := by
  rw [← JD];cases s.lock <;> rfl
 rw [B3S] at k2;clear B3S JD;subst k2;obtain ⟨l1, l2, us, q1, q2, q3⟩ := A3E (us := ks) h2 B3R k1;have h2 : I9 (E'.re (EZ ks)) { st' with sg := kill st'.sg ks } a' w'.heap := h2.shut ks
 have h3 : Pr J6 E w.heap (E'.re (EZ ks)) w'.heap := h3.trans (Pr.re fun T hT => UZ fun i _ he => hT (by rw [he]; simp [J6]))
 have q3 : ∀ (i : Nat) k r d v, s.results[i]? = some k → fn.results.toList[i]? = some r → ds'[i]? = some d → us[i]? = some v → A7E (E'.re (EZ ks)).S (E'.re (EZ ks)) { st' with sg := kill st'.sg ks } a' w' r d v k := by
  intro i k r d v e1 e2 e3 e4;have := q3 i k r d v e1 e2 e3 e4;cases k <;> exact this
 clear B3R;generalize hE : E'.re (EZ ks) = E' at h2 h3 q3;generalize Q4 : ({ st' with sg := kill st'.sg ks } : St) = st2 at h2 q3
 have hgs : st2.sg = kill st'.sg ks := by rw [← Q4]
 rw [← hgs];clear hgs Q4 hE k1;have pick : ∃ (i0 : Nat) (g : Option (Nat × Nat)), ∀ (j : Nat) k r, s.results[j]? = some k → Ci k = true → fn.results.toList[j]? = some r → j = i0 ∧ A1W st2 k r = g := by
  by_cases hx : ∃ (i : Nat) (k : MK), s.results[i]? = some k ∧ Ci k = true
  ·obtain ⟨i, k, hi, hk⟩ := hx
   have I4 : i < s.results.length := (List.getElem?_eq_some_iff.1 hi).1;have e2 : fn.results.toList[i]? = some (fn.results.toList[i]'(by omega)) := List.getElem?_eq_getElem (by omega)
   refine ⟨i, A1W st2 k (fn.results.toList[i]'(by omega)), fun j k' r hj Dr hr => ?_⟩
   have := A1X h4 hi hk hj Dr;subst this;rw [hi] at hj;rw [e2] at hr;simp only [Option.some.injEq] at hj hr;exact ⟨rfl, by rw [hj, hr]⟩
  ·exact ⟨0, none, fun j k r hj hk => absurd ⟨j, k, hj, hk⟩ hx⟩
 obtain ⟨i0, g, B1Q⟩ := pick;have I8 : V9 E'.S w'.heap (E'.re (a_ g i0)).S w'.heap := JU rfl;refine ⟨if h : us.toArray.size = 1 then us.toArray[0] else .tuple us.toArray, ?_, Nh, _, E'.re (a_ g i0), rfl, h3.trans (Pr.re fun T hT => ?_), fun b o hb => ?_, ?_, fun i ob hi => ?_, l2, us, by omega, ?_, ?_⟩
 ·rw [A17]
  simp only [Sem.run_bind, q1, Result.andThen_ok, Sem.run_pure]
 ·unfold a_
  split
  ·simp [J6] at hT
  ·simp [J6] at hT
  ·rfl
 ·simp only [Env.re]; rw [h2.fresh b o hb]; rfl
 ·exact h2.n
 ·exact RO.to (E := E') ⟨fun b o h => by simp only [Env.re]; rw [h]; rfl, fun b o h => by simp only [Env.re]; rw [h]; rfl, rfl, rfl, rfl, rfl⟩ (fun j b o h => by simp only [Env.re]; rw [h]; rfl) (h2.P8 i ob hi)
 ·match us with
  | [] => rfl
  | [u] => rfl
  | u :: u' :: us => rfl
 ·intro i k d v e1 e2 e3
  have I4 : i < s.results.length := (List.getElem?_eq_some_iff.1 e1).1;have e4 : fn.results.toList[i]? = some (fn.results.toList[i]'(by omega)) := List.getElem?_eq_getElem (by omega)
  have a1 := q3 i k _ d v e1 e4 e2 e3;cases k with
  | val => exact (show RV _ _ _ _ from a1).mono I8
  | own =>
    obtain ⟨t, ht, LV, rfl, rfl⟩ := a1;obtain ⟨rfl, hp⟩ := B1Q i _ _ e1 rfl e4;rw [ht] at hp;simp only [A1W] at hp;have hR : RR E' w'.heap 0 t (st2.get t).1 (st2.get t).2 (a'.tmps.getD t undef) := h2.src (P := C.P) (t := 0) (x := .tmp t) rfl;have hR2 : RR (E'.re (a_ g i)) w'.heap 3 i (st2.get t).1 (st2.get t).2 (a'.tmps.getD t undef) :=
     hR.re rfl rfl fun b => by simp [a_, ← hp]
    show J8 _ _ (.sp 3 i 0) _ .own _
    exact A5K LV (hR2.wL (fun ms h => by rw [h] at LV; simp [KO] at LV) fun ms h => by rw [h] at LV; simp [KO] at LV)
  | ptr =>
    obtain ⟨t, ht, hd, rfl⟩ := a1;have hR : RR E' w'.heap 0 t (st2.get t).1 (st2.get t).2 (a'.tmps.getD t undef) := h2.src (P := C.P) (t := 0) (x := .tmp t) rfl
    show J8 _ _ .other (KT .ptr d).1 (KT .ptr d).2 _
    unfold A5F at hd
    split at hd
    ·rename_i n hm
     simp only [Option.some.injEq] at hd;subst hd;rw [hm] at hR;exact hR
    ·rename_i hm
     simp only [Option.some.injEq] at hd;subst hd;rw [hm] at hR;exact ⟨rfl, hR.2⟩
    ·cases hd
  | S_ n os =>
    obtain ⟨p, t, s', cs, ht, hm, hb, hn, p9, rfl, c, T, hc1, rfl⟩ := a1;obtain ⟨rfl, hp⟩ := B1Q i _ _ e1 rfl e4;rw [ht] at hp;simp only [A1W, hm] at hp;obtain ⟨c', T', b1, b2, b3, b4⟩ := h2.boxes s' cs hb;rw [hc1] at b1;simp only [Option.some.injEq, Obj.cells.injEq] at b1;obtain ⟨rfl, rfl, -⟩ := b1;simp only [A7C, RR];refine ⟨_, c, rfl, rfl, by simp [hn], by simp [hn, b2], fun j m' d' u e1 e2 e3 => ?_⟩
    simp only [List.getElem?_map, Option.map_eq_some_iff] at e1 e2;obtain ⟨j', Dq, rfl⟩ := e1;obtain ⟨r, hr, rfl⟩ := e2;have hjj : j' = j := by
     have := (List.getElem?_eq_some_iff.1 Dq);obtain ⟨_, hh⟩ := this;simpa using hh.symm
    subst hjj;obtain ⟨x1, x2, x3, x4⟩ := b4 j' r u hr e3;have x5 : J8 (E'.re (a_ g i)) w'.heap (.sp 3 i (j' + 1)) r.1 r.2 u := x4.re rfl (by simp [a_, ← hp])
    have x6 := A1a p9 hr;rw [Nat.zero_add] at x6
    by_cases hos : os.contains j' = true
    ·rw [if_pos hos] at x6 ⊢
     exact ⟨x1, x2, rfl, A5K x6 x5⟩
    ·rw [if_neg hos] at x6 ⊢
     refine ⟨x1, x2, rfl, ?_⟩;exact g_ (B0D x6 x3) x5
theorem lu {fn : Func} {s : Z8} {q : List DV × List D7} {out : Out} {E E' : Env} {st' : St} {a' : Act} {w : World} (h1 : BK C.P fn s out st' = some q) : (∃ i, out = .exit i → False) ∧ (out = .normal ∨ out = .ret) ∧ ∀ (w' : World), I9 E' st' a' w'.heap → Pr J6 E w.heap E' w'.heap → P9 w w' → ∃ v, (results fn a'.tmps).run C.P w' = .ok v w' ∧ h_ E w s q (.returned v) w' := by
 cases out with
 | exit i => simp [BK] at h1
 | normal =>
   simp only [BK] at h1;obtain ⟨k0, h1⟩ := F6 h1;obtain ⟨ds', k1, k2⟩ := A9 h1;simp only [Option.some.injEq] at k2;exact ⟨⟨0, by simp⟩, .inl rfl, fun w' h2 h3 h4 => A7t (by simpa using k0) k1 k2.symm w' h2 h3 h4⟩
 | ret =>
   simp only [BK] at h1;obtain ⟨k0, h1⟩ := F6 h1;obtain ⟨ds', k1, k2⟩ := A9 h1;simp only [Option.some.injEq] at k2;exact ⟨⟨0, by simp⟩, .inr rfl, fun w' h2 h3 h4 => A7t (by simpa using k0) k1 k2.symm w' h2 h3 h4⟩
theorem B4A {f : FuncId} {fn : Func} {c : Code} {s : Z8} {rs : List (DV × Meta)} {sg : List D7} {q : List DV × List D7} (hm : C.P.follows .mixedOrders = true) (hO : Ce C R) (hf : C.P.funcs[f]? = some fn) (hb : fn.body = some c)
 (H : R5 C R (C.fl f) c (BK C.P fn s) (F5 fn rs sg) = some q) : A7D C.P f s rs sg q := by
 intro E w vs jf hn ho hl hr;refine (callsIn_wide (n := 0)).1 (callsIn_of_wp_marks hf hb trivial (Iy hm hO c (.inl rfl) H (lK jf hn ho hl hr) fun out E' st' a' w1 h1 h0 YG um wo => ?_))
 obtain ⟨ms, e0, M, -⟩ := h0;rw [List.append_nil] at e0;obtain ⟨-, ho, fin⟩ := lu (E := E) (E' := E') (a' := a') (w := w) h1;have : LeavesInM Fence.wide 0 C.P fn a'.tmps (h_ E w s q) a'.defers .returning w1 := by
  rw [e0];exact UQ fin ms w1 M YG um wo
 rcases ho with rfl | rfl <;> exact this
theorem B2X {f : FuncId} {fn : Func} {c : Code} {s : Z8} {rs : List (DV × Meta)} {sg : List D7} {q : List DV × List D7} (hm : C.P.follows .mixedOrders = true) (hO : Ce C R) (hf : C.P.funcs[f]? = some fn) (hb : fn.body = some c) (hp : O7 c = true)
 (H : R5 C R (C.fl f) c (BK C.P fn s) (F5 fn rs sg) = some q) : A8V C.P f s rs sg q := by
 intro E w vs jf hn ho hl hr u;refine callsDIn_of_wp hf hb trivial (Iy (ro := none) (n := 0) hm hO c (.inl rfl) H (lK jf hn ho hl hr) fun out E' st' a' w1 h1 h0 YG um wo => ?_)
 obtain ⟨-, ho, fin⟩ := lu (E := E) (E' := E') (a' := a') (w := w) h1;have hd : a'.defers = [] := h0.plain hp;obtain ⟨v, g1, g2⟩ := fin w1 YG um wo;rcases ho with rfl | rfl <;> exact ⟨hd, v, g1, g2⟩
def A8T (c : Code) (p : Yz) : Prop := c = BQ p.pre (.seq (.seq p.r (.cond p.c (.seq p.a (.region p.id (p.ops ++ [p.Wh]).toArray false)) .skip)) p.post) ∧ O7 c = true
theorem A3I (hm : C.P.follows .mixedOrders = true) (hO : Ce C R) {fl : Flags} {r B D : Code} : ∀ (ps : List Code) {n : Nat} {K : Out → St → Option X} {st : St} {x : X} {E : Env} {a : Act} {w : World} {Q : Exit → Act → World → Prop},
 R5 C R fl (BQ (ps ++ [r]) .skip) K st = some x → I9 E st a w.heap →
 (∀ out E' st' a' w', out ≠ .normal → K out st' = some x → Left (BQ (ps ++ [r]) .skip) w.heap.size E' w'.heap a.defers a'.defers → I9 E' st' a' w'.heap → Pr J6 E w.heap E' w'.heap → P9 w w' → Q out.XI a' w') →
 (∀ E' st' a' w', K .normal st' = some x → Left (BQ (ps ++ [r]) .skip) w.heap.size E' w'.heap a.defers a'.defers → I9 E' st' a' w'.heap → Pr J6 E w.heap E' w'.heap → P9 w w' → B.wpIn (QO none) n C.P (Exit.then (D.wpIn (QO none) n C.P Q) Q) a' w') → (BQ ps (.seq (.seq r B) D)).wpIn (QO none) n C.P Q a w
 | [], n, K, st, x, E, a, w, Q, H, Rl, T, N => by
   have hp : O7 (.seq r .skip) = true → O7 r = true := fun h => by simpa [O7] using h
   refine wpIn_seq (wpIn_seq (Iy hm hO r (.inl rfl) H Rl fun out E' st' a' w' h1 h0 h2 h3 h4 => ?_))
   obtain ⟨ms, q1, q2, q3⟩ := h0;cases out with
   | normal => exact N E' st' a' w' h1 ⟨ms, q1, q2, fun h => q3 (hp h)⟩ h2 h3 h4
   | exit i => exact T (.exit i) E' st' a' w' (by simp) h1 ⟨ms, q1, q2, fun h => q3 (hp h)⟩ h2 h3 h4
   | ret => exact T .ret E' st' a' w' (by simp) h1 ⟨ms, q1, q2, fun h => q3 (hp h)⟩ h2 h3 h4
 | p :: ps, n, K, st, x, E, a, w, Q, H, Rl, T, N => by
   have hp : O7 (.seq p (BQ (ps ++ [r]) .skip)) = true → O7 p = true ∧ O7 (BQ (ps ++ [r]) .skip) = true := fun h => by simpa [O7] using h
   refine wpIn_seq (Iy hm hO p (.inl rfl) H Rl fun out E' st' a' w' h1 h0 h2 h3 h4 => ?_)
   obtain ⟨ms, q1, q2, q3⟩ := h0;have join : ∀ {E2 : Env} {a2 : Act} {w2 : World}, Left (BQ (ps ++ [r]) .skip) w'.heap.size E2 w2.heap a'.defers a2.defers → Pr J6 E' w'.heap E2 w2.heap → Left (BQ (p :: ps ++ [r]) .skip) w.heap.size E2 w2.heap a.defers a2.defers := by
    rintro E2 a2 w2 ⟨ns, p1, p2, p3⟩ k3;exact ⟨ns ++ ms, by rw [p1, q1, List.append_assoc], p2.append q2 k3 h3.size, fun h => by rw [p3 (hp h).2, q3 (hp h).1]; rfl⟩
   cases out with
   | normal =>
     exact A3I hm hO ps h1 (h2.clean fl _) (fun out E2 st2 a2 w2 hn k1 k0 k2 k3 k4 => T out E2 st2 a2 w2 hn k1 (join k0 k3) k2 (h3.trans k3) (h4.trans k4))
      fun E2 st2 a2 w2 k1 k0 k2 k3 k4 => N E2 st2 a2 w2 k1 (join k0 k3) k2 (h3.trans k3) (h4.trans k4)
   | exit i => exact T (.exit i) E' st' a' w' (by simp) h1 ⟨ms, q1, q2, fun h => q3 (hp h).1⟩ h2 h3 h4
   | ret => exact T .ret E' st' a' w' (by simp) h1 ⟨ms, q1, q2, fun h => q3 (hp h).1⟩ h2 h3 h4
theorem zu : ∀ (ps : List Code) (r B D : Code), O7 (BQ ps (.seq (.seq r B) D)) = true → O7 (BQ (ps ++ [r]) .skip) = true ∧ O7 B = true ∧ O7 D = true
 | [], r, B, D, h => by
   simp only [BQ, O7, Bool.and_eq_true, List.nil_append] at h ⊢;exact ⟨⟨h.1.1, trivial⟩, h.1.2, h.2⟩
 | p :: ps, r, B, D, h => by
   simp only [BQ, O7, Bool.and_eq_true, List.cons_append] at h ⊢;obtain ⟨h1, h2⟩ := zu ps r B D h.2;exact ⟨⟨h.1, h1⟩, h2⟩
theorem B3e {E E' : Env} {h h' : Heap} (P : Pr J6 E h E' h') (jf : ∀ b o, h.size ≤ b → E.O b o = .other) {k a : Nat} {r : DV × Meta} {v : Value} (R : RR E h k a r.1 r.2 v) (k' a' : Nat) : RR E' h' k' a' (Ue (r.1, Px r.2)).1 (Ue (r.1, Px r.2)).2 v :=
 (A9l R).stay (P.shut (by simp [J6]) jf) P.n fun i hi => (P.P8 i hi).1
theorem A8v {f : FuncId} {fn : Func} {c : Code} {s : Z8} {p : Yz} {rs : List (DV × Meta)} {sg : List D7} {q : List DV × List D7} (hm : C.P.follows .mixedOrders = true) (hO : Ce C R) (hf : C.P.funcs[f]? = some fn) (hb : fn.body = some c) (hc : A8T c p)
 (H : R5 C R (C.fl f) (BQ (p.pre ++ [p.r]) .skip) (Qm C R (C.fl f) p (BK C.P fn s) (TC R (BK C.P fn s))) (F5 fn rs sg) = some q) : A7D C.P f s rs sg q := by
 intro E w vs jf hn ho hl hr;obtain ⟨QK, aX⟩ := hc;rw [QK] at aX;obtain ⟨pl1, pl2, plp⟩ := zu _ _ _ _ aX;have pla : O7 p.a = true := by simpa [O7] using pl2
 have vT : ∀ {out : Out} {E' : Env} {st' : St} {a' : Act} {w1 : World}, BK C.P fn s out st' = some q → a'.defers = [] → I9 E' st' a' w1.heap → Pr J6 E w.heap E' w1.heap → P9 w w1 → bodyPostM Fence.wide 0 C.P fn (h_ E w s q) out.XI a' w1 := by
  intro out E' st' a' w1 h1 hd h2 h3 h4;obtain ⟨-, ho, fin⟩ := lu (E := E) (E' := E') (a' := a') (w := w) h1;have : LeavesInM Fence.wide 0 C.P fn a'.tmps (h_ E w s q) a'.defers .returning w1 := by
   rw [hd];obtain ⟨v, g1, g2⟩ := fin w1 h2 h3 h4;exact ⟨v, g1, g2⟩
  rcases ho with rfl | rfl <;> exact this
 refine (callsIn_wide (n := 0)).1 (callsIn_of_wp_marks hf (hb.trans (congrArg some QK)) trivial (A3I hm hO p.pre H (lK jf hn ho hl hr) (fun out E1 st1 a1 w1 hnn h1 h0 h2 h3 h4 => ?_) fun E1 st1 a1 w1 h1 h0 h2 h3 h4 => ?_))
 ·cases out with
  | normal => exact absurd rfl hnn
  | exit i => simp [Qm] at h1
  | ret => exact vT h1 (h0.plain pl1) h2 h3 h4
 ·have hd1 : a1.defers = [] := h0.plain pl1
  simp only [Qm, Wl] at h1;obtain ⟨r, k1, h1⟩ := A9 h1;obtain ⟨k2, h1⟩ := F6 h1;have e1 := (h2.src k1).data k2;have fin : (r.1 = .bool true ∧ R5 C R (C.fl f) p.a (fun o st => match o with
   | .normal => Bh C R (C.fl f) (p.ops ++ [p.Wh]) p.ops (Ez (C.fl f) p.id st) fun st => ob (Yu C p.Wh st) fun q => R5 C R (C.fl f) p.post (TC R (BK C.P fn s) q) (clean (C.fl f) p.post st)
   | .exit _ => none
   | .ret => BK C.P fn s .ret st) (clean (C.fl f) p.a st1) = some q) ∨ (r.1 = .bool false ∧ R5 C R (C.fl f) p.post (BK C.P fn s) (clean (C.fl f) p.post st1) = some q) := by
   cases hy : p.c with
   | tmp t =>
     rw [hy] at k1 h1;simp only [src, Option.some.injEq] at k1;subst k1;simp only at h1;rcases Nn h1 with ⟨h3, h4⟩ | ⟨h3, h4⟩
     ·rw [EF h3 (by simp)] at h4
      exact .inl ⟨h3, h4⟩
     ·rw [EF h3 (by simp)] at h4
      exact .inr ⟨h3, h4⟩
   | _ => rw [hy] at h1; exact Nn h1
  clear h1;rcases fin with ⟨g1, g2⟩ | ⟨g1, g2⟩
  ·rw [g1] at e1
   simp only [RV] at e1;refine wpIn_cond_true e1 (wpIn_seq (Iy hm hO p.a (.inl rfl) g2 (h2.clean _ p.a) fun out E2 st2 a2 w2 k1 k0 k2 k3 k4 => ?_))
   have Kk : a2.defers = [] := (k0.plain pla).trans hd1;cases out with
   | exit i => simp at k1
   | ret => exact vT k1 Kk k2 (h3.trans k3) (h4.trans k4)
   | normal =>
     simp only at k1;refine wpIn_region ?_;have hls : List.range (p.ops ++ [p.Wh]).toArray.size = List.range' 0 p.ops.length ++ [p.ops.length] := by
      rw [List.range_eq_range'];simp only [List.size_toArray, List.length_append, List.length_cons, List.length_nil, Nat.zero_add];rw [List.range'_concat];simp
     rw [hls];refine A7x hO (os := p.ops) (i := 0) (fun j o hj => by
      rw [Nat.zero_add, List.getElem?_append_left (List.getElem?_eq_some_iff.1 hj).1]; exact hj) k1 (k2.Ez _ _) fun E3 st3 a3 w3 l1 l0 l2 l3 l4 => ?_
     obtain ⟨g, m1, l1⟩ := A9 l1;have hd3 : a3.defers = [] := l0.trans Kk;have D8 : (p.ops ++ [p.Wh]).toArray[p.ops.length]? = some p.Wh := by simp
     unfold Yu at m1
     split at m1
     ·rename_i cl Uq
      split at m1
      ·rename_i fg hfg
       obtain ⟨rs', n1, m1⟩ := A9 m1;obtain ⟨n2, m1⟩ := F6 m1;simp only [Option.some.injEq] at m1;subst m1;simp only [Bool.and_eq_true, Option.isNone_iff_eq_none] at n2;obtain ⟨⟨⟨hdf, hgd⟩, Hl⟩, Q4⟩ := n2;obtain ⟨s1, s2⟩ := wH l2 n1;have B6o : (p.Wh.semAt (QO none).round a3.eval).run C.P w3 = .ok (.defer { target := .fn (.func fg) #[], args := cl.args.map a3.eval }) w3 := by
        show (p.Wh.semAt none a3.eval).run C.P w3 = _
        rw [Oper.semAt_none];simp only [execOp, Uq, resolve, hfg, Sem.run_bind];simp [Deferred.ofValue, Act.eval]
       rw [wpOpsIn_cons];unfold wpOpIn;simp only [D8];rw [if_pos (by simp [Region.wanted, hgd])]
       refine ⟨fun _ _ => trivial, ?_⟩
       rw [B6o, Oper.uponIn_defer, Hl];simp only [wpOpsIn];have R4 : I9 E3 st3 { a3 with defers := { target := .fn (.func fg) #[], args := cl.args.map a3.eval } :: a3.defers } w3.heap := ⟨l2.size, l2.AZ, l2.Ca, l2.n, l2.regs, l2.boxes, l2.P8, l2.fresh⟩
       refine Iy hm hO p.post (.inl rfl) l1 (R4.clean _ p.post) fun out E5 st5 a5 w5 z1 z0 z2 z3 z4 => ?_
       have hd5 : a5.defers = [{ target := .fn (.func fg) #[], args := cl.args.map a3.eval }] := by
        rw [z0.plain plp, hd3];rfl
       have key : (out = .normal ∨ out = .ret) ∧ ∃ pq, R.r fg (rs'.map fun r => Ue (r.1, Px r.2)) st5.sg = some pq ∧ BK C.P fn s out { st5 with sg := pq.2 } = some q := by
        cases out with
        | exit i => simp [TC] at z1
        | normal => obtain ⟨pq, y1, y2⟩ := A9 z1; exact ⟨.inl rfl, pq, y1, y2⟩
        | ret => obtain ⟨pq, y1, y2⟩ := A9 z1; exact ⟨.inr rfl, pq, y1, y2⟩
       obtain ⟨Nh, pq, y1, y2⟩ := key;obtain ⟨s', DZ, hgo, hD⟩ := hO.d fg _ _ _ hdf y1;obtain ⟨c1, c2, c3⟩ := B0w z2;have B58 : ∀ (i : Nat) r v, (rs'.map fun r => Ue (r.1, Px r.2))[i]? = some r → (cl.args.map a3.eval).toList[i]? = some v → RR (E5.re O4) w5.heap 0 i r.1 r.2 v := by
        intro i r v hr hv;simp only [List.getElem?_map, Option.map_eq_some_iff] at hr;obtain ⟨r0, CW, rfl⟩ := hr;obtain ⟨y, t, -, -, -, hRy⟩ := s2 i r0 v CW (by simpa using hv)
        have := B3e z3 l2.fresh hRy 4 i;exact this.re rfl rfl fun b => rfl
       have A9x := hD (E5.re O4) w5 (cl.args.map a3.eval).toList c1 c2 c3 (by simp [s1]) B58 .returning
       have B3T : LeavesInM Fence.wide 0 C.P fn a5.tmps (h_ E w s q) a5.defers .returning w5 := by
        rw [hd5];refine ⟨by simp, .inr ⟨fun h => by simp [Fence.wide] at h, .func fg, #[], fg, cl.args.map a3.eval, rfl, ?_, fun _ _ => trivial, ?_⟩⟩
        ·simp only [invoke, Array.append_empty]
         exact bB hgo _ _
        ·rw [Array.toArray_toList] at A9x
         refine A9x.mono ?_;rintro e u' w6 ⟨rfl, ho6, v6, E6, rfl, P6, f6, n6, o6, -⟩;obtain ⟨E7, R7, P7⟩ := A83 z2 P6 f6 n6 o6;obtain ⟨-, -, fin⟩ := lu (E := E) (E' := E7) (a' := a5) (w := w) y2;obtain ⟨v, x1, x2⟩ := fin w6 R7 ((h3.trans k3).trans (l3.trans (z3.trans P7))) ((h4.trans k4).trans (l4.trans (z4.trans ho6)));exact ⟨v, x1, x2⟩
       rcases Nh with rfl | rfl <;> exact B3T
      ·cases m1
     ·cases m1
  ·rw [g1] at e1
   simp only [RV] at e1;refine wpIn_cond_false e1 (wpIn_skip (Iy hm hO p.post (.inl rfl) g2 (h2.clean _ p.post) fun out E2 st2 a2 w2 k1 k0 k2 k3 k4 => ?_))
   exact vT k1 ((k0.plain plp).trans hd1) k2 (h3.trans k3) (h4.trans k4)
end
structure A0J (C : V6) : Prop where
 mixed : C.P.follows .mixedOrders = true
 go : ∀ (f : Nat) fn, C.P.funcs[f]? = some fn → fn.name ≠ "runtime.NumGoroutine"
 gT : ∀ f p, C.gT f = some p → ∀ fn c, C.P.funcs[f]? = some fn → fn.body = some c → A4l C.P c p
 clone : ∀ f, C.clone f = true → isGo C.P f = true ∧ A7b C.P f (C.nH f)
 dh : ∀ f g, C.dh f = some g → isGo C.P f = true ∧ A7B C.P f g (C.nH f)
 iter : ∀ g it, C.iter g = some it → isGo C.P g = true ∧ A0K C.P g it
 XR : ∀ f p, C.XR f = some p → ∀ fn c, C.P.funcs[f]? = some fn → fn.body = some c → A8T c p := by exact fun f p h => by cases h
 dfn : ∀ f, C.dfn f = true → C.XR f = none ∧ ∀ fn c, C.P.funcs[f]? = some fn → fn.body = some c → O7 c = true := by exact fun f h => by cases h
theorem wu {C : V6} (hC : A0J C) {f : Nat} {fn : Func} {c : Code} (hf : C.P.funcs[f]? = some fn) (hb : fn.body = some c) : isGo C.P f = true := by
 unfold isGo;rw [hf];simp [hC.go f fn hf, hb]
theorem step_ok {C : V6} {R : N7} (hC : A0J C) (hO : Ce C R) : Ce C (Ba C R) := by
 refine ⟨fun f ds d H => ?_, fun f rs sg q H => ?_, hC.clone, hC.dh, hC.iter, fun f rs sg q hd H => ?_⟩
 ·simp only [Ba] at H
  obtain ⟨fn, hf, H⟩ := A9 H;obtain ⟨c, hb, H⟩ := A9 H;exact ⟨wu hC hf hb, pure_ok hC.mixed hO hf hb (fun p hp => hC.gT f p hp fn c hf hb) H⟩
 ·simp only [Ba] at H
  obtain ⟨s, hs, H⟩ := A9 H;obtain ⟨fn, hf, H⟩ := A9 H;obtain ⟨c, hb, H⟩ := A9 H;cases hp : C.XR f with
  | none =>
    rw [hp] at H;exact ⟨s, hs, wu hC hf hb, B4A hC.mixed hO hf hb H⟩
  | some p =>
    rw [hp] at H;exact ⟨s, hs, wu hC hf hb, A8v hC.mixed hO hf hb (hC.XR f p hp fn c hf hb) H⟩
 ·simp only [Ba] at H
  obtain ⟨s, hs, H⟩ := A9 H;obtain ⟨fn, hf, H⟩ := A9 H;obtain ⟨c, hb, H⟩ := A9 H;obtain ⟨h1, h2⟩ := hC.dfn f hd;rw [h1] at H;exact ⟨s, hs, wu hC hf hb, B2X hC.mixed hO hf hb (h2 fn c hf hb) H⟩
theorem xD {C : V6} (hC : A0J C) : ∀ n, Ce C (KS C n)
 | 0 => ⟨fun f ds d H => by simp [KS] at H, fun f rs sg q H => by simp [KS] at H, hC.clone, hC.dh, hC.iter, fun f rs sg q _ H => by simp [KS] at H⟩
 | n + 1 => step_ok hC (xD hC n)
theorem B4E {C : V6} (hC : A0J C) : Ce C (run C) := by
 have hr : ∀ f rs sg q, (run C).r f rs sg = some q → ∃ n, (KS C n).r f rs sg = some q := fun f rs sg q H => by
  simp only [run] at H
  split at H
  ·rename_i h
   simp only [Option.some.injEq] at H;obtain ⟨n, hn⟩ := h.choose_spec;rw [H] at hn;exact ⟨n, hn⟩
  ·cases H
 refine ⟨fun f ds d H => ?_, fun f rs sg q H => ?_, hC.clone, hC.dh, hC.iter, fun f rs sg q hd H => ?_⟩
 ·simp only [run] at H
  split at H
  ·rename_i h
   simp only [Option.some.injEq] at H;obtain ⟨n, hn⟩ := h.choose_spec;rw [H] at hn;exact (xD hC n).p f ds d hn
  ·cases H
 ·obtain ⟨n, hn⟩ := hr f rs sg q H
  exact (xD hC n).r f rs sg q hn
 ·obtain ⟨n, hn⟩ := hr f rs sg q H
  exact (xD hC n).d f rs sg q hd hn
end Go.Su

/-
 THE DATA MACHINE, part 28: more is known of the functions that are called: more comes out.
-/
namespace Go.Su
structure Le (R R' : N7) : Prop where
 p : ∀ f ds d, R.p f ds = some d → R'.p f ds = some d
 r : ∀ f rs sg q, R.r f rs sg = some q → R'.r f rs sg = some q
theorem Le.refl (R : N7) : Le R R := ⟨fun _ _ _ h => h, fun _ _ _ _ h => h⟩
theorem Le.trans {R S T : N7} (a : Le R S) (b : Le S T) : Le R T := ⟨fun f ds d h => b.p f ds d (a.p f ds d h), fun f rs sg q h => b.r f rs sg q (a.r f rs sg q h)⟩
section
variable {C : V6} {R : N7} {fl : Flags} {o : Oper} {st s : St}
theorem A3k (H : I1 C R fl o st some = some s) : (∀ R' : N7, I1 C R' fl o st some = some s) ∨
 (∃ f ds d, R.p f ds = some d ∧ ∀ R' : N7, R'.p f ds = some d → I1 C R' fl o st some = some s) ∨
 (∃ f rs sg q, R.r f rs sg = some q ∧ ∀ R' : N7, R'.r f rs sg = some q → I1 C R' fl o st some = some s) := by
 have H0 := H;unfold I1 at H
 split at H
 case h_24 c D8 =>
  unfold EN at H
  split at H
  ·rename_i b hb
   refine .inl fun R' => ?_
   rw [← H0];simp only [I1, D8, EN, hb]
  ·rename_i y hy
   obtain ⟨r, h1, H⟩ := A9 H;obtain ⟨rs, h2, H⟩ := A9 H
   split at H
   ·rename_i g caps hm
    have Fh : ∀ R' : N7, I1 C R' fl o st some = IQ C R' o g c.args.toList (rs ++ caps.map fun m => (.undef, .ptr m.1 m.2)) st some := by
     intro R';simp only [I1, D8, EN, hy, h1, h2, K3, hm]
    generalize rs ++ caps.map (fun m => ((.undef, .ptr m.1 m.2) : DV × Meta)) = rs' at H Fh
    by_cases Uq : C.clone g = true
    ·refine .inl fun R' => ?_
     rw [← H0, Fh, Fh];simp only [IQ, if_pos Uq]
    ·unfold IQ at H
     rw [if_neg Uq] at H;cases zh : C.dh g with
     | some g' =>
       refine .inl fun R' => ?_
       rw [← H0, Fh, Fh];simp only [IQ, if_neg Uq, zh]
     | none =>
     rw [zh] at H;simp only at H
     split at H
     ·rename_i hs
      obtain ⟨h3, H⟩ := F6 H;obtain ⟨d, h4, H⟩ := A9 H;refine .inr (.inl ⟨g, _, d, h4, fun R' h => ?_⟩)
      rw [Fh];simp only [IQ, if_neg Uq, zh, hs, h3, U7, h, K3];exact H
     ·rename_i sg hs
      obtain ⟨h3, H⟩ := F6 H;obtain ⟨q, h4, H⟩ := A9 H;refine .inr (.inr ⟨g, _, _, q, h4, fun R' h => ?_⟩)
      rw [Fh];simp only [IQ, if_neg Uq, zh, hs, h3, U7, h, K3];exact H
   ·simp at H
  ·simp at H
 all_goals first
  | (simp at H; done)
  | (rename_i D8
     refine .inl fun R' => ?_
     rw [← H0];simp only [I1, D8])
theorem A3l {R' : N7} (hR : Le R R') (H : I1 C R fl o st some = some s) : I1 C R' fl o st some = some s := by
 rcases A3k H with h | ⟨f, ds, d, h1, h2⟩ | ⟨f, rs, sg, q, h1, h2⟩
 ·exact h R'
 ·exact h2 R' (hR.p _ _ _ h1)
 ·exact h2 R' (hR.r _ _ _ _ h1)
structure gZ (Rs : Nat → N7) (R : N7) : Prop where
 up : ∀ n, Le (Rs n) (Rs (n + 1))
 p : ∀ f ds d, R.p f ds = some d → ∃ n, (Rs n).p f ds = some d
 r : ∀ f rs sg q, R.r f rs sg = some q → ∃ n, (Rs n).r f rs sg = some q
theorem gZ.le {Rs : Nat → N7} (L : gZ Rs R) {n m : Nat} (h : n ≤ m) : Le (Rs n) (Rs m) := by
 induction m with
 | zero => rw [Nat.le_zero.1 h]; exact Le.refl _
 | succ m ih =>
   rcases Nat.lt_or_ge m n with h1 | h1
   ·rw [show n = m + 1 by omega]; exact Le.refl _
   ·exact (ih h1).trans (L.up m)
theorem A4X {Rs : Nat → N7} (L : gZ Rs R) (H : I1 C R fl o st some = some s) : ∃ n, I1 C (Rs n) fl o st some = some s := by
 rcases A3k H with h | ⟨f, ds, d, h1, h2⟩ | ⟨f, rs, sg, q, h1, h2⟩
 ·exact ⟨0, h _⟩
 ·obtain ⟨n, hn⟩ := L.p _ _ _ h1; exact ⟨n, h2 _ hn⟩
 ·obtain ⟨n, hn⟩ := L.r _ _ _ _ h1; exact ⟨n, h2 _ hn⟩
variable {ops : List Oper}
theorem X3.mono {R' : N7} {s1 : St} (hR : Le R R') (H : X3 C R fl ops o s s1) : X3 C R' fl ops o s s1 := by
 unfold X3 at H ⊢
 split at H
 ·exact A3l hR H
 ·obtain ⟨t, h1, h2, h3⟩ := H
  exact ⟨t, h1, h2, h3.imp (fun h => ⟨h.1, A3l hR h.2⟩) id⟩
theorem X3.lim {Rs : Nat → N7} {s1 : St} (L : gZ Rs R) (H : X3 C R fl ops o s s1) : ∃ n, X3 C (Rs n) fl ops o s s1 := by
 unfold X3 at H ⊢
 split at H
 ·exact A4X L H
 ·obtain ⟨t, h1, h2, h3⟩ := H
  rcases h3 with ⟨h3, h4⟩ | h3
  ·obtain ⟨n, hn⟩ := A4X L h4
   exact ⟨n, t, h1, h2, .inl ⟨h3, hn⟩⟩
  ·exact ⟨0, t, h1, h2, .inr h3⟩
end
end Go.Su

/-
 THE DATA MACHINE, part 29: regions and code, when more is known.
-/
namespace Go.Su
section
variable {X : Type} {C : V6} {R : N7} {fl : Flags} {o : Oper} {st s : St} {ops : List Oper}
theorem wY {s1 : St} (H : I1 C R fl o st some = some s1) (k : St → Option X) : I1 C R fl o st k = k s1 := by
 obtain ⟨s, h1, h2⟩ := kv H;simp only [Option.some.injEq] at h1;subst h1;exact h2 X k
theorem B0J {os : List Oper} {s1 : St} (H : X3 C R fl ops o st s1) (k : St → Option X) : Bh C R fl ops (o :: os) st k = Bh C R fl ops os s1 k := by
 simp only [Bh, Yc];unfold X3 at H
 split at H
 ·rename_i hg
  simp only [hg];exact wY H _
 ·rename_i g want hg
  obtain ⟨t, h1, h2, h3⟩ := H;simp only [hg, h1, K3, h2, U7];rcases h3 with ⟨h3, h4⟩ | ⟨h3, h4⟩
  ·rw [h3]
   cases want <;> simp only [I6, if_true, Bool.false_eq_true, if_false] <;> rw [EF h3 (by simp)] <;> exact wY h4 _
  ·subst h4
   cases want <;> simp only [Bool.not_true, Bool.not_false] at h3 <;> rcases h3 with h3 | h3 <;> simp only [h3, I6, if_true, Bool.false_eq_true, if_false] <;> rw [EF h3 (by simp)]
theorem A9o {bf : List (List Nat)} {os : List Oper} {i : Nat} {acc : List (Nat × Fp)} {s1 : St} (H : X3 C R fl ops o st s1) (k : St → Option X) :
 CB C R fl ops bf (o :: os) i acc st k = og (Hu bf i acc ((Bb C fl ops o st).AP st s1)) (CB C R fl ops bf os (i + 1) ((i, (Bb C fl ops o st).AP st s1) :: acc) s1 k) := by
 have H0 := H;simp only [CB, Yc, A1E];unfold X3 at H
 split at H
 ·rename_i hg
  simp only [hg];rw [wY H, A47 hg];rfl
 ·rename_i g want hg
  obtain ⟨t, h1, h2, h3⟩ := H;rw [A48 hg h1];simp only [hg, h1, K3, h2, U7];rcases h3 with ⟨h3, h4⟩ | ⟨h3, h4⟩
  ·rw [if_pos (Yw.2 h3)]
   rw [h3];cases want <;> simp only [I6, if_true, Bool.false_eq_true, if_false, iL] <;> rw [EF h3 (by simp), wY h4] <;> rfl
  ·have hB : ¬ (qB want (st.get t).1 = true) := by
    rw [Yw];rcases h3 with h | h <;> rw [h] <;> cases want <;> simp
   rw [if_neg hB];subst h4;cases want <;> simp only [Bool.not_true, Bool.not_false] at h3 <;> rcases h3 with h3 | h3 <;> simp only [h3, I6, if_true, Bool.false_eq_true, if_false, VD] <;> rw [EF h3 (by simp)] <;> rfl
end
end Go.Su

/-
 THE DATA MACHINE, part 30: the code's answers are limits; the program's functions are what one step makes of them.
-/
namespace Go.Su
section
variable {X : Type} {C : V6} {fl : Flags}
def Co (p : Nat → Prop) : Prop := ∃ n, ∀ m, n ≤ m → p m
theorem Co.mono {p q : Nat → Prop} (h : Co p) (f : ∀ m, p m → q m) : Co q := h.imp fun _ h m hm => f m (h m hm)
theorem Co.and {p q : Nat → Prop} (h : Co p) (h' : Co q) : Co fun m => p m ∧ q m := by
 obtain ⟨n, hn⟩ := h;obtain ⟨k, hk⟩ := h';exact ⟨n + k, fun m hm => ⟨hn m (by omega), hk m (by omega)⟩⟩
theorem Co.all {p : Nat → Prop} (h : ∀ m, p m) : Co p := ⟨0, fun m _ => h m⟩
theorem tO {R : N7} {Rs : Nat → N7} (L : gZ Rs R) {ops : List Oper} {k : St → Option X} {ks : Nat → St → Option X} (hk : ∀ st x, k st = some x → Co fun m => ks m st = some x) :
 ∀ {os : List Oper} {st : St} {x : X}, Bh C R fl ops os st k = some x → Co fun m => Bh C (Rs m) fl ops os st (ks m) = some x
 | [], st, x, H => by
   simp only [Bh] at H ⊢;exact hk st x H
 | o :: os, st, x, H => by
   obtain ⟨s1, h1, h2⟩ := kw H;obtain ⟨n, hn⟩ := h1.lim L;refine (Co.and ⟨n, fun m hm => hn.mono (L.le hm)⟩ (tO L hk h2)).mono fun m h => ?_
   rw [B0J h.1];exact h.2
theorem A1y {R : N7} {Rs : Nat → N7} (L : gZ Rs R) {ops : List Oper} {bf : List (List Nat)} {k : St → Option X} {ks : Nat → St → Option X} (hk : ∀ st x, k st = some x → Co fun m => ks m st = some x) :
 ∀ {os : List Oper} {i : Nat} {acc : List (Nat × Fp)} {st : St} {x : X}, CB C R fl ops bf os i acc st k = some x → Co fun m => CB C (Rs m) fl ops bf os i acc st (ks m) = some x
 | [], i, acc, st, x, H => by
   simp only [CB] at H ⊢;exact hk st x H
 | o :: os, i, acc, st, x, H => by
   obtain ⟨s1, h1, h2, h3⟩ := zD H;obtain ⟨n, hn⟩ := h1.lim L;refine (Co.and ⟨n, fun m hm => hn.mono (L.le hm)⟩ (A1y L hk h3)).mono fun m h => ?_
   rw [A9o h.1, h2];exact h.2
theorem A6y {X : Type} {fl : Flags} {id : Nat} {st : St} {k : St → Option X} {x : X} (H : FO fl id st k = some x) : ∃ s, k s = some x ∧ ∀ (Y : Type) (k' : St → Option Y), FO fl id st k' = k' s := by
 unfold FO at H
 split at H
 ·rename_i e he
  unfold Yr at H
  split at H
  ·rename_i i sz len hm
   obtain ⟨q, h1, H⟩ := A9 H;obtain ⟨d, h2, H⟩ := A9 H;exact ⟨_, H, fun Y k' => by simp only [FO, he, Yr, hm, h1, h2, K3]⟩
  ·rename_i b off hm
   obtain ⟨cs, h1, H⟩ := A9 H;obtain ⟨a, h2, H⟩ := A9 H;obtain ⟨q, h3, H⟩ := A9 H;obtain ⟨d, h4, H⟩ := A9 H;exact ⟨_, H, fun Y k' => by simp only [FO, he, Yr, hm, h1, h2, h3, h4, K3]⟩
  ·cases H
 ·rename_i he
  exact ⟨st, H, fun Y k' => by simp only [FO, he]⟩
theorem yQ {X : Type} {fl : Flags} {id : Nat} {k : St → Option X} {ks : Nat → St → Option X} (hk : ∀ st x, k st = some x → Co fun m => ks m st = some x) (st : St) (x : X) (H : FO fl id st k = some x) : Co fun m => FO fl id st (ks m) = some x := by
 obtain ⟨s, h1, h2⟩ := A6y H;exact (hk s x h1).mono fun m h => by rw [h2]; exact h
theorem Oh : ∀ (c : Code) {R : N7} {Rs : Nat → N7} {K : Out → St → Option X} {Ks : Nat → Out → St → Option X} {st : St} {x : X}, gZ Rs R →
 (∀ o st x, K o st = some x → Co fun m => Ks m o st = some x) → R5 C R fl c K st = some x → Co fun m => R5 C (Rs m) fl c (Ks m) st = some x := by
 intro c
 induction c with
 | skip =>
   intro R Rs K Ks st x L hK H;simp only [R5] at H ⊢;exact hK _ _ _ H
 | region id ops d =>
   intro R Rs K Ks st x L hK H;cases d
   ·simp only [R5] at H ⊢
    exact tO L (yQ (hK .normal)) H
   ·simp only [R5, gI] at H ⊢
    obtain ⟨h1, H⟩ := F6 H;simp only [h1, U7];exact A1y L (yQ (hK .normal)) H
 | seq c d ihc ihd =>
   intro R Rs K Ks st x L hK H;simp only [R5] at H ⊢;refine ihc L ?_ H;intro o s y h;cases o with
   | normal => exact ihd L hK h
   | exit i => exact hK _ _ _ h
   | ret => exact hK _ _ _ h
 | cond y c d ihc ihd =>
   intro R Rs K Ks st x L hK H;simp only [R5, Wl] at H ⊢;obtain ⟨r, h1, H⟩ := A9 H;obtain ⟨h2, H⟩ := F6 H;simp only [h1, K3, h2, U7];cases y with
   | tmp t =>
     simp only at H ⊢;rcases Nn H with ⟨h3, h4⟩ | ⟨h3, h4⟩ <;> rw [h3]
     ·exact ihc L hK h4
     ·exact ihd L hK h4
   | _ =>
     rcases Nn H with ⟨h3, h4⟩ | ⟨h3, h4⟩ <;> rw [h3]
     ·exact ihc L hK h4
     ·exact ihd L hK h4
 | block id c ih =>
   intro R Rs K Ks st x L hK H;simp only [R5] at H ⊢;refine ih L ?_ H;intro o s y h;cases o with
   | normal => exact hK _ _ _ h
   | exit i =>
     simp only at h ⊢
     by_cases hi : i = id
     ·simp only [if_pos hi] at h ⊢; exact hK _ _ _ h
     ·simp only [if_neg hi] at h ⊢; exact hK _ _ _ h
   | ret => exact hK _ _ _ h
 | loop c ih =>
   intro R Rs K Ks st x L hK H;simp only [R5] at H ⊢;obtain ⟨n, H9⟩ := Yg H;clear H;have up : ∀ m, Co (fun m' => iter (fun J st => R5 C (Rs m) fl c (fun o st => match o with
    | .normal => J (clean fl c st)
    | .exit i => Ks m (.exit i) st
    | .ret => Ks m .ret st) st) m' (clean fl c st) = some x) → Fz (fun J st => R5 C (Rs m) fl c (fun o st => match o with
    | .normal => J (clean fl c st)
    | .exit i => Ks m (.exit i) st
    | .ret => Ks m .ret st) st) (clean fl c st) = some x := by
    intro m h;generalize clean fl c st = st9 at h ⊢;have mono : ∀ k s y, iter (fun J st => R5 C (Rs m) fl c (fun o st => match o with
     | .normal => J (clean fl c st)
     | .exit i => Ks m (.exit i) st
     | .ret => Ks m .ret st) st) k s = some y → iter (fun J st => R5 C (Rs m) fl c (fun o st => match o with
     | .normal => J (clean fl c st)
     | .exit i => Ks m (.exit i) st
     | .ret => Ks m .ret st) st) (k + 1) s = some y := by
     intro k
     induction k with
     | zero => intro s y h; simp [iter] at h
     | succ k ihk =>
       intro s y h;rw [iter] at h ⊢;have := ih (R := Rs m) (Rs := fun _ => Rs m) (Ks := fun _ o st => match o with
        | .normal => iter (fun J st => R5 C (Rs m) fl c (fun o st => match o with
     | .normal => J (clean fl c st)
     | .exit i => Ks m (.exit i) st
     | .ret => Ks m .ret st) st) (k + 1) (clean fl c st)
        | .exit i => Ks m (.exit i) st
        | .ret => Ks m .ret st) ⟨fun _ => Le.refl _, fun _ _ _ h => ⟨0, h⟩, fun _ _ _ _ h => ⟨0, h⟩⟩ ?_ h
       ·obtain ⟨n, hn⟩ := this
        exact hn n (Nat.le_refl _)
       ·intro o s y h
        refine Co.all fun _ => ?_
        cases o with
        | normal => exact ihk _ _ h
        | exit i => exact h
        | ret => exact h
    obtain ⟨k, hk⟩ := h;unfold Fz;have he : ∃ x n, iter (fun J st => R5 C (Rs m) fl c (fun o st => match o with
     | .normal => J (clean fl c st)
     | .exit i => Ks m (.exit i) st
     | .ret => Ks m .ret st) st) n st9 = some x := ⟨x, k, hk k (Nat.le_refl _)⟩
    rw [dif_pos he];obtain ⟨j, hj⟩ := he.choose_spec;have le : ∀ a b s y, a ≤ b → iter (fun J st => R5 C (Rs m) fl c (fun o st => match o with
     | .normal => J (clean fl c st)
     | .exit i => Ks m (.exit i) st
     | .ret => Ks m .ret st) st) a s = some y → iter (fun J st => R5 C (Rs m) fl c (fun o st => match o with
     | .normal => J (clean fl c st)
     | .exit i => Ks m (.exit i) st
     | .ret => Ks m .ret st) st) b s = some y := by
     intro a b s y jd h
     induction b with
     | zero => rw [Nat.le_zero.1 jd] at h; exact h
     | succ b ihb =>
       rcases Nat.lt_or_ge b a with h1 | h1
       ·rw [show b + 1 = a by omega]; exact h
       ·exact mono _ _ _ (ihb h1)
    have h1 := le j (j + k) _ _ (by omega) hj
    have h2 := le k (j + k) _ _ (by omega) (hk k (Nat.le_refl _))
    rw [h1] at h2;exact h2
   have main : Co fun m => Co fun m' => iter (fun J st => R5 C (Rs m) fl c (fun o st => match o with
    | .normal => J (clean fl c st)
    | .exit i => Ks m (.exit i) st
    | .ret => Ks m .ret st) st) m' (clean fl c st) = some x := by
    have lim : ∀ k s y, iter (fun J st => R5 C R fl c (fun o st => match o with
     | .normal => J (clean fl c st)
     | .exit i => K (.exit i) st
     | .ret => K .ret st) st) k s = some y → Co fun m => iter (fun J st => R5 C (Rs m) fl c (fun o st => match o with
     | .normal => J (clean fl c st)
     | .exit i => Ks m (.exit i) st
     | .ret => Ks m .ret st) st) k s = some y := by
     intro k
     induction k with
     | zero => intro s y h; simp [iter] at h
     | succ k ihk =>
       intro s y h;simp only [iter] at h ⊢;refine ih L ?_ h;intro o s y h;cases o with
       | normal => exact ihk _ _ h
       | exit i => exact hK _ _ _ h
       | ret => exact hK _ _ _ h
    obtain ⟨k, hk⟩ := lim n _ _ H9;refine ⟨k, fun m hm => ⟨n, fun m' Wv => ?_⟩⟩
    have h0 := hk m hm;have mono : ∀ k s y, iter (fun J st => R5 C (Rs m) fl c (fun o st => match o with
     | .normal => J (clean fl c st)
     | .exit i => Ks m (.exit i) st
     | .ret => Ks m .ret st) st) k s = some y → iter (fun J st => R5 C (Rs m) fl c (fun o st => match o with
     | .normal => J (clean fl c st)
     | .exit i => Ks m (.exit i) st
     | .ret => Ks m .ret st) st) (k + 1) s = some y := by
     intro k
     induction k with
     | zero => intro s y h; simp [iter] at h
     | succ k ihk =>
       intro s y h;rw [iter] at h ⊢;have := ih (R := Rs m) (Rs := fun _ => Rs m) (Ks := fun _ o st => match o with
        | .normal => iter (fun J st => R5 C (Rs m) fl c (fun o st => match o with
     | .normal => J (clean fl c st)
     | .exit i => Ks m (.exit i) st
     | .ret => Ks m .ret st) st) (k + 1) (clean fl c st)
        | .exit i => Ks m (.exit i) st
        | .ret => Ks m .ret st) ⟨fun _ => Le.refl _, fun _ _ _ h => ⟨0, h⟩, fun _ _ _ _ h => ⟨0, h⟩⟩ ?_ h
       ·obtain ⟨n, hn⟩ := this
        exact hn n (Nat.le_refl _)
       ·intro o s y h
        refine Co.all fun _ => ?_
        cases o with
        | normal => exact ihk _ _ h
        | exit i => exact h
        | ret => exact h
    induction m' with
    | zero => rw [Nat.le_zero.1 Wv] at h0; exact h0
    | succ b ihb =>
      rcases Nat.lt_or_ge b n with h1 | h1
      ·rw [show b + 1 = n by omega]; exact h0
      ·exact mono _ _ _ (ihb h1)
   exact main.mono up
 | rangeFunc g ps assign body iha ihb =>
   intro R Rs K Ks st x L hK H;simp only [R5] at H ⊢;have H9 := A1z H;clear H;obtain ⟨t, p, f, i, it, cs, cd, ds, rfl, h1, h2, h3, h4, h5, h6, h7, H⟩ := H9;simp only [h7, B0H h1 h2 h3 h4 h5 h6];clear h6;generalize st.sg.set i (.arr 1 []) = sg at H
   induction ds generalizing sg x with
   | nil => exact hK _ _ _ H
   | cons d ds ih =>
     simp only [KI] at H ⊢;refine iha L ?_ H;intro o s y h;cases o with
     | exit e => cases h
     | ret => cases h
     | normal =>
       refine ihb L ?_ h;intro o s y h;cases o with
       | normal => exact ih _ h
       | exit e => exact hK _ _ _ h
       | ret => exact hK _ _ _ h
 | exit id =>
   intro R Rs K Ks st x L hK H;simp only [R5] at H ⊢;exact hK _ _ _ H
 | ret =>
   intro R Rs K Ks st x L hK H;simp only [R5] at H ⊢;exact hK _ _ _ H
 | _ =>
   intro R Rs K Ks st x L hK H;simp [R5] at H
theorem gZ.B1M {R : N7} {Rs : Nat → N7} (L : gZ Rs R) {f : FuncId} {rs : List (DV × Meta)} {sg : List D7} {q : List DV × List D7} (h : R.r f rs sg = some q) : Co fun m => (Rs m).r f rs sg = some q := by
 obtain ⟨n, hn⟩ := L.r f rs sg q h;exact ⟨n, fun m hm => (L.le hm).r _ _ _ _ hn⟩
theorem A9k {X : Type} {fl : Flags} {R : N7} {Rs : Nat → N7} (L : gZ Rs R) {p : Yz} {K : Out → St → Option X} {Ks : Nat → Out → St → Option X} {D : FuncId × List (DV × Meta) → Out → St → Option X} {Ds : Nat → FuncId × List (DV × Meta) → Out → St → Option X}
 (hK : ∀ o st x, K o st = some x → Co fun m => Ks m o st = some x) (hD : ∀ q o st x, D q o st = some x → Co fun m => Ds m q o st = some x) {o : Out} {st : St} {x : X} (H : Qm C R fl p K D o st = some x) :
 Co fun m => Qm C (Rs m) fl p (Ks m) (Ds m) o st = some x := by
 cases o with
 | exit i => simp [Qm] at H
 | ret => exact hK _ _ _ H
 | normal =>
   simp only [Qm, Wl] at H ⊢;obtain ⟨r, h1, H⟩ := A9 H;obtain ⟨h2, H⟩ := F6 H;simp only [h1, K3, h2, U7];have A : ∀ st x, R5 C R fl p.a (fun o st => match o with
    | .normal => Bh C R fl (p.ops ++ [p.Wh]) p.ops (Ez fl p.id st) fun st => ob (Yu C p.Wh st) fun q => R5 C R fl p.post (D q) (clean fl p.post st)
    | .exit _ => none
    | .ret => K .ret st) (clean fl p.a st) = some x → Co fun m => R5 C (Rs m) fl p.a (fun o st => match o with
    | .normal => Bh C (Rs m) fl (p.ops ++ [p.Wh]) p.ops (Ez fl p.id st) fun st => ob (Yu C p.Wh st) fun q => R5 C (Rs m) fl p.post (Ds m q) (clean fl p.post st)
    | .exit _ => none
    | .ret => Ks m .ret st) (clean fl p.a st) = some x := by
    intro st x H;refine Oh p.a L (fun o st x h => ?_) H
    cases o with
    | exit i => cases h
    | ret => exact hK _ _ _ h
    | normal =>
      refine tO L (fun st x h => ?_) h
      obtain ⟨q, k1, k2⟩ := A9 h;simp only [k1, K3];exact Oh p.post L (hD q) k2
   have B : ∀ st x, R5 C R fl p.post K (clean fl p.post st) = some x → Co fun m => R5 C (Rs m) fl p.post (Ks m) (clean fl p.post st) = some x := fun st x H => Oh p.post L hK H
   cases hy : p.c with
   | tmp t =>
     rw [hy] at H;simp only at H ⊢;rcases Nn H with ⟨h3, h4⟩ | ⟨h3, h4⟩
     ·exact (A _ _ h4).mono fun m hm => by rw [h3]; exact hm
     ·exact (B _ _ h4).mono fun m hm => by rw [h3]; exact hm
   | _ =>
     rw [hy] at H;simp only at H ⊢;rcases Nn H with ⟨h3, h4⟩ | ⟨h3, h4⟩
     ·exact (A _ _ h4).mono fun m hm => by rw [h3]; exact hm
     ·exact (B _ _ h4).mono fun m hm => by rw [h3]; exact hm
theorem mG {R : N7} {Rs : Nat → N7} (L : gZ Rs R) : (∀ f ds d, (Ba C R).p f ds = some d → Co fun m => (Ba C (Rs m)).p f ds = some d) ∧
 (∀ f rs sg q, (Ba C R).r f rs sg = some q → Co fun m => (Ba C (Rs m)).r f rs sg = some q) := by
 constructor
 ·intro f ds d H
  simp only [Ba] at H ⊢;obtain ⟨fn, h1, H⟩ := A9 H;obtain ⟨c, h2, H⟩ := A9 H;simp only [h1, K3, h2];cases hq : C.gT f with
  | none =>
    rw [hq] at H;exact Oh c L (fun o st x h => Co.all fun _ => h) H
  | some p =>
    rw [hq] at H;refine Oh (BQ p.pre .skip) L (fun o st x h => ?_) H
    cases o with
    | exit i => simp [A2q] at h
    | ret => exact Co.all fun _ => h
    | normal =>
      simp only [A2q] at h ⊢;obtain ⟨st2, k1, k2⟩ := A9 h;simp only [k1, K3];exact Oh p.post L (fun o st x h => Co.all fun _ => h) k2
 ·intro f rs sg q H
  simp only [Ba] at H ⊢;obtain ⟨s, h0, H⟩ := A9 H;obtain ⟨fn, h1, H⟩ := A9 H;obtain ⟨c, h2, H⟩ := A9 H;simp only [h0, h1, K3, h2];cases hq : C.XR f with
  | none =>
    rw [hq] at H;exact Oh c L (fun o st x h => Co.all fun _ => h) H
  | some p =>
    rw [hq] at H;refine Oh (BQ (p.pre ++ [p.r]) .skip) L (fun o st x h => ?_) H
    refine A9k L (fun o st x h => Co.all fun _ => h) (fun g o st x h => ?_) h
    cases o with
    | exit i => simp [TC] at h
    | normal =>
      obtain ⟨pq, y1, y2⟩ := A9 h;refine (L.B1M y1).mono fun m hm => ?_
      show ob ((Rs m).r g.1 g.2 st.sg) _ = some x
      rw [hm]; exact y2
    | ret =>
      obtain ⟨pq, y1, y2⟩ := A9 h;refine (L.B1M y1).mono fun m hm => ?_
      show ob ((Rs m).r g.1 g.2 st.sg) _ = some x
      rw [hm]; exact y2
theorem wI {R R' : N7} (h : Le R R') : Le (Ba C R) (Ba C R') := by
 have L : gZ (fun _ => R') R := ⟨fun _ => Le.refl _, fun _ _ _ k => ⟨0, h.p _ _ _ k⟩, fun _ _ _ _ k => ⟨0, h.r _ _ _ _ k⟩⟩
 constructor
 ·intro f ds d H
  obtain ⟨n, hn⟩ := (mG L).1 f ds d H;exact hn n (Nat.le_refl _)
 ·intro f rs sg q H
  obtain ⟨n, hn⟩ := (mG L).2 f rs sg q H;exact hn n (Nat.le_refl _)
theorem A7q (n : Nat) : Le (KS C n) (KS C (n + 1)) := by
 induction n with
 | zero => exact ⟨fun _ _ _ h => by simp [KS] at h, fun _ _ _ _ h => by simp [KS] at h⟩
 | succ n ih => exact wI ih
theorem xC {n m : Nat} (h : n ≤ m) : Le (KS C n) (KS C m) := by
 induction m with
 | zero => rw [Nat.le_zero.1 h]; exact Le.refl _
 | succ m ih =>
   rcases Nat.lt_or_ge m n with h1 | h1
   ·rw [show n = m + 1 by omega]; exact Le.refl _
   ·exact (ih h1).trans (A7q m)
theorem xG : gZ (KS C) (run C) := by
 refine ⟨A7q, fun f ds d H => ?_, fun f rs sg q H => ?_⟩
 ·simp only [run] at H
  split at H
  ·rename_i h
   simp only [Option.some.injEq] at H;rw [← H];exact h.choose_spec
  ·cases H
 ·simp only [run] at H
  split at H
  ·rename_i h
   simp only [Option.some.injEq] at H;rw [← H];exact h.choose_spec
  ·cases H
theorem xE (n : Nat) : Le (KS C n) (run C) := by
 constructor
 ·intro f ds d H
  have h : ∃ x n, (KS C n).p f ds = some x := ⟨d, n, H⟩;simp only [run, dif_pos h];obtain ⟨m, hm⟩ := h.choose_spec;have h1 := (xC (C := C) (Nat.le_add_right n m)).p _ _ _ H;have h2 := (xC (C := C) (Nat.le_add_left m n)).p _ _ _ hm;rw [h1] at h2;exact h2.symm
 ·intro f rs sg q H
  have h : ∃ x n, (KS C n).r f rs sg = some x := ⟨q, n, H⟩;simp only [run, dif_pos h];obtain ⟨m, hm⟩ := h.choose_spec;have h1 := (xC (C := C) (Nat.le_add_right n m)).r _ _ _ _ H;have h2 := (xC (C := C) (Nat.le_add_left m n)).r _ _ _ _ hm;rw [h1] at h2;exact h2.symm
theorem A0B : Le (Ba C (run C)) (run C) := by
 constructor
 ·intro f ds d H
  obtain ⟨n, hn⟩ := (mG xG).1 f ds d H;exact (xE (n + 1)).p _ _ _ (hn n (Nat.le_refl _))
 ·intro f rs sg q H
  obtain ⟨n, hn⟩ := (mG xG).2 f rs sg q H;exact (xE (n + 1)).r _ _ _ _ (hn n (Nat.le_refl _))
end
end Go.Su

/-
 THE DATA MACHINE, part 31: places in a code; what a loop's head says of itself.
-/
namespace Go.Su
noncomputable section
section
variable {X : Type} (C : V6) (R : N7) (fl : Flags)
def Cj (b : Code) (K : Out → St → Option X) : (St → Option X) → St → Option X := fun J st => R5 C R fl b (fun o st => match o with
 | .normal => J (clean fl b st)
 | .exit i => K (.exit i) st
 | .ret => K .ret st) st
theorem B0I (b : Code) (K : Out → St → Option X) (st : St) : R5 C R fl (.loop b) K st = Fz (Cj C R fl b K) (clean fl b st) := rfl
theorem A3v {b : Code} {K : Out → St → Option X} {J : St → Option X} {Js : Nat → St → Option X} {st : St} {x : X}
 (hJ : ∀ st x, J st = some x → Co fun m => Js m st = some x) (H : Cj C R fl b K J st = some x) : Co fun m => Cj C R fl b K (Js m) st = some x := by
 refine Oh b (Rs := fun _ => R) ⟨fun _ => Le.refl _, fun _ _ _ h => ⟨0, h⟩, fun _ _ _ _ h => ⟨0, h⟩⟩ ?_ H
 intro o st x h;cases o with
 | normal => exact hJ _ _ h
 | exit i => exact Co.all fun _ => h
 | ret => exact Co.all fun _ => h
theorem A1P {b : Code} {K : Out → St → Option X} {J J' : St → Option X} {st : St} {x : X}
 (hJ : ∀ st x, J st = some x → J' st = some x) (H : Cj C R fl b K J st = some x) : Cj C R fl b K J' st = some x := by
 obtain ⟨n, hn⟩ := A3v C R fl (J := J) (Js := fun _ => J') (fun st x h => Co.all fun _ => hJ st x h) H
 exact hn n (Nat.le_refl _)
theorem A2B {b : Code} {K : Out → St → Option X} : ∀ {n m : Nat} {st : St} {x : X}, n ≤ m → iter (Cj C R fl b K) n st = some x → iter (Cj C R fl b K) m st = some x := by
 intro n
 induction n with
 | zero => intro m st x _ h; simp [iter] at h
 | succ n ih =>
   intro m st x hm h;obtain ⟨m', rfl⟩ : ∃ m', m = m' + 1 := ⟨m - 1, by omega⟩
   simp only [iter] at h ⊢;exact A1P C R fl (fun st x h => ih (by omega) h) h
theorem qC {b : Code} {K : Out → St → Option X} {n : Nat} {st : St} {x : X} (h : iter (Cj C R fl b K) n st = some x) : Fz (Cj C R fl b K) st = some x := by
 have he : ∃ x n, iter (Cj C R fl b K) n st = some x := ⟨x, n, h⟩;unfold Fz;rw [dif_pos he];obtain ⟨j, hj⟩ := he.choose_spec;have h1 := A2B C R fl (Nat.le_add_right j n) hj;have h2 := A2B C R fl (Nat.le_add_left n j) h;rw [h1] at h2;exact h2
theorem B1b (b : Code) (K : Out → St → Option X) (st : St) : Fz (Cj C R fl b K) st = Cj C R fl b K (Fz (Cj C R fl b K)) st := by
 have h1 : ∀ x, Fz (Cj C R fl b K) st = some x → Cj C R fl b K (Fz (Cj C R fl b K)) st = some x := by
  intro x h;obtain ⟨n, hn⟩ := Yg h;cases n with
  | zero => simp [iter] at hn
  | succ n => exact A1P C R fl (fun st x h => qC C R fl h) hn
 have h2 : ∀ x, Cj C R fl b K (Fz (Cj C R fl b K)) st = some x → Fz (Cj C R fl b K) st = some x := by
  intro x h;obtain ⟨n, hn⟩ := A3v C R fl (J := Fz (Cj C R fl b K)) (Js := iter (Cj C R fl b K)) (fun st x h => by
   obtain ⟨n, hn⟩ := Yg h;exact ⟨n, fun m hm => A2B C R fl hm hn⟩) h
  exact qC C R fl (n := n + 1) (hn n (Nat.le_refl _))
 cases h : Fz (Cj C R fl b K) st with
 | some x => exact (h1 x h).symm
 | none =>
   cases h' : Cj C R fl b K (Fz (Cj C R fl b K)) st with
   | none => rfl
   | some x => rw [h2 x h'] at h; exact h.symm
inductive Wait where
 | seq (b : Code)
 | blk (id : Nat)
 | lp (b : Code)
variable (K0 : Out → St → Option X)
def X8 : List Wait → Out → St → Option X
 | [] => K0
 | .seq b :: ks => fun o st => match o with
   | .normal => R5 C R fl b (X8 ks) (clean fl b st)
   | .exit i => X8 ks (.exit i) st
   | .ret => X8 ks .ret st
 | .blk id :: ks => fun o st => match o with
   | .normal => X8 ks .normal st
   | .exit i => if i = id then X8 ks .normal st else X8 ks (.exit i) st
   | .ret => X8 ks .ret st
 | .lp b :: ks => fun o st => match o with
   | .normal => Fz (Cj C R fl b (X8 ks)) (clean fl b st)
   | .exit i => X8 ks (.exit i) st
   | .ret => X8 ks .ret st
def PE (c : Code) (ks : List Wait) (st : St) : Option X := R5 C R fl c (X8 C R fl K0 ks) st
def Mw (b : Code) (ks : List Wait) (st : St) : Option X := Fz (Cj C R fl b (X8 C R fl K0 ks)) st
section
variable (J JL : Code → List Wait → St → Option X) (cut : List Nat)
def FZ (go : Code → List Wait → St → Option X) : List Wait → Out → St → Option X
 | [], o, st => K0 o st
 | .seq b :: ks, o, st => match o with
   | .normal => go b ks st
   | .exit i => FZ go ks (.exit i) st
   | .ret => FZ go ks .ret st
 | .blk id :: ks, o, st => match o with
   | .normal => FZ go ks .normal st
   | .exit i => if i = id then FZ go ks .normal st else FZ go ks (.exit i) st
   | .ret => FZ go ks .ret st
 | .lp b :: ks, o, st => match o with
   | .normal => JL b ks (clean fl b st)
   | .exit i => FZ go ks (.exit i) st
   | .ret => FZ go ks .ret st
def cutAt (b : Code) : Bool :=
 match ut b with
 | some id => cut.contains id
 | none => false
def Ka (ev : Code → List Wait → St → Option X) (b : Code) (ks : List Wait) (st : St) : Option X :=
 match cutAt cut b with
 | true => J b ks (clean fl b st)
 | false => ev b ks (clean fl b st)
def Lp : Nat → Code → List Wait → St → Option X
 | 0, c, ks, st => J c ks st
 | n + 1, c, ks, st =>
   match c with
   | .skip => FZ fl K0 JL (Ka fl J cut (Lp n)) ks .normal st
   | .region id ops false => Bh C R fl ops.toList ops.toList (Ez fl id st) fun st => FO fl id st fun st => FZ fl K0 JL (Ka fl J cut (Lp n)) ks .normal st
   | .region id ops true => og (Rf 0 ops.toList) (aQ (Jn ops.toList []) fun bf => CB C R fl ops.toList bf ops.toList 0 [] (Ez fl id st) fun st => FO fl id st fun st => FZ fl K0 JL (Ka fl J cut (Lp n)) ks .normal st)
   | .seq a b => Lp n a (.seq b :: ks) st
   | .cond c a b => Wl C.P c st (fun st => Ka fl J cut (Lp n) a ks st) (fun st => Ka fl J cut (Lp n) b ks st)
   | .block id b => Lp n b (.blk id :: ks) st
   | .loop b => JL b ks (clean fl b st)
   | .rangeFunc g ps a b => J (.rangeFunc g ps a b) ks st
   | .exit id => FZ fl K0 JL (Ka fl J cut (Lp n)) ks (.exit id) st
   | .ret => FZ fl K0 JL (Ka fl J cut (Lp n)) ks .ret st
   | _ => none
end
theorem Ot {go : Code → List Wait → St → Option X} (h : ∀ b ks st, go b ks st = R5 C R fl b (X8 C R fl K0 ks) (clean fl b st)) : ∀ (ks : List Wait) (o : Out) (st : St),
 FZ fl K0 (Mw C R fl K0) go ks o st = X8 C R fl K0 ks o st
 | [], o, st => rfl
 | .seq b :: ks, o, st => by
   cases o with
   | normal => simp only [FZ, X8, h]
   | exit i => simp only [FZ, X8, Ot h ks]
   | ret => simp only [FZ, X8, Ot h ks]
 | .blk id :: ks, o, st => by
   cases o with
   | normal => simp only [FZ, X8, Ot h ks]
   | exit i => simp only [FZ, X8, Ot h ks]
   | ret => simp only [FZ, X8, Ot h ks]
 | .lp b :: ks, o, st => by
   cases o with
   | normal => simp only [FZ, X8, Mw]
   | exit i => simp only [FZ, X8, Ot h ks]
   | ret => simp only [FZ, X8, Ot h ks]
theorem A4W (cut : List Nat) : ∀ (n : Nat) (c : Code) (ks : List Wait) (st : St), Lp C R fl K0 (PE C R fl K0) (Mw C R fl K0) cut n c ks st = PE C R fl K0 c ks st := by
 intro n
 induction n with
 | zero => intro c ks st; rfl
 | succ n ih =>
   intro c ks st;have hs : ∀ b ks st, Ka fl (PE C R fl K0) cut (Lp C R fl K0 (PE C R fl K0) (Mw C R fl K0) cut n) b ks st = R5 C R fl b (X8 C R fl K0 ks) (clean fl b st) := by
    intro b ks st;unfold Ka
    split
    ·rfl
    ·rw [ih]; rfl
   have hp : ∀ ks o st, FZ fl K0 (Mw C R fl K0) (Ka fl (PE C R fl K0) cut (Lp C R fl K0 (PE C R fl K0) (Mw C R fl K0) cut n)) ks o st = X8 C R fl K0 ks o st :=
    fun ks o st => Ot C R fl K0 hs ks o st
   cases c with
   | skip => simp only [Lp, PE, R5, hp]
   | region id ops d => cases d <;> simp only [Lp, PE, R5, hp]
   | seq a b => rw [Lp, ih]; rfl
   | cond y a b => simp only [Lp, PE, R5, hs]
   | block id b => rw [Lp, ih]; rfl
   | loop b => simp only [Lp, PE, B0I, Mw]
   | exit id => simp only [Lp, PE, R5, hp]
   | ret => simp only [Lp, PE, R5, hp]
   | _ => simp only [Lp, PE, R5]
def sub : List Bool → Code → List Wait → Code × List Wait
 | [], c, ks => (c, ks)
 | false :: p, .seq a b, ks => sub p a (.seq b :: ks)
 | true :: p, .seq _ b, ks => sub p b ks
 | false :: p, .cond _ a _, ks => sub p a ks
 | true :: p, .cond _ _ b, ks => sub p b ks
 | _ :: p, .block id b, ks => sub p b (.blk id :: ks)
 | _ :: p, .loop b, ks => sub p b (.lp b :: ks)
 | _ :: _, c, ks => (c, ks)
def A8k : Code → Code
 | .loop b => b
 | c => c
def hide {α : Type} (a : α) : α := Classical.choose (⟨a, rfl⟩ : ∃ b, b = a)
theorem KL {α : Type} (a : α) : hide a = a := Classical.choose_spec (⟨a, rfl⟩ : ∃ b, b = a)
def Ia (p : List Bool) (c : Code) (st : St) : Option X := hide (PE C R fl K0) (sub p c []).1 (sub p c []).2 st
def Yd (p : List Bool) (c : Code) (st : St) : Option X := hide (Mw C R fl K0) (A8k (sub p c []).1) (sub p c []).2 st
variable {C R fl K0}
theorem D9 {p : List Bool} {c : Code} {st : St} {r : Option X} (cut : List Nat)
 (h : Lp C R fl K0 (hide (PE C R fl K0)) (hide (Mw C R fl K0)) cut 200 (sub p c []).1 (sub p c []).2 st = r := by kernel_rfl) : Ia C R fl K0 p c st = r := by
 rw [KL, KL, A4W] at h;unfold Ia;rw [KL];exact h
theorem H5 {p : List Bool} {c : Code} {st : St} {r : Option X} (cut : List Nat)
 (h : Lp C R fl K0 (hide (PE C R fl K0)) (hide (Mw C R fl K0)) cut 200 (A8k (sub p c []).1) (.lp (A8k (sub p c []).1) :: (sub p c []).2) st = r := by kernel_rfl) : Yd C R fl K0 p c st = r := by
 rw [KL, KL, A4W] at h;rw [← h];unfold Yd;rw [KL];unfold Mw PE;rw [B1b];rfl
theorem iw {c : Code} {st : St} : Ia C R fl K0 [] c st = R5 C R fl c K0 st := by
 unfold Ia;rw [KL];rfl
end
section
variable {X : Type} (C : V6) (R : N7) (fl : Flags) (K0 : Out → St → Option X)
def lT (p : List Bool) (c : Code) (o : Out) (st : St) : Option X := hide (X8 C R fl K0) (sub p c []).2 o st
def kr (I : List D7 → Option X) (Xf : Out → List D7 → Option X) : Out → St → Option X := fun o st => match o with
 | .normal => I st.sg
 | .exit e => Xf (.exit e) st.sg
 | .ret => Xf .ret st.sg
variable {C R fl K0}
theorem B0d (cut : List Nat) (n : Nat) (b : Code) (ks : List Wait) (st : St) : Ka fl (PE C R fl K0) cut (Lp C R fl K0 (PE C R fl K0) (Mw C R fl K0) cut n) b ks st = R5 C R fl b (X8 C R fl K0 ks) (clean fl b st) := by
 unfold Ka
 split
 ·rfl
 ·rw [A4W]; rfl
theorem wy {p : List Bool} {c : Code} {o : Out} {st : St} {r : Option X} (cut : List Nat)
 (h : FZ fl K0 (hide (Mw C R fl K0)) (Ka fl (hide (PE C R fl K0)) cut (Lp C R fl K0 (hide (PE C R fl K0)) (hide (Mw C R fl K0)) cut 200)) (sub p c []).2 o st = r) : lT C R fl K0 p c o st = r := by
 rw [KL, KL, Ot C R fl K0 (B0d cut 200)] at h;unfold lT;rw [KL];exact h
theorem B4z {p : List Bool} {c : Code} {st : St} {t f i q : Nat} {ps : Array Nat} {a b : Code} {ks : List Wait} {it : List DV → Option (List DV)} (hs : sub p c [] = (.rangeFunc (.tmp t) ps a b, ks)) (hm : (st.get t).2 = .fn f [(i, 0)])
 (hp : ps.toList = [q]) (hi : C.iter f = some it) (ha : lL a = true) (hb : O7 b = true) :
 Ia C R fl K0 p c st = ob (M4 st.sg i) fun cs => ob (IP cs) fun cd => ob (it cd) fun ds =>
  KI (fun d I sg => Ia C R fl (kr I fun o sg => lT C R fl K0 p c o (Y6 st sg)) [] (.seq a b) (clean fl a (Vo st q d sg))) (fun sg => lT C R fl K0 p c .normal (Y6 st sg)) ds (st.sg.set i (.arr 1 [])) := by
 unfold Ia lT;simp only [KL];rw [hs];simp only [PE, R5, wX, hp, hm, hi, ha, hb, ob, Bool.and_self, og];have Q4 : ∀ (d : DV) (I : List D7 → Option X) (sg : List D7), R5 C R fl a (fun o st1 => match o with
       | .normal => R5 C R fl b (fun o st2 => match o with
         | .normal => I st2.sg
         | .exit e => X8 C R fl K0 ks (.exit e) (Y6 st st2.sg)
         | .ret => X8 C R fl K0 ks .ret (Y6 st st2.sg)) (clean fl b st1)
       | .exit _ => none
       | .ret => none) (clean fl a (Vo st q d sg)) =
  R5 C R fl a (fun o st' => match o with
   | .normal => R5 C R fl b (X8 C R fl (kr I fun o sg => X8 C R fl K0 ks o (Y6 st sg)) []) (clean fl b st')
   | .exit i => X8 C R fl (kr I fun o sg => X8 C R fl K0 ks o (Y6 st sg)) [] (.exit i) st'
   | .ret => X8 C R fl (kr I fun o sg => X8 C R fl K0 ks o (Y6 st sg)) [] .ret st') (clean fl a (Vo st q d sg)) := by
  intro d I sg;cases a with
  | region id ops dr =>
    cases dr with
    | false =>
      simp only [R5]
      congr 1
    | true => simp [lL] at ha
  | skip =>
    simp only [R5]
    congr 1
  | _ => simp [lL] at ha
 congr 1
 funext cs
 congr 1
 funext cd
 congr 1
 funext ds
 congr 1
 funext d I sg
 exact Q4 d I sg
def rgT : Code → Option (Nat × Nat)
 | .rangeFunc (.tmp t) ps _ _ => match ps.toList with
   | [q] => some (t, q)
   | _ => none
 | _ => none
def rgA : Code → Code
 | .rangeFunc _ _ a _ => a
 | _ => .skip
def rgB : Code → Code
 | .rangeFunc _ _ _ b => b
 | _ => .skip
theorem A7s {p : List Bool} {c : Code} {st : St} {t f i q : Nat} {it : List DV → Option (List DV)} (hs : rgT (sub p c []).1 = some (t, q)) (hm : (st.get t).2 = .fn f [(i, 0)])
 (hi : C.iter f = some it) (jd : (lL (rgA (sub p c []).1) && O7 (rgB (sub p c []).1)) = true) :
 Ia C R fl K0 p c st = ob (M4 st.sg i) fun cs => ob (IP cs) fun cd => ob (it cd) fun ds =>
  KI (fun d I sg => Ia C R fl (kr I fun o sg => lT C R fl K0 p c o (Y6 st sg)) [] (.seq (rgA (sub p c []).1) (rgB (sub p c []).1)) (clean fl (rgA (sub p c []).1) (Vo st q d sg))) (fun sg => lT C R fl K0 p c .normal (Y6 st sg)) ds (st.sg.set i (.arr 1 [])) := by
 simp only [Bool.and_eq_true] at jd;generalize hc : (sub p c []).1 = c1 at hs jd;cases c1 with
 | rangeFunc g ps a b =>
   cases g with
   | tmp t' =>
     simp only [rgT] at hs
     split at hs
     ·rename_i q' hq
      simp only [Option.some.injEq, Prod.mk.injEq] at hs;obtain ⟨rfl, rfl⟩ := hs;simp only [rgA, rgB] at jd ⊢;exact B4z (ks := (sub p c []).2) (by rw [← hc]) hm hq hi jd.1 jd.2
     ·cases hs
   | _ => simp [rgT] at hs
 | _ => simp [rgT] at hs
end
def oneCell (sg : List D7) (cs : List (DV × Meta)) : Option DV :=
 if 1 = cs.length then match cs with
  | [c] => j3 sg c
  | _ => none
 else none
def A5I (x : Option DV) : Option DV := ob (ob x fun d => ob (some []) fun ds => some (d :: ds)) fun ds => some (pack ds)
def B1r : List (Option DV) → Option (List DV)
 | [] => some []
 | x :: xs => ob x fun d => ob (B1r xs) fun ds => some (d :: ds)
def B6A (xs : List (Option DV)) : Option DV := ob (B1r xs) fun ds => some (pack ds)
end
end Go.Su

/-
 PLAIN DATA with types: the program's types, patterns, expressions, terms; how they lie as data. By program.
-/
namespace Go.Su
theorem AY {l : List Nat} {a : Nat} (h : a ∈ l) : a ≤ l.sum := by
 induction l with
 | nil => simp at h
 | cons x l ih =>
   rw [List.sum_cons];rcases List.mem_cons.1 h with rfl | h
   ·omega
   ·have := ih h; omega
def E9 (l : List Int) : DV := .list 1 (l.map fun n => .int .i64 n)
def Bn (l : List ByteArray) : DV := .list 1 (l.map fun s => .str s)
inductive Ty where
 | mk (kind : Int) (n : Int) (kids : List Ty)
def Ty.kind : Ty → Int | .mk x0 _ _ => x0
def Ty.n : Ty → Int | .mk _ x1 _ => x1
def Ty.kids : Ty → List Ty | .mk _ _ x2 => x2
@[simp] theorem Ty.KQ (x0 : Int) (x1 : Int) (x2 : List Ty) : (Ty.mk x0 x1 x2).kind = x0 := rfl
@[simp] theorem Ty.gN (x0 : Int) (x1 : Int) (x2 : List Ty) : (Ty.mk x0 x1 x2).n = x1 := rfl
@[simp] theorem Ty.CR (x0 : Int) (x1 : Int) (x2 : List Ty) : (Ty.mk x0 x1 x2).kids = x2 := rfl
def Ty.enc : Ty → DV
 | .mk x0 x1 x2 => .agg [.int .i64 x0, .int .i64 x1, .list 3 (x2.map Ty.enc)]
theorem Ty.I5 (t : Ty) : t.enc = .agg [.int .i64 t.kind, .int .i64 t.n, .list 3 (t.kids.map Ty.enc)] := by cases t; rw [Ty.enc]; rfl
noncomputable instance : DecidableEq Ty := fun a b => Classical.propDecidable (a = b)
@[simp] theorem Ie (t : Ty) : D5 3 t.enc = true := by rw [Ty.I5]; rfl
@[simp] theorem Ty.Dy (t : Ty) : A7 0 t.enc = .int .i64 t.kind := by rw [Ty.I5]; rfl
@[simp] theorem Ty.LY (t : Ty) : A7 1 t.enc = .int .i64 t.n := by rw [Ty.I5]; rfl
@[simp] theorem Ty.Ij (t : Ty) : A7 2 t.enc = .list 3 (t.kids.map Ty.enc) := by rw [Ty.I5]; rfl
theorem Ty.E8 (t : Ty) : DV.agg [.int .i64 t.kind, .int .i64 t.n, .list 3 (t.kids.map Ty.enc)] = t.enc := (Ty.I5 t).symm
theorem Ty.Dj {t u : Ty} : t = u ↔ t.kind = u.kind ∧ t.n = u.n ∧ t.kids = u.kids := ⟨fun h => by subst h; simp, fun h => by cases t; cases u; simp_all⟩
theorem Ty.CX {t k : Ty} (h : k ∈ t.kids) : SizeOf.sizeOf k < SizeOf.sizeOf t := by
 cases t;simp only [Ty.CR] at h;have := List.sizeOf_lt_of_mem h;simp only [Ty.mk.sizeOf_spec];omega
theorem Ty.ind {P : Ty → Prop} (h : ∀ t, (∀ k ∈ t.kids, P k) → P t) (t : Ty) : P t :=
 h t fun k hk => Ty.ind h k
termination_by SizeOf.sizeOf t
decreasing_by exact Ty.CX hk
def Ty.size (t : Ty) : Nat := 1 + (t.kids.attach.map fun k => Ty.size k.1).sum
termination_by SizeOf.sizeOf t
decreasing_by exact Ty.CX k.2
theorem Ty.size_eq (t : Ty) : t.size = 1 + (t.kids.map Ty.size).sum := by
 rw [Ty.size]
 congr 2
 exact List.attach_map_val (f := Ty.size) ..
theorem Ty.bD {t k : Ty} (h : k ∈ t.kids) : k.size < t.size := by
 rw [Ty.size_eq t];have := AY (List.mem_map_of_mem (f := Ty.size) h);omega
theorem Ty.Nw (t : Ty) : 0 < t.size := by rw [Ty.size_eq]; omega
theorem Ty.vM (t : Ty) : t.kids.length < t.size := by
 rw [Ty.size_eq];have : ∀ l : List Ty, l.length ≤ (l.map Ty.size).sum := by
  intro l
  induction l with
  | nil => simp
  | cons x l ih => have := Ty.Nw x; simp only [List.length_cons, List.map_cons, List.sum_cons]; omega
 have := this t.kids;omega
inductive C9 where
 | mk (kind : Int) (lo : Int) (hi : Int) (name : ByteArray) (n : Int) (s : ByteArray) (kids : List C9)
def C9.kind : C9 → Int | .mk x0 _ _ _ _ _ _ => x0
def C9.lo : C9 → Int | .mk _ x1 _ _ _ _ _ => x1
def C9.hi : C9 → Int | .mk _ _ x2 _ _ _ _ => x2
def C9.name : C9 → ByteArray | .mk _ _ _ x3 _ _ _ => x3
def C9.n : C9 → Int | .mk _ _ _ _ x4 _ _ => x4
def C9.s : C9 → ByteArray | .mk _ _ _ _ _ x5 _ => x5
def C9.kids : C9 → List C9 | .mk _ _ _ _ _ _ x6 => x6
@[simp] theorem C9.KQ (x0 : Int) (x1 : Int) (x2 : Int) (x3 : ByteArray) (x4 : Int) (x5 : ByteArray) (x6 : List C9) : (C9.mk x0 x1 x2 x3 x4 x5 x6).kind = x0 := rfl
@[simp] theorem C9.w_ (x0 : Int) (x1 : Int) (x2 : Int) (x3 : ByteArray) (x4 : Int) (x5 : ByteArray) (x6 : List C9) : (C9.mk x0 x1 x2 x3 x4 x5 x6).lo = x1 := rfl
@[simp] theorem C9.wm (x0 : Int) (x1 : Int) (x2 : Int) (x3 : ByteArray) (x4 : Int) (x5 : ByteArray) (x6 : List C9) : (C9.mk x0 x1 x2 x3 x4 x5 x6).hi = x2 := rfl
@[simp] theorem C9.Vj (x0 : Int) (x1 : Int) (x2 : Int) (x3 : ByteArray) (x4 : Int) (x5 : ByteArray) (x6 : List C9) : (C9.mk x0 x1 x2 x3 x4 x5 x6).name = x3 := rfl
@[simp] theorem C9.gN (x0 : Int) (x1 : Int) (x2 : Int) (x3 : ByteArray) (x4 : Int) (x5 : ByteArray) (x6 : List C9) : (C9.mk x0 x1 x2 x3 x4 x5 x6).n = x4 := rfl
@[simp] theorem C9.A0C (x0 : Int) (x1 : Int) (x2 : Int) (x3 : ByteArray) (x4 : Int) (x5 : ByteArray) (x6 : List C9) : (C9.mk x0 x1 x2 x3 x4 x5 x6).s = x5 := rfl
@[simp] theorem C9.CR (x0 : Int) (x1 : Int) (x2 : Int) (x3 : ByteArray) (x4 : Int) (x5 : ByteArray) (x6 : List C9) : (C9.mk x0 x1 x2 x3 x4 x5 x6).kids = x6 := rfl
def C9.enc : C9 → DV
 | .mk x0 x1 x2 x3 x4 x5 x6 => .agg [.int .i64 x0, .int .i64 x1, .int .i64 x2, .str x3, .int .i64 x4, .str x5, .list 7 (x6.map C9.enc)]
theorem C9.I5 (t : C9) : t.enc = .agg [.int .i64 t.kind, .int .i64 t.lo, .int .i64 t.hi, .str t.name, .int .i64 t.n, .str t.s, .list 7 (t.kids.map C9.enc)] := by cases t; rw [C9.enc]; rfl
noncomputable instance : DecidableEq C9 := fun a b => Classical.propDecidable (a = b)
@[simp] theorem Ic (t : C9) : D5 7 t.enc = true := by rw [C9.I5]; rfl
@[simp] theorem C9.Dy (t : C9) : A7 0 t.enc = .int .i64 t.kind := by rw [C9.I5]; rfl
@[simp] theorem C9.LY (t : C9) : A7 1 t.enc = .int .i64 t.lo := by rw [C9.I5]; rfl
@[simp] theorem C9.Ij (t : C9) : A7 2 t.enc = .int .i64 t.hi := by rw [C9.I5]; rfl
@[simp] theorem C9.WN (t : C9) : A7 3 t.enc = .str t.name := by rw [C9.I5]; rfl
@[simp] theorem C9.Yj (t : C9) : A7 4 t.enc = .int .i64 t.n := by rw [C9.I5]; rfl
@[simp] theorem C9.eF (t : C9) : A7 5 t.enc = .str t.s := by rw [C9.I5]; rfl
@[simp] theorem C9.Yk (t : C9) : A7 6 t.enc = .list 7 (t.kids.map C9.enc) := by rw [C9.I5]; rfl
theorem C9.E8 (t : C9) : DV.agg [.int .i64 t.kind, .int .i64 t.lo, .int .i64 t.hi, .str t.name, .int .i64 t.n, .str t.s, .list 7 (t.kids.map C9.enc)] = t.enc := (C9.I5 t).symm
theorem C9.Dj {t u : C9} : t = u ↔ t.kind = u.kind ∧ t.lo = u.lo ∧ t.hi = u.hi ∧ t.name = u.name ∧ t.n = u.n ∧ t.s = u.s ∧ t.kids = u.kids := ⟨fun h => by subst h; simp, fun h => by cases t; cases u; simp_all⟩
theorem C9.CX {t k : C9} (h : k ∈ t.kids) : SizeOf.sizeOf k < SizeOf.sizeOf t := by
 cases t;simp only [C9.CR] at h;have := List.sizeOf_lt_of_mem h;simp only [C9.mk.sizeOf_spec];omega
theorem C9.ind {P : C9 → Prop} (h : ∀ t, (∀ k ∈ t.kids, P k) → P t) (t : C9) : P t :=
 h t fun k hk => C9.ind h k
termination_by SizeOf.sizeOf t
decreasing_by exact C9.CX hk
def C9.size (t : C9) : Nat := 1 + (t.kids.attach.map fun k => C9.size k.1).sum
termination_by SizeOf.sizeOf t
decreasing_by exact C9.CX k.2
theorem C9.size_eq (t : C9) : t.size = 1 + (t.kids.map C9.size).sum := by
 rw [C9.size]
 congr 2
 exact List.attach_map_val (f := C9.size) ..
theorem C9.bD {t k : C9} (h : k ∈ t.kids) : k.size < t.size := by
 rw [C9.size_eq t];have := AY (List.mem_map_of_mem (f := C9.size) h);omega
theorem C9.Nw (t : C9) : 0 < t.size := by rw [C9.size_eq]; omega
theorem C9.vM (t : C9) : t.kids.length < t.size := by
 rw [C9.size_eq];have : ∀ l : List C9, l.length ≤ (l.map C9.size).sum := by
  intro l
  induction l with
  | nil => simp
  | cons x l ih => have := C9.Nw x; simp only [List.length_cons, List.map_cons, List.sum_cons]; omega
 have := this t.kids;omega
def C9.J3 (t : C9) : Nat := 1 + t.name.size + t.s.size + (t.kids.attach.map fun k => C9.J3 k.1).sum
termination_by SizeOf.sizeOf t
decreasing_by exact C9.CX k.2
theorem C9.U2 (t : C9) : t.J3 = 1 + t.name.size + t.s.size + (t.kids.map C9.J3).sum := by
 rw [C9.J3]
 congr 2
 exact List.attach_map_val (f := C9.J3) ..
theorem C9.Dw (t : C9) : 0 < t.J3 := by rw [C9.U2]; omega
theorem C9.O3 {t k : C9} (h : k ∈ t.kids) : k.J3 < t.J3 := by
 rw [C9.U2 t];have := AY (List.mem_map_of_mem (f := C9.J3) h);omega
theorem C9.vQ (t : C9) : t.name.size < t.J3 := by rw [C9.U2]; omega
theorem C9.A5q (t : C9) : t.s.size < t.J3 := by rw [C9.U2]; omega
inductive Ex where
 | mk (kind : Int) (lo : Int) (hi : Int) (name : ByteArray) (arg : ByteArray) (n : Int) (s : ByteArray) (op : Int) (a : Ty) (b : Ty) (F7 : List C9) (kids : List Ex)
def Ex.kind : Ex → Int | .mk x0 _ _ _ _ _ _ _ _ _ _ _ => x0
def Ex.lo : Ex → Int | .mk _ x1 _ _ _ _ _ _ _ _ _ _ => x1
def Ex.hi : Ex → Int | .mk _ _ x2 _ _ _ _ _ _ _ _ _ => x2
def Ex.name : Ex → ByteArray | .mk _ _ _ x3 _ _ _ _ _ _ _ _ => x3
def Ex.arg : Ex → ByteArray | .mk _ _ _ _ x4 _ _ _ _ _ _ _ => x4
def Ex.n : Ex → Int | .mk _ _ _ _ _ x5 _ _ _ _ _ _ => x5
def Ex.s : Ex → ByteArray | .mk _ _ _ _ _ _ x6 _ _ _ _ _ => x6
def Ex.op : Ex → Int | .mk _ _ _ _ _ _ _ x7 _ _ _ _ => x7
def Ex.a : Ex → Ty | .mk _ _ _ _ _ _ _ _ x8 _ _ _ => x8
def Ex.b : Ex → Ty | .mk _ _ _ _ _ _ _ _ _ x9 _ _ => x9
def Ex.F7 : Ex → List C9 | .mk _ _ _ _ _ _ _ _ _ _ x10 _ => x10
def Ex.kids : Ex → List Ex | .mk _ _ _ _ _ _ _ _ _ _ _ x11 => x11
@[simp] theorem Ex.KQ (x0 : Int) (x1 : Int) (x2 : Int) (x3 : ByteArray) (x4 : ByteArray) (x5 : Int) (x6 : ByteArray) (x7 : Int) (x8 : Ty) (x9 : Ty) (x10 : List C9) (x11 : List Ex) : (Ex.mk x0 x1 x2 x3 x4 x5 x6 x7 x8 x9 x10 x11).kind = x0 := rfl
@[simp] theorem Ex.w_ (x0 : Int) (x1 : Int) (x2 : Int) (x3 : ByteArray) (x4 : ByteArray) (x5 : Int) (x6 : ByteArray) (x7 : Int) (x8 : Ty) (x9 : Ty) (x10 : List C9) (x11 : List Ex) : (Ex.mk x0 x1 x2 x3 x4 x5 x6 x7 x8 x9 x10 x11).lo = x1 := rfl
@[simp] theorem Ex.wm (x0 : Int) (x1 : Int) (x2 : Int) (x3 : ByteArray) (x4 : ByteArray) (x5 : Int) (x6 : ByteArray) (x7 : Int) (x8 : Ty) (x9 : Ty) (x10 : List C9) (x11 : List Ex) : (Ex.mk x0 x1 x2 x3 x4 x5 x6 x7 x8 x9 x10 x11).hi = x2 := rfl
@[simp] theorem Ex.Vj (x0 : Int) (x1 : Int) (x2 : Int) (x3 : ByteArray) (x4 : ByteArray) (x5 : Int) (x6 : ByteArray) (x7 : Int) (x8 : Ty) (x9 : Ty) (x10 : List C9) (x11 : List Ex) : (Ex.mk x0 x1 x2 x3 x4 x5 x6 x7 x8 x9 x10 x11).name = x3 := rfl
@[simp] theorem Ex.A1c (x0 : Int) (x1 : Int) (x2 : Int) (x3 : ByteArray) (x4 : ByteArray) (x5 : Int) (x6 : ByteArray) (x7 : Int) (x8 : Ty) (x9 : Ty) (x10 : List C9) (x11 : List Ex) : (Ex.mk x0 x1 x2 x3 x4 x5 x6 x7 x8 x9 x10 x11).arg = x4 := rfl
@[simp] theorem Ex.gN (x0 : Int) (x1 : Int) (x2 : Int) (x3 : ByteArray) (x4 : ByteArray) (x5 : Int) (x6 : ByteArray) (x7 : Int) (x8 : Ty) (x9 : Ty) (x10 : List C9) (x11 : List Ex) : (Ex.mk x0 x1 x2 x3 x4 x5 x6 x7 x8 x9 x10 x11).n = x5 := rfl
@[simp] theorem Ex.A0C (x0 : Int) (x1 : Int) (x2 : Int) (x3 : ByteArray) (x4 : ByteArray) (x5 : Int) (x6 : ByteArray) (x7 : Int) (x8 : Ty) (x9 : Ty) (x10 : List C9) (x11 : List Ex) : (Ex.mk x0 x1 x2 x3 x4 x5 x6 x7 x8 x9 x10 x11).s = x6 := rfl
@[simp] theorem Ex.A4x (x0 : Int) (x1 : Int) (x2 : Int) (x3 : ByteArray) (x4 : ByteArray) (x5 : Int) (x6 : ByteArray) (x7 : Int) (x8 : Ty) (x9 : Ty) (x10 : List C9) (x11 : List Ex) : (Ex.mk x0 x1 x2 x3 x4 x5 x6 x7 x8 x9 x10 x11).op = x7 := rfl
@[simp] theorem Ex.A7G (x0 : Int) (x1 : Int) (x2 : Int) (x3 : ByteArray) (x4 : ByteArray) (x5 : Int) (x6 : ByteArray) (x7 : Int) (x8 : Ty) (x9 : Ty) (x10 : List C9) (x11 : List Ex) : (Ex.mk x0 x1 x2 x3 x4 x5 x6 x7 x8 x9 x10 x11).a = x8 := rfl
@[simp] theorem Ex.A7J (x0 : Int) (x1 : Int) (x2 : Int) (x3 : ByteArray) (x4 : ByteArray) (x5 : Int) (x6 : ByteArray) (x7 : Int) (x8 : Ty) (x9 : Ty) (x10 : List C9) (x11 : List Ex) : (Ex.mk x0 x1 x2 x3 x4 x5 x6 x7 x8 x9 x10 x11).b = x9 := rfl
@[simp] theorem Ex.xF (x0 : Int) (x1 : Int) (x2 : Int) (x3 : ByteArray) (x4 : ByteArray) (x5 : Int) (x6 : ByteArray) (x7 : Int) (x8 : Ty) (x9 : Ty) (x10 : List C9) (x11 : List Ex) : (Ex.mk x0 x1 x2 x3 x4 x5 x6 x7 x8 x9 x10 x11).F7 = x10 := rfl
@[simp] theorem Ex.CR (x0 : Int) (x1 : Int) (x2 : Int) (x3 : ByteArray) (x4 : ByteArray) (x5 : Int) (x6 : ByteArray) (x7 : Int) (x8 : Ty) (x9 : Ty) (x10 : List C9) (x11 : List Ex) : (Ex.mk x0 x1 x2 x3 x4 x5 x6 x7 x8 x9 x10 x11).kids = x11 := rfl
def Ex.enc : Ex → DV
 | .mk x0 x1 x2 x3 x4 x5 x6 x7 x8 x9 x10 x11 => .agg [.int .i64 x0, .int .i64 x1, .int .i64 x2, .str x3, .str x4, .int .i64 x5, .str x6, .int .i64 x7, .int .i64 x8.kind, .int .i64 x8.n, .list 3 (x8.kids.map Ty.enc), .int .i64 x9.kind, .int .i64 x9.n, .list 3 (x9.kids.map Ty.enc), .list 7 (x10.map C9.enc), .list 16 (x11.map Ex.enc)]
theorem Ex.I5 (t : Ex) : t.enc = .agg [.int .i64 t.kind, .int .i64 t.lo, .int .i64 t.hi, .str t.name, .str t.arg, .int .i64 t.n, .str t.s, .int .i64 t.op, .int .i64 t.a.kind, .int .i64 t.a.n, .list 3 (t.a.kids.map Ty.enc), .int .i64 t.b.kind, .int .i64 t.b.n, .list 3 (t.b.kids.map Ty.enc), .list 7 (t.F7.map C9.enc), .list 16 (t.kids.map Ex.enc)] := by cases t; rw [Ex.enc]; rfl
noncomputable instance : DecidableEq Ex := fun a b => Classical.propDecidable (a = b)
@[simp] theorem Al (t : Ex) : D5 16 t.enc = true := by rw [Ex.I5]; rfl
@[simp] theorem Ex.Dy (t : Ex) : A7 0 t.enc = .int .i64 t.kind := by rw [Ex.I5]; rfl
@[simp] theorem Ex.LY (t : Ex) : A7 1 t.enc = .int .i64 t.lo := by rw [Ex.I5]; rfl
@[simp] theorem Ex.Ij (t : Ex) : A7 2 t.enc = .int .i64 t.hi := by rw [Ex.I5]; rfl
@[simp] theorem Ex.WN (t : Ex) : A7 3 t.enc = .str t.name := by rw [Ex.I5]; rfl
@[simp] theorem Ex.Yj (t : Ex) : A7 4 t.enc = .str t.arg := by rw [Ex.I5]; rfl
@[simp] theorem Ex.eF (t : Ex) : A7 5 t.enc = .int .i64 t.n := by rw [Ex.I5]; rfl
@[simp] theorem Ex.Yk (t : Ex) : A7 6 t.enc = .str t.s := by rw [Ex.I5]; rfl
@[simp] theorem Ex.A4y (t : Ex) : A7 7 t.enc = .int .i64 t.op := by rw [Ex.I5]; rfl
@[simp] theorem Ex.A4z (t : Ex) : A7 8 t.enc = .int .i64 t.a.kind := by rw [Ex.I5]; rfl
@[simp] theorem Ex.A4A (t : Ex) : A7 9 t.enc = .int .i64 t.a.n := by rw [Ex.I5]; rfl
@[simp] theorem Ex.A1Z (t : Ex) : A7 10 t.enc = .list 3 (t.a.kids.map Ty.enc) := by rw [Ex.I5]; rfl
@[simp] theorem Ex.A10 (t : Ex) : A7 11 t.enc = .int .i64 t.b.kind := by rw [Ex.I5]; rfl
@[simp] theorem Ex.A11 (t : Ex) : A7 12 t.enc = .int .i64 t.b.n := by rw [Ex.I5]; rfl
@[simp] theorem Ex.A12 (t : Ex) : A7 13 t.enc = .list 3 (t.b.kids.map Ty.enc) := by rw [Ex.I5]; rfl
@[simp] theorem Ex.au (t : Ex) : A7 14 t.enc = .list 7 (t.F7.map C9.enc) := by rw [Ex.I5]; rfl
@[simp] theorem Ex.A5E (t : Ex) : A7 15 t.enc = .list 16 (t.kids.map Ex.enc) := by rw [Ex.I5]; rfl
theorem Ex.E8 (t : Ex) : DV.agg [.int .i64 t.kind, .int .i64 t.lo, .int .i64 t.hi, .str t.name, .str t.arg, .int .i64 t.n, .str t.s, .int .i64 t.op, .int .i64 t.a.kind, .int .i64 t.a.n, .list 3 (t.a.kids.map Ty.enc), .int .i64 t.b.kind, .int .i64 t.b.n, .list 3 (t.b.kids.map Ty.enc), .list 7 (t.F7.map C9.enc), .list 16 (t.kids.map Ex.enc)] = t.enc := (Ex.I5 t).symm
theorem Ex.Dj {t u : Ex} : t = u ↔ t.kind = u.kind ∧ t.lo = u.lo ∧ t.hi = u.hi ∧ t.name = u.name ∧ t.arg = u.arg ∧ t.n = u.n ∧ t.s = u.s ∧ t.op = u.op ∧ t.a = u.a ∧ t.b = u.b ∧ t.F7 = u.F7 ∧ t.kids = u.kids := ⟨fun h => by subst h; simp, fun h => by cases t; cases u; simp_all⟩
theorem Ex.CX {t k : Ex} (h : k ∈ t.kids) : SizeOf.sizeOf k < SizeOf.sizeOf t := by
 cases t;simp only [Ex.CR] at h;have := List.sizeOf_lt_of_mem h;simp only [Ex.mk.sizeOf_spec];omega
theorem Ex.ind {P : Ex → Prop} (h : ∀ t, (∀ k ∈ t.kids, P k) → P t) (t : Ex) : P t :=
 h t fun k hk => Ex.ind h k
termination_by SizeOf.sizeOf t
decreasing_by exact Ex.CX hk
def Ex.size (t : Ex) : Nat := 1 + (t.kids.attach.map fun k => Ex.size k.1).sum
termination_by SizeOf.sizeOf t
decreasing_by exact Ex.CX k.2
theorem Ex.size_eq (t : Ex) : t.size = 1 + (t.kids.map Ex.size).sum := by
 rw [Ex.size]
 congr 2
 exact List.attach_map_val (f := Ex.size) ..
theorem Ex.Nw (t : Ex) : 0 < t.size := by rw [Ex.size_eq]; omega
def Ex.J3 (t : Ex) : Nat := 1 + t.name.size + t.arg.size + t.s.size + t.a.size + t.b.size + (t.F7.map C9.J3).sum + (t.kids.attach.map fun k => Ex.J3 k.1).sum
termination_by SizeOf.sizeOf t
decreasing_by exact Ex.CX k.2
theorem Ex.U2 (t : Ex) : t.J3 = 1 + t.name.size + t.arg.size + t.s.size + t.a.size + t.b.size + (t.F7.map C9.J3).sum + (t.kids.map Ex.J3).sum := by
 rw [Ex.J3]
 congr 2
 exact List.attach_map_val (f := Ex.J3) ..
theorem Ex.Dw (t : Ex) : 0 < t.J3 := by rw [Ex.U2]; omega
theorem Ex.O3 {t k : Ex} (h : k ∈ t.kids) : k.J3 < t.J3 := by
 rw [Ex.U2 t];have := AY (List.mem_map_of_mem (f := Ex.J3) h);omega
theorem Ex.ah (t : Ex) : t.kids.length < t.J3 := by
 rw [Ex.U2];have : ∀ l : List Ex, l.length ≤ (l.map Ex.J3).sum := by
  intro l
  induction l with
  | nil => simp
  | cons x l ih => have := Ex.Dw x; simp only [List.length_cons, List.map_cons, List.sum_cons]; omega
 have := this t.kids;omega
theorem Ex.vQ (t : Ex) : t.name.size < t.J3 := by rw [Ex.U2]; omega
theorem Ex.B1d (t : Ex) : t.arg.size < t.J3 := by rw [Ex.U2]; omega
theorem Ex.A5q (t : Ex) : t.s.size < t.J3 := by rw [Ex.U2]; omega
theorem Ex.A9N (t : Ex) : t.a.size < t.J3 := by rw [Ex.U2]; omega
theorem Ex.A9O (t : Ex) : t.b.size < t.J3 := by rw [Ex.U2]; omega
theorem Ex.A3y (t : Ex) : (t.F7.map C9.J3).sum < t.J3 := by rw [Ex.U2]; omega
inductive Tm where
 | mk (kind : Int) (lo : Int) (hi : Int) (name : ByteArray) (arg : ByteArray) (n : Int) (s : ByteArray) (op : Int) (label : Int) (neg : Bool) (vars : List Int) (a : Ty) (b : Ty) (args : List Ty) (F7 : List C9) (kids : List Tm)
def Tm.kind : Tm → Int | .mk x0 _ _ _ _ _ _ _ _ _ _ _ _ _ _ _ => x0
def Tm.lo : Tm → Int | .mk _ x1 _ _ _ _ _ _ _ _ _ _ _ _ _ _ => x1
def Tm.hi : Tm → Int | .mk _ _ x2 _ _ _ _ _ _ _ _ _ _ _ _ _ => x2
def Tm.name : Tm → ByteArray | .mk _ _ _ x3 _ _ _ _ _ _ _ _ _ _ _ _ => x3
def Tm.arg : Tm → ByteArray | .mk _ _ _ _ x4 _ _ _ _ _ _ _ _ _ _ _ => x4
def Tm.n : Tm → Int | .mk _ _ _ _ _ x5 _ _ _ _ _ _ _ _ _ _ => x5
def Tm.s : Tm → ByteArray | .mk _ _ _ _ _ _ x6 _ _ _ _ _ _ _ _ _ => x6
def Tm.op : Tm → Int | .mk _ _ _ _ _ _ _ x7 _ _ _ _ _ _ _ _ => x7
def Tm.label : Tm → Int | .mk _ _ _ _ _ _ _ _ x8 _ _ _ _ _ _ _ => x8
def Tm.neg : Tm → Bool | .mk _ _ _ _ _ _ _ _ _ x9 _ _ _ _ _ _ => x9
def Tm.vars : Tm → List Int | .mk _ _ _ _ _ _ _ _ _ _ x10 _ _ _ _ _ => x10
def Tm.a : Tm → Ty | .mk _ _ _ _ _ _ _ _ _ _ _ x11 _ _ _ _ => x11
def Tm.b : Tm → Ty | .mk _ _ _ _ _ _ _ _ _ _ _ _ x12 _ _ _ => x12
def Tm.args : Tm → List Ty | .mk _ _ _ _ _ _ _ _ _ _ _ _ _ x13 _ _ => x13
def Tm.F7 : Tm → List C9 | .mk _ _ _ _ _ _ _ _ _ _ _ _ _ _ x14 _ => x14
def Tm.kids : Tm → List Tm | .mk _ _ _ _ _ _ _ _ _ _ _ _ _ _ _ x15 => x15
@[simp] theorem Tm.KQ (x0 : Int) (x1 : Int) (x2 : Int) (x3 : ByteArray) (x4 : ByteArray) (x5 : Int) (x6 : ByteArray) (x7 : Int) (x8 : Int) (x9 : Bool) (x10 : List Int) (x11 : Ty) (x12 : Ty) (x13 : List Ty) (x14 : List C9) (x15 : List Tm) : (Tm.mk x0 x1 x2 x3 x4 x5 x6 x7 x8 x9 x10 x11 x12 x13 x14 x15).kind = x0 := rfl
@[simp] theorem Tm.w_ (x0 : Int) (x1 : Int) (x2 : Int) (x3 : ByteArray) (x4 : ByteArray) (x5 : Int) (x6 : ByteArray) (x7 : Int) (x8 : Int) (x9 : Bool) (x10 : List Int) (x11 : Ty) (x12 : Ty) (x13 : List Ty) (x14 : List C9) (x15 : List Tm) : (Tm.mk x0 x1 x2 x3 x4 x5 x6 x7 x8 x9 x10 x11 x12 x13 x14 x15).lo = x1 := rfl
@[simp] theorem Tm.wm (x0 : Int) (x1 : Int) (x2 : Int) (x3 : ByteArray) (x4 : ByteArray) (x5 : Int) (x6 : ByteArray) (x7 : Int) (x8 : Int) (x9 : Bool) (x10 : List Int) (x11 : Ty) (x12 : Ty) (x13 : List Ty) (x14 : List C9) (x15 : List Tm) : (Tm.mk x0 x1 x2 x3 x4 x5 x6 x7 x8 x9 x10 x11 x12 x13 x14 x15).hi = x2 := rfl
@[simp] theorem Tm.Vj (x0 : Int) (x1 : Int) (x2 : Int) (x3 : ByteArray) (x4 : ByteArray) (x5 : Int) (x6 : ByteArray) (x7 : Int) (x8 : Int) (x9 : Bool) (x10 : List Int) (x11 : Ty) (x12 : Ty) (x13 : List Ty) (x14 : List C9) (x15 : List Tm) : (Tm.mk x0 x1 x2 x3 x4 x5 x6 x7 x8 x9 x10 x11 x12 x13 x14 x15).name = x3 := rfl
@[simp] theorem Tm.A1c (x0 : Int) (x1 : Int) (x2 : Int) (x3 : ByteArray) (x4 : ByteArray) (x5 : Int) (x6 : ByteArray) (x7 : Int) (x8 : Int) (x9 : Bool) (x10 : List Int) (x11 : Ty) (x12 : Ty) (x13 : List Ty) (x14 : List C9) (x15 : List Tm) : (Tm.mk x0 x1 x2 x3 x4 x5 x6 x7 x8 x9 x10 x11 x12 x13 x14 x15).arg = x4 := rfl
@[simp] theorem Tm.gN (x0 : Int) (x1 : Int) (x2 : Int) (x3 : ByteArray) (x4 : ByteArray) (x5 : Int) (x6 : ByteArray) (x7 : Int) (x8 : Int) (x9 : Bool) (x10 : List Int) (x11 : Ty) (x12 : Ty) (x13 : List Ty) (x14 : List C9) (x15 : List Tm) : (Tm.mk x0 x1 x2 x3 x4 x5 x6 x7 x8 x9 x10 x11 x12 x13 x14 x15).n = x5 := rfl
@[simp] theorem Tm.A0C (x0 : Int) (x1 : Int) (x2 : Int) (x3 : ByteArray) (x4 : ByteArray) (x5 : Int) (x6 : ByteArray) (x7 : Int) (x8 : Int) (x9 : Bool) (x10 : List Int) (x11 : Ty) (x12 : Ty) (x13 : List Ty) (x14 : List C9) (x15 : List Tm) : (Tm.mk x0 x1 x2 x3 x4 x5 x6 x7 x8 x9 x10 x11 x12 x13 x14 x15).s = x6 := rfl
@[simp] theorem Tm.A4x (x0 : Int) (x1 : Int) (x2 : Int) (x3 : ByteArray) (x4 : ByteArray) (x5 : Int) (x6 : ByteArray) (x7 : Int) (x8 : Int) (x9 : Bool) (x10 : List Int) (x11 : Ty) (x12 : Ty) (x13 : List Ty) (x14 : List C9) (x15 : List Tm) : (Tm.mk x0 x1 x2 x3 x4 x5 x6 x7 x8 x9 x10 x11 x12 x13 x14 x15).op = x7 := rfl
@[simp] theorem Tm.B6u (x0 : Int) (x1 : Int) (x2 : Int) (x3 : ByteArray) (x4 : ByteArray) (x5 : Int) (x6 : ByteArray) (x7 : Int) (x8 : Int) (x9 : Bool) (x10 : List Int) (x11 : Ty) (x12 : Ty) (x13 : List Ty) (x14 : List C9) (x15 : List Tm) : (Tm.mk x0 x1 x2 x3 x4 x5 x6 x7 x8 x9 x10 x11 x12 x13 x14 x15).label = x8 := rfl
@[simp] theorem Tm.B6S (x0 : Int) (x1 : Int) (x2 : Int) (x3 : ByteArray) (x4 : ByteArray) (x5 : Int) (x6 : ByteArray) (x7 : Int) (x8 : Int) (x9 : Bool) (x10 : List Int) (x11 : Ty) (x12 : Ty) (x13 : List Ty) (x14 : List C9) (x15 : List Tm) : (Tm.mk x0 x1 x2 x3 x4 x5 x6 x7 x8 x9 x10 x11 x12 x13 x14 x15).neg = x9 := rfl
@[simp] theorem Tm.A2Y (x0 : Int) (x1 : Int) (x2 : Int) (x3 : ByteArray) (x4 : ByteArray) (x5 : Int) (x6 : ByteArray) (x7 : Int) (x8 : Int) (x9 : Bool) (x10 : List Int) (x11 : Ty) (x12 : Ty) (x13 : List Ty) (x14 : List C9) (x15 : List Tm) : (Tm.mk x0 x1 x2 x3 x4 x5 x6 x7 x8 x9 x10 x11 x12 x13 x14 x15).vars = x10 := rfl
@[simp] theorem Tm.A7G (x0 : Int) (x1 : Int) (x2 : Int) (x3 : ByteArray) (x4 : ByteArray) (x5 : Int) (x6 : ByteArray) (x7 : Int) (x8 : Int) (x9 : Bool) (x10 : List Int) (x11 : Ty) (x12 : Ty) (x13 : List Ty) (x14 : List C9) (x15 : List Tm) : (Tm.mk x0 x1 x2 x3 x4 x5 x6 x7 x8 x9 x10 x11 x12 x13 x14 x15).a = x11 := rfl
@[simp] theorem Tm.A7J (x0 : Int) (x1 : Int) (x2 : Int) (x3 : ByteArray) (x4 : ByteArray) (x5 : Int) (x6 : ByteArray) (x7 : Int) (x8 : Int) (x9 : Bool) (x10 : List Int) (x11 : Ty) (x12 : Ty) (x13 : List Ty) (x14 : List C9) (x15 : List Tm) : (Tm.mk x0 x1 x2 x3 x4 x5 x6 x7 x8 x9 x10 x11 x12 x13 x14 x15).b = x12 := rfl
@[simp] theorem Tm.B6C (x0 : Int) (x1 : Int) (x2 : Int) (x3 : ByteArray) (x4 : ByteArray) (x5 : Int) (x6 : ByteArray) (x7 : Int) (x8 : Int) (x9 : Bool) (x10 : List Int) (x11 : Ty) (x12 : Ty) (x13 : List Ty) (x14 : List C9) (x15 : List Tm) : (Tm.mk x0 x1 x2 x3 x4 x5 x6 x7 x8 x9 x10 x11 x12 x13 x14 x15).args = x13 := rfl
@[simp] theorem Tm.xF (x0 : Int) (x1 : Int) (x2 : Int) (x3 : ByteArray) (x4 : ByteArray) (x5 : Int) (x6 : ByteArray) (x7 : Int) (x8 : Int) (x9 : Bool) (x10 : List Int) (x11 : Ty) (x12 : Ty) (x13 : List Ty) (x14 : List C9) (x15 : List Tm) : (Tm.mk x0 x1 x2 x3 x4 x5 x6 x7 x8 x9 x10 x11 x12 x13 x14 x15).F7 = x14 := rfl
@[simp] theorem Tm.CR (x0 : Int) (x1 : Int) (x2 : Int) (x3 : ByteArray) (x4 : ByteArray) (x5 : Int) (x6 : ByteArray) (x7 : Int) (x8 : Int) (x9 : Bool) (x10 : List Int) (x11 : Ty) (x12 : Ty) (x13 : List Ty) (x14 : List C9) (x15 : List Tm) : (Tm.mk x0 x1 x2 x3 x4 x5 x6 x7 x8 x9 x10 x11 x12 x13 x14 x15).kids = x15 := rfl
def Tm.enc : Tm → DV
 | .mk x0 x1 x2 x3 x4 x5 x6 x7 x8 x9 x10 x11 x12 x13 x14 x15 => .agg [.int .i64 x0, .int .i64 x1, .int .i64 x2, .str x3, .str x4, .int .i64 x5, .str x6, .int .i64 x7, .int .i64 x8, .bool x9, E9 x10, .int .i64 x11.kind, .int .i64 x11.n, .list 3 (x11.kids.map Ty.enc), .int .i64 x12.kind, .int .i64 x12.n, .list 3 (x12.kids.map Ty.enc), .list 3 (x13.map Ty.enc), .list 7 (x14.map C9.enc), .list 20 (x15.map Tm.enc)]
theorem Tm.I5 (t : Tm) : t.enc = .agg [.int .i64 t.kind, .int .i64 t.lo, .int .i64 t.hi, .str t.name, .str t.arg, .int .i64 t.n, .str t.s, .int .i64 t.op, .int .i64 t.label, .bool t.neg, E9 t.vars, .int .i64 t.a.kind, .int .i64 t.a.n, .list 3 (t.a.kids.map Ty.enc), .int .i64 t.b.kind, .int .i64 t.b.n, .list 3 (t.b.kids.map Ty.enc), .list 3 (t.args.map Ty.enc), .list 7 (t.F7.map C9.enc), .list 20 (t.kids.map Tm.enc)] := by cases t; rw [Tm.enc]; rfl
noncomputable instance : DecidableEq Tm := fun a b => Classical.propDecidable (a = b)
@[simp] theorem B5E (t : Tm) : D5 20 t.enc = true := by rw [Tm.I5]; rfl
@[simp] theorem Tm.Dy (t : Tm) : A7 0 t.enc = .int .i64 t.kind := by rw [Tm.I5]; rfl
@[simp] theorem Tm.LY (t : Tm) : A7 1 t.enc = .int .i64 t.lo := by rw [Tm.I5]; rfl
@[simp] theorem Tm.Ij (t : Tm) : A7 2 t.enc = .int .i64 t.hi := by rw [Tm.I5]; rfl
@[simp] theorem Tm.WN (t : Tm) : A7 3 t.enc = .str t.name := by rw [Tm.I5]; rfl
@[simp] theorem Tm.Yj (t : Tm) : A7 4 t.enc = .str t.arg := by rw [Tm.I5]; rfl
@[simp] theorem Tm.eF (t : Tm) : A7 5 t.enc = .int .i64 t.n := by rw [Tm.I5]; rfl
@[simp] theorem Tm.Yk (t : Tm) : A7 6 t.enc = .str t.s := by rw [Tm.I5]; rfl
@[simp] theorem Tm.A4y (t : Tm) : A7 7 t.enc = .int .i64 t.op := by rw [Tm.I5]; rfl
@[simp] theorem Tm.A4z (t : Tm) : A7 8 t.enc = .int .i64 t.label := by rw [Tm.I5]; rfl
@[simp] theorem Tm.A4A (t : Tm) : A7 9 t.enc = .bool t.neg := by rw [Tm.I5]; rfl
@[simp] theorem Tm.A1Z (t : Tm) : A7 10 t.enc = E9 t.vars := by rw [Tm.I5]; rfl
@[simp] theorem Tm.A10 (t : Tm) : A7 11 t.enc = .int .i64 t.a.kind := by rw [Tm.I5]; rfl
@[simp] theorem Tm.A11 (t : Tm) : A7 12 t.enc = .int .i64 t.a.n := by rw [Tm.I5]; rfl
@[simp] theorem Tm.A12 (t : Tm) : A7 13 t.enc = .list 3 (t.a.kids.map Ty.enc) := by rw [Tm.I5]; rfl
@[simp] theorem Tm.au (t : Tm) : A7 14 t.enc = .int .i64 t.b.kind := by rw [Tm.I5]; rfl
@[simp] theorem Tm.A5E (t : Tm) : A7 15 t.enc = .int .i64 t.b.n := by rw [Tm.I5]; rfl
@[simp] theorem Tm.B4l (t : Tm) : A7 16 t.enc = .list 3 (t.b.kids.map Ty.enc) := by rw [Tm.I5]; rfl
@[simp] theorem Tm.B4m (t : Tm) : A7 17 t.enc = .list 3 (t.args.map Ty.enc) := by rw [Tm.I5]; rfl
@[simp] theorem Tm.B4n (t : Tm) : A7 18 t.enc = .list 7 (t.F7.map C9.enc) := by rw [Tm.I5]; rfl
@[simp] theorem Tm.B4o (t : Tm) : A7 19 t.enc = .list 20 (t.kids.map Tm.enc) := by rw [Tm.I5]; rfl
theorem Tm.E8 (t : Tm) : DV.agg [.int .i64 t.kind, .int .i64 t.lo, .int .i64 t.hi, .str t.name, .str t.arg, .int .i64 t.n, .str t.s, .int .i64 t.op, .int .i64 t.label, .bool t.neg, E9 t.vars, .int .i64 t.a.kind, .int .i64 t.a.n, .list 3 (t.a.kids.map Ty.enc), .int .i64 t.b.kind, .int .i64 t.b.n, .list 3 (t.b.kids.map Ty.enc), .list 3 (t.args.map Ty.enc), .list 7 (t.F7.map C9.enc), .list 20 (t.kids.map Tm.enc)] = t.enc := (Tm.I5 t).symm
inductive C8 where
 | mk (types : List Ty) (vars : List Int) (kids : List C8)
def C8.types : C8 → List Ty | .mk x0 _ _ => x0
def C8.vars : C8 → List Int | .mk _ x1 _ => x1
def C8.kids : C8 → List C8 | .mk _ _ x2 => x2
@[simp] theorem C8.A6p (x0 : List Ty) (x1 : List Int) (x2 : List C8) : (C8.mk x0 x1 x2).types = x0 := rfl
@[simp] theorem C8.A2Y (x0 : List Ty) (x1 : List Int) (x2 : List C8) : (C8.mk x0 x1 x2).vars = x1 := rfl
@[simp] theorem C8.CR (x0 : List Ty) (x1 : List Int) (x2 : List C8) : (C8.mk x0 x1 x2).kids = x2 := rfl
def C8.enc : C8 → DV
 | .mk x0 x1 x2 => .agg [.list 3 (x0.map Ty.enc), E9 x1, .list 3 (x2.map C8.enc)]
theorem C8.I5 (t : C8) : t.enc = .agg [.list 3 (t.types.map Ty.enc), E9 t.vars, .list 3 (t.kids.map C8.enc)] := by cases t; rw [C8.enc]; rfl
noncomputable instance : DecidableEq C8 := fun a b => Classical.propDecidable (a = b)
@[simp] theorem KN (t : C8) : D5 3 t.enc = true := by rw [C8.I5]; rfl
@[simp] theorem C8.Dy (t : C8) : A7 0 t.enc = .list 3 (t.types.map Ty.enc) := by rw [C8.I5]; rfl
@[simp] theorem C8.LY (t : C8) : A7 1 t.enc = E9 t.vars := by rw [C8.I5]; rfl
@[simp] theorem C8.Ij (t : C8) : A7 2 t.enc = .list 3 (t.kids.map C8.enc) := by rw [C8.I5]; rfl
theorem C8.E8 (t : C8) : DV.agg [.list 3 (t.types.map Ty.enc), E9 t.vars, .list 3 (t.kids.map C8.enc)] = t.enc := (C8.I5 t).symm
theorem C8.Dj {t u : C8} : t = u ↔ t.types = u.types ∧ t.vars = u.vars ∧ t.kids = u.kids := ⟨fun h => by subst h; simp, fun h => by cases t; cases u; simp_all⟩
theorem C8.CX {t k : C8} (h : k ∈ t.kids) : SizeOf.sizeOf k < SizeOf.sizeOf t := by
 cases t;simp only [C8.CR] at h;have := List.sizeOf_lt_of_mem h;simp only [C8.mk.sizeOf_spec];omega
theorem C8.ind {P : C8 → Prop} (h : ∀ t, (∀ k ∈ t.kids, P k) → P t) (t : C8) : P t :=
 h t fun k hk => C8.ind h k
termination_by SizeOf.sizeOf t
decreasing_by exact C8.CX hk
def C8.J3 (t : C8) : Nat := 1 + (t.types.map Ty.size).sum + t.vars.length + (t.kids.attach.map fun k => C8.J3 k.1).sum
termination_by SizeOf.sizeOf t
decreasing_by exact C8.CX k.2
theorem C8.U2 (t : C8) : t.J3 = 1 + (t.types.map Ty.size).sum + t.vars.length + (t.kids.map C8.J3).sum := by
 rw [C8.J3]
 congr 2
 exact List.attach_map_val (f := C8.J3) ..
theorem C8.Dw (t : C8) : 0 < t.J3 := by rw [C8.U2]; omega
theorem C8.O3 {t k : C8} (h : k ∈ t.kids) : k.J3 < t.J3 := by
 rw [C8.U2 t];have := AY (List.mem_map_of_mem (f := C8.J3) h);omega
theorem C8.ah (t : C8) : t.kids.length < t.J3 := by
 rw [C8.U2];have : ∀ l : List C8, l.length ≤ (l.map C8.J3).sum := by
  intro l
  induction l with
  | nil => simp
  | cons x l ih => have := C8.Dw x; simp only [List.length_cons, List.map_cons, List.sum_cons]; omega
 have := this t.kids;omega
theorem C8.UR (t : C8) : (t.types.map Ty.size).sum < t.J3 := by rw [C8.U2]; omega
theorem C8.XC (t : C8) : t.vars.length < t.J3 := by rw [C8.U2]; omega
inductive B0m where
 | mk (kind : Int) (head : Int) (label : Int) (neg : Bool) (kids : List B0m)
noncomputable instance : DecidableEq B0m := fun a b => Classical.propDecidable (a = b)
inductive Val where
 | mk (kind : Int) (n : Int) (s : ByteArray) (c : B0m) (kids : List Val)
noncomputable instance : DecidableEq Val := fun a b => Classical.propDecidable (a = b)
@[simp] theorem Ty.ag (t : Ty) : H8 t.enc = t.enc := by rw [Ty.I5]; rfl
@[simp] theorem C8.ag (t : C8) : H8 t.enc = t.enc := by rw [C8.I5]; rfl
@[simp] theorem C9.ag (t : C9) : GD t.enc = t.enc := by rw [C9.I5]; rfl
@[simp] theorem Ex.ag (t : Ex) : L6 t.enc = t.enc := by rw [Ex.I5]; rfl
theorem Ex.pj (t : Ex) : A7 0 t.enc = .int .i64 t.kind ∧ A7 1 t.enc = .int .i64 t.lo ∧ A7 2 t.enc = .int .i64 t.hi ∧ A7 3 t.enc = .str t.name ∧ A7 4 t.enc = .str t.arg ∧ A7 5 t.enc = .int .i64 t.n ∧ A7 6 t.enc = .str t.s ∧ A7 7 t.enc = .int .i64 t.op ∧ A7 8 t.enc = .int .i64 t.a.kind ∧ A7 9 t.enc = .int .i64 t.a.n ∧ A7 10 t.enc = .list 3 (t.a.kids.map Ty.enc) ∧ A7 11 t.enc = .int .i64 t.b.kind ∧ A7 12 t.enc = .int .i64 t.b.n ∧ A7 13 t.enc = .list 3 (t.b.kids.map Ty.enc) ∧ A7 14 t.enc = .list 7 (t.F7.map C9.enc) ∧ A7 15 t.enc = .list 16 (t.kids.map Ex.enc) := ⟨t.Dy, t.LY, t.Ij, t.WN, t.Yj, t.eF, t.Yk, t.A4y, t.A4z, t.A4A, t.A1Z, t.A10, t.A11, t.A12, t.au, t.A5E⟩
theorem C9.pj (t : C9) : A7 0 t.enc = .int .i64 t.kind ∧ A7 1 t.enc = .int .i64 t.lo ∧ A7 2 t.enc = .int .i64 t.hi ∧ A7 3 t.enc = .str t.name ∧ A7 4 t.enc = .int .i64 t.n ∧ A7 5 t.enc = .str t.s ∧ A7 6 t.enc = .list 7 (t.kids.map C9.enc) := ⟨t.Dy, t.LY, t.Ij, t.WN, t.Yj, t.eF, t.Yk⟩
theorem Tm.pj (t : Tm) : A7 0 t.enc = .int .i64 t.kind ∧ A7 1 t.enc = .int .i64 t.lo ∧ A7 2 t.enc = .int .i64 t.hi ∧ A7 3 t.enc = .str t.name ∧ A7 4 t.enc = .str t.arg ∧ A7 5 t.enc = .int .i64 t.n ∧ A7 6 t.enc = .str t.s ∧ A7 7 t.enc = .int .i64 t.op ∧ A7 8 t.enc = .int .i64 t.label ∧ A7 9 t.enc = .bool t.neg ∧ A7 10 t.enc = E9 t.vars ∧ A7 11 t.enc = .int .i64 t.a.kind ∧ A7 12 t.enc = .int .i64 t.a.n ∧ A7 13 t.enc = .list 3 (t.a.kids.map Ty.enc) ∧ A7 14 t.enc = .int .i64 t.b.kind ∧ A7 15 t.enc = .int .i64 t.b.n ∧ A7 16 t.enc = .list 3 (t.b.kids.map Ty.enc) ∧ A7 17 t.enc = .list 3 (t.args.map Ty.enc) ∧ A7 18 t.enc = .list 7 (t.F7.map C9.enc) ∧ A7 19 t.enc = .list 20 (t.kids.map Tm.enc) := ⟨t.Dy, t.LY, t.Ij, t.WN, t.Yj, t.eF, t.Yk, t.A4y, t.A4z, t.A4A, t.A1Z, t.A10, t.A11, t.A12, t.au, t.A5E, t.B4l, t.B4m, t.B4n, t.B4o⟩
end Go.Su

/-
 PLAIN DATA: what the data's operations make of numbers, texts, lists.
-/
namespace Go.Su
@[simp] theorem H6 {α β : Type} (a : α) (f : α → Option β) : ob (some a) f = f a := rfl
@[simp] theorem B1h {α β : Type} (f : α → Option β) : ob none f = none := rfl
@[simp] theorem O8 {β : Type} (x : Option β) : og true x = x := rfl
@[simp] theorem A9R {β : Type} (x : Option β) : og false x = none := rfl
@[simp] theorem M9 {β : Type} (b : Bool) (x y : Option β) : D6 (.bool b) x y = if b = true then x else y := by cases b <;> rfl
@[simp] theorem V3 {β : Type} (b : Bool) (x y z : Option β) : I6 (.bool b) x y z = if b = true then x else y := by cases b <;> rfl
@[simp] theorem BB (sz : Nat) (ds : List DV) : dLen (.list sz ds) = some (.int .i64 ds.length) := rfl
@[simp] theorem A9d (l : List Int) : dLen (E9 l) = some (.int .i64 l.length) := by simp [E9]
@[simp] theorem B5D (l : List ByteArray) : dLen (Bn l) = some (.int .i64 l.length) := by simp [Bn]
@[simp] theorem B43 (sz : Nat) (ds : List DV) : A7U (.list sz ds) = some (sz, ds) := rfl
@[simp] theorem ED (s : ByteArray) : DT (.str s) = some (.int .i64 s.size) := rfl
@[simp] theorem Bw (k : IntKind) (a b : Int) : A8 .eql (.int k a) (.int k b) = some (.bool (decide (a = b))) := by
  simp only [A8, KP, Ll, if_true]; rfl
@[simp] theorem Im (k : IntKind) (a b : Int) : A8 .neq (.int k a) (.int k b) = some (.bool (!decide (a = b))) := by
  simp only [A8, KP, Ll, if_true]; rfl
@[simp] theorem Bz (k : IntKind) (a b : Int) : A8 .lss (.int k a) (.int k b) = some (.bool (decide (a < b))) := by
  simp only [A8, KP, Ll, if_true]
@[simp] theorem NJ (k : IntKind) (a b : Int) : A8 .leq (.int k a) (.int k b) = some (.bool (decide (a ≤ b))) := by
  simp only [A8, KP, Ll, if_true]
@[simp] theorem Cb (k : IntKind) (a b : Int) : A8 .gtr (.int k a) (.int k b) = some (.bool (decide (b < a))) := by
  simp only [A8, KP, Ll, if_true, gt_iff_lt]
@[simp] theorem VC (k : IntKind) (a b : Int) : A8 .geq (.int k a) (.int k b) = some (.bool (decide (b ≤ a))) := by
  simp only [A8, KP, Ll, if_true, ge_iff_le]
theorem kX (k : IntKind) (a b : Int) : A8 .add (.int k a) (.int k b) = some (.int k (k.wrap (a + b))) := by
 simp only [A8, KP, Ll, if_true]
theorem Df (k : IntKind) (a b : Int) : A8 .sub (.int k a) (.int k b) = some (.int k (k.wrap (a - b))) := by
 simp only [A8, KP, Ll, if_true]
theorem B0y (k : IntKind) (a b : Int) : A8 .mul (.int k a) (.int k b) = some (.int k (k.wrap (a * b))) := by
 simp only [A8, KP, Ll, if_true]
theorem CS {n : Int} (h1 : -9223372036854775808 ≤ n) (h2 : n ≤ 9223372036854775807) : IntKind.i64.wrap n = n := Go.IntWalk.i64_in n ⟨h1, h2⟩
theorem CO {a b : Int} (h1 : -9223372036854775808 ≤ a + b) (h2 : a + b ≤ 9223372036854775807) : A8 .add (.int .i64 a) (.int .i64 b) = some (.int .i64 (a + b)) := by
 rw [kX, CS h1 h2]
theorem K6 {i : Nat} (h : i < 9223372036854775807) : A8 .add (.int .i64 (i : Int)) (.int .i64 1) = some (.int .i64 ((i + 1 : Nat) : Int)) := by
 rw [CO (by omega) (by omega)]
 simp
theorem A9C {c : Prop} [Decidable c] {a b : Bool} : (if c then some (DV.bool a) else some (DV.bool b)) = some (DV.bool (if c then a else b)) := by split <;> rfl
theorem A9B {c : Prop} [Decidable c] {a b : Bool} : (if c then DV.bool a else DV.bool b) = DV.bool (if c then a else b) := by split <;> rfl
theorem B5o {c : Prop} [Decidable c] {a b : DV} : (if c then some a else some b) = some (if c then a else b) := by split <;> rfl
theorem B4F {a b : Bool} (h : a = true ↔ b = true) : some (DV.bool a) = some (DV.bool b) := by rw [Bool.eq_iff_iff.2 h]
theorem rE (s : ByteArray) : s.toList = s.data.toList := by
 have loop : ∀ (n i : Nat) (r : List UInt8), s.size - i = n → ByteArray.toList.loop s i r = r.reverse ++ s.data.toList.drop i := by
  intro n
  induction n with
  | zero =>
    intro i r h;rw [ByteArray.toList.loop, if_neg (by omega)]
    have : s.data.toList.length ≤ i := by simp only [Array.length_toList]; exact Nat.le_of_sub_eq_zero h
    simp [List.drop_of_length_le this]
  | succ n ih =>
    intro i r h;have hi : i < s.size := by omega
    rw [ByteArray.toList.loop, if_pos hi, ih (i + 1) _ (by omega)]
    have hl : i < s.data.toList.length := by simpa using hi
    rw [List.drop_eq_getElem_cons hl];have : s.get! i = s.data.toList[i] := by
     simp only [ByteArray.get!, Array.getElem_toList];exact getElem!_pos s.data i hi
    rw [this];simp
 rw [ByteArray.toList, loop _ 0 [] rfl];simp
theorem A3d {a b : ByteArray} (h : a.toList = b.toList) : a = b := by
 rw [rE, rE] at h;cases a; cases b;simp only [ByteArray.mk.injEq];exact Array.ext' h
theorem bZ (a b : ByteArray) : (a.toList == b.toList) = decide (a = b) := by
 by_cases h : a = b
 ·subst h; simp
 ·have : a.toList ≠ b.toList := fun h' => h (A3d h')
  simp [h, this]
@[simp] theorem rG (a b : ByteArray) : A8 .eql (.str a) (.str b) = some (.bool (decide (a = b))) := by
  simp only [A8, iK];rw [bZ]
@[simp] theorem Wd (a b : ByteArray) : A8 .neq (.str a) (.str b) = some (.bool (!decide (a = b))) := by
  simp only [A8, iK];rw [bZ]
@[simp] theorem B5C (a b : Bool) : A7S (.bool a) (.bool b) = some (a == b) := rfl
@[simp] theorem CP (b : Bool) : Q5 .not (.bool b) = some (.bool !b) := rfl
@[simp] theorem Ye (k : IntKind) (n : Int) : J4 (.int k n) = true := rfl
@[simp] theorem B4R (b : Bool) : J4 (.bool b) = true := rfl
@[simp] theorem A1L (s : ByteArray) : J4 (.str s) = true := rfl
@[simp] theorem zn (sz : Nat) (ds : List DV) : J4 (.list sz ds) = true := rfl
@[simp] theorem B4S (l : List Int) : J4 (E9 l) = true := rfl
@[simp] theorem B4T (l : List ByteArray) : J4 (Bn l) = true := rfl
@[simp] theorem B5m (k : IntKind) (n : Int) : M7 (.int k n) = true := rfl
@[simp] theorem B5n (s : ByteArray) : M7 (.str s) = true := rfl
@[simp] theorem B5F (n : Int) : isKey false (.int .i64 n) = true := rfl
@[simp] theorem A9A (s : ByteArray) : isKey true (.str s) = true := rfl
theorem rM (sz : Nat) (ds : List DV) (k : IntKind) (i : Nat) : F3 sz (.list sz ds) (.int k (i : Int)) = ds[i]? := by
 simp [F3]
theorem F4 {α : Type} {e : α → DV} {sz : Nat} {l : List α} {k : IntKind} {i : Nat} (h : i < l.length) : F3 sz (.list sz (l.map e)) (.int k (i : Int)) = some (e l[i]) := by
 rw [rM, List.getElem?_map, List.getElem?_eq_getElem h]; rfl
theorem U3 {l : List Int} {k : IntKind} {i : Nat} (h : i < l.length) : F3 1 (E9 l) (.int k (i : Int)) = some (.int .i64 l[i]) := F4 h
theorem rO {l : List ByteArray} {k : IntKind} {i : Nat} (h : i < l.length) : F3 1 (Bn l) (.int k (i : Int)) = some (.str l[i]) := F4 h
theorem DL {sz : Nat} {a b : List DV} (h : a.length + b.length ≤ lim) : R6 sz (.list sz a) (.list sz b) = some (.list sz (a ++ b)) := by
 simp [R6, h]
theorem A3w {α A X : Type} {l : List α} {P : Int → A → Option X} {I : Nat → A → Prop} {F : List α → A → Option X} (stop : ∀ a, I l.length a → P l.length a = F [] a)
 (step : ∀ (i : Nat) (h : i < l.length) a, I i a → (∀ a', I (i + 1) a' → P ((i : Int) + 1) a' = F (l.drop (i + 1)) a') → P i a = F (l[i] :: l.drop (i + 1)) a) :
 ∀ a, I 0 a → P 0 a = F l a := by
 have key : ∀ (n i : Nat) a, i + n = l.length → I i a → P i a = F (l.drop i) a := by
  intro n
  induction n with
  | zero =>
    intro i a hi ha;have : i = l.length := by omega
    subst this;rw [stop a ha, List.drop_length]
  | succ n ih =>
    intro i a hi ha;have h : i < l.length := by omega
    rw [List.drop_eq_getElem_cons h];refine step i h a ha fun a' ha' => ?_
    have := ih (i + 1) a' (by omega) ha'
    push_cast at this;exact this
 intro a ha;have := key l.length 0 a (by omega) ha
 simpa using this
theorem Ni {α X : Type} {l : List α} {P : Int → Option X} {f : α → Bool} {y n : X} (stop : P l.length = some y)
 (step : ∀ (i : Nat) (h : i < l.length), P i = if f l[i] = true then P ((i : Int) + 1) else some n) : P 0 = some (if l.all f = true then y else n) := by
 have := A3w (l := l) (P := fun i (_ : Unit) => P i) (I := fun _ _ => True) (F := fun l _ => some (if l.all f = true then y else n)) (fun _ _ => by simpa using stop)
  (fun i h a _ ih => by
    rw [step i h];have h2 := ih () trivial;rw [h2];simp only [List.all_cons, Bool.and_eq_true]
    by_cases h3 : f l[i] = true <;> simp [h3]) () trivial
 exact this
theorem GL {α A X : Type} {l : List α} {P : Int → A → Option X} {g : A → α → A} {fin : A → Option X} {I : Nat → A → Prop} (stop : ∀ a, I l.length a → P l.length a = fin a)
 (step : ∀ (i : Nat) (h : i < l.length) a, I i a → P i a = P ((i : Int) + 1) (g a l[i]) ∧ I (i + 1) (g a l[i])) : ∀ a, I 0 a → P 0 a = fin (l.foldl g a) := by
 refine A3w (F := fun l a => fin (l.foldl g a)) (fun a ha => by simpa using stop a ha) fun i h a ha ih => ?_
 obtain ⟨h1, h2⟩ := step i h a ha;rw [h1, ih _ h2];rfl
theorem Nj {α X : Type} [DecidableEq α] {l m : List α} (hl : l.length = m.length) {P : Int → Option X} {y n : X} (stop : P l.length = some y)
 (step : ∀ (i : Nat) (h : i < l.length), P i = if l[i] = m[i]'(by omega) then P ((i : Int) + 1) else some n) : P 0 = some (if l = m then y else n) := by
 have key : ∀ (k i : Nat), i + k = l.length → P i = some (if l.drop i = m.drop i then y else n) := by
  intro k
  induction k with
  | zero =>
    intro i hi;have : i = l.length := by omega
    subst this;rw [stop, List.drop_length, List.drop_of_length_le (by omega), if_pos rfl]
  | succ k ih =>
    intro i hi;have h : i < l.length := by omega
    have h' : i < m.length := by omega
    have h2 := ih (i + 1) (by omega)
    push_cast at h2;have e1 : l.drop i = l[i] :: l.drop (i + 1) := List.drop_eq_getElem_cons h;have e2 : m.drop i = m[i] :: m.drop (i + 1) := List.drop_eq_getElem_cons h';have e3 : (l.drop i = m.drop i) ↔ (l[i] = m[i] ∧ l.drop (i + 1) = m.drop (i + 1)) := by rw [e1, e2, List.cons.injEq]
    rw [step i h, h2]
    by_cases h3 : l[i] = m[i] <;> by_cases h4 : l.drop (i + 1) = m.drop (i + 1) <;> simp only [e3, h3, h4, true_and, and_true, false_and, and_false, if_true, if_false]
 have := key l.length 0 (by omega)
 simpa using this
theorem XB {α : Type} {l : List α} {P : Int → Option DV} {f : α → Bool} (stop : P l.length = some (.bool true))
 (step : ∀ (i : Nat) (h : i < l.length), P i = if f l[i] = true then P ((i : Int) + 1) else some (.bool false)) : P 0 = some (.bool (l.all f)) := by
 rw [Ni stop step];cases l.all f <;> rfl
theorem vO {α : Type} {l : List α} {P : Int → Option DV} {f : α → Bool} (stop : P l.length = some (.bool false))
 (step : ∀ (i : Nat) (h : i < l.length), P i = if f l[i] = true then some (.bool true) else P ((i : Int) + 1)) : P 0 = some (.bool (l.any f)) := by
 have := Ni (l := l) (P := P) (f := fun x => !f x) (y := .bool false) (n := .bool true) stop (fun i h => by rw [step i h]; cases f l[i] <;> rfl)
 rw [this, show l.any f = !l.all (fun x => !f x) by rw [List.all_eq_not_any_not]; simp]
 cases l.all (fun x => !f x) <;> rfl
theorem df {α : Type} [DecidableEq α] {l m : List α} (hl : l.length = m.length) {P : Int → Option DV} (stop : P l.length = some (.bool true))
 (step : ∀ (i : Nat) (h : i < l.length), P i = if l[i] = m[i]'(by omega) then P ((i : Int) + 1) else some (.bool false)) : P 0 = some (.bool (decide (l = m))) := by
 rw [Nj hl stop step]
 by_cases h : l = m <;> simp [h]
end Go.Su

/-
 FROM A READING TO DATA: what an argument reads as lies in memory as plain data.
-/
namespace Go.Su
mutual
def AF {H : Type} : DataW H → Nat
 | .lit (.string bytes) => bytes.length + 1
 | .lit _ => 1
 | .nil => 1
 | .ptr d => AF d + 1
 | .slice elems spare => FN elems + FN spare + 1
 | .agg parts => FN parts + 1
 | .iface _ d => AF d + 1
 | .map entries => Pv entries + 1
 | .held _ => 1
def FN {H : Type} : List (DataW H) → Nat
 | [] => 0
 | d :: r => AF d + FN r
def Pv {H : Type} : List (Lit × DataW H) → Nat
 | [] => 0
 | x :: r => rD x + Pv r
def rD {H : Type} : Lit × DataW H → Nat
 | (.string bytes, d) => bytes.length + AF d + 1
 | (_, d) => AF d + 1
end
def ZK (w : World) : Q0 := fun b _ => b < w.heap.size
section
variable {H : Type} {enc : TypeId × Value → H} {P : Program} {w : World} {held : Bool}
abbrev Rd (enc : TypeId × Value → H) (P : Program) (w : World) (held : Bool) : Nat → TypeId → List Value → Option (DataW H × List MemPlace) := DataW.trod enc P w 0 (fun _ => true) held
theorem A7K {l : List (DataW H)} {m : List Nat} (h1 : m.length = l.length) (h2 : ∀ (i : Nat) (a : Nat) (d : DataW H), m[i]? = some a → l[i]? = some d → a ≤ AF d) : m.sum ≤ FN l := by
 induction l generalizing m with
 | nil => cases m <;> simp_all
 | cons d l ih =>
   cases m with
   | nil => simp at h1
   | cons a m =>
     simp only [List.sum_cons, FN];have h3 := h2 0 a d rfl rfl;have h4 := ih (m := m) (by simpa using h1) fun i a d ha hd => h2 (i + 1) a d (by simpa using ha) (by simpa using hd)
     omega
theorem add_block (a : Addr) (k : Nat) : (a.add k).block = a.block := by unfold Addr.add; split <;> rfl
theorem B18 (a : Addr) (k : Nat) : (a.add k).off = a.off + k := by unfold Addr.add; split <;> simp_all
theorem A5G {a : Addr} {n : Nat} {cs : List Value} (h : w.cells? 0 a n = some cs) (hn : 0 < n) : a.spot = none ∧ cs.length = n ∧ At (ZK w) w.heap a.block a.off cs := by
 obtain ⟨-, hl, hc⟩ := World.cells?_some h;have hs : a.spot = none := by
  have h0 := hc 0 hn;have : cs[0]? = some (cs[0]'(by omega)) := List.getElem?_eq_getElem (by omega)
  rw [this] at h0;unfold World.cell? at h0
  split at h0
  ·split at h0
   ·cases h0
   ·rename_i hsp
    simpa [Addr.add] using hsp
  ·cases h0
 refine ⟨hs, hl, fun j v hv => ?_⟩
 have hj : j < n := by rw [← hl]; exact (List.getElem?_eq_some_iff.1 hv).1
 have h1 := hc j hj;have e : a.add j = ⟨a.block, a.off + j, none⟩ := by
  unfold Addr.add
  split
  ·rename_i h0; cases a; simp only at hs; subst hs; simp [h0]
  ·rfl
 rw [e, Jq, hv] at h1;refine ⟨h1, ?_⟩;unfold Su.hc at h1
 split at h1
 ·rename_i hb
  exact (Array.getElem?_eq_some_iff.1 hb).1
 ·cases h1
theorem RQ {α : Type} {e : α → DV} {sz : α → Nat} {el t : TypeId} {fuel : Nat} {cs : List Value} {x : DataW H × List MemPlace} (ht : P.underlying t = some (.slice el)) (hz : 0 < P.cellsOf el)
 (h : ∀ n cs x, n < fuel → Rd enc P w held n el cs = some x → ∃ a : α, RC (ZK w) w.heap (e a) cs ∧ sz a ≤ AF x.1) (hr : Rd enc P w held fuel t cs = some x) :
 ∃ l : List α, RC (ZK w) w.heap (.list (P.cellsOf el) (l.map e)) cs ∧ (l.map sz).sum + 1 ≤ AF x.1 := by
 rcases DataW.trod_slice ht hr with ⟨rfl, rfl⟩ | ⟨a, len, cap, elems, rest, n, rfl, rfl, rfl, hb, hlc, hcm, zf, hi, hsp, -⟩
 ·refine ⟨[], ?_, by simp [AF]⟩
  simp only [RC, List.map_nil];exact ⟨none, 0, 0, rfl, rfl, Nat.le_refl _, fun _ => rfl, by simp, by simp⟩
 ·have each : ∀ i : Fin len, ∃ y : α, ((i.1 = 0 → a.spot = none) ∧ Elem (ZK w) w.heap (P.cellsOf el) a.block (a.off + i.1 * P.cellsOf el) (e y)) ∧ ∀ d, (elems.map (·.1))[i.1]? = some d → sz y ≤ AF d := by
   intro i;have h1 := hi i.1 i.2;have h2 : elems[i.1]? = some (elems[i.1]'(by omega)) := List.getElem?_eq_getElem (by omega)
   rw [h2] at h1;obtain ⟨cs', h3, h4⟩ := Option.bind_eq_some_iff.1 h1;obtain ⟨y, h5, h6⟩ := h n cs' _ (Nat.lt_succ_self n) h4;obtain ⟨q1, q2, q3⟩ := A5G h3 hz;rw [add_block, B18] at q3;refine ⟨y, ⟨fun h0 => by rw [h0] at q1; simpa [Addr.add] using q1, cs', q2, q3, h5⟩, fun d hd => ?_⟩
   rw [List.getElem?_map, h2] at hd;simp only [Option.map_some, Option.some.injEq] at hd;rw [← hd];exact h6
  let f : Fin len → α := fun i => (each i).choose
  have hf := fun i : Fin len => (each i).choose_spec
  refine ⟨List.ofFn f, ?_, ?_⟩
  ·simp only [RC]
   refine ⟨some a, len, cap, rfl, by simp, hlc, by simp, fun _ => hz, fun y hy => ?_⟩
   simp only [Option.some.injEq] at hy;subst hy;refine ⟨fun A2y => ?_, ?_⟩
   ·by_cases hl : 0 < len
    ·exact (hf ⟨0, hl⟩).1.1 rfl
    ·obtain ⟨r1, r2⟩ := hsp rfl
     have h1 := r2 0 (by omega)
     have h2 : rest[0]? = some (rest[0]'(by omega)) := List.getElem?_eq_getElem (by omega)
     rw [h2] at h1;obtain ⟨cs', h3, -⟩ := Option.bind_eq_some_iff.1 h1;have hl0 : len = 0 := by omega
     have := (A5G h3 hz).1;simpa [Addr.add, hl0] using this
   ·rw [C_]
    intro i d hd;rw [List.getElem?_map, Option.map_eq_some_iff] at hd;obtain ⟨y, hy, rfl⟩ := hd;have I4 : i < len := by have := (List.getElem?_eq_some_iff.1 hy).1; simpa using this
    rw [List.getElem?_ofFn, dif_pos I4] at hy;simp only [Option.some.injEq] at hy;subst hy;exact (hf ⟨i, I4⟩).1.2
  ·simp only [AF]
   have := A7K (l := elems.map (·.1)) (m := (List.ofFn f).map sz) (by simp [zf]) fun i b d hb hd => by
    rw [List.getElem?_map, Option.map_eq_some_iff] at hb;obtain ⟨y, hy, rfl⟩ := hb;have I4 : i < len := by have := (List.getElem?_eq_some_iff.1 hy).1; simpa using this
    rw [List.getElem?_ofFn, dif_pos I4] at hy;simp only [Option.some.injEq] at hy;subst hy;exact (hf ⟨i, I4⟩).2 d hd
   omega
theorem X0 {S : Q0} {h : Heap} : ∀ {a b : List DV} {p q : List Value}, Fe S h a p → Fe S h b q → Fe S h (a ++ b) (p ++ q)
 | [], b, p, q, ha, hb => by simp only [Fe] at ha; subst ha; simpa using hb
 | d :: a, b, p, q, ha, hb => by
   simp only [Fe] at ha;obtain ⟨v, vs', rfl, h1, h2, h3⟩ := ha;simp only [List.cons_append, Fe];exact ⟨v, vs' ++ q, rfl, h1, h2, X0 h3 hb⟩
theorem BV {S : Q0} {h : Heap} {d : DV} {cs : List Value} (hd : M7 d = true) (hr : RC S h d cs) : Fe S h [d] cs := by
 obtain ⟨v, rfl⟩ := MG hd hr;exact ⟨v, [], rfl, hd, hr, rfl⟩
theorem XF {fs : Array Field} {t : TypeId} {fuel : Nat} {cs : List Value} {x : DataW H × List MemPlace} (ht : P.underlying t = some (.struct fs)) (hr : Rd enc P w held fuel t cs = some x) :
 ∃ (n : Nat) (ds : List (DataW H)), fuel = n + 1 ∧ AF x.1 = FN ds + 1 ∧ cs.length = P.cellsOf t ∧ ds.length = fs.size ∧
   ∀ (i : Nat) f, fs[i]? = some f → ∃ y, Rd enc P w held n f.type ((cs.drop f.offset).take (P.cellsOf f.type)) = some y ∧ ds[i]? = some y.1 := by
 obtain ⟨xs, n, rfl, rfl, h1, h2, h3⟩ := DataW.trod_struct ht hr;refine ⟨n, xs.map (·.1), rfl, by simp [AF], h1, by simpa using h2, fun i f hf => ?_⟩
 have hi : i < xs.length := by rw [h2]; exact (Array.getElem?_eq_some_iff.1 hf).1
 refine ⟨xs[i], ?_, by simp [List.getElem?_eq_getElem hi]⟩
 have h4 := h3 i f hf;rw [List.getElem?_eq_getElem hi] at h4;exact h4
theorem QN {k : IntKind} {t : TypeId} {fuel : Nat} {cs : List Value} {x : DataW H × List MemPlace} (ht : P.underlying t = some (.int k)) (hr : Rd enc P w held fuel t cs = some x) : ∃ n : Int, RC (ZK w) w.heap (.int k n) cs ∧ (Lit.int k n).wf = true ∧ 1 ≤ AF x.1 := by
 obtain ⟨n, rfl, rfl, hw⟩ := DataW.trod_int ht hr;exact ⟨n, by simp only [RC], hw, by simp [AF]⟩
theorem vW {t : TypeId} {fuel : Nat} {cs : List Value} {x : DataW H × List MemPlace} (ht : P.underlying t = some .string) (hr : Rd enc P w held fuel t cs = some x) : ∃ s : ByteArray, RC (ZK w) w.heap (.str s) cs ∧ s.size + 1 ≤ AF x.1 := by
 obtain ⟨s, rfl, rfl, hw⟩ := DataW.trod_string ht hr;exact ⟨s, by simp only [RC], by simp [AF]⟩
theorem A82 (d : DataW H) : 1 ≤ AF d := by
 cases d with
 | lit l => cases l <;> simp [AF]
 | _ => simp [AF]
end
end Go.Su

/-
 FROM A READING TO DATA: the program's types, one by one. By program.
-/
namespace Go.Su
def QX (P : Program) (t : TypeId) : Prop := P.underlying t = some (.int .i64) ∧ P.cellsOf t = 1
def wS (P : Program) (t : TypeId) : Prop := P.underlying t = some .string ∧ P.cellsOf t = 1
def SliceAt (P : Program) (t el : TypeId) : Prop := P.underlying t = some (.slice el) ∧ P.cellsOf t = 1
def A09 (P : Program) (t : TypeId) : Prop := ∃ f0 f1 : Field, P.underlying t = some (.struct #[f0, f1]) ∧ P.cellsOf t = 2 ∧ (QX P f0.type ∧ f0.offset = 0) ∧ (QX P f1.type ∧ f1.offset = 1)
def A4B (P : Program) (t : TypeId) : Prop := ∃ el, SliceAt P t el ∧ QX P el
section
variable {H : Type} {enc : TypeId × Value → H} {P : Program} {w : World} {held : Bool}
theorem B2Y {t : TypeId} (A : A4B P t) {fuel : Nat} {cs : List Value} {x : DataW H × List MemPlace} (hr : Rd enc P w held fuel t cs = some x) : ∃ l : List Int, RC (ZK w) w.heap (E9 l) cs ∧ l.length + 1 ≤ AF x.1 := by
 obtain ⟨el, A1, A2⟩ := A;obtain ⟨l, h1, h2⟩ := RQ (e := fun n : Int => .int .i64 n) (sz := fun _ => 1) A1.1 (by rw [A2.2]; omega) (fun n cs x _ h => by obtain ⟨n, h1, -, h2⟩ := QN A2.1 h; exact ⟨n, h1, h2⟩) hr
 rw [A2.2] at h1;have h3 : ∀ l : List Int, (l.map fun _ => 1).sum = l.length := by
  intro l
  induction l with
  | nil => rfl
  | cons a l ih => simp only [List.map_cons, List.sum_cons, ih, List.length_cons]; omega
 rw [h3] at h2;exact ⟨l, h1, h2⟩
theorem A7u {t : TypeId} (A : A09 P t) {fuel : Nat} {cs : List Value} {x : DataW H × List MemPlace} (hr : Rd enc P w held fuel t cs = some x) : ∃ a b : Int, Fe (ZK w) w.heap [.int .i64 a, .int .i64 b] cs ∧ 1 ≤ AF x.1 := by
 obtain ⟨f0, f1, hu, hc, ⟨t0, o0⟩, t1, o1⟩ := A;obtain ⟨n, ds, rfl, hb, hl, hd, hf⟩ := XF hu hr;obtain ⟨y0, r0, d0⟩ := hf 0 f0 rfl;obtain ⟨y1, r1, d1⟩ := hf 1 f1 rfl;rw [o0, t0.2] at r0;rw [o1, t1.2] at r1;rw [hc] at hl;obtain ⟨k, q0, -, b0⟩ := QN t0.1 r0;obtain ⟨m, q1, -, b1⟩ := QN t1.1 r1;refine ⟨k, m, ?_, A82 _⟩;have e : cs = (cs.drop 0).take 1 ++ (cs.drop 1).take 1 := by
  match cs, hl with
  | [a, b], _ => rfl
 rw [e];exact X0 (a := [_]) (BV rfl q0) (BV rfl q1)
def A0e (P : Program) (t : TypeId) : Prop := ∃ f0 f1 f2 : Field, P.underlying t = some (.struct #[f0, f1, f2]) ∧ P.cellsOf t = 3 ∧ (QX P f0.type ∧ f0.offset = 0) ∧ (QX P f1.type ∧ f1.offset = 1) ∧ (SliceAt P f2.type t ∧ f2.offset = 2)
theorem A0e.cells {t : TypeId} (A : A0e P t) : P.cellsOf t = 3 := by obtain ⟨_, _, _, _, h, _⟩ := A; exact h
theorem A8w {t : TypeId} (A : A0e P t) : ∀ (fuel : Nat) (cs : List Value) (x : DataW H × List MemPlace), Rd enc P w held fuel t cs = some x → ∃ a : Ty, RC (ZK w) w.heap a.enc cs ∧ a.size ≤ AF x.1 := by
 intro fuel
 induction fuel using Nat.strongRecOn with
 | ind fuel ih =>
   intro cs x hr;have A0 := A;obtain ⟨f0, f1, f2, hu, hc, ⟨t0, o0⟩, ⟨t1, o1⟩, t2, o2⟩ := A;obtain ⟨n, ds, rfl, hb, hl, hd, hf⟩ := XF hu hr;rw [hc] at hl;obtain ⟨y0, r0, d0⟩ := hf 0 f0 rfl;rw [o0, t0.2] at r0;obtain ⟨v0, q0, -, b0⟩ := QN t0.1 r0;obtain ⟨y1, r1, d1⟩ := hf 1 f1 rfl;rw [o1, t1.2] at r1;obtain ⟨v1, q1, -, b1⟩ := QN t1.1 r1;obtain ⟨y2, r2, d2⟩ := hf 2 f2 rfl;rw [o2, t2.2] at r2;obtain ⟨v2, q2, b2⟩ := RQ (sz := Ty.size) t2.1 (by rw [hc]; omega) (fun n' cs x hn h => ih n' (by omega) cs x h) r2
   rw [hc] at q2;refine ⟨.mk v0 v1 v2, ?_, ?_⟩
   ·rw [Ty.I5]
    simp only [RC, Ty.KQ, Ty.gN, Ty.CR];have e : cs = (cs.drop 0).take 1 ++ ((cs.drop 1).take 1 ++ ((cs.drop 2).take 1)) := by
     match cs, hl with
     | [c0, c1, c2], _ => rfl
    rw [e];exact (X0 (a := [_]) (BV rfl q0) (X0 (a := [_]) (BV rfl q1) (BV rfl q2)))
   ·rw [Ty.size_eq, hb]
    simp only [Ty.KQ, Ty.gN, Ty.CR];have hs : ds = [y0.1, y1.1, y2.1] := by
     have hd : ds.length = 3 := hd
     match ds, hd, d0, d1, d2 with
     | [a0, a1, a2], _, d0, d1, d2 => simp_all
    rw [hs];simp only [FN];omega
def A08 (P : Program) (t : TypeId) : Prop := ∃ f0 f1 f2 f3 f4 f5 : Field, P.underlying t = some (.struct #[f0, f1, f2, f3, f4, f5]) ∧ P.cellsOf t = 7 ∧ (QX P f0.type ∧ f0.offset = 0) ∧ (A09 P f1.type ∧ f1.offset = 1) ∧ (wS P f2.type ∧ f2.offset = 3) ∧ (QX P f3.type ∧ f3.offset = 4) ∧ (wS P f4.type ∧ f4.offset = 5) ∧ (SliceAt P f5.type t ∧ f5.offset = 6)
theorem A08.cells {t : TypeId} (A : A08 P t) : P.cellsOf t = 7 := by obtain ⟨_, _, _, _, _, _, _, h, _⟩ := A; exact h
theorem B4C {t : TypeId} (A : A08 P t) : ∀ (fuel : Nat) (cs : List Value) (x : DataW H × List MemPlace), Rd enc P w held fuel t cs = some x → ∃ a : C9, RC (ZK w) w.heap a.enc cs ∧ a.J3 ≤ AF x.1 := by
 intro fuel
 induction fuel using Nat.strongRecOn with
 | ind fuel ih =>
   intro cs x hr;have A0 := A;obtain ⟨f0, f1, f2, f3, f4, f5, hu, hc, ⟨t0, o0⟩, ⟨t1, o1⟩, ⟨t2, o2⟩, ⟨t3, o3⟩, ⟨t4, o4⟩, t5, o5⟩ := A;obtain ⟨n, ds, rfl, hb, hl, hd, hf⟩ := XF hu hr;rw [hc] at hl;obtain ⟨y0, r0, d0⟩ := hf 0 f0 rfl;rw [o0, t0.2] at r0;obtain ⟨v0, q0, -, b0⟩ := QN t0.1 r0;obtain ⟨y1, r1, d1⟩ := hf 1 f1 rfl;obtain ⟨g10, g11, gu1, gc1, gr1⟩ := id t1;rw [o1, gc1] at r1;obtain ⟨v1, v1b, q1, b1⟩ := A7u t1 r1;obtain ⟨y2, r2, d2⟩ := hf 2 f2 rfl;rw [o2, t2.2] at r2;obtain ⟨v2, q2, b2⟩ := vW t2.1 r2;obtain ⟨y3, r3, d3⟩ := hf 3 f3 rfl;rw [o3, t3.2] at r3;obtain ⟨v3, q3, -, b3⟩ := QN t3.1 r3;obtain ⟨y4, r4, d4⟩ := hf 4 f4 rfl;rw [o4, t4.2] at r4;obtain ⟨v4, q4, b4⟩ := vW t4.1 r4;obtain ⟨y5, r5, d5⟩ := hf 5 f5 rfl;rw [o5, t5.2] at r5;obtain ⟨v5, q5, b5⟩ := RQ (sz := C9.J3) t5.1 (by rw [hc]; omega) (fun n' cs x hn h => ih n' (by omega) cs x h) r5
   rw [hc] at q5;refine ⟨.mk v0 v1 v1b v2 v3 v4 v5, ?_, ?_⟩
   ·rw [C9.I5]
    simp only [RC, C9.KQ, C9.w_, C9.wm, C9.Vj, C9.gN, C9.A0C, C9.CR];have e : cs = (cs.drop 0).take 1 ++ ((cs.drop 1).take 2 ++ ((cs.drop 3).take 1 ++ ((cs.drop 4).take 1 ++ ((cs.drop 5).take 1 ++ ((cs.drop 6).take 1))))) := by
     match cs, hl with
     | [c0, c1, c2, c3, c4, c5, c6], _ => rfl
    rw [e];exact (X0 (a := [_]) (BV rfl q0) (X0 (a := [_, _]) (q1) (X0 (a := [_]) (BV rfl q2) (X0 (a := [_]) (BV rfl q3) (X0 (a := [_]) (BV rfl q4) (BV rfl q5))))))
   ·rw [C9.U2, hb]
    simp only [C9.KQ, C9.w_, C9.wm, C9.Vj, C9.gN, C9.A0C, C9.CR];have hs : ds = [y0.1, y1.1, y2.1, y3.1, y4.1, y5.1] := by
     have hd : ds.length = 6 := hd
     match ds, hd, d0, d1, d2, d3, d4, d5 with
     | [a0, a1, a2, a3, a4, a5], _, d0, d1, d2, d3, d4, d5 => simp_all
    rw [hs];simp only [FN];omega
def B3h (P : Program) (t : TypeId) : Prop := ∃ f0 f1 f2 f3 f4 f5 f6 f7 f8 f9 f10 : Field, P.underlying t = some (.struct #[f0, f1, f2, f3, f4, f5, f6, f7, f8, f9, f10]) ∧ P.cellsOf t = 16 ∧ (QX P f0.type ∧ f0.offset = 0) ∧ (A09 P f1.type ∧ f1.offset = 1) ∧ (wS P f2.type ∧ f2.offset = 3) ∧ (wS P f3.type ∧ f3.offset = 4) ∧ (QX P f4.type ∧ f4.offset = 5) ∧ (wS P f5.type ∧ f5.offset = 6) ∧ (QX P f6.type ∧ f6.offset = 7) ∧ (A0e P f7.type ∧ f7.offset = 8) ∧ (A0e P f8.type ∧ f8.offset = 11) ∧ ((∃ el, SliceAt P f9.type el ∧ A08 P el) ∧ f9.offset = 14) ∧ (SliceAt P f10.type t ∧ f10.offset = 15)
theorem B5x {t : TypeId} (A : B3h P t) : ∀ (fuel : Nat) (cs : List Value) (x : DataW H × List MemPlace), Rd enc P w held fuel t cs = some x → ∃ a : Ex, RC (ZK w) w.heap a.enc cs ∧ a.J3 ≤ AF x.1 := by
 intro fuel
 induction fuel using Nat.strongRecOn with
 | ind fuel ih =>
   intro cs x hr;have A0 := A;obtain ⟨f0, f1, f2, f3, f4, f5, f6, f7, f8, f9, f10, hu, hc, ⟨t0, o0⟩, ⟨t1, o1⟩, ⟨t2, o2⟩, ⟨t3, o3⟩, ⟨t4, o4⟩, ⟨t5, o5⟩, ⟨t6, o6⟩, ⟨t7, o7⟩, ⟨t8, o8⟩, ⟨t9, o9⟩, wK, o10⟩ := A;obtain ⟨n, ds, rfl, hb, hl, hd, hf⟩ := XF hu hr;rw [hc] at hl;obtain ⟨y0, r0, d0⟩ := hf 0 f0 rfl;rw [o0, t0.2] at r0;obtain ⟨v0, q0, -, b0⟩ := QN t0.1 r0;obtain ⟨y1, r1, d1⟩ := hf 1 f1 rfl;obtain ⟨g10, g11, gu1, gc1, gr1⟩ := id t1;rw [o1, gc1] at r1;obtain ⟨v1, v1b, q1, b1⟩ := A7u t1 r1;obtain ⟨y2, r2, d2⟩ := hf 2 f2 rfl;rw [o2, t2.2] at r2;obtain ⟨v2, q2, b2⟩ := vW t2.1 r2;obtain ⟨y3, r3, d3⟩ := hf 3 f3 rfl;rw [o3, t3.2] at r3;obtain ⟨v3, q3, b3⟩ := vW t3.1 r3;obtain ⟨y4, r4, d4⟩ := hf 4 f4 rfl;rw [o4, t4.2] at r4;obtain ⟨v4, q4, -, b4⟩ := QN t4.1 r4;obtain ⟨y5, r5, d5⟩ := hf 5 f5 rfl;rw [o5, t5.2] at r5;obtain ⟨v5, q5, b5⟩ := vW t5.1 r5;obtain ⟨y6, r6, d6⟩ := hf 6 f6 rfl;rw [o6, t6.2] at r6;obtain ⟨v6, q6, -, b6⟩ := QN t6.1 r6;obtain ⟨y7, r7, d7⟩ := hf 7 f7 rfl;rw [o7, t7.cells] at r7;obtain ⟨v7, q7, b7⟩ := A8w t7 _ _ _ r7;rw [Ty.I5] at q7;simp only [RC] at q7;obtain ⟨y8, r8, d8⟩ := hf 8 f8 rfl;rw [o8, t8.cells] at r8;obtain ⟨v8, q8, b8⟩ := A8w t8 _ _ _ r8;rw [Ty.I5] at q8;simp only [RC] at q8;obtain ⟨y9, r9, d9⟩ := hf 9 f9 rfl;obtain ⟨e9, s9, z9⟩ := t9;rw [o9, s9.2] at r9;obtain ⟨v9, q9, b9⟩ := RQ (sz := C9.J3) s9.1 (by rw [z9.cells]; omega) (fun n' cs x hn h => B4C z9 n' cs x h) r9
   rw [z9.cells] at q9;obtain ⟨y10, r10, W9⟩ := hf 10 f10 rfl;rw [o10, wK.2] at r10;obtain ⟨v10, q10, b10⟩ := RQ (sz := Ex.J3) wK.1 (by rw [hc]; omega) (fun n' cs x hn h => ih n' (by omega) cs x h) r10
   rw [hc] at q10;refine ⟨.mk v0 v1 v1b v2 v3 v4 v5 v6 v7 v8 v9 v10, ?_, ?_⟩
   ·rw [Ex.I5]
    simp only [RC, Ex.KQ, Ex.w_, Ex.wm, Ex.Vj, Ex.A1c, Ex.gN, Ex.A0C, Ex.A4x, Ex.A7G, Ex.A7J, Ex.xF, Ex.CR];have e : cs = (cs.drop 0).take 1 ++ ((cs.drop 1).take 2 ++ ((cs.drop 3).take 1 ++ ((cs.drop 4).take 1 ++ ((cs.drop 5).take 1 ++ ((cs.drop 6).take 1 ++ ((cs.drop 7).take 1 ++ ((cs.drop 8).take 3 ++ ((cs.drop 11).take 3 ++ ((cs.drop 14).take 1 ++ ((cs.drop 15).take 1)))))))))) := by
     match cs, hl with
     | [c0, c1, c2, c3, c4, c5, c6, c7, c8, c9, c10, c11, c12, c13, c14, c15], _ => rfl
    rw [e];exact (X0 (a := [_]) (BV rfl q0) (X0 (a := [_, _]) (q1) (X0 (a := [_]) (BV rfl q2) (X0 (a := [_]) (BV rfl q3) (X0 (a := [_]) (BV rfl q4) (X0 (a := [_]) (BV rfl q5) (X0 (a := [_]) (BV rfl q6) (X0 (a := [_, _, _]) (q7) (X0 (a := [_, _, _]) (q8) (X0 (a := [_]) (BV rfl q9) (BV rfl q10)))))))))))
   ·rw [Ex.U2, hb]
    simp only [Ex.KQ, Ex.w_, Ex.wm, Ex.Vj, Ex.A1c, Ex.gN, Ex.A0C, Ex.A4x, Ex.A7G, Ex.A7J, Ex.xF, Ex.CR];have hs : ds = [y0.1, y1.1, y2.1, y3.1, y4.1, y5.1, y6.1, y7.1, y8.1, y9.1, y10.1] := by
     have hd : ds.length = 11 := hd
     match ds, hd, d0, d1, d2, d3, d4, d5, d6, d7, d8, d9, W9 with
     | [a0, a1, a2, a3, a4, a5, a6, a7, a8, a9, ZU], _, d0, d1, d2, d3, d4, d5, d6, d7, d8, d9, W9 => simp_all
    rw [hs];simp only [FN];omega
def A7c (P : Program) (t : TypeId) : Prop := ∃ f0 f1 f2 : Field, P.underlying t = some (.struct #[f0, f1, f2]) ∧ P.cellsOf t = 3 ∧ ((∃ el, SliceAt P f0.type el ∧ A0e P el) ∧ f0.offset = 0) ∧ (A4B P f1.type ∧ f1.offset = 1) ∧ (SliceAt P f2.type t ∧ f2.offset = 2)
theorem B1n {t : TypeId} (A : A7c P t) : ∀ (fuel : Nat) (cs : List Value) (x : DataW H × List MemPlace), Rd enc P w held fuel t cs = some x → ∃ a : C8, RC (ZK w) w.heap a.enc cs ∧ a.J3 ≤ AF x.1 := by
 intro fuel
 induction fuel using Nat.strongRecOn with
 | ind fuel ih =>
   intro cs x hr;have A0 := A;obtain ⟨f0, f1, f2, hu, hc, ⟨t0, o0⟩, ⟨t1, o1⟩, t2, o2⟩ := A;obtain ⟨n, ds, rfl, hb, hl, hd, hf⟩ := XF hu hr;rw [hc] at hl;obtain ⟨y0, r0, d0⟩ := hf 0 f0 rfl;obtain ⟨e0, s0, z0⟩ := t0;rw [o0, s0.2] at r0;obtain ⟨v0, q0, b0⟩ := RQ (sz := Ty.size) s0.1 (by rw [z0.cells]; omega) (fun n' cs x hn h => A8w z0 n' cs x h) r0
   rw [z0.cells] at q0;obtain ⟨y1, r1, d1⟩ := hf 1 f1 rfl;obtain ⟨e1, s1, z1⟩ := id t1;rw [o1, s1.2] at r1;obtain ⟨v1, q1, b1⟩ := B2Y t1 r1;obtain ⟨y2, r2, d2⟩ := hf 2 f2 rfl;rw [o2, t2.2] at r2;obtain ⟨v2, q2, b2⟩ := RQ (sz := C8.J3) t2.1 (by rw [hc]; omega) (fun n' cs x hn h => ih n' (by omega) cs x h) r2
   rw [hc] at q2;refine ⟨.mk v0 v1 v2, ?_, ?_⟩
   ·rw [C8.I5]
    simp only [RC, C8.A6p, C8.A2Y, C8.CR];have e : cs = (cs.drop 0).take 1 ++ ((cs.drop 1).take 1 ++ ((cs.drop 2).take 1)) := by
     match cs, hl with
     | [c0, c1, c2], _ => rfl
    rw [e];exact (X0 (a := [_]) (BV rfl q0) (X0 (a := [_]) (BV rfl q1) (BV rfl q2)))
   ·rw [C8.U2, hb]
    simp only [C8.A6p, C8.A2Y, C8.CR];have hs : ds = [y0.1, y1.1, y2.1] := by
     have hd : ds.length = 3 := hd
     match ds, hd, d0, d1, d2 with
     | [a0, a1, a2], _, d0, d1, d2 => simp_all
    rw [hs];simp only [FN];omega
end
end Go.Su

/-
 TYPES: what is said of them.
-/
namespace Go.Su
def arity (k : Int) : Int :=
 if k = 1 ∨ k = 2 ∨ k = 3 ∨ k = 4 ∨ k = 5 ∨ k = 6 then 0 else if k = 8 then 1 else if k = 7 ∨ k = 9 then 2 else -1
def Ty.right : Ty → Bool
 | .mk k n ks => decide (arity k = ks.length) && decide (0 ≤ n) && decide (n ≤ 1048576) && (decide (k = 6) || decide (n = 0)) && (ks.map Ty.right).all id
theorem Ty.right_eq (t : Ty) : t.right = (decide (arity t.kind = t.kids.length) && decide (0 ≤ t.n) && decide (t.n ≤ 1048576) && (decide (t.kind = 6) || decide (t.n = 0)) && t.kids.all Ty.right) := by
 cases t;rw [Ty.right];simp [List.all_map];rfl
def Ty.without (q : Int) : Ty → Bool
 | .mk k _ ks => !decide (k = q) && (ks.map (Ty.without q)).all id
theorem Ty.A2m (q : Int) (t : Ty) : t.without q = (!decide (t.kind = q) && t.kids.all (Ty.without q)) := by
 cases t;rw [Ty.without];simp [List.all_map];rfl
def Ty.deep : Ty → Int → Bool
 | .mk _ _ ks, n => decide (n ≤ 0) || (ks.map fun k => Ty.deep k (n - 1)).any id
def Ty.BD : Ty → List Int → List Int
 | .mk k n ks, l => ks.foldl (fun l k => Ty.BD k l) (if k = 6 ∧ n ∉ l then l ++ [n] else l)
def Ty.vars (t : Ty) : List Int := t.BD []
theorem Ty.XJ (t : Ty) (l : List Int) : t.BD l = t.kids.foldl (fun l k => k.BD l) (if t.kind = 6 ∧ t.n ∉ l then l ++ [t.n] else l) := by
 cases t;rw [Ty.BD];rfl
theorem Ty.B2i (t : Ty) (n : Int) : t.deep n = (decide (n ≤ 0) || t.kids.any fun k => k.deep (n - 1)) := by
 cases t;rw [Ty.deep];simp [List.any_map]
theorem Ty.A2l (t : Ty) : ∀ l : List Int, (t.BD l).length ≤ l.length + t.size := by
 induction t using Ty.ind with
 | h t ih =>
   intro l;rw [Ty.XJ];have key : ∀ (ks : List Ty), (∀ k ∈ ks, ∀ l : List Int, (k.BD l).length ≤ l.length + k.size) → ∀ l : List Int, (ks.foldl (fun l k => k.BD l) l).length ≤ l.length + (ks.map Ty.size).sum := by
    intro ks
    induction ks with
    | nil => intro _ l; simp
    | cons k ks ihk =>
      intro h l;simp only [List.foldl_cons, List.map_cons, List.sum_cons];have h1 := ihk (fun k' Dr => h k' (List.mem_cons_of_mem _ Dr)) (k.BD l)
      have h2 := h k (List.mem_cons_self ..) l;omega
   have h1 := key t.kids ih (if t.kind = 6 ∧ t.n ∉ l then l ++ [t.n] else l)
   rw [Ty.size_eq];have h2 : (if t.kind = 6 ∧ t.n ∉ l then l ++ [t.n] else l).length ≤ l.length + 1 := by split <;> simp
   omega
def Ty.thin : Ty → Bool
 | .mk _ _ ks => decide (ks.length ≤ lim) && (ks.map Ty.thin).all id
theorem Ty.Ox (t : Ty) : t.thin = (decide (t.kids.length ≤ lim) && t.kids.all Ty.thin) := by
 cases t;rw [Ty.thin];simp [List.all_map];rfl
theorem Ty.Ad (t : Ty) (h : t.thin = true) : t.kids.length < 4294967297 := by
 rw [Ty.Ox] at h;simp only [Bool.and_eq_true, decide_eq_true_eq] at h;have := h.1;unfold lim at this;omega
theorem Ty.CF {t k : Ty} (h : t.thin = true) (hk : k ∈ t.kids) : k.thin = true := by
 rw [Ty.Ox] at h;simp only [Bool.and_eq_true, List.all_eq_true] at h;exact h.2 k hk
theorem Ty.CG {t : Ty} : t.size ≤ lim → t.thin = true := by
 induction t using Ty.ind with
 | h t ih =>
   intro h;rw [Ty.Ox];simp only [Bool.and_eq_true, decide_eq_true_eq, List.all_eq_true];refine ⟨by have := t.vM; omega, fun k hk => ih k hk (by have := Ty.bD hk; omega)⟩
theorem B0q (k : Int) : arity k ≤ 2 := by unfold arity; split <;> (try split) <;> (try split) <;> omega
theorem Ty.Z5 {t : Ty} : t.right = true → t.thin = true := by
 induction t using Ty.ind with
 | h t ih =>
   intro h;rw [Ty.right_eq] at h;simp only [Bool.and_eq_true, decide_eq_true_eq, List.all_eq_true] at h;rw [Ty.Ox];simp only [Bool.and_eq_true, decide_eq_true_eq, List.all_eq_true];have := B0q t.kind;refine ⟨by unfold lim; omega, fun k hk => ih k hk (h.2 k hk)⟩
def Ty.BS : Ty → Nat
 | .mk k _ ks => (if k = 6 then 1 else 0) + (ks.map Ty.BS).sum
theorem Ty.wM (t : Ty) : t.BS = (if t.kind = 6 then 1 else 0) + (t.kids.map Ty.BS).sum := by
 cases t;rw [Ty.BS];rfl
theorem A8P {α : Type} {l : List α} {f g : α → Nat} (h : ∀ a ∈ l, f a ≤ g a) : (l.map f).sum ≤ (l.map g).sum := by
 induction l with
 | nil => simp
 | cons a l ih =>
   simp only [List.map_cons, List.sum_cons];have := h a (List.mem_cons_self ..);have := ih fun b hb => h b (List.mem_cons_of_mem _ hb)
   omega
theorem Ty.gX (t : Ty) : t.BS ≤ t.size := by
 induction t using Ty.ind with
 | h t ih =>
   rw [Ty.wM, Ty.size_eq];have := A8P ih
   split <;> omega
theorem Ty.gW (t : Ty) : ∀ l : List Int, (t.BD l).length ≤ l.length + t.BS := by
 induction t using Ty.ind with
 | h t ih =>
   intro l;rw [Ty.XJ];have key : ∀ (ks : List Ty), (∀ k ∈ ks, ∀ l : List Int, (k.BD l).length ≤ l.length + k.BS) → ∀ l : List Int, (ks.foldl (fun l k => k.BD l) l).length ≤ l.length + (ks.map Ty.BS).sum := by
    intro ks
    induction ks with
    | nil => intro _ l; simp
    | cons k ks ihk =>
      intro h l;simp only [List.foldl_cons, List.map_cons, List.sum_cons];have h1 := ihk (fun k' Dr => h k' (List.mem_cons_of_mem _ Dr)) (k.BD l)
      have h2 := h k (List.mem_cons_self ..) l;omega
   have h1 := key t.kids ih (if t.kind = 6 ∧ t.n ∉ l then l ++ [t.n] else l)
   rw [Ty.wM];have h2 : (if t.kind = 6 ∧ t.n ∉ l then l ++ [t.n] else l).length ≤ l.length + (if t.kind = 6 then 1 else 0) := by
    by_cases h6 : t.kind = 6
    ·by_cases hn : t.n ∈ l <;> simp [h6, hn]
    ·simp [h6]
   omega
end Go.Su

/-
 THE DATA MACHINE: iterators over trees: which elements come.
-/
namespace Go.Su
def Em (f : DV → Option (List DV)) : List DV → Option (List DV)
 | [] => some []
 | d :: ds => ob (f d) fun a => ob (Em f ds) fun b => some (a ++ b)
def X4 (sz kf : Nat) : Nat → DV → Option (List DV)
 | 0, _ => none
 | n + 1, d =>
   match d with
   | .agg cs => og (cs.length == sz) (match cs.getD kf .undef with
     | .list s ds => og (s == sz && decide (ds.length ≤ lim)) (ob (Em (X4 sz kf n) ds) fun l => some (.agg cs :: l))
     | _ => none)
   | _ => none
open Classical in
noncomputable def JO (sz kf : Nat) (cs : List DV) : Option (List DV) :=
 if h : ∃ ds n, X4 sz kf n (.agg cs) = some ds then some h.choose else none
theorem UF {f g : DV → Option (List DV)} (h : ∀ d l, f d = some l → g d = some l) : ∀ {ds l : List DV}, Em f ds = some l → Em g ds = some l
 | [], l, H => H
 | d :: ds, l, H => by
   simp only [Em] at H ⊢;obtain ⟨a, h1, H⟩ := A9 H;obtain ⟨b, h2, H⟩ := A9 H;rw [h _ _ h1, UF h h2];exact H
theorem A43 {sz kf : Nat} : ∀ {n : Nat} {d : DV} {l : List DV}, X4 sz kf n d = some l → X4 sz kf (n + 1) d = some l
 | 0, d, l, H => by simp [X4] at H
 | n + 1, d, l, H => by
   cases d with
   | agg cs =>
     rw [X4] at H ⊢;obtain ⟨h1, H⟩ := F6 H;rw [h1];cases hk : cs.getD kf .undef with
     | list s ds =>
       rw [hk] at H;simp only at H ⊢;obtain ⟨h2, H⟩ := F6 H;rw [h2];obtain ⟨a, h3, H⟩ := A9 H;rw [UF (fun d l h => A43 h) h3]
       exact H
     | _ => rw [hk] at H; simp at H
   | _ => simp [X4] at H
theorem Nc {sz kf n m : Nat} (h : n ≤ m) {d : DV} {l : List DV} (H : X4 sz kf n d = some l) : X4 sz kf m d = some l := by
 induction m with
 | zero => rw [Nat.le_zero.1 h] at H; exact H
 | succ m ih =>
   rcases Nat.lt_or_ge m n with h1 | h1
   ·rw [show m + 1 = n by omega]; exact H
   ·exact A43 (ih h1)
theorem lC {sz kf n : Nat} {cs ds : List DV} (H : X4 sz kf n (.agg cs) = some ds) : JO sz kf cs = some ds := by
 have h : ∃ ds n, X4 sz kf n (.agg cs) = some ds := ⟨ds, n, H⟩;unfold JO;rw [dif_pos h];obtain ⟨m, hm⟩ := h.choose_spec;have h1 := Nc (Nat.le_add_right n m) H;have h2 := Nc (Nat.le_add_left m n) hm;rw [h1] at h2;exact h2.symm
theorem Yb {sz kf : Nat} {cs ds : List DV} (H : JO sz kf cs = some ds) : ∃ n, X4 sz kf n (.agg cs) = some ds := by
 unfold JO at H
 split at H
 ·rename_i h
  simp only [Option.some.injEq] at H;rw [← H];exact h.choose_spec
 ·cases H
structure Mc (E : Env) (W : World) (E' : Env) (W' : World) : Prop where
 size : W.heap.size ≤ W'.heap.size
 blk : ∀ b, b < W.heap.size → (∀ o, E.O b o = .other) → W'.heap[b]? = W.heap[b]? ∧ ∀ o, E'.O b o = .other
 sh : V9 E.S W.heap E'.S W'.heap
theorem Mc.trans {E E1 E2 : Env} {W W1 W2 : World} (h : Mc E W E1 W1) (k : Mc E1 W1 E2 W2) : Mc E W E2 W2 := by
 refine ⟨Nat.le_trans h.size k.size, fun b hb ho => ?_, ⟨fun b o hs => k.sh.s b o (h.sh.s b o hs), fun b o v hs hv => k.sh.c b o v (h.sh.s b o hs) (h.sh.c b o v hs hv)⟩⟩
 obtain ⟨h1, h2⟩ := h.blk b hb ho;obtain ⟨h3, h4⟩ := k.blk b (Nat.lt_of_lt_of_le hb h.size) h2;exact ⟨h3.trans h1, h4⟩
theorem Mc.B1W {E E' : Env} {W W' : World} (P : Pr J6 E W.heap E' W'.heap) (hf : ∀ b o, W.heap.size ≤ b → E.O b o = .other) : Mc E W E' W' := by
 refine ⟨P.size, fun b hb ho => ⟨?_, fun o => P.Vk hb (ho o)⟩, P.shut (by simp [J6]) hf⟩
 have hk := P.blk b hb;have Ry : W.heap[b]? = some W.heap[b] := Array.getElem?_eq_getElem hb;rw [Ry] at hk ⊢;unfold V4 at hk
 split at hk
 ·rename_i hx; cases hx
 ·rename_i c T f hx
  simp only [Option.some.injEq] at hx;obtain ⟨c', h1, h2, h3⟩ := hk;rw [h1, hx]
  congr 2
  refine Array.ext_getElem? fun o => h3 o ?_
  rw [ho o]; simp [J6]
 ·rename_i ob _ hx
  simp only [Option.some.injEq] at hx;rw [hx];exact hk (by rw [ho 0]; simp [J6])
theorem NE.alloc {n : Nat} {E : Env} {W : World} (o : Obj) : NE n E W (W.alloc o) := by
 refine ⟨by simp, fun b hb => .inl ?_, ⟨rfl, rfl, rfl⟩⟩
 exact Go.RowKit.Below.heap_alloc _ _ _ hb
theorem Mc.alloc {E : Env} {W : World} (o : Obj) (hf : ∀ b o, W.heap.size ≤ b → E.O b o = .other) : Mc E W E (W.alloc o) := by
 refine ⟨by simp, fun b hb ho => ⟨Go.RowKit.Below.heap_alloc _ _ _ hb, ho⟩, fun _ _ h => h, fun b o' v hs hv => ?_⟩
 have hb : b < W.heap.size := by
  rcases Nat.lt_or_ge b W.heap.size with h | h
  ·exact h
  ·have h9 := hf b o' h
   rw [show E.O b o' = .shut from hs] at h9; cases h9
 unfold hc at hv ⊢;rw [show (W.alloc o).heap[b]? = W.heap[b]? from Go.RowKit.Below.heap_alloc _ _ _ hb]
 exact hv
theorem Mc.same {E : Env} {W W' : World} (hs : W.heap.size ≤ W'.heap.size) (h : ∀ b, b < W.heap.size → W'.heap[b]? = W.heap[b]?) (hf : ∀ b o, W.heap.size ≤ b → E.O b o = .other) : Mc E W E W' := by
 refine ⟨hs, fun b hb ho => ⟨h b hb, ho⟩, fun _ _ h => h, fun b o' v hv hc0 => ?_⟩
 have hb : b < W.heap.size := by
  rcases Nat.lt_or_ge b W.heap.size with h | h
  ·exact h
  ·have h9 := hf b o' h
   rw [show E.O b o' = .shut from hv] at h9; cases h9
 unfold hc at hc0 ⊢;rw [h b hb];exact hc0
theorem NE.same {n : Nat} {E : Env} {W W' : World} (hs : W.heap.size ≤ W'.heap.size) (h : ∀ b, b < W.heap.size → W'.heap[b]? = W.heap[b]?) (ho : P9 W W') : NE n E W W' :=
 ⟨hs, fun b hb => .inl (h b hb), ho⟩
theorem flat_agg {sz kf n : Nat} {d : DV} {l : List DV} {S : Q0} {h : Heap} {us : List Value} (H : X4 sz kf n d = some l) (R : RC S h d us) : RV S h d (.agg us.toArray) := by
 cases n with
 | zero => simp [X4] at H
 | succ n =>
   cases d with
   | agg cs =>
     simp only [RC] at R;simp only [RV];exact ⟨_, rfl, R⟩
   | _ => simp [X4] at H
theorem A7g {d : DV} {ds ks pre sa sb : List DV} {k : Nat} (DD : ∀ (j : Nat) x, (d :: ks)[j]? = some x → ds[k + j]? = some x) (hk : ks = pre ++ (sa ++ sb)) (j : Nat) (x : DV) (hj : sa[j]? = some x) : ds[k + 1 + pre.length + j]? = some x := by
 have hjl := (List.getElem?_eq_some_iff.1 hj).1;have := DD (pre.length + j + 1) x (by
  rw [List.getElem?_cons_succ, hk, List.getElem?_append_right (by omega), Nat.add_sub_cancel_left, List.getElem?_append_left hjl]
  exact hj)
 rw [← this]; congr 1; omega
theorem X9 {P : Program} {W : World} {b j : Nat} {c : Array Value} {T : TypeId} {u : Value} (hb : W.heap[b]? = some (.cells c T (0, 0))) (hj : j < c.size) (hu : u.oneCell' = true) :
 ∃ W', (store ⟨b, j, none⟩ u).run P W = .ok () W' ∧ W'.heap[b]? = some (.cells (c.setIfInBounds j u) T (0, 0)) ∧ (∀ b', b' ≠ b → W'.heap[b']? = W.heap[b']?) ∧ W'.heap.size = W.heap.size ∧ P9 W W' := by
 refine ⟨W.setCell ⟨b, j, none⟩ u, ?_, ?_, fun b' Ry => ?_, by simp [World.setCell], ⟨rfl, rfl, rfl⟩⟩
 ·rw [run_store _ _ _ _ _ hu]
  simp [World.cell?, World.frozen?, hb, hj]
 ·simp [World.setCell, Array.getElem?_modify, hb]
 ·simp [World.setCell, Array.getElem?_modify, Ne.symm Ry]
end Go.Su

/-
 NAMES and PATTERNS: what is said of them.
-/
namespace Go.Su
def Ak (s : ByteArray) : List Int := s.data.toList.map fun b => (b.toNat : Int)
theorem MJ (s : ByteArray) : (Ak s).length = s.size := by simp [Ak]
theorem Za {s : ByteArray} {k : IntKind} {i : Nat} (h : i < (Ak s).length) : X6 (.str s) (.int k (i : Int)) = some (.int .u8 (Ak s)[i]) := by
 have h' : i < s.data.size := by simpa [Ak] using h
 have e : s.data[i]? = some s.data[i] := Array.getElem?_eq_getElem h';simp only [X6, Int.natCast_nonneg, if_true, Int.toNat_natCast, e, Option.map_some, Ak, List.getElem_map, Array.getElem_toList]
def lowerB (c : Int) : Bool := decide (97 ≤ c) && decide (c ≤ 122)
def rP (c : Int) : Bool := decide (48 ≤ c) && decide (c ≤ 57)
def Oq (c : Int) : Bool := lowerB c || rP c || (decide (65 ≤ c) && decide (c ≤ 90)) || decide (c = 95) || decide (c = 39)
def A2D : List (List UInt8) := [[108, 101, 116], [114, 101, 99], [105, 110], [102, 117, 110], [105, 102], [116, 104, 101, 110], [101, 108, 115, 101], [109, 97, 116, 99, 104], [119, 105, 116, 104], [101, 110, 100], [116, 114, 117, 101],
 [102, 97, 108, 115, 101], [105, 110, 116], [98, 111, 111, 108], [115, 116, 114, 105, 110, 103], [117, 110, 105, 116], [108, 105, 115, 116]]
def A0v (s : ByteArray) : Bool := decide (s.data.toList ∈ A2D)
def Ii (s : ByteArray) : Bool :=
 decide (1 ≤ s.size) && decide (s.size ≤ 32) && lowerB ((Ak s).getD 0 0) && (Ak s).all Oq && !A0v s
def CJ : List UInt8 := [32, 108, 101, 116, 32, 114, 101, 99, 32, 105, 110, 32, 102, 117, 110, 32, 105, 102, 32, 116, 104, 101, 110, 32, 101, 108, 115, 101, 32, 109, 97, 116, 99, 104, 32, 119, 105, 116, 104, 32, 101, 110, 100, 32, 116, 114, 117, 101, 32, 102, 97, 108, 115, 101, 32, 105, 110, 116, 32, 98, 111, 111, 108, 32, 115, 116, 114, 105, 110, 103, 32, 117, 110, 105, 116, 32, 108, 105, 115, 116, 32]
def A0x (c : UInt8) : Bool := decide (97 ≤ c) && decide (c ≤ 122)
theorem A8S : (List.range 81).all (fun j => (List.range 80).all fun n =>
 !(decide (j + n + 2 ≤ 81) && ((CJ.drop j).take 1 == [32]) && ((CJ.drop (j + n + 1)).take 1 == [32]) && ((CJ.drop (j + 1)).take n).all A0x && decide (0 < n)) || decide ((CJ.drop (j + 1)).take n ∈ A2D)) = true := by
 decide +kernel
theorem A9G : A2D.all (fun x => decide (0 < x.length) && x.all A0x && (List.range 81).any fun j => decide (j + (x.length + 2) ≤ 81) && (CJ.drop j).take (x.length + 2) == 32 :: x ++ [32]) = true := by
 decide +kernel
theorem B0k : CJ.length = 81 := rfl
theorem B0j (x : List UInt8) : (x.all A0x = true ∧ 0 < x.length ∧ ∃ j : Nat, j + (x.length + 2) ≤ 81 ∧ (CJ.drop j).take (x.length + 2) = 32 :: x ++ [32]) ↔ x ∈ A2D := by
 constructor
 ·rintro ⟨h1, h2, j, h3, h4⟩
  have h5 := List.all_eq_true.1 (List.all_eq_true.1 A8S j (by simp; omega)) x.length (by simp; omega)
  have e : (CJ.drop (j + 1)).take x.length = x := by
   have := congrArg (fun l => (l.drop 1).take x.length) h4
   simp only [List.drop_take, List.drop_drop] at this;simpa [List.take_take] using this
  have e1 : (CJ.drop j).take 1 = [32] := by
   have := congrArg (fun l => l.take 1) h4
   simpa [List.take_take] using this
  have e2 : (CJ.drop (j + x.length + 1)).take 1 = [32] := by
   have := congrArg (fun l => (l.drop (x.length + 1)).take 1) h4
   simp only [List.drop_take, List.drop_drop] at this;simpa [List.take_take, Nat.add_assoc, Nat.add_sub_cancel_left, show x.length + 2 - (x.length + 1) = 1 by omega] using this
  rw [e, e1, e2] at h5;simpa [h1, h2, show j + x.length + 2 ≤ 81 by omega] using h5
 ·intro h
  have h5 := List.all_eq_true.1 A9G x h;simp only [Bool.and_eq_true, decide_eq_true_eq, List.any_eq_true, beq_iff_eq, List.mem_range] at h5;obtain ⟨⟨h1, h2⟩, j, h3, h4, h6⟩ := h5;exact ⟨h2, h1, j, h4, h6⟩
theorem A3u (a b : ByteArray) : Bj (.str a) (.str b) = decide (a = b) := by
 simp only [Bj]; exact bZ a b
theorem A3t (k k' : IntKind) (a b : Int) : Bj (.int k a) (.int k' b) = decide (a = b) := by
 simp only [Bj]; rfl
theorem A8j {a : ByteArray} {d : DV} (h : Bj (.str a) d = true) : d = .str a := by
 cases d <;> simp only [Bj] at h <;> try cases h
 rename_i s;have := A3d (a := a) (b := s) (by simpa using h)
 rw [this]
theorem B1c (es : List (DV × DV)) (a b : ByteArray) (v : DV) : Z4 (Cc es (.str a) v) (.str b) = if a = b then some v else Z4 es (.str b) := by
 induction es with
 | nil => by_cases h : a = b <;> simp [Cc, Z4, A3u, h, eq_comm]
 | cons e es ih =>
   unfold Cc
   by_cases h1 : Bj (.str a) e.1 = true
   ·rw [if_pos h1]
    have := A8j h1;simp only [Z4, List.find?_cons, this, A3u]
    by_cases h : a = b
    ·subst h; simp
    ·have : ¬ b = a := fun h' => h h'.symm
     simp [h, this]
   ·rw [if_neg h1]
    simp only [Z4, List.find?_cons] at ih ⊢
    by_cases h2 : Bj (.str b) e.1 = true
    ·simp only [h2]
     by_cases h : a = b
     ·subst h; exact absurd h2 h1
     ·simp [h]
    ·simp only [h2]
     exact ih
theorem A8i {k : IntKind} {a : Int} {d : DV} (h : Bj (.int k a) d = true) : ∃ k', d = .int k' a := by
 cases d <;> simp only [Bj] at h <;> try cases h
 rename_i k' n;exact ⟨k', by rw [show a = n by simpa using h]⟩
theorem A3x (es : List (DV × DV)) (a b : Int) (v : DV) : Z4 (Cc es (.int .i64 a) v) (.int .i64 b) = if a = b then some v else Z4 es (.int .i64 b) := by
 induction es with
 | nil => by_cases h : a = b <;> simp [Cc, Z4, A3t, h, eq_comm]
 | cons e es ih =>
   unfold Cc
   by_cases h1 : Bj (.int .i64 a) e.1 = true
   ·rw [if_pos h1]
    obtain ⟨k', this⟩ := A8i h1;simp only [Z4, List.find?_cons, this, A3t]
    by_cases h : a = b
    ·subst h; simp
    ·have : ¬ b = a := fun h' => h h'.symm
     simp [h, this]
   ·rw [if_neg h1]
    simp only [Z4, List.find?_cons] at ih ⊢
    by_cases h2 : Bj (.int .i64 b) e.1 = true
    ·simp only [h2]
     by_cases h : a = b
     ·subst h; exact absurd h2 h1
     ·simp [h]
    ·simp only [h2]
     exact ih
def N9 : ByteArray := ⟨#[]⟩
def C9.one (p : C9) : Bool :=
 if p.kind = 1 ∨ p.kind = 6 ∨ p.kind = 8 then decide (p.kids.length = 0) && decide (p.name = N9) && decide (p.n = 0) && decide (p.s = N9)
 else if p.kind = 2 then Ii p.name && decide (p.kids.length = 0) && decide (p.n = 0) && decide (p.s = N9)
 else if p.kind = 3 then decide (p.kids.length = 0) && decide (p.name = N9) && decide (p.s = N9)
 else if p.kind = 4 then decide (p.n = 0 ∨ p.n = 1) && decide (p.kids.length = 0) && decide (p.name = N9) && decide (p.s = N9)
 else if p.kind = 5 then decide (p.s.size ≤ 200) && decide (p.kids.length = 0) && decide (p.name = N9) && decide (p.n = 0)
 else if p.kind = 7 ∨ p.kind = 9 then decide (p.kids.length = 2) && decide (p.name = N9) && decide (p.n = 0) && decide (p.s = N9)
 else false
def C9.thin : C9 → Bool
 | .mk _ _ _ _ _ _ ks => decide (ks.length ≤ lim) && (ks.map C9.thin).all id
theorem C9.Ox (t : C9) : t.thin = (decide (t.kids.length ≤ lim) && t.kids.all C9.thin) := by
 cases t;rw [C9.thin];simp [List.all_map];rfl
theorem C9.Ad (t : C9) (h : t.thin = true) : t.kids.length < 4294967297 := by
 rw [C9.Ox] at h;simp only [Bool.and_eq_true, decide_eq_true_eq] at h;have := h.1;unfold lim at this;omega
theorem C9.CF {t k : C9} (h : t.thin = true) (hk : k ∈ t.kids) : k.thin = true := by
 rw [C9.Ox] at h;simp only [Bool.and_eq_true, List.all_eq_true] at h;exact h.2 k hk
theorem C9.CG {t : C9} : t.size ≤ lim → t.thin = true := by
 induction t using C9.ind with
 | h t ih =>
   intro h;rw [C9.Ox];simp only [Bool.and_eq_true, decide_eq_true_eq, List.all_eq_true];refine ⟨by have := t.vM; omega, fun k hk => ih k hk (by have := C9.bD hk; omega)⟩
def C9.pat : C9 → Bool
 | .mk a b c d e f ks => C9.one (.mk a b c d e f ks) && (ks.map C9.pat).all id
theorem C9.A1Y (t : C9) : t.pat = (t.one && t.kids.all C9.pat) := by
 cases t;rw [C9.pat];simp [List.all_map]
def C9.EX : C9 → List ByteArray → List ByteArray
 | .mk k _ _ nm _ _ ks, l => ks.foldl (fun l k => C9.EX k l) (if k = 2 then l ++ [nm] else l)
theorem C9.lU (t : C9) (l : List ByteArray) : t.EX l = t.kids.foldl (fun l k => k.EX l) (if t.kind = 2 then l ++ [t.name] else l) := by
 cases t;rw [C9.EX];rfl
def C9.names (t : C9) : List ByteArray := t.EX []
theorem C9.gP (t : C9) : ∀ l : List ByteArray, (t.EX l).length ≤ l.length + t.size := by
 induction t using C9.ind with
 | h t ih =>
   intro l;rw [C9.lU];have key : ∀ (ks : List C9), (∀ k ∈ ks, ∀ l : List ByteArray, (k.EX l).length ≤ l.length + k.size) → ∀ l : List ByteArray, (ks.foldl (fun l k => k.EX l) l).length ≤ l.length + (ks.map C9.size).sum := by
    intro ks
    induction ks with
    | nil => intro _ l; simp
    | cons k ks ihk =>
      intro h l;simp only [List.foldl_cons, List.map_cons, List.sum_cons];have h1 := ihk (fun k' Dr => h k' (List.mem_cons_of_mem _ Dr)) (k.EX l)
      have h2 := h k (List.mem_cons_self ..) l;omega
   have h1 := key t.kids ih (if t.kind = 2 then l ++ [t.name] else l)
   rw [C9.size_eq];have h2 : (if t.kind = 2 then l ++ [t.name] else l).length ≤ l.length + 1 := by split <;> simp
   omega
def C9.subs : C9 → List C9
 | .mk a b c d e f ks => .mk a b c d e f ks :: (ks.map C9.subs).flatten
theorem C9.MR (t : C9) : t.subs = t :: t.kids.flatMap C9.subs := by
 cases t;rw [C9.subs];rfl
def Xk (p : C9) : List ByteArray := if p.kind = 2 then [p.name] else []
theorem C9.A5r (t : C9) : ∀ l : List ByteArray, t.EX l = l ++ t.subs.flatMap Xk := by
 induction t using C9.ind with
 | h t ih =>
   intro l;have key : ∀ (ks : List C9), (∀ k ∈ ks, ∀ l : List ByteArray, k.EX l = l ++ k.subs.flatMap Xk) → ∀ l : List ByteArray, ks.foldl (fun l k => k.EX l) l = l ++ (ks.flatMap C9.subs).flatMap Xk := by
    intro ks
    induction ks with
    | nil => intro _ l; simp
    | cons k ks ihk =>
      intro h l;simp only [List.foldl_cons, List.flatMap_cons, List.flatMap_append];rw [ihk (fun k' Dr => h k' (List.mem_cons_of_mem _ Dr)), h k (List.mem_cons_self ..)]
      simp
   rw [C9.lU, key t.kids ih, C9.MR];simp only [List.flatMap_cons, Xk]
   by_cases h : t.kind = 2 <;> simp [h, Xk]
theorem C9.B1k (t : C9) : t.pat = t.subs.all C9.one := by
 induction t using C9.ind with
 | h t ih =>
   rw [C9.A1Y, C9.MR];simp only [List.all_cons, List.all_flatMap]
   congr 1
   rw [Bool.eq_iff_iff];simp only [List.all_eq_true];constructor
   ·intro h k hk x hx
    have := h k hk;rw [ih k hk] at this;exact List.all_eq_true.1 this x hx
   ·intro h k hk
    rw [ih k hk];exact List.all_eq_true.2 (h k hk)
def C9.right (t : C9) : Bool := t.pat && decide t.names.Nodup
theorem B0P (t : C9) : t.thin = true → ∃ n, X4 7 6 n t.enc = some (t.subs.map C9.enc) := by
 induction t using C9.ind with
 | h t ih =>
   intro ht;have key : ∀ ks : List C9, (∀ k ∈ ks, ∃ n, X4 7 6 n k.enc = some (k.subs.map C9.enc)) → ∃ n, Em (X4 7 6 n) (ks.map C9.enc) = some ((ks.flatMap C9.subs).map C9.enc) := by
    intro ks
    induction ks with
    | nil => intro _; exact ⟨0, rfl⟩
    | cons k ks ihk =>
      intro h;obtain ⟨n, hn⟩ := h k (List.mem_cons_self ..);obtain ⟨m, hm⟩ := ihk fun k' Dr => h k' (List.mem_cons_of_mem _ Dr)
      refine ⟨n + m, ?_⟩;simp only [List.map_cons, Em, Nc (Nat.le_add_right n m) hn, UF (fun d l h => Nc (Nat.le_add_left m n) h) hm, H6]
      simp
   obtain ⟨n, hn⟩ := key t.kids fun k hk => ih k hk (C9.CF ht hk)
   refine ⟨n + 1, ?_⟩;rw [C9.Ox] at ht;simp only [Bool.and_eq_true, decide_eq_true_eq] at ht;rw [C9.I5, X4];simp only [List.length_cons, List.length_nil, List.getD_cons_succ, List.getD_cons_zero, List.length_map, hn, H6, C9.MR t, List.map_cons];simp [ht.1, C9.I5]
def C9.texts (p : C9) : Prop := p.name.size ≤ 4294967000 ∧ p.s.size ≤ 4294967000
def C9.txt (p : C9) : Prop := ∀ q ∈ p.subs, q.texts
theorem C9.B1q (p : C9) : p ∈ p.subs := by rw [C9.MR]; exact List.mem_cons_self ..
theorem C9.B2z {p k q : C9} (h : k ∈ p.kids) (hq : q ∈ k.subs) : q ∈ p.subs := by
 rw [C9.MR];exact List.mem_cons_of_mem _ (List.mem_flatMap.2 ⟨k, h, hq⟩)
theorem C9.B3d {p k : C9} (h : p.txt) (hk : k ∈ p.kids) : k.txt := fun q hq => h q (C9.B2z hk hq)
end Go.Su
