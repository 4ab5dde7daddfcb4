/-
  Parts of the proof, merged: SuDraw2, SuDraw3, SuItr, SuCode, SuFun, SuRun, SuCont, SuCont2, SuCont3, SuAt, SuTy, SuPl, SuJoin, SuRd, SuM1, SuIt, SuM2.
-/
import Derived.Below
import Derived.ChangeArms
import Derived.DataReads
import Derived.IntWalk
import Derived.KernelRfl
import Derived.LoopNIn
import Derived.OrdersIn
import Derived.RangeFuncBound
import Derived.RangeFuncCalls
import Derived.RangeFuncLeaves
import Derived.Test.YtbmglmlodflfeaaGreatP2
set_option linter.unusedVariables false
set_option linter.unusedSimpArgs false
/-
 THE DATA MACHINE, part 23: regions, in the text's order and in any.
-/
open Array renaming getElem?_eq_some_iff → z0q, getElem?_setIfInBounds_ne → z7q, getElem?_eq_getElem → z14q, getElem?_setIfInBounds_self_of_lt → z20q, getElem?_replicate → z35q, getD_eq_getD_getElem? → z40q, length_toList → z46q, getElem?_modify → z61q, getElem_toList → z62q, ext_getElem? → z69q
open Bool renaming and_eq_true → z3q, false_eq_true → z18q
open List renaming getElem?_eq_some_iff → z1q, getElem?_eq_getElem → z2q, getD_eq_getElem?_getD → z4q, mem_cons_of_mem → z5q, mem_cons_self → z6q, all_eq_true → z8q, getElem?_cons_succ → z9q, length_cons → z10q, getElem?_map → z11q, getElem?_append_left → z13q, getElem?_cons_zero → z15q, drop_eq_getElem_cons → z19q, map_cons → z21q, mem_append → z22q, sum_cons → z23q, attach_map_val → z24q, sizeOf_lt_of_mem → z25q, pairwise_append → z26q, eq_nil_of_length_eq_zero → z28q, mem_map_of_mem → z30q, getElem?_append_right → z31q, append_assoc → z32q, getElem?_replicate → z36q, pairwise_cons → z37q, mem_flatMap → z39q, mem_cons → z41q, getElem?_zip_eq_some → z43q, foldl_cons → z44q, find?_cons → z45q, all_map → z49q, length_eq_one_iff → z50q, drop_of_length_le → z51q, range'_succ → z52q, drop_length → z53q, cons_append → z54q, mem_filter → z56q, range_eq_range' → z57q, length_nil → z58q, getElem?_set_ne → z59q, getElem?_mapIdx → z60q, take_take → z64q, length_append → z65q, mem_singleton → z66q, getElem?_ofFn → z67q, getElem?_set → z68q, flatMap_cons → z70q, filter_cons → z71q
open Nat renaming le_refl → z12q, zero_add → z17q, lt_or_ge → z27q, lt_of_lt_of_le → z29q, le_add_right → z33q, le_add_left → z34q, le_trans → z42q, add_sub_cancel_left → z47q, le_zero → z48q
open Option renaming map_eq_some_iff → z16q, map_some → z38q, bind_eq_some_iff → z55q, getD_some → z63q
namespace Go.Su
section
variable {X : Type} {C : X5} {R : N7} {fl : Flags} {ops : List Oper}
theorem A4A {o : Oper} (hg : o.guard = none) (s s1 : St) : Y1 C R fl ops o s s1 ↔ I4 C R fl o s some = some s1 := by unfold Y1; rw [hg]
theorem fM {o : Oper} {g : Nat} {want : Bool} {t : Nat} (hg : o.guard = some (g, want)) (ht : JQ ops g = some t) (s s1 : St) : Y1 C R fl ops o s s1 ↔ J3 (s.get t).2 = true ∧
 (((s.get t).1 = .bool want ∧ I4 C R fl o s some = some s1) ∨ (((s.get t).1 = .bool !want ∨ (s.get t).1 = .I6 []) ∧ s1 = s.put o.dst (.I6 []) .val)) := by
 unfold Y1; rw [hg];simp only [ht, Option.some.injEq, exists_eq_left']
theorem A6x {o : Oper} (hg : o.guard = none) (s : St) : Bq C fl ops o s = V8 C fl o s := by unfold Bq; rw [hg]
theorem A6y {o : Oper} {g : Nat} {want : Bool} {t : Nat} (hg : o.guard = some (g, want)) (ht : JQ ops g = some t) (s : St) :
 Bq C fl ops o s = if tO want (s.get t).1 then (V8 C fl o s).look t else { rt := [t], wt := o.dst.toList } := by
 unfold Bq; rw [hg];simp only [ht]
theorem A7b {o : Oper} {st : St} {t : Nat} {want : Bool} {J : St → Option X} {x : X} (hb : (st.get t).1 = .bool want) (H : I4 C R fl o (st.know t (.bool want)) J = some x) :
 ∃ s1, I4 C R fl o st some = some s1 ∧ J s1 = some x := by
 rw [EW hb (by simp)] at H
 obtain ⟨s1, h1, h2⟩ := ng H;exact ⟨s1, h2 _ some, h1⟩
theorem A03 {bf : List (List Nat)} {o : Oper} {os : List Oper} {i : Nat} {acc : List (Nat × Fp)} {st : St} {k : St → Option X} {x : X} (H : Cc C R fl ops bf (o :: os) i acc st k = some x) :
 ∃ s1, Y1 C R fl ops o st s1 ∧ IQ bf i acc ((Bq C fl ops o st).Ae st s1) = true ∧ Cc C R fl ops bf os (i + 1) ((i, (Bq C fl ops o st).Ae st s1) :: acc) s1 k = some x := by
 simp only [Cc, Zj, A25] at H
 split at H
 ·rename_i hg
  rw [A6x hg];obtain ⟨s1, h1, h2⟩ := ng H;obtain ⟨h3, h4⟩ := F8 h1;exact ⟨s1, (A4A hg _ _).2 (h2 _ some), h3, h4⟩
 ·rename_i g want hg
  obtain ⟨t, ht, H⟩ := C8 H;obtain ⟨hd, H⟩ := F8 H;rw [A6y hg ht];have run : (st.get t).1 = .bool want → kR C R fl o t (st.know t (.bool want)) (fun f st1 => og (IQ bf i acc f) (Cc C R fl ops bf os (i + 1) ((i, f) :: acc) st1 k)) = some x →
   ∃ s1, Y1 C R fl ops o st s1 ∧ IQ bf i acc ((if tO want (st.get t).1 then (V8 C fl o st).look t else { rt := [t], wt := o.dst.toList }).Ae st s1) = true ∧
     Cc C R fl ops bf os (i + 1) ((i, (if tO want (st.get t).1 then (V8 C fl o st).look t else { rt := [t], wt := o.dst.toList }).Ae st s1) :: acc) s1 k = some x := by
   intro dK H9;rw [if_pos (aH.2 dK)];unfold kR at H9;obtain ⟨s1, h1, h2⟩ := A7b dK H9;rw [EW dK (by simp)] at h2
   obtain ⟨h3, h4⟩ := F8 h2;exact ⟨s1, (fM hg ht _ _).2 ⟨hd, .inl ⟨dK, h1⟩⟩, h3, h4⟩
  have skip : ∀ d : DV, (d = .bool !want ∨ d = .I6 []) → (st.get t).1 = d → Vx o t (st.know t d) (fun f st1 => og (IQ bf i acc f) (Cc C R fl ops bf os (i + 1) ((i, f) :: acc) st1 k)) = some x →
   ∃ s1, Y1 C R fl ops o st s1 ∧ IQ bf i acc ((if tO want (st.get t).1 then (V8 C fl o st).look t else { rt := [t], wt := o.dst.toList }).Ae st s1) = true ∧
     Cc C R fl ops bf os (i + 1) ((i, (if tO want (st.get t).1 then (V8 C fl o st).look t else { rt := [t], wt := o.dst.toList }).Ae st s1) :: acc) s1 k = some x := by
   intro d JZ dK H9;rw [EW dK (by rcases JZ with h | h <;> rw [h] <;> simp)] at H9
   have hB : ¬ (tO want (st.get t).1 = true) := by
    rw [aH, dK];rcases JZ with h | h <;> rw [h] <;> cases want <;> simp
   rw [if_neg hB];unfold Vx at H9;obtain ⟨h3, h4⟩ := F8 H9;exact ⟨_, (fM hg ht _ _).2 ⟨hd, .inr ⟨by rw [dK]; exact JZ, rfl⟩⟩, h3, h4⟩
  rcases A6W H with ⟨hb, H9⟩ | ⟨hb, H9⟩ | ⟨hb, H9⟩
  ·cases want
   ·exact skip _ (.inl rfl) hb H9
   ·exact run hb H9
  ·cases want
   ·exact run hb H9
   ·exact skip _ (.inl rfl) hb H9
  ·exact skip _ (.inr rfl) hb H9
theorem nk {o : Oper} {os : List Oper} {st : St} {k : St → Option X} {x : X} (H : CE C R fl ops (o :: os) st k = some x) :
 ∃ s1, Y1 C R fl ops o st s1 ∧ CE C R fl ops os s1 k = some x := by
 simp only [CE, Zj] at H
 split at H
 ·rename_i hg
  obtain ⟨s1, h1, h2⟩ := ng H;exact ⟨s1, (A4A hg _ _).2 (h2 _ some), h1⟩
 ·rename_i g want hg
  obtain ⟨t, ht, H⟩ := C8 H;obtain ⟨hd, H⟩ := F8 H;have run : (st.get t).1 = .bool want → I4 C R fl o (st.know t (.bool want)) (fun st => CE C R fl ops os st k) = some x →
   ∃ s1, Y1 C R fl ops o st s1 ∧ CE C R fl ops os s1 k = some x := by
   intro dK H9;obtain ⟨s1, h1, h2⟩ := A7b dK H9;exact ⟨s1, (fM hg ht _ _).2 ⟨hd, .inl ⟨dK, h1⟩⟩, h2⟩
  have skip : ∀ d : DV, (d = .bool !want ∨ d = .I6 []) → (st.get t).1 = d → CE C R fl ops os ((st.know t d).put o.dst (.I6 []) .val) k = some x →
   ∃ s1, Y1 C R fl ops o st s1 ∧ CE C R fl ops os s1 k = some x := by
   intro d JZ dK H9;rw [EW dK (by rcases JZ with h | h <;> rw [h] <;> simp)] at H9
   exact ⟨_, (fM hg ht _ _).2 ⟨hd, .inr ⟨by rw [dK]; exact JZ, rfl⟩⟩, H9⟩
  rcases A6W H with ⟨hb, H9⟩ | ⟨hb, H9⟩ | ⟨hb, H9⟩
  ·cases want
   ·exact skip _ (.inl rfl) hb H9
   ·exact run hb H9
  ·cases want
   ·exact run hb H9
   ·exact skip _ (.inl rfl) hb H9
  ·exact skip _ (.inr rfl) hb H9
def ZM (C : X5) (R : N7) (fl : Flags) (ops : List Oper) : List (Nat × Fp) → St → St → Prop
 | [], s, t => s = t
 | p :: l, s, t => ∃ o s1, ops[p.1]? = some o ∧ Y1 C R fl ops o s s1 ∧ p.2 = (Bq C fl ops o s).Ae s s1 ∧ ZM C R fl ops l s1 t
theorem ZM.first : ∀ {A B : List (Nat × Fp)} {p : Nat × Fp} {s t : St}, ZM C R fl ops (A ++ p :: B) s t → (∀ q ∈ A, comm q.2 p.2 = true) →
 ∃ o s1, ops[p.1]? = some o ∧ Y1 C R fl ops o s s1 ∧ p.2 = (Bq C fl ops o s).Ae s s1 ∧ ZM C R fl ops (A ++ B) s1 t
 | [], B, p, s, t, H, _ => H
 | q :: A, B, p, s, t, H, hc => by
   obtain ⟨oq, s1, h1, h2, h3, H⟩ := H;obtain ⟨op, s2, h4, h5, h6, H⟩ := ZM.first (A := A) H fun q' hq' => hc q' (z5q _ hq')
   have h7 := hc q (z6q ..);rw [h3, h6] at h7;obtain ⟨s1', k1, k2, k3, k4⟩ := B1J h2 h5 h7;exact ⟨op, s1', h4, k1, by rw [h6, k3], oq, s2, h1, k2, by rw [h3, k4], H⟩
theorem wL {bf : List (List Nat)} {k : St → Option X} {x : X} : ∀ {os : List Oper} {i : Nat} {acc : List (Nat × Fp)} {st : St}, (∀ j : Nat, os[j]? = ops[i + j]?) → Cc C R fl ops bf os i acc st k = some x →
 ∃ l t, k t = some x ∧ ZM C R fl ops l st t ∧ l.map (·.1) = List.range' i os.length ∧ (∀ p ∈ acc, ∀ q ∈ l, p.1 ∈ bf.getD q.1 [] ∨ comm p.2 q.2 = true) ∧
   l.Pairwise fun p q => p.1 ∈ bf.getD q.1 [] ∨ comm p.2 q.2 = true
 | [], i, acc, st, _, H => ⟨[], st, H, rfl, rfl, by simp, .nil⟩
 | o :: os, i, acc, st, hs, H => by
   obtain ⟨s1, h1, h2, h3⟩ := A03 H;have Dw : ∀ j : Nat, os[j]? = ops[i + 1 + j]? := fun j => by
    have := hs (j + 1);simp only [z9q] at this;rw [this]; congr 1; omega
   obtain ⟨l, t, k1, k2, k3, k4, k5⟩ := wL Dw h3;refine ⟨(i, (Bq C fl ops o st).Ae st s1) :: l, t, k1, ⟨o, s1, ?_, h1, rfl, k2⟩, ?_, fun p hp q hq => ?_, .cons (fun q hq => k4 _ (z6q ..) q hq) k5⟩
   ·have := hs 0
    simpa using this.symm
   ·simp only [z21q, z10q, z52q, k3]
   ·rcases z41q.1 hq with rfl | hq
    ·have := z8q.1 h2 p hp
     simp only [Bool.or_eq_true, List.contains_eq_mem, decide_eq_true_eq] at this;exact this
    ·exact k4 p (z5q _ hp) q hq
end
section
variable {C : X5} {R : N7} {fl : Flags} {ops : List Oper} {E : Env} {a : Act} {w : World} {K : Act → World → Prop} {Q : Exit → Act → World → Prop}
theorem yo {st : St} {g t : Nat} {b : Bool} (Rl : J2 E st a w.heap) (ht : JQ ops g = some t) (hd : J3 (st.get t).2 = true) (hb : (st.get t).1 = .bool b) : yielded ops.toArray a.tmps g = some b := by
 unfold JQ at ht;obtain ⟨o, h1, h2⟩ := C8 ht;have H7 : t < a.tmps.size := by
  rw [Rl.size];rcases z27q t st.tm.length with h | h
  ·exact h
  ·rw [gY h Rl.Aq] at hb; cases hb
 have hv : a.tmps[t]? = some a.tmps[t] := z14q H7;have := (Rl.regs t _ hv).data hd;rw [hb] at this;simp only [RV] at this;unfold yielded;simp [h1, h2, hv, this]
theorem A8z {st : St} {g t : Nat} (Rl : J2 E st a w.heap) (ht : JQ ops g = some t) (hd : J3 (st.get t).2 = true) (hb : (st.get t).1 = .I6 []) : yielded ops.toArray a.tmps g = none := by
 unfold JQ at ht;obtain ⟨o, h1, h2⟩ := C8 ht;have H7 : t < a.tmps.size := by
  rw [Rl.size];rcases z27q t st.tm.length with h | h
  ·exact h
  ·rw [gY h Rl.Aq] at hb; cases hb
 have hv : a.tmps[t]? = some a.tmps[t] := z14q H7;have := (Rl.regs t _ hv).data hd;rw [hb] at this;simp only [RV] at this;obtain ⟨vs, h3, h4⟩ := this;unfold yielded;simp [h1, h2, hv, h3]
def Qs (ro : Option Nat) : Fence := { fn := fun _ => True, depth := none, alive := false, round := ro }
theorem A7X {ro : Option Nat} {n : Nat} {P : Program} {f : FuncId} {args : Array Value} {w : World} {R : Ending → World → Prop} (h : Calls P f args w R) : CallsIn (Qs ro) n P f args w R := by
 have h1 : CallsIn Fence.wide n P f args w R := callsIn_wide.2 h;cases ro with
 | none => exact h1
 | some l => exact CallsIn.inRound l h1
theorem Gp.wpIn {ro : Option Nat} {n : Nat} {P : Program} {o : Oper} (hd : ∀ c, o.op ≠ .defer c) (H : Gp P o a w K) : o.wpIn (Qs ro) n P a w K Q := by
 refine ⟨fun _ _ => trivial, ?_⟩
 rw [Oper.semAt_eq _ _ _ hd];rcases H with ⟨v, w', h1, h2⟩ | ⟨w', h1, h2⟩ | ⟨f, args, h1, h2⟩
 ·rw [h1]; exact h2
 ·rw [h1]; exact h2
 ·rw [h1]
  exact ⟨fun h => (by cases h), A7X (h2.mono fun e w' ⟨v, he, hk⟩ => by subst he; exact hk)⟩
theorem A95 {ro : Option Nat} {n i : Nat} {o : Oper} {s s1 : St} (hO : Cv C R) (ho : ops[i]? = some o) (H : Y1 C R fl ops o s s1) (Rl : J2 E s a w.heap)
 (T : ∀ E' a' w', a'.defers = a.defers → J2 E' s1 a' w'.heap → Pr J8 E w.heap E' w'.heap → Q5 w w' → K a' w') : wpOpIn (Qs ro) n C.P ops.toArray Q i K a w := by
 unfold wpOpIn;have ho' : ops.toArray[i]? = some o := by simpa using ho
 simp only [ho'];unfold Y1 at H;have run : I4 C R fl o s some = some s1 → o.wpIn (Qs ro) n C.P a w K Q := fun H => by
  have hd : ∀ c, o.op ≠ .defer c := fun c hc => by simp [I4, hc] at H
  have h0 : Gp C.P o a w fun a' w' => ∃ E', J2 E' s1 a' w'.heap ∧ Pr J8 E w.heap E' w'.heap ∧ Q5 w w' := B6n hO H Rl fun E' st' a' w' h1 h2 h3 h4 => by
   simp only [Option.some.injEq] at h1;subst h1;exact ⟨E', h2, h3, h4⟩
  exact Gp.wpIn hd (h0.mono fun a' w' hd ⟨E', h1, h2, h3⟩ => T E' a' w' hd h1 h2 h3)
 split at H
 ·rename_i hg
  have hw : Region.wanted o (yielded ops.toArray a.tmps) = true := by simp [Region.wanted, hg]
  rw [if_pos hw];exact run H
 ·rename_i g want hg
  obtain ⟨t, ht, hd, H⟩ := H;rcases H with ⟨hb, H⟩ | ⟨hb, H⟩
  ·have hw : Region.wanted o (yielded ops.toArray a.tmps) = true := by simp [Region.wanted, hg, yo Rl ht hd hb]
   rw [if_pos hw];exact run H
  ·have hw : ¬ (Region.wanted o (yielded ops.toArray a.tmps) = true) := by
    rcases hb with hb | hb
    ·cases want <;> simp [Region.wanted, hg, yo Rl ht hd hb]
    ·simp [Region.wanted, hg, A8z Rl ht hd hb]
   rw [if_neg hw];subst H;refine ⟨fun _ _ => trivial, T E _ w (kH ..) (Rl.put fun t _ => ?_) (Pr.refl _ _ _) (Q5.refl _)⟩
   simp only [RR, K4, RV, undef];exact ⟨#[], rfl, by simp [Pj]⟩
theorem A80 {X : Type} {k : St → Option X} {x : X} {ro : Option Nat} {n : Nat} (hO : Cv C R) : ∀ {os : List Oper} {i : Nat} {st : St} {E : Env} {a : Act} {w : World}, (∀ j : Nat, os[j]? = ops[i + j]?) → CE C R fl ops os st k = some x → J2 E st a w.heap →
 (∀ E' t a' w', k t = some x → a'.defers = a.defers → J2 E' t a' w'.heap → Pr J8 E w.heap E' w'.heap → Q5 w w' → Q .normal a' w') → wpOpsIn (Qs ro) n C.P ops.toArray Q (List.range' i os.length) a w
 | [], i, st, E, a, w, _, H, Rl, T => T E st a w H rfl Rl (Pr.refl _ _ _) (Q5.refl _)
 | o :: os, i, st, E, a, w, hs, H, Rl, T => by
   obtain ⟨s1, h1, h2⟩ := nk H;have Dw : ∀ j : Nat, os[j]? = ops[i + 1 + j]? := fun j => by
    have := hs (j + 1);simp only [z9q] at this;rw [this]; congr 1; omega
   simp only [z10q, z52q];rw [wpOpsIn_cons];refine A95 hO (by simpa using (hs 0).symm) h1 Rl fun E' a' w' D1 R1 P1 O1 => ?_
   exact A80 hO Dw h2 R1 fun E2 t a2 w2 k1 k0 k2 k3 k4 => T E2 t a2 w2 k1 (k0.trans D1) k2 (P1.trans k3) (O1.trans k4)
end
end Go.Su

/-
 THE DATA MACHINE, part 24: a region in whatever order.
-/
namespace Go.Su
def aft (o : Oper) : List Edge := o.after.toList.filter (Region.binds .any)
theorem jD : ∀ {os : List Oper} {acc : List (List Nat)} {j : Nat}, j < acc.length → (KL os acc)[j]? = acc[j]?
 | [], acc, j, _ => rfl
 | o :: os, acc, j, h => by
   simp only [KL, Uz];rw [jD (by simp; omega), z13q h]
theorem A2E : ∀ {os : List Oper} {acc : List (List Nat)}, Sl acc.length os = true → ∀ (j : Nat) o, os[j]? = some o →
 (KL os acc).getD (acc.length + j) [] = uniq ((aft o).flatMap fun e => e.on :: (KL os acc).getD e.on [])
 | [], acc, _, j, o, h => by simp at h
 | o' :: os, acc, he, j, o, h => by
   simp only [Sl, z3q] at he;simp only [KL, Uz];generalize hr : (acc ++ [uniq ((o'.after.toList.filter (Region.binds .any)).flatMap fun e => e.on :: acc.getD e.on [])]) = acc'
   have hl : acc'.length = acc.length + 1 := by rw [← hr]; simp
   cases j with
   | zero =>
     simp only [z15q, Option.some.injEq] at h;subst h;have h1 : (KL os acc').getD (acc.length + 0) [] = uniq ((o'.after.toList.filter (Region.binds .any)).flatMap fun e => e.on :: acc.getD e.on []) := by
      rw [z4q, jD (by omega), ← hr]
      simp
     rw [h1];refine congrArg uniq (AQ fun e hm => ?_)
     have h2 := z8q.1 he.1 e hm;simp only [decide_eq_true_eq] at h2;rw [z4q, z4q, jD (by omega), ← hr, z13q h2]
   | succ j =>
     have := A2E (os := os) (acc := acc') (by rw [hl]; exact he.2) j o (by simpa using h)
     rw [hl] at this;rw [show acc.length + (j + 1) = acc.length + 1 + j by omega]
     exact this
theorem A6h : ∀ {os : List Oper} {i : Nat}, Sl i os = true → ∀ (j : Nat) o, os[j]? = some o → ∀ e ∈ aft o, e.on < i + j
 | [], i, _, j, o, h => by simp at h
 | o' :: os, i, he, j, o, h => by
   simp only [Sl, z3q] at he;cases j with
   | zero =>
     simp only [z15q, Option.some.injEq] at h;subst h;intro e hm;have h2 := z8q.1 he.1 e hm;simpa using h2
   | succ j =>
     intro e hm;have := A6h he.2 j o (by simpa using h) e hm
     omega
structure Inv (bf : List (List Nat)) (n : Nat) (listed : Array Bool) (l : List (Nat × Fp)) : Prop where
 size : listed.size = n
 idx : ∀ j : Nat, (∃ f, (j, f) ∈ l) ↔ listed[j]? = some false
 sorted : l.Pairwise fun p q => p.1 < q.1
 pw : l.Pairwise fun p q => p.1 ∈ bf.getD q.1 [] ∨ comm p.2 q.2 = true
 down : ∀ j : Nat, listed[j]? = some true → ∀ p ∈ bf.getD j [], listed[p]? = some true
theorem A1r {listed : Array Bool} {j : Nat} : listed.getD j false = true ↔ listed[j]? = some true := by
 rw [z40q];cases listed[j]? <;> simp
theorem dV {listed : Array Bool} {j : Nat} : listed.getD j true = false ↔ listed[j]? = some false := by
 rw [z40q];cases listed[j]? <;> simp
section
variable {C : X5} {R : N7} {fl : Flags} {ops : List Oper} {Q : Exit → Act → World → Prop}
theorem B4E {bf : List (List Nat)} {t : St} {ro : Option Nat} {m : Nat} (hO : Cv C R) (hbf : ∀ (i : Nat) o, ops[i]? = some o → ∀ p, p ∈ bf.getD i [] → p ∈ (aft o).flatMap fun e => e.on :: bf.getD e.on []) (H7 : ∀ (i : Nat) o, ops[i]? = some o → ∀ e ∈ aft o, e.on < i) :
 ∀ (n : Nat) (l : List (Nat × Fp)) (listed : Array Bool) (s : St) (E : Env) (a : Act) (w : World), l.length = n → Inv bf ops.length listed l → ZM C R fl ops l s t → J2 E s a w.heap →
   (∀ E' a' w', a'.defers = a.defers → J2 E' t a' w'.heap → Pr J8 E w.heap E' w'.heap → Q5 w w' → Q .normal a' w') → wpAnyIn (Qs ro) m C.P .any ops.toArray Q n listed a w := by
 intro n
 induction n with
 | zero =>
   intro l listed s E a w hl I Ch Rl T;have hl0 := z28q hl;subst hl0;simp only [ZM] at Ch;subst Ch;refine ⟨?_, T E a w rfl Rl (Pr.refl _ _ _) (Q5.refl _)⟩;rw [List.eq_nil_iff_forall_not_mem];intro j hj;obtain ⟨h0, -⟩ := mem_ready.1 hj;obtain ⟨f, hf⟩ := (I.idx j).2 (dV.1 h0);cases hf
 | succ n ih =>
   intro l listed s E a w hl I Ch Rl T;constructor
   ·intro hr
    exfalso;cases l with
    | nil => simp at hl
    | cons p l =>
      have hp : listed[p.1]? = some false := (I.idx p.1).1 ⟨p.2, z6q ..⟩;obtain ⟨o, s1, ho, -⟩ := Ch;have : p.1 ∈ Region.ready .any ops.toArray listed := by
       refine mem_ready.2 ⟨dV.2 hp, o, by simpa using ho, fun e he hb => A1r.2 ?_⟩
       have B8Q := H7 p.1 o ho e (z56q.2 ⟨by simpa using he, hb⟩)
       have hp' := (z0q.1 hp).1;have De : listed[e.on]? = some (listed[e.on]'(by omega)) := z14q (by omega)
       cases hv : (listed[e.on]'(by omega)) with
       | true => rw [De, hv]
       | false =>
         rw [hv] at De;obtain ⟨f, hf⟩ := (I.idx e.on).2 De;rcases z41q.1 hf with h | h
         ·have : e.on = p.1 := by rw [← h]
          omega
         ·have := (z37q.1 I.sorted).1 _ h
          simp only at this;omega
      rw [hr] at this;cases this
   ·intro i hi
    obtain ⟨h0, o, ho, oF⟩ := mem_ready.1 hi;have hif := dV.1 h0;obtain ⟨g, hg⟩ := (I.idx i).2 hif;obtain ⟨A, B, rfl⟩ := List.append_of_mem hg;have ho' : ops[i]? = some o := by simpa using ho
    have hbi : ∀ p ∈ bf.getD i [], listed[p]? = some true := by
     intro p hp
     replace hp := hbf i o ho' _ hp
     obtain ⟨e, he, hp⟩ := z39q.1 hp;obtain ⟨he1, he2⟩ := z56q.1 he;have hl := A1r.1 (oF e (by simpa using he1) he2)
     rcases z41q.1 hp with rfl | hp
     ·exact hl
     ·exact I.down _ hl p hp
    obtain ⟨pA, pB, pAB⟩ := z26q.1 I.pw;obtain ⟨sA, sB, sAB⟩ := z26q.1 I.sorted;obtain ⟨sB1, sB2⟩ := z37q.1 sB;have B6S : ∀ q ∈ A, comm q.2 g = true := by
     intro q hq;rcases pAB q hq (i, g) (z6q ..) with h | h
     ·have h1 := hbi _ h
      have h2 := (I.idx q.1).1 ⟨q.2, z22q.2 (.inl hq)⟩;rw [h1] at h2;cases h2
     ·exact h
    obtain ⟨o', s1, k1, k2, k3, k4⟩ := ZM.first Ch B6S
    have B5s := (z0q.1 hif).1;refine A95 hO k1 k2 Rl fun E' a' w' D1 R1 P1 O1 => ih (A ++ B) _ s1 E' a' w' ?_ ⟨?_, fun j => ?_, ?_, ?_, fun j hj p hp => ?_⟩ k4 R1 fun E2 a2 w2 D2 R2 P2 O2 => T E2 a2 w2 (D2.trans D1) R2 (P1.trans P2) (O1.trans O2)
    ·simp only [z65q, z10q] at hl ⊢; omega
    ·rw [Array.size_setIfInBounds]; exact I.size
    ·constructor
     ·rintro ⟨f, hf⟩
      have hne : i ≠ j := by
       rcases z22q.1 hf with h | h
       ·have := sAB _ h (i, g) (z6q ..)
        simp only at this; omega
       ·have := sB1 _ h
        simp only at this; omega
      rw [z7q hne];exact (I.idx j).1 ⟨f, by
       rcases z22q.1 hf with h | h
       ·exact z22q.2 (.inl h)
       ·exact z22q.2 (.inr (z5q _ h))⟩
     ·intro hj
      by_cases hne : i = j
      ·subst hne
       rw [z20q B5s] at hj;cases hj
      ·rw [z7q hne] at hj
       obtain ⟨f, hf⟩ := (I.idx j).2 hj;refine ⟨f, ?_⟩;rcases z22q.1 hf with h | h
       ·exact z22q.2 (.inl h)
       ·rcases z41q.1 h with h | h
        ·simp only [Prod.mk.injEq] at h; exact absurd h.1.symm hne
        ·exact z22q.2 (.inr h)
    ·exact z26q.2 ⟨sA, sB2, fun p hp q hq => sAB p hp q (z5q _ hq)⟩
    ·exact z26q.2 ⟨pA, (z37q.1 pB).2, fun p hp q hq => pAB p hp q (z5q _ hq)⟩
    ·have mono : ∀ q : Nat, listed[q]? = some true → (listed.setIfInBounds i true)[q]? = some true := by
      intro q hq
      by_cases hne : i = q
      ·subst hne; exact z20q B5s
      ·rw [z7q hne]; exact hq
     by_cases hne : i = j
     ·subst hne; exact mono p (hbi p hp)
     ·rw [z7q hne] at hj
      exact mono p (I.down j hj p hp)
theorem A98 {X : Type} {ro : Option Nat} {n : Nat} {k : St → Option X} {x : X} {ops : Array Oper} {id : Nat} {st : St} {E : Env} {a : Act} {w : World} (hO : Cv C R) (H : CE C R fl ops.toList ops.toList st k = some x) (Rl : J2 E st a w.heap)
 (T : ∀ E' t a' w', k t = some x → a'.defers = a.defers → J2 E' t a' w'.heap → Pr J8 E w.heap E' w'.heap → Q5 w w' → Q .normal a' w') : (Code.region id ops false).wpIn (Qs ro) n C.P Q a w := by
 refine wpIn_region ?_;have := A80 (ro := ro) (n := n) (i := 0) hO (fun j => by rw [z17q]) H Rl T
 rwa [z57q, ← z46q]
theorem B28 {X : Type} {ro : Option Nat} {n : Nat} {k : St → Option X} {x : X} {ops : Array Oper} {id : Nat} {st : St} {E : Env} {a : Act} {w : World} (hm : C.P.follows .mixedOrders = true) (hO : Cv C R)
 (H : og (Sl 0 ops.toList) (Cc C R fl ops.toList (KL ops.toList []) ops.toList 0 [] st k) = some x) (Rl : J2 E st a w.heap)
 (T : ∀ E' t a' w', k t = some x → a'.defers = a.defers → J2 E' t a' w'.heap → Pr J8 E w.heap E' w'.heap → Q5 w w' → Q .normal a' w') : (Code.region id ops true).wpIn (Qs ro) n C.P Q a w := by
 obtain ⟨he, H⟩ := F8 H;obtain ⟨l, t, h1, h2, h3, h4, h5⟩ := wL (fun j => by rw [z17q]) H
 refine wpIn_region_any hm ?_;have Z4 : l.length = ops.size := by
  have := congrArg List.length h3;simpa using this
 have hidx : ∀ j : Nat, (∃ f, (j, f) ∈ l) ↔ j < ops.size := by
  intro j;have : j ∈ l.map (·.1) ↔ j ∈ List.range' 0 ops.toList.length := by rw [h3]
  rw [List.mem_map] at this;simp only [List.mem_range'_1, Nat.zero_le, true_and, z17q, z46q] at this;rw [← this];constructor
  ·rintro ⟨f, hf⟩; exact ⟨_, hf, rfl⟩
  ·rintro ⟨p, hp, rfl⟩; exact ⟨p.2, hp⟩
 have B36 : l.Pairwise fun p q => p.1 < q.1 := by
  have : (l.map (·.1)).Pairwise (· < ·) := by rw [h3]; exact List.pairwise_lt_range' ..
  exact List.pairwise_map.1 this
 have := B4E (ro := ro) (m := n) (t := t) (fl := fl) (Q := Q) (ops := ops.toList) (bf := KL ops.toList []) hO (fun i o ho p hp => by
  have h := A2E (acc := []) he i o ho;simp only [z58q, z17q] at h;rw [h] at hp;exact A1S.1 hp) (fun i o ho e hm => by simpa using A6h he i o ho e hm)
  ops.size l (Array.replicate ops.size false) st E a { w with drawn := w.drawn + 1 } Z4 ⟨by simp, fun j => ?_, B36, h5, fun j hj => ?_⟩ h2 Rl fun E' a' w' D1 R1 P1 O1 => T E' t a' w' h1 D1 R1 P1 ⟨O1.os, O1.tape, O1.output⟩
 ·simpa using this
 ·rw [hidx]
  rw [z35q]
  split <;> simp_all
 ·rw [z35q] at hj
  split at hj <;> simp at hj
end
end Go.Su

/-
 THE DATA MACHINE, part 24a: what a loop over an iterator leaves as it was.
-/
namespace Go.Su
def Marks (n : Nat) (E : Env) (h : Heap) (ms : List Deferred) : Prop :=
 (∀ m ∈ ms, ∃ D, m = { target := .collected D, args := #[] } ∧ h[D]? = some (.deferred (some [])) ∧ E.O D 0 = .other ∧ n ≤ D) ∧ ms.Pairwise (· ≠ ·)
theorem Marks.nil {n : Nat} {E : Env} {h : Heap} : Marks n E h [] := ⟨fun _ hm => (by cases hm), .nil⟩
theorem Pr.dX {E E' : Env} {h h' : Heap} (P : Pr J8 E h E' h') {b : Nat} {ob : Obj} (hb : h[b]? = some ob) (hc : ob.isCells = false) (ho : E.O b 0 = .other) : h'[b]? = some ob := by
 have H7 := (z0q.1 hb).1;have hk := P.blk b H7;rw [hb] at hk;unfold X4 at hk
 split at hk
 ·rename_i hx; cases hx
 ·rename_i hx
  simp only [Option.some.injEq] at hx;subst hx;simp [Obj.isCells] at hc
 ·rename_i ob' _ hx
  simp only [Option.some.injEq] at hx;subst hx;exact hk (by rw [ho]; simp [J8])
theorem Pr.Wm {E E' : Env} {h h' : Heap} (P : Pr J8 E h E' h') {b o : Nat} (hb : b < h.size) (ho : E.O b o = .other) : E'.O b o = .other := by
 rw [P.tags b o hb (by rw [ho]; simp [J8]), ho]
theorem Marks.mono {n : Nat} {E E' : Env} {h h' : Heap} {ms : List Deferred} (H : Marks n E h ms) (P : Pr J8 E h E' h') : Marks n E' h' ms := ⟨fun m hm => by
 obtain ⟨D, h1, h2, h3, h4⟩ := H.1 m hm;exact ⟨D, h1, P.dX h2 rfl h3, P.Wm (z0q.1 h2).1 h3, h4⟩, H.2⟩
theorem Marks.append {n : Nat} {E E0 : Env} {h h0 : Heap} {ms ns : List Deferred} (H : Marks h0.size E h ns) (K0 : Marks n E0 h0 ms) (P : Pr J8 E0 h0 E h) (hn : n ≤ h0.size) : Marks n E h (ns ++ ms) := by
 have K := K0.mono P;refine ⟨fun m hm => ?_, z26q.2 ⟨H.2, K.2, fun x hx y hy he => ?_⟩⟩
 ·rcases z22q.1 hm with h1 | h1
  ·obtain ⟨D, h1, h2, h3, h4⟩ := H.1 m h1
   exact ⟨D, h1, h2, h3, z42q hn h4⟩
  ·exact K.1 m h1
 ·obtain ⟨D, h1, -, -, h4⟩ := H.1 x hx
  obtain ⟨D', k1, k2, -⟩ := K0.1 y hy;have := (z0q.1 k2).1;rw [h1, k1] at he;simp only [Deferred.mk.injEq, Target.collected.injEq, and_true] at he;omega
theorem Pr.swap {ch : Tag → Prop} {E E' : Env} {h h' : Heap} {l : Nat} {x y : Obj} (P : Pr ch E (h.setIfInBounds l x) E' h') (hy : h[l]? = some y) : Pr ch E h E' (h'.setIfInBounds l y) := by
 have hl := (z0q.1 hy).1;have hs : h.size ≤ h'.size := by have := P.size; simpa using this
 refine ⟨by simpa using hs, fun b hb => ?_, fun b o hb hn => P.tags b o (by simpa using hb) hn, P.n, P.Q3, P.jH⟩
 by_cases mI : l = b
 ·subst mI
  rw [z20q (by omega), hy]
  exact X4.refl _ _
 ·have := P.blk b (by simpa using hb)
  rw [z7q mI] at this;rw [z7q mI];exact this
theorem Pr.yN {ch : Tag → Prop} {E E' : Env} {h h' : Heap} {l : Nat} {x : Obj} (P : Pr ch E h E' h') (hl : h.size ≤ l) : Pr ch E h E' (h'.setIfInBounds l x) := by
 refine ⟨by simpa using P.size, fun b hb => ?_, P.tags, P.n, P.Q3, P.jH⟩
 rw [z7q (by omega)]
 exact P.blk b hb
theorem Pr.setOther {E : Env} {h : Heap} {l : Nat} {x y : Obj} (hy : h[l]? = some y) (hc : y.isCells = false) (ho : E.O l 0 = .other) : Pr (fun T => T = .other) E h E (h.setIfInBounds l x) := by
 refine ⟨by simp, fun b hb => ?_, fun _ _ _ _ => rfl, z12q _, fun _ _ => ⟨rfl, rfl, rfl⟩, fun _ _ => rfl⟩
 by_cases mI : l = b
 ·subst mI
  rw [hy];unfold X4
  split
  ·trivial
  ·rename_i hx
   simp only [Option.some.injEq] at hx;subst hx;simp [Obj.isCells] at hc
  ·exact fun h0 => absurd ho h0
 ·rw [z7q mI]
  exact X4.refl _ _
section
variable {E E' : Env} {st : St} {a : Act} {h h' : Heap}
theorem J2.others (Rl : J2 E st a h) (P : Pr (fun T => T = .other) E h E' h') (hn : E'.n = E.n) (hf : ∀ b o, h'.size ≤ b → E'.O b o = .other) : J2 E' st a h' := by
 have I9 := P.shut (by simp) Rl.fresh
 exact ⟨Rl.size, Rl.Aq, Rl.Cs, by rw [hn]; exact Rl.n, fun t v hv => (Rl.regs t v hv).mono P I9 (by simp) (by simp), fun s cs hs => by rw [P.jH s (by simp)]; exact (Rl.boxes s cs hs).mono P I9 (by simp) (by simp),
  fun i ob hi => (Rl.Q3 i ob hi).mono P I9 (by rw [← Rl.n]; exact (z1q.1 hi).1) (by simp) (by simp), hf⟩
theorem Nb.pr {n : Nat} {w w' : World} (H : Nb n E w w') : Pr (fun T => T = .other) E w.heap E w'.heap := by
 refine ⟨H.size, fun b hb => ?_, fun _ _ _ _ => rfl, z12q _, fun _ _ => ⟨rfl, rfl, rfl⟩, fun _ _ => rfl⟩
 rcases H.blk b hb with h1 | ⟨-, ⟨c, T, f, c', h1, h2, h3⟩, h4⟩
 ·rw [h1]; exact X4.refl _ _
 ·rw [h1, h2]
  exact ⟨c', rfl, h3, fun o ho => absurd (h4 o) ho⟩
theorem Nb.keep {n : Nat} {w w' : World} (H : Nb n E w w') {b : Nat} {ob : Obj} (hb : w.heap[b]? = some ob) (hc : ob.isCells = false) : w'.heap[b]? = some ob := by
 rcases H.blk b (z0q.1 hb).1 with h1 | ⟨-, ⟨c, T, f, c', h1, h2, h3⟩, h4⟩
 ·rw [h1, hb]
 ·rw [hb] at h1
  simp only [Option.some.injEq] at h1;subst h1;simp [Obj.isCells] at hc
theorem Nb.after {n : Nat} {w w' : World} {E0 : Env} {h0 : Heap} (H : Nb n E w w') (hn : h0.size ≤ n) (P : Pr J8 E0 h0 E w.heap) : Pr J8 E0 h0 E w'.heap := by
 refine ⟨z42q P.size H.size, fun b hb => ?_, P.tags, P.n, P.Q3, P.jH⟩
 have := P.blk b hb;rcases H.blk b (z29q hb P.size) with h1 | ⟨h1, -⟩
 ·rw [h1]; exact this
 ·omega
theorem RR.stay {k t : Nat} {d : DV} {m : Meta} {v : Value} {k' t' : Nat} (R : RR E h k t d m v) (I9 : X8 E.S h E'.S h') (hn : E.n ≤ E'.n) (ho : ∀ i, i < E.n → E'.obj i = E.obj i) :
 RR E' h' k' t' (VU (d, m)).1 (VU (d, m)).2 v := by
 cases m <;> simp only [VU, RR, K4, RV] at R ⊢
 case val => exact R.mono I9
 case full => exact ⟨R.1.mono I9, R.2⟩
 case own => exact R.1.mono I9
 case ptr i o => exact ⟨z29q R.1 hn, by rw [ho i R.1]; exact R.2⟩
 case FT => exact ⟨trivial, R.2⟩
 case map i => exact ⟨z29q R.1 hn, by rw [ho i R.1]; exact R.2⟩
 case QJ => exact R
 case fn f caps =>
  refine ⟨?_, fun c hc => z29q (R.2 c hc) hn⟩
  rw [R.1]
  congr 2
  refine List.map_congr_left fun c hc => ?_
  rw [ho _ (R.2 c hc)]
theorem B1o {st : St} {sg : List D7} (hl : st.mt.length = st.tm.length) (t : Nat) (ht : t < st.tm.length) : (j4 st sg).get t = VU (st.get t) := by
 simp only [St.get, j4, z4q, z11q, z43q];have h1 : (st.tm.zip st.mt)[t]? = some (st.tm[t], st.mt[t]'(by omega)) := by
  rw [z43q];exact ⟨z2q ht, z2q (by omega)⟩
 rw [h1];simp [z2q ht, z2q (show t < st.mt.length by omega)]
theorem J2.outer (Rl : J2 E st a h) {sg : List D7} (I9 : X8 E.S h E'.S h') (hn : E.n ≤ E'.n) (ho : ∀ i, i < E.n → E'.obj i = E.obj i) (hs : sg.length = E'.n) (hob : ∀ (i : Nat) ob, sg[i]? = some ob → RO E' h' i ob)
 (hf : ∀ b o, h'.size ≤ b → E'.O b o = .other) {ds : List Deferred} : J2 E' (j4 st sg) { a with defers := ds } h' := by
 have hl := Rl.Aq;refine ⟨?_, by simp [j4, hl], by simp [j4, hl, Rl.Cs], hs, fun t v hv => ?_, fun s cs Gc => ?_, hob, hf⟩
 ·simp [j4, hl]; exact Rl.size
 ·have ht : t < st.tm.length := by rw [← Rl.size]; exact (z0q.1 hv).1
  rw [B1o hl t ht];exact (Rl.regs t v hv).stay I9 hn ho
 ·simp only [j4, z4q, z11q] at Gc
  cases hb : st.bx[s]? <;> rw [hb] at Gc <;> simp at Gc
end
def A5T (i : Nat) : Tag → Tag
 | .other => .other
 | .shut => .shut
 | .SS _ => .other
 | .obj j => if j = i then .other else .obj j
 | .sp k a b => if k = 2 ∧ a ≠ i then .sp k a b else .other
theorem A4D {E : Env} {h : Heap} {k a : Nat} : ∀ {cs : List (DV × Meta)} {cd : List DV} {vs : List Value}, Ik cs = some cd → cs.length = vs.length →
 (∀ (j : Nat) r v, cs[j]? = some r → vs[j]? = some v → M9 r.1 = true ∧ v.oneCell' = true ∧ X0 r.2 = true ∧ ∃ q, K4 E h (.sp k a q) r.1 r.2 v) → GJ E.S h cd vs
 | [], cd, vs, H, hl, _ => by
   simp only [Ik, Option.some.injEq] at H;subst H;simp only [GJ];exact z28q hl.symm
 | c :: cs, cd, vs, H, hl, hr => by
   simp only [Ik] at H;obtain ⟨h1, H⟩ := F8 H;obtain ⟨ds, h2, H⟩ := C8 H;simp only [Option.some.injEq] at H;subst H;cases vs with
   | nil => simp at hl
   | cons v vs =>
     obtain ⟨a1, a2, a3, q, a4⟩ := hr 0 c v rfl rfl;simp only [GJ];refine ⟨v, vs, rfl, a1, Rw a1 a2 ?_, A4D h2 (by simpa using hl) fun j r u hj hu => hr (j + 1) r u (by simpa using hj) (by simpa using hu)⟩
     revert a4 h1
     cases c.2 <;> simp only [K4] <;> intro h1 a4 <;> first | exact a4 | exact a4.1 | (simp at h1)
end Go.Su

/-
 THE DATA MACHINE, part 25: code.
-/
namespace Go.Su
def Out.YI : Out → Exit
 | .normal => .normal
 | .exit i => .exit i
 | .ret => .ret
theorem iB {α : Type} {ts : List Nat} {d : α} : ∀ {l : List α} {i j : Nat}, (XW ts d i l)[j]? = (l[j]?).map fun y => if ts.contains (i + j) then y else d
 | [], i, j => by simp [XW]
 | y :: l, i, 0 => by simp [XW]
 | y :: l, i, j + 1 => by
   simp only [XW, z9q];rw [iB, show i + 1 + j = i + (j + 1) by omega]
theorem VF {α : Type} {ts : List Nat} {d : α} : ∀ {l : List α} {i : Nat}, (XW ts d i l).length = l.length
 | [], i => rfl
 | y :: l, i => by simp [XW, VF]
theorem oW {α : Type} {f : α → α} {ts : List Nat} : ∀ {l : List α} {i j : Nat}, (dY f ts i l)[j]? = (l[j]?).map fun y => if ts.contains (i + j) then f y else y
 | [], i, j => by simp [dY]
 | y :: l, i, 0 => by simp [dY]
 | y :: l, i, j + 1 => by
   simp only [dY, z9q];rw [oW, show i + 1 + j = i + (j + 1) by omega]
theorem jf {α : Type} {f : α → α} {ts : List Nat} : ∀ {l : List α} {i : Nat}, (dY f ts i l).length = l.length
 | [], i => rfl
 | y :: l, i => by simp [dY, jf]
theorem A1s {E : Env} {h : Heap} {tg : Tag} {d : DV} {v : Value} (H : K4 E h tg d .full v) : K4 E h tg d .own v := by
 obtain ⟨g1, ⟨a1, n1, g2⟩, sz, ds, g3⟩ := H;refine ⟨g1, sz, ds, g3, fun x len cap hx H7 => ?_⟩
 rw [g2] at hx;simp only [Value.slice.injEq] at hx;omega
theorem B3f {E : Env} {h : Heap} {tg : Tag} {d : DV} {m : Meta} {v : Value} (H : K4 E h tg d m v) : K4 E h tg d (NV m) v := by
 cases m <;> first | exact A1s H | exact H
theorem B3g {E : Env} {h : Heap} {k a : Nat} {d : DV} {m : Meta} {v : Value} (H : RR E h k a d m v) : RR E h k a d (NV m) v := by
 cases m <;> first | exact A1s H | exact H
theorem B1M {m : Meta} (H : X0 m = true) : X0 (NV m) = true := by
 cases m <;> first | rfl | exact H
theorem B3h {E : Env} {h : Heap} {tg : Tag} {d : DV} {m : Meta} {v : Value} (H : K4 E h tg d m v) : K4 E h tg d (Xa m) v := by
 unfold Xa
 split
 ·rename_i hd
  cases m
  case FT => obtain ⟨rfl, rfl⟩ := (H : _ ∧ _); simp only [K4, RV]
  all_goals first | exact H | exact H.1 | (simp [J3] at hd; done) | exact H.elim
 ·exact H
theorem B3i {E : Env} {h : Heap} {k a : Nat} {d : DV} {m : Meta} {v : Value} (H : RR E h k a d m v) : RR E h k a d (Xa m) v := by
 unfold Xa
 split
 ·rename_i hd
  exact RR.val (RR.data hd H)
 ·exact H
theorem B1N {m : Meta} (H : X0 m = true) : X0 (Xa m) = true := by
 unfold Xa
 split
 ·rfl
 ·exact H
theorem J2.keep {E : Env} {st : St} {a : Act} {h : Heap} (R : J2 E st a h) (ts bs os vs : List Nat) : J2 E (st.keep ts bs os vs) a h := by
 refine ⟨by simp only [St.keep, VF]; exact R.size, by simp only [St.keep, VF, jf]; exact R.Aq, by simp only [St.keep, VF, jf]; exact R.Cs, R.n, fun t v hv => ?_, fun s cs hs => ?_, R.Q3, R.fresh⟩
 ·have ht : t < st.tm.length := by rw [← R.size]; exact (z0q.1 hv).1
  have ht' : t < st.mt.length := by rw [R.Aq]; exact ht
  have h0 := R.regs t v hv
  by_cases hc : ts.contains t = true
  ·have : (st.keep ts bs os vs).get t = ((st.get t).1, (fun m => if vs.contains t then Xa m else m) ((fun m => if os.contains t then NV m else m) (st.get t).2)) := by
    simp only [St.get, St.keep, z4q, iB, oW, z17q, hc, if_true, Option.map_id', z2q ht'];rfl
   rw [this];have h1 : RR E h 0 t (st.get t).1 ((fun m => if os.contains t then NV m else m) (st.get t).2) v := by
    simp only
    split
    ·exact B3g h0
    ·exact h0
   simp only at h1 ⊢
   split
   ·exact B3i h1
   ·exact h1
  ·have : (st.keep ts bs os vs).get t = (.undef, .val) := by
    simp only [St.get, St.keep, z4q, iB, oW, z17q, hc, z2q ht, z2q ht', z38q, z63q];simp only [z18q, if_false, NV, Xa, J3, ite_self]
   rw [this];simp only [RR, K4, RV]
 ·simp only [St.keep, z4q, iB, oW, z17q] at hs ⊢
  cases hb : st.bx[s]? with
  | none => rw [hb] at hs; simp at hs
  | some y =>
    rw [hb] at hs;simp only [z38q, z63q] at hs ⊢
    by_cases hc : bs.contains s = true
    ·simp only [hc, if_true] at hs
     have old : ∀ cs', y = some cs' → af E h (.SS s) 1 s (E.blk s) cs' := fun cs' hy => R.boxes s cs' (by simp only [z4q, hb, z63q, hy])
     have step1 : ∀ cs', (if os.contains s = true then Wn y else y) = some cs' → af E h (.SS s) 1 s (E.blk s) cs' := by
      intro cs hs
      by_cases ho : os.contains s = true
      ·simp only [ho, if_true] at hs
       cases y with
       | none => simp [Wn] at hs
       | some cs' =>
         simp only [Wn, Option.some.injEq] at hs;subst hs;obtain ⟨c, T, h1, h2, h3, h4⟩ := old cs' rfl;refine ⟨c, T, h1, by simpa using h2, h3, fun j r v hr hv => ?_⟩
         simp only [z11q, z16q] at hr;obtain ⟨r0, Co, rfl⟩ := hr;obtain ⟨k1, k2, k3, k4⟩ := h4 j r0 v Co hv;exact ⟨k1, k2, B1M k3, B3f k4⟩
      ·simp only [ho, z18q, if_false] at hs
       exact old cs hs
     by_cases hv : vs.contains s = true
     ·simp only [hv, if_true] at hs
      generalize (if os.contains s = true then Wn y else y) = z at hs step1
      cases z with
      | none => simp [pI] at hs
      | some cs' =>
        simp only [pI, Option.some.injEq] at hs;subst hs;obtain ⟨c, T, h1, h2, h3, h4⟩ := step1 cs' rfl;refine ⟨c, T, h1, by simpa using h2, h3, fun j r v hr hv => ?_⟩
        simp only [z11q, z16q] at hr;obtain ⟨r0, Co, rfl⟩ := hr;obtain ⟨k1, k2, k3, k4⟩ := h4 j r0 v Co hv;exact ⟨k1, k2, B1N k3, B3h k4⟩
     ·simp only [hv, z18q, if_false] at hs
      exact step1 cs hs
    ·simp only [hc, z18q, if_false] at hs
     split at hs <;> split at hs <;> simp [Wn, pI] at hs
theorem J2.FQ {E : Env} {st : St} {a : Act} {h : Heap} (R : J2 E st a h) (fl : Flags) (id : Nat) : J2 E (FQ fl id st) a h := by
 unfold Su.FQ
 split
 ·exact R.keep _ _ _ _
 ·exact R
theorem J2.clean {E : Env} {st : St} {a : Act} {h : Heap} (R : J2 E st a h) (fl : Flags) (c : Code) : J2 E (clean fl c st) a h := by
 unfold Su.clean
 split
 ·exact R.FQ fl _
 ·exact R
theorem Zq {S X : Type} {F : (S → Option X) → S → Option X} {s : S} {x : X} (H : GZ F s = some x) : ∃ n, iter F n s = some x := by
 unfold GZ at H
 split at H
 ·rename_i h
  simp only [Option.some.injEq] at H;obtain ⟨n, hn⟩ := h.choose_spec;rw [H] at hn;exact ⟨n, hn⟩
 ·cases H
section
variable {X : Type} {C : X5} {R : N7} {fl : Flags}
theorem A20 {C : X5} {st : St} {g : Operand} {ps : Array Nat} {pl : Bool} {fin : St → Option X} {step : Nat → DV → (List D7 → Option X) → List D7 → Option X} {x : X} (H : zF C st g ps pl fin step = some x) :
 ∃ t p f i it cs cd ds, g = .tmp t ∧ ps.toList = [p] ∧ (st.get t).2 = .fn f [(i, 0)] ∧ C.iter f = some it ∧ M7 st.sg i = some cs ∧ Ik cs = some cd ∧ it cd = some ds ∧ pl = true ∧
   Ke (step p) (fun sg => fin (j4 st sg)) ds (st.sg.set i (.arr 1 [])) = some x := by
 unfold zF at H
 split at H
 ·rename_i t p hp
  split at H
  ·rename_i f i hm
   obtain ⟨it, h1, H⟩ := C8 H;obtain ⟨cs, h2, H⟩ := C8 H;obtain ⟨cd, h3, H⟩ := C8 H;obtain ⟨ds, h4, H⟩ := C8 H;obtain ⟨h5, H⟩ := F8 H;exact ⟨t, p, f, i, it, cs, cd, ds, rfl, hp, hm, h1, h2, h3, h4, h5, H⟩
  ·cases H
 ·cases H
theorem B2h {C : X5} {st : St} {ps : Array Nat} {fin : St → Option X} {step : Nat → DV → (List D7 → Option X) → List D7 → Option X} {t p f i : Nat} {it : List DV → Option (List DV)} {cs : List (DV × Meta)} {cd ds : List DV}
 (hp : ps.toList = [p]) (hm : (st.get t).2 = .fn f [(i, 0)]) (h1 : C.iter f = some it) (h2 : M7 st.sg i = some cs) (h3 : Ik cs = some cd) (h4 : it cd = some ds) :
 zF C st (.tmp t) ps true fin step = Ke (step p) (fun sg => fin (j4 st sg)) ds (st.sg.set i (.arr 1 [])) := by
 unfold zF;simp only [hp, hm, h1, h2, h3, h4, ob, og]
theorem A73 {step : DV → (List D7 → Option X) → List D7 → Option X} {fin : List D7 → Option X} {ds : List DV} {k : Nat} {d : DV} (h : ds[k]? = some d) (sg : List D7) :
 Ke step fin (ds.drop k) sg = step d (Ke step fin (ds.drop (k + 1))) sg := by
 obtain ⟨hk, h⟩ := z1q.1 h;rw [z19q hk, h];rfl
def Left (c : Code) (n : Nat) (E : Env) (h : Heap) (ds ds' : List Deferred) : Prop := ∃ ms, ds' = ms ++ ds ∧ Marks n E h ms ∧ (P8 c = true → ms = [])
theorem Left.same {c : Code} {n : Nat} {E : Env} {h : Heap} {ds ds' : List Deferred} (e : ds' = ds) : Left c n E h ds ds' := ⟨[], e, Marks.nil, fun _ => rfl⟩
theorem Left.plain {c : Code} {n : Nat} {E : Env} {h : Heap} {ds ds' : List Deferred} (L : Left c n E h ds ds') (hp : P8 c = true) : ds' = ds := by
 obtain ⟨ms, h1, -, h2⟩ := L;rw [h1, h2 hp]; rfl
theorem A78 {c : Code} (h : oL c = true) : P8 c = true := by
 unfold oL at h
 split at h
 ·rfl
 ·rfl
 ·cases h
set_option maxHeartbeats 1000000 in
theorem JW (hm : C.P.follows .mixedOrders = true) (hO : Cv C R) : ∀ (c : Code) {ro : Option Nat} {n : Nat} {K : Out → St → Option X} {st : St} {x : X} {E : Env} {a : Act} {w : World} {Q : Exit → Act → World → Prop}, (ro = none ∨ P8 c = true) → R9 C R fl c K st = some x → J2 E st a w.heap →
 (∀ out E' st' a' w', K out st' = some x → Left c w.heap.size E' w'.heap a.defers a'.defers → J2 E' st' a' w'.heap → Pr J8 E w.heap E' w'.heap → Q5 w w' → Q out.YI a' w') → c.wpIn (Qs ro) n C.P Q a w := by
 intro c
 induction c with
 | skip =>
   intro ro n K st x E a w Q ZK H Rl T;exact wpIn_skip (T .normal E st a w H (Left.same rfl) Rl (Pr.refl _ _ _) (Q5.refl _))
 | region id ops d =>
   intro ro n K st x E a w Q ZK H Rl T;cases d
   ·exact A98 hO H (Rl.FQ fl id) fun E' t a' w' h1 h0 h2 h3 h4 => by
     obtain ⟨E2, t2, k1, k2, k3⟩ := A2G h1 h2;exact T .normal E2 t2 a' w' k1 (Left.same h0) k2 (h3.trans k3) h4
   ·simp only [R9, jV] at H
    exact B28 hm hO H (Rl.FQ fl id) fun E' t a' w' h1 h0 h2 h3 h4 => by
     obtain ⟨E2, t2, k1, k2, k3⟩ := A2G h1 h2;exact T .normal E2 t2 a' w' k1 (Left.same h0) k2 (h3.trans k3) h4
 | seq c d ihc ihd =>
   intro ro n K st x E a w Q ZK H Rl T;have hp : P8 (.seq c d) = true → P8 c = true ∧ P8 d = true := fun h => by simpa [P8] using h
   refine wpIn_seq (ihc (ZK.imp id fun h => (hp h).1) H Rl fun out E' st' a' w' h1 h0 h2 h3 h4 => ?_)
   obtain ⟨ms, q1, q2, q3⟩ := h0;cases out with
   | normal =>
     refine ihd (ZK.imp id fun h => (hp h).2) h1 (h2.clean fl d) fun out E2 st2 a2 w2 k1 k0 k2 k3 k4 => T out E2 st2 a2 w2 k1 ?_ k2 (h3.trans k3) (h4.trans k4)
     obtain ⟨ns, p1, p2, p3⟩ := k0;exact ⟨ns ++ ms, by rw [p1, q1, z32q], p2.append q2 k3 h3.size, fun h => by rw [p3 (hp h).2, q3 (hp h).1]; rfl⟩
   | exit i => exact T (.exit i) E' st' a' w' h1 ⟨ms, q1, q2, fun h => q3 (hp h).1⟩ h2 h3 h4
   | ret => exact T .ret E' st' a' w' h1 ⟨ms, q1, q2, fun h => q3 (hp h).1⟩ h2 h3 h4
 | cond y c d ihc ihd =>
   intro ro n K st x E a w Q ZK H Rl T;have hp : P8 (.cond y c d) = true → P8 c = true ∧ P8 d = true := fun h => by simpa [P8] using h
   simp only [R9, Xp] at H;obtain ⟨r, h1, H⟩ := C8 H;obtain ⟨h2, H⟩ := F8 H;have e1 := (Rl.src h1).data h2;have fin : (r.1 = .bool true ∧ R9 C R fl c K (Su.clean fl c st) = some x) ∨ (r.1 = .bool false ∧ R9 C R fl d K (Su.clean fl d st) = some x) := by
    cases y with
    | tmp t =>
      simp only [src, Option.some.injEq] at h1;subst h1;simp only at H;rcases OP H with ⟨h3, h4⟩ | ⟨h3, h4⟩
      ·rw [EW h3 (by simp)] at h4
       exact .inl ⟨h3, h4⟩
      ·rw [EW h3 (by simp)] at h4
       exact .inr ⟨h3, h4⟩
    | _ => exact OP H
   rcases fin with ⟨h3, h4⟩ | ⟨h3, h4⟩
   ·rw [h3] at e1
    simp only [RV] at e1;exact wpIn_cond_true e1 (ihc (ZK.imp id fun h => (hp h).1) h4 (Rl.clean fl c) fun out E' st' a' w' h1 ⟨ms, q1, q2, q3⟩ h2 h3 h4 => T out E' st' a' w' h1 ⟨ms, q1, q2, fun h => q3 (hp h).1⟩ h2 h3 h4)
   ·rw [h3] at e1
    simp only [RV] at e1;exact wpIn_cond_false e1 (ihd (ZK.imp id fun h => (hp h).2) h4 (Rl.clean fl d) fun out E' st' a' w' h1 ⟨ms, q1, q2, q3⟩ h2 h3 h4 => T out E' st' a' w' h1 ⟨ms, q1, q2, fun h => q3 (hp h).2⟩ h2 h3 h4)
 | block id c ih =>
   intro ro n K st x E a w Q ZK H Rl T;refine wpIn_block (ih ZK H Rl fun out E' st' a' w' h1 h0 h2 h3 h4 => ?_)
   cases out with
   | normal => exact T .normal E' st' a' w' h1 h0 h2 h3 h4
   | exit i =>
     simp only [Out.YI, Exit.inBlock];have h1 : (if i = id then K .normal st' else K (.exit i) st') = some x := h1
     by_cases hi : i = id
     ·rw [if_pos hi] at h1 ⊢
      exact T .normal E' st' a' w' h1 h0 h2 h3 h4
     ·rw [if_neg hi] at h1 ⊢
      exact T (.exit i) E' st' a' w' h1 h0 h2 h3 h4
   | ret => exact T .ret E' st' a' w' h1 h0 h2 h3 h4
 | loop c ih =>
   intro ro n K st x E a w Q ZK H Rl T;simp only [R9] at H;obtain ⟨m, H9⟩ := Zq H;refine wpIn_loop_rounds m ?_;clear H;have Rl9 := Rl.clean fl c;clear Rl;generalize Su.clean fl c st = st9 at H9 Rl9;clear st
   induction m generalizing st9 E a w with
   | zero => simp [iter] at H9
   | succ m ihn =>
     rw [roundsIn_succ];simp only [iter] at H9;refine ih ZK H9 Rl9 fun out E' st' a' w' h1 h0 h2 h3 h4 => ?_
     obtain ⟨ms, q1, q2, q3⟩ := h0;cases out with
     | normal =>
       refine ihn (fun out E2 st2 a2 w2 k1 k0 k2 k3 k4 => T out E2 st2 a2 w2 k1 ?_ k2 (h3.trans k3) (h4.trans k4)) _ h1 (h2.clean fl c)
       obtain ⟨ns, p1, p2, p3⟩ := k0;exact ⟨ns ++ ms, by rw [p1, q1, z32q], p2.append q2 k3 h3.size, fun h => by rw [p3 h, q3 h]; rfl⟩
     | exit i => exact T (.exit i) E' st' a' w' h1 ⟨ms, q1, q2, q3⟩ h2 h3 h4
     | ret => exact T .ret E' st' a' w' h1 ⟨ms, q1, q2, q3⟩ h2 h3 h4
 | exit id =>
   intro ro n K st x E a w Q ZK H Rl T;exact wpIn_exit (T (.exit id) E st a w H (Left.same rfl) Rl (Pr.refl _ _ _) (Q5.refl _))
 | ret =>
   intro ro n K st x E a w Q ZK H Rl T;exact wpIn_ret (T .ret E st a w H (Left.same rfl) Rl (Pr.refl _ _ _) (Q5.refl _))
 | rangeFunc g ps assign body iha ihb =>
   intro ro n K st x E a w Q ZK H Rl T;obtain rfl : ro = none := by
    rcases ZK with h | h
    ·exact h
    ·simp [P8] at h
   obtain ⟨t, p, f, i, it, cs, cd, ds, rfl, hps, hmt, hit, hbx, hcd, xe, dP, H⟩ := A20 H;simp only [z3q] at dP;obtain ⟨hra, hpb⟩ := dP;have hpa := A78 hra;have hfn := Rl.src (P := C.P) (t := 0) (x := .tmp t) rfl;rw [hmt] at hfn;simp only [RR, K4] at hfn;obtain ⟨hfv, hfi⟩ := hfn;have De : i < E.n := hfi (i, 0) (by simp)
   have hsi : st.sg[i]? = some (.box cs) := by
    unfold M7 at hbx
    split at hbx
    ·rename_i h; simp only [Option.some.injEq] at hbx; subst hbx; exact h
    ·cases hbx
   have hRO := Rl.Q3 i _ hsi;simp only [RO] at hRO;obtain ⟨c, T0, b1, b2, b3, b4⟩ := hRO;have B7M : GJ E.S w.heap cd c.toList := A4D (k := 2) (a := i) hcd (by simp [b2]) fun j r v hr hv => by
    obtain ⟨a1, a2, a3, a4⟩ := b4 j r v hr (by simpa using hv)
    exact ⟨a1, a2, a3, j, a4⟩
   let E1 := E.re (A5T i)
   have hS1 : X8 E.S w.heap E1.S w.heap := Jq rfl;have P01 : Pr J8 E w.heap E1 w.heap := Pr.re fun T hT => by
    cases T <;> simp [J8] at hT <;> rfl
   have B73 : ∀ (j : Nat) ob, (st.sg.set i (.arr 1 []))[j]? = some ob → RO E1 w.heap j ob := by
    intro j ob hj
    by_cases Pt : i = j
    ·subst Pt
     rw [List.getElem?_set_self (z1q.1 hsi).1] at hj;simp only [Option.some.injEq] at hj;subst hj;simp [RO]
    ·rw [z59q Pt] at hj
     have hji : ¬ j = i := fun h => Pt h.symm
     refine (Rl.Q3 j ob hj).to (E := E) ⟨fun b o h => by simp only [E1, Env.re]; rw [h]; rfl, fun b o h => by simp only [E1, Env.re]; rw [h]; simp [A5T, hji], rfl, rfl, rfl, rfl⟩ fun q b o h => by
      simp only [E1, Env.re]; rw [h]; simp [A5T, hji]
   have B6P : ∀ o, o < c.size → E1.O (E.obj i) o = .other := by
    intro o ho;simp only [E1, Env.re];rcases b3 o with h | h
    ·rw [h]; simp [A5T]
    ·omega
   refine wpIn_rangeFunc fun fn _ => ?_
   obtain ⟨rec, Ym⟩ : ∃ rec : LoopState → Option Code → Loop, rec = fun st pe => { state := st, pending := pe, fn, tmps := a.tmps, params := ps, assign, body, defers := w.heap.size } := ⟨_, rfl⟩
   obtain ⟨W1, hW1⟩ : ∃ W1, (w.alloc (.deferred (some []))).alloc (.loop (rec .ready none)) = W1 := ⟨_, rfl⟩;have B8T : W1.heap.size = w.heap.size + 2 := by rw [← hW1]; simp
   have hL1 : W1.heap[w.heap.size + 1]? = some (.loop (rec .ready none)) := by
    rw [← hW1]; have := World.alloc_heap_new (w.alloc (.deferred (some []))) (.loop (rec .ready none)); rwa [World.size_alloc] at this
   have hK1 : W1.heap[w.heap.size]? = some (.deferred (some [])) := by
    rw [← hW1]; exact (Go.RowKit.Below.heap_alloc _ _ _ (by simp)).trans (World.alloc_heap_new w _)
   have P1 : Pr (fun _ => False) E1 w.heap E1 W1.heap := by
    rw [← hW1];exact (Pr.push (fun _ _ _ _ => rfl) (z12q _) (fun _ _ => ⟨rfl, rfl, rfl⟩) (fun _ _ => rfl)).trans (Pr.push (fun _ _ _ _ => rfl) (z12q _) (fun _ _ => ⟨rfl, rfl, rfl⟩) (fun _ _ => rfl))
   have A6G : ∀ b o, w.heap.size ≤ b → E1.O b o = .other := fun b o hb => by simp only [E1, Env.re]; rw [Rl.fresh b o hb]; rfl
   have A9F : X8 E1.S w.heap E1.S W1.heap := P1.shut (by simp) A6G
   have B6V : Q5 w W1 := by rw [← hW1]; exact ⟨rfl, rfl, rfl⟩
   refine ⟨w.heap.size + 1, [{ target := .collected w.heap.size, args := #[] }], W1, { target := .fn (.func f) #[.pointer (some ⟨E.obj i, 0, none⟩)], args := #[.func (.yield (w.heap.size + 1)) #[] #[]] }, W1, f,
    #[.func (.yield (w.heap.size + 1)) #[] #[], .pointer (some ⟨E.obj i, 0, none⟩)], W1, ?_, ?_, fun _ _ => trivial, ?_, fun h => (by cases h), ?_⟩
   ·rw [← hW1, Ym]; exact run_enterLoop_outer _ _ _ _ _
   ·simp only [resolve, hfv]
    simp [go_sem]
   ·have := d_ (hO.i f it hit).1 #[.func (.yield (w.heap.size + 1)) #[] #[], .pointer (some ⟨E.obj i, 0, none⟩)] W1
    simpa [invoke, go_sem] using this
   let step : DV → (List D7 → Option X) → List D7 → Option X := fun d J sg =>
    R9 C R fl assign (fun o st1 => match o with
     | .normal => R9 C R fl body (fun o st2 => match o with
       | .normal => J st2.sg
       | .exit e => K (.exit e) (j4 st st2.sg)
       | .ret => K .ret (j4 st st2.sg)) (Su.clean fl body st1)
     | .exit _ => none
     | .ret => none) (Su.clean fl assign (Wq st p d sg))
   let fin : List D7 → Option X := fun sg => K .normal (j4 st sg)
   have H : Ke step fin ds (st.sg.set i (.arr 1 [])) = some x := H
   let Good : Env → World → List D7 → Prop := fun E' W sg => sg.length = E'.n ∧ (∀ (j : Nat) ob, sg[j]? = some ob → RO E' W.heap j ob) ∧ (∀ b o, W.heap.size ≤ b → E'.O b o = .other) ∧ Pr J8 E1 w.heap E' W.heap ∧ Q5 w W ∧
    W.heap[w.heap.size]? = some (.deferred (some [])) ∧ E'.O w.heap.size 0 = .other ∧ E'.O (w.heap.size + 1) 0 = .other
   let J : Nat → Env → World → Prop := fun k E' W => ∃ sg, Ke step fin (ds.drop k) sg = some x ∧ Good E' W sg ∧ W.heap[w.heap.size + 1]? = some (.loop (rec .ready none))
   let Jx : World → Prop := fun W => ∃ (out : Out) (cd : Code) (E' : Env) (sg : List D7), ((out = .ret ∧ cd = .ret) ∨ ∃ e, out = .exit e ∧ cd = .exit e) ∧ K out (j4 st sg) = some x ∧ Good E' W sg ∧ W.heap[w.heap.size + 1]? = some (.loop (rec .done (some cd)))
   have behind : ∀ E' W sg (dl : List Deferred), Good E' W sg → J2 E' (j4 st sg) { a with defers := dl } W.heap := by
    intro E' W sg dl ⟨g1, g2, g3, g4, g5, g6, g7, g8⟩;have I9 : X8 E.S w.heap E'.S W.heap := by
     have h2 := g4.shut (by simp [J8]) A6G
     exact ⟨fun b o hs => h2.s b o (hS1.s b o hs), fun b o v hs hv => h2.c b o v (hS1.s b o hs) hv⟩
    exact Rl.outer I9 g4.n (fun j hj => (g4.Q3 j hj).1) g1 g2 g3
   have A8L : ∀ E' W sg (o : Obj) (o' : Obj), Good E' W sg → W.heap[w.heap.size + 1]? = some o → o.isCells = false → Good E' (W.putObj (w.heap.size + 1) o') sg := by
    intro E' W sg o o' ⟨g1, g2, g3, g4, g5, g6, g7, g8⟩ ho hc;have Pp : Pr (fun T => T = .other) E' W.heap E' (W.putObj (w.heap.size + 1) o').heap := Pr.setOther ho hc g8
    have I9 := Pp.shut (by simp) g3
    refine ⟨g1, fun j ob hj => (g2 j ob hj).mono Pp I9 (by rw [← g1]; exact (z1q.1 hj).1) (by simp) (by simp), fun b o hb => g3 b o (by simpa using hb), g4.yN (by omega), ⟨g5.os, g5.tape, g5.output⟩, ?_, g7, g8⟩
    exact (World.putObj_heap_other (by omega)).trans g6
   have B7R : W1.heap[E.obj i]? = some (.cells c T0 (0, 0)) := by
    have H7 := (z0q.1 b1).1;rw [← hW1];exact (Go.RowKit.Below.heap_alloc _ _ _ (by simp; omega)).trans ((Go.RowKit.Below.heap_alloc _ _ _ H7).trans b1)
   have key := (hO.i f it hit).2 cd ds xe (n - 1) (w.heap.size + 1) (E.obj i) c T0 J Jx E1 W1 B7R B6P (GJ.mono ⟨fun b o hs => A9F.s b o (hS1.s b o hs), fun b o v hs hv => A9F.c b o v (hS1.s b o hs) hv⟩ _ B7M)
    (fun k E' W' ⟨sg, _, g, _⟩ => g.2.2.1) ?_ ?_ ?_
   ·refine CallsIn.mono key ?_
    rintro e W2 ⟨⟨v, rfl⟩, ⟨E', sg, h1, g, hl⟩ | ⟨out, cd, E', sg, ho, h1, g, hl⟩⟩
    ·-- all have come
     have g' := A8L E' W2 sg _ (.loop { rec .ready none with state := .exhausted }) g hl rfl
     refine ⟨none, W2.putObj (w.heap.size + 1) (.loop { rec .ready none with state := .exhausted }), by have := run_endLoop (P := C.P) hl (by rw [Ym]; simp); rw [this]; rw [Ym], ?_⟩
     rw [z53q] at h1;refine T .normal E' _ _ _ h1 ⟨[{ target := .collected w.heap.size, args := #[] }], rfl, ?_, fun h => by simp [P8] at h⟩ (behind E' _ sg _ g') (P01.trans g'.2.2.2.1) g'.2.2.2.2.1
     refine ⟨fun m hm => ?_, by simp⟩
     simp only [z66q] at hm;subst hm;exact ⟨_, rfl, g'.2.2.2.2.2.1, g'.2.2.2.2.2.2.1, z12q _⟩
    ·-- a round has left the loop
     have g' := A8L E' W2 sg _ (.loop { rec .done (some cd) with state := .exhausted }) g hl rfl
     refine ⟨some cd, W2.putObj (w.heap.size + 1) (.loop { rec .done (some cd) with state := .exhausted }), by have := run_endLoop (P := C.P) hl (by rw [Ym]; simp); rw [this]; rw [Ym], ?_⟩
     have hT : Q out.YI { a with defers := [{ target := .collected w.heap.size, args := #[] }] ++ a.defers } (W2.putObj (w.heap.size + 1) (.loop { rec .done (some cd) with state := .exhausted })) := by
      refine T out E' _ _ _ h1 ⟨[{ target := .collected w.heap.size, args := #[] }], rfl, ?_, fun h => by simp [P8] at h⟩ (behind E' _ sg _ g') (P01.trans g'.2.2.2.1) g'.2.2.2.2.1
      refine ⟨fun m hm => ?_, by simp⟩
      simp only [z66q] at hm;subst hm;exact ⟨_, rfl, g'.2.2.2.2.2.1, g'.2.2.2.2.2.2.1, z12q _⟩
     rcases ho with ⟨rfl, rfl⟩ | ⟨e, rfl, rfl⟩
     ·exact wpIn_ret hT
     ·exact wpIn_exit hT
   ·intro k E' Wa Wb ⟨sg, h1, ⟨g1, g2, g3, g4, g5, g6, g7, g8⟩, hl⟩ hIt
    have I9 := hIt.pr.shut (by simp) g3
    exact ⟨sg, h1, ⟨g1, fun j ob hj => (g2 j ob hj).mono hIt.pr I9 (by rw [← g1]; exact (z1q.1 hj).1) (by simp) (by simp), fun b o hb => g3 b o (z42q hIt.size hb), hIt.after (by omega) g4, g5.trans hIt.out, hIt.keep g6 rfl, g7, g8⟩, hIt.keep hl rfl⟩
   ·-- one round
    intro k E' W d v ⟨sg, h1, g, hl⟩ hd hv;rw [A73 hd] at h1;have B5x : ps = #[p] := by
     apply Array.ext';simpa using hps
    have hy := run_yield (P := C.P) (args := #[v]) hl (by rw [Ym]; simp [B5x])
    rw [Ym] at hy;refine ⟨fn, _, assign, body, hy, roundIn_of_wpIn trivial ?_⟩;obtain ⟨g1, g2, g3, g4, g5, g6, g7, g8⟩ := g;have R0 : J2 E' (Wq st p d sg) ({ tmps := a.tmps.setIfInBounds p v, defers := [] } : Act) W.heap := by
     have := (behind E' W sg [] ⟨g1, g2, g3, g4, g5, g6, g7, g8⟩).put (dst := some p) (d := d) (m := .val) (v := v) fun t0 _ => hv
     exact this
    have B6M : (Array.zip ps #[v]).foldl (fun tmps (t, a) => tmps.setIfInBounds t a) a.tmps = a.tmps.setIfInBounds p v := by rw [B5x]; simp
    simp only [B6M];refine iha (ro := some (w.heap.size + 1)) (.inr hpa) h1 (R0.clean fl assign) fun out E2 st1 a1 w1 k1 k0 k2 k3 k4 => ?_
    cases out with
    | exit e => cases k1
    | ret => cases k1
    | normal =>
    have d1 : a1.defers = [] := k0.plain hpa;have Vj := k3.dX hl rfl g8;have t1 : E2.O (w.heap.size + 1) 0 = .other := k3.Wm (z0q.1 hl).1 g8;refine ⟨_, run_beginRound Vj (by rw [Ym]), ?_⟩
    have R2 : J2 E2 (Su.clean fl body st1) a1 (w1.putObj (w.heap.size + 1) (.loop { rec .ready none with state := .busy })).heap :=
     (k2.others (Pr.setOther Vj rfl t1) rfl (fun b o hb => k2.fresh b o (by simpa using hb))).clean fl body
    refine ihb (ro := some (w.heap.size + 1)) (.inr hpb) k1 R2 fun out E3 st2 a3 w3 q1 q0 q2 q3 q4 => ?_
    have xq : (w1.putObj (w.heap.size + 1) (.loop { rec .ready none with state := .busy })).heap[w.heap.size + 1]? = some (.loop { rec .ready none with state := .busy }) := World.putObj_heap_same (z0q.1 Vj).1
    have hl3 := q3.dX xq rfl t1;have t3 : E3.O (w.heap.size + 1) 0 = .other := q3.Wm (z0q.1 xq).1 t1;have lt3 := (z0q.1 hl3).1;have sz1 := k3.size;have H7 := (z0q.1 hl).1;have Pw : Pr J8 E' W.heap E3 (w3.heap.setIfInBounds (w.heap.size + 1) (.loop (rec .ready none))) := k3.trans (q3.swap Vj);have Pb : ∀ o, Pr J8 E1 w.heap E3 (w3.heap.setIfInBounds (w.heap.size + 1) o) := fun o => by
     have := (g4.trans Pw).yN (l := w.heap.size + 1) (x := o) (by omega)
     rwa [Array.setIfInBounds_setIfInBounds] at this
    have hD1 := k3.dX g6 rfl g7;have tD1 : E2.O w.heap.size 0 = .other := k3.Wm (z0q.1 g6).1 g7;have hD2 : (w1.putObj (w.heap.size + 1) (.loop { rec .ready none with state := .busy })).heap[w.heap.size]? = some (.deferred (some [])) := (World.putObj_heap_other (by omega)).trans hD1
    have hD3 := q3.dX hD2 rfl tD1;have tD3 : E3.O w.heap.size 0 = .other := q3.Wm (z0q.1 hD2).1 tD1;have A9A : ∀ o, Good E3 (w3.putObj (w.heap.size + 1) o) st2.sg := fun o => by
     have R3 := q2.others (Pr.setOther (x := o) hl3 rfl t3) rfl (fun b o hb => q2.fresh b o (by simpa using hb))
     refine ⟨R3.n, R3.Q3, R3.fresh, Pb o, ?_, (World.putObj_heap_other (by omega)).trans hD3, tD3, t3⟩
     have := (g5.trans k4).trans (Q5.trans (b := w1.putObj (w.heap.size + 1) (.loop { rec .ready none with state := .busy })) ⟨rfl, rfl, rfl⟩ q4)
     exact ⟨this.os, this.tape, this.output⟩
    cases out with
    | normal =>
      refine ⟨_, _, run_endRound none hl3, .inl ⟨rfl, E3, ⟨st2.sg, q1, A9A _, ?_⟩, ?_⟩⟩
      ·rw [World.putObj_heap_same lt3]; rw [Ym]; rfl
      ·have : (Obj.loop { { rec .ready none with state := .busy } with state := if (none : Option Code).isNone = true then .ready else .done, pending := none }) = .loop (rec .ready none) := by rw [Ym]; rfl
       rw [this];exact Pw
    | ret =>
      refine ⟨_, _, run_endRound (some .ret) hl3, .inr ⟨rfl, .ret, .ret, E3, st2.sg, .inl ⟨rfl, rfl⟩, q1, A9A _, ?_⟩⟩;rw [World.putObj_heap_same lt3]; rw [Ym]; rfl
    | exit e =>
      refine ⟨_, _, run_endRound (some (.exit e)) hl3, .inr ⟨rfl, .exit e, .exit e, E3, st2.sg, .inr ⟨e, rfl, rfl⟩, q1, A9A _, ?_⟩⟩;rw [World.putObj_heap_same lt3]; rw [Ym]; rfl
   ·-- where it begins
    refine ⟨_, H, ⟨by rw [List.length_set]; exact Rl.n, fun j ob hj => (B73 j ob hj).mono P1 A9F ?_ (by simp) (by simp), fun b o hb => A6G b o (by omega), P1.weaken (by simp), B6V, hK1, A6G _ _ (z12q _), A6G _ _ (by omega)⟩, hL1⟩
    have := (z1q.1 hj).1;rw [List.length_set, Rl.n] at this;exact this
 | _ =>
   intro ro n K st x E a w Q ZK H Rl T;simp [R9] at H
end
end Go.Su

/-
 THE DATA MACHINE, part 26: a plain function's results.
-/
namespace Go.Su
structure yz (E : Env) (h : Heap) (g : List D7) (S : Q6) : Prop where
 le : X8 E.S h S h
 ob : ∀ (i : Nat) ob, g[i]? = some ob → RO E h i ob ∧ (ob ≠ .arr 1 [] → ∀ b o, E.O b o = .obj i → S b o)
def Env.fin (E : Env) : Q6 := fun b o => E.O b o = .shut ∨ ∃ i, E.O b o = .obj i
theorem B5f (E : Env) (h : Heap) : X8 E.S h E.fin h := ⟨fun _ _ hs => .inl hs, fun _ _ _ _ hv => hv⟩
theorem B0W {E : Env} {st : St} {a : Act} {h : Heap} (Rl : J2 E st a h) : yz E h st.sg E.fin := ⟨B5f E h, fun i ob hi => ⟨Rl.Q3 i ob hi, fun _ _ _ h => .inr ⟨i, h⟩⟩⟩
theorem A9T (E : Env) (h : Heap) : yz E h [] E.S := ⟨⟨fun _ _ hs => hs, fun _ _ _ _ hv => hv⟩, fun i ob hi => by simp at hi⟩
theorem XY {E : Env} {h : Heap} {sg : List D7} {c : DV × Meta} {d : DV} {tg : Tag} {v : Value} (H : AF sg c = some d) (R : K4 E h tg c.1 c.2 v) {S : Q6} (ho : yz E h sg S) :
 RV S h d v ∧ (M9 c.1 = true → c.2 = .val → M9 d = true) ∧ (c.2 ≠ .val → M9 d = true) := by
 unfold AF at H
 split at H
 ·rename_i hm
  simp only [Option.some.injEq] at H;subst H;rw [hm] at R;exact ⟨RV.mono ho.le _ R, fun h _ => h, fun h => absurd hm h⟩
 ·rename_i hm
  simp only [Option.some.injEq] at H;subst H;rw [hm] at R;obtain ⟨R1, -, sz, ds, hd⟩ := R;exact ⟨R1.mono ho.le, fun h _ => h, fun _ => by rw [hd]; rfl⟩
 ·rename_i hm
  simp only [Option.some.injEq] at H;subst H;rw [hm] at R;obtain ⟨R1, sz, ds, hd, -⟩ := R;exact ⟨R1.mono ho.le, fun h _ => h, fun _ => by rw [hd]; rfl⟩
 ·rename_i hm
  simp only [Option.some.injEq] at H;subst H;rw [hm] at R;obtain ⟨R1, R2⟩ := (R : _ ∧ _);exact ⟨by rw [R1, R2]; simp only [RV], fun h _ => h, fun _ => by rw [R1]; rfl⟩
 ·rename_i i sz off len hm
  obtain ⟨p, hp, H⟩ := C8 H;obtain ⟨h1, H⟩ := F8 H;obtain ⟨h2, H⟩ := M3 H;simp only [Option.some.injEq] at H;subst H;rw [hm] at R;simp only [K4] at R;obtain ⟨hi, a, cap, rfl, ha, A35, A9C, A9I, -⟩ := R;refine ⟨?_, fun _ _ => rfl, fun _ => rfl⟩
  simp only [RV, RC];have hll : ((p.2.drop off).take len).length = len := by simp; omega
  obtain ⟨hob, VC⟩ := ho.ob i _ (Zy hp);simp only [beq_iff_eq] at h1;refine ⟨a, len, cap, rfl, hll.symm, A35, A9C, fun hne => ?_, fun x hx => ⟨fun _ => A9I x hx, ?_⟩⟩
  ·simp only [RO] at hob
   have : p.2 ≠ [] := fun h => by rw [h] at hne; simp at hne
   obtain ⟨c, T, e1, e2, e3, -⟩ := hob this;rw [← h1]; exact e3
  ·rw [Dc]
   intro j d hj;have hjl : j < len := by
    have := (z1q.1 hj).1;omega
   rw [List.getElem?_take_of_lt hjl, List.getElem?_drop] at hj;have hne : p.2 ≠ [] := fun h => by rw [h] at hj; simp at hj
   simp only [RO] at hob;obtain ⟨c, T, e1, e2, e3, e4, e5⟩ := hob hne;obtain ⟨vs, v1, v2, v3⟩ := e5 (off + j) d hj;have hax := ha (by omega)
   rw [hx] at hax;simp only [Option.some.injEq] at hax;subst hax;refine ⟨vs, by rw [← h1]; exact v1, fun y u hu => ?_, v3.mono ho.le⟩
   have hy : y < p.1 := by have := (z1q.1 hu).1; omega
   have hjp : off + j < p.2.length := (z1q.1 hj).1;have H7 : (off + j) * p.1 + y < p.2.length * p.1 := seg_lt hjp hy;have e : E.base i + off * sz + j * sz + y = E.base i + (off + j) * p.1 + y := by rw [← h1, Nat.add_mul]; omega
   refine ⟨?_, VC (fun h => hne (by have := congrArg (fun ob => match ob with | D7.arr _ ds => ds | _ => []) h; exact this)) _ _ ?_⟩
   ·rw [e]
    simp only [hc, e1];exact v2 y u hu
   ·rw [e]
    exact e4 _ (by omega) (by omega)
 ·cases H
theorem eD {E : Env} {h : Heap} {sg : List D7} {S : Q6} (ho : yz E h sg S) : ∀ {cs : List (DV × Meta)} {vs : List Value} {ds : List DV}, Dp sg cs = some ds → cs.length = vs.length →
 (∀ (j : Nat) r v, cs[j]? = some r → vs[j]? = some v → M9 r.1 = true ∧ v.oneCell' = true ∧ ∃ tg, K4 E h tg r.1 r.2 v) → GJ S h ds vs
 | [], vs, ds, H, hl, _ => by
   simp only [Dp, Option.some.injEq] at H;subst H;exact z28q hl.symm
 | c :: cs, [], ds, H, hl, _ => by simp at hl
 | c :: cs, v :: vs, ds, H, hl, hR => by
   simp only [Dp] at H;obtain ⟨d, h1, H⟩ := C8 H;obtain ⟨ds', h2, H⟩ := C8 H;simp only [Option.some.injEq] at H;subst H;obtain ⟨q1, q2, tg, q3⟩ := hR 0 c v rfl rfl;obtain ⟨r1, r2, r3⟩ := XY h1 q3 ho;have hlf : M9 d = true := by
    by_cases hm : c.2 = .val
    ·exact r2 q1 hm
    ·exact r3 hm
   simp only [GJ];exact ⟨v, vs, rfl, hlf, Rw hlf q2 r1, eD ho h2 (by simpa using hl) fun j r u hr hu => hR (j + 1) r u (by simpa using hr) (by simpa using hu)⟩
def MS (tmps : Array Value) : ResultVar → Sem Value
 | .tmp t => pure (tmps.getD t undef)
 | .cell a t => do loadVar t (← asAddr (tmps.getD a undef))
theorem yI {P : Program} {E : Env} {st : St} {a : Act} {w : World} {rv : ResultVar} {d : DV} {S : Q6} {g : List D7} (H : dz P (st.Hz g) rv = some d) (Rl : J2 E st a w.heap) (ho : yz E w.heap g S) :
 ∃ v, (MS a.tmps rv).run P w = .ok v w ∧ RV S w.heap d v := by
 cases rv with
 | tmp t =>
   have H : (match (st.get t).2 with
    | .Ad ms => og (J3 (.Ad ms)) (some (st.get t).1)
    | _ => AF g (st.get t)) = some d := H
   have hR : RR E w.heap 0 t (st.get t).1 (st.get t).2 (a.tmps.getD t undef) := Rl.src (P := P) (t := 0) (x := .tmp t) rfl;refine ⟨a.tmps.getD t undef, rfl, ?_⟩
   split at H
   ·rename_i ms hm
    obtain ⟨h1, H⟩ := F8 H;simp only [Option.some.injEq] at H;subst H;exact (hR.data (by rw [hm]; exact h1)).mono ho.le
   ·rename_i hm
    have hnt : ∀ ms, (st.get t).2 ≠ .Bi ms := fun ms h => by
     unfold AF at H;rw [h] at H;simp at H
    exact (XY H (hR.yn hnt fun ms h => hm ms h) ho).1
 | cell p t =>
   have H : (match (st.get p).2 with
    | .loc s 0 => ob (st.bx.getD s none) fun cs => ob (tz P t) fun z =>
      if z.1 = cs.length then
       if z.2 then ob (Dp g cs) fun ds => some (.agg ds)
       else match cs with
        | [c] => AF g c
        | _ => none
      else none
    | .ptr i 0 => ob (M7 g i) fun cs => ob (tz P t) fun z =>
      if z.1 = cs.length then
       if z.2 then ob (Dp g cs) fun ds => some (.agg ds)
       else match cs with
        | [c] => AF g c
        | _ => none
      else none
    | _ => none) = some d := H
   have hR : RR E w.heap 0 p (st.get p).1 (st.get p).2 (a.tmps.getD p undef) := Rl.src (P := P) (t := 0) (x := .tmp p) rfl
   split at H
   ·rename_i s hm
    obtain ⟨cs, h1, H⟩ := C8 H;obtain ⟨z, h2, H⟩ := C8 H;obtain ⟨h3, H⟩ := M3 H;rw [hm] at hR;simp only [RR, K4] at hR;obtain ⟨c, T, b1, b2, b3, b4⟩ := Rl.boxes s cs h1;obtain ⟨v, hv, mP, Vk⟩ := Gg (w := w) h2 (b := E.blk s) (off := 0) (vs := c.toList) (by simp [b2, h3]) fun j u hu => by
     simp only [hc, b1, z17q];simpa using hu
    have U1 : (MS a.tmps (.cell p t)).run P w = .ok v w := by
     simp only [MS, hR.2, asAddr, Sem.run_bind, Sem.run_pure, Result.andThen_ok];exact hv
    refine ⟨v, U1, ?_⟩;have b5 : ∀ (j : Nat) r u, cs[j]? = some r → c.toList[j]? = some u → M9 r.1 = true ∧ u.oneCell' = true ∧ ∃ tg, K4 E w.heap tg r.1 r.2 u := fun j r u hr hu => by
     obtain ⟨q1, q2, q3, q4⟩ := b4 j r u hr (by simpa using hu)
     exact ⟨q1, q2, _, q4⟩
    by_cases hz : z.2 = true
    ·rw [if_pos hz] at H
     obtain ⟨ds, h4, H⟩ := C8 H;simp only [Option.some.injEq] at H;subst H;rw [mP hz];simp only [RV];exact ⟨_, rfl, eD ho h4 (by simp [b2]) b5⟩
    ·rw [if_neg hz] at H
     have hcv := Vk (by simpa using hz)
     have h5 : ∃ c0, cs = [c0] ∧ AF g c0 = some d := by
      split at H
      ·exact ⟨_, rfl, H⟩
      ·cases H
     obtain ⟨c0, rfl, h6⟩ := h5;obtain ⟨q1, q2, tg, q3⟩ := b5 0 c0 v rfl (by rw [hcv]; rfl)
     exact (XY h6 q3 ho).1
   ·rename_i i hm
    obtain ⟨cs, h1, H⟩ := C8 H;obtain ⟨z, h2, H⟩ := C8 H;obtain ⟨h3, H⟩ := M3 H;rw [hm] at hR;simp only [RR, K4] at hR;have hgi : g[i]? = some (.box cs) := by
     unfold M7 at h1
     split at h1
     ·rename_i h; simp only [Option.some.injEq] at h1; subst h1; exact h
     ·cases h1
    have hRO := (ho.ob i _ hgi).1;simp only [RO] at hRO;obtain ⟨c, T, b1, b2, b3, b4⟩ := hRO;obtain ⟨v, hv, mP, Vk⟩ := Gg (w := w) h2 (b := E.obj i) (off := 0) (vs := c.toList) (by simp [b2, h3]) fun j u hu => by
     simp only [hc, b1, z17q];simpa using hu
    have U1 : (MS a.tmps (.cell p t)).run P w = .ok v w := by
     simp only [MS, hR.2, asAddr, Sem.run_bind, Sem.run_pure, Result.andThen_ok];exact hv
    refine ⟨v, U1, ?_⟩;have b5 : ∀ (j : Nat) r u, cs[j]? = some r → c.toList[j]? = some u → M9 r.1 = true ∧ u.oneCell' = true ∧ ∃ tg, K4 E w.heap tg r.1 r.2 u := fun j r u hr hu => by
     obtain ⟨q1, q2, q3, q4⟩ := b4 j r u hr (by simpa using hu)
     exact ⟨q1, q2, _, q4⟩
    by_cases hz : z.2 = true
    ·rw [if_pos hz] at H
     obtain ⟨ds, h4, H⟩ := C8 H;simp only [Option.some.injEq] at H;subst H;rw [mP hz];simp only [RV];exact ⟨_, rfl, eD ho h4 (by simp [b2]) b5⟩
    ·rw [if_neg hz] at H
     have hcv := Vk (by simpa using hz)
     have h5 : ∃ c0, cs = [c0] ∧ AF g c0 = some d := by
      split at H
      ·exact ⟨_, rfl, H⟩
      ·cases H
     obtain ⟨c0, rfl, h6⟩ := h5;obtain ⟨q1, q2, tg, q3⟩ := b5 0 c0 v rfl (by rw [hcv]; rfl)
     exact (XY h6 q3 ho).1
   ·cases H
theorem A3y {P : Program} {E : Env} {st : St} {a : Act} {w : World} (Rl : J2 E st a w.heap) : ∀ {rs : List ResultVar} {ds : List DV}, aJ P st rs = some ds →
 ∃ vs : List Value, (rs.mapM (MS a.tmps)).run P w = .ok vs w ∧ Pj E.fin w.heap ds vs ∧ vs.length = rs.length
 | [], ds, H => by
   simp only [aJ, Option.some.injEq] at H;subst H;exact ⟨[], rfl, rfl, rfl⟩
 | r :: rs, ds, H => by
   simp only [aJ] at H;obtain ⟨d, h1, H⟩ := C8 H;obtain ⟨ds', h2, H⟩ := C8 H;simp only [Option.some.injEq] at H;subst H;obtain ⟨v, q1, q2⟩ := yI (g := st.sg) h1 Rl (B0W Rl);obtain ⟨vs, q3, q4, q5⟩ := A3y Rl h2;refine ⟨v :: vs, ?_, ⟨v, vs, rfl, q2, q4⟩, by simp [q5]⟩
   simp only [List.mapM_cons, Sem.run_bind, q1, q3, Result.andThen_ok, Sem.run_pure]
theorem A3z (fn : Func) (tmps : Array Value) : results fn tmps = (do
 let vs ← fn.results.toList.mapM (MS tmps)
 pure (if h : vs.toArray.size = 1 then vs.toArray[0] else .tuple vs.toArray)) := by
 have : results fn tmps = (do
  let vs ← fn.results.mapM (MS tmps)
  pure (if h : vs.size = 1 then vs[0] else .tuple vs)) := by
  unfold results
  congr 1
 rw [this, Array.mapM_eq_mapM_toList];simp
theorem B4k {S : Q6} {h : Heap} {ds : List DV} {vs : List Value} (R : Pj S h ds vs) : RV S h (pack ds) (if h : vs.toArray.size = 1 then vs.toArray[0] else .tuple vs.toArray) := by
 obtain ⟨hl, hR⟩ := Vs.1 R
 by_cases h1 : vs.toArray.size = 1
 ·rw [dif_pos h1]
  obtain ⟨v, rfl⟩ := z50q.1 (by simpa using h1)
  obtain ⟨d, rfl⟩ := z50q.1 (by simpa using hl)
  exact hR 0 d v rfl rfl
 ·rw [dif_neg h1]
  unfold pack
  split
  ·simp at hl h1; omega
  ·simp only [RV]
   exact ⟨_, rfl, by simpa using R⟩
def L_ (us : List Nat) (sg : List D7) : List D7 := sg.mapIdx fun i ob => if i ∈ us then ob else .arr 1 []
def Er (us : List Nat) (T : Tag) : Tag :=
 match T with
 | .obj i => if i ∈ us then .shut else .obj i
 | T => T
theorem VP {us : List Nat} {T : Tag} (h : ∀ i ∈ us, T ≠ .obj i) : Er us T = T := by
 unfold Er
 split
 ·rename_i i
  rw [if_neg fun hi => h i hi rfl]
 ·rfl
theorem A7g (us : List Nat) {T : Tag} (h : ¬ ∃ i ∈ us, T = .obj i) : Er us T = T := VP fun i hi he => h ⟨i, hi, he⟩
theorem B1g {us : List Nat} {sg : List D7} {i : Nat} (h : i ∈ us) : (L_ us sg)[i]? = sg[i]? := by
 unfold L_;rw [z60q];cases sg[i]? <;> simp [h]
theorem A94 {us : List Nat} {sg : List D7} {i : Nat} (h : i ∈ us) : VO (L_ us sg) i = VO sg i := by
 unfold VO;rw [B1g h]
theorem Yp {us : List Nat} {sg : List D7} {c : DV × Meta} (h : ∀ i ∈ zC c.2, i ∈ us) : AF (L_ us sg) c = AF sg c := by
 obtain ⟨d, m⟩ := c;cases m <;> try rfl
 case arr i sz off len =>
  simp only [AF];rw [A94 (h i (by simp [zC]))]
theorem mg {us : List Nat} {sg : List D7} : ∀ {cs : List (DV × Meta)}, (∀ c ∈ cs, ∀ i ∈ zC c.2, i ∈ us) → Dp (L_ us sg) cs = Dp sg cs
 | [], _ => rfl
 | c :: cs, h => by
   simp only [Dp];rw [Yp (h c (z6q ..)), mg fun c' hc' => h c' (z5q _ hc')]
theorem A79 {P : Program} {st : St} {rv : ResultVar} {us : List Nat} {d : DV} (hl : A1N st rv = true) (hu : ∀ i ∈ UA st rv, i ∈ us) (H : dz P st rv = some d) : dz P (st.Hz (L_ us st.sg)) rv = some d := by
 cases rv with
 | tmp t =>
   simp only [UA] at hu;have e := Yp (us := us) (sg := st.sg) (c := st.get t) hu
   show (match (st.get t).2 with
    | .Ad ms => og (J3 (.Ad ms)) (some (st.get t).1)
    | _ => AF (L_ us st.sg) (st.get t)) = some d
   rw [e];exact H
 | cell p t =>
   simp only [A1N] at hl;simp only [UA] at hu;simp only [dz] at H ⊢
   show (match (st.get p).2 with
    | .loc s 0 => ob (st.bx.getD s none) fun cs => ob (tz P t) fun z =>
      if z.1 = cs.length then
       if z.2 then ob (Dp (L_ us st.sg) cs) fun ds => some (.agg ds)
       else match cs with
        | [c] => AF (L_ us st.sg) c
        | _ => none
      else none
    | .ptr i 0 => ob (M7 (L_ us st.sg) i) fun cs => ob (tz P t) fun z =>
      if z.1 = cs.length then
       if z.2 then ob (Dp (L_ us st.sg) cs) fun ds => some (.agg ds)
       else match cs with
        | [c] => AF (L_ us st.sg) c
        | _ => none
      else none
    | _ => none) = some d
   cases hm : (st.get p).2 with
   | loc s o =>
     rw [hm] at H hu;cases o with
     | succ o => simp at H
     | zero =>
       simp only at H hu ⊢;obtain ⟨cs, h1, H⟩ := C8 H;rw [h1] at hu;simp only at hu;have hc : ∀ c ∈ cs, ∀ i ∈ zC c.2, i ∈ us := fun c hc i hi => hu i (z39q.2 ⟨c, hc, hi⟩)
       rw [h1, K9, mg hc];obtain ⟨z, h2, H⟩ := C8 H;rw [h2, K9];obtain ⟨h3, H⟩ := M3 H;rw [if_pos h3]
       by_cases hz : z.2 = true
       ·rw [if_pos hz] at H ⊢
        exact H
       ·rw [if_neg hz] at H ⊢
        match cs, hc, H with
        | [c], hc, H =>
          simp only at H ⊢;rw [Yp (hc c (z6q ..))];exact H
        | [], _, H => simp at H
        | _ :: _ :: _, _, H => simp at H
   | _ => rw [hm] at hl; simp at hl
theorem A9P {E : Env} {st : St} {a : Act} {h : Heap} (Rl : J2 E st a h) (us : List Nat) : yz E h (L_ us st.sg) (E.re (Er us)).S := by
 refine ⟨Jq (VP (by simp)), fun i ob hi => ?_⟩
 unfold L_ at hi;rw [z60q] at hi;cases hg : st.sg[i]? with
 | none => rw [hg] at hi; simp at hi
 | some o =>
   rw [hg] at hi;simp only [z38q, Option.some.injEq] at hi
   by_cases hm : i ∈ us
   ·rw [if_pos hm] at hi
    subst hi;refine ⟨Rl.Q3 i _ hg, fun _ b o hb => ?_⟩
    simp only [Env.S, Env.re];rw [hb];simp [Er, hm]
   ·rw [if_neg hm] at hi
    subst hi;exact ⟨by simp [RO], fun h => absurd rfl h⟩
theorem B2K (sg : List D7) : ∀ (us : List Nat) (i : Nat), (kill sg us)[i]? = if i ∈ us then (sg[i]?).map (fun _ => D7.arr 1 []) else sg[i]? := by
 intro us
 induction us generalizing sg with
 | nil => intro i; simp [kill]
 | cons u us ih =>
   intro i
   show (kill (sg.set u (.arr 1 [])) us)[i]? = _
   rw [ih]
   by_cases h1 : i ∈ us
   ·rw [if_pos h1, if_pos (z5q _ h1), z68q]
    split
    ·rename_i h; subst h; split <;> simp_all
    ·rfl
   ·rw [if_neg h1]
    by_cases h2 : u = i
    ·subst h2
     rw [if_pos (z6q ..), z68q];simp only [if_true]
     split
     ·rename_i h; rw [z2q h]; rfl
     ·rename_i h; rw [List.getElem?_eq_none (by omega)]; rfl
    ·rw [if_neg (by simp [h1]; exact fun h => h2 h.symm), z59q h2]
theorem J2.shut {E : Env} {st : St} {a : Act} {h : Heap} (R : J2 E st a h) (us : List Nat) : J2 (E.re (Er us)) { st with sg := kill st.sg us } a h := by
 have P : Pr (fun T => ∃ i ∈ us, T = .obj i) E h (E.re (Er us)) h := Pr.re fun T hT => A7g us hT
 have I9 : X8 E.S h (E.re (Er us)).S h := Jq (VP (by simp))
 have Z4 : ∀ (us : List Nat) (g : List D7), (kill g us).length = g.length := by
  intro us
  induction us with
  | nil => intro g; rfl
  | cons u us ih => intro g; show (kill (g.set u _) us).length = _; rw [ih]; simp
 refine ⟨R.size, R.Aq, R.Cs, (Z4 us st.sg).trans R.n, fun t v hv => (R.regs t v hv).mono P I9 (by simp) (by simp), fun s cs hs => (R.boxes s cs hs).mono P I9 (by simp) (by simp), fun i ob hi => ?_, fun b o hb => ?_⟩
 ·rw [B2K] at hi
  split at hi
  ·cases hg : st.sg[i]? with
   | none => rw [hg] at hi; simp at hi
   | some o =>
     rw [hg] at hi;simp only [z38q, Option.some.injEq] at hi;subst hi;simp [RO]
  ·rename_i hm
   have H7 : i < E.n := by rw [← R.n]; exact (z1q.1 hi).1
   exact (R.Q3 i ob hi).mono P I9 H7 (by rintro ⟨j, hj, he⟩; simp only [Tag.obj.injEq] at he; subst he; exact hm hj) (by simp)
 ·simp only [Env.re]
  rw [R.fresh b o hb];rfl
end Go.Su

/-
 THE DATA MACHINE, part 27: the program's functions give what the data machine says.
-/
namespace Go.Su
section
variable {C : X5} {R : N7} {X : Type} {fl : Flags} {Q : Exit → Act → World → Prop} {ops : List Oper}
theorem A81 {k : St → Option X} {x : X} {ro : Option Nat} {n : Nat} {rest : List Nat} (hO : Cv C R) : ∀ {os : List Oper} {i : Nat} {st : St} {E : Env} {a : Act} {w : World}, (∀ (j : Nat) o, os[j]? = some o → ops[i + j]? = some o) → CE C R fl ops os st k = some x → J2 E st a w.heap →
 (∀ E' t a' w', k t = some x → a'.defers = a.defers → J2 E' t a' w'.heap → Pr J8 E w.heap E' w'.heap → Q5 w w' → wpOpsIn (Qs ro) n C.P ops.toArray Q rest a' w') → wpOpsIn (Qs ro) n C.P ops.toArray Q (List.range' i os.length ++ rest) a w
 | [], i, st, E, a, w, _, H, Rl, T => T E st a w H rfl Rl (Pr.refl _ _ _) (Q5.refl _)
 | o :: os, i, st, E, a, w, hs, H, Rl, T => by
   obtain ⟨s1, h1, h2⟩ := nk H;have Dw : ∀ (j : Nat) o, os[j]? = some o → ops[i + 1 + j]? = some o := fun j o ho => by
    rw [show i + 1 + j = i + (j + 1) by omega]
    exact hs (j + 1) o (by simpa using ho)
   simp only [z10q, z52q, z54q];rw [wpOpsIn_cons];refine A95 hO (by simpa using hs 0 o rfl) h1 Rl fun E' a' w' D1 R1 P1 O1 => ?_
   exact A81 hO Dw h2 R1 fun E2 t a2 w2 k1 k0 k2 k3 k4 => T E2 t a2 w2 k1 (k0.trans D1) k2 (P1.trans k3) (O1.trans k4)
end
section
variable {C : X5} {R : N7} {X : Type}
open Classical in
noncomputable def Vy (S : Q6) : Env where
 blk := fun _ => 0
 top := fun _ => 0
 obj := fun _ => 0
 base := fun _ => 0
 O := fun b o => if S b o then .shut else .other
 n := 0
theorem B5d (S : Q6) (b o : Nat) : (Vy S).S b o ↔ S b o := by
 simp only [Env.S, Vy]
 split <;> simp_all
theorem B2I {fn : Func} {rs : List (DV × Meta)} {sg : List D7} {t : Nat} : (∀ r, rs[t]? = some r → (F5 fn rs sg).get t = r) ∧ (rs.length ≤ t → t < rs.length + (fn.ntmps - rs.length) → (F5 fn rs sg).get t = (.I6 [], .val)) := by
 constructor
 ·intro r hr
  have ht := (z1q.1 hr).1;simp only [St.get, F5, z4q];rw [z13q (by simpa using ht), z13q (by simpa using ht)]
  simp [hr]
 ·intro h1 h2
  simp only [St.get, F5, z4q];rw [z31q (by simpa using h1), z31q (by simpa using h1)]
  simp only [List.length_map];rw [z36q, z36q, if_pos (by omega), if_pos (by omega)]
  rfl
theorem oK {fn : Func} {rs : List (DV × Meta)} {sg : List D7} {E : Env} {w : World} {vs : List Value} (hf : ∀ b o, w.heap.size ≤ b → E.O b o = .other) (hn : sg.length = E.n) (ho : ∀ (i : Nat) ob, sg[i]? = some ob → RO E w.heap i ob)
 (hl : vs.length = rs.length) (hr : ∀ (i : Nat) r v, rs[i]? = some r → vs[i]? = some v → RR E w.heap 0 i r.1 r.2 v) :
 J2 E (F5 fn rs sg) { tmps := vs.toArray ++ Array.replicate (fn.ntmps - vs.toArray.size) undef, defers := [] } w.heap := by
 refine ⟨by simp [F5, hl], by simp [F5], by simp [F5], hn, fun t v hv => ?_, fun s cs hs => ?_, ho, hf⟩
 ·have H7 : t < rs.length + (fn.ntmps - rs.length) := by
   have := (z0q.1 hv).1;simpa [hl] using this
  obtain ⟨i1, i2⟩ := B2I (fn := fn) (rs := rs) (sg := sg) (t := t)
  by_cases ht : t < rs.length
  ·have hrt : rs[t]? = some rs[t] := z2q ht
   rw [i1 _ hrt];refine hr t _ v hrt ?_;rw [Array.getElem?_append_left (by simpa [hl] using ht)] at hv
   simpa using hv
  ·rw [i2 (Nat.le_of_not_lt ht) H7]
   rw [Array.getElem?_append_right (by simpa [hl] using Nat.le_of_not_lt ht)] at hv
   rw [z35q] at hv
   split at hv
   ·simp only [Option.some.injEq] at hv
    subst hv;simp only [RR, K4, RV, undef];exact ⟨#[], rfl, by simp [Pj]⟩
   ·cases hv
 ·simp only [F5, z4q, z36q] at hs
  split at hs <;> simp at hs
theorem B4h {S : Q6} {E' : Env} {h h' : Heap} (P : Pr J8 (Vy S) h E' h') {b : Nat} (hb : b < h.size) : h'[b]? = h[b]? := by
 have hk := P.blk b hb;have Ey : ∀ o, ¬ J8 ((Vy S).O b o) := fun o => by
  simp only [Vy]
  split <;> simp [J8]
 have he : h[b]? = some h[b] := z14q hb;rw [he] at hk ⊢;unfold X4 at hk
 split at hk
 ·rename_i hx; cases hx
 ·rename_i c T f hx
  obtain ⟨c', h1, h2, h3⟩ := hk;rw [h1, hx]
  congr 2
  exact z69q fun o => h3 o (Ey o)
 ·have := hk (Ey 0)
  simp_all
theorem VG {m : Nat} {P : Program} {fn : Func} {Rp : Ending → World → Prop} {E0 E : Env} {st : St} {a : Act} {w : World}
 (fin : ∀ w2, J2 E st a w2.heap → Pr J8 E0 w.heap E w2.heap → Q5 w w2 → ∃ v, (results fn a.tmps).run P w2 = .ok v w2 ∧ Rp (.returned v) w2) :
 ∀ (ms : List Deferred) (w1 : World), Marks w.heap.size E w1.heap ms → J2 E st a w1.heap → Pr J8 E0 w.heap E w1.heap → Q5 w w1 → LeavesInM Fence.wide m P fn a.tmps Rp ms .returning w1
 | [], w1, _, Rl, P1, O1 => fin w1 Rl P1 O1
 | d :: ms, w1, M, Rl, P1, O1 => by
   obtain ⟨D, rfl, h2, h3, h4⟩ := M.1 d (z6q ..);obtain ⟨p1, p2⟩ := z37q.1 M.2;refine ⟨by simp, .inl ⟨D, w1.putObj D (.deferred none), rfl, run_takeDeferred h2, ?_⟩⟩
   refine VG fin ms _ ⟨fun m' Qp => ?_, p2⟩ (Rl.others (Pr.setOther h2 rfl h3) rfl fun b o hb => Rl.fresh b o (by simpa using hb)) (P1.yN h4) ⟨O1.os, O1.tape, O1.output⟩
   obtain ⟨D', q1, q2, q3, q4⟩ := M.1 m' (z5q _ Qp);refine ⟨D', q1, ?_, q3, q4⟩;have hne : D' ≠ D := fun h => p1 m' Qp (by rw [q1, h])
   exact (World.putObj_heap_other hne).trans q2
def A5K (P : Program) (c : Code) (p : Cut) : Prop :=
 ∃ M : Code, c = Bh p.pre M ∧ (P8 M = true → P8 p.post = true) ∧
   ∀ {n : Nat} {E : Env} {st st2 : St} {a : Act} {w : World} {Q : Exit → Act → World → Prop}, J2 E st a w.heap → p.mid st = some st2 →
     (∀ E' a' w', a'.defers = a.defers → J2 E' st2 a' w'.heap → Pr J8 E w.heap E' w'.heap → Q5 w w' → p.post.wpIn (Qs none) n P Q a' w') → M.wpIn (Qs none) n P Q a w
theorem Marks.weak {n m : Nat} {E : Env} {h : Heap} {ms : List Deferred} (H : Marks n E h ms) (hn : m ≤ n) : Marks m E h ms :=
 ⟨fun x hx => let ⟨D, h1, h2, h3, h4⟩ := H.1 x hx; ⟨D, h1, h2, h3, z42q hn h4⟩, H.2⟩
theorem A7k (hm : C.P.follows .mixedOrders = true) (hO : Cv C R) {fl : Flags} {M : Code} : ∀ (ps : List Code) {n : Nat} {K : Out → St → Option X} {st : St} {x : X} {E : Env} {a : Act} {w : World} {Q : Exit → Act → World → Prop},
 R9 C R fl (Bh ps .skip) K st = some x → J2 E st a w.heap →
 (∀ out E' st' a' w', out ≠ .normal → K out st' = some x → Left (Bh ps .skip) w.heap.size E' w'.heap a.defers a'.defers → J2 E' st' a' w'.heap → Pr J8 E w.heap E' w'.heap → Q5 w w' → Q out.YI a' w') →
 (∀ E' st' a' w', K .normal st' = some x → Left (Bh ps .skip) w.heap.size E' w'.heap a.defers a'.defers → J2 E' st' a' w'.heap → Pr J8 E w.heap E' w'.heap → Q5 w w' → M.wpIn (Qs none) n C.P Q a' w') → (Bh ps M).wpIn (Qs none) n C.P Q a w
 | [], n, K, st, x, E, a, w, Q, H, Rl, T, N => N E st a w H (Left.same rfl) Rl (Pr.refl _ _ _) (Q5.refl _)
 | p :: ps, n, K, st, x, E, a, w, Q, H, Rl, T, N => by
   have hp : P8 (.seq p (Bh ps .skip)) = true → P8 p = true ∧ P8 (Bh ps .skip) = true := fun h => by simpa [P8] using h
   refine wpIn_seq (JW hm hO p (.inl rfl) H Rl fun out E' st' a' w' h1 h0 h2 h3 h4 => ?_)
   obtain ⟨ms, q1, q2, q3⟩ := h0;have join : ∀ {E2 : Env} {a2 : Act} {w2 : World}, Left (Bh ps .skip) w'.heap.size E2 w2.heap a'.defers a2.defers → Pr J8 E' w'.heap E2 w2.heap → Left (Bh (p :: ps) .skip) w.heap.size E2 w2.heap a.defers a2.defers := by
    rintro E2 a2 w2 ⟨ns, p1, p2, p3⟩ k3;exact ⟨ns ++ ms, by rw [p1, q1, z32q], p2.append q2 k3 h3.size, fun h => by rw [p3 (hp h).2, q3 (hp h).1]; rfl⟩
   cases out with
   | normal =>
     exact A7k hm hO ps h1 (h2.clean fl _) (fun out E2 st2 a2 w2 hn k1 k0 k2 k3 k4 => T out E2 st2 a2 w2 hn k1 (join k0 k3) k2 (h3.trans k3) (h4.trans k4))
      fun E2 st2 a2 w2 k1 k0 k2 k3 k4 => N E2 st2 a2 w2 k1 (join k0 k3) k2 (h3.trans k3) (h4.trans k4)
   | exit i => exact T (.exit i) E' st' a' w' (by simp) h1 ⟨ms, q1, q2, fun h => q3 (hp h).1⟩ h2 h3 h4
   | ret => exact T .ret E' st' a' w' (by simp) h1 ⟨ms, q1, q2, fun h => q3 (hp h).1⟩ h2 h3 h4
theorem Zt : ∀ (ps : List Code) (M : Code), P8 (Bh ps M) = true → P8 (Bh ps .skip) = true ∧ P8 M = true
 | [], M, h => ⟨rfl, h⟩
 | p :: ps, M, h => by
   simp only [Bh, P8, z3q] at h ⊢;obtain ⟨h1, h2⟩ := Zt ps M h.2;exact ⟨⟨h.1, h1⟩, h2⟩
theorem B4H (hm : C.P.follows .mixedOrders = true) (hO : Cv C R) {fl : Flags} {c : Code} {p : Cut} (hc : A5K C.P c p) {n : Nat} {K : Out → St → Option X} {st : St} {x : X} {E : Env} {a : Act} {w : World} {Q : Exit → Act → World → Prop}
 (H : R9 C R fl (Bh p.pre .skip) (A3U C R fl p K) st = some x) (Rl : J2 E st a w.heap)
 (T : ∀ out E' st' a' w', K out st' = some x → Left c w.heap.size E' w'.heap a.defers a'.defers → J2 E' st' a' w'.heap → Pr J8 E w.heap E' w'.heap → Q5 w w' → Q out.YI a' w') : c.wpIn (Qs none) n C.P Q a w := by
 obtain ⟨M, rfl, hM, B71⟩ := hc;refine A7k hm hO p.pre H Rl (fun out E1 st1 a1 w1 hn h1 h0 h2 h3 h4 => ?_) fun E1 st1 a1 w1 h1 h0 h2 h3 h4 => ?_
 ·obtain ⟨ms, q1, q2, q3⟩ := h0
  cases out with
  | exit i => simp [A3U] at h1
  | ret => exact T .ret E1 st1 a1 w1 h1 ⟨ms, q1, q2, fun h => q3 (Zt _ _ h).1⟩ h2 h3 h4
  | normal => exact absurd rfl hn
 ·obtain ⟨ms, q1, q2, q3⟩ := h0
  simp only [A3U] at h1;obtain ⟨st2, k1, k2⟩ := C8 h1;refine B71 h2 k1 fun E2 a2 w2 d2 r2 p2 o2 => ?_
  refine JW hm hO p.post (.inl rfl) k2 (r2.clean fl p.post) fun out E3 st3 a3 w3 g1 g0 g2 g3 g4 => T out E3 st3 a3 w3 g1 ?_ g2 ((h3.trans p2).trans g3) ((h4.trans o2).trans g4)
  obtain ⟨ns, p1, p2', p3⟩ := g0;exact ⟨ns ++ ms, by rw [p1, d2, q1, z32q], (p2'.weak p2.size).append q2 (p2.trans g3) h3.size, fun h => by rw [p3 (hM (Zt _ _ h).2), q3 (Zt _ _ h).1]; rfl⟩
theorem B25 (hm : C.P.follows .mixedOrders = true) (hO : Cv C R) {fl : Flags} {c : Code} {q : Option Cut} (hc : ∀ p, q = some p → A5K C.P c p) {n : Nat} {K : Out → St → Option X} {st : St} {x : X} {E : Env} {a : Act} {w : World} {Q : Exit → Act → World → Prop}
 (H : A2Y C R fl q c K st = some x) (Rl : J2 E st a w.heap)
 (T : ∀ out E' st' a' w', K out st' = some x → Left c w.heap.size E' w'.heap a.defers a'.defers → J2 E' st' a' w'.heap → Pr J8 E w.heap E' w'.heap → Q5 w w' → Q out.YI a' w') : c.wpIn (Qs none) n C.P Q a w := by
 cases q with
 | none => exact JW hm hO c (.inl rfl) H Rl T
 | some p => exact B4H hm hO (hc p rfl) H Rl T
theorem pure_ok {f : FuncId} {fn : Func} {c : Code} {ds : List DV} {d : DV} {cut : Option Cut} (hm : C.P.follows .mixedOrders = true) (hO : Cv C R) (hf : C.P.funcs[f]? = some fn) (hb : fn.body = some c) (B7U : ∀ p, cut = some p → A5K C.P c p)
 (H : A2Y C R (C.fl f) cut c (Wp C.P fn) (F5 fn (ds.map fun d => (d, .val)) []) = some d) : B0m C.P f ds d := by
 intro S w vs hS Kj;obtain ⟨hl, hv⟩ := Vs.1 Kj;have I9 : X8 S w.heap (Vy S).S w.heap := ⟨fun b o hs => (B5d S b o).2 hs, fun _ _ _ _ h => h⟩
 have fr : ∀ b o, w.heap.size ≤ b → (Vy S).O b o = .other := fun b o hb => by
  simp only [Vy];rw [if_neg (hS b o hb)]
 refine (callsIn_wide (n := 0)).1 (callsIn_of_wp_marks hf hb trivial (B25 hm hO B7U H (oK (E := Vy S) fr rfl (by simp) (by simp [hl]) fun i r v hr hv' => ?_) fun out E' st' a' w1 h1 h0 ZJ xZ zL => ?_))
 ·simp only [z11q, z16q] at hr
  obtain ⟨d', Gd, rfl⟩ := hr;exact RR.val ((hv i d' v Gd hv').mono I9)
 ·obtain ⟨ms, e0, M, -⟩ := h0
  rw [List.append_nil] at e0;have fin : ∀ ds', aJ C.P st' fn.results.toList = some ds' → d = pack ds' → ∀ w', J2 E' st' a' w'.heap → Pr J8 (Vy S) w.heap E' w'.heap → Q5 w w' → ∃ v, (results fn a'.tmps).run C.P w' = .ok v w' ∧ ∃ v' S', Ending.returned v = .returned v' ∧ Ext S w.heap S' w'.heap ∧ RV S' w'.heap d v' ∧ Q5 w w' := by
   intro ds' k1 k2 w' h2 h3 OJ;obtain ⟨us, q1, q2, -⟩ := A3y h2 k1;refine ⟨if h : us.toArray.size = 1 then us.toArray[0] else .tuple us.toArray, ?_, _, E'.fin, rfl, ⟨h3.size, fun b hb => B4h h3 hb, fun b o hb => ?_, fun b o hb => ?_⟩, by rw [k2]; exact B4k q2, OJ⟩
   ·rw [A3z]
    simp only [Sem.run_bind, q1, Result.andThen_ok, Sem.run_pure]
   ·have Ey : ¬ J8 ((Vy S).O b o) := by
     simp only [Vy]
     split <;> simp [J8]
    have ht := h3.tags b o hb Ey;simp only [Env.fin, ht, Vy]
    split <;> simp_all
   ·simp only [Env.fin, h2.fresh b o hb]
    simp
  cases out with
  | exit i => simp [Wp] at h1
  | normal =>
    simp only [Wp] at h1;obtain ⟨ds', k1, k2⟩ := C8 h1;simp only [Option.some.injEq] at k2
    show LeavesInM Fence.wide 0 C.P fn a'.tmps _ a'.defers .returning w1
    rw [e0];exact VG (fin ds' k1 k2.symm) ms w1 M ZJ xZ zL
  | ret =>
    simp only [Wp] at h1;obtain ⟨ds', k1, k2⟩ := C8 h1;simp only [Option.some.injEq] at k2
    show LeavesInM Fence.wide 0 C.P fn a'.tmps _ a'.defers .returning w1
    rw [e0];exact VG (fin ds' k1 k2.symm) ms w1 M ZJ xZ zL
def A88 (S : Q6) (E : Env) (st : St) (a : Act) (w : World) (r : ResultVar) (d : DV) (v : Value) : MK → Prop
 | .val => RV S w.heap d v
 | .own => ∃ t, r = .tmp t ∧ Kk (st.get t).2 = true ∧ d = (st.get t).1 ∧ v = a.tmps.getD t undef
 | .ptr => ∃ t, r = .tmp t ∧ A65 (st.get t) = some d ∧ v = a.tmps.getD t undef
 | .T_ n os => ∃ p t s cs, r = .cell p t ∧ (st.get p).2 = .loc s 0 ∧ st.bx.getD s none = some cs ∧ n = cs.length ∧ kI os 0 cs = true ∧ d = .agg (cs.map (·.1)) ∧ ∃ c T, w.heap[E.blk s]? = some (.cells c T (0, 0)) ∧ v = .agg c
theorem A48 {P : Program} {sl : Bool} {us : List Nat} {E : Env} {st : St} {a : Act} {w : World} (Rl : J2 E st a w.heap) : ∀ {ks : List MK} {rs : List ResultVar} {ds : List DV}, (sl = true → ∀ v ∈ rs, ∀ i ∈ UA st v, i ∈ us) → YG P sl st ks rs = some ds →
 ks.length = rs.length ∧ ds.length = ks.length ∧ ∃ vs : List Value, (rs.mapM (MS a.tmps)).run P w = .ok vs w ∧ vs.length = rs.length ∧
  ∀ (i : Nat) k r d v, ks[i]? = some k → rs[i]? = some r → ds[i]? = some d → vs[i]? = some v → A88 (E.re (Er us)).S E st a w r d v k
 | [], [], ds, _, H => by
   simp only [YG, Option.some.injEq] at H;subst H;exact ⟨rfl, rfl, [], rfl, rfl, fun i k r d v h => by simp at h⟩
 | k :: ks, r :: rs, ds, hu, H => by
   simp only [YG] at H;obtain ⟨d, h1, H⟩ := C8 H;obtain ⟨ds', h2, H⟩ := C8 H;simp only [Option.some.injEq] at H;subst H;obtain ⟨l1, l2, vs, q1, q2, q3⟩ := A48 Rl (fun h v hv => hu h v (z5q _ hv)) h2
   have one : ∃ v, (MS a.tmps r).run P w = .ok v w ∧ A88 (E.re (Er us)).S E st a w r d v k := by
    cases k with
    | val =>
      simp only [A3x] at h1
      split at h1
      ·rename_i hb
       simp only [z3q] at hb;obtain ⟨v, k1, k2⟩ := yI (g := L_ us st.sg) (A79 hb.2 (hu hb.1 r (z6q ..)) h1) Rl (A9P Rl us);exact ⟨v, k1, k2⟩
      ·obtain ⟨v, k1, k2⟩ := yI (g := []) h1 Rl (A9T E w.heap)
       exact ⟨v, k1, k2.mono (Jq (VP (by simp)))⟩
    | own =>
      simp only [A3x] at h1;cases r with
      | tmp t =>
        simp only at h1;obtain ⟨k1, k2⟩ := F8 h1;simp only [Option.some.injEq] at k2;exact ⟨_, rfl, t, rfl, k1, k2.symm, rfl⟩
      | cell p t => simp at h1
    | ptr =>
      simp only [A3x] at h1;cases r with
      | tmp t => exact ⟨_, rfl, t, rfl, h1, rfl⟩
      | cell p t => simp at h1
    | T_ n os =>
      simp only [A3x] at h1;cases r with
      | tmp t => simp at h1
      | cell p t =>
        simp only at h1
        split at h1
        ·rename_i s hm
         obtain ⟨cs, g1, h1⟩ := C8 h1;obtain ⟨z, g2, h1⟩ := C8 h1;obtain ⟨g3, h1⟩ := F8 h1;simp only [z3q, beq_iff_eq] at g3;obtain ⟨⟨⟨hz, g3⟩, g4⟩, g5⟩ := g3;simp only [Option.some.injEq] at h1;have hR : RR E w.heap 0 p (st.get p).1 (st.get p).2 (a.tmps.getD p undef) := Rl.src (P := P) (t := 0) (x := .tmp p) rfl;rw [hm] at hR;simp only [RR, K4] at hR;obtain ⟨c, T, b1, b2, b3, b4⟩ := Rl.boxes s cs g1;obtain ⟨v, hv, mP, Vk⟩ := Gg (w := w) g2 (b := E.blk s) (off := 0) (vs := c.toList) (by simp [b2, g3]) fun j u hu => by
          simp only [hc, b1, z17q];simpa using hu
         have U1 : (MS a.tmps (.cell p t)).run P w = .ok v w := by
          simp only [MS, hR.2, asAddr, Sem.run_bind, Sem.run_pure, Result.andThen_ok];exact hv
         exact ⟨v, U1, p, t, s, cs, rfl, hm, g1, by omega, g5, h1.symm, c, T, b1, by rw [mP hz]⟩
        ·cases h1
   obtain ⟨v, k1, k2⟩ := one;refine ⟨by simp [l1], by simp [l2], v :: vs, by simp only [List.mapM_cons, Sem.run_bind, k1, q1, Result.andThen_ok, Sem.run_pure], by simp [q2], fun i k' r' d' v' e1 e2 e3 e4 => ?_⟩
   cases i with
   | zero =>
     simp only [z15q, Option.some.injEq] at e1 e2 e3 e4;subst e1 e2 e3 e4;exact k2
   | succ i =>
     simp only [z9q] at e1 e2 e3 e4;exact q3 i k' r' d' v' e1 e2 e3 e4
 | [], _ :: _, ds, _, H => by simp [YG] at H
 | _ :: _, [], ds, _, H => by simp [YG] at H
theorem A3p : ∀ {ks : List MK} {i j : Nat} {k k' : MK}, (ks.filter Cy).length ≤ 1 → ks[i]? = some k → Cy k = true → ks[j]? = some k' → Cy k' = true → i = j
 | [], i, j, _, _, _, h, _, _, _ => by simp at h
 | k0 :: ks, i, j, k, k', hl, hi, hk, hj, Cx => by
   have nomem : Cy k0 = true → ∀ (m : Nat) q, ks[m]? = some q → Cy q = true → False := by
    intro h0 m q hm hq;have h1 : q ∈ ks.filter Cy := z56q.2 ⟨List.mem_of_getElem? hm, hq⟩;have h2 : 0 < (ks.filter Cy).length := List.length_pos_of_mem h1;simp only [z71q, h0, if_true, z10q] at hl;omega
   cases i with
   | zero =>
     simp only [z15q, Option.some.injEq] at hi;subst hi;cases j with
     | zero => rfl
     | succ j => simp only [z9q] at hj; exact (nomem hk j _ hj Cx).elim
   | succ i =>
     simp only [z9q] at hi;cases j with
     | zero =>
       simp only [z15q, Option.some.injEq] at hj;subst hj;exact (nomem Cx i _ hi hk).elim
     | succ j =>
       simp only [z9q] at hj;have xn : (ks.filter Cy).length ≤ 1 := by
        simp only [z71q] at hl
        split at hl
        ·simp only [z10q] at hl; omega
        ·exact hl
       rw [A3p xn hi hk hj Cx]
def A3o (st : St) (k : MK) (r : ResultVar) : Option (Nat × Nat) :=
 match k, r with
 | .own, .tmp t => some (0, t)
 | .T_ _ _, .cell p _ => match (st.get p).2 with
   | .loc s _ => some (1, s)
   | _ => none
 | _, _ => none
def dw (q : Option (Nat × Nat)) (i : Nat) (T : Tag) : Tag :=
 match T with
 | .sp 0 t b => if q = some (0, t) then .sp 3 i b else .sp 0 t b
 | .sp 1 s j => if q = some (1, s) then .sp 3 i (j + 1) else .sp 1 s j
 | T => T
theorem A2z : ∀ {os : List Nat} {i0 j : Nat} {cs : List (DV × Meta)} {c : DV × Meta}, kI os i0 cs = true → cs[j]? = some c → (if os.contains (i0 + j) then Kk c.2 else J3 c.2) = true
 | os, i0, j, [], c, _, h => by simp at h
 | os, i0, 0, c0 :: cs, c, H, h => by
   simp only [z15q, Option.some.injEq] at h;subst h;simp only [kI, z3q] at H;exact H.1
 | os, i0, j + 1, c0 :: cs, c, H, h => by
   simp only [kI, z3q] at H;have := A2z H.2 (by simpa using h)
   rwa [Nat.add_assoc, Nat.add_comm 1 j] at this
theorem B2b {m : Meta} (h : J3 m = true) (hl : X0 m = true) : m = .val ∨ m = .full ∨ m = .own ∨ m = .FT := by
 cases m <;> simp_all [J3, X0]
theorem A7a {E : Env} {h : Heap} {tg : Tag} {d : DV} {m : Meta} {v : Value} (hr : Kk m = true) (R : K4 E h tg d m v) : K4 E h tg d .own v := by
 cases m <;> first | exact R | exact R.oC | (simp [Kk] at hr)
def kG (E : Env) (w : World) (s : AB) (q : List DV × List D7) (e : Ending) (w' : World) : Prop :=
 Q5 w w' ∧ ∃ v E', e = .returned v ∧ Pr J8 E w.heap E' w'.heap ∧ (∀ b o, w'.heap.size ≤ b → E'.O b o = .other) ∧ q.2.length = E'.n ∧ (∀ (i : Nat) ob, q.2[i]? = some ob → RO E' w'.heap i ob) ∧ A53 E' w'.heap s.results q.1 v
theorem A8X {fn : Func} {s : AB} {q : List DV × List D7} {E E' : Env} {st' : St} {a' : Act} {w : World} (h4 : (s.results.filter Cy).length ≤ 1) {ds' : List DV} (k1 : YG C.P s.lock st' s.results fn.results.toList = some ds')
 (k2 : q = (ds', match s.lock with
   | true => kill st'.sg (fn.results.toList.flatMap (UA st'))
   | false => st'.sg)) (w' : World) (h2 : J2 E' st' a' w'.heap) (h3 : Pr J8 E w.heap E' w'.heap) (OJ : Q5 w w') : ∃ v, (results fn a'.tmps).run C.P w' = .ok v w' ∧ kG E w s q (.returned v) w' := by
 obtain ⟨ks, Ha⟩ : ∃ ks, (match s.lock with
  | true => fn.results.toList.flatMap (UA st')
  | false => []) = ks := ⟨_, rfl⟩
 have B5t : s.lock = true → ∀ v ∈ fn.results.toList, ∀ i ∈ UA st' v, i ∈ ks := fun hl v hv i hi => by
  rw [← Ha, hl];exact z39q.2 ⟨v, hv, hi⟩
 have B5u : (match s.lock with
  | true => kill st'.sg (fn.results.toList.flatMap (UA st'))
  | false => st'.sg) = kill st'.sg ks := by
  rw [← Ha];cases s.lock <;> rfl
 rw [B5u] at k2;clear B5u Ha;subst k2;obtain ⟨l1, l2, us, q1, q2, q3⟩ := A48 (us := ks) h2 B5t k1;have h2 : J2 (E'.re (Er ks)) { st' with sg := kill st'.sg ks } a' w'.heap := h2.shut ks
 have h3 : Pr J8 E w.heap (E'.re (Er ks)) w'.heap := h3.trans (Pr.re fun T hT => VP fun i _ he => hT (by rw [he]; simp [J8]))
 have q3 : ∀ (i : Nat) k r d v, s.results[i]? = some k → fn.results.toList[i]? = some r → ds'[i]? = some d → us[i]? = some v → A88 (E'.re (Er ks)).S (E'.re (Er ks)) { st' with sg := kill st'.sg ks } a' w' r d v k := by
  intro i k r d v e1 e2 e3 e4;have := q3 i k r d v e1 e2 e3 e4;cases k <;> exact this
 clear B5t;generalize hE : E'.re (Er ks) = E' at h2 h3 q3;generalize Q7 : ({ st' with sg := kill st'.sg ks } : St) = st2 at h2 q3
 have hgs : st2.sg = kill st'.sg ks := by rw [← Q7]
 rw [← hgs];clear hgs Q7 hE k1;have pick : ∃ (i0 : Nat) (g : Option (Nat × Nat)), ∀ (j : Nat) k r, s.results[j]? = some k → Cy k = true → fn.results.toList[j]? = some r → j = i0 ∧ A3o st2 k r = g := by
  by_cases hx : ∃ (i : Nat) (k : MK), s.results[i]? = some k ∧ Cy k = true
  ·obtain ⟨i, k, hi, hk⟩ := hx
   have H7 : i < s.results.length := (z1q.1 hi).1;have e2 : fn.results.toList[i]? = some (fn.results.toList[i]'(by omega)) := z2q (by omega)
   refine ⟨i, A3o st2 k (fn.results.toList[i]'(by omega)), fun j k' r hj Cx hr => ?_⟩
   have := A3p h4 hi hk hj Cx;subst this;rw [hi] at hj;rw [e2] at hr;simp only [Option.some.injEq] at hj hr;exact ⟨rfl, by rw [hj, hr]⟩
  ·exact ⟨0, none, fun j k r hj hk => absurd ⟨j, k, hj, hk⟩ hx⟩
 obtain ⟨i0, g, B3t⟩ := pick;have I9 : X8 E'.S w'.heap (E'.re (dw g i0)).S w'.heap := Jq rfl;refine ⟨if h : us.toArray.size = 1 then us.toArray[0] else .tuple us.toArray, ?_, OJ, _, E'.re (dw g i0), rfl, h3.trans (Pr.re fun T hT => ?_), fun b o hb => ?_, ?_, fun i ob hi => ?_, l2, us, by omega, ?_, ?_⟩
 ·rw [A3z]
  simp only [Sem.run_bind, q1, Result.andThen_ok, Sem.run_pure]
 ·unfold dw
  split
  ·simp [J8] at hT
  ·simp [J8] at hT
  ·rfl
 ·simp only [Env.re]; rw [h2.fresh b o hb]; rfl
 ·exact h2.n
 ·exact RO.to (E := E') ⟨fun b o h => by simp only [Env.re]; rw [h]; rfl, fun b o h => by simp only [Env.re]; rw [h]; rfl, rfl, rfl, rfl, rfl⟩ (fun j b o h => by simp only [Env.re]; rw [h]; rfl) (h2.Q3 i ob hi)
 ·match us with
  | [] => rfl
  | [u] => rfl
  | u :: u' :: us => rfl
 ·intro i k d v e1 e2 e3
  have H7 : i < s.results.length := (z1q.1 e1).1;have e4 : fn.results.toList[i]? = some (fn.results.toList[i]'(by omega)) := z2q (by omega)
  have a1 := q3 i k _ d v e1 e4 e2 e3;cases k with
  | val => exact (show RV _ _ _ _ from a1).mono I9
  | own =>
    obtain ⟨t, ht, Lt, rfl, rfl⟩ := a1;obtain ⟨rfl, hp⟩ := B3t i _ _ e1 rfl e4;rw [ht] at hp;simp only [A3o] at hp;have hR : RR E' w'.heap 0 t (st2.get t).1 (st2.get t).2 (a'.tmps.getD t undef) := h2.src (P := C.P) (t := 0) (x := .tmp t) rfl;have hR2 : RR (E'.re (dw g i)) w'.heap 3 i (st2.get t).1 (st2.get t).2 (a'.tmps.getD t undef) :=
     hR.re rfl rfl fun b => by simp [dw, ← hp]
    show K4 _ _ (.sp 3 i 0) _ .own _
    exact A7a Lt (hR2.yn (fun ms h => by rw [h] at Lt; simp [Kk] at Lt) fun ms h => by rw [h] at Lt; simp [Kk] at Lt)
  | ptr =>
    obtain ⟨t, ht, hd, rfl⟩ := a1;have hR : RR E' w'.heap 0 t (st2.get t).1 (st2.get t).2 (a'.tmps.getD t undef) := h2.src (P := C.P) (t := 0) (x := .tmp t) rfl
    show K4 _ _ .other (Kr .ptr d).1 (Kr .ptr d).2 _
    unfold A65 at hd
    split at hd
    ·rename_i n hm
     simp only [Option.some.injEq] at hd;subst hd;rw [hm] at hR;exact hR
    ·rename_i hm
     simp only [Option.some.injEq] at hd;subst hd;rw [hm] at hR;exact ⟨rfl, hR.2⟩
    ·cases hd
  | T_ n os =>
    obtain ⟨p, t, s', cs, ht, hm, hb, hn, AU, rfl, c, T, hc1, rfl⟩ := a1;obtain ⟨rfl, hp⟩ := B3t i _ _ e1 rfl e4;rw [ht] at hp;simp only [A3o, hm] at hp;obtain ⟨c', T', b1, b2, b3, b4⟩ := h2.boxes s' cs hb;rw [hc1] at b1;simp only [Option.some.injEq, Obj.cells.injEq] at b1;obtain ⟨rfl, rfl, -⟩ := b1;simp only [A86, RR];refine ⟨_, c, rfl, rfl, by simp [hn], by simp [hn, b2], fun j m' d' u e1 e2 e3 => ?_⟩
    simp only [z11q, z16q] at e1 e2;obtain ⟨j', EH, rfl⟩ := e1;obtain ⟨r, hr, rfl⟩ := e2;have hjj : j' = j := by
     have := (z1q.1 EH);obtain ⟨_, hh⟩ := this;simpa using hh.symm
    subst hjj;obtain ⟨x1, x2, x3, x4⟩ := b4 j' r u hr e3;have x5 : K4 (E'.re (dw g i)) w'.heap (.sp 3 i (j' + 1)) r.1 r.2 u := x4.re rfl (by simp [dw, ← hp])
    have x6 := A2z AU hr;rw [z17q] at x6
    by_cases hos : os.contains j' = true
    ·rw [if_pos hos] at x6 ⊢
     exact ⟨x1, x2, rfl, A7a x6 x5⟩
    ·rw [if_neg hos] at x6 ⊢
     refine ⟨x1, x2, rfl, ?_⟩;exact kF (B2b x6 x3) x5
theorem oh {fn : Func} {s : AB} {q : List DV × List D7} {out : Out} {E E' : Env} {st' : St} {a' : Act} {w : World} (h1 : Ba C.P fn s out st' = some q) : (∃ i, out = .exit i → False) ∧ (out = .normal ∨ out = .ret) ∧ ∀ (w' : World), J2 E' st' a' w'.heap → Pr J8 E w.heap E' w'.heap → Q5 w w' → ∃ v, (results fn a'.tmps).run C.P w' = .ok v w' ∧ kG E w s q (.returned v) w' := by
 cases out with
 | exit i => simp [Ba] at h1
 | normal =>
   simp only [Ba] at h1;obtain ⟨k0, h1⟩ := F8 h1;obtain ⟨ds', k1, k2⟩ := C8 h1;simp only [Option.some.injEq] at k2;exact ⟨⟨0, by simp⟩, .inl rfl, fun w' h2 h3 h4 => A8X (by simpa using k0) k1 k2.symm w' h2 h3 h4⟩
 | ret =>
   simp only [Ba] at h1;obtain ⟨k0, h1⟩ := F8 h1;obtain ⟨ds', k1, k2⟩ := C8 h1;simp only [Option.some.injEq] at k2;exact ⟨⟨0, by simp⟩, .inr rfl, fun w' h2 h3 h4 => A8X (by simpa using k0) k1 k2.symm w' h2 h3 h4⟩
theorem B6d {f : FuncId} {fn : Func} {c : Code} {s : AB} {rs : List (DV × Meta)} {sg : List D7} {q : List DV × List D7} (hm : C.P.follows .mixedOrders = true) (hO : Cv C R) (hf : C.P.funcs[f]? = some fn) (hb : fn.body = some c)
 (H : R9 C R (C.fl f) c (Ba C.P fn s) (F5 fn rs sg) = some q) : A87 C.P f s rs sg q := by
 intro E w vs mJ hn ho hl hr;refine (callsIn_wide (n := 0)).1 (callsIn_of_wp_marks hf hb trivial (JW hm hO c (.inl rfl) H (oK mJ hn ho hl hr) fun out E' st' a' w1 h1 h0 ZJ xZ zL => ?_))
 obtain ⟨ms, e0, M, -⟩ := h0;rw [List.append_nil] at e0;obtain ⟨-, ho, fin⟩ := oh (E := E) (E' := E') (a' := a') (w := w) h1;have : LeavesInM Fence.wide 0 C.P fn a'.tmps (kG E w s q) a'.defers .returning w1 := by
  rw [e0];exact VG fin ms w1 M ZJ xZ zL
 rcases ho with rfl | rfl <;> exact this
theorem B4A {f : FuncId} {fn : Func} {c : Code} {s : AB} {rs : List (DV × Meta)} {sg : List D7} {q : List DV × List D7} (hm : C.P.follows .mixedOrders = true) (hO : Cv C R) (hf : C.P.funcs[f]? = some fn) (hb : fn.body = some c) (hp : P8 c = true)
 (H : R9 C R (C.fl f) c (Ba C.P fn s) (F5 fn rs sg) = some q) : B0n C.P f s rs sg q := by
 intro E w vs mJ hn ho hl hr u;refine callsDIn_of_wp hf hb trivial (JW (ro := none) (n := 0) hm hO c (.inl rfl) H (oK mJ hn ho hl hr) fun out E' st' a' w1 h1 h0 ZJ xZ zL => ?_)
 obtain ⟨-, ho, fin⟩ := oh (E := E) (E' := E') (a' := a') (w := w) h1;have hd : a'.defers = [] := h0.plain hp;obtain ⟨v, g1, g2⟩ := fin w1 ZJ xZ zL;rcases ho with rfl | rfl <;> exact ⟨hd, v, g1, g2⟩
def B0l (c : Code) (p : aK) : Prop := c = Bh p.pre (.seq (.seq p.r (.cond p.c (.seq p.a (.region p.id (p.ops ++ [p.Xl]).toArray false)) .skip)) p.post) ∧ P8 c = true
theorem A5c (hm : C.P.follows .mixedOrders = true) (hO : Cv C R) {fl : Flags} {r B D : Code} : ∀ (ps : List Code) {n : Nat} {K : Out → St → Option X} {st : St} {x : X} {E : Env} {a : Act} {w : World} {Q : Exit → Act → World → Prop},
 R9 C R fl (Bh (ps ++ [r]) .skip) K st = some x → J2 E st a w.heap →
 (∀ out E' st' a' w', out ≠ .normal → K out st' = some x → Left (Bh (ps ++ [r]) .skip) w.heap.size E' w'.heap a.defers a'.defers → J2 E' st' a' w'.heap → Pr J8 E w.heap E' w'.heap → Q5 w w' → Q out.YI a' w') →
 (∀ E' st' a' w', K .normal st' = some x → Left (Bh (ps ++ [r]) .skip) w.heap.size E' w'.heap a.defers a'.defers → J2 E' st' a' w'.heap → Pr J8 E w.heap E' w'.heap → Q5 w w' → B.wpIn (Qs none) n C.P (Exit.then (D.wpIn (Qs none) n C.P Q) Q) a' w') → (Bh ps (.seq (.seq r B) D)).wpIn (Qs none) n C.P Q a w
 | [], n, K, st, x, E, a, w, Q, H, Rl, T, N => by
   have hp : P8 (.seq r .skip) = true → P8 r = true := fun h => by simpa [P8] using h
   refine wpIn_seq (wpIn_seq (JW hm hO r (.inl rfl) H Rl fun out E' st' a' w' h1 h0 h2 h3 h4 => ?_))
   obtain ⟨ms, q1, q2, q3⟩ := h0;cases out with
   | normal => exact N E' st' a' w' h1 ⟨ms, q1, q2, fun h => q3 (hp h)⟩ h2 h3 h4
   | exit i => exact T (.exit i) E' st' a' w' (by simp) h1 ⟨ms, q1, q2, fun h => q3 (hp h)⟩ h2 h3 h4
   | ret => exact T .ret E' st' a' w' (by simp) h1 ⟨ms, q1, q2, fun h => q3 (hp h)⟩ h2 h3 h4
 | p :: ps, n, K, st, x, E, a, w, Q, H, Rl, T, N => by
   have hp : P8 (.seq p (Bh (ps ++ [r]) .skip)) = true → P8 p = true ∧ P8 (Bh (ps ++ [r]) .skip) = true := fun h => by simpa [P8] using h
   refine wpIn_seq (JW hm hO p (.inl rfl) H Rl fun out E' st' a' w' h1 h0 h2 h3 h4 => ?_)
   obtain ⟨ms, q1, q2, q3⟩ := h0;have join : ∀ {E2 : Env} {a2 : Act} {w2 : World}, Left (Bh (ps ++ [r]) .skip) w'.heap.size E2 w2.heap a'.defers a2.defers → Pr J8 E' w'.heap E2 w2.heap → Left (Bh (p :: ps ++ [r]) .skip) w.heap.size E2 w2.heap a.defers a2.defers := by
    rintro E2 a2 w2 ⟨ns, p1, p2, p3⟩ k3;exact ⟨ns ++ ms, by rw [p1, q1, z32q], p2.append q2 k3 h3.size, fun h => by rw [p3 (hp h).2, q3 (hp h).1]; rfl⟩
   cases out with
   | normal =>
     exact A5c hm hO ps h1 (h2.clean fl _) (fun out E2 st2 a2 w2 hn k1 k0 k2 k3 k4 => T out E2 st2 a2 w2 hn k1 (join k0 k3) k2 (h3.trans k3) (h4.trans k4))
      fun E2 st2 a2 w2 k1 k0 k2 k3 k4 => N E2 st2 a2 w2 k1 (join k0 k3) k2 (h3.trans k3) (h4.trans k4)
   | exit i => exact T (.exit i) E' st' a' w' (by simp) h1 ⟨ms, q1, q2, fun h => q3 (hp h).1⟩ h2 h3 h4
   | ret => exact T .ret E' st' a' w' (by simp) h1 ⟨ms, q1, q2, fun h => q3 (hp h).1⟩ h2 h3 h4
theorem A1t : ∀ (ps : List Code) (r B D : Code), P8 (Bh ps (.seq (.seq r B) D)) = true → P8 (Bh (ps ++ [r]) .skip) = true ∧ P8 B = true ∧ P8 D = true
 | [], r, B, D, h => by
   simp only [Bh, P8, z3q, List.nil_append] at h ⊢;exact ⟨⟨h.1.1, trivial⟩, h.1.2, h.2⟩
 | p :: ps, r, B, D, h => by
   simp only [Bh, P8, z3q, z54q] at h ⊢;obtain ⟨h1, h2⟩ := A1t ps r B D h.2;exact ⟨⟨h.1, h1⟩, h2⟩
theorem B4R {E E' : Env} {h h' : Heap} (P : Pr J8 E h E' h') (mJ : ∀ b o, h.size ≤ b → E.O b o = .other) {k a : Nat} {r : DV × Meta} {v : Value} (R : RR E h k a r.1 r.2 v) (k' a' : Nat) : RR E' h' k' a' (VU (r.1, Qa r.2)).1 (VU (r.1, Qa r.2)).2 v :=
 (B0N R).stay (P.shut (by simp [J8]) mJ) P.n fun i hi => (P.Q3 i hi).1
theorem A9Y {f : FuncId} {fn : Func} {c : Code} {s : AB} {p : aK} {rs : List (DV × Meta)} {sg : List D7} {q : List DV × List D7} (hm : C.P.follows .mixedOrders = true) (hO : Cv C R) (hf : C.P.funcs[f]? = some fn) (hb : fn.body = some c) (hc : B0l c p)
 (H : R9 C R (C.fl f) (Bh (p.pre ++ [p.r]) .skip) (RZ C R (C.fl f) p (Ba C.P fn s) (UC R (Ba C.P fn s))) (F5 fn rs sg) = some q) : A87 C.P f s rs sg q := by
 intro E w vs mJ hn ho hl hr;obtain ⟨Qo, dP⟩ := hc;rw [Qo] at dP;obtain ⟨pl1, pl2, plp⟩ := A1t _ _ _ _ dP;have pla : P8 p.a = true := by simpa [P8] using pl2
 have yF : ∀ {out : Out} {E' : Env} {st' : St} {a' : Act} {w1 : World}, Ba C.P fn s out st' = some q → a'.defers = [] → J2 E' st' a' w1.heap → Pr J8 E w.heap E' w1.heap → Q5 w w1 → bodyPostM Fence.wide 0 C.P fn (kG E w s q) out.YI a' w1 := by
  intro out E' st' a' w1 h1 hd h2 h3 h4;obtain ⟨-, ho, fin⟩ := oh (E := E) (E' := E') (a' := a') (w := w) h1;have : LeavesInM Fence.wide 0 C.P fn a'.tmps (kG E w s q) a'.defers .returning w1 := by
   rw [hd];obtain ⟨v, g1, g2⟩ := fin w1 h2 h3 h4;exact ⟨v, g1, g2⟩
  rcases ho with rfl | rfl <;> exact this
 refine (callsIn_wide (n := 0)).1 (callsIn_of_wp_marks hf (hb.trans (congrArg some Qo)) trivial (A5c hm hO p.pre H (oK mJ hn ho hl hr) (fun out E1 st1 a1 w1 hnn h1 h0 h2 h3 h4 => ?_) fun E1 st1 a1 w1 h1 h0 h2 h3 h4 => ?_))
 ·cases out with
  | normal => exact absurd rfl hnn
  | exit i => simp [RZ] at h1
  | ret => exact yF h1 (h0.plain pl1) h2 h3 h4
 ·have hd1 : a1.defers = [] := h0.plain pl1
  simp only [RZ, Xp] at h1;obtain ⟨r, k1, h1⟩ := C8 h1;obtain ⟨k2, h1⟩ := F8 h1;have e1 := (h2.src k1).data k2;have fin : (r.1 = .bool true ∧ R9 C R (C.fl f) p.a (fun o st => match o with
   | .normal => CE C R (C.fl f) (p.ops ++ [p.Xl]) p.ops (FQ (C.fl f) p.id st) fun st => ob (aF C p.Xl st) fun q => R9 C R (C.fl f) p.post (UC R (Ba C.P fn s) q) (clean (C.fl f) p.post st)
   | .exit _ => none
   | .ret => Ba C.P fn s .ret st) (clean (C.fl f) p.a st1) = some q) ∨ (r.1 = .bool false ∧ R9 C R (C.fl f) p.post (Ba C.P fn s) (clean (C.fl f) p.post st1) = some q) := by
   cases hy : p.c with
   | tmp t =>
     rw [hy] at k1 h1;simp only [src, Option.some.injEq] at k1;subst k1;simp only at h1;rcases OP h1 with ⟨h3, h4⟩ | ⟨h3, h4⟩
     ·rw [EW h3 (by simp)] at h4
      exact .inl ⟨h3, h4⟩
     ·rw [EW h3 (by simp)] at h4
      exact .inr ⟨h3, h4⟩
   | _ => rw [hy] at h1; exact OP h1
  clear h1;rcases fin with ⟨g1, g2⟩ | ⟨g1, g2⟩
  ·rw [g1] at e1
   simp only [RV] at e1;refine wpIn_cond_true e1 (wpIn_seq (JW hm hO p.a (.inl rfl) g2 (h2.clean _ p.a) fun out E2 st2 a2 w2 k1 k0 k2 k3 k4 => ?_))
   have LP : a2.defers = [] := (k0.plain pla).trans hd1;cases out with
   | exit i => simp at k1
   | ret => exact yF k1 LP k2 (h3.trans k3) (h4.trans k4)
   | normal =>
     simp only at k1;refine wpIn_region ?_;have hls : List.range (p.ops ++ [p.Xl]).toArray.size = List.range' 0 p.ops.length ++ [p.ops.length] := by
      rw [z57q];simp only [List.size_toArray, z65q, z10q, z58q, z17q];rw [List.range'_concat];simp
     rw [hls];refine A81 hO (os := p.ops) (i := 0) (fun j o hj => by
      rw [z17q, z13q (z1q.1 hj).1]; exact hj) k1 (k2.FQ _ _) fun E3 st3 a3 w3 l1 l0 l2 l3 l4 => ?_
     obtain ⟨g, m1, l1⟩ := C8 l1;have hd3 : a3.defers = [] := l0.trans LP;have E9 : (p.ops ++ [p.Xl]).toArray[p.ops.length]? = some p.Xl := by simp
     unfold aF at m1
     split at m1
     ·rename_i cl Vg
      split at m1
      ·rename_i fg hfg
       obtain ⟨rs', n1, m1⟩ := C8 m1;obtain ⟨n2, m1⟩ := F8 m1;simp only [Option.some.injEq] at m1;subst m1;simp only [z3q, Option.isNone_iff_eq_none] at n2;obtain ⟨⟨⟨hdf, hgd⟩, II⟩, Q7⟩ := n2;obtain ⟨s1, s2⟩ := yf l2 n1;have B76 : (p.Xl.semAt (Qs none).round a3.eval).run C.P w3 = .ok (.defer { target := .fn (.func fg) #[], args := cl.args.map a3.eval }) w3 := by
        show (p.Xl.semAt none a3.eval).run C.P w3 = _
        rw [Oper.semAt_none];simp only [execOp, Vg, resolve, hfg, Sem.run_bind];simp [Deferred.ofValue, Act.eval]
       rw [wpOpsIn_cons];unfold wpOpIn;simp only [E9];rw [if_pos (by simp [Region.wanted, hgd])]
       refine ⟨fun _ _ => trivial, ?_⟩
       rw [B76, Oper.uponIn_defer, II];simp only [wpOpsIn];have R4 : J2 E3 st3 { a3 with defers := { target := .fn (.func fg) #[], args := cl.args.map a3.eval } :: a3.defers } w3.heap := ⟨l2.size, l2.Aq, l2.Cs, l2.n, l2.regs, l2.boxes, l2.Q3, l2.fresh⟩
       refine JW hm hO p.post (.inl rfl) l1 (R4.clean _ p.post) fun out E5 st5 a5 w5 z1 z0 z2 z3 z4 => ?_
       have hd5 : a5.defers = [{ target := .fn (.func fg) #[], args := cl.args.map a3.eval }] := by
        rw [z0.plain plp, hd3];rfl
       have key : (out = .normal ∨ out = .ret) ∧ ∃ pq, R.r fg (rs'.map fun r => VU (r.1, Qa r.2)) st5.sg = some pq ∧ Ba C.P fn s out { st5 with sg := pq.2 } = some q := by
        cases out with
        | exit i => simp [UC] at z1
        | normal => obtain ⟨pq, y1, y2⟩ := C8 z1; exact ⟨.inl rfl, pq, y1, y2⟩
        | ret => obtain ⟨pq, y1, y2⟩ := C8 z1; exact ⟨.inr rfl, pq, y1, y2⟩
       obtain ⟨OJ, pq, y1, y2⟩ := key;obtain ⟨s', Dw, hgo, hD⟩ := hO.d fg _ _ _ hdf y1;obtain ⟨c1, c2, c3⟩ := B14 z2;have B7Q : ∀ (i : Nat) r v, (rs'.map fun r => VU (r.1, Qa r.2))[i]? = some r → (cl.args.map a3.eval).toList[i]? = some v → RR (E5.re O7) w5.heap 0 i r.1 r.2 v := by
        intro i r v hr hv;simp only [z11q, z16q] at hr;obtain ⟨r0, Co, rfl⟩ := hr;obtain ⟨y, t, -, -, -, hRy⟩ := s2 i r0 v Co (by simpa using hv)
        have := B4R z3 l2.fresh hRy 4 i;exact this.re rfl rfl fun b => rfl
       have B03 := hD (E5.re O7) w5 (cl.args.map a3.eval).toList c1 c2 c3 (by simp [s1]) B7Q .returning
       have B5v : LeavesInM Fence.wide 0 C.P fn a5.tmps (kG E w s q) a5.defers .returning w5 := by
        rw [hd5];refine ⟨by simp, .inr ⟨fun h => by simp [Fence.wide] at h, .func fg, #[], fg, cl.args.map a3.eval, rfl, ?_, fun _ _ => trivial, ?_⟩⟩
        ·simp only [invoke, Array.append_empty]
         exact d_ hgo _ _
        ·rw [Array.toArray_toList] at B03
         refine B03.mono ?_;rintro e u' w6 ⟨rfl, ho6, v6, E6, rfl, P6, f6, n6, o6, -⟩;obtain ⟨E7, R7, P7⟩ := B0v z2 P6 f6 n6 o6;obtain ⟨-, -, fin⟩ := oh (E := E) (E' := E7) (a' := a5) (w := w) y2;obtain ⟨v, x1, x2⟩ := fin w6 R7 ((h3.trans k3).trans (l3.trans (z3.trans P7))) ((h4.trans k4).trans (l4.trans (z4.trans ho6)));exact ⟨v, x1, x2⟩
       rcases OJ with rfl | rfl <;> exact B5v
      ·cases m1
     ·cases m1
  ·rw [g1] at e1
   simp only [RV] at e1;refine wpIn_cond_false e1 (wpIn_skip (JW hm hO p.post (.inl rfl) g2 (h2.clean _ p.post) fun out E2 st2 a2 w2 k1 k0 k2 k3 k4 => ?_))
   exact yF k1 ((k0.plain plp).trans hd1) k2 (h3.trans k3) (h4.trans k4)
end
structure A13 (C : X5) : Prop where
 mixed : C.P.follows .mixedOrders = true
 go : ∀ (f : Nat) fn, C.P.funcs[f]? = some fn → fn.name ≠ "runtime.NumGoroutine"
 jg : ∀ f p, C.jg f = some p → ∀ fn c, C.P.funcs[f]? = some fn → fn.body = some c → A5K C.P c p
 clone : ∀ f, C.clone f = true → isGo C.P f = true ∧ A8C C.P f (C.qH f)
 iD : ∀ f g, C.iD f = some g → isGo C.P f = true ∧ A85 C.P f g (C.qH f)
 iter : ∀ g it, C.iter g = some it → isGo C.P g = true ∧ A14 C.P g it
 YW : ∀ f p, C.YW f = some p → ∀ fn c, C.P.funcs[f]? = some fn → fn.body = some c → B0l c p := by exact fun f p h => by cases h
 dfn : ∀ f, C.dfn f = true → C.YW f = none ∧ ∀ fn c, C.P.funcs[f]? = some fn → fn.body = some c → P8 c = true := by exact fun f h => by cases h
theorem zM {C : X5} (hC : A13 C) {f : Nat} {fn : Func} {c : Code} (hf : C.P.funcs[f]? = some fn) (hb : fn.body = some c) : isGo C.P f = true := by
 unfold isGo;rw [hf];simp [hC.go f fn hf, hb]
theorem step_ok {C : X5} {R : N7} (hC : A13 C) (hO : Cv C R) : Cv C (Bp C R) := by
 refine ⟨fun f ds d H => ?_, fun f rs sg q H => ?_, hC.clone, hC.iD, hC.iter, fun f rs sg q hd H => ?_⟩
 ·simp only [Bp] at H
  obtain ⟨fn, hf, H⟩ := C8 H;obtain ⟨c, hb, H⟩ := C8 H;exact ⟨zM hC hf hb, pure_ok hC.mixed hO hf hb (fun p hp => hC.jg f p hp fn c hf hb) H⟩
 ·simp only [Bp] at H
  obtain ⟨s, hs, H⟩ := C8 H;obtain ⟨fn, hf, H⟩ := C8 H;obtain ⟨c, hb, H⟩ := C8 H;cases hp : C.YW f with
  | none =>
    rw [hp] at H;exact ⟨s, hs, zM hC hf hb, B6d hC.mixed hO hf hb H⟩
  | some p =>
    rw [hp] at H;exact ⟨s, hs, zM hC hf hb, A9Y hC.mixed hO hf hb (hC.YW f p hp fn c hf hb) H⟩
 ·simp only [Bp] at H
  obtain ⟨s, hs, H⟩ := C8 H;obtain ⟨fn, hf, H⟩ := C8 H;obtain ⟨c, hb, H⟩ := C8 H;obtain ⟨h1, h2⟩ := hC.dfn f hd;rw [h1] at H;exact ⟨s, hs, zM hC hf hb, B4A hC.mixed hO hf hb (h2 fn c hf hb) H⟩
theorem zS {C : X5} (hC : A13 C) : ∀ n, Cv C (Kq C n)
 | 0 => ⟨fun f ds d H => by simp [Kq] at H, fun f rs sg q H => by simp [Kq] at H, hC.clone, hC.iD, hC.iter, fun f rs sg q _ H => by simp [Kq] at H⟩
 | n + 1 => step_ok hC (zS hC n)
theorem B6h {C : X5} (hC : A13 C) : Cv C (run C) := by
 have hr : ∀ f rs sg q, (run C).r f rs sg = some q → ∃ n, (Kq C n).r f rs sg = some q := fun f rs sg q H => by
  simp only [run] at H
  split at H
  ·rename_i h
   simp only [Option.some.injEq] at H;obtain ⟨n, hn⟩ := h.choose_spec;rw [H] at hn;exact ⟨n, hn⟩
  ·cases H
 refine ⟨fun f ds d H => ?_, fun f rs sg q H => ?_, hC.clone, hC.iD, hC.iter, fun f rs sg q hd H => ?_⟩
 ·simp only [run] at H
  split at H
  ·rename_i h
   simp only [Option.some.injEq] at H;obtain ⟨n, hn⟩ := h.choose_spec;rw [H] at hn;exact (zS hC n).p f ds d hn
  ·cases H
 ·obtain ⟨n, hn⟩ := hr f rs sg q H
  exact (zS hC n).r f rs sg q hn
 ·obtain ⟨n, hn⟩ := hr f rs sg q H
  exact (zS hC n).d f rs sg q hd hn
end Go.Su

/-
 THE DATA MACHINE, part 28: more is known of the functions that are called: more comes out.
-/
namespace Go.Su
structure MG (R R' : N7) : Prop where
 p : ∀ f ds d, R.p f ds = some d → R'.p f ds = some d
 r : ∀ f rs sg q, R.r f rs sg = some q → R'.r f rs sg = some q
theorem MG.refl (R : N7) : MG R R := ⟨fun _ _ _ h => h, fun _ _ _ _ h => h⟩
theorem MG.trans {R S T : N7} (a : MG R S) (b : MG S T) : MG R T := ⟨fun f ds d h => b.p f ds d (a.p f ds d h), fun f rs sg q h => b.r f rs sg q (a.r f rs sg q h)⟩
section
variable {C : X5} {R : N7} {fl : Flags} {o : Oper} {st s : St}
theorem A4N (H : I4 C R fl o st some = some s) : (∀ R' : N7, I4 C R' fl o st some = some s) ∨
 (∃ f ds d, R.p f ds = some d ∧ ∀ R' : N7, R'.p f ds = some d → I4 C R' fl o st some = some s) ∨
 (∃ f rs sg q, R.r f rs sg = some q ∧ ∀ R' : N7, R'.r f rs sg = some q → I4 C R' fl o st some = some s) := by
 have H0 := H;unfold I4 at H
 split at H
 case h_24 c E9 =>
  unfold Ec at H
  split at H
  ·rename_i b hb
   refine .inl fun R' => ?_
   rw [← H0];simp only [I4, E9, Ec, hb]
  ·rename_i y hy
   obtain ⟨r, h1, H⟩ := C8 H;obtain ⟨rs, h2, H⟩ := C8 H
   split at H
   ·rename_i g caps hm
    have GM : ∀ R' : N7, I4 C R' fl o st some = Il C R' o g c.args.toList (rs ++ caps.map fun m => (.undef, .ptr m.1 m.2)) st some := by
     intro R';simp only [I4, E9, Ec, hy, h1, h2, K9, hm]
    generalize rs ++ caps.map (fun m => ((.undef, .ptr m.1 m.2) : DV × Meta)) = rs' at H GM
    by_cases Vg : C.clone g = true
    ·refine .inl fun R' => ?_
     rw [← H0, GM, GM];simp only [Il, if_pos Vg]
    ·unfold Il at H
     rw [if_neg Vg] at H;cases hmk : C.iD g with
     | some g' =>
       refine .inl fun R' => ?_
       rw [← H0, GM, GM];simp only [Il, if_neg Vg, hmk]
     | none =>
     rw [hmk] at H;simp only at H
     split at H
     ·rename_i hs
      obtain ⟨h3, H⟩ := F8 H;obtain ⟨d, h4, H⟩ := C8 H;refine .inr (.inl ⟨g, _, d, h4, fun R' h => ?_⟩)
      rw [GM];simp only [Il, if_neg Vg, hmk, hs, h3, W9, h, K9];exact H
     ·rename_i sg hs
      obtain ⟨h3, H⟩ := F8 H;obtain ⟨q, h4, H⟩ := C8 H;refine .inr (.inr ⟨g, _, _, q, h4, fun R' h => ?_⟩)
      rw [GM];simp only [Il, if_neg Vg, hmk, hs, h3, W9, h, K9];exact H
   ·simp at H
  ·simp at H
 all_goals first
  | (simp at H; done)
  | (rename_i E9
     refine .inl fun R' => ?_
     rw [← H0];simp only [I4, E9])
theorem A4O {R' : N7} (hR : MG R R') (H : I4 C R fl o st some = some s) : I4 C R' fl o st some = some s := by
 rcases A4N H with h | ⟨f, ds, d, h1, h2⟩ | ⟨f, rs, sg, q, h1, h2⟩
 ·exact h R'
 ·exact h2 R' (hR.p _ _ _ h1)
 ·exact h2 R' (hR.r _ _ _ _ h1)
structure jv (Rs : Nat → N7) (R : N7) : Prop where
 up : ∀ n, MG (Rs n) (Rs (n + 1))
 p : ∀ f ds d, R.p f ds = some d → ∃ n, (Rs n).p f ds = some d
 r : ∀ f rs sg q, R.r f rs sg = some q → ∃ n, (Rs n).r f rs sg = some q
theorem jv.le {Rs : Nat → N7} (L : jv Rs R) {n m : Nat} (h : n ≤ m) : MG (Rs n) (Rs m) := by
 induction m with
 | zero => rw [z48q.1 h]; exact MG.refl _
 | succ m ih =>
   rcases z27q m n with h1 | h1
   ·rw [show n = m + 1 by omega]; exact MG.refl _
   ·exact (ih h1).trans (L.up m)
theorem A6m {Rs : Nat → N7} (L : jv Rs R) (H : I4 C R fl o st some = some s) : ∃ n, I4 C (Rs n) fl o st some = some s := by
 rcases A4N H with h | ⟨f, ds, d, h1, h2⟩ | ⟨f, rs, sg, q, h1, h2⟩
 ·exact ⟨0, h _⟩
 ·obtain ⟨n, hn⟩ := L.p _ _ _ h1; exact ⟨n, h2 _ hn⟩
 ·obtain ⟨n, hn⟩ := L.r _ _ _ _ h1; exact ⟨n, h2 _ hn⟩
variable {ops : List Oper}
theorem Y1.mono {R' : N7} {s1 : St} (hR : MG R R') (H : Y1 C R fl ops o s s1) : Y1 C R' fl ops o s s1 := by
 unfold Y1 at H ⊢
 split at H
 ·exact A4O hR H
 ·obtain ⟨t, h1, h2, h3⟩ := H
  exact ⟨t, h1, h2, h3.imp (fun h => ⟨h.1, A4O hR h.2⟩) id⟩
theorem Y1.lim {Rs : Nat → N7} {s1 : St} (L : jv Rs R) (H : Y1 C R fl ops o s s1) : ∃ n, Y1 C (Rs n) fl ops o s s1 := by
 unfold Y1 at H ⊢
 split at H
 ·exact A6m L H
 ·obtain ⟨t, h1, h2, h3⟩ := H
  rcases h3 with ⟨h3, h4⟩ | h3
  ·obtain ⟨n, hn⟩ := A6m L h4
   exact ⟨n, t, h1, h2, .inl ⟨h3, hn⟩⟩
  ·exact ⟨0, t, h1, h2, .inr h3⟩
end
end Go.Su

/-
 THE DATA MACHINE, part 29: regions and code, when more is known.
-/
namespace Go.Su
section
variable {X : Type} {C : X5} {R : N7} {fl : Flags} {o : Oper} {st s : St} {ops : List Oper}
theorem zG {s1 : St} (H : I4 C R fl o st some = some s1) (k : St → Option X) : I4 C R fl o st k = k s1 := by
 obtain ⟨s, h1, h2⟩ := ng H;simp only [Option.some.injEq] at h1;subst h1;exact h2 X k
theorem B2j {os : List Oper} {s1 : St} (H : Y1 C R fl ops o st s1) (k : St → Option X) : CE C R fl ops (o :: os) st k = CE C R fl ops os s1 k := by
 simp only [CE, Zj];unfold Y1 at H
 split at H
 ·rename_i hg
  simp only [hg];exact zG H _
 ·rename_i g want hg
  obtain ⟨t, h1, h2, h3⟩ := H;simp only [hg, h1, K9, h2, W9];rcases h3 with ⟨h3, h4⟩ | ⟨h3, h4⟩
  ·rw [h3]
   cases want <;> simp only [I5, if_true, z18q, if_false] <;> rw [EW h3 (by simp)] <;> exact zG h4 _
  ·subst h4
   cases want <;> simp only [Bool.not_true, Bool.not_false] at h3 <;> rcases h3 with h3 | h3 <;> simp only [h3, I5, if_true, z18q, if_false] <;> rw [EW h3 (by simp)]
theorem B0S {bf : List (List Nat)} {os : List Oper} {i : Nat} {acc : List (Nat × Fp)} {s1 : St} (H : Y1 C R fl ops o st s1) (k : St → Option X) :
 Cc C R fl ops bf (o :: os) i acc st k = og (IQ bf i acc ((Bq C fl ops o st).Ae st s1)) (Cc C R fl ops bf os (i + 1) ((i, (Bq C fl ops o st).Ae st s1) :: acc) s1 k) := by
 have H0 := H;simp only [Cc, Zj, A25];unfold Y1 at H
 split at H
 ·rename_i hg
  simp only [hg];rw [zG H, A6x hg];rfl
 ·rename_i g want hg
  obtain ⟨t, h1, h2, h3⟩ := H;rw [A6y hg h1];simp only [hg, h1, K9, h2, W9];rcases h3 with ⟨h3, h4⟩ | ⟨h3, h4⟩
  ·rw [if_pos (aH.2 h3)]
   rw [h3];cases want <;> simp only [I5, if_true, z18q, if_false, kR] <;> rw [EW h3 (by simp), zG h4] <;> rfl
  ·have hB : ¬ (tO want (st.get t).1 = true) := by
    rw [aH];rcases h3 with h | h <;> rw [h] <;> cases want <;> simp
   rw [if_neg hB];subst h4;cases want <;> simp only [Bool.not_true, Bool.not_false] at h3 <;> rcases h3 with h3 | h3 <;> simp only [h3, I5, if_true, z18q, if_false, Vx] <;> rw [EW h3 (by simp)] <;> rfl
end
end Go.Su

/-
 THE DATA MACHINE, part 30: the code's answers are limits; the program's functions are what one step makes of them.
-/
namespace Go.Su
section
variable {X : Type} {C : X5} {fl : Flags}
def DI (p : Nat → Prop) : Prop := ∃ n, ∀ m, n ≤ m → p m
theorem DI.mono {p q : Nat → Prop} (h : DI p) (f : ∀ m, p m → q m) : DI q := h.imp fun _ h m hm => f m (h m hm)
theorem DI.and {p q : Nat → Prop} (h : DI p) (h' : DI q) : DI fun m => p m ∧ q m := by
 obtain ⟨n, hn⟩ := h;obtain ⟨k, hk⟩ := h';exact ⟨n + k, fun m hm => ⟨hn m (by omega), hk m (by omega)⟩⟩
theorem DI.all {p : Nat → Prop} (h : ∀ m, p m) : DI p := ⟨0, fun m _ => h m⟩
theorem wM {R : N7} {Rs : Nat → N7} (L : jv Rs R) {ops : List Oper} {k : St → Option X} {ks : Nat → St → Option X} (hk : ∀ st x, k st = some x → DI fun m => ks m st = some x) :
 ∀ {os : List Oper} {st : St} {x : X}, CE C R fl ops os st k = some x → DI fun m => CE C (Rs m) fl ops os st (ks m) = some x
 | [], st, x, H => by
   simp only [CE] at H ⊢;exact hk st x H
 | o :: os, st, x, H => by
   obtain ⟨s1, h1, h2⟩ := nk H;obtain ⟨n, hn⟩ := h1.lim L;refine (DI.and ⟨n, fun m hm => hn.mono (L.le hm)⟩ (wM L hk h2)).mono fun m h => ?_
   rw [B2j h.1];exact h.2
theorem A2Z {R : N7} {Rs : Nat → N7} (L : jv Rs R) {ops : List Oper} {bf : List (List Nat)} {k : St → Option X} {ks : Nat → St → Option X} (hk : ∀ st x, k st = some x → DI fun m => ks m st = some x) :
 ∀ {os : List Oper} {i : Nat} {acc : List (Nat × Fp)} {st : St} {x : X}, Cc C R fl ops bf os i acc st k = some x → DI fun m => Cc C (Rs m) fl ops bf os i acc st (ks m) = some x
 | [], i, acc, st, x, H => by
   simp only [Cc] at H ⊢;exact hk st x H
 | o :: os, i, acc, st, x, H => by
   obtain ⟨s1, h1, h2, h3⟩ := A03 H;obtain ⟨n, hn⟩ := h1.lim L;refine (DI.and ⟨n, fun m hm => hn.mono (L.le hm)⟩ (A2Z L hk h3)).mono fun m h => ?_
   rw [B0S h.1, h2];exact h.2
theorem A7Z {X : Type} {fl : Flags} {id : Nat} {st : St} {k : St → Option X} {x : X} (H : Fs fl id st k = some x) : ∃ s, k s = some x ∧ ∀ (Y : Type) (k' : St → Option Y), Fs fl id st k' = k' s := by
 unfold Fs at H
 split at H
 ·rename_i e he
  unfold aC at H
  split at H
  ·rename_i i sz len hm
   obtain ⟨q, h1, H⟩ := C8 H;obtain ⟨d, h2, H⟩ := C8 H;exact ⟨_, H, fun Y k' => by simp only [Fs, he, aC, hm, h1, h2, K9]⟩
  ·rename_i b off hm
   obtain ⟨cs, h1, H⟩ := C8 H;obtain ⟨a, h2, H⟩ := C8 H;obtain ⟨q, h3, H⟩ := C8 H;obtain ⟨d, h4, H⟩ := C8 H;exact ⟨_, H, fun Y k' => by simp only [Fs, he, aC, hm, h1, h2, h3, h4, K9]⟩
  ·cases H
 ·rename_i he
  exact ⟨st, H, fun Y k' => by simp only [Fs, he]⟩
theorem A0B {X : Type} {fl : Flags} {id : Nat} {k : St → Option X} {ks : Nat → St → Option X} (hk : ∀ st x, k st = some x → DI fun m => ks m st = some x) (st : St) (x : X) (H : Fs fl id st k = some x) : DI fun m => Fs fl id st (ks m) = some x := by
 obtain ⟨s, h1, h2⟩ := A7Z H;exact (hk s x h1).mono fun m h => by rw [h2]; exact h
theorem PR : ∀ (c : Code) {R : N7} {Rs : Nat → N7} {K : Out → St → Option X} {Ks : Nat → Out → St → Option X} {st : St} {x : X}, jv Rs R →
 (∀ o st x, K o st = some x → DI fun m => Ks m o st = some x) → R9 C R fl c K st = some x → DI fun m => R9 C (Rs m) fl c (Ks m) st = some x := by
 intro c
 induction c with
 | skip =>
   intro R Rs K Ks st x L hK H;simp only [R9] at H ⊢;exact hK _ _ _ H
 | region id ops d =>
   intro R Rs K Ks st x L hK H;cases d
   ·simp only [R9] at H ⊢
    exact wM L (A0B (hK .normal)) H
   ·simp only [R9, jV] at H ⊢
    obtain ⟨h1, H⟩ := F8 H;simp only [h1, W9];exact A2Z L (A0B (hK .normal)) H
 | seq c d ihc ihd =>
   intro R Rs K Ks st x L hK H;simp only [R9] at H ⊢;refine ihc L ?_ H;intro o s y h;cases o with
   | normal => exact ihd L hK h
   | exit i => exact hK _ _ _ h
   | ret => exact hK _ _ _ h
 | cond y c d ihc ihd =>
   intro R Rs K Ks st x L hK H;simp only [R9, Xp] at H ⊢;obtain ⟨r, h1, H⟩ := C8 H;obtain ⟨h2, H⟩ := F8 H;simp only [h1, K9, h2, W9];cases y with
   | tmp t =>
     simp only at H ⊢;rcases OP H with ⟨h3, h4⟩ | ⟨h3, h4⟩ <;> rw [h3]
     ·exact ihc L hK h4
     ·exact ihd L hK h4
   | _ =>
     rcases OP H with ⟨h3, h4⟩ | ⟨h3, h4⟩ <;> rw [h3]
     ·exact ihc L hK h4
     ·exact ihd L hK h4
 | block id c ih =>
   intro R Rs K Ks st x L hK H;simp only [R9] at H ⊢;refine ih L ?_ H;intro o s y h;cases o with
   | normal => exact hK _ _ _ h
   | exit i =>
     simp only at h ⊢
     by_cases hi : i = id
     ·simp only [if_pos hi] at h ⊢; exact hK _ _ _ h
     ·simp only [if_neg hi] at h ⊢; exact hK _ _ _ h
   | ret => exact hK _ _ _ h
 | loop c ih =>
   intro R Rs K Ks st x L hK H;simp only [R9] at H ⊢;obtain ⟨n, H9⟩ := Zq H;clear H;have up : ∀ m, DI (fun m' => iter (fun J st => R9 C (Rs m) fl c (fun o st => match o with
    | .normal => J (clean fl c st)
    | .exit i => Ks m (.exit i) st
    | .ret => Ks m .ret st) st) m' (clean fl c st) = some x) → GZ (fun J st => R9 C (Rs m) fl c (fun o st => match o with
    | .normal => J (clean fl c st)
    | .exit i => Ks m (.exit i) st
    | .ret => Ks m .ret st) st) (clean fl c st) = some x := by
    intro m h;generalize clean fl c st = st9 at h ⊢;have mono : ∀ k s y, iter (fun J st => R9 C (Rs m) fl c (fun o st => match o with
     | .normal => J (clean fl c st)
     | .exit i => Ks m (.exit i) st
     | .ret => Ks m .ret st) st) k s = some y → iter (fun J st => R9 C (Rs m) fl c (fun o st => match o with
     | .normal => J (clean fl c st)
     | .exit i => Ks m (.exit i) st
     | .ret => Ks m .ret st) st) (k + 1) s = some y := by
     intro k
     induction k with
     | zero => intro s y h; simp [iter] at h
     | succ k ihk =>
       intro s y h;rw [iter] at h ⊢;have := ih (R := Rs m) (Rs := fun _ => Rs m) (Ks := fun _ o st => match o with
        | .normal => iter (fun J st => R9 C (Rs m) fl c (fun o st => match o with
     | .normal => J (clean fl c st)
     | .exit i => Ks m (.exit i) st
     | .ret => Ks m .ret st) st) (k + 1) (clean fl c st)
        | .exit i => Ks m (.exit i) st
        | .ret => Ks m .ret st) ⟨fun _ => MG.refl _, fun _ _ _ h => ⟨0, h⟩, fun _ _ _ _ h => ⟨0, h⟩⟩ ?_ h
       ·obtain ⟨n, hn⟩ := this
        exact hn n (z12q _)
       ·intro o s y h
        refine DI.all fun _ => ?_
        cases o with
        | normal => exact ihk _ _ h
        | exit i => exact h
        | ret => exact h
    obtain ⟨k, hk⟩ := h;unfold GZ;have he : ∃ x n, iter (fun J st => R9 C (Rs m) fl c (fun o st => match o with
     | .normal => J (clean fl c st)
     | .exit i => Ks m (.exit i) st
     | .ret => Ks m .ret st) st) n st9 = some x := ⟨x, k, hk k (z12q _)⟩
    rw [dif_pos he];obtain ⟨j, hj⟩ := he.choose_spec;have le : ∀ a b s y, a ≤ b → iter (fun J st => R9 C (Rs m) fl c (fun o st => match o with
     | .normal => J (clean fl c st)
     | .exit i => Ks m (.exit i) st
     | .ret => Ks m .ret st) st) a s = some y → iter (fun J st => R9 C (Rs m) fl c (fun o st => match o with
     | .normal => J (clean fl c st)
     | .exit i => Ks m (.exit i) st
     | .ret => Ks m .ret st) st) b s = some y := by
     intro a b s y mH h
     induction b with
     | zero => rw [z48q.1 mH] at h; exact h
     | succ b ihb =>
       rcases z27q b a with h1 | h1
       ·rw [show b + 1 = a by omega]; exact h
       ·exact mono _ _ _ (ihb h1)
    have h1 := le j (j + k) _ _ (by omega) hj
    have h2 := le k (j + k) _ _ (by omega) (hk k (z12q _))
    rw [h1] at h2;exact h2
   have main : DI fun m => DI fun m' => iter (fun J st => R9 C (Rs m) fl c (fun o st => match o with
    | .normal => J (clean fl c st)
    | .exit i => Ks m (.exit i) st
    | .ret => Ks m .ret st) st) m' (clean fl c st) = some x := by
    have lim : ∀ k s y, iter (fun J st => R9 C R fl c (fun o st => match o with
     | .normal => J (clean fl c st)
     | .exit i => K (.exit i) st
     | .ret => K .ret st) st) k s = some y → DI fun m => iter (fun J st => R9 C (Rs m) fl c (fun o st => match o with
     | .normal => J (clean fl c st)
     | .exit i => Ks m (.exit i) st
     | .ret => Ks m .ret st) st) k s = some y := by
     intro k
     induction k with
     | zero => intro s y h; simp [iter] at h
     | succ k ihk =>
       intro s y h;simp only [iter] at h ⊢;refine ih L ?_ h;intro o s y h;cases o with
       | normal => exact ihk _ _ h
       | exit i => exact hK _ _ _ h
       | ret => exact hK _ _ _ h
    obtain ⟨k, hk⟩ := lim n _ _ H9;refine ⟨k, fun m hm => ⟨n, fun m' Qp => ?_⟩⟩
    have h0 := hk m hm;have mono : ∀ k s y, iter (fun J st => R9 C (Rs m) fl c (fun o st => match o with
     | .normal => J (clean fl c st)
     | .exit i => Ks m (.exit i) st
     | .ret => Ks m .ret st) st) k s = some y → iter (fun J st => R9 C (Rs m) fl c (fun o st => match o with
     | .normal => J (clean fl c st)
     | .exit i => Ks m (.exit i) st
     | .ret => Ks m .ret st) st) (k + 1) s = some y := by
     intro k
     induction k with
     | zero => intro s y h; simp [iter] at h
     | succ k ihk =>
       intro s y h;rw [iter] at h ⊢;have := ih (R := Rs m) (Rs := fun _ => Rs m) (Ks := fun _ o st => match o with
        | .normal => iter (fun J st => R9 C (Rs m) fl c (fun o st => match o with
     | .normal => J (clean fl c st)
     | .exit i => Ks m (.exit i) st
     | .ret => Ks m .ret st) st) (k + 1) (clean fl c st)
        | .exit i => Ks m (.exit i) st
        | .ret => Ks m .ret st) ⟨fun _ => MG.refl _, fun _ _ _ h => ⟨0, h⟩, fun _ _ _ _ h => ⟨0, h⟩⟩ ?_ h
       ·obtain ⟨n, hn⟩ := this
        exact hn n (z12q _)
       ·intro o s y h
        refine DI.all fun _ => ?_
        cases o with
        | normal => exact ihk _ _ h
        | exit i => exact h
        | ret => exact h
    induction m' with
    | zero => rw [z48q.1 Qp] at h0; exact h0
    | succ b ihb =>
      rcases z27q b n with h1 | h1
      ·rw [show b + 1 = n by omega]; exact h0
      ·exact mono _ _ _ (ihb h1)
   exact main.mono up
 | rangeFunc g ps assign body iha ihb =>
   intro R Rs K Ks st x L hK H;simp only [R9] at H ⊢;have H9 := A20 H;clear H;obtain ⟨t, p, f, i, it, cs, cd, ds, rfl, h1, h2, h3, h4, h5, h6, h7, H⟩ := H9;simp only [h7, B2h h1 h2 h3 h4 h5 h6];clear h6;generalize st.sg.set i (.arr 1 []) = sg at H
   induction ds generalizing sg x with
   | nil => exact hK _ _ _ H
   | cons d ds ih =>
     simp only [Ke] at H ⊢;refine iha L ?_ H;intro o s y h;cases o with
     | exit e => cases h
     | ret => cases h
     | normal =>
       refine ihb L ?_ h;intro o s y h;cases o with
       | normal => exact ih _ h
       | exit e => exact hK _ _ _ h
       | ret => exact hK _ _ _ h
 | exit id =>
   intro R Rs K Ks st x L hK H;simp only [R9] at H ⊢;exact hK _ _ _ H
 | ret =>
   intro R Rs K Ks st x L hK H;simp only [R9] at H ⊢;exact hK _ _ _ H
 | _ =>
   intro R Rs K Ks st x L hK H;simp [R9] at H
theorem jv.B3p {R : N7} {Rs : Nat → N7} (L : jv Rs R) {f : FuncId} {rs : List (DV × Meta)} {sg : List D7} {q : List DV × List D7} (h : R.r f rs sg = some q) : DI fun m => (Rs m).r f rs sg = some q := by
 obtain ⟨n, hn⟩ := L.r f rs sg q h;exact ⟨n, fun m hm => (L.le hm).r _ _ _ _ hn⟩
theorem B0M {X : Type} {fl : Flags} {R : N7} {Rs : Nat → N7} (L : jv Rs R) {p : aK} {K : Out → St → Option X} {Ks : Nat → Out → St → Option X} {D : FuncId × List (DV × Meta) → Out → St → Option X} {Ds : Nat → FuncId × List (DV × Meta) → Out → St → Option X}
 (hK : ∀ o st x, K o st = some x → DI fun m => Ks m o st = some x) (hD : ∀ q o st x, D q o st = some x → DI fun m => Ds m q o st = some x) {o : Out} {st : St} {x : X} (H : RZ C R fl p K D o st = some x) :
 DI fun m => RZ C (Rs m) fl p (Ks m) (Ds m) o st = some x := by
 cases o with
 | exit i => simp [RZ] at H
 | ret => exact hK _ _ _ H
 | normal =>
   simp only [RZ, Xp] at H ⊢;obtain ⟨r, h1, H⟩ := C8 H;obtain ⟨h2, H⟩ := F8 H;simp only [h1, K9, h2, W9];have A : ∀ st x, R9 C R fl p.a (fun o st => match o with
    | .normal => CE C R fl (p.ops ++ [p.Xl]) p.ops (FQ fl p.id st) fun st => ob (aF C p.Xl st) fun q => R9 C R fl p.post (D q) (clean fl p.post st)
    | .exit _ => none
    | .ret => K .ret st) (clean fl p.a st) = some x → DI fun m => R9 C (Rs m) fl p.a (fun o st => match o with
    | .normal => CE C (Rs m) fl (p.ops ++ [p.Xl]) p.ops (FQ fl p.id st) fun st => ob (aF C p.Xl st) fun q => R9 C (Rs m) fl p.post (Ds m q) (clean fl p.post st)
    | .exit _ => none
    | .ret => Ks m .ret st) (clean fl p.a st) = some x := by
    intro st x H;refine PR p.a L (fun o st x h => ?_) H
    cases o with
    | exit i => cases h
    | ret => exact hK _ _ _ h
    | normal =>
      refine wM L (fun st x h => ?_) h
      obtain ⟨q, k1, k2⟩ := C8 h;simp only [k1, K9];exact PR p.post L (hD q) k2
   have B : ∀ st x, R9 C R fl p.post K (clean fl p.post st) = some x → DI fun m => R9 C (Rs m) fl p.post (Ks m) (clean fl p.post st) = some x := fun st x H => PR p.post L hK H
   cases hy : p.c with
   | tmp t =>
     rw [hy] at H;simp only at H ⊢;rcases OP H with ⟨h3, h4⟩ | ⟨h3, h4⟩
     ·exact (A _ _ h4).mono fun m hm => by rw [h3]; exact hm
     ·exact (B _ _ h4).mono fun m hm => by rw [h3]; exact hm
   | _ =>
     rw [hy] at H;simp only at H ⊢;rcases OP H with ⟨h3, h4⟩ | ⟨h3, h4⟩
     ·exact (A _ _ h4).mono fun m hm => by rw [h3]; exact hm
     ·exact (B _ _ h4).mono fun m hm => by rw [h3]; exact hm
theorem o_ {R : N7} {Rs : Nat → N7} (L : jv Rs R) : (∀ f ds d, (Bp C R).p f ds = some d → DI fun m => (Bp C (Rs m)).p f ds = some d) ∧
 (∀ f rs sg q, (Bp C R).r f rs sg = some q → DI fun m => (Bp C (Rs m)).r f rs sg = some q) := by
 constructor
 ·intro f ds d H
  simp only [Bp] at H ⊢;obtain ⟨fn, h1, H⟩ := C8 H;obtain ⟨c, h2, H⟩ := C8 H;simp only [h1, K9, h2];cases hq : C.jg f with
  | none =>
    rw [hq] at H;exact PR c L (fun o st x h => DI.all fun _ => h) H
  | some p =>
    rw [hq] at H;refine PR (Bh p.pre .skip) L (fun o st x h => ?_) H
    cases o with
    | exit i => simp [A3U] at h
    | ret => exact DI.all fun _ => h
    | normal =>
      simp only [A3U] at h ⊢;obtain ⟨st2, k1, k2⟩ := C8 h;simp only [k1, K9];exact PR p.post L (fun o st x h => DI.all fun _ => h) k2
 ·intro f rs sg q H
  simp only [Bp] at H ⊢;obtain ⟨s, h0, H⟩ := C8 H;obtain ⟨fn, h1, H⟩ := C8 H;obtain ⟨c, h2, H⟩ := C8 H;simp only [h0, h1, K9, h2];cases hq : C.YW f with
  | none =>
    rw [hq] at H;exact PR c L (fun o st x h => DI.all fun _ => h) H
  | some p =>
    rw [hq] at H;refine PR (Bh (p.pre ++ [p.r]) .skip) L (fun o st x h => ?_) H
    refine B0M L (fun o st x h => DI.all fun _ => h) (fun g o st x h => ?_) h
    cases o with
    | exit i => simp [UC] at h
    | normal =>
      obtain ⟨pq, y1, y2⟩ := C8 h;refine (L.B3p y1).mono fun m hm => ?_
      show ob ((Rs m).r g.1 g.2 st.sg) _ = some x
      rw [hm]; exact y2
    | ret =>
      obtain ⟨pq, y1, y2⟩ := C8 h;refine (L.B3p y1).mono fun m hm => ?_
      show ob ((Rs m).r g.1 g.2 st.sg) _ = some x
      rw [hm]; exact y2
theorem yg {R R' : N7} (h : MG R R') : MG (Bp C R) (Bp C R') := by
 have L : jv (fun _ => R') R := ⟨fun _ => MG.refl _, fun _ _ _ k => ⟨0, h.p _ _ _ k⟩, fun _ _ _ _ k => ⟨0, h.r _ _ _ _ k⟩⟩
 constructor
 ·intro f ds d H
  obtain ⟨n, hn⟩ := (o_ L).1 f ds d H;exact hn n (z12q _)
 ·intro f rs sg q H
  obtain ⟨n, hn⟩ := (o_ L).2 f rs sg q H;exact hn n (z12q _)
theorem A8U (n : Nat) : MG (Kq C n) (Kq C (n + 1)) := by
 induction n with
 | zero => exact ⟨fun _ _ _ h => by simp [Kq] at h, fun _ _ _ _ h => by simp [Kq] at h⟩
 | succ n ih => exact yg ih
theorem zR {n m : Nat} (h : n ≤ m) : MG (Kq C n) (Kq C m) := by
 induction m with
 | zero => rw [z48q.1 h]; exact MG.refl _
 | succ m ih =>
   rcases z27q m n with h1 | h1
   ·rw [show n = m + 1 by omega]; exact MG.refl _
   ·exact (ih h1).trans (A8U m)
theorem zW : jv (Kq C) (run C) := by
 refine ⟨A8U, fun f ds d H => ?_, fun f rs sg q H => ?_⟩
 ·simp only [run] at H
  split at H
  ·rename_i h
   simp only [Option.some.injEq] at H;rw [← H];exact h.choose_spec
  ·cases H
 ·simp only [run] at H
  split at H
  ·rename_i h
   simp only [Option.some.injEq] at H;rw [← H];exact h.choose_spec
  ·cases H
theorem zU (n : Nat) : MG (Kq C n) (run C) := by
 constructor
 ·intro f ds d H
  have h : ∃ x n, (Kq C n).p f ds = some x := ⟨d, n, H⟩;simp only [run, dif_pos h];obtain ⟨m, hm⟩ := h.choose_spec;have h1 := (zR (C := C) (z33q n m)).p _ _ _ H;have h2 := (zR (C := C) (z34q m n)).p _ _ _ hm;rw [h1] at h2;exact h2.symm
 ·intro f rs sg q H
  have h : ∃ x n, (Kq C n).r f rs sg = some x := ⟨q, n, H⟩;simp only [run, dif_pos h];obtain ⟨m, hm⟩ := h.choose_spec;have h1 := (zR (C := C) (z33q n m)).r _ _ _ _ H;have h2 := (zR (C := C) (z34q m n)).r _ _ _ _ hm;rw [h1] at h2;exact h2.symm
theorem A1V : MG (Bp C (run C)) (run C) := by
 constructor
 ·intro f ds d H
  obtain ⟨n, hn⟩ := (o_ zW).1 f ds d H;exact (zU (n + 1)).p _ _ _ (hn n (z12q _))
 ·intro f rs sg q H
  obtain ⟨n, hn⟩ := (o_ zW).2 f rs sg q H;exact (zU (n + 1)).r _ _ _ _ (hn n (z12q _))
end
end Go.Su

/-
 THE DATA MACHINE, part 31: places in a code; what a loop's head says of itself.
-/
namespace Go.Su
noncomputable section
section
variable {X : Type} (C : X5) (R : N7) (fl : Flags)
def Cz (b : Code) (K : Out → St → Option X) : (St → Option X) → St → Option X := fun J st => R9 C R fl b (fun o st => match o with
 | .normal => J (clean fl b st)
 | .exit i => K (.exit i) st
 | .ret => K .ret st) st
theorem B2i (b : Code) (K : Out → St → Option X) (st : St) : R9 C R fl (.loop b) K st = GZ (Cz C R fl b K) (clean fl b st) := rfl
theorem A4Z {b : Code} {K : Out → St → Option X} {J : St → Option X} {Js : Nat → St → Option X} {st : St} {x : X}
 (hJ : ∀ st x, J st = some x → DI fun m => Js m st = some x) (H : Cz C R fl b K J st = some x) : DI fun m => Cz C R fl b K (Js m) st = some x := by
 refine PR b (Rs := fun _ => R) ⟨fun _ => MG.refl _, fun _ _ _ h => ⟨0, h⟩, fun _ _ _ _ h => ⟨0, h⟩⟩ ?_ H
 intro o st x h;cases o with
 | normal => exact hJ _ _ h
 | exit i => exact DI.all fun _ => h
 | ret => exact DI.all fun _ => h
theorem A3h {b : Code} {K : Out → St → Option X} {J J' : St → Option X} {st : St} {x : X}
 (hJ : ∀ st x, J st = some x → J' st = some x) (H : Cz C R fl b K J st = some x) : Cz C R fl b K J' st = some x := by
 obtain ⟨n, hn⟩ := A4Z C R fl (J := J) (Js := fun _ => J') (fun st x h => DI.all fun _ => hJ st x h) H
 exact hn n (z12q _)
theorem A37 {b : Code} {K : Out → St → Option X} : ∀ {n m : Nat} {st : St} {x : X}, n ≤ m → iter (Cz C R fl b K) n st = some x → iter (Cz C R fl b K) m st = some x := by
 intro n
 induction n with
 | zero => intro m st x _ h; simp [iter] at h
 | succ n ih =>
   intro m st x hm h;obtain ⟨m', rfl⟩ : ∃ m', m = m' + 1 := ⟨m - 1, by omega⟩
   simp only [iter] at h ⊢;exact A3h C R fl (fun st x h => ih (by omega) h) h
theorem tQ {b : Code} {K : Out → St → Option X} {n : Nat} {st : St} {x : X} (h : iter (Cz C R fl b K) n st = some x) : GZ (Cz C R fl b K) st = some x := by
 have he : ∃ x n, iter (Cz C R fl b K) n st = some x := ⟨x, n, h⟩;unfold GZ;rw [dif_pos he];obtain ⟨j, hj⟩ := he.choose_spec;have h1 := A37 C R fl (z33q j n) hj;have h2 := A37 C R fl (z34q n j) h;rw [h1] at h2;exact h2
theorem B2N (b : Code) (K : Out → St → Option X) (st : St) : GZ (Cz C R fl b K) st = Cz C R fl b K (GZ (Cz C R fl b K)) st := by
 have h1 : ∀ x, GZ (Cz C R fl b K) st = some x → Cz C R fl b K (GZ (Cz C R fl b K)) st = some x := by
  intro x h;obtain ⟨n, hn⟩ := Zq h;cases n with
  | zero => simp [iter] at hn
  | succ n => exact A3h C R fl (fun st x h => tQ C R fl h) hn
 have h2 : ∀ x, Cz C R fl b K (GZ (Cz C R fl b K)) st = some x → GZ (Cz C R fl b K) st = some x := by
  intro x h;obtain ⟨n, hn⟩ := A4Z C R fl (J := GZ (Cz C R fl b K)) (Js := iter (Cz C R fl b K)) (fun st x h => by
   obtain ⟨n, hn⟩ := Zq h;exact ⟨n, fun m hm => A37 C R fl hm hn⟩) h
  exact tQ C R fl (n := n + 1) (hn n (z12q _))
 cases h : GZ (Cz C R fl b K) st with
 | some x => exact (h1 x h).symm
 | none =>
   cases h' : Cz C R fl b K (GZ (Cz C R fl b K)) st with
   | none => rfl
   | some x => rw [h2 x h'] at h; exact h.symm
inductive Wait where
 | seq (b : Code)
 | blk (id : Nat)
 | lp (b : Code)
variable (K0 : Out → St → Option X)
def Y6 : List Wait → Out → St → Option X
 | [] => K0
 | .seq b :: ks => fun o st => match o with
   | .normal => R9 C R fl b (Y6 ks) (clean fl b st)
   | .exit i => Y6 ks (.exit i) st
   | .ret => Y6 ks .ret st
 | .blk id :: ks => fun o st => match o with
   | .normal => Y6 ks .normal st
   | .exit i => if i = id then Y6 ks .normal st else Y6 ks (.exit i) st
   | .ret => Y6 ks .ret st
 | .lp b :: ks => fun o st => match o with
   | .normal => GZ (Cz C R fl b (Y6 ks)) (clean fl b st)
   | .exit i => Y6 ks (.exit i) st
   | .ret => Y6 ks .ret st
def Pm (c : Code) (ks : List Wait) (st : St) : Option X := R9 C R fl c (Y6 C R fl K0 ks) st
def NT (b : Code) (ks : List Wait) (st : St) : Option X := GZ (Cz C R fl b (Y6 C R fl K0 ks)) st
section
variable (J JL : Code → List Wait → St → Option X) (cut : List Nat)
def GG (go : Code → List Wait → St → Option X) : List Wait → Out → St → Option X
 | [], o, st => K0 o st
 | .seq b :: ks, o, st => match o with
   | .normal => go b ks st
   | .exit i => GG go ks (.exit i) st
   | .ret => GG go ks .ret st
 | .blk id :: ks, o, st => match o with
   | .normal => GG go ks .normal st
   | .exit i => if i = id then GG go ks .normal st else GG go ks (.exit i) st
   | .ret => GG go ks .ret st
 | .lp b :: ks, o, st => match o with
   | .normal => JL b ks (clean fl b st)
   | .exit i => GG go ks (.exit i) st
   | .ret => GG go ks .ret st
def cutAt (b : Code) : Bool :=
 match xf b with
 | some id => cut.contains id
 | none => false
def LB (ev : Code → List Wait → St → Option X) (b : Code) (ks : List Wait) (st : St) : Option X :=
 match cutAt cut b with
 | true => J b ks (clean fl b st)
 | false => ev b ks (clean fl b st)
def MP : Nat → Code → List Wait → St → Option X
 | 0, c, ks, st => J c ks st
 | n + 1, c, ks, st =>
   match c with
   | .skip => GG fl K0 JL (LB fl J cut (MP n)) ks .normal st
   | .region id ops false => CE C R fl ops.toList ops.toList (FQ fl id st) fun st => Fs fl id st fun st => GG fl K0 JL (LB fl J cut (MP n)) ks .normal st
   | .region id ops true => og (Sl 0 ops.toList) (dH (KL ops.toList []) fun bf => Cc C R fl ops.toList bf ops.toList 0 [] (FQ fl id st) fun st => Fs fl id st fun st => GG fl K0 JL (LB fl J cut (MP n)) ks .normal st)
   | .seq a b => MP n a (.seq b :: ks) st
   | .cond c a b => Xp C.P c st (fun st => LB fl J cut (MP n) a ks st) (fun st => LB fl J cut (MP n) b ks st)
   | .block id b => MP n b (.blk id :: ks) st
   | .loop b => JL b ks (clean fl b st)
   | .rangeFunc g ps a b => J (.rangeFunc g ps a b) ks st
   | .exit id => GG fl K0 JL (LB fl J cut (MP n)) ks (.exit id) st
   | .ret => GG fl K0 JL (LB fl J cut (MP n)) ks .ret st
   | _ => none
end
theorem PZ {go : Code → List Wait → St → Option X} (h : ∀ b ks st, go b ks st = R9 C R fl b (Y6 C R fl K0 ks) (clean fl b st)) : ∀ (ks : List Wait) (o : Out) (st : St),
 GG fl K0 (NT C R fl K0) go ks o st = Y6 C R fl K0 ks o st
 | [], o, st => rfl
 | .seq b :: ks, o, st => by
   cases o with
   | normal => simp only [GG, Y6, h]
   | exit i => simp only [GG, Y6, PZ h ks]
   | ret => simp only [GG, Y6, PZ h ks]
 | .blk id :: ks, o, st => by
   cases o with
   | normal => simp only [GG, Y6, PZ h ks]
   | exit i => simp only [GG, Y6, PZ h ks]
   | ret => simp only [GG, Y6, PZ h ks]
 | .lp b :: ks, o, st => by
   cases o with
   | normal => simp only [GG, Y6, NT]
   | exit i => simp only [GG, Y6, PZ h ks]
   | ret => simp only [GG, Y6, PZ h ks]
theorem A6l (cut : List Nat) : ∀ (n : Nat) (c : Code) (ks : List Wait) (st : St), MP C R fl K0 (Pm C R fl K0) (NT C R fl K0) cut n c ks st = Pm C R fl K0 c ks st := by
 intro n
 induction n with
 | zero => intro c ks st; rfl
 | succ n ih =>
   intro c ks st;have hs : ∀ b ks st, LB fl (Pm C R fl K0) cut (MP C R fl K0 (Pm C R fl K0) (NT C R fl K0) cut n) b ks st = R9 C R fl b (Y6 C R fl K0 ks) (clean fl b st) := by
    intro b ks st;unfold LB
    split
    ·rfl
    ·rw [ih]; rfl
   have hp : ∀ ks o st, GG fl K0 (NT C R fl K0) (LB fl (Pm C R fl K0) cut (MP C R fl K0 (Pm C R fl K0) (NT C R fl K0) cut n)) ks o st = Y6 C R fl K0 ks o st :=
    fun ks o st => PZ C R fl K0 hs ks o st
   cases c with
   | skip => simp only [MP, Pm, R9, hp]
   | region id ops d => cases d <;> simp only [MP, Pm, R9, hp]
   | seq a b => rw [MP, ih]; rfl
   | cond y a b => simp only [MP, Pm, R9, hs]
   | block id b => rw [MP, ih]; rfl
   | loop b => simp only [MP, Pm, B2i, NT]
   | exit id => simp only [MP, Pm, R9, hp]
   | ret => simp only [MP, Pm, R9, hp]
   | _ => simp only [MP, Pm, R9]
def sub : List Bool → Code → List Wait → Code × List Wait
 | [], c, ks => (c, ks)
 | false :: p, .seq a b, ks => sub p a (.seq b :: ks)
 | true :: p, .seq _ b, ks => sub p b ks
 | false :: p, .cond _ a _, ks => sub p a ks
 | true :: p, .cond _ _ b, ks => sub p b ks
 | _ :: p, .block id b, ks => sub p b (.blk id :: ks)
 | _ :: p, .loop b, ks => sub p b (.lp b :: ks)
 | _ :: _, c, ks => (c, ks)
def A9N : Code → Code
 | .loop b => b
 | c => c
def hide {α : Type} (a : α) : α := Classical.choose (⟨a, rfl⟩ : ∃ b, b = a)
theorem Ki {α : Type} (a : α) : hide a = a := Classical.choose_spec (⟨a, rfl⟩ : ∃ b, b = a)
def Iy (p : List Bool) (c : Code) (st : St) : Option X := hide (Pm C R fl K0) (sub p c []).1 (sub p c []).2 st
def Zk (p : List Bool) (c : Code) (st : St) : Option X := hide (NT C R fl K0) (A9N (sub p c []).1) (sub p c []).2 st
variable {C R fl K0}
theorem D9 {p : List Bool} {c : Code} {st : St} {r : Option X} (cut : List Nat)
 (h : MP C R fl K0 (hide (Pm C R fl K0)) (hide (NT C R fl K0)) cut 200 (sub p c []).1 (sub p c []).2 st = r := by kernel_rfl) : Iy C R fl K0 p c st = r := by
 rw [Ki, Ki, A6l] at h;unfold Iy;rw [Ki];exact h
theorem H5 {p : List Bool} {c : Code} {st : St} {r : Option X} (cut : List Nat)
 (h : MP C R fl K0 (hide (Pm C R fl K0)) (hide (NT C R fl K0)) cut 200 (A9N (sub p c []).1) (.lp (A9N (sub p c []).1) :: (sub p c []).2) st = r := by kernel_rfl) : Zk C R fl K0 p c st = r := by
 rw [Ki, Ki, A6l] at h;rw [← h];unfold Zk;rw [Ki];unfold NT Pm;rw [B2N];rfl
theorem lG {c : Code} {st : St} : Iy C R fl K0 [] c st = R9 C R fl c K0 st := by
 unfold Iy;rw [Ki];rfl
end
section
variable {X : Type} (C : X5) (R : N7) (fl : Flags) (K0 : Out → St → Option X)
def oO (p : List Bool) (c : Code) (o : Out) (st : St) : Option X := hide (Y6 C R fl K0) (sub p c []).2 o st
def kr (I : List D7 → Option X) (Xf : Out → List D7 → Option X) : Out → St → Option X := fun o st => match o with
 | .normal => I st.sg
 | .exit e => Xf (.exit e) st.sg
 | .ret => Xf .ret st.sg
variable {C R fl K0}
theorem B1I (cut : List Nat) (n : Nat) (b : Code) (ks : List Wait) (st : St) : LB fl (Pm C R fl K0) cut (MP C R fl K0 (Pm C R fl K0) (NT C R fl K0) cut n) b ks st = R9 C R fl b (Y6 C R fl K0 ks) (clean fl b st) := by
 unfold LB
 split
 ·rfl
 ·rw [A6l]; rfl
theorem zN {p : List Bool} {c : Code} {o : Out} {st : St} {r : Option X} (cut : List Nat)
 (h : GG fl K0 (hide (NT C R fl K0)) (LB fl (hide (Pm C R fl K0)) cut (MP C R fl K0 (hide (Pm C R fl K0)) (hide (NT C R fl K0)) cut 200)) (sub p c []).2 o st = r) : oO C R fl K0 p c o st = r := by
 rw [Ki, Ki, PZ C R fl K0 (B1I cut 200)] at h;unfold oO;rw [Ki];exact h
theorem B6c {p : List Bool} {c : Code} {st : St} {t f i q : Nat} {ps : Array Nat} {a b : Code} {ks : List Wait} {it : List DV → Option (List DV)} (hs : sub p c [] = (.rangeFunc (.tmp t) ps a b, ks)) (hm : (st.get t).2 = .fn f [(i, 0)])
 (hp : ps.toList = [q]) (hi : C.iter f = some it) (ha : oL a = true) (hb : P8 b = true) :
 Iy C R fl K0 p c st = ob (M7 st.sg i) fun cs => ob (Ik cs) fun cd => ob (it cd) fun ds =>
  Ke (fun d I sg => Iy C R fl (kr I fun o sg => oO C R fl K0 p c o (j4 st sg)) [] (.seq a b) (clean fl a (Wq st q d sg))) (fun sg => oO C R fl K0 p c .normal (j4 st sg)) ds (st.sg.set i (.arr 1 [])) := by
 unfold Iy oO;simp only [Ki];rw [hs];simp only [Pm, R9, zF, hp, hm, hi, ha, hb, ob, Bool.and_self, og];have Q7 : ∀ (d : DV) (I : List D7 → Option X) (sg : List D7), R9 C R fl a (fun o st1 => match o with
       | .normal => R9 C R fl b (fun o st2 => match o with
         | .normal => I st2.sg
         | .exit e => Y6 C R fl K0 ks (.exit e) (j4 st st2.sg)
         | .ret => Y6 C R fl K0 ks .ret (j4 st st2.sg)) (clean fl b st1)
       | .exit _ => none
       | .ret => none) (clean fl a (Wq st q d sg)) =
  R9 C R fl a (fun o st' => match o with
   | .normal => R9 C R fl b (Y6 C R fl (kr I fun o sg => Y6 C R fl K0 ks o (j4 st sg)) []) (clean fl b st')
   | .exit i => Y6 C R fl (kr I fun o sg => Y6 C R fl K0 ks o (j4 st sg)) [] (.exit i) st'
   | .ret => Y6 C R fl (kr I fun o sg => Y6 C R fl K0 ks o (j4 st sg)) [] .ret st') (clean fl a (Wq st q d sg)) := by
  intro d I sg;cases a with
  | region id ops dr =>
    cases dr with
    | false =>
      simp only [R9]
      congr 1
    | true => simp [oL] at ha
  | skip =>
    simp only [R9]
    congr 1
  | _ => simp [oL] at ha
 congr 1
 funext cs
 congr 1
 funext cd
 congr 1
 funext ds
 congr 1
 funext d I sg
 exact Q7 d I sg
def rgT : Code → Option (Nat × Nat)
 | .rangeFunc (.tmp t) ps _ _ => match ps.toList with
   | [q] => some (t, q)
   | _ => none
 | _ => none
def rgA : Code → Code
 | .rangeFunc _ _ a _ => a
 | _ => .skip
def rgB : Code → Code
 | .rangeFunc _ _ _ b => b
 | _ => .skip
theorem A8W {p : List Bool} {c : Code} {st : St} {t f i q : Nat} {it : List DV → Option (List DV)} (hs : rgT (sub p c []).1 = some (t, q)) (hm : (st.get t).2 = .fn f [(i, 0)])
 (hi : C.iter f = some it) (mH : (oL (rgA (sub p c []).1) && P8 (rgB (sub p c []).1)) = true) :
 Iy C R fl K0 p c st = ob (M7 st.sg i) fun cs => ob (Ik cs) fun cd => ob (it cd) fun ds =>
  Ke (fun d I sg => Iy C R fl (kr I fun o sg => oO C R fl K0 p c o (j4 st sg)) [] (.seq (rgA (sub p c []).1) (rgB (sub p c []).1)) (clean fl (rgA (sub p c []).1) (Wq st q d sg))) (fun sg => oO C R fl K0 p c .normal (j4 st sg)) ds (st.sg.set i (.arr 1 [])) := by
 simp only [z3q] at mH;generalize hc : (sub p c []).1 = c1 at hs mH;cases c1 with
 | rangeFunc g ps a b =>
   cases g with
   | tmp t' =>
     simp only [rgT] at hs
     split at hs
     ·rename_i q' hq
      simp only [Option.some.injEq, Prod.mk.injEq] at hs;obtain ⟨rfl, rfl⟩ := hs;simp only [rgA, rgB] at mH ⊢;exact B6c (ks := (sub p c []).2) (by rw [← hc]) hm hq hi mH.1 mH.2
     ·cases hs
   | _ => simp [rgT] at hs
 | _ => simp [rgT] at hs
end
def oneCell (sg : List D7) (cs : List (DV × Meta)) : Option DV :=
 if 1 = cs.length then match cs with
  | [c] => AF sg c
  | _ => none
 else none
def A68 (x : Option DV) : Option DV := ob (ob x fun d => ob (some []) fun ds => some (d :: ds)) fun ds => some (pack ds)
def B22 : List (Option DV) → Option (List DV)
 | [] => some []
 | x :: xs => ob x fun d => ob (B22 xs) fun ds => some (d :: ds)
def B8i (xs : List (Option DV)) : Option DV := ob (B22 xs) fun ds => some (pack ds)
end
end Go.Su

/-
 PLAIN DATA with types: the program's types, patterns, expressions, terms; how they lie as data. By program.
-/
namespace Go.Su
theorem Ap {l : List Nat} {a : Nat} (h : a ∈ l) : a ≤ l.sum := by
 induction l with
 | nil => simp at h
 | cons x l ih =>
   rw [z23q];rcases z41q.1 h with rfl | h
   ·omega
   ·have := ih h; omega
def F4 (l : List Int) : DV := .list 1 (l.map fun n => .int .i64 n)
def CP (l : List ByteArray) : DV := .list 1 (l.map fun s => .str s)
inductive Ty where
 | mk (kind : Int) (n : Int) (kids : List Ty)
def Ty.kind : Ty → Int | .mk x0 _ _ => x0
def Ty.n : Ty → Int | .mk _ x1 _ => x1
def Ty.kids : Ty → List Ty | .mk _ _ x2 => x2
@[simp] theorem Ty.Km (x0 : Int) (x1 : Int) (x2 : List Ty) : (Ty.mk x0 x1 x2).kind = x0 := rfl
@[simp] theorem Ty.jd (x0 : Int) (x1 : Int) (x2 : List Ty) : (Ty.mk x0 x1 x2).n = x1 := rfl
@[simp] theorem Ty.CS (x0 : Int) (x1 : Int) (x2 : List Ty) : (Ty.mk x0 x1 x2).kids = x2 := rfl
def Ty.enc : Ty → DV
 | .mk x0 x1 x2 => .agg [.int .i64 x0, .int .i64 x1, .list 3 (x2.map Ty.enc)]
theorem Ty.F9 (t : Ty) : t.enc = .agg [.int .i64 t.kind, .int .i64 t.n, .list 3 (t.kids.map Ty.enc)] := by cases t; rw [Ty.enc]; rfl
noncomputable instance : DecidableEq Ty := fun a b => Classical.propDecidable (a = b)
@[simp] theorem JA (t : Ty) : C9 3 t.enc = true := by rw [Ty.F9]; rfl
@[simp] theorem Ty.Y3 (t : Ty) : A7 0 t.enc = .int .i64 t.kind := by rw [Ty.F9]; rfl
@[simp] theorem Ty.Ar (t : Ty) : A7 1 t.enc = .int .i64 t.n := by rw [Ty.F9]; rfl
@[simp] theorem Ty.AV (t : Ty) : A7 2 t.enc = .list 3 (t.kids.map Ty.enc) := by rw [Ty.F9]; rfl
theorem Ty.D8 (t : Ty) : DV.agg [.int .i64 t.kind, .int .i64 t.n, .list 3 (t.kids.map Ty.enc)] = t.enc := (Ty.F9 t).symm
theorem Ty.Cu {t u : Ty} : t = u ↔ t.kind = u.kind ∧ t.n = u.n ∧ t.kids = u.kids := ⟨fun h => by subst h; simp, fun h => by cases t; cases u; simp_all⟩
theorem Ty.CK {t k : Ty} (h : k ∈ t.kids) : SizeOf.sizeOf k < SizeOf.sizeOf t := by
 cases t;simp only [Ty.CS] at h;have := z25q h;simp only [Ty.mk.sizeOf_spec];omega
theorem Ty.ind {P : Ty → Prop} (h : ∀ t, (∀ k ∈ t.kids, P k) → P t) (t : Ty) : P t :=
 h t fun k hk => Ty.ind h k
termination_by SizeOf.sizeOf t
decreasing_by exact Ty.CK hk
def Ty.size (t : Ty) : Nat := 1 + (t.kids.attach.map fun k => Ty.size k.1).sum
termination_by SizeOf.sizeOf t
decreasing_by exact Ty.CK k.2
theorem Ty.size_eq (t : Ty) : t.size = 1 + (t.kids.map Ty.size).sum := by
 rw [Ty.size]
 congr 2
 exact z24q (f := Ty.size) ..
theorem Ty.eF {t k : Ty} (h : k ∈ t.kids) : k.size < t.size := by
 rw [Ty.size_eq t];have := Ap (z30q (f := Ty.size) h);omega
theorem Ty.OZ (t : Ty) : 0 < t.size := by rw [Ty.size_eq]; omega
theorem Ty.x_ (t : Ty) : t.kids.length < t.size := by
 rw [Ty.size_eq];have : ∀ l : List Ty, l.length ≤ (l.map Ty.size).sum := by
  intro l
  induction l with
  | nil => simp
  | cons x l ih => have := Ty.OZ x; simp only [z10q, z21q, z23q]; omega
 have := this t.kids;omega
inductive D5 where
 | mk (kind : Int) (lo : Int) (hi : Int) (name : ByteArray) (n : Int) (s : ByteArray) (kids : List D5)
def D5.kind : D5 → Int | .mk x0 _ _ _ _ _ _ => x0
def D5.lo : D5 → Int | .mk _ x1 _ _ _ _ _ => x1
def D5.hi : D5 → Int | .mk _ _ x2 _ _ _ _ => x2
def D5.name : D5 → ByteArray | .mk _ _ _ x3 _ _ _ => x3
def D5.n : D5 → Int | .mk _ _ _ _ x4 _ _ => x4
def D5.s : D5 → ByteArray | .mk _ _ _ _ _ x5 _ => x5
def D5.kids : D5 → List D5 | .mk _ _ _ _ _ _ x6 => x6
@[simp] theorem D5.Km (x0 : Int) (x1 : Int) (x2 : Int) (x3 : ByteArray) (x4 : Int) (x5 : ByteArray) (x6 : List D5) : (D5.mk x0 x1 x2 x3 x4 x5 x6).kind = x0 := rfl
@[simp] theorem D5.zO (x0 : Int) (x1 : Int) (x2 : Int) (x3 : ByteArray) (x4 : Int) (x5 : ByteArray) (x6 : List D5) : (D5.mk x0 x1 x2 x3 x4 x5 x6).lo = x1 := rfl
@[simp] theorem D5.zK (x0 : Int) (x1 : Int) (x2 : Int) (x3 : ByteArray) (x4 : Int) (x5 : ByteArray) (x6 : List D5) : (D5.mk x0 x1 x2 x3 x4 x5 x6).hi = x2 := rfl
@[simp] theorem D5.Wl (x0 : Int) (x1 : Int) (x2 : Int) (x3 : ByteArray) (x4 : Int) (x5 : ByteArray) (x6 : List D5) : (D5.mk x0 x1 x2 x3 x4 x5 x6).name = x3 := rfl
@[simp] theorem D5.jd (x0 : Int) (x1 : Int) (x2 : Int) (x3 : ByteArray) (x4 : Int) (x5 : ByteArray) (x6 : List D5) : (D5.mk x0 x1 x2 x3 x4 x5 x6).n = x4 := rfl
@[simp] theorem D5.A1W (x0 : Int) (x1 : Int) (x2 : Int) (x3 : ByteArray) (x4 : Int) (x5 : ByteArray) (x6 : List D5) : (D5.mk x0 x1 x2 x3 x4 x5 x6).s = x5 := rfl
@[simp] theorem D5.CS (x0 : Int) (x1 : Int) (x2 : Int) (x3 : ByteArray) (x4 : Int) (x5 : ByteArray) (x6 : List D5) : (D5.mk x0 x1 x2 x3 x4 x5 x6).kids = x6 := rfl
def D5.enc : D5 → DV
 | .mk x0 x1 x2 x3 x4 x5 x6 => .agg [.int .i64 x0, .int .i64 x1, .int .i64 x2, .str x3, .int .i64 x4, .str x5, .list 7 (x6.map D5.enc)]
theorem D5.F9 (t : D5) : t.enc = .agg [.int .i64 t.kind, .int .i64 t.lo, .int .i64 t.hi, .str t.name, .int .i64 t.n, .str t.s, .list 7 (t.kids.map D5.enc)] := by cases t; rw [D5.enc]; rfl
noncomputable instance : DecidableEq D5 := fun a b => Classical.propDecidable (a = b)
@[simp] theorem I_ (t : D5) : C9 7 t.enc = true := by rw [D5.F9]; rfl
@[simp] theorem D5.Y3 (t : D5) : A7 0 t.enc = .int .i64 t.kind := by rw [D5.F9]; rfl
@[simp] theorem D5.Ar (t : D5) : A7 1 t.enc = .int .i64 t.lo := by rw [D5.F9]; rfl
@[simp] theorem D5.AV (t : D5) : A7 2 t.enc = .int .i64 t.hi := by rw [D5.F9]; rfl
@[simp] theorem D5.Bj (t : D5) : A7 3 t.enc = .str t.name := by rw [D5.F9]; rfl
@[simp] theorem D5.Zu (t : D5) : A7 4 t.enc = .int .i64 t.n := by rw [D5.F9]; rfl
@[simp] theorem D5.iK (t : D5) : A7 5 t.enc = .str t.s := by rw [D5.F9]; rfl
@[simp] theorem D5.Zv (t : D5) : A7 6 t.enc = .list 7 (t.kids.map D5.enc) := by rw [D5.F9]; rfl
theorem D5.D8 (t : D5) : DV.agg [.int .i64 t.kind, .int .i64 t.lo, .int .i64 t.hi, .str t.name, .int .i64 t.n, .str t.s, .list 7 (t.kids.map D5.enc)] = t.enc := (D5.F9 t).symm
theorem D5.Cu {t u : D5} : t = u ↔ t.kind = u.kind ∧ t.lo = u.lo ∧ t.hi = u.hi ∧ t.name = u.name ∧ t.n = u.n ∧ t.s = u.s ∧ t.kids = u.kids := ⟨fun h => by subst h; simp, fun h => by cases t; cases u; simp_all⟩
theorem D5.CK {t k : D5} (h : k ∈ t.kids) : SizeOf.sizeOf k < SizeOf.sizeOf t := by
 cases t;simp only [D5.CS] at h;have := z25q h;simp only [D5.mk.sizeOf_spec];omega
theorem D5.ind {P : D5 → Prop} (h : ∀ t, (∀ k ∈ t.kids, P k) → P t) (t : D5) : P t :=
 h t fun k hk => D5.ind h k
termination_by SizeOf.sizeOf t
decreasing_by exact D5.CK hk
def D5.size (t : D5) : Nat := 1 + (t.kids.attach.map fun k => D5.size k.1).sum
termination_by SizeOf.sizeOf t
decreasing_by exact D5.CK k.2
theorem D5.size_eq (t : D5) : t.size = 1 + (t.kids.map D5.size).sum := by
 rw [D5.size]
 congr 2
 exact z24q (f := D5.size) ..
theorem D5.eF {t k : D5} (h : k ∈ t.kids) : k.size < t.size := by
 rw [D5.size_eq t];have := Ap (z30q (f := D5.size) h);omega
theorem D5.OZ (t : D5) : 0 < t.size := by rw [D5.size_eq]; omega
theorem D5.x_ (t : D5) : t.kids.length < t.size := by
 rw [D5.size_eq];have : ∀ l : List D5, l.length ≤ (l.map D5.size).sum := by
  intro l
  induction l with
  | nil => simp
  | cons x l ih => have := D5.OZ x; simp only [z10q, z21q, z23q]; omega
 have := this t.kids;omega
def D5.J4 (t : D5) : Nat := 1 + t.name.size + t.s.size + (t.kids.attach.map fun k => D5.J4 k.1).sum
termination_by SizeOf.sizeOf t
decreasing_by exact D5.CK k.2
theorem D5.U9 (t : D5) : t.J4 = 1 + t.name.size + t.s.size + (t.kids.map D5.J4).sum := by
 rw [D5.J4]
 congr 2
 exact z24q (f := D5.J4) ..
theorem D5.EK (t : D5) : 0 < t.J4 := by rw [D5.U9]; omega
theorem D5.O5 {t k : D5} (h : k ∈ t.kids) : k.J4 < t.J4 := by
 rw [D5.U9 t];have := Ap (z30q (f := D5.J4) h);omega
theorem D5.yD (t : D5) : t.name.size < t.J4 := by rw [D5.U9]; omega
theorem D5.A6P (t : D5) : t.s.size < t.J4 := by rw [D5.U9]; omega
inductive Ex where
 | mk (kind : Int) (lo : Int) (hi : Int) (name : ByteArray) (arg : ByteArray) (n : Int) (s : ByteArray) (op : Int) (a : Ty) (b : Ty) (F6 : List D5) (kids : List Ex)
def Ex.kind : Ex → Int | .mk x0 _ _ _ _ _ _ _ _ _ _ _ => x0
def Ex.lo : Ex → Int | .mk _ x1 _ _ _ _ _ _ _ _ _ _ => x1
def Ex.hi : Ex → Int | .mk _ _ x2 _ _ _ _ _ _ _ _ _ => x2
def Ex.name : Ex → ByteArray | .mk _ _ _ x3 _ _ _ _ _ _ _ _ => x3
def Ex.arg : Ex → ByteArray | .mk _ _ _ _ x4 _ _ _ _ _ _ _ => x4
def Ex.n : Ex → Int | .mk _ _ _ _ _ x5 _ _ _ _ _ _ => x5
def Ex.s : Ex → ByteArray | .mk _ _ _ _ _ _ x6 _ _ _ _ _ => x6
def Ex.op : Ex → Int | .mk _ _ _ _ _ _ _ x7 _ _ _ _ => x7
def Ex.a : Ex → Ty | .mk _ _ _ _ _ _ _ _ x8 _ _ _ => x8
def Ex.b : Ex → Ty | .mk _ _ _ _ _ _ _ _ _ x9 _ _ => x9
def Ex.F6 : Ex → List D5 | .mk _ _ _ _ _ _ _ _ _ _ x10 _ => x10
def Ex.kids : Ex → List Ex | .mk _ _ _ _ _ _ _ _ _ _ _ x11 => x11
@[simp] theorem Ex.Km (x0 : Int) (x1 : Int) (x2 : Int) (x3 : ByteArray) (x4 : ByteArray) (x5 : Int) (x6 : ByteArray) (x7 : Int) (x8 : Ty) (x9 : Ty) (x10 : List D5) (x11 : List Ex) : (Ex.mk x0 x1 x2 x3 x4 x5 x6 x7 x8 x9 x10 x11).kind = x0 := rfl
@[simp] theorem Ex.zO (x0 : Int) (x1 : Int) (x2 : Int) (x3 : ByteArray) (x4 : ByteArray) (x5 : Int) (x6 : ByteArray) (x7 : Int) (x8 : Ty) (x9 : Ty) (x10 : List D5) (x11 : List Ex) : (Ex.mk x0 x1 x2 x3 x4 x5 x6 x7 x8 x9 x10 x11).lo = x1 := rfl
@[simp] theorem Ex.zK (x0 : Int) (x1 : Int) (x2 : Int) (x3 : ByteArray) (x4 : ByteArray) (x5 : Int) (x6 : ByteArray) (x7 : Int) (x8 : Ty) (x9 : Ty) (x10 : List D5) (x11 : List Ex) : (Ex.mk x0 x1 x2 x3 x4 x5 x6 x7 x8 x9 x10 x11).hi = x2 := rfl
@[simp] theorem Ex.Wl (x0 : Int) (x1 : Int) (x2 : Int) (x3 : ByteArray) (x4 : ByteArray) (x5 : Int) (x6 : ByteArray) (x7 : Int) (x8 : Ty) (x9 : Ty) (x10 : List D5) (x11 : List Ex) : (Ex.mk x0 x1 x2 x3 x4 x5 x6 x7 x8 x9 x10 x11).name = x3 := rfl
@[simp] theorem Ex.A2B (x0 : Int) (x1 : Int) (x2 : Int) (x3 : ByteArray) (x4 : ByteArray) (x5 : Int) (x6 : ByteArray) (x7 : Int) (x8 : Ty) (x9 : Ty) (x10 : List D5) (x11 : List Ex) : (Ex.mk x0 x1 x2 x3 x4 x5 x6 x7 x8 x9 x10 x11).arg = x4 := rfl
@[simp] theorem Ex.jd (x0 : Int) (x1 : Int) (x2 : Int) (x3 : ByteArray) (x4 : ByteArray) (x5 : Int) (x6 : ByteArray) (x7 : Int) (x8 : Ty) (x9 : Ty) (x10 : List D5) (x11 : List Ex) : (Ex.mk x0 x1 x2 x3 x4 x5 x6 x7 x8 x9 x10 x11).n = x5 := rfl
@[simp] theorem Ex.A1W (x0 : Int) (x1 : Int) (x2 : Int) (x3 : ByteArray) (x4 : ByteArray) (x5 : Int) (x6 : ByteArray) (x7 : Int) (x8 : Ty) (x9 : Ty) (x10 : List D5) (x11 : List Ex) : (Ex.mk x0 x1 x2 x3 x4 x5 x6 x7 x8 x9 x10 x11).s = x6 := rfl
@[simp] theorem Ex.A5X (x0 : Int) (x1 : Int) (x2 : Int) (x3 : ByteArray) (x4 : ByteArray) (x5 : Int) (x6 : ByteArray) (x7 : Int) (x8 : Ty) (x9 : Ty) (x10 : List D5) (x11 : List Ex) : (Ex.mk x0 x1 x2 x3 x4 x5 x6 x7 x8 x9 x10 x11).op = x7 := rfl
@[simp] theorem Ex.A9a (x0 : Int) (x1 : Int) (x2 : Int) (x3 : ByteArray) (x4 : ByteArray) (x5 : Int) (x6 : ByteArray) (x7 : Int) (x8 : Ty) (x9 : Ty) (x10 : List D5) (x11 : List Ex) : (Ex.mk x0 x1 x2 x3 x4 x5 x6 x7 x8 x9 x10 x11).a = x8 := rfl
@[simp] theorem Ex.A9d (x0 : Int) (x1 : Int) (x2 : Int) (x3 : ByteArray) (x4 : ByteArray) (x5 : Int) (x6 : ByteArray) (x7 : Int) (x8 : Ty) (x9 : Ty) (x10 : List D5) (x11 : List Ex) : (Ex.mk x0 x1 x2 x3 x4 x5 x6 x7 x8 x9 x10 x11).b = x9 := rfl
@[simp] theorem Ex.zV (x0 : Int) (x1 : Int) (x2 : Int) (x3 : ByteArray) (x4 : ByteArray) (x5 : Int) (x6 : ByteArray) (x7 : Int) (x8 : Ty) (x9 : Ty) (x10 : List D5) (x11 : List Ex) : (Ex.mk x0 x1 x2 x3 x4 x5 x6 x7 x8 x9 x10 x11).F6 = x10 := rfl
@[simp] theorem Ex.CS (x0 : Int) (x1 : Int) (x2 : Int) (x3 : ByteArray) (x4 : ByteArray) (x5 : Int) (x6 : ByteArray) (x7 : Int) (x8 : Ty) (x9 : Ty) (x10 : List D5) (x11 : List Ex) : (Ex.mk x0 x1 x2 x3 x4 x5 x6 x7 x8 x9 x10 x11).kids = x11 := rfl
def Ex.enc : Ex → DV
 | .mk x0 x1 x2 x3 x4 x5 x6 x7 x8 x9 x10 x11 => .agg [.int .i64 x0, .int .i64 x1, .int .i64 x2, .str x3, .str x4, .int .i64 x5, .str x6, .int .i64 x7, .int .i64 x8.kind, .int .i64 x8.n, .list 3 (x8.kids.map Ty.enc), .int .i64 x9.kind, .int .i64 x9.n, .list 3 (x9.kids.map Ty.enc), .list 7 (x10.map D5.enc), .list 16 (x11.map Ex.enc)]
theorem Ex.F9 (t : Ex) : t.enc = .agg [.int .i64 t.kind, .int .i64 t.lo, .int .i64 t.hi, .str t.name, .str t.arg, .int .i64 t.n, .str t.s, .int .i64 t.op, .int .i64 t.a.kind, .int .i64 t.a.n, .list 3 (t.a.kids.map Ty.enc), .int .i64 t.b.kind, .int .i64 t.b.n, .list 3 (t.b.kids.map Ty.enc), .list 7 (t.F6.map D5.enc), .list 16 (t.kids.map Ex.enc)] := by cases t; rw [Ex.enc]; rfl
noncomputable instance : DecidableEq Ex := fun a b => Classical.propDecidable (a = b)
@[simp] theorem Ao (t : Ex) : C9 16 t.enc = true := by rw [Ex.F9]; rfl
@[simp] theorem Ex.Y3 (t : Ex) : A7 0 t.enc = .int .i64 t.kind := by rw [Ex.F9]; rfl
@[simp] theorem Ex.Ar (t : Ex) : A7 1 t.enc = .int .i64 t.lo := by rw [Ex.F9]; rfl
@[simp] theorem Ex.AV (t : Ex) : A7 2 t.enc = .int .i64 t.hi := by rw [Ex.F9]; rfl
@[simp] theorem Ex.Bj (t : Ex) : A7 3 t.enc = .str t.name := by rw [Ex.F9]; rfl
@[simp] theorem Ex.Zu (t : Ex) : A7 4 t.enc = .str t.arg := by rw [Ex.F9]; rfl
@[simp] theorem Ex.iK (t : Ex) : A7 5 t.enc = .int .i64 t.n := by rw [Ex.F9]; rfl
@[simp] theorem Ex.Zv (t : Ex) : A7 6 t.enc = .str t.s := by rw [Ex.F9]; rfl
@[simp] theorem Ex.A5Y (t : Ex) : A7 7 t.enc = .int .i64 t.op := by rw [Ex.F9]; rfl
@[simp] theorem Ex.A5Z (t : Ex) : A7 8 t.enc = .int .i64 t.a.kind := by rw [Ex.F9]; rfl
@[simp] theorem Ex.A50 (t : Ex) : A7 9 t.enc = .int .i64 t.a.n := by rw [Ex.F9]; rfl
@[simp] theorem Ex.A3r (t : Ex) : A7 10 t.enc = .list 3 (t.a.kids.map Ty.enc) := by rw [Ex.F9]; rfl
@[simp] theorem Ex.A3s (t : Ex) : A7 11 t.enc = .int .i64 t.b.kind := by rw [Ex.F9]; rfl
@[simp] theorem Ex.A3t (t : Ex) : A7 12 t.enc = .int .i64 t.b.n := by rw [Ex.F9]; rfl
@[simp] theorem Ex.A3u (t : Ex) : A7 13 t.enc = .list 3 (t.b.kids.map Ty.enc) := by rw [Ex.F9]; rfl
@[simp] theorem Ex.df (t : Ex) : A7 14 t.enc = .list 7 (t.F6.map D5.enc) := by rw [Ex.F9]; rfl
@[simp] theorem Ex.A64 (t : Ex) : A7 15 t.enc = .list 16 (t.kids.map Ex.enc) := by rw [Ex.F9]; rfl
theorem Ex.D8 (t : Ex) : DV.agg [.int .i64 t.kind, .int .i64 t.lo, .int .i64 t.hi, .str t.name, .str t.arg, .int .i64 t.n, .str t.s, .int .i64 t.op, .int .i64 t.a.kind, .int .i64 t.a.n, .list 3 (t.a.kids.map Ty.enc), .int .i64 t.b.kind, .int .i64 t.b.n, .list 3 (t.b.kids.map Ty.enc), .list 7 (t.F6.map D5.enc), .list 16 (t.kids.map Ex.enc)] = t.enc := (Ex.F9 t).symm
theorem Ex.Cu {t u : Ex} : t = u ↔ t.kind = u.kind ∧ t.lo = u.lo ∧ t.hi = u.hi ∧ t.name = u.name ∧ t.arg = u.arg ∧ t.n = u.n ∧ t.s = u.s ∧ t.op = u.op ∧ t.a = u.a ∧ t.b = u.b ∧ t.F6 = u.F6 ∧ t.kids = u.kids := ⟨fun h => by subst h; simp, fun h => by cases t; cases u; simp_all⟩
theorem Ex.CK {t k : Ex} (h : k ∈ t.kids) : SizeOf.sizeOf k < SizeOf.sizeOf t := by
 cases t;simp only [Ex.CS] at h;have := z25q h;simp only [Ex.mk.sizeOf_spec];omega
theorem Ex.ind {P : Ex → Prop} (h : ∀ t, (∀ k ∈ t.kids, P k) → P t) (t : Ex) : P t :=
 h t fun k hk => Ex.ind h k
termination_by SizeOf.sizeOf t
decreasing_by exact Ex.CK hk
def Ex.size (t : Ex) : Nat := 1 + (t.kids.attach.map fun k => Ex.size k.1).sum
termination_by SizeOf.sizeOf t
decreasing_by exact Ex.CK k.2
theorem Ex.size_eq (t : Ex) : t.size = 1 + (t.kids.map Ex.size).sum := by
 rw [Ex.size]
 congr 2
 exact z24q (f := Ex.size) ..
theorem Ex.OZ (t : Ex) : 0 < t.size := by rw [Ex.size_eq]; omega
def Ex.J4 (t : Ex) : Nat := 1 + t.name.size + t.arg.size + t.s.size + t.a.size + t.b.size + (t.F6.map D5.J4).sum + (t.kids.attach.map fun k => Ex.J4 k.1).sum
termination_by SizeOf.sizeOf t
decreasing_by exact Ex.CK k.2
theorem Ex.U9 (t : Ex) : t.J4 = 1 + t.name.size + t.arg.size + t.s.size + t.a.size + t.b.size + (t.F6.map D5.J4).sum + (t.kids.map Ex.J4).sum := by
 rw [Ex.J4]
 congr 2
 exact z24q (f := Ex.J4) ..
theorem Ex.EK (t : Ex) : 0 < t.J4 := by rw [Ex.U9]; omega
theorem Ex.O5 {t k : Ex} (h : k ∈ t.kids) : k.J4 < t.J4 := by
 rw [Ex.U9 t];have := Ap (z30q (f := Ex.J4) h);omega
theorem Ex.dW (t : Ex) : t.kids.length < t.J4 := by
 rw [Ex.U9];have : ∀ l : List Ex, l.length ≤ (l.map Ex.J4).sum := by
  intro l
  induction l with
  | nil => simp
  | cons x l ih => have := Ex.EK x; simp only [z10q, z21q, z23q]; omega
 have := this t.kids;omega
theorem Ex.yD (t : Ex) : t.name.size < t.J4 := by rw [Ex.U9]; omega
theorem Ex.B2P (t : Ex) : t.arg.size < t.J4 := by rw [Ex.U9]; omega
theorem Ex.A6P (t : Ex) : t.s.size < t.J4 := by rw [Ex.U9]; omega
theorem Ex.B1h (t : Ex) : t.a.size < t.J4 := by rw [Ex.U9]; omega
theorem Ex.B1i (t : Ex) : t.b.size < t.J4 := by rw [Ex.U9]; omega
theorem Ex.A42 (t : Ex) : (t.F6.map D5.J4).sum < t.J4 := by rw [Ex.U9]; omega
inductive Tm where
 | mk (kind : Int) (lo : Int) (hi : Int) (name : ByteArray) (arg : ByteArray) (n : Int) (s : ByteArray) (op : Int) (label : Int) (neg : Bool) (vars : List Int) (a : Ty) (b : Ty) (args : List Ty) (F6 : List D5) (kids : List Tm)
def Tm.kind : Tm → Int | .mk x0 _ _ _ _ _ _ _ _ _ _ _ _ _ _ _ => x0
def Tm.lo : Tm → Int | .mk _ x1 _ _ _ _ _ _ _ _ _ _ _ _ _ _ => x1
def Tm.hi : Tm → Int | .mk _ _ x2 _ _ _ _ _ _ _ _ _ _ _ _ _ => x2
def Tm.name : Tm → ByteArray | .mk _ _ _ x3 _ _ _ _ _ _ _ _ _ _ _ _ => x3
def Tm.arg : Tm → ByteArray | .mk _ _ _ _ x4 _ _ _ _ _ _ _ _ _ _ _ => x4
def Tm.n : Tm → Int | .mk _ _ _ _ _ x5 _ _ _ _ _ _ _ _ _ _ => x5
def Tm.s : Tm → ByteArray | .mk _ _ _ _ _ _ x6 _ _ _ _ _ _ _ _ _ => x6
def Tm.op : Tm → Int | .mk _ _ _ _ _ _ _ x7 _ _ _ _ _ _ _ _ => x7
def Tm.label : Tm → Int | .mk _ _ _ _ _ _ _ _ x8 _ _ _ _ _ _ _ => x8
def Tm.neg : Tm → Bool | .mk _ _ _ _ _ _ _ _ _ x9 _ _ _ _ _ _ => x9
def Tm.vars : Tm → List Int | .mk _ _ _ _ _ _ _ _ _ _ x10 _ _ _ _ _ => x10
def Tm.a : Tm → Ty | .mk _ _ _ _ _ _ _ _ _ _ _ x11 _ _ _ _ => x11
def Tm.b : Tm → Ty | .mk _ _ _ _ _ _ _ _ _ _ _ _ x12 _ _ _ => x12
def Tm.args : Tm → List Ty | .mk _ _ _ _ _ _ _ _ _ _ _ _ _ x13 _ _ => x13
def Tm.F6 : Tm → List D5 | .mk _ _ _ _ _ _ _ _ _ _ _ _ _ _ x14 _ => x14
def Tm.kids : Tm → List Tm | .mk _ _ _ _ _ _ _ _ _ _ _ _ _ _ _ x15 => x15
@[simp] theorem Tm.Km (x0 : Int) (x1 : Int) (x2 : Int) (x3 : ByteArray) (x4 : ByteArray) (x5 : Int) (x6 : ByteArray) (x7 : Int) (x8 : Int) (x9 : Bool) (x10 : List Int) (x11 : Ty) (x12 : Ty) (x13 : List Ty) (x14 : List D5) (x15 : List Tm) : (Tm.mk x0 x1 x2 x3 x4 x5 x6 x7 x8 x9 x10 x11 x12 x13 x14 x15).kind = x0 := rfl
@[simp] theorem Tm.zO (x0 : Int) (x1 : Int) (x2 : Int) (x3 : ByteArray) (x4 : ByteArray) (x5 : Int) (x6 : ByteArray) (x7 : Int) (x8 : Int) (x9 : Bool) (x10 : List Int) (x11 : Ty) (x12 : Ty) (x13 : List Ty) (x14 : List D5) (x15 : List Tm) : (Tm.mk x0 x1 x2 x3 x4 x5 x6 x7 x8 x9 x10 x11 x12 x13 x14 x15).lo = x1 := rfl
@[simp] theorem Tm.zK (x0 : Int) (x1 : Int) (x2 : Int) (x3 : ByteArray) (x4 : ByteArray) (x5 : Int) (x6 : ByteArray) (x7 : Int) (x8 : Int) (x9 : Bool) (x10 : List Int) (x11 : Ty) (x12 : Ty) (x13 : List Ty) (x14 : List D5) (x15 : List Tm) : (Tm.mk x0 x1 x2 x3 x4 x5 x6 x7 x8 x9 x10 x11 x12 x13 x14 x15).hi = x2 := rfl
@[simp] theorem Tm.Wl (x0 : Int) (x1 : Int) (x2 : Int) (x3 : ByteArray) (x4 : ByteArray) (x5 : Int) (x6 : ByteArray) (x7 : Int) (x8 : Int) (x9 : Bool) (x10 : List Int) (x11 : Ty) (x12 : Ty) (x13 : List Ty) (x14 : List D5) (x15 : List Tm) : (Tm.mk x0 x1 x2 x3 x4 x5 x6 x7 x8 x9 x10 x11 x12 x13 x14 x15).name = x3 := rfl
@[simp] theorem Tm.A2B (x0 : Int) (x1 : Int) (x2 : Int) (x3 : ByteArray) (x4 : ByteArray) (x5 : Int) (x6 : ByteArray) (x7 : Int) (x8 : Int) (x9 : Bool) (x10 : List Int) (x11 : Ty) (x12 : Ty) (x13 : List Ty) (x14 : List D5) (x15 : List Tm) : (Tm.mk x0 x1 x2 x3 x4 x5 x6 x7 x8 x9 x10 x11 x12 x13 x14 x15).arg = x4 := rfl
@[simp] theorem Tm.jd (x0 : Int) (x1 : Int) (x2 : Int) (x3 : ByteArray) (x4 : ByteArray) (x5 : Int) (x6 : ByteArray) (x7 : Int) (x8 : Int) (x9 : Bool) (x10 : List Int) (x11 : Ty) (x12 : Ty) (x13 : List Ty) (x14 : List D5) (x15 : List Tm) : (Tm.mk x0 x1 x2 x3 x4 x5 x6 x7 x8 x9 x10 x11 x12 x13 x14 x15).n = x5 := rfl
@[simp] theorem Tm.A1W (x0 : Int) (x1 : Int) (x2 : Int) (x3 : ByteArray) (x4 : ByteArray) (x5 : Int) (x6 : ByteArray) (x7 : Int) (x8 : Int) (x9 : Bool) (x10 : List Int) (x11 : Ty) (x12 : Ty) (x13 : List Ty) (x14 : List D5) (x15 : List Tm) : (Tm.mk x0 x1 x2 x3 x4 x5 x6 x7 x8 x9 x10 x11 x12 x13 x14 x15).s = x6 := rfl
@[simp] theorem Tm.A5X (x0 : Int) (x1 : Int) (x2 : Int) (x3 : ByteArray) (x4 : ByteArray) (x5 : Int) (x6 : ByteArray) (x7 : Int) (x8 : Int) (x9 : Bool) (x10 : List Int) (x11 : Ty) (x12 : Ty) (x13 : List Ty) (x14 : List D5) (x15 : List Tm) : (Tm.mk x0 x1 x2 x3 x4 x5 x6 x7 x8 x9 x10 x11 x12 x13 x14 x15).op = x7 := rfl
@[simp] theorem Tm.B8d (x0 : Int) (x1 : Int) (x2 : Int) (x3 : ByteArray) (x4 : ByteArray) (x5 : Int) (x6 : ByteArray) (x7 : Int) (x8 : Int) (x9 : Bool) (x10 : List Int) (x11 : Ty) (x12 : Ty) (x13 : List Ty) (x14 : List D5) (x15 : List Tm) : (Tm.mk x0 x1 x2 x3 x4 x5 x6 x7 x8 x9 x10 x11 x12 x13 x14 x15).label = x8 := rfl
@[simp] theorem Tm.B8A (x0 : Int) (x1 : Int) (x2 : Int) (x3 : ByteArray) (x4 : ByteArray) (x5 : Int) (x6 : ByteArray) (x7 : Int) (x8 : Int) (x9 : Bool) (x10 : List Int) (x11 : Ty) (x12 : Ty) (x13 : List Ty) (x14 : List D5) (x15 : List Tm) : (Tm.mk x0 x1 x2 x3 x4 x5 x6 x7 x8 x9 x10 x11 x12 x13 x14 x15).neg = x9 := rfl
@[simp] theorem Tm.A4r (x0 : Int) (x1 : Int) (x2 : Int) (x3 : ByteArray) (x4 : ByteArray) (x5 : Int) (x6 : ByteArray) (x7 : Int) (x8 : Int) (x9 : Bool) (x10 : List Int) (x11 : Ty) (x12 : Ty) (x13 : List Ty) (x14 : List D5) (x15 : List Tm) : (Tm.mk x0 x1 x2 x3 x4 x5 x6 x7 x8 x9 x10 x11 x12 x13 x14 x15).vars = x10 := rfl
@[simp] theorem Tm.A9a (x0 : Int) (x1 : Int) (x2 : Int) (x3 : ByteArray) (x4 : ByteArray) (x5 : Int) (x6 : ByteArray) (x7 : Int) (x8 : Int) (x9 : Bool) (x10 : List Int) (x11 : Ty) (x12 : Ty) (x13 : List Ty) (x14 : List D5) (x15 : List Tm) : (Tm.mk x0 x1 x2 x3 x4 x5 x6 x7 x8 x9 x10 x11 x12 x13 x14 x15).a = x11 := rfl
@[simp] theorem Tm.A9d (x0 : Int) (x1 : Int) (x2 : Int) (x3 : ByteArray) (x4 : ByteArray) (x5 : Int) (x6 : ByteArray) (x7 : Int) (x8 : Int) (x9 : Bool) (x10 : List Int) (x11 : Ty) (x12 : Ty) (x13 : List Ty) (x14 : List D5) (x15 : List Tm) : (Tm.mk x0 x1 x2 x3 x4 x5 x6 x7 x8 x9 x10 x11 x12 x13 x14 x15).b = x12 := rfl
@[simp] theorem Tm.B8k (x0 : Int) (x1 : Int) (x2 : Int) (x3 : ByteArray) (x4 : ByteArray) (x5 : Int) (x6 : ByteArray) (x7 : Int) (x8 : Int) (x9 : Bool) (x10 : List Int) (x11 : Ty) (x12 : Ty) (x13 : List Ty) (x14 : List D5) (x15 : List Tm) : (Tm.mk x0 x1 x2 x3 x4 x5 x6 x7 x8 x9 x10 x11 x12 x13 x14 x15).args = x13 := rfl
@[simp] theorem Tm.zV (x0 : Int) (x1 : Int) (x2 : Int) (x3 : ByteArray) (x4 : ByteArray) (x5 : Int) (x6 : ByteArray) (x7 : Int) (x8 : Int) (x9 : Bool) (x10 : List Int) (x11 : Ty) (x12 : Ty) (x13 : List Ty) (x14 : List D5) (x15 : List Tm) : (Tm.mk x0 x1 x2 x3 x4 x5 x6 x7 x8 x9 x10 x11 x12 x13 x14 x15).F6 = x14 := rfl
@[simp] theorem Tm.CS (x0 : Int) (x1 : Int) (x2 : Int) (x3 : ByteArray) (x4 : ByteArray) (x5 : Int) (x6 : ByteArray) (x7 : Int) (x8 : Int) (x9 : Bool) (x10 : List Int) (x11 : Ty) (x12 : Ty) (x13 : List Ty) (x14 : List D5) (x15 : List Tm) : (Tm.mk x0 x1 x2 x3 x4 x5 x6 x7 x8 x9 x10 x11 x12 x13 x14 x15).kids = x15 := rfl
def Tm.enc : Tm → DV
 | .mk x0 x1 x2 x3 x4 x5 x6 x7 x8 x9 x10 x11 x12 x13 x14 x15 => .agg [.int .i64 x0, .int .i64 x1, .int .i64 x2, .str x3, .str x4, .int .i64 x5, .str x6, .int .i64 x7, .int .i64 x8, .bool x9, F4 x10, .int .i64 x11.kind, .int .i64 x11.n, .list 3 (x11.kids.map Ty.enc), .int .i64 x12.kind, .int .i64 x12.n, .list 3 (x12.kids.map Ty.enc), .list 3 (x13.map Ty.enc), .list 7 (x14.map D5.enc), .list 20 (x15.map Tm.enc)]
theorem Tm.F9 (t : Tm) : t.enc = .agg [.int .i64 t.kind, .int .i64 t.lo, .int .i64 t.hi, .str t.name, .str t.arg, .int .i64 t.n, .str t.s, .int .i64 t.op, .int .i64 t.label, .bool t.neg, F4 t.vars, .int .i64 t.a.kind, .int .i64 t.a.n, .list 3 (t.a.kids.map Ty.enc), .int .i64 t.b.kind, .int .i64 t.b.n, .list 3 (t.b.kids.map Ty.enc), .list 3 (t.args.map Ty.enc), .list 7 (t.F6.map D5.enc), .list 20 (t.kids.map Tm.enc)] := by cases t; rw [Tm.enc]; rfl
noncomputable instance : DecidableEq Tm := fun a b => Classical.propDecidable (a = b)
@[simp] theorem B7l (t : Tm) : C9 20 t.enc = true := by rw [Tm.F9]; rfl
@[simp] theorem Tm.Y3 (t : Tm) : A7 0 t.enc = .int .i64 t.kind := by rw [Tm.F9]; rfl
@[simp] theorem Tm.Ar (t : Tm) : A7 1 t.enc = .int .i64 t.lo := by rw [Tm.F9]; rfl
@[simp] theorem Tm.AV (t : Tm) : A7 2 t.enc = .int .i64 t.hi := by rw [Tm.F9]; rfl
@[simp] theorem Tm.Bj (t : Tm) : A7 3 t.enc = .str t.name := by rw [Tm.F9]; rfl
@[simp] theorem Tm.Zu (t : Tm) : A7 4 t.enc = .str t.arg := by rw [Tm.F9]; rfl
@[simp] theorem Tm.iK (t : Tm) : A7 5 t.enc = .int .i64 t.n := by rw [Tm.F9]; rfl
@[simp] theorem Tm.Zv (t : Tm) : A7 6 t.enc = .str t.s := by rw [Tm.F9]; rfl
@[simp] theorem Tm.A5Y (t : Tm) : A7 7 t.enc = .int .i64 t.op := by rw [Tm.F9]; rfl
@[simp] theorem Tm.A5Z (t : Tm) : A7 8 t.enc = .int .i64 t.label := by rw [Tm.F9]; rfl
@[simp] theorem Tm.A50 (t : Tm) : A7 9 t.enc = .bool t.neg := by rw [Tm.F9]; rfl
@[simp] theorem Tm.A3r (t : Tm) : A7 10 t.enc = F4 t.vars := by rw [Tm.F9]; rfl
@[simp] theorem Tm.A3s (t : Tm) : A7 11 t.enc = .int .i64 t.a.kind := by rw [Tm.F9]; rfl
@[simp] theorem Tm.A3t (t : Tm) : A7 12 t.enc = .int .i64 t.a.n := by rw [Tm.F9]; rfl
@[simp] theorem Tm.A3u (t : Tm) : A7 13 t.enc = .list 3 (t.a.kids.map Ty.enc) := by rw [Tm.F9]; rfl
@[simp] theorem Tm.df (t : Tm) : A7 14 t.enc = .int .i64 t.b.kind := by rw [Tm.F9]; rfl
@[simp] theorem Tm.A64 (t : Tm) : A7 15 t.enc = .int .i64 t.b.n := by rw [Tm.F9]; rfl
@[simp] theorem Tm.B5Z (t : Tm) : A7 16 t.enc = .list 3 (t.b.kids.map Ty.enc) := by rw [Tm.F9]; rfl
@[simp] theorem Tm.B50 (t : Tm) : A7 17 t.enc = .list 3 (t.args.map Ty.enc) := by rw [Tm.F9]; rfl
@[simp] theorem Tm.B1r (t : Tm) : A7 18 t.enc = .list 7 (t.F6.map D5.enc) := by rw [Tm.F9]; rfl
@[simp] theorem Tm.B51 (t : Tm) : A7 19 t.enc = .list 20 (t.kids.map Tm.enc) := by rw [Tm.F9]; rfl
theorem Tm.D8 (t : Tm) : DV.agg [.int .i64 t.kind, .int .i64 t.lo, .int .i64 t.hi, .str t.name, .str t.arg, .int .i64 t.n, .str t.s, .int .i64 t.op, .int .i64 t.label, .bool t.neg, F4 t.vars, .int .i64 t.a.kind, .int .i64 t.a.n, .list 3 (t.a.kids.map Ty.enc), .int .i64 t.b.kind, .int .i64 t.b.n, .list 3 (t.b.kids.map Ty.enc), .list 3 (t.args.map Ty.enc), .list 7 (t.F6.map D5.enc), .list 20 (t.kids.map Tm.enc)] = t.enc := (Tm.F9 t).symm
theorem Tm.Cu {t u : Tm} : t = u ↔ t.kind = u.kind ∧ t.lo = u.lo ∧ t.hi = u.hi ∧ t.name = u.name ∧ t.arg = u.arg ∧ t.n = u.n ∧ t.s = u.s ∧ t.op = u.op ∧ t.label = u.label ∧ t.neg = u.neg ∧ t.vars = u.vars ∧ t.a = u.a ∧ t.b = u.b ∧ t.args = u.args ∧ t.F6 = u.F6 ∧ t.kids = u.kids := ⟨fun h => by subst h; simp, fun h => by cases t; cases u; simp_all⟩
theorem Tm.CK {t k : Tm} (h : k ∈ t.kids) : SizeOf.sizeOf k < SizeOf.sizeOf t := by
 cases t;simp only [Tm.CS] at h;have := z25q h;simp only [Tm.mk.sizeOf_spec];omega
theorem Tm.ind {P : Tm → Prop} (h : ∀ t, (∀ k ∈ t.kids, P k) → P t) (t : Tm) : P t :=
 h t fun k hk => Tm.ind h k
termination_by SizeOf.sizeOf t
decreasing_by exact Tm.CK hk
inductive A9 where
 | mk (types : List Ty) (vars : List Int) (kids : List A9)
def A9.types : A9 → List Ty | .mk x0 _ _ => x0
def A9.vars : A9 → List Int | .mk _ x1 _ => x1
def A9.kids : A9 → List A9 | .mk _ _ x2 => x2
@[simp] theorem A9.A7Q (x0 : List Ty) (x1 : List Int) (x2 : List A9) : (A9.mk x0 x1 x2).types = x0 := rfl
@[simp] theorem A9.A4r (x0 : List Ty) (x1 : List Int) (x2 : List A9) : (A9.mk x0 x1 x2).vars = x1 := rfl
@[simp] theorem A9.CS (x0 : List Ty) (x1 : List Int) (x2 : List A9) : (A9.mk x0 x1 x2).kids = x2 := rfl
def A9.enc : A9 → DV
 | .mk x0 x1 x2 => .agg [.list 3 (x0.map Ty.enc), F4 x1, .list 3 (x2.map A9.enc)]
theorem A9.F9 (t : A9) : t.enc = .agg [.list 3 (t.types.map Ty.enc), F4 t.vars, .list 3 (t.kids.map A9.enc)] := by cases t; rw [A9.enc]; rfl
noncomputable instance : DecidableEq A9 := fun a b => Classical.propDecidable (a = b)
@[simp] theorem Hg (t : A9) : C9 3 t.enc = true := by rw [A9.F9]; rfl
@[simp] theorem A9.Y3 (t : A9) : A7 0 t.enc = .list 3 (t.types.map Ty.enc) := by rw [A9.F9]; rfl
@[simp] theorem A9.Ar (t : A9) : A7 1 t.enc = F4 t.vars := by rw [A9.F9]; rfl
@[simp] theorem A9.AV (t : A9) : A7 2 t.enc = .list 3 (t.kids.map A9.enc) := by rw [A9.F9]; rfl
theorem A9.D8 (t : A9) : DV.agg [.list 3 (t.types.map Ty.enc), F4 t.vars, .list 3 (t.kids.map A9.enc)] = t.enc := (A9.F9 t).symm
theorem A9.Cu {t u : A9} : t = u ↔ t.types = u.types ∧ t.vars = u.vars ∧ t.kids = u.kids := ⟨fun h => by subst h; simp, fun h => by cases t; cases u; simp_all⟩
theorem A9.CK {t k : A9} (h : k ∈ t.kids) : SizeOf.sizeOf k < SizeOf.sizeOf t := by
 cases t;simp only [A9.CS] at h;have := z25q h;simp only [A9.mk.sizeOf_spec];omega
theorem A9.ind {P : A9 → Prop} (h : ∀ t, (∀ k ∈ t.kids, P k) → P t) (t : A9) : P t :=
 h t fun k hk => A9.ind h k
termination_by SizeOf.sizeOf t
decreasing_by exact A9.CK hk
def A9.J4 (t : A9) : Nat := 1 + (t.types.map Ty.size).sum + t.vars.length + (t.kids.attach.map fun k => A9.J4 k.1).sum
termination_by SizeOf.sizeOf t
decreasing_by exact A9.CK k.2
theorem A9.U9 (t : A9) : t.J4 = 1 + (t.types.map Ty.size).sum + t.vars.length + (t.kids.map A9.J4).sum := by
 rw [A9.J4]
 congr 2
 exact z24q (f := A9.J4) ..
theorem A9.EK (t : A9) : 0 < t.J4 := by rw [A9.U9]; omega
theorem A9.O5 {t k : A9} (h : k ∈ t.kids) : k.J4 < t.J4 := by
 rw [A9.U9 t];have := Ap (z30q (f := A9.J4) h);omega
theorem A9.dW (t : A9) : t.kids.length < t.J4 := by
 rw [A9.U9];have : ∀ l : List A9, l.length ≤ (l.map A9.J4).sum := by
  intro l
  induction l with
  | nil => simp
  | cons x l ih => have := A9.EK x; simp only [z10q, z21q, z23q]; omega
 have := this t.kids;omega
theorem A9.VH (t : A9) : (t.types.map Ty.size).sum < t.J4 := by rw [A9.U9]; omega
theorem A9.YC (t : A9) : t.vars.length < t.J4 := by rw [A9.U9]; omega
inductive B1S where
 | mk (kind : Int) (head : Int) (label : Int) (neg : Bool) (kids : List B1S)
noncomputable instance : DecidableEq B1S := fun a b => Classical.propDecidable (a = b)
inductive Val where
 | mk (kind : Int) (n : Int) (s : ByteArray) (c : B1S) (kids : List Val)
noncomputable instance : DecidableEq Val := fun a b => Classical.propDecidable (a = b)
@[simp] theorem Ty.ag (t : Ty) : H6 t.enc = t.enc := by rw [Ty.F9]; rfl
@[simp] theorem A9.ag (t : A9) : H6 t.enc = t.enc := by rw [A9.F9]; rfl
@[simp] theorem D5.ag (t : D5) : Gb t.enc = t.enc := by rw [D5.F9]; rfl
@[simp] theorem Ex.ag (t : Ex) : L8 t.enc = t.enc := by rw [Ex.F9]; rfl
@[simp] theorem Tm.ag (t : Tm) : jC t.enc = t.enc := by rw [Tm.F9]; rfl
theorem Ex.pj (t : Ex) : A7 0 t.enc = .int .i64 t.kind ∧ A7 1 t.enc = .int .i64 t.lo ∧ A7 2 t.enc = .int .i64 t.hi ∧ A7 3 t.enc = .str t.name ∧ A7 4 t.enc = .str t.arg ∧ A7 5 t.enc = .int .i64 t.n ∧ A7 6 t.enc = .str t.s ∧ A7 7 t.enc = .int .i64 t.op ∧ A7 8 t.enc = .int .i64 t.a.kind ∧ A7 9 t.enc = .int .i64 t.a.n ∧ A7 10 t.enc = .list 3 (t.a.kids.map Ty.enc) ∧ A7 11 t.enc = .int .i64 t.b.kind ∧ A7 12 t.enc = .int .i64 t.b.n ∧ A7 13 t.enc = .list 3 (t.b.kids.map Ty.enc) ∧ A7 14 t.enc = .list 7 (t.F6.map D5.enc) ∧ A7 15 t.enc = .list 16 (t.kids.map Ex.enc) := ⟨t.Y3, t.Ar, t.AV, t.Bj, t.Zu, t.iK, t.Zv, t.A5Y, t.A5Z, t.A50, t.A3r, t.A3s, t.A3t, t.A3u, t.df, t.A64⟩
theorem D5.pj (t : D5) : A7 0 t.enc = .int .i64 t.kind ∧ A7 1 t.enc = .int .i64 t.lo ∧ A7 2 t.enc = .int .i64 t.hi ∧ A7 3 t.enc = .str t.name ∧ A7 4 t.enc = .int .i64 t.n ∧ A7 5 t.enc = .str t.s ∧ A7 6 t.enc = .list 7 (t.kids.map D5.enc) := ⟨t.Y3, t.Ar, t.AV, t.Bj, t.Zu, t.iK, t.Zv⟩
theorem Tm.pj (t : Tm) : A7 0 t.enc = .int .i64 t.kind ∧ A7 1 t.enc = .int .i64 t.lo ∧ A7 2 t.enc = .int .i64 t.hi ∧ A7 3 t.enc = .str t.name ∧ A7 4 t.enc = .str t.arg ∧ A7 5 t.enc = .int .i64 t.n ∧ A7 6 t.enc = .str t.s ∧ A7 7 t.enc = .int .i64 t.op ∧ A7 8 t.enc = .int .i64 t.label ∧ A7 9 t.enc = .bool t.neg ∧ A7 10 t.enc = F4 t.vars ∧ A7 11 t.enc = .int .i64 t.a.kind ∧ A7 12 t.enc = .int .i64 t.a.n ∧ A7 13 t.enc = .list 3 (t.a.kids.map Ty.enc) ∧ A7 14 t.enc = .int .i64 t.b.kind ∧ A7 15 t.enc = .int .i64 t.b.n ∧ A7 16 t.enc = .list 3 (t.b.kids.map Ty.enc) ∧ A7 17 t.enc = .list 3 (t.args.map Ty.enc) ∧ A7 18 t.enc = .list 7 (t.F6.map D5.enc) ∧ A7 19 t.enc = .list 20 (t.kids.map Tm.enc) := ⟨t.Y3, t.Ar, t.AV, t.Bj, t.Zu, t.iK, t.Zv, t.A5Y, t.A5Z, t.A50, t.A3r, t.A3s, t.A3t, t.A3u, t.df, t.A64, t.B5Z, t.B50, t.B1r, t.B51⟩
end Go.Su

/-
 PLAIN DATA: what the data's operations make of numbers, texts, lists.
-/
namespace Go.Su
@[simp] theorem I1 {α β : Type} (a : α) (f : α → Option β) : ob (some a) f = f a := rfl
@[simp] theorem B2S {α β : Type} (f : α → Option β) : ob none f = none := rfl
@[simp] theorem O6 {β : Type} (x : Option β) : og true x = x := rfl
@[simp] theorem B1l {β : Type} (x : Option β) : og false x = none := rfl
@[simp] theorem N9 {β : Type} (b : Bool) (x y : Option β) : D6 (.bool b) x y = if b = true then x else y := by cases b <;> rfl
@[simp] theorem X3 {β : Type} (b : Bool) (x y z : Option β) : I5 (.bool b) x y z = if b = true then x else y := by cases b <;> rfl
@[simp] theorem BB (sz : Nat) (ds : List DV) : dLen (.list sz ds) = some (.int .i64 ds.length) := rfl
@[simp] theorem B0F (l : List Int) : dLen (F4 l) = some (.int .i64 l.length) := by simp [F4]
@[simp] theorem B7k (l : List ByteArray) : dLen (CP l) = some (.int .i64 l.length) := by simp [CP]
@[simp] theorem B6H (sz : Nat) (ds : List DV) : A9n (.list sz ds) = some (sz, ds) := rfl
@[simp] theorem EU (s : ByteArray) : Dr (.str s) = some (.int .i64 s.size) := rfl
@[simp] theorem CZ (k : IntKind) (a b : Int) : A8 .eql (.int k a) (.int k b) = some (.bool (decide (a = b))) := by
  simp only [A8, Kl, MN, if_true]; rfl
@[simp] theorem JJ (k : IntKind) (a b : Int) : A8 .neq (.int k a) (.int k b) = some (.bool (!decide (a = b))) := by
  simp only [A8, Kl, MN, if_true]; rfl
@[simp] theorem Br (k : IntKind) (a b : Int) : A8 .lss (.int k a) (.int k b) = some (.bool (decide (a < b))) := by
  simp only [A8, Kl, MN, if_true]
@[simp] theorem Ni (k : IntKind) (a b : Int) : A8 .leq (.int k a) (.int k b) = some (.bool (decide (a ≤ b))) := by
  simp only [A8, Kl, MN, if_true]
@[simp] theorem Ct (k : IntKind) (a b : Int) : A8 .gtr (.int k a) (.int k b) = some (.bool (decide (b < a))) := by
  simp only [A8, Kl, MN, if_true, gt_iff_lt]
@[simp] theorem Vw (k : IntKind) (a b : Int) : A8 .geq (.int k a) (.int k b) = some (.bool (decide (b ≤ a))) := by
  simp only [A8, Kl, MN, if_true, ge_iff_le]
theorem Vv (k : IntKind) (a b : Int) : A8 .add (.int k a) (.int k b) = some (.int k (k.wrap (a + b))) := by
 simp only [A8, Kl, MN, if_true]
theorem BU (k : IntKind) (a b : Int) : A8 .sub (.int k a) (.int k b) = some (.int k (k.wrap (a - b))) := by
 simp only [A8, Kl, MN, if_true]
theorem B16 (k : IntKind) (a b : Int) : A8 .mul (.int k a) (.int k b) = some (.int k (k.wrap (a * b))) := by
 simp only [A8, Kl, MN, if_true]
theorem A_ {n : Int} (h1 : -9223372036854775808 ≤ n) (h2 : n ≤ 9223372036854775807) : IntKind.i64.wrap n = n := Go.IntWalk.i64_in n ⟨h1, h2⟩
theorem Ck {a b : Int} (h1 : -9223372036854775808 ≤ a + b) (h2 : a + b ≤ 9223372036854775807) : A8 .add (.int .i64 a) (.int .i64 b) = some (.int .i64 (a + b)) := by
 rw [Vv, A_ h1 h2]
theorem J7 {i : Nat} (h : i < 9223372036854775807) : A8 .add (.int .i64 (i : Int)) (.int .i64 1) = some (.int .i64 ((i + 1 : Nat) : Int)) := by
 rw [Ck (by omega) (by omega)]
 simp
theorem B08 {c : Prop} [Decidable c] {a b : Bool} : (if c then some (DV.bool a) else some (DV.bool b)) = some (DV.bool (if c then a else b)) := by split <;> rfl
theorem B07 {c : Prop} [Decidable c] {a b : Bool} : (if c then DV.bool a else DV.bool b) = DV.bool (if c then a else b) := by split <;> rfl
theorem B62 {c : Prop} [Decidable c] {a b : DV} : (if c then some a else some b) = some (if c then a else b) := by split <;> rfl
theorem B6i {a b : Bool} (h : a = true ↔ b = true) : some (DV.bool a) = some (DV.bool b) := by rw [Bool.eq_iff_iff.2 h]
theorem uu (s : ByteArray) : s.toList = s.data.toList := by
 have loop : ∀ (n i : Nat) (r : List UInt8), s.size - i = n → ByteArray.toList.loop s i r = r.reverse ++ s.data.toList.drop i := by
  intro n
  induction n with
  | zero =>
    intro i r h;rw [ByteArray.toList.loop, if_neg (by omega)]
    have : s.data.toList.length ≤ i := by simp only [z46q]; exact Nat.le_of_sub_eq_zero h
    simp [z51q this]
  | succ n ih =>
    intro i r h;have hi : i < s.size := by omega
    rw [ByteArray.toList.loop, if_pos hi, ih (i + 1) _ (by omega)]
    have hl : i < s.data.toList.length := by simpa using hi
    rw [z19q hl];have : s.get! i = s.data.toList[i] := by
     simp only [ByteArray.get!, z62q];exact getElem!_pos s.data i hi
    rw [this];simp
 rw [ByteArray.toList, loop _ 0 [] rfl];simp
theorem A4G {a b : ByteArray} (h : a.toList = b.toList) : a = b := by
 rw [uu, uu] at h;cases a; cases b;simp only [ByteArray.mk.injEq];exact Array.ext' h
theorem fP (a b : ByteArray) : (a.toList == b.toList) = decide (a = b) := by
 by_cases h : a = b
 ·subst h; simp
 ·have : a.toList ≠ b.toList := fun h' => h (A4G h')
  simp [h, this]
@[simp] theorem uy (a b : ByteArray) : A8 .eql (.str a) (.str b) = some (.bool (decide (a = b))) := by
  simp only [A8, kQ];rw [fP]
@[simp] theorem Xj (a b : ByteArray) : A8 .neq (.str a) (.str b) = some (.bool (!decide (a = b))) := by
  simp only [A8, kQ];rw [fP]
@[simp] theorem B7j (a b : Bool) : A6b (.bool a) (.bool b) = some (a == b) := rfl
@[simp] theorem CO (b : Bool) : O9 .not (.bool b) = some (.bool !b) := rfl
@[simp] theorem Zl (k : IntKind) (n : Int) : I7 (.int k n) = true := rfl
@[simp] theorem B6v (b : Bool) : I7 (.bool b) = true := rfl
@[simp] theorem A3d (s : ByteArray) : I7 (.str s) = true := rfl
@[simp] theorem jc (sz : Nat) (ds : List DV) : I7 (.list sz ds) = true := rfl
@[simp] theorem B6w (l : List Int) : I7 (F4 l) = true := rfl
@[simp] theorem B6x (l : List ByteArray) : I7 (CP l) = true := rfl
@[simp] theorem B60 (k : IntKind) (n : Int) : M9 (.int k n) = true := rfl
@[simp] theorem B61 (s : ByteArray) : M9 (.str s) = true := rfl
@[simp] theorem B7m (n : Int) : isKey false (.int .i64 n) = true := rfl
@[simp] theorem B06 (s : ByteArray) : isKey true (.str s) = true := rfl
theorem u_ (sz : Nat) (ds : List DV) (k : IntKind) (i : Nat) : E8 sz (.list sz ds) (.int k (i : Int)) = ds[i]? := by
 simp [E8]
theorem F3 {α : Type} {e : α → DV} {sz : Nat} {l : List α} {k : IntKind} {i : Nat} (h : i < l.length) : E8 sz (.list sz (l.map e)) (.int k (i : Int)) = some (e l[i]) := by
 rw [u_, z11q, z2q h]; rfl
theorem U0 {l : List Int} {k : IntKind} {i : Nat} (h : i < l.length) : E8 1 (F4 l) (.int k (i : Int)) = some (.int .i64 l[i]) := F3 h
theorem vB {l : List ByteArray} {k : IntKind} {i : Nat} (h : i < l.length) : E8 1 (CP l) (.int k (i : Int)) = some (.str l[i]) := F3 h
theorem Dj {sz : Nat} {a b : List DV} (h : a.length + b.length ≤ lim) : R8 sz (.list sz a) (.list sz b) = some (.list sz (a ++ b)) := by
 simp [R8, h]
theorem A40 {α A X : Type} {l : List α} {P : Int → A → Option X} {I : Nat → A → Prop} {F : List α → A → Option X} (stop : ∀ a, I l.length a → P l.length a = F [] a)
 (step : ∀ (i : Nat) (h : i < l.length) a, I i a → (∀ a', I (i + 1) a' → P ((i : Int) + 1) a' = F (l.drop (i + 1)) a') → P i a = F (l[i] :: l.drop (i + 1)) a) :
 ∀ a, I 0 a → P 0 a = F l a := by
 have key : ∀ (n i : Nat) a, i + n = l.length → I i a → P i a = F (l.drop i) a := by
  intro n
  induction n with
  | zero =>
    intro i a hi ha;have : i = l.length := by omega
    subst this;rw [stop a ha, z53q]
  | succ n ih =>
    intro i a hi ha;have h : i < l.length := by omega
    rw [z19q h];refine step i h a ha fun a' ha' => ?_
    have := ih (i + 1) a' (by omega) ha'
    push_cast at this;exact this
 intro a ha;have := key l.length 0 a (by omega) ha
 simpa using this
theorem Lx {α X : Type} {l : List α} {P : Int → Option X} {f : α → Bool} {y n : X} (stop : P l.length = some y)
 (step : ∀ (i : Nat) (h : i < l.length), P i = if f l[i] = true then P ((i : Int) + 1) else some n) : P 0 = some (if l.all f = true then y else n) := by
 have := A40 (l := l) (P := fun i (_ : Unit) => P i) (I := fun _ _ => True) (F := fun l _ => some (if l.all f = true then y else n)) (fun _ _ => by simpa using stop)
  (fun i h a _ ih => by
    rw [step i h];have h2 := ih () trivial;rw [h2];simp only [List.all_cons, z3q]
    by_cases h3 : f l[i] = true <;> simp [h3]) () trivial
 exact this
theorem FR {α A X : Type} {l : List α} {P : Int → A → Option X} {g : A → α → A} {fin : A → Option X} {I : Nat → A → Prop} (stop : ∀ a, I l.length a → P l.length a = fin a)
 (step : ∀ (i : Nat) (h : i < l.length) a, I i a → P i a = P ((i : Int) + 1) (g a l[i]) ∧ I (i + 1) (g a l[i])) : ∀ a, I 0 a → P 0 a = fin (l.foldl g a) := by
 refine A40 (F := fun l a => fin (l.foldl g a)) (fun a ha => by simpa using stop a ha) fun i h a ha ih => ?_
 obtain ⟨h1, h2⟩ := step i h a ha;rw [h1, ih _ h2];rfl
theorem JV {α X : Type} [DecidableEq α] {l m : List α} (hl : l.length = m.length) {P : Int → Option X} {y n : X} (stop : P l.length = some y)
 (step : ∀ (i : Nat) (h : i < l.length), P i = if l[i] = m[i]'(by omega) then P ((i : Int) + 1) else some n) : P 0 = some (if l = m then y else n) := by
 have key : ∀ (k i : Nat), i + k = l.length → P i = some (if l.drop i = m.drop i then y else n) := by
  intro k
  induction k with
  | zero =>
    intro i hi;have : i = l.length := by omega
    subst this;rw [stop, z53q, z51q (by omega), if_pos rfl]
  | succ k ih =>
    intro i hi;have h : i < l.length := by omega
    have h' : i < m.length := by omega
    have h2 := ih (i + 1) (by omega)
    push_cast at h2;have e1 : l.drop i = l[i] :: l.drop (i + 1) := z19q h;have e2 : m.drop i = m[i] :: m.drop (i + 1) := z19q h';have e3 : (l.drop i = m.drop i) ↔ (l[i] = m[i] ∧ l.drop (i + 1) = m.drop (i + 1)) := by rw [e1, e2, List.cons.injEq]
    rw [step i h, h2]
    by_cases h3 : l[i] = m[i] <;> by_cases h4 : l.drop (i + 1) = m.drop (i + 1) <;> simp only [e3, h3, h4, true_and, and_true, false_and, and_false, if_true, if_false]
 have := key l.length 0 (by omega)
 simpa using this
theorem YB {α : Type} {l : List α} {P : Int → Option DV} {f : α → Bool} (stop : P l.length = some (.bool true))
 (step : ∀ (i : Nat) (h : i < l.length), P i = if f l[i] = true then P ((i : Int) + 1) else some (.bool false)) : P 0 = some (.bool (l.all f)) := by
 rw [Lx stop step];cases l.all f <;> rfl
theorem yB {α : Type} {l : List α} {P : Int → Option DV} {f : α → Bool} (stop : P l.length = some (.bool false))
 (step : ∀ (i : Nat) (h : i < l.length), P i = if f l[i] = true then some (.bool true) else P ((i : Int) + 1)) : P 0 = some (.bool (l.any f)) := by
 have := Lx (l := l) (P := P) (f := fun x => !f x) (y := .bool false) (n := .bool true) stop (fun i h => by rw [step i h]; cases f l[i] <;> rfl)
 rw [this, show l.any f = !l.all (fun x => !f x) by rw [List.all_eq_not_any_not]; simp]
 cases l.all (fun x => !f x) <;> rfl
theorem TH {α : Type} [DecidableEq α] {l m : List α} (hl : l.length = m.length) {P : Int → Option DV} (stop : P l.length = some (.bool true))
 (step : ∀ (i : Nat) (h : i < l.length), P i = if l[i] = m[i]'(by omega) then P ((i : Int) + 1) else some (.bool false)) : P 0 = some (.bool (decide (l = m))) := by
 rw [JV hl stop step]
 by_cases h : l = m <;> simp [h]
end Go.Su

/-
 FROM A READING TO DATA: what an argument reads as lies in memory as plain data.
-/
namespace Go.Su
mutual
def Ab {H : Type} : DataW H → Nat
 | .lit (.string bytes) => bytes.length + 1
 | .lit _ => 1
 | .nil => 1
 | .ptr d => Ab d + 1
 | .slice elems spare => Fq elems + Fq spare + 1
 | .agg parts => Fq parts + 1
 | .iface _ d => Ab d + 1
 | .map entries => QZ entries + 1
 | .held _ => 1
def Fq {H : Type} : List (DataW H) → Nat
 | [] => 0
 | d :: r => Ab d + Fq r
def QZ {H : Type} : List (Lit × DataW H) → Nat
 | [] => 0
 | x :: r => ut x + QZ r
def ut {H : Type} : Lit × DataW H → Nat
 | (.string bytes, d) => bytes.length + Ab d + 1
 | (_, d) => Ab d + 1
end
def aV (w : World) : Q6 := fun b _ => b < w.heap.size
section
variable {H : Type} {enc : TypeId × Value → H} {P : Program} {w : World} {held : Bool}
abbrev Rd (enc : TypeId × Value → H) (P : Program) (w : World) (held : Bool) : Nat → TypeId → List Value → Option (DataW H × List MemPlace) := DataW.trod enc P w 0 (fun _ => true) held
theorem A9e {l : List (DataW H)} {m : List Nat} (h1 : m.length = l.length) (h2 : ∀ (i : Nat) (a : Nat) (d : DataW H), m[i]? = some a → l[i]? = some d → a ≤ Ab d) : m.sum ≤ Fq l := by
 induction l generalizing m with
 | nil => cases m <;> simp_all
 | cons d l ih =>
   cases m with
   | nil => simp at h1
   | cons a m =>
     simp only [z23q, Fq];have h3 := h2 0 a d rfl rfl;have h4 := ih (m := m) (by simpa using h1) fun i a d ha hd => h2 (i + 1) a d (by simpa using ha) (by simpa using hd)
     omega
theorem add_block (a : Addr) (k : Nat) : (a.add k).block = a.block := by unfold Addr.add; split <;> rfl
theorem B3K (a : Addr) (k : Nat) : (a.add k).off = a.off + k := by unfold Addr.add; split <;> simp_all
theorem A66 {a : Addr} {n : Nat} {cs : List Value} (h : w.cells? 0 a n = some cs) (hn : 0 < n) : a.spot = none ∧ cs.length = n ∧ At (aV w) w.heap a.block a.off cs := by
 obtain ⟨-, hl, hc⟩ := World.cells?_some h;have hs : a.spot = none := by
  have h0 := hc 0 hn;have : cs[0]? = some (cs[0]'(by omega)) := z2q (by omega)
  rw [this] at h0;unfold World.cell? at h0
  split at h0
  ·split at h0
   ·cases h0
   ·rename_i hsp
    simpa [Addr.add] using hsp
  ·cases h0
 refine ⟨hs, hl, fun j v hv => ?_⟩
 have hj : j < n := by rw [← hl]; exact (z1q.1 hv).1
 have h1 := hc j hj;have e : a.add j = ⟨a.block, a.off + j, none⟩ := by
  unfold Addr.add
  split
  ·rename_i h0; cases a; simp only at hs; subst hs; simp [h0]
  ·rfl
 rw [e, KO, hv] at h1;refine ⟨h1, ?_⟩;unfold Su.hc at h1
 split at h1
 ·rename_i hb
  exact (z0q.1 hb).1
 ·cases h1
theorem SX {α : Type} {e : α → DV} {sz : α → Nat} {el t : TypeId} {fuel : Nat} {cs : List Value} {x : DataW H × List MemPlace} (ht : P.underlying t = some (.slice el)) (hz : 0 < P.cellsOf el)
 (h : ∀ n cs x, n < fuel → Rd enc P w held n el cs = some x → ∃ a : α, RC (aV w) w.heap (e a) cs ∧ sz a ≤ Ab x.1) (hr : Rd enc P w held fuel t cs = some x) :
 ∃ l : List α, RC (aV w) w.heap (.list (P.cellsOf el) (l.map e)) cs ∧ (l.map sz).sum + 1 ≤ Ab x.1 := by
 rcases DataW.trod_slice ht hr with ⟨rfl, rfl⟩ | ⟨a, len, cap, elems, rest, n, rfl, rfl, rfl, hb, hlc, hcm, hel, hi, hsp, -⟩
 ·refine ⟨[], ?_, by simp [Ab]⟩
  simp only [RC, List.map_nil];exact ⟨none, 0, 0, rfl, rfl, z12q _, fun _ => rfl, by simp, by simp⟩
 ·have each : ∀ i : Fin len, ∃ y : α, ((i.1 = 0 → a.spot = none) ∧ Elem (aV w) w.heap (P.cellsOf el) a.block (a.off + i.1 * P.cellsOf el) (e y)) ∧ ∀ d, (elems.map (·.1))[i.1]? = some d → sz y ≤ Ab d := by
   intro i;have h1 := hi i.1 i.2;have h2 : elems[i.1]? = some (elems[i.1]'(by omega)) := z2q (by omega)
   rw [h2] at h1;obtain ⟨cs', h3, h4⟩ := z55q.1 h1;obtain ⟨y, h5, h6⟩ := h n cs' _ (Nat.lt_succ_self n) h4;obtain ⟨q1, q2, q3⟩ := A66 h3 hz;rw [add_block, B3K] at q3;refine ⟨y, ⟨fun h0 => by rw [h0] at q1; simpa [Addr.add] using q1, cs', q2, q3, h5⟩, fun d hd => ?_⟩
   rw [z11q, h2] at hd;simp only [z38q, Option.some.injEq] at hd;rw [← hd];exact h6
  let f : Fin len → α := fun i => (each i).choose
  have hf := fun i : Fin len => (each i).choose_spec
  refine ⟨List.ofFn f, ?_, ?_⟩
  ·simp only [RC]
   refine ⟨some a, len, cap, rfl, by simp, hlc, by simp, fun _ => hz, fun y hy => ?_⟩
   simp only [Option.some.injEq] at hy;subst hy;refine ⟨fun A35 => ?_, ?_⟩
   ·by_cases hl : 0 < len
    ·exact (hf ⟨0, hl⟩).1.1 rfl
    ·obtain ⟨r1, r2⟩ := hsp rfl
     have h1 := r2 0 (by omega)
     have h2 : rest[0]? = some (rest[0]'(by omega)) := z2q (by omega)
     rw [h2] at h1;obtain ⟨cs', h3, -⟩ := z55q.1 h1;have hl0 : len = 0 := by omega
     have := (A66 h3 hz).1;simpa [Addr.add, hl0] using this
   ·rw [Dc]
    intro i d hd;rw [z11q, z16q] at hd;obtain ⟨y, hy, rfl⟩ := hd;have H7 : i < len := by have := (z1q.1 hy).1; simpa using this
    rw [z67q, dif_pos H7] at hy;simp only [Option.some.injEq] at hy;subst hy;exact (hf ⟨i, H7⟩).1.2
  ·simp only [Ab]
   have := A9e (l := elems.map (·.1)) (m := (List.ofFn f).map sz) (by simp [hel]) fun i b d hb hd => by
    rw [z11q, z16q] at hb;obtain ⟨y, hy, rfl⟩ := hb;have H7 : i < len := by have := (z1q.1 hy).1; simpa using this
    rw [z67q, dif_pos H7] at hy;simp only [Option.some.injEq] at hy;subst hy;exact (hf ⟨i, H7⟩).2 d hd
   omega
theorem Y0 {S : Q6} {h : Heap} : ∀ {a b : List DV} {p q : List Value}, GJ S h a p → GJ S h b q → GJ S h (a ++ b) (p ++ q)
 | [], b, p, q, ha, hb => by simp only [GJ] at ha; subst ha; simpa using hb
 | d :: a, b, p, q, ha, hb => by
   simp only [GJ] at ha;obtain ⟨v, vs', rfl, h1, h2, h3⟩ := ha;simp only [z54q, GJ];exact ⟨v, vs' ++ q, rfl, h1, h2, Y0 h3 hb⟩
theorem Bn {S : Q6} {h : Heap} {d : DV} {cs : List Value} (hd : M9 d = true) (hr : RC S h d cs) : GJ S h [d] cs := by
 obtain ⟨v, rfl⟩ := Mc hd hr;exact ⟨v, [], rfl, hd, hr, rfl⟩
theorem YF {fs : Array Field} {t : TypeId} {fuel : Nat} {cs : List Value} {x : DataW H × List MemPlace} (ht : P.underlying t = some (.struct fs)) (hr : Rd enc P w held fuel t cs = some x) :
 ∃ (n : Nat) (ds : List (DataW H)), fuel = n + 1 ∧ Ab x.1 = Fq ds + 1 ∧ cs.length = P.cellsOf t ∧ ds.length = fs.size ∧
   ∀ (i : Nat) f, fs[i]? = some f → ∃ y, Rd enc P w held n f.type ((cs.drop f.offset).take (P.cellsOf f.type)) = some y ∧ ds[i]? = some y.1 := by
 obtain ⟨xs, n, rfl, rfl, h1, h2, h3⟩ := DataW.trod_struct ht hr;refine ⟨n, xs.map (·.1), rfl, by simp [Ab], h1, by simpa using h2, fun i f hf => ?_⟩
 have hi : i < xs.length := by rw [h2]; exact (z0q.1 hf).1
 refine ⟨xs[i], ?_, by simp [z2q hi]⟩
 have h4 := h3 i f hf;rw [z2q hi] at h4;exact h4
theorem Qr {k : IntKind} {t : TypeId} {fuel : Nat} {cs : List Value} {x : DataW H × List MemPlace} (ht : P.underlying t = some (.int k)) (hr : Rd enc P w held fuel t cs = some x) : ∃ n : Int, RC (aV w) w.heap (.int k n) cs ∧ (Lit.int k n).wf = true ∧ 1 ≤ Ab x.1 := by
 obtain ⟨n, rfl, rfl, hw⟩ := DataW.trod_int ht hr;exact ⟨n, by simp only [RC], hw, by simp [Ab]⟩
theorem yH {t : TypeId} {fuel : Nat} {cs : List Value} {x : DataW H × List MemPlace} (ht : P.underlying t = some .string) (hr : Rd enc P w held fuel t cs = some x) : ∃ s : ByteArray, RC (aV w) w.heap (.str s) cs ∧ s.size + 1 ≤ Ab x.1 := by
 obtain ⟨s, rfl, rfl, hw⟩ := DataW.trod_string ht hr;exact ⟨s, by simp only [RC], by simp [Ab]⟩
theorem B0u (d : DataW H) : 1 ≤ Ab d := by
 cases d with
 | lit l => cases l <;> simp [Ab]
 | _ => simp [Ab]
end
end Go.Su

/-
 FROM A READING TO DATA: the program's types, one by one. By program.
-/
namespace Go.Su
def Q_ (P : Program) (t : TypeId) : Prop := P.underlying t = some (.int .i64) ∧ P.cellsOf t = 1
def y_ (P : Program) (t : TypeId) : Prop := P.underlying t = some .string ∧ P.cellsOf t = 1
def SliceAt (P : Program) (t el : TypeId) : Prop := P.underlying t = some (.slice el) ∧ P.cellsOf t = 1
def A2y (P : Program) (t : TypeId) : Prop := ∃ f0 f1 : Field, P.underlying t = some (.struct #[f0, f1]) ∧ P.cellsOf t = 2 ∧ (Q_ P f0.type ∧ f0.offset = 0) ∧ (Q_ P f1.type ∧ f1.offset = 1)
def A51 (P : Program) (t : TypeId) : Prop := ∃ el, SliceAt P t el ∧ Q_ P el
section
variable {H : Type} {enc : TypeId × Value → H} {P : Program} {w : World} {held : Bool}
theorem B4B {t : TypeId} (A : A51 P t) {fuel : Nat} {cs : List Value} {x : DataW H × List MemPlace} (hr : Rd enc P w held fuel t cs = some x) : ∃ l : List Int, RC (aV w) w.heap (F4 l) cs ∧ l.length + 1 ≤ Ab x.1 := by
 obtain ⟨el, A1, A2⟩ := A;obtain ⟨l, h1, h2⟩ := SX (e := fun n : Int => .int .i64 n) (sz := fun _ => 1) A1.1 (by rw [A2.2]; omega) (fun n cs x _ h => by obtain ⟨n, h1, -, h2⟩ := Qr A2.1 h; exact ⟨n, h1, h2⟩) hr
 rw [A2.2] at h1;have h3 : ∀ l : List Int, (l.map fun _ => 1).sum = l.length := by
  intro l
  induction l with
  | nil => rfl
  | cons a l ih => simp only [z21q, z23q, ih, z10q]; omega
 rw [h3] at h2;exact ⟨l, h1, h2⟩
theorem A8Y {t : TypeId} (A : A2y P t) {fuel : Nat} {cs : List Value} {x : DataW H × List MemPlace} (hr : Rd enc P w held fuel t cs = some x) : ∃ a b : Int, GJ (aV w) w.heap [.int .i64 a, .int .i64 b] cs ∧ 1 ≤ Ab x.1 := by
 obtain ⟨f0, f1, hu, hc, ⟨t0, o0⟩, t1, o1⟩ := A;obtain ⟨n, ds, rfl, hb, hl, hd, hf⟩ := YF hu hr;obtain ⟨y0, r0, d0⟩ := hf 0 f0 rfl;obtain ⟨y1, r1, d1⟩ := hf 1 f1 rfl;rw [o0, t0.2] at r0;rw [o1, t1.2] at r1;rw [hc] at hl;obtain ⟨k, q0, -, b0⟩ := Qr t0.1 r0;obtain ⟨m, q1, -, b1⟩ := Qr t1.1 r1;refine ⟨k, m, ?_, B0u _⟩;have e : cs = (cs.drop 0).take 1 ++ (cs.drop 1).take 1 := by
  match cs, hl with
  | [a, b], _ => rfl
 rw [e];exact Y0 (a := [_]) (Bn rfl q0) (Bn rfl q1)
def A1C (P : Program) (t : TypeId) : Prop := ∃ f0 f1 f2 : Field, P.underlying t = some (.struct #[f0, f1, f2]) ∧ P.cellsOf t = 3 ∧ (Q_ P f0.type ∧ f0.offset = 0) ∧ (Q_ P f1.type ∧ f1.offset = 1) ∧ (SliceAt P f2.type t ∧ f2.offset = 2)
theorem A1C.cells {t : TypeId} (A : A1C P t) : P.cellsOf t = 3 := by obtain ⟨_, _, _, _, h, _⟩ := A; exact h
theorem A9Z {t : TypeId} (A : A1C P t) : ∀ (fuel : Nat) (cs : List Value) (x : DataW H × List MemPlace), Rd enc P w held fuel t cs = some x → ∃ a : Ty, RC (aV w) w.heap a.enc cs ∧ a.size ≤ Ab x.1 := by
 intro fuel
 induction fuel using Nat.strongRecOn with
 | ind fuel ih =>
   intro cs x hr;have A0 := A;obtain ⟨f0, f1, f2, hu, hc, ⟨t0, o0⟩, ⟨t1, o1⟩, t2, o2⟩ := A;obtain ⟨n, ds, rfl, hb, hl, hd, hf⟩ := YF hu hr;rw [hc] at hl;obtain ⟨y0, r0, d0⟩ := hf 0 f0 rfl;rw [o0, t0.2] at r0;obtain ⟨v0, q0, -, b0⟩ := Qr t0.1 r0;obtain ⟨y1, r1, d1⟩ := hf 1 f1 rfl;rw [o1, t1.2] at r1;obtain ⟨v1, q1, -, b1⟩ := Qr t1.1 r1;obtain ⟨y2, r2, d2⟩ := hf 2 f2 rfl;rw [o2, t2.2] at r2;obtain ⟨v2, q2, b2⟩ := SX (sz := Ty.size) t2.1 (by rw [hc]; omega) (fun n' cs x hn h => ih n' (by omega) cs x h) r2
   rw [hc] at q2;refine ⟨.mk v0 v1 v2, ?_, ?_⟩
   ·rw [Ty.F9]
    simp only [RC, Ty.Km, Ty.jd, Ty.CS];have e : cs = (cs.drop 0).take 1 ++ ((cs.drop 1).take 1 ++ ((cs.drop 2).take 1)) := by
     match cs, hl with
     | [c0, c1, c2], _ => rfl
    rw [e];exact (Y0 (a := [_]) (Bn rfl q0) (Y0 (a := [_]) (Bn rfl q1) (Bn rfl q2)))
   ·rw [Ty.size_eq, hb]
    simp only [Ty.Km, Ty.jd, Ty.CS];have hs : ds = [y0.1, y1.1, y2.1] := by
     have hd : ds.length = 3 := hd
     match ds, hd, d0, d1, d2 with
     | [a0, a1, a2], _, d0, d1, d2 => simp_all
    rw [hs];simp only [Fq];omega
def A2x (P : Program) (t : TypeId) : Prop := ∃ f0 f1 f2 f3 f4 f5 : Field, P.underlying t = some (.struct #[f0, f1, f2, f3, f4, f5]) ∧ P.cellsOf t = 7 ∧ (Q_ P f0.type ∧ f0.offset = 0) ∧ (A2y P f1.type ∧ f1.offset = 1) ∧ (y_ P f2.type ∧ f2.offset = 3) ∧ (Q_ P f3.type ∧ f3.offset = 4) ∧ (y_ P f4.type ∧ f4.offset = 5) ∧ (SliceAt P f5.type t ∧ f5.offset = 6)
theorem A2x.cells {t : TypeId} (A : A2x P t) : P.cellsOf t = 7 := by obtain ⟨_, _, _, _, _, _, _, h, _⟩ := A; exact h
theorem B6f {t : TypeId} (A : A2x P t) : ∀ (fuel : Nat) (cs : List Value) (x : DataW H × List MemPlace), Rd enc P w held fuel t cs = some x → ∃ a : D5, RC (aV w) w.heap a.enc cs ∧ a.J4 ≤ Ab x.1 := by
 intro fuel
 induction fuel using Nat.strongRecOn with
 | ind fuel ih =>
   intro cs x hr;have A0 := A;obtain ⟨f0, f1, f2, f3, f4, f5, hu, hc, ⟨t0, o0⟩, ⟨t1, o1⟩, ⟨t2, o2⟩, ⟨t3, o3⟩, ⟨t4, o4⟩, t5, o5⟩ := A;obtain ⟨n, ds, rfl, hb, hl, hd, hf⟩ := YF hu hr;rw [hc] at hl;obtain ⟨y0, r0, d0⟩ := hf 0 f0 rfl;rw [o0, t0.2] at r0;obtain ⟨v0, q0, -, b0⟩ := Qr t0.1 r0;obtain ⟨y1, r1, d1⟩ := hf 1 f1 rfl;obtain ⟨g10, g11, gu1, gc1, gr1⟩ := id t1;rw [o1, gc1] at r1;obtain ⟨v1, v1b, q1, b1⟩ := A8Y t1 r1;obtain ⟨y2, r2, d2⟩ := hf 2 f2 rfl;rw [o2, t2.2] at r2;obtain ⟨v2, q2, b2⟩ := yH t2.1 r2;obtain ⟨y3, r3, d3⟩ := hf 3 f3 rfl;rw [o3, t3.2] at r3;obtain ⟨v3, q3, -, b3⟩ := Qr t3.1 r3;obtain ⟨y4, r4, d4⟩ := hf 4 f4 rfl;rw [o4, t4.2] at r4;obtain ⟨v4, q4, b4⟩ := yH t4.1 r4;obtain ⟨y5, r5, d5⟩ := hf 5 f5 rfl;rw [o5, t5.2] at r5;obtain ⟨v5, q5, b5⟩ := SX (sz := D5.J4) t5.1 (by rw [hc]; omega) (fun n' cs x hn h => ih n' (by omega) cs x h) r5
   rw [hc] at q5;refine ⟨.mk v0 v1 v1b v2 v3 v4 v5, ?_, ?_⟩
   ·rw [D5.F9]
    simp only [RC, D5.Km, D5.zO, D5.zK, D5.Wl, D5.jd, D5.A1W, D5.CS];have e : cs = (cs.drop 0).take 1 ++ ((cs.drop 1).take 2 ++ ((cs.drop 3).take 1 ++ ((cs.drop 4).take 1 ++ ((cs.drop 5).take 1 ++ ((cs.drop 6).take 1))))) := by
     match cs, hl with
     | [c0, c1, c2, c3, c4, c5, c6], _ => rfl
    rw [e];exact (Y0 (a := [_]) (Bn rfl q0) (Y0 (a := [_, _]) (q1) (Y0 (a := [_]) (Bn rfl q2) (Y0 (a := [_]) (Bn rfl q3) (Y0 (a := [_]) (Bn rfl q4) (Bn rfl q5))))))
   ·rw [D5.U9, hb]
    simp only [D5.Km, D5.zO, D5.zK, D5.Wl, D5.jd, D5.A1W, D5.CS];have hs : ds = [y0.1, y1.1, y2.1, y3.1, y4.1, y5.1] := by
     have hd : ds.length = 6 := hd
     match ds, hd, d0, d1, d2, d3, d4, d5 with
     | [a0, a1, a2, a3, a4, a5], _, d0, d1, d2, d3, d4, d5 => simp_all
    rw [hs];simp only [Fq];omega
def B4U (P : Program) (t : TypeId) : Prop := ∃ f0 f1 f2 f3 f4 f5 f6 f7 f8 f9 f10 : Field, P.underlying t = some (.struct #[f0, f1, f2, f3, f4, f5, f6, f7, f8, f9, f10]) ∧ P.cellsOf t = 16 ∧ (Q_ P f0.type ∧ f0.offset = 0) ∧ (A2y P f1.type ∧ f1.offset = 1) ∧ (y_ P f2.type ∧ f2.offset = 3) ∧ (y_ P f3.type ∧ f3.offset = 4) ∧ (Q_ P f4.type ∧ f4.offset = 5) ∧ (y_ P f5.type ∧ f5.offset = 6) ∧ (Q_ P f6.type ∧ f6.offset = 7) ∧ (A1C P f7.type ∧ f7.offset = 8) ∧ (A1C P f8.type ∧ f8.offset = 11) ∧ ((∃ el, SliceAt P f9.type el ∧ A2x P el) ∧ f9.offset = 14) ∧ (SliceAt P f10.type t ∧ f10.offset = 15)
theorem B7e {t : TypeId} (A : B4U P t) : ∀ (fuel : Nat) (cs : List Value) (x : DataW H × List MemPlace), Rd enc P w held fuel t cs = some x → ∃ a : Ex, RC (aV w) w.heap a.enc cs ∧ a.J4 ≤ Ab x.1 := by
 intro fuel
 induction fuel using Nat.strongRecOn with
 | ind fuel ih =>
   intro cs x hr;have A0 := A;obtain ⟨f0, f1, f2, f3, f4, f5, f6, f7, f8, f9, f10, hu, hc, ⟨t0, o0⟩, ⟨t1, o1⟩, ⟨t2, o2⟩, ⟨t3, o3⟩, ⟨t4, o4⟩, ⟨t5, o5⟩, ⟨t6, o6⟩, ⟨t7, o7⟩, ⟨t8, o8⟩, ⟨t9, o9⟩, yl, o10⟩ := A;obtain ⟨n, ds, rfl, hb, hl, hd, hf⟩ := YF hu hr;rw [hc] at hl;obtain ⟨y0, r0, d0⟩ := hf 0 f0 rfl;rw [o0, t0.2] at r0;obtain ⟨v0, q0, -, b0⟩ := Qr t0.1 r0;obtain ⟨y1, r1, d1⟩ := hf 1 f1 rfl;obtain ⟨g10, g11, gu1, gc1, gr1⟩ := id t1;rw [o1, gc1] at r1;obtain ⟨v1, v1b, q1, b1⟩ := A8Y t1 r1;obtain ⟨y2, r2, d2⟩ := hf 2 f2 rfl;rw [o2, t2.2] at r2;obtain ⟨v2, q2, b2⟩ := yH t2.1 r2;obtain ⟨y3, r3, d3⟩ := hf 3 f3 rfl;rw [o3, t3.2] at r3;obtain ⟨v3, q3, b3⟩ := yH t3.1 r3;obtain ⟨y4, r4, d4⟩ := hf 4 f4 rfl;rw [o4, t4.2] at r4;obtain ⟨v4, q4, -, b4⟩ := Qr t4.1 r4;obtain ⟨y5, r5, d5⟩ := hf 5 f5 rfl;rw [o5, t5.2] at r5;obtain ⟨v5, q5, b5⟩ := yH t5.1 r5;obtain ⟨y6, r6, d6⟩ := hf 6 f6 rfl;rw [o6, t6.2] at r6;obtain ⟨v6, q6, -, b6⟩ := Qr t6.1 r6;obtain ⟨y7, r7, d7⟩ := hf 7 f7 rfl;rw [o7, t7.cells] at r7;obtain ⟨v7, q7, b7⟩ := A9Z t7 _ _ _ r7;rw [Ty.F9] at q7;simp only [RC] at q7;obtain ⟨y8, r8, d8⟩ := hf 8 f8 rfl;rw [o8, t8.cells] at r8;obtain ⟨v8, q8, b8⟩ := A9Z t8 _ _ _ r8;rw [Ty.F9] at q8;simp only [RC] at q8;obtain ⟨y9, r9, d9⟩ := hf 9 f9 rfl;obtain ⟨e9, s9, z9⟩ := t9;rw [o9, s9.2] at r9;obtain ⟨v9, q9, b9⟩ := SX (sz := D5.J4) s9.1 (by rw [z9.cells]; omega) (fun n' cs x hn h => B6f z9 n' cs x h) r9
   rw [z9.cells] at q9;obtain ⟨y10, r10, U2⟩ := hf 10 f10 rfl;rw [o10, yl.2] at r10;obtain ⟨v10, q10, b10⟩ := SX (sz := Ex.J4) yl.1 (by rw [hc]; omega) (fun n' cs x hn h => ih n' (by omega) cs x h) r10
   rw [hc] at q10;refine ⟨.mk v0 v1 v1b v2 v3 v4 v5 v6 v7 v8 v9 v10, ?_, ?_⟩
   ·rw [Ex.F9]
    simp only [RC, Ex.Km, Ex.zO, Ex.zK, Ex.Wl, Ex.A2B, Ex.jd, Ex.A1W, Ex.A5X, Ex.A9a, Ex.A9d, Ex.zV, Ex.CS];have e : cs = (cs.drop 0).take 1 ++ ((cs.drop 1).take 2 ++ ((cs.drop 3).take 1 ++ ((cs.drop 4).take 1 ++ ((cs.drop 5).take 1 ++ ((cs.drop 6).take 1 ++ ((cs.drop 7).take 1 ++ ((cs.drop 8).take 3 ++ ((cs.drop 11).take 3 ++ ((cs.drop 14).take 1 ++ ((cs.drop 15).take 1)))))))))) := by
     match cs, hl with
     | [c0, c1, c2, c3, c4, c5, c6, c7, c8, c9, c10, c11, c12, c13, c14, c15], _ => rfl
    rw [e];exact (Y0 (a := [_]) (Bn rfl q0) (Y0 (a := [_, _]) (q1) (Y0 (a := [_]) (Bn rfl q2) (Y0 (a := [_]) (Bn rfl q3) (Y0 (a := [_]) (Bn rfl q4) (Y0 (a := [_]) (Bn rfl q5) (Y0 (a := [_]) (Bn rfl q6) (Y0 (a := [_, _, _]) (q7) (Y0 (a := [_, _, _]) (q8) (Y0 (a := [_]) (Bn rfl q9) (Bn rfl q10)))))))))))
   ·rw [Ex.U9, hb]
    simp only [Ex.Km, Ex.zO, Ex.zK, Ex.Wl, Ex.A2B, Ex.jd, Ex.A1W, Ex.A5X, Ex.A9a, Ex.A9d, Ex.zV, Ex.CS];have hs : ds = [y0.1, y1.1, y2.1, y3.1, y4.1, y5.1, y6.1, y7.1, y8.1, y9.1, y10.1] := by
     have hd : ds.length = 11 := hd
     match ds, hd, d0, d1, d2, d3, d4, d5, d6, d7, d8, d9, U2 with
     | [a0, a1, a2, a3, a4, a5, a6, a7, a8, a9, ai], _, d0, d1, d2, d3, d4, d5, d6, d7, d8, d9, U2 => simp_all
    rw [hs];simp only [Fq];omega
def A8D (P : Program) (t : TypeId) : Prop := ∃ f0 f1 f2 : Field, P.underlying t = some (.struct #[f0, f1, f2]) ∧ P.cellsOf t = 3 ∧ ((∃ el, SliceAt P f0.type el ∧ A1C P el) ∧ f0.offset = 0) ∧ (A51 P f1.type ∧ f1.offset = 1) ∧ (SliceAt P f2.type t ∧ f2.offset = 2)
theorem B2Y {t : TypeId} (A : A8D P t) : ∀ (fuel : Nat) (cs : List Value) (x : DataW H × List MemPlace), Rd enc P w held fuel t cs = some x → ∃ a : A9, RC (aV w) w.heap a.enc cs ∧ a.J4 ≤ Ab x.1 := by
 intro fuel
 induction fuel using Nat.strongRecOn with
 | ind fuel ih =>
   intro cs x hr;have A0 := A;obtain ⟨f0, f1, f2, hu, hc, ⟨t0, o0⟩, ⟨t1, o1⟩, t2, o2⟩ := A;obtain ⟨n, ds, rfl, hb, hl, hd, hf⟩ := YF hu hr;rw [hc] at hl;obtain ⟨y0, r0, d0⟩ := hf 0 f0 rfl;obtain ⟨e0, s0, z0⟩ := t0;rw [o0, s0.2] at r0;obtain ⟨v0, q0, b0⟩ := SX (sz := Ty.size) s0.1 (by rw [z0.cells]; omega) (fun n' cs x hn h => A9Z z0 n' cs x h) r0
   rw [z0.cells] at q0;obtain ⟨y1, r1, d1⟩ := hf 1 f1 rfl;obtain ⟨e1, s1, z1⟩ := id t1;rw [o1, s1.2] at r1;obtain ⟨v1, q1, b1⟩ := B4B t1 r1;obtain ⟨y2, r2, d2⟩ := hf 2 f2 rfl;rw [o2, t2.2] at r2;obtain ⟨v2, q2, b2⟩ := SX (sz := A9.J4) t2.1 (by rw [hc]; omega) (fun n' cs x hn h => ih n' (by omega) cs x h) r2
   rw [hc] at q2;refine ⟨.mk v0 v1 v2, ?_, ?_⟩
   ·rw [A9.F9]
    simp only [RC, A9.A7Q, A9.A4r, A9.CS];have e : cs = (cs.drop 0).take 1 ++ ((cs.drop 1).take 1 ++ ((cs.drop 2).take 1)) := by
     match cs, hl with
     | [c0, c1, c2], _ => rfl
    rw [e];exact (Y0 (a := [_]) (Bn rfl q0) (Y0 (a := [_]) (Bn rfl q1) (Bn rfl q2)))
   ·rw [A9.U9, hb]
    simp only [A9.A7Q, A9.A4r, A9.CS];have hs : ds = [y0.1, y1.1, y2.1] := by
     have hd : ds.length = 3 := hd
     match ds, hd, d0, d1, d2 with
     | [a0, a1, a2], _, d0, d1, d2 => simp_all
    rw [hs];simp only [Fq];omega
end
end Go.Su

/-
 TYPES: what is said of them.
-/
namespace Go.Su
def arity (k : Int) : Int :=
 if k = 1 ∨ k = 2 ∨ k = 3 ∨ k = 4 ∨ k = 5 ∨ k = 6 then 0 else if k = 8 then 1 else if k = 7 ∨ k = 9 then 2 else -1
def Ty.right : Ty → Bool
 | .mk k n ks => decide (arity k = ks.length) && decide (0 ≤ n) && decide (n ≤ 1048576) && (decide (k = 6) || decide (n = 0)) && (ks.map Ty.right).all id
theorem Ty.right_eq (t : Ty) : t.right = (decide (arity t.kind = t.kids.length) && decide (0 ≤ t.n) && decide (t.n ≤ 1048576) && (decide (t.kind = 6) || decide (t.n = 0)) && t.kids.all Ty.right) := by
 cases t;rw [Ty.right];simp [z49q];rfl
def Ty.without (q : Int) : Ty → Bool
 | .mk k _ ks => !decide (k = q) && (ks.map (Ty.without q)).all id
theorem Ty.A3P (q : Int) (t : Ty) : t.without q = (!decide (t.kind = q) && t.kids.all (Ty.without q)) := by
 cases t;rw [Ty.without];simp [z49q];rfl
def Ty.deep : Ty → Int → Bool
 | .mk _ _ ks, n => decide (n ≤ 0) || (ks.map fun k => Ty.deep k (n - 1)).any id
def Ty.BO : Ty → List Int → List Int
 | .mk k n ks, l => ks.foldl (fun l k => Ty.BO k l) (if k = 6 ∧ n ∉ l then l ++ [n] else l)
def Ty.vars (t : Ty) : List Int := t.BO []
theorem Ty.YJ (t : Ty) (l : List Int) : t.BO l = t.kids.foldl (fun l k => k.BO l) (if t.kind = 6 ∧ t.n ∉ l then l ++ [t.n] else l) := by
 cases t;rw [Ty.BO];rfl
theorem Ty.B3T (t : Ty) (n : Int) : t.deep n = (decide (n ≤ 0) || t.kids.any fun k => k.deep (n - 1)) := by
 cases t;rw [Ty.deep];simp [List.any_map]
theorem Ty.A3N (t : Ty) : ∀ l : List Int, (t.BO l).length ≤ l.length + t.size := by
 induction t using Ty.ind with
 | h t ih =>
   intro l;rw [Ty.YJ];have key : ∀ (ks : List Ty), (∀ k ∈ ks, ∀ l : List Int, (k.BO l).length ≤ l.length + k.size) → ∀ l : List Int, (ks.foldl (fun l k => k.BO l) l).length ≤ l.length + (ks.map Ty.size).sum := by
    intro ks
    induction ks with
    | nil => intro _ l; simp
    | cons k ks ihk =>
      intro h l;simp only [z44q, z21q, z23q];have h1 := ihk (fun k' Cx => h k' (z5q _ Cx)) (k.BO l)
      have h2 := h k (z6q ..) l;omega
   have h1 := key t.kids ih (if t.kind = 6 ∧ t.n ∉ l then l ++ [t.n] else l)
   rw [Ty.size_eq];have h2 : (if t.kind = 6 ∧ t.n ∉ l then l ++ [t.n] else l).length ≤ l.length + 1 := by split <;> simp
   omega
def Ty.thin : Ty → Bool
 | .mk _ _ ks => decide (ks.length ≤ lim) && (ks.map Ty.thin).all id
theorem Ty.LC (t : Ty) : t.thin = (decide (t.kids.length ≤ lim) && t.kids.all Ty.thin) := by
 cases t;rw [Ty.thin];simp [z49q];rfl
theorem Ty.Av (t : Ty) (h : t.thin = true) : t.kids.length < 4294967297 := by
 rw [Ty.LC] at h;simp only [z3q, decide_eq_true_eq] at h;have := h.1;unfold lim at this;omega
theorem Ty.Bu {t k : Ty} (h : t.thin = true) (hk : k ∈ t.kids) : k.thin = true := by
 rw [Ty.LC] at h;simp only [z3q, z8q] at h;exact h.2 k hk
theorem Ty.DW {t : Ty} : t.size ≤ lim → t.thin = true := by
 induction t using Ty.ind with
 | h t ih =>
   intro h;rw [Ty.LC];simp only [z3q, decide_eq_true_eq, z8q];refine ⟨by have := t.x_; omega, fun k hk => ih k hk (by have := Ty.eF hk; omega)⟩
theorem B1W (k : Int) : arity k ≤ 2 := by unfold arity; split <;> (try split) <;> (try split) <;> omega
theorem Ty.U8 {t : Ty} : t.right = true → t.thin = true := by
 induction t using Ty.ind with
 | h t ih =>
   intro h;rw [Ty.right_eq] at h;simp only [z3q, decide_eq_true_eq, z8q] at h;rw [Ty.LC];simp only [z3q, decide_eq_true_eq, z8q];have := B1W t.kind;refine ⟨by unfold lim; omega, fun k hk => ih k hk (h.2 k hk)⟩
def Ty.BP : Ty → Nat
 | .mk k _ ks => (if k = 6 then 1 else 0) + (ks.map Ty.BP).sum
theorem Ty.iT (t : Ty) : t.BP = (if t.kind = 6 then 1 else 0) + (t.kids.map Ty.BP).sum := by
 cases t;rw [Ty.BP];rfl
theorem B0h {α : Type} {l : List α} {f g : α → Nat} (h : ∀ a ∈ l, f a ≤ g a) : (l.map f).sum ≤ (l.map g).sum := by
 induction l with
 | nil => simp
 | cons a l ih =>
   simp only [z21q, z23q];have := h a (z6q ..);have := ih fun b hb => h b (z5q _ hb)
   omega
theorem Ty.jo (t : Ty) : t.BP ≤ t.size := by
 induction t using Ty.ind with
 | h t ih =>
   rw [Ty.iT, Ty.size_eq];have := B0h ih
   split <;> omega
theorem Ty.jm (t : Ty) : ∀ l : List Int, (t.BO l).length ≤ l.length + t.BP := by
 induction t using Ty.ind with
 | h t ih =>
   intro l;rw [Ty.YJ];have key : ∀ (ks : List Ty), (∀ k ∈ ks, ∀ l : List Int, (k.BO l).length ≤ l.length + k.BP) → ∀ l : List Int, (ks.foldl (fun l k => k.BO l) l).length ≤ l.length + (ks.map Ty.BP).sum := by
    intro ks
    induction ks with
    | nil => intro _ l; simp
    | cons k ks ihk =>
      intro h l;simp only [z44q, z21q, z23q];have h1 := ihk (fun k' Cx => h k' (z5q _ Cx)) (k.BO l)
      have h2 := h k (z6q ..) l;omega
   have h1 := key t.kids ih (if t.kind = 6 ∧ t.n ∉ l then l ++ [t.n] else l)
   rw [Ty.iT];have h2 : (if t.kind = 6 ∧ t.n ∉ l then l ++ [t.n] else l).length ≤ l.length + (if t.kind = 6 then 1 else 0) := by
    by_cases h6 : t.kind = 6
    ·by_cases hn : t.n ∈ l <;> simp [h6, hn]
    ·simp [h6]
   omega
end Go.Su

/-
 THE DATA MACHINE: iterators over trees: which elements come.
-/
namespace Go.Su
def FH (f : DV → Option (List DV)) : List DV → Option (List DV)
 | [] => some []
 | d :: ds => ob (f d) fun a => ob (FH f ds) fun b => some (a ++ b)
def Y2 (sz kf : Nat) : Nat → DV → Option (List DV)
 | 0, _ => none
 | n + 1, d =>
   match d with
   | .agg cs => og (cs.length == sz) (match cs.getD kf .undef with
     | .list s ds => og (s == sz && decide (ds.length ≤ lim)) (ob (FH (Y2 sz kf n) ds) fun l => some (.agg cs :: l))
     | _ => none)
   | _ => none
open Classical in
noncomputable def Jn (sz kf : Nat) (cs : List DV) : Option (List DV) :=
 if h : ∃ ds n, Y2 sz kf n (.agg cs) = some ds then some h.choose else none
theorem Uy {f g : DV → Option (List DV)} (h : ∀ d l, f d = some l → g d = some l) : ∀ {ds l : List DV}, FH f ds = some l → FH g ds = some l
 | [], l, H => H
 | d :: ds, l, H => by
   simp only [FH] at H ⊢;obtain ⟨a, h1, H⟩ := C8 H;obtain ⟨b, h2, H⟩ := C8 H;rw [h _ _ h1, Uy h h2];exact H
theorem A6t {sz kf : Nat} : ∀ {n : Nat} {d : DV} {l : List DV}, Y2 sz kf n d = some l → Y2 sz kf (n + 1) d = some l
 | 0, d, l, H => by simp [Y2] at H
 | n + 1, d, l, H => by
   cases d with
   | agg cs =>
     rw [Y2] at H ⊢;obtain ⟨h1, H⟩ := F8 H;rw [h1];cases hk : cs.getD kf .undef with
     | list s ds =>
       rw [hk] at H;simp only at H ⊢;obtain ⟨h2, H⟩ := F8 H;rw [h2];obtain ⟨a, h3, H⟩ := C8 H;rw [Uy (fun d l h => A6t h) h3]
       exact H
     | _ => rw [hk] at H; simp at H
   | _ => simp [Y2] at H
theorem OG {sz kf n m : Nat} (h : n ≤ m) {d : DV} {l : List DV} (H : Y2 sz kf n d = some l) : Y2 sz kf m d = some l := by
 induction m with
 | zero => rw [z48q.1 h] at H; exact H
 | succ m ih =>
   rcases z27q m n with h1 | h1
   ·rw [show m + 1 = n by omega]; exact H
   ·exact A6t (ih h1)
theorem n_ {sz kf n : Nat} {cs ds : List DV} (H : Y2 sz kf n (.agg cs) = some ds) : Jn sz kf cs = some ds := by
 have h : ∃ ds n, Y2 sz kf n (.agg cs) = some ds := ⟨ds, n, H⟩;unfold Jn;rw [dif_pos h];obtain ⟨m, hm⟩ := h.choose_spec;have h1 := OG (z33q n m) H;have h2 := OG (z34q m n) hm;rw [h1] at h2;exact h2.symm
theorem Zi {sz kf : Nat} {cs ds : List DV} (H : Jn sz kf cs = some ds) : ∃ n, Y2 sz kf n (.agg cs) = some ds := by
 unfold Jn at H
 split at H
 ·rename_i h
  simp only [Option.some.injEq] at H;rw [← H];exact h.choose_spec
 ·cases H
structure NA (E : Env) (W : World) (E' : Env) (W' : World) : Prop where
 size : W.heap.size ≤ W'.heap.size
 blk : ∀ b, b < W.heap.size → (∀ o, E.O b o = .other) → W'.heap[b]? = W.heap[b]? ∧ ∀ o, E'.O b o = .other
 sh : X8 E.S W.heap E'.S W'.heap
theorem NA.trans {E E1 E2 : Env} {W W1 W2 : World} (h : NA E W E1 W1) (k : NA E1 W1 E2 W2) : NA E W E2 W2 := by
 refine ⟨z42q h.size k.size, fun b hb ho => ?_, ⟨fun b o hs => k.sh.s b o (h.sh.s b o hs), fun b o v hs hv => k.sh.c b o v (h.sh.s b o hs) (h.sh.c b o v hs hv)⟩⟩
 obtain ⟨h1, h2⟩ := h.blk b hb ho;obtain ⟨h3, h4⟩ := k.blk b (z29q hb h.size) h2;exact ⟨h3.trans h1, h4⟩
theorem NA.B3A {E E' : Env} {W W' : World} (P : Pr J8 E W.heap E' W'.heap) (hf : ∀ b o, W.heap.size ≤ b → E.O b o = .other) : NA E W E' W' := by
 refine ⟨P.size, fun b hb ho => ⟨?_, fun o => P.Wm hb (ho o)⟩, P.shut (by simp [J8]) hf⟩
 have hk := P.blk b hb;have TC : W.heap[b]? = some W.heap[b] := z14q hb;rw [TC] at hk ⊢;unfold X4 at hk
 split at hk
 ·rename_i hx; cases hx
 ·rename_i c T f hx
  simp only [Option.some.injEq] at hx;obtain ⟨c', h1, h2, h3⟩ := hk;rw [h1, hx]
  congr 2
  refine z69q fun o => h3 o ?_
  rw [ho o]; simp [J8]
 ·rename_i ob _ hx
  simp only [Option.some.injEq] at hx;rw [hx];exact hk (by rw [ho 0]; simp [J8])
theorem Nb.alloc {n : Nat} {E : Env} {W : World} (o : Obj) : Nb n E W (W.alloc o) := by
 refine ⟨by simp, fun b hb => .inl ?_, ⟨rfl, rfl, rfl⟩⟩
 exact Go.RowKit.Below.heap_alloc _ _ _ hb
theorem NA.alloc {E : Env} {W : World} (o : Obj) (hf : ∀ b o, W.heap.size ≤ b → E.O b o = .other) : NA E W E (W.alloc o) := by
 refine ⟨by simp, fun b hb ho => ⟨Go.RowKit.Below.heap_alloc _ _ _ hb, ho⟩, fun _ _ h => h, fun b o' v hs hv => ?_⟩
 have hb : b < W.heap.size := by
  rcases z27q b W.heap.size with h | h
  ·exact h
  ·have h9 := hf b o' h
   rw [show E.O b o' = .shut from hs] at h9; cases h9
 unfold hc at hv ⊢;rw [show (W.alloc o).heap[b]? = W.heap[b]? from Go.RowKit.Below.heap_alloc _ _ _ hb]
 exact hv
theorem NA.same {E : Env} {W W' : World} (hs : W.heap.size ≤ W'.heap.size) (h : ∀ b, b < W.heap.size → W'.heap[b]? = W.heap[b]?) (hf : ∀ b o, W.heap.size ≤ b → E.O b o = .other) : NA E W E W' := by
 refine ⟨hs, fun b hb ho => ⟨h b hb, ho⟩, fun _ _ h => h, fun b o' v hv hc0 => ?_⟩
 have hb : b < W.heap.size := by
  rcases z27q b W.heap.size with h | h
  ·exact h
  ·have h9 := hf b o' h
   rw [show E.O b o' = .shut from hv] at h9; cases h9
 unfold hc at hc0 ⊢;rw [h b hb];exact hc0
theorem Nb.same {n : Nat} {E : Env} {W W' : World} (hs : W.heap.size ≤ W'.heap.size) (h : ∀ b, b < W.heap.size → W'.heap[b]? = W.heap[b]?) (ho : Q5 W W') : Nb n E W W' :=
 ⟨hs, fun b hb => .inl (h b hb), ho⟩
theorem flat_agg {sz kf n : Nat} {d : DV} {l : List DV} {S : Q6} {h : Heap} {us : List Value} (H : Y2 sz kf n d = some l) (R : RC S h d us) : RV S h d (.agg us.toArray) := by
 cases n with
 | zero => simp [Y2] at H
 | succ n =>
   cases d with
   | agg cs =>
     simp only [RC] at R;simp only [RV];exact ⟨_, rfl, R⟩
   | _ => simp [Y2] at H
theorem A8I {d : DV} {ds ks pre sa sb : List DV} {k : Nat} (De : ∀ (j : Nat) x, (d :: ks)[j]? = some x → ds[k + j]? = some x) (hk : ks = pre ++ (sa ++ sb)) (j : Nat) (x : DV) (hj : sa[j]? = some x) : ds[k + 1 + pre.length + j]? = some x := by
 have hjl := (z1q.1 hj).1;have := De (pre.length + j + 1) x (by
  rw [z9q, hk, z31q (by omega), z47q, z13q hjl]
  exact hj)
 rw [← this]; congr 1; omega
theorem Y8 {P : Program} {W : World} {b j : Nat} {c : Array Value} {T : TypeId} {u : Value} (hb : W.heap[b]? = some (.cells c T (0, 0))) (hj : j < c.size) (hu : u.oneCell' = true) :
 ∃ W', (store ⟨b, j, none⟩ u).run P W = .ok () W' ∧ W'.heap[b]? = some (.cells (c.setIfInBounds j u) T (0, 0)) ∧ (∀ b', b' ≠ b → W'.heap[b']? = W.heap[b']?) ∧ W'.heap.size = W.heap.size ∧ Q5 W W' := by
 refine ⟨W.setCell ⟨b, j, none⟩ u, ?_, ?_, fun b' TC => ?_, by simp [World.setCell], ⟨rfl, rfl, rfl⟩⟩
 ·rw [run_store _ _ _ _ _ hu]
  simp [World.cell?, World.frozen?, hb, hj]
 ·simp [World.setCell, z61q, hb]
 ·simp [World.setCell, z61q, Ne.symm TC]
end Go.Su

/-
 NAMES and PATTERNS: what is said of them.
-/
namespace Go.Su
def BA (s : ByteArray) : List Int := s.data.toList.map fun b => (b.toNat : Int)
theorem Mf (s : ByteArray) : (BA s).length = s.size := by simp [BA]
theorem a_ {s : ByteArray} {k : IntKind} {i : Nat} (h : i < (BA s).length) : Y4 (.str s) (.int k (i : Int)) = some (.int .u8 (BA s)[i]) := by
 have h' : i < s.data.size := by simpa [BA] using h
 have e : s.data[i]? = some s.data[i] := z14q h';simp only [Y4, Int.natCast_nonneg, if_true, Int.toNat_natCast, e, z38q, BA, List.getElem_map, z62q]
def lowerB (c : Int) : Bool := decide (97 ≤ c) && decide (c ≤ 122)
def vC (c : Int) : Bool := decide (48 ≤ c) && decide (c ≤ 57)
def PY (c : Int) : Bool := lowerB c || vC c || (decide (65 ≤ c) && decide (c ≤ 90)) || decide (c = 95) || decide (c = 39)
def A39 : List (List UInt8) := [[108, 101, 116], [114, 101, 99], [105, 110], [102, 117, 110], [105, 102], [116, 104, 101, 110], [101, 108, 115, 101], [109, 97, 116, 99, 104], [119, 105, 116, 104], [101, 110, 100], [116, 114, 117, 101],
 [102, 97, 108, 115, 101], [105, 110, 116], [98, 111, 111, 108], [115, 116, 114, 105, 110, 103], [117, 110, 105, 116], [108, 105, 115, 116]]
def A1P (s : ByteArray) : Bool := decide (s.data.toList ∈ A39)
def JE (s : ByteArray) : Bool :=
 decide (1 ≤ s.size) && decide (s.size ≤ 32) && lowerB ((BA s).getD 0 0) && (BA s).all PY && !A1P s
def Cf : List UInt8 := [32, 108, 101, 116, 32, 114, 101, 99, 32, 105, 110, 32, 102, 117, 110, 32, 105, 102, 32, 116, 104, 101, 110, 32, 101, 108, 115, 101, 32, 109, 97, 116, 99, 104, 32, 119, 105, 116, 104, 32, 101, 110, 100, 32, 116, 114, 117, 101, 32, 102, 97, 108, 115, 101, 32, 105, 110, 116, 32, 98, 111, 111, 108, 32, 115, 116, 114, 105, 110, 103, 32, 117, 110, 105, 116, 32, 108, 105, 115, 116, 32]
def A1R (c : UInt8) : Bool := decide (97 ≤ c) && decide (c ≤ 122)
theorem B0k : (List.range 81).all (fun j => (List.range 80).all fun n =>
 !(decide (j + n + 2 ≤ 81) && ((Cf.drop j).take 1 == [32]) && ((Cf.drop (j + n + 1)).take 1 == [32]) && ((Cf.drop (j + 1)).take n).all A1R && decide (0 < n)) || decide ((Cf.drop (j + 1)).take n ∈ A39)) = true := by
 decide +kernel
theorem B1b : A39.all (fun x => decide (0 < x.length) && x.all A1R && (List.range 81).any fun j => decide (j + (x.length + 2) ≤ 81) && (Cf.drop j).take (x.length + 2) == 32 :: x ++ [32]) = true := by
 decide +kernel
theorem B1Q : Cf.length = 81 := rfl
theorem B1P (x : List UInt8) : (x.all A1R = true ∧ 0 < x.length ∧ ∃ j : Nat, j + (x.length + 2) ≤ 81 ∧ (Cf.drop j).take (x.length + 2) = 32 :: x ++ [32]) ↔ x ∈ A39 := by
 constructor
 ·rintro ⟨h1, h2, j, h3, h4⟩
  have h5 := z8q.1 (z8q.1 B0k j (by simp; omega)) x.length (by simp; omega)
  have e : (Cf.drop (j + 1)).take x.length = x := by
   have := congrArg (fun l => (l.drop 1).take x.length) h4
   simp only [List.drop_take, List.drop_drop] at this;simpa [z64q] using this
  have e1 : (Cf.drop j).take 1 = [32] := by
   have := congrArg (fun l => l.take 1) h4
   simpa [z64q] using this
  have e2 : (Cf.drop (j + x.length + 1)).take 1 = [32] := by
   have := congrArg (fun l => (l.drop (x.length + 1)).take 1) h4
   simp only [List.drop_take, List.drop_drop] at this;simpa [z64q, Nat.add_assoc, z47q, show x.length + 2 - (x.length + 1) = 1 by omega] using this
  rw [e, e1, e2] at h5;simpa [h1, h2, show j + x.length + 2 ≤ 81 by omega] using h5
 ·intro h
  have h5 := z8q.1 B1b x h;simp only [z3q, decide_eq_true_eq, List.any_eq_true, beq_iff_eq, List.mem_range] at h5;obtain ⟨⟨h1, h2⟩, j, h3, h4, h6⟩ := h5;exact ⟨h2, h1, j, h4, h6⟩
theorem A4Y (a b : ByteArray) : CJ (.str a) (.str b) = decide (a = b) := by
 simp only [CJ]; exact fP a b
theorem A4X (k k' : IntKind) (a b : Int) : CJ (.int k a) (.int k' b) = decide (a = b) := by
 simp only [CJ]; rfl
theorem A9M {a : ByteArray} {d : DV} (h : CJ (.str a) d = true) : d = .str a := by
 cases d <;> simp only [CJ] at h <;> try cases h
 rename_i s;have := A4G (a := a) (b := s) (by simpa using h)
 rw [this]
theorem B2O (es : List (DV × DV)) (a b : ByteArray) (v : DV) : Y7 (Cm es (.str a) v) (.str b) = if a = b then some v else Y7 es (.str b) := by
 induction es with
 | nil => by_cases h : a = b <;> simp [Cm, Y7, A4Y, h, eq_comm]
 | cons e es ih =>
   unfold Cm
   by_cases h1 : CJ (.str a) e.1 = true
   ·rw [if_pos h1]
    have := A9M h1;simp only [Y7, z45q, this, A4Y]
    by_cases h : a = b
    ·subst h; simp
    ·have : ¬ b = a := fun h' => h h'.symm
     simp [h, this]
   ·rw [if_neg h1]
    simp only [Y7, z45q] at ih ⊢
    by_cases h2 : CJ (.str b) e.1 = true
    ·simp only [h2]
     by_cases h : a = b
     ·subst h; exact absurd h2 h1
     ·simp [h]
    ·simp only [h2]
     exact ih
theorem A9L {k : IntKind} {a : Int} {d : DV} (h : CJ (.int k a) d = true) : ∃ k', d = .int k' a := by
 cases d <;> simp only [CJ] at h <;> try cases h
 rename_i k' n;exact ⟨k', by rw [show a = n by simpa using h]⟩
theorem A41 (es : List (DV × DV)) (a b : Int) (v : DV) : Y7 (Cm es (.int .i64 a) v) (.int .i64 b) = if a = b then some v else Y7 es (.int .i64 b) := by
 induction es with
 | nil => by_cases h : a = b <;> simp [Cm, Y7, A4X, h, eq_comm]
 | cons e es ih =>
   unfold Cm
   by_cases h1 : CJ (.int .i64 a) e.1 = true
   ·rw [if_pos h1]
    obtain ⟨k', this⟩ := A9L h1;simp only [Y7, z45q, this, A4X]
    by_cases h : a = b
    ·subst h; simp
    ·have : ¬ b = a := fun h' => h h'.symm
     simp [h, this]
   ·rw [if_neg h1]
    simp only [Y7, z45q] at ih ⊢
    by_cases h2 : CJ (.int .i64 b) e.1 = true
    ·simp only [h2]
     by_cases h : a = b
     ·subst h; exact absurd h2 h1
     ·simp [h]
    ·simp only [h2]
     exact ih
def K6 : ByteArray := ⟨#[]⟩
def D5.one (p : D5) : Bool :=
 if p.kind = 1 ∨ p.kind = 6 ∨ p.kind = 8 then decide (p.kids.length = 0) && decide (p.name = K6) && decide (p.n = 0) && decide (p.s = K6)
 else if p.kind = 2 then JE p.name && decide (p.kids.length = 0) && decide (p.n = 0) && decide (p.s = K6)
 else if p.kind = 3 then decide (p.kids.length = 0) && decide (p.name = K6) && decide (p.s = K6)
 else if p.kind = 4 then decide (p.n = 0 ∨ p.n = 1) && decide (p.kids.length = 0) && decide (p.name = K6) && decide (p.s = K6)
 else if p.kind = 5 then decide (p.s.size ≤ 200) && decide (p.kids.length = 0) && decide (p.name = K6) && decide (p.n = 0)
 else if p.kind = 7 ∨ p.kind = 9 then decide (p.kids.length = 2) && decide (p.name = K6) && decide (p.n = 0) && decide (p.s = K6)
 else false
def D5.thin : D5 → Bool
 | .mk _ _ _ _ _ _ ks => decide (ks.length ≤ lim) && (ks.map D5.thin).all id
theorem D5.LC (t : D5) : t.thin = (decide (t.kids.length ≤ lim) && t.kids.all D5.thin) := by
 cases t;rw [D5.thin];simp [z49q];rfl
theorem D5.Av (t : D5) (h : t.thin = true) : t.kids.length < 4294967297 := by
 rw [D5.LC] at h;simp only [z3q, decide_eq_true_eq] at h;have := h.1;unfold lim at this;omega
theorem D5.Bu {t k : D5} (h : t.thin = true) (hk : k ∈ t.kids) : k.thin = true := by
 rw [D5.LC] at h;simp only [z3q, z8q] at h;exact h.2 k hk
theorem D5.DW {t : D5} : t.size ≤ lim → t.thin = true := by
 induction t using D5.ind with
 | h t ih =>
   intro h;rw [D5.LC];simp only [z3q, decide_eq_true_eq, z8q];refine ⟨by have := t.x_; omega, fun k hk => ih k hk (by have := D5.eF hk; omega)⟩
def D5.pat : D5 → Bool
 | .mk a b c d e f ks => D5.one (.mk a b c d e f ks) && (ks.map D5.pat).all id
theorem D5.A3q (t : D5) : t.pat = (t.one && t.kids.all D5.pat) := by
 cases t;rw [D5.pat];simp [z49q]
def D5.Eo : D5 → List ByteArray → List ByteArray
 | .mk k _ _ nm _ _ ks, l => ks.foldl (fun l k => D5.Eo k l) (if k = 2 then l ++ [nm] else l)
theorem D5.oP (t : D5) (l : List ByteArray) : t.Eo l = t.kids.foldl (fun l k => k.Eo l) (if t.kind = 2 then l ++ [t.name] else l) := by
 cases t;rw [D5.Eo];rfl
def D5.names (t : D5) : List ByteArray := t.Eo []
theorem D5.je (t : D5) : ∀ l : List ByteArray, (t.Eo l).length ≤ l.length + t.size := by
 induction t using D5.ind with
 | h t ih =>
   intro l;rw [D5.oP];have key : ∀ (ks : List D5), (∀ k ∈ ks, ∀ l : List ByteArray, (k.Eo l).length ≤ l.length + k.size) → ∀ l : List ByteArray, (ks.foldl (fun l k => k.Eo l) l).length ≤ l.length + (ks.map D5.size).sum := by
    intro ks
    induction ks with
    | nil => intro _ l; simp
    | cons k ks ihk =>
      intro h l;simp only [z44q, z21q, z23q];have h1 := ihk (fun k' Cx => h k' (z5q _ Cx)) (k.Eo l)
      have h2 := h k (z6q ..) l;omega
   have h1 := key t.kids ih (if t.kind = 2 then l ++ [t.name] else l)
   rw [D5.size_eq];have h2 : (if t.kind = 2 then l ++ [t.name] else l).length ≤ l.length + 1 := by split <;> simp
   omega
def D5.subs : D5 → List D5
 | .mk a b c d e f ks => .mk a b c d e f ks :: (ks.map D5.subs).flatten
theorem D5.Mm (t : D5) : t.subs = t :: t.kids.flatMap D5.subs := by
 cases t;rw [D5.subs];rfl
def Yn (p : D5) : List ByteArray := if p.kind = 2 then [p.name] else []
theorem D5.A6Q (t : D5) : ∀ l : List ByteArray, t.Eo l = l ++ t.subs.flatMap Yn := by
 induction t using D5.ind with
 | h t ih =>
   intro l;have key : ∀ (ks : List D5), (∀ k ∈ ks, ∀ l : List ByteArray, k.Eo l = l ++ k.subs.flatMap Yn) → ∀ l : List ByteArray, ks.foldl (fun l k => k.Eo l) l = l ++ (ks.flatMap D5.subs).flatMap Yn := by
    intro ks
    induction ks with
    | nil => intro _ l; simp
    | cons k ks ihk =>
      intro h l;simp only [z44q, z70q, List.flatMap_append];rw [ihk (fun k' Cx => h k' (z5q _ Cx)), h k (z6q ..)]
      simp
   rw [D5.oP, key t.kids ih, D5.Mm];simp only [z70q, Yn]
   by_cases h : t.kind = 2 <;> simp [h, Yn]
theorem D5.B2V (t : D5) : t.pat = t.subs.all D5.one := by
 induction t using D5.ind with
 | h t ih =>
   rw [D5.A3q, D5.Mm];simp only [List.all_cons, List.all_flatMap]
   congr 1
   rw [Bool.eq_iff_iff];simp only [z8q];constructor
   ·intro h k hk x hx
    have := h k hk;rw [ih k hk] at this;exact z8q.1 this x hx
   ·intro h k hk
    rw [ih k hk];exact z8q.2 (h k hk)
def D5.right (t : D5) : Bool := t.pat && decide t.names.Nodup
theorem B2p (t : D5) : t.thin = true → ∃ n, Y2 7 6 n t.enc = some (t.subs.map D5.enc) := by
 induction t using D5.ind with
 | h t ih =>
   intro ht;have key : ∀ ks : List D5, (∀ k ∈ ks, ∃ n, Y2 7 6 n k.enc = some (k.subs.map D5.enc)) → ∃ n, FH (Y2 7 6 n) (ks.map D5.enc) = some ((ks.flatMap D5.subs).map D5.enc) := by
    intro ks
    induction ks with
    | nil => intro _; exact ⟨0, rfl⟩
    | cons k ks ihk =>
      intro h;obtain ⟨n, hn⟩ := h k (z6q ..);obtain ⟨m, hm⟩ := ihk fun k' Cx => h k' (z5q _ Cx)
      refine ⟨n + m, ?_⟩;simp only [z21q, FH, OG (z33q n m) hn, Uy (fun d l h => OG (z34q m n) h) hm, I1]
      simp
   obtain ⟨n, hn⟩ := key t.kids fun k hk => ih k hk (D5.Bu ht hk)
   refine ⟨n + 1, ?_⟩;rw [D5.LC] at ht;simp only [z3q, decide_eq_true_eq] at ht;rw [D5.F9, Y2];simp only [z10q, z58q, List.getD_cons_succ, List.getD_cons_zero, List.length_map, hn, I1, D5.Mm t, z21q];simp [ht.1, D5.F9]
def D5.texts (p : D5) : Prop := p.name.size ≤ 4294967000 ∧ p.s.size ≤ 4294967000
def D5.txt (p : D5) : Prop := ∀ q ∈ p.subs, q.texts
theorem D5.B21 (p : D5) : p ∈ p.subs := by rw [D5.Mm]; exact z6q ..
theorem D5.B4b {p k q : D5} (h : k ∈ p.kids) (hq : q ∈ k.subs) : q ∈ p.subs := by
 rw [D5.Mm];exact z5q _ (z39q.2 ⟨k, h, hq⟩)
theorem D5.B4Q {p k : D5} (h : p.txt) (hk : k ∈ p.kids) : k.txt := fun q hq => h q (D5.B4b hk hq)
end Go.Su
