/-
  Parts of the proof, merged: SuFrame3, SuDraw, SuDraw2, SuDraw3, SuItr, SuCode, SuFun, SuRun, SuCont, SuCont2, SuCont3, SuAt, SuTy, SuPl, SuJoin, SuRd.
-/
import Derived.Below
import Derived.ChangeArms
import Derived.DataReads
import Derived.IntWalk
import Derived.KernelRfl
import Derived.LoopNIn
import Derived.OrdersIn
import Derived.RangeFuncCalls
import Derived.RangeFuncLeaves
import Derived.Test.YtcfhnpbkdclodaaGreatP2
set_option linter.unusedVariables false
set_option linter.unusedSimpArgs false
/-
 THE DATA MACHINE, part 21: footprints, calls; every operation.
-/
open Array renaming getElem?_eq_some_iff → z1q, getElem?_setIfInBounds_ne → z5q, getElem?_setIfInBounds_self_of_lt → z17q, getElem?_eq_getElem → z26q, getElem?_replicate → z35q, getD_eq_getD_getElem? → z44q, length_toList → z50q
open Bool renaming false_eq_true → z6q, and_eq_true → z11q, not_eq_true' → z39q, or_eq_true_iff → z61q
open List renaming getD_eq_getElem?_getD → z0q, getElem?_eq_some_iff → z2q, getElem?_eq_getElem → z3q, getElem?_set_ne → z4q, mem_append → z7q, mem_cons_self → z8q, mem_cons_of_mem → z9q, getElem?_cons_succ → z10q, getElem?_map → z13q, getElem?_cons_zero → z14q, drop_eq_getElem_cons → z15q, length_cons → z16q, sizeOf_lt_of_mem → z18q, mem_singleton → z19q, set_comm → z21q, getElem?_set_self → z23q, getElem?_append_left → z25q, pairwise_append → z27q, flatMap_cons → z28q, eq_nil_of_length_eq_zero → z29q, attach_map_val → z30q, mem_map_of_mem → z31q, mem_flatMap → z32q, all_eq_true → z34q, getElem?_replicate → z36q, pairwise_cons → z37q, append_nil → z38q, getElem?_eq_none → z40q, sum_cons → z41q, mem_of_getElem? → z42q, contains_eq_mem → z43q, getElem?_append_right → z45q, map_cons → z46q, mem_cons → z47q, getElem?_zip_eq_some → z48q, length_eq_one_iff → z54q, drop_of_length_le → z55q, drop_length → z56q, mem_filter → z59q, getElem?_mapIdx → z60q, getElem?_ofFn → z63q, ext_getElem? → z64q, append_assoc → z66q, getElem?_set → z67q, range'_succ → z68q, filter_cons → z69q, map_nil → z70q
open Nat renaming le_refl → z12q, zero_add → z22q, lt_or_ge → z33q, le_of_not_lt → z52q, le_add_right → z53q, le_add_left → z57q, le_zero → z62q, le_trans → z65q
open Option renaming map_eq_some_iff → z20q, getD_some → z24q, map_some → z49q, isNone_iff_eq_none → z51q, bind_eq_some_iff → z58q
namespace Go.Su
section
variable {X : Type} {C : AO} {R : Q8} {fl : Flags} {o : Oper} {st : St} {k : St -> Option X} {x : X} {f : Fp} {c : Call} {y : Operand}
theorem B8H {t : TypeId} (F3 : o.op = .call c) (hc : c.callee = .builtin .len) (ha : c.args.toList = [y]) (ht : c.argTypes.toList = [t]) (H : Um C o y t st k = some x) (hr : K5 (M3 y) f.rt) (hw : K5 o.dst.toList f.wt) (hn : f.nb = none) (hrs : f.rs = true) : Fr C R fl o st k x f := by
 have GK : ∀ (Y : Type) (st : St) (k : St -> Option Y), I4 C R fl o st k = Um C o y t st k := fun Y st k => by simp only [I4, F3, FK, hc, ha, ht]
 unfold Um at H;obtain ⟨r, h1, H⟩ := C8 H
 split at H
 ·rename_i hu
  split at H
  ·rename_i hm
   refine M0 H hw hn fun st' A Y k' => ?_
   rw [GK];simp only [Um, A.src _ _ hr, h1, K4, hu, hm]
  ·rename_i hm
   rw [A1o] at H;refine M0 H hw hn fun st' A Y k' => ?_
   rw [GK];simp only [Um, A.src _ _ hr, h1, K4, hu, hm, A1o]
  ·rename_i hm
   obtain ⟨h2, H⟩ := F9 H;obtain ⟨d, h3, H⟩ := C8 H;refine M0 H hw hn fun st' A Y k' => ?_
   rw [GK];simp only [Um, A.src _ _ hr, h1, K4, hu, h2, V7, h3]
 ·rename_i hu
  obtain ⟨h2, H⟩ := F9 H;obtain ⟨d, h3, H⟩ := C8 H;refine M0 H hw hn fun st' A Y k' => ?_
  rw [GK];simp only [Um, A.src _ _ hr, h1, K4, hu, h2, V7, h3]
 ·rename_i hu
  obtain ⟨d, h3, H⟩ := C8 H;refine M0 H hw hn fun st' A Y k' => ?_
  rw [GK];simp only [Um, A.src _ _ hr, h1, K4, hu, A.s hrs, h3]
 ·simp at H
theorem B3G {v : Operand} {t u : TypeId} (F3 : o.op = .call c) (hc : c.callee = .builtin .append) (ha : c.args.toList = [y, v]) (ht : c.argTypes.toList = [t, u]) (H : Eh C fl o y v t u st k = some x) (hr : K5 (tmpsOf [y, v]) f.rt) (hw : K5 o.dst.toList f.wt) (hwy : K5 (M3 y) f.wt) (hn : f.nb = none) (hos : (J4 fl.opn o.dst || J4 fl.DR o.dst) = true -> f.rs = true /\ f.ws = true) : Fr C R fl o st k x f := by
 obtain ⟨q1, q2⟩ := Nh hr;have GK : ∀ (Y : Type) (st : St) (k : St -> Option Y), I4 C R fl o st k = Eh C fl o y v t u st k := fun Y st k => by simp only [I4, F3, FK, hc, ha, ht]
 unfold Eh at H
 by_cases QP : J4 fl.DR o.dst = true
 ·rw [if_pos QP] at H
  unfold A45 at H;obtain ⟨o1, o2⟩ := hos (by rw [QP]; simp)
  obtain ⟨r, h1, H⟩ := C8 H;obtain ⟨s, h2, H⟩ := C8 H;obtain ⟨sz, h3, H⟩ := C8 H;obtain ⟨h4, H⟩ := F9 H;obtain ⟨q, hq, H⟩ := C8 H;obtain ⟨p, h5, H⟩ := C8 H;obtain ⟨h6, H⟩ := F9 H;obtain ⟨d, h7, H⟩ := C8 H;refine ⟨_, H, by rw [hn]; simp, fun st' A => ⟨_, ((Two.refl A).FE o2 _).put hw _ _, fun Y k' => ?_⟩⟩
  rw [GK];simp only [Eh, if_pos QP, A45, A.src _ _ q1, A.src _ _ q2, h1, h2, h3, K4, h4, V7, hq, A.s o1, h5, h6, h7]
 rw [if_neg QP] at H;obtain ⟨r, h1, H⟩ := C8 H;obtain ⟨s, h2, H⟩ := C8 H;obtain ⟨sz, h3, H⟩ := C8 H;obtain ⟨h4, H⟩ := F9 H
 by_cases Vk : J4 fl.opn o.dst = true
 ·rw [if_pos Vk] at H
  obtain ⟨p, h5, H⟩ := C8 H;obtain ⟨o1, o2⟩ := hos (by rw [Vk]; simp)
  refine ⟨_, H, by rw [hn]; simp, fun st' A => ⟨_, (((Two.refl A).release hwy fun i hi => A.t i (q1 i hi)).FE o2 (st.sg ++ [C9.opn sz p.1 p.2])).put hw _ _, fun Y k' => ?_⟩⟩
  rw [GK];simp only [Eh, if_neg QP, A.src _ _ q1, A.src _ _ q2, h1, h2, h3, K4, h4, V7, if_pos Vk, h5, A.s o1]
 rw [if_neg Vk] at H;obtain ⟨d, h5, H⟩ := C8 H;refine ⟨_, H, by rw [hn]; simp, fun st' A => ⟨_, ((Two.refl A).release hwy fun i hi => A.t i (q1 i hi)).put hw _ _, fun Y k' => ?_⟩⟩
 rw [GK];simp only [Eh, if_neg QP, A.src _ _ q1, A.src _ _ q2, h1, h2, h3, K4, h4, V7, if_neg Vk, h5]
theorem B8I {v : Operand} {t u : TypeId} (F3 : o.op = .call c) (hc : c.callee = .builtin .max) (ha : c.args.toList = [y, v]) (ht : c.argTypes.toList = [t, u]) (H : I4 C R fl o st k = some x) (hr : K5 (tmpsOf [y, v]) f.rt) (hw : K5 o.dst.toList f.wt) (hn : f.nb = none) : Fr C R fl o st k x f := by
 obtain ⟨q1, q2⟩ := Nh hr;simp only [I4, F3, FK, hc, ha, ht] at H;obtain ⟨r, h1, H⟩ := C8 H;obtain ⟨s, h2, H⟩ := C8 H;obtain ⟨h4, H⟩ := F9 H;obtain ⟨d, h5, H⟩ := C8 H;refine M0 H hw hn fun st' A Y k' => ?_
 simp only [I4, F3, FK, hc, ha, ht, A.src _ _ q1, A.src _ _ q2, h1, h2, K4, h4, V7, h5]
theorem B8J {v : Operand} {t u : TypeId} (F3 : o.op = .call c) (hc : c.callee = .builtin .min) (ha : c.args.toList = [y, v]) (ht : c.argTypes.toList = [t, u]) (H : I4 C R fl o st k = some x) (hr : K5 (tmpsOf [y, v]) f.rt) (hw : K5 o.dst.toList f.wt) (hn : f.nb = none) : Fr C R fl o st k x f := by
 obtain ⟨q1, q2⟩ := Nh hr;simp only [I4, F3, FK, hc, ha, ht] at H;obtain ⟨r, h1, H⟩ := C8 H;obtain ⟨s, h2, H⟩ := C8 H;obtain ⟨h4, H⟩ := F9 H;obtain ⟨d, h5, H⟩ := C8 H;refine M0 H hw hn fun st' A Y k' => ?_
 simp only [I4, F3, FK, hc, ha, ht, A.src _ _ q1, A.src _ _ q2, h1, h2, K4, h4, V7, h5]
theorem B7j {g : FuncId} (F3 : o.op = .call c) (hc : c.callee = .value (.func g)) (h1 : C.clone g = false) (h0 : C.jA g = none) (h2 : C.sig g = none) (H : I4 C R fl o st k = some x) (hr : K5 (tmpsOf c.args.toList) f.rt) (hw : K5 o.dst.toList f.wt) (hn : f.nb = none) : Fr C R fl o st k x f := by
 have h1' : ¬ (C.clone g = true) := by rw [h1]; simp
 simp only [I4, F3, FK, hc, src, K4, Iu, if_neg h1', h0, h2, z70q, z38q] at H;obtain ⟨rs, h3, H⟩ := C8 H;obtain ⟨h4, H⟩ := F9 H;obtain ⟨d, h5, H⟩ := C8 H;refine M0 H hw hn fun st' A Y k' => ?_
 simp only [I4, F3, FK, hc, src, K4, Iu, if_neg h1', h0, h2, z70q, z38q, A.IU _ hr, h3, h4, V7, h5]
theorem Two.Gy {st' s s' : St} (A : Two f st st' s s') {g : Option (Nat × Operand)} (hx : ∀ p, g = some p -> K5 (M3 p.2) f.wt) (he : ∀ p, g = some p -> ∀ t ∈ M3 p.2, s'.tm[t]? = s.tm[t]? /\ s'.mt[t]? = s.mt[t]?) :
 Two f st st' (s.Gy g) (s'.Gy g) := by
 cases g with
 | none => exact A
 | some p => exact A.release (hx p rfl) (he p rfl)
theorem B8F (F3 : o.op = .call c) (hc : c.callee = .value y) (H : I4 C R fl o st k = some x) (hr : K5 (tmpsOf (y :: c.args.toList)) f.rt) (hw : K5 o.dst.toList f.wt) (hwa : K5 (tmpsOf c.args.toList) f.wt) (hn : f.nb = none) (hrs : f.rs = true) (hws : f.ws = true) : Fr C R fl o st k x f := by
 have q1 : K5 (M3 y) f.rt := fun i h => hr i (by simp only [tmpsOf, z28q, z7q]; exact .inl h)
 have q2 : K5 (tmpsOf c.args.toList) f.rt := fun i h => hr i (by simp only [tmpsOf, z28q, z7q] at h ⊢; exact .inr h)
 simp only [I4, F3, FK, hc] at H;obtain ⟨r, h1, H⟩ := C8 H;obtain ⟨rs, h2, H⟩ := C8 H
 split at H
 ·rename_i g caps hm
  have GK : ∀ st', FV f st st' -> ∀ (Y : Type) (k' : St -> Option Y), I4 C R fl o st' k' = Iu C R o g c.args.toList (rs ++ caps.map fun m => (.undef, .ptr m.1 m.2)) st' k' := by
   intro st' A Y k';simp only [I4, F3, FK, hc, A.src _ _ q1, A.IU _ q2, h1, h2, K4, hm]
  generalize rs ++ caps.map (fun m => ((.undef, .ptr m.1 m.2) : DV × Meta)) = rs' at H GK
  unfold Iu at H
  by_cases Xx : C.clone g = true
  ·rw [if_pos Xx] at H
   split at H
   ·rename_i r' 
    ·obtain ⟨p, hd, H⟩ := C8 H
     obtain ⟨h3, H⟩ := F9 H;refine ⟨_, H, by rw [hn]; simp, fun st' A => ⟨_, ((Two.refl A).FE hws _).put hw _ _, fun Y k' => ?_⟩⟩
     rw [GK st' A];simp only [Iu, if_pos Xx, hd, K4, h3, V7, A.s hrs]
   ·simp at H
  ·rw [if_neg Xx] at H
   cases hmk : C.jA g with
   | some g' =>
     rw [hmk] at H;simp only at H
     split at H
     ·rename_i r'
      obtain ⟨p, hd, H⟩ := C8 H;obtain ⟨h3, H⟩ := F9 H;refine ⟨_, H, by rw [hn]; simp, fun st' A => ⟨_, ((Two.refl A).FE hws _).put hw _ _, fun Y k' => ?_⟩⟩
      rw [GK st' A];simp only [Iu, if_neg Xx, hmk, hd, K4, h3, V7, A.s hrs]
     ·simp at H
   | none =>
   rw [hmk] at H;simp only at H
   split at H
   ·rename_i hs
    obtain ⟨h3, H⟩ := F9 H;obtain ⟨d, h4, H⟩ := C8 H;refine M0 H hw hn fun st' A Y k' => ?_
    rw [GK st' A];simp only [Iu, if_neg Xx, hmk, hs, h3, V7, h4, K4]
   ·rename_i s hs
    obtain ⟨h3, H⟩ := F9 H;obtain ⟨q, h4, H⟩ := C8 H;obtain ⟨H, h6⟩ := A3j H;have NP : ∀ p, En 0 s.params c.args.toList = some p -> K5 (M3 p.2) (tmpsOf c.args.toList) := by
     intro p hp i hi;obtain ⟨_, _, h5⟩ := wH hp;exact z32q.2 ⟨p.2, z42q h5, hi⟩
    refine ⟨_, H, by rw [hn]; simp, fun st' A => ⟨_, (((Two.refl A).FE hws q.2).Gy (fun p hp i hi => hwa i (NP p hp i hi)) fun p hp i hi => A.t i (q2 i (NP p hp i hi))).put hw _ _, fun Y k' => ?_⟩⟩
    rw [GK st' A];simp only [Iu, if_neg Xx, hmk, hs, h3, V7, A.s hrs, h4, K4];exact h6 _ _
 ·simp at H
def j5 (C : AO) (fl : Flags) (o : Oper) (st : St) : Fp :=
 if YC C o then { rt := tmpsOf o.op.operands.toList, wt := o.dst.toList } else Es fl o st
theorem K5.refl (a : List Nat) : K5 a a := fun _ h => h
theorem Ng (a b : List Nat) : K5 a (a ++ b) := fun _ h => z7q.2 (.inl h)
theorem rE (a b : List Nat) : K5 b (a ++ b) := fun _ h => z7q.2 (.inr h)
theorem A6o {c : Prop} [Decidable c] (a b : List Nat) (h : c) : K5 b (a ++ (if c then b else [])) := by rw [if_pos h]; exact rE _ _
theorem qH (H : I4 C R fl o st k = some x) : Fr C R fl o st k x (j5 C fl o st) := by
 have np : ∀ op, o.op = op -> (∀ c, op ≠ .call c) -> YC C o = false := by
  intro op h1 h2;unfold YC
  split
  ·rename_i c hc; exact absurd (h1.symm.trans hc) (h2 c)
  ·rfl
 have H0 := H;unfold I4 at H
 split at H
 ·rename_i y F3
  have e : j5 C fl o st = { rt := M3 y, wt := o.dst.toList ++ (if J4 fl.P7 o.dst then M3 y else []) } := by simp [j5, np _ F3 (by simp), Es, F3]
  rw [e];exact B1c (.inl F3) H0 (K5.refl _) (Ng _ _) (fun h => A6o _ _ h) rfl
 ·rename_i y F3
  have e : j5 C fl o st = { rt := M3 y, wt := o.dst.toList ++ (if J4 fl.P7 o.dst then M3 y else []) } := by simp [j5, np _ F3 (by simp), Es, F3]
  rw [e];exact B1c (.inr F3) H0 (K5.refl _) (Ng _ _) (fun h => A6o _ _ h) rfl
 ·rename_i c y z F3
  have e : j5 C fl o st = { rt := tmpsOf [c, y, z], wt := o.dst.toList } := by simp [j5, np _ F3 (by simp), Es, F3]
  rw [e];exact B7i F3 H0 (K5.refl _) (K5.refl _) rfl
 ·rename_i t F3
  have e : j5 C fl o st = if J4 fl.shared o.dst then { wt := o.dst.toList, rs := true, ws := true } else { wt := o.dst.toList, wb := o.dst.toList, nb := o.dst } := by simp [j5, np _ F3 (by simp), Es, F3]
  rw [e]
  by_cases hs : J4 fl.shared o.dst = true
  ·rw [if_pos hs]
   exact A8N F3 H0 (K5.refl _) (fun _ => ⟨rfl, rfl, rfl⟩) (fun h => by rw [hs] at h; cases h)
  ·rw [if_neg hs]
   exact A8N F3 H0 (K5.refl _) (fun h => absurd h hs) (fun h => ⟨rfl, K5.refl _⟩)
 ·rename_i t y F3
  have e : j5 C fl o st = if J4 fl.Wp o.dst then { rt := M3 y, wt := o.dst.toList } else if J4 fl.P7 o.dst then { rt := M3 y, wt := o.dst.toList ++ M3 y, wb := o.dst.toList, nb := o.dst } else if J4 fl.shared o.dst then { rt := M3 y, wt := o.dst.toList, rs := true, ws := true } else { rt := M3 y, wt := o.dst.toList, wb := o.dst.toList, nb := o.dst } := by simp [j5, np _ F3 (by simp), Es, F3]
  rw [e]
  by_cases Iy : J4 fl.Wp o.dst = true
  ·rw [if_pos Iy]
   exact A5g F3 H0 (K5.refl _) (K5.refl _) (fun _ => rfl) (fun h => by rw [Iy] at h; cases h) (fun h => by rw [Iy] at h; cases h) (fun h => by rw [Iy] at h; cases h)
  rw [if_neg Iy]
  by_cases S9 : J4 fl.P7 o.dst = true
  ·rw [if_pos S9]
   exact A5g F3 H0 (K5.refl _) (fun t ht => List.mem_append_left _ ht) (fun h => absurd h Iy) (fun _ _ => ⟨fun t ht => List.mem_append_right _ ht, rfl, K5.refl _⟩) (fun _ h => by rw [S9] at h; cases h) (fun _ h => by rw [S9] at h; cases h)
  rw [if_neg S9]
  by_cases hs : J4 fl.shared o.dst = true
  ·rw [if_pos hs]
   exact A5g F3 H0 (K5.refl _) (K5.refl _) (fun h => absurd h Iy) (fun _ h => absurd h S9) (fun _ _ _ => ⟨rfl, rfl, rfl⟩) (fun _ _ h => by rw [hs] at h; cases h)
  ·rw [if_neg hs]
   exact A5g F3 H0 (K5.refl _) (K5.refl _) (fun h => absurd h Iy) (fun _ h => absurd h S9) (fun _ _ h => absurd h hs) (fun _ _ h => ⟨rfl, K5.refl _⟩)
 ·rename_i t ps F3
  have e : j5 C fl o st = { rt := tmpsOf (ps.toList.map (·.2)), wt := o.dst.toList } := by simp [j5, np _ F3 (by simp), Es, F3]
  rw [e];exact B5n F3 H0 (K5.refl _) (K5.refl _) rfl
 ·rename_i t n ps F3
  have e : j5 C fl o st = { rt := tmpsOf (ps.toList.map (·.2)), wt := o.dst.toList, rs := J4 fl.DR o.dst, ws := J4 fl.DR o.dst } := by simp [j5, np _ F3 (by simp), Es, F3]
  rw [e];exact A7z F3 H0 (K5.refl _) (K5.refl _) rfl fun h => ⟨h, h⟩
 ·rename_i t y F3
  have hsr : ∃ r, src C.P 0 st y = some r := by unfold Br at H; obtain ⟨r, h, _⟩ := C8 H; exact ⟨r, h⟩
  obtain ⟨r, hr⟩ := hsr;obtain ⟨r', AR, hm⟩ := A96 C.P default hr;have e : j5 C fl o st = { rt := M3 y, wt := o.dst.toList, rb := (Dp r'.2).1, wb := if J4 fl.P7 o.dst then (Dp r'.2).1 else [], rs := (Dp r'.2).2, ws := (J4 fl.P7 o.dst || J4 fl.DR o.dst) && (Dp r'.2).2 } := by
   simp [j5, np _ F3 (by simp), Es, F3, AR]
  rw [e];refine B7h F3 H0 (K5.refl _) (K5.refl _) rfl fun r0 h0 => ?_
  rw [hr] at h0;cases h0;rw [hm];refine ⟨K5.refl _, id, fun S9 => ⟨?_, fun h => ?_⟩, fun QP h => ?_⟩
  ·simp only [S9, if_true]; exact K5.refl _
  ·simp only [S9, Bool.true_or, Bool.true_and]; exact h
  ·simp only [QP, Bool.or_true, Bool.true_and]; exact h
 ·rename_i t y v F3
  have hsr : ∃ r, src C.P 0 st y = some r := by unfold Cc at H; obtain ⟨r, h, _⟩ := C8 H; exact ⟨r, h⟩
  obtain ⟨r, hr⟩ := hsr;obtain ⟨r', AR, hm⟩ := A96 C.P default hr;have e : j5 C fl o st = { rt := tmpsOf [y, v], wt := o.dst.toList ++ EM st.mt v, rb := (Dp r'.2).1, wb := (Dp r'.2).1, rs := (Dp r'.2).2, ws := (Dp r'.2).2, so := if o.dst.isNone then aA r'.2 else none } := by
   simp [j5, np _ F3 (by simp), Es, F3, AR]
  rw [e];refine B5q F3 H0 (K5.refl _) (Ng _ _) (rE _ _) rfl fun r0 h0 => ?_
  rw [hr] at h0;cases h0;rw [hm];exact ⟨K5.refl _, id, K5.refl _, id⟩
 ·rename_i y F3
  have e : j5 C fl o st = { rt := M3 y, wt := o.dst.toList } := by simp [j5, np _ F3 (by simp), Es, F3]
  rw [e];exact B0w F3 H0 (K5.refl _) (K5.refl _) rfl
 ·rename_i op t y z yt F3
  have e : j5 C fl o st = { rt := tmpsOf [y, z], wt := o.dst.toList } := by simp [j5, np _ F3 (by simp), Es, F3]
  rw [e];exact B8G F3 H0 (K5.refl _) (K5.refl _) rfl
 ·rename_i op t y F3
  have e : j5 C fl o st = { rt := M3 y, wt := o.dst.toList } := by simp [j5, np _ F3 (by simp), Es, F3]
  rw [e];exact C0b F3 H0 (K5.refl _) (K5.refl _) rfl
 ·rename_i t y i F3
  have e : j5 C fl o st = { rt := M3 y, wt := o.dst.toList } := by simp [j5, np _ F3 (by simp), Es, F3]
  rw [e];exact A8O F3 H0 (K5.refl _) (K5.refl _) rfl
 ·rename_i t y i F3
  have e : j5 C fl o st = { rt := tmpsOf [y, i], wt := o.dst.toList } := by simp [j5, np _ F3 (by simp), Es, F3]
  rw [e];exact A8P F3 H0 (K5.refl _) (K5.refl _) rfl
 ·rename_i t y i F3
  have e : j5 C fl o st = { rt := tmpsOf [y, i], wt := o.dst.toList } := by simp [j5, np _ F3 (by simp), Es, F3]
  rw [e];exact B5o F3 H0 (K5.refl _) (K5.refl _) rfl
 ·rename_i t y lo hi mx F3
  have e : j5 C fl o st = { rt := tmpsOf (y :: (lo.toList ++ hi.toList ++ mx.toList)), wt := o.dst.toList } := by simp [j5, np _ F3 (by simp), Es, F3]
  rw [e];exact B5p F3 H0 (K5.refl _) (K5.refl _) rfl
 ·rename_i g first caps F3
  have e : j5 C fl o st = { rt := tmpsOf caps.toList, wt := o.dst.toList } := by simp [j5, np _ F3 (by simp), Es, F3]
  rw [e];exact B0v F3 H0 (K5.refl _) (K5.refl _) rfl
 ·rename_i t F3
  have e : j5 C fl o st = { rt := tmpsOf o.op.operands.toList, wt := o.dst.toList ++ tmpsOf o.op.operands.toList, rs := true, ws := true } := by simp [j5, np _ F3 (by simp), Es, F3]
  rw [e];exact B2d F3 H0 (Ng _ _) rfl rfl rfl
 ·rename_i t y v ok F3
  have e : j5 C fl o st = { rt := tmpsOf [y, v], wt := o.dst.toList, rs := true } := by simp [j5, np _ F3 (by simp), Es, F3]
  rw [e];exact B3H F3 H0 (K5.refl _) (K5.refl _) rfl rfl
 ·rename_i t y v u F3
  have e : j5 C fl o st = { rt := tmpsOf [y, v, u], wt := o.dst.toList ++ tmpsOf [y, v, u], rs := true, ws := true } := by simp [j5, np _ F3 (by simp), Es, F3, Op.operands]
  rw [e];exact A8Q F3 H0 (K5.refl _) (Ng _ _) rfl rfl rfl
 ·rename_i y i F3
  have e : j5 C fl o st = { rt := M3 y, wt := o.dst.toList ++ (if J4 fl.P7 o.dst then M3 y else []), ex := B5g y i o.dst } := by simp [j5, np _ F3 (by simp), Es, F3]
  rw [e];exact B2c F3 H0 (K5.refl _) (Ng _ _) (fun h => A6o _ _ h) rfl
 ·rename_i c F3
  unfold FK at H
  split at H
  ·rename_i b hb
   have np' : YC C o = false := by simp [YC, F3, hb]
   split at H
   ·rename_i h1 h2
    have e : j5 C fl o st = { rt := tmpsOf c.args.toList, wt := o.dst.toList, rs := true } := by simp [j5, np', Es, F3, hb]
    rw [e];exact B8H F3 hb h1 h2 H (by rw [h1]; simp only [tmpsOf, z28q, List.flatMap_nil, z38q]; exact K5.refl _) (K5.refl _) rfl rfl
   ·rename_i y v t u h1 h2
    have e : j5 C fl o st = { rt := tmpsOf c.args.toList, wt := o.dst.toList ++ tmpsOf c.args.toList, rs := J4 fl.opn o.dst || J4 fl.DR o.dst, ws := J4 fl.opn o.dst || J4 fl.DR o.dst } := by simp [j5, np', Es, F3, hb]
    rw [e];refine B3G F3 hb h1 h2 H (by rw [h1]; exact K5.refl _) (Ng _ _) ?_ rfl fun h => ⟨h, h⟩
    intro i hi;refine rE _ _ i ?_;rw [h1];simp only [tmpsOf, z28q, z7q];exact .inl hi
   ·rename_i h1 h2
    have e : j5 C fl o st = { rt := tmpsOf c.args.toList, wt := o.dst.toList } := by simp [j5, np', Es, F3, hb]
    rw [e];exact B8I F3 hb h1 h2 H0 (by rw [h1]; exact K5.refl _) (K5.refl _) rfl
   ·rename_i h1 h2
    have e : j5 C fl o st = { rt := tmpsOf c.args.toList, wt := o.dst.toList } := by simp [j5, np', Es, F3, hb]
    rw [e];exact B8J F3 hb h1 h2 H0 (by rw [h1]; exact K5.refl _) (K5.refl _) rfl
   ·simp at H
  ·rename_i y hy
   by_cases hp : YC C o = true
   ·have e : j5 C fl o st = { rt := tmpsOf o.op.operands.toList, wt := o.dst.toList } := by simp [j5, hp]
    rw [e];unfold YC at hp;rw [F3] at hp;simp only [hy] at hp
    split at hp
    ·rename_i g hg
     simp only [Callee.value.injEq] at hg;subst hg;simp only [z11q, z39q, z51q] at hp;refine B7j F3 hy hp.1.1 hp.1.2 hp.2 H0 (fun i hi => ?_) (K5.refl _) rfl
     simp only [F3, Op.operands, Call.operands, hy, Array.toList_append, tmpsOf, List.flatMap_append, z7q] at hi ⊢;exact .inr hi
    ·simp at hp
   ·have e : j5 C fl o st = { rt := tmpsOf (y :: c.args.toList), wt := o.dst.toList ++ tmpsOf c.args.toList, rs := true, ws := true } := by simp [j5, hp, Es, F3, hy]
    rw [e];exact B8F F3 hy H0 (K5.refl _) (Ng _ _) (rE _ _) rfl rfl rfl
  ·simp at H
 ·simp at H
end
end Go.Su

/-
 THE DATA MACHINE, part 22: regions, in the text's order and in any.
-/
namespace Go.Su
theorem KA {α : Type} {l l' : List α} (h : ∀ i : Nat, l'[i]? = l[i]?) : l' = l := z64q h
variable {f : Fp} {st : St} {s : St}
theorem Two.same {s' : St} (T : Two f st st s s') : s' = s := by
 have h1 : s'.tm = s.tm := KA fun i => by
  rcases T.t i with ⟨_, h, _⟩ | ⟨⟨h, _⟩, h', _⟩
  ·exact h
  ·rw [h, h']
 have h2 : s'.mt = s.mt := KA fun i => by
  rcases T.t i with ⟨_, _, h⟩ | ⟨⟨_, h⟩, _, h'⟩
  ·exact h
  ·rw [h, h']
 have h3 : s'.bx = s.bx := KA fun i => by
  rcases T.b i with ⟨_, h⟩ | ⟨h, h'⟩
  ·exact h
  ·rw [h, h']
 have h4 : s'.sg = s.sg := by
  rcases T.s with ⟨_, h⟩ | ⟨h, h'⟩
  ·exact h
  ·rw [h, h']
 cases s; cases s'; simp_all
theorem FV.refl (h : ∀ t, f.nb = some t -> Jc t st.mt = true) : FV f st st := ⟨rfl, rfl, rfl, fun _ _ => ⟨rfl, rfl⟩, fun _ _ => rfl, fun _ => rfl, h⟩
variable {o : Oper}
theorem qI {X : Type} {C : AO} {R : Q8} {fl : Flags} {k : St -> Option X} {x : X} (H : I4 C R fl o st k = some x) :
 ∃ s, k s = some x /\ ∀ (Y : Type) (k' : St -> Option Y), I4 C R fl o st k' = k' s := by
 obtain ⟨s, h1, h2, h3⟩ := qH H;obtain ⟨s', h4, h5⟩ := h3 st (FV.refl h2);rw [h4.same] at h5;exact ⟨s, h1, h5⟩
variable {t : Nat} {d : DV}
theorem Gn (h : (st.get t).1 = d) (hd : d ≠ .undef) : st.know t d = st := by
 unfold St.know;have ht : st.tm[t]? = some d := by
  simp only [St.get, z0q] at h;cases hx : st.tm[t]? with
  | none => rw [hx] at h; exact absurd h.symm hd
  | some e => rw [hx] at h; simp only [z24q] at h; rw [h]
 have : st.tm.set t d = st.tm := by
  apply z64q;intro i
  by_cases hi : t = i
  ·subst hi
   rw [List.getElem?_set_self' ];rw [ht]; rfl
  ·rw [z4q hi]
 rw [this]
theorem A9e {β : Type} {a b c : Option β} {x : β} (h : F7 d a b c = some x) : (d = .bool true /\ a = some x) \/ (d = .bool false /\ b = some x) \/ (d = .H7 [] /\ c = some x) := by
 unfold F7 at h
 split at h
 ·exact .inl ⟨rfl, h⟩
 ·exact .inr (.inl ⟨rfl, h⟩)
 ·exact .inr (.inr ⟨rfl, h⟩)
 ·simp at h
section
variable (C : AO) (R : Q8) (fl : Flags) (ops : List Oper)
def j4 (o : Oper) (s s1 : St) : Prop :=
 match o.guard with
 | none => I4 C R fl o s some = some s1
 | some (g, want) => ∃ t, JH ops g = some t /\ J6 (s.get t).2 = true /\
    (((s.get t).1 = .bool want /\ I4 C R fl o s some = some s1) \/ (((s.get t).1 = .bool !want \/ (s.get t).1 = .H7 []) /\ s1 = s.put o.dst (.H7 []) .val))
def wE (want : Bool) : DV -> Bool
 | .bool b => b == want
 | _ => false
def Bl (o : Oper) (s : St) : Fp :=
 match o.guard with
 | none => j5 C fl o s
 | some (g, want) =>
   match JH ops g with
   | none => {}
   | some t => if wE want (s.get t).1 then (j5 C fl o s).look t else { rt := [t], wt := o.dst.toList }
end
section
variable {C : AO} {R : Q8} {fl : Flags} {ops : List Oper} {o : Oper}
theorem FV.weaken {g : Fp} {st' : St} (A : FV f st st') (h1 : K5 g.rt f.rt) (h2 : K5 g.rb f.rb) (h3 : g.rs = true -> f.rs = true) (h4 : ∀ t, g.nb = some t -> f.nb = some t) : FV g st st' :=
 ⟨A.lt, A.lm, A.lb, fun i hi => A.t i (h1 i hi), fun i hi => A.b i (h2 i hi), fun h => A.s (h3 h), fun t h => A.n t (h4 t h)⟩
theorem FV.get {st' : St} (A : FV f st st') (h : t ∈ f.rt) : st'.get t = st.get t := by
 obtain ⟨h1, h2⟩ := A.t t h;simp only [St.get, Ju h1, Ju h2]
theorem B1b {st' : St} (A : FV (j5 C fl o st) st st') : j5 C fl o st' = j5 C fl o st := by
 unfold j5 at A ⊢
 split
 ·rfl
 ·rename_i hp
  rw [if_neg hp] at A;unfold Es at A ⊢
  split <;> rename_i F3
  all_goals first
   | rfl
   | (rename_i y
      cases y with
      | tmp t =>
        rw [F3] at A;simp only [src] at A ⊢;rw [A.get (t := t) (by simp [M3])]
      | _ => rfl)
   | (rename_i y v
      rw [F3] at A;simp only at A ⊢;have hrt : ∀ r, src default 0 st y = some r -> ∀ u ∈ M3 v, st'.mt[u]? = st.mt[u]? := fun r hr u hu => by
       rw [hr] at A;exact (A.t u (by simp [tmpsOf, hu])).2
      cases y with
      | tmp t =>
        simp only [src] at A hrt ⊢;rw [A.get (t := t) (by simp [M3, tmpsOf])]
        rw [oQ (hrt _ rfl)]
      | const c =>
        simp only [src] at A hrt ⊢;cases hc : cst default 0 c with
        | none => rfl
        | some r => rw [oQ (hrt _ hc)]
      | func f =>
        simp only [src] at A hrt ⊢;rw [oQ (hrt _ rfl)]
      | global g => rfl)
theorem aK {want : Bool} : wE want d = true ↔ d = .bool want := by
 unfold wE
 split
 ·simp
 ·rename_i h
  simp only [z6q, false_iff];intro hd;exact h _ hd
variable {s1 : St}
theorem A5L (H : j4 C R fl ops o s s1) : (∀ t, (Bl C fl ops o s).nb = some t -> Jc t s.mt = true) /\
 ∀ s', FV (Bl C fl ops o s) s s' -> Bl C fl ops o s' = Bl C fl ops o s /\ ∃ s1', Two (Bl C fl ops o s) s s' s1 s1' /\ j4 C R fl ops o s' s1' := by
 unfold j4 at H;unfold Bl j4
 split at H
 ·rename_i hg
  obtain ⟨s0, h1, h2, h3⟩ := qH H;simp only [Option.some.injEq] at h1;subst h1;refine ⟨h2, fun s' A => ⟨B1b A, ?_⟩⟩
  obtain ⟨s1', h4, h5⟩ := h3 s' A;exact ⟨s1', h4, h5 _ some⟩
 ·rename_i g want hg
  obtain ⟨t, ht, hd, H⟩ := H;simp only [ht];rcases H with ⟨hb, H⟩ | ⟨hb, H⟩
  ·have hB : wE want (s.get t).1 = true := aK.2 hb
   rw [if_pos hB];obtain ⟨s0, h1, h2, h3⟩ := qH H;simp only [Option.some.injEq] at h1;subst h1;refine ⟨h2, fun s' A => ?_⟩
   have A' : FV (j5 C fl o s) s s' := A.weaken (fun i hi => z9q _ hi) (fun _ h => h) id fun _ h => h
   have A3D : s'.get t = s.get t := A.get (z8q ..);rw [A3D, if_pos hB, B1b A'];refine ⟨rfl, ?_⟩;obtain ⟨s1', h4, h5⟩ := h3 s' A';refine ⟨s1', ⟨h4.l, h4.ls, h4.ls', h4.t, h4.b, h4.s⟩, t, rfl, by rw [A3D]; exact hd, .inl ⟨by rw [A3D]; exact hb, h5 _ some⟩⟩
  ·have hB : ¬ (wE want (s.get t).1 = true) := by
    rw [aK];rcases hb with h | h <;> rw [h] <;> cases want <;> simp
   rw [if_neg hB];refine ⟨by simp, fun s' A => ?_⟩
   have A3D : s'.get t = s.get t := A.get (z8q ..);rw [A3D, if_neg hB];refine ⟨rfl, s'.put o.dst (.H7 []) .val, ?_, t, rfl, by rw [A3D]; exact hd, .inr ⟨by rw [A3D]; exact hb, rfl⟩⟩
   rw [H];exact (Two.refl A).put (fun _ h => h) _ _
theorem j4.det {s2 : St} (H1 : j4 C R fl ops o s s1) (H2 : j4 C R fl ops o s s2) : s1 = s2 := by
 unfold j4 at H1 H2
 split at H1
 ·rename_i hg
  simp only [hg] at H2;rw [H1] at H2;simpa using H2
 ·rename_i g want hg
  simp only [hg] at H2;obtain ⟨t, ht, hd, H1⟩ := H1;obtain ⟨t', ht', Dq, H2⟩ := H2;rw [ht] at ht';cases ht';rcases H1 with ⟨a, b⟩ | ⟨a, b⟩ <;> rcases H2 with ⟨c, d⟩ | ⟨c, d⟩
  ·rw [b] at d; simpa using d
  ·rw [a] at c; cases want <;> simp at c
  ·rw [c] at a; cases want <;> simp at a
  ·rw [b, d]
theorem Iw {a b : List Nat} (h : ji a b = true) : ∀ i, i ∈ a -> i ∉ b := by
 intro i hi hb;have := z34q.1 h i hi;simp [hb] at this
variable {mt : List Meta} {i : Nat}
theorem El {mt' : List Meta} (h : mt'[i]? = mt[i]?) : Gg mt' i = Gg mt i := by
 unfold Gg; rw [Ju h]
theorem AL {α β : Type} {l : List α} {f g : α -> List β} (h : ∀ x ∈ l, f x = g x) : l.flatMap f = l.flatMap g := by
 induction l with
 | nil => rfl
 | cons a l ih => rw [z28q, z28q, h a (z8q ..), ih fun x hx => h x (z9q _ hx)]
theorem Zz : Jc t mt = true ↔ ∀ (i : Nat) s o, mt[i]? = some (.loc s o) -> s ≠ t := by
 unfold Jc;rw [z34q];constructor
 ·intro h i s o hi
  have := h _ (z42q hi);simpa using this
 ·intro h m hm
  obtain ⟨i, hi⟩ := List.mem_iff_getElem?.1 hm
  split
  ·rename_i s o
   simpa using h i s o hi
  ·rfl
variable {x : Nat} {d : Nat}
theorem B5i {o : Oper} (F3 : o.op = .extract (.tmp x) i) (hd : o.dst = some d) : I4 C R fl o s some = some s1 ↔
 ∃ dv, J5 i (s.get x).1 = some dv /\ (((s.get x).2 = .val /\ s1 = s.put (some d) dv .val) \/ ∃ ms, (s.get x).2 = .Bf ms /\
   ((ms.getD i .val = .own /\ J4 fl.P7 (some d) = true /\ s1 = { s with mt := s.mt.set x (.Bf (ms.set i .val)) }.put (some d) dv .own) \/
    ((ms.getD i .val = .val \/ (ms.getD i .val = .own /\ J4 fl.P7 (some d) = false)) /\ s1 = s.put (some d) dv .val))) := by
 simp only [I4, F3, hd, src, K4];generalize s.get x = r;obtain ⟨r1, r2⟩ := r;simp only;constructor
 ·intro H
  split at H
  ·obtain ⟨dv, h1, H⟩ := C8 H
   simp only [Option.some.injEq] at H;exact ⟨dv, h1, .inl ⟨rfl, H.symm⟩⟩
  ·rename_i ms
   obtain ⟨dv, h1, H⟩ := C8 H;refine ⟨dv, h1, .inr ⟨ms, rfl, ?_⟩⟩
   split at H
   ·rename_i hm
    split at H
    ·rename_i S9
     simp only [Option.some.injEq, St.rH] at H;exact .inl ⟨hm, S9, H.symm⟩
    ·rename_i S9
     simp only [Option.some.injEq] at H;exact .inr ⟨.inr ⟨hm, by simpa using S9⟩, H.symm⟩
   ·rename_i hm
    simp only [Option.some.injEq] at H;exact .inr ⟨.inl hm, H.symm⟩
   ·simp at H
  ·simp at H
 ·rintro ⟨dv, h1, ⟨h2, rfl⟩ | ⟨ms, h2, ⟨h3, h4, rfl⟩ | ⟨h3 | ⟨h3, h4⟩, rfl⟩⟩⟩
  ·subst h2; simp only [h1, K4]
  ·subst h2; simp only [h1, K4, h3, h4, if_true, St.rH]
  ·subst h2; simp only [h1, K4, h3]
  ·subst h2; simp only [h1, K4, h3, h4, z6q, if_false]
theorem B6D (h : (Bl C fl ops o s).ex = some (x, i, d)) : o.guard = none /\ o.op = .extract (.tmp x) i /\ o.dst = some d /\
 (∀ s', Bl C fl ops o s' = Bl C fl ops o s) /\ ∀ u ∈ (Bl C fl ops o s).wt, u = d \/ u = x := by
 unfold Bl at h
 split at h
 ·rename_i hg
  unfold j5 at h
  split at h
  ·simp at h
  ·rename_i hp
   unfold Es at h
   split at h
   all_goals first
    | (simp at h; done)
    | (split at h <;> simp at h; done)
    | (split at h <;> (try (simp at h; done)) <;> split at h <;> (try (simp at h; done)) <;> split at h <;> simp at h; done)
    | skip
   ·rename_i y j F3
    simp only [B5g] at h
    split at h
    ·rename_i t u hd
     simp only [Option.some.injEq, Prod.mk.injEq] at h;obtain ⟨rfl, rfl, rfl⟩ := h;refine ⟨hg, F3, hd, fun s' => ?_, fun u hu => ?_⟩
     ·unfold Bl j5 Es
      simp only [hg, F3, hp, z6q, if_false]
     ·unfold Bl j5 Es at hu
      simp only [hg, F3, hp, z6q, if_false, hd, Option.toList_some, z7q, z19q] at hu;rcases hu with hu | hu
      ·exact .inl hu
      ·split at hu
       ·simp only [M3, z19q] at hu; exact .inr hu
       ·simp at hu
    ·simp at h
   all_goals (split at h <;> (try simp at h) <;> (try (split at h <;> simp at h)))
 ·split at h
  ·simp at h
  ·split at h <;> simp [Fp.look] at h
variable {m : Meta}
theorem VC {v : DV} (h : d ≠ x) : (s.put (some d) v m).get x = s.get x := by
 simp only [St.get, St.put, z0q, z4q h]
def taken (s : St) (x i d : Nat) (dv : DV) (own : Bool) : St :=
 if own then { s with mt := s.mt.set x (match (s.get x).2 with | .Bf ms => .Bf (ms.set i .val) | m => m) }.put (some d) dv .own else s.put (some d) dv .val
def ways (fl : Flags) (d i : Nat) (m : Meta) (own : Bool) : Prop :=
 (m = .val /\ own = false) \/ ∃ ms, m = .Bf ms /\ ((ms.getD i .val = .own /\ J4 fl.P7 (some d) = true /\ own = true) \/ ((ms.getD i .val = .val \/ (ms.getD i .val = .own /\ J4 fl.P7 (some d) = false)) /\ own = false))
theorem iG {o : Oper} (F3 : o.op = .extract (.tmp x) i) (hd : o.dst = some d) : I4 C R fl o s some = some s1 ↔
 ∃ dv own, J5 i (s.get x).1 = some dv /\ ways fl d i (s.get x).2 own /\ s1 = taken s x i d dv own := by
 rw [B5i F3 hd];constructor
 ·rintro ⟨dv, h1, ⟨h2, rfl⟩ | ⟨ms, h2, ⟨h3, h4, rfl⟩ | ⟨h3, rfl⟩⟩⟩
  ·exact ⟨dv, false, h1, .inl ⟨h2, rfl⟩, rfl⟩
  ·exact ⟨dv, true, h1, .inr ⟨ms, h2, .inl ⟨h3, h4, rfl⟩⟩, by simp only [taken, if_true, h2]⟩
  ·exact ⟨dv, false, h1, .inr ⟨ms, h2, .inr ⟨h3, rfl⟩⟩, rfl⟩
 ·rintro ⟨dv, own, h1, ⟨h2, rfl⟩ | ⟨ms, h2, ⟨h3, h4, rfl⟩ | ⟨h3, rfl⟩⟩, rfl⟩
  ·exact ⟨dv, h1, .inl ⟨h2, rfl⟩⟩
  ·exact ⟨dv, h1, .inr ⟨ms, h2, .inl ⟨h3, h4, by simp only [taken, if_true, h2]⟩⟩⟩
  ·exact ⟨dv, h1, .inr ⟨ms, h2, .inr ⟨h3, rfl⟩⟩⟩
theorem fJ (h : ways fl d i m true) : ∃ ms, m = .Bf ms := by
 rcases h with ⟨_, h⟩ | ⟨ms, h, _⟩
 ·cases h
 ·exact ⟨ms, h⟩
variable {own : Bool}
theorem Rv {tm : List DV} {bx sg} (h : ways fl d i ((⟨tm, mt, bx, sg⟩ : St).get x).2 own) : Gg mt x = [] := by
 unfold Gg;rcases h with ⟨h, _⟩ | ⟨ms, h, _⟩ <;> simp only [St.get] at h <;> rw [h]
variable {dv : DV}
theorem rF {u : Nat} (h1 : u ≠ d) (h2 : u ≠ x) : (taken s x i d dv own).mt[u]? = s.mt[u]? := by
 unfold taken
 split
 ·simp only [St.put, z4q (Ne.symm h1), z4q (Ne.symm h2)]
 ·simp only [St.put, z4q (Ne.symm h1)]
theorem A3I {ms : List Meta} (h : (s.get x).2 = .Bf ms) : x < s.mt.length := by
 by_cases hx : x < s.mt.length
 ·exact hx
 ·simp [St.get, z0q, z40q (z52q hx)] at h
theorem A7o {j e : Nat} {own' : Bool} (PH : i ≠ j) (Xy : d ≠ x) (hw : ways fl d i (s.get x).2 own) :
 ((taken s x i d dv own).get x).1 = (s.get x).1 /\ (ways fl e j ((taken s x i d dv own).get x).2 own' ↔ ways fl e j (s.get x).2 own') := by
 unfold taken
 split
 ·rename_i ho
  subst ho;obtain ⟨ms, hm⟩ := fJ hw;have hx := A3I hm;have e1 : (({ s with mt := s.mt.set x (match (s.get x).2 with | .Bf ms => .Bf (ms.set i .val) | m => m) } : St).put (some d) dv .own).get x = ((s.get x).1, .Bf (ms.set i .val)) := by
   rw [VC Xy];simp only [St.get, z0q, z23q hx, z24q] at hm ⊢;rw [hm]
  rw [e1];refine ⟨rfl, ?_⟩;unfold ways;rw [hm];simp only [reduceCtorEq, false_and, false_or, Meta.Bf.injEq, exists_eq_left', z0q, z4q PH]
 ·rw [VC Xy]
  exact ⟨rfl, Iff.rfl⟩
theorem A7p (Xy : d ≠ x) (hw : ways fl d i (s.get x).2 own) : Gg (taken s x i d dv own).mt x = [] := by
 unfold taken
 split
 ·rename_i ho
  subst ho;obtain ⟨ms, hm⟩ := fJ hw;have hx := A3I hm;simp only [Gg, St.put, z0q, z4q Xy, z23q hx, z24q, hm]
 ·have := Rv (tm := s.tm) (mt := s.mt) (bx := s.bx) (sg := s.sg) hw
  rw [<- this];exact El (by simp only [St.put, z4q Xy])
theorem B2T {j e : Nat} {ev : DV} {o1 o2 : Bool} (PH : i ≠ j) (hde : d ≠ e) (Xy : d ≠ x) (hex : e ≠ x) (h1 : ways fl d i (s.get x).2 o1) (h2 : ways fl e j (s.get x).2 o2) :
 taken (taken s x i d dv o1) x j e ev o2 = taken (taken s x j e ev o2) x i d dv o1 := by
 cases o1 <;> cases o2
 ·simp only [taken, z6q, if_false, St.put, z21q _ _ hde]
 ·obtain ⟨ms, hm⟩ := fJ h2
  simp only [taken, z6q, if_false, if_true, VC Xy, hm];simp only [St.put, z21q _ _ hde, z21q _ _ Xy]
 ·obtain ⟨ms, hm⟩ := fJ h1
  simp only [taken, z6q, if_false, if_true, VC hex, hm];simp only [St.put, z21q _ _ hde, z21q _ _ hex]
 ·obtain ⟨ms, hm⟩ := fJ h1
  have hx := A3I hm;have g1 : ∀ (k f : Nat) (fv : DV), f ≠ x -> (({ s with mt := s.mt.set x (.Bf (ms.set k .val)) } : St).put (some f) fv .own).get x = ((s.get x).1, .Bf (ms.set k .val)) := by
   intro k f fv hf;rw [VC hf];simp only [St.get, z0q, z23q hx, z24q]
  simp only [taken, if_true, hm, g1 i d dv Xy, g1 j e ev hex];simp only [St.put, z21q _ _ hde, z21q _ _ hex, z21q _ _ Xy, List.set_set, z21q _ _ PH]
theorem B5j {oi oj : Oper} {j e : Nat} {s2 : St} (gi : oi.guard = none) (gj : oj.guard = none) (pi : oi.op = .extract (.tmp x) i) (pj : oj.op = .extract (.tmp x) j) (di : oi.dst = some d) (dj : oj.dst = some e) (PH : i ≠ j) (hde : d ≠ e) (Xy : d ≠ x) (hex : e ≠ x) (Hj : j4 C R fl ops oj s s1) (Hi : j4 C R fl ops oi s1 s2) :
 ∃ s1', j4 C R fl ops oi s s1' /\ j4 C R fl ops oj s1' s2 /\ (∀ u, u = d \/ u = x -> Gg s1'.mt u = Gg s2.mt u /\ Gg s.mt u = Gg s1.mt u) /\ (∀ u, u = e \/ u = x -> Gg s1'.mt u = Gg s.mt u /\ Gg s2.mt u = Gg s1.mt u) := by
 unfold j4 at Hi Hj ⊢;simp only [gi, gj] at Hi Hj ⊢;obtain ⟨dvj, oj1, hj1, hj2, rfl⟩ := (iG pj dj).1 Hj;obtain ⟨dvi, oi1, JR, Xz, rfl⟩ := (iG pi di).1 Hi;have tj := A7o (s := s) (x := x) (i := j) (j := i) (d := e) (e := d) (dv := dvj) (own' := oi1) (Ne.symm PH) hex hj2;rw [tj.1] at JR;have hi0 := tj.2.1 Xz;have ti := A7o (s := s) (x := x) (i := i) (j := j) (d := d) (e := e) (dv := dvi) (own' := oj1) PH Xy hi0;have hj3 := ti.2.2 hj2;have cm := B2T (s := s) (dv := dvi) (ev := dvj) PH hde Xy hex hi0 hj2;refine ⟨taken s x i d dvi oi1, (iG pi di).2 ⟨dvi, oi1, JR, hi0, rfl⟩, (iG pj dj).2 ⟨dvj, oj1, by rw [ti.1]; exact hj1, hj3, cm.symm⟩, ?_, ?_⟩
 ·rintro u (rfl | rfl)
  ·refine ⟨?_, ?_⟩
   ·rw [<- cm]; exact El (rF hde Xy).symm
   ·exact El (rF hde Xy).symm
  ·refine ⟨(Rv hj3).trans ?_, (Rv hi0).trans (Rv Xz).symm⟩
   exact (A7p Xy Xz).symm
 ·rintro u (rfl | rfl)
  ·refine ⟨?_, ?_⟩
   ·exact El (rF (Ne.symm hde) hex)
   ·exact El (rF (Ne.symm hde) hex)
  ·exact ⟨(Rv hj3).trans (Rv hi0).symm, (A7p Xy Xz).trans (Rv Xz).symm⟩
theorem A9d {k : Bool} (h : aA m = some k) : ∃ i, Z_ m = some i := by
 cases m <;> simp [aA] at h <;> exact ⟨_, rfl⟩
def A1c : C9 -> Bool
 | .opn _ _ _ => true
 | .M6 _ _ _ => true
 | _ => false
variable {t : TypeId}
theorem B3h {P : Program} {v : Value} {r : DV × Meta} (H : cst P t v = some r) : Z_ r.2 = none := by
 unfold cst at H
 split at H <;> simp only [Option.some.injEq, reduceCtorEq] at H <;> subst H <;> rfl
variable (s : St) (i : Nat) (ob : C9) (rl : Option Operand)
def stored : St :=
 match rl with
 | some v => St.release { s with sg := s.sg.set i ob } v
 | none => { s with sg := s.sg.set i ob }
theorem jK : (stored s i ob rl).sg = s.sg.set i ob := by
 unfold stored;cases rl with
 | none => rfl
 | some v => cases v <;> rfl
theorem A0S : (stored s i ob rl).tm = s.tm := by
 unfold stored;cases rl with
 | none => rfl
 | some v => cases v <;> rfl
theorem B4t : (stored s i ob rl).bx = s.bx := by
 unfold stored;cases rl with
 | none => rfl
 | some v => cases v <;> rfl
def aD (mt : List Meta) (rl : Option Operand) : List Meta :=
 match rl with
 | some (.tmp t) => mt.set t (dm (mt.getD t .val))
 | _ => mt
theorem Nf : (stored s i ob rl).mt = aD s.mt rl := by
 unfold stored aD;cases rl with
 | none => rfl
 | some v => cases v <;> rfl
theorem Wq {rl : Option Operand} {u : Nat} (h : ∀ v, rl = some v -> u ∉ EM mt v) : (aD mt rl)[u]? = mt[u]? := by
 unfold aD
 split
 ·rename_i t
  have := h _ rfl;rcases A9u (mt := mt) (t := t) with e | e
  ·rw [e] at this
   simp only [z19q] at this;rw [z4q (Ne.symm this)]
  ·rw [e]
 ·rfl
theorem B2D {r1 r2 : Option Operand} : aD (aD mt r1) r2 = aD (aD mt r2) r1 := by
 cases r1 with
 | none => rfl
 | some v1 =>
   cases r2 with
   | none => rfl
   | some v2 =>
     cases v1 <;> cases v2 <;> try rfl
     rename_i t t'
     by_cases hne : t = t'
     ·subst hne; rfl
     ·simp only [aD, z0q, z4q hne, z4q (Ne.symm hne)]
      rw [z21q _ _ hne]
variable {i : Nat}
theorem A9D {g g' : List C9} (h : g'[i]? = g[i]?) : E9 g' i = E9 g i := by unfold E9; rw [h]
theorem A9E {g g' : List C9} {n : Nat} (h : g'[i]? = g[i]?) : AX g' i n = AX g i n := by unfold AX; rw [h]
theorem B56 {g g' : List C9} (h : g'[i]? = g[i]?) : Fw g' i = Fw g i := by unfold Fw; rw [h]
theorem A5M {y v : Operand} {s : St} (F3 : o.op = .store t y v) (hd : o.dst = none) {r : DV × Meta} (hr : src C.P 0 s y = some r) (hi : Z_ r.2 = some i) {kd : Bool} (hk : aA r.2 = some kd) (H : I4 C R fl o s some = some s1) :
 ∃ ob rl, (rl = none \/ rl = some v) /\ (A1c ob = kd /\ ∃ old, s.sg[i]? = some old /\ A1c old = kd) /\ s1 = stored s i ob rl /\ ∀ s', src C.P 0 s' y = src C.P 0 s y -> src C.P t s' v = src C.P t s v -> s'.sg[i]? = s.sg[i]? -> I4 C R fl o s' some = some (stored s' i ob rl) := by
 simp only [I4, F3, Cc] at H;obtain ⟨r0, h1, H⟩ := C8 H;rw [hr] at h1;simp only [Option.some.injEq] at h1;subst h1;obtain ⟨u, h2, H⟩ := C8 H;obtain ⟨z, h3, H⟩ := C8 H;have pn : ∀ s : St, s.put o.dst (.H7 []) .val = s := fun s => by rw [hd]; rfl
 split at H
 ·rename_i hm; rw [hm] at hi; simp [Z_] at hi
 ·rename_i i' off hm
  rw [hm] at hi;simp only [Z_, Option.some.injEq] at hi;subst hi;rw [hm] at hk;simp only [aA, Option.some.injEq] at hk;subst hk;obtain ⟨cs, h4, H⟩ := C8 H;have ho : ∃ old, s.sg[i']? = some old /\ A1c old = false := by
   unfold E9 at h4
   split at h4
   ·rename_i hq; exact ⟨_, hq, rfl⟩
   ·cases h4
  by_cases hz : z.2 = true
  ·rw [if_pos hz] at H
   obtain ⟨xs, H, h5⟩ := Lc H;obtain ⟨h6, H⟩ := K9 H;rw [pn] at H;simp only [Option.some.injEq] at H;refine ⟨_, none, .inl rfl, ⟨rfl, ho⟩, H.symm, fun s' a1 a2 a3 => ?_⟩
   simp only [I4, F3, Cc, a1, hr, a2, h2, h3, K4, hm, A9D a3, h4, if_pos hz, h5, if_pos h6, pn];rfl
  ·rw [if_neg hz] at H
   obtain ⟨c, H, h5⟩ := Ka H;obtain ⟨c0, h6, H⟩ := C8 H;rw [pn] at H;simp only [Option.some.injEq] at H;refine ⟨_, some v, .inr rfl, ⟨rfl, ho⟩, H.symm, fun s' a1 a2 a3 => ?_⟩
   simp only [I4, F3, Cc, a1, hr, a2, h2, h3, K4, hm, A9D a3, h4, if_neg hz, h5, h6, pn];rfl
 ·rename_i hm; rw [hm] at hi; simp [Z_] at hi
 ·rename_i i' sz idx hm
  rw [hm] at hi;simp only [Z_, Option.some.injEq] at hi;subst hi;rw [hm] at hk;simp only [aA, Option.some.injEq] at hk;subst hk;obtain ⟨q, h4, H⟩ := C8 H;have ho : ∃ old, s.sg[i']? = some old /\ A1c old = true := by
   unfold Fw at h4
   split at h4
   ·rename_i hq; exact ⟨_, hq, rfl⟩
   ·cases h4
  obtain ⟨H, h6⟩ := XP H;obtain ⟨h7, H⟩ := F9 H;obtain ⟨x', h8, H⟩ := C8 H;rw [pn] at H;simp only [Option.some.injEq] at H;have hx : A1c x' = true := by
   unfold Lf at h8
   split at h8
   ·simp only [Option.some.injEq] at h8; subst h8; rfl
   ·cases h8
  refine ⟨x', none, .inl rfl, ⟨hx, ho⟩, H.symm, fun s' a1 a2 a3 => ?_⟩
  simp only [I4, F3, Cc, a1, hr, a2, h2, h3, K4, hm, B56 a3, h4, h6, h7, V7, h8, pn];rfl
 ·rename_i i' n sz idx off hm
  rw [hm] at hi;simp only [Z_, Option.some.injEq] at hi;subst hi;rw [hm] at hk;simp only [aA, Option.some.injEq] at hk;subst hk;obtain ⟨q, h4, H⟩ := C8 H;have ho : ∃ old, s.sg[i']? = some old /\ A1c old = true := ⟨_, aF h4, rfl⟩;obtain ⟨d, h5, H⟩ := C8 H;obtain ⟨h6, H⟩ := F9 H
  by_cases hz : z.2 = true
  ·rw [if_pos hz] at H
   obtain ⟨xs, H, h7⟩ := Lc H;obtain ⟨e, h8, H⟩ := C8 H;rw [pn] at H;simp only [Option.some.injEq] at H;refine ⟨_, none, .inl rfl, ⟨rfl, ho⟩, H.symm, fun s' a1 a2 a3 => ?_⟩
   simp only [I4, F3, Cc, a1, hr, a2, h2, h3, K4, hm, A9E a3, h4, h5, h6, V7, if_pos hz, h7, h8, pn];rfl
  ·rw [if_neg hz] at H
   obtain ⟨c, H, h7⟩ := Ka H;obtain ⟨e, h8, H⟩ := C8 H;rw [pn] at H;simp only [Option.some.injEq] at H;refine ⟨_, none, .inl rfl, ⟨rfl, ho⟩, H.symm, fun s' a1 a2 a3 => ?_⟩
   simp only [I4, F3, Cc, a1, hr, a2, h2, h3, K4, hm, A9E a3, h4, h5, h6, V7, if_neg hz, h7, h8, pn];rfl
 ·simp at H
theorem B6X {s : St} {i : Bool} (h : (Bl C fl ops o s).so = some i) : o.guard = none /\ o.dst = none /\ ∃ t y v r, o.op = .store t y v /\ src default 0 s y = some r /\ aA r.2 = some i /\
 (Bl C fl ops o s).rt = tmpsOf [y, v] /\ (Bl C fl ops o s).wt = EM s.mt v /\ ∀ s', src default 0 s' y = src default 0 s y -> EM s'.mt v = EM s.mt v -> Bl C fl ops o s' = Bl C fl ops o s := by
 unfold Bl at h ⊢
 split at h
 ·rename_i hg
  simp only [hg];unfold j5 at h ⊢
  split at h
  ·simp at h
  ·rename_i hp
   unfold Es at h
   split at h
   all_goals first
    | (simp at h; done)
    | (split at h <;> simp at h; done)
    | (split at h <;> (try (simp at h; done)) <;> split at h <;> (try (simp at h; done)) <;> split at h <;> simp at h; done)
    | skip
   ·rename_i t y v F3
    split at h
    ·rename_i r hr
     simp only at h
     by_cases hd : o.dst.isNone = true
     ·rw [if_pos hd] at h
      have Dq : o.dst = none := z51q.1 hd;refine ⟨trivial, Dq, t, y, v, r, F3, hr, h, ?_, ?_, fun s' hs hs2 => ?_⟩
      ·rw [if_neg hp]; unfold Es; simp only [F3, hr]
      ·rw [if_neg hp]; unfold Es; simp only [F3, hr, Dq, Option.toList_none, List.nil_append]
      ·rw [if_neg hp, if_neg hp]; unfold Es; simp only [F3, hr, hs, hs2]
     ·rw [if_neg hd] at h; cases h
    ·simp at h
   all_goals (split at h <;> (try simp at h) <;> (try (split at h <;> simp at h)))
 ·split at h
  ·simp at h
  ·split at h <;> simp [Fp.look] at h
theorem B7S {oi oj : Oper} {s s2 : St} (Hj : j4 C R fl ops oj s s1) (Hi : j4 C R fl ops oi s1 s2) (hc : A9L ((Bl C fl ops oj s).Ae s s1) ((Bl C fl ops oi s1).Ae s1 s2) = true) :
 ∃ s1', j4 C R fl ops oi s s1' /\ j4 C R fl ops oj s1' s2 /\ (Bl C fl ops oi s).Ae s s1' = (Bl C fl ops oi s1).Ae s1 s2 /\ (Bl C fl ops oj s1').Ae s1' s2 = (Bl C fl ops oj s).Ae s s1 := by
 unfold A9L at hc
 split at hc
 ·rename_i ka kb ha hb
  simp only [Fp.Ae] at ha hb;simp only [Fp.Ae, z11q, bne_iff_ne, ne_eq] at hc;obtain ⟨⟨⟨C1l, c1⟩, c2⟩, c3⟩ := hc;have c1 := Iw c1;have c2 := Iw c2;have c3 := Iw c3;obtain ⟨gj, dj, tj, yj, vj, rj, pj, sj, bj, ej, wj, fj⟩ := B6X ha;obtain ⟨gi, di, ti, yi, vi, ri, pi, si, bi, ei, wi, fi⟩ := B6X hb;obtain ⟨a, ja⟩ := A9d bj;obtain ⟨b, jb⟩ := A9d bi;rw [ei, wj] at c1;rw [wi, wj] at c2;rw [ej, wi] at c3;unfold j4 at Hi Hj;simp only [gi, gj] at Hi Hj;have real : ∀ {s : St} {y : Operand} {r : DV × Meta} {n : Nat}, src default 0 s y = some r -> Z_ r.2 = some n -> src C.P 0 s y = some r := by
   intro s y r n h1 h2;cases y with
   | tmp t => exact h1
   | const v =>
     simp only [src] at h1;have := B3h h1;rw [this] at h2; cases h2
   | func f => exact h1
   | global g => cases h1
  obtain ⟨obj, rlj, qj, ⟨oj1, old1, oj2, oj3⟩, e1, Gj⟩ := A5M pj dj (real sj ja) ja bj Hj;obtain ⟨obi, rli, qi, ⟨oi1, old2, oi2, oi3⟩, e2, Gi⟩ := A5M pi di (real si jb) jb bi Hi;have EG : a ≠ b := by
   rintro rfl;have hl : a < s.sg.length := by
    rcases z33q a s.sg.length with h | h
    ·exact h
    ·rw [z40q h] at oj2; cases oj2
   rw [e1, jK, z23q hl] at oi2;simp only [Option.some.injEq] at oi2;subst oi2;exact C1l (oj1.symm.trans oi3)
  have sj' : ∀ v, rlj = some v -> v = vj := fun v h => by rcases qj with q | q <;> rw [q] at h <;> simp at h; exact h.symm
  have si' : ∀ v, rli = some v -> v = vi := fun v h => by rcases qi with q | q <;> rw [q] at h <;> simp at h; exact h.symm
  have B6Y : ∀ {P : Program} {t : TypeId} {st st' : St} {y : Operand}, (∀ u ∈ M3 y, st'.tm[u]? = st.tm[u]? /\ st'.mt[u]? = st.mt[u]?) -> src P t st' y = src P t st y := by
   intro P t st st' y h;cases y with
   | tmp u =>
     obtain ⟨h1, h2⟩ := h u (by simp [M3])
     simp only [src, St.get, Ju h1, Ju h2]
   | _ => rfl
  have k1 : ∀ {P : Program} {t : TypeId} {y : Operand}, (∀ u ∈ M3 y, u ∉ EM s.mt vj) -> src P t s1 y = src P t s y := by
   intro P t y h;rw [e1];exact B6Y fun u hu => ⟨by rw [A0S], by rw [Nf, Wq fun v hv => by rw [sj' v hv]; exact h u hu]⟩
  have y1 : ∀ u ∈ M3 yi, u ∉ EM s.mt vj := fun u hu hv => c1 u hv (by simp [tmpsOf, hu])
  have y2 : ∀ u ∈ M3 vi, u ∉ EM s.mt vj := fun u hu hv => c1 u hv (by simp [tmpsOf, hu])
  have mtj : ∀ u, u ∉ EM s.mt vj -> s1.mt[u]? = s.mt[u]? := fun u hu => by rw [e1, Nf, Wq fun v hv => by rw [sj' v hv]; exact hu]
  have ri1 : EM s1.mt vi = EM s.mt vi := oQ fun u hu => mtj u (y2 u hu)
  rw [ri1] at wi c2 c3;have k2 : ∀ {P : Program} {t : TypeId} {y : Operand}, (∀ u ∈ M3 y, u ∉ EM s.mt vi) -> src P t (stored s b obi rli) y = src P t s y := by
   intro P t y h;exact B6Y fun u hu => ⟨by rw [A0S], by rw [Nf, Wq fun v hv => by rw [si' v hv]; exact h u hu]⟩
  have y3 : ∀ u ∈ M3 yj, u ∉ EM s.mt vi := fun u hu hv => c3 u hv (by simp [tmpsOf, hu])
  have y4 : ∀ u ∈ M3 vj, u ∉ EM s.mt vi := fun u hu hv => c3 u hv (by simp [tmpsOf, hu])
  have A1 := Gi s (k1 y1).symm (k1 y2).symm (by rw [e1, jK, z4q EG])
  have A2 := Gj (stored s b obi rli) (k2 y3) (k2 y4) (by rw [jK, z4q (Ne.symm EG)])
  have B8P : stored (stored s b obi rli) a obj rlj = s2 := by
   rw [e2, e1];have h1 : (stored (stored s b obi rli) a obj rlj).mt = (stored (stored s a obj rlj) b obi rli).mt := by
    simp only [Nf];exact B2D
   have h2 : (stored (stored s b obi rli) a obj rlj).sg = (stored (stored s a obj rlj) b obi rli).sg := by
    simp only [jK];rw [z21q _ _ (Ne.symm EG)]
   have h3 : (stored (stored s b obi rli) a obj rlj).tm = (stored (stored s a obj rlj) b obi rli).tm := by simp only [A0S]
   have h4 : (stored (stored s b obi rli) a obj rlj).bx = (stored (stored s a obj rlj) b obi rli).bx := by simp only [B4t]
   generalize stored (stored s b obi rli) a obj rlj = A at *;generalize stored (stored s a obj rlj) b obi rli = B at *;cases A; cases B; simp_all
  rw [B8P] at A2;have B89 : ∀ u, u ∉ EM s.mt vi -> (stored s b obi rli).mt[u]? = s.mt[u]? := fun u hu => by rw [Nf, Wq fun v hv => by rw [si' v hv]; exact hu]
  have rj1 : EM (stored s b obi rli).mt vj = EM s.mt vj := oQ fun u hu => B89 u (y4 u hu)
  have fi' := fi s (k1 y1).symm ri1.symm;have fj' := fj (stored s b obi rli) (k2 y3) rj1;have mti : ∀ u, u ∉ EM s.mt vi -> s2.mt[u]? = s1.mt[u]? := fun u hu => by rw [e2, Nf, Wq fun v hv => by rw [si' v hv, ri1]; exact hu]
  have C1y : ∀ u, u ∉ EM s.mt vj -> s2.mt[u]? = (stored s b obi rli).mt[u]? := fun u hu => by rw [<- B8P, Nf, Wq fun v hv => by rw [sj' v hv, rj1]; exact hu]
  refine ⟨stored s b obi rli, ?_, ?_, ?_, ?_⟩
  ·unfold j4; simp only [gi]; exact A1
  ·unfold j4; simp only [gj]; exact A2
  ·rw [fi']
   simp only [Fp.Ae, Fp.mk.injEq, true_and, and_true];rw [wi]
   congr 1
   ·exact AL fun u hu => (El (mtj u (y2 u (qc hu)))).symm
   ·exact AL fun u hu => (El (C1y u (y2 u (qc hu)))).symm
  ·rw [fj']
   simp only [Fp.Ae, Fp.mk.injEq, true_and, and_true];rw [wj]
   congr 1
   ·exact AL fun u hu => El (B89 u (y4 u (qc hu)))
   ·exact AL fun u hu => El (mti u (y4 u (qc hu)))
 ·cases hc
theorem B2R {oi oj : Oper} {s s2 : St} (Hj : j4 C R fl ops oj s s1) (Hi : j4 C R fl ops oi s1 s2) (hc : B1W ((Bl C fl ops oj s).Ae s s1) ((Bl C fl ops oi s1).Ae s1 s2) = true) :
 ∃ s1', j4 C R fl ops oi s s1' /\ j4 C R fl ops oj s1' s2 /\ (Bl C fl ops oi s).Ae s s1' = (Bl C fl ops oi s1).Ae s1 s2 /\ (Bl C fl ops oj s1').Ae s1' s2 = (Bl C fl ops oj s).Ae s s1 := by
 obtain ⟨nj, Fj⟩ := A5L Hj;obtain ⟨ni, Fi⟩ := A5L Hi;generalize hfj : Bl C fl ops oj s = f at *;generalize hfi : Bl C fl ops oi s1 = g at *;simp only [B1W, Fp.Ae, z11q, z39q, Bool.and_eq_false_imp, Bool.or_eq_false_iff] at hc;obtain ⟨⟨⟨⟨⟨⟨⟨⟨⟨c1, c2⟩, c3⟩, c4⟩, c5⟩, c6⟩, c7⟩, c8⟩, c9⟩, c10⟩ := hc;have c1 := Iw c1;have c2 := Iw c2;have c3 := Iw c3;have c4 := Iw c4;have c5 := Iw c5;have c6 := Iw c6;obtain ⟨-, Tj⟩ := Fj s (FV.refl nj);obtain ⟨s1x, Tj, Rj⟩ := Tj;obtain rfl := Rj.det Hj;obtain ⟨-, Ti⟩ := Fi s1x (FV.refl ni);obtain ⟨s2x, Ti, Ri⟩ := Ti;obtain rfl := Ri.det Hi;have B2A : ∀ u : Nat, u ∉ f.wt -> s1x.tm[u]? = s.tm[u]? /\ s1x.mt[u]? = s.mt[u]? := fun u hu => by
  rcases Tj.t u with ⟨h, _⟩ | ⟨h, _⟩
  ·exact absurd h hu
  ·exact h
 have C1z : ∀ u : Nat, u ∉ g.wt -> s2x.tm[u]? = s1x.tm[u]? /\ s2x.mt[u]? = s1x.mt[u]? := fun u hu => by
  rcases Ti.t u with ⟨h, _⟩ | ⟨h, _⟩
  ·exact absurd h hu
  ·exact h
 have C0y : ∀ u : Nat, u ∉ f.wb -> s1x.bx[u]? = s.bx[u]? := fun u hu => by
  rcases Tj.b u with ⟨h, _⟩ | ⟨h, _⟩
  ·exact absurd h hu
  ·exact h
 have Ai : FV g s1x s := by
  refine ⟨Tj.ls.1.symm, Tj.ls.2.1.symm, Tj.ls.2.2.symm, fun u hu => ?_, fun u hu => ?_, fun hr => ?_, fun t ht => ?_⟩
  ·have := B2A u fun h => c1 u h hu
   exact ⟨this.1.symm, this.2.symm⟩
  ·exact (C0y u fun h => c4 u h hu).symm
  ·rcases Tj.s with ⟨h, _⟩ | ⟨h, _⟩
   ·rw [(c7 h).1] at hr; cases hr
   ·exact h.symm
  ·rw [Zz]
   intro u s0 o0 hu S9
   by_cases hw : u ∈ f.wt
   ·have dV : A1f g (f.Ae s s1x) = true := c10
    simp only [A1f, ht, z39q, z43q, decide_eq_false_iff_not, Fp.Ae, z7q, not_or] at dV;refine dV.1 (z32q.2 ⟨u, hw, ?_⟩);simp only [Gg, z0q, hu, z24q, z19q];exact S9.symm
   ·have := Zz.1 (ni t ht) u s0 o0 (by rw [(B2A u hw).2]; exact hu)
    exact this S9
 obtain ⟨ei, s1', Ti', Ri'⟩ := Fi s Ai;have Aj : FV f s s1' := by
  refine ⟨Ti'.ls'.1.trans Tj.ls.1, Ti'.ls'.2.1.trans Tj.ls.2.1, Ti'.ls'.2.2.trans Tj.ls.2.2, fun u hu => ?_, fun u hu => ?_, fun hr => ?_, fun t ht => ?_⟩
  ·rcases Ti'.t u with ⟨h, _⟩ | ⟨h, _⟩
   ·exact absurd hu (c3 u h)
   ·exact h
  ·rcases Ti'.b u with ⟨h, _⟩ | ⟨h, _⟩
   ·exact absurd hu (c6 u h)
   ·exact h
  ·rcases Ti'.s with ⟨h, _⟩ | ⟨h, _⟩
   ·rw [(c8 h).1] at hr; cases hr
   ·exact h
  ·rw [Zz]
   intro u s0 o0 hu S9;rcases Ti'.t u with ⟨hw, _, h⟩ | ⟨⟨_, h⟩, _⟩
   ·have h9 : A1f f (g.Ae s1x s2x) = true := c9
    simp only [A1f, ht, z39q, z43q, decide_eq_false_iff_not, Fp.Ae, z7q, not_or] at h9;refine h9.2 (z32q.2 ⟨u, hw, ?_⟩);rw [h] at hu;simp only [Gg, z0q, hu, z24q, z19q];exact S9.symm
   ·exact Zz.1 (nj t ht) u s0 o0 (by rw [<- h]; exact hu) S9
 obtain ⟨ej, s2', Tj', Rj'⟩ := Fj s1' Aj;have hs : s2' = s2x := by
  have tt : ∀ u : Nat, s2'.tm[u]? = s2x.tm[u]? /\ s2'.mt[u]? = s2x.mt[u]? := fun u => by
   rcases Ti'.t u with ⟨hi, h1, h2⟩ | ⟨⟨h1, h2⟩, h3, h4⟩ <;> rcases Tj'.t u with ⟨hj, h5, h6⟩ | ⟨⟨h5, h6⟩, h7, h8⟩
   ·exact absurd hi (c2 u hj)
   ·exact ⟨h5.trans h1, h6.trans h2⟩
   ·exact ⟨h5.trans h3.symm, h6.trans h4.symm⟩
   ·exact ⟨by rw [h5, h1, h3, h7], by rw [h6, h2, h4, h8]⟩
  have bb : ∀ u : Nat, s2'.bx[u]? = s2x.bx[u]? := fun u => by
   rcases Ti'.b u with ⟨hi, h1⟩ | ⟨h1, h3⟩ <;> rcases Tj'.b u with ⟨hj, h5⟩ | ⟨h5, h7⟩
   ·exact absurd hi (c5 u hj)
   ·exact h5.trans h1
   ·exact h5.trans h3.symm
   ·rw [h5, h1, h3, h7]
  have ss : s2'.sg = s2x.sg := by
   rcases Ti'.s with ⟨hi, h1⟩ | ⟨h1, h3⟩ <;> rcases Tj'.s with ⟨hj, h5⟩ | ⟨h5, h7⟩
   ·have := (c7 hj).2; rw [hi] at this; cases this
   ·exact h5.trans h1
   ·exact h5.trans h3.symm
   ·rw [h5, h1, h3, h7]
  have h1 : s2'.tm = s2x.tm := KA fun i => (tt i).1
  have h2 : s2'.mt = s2x.mt := KA fun i => (tt i).2
  have h3 : s2'.bx = s2x.bx := KA bb;cases s2'; cases s2x; simp_all
 subst hs;refine ⟨s1', Ri', Rj', ?_, ?_⟩
 ·rw [ei]
  simp only [Fp.Ae, Fp.mk.injEq, true_and, and_true]
  congr 1
  ·exact AL fun u hu => (El (B2A u fun h => c2 u h hu).2).symm
  ·refine AL fun u hu => El ?_
   rcases Ti'.t u with ⟨_, _, h⟩ | ⟨⟨_, h2⟩, _, h4⟩
   ·exact h
   ·rw [h2, h4, (B2A u fun h => c2 u h hu).2]
 ·rw [ej]
  simp only [Fp.Ae, Fp.mk.injEq, true_and, and_true]
  congr 1
  ·refine AL fun u hu => El ?_
   rcases Ti'.t u with ⟨h, _⟩ | ⟨⟨_, h⟩, _⟩
   ·exact absurd h (c2 u hu)
   ·exact h
  ·exact AL fun u hu => El (C1z u fun h => c2 u hu h).2
theorem B4s {oi oj : Oper} {s s2 : St} (Hj : j4 C R fl ops oj s s1) (Hi : j4 C R fl ops oi s1 s2) (hc : comm ((Bl C fl ops oj s).Ae s s1) ((Bl C fl ops oi s1).Ae s1 s2) = true) :
 ∃ s1', j4 C R fl ops oi s s1' /\ j4 C R fl ops oj s1' s2 /\ (Bl C fl ops oi s).Ae s s1' = (Bl C fl ops oi s1).Ae s1 s2 /\ (Bl C fl ops oj s1').Ae s1' s2 = (Bl C fl ops oj s).Ae s s1 := by
 unfold comm at hc;rcases z61q.1 hc with hc | hc
 rotate_left
 ·exact B7S Hj Hi hc
 rcases z61q.1 hc with hc | hc
 ·exact B2R Hj Hi hc
 ·unfold B3A at hc
  split at hc
  ·rename_i x j e y i d h1 h2
   simp only [Fp.Ae] at h1 h2;simp only [z11q, beq_iff_eq, bne_iff_ne, ne_eq] at hc;obtain ⟨⟨⟨⟨rfl, c2⟩, c3⟩, c4⟩, c5⟩ := hc;obtain ⟨gj, pj, dj, fj, wj⟩ := B6D h1;obtain ⟨gi, pi, di, fi, wi⟩ := B6D h2;obtain ⟨s1', k1, k2, k3, k4⟩ := B5j gi gj pi pj di dj (Ne.symm c2) (Ne.symm c3) c5 c4 Hj Hi;refine ⟨s1', k1, k2, ?_, ?_⟩
   ·rw [fi s]
    simp only [Fp.Ae, Fp.mk.injEq, true_and, and_true]
    congr 1
    ·exact AL fun u hu => (k3 u (wi u hu)).2
    ·exact AL fun u hu => (k3 u (wi u hu)).1
   ·rw [fj s1']
    simp only [Fp.Ae, Fp.mk.injEq, true_and, and_true]
    congr 1
    ·exact AL fun u hu => (k4 u (wj u hu)).1
    ·exact AL fun u hu => (k4 u (wj u hu)).2
  ·cases hc
end
end Go.Su

/-
 THE DATA MACHINE, part 23: regions, in the text's order and in any.
-/
namespace Go.Su
section
variable {X : Type} {C : AO} {R : Q8} {fl : Flags} {ops : List Oper} {o : Oper}
theorem A6z (hg : o.guard = none) (s s1 : St) : j4 C R fl ops o s s1 ↔ I4 C R fl o s some = some s1 := by unfold j4; rw [hg]
variable {g : Nat} {want : Bool} {t : Nat}
theorem gK (hg : o.guard = some (g, want)) (ht : JH ops g = some t) (s s1 : St) : j4 C R fl ops o s s1 ↔ J6 (s.get t).2 = true /\
 (((s.get t).1 = .bool want /\ I4 C R fl o s some = some s1) \/ (((s.get t).1 = .bool !want \/ (s.get t).1 = .H7 []) /\ s1 = s.put o.dst (.H7 []) .val)) := by
 unfold j4; rw [hg];simp only [ht, Option.some.injEq, exists_eq_left']
theorem A8L (hg : o.guard = none) (s : St) : Bl C fl ops o s = j5 C fl o s := by unfold Bl; rw [hg]
theorem A8M (hg : o.guard = some (g, want)) (ht : JH ops g = some t) (s : St) :
 Bl C fl ops o s = if wE want (s.get t).1 then (j5 C fl o s).look t else { rt := [t], wt := o.dst.toList } := by
 unfold Bl; rw [hg];simp only [ht]
variable {st : St} {x : X}
theorem A9A {J : St -> Option X} (hb : (st.get t).1 = .bool want) (H : I4 C R fl o (st.know t (.bool want)) J = some x) :
 ∃ s1, I4 C R fl o st some = some s1 /\ J s1 = some x := by
 rw [Gn hb (by simp)] at H
 obtain ⟨s1, h1, h2⟩ := qI H;exact ⟨s1, h2 _ some, h1⟩
variable {os : List Oper}
theorem A2I {bf : List (List Nat)} {i : Nat} {acc : List (Nat × Fp)} {k : St -> Option X} (H : CQ C R fl ops bf (o :: os) i acc st k = some x) :
 ∃ s1, j4 C R fl ops o st s1 /\ IY bf i acc ((Bl C fl ops o st).Ae st s1) = true /\ CQ C R fl ops bf os (i + 1) ((i, (Bl C fl ops o st).Ae st s1) :: acc) s1 k = some x := by
 simp only [CQ, Zw, A5e] at H
 split at H
 ·rename_i hg
  rw [A8L hg];obtain ⟨s1, h1, h2⟩ := qI H;obtain ⟨h3, h4⟩ := F9 h1;exact ⟨s1, (A6z hg _ _).2 (h2 _ some), h3, h4⟩
 ·rename_i g want hg
  obtain ⟨t, ht, H⟩ := C8 H;obtain ⟨hd, H⟩ := F9 H;rw [A8M hg ht];have run : (st.get t).1 = .bool want -> lY C R fl o t (st.know t (.bool want)) (fun f st1 => og (IY bf i acc f) (CQ C R fl ops bf os (i + 1) ((i, f) :: acc) st1 k)) = some x ->
   ∃ s1, j4 C R fl ops o st s1 /\ IY bf i acc ((if wE want (st.get t).1 then (j5 C fl o st).look t else { rt := [t], wt := o.dst.toList }).Ae st s1) = true /\
     CQ C R fl ops bf os (i + 1) ((i, (if wE want (st.get t).1 then (j5 C fl o st).look t else { rt := [t], wt := o.dst.toList }).Ae st s1) :: acc) s1 k = some x := by
   intro ib H9;rw [if_pos (aK.2 ib)];unfold lY at H9;obtain ⟨s1, h1, h2⟩ := A9A ib H9;rw [Gn ib (by simp)] at h2
   obtain ⟨h3, h4⟩ := F9 h2;exact ⟨s1, (gK hg ht _ _).2 ⟨hd, .inl ⟨ib, h1⟩⟩, h3, h4⟩
  have skip : ∀ d : DV, (d = .bool !want \/ d = .H7 []) -> (st.get t).1 = d -> WB o t (st.know t d) (fun f st1 => og (IY bf i acc f) (CQ C R fl ops bf os (i + 1) ((i, f) :: acc) st1 k)) = some x ->
   ∃ s1, j4 C R fl ops o st s1 /\ IY bf i acc ((if wE want (st.get t).1 then (j5 C fl o st).look t else { rt := [t], wt := o.dst.toList }).Ae st s1) = true /\
     CQ C R fl ops bf os (i + 1) ((i, (if wE want (st.get t).1 then (j5 C fl o st).look t else { rt := [t], wt := o.dst.toList }).Ae st s1) :: acc) s1 k = some x := by
   intro d QN ib H9;rw [Gn ib (by rcases QN with h | h <;> rw [h] <;> simp)] at H9
   have hB : ¬ (wE want (st.get t).1 = true) := by
    rw [aK, ib];rcases QN with h | h <;> rw [h] <;> cases want <;> simp
   rw [if_neg hB];unfold WB at H9;obtain ⟨h3, h4⟩ := F9 H9;exact ⟨_, (gK hg ht _ _).2 ⟨hd, .inr ⟨by rw [ib]; exact QN, rfl⟩⟩, h3, h4⟩
  rcases A9e H with ⟨hb, H9⟩ | ⟨hb, H9⟩ | ⟨hb, H9⟩
  ·cases want
   ·exact skip _ (.inl rfl) hb H9
   ·exact run hb H9
  ·cases want
   ·exact run hb H9
   ·exact skip _ (.inl rfl) hb H9
  ·exact skip _ (.inr rfl) hb H9
theorem A44 {k : St -> Option X} (H : EC C R fl ops (o :: os) st k = some x) :
 ∃ s1, j4 C R fl ops o st s1 /\ EC C R fl ops os s1 k = some x := by
 simp only [EC, Zw] at H
 split at H
 ·rename_i hg
  obtain ⟨s1, h1, h2⟩ := qI H;exact ⟨s1, (A6z hg _ _).2 (h2 _ some), h1⟩
 ·rename_i g want hg
  obtain ⟨t, ht, H⟩ := C8 H;obtain ⟨hd, H⟩ := F9 H;have run : (st.get t).1 = .bool want -> I4 C R fl o (st.know t (.bool want)) (fun st => EC C R fl ops os st k) = some x ->
   ∃ s1, j4 C R fl ops o st s1 /\ EC C R fl ops os s1 k = some x := by
   intro ib H9;obtain ⟨s1, h1, h2⟩ := A9A ib H9;exact ⟨s1, (gK hg ht _ _).2 ⟨hd, .inl ⟨ib, h1⟩⟩, h2⟩
  have skip : ∀ d : DV, (d = .bool !want \/ d = .H7 []) -> (st.get t).1 = d -> EC C R fl ops os ((st.know t d).put o.dst (.H7 []) .val) k = some x ->
   ∃ s1, j4 C R fl ops o st s1 /\ EC C R fl ops os s1 k = some x := by
   intro d QN ib H9;rw [Gn ib (by rcases QN with h | h <;> rw [h] <;> simp)] at H9
   exact ⟨_, (gK hg ht _ _).2 ⟨hd, .inr ⟨by rw [ib]; exact QN, rfl⟩⟩, H9⟩
  rcases A9e H with ⟨hb, H9⟩ | ⟨hb, H9⟩ | ⟨hb, H9⟩
  ·cases want
   ·exact skip _ (.inl rfl) hb H9
   ·exact run hb H9
  ·cases want
   ·exact run hb H9
   ·exact skip _ (.inl rfl) hb H9
  ·exact skip _ (.inr rfl) hb H9
def ZX (C : AO) (R : Q8) (fl : Flags) (ops : List Oper) : List (Nat × Fp) -> St -> St -> Prop
 | [], s, t => s = t
 | p :: l, s, t => ∃ o s1, ops[p.1]? = some o /\ j4 C R fl ops o s s1 /\ p.2 = (Bl C fl ops o s).Ae s s1 /\ ZX C R fl ops l s1 t
theorem ZX.first : ∀ {A B : List (Nat × Fp)} {p : Nat × Fp} {s t : St}, ZX C R fl ops (A ++ p :: B) s t -> (∀ q ∈ A, comm q.2 p.2 = true) ->
 ∃ o s1, ops[p.1]? = some o /\ j4 C R fl ops o s s1 /\ p.2 = (Bl C fl ops o s).Ae s s1 /\ ZX C R fl ops (A ++ B) s1 t
 | [], B, p, s, t, H, _ => H
 | q :: A, B, p, s, t, H, hc => by
   obtain ⟨oq, s1, h1, h2, h3, H⟩ := H;obtain ⟨op, s2, h4, h5, h6, H⟩ := ZX.first (A := A) H fun q' hq' => hc q' (z9q _ hq')
   have h7 := hc q (z8q ..);rw [h3, h6] at h7;obtain ⟨s1', k1, k2, k3, k4⟩ := B4s h2 h5 h7;exact ⟨op, s1', h4, k1, by rw [h6, k3], oq, s2, h1, k2, by rw [h3, k4], H⟩
theorem yn {bf : List (List Nat)} {k : St -> Option X} {x : X} : ∀ {os : List Oper} {i : Nat} {acc : List (Nat × Fp)} {st : St}, (∀ j : Nat, os[j]? = ops[i + j]?) -> CQ C R fl ops bf os i acc st k = some x ->
 ∃ l t, k t = some x /\ ZX C R fl ops l st t /\ l.map (·.1) = List.range' i os.length /\ (∀ p ∈ acc, ∀ q ∈ l, p.1 ∈ bf.getD q.1 [] \/ comm p.2 q.2 = true) /\
   l.Pairwise fun p q => p.1 ∈ bf.getD q.1 [] \/ comm p.2 q.2 = true
 | [], i, acc, st, _, H => ⟨[], st, H, rfl, rfl, by simp, .nil⟩
 | o :: os, i, acc, st, hs, H => by
   obtain ⟨s1, h1, h2, h3⟩ := A2I H;have EI : ∀ j : Nat, os[j]? = ops[i + 1 + j]? := fun j => by
    have := hs (j + 1);simp only [z10q] at this;rw [this]; congr 1; omega
   obtain ⟨l, t, k1, k2, k3, k4, k5⟩ := yn EI h3;refine ⟨(i, (Bl C fl ops o st).Ae st s1) :: l, t, k1, ⟨o, s1, ?_, h1, rfl, k2⟩, ?_, fun p hp q hq => ?_, .cons (fun q hq => k4 _ (z8q ..) q hq) k5⟩
   ·have := hs 0
    simpa using this.symm
   ·simp only [z46q, z16q, z68q, k3]
   ·rcases z47q.1 hq with rfl | hq
    ·have := z34q.1 h2 p hp
     simp only [Bool.or_eq_true, z43q, decide_eq_true_eq] at this;exact this
    ·exact k4 p (z9q _ hp) q hq
end
section
variable {C : AO} {R : Q8} {fl : Flags} {ops : List Oper} {E : Env} {a : Act} {w : World} {K : Act -> World -> Prop} {Q : Exit -> Act -> World -> Prop}
theorem A0V {st : St} {g t : Nat} {b : Bool} (Rl : K3 E st a w.heap) (ht : JH ops g = some t) (hd : J6 (st.get t).2 = true) (hb : (st.get t).1 = .bool b) : yielded ops.toArray a.tmps g = some b := by
 unfold JH at ht;obtain ⟨o, h1, h2⟩ := C8 ht;have L8 : t < a.tmps.size := by
  rw [Rl.size];rcases z33q t st.tm.length with h | h
  ·exact h
  ·rw [iZ h Rl.Af] at hb; cases hb
 have hv : a.tmps[t]? = some a.tmps[t] := z26q L8;have := (Rl.regs t _ hv).data hd;rw [hb] at this;simp only [RV] at this;unfold yielded;simp [h1, h2, hv, this]
theorem B04 {st : St} {g t : Nat} (Rl : K3 E st a w.heap) (ht : JH ops g = some t) (hd : J6 (st.get t).2 = true) (hb : (st.get t).1 = .H7 []) : yielded ops.toArray a.tmps g = none := by
 unfold JH at ht;obtain ⟨o, h1, h2⟩ := C8 ht;have L8 : t < a.tmps.size := by
  rw [Rl.size];rcases z33q t st.tm.length with h | h
  ·exact h
  ·rw [iZ h Rl.Af] at hb; cases hb
 have hv : a.tmps[t]? = some a.tmps[t] := z26q L8;have := (Rl.regs t _ hv).data hd;rw [hb] at this;simp only [RV] at this;obtain ⟨vs, h3, h4⟩ := this;unfold yielded;simp [h1, h2, hv, h3]
def Mf (ro : Option Nat) : Fence := { fn := fun _ => True, depth := none, alive := false, round := ro }
variable {ro : Option Nat} {n : Nat} {P : Program}
theorem B0l {f : FuncId} {args : Array Value} {w : World} {R : Ending -> World -> Prop} (h : Calls P f args w R) : CallsIn (Mf ro) n P f args w R := by
 have h1 : CallsIn Fence.wide n P f args w R := callsIn_wide.2 h;cases ro with
 | none => exact h1
 | some l => exact CallsIn.inRound l h1
theorem Gp.wpIn {o : Oper} (hd : ∀ c, o.op ≠ .defer c) (H : Gp P o a w K) : o.wpIn (Mf ro) n P a w K Q := by
 refine ⟨fun _ _ => trivial, ?_⟩
 rw [Oper.semAt_eq _ _ _ hd];rcases H with ⟨v, w', h1, h2⟩ | ⟨w', h1, h2⟩ | ⟨f, args, h1, h2⟩
 ·rw [h1]; exact h2
 ·rw [h1]; exact h2
 ·rw [h1]
  exact ⟨fun h => (by cases h), B0l (h2.mono fun e w' ⟨v, he, hk⟩ => by subst he; exact hk)⟩
theorem B6W {i : Nat} {o : Oper} {s s1 : St} (hO : GU C R) (ho : ops[i]? = some o) (H : j4 C R fl ops o s s1) (Rl : K3 E s a w.heap) (T : ∀ E' a' w', a'.defers = a.defers -> K3 E' s1 a' w'.heap -> Pr O3 E w.heap E' w'.heap -> Z4 w w' -> K a' w') : wpOpIn (Mf ro) n C.P ops.toArray Q i K a w := by
 unfold wpOpIn;have ho' : ops.toArray[i]? = some o := by simpa using ho
 simp only [ho'];unfold j4 at H;have run : I4 C R fl o s some = some s1 -> o.wpIn (Mf ro) n C.P a w K Q := fun H => by
  have hd : ∀ c, o.op ≠ .defer c := fun c hc => by simp [I4, hc] at H
  have h0 : Gp C.P o a w fun a' w' => ∃ E', K3 E' s1 a' w'.heap /\ Pr O3 E w.heap E' w'.heap /\ Z4 w w' := B9C hO H Rl fun E' st' a' w' h1 h2 h3 h4 => by
   simp only [Option.some.injEq] at h1;subst h1;exact ⟨E', h2, h3, h4⟩
  exact Gp.wpIn hd (h0.mono fun a' w' hd ⟨E', h1, h2, h3⟩ => T E' a' w' hd h1 h2 h3)
 split at H
 ·rename_i hg
  have hw : Region.wanted o (yielded ops.toArray a.tmps) = true := by simp [Region.wanted, hg]
  rw [if_pos hw];exact run H
 ·rename_i g want hg
  obtain ⟨t, ht, hd, H⟩ := H;rcases H with ⟨hb, H⟩ | ⟨hb, H⟩
  ·have hw : Region.wanted o (yielded ops.toArray a.tmps) = true := by simp [Region.wanted, hg, A0V Rl ht hd hb]
   rw [if_pos hw];exact run H
  ·have hw : ¬ (Region.wanted o (yielded ops.toArray a.tmps) = true) := by
    rcases hb with hb | hb
    ·cases want <;> simp [Region.wanted, hg, A0V Rl ht hd hb]
    ·simp [Region.wanted, hg, B04 Rl ht hd hb]
   rw [if_neg hw];subst H;refine ⟨fun _ _ => trivial, T E _ w (lK ..) (Rl.put fun t _ => ?_) (Pr.refl _ _ _) (Z4.refl _)⟩
   simp only [RR, J8, RV, undef];exact ⟨#[], rfl, by simp [Pq]⟩
theorem B1E {X : Type} {k : St -> Option X} {x : X} {ro : Option Nat} {n : Nat} (hO : GU C R) : ∀ {os : List Oper} {i : Nat} {st : St} {E : Env} {a : Act} {w : World}, (∀ j : Nat, os[j]? = ops[i + j]?) -> EC C R fl ops os st k = some x -> K3 E st a w.heap ->
 (∀ E' t a' w', k t = some x -> a'.defers = a.defers -> K3 E' t a' w'.heap -> Pr O3 E w.heap E' w'.heap -> Z4 w w' -> Q .normal a' w') -> wpOpsIn (Mf ro) n C.P ops.toArray Q (List.range' i os.length) a w
 | [], i, st, E, a, w, _, H, Rl, T => T E st a w H rfl Rl (Pr.refl _ _ _) (Z4.refl _)
 | o :: os, i, st, E, a, w, hs, H, Rl, T => by
   obtain ⟨s1, h1, h2⟩ := A44 H;have EI : ∀ j : Nat, os[j]? = ops[i + 1 + j]? := fun j => by
    have := hs (j + 1);simp only [z10q] at this;rw [this]; congr 1; omega
   simp only [z16q, z68q];rw [wpOpsIn_cons];refine B6W hO (by simpa using (hs 0).symm) h1 Rl fun E' a' w' D1 R1 P1 O1 => ?_
   exact B1E hO EI h2 R1 fun E2 t a2 w2 k1 k0 k2 k3 k4 => T E2 t a2 w2 k1 (k0.trans D1) k2 (P1.trans k3) (O1.trans k4)
end
end Go.Su

/-
 THE DATA MACHINE, part 24: a region in whatever order.
-/
namespace Go.Su
def aft (o : Oper) : List Edge := o.after.toList.filter (Region.binds .any)
theorem jf : ∀ {os : List Oper} {acc : List (List Nat)} {j : Nat}, j < acc.length -> (Jn os acc)[j]? = acc[j]?
 | [], acc, j, _ => rfl
 | o :: os, acc, j, h => by
   simp only [Jn, VB];rw [jf (by simp; omega), z25q h]
theorem A4J : ∀ {os : List Oper} {acc : List (List Nat)}, SE acc.length os = true -> ∀ (j : Nat) o, os[j]? = some o ->
 (Jn os acc).getD (acc.length + j) [] = uniq ((aft o).flatMap fun e => e.on :: (Jn os acc).getD e.on [])
 | [], acc, _, j, o, h => by simp at h
 | o' :: os, acc, he, j, o, h => by
   simp only [SE, z11q] at he;simp only [Jn, VB];generalize hr : (acc ++ [uniq ((o'.after.toList.filter (Region.binds .any)).flatMap fun e => e.on :: acc.getD e.on [])]) = acc'
   have hl : acc'.length = acc.length + 1 := by rw [<- hr]; simp
   cases j with
   | zero =>
     simp only [z14q, Option.some.injEq] at h;subst h;have h1 : (Jn os acc').getD (acc.length + 0) [] = uniq ((o'.after.toList.filter (Region.binds .any)).flatMap fun e => e.on :: acc.getD e.on []) := by
      rw [z0q, jf (by omega), <- hr]
      simp
     rw [h1];refine congrArg uniq (AL fun e hm => ?_)
     have h2 := z34q.1 he.1 e hm;simp only [decide_eq_true_eq] at h2;rw [z0q, z0q, jf (by omega), <- hr, z25q h2]
   | succ j =>
     have := A4J (os := os) (acc := acc') (by rw [hl]; exact he.2) j o (by simpa using h)
     rw [hl] at this;rw [show acc.length + (j + 1) = acc.length + 1 + j by omega]
     exact this
theorem A8u : ∀ {os : List Oper} {i : Nat}, SE i os = true -> ∀ (j : Nat) o, os[j]? = some o -> ∀ e ∈ aft o, e.on < i + j
 | [], i, _, j, o, h => by simp at h
 | o' :: os, i, he, j, o, h => by
   simp only [SE, z11q] at he;cases j with
   | zero =>
     simp only [z14q, Option.some.injEq] at h;subst h;intro e hm;have h2 := z34q.1 he.1 e hm;simpa using h2
   | succ j =>
     intro e hm;have := A8u he.2 j o (by simpa using h) e hm
     omega
structure Inv (bf : List (List Nat)) (n : Nat) (listed : Array Bool) (l : List (Nat × Fp)) : Prop where
 size : listed.size = n
 idx : ∀ j : Nat, (∃ f, (j, f) ∈ l) ↔ listed[j]? = some false
 sorted : l.Pairwise fun p q => p.1 < q.1
 pw : l.Pairwise fun p q => p.1 ∈ bf.getD q.1 [] \/ comm p.2 q.2 = true
 down : ∀ j : Nat, listed[j]? = some true -> ∀ p ∈ bf.getD j [], listed[p]? = some true
variable {listed : Array Bool}
theorem A3g {j : Nat} : listed.getD j false = true ↔ listed[j]? = some true := by
 rw [z44q];cases listed[j]? <;> simp
theorem eH {j : Nat} : listed.getD j true = false ↔ listed[j]? = some false := by
 rw [z44q];cases listed[j]? <;> simp
section
variable {C : AO} {R : Q8} {fl : Flags} {ops : List Oper} {Q : Exit -> Act -> World -> Prop} {ro : Option Nat}
theorem B7J {bf : List (List Nat)} {t : St} {m : Nat} (hO : GU C R) (hbf : ∀ (i : Nat) o, ops[i]? = some o -> ∀ p, p ∈ bf.getD i [] -> p ∈ (aft o).flatMap fun e => e.on :: bf.getD e.on []) (L8 : ∀ (i : Nat) o, ops[i]? = some o -> ∀ e ∈ aft o, e.on < i) :
 ∀ (n : Nat) (l : List (Nat × Fp)) (listed : Array Bool) (s : St) (E : Env) (a : Act) (w : World), l.length = n -> Inv bf ops.length listed l -> ZX C R fl ops l s t -> K3 E s a w.heap ->
   (∀ E' a' w', a'.defers = a.defers -> K3 E' t a' w'.heap -> Pr O3 E w.heap E' w'.heap -> Z4 w w' -> Q .normal a' w') -> wpAnyIn (Mf ro) m C.P .any ops.toArray Q n listed a w := by
 intro n
 induction n with
 | zero =>
   intro l listed s E a w hl I Ch Rl T;have hl0 := z29q hl;subst hl0;simp only [ZX] at Ch;subst Ch;refine ⟨?_, T E a w rfl Rl (Pr.refl _ _ _) (Z4.refl _)⟩;rw [List.eq_nil_iff_forall_not_mem];intro j hj;obtain ⟨h0, -⟩ := mem_ready.1 hj;obtain ⟨f, hf⟩ := (I.idx j).2 (eH.1 h0);cases hf
 | succ n ih =>
   intro l listed s E a w hl I Ch Rl T;constructor
   ·intro hr
    exfalso;cases l with
    | nil => simp at hl
    | cons p l =>
      have hp : listed[p.1]? = some false := (I.idx p.1).1 ⟨p.2, z8q ..⟩;obtain ⟨o, s1, ho, -⟩ := Ch;have : p.1 ∈ Region.ready .any ops.toArray listed := by
       refine mem_ready.2 ⟨eH.2 hp, o, by simpa using ho, fun e he hb => A3g.2 ?_⟩
       have C1R := L8 p.1 o ho e (z59q.2 ⟨by simpa using he, hb⟩)
       have hp' := (z1q.1 hp).1;have oF : listed[e.on]? = some (listed[e.on]'(by omega)) := z26q (by omega)
       cases hv : (listed[e.on]'(by omega)) with
       | true => rw [oF, hv]
       | false =>
         rw [hv] at oF;obtain ⟨f, hf⟩ := (I.idx e.on).2 oF;rcases z47q.1 hf with h | h
         ·have : e.on = p.1 := by rw [<- h]
          omega
         ·have := (z37q.1 I.sorted).1 _ h
          simp only at this;omega
      rw [hr] at this;cases this
   ·intro i hi
    obtain ⟨h0, o, ho, kI⟩ := mem_ready.1 hi;have hif := eH.1 h0;obtain ⟨g, hg⟩ := (I.idx i).2 hif;obtain ⟨A, B, rfl⟩ := List.append_of_mem hg;have ho' : ops[i]? = some o := by simpa using ho
    have hbi : ∀ p ∈ bf.getD i [], listed[p]? = some true := by
     intro p hp
     replace hp := hbf i o ho' _ hp
     obtain ⟨e, he, hp⟩ := z32q.1 hp;obtain ⟨he1, he2⟩ := z59q.1 he;have hl := A3g.1 (kI e (by simpa using he1) he2)
     rcases z47q.1 hp with rfl | hp
     ·exact hl
     ·exact I.down _ hl p hp
    obtain ⟨pA, pB, pAB⟩ := z27q.1 I.pw;obtain ⟨sA, sB, sAB⟩ := z27q.1 I.sorted;obtain ⟨sB1, sB2⟩ := z37q.1 sB;have C0h : ∀ q ∈ A, comm q.2 g = true := by
     intro q hq;rcases pAB q hq (i, g) (z8q ..) with h | h
     ·have h1 := hbi _ h
      have h2 := (I.idx q.1).1 ⟨q.2, z7q.2 (.inl hq)⟩;rw [h1] at h2;cases h2
     ·exact h
    obtain ⟨o', s1, k1, k2, k3, k4⟩ := ZX.first Ch C0h
    have B8S := (z1q.1 hif).1;refine B6W hO k1 k2 Rl fun E' a' w' D1 R1 P1 O1 => ih (A ++ B) _ s1 E' a' w' ?_ ⟨?_, fun j => ?_, ?_, ?_, fun j hj p hp => ?_⟩ k4 R1 fun E2 a2 w2 D2 R2 P2 O2 => T E2 a2 w2 (D2.trans D1) R2 (P1.trans P2) (O1.trans O2)
    ·simp only [List.length_append, z16q] at hl ⊢; omega
    ·rw [Array.size_setIfInBounds]; exact I.size
    ·constructor
     ·rintro ⟨f, hf⟩
      have hne : i ≠ j := by
       rcases z7q.1 hf with h | h
       ·have := sAB _ h (i, g) (z8q ..)
        simp only at this; omega
       ·have := sB1 _ h
        simp only at this; omega
      rw [z5q hne];exact (I.idx j).1 ⟨f, by
       rcases z7q.1 hf with h | h
       ·exact z7q.2 (.inl h)
       ·exact z7q.2 (.inr (z9q _ h))⟩
     ·intro hj
      by_cases hne : i = j
      ·subst hne
       rw [z17q B8S] at hj;cases hj
      ·rw [z5q hne] at hj
       obtain ⟨f, hf⟩ := (I.idx j).2 hj;refine ⟨f, ?_⟩;rcases z7q.1 hf with h | h
       ·exact z7q.2 (.inl h)
       ·rcases z47q.1 h with h | h
        ·simp only [Prod.mk.injEq] at h; exact absurd h.1.symm hne
        ·exact z7q.2 (.inr h)
    ·exact z27q.2 ⟨sA, sB2, fun p hp q hq => sAB p hp q (z9q _ hq)⟩
    ·exact z27q.2 ⟨pA, (z37q.1 pB).2, fun p hp q hq => pAB p hp q (z9q _ hq)⟩
    ·have mono : ∀ q : Nat, listed[q]? = some true -> (listed.setIfInBounds i true)[q]? = some true := by
      intro q hq
      by_cases hne : i = q
      ·subst hne; exact z17q B8S
      ·rw [z5q hne]; exact hq
     by_cases hne : i = j
     ·subst hne; exact mono p (hbi p hp)
     ·rw [z5q hne] at hj
      exact mono p (I.down j hj p hp)
variable {w : World}
theorem B2J {X : Type} {n : Nat} {k : St -> Option X} {x : X} {ops : Array Oper} {id : Nat} {st : St} {E : Env} {a : Act} (hO : GU C R) (H : EC C R fl ops.toList ops.toList st k = some x) (Rl : K3 E st a w.heap) (T : ∀ E' t a' w', k t = some x -> a'.defers = a.defers -> K3 E' t a' w'.heap -> Pr O3 E w.heap E' w'.heap -> Z4 w w' -> Q .normal a' w') : (Code.region id ops false).wpIn (Mf ro) n C.P Q a w := by
 refine wpIn_region ?_;have := B1E (ro := ro) (n := n) (i := 0) hO (fun j => by rw [z22q]) H Rl T
 rwa [List.range_eq_range', <- z50q]
theorem B58 {X : Type} {n : Nat} {k : St -> Option X} {x : X} {ops : Array Oper} {id : Nat} {st : St} {E : Env} {a : Act} (hm : C.P.follows .mixedOrders = true) (hO : GU C R) (H : og (SE 0 ops.toList) (CQ C R fl ops.toList (Jn ops.toList []) ops.toList 0 [] st k) = some x) (Rl : K3 E st a w.heap) (T : ∀ E' t a' w', k t = some x -> a'.defers = a.defers -> K3 E' t a' w'.heap -> Pr O3 E w.heap E' w'.heap -> Z4 w w' -> Q .normal a' w') : (Code.region id ops true).wpIn (Mf ro) n C.P Q a w := by
 obtain ⟨he, H⟩ := F9 H;obtain ⟨l, t, h1, h2, h3, h4, h5⟩ := yn (fun j => by rw [z22q]) H
 refine wpIn_region_any hm ?_;have JI : l.length = ops.size := by
  have := congrArg List.length h3;simpa using this
 have hidx : ∀ j : Nat, (∃ f, (j, f) ∈ l) ↔ j < ops.size := by
  intro j;have : j ∈ l.map (·.1) ↔ j ∈ List.range' 0 ops.toList.length := by rw [h3]
  rw [List.mem_map] at this;simp only [List.mem_range'_1, Nat.zero_le, true_and, z22q, z50q] at this;rw [<- this];constructor
  ·rintro ⟨f, hf⟩; exact ⟨_, hf, rfl⟩
  ·rintro ⟨p, hp, rfl⟩; exact ⟨p.2, hp⟩
 have B7m : l.Pairwise fun p q => p.1 < q.1 := by
  have : (l.map (·.1)).Pairwise (· < ·) := by rw [h3]; exact List.pairwise_lt_range' ..
  exact List.pairwise_map.1 this
 have := B7J (ro := ro) (m := n) (t := t) (fl := fl) (Q := Q) (ops := ops.toList) (bf := Jn ops.toList []) hO (fun i o ho p hp => by
  have h := A4J (acc := []) he i o ho;simp only [List.length_nil, z22q] at h;rw [h] at hp;exact A3N.1 hp) (fun i o ho e hm => by simpa using A8u he i o ho e hm)
  ops.size l (Array.replicate ops.size false) st E a { w with drawn := w.drawn + 1 } JI ⟨by simp, fun j => ?_, B7m, h5, fun j hj => ?_⟩ h2 Rl fun E' a' w' D1 R1 P1 O1 => T E' t a' w' h1 D1 R1 P1 ⟨O1.os, O1.tape, O1.output⟩
 ·simpa using this
 ·rw [hidx]
  rw [z35q]
  split <;> simp_all
 ·rw [z35q] at hj
  split at hj <;> simp at hj
end
end Go.Su

/-
 THE DATA MACHINE, part 24a: what a loop over an iterator leaves as it was.
-/
namespace Go.Su
def Marks (n : Nat) (E : Env) (h : Heap) (ms : List Deferred) : Prop :=
 (∀ m ∈ ms, ∃ D, m = { target := .collected D, args := #[] } /\ h[D]? = some (.deferred (some [])) /\ E.O D 0 = .other /\ n <= D) /\ ms.Pairwise (· ≠ ·)
variable {n : Nat} {E : Env} {h : Heap}
theorem Marks.nil : Marks n E h [] := ⟨fun _ hm => (by cases hm), .nil⟩
variable {b : Nat}
theorem Pr.eQ {E' : Env} {h' : Heap} (P : Pr O3 E h E' h') {ob : Obj} (hb : h[b]? = some ob) (hc : ob.isCells = false) (ho : E.O b 0 = .other) : h'[b]? = some ob := by
 have L8 := (z1q.1 hb).1;have hk := P.blk b L8;rw [hb] at hk;unfold X8 at hk
 split at hk
 ·rename_i hx; cases hx
 ·rename_i hx
  simp only [Option.some.injEq] at hx;subst hx;simp [Obj.isCells] at hc
 ·rename_i ob' _ hx
  simp only [Option.some.injEq] at hx;subst hx;exact hk (by rw [ho]; simp [O3])
theorem Pr.Wm {E' : Env} {h' : Heap} (P : Pr O3 E h E' h') {o : Nat} (hb : b < h.size) (ho : E.O b o = .other) : E'.O b o = .other := by
 rw [P.tags b o hb (by rw [ho]; simp [O3]), ho]
theorem Marks.mono {E' : Env} {h' : Heap} {ms : List Deferred} (H : Marks n E h ms) (P : Pr O3 E h E' h') : Marks n E' h' ms := ⟨fun m hm => by
 obtain ⟨D, h1, h2, h3, h4⟩ := H.1 m hm;exact ⟨D, h1, P.eQ h2 rfl h3, P.Wm (z1q.1 h2).1 h3, h4⟩, H.2⟩
theorem Marks.append {E0 : Env} {h0 : Heap} {ms ns : List Deferred} (H : Marks h0.size E h ns) (K0 : Marks n E0 h0 ms) (P : Pr O3 E0 h0 E h) (hn : n <= h0.size) : Marks n E h (ns ++ ms) := by
 have K := K0.mono P;refine ⟨fun m hm => ?_, z27q.2 ⟨H.2, K.2, fun x hx y hy he => ?_⟩⟩
 ·rcases z7q.1 hm with h1 | h1
  ·obtain ⟨D, h1, h2, h3, h4⟩ := H.1 m h1
   exact ⟨D, h1, h2, h3, z65q hn h4⟩
  ·exact K.1 m h1
 ·obtain ⟨D, h1, -, -, h4⟩ := H.1 x hx
  obtain ⟨D', k1, k2, -⟩ := K0.1 y hy;have := (z1q.1 k2).1;rw [h1, k1] at he;simp only [Deferred.mk.injEq, Target.collected.injEq, and_true] at he;omega
variable {l : Nat}
theorem Pr.swap {ch : Tag -> Prop} {E' : Env} {h' : Heap} {x y : Obj} (P : Pr ch E (h.setIfInBounds l x) E' h') (hy : h[l]? = some y) : Pr ch E h E' (h'.setIfInBounds l y) := by
 have hl := (z1q.1 hy).1;have hs : h.size <= h'.size := by have := P.size; simpa using this
 refine ⟨by simpa using hs, fun b hb => ?_, fun b o hb hn => P.tags b o (by simpa using hb) hn, P.n, P.U4, P.jg, P.Nj⟩
 by_cases hbl : l = b
 ·subst hbl
  rw [z17q (by omega), hy]
  exact X8.refl _ _
 ·have := P.blk b (by simpa using hb)
  rw [z5q hbl] at this;rw [z5q hbl];exact this
theorem Pr.A0G {ch : Tag -> Prop} {E' : Env} {h' : Heap} {x : Obj} (P : Pr ch E h E' h') (hl : h.size <= l) : Pr ch E h E' (h'.setIfInBounds l x) := by
 refine ⟨by simpa using P.size, fun b hb => ?_, P.tags, P.n, P.U4, P.jg, P.Nj⟩
 rw [z5q (by omega)]
 exact P.blk b hb
theorem Pr.setOther {x y : Obj} (hy : h[l]? = some y) (hc : y.isCells = false) (ho : E.O l 0 = .other) : Pr (fun T => T = .other) E h E (h.setIfInBounds l x) := by
 refine ⟨by simp, fun b hb => ?_, fun _ _ _ _ => rfl, z12q _, fun _ _ _ => ⟨rfl, rfl, rfl⟩, fun _ _ => rfl, Dc rfl⟩
 by_cases hbl : l = b
 ·subst hbl
  rw [hy];unfold X8
  split
  ·trivial
  ·rename_i hx
   simp only [Option.some.injEq] at hx;subst hx;simp [Obj.isCells] at hc
  ·exact fun h0 => absurd ho h0
 ·rw [z5q hbl]
  exact X8.refl _ _
section
variable {E E' : Env} {st : St} {a : Act} {h h' : Heap}
theorem K3.others (Rl : K3 E st a h) (P : Pr (fun T => T = .other) E h E' h') (hn : E'.n = E.n) (hf : ∀ b o, h'.size <= b -> E'.O b o = .other) : K3 E' st a h' := by
 have J3 := P.shut (by simp) Rl.fresh
 exact ⟨Rl.size, Rl.Af, Rl.Ca, by rw [hn]; exact Rl.n, fun t v hv => (Rl.regs t v hv).mono P J3 (by simp) (by simp), fun s cs hs => by rw [P.jg s (by simp)]; exact (Rl.boxes s cs hs).mono P J3 (by simp) (by simp),
  fun i ob hi => (Rl.U4 i ob hi).mono P J3 (by rw [<- Rl.n]; exact (z2q.1 hi).1) (by simp) (by simp), hf⟩
theorem Ta.pr {w w' : World} (H : Ta n E w w') : Pr (fun T => T = .other) E w.heap E w'.heap := by
 refine ⟨H.size, fun b hb => ?_, fun _ _ _ _ => rfl, z12q _, fun _ _ _ => ⟨rfl, rfl, rfl⟩, fun _ _ => rfl, Dc rfl⟩
 rcases H.blk b hb with h1 | ⟨-, ⟨c, T, f, c', h1, h2, h3⟩, h4⟩
 ·rw [h1]; exact X8.refl _ _
 ·rw [h1, h2]
  exact ⟨c', rfl, h3, fun o ho => absurd (h4 o) ho⟩
theorem Ta.keep {w w' : World} (H : Ta n E w w') {ob : Obj} (hb : w.heap[b]? = some ob) (hc : ob.isCells = false) : w'.heap[b]? = some ob := by
 rcases H.blk b (z1q.1 hb).1 with h1 | ⟨-, ⟨c, T, f, c', h1, h2, h3⟩, h4⟩
 ·rw [h1, hb]
 ·rw [hb] at h1
  simp only [Option.some.injEq] at h1;subst h1;simp [Obj.isCells] at hc
theorem Ta.after {w w' : World} {E0 : Env} {h0 : Heap} (H : Ta n E w w') (hn : h0.size <= n) (P : Pr O3 E0 h0 E w.heap) : Pr O3 E0 h0 E w'.heap := by
 refine ⟨z65q P.size H.size, fun b hb => ?_, P.tags, P.n, P.U4, P.jg, P.Nj⟩
 have := P.blk b hb;rcases H.blk b (Nat.lt_of_lt_of_le hb P.size) with h1 | ⟨h1, -⟩
 ·rw [h1]; exact this
 ·omega
theorem RR.stay {k t : Nat} {d : DV} {m : Meta} {v : Value} {k' t' : Nat} (R : RR E h k t d m v) (J3 : Z9 E.S h E'.S h') (ho : ∀ i, E.In i -> E'.In i /\ E'.obj i = E.obj i) :
 RR E' h' k' t' (A1n (d, m)).1 (A1n (d, m)).2 v := by
 cases m <;> simp only [A1n, RR, J8, RV] at R ⊢
 case val => exact R.mono J3
 case full => exact ⟨R.1.mono J3, R.2⟩
 case own => exact R.1.mono J3
 case ptr i o => exact ⟨(ho i R.1).1, by rw [(ho i R.1).2]; exact R.2⟩
 case Ba => exact ⟨trivial, R.2⟩
 case map i => exact ⟨(ho i R.1).1, by rw [(ho i R.1).2]; exact R.2⟩
 case PX => exact R
 case fn f caps =>
  refine ⟨?_, fun c hc => (ho _ (R.2 c hc)).1⟩
  rw [R.1]
  congr 2
  refine List.map_congr_left fun c hc => ?_
  rw [(ho _ (R.2 c hc)).2]
variable {sg : List C9}
theorem B31 {st : St} (hl : st.mt.length = st.tm.length) (t : Nat) (ht : t < st.tm.length) : (AA st sg).get t = A1n (st.get t) := by
 simp only [St.get, AA, z0q, z13q, z48q];have h1 : (st.tm.zip st.mt)[t]? = some (st.tm[t], st.mt[t]'(by omega)) := by
  rw [z48q];exact ⟨z3q ht, z3q (by omega)⟩
 rw [h1];simp [z3q ht, z3q (show t < st.mt.length by omega)]
theorem K3.outer (Rl : K3 E st a h) (J3 : Z9 E.S h E'.S h') (ho : ∀ i, E.In i -> E'.In i /\ E'.obj i = E.obj i) (hs : sg.length = E'.n) (ig : ∀ (i : Nat) ob, sg[i]? = some ob -> RO E' h' i ob) (hf : ∀ b o, h'.size <= b -> E'.O b o = .other) {ds : List Deferred} : K3 E' (AA st sg) { a with defers := ds } h' := by
 have hl := Rl.Af;refine ⟨?_, by simp [AA, hl], by simp [AA, hl, Rl.Ca], hs, fun t v hv => ?_, fun s cs Fv => ?_, ig, hf⟩
 ·simp [AA, hl]; exact Rl.size
 ·have ht : t < st.tm.length := by rw [<- Rl.size]; exact (z1q.1 hv).1
  rw [B31 hl t ht];exact (Rl.regs t v hv).stay J3 ho
 ·simp only [AA, z0q, z13q] at Fv
  cases hb : st.bx[s]? <;> rw [hb] at Fv <;> simp at Fv
end
def A74 (i : Nat) : Tag -> Tag
 | .other => .other
 | .shut => .shut
 | .Rt _ => .other
 | .obj j => if j = i then .other else .obj j
 | .sp k a b => if k = 2 /\ a ≠ i then .sp k a b else .other
theorem A6A {E : Env} {h : Heap} {k a : Nat} : ∀ {cs : List (DV × Meta)} {cd : List DV} {vs : List Value}, BL cs = some cd -> cs.length = vs.length ->
 (∀ (j : Nat) r v, cs[j]? = some r -> vs[j]? = some v -> M4 r.1 = true /\ v.oneCell' = true /\ Y8 r.2 = true /\ ∃ q, J8 E h (.sp k a q) r.1 r.2 v) -> GI E.S h cd vs
 | [], cd, vs, H, hl, _ => by
   simp only [BL, Option.some.injEq] at H;subst H;simp only [GI];exact z29q hl.symm
 | c :: cs, cd, vs, H, hl, hr => by
   simp only [BL] at H;obtain ⟨h1, H⟩ := F9 H;obtain ⟨ds, h2, H⟩ := C8 H;simp only [Option.some.injEq] at H;subst H;cases vs with
   | nil => simp at hl
   | cons v vs =>
     obtain ⟨a1, a2, a3, q, a4⟩ := hr 0 c v rfl rfl;simp only [GI];refine ⟨v, vs, rfl, a1, Mr a1 a2 ?_, A6A h2 (by simpa using hl) fun j r u hj hu => hr (j + 1) r u (by simpa using hj) (by simpa using hu)⟩
     revert a4 h1
     cases c.2 <;> simp only [J8] <;> intro h1 a4 <;> first | exact a4 | exact a4.1 | (simp at h1)
end Go.Su

/-
 THE DATA MACHINE, part 25: code.
-/
namespace Go.Su
def Out.A98 : Out -> Exit
 | .normal => .normal
 | .exit i => .exit i
 | .ret => .ret
theorem iw {α : Type} {ts : List Nat} {d : α} : ∀ {l : List α} {i j : Nat}, (XU ts d i l)[j]? = (l[j]?).map fun y => if ts.contains (i + j) then y else d
 | [], i, j => by simp [XU]
 | y :: l, i, 0 => by simp [XU]
 | y :: l, i, j + 1 => by
   simp only [XU, z10q];rw [iw, show i + 1 + j = i + (j + 1) by omega]
theorem VE {α : Type} {ts : List Nat} {d : α} : ∀ {l : List α} {i : Nat}, (XU ts d i l).length = l.length
 | [], i => rfl
 | y :: l, i => by simp [XU, VE]
theorem qb {α : Type} {f : α -> α} {ts : List Nat} : ∀ {l : List α} {i j : Nat}, (eT f ts i l)[j]? = (l[j]?).map fun y => if ts.contains (i + j) then f y else y
 | [], i, j => by simp [eT]
 | y :: l, i, 0 => by simp [eT]
 | y :: l, i, j + 1 => by
   simp only [eT, z10q];rw [qb, show i + 1 + j = i + (j + 1) by omega]
theorem kM {α : Type} {f : α -> α} {ts : List Nat} : ∀ {l : List α} {i : Nat}, (eT f ts i l).length = l.length
 | [], i => rfl
 | y :: l, i => by simp [eT, kM]
variable {E : Env} {h : Heap} {tg : Tag} {d : DV} {v : Value}
theorem A3i (H : J8 E h tg d .full v) : J8 E h tg d .own v := by
 obtain ⟨g1, ⟨a1, n1, g2⟩, sz, ds, g3⟩ := H;refine ⟨g1, sz, ds, g3, fun x len cap hx L8 => ?_⟩
 rw [g2] at hx;simp only [Value.slice.injEq] at hx;omega
variable {m : Meta}
theorem B6h (H : J8 E h tg d m v) : J8 E h tg d (Mg m) v := by
 cases m <;> first | exact A3i H | exact H
theorem B6i {k a : Nat} (H : RR E h k a d m v) : RR E h k a d (Mg m) v := by
 cases m <;> first | exact A3i H | exact H
theorem B4v (H : Y8 m = true) : Y8 (Mg m) = true := by
 cases m <;> first | rfl | exact H
theorem B6j (H : J8 E h tg d m v) : J8 E h tg d (XY m) v := by
 unfold XY
 split
 ·rename_i hd
  cases m
  case Ba => obtain ⟨rfl, rfl⟩ := (H : _ /\ _); simp only [J8, RV]
  all_goals first | exact H | exact H.1 | (simp [J6] at hd; done) | exact H.elim
 ·exact H
theorem B6k {k a : Nat} (H : RR E h k a d m v) : RR E h k a d (XY m) v := by
 unfold XY
 split
 ·rename_i hd
  exact RR.val (RR.data hd H)
 ·exact H
theorem B4w (H : Y8 m = true) : Y8 (XY m) = true := by
 unfold XY
 split
 ·rfl
 ·exact H
variable {st : St} {a : Act}
theorem K3.keep (R : K3 E st a h) (ts bs os vs : List Nat) : K3 E (st.keep ts bs os vs) a h := by
 refine ⟨by simp only [St.keep, VE]; exact R.size, by simp only [St.keep, VE, kM]; exact R.Af, by simp only [St.keep, VE, kM]; exact R.Ca, R.n, fun t v hv => ?_, fun s cs hs => ?_, R.U4, R.fresh⟩
 ·have ht : t < st.tm.length := by rw [<- R.size]; exact (z1q.1 hv).1
  have ht' : t < st.mt.length := by rw [R.Af]; exact ht
  have h0 := R.regs t v hv
  by_cases hc : ts.contains t = true
  ·have : (st.keep ts bs os vs).get t = ((st.get t).1, (fun m => if vs.contains t then XY m else m) ((fun m => if os.contains t then Mg m else m) (st.get t).2)) := by
    simp only [St.get, St.keep, z0q, iw, qb, z22q, hc, if_true, Option.map_id', z3q ht'];rfl
   rw [this];have h1 : RR E h 0 t (st.get t).1 ((fun m => if os.contains t then Mg m else m) (st.get t).2) v := by
    simp only
    split
    ·exact B6i h0
    ·exact h0
   simp only at h1 ⊢
   split
   ·exact B6k h1
   ·exact h1
  ·have : (st.keep ts bs os vs).get t = (.undef, .val) := by
    simp only [St.get, St.keep, z0q, iw, qb, z22q, hc, z3q ht, z3q ht', z49q, z24q];simp only [z6q, if_false, Mg, XY, J6, ite_self]
   rw [this];simp only [RR, J8, RV]
 ·simp only [St.keep, z0q, iw, qb, z22q] at hs ⊢
  cases hb : st.bx[s]? with
  | none => rw [hb] at hs; simp at hs
  | some y =>
    rw [hb] at hs;simp only [z49q, z24q] at hs ⊢
    by_cases hc : bs.contains s = true
    ·simp only [hc, if_true] at hs
     have old : ∀ cs', y = some cs' -> ah E h (.Rt s) 1 s (E.blk s) cs' := fun cs' hy => R.boxes s cs' (by simp only [z0q, hb, z24q, hy])
     have step1 : ∀ cs', (if os.contains s = true then Wn y else y) = some cs' -> ah E h (.Rt s) 1 s (E.blk s) cs' := by
      intro cs hs
      by_cases ho : os.contains s = true
      ·simp only [ho, if_true] at hs
       cases y with
       | none => simp [Wn] at hs
       | some cs' =>
         simp only [Wn, Option.some.injEq] at hs;subst hs;obtain ⟨c, T, h1, h2, h3, h4⟩ := old cs' rfl;refine ⟨c, T, h1, by simpa using h2, h3, fun j r v hr hv => ?_⟩
         simp only [z13q, z20q] at hr;obtain ⟨r0, hr0, rfl⟩ := hr;obtain ⟨k1, k2, k3, k4⟩ := h4 j r0 v hr0 hv;exact ⟨k1, k2, B4v k3, B6h k4⟩
      ·simp only [ho, z6q, if_false] at hs
       exact old cs hs
     by_cases hv : vs.contains s = true
     ·simp only [hv, if_true] at hs
      generalize (if os.contains s = true then Wn y else y) = z at hs step1
      cases z with
      | none => simp [rJ] at hs
      | some cs' =>
        simp only [rJ, Option.some.injEq] at hs;subst hs;obtain ⟨c, T, h1, h2, h3, h4⟩ := step1 cs' rfl;refine ⟨c, T, h1, by simpa using h2, h3, fun j r v hr hv => ?_⟩
        simp only [z13q, z20q] at hr;obtain ⟨r0, hr0, rfl⟩ := hr;obtain ⟨k1, k2, k3, k4⟩ := h4 j r0 v hr0 hv;exact ⟨k1, k2, B4w k3, B6j k4⟩
     ·simp only [hv, z6q, if_false] at hs
      exact step1 cs hs
    ·simp only [hc, z6q, if_false] at hs
     split at hs <;> split at hs <;> simp [Wn, rJ] at hs
theorem K3.NR (R : K3 E st a h) (fl : Flags) (id : Nat) : K3 E (NR fl id st) a h := by
 unfold Su.NR
 split
 ·exact R.keep _ _ _ _
 ·exact R
theorem K3.clean (R : K3 E st a h) (fl : Flags) (c : Code) : K3 E (clean fl c st) a h := by
 unfold Su.clean
 split
 ·exact R.NR fl _
 ·exact R
theorem Zy {S X : Type} {F : (S -> Option X) -> S -> Option X} {s : S} {x : X} (H : Gh F s = some x) : ∃ n, iter F n s = some x := by
 unfold Gh at H
 split at H
 ·rename_i h
  simp only [Option.some.injEq] at H;obtain ⟨n, hn⟩ := h.choose_spec;rw [H] at hn;exact ⟨n, hn⟩
 ·cases H
section
variable {X : Type} {C : AO} {R : Q8} {fl : Flags} {ps : Array Nat}
theorem A43 {C : AO} {g : Operand} {pl : Bool} {fin : St -> Option X} {step : Nat -> DV -> (List C9 -> Option X) -> List C9 -> Option X} {x : X} (H : A06 C st g ps pl fin step = some x) :
 ∃ t p f i it cs cd ds, g = .tmp t /\ ps.toList = [p] /\ (st.get t).2 = .fn f [(i, 0)] /\ C.iter f = some it /\ E9 st.sg i = some cs /\ BL cs = some cd /\ it cd = some ds /\ pl = true /\
   LP (step p) (fun sg => fin (AA st sg)) ds (st.sg.set i (.arr 1 [])) = some x := by
 unfold A06 at H
 split at H
 ·rename_i t p hp
  split at H
  ·rename_i f i hm
   obtain ⟨it, h1, H⟩ := C8 H;obtain ⟨cs, h2, H⟩ := C8 H;obtain ⟨cd, h3, H⟩ := C8 H;obtain ⟨ds, h4, H⟩ := C8 H;obtain ⟨h5, H⟩ := F9 H;exact ⟨t, p, f, i, it, cs, cd, ds, rfl, hp, hm, h1, h2, h3, h4, h5, H⟩
  ·cases H
 ·cases H
theorem B5d {C : AO} {fin : St -> Option X} {step : Nat -> DV -> (List C9 -> Option X) -> List C9 -> Option X} {t p f i : Nat} {it : List DV -> Option (List DV)} {cs : List (DV × Meta)} {cd ds : List DV} (hp : ps.toList = [p]) (hm : (st.get t).2 = .fn f [(i, 0)]) (h1 : C.iter f = some it) (h2 : E9 st.sg i = some cs) (h3 : BL cs = some cd) (h4 : it cd = some ds) :
 A06 C st (.tmp t) ps true fin step = LP (step p) (fun sg => fin (AA st sg)) ds (st.sg.set i (.arr 1 [])) := by
 unfold A06;simp only [hp, hm, h1, h2, h3, h4, ob, og]
theorem B0u {step : DV -> (List C9 -> Option X) -> List C9 -> Option X} {fin : List C9 -> Option X} {ds : List DV} {k : Nat} (h : ds[k]? = some d) (sg : List C9) :
 LP step fin (ds.drop k) sg = step d (LP step fin (ds.drop (k + 1))) sg := by
 obtain ⟨hk, h⟩ := z2q.1 h;rw [z15q hk, h];rfl
def Left (c : Code) (n : Nat) (E : Env) (h : Heap) (ds ds' : List Deferred) : Prop := ∃ ms, ds' = ms ++ ds /\ Marks n E h ms /\ (Bu c = true -> ms = [])
variable {c : Code}
theorem Left.same {n : Nat} {ds ds' : List Deferred} (e : ds' = ds) : Left c n E h ds ds' := ⟨[], e, Marks.nil, fun _ => rfl⟩
theorem Left.plain {n : Nat} {ds ds' : List Deferred} (L : Left c n E h ds ds') (hp : Bu c = true) : ds' = ds := by
 obtain ⟨ms, h1, -, h2⟩ := L;rw [h1, h2 hp]; rfl
theorem B0A (h : qU c = true) : Bu c = true := by
 unfold qU at h
 split at h
 ·rfl
 ·rfl
 ·cases h
set_option maxHeartbeats 1000000 in
theorem A9G (hm : C.P.follows .mixedOrders = true) (hO : GU C R) : ∀ (c : Code) {ro : Option Nat} {n : Nat} {K : Out -> St -> Option X} {st : St} {x : X} {E : Env} {a : Act} {w : World} {Q : Exit -> Act -> World -> Prop}, (ro = none \/ Bu c = true) -> l6 C R fl c K st = some x -> K3 E st a w.heap ->
 (∀ out E' st' a' w', K out st' = some x -> Left c w.heap.size E' w'.heap a.defers a'.defers -> K3 E' st' a' w'.heap -> Pr O3 E w.heap E' w'.heap -> Z4 w w' -> Q out.A98 a' w') -> c.wpIn (Mf ro) n C.P Q a w := by
 intro c
 induction c with
 | skip =>
   intro ro n K st x E a w Q ZT H Rl T;exact wpIn_skip (T .normal E st a w H (Left.same rfl) Rl (Pr.refl _ _ _) (Z4.refl _))
 | region id ops d =>
   intro ro n K st x E a w Q ZT H Rl T;cases d
   ·exact B2J hO H (Rl.NR fl id) fun E' t a' w' h1 h0 h2 h3 h4 => by
     obtain ⟨E2, t2, k1, k2, k3⟩ := A4M h1 h2;exact T .normal E2 t2 a' w' k1 (Left.same h0) k2 (h3.trans k3) h4
   ·simp only [l6, kF] at H
    exact B58 hm hO H (Rl.NR fl id) fun E' t a' w' h1 h0 h2 h3 h4 => by
     obtain ⟨E2, t2, k1, k2, k3⟩ := A4M h1 h2;exact T .normal E2 t2 a' w' k1 (Left.same h0) k2 (h3.trans k3) h4
 | seq c d ihc ihd =>
   intro ro n K st x E a w Q ZT H Rl T;have hp : Bu (.seq c d) = true -> Bu c = true /\ Bu d = true := fun h => by simpa [Bu] using h
   refine wpIn_seq (ihc (ZT.imp id fun h => (hp h).1) H Rl fun out E' st' a' w' h1 h0 h2 h3 h4 => ?_)
   obtain ⟨ms, q1, q2, q3⟩ := h0;cases out with
   | normal =>
     refine ihd (ZT.imp id fun h => (hp h).2) h1 (h2.clean fl d) fun out E2 st2 a2 w2 k1 k0 k2 k3 k4 => T out E2 st2 a2 w2 k1 ?_ k2 (h3.trans k3) (h4.trans k4)
     obtain ⟨ns, p1, p2, p3⟩ := k0;exact ⟨ns ++ ms, by rw [p1, q1, z66q], p2.append q2 k3 h3.size, fun h => by rw [p3 (hp h).2, q3 (hp h).1]; rfl⟩
   | exit i => exact T (.exit i) E' st' a' w' h1 ⟨ms, q1, q2, fun h => q3 (hp h).1⟩ h2 h3 h4
   | ret => exact T .ret E' st' a' w' h1 ⟨ms, q1, q2, fun h => q3 (hp h).1⟩ h2 h3 h4
 | cond y c d ihc ihd =>
   intro ro n K st x E a w Q ZT H Rl T;have hp : Bu (.cond y c d) = true -> Bu c = true /\ Bu d = true := fun h => by simpa [Bu] using h
   simp only [l6, A41] at H;obtain ⟨r, h1, H⟩ := C8 H;obtain ⟨h2, H⟩ := F9 H;have e1 := (Rl.src h1).data h2;have fin : (r.1 = .bool true /\ l6 C R fl c K (Su.clean fl c st) = some x) \/ (r.1 = .bool false /\ l6 C R fl d K (Su.clean fl d st) = some x) := by
    cases y with
    | tmp t =>
      simp only [src, Option.some.injEq] at h1;subst h1;simp only at H;rcases qZ H with ⟨h3, h4⟩ | ⟨h3, h4⟩
      ·rw [Gn h3 (by simp)] at h4
       exact .inl ⟨h3, h4⟩
      ·rw [Gn h3 (by simp)] at h4
       exact .inr ⟨h3, h4⟩
    | _ => exact qZ H
   rcases fin with ⟨h3, h4⟩ | ⟨h3, h4⟩
   ·rw [h3] at e1
    simp only [RV] at e1;exact wpIn_cond_true e1 (ihc (ZT.imp id fun h => (hp h).1) h4 (Rl.clean fl c) fun out E' st' a' w' h1 ⟨ms, q1, q2, q3⟩ h2 h3 h4 => T out E' st' a' w' h1 ⟨ms, q1, q2, fun h => q3 (hp h).1⟩ h2 h3 h4)
   ·rw [h3] at e1
    simp only [RV] at e1;exact wpIn_cond_false e1 (ihd (ZT.imp id fun h => (hp h).2) h4 (Rl.clean fl d) fun out E' st' a' w' h1 ⟨ms, q1, q2, q3⟩ h2 h3 h4 => T out E' st' a' w' h1 ⟨ms, q1, q2, fun h => q3 (hp h).2⟩ h2 h3 h4)
 | block id c ih =>
   intro ro n K st x E a w Q ZT H Rl T;refine wpIn_block (ih ZT H Rl fun out E' st' a' w' h1 h0 h2 h3 h4 => ?_)
   cases out with
   | normal => exact T .normal E' st' a' w' h1 h0 h2 h3 h4
   | exit i =>
     simp only [Out.A98, Exit.inBlock];have h1 : (if i = id then K .normal st' else K (.exit i) st') = some x := h1
     by_cases hi : i = id
     ·rw [if_pos hi] at h1 ⊢
      exact T .normal E' st' a' w' h1 h0 h2 h3 h4
     ·rw [if_neg hi] at h1 ⊢
      exact T (.exit i) E' st' a' w' h1 h0 h2 h3 h4
   | ret => exact T .ret E' st' a' w' h1 h0 h2 h3 h4
 | loop c ih =>
   intro ro n K st x E a w Q ZT H Rl T;simp only [l6] at H;obtain ⟨m, H9⟩ := Zy H;refine wpIn_loop_rounds m ?_;clear H;have Rl9 := Rl.clean fl c;clear Rl;generalize Su.clean fl c st = st9 at H9 Rl9;clear st
   induction m generalizing st9 E a w with
   | zero => simp [iter] at H9
   | succ m ihn =>
     rw [roundsIn_succ];simp only [iter] at H9;refine ih ZT H9 Rl9 fun out E' st' a' w' h1 h0 h2 h3 h4 => ?_
     obtain ⟨ms, q1, q2, q3⟩ := h0;cases out with
     | normal =>
       refine ihn (fun out E2 st2 a2 w2 k1 k0 k2 k3 k4 => T out E2 st2 a2 w2 k1 ?_ k2 (h3.trans k3) (h4.trans k4)) _ h1 (h2.clean fl c)
       obtain ⟨ns, p1, p2, p3⟩ := k0;exact ⟨ns ++ ms, by rw [p1, q1, z66q], p2.append q2 k3 h3.size, fun h => by rw [p3 h, q3 h]; rfl⟩
     | exit i => exact T (.exit i) E' st' a' w' h1 ⟨ms, q1, q2, q3⟩ h2 h3 h4
     | ret => exact T .ret E' st' a' w' h1 ⟨ms, q1, q2, q3⟩ h2 h3 h4
 | exit id =>
   intro ro n K st x E a w Q ZT H Rl T;exact wpIn_exit (T (.exit id) E st a w H (Left.same rfl) Rl (Pr.refl _ _ _) (Z4.refl _))
 | ret =>
   intro ro n K st x E a w Q ZT H Rl T;exact wpIn_ret (T .ret E st a w H (Left.same rfl) Rl (Pr.refl _ _ _) (Z4.refl _))
 | rangeFunc g ps assign body iha ihb =>
   intro ro n K st x E a w Q ZT H Rl T;obtain rfl : ro = none := by
    rcases ZT with h | h
    ·exact h
    ·simp [Bu] at h
   obtain ⟨t, p, f, i, it, cs, cd, ds, rfl, hps, hmt, hit, hbx, hcd, ic, X_, H⟩ := A43 H;simp only [z11q] at X_;obtain ⟨hra, hpb⟩ := X_;have hpa := B0A hra;have hfn := Rl.src (P := C.P) (t := 0) (x := .tmp t) rfl;rw [hmt] at hfn;simp only [RR, J8] at hfn;obtain ⟨hfv, hfi⟩ := hfn;have oF : i < E.n := (hfi (i, 0) (by simp)).1
   have hsi : st.sg[i]? = some (.box cs) := by
    unfold E9 at hbx
    split at hbx
    ·rename_i h; simp only [Option.some.injEq] at hbx; subst hbx; exact h
    ·cases hbx
   have hRO := Rl.U4 i _ hsi;simp only [RO] at hRO;obtain ⟨c, T0, b1, b2, b3, b4⟩ := hRO;have C1g : GI E.S w.heap cd c.toList := A6A (k := 2) (a := i) hcd (by simp [b2]) fun j r v hr hv => by
    obtain ⟨a1, a2, a3, a4⟩ := b4 j r v hr (by simpa using hv)
    exact ⟨a1, a2, a3, j, a4⟩
   let E1 := E.re (A74 i)
   have hS1 : Z9 E.S w.heap E1.S w.heap := Je rfl;have P01 : Pr O3 E w.heap E1 w.heap := Pr.re fun T hT => by
    cases T <;> simp [O3] at hT <;> rfl
   have C1r : ∀ (j : Nat) ob, (st.sg.set i (.arr 1 []))[j]? = some ob -> RO E1 w.heap j ob := by
    intro j ob hj
    by_cases PH : i = j
    ·subst PH
     rw [z23q (z2q.1 hsi).1] at hj;simp only [Option.some.injEq] at hj;subst hj;simp [RO]
    ·rw [z4q PH] at hj
     have hji : ¬ j = i := fun h => PH h.symm
     refine (Rl.U4 j ob hj).to (E := E) ⟨fun b o h => by simp only [E1, Env.re]; rw [h]; rfl, fun b o h => by simp only [E1, Env.re]; rw [h]; simp [A74, hji], rfl, rfl, rfl, rfl, rfl⟩ fun q b o h => by
      simp only [E1, Env.re]; rw [h]; simp [A74, hji]
   have C0f : ∀ o, o < c.size -> E1.O (E.obj i) o = .other := by
    intro o ho;simp only [E1, Env.re];rcases b3 o with h | h
    ·rw [h]; simp [A74]
    ·omega
   refine wpIn_rangeFunc fun fn _ => ?_
   obtain ⟨rec, Ym⟩ : ∃ rec : LoopState -> Option Code -> Loop, rec = fun st pe => { state := st, pending := pe, fn, tmps := a.tmps, params := ps, assign, body, defers := w.heap.size } := ⟨_, rfl⟩
   obtain ⟨W1, hW1⟩ : ∃ W1, (w.alloc (.deferred (some []))).alloc (.loop (rec .ready none)) = W1 := ⟨_, rfl⟩;have B5y : W1.heap.size = w.heap.size + 2 := by rw [<- hW1]; simp
   have hL1 : W1.heap[w.heap.size + 1]? = some (.loop (rec .ready none)) := by
    rw [<- hW1]; have := World.alloc_heap_new (w.alloc (.deferred (some []))) (.loop (rec .ready none)); rwa [World.size_alloc] at this
   have hK1 : W1.heap[w.heap.size]? = some (.deferred (some [])) := by
    rw [<- hW1]; exact (Go.RowKit.Below.heap_alloc _ _ _ (by simp)).trans (World.alloc_heap_new w _)
   have P1 : Pr (fun _ => False) E1 w.heap E1 W1.heap := by
    rw [<- hW1];exact (Pr.push (fun _ _ _ _ => rfl) (z12q _) (fun _ _ _ => ⟨rfl, rfl, rfl⟩) (fun _ _ => rfl) (Dc rfl)).trans (Pr.push (fun _ _ _ _ => rfl) (z12q _) (fun _ _ _ => ⟨rfl, rfl, rfl⟩) (fun _ _ => rfl) (Dc rfl))
   have A8X : ∀ b o, w.heap.size <= b -> E1.O b o = .other := fun b o hb => by simp only [E1, Env.re]; rw [Rl.fresh b o hb]; rfl
   have B2k : Z9 E1.S w.heap E1.S W1.heap := P1.shut (by simp) A8X
   have C0k : Z4 w W1 := by rw [<- hW1]; exact ⟨rfl, rfl, rfl⟩
   refine ⟨w.heap.size + 1, [{ target := .collected w.heap.size, args := #[] }], W1, { target := .fn (.func f) #[.pointer (some ⟨E.obj i, 0, none⟩)], args := #[.func (.yield (w.heap.size + 1)) #[] #[]] }, W1, f,
    #[.func (.yield (w.heap.size + 1)) #[] #[], .pointer (some ⟨E.obj i, 0, none⟩)], W1, ?_, ?_, fun _ _ => trivial, ?_, fun h => (by cases h), ?_⟩
   ·rw [<- hW1, Ym]; exact run_enterLoop_outer _ _ _ _ _
   ·simp only [resolve, hfv]
    simp [go_sem]
   ·have := A0E (hO.i f it hit).1 #[.func (.yield (w.heap.size + 1)) #[] #[], .pointer (some ⟨E.obj i, 0, none⟩)] W1
    simpa [invoke, go_sem] using this
   let step : DV -> (List C9 -> Option X) -> List C9 -> Option X := fun d J sg =>
    l6 C R fl assign (fun o st1 => match o with
     | .normal => l6 C R fl body (fun o st2 => match o with
       | .normal => J st2.sg
       | .exit e => K (.exit e) (AA st st2.sg)
       | .ret => K .ret (AA st st2.sg)) (Su.clean fl body st1)
     | .exit _ => none
     | .ret => none) (Su.clean fl assign (Wt st p d sg))
   let fin : List C9 -> Option X := fun sg => K .normal (AA st sg)
   have H : LP step fin ds (st.sg.set i (.arr 1 [])) = some x := H
   let Good : Env -> World -> List C9 -> Prop := fun E' W sg => sg.length = E'.n /\ (∀ (j : Nat) ob, sg[j]? = some ob -> RO E' W.heap j ob) /\ (∀ b o, W.heap.size <= b -> E'.O b o = .other) /\ Pr O3 E1 w.heap E' W.heap /\ Z4 w W /\
    W.heap[w.heap.size]? = some (.deferred (some [])) /\ E'.O w.heap.size 0 = .other /\ E'.O (w.heap.size + 1) 0 = .other
   let J : Nat -> Env -> World -> Prop := fun k E' W => ∃ sg, LP step fin (ds.drop k) sg = some x /\ Good E' W sg /\ W.heap[w.heap.size + 1]? = some (.loop (rec .ready none))
   let Jx : World -> Prop := fun W => ∃ (out : Out) (cd : Code) (E' : Env) (sg : List C9), ((out = .ret /\ cd = .ret) \/ ∃ e, out = .exit e /\ cd = .exit e) /\ K out (AA st sg) = some x /\ Good E' W sg /\ W.heap[w.heap.size + 1]? = some (.loop (rec .done (some cd)))
   have behind : ∀ E' W sg (dl : List Deferred), Good E' W sg -> K3 E' (AA st sg) { a with defers := dl } W.heap := by
    intro E' W sg dl ⟨g1, g2, g3, g4, g5, g6, g7, g8⟩;have J3 : Z9 E.S w.heap E'.S W.heap := by
     have h2 := g4.shut (by simp [O3]) A8X
     exact ⟨fun b o hs => h2.s b o (hS1.s b o hs), fun b o v hs hv => h2.c b o v (hS1.s b o hs) hv⟩
    exact Rl.outer J3 (fun j hj => ⟨g4.In hj, (g4.old hj).1⟩) g1 g2 g3
   have B1g : ∀ E' W sg (o : Obj) (o' : Obj), Good E' W sg -> W.heap[w.heap.size + 1]? = some o -> o.isCells = false -> Good E' (W.putObj (w.heap.size + 1) o') sg := by
    intro E' W sg o o' ⟨g1, g2, g3, g4, g5, g6, g7, g8⟩ ho hc;have Pp : Pr (fun T => T = .other) E' W.heap E' (W.putObj (w.heap.size + 1) o').heap := Pr.setOther ho hc g8
    have J3 := Pp.shut (by simp) g3
    refine ⟨g1, fun j ob hj => (g2 j ob hj).mono Pp J3 (by rw [<- g1]; exact (z2q.1 hj).1) (by simp) (by simp), fun b o hb => g3 b o (by simpa using hb), g4.A0G (by omega), ⟨g5.os, g5.tape, g5.output⟩, ?_, g7, g8⟩
    exact (World.putObj_heap_other (by omega)).trans g6
   have C1i : W1.heap[E.obj i]? = some (.cells c T0 (0, 0)) := by
    have L8 := (z1q.1 b1).1;rw [<- hW1];exact (Go.RowKit.Below.heap_alloc _ _ _ (by simp; omega)).trans ((Go.RowKit.Below.heap_alloc _ _ _ L8).trans b1)
   have key := (hO.i f it hit).2 cd ds ic (n - 1) (w.heap.size + 1) (E.obj i) c T0 J Jx E1 W1 C1i C0f (GI.mono ⟨fun b o hs => B2k.s b o (hS1.s b o hs), fun b o v hs hv => B2k.c b o v (hS1.s b o hs) hv⟩ _ C1g)
    (fun k E' W' ⟨sg, _, g, _⟩ => g.2.2.1) ?_ ?_ ?_
   ·refine CallsIn.mono key ?_
    rintro e W2 ⟨⟨v, rfl⟩, ⟨E', sg, h1, g, hl⟩ | ⟨out, cd, E', sg, ho, h1, g, hl⟩⟩
    ·-- all have come
     have g' := B1g E' W2 sg _ (.loop { rec .ready none with state := .exhausted }) g hl rfl
     refine ⟨none, W2.putObj (w.heap.size + 1) (.loop { rec .ready none with state := .exhausted }), by have := run_endLoop (P := C.P) hl (by rw [Ym]; simp); rw [this]; rw [Ym], ?_⟩
     rw [z56q] at h1;refine T .normal E' _ _ _ h1 ⟨[{ target := .collected w.heap.size, args := #[] }], rfl, ?_, fun h => by simp [Bu] at h⟩ (behind E' _ sg _ g') (P01.trans g'.2.2.2.1) g'.2.2.2.2.1
     refine ⟨fun m hm => ?_, by simp⟩
     simp only [z19q] at hm;subst hm;exact ⟨_, rfl, g'.2.2.2.2.2.1, g'.2.2.2.2.2.2.1, z12q _⟩
    ·-- a round has left the loop
     have g' := B1g E' W2 sg _ (.loop { rec .done (some cd) with state := .exhausted }) g hl rfl
     refine ⟨some cd, W2.putObj (w.heap.size + 1) (.loop { rec .done (some cd) with state := .exhausted }), by have := run_endLoop (P := C.P) hl (by rw [Ym]; simp); rw [this]; rw [Ym], ?_⟩
     have hT : Q out.A98 { a with defers := [{ target := .collected w.heap.size, args := #[] }] ++ a.defers } (W2.putObj (w.heap.size + 1) (.loop { rec .done (some cd) with state := .exhausted })) := by
      refine T out E' _ _ _ h1 ⟨[{ target := .collected w.heap.size, args := #[] }], rfl, ?_, fun h => by simp [Bu] at h⟩ (behind E' _ sg _ g') (P01.trans g'.2.2.2.1) g'.2.2.2.2.1
      refine ⟨fun m hm => ?_, by simp⟩
      simp only [z19q] at hm;subst hm;exact ⟨_, rfl, g'.2.2.2.2.2.1, g'.2.2.2.2.2.2.1, z12q _⟩
     rcases ho with ⟨rfl, rfl⟩ | ⟨e, rfl, rfl⟩
     ·exact wpIn_ret hT
     ·exact wpIn_exit hT
   ·intro k E' Wa Wb ⟨sg, h1, ⟨g1, g2, g3, g4, g5, g6, g7, g8⟩, hl⟩ hIt
    have J3 := hIt.pr.shut (by simp) g3
    exact ⟨sg, h1, ⟨g1, fun j ob hj => (g2 j ob hj).mono hIt.pr J3 (by rw [<- g1]; exact (z2q.1 hj).1) (by simp) (by simp), fun b o hb => g3 b o (z65q hIt.size hb), hIt.after (by omega) g4, g5.trans hIt.out, hIt.keep g6 rfl, g7, g8⟩, hIt.keep hl rfl⟩
   ·-- one round
    intro k E' W d v ⟨sg, h1, g, hl⟩ hd hv;rw [B0u hd] at h1;have B8X : ps = #[p] := by
     apply Array.ext';simpa using hps
    have hy := run_yield (P := C.P) (args := #[v]) hl (by rw [Ym]; simp [B8X])
    rw [Ym] at hy;refine ⟨fn, _, assign, body, hy, roundIn_of_wpIn trivial ?_⟩;obtain ⟨g1, g2, g3, g4, g5, g6, g7, g8⟩ := g;have R0 : K3 E' (Wt st p d sg) ({ tmps := a.tmps.setIfInBounds p v, defers := [] } : Act) W.heap := by
     have := (behind E' W sg [] ⟨g1, g2, g3, g4, g5, g6, g7, g8⟩).put (dst := some p) (d := d) (m := .val) (v := v) fun t0 _ => hv
     exact this
    have C0c : (Array.zip ps #[v]).foldl (fun tmps (t, a) => tmps.setIfInBounds t a) a.tmps = a.tmps.setIfInBounds p v := by rw [B8X]; simp
    simp only [C0c];refine iha (ro := some (w.heap.size + 1)) (.inr hpa) h1 (R0.clean fl assign) fun out E2 st1 a1 w1 k1 k0 k2 k3 k4 => ?_
    cases out with
    | exit e => cases k1
    | ret => cases k1
    | normal =>
    have d1 : a1.defers = [] := k0.plain hpa;have hl1 := k3.eQ hl rfl g8;have t1 : E2.O (w.heap.size + 1) 0 = .other := k3.Wm (z1q.1 hl).1 g8;refine ⟨_, run_beginRound hl1 (by rw [Ym]), ?_⟩
    have R2 : K3 E2 (Su.clean fl body st1) a1 (w1.putObj (w.heap.size + 1) (.loop { rec .ready none with state := .busy })).heap :=
     (k2.others (Pr.setOther hl1 rfl t1) rfl (fun b o hb => k2.fresh b o (by simpa using hb))).clean fl body
    refine ihb (ro := some (w.heap.size + 1)) (.inr hpb) k1 R2 fun out E3 st2 a3 w3 q1 q0 q2 q3 q4 => ?_
    have hl2 : (w1.putObj (w.heap.size + 1) (.loop { rec .ready none with state := .busy })).heap[w.heap.size + 1]? = some (.loop { rec .ready none with state := .busy }) := World.putObj_heap_same (z1q.1 hl1).1
    have hl3 := q3.eQ hl2 rfl t1;have t3 : E3.O (w.heap.size + 1) 0 = .other := q3.Wm (z1q.1 hl2).1 t1;have lt3 := (z1q.1 hl3).1;have sz1 := k3.size;have L8 := (z1q.1 hl).1;have Pw : Pr O3 E' W.heap E3 (w3.heap.setIfInBounds (w.heap.size + 1) (.loop (rec .ready none))) := k3.trans (q3.swap hl1);have Pb : ∀ o, Pr O3 E1 w.heap E3 (w3.heap.setIfInBounds (w.heap.size + 1) o) := fun o => by
     have := (g4.trans Pw).A0G (l := w.heap.size + 1) (x := o) (by omega)
     rwa [Array.setIfInBounds_setIfInBounds] at this
    have hD1 := k3.eQ g6 rfl g7;have tD1 : E2.O w.heap.size 0 = .other := k3.Wm (z1q.1 g6).1 g7;have hD2 : (w1.putObj (w.heap.size + 1) (.loop { rec .ready none with state := .busy })).heap[w.heap.size]? = some (.deferred (some [])) := (World.putObj_heap_other (by omega)).trans hD1
    have hD3 := q3.eQ hD2 rfl tD1;have tD3 : E3.O w.heap.size 0 = .other := q3.Wm (z1q.1 hD2).1 tD1;have B2e : ∀ o, Good E3 (w3.putObj (w.heap.size + 1) o) st2.sg := fun o => by
     have R3 := q2.others (Pr.setOther (x := o) hl3 rfl t3) rfl (fun b o hb => q2.fresh b o (by simpa using hb))
     refine ⟨R3.n, R3.U4, R3.fresh, Pb o, ?_, (World.putObj_heap_other (by omega)).trans hD3, tD3, t3⟩
     have := (g5.trans k4).trans (Z4.trans (b := w1.putObj (w.heap.size + 1) (.loop { rec .ready none with state := .busy })) ⟨rfl, rfl, rfl⟩ q4)
     exact ⟨this.os, this.tape, this.output⟩
    cases out with
    | normal =>
      refine ⟨_, _, run_endRound none hl3, .inl ⟨rfl, E3, ⟨st2.sg, q1, B2e _, ?_⟩, ?_⟩⟩
      ·rw [World.putObj_heap_same lt3]; rw [Ym]; rfl
      ·have : (Obj.loop { { rec .ready none with state := .busy } with state := if (none : Option Code).isNone = true then .ready else .done, pending := none }) = .loop (rec .ready none) := by rw [Ym]; rfl
       rw [this];exact Pw
    | ret =>
      refine ⟨_, _, run_endRound (some .ret) hl3, .inr ⟨rfl, .ret, .ret, E3, st2.sg, .inl ⟨rfl, rfl⟩, q1, B2e _, ?_⟩⟩;rw [World.putObj_heap_same lt3]; rw [Ym]; rfl
    | exit e =>
      refine ⟨_, _, run_endRound (some (.exit e)) hl3, .inr ⟨rfl, .exit e, .exit e, E3, st2.sg, .inr ⟨e, rfl, rfl⟩, q1, B2e _, ?_⟩⟩;rw [World.putObj_heap_same lt3]; rw [Ym]; rfl
   ·-- where it begins
    refine ⟨_, H, ⟨by rw [List.length_set]; exact Rl.n, fun j ob hj => (C1r j ob hj).mono P1 B2k ?_ (by simp) (by simp), fun b o hb => A8X b o (by omega), P1.weaken (by simp), C0k, hK1, A8X _ _ (z12q _), A8X _ _ (by omega)⟩, hL1⟩
    have := (z2q.1 hj).1;rw [List.length_set, Rl.n] at this;exact this
 | _ =>
   intro ro n K st x E a w Q ZT H Rl T;simp [l6] at H
end
end Go.Su

/-
 THE DATA MACHINE, part 26: a plain function's results.
-/
namespace Go.Su
structure A0X (E : Env) (h : Heap) (g : List C9) (S : Z5) : Prop where
 le : Z9 E.S h S h
 ob : ∀ (i : Nat) ob, g[i]? = some ob -> RO E h i ob /\ (ob ≠ .arr 1 [] -> ∀ b o, E.O b o = .obj i -> S b o)
variable (E : Env)
def Env.fin : Z5 := fun b o => E.O b o = .shut \/ ∃ i, E.O b o = .obj i
theorem B8D (h : Heap) : Z9 E.S h E.fin h := ⟨fun _ _ hs => .inl hs, fun _ _ _ _ hv => hv⟩
variable {E : Env} {st : St} {a : Act} {h : Heap}
theorem B3C (Rl : K3 E st a h) : A0X E h st.sg E.fin := ⟨B8D E h, fun i ob hi => ⟨Rl.U4 i ob hi, fun _ _ _ h => .inr ⟨i, h⟩⟩⟩
theorem B2z (E : Env) (h : Heap) : A0X E h [] E.S := ⟨⟨fun _ _ hs => hs, fun _ _ _ _ hv => hv⟩, fun i ob hi => by simp at hi⟩
variable {sg : List C9} {d : DV} {S : Z5}
theorem XV {c : DV × Meta} {tg : Tag} {v : Value} (H : Z0 sg c = some d) (R : J8 E h tg c.1 c.2 v) (ho : A0X E h sg S) :
 RV S h d v /\ (M4 c.1 = true -> c.2 = .val -> M4 d = true) /\ (c.2 ≠ .val -> M4 d = true) := by
 unfold Z0 at H
 split at H
 ·rename_i hm
  simp only [Option.some.injEq] at H;subst H;rw [hm] at R;exact ⟨RV.mono ho.le _ R, fun h _ => h, fun h => absurd hm h⟩
 ·rename_i hm
  simp only [Option.some.injEq] at H;subst H;rw [hm] at R;obtain ⟨R1, -, sz, ds, hd⟩ := R;exact ⟨R1.mono ho.le, fun h _ => h, fun _ => by rw [hd]; rfl⟩
 ·rename_i hm
  simp only [Option.some.injEq] at H;subst H;rw [hm] at R;obtain ⟨R1, sz, ds, hd, -⟩ := R;exact ⟨R1.mono ho.le, fun h _ => h, fun _ => by rw [hd]; rfl⟩
 ·rename_i hm
  simp only [Option.some.injEq] at H;subst H;rw [hm] at R;obtain ⟨R1, R2⟩ := (R : _ /\ _);exact ⟨by rw [R1, R2]; simp only [RV], fun h _ => h, fun _ => by rw [R1]; rfl⟩
 ·rename_i i sz off len hm
  obtain ⟨p, hp, H⟩ := C8 H;obtain ⟨h1, H⟩ := F9 H;obtain ⟨h2, H⟩ := K9 H;simp only [Option.some.injEq] at H;subst H;rw [hm] at R;simp only [J8] at R;obtain ⟨hi, a, cap, rfl, ha, A5Z, B2h, B2n, -⟩ := R;refine ⟨?_, fun _ _ => rfl, fun _ => rfl⟩
  simp only [RV, RC];have hll : ((p.2.drop off).take len).length = len := by simp; omega
  obtain ⟨ig, hsh⟩ := ho.ob i _ (qm hp);simp only [beq_iff_eq] at h1;refine ⟨a, len, cap, rfl, hll.symm, A5Z, B2h, fun hne => ?_, fun x hx => ⟨fun _ => B2n x hx, ?_⟩⟩
  ·simp only [RO] at ig
   have : p.2 ≠ [] := fun h => by rw [h] at hne; simp at hne
   obtain ⟨c, T, e1, e2, e3, -⟩ := ig this;rw [<- h1]; exact e3
  ·rw [EA]
   intro j d hj;have v_ : j < len := by
    have := (z2q.1 hj).1;omega
   rw [List.getElem?_take_of_lt v_, List.getElem?_drop] at hj;have hne : p.2 ≠ [] := fun h => by rw [h] at hj; simp at hj
   simp only [RO] at ig;obtain ⟨c, T, e1, e2, e3, e4, e5⟩ := ig hne;obtain ⟨vs, v1, v2, v3⟩ := e5 (off + j) d hj;have hax := ha (by omega)
   rw [hx] at hax;simp only [Option.some.injEq] at hax;subst hax;refine ⟨vs, by rw [<- h1]; exact v1, fun y u hu => ?_, v3.mono ho.le⟩
   have hy : y < p.1 := by have := (z2q.1 hu).1; omega
   have hjp : off + j < p.2.length := (z2q.1 hj).1;have L8 : (off + j) * p.1 + y < p.2.length * p.1 := seg_lt hjp hy;have e : E.base i + off * sz + j * sz + y = E.base i + (off + j) * p.1 + y := by rw [<- h1, Nat.add_mul]; omega
   refine ⟨?_, hsh (fun h => hne (by have := congrArg (fun ob => match ob with | C9.arr _ ds => ds | _ => []) h; exact this)) _ _ ?_⟩
   ·rw [e]
    simp only [hc, e1];exact v2 y u hu
   ·rw [e]
    exact e4 _ (by omega) (by omega)
 ·cases H
theorem fE {E : Env} {h : Heap} {sg : List C9} {S : Z5} (ho : A0X E h sg S) : ∀ {cs : List (DV × Meta)} {vs : List Value} {ds : List DV}, Y4 sg cs = some ds -> cs.length = vs.length ->
 (∀ (j : Nat) r v, cs[j]? = some r -> vs[j]? = some v -> M4 r.1 = true /\ v.oneCell' = true /\ ∃ tg, J8 E h tg r.1 r.2 v) -> GI S h ds vs
 | [], vs, ds, H, hl, _ => by
   simp only [Y4, Option.some.injEq] at H;subst H;exact z29q hl.symm
 | c :: cs, [], ds, H, hl, _ => by simp at hl
 | c :: cs, v :: vs, ds, H, hl, hR => by
   simp only [Y4] at H;obtain ⟨d, h1, H⟩ := C8 H;obtain ⟨ds', h2, H⟩ := C8 H;simp only [Option.some.injEq] at H;subst H;obtain ⟨q1, q2, tg, q3⟩ := hR 0 c v rfl rfl;obtain ⟨r1, r2, r3⟩ := XV h1 q3 ho;have hlf : M4 d = true := by
    by_cases hm : c.2 = .val
    ·exact r2 q1 hm
    ·exact r3 hm
   simp only [GI];exact ⟨v, vs, rfl, hlf, Mr hlf q2 r1, fE ho h2 (by simpa using hl) fun j r u hr hu => hR (j + 1) r u (by simpa using hr) (by simpa using hu)⟩
variable (tmps : Array Value)
def KE : ResultVar -> Sem Value
 | .tmp t => pure (tmps.getD t undef)
 | .cell a t => do loadVar t (<- asAddr (tmps.getD a undef))
variable {P : Program} {rv : ResultVar}
theorem A0C {w : World} {g : List C9} (H : fB P (st.FE g) rv = some d) (Rl : K3 E st a w.heap) (ho : A0X E w.heap g S) :
 ∃ v, (KE a.tmps rv).run P w = .ok v w /\ RV S w.heap d v := by
 cases rv with
 | tmp t =>
   have H : (match (st.get t).2 with
    | .DZ ms => og (J6 (.DZ ms)) (some (st.get t).1)
    | _ => Z0 g (st.get t)) = some d := H
   have hR : RR E w.heap 0 t (st.get t).1 (st.get t).2 (a.tmps.getD t undef) := Rl.src (P := P) (t := 0) (x := .tmp t) rfl;refine ⟨a.tmps.getD t undef, rfl, ?_⟩
   split at H
   ·rename_i ms hm
    obtain ⟨h1, H⟩ := F9 H;simp only [Option.some.injEq] at H;subst H;exact (hR.data (by rw [hm]; exact h1)).mono ho.le
   ·rename_i hm
    have hnt : ∀ ms, (st.get t).2 ≠ .Bf ms := fun ms h => by
     unfold Z0 at H;rw [h] at H;simp at H
    exact (XV H (hR.A0T hnt fun ms h => hm ms h) ho).1
 | cell p t =>
   have H : (match (st.get p).2 with
    | .loc s 0 => ob (st.bx.getD s none) fun cs => ob (tz P t) fun z =>
      if z.1 = cs.length then
       if z.2 then ob (Y4 g cs) fun ds => some (.agg ds)
       else match cs with
        | [c] => Z0 g c
        | _ => none
      else none
    | .ptr i 0 => ob (E9 g i) fun cs => ob (tz P t) fun z =>
      if z.1 = cs.length then
       if z.2 then ob (Y4 g cs) fun ds => some (.agg ds)
       else match cs with
        | [c] => Z0 g c
        | _ => none
      else none
    | _ => none) = some d := H
   have hR : RR E w.heap 0 p (st.get p).1 (st.get p).2 (a.tmps.getD p undef) := Rl.src (P := P) (t := 0) (x := .tmp p) rfl
   split at H
   ·rename_i s hm
    obtain ⟨cs, h1, H⟩ := C8 H;obtain ⟨z, h2, H⟩ := C8 H;obtain ⟨h3, H⟩ := K9 H;rw [hm] at hR;simp only [RR, J8] at hR;obtain ⟨c, T, b1, b2, b3, b4⟩ := Rl.boxes s cs h1;obtain ⟨v, hv, YB, hv2⟩ := FD (w := w) h2 (b := E.blk s) (off := 0) (vs := c.toList) (by simp [b2, h3]) fun j u hu => by
     simp only [hc, b1, z22q];simpa using hu
    have U1 : (KE a.tmps (.cell p t)).run P w = .ok v w := by
     simp only [KE, hR.2, asAddr, Sem.run_bind, Sem.run_pure, Result.andThen_ok];exact hv
    refine ⟨v, U1, ?_⟩;have b5 : ∀ (j : Nat) r u, cs[j]? = some r -> c.toList[j]? = some u -> M4 r.1 = true /\ u.oneCell' = true /\ ∃ tg, J8 E w.heap tg r.1 r.2 u := fun j r u hr hu => by
     obtain ⟨q1, q2, q3, q4⟩ := b4 j r u hr (by simpa using hu)
     exact ⟨q1, q2, _, q4⟩
    by_cases hz : z.2 = true
    ·rw [if_pos hz] at H
     obtain ⟨ds, h4, H⟩ := C8 H;simp only [Option.some.injEq] at H;subst H;rw [YB hz];simp only [RV];exact ⟨_, rfl, fE ho h4 (by simp [b2]) b5⟩
    ·rw [if_neg hz] at H
     have hcv := hv2 (by simpa using hz)
     have h5 : ∃ c0, cs = [c0] /\ Z0 g c0 = some d := by
      split at H
      ·exact ⟨_, rfl, H⟩
      ·cases H
     obtain ⟨c0, rfl, h6⟩ := h5;obtain ⟨q1, q2, tg, q3⟩ := b5 0 c0 v rfl (by rw [hcv]; rfl)
     exact (XV h6 q3 ho).1
   ·rename_i i hm
    obtain ⟨cs, h1, H⟩ := C8 H;obtain ⟨z, h2, H⟩ := C8 H;obtain ⟨h3, H⟩ := K9 H;rw [hm] at hR;simp only [RR, J8] at hR;have hgi : g[i]? = some (.box cs) := by
     unfold E9 at h1
     split at h1
     ·rename_i h; simp only [Option.some.injEq] at h1; subst h1; exact h
     ·cases h1
    have hRO := (ho.ob i _ hgi).1;simp only [RO] at hRO;obtain ⟨c, T, b1, b2, b3, b4⟩ := hRO;obtain ⟨v, hv, YB, hv2⟩ := FD (w := w) h2 (b := E.obj i) (off := 0) (vs := c.toList) (by simp [b2, h3]) fun j u hu => by
     simp only [hc, b1, z22q];simpa using hu
    have U1 : (KE a.tmps (.cell p t)).run P w = .ok v w := by
     simp only [KE, hR.2, asAddr, Sem.run_bind, Sem.run_pure, Result.andThen_ok];exact hv
    refine ⟨v, U1, ?_⟩;have b5 : ∀ (j : Nat) r u, cs[j]? = some r -> c.toList[j]? = some u -> M4 r.1 = true /\ u.oneCell' = true /\ ∃ tg, J8 E w.heap tg r.1 r.2 u := fun j r u hr hu => by
     obtain ⟨q1, q2, q3, q4⟩ := b4 j r u hr (by simpa using hu)
     exact ⟨q1, q2, _, q4⟩
    by_cases hz : z.2 = true
    ·rw [if_pos hz] at H
     obtain ⟨ds, h4, H⟩ := C8 H;simp only [Option.some.injEq] at H;subst H;rw [YB hz];simp only [RV];exact ⟨_, rfl, fE ho h4 (by simp [b2]) b5⟩
    ·rw [if_neg hz] at H
     have hcv := hv2 (by simpa using hz)
     have h5 : ∃ c0, cs = [c0] /\ Z0 g c0 = some d := by
      split at H
      ·exact ⟨_, rfl, H⟩
      ·cases H
     obtain ⟨c0, rfl, h6⟩ := h5;obtain ⟨q1, q2, tg, q3⟩ := b5 0 c0 v rfl (by rw [hcv]; rfl)
     exact (XV h6 q3 ho).1
   ·cases H
theorem A5t {P : Program} {E : Env} {st : St} {a : Act} {w : World} (Rl : K3 E st a w.heap) : ∀ {rs : List ResultVar} {ds : List DV}, aN P st rs = some ds ->
 ∃ vs : List Value, (rs.mapM (KE a.tmps)).run P w = .ok vs w /\ Pq E.fin w.heap ds vs /\ vs.length = rs.length
 | [], ds, H => by
   simp only [aN, Option.some.injEq] at H;subst H;exact ⟨[], rfl, rfl, rfl⟩
 | r :: rs, ds, H => by
   simp only [aN] at H;obtain ⟨d, h1, H⟩ := C8 H;obtain ⟨ds', h2, H⟩ := C8 H;simp only [Option.some.injEq] at H;subst H;obtain ⟨v, q1, q2⟩ := A0C (g := st.sg) h1 Rl (B3C Rl);obtain ⟨vs, q3, q4, q5⟩ := A5t Rl h2;refine ⟨v :: vs, ?_, ⟨v, vs, rfl, q2, q4⟩, by simp [q5]⟩
   simp only [List.mapM_cons, Sem.run_bind, q1, q3, Result.andThen_ok, Sem.run_pure]
theorem qd (fn : Func) (tmps : Array Value) : results fn tmps = (do
 let vs <- fn.results.toList.mapM (KE tmps)
 pure (if h : vs.toArray.size = 1 then vs.toArray[0] else .tuple vs.toArray)) := by
 have : results fn tmps = (do
  let vs <- fn.results.mapM (KE tmps)
  pure (if h : vs.size = 1 then vs[0] else .tuple vs)) := by
  unfold results
  congr 1
 rw [this, Array.mapM_eq_mapM_toList];simp
theorem B7u {ds : List DV} {vs : List Value} (R : Pq S h ds vs) : RV S h (pack ds) (if h : vs.toArray.size = 1 then vs.toArray[0] else .tuple vs.toArray) := by
 obtain ⟨hl, hR⟩ := Vy.1 R
 by_cases h1 : vs.toArray.size = 1
 ·rw [dif_pos h1]
  obtain ⟨v, rfl⟩ := z54q.1 (by simpa using h1)
  obtain ⟨d, rfl⟩ := z54q.1 (by simpa using hl)
  exact hR 0 d v rfl rfl
 ·rw [dif_neg h1]
  unfold pack
  split
  ·simp at hl h1; omega
  ·simp only [RV]
   exact ⟨_, rfl, by simpa using R⟩
variable (us : List Nat)
def Kk (sg : List C9) : List C9 := sg.mapIdx fun i ob => if i ∈ us then ob else .arr 1 []
def Eo (T : Tag) : Tag :=
 match T with
 | .obj i => if i ∈ us then .shut else .obj i
 | T => T
variable {us : List Nat}
theorem VK {T : Tag} (h : ∀ i ∈ us, T ≠ .obj i) : Eo us T = T := by
 unfold Eo
 split
 ·rename_i i
  rw [if_neg fun hi => h i hi rfl]
 ·rfl
theorem A9F (us : List Nat) {T : Tag} (h : ¬ ∃ i ∈ us, T = .obj i) : Eo us T = T := VK fun i hi he => h ⟨i, hi, he⟩
theorem B3U {i : Nat} (h : i ∈ us) : (Kk us sg)[i]? = sg[i]? := by
 unfold Kk;rw [z60q];cases sg[i]? <;> simp [h]
theorem B2G {i : Nat} (h : i ∈ us) : DX (Kk us sg) i = DX sg i := by
 unfold DX;rw [B3U h]
theorem Yp {c : DV × Meta} (h : ∀ i ∈ A01 c.2, i ∈ us) : Z0 (Kk us sg) c = Z0 sg c := by
 obtain ⟨d, m⟩ := c;cases m <;> try rfl
 case arr i sz off len =>
  simp only [Z0];rw [B2G (h i (by simp [A01]))]
theorem oU {us : List Nat} {sg : List C9} : ∀ {cs : List (DV × Meta)}, (∀ c ∈ cs, ∀ i ∈ A01 c.2, i ∈ us) -> Y4 (Kk us sg) cs = Y4 sg cs
 | [], _ => rfl
 | c :: cs, h => by
   simp only [Y4];rw [Yp (h c (z8q ..)), oU fun c' hc' => h c' (z9q _ hc')]
theorem B0B (hl : A3J st rv = true) (hu : ∀ i ∈ UD st rv, i ∈ us) (H : fB P st rv = some d) : fB P (st.FE (Kk us st.sg)) rv = some d := by
 cases rv with
 | tmp t =>
   simp only [UD] at hu;have e := Yp (us := us) (sg := st.sg) (c := st.get t) hu
   show (match (st.get t).2 with
    | .DZ ms => og (J6 (.DZ ms)) (some (st.get t).1)
    | _ => Z0 (Kk us st.sg) (st.get t)) = some d
   rw [e];exact H
 | cell p t =>
   simp only [A3J] at hl;simp only [UD] at hu;simp only [fB] at H ⊢
   show (match (st.get p).2 with
    | .loc s 0 => ob (st.bx.getD s none) fun cs => ob (tz P t) fun z =>
      if z.1 = cs.length then
       if z.2 then ob (Y4 (Kk us st.sg) cs) fun ds => some (.agg ds)
       else match cs with
        | [c] => Z0 (Kk us st.sg) c
        | _ => none
      else none
    | .ptr i 0 => ob (E9 (Kk us st.sg) i) fun cs => ob (tz P t) fun z =>
      if z.1 = cs.length then
       if z.2 then ob (Y4 (Kk us st.sg) cs) fun ds => some (.agg ds)
       else match cs with
        | [c] => Z0 (Kk us st.sg) c
        | _ => none
      else none
    | _ => none) = some d
   cases hm : (st.get p).2 with
   | loc s o =>
     rw [hm] at H hu;cases o with
     | succ o => simp at H
     | zero =>
       simp only at H hu ⊢;obtain ⟨cs, h1, H⟩ := C8 H;rw [h1] at hu;simp only at hu;have hc : ∀ c ∈ cs, ∀ i ∈ A01 c.2, i ∈ us := fun c hc i hi => hu i (z32q.2 ⟨c, hc, hi⟩)
       rw [h1, K4, oU hc];obtain ⟨z, h2, H⟩ := C8 H;rw [h2, K4];obtain ⟨h3, H⟩ := K9 H;rw [if_pos h3]
       by_cases hz : z.2 = true
       ·rw [if_pos hz] at H ⊢
        exact H
       ·rw [if_neg hz] at H ⊢
        match cs, hc, H with
        | [c], hc, H =>
          simp only at H ⊢;rw [Yp (hc c (z8q ..))];exact H
        | [], _, H => simp at H
        | _ :: _ :: _, _, H => simp at H
   | _ => rw [hm] at hl; simp at hl
theorem B2v (Rl : K3 E st a h) (us : List Nat) : A0X E h (Kk us st.sg) (E.re (Eo us)).S := by
 refine ⟨Je (VK (by simp)), fun i ob hi => ?_⟩
 unfold Kk at hi;rw [z60q] at hi;cases hg : st.sg[i]? with
 | none => rw [hg] at hi; simp at hi
 | some o =>
   rw [hg] at hi;simp only [z49q, Option.some.injEq] at hi
   by_cases hm : i ∈ us
   ·rw [if_pos hm] at hi
    subst hi;refine ⟨Rl.U4 i _ hg, fun _ b o hb => ?_⟩
    simp only [Env.S, Env.re];rw [hb];simp [Eo, hm]
   ·rw [if_neg hm] at hi
    subst hi;exact ⟨by simp [RO], fun h => absurd rfl h⟩
theorem B5B (sg : List C9) : ∀ (us : List Nat) (i : Nat), (kill sg us)[i]? = if i ∈ us then (sg[i]?).map (fun _ => C9.arr 1 []) else sg[i]? := by
 intro us
 induction us generalizing sg with
 | nil => intro i; simp [kill]
 | cons u us ih =>
   intro i
   show (kill (sg.set u (.arr 1 [])) us)[i]? = _
   rw [ih]
   by_cases h1 : i ∈ us
   ·rw [if_pos h1, if_pos (z9q _ h1), z67q]
    split
    ·rename_i h; subst h; split <;> simp_all
    ·rfl
   ·rw [if_neg h1]
    by_cases h2 : u = i
    ·subst h2
     rw [if_pos (z8q ..), z67q];simp only [if_true]
     split
     ·rename_i h; rw [z3q h]; rfl
     ·rename_i h; rw [z40q (by omega)]; rfl
    ·rw [if_neg (by simp [h1]; exact fun h => h2 h.symm), z4q h2]
theorem K3.shut (R : K3 E st a h) (us : List Nat) : K3 (E.re (Eo us)) { st with sg := kill st.sg us } a h := by
 have P : Pr (fun T => ∃ i ∈ us, T = .obj i) E h (E.re (Eo us)) h := Pr.re fun T hT => A9F us hT
 have J3 : Z9 E.S h (E.re (Eo us)).S h := Je (VK (by simp))
 have JI : ∀ (us : List Nat) (g : List C9), (kill g us).length = g.length := by
  intro us
  induction us with
  | nil => intro g; rfl
  | cons u us ih => intro g; show (kill (g.set u _) us).length = _; rw [ih]; simp
 refine ⟨R.size, R.Af, R.Ca, (JI us st.sg).trans R.n, fun t v hv => (R.regs t v hv).mono P J3 (by simp) (by simp), fun s cs hs => (R.boxes s cs hs).mono P J3 (by simp) (by simp), fun i ob hi => ?_, fun b o hb => ?_⟩
 ·rw [B5B] at hi
  split at hi
  ·cases hg : st.sg[i]? with
   | none => rw [hg] at hi; simp at hi
   | some o =>
     rw [hg] at hi;simp only [z49q, Option.some.injEq] at hi;subst hi;simp [RO]
  ·rename_i hm
   have L8 : i < E.n := by rw [<- R.n]; exact (z2q.1 hi).1
   exact (R.U4 i ob hi).mono P J3 L8 (by rintro ⟨j, hj, he⟩; simp only [Tag.obj.injEq] at he; subst he; exact hm hj) (by simp)
 ·simp only [Env.re]
  rw [R.fresh b o hb];rfl
end Go.Su

/-
 THE DATA MACHINE, part 27: the program's functions give what the data machine says.
-/
namespace Go.Su
section
variable {C : AO} {R : Q8} {X : Type} {fl : Flags} {Q : Exit -> Act -> World -> Prop} {ops : List Oper}
end
section
variable {C : AO} {R : Q8} {X : Type} (S : Z5)
open Classical in
noncomputable def WE : Env where
 blk := fun _ => 0
 top := fun _ => 0
 obj := fun _ => 0
 base := fun _ => 0
 O := fun b o => if S b o then .shut else .other
 n := 0
 Aa := fun _ => 0
theorem B8C (b o : Nat) : (WE S).S b o ↔ S b o := by
 simp only [Env.S, WE]
 split <;> simp_all
variable {fn : Func} {rs : List (DV × Meta)} {sg : List C9}
theorem B5z {t : Nat} : (∀ r, rs[t]? = some r -> (F4 fn rs sg).get t = r) /\ (rs.length <= t -> t < rs.length + (fn.ntmps - rs.length) -> (F4 fn rs sg).get t = (.H7 [], .val)) := by
 constructor
 ·intro r hr
  have ht := (z2q.1 hr).1;simp only [St.get, F4, z0q];rw [z25q (by simpa using ht), z25q (by simpa using ht)]
  simp [hr]
 ·intro h1 h2
  simp only [St.get, F4, z0q];rw [z45q (by simpa using h1), z45q (by simpa using h1)]
  simp only [List.length_map];rw [z36q, z36q, if_pos (by omega), if_pos (by omega)]
  rfl
variable {E : Env} {w : World}
theorem A80 {vs : List Value} (hf : ∀ b o, w.heap.size <= b -> E.O b o = .other) (hn : sg.length = E.n) (ho : ∀ (i : Nat) ob, sg[i]? = some ob -> RO E w.heap i ob) (hl : vs.length = rs.length) (hr : ∀ (i : Nat) r v, rs[i]? = some r -> vs[i]? = some v -> RR E w.heap 0 i r.1 r.2 v) :
 K3 E (F4 fn rs sg) { tmps := vs.toArray ++ Array.replicate (fn.ntmps - vs.toArray.size) undef, defers := [] } w.heap := by
 refine ⟨by simp [F4, hl], by simp [F4], by simp [F4], hn, fun t v hv => ?_, fun s cs hs => ?_, ho, hf⟩
 ·have L8 : t < rs.length + (fn.ntmps - rs.length) := by
   have := (z1q.1 hv).1;simpa [hl] using this
  obtain ⟨i1, i2⟩ := B5z (fn := fn) (rs := rs) (sg := sg) (t := t)
  by_cases ht : t < rs.length
  ·have hrt : rs[t]? = some rs[t] := z3q ht
   rw [i1 _ hrt];refine hr t _ v hrt ?_;rw [Array.getElem?_append_left (by simpa [hl] using ht)] at hv
   simpa using hv
  ·rw [i2 (z52q ht) L8]
   rw [Array.getElem?_append_right (by simpa [hl] using z52q ht)] at hv
   rw [z35q] at hv
   split at hv
   ·simp only [Option.some.injEq] at hv
    subst hv;simp only [RR, J8, RV, undef];exact ⟨#[], rfl, by simp [Pq]⟩
   ·cases hv
 ·simp only [F4, z0q, z36q] at hs
  split at hs <;> simp at hs
theorem B7s {S : Z5} {E' : Env} {h h' : Heap} (P : Pr O3 (WE S) h E' h') {b : Nat} (hb : b < h.size) : h'[b]? = h[b]? := by
 have hk := P.blk b hb;have ZR : ∀ o, ¬ O3 ((WE S).O b o) := fun o => by
  simp only [WE]
  split <;> simp [O3]
 have he : h[b]? = some h[b] := z26q hb;rw [he] at hk ⊢;unfold X8 at hk
 split at hk
 ·rename_i hx; cases hx
 ·rename_i c T f hx
  obtain ⟨c', h1, h2, h3⟩ := hk;rw [h1, hx]
  congr 2
  exact Array.ext_getElem? fun o => h3 o (ZR o)
 ·have := hk (ZR 0)
  simp_all
theorem VF {m : Nat} {P : Program} {fn : Func} {Rp : Ending -> World -> Prop} {E0 E : Env} {st : St} {a : Act} {w : World}
 (fin : ∀ w2, K3 E st a w2.heap -> Pr O3 E0 w.heap E w2.heap -> Z4 w w2 -> ∃ v, (results fn a.tmps).run P w2 = .ok v w2 /\ Rp (.returned v) w2) :
 ∀ (ms : List Deferred) (w1 : World), Marks w.heap.size E w1.heap ms -> K3 E st a w1.heap -> Pr O3 E0 w.heap E w1.heap -> Z4 w w1 -> LeavesInM Fence.wide m P fn a.tmps Rp ms .returning w1
 | [], w1, _, Rl, P1, O1 => fin w1 Rl P1 O1
 | d :: ms, w1, M, Rl, P1, O1 => by
   obtain ⟨D, rfl, h2, h3, h4⟩ := M.1 d (z8q ..);obtain ⟨p1, p2⟩ := z37q.1 M.2;refine ⟨by simp, .inl ⟨D, w1.putObj D (.deferred none), rfl, run_takeDeferred h2, ?_⟩⟩
   refine VF fin ms _ ⟨fun m' hm' => ?_, p2⟩ (Rl.others (Pr.setOther h2 rfl h3) rfl fun b o hb => Rl.fresh b o (by simpa using hb)) (P1.A0G h4) ⟨O1.os, O1.tape, O1.output⟩
   obtain ⟨D', q1, q2, q3, q4⟩ := M.1 m' (z9q _ hm');refine ⟨D', q1, ?_, q3, q4⟩;have hne : D' ≠ D := fun h => p1 m' hm' (by rw [q1, h])
   exact (World.putObj_heap_other hne).trans q2
variable {f : FuncId} {c : Code}
theorem pure_ok {ds : List DV} {d : DV} (hm : C.P.follows .mixedOrders = true) (hO : GU C R) (hf : C.P.funcs[f]? = some fn) (hb : fn.body = some c) (H : l6 C R (C.fl f) c (Yo C.P fn) (F4 fn (ds.map fun d => (d, .val)) []) = some d) : B24 C.P f ds d := by
 intro S w vs hS Vm;obtain ⟨hl, hv⟩ := Vy.1 Vm;have J3 : Z9 S w.heap (WE S).S w.heap := ⟨fun b o hs => (B8C S b o).2 hs, fun _ _ _ _ h => h⟩
 have fr : ∀ b o, w.heap.size <= b -> (WE S).O b o = .other := fun b o hb => by
  simp only [WE];rw [if_neg (hS b o hb)]
 refine (callsIn_wide (n := 0)).1 (callsIn_of_wp_marks hf hb trivial (A9G hm hO c (.inl rfl) H (A80 (E := WE S) fr rfl (by simp) (by simp [hl]) fun i r v hr YA => ?_) fun out E' st' a' w1 h1 h0 vw h3' A72 => ?_))
 ·simp only [z13q, z20q] at hr
  obtain ⟨d', Dq, rfl⟩ := hr;exact RR.val ((hv i d' v Dq YA).mono J3)
 ·obtain ⟨ms, e0, M, -⟩ := h0
  rw [z38q] at e0;have fin : ∀ ds', aN C.P st' fn.results.toList = some ds' -> d = pack ds' -> ∀ w', K3 E' st' a' w'.heap -> Pr O3 (WE S) w.heap E' w'.heap -> Z4 w w' -> ∃ v, (results fn a'.tmps).run C.P w' = .ok v w' /\ ∃ v' S', Ending.returned v = .returned v' /\ Ext S w.heap S' w'.heap /\ RV S' w'.heap d v' /\ Z4 w w' := by
   intro ds' k1 k2 w' h2 h3 dw;obtain ⟨us, q1, q2, -⟩ := A5t h2 k1;refine ⟨if h : us.toArray.size = 1 then us.toArray[0] else .tuple us.toArray, ?_, _, E'.fin, rfl, ⟨h3.size, fun b hb => B7s h3 hb, fun b o hb => ?_, fun b o hb => ?_⟩, by rw [k2]; exact B7u q2, dw⟩
   ·rw [qd]
    simp only [Sem.run_bind, q1, Result.andThen_ok, Sem.run_pure]
   ·have ZR : ¬ O3 ((WE S).O b o) := by
     simp only [WE]
     split <;> simp [O3]
    have ht := h3.tags b o hb ZR;simp only [Env.fin, ht, WE]
    split <;> simp_all
   ·simp only [Env.fin, h2.fresh b o hb]
    simp
  cases out with
  | exit i => simp [Yo] at h1
  | normal =>
    simp only [Yo] at h1;obtain ⟨ds', k1, k2⟩ := C8 h1;simp only [Option.some.injEq] at k2
    show LeavesInM Fence.wide 0 C.P fn a'.tmps _ a'.defers .returning w1
    rw [e0];exact VF (fin ds' k1 k2.symm) ms w1 M vw h3' A72
  | ret =>
    simp only [Yo] at h1;obtain ⟨ds', k1, k2⟩ := C8 h1;simp only [Option.some.injEq] at k2
    show LeavesInM Fence.wide 0 C.P fn a'.tmps _ a'.defers .returning w1
    rw [e0];exact VF (fin ds' k1 k2.symm) ms w1 M vw h3' A72
def B1P (E : Env) (st : St) (a : Act) (w : World) (r : ResultVar) (d : DV) (v : Value) : MK -> Prop
 | .val => RV S w.heap d v
 | .own => ∃ t, r = .tmp t /\ Jy (st.get t).2 = true /\ d = (st.get t).1 /\ v = a.tmps.getD t undef
 | .ptr => ∃ t, r = .tmp t /\ A9r (st.get t) = some d /\ v = a.tmps.getD t undef
 | .YT n os => ∃ p t s cs, r = .cell p t /\ (st.get p).2 = .loc s 0 /\ st.bx.getD s none = some cs /\ n = cs.length /\ lL os 0 cs = true /\ d = .agg (cs.map (·.1)) /\ ∃ c T, w.heap[E.blk s]? = some (.cells c T (0, 0)) /\ v = .agg c
theorem A7d {P : Program} {sl : Bool} {us : List Nat} {E : Env} {st : St} {a : Act} {w : World} (Rl : K3 E st a w.heap) : ∀ {ks : List MK} {rs : List ResultVar} {ds : List DV}, (sl = true -> ∀ v ∈ rs, ∀ i ∈ UD st v, i ∈ us) -> YK P sl st ks rs = some ds ->
 ks.length = rs.length /\ ds.length = ks.length /\ ∃ vs : List Value, (rs.mapM (KE a.tmps)).run P w = .ok vs w /\ vs.length = rs.length /\
  ∀ (i : Nat) k r d v, ks[i]? = some k -> rs[i]? = some r -> ds[i]? = some d -> vs[i]? = some v -> B1P (E.re (Eo us)).S E st a w r d v k
 | [], [], ds, _, H => by
   simp only [YK, Option.some.injEq] at H;subst H;exact ⟨rfl, rfl, [], rfl, rfl, fun i k r d v h => by simp at h⟩
 | k :: ks, r :: rs, ds, hu, H => by
   simp only [YK] at H;obtain ⟨d, h1, H⟩ := C8 H;obtain ⟨ds', h2, H⟩ := C8 H;simp only [Option.some.injEq] at H;subst H;obtain ⟨l1, l2, vs, q1, q2, q3⟩ := A7d Rl (fun h v hv => hu h v (z9q _ hv)) h2
   have one : ∃ v, (KE a.tmps r).run P w = .ok v w /\ B1P (E.re (Eo us)).S E st a w r d v k := by
    cases k with
    | val =>
      simp only [A5s] at h1
      split at h1
      ·rename_i hb
       simp only [z11q] at hb;obtain ⟨v, k1, k2⟩ := A0C (g := Kk us st.sg) (B0B hb.2 (hu hb.1 r (z8q ..)) h1) Rl (B2v Rl us);exact ⟨v, k1, k2⟩
      ·obtain ⟨v, k1, k2⟩ := A0C (g := []) h1 Rl (B2z E w.heap)
       exact ⟨v, k1, k2.mono (Je (VK (by simp)))⟩
    | own =>
      simp only [A5s] at h1;cases r with
      | tmp t =>
        simp only at h1;obtain ⟨k1, k2⟩ := F9 h1;simp only [Option.some.injEq] at k2;exact ⟨_, rfl, t, rfl, k1, k2.symm, rfl⟩
      | cell p t => simp at h1
    | ptr =>
      simp only [A5s] at h1;cases r with
      | tmp t => exact ⟨_, rfl, t, rfl, h1, rfl⟩
      | cell p t => simp at h1
    | YT n os =>
      simp only [A5s] at h1;cases r with
      | tmp t => simp at h1
      | cell p t =>
        simp only at h1
        split at h1
        ·rename_i s hm
         obtain ⟨cs, g1, h1⟩ := C8 h1;obtain ⟨z, g2, h1⟩ := C8 h1;obtain ⟨g3, h1⟩ := F9 h1;simp only [z11q, beq_iff_eq] at g3;obtain ⟨⟨⟨hz, g3⟩, g4⟩, g5⟩ := g3;simp only [Option.some.injEq] at h1;have hR : RR E w.heap 0 p (st.get p).1 (st.get p).2 (a.tmps.getD p undef) := Rl.src (P := P) (t := 0) (x := .tmp p) rfl;rw [hm] at hR;simp only [RR, J8] at hR;obtain ⟨c, T, b1, b2, b3, b4⟩ := Rl.boxes s cs g1;obtain ⟨v, hv, YB, hv2⟩ := FD (w := w) g2 (b := E.blk s) (off := 0) (vs := c.toList) (by simp [b2, g3]) fun j u hu => by
          simp only [hc, b1, z22q];simpa using hu
         have U1 : (KE a.tmps (.cell p t)).run P w = .ok v w := by
          simp only [KE, hR.2, asAddr, Sem.run_bind, Sem.run_pure, Result.andThen_ok];exact hv
         exact ⟨v, U1, p, t, s, cs, rfl, hm, g1, by omega, g5, h1.symm, c, T, b1, by rw [YB hz]⟩
        ·cases h1
   obtain ⟨v, k1, k2⟩ := one;refine ⟨by simp [l1], by simp [l2], v :: vs, by simp only [List.mapM_cons, Sem.run_bind, k1, q1, Result.andThen_ok, Sem.run_pure], by simp [q2], fun i k' r' d' v' e1 e2 e3 e4 => ?_⟩
   cases i with
   | zero =>
     simp only [z14q, Option.some.injEq] at e1 e2 e3 e4;subst e1 e2 e3 e4;exact k2
   | succ i =>
     simp only [z10q] at e1 e2 e3 e4;exact q3 i k' r' d' v' e1 e2 e3 e4
 | [], _ :: _, ds, _, H => by simp [YK] at H
 | _ :: _, [], ds, _, H => by simp [YK] at H
theorem A5p : ∀ {ks : List MK} {i j : Nat} {k k' : MK}, (ks.filter Co).length <= 1 -> ks[i]? = some k -> Co k = true -> ks[j]? = some k' -> Co k' = true -> i = j
 | [], i, j, _, _, _, h, _, _, _ => by simp at h
 | k0 :: ks, i, j, k, k', hl, hi, hk, hj, Vl => by
   have nomem : Co k0 = true -> ∀ (m : Nat) q, ks[m]? = some q -> Co q = true -> False := by
    intro h0 m q hm hq;have h1 : q ∈ ks.filter Co := z59q.2 ⟨z42q hm, hq⟩;have h2 : 0 < (ks.filter Co).length := List.length_pos_of_mem h1;simp only [z69q, h0, if_true, z16q] at hl;omega
   cases i with
   | zero =>
     simp only [z14q, Option.some.injEq] at hi;subst hi;cases j with
     | zero => rfl
     | succ j => simp only [z10q] at hj; exact (nomem hk j _ hj Vl).elim
   | succ i =>
     simp only [z10q] at hi;cases j with
     | zero =>
       simp only [z14q, Option.some.injEq] at hj;subst hj;exact (nomem Vl i _ hi hk).elim
     | succ j =>
       simp only [z10q] at hj;have Sq : (ks.filter Co).length <= 1 := by
        simp only [z69q] at hl
        split at hl
        ·simp only [z16q] at hl; omega
        ·exact hl
       rw [A5p Sq hi hk hj Vl]
def A5o (st : St) (k : MK) (r : ResultVar) : Option (Nat × Nat) :=
 match k, r with
 | .own, .tmp t => some (0, t)
 | .YT _ _, .cell p _ => match (st.get p).2 with
   | .loc s _ => some (1, s)
   | _ => none
 | _, _ => none
def fA (q : Option (Nat × Nat)) (i : Nat) (T : Tag) : Tag :=
 match T with
 | .sp 0 t b => if q = some (0, t) then .sp 3 i b else .sp 0 t b
 | .sp 1 s j => if q = some (1, s) then .sp 3 i (j + 1) else .sp 1 s j
 | T => T
theorem A4H : ∀ {os : List Nat} {i0 j : Nat} {cs : List (DV × Meta)} {c : DV × Meta}, lL os i0 cs = true -> cs[j]? = some c -> (if os.contains (i0 + j) then Jy c.2 else J6 c.2) = true
 | os, i0, j, [], c, _, h => by simp at h
 | os, i0, 0, c0 :: cs, c, H, h => by
   simp only [z14q, Option.some.injEq] at h;subst h;simp only [lL, z11q] at H;exact H.1
 | os, i0, j + 1, c0 :: cs, c, H, h => by
   simp only [lL, z11q] at H;have := A4H H.2 (by simpa using h)
   rwa [Nat.add_assoc, Nat.add_comm 1 j] at this
theorem B47 {m : Meta} (h : J6 m = true) (hl : Y8 m = true) : m = .val \/ m = .full \/ m = .own \/ m = .Ba := by
 cases m <;> simp_all [J6, Y8]
theorem A9z {h : Heap} {tg : Tag} {d : DV} {m : Meta} {v : Value} (hr : Jy m = true) (R : J8 E h tg d m v) : J8 E h tg d .own v := by
 cases m <;> first | exact R | exact R.qN | (simp [Jy] at hr)
def A8e (E : Env) (w : World) (s : Ag) (q : List DV × List C9) (e : Ending) (w' : World) : Prop :=
 Z4 w w' /\ ∃ v E', e = .returned v /\ Pr O3 E w.heap E' w'.heap /\ (∀ b o, w'.heap.size <= b -> E'.O b o = .other) /\ q.2.length = E'.n /\ (∀ (i : Nat) ob, q.2[i]? = some ob -> RO E' w'.heap i ob) /\ B1N E' w'.heap s.results q.1 v
variable {s : Ag} {q : List DV × List C9}
theorem B1v {E' : Env} {st' : St} {a' : Act} (h4 : (s.results.filter Co).length <= 1) {ds' : List DV} (k1 : YK C.P s.lock st' s.results fn.results.toList = some ds') (k2 : q = (ds', match s.lock with
   | true => kill st'.sg (fn.results.toList.flatMap (UD st'))
   | false => st'.sg)) (w' : World) (h2 : K3 E' st' a' w'.heap) (h3 : Pr O3 E w.heap E' w'.heap) (dw : Z4 w w') : ∃ v, (results fn a'.tmps).run C.P w' = .ok v w' /\ A8e E w s q (.returned v) w' := by
 obtain ⟨ks, hks⟩ : ∃ ks, (match s.lock with
  | true => fn.results.toList.flatMap (UD st')
  | false => []) = ks := ⟨_, rfl⟩
 have B8T : s.lock = true -> ∀ v ∈ fn.results.toList, ∀ i ∈ UD st' v, i ∈ ks := fun hl v hv i hi => by
  rw [<- hks, hl];exact z32q.2 ⟨v, hv, hi⟩
 have B8U : (match s.lock with
  | true => kill st'.sg (fn.results.toList.flatMap (UD st'))
  | false => st'.sg) = kill st'.sg ks := by
  rw [<- hks];cases s.lock <;> rfl
 rw [B8U] at k2;clear B8U hks;subst k2;obtain ⟨l1, l2, us, q1, q2, q3⟩ := A7d (us := ks) h2 B8T k1;have h2 : K3 (E'.re (Eo ks)) { st' with sg := kill st'.sg ks } a' w'.heap := h2.shut ks
 have h3 : Pr O3 E w.heap (E'.re (Eo ks)) w'.heap := h3.trans (Pr.re fun T hT => VK fun i _ he => hT (by rw [he]; simp [O3]))
 have q3 : ∀ (i : Nat) k r d v, s.results[i]? = some k -> fn.results.toList[i]? = some r -> ds'[i]? = some d -> us[i]? = some v -> B1P (E'.re (Eo ks)).S (E'.re (Eo ks)) { st' with sg := kill st'.sg ks } a' w' r d v k := by
  intro i k r d v e1 e2 e3 e4;have := q3 i k r d v e1 e2 e3 e4;cases k <;> exact this
 clear B8T;generalize hE : E'.re (Eo ks) = E' at h2 h3 q3;generalize S9 : ({ st' with sg := kill st'.sg ks } : St) = st2 at h2 q3
 have hgs : st2.sg = kill st'.sg ks := by rw [<- S9]
 rw [<- hgs];clear hgs S9 hE k1;have pick : ∃ (i0 : Nat) (g : Option (Nat × Nat)), ∀ (j : Nat) k r, s.results[j]? = some k -> Co k = true -> fn.results.toList[j]? = some r -> j = i0 /\ A5o st2 k r = g := by
  by_cases hx : ∃ (i : Nat) (k : MK), s.results[i]? = some k /\ Co k = true
  ·obtain ⟨i, k, hi, hk⟩ := hx
   have L8 : i < s.results.length := (z2q.1 hi).1;have e2 : fn.results.toList[i]? = some (fn.results.toList[i]'(by omega)) := z3q (by omega)
   refine ⟨i, A5o st2 k (fn.results.toList[i]'(by omega)), fun j k' r hj Vl hr => ?_⟩
   have := A5p h4 hi hk hj Vl;subst this;rw [hi] at hj;rw [e2] at hr;simp only [Option.some.injEq] at hj hr;exact ⟨rfl, by rw [hj, hr]⟩
  ·exact ⟨0, none, fun j k r hj hk => absurd ⟨j, k, hj, hk⟩ hx⟩
 obtain ⟨i0, g, B6G⟩ := pick;have J3 : Z9 E'.S w'.heap (E'.re (fA g i0)).S w'.heap := Je rfl;refine ⟨if h : us.toArray.size = 1 then us.toArray[0] else .tuple us.toArray, ?_, dw, _, E'.re (fA g i0), rfl, h3.trans (Pr.re fun T hT => ?_), fun b o hb => ?_, ?_, fun i ob hi => ?_, l2, us, by omega, ?_, ?_⟩
 ·rw [qd]
  simp only [Sem.run_bind, q1, Result.andThen_ok, Sem.run_pure]
 ·unfold fA
  split
  ·simp [O3] at hT
  ·simp [O3] at hT
  ·rfl
 ·simp only [Env.re]; rw [h2.fresh b o hb]; rfl
 ·exact h2.n
 ·exact RO.to (E := E') ⟨fun b o h => by simp only [Env.re]; rw [h]; rfl, fun b o h => by simp only [Env.re]; rw [h]; rfl, rfl, rfl, rfl, rfl, rfl⟩ (fun j b o h => by simp only [Env.re]; rw [h]; rfl) (h2.U4 i ob hi)
 ·match us with
  | [] => rfl
  | [u] => rfl
  | u :: u' :: us => rfl
 ·intro i k d v e1 e2 e3
  have L8 : i < s.results.length := (z2q.1 e1).1;have e4 : fn.results.toList[i]? = some (fn.results.toList[i]'(by omega)) := z3q (by omega)
  have a1 := q3 i k _ d v e1 e4 e2 e3;cases k with
  | val => exact (show RV _ _ _ _ from a1).mono J3
  | own =>
    obtain ⟨t, ht, Kj, rfl, rfl⟩ := a1;obtain ⟨rfl, hp⟩ := B6G i _ _ e1 rfl e4;rw [ht] at hp;simp only [A5o] at hp;have hR : RR E' w'.heap 0 t (st2.get t).1 (st2.get t).2 (a'.tmps.getD t undef) := h2.src (P := C.P) (t := 0) (x := .tmp t) rfl;have hR2 : RR (E'.re (fA g i)) w'.heap 3 i (st2.get t).1 (st2.get t).2 (a'.tmps.getD t undef) :=
     hR.re rfl rfl fun b => by simp [fA, <- hp]
    show J8 _ _ (.sp 3 i 0) _ .own _
    exact A9z Kj (hR2.A0T (fun ms h => by rw [h] at Kj; simp [Jy] at Kj) fun ms h => by rw [h] at Kj; simp [Jy] at Kj)
  | ptr =>
    obtain ⟨t, ht, hd, rfl⟩ := a1;have hR : RR E' w'.heap 0 t (st2.get t).1 (st2.get t).2 (a'.tmps.getD t undef) := h2.src (P := C.P) (t := 0) (x := .tmp t) rfl
    show J8 _ _ .other (KD .ptr d).1 (KD .ptr d).2 _
    unfold A9r at hd
    split at hd
    ·rename_i n hm
     simp only [Option.some.injEq] at hd;subst hd;rw [hm] at hR;exact hR
    ·rename_i hm
     simp only [Option.some.injEq] at hd;subst hd;rw [hm] at hR;exact ⟨rfl, hR.2⟩
    ·cases hd
  | YT n os =>
    obtain ⟨p, t, s', cs, ht, hm, hb, hn, AJ, rfl, c, T, hc1, rfl⟩ := a1;obtain ⟨rfl, hp⟩ := B6G i _ _ e1 rfl e4;rw [ht] at hp;simp only [A5o, hm] at hp;obtain ⟨c', T', b1, b2, b3, b4⟩ := h2.boxes s' cs hb;rw [hc1] at b1;simp only [Option.some.injEq, Obj.cells.injEq] at b1;obtain ⟨rfl, rfl, -⟩ := b1;simp only [B1O, RR];refine ⟨_, c, rfl, rfl, by simp [hn], by simp [hn, b2], fun j m' d' u e1 e2 e3 => ?_⟩
    simp only [z13q, z20q] at e1 e2;obtain ⟨j', DI, rfl⟩ := e1;obtain ⟨r, hr, rfl⟩ := e2;have hjj : j' = j := by
     have := (z2q.1 DI);obtain ⟨_, hh⟩ := this;simpa using hh.symm
    subst hjj;obtain ⟨x1, x2, x3, x4⟩ := b4 j' r u hr e3;have x5 : J8 (E'.re (fA g i)) w'.heap (.sp 3 i (j' + 1)) r.1 r.2 u := x4.re rfl (by simp [fA, <- hp])
    have x6 := A4H AJ hr;rw [z22q] at x6
    by_cases hos : os.contains j' = true
    ·rw [if_pos hos] at x6 ⊢
     exact ⟨x1, x2, rfl, A9z x6 x5⟩
    ·rw [if_neg hos] at x6 ⊢
     refine ⟨x1, x2, rfl, ?_⟩;exact lJ (B47 x6 x3) x5
theorem B50 {out : Out} {E' : Env} {st' : St} {a' : Act} (h1 : fC C.P fn s out st' = some q) : (∃ i, out = .exit i -> False) /\ (out = .normal \/ out = .ret) /\ ∀ (w' : World), K3 E' st' a' w'.heap -> Pr O3 E w.heap E' w'.heap -> Z4 w w' -> ∃ v, (results fn a'.tmps).run C.P w' = .ok v w' /\ A8e E w s q (.returned v) w' := by
 cases out with
 | exit i => simp [fC] at h1
 | normal =>
   simp only [fC] at h1;obtain ⟨k0, h1⟩ := F9 h1;obtain ⟨ds', k1, k2⟩ := C8 h1;simp only [Option.some.injEq] at k2;exact ⟨⟨0, by simp⟩, .inl rfl, fun w' h2 h3 h4 => B1v (by simpa using k0) k1 k2.symm w' h2 h3 h4⟩
 | ret =>
   simp only [fC] at h1;obtain ⟨k0, h1⟩ := F9 h1;obtain ⟨ds', k1, k2⟩ := C8 h1;simp only [Option.some.injEq] at k2;exact ⟨⟨0, by simp⟩, .inr rfl, fun w' h2 h3 h4 => B1v (by simpa using k0) k1 k2.symm w' h2 h3 h4⟩
theorem B9q (hm : C.P.follows .mixedOrders = true) (hO : GU C R) (hf : C.P.funcs[f]? = some fn) (hb : fn.body = some c) (H : l6 C R (C.fl f) c (fC C.P fn s) (F4 fn rs sg) = some q) : B6y C.P f s rs sg q := by
 intro E w vs ZP hn ho hl hr;refine (callsIn_wide (n := 0)).1 (callsIn_of_wp_marks hf hb trivial (A9G hm hO c (.inl rfl) H (A80 ZP hn ho hl hr) fun out E' st' a' w1 h1 h0 vw h3' A72 => ?_))
 obtain ⟨ms, e0, M, -⟩ := h0;rw [z38q] at e0;obtain ⟨-, ho, fin⟩ := B50 (E := E) (E' := E') (a' := a') (w := w) h1;have : LeavesInM Fence.wide 0 C.P fn a'.tmps (A8e E w s q) a'.defers .returning w1 := by
  rw [e0];exact VF fin ms w1 M vw h3' A72
 rcases ho with rfl | rfl <;> exact this
end
structure A35 (C : AO) : Prop where
 mixed : C.P.follows .mixedOrders = true
 go : ∀ (f : Nat) fn, C.P.funcs[f]? = some fn -> fn.name ≠ "runtime.NumGoroutine"
 A0x : ∀ f p, C.A0x f = some p -> ∀ fn c, C.P.funcs[f]? = some fn -> fn.body = some c -> True
 clone : ∀ f, C.clone f = true -> isGo C.P f = true /\ aG C.P f (C.lV f)
 jA : ∀ f g, C.jA f = some g -> isGo C.P f = true /\ B4P C.P f g (C.lV f)
 iter : ∀ g it, C.iter g = some it -> isGo C.P g = true /\ A8a C.P g it
variable {C : AO}
theorem B1i (hC : A35 C) {f : Nat} {fn : Func} {c : Code} (hf : C.P.funcs[f]? = some fn) (hb : fn.body = some c) : isGo C.P f = true := by
 unfold isGo;rw [hf];simp [hC.go f fn hf, hb]
theorem step_ok {R : Q8} (hC : A35 C) (hO : GU C R) : GU C (Cu C R) := by
 refine ⟨fun f ds d H => ?_, fun f rs sg q H => ?_, hC.clone, hC.jA, hC.iter⟩
 ·simp only [Cu] at H
  obtain ⟨fn, hf, H⟩ := C8 H;obtain ⟨c, hb, H⟩ := C8 H;exact ⟨B1i hC hf hb, pure_ok hC.mixed hO hf hb H⟩
 ·simp only [Cu] at H
  obtain ⟨s, hs, H⟩ := C8 H;obtain ⟨fn, hf, H⟩ := C8 H;obtain ⟨c, hb, H⟩ := C8 H;exact ⟨s, hs, B1i hC hf hb, B9q hC.mixed hO hf hb H⟩
theorem A57 {C : AO} (hC : A35 C) : ∀ n, GU C (Kl C n)
 | 0 => ⟨fun f ds d H => by simp [Kl] at H, fun f rs sg q H => by simp [Kl] at H, hC.clone, hC.jA, hC.iter⟩
 | n + 1 => step_ok hC (A57 hC n)
theorem B9w (hC : A35 C) : GU C (run C) := by
 have hr : ∀ f rs sg q, (run C).r f rs sg = some q -> ∃ n, (Kl C n).r f rs sg = some q := fun f rs sg q H => by
  simp only [run] at H
  split at H
  ·rename_i h
   simp only [Option.some.injEq] at H;obtain ⟨n, hn⟩ := h.choose_spec;rw [H] at hn;exact ⟨n, hn⟩
  ·cases H
 refine ⟨fun f ds d H => ?_, fun f rs sg q H => ?_, hC.clone, hC.jA, hC.iter⟩
 ·simp only [run] at H
  split at H
  ·rename_i h
   simp only [Option.some.injEq] at H;obtain ⟨n, hn⟩ := h.choose_spec;rw [H] at hn;exact (A57 hC n).p f ds d hn
  ·cases H
 ·obtain ⟨n, hn⟩ := hr f rs sg q H
  exact (A57 hC n).r f rs sg q hn
end Go.Su

/-
 THE DATA MACHINE, part 28: more is known of the functions that are called: more comes out.
-/
namespace Go.Su
structure Ky (R R' : Q8) : Prop where
 p : ∀ f ds d, R.p f ds = some d -> R'.p f ds = some d
 r : ∀ f rs sg q, R.r f rs sg = some q -> R'.r f rs sg = some q
theorem Ky.refl (R : Q8) : Ky R R := ⟨fun _ _ _ h => h, fun _ _ _ _ h => h⟩
theorem Ky.trans {R S T : Q8} (a : Ky R S) (b : Ky S T) : Ky R T := ⟨fun f ds d h => b.p f ds d (a.p f ds d h), fun f rs sg q h => b.r f rs sg q (a.r f rs sg q h)⟩
section
variable {C : AO} {R : Q8} {fl : Flags} {o : Oper} {st s : St}
theorem A6R (H : I4 C R fl o st some = some s) : (∀ R' : Q8, I4 C R' fl o st some = some s) \/
 (∃ f ds d, R.p f ds = some d /\ ∀ R' : Q8, R'.p f ds = some d -> I4 C R' fl o st some = some s) \/
 (∃ f rs sg q, R.r f rs sg = some q /\ ∀ R' : Q8, R'.r f rs sg = some q -> I4 C R' fl o st some = some s) := by
 have H0 := H;unfold I4 at H
 split at H
 case h_22 c F3 =>
  unfold FK at H
  split at H
  ·rename_i b hb
   refine .inl fun R' => ?_
   rw [<- H0];simp only [I4, F3, FK, hb]
  ·rename_i y hy
   obtain ⟨r, h1, H⟩ := C8 H;obtain ⟨rs, h2, H⟩ := C8 H
   split at H
   ·rename_i g caps hm
    have GK : ∀ R' : Q8, I4 C R' fl o st some = Iu C R' o g c.args.toList (rs ++ caps.map fun m => (.undef, .ptr m.1 m.2)) st some := by
     intro R';simp only [I4, F3, FK, hy, h1, h2, K4, hm]
    generalize rs ++ caps.map (fun m => ((.undef, .ptr m.1 m.2) : DV × Meta)) = rs' at H GK
    by_cases Xx : C.clone g = true
    ·refine .inl fun R' => ?_
     rw [<- H0, GK, GK];simp only [Iu, if_pos Xx]
    ·unfold Iu at H
     rw [if_neg Xx] at H;cases hmk : C.jA g with
     | some g' =>
       refine .inl fun R' => ?_
       rw [<- H0, GK, GK];simp only [Iu, if_neg Xx, hmk]
     | none =>
     rw [hmk] at H;simp only at H
     split at H
     ·rename_i hs
      obtain ⟨h3, H⟩ := F9 H;obtain ⟨d, h4, H⟩ := C8 H;refine .inr (.inl ⟨g, _, d, h4, fun R' h => ?_⟩)
      rw [GK];simp only [Iu, if_neg Xx, hmk, hs, h3, V7, h, K4];exact H
     ·rename_i sg hs
      obtain ⟨h3, H⟩ := F9 H;obtain ⟨q, h4, H⟩ := C8 H;refine .inr (.inr ⟨g, _, _, q, h4, fun R' h => ?_⟩)
      rw [GK];simp only [Iu, if_neg Xx, hmk, hs, h3, V7, h, K4];exact H
   ·simp at H
  ·simp at H
 all_goals first
  | (simp at H; done)
  | (rename_i F3
     refine .inl fun R' => ?_
     rw [<- H0];simp only [I4, F3])
theorem A6S {R' : Q8} (hR : Ky R R') (H : I4 C R fl o st some = some s) : I4 C R' fl o st some = some s := by
 rcases A6R H with h | ⟨f, ds, d, h1, h2⟩ | ⟨f, rs, sg, q, h1, h2⟩
 ·exact h R'
 ·exact h2 R' (hR.p _ _ _ h1)
 ·exact h2 R' (hR.r _ _ _ _ h1)
structure Lim (Rs : Nat -> Q8) (R : Q8) : Prop where
 up : ∀ n, Ky (Rs n) (Rs (n + 1))
 p : ∀ f ds d, R.p f ds = some d -> ∃ n, (Rs n).p f ds = some d
 r : ∀ f rs sg q, R.r f rs sg = some q -> ∃ n, (Rs n).r f rs sg = some q
theorem Lim.le {Rs : Nat -> Q8} (L : Lim Rs R) {n m : Nat} (h : n <= m) : Ky (Rs n) (Rs m) := by
 induction m with
 | zero => rw [z62q.1 h]; exact Ky.refl _
 | succ m ih =>
   rcases z33q m n with h1 | h1
   ·rw [show n = m + 1 by omega]; exact Ky.refl _
   ·exact (ih h1).trans (L.up m)
theorem A8E {Rs : Nat -> Q8} (L : Lim Rs R) (H : I4 C R fl o st some = some s) : ∃ n, I4 C (Rs n) fl o st some = some s := by
 rcases A6R H with h | ⟨f, ds, d, h1, h2⟩ | ⟨f, rs, sg, q, h1, h2⟩
 ·exact ⟨0, h _⟩
 ·obtain ⟨n, hn⟩ := L.p _ _ _ h1; exact ⟨n, h2 _ hn⟩
 ·obtain ⟨n, hn⟩ := L.r _ _ _ _ h1; exact ⟨n, h2 _ hn⟩
variable {ops : List Oper}
theorem j4.mono {R' : Q8} {s1 : St} (hR : Ky R R') (H : j4 C R fl ops o s s1) : j4 C R' fl ops o s s1 := by
 unfold j4 at H ⊢
 split at H
 ·exact A6S hR H
 ·obtain ⟨t, h1, h2, h3⟩ := H
  exact ⟨t, h1, h2, h3.imp (fun h => ⟨h.1, A6S hR h.2⟩) id⟩
theorem j4.lim {Rs : Nat -> Q8} {s1 : St} (L : Lim Rs R) (H : j4 C R fl ops o s s1) : ∃ n, j4 C (Rs n) fl ops o s s1 := by
 unfold j4 at H ⊢
 split at H
 ·exact A8E L H
 ·obtain ⟨t, h1, h2, h3⟩ := H
  rcases h3 with ⟨h3, h4⟩ | h3
  ·obtain ⟨n, hn⟩ := A8E L h4
   exact ⟨n, t, h1, h2, .inl ⟨h3, hn⟩⟩
  ·exact ⟨0, t, h1, h2, .inr h3⟩
end
end Go.Su

/-
 THE DATA MACHINE, part 29: regions and code, when more is known.
-/
namespace Go.Su
section
variable {X : Type} {C : AO} {R : Q8} {fl : Flags} {o : Oper} {st s : St} {ops : List Oper} {s1 : St}
theorem A07 (H : I4 C R fl o st some = some s1) (k : St -> Option X) : I4 C R fl o st k = k s1 := by
 obtain ⟨s, h1, h2⟩ := qI H;simp only [Option.some.injEq] at h1;subst h1;exact h2 X k
variable {os : List Oper}
theorem B5f (H : j4 C R fl ops o st s1) (k : St -> Option X) : EC C R fl ops (o :: os) st k = EC C R fl ops os s1 k := by
 simp only [EC, Zw];unfold j4 at H
 split at H
 ·rename_i hg
  simp only [hg];exact A07 H _
 ·rename_i g want hg
  obtain ⟨t, h1, h2, h3⟩ := H;simp only [hg, h1, K4, h2, V7];rcases h3 with ⟨h3, h4⟩ | ⟨h3, h4⟩
  ·rw [h3]
   cases want <;> simp only [F7, if_true, z6q, if_false] <;> rw [Gn h3 (by simp)] <;> exact A07 h4 _
  ·subst h4
   cases want <;> simp only [Bool.not_true, Bool.not_false] at h3 <;> rcases h3 with h3 | h3 <;> simp only [h3, F7, if_true, z6q, if_false] <;> rw [Gn h3 (by simp)]
theorem B3z {bf : List (List Nat)} {i : Nat} {acc : List (Nat × Fp)} (H : j4 C R fl ops o st s1) (k : St -> Option X) :
 CQ C R fl ops bf (o :: os) i acc st k = og (IY bf i acc ((Bl C fl ops o st).Ae st s1)) (CQ C R fl ops bf os (i + 1) ((i, (Bl C fl ops o st).Ae st s1) :: acc) s1 k) := by
 have H0 := H;simp only [CQ, Zw, A5e];unfold j4 at H
 split at H
 ·rename_i hg
  simp only [hg];rw [A07 H, A8L hg];rfl
 ·rename_i g want hg
  obtain ⟨t, h1, h2, h3⟩ := H;rw [A8M hg h1];simp only [hg, h1, K4, h2, V7];rcases h3 with ⟨h3, h4⟩ | ⟨h3, h4⟩
  ·rw [if_pos (aK.2 h3)]
   rw [h3];cases want <;> simp only [F7, if_true, z6q, if_false, lY] <;> rw [Gn h3 (by simp), A07 h4] <;> rfl
  ·have hB : ¬ (wE want (st.get t).1 = true) := by
    rw [aK];rcases h3 with h | h <;> rw [h] <;> cases want <;> simp
   rw [if_neg hB];subst h4;cases want <;> simp only [Bool.not_true, Bool.not_false] at h3 <;> rcases h3 with h3 | h3 <;> simp only [h3, F7, if_true, z6q, if_false, WB] <;> rw [Gn h3 (by simp)] <;> rfl
end
end Go.Su

/-
 THE DATA MACHINE, part 30: the code's answers are limits; the program's functions are what one step makes of them.
-/
namespace Go.Su
section
variable {X : Type} {C : AO} {fl : Flags}
def FX (p : Nat -> Prop) : Prop := ∃ n, ∀ m, n <= m -> p m
theorem FX.mono {p q : Nat -> Prop} (h : FX p) (f : ∀ m, p m -> q m) : FX q := h.imp fun _ h m hm => f m (h m hm)
theorem FX.and {p q : Nat -> Prop} (h : FX p) (h' : FX q) : FX fun m => p m /\ q m := by
 obtain ⟨n, hn⟩ := h;obtain ⟨k, hk⟩ := h';exact ⟨n + k, fun m hm => ⟨hn m (by omega), hk m (by omega)⟩⟩
theorem FX.all {p : Nat -> Prop} (h : ∀ m, p m) : FX p := ⟨0, fun m _ => h m⟩
theorem A6T {R : Q8} {Rs : Nat -> Q8} (L : Lim Rs R) {ops : List Oper} {k : St -> Option X} {ks : Nat -> St -> Option X} (hk : ∀ st x, k st = some x -> FX fun m => ks m st = some x) :
 ∀ {os : List Oper} {st : St} {x : X}, EC C R fl ops os st k = some x -> FX fun m => EC C (Rs m) fl ops os st (ks m) = some x
 | [], st, x, H => by
   simp only [EC] at H ⊢;exact hk st x H
 | o :: os, st, x, H => by
   obtain ⟨s1, h1, h2⟩ := A44 H;obtain ⟨n, hn⟩ := h1.lim L;refine (FX.and ⟨n, fun m hm => hn.mono (L.le hm)⟩ (A6T L hk h2)).mono fun m h => ?_
   rw [B5f h.1];exact h.2
theorem A42 {R : Q8} {Rs : Nat -> Q8} (L : Lim Rs R) {ops : List Oper} {bf : List (List Nat)} {k : St -> Option X} {ks : Nat -> St -> Option X} (hk : ∀ st x, k st = some x -> FX fun m => ks m st = some x) :
 ∀ {os : List Oper} {i : Nat} {acc : List (Nat × Fp)} {st : St} {x : X}, CQ C R fl ops bf os i acc st k = some x -> FX fun m => CQ C (Rs m) fl ops bf os i acc st (ks m) = some x
 | [], i, acc, st, x, H => by
   simp only [CQ] at H ⊢;exact hk st x H
 | o :: os, i, acc, st, x, H => by
   obtain ⟨s1, h1, h2, h3⟩ := A2I H;obtain ⟨n, hn⟩ := h1.lim L;refine (FX.and ⟨n, fun m hm => hn.mono (L.le hm)⟩ (A42 L hk h3)).mono fun m h => ?_
   rw [B3z h.1, h2];exact h.2
theorem B0n {X : Type} {fl : Flags} {id : Nat} {st : St} {k : St -> Option X} {x : X} (H : Ff fl id st k = some x) : ∃ s, k s = some x /\ ∀ (Y : Type) (k' : St -> Option Y), Ff fl id st k' = k' s := by
 unfold Ff at H
 split at H
 ·rename_i e he
  unfold aI at H
  split at H
  ·rename_i i sz len hm
   obtain ⟨q, h1, H⟩ := C8 H;obtain ⟨d, h2, H⟩ := C8 H;exact ⟨_, H, fun Y k' => by simp only [Ff, he, aI, hm, h1, h2, K4]⟩
  ·rename_i b off hm
   obtain ⟨cs, h1, H⟩ := C8 H;obtain ⟨a, h2, H⟩ := C8 H;obtain ⟨q, h3, H⟩ := C8 H;obtain ⟨d, h4, H⟩ := C8 H;exact ⟨_, H, fun Y k' => by simp only [Ff, he, aI, hm, h1, h2, h3, h4, K4]⟩
  ·cases H
 ·rename_i he
  exact ⟨st, H, fun Y k' => by simp only [Ff, he]⟩
theorem A16 {X : Type} {fl : Flags} {id : Nat} {k : St -> Option X} {ks : Nat -> St -> Option X} (hk : ∀ st x, k st = some x -> FX fun m => ks m st = some x) (st : St) (x : X) (H : Ff fl id st k = some x) : FX fun m => Ff fl id st (ks m) = some x := by
 obtain ⟨s, h1, h2⟩ := B0n H;exact (hk s x h1).mono fun m h => by rw [h2]; exact h
theorem A5X : ∀ (c : Code) {R : Q8} {Rs : Nat -> Q8} {K : Out -> St -> Option X} {Ks : Nat -> Out -> St -> Option X} {st : St} {x : X}, Lim Rs R ->
 (∀ o st x, K o st = some x -> FX fun m => Ks m o st = some x) -> l6 C R fl c K st = some x -> FX fun m => l6 C (Rs m) fl c (Ks m) st = some x := by
 intro c
 induction c with
 | skip =>
   intro R Rs K Ks st x L hK H;simp only [l6] at H ⊢;exact hK _ _ _ H
 | region id ops d =>
   intro R Rs K Ks st x L hK H;cases d
   ·simp only [l6] at H ⊢
    exact A6T L (A16 (hK .normal)) H
   ·simp only [l6, kF] at H ⊢
    obtain ⟨h1, H⟩ := F9 H;simp only [h1, V7];exact A42 L (A16 (hK .normal)) H
 | seq c d ihc ihd =>
   intro R Rs K Ks st x L hK H;simp only [l6] at H ⊢;refine ihc L ?_ H;intro o s y h;cases o with
   | normal => exact ihd L hK h
   | exit i => exact hK _ _ _ h
   | ret => exact hK _ _ _ h
 | cond y c d ihc ihd =>
   intro R Rs K Ks st x L hK H;simp only [l6, A41] at H ⊢;obtain ⟨r, h1, H⟩ := C8 H;obtain ⟨h2, H⟩ := F9 H;simp only [h1, K4, h2, V7];cases y with
   | tmp t =>
     simp only at H ⊢;rcases qZ H with ⟨h3, h4⟩ | ⟨h3, h4⟩ <;> rw [h3]
     ·exact ihc L hK h4
     ·exact ihd L hK h4
   | _ =>
     rcases qZ H with ⟨h3, h4⟩ | ⟨h3, h4⟩ <;> rw [h3]
     ·exact ihc L hK h4
     ·exact ihd L hK h4
 | block id c ih =>
   intro R Rs K Ks st x L hK H;simp only [l6] at H ⊢;refine ih L ?_ H;intro o s y h;cases o with
   | normal => exact hK _ _ _ h
   | exit i =>
     simp only at h ⊢
     by_cases hi : i = id
     ·simp only [if_pos hi] at h ⊢; exact hK _ _ _ h
     ·simp only [if_neg hi] at h ⊢; exact hK _ _ _ h
   | ret => exact hK _ _ _ h
 | loop c ih =>
   intro R Rs K Ks st x L hK H;simp only [l6] at H ⊢;obtain ⟨n, H9⟩ := Zy H;clear H;have up : ∀ m, FX (fun m' => iter (fun J st => l6 C (Rs m) fl c (fun o st => match o with
    | .normal => J (clean fl c st)
    | .exit i => Ks m (.exit i) st
    | .ret => Ks m .ret st) st) m' (clean fl c st) = some x) -> Gh (fun J st => l6 C (Rs m) fl c (fun o st => match o with
    | .normal => J (clean fl c st)
    | .exit i => Ks m (.exit i) st
    | .ret => Ks m .ret st) st) (clean fl c st) = some x := by
    intro m h;generalize clean fl c st = st9 at h ⊢;have mono : ∀ k s y, iter (fun J st => l6 C (Rs m) fl c (fun o st => match o with
     | .normal => J (clean fl c st)
     | .exit i => Ks m (.exit i) st
     | .ret => Ks m .ret st) st) k s = some y -> iter (fun J st => l6 C (Rs m) fl c (fun o st => match o with
     | .normal => J (clean fl c st)
     | .exit i => Ks m (.exit i) st
     | .ret => Ks m .ret st) st) (k + 1) s = some y := by
     intro k
     induction k with
     | zero => intro s y h; simp [iter] at h
     | succ k ihk =>
       intro s y h;rw [iter] at h ⊢;have := ih (R := Rs m) (Rs := fun _ => Rs m) (Ks := fun _ o st => match o with
        | .normal => iter (fun J st => l6 C (Rs m) fl c (fun o st => match o with
     | .normal => J (clean fl c st)
     | .exit i => Ks m (.exit i) st
     | .ret => Ks m .ret st) st) (k + 1) (clean fl c st)
        | .exit i => Ks m (.exit i) st
        | .ret => Ks m .ret st) ⟨fun _ => Ky.refl _, fun _ _ _ h => ⟨0, h⟩, fun _ _ _ _ h => ⟨0, h⟩⟩ ?_ h
       ·obtain ⟨n, hn⟩ := this
        exact hn n (z12q _)
       ·intro o s y h
        refine FX.all fun _ => ?_
        cases o with
        | normal => exact ihk _ _ h
        | exit i => exact h
        | ret => exact h
    obtain ⟨k, hk⟩ := h;unfold Gh;have he : ∃ x n, iter (fun J st => l6 C (Rs m) fl c (fun o st => match o with
     | .normal => J (clean fl c st)
     | .exit i => Ks m (.exit i) st
     | .ret => Ks m .ret st) st) n st9 = some x := ⟨x, k, hk k (z12q _)⟩
    rw [dif_pos he];obtain ⟨j, hj⟩ := he.choose_spec;have le : ∀ a b s y, a <= b -> iter (fun J st => l6 C (Rs m) fl c (fun o st => match o with
     | .normal => J (clean fl c st)
     | .exit i => Ks m (.exit i) st
     | .ret => Ks m .ret st) st) a s = some y -> iter (fun J st => l6 C (Rs m) fl c (fun o st => match o with
     | .normal => J (clean fl c st)
     | .exit i => Ks m (.exit i) st
     | .ret => Ks m .ret st) st) b s = some y := by
     intro a b s y EG h
     induction b with
     | zero => rw [z62q.1 EG] at h; exact h
     | succ b ihb =>
       rcases z33q b a with h1 | h1
       ·rw [show b + 1 = a by omega]; exact h
       ·exact mono _ _ _ (ihb h1)
    have h1 := le j (j + k) _ _ (by omega) hj
    have h2 := le k (j + k) _ _ (by omega) (hk k (z12q _))
    rw [h1] at h2;exact h2
   have main : FX fun m => FX fun m' => iter (fun J st => l6 C (Rs m) fl c (fun o st => match o with
    | .normal => J (clean fl c st)
    | .exit i => Ks m (.exit i) st
    | .ret => Ks m .ret st) st) m' (clean fl c st) = some x := by
    have lim : ∀ k s y, iter (fun J st => l6 C R fl c (fun o st => match o with
     | .normal => J (clean fl c st)
     | .exit i => K (.exit i) st
     | .ret => K .ret st) st) k s = some y -> FX fun m => iter (fun J st => l6 C (Rs m) fl c (fun o st => match o with
     | .normal => J (clean fl c st)
     | .exit i => Ks m (.exit i) st
     | .ret => Ks m .ret st) st) k s = some y := by
     intro k
     induction k with
     | zero => intro s y h; simp [iter] at h
     | succ k ihk =>
       intro s y h;simp only [iter] at h ⊢;refine ih L ?_ h;intro o s y h;cases o with
       | normal => exact ihk _ _ h
       | exit i => exact hK _ _ _ h
       | ret => exact hK _ _ _ h
    obtain ⟨k, hk⟩ := lim n _ _ H9;refine ⟨k, fun m hm => ⟨n, fun m' hm' => ?_⟩⟩
    have h0 := hk m hm;have mono : ∀ k s y, iter (fun J st => l6 C (Rs m) fl c (fun o st => match o with
     | .normal => J (clean fl c st)
     | .exit i => Ks m (.exit i) st
     | .ret => Ks m .ret st) st) k s = some y -> iter (fun J st => l6 C (Rs m) fl c (fun o st => match o with
     | .normal => J (clean fl c st)
     | .exit i => Ks m (.exit i) st
     | .ret => Ks m .ret st) st) (k + 1) s = some y := by
     intro k
     induction k with
     | zero => intro s y h; simp [iter] at h
     | succ k ihk =>
       intro s y h;rw [iter] at h ⊢;have := ih (R := Rs m) (Rs := fun _ => Rs m) (Ks := fun _ o st => match o with
        | .normal => iter (fun J st => l6 C (Rs m) fl c (fun o st => match o with
     | .normal => J (clean fl c st)
     | .exit i => Ks m (.exit i) st
     | .ret => Ks m .ret st) st) (k + 1) (clean fl c st)
        | .exit i => Ks m (.exit i) st
        | .ret => Ks m .ret st) ⟨fun _ => Ky.refl _, fun _ _ _ h => ⟨0, h⟩, fun _ _ _ _ h => ⟨0, h⟩⟩ ?_ h
       ·obtain ⟨n, hn⟩ := this
        exact hn n (z12q _)
       ·intro o s y h
        refine FX.all fun _ => ?_
        cases o with
        | normal => exact ihk _ _ h
        | exit i => exact h
        | ret => exact h
    induction m' with
    | zero => rw [z62q.1 hm'] at h0; exact h0
    | succ b ihb =>
      rcases z33q b n with h1 | h1
      ·rw [show b + 1 = n by omega]; exact h0
      ·exact mono _ _ _ (ihb h1)
   exact main.mono up
 | rangeFunc g ps assign body iha ihb =>
   intro R Rs K Ks st x L hK H;simp only [l6] at H ⊢;have H9 := A43 H;clear H;obtain ⟨t, p, f, i, it, cs, cd, ds, rfl, h1, h2, h3, h4, h5, h6, h7, H⟩ := H9;simp only [h7, B5d h1 h2 h3 h4 h5 h6];clear h6;generalize st.sg.set i (.arr 1 []) = sg at H
   induction ds generalizing sg x with
   | nil => exact hK _ _ _ H
   | cons d ds ih =>
     simp only [LP] at H ⊢;refine iha L ?_ H;intro o s y h;cases o with
     | exit e => cases h
     | ret => cases h
     | normal =>
       refine ihb L ?_ h;intro o s y h;cases o with
       | normal => exact ih _ h
       | exit e => exact hK _ _ _ h
       | ret => exact hK _ _ _ h
 | exit id =>
   intro R Rs K Ks st x L hK H;simp only [l6] at H ⊢;exact hK _ _ _ H
 | ret =>
   intro R Rs K Ks st x L hK H;simp only [l6] at H ⊢;exact hK _ _ _ H
 | _ =>
   intro R Rs K Ks st x L hK H;simp [l6] at H
theorem rA {R : Q8} {Rs : Nat -> Q8} (L : Lim Rs R) : (∀ f ds d, (Cu C R).p f ds = some d -> FX fun m => (Cu C (Rs m)).p f ds = some d) /\
 (∀ f rs sg q, (Cu C R).r f rs sg = some q -> FX fun m => (Cu C (Rs m)).r f rs sg = some q) := by
 constructor
 ·intro f ds d H
  simp only [Cu] at H ⊢;obtain ⟨fn, h1, H⟩ := C8 H;obtain ⟨c, h2, H⟩ := C8 H;simp only [h1, K4, h2];exact A5X c L (fun o st x h => FX.all fun _ => h) H
 ·intro f rs sg q H
  simp only [Cu] at H ⊢;obtain ⟨s, h0, H⟩ := C8 H;obtain ⟨fn, h1, H⟩ := C8 H;obtain ⟨c, h2, H⟩ := C8 H;simp only [h0, h1, K4, h2];exact A5X c L (fun o st x h => FX.all fun _ => h) H
theorem A0R {R R' : Q8} (h : Ky R R') : Ky (Cu C R) (Cu C R') := by
 have L : Lim (fun _ => R') R := ⟨fun _ => Ky.refl _, fun _ _ _ k => ⟨0, h.p _ _ _ k⟩, fun _ _ _ _ k => ⟨0, h.r _ _ _ _ k⟩⟩
 constructor
 ·intro f ds d H
  obtain ⟨n, hn⟩ := (rA L).1 f ds d H;exact hn n (z12q _)
 ·intro f rs sg q H
  obtain ⟨n, hn⟩ := (rA L).2 f rs sg q H;exact hn n (z12q _)
theorem B1o (n : Nat) : Ky (Kl C n) (Kl C (n + 1)) := by
 induction n with
 | zero => exact ⟨fun _ _ _ h => by simp [Kl] at h, fun _ _ _ _ h => by simp [Kl] at h⟩
 | succ n ih => exact A0R ih
theorem A1g {n m : Nat} (h : n <= m) : Ky (Kl C n) (Kl C m) := by
 induction m with
 | zero => rw [z62q.1 h]; exact Ky.refl _
 | succ m ih =>
   rcases z33q m n with h1 | h1
   ·rw [show n = m + 1 by omega]; exact Ky.refl _
   ·exact (ih h1).trans (B1o m)
theorem A1l : Lim (Kl C) (run C) := by
 refine ⟨B1o, fun f ds d H => ?_, fun f rs sg q H => ?_⟩
 ·simp only [run] at H
  split at H
  ·rename_i h
   simp only [Option.some.injEq] at H;rw [<- H];exact h.choose_spec
  ·cases H
 ·simp only [run] at H
  split at H
  ·rename_i h
   simp only [Option.some.injEq] at H;rw [<- H];exact h.choose_spec
  ·cases H
theorem A1h (n : Nat) : Ky (Kl C n) (run C) := by
 constructor
 ·intro f ds d H
  have h : ∃ x n, (Kl C n).p f ds = some x := ⟨d, n, H⟩;simp only [run, dif_pos h];obtain ⟨m, hm⟩ := h.choose_spec;have h1 := (A1g (C := C) (z53q n m)).p _ _ _ H;have h2 := (A1g (C := C) (z57q m n)).p _ _ _ hm;rw [h1] at h2;exact h2.symm
 ·intro f rs sg q H
  have h : ∃ x n, (Kl C n).r f rs sg = some x := ⟨q, n, H⟩;simp only [run, dif_pos h];obtain ⟨m, hm⟩ := h.choose_spec;have h1 := (A1g (C := C) (z53q n m)).r _ _ _ _ H;have h2 := (A1g (C := C) (z57q m n)).r _ _ _ _ hm;rw [h1] at h2;exact h2.symm
theorem A9B : Ky (Cu C (run C)) (run C) := by
 constructor
 ·intro f ds d H
  obtain ⟨n, hn⟩ := (rA A1l).1 f ds d H;exact (A1h (n + 1)).p _ _ _ (hn n (z12q _))
 ·intro f rs sg q H
  obtain ⟨n, hn⟩ := (rA A1l).2 f rs sg q H;exact (A1h (n + 1)).r _ _ _ _ (hn n (z12q _))
end
end Go.Su

/-
 THE DATA MACHINE, part 31: places in a code; what a loop's head says of itself.
-/
namespace Go.Su
noncomputable section
section
variable {X : Type} (C : AO) (R : Q8) (fl : Flags)
def Cq (b : Code) (K : Out -> St -> Option X) : (St -> Option X) -> St -> Option X := fun J st => l6 C R fl b (fun o st => match o with
 | .normal => J (clean fl b st)
 | .exit i => K (.exit i) st
 | .ret => K .ret st) st
theorem B5e (b : Code) (K : Out -> St -> Option X) (st : St) : l6 C R fl (.loop b) K st = Gh (Cq C R fl b K) (clean fl b st) := rfl
variable {b : Code} {st : St} {x : X}
theorem A66 {K : Out -> St -> Option X} {J : St -> Option X} {Js : Nat -> St -> Option X} (hJ : ∀ st x, J st = some x -> FX fun m => Js m st = some x) (H : Cq C R fl b K J st = some x) : FX fun m => Cq C R fl b K (Js m) st = some x := by
 refine A5X b (Rs := fun _ => R) ⟨fun _ => Ky.refl _, fun _ _ _ h => ⟨0, h⟩, fun _ _ _ _ h => ⟨0, h⟩⟩ ?_ H
 intro o st x h;cases o with
 | normal => exact hJ _ _ h
 | exit i => exact FX.all fun _ => h
 | ret => exact FX.all fun _ => h
theorem A5k {K : Out -> St -> Option X} {J J' : St -> Option X} (hJ : ∀ st x, J st = some x -> J' st = some x) (H : Cq C R fl b K J st = some x) : Cq C R fl b K J' st = some x := by
 obtain ⟨n, hn⟩ := A66 C R fl (J := J) (Js := fun _ => J') (fun st x h => FX.all fun _ => hJ st x h) H
 exact hn n (z12q _)
theorem A51 {K : Out -> St -> Option X} : ∀ {n m : Nat} {st : St} {x : X}, n <= m -> iter (Cq C R fl b K) n st = some x -> iter (Cq C R fl b K) m st = some x := by
 intro n
 induction n with
 | zero => intro m st x _ h; simp [iter] at h
 | succ n ih =>
   intro m st x hm h;obtain ⟨m', rfl⟩ : ∃ m', m = m' + 1 := ⟨m - 1, by omega⟩
   simp only [iter] at h ⊢;exact A5k C R fl (fun st x h => ih (by omega) h) h
theorem wF {K : Out -> St -> Option X} {n : Nat} (h : iter (Cq C R fl b K) n st = some x) : Gh (Cq C R fl b K) st = some x := by
 have he : ∃ x n, iter (Cq C R fl b K) n st = some x := ⟨x, n, h⟩;unfold Gh;rw [dif_pos he];obtain ⟨j, hj⟩ := he.choose_spec;have h1 := A51 C R fl (z53q j n) hj;have h2 := A51 C R fl (z57q n j) h;rw [h1] at h2;exact h2
theorem B5C (b : Code) (K : Out -> St -> Option X) (st : St) : Gh (Cq C R fl b K) st = Cq C R fl b K (Gh (Cq C R fl b K)) st := by
 have h1 : ∀ x, Gh (Cq C R fl b K) st = some x -> Cq C R fl b K (Gh (Cq C R fl b K)) st = some x := by
  intro x h;obtain ⟨n, hn⟩ := Zy h;cases n with
  | zero => simp [iter] at hn
  | succ n => exact A5k C R fl (fun st x h => wF C R fl h) hn
 have h2 : ∀ x, Cq C R fl b K (Gh (Cq C R fl b K)) st = some x -> Gh (Cq C R fl b K) st = some x := by
  intro x h;obtain ⟨n, hn⟩ := A66 C R fl (J := Gh (Cq C R fl b K)) (Js := iter (Cq C R fl b K)) (fun st x h => by
   obtain ⟨n, hn⟩ := Zy h;exact ⟨n, fun m hm => A51 C R fl hm hn⟩) h
  exact wF C R fl (n := n + 1) (hn n (z12q _))
 cases h : Gh (Cq C R fl b K) st with
 | some x => exact (h1 x h).symm
 | none =>
   cases h' : Cq C R fl b K (Gh (Cq C R fl b K)) st with
   | none => rfl
   | some x => rw [h2 x h'] at h; exact h.symm
inductive Wait where
 | seq (b : Code)
 | blk (id : Nat)
 | lp (b : Code)
variable (K0 : Out -> St -> Option X)
def l8 : List Wait -> Out -> St -> Option X
 | [] => K0
 | .seq b :: ks => fun o st => match o with
   | .normal => l6 C R fl b (l8 ks) (clean fl b st)
   | .exit i => l8 ks (.exit i) st
   | .ret => l8 ks .ret st
 | .blk id :: ks => fun o st => match o with
   | .normal => l8 ks .normal st
   | .exit i => if i = id then l8 ks .normal st else l8 ks (.exit i) st
   | .ret => l8 ks .ret st
 | .lp b :: ks => fun o st => match o with
   | .normal => Gh (Cq C R fl b (l8 ks)) (clean fl b st)
   | .exit i => l8 ks (.exit i) st
   | .ret => l8 ks .ret st
def PD (c : Code) (ks : List Wait) (st : St) : Option X := l6 C R fl c (l8 C R fl K0 ks) st
def MZ (b : Code) (ks : List Wait) (st : St) : Option X := Gh (Cq C R fl b (l8 C R fl K0 ks)) st
section
variable (J JL : Code -> List Wait -> St -> Option X) (cut : List Nat)
def GA (go : Code -> List Wait -> St -> Option X) : List Wait -> Out -> St -> Option X
 | [], o, st => K0 o st
 | .seq b :: ks, o, st => match o with
   | .normal => go b ks st
   | .exit i => GA go ks (.exit i) st
   | .ret => GA go ks .ret st
 | .blk id :: ks, o, st => match o with
   | .normal => GA go ks .normal st
   | .exit i => if i = id then GA go ks .normal st else GA go ks (.exit i) st
   | .ret => GA go ks .ret st
 | .lp b :: ks, o, st => match o with
   | .normal => JL b ks (clean fl b st)
   | .exit i => GA go ks (.exit i) st
   | .ret => GA go ks .ret st
def cutAt (b : Code) : Bool :=
 match A0g b with
 | some id => cut.contains id
 | none => false
def KN (ev : Code -> List Wait -> St -> Option X) (b : Code) (ks : List Wait) (st : St) : Option X :=
 match cutAt cut b with
 | true => J b ks (clean fl b st)
 | false => ev b ks (clean fl b st)
def LF : Nat -> Code -> List Wait -> St -> Option X
 | 0, c, ks, st => J c ks st
 | n + 1, c, ks, st =>
   match c with
   | .skip => GA fl K0 JL (KN fl J cut (LF n)) ks .normal st
   | .region id ops false => EC C R fl ops.toList ops.toList (NR fl id st) fun st => Ff fl id st fun st => GA fl K0 JL (KN fl J cut (LF n)) ks .normal st
   | .region id ops true => og (SE 0 ops.toList) (dU (Jn ops.toList []) fun bf => CQ C R fl ops.toList bf ops.toList 0 [] (NR fl id st) fun st => Ff fl id st fun st => GA fl K0 JL (KN fl J cut (LF n)) ks .normal st)
   | .seq a b => LF n a (.seq b :: ks) st
   | .cond c a b => A41 C.P c st (fun st => KN fl J cut (LF n) a ks st) (fun st => KN fl J cut (LF n) b ks st)
   | .block id b => LF n b (.blk id :: ks) st
   | .loop b => JL b ks (clean fl b st)
   | .rangeFunc g ps a b => J (.rangeFunc g ps a b) ks st
   | .exit id => GA fl K0 JL (KN fl J cut (LF n)) ks (.exit id) st
   | .ret => GA fl K0 JL (KN fl J cut (LF n)) ks .ret st
   | _ => none
end
theorem Oi {go : Code -> List Wait -> St -> Option X} (h : ∀ b ks st, go b ks st = l6 C R fl b (l8 C R fl K0 ks) (clean fl b st)) : ∀ (ks : List Wait) (o : Out) (st : St),
 GA fl K0 (MZ C R fl K0) go ks o st = l8 C R fl K0 ks o st
 | [], o, st => rfl
 | .seq b :: ks, o, st => by
   cases o with
   | normal => simp only [GA, l8, h]
   | exit i => simp only [GA, l8, Oi h ks]
   | ret => simp only [GA, l8, Oi h ks]
 | .blk id :: ks, o, st => by
   cases o with
   | normal => simp only [GA, l8, Oi h ks]
   | exit i => simp only [GA, l8, Oi h ks]
   | ret => simp only [GA, l8, Oi h ks]
 | .lp b :: ks, o, st => by
   cases o with
   | normal => simp only [GA, l8, MZ]
   | exit i => simp only [GA, l8, Oi h ks]
   | ret => simp only [GA, l8, Oi h ks]
theorem A8D (cut : List Nat) : ∀ (n : Nat) (c : Code) (ks : List Wait) (st : St), LF C R fl K0 (PD C R fl K0) (MZ C R fl K0) cut n c ks st = PD C R fl K0 c ks st := by
 intro n
 induction n with
 | zero => intro c ks st; rfl
 | succ n ih =>
   intro c ks st;have hs : ∀ b ks st, KN fl (PD C R fl K0) cut (LF C R fl K0 (PD C R fl K0) (MZ C R fl K0) cut n) b ks st = l6 C R fl b (l8 C R fl K0 ks) (clean fl b st) := by
    intro b ks st;unfold KN
    split
    ·rfl
    ·rw [ih]; rfl
   have hp : ∀ ks o st, GA fl K0 (MZ C R fl K0) (KN fl (PD C R fl K0) cut (LF C R fl K0 (PD C R fl K0) (MZ C R fl K0) cut n)) ks o st = l8 C R fl K0 ks o st :=
    fun ks o st => Oi C R fl K0 hs ks o st
   cases c with
   | skip => simp only [LF, PD, l6, hp]
   | region id ops d => cases d <;> simp only [LF, PD, l6, hp]
   | seq a b => rw [LF, ih]; rfl
   | cond y a b => simp only [LF, PD, l6, hs]
   | block id b => rw [LF, ih]; rfl
   | loop b => simp only [LF, PD, B5e, MZ]
   | exit id => simp only [LF, PD, l6, hp]
   | ret => simp only [LF, PD, l6, hp]
   | _ => simp only [LF, PD, l6]
def sub : List Bool -> Code -> List Wait -> Code × List Wait
 | [], c, ks => (c, ks)
 | false :: p, .seq a b, ks => sub p a (.seq b :: ks)
 | true :: p, .seq _ b, ks => sub p b ks
 | false :: p, .cond _ a _, ks => sub p a ks
 | true :: p, .cond _ _ b, ks => sub p b ks
 | _ :: p, .block id b, ks => sub p b (.blk id :: ks)
 | _ :: p, .loop b, ks => sub p b (.lp b :: ks)
 | _ :: _, c, ks => (c, ks)
def B2r : Code -> Code
 | .loop b => b
 | c => c
def hide {α : Type} (a : α) : α := Classical.choose (⟨a, rfl⟩ : ∃ b, b = a)
theorem Jv {α : Type} (a : α) : hide a = a := Classical.choose_spec (⟨a, rfl⟩ : ∃ b, b = a)
def Vi (p : List Bool) (c : Code) (st : St) : Option X := hide (PD C R fl K0) (sub p c []).1 (sub p c []).2 st
def A71 (p : List Bool) (c : Code) (st : St) : Option X := hide (MZ C R fl K0) (B2r (sub p c []).1) (sub p c []).2 st
variable {C R fl K0} {p : List Bool} {c : Code} {r : Option X}
theorem E8 (cut : List Nat) (h : LF C R fl K0 (hide (PD C R fl K0)) (hide (MZ C R fl K0)) cut 200 (sub p c []).1 (sub p c []).2 st = r := by kernel_rfl) : Vi C R fl K0 p c st = r := by
 rw [Jv, Jv, A8D] at h;unfold Vi;rw [Jv];exact h
theorem I7 (cut : List Nat) (h : LF C R fl K0 (hide (PD C R fl K0)) (hide (MZ C R fl K0)) cut 200 (B2r (sub p c []).1) (.lp (B2r (sub p c []).1) :: (sub p c []).2) st = r := by kernel_rfl) : A71 C R fl K0 p c st = r := by
 rw [Jv, Jv, A8D] at h;rw [<- h];unfold A71;rw [Jv];unfold MZ PD;rw [B5C];rfl
theorem B09 : Vi C R fl K0 [] c st = l6 C R fl c K0 st := by
 unfold Vi;rw [Jv];rfl
end
section
variable {X : Type} (C : AO) (R : Q8) (fl : Flags) (K0 : Out -> St -> Option X)
def A0j (p : List Bool) (c : Code) (o : Out) (st : St) : Option X := hide (l8 C R fl K0) (sub p c []).2 o st
def kr (I : List C9 -> Option X) (Xf : Out -> List C9 -> Option X) : Out -> St -> Option X := fun o st => match o with
 | .normal => I st.sg
 | .exit e => Xf (.exit e) st.sg
 | .ret => Xf .ret st.sg
variable {C R fl K0}
theorem B4r (cut : List Nat) (n : Nat) (b : Code) (ks : List Wait) (st : St) : KN fl (PD C R fl K0) cut (LF C R fl K0 (PD C R fl K0) (MZ C R fl K0) cut n) b ks st = l6 C R fl b (l8 C R fl K0 ks) (clean fl b st) := by
 unfold KN
 split
 ·rfl
 ·rw [A8D]; rfl
variable {p : List Bool} {c : Code} {st : St}
theorem B1k {o : Out} {r : Option X} (cut : List Nat) (h : GA fl K0 (hide (MZ C R fl K0)) (KN fl (hide (PD C R fl K0)) cut (LF C R fl K0 (hide (PD C R fl K0)) (hide (MZ C R fl K0)) cut 200)) (sub p c []).2 o st = r) : A0j C R fl K0 p c o st = r := by
 rw [Jv, Jv, Oi C R fl K0 (B4r cut 200)] at h;unfold A0j;rw [Jv];exact h
theorem B9p {t f i q : Nat} {ps : Array Nat} {a b : Code} {ks : List Wait} {it : List DV -> Option (List DV)} (hs : sub p c [] = (.rangeFunc (.tmp t) ps a b, ks)) (hm : (st.get t).2 = .fn f [(i, 0)]) (hp : ps.toList = [q]) (hi : C.iter f = some it) (ha : qU a = true) (hb : Bu b = true) :
 Vi C R fl K0 p c st = ob (E9 st.sg i) fun cs => ob (BL cs) fun cd => ob (it cd) fun ds =>
  LP (fun d I sg => Vi C R fl (kr I fun o sg => A0j C R fl K0 p c o (AA st sg)) [] (.seq a b) (clean fl a (Wt st q d sg))) (fun sg => A0j C R fl K0 p c .normal (AA st sg)) ds (st.sg.set i (.arr 1 [])) := by
 unfold Vi A0j;simp only [Jv];rw [hs];simp only [PD, l6, A06, hp, hm, hi, ha, hb, ob, Bool.and_self, og];have S9 : ∀ (d : DV) (I : List C9 -> Option X) (sg : List C9), l6 C R fl a (fun o st1 => match o with
       | .normal => l6 C R fl b (fun o st2 => match o with
         | .normal => I st2.sg
         | .exit e => l8 C R fl K0 ks (.exit e) (AA st st2.sg)
         | .ret => l8 C R fl K0 ks .ret (AA st st2.sg)) (clean fl b st1)
       | .exit _ => none
       | .ret => none) (clean fl a (Wt st q d sg)) =
  l6 C R fl a (fun o st' => match o with
   | .normal => l6 C R fl b (l8 C R fl (kr I fun o sg => l8 C R fl K0 ks o (AA st sg)) []) (clean fl b st')
   | .exit i => l8 C R fl (kr I fun o sg => l8 C R fl K0 ks o (AA st sg)) [] (.exit i) st'
   | .ret => l8 C R fl (kr I fun o sg => l8 C R fl K0 ks o (AA st sg)) [] .ret st') (clean fl a (Wt st q d sg)) := by
  intro d I sg;cases a with
  | region id ops dr =>
    cases dr with
    | false =>
      simp only [l6]
      congr 1
    | true => simp [qU] at ha
  | skip =>
    simp only [l6]
    congr 1
  | _ => simp [qU] at ha
 congr 1
 funext cs
 congr 1
 funext cd
 congr 1
 funext ds
 congr 1
 funext d I sg
 exact S9 d I sg
def rgT : Code -> Option (Nat × Nat)
 | .rangeFunc (.tmp t) ps _ _ => match ps.toList with
   | [q] => some (t, q)
   | _ => none
 | _ => none
def rgA : Code -> Code
 | .rangeFunc _ _ a _ => a
 | _ => .skip
def rgB : Code -> Code
 | .rangeFunc _ _ _ b => b
 | _ => .skip
theorem B7B {t f i q : Nat} {it : List DV -> Option (List DV)} (hs : rgT (sub p c []).1 = some (t, q)) (hm : (st.get t).2 = .fn f [(i, 0)]) (hi : C.iter f = some it) (EG : (qU (rgA (sub p c []).1) && Bu (rgB (sub p c []).1)) = true) :
 Vi C R fl K0 p c st = ob (E9 st.sg i) fun cs => ob (BL cs) fun cd => ob (it cd) fun ds =>
  LP (fun d I sg => Vi C R fl (kr I fun o sg => A0j C R fl K0 p c o (AA st sg)) [] (.seq (rgA (sub p c []).1) (rgB (sub p c []).1)) (clean fl (rgA (sub p c []).1) (Wt st q d sg))) (fun sg => A0j C R fl K0 p c .normal (AA st sg)) ds (st.sg.set i (.arr 1 [])) := by
 simp only [z11q] at EG;generalize hc : (sub p c []).1 = c1 at hs EG;cases c1 with
 | rangeFunc g ps a b =>
   cases g with
   | tmp t' =>
     simp only [rgT] at hs
     split at hs
     ·rename_i q' hq
      simp only [Option.some.injEq, Prod.mk.injEq] at hs;obtain ⟨rfl, rfl⟩ := hs;simp only [rgA, rgB] at EG ⊢;exact B9p (ks := (sub p c []).2) (by rw [<- hc]) hm hq hi EG.1 EG.2
     ·cases hs
   | _ => simp [rgT] at hs
 | _ => simp [rgT] at hs
end
def oneCell (sg : List C9) (cs : List (DV × Meta)) : Option DV :=
 if 1 = cs.length then match cs with
  | [c] => Z0 sg c
  | _ => none
 else none
def B5Z (x : Option DV) : Option DV := ob (ob x fun d => ob (some []) fun ds => some (d :: ds)) fun ds => some (pack ds)
def A6d : List (Option DV) -> Option (List DV)
 | [] => some []
 | x :: xs => ob x fun d => ob (A6d xs) fun ds => some (d :: ds)
def A3T (xs : List (Option DV)) : Option DV := ob (A6d xs) fun ds => some (pack ds)
end
end Go.Su

/-
 PLAIN DATA with types: the program's types, patterns, expressions, terms; how they lie as data. By program.
-/
namespace Go.Su
theorem Od {l : List Nat} {a : Nat} (h : a ∈ l) : a <= l.sum := by
 induction l with
 | nil => simp at h
 | cons x l ih =>
   rw [z41q];rcases z47q.1 h with rfl | h
   ·omega
   ·have := ih h; omega
def M8 (l : List Int) : DV := .list 1 (l.map fun n => .int .i64 n)
def Cb (l : List ByteArray) : DV := .list 1 (l.map fun s => .str s)
inductive Ty where
 | mk (kind : Int) (n : Int) (kids : List Ty)
def Ty.kind : Ty -> Int | .mk x0 _ _ => x0
def Ty.n : Ty -> Int | .mk _ x1 _ => x1
def Ty.kids : Ty -> List Ty | .mk _ _ x2 => x2
variable (x0 : Int) (x1 : Int) (x2 : List Ty)
@[simp] theorem Ty.Bi : (Ty.mk x0 x1 x2).kind = x0 := rfl
@[simp] theorem Ty.Ro : (Ty.mk x0 x1 x2).n = x1 := rfl
@[simp] theorem Ty.AZ : (Ty.mk x0 x1 x2).kids = x2 := rfl
def Ty.enc : Ty -> DV
 | .mk x0 x1 x2 => .agg [.int .i64 x0, .int .i64 x1, .list 3 (x2.map Ty.enc)]
variable (t : Ty)
theorem Ty.F8 : t.enc = .agg [.int .i64 t.kind, .int .i64 t.n, .list 3 (t.kids.map Ty.enc)] := by cases t; rw [Ty.enc]; rfl
noncomputable instance : DecidableEq Ty := fun a b => Classical.propDecidable (a = b)
@[simp] theorem CR : D6 3 t.enc = true := by rw [Ty.F8]; rfl
@[simp] theorem Ty.K8 : A7 0 t.enc = .int .i64 t.kind := by rw [Ty.F8]; rfl
@[simp] theorem Ty.Q0 : A7 1 t.enc = .int .i64 t.n := by rw [Ty.F8]; rfl
@[simp] theorem Ty.Q4 : A7 2 t.enc = .list 3 (t.kids.map Ty.enc) := by rw [Ty.F8]; rfl
theorem Ty.J9 : DV.agg [.int .i64 t.kind, .int .i64 t.n, .list 3 (t.kids.map Ty.enc)] = t.enc := (Ty.F8 t).symm
theorem Ty.ED {t u : Ty} : t = u ↔ t.kind = u.kind /\ t.n = u.n /\ t.kids = u.kids := ⟨fun h => by subst h; simp, fun h => by cases t; cases u; simp_all⟩
theorem Ty.FO {t k : Ty} (h : k ∈ t.kids) : SizeOf.sizeOf k < SizeOf.sizeOf t := by
 cases t;simp only [Ty.AZ] at h;have := z18q h;simp only [Ty.mk.sizeOf_spec];omega
theorem Ty.ind {P : Ty -> Prop} (h : ∀ t, (∀ k ∈ t.kids, P k) -> P t) (t : Ty) : P t :=
 h t fun k hk => Ty.ind h k
termination_by SizeOf.sizeOf t
decreasing_by exact Ty.FO hk
def Ty.size (t : Ty) : Nat := 1 + (t.kids.attach.map fun k => Ty.size k.1).sum
termination_by SizeOf.sizeOf t
decreasing_by exact Ty.FO k.2
theorem Ty.size_eq : t.size = 1 + (t.kids.map Ty.size).sum := by
 rw [Ty.size]
 congr 2
 exact z30q (f := Ty.size) ..
theorem Ty.IC {t k : Ty} (h : k ∈ t.kids) : k.size < t.size := by
 rw [Ty.size_eq t];have := Od (z31q (f := Ty.size) h);omega
theorem Ty.Db : 0 < t.size := by rw [Ty.size_eq]; omega
theorem Ty.oH : t.kids.length < t.size := by
 rw [Ty.size_eq];have : ∀ l : List Ty, l.length <= (l.map Ty.size).sum := by
  intro l
  induction l with
  | nil => simp
  | cons x l ih => have := Ty.Db x; simp only [z16q, z46q, z41q]; omega
 have := this t.kids;omega
inductive D9 where
 | mk (kind : Int) (lo : Int) (hi : Int) (name : ByteArray) (n : Int) (s : ByteArray) (kids : List D9)
def D9.kind : D9 -> Int | .mk x0 _ _ _ _ _ _ => x0
def D9.lo : D9 -> Int | .mk _ x1 _ _ _ _ _ => x1
def D9.hi : D9 -> Int | .mk _ _ x2 _ _ _ _ => x2
def D9.name : D9 -> ByteArray | .mk _ _ _ x3 _ _ _ => x3
def D9.n : D9 -> Int | .mk _ _ _ _ x4 _ _ => x4
def D9.s : D9 -> ByteArray | .mk _ _ _ _ _ x5 _ => x5
def D9.kids : D9 -> List D9 | .mk _ _ _ _ _ _ x6 => x6
variable (x2 : Int) (x3 : ByteArray) (x4 : Int) (x5 : ByteArray) (x6 : List D9)
@[simp] theorem D9.Bi : (D9.mk x0 x1 x2 x3 x4 x5 x6).kind = x0 := rfl
@[simp] theorem D9.qW : (D9.mk x0 x1 x2 x3 x4 x5 x6).lo = x1 := rfl
@[simp] theorem D9.qP : (D9.mk x0 x1 x2 x3 x4 x5 x6).hi = x2 := rfl
@[simp] theorem D9.Sy : (D9.mk x0 x1 x2 x3 x4 x5 x6).name = x3 := rfl
@[simp] theorem D9.Ro : (D9.mk x0 x1 x2 x3 x4 x5 x6).n = x4 := rfl
@[simp] theorem D9.fD : (D9.mk x0 x1 x2 x3 x4 x5 x6).s = x5 := rfl
@[simp] theorem D9.AZ : (D9.mk x0 x1 x2 x3 x4 x5 x6).kids = x6 := rfl
def D9.enc : D9 -> DV
 | .mk x0 x1 x2 x3 x4 x5 x6 => .agg [.int .i64 x0, .int .i64 x1, .int .i64 x2, .str x3, .int .i64 x4, .str x5, .list 7 (x6.map D9.enc)]
variable (t : D9)
theorem D9.F8 : t.enc = .agg [.int .i64 t.kind, .int .i64 t.lo, .int .i64 t.hi, .str t.name, .int .i64 t.n, .str t.s, .list 7 (t.kids.map D9.enc)] := by cases t; rw [D9.enc]; rfl
noncomputable instance : DecidableEq D9 := fun a b => Classical.propDecidable (a = b)
@[simp] theorem EJ : D6 7 t.enc = true := by rw [D9.F8]; rfl
@[simp] theorem D9.K8 : A7 0 t.enc = .int .i64 t.kind := by rw [D9.F8]; rfl
@[simp] theorem D9.Q0 : A7 1 t.enc = .int .i64 t.lo := by rw [D9.F8]; rfl
@[simp] theorem D9.Q4 : A7 2 t.enc = .int .i64 t.hi := by rw [D9.F8]; rfl
@[simp] theorem D9.Q5 : A7 3 t.enc = .str t.name := by rw [D9.F8]; rfl
@[simp] theorem D9.Q7 : A7 4 t.enc = .int .i64 t.n := by rw [D9.F8]; rfl
@[simp] theorem D9.Jd : A7 5 t.enc = .str t.s := by rw [D9.F8]; rfl
@[simp] theorem D9.Md : A7 6 t.enc = .list 7 (t.kids.map D9.enc) := by rw [D9.F8]; rfl
theorem D9.J9 : DV.agg [.int .i64 t.kind, .int .i64 t.lo, .int .i64 t.hi, .str t.name, .int .i64 t.n, .str t.s, .list 7 (t.kids.map D9.enc)] = t.enc := (D9.F8 t).symm
theorem D9.ED {t u : D9} : t = u ↔ t.kind = u.kind /\ t.lo = u.lo /\ t.hi = u.hi /\ t.name = u.name /\ t.n = u.n /\ t.s = u.s /\ t.kids = u.kids := ⟨fun h => by subst h; simp, fun h => by cases t; cases u; simp_all⟩
theorem D9.FO {t k : D9} (h : k ∈ t.kids) : SizeOf.sizeOf k < SizeOf.sizeOf t := by
 cases t;simp only [D9.AZ] at h;have := z18q h;simp only [D9.mk.sizeOf_spec];omega
theorem D9.ind {P : D9 -> Prop} (h : ∀ t, (∀ k ∈ t.kids, P k) -> P t) (t : D9) : P t :=
 h t fun k hk => D9.ind h k
termination_by SizeOf.sizeOf t
decreasing_by exact D9.FO hk
def D9.size (t : D9) : Nat := 1 + (t.kids.attach.map fun k => D9.size k.1).sum
termination_by SizeOf.sizeOf t
decreasing_by exact D9.FO k.2
theorem D9.size_eq : t.size = 1 + (t.kids.map D9.size).sum := by
 rw [D9.size]
 congr 2
 exact z30q (f := D9.size) ..
theorem D9.IC {t k : D9} (h : k ∈ t.kids) : k.size < t.size := by
 rw [D9.size_eq t];have := Od (z31q (f := D9.size) h);omega
theorem D9.Db : 0 < t.size := by rw [D9.size_eq]; omega
theorem D9.oH : t.kids.length < t.size := by
 rw [D9.size_eq];have : ∀ l : List D9, l.length <= (l.map D9.size).sum := by
  intro l
  induction l with
  | nil => simp
  | cons x l ih => have := D9.Db x; simp only [z16q, z46q, z41q]; omega
 have := this t.kids;omega
def D9.Y0 (t : D9) : Nat := 1 + t.name.size + t.s.size + (t.kids.attach.map fun k => D9.Y0 k.1).sum
termination_by SizeOf.sizeOf t
decreasing_by exact D9.FO k.2
theorem D9.BQ : t.Y0 = 1 + t.name.size + t.s.size + (t.kids.map D9.Y0).sum := by
 rw [D9.Y0]
 congr 2
 exact z30q (f := D9.Y0) ..
theorem D9.A3M : 0 < t.Y0 := by rw [D9.BQ]; omega
theorem D9.NT {t k : D9} (h : k ∈ t.kids) : k.Y0 < t.Y0 := by
 rw [D9.BQ t];have := Od (z31q (f := D9.Y0) h);omega
theorem D9.A0p : t.name.size < t.Y0 := by rw [D9.BQ]; omega
theorem D9.A88 : t.s.size < t.Y0 := by rw [D9.BQ]; omega
inductive Ex where
 | mk (kind : Int) (lo : Int) (hi : Int) (name : ByteArray) (arg : ByteArray) (n : Int) (s : ByteArray) (op : Int) (a : Ty) (b : Ty) (H8 : List D9) (kids : List Ex)
def Ex.kind : Ex -> Int | .mk x0 _ _ _ _ _ _ _ _ _ _ _ => x0
def Ex.lo : Ex -> Int | .mk _ x1 _ _ _ _ _ _ _ _ _ _ => x1
def Ex.hi : Ex -> Int | .mk _ _ x2 _ _ _ _ _ _ _ _ _ => x2
def Ex.name : Ex -> ByteArray | .mk _ _ _ x3 _ _ _ _ _ _ _ _ => x3
def Ex.arg : Ex -> ByteArray | .mk _ _ _ _ x4 _ _ _ _ _ _ _ => x4
def Ex.n : Ex -> Int | .mk _ _ _ _ _ x5 _ _ _ _ _ _ => x5
def Ex.s : Ex -> ByteArray | .mk _ _ _ _ _ _ x6 _ _ _ _ _ => x6
def Ex.op : Ex -> Int | .mk _ _ _ _ _ _ _ x7 _ _ _ _ => x7
def Ex.a : Ex -> Ty | .mk _ _ _ _ _ _ _ _ x8 _ _ _ => x8
def Ex.b : Ex -> Ty | .mk _ _ _ _ _ _ _ _ _ x9 _ _ => x9
def Ex.H8 : Ex -> List D9 | .mk _ _ _ _ _ _ _ _ _ _ x10 _ => x10
def Ex.kids : Ex -> List Ex | .mk _ _ _ _ _ _ _ _ _ _ _ x11 => x11
variable (x4 : ByteArray) (x5 : Int) (x6 : ByteArray) (x7 : Int) (x8 : Ty) (x9 : Ty) (x10 : List D9) (x11 : List Ex)
@[simp] theorem Ex.Bi : (Ex.mk x0 x1 x2 x3 x4 x5 x6 x7 x8 x9 x10 x11).kind = x0 := rfl
@[simp] theorem Ex.qW : (Ex.mk x0 x1 x2 x3 x4 x5 x6 x7 x8 x9 x10 x11).lo = x1 := rfl
@[simp] theorem Ex.qP : (Ex.mk x0 x1 x2 x3 x4 x5 x6 x7 x8 x9 x10 x11).hi = x2 := rfl
@[simp] theorem Ex.Sy : (Ex.mk x0 x1 x2 x3 x4 x5 x6 x7 x8 x9 x10 x11).name = x3 := rfl
@[simp] theorem Ex.xe : (Ex.mk x0 x1 x2 x3 x4 x5 x6 x7 x8 x9 x10 x11).arg = x4 := rfl
@[simp] theorem Ex.Ro : (Ex.mk x0 x1 x2 x3 x4 x5 x6 x7 x8 x9 x10 x11).n = x5 := rfl
@[simp] theorem Ex.fD : (Ex.mk x0 x1 x2 x3 x4 x5 x6 x7 x8 x9 x10 x11).s = x6 := rfl
@[simp] theorem Ex.A76 : (Ex.mk x0 x1 x2 x3 x4 x5 x6 x7 x8 x9 x10 x11).op = x7 := rfl
@[simp] theorem Ex.A8f : (Ex.mk x0 x1 x2 x3 x4 x5 x6 x7 x8 x9 x10 x11).a = x8 := rfl
@[simp] theorem Ex.A8i : (Ex.mk x0 x1 x2 x3 x4 x5 x6 x7 x8 x9 x10 x11).b = x9 := rfl
@[simp] theorem Ex.oL : (Ex.mk x0 x1 x2 x3 x4 x5 x6 x7 x8 x9 x10 x11).H8 = x10 := rfl
@[simp] theorem Ex.AZ : (Ex.mk x0 x1 x2 x3 x4 x5 x6 x7 x8 x9 x10 x11).kids = x11 := rfl
def Ex.enc : Ex -> DV
 | .mk x0 x1 x2 x3 x4 x5 x6 x7 x8 x9 x10 x11 => .agg [.int .i64 x0, .int .i64 x1, .int .i64 x2, .str x3, .str x4, .int .i64 x5, .str x6, .int .i64 x7, .int .i64 x8.kind, .int .i64 x8.n, .list 3 (x8.kids.map Ty.enc), .int .i64 x9.kind, .int .i64 x9.n, .list 3 (x9.kids.map Ty.enc), .list 7 (x10.map D9.enc), .list 16 (x11.map Ex.enc)]
variable (t : Ex)
theorem Ex.F8 : t.enc = .agg [.int .i64 t.kind, .int .i64 t.lo, .int .i64 t.hi, .str t.name, .str t.arg, .int .i64 t.n, .str t.s, .int .i64 t.op, .int .i64 t.a.kind, .int .i64 t.a.n, .list 3 (t.a.kids.map Ty.enc), .int .i64 t.b.kind, .int .i64 t.b.n, .list 3 (t.b.kids.map Ty.enc), .list 7 (t.H8.map D9.enc), .list 16 (t.kids.map Ex.enc)] := by cases t; rw [Ex.enc]; rfl
noncomputable instance : DecidableEq Ex := fun a b => Classical.propDecidable (a = b)
@[simp] theorem C0J : D6 16 t.enc = true := by rw [Ex.F8]; rfl
@[simp] theorem Ex.K8 : A7 0 t.enc = .int .i64 t.kind := by rw [Ex.F8]; rfl
@[simp] theorem Ex.Q0 : A7 1 t.enc = .int .i64 t.lo := by rw [Ex.F8]; rfl
@[simp] theorem Ex.Q4 : A7 2 t.enc = .int .i64 t.hi := by rw [Ex.F8]; rfl
@[simp] theorem Ex.Q5 : A7 3 t.enc = .str t.name := by rw [Ex.F8]; rfl
@[simp] theorem Ex.Q7 : A7 4 t.enc = .str t.arg := by rw [Ex.F8]; rfl
@[simp] theorem Ex.Jd : A7 5 t.enc = .int .i64 t.n := by rw [Ex.F8]; rfl
@[simp] theorem Ex.Md : A7 6 t.enc = .str t.s := by rw [Ex.F8]; rfl
@[simp] theorem Ex.Oj : A7 7 t.enc = .int .i64 t.op := by rw [Ex.F8]; rfl
@[simp] theorem Ex.RA : A7 8 t.enc = .int .i64 t.a.kind := by rw [Ex.F8]; rfl
@[simp] theorem Ex.A5q : A7 9 t.enc = .int .i64 t.a.n := by rw [Ex.F8]; rfl
@[simp] theorem Ex.A0y : A7 10 t.enc = .list 3 (t.a.kids.map Ty.enc) := by rw [Ex.F8]; rfl
@[simp] theorem Ex.A9l : A7 11 t.enc = .int .i64 t.b.kind := by rw [Ex.F8]; rfl
@[simp] theorem Ex.A9m : A7 12 t.enc = .int .i64 t.b.n := by rw [Ex.F8]; rfl
@[simp] theorem Ex.A9n : A7 13 t.enc = .list 3 (t.b.kids.map Ty.enc) := by rw [Ex.F8]; rfl
@[simp] theorem Ex.A9o : A7 14 t.enc = .list 7 (t.H8.map D9.enc) := by rw [Ex.F8]; rfl
@[simp] theorem Ex.A9p : A7 15 t.enc = .list 16 (t.kids.map Ex.enc) := by rw [Ex.F8]; rfl
theorem Ex.J9 : DV.agg [.int .i64 t.kind, .int .i64 t.lo, .int .i64 t.hi, .str t.name, .str t.arg, .int .i64 t.n, .str t.s, .int .i64 t.op, .int .i64 t.a.kind, .int .i64 t.a.n, .list 3 (t.a.kids.map Ty.enc), .int .i64 t.b.kind, .int .i64 t.b.n, .list 3 (t.b.kids.map Ty.enc), .list 7 (t.H8.map D9.enc), .list 16 (t.kids.map Ex.enc)] = t.enc := (Ex.F8 t).symm
theorem Ex.ED {t u : Ex} : t = u ↔ t.kind = u.kind /\ t.lo = u.lo /\ t.hi = u.hi /\ t.name = u.name /\ t.arg = u.arg /\ t.n = u.n /\ t.s = u.s /\ t.op = u.op /\ t.a = u.a /\ t.b = u.b /\ t.H8 = u.H8 /\ t.kids = u.kids := ⟨fun h => by subst h; simp, fun h => by cases t; cases u; simp_all⟩
theorem Ex.FO {t k : Ex} (h : k ∈ t.kids) : SizeOf.sizeOf k < SizeOf.sizeOf t := by
 cases t;simp only [Ex.AZ] at h;have := z18q h;simp only [Ex.mk.sizeOf_spec];omega
theorem Ex.ind {P : Ex -> Prop} (h : ∀ t, (∀ k ∈ t.kids, P k) -> P t) (t : Ex) : P t :=
 h t fun k hk => Ex.ind h k
termination_by SizeOf.sizeOf t
decreasing_by exact Ex.FO hk
inductive Tm where
 | mk (kind : Int) (lo : Int) (hi : Int) (name : ByteArray) (arg : ByteArray) (n : Int) (s : ByteArray) (op : Int) (label : Int) (neg : Bool) (vars : List Int) (a : Ty) (b : Ty) (args : List Ty) (H8 : List D9) (kids : List Tm)
def Tm.kind : Tm -> Int | .mk x0 _ _ _ _ _ _ _ _ _ _ _ _ _ _ _ => x0
def Tm.lo : Tm -> Int | .mk _ x1 _ _ _ _ _ _ _ _ _ _ _ _ _ _ => x1
def Tm.hi : Tm -> Int | .mk _ _ x2 _ _ _ _ _ _ _ _ _ _ _ _ _ => x2
def Tm.name : Tm -> ByteArray | .mk _ _ _ x3 _ _ _ _ _ _ _ _ _ _ _ _ => x3
def Tm.arg : Tm -> ByteArray | .mk _ _ _ _ x4 _ _ _ _ _ _ _ _ _ _ _ => x4
def Tm.n : Tm -> Int | .mk _ _ _ _ _ x5 _ _ _ _ _ _ _ _ _ _ => x5
def Tm.s : Tm -> ByteArray | .mk _ _ _ _ _ _ x6 _ _ _ _ _ _ _ _ _ => x6
def Tm.op : Tm -> Int | .mk _ _ _ _ _ _ _ x7 _ _ _ _ _ _ _ _ => x7
def Tm.label : Tm -> Int | .mk _ _ _ _ _ _ _ _ x8 _ _ _ _ _ _ _ => x8
def Tm.neg : Tm -> Bool | .mk _ _ _ _ _ _ _ _ _ x9 _ _ _ _ _ _ => x9
def Tm.vars : Tm -> List Int | .mk _ _ _ _ _ _ _ _ _ _ x10 _ _ _ _ _ => x10
def Tm.a : Tm -> Ty | .mk _ _ _ _ _ _ _ _ _ _ _ x11 _ _ _ _ => x11
def Tm.b : Tm -> Ty | .mk _ _ _ _ _ _ _ _ _ _ _ _ x12 _ _ _ => x12
def Tm.args : Tm -> List Ty | .mk _ _ _ _ _ _ _ _ _ _ _ _ _ x13 _ _ => x13
def Tm.H8 : Tm -> List D9 | .mk _ _ _ _ _ _ _ _ _ _ _ _ _ _ x14 _ => x14
def Tm.kids : Tm -> List Tm | .mk _ _ _ _ _ _ _ _ _ _ _ _ _ _ _ x15 => x15
variable (x8 : Int) (x9 : Bool) (x10 : List Int) (x11 : Ty) (x12 : Ty) (x13 : List Ty) (x14 : List D9) (x15 : List Tm)
@[simp] theorem Tm.Bi : (Tm.mk x0 x1 x2 x3 x4 x5 x6 x7 x8 x9 x10 x11 x12 x13 x14 x15).kind = x0 := rfl
@[simp] theorem Tm.qW : (Tm.mk x0 x1 x2 x3 x4 x5 x6 x7 x8 x9 x10 x11 x12 x13 x14 x15).lo = x1 := rfl
@[simp] theorem Tm.qP : (Tm.mk x0 x1 x2 x3 x4 x5 x6 x7 x8 x9 x10 x11 x12 x13 x14 x15).hi = x2 := rfl
@[simp] theorem Tm.Sy : (Tm.mk x0 x1 x2 x3 x4 x5 x6 x7 x8 x9 x10 x11 x12 x13 x14 x15).name = x3 := rfl
@[simp] theorem Tm.xe : (Tm.mk x0 x1 x2 x3 x4 x5 x6 x7 x8 x9 x10 x11 x12 x13 x14 x15).arg = x4 := rfl
@[simp] theorem Tm.Ro : (Tm.mk x0 x1 x2 x3 x4 x5 x6 x7 x8 x9 x10 x11 x12 x13 x14 x15).n = x5 := rfl
@[simp] theorem Tm.fD : (Tm.mk x0 x1 x2 x3 x4 x5 x6 x7 x8 x9 x10 x11 x12 x13 x14 x15).s = x6 := rfl
@[simp] theorem Tm.A76 : (Tm.mk x0 x1 x2 x3 x4 x5 x6 x7 x8 x9 x10 x11 x12 x13 x14 x15).op = x7 := rfl
@[simp] theorem Tm.eG : (Tm.mk x0 x1 x2 x3 x4 x5 x6 x7 x8 x9 x10 x11 x12 x13 x14 x15).label = x8 := rfl
@[simp] theorem Tm.A0r : (Tm.mk x0 x1 x2 x3 x4 x5 x6 x7 x8 x9 x10 x11 x12 x13 x14 x15).neg = x9 := rfl
@[simp] theorem Tm.A1p : (Tm.mk x0 x1 x2 x3 x4 x5 x6 x7 x8 x9 x10 x11 x12 x13 x14 x15).vars = x10 := rfl
@[simp] theorem Tm.A8f : (Tm.mk x0 x1 x2 x3 x4 x5 x6 x7 x8 x9 x10 x11 x12 x13 x14 x15).a = x11 := rfl
@[simp] theorem Tm.A8i : (Tm.mk x0 x1 x2 x3 x4 x5 x6 x7 x8 x9 x10 x11 x12 x13 x14 x15).b = x12 := rfl
@[simp] theorem Tm.A00 : (Tm.mk x0 x1 x2 x3 x4 x5 x6 x7 x8 x9 x10 x11 x12 x13 x14 x15).args = x13 := rfl
@[simp] theorem Tm.oL : (Tm.mk x0 x1 x2 x3 x4 x5 x6 x7 x8 x9 x10 x11 x12 x13 x14 x15).H8 = x14 := rfl
@[simp] theorem Tm.AZ : (Tm.mk x0 x1 x2 x3 x4 x5 x6 x7 x8 x9 x10 x11 x12 x13 x14 x15).kids = x15 := rfl
def Tm.enc : Tm -> DV
 | .mk x0 x1 x2 x3 x4 x5 x6 x7 x8 x9 x10 x11 x12 x13 x14 x15 => .agg [.int .i64 x0, .int .i64 x1, .int .i64 x2, .str x3, .str x4, .int .i64 x5, .str x6, .int .i64 x7, .int .i64 x8, .bool x9, M8 x10, .int .i64 x11.kind, .int .i64 x11.n, .list 3 (x11.kids.map Ty.enc), .int .i64 x12.kind, .int .i64 x12.n, .list 3 (x12.kids.map Ty.enc), .list 3 (x13.map Ty.enc), .list 7 (x14.map D9.enc), .list 20 (x15.map Tm.enc)]
variable (t : Tm)
theorem Tm.F8 : t.enc = .agg [.int .i64 t.kind, .int .i64 t.lo, .int .i64 t.hi, .str t.name, .str t.arg, .int .i64 t.n, .str t.s, .int .i64 t.op, .int .i64 t.label, .bool t.neg, M8 t.vars, .int .i64 t.a.kind, .int .i64 t.a.n, .list 3 (t.a.kids.map Ty.enc), .int .i64 t.b.kind, .int .i64 t.b.n, .list 3 (t.b.kids.map Ty.enc), .list 3 (t.args.map Ty.enc), .list 7 (t.H8.map D9.enc), .list 20 (t.kids.map Tm.enc)] := by cases t; rw [Tm.enc]; rfl
noncomputable instance : DecidableEq Tm := fun a b => Classical.propDecidable (a = b)
@[simp] theorem Al : D6 20 t.enc = true := by rw [Tm.F8]; rfl
@[simp] theorem Tm.K8 : A7 0 t.enc = .int .i64 t.kind := by rw [Tm.F8]; rfl
@[simp] theorem Tm.Q0 : A7 1 t.enc = .int .i64 t.lo := by rw [Tm.F8]; rfl
@[simp] theorem Tm.Q4 : A7 2 t.enc = .int .i64 t.hi := by rw [Tm.F8]; rfl
@[simp] theorem Tm.Q5 : A7 3 t.enc = .str t.name := by rw [Tm.F8]; rfl
@[simp] theorem Tm.Q7 : A7 4 t.enc = .str t.arg := by rw [Tm.F8]; rfl
@[simp] theorem Tm.Jd : A7 5 t.enc = .int .i64 t.n := by rw [Tm.F8]; rfl
@[simp] theorem Tm.Md : A7 6 t.enc = .str t.s := by rw [Tm.F8]; rfl
@[simp] theorem Tm.Oj : A7 7 t.enc = .int .i64 t.op := by rw [Tm.F8]; rfl
@[simp] theorem Tm.RA : A7 8 t.enc = .int .i64 t.label := by rw [Tm.F8]; rfl
@[simp] theorem Tm.A5q : A7 9 t.enc = .bool t.neg := by rw [Tm.F8]; rfl
@[simp] theorem Tm.A0y : A7 10 t.enc = M8 t.vars := by rw [Tm.F8]; rfl
@[simp] theorem Tm.A9l : A7 11 t.enc = .int .i64 t.a.kind := by rw [Tm.F8]; rfl
@[simp] theorem Tm.A9m : A7 12 t.enc = .int .i64 t.a.n := by rw [Tm.F8]; rfl
@[simp] theorem Tm.A9n : A7 13 t.enc = .list 3 (t.a.kids.map Ty.enc) := by rw [Tm.F8]; rfl
@[simp] theorem Tm.A9o : A7 14 t.enc = .int .i64 t.b.kind := by rw [Tm.F8]; rfl
@[simp] theorem Tm.A9p : A7 15 t.enc = .int .i64 t.b.n := by rw [Tm.F8]; rfl
@[simp] theorem Tm.B9n : A7 16 t.enc = .list 3 (t.b.kids.map Ty.enc) := by rw [Tm.F8]; rfl
@[simp] theorem Tm.A9q : A7 17 t.enc = .list 3 (t.args.map Ty.enc) := by rw [Tm.F8]; rfl
@[simp] theorem Tm.B4b : A7 18 t.enc = .list 7 (t.H8.map D9.enc) := by rw [Tm.F8]; rfl
@[simp] theorem Tm.H_ : A7 19 t.enc = .list 20 (t.kids.map Tm.enc) := by rw [Tm.F8]; rfl
theorem Tm.J9 : DV.agg [.int .i64 t.kind, .int .i64 t.lo, .int .i64 t.hi, .str t.name, .str t.arg, .int .i64 t.n, .str t.s, .int .i64 t.op, .int .i64 t.label, .bool t.neg, M8 t.vars, .int .i64 t.a.kind, .int .i64 t.a.n, .list 3 (t.a.kids.map Ty.enc), .int .i64 t.b.kind, .int .i64 t.b.n, .list 3 (t.b.kids.map Ty.enc), .list 3 (t.args.map Ty.enc), .list 7 (t.H8.map D9.enc), .list 20 (t.kids.map Tm.enc)] = t.enc := (Tm.F8 t).symm
theorem Tm.FO {t k : Tm} (h : k ∈ t.kids) : SizeOf.sizeOf k < SizeOf.sizeOf t := by
 cases t;simp only [Tm.AZ] at h;have := z18q h;simp only [Tm.mk.sizeOf_spec];omega
theorem Tm.ind {P : Tm -> Prop} (h : ∀ t, (∀ k ∈ t.kids, P k) -> P t) (t : Tm) : P t :=
 h t fun k hk => Tm.ind h k
termination_by SizeOf.sizeOf t
decreasing_by exact Tm.FO hk
def Tm.Y0 (t : Tm) : Nat := 1 + t.name.size + t.arg.size + t.s.size + t.vars.length + t.a.size + t.b.size + (t.args.map Ty.size).sum + (t.H8.map D9.Y0).sum + (t.kids.attach.map fun k => Tm.Y0 k.1).sum
termination_by SizeOf.sizeOf t
decreasing_by exact Tm.FO k.2
theorem Tm.BQ : t.Y0 = 1 + t.name.size + t.arg.size + t.s.size + t.vars.length + t.a.size + t.b.size + (t.args.map Ty.size).sum + (t.H8.map D9.Y0).sum + (t.kids.map Tm.Y0).sum := by
 rw [Tm.Y0]
 congr 2
 exact z30q (f := Tm.Y0) ..
theorem Tm.A3M : 0 < t.Y0 := by rw [Tm.BQ]; omega
theorem Tm.NT {t k : Tm} (h : k ∈ t.kids) : k.Y0 < t.Y0 := by
 rw [Tm.BQ t];have := Od (z31q (f := Tm.Y0) h);omega
theorem Tm.NU : t.kids.length < t.Y0 := by
 rw [Tm.BQ];have : ∀ l : List Tm, l.length <= (l.map Tm.Y0).sum := by
  intro l
  induction l with
  | nil => simp
  | cons x l ih => have := Tm.A3M x; simp only [z16q, z46q, z41q]; omega
 have := this t.kids;omega
theorem Tm.A0p : t.name.size < t.Y0 := by rw [Tm.BQ]; omega
theorem Tm.B5E : t.arg.size < t.Y0 := by rw [Tm.BQ]; omega
theorem Tm.A88 : t.s.size < t.Y0 := by rw [Tm.BQ]; omega
theorem Tm.B3V : t.vars.length < t.Y0 := by rw [Tm.BQ]; omega
theorem Tm.A0n : t.a.size < t.Y0 := by rw [Tm.BQ]; omega
theorem Tm.A0o : t.b.size < t.Y0 := by rw [Tm.BQ]; omega
theorem Tm.YF : (t.args.map Ty.size).sum < t.Y0 := by rw [Tm.BQ]; omega
theorem Tm.A0q : (t.H8.map D9.Y0).sum < t.Y0 := by rw [Tm.BQ]; omega
inductive B6x where
 | mk (types : List Ty) (vars : List Int) (kids : List B6x)
noncomputable instance : DecidableEq B6x := fun a b => Classical.propDecidable (a = b)
inductive A9 where
 | mk (kind : Int) (head : Int) (label : Int) (neg : Bool) (kids : List A9)
def A9.kind : A9 -> Int | .mk x0 _ _ _ _ => x0
def A9.head : A9 -> Int | .mk _ x1 _ _ _ => x1
def A9.label : A9 -> Int | .mk _ _ x2 _ _ => x2
def A9.neg : A9 -> Bool | .mk _ _ _ x3 _ => x3
def A9.kids : A9 -> List A9 | .mk _ _ _ _ x4 => x4
variable (x3 : Bool) (x4 : List A9)
@[simp] theorem A9.Bi : (A9.mk x0 x1 x2 x3 x4).kind = x0 := rfl
@[simp] theorem A9.B7l : (A9.mk x0 x1 x2 x3 x4).head = x1 := rfl
@[simp] theorem A9.eG : (A9.mk x0 x1 x2 x3 x4).label = x2 := rfl
@[simp] theorem A9.A0r : (A9.mk x0 x1 x2 x3 x4).neg = x3 := rfl
@[simp] theorem A9.AZ : (A9.mk x0 x1 x2 x3 x4).kids = x4 := rfl
def A9.enc : A9 -> DV
 | .mk x0 x1 x2 x3 x4 => .agg [.int .i64 x0, .int .i64 x1, .int .i64 x2, .bool x3, .list 5 (x4.map A9.enc)]
variable (t : A9)
theorem A9.F8 : t.enc = .agg [.int .i64 t.kind, .int .i64 t.head, .int .i64 t.label, .bool t.neg, .list 5 (t.kids.map A9.enc)] := by cases t; rw [A9.enc]; rfl
noncomputable instance : DecidableEq A9 := fun a b => Classical.propDecidable (a = b)
@[simp] theorem M9 : D6 5 t.enc = true := by rw [A9.F8]; rfl
@[simp] theorem A9.K8 : A7 0 t.enc = .int .i64 t.kind := by rw [A9.F8]; rfl
@[simp] theorem A9.Q0 : A7 1 t.enc = .int .i64 t.head := by rw [A9.F8]; rfl
@[simp] theorem A9.Q4 : A7 2 t.enc = .int .i64 t.label := by rw [A9.F8]; rfl
@[simp] theorem A9.Q5 : A7 3 t.enc = .bool t.neg := by rw [A9.F8]; rfl
@[simp] theorem A9.Q7 : A7 4 t.enc = .list 5 (t.kids.map A9.enc) := by rw [A9.F8]; rfl
theorem A9.J9 : DV.agg [.int .i64 t.kind, .int .i64 t.head, .int .i64 t.label, .bool t.neg, .list 5 (t.kids.map A9.enc)] = t.enc := (A9.F8 t).symm
theorem A9.ED {t u : A9} : t = u ↔ t.kind = u.kind /\ t.head = u.head /\ t.label = u.label /\ t.neg = u.neg /\ t.kids = u.kids := ⟨fun h => by subst h; simp, fun h => by cases t; cases u; simp_all⟩
theorem A9.FO {t k : A9} (h : k ∈ t.kids) : SizeOf.sizeOf k < SizeOf.sizeOf t := by
 cases t;simp only [A9.AZ] at h;have := z18q h;simp only [A9.mk.sizeOf_spec];omega
theorem A9.ind {P : A9 -> Prop} (h : ∀ t, (∀ k ∈ t.kids, P k) -> P t) (t : A9) : P t :=
 h t fun k hk => A9.ind h k
termination_by SizeOf.sizeOf t
decreasing_by exact A9.FO hk
def A9.size (t : A9) : Nat := 1 + (t.kids.attach.map fun k => A9.size k.1).sum
termination_by SizeOf.sizeOf t
decreasing_by exact A9.FO k.2
theorem A9.size_eq : t.size = 1 + (t.kids.map A9.size).sum := by
 rw [A9.size]
 congr 2
 exact z30q (f := A9.size) ..
theorem A9.IC {t k : A9} (h : k ∈ t.kids) : k.size < t.size := by
 rw [A9.size_eq t];have := Od (z31q (f := A9.size) h);omega
theorem A9.Db : 0 < t.size := by rw [A9.size_eq]; omega
inductive Val where
 | mk (kind : Int) (n : Int) (s : ByteArray) (c : A9) (kids : List Val)
def Val.kind : Val -> Int | .mk x0 _ _ _ _ => x0
def Val.n : Val -> Int | .mk _ x1 _ _ _ => x1
def Val.s : Val -> ByteArray | .mk _ _ x2 _ _ => x2
def Val.c : Val -> A9 | .mk _ _ _ x3 _ => x3
def Val.kids : Val -> List Val | .mk _ _ _ _ x4 => x4
variable (x2 : ByteArray) (x3 : A9) (x4 : List Val)
@[simp] theorem Val.Bi : (Val.mk x0 x1 x2 x3 x4).kind = x0 := rfl
@[simp] theorem Val.Ro : (Val.mk x0 x1 x2 x3 x4).n = x1 := rfl
@[simp] theorem Val.fD : (Val.mk x0 x1 x2 x3 x4).s = x2 := rfl
@[simp] theorem Val.B8p : (Val.mk x0 x1 x2 x3 x4).c = x3 := rfl
@[simp] theorem Val.AZ : (Val.mk x0 x1 x2 x3 x4).kids = x4 := rfl
def Val.enc : Val -> DV
 | .mk x0 x1 x2 x3 x4 => .agg [.int .i64 x0, .int .i64 x1, .str x2, .int .i64 x3.kind, .int .i64 x3.head, .int .i64 x3.label, .bool x3.neg, .list 5 (x3.kids.map A9.enc), .list 9 (x4.map Val.enc)]
variable (t : Val)
theorem Val.F8 : t.enc = .agg [.int .i64 t.kind, .int .i64 t.n, .str t.s, .int .i64 t.c.kind, .int .i64 t.c.head, .int .i64 t.c.label, .bool t.c.neg, .list 5 (t.c.kids.map A9.enc), .list 9 (t.kids.map Val.enc)] := by cases t; rw [Val.enc]; rfl
noncomputable instance : DecidableEq Val := fun a b => Classical.propDecidable (a = b)
@[simp] theorem I1 : D6 9 t.enc = true := by rw [Val.F8]; rfl
@[simp] theorem Val.K8 : A7 0 t.enc = .int .i64 t.kind := by rw [Val.F8]; rfl
@[simp] theorem Val.Q0 : A7 1 t.enc = .int .i64 t.n := by rw [Val.F8]; rfl
@[simp] theorem Val.Q4 : A7 2 t.enc = .str t.s := by rw [Val.F8]; rfl
@[simp] theorem Val.Q5 : A7 3 t.enc = .int .i64 t.c.kind := by rw [Val.F8]; rfl
@[simp] theorem Val.Q7 : A7 4 t.enc = .int .i64 t.c.head := by rw [Val.F8]; rfl
@[simp] theorem Val.Jd : A7 5 t.enc = .int .i64 t.c.label := by rw [Val.F8]; rfl
@[simp] theorem Val.Md : A7 6 t.enc = .bool t.c.neg := by rw [Val.F8]; rfl
@[simp] theorem Val.Oj : A7 7 t.enc = .list 5 (t.c.kids.map A9.enc) := by rw [Val.F8]; rfl
@[simp] theorem Val.RA : A7 8 t.enc = .list 9 (t.kids.map Val.enc) := by rw [Val.F8]; rfl
theorem Val.J9 : DV.agg [.int .i64 t.kind, .int .i64 t.n, .str t.s, .int .i64 t.c.kind, .int .i64 t.c.head, .int .i64 t.c.label, .bool t.c.neg, .list 5 (t.c.kids.map A9.enc), .list 9 (t.kids.map Val.enc)] = t.enc := (Val.F8 t).symm
theorem Val.FO {t k : Val} (h : k ∈ t.kids) : SizeOf.sizeOf k < SizeOf.sizeOf t := by
 cases t;simp only [Val.AZ] at h;have := z18q h;simp only [Val.mk.sizeOf_spec];omega
theorem Val.ind {P : Val -> Prop} (h : ∀ t, (∀ k ∈ t.kids, P k) -> P t) (t : Val) : P t :=
 h t fun k hk => Val.ind h k
termination_by SizeOf.sizeOf t
decreasing_by exact Val.FO hk
@[simp] theorem Ty.ag (t : Ty) : W9 t.enc = t.enc := by rw [Ty.F8]; rfl
@[simp] theorem A9.ag (t : A9) : P6 t.enc = t.enc := by rw [A9.F8]; rfl
@[simp] theorem D9.ag (t : D9) : IP t.enc = t.enc := by rw [D9.F8]; rfl
@[simp] theorem Val.ag : R8 t.enc = t.enc := by rw [Val.F8]; rfl
@[simp] theorem Ex.ag (t : Ex) : A3v t.enc = t.enc := by rw [Ex.F8]; rfl
@[simp] theorem Tm.ag (t : Tm) : Q6 t.enc = t.enc := by rw [Tm.F8]; rfl
theorem Ex.pj (t : Ex) : A7 0 t.enc = .int .i64 t.kind /\ A7 1 t.enc = .int .i64 t.lo /\ A7 2 t.enc = .int .i64 t.hi /\ A7 3 t.enc = .str t.name /\ A7 4 t.enc = .str t.arg /\ A7 5 t.enc = .int .i64 t.n /\ A7 6 t.enc = .str t.s /\ A7 7 t.enc = .int .i64 t.op /\ A7 8 t.enc = .int .i64 t.a.kind /\ A7 9 t.enc = .int .i64 t.a.n /\ A7 10 t.enc = .list 3 (t.a.kids.map Ty.enc) /\ A7 11 t.enc = .int .i64 t.b.kind /\ A7 12 t.enc = .int .i64 t.b.n /\ A7 13 t.enc = .list 3 (t.b.kids.map Ty.enc) /\ A7 14 t.enc = .list 7 (t.H8.map D9.enc) /\ A7 15 t.enc = .list 16 (t.kids.map Ex.enc) := ⟨t.K8, t.Q0, t.Q4, t.Q5, t.Q7, t.Jd, t.Md, t.Oj, t.RA, t.A5q, t.A0y, t.A9l, t.A9m, t.A9n, t.A9o, t.A9p⟩
theorem D9.pj (t : D9) : A7 0 t.enc = .int .i64 t.kind /\ A7 1 t.enc = .int .i64 t.lo /\ A7 2 t.enc = .int .i64 t.hi /\ A7 3 t.enc = .str t.name /\ A7 4 t.enc = .int .i64 t.n /\ A7 5 t.enc = .str t.s /\ A7 6 t.enc = .list 7 (t.kids.map D9.enc) := ⟨t.K8, t.Q0, t.Q4, t.Q5, t.Q7, t.Jd, t.Md⟩
theorem Tm.pj (t : Tm) : A7 0 t.enc = .int .i64 t.kind /\ A7 1 t.enc = .int .i64 t.lo /\ A7 2 t.enc = .int .i64 t.hi /\ A7 3 t.enc = .str t.name /\ A7 4 t.enc = .str t.arg /\ A7 5 t.enc = .int .i64 t.n /\ A7 6 t.enc = .str t.s /\ A7 7 t.enc = .int .i64 t.op /\ A7 8 t.enc = .int .i64 t.label /\ A7 9 t.enc = .bool t.neg /\ A7 10 t.enc = M8 t.vars /\ A7 11 t.enc = .int .i64 t.a.kind /\ A7 12 t.enc = .int .i64 t.a.n /\ A7 13 t.enc = .list 3 (t.a.kids.map Ty.enc) /\ A7 14 t.enc = .int .i64 t.b.kind /\ A7 15 t.enc = .int .i64 t.b.n /\ A7 16 t.enc = .list 3 (t.b.kids.map Ty.enc) /\ A7 17 t.enc = .list 3 (t.args.map Ty.enc) /\ A7 18 t.enc = .list 7 (t.H8.map D9.enc) /\ A7 19 t.enc = .list 20 (t.kids.map Tm.enc) := ⟨t.K8, t.Q0, t.Q4, t.Q5, t.Q7, t.Jd, t.Md, t.Oj, t.RA, t.A5q, t.A0y, t.A9l, t.A9m, t.A9n, t.A9o, t.A9p, t.B9n, t.A9q, t.B4b, t.H_⟩
theorem Val.pj : A7 0 t.enc = .int .i64 t.kind /\ A7 1 t.enc = .int .i64 t.n /\ A7 2 t.enc = .str t.s /\ A7 3 t.enc = .int .i64 t.c.kind /\ A7 4 t.enc = .int .i64 t.c.head /\ A7 5 t.enc = .int .i64 t.c.label /\ A7 6 t.enc = .bool t.c.neg /\ A7 7 t.enc = .list 5 (t.c.kids.map A9.enc) /\ A7 8 t.enc = .list 9 (t.kids.map Val.enc) := ⟨t.K8, t.Q0, t.Q4, t.Q5, t.Q7, t.Jd, t.Md, t.Oj, t.RA⟩
end Go.Su

/-
 PLAIN DATA: what the data's operations make of numbers, texts, lists.
-/
namespace Go.Su
variable {α : Type} {β : Type}
@[simp] theorem D5 (a : α) (f : α -> Option β) : ob (some a) f = f a := rfl
@[simp] theorem B5I (f : α -> Option β) : ob none f = none := rfl
@[simp] theorem E5 (x : Option β) : og true x = x := rfl
@[simp] theorem B3X (x : Option β) : og false x = none := rfl
@[simp] theorem D8 (b : Bool) (x y : Option β) : D7 (.bool b) x y = if b = true then x else y := by cases b <;> rfl
@[simp] theorem I6 (b : Bool) (x y z : Option β) : F7 (.bool b) x y z = if b = true then x else y := by cases b <;> rfl
variable (sz : Nat) (ds : List DV)
@[simp] theorem M7 : dLen (.list sz ds) = some (.int .i64 ds.length) := rfl
variable (l : List Int)
@[simp] theorem xu : dLen (M8 l) = some (.int .i64 l.length) := by simp [M8]
variable (l : List ByteArray)
@[simp] theorem C0I : dLen (Cb l) = some (.int .i64 l.length) := by simp [Cb]
@[simp] theorem qC : qB (.list sz ds) = some (sz, ds) := rfl
variable (s : ByteArray)
@[simp] theorem Cn : CF (.str s) = some (.int .i64 s.size) := rfl
variable (k : IntKind)
@[simp] theorem I5 (a b : Int) : A8 .eql (.int k a) (.int k b) = some (.bool (decide (a = b))) := by
  simp only [A8, Jz, LD, if_true]; rfl
@[simp] theorem J7 (a b : Int) : A8 .neq (.int k a) (.int k b) = some (.bool (!decide (a = b))) := by
  simp only [A8, Jz, LD, if_true]; rfl
@[simp] theorem L9 (a b : Int) : A8 .lss (.int k a) (.int k b) = some (.bool (decide (a < b))) := by
  simp only [A8, Jz, LD, if_true]
@[simp] theorem Kc (a b : Int) : A8 .leq (.int k a) (.int k b) = some (.bool (decide (a <= b))) := by
  simp only [A8, Jz, LD, if_true]
@[simp] theorem BZ (a b : Int) : A8 .gtr (.int k a) (.int k b) = some (.bool (decide (b < a))) := by
  simp only [A8, Jz, LD, if_true, gt_iff_lt]
@[simp] theorem Ef (a b : Int) : A8 .geq (.int k a) (.int k b) = some (.bool (decide (b <= a))) := by
  simp only [A8, Jz, LD, if_true, ge_iff_le]
theorem Bo (a b : Int) : A8 .add (.int k a) (.int k b) = some (.int k (k.wrap (a + b))) := by
 simp only [A8, Jz, LD, if_true]
theorem Fy (a b : Int) : A8 .sub (.int k a) (.int k b) = some (.int k (k.wrap (a - b))) := by
 simp only [A8, Jz, LD, if_true]
theorem B42 (a b : Int) : A8 .mul (.int k a) (.int k b) = some (.int k (k.wrap (a * b))) := by
 simp only [A8, Jz, LD, if_true]
theorem BS {n : Int} (h1 : -9223372036854775808 <= n) (h2 : n <= 9223372036854775807) : IntKind.i64.wrap n = n := Go.IntWalk.i64_in n ⟨h1, h2⟩
theorem Mx {a b : Int} (h1 : -9223372036854775808 <= a + b) (h2 : a + b <= 9223372036854775807) : A8 .add (.int .i64 a) (.int .i64 b) = some (.int .i64 (a + b)) := by
 rw [Bo, BS h1 h2]
variable {i : Nat}
theorem O5 (h : i < 9223372036854775807) : A8 .add (.int .i64 (i : Int)) (.int .i64 1) = some (.int .i64 ((i + 1 : Nat) : Int)) := by
 rw [Mx (by omega) (by omega)]
 simp
variable {c : Prop}
theorem A83 [Decidable c] {a b : Bool} : (if c then some (DV.bool a) else some (DV.bool b)) = some (DV.bool (if c then a else b)) := by split <;> rfl
theorem A82 [Decidable c] {a b : Bool} : (if c then DV.bool a else DV.bool b) = DV.bool (if c then a else b) := by split <;> rfl
theorem C0q [Decidable c] {a b : DV} : (if c then some a else some b) = some (if c then a else b) := by split <;> rfl
theorem B9x {a b : Bool} (h : a = true ↔ b = true) : some (DV.bool a) = some (DV.bool b) := by rw [Bool.eq_iff_iff.2 h]
theorem xg : s.toList = s.data.toList := by
 have loop : ∀ (n i : Nat) (r : List UInt8), s.size - i = n -> ByteArray.toList.loop s i r = r.reverse ++ s.data.toList.drop i := by
  intro n
  induction n with
  | zero =>
    intro i r h;rw [ByteArray.toList.loop, if_neg (by omega)]
    have : s.data.toList.length <= i := by simp only [z50q]; exact Nat.le_of_sub_eq_zero h
    simp [z55q this]
  | succ n ih =>
    intro i r h;have hi : i < s.size := by omega
    rw [ByteArray.toList.loop, if_pos hi, ih (i + 1) _ (by omega)]
    have hl : i < s.data.toList.length := by simpa using hi
    rw [z15q hl];have : s.get! i = s.data.toList[i] := by
     simp only [ByteArray.get!, Array.getElem_toList];exact getElem!_pos s.data i hi
    rw [this];simp
 rw [ByteArray.toList, loop _ 0 [] rfl];simp
theorem A6C {a b : ByteArray} (h : a.toList = b.toList) : a = b := by
 rw [xg, xg] at h;cases a; cases b;simp only [ByteArray.mk.injEq];exact Array.ext' h
theorem gN (a b : ByteArray) : (a.toList == b.toList) = decide (a = b) := by
 by_cases h : a = b
 ·subst h; simp
 ·have : a.toList ≠ b.toList := fun h' => h (A6C h')
  simp [h, this]
@[simp] theorem KP (a b : ByteArray) : A8 .eql (.str a) (.str b) = some (.bool (decide (a = b))) := by
  simp only [A8, lX];rw [gN]
@[simp] theorem Xl (a b : ByteArray) : A8 .neq (.str a) (.str b) = some (.bool (!decide (a = b))) := by
  simp only [A8, lX];rw [gN]
@[simp] theorem gP (a b : Bool) : UE (.bool a) (.bool b) = some (a == b) := rfl
@[simp] theorem K6 (b : Bool) : M5 .not (.bool b) = some (.bool !b) := rfl
variable (n : Int)
@[simp] theorem P5 : H6 (.int k n) = true := rfl
@[simp] theorem Le (b : Bool) : H6 (.bool b) = true := rfl
@[simp] theorem Cf : H6 (.str s) = true := rfl
@[simp] theorem kK : H6 (.list sz ds) = true := rfl
@[simp] theorem B9S (l : List Int) : H6 (M8 l) = true := rfl
@[simp] theorem B9T : H6 (Cb l) = true := rfl
@[simp] theorem C0o : M4 (.int k n) = true := rfl
@[simp] theorem C0p : M4 (.str s) = true := rfl
@[simp] theorem C0K : isKey false (.int .i64 n) = true := rfl
@[simp] theorem B3N : isKey true (.str s) = true := rfl
theorem B3q (i : Nat) : F5 sz (.list sz ds) (.int k (i : Int)) = ds[i]? := by
 simp [F5]
variable {k : IntKind}
theorem I8 {e : α -> DV} {sz : Nat} {l : List α} (h : i < l.length) : F5 sz (.list sz (l.map e)) (.int k (i : Int)) = some (e l[i]) := by
 rw [B3q, z13q, z3q h]; rfl
theorem NA {l : List Int} (h : i < l.length) : F5 1 (M8 l) (.int k (i : Int)) = some (.int .i64 l[i]) := I8 h
theorem A6J {l : List ByteArray} (h : i < l.length) : F5 1 (Cb l) (.int k (i : Int)) = some (.str l[i]) := I8 h
theorem M_ {sz : Nat} {a b : List DV} (h : a.length + b.length <= lim) : AQ sz (.list sz a) (.list sz b) = some (.list sz (a ++ b)) := by
 simp [AQ, h]
theorem i_ {A X : Type} {l : List α} {P : Int -> A -> Option X} {I : Nat -> A -> Prop} {F : List α -> A -> Option X} (stop : ∀ a, I l.length a -> P l.length a = F [] a) (step : ∀ (i : Nat) (h : i < l.length) a, I i a -> (∀ a', I (i + 1) a' -> P ((i : Int) + 1) a' = F (l.drop (i + 1)) a') -> P i a = F (l[i] :: l.drop (i + 1)) a) :
 ∀ a, I 0 a -> P 0 a = F l a := by
 have key : ∀ (n i : Nat) a, i + n = l.length -> I i a -> P i a = F (l.drop i) a := by
  intro n
  induction n with
  | zero =>
    intro i a hi ha;have : i = l.length := by omega
    subst this;rw [stop a ha, z56q]
  | succ n ih =>
    intro i a hi ha;have h : i < l.length := by omega
    rw [z15q h];refine step i h a ha fun a' ha' => ?_
    have := ih (i + 1) a' (by omega) ha'
    push_cast at this;exact this
 intro a ha;have := key l.length 0 a (by omega) ha
 simpa using this
theorem F_ {X : Type} {l : List α} {P : Int -> Option X} {f : α -> Bool} {y n : X} (stop : P l.length = some y) (step : ∀ (i : Nat) (h : i < l.length), P i = if f l[i] = true then P ((i : Int) + 1) else some n) : P 0 = some (if l.all f = true then y else n) := by
 have := i_ (l := l) (P := fun i (_ : Unit) => P i) (I := fun _ _ => True) (F := fun l _ => some (if l.all f = true then y else n)) (fun _ _ => by simpa using stop)
  (fun i h a _ ih => by
    rw [step i h];have h2 := ih () trivial;rw [h2];simp only [List.all_cons, z11q]
    by_cases h3 : f l[i] = true <;> simp [h3]) () trivial
 exact this
theorem A0l {A X : Type} {l : List α} {P : Int -> A -> Option X} {g : A -> α -> A} {fin : A -> Option X} {I : Nat -> A -> Prop} (stop : ∀ a, I l.length a -> P l.length a = fin a) (step : ∀ (i : Nat) (h : i < l.length) a, I i a -> P i a = P ((i : Int) + 1) (g a l[i]) /\ I (i + 1) (g a l[i])) : ∀ a, I 0 a -> P 0 a = fin (l.foldl g a) := by
 refine i_ (F := fun l a => fin (l.foldl g a)) (fun a ha => by simpa using stop a ha) fun i h a ha ih => ?_
 obtain ⟨h1, h2⟩ := step i h a ha;rw [h1, ih _ h2];rfl
theorem NS {X : Type} [DecidableEq α] {l m : List α} (hl : l.length = m.length) {P : Int -> Option X} {y n : X} (stop : P l.length = some y) (step : ∀ (i : Nat) (h : i < l.length), P i = if l[i] = m[i]'(by omega) then P ((i : Int) + 1) else some n) : P 0 = some (if l = m then y else n) := by
 have key : ∀ (k i : Nat), i + k = l.length -> P i = some (if l.drop i = m.drop i then y else n) := by
  intro k
  induction k with
  | zero =>
    intro i hi;have : i = l.length := by omega
    subst this;rw [stop, z56q, z55q (by omega), if_pos rfl]
  | succ k ih =>
    intro i hi;have h : i < l.length := by omega
    have h' : i < m.length := by omega
    have h2 := ih (i + 1) (by omega)
    push_cast at h2;have e1 : l.drop i = l[i] :: l.drop (i + 1) := z15q h;have e2 : m.drop i = m[i] :: m.drop (i + 1) := z15q h';have e3 : (l.drop i = m.drop i) ↔ (l[i] = m[i] /\ l.drop (i + 1) = m.drop (i + 1)) := by rw [e1, e2, List.cons.injEq]
    rw [step i h, h2]
    by_cases h3 : l[i] = m[i] <;> by_cases h4 : l.drop (i + 1) = m.drop (i + 1) <;> simp only [e3, h3, h4, true_and, and_true, false_and, and_false, if_true, if_false]
 have := key l.length 0 (by omega)
 simpa using this
theorem Sw {l : List α} {P : Int -> Option DV} {f : α -> Bool} (stop : P l.length = some (.bool true)) (step : ∀ (i : Nat) (h : i < l.length), P i = if f l[i] = true then P ((i : Int) + 1) else some (.bool false)) : P 0 = some (.bool (l.all f)) := by
 rw [F_ stop step];cases l.all f <;> rfl
theorem A0k {l : List α} {P : Int -> Option DV} {f : α -> Bool} (stop : P l.length = some (.bool false)) (step : ∀ (i : Nat) (h : i < l.length), P i = if f l[i] = true then some (.bool true) else P ((i : Int) + 1)) : P 0 = some (.bool (l.any f)) := by
 have := F_ (l := l) (P := P) (f := fun x => !f x) (y := .bool false) (n := .bool true) stop (fun i h => by rw [step i h]; cases f l[i] <;> rfl)
 rw [this, show l.any f = !l.all (fun x => !f x) by rw [List.all_eq_not_any_not]; simp]
 cases l.all (fun x => !f x) <;> rfl
theorem YE [DecidableEq α] {l m : List α} (hl : l.length = m.length) {P : Int -> Option DV} (stop : P l.length = some (.bool true)) (step : ∀ (i : Nat) (h : i < l.length), P i = if l[i] = m[i]'(by omega) then P ((i : Int) + 1) else some (.bool false)) : P 0 = some (.bool (decide (l = m))) := by
 rw [NS hl stop step]
 by_cases h : l = m <;> simp [h]
end Go.Su

/-
 FROM A READING TO DATA: what an argument reads as lies in memory as plain data.
-/
namespace Go.Su
mutual
def AP {H : Type} : DataW H -> Nat
 | .lit (.string bytes) => bytes.length + 1
 | .lit _ => 1
 | .nil => 1
 | .ptr d => AP d + 1
 | .slice elems spare => Gx elems + Gx spare + 1
 | .agg parts => Gx parts + 1
 | .iface _ d => AP d + 1
 | .map entries => Pt entries + 1
 | .held _ => 1
def Gx {H : Type} : List (DataW H) -> Nat
 | [] => 0
 | d :: r => AP d + Gx r
def Pt {H : Type} : List (Lit × DataW H) -> Nat
 | [] => 0
 | x :: r => xf x + Pt r
def xf {H : Type} : Lit × DataW H -> Nat
 | (.string bytes, d) => bytes.length + AP d + 1
 | (_, d) => AP d + 1
end
variable (w : World)
def aX : Z5 := fun b _ => b < w.heap.size
section
variable {H : Type} {enc : TypeId × Value -> H} {P : Program} {w : World} {held : Bool}
abbrev Rd (enc : TypeId × Value -> H) (P : Program) (w : World) (held : Bool) : Nat -> TypeId -> List Value -> Option (DataW H × List MemPlace) := DataW.trod enc P w 0 (fun _ => true) held
theorem B1S {l : List (DataW H)} {m : List Nat} (h1 : m.length = l.length) (h2 : ∀ (i : Nat) (a : Nat) (d : DataW H), m[i]? = some a -> l[i]? = some d -> a <= AP d) : m.sum <= Gx l := by
 induction l generalizing m with
 | nil => cases m <;> simp_all
 | cons d l ih =>
   cases m with
   | nil => simp at h1
   | cons a m =>
     simp only [z41q, Gx];have h3 := h2 0 a d rfl rfl;have h4 := ih (m := m) (by simpa using h1) fun i a d ha hd => h2 (i + 1) a d (by simpa using ha) (by simpa using hd)
     omega
theorem add_block (a : Addr) (k : Nat) : (a.add k).block = a.block := by unfold Addr.add; split <;> rfl
theorem B60 (a : Addr) (k : Nat) : (a.add k).off = a.off + k := by unfold Addr.add; split <;> simp_all
variable {cs : List Value}
theorem A9s {a : Addr} {n : Nat} (h : w.cells? 0 a n = some cs) (hn : 0 < n) : a.spot = none /\ cs.length = n /\ At (aX w) w.heap a.block a.off cs := by
 obtain ⟨-, hl, hc⟩ := World.cells?_some h;have hs : a.spot = none := by
  have h0 := hc 0 hn;have : cs[0]? = some (cs[0]'(by omega)) := z3q (by omega)
  rw [this] at h0;unfold World.cell? at h0
  split at h0
  ·split at h0
   ·cases h0
   ·rename_i hsp
    simpa [Addr.add] using hsp
  ·cases h0
 refine ⟨hs, hl, fun j v hv => ?_⟩
 have hj : j < n := by rw [<- hl]; exact (z2q.1 hv).1
 have h1 := hc j hj;have e : a.add j = ⟨a.block, a.off + j, none⟩ := by
  unfold Addr.add
  split
  ·rename_i h0; cases a; simp only at hs; subst hs; simp [h0]
  ·rfl
 rw [e, SC, hv] at h1;refine ⟨h1, ?_⟩;unfold Su.hc at h1
 split at h1
 ·rename_i hb
  exact (z1q.1 hb).1
 ·cases h1
variable {t : TypeId} {fuel : Nat} {x : DataW H × List MemPlace}
theorem Wo {α : Type} {e : α -> DV} {sz : α -> Nat} {el : TypeId} (ht : P.underlying t = some (.slice el)) (hz : 0 < P.cellsOf el) (h : ∀ n cs x, n < fuel -> Rd enc P w held n el cs = some x -> ∃ a : α, RC (aX w) w.heap (e a) cs /\ sz a <= AP x.1) (hr : Rd enc P w held fuel t cs = some x) :
 ∃ l : List α, RC (aX w) w.heap (.list (P.cellsOf el) (l.map e)) cs /\ (l.map sz).sum + 1 <= AP x.1 := by
 rcases DataW.trod_slice ht hr with ⟨rfl, rfl⟩ | ⟨a, len, cap, elems, rest, n, rfl, rfl, rfl, hb, hlc, hcm, hel, hi, hsp, -⟩
 ·refine ⟨[], ?_, by simp [AP]⟩
  simp only [RC, z70q];exact ⟨none, 0, 0, rfl, rfl, z12q _, fun _ => rfl, by simp, by simp⟩
 ·have each : ∀ i : Fin len, ∃ y : α, ((i.1 = 0 -> a.spot = none) /\ Elem (aX w) w.heap (P.cellsOf el) a.block (a.off + i.1 * P.cellsOf el) (e y)) /\ ∀ d, (elems.map (·.1))[i.1]? = some d -> sz y <= AP d := by
   intro i;have h1 := hi i.1 i.2;have h2 : elems[i.1]? = some (elems[i.1]'(by omega)) := z3q (by omega)
   rw [h2] at h1;obtain ⟨cs', h3, h4⟩ := z58q.1 h1;obtain ⟨y, h5, h6⟩ := h n cs' _ (Nat.lt_succ_self n) h4;obtain ⟨q1, q2, q3⟩ := A9s h3 hz;rw [add_block, B60] at q3;refine ⟨y, ⟨fun h0 => by rw [h0] at q1; simpa [Addr.add] using q1, cs', q2, q3, h5⟩, fun d hd => ?_⟩
   rw [z13q, h2] at hd;simp only [z49q, Option.some.injEq] at hd;rw [<- hd];exact h6
  let f : Fin len -> α := fun i => (each i).choose
  have hf := fun i : Fin len => (each i).choose_spec
  refine ⟨List.ofFn f, ?_, ?_⟩
  ·simp only [RC]
   refine ⟨some a, len, cap, rfl, by simp, hlc, by simp, fun _ => hz, fun y hy => ?_⟩
   simp only [Option.some.injEq] at hy;subst hy;refine ⟨fun A5Z => ?_, ?_⟩
   ·by_cases hl : 0 < len
    ·exact (hf ⟨0, hl⟩).1.1 rfl
    ·obtain ⟨r1, r2⟩ := hsp rfl
     have h1 := r2 0 (by omega)
     have h2 : rest[0]? = some (rest[0]'(by omega)) := z3q (by omega)
     rw [h2] at h1;obtain ⟨cs', h3, -⟩ := z58q.1 h1;have hl0 : len = 0 := by omega
     have := (A9s h3 hz).1;simpa [Addr.add, hl0] using this
   ·rw [EA]
    intro i d hd;rw [z13q, z20q] at hd;obtain ⟨y, hy, rfl⟩ := hd;have L8 : i < len := by have := (z2q.1 hy).1; simpa using this
    rw [z63q, dif_pos L8] at hy;simp only [Option.some.injEq] at hy;subst hy;exact (hf ⟨i, L8⟩).1.2
  ·simp only [AP]
   have := B1S (l := elems.map (·.1)) (m := (List.ofFn f).map sz) (by simp [hel]) fun i b d hb hd => by
    rw [z13q, z20q] at hb;obtain ⟨y, hy, rfl⟩ := hb;have L8 : i < len := by have := (z2q.1 hy).1; simpa using this
    rw [z63q, dif_pos L8] at hy;simp only [Option.some.injEq] at hy;subst hy;exact (hf ⟨i, L8⟩).2 d hd
   omega
theorem Y6 {S : Z5} {h : Heap} : ∀ {a b : List DV} {p q : List Value}, GI S h a p -> GI S h b q -> GI S h (a ++ b) (p ++ q)
 | [], b, p, q, ha, hb => by simp only [GI] at ha; subst ha; simpa using hb
 | d :: a, b, p, q, ha, hb => by
   simp only [GI] at ha;obtain ⟨v, vs', rfl, h1, h2, h3⟩ := ha;simp only [List.cons_append, GI];exact ⟨v, vs' ++ q, rfl, h1, h2, Y6 h3 hb⟩
theorem BP {S : Z5} {h : Heap} {d : DV} (hd : M4 d = true) (hr : RC S h d cs) : GI S h [d] cs := by
 obtain ⟨v, rfl⟩ := Jm hd hr;exact ⟨v, [], rfl, hd, hr, rfl⟩
theorem jF {fs : Array Field} (ht : P.underlying t = some (.struct fs)) (hr : Rd enc P w held fuel t cs = some x) :
 ∃ (n : Nat) (ds : List (DataW H)), fuel = n + 1 /\ AP x.1 = Gx ds + 1 /\ cs.length = P.cellsOf t /\ ds.length = fs.size /\
   ∀ (i : Nat) f, fs[i]? = some f -> ∃ y, Rd enc P w held n f.type ((cs.drop f.offset).take (P.cellsOf f.type)) = some y /\ ds[i]? = some y.1 := by
 obtain ⟨xs, n, rfl, rfl, h1, h2, h3⟩ := DataW.trod_struct ht hr;refine ⟨n, xs.map (·.1), rfl, by simp [AP], h1, by simpa using h2, fun i f hf => ?_⟩
 have hi : i < xs.length := by rw [h2]; exact (z1q.1 hf).1
 refine ⟨xs[i], ?_, by simp [z3q hi]⟩
 have h4 := h3 i f hf;rw [z3q hi] at h4;exact h4
theorem LU {k : IntKind} (ht : P.underlying t = some (.int k)) (hr : Rd enc P w held fuel t cs = some x) : ∃ n : Int, RC (aX w) w.heap (.int k n) cs /\ (Lit.int k n).wf = true /\ 1 <= AP x.1 := by
 obtain ⟨n, rfl, rfl, hw⟩ := DataW.trod_int ht hr;exact ⟨n, by simp only [RC], hw, by simp [AP]⟩
theorem B7C (ht : P.underlying t = some .bool) (hr : Rd enc P w held fuel t cs = some x) : ∃ b : Bool, RC (aX w) w.heap (.bool b) cs /\ 1 <= AP x.1 := by
 obtain ⟨b, rfl, rfl⟩ := DataW.trod_bool ht hr;exact ⟨b, by simp only [RC], by simp [AP]⟩
theorem A0A (ht : P.underlying t = some .string) (hr : Rd enc P w held fuel t cs = some x) : ∃ s : ByteArray, RC (aX w) w.heap (.str s) cs /\ s.size + 1 <= AP x.1 := by
 obtain ⟨s, rfl, rfl, hw⟩ := DataW.trod_string ht hr;exact ⟨s, by simp only [RC], by simp [AP]⟩
theorem B3d (d : DataW H) : 1 <= AP d := by
 cases d with
 | lit l => cases l <;> simp [AP]
 | _ => simp [AP]
end
end Go.Su

/-
 FROM A READING TO DATA: the program's types, one by one. By program.
-/
namespace Go.Su
variable (P : Program) (t : TypeId)
def Nt : Prop := P.underlying t = some (.int .i64) /\ P.cellsOf t = 1
def A0Y : Prop := P.underlying t = some .string /\ P.cellsOf t = 1
def B23 : Prop := P.underlying t = some .bool /\ P.cellsOf t = 1
def SliceAt (el : TypeId) : Prop := P.underlying t = some (.slice el) /\ P.cellsOf t = 1
def A4G : Prop := ∃ f0 f1 : Field, P.underlying t = some (.struct #[f0, f1]) /\ P.cellsOf t = 2 /\ (Nt P f0.type /\ f0.offset = 0) /\ (Nt P f1.type /\ f1.offset = 1)
def A79 : Prop := ∃ el, SliceAt P t el /\ Nt P el
section
variable {H : Type} {enc : TypeId × Value -> H} {P : Program} {w : World} {held : Bool} {t : TypeId} {fuel : Nat} {cs : List Value} {x : DataW H × List MemPlace}
theorem B7D (A : A79 P t) (hr : Rd enc P w held fuel t cs = some x) : ∃ l : List Int, RC (aX w) w.heap (M8 l) cs /\ l.length + 1 <= AP x.1 := by
 obtain ⟨el, A1, A2⟩ := A;obtain ⟨l, h1, h2⟩ := Wo (e := fun n : Int => .int .i64 n) (sz := fun _ => 1) A1.1 (by rw [A2.2]; omega) (fun n cs x _ h => by obtain ⟨n, h1, -, h2⟩ := LU A2.1 h; exact ⟨n, h1, h2⟩) hr
 rw [A2.2] at h1;have h3 : ∀ l : List Int, (l.map fun _ => 1).sum = l.length := by
  intro l
  induction l with
  | nil => rfl
  | cons a l ih => simp only [z46q, z41q, ih, z16q]; omega
 rw [h3] at h2;exact ⟨l, h1, h2⟩
theorem B1w (A : A4G P t) (hr : Rd enc P w held fuel t cs = some x) : ∃ a b : Int, GI (aX w) w.heap [.int .i64 a, .int .i64 b] cs /\ 1 <= AP x.1 := by
 obtain ⟨f0, f1, hu, hc, ⟨t0, o0⟩, t1, o1⟩ := A;obtain ⟨n, ds, rfl, hb, hl, hd, hf⟩ := jF hu hr;obtain ⟨y0, r0, d0⟩ := hf 0 f0 rfl;obtain ⟨y1, r1, d1⟩ := hf 1 f1 rfl;rw [o0, t0.2] at r0;rw [o1, t1.2] at r1;rw [hc] at hl;obtain ⟨k, q0, -, b0⟩ := LU t0.1 r0;obtain ⟨m, q1, -, b1⟩ := LU t1.1 r1;refine ⟨k, m, ?_, B3d _⟩;have e : cs = (cs.drop 0).take 1 ++ (cs.drop 1).take 1 := by
  match cs, hl with
  | [a, b], _ => rfl
 rw [e];exact Y6 (a := [_]) (BP rfl q0) (BP rfl q1)
def A3u (P : Program) (t : TypeId) : Prop := ∃ f0 f1 f2 : Field, P.underlying t = some (.struct #[f0, f1, f2]) /\ P.cellsOf t = 3 /\ (Nt P f0.type /\ f0.offset = 0) /\ (Nt P f1.type /\ f1.offset = 1) /\ (SliceAt P f2.type t /\ f2.offset = 2)
theorem A3u.cells (A : A3u P t) : P.cellsOf t = 3 := by obtain ⟨_, _, _, _, h, _⟩ := A; exact h
theorem B2C (A : A3u P t) : ∀ (fuel : Nat) (cs : List Value) (x : DataW H × List MemPlace), Rd enc P w held fuel t cs = some x -> ∃ a : Ty, RC (aX w) w.heap a.enc cs /\ a.size <= AP x.1 := by
 intro fuel
 induction fuel using Nat.strongRecOn with
 | ind fuel ih =>
   intro cs x hr;have A0 := A;obtain ⟨f0, f1, f2, hu, hc, ⟨t0, o0⟩, ⟨t1, o1⟩, t2, o2⟩ := A;obtain ⟨n, ds, rfl, hb, hl, hd, hf⟩ := jF hu hr;rw [hc] at hl;obtain ⟨y0, r0, d0⟩ := hf 0 f0 rfl;rw [o0, t0.2] at r0;obtain ⟨v0, q0, -, b0⟩ := LU t0.1 r0;obtain ⟨y1, r1, d1⟩ := hf 1 f1 rfl;rw [o1, t1.2] at r1;obtain ⟨v1, q1, -, b1⟩ := LU t1.1 r1;obtain ⟨y2, r2, d2⟩ := hf 2 f2 rfl;rw [o2, t2.2] at r2;obtain ⟨v2, q2, b2⟩ := Wo (sz := Ty.size) t2.1 (by rw [hc]; omega) (fun n' cs x hn h => ih n' (by omega) cs x h) r2
   rw [hc] at q2;refine ⟨.mk v0 v1 v2, ?_, ?_⟩
   ·rw [Ty.F8]
    simp only [RC, Ty.Bi, Ty.Ro, Ty.AZ];have e : cs = (cs.drop 0).take 1 ++ ((cs.drop 1).take 1 ++ ((cs.drop 2).take 1)) := by
     match cs, hl with
     | [c0, c1, c2], _ => rfl
    rw [e];exact (Y6 (a := [_]) (BP rfl q0) (Y6 (a := [_]) (BP rfl q1) (BP rfl q2)))
   ·rw [Ty.size_eq, hb]
    simp only [Ty.Bi, Ty.Ro, Ty.AZ];have hs : ds = [y0.1, y1.1, y2.1] := by
     have hd : ds.length = 3 := hd
     match ds, hd, d0, d1, d2 with
     | [a0, a1, a2], _, d0, d1, d2 => simp_all
    rw [hs];simp only [Gx];omega
def A4F (P : Program) (t : TypeId) : Prop := ∃ f0 f1 f2 f3 f4 f5 : Field, P.underlying t = some (.struct #[f0, f1, f2, f3, f4, f5]) /\ P.cellsOf t = 7 /\ (Nt P f0.type /\ f0.offset = 0) /\ (A4G P f1.type /\ f1.offset = 1) /\ (A0Y P f2.type /\ f2.offset = 3) /\ (Nt P f3.type /\ f3.offset = 4) /\ (A0Y P f4.type /\ f4.offset = 5) /\ (SliceAt P f5.type t /\ f5.offset = 6)
theorem A4F.cells (A : A4F P t) : P.cellsOf t = 7 := by obtain ⟨_, _, _, _, _, _, _, h, _⟩ := A; exact h
theorem B9r (A : A4F P t) : ∀ (fuel : Nat) (cs : List Value) (x : DataW H × List MemPlace), Rd enc P w held fuel t cs = some x -> ∃ a : D9, RC (aX w) w.heap a.enc cs /\ a.Y0 <= AP x.1 := by
 intro fuel
 induction fuel using Nat.strongRecOn with
 | ind fuel ih =>
   intro cs x hr;have A0 := A;obtain ⟨f0, f1, f2, f3, f4, f5, hu, hc, ⟨t0, o0⟩, ⟨t1, o1⟩, ⟨t2, o2⟩, ⟨t3, o3⟩, ⟨t4, o4⟩, t5, o5⟩ := A;obtain ⟨n, ds, rfl, hb, hl, hd, hf⟩ := jF hu hr;rw [hc] at hl;obtain ⟨y0, r0, d0⟩ := hf 0 f0 rfl;rw [o0, t0.2] at r0;obtain ⟨v0, q0, -, b0⟩ := LU t0.1 r0;obtain ⟨y1, r1, d1⟩ := hf 1 f1 rfl;obtain ⟨g10, g11, gu1, gc1, gr1⟩ := id t1;rw [o1, gc1] at r1;obtain ⟨v1, v1b, q1, b1⟩ := B1w t1 r1;obtain ⟨y2, r2, d2⟩ := hf 2 f2 rfl;rw [o2, t2.2] at r2;obtain ⟨v2, q2, b2⟩ := A0A t2.1 r2;obtain ⟨y3, r3, d3⟩ := hf 3 f3 rfl;rw [o3, t3.2] at r3;obtain ⟨v3, q3, -, b3⟩ := LU t3.1 r3;obtain ⟨y4, r4, d4⟩ := hf 4 f4 rfl;rw [o4, t4.2] at r4;obtain ⟨v4, q4, b4⟩ := A0A t4.1 r4;obtain ⟨y5, r5, d5⟩ := hf 5 f5 rfl;rw [o5, t5.2] at r5;obtain ⟨v5, q5, b5⟩ := Wo (sz := D9.Y0) t5.1 (by rw [hc]; omega) (fun n' cs x hn h => ih n' (by omega) cs x h) r5
   rw [hc] at q5;refine ⟨.mk v0 v1 v1b v2 v3 v4 v5, ?_, ?_⟩
   ·rw [D9.F8]
    simp only [RC, D9.Bi, D9.qW, D9.qP, D9.Sy, D9.Ro, D9.fD, D9.AZ];have e : cs = (cs.drop 0).take 1 ++ ((cs.drop 1).take 2 ++ ((cs.drop 3).take 1 ++ ((cs.drop 4).take 1 ++ ((cs.drop 5).take 1 ++ ((cs.drop 6).take 1))))) := by
     match cs, hl with
     | [c0, c1, c2, c3, c4, c5, c6], _ => rfl
    rw [e];exact (Y6 (a := [_]) (BP rfl q0) (Y6 (a := [_, _]) (q1) (Y6 (a := [_]) (BP rfl q2) (Y6 (a := [_]) (BP rfl q3) (Y6 (a := [_]) (BP rfl q4) (BP rfl q5))))))
   ·rw [D9.BQ, hb]
    simp only [D9.Bi, D9.qW, D9.qP, D9.Sy, D9.Ro, D9.fD, D9.AZ];have hs : ds = [y0.1, y1.1, y2.1, y3.1, y4.1, y5.1] := by
     have hd : ds.length = 6 := hd
     match ds, hd, d0, d1, d2, d3, d4, d5 with
     | [a0, a1, a2, a3, a4, a5], _, d0, d1, d2, d3, d4, d5 => simp_all
    rw [hs];simp only [Gx];omega
def B8l (P : Program) (t : TypeId) : Prop := ∃ f0 f1 f2 f3 f4 f5 f6 f7 f8 f9 f10 f11 f12 f13 f14 : Field, P.underlying t = some (.struct #[f0, f1, f2, f3, f4, f5, f6, f7, f8, f9, f10, f11, f12, f13, f14]) /\ P.cellsOf t = 20 /\ (Nt P f0.type /\ f0.offset = 0) /\ (A4G P f1.type /\ f1.offset = 1) /\ (A0Y P f2.type /\ f2.offset = 3) /\ (A0Y P f3.type /\ f3.offset = 4) /\ (Nt P f4.type /\ f4.offset = 5) /\ (A0Y P f5.type /\ f5.offset = 6) /\ (Nt P f6.type /\ f6.offset = 7) /\ (Nt P f7.type /\ f7.offset = 8) /\ (B23 P f8.type /\ f8.offset = 9) /\ (A79 P f9.type /\ f9.offset = 10) /\ (A3u P f10.type /\ f10.offset = 11) /\ (A3u P f11.type /\ f11.offset = 14) /\ ((∃ el, SliceAt P f12.type el /\ A3u P el) /\ f12.offset = 17) /\ ((∃ el, SliceAt P f13.type el /\ A4F P el) /\ f13.offset = 18) /\ (SliceAt P f14.type t /\ f14.offset = 19)
theorem C0C (A : B8l P t) : ∀ (fuel : Nat) (cs : List Value) (x : DataW H × List MemPlace), Rd enc P w held fuel t cs = some x -> ∃ a : Tm, RC (aX w) w.heap a.enc cs /\ a.Y0 <= AP x.1 := by
 intro fuel
 induction fuel using Nat.strongRecOn with
 | ind fuel ih =>
   intro cs x hr;have A0 := A;obtain ⟨f0, f1, f2, f3, f4, f5, f6, f7, f8, f9, f10, f11, f12, f13, f14, hu, hc, ⟨t0, o0⟩, ⟨t1, o1⟩, ⟨t2, o2⟩, ⟨t3, o3⟩, ⟨t4, o4⟩, ⟨t5, o5⟩, ⟨t6, o6⟩, ⟨t7, o7⟩, ⟨t8, o8⟩, ⟨t9, o9⟩, ⟨t10, o10⟩, ⟨t11, o11⟩, ⟨t12, o12⟩, ⟨t13, o13⟩, t14, o14⟩ := A;obtain ⟨n, ds, rfl, hb, hl, hd, hf⟩ := jF hu hr;rw [hc] at hl;obtain ⟨y0, r0, d0⟩ := hf 0 f0 rfl;rw [o0, t0.2] at r0;obtain ⟨v0, q0, -, b0⟩ := LU t0.1 r0;obtain ⟨y1, r1, d1⟩ := hf 1 f1 rfl;obtain ⟨g10, g11, gu1, gc1, gr1⟩ := id t1;rw [o1, gc1] at r1;obtain ⟨v1, v1b, q1, b1⟩ := B1w t1 r1;obtain ⟨y2, r2, d2⟩ := hf 2 f2 rfl;rw [o2, t2.2] at r2;obtain ⟨v2, q2, b2⟩ := A0A t2.1 r2;obtain ⟨y3, r3, d3⟩ := hf 3 f3 rfl;rw [o3, t3.2] at r3;obtain ⟨v3, q3, b3⟩ := A0A t3.1 r3;obtain ⟨y4, r4, d4⟩ := hf 4 f4 rfl;rw [o4, t4.2] at r4;obtain ⟨v4, q4, -, b4⟩ := LU t4.1 r4;obtain ⟨y5, r5, d5⟩ := hf 5 f5 rfl;rw [o5, t5.2] at r5;obtain ⟨v5, q5, b5⟩ := A0A t5.1 r5;obtain ⟨y6, r6, d6⟩ := hf 6 f6 rfl;rw [o6, t6.2] at r6;obtain ⟨v6, q6, -, b6⟩ := LU t6.1 r6;obtain ⟨y7, r7, d7⟩ := hf 7 f7 rfl;rw [o7, t7.2] at r7;obtain ⟨v7, q7, -, b7⟩ := LU t7.1 r7;obtain ⟨y8, r8, d8⟩ := hf 8 f8 rfl;rw [o8, t8.2] at r8;obtain ⟨v8, q8, b8⟩ := B7C t8.1 r8;obtain ⟨y9, r9, d9⟩ := hf 9 f9 rfl;obtain ⟨e9, s9, z9⟩ := id t9;rw [o9, s9.2] at r9;obtain ⟨v9, q9, b9⟩ := B7D t9 r9;obtain ⟨y10, r10, d10⟩ := hf 10 f10 rfl;rw [o10, t10.cells] at r10;obtain ⟨v10, q10, b10⟩ := B2C t10 _ _ _ r10;rw [Ty.F8] at q10;simp only [RC] at q10;obtain ⟨y11, r11, d11⟩ := hf 11 f11 rfl;rw [o11, t11.cells] at r11;obtain ⟨v11, q11, b11⟩ := B2C t11 _ _ _ r11;rw [Ty.F8] at q11;simp only [RC] at q11;obtain ⟨y12, r12, d12⟩ := hf 12 f12 rfl;obtain ⟨e12, s12, z12⟩ := t12;rw [o12, s12.2] at r12;obtain ⟨v12, q12, b12⟩ := Wo (sz := Ty.size) s12.1 (by rw [z12.cells]; omega) (fun n' cs x hn h => B2C z12 n' cs x h) r12
   rw [z12.cells] at q12;obtain ⟨y13, r13, d13⟩ := hf 13 f13 rfl;obtain ⟨e13, s13, z13⟩ := t13;rw [o13, s13.2] at r13;obtain ⟨v13, q13, b13⟩ := Wo (sz := D9.Y0) s13.1 (by rw [z13.cells]; omega) (fun n' cs x hn h => B9r z13 n' cs x h) r13
   rw [z13.cells] at q13;obtain ⟨y14, r14, d14⟩ := hf 14 f14 rfl;rw [o14, t14.2] at r14;obtain ⟨v14, q14, b14⟩ := Wo (sz := Tm.Y0) t14.1 (by rw [hc]; omega) (fun n' cs x hn h => ih n' (by omega) cs x h) r14
   rw [hc] at q14;refine ⟨.mk v0 v1 v1b v2 v3 v4 v5 v6 v7 v8 v9 v10 v11 v12 v13 v14, ?_, ?_⟩
   ·rw [Tm.F8]
    simp only [RC, Tm.Bi, Tm.qW, Tm.qP, Tm.Sy, Tm.xe, Tm.Ro, Tm.fD, Tm.A76, Tm.eG, Tm.A0r, Tm.A1p, Tm.A8f, Tm.A8i, Tm.A00, Tm.oL, Tm.AZ];have e : cs = (cs.drop 0).take 1 ++ ((cs.drop 1).take 2 ++ ((cs.drop 3).take 1 ++ ((cs.drop 4).take 1 ++ ((cs.drop 5).take 1 ++ ((cs.drop 6).take 1 ++ ((cs.drop 7).take 1 ++ ((cs.drop 8).take 1 ++ ((cs.drop 9).take 1 ++ ((cs.drop 10).take 1 ++ ((cs.drop 11).take 3 ++ ((cs.drop 14).take 3 ++ ((cs.drop 17).take 1 ++ ((cs.drop 18).take 1 ++ ((cs.drop 19).take 1)))))))))))))) := by
     match cs, hl with
     | [c0, c1, c2, c3, c4, c5, c6, c7, c8, c9, c10, c11, c12, c13, c14, c15, c16, c17, c18, c19], _ => rfl
    rw [e];exact (Y6 (a := [_]) (BP rfl q0) (Y6 (a := [_, _]) (q1) (Y6 (a := [_]) (BP rfl q2) (Y6 (a := [_]) (BP rfl q3) (Y6 (a := [_]) (BP rfl q4) (Y6 (a := [_]) (BP rfl q5) (Y6 (a := [_]) (BP rfl q6) (Y6 (a := [_]) (BP rfl q7) (Y6 (a := [_]) (BP rfl q8) (Y6 (a := [_]) (BP rfl q9) (Y6 (a := [_, _, _]) (q10) (Y6 (a := [_, _, _]) (q11) (Y6 (a := [_]) (BP rfl q12) (Y6 (a := [_]) (BP rfl q13) (BP rfl q14)))))))))))))))
   ·rw [Tm.BQ, hb]
    simp only [Tm.Bi, Tm.qW, Tm.qP, Tm.Sy, Tm.xe, Tm.Ro, Tm.fD, Tm.A76, Tm.eG, Tm.A0r, Tm.A1p, Tm.A8f, Tm.A8i, Tm.A00, Tm.oL, Tm.AZ];have hs : ds = [y0.1, y1.1, y2.1, y3.1, y4.1, y5.1, y6.1, y7.1, y8.1, y9.1, y10.1, y11.1, y12.1, y13.1, y14.1] := by
     have hd : ds.length = 15 := hd
     match ds, hd, d0, d1, d2, d3, d4, d5, d6, d7, d8, d9, d10, d11, d12, d13, d14 with
     | [a0, a1, a2, a3, a4, a5, a6, a7, a8, a9, a10, a11, a12, a13, a14], _, d0, d1, d2, d3, d4, d5, d6, d7, d8, d9, d10, d11, d12, d13, d14 => simp_all
    rw [hs];simp only [Gx];omega
end
end Go.Su
