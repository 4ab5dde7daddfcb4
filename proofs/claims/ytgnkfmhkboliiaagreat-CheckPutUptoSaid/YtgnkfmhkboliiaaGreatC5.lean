/-
  Parts of the proof, merged: It, K0, J0, G1, G2, G3, G4, G5, G6, T0.
-/
import Derived.Handy
import Derived.KernelRfl
import Derived.LoopNIn
import Derived.OwnWalkIn
import Derived.RangeFuncBound
import Derived.RangeFuncKeeps
import Derived.RangeFuncLeaves
import Derived.Shelf.Abstract
import Derived.Shelf.Sort.Plain
import Derived.TacticsInMore
import Derived.Test.YtgnkfmhkboliiaaGreatProg
import Derived.WalkKit
import Derived.Test.YtgnkfmhkboliiaaGreatC3
import Derived.Test.YtgnkfmhkboliiaaGreatC4
set_option linter.unusedVariables false
set_option linter.unusedSimpArgs false
/-
 The program's iterators keep their word: by program.
-/
namespace Go.Su
open Go.Proofs Go.RowKit Go.Shelf
attribute [local go_sem] Oper.semAt_some
set_option linter.unusedSimpArgs false
set_option linter.unusedVariables false
theorem room_none {F : Fence} (hd : F.depth = none) (k : Nat) : F.room k := fun d h => by rw [hd] at h; cases h
theorem RoundIn.anyD {F : Fence} (hd : F.depth = none) {m m' : Nat} {P : Program} {l : Nat} {f : FuncId} {tmps : Array Value} {assign body : Code} {w : World} {R : Ending → World → Prop}
 (h : RoundIn F m P l f tmps assign body w R) : RoundIn F m' P l f tmps assign body w R := ⟨h.1, fun c cs _ => h.2 c cs (room_none hd _)⟩
set_option maxHeartbeats 1000000 in
theorem mk_pats : MkOk Tryz.prog 168 194 7 := by
 intro w vs hs
 obtain ⟨l⟩ := vs
 match l, hs with
 | [v0, v1, v2, v3, v4, v5, v6], _ =>
 refine (callsIn_wide (n := 1)).1 (callsIn_of_wp Tryz.func168 rfl trivial ?_)
 simp only [Tryz.ntmps168, List.size_toArray, List.length_cons, List.length_nil, Nat.reduceAdd, Nat.reduceSub, Array.replicate_succ, Array.replicate_zero, List.push_toArray, List.append_toArray, List.nil_append, List.cons_append]
 gi_wp2
 go_ret
 exact ⟨rfl, _, rfl⟩
set_option maxRecDepth 10000 in
set_option maxHeartbeats 4000000 in
theorem go_pats (l n0 : Nat) (ds : List DV) (J : Nat → Env → World → Prop) (Jx : World → Prop) (n : Nat)
 (hf : ∀ k E' W', J k E' W' → ∀ b o, W'.heap.size ≤ b → E'.O b o = .other)
 (hI : ∀ k E' W1 W2, J k E' W1 → ItLe n0 E' W1 W2 → J k E' W2)
 (hY : ∀ k E' W1 d v, J k E' W1 → ds[k]? = some d → RV E'.S W1.heap d v → YieldAt Fence.wide n Tryz.prog l #[v] W1 fun e W2 =>
   (e = .returned (.bool true) ∧ ∃ E2, J (k + 1) E2 W2 ∧ Pr Ours E' W1.heap E2 W2.heap) ∨ (e = .returned (.bool false) ∧ Jx W2)) :
 ∀ (m : Nat) (d : DV) (sub : List DV), flatN 7 6 m d = some sub → ∀ (k : Nat) (E : Env) (W : World) (v : Value), J k E W → RV E.S W.heap d v → (∀ j x, sub[j]? = some x → ds[k + j]? = some x) → n0 ≤ W.heap.size →
   CallsIn Fence.wide n Tryz.prog 195 #[v, .func (.yield l) #[] #[]] W fun e W' => (e = .returned (.bool true) ∧ ∃ E', J (k + sub.length) E' W' ∧ Kpt E W E' W') ∨ (e = .returned (.bool false) ∧ Jx W') := by
 intro m
 induction m with
 | zero => intro d sub h; simp [flatN] at h
 | succ m ih =>
   intro d sub hsub k E W v hJ hv hin hn0
   cases d with
   | agg cs =>
     rw [flatN] at hsub
     obtain ⟨h1, hsub⟩ := og_some hsub
     cases hk : cs.getD 6 .undef with
     | list s kds =>
       rw [hk] at hsub
       simp only at hsub
       obtain ⟨h2, hsub⟩ := og_some hsub
       obtain ⟨ks, h3, hsub⟩ := ob_some hsub
       simp only [Option.some.injEq] at hsub
       subst hsub
       simp only [beq_iff_eq, Bool.and_eq_true, decide_eq_true_eq] at h1 h2
       obtain ⟨h2, hlim⟩ := h2
       subst h2
       have hv0 := hv
       simp only [RV] at hv0
       obtain ⟨vs, rfl, hvs⟩ := hv0
       obtain ⟨hl, hvs⟩ := RLs_iff.1 hvs
       obtain ⟨l', rfl⟩ : ∃ l' : List Value, vs = l'.toArray := ⟨vs.toList, by simp⟩
       simp only at hl hvs
       match l', hl.symm.trans h1 with
       | [v0, v1, v2, v3, v4, v5, v6], _ =>
       have hk5 : cs[6]? = some (.list 7 kds) := by
        have : 6 < cs.length := by omega
        rw [List.getD_eq_getElem?_getD, List.getElem?_eq_getElem this] at hk
        rw [List.getElem?_eq_getElem this]
        exact congrArg some hk
       have hkc := (hvs 6 _ v6 hk5 rfl).2
       simp only [RC] at hkc
       obtain ⟨ka, len, cap, h4, h5, h6, h7, h8, h9⟩ := hkc
       simp only [List.cons.injEq, and_true] at h4
       subst h4 h5
       have hdd : ∀ k : Nat, (Fence.wide.depth.isSome = true → 1 ≤ k) := fun k h => by cases h
       have ho : ∀ o, E.O W.heap.size o = .other := fun o => hf k E W hJ _ o (Nat.le_refl _)
       have key : ∀ T, ∃ fy ty ay by_, (Instr.yield l #[.agg #[v0, v1, v2, v3, v4, v5, .slice ka kds.length cap]]).run Tryz.prog (W.alloc (.cells #[v0, v1, v2, v3, v4, v5, .slice ka kds.length cap] T)) = .ok (.round l fy ty ay by_) (W.alloc (.cells #[v0, v1, v2, v3, v4, v5, .slice ka kds.length cap] T)) ∧
        RoundIn Fence.wide (n - 1) Tryz.prog l fy ty ay by_ (W.alloc (.cells #[v0, v1, v2, v3, v4, v5, .slice ka kds.length cap] T)) fun e W2 =>
         (e = .returned (.bool true) ∧ ∃ E2, J (k + 1) E2 W2 ∧ Kpt E W E2 W2 ∧ (W2.heap[W.heap.size]? = some (.cells #[v0, v1, v2, v3, v4, v5, .slice ka kds.length cap] T (0, 0)) ∧ (∀ o, E2.O W.heap.size o = .other)) ∧ W2.cell? ⟨W.heap.size, 6, none⟩ = some (.slice ka kds.length cap)) ∨ (e = .returned (.bool false) ∧ Jx W2) := by
        intro T
        have hJ1 : J k E (W.alloc (.cells #[v0, v1, v2, v3, v4, v5, .slice ka kds.length cap] T)) := hI _ _ _ _ hJ (ItLe.alloc _)
        have K1 := Kpt.alloc (E := E) (W := W) (.cells #[v0, v1, v2, v3, v4, v5, .slice ka kds.length cap] T) (hf k E W hJ)
        obtain ⟨fy, ty, ay, by_, hy, hR⟩ := hY k E _ (.agg cs) _ hJ1 (hin 0 _ rfl) (RV.mono K1.sh _ hv)
        refine ⟨fy, ty, ay, by_, hy, RoundIn.anyD rfl (RoundIn.mono hR ?_)⟩
        rintro e W2 (⟨rfl, E2, hJ2, hP2⟩ | ⟨rfl, hx⟩)
        ·have K2 := Kpt.of_pr hP2 (hf _ _ _ hJ1)
         have hb := K2.blk W.heap.size (by simp) ho
         rw [World.alloc_heap_new] at hb
         refine .inl ⟨rfl, E2, hJ2, K1.trans K2, hb, ?_⟩
         simp [World.cell?, hb.1]
        ·exact .inr ⟨rfl, hx⟩
       obtain ⟨fy, ty, ay, by_, hy, hR⟩ := key 81
       refine callsIn_of_wp Tryz.func195 rfl trivial ?_
       simp only [Tryz.ntmps195, List.size_toArray, List.length_cons, List.length_nil, Nat.reduceAdd, Nat.reduceSub, Array.replicate_succ, Array.replicate_zero, List.push_toArray, List.append_toArray, List.nil_append, List.cons_append]
       gi_wp2_with ((try refine ⟨hdd _, ?_⟩); refine hR.mono ?_; clear hR; rintro e W2 (⟨rfl, E2, hJ2, hK2, hb2, hc2⟩ | ⟨rfl, hx2⟩))
       ·-- the kids, one by one
        refine wpIn_loop_rounds (kds.length + 1) ?_
        refine (?loop : ∀ (r i : Nat) (pre rs : List DV) (E3 : Env) (w : World) (x6 x15 x16 x17 x18 x19 x20 x21 x22 : Value), i + r = kds.length → flatL (flatN 7 6 m) (kds.drop i) = some rs → ks = pre ++ rs → J (k + 1 + pre.length) E3 w → Kpt E W E3 w →
         Code.roundsIn Fence.wide n Tryz.prog _ _ (r + 1) { tmps := #[.agg #[v0, v1, v2, v3, v4, v5, .slice ka kds.length cap], .func (.yield l) #[] #[], .pointer (some { block := W.heap.size, off := 0 }), undef, .bool false, undef, x6,
          .func (.yield l) #[] #[], .agg #[v0, v1, v2, v3, v4, v5, .slice ka kds.length cap], .bool true, .bool false, .pointer (some { block := W.heap.size, off := 6 }), .slice ka kds.length cap, .int .i64 (kds.length : Int), .int .i64 (i : Int), x15, x16, x17, x18, x19, x20, x21, x22], defers := [] } w)
         kds.length 0 [] ks E2 W2 undef undef undef undef undef undef undef undef undef (by simp) h3 rfl hJ2 hK2
        clear hJ2 hK2 hb2 hc2 hy key hJ
        intro r
        induction r with
        | zero =>
          intro i pre rs E3 w x6 x15 x16 x17 x18 x19 x20 x21 x22 hi hrs hks hJ3 hK3
          have hi' : i = kds.length := by omega
          have hi'' : (i : Int) = (kds.length : Int) := by omega
          rw [roundsIn_succ]
          rw [hi'']
          have hlt : ¬ ((kds.length : Int) < (kds.length : Int)) := by omega
          gi_wp2
          go_ret
          rw [hi', List.drop_length, flatL] at hrs
          simp only [Option.some.injEq] at hrs
          subst hrs
          refine .inl ⟨rfl, E3, ?_, hK3⟩
          rw [show k + (pre.length + ([] : List DV).length + 1) = k + 1 + pre.length by simp; omega]
          exact hJ3
        | succ r ihr =>
          intro i pre rs E3 w x6 x15 x16 x17 x18 x19 x20 x21 x22 hi hrs hks hJ3 hK3
          rw [roundsIn_succ]
          have hlt : ((i : Int) < (kds.length : Int)) := by omega
          have hil : i < kds.length := by omega
          obtain ⟨xa, rfl⟩ : ∃ xa, ka = some xa := by
           cases ka with
           | none => have := h7 rfl; omega
           | some xa => exact ⟨xa, rfl⟩
          obtain ⟨h10, h11⟩ := h9 xa rfl
          obtain ⟨xb, xo, xs⟩ := xa
          have h10 := h10 (by omega)
          simp only at h10 h11
          subst h10
          obtain ⟨us, hu1, hu2, hu3⟩ := RElems_iff.1 h11 i _ (List.getElem?_eq_getElem hil)
          have hu4 := hu2.mono hK3.sh
          match us, hu1 with
          | [u0, u1, u2, u3, u4, u5, u6], _ =>
          have cc : ∀ (j : Nat) (u : Value), [u0, u1, u2, u3, u4, u5, u6][j]? = some u → w.cell? ⟨xb, xo + i * 7 + j, none⟩ = some u := fun j u hj => by rw [cell_hc]; exact (hu4 j u hj).1
          have c0 : w.cell? ⟨xb, xo + i * 7, none⟩ = some u0 := cc 0 u0 rfl
          have c1 := cc 1 u1 rfl
          have c2 := cc 2 u2 rfl
          have c3 := cc 3 u3 rfl
          have c4 := cc 4 u4 rfl
          have c5 := cc 5 u5 rfl
          have c6 := cc 6 u6 rfl
          have ou : ∀ (j : Nat) (u : Value), [u0, u1, u2, u3, u4, u5, u6][j]? = some u → u.oneCell' = true := fun j u hj => (RC_proj hu3 hj).elim fun h1 h2 => RC_one h1 h2
          have e0 : u0.oneCell' = true := ou 0 u0 rfl
          have e1 : u1.oneCell' = true := ou 1 u1 rfl
          have e2 : u2.oneCell' = true := ou 2 u2 rfl
          have e3 : u3.oneCell' = true := ou 3 u3 rfl
          have e4 : u4.oneCell' = true := ou 4 u4 rfl
          have e5 : u5.oneCell' = true := ou 5 u5 rfl
          have e6 : u6.oneCell' = true := ou 6 u6 rfl
          obtain ⟨w1, s0, b0, r0, z0, o0⟩ := store_one (P := Tryz.prog) (j := 0) (World.alloc_heap_new w (.cells #[.int .i64 0, .int .i64 0, .int .i64 0, .string ⟨#[]⟩, .int .i64 0, .string ⟨#[]⟩, .slice none 0 0] 81)) (by simp) e0
          obtain ⟨w2, s1, b1, r1, z1, o1⟩ := store_one (P := Tryz.prog) (j := 1) b0 (by simp) e1
          obtain ⟨w3, s2, b2, r2, z2, o2⟩ := store_one (P := Tryz.prog) (j := 2) b1 (by simp) e2
          obtain ⟨w4, s3, b3, r3, z3, o3⟩ := store_one (P := Tryz.prog) (j := 3) b2 (by simp) e3
          obtain ⟨w5, s4, b4, r4, z4, o4⟩ := store_one (P := Tryz.prog) (j := 4) b3 (by simp) e4
          obtain ⟨w6, s5, b5, r5, z5, o5⟩ := store_one (P := Tryz.prog) (j := 5) b4 (by simp) e5
          obtain ⟨w7, s6, b6, r6, z6, o6⟩ := store_one (P := Tryz.prog) (j := 6) b5 (by simp) e6
          simp only [List.setIfInBounds_toArray, List.set_cons_zero, List.set_cons_succ] at b0 b1 b2 b3 b4 b5 b6
          have dd : ∀ (j : Nat) (u : Value), [u0, u1, u2, u3, u4, u5, u6][j]? = some u → w7.cell? ⟨w.heap.size, j, none⟩ = some u := fun j u hj => by rw [cell_hc]; simp only [hc, b6]; simpa using hj
          have d0 := dd 0 u0 rfl
          have d1 := dd 1 u1 rfl
          have d2 := dd 2 u2 rfl
          have d3 := dd 3 u3 rfl
          have d4 := dd 4 u4 rfl
          have d5 := dd 5 u5 rfl
          have d6 := dd 6 u6 rfl
          have low : ∀ b, b < w.heap.size → w7.heap[b]? = w.heap[b]? := fun b hb => by
           rw [r6 b (by omega), r5 b (by omega), r4 b (by omega), r3 b (by omega), r2 b (by omega), r1 b (by omega), r0 b (by omega)]
           exact Below.heap_alloc _ _ _ hb
          have hz : w.heap.size ≤ w7.heap.size := by rw [z6, z5, z4, z3, z2, z1, z0]; simp
          have hout : Outer w w7 := Outer.trans (b := w1) (Outer.trans (b := w.alloc (.cells #[.int .i64 0, .int .i64 0, .int .i64 0, .string ⟨#[]⟩, .int .i64 0, .string ⟨#[]⟩, .slice none 0 0] 81)) ⟨rfl, rfl, rfl⟩ o0) ((((((o1).trans o2).trans o3).trans o4).trans o5).trans o6)
          have hfr := hf _ _ _ hJ3
          have K7 : Kpt E3 w E3 w7 := Kpt.same hz low hfr
          have hJ7 := hI _ _ _ _ hJ3 (ItLe.same hz low hout)
          rw [List.drop_eq_getElem_cons hil, flatL] at hrs
          obtain ⟨sa, hsa, hrs⟩ := ob_some hrs
          obtain ⟨sb, hsb, hrs⟩ := ob_some hrs
          simp only [Option.some.injEq] at hrs
          subst hrs
          have h120 : Fence.wide.fn 195 := trivial
          have hcall : CallsIn Fence.wide (n - 1) Tryz.prog 195 _ w7 _ := callsIn_wide.2 (callsIn_wide.1 (ih _ sa hsa (k + 1 + pre.length) E3 w7 (.agg #[u0, u1, u2, u3, u4, u5, u6]) hJ7 (RV.mono (hK3.trans K7).sh _ (flat_agg hsa hu3)) (flat_at hin hks) (by have := hK3.size; omega)))
          clear ih
          gi_wp2_with ((try refine ⟨hdd _, ?_⟩); gi_at_call 195; refine hcall.mono ?_; clear hcall; rintro e wz (⟨rfl, E4, hJ4, hK4⟩ | ⟨rfl, hx⟩))
          ·rw [show wrap64 ((i : Int) + 1) = ((i + 1 : Nat) : Int) by unfold lim at hlim; rw [wrap64]; omega]
           exact ihr (i + 1) (pre ++ sa) sb E4 wz _ _ _ _ _ _ _ _ _ (by omega) hsb (by rw [hks, List.append_assoc]) (by rw [List.length_append, ← Nat.add_assoc]; exact hJ4) ((hK3.trans K7).trans hK4)
          ·go_ret
           exact .inr ⟨rfl, hx⟩
       ·go_ret
        exact .inr ⟨rfl, hx2⟩
     | _ => rw [hk] at hsub; simp at hsub
   | _ => simp [flatN] at hsub
set_option maxHeartbeats 1000000 in
theorem it_pats : IterOk Tryz.prog 194 (flatD 7 6) := by
 intro cs ds hds n l b c T0 J Jx E W hb ho hR hf hI hY h0
 obtain ⟨m, hm⟩ := flatD_some hds
 have hlen : cs.length = 7 := by
  cases m with
  | zero => simp [flatN] at hm
  | succ m =>
    rw [flatN] at hm
    obtain ⟨h1, -⟩ := og_some hm
    simpa using h1
 have hlc := (RLs_iff.1 hR).1
 obtain ⟨l', rfl⟩ : ∃ l' : List Value, c = l'.toArray := ⟨c.toList, by simp⟩
 simp only at hR hlc
 match l', hlc.symm.trans hlen with
 | [v0, v1, v2, v3, v4, v5, v6], _ =>
 have cc : ∀ (j : Nat) (u : Value), [v0, v1, v2, v3, v4, v5, v6][j]? = some u → W.cell? ⟨b, j, none⟩ = some u := fun j u hj => by rw [cell_hc]; simp only [hc, hb]; simpa using hj
 have c0 := cc 0 v0 rfl
 have c1 := cc 1 v1 rfl
 have c2 := cc 2 v2 rfl
 have c3 := cc 3 v3 rfl
 have c4 := cc 4 v4 rfl
 have c5 := cc 5 v5 rfl
 have c6 := cc 6 v6 rfl
 have hgo : CallsIn Fence.wide (n - 1) Tryz.prog 195 _ W _ := callsIn_wide.2 (callsIn_wide.1 (go_pats l W.heap.size ds J Jx n hf hI hY m (.agg cs) ds hm 0 E W (.agg #[v0, v1, v2, v3, v4, v5, v6]) h0 (by simp only [RV]; exact ⟨_, rfl, hR⟩) (fun j x h => by rw [Nat.zero_add]; exact h) (Nat.le_refl _)))
 have h120 : Fence.wide.fn 195 := trivial
 have hdd : ∀ k : Nat, (Fence.wide.depth.isSome = true → 1 ≤ k) := fun k h => by cases h
 refine callsIn_of_wp Tryz.func194 rfl trivial ?_
 simp only [Tryz.ntmps194, List.size_toArray, List.length_cons, List.length_nil, Nat.reduceAdd, Nat.reduceSub, Array.replicate_succ, Array.replicate_zero, List.push_toArray, List.append_toArray, List.nil_append, List.cons_append]
 gi_wp2_with ((try refine ⟨hdd _, ?_⟩); gi_at_call 195; refine hgo.mono ?_; clear hgo; rintro e w2 (⟨rfl, E4, hJ4, -⟩ | ⟨rfl, hx⟩))
 ·go_end0
  exact ⟨⟨_, rfl⟩, .inl ⟨E4, by simpa using hJ4⟩⟩
 ·go_end0
  exact ⟨⟨_, rfl⟩, .inr hx⟩
noncomputable def cl_166 : ClP where
 i0 := 0
 i1 := 1
 i2 := 2
 i3 := 3
 r0 := (opR (Tryz.f166.body.getD .skip) [false] 0)
 r1 := (opR (Tryz.f166.body.getD .skip) [true, false, false] 0)
 r2 := (opR (Tryz.f166.body.getD .skip) [true, false, false] 1)
 r3 := (opR (Tryz.f166.body.getD .skip) [true, false, true, false, false] 0)
 r4 := (opR (Tryz.f166.body.getD .skip) [true, true, false] 0)
 r5 := (opR (Tryz.f166.body.getD .skip) [true, true, false] 1)
 r6 := (opR (Tryz.f166.body.getD .skip) [true, true, false] 2)
 r7 := (opR (Tryz.f166.body.getD .skip) [true, true, false] 3)
 ts := 64
 ty := ytOf (Tryz.f166.body.getD .skip) [true, false, false] 1
theorem clone_166 : CloneOk Tryz.prog 166 20 := clone_ok (q := cl_166) (by kernel_rfl) Tryz.func166 (by kernel_rfl) (by kernel_rfl) (by kernel_rfl)
noncomputable def cl_191 : ClP where
 i0 := 0
 i1 := 1
 i2 := 2
 i3 := 3
 r0 := (opR (Tryz.f191.body.getD .skip) [false] 0)
 r1 := (opR (Tryz.f191.body.getD .skip) [true, false, false] 0)
 r2 := (opR (Tryz.f191.body.getD .skip) [true, false, false] 1)
 r3 := (opR (Tryz.f191.body.getD .skip) [true, false, true, false, false] 0)
 r4 := (opR (Tryz.f191.body.getD .skip) [true, true, false] 0)
 r5 := (opR (Tryz.f191.body.getD .skip) [true, true, false] 1)
 r6 := (opR (Tryz.f191.body.getD .skip) [true, true, false] 2)
 r7 := (opR (Tryz.f191.body.getD .skip) [true, true, false] 3)
 ts := 24
 ty := ytOf (Tryz.f191.body.getD .skip) [true, false, false] 1
theorem clone_191 : CloneOk Tryz.prog 191 3 := clone_ok (q := cl_191) (by kernel_rfl) Tryz.func191 (by kernel_rfl) (by kernel_rfl) (by kernel_rfl)
noncomputable def cl_207 : ClP where
 i0 := 0
 i1 := 1
 i2 := 2
 i3 := 3
 r0 := (opR (Tryz.f207.body.getD .skip) [false] 0)
 r1 := (opR (Tryz.f207.body.getD .skip) [true, false, false] 0)
 r2 := (opR (Tryz.f207.body.getD .skip) [true, false, false] 1)
 r3 := (opR (Tryz.f207.body.getD .skip) [true, false, true, false, false] 0)
 r4 := (opR (Tryz.f207.body.getD .skip) [true, true, false] 0)
 r5 := (opR (Tryz.f207.body.getD .skip) [true, true, false] 1)
 r6 := (opR (Tryz.f207.body.getD .skip) [true, true, false] 2)
 r7 := (opR (Tryz.f207.body.getD .skip) [true, true, false] 3)
 ts := 182
 ty := ytOf (Tryz.f207.body.getD .skip) [true, false, false] 1
theorem clone_207 : CloneOk Tryz.prog 207 4 := clone_ok (q := cl_207) (by kernel_rfl) Tryz.func207 (by kernel_rfl) (by kernel_rfl) (by kernel_rfl)
end Go.Su

/-
 A map's keys, collected and sorted: the program's code and the library's sort keep their word.
-/
namespace Go.Su
open Go.Proofs Go.RowKit Go.Shelf
set_option linter.unusedSimpArgs false
set_option linter.unusedVariables false
def sortRen : Ren where
 f x := match x with
   | 190 => 134
   | 125 => 164
   | 258 => 163
   | 128 => 189
   | 129 => 190
   | 302 => 180
   | 303 => 181
   | 304 => 182
   | 305 => 183
   | 306 => 184
   | 307 => 185
   | 308 => 186
   | 309 => 187
   | 310 => 188
   | 333 => 200
   | 329 => 201
   | 330 => 202
   | 334 => 203
   | 335 => 204
   | 336 => 205
   | 344 => 210
   | n => n
 t x := match x with
   | 31 => 61
   | 9 => 9
   | 3 => 3
   | 46 => 100
   | 0 => 0
   | 51 => 223
   | 53 => 225
   | 4 => 4
   | 183 => 216
   | 182 => 215
   | 131 => 209
   | 5 => 5
   | 218 => 231
   | 222 => 235
   | 228 => 240
   | 229 => 241
   | n => n
 g x := x
theorem sortLays : Lays.n190 Tryz.prog sortRen where
 mixed := by kernel_rfl
 f125 := Tryz.func164.trans (by kernel_rfl)
 f128 := Tryz.func189.trans (by kernel_rfl)
 f129 := Tryz.func190.trans (by kernel_rfl)
 f190 := Tryz.func134.trans (by kernel_rfl)
 f258 := Tryz.func163.trans (by kernel_rfl)
 f302 := Tryz.func180.trans (by kernel_rfl)
 f303 := Tryz.func181.trans (by kernel_rfl)
 f304 := Tryz.func182.trans (by kernel_rfl)
 f305 := Tryz.func183.trans (by kernel_rfl)
 f306 := Tryz.func184.trans (by kernel_rfl)
 f307 := Tryz.func185.trans (by kernel_rfl)
 f308 := Tryz.func186.trans (by kernel_rfl)
 f309 := Tryz.func187.trans (by kernel_rfl)
 f310 := Tryz.func188.trans (by kernel_rfl)
 f329 := Tryz.func201.trans (by kernel_rfl)
 f330 := Tryz.func202.trans (by kernel_rfl)
 f333 := Tryz.func200.trans (by kernel_rfl)
 f334 := Tryz.func203.trans (by kernel_rfl)
 f335 := Tryz.func204.trans (by kernel_rfl)
 f336 := Tryz.func205.trans (by kernel_rfl)
 f344 := Tryz.func210.trans (by kernel_rfl)
 t0 := Tryz.underlying0
 a0 := Tryz.isAgg0
 z0 := Tryz.sizeOf0
 v0 := Tryz.zeroValue0
 t3 := Tryz.underlying3
 a3 := Tryz.isAgg3
 z3 := Tryz.sizeOf3
 v3 := Tryz.zeroValue3
 t4 := Tryz.underlying4
 a4 := Tryz.isAgg4
 z4 := Tryz.sizeOf4
 v4 := Tryz.zeroValue4
 t5 := Tryz.underlying5
 a5 := Tryz.isAgg5
 z5 := Tryz.sizeOf5
 v5 := Tryz.zeroValue5
 t9 := Tryz.underlying9
 a9 := Tryz.isAgg9
 z9 := Tryz.sizeOf9
 v9 := Tryz.zeroValue9
 t31 := Tryz.underlying61
 a31 := Tryz.isAgg61
 z31 := Tryz.sizeOf61
 v31 := Tryz.zeroValue61
 t46 := Tryz.underlying100
 a46 := Tryz.isAgg100
 z46 := Tryz.sizeOf100
 v46 := Tryz.zeroValue100
 t51 := Tryz.underlying223
 a51 := Tryz.isAgg223
 z51 := Tryz.sizeOf223
 v51 := Tryz.zeroValue223
 t53 := Tryz.underlying225
 a53 := Tryz.isAgg225
 z53 := Tryz.sizeOf225
 v53 := Tryz.zeroValue225
 t131 := Tryz.underlying209
 a131 := Tryz.isAgg209
 z131 := Tryz.sizeOf209
 v131 := Tryz.zeroValue209
 t182 := Tryz.underlying215
 a182 := Tryz.isAgg215
 z182 := Tryz.sizeOf215
 v182 := Tryz.zeroValue215
 t183 := Tryz.underlying216
 a183 := Tryz.isAgg216
 z183 := Tryz.sizeOf216
 v183 := Tryz.zeroValue216
 t218 := Tryz.underlying231
 a218 := Tryz.isAgg231
 z218 := Tryz.sizeOf231
 v218 := Tryz.zeroValue231
 t222 := Tryz.underlying235
 a222 := Tryz.isAgg235
 z222 := Tryz.sizeOf235
 v222 := Tryz.zeroValue235
 t228 := Tryz.underlying240
 a228 := Tryz.isAgg240
 z228 := Tryz.sizeOf240
 v228 := Tryz.zeroValue240
 t229 := Tryz.underlying241
 a229 := Tryz.isAgg241
 z229 := Tryz.sizeOf241
 v229 := Tryz.zeroValue241
theorem len8_0 : Lib.len8 0 = 0 := by kernel_rfl
theorem len64_0 (w : World) : Calls Tryz.prog 190 #[.int .u64 0] w fun e w' => e = .returned (.int .i64 0) ∧ w' = w := by
 go_enter Tryz.func190, Tryz.ntmps190
 go_wp2
 go_ret
 exact ⟨congrArg Ending.returned (show Value.int .i64 (wrap64 (wrap64 (Lib.len8 0))) = .int .i64 0 by rw [len8_0]; simp [wrap64]), rfl⟩
theorem len_0 (w : World) : Calls Tryz.prog 164 #[.int .u64 0] w fun e w' => e = .returned (.int .i64 0) ∧ w' = w := by
 go_enter Tryz.func164, Tryz.ntmps164
 go_wp2_with (go_at_call 190; refine (len64_0 _).mono ?_; rintro e w1 ⟨rfl, rfl⟩)
 go_ret
 exact ⟨rfl, rfl⟩
theorem ins_0 (p : Option Addr) (cap : Nat) (w : World) : Calls Tryz.prog 180 #[.slice p 0 cap, .int .i64 0, .int .i64 0] w fun e w' => e = .returned (.tuple #[]) ∧ w' = w := by
 go_enter Tryz.func180, Tryz.ntmps180
 go_wp2
 refine wp_loop (fun a' w' => a' = _ ∧ w' = _) (fun _ _ => 0) ⟨rfl, rfl⟩ ?_
 rintro _ _ ⟨rfl, rfl⟩
 go_wp2
 go_returns
 exact ⟨rfl, rfl⟩
theorem pdq_0 (p : Option Addr) (cap : Nat) (w : World) : Calls Tryz.prog 163 #[.slice p 0 cap, .int .i64 0, .int .i64 0, .int .i64 0] w fun e w' => e = .returned (.tuple #[]) ∧ w' = w := by
 go_enter Tryz.func163, Tryz.ntmps163
 go_wp2
 refine wp_loop (fun a' w' => a' = _ ∧ w' = _) (fun _ _ => 0) ⟨rfl, rfl⟩ ?_
 rintro _ _ ⟨rfl, rfl⟩
 go_wp2_with (go_at_call 180; refine (ins_0 _ _ _).mono ?_; rintro e w1 ⟨rfl, rfl⟩)
 go_returns
 exact ⟨rfl, rfl⟩
theorem sort_0 (p : Option Addr) (cap : Nat) (w : World) : Calls Tryz.prog 134 #[.slice p 0 cap] w fun e w' => e = .returned (.tuple #[]) ∧ w' = w := by
 go_enter Tryz.func134, Tryz.ntmps134
 go_wp2_with (first | (go_at_call 164; refine (len_0 _).mono ?_; rintro e w1 ⟨rfl, rfl⟩) | (go_at_call 163; refine (pdq_0 _ _ _).mono ?_; rintro e w1 ⟨rfl, rfl⟩))
 go_returns
 exact ⟨rfl, rfl⟩
theorem kp_ok_term_Free : KP.Ok Tryz.prog kp_term_Free where
 nodup := by decide
 hm := by kernel_rfl
 hs := by kernel_rfl
 info := ⟨Tryz.t9, .string ⟨#[]⟩, by kernel_rfl, by kernel_rfl, by kernel_rfl, by kernel_rfl, by kernel_rfl⟩
 go := by kernel_rfl
 sort blk off cap ss w h1 h2 h3 := Any.slices_Sort_string sortLays blk off cap ss w h1 h2 h3
 sort0 p cap w := sort_0 p cap w
theorem cut_ok_term_Free : CutOk Tryz.prog kc_term_Free cut_term_Free :=
 ⟨kp_term_Free.code cut_term_Free.post, by kernel_rfl, fun _ => by kernel_rfl, fun R H K => keys_ok kp_ok_term_Free R H K⟩
end Go.Su

/-
 The settings are right.
-/
namespace Go.Su
open Go.Proofs
theorem names_ok : Tryz.prog.funcs.toList.all (fun fn => fn.name != "runtime.NumGoroutine") = true := by kernel_rfl
theorem lookup_mem {β : Type} {l : List (FuncId × β)} {f : FuncId} {g : β} (h : l.lookup f = some g) : (f, g) ∈ l := by
 induction l with
 | nil => cases h
 | cons x l ih =>
   obtain ⟨a, b⟩ := x
   simp only [List.lookup_cons] at h
   by_cases e : f == a
   ·rw [e] at h; simp only [Option.some.injEq] at h; rw [h]; rw [eq_of_beq e]; exact List.mem_cons_self ..
   ·simp only [e] at h; exact List.mem_cons_of_mem _ (ih h)
theorem cfg_ok : CfgOk cfg where
 mixed := by kernel_rfl
 go f fn h := by
  have h1 : fn ∈ Tryz.prog.funcs.toList := by
   have : Tryz.prog.funcs[f]? = some fn := h
   rw [← Array.getElem?_toList] at this
   exact List.mem_of_getElem? this
  have := List.all_eq_true.1 names_ok fn h1
  simpa using this
 prim f g h fn c hf hb := by
  have h1 : (f, g) ∈ primL := lookup_mem h
  simp only [primL, List.mem_cons, List.not_mem_nil, or_false, Prod.mk.injEq] at h1
  obtain ⟨rfl, rfl⟩ := h1
  ·have e1 : Tryz.prog.funcs[(82 : Nat)]? = some fn := hf
   rw [Tryz.func82] at e1
   simp only [Option.some.injEq] at e1
   subst e1
   have e2 : Tryz.f82.body = some kc_term_Free := by kernel_rfl
   rw [e2] at hb
   simp only [Option.some.injEq] at hb
   subst hb
   exact cut_ok_term_Free
 clone f h := by
  have h0 : clL.contains f = true := h
  have h1 : f ∈ clL := by simpa using h0
  simp only [clL, List.mem_cons, List.not_mem_nil, or_false] at h1
  rcases h1 with rfl | rfl | rfl
  ·exact ⟨by kernel_rfl, clone_166⟩
  ·exact ⟨by kernel_rfl, clone_191⟩
  ·exact ⟨by kernel_rfl, clone_207⟩
 mki f g h := by
  have h1 : (f, g) ∈ mkL := lookup_mem h
  simp only [mkL, List.mem_cons, List.not_mem_nil, or_false, Prod.mk.injEq] at h1
  rcases h1 with ⟨rfl, rfl⟩
  ·exact ⟨by kernel_rfl, mk_pats⟩
 iter g it h := by
  have h1 : itF g = some it := h
  unfold itF at h1
  split at h1
  ·rename_i e
   subst e
   cases h1
   exact ⟨by kernel_rfl, it_pats⟩
  ·cases h1
end Go.Su

/-
 Equations of the program's functions: by program.
-/
namespace Go.Su
open Go.Proofs
set_option linter.unusedVariables false
noncomputable def P_l19_CheckPut (R : Orc) (x0 x1 x2 : DV) : Option DV := eP Tryz.f6 fl_l19_CheckPut R [] (initSt Tryz.f6 [(x0, .val), (x1, .val), (x2, .val)] [])
noncomputable def P_l19_CheckPut_5h (R : Orc) (t2 t7 t8 t9 b3 b4 : DV) (sg : List SObj) : Option DV := hP Tryz.f6 fl_l19_CheckPut R [true, true, true, false, true, false] (mst 100 [(2, t2), (7, t7), (8, t8), (9, t9)] [(3, (.loc 3 0)), (4, (.loc 4 0))] [(3, some (bxs b3 0 20)), (4, some (bxs b4 0 20))] sg)
set_option maxRecDepth 100000 in
theorem eq_l19_CheckPut (R : Orc) (x0 x1 x2 : DV) : P_l19_CheckPut R x0 x1 x2 =
 (og (isAggN 20 x0) <| og (isAggN 20 x1) <| ob (R.p F_l17_Heavy [(.list 20 [(ag20 x0), (ag20 x1)])]) fun d1 => ogd d1 (some (.bool true)) (ob (R.p F_r17_Right [(ag20 x0)]) fun d2 => ob (dUn .not d2) fun d3 => ogd d3 (some (.bool true)) (ob (R.p F_r17_Right [(ag20 x1)]) fun d4 => ob (dUn .not d4) fun d5 => ogd d5 (some (.bool true)) (ob (dLenS x2) fun d6 => ob (dBin .gtr d6 (.int .i64 100)) fun d7 => ogd d7 (some (.bool true)) (ob (R.p F_r17_Free [(ag20 x1)]) fun d8 => ob (dLen d8) fun d9 => ob (dBin .gtr d9 (.int .i64 0)) fun d10 => oif d10 (some (.bool true)) (ob (R.r F_l19_vars [((ag20 x0), .val), ((.list 1 []), .own)] []) fun q11 => ob (R.r F_l19_vars [((ag20 x1), .val), ((.list 1 []), .own)] q11.2) fun q12 => P_l19_CheckPut_5h R x2 (q11.1.getD 0 .undef) (q12.1.getD 0 .undef) (.int .i64 0) x0 x1 q12.2)) none) none) none) none) := evP_of [] (by kernel_rfl)
set_option maxRecDepth 100000 in
theorem eq_l19_CheckPut_5h (R : Orc) (t2 t7 t8 t9 b3 b4 : DV) (sg : List SObj) : P_l19_CheckPut_5h R t2 t7 t8 t9 b3 b4 sg =
 (ob (dLen t7) fun d1 => ob (dBin .lss t9 d1) fun d2 => oif d2 (ob (dIdx 1 t7 t9) fun d3 => og (isLeaf d3) <| ob (R.p F_r03_In [t8, d3]) fun d4 => oif d4 (some (.bool true)) (ob (dBin .add t9 (.int .i64 1)) fun d5 => P_l19_CheckPut_5h R t2 t7 t8 d5 b3 b4 sg)) (og (isCell t2) <| ob (R.p F_r17_TameTerm [(.agg [(.int .i64 11), (.int .i64 0), (.int .i64 0), t2, (.str ⟨#[]⟩), (.int .i64 0), (.str ⟨#[]⟩), (.int .i64 0), (.int .i64 0), (.bool false), (.list 1 []), (.int .i64 0), (.int .i64 0), (.list 3 []), (.int .i64 0), (.int .i64 0), (.list 3 []), (.list 3 []), (.list 7 []), (.list 20 [(ag20 b4), (ag20 b3)])])]) fun d6 => ob (dUn .not d6) fun d7 => oif d7 (some (.bool true)) (ob (R.p F_check_Type [(.agg [(.int .i64 11), (.int .i64 0), (.int .i64 0), t2, (.str ⟨#[]⟩), (.int .i64 0), (.str ⟨#[]⟩), (.int .i64 0), (.int .i64 0), (.bool false), (.list 1 []), (.int .i64 0), (.int .i64 0), (.list 3 []), (.int .i64 0), (.int .i64 0), (.list 3 []), (.list 3 []), (.list 7 []), (.list 20 [(ag20 b4), (ag20 b3)])])]) fun d8 => ob (dExt 0 d8) fun d9 => ob (dExt 1 d8) fun d10 => og (isAggN 3 d9) <| ob (dBin .neq d10 (.int .i64 0)) fun d11 => oif d11 (ob (R.p F_l19_wakes []) fun d12 => some d12) (ob (R.p F_term_Put [(ag20 b3), t2, (.list 1 []), (ag20 b4)]) fun d13 =>
 ob (dExt 0 d13) fun d14 => ob (dExt 1 d13) fun d15 => og (isAggN 20 d14) <| ob (R.p F_check_Type [(ag20 d14)]) fun d16 => ob (dExt 0 d16) fun d17 => ob (dExt 1 d16) fun d18 => og (isAggN 3 d17) <| ob (dBin .eql d15 (.int .i64 0)) fun d19 => ogd d19 (ob (dBin .eql d18 (.int .i64 0)) fun d20 => ogd d20 (ob (R.p F_keep_Same [(ag3 d9), (ag3 d17)]) fun d21 => ogd d21 (ob (R.p F_l19_wakes []) fun d22 => some d22) (some (.bool false)) none) (some (.bool false)) none) (some (.bool false)) none)))) := headP_of [] (by kernel_rfl)
theorem call_l19_CheckPut (x0 x1 x2 : DV) {d : DV} (h : P_l19_CheckPut (run cfg) x0 x1 x2 = some d) : (run cfg).p F_l19_CheckPut [x0, x1, x2] = some d := callE Tryz.func6 (by kernel_rfl) (by kernel_rfl) (by kernel_rfl) h
noncomputable def P_r05_SameAt (R : Orc) (x0 x1 : DV) : Option DV := eP Tryz.f18 fl_r05_SameAt R [] (initSt Tryz.f18 [(x0, .val), (x1, .val)] [])
noncomputable def P_r05_SameAt_4h (R : Orc) (t5 b2 b3 : DV) : Option DV := hP Tryz.f18 fl_r05_SameAt R [true, true, false, true, false] (mst 56 [(5, t5)] [(2, (.loc 2 0)), (3, (.loc 3 0))] [(2, some (bxs b2 0 16)), (3, some (bxs b3 0 16))] [])
noncomputable def P_r05_SameAt_9h (R : Orc) (t6 b2 b3 : DV) : Option DV := hP Tryz.f18 fl_r05_SameAt R [true, true, true, false, true, false] (mst 56 [(6, t6)] [(2, (.loc 2 0)), (3, (.loc 3 0))] [(2, some (bxs b2 0 16)), (3, some (bxs b3 0 16))] [])
theorem eq_r05_SameAt (R : Orc) (x0 x1 : DV) : P_r05_SameAt R x0 x1 =
 (og (isAggN 16 x0) <| og (isAggN 16 x1) <| ob (R.p F_r05_Same [(ag16 x0), (ag16 x1)]) fun d1 => ob (dUn .not d1) fun d2 => ogd d2 (some (.bool false)) (ob (dEqA [.int, .int] (.agg [(proj 1 x0), (proj 2 x0)]) (.agg [(proj 1 x1), (proj 2 x1)])) fun b3 => oif (.bool !b3) (some (.bool false)) (P_r05_SameAt_4h R (.int .i64 0) x0 x1)) none) := evP_of [] (by kernel_rfl)
theorem eq_r05_SameAt_4h (R : Orc) (t5 b2 b3 : DV) : P_r05_SameAt_4h R t5 b2 b3 =
 (ob (dLen (proj 14 b2)) fun d1 => ob (dBin .lss t5 d1) fun d2 => oif d2 (ob (dIdx 7 (proj 14 b2) t5) fun d3 => ob (dIdx 7 (proj 14 b3) t5) fun d4 => ob (R.p F_r05_patAt [(ag7 d3), (ag7 d4)]) fun d5 => ob (dUn .not d5) fun d6 => oif d6 (some (.bool false)) (ob (dBin .add t5 (.int .i64 1)) fun d7 => P_r05_SameAt_4h R d7 b2 b3)) (P_r05_SameAt_9h R (.int .i64 0) b2 b3)) := headP_of [] (by kernel_rfl)
theorem eq_r05_SameAt_9h (R : Orc) (t6 b2 b3 : DV) : P_r05_SameAt_9h R t6 b2 b3 =
 (ob (dLen (proj 15 b2)) fun d1 => ob (dBin .lss t6 d1) fun d2 => oif d2 (ob (dIdx 16 (proj 15 b2) t6) fun d3 => ob (dIdx 16 (proj 15 b3) t6) fun d4 => ob (R.p F_r05_SameAt [(ag16 d3), (ag16 d4)]) fun d5 => ob (dUn .not d5) fun d6 => oif d6 (some (.bool false)) (ob (dBin .add t6 (.int .i64 1)) fun d7 => P_r05_SameAt_9h R d7 b2 b3)) (some (.bool true))) := headP_of [] (by kernel_rfl)
theorem call_r05_SameAt (x0 x1 : DV) {d : DV} (h : P_r05_SameAt (run cfg) x0 x1 = some d) : (run cfg).p F_r05_SameAt [x0, x1] = some d := callE Tryz.func18 (by kernel_rfl) (by kernel_rfl) (by kernel_rfl) h
noncomputable def P_l11_Small (R : Orc) (x0 : DV) : Option DV := eP Tryz.f23 fl_l11_Small R [] (initSt Tryz.f23 [(x0, .val)] [])
noncomputable def P_l11_Small_2h (R : Orc) (t0 t3 : DV) : Option DV := hP Tryz.f23 fl_l11_Small R [true, false, true, false] (mst 32 [(0, t0), (3, t3)] [] [] [])
theorem eq_l11_Small (R : Orc) (x0 : DV) : P_l11_Small R x0 =
 (P_l11_Small_2h R x0 (.int .i64 0)) := evP_of [] (by kernel_rfl)
set_option maxRecDepth 100000 in
theorem eq_l11_Small_2h (R : Orc) (t0 t3 : DV) : P_l11_Small_2h R t0 t3 =
 (ob (dLen t0) fun d1 => ob (dBin .lss t3 d1) fun d2 => oif d2 (ob (dIdx 3 t0 t3) fun d3 => ob (R.p F_l03_Heavy [(.list 3 [(ag3 d3)])]) fun d4 => ogd d4 (some (.bool false)) (ob (dIdx 3 t0 t3) fun d5 => ob (R.p F_r08_Deep [(ag3 d5), (.int .i64 60)]) fun d6 => ogd d6 (some (.bool false)) (ob (dIdx 3 t0 t3) fun d7 => ob (R.p F_r03_Vars [(ag3 d7)]) fun d8 => ob (dLen d8) fun d9 => ob (dBin .gtr d9 (.int .i64 8)) fun d10 => oif d10 (some (.bool false)) (ob (dBin .add t3 (.int .i64 1)) fun d11 => P_l11_Small_2h R t0 d11)) none) none) (some (.bool true))) := headP_of [] (by kernel_rfl)
theorem call_l11_Small (x0 : DV) {d : DV} (h : P_l11_Small (run cfg) x0 = some d) : (run cfg).p F_l11_Small [x0] = some d := callE Tryz.func23 (by kernel_rfl) (by kernel_rfl) (by kernel_rfl) h
noncomputable def P_r03_Right (R : Orc) (x0 : DV) : Option DV := eP Tryz.f24 fl_r03_Right R [] (initSt Tryz.f24 [(x0, .val)] [])
noncomputable def P_r03_Right_4h (R : Orc) (t3 b1 : DV) : Option DV := hP Tryz.f24 fl_r03_Right R [true, true, false, true, false] (mst 45 [(3, t3)] [(1, (.loc 1 0))] [(1, some (bxs b1 0 3))] [])
set_option maxRecDepth 100000 in
theorem eq_r03_Right (R : Orc) (x0 : DV) : P_r03_Right R x0 =
 (og (isAggN 3 x0) <| ob (R.p F_r03_Kids [(proj 0 x0)]) fun d1 => ob (dLen (proj 2 x0)) fun d2 => ob (dBin .neq d1 d2) fun d3 => ogd d3 (some (.bool false)) (ob (dBin .lss (proj 1 x0) (.int .i64 0)) fun d4 => ogd d4 (some (.bool false)) (ob (dBin .gtr (proj 1 x0) (.int .i64 1048576)) fun d5 => ogd d5 (some (.bool false)) (ob (dBin .neq (proj 0 x0) (.int .i64 6)) fun d6 => ogd d6 (ob (dBin .neq (proj 1 x0) (.int .i64 0)) fun d7 => oif d7 (some (.bool false)) (P_r03_Right_4h R (.int .i64 0) x0)) (P_r03_Right_4h R (.int .i64 0) x0) none) none) none) none) := evP_of [] (by kernel_rfl)
theorem eq_r03_Right_4h (R : Orc) (t3 b1 : DV) : P_r03_Right_4h R t3 b1 =
 (ob (dLen (proj 2 b1)) fun d1 => ob (dBin .lss t3 d1) fun d2 => oif d2 (ob (dIdx 3 (proj 2 b1) t3) fun d3 => ob (R.p F_r03_Right [(ag3 d3)]) fun d4 => ob (dUn .not d4) fun d5 => oif d5 (some (.bool false)) (ob (dBin .add t3 (.int .i64 1)) fun d6 => P_r03_Right_4h R d6 b1)) (some (.bool true))) := headP_of [] (by kernel_rfl)
theorem call_r03_Right (x0 : DV) {d : DV} (h : P_r03_Right (run cfg) x0 = some d) : (run cfg).p F_r03_Right [x0] = some d := callE Tryz.func24 (by kernel_rfl) (by kernel_rfl) (by kernel_rfl) h
noncomputable def P_r03_Size (R : Orc) (x0 : DV) : Option DV := eP Tryz.f26 fl_r03_Size R [] (initSt Tryz.f26 [(x0, .val)] [])
noncomputable def P_r03_Size_3h (R : Orc) (t3 t4 b1 : DV) : Option DV := hP Tryz.f26 fl_r03_Size R [true, true, false, true, false] (mst 21 [(3, t3), (4, t4)] [(1, (.loc 1 0))] [(1, some (bxs b1 0 3))] [])
theorem eq_r03_Size (R : Orc) (x0 : DV) : P_r03_Size R x0 =
 (og (isAggN 3 x0) <| P_r03_Size_3h R (.int .i64 1) (.int .i64 0) x0) := evP_of [] (by kernel_rfl)
theorem eq_r03_Size_3h (R : Orc) (t3 t4 b1 : DV) : P_r03_Size_3h R t3 t4 b1 =
 (ob (dLen (proj 2 b1)) fun d1 => ob (dBin .lss t4 d1) fun d2 => oif d2 (ob (dIdx 3 (proj 2 b1) t4) fun d3 => ob (R.p F_r03_Size [(ag3 d3)]) fun d4 => ob (dBin .add t3 d4) fun d5 => ob (dBin .add t4 (.int .i64 1)) fun d6 => P_r03_Size_3h R d5 d6 b1) (some t3)) := headP_of [] (by kernel_rfl)
theorem call_r03_Size (x0 : DV) {d : DV} (h : P_r03_Size (run cfg) x0 = some d) : (run cfg).p F_r03_Size [x0] = some d := callE Tryz.func26 (by kernel_rfl) (by kernel_rfl) (by kernel_rfl) h
noncomputable def P_l17_Heavy (R : Orc) (x0 : DV) : Option DV := eP Tryz.f30 fl_l17_Heavy R [] (initSt Tryz.f30 [(x0, .val)] [])
noncomputable def P_l17_Heavy_3h (R : Orc) (t0 t3 t4 : DV) : Option DV := hP Tryz.f30 fl_l17_Heavy R [true, true, false, true, false] (mst 19 [(0, t0), (3, t3), (4, t4)] [] [] [])
theorem eq_l17_Heavy (R : Orc) (x0 : DV) : P_l17_Heavy R x0 =
 (P_l17_Heavy_3h R x0 (.int .i64 0) (.int .i64 0)) := evP_of [] (by kernel_rfl)
theorem eq_l17_Heavy_3h (R : Orc) (t0 t3 t4 : DV) : P_l17_Heavy_3h R t0 t3 t4 =
 (ob (dLen t0) fun d1 => ob (dBin .lss t4 d1) fun d2 => oif d2 (ob (dIdx 20 t0 t4) fun d3 => ob (R.p F_l17_weigh [(ag20 d3), t3]) fun d4 => ob (dBin .add t4 (.int .i64 1)) fun d5 => P_l17_Heavy_3h R t0 d4 d5) (ob (dBin .gtr t3 (.int .i64 500)) fun d6 => some d6)) := headP_of [] (by kernel_rfl)
theorem call_l17_Heavy (x0 : DV) {d : DV} (h : P_l17_Heavy (run cfg) x0 = some d) : (run cfg).p F_l17_Heavy [x0] = some d := callE Tryz.func30 (by kernel_rfl) (by kernel_rfl) (by kernel_rfl) h
noncomputable def P_r17_Right (R : Orc) (x0 : DV) : Option DV := eP Tryz.f31 fl_r17_Right R [] (initSt Tryz.f31 [(x0, .val)] [])
noncomputable def P_r17_Right_4h (R : Orc) (t3 b1 : DV) : Option DV := hP Tryz.f31 fl_r17_Right R [true, true, false, true, false] (mst 21 [(3, t3)] [(1, (.loc 1 0))] [(1, some (bxs b1 0 20))] [])
theorem eq_r17_Right (R : Orc) (x0 : DV) : P_r17_Right R x0 =
 (og (isAggN 20 x0) <| ob (R.p F_r17_own [(ag20 x0)]) fun d1 => ob (dUn .not d1) fun d2 => oif d2 (some (.bool false)) (P_r17_Right_4h R (.int .i64 0) x0)) := evP_of [] (by kernel_rfl)
theorem eq_r17_Right_4h (R : Orc) (t3 b1 : DV) : P_r17_Right_4h R t3 b1 =
 (ob (dLen (proj 19 b1)) fun d1 => ob (dBin .lss t3 d1) fun d2 => oif d2 (ob (dIdx 20 (proj 19 b1) t3) fun d3 => ob (R.p F_r17_Right [(ag20 d3)]) fun d4 => ob (dUn .not d4) fun d5 => oif d5 (some (.bool false)) (ob (dBin .add t3 (.int .i64 1)) fun d6 => P_r17_Right_4h R d6 b1)) (some (.bool true))) := headP_of [] (by kernel_rfl)
theorem call_r17_Right (x0 : DV) {d : DV} (h : P_r17_Right (run cfg) x0 = some d) : (run cfg).p F_r17_Right [x0] = some d := callE Tryz.func31 (by kernel_rfl) (by kernel_rfl) (by kernel_rfl) h
noncomputable def P_r17_Free (R : Orc) (x0 : DV) : Option DV := eP Tryz.f32 fl_r17_Free R [] (initSt Tryz.f32 [(x0, .val)] [])
theorem eq_r17_Free (R : Orc) (x0 : DV) : P_r17_Free R x0 =
 (og (isAggN 20 x0) <| ob (R.p F_r17_free [(ag20 x0), (.list 1 []), (.list 1 [])]) fun d1 => some d1) := evP_of [] (by kernel_rfl)
theorem call_r17_Free (x0 : DV) {d : DV} (h : P_r17_Free (run cfg) x0 = some d) : (run cfg).p F_r17_Free [x0] = some d := callE Tryz.func32 (by kernel_rfl) (by kernel_rfl) (by kernel_rfl) h
noncomputable def code_l19_vars : Code := Tryz.f33.body.getD .skip
noncomputable def P_l19_vars (R : Orc) (x0 x1 : DV) (sg : List SObj) : Option (List DV × List SObj) := evP cfg R fl_l19_vars (retR cfg.P Tryz.f33 sig_l19_vars) [] code_l19_vars (initSt Tryz.f33 [(x0, .val), (x1, .own)] sg)
noncomputable def P_l19_vars_3h (R : Orc) (t1 t5 b2 : DV) (sg : List SObj) : Option (List DV × List SObj) := headP cfg R fl_l19_vars (retR cfg.P Tryz.f33 sig_l19_vars) [true, true, false, true, false] code_l19_vars (mst 25 [(1, t1), (5, t5)] [(1, .own), (2, (.loc 2 0))] [(2, some (bxs b2 0 20))] sg)
theorem eq_l19_vars (R : Orc) (x0 x1 : DV) (sg : List SObj) : P_l19_vars R x0 x1 sg =
 (og (isAggN 20 x0) <| ob (dApp 1 x1 (proj 10 x0)) fun d1 => P_l19_vars_3h R d1 (.int .i64 0) x0 sg) := evP_of [] (by kernel_rfl)
theorem eq_l19_vars_3h (R : Orc) (t1 t5 b2 : DV) (sg : List SObj) : P_l19_vars_3h R t1 t5 b2 sg =
 (ob (dLen (proj 19 b2)) fun d1 => ob (dBin .lss t5 d1) fun d2 => oif d2 (ob (dIdx 20 (proj 19 b2) t5) fun d3 => ob (R.r F_l19_vars [((ag20 d3), .val), (t1, .own)] sg) fun q4 => ob (dBin .add t5 (.int .i64 1)) fun d5 => P_l19_vars_3h R (q4.1.getD 0 .undef) d5 b2 q4.2) (some ([t1], sg))) := headP_of [] (by kernel_rfl)
theorem fix_l19_vars (x0 x1 : DV) (sg : List SObj) : (run cfg).r F_l19_vars [(x0, .val), (x1, .own)] sg = P_l19_vars (run cfg) x0 x1 sg :=
 (fix_raw (C := cfg) (f := F_l19_vars) (s := sig_l19_vars) (fn := Tryz.f33) (c := code_l19_vars) (by kernel_rfl) Tryz.func33 (by kernel_rfl)).trans (by kernel_rfl)
theorem call_l19_vars (x0 x1 : DV) (sg : List SObj) {q : List DV × List SObj} (h : P_l19_vars (run cfg) x0 x1 sg = some q) : (run cfg).r F_l19_vars [(x0, .val), (x1, .own)] sg = some q := (fix_l19_vars x0 x1 sg).trans h
noncomputable def P_r03_In (R : Orc) (x0 x1 : DV) : Option DV := eP Tryz.f34 fl_r03_In R [] (initSt Tryz.f34 [(x0, .val), (x1, .val)] [])
noncomputable def P_r03_In_2h (R : Orc) (t0 t1 t5 : DV) : Option DV := hP Tryz.f34 fl_r03_In R [true, false, true, false] (mst 18 [(0, t0), (1, t1), (5, t5)] [] [] [])
theorem eq_r03_In (R : Orc) (x0 x1 : DV) : P_r03_In R x0 x1 =
 (P_r03_In_2h R x0 x1 (.int .i64 0)) := evP_of [] (by kernel_rfl)
theorem eq_r03_In_2h (R : Orc) (t0 t1 t5 : DV) : P_r03_In_2h R t0 t1 t5 =
 (ob (dLen t0) fun d1 => ob (dBin .lss t5 d1) fun d2 => oif d2 (ob (dIdx 1 t0 t5) fun d3 => og (isLeaf d3) <| ob (dBin .eql d3 t1) fun d4 => oif d4 (some (.bool true)) (ob (dBin .add t5 (.int .i64 1)) fun d5 => P_r03_In_2h R t0 t1 d5)) (some (.bool false))) := headP_of [] (by kernel_rfl)
theorem call_r03_In (x0 x1 : DV) {d : DV} (h : P_r03_In (run cfg) x0 x1 = some d) : (run cfg).p F_r03_In [x0, x1] = some d := callE Tryz.func34 (by kernel_rfl) (by kernel_rfl) (by kernel_rfl) h
noncomputable def P_r17_TameTerm (R : Orc) (x0 : DV) : Option DV := eP Tryz.f35 fl_r17_TameTerm R [] (initSt Tryz.f35 [(x0, .val)] [])
theorem eq_r17_TameTerm (R : Orc) (x0 : DV) : P_r17_TameTerm R x0 =
 (og (isAggN 20 x0) <| ob (R.p F_r17_Right [(ag20 x0)]) fun d1 => ob (dUn .not d1) fun d2 => oif d2 (some (.bool true)) (ob (R.r F_r17_bulk [(.undef, (.ptr 0 0)), ((ag20 x0), .val), ((.list 2 []), .val)] [SObj.box [((.bool false), .val)]]) fun q3 => ob (sgBox q3.2 0) fun c4 => ob (cellDat c4 0) fun d5 => ob (dUn .not d5) fun d6 => some d6)) := evP_of [] (by kernel_rfl)
theorem call_r17_TameTerm (x0 : DV) {d : DV} (h : P_r17_TameTerm (run cfg) x0 = some d) : (run cfg).p F_r17_TameTerm [x0] = some d := callE Tryz.func35 (by kernel_rfl) (by kernel_rfl) (by kernel_rfl) h
noncomputable def P_check_Type (R : Orc) (x0 : DV) : Option DV := eP Tryz.f36 fl_check_Type R [] (initSt Tryz.f36 [(x0, .val)] [])
theorem eq_check_Type (R : Orc) (x0 : DV) : P_check_Type R x0 =
 (og (isAggN 20 x0) <| ob (R.p F_term_Check [(ag20 x0)]) fun d1 => ob (dBin .neq d1 (.int .i64 0)) fun d2 => oif d2 (some (.tup [(.agg [(.int .i64 0), (.int .i64 0), (.list 3 [])]), (.int .i64 1)])) (ob (R.r F_check_scope_term [(.undef, (.map 0)), ((ag20 x0), .val), ((.list 5 []), .val)] [.map false []]) fun q3 => ob (dExt 0 (.tup q3.1)) fun d4 => ob (dExt 1 (.tup q3.1)) fun d5 => og (isAggN 3 d4) <| some (.tup [(ag3 d4), d5]))) := evP_of [] (by kernel_rfl)
theorem call_check_Type (x0 : DV) {d : DV} (h : P_check_Type (run cfg) x0 = some d) : (run cfg).p F_check_Type [x0] = some d := callE Tryz.func36 (by kernel_rfl) (by kernel_rfl) (by kernel_rfl) h
noncomputable def P_l19_wakes (R : Orc) : Option DV := eP Tryz.f37 fl_l19_wakes R [] (initSt Tryz.f37 [] [])
set_option maxRecDepth 100000 in
theorem eq_l19_wakes (R : Orc) : P_l19_wakes R =
 (ob (R.p F_l19_cast [(.int .i64 1), (.int .i64 5), zA4]) fun d1 => ob (R.p F_check_Type [d1]) fun d2 => ob (dExt 0 d2) fun d3 => ob (dExt 1 d2) fun d4 => og (isAggN 3 d3) <| ob (R.p F_l19_cast [(.int .i64 1), (.int .i64 2), zA4]) fun d5 => ob (R.p F_check_Type [d5]) fun d6 => ob (dExt 0 d6) fun d7 => ob (dExt 1 d6) fun d8 => og (isAggN 3 d7) <| ob (R.p F_check_Type [(.agg [(.int .i64 1), (.int .i64 0), (.int .i64 0), (.str ⟨#[120]⟩), (.str ⟨#[]⟩), (.int .i64 0), (.str ⟨#[]⟩), (.int .i64 0), (.int .i64 0), (.bool false), (.list 1 []), (.int .i64 0), (.int .i64 0), (.list 3 []), (.int .i64 0), (.int .i64 0), (.list 3 []), (.list 3 []), (.list 7 []), (.list 20 [])])]) fun d9 => ob (dExt 0 d9) fun d10 => ob (dExt 1 d9) fun d11 => og (isAggN 3 d10) <| ob (dBin .eql d4 (.int .i64 0)) fun d12 => ogd d12 (ob (dBin .eql (proj 0 d3) (.int .i64 5)) fun d13 => ogd d13 (ob (dBin .eql d8 (.int .i64 4)) fun d14 => ogd d14 (ob (dBin .eql d11 (.int .i64 6)) fun d15 => some d15) (some (.bool false)) none) (some (.bool false)) none) (some (.bool false)) none) := evP_of [] (by kernel_rfl)
theorem call_l19_wakes {d : DV} (h : P_l19_wakes (run cfg) = some d) : (run cfg).p F_l19_wakes [] = some d := callE Tryz.func37 (by kernel_rfl) (by kernel_rfl) (by kernel_rfl) h
noncomputable def P_term_Put (R : Orc) (x0 x1 x2 x3 : DV) : Option DV := eP Tryz.f38 fl_term_Put R [] (initSt Tryz.f38 [(x0, .val), (x1, .val), (x2, .val), (x3, .val)] [])
noncomputable def P_term_Put_4h (R : Orc) (t1 t2 t32 t33 t34 b4 b7 : DV) : Option DV := hP Tryz.f38 fl_term_Put R [true, true, false, true, false] (mst 53 [(1, t1), (2, t2), (32, t32), (33, t33), (34, t34)] [(4, (.loc 4 0)), (7, (.loc 7 0)), (8, (.loc 8 0))] [(4, some (bxs b4 0 20)), (7, some (bxs b7 0 20)), (8, some zb0)] [])
set_option maxRecDepth 100000 in
theorem eq_term_Put (R : Orc) (x0 x1 x2 x3 : DV) : P_term_Put R x0 x1 x2 x3 =
 (og (isAggN 20 x0) <| og (isAggN 20 x3) <| ob (R.p F_term_right [(ag20 x0)]) fun d1 => ob (dUn .not d1) fun d2 => ogd d2 (some (.tup [zA3, (.int .i64 1)])) (ob (R.p F_term_right [(ag20 x3)]) fun d3 => ob (dUn .not d3) fun d4 => ogd d4 (some (.tup [zA3, (.int .i64 1)])) (ob (R.p F_word_Name [x1]) fun d5 => ob (dUn .not d5) fun d6 => ogd d6 (some (.tup [zA3, (.int .i64 1)])) (ob (R.p F_term_Free [(ag20 x3)]) fun d7 => ob (dLen d7) fun d8 => ob (dBin .gtr d8 (.int .i64 0)) fun d9 => oif d9 (some (.tup [zA3, (.int .i64 1)])) (ob (dLen x2) fun d10 => P_term_Put_4h R x1 x2 x2 d10 (.int .i64 0) x0 x3)) none) none) none) := evP_of [] (by kernel_rfl)
theorem eq_term_Put_4h (R : Orc) (t1 t2 t32 t33 t34 b4 b7 : DV) : P_term_Put_4h R t1 t2 t32 t33 t34 b4 b7 =
 (ob (dBin .lss t34 t33) fun d1 => oif d1 (ob (dIdx 1 t32 t34) fun d2 => og (isLeaf d2) <| ob (dBin .lss d2 (.int .i64 0)) fun d3 => ogd d3 (some (.tup [zA3, (.int .i64 1)])) (ob (dBin .gtr d2 (.int .i64 1048576)) fun d4 => oif d4 (some (.tup [zA3, (.int .i64 1)])) (ob (dBin .add t34 (.int .i64 1)) fun d5 => P_term_Put_4h R t1 t2 t32 t33 d5 b4 b7)) none) (ob (R.p F_term_For [(ag20 b4), t1, t2, (ag20 b7)]) fun d6 => ob (dExt 0 d6) fun d7 => ob (dExt 1 d6) fun d8 => og (isAggN 20 d7) <| some (.tup [(ag20 d7), d8]))) := headP_of [] (by kernel_rfl)
theorem call_term_Put (x0 x1 x2 x3 : DV) {d : DV} (h : P_term_Put (run cfg) x0 x1 x2 x3 = some d) : (run cfg).p F_term_Put [x0, x1, x2, x3] = some d := callE Tryz.func38 (by kernel_rfl) (by kernel_rfl) (by kernel_rfl) h
noncomputable def P_keep_Same (R : Orc) (x0 x1 : DV) : Option DV := eP Tryz.f39 fl_keep_Same R [] (initSt Tryz.f39 [(x0, .val), (x1, .val)] [])
noncomputable def P_keep_Same_4h (R : Orc) (t5 b2 b3 : DV) : Option DV := hP Tryz.f39 fl_keep_Same R [true, true, false, true, false] (mst 46 [(5, t5)] [(2, (.loc 2 0)), (3, (.loc 3 0))] [(2, some (bxs b2 0 3)), (3, some (bxs b3 0 3))] [])
set_option maxRecDepth 100000 in
theorem eq_keep_Same (R : Orc) (x0 x1 : DV) : P_keep_Same R x0 x1 =
 (og (isAggN 3 x0) <| og (isAggN 3 x1) <| ob (dBin .neq (proj 0 x0) (proj 0 x1)) fun d1 => ogd d1 (some (.bool false)) (ob (dBin .neq (proj 1 x0) (proj 1 x1)) fun d2 => ogd d2 (some (.bool false)) (ob (dLen (proj 2 x0)) fun d3 => ob (dLen (proj 2 x1)) fun d4 => ob (dBin .neq d3 d4) fun d5 => oif d5 (some (.bool false)) (P_keep_Same_4h R (.int .i64 0) x0 x1)) none) none) := evP_of [] (by kernel_rfl)
theorem eq_keep_Same_4h (R : Orc) (t5 b2 b3 : DV) : P_keep_Same_4h R t5 b2 b3 =
 (ob (dLen (proj 2 b2)) fun d1 => ob (dBin .lss t5 d1) fun d2 => oif d2 (ob (dIdx 3 (proj 2 b2) t5) fun d3 => ob (dIdx 3 (proj 2 b3) t5) fun d4 => ob (R.p F_keep_Same [(ag3 d3), (ag3 d4)]) fun d5 => ob (dUn .not d5) fun d6 => oif d6 (some (.bool false)) (ob (dBin .add t5 (.int .i64 1)) fun d7 => P_keep_Same_4h R d7 b2 b3)) (some (.bool true))) := headP_of [] (by kernel_rfl)
theorem call_keep_Same (x0 x1 : DV) {d : DV} (h : P_keep_Same (run cfg) x0 x1 = some d) : (run cfg).p F_keep_Same [x0, x1] = some d := callE Tryz.func39 (by kernel_rfl) (by kernel_rfl) (by kernel_rfl) h
noncomputable def P_word_Name (R : Orc) (x0 : DV) : Option DV := eP Tryz.f55 fl_word_Name R [] (initSt Tryz.f55 [(x0, .val)] [])
noncomputable def P_word_Name_4h (R : Orc) (t0 t3 : DV) : Option DV := hP Tryz.f55 fl_word_Name R [true, true, false, true, false] (mst 37 [(0, t0), (3, t3)] [] [] [])
set_option maxRecDepth 100000 in
theorem eq_word_Name (R : Orc) (x0 : DV) : P_word_Name R x0 =
 (ob (dLenS x0) fun d1 => ob (dBin .lss d1 (.int .i64 1)) fun d2 => ogd d2 (some (.bool false)) (ob (dLenS x0) fun d3 => ob (dBin .gtr d3 (.int .i64 32)) fun d4 => ogd d4 (some (.bool false)) (ob (dStrIdx x0 (.int .i64 0)) fun d5 => ob (dBin .lss d5 (.int .u8 97)) fun d6 => ogd d6 (some (.bool false)) (ob (dStrIdx x0 (.int .i64 0)) fun d7 => ob (dBin .gtr d7 (.int .u8 122)) fun d8 => ogd d8 (some (.bool false)) (ob (R.p F_word_Key [x0]) fun d9 => oif d9 (some (.bool false)) (P_word_Name_4h R x0 (.int .i64 1))) none) none) none) none) := evP_of [] (by kernel_rfl)
theorem eq_word_Name_4h (R : Orc) (t0 t3 : DV) : P_word_Name_4h R t0 t3 =
 (ob (dLenS t0) fun d1 => ob (dBin .lss t3 d1) fun d2 => oif d2 (ob (dStrIdx t0 t3) fun d3 => ob (R.p F_word_inner [d3]) fun d4 => ob (dUn .not d4) fun d5 => oif d5 (some (.bool false)) (ob (dBin .add t3 (.int .i64 1)) fun d6 => P_word_Name_4h R t0 d6)) (some (.bool true))) := headP_of [] (by kernel_rfl)
theorem call_word_Name (x0 : DV) {d : DV} (h : P_word_Name (run cfg) x0 = some d) : (run cfg).p F_word_Name [x0] = some d := callE Tryz.func55 (by kernel_rfl) (by kernel_rfl) (by kernel_rfl) h
noncomputable def P_r01_Name (R : Orc) (x0 : DV) : Option DV := eP Tryz.f57 fl_r01_Name R [] (initSt Tryz.f57 [(x0, .val)] [])
noncomputable def P_r01_Name_4h (R : Orc) (t0 t3 : DV) : Option DV := hP Tryz.f57 fl_r01_Name R [true, true, false, true, false] (mst 32 [(0, t0), (3, t3)] [] [] [])
theorem eq_r01_Name (R : Orc) (x0 : DV) : P_r01_Name R x0 =
 (ob (dLenS x0) fun d1 => ob (dBin .lss d1 (.int .i64 1)) fun d2 => ogd d2 (some (.bool false)) (ob (dLenS x0) fun d3 => ob (dBin .gtr d3 (.int .i64 32)) fun d4 => ogd d4 (some (.bool false)) (ob (dStrIdx x0 (.int .i64 0)) fun d5 => ob (R.p F_r01_lower [d5]) fun d6 => ob (dUn .not d6) fun d7 => oif d7 (some (.bool false)) (P_r01_Name_4h R x0 (.int .i64 0))) none) none) := evP_of [] (by kernel_rfl)
theorem eq_r01_Name_4h (R : Orc) (t0 t3 : DV) : P_r01_Name_4h R t0 t3 =
 (ob (dLenS t0) fun d1 => ob (dBin .lss t3 d1) fun d2 => oif d2 (ob (dStrIdx t0 t3) fun d3 => ob (R.p F_r01_part [d3]) fun d4 => ob (dUn .not d4) fun d5 => oif d5 (some (.bool false)) (ob (dBin .add t3 (.int .i64 1)) fun d6 => P_r01_Name_4h R t0 d6)) (ob (R.p F_r01_Key [t0]) fun d7 => ob (dUn .not d7) fun d8 => some d8)) := headP_of [] (by kernel_rfl)
theorem call_r01_Name (x0 : DV) {d : DV} (h : P_r01_Name (run cfg) x0 = some d) : (run cfg).p F_r01_Name [x0] = some d := callE Tryz.func57 (by kernel_rfl) (by kernel_rfl) (by kernel_rfl) h
noncomputable def P_r05_Same (R : Orc) (x0 x1 : DV) : Option DV := eP Tryz.f59 fl_r05_Same R [] (initSt Tryz.f59 [(x0, .val), (x1, .val)] [])
noncomputable def P_r05_Same_3 (R : Orc) (b2 b3 : DV) : Option DV := eP Tryz.f59 fl_r05_Same R [true, true] (mst 117 [] [(2, (.loc 2 0)), (3, (.loc 3 0))] [(2, some (bxs b2 0 16)), (3, some (bxs b3 0 16))] [])
noncomputable def P_r05_Same_6h (R : Orc) (t5 b2 b3 : DV) : Option DV := hP Tryz.f59 fl_r05_Same R [true, true, true, false, true, false] (mst 117 [(5, t5)] [(2, (.loc 2 0)), (3, (.loc 3 0))] [(2, some (bxs b2 0 16)), (3, some (bxs b3 0 16))] [])
noncomputable def P_r05_Same_11h (R : Orc) (t6 b2 b3 : DV) : Option DV := hP Tryz.f59 fl_r05_Same R [true, true, true, true, false, true, false] (mst 117 [(6, t6)] [(2, (.loc 2 0)), (3, (.loc 3 0))] [(2, some (bxs b2 0 16)), (3, some (bxs b3 0 16))] [])
set_option maxRecDepth 100000 in
theorem eq_r05_Same (R : Orc) (x0 x1 : DV) : P_r05_Same R x0 x1 =
 (og (isAggN 16 x0) <| og (isAggN 16 x1) <| ob (dBin .neq (proj 0 x0) (proj 0 x1)) fun d1 => ogd d1 (some (.bool false)) (ob (dBin .neq (proj 3 x0) (proj 3 x1)) fun d2 => ogd d2 (some (.bool false)) (ob (dBin .neq (proj 4 x0) (proj 4 x1)) fun d3 => ogd d3 (some (.bool false)) (ob (dBin .neq (proj 5 x0) (proj 5 x1)) fun d4 => ogd d4 (some (.bool false)) (ob (dBin .neq (proj 6 x0) (proj 6 x1)) fun d5 => ogd d5 (some (.bool false)) (ob (dBin .neq (proj 7 x0) (proj 7 x1)) fun d6 => ogd d6 (some (.bool false)) (ob (dLen (proj 14 x0)) fun d7 => ob (dLen (proj 14 x1)) fun d8 => ob (dBin .neq d7 d8) fun d9 => ogd d9 (some (.bool false)) (ob (dLen (proj 15 x0)) fun d10 => ob (dLen (proj 15 x1)) fun d11 => ob (dBin .neq d10 d11) fun d12 => oif d12 (some (.bool false)) (P_r05_Same_3 R x0 x1)) none) none) none) none) none) none) none) := evP_of [3] (by kernel_rfl)
theorem eq_r05_Same_3 (R : Orc) (b2 b3 : DV) : P_r05_Same_3 R b2 b3 =
 (ob (R.p F_r03_Same [(.agg [(proj 8 b2), (proj 9 b2), (proj 10 b2)]), (.agg [(proj 8 b3), (proj 9 b3), (proj 10 b3)])]) fun d1 => ob (dUn .not d1) fun d2 => ogd d2 (some (.bool false)) (ob (R.p F_r03_Same [(.agg [(proj 11 b2), (proj 12 b2), (proj 13 b2)]), (.agg [(proj 11 b3), (proj 12 b3), (proj 13 b3)])]) fun d3 => ob (dUn .not d3) fun d4 => oif d4 (some (.bool false)) (P_r05_Same_6h R (.int .i64 0) b2 b3)) none) := evP_of [3] (by kernel_rfl)
theorem eq_r05_Same_6h (R : Orc) (t5 b2 b3 : DV) : P_r05_Same_6h R t5 b2 b3 =
 (ob (dLen (proj 14 b2)) fun d1 => ob (dBin .lss t5 d1) fun d2 => oif d2 (ob (dIdx 7 (proj 14 b2) t5) fun d3 => ob (dIdx 7 (proj 14 b3) t5) fun d4 => ob (R.p F_r05_SamePat [(ag7 d3), (ag7 d4)]) fun d5 => ob (dUn .not d5) fun d6 => oif d6 (some (.bool false)) (ob (dBin .add t5 (.int .i64 1)) fun d7 => P_r05_Same_6h R d7 b2 b3)) (P_r05_Same_11h R (.int .i64 0) b2 b3)) := headP_of [3] (by kernel_rfl)
theorem eq_r05_Same_11h (R : Orc) (t6 b2 b3 : DV) : P_r05_Same_11h R t6 b2 b3 =
 (ob (dLen (proj 15 b2)) fun d1 => ob (dBin .lss t6 d1) fun d2 => oif d2 (ob (dIdx 16 (proj 15 b2) t6) fun d3 => ob (dIdx 16 (proj 15 b3) t6) fun d4 => ob (R.p F_r05_Same [(ag16 d3), (ag16 d4)]) fun d5 => ob (dUn .not d5) fun d6 => oif d6 (some (.bool false)) (ob (dBin .add t6 (.int .i64 1)) fun d7 => P_r05_Same_11h R d7 b2 b3)) (some (.bool true))) := headP_of [3] (by kernel_rfl)
theorem call_r05_Same (x0 x1 : DV) {d : DV} (h : P_r05_Same (run cfg) x0 x1 = some d) : (run cfg).p F_r05_Same [x0, x1] = some d := callE Tryz.func59 (by kernel_rfl) (by kernel_rfl) (by kernel_rfl) h
noncomputable def P_r05_patAt (R : Orc) (x0 x1 : DV) : Option DV := eP Tryz.f60 fl_r05_patAt R [] (initSt Tryz.f60 [(x0, .val), (x1, .val)] [])
noncomputable def P_r05_patAt_4h (R : Orc) (t5 b2 b3 : DV) : Option DV := hP Tryz.f60 fl_r05_patAt R [true, true, false, true, false] (mst 30 [(5, t5)] [(2, (.loc 2 0)), (3, (.loc 3 0))] [(2, some (bxs b2 0 7)), (3, some (bxs b3 0 7))] [])
theorem eq_r05_patAt (R : Orc) (x0 x1 : DV) : P_r05_patAt R x0 x1 =
 (og (isAggN 7 x0) <| og (isAggN 7 x1) <| ob (dEqA [.int, .int] (.agg [(proj 1 x0), (proj 2 x0)]) (.agg [(proj 1 x1), (proj 2 x1)])) fun b1 => oif (.bool !b1) (some (.bool false)) (P_r05_patAt_4h R (.int .i64 0) x0 x1)) := evP_of [] (by kernel_rfl)
theorem eq_r05_patAt_4h (R : Orc) (t5 b2 b3 : DV) : P_r05_patAt_4h R t5 b2 b3 =
 (ob (dLen (proj 6 b2)) fun d1 => ob (dBin .lss t5 d1) fun d2 => oif d2 (ob (dIdx 7 (proj 6 b2) t5) fun d3 => ob (dIdx 7 (proj 6 b3) t5) fun d4 => ob (R.p F_r05_patAt [(ag7 d3), (ag7 d4)]) fun d5 => ob (dUn .not d5) fun d6 => oif d6 (some (.bool false)) (ob (dBin .add t5 (.int .i64 1)) fun d7 => P_r05_patAt_4h R d7 b2 b3)) (some (.bool true))) := headP_of [] (by kernel_rfl)
theorem call_r05_patAt (x0 x1 : DV) {d : DV} (h : P_r05_patAt (run cfg) x0 x1 = some d) : (run cfg).p F_r05_patAt [x0, x1] = some d := callE Tryz.func60 (by kernel_rfl) (by kernel_rfl) (by kernel_rfl) h
end Go.Su

/-
 Equations of the program's functions: by program.
-/
namespace Go.Su
open Go.Proofs
set_option linter.unusedVariables false
noncomputable def P_r05_RightPat (R : Orc) (x0 : DV) : Option DV := eP Tryz.f64 fl_r05_RightPat R [] (initSt Tryz.f64 [(x0, .val)] [])
noncomputable def P_r05_RightPat_5h (R : Orc) (t3 t4 : DV) : Option DV := hP Tryz.f64 fl_r05_RightPat R [true, true, true, false, true, false] (mst 24 [(3, t3), (4, t4)] [] [] [])
theorem eq_r05_RightPat (R : Orc) (x0 : DV) : P_r05_RightPat R x0 =
 (og (isAggN 7 x0) <| ob (R.p F_r05_pat [(ag7 x0)]) fun d1 => ob (dUn .not d1) fun d2 => oif d2 (some (.bool false)) (ob (R.p F_r05_Names [(ag7 x0)]) fun d3 => P_r05_RightPat_5h R d3 (.int .i64 0))) := evP_of [] (by kernel_rfl)
theorem eq_r05_RightPat_5h (R : Orc) (t3 t4 : DV) : P_r05_RightPat_5h R t3 t4 =
 (ob (dLen t3) fun d1 => ob (dBin .lss t4 d1) fun d2 => oif d2 (ob (dSlice 1 t3 none (some t4)) fun d3 => ob (dIdx 1 t3 t4) fun d4 => og (isLeaf d4) <| ob (R.p F_r05_Has [d3, d4]) fun d5 => oif d5 (some (.bool false)) (ob (dBin .add t4 (.int .i64 1)) fun d6 => P_r05_RightPat_5h R t3 d6)) (some (.bool true))) := headP_of [] (by kernel_rfl)
theorem call_r05_RightPat (x0 : DV) {d : DV} (h : P_r05_RightPat (run cfg) x0 = some d) : (run cfg).p F_r05_RightPat [x0] = some d := callE Tryz.func64 (by kernel_rfl) (by kernel_rfl) (by kernel_rfl) h
noncomputable def P_l03_Heavy (R : Orc) (x0 : DV) : Option DV := eP Tryz.f66 fl_l03_Heavy R [] (initSt Tryz.f66 [(x0, .val)] [])
noncomputable def P_l03_Heavy_3h (R : Orc) (t0 t3 t4 : DV) : Option DV := hP Tryz.f66 fl_l03_Heavy R [true, true, false, true, false] (mst 19 [(0, t0), (3, t3), (4, t4)] [] [] [])
theorem eq_l03_Heavy (R : Orc) (x0 : DV) : P_l03_Heavy R x0 =
 (P_l03_Heavy_3h R x0 (.int .i64 0) (.int .i64 0)) := evP_of [] (by kernel_rfl)
theorem eq_l03_Heavy_3h (R : Orc) (t0 t3 t4 : DV) : P_l03_Heavy_3h R t0 t3 t4 =
 (ob (dLen t0) fun d1 => ob (dBin .lss t4 d1) fun d2 => oif d2 (ob (dIdx 3 t0 t4) fun d3 => ob (R.p F_l03_count [(ag3 d3), t3]) fun d4 => ob (dBin .add t4 (.int .i64 1)) fun d5 => P_l03_Heavy_3h R t0 d4 d5) (ob (dBin .gtr t3 (.int .i64 600)) fun d6 => some d6)) := headP_of [] (by kernel_rfl)
theorem call_l03_Heavy (x0 : DV) {d : DV} (h : P_l03_Heavy (run cfg) x0 = some d) : (run cfg).p F_l03_Heavy [x0] = some d := callE Tryz.func66 (by kernel_rfl) (by kernel_rfl) (by kernel_rfl) h
noncomputable def P_r08_Deep (R : Orc) (x0 x1 : DV) : Option DV := eP Tryz.f67 fl_r08_Deep R [] (initSt Tryz.f67 [(x0, .val), (x1, .val)] [])
noncomputable def P_r08_Deep_4h (R : Orc) (t1 t5 b2 : DV) : Option DV := hP Tryz.f67 fl_r08_Deep R [true, true, false, true, false] (mst 23 [(1, t1), (5, t5)] [(2, (.loc 2 0))] [(2, some (bxs b2 0 3))] [])
theorem eq_r08_Deep (R : Orc) (x0 x1 : DV) : P_r08_Deep R x0 x1 =
 (og (isAggN 3 x0) <| ob (dBin .leq x1 (.int .i64 0)) fun d1 => oif d1 (some (.bool true)) (P_r08_Deep_4h R x1 (.int .i64 0) x0)) := evP_of [] (by kernel_rfl)
theorem eq_r08_Deep_4h (R : Orc) (t1 t5 b2 : DV) : P_r08_Deep_4h R t1 t5 b2 =
 (ob (dLen (proj 2 b2)) fun d1 => ob (dBin .lss t5 d1) fun d2 => oif d2 (ob (dIdx 3 (proj 2 b2) t5) fun d3 => ob (dBin .sub t1 (.int .i64 1)) fun d4 => ob (R.p F_r08_Deep [(ag3 d3), d4]) fun d5 => oif d5 (some (.bool true)) (ob (dBin .add t5 (.int .i64 1)) fun d6 => P_r08_Deep_4h R t1 d6 b2)) (some (.bool false))) := headP_of [] (by kernel_rfl)
theorem call_r08_Deep (x0 x1 : DV) {d : DV} (h : P_r08_Deep (run cfg) x0 x1 = some d) : (run cfg).p F_r08_Deep [x0, x1] = some d := callE Tryz.func67 (by kernel_rfl) (by kernel_rfl) (by kernel_rfl) h
noncomputable def P_r03_Vars (R : Orc) (x0 : DV) : Option DV := eP Tryz.f68 fl_r03_Vars R [] (initSt Tryz.f68 [(x0, .val)] [])
theorem eq_r03_Vars (R : Orc) (x0 : DV) : P_r03_Vars R x0 =
 (og (isAggN 3 x0) <| ob (R.r F_r03_vars [((ag3 x0), .val), ((.list 1 []), .own)] []) fun q1 => some (q1.1.getD 0 .undef)) := evP_of [] (by kernel_rfl)
theorem call_r03_Vars (x0 : DV) {d : DV} (h : P_r03_Vars (run cfg) x0 = some d) : (run cfg).p F_r03_Vars [x0] = some d := callE Tryz.func68 (by kernel_rfl) (by kernel_rfl) (by kernel_rfl) h
noncomputable def P_r03_Kids (R : Orc) (x0 : DV) : Option DV := eP Tryz.f69 fl_r03_Kids R [] (initSt Tryz.f69 [(x0, .val)] [])
theorem eq_r03_Kids (R : Orc) (x0 : DV) : P_r03_Kids R x0 =
 (ob (dBin .eql x0 (.int .i64 1)) fun d1 => oif d1 (some (.int .i64 0)) (ob (dBin .eql x0 (.int .i64 2)) fun d2 => oif d2 (some (.int .i64 0)) (ob (dBin .eql x0 (.int .i64 3)) fun d3 => oif d3 (some (.int .i64 0)) (ob (dBin .eql x0 (.int .i64 4)) fun d4 => oif d4 (some (.int .i64 0)) (ob (dBin .eql x0 (.int .i64 5)) fun d5 => oif d5 (some (.int .i64 0)) (ob (dBin .eql x0 (.int .i64 6)) fun d6 => oif d6 (some (.int .i64 0)) (ob (dBin .eql x0 (.int .i64 8)) fun d7 => oif d7 (some (.int .i64 1)) (ob (dBin .eql x0 (.int .i64 7)) fun d8 => oif d8 (some (.int .i64 2)) (ob (dBin .eql x0 (.int .i64 9)) fun d9 => oif d9 (some (.int .i64 2)) (some (.int .i64 (-1)))))))))))) := evP_of [] (by kernel_rfl)
theorem call_r03_Kids (x0 : DV) {d : DV} (h : P_r03_Kids (run cfg) x0 = some d) : (run cfg).p F_r03_Kids [x0] = some d := callE Tryz.func69 (by kernel_rfl) (by kernel_rfl) (by kernel_rfl) h
noncomputable def P_l17_weigh (R : Orc) (x0 x1 : DV) : Option DV := eP Tryz.f74 fl_l17_weigh R [] (initSt Tryz.f74 [(x0, .val), (x1, .val)] [])
noncomputable def P_l17_weigh_5h (R : Orc) (t1 t5 b2 : DV) : Option DV := hP Tryz.f74 fl_l17_weigh R [true, true, true, false, true, false] (mst 99 [(1, t1), (5, t5)] [(2, (.loc 2 0))] [(2, some (bxs b2 0 20))] [])
noncomputable def P_l17_weigh_11h (R : Orc) (t1 t6 b2 : DV) : Option DV := hP Tryz.f74 fl_l17_weigh R [true, true, true, true, false, true, false] (mst 99 [(1, t1), (6, t6)] [(2, (.loc 2 0))] [(2, some (bxs b2 0 20))] [])
noncomputable def P_l17_weigh_15h (R : Orc) (t1 t7 b2 : DV) : Option DV := hP Tryz.f74 fl_l17_weigh R [true, true, true, true, true, false, true, false] (mst 99 [(1, t1), (7, t7)] [(2, (.loc 2 0))] [(2, some (bxs b2 0 20))] [])
set_option maxRecDepth 100000 in
theorem eq_l17_weigh (R : Orc) (x0 x1 : DV) : P_l17_weigh R x0 x1 =
 (og (isAggN 20 x0) <| ob (dBin .add x1 (.int .i64 1)) fun d1 => ob (dLen (proj 10 x0)) fun d2 => ob (dBin .add d1 d2) fun d3 => ob (dLenS (proj 6 x0)) fun d4 => ob (dBin .gtr d4 (.int .i64 300)) fun d5 => ogd d5 (some (.int .i64 501)) (ob (dLenS (proj 3 x0)) fun d6 => ob (dBin .gtr d6 (.int .i64 300)) fun d7 => ogd d7 (some (.int .i64 501)) (ob (dLenS (proj 4 x0)) fun d8 => ob (dBin .gtr d8 (.int .i64 300)) fun d9 => ogd d9 (some (.int .i64 501)) (ob (R.p F_l17_light [(.agg [(proj 11 x0), (proj 12 x0), (proj 13 x0)])]) fun d10 => ob (dUn .not d10) fun d11 => ogd d11 (some (.int .i64 501)) (ob (R.p F_l17_light [(.agg [(proj 14 x0), (proj 15 x0), (proj 16 x0)])]) fun d12 => ob (dUn .not d12) fun d13 => oif d13 (some (.int .i64 501)) (P_l17_weigh_5h R d3 (.int .i64 0) x0)) none) none) none) none) := evP_of [] (by kernel_rfl)
theorem eq_l17_weigh_5h (R : Orc) (t1 t5 b2 : DV) : P_l17_weigh_5h R t1 t5 b2 =
 (ob (dLen (proj 17 b2)) fun d1 => ob (dBin .lss t5 d1) fun d2 => ogd d2 (ob (dBin .leq t1 (.int .i64 500)) fun d3 => oif d3 (ob (dBin .add t1 (.int .i64 1)) fun d4 => ob (dIdx 3 (proj 17 b2) t5) fun d5 => ob (R.p F_l17_light [(ag3 d5)]) fun d6 => ob (dUn .not d6) fun d7 => oif d7 (some (.int .i64 501)) (ob (dBin .add t5 (.int .i64 1)) fun d8 => P_l17_weigh_5h R d4 d8 b2)) (P_l17_weigh_11h R t1 (.int .i64 0) b2)) (P_l17_weigh_11h R t1 (.int .i64 0) b2) none) := headP_of [] (by kernel_rfl)
theorem eq_l17_weigh_11h (R : Orc) (t1 t6 b2 : DV) : P_l17_weigh_11h R t1 t6 b2 =
 (ob (dLen (proj 18 b2)) fun d1 => ob (dBin .lss t6 d1) fun d2 => ogd d2 (ob (dBin .leq t1 (.int .i64 500)) fun d3 => oif d3 (ob (dIdx 7 (proj 18 b2) t6) fun d4 => ob (R.p F_l17_weighPat [(ag7 d4), t1]) fun d5 => ob (dBin .add t6 (.int .i64 1)) fun d6 => P_l17_weigh_11h R d5 d6 b2) (P_l17_weigh_15h R t1 (.int .i64 0) b2)) (P_l17_weigh_15h R t1 (.int .i64 0) b2) none) := headP_of [] (by kernel_rfl)
theorem eq_l17_weigh_15h (R : Orc) (t1 t7 b2 : DV) : P_l17_weigh_15h R t1 t7 b2 =
 (ob (dLen (proj 19 b2)) fun d1 => ob (dBin .lss t7 d1) fun d2 => ogd d2 (ob (dBin .leq t1 (.int .i64 500)) fun d3 => oif d3 (ob (dIdx 20 (proj 19 b2) t7) fun d4 => ob (R.p F_l17_weigh [(ag20 d4), t1]) fun d5 => ob (dBin .add t7 (.int .i64 1)) fun d6 => P_l17_weigh_15h R d5 d6 b2) (some t1)) (some t1) none) := headP_of [] (by kernel_rfl)
theorem call_l17_weigh (x0 x1 : DV) {d : DV} (h : P_l17_weigh (run cfg) x0 x1 = some d) : (run cfg).p F_l17_weigh [x0, x1] = some d := callE Tryz.func74 (by kernel_rfl) (by kernel_rfl) (by kernel_rfl) h
noncomputable def P_r17_own (R : Orc) (x0 : DV) : Option DV := eP Tryz.f75 fl_r17_own R [] (initSt Tryz.f75 [(x0, .val)] [])
noncomputable def P_r17_own_5h (R : Orc) (t5 b1 : DV) : Option DV := hP Tryz.f75 fl_r17_own R [true, true, true, false, true, false] (mst 168 [(5, t5)] [(1, (.loc 1 0))] [(1, some (bxs b1 0 20))] [])
noncomputable def P_r17_own_10h (R : Orc) (t6 b1 : DV) : Option DV := hP Tryz.f75 fl_r17_own R [true, true, true, true, false, true, false] (mst 168 [(6, t6)] [(1, (.loc 1 0))] [(1, some (bxs b1 0 20))] [])
noncomputable def P_r17_own_15h (R : Orc) (t7 b1 : DV) : Option DV := hP Tryz.f75 fl_r17_own R [true, true, true, true, true, false, true, false] (mst 168 [(7, t7)] [(1, (.loc 1 0))] [(1, some (bxs b1 0 20))] [])
theorem eq_r17_own (R : Orc) (x0 : DV) : P_r17_own R x0 =
 (og (isAggN 20 x0) <| ob (R.p F_r17_bare [(ag20 x0)]) fun d1 => ob (dExt 0 d1) fun d2 => ob (dExt 1 d1) fun d3 => og (isAggN 20 d2) <| ob (dLen (proj 19 x0)) fun d4 => ob (dBin .neq d3 d4) fun d5 => ogd d5 (some (.bool false)) (ob (R.p F_r17_flat [(ag20 d2), (ag20 x0)]) fun d6 => ob (dUn .not d6) fun d7 => oif d7 (some (.bool false)) (P_r17_own_5h R (.int .i64 0) x0)) none) := evP_of [] (by kernel_rfl)
theorem eq_r17_own_5h (R : Orc) (t5 b1 : DV) : P_r17_own_5h R t5 b1 =
 (ob (dLen (proj 17 b1)) fun d1 => ob (dBin .lss t5 d1) fun d2 => oif d2 (ob (dIdx 3 (proj 17 b1) t5) fun d3 => ob (R.p F_r03_Right [(ag3 d3)]) fun d4 => ob (dUn .not d4) fun d5 => oif d5 (some (.bool false)) (ob (dBin .add t5 (.int .i64 1)) fun d6 => P_r17_own_5h R d6 b1)) (P_r17_own_10h R (.int .i64 0) b1)) := headP_of [] (by kernel_rfl)
theorem eq_r17_own_10h (R : Orc) (t6 b1 : DV) : P_r17_own_10h R t6 b1 =
 (ob (dLen (proj 10 b1)) fun d1 => ob (dBin .lss t6 d1) fun d2 => oif d2 (ob (dIdx 1 (proj 10 b1) t6) fun d3 => og (isLeaf d3) <| ob (dBin .lss d3 (.int .i64 0)) fun d4 => ogd d4 (some (.bool false)) (ob (dIdx 1 (proj 10 b1) t6) fun d5 => og (isLeaf d5) <| ob (dBin .gtr d5 (.int .i64 1048576)) fun d6 => oif d6 (some (.bool false)) (ob (dBin .add t6 (.int .i64 1)) fun d7 => P_r17_own_10h R d7 b1)) none) (P_r17_own_15h R (.int .i64 0) b1)) := headP_of [] (by kernel_rfl)
set_option maxRecDepth 100000 in
theorem eq_r17_own_15h (R : Orc) (t7 b1 : DV) : P_r17_own_15h R t7 b1 =
 (ob (dLen (proj 18 b1)) fun d1 => ob (dBin .lss t7 d1) fun d2 => oif d2 (ob (dIdx 7 (proj 18 b1) t7) fun d3 => ob (R.p F_r05_RightPat [(ag7 d3)]) fun d4 => ob (dUn .not d4) fun d5 => oif d5 (some (.bool false)) (ob (dBin .add t7 (.int .i64 1)) fun d6 => P_r17_own_15h R d6 b1)) (ob (dBin .eql (proj 0 b1) (.int .i64 1)) fun d7 => oif d7 (ob (R.p F_r01_Name [(proj 3 b1)]) fun d8 => some d8) (ob (dBin .eql (proj 0 b1) (.int .i64 11)) fun d9 => oif d9 (ob (R.p F_r01_Name [(proj 3 b1)]) fun d10 => some d10) (ob (dBin .eql (proj 0 b1) (.int .i64 3)) fun d11 => oif d11 (ob (dBin .eql (proj 5 b1) (.int .i64 0)) fun d12 => ogd d12 (some (.bool true)) (ob (dBin .eql (proj 5 b1) (.int .i64 1)) fun d13 => some d13) none) (ob (dBin .eql (proj 0 b1) (.int .i64 4)) fun d14 => oif d14 (ob (dLenS (proj 6 b1)) fun d15 => ob (dBin .leq d15 (.int .i64 200)) fun d16 => some d16) (ob (dBin .eql (proj 0 b1) (.int .i64 7)) fun d17 => oif d17 (ob (R.p F_r03_Right [(.agg [(proj 11 b1), (proj 12 b1), (proj 13 b1)])]) fun d18 => some d18) (ob (dBin .eql (proj 0 b1) (.int .i64 9)) fun d19 => oif d19 (ob (R.p F_r01_Name [(proj 3 b1)]) fun d20 => ogd d20 (ob (R.p F_r03_Right [(.agg [(proj 11 b1), (proj 12 b1), (proj 13 b1)])]) fun d21 =>
 some d21) (some (.bool false)) none) (ob (dBin .eql (proj 0 b1) (.int .i64 12)) fun d22 => oif d22 (ob (R.p F_r01_Name [(proj 3 b1)]) fun d23 => ogd d23 (ob (R.p F_r01_Name [(proj 4 b1)]) fun d24 => ogd d24 (ob (R.p F_r03_Right [(.agg [(proj 11 b1), (proj 12 b1), (proj 13 b1)])]) fun d25 => ogd d25 (ob (R.p F_r03_Right [(.agg [(proj 14 b1), (proj 15 b1), (proj 16 b1)])]) fun d26 => some d26) (some (.bool false)) none) (some (.bool false)) none) (some (.bool false)) none) (ob (dBin .eql (proj 0 b1) (.int .i64 14)) fun d27 => oif d27 (ob (dLen (proj 18 b1)) fun d28 => ob (dBin .gtr d28 (.int .i64 0)) fun d29 => some d29) (ob (dBin .eql (proj 0 b1) (.int .i64 15)) fun d30 => oif d30 (ob (dBin .geq (proj 7 b1) (.int .i64 1)) fun d31 => ogd d31 (ob (dBin .leq (proj 7 b1) (.int .i64 7)) fun d32 => some d32) (some (.bool false)) none) (ob (dBin .eql (proj 0 b1) (.int .i64 16)) fun d33 => oif d33 (ob (dBin .geq (proj 8 b1) (.int .i64 0)) fun d34 => ogd d34 (ob (dBin .leq (proj 8 b1) (.int .i64 1048576)) fun d35 => ogd d35 (ob (R.p F_r03_Right [(.agg [(proj 11 b1), (proj 12 b1), (proj 13 b1)])]) fun d36 => ogd d36 (ob (R.p F_r03_Right [(.agg [(proj 14 b1), (proj 15 b1), (proj 16 b1)])]) fun d37 =>
 some d37) (some (.bool false)) none) (some (.bool false)) none) (some (.bool false)) none) (some (.bool true))))))))))))) := headP_of [] (by kernel_rfl)
theorem call_r17_own (x0 : DV) {d : DV} (h : P_r17_own (run cfg) x0 = some d) : (run cfg).p F_r17_own [x0] = some d := callE Tryz.func75 (by kernel_rfl) (by kernel_rfl) (by kernel_rfl) h
noncomputable def P_r17_free (R : Orc) (x0 x1 x2 : DV) : Option DV := eP Tryz.f76 fl_r17_free R [] (initSt Tryz.f76 [(x0, .val), (x1, .val), (x2, .val)] [])
noncomputable def P_r17_free_3 (R : Orc) (t1 t2 b3 : DV) : Option DV := eP Tryz.f76 fl_r17_free R [true, true] (mst 44 [(1, t1), (2, t2)] [(3, (.loc 3 0))] [(3, some (bxs b3 0 20))] [])
noncomputable def P_r17_free_4h (R : Orc) (t1 t2 t7 b3 : DV) : Option DV := hP Tryz.f76 fl_r17_free R [true, true, false, true, false] (mst 44 [(1, t1), (2, t2), (7, t7)] [(3, (.loc 3 0))] [(3, some (bxs b3 0 20))] [])
theorem eq_r17_free (R : Orc) (x0 x1 x2 : DV) : P_r17_free R x0 x1 x2 =
 (og (isAggN 20 x0) <| ob (dBin .eql (proj 0 x0) (.int .i64 1)) fun d1 => ogd d1 (ob (R.p F_r05_Has [x1, (proj 3 x0)]) fun d2 => ob (dUn .not d2) fun d3 => oif d3 (ob (R.p F_r05_Rise [x2, (proj 3 x0)]) fun d4 => P_r17_free_3 R x1 d4 x0) (P_r17_free_3 R x1 x2 x0)) (P_r17_free_3 R x1 x2 x0) none) := evP_of [3] (by kernel_rfl)
theorem eq_r17_free_3 (R : Orc) (t1 t2 b3 : DV) : P_r17_free_3 R t1 t2 b3 =
 (P_r17_free_4h R t1 t2 (.int .i64 0) b3) := evP_of [3] (by kernel_rfl)
theorem eq_r17_free_4h (R : Orc) (t1 t2 t7 b3 : DV) : P_r17_free_4h R t1 t2 t7 b3 =
 (ob (dLen (proj 19 b3)) fun d1 => ob (dBin .lss t7 d1) fun d2 => oif d2 (ob (dIdx 20 (proj 19 b3) t7) fun d3 => ob (dApp 1 (.list 1 []) t1) fun d4 => ob (R.p F_r17_Binds [(ag20 b3), t7]) fun d5 => ob (dApp 1 d4 d5) fun d6 => ob (R.p F_r17_free [(ag20 d3), d6, t2]) fun d7 => ob (dBin .add t7 (.int .i64 1)) fun d8 => P_r17_free_4h R t1 d7 d8 b3) (some t2)) := headP_of [3] (by kernel_rfl)
theorem call_r17_free (x0 x1 x2 : DV) {d : DV} (h : P_r17_free (run cfg) x0 x1 x2 = some d) : (run cfg).p F_r17_free [x0, x1, x2] = some d := callE Tryz.func76 (by kernel_rfl) (by kernel_rfl) (by kernel_rfl) h
noncomputable def code_r17_bulk : Code := Tryz.f77.body.getD .skip
noncomputable def P_r17_bulk (R : Orc) (x0 : Nat) (x1 x2 : DV) (sg : List SObj) : Option (List DV × List SObj) := evP cfg R fl_r17_bulk (retR cfg.P Tryz.f77 sig_r17_bulk) [] code_r17_bulk (initSt Tryz.f77 [(.undef, (.ptr x0 0)), (x1, .val), (x2, .val)] sg)
noncomputable def P_r17_bulk_5h (R : Orc) (t0i : Nat) (t2 t7 t8 b4 : DV) (sg : List SObj) : Option (List DV × List SObj) := headP cfg R fl_r17_bulk (retR cfg.P Tryz.f77 sig_r17_bulk) [true, true, true, false, true, false] code_r17_bulk (mst 200 [(2, t2), (7, t7), (8, t8)] [(0, (.ptr t0i 0)), (4, (.loc 4 0)), (7, .own)] [(4, some (bxs b4 0 20))] sg)
noncomputable def P_r17_bulk_22 (R : Orc) (t0i : Nat) (t2 t7 t8 t9 b4 : DV) (sg : List SObj) : Option (List DV × List SObj) := evP cfg R fl_r17_bulk (retR cfg.P Tryz.f77 sig_r17_bulk) [true, true, true, false, true, false, false, true, false, false, true, true] code_r17_bulk (mst 200 [(2, t2), (7, t7), (8, t8), (9, t9)] [(0, (.ptr t0i 0)), (4, (.loc 4 0)), (7, .own)] [(4, some (bxs b4 0 20))] sg)
noncomputable def P_r17_bulk_12 (R : Orc) (t0i : Nat) (t2 t7 t8 t9 b4 : DV) (sg : List SObj) : Option (List DV × List SObj) := evP cfg R fl_r17_bulk (retR cfg.P Tryz.f77 sig_r17_bulk) [true, true, true, false, true, false, false, true, false, false, true, false, false, true, true, true, true] code_r17_bulk (mst 200 [(2, t2), (7, t7), (8, t8), (9, t9)] [(0, (.ptr t0i 0)), (4, (.loc 4 0)), (7, .own)] [(4, some (bxs b4 0 20))] sg)
noncomputable def P_r17_bulk_25h (R : Orc) (t0i : Nat) (t2 t7 t12 t13 b4 : DV) (sg : List SObj) : Option (List DV × List SObj) := headP cfg R fl_r17_bulk (retR cfg.P Tryz.f77 sig_r17_bulk) [true, true, true, true, true, false, true, false] code_r17_bulk (mst 200 [(2, t2), (7, t7), (12, t12), (13, t13)] [(0, (.ptr t0i 0)), (4, (.loc 4 0))] [(4, some (bxs b4 0 20))] sg)
noncomputable def P_r17_bulk_19h (R : Orc) (t0i : Nat) (t2 t7 t8 t9 t10 t11 b4 : DV) (sg : List SObj) : Option (List DV × List SObj) := headP cfg R fl_r17_bulk (retR cfg.P Tryz.f77 sig_r17_bulk) [true, true, true, false, true, false, false, true, false, false, true, false, false, true, true, true, true, true, true, true, false, true, true, false] code_r17_bulk (mst 200 [(2, t2), (7, t7), (8, t8), (9, t9), (10, t10), (11, t11)] [(0, (.ptr t0i 0)), (4, (.loc 4 0)), (7, .own)] [(4, some (bxs b4 0 20))] sg)
theorem eq_r17_bulk (R : Orc) (x0 : Nat) (x1 x2 : DV) (sg : List SObj) : P_r17_bulk R x0 x1 x2 sg =
 (og (isAggN 20 x1) <| ob (sgBox sg x0) fun c1 => ob (cellDat c1 0) fun d2 => oif d2 (some ([(.int .i64 1)], sg)) (P_r17_bulk_5h R x0 x2 (.list 1 []) (.int .i64 0) x1 sg)) := evP_of [12, 22] (by kernel_rfl)
theorem eq_r17_bulk_5h (R : Orc) (t0i : Nat) (t2 t7 t8 b4 : DV) (sg : List SObj) : P_r17_bulk_5h R t0i t2 t7 t8 b4 sg =
 (ob (dLen (proj 19 b4)) fun d1 => ob (dBin .lss t8 d1) fun d2 => oif d2 (ob (dBin .eql (proj 0 b4) (.int .i64 9)) fun d3 => oif d3 (ob (R.p F_r03_Size [(.agg [(proj 11 b4), (proj 12 b4), (proj 13 b4)])]) fun d4 => ob (R.r F_r16_Bulk_Of [(.undef, (.ptr t0i 0)), (d4, .val)] sg) fun q5 => ob (R.p F_r17_more [t2, (proj 3 b4), (q5.1.getD 0 .undef)]) fun d6 => P_r17_bulk_22 R t0i t2 t7 t8 d6 b4 q5.2) (ob (dBin .eql (proj 0 b4) (.int .i64 11)) fun d7 => ogd d7 (ob (dBin .eql t8 (.int .i64 1)) fun d8 => oif d8 (ob (dIdx 1 t7 (.int .i64 0)) fun d9 => og (isLeaf d9) <| ob (R.p F_r17_more [t2, (proj 3 b4), d9]) fun d10 => P_r17_bulk_22 R t0i t2 t7 t8 d10 b4 sg) (P_r17_bulk_12 R t0i t2 t7 t8 t2 b4 sg)) (P_r17_bulk_12 R t0i t2 t7 t8 t2 b4 sg) none)) (P_r17_bulk_25h R t0i t2 t7 (.int .i64 1) (.int .i64 0) b4 sg)) := headP_of [12, 22] (by kernel_rfl)
theorem eq_r17_bulk_22 (R : Orc) (t0i : Nat) (t2 t7 t8 t9 b4 : DV) (sg : List SObj) : P_r17_bulk_22 R t0i t2 t7 t8 t9 b4 sg =
 (ob (dIdx 20 (proj 19 b4) t8) fun d1 => ob (R.r F_r17_bulk [(.undef, (.ptr t0i 0)), ((ag20 d1), .val), (t9, .val)] sg) fun q2 => og (isCell (q2.1.getD 0 .undef)) <| ob (dApp 1 t7 (.list 1 [(q2.1.getD 0 .undef)])) fun d3 => ob (dBin .add t8 (.int .i64 1)) fun d4 => P_r17_bulk_5h R t0i t2 d3 d4 b4 q2.2) := evP_of [12, 22] (by kernel_rfl)
set_option maxRecDepth 100000 in
theorem eq_r17_bulk_12 (R : Orc) (t0i : Nat) (t2 t7 t8 t9 b4 : DV) (sg : List SObj) : P_r17_bulk_12 R t0i t2 t7 t8 t9 b4 sg =
 (ob (dBin .eql (proj 0 b4) (.int .i64 12)) fun d1 => oif d1 (ob (R.p F_r03_Size [(.agg [(proj 11 b4), (proj 12 b4), (proj 13 b4)])]) fun d2 => ob (R.p F_r03_Size [(.agg [(proj 14 b4), (proj 15 b4), (proj 16 b4)])]) fun d3 => ob (dBin .add d2 d3) fun d4 => ob (dBin .add d4 (.int .i64 1)) fun d5 => ob (R.r F_r16_Bulk_Of [(.undef, (.ptr t0i 0)), (d5, .val)] sg) fun q6 => ob (R.p F_r17_more [t2, (proj 3 b4), (q6.1.getD 0 .undef)]) fun d7 => ob (dBin .eql t8 (.int .i64 0)) fun d8 => oif d8 (ob (R.p F_r03_Size [(.agg [(proj 11 b4), (proj 12 b4), (proj 13 b4)])]) fun d9 => ob (R.r F_r16_Bulk_Of [(.undef, (.ptr t0i 0)), (d9, .val)] q6.2) fun q10 => ob (R.p F_r17_more [d7, (proj 4 b4), (q10.1.getD 0 .undef)]) fun d11 => P_r17_bulk_22 R t0i t2 t7 t8 d11 b4 q10.2) (P_r17_bulk_22 R t0i t2 t7 t8 d7 b4 q6.2)) (ob (dBin .eql (proj 0 b4) (.int .i64 14)) fun d12 => ogd d12 (ob (dBin .gtr t8 (.int .i64 0)) fun d13 => ogd d13 (ob (dLen (proj 18 b4)) fun d14 => ob (dBin .leq t8 d14) fun d15 => oif d15 (ob (dBin .sub t8 (.int .i64 1)) fun d16 => ob (dIdx 7 (proj 18 b4) d16) fun d17 => ob (R.p F_r05_Names [(ag7 d17)]) fun d18 => P_r17_bulk_19h R t0i t2 t7 t8 t9 d18 (.int .i64 0) b4 sg) (P_r17_bulk_22 R t0i t2 t7 t8 t9 b4 sg)) (P_r17_bulk_22 R t0i t2 t7 t8 t9 b4 sg) none) (P_r17_bulk_22 R t0i t2 t7 t8 t9 b4 sg) none)) := evP_of [12, 22] (by kernel_rfl)
set_option maxRecDepth 100000 in
theorem eq_r17_bulk_25h (R : Orc) (t0i : Nat) (t2 t7 t12 t13 b4 : DV) (sg : List SObj) : P_r17_bulk_25h R t0i t2 t7 t12 t13 b4 sg =
 (ob (dLen t7) fun d1 => ob (dBin .lss t13 d1) fun d2 => oif d2 (ob (dIdx 1 t7 t13) fun d3 => og (isLeaf d3) <| ob (dMax t12 d3) fun d4 => ob (dBin .add t13 (.int .i64 1)) fun d5 => P_r17_bulk_25h R t0i t2 t7 d4 d5 b4 sg) (ob (dBin .eql (proj 0 b4) (.int .i64 1)) fun d6 => oif d6 (ob (R.r F_r16_Bulk_Named [(.undef, (.ptr t0i 0)), (t2, .val), ((proj 3 b4), .val), ((proj 17 b4), .val)] sg) fun q7 => some ([(q7.1.getD 0 .undef)], q7.2)) (ob (dBin .eql (proj 0 b4) (.int .i64 7)) fun d8 => oif d8 (ob (R.p F_r03_Size [(.agg [(proj 11 b4), (proj 12 b4), (proj 13 b4)])]) fun d9 => ob (dBin .add d9 (.int .i64 1)) fun d10 => ob (R.r F_r16_Bulk_Of [(.undef, (.ptr t0i 0)), (d10, .val)] sg) fun q11 => some ([(q11.1.getD 0 .undef)], q11.2)) (ob (dBin .eql (proj 0 b4) (.int .i64 6)) fun d12 => oif d12 (ob (dIdx 1 t7 (.int .i64 0)) fun d13 => og (isLeaf d13) <| ob (dIdx 1 t7 (.int .i64 1)) fun d14 => og (isLeaf d14) <| ob (dBin .add d13 d14) fun d15 => ob (dBin .add d15 (.int .i64 1)) fun d16 => ob (R.r F_r16_Bulk_Of [(.undef, (.ptr t0i 0)), (d16, .val)] sg) fun q17 => some ([(q17.1.getD 0 .undef)], q17.2)) (ob (dBin .eql (proj 0 b4) (.int .i64 8)) fun d18 => oif d18 (ob (dBin .add t12 (.int .i64 1)) fun d19 =>
 ob (R.r F_r16_Bulk_Of [(.undef, (.ptr t0i 0)), (d19, .val)] sg) fun q20 => some ([(q20.1.getD 0 .undef)], q20.2)) (ob (dBin .eql (proj 0 b4) (.int .i64 9)) fun d21 => oif d21 (ob (R.p F_r03_Size [(.agg [(proj 11 b4), (proj 12 b4), (proj 13 b4)])]) fun d22 => ob (dBin .add d22 (.int .i64 1)) fun d23 => ob (dIdx 1 t7 (.int .i64 0)) fun d24 => og (isLeaf d24) <| ob (dBin .add d23 d24) fun d25 => ob (R.r F_r16_Bulk_Of [(.undef, (.ptr t0i 0)), (d25, .val)] sg) fun q26 => some ([(q26.1.getD 0 .undef)], q26.2)) (ob (dBin .eql (proj 0 b4) (.int .i64 16)) fun d27 => oif d27 (ob (R.p F_r03_Size [(.agg [(proj 14 b4), (proj 15 b4), (proj 16 b4)])]) fun d28 => ob (R.r F_r16_Bulk_Of [(.undef, (.ptr t0i 0)), (d28, .val)] sg) fun q29 => some ([(q29.1.getD 0 .undef)], q29.2)) (some ([t12], sg))))))))) := headP_of [12, 22] (by kernel_rfl)
theorem eq_r17_bulk_19h (R : Orc) (t0i : Nat) (t2 t7 t8 t9 t10 t11 b4 : DV) (sg : List SObj) : P_r17_bulk_19h R t0i t2 t7 t8 t9 t10 t11 b4 sg =
 (ob (dLen t10) fun d1 => ob (dBin .lss t11 d1) fun d2 => oif d2 (ob (dIdx 1 t10 t11) fun d3 => og (isLeaf d3) <| ob (dIdx 1 t7 (.int .i64 0)) fun d4 => og (isLeaf d4) <| ob (R.p F_r17_more [t9, d3, d4]) fun d5 => ob (dBin .add t11 (.int .i64 1)) fun d6 => P_r17_bulk_19h R t0i t2 t7 t8 d5 t10 d6 b4 sg) (P_r17_bulk_22 R t0i t2 t7 t8 t9 b4 sg)) := headP_of [12, 22] (by kernel_rfl)
theorem fix_r17_bulk (x0 : Nat) (x1 x2 : DV) (sg : List SObj) : (run cfg).r F_r17_bulk [(.undef, (.ptr x0 0)), (x1, .val), (x2, .val)] sg = P_r17_bulk (run cfg) x0 x1 x2 sg :=
 (fix_raw (C := cfg) (f := F_r17_bulk) (s := sig_r17_bulk) (fn := Tryz.f77) (c := code_r17_bulk) (by kernel_rfl) Tryz.func77 (by kernel_rfl)).trans (by kernel_rfl)
theorem call_r17_bulk (x0 : Nat) (x1 x2 : DV) (sg : List SObj) {q : List DV × List SObj} (h : P_r17_bulk (run cfg) x0 x1 x2 sg = some q) : (run cfg).r F_r17_bulk [(.undef, (.ptr x0 0)), (x1, .val), (x2, .val)] sg = some q := (fix_r17_bulk x0 x1 x2 sg).trans h
noncomputable def P_term_Check (R : Orc) (x0 : DV) : Option DV := eP Tryz.f78 fl_term_Check R [] (initSt Tryz.f78 [(x0, .val)] [])
theorem eq_term_Check (R : Orc) (x0 : DV) : P_term_Check R x0 =
 (og (isAggN 20 x0) <| ob (R.p F_term_right [(ag20 x0)]) fun d1 => ob (dUn .not d1) fun d2 => oif d2 (some (.int .i64 1)) (some (.int .i64 0))) := evP_of [] (by kernel_rfl)
theorem call_term_Check (x0 : DV) {d : DV} (h : P_term_Check (run cfg) x0 = some d) : (run cfg).p F_term_Check [x0] = some d := callE Tryz.func78 (by kernel_rfl) (by kernel_rfl) (by kernel_rfl) h
noncomputable def code_check_scope_term : Code := Tryz.f79.body.getD .skip
noncomputable def P_check_scope_term (R : Orc) (x0 : Nat) (x1 x2 : DV) (sg : List SObj) : Option (List DV × List SObj) := evP cfg R fl_check_scope_term (retR cfg.P Tryz.f79 sig_check_scope_term) [] code_check_scope_term (initSt Tryz.f79 [(.undef, (.map x0)), (x1, .val), (x2, .val)] sg)
noncomputable def P_check_scope_term_8 (R : Orc) (b4 : DV) (sg : List SObj) : Option (List DV × List SObj) := evP cfg R fl_check_scope_term (retR cfg.P Tryz.f79 sig_check_scope_term) [true, false, true, false, true, true, true, false] code_check_scope_term (mst 120 [] [(4, (.loc 4 0)), (6, (.loc 6 0))] [(4, some (bxs b4 0 20)), (6, some zb1)] sg)
set_option maxRecDepth 100000 in
theorem eq_check_scope_term (R : Orc) (x0 : Nat) (x1 x2 : DV) (sg : List SObj) : P_check_scope_term R x0 x1 x2 sg =
 (og (isAggN 20 x1) <| ob (dBin .eql (proj 0 x1) (.int .i64 1)) fun d1 => oif d1 (ob (R.r F_check_scope_name [(.undef, (.map x0)), ((ag20 x1), .val), (x2, .val)] sg) fun q2 => ob (dExt 0 (.tup q2.1)) fun d3 => ob (dExt 1 (.tup q2.1)) fun d4 => og (isAggN 3 d3) <| some ([(ag3 d3), d4], q2.2)) (ob (dBin .eql (proj 0 x1) (.int .i64 2)) fun d5 => oif d5 (P_check_scope_term_8 R x1 sg) (ob (dBin .eql (proj 0 x1) (.int .i64 3)) fun d6 => oif d6 (P_check_scope_term_8 R x1 sg) (ob (dBin .eql (proj 0 x1) (.int .i64 4)) fun d7 => oif d7 (P_check_scope_term_8 R x1 sg) (ob (dBin .eql (proj 0 x1) (.int .i64 5)) fun d8 => oif d8 (P_check_scope_term_8 R x1 sg) (ob (dBin .eql (proj 0 x1) (.int .i64 7)) fun d9 => oif d9 (ob (R.r F_check_scope_has [(.undef, (.map x0)), ((.list 3 [(.agg [(proj 11 x1), (proj 12 x1), (proj 13 x1)])]), .val)] sg) fun q10 => ob (dUn .not (q10.1.getD 0 .undef)) fun d11 => oif d11 (some ([(.agg [(.int .i64 0), (.int .i64 0), (.list 3 [])]), (.int .i64 6)], q10.2)) (some ([(.agg [(.int .i64 8), (.int .i64 0), (.list 3 [(.agg [(proj 11 x1), (proj 12 x1), (proj 13 x1)])])]), (.int .i64 0)], q10.2))) (ob (dBin .eql (proj 0 x1) (.int .i64 9)) fun d12 => oif d12 (ob (R.r F_check_scope_has [(.undef, (.map x0)), ((.list 3 [(.agg [(proj 11 x1), (proj 12 x1), (proj 13 x1)])]), .val)] sg) fun q13 =>
 ob (dUn .not (q13.1.getD 0 .undef)) fun d14 => oif d14 (some ([(.agg [(.int .i64 0), (.int .i64 0), (.list 3 [])]), (.int .i64 6)], q13.2)) (ob (dIdx 20 (proj 19 x1) (.int .i64 0)) fun d15 => og (isCell (proj 3 x1)) <| ob (R.r F_check_with [(x2, .val), ((.list 5 [(.agg [(proj 3 x1), (proj 11 x1), (proj 12 x1), (proj 13 x1), (.list 1 [])])]), .val)] q13.2) fun q16 => ob (R.r F_check_scope_term [(.undef, (.map x0)), ((ag20 d15), .val), ((q16.1.getD 0 .undef), .val)] q16.2) fun q17 => ob (dExt 0 (.tup q17.1)) fun d18 => ob (dExt 1 (.tup q17.1)) fun d19 => og (isAggN 3 d18) <| ob (dBin .neq d19 (.int .i64 0)) fun d20 => oif d20 (some ([(.agg [(.int .i64 0), (.int .i64 0), (.list 3 [])]), d19], q17.2)) (ob (R.p F_check_fun [(.agg [(proj 11 x1), (proj 12 x1), (proj 13 x1)]), (ag3 d18)]) fun d21 => og (isAggN 3 d21) <| some ([(ag3 d21), (.int .i64 0)], q17.2)))) (ob (dBin .eql (proj 0 x1) (.int .i64 11)) fun d22 => oif d22 (ob (R.r F_check_scope_let [(.undef, (.map x0)), ((ag20 x1), .val), (x2, .val)] sg) fun q23 => ob (dExt 0 (.tup q23.1)) fun d24 => ob (dExt 1 (.tup q23.1)) fun d25 => og (isAggN 3 d24) <| some ([(ag3 d24), d25], q23.2)) (ob (dBin .eql (proj 0 x1) (.int .i64 12)) fun d26 =>
 oif d26 (ob (R.r F_check_scope_rec [(.undef, (.map x0)), ((ag20 x1), .val), (x2, .val)] sg) fun q27 => ob (dExt 0 (.tup q27.1)) fun d28 => ob (dExt 1 (.tup q27.1)) fun d29 => og (isAggN 3 d28) <| some ([(ag3 d28), d29], q27.2)) (ob (dBin .eql (proj 0 x1) (.int .i64 14)) fun d30 => oif d30 (ob (R.r F_check_scope_match [(.undef, (.map x0)), ((ag20 x1), .val), (x2, .val)] sg) fun q31 => ob (dExt 0 (.tup q31.1)) fun d32 => ob (dExt 1 (.tup q31.1)) fun d33 => og (isAggN 3 d32) <| some ([(ag3 d32), d33], q31.2)) (ob (R.r F_check_scope_kids [(.undef, (.map x0)), ((ag20 x1), .val), (x2, .val)] sg) fun q34 => ob (dExt 0 (.tup q34.1)) fun d35 => ob (dExt 1 (.tup q34.1)) fun d36 => ob (dBin .neq d36 (.int .i64 0)) fun d37 => oif d37 (some ([(.agg [(.int .i64 0), (.int .i64 0), (.list 3 [])]), d36], q34.2)) (ob (R.r F_check_scope_of [(.undef, (.map x0)), ((ag20 x1), .val), (d35, .val)] q34.2) fun q38 => ob (dExt 0 (.tup q38.1)) fun d39 => ob (dExt 1 (.tup q38.1)) fun d40 => og (isAggN 3 d39) <| some ([(ag3 d39), d40], q38.2))))))))))))) := evP_of [8] (by kernel_rfl)
theorem eq_check_scope_term_8 (R : Orc) (b4 : DV) (sg : List SObj) : P_check_scope_term_8 R b4 sg =
 (ob (dBin .sub (proj 0 b4) (.int .i64 2)) fun d1 => ob (dBin .add d1 (.int .i64 1)) fun d2 => og (isCell d2) <| some ([(.agg [d2, (.int .i64 0), (.list 3 [])]), (.int .i64 0)], sg)) := evP_of [8] (by kernel_rfl)
theorem fix_check_scope_term (x0 : Nat) (x1 x2 : DV) (sg : List SObj) : (run cfg).r F_check_scope_term [(.undef, (.map x0)), (x1, .val), (x2, .val)] sg = P_check_scope_term (run cfg) x0 x1 x2 sg :=
 (fix_raw (C := cfg) (f := F_check_scope_term) (s := sig_check_scope_term) (fn := Tryz.f79) (c := code_check_scope_term) (by kernel_rfl) Tryz.func79 (by kernel_rfl)).trans (by kernel_rfl)
theorem call_check_scope_term (x0 : Nat) (x1 x2 : DV) (sg : List SObj) {q : List DV × List SObj} (h : P_check_scope_term (run cfg) x0 x1 x2 sg = some q) : (run cfg).r F_check_scope_term [(.undef, (.map x0)), (x1, .val), (x2, .val)] sg = some q := (fix_check_scope_term x0 x1 x2 sg).trans h
noncomputable def P_l19_cast (R : Orc) (x0 x1 x2 : DV) : Option DV := eP Tryz.f80 fl_l19_cast R [] (initSt Tryz.f80 [(x0, .val), (x1, .val), (x2, .val)] [])
theorem eq_l19_cast (R : Orc) (x0 x1 x2 : DV) : P_l19_cast R x0 x1 x2 =
 (og (isAggN 20 x2) <| ob (R.p F_r03_Leaf [x0]) fun d1 => ob (R.p F_r03_Leaf [x1]) fun d2 => og (isAggN 3 d1) <| og (isAggN 3 d2) <| some (.agg [(.int .i64 16), (.int .i64 0), (.int .i64 0), (.str ⟨#[]⟩), (.str ⟨#[]⟩), (.int .i64 0), (.str ⟨#[]⟩), (.int .i64 0), (.int .i64 0), (.bool false), (.list 1 []), (proj 0 d1), (proj 1 d1), (proj 2 d1), (proj 0 d2), (proj 1 d2), (proj 2 d2), (.list 3 []), (.list 7 []), (.list 20 [(ag20 x2)])])) := evP_of [] (by kernel_rfl)
theorem call_l19_cast (x0 x1 x2 : DV) {d : DV} (h : P_l19_cast (run cfg) x0 x1 x2 = some d) : (run cfg).p F_l19_cast [x0, x1, x2] = some d := callE Tryz.func80 (by kernel_rfl) (by kernel_rfl) (by kernel_rfl) h
noncomputable def P_term_right (R : Orc) (x0 : DV) : Option DV := eP Tryz.f81 fl_term_right R [] (initSt Tryz.f81 [(x0, .val)] [])
noncomputable def P_term_right_4h (R : Orc) (t9 t10 t11 : DV) : Option DV := hP Tryz.f81 fl_term_right R [true, true, false, true, false] (mst 19 [(9, t9), (10, t10), (11, t11)] [] [] [])
theorem eq_term_right (R : Orc) (x0 : DV) : P_term_right R x0 =
 (og (isAggN 20 x0) <| ob (R.p F_term_one [(ag20 x0)]) fun d1 => ob (dUn .not d1) fun d2 => oif d2 (some (.bool false)) (ob (dLen (proj 19 x0)) fun d3 => P_term_right_4h R (proj 19 x0) d3 (.int .i64 0))) := evP_of [] (by kernel_rfl)
theorem eq_term_right_4h (R : Orc) (t9 t10 t11 : DV) : P_term_right_4h R t9 t10 t11 =
 (ob (dBin .lss t11 t10) fun d1 => oif d1 (ob (dIdx 20 t9 t11) fun d2 => ob (R.p F_term_right [(ag20 d2)]) fun d3 => ob (dUn .not d3) fun d4 => oif d4 (some (.bool false)) (ob (dBin .add t11 (.int .i64 1)) fun d5 => P_term_right_4h R t9 t10 d5)) (some (.bool true))) := headP_of [] (by kernel_rfl)
theorem call_term_right (x0 : DV) {d : DV} (h : P_term_right (run cfg) x0 = some d) : (run cfg).p F_term_right [x0] = some d := callE Tryz.func81 (by kernel_rfl) (by kernel_rfl) (by kernel_rfl) h
noncomputable def P_term_Free (R : Orc) (x0 : DV) : Option DV := evP cfg R fl_term_Free (keyK cfg R fl_term_Free kp_term_Free cut_term_Free.post (retP cfg.P Tryz.f82)) [] (seqs cut_term_Free.pre .skip) (initSt Tryz.f82 [(x0, .val)] [])
theorem eq_term_Free (R : Orc) (x0 : DV) : P_term_Free R x0 =
 (og (isAggN 20 x0) <| ob (R.p F_term_right [(ag20 x0)]) fun d1 => ob (dUn .not d1) fun d2 => oif d2 (some (.list 1 [])) (ob (R.r F_term_free [((ag20 x0), .val), (.undef, (.map 1)), (.undef, (.map 0))] [.map true [], .map true []]) fun q3 => ob (sgMap q3.2 0) fun m4 => og (m4.1 && true && true) <| if m4.2.length ≤ lim then (some (sortKeys m4.2)) else none)) := evP_of [] (by kernel_rfl)
theorem fix_term_Free (x0 : DV) : (run cfg).p F_term_Free [x0] = P_term_Free (run cfg) x0 :=
 (fix_cut (C := cfg) (f := F_term_Free) (fn := Tryz.f82) (c := kc_term_Free) (p := cut_term_Free) rfl Tryz.func82 (by kernel_rfl)).trans ((congrArg (fun k => evP cfg (run cfg) fl_term_Free k [] (seqs cut_term_Free.pre .skip) (initSt Tryz.f82 ([x0].map fun d => (d, .val)) [])) (keyK_eq (q := kp_term_Free) (p := cut_term_Free) (by kernel_rfl))).trans (by kernel_rfl))
theorem call_term_Free (x0 : DV) {d : DV} (h : P_term_Free (run cfg) x0 = some d) : (run cfg).p F_term_Free [x0] = some d := (fix_term_Free x0).trans h
noncomputable def P_term_For (R : Orc) (x0 x1 x2 x3 : DV) : Option DV := eP Tryz.f83 fl_term_For R [] (initSt Tryz.f83 [(x0, .val), (x1, .val), (x2, .val), (x3, .val)] [])
theorem eq_term_For (R : Orc) (x0 x1 x2 x3 : DV) : P_term_For R x0 x1 x2 x3 =
 (og (isAggN 20 x0) <| og (isAggN 20 x3) <| og (isCell x1) <| og (isCell x2) <| ob (R.r F_term_putting_in [(.undef, (.ptr 0 0)), ((ag20 x0), .val)] [SObj.box [(x1, .val), (x2, .val), ((proj 0 x3), .val), ((proj 1 x3), .val), ((proj 2 x3), .val), ((proj 3 x3), .val), ((proj 4 x3), .val), ((proj 5 x3), .val), ((proj 6 x3), .val), ((proj 7 x3), .val), ((proj 8 x3), .val), ((proj 9 x3), .val), ((proj 10 x3), .val), ((proj 11 x3), .val), ((proj 12 x3), .val), ((proj 13 x3), .val), ((proj 14 x3), .val), ((proj 15 x3), .val), ((proj 16 x3), .val), ((proj 17 x3), .val), ((proj 18 x3), .val), ((proj 19 x3), .val)]]) fun q1 => ob (dExt 0 (.tup q1.1)) fun d2 => ob (dExt 1 (.tup q1.1)) fun d3 => og (isAggN 20 d2) <| ob (dUn .not d3) fun d4 => oif d4 (some (.tup [zA3, (.int .i64 8)])) (some (.tup [(ag20 d2), (.int .i64 0)]))) := evP_of [] (by kernel_rfl)
theorem call_term_For (x0 x1 x2 x3 : DV) {d : DV} (h : P_term_For (run cfg) x0 x1 x2 x3 = some d) : (run cfg).p F_term_For [x0, x1, x2, x3] = some d := callE Tryz.func83 (by kernel_rfl) (by kernel_rfl) (by kernel_rfl) h
end Go.Su

/-
 Equations of the program's functions: by program.
-/
namespace Go.Su
open Go.Proofs
set_option linter.unusedVariables false
noncomputable def P_word_Key (R : Orc) (x0 : DV) : Option DV := eP Tryz.f97 fl_word_Key R [] (initSt Tryz.f97 [(x0, .val)] [])
theorem eq_word_Key (R : Orc) (x0 : DV) : P_word_Key R x0 =
 (ob (dBin .eql x0 (.str ⟨#[108, 101, 116]⟩)) fun d1 => oif d1 (some (.bool true)) (ob (dBin .eql x0 (.str ⟨#[114, 101, 99]⟩)) fun d2 => oif d2 (some (.bool true)) (ob (dBin .eql x0 (.str ⟨#[105, 110]⟩)) fun d3 => oif d3 (some (.bool true)) (ob (dBin .eql x0 (.str ⟨#[102, 117, 110]⟩)) fun d4 => oif d4 (some (.bool true)) (ob (dBin .eql x0 (.str ⟨#[105, 102]⟩)) fun d5 => oif d5 (some (.bool true)) (ob (dBin .eql x0 (.str ⟨#[116, 104, 101, 110]⟩)) fun d6 => oif d6 (some (.bool true)) (ob (dBin .eql x0 (.str ⟨#[101, 108, 115, 101]⟩)) fun d7 => oif d7 (some (.bool true)) (ob (dBin .eql x0 (.str ⟨#[109, 97, 116, 99, 104]⟩)) fun d8 => oif d8 (some (.bool true)) (ob (dBin .eql x0 (.str ⟨#[119, 105, 116, 104]⟩)) fun d9 => oif d9 (some (.bool true)) (ob (dBin .eql x0 (.str ⟨#[101, 110, 100]⟩)) fun d10 => oif d10 (some (.bool true)) (ob (dBin .eql x0 (.str ⟨#[116, 114, 117, 101]⟩)) fun d11 => oif d11 (some (.bool true)) (ob (dBin .eql x0 (.str ⟨#[102, 97, 108, 115, 101]⟩)) fun d12 => oif d12 (some (.bool true)) (ob (dBin .eql x0 (.str ⟨#[105, 110, 116]⟩)) fun d13 => oif d13 (some (.bool true)) (ob (dBin .eql x0 (.str ⟨#[98, 111, 111, 108]⟩)) fun d14 => oif d14 (some (.bool true)) (ob (dBin .eql x0 (.str ⟨#[115, 116, 114, 105, 110, 103]⟩)) fun d15 =>
 oif d15 (some (.bool true)) (ob (dBin .eql x0 (.str ⟨#[117, 110, 105, 116]⟩)) fun d16 => oif d16 (some (.bool true)) (ob (dBin .eql x0 (.str ⟨#[108, 105, 115, 116]⟩)) fun d17 => oif d17 (some (.bool true)) (some (.bool false))))))))))))))))))) := evP_of [] (by kernel_rfl)
theorem call_word_Key (x0 : DV) {d : DV} (h : P_word_Key (run cfg) x0 = some d) : (run cfg).p F_word_Key [x0] = some d := callE Tryz.func97 (by kernel_rfl) (by kernel_rfl) (by kernel_rfl) h
noncomputable def P_word_inner (R : Orc) (x0 : DV) : Option DV := eP Tryz.f98 fl_word_inner R [] (initSt Tryz.f98 [(x0, .val)] [])
set_option maxRecDepth 100000 in
theorem eq_word_inner (R : Orc) (x0 : DV) : P_word_inner R x0 =
 (ob (dBin .geq x0 (.int .u8 97)) fun d1 => ogd d1 (ob (dBin .leq x0 (.int .u8 122)) fun d2 => ogd d2 (some (.bool true)) (ob (dBin .geq x0 (.int .u8 65)) fun d3 => ogd d3 (ob (dBin .leq x0 (.int .u8 90)) fun d4 => ogd d4 (some (.bool true)) (ob (dBin .geq x0 (.int .u8 48)) fun d5 => ogd d5 (ob (dBin .leq x0 (.int .u8 57)) fun d6 => ogd d6 (some (.bool true)) (ob (dBin .eql x0 (.int .u8 95)) fun d7 => ogd d7 (some (.bool true)) (ob (dBin .eql x0 (.int .u8 39)) fun d8 => some d8) none) none) (ob (dBin .eql x0 (.int .u8 95)) fun d9 => ogd d9 (some (.bool true)) (ob (dBin .eql x0 (.int .u8 39)) fun d10 => some d10) none) none) none) (ob (dBin .geq x0 (.int .u8 48)) fun d11 => ogd d11 (ob (dBin .leq x0 (.int .u8 57)) fun d12 => ogd d12 (some (.bool true)) (ob (dBin .eql x0 (.int .u8 95)) fun d13 => ogd d13 (some (.bool true)) (ob (dBin .eql x0 (.int .u8 39)) fun d14 => some d14) none) none) (ob (dBin .eql x0 (.int .u8 95)) fun d15 => ogd d15 (some (.bool true)) (ob (dBin .eql x0 (.int .u8 39)) fun d16 => some d16) none) none) none) none) (ob (dBin .geq x0 (.int .u8 65)) fun d17 => ogd d17 (ob (dBin .leq x0 (.int .u8 90)) fun d18 => ogd d18 (some (.bool true)) (ob (dBin .geq x0 (.int .u8 48)) fun d19 =>
 ogd d19 (ob (dBin .leq x0 (.int .u8 57)) fun d20 => ogd d20 (some (.bool true)) (ob (dBin .eql x0 (.int .u8 95)) fun d21 => ogd d21 (some (.bool true)) (ob (dBin .eql x0 (.int .u8 39)) fun d22 => some d22) none) none) (ob (dBin .eql x0 (.int .u8 95)) fun d23 => ogd d23 (some (.bool true)) (ob (dBin .eql x0 (.int .u8 39)) fun d24 => some d24) none) none) none) (ob (dBin .geq x0 (.int .u8 48)) fun d25 => ogd d25 (ob (dBin .leq x0 (.int .u8 57)) fun d26 => ogd d26 (some (.bool true)) (ob (dBin .eql x0 (.int .u8 95)) fun d27 => ogd d27 (some (.bool true)) (ob (dBin .eql x0 (.int .u8 39)) fun d28 => some d28) none) none) (ob (dBin .eql x0 (.int .u8 95)) fun d29 => ogd d29 (some (.bool true)) (ob (dBin .eql x0 (.int .u8 39)) fun d30 => some d30) none) none) none) none) := evP_of [] (by kernel_rfl)
theorem call_word_inner (x0 : DV) {d : DV} (h : P_word_inner (run cfg) x0 = some d) : (run cfg).p F_word_inner [x0] = some d := callE Tryz.func98 (by kernel_rfl) (by kernel_rfl) (by kernel_rfl) h
noncomputable def P_r01_lower (R : Orc) (x0 : DV) : Option DV := eP Tryz.f100 fl_r01_lower R [] (initSt Tryz.f100 [(x0, .val)] [])
theorem eq_r01_lower (R : Orc) (x0 : DV) : P_r01_lower R x0 =
 (ob (dBin .geq x0 (.int .u8 97)) fun d1 => ogd d1 (ob (dBin .leq x0 (.int .u8 122)) fun d2 => some d2) (some (.bool false)) none) := evP_of [] (by kernel_rfl)
theorem call_r01_lower (x0 : DV) {d : DV} (h : P_r01_lower (run cfg) x0 = some d) : (run cfg).p F_r01_lower [x0] = some d := callE Tryz.func100 (by kernel_rfl) (by kernel_rfl) (by kernel_rfl) h
noncomputable def P_r01_part (R : Orc) (x0 : DV) : Option DV := eP Tryz.f101 fl_r01_part R [] (initSt Tryz.f101 [(x0, .val)] [])
set_option maxRecDepth 100000 in
theorem eq_r01_part (R : Orc) (x0 : DV) : P_r01_part R x0 =
 (ob (R.p F_r01_lower [x0]) fun d1 => ogd d1 (some (.bool true)) (ob (R.p F_r01_digit [x0]) fun d2 => ogd d2 (some (.bool true)) (ob (dBin .geq x0 (.int .u8 65)) fun d3 => ogd d3 (ob (dBin .leq x0 (.int .u8 90)) fun d4 => ogd d4 (some (.bool true)) (ob (dBin .eql x0 (.int .u8 95)) fun d5 => ogd d5 (some (.bool true)) (ob (dBin .eql x0 (.int .u8 39)) fun d6 => some d6) none) none) (ob (dBin .eql x0 (.int .u8 95)) fun d7 => ogd d7 (some (.bool true)) (ob (dBin .eql x0 (.int .u8 39)) fun d8 => some d8) none) none) none) none) := evP_of [] (by kernel_rfl)
theorem call_r01_part (x0 : DV) {d : DV} (h : P_r01_part (run cfg) x0 = some d) : (run cfg).p F_r01_part [x0] = some d := callE Tryz.func101 (by kernel_rfl) (by kernel_rfl) (by kernel_rfl) h
noncomputable def P_r01_Key (R : Orc) (x0 : DV) : Option DV := eP Tryz.f102 fl_r01_Key R [] (initSt Tryz.f102 [(x0, .val)] [])
noncomputable def P_r01_Key_2h (R : Orc) (t0 t3 : DV) : Option DV := hP Tryz.f102 fl_r01_Key R [true, false, true, false] (mst 40 [(0, t0), (3, t3)] [] [] [])
noncomputable def P_r01_Key_8h (R : Orc) (t0 t4 t5 : DV) : Option DV := hP Tryz.f102 fl_r01_Key R [true, true, true, false, true, false] (mst 40 [(0, t0), (4, t4), (5, t5)] [] [] [])
theorem eq_r01_Key (R : Orc) (x0 : DV) : P_r01_Key R x0 =
 (P_r01_Key_2h R x0 (.int .i64 0)) := evP_of [] (by kernel_rfl)
theorem eq_r01_Key_2h (R : Orc) (t0 t3 : DV) : P_r01_Key_2h R t0 t3 =
 (ob (dLenS t0) fun d1 => ob (dBin .lss t3 d1) fun d2 => oif d2 (ob (dStrIdx t0 t3) fun d3 => ob (R.p F_r01_lower [d3]) fun d4 => ob (dUn .not d4) fun d5 => oif d5 (some (.bool false)) (ob (dBin .add t3 (.int .i64 1)) fun d6 => P_r01_Key_2h R t0 d6)) (ob (dBin .add (.str ⟨#[32]⟩) t0) fun d7 => ob (dBin .add d7 (.str ⟨#[32]⟩)) fun d8 => P_r01_Key_8h R t0 d8 (.int .i64 0))) := headP_of [] (by kernel_rfl)
theorem eq_r01_Key_8h (R : Orc) (t0 t4 t5 : DV) : P_r01_Key_8h R t0 t4 t5 =
 (ob (dLenS t4) fun d1 => ob (dBin .add t5 d1) fun d2 => ob (dBin .leq d2 (.int .i64 81)) fun d3 => oif d3 (ob (dLenS t0) fun d4 => ob (dBin .gtr d4 (.int .i64 0)) fun d5 => ogd d5 (ob (dLenS t4) fun d6 => ob (dBin .add t5 d6) fun d7 => ob (dSliceS (.str ⟨#[32, 108, 101, 116, 32, 114, 101, 99, 32, 105, 110, 32, 102, 117, 110, 32, 105, 102, 32, 116, 104, 101, 110, 32, 101, 108, 115, 101, 32, 109, 97, 116, 99, 104, 32, 119, 105, 116, 104, 32, 101, 110, 100, 32, 116, 114, 117, 101, 32, 102, 97, 108, 115, 101, 32, 105, 110, 116, 32, 98, 111, 111, 108, 32, 115, 116, 114, 105, 110, 103, 32, 117, 110, 105, 116, 32, 108, 105, 115, 116, 32]⟩) (some t5) (some d7)) fun d8 => ob (dBin .eql d8 t4) fun d9 => oif d9 (some (.bool true)) (ob (dBin .add t5 (.int .i64 1)) fun d10 => P_r01_Key_8h R t0 t4 d10)) (ob (dBin .add t5 (.int .i64 1)) fun d11 => P_r01_Key_8h R t0 t4 d11) none) (some (.bool false))) := headP_of [] (by kernel_rfl)
theorem call_r01_Key (x0 : DV) {d : DV} (h : P_r01_Key (run cfg) x0 = some d) : (run cfg).p F_r01_Key [x0] = some d := callE Tryz.func102 (by kernel_rfl) (by kernel_rfl) (by kernel_rfl) h
noncomputable def P_r05_Has (R : Orc) (x0 x1 : DV) : Option DV := eP Tryz.f103 fl_r05_Has R [] (initSt Tryz.f103 [(x0, .val), (x1, .val)] [])
noncomputable def P_r05_Has_2h (R : Orc) (t0 t1 t5 : DV) : Option DV := hP Tryz.f103 fl_r05_Has R [true, false, true, false] (mst 18 [(0, t0), (1, t1), (5, t5)] [] [] [])
theorem eq_r05_Has (R : Orc) (x0 x1 : DV) : P_r05_Has R x0 x1 =
 (P_r05_Has_2h R x0 x1 (.int .i64 0)) := evP_of [] (by kernel_rfl)
theorem eq_r05_Has_2h (R : Orc) (t0 t1 t5 : DV) : P_r05_Has_2h R t0 t1 t5 =
 (ob (dLen t0) fun d1 => ob (dBin .lss t5 d1) fun d2 => oif d2 (ob (dIdx 1 t0 t5) fun d3 => og (isLeaf d3) <| ob (dBin .eql d3 t1) fun d4 => oif d4 (some (.bool true)) (ob (dBin .add t5 (.int .i64 1)) fun d5 => P_r05_Has_2h R t0 t1 d5)) (some (.bool false))) := headP_of [] (by kernel_rfl)
theorem call_r05_Has (x0 x1 : DV) {d : DV} (h : P_r05_Has (run cfg) x0 x1 = some d) : (run cfg).p F_r05_Has [x0, x1] = some d := callE Tryz.func103 (by kernel_rfl) (by kernel_rfl) (by kernel_rfl) h
noncomputable def P_r03_Same (R : Orc) (x0 x1 : DV) : Option DV := eP Tryz.f105 fl_r03_Same R [] (initSt Tryz.f105 [(x0, .val), (x1, .val)] [])
noncomputable def P_r03_Same_4h (R : Orc) (t5 b2 b3 : DV) : Option DV := hP Tryz.f105 fl_r03_Same R [true, true, false, true, false] (mst 46 [(5, t5)] [(2, (.loc 2 0)), (3, (.loc 3 0))] [(2, some (bxs b2 0 3)), (3, some (bxs b3 0 3))] [])
set_option maxRecDepth 100000 in
theorem eq_r03_Same (R : Orc) (x0 x1 : DV) : P_r03_Same R x0 x1 =
 (og (isAggN 3 x0) <| og (isAggN 3 x1) <| ob (dBin .neq (proj 0 x0) (proj 0 x1)) fun d1 => ogd d1 (some (.bool false)) (ob (dBin .neq (proj 1 x0) (proj 1 x1)) fun d2 => ogd d2 (some (.bool false)) (ob (dLen (proj 2 x0)) fun d3 => ob (dLen (proj 2 x1)) fun d4 => ob (dBin .neq d3 d4) fun d5 => oif d5 (some (.bool false)) (P_r03_Same_4h R (.int .i64 0) x0 x1)) none) none) := evP_of [] (by kernel_rfl)
theorem eq_r03_Same_4h (R : Orc) (t5 b2 b3 : DV) : P_r03_Same_4h R t5 b2 b3 =
 (ob (dLen (proj 2 b2)) fun d1 => ob (dBin .lss t5 d1) fun d2 => oif d2 (ob (dIdx 3 (proj 2 b2) t5) fun d3 => ob (dIdx 3 (proj 2 b3) t5) fun d4 => ob (R.p F_r03_Same [(ag3 d3), (ag3 d4)]) fun d5 => ob (dUn .not d5) fun d6 => oif d6 (some (.bool false)) (ob (dBin .add t5 (.int .i64 1)) fun d7 => P_r03_Same_4h R d7 b2 b3)) (some (.bool true))) := headP_of [] (by kernel_rfl)
theorem call_r03_Same (x0 x1 : DV) {d : DV} (h : P_r03_Same (run cfg) x0 x1 = some d) : (run cfg).p F_r03_Same [x0, x1] = some d := callE Tryz.func105 (by kernel_rfl) (by kernel_rfl) (by kernel_rfl) h
noncomputable def P_r05_SamePat (R : Orc) (x0 x1 : DV) : Option DV := eP Tryz.f106 fl_r05_SamePat R [] (initSt Tryz.f106 [(x0, .val), (x1, .val)] [])
noncomputable def P_r05_SamePat_4h (R : Orc) (t5 b2 b3 : DV) : Option DV := hP Tryz.f106 fl_r05_SamePat R [true, true, false, true, false] (mst 60 [(5, t5)] [(2, (.loc 2 0)), (3, (.loc 3 0))] [(2, some (bxs b2 0 7)), (3, some (bxs b3 0 7))] [])
set_option maxRecDepth 100000 in
theorem eq_r05_SamePat (R : Orc) (x0 x1 : DV) : P_r05_SamePat R x0 x1 =
 (og (isAggN 7 x0) <| og (isAggN 7 x1) <| ob (dBin .neq (proj 0 x0) (proj 0 x1)) fun d1 => ogd d1 (some (.bool false)) (ob (dBin .neq (proj 3 x0) (proj 3 x1)) fun d2 => ogd d2 (some (.bool false)) (ob (dBin .neq (proj 4 x0) (proj 4 x1)) fun d3 => ogd d3 (some (.bool false)) (ob (dBin .neq (proj 5 x0) (proj 5 x1)) fun d4 => ogd d4 (some (.bool false)) (ob (dLen (proj 6 x0)) fun d5 => ob (dLen (proj 6 x1)) fun d6 => ob (dBin .neq d5 d6) fun d7 => oif d7 (some (.bool false)) (P_r05_SamePat_4h R (.int .i64 0) x0 x1)) none) none) none) none) := evP_of [] (by kernel_rfl)
theorem eq_r05_SamePat_4h (R : Orc) (t5 b2 b3 : DV) : P_r05_SamePat_4h R t5 b2 b3 =
 (ob (dLen (proj 6 b2)) fun d1 => ob (dBin .lss t5 d1) fun d2 => oif d2 (ob (dIdx 7 (proj 6 b2) t5) fun d3 => ob (dIdx 7 (proj 6 b3) t5) fun d4 => ob (R.p F_r05_SamePat [(ag7 d3), (ag7 d4)]) fun d5 => ob (dUn .not d5) fun d6 => oif d6 (some (.bool false)) (ob (dBin .add t5 (.int .i64 1)) fun d7 => P_r05_SamePat_4h R d7 b2 b3)) (some (.bool true))) := headP_of [] (by kernel_rfl)
theorem call_r05_SamePat (x0 x1 : DV) {d : DV} (h : P_r05_SamePat (run cfg) x0 x1 = some d) : (run cfg).p F_r05_SamePat [x0, x1] = some d := callE Tryz.func106 (by kernel_rfl) (by kernel_rfl) (by kernel_rfl) h
noncomputable def P_r05_pat (R : Orc) (x0 : DV) : Option DV := eP Tryz.f109 fl_r05_pat R [] (initSt Tryz.f109 [(x0, .val)] [])
noncomputable def P_r05_pat_25 (R : Orc) (t3 b1 b4_0 b4_3 b4_4 b4_5 : DV) : Option DV := eP Tryz.f109 fl_r05_pat R [true, true, true, true] (mst 92 [(3, t3)] [(1, (.loc 1 0)), (4, (.loc 4 0))] [(1, some (bxs b1 0 7)), (4, some [(b4_0, .val), ((.int .i64 0), .val), ((.int .i64 0), .val), (b4_3, .val), (b4_4, .val), (b4_5, .val), ((.list 7 []), .val)])] [])
noncomputable def P_r05_pat_28h (R : Orc) (t3 t5 b1 : DV) : Option DV := hP Tryz.f109 fl_r05_pat R [true, true, true, true, true, false, true, false] (mst 92 [(3, t3), (5, t5)] [(1, (.loc 1 0))] [(1, some (bxs b1 0 7))] [])
set_option maxRecDepth 100000 in
theorem eq_r05_pat (R : Orc) (x0 : DV) : P_r05_pat R x0 =
 (og (isAggN 7 x0) <| og (isCell (proj 0 x0)) <| ob (dBin .eql (proj 0 x0) (.int .i64 1)) fun d1 => oif d1 (P_r05_pat_25 R (.int .i64 0) x0 (proj 0 x0) (.str ⟨#[]⟩) (.int .i64 0) (.str ⟨#[]⟩)) (ob (dBin .eql (proj 0 x0) (.int .i64 6)) fun d2 => oif d2 (P_r05_pat_25 R (.int .i64 0) x0 (proj 0 x0) (.str ⟨#[]⟩) (.int .i64 0) (.str ⟨#[]⟩)) (ob (dBin .eql (proj 0 x0) (.int .i64 8)) fun d3 => oif d3 (P_r05_pat_25 R (.int .i64 0) x0 (proj 0 x0) (.str ⟨#[]⟩) (.int .i64 0) (.str ⟨#[]⟩)) (ob (dBin .eql (proj 0 x0) (.int .i64 2)) fun d4 => oif d4 (og (isCell (proj 3 x0)) <| ob (R.p F_r01_Name [(proj 3 x0)]) fun d5 => ob (dUn .not d5) fun d6 => oif d6 (some (.bool false)) (P_r05_pat_25 R (.int .i64 0) x0 (proj 0 x0) (proj 3 x0) (.int .i64 0) (.str ⟨#[]⟩))) (ob (dBin .eql (proj 0 x0) (.int .i64 3)) fun d7 => oif d7 (og (isCell (proj 4 x0)) <| P_r05_pat_25 R (.int .i64 0) x0 (proj 0 x0) (.str ⟨#[]⟩) (proj 4 x0) (.str ⟨#[]⟩)) (ob (dBin .eql (proj 0 x0) (.int .i64 4)) fun d8 => oif d8 (og (isCell (proj 4 x0)) <| ob (dBin .lss (proj 4 x0) (.int .i64 0)) fun d9 => ogd d9 (some (.bool false)) (ob (dBin .gtr (proj 4 x0) (.int .i64 1)) fun d10 => oif d10 (some (.bool false)) (P_r05_pat_25 R (.int .i64 0) x0 (proj 0 x0) (.str ⟨#[]⟩) (proj 4 x0) (.str ⟨#[]⟩))) none) (ob (dBin .eql (proj 0 x0) (.int .i64 5)) fun d11 =>
 oif d11 (og (isCell (proj 5 x0)) <| ob (dLenS (proj 5 x0)) fun d12 => ob (dBin .gtr d12 (.int .i64 200)) fun d13 => oif d13 (some (.bool false)) (P_r05_pat_25 R (.int .i64 0) x0 (proj 0 x0) (.str ⟨#[]⟩) (.int .i64 0) (proj 5 x0))) (ob (dBin .eql (proj 0 x0) (.int .i64 7)) fun d14 => oif d14 (P_r05_pat_25 R (.int .i64 2) x0 (proj 0 x0) (.str ⟨#[]⟩) (.int .i64 0) (.str ⟨#[]⟩)) (ob (dBin .eql (proj 0 x0) (.int .i64 9)) fun d15 => oif d15 (P_r05_pat_25 R (.int .i64 2) x0 (proj 0 x0) (.str ⟨#[]⟩) (.int .i64 0) (.str ⟨#[]⟩)) (some (.bool false))))))))))) := evP_of [25] (by kernel_rfl)
set_option maxRecDepth 100000 in
theorem eq_r05_pat_25 (R : Orc) (t3 b1 b4_0 b4_3 b4_4 b4_5 : DV) : P_r05_pat_25 R t3 b1 b4_0 b4_3 b4_4 b4_5 =
 (ob (dLen (proj 6 b1)) fun d1 => ob (dBin .neq d1 t3) fun d2 => ogd d2 (some (.bool false)) (ob (dBin .neq (proj 3 b1) b4_3) fun d3 => ogd d3 (some (.bool false)) (ob (dBin .neq (proj 4 b1) b4_4) fun d4 => ogd d4 (some (.bool false)) (ob (dBin .neq (proj 5 b1) b4_5) fun d5 => oif d5 (some (.bool false)) (P_r05_pat_28h R t3 (.int .i64 0) b1)) none) none) none) := evP_of [25] (by kernel_rfl)
theorem eq_r05_pat_28h (R : Orc) (t3 t5 b1 : DV) : P_r05_pat_28h R t3 t5 b1 =
 (ob (dBin .lss t5 t3) fun d1 => oif d1 (ob (dIdx 7 (proj 6 b1) t5) fun d2 => ob (R.p F_r05_pat [(ag7 d2)]) fun d3 => ob (dUn .not d3) fun d4 => oif d4 (some (.bool false)) (ob (dBin .add t5 (.int .i64 1)) fun d5 => P_r05_pat_28h R t3 d5 b1)) (some (.bool true))) := headP_of [25] (by kernel_rfl)
theorem call_r05_pat (x0 : DV) {d : DV} (h : P_r05_pat (run cfg) x0 = some d) : (run cfg).p F_r05_pat [x0] = some d := callE Tryz.func109 (by kernel_rfl) (by kernel_rfl) (by kernel_rfl) h
noncomputable def P_r05_Names (R : Orc) (x0 : DV) : Option DV := eP Tryz.f110 fl_r05_Names R [] (initSt Tryz.f110 [(x0, .val)] [])
theorem eq_r05_Names (R : Orc) (x0 : DV) : P_r05_Names R x0 =
 (og (isAggN 7 x0) <| ob (R.r F_r05_names [((ag7 x0), .val), ((.list 1 []), .own)] []) fun q1 => some (q1.1.getD 0 .undef)) := evP_of [] (by kernel_rfl)
theorem call_r05_Names (x0 : DV) {d : DV} (h : P_r05_Names (run cfg) x0 = some d) : (run cfg).p F_r05_Names [x0] = some d := callE Tryz.func110 (by kernel_rfl) (by kernel_rfl) (by kernel_rfl) h
noncomputable def P_l03_count (R : Orc) (x0 x1 : DV) : Option DV := eP Tryz.f111 fl_l03_count R [] (initSt Tryz.f111 [(x0, .val), (x1, .val)] [])
noncomputable def P_l03_count_3h (R : Orc) (t1 t5 b2 : DV) : Option DV := hP Tryz.f111 fl_l03_count R [true, true, false, true, false] (mst 27 [(1, t1), (5, t5)] [(2, (.loc 2 0))] [(2, some (bxs b2 0 3))] [])
theorem eq_l03_count (R : Orc) (x0 x1 : DV) : P_l03_count R x0 x1 =
 (og (isAggN 3 x0) <| ob (dBin .add x1 (.int .i64 1)) fun d1 => P_l03_count_3h R d1 (.int .i64 0) x0) := evP_of [] (by kernel_rfl)
theorem eq_l03_count_3h (R : Orc) (t1 t5 b2 : DV) : P_l03_count_3h R t1 t5 b2 =
 (ob (dLen (proj 2 b2)) fun d1 => ob (dBin .lss t5 d1) fun d2 => ogd d2 (ob (dBin .leq t1 (.int .i64 600)) fun d3 => oif d3 (ob (dIdx 3 (proj 2 b2) t5) fun d4 => ob (R.p F_l03_count [(ag3 d4), t1]) fun d5 => ob (dBin .add t5 (.int .i64 1)) fun d6 => P_l03_count_3h R d5 d6 b2) (some t1)) (some t1) none) := headP_of [] (by kernel_rfl)
theorem call_l03_count (x0 x1 : DV) {d : DV} (h : P_l03_count (run cfg) x0 x1 = some d) : (run cfg).p F_l03_count [x0, x1] = some d := callE Tryz.func111 (by kernel_rfl) (by kernel_rfl) (by kernel_rfl) h
noncomputable def code_r03_vars : Code := Tryz.f112.body.getD .skip
noncomputable def P_r03_vars (R : Orc) (x0 x1 : DV) (sg : List SObj) : Option (List DV × List SObj) := evP cfg R fl_r03_vars (retR cfg.P Tryz.f112 sig_r03_vars) [] code_r03_vars (initSt Tryz.f112 [(x0, .val), (x1, .own)] sg)
noncomputable def P_r03_vars_3 (R : Orc) (t1 b2 : DV) (sg : List SObj) : Option (List DV × List SObj) := evP cfg R fl_r03_vars (retR cfg.P Tryz.f112 sig_r03_vars) [true, true] code_r03_vars (mst 36 [(1, t1)] [(1, .own), (2, (.loc 2 0))] [(2, some (bxs b2 0 3))] sg)
noncomputable def P_r03_vars_4h (R : Orc) (t1 t5 b2 : DV) (sg : List SObj) : Option (List DV × List SObj) := headP cfg R fl_r03_vars (retR cfg.P Tryz.f112 sig_r03_vars) [true, true, false, true, false] code_r03_vars (mst 36 [(1, t1), (5, t5)] [(1, .own), (2, (.loc 2 0))] [(2, some (bxs b2 0 3))] sg)
theorem eq_r03_vars (R : Orc) (x0 x1 : DV) (sg : List SObj) : P_r03_vars R x0 x1 sg =
 (og (isAggN 3 x0) <| ob (dBin .eql (proj 0 x0) (.int .i64 6)) fun d1 => ogd d1 (ob (R.p F_r03_In [x1, (proj 1 x0)]) fun d2 => ob (dUn .not d2) fun d3 => oif d3 (og (isCell (proj 1 x0)) <| ob (dApp 1 x1 (.list 1 [(proj 1 x0)])) fun d4 => P_r03_vars_3 R d4 x0 sg) (P_r03_vars_3 R x1 x0 sg)) (P_r03_vars_3 R x1 x0 sg) none) := evP_of [3] (by kernel_rfl)
theorem eq_r03_vars_3 (R : Orc) (t1 b2 : DV) (sg : List SObj) : P_r03_vars_3 R t1 b2 sg =
 (P_r03_vars_4h R t1 (.int .i64 0) b2 sg) := evP_of [3] (by kernel_rfl)
theorem eq_r03_vars_4h (R : Orc) (t1 t5 b2 : DV) (sg : List SObj) : P_r03_vars_4h R t1 t5 b2 sg =
 (ob (dLen (proj 2 b2)) fun d1 => ob (dBin .lss t5 d1) fun d2 => oif d2 (ob (dIdx 3 (proj 2 b2) t5) fun d3 => ob (R.r F_r03_vars [((ag3 d3), .val), (t1, .own)] sg) fun q4 => ob (dBin .add t5 (.int .i64 1)) fun d5 => P_r03_vars_4h R (q4.1.getD 0 .undef) d5 b2 q4.2) (some ([t1], sg))) := headP_of [3] (by kernel_rfl)
theorem fix_r03_vars (x0 x1 : DV) (sg : List SObj) : (run cfg).r F_r03_vars [(x0, .val), (x1, .own)] sg = P_r03_vars (run cfg) x0 x1 sg :=
 (fix_raw (C := cfg) (f := F_r03_vars) (s := sig_r03_vars) (fn := Tryz.f112) (c := code_r03_vars) (by kernel_rfl) Tryz.func112 (by kernel_rfl)).trans (by kernel_rfl)
theorem call_r03_vars (x0 x1 : DV) (sg : List SObj) {q : List DV × List SObj} (h : P_r03_vars (run cfg) x0 x1 sg = some q) : (run cfg).r F_r03_vars [(x0, .val), (x1, .own)] sg = some q := (fix_r03_vars x0 x1 sg).trans h
noncomputable def P_r05_Rise (R : Orc) (x0 x1 : DV) : Option DV := eP Tryz.f113 fl_r05_Rise R [] (initSt Tryz.f113 [(x0, .val), (x1, .val)] [])
noncomputable def P_r05_Rise_2h (R : Orc) (t0 t1 t5 : DV) : Option DV := hP Tryz.f113 fl_r05_Rise R [true, true, false, false] (mst 47 [(0, t0), (1, t1), (5, t5)] [] [] [])
noncomputable def P_r05_Rise_4 (R : Orc) (t0 t1 t5 : DV) : Option DV := eP Tryz.f113 fl_r05_Rise R [true, true, true] (mst 47 [(0, t0), (1, t1), (5, t5)] [] [] [])
noncomputable def P_r05_Rise_6 (R : Orc) (t0 t1 t5 : DV) : Option DV := eP Tryz.f113 fl_r05_Rise R [true, true, true, true] (mst 47 [(0, t0), (1, t1), (5, t5)] [] [] [])
theorem eq_r05_Rise (R : Orc) (x0 x1 : DV) : P_r05_Rise R x0 x1 =
 (P_r05_Rise_2h R x0 x1 (.int .i64 0)) := evP_of [4, 6] (by kernel_rfl)
theorem eq_r05_Rise_2h (R : Orc) (t0 t1 t5 : DV) : P_r05_Rise_2h R t0 t1 t5 =
 (ob (dLen t0) fun d1 => ob (dBin .lss t5 d1) fun d2 => ogd d2 (ob (dIdx 1 t0 t5) fun d3 => og (isLeaf d3) <| ob (dBin .lss d3 t1) fun d4 => oif d4 (ob (dBin .add t5 (.int .i64 1)) fun d5 => P_r05_Rise_2h R t0 t1 d5) (P_r05_Rise_4 R t0 t1 t5)) (P_r05_Rise_4 R t0 t1 t5) none) := headP_of [4, 6] (by kernel_rfl)
theorem eq_r05_Rise_4 (R : Orc) (t0 t1 t5 : DV) : P_r05_Rise_4 R t0 t1 t5 =
 (ob (dLen t0) fun d1 => ob (dBin .lss t5 d1) fun d2 => ogd d2 (ob (dIdx 1 t0 t5) fun d3 => og (isLeaf d3) <| ob (dBin .eql d3 t1) fun d4 => oif d4 (some t0) (P_r05_Rise_6 R t0 t1 t5)) (P_r05_Rise_6 R t0 t1 t5) none) := evP_of [4, 6] (by kernel_rfl)
theorem eq_r05_Rise_6 (R : Orc) (t0 t1 t5 : DV) : P_r05_Rise_6 R t0 t1 t5 =
 (ob (dSlice 1 t0 none (some t5)) fun d1 => ob (dApp 1 (.list 1 []) d1) fun d2 => og (isCell t1) <| ob (dApp 1 d2 (.list 1 [t1])) fun d3 => ob (dSlice 1 t0 (some t5) none) fun d4 => ob (dApp 1 d3 d4) fun d5 => some d5) := evP_of [4, 6] (by kernel_rfl)
theorem call_r05_Rise (x0 x1 : DV) {d : DV} (h : P_r05_Rise (run cfg) x0 x1 = some d) : (run cfg).p F_r05_Rise [x0, x1] = some d := callE Tryz.func113 (by kernel_rfl) (by kernel_rfl) (by kernel_rfl) h
noncomputable def P_l17_light (R : Orc) (x0 : DV) : Option DV := eP Tryz.f114 fl_l17_light R [] (initSt Tryz.f114 [(x0, .val)] [])
theorem eq_l17_light (R : Orc) (x0 : DV) : P_l17_light R x0 =
 (og (isAggN 3 x0) <| ob (R.p F_l11_Small [(.list 3 [(ag3 x0)])]) fun d1 => ogd d1 (ob (R.p F_r03_Size [(ag3 x0)]) fun d2 => ob (dBin .leq d2 (.int .i64 60)) fun d3 => some d3) (some (.bool false)) none) := evP_of [] (by kernel_rfl)
theorem call_l17_light (x0 : DV) {d : DV} (h : P_l17_light (run cfg) x0 = some d) : (run cfg).p F_l17_light [x0] = some d := callE Tryz.func114 (by kernel_rfl) (by kernel_rfl) (by kernel_rfl) h
noncomputable def P_l17_weighPat (R : Orc) (x0 x1 : DV) : Option DV := eP Tryz.f115 fl_l17_weighPat R [] (initSt Tryz.f115 [(x0, .val), (x1, .val)] [])
noncomputable def P_l17_weighPat_5h (R : Orc) (t1 t5 b2 : DV) : Option DV := hP Tryz.f115 fl_l17_weighPat R [true, true, true, false, true, false] (mst 37 [(1, t1), (5, t5)] [(2, (.loc 2 0))] [(2, some (bxs b2 0 7))] [])
theorem eq_l17_weighPat (R : Orc) (x0 x1 : DV) : P_l17_weighPat R x0 x1 =
 (og (isAggN 7 x0) <| ob (dLenS (proj 5 x0)) fun d1 => ob (dBin .gtr d1 (.int .i64 300)) fun d2 => ogd d2 (some (.int .i64 501)) (ob (dLenS (proj 3 x0)) fun d3 => ob (dBin .gtr d3 (.int .i64 300)) fun d4 => oif d4 (some (.int .i64 501)) (ob (dBin .add x1 (.int .i64 1)) fun d5 => P_l17_weighPat_5h R d5 (.int .i64 0) x0)) none) := evP_of [] (by kernel_rfl)
theorem eq_l17_weighPat_5h (R : Orc) (t1 t5 b2 : DV) : P_l17_weighPat_5h R t1 t5 b2 =
 (ob (dLen (proj 6 b2)) fun d1 => ob (dBin .lss t5 d1) fun d2 => ogd d2 (ob (dBin .leq t1 (.int .i64 500)) fun d3 => oif d3 (ob (dIdx 7 (proj 6 b2) t5) fun d4 => ob (R.p F_l17_weighPat [(ag7 d4), t1]) fun d5 => ob (dBin .add t5 (.int .i64 1)) fun d6 => P_l17_weighPat_5h R d5 d6 b2) (some t1)) (some t1) none) := headP_of [] (by kernel_rfl)
theorem call_l17_weighPat (x0 x1 : DV) {d : DV} (h : P_l17_weighPat (run cfg) x0 x1 = some d) : (run cfg).p F_l17_weighPat [x0, x1] = some d := callE Tryz.func115 (by kernel_rfl) (by kernel_rfl) (by kernel_rfl) h
noncomputable def P_r17_bare (R : Orc) (x0 : DV) : Option DV := eP Tryz.f116 fl_r17_bare R [] (initSt Tryz.f116 [(x0, .val)] [])
noncomputable def P_r17_bare_25 (R : Orc) (t9 b1 b4_0 : DV) : Option DV := eP Tryz.f116 fl_r17_bare R [true, true, false, true, false, true, true, true, true, true, true, true, true, true, true, true, true, true, true] (mst 123 [(9, t9)] [(1, (.loc 1 0)), (2, (.loc 2 0)), (4, (.loc 4 0))] [(1, some (bxs b1 0 20)), (2, some zb0), (4, some [(b4_0, .val), ((.int .i64 0), .val), ((.int .i64 0), .val), ((.str ⟨#[]⟩), .val), ((.str ⟨#[]⟩), .val), ((.int .i64 0), .val), ((.str ⟨#[]⟩), .val), ((.int .i64 0), .val), ((.int .i64 0), .val), ((.bool false), .val), ((.list 1 []), .val), ((.int .i64 0), .val), ((.int .i64 0), .val), ((.list 3 []), .val), ((.int .i64 0), .val), ((.int .i64 0), .val), ((.list 3 []), .val), ((.list 3 []), .val), ((.list 7 []), .val), ((.list 20 []), .val)])] [])
set_option maxRecDepth 100000 in
theorem eq_r17_bare (R : Orc) (x0 : DV) : P_r17_bare R x0 =
 (og (isAggN 20 x0) <| og (isCell (proj 0 x0)) <| ob (dBin .eql (proj 0 x0) (.int .i64 1)) fun d1 => oif d1 (og (isCell (proj 3 x0)) <| og (isCell (proj 17 x0)) <| some (.tup [(.agg [(proj 0 x0), (.int .i64 0), (.int .i64 0), (proj 3 x0), (.str ⟨#[]⟩), (.int .i64 0), (.str ⟨#[]⟩), (.int .i64 0), (.int .i64 0), (.bool false), (.list 1 []), (.int .i64 0), (.int .i64 0), (.list 3 []), (.int .i64 0), (.int .i64 0), (.list 3 []), (proj 17 x0), (.list 7 []), (.list 20 [])]), (.int .i64 0)])) (ob (dBin .eql (proj 0 x0) (.int .i64 2)) fun d2 => oif d2 (og (isCell (proj 5 x0)) <| some (.tup [(.agg [(proj 0 x0), (.int .i64 0), (.int .i64 0), (.str ⟨#[]⟩), (.str ⟨#[]⟩), (proj 5 x0), (.str ⟨#[]⟩), (.int .i64 0), (.int .i64 0), (.bool false), (.list 1 []), (.int .i64 0), (.int .i64 0), (.list 3 []), (.int .i64 0), (.int .i64 0), (.list 3 []), (.list 3 []), (.list 7 []), (.list 20 [])]), (.int .i64 0)])) (ob (dBin .eql (proj 0 x0) (.int .i64 3)) fun d3 => oif d3 (og (isCell (proj 5 x0)) <| some (.tup [(.agg [(proj 0 x0), (.int .i64 0), (.int .i64 0), (.str ⟨#[]⟩), (.str ⟨#[]⟩), (proj 5 x0), (.str ⟨#[]⟩), (.int .i64 0), (.int .i64 0), (.bool false), (.list 1 []), (.int .i64 0), (.int .i64 0), (.list 3 []), (.int .i64 0), (.int .i64 0), (.list 3 []), (.list 3 []), (.list 7 []), (.list 20 [])]), (.int .i64 0)])) (ob (dBin .eql (proj 0 x0) (.int .i64 4)) fun d4 =>
 oif d4 (og (isCell (proj 6 x0)) <| some (.tup [(.agg [(proj 0 x0), (.int .i64 0), (.int .i64 0), (.str ⟨#[]⟩), (.str ⟨#[]⟩), (.int .i64 0), (proj 6 x0), (.int .i64 0), (.int .i64 0), (.bool false), (.list 1 []), (.int .i64 0), (.int .i64 0), (.list 3 []), (.int .i64 0), (.int .i64 0), (.list 3 []), (.list 3 []), (.list 7 []), (.list 20 [])]), (.int .i64 0)])) (ob (dBin .eql (proj 0 x0) (.int .i64 5)) fun d5 => oif d5 (some (.tup [(.agg [(proj 0 x0), (.int .i64 0), (.int .i64 0), (.str ⟨#[]⟩), (.str ⟨#[]⟩), (.int .i64 0), (.str ⟨#[]⟩), (.int .i64 0), (.int .i64 0), (.bool false), (.list 1 []), (.int .i64 0), (.int .i64 0), (.list 3 []), (.int .i64 0), (.int .i64 0), (.list 3 []), (.list 3 []), (.list 7 []), (.list 20 [])]), (.int .i64 0)])) (ob (dBin .eql (proj 0 x0) (.int .i64 7)) fun d6 => oif d6 (some (.tup [(.agg [(proj 0 x0), (.int .i64 0), (.int .i64 0), (.str ⟨#[]⟩), (.str ⟨#[]⟩), (.int .i64 0), (.str ⟨#[]⟩), (.int .i64 0), (.int .i64 0), (.bool false), (.list 1 []), (proj 11 x0), (proj 12 x0), (proj 13 x0), (.int .i64 0), (.int .i64 0), (.list 3 []), (.list 3 []), (.list 7 []), (.list 20 [])]), (.int .i64 0)])) (ob (dBin .eql (proj 0 x0) (.int .i64 6)) fun d7 => oif d7 (some (.tup [(.agg [(proj 0 x0), (.int .i64 0), (.int .i64 0), (.str ⟨#[]⟩), (.str ⟨#[]⟩), (.int .i64 0), (.str ⟨#[]⟩), (.int .i64 0), (.int .i64 0), (.bool false), (.list 1 []), (.int .i64 0), (.int .i64 0), (.list 3 []), (.int .i64 0), (.int .i64 0), (.list 3 []), (.list 3 []), (.list 7 []), (.list 20 [])]), (.int .i64 2)])) (ob (dBin .eql (proj 0 x0) (.int .i64 8)) fun d8 =>
 oif d8 (some (.tup [(.agg [(proj 0 x0), (.int .i64 0), (.int .i64 0), (.str ⟨#[]⟩), (.str ⟨#[]⟩), (.int .i64 0), (.str ⟨#[]⟩), (.int .i64 0), (.int .i64 0), (.bool false), (.list 1 []), (.int .i64 0), (.int .i64 0), (.list 3 []), (.int .i64 0), (.int .i64 0), (.list 3 []), (.list 3 []), (.list 7 []), (.list 20 [])]), (.int .i64 2)])) (ob (dBin .eql (proj 0 x0) (.int .i64 10)) fun d9 => oif d9 (some (.tup [(.agg [(proj 0 x0), (.int .i64 0), (.int .i64 0), (.str ⟨#[]⟩), (.str ⟨#[]⟩), (.int .i64 0), (.str ⟨#[]⟩), (.int .i64 0), (.int .i64 0), (.bool false), (.list 1 []), (.int .i64 0), (.int .i64 0), (.list 3 []), (.int .i64 0), (.int .i64 0), (.list 3 []), (.list 3 []), (.list 7 []), (.list 20 [])]), (.int .i64 2)])) (ob (dBin .eql (proj 0 x0) (.int .i64 9)) fun d10 => oif d10 (og (isCell (proj 3 x0)) <| some (.tup [(.agg [(proj 0 x0), (.int .i64 0), (.int .i64 0), (proj 3 x0), (.str ⟨#[]⟩), (.int .i64 0), (.str ⟨#[]⟩), (.int .i64 0), (.int .i64 0), (.bool false), (.list 1 []), (proj 11 x0), (proj 12 x0), (proj 13 x0), (.int .i64 0), (.int .i64 0), (.list 3 []), (.list 3 []), (.list 7 []), (.list 20 [])]), (.int .i64 1)])) (P_r17_bare_25 R (proj 0 x0) x0 (proj 0 x0)))))))))))) := evP_of [25] (by kernel_rfl)
set_option maxRecDepth 100000 in
theorem eq_r17_bare_25 (R : Orc) (t9 b1 b4_0 : DV) : P_r17_bare_25 R t9 b1 b4_0 =
 (ob (dBin .eql t9 (.int .i64 11)) fun d1 => oif d1 (og (isCell (proj 3 b1)) <| og (isCell (proj 10 b1)) <| some (.tup [(.agg [b4_0, (.int .i64 0), (.int .i64 0), (proj 3 b1), (.str ⟨#[]⟩), (.int .i64 0), (.str ⟨#[]⟩), (.int .i64 0), (.int .i64 0), (.bool false), (proj 10 b1), (.int .i64 0), (.int .i64 0), (.list 3 []), (.int .i64 0), (.int .i64 0), (.list 3 []), (.list 3 []), (.list 7 []), (.list 20 [])]), (.int .i64 2)])) (ob (dBin .eql t9 (.int .i64 12)) fun d2 => oif d2 (og (isCell (proj 3 b1)) <| og (isCell (proj 4 b1)) <| og (isCell (proj 10 b1)) <| some (.tup [(.agg [b4_0, (.int .i64 0), (.int .i64 0), (proj 3 b1), (proj 4 b1), (.int .i64 0), (.str ⟨#[]⟩), (.int .i64 0), (.int .i64 0), (.bool false), (proj 10 b1), (proj 11 b1), (proj 12 b1), (proj 13 b1), (proj 14 b1), (proj 15 b1), (proj 16 b1), (.list 3 []), (.list 7 []), (.list 20 [])]), (.int .i64 2)])) (ob (dBin .eql t9 (.int .i64 13)) fun d3 => oif d3 (some (.tup [(.agg [b4_0, (.int .i64 0), (.int .i64 0), (.str ⟨#[]⟩), (.str ⟨#[]⟩), (.int .i64 0), (.str ⟨#[]⟩), (.int .i64 0), (.int .i64 0), (.bool false), (.list 1 []), (.int .i64 0), (.int .i64 0), (.list 3 []), (.int .i64 0), (.int .i64 0), (.list 3 []), (.list 3 []), (.list 7 []), (.list 20 [])]), (.int .i64 3)])) (ob (dBin .eql t9 (.int .i64 14)) fun d4 =>
 oif d4 (og (isCell (proj 18 b1)) <| ob (dLen (proj 18 b1)) fun d5 => ob (dBin .add d5 (.int .i64 1)) fun d6 => some (.tup [(.agg [b4_0, (proj 1 b1), (proj 2 b1), (.str ⟨#[]⟩), (.str ⟨#[]⟩), (.int .i64 0), (.str ⟨#[]⟩), (.int .i64 0), (.int .i64 0), (.bool false), (.list 1 []), (.int .i64 0), (.int .i64 0), (.list 3 []), (.int .i64 0), (.int .i64 0), (.list 3 []), (.list 3 []), (proj 18 b1), (.list 20 [])]), d6])) (ob (dBin .eql t9 (.int .i64 15)) fun d7 => oif d7 (og (isCell (proj 7 b1)) <| some (.tup [(.agg [b4_0, (proj 1 b1), (proj 2 b1), (.str ⟨#[]⟩), (.str ⟨#[]⟩), (.int .i64 0), (.str ⟨#[]⟩), (proj 7 b1), (.int .i64 0), (.bool false), (.list 1 []), (.int .i64 0), (.int .i64 0), (.list 3 []), (.int .i64 0), (.int .i64 0), (.list 3 []), (.list 3 []), (.list 7 []), (.list 20 [])]), (.int .i64 2)])) (ob (dBin .eql t9 (.int .i64 16)) fun d8 => oif d8 (og (isCell (proj 8 b1)) <| og (isCell (proj 9 b1)) <| some (.tup [(.agg [b4_0, (.int .i64 0), (.int .i64 0), (.str ⟨#[]⟩), (.str ⟨#[]⟩), (.int .i64 0), (.str ⟨#[]⟩), (.int .i64 0), (proj 8 b1), (proj 9 b1), (.list 1 []), (proj 11 b1), (proj 12 b1), (proj 13 b1), (proj 14 b1), (proj 15 b1), (proj 16 b1), (.list 3 []), (.list 7 []), (.list 20 [])]), (.int .i64 1)])) (some (.tup [(.agg [b4_0, (.int .i64 0), (.int .i64 0), (.str ⟨#[]⟩), (.str ⟨#[]⟩), (.int .i64 0), (.str ⟨#[]⟩), (.int .i64 0), (.int .i64 0), (.bool false), (.list 1 []), (.int .i64 0), (.int .i64 0), (.list 3 []), (.int .i64 0), (.int .i64 0), (.list 3 []), (.list 3 []), (.list 7 []), (.list 20 [])]), (.int .i64 (-1))])))))))) := evP_of [25] (by kernel_rfl)
theorem call_r17_bare (x0 : DV) {d : DV} (h : P_r17_bare (run cfg) x0 = some d) : (run cfg).p F_r17_bare [x0] = some d := callE Tryz.func116 (by kernel_rfl) (by kernel_rfl) (by kernel_rfl) h
noncomputable def P_r17_flat (R : Orc) (x0 x1 : DV) : Option DV := eP Tryz.f117 fl_r17_flat R [] (initSt Tryz.f117 [(x0, .val), (x1, .val)] [])
noncomputable def P_r17_flat_3 (R : Orc) (b2 b3 : DV) : Option DV := eP Tryz.f117 fl_r17_flat R [true, true] (mst 153 [] [(2, (.loc 2 0)), (3, (.loc 3 0))] [(2, some (bxs b2 0 20)), (3, some (bxs b3 0 20))] [])
noncomputable def P_r17_flat_6h (R : Orc) (t5 b2 b3 : DV) : Option DV := hP Tryz.f117 fl_r17_flat R [true, true, true, false, true, false] (mst 153 [(5, t5)] [(2, (.loc 2 0)), (3, (.loc 3 0))] [(2, some (bxs b2 0 20)), (3, some (bxs b3 0 20))] [])
noncomputable def P_r17_flat_11h (R : Orc) (t6 b2 b3 : DV) : Option DV := hP Tryz.f117 fl_r17_flat R [true, true, true, true, false, true, false] (mst 153 [(6, t6)] [(2, (.loc 2 0)), (3, (.loc 3 0))] [(2, some (bxs b2 0 20)), (3, some (bxs b3 0 20))] [])
set_option maxRecDepth 100000 in
theorem eq_r17_flat (R : Orc) (x0 x1 : DV) : P_r17_flat R x0 x1 =
 (og (isAggN 20 x0) <| og (isAggN 20 x1) <| ob (dBin .neq (proj 0 x0) (proj 0 x1)) fun d1 => ogd d1 (some (.bool false)) (ob (dEqA [.int, .int] (.agg [(proj 1 x0), (proj 2 x0)]) (.agg [(proj 1 x1), (proj 2 x1)])) fun b2 => ogd (.bool !b2) (some (.bool false)) (ob (dBin .neq (proj 3 x0) (proj 3 x1)) fun d3 => ogd d3 (some (.bool false)) (ob (dBin .neq (proj 4 x0) (proj 4 x1)) fun d4 => ogd d4 (some (.bool false)) (ob (dBin .neq (proj 5 x0) (proj 5 x1)) fun d5 => ogd d5 (some (.bool false)) (ob (dBin .neq (proj 6 x0) (proj 6 x1)) fun d6 => ogd d6 (some (.bool false)) (ob (dBin .neq (proj 7 x0) (proj 7 x1)) fun d7 => ogd d7 (some (.bool false)) (ob (dBin .neq (proj 8 x0) (proj 8 x1)) fun d8 => ogd d8 (some (.bool false)) (ob (dEqB (proj 9 x0) (proj 9 x1)) fun b9 => oif (.bool !b9) (some (.bool false)) (P_r17_flat_3 R x0 x1)) none) none) none) none) none) none) none) none) := evP_of [3] (by kernel_rfl)
set_option maxRecDepth 100000 in
theorem eq_r17_flat_3 (R : Orc) (b2 b3 : DV) : P_r17_flat_3 R b2 b3 =
 (ob (dLen (proj 10 b2)) fun d1 => ob (dLen (proj 10 b3)) fun d2 => ob (dBin .neq d1 d2) fun d3 => ogd d3 (some (.bool false)) (ob (dLen (proj 18 b2)) fun d4 => ob (dLen (proj 18 b3)) fun d5 => ob (dBin .neq d4 d5) fun d6 => ogd d6 (some (.bool false)) (ob (R.p F_r03_SameAll [(proj 17 b2), (proj 17 b3)]) fun d7 => ob (dUn .not d7) fun d8 => ogd d8 (some (.bool false)) (ob (R.p F_r03_Same [(.agg [(proj 11 b2), (proj 12 b2), (proj 13 b2)]), (.agg [(proj 11 b3), (proj 12 b3), (proj 13 b3)])]) fun d9 => ob (dUn .not d9) fun d10 => ogd d10 (some (.bool false)) (ob (R.p F_r03_Same [(.agg [(proj 14 b2), (proj 15 b2), (proj 16 b2)]), (.agg [(proj 14 b3), (proj 15 b3), (proj 16 b3)])]) fun d11 => ob (dUn .not d11) fun d12 => oif d12 (some (.bool false)) (P_r17_flat_6h R (.int .i64 0) b2 b3)) none) none) none) none) := evP_of [3] (by kernel_rfl)
theorem eq_r17_flat_6h (R : Orc) (t5 b2 b3 : DV) : P_r17_flat_6h R t5 b2 b3 =
 (ob (dLen (proj 10 b2)) fun d1 => ob (dBin .lss t5 d1) fun d2 => oif d2 (ob (dIdx 1 (proj 10 b2) t5) fun d3 => og (isLeaf d3) <| ob (dIdx 1 (proj 10 b3) t5) fun d4 => og (isLeaf d4) <| ob (dBin .neq d3 d4) fun d5 => oif d5 (some (.bool false)) (ob (dBin .add t5 (.int .i64 1)) fun d6 => P_r17_flat_6h R d6 b2 b3)) (P_r17_flat_11h R (.int .i64 0) b2 b3)) := headP_of [3] (by kernel_rfl)
theorem eq_r17_flat_11h (R : Orc) (t6 b2 b3 : DV) : P_r17_flat_11h R t6 b2 b3 =
 (ob (dLen (proj 18 b2)) fun d1 => ob (dBin .lss t6 d1) fun d2 => oif d2 (ob (dBin .add t6 (.int .i64 1)) fun d3 => ob (dSlice 7 (proj 18 b2) (some t6) (some d3)) fun d4 => og (isCell d4) <| ob (dBin .add t6 (.int .i64 1)) fun d5 => ob (dSlice 7 (proj 18 b3) (some t6) (some d5)) fun d6 => og (isCell d6) <| ob (R.p F_r05_SameAt [(.agg [(.int .i64 14), (.int .i64 0), (.int .i64 0), (.str ⟨#[]⟩), (.str ⟨#[]⟩), (.int .i64 0), (.str ⟨#[]⟩), (.int .i64 0), (.int .i64 0), (.int .i64 0), (.list 3 []), (.int .i64 0), (.int .i64 0), (.list 3 []), d4, (.list 16 [])]), (.agg [(.int .i64 14), (.int .i64 0), (.int .i64 0), (.str ⟨#[]⟩), (.str ⟨#[]⟩), (.int .i64 0), (.str ⟨#[]⟩), (.int .i64 0), (.int .i64 0), (.int .i64 0), (.list 3 []), (.int .i64 0), (.int .i64 0), (.list 3 []), d6, (.list 16 [])])]) fun d7 => ob (dUn .not d7) fun d8 => oif d8 (some (.bool false)) (ob (dBin .add t6 (.int .i64 1)) fun d9 => P_r17_flat_11h R d9 b2 b3)) (some (.bool true))) := headP_of [3] (by kernel_rfl)
theorem call_r17_flat (x0 x1 : DV) {d : DV} (h : P_r17_flat (run cfg) x0 x1 = some d) : (run cfg).p F_r17_flat [x0, x1] = some d := callE Tryz.func117 (by kernel_rfl) (by kernel_rfl) (by kernel_rfl) h
noncomputable def P_r17_Binds (R : Orc) (x0 x1 : DV) : Option DV := eP Tryz.f118 fl_r17_Binds R [] (initSt Tryz.f118 [(x0, .val), (x1, .val)] [])
noncomputable def P_r17_Binds_5 (R : Orc) (t1 b2 : DV) : Option DV := eP Tryz.f118 fl_r17_Binds R [true, false, false, true, true] (mst 50 [(1, t1)] [(2, (.loc 2 0))] [(2, some (bxs b2 0 20))] [])
set_option maxRecDepth 100000 in
theorem eq_r17_Binds (R : Orc) (x0 x1 : DV) : P_r17_Binds R x0 x1 =
 (og (isAggN 20 x0) <| ob (dBin .eql (proj 0 x0) (.int .i64 9)) fun d1 => oif d1 (og (isCell (proj 3 x0)) <| some (.list 1 [(proj 3 x0)])) (ob (dBin .eql (proj 0 x0) (.int .i64 11)) fun d2 => ogd d2 (ob (dBin .eql x1 (.int .i64 1)) fun d3 => oif d3 (og (isCell (proj 3 x0)) <| some (.list 1 [(proj 3 x0)])) (ob (dBin .eql (proj 0 x0) (.int .i64 12)) fun d4 => ogd d4 (ob (dBin .eql x1 (.int .i64 1)) fun d5 => oif d5 (og (isCell (proj 3 x0)) <| some (.list 1 [(proj 3 x0)])) (P_r17_Binds_5 R x1 x0)) (P_r17_Binds_5 R x1 x0) none)) (ob (dBin .eql (proj 0 x0) (.int .i64 12)) fun d6 => ogd d6 (ob (dBin .eql x1 (.int .i64 1)) fun d7 => oif d7 (og (isCell (proj 3 x0)) <| some (.list 1 [(proj 3 x0)])) (P_r17_Binds_5 R x1 x0)) (P_r17_Binds_5 R x1 x0) none) none)) := evP_of [5] (by kernel_rfl)
theorem eq_r17_Binds_5 (R : Orc) (t1 b2 : DV) : P_r17_Binds_5 R t1 b2 =
 (ob (dBin .eql (proj 0 b2) (.int .i64 12)) fun d1 => oif d1 (og (isCell (proj 3 b2)) <| og (isCell (proj 4 b2)) <| some (.list 1 [(proj 3 b2), (proj 4 b2)])) (ob (dBin .eql (proj 0 b2) (.int .i64 14)) fun d2 => ogd d2 (ob (dBin .gtr t1 (.int .i64 0)) fun d3 => oif d3 (ob (dBin .sub t1 (.int .i64 1)) fun d4 => ob (dIdx 7 (proj 18 b2) d4) fun d5 => ob (R.p F_r05_Names [(ag7 d5)]) fun d6 => some d6) (some (.list 1 []))) (some (.list 1 [])) none)) := evP_of [5] (by kernel_rfl)
theorem call_r17_Binds (x0 x1 : DV) {d : DV} (h : P_r17_Binds (run cfg) x0 x1 = some d) : (run cfg).p F_r17_Binds [x0, x1] = some d := callE Tryz.func118 (by kernel_rfl) (by kernel_rfl) (by kernel_rfl) h
noncomputable def P_r17_more (R : Orc) (x0 x1 x2 : DV) : Option DV := eP Tryz.f119 fl_r17_more R [] (initSt Tryz.f119 [(x0, .val), (x1, .val), (x2, .val)] [])
theorem eq_r17_more (R : Orc) (x0 x1 x2 : DV) : P_r17_more R x0 x1 x2 =
 (ob (dApp 2 (.list 2 []) x0) fun d1 => og (isCell x1) <| og (isCell x2) <| ob (dApp 2 d1 (.list 2 [(.agg [x1, x2])])) fun d2 => some d2) := evP_of [] (by kernel_rfl)
theorem call_r17_more (x0 x1 x2 : DV) {d : DV} (h : P_r17_more (run cfg) x0 x1 x2 = some d) : (run cfg).p F_r17_more [x0, x1, x2] = some d := callE Tryz.func119 (by kernel_rfl) (by kernel_rfl) (by kernel_rfl) h
noncomputable def code_r16_Bulk_Of : Code := Tryz.f120.body.getD .skip
noncomputable def P_r16_Bulk_Of (R : Orc) (x0 : Nat) (x1 : DV) (sg : List SObj) : Option (List DV × List SObj) := evP cfg R fl_r16_Bulk_Of (retR cfg.P Tryz.f120 sig_r16_Bulk_Of) [] code_r16_Bulk_Of (initSt Tryz.f120 [(.undef, (.ptr x0 0)), (x1, .val)] sg)
theorem eq_r16_Bulk_Of (R : Orc) (x0 : Nat) (x1 : DV) (sg : List SObj) : P_r16_Bulk_Of R x0 x1 sg =
 (ob (dBin .gtr x1 (.int .i64 3000)) fun d1 => oif d1 (ob (sgBox sg x0) fun c2 => ob (c2[0]?) fun u3 => ob (dMin x1 (.int .i64 3000)) fun d4 => some ([d4], (sg.set x0 (SObj.box (c2.set 0 ((.bool true), .val)))))) (ob (dMin x1 (.int .i64 3000)) fun d5 => some ([d5], sg))) := evP_of [] (by kernel_rfl)
theorem fix_r16_Bulk_Of (x0 : Nat) (x1 : DV) (sg : List SObj) : (run cfg).r F_r16_Bulk_Of [(.undef, (.ptr x0 0)), (x1, .val)] sg = P_r16_Bulk_Of (run cfg) x0 x1 sg :=
 (fix_raw (C := cfg) (f := F_r16_Bulk_Of) (s := sig_r16_Bulk_Of) (fn := Tryz.f120) (c := code_r16_Bulk_Of) (by kernel_rfl) Tryz.func120 (by kernel_rfl)).trans (by kernel_rfl)
theorem call_r16_Bulk_Of (x0 : Nat) (x1 : DV) (sg : List SObj) {q : List DV × List SObj} (h : P_r16_Bulk_Of (run cfg) x0 x1 sg = some q) : (run cfg).r F_r16_Bulk_Of [(.undef, (.ptr x0 0)), (x1, .val)] sg = some q := (fix_r16_Bulk_Of x0 x1 sg).trans h
end Go.Su

/-
 Equations of the program's functions: by program.
-/
namespace Go.Su
open Go.Proofs
set_option linter.unusedVariables false
noncomputable def code_r16_Bulk_Named : Code := Tryz.f121.body.getD .skip
noncomputable def P_r16_Bulk_Named (R : Orc) (x0 : Nat) (x1 x2 x3 : DV) (sg : List SObj) : Option (List DV × List SObj) := evP cfg R fl_r16_Bulk_Named (retR cfg.P Tryz.f121 sig_r16_Bulk_Named) [] code_r16_Bulk_Named (initSt Tryz.f121 [(.undef, (.ptr x0 0)), (x1, .val), (x2, .val), (x3, .val)] sg)
noncomputable def P_r16_Bulk_Named_3h (R : Orc) (t0i : Nat) (t1 t2 t3 t9 t10 : DV) (sg : List SObj) : Option (List DV × List SObj) := headP cfg R fl_r16_Bulk_Named (retR cfg.P Tryz.f121 sig_r16_Bulk_Named) [true, true, false, true, false] code_r16_Bulk_Named (mst 50 [(1, t1), (2, t2), (3, t3), (9, t9), (10, t10)] [(0, (.ptr t0i 0))] [] sg)
noncomputable def P_r16_Bulk_Named_7h (R : Orc) (t0i : Nat) (t1 t2 t9 t11 : DV) (sg : List SObj) : Option (List DV × List SObj) := headP cfg R fl_r16_Bulk_Named (retR cfg.P Tryz.f121 sig_r16_Bulk_Named) [true, true, true, false, true, false] code_r16_Bulk_Named (mst 50 [(1, t1), (2, t2), (9, t9), (11, t11)] [(0, (.ptr t0i 0))] [] sg)
theorem eq_r16_Bulk_Named (R : Orc) (x0 : Nat) (x1 x2 x3 : DV) (sg : List SObj) : P_r16_Bulk_Named R x0 x1 x2 x3 sg =
 (P_r16_Bulk_Named_3h R x0 x1 x2 x3 (.int .i64 1) (.int .i64 0) sg) := evP_of [] (by kernel_rfl)
theorem eq_r16_Bulk_Named_3h (R : Orc) (t0i : Nat) (t1 t2 t3 t9 t10 : DV) (sg : List SObj) : P_r16_Bulk_Named_3h R t0i t1 t2 t3 t9 t10 sg =
 (ob (dLen t3) fun d1 => ob (dBin .lss t10 d1) fun d2 => oif d2 (ob (dIdx 3 t3 t10) fun d3 => ob (R.p F_r03_Size [(ag3 d3)]) fun d4 => ob (R.r F_r16_Bulk_Of [(.undef, (.ptr t0i 0)), (d4, .val)] sg) fun q5 => ob (dMax t9 (q5.1.getD 0 .undef)) fun d6 => ob (dBin .add t10 (.int .i64 1)) fun d7 => P_r16_Bulk_Named_3h R t0i t1 t2 t3 d6 d7 q5.2) (ob (dLen t1) fun d8 => ob (dBin .sub d8 (.int .i64 1)) fun d9 => P_r16_Bulk_Named_7h R t0i t1 t2 t9 d9 sg)) := headP_of [] (by kernel_rfl)
theorem eq_r16_Bulk_Named_7h (R : Orc) (t0i : Nat) (t1 t2 t9 t11 : DV) (sg : List SObj) : P_r16_Bulk_Named_7h R t0i t1 t2 t9 t11 sg =
 (ob (dBin .geq t11 (.int .i64 0)) fun d1 => oif d1 (ob (dIdx 2 t1 t11) fun d2 => ob (dBin .eql (proj 0 d2) t2) fun d3 => oif d3 (ob (dIdx 2 t1 t11) fun d4 => ob (dBin .mul t9 (proj 1 d4)) fun d5 => ob (R.r F_r16_Bulk_Of [(.undef, (.ptr t0i 0)), (d5, .val)] sg) fun q6 => some ([(q6.1.getD 0 .undef)], q6.2)) (ob (dBin .sub t11 (.int .i64 1)) fun d7 => P_r16_Bulk_Named_7h R t0i t1 t2 t9 d7 sg)) (some ([(.int .i64 1)], sg))) := headP_of [] (by kernel_rfl)
theorem fix_r16_Bulk_Named (x0 : Nat) (x1 x2 x3 : DV) (sg : List SObj) : (run cfg).r F_r16_Bulk_Named [(.undef, (.ptr x0 0)), (x1, .val), (x2, .val), (x3, .val)] sg = P_r16_Bulk_Named (run cfg) x0 x1 x2 x3 sg :=
 (fix_raw (C := cfg) (f := F_r16_Bulk_Named) (s := sig_r16_Bulk_Named) (fn := Tryz.f121) (c := code_r16_Bulk_Named) (by kernel_rfl) Tryz.func121 (by kernel_rfl)).trans (by kernel_rfl)
theorem call_r16_Bulk_Named (x0 : Nat) (x1 x2 x3 : DV) (sg : List SObj) {q : List DV × List SObj} (h : P_r16_Bulk_Named (run cfg) x0 x1 x2 x3 sg = some q) : (run cfg).r F_r16_Bulk_Named [(.undef, (.ptr x0 0)), (x1, .val), (x2, .val), (x3, .val)] sg = some q := (fix_r16_Bulk_Named x0 x1 x2 x3 sg).trans h
noncomputable def code_check_scope_name : Code := Tryz.f122.body.getD .skip
noncomputable def P_check_scope_name (R : Orc) (x0 : Nat) (x1 x2 : DV) (sg : List SObj) : Option (List DV × List SObj) := evP cfg R fl_check_scope_name (retR cfg.P Tryz.f122 sig_check_scope_name) [] code_check_scope_name (initSt Tryz.f122 [(.undef, (.map x0)), (x1, .val), (x2, .val)] sg)
noncomputable def P_check_scope_name_2h (R : Orc) (t0i : Nat) (t2 t8 b4 : DV) (sg : List SObj) : Option (List DV × List SObj) := headP cfg R fl_check_scope_name (retR cfg.P Tryz.f122 sig_check_scope_name) [true, false, true, false] code_check_scope_name (mst 79 [(2, t2), (8, t8)] [(0, (.map t0i)), (4, (.loc 4 0)), (6, (.loc 6 0))] [(4, some (bxs b4 0 20)), (6, some zb1)] sg)
noncomputable def P_check_scope_name_14h (R : Orc) (t10 t54 t55 t56 b4 b9 : DV) (sg : List SObj) : Option (List DV × List SObj) := headP cfg R fl_check_scope_name (retR cfg.P Tryz.f122 sig_check_scope_name) [true, false, true, false, false, true, false, false, true, true, true, false, true, false] code_check_scope_name (mst 79 [(10, t10), (54, t54), (55, t55), (56, t56)] [(4, (.loc 4 0)), (6, (.loc 6 0)), (9, (.loc 9 0)), (10, .own)] [(4, some (bxs b4 0 20)), (6, some zb1), (9, some (bxs b9 0 5))] sg)
theorem eq_check_scope_name (R : Orc) (x0 : Nat) (x1 x2 : DV) (sg : List SObj) : P_check_scope_name R x0 x1 x2 sg =
 (og (isAggN 20 x1) <| ob (dLen x2) fun d1 => ob (dBin .sub d1 (.int .i64 1)) fun d2 => P_check_scope_name_2h R x0 x2 d2 x1 sg) := evP_of [] (by kernel_rfl)
theorem eq_check_scope_name_2h (R : Orc) (t0i : Nat) (t2 t8 b4 : DV) (sg : List SObj) : P_check_scope_name_2h R t0i t2 t8 b4 sg =
 (ob (dBin .geq t8 (.int .i64 0)) fun d1 => oif d1 (ob (dIdx 5 t2 t8) fun d2 => ob (dBin .neq (proj 0 d2) (proj 3 b4)) fun d3 => oif d3 (ob (dBin .sub t8 (.int .i64 1)) fun d4 => P_check_scope_name_2h R t0i t2 d4 b4 sg) (ob (dLen (proj 4 d2)) fun d5 => ob (dLen (proj 17 b4)) fun d6 => ob (dBin .neq d5 d6) fun d7 => oif d7 (some ([(.agg [(.int .i64 0), (.int .i64 0), (.list 3 [])]), (.int .i64 8)], sg)) (ob (R.r F_check_scope_has [(.undef, (.map t0i)), ((proj 17 b4), .val)] sg) fun q8 => ob (dUn .not (q8.1.getD 0 .undef)) fun d9 => oif d9 (some ([(.agg [(.int .i64 0), (.int .i64 0), (.list 3 [])]), (.int .i64 6)], q8.2)) (ob (dLen (proj 4 d2)) fun d10 => ob (dBin .eql d10 (.int .i64 0)) fun d11 => oif d11 (some ([(.agg [(proj 1 d2), (proj 2 d2), (proj 3 d2)]), (.int .i64 0)], q8.2)) (ob (dLen (proj 4 d2)) fun d12 => P_check_scope_name_14h R (.list 4 []) (proj 4 d2) d12 (.int .i64 0) b4 d2 q8.2))))) (some ([(.agg [(.int .i64 0), (.int .i64 0), (.list 3 [])]), (.int .i64 6)], sg))) := headP_of [] (by kernel_rfl)
theorem eq_check_scope_name_14h (R : Orc) (t10 t54 t55 t56 b4 b9 : DV) (sg : List SObj) : P_check_scope_name_14h R t10 t54 t55 t56 b4 b9 sg =
 (ob (dBin .lss t56 t55) fun d1 => oif d1 (ob (dIdx 1 t54 t56) fun d2 => og (isLeaf d2) <| ob (dIdx 3 (proj 17 b4) t56) fun d3 => og (isCell d2) <| ob (dApp 4 t10 (.list 4 [(.agg [d2, (proj 0 d3), (proj 1 d3), (proj 2 d3)])])) fun d4 => ob (dBin .add t56 (.int .i64 1)) fun d5 => P_check_scope_name_14h R d4 t54 t55 d5 b4 b9 sg) (ob (R.p F_scheme_Subst [(.agg [(proj 1 b9), (proj 2 b9), (proj 3 b9)]), t10]) fun d6 => ob (dExt 0 d6) fun d7 => ob (dExt 1 d6) fun d8 => og (isAggN 3 d7) <| some ([(ag3 d7), d8], sg))) := headP_of [] (by kernel_rfl)
theorem fix_check_scope_name (x0 : Nat) (x1 x2 : DV) (sg : List SObj) : (run cfg).r F_check_scope_name [(.undef, (.map x0)), (x1, .val), (x2, .val)] sg = P_check_scope_name (run cfg) x0 x1 x2 sg :=
 (fix_raw (C := cfg) (f := F_check_scope_name) (s := sig_check_scope_name) (fn := Tryz.f122) (c := code_check_scope_name) (by kernel_rfl) Tryz.func122 (by kernel_rfl)).trans (by kernel_rfl)
theorem call_check_scope_name (x0 : Nat) (x1 x2 : DV) (sg : List SObj) {q : List DV × List SObj} (h : P_check_scope_name (run cfg) x0 x1 x2 sg = some q) : (run cfg).r F_check_scope_name [(.undef, (.map x0)), (x1, .val), (x2, .val)] sg = some q := (fix_check_scope_name x0 x1 x2 sg).trans h
noncomputable def code_check_scope_has : Code := Tryz.f123.body.getD .skip
noncomputable def P_check_scope_has (R : Orc) (x0 : Nat) (x1 : DV) (sg : List SObj) : Option (List DV × List SObj) := evP cfg R fl_check_scope_has (retR cfg.P Tryz.f123 sig_check_scope_has) [] code_check_scope_has (initSt Tryz.f123 [(.undef, (.map x0)), (x1, .val)] sg)
noncomputable def P_check_scope_has_2h (R : Orc) (t0i : Nat) (t9 t10 t11 : DV) (sg : List SObj) : Option (List DV × List SObj) := headP cfg R fl_check_scope_has (retR cfg.P Tryz.f123 sig_check_scope_has) [true, false, true, false] code_check_scope_has (mst 28 [(9, t9), (10, t10), (11, t11)] [(0, (.map t0i))] [] sg)
noncomputable def P_check_scope_has_5h (R : Orc) (t0i : Nat) (t9 t10 t11 t16 t17 t18 : DV) (sg : List SObj) : Option (List DV × List SObj) := headP cfg R fl_check_scope_has (retR cfg.P Tryz.f123 sig_check_scope_has) [true, false, true, false, false, true, true, false, false, true, true, false] code_check_scope_has (mst 28 [(9, t9), (10, t10), (11, t11), (16, t16), (17, t17), (18, t18)] [(0, (.map t0i))] [] sg)
theorem eq_check_scope_has (R : Orc) (x0 : Nat) (x1 : DV) (sg : List SObj) : P_check_scope_has R x0 x1 sg =
 (ob (dLen x1) fun d1 => P_check_scope_has_2h R x0 x1 d1 (.int .i64 0) sg) := evP_of [] (by kernel_rfl)
theorem eq_check_scope_has_2h (R : Orc) (t0i : Nat) (t9 t10 t11 : DV) (sg : List SObj) : P_check_scope_has_2h R t0i t9 t10 t11 sg =
 (ob (dBin .lss t11 t10) fun d1 => oif d1 (ob (dIdx 3 t9 t11) fun d2 => ob (R.p F_typ_Vars [(ag3 d2)]) fun d3 => ob (dLen d3) fun d4 => P_check_scope_has_5h R t0i t9 t10 t11 d3 d4 (.int .i64 0) sg) (some ([(.bool true)], sg))) := headP_of [] (by kernel_rfl)
theorem eq_check_scope_has_5h (R : Orc) (t0i : Nat) (t9 t10 t11 t16 t17 t18 : DV) (sg : List SObj) : P_check_scope_has_5h R t0i t9 t10 t11 t16 t17 t18 sg =
 (ob (dBin .lss t18 t17) fun d1 => oif d1 (ob (dIdx 1 t16 t18) fun d2 => og (isLeaf d2) <| og (isKey false d2 && true) <| ob (sgMap sg t0i) fun m3 => og (m3.1 == false) <| ob (dBin .eql ((mGet m3.2 d2).getD (.int .i64 0)) (.int .i64 0)) fun d4 => oif d4 (some ([(.bool false)], sg)) (ob (dBin .add t18 (.int .i64 1)) fun d5 => P_check_scope_has_5h R t0i t9 t10 t11 t16 t17 d5 sg)) (ob (dBin .add t11 (.int .i64 1)) fun d6 => P_check_scope_has_2h R t0i t9 t10 d6 sg)) := headP_of [] (by kernel_rfl)
theorem fix_check_scope_has (x0 : Nat) (x1 : DV) (sg : List SObj) : (run cfg).r F_check_scope_has [(.undef, (.map x0)), (x1, .val)] sg = P_check_scope_has (run cfg) x0 x1 sg :=
 (fix_raw (C := cfg) (f := F_check_scope_has) (s := sig_check_scope_has) (fn := Tryz.f123) (c := code_check_scope_has) (by kernel_rfl) Tryz.func123 (by kernel_rfl)).trans (by kernel_rfl)
theorem call_check_scope_has (x0 : Nat) (x1 : DV) (sg : List SObj) {q : List DV × List SObj} (h : P_check_scope_has (run cfg) x0 x1 sg = some q) : (run cfg).r F_check_scope_has [(.undef, (.map x0)), (x1, .val)] sg = some q := (fix_check_scope_has x0 x1 sg).trans h
noncomputable def code_check_with : Code := Tryz.f124.body.getD .skip
noncomputable def P_check_with (R : Orc) (x0 x1 : DV) (sg : List SObj) : Option (List DV × List SObj) := evP cfg R fl_check_with (retR cfg.P Tryz.f124 sig_check_with) [] code_check_with (initSt Tryz.f124 [(x0, .val), (x1, .val)] sg)
theorem eq_check_with (R : Orc) (x0 x1 : DV) (sg : List SObj) : P_check_with R x0 x1 sg =
 (ob (dLen x0) fun d1 => ob (dLen x0) fun d2 => ob (dSlice3 5 x0 none d1 d2) fun d3 => ob (dApp 5 d3 x1) fun d4 => some ([d4], sg)) := evP_of [] (by kernel_rfl)
theorem fix_check_with (x0 x1 : DV) (sg : List SObj) : (run cfg).r F_check_with [(x0, .val), (x1, .val)] sg = P_check_with (run cfg) x0 x1 sg :=
 (fix_raw (C := cfg) (f := F_check_with) (s := sig_check_with) (fn := Tryz.f124) (c := code_check_with) (by kernel_rfl) Tryz.func124 (by kernel_rfl)).trans (by kernel_rfl)
theorem call_check_with (x0 x1 : DV) (sg : List SObj) {q : List DV × List SObj} (h : P_check_with (run cfg) x0 x1 sg = some q) : (run cfg).r F_check_with [(x0, .val), (x1, .val)] sg = some q := (fix_check_with x0 x1 sg).trans h
noncomputable def P_check_fun (R : Orc) (x0 x1 : DV) : Option DV := eP Tryz.f125 fl_check_fun R [] (initSt Tryz.f125 [(x0, .val), (x1, .val)] [])
theorem eq_check_fun (R : Orc) (x0 x1 : DV) : P_check_fun R x0 x1 =
 (og (isAggN 3 x0) <| og (isAggN 3 x1) <| some (.agg [(.int .i64 9), (.int .i64 0), (.list 3 [(ag3 x0), (ag3 x1)])])) := evP_of [] (by kernel_rfl)
theorem call_check_fun (x0 x1 : DV) {d : DV} (h : P_check_fun (run cfg) x0 x1 = some d) : (run cfg).p F_check_fun [x0, x1] = some d := callE Tryz.func125 (by kernel_rfl) (by kernel_rfl) (by kernel_rfl) h
noncomputable def code_check_scope_let : Code := Tryz.f126.body.getD .skip
noncomputable def P_check_scope_let (R : Orc) (x0 : Nat) (x1 x2 : DV) (sg : List SObj) : Option (List DV × List SObj) := evP cfg R fl_check_scope_let (retR cfg.P Tryz.f126 sig_check_scope_let) [] code_check_scope_let (initSt Tryz.f126 [(.undef, (.map x0)), (x1, .val), (x2, .val)] sg)
theorem eq_check_scope_let (R : Orc) (x0 : Nat) (x1 x2 : DV) (sg : List SObj) : P_check_scope_let R x0 x1 x2 sg =
 (og (isAggN 20 x1) <| ob (R.r F_check_scope_takes [(.undef, (.map x0)), ((proj 10 x1), .val)] sg) fun q1 => ob (dUn .not (q1.1.getD 0 .undef)) fun d2 => oif d2 (some ([(.agg [(.int .i64 0), (.int .i64 0), (.list 3 [])]), (.int .i64 6)], q1.2)) (ob (R.r F_check_scope_enter [(.undef, (.map x0)), ((proj 10 x1), .val), ((.int .i64 1), .val)] q1.2) fun q3 => ob (dIdx 20 (proj 19 x1) (.int .i64 0)) fun d4 => ob (R.r F_check_scope_term [(.undef, (.map x0)), ((ag20 d4), .val), (x2, .val)] q3.2) fun q5 => ob (dExt 0 (.tup q5.1)) fun d6 => ob (dExt 1 (.tup q5.1)) fun d7 => og (isAggN 3 d6) <| ob (R.r F_check_scope_enter [(.undef, (.map x0)), ((proj 10 x1), .val), ((.int .i64 (-1)), .val)] q5.2) fun q8 => ob (dBin .neq d7 (.int .i64 0)) fun d9 => oif d9 (some ([(.agg [(.int .i64 0), (.int .i64 0), (.list 3 [])]), d7], q8.2)) (ob (dIdx 20 (proj 19 x1) (.int .i64 1)) fun d10 => og (isCell (proj 3 x1)) <| og (isCell (proj 10 x1)) <| ob (R.r F_check_with [(x2, .val), ((.list 5 [(.agg [(proj 3 x1), (proj 0 d6), (proj 1 d6), (proj 2 d6), (proj 10 x1)])]), .val)] q8.2) fun q11 => ob (R.r F_check_scope_term [(.undef, (.map x0)), ((ag20 d10), .val), ((q11.1.getD 0 .undef), .val)] q11.2) fun q12 => ob (dExt 0 (.tup q12.1)) fun d13 =>
 ob (dExt 1 (.tup q12.1)) fun d14 => og (isAggN 3 d13) <| some ([(ag3 d13), d14], q12.2)))) := evP_of [] (by kernel_rfl)
theorem fix_check_scope_let (x0 : Nat) (x1 x2 : DV) (sg : List SObj) : (run cfg).r F_check_scope_let [(.undef, (.map x0)), (x1, .val), (x2, .val)] sg = P_check_scope_let (run cfg) x0 x1 x2 sg :=
 (fix_raw (C := cfg) (f := F_check_scope_let) (s := sig_check_scope_let) (fn := Tryz.f126) (c := code_check_scope_let) (by kernel_rfl) Tryz.func126 (by kernel_rfl)).trans (by kernel_rfl)
theorem call_check_scope_let (x0 : Nat) (x1 x2 : DV) (sg : List SObj) {q : List DV × List SObj} (h : P_check_scope_let (run cfg) x0 x1 x2 sg = some q) : (run cfg).r F_check_scope_let [(.undef, (.map x0)), (x1, .val), (x2, .val)] sg = some q := (fix_check_scope_let x0 x1 x2 sg).trans h
noncomputable def code_check_scope_rec : Code := Tryz.f127.body.getD .skip
noncomputable def P_check_scope_rec (R : Orc) (x0 : Nat) (x1 x2 : DV) (sg : List SObj) : Option (List DV × List SObj) := evP cfg R fl_check_scope_rec (retR cfg.P Tryz.f127 sig_check_scope_rec) [] code_check_scope_rec (initSt Tryz.f127 [(.undef, (.map x0)), (x1, .val), (x2, .val)] sg)
noncomputable def P_check_scope_rec_10 (R : Orc) (t0i : Nat) (t2 t11 b4 b9_0 b9_1 b9_2 b9_3 b10_0 b10_1 b10_2 : DV) (sg : List SObj) : Option (List DV × List SObj) := evP cfg R fl_check_scope_rec (retR cfg.P Tryz.f127 sig_check_scope_rec) [true, true, true, true, true, true, true, true] code_check_scope_rec (mst 87 [(2, t2), (11, t11)] [(0, (.map t0i)), (4, (.loc 4 0)), (6, (.loc 6 0)), (9, (.loc 9 0)), (10, (.loc 10 0))] [(4, some (bxs b4 0 20)), (6, some zb1), (9, some [(b9_0, .val), (b9_1, .val), (b9_2, .val), (b9_3, .val), ((.list 1 []), .val)]), (10, some [(b10_0, .val), (b10_1, .val), (b10_2, .val)])] sg)
theorem eq_check_scope_rec (R : Orc) (x0 : Nat) (x1 x2 : DV) (sg : List SObj) : P_check_scope_rec R x0 x1 x2 sg =
 (og (isAggN 20 x1) <| ob (R.r F_check_scope_takes [(.undef, (.map x0)), ((proj 10 x1), .val)] sg) fun q1 => ob (dUn .not (q1.1.getD 0 .undef)) fun d2 => oif d2 (some ([(.agg [(.int .i64 0), (.int .i64 0), (.list 3 [])]), (.int .i64 6)], q1.2)) (ob (R.r F_check_scope_enter [(.undef, (.map x0)), ((proj 10 x1), .val), ((.int .i64 1), .val)] q1.2) fun q3 => ob (R.r F_check_scope_has [(.undef, (.map x0)), ((.list 3 [(.agg [(proj 11 x1), (proj 12 x1), (proj 13 x1)]), (.agg [(proj 14 x1), (proj 15 x1), (proj 16 x1)])]), .val)] q3.2) fun q4 => ob (R.p F_check_fun [(.agg [(proj 11 x1), (proj 12 x1), (proj 13 x1)]), (.agg [(proj 14 x1), (proj 15 x1), (proj 16 x1)])]) fun d5 => og (isCell (proj 3 x1)) <| og (isAggN 3 d5) <| oif (q4.1.getD 0 .undef) (ob (dIdx 20 (proj 19 x1) (.int .i64 0)) fun d6 => og (isCell (proj 4 x1)) <| ob (R.r F_check_with [(x2, .val), ((.list 5 [(.agg [(proj 3 x1), (proj 0 d5), (proj 1 d5), (proj 2 d5), (.list 1 [])]), (.agg [(proj 4 x1), (proj 11 x1), (proj 12 x1), (proj 13 x1), (.list 1 [])])]), .val)] q4.2) fun q7 => ob (R.r F_check_scope_term [(.undef, (.map x0)), ((ag20 d6), .val), ((q7.1.getD 0 .undef), .val)] q7.2) fun q8 => ob (dExt 0 (.tup q8.1)) fun d9 => ob (dExt 1 (.tup q8.1)) fun d10 =>
 og (isAggN 3 d9) <| P_check_scope_rec_10 R x0 x2 d10 x1 (proj 3 x1) (proj 0 d5) (proj 1 d5) (proj 2 d5) (proj 0 d9) (proj 1 d9) (proj 2 d9) q8.2) (P_check_scope_rec_10 R x0 x2 (.int .i64 6) x1 (proj 3 x1) (proj 0 d5) (proj 1 d5) (proj 2 d5) (.int .i64 0) (.int .i64 0) (.list 3 []) q4.2))) := evP_of [10] (by kernel_rfl)
theorem eq_check_scope_rec_10 (R : Orc) (t0i : Nat) (t2 t11 b4 b9_0 b9_1 b9_2 b9_3 b10_0 b10_1 b10_2 : DV) (sg : List SObj) : P_check_scope_rec_10 R t0i t2 t11 b4 b9_0 b9_1 b9_2 b9_3 b10_0 b10_1 b10_2 sg =
 (ob (R.r F_check_scope_enter [(.undef, (.map t0i)), ((proj 10 b4), .val), ((.int .i64 (-1)), .val)] sg) fun q1 => ob (dBin .neq t11 (.int .i64 0)) fun d2 => oif d2 (some ([(.agg [(.int .i64 0), (.int .i64 0), (.list 3 [])]), t11], q1.2)) (ob (R.p F_typ_Same [(.agg [b10_0, b10_1, b10_2]), (.agg [(proj 14 b4), (proj 15 b4), (proj 16 b4)])]) fun d3 => ob (dUn .not d3) fun d4 => oif d4 (some ([(.agg [(.int .i64 0), (.int .i64 0), (.list 3 [])]), (.int .i64 4)], q1.2)) (og (isCell (proj 10 b4)) <| ob (dIdx 20 (proj 19 b4) (.int .i64 1)) fun d5 => ob (R.r F_check_with [(t2, .val), ((.list 5 [(.agg [b9_0, b9_1, b9_2, b9_3, (proj 10 b4)])]), .val)] q1.2) fun q6 => ob (R.r F_check_scope_term [(.undef, (.map t0i)), ((ag20 d5), .val), ((q6.1.getD 0 .undef), .val)] q6.2) fun q7 => ob (dExt 0 (.tup q7.1)) fun d8 => ob (dExt 1 (.tup q7.1)) fun d9 => og (isAggN 3 d8) <| some ([(ag3 d8), d9], q7.2)))) := evP_of [10] (by kernel_rfl)
theorem fix_check_scope_rec (x0 : Nat) (x1 x2 : DV) (sg : List SObj) : (run cfg).r F_check_scope_rec [(.undef, (.map x0)), (x1, .val), (x2, .val)] sg = P_check_scope_rec (run cfg) x0 x1 x2 sg :=
 (fix_raw (C := cfg) (f := F_check_scope_rec) (s := sig_check_scope_rec) (fn := Tryz.f127) (c := code_check_scope_rec) (by kernel_rfl) Tryz.func127 (by kernel_rfl)).trans (by kernel_rfl)
theorem call_check_scope_rec (x0 : Nat) (x1 x2 : DV) (sg : List SObj) {q : List DV × List SObj} (h : P_check_scope_rec (run cfg) x0 x1 x2 sg = some q) : (run cfg).r F_check_scope_rec [(.undef, (.map x0)), (x1, .val), (x2, .val)] sg = some q := (fix_check_scope_rec x0 x1 x2 sg).trans h
noncomputable def code_check_scope_match : Code := Tryz.f128.body.getD .skip
noncomputable def P_check_scope_match (R : Orc) (x0 : Nat) (x1 x2 : DV) (sg : List SObj) : Option (List DV × List SObj) := evP cfg R fl_check_scope_match (retR cfg.P Tryz.f128 sig_check_scope_match) [] code_check_scope_match (initSt Tryz.f128 [(.undef, (.map x0)), (x1, .val), (x2, .val)] sg)
noncomputable def P_check_scope_match_6h (R : Orc) (t0i : Nat) (t2 t34 t35 t36 b4 b8 b10_0 b10_1 b10_2 : DV) (sg : List SObj) : Option (List DV × List SObj) := headP cfg R fl_check_scope_match (retR cfg.P Tryz.f128 sig_check_scope_match) [true, true, true, true, false, true, false] code_check_scope_match (mst 97 [(2, t2), (34, t34), (35, t35), (36, t36)] [(0, (.map t0i)), (4, (.loc 4 0)), (6, (.loc 6 0)), (8, (.loc 8 0)), (10, (.loc 10 0))] [(4, some (bxs b4 0 20)), (6, some zb1), (8, some (bxs b8 0 3)), (10, some [(b10_0, .val), (b10_1, .val), (b10_2, .val)])] sg)
noncomputable def P_check_scope_match_13h (R : Orc) (t0i : Nat) (t2 t11 t15 t34 t35 t36 t53 t54 t55 b4 b8 b10_0 b10_1 b10_2 : DV) (sg : List SObj) : Option (List DV × List SObj) := headP cfg R fl_check_scope_match (retR cfg.P Tryz.f128 sig_check_scope_match) [true, true, true, true, false, true, false, false, true, true, false, false, true, true, true, true, false, true, false] code_check_scope_match (mst 97 [(2, t2), (11, t11), (15, t15), (34, t34), (35, t35), (36, t36), (53, t53), (54, t54), (55, t55)] [(0, (.map t0i)), (4, (.loc 4 0)), (6, (.loc 6 0)), (8, (.loc 8 0)), (10, (.loc 10 0)), (15, .own)] [(4, some (bxs b4 0 20)), (6, some zb1), (8, some (bxs b8 0 3)), (10, some [(b10_0, .val), (b10_1, .val), (b10_2, .val)])] sg)
theorem eq_check_scope_match (R : Orc) (x0 : Nat) (x1 x2 : DV) (sg : List SObj) : P_check_scope_match R x0 x1 x2 sg =
 (og (isAggN 20 x1) <| ob (dIdx 20 (proj 19 x1) (.int .i64 0)) fun d1 => ob (R.r F_check_scope_term [(.undef, (.map x0)), ((ag20 d1), .val), (x2, .val)] sg) fun q2 => ob (dExt 0 (.tup q2.1)) fun d3 => ob (dExt 1 (.tup q2.1)) fun d4 => og (isAggN 3 d3) <| ob (dBin .neq d4 (.int .i64 0)) fun d5 => oif d5 (some ([(.agg [(.int .i64 0), (.int .i64 0), (.list 3 [])]), d4], q2.2)) (ob (dLen (proj 18 x1)) fun d6 => P_check_scope_match_6h R x0 x2 (proj 18 x1) d6 (.int .i64 0) x1 d3 (.int .i64 0) (.int .i64 0) (.list 3 []) q2.2)) := evP_of [] (by kernel_rfl)
theorem eq_check_scope_match_6h (R : Orc) (t0i : Nat) (t2 t34 t35 t36 b4 b8 b10_0 b10_1 b10_2 : DV) (sg : List SObj) : P_check_scope_match_6h R t0i t2 t34 t35 t36 b4 b8 b10_0 b10_1 b10_2 sg =
 (ob (dBin .lss t36 t35) fun d1 => oif d1 (ob (dIdx 7 t34 t36) fun d2 => ob (R.p F_pats_Bind [(ag7 d2), (ag3 b8)]) fun d3 => ob (dExt 0 d3) fun d4 => ob (dExt 1 d3) fun d5 => ob (dBin .neq d5 (.int .i64 0)) fun d6 => oif d6 (some ([(.agg [(.int .i64 0), (.int .i64 0), (.list 3 [])]), d5], sg)) (ob (R.r F_check_with [(t2, .val), ((.list 5 []), .val)] sg) fun q7 => ob (dLen d4) fun d8 => P_check_scope_match_13h R t0i t2 t36 (q7.1.getD 0 .undef) t34 t35 t36 d4 d8 (.int .i64 0) b4 b8 b10_0 b10_1 b10_2 q7.2)) (some ([(.agg [b10_0, b10_1, b10_2]), (.int .i64 0)], sg))) := headP_of [] (by kernel_rfl)
theorem eq_check_scope_match_13h (R : Orc) (t0i : Nat) (t2 t11 t15 t34 t35 t36 t53 t54 t55 b4 b8 b10_0 b10_1 b10_2 : DV) (sg : List SObj) : P_check_scope_match_13h R t0i t2 t11 t15 t34 t35 t36 t53 t54 t55 b4 b8 b10_0 b10_1 b10_2 sg =
 (ob (dBin .lss t55 t54) fun d1 => oif d1 (ob (dIdx 4 t53 t55) fun d2 => og (isCell (proj 0 d2)) <| ob (dApp 5 t15 (.list 5 [(.agg [(proj 0 d2), (proj 1 d2), (proj 2 d2), (proj 3 d2), (.list 1 [])])])) fun d3 => ob (dBin .add t55 (.int .i64 1)) fun d4 => P_check_scope_match_13h R t0i t2 t11 d3 t34 t35 t36 t53 t54 d4 b4 b8 b10_0 b10_1 b10_2 sg) (ob (dBin .add t11 (.int .i64 1)) fun d5 => ob (dIdx 20 (proj 19 b4) d5) fun d6 => ob (R.r F_check_scope_term [(.undef, (.map t0i)), ((ag20 d6), .val), (t15, .val)] sg) fun q7 => ob (dExt 0 (.tup q7.1)) fun d8 => ob (dExt 1 (.tup q7.1)) fun d9 => og (isAggN 3 d8) <| ob (dBin .neq d9 (.int .i64 0)) fun d10 => oif d10 (some ([(.agg [(.int .i64 0), (.int .i64 0), (.list 3 [])]), d9], q7.2)) (ob (dBin .eql t11 (.int .i64 0)) fun d11 => oif d11 (ob (dBin .add t36 (.int .i64 1)) fun d12 => P_check_scope_match_6h R t0i t2 t34 t35 d12 b4 b8 (proj 0 d8) (proj 1 d8) (proj 2 d8) q7.2) (ob (R.p F_typ_Same [(ag3 d8), (.agg [b10_0, b10_1, b10_2])]) fun d13 => ob (dUn .not d13) fun d14 => oif d14 (some ([(.agg [(.int .i64 0), (.int .i64 0), (.list 3 [])]), (.int .i64 4)], q7.2)) (ob (dBin .add t36 (.int .i64 1)) fun d15 => P_check_scope_match_6h R t0i t2 t34 t35 d15 b4 b8 b10_0 b10_1 b10_2 q7.2))))) := headP_of [] (by kernel_rfl)
theorem fix_check_scope_match (x0 : Nat) (x1 x2 : DV) (sg : List SObj) : (run cfg).r F_check_scope_match [(.undef, (.map x0)), (x1, .val), (x2, .val)] sg = P_check_scope_match (run cfg) x0 x1 x2 sg :=
 (fix_raw (C := cfg) (f := F_check_scope_match) (s := sig_check_scope_match) (fn := Tryz.f128) (c := code_check_scope_match) (by kernel_rfl) Tryz.func128 (by kernel_rfl)).trans (by kernel_rfl)
theorem call_check_scope_match (x0 : Nat) (x1 x2 : DV) (sg : List SObj) {q : List DV × List SObj} (h : P_check_scope_match (run cfg) x0 x1 x2 sg = some q) : (run cfg).r F_check_scope_match [(.undef, (.map x0)), (x1, .val), (x2, .val)] sg = some q := (fix_check_scope_match x0 x1 x2 sg).trans h
noncomputable def code_check_scope_kids : Code := Tryz.f129.body.getD .skip
noncomputable def P_check_scope_kids (R : Orc) (x0 : Nat) (x1 x2 : DV) (sg : List SObj) : Option (List DV × List SObj) := evP cfg R fl_check_scope_kids (retR cfg.P Tryz.f129 sig_check_scope_kids) [] code_check_scope_kids (initSt Tryz.f129 [(.undef, (.map x0)), (x1, .val), (x2, .val)] sg)
noncomputable def P_check_scope_kids_3h (R : Orc) (t0i : Nat) (t2 t8 t14 t15 t16 : DV) (sg : List SObj) : Option (List DV × List SObj) := headP cfg R fl_check_scope_kids (retR cfg.P Tryz.f129 sig_check_scope_kids) [true, true, false, true, false] code_check_scope_kids (mst 36 [(2, t2), (8, t8), (14, t14), (15, t15), (16, t16)] [(0, (.map t0i)), (8, .own)] [] sg)
theorem eq_check_scope_kids (R : Orc) (x0 : Nat) (x1 x2 : DV) (sg : List SObj) : P_check_scope_kids R x0 x1 x2 sg =
 (og (isAggN 20 x1) <| ob (dLen (proj 19 x1)) fun d1 => P_check_scope_kids_3h R x0 x2 (.list 3 []) (proj 19 x1) d1 (.int .i64 0) sg) := evP_of [] (by kernel_rfl)
theorem eq_check_scope_kids_3h (R : Orc) (t0i : Nat) (t2 t8 t14 t15 t16 : DV) (sg : List SObj) : P_check_scope_kids_3h R t0i t2 t8 t14 t15 t16 sg =
 (ob (dBin .lss t16 t15) fun d1 => oif d1 (ob (dIdx 20 t14 t16) fun d2 => ob (R.r F_check_scope_term [(.undef, (.map t0i)), ((ag20 d2), .val), (t2, .val)] sg) fun q3 => ob (dExt 0 (.tup q3.1)) fun d4 => ob (dExt 1 (.tup q3.1)) fun d5 => og (isAggN 3 d4) <| ob (dBin .neq d5 (.int .i64 0)) fun d6 => oif d6 (some ([(.list 3 []), d5], q3.2)) (ob (dApp 3 t8 (.list 3 [(ag3 d4)])) fun d7 => ob (dBin .add t16 (.int .i64 1)) fun d8 => P_check_scope_kids_3h R t0i t2 d7 t14 t15 d8 q3.2)) (some ([t8, (.int .i64 0)], sg))) := headP_of [] (by kernel_rfl)
theorem fix_check_scope_kids (x0 : Nat) (x1 x2 : DV) (sg : List SObj) : (run cfg).r F_check_scope_kids [(.undef, (.map x0)), (x1, .val), (x2, .val)] sg = P_check_scope_kids (run cfg) x0 x1 x2 sg :=
 (fix_raw (C := cfg) (f := F_check_scope_kids) (s := sig_check_scope_kids) (fn := Tryz.f129) (c := code_check_scope_kids) (by kernel_rfl) Tryz.func129 (by kernel_rfl)).trans (by kernel_rfl)
theorem call_check_scope_kids (x0 : Nat) (x1 x2 : DV) (sg : List SObj) {q : List DV × List SObj} (h : P_check_scope_kids (run cfg) x0 x1 x2 sg = some q) : (run cfg).r F_check_scope_kids [(.undef, (.map x0)), (x1, .val), (x2, .val)] sg = some q := (fix_check_scope_kids x0 x1 x2 sg).trans h
noncomputable def code_check_scope_of : Code := Tryz.f130.body.getD .skip
noncomputable def P_check_scope_of (R : Orc) (x0 : Nat) (x1 x2 : DV) (sg : List SObj) : Option (List DV × List SObj) := evP cfg R fl_check_scope_of (retR cfg.P Tryz.f130 sig_check_scope_of) [] code_check_scope_of (initSt Tryz.f130 [(.undef, (.map x0)), (x1, .val), (x2, .val)] sg)
noncomputable def P_check_scope_of_13 (R : Orc) (t0i : Nat) (t2 t11 b4 : DV) (sg : List SObj) : Option (List DV × List SObj) := evP cfg R fl_check_scope_of (retR cfg.P Tryz.f130 sig_check_scope_of) [true, false, true, false, true, true, true, true, true, true, true, true] code_check_scope_of (mst 134 [(2, t2), (11, t11)] [(0, (.map t0i)), (4, (.loc 4 0)), (6, (.loc 6 0))] [(4, some (bxs b4 0 20)), (6, some zb1)] sg)
noncomputable def P_check_scope_of_21 (R : Orc) (t2 t8 t9 : DV) (sg : List SObj) : Option (List DV × List SObj) := evP cfg R fl_check_scope_of (retR cfg.P Tryz.f130 sig_check_scope_of) [true, false, true, false, true, true, true, true, true, true, true, true, true, false, true, true] code_check_scope_of (mst 134 [(2, t2), (8, t8), (9, t9)] [(6, (.loc 6 0))] [(6, some zb1)] sg)
set_option maxRecDepth 100000 in
theorem eq_check_scope_of (R : Orc) (x0 : Nat) (x1 x2 : DV) (sg : List SObj) : P_check_scope_of R x0 x1 x2 sg =
 (og (isAggN 20 x1) <| ob (dBin .eql (proj 0 x1) (.int .i64 6)) fun d1 => oif d1 (og (isCell x2) <| some ([(.agg [(.int .i64 7), (.int .i64 0), x2]), (.int .i64 0)], sg)) (ob (dBin .eql (proj 0 x1) (.int .i64 8)) fun d2 => oif d2 (ob (dIdx 3 x2 (.int .i64 1)) fun d3 => ob (dBin .eql (proj 0 d3) (.int .i64 8)) fun d4 => ogd d4 (ob (dIdx 3 x2 (.int .i64 1)) fun d5 => ob (dIdx 3 (proj 2 d5) (.int .i64 0)) fun d6 => ob (dIdx 3 x2 (.int .i64 0)) fun d7 => ob (R.p F_typ_Same [(ag3 d6), (ag3 d7)]) fun d8 => oif d8 (ob (dIdx 3 x2 (.int .i64 1)) fun d9 => some ([(ag3 d9), (.int .i64 0)], sg)) (some ([(.agg [(.int .i64 0), (.int .i64 0), (.list 3 [])]), (.int .i64 4)], sg))) (some ([(.agg [(.int .i64 0), (.int .i64 0), (.list 3 [])]), (.int .i64 4)], sg)) none) (ob (dBin .eql (proj 0 x1) (.int .i64 10)) fun d10 => oif d10 (ob (dIdx 3 x2 (.int .i64 0)) fun d11 => ob (dBin .eql (proj 0 d11) (.int .i64 9)) fun d12 => ogd d12 (ob (dIdx 3 x2 (.int .i64 0)) fun d13 => ob (dIdx 3 (proj 2 d13) (.int .i64 0)) fun d14 => ob (dIdx 3 x2 (.int .i64 1)) fun d15 => ob (R.p F_typ_Same [(ag3 d14), (ag3 d15)]) fun d16 => oif d16 (ob (dIdx 3 x2 (.int .i64 0)) fun d17 => ob (dIdx 3 (proj 2 d17) (.int .i64 1)) fun d18 =>
 some ([(ag3 d18), (.int .i64 0)], sg)) (some ([(.agg [(.int .i64 0), (.int .i64 0), (.list 3 [])]), (.int .i64 4)], sg))) (some ([(.agg [(.int .i64 0), (.int .i64 0), (.list 3 [])]), (.int .i64 4)], sg)) none) (ob (dBin .eql (proj 0 x1) (.int .i64 13)) fun d19 => oif d19 (ob (dIdx 3 x2 (.int .i64 0)) fun d20 => ob (dBin .eql (proj 0 d20) (.int .i64 2)) fun d21 => ogd d21 (ob (dIdx 3 x2 (.int .i64 1)) fun d22 => ob (dIdx 3 x2 (.int .i64 2)) fun d23 => ob (R.p F_typ_Same [(ag3 d22), (ag3 d23)]) fun d24 => oif d24 (ob (dIdx 3 x2 (.int .i64 1)) fun d25 => some ([(ag3 d25), (.int .i64 0)], sg)) (some ([(.agg [(.int .i64 0), (.int .i64 0), (.list 3 [])]), (.int .i64 4)], sg))) (some ([(.agg [(.int .i64 0), (.int .i64 0), (.list 3 [])]), (.int .i64 4)], sg)) none) (P_check_scope_of_13 R x0 x2 (proj 0 x1) x1 sg))))) := evP_of [13, 21] (by kernel_rfl)
set_option maxRecDepth 100000 in
theorem eq_check_scope_of_13 (R : Orc) (t0i : Nat) (t2 t11 b4 : DV) (sg : List SObj) : P_check_scope_of_13 R t0i t2 t11 b4 sg =
 (ob (dBin .eql t11 (.int .i64 15)) fun d1 => oif d1 (ob (dBin .eql (proj 7 b4) (.int .i64 5)) fun d2 => oif d2 (P_check_scope_of_21 R t2 (.int .i64 1) (.int .i64 2) sg) (ob (dBin .eql (proj 7 b4) (.int .i64 6)) fun d3 => oif d3 (P_check_scope_of_21 R t2 (.int .i64 1) (.int .i64 2) sg) (ob (dBin .eql (proj 7 b4) (.int .i64 7)) fun d4 => oif d4 (P_check_scope_of_21 R t2 (.int .i64 3) (.int .i64 2) sg) (P_check_scope_of_21 R t2 (.int .i64 1) (.int .i64 1) sg)))) (ob (dBin .eql t11 (.int .i64 16)) fun d5 => oif d5 (ob (R.r F_check_scope_has [(.undef, (.map t0i)), ((.list 3 [(.agg [(proj 11 b4), (proj 12 b4), (proj 13 b4)]), (.agg [(proj 14 b4), (proj 15 b4), (proj 16 b4)])]), .val)] sg) fun q6 => ob (dUn .not (q6.1.getD 0 .undef)) fun d7 => oif d7 (some ([(.agg [(.int .i64 0), (.int .i64 0), (.list 3 [])]), (.int .i64 6)], q6.2)) (ob (dIdx 3 t2 (.int .i64 0)) fun d8 => ob (R.p F_typ_Same [(ag3 d8), (.agg [(proj 11 b4), (proj 12 b4), (proj 13 b4)])]) fun d9 => ogd d9 (ob (R.p F_agree_Agree [(.agg [(proj 11 b4), (proj 12 b4), (proj 13 b4)]), (.agg [(proj 14 b4), (proj 15 b4), (proj 16 b4)])]) fun d10 => oif d10 (some ([(.agg [(proj 14 b4), (proj 15 b4), (proj 16 b4)]), (.int .i64 0)], q6.2)) (some ([(.agg [(.int .i64 0), (.int .i64 0), (.list 3 [])]), (.int .i64 4)], q6.2))) (some ([(.agg [(.int .i64 0), (.int .i64 0), (.list 3 [])]), (.int .i64 4)], q6.2)) none)) (some ([(.agg [(.int .i64 0), (.int .i64 0), (.list 3 [])]), (.int .i64 4)], sg)))) := evP_of [13, 21] (by kernel_rfl)
theorem eq_check_scope_of_21 (R : Orc) (t2 t8 t9 : DV) (sg : List SObj) : P_check_scope_of_21 R t2 t8 t9 sg =
 (ob (dIdx 3 t2 (.int .i64 0)) fun d1 => ob (dBin .eql (proj 0 d1) t8) fun d2 => ogd d2 (ob (dIdx 3 t2 (.int .i64 1)) fun d3 => ob (dBin .eql (proj 0 d3) t8) fun d4 => oif d4 (og (isCell t9) <| some ([(.agg [t9, (.int .i64 0), (.list 3 [])]), (.int .i64 0)], sg)) (some ([(.agg [(.int .i64 0), (.int .i64 0), (.list 3 [])]), (.int .i64 4)], sg))) (some ([(.agg [(.int .i64 0), (.int .i64 0), (.list 3 [])]), (.int .i64 4)], sg)) none) := evP_of [13, 21] (by kernel_rfl)
theorem fix_check_scope_of (x0 : Nat) (x1 x2 : DV) (sg : List SObj) : (run cfg).r F_check_scope_of [(.undef, (.map x0)), (x1, .val), (x2, .val)] sg = P_check_scope_of (run cfg) x0 x1 x2 sg :=
 (fix_raw (C := cfg) (f := F_check_scope_of) (s := sig_check_scope_of) (fn := Tryz.f130) (c := code_check_scope_of) (by kernel_rfl) Tryz.func130 (by kernel_rfl)).trans (by kernel_rfl)
theorem call_check_scope_of (x0 : Nat) (x1 x2 : DV) (sg : List SObj) {q : List DV × List SObj} (h : P_check_scope_of (run cfg) x0 x1 x2 sg = some q) : (run cfg).r F_check_scope_of [(.undef, (.map x0)), (x1, .val), (x2, .val)] sg = some q := (fix_check_scope_of x0 x1 x2 sg).trans h
noncomputable def P_r03_Leaf (R : Orc) (x0 : DV) : Option DV := eP Tryz.f131 fl_r03_Leaf R [] (initSt Tryz.f131 [(x0, .val)] [])
theorem eq_r03_Leaf (R : Orc) (x0 : DV) : P_r03_Leaf R x0 =
 (og (isCell x0) <| some (.agg [x0, (.int .i64 0), (.list 3 [])])) := evP_of [] (by kernel_rfl)
theorem call_r03_Leaf (x0 : DV) {d : DV} (h : P_r03_Leaf (run cfg) x0 = some d) : (run cfg).p F_r03_Leaf [x0] = some d := callE Tryz.func131 (by kernel_rfl) (by kernel_rfl) (by kernel_rfl) h
noncomputable def P_term_one (R : Orc) (x0 : DV) : Option DV := eP Tryz.f132 fl_term_one R [] (initSt Tryz.f132 [(x0, .val)] [])
noncomputable def P_term_one_4 (R : Orc) (b1 b3 : DV) : Option DV := eP Tryz.f132 fl_term_one R [true, true, false, false, true, true] (mst 183 [] [(1, (.loc 1 0)), (3, (.loc 3 0))] [(1, some (bxs b1 0 20)), (3, some (bxs b3 0 13))] [])
noncomputable def P_term_one_6 (R : Orc) (b1 b3 : DV) : Option DV := eP Tryz.f132 fl_term_one R [true, true, false, false, true, true, true, true] (mst 183 [] [(1, (.loc 1 0)), (3, (.loc 3 0))] [(1, some (bxs b1 0 20)), (3, some (bxs b3 0 13))] [])
noncomputable def P_term_one_8 (R : Orc) (b1 b3 : DV) : Option DV := eP Tryz.f132 fl_term_one R [true, true, false, false, true, true, true, true, true, true] (mst 183 [] [(1, (.loc 1 0)), (3, (.loc 3 0))] [(1, some (bxs b1 0 20)), (3, some (bxs b3 0 13))] [])
noncomputable def P_term_one_10 (R : Orc) (b1 b3 : DV) : Option DV := eP Tryz.f132 fl_term_one R [true, true, false, false, true, true, true, true, true, true, true, true] (mst 183 [] [(1, (.loc 1 0)), (3, (.loc 3 0))] [(1, some (bxs b1 0 20)), (3, some (bxs b3 0 13))] [])
noncomputable def P_term_one_12 (R : Orc) (b1 b3 : DV) : Option DV := eP Tryz.f132 fl_term_one R [true, true, false, false, true, true, true, true, true, true, true, true, true, true] (mst 183 [] [(1, (.loc 1 0)), (3, (.loc 3 0))] [(1, some (bxs b1 0 20)), (3, some (bxs b3 0 13))] [])
set_option maxRecDepth 100000 in
theorem eq_term_one (R : Orc) (x0 : DV) : P_term_one R x0 =
 (og (isAggN 20 x0) <| ob (R.p F_term_shapeOf [(ag20 x0)]) fun d1 => ob (dExt 0 d1) fun d2 => ob (dExt 1 d1) fun d3 => og (isAggN 13 d2) <| ob (dUn .not d3) fun d4 => ogd d4 (some (.bool false)) (ob (dLen (proj 19 x0)) fun d5 => ob (dBin .neq d5 (proj 12 d2)) fun d6 => ogd d6 (some (.bool false)) (ob (R.p F_term_named [(proj 0 d2), (proj 3 x0)]) fun d7 => ob (dUn .not d7) fun d8 => ogd d8 (some (.bool false)) (ob (R.p F_term_named [(proj 1 d2), (proj 4 x0)]) fun d9 => ob (dUn .not d9) fun d10 => ogd d10 (some (.bool false)) (ob (R.p F_term_typed [(proj 9 d2), (.agg [(proj 11 x0), (proj 12 x0), (proj 13 x0)])]) fun d11 => ob (dUn .not d11) fun d12 => ogd d12 (some (.bool false)) (ob (R.p F_term_typed [(proj 10 d2), (.agg [(proj 14 x0), (proj 15 x0), (proj 16 x0)])]) fun d13 => ob (dUn .not d13) fun d14 => oif d14 (some (.bool false)) (P_term_one_4 R x0 d2)) none) none) none) none) none) := evP_of [4, 6, 8, 10, 12] (by kernel_rfl)
set_option maxRecDepth 100000 in
theorem eq_term_one_4 (R : Orc) (b1 b3 : DV) : P_term_one_4 R b1 b3 =
 (ob (dUn .not (proj 2 b3)) fun d1 => ogd d1 (ob (dBin .neq (proj 5 b1) (.int .i64 0)) fun d2 => ogd d2 (some (.bool false)) (ob (dBin .eql (proj 0 b1) (.int .i64 3)) fun d3 => ogd d3 (ob (dBin .neq (proj 5 b1) (.int .i64 0)) fun d4 => ogd d4 (ob (dBin .neq (proj 5 b1) (.int .i64 1)) fun d5 => oif d5 (some (.bool false)) (P_term_one_6 R b1 b3)) (P_term_one_6 R b1 b3) none) (P_term_one_6 R b1 b3) none) none) (ob (dBin .eql (proj 0 b1) (.int .i64 3)) fun d6 => ogd d6 (ob (dBin .neq (proj 5 b1) (.int .i64 0)) fun d7 => ogd d7 (ob (dBin .neq (proj 5 b1) (.int .i64 1)) fun d8 => oif d8 (some (.bool false)) (P_term_one_6 R b1 b3)) (P_term_one_6 R b1 b3) none) (P_term_one_6 R b1 b3) none) none) := evP_of [4, 6, 8, 10, 12] (by kernel_rfl)
set_option maxRecDepth 100000 in
theorem eq_term_one_6 (R : Orc) (b1 b3 : DV) : P_term_one_6 R b1 b3 =
 (ob (dUn .not (proj 3 b3)) fun d1 => ogd d1 (ob (dBin .neq (proj 6 b1) (.str ⟨#[]⟩)) fun d2 => ogd d2 (some (.bool false)) (ob (dLenS (proj 6 b1)) fun d3 => ob (dBin .gtr d3 (.int .i64 200)) fun d4 => ogd d4 (some (.bool false)) (ob (dUn .not (proj 5 b3)) fun d5 => ogd d5 (ob (dEqA [.int, .int] (.agg [(proj 1 b1), (proj 2 b1)]) (.agg [(.int .i64 0), (.int .i64 0)])) fun b6 => oif (.bool !b6) (some (.bool false)) (P_term_one_8 R b1 b3)) (P_term_one_8 R b1 b3) none) none) none) (ob (dLenS (proj 6 b1)) fun d7 => ob (dBin .gtr d7 (.int .i64 200)) fun d8 => ogd d8 (some (.bool false)) (ob (dUn .not (proj 5 b3)) fun d9 => ogd d9 (ob (dEqA [.int, .int] (.agg [(proj 1 b1), (proj 2 b1)]) (.agg [(.int .i64 0), (.int .i64 0)])) fun b10 => oif (.bool !b10) (some (.bool false)) (P_term_one_8 R b1 b3)) (P_term_one_8 R b1 b3) none) none) none) := evP_of [4, 6, 8, 10, 12] (by kernel_rfl)
set_option maxRecDepth 100000 in
theorem eq_term_one_8 (R : Orc) (b1 b3 : DV) : P_term_one_8 R b1 b3 =
 (ogd (proj 4 b3) (ob (dBin .lss (proj 7 b1) (.int .i64 1)) fun d1 => ogd d1 (some (.bool false)) (ob (dBin .gtr (proj 7 b1) (.int .i64 7)) fun d2 => ogd d2 (some (.bool false)) (ob (dUn .not (proj 4 b3)) fun d3 => ogd d3 (ob (dBin .neq (proj 7 b1) (.int .i64 0)) fun d4 => oif d4 (some (.bool false)) (P_term_one_10 R b1 b3)) (P_term_one_10 R b1 b3) none) none) none) (ob (dUn .not (proj 4 b3)) fun d5 => ogd d5 (ob (dBin .neq (proj 7 b1) (.int .i64 0)) fun d6 => oif d6 (some (.bool false)) (P_term_one_10 R b1 b3)) (P_term_one_10 R b1 b3) none) none) := evP_of [4, 6, 8, 10, 12] (by kernel_rfl)
set_option maxRecDepth 100000 in
theorem eq_term_one_10 (R : Orc) (b1 b3 : DV) : P_term_one_10 R b1 b3 =
 (ob (dUn .not (proj 11 b3)) fun d1 => ogd d1 (ob (dBin .neq (proj 8 b1) (.int .i64 0)) fun d2 => ogd d2 (some (.bool false)) (ogd (proj 9 b1) (some (.bool false)) (ob (dBin .lss (proj 8 b1) (.int .i64 0)) fun d3 => ogd d3 (some (.bool false)) (ob (dBin .gtr (proj 8 b1) (.int .i64 1048576)) fun d4 => oif d4 (some (.bool false)) (P_term_one_12 R b1 b3)) none) none) none) (ob (dBin .lss (proj 8 b1) (.int .i64 0)) fun d5 => ogd d5 (some (.bool false)) (ob (dBin .gtr (proj 8 b1) (.int .i64 1048576)) fun d6 => oif d6 (some (.bool false)) (P_term_one_12 R b1 b3)) none) none) := evP_of [4, 6, 8, 10, 12] (by kernel_rfl)
set_option maxRecDepth 100000 in
theorem eq_term_one_12 (R : Orc) (b1 b3 : DV) : P_term_one_12 R b1 b3 =
 (ob (dUn .not (proj 6 b3)) fun d1 => ogd d1 (ob (dLen (proj 10 b1)) fun d2 => ob (dBin .gtr d2 (.int .i64 0)) fun d3 => ogd d3 (some (.bool false)) (ob (dUn .not (proj 7 b3)) fun d4 => ogd d4 (ob (dLen (proj 17 b1)) fun d5 => ob (dBin .gtr d5 (.int .i64 0)) fun d6 => ogd d6 (some (.bool false)) (ob (dUn .not (proj 8 b3)) fun d7 => ogd d7 (ob (dLen (proj 18 b1)) fun d8 => ob (dBin .gtr d8 (.int .i64 0)) fun d9 => oif d9 (some (.bool false)) (ob (R.p F_term_lists [(ag20 b1)]) fun d10 => some d10)) (ob (R.p F_term_lists [(ag20 b1)]) fun d11 => some d11) none) none) (ob (dUn .not (proj 8 b3)) fun d12 => ogd d12 (ob (dLen (proj 18 b1)) fun d13 => ob (dBin .gtr d13 (.int .i64 0)) fun d14 => oif d14 (some (.bool false)) (ob (R.p F_term_lists [(ag20 b1)]) fun d15 => some d15)) (ob (R.p F_term_lists [(ag20 b1)]) fun d16 => some d16) none) none) none) (ob (dUn .not (proj 7 b3)) fun d17 => ogd d17 (ob (dLen (proj 17 b1)) fun d18 => ob (dBin .gtr d18 (.int .i64 0)) fun d19 => ogd d19 (some (.bool false)) (ob (dUn .not (proj 8 b3)) fun d20 => ogd d20 (ob (dLen (proj 18 b1)) fun d21 => ob (dBin .gtr d21 (.int .i64 0)) fun d22 => oif d22 (some (.bool false)) (ob (R.p F_term_lists [(ag20 b1)]) fun d23 =>
 some d23)) (ob (R.p F_term_lists [(ag20 b1)]) fun d24 => some d24) none) none) (ob (dUn .not (proj 8 b3)) fun d25 => ogd d25 (ob (dLen (proj 18 b1)) fun d26 => ob (dBin .gtr d26 (.int .i64 0)) fun d27 => oif d27 (some (.bool false)) (ob (R.p F_term_lists [(ag20 b1)]) fun d28 => some d28)) (ob (R.p F_term_lists [(ag20 b1)]) fun d29 => some d29) none) none) none) := evP_of [4, 6, 8, 10, 12] (by kernel_rfl)
theorem call_term_one (x0 : DV) {d : DV} (h : P_term_one (run cfg) x0 = some d) : (run cfg).p F_term_one [x0] = some d := callE Tryz.func132 (by kernel_rfl) (by kernel_rfl) (by kernel_rfl) h
end Go.Su

/-
 Equations of the program's functions: by program.
-/
namespace Go.Su
open Go.Proofs
set_option linter.unusedVariables false
noncomputable def code_term_free : Code := Tryz.f133.body.getD .skip
noncomputable def P_term_free (R : Orc) (x0 : DV) (x1 x2 : Nat) (sg : List SObj) : Option (List DV × List SObj) := evP cfg R fl_term_free (retR cfg.P Tryz.f133 sig_term_free) [] code_term_free (initSt Tryz.f133 [(x0, .val), (.undef, (.map x1)), (.undef, (.map x2))] sg)
noncomputable def P_term_free_3 (R : Orc) (t1i t2i : Nat) (b3 : DV) (sg : List SObj) : Option (List DV × List SObj) := evP cfg R fl_term_free (retR cfg.P Tryz.f133 sig_term_free) [true, true] code_term_free (mst 66 [] [(1, (.map t1i)), (2, (.map t2i)), (3, (.loc 3 0))] [(3, some (bxs b3 0 20))] sg)
noncomputable def P_term_free_4h (R : Orc) (t1i t2i : Nat) (t29 t30 t31 b3 : DV) (sg : List SObj) : Option (List DV × List SObj) := headP cfg R fl_term_free (retR cfg.P Tryz.f133 sig_term_free) [true, true, true, false] code_term_free (mst 66 [(29, t29), (30, t30), (31, t31)] [(1, (.map t1i)), (2, (.map t2i)), (3, (.loc 3 0))] [(3, some (bxs b3 0 20))] sg)
noncomputable def P_term_free_8h (R : Orc) (t1i t2i : Nat) (t8 t29 t30 t31 t39 t40 t41 b3 b7 : DV) (sg : List SObj) : Option (List DV × List SObj) := headP cfg R fl_term_free (retR cfg.P Tryz.f133 sig_term_free) [true, true, true, false, false, true, true, false, false, true, true, false, true, false] code_term_free (mst 66 [(8, t8), (29, t29), (30, t30), (31, t31), (39, t39), (40, t40), (41, t41)] [(1, (.map t1i)), (2, (.map t2i)), (3, (.loc 3 0)), (7, (.loc 7 0))] [(3, some (bxs b3 0 20)), (7, some (bxs b7 0 20))] sg)
noncomputable def P_term_free_14h (R : Orc) (t1i t2i : Nat) (t29 t30 t31 t54 t55 t56 b3 : DV) (sg : List SObj) : Option (List DV × List SObj) := headP cfg R fl_term_free (retR cfg.P Tryz.f133 sig_term_free) [true, true, true, false, false, true, true, false, false, true, true, true, true, true, false] code_term_free (mst 66 [(29, t29), (30, t30), (31, t31), (54, t54), (55, t55), (56, t56)] [(1, (.map t1i)), (2, (.map t2i)), (3, (.loc 3 0))] [(3, some (bxs b3 0 20))] sg)
theorem eq_term_free (R : Orc) (x0 : DV) (x1 x2 : Nat) (sg : List SObj) : P_term_free R x0 x1 x2 sg =
 (og (isAggN 20 x0) <| ob (dBin .eql (proj 0 x0) (.int .i64 1)) fun d1 => ogd d1 (og (isKey true (proj 3 x0) && true) <| ob (sgMap sg x1) fun m2 => og (m2.1 == true) <| ob (dBin .eql ((mGet m2.2 (proj 3 x0)).getD (.int .i64 0)) (.int .i64 0)) fun d3 => oif d3 (og (isKey true (proj 3 x0) && true) <| ob (sgMap sg x2) fun m4 => og (m4.1 == true) <| ob (dBin .add ((mGet m4.2 (proj 3 x0)).getD (.int .i64 0)) (.int .i64 1)) fun d5 => og (isKey true (proj 3 x0) && true && true) <| ob (sgMap sg x2) fun m6 => og (m6.1 == true) <| P_term_free_3 R x1 x2 x0 (sg.set x2 (.map true (mSet m6.2 (proj 3 x0) d5)))) (P_term_free_3 R x1 x2 x0 sg)) (P_term_free_3 R x1 x2 x0 sg) none) := evP_of [3] (by kernel_rfl)
theorem eq_term_free_3 (R : Orc) (t1i t2i : Nat) (b3 : DV) (sg : List SObj) : P_term_free_3 R t1i t2i b3 sg =
 (ob (dLen (proj 19 b3)) fun d1 => P_term_free_4h R t1i t2i (proj 19 b3) d1 (.int .i64 0) b3 sg) := evP_of [3] (by kernel_rfl)
theorem eq_term_free_4h (R : Orc) (t1i t2i : Nat) (t29 t30 t31 b3 : DV) (sg : List SObj) : P_term_free_4h R t1i t2i t29 t30 t31 b3 sg =
 (ob (dBin .lss t31 t30) fun d1 => oif d1 (ob (dIdx 20 t29 t31) fun d2 => ob (R.p F_term_binds [(ag20 b3), t31]) fun d3 => ob (dLen d3) fun d4 => P_term_free_8h R t1i t2i d3 t29 t30 t31 d3 d4 (.int .i64 0) b3 d2 sg) (some ([], sg))) := headP_of [3] (by kernel_rfl)
theorem eq_term_free_8h (R : Orc) (t1i t2i : Nat) (t8 t29 t30 t31 t39 t40 t41 b3 b7 : DV) (sg : List SObj) : P_term_free_8h R t1i t2i t8 t29 t30 t31 t39 t40 t41 b3 b7 sg =
 (ob (dBin .lss t41 t40) fun d1 => oif d1 (ob (dIdx 1 t39 t41) fun d2 => og (isLeaf d2) <| og (isKey true d2 && true) <| ob (sgMap sg t1i) fun m3 => og (m3.1 == true) <| ob (dBin .add ((mGet m3.2 d2).getD (.int .i64 0)) (.int .i64 1)) fun d4 => og (isKey true d2 && true && true) <| ob (sgMap sg t1i) fun m5 => og (m5.1 == true) <| ob (dBin .add t41 (.int .i64 1)) fun d6 => P_term_free_8h R t1i t2i t8 t29 t30 t31 t39 t40 d6 b3 b7 (sg.set t1i (.map true (mSet m5.2 d2 d4)))) (ob (R.r F_term_free [((ag20 b7), .val), (.undef, (.map t1i)), (.undef, (.map t2i))] sg) fun q7 => ob (dLen t8) fun d8 => P_term_free_14h R t1i t2i t29 t30 t31 t8 d8 (.int .i64 0) b3 q7.2)) := headP_of [3] (by kernel_rfl)
theorem eq_term_free_14h (R : Orc) (t1i t2i : Nat) (t29 t30 t31 t54 t55 t56 b3 : DV) (sg : List SObj) : P_term_free_14h R t1i t2i t29 t30 t31 t54 t55 t56 b3 sg =
 (ob (dBin .lss t56 t55) fun d1 => oif d1 (ob (dIdx 1 t54 t56) fun d2 => og (isLeaf d2) <| og (isKey true d2 && true) <| ob (sgMap sg t1i) fun m3 => og (m3.1 == true) <| ob (dBin .sub ((mGet m3.2 d2).getD (.int .i64 0)) (.int .i64 1)) fun d4 => og (isKey true d2 && true && true) <| ob (sgMap sg t1i) fun m5 => og (m5.1 == true) <| ob (dBin .add t56 (.int .i64 1)) fun d6 => P_term_free_14h R t1i t2i t29 t30 t31 t54 t55 d6 b3 (sg.set t1i (.map true (mSet m5.2 d2 d4)))) (ob (dBin .add t31 (.int .i64 1)) fun d7 => P_term_free_4h R t1i t2i t29 t30 d7 b3 sg)) := headP_of [3] (by kernel_rfl)
theorem fix_term_free (x0 : DV) (x1 x2 : Nat) (sg : List SObj) : (run cfg).r F_term_free [(x0, .val), (.undef, (.map x1)), (.undef, (.map x2))] sg = P_term_free (run cfg) x0 x1 x2 sg :=
 (fix_raw (C := cfg) (f := F_term_free) (s := sig_term_free) (fn := Tryz.f133) (c := code_term_free) (by kernel_rfl) Tryz.func133 (by kernel_rfl)).trans (by kernel_rfl)
theorem call_term_free (x0 : DV) (x1 x2 : Nat) (sg : List SObj) {q : List DV × List SObj} (h : P_term_free (run cfg) x0 x1 x2 sg = some q) : (run cfg).r F_term_free [(x0, .val), (.undef, (.map x1)), (.undef, (.map x2))] sg = some q := (fix_term_free x0 x1 x2 sg).trans h
noncomputable def code_term_putting_in : Code := Tryz.f135.body.getD .skip
noncomputable def P_term_putting_in (R : Orc) (x0 : Nat) (x1 : DV) (sg : List SObj) : Option (List DV × List SObj) := evP cfg R fl_term_putting_in (retR cfg.P Tryz.f135 sig_term_putting_in) [] code_term_putting_in (initSt Tryz.f135 [(.undef, (.ptr x0 0)), (x1, .val)] sg)
noncomputable def P_term_putting_in_10h (R : Orc) (t0i : Nat) (t51 t52 b3 : DV) (sg : List SObj) : Option (List DV × List SObj) := headP cfg R fl_term_putting_in (retR cfg.P Tryz.f135 sig_term_putting_in) [true, false, true, false, true, true, false, true, false] code_term_putting_in (mst 115 [(6, (.list 4 [])), (51, t51), (52, t52), (53, (.int .i64 0))] [(0, (.ptr t0i 0)), (3, (.loc 3 0)), (4, (.loc 4 0)), (6, .own)] [(3, some (bxs b3 0 20)), (4, some zb0)] sg)
noncomputable def P_term_putting_in_19h (R : Orc) (t0i t9r0 t9r3 t83r0 t83r3 : Nat) (t84 t85 b3 : DV) (sg : List SObj) : Option (List DV × List SObj) := headP cfg R fl_term_putting_in (retR cfg.P Tryz.f135 sig_term_putting_in) [true, true, true, true, false, true, false] code_term_putting_in (mst 115 [(84, t84), (85, t85)] [(0, (.ptr t0i 0)), (3, (.loc 3 0)), (4, (.loc 4 0)), (9, (.arr t9r0 20 0 t9r3)), (83, (.arr t83r0 20 0 t83r3))] [(3, some (bxs b3 0 20)), (4, some zb0)] sg)
set_option maxRecDepth 100000 in
theorem eq_term_putting_in (R : Orc) (x0 : Nat) (x1 : DV) (sg : List SObj) : P_term_putting_in R x0 x1 sg =
 (og (isAggN 20 x1) <| ob (dBin .eql (proj 0 x1) (.int .i64 1)) fun d1 => oif d1 (ob (sgBox sg x0) fun c2 => ob (cellDat c2 0) fun d3 => ob (dBin .neq (proj 3 x1) d3) fun d4 => oif d4 (some ([(ag20 x1), (.bool true)], sg)) (ob (dLen (proj 17 x1)) fun d5 => ob (sgBox sg x0) fun c6 => ob (cellDat c6 1) fun d7 => ob (dLen d7) fun d8 => ob (dBin .neq d5 d8) fun d9 => oif d9 (some ([(ag20 x1), (.bool false)], sg)) (ob (sgBox sg x0) fun c10 => ob (cellDat c10 1) fun d11 => ob (dLen d11) fun d12 => ob (dBin .eql d12 (.int .i64 0)) fun d13 => oif d13 (ob (sgBox sg x0) fun c14 => ob (segDat 2 20 c14) fun e15 => og (isAggN 20 (.agg e15)) <| some ([(.agg [(proj 0 (.agg e15)), (proj 1 (.agg e15)), (proj 2 (.agg e15)), (proj 3 (.agg e15)), (proj 4 (.agg e15)), (proj 5 (.agg e15)), (proj 6 (.agg e15)), (proj 7 (.agg e15)), (proj 8 (.agg e15)), (proj 9 (.agg e15)), (proj 10 (.agg e15)), (proj 11 (.agg e15)), (proj 12 (.agg e15)), (proj 13 (.agg e15)), (proj 14 (.agg e15)), (proj 15 (.agg e15)), (proj 16 (.agg e15)), (proj 17 (.agg e15)), (proj 18 (.agg e15)), (proj 19 (.agg e15))]), (.bool true)], sg)) (ob (sgBox sg x0) fun c16 => ob (cellDat c16 1) fun d17 => ob (dLen d17) fun d18 =>
 P_term_putting_in_10h R x0 d17 d18 x1 sg)))) (ob (dLen (proj 19 x1)) fun d19 => ob (dBin .eql d19 (.int .i64 0)) fun d20 => oif d20 (some ([(ag20 x1), (.bool true)], sg)) (ob (dList (proj 19 x1)) fun p21 => og (true && p21.1 == 20 && decide (p21.2.length ≤ lim)) <| P_term_putting_in_19h R x0 (sg.length) (p21.2.length) (sg.length) (p21.2.length) (.int .i64 p21.2.length) (.int .i64 0) x1 (sg ++ [.arr 20 p21.2])))) := evP_of [] (by kernel_rfl)
theorem eq_term_putting_in_19h (R : Orc) (t0i t9r0 t9r3 t83r0 t83r3 : Nat) (t84 t85 b3 : DV) (sg : List SObj) : P_term_putting_in_19h R t0i t9r0 t9r3 t83r0 t83r3 t84 t85 b3 sg =
 (ob (dBin .lss t85 t84) fun d1 => oif d1 (ob (arrIdx 0 t83r3 t85) fun n2 => ob (sgArr sg t83r0) fun r3 => ob (r3.2[n2]?) fun d4 => og (r3.1 == 20) <| ob (R.p F_term_binds [(ag20 b3), t85]) fun d5 => ob (sgBox sg t0i) fun c6 => ob (cellDat c6 0) fun d7 => ob (R.p F_slices_Contains__string_string [d5, d7]) fun d8 => oif d8 (ob (dBin .add t85 (.int .i64 1)) fun d9 => P_term_putting_in_19h R t0i t9r0 t9r3 t83r0 t83r3 t84 d9 b3 sg) (ob (R.r F_term_putting_in [(.undef, (.ptr t0i 0)), ((ag20 d4), .val)] sg) fun q10 => ob (dExt 0 (.tup q10.1)) fun d11 => ob (dExt 1 (.tup q10.1)) fun d12 => og (isAggN 20 d11) <| ob (dUn .not d12) fun d13 => oif d13 (some ([(ag20 b3), (.bool false)], q10.2)) (ob (arrIdx 0 t9r3 t85) fun n14 => ob (sgArr q10.2 t9r0) fun r15 => ob (r15.2[n14]?) fun u16 => og (r15.1 == 20) <| ob (dBin .add t85 (.int .i64 1)) fun d17 => P_term_putting_in_19h R t0i t9r0 t9r3 t83r0 t83r3 t84 d17 b3 (q10.2.set t9r0 (.arr 20 (r15.2.set n14 (ag20 d11))))))) (ob (seqO [ob (sealCells sg [((proj 0 b3), .val), ((proj 1 b3), .val), ((proj 2 b3), .val), ((proj 3 b3), .val), ((proj 4 b3), .val), ((proj 5 b3), .val), ((proj 6 b3), .val), ((proj 7 b3), .val), ((proj 8 b3), .val), ((proj 9 b3), .val), ((proj 10 b3), .val), ((proj 11 b3), .val), ((proj 12 b3), .val), ((proj 13 b3), .val), ((proj 14 b3), .val), ((proj 15 b3), .val), ((proj 16 b3), .val), ((proj 17 b3), .val), ((proj 18 b3), .val), (.undef, (.arr t9r0 20 0 t9r3))]) fun ds =>
 some (.agg ds), some (.bool true)]) fun ds => some (ds, (sg.set t9r0 (SObj.arr 1 []))))) := headP_of [] (by kernel_rfl)
theorem fix_term_putting_in (x0 : Nat) (x1 : DV) (sg : List SObj) : (run cfg).r F_term_putting_in [(.undef, (.ptr x0 0)), (x1, .val)] sg = P_term_putting_in (run cfg) x0 x1 sg :=
 (fix_raw (C := cfg) (f := F_term_putting_in) (s := sig_term_putting_in) (fn := Tryz.f135) (c := code_term_putting_in) (by kernel_rfl) Tryz.func135 (by kernel_rfl)).trans (by kernel_rfl)
theorem call_term_putting_in (x0 : Nat) (x1 : DV) (sg : List SObj) {q : List DV × List SObj} (h : P_term_putting_in (run cfg) x0 x1 sg = some q) : (run cfg).r F_term_putting_in [(.undef, (.ptr x0 0)), (x1, .val)] sg = some q := (fix_term_putting_in x0 x1 sg).trans h
noncomputable def code_tree_CheckPat : Code := Tryz.f145.body.getD .skip
noncomputable def P_tree_CheckPat (R : Orc) (x0 : DV) : Option DV := eP Tryz.f145 fl_tree_CheckPat R [] (initSt Tryz.f145 [(x0, .val)] [])
noncomputable def P_tree_CheckPat_r0 (R : Orc) (t0 t6 : DV) (sg : List SObj) : Option DV := eP Tryz.f145 fl_tree_CheckPat R [true, true, false, true, false] (mst 32 [(0, t0), (4, (.tup [])), (6, t6), (8, (.tup [])), (9, (.tup [])), (10, (.tup [])), (11, (.tup [])), (12, (.tup [])), (13, (.tup [])), (14, (.tup [])), (15, (.tup [])), (16, (.tup [])), (17, (.tup [])), (18, (.tup [])), (19, (.tup [])), (20, (.tup [])), (21, (.tup [])), (22, (.tup [])), (23, (.tup [])), (24, (.tup [])), (25, (.tup [])), (26, (.tup [])), (27, (.tup [])), (28, (.tup [])), (29, (.tup [])), (30, (.tup [])), (31, (.tup []))] [(1, (.ptr 0 0)), (2, (.ptr 1 0)), (3, (.ptr 3 0)), (5, (.map 2)), (7, (.fn 194 [(4, 0)]))] [] sg)
noncomputable def rcode_tree_CheckPat_r0 : Code := match (sub [true, true, false, true, false] code_tree_CheckPat []).1 with
 | .rangeFunc _ _ a b => .seq a b
 | c => c
noncomputable def X_tree_CheckPat_r0 (R : Orc) (t0 t6 : DV) (o : Out) (sg : List SObj) : Option DV := konP cfg R fl_tree_CheckPat (retP cfg.P Tryz.f145) [true, true, false, true, false] code_tree_CheckPat o (outerSt ⟨spread .undef 32 0 [(0, t0), (4, (.tup [])), (6, t6), (8, (.tup [])), (9, (.tup [])), (10, (.tup [])), (11, (.tup [])), (12, (.tup [])), (13, (.tup [])), (14, (.tup [])), (15, (.tup [])), (16, (.tup [])), (17, (.tup [])), (18, (.tup [])), (19, (.tup [])), (20, (.tup [])), (21, (.tup [])), (22, (.tup [])), (23, (.tup [])), (24, (.tup [])), (25, (.tup [])), (26, (.tup [])), (27, (.tup [])), (28, (.tup [])), (29, (.tup [])), (30, (.tup [])), (31, (.tup []))], spread .val 32 0 [(1, (.ptr 0 0)), (2, (.ptr 1 0)), (3, (.ptr 3 0)), (5, (.map 2)), (7, (.fn 194 [(4, 0)]))], spread none 32 0 [], []⟩ sg)
noncomputable def B_tree_CheckPat_r0 (R : Orc) (t0 t6 : DV) (I : List SObj → Option DV) (x : DV) (sg : List SObj) : Option DV := evP cfg R fl_tree_CheckPat (kr I (X_tree_CheckPat_r0 R t0 t6)) [] rcode_tree_CheckPat_r0 (mst 32 [(8, x)] [(2, (.ptr 1 0)), (3, (.ptr 3 0))] [] sg)
noncomputable def I_tree_CheckPat_r0 (R : Orc) (t0 t6 : DV) : List DV → List SObj → Option DV := foldIt (fun x I sg => B_tree_CheckPat_r0 R t0 t6 I x sg) (X_tree_CheckPat_r0 R t0 t6 .normal)
noncomputable def P_tree_CheckPat_6 (R : Orc) (t0 t6 : DV) (I : List SObj → Option DV) (b4 : DV) (sg : List SObj) : Option DV := evP cfg R fl_tree_CheckPat (kr I (X_tree_CheckPat_r0 R t0 t6)) [true, false, true] rcode_tree_CheckPat_r0 (mst 32 [] [(3, (.ptr 3 0)), (4, (.loc 4 0))] [(4, some (bxs b4 0 7))] sg)
theorem eq_tree_CheckPat (R : Orc) (x0 : DV) : P_tree_CheckPat R x0 =
 (og (isAggN 7 x0) <| P_tree_CheckPat_r0 R x0 (ag7 x0) [SObj.box [((proj 0 x0), .val), ((proj 1 x0), .val), ((proj 2 x0), .val), ((proj 3 x0), .val), ((proj 4 x0), .val), ((proj 5 x0), .val), ((proj 6 x0), .val)], SObj.box [((.int .i64 0), .val)], .map true [], SObj.box [(.undef, (.map 2))], SObj.box [((proj 0 x0), .val), ((proj 1 x0), .val), ((proj 2 x0), .val), ((proj 3 x0), .val), ((proj 4 x0), .val), ((proj 5 x0), .val), ((proj 6 x0), .val)]]) := evP_of [6] (by kernel_rfl)
theorem eq_tree_CheckPat_r0 (R : Orc) (t0 t6 : DV) (sg : List SObj) : P_tree_CheckPat_r0 R t0 t6 sg =
 ob (sgBox sg 4) fun cs => ob (allDat cs) fun cd => ob (flatD 7 6 cd) fun ds => I_tree_CheckPat_r0 R t0 t6 ds (sg.set 4 (.arr 1 [])) := (rangeP2 (t := 7) (f := 194) (i := 4) (q := 8) (it := flatD 7 6) (by kernel_rfl) (by kernel_rfl) (by kernel_rfl) (by kernel_rfl)).trans (by kernel_rfl)
theorem I_tree_CheckPat_r0_nil (R : Orc) (t0 t6 : DV) (sg : List SObj) : I_tree_CheckPat_r0 R t0 t6 [] sg = X_tree_CheckPat_r0 R t0 t6 .normal sg := rfl
theorem I_tree_CheckPat_r0_cons (R : Orc) (t0 t6 x : DV) (ds : List DV) (sg : List SObj) : I_tree_CheckPat_r0 R t0 t6 (x :: ds) sg = B_tree_CheckPat_r0 R t0 t6 (I_tree_CheckPat_r0 R t0 t6 ds) x sg := rfl
theorem eq_B_tree_CheckPat_r0 (R : Orc) (t0 t6 : DV) (I : List SObj → Option DV) (x : DV) (sg : List SObj) : B_tree_CheckPat_r0 R t0 t6 I x sg = (og (isAggN 7 x) <| ob (R.p F_tree_onePat [(ag7 x)]) fun d1 => ob (dUn .not d1) fun d2 => ogd d2 (ob (sgBox sg 1) fun c3 => ob (c3[0]?) fun u4 => X_tree_CheckPat_r0 R t0 t6 .ret (sg.set 1 (SObj.box (c3.set 0 ((.int .i64 1), .val))))) (ob (dBin .eql (proj 0 x) (.int .i64 2)) fun d5 => ogd d5 (ob (sgBox sg 3) fun c6 => ob (cellMap c6 0) fun i7 => og (isKey true (proj 3 x) && true) <| ob (sgMap sg i7) fun m8 =>
 og (m8.1 == true) <| ob (dBin .gtr ((mGet m8.2 (proj 3 x)).getD (.int .i64 0)) (.int .i64 0)) fun d9 => oif d9 (ob (sgBox sg 1) fun c10 => ob (c10[0]?) fun u11 => X_tree_CheckPat_r0 R t0 t6 .ret (sg.set 1 (SObj.box (c10.set 0 ((.int .i64 1), .val))))) (P_tree_CheckPat_6 R t0 t6 I x sg)) (P_tree_CheckPat_6 R t0 t6 I x sg) none) none) := evP_of [6] (by kernel_rfl)
theorem eq_X_tree_CheckPat_r0_normal (R : Orc) (t0 t6 : DV) (sg : List SObj) : X_tree_CheckPat_r0 R t0 t6 .normal sg =
 (ob (sgBox sg 1) fun c1 => ob (c1[0]?) fun u2 => ret1 (ob (sgBox (sg.set 1 (SObj.box (c1.set 0 ((.int .i64 0), .val)))) 1) fun c => oneCell (sg.set 1 (SObj.box (c1.set 0 ((.int .i64 0), .val)))) c)) := konP_of [6] (by kernel_rfl)
theorem eq_X_tree_CheckPat_r0_ret (R : Orc) (t0 t6 : DV) (sg : List SObj) : X_tree_CheckPat_r0 R t0 t6 .ret sg = (ret1 (ob (sgBox sg 1) fun c => oneCell sg c)) := konP_of [6] (by kernel_rfl)
theorem eq_tree_CheckPat_6 (R : Orc) (t0 t6 : DV) (I : List SObj → Option DV) (b4 : DV) (sg : List SObj) : P_tree_CheckPat_6 R t0 t6 I b4 sg = (ob (dBin .eql (proj 0 b4) (.int .i64 2)) fun d1 => oif d1 (ob (sgBox sg 3) fun c2 => ob (cellMap c2 0) fun i3 => og (isKey true (proj 3 b4) && true) <| ob (sgMap sg i3) fun m4 => og (m4.1 == true) <| ob (dBin .add ((mGet m4.2 (proj 3 b4)).getD (.int .i64 0)) (.int .i64 1)) fun d5 => og (isKey true (proj 3 b4) && true && true) <| ob (sgMap sg i3) fun m6 => og (m6.1 == true) <| I (sg.set i3 (.map true (mSet m6.2 (proj 3 b4) d5)))) (I sg)) := evP_of [6] (by kernel_rfl)
theorem call_tree_CheckPat (x0 : DV) {d : DV} (h : P_tree_CheckPat (run cfg) x0 = some d) : (run cfg).p F_tree_CheckPat [x0] = some d := callE Tryz.func145 (by kernel_rfl) (by kernel_rfl) (by kernel_rfl) h
noncomputable def P_slices_Contains__string_string (R : Orc) (x0 x1 : DV) : Option DV := eP Tryz.f146 fl_slices_Contains__string_string R [] (initSt Tryz.f146 [(x0, .val), (x1, .val)] [])
theorem eq_slices_Contains__string_string (R : Orc) (x0 x1 : DV) : P_slices_Contains__string_string R x0 x1 =
 (ob (R.p F_slices_Index__string_string [x0, x1]) fun d1 => ob (dBin .geq d1 (.int .i64 0)) fun d2 => some d2) := evP_of [] (by kernel_rfl)
theorem call_slices_Contains__string_string (x0 x1 : DV) {d : DV} (h : P_slices_Contains__string_string (run cfg) x0 x1 = some d) : (run cfg).p F_slices_Contains__string_string [x0, x1] = some d := callE Tryz.func146 (by kernel_rfl) (by kernel_rfl) (by kernel_rfl) h
noncomputable def P_r01_digit (R : Orc) (x0 : DV) : Option DV := eP Tryz.f148 fl_r01_digit R [] (initSt Tryz.f148 [(x0, .val)] [])
theorem eq_r01_digit (R : Orc) (x0 : DV) : P_r01_digit R x0 =
 (ob (dBin .geq x0 (.int .u8 48)) fun d1 => ogd d1 (ob (dBin .leq x0 (.int .u8 57)) fun d2 => some d2) (some (.bool false)) none) := evP_of [] (by kernel_rfl)
theorem call_r01_digit (x0 : DV) {d : DV} (h : P_r01_digit (run cfg) x0 = some d) : (run cfg).p F_r01_digit [x0] = some d := callE Tryz.func148 (by kernel_rfl) (by kernel_rfl) (by kernel_rfl) h
noncomputable def code_r05_names : Code := Tryz.f149.body.getD .skip
noncomputable def P_r05_names (R : Orc) (x0 x1 : DV) (sg : List SObj) : Option (List DV × List SObj) := evP cfg R fl_r05_names (retR cfg.P Tryz.f149 sig_r05_names) [] code_r05_names (initSt Tryz.f149 [(x0, .val), (x1, .own)] sg)
noncomputable def P_r05_names_4h (R : Orc) (t1 t5 b2 : DV) (sg : List SObj) : Option (List DV × List SObj) := headP cfg R fl_r05_names (retR cfg.P Tryz.f149 sig_r05_names) [true, true, false, true, false] code_r05_names (mst 29 [(1, t1), (5, t5)] [(1, .own), (2, (.loc 2 0))] [(2, some (bxs b2 0 7))] sg)
theorem eq_r05_names (R : Orc) (x0 x1 : DV) (sg : List SObj) : P_r05_names R x0 x1 sg =
 (og (isAggN 7 x0) <| ob (dBin .eql (proj 0 x0) (.int .i64 2)) fun d1 => oif d1 (og (isCell (proj 3 x0)) <| ob (dApp 1 x1 (.list 1 [(proj 3 x0)])) fun d2 => P_r05_names_4h R d2 (.int .i64 0) x0 sg) (P_r05_names_4h R x1 (.int .i64 0) x0 sg)) := evP_of [] (by kernel_rfl)
theorem eq_r05_names_4h (R : Orc) (t1 t5 b2 : DV) (sg : List SObj) : P_r05_names_4h R t1 t5 b2 sg =
 (ob (dLen (proj 6 b2)) fun d1 => ob (dBin .lss t5 d1) fun d2 => oif d2 (ob (dIdx 7 (proj 6 b2) t5) fun d3 => ob (R.r F_r05_names [((ag7 d3), .val), (t1, .own)] sg) fun q4 => ob (dBin .add t5 (.int .i64 1)) fun d5 => P_r05_names_4h R (q4.1.getD 0 .undef) d5 b2 q4.2) (some ([t1], sg))) := headP_of [] (by kernel_rfl)
theorem fix_r05_names (x0 x1 : DV) (sg : List SObj) : (run cfg).r F_r05_names [(x0, .val), (x1, .own)] sg = P_r05_names (run cfg) x0 x1 sg :=
 (fix_raw (C := cfg) (f := F_r05_names) (s := sig_r05_names) (fn := Tryz.f149) (c := code_r05_names) (by kernel_rfl) Tryz.func149 (by kernel_rfl)).trans (by kernel_rfl)
theorem call_r05_names (x0 x1 : DV) (sg : List SObj) {q : List DV × List SObj} (h : P_r05_names (run cfg) x0 x1 sg = some q) : (run cfg).r F_r05_names [(x0, .val), (x1, .own)] sg = some q := (fix_r05_names x0 x1 sg).trans h
noncomputable def P_r03_SameAll (R : Orc) (x0 x1 : DV) : Option DV := eP Tryz.f150 fl_r03_SameAll R [] (initSt Tryz.f150 [(x0, .val), (x1, .val)] [])
noncomputable def P_r03_SameAll_4h (R : Orc) (t0 t1 t5 : DV) : Option DV := hP Tryz.f150 fl_r03_SameAll R [true, true, false, true, false] (mst 27 [(0, t0), (1, t1), (5, t5)] [] [] [])
theorem eq_r03_SameAll (R : Orc) (x0 x1 : DV) : P_r03_SameAll R x0 x1 =
 (ob (dLen x0) fun d1 => ob (dLen x1) fun d2 => ob (dBin .neq d1 d2) fun d3 => oif d3 (some (.bool false)) (P_r03_SameAll_4h R x0 x1 (.int .i64 0))) := evP_of [] (by kernel_rfl)
theorem eq_r03_SameAll_4h (R : Orc) (t0 t1 t5 : DV) : P_r03_SameAll_4h R t0 t1 t5 =
 (ob (dLen t0) fun d1 => ob (dBin .lss t5 d1) fun d2 => oif d2 (ob (dIdx 3 t0 t5) fun d3 => ob (dIdx 3 t1 t5) fun d4 => ob (R.p F_r03_Same [(ag3 d3), (ag3 d4)]) fun d5 => ob (dUn .not d5) fun d6 => oif d6 (some (.bool false)) (ob (dBin .add t5 (.int .i64 1)) fun d7 => P_r03_SameAll_4h R t0 t1 d7)) (some (.bool true))) := headP_of [] (by kernel_rfl)
theorem call_r03_SameAll (x0 x1 : DV) {d : DV} (h : P_r03_SameAll (run cfg) x0 x1 = some d) : (run cfg).p F_r03_SameAll [x0, x1] = some d := callE Tryz.func150 (by kernel_rfl) (by kernel_rfl) (by kernel_rfl) h
noncomputable def P_scheme_Subst (R : Orc) (x0 x1 : DV) : Option DV := eP Tryz.f151 fl_scheme_Subst R [] (initSt Tryz.f151 [(x0, .val), (x1, .val)] [])
noncomputable def P_scheme_Subst_5h (R : Orc) (t1 t16 t17 t18 b2 : DV) (sg : List SObj) : Option DV := hP Tryz.f151 fl_scheme_Subst R [true, true, true, false, true, false] (mst 56 [(1, t1), (16, t16), (17, t17), (18, t18)] [(2, (.loc 2 0)), (4, (.loc 4 0)), (6, (.map 0))] [(2, some (bxs b2 0 3)), (4, some zb1)] sg)
theorem eq_scheme_Subst (R : Orc) (x0 x1 : DV) : P_scheme_Subst R x0 x1 =
 (og (isAggN 3 x0) <| ob (R.p F_typ_Check [(ag3 x0)]) fun d1 => ob (dBin .neq d1 (.int .i64 0)) fun d2 => oif d2 (some (.tup [(.agg [(.int .i64 0), (.int .i64 0), (.list 3 [])]), (.int .i64 1)])) (ob (dLen x1) fun d3 => P_scheme_Subst_5h R x1 x1 d3 (.int .i64 0) x0 [.map false []])) := evP_of [] (by kernel_rfl)
set_option maxRecDepth 100000 in
theorem eq_scheme_Subst_5h (R : Orc) (t1 t16 t17 t18 b2 : DV) (sg : List SObj) : P_scheme_Subst_5h R t1 t16 t17 t18 b2 sg =
 (ob (dBin .lss t18 t17) fun d1 => oif d1 (ob (dIdx 4 t16 t18) fun d2 => ob (dBin .lss (proj 0 d2) (.int .i64 0)) fun d3 => ogd d3 (some (.tup [(.agg [(.int .i64 0), (.int .i64 0), (.list 3 [])]), (.int .i64 1)])) (ob (dBin .gtr (proj 0 d2) (.int .i64 1048576)) fun d4 => ogd d4 (some (.tup [(.agg [(.int .i64 0), (.int .i64 0), (.list 3 [])]), (.int .i64 1)])) (ob (R.p F_typ_Check [(.agg [(proj 1 d2), (proj 2 d2), (proj 3 d2)])]) fun d5 => ob (dBin .neq d5 (.int .i64 0)) fun d6 => oif d6 (some (.tup [(.agg [(.int .i64 0), (.int .i64 0), (.list 3 [])]), (.int .i64 1)])) (og (isKey false (proj 0 d2) && true) <| ob (sgMap sg 0) fun m7 => og (m7.1 == false) <| ob (dUn .not (.bool (mGet m7.2 (proj 0 d2)).isSome)) fun d8 => oif d8 (og (isKey false (proj 0 d2) && true && true) <| ob (sgMap sg 0) fun m9 => og (m9.1 == false) <| ob (dBin .add t18 (.int .i64 1)) fun d10 => P_scheme_Subst_5h R t1 t16 t17 d10 b2 (sg.set 0 (.map false (mSet m9.2 (proj 0 d2) t18)))) (ob (dBin .add t18 (.int .i64 1)) fun d11 => P_scheme_Subst_5h R t1 t16 t17 d11 b2 sg))) none) none) (ob (R.r F_scheme_put [((ag3 b2), .val), (t1, .val), (.undef, (.map 0))] sg) fun q12 => og (isAggN 3 (q12.1.getD 0 .undef)) <| some (.tup [(.agg [(proj 0 (q12.1.getD 0 .undef)), (proj 1 (q12.1.getD 0 .undef)), (proj 2 (q12.1.getD 0 .undef))]), (.int .i64 0)]))) := headP_of [] (by kernel_rfl)
theorem call_scheme_Subst (x0 x1 : DV) {d : DV} (h : P_scheme_Subst (run cfg) x0 x1 = some d) : (run cfg).p F_scheme_Subst [x0, x1] = some d := callE Tryz.func151 (by kernel_rfl) (by kernel_rfl) (by kernel_rfl) h
noncomputable def P_typ_Vars (R : Orc) (x0 : DV) : Option DV := eP Tryz.f152 fl_typ_Vars R [] (initSt Tryz.f152 [(x0, .val)] [])
theorem eq_typ_Vars (R : Orc) (x0 : DV) : P_typ_Vars R x0 =
 (og (isAggN 3 x0) <| ob (R.r F_typ_vars [((ag3 x0), .val), (.undef, (.map 0)), ((.list 1 []), .own)] [.map false []]) fun q1 => some (q1.1.getD 0 .undef)) := evP_of [] (by kernel_rfl)
theorem call_typ_Vars (x0 : DV) {d : DV} (h : P_typ_Vars (run cfg) x0 = some d) : (run cfg).p F_typ_Vars [x0] = some d := callE Tryz.func152 (by kernel_rfl) (by kernel_rfl) (by kernel_rfl) h
noncomputable def code_check_scope_takes : Code := Tryz.f153.body.getD .skip
noncomputable def P_check_scope_takes (R : Orc) (x0 : Nat) (x1 : DV) (sg : List SObj) : Option (List DV × List SObj) := evP cfg R fl_check_scope_takes (retR cfg.P Tryz.f153 sig_check_scope_takes) [] code_check_scope_takes (initSt Tryz.f153 [(.undef, (.map x0)), (x1, .val)] sg)
noncomputable def P_check_scope_takes_2h (R : Orc) (t0i : Nat) (t1 t7 t8 t9 : DV) (sg : List SObj) : Option (List DV × List SObj) := headP cfg R fl_check_scope_takes (retR cfg.P Tryz.f153 sig_check_scope_takes) [true, false, true, false] code_check_scope_takes (mst 26 [(1, t1), (7, t7), (8, t8), (9, t9)] [(0, (.map t0i))] [] sg)
theorem eq_check_scope_takes (R : Orc) (x0 : Nat) (x1 : DV) (sg : List SObj) : P_check_scope_takes R x0 x1 sg =
 (ob (dLen x1) fun d1 => P_check_scope_takes_2h R x0 x1 x1 d1 (.int .i64 0) sg) := evP_of [] (by kernel_rfl)
theorem eq_check_scope_takes_2h (R : Orc) (t0i : Nat) (t1 t7 t8 t9 : DV) (sg : List SObj) : P_check_scope_takes_2h R t0i t1 t7 t8 t9 sg =
 (ob (dBin .lss t9 t8) fun d1 => oif d1 (ob (dIdx 1 t7 t9) fun d2 => og (isLeaf d2) <| og (isKey false d2 && true) <| ob (sgMap sg t0i) fun m3 => og (m3.1 == false) <| ob (dBin .gtr ((mGet m3.2 d2).getD (.int .i64 0)) (.int .i64 0)) fun d4 => ogd d4 (some ([(.bool false)], sg)) (ob (dSlice 1 t1 none (some t9)) fun d5 => ob (R.p F_slices_Contains__int_int [d5, d2]) fun d6 => oif d6 (some ([(.bool false)], sg)) (ob (dBin .add t9 (.int .i64 1)) fun d7 => P_check_scope_takes_2h R t0i t1 t7 t8 d7 sg)) none) (some ([(.bool true)], sg))) := headP_of [] (by kernel_rfl)
theorem fix_check_scope_takes (x0 : Nat) (x1 : DV) (sg : List SObj) : (run cfg).r F_check_scope_takes [(.undef, (.map x0)), (x1, .val)] sg = P_check_scope_takes (run cfg) x0 x1 sg :=
 (fix_raw (C := cfg) (f := F_check_scope_takes) (s := sig_check_scope_takes) (fn := Tryz.f153) (c := code_check_scope_takes) (by kernel_rfl) Tryz.func153 (by kernel_rfl)).trans (by kernel_rfl)
theorem call_check_scope_takes (x0 : Nat) (x1 : DV) (sg : List SObj) {q : List DV × List SObj} (h : P_check_scope_takes (run cfg) x0 x1 sg = some q) : (run cfg).r F_check_scope_takes [(.undef, (.map x0)), (x1, .val)] sg = some q := (fix_check_scope_takes x0 x1 sg).trans h
noncomputable def code_check_scope_enter : Code := Tryz.f154.body.getD .skip
noncomputable def P_check_scope_enter (R : Orc) (x0 : Nat) (x1 x2 : DV) (sg : List SObj) : Option (List DV × List SObj) := evP cfg R fl_check_scope_enter (retR cfg.P Tryz.f154 sig_check_scope_enter) [] code_check_scope_enter (initSt Tryz.f154 [(.undef, (.map x0)), (x1, .val), (x2, .val)] sg)
noncomputable def P_check_scope_enter_1h (R : Orc) (t0i : Nat) (t2 t8 t9 t10 : DV) (sg : List SObj) : Option (List DV × List SObj) := headP cfg R fl_check_scope_enter (retR cfg.P Tryz.f154 sig_check_scope_enter) [true, false] code_check_scope_enter (mst 20 [(2, t2), (8, t8), (9, t9), (10, t10)] [(0, (.map t0i))] [] sg)
theorem eq_check_scope_enter (R : Orc) (x0 : Nat) (x1 x2 : DV) (sg : List SObj) : P_check_scope_enter R x0 x1 x2 sg =
 (ob (dLen x1) fun d1 => P_check_scope_enter_1h R x0 x2 x1 d1 (.int .i64 0) sg) := evP_of [] (by kernel_rfl)
theorem eq_check_scope_enter_1h (R : Orc) (t0i : Nat) (t2 t8 t9 t10 : DV) (sg : List SObj) : P_check_scope_enter_1h R t0i t2 t8 t9 t10 sg =
 (ob (dBin .lss t10 t9) fun d1 => oif d1 (ob (dIdx 1 t8 t10) fun d2 => og (isLeaf d2) <| og (isKey false d2 && true) <| ob (sgMap sg t0i) fun m3 => og (m3.1 == false) <| ob (dBin .add ((mGet m3.2 d2).getD (.int .i64 0)) t2) fun d4 => og (isKey false d2 && true && true) <| ob (sgMap sg t0i) fun m5 => og (m5.1 == false) <| ob (dBin .add t10 (.int .i64 1)) fun d6 => P_check_scope_enter_1h R t0i t2 t8 t9 d6 (sg.set t0i (.map false (mSet m5.2 d2 d4)))) (some ([], sg))) := headP_of [] (by kernel_rfl)
theorem fix_check_scope_enter (x0 : Nat) (x1 x2 : DV) (sg : List SObj) : (run cfg).r F_check_scope_enter [(.undef, (.map x0)), (x1, .val), (x2, .val)] sg = P_check_scope_enter (run cfg) x0 x1 x2 sg :=
 (fix_raw (C := cfg) (f := F_check_scope_enter) (s := sig_check_scope_enter) (fn := Tryz.f154) (c := code_check_scope_enter) (by kernel_rfl) Tryz.func154 (by kernel_rfl)).trans (by kernel_rfl)
theorem call_check_scope_enter (x0 : Nat) (x1 x2 : DV) (sg : List SObj) {q : List DV × List SObj} (h : P_check_scope_enter (run cfg) x0 x1 x2 sg = some q) : (run cfg).r F_check_scope_enter [(.undef, (.map x0)), (x1, .val), (x2, .val)] sg = some q := (fix_check_scope_enter x0 x1 x2 sg).trans h
noncomputable def P_typ_Same (R : Orc) (x0 x1 : DV) : Option DV := eP Tryz.f155 fl_typ_Same R [] (initSt Tryz.f155 [(x0, .val), (x1, .val)] [])
noncomputable def P_typ_Same_4h (R : Orc) (t29 t30 t31 b3 : DV) : Option DV := hP Tryz.f155 fl_typ_Same R [true, true, false, true, false] (mst 45 [(29, t29), (30, t30), (31, t31)] [(3, (.loc 3 0))] [(3, some (bxs b3 0 3))] [])
set_option maxRecDepth 100000 in
theorem eq_typ_Same (R : Orc) (x0 x1 : DV) : P_typ_Same R x0 x1 =
 (og (isAggN 3 x0) <| og (isAggN 3 x1) <| ob (dBin .neq (proj 0 x0) (proj 0 x1)) fun d1 => ogd d1 (some (.bool false)) (ob (dBin .neq (proj 1 x0) (proj 1 x1)) fun d2 => ogd d2 (some (.bool false)) (ob (dLen (proj 2 x0)) fun d3 => ob (dLen (proj 2 x1)) fun d4 => ob (dBin .neq d3 d4) fun d5 => oif d5 (some (.bool false)) (ob (dLen (proj 2 x0)) fun d6 => P_typ_Same_4h R (proj 2 x0) d6 (.int .i64 0) x1)) none) none) := evP_of [] (by kernel_rfl)
theorem eq_typ_Same_4h (R : Orc) (t29 t30 t31 b3 : DV) : P_typ_Same_4h R t29 t30 t31 b3 =
 (ob (dBin .lss t31 t30) fun d1 => oif d1 (ob (dIdx 3 t29 t31) fun d2 => ob (dIdx 3 (proj 2 b3) t31) fun d3 => ob (R.p F_typ_Same [(ag3 d2), (ag3 d3)]) fun d4 => ob (dUn .not d4) fun d5 => oif d5 (some (.bool false)) (ob (dBin .add t31 (.int .i64 1)) fun d6 => P_typ_Same_4h R t29 t30 d6 b3)) (some (.bool true))) := headP_of [] (by kernel_rfl)
theorem call_typ_Same (x0 x1 : DV) {d : DV} (h : P_typ_Same (run cfg) x0 x1 = some d) : (run cfg).p F_typ_Same [x0, x1] = some d := callE Tryz.func155 (by kernel_rfl) (by kernel_rfl) (by kernel_rfl) h
noncomputable def P_pats_Bind (R : Orc) (x0 x1 : DV) : Option DV := eP Tryz.f156 fl_pats_Bind R [] (initSt Tryz.f156 [(x0, .val), (x1, .val)] [])
theorem eq_pats_Bind (R : Orc) (x0 x1 : DV) : P_pats_Bind R x0 x1 =
 (og (isAggN 7 x0) <| og (isAggN 3 x1) <| ob (R.p F_tree_CheckPat [(ag7 x0)]) fun d1 => ob (dBin .neq d1 (.int .i64 0)) fun d2 => ogd d2 (some (.tup [(.list 4 []), (.int .i64 1)])) (ob (R.p F_typ_Check [(ag3 x1)]) fun d3 => ob (dBin .neq d3 (.int .i64 0)) fun d4 => oif d4 (some (.tup [(.list 4 []), (.int .i64 1)])) (ob (R.r F_pats_bind [((ag7 x0), .val), ((ag3 x1), .val), ((.list 4 []), .own)] []) fun q5 => ob (dExt 0 (.tup q5.1)) fun d6 => ob (dExt 1 (.tup q5.1)) fun d7 => ob (dUn .not d7) fun d8 => oif d8 (some (.tup [(.list 4 []), (.int .i64 4)])) (some (.tup [d6, (.int .i64 0)])))) none) := evP_of [] (by kernel_rfl)
theorem call_pats_Bind (x0 x1 : DV) {d : DV} (h : P_pats_Bind (run cfg) x0 x1 = some d) : (run cfg).p F_pats_Bind [x0, x1] = some d := callE Tryz.func156 (by kernel_rfl) (by kernel_rfl) (by kernel_rfl) h
noncomputable def P_agree_Agree (R : Orc) (x0 x1 : DV) : Option DV := eP Tryz.f157 fl_agree_Agree R [] (initSt Tryz.f157 [(x0, .val), (x1, .val)] [])
theorem eq_agree_Agree (R : Orc) (x0 x1 : DV) : P_agree_Agree R x0 x1 =
 (og (isAggN 3 x0) <| og (isAggN 3 x1) <| ob (R.p F_typ_Check [(ag3 x0)]) fun d1 => ob (dBin .eql d1 (.int .i64 0)) fun d2 => ogd d2 (ob (R.p F_typ_Check [(ag3 x1)]) fun d3 => ob (dBin .eql d3 (.int .i64 0)) fun d4 => ogd d4 (ob (R.p F_agree_agrees [(ag3 x0), (ag3 x1)]) fun d5 => some d5) (some (.bool false)) none) (some (.bool false)) none) := evP_of [] (by kernel_rfl)
theorem call_agree_Agree (x0 x1 : DV) {d : DV} (h : P_agree_Agree (run cfg) x0 x1 = some d) : (run cfg).p F_agree_Agree [x0, x1] = some d := callE Tryz.func157 (by kernel_rfl) (by kernel_rfl) (by kernel_rfl) h
noncomputable def P_term_shapeOf (R : Orc) (x0 : DV) : Option DV := eP Tryz.f158 fl_term_shapeOf R [] (initSt Tryz.f158 [(x0, .val)] [])
set_option maxRecDepth 100000 in
theorem eq_term_shapeOf (R : Orc) (x0 : DV) : P_term_shapeOf R x0 =
 (og (isAggN 20 x0) <| ob (dBin .eql (proj 0 x0) (.int .i64 1)) fun d1 => oif d1 (some (.tup [(.agg [(.bool true), (.bool false), (.bool false), (.bool false), (.bool false), (.bool false), (.bool false), (.bool true), (.bool false), (.bool false), (.bool false), (.bool false), (.int .i64 0)]), (.bool true)])) (ob (dBin .eql (proj 0 x0) (.int .i64 2)) fun d2 => oif d2 (some (.tup [zA2, (.bool true)])) (ob (dBin .eql (proj 0 x0) (.int .i64 3)) fun d3 => oif d3 (some (.tup [zA2, (.bool true)])) (ob (dBin .eql (proj 0 x0) (.int .i64 4)) fun d4 => oif d4 (some (.tup [(.agg [(.bool false), (.bool false), (.bool false), (.bool true), (.bool false), (.bool false), (.bool false), (.bool false), (.bool false), (.bool false), (.bool false), (.bool false), (.int .i64 0)]), (.bool true)])) (ob (dBin .eql (proj 0 x0) (.int .i64 5)) fun d5 => oif d5 (some (.tup [zA0, (.bool true)])) (ob (dBin .eql (proj 0 x0) (.int .i64 7)) fun d6 => oif d6 (some (.tup [(.agg [(.bool false), (.bool false), (.bool false), (.bool false), (.bool false), (.bool false), (.bool false), (.bool false), (.bool false), (.bool true), (.bool false), (.bool false), (.int .i64 0)]), (.bool true)])) (ob (dBin .eql (proj 0 x0) (.int .i64 6)) fun d7 =>
 oif d7 (some (.tup [zA1, (.bool true)])) (ob (dBin .eql (proj 0 x0) (.int .i64 8)) fun d8 => oif d8 (some (.tup [zA1, (.bool true)])) (ob (dBin .eql (proj 0 x0) (.int .i64 10)) fun d9 => oif d9 (some (.tup [zA1, (.bool true)])) (ob (dBin .eql (proj 0 x0) (.int .i64 9)) fun d10 => oif d10 (some (.tup [(.agg [(.bool true), (.bool false), (.bool false), (.bool false), (.bool false), (.bool false), (.bool false), (.bool false), (.bool false), (.bool true), (.bool false), (.bool false), (.int .i64 1)]), (.bool true)])) (ob (dBin .eql (proj 0 x0) (.int .i64 11)) fun d11 => oif d11 (some (.tup [(.agg [(.bool true), (.bool false), (.bool false), (.bool false), (.bool false), (.bool false), (.bool true), (.bool false), (.bool false), (.bool false), (.bool false), (.bool false), (.int .i64 2)]), (.bool true)])) (ob (dBin .eql (proj 0 x0) (.int .i64 12)) fun d12 => oif d12 (some (.tup [(.agg [(.bool true), (.bool true), (.bool false), (.bool false), (.bool false), (.bool false), (.bool true), (.bool false), (.bool false), (.bool true), (.bool true), (.bool false), (.int .i64 2)]), (.bool true)])) (ob (dBin .eql (proj 0 x0) (.int .i64 13)) fun d13 => oif d13 (some (.tup [(.agg [(.bool false), (.bool false), (.bool false), (.bool false), (.bool false), (.bool false), (.bool false), (.bool false), (.bool false), (.bool false), (.bool false), (.bool false), (.int .i64 3)]), (.bool true)])) (ob (dBin .eql (proj 0 x0) (.int .i64 14)) fun d14 =>
 oif d14 (ob (dLen (proj 18 x0)) fun d15 => ob (dBin .add d15 (.int .i64 1)) fun d16 => og (isCell d16) <| ob (dLen (proj 18 x0)) fun d17 => ob (dBin .gtr d17 (.int .i64 0)) fun d18 => some (.tup [(.agg [(.bool false), (.bool false), (.bool false), (.bool false), (.bool false), (.bool true), (.bool false), (.bool false), (.bool true), (.bool false), (.bool false), (.bool false), d16]), d18])) (ob (dBin .eql (proj 0 x0) (.int .i64 15)) fun d19 => oif d19 (some (.tup [(.agg [(.bool false), (.bool false), (.bool false), (.bool false), (.bool true), (.bool true), (.bool false), (.bool false), (.bool false), (.bool false), (.bool false), (.bool false), (.int .i64 2)]), (.bool true)])) (ob (dBin .eql (proj 0 x0) (.int .i64 16)) fun d20 => oif d20 (some (.tup [(.agg [(.bool false), (.bool false), (.bool false), (.bool false), (.bool false), (.bool false), (.bool false), (.bool false), (.bool false), (.bool true), (.bool true), (.bool true), (.int .i64 1)]), (.bool true)])) (some (.tup [zA0, (.bool false)])))))))))))))))))) := evP_of [] (by kernel_rfl)
theorem call_term_shapeOf (x0 : DV) {d : DV} (h : P_term_shapeOf (run cfg) x0 = some d) : (run cfg).p F_term_shapeOf [x0] = some d := callE Tryz.func158 (by kernel_rfl) (by kernel_rfl) (by kernel_rfl) h
noncomputable def P_term_named (R : Orc) (x0 x1 : DV) : Option DV := eP Tryz.f159 fl_term_named R [] (initSt Tryz.f159 [(x0, .val), (x1, .val)] [])
theorem eq_term_named (R : Orc) (x0 x1 : DV) : P_term_named R x0 x1 =
 (oif x0 (ob (R.p F_word_Name [x1]) fun d1 => some d1) (ob (dBin .eql x1 (.str ⟨#[]⟩)) fun d2 => some d2)) := evP_of [] (by kernel_rfl)
theorem call_term_named (x0 x1 : DV) {d : DV} (h : P_term_named (run cfg) x0 x1 = some d) : (run cfg).p F_term_named [x0, x1] = some d := callE Tryz.func159 (by kernel_rfl) (by kernel_rfl) (by kernel_rfl) h
noncomputable def P_term_typed (R : Orc) (x0 x1 : DV) : Option DV := eP Tryz.f160 fl_term_typed R [] (initSt Tryz.f160 [(x0, .val), (x1, .val)] [])
theorem eq_term_typed (R : Orc) (x0 x1 : DV) : P_term_typed R x0 x1 =
 (og (isAggN 3 x1) <| oif x0 (ob (R.p F_typ_Check [(ag3 x1)]) fun d1 => ob (dBin .eql d1 (.int .i64 0)) fun d2 => some d2) (ob (R.p F_term_none [(ag3 x1)]) fun d3 => some d3)) := evP_of [] (by kernel_rfl)
theorem call_term_typed (x0 x1 : DV) {d : DV} (h : P_term_typed (run cfg) x0 x1 = some d) : (run cfg).p F_term_typed [x0, x1] = some d := callE Tryz.func160 (by kernel_rfl) (by kernel_rfl) (by kernel_rfl) h
end Go.Su

/-
 Equations of the program's functions: by program.
-/
namespace Go.Su
open Go.Proofs
set_option linter.unusedVariables false
noncomputable def P_term_lists (R : Orc) (x0 : DV) : Option DV := eP Tryz.f161 fl_term_lists R [] (initSt Tryz.f161 [(x0, .val)] [])
noncomputable def P_term_lists_2h (R : Orc) (t10 t11 t12 b1 : DV) : Option DV := hP Tryz.f161 fl_term_lists R [true, false, true, false] (mst 45 [(10, t10), (11, t11), (12, t12)] [(1, (.loc 1 0))] [(1, some (bxs b1 0 20))] [])
noncomputable def P_term_lists_8h (R : Orc) (t24 t25 t26 b1 : DV) : Option DV := hP Tryz.f161 fl_term_lists R [true, true, false, true, false] (mst 45 [(24, t24), (25, t25), (26, t26)] [(1, (.loc 1 0))] [(1, some (bxs b1 0 20))] [])
noncomputable def P_term_lists_14h (R : Orc) (t35 t36 t37 : DV) : Option DV := hP Tryz.f161 fl_term_lists R [true, true, true, false, true, false] (mst 45 [(35, t35), (36, t36), (37, t37)] [] [] [])
theorem eq_term_lists (R : Orc) (x0 : DV) : P_term_lists R x0 =
 (og (isAggN 20 x0) <| ob (dLen (proj 10 x0)) fun d1 => P_term_lists_2h R (proj 10 x0) d1 (.int .i64 0) x0) := evP_of [] (by kernel_rfl)
theorem eq_term_lists_2h (R : Orc) (t10 t11 t12 b1 : DV) : P_term_lists_2h R t10 t11 t12 b1 =
 (ob (dBin .lss t12 t11) fun d1 => oif d1 (ob (dIdx 1 t10 t12) fun d2 => og (isLeaf d2) <| ob (dBin .lss d2 (.int .i64 0)) fun d3 => ogd d3 (some (.bool false)) (ob (dBin .gtr d2 (.int .i64 1048576)) fun d4 => oif d4 (some (.bool false)) (ob (dBin .add t12 (.int .i64 1)) fun d5 => P_term_lists_2h R t10 t11 d5 b1)) none) (ob (dLen (proj 17 b1)) fun d6 => P_term_lists_8h R (proj 17 b1) d6 (.int .i64 0) b1)) := headP_of [] (by kernel_rfl)
theorem eq_term_lists_8h (R : Orc) (t24 t25 t26 b1 : DV) : P_term_lists_8h R t24 t25 t26 b1 =
 (ob (dBin .lss t26 t25) fun d1 => oif d1 (ob (dIdx 3 t24 t26) fun d2 => ob (R.p F_typ_Check [(ag3 d2)]) fun d3 => ob (dBin .neq d3 (.int .i64 0)) fun d4 => oif d4 (some (.bool false)) (ob (dBin .add t26 (.int .i64 1)) fun d5 => P_term_lists_8h R t24 t25 d5 b1)) (ob (dLen (proj 18 b1)) fun d6 => P_term_lists_14h R (proj 18 b1) d6 (.int .i64 0))) := headP_of [] (by kernel_rfl)
theorem eq_term_lists_14h (R : Orc) (t35 t36 t37 : DV) : P_term_lists_14h R t35 t36 t37 =
 (ob (dBin .lss t37 t36) fun d1 => oif d1 (ob (dIdx 7 t35 t37) fun d2 => ob (R.p F_tree_CheckPat [(ag7 d2)]) fun d3 => ob (dBin .neq d3 (.int .i64 0)) fun d4 => oif d4 (some (.bool false)) (ob (dBin .add t37 (.int .i64 1)) fun d5 => P_term_lists_14h R t35 t36 d5)) (some (.bool true))) := headP_of [] (by kernel_rfl)
theorem call_term_lists (x0 : DV) {d : DV} (h : P_term_lists (run cfg) x0 = some d) : (run cfg).p F_term_lists [x0] = some d := callE Tryz.func161 (by kernel_rfl) (by kernel_rfl) (by kernel_rfl) h
noncomputable def P_term_binds (R : Orc) (x0 x1 : DV) : Option DV := eP Tryz.f162 fl_term_binds R [] (initSt Tryz.f162 [(x0, .val), (x1, .val)] [])
noncomputable def P_term_binds_5 (R : Orc) (t1 b2 : DV) : Option DV := eP Tryz.f162 fl_term_binds R [true, false, false, true, true] (mst 50 [(1, t1)] [(2, (.loc 2 0))] [(2, some (bxs b2 0 20))] [])
set_option maxRecDepth 100000 in
theorem eq_term_binds (R : Orc) (x0 x1 : DV) : P_term_binds R x0 x1 =
 (og (isAggN 20 x0) <| ob (dBin .eql (proj 0 x0) (.int .i64 9)) fun d1 => oif d1 (og (isCell (proj 3 x0)) <| some (.list 1 [(proj 3 x0)])) (ob (dBin .eql (proj 0 x0) (.int .i64 11)) fun d2 => ogd d2 (ob (dBin .eql x1 (.int .i64 1)) fun d3 => oif d3 (og (isCell (proj 3 x0)) <| some (.list 1 [(proj 3 x0)])) (ob (dBin .eql (proj 0 x0) (.int .i64 12)) fun d4 => ogd d4 (ob (dBin .eql x1 (.int .i64 1)) fun d5 => oif d5 (og (isCell (proj 3 x0)) <| some (.list 1 [(proj 3 x0)])) (P_term_binds_5 R x1 x0)) (P_term_binds_5 R x1 x0) none)) (ob (dBin .eql (proj 0 x0) (.int .i64 12)) fun d6 => ogd d6 (ob (dBin .eql x1 (.int .i64 1)) fun d7 => oif d7 (og (isCell (proj 3 x0)) <| some (.list 1 [(proj 3 x0)])) (P_term_binds_5 R x1 x0)) (P_term_binds_5 R x1 x0) none) none)) := evP_of [5] (by kernel_rfl)
theorem eq_term_binds_5 (R : Orc) (t1 b2 : DV) : P_term_binds_5 R t1 b2 =
 (ob (dBin .eql (proj 0 b2) (.int .i64 12)) fun d1 => oif d1 (og (isCell (proj 3 b2)) <| og (isCell (proj 4 b2)) <| some (.list 1 [(proj 3 b2), (proj 4 b2)])) (ob (dBin .eql (proj 0 b2) (.int .i64 14)) fun d2 => ogd d2 (ob (dBin .gtr t1 (.int .i64 0)) fun d3 => oif d3 (ob (dBin .sub t1 (.int .i64 1)) fun d4 => ob (dIdx 7 (proj 18 b2) d4) fun d5 => ob (R.r F_term_patNames [((ag7 d5), .val), ((.list 1 []), .own)] []) fun q6 => some (q6.1.getD 0 .undef)) (some (.list 1 []))) (some (.list 1 [])) none)) := evP_of [5] (by kernel_rfl)
theorem call_term_binds (x0 x1 : DV) {d : DV} (h : P_term_binds (run cfg) x0 x1 = some d) : (run cfg).p F_term_binds [x0, x1] = some d := callE Tryz.func162 (by kernel_rfl) (by kernel_rfl) (by kernel_rfl) h
noncomputable def P_typ_Check (R : Orc) (x0 : DV) : Option DV := eP Tryz.f169 fl_typ_Check R [] (initSt Tryz.f169 [(x0, .val)] [])
theorem eq_typ_Check (R : Orc) (x0 : DV) : P_typ_Check R x0 =
 (og (isAggN 3 x0) <| ob (R.p F_typ_right [(ag3 x0)]) fun d1 => ob (dUn .not d1) fun d2 => oif d2 (some (.int .i64 1)) (some (.int .i64 0))) := evP_of [] (by kernel_rfl)
theorem call_typ_Check (x0 : DV) {d : DV} (h : P_typ_Check (run cfg) x0 = some d) : (run cfg).p F_typ_Check [x0] = some d := callE Tryz.func169 (by kernel_rfl) (by kernel_rfl) (by kernel_rfl) h
noncomputable def P_typ_Closed (R : Orc) (x0 : DV) : Option DV := eP Tryz.f170 fl_typ_Closed R [] (initSt Tryz.f170 [(x0, .val)] [])
theorem eq_typ_Closed (R : Orc) (x0 : DV) : P_typ_Closed R x0 =
 (og (isAggN 3 x0) <| ob (R.p F_typ_without [(ag3 x0), (.int .i64 6)]) fun d1 => some d1) := evP_of [] (by kernel_rfl)
theorem call_typ_Closed (x0 : DV) {d : DV} (h : P_typ_Closed (run cfg) x0 = some d) : (run cfg).p F_typ_Closed [x0] = some d := callE Tryz.func170 (by kernel_rfl) (by kernel_rfl) (by kernel_rfl) h
noncomputable def P_tree_onePat (R : Orc) (x0 : DV) : Option DV := eP Tryz.f171 fl_tree_onePat R [] (initSt Tryz.f171 [(x0, .val)] [])
noncomputable def P_tree_onePat_24 (R : Orc) (t4 b1 b3_0 b3_1 b3_2 b3_3 b3_4 b3_5 b3_6 : DV) : Option DV := eP Tryz.f171 fl_tree_onePat R [true, true, true] (mst 83 [(4, t4)] [(1, (.loc 1 0)), (3, (.loc 3 0))] [(1, some (bxs b1 0 7)), (3, some [(b3_0, .val), (b3_1, .val), (b3_2, .val), (b3_3, .val), (b3_4, .val), (b3_5, .val), (b3_6, .val)])] [])
set_option maxRecDepth 100000 in
theorem eq_tree_onePat (R : Orc) (x0 : DV) : P_tree_onePat R x0 =
 (og (isAggN 7 x0) <| og (isCell (proj 0 x0)) <| og (isCell (proj 6 x0)) <| ob (dBin .eql (proj 0 x0) (.int .i64 1)) fun d1 => oif d1 (P_tree_onePat_24 R (.int .i64 0) x0 (proj 0 x0) (proj 1 x0) (proj 2 x0) (.str ⟨#[]⟩) (.int .i64 0) (.str ⟨#[]⟩) (proj 6 x0)) (ob (dBin .eql (proj 0 x0) (.int .i64 6)) fun d2 => oif d2 (P_tree_onePat_24 R (.int .i64 0) x0 (proj 0 x0) (proj 1 x0) (proj 2 x0) (.str ⟨#[]⟩) (.int .i64 0) (.str ⟨#[]⟩) (proj 6 x0)) (ob (dBin .eql (proj 0 x0) (.int .i64 8)) fun d3 => oif d3 (P_tree_onePat_24 R (.int .i64 0) x0 (proj 0 x0) (proj 1 x0) (proj 2 x0) (.str ⟨#[]⟩) (.int .i64 0) (.str ⟨#[]⟩) (proj 6 x0)) (ob (dBin .eql (proj 0 x0) (.int .i64 2)) fun d4 => oif d4 (og (isCell (proj 3 x0)) <| ob (R.p F_word_Name [(proj 3 x0)]) fun d5 => ob (dUn .not d5) fun d6 => oif d6 (some (.bool false)) (P_tree_onePat_24 R (.int .i64 0) x0 (proj 0 x0) (proj 1 x0) (proj 2 x0) (proj 3 x0) (.int .i64 0) (.str ⟨#[]⟩) (proj 6 x0))) (ob (dBin .eql (proj 0 x0) (.int .i64 3)) fun d7 => oif d7 (og (isCell (proj 4 x0)) <| P_tree_onePat_24 R (.int .i64 0) x0 (proj 0 x0) (proj 1 x0) (proj 2 x0) (.str ⟨#[]⟩) (proj 4 x0) (.str ⟨#[]⟩) (proj 6 x0)) (ob (dBin .eql (proj 0 x0) (.int .i64 4)) fun d8 =>
 oif d8 (og (isCell (proj 4 x0)) <| ob (dBin .neq (proj 4 x0) (.int .i64 0)) fun d9 => ogd d9 (ob (dBin .neq (proj 4 x0) (.int .i64 1)) fun d10 => oif d10 (some (.bool false)) (P_tree_onePat_24 R (.int .i64 0) x0 (proj 0 x0) (proj 1 x0) (proj 2 x0) (.str ⟨#[]⟩) (proj 4 x0) (.str ⟨#[]⟩) (proj 6 x0))) (P_tree_onePat_24 R (.int .i64 0) x0 (proj 0 x0) (proj 1 x0) (proj 2 x0) (.str ⟨#[]⟩) (proj 4 x0) (.str ⟨#[]⟩) (proj 6 x0)) none) (ob (dBin .eql (proj 0 x0) (.int .i64 5)) fun d11 => oif d11 (og (isCell (proj 5 x0)) <| ob (dLenS (proj 5 x0)) fun d12 => ob (dBin .gtr d12 (.int .i64 200)) fun d13 => oif d13 (some (.bool false)) (P_tree_onePat_24 R (.int .i64 0) x0 (proj 0 x0) (proj 1 x0) (proj 2 x0) (.str ⟨#[]⟩) (.int .i64 0) (proj 5 x0) (proj 6 x0))) (ob (dBin .eql (proj 0 x0) (.int .i64 7)) fun d14 => oif d14 (P_tree_onePat_24 R (.int .i64 2) x0 (proj 0 x0) (proj 1 x0) (proj 2 x0) (.str ⟨#[]⟩) (.int .i64 0) (.str ⟨#[]⟩) (proj 6 x0)) (ob (dBin .eql (proj 0 x0) (.int .i64 9)) fun d15 => oif d15 (P_tree_onePat_24 R (.int .i64 2) x0 (proj 0 x0) (proj 1 x0) (proj 2 x0) (.str ⟨#[]⟩) (.int .i64 0) (.str ⟨#[]⟩) (proj 6 x0)) (some (.bool false))))))))))) := evP_of [24] (by kernel_rfl)
set_option maxRecDepth 100000 in
theorem eq_tree_onePat_24 (R : Orc) (t4 b1 b3_0 b3_1 b3_2 b3_3 b3_4 b3_5 b3_6 : DV) : P_tree_onePat_24 R t4 b1 b3_0 b3_1 b3_2 b3_3 b3_4 b3_5 b3_6 =
 (ob (dLen (proj 6 b1)) fun d1 => ob (dBin .eql d1 t4) fun d2 => ogd d2 (ob (dBin .eql b3_3 (proj 3 b1)) fun d3 => ogd d3 (ob (dBin .eql b3_4 (proj 4 b1)) fun d4 => ogd d4 (ob (dBin .eql b3_5 (proj 5 b1)) fun d5 => some d5) (some (.bool false)) none) (some (.bool false)) none) (some (.bool false)) none) := evP_of [24] (by kernel_rfl)
theorem call_tree_onePat (x0 : DV) {d : DV} (h : P_tree_onePat (run cfg) x0 = some d) : (run cfg).p F_tree_onePat [x0] = some d := callE Tryz.func171 (by kernel_rfl) (by kernel_rfl) (by kernel_rfl) h
noncomputable def P_slices_Index__string_string (R : Orc) (x0 x1 : DV) : Option DV := eP Tryz.f172 fl_slices_Index__string_string R [] (initSt Tryz.f172 [(x0, .val), (x1, .val)] [])
noncomputable def P_slices_Index__string_string_2h (R : Orc) (t0 t1 t7 t8 : DV) : Option DV := hP Tryz.f172 fl_slices_Index__string_string R [true, false, true, false] (mst 19 [(0, t0), (1, t1), (7, t7), (8, t8)] [] [] [])
theorem eq_slices_Index__string_string (R : Orc) (x0 x1 : DV) : P_slices_Index__string_string R x0 x1 =
 (ob (dLen x0) fun d1 => P_slices_Index__string_string_2h R x0 x1 d1 (.int .i64 0)) := evP_of [] (by kernel_rfl)
theorem eq_slices_Index__string_string_2h (R : Orc) (t0 t1 t7 t8 : DV) : P_slices_Index__string_string_2h R t0 t1 t7 t8 =
 (ob (dBin .lss t8 t7) fun d1 => oif d1 (ob (dIdx 1 t0 t8) fun d2 => og (isLeaf d2) <| ob (dBin .eql t1 d2) fun d3 => oif d3 (some t8) (ob (dBin .add t8 (.int .i64 1)) fun d4 => P_slices_Index__string_string_2h R t0 t1 t7 d4)) (some (.int .i64 (-1)))) := headP_of [] (by kernel_rfl)
theorem call_slices_Index__string_string (x0 x1 : DV) {d : DV} (h : P_slices_Index__string_string (run cfg) x0 x1 = some d) : (run cfg).p F_slices_Index__string_string [x0, x1] = some d := callE Tryz.func172 (by kernel_rfl) (by kernel_rfl) (by kernel_rfl) h
noncomputable def code_scheme_put : Code := Tryz.f173.body.getD .skip
noncomputable def P_scheme_put (R : Orc) (x0 x1 : DV) (x2 : Nat) (sg : List SObj) : Option (List DV × List SObj) := evP cfg R fl_scheme_put (retR cfg.P Tryz.f173 sig_scheme_put) [] code_scheme_put (initSt Tryz.f173 [(x0, .val), (x1, .val), (.undef, (.map x2))] sg)
noncomputable def P_scheme_put_10h (R : Orc) (t1 : DV) (t2i : Nat) (t38 t39 t40 b9_0 b9_2 : DV) (sg : List SObj) : Option (List DV × List SObj) := headP cfg R fl_scheme_put (retR cfg.P Tryz.f173 sig_scheme_put) [true, true, true, true, false, true, false] code_scheme_put (mst 55 [(1, t1), (38, t38), (39, t39), (40, t40)] [(2, (.map t2i)), (6, (.loc 6 0)), (9, (.loc 9 0))] [(6, some zb1), (9, some [(b9_0, .val), ((.int .i64 0), .val), (b9_2, .own)])] sg)
theorem eq_scheme_put (R : Orc) (x0 x1 : DV) (x2 : Nat) (sg : List SObj) : P_scheme_put R x0 x1 x2 sg =
 (og (isAggN 3 x0) <| ob (dBin .eql (proj 0 x0) (.int .i64 6)) fun d1 => oif d1 (og (isKey false (proj 1 x0) && true) <| ob (sgMap sg x2) fun m2 => og (m2.1 == false) <| oif (.bool (mGet m2.2 (proj 1 x0)).isSome) (ob (dIdx 4 x1 ((mGet m2.2 (proj 1 x0)).getD (.int .i64 0))) fun d3 => some ([(.agg [(proj 1 d3), (proj 2 d3), (proj 3 d3)])], sg)) (some ([(ag3 x0)], sg))) (ob (dLen (proj 2 x0)) fun d4 => ob (dBin .eql d4 (.int .i64 0)) fun d5 => oif d5 (some ([(ag3 x0)], sg)) (og (isCell (proj 0 x0)) <| ob (dLen (proj 2 x0)) fun d6 => P_scheme_put_10h R x1 x2 (proj 2 x0) d6 (.int .i64 0) (proj 0 x0) (.list 3 []) sg))) := evP_of [] (by kernel_rfl)
theorem eq_scheme_put_10h (R : Orc) (t1 : DV) (t2i : Nat) (t38 t39 t40 b9_0 b9_2 : DV) (sg : List SObj) : P_scheme_put_10h R t1 t2i t38 t39 t40 b9_0 b9_2 sg =
 (ob (dBin .lss t40 t39) fun d1 => oif d1 (ob (dIdx 3 t38 t40) fun d2 => ob (R.r F_scheme_put [((ag3 d2), .val), (t1, .val), (.undef, (.map t2i))] sg) fun q3 => og (isAggN 3 (q3.1.getD 0 .undef)) <| ob (dApp 3 b9_2 (.list 3 [(q3.1.getD 0 .undef)])) fun d4 => ob (dBin .add t40 (.int .i64 1)) fun d5 => P_scheme_put_10h R t1 t2i t38 t39 d5 b9_0 d4 q3.2) (some ([(.agg [b9_0, (.int .i64 0), b9_2])], sg))) := headP_of [] (by kernel_rfl)
theorem fix_scheme_put (x0 x1 : DV) (x2 : Nat) (sg : List SObj) : (run cfg).r F_scheme_put [(x0, .val), (x1, .val), (.undef, (.map x2))] sg = P_scheme_put (run cfg) x0 x1 x2 sg :=
 (fix_raw (C := cfg) (f := F_scheme_put) (s := sig_scheme_put) (fn := Tryz.f173) (c := code_scheme_put) (by kernel_rfl) Tryz.func173 (by kernel_rfl)).trans (by kernel_rfl)
theorem call_scheme_put (x0 x1 : DV) (x2 : Nat) (sg : List SObj) {q : List DV × List SObj} (h : P_scheme_put (run cfg) x0 x1 x2 sg = some q) : (run cfg).r F_scheme_put [(x0, .val), (x1, .val), (.undef, (.map x2))] sg = some q := (fix_scheme_put x0 x1 x2 sg).trans h
noncomputable def code_typ_vars : Code := Tryz.f174.body.getD .skip
noncomputable def P_typ_vars (R : Orc) (x0 : DV) (x1 : Nat) (x2 : DV) (sg : List SObj) : Option (List DV × List SObj) := evP cfg R fl_typ_vars (retR cfg.P Tryz.f174 sig_typ_vars) [] code_typ_vars (initSt Tryz.f174 [(x0, .val), (.undef, (.map x1)), (x2, .own)] sg)
noncomputable def P_typ_vars_5 (R : Orc) (t1i : Nat) (t2 b3 : DV) (sg : List SObj) : Option (List DV × List SObj) := evP cfg R fl_typ_vars (retR cfg.P Tryz.f174 sig_typ_vars) [true, true] code_typ_vars (mst 40 [(2, t2)] [(1, (.map t1i)), (2, .own), (3, (.loc 3 0))] [(3, some (bxs b3 0 3))] sg)
noncomputable def P_typ_vars_6h (R : Orc) (t1i : Nat) (t2 t28 t29 t30 : DV) (sg : List SObj) : Option (List DV × List SObj) := headP cfg R fl_typ_vars (retR cfg.P Tryz.f174 sig_typ_vars) [true, true, false, true, false] code_typ_vars (mst 40 [(2, t2), (28, t28), (29, t29), (30, t30)] [(1, (.map t1i)), (2, .own)] [] sg)
theorem eq_typ_vars (R : Orc) (x0 : DV) (x1 : Nat) (x2 : DV) (sg : List SObj) : P_typ_vars R x0 x1 x2 sg =
 (og (isAggN 3 x0) <| ob (dBin .eql (proj 0 x0) (.int .i64 6)) fun d1 => oif d1 (og (isKey false (proj 1 x0) && true) <| ob (sgMap sg x1) fun m2 => og (m2.1 == false) <| ob (dBin .eql ((mGet m2.2 (proj 1 x0)).getD (.int .i64 0)) (.int .i64 0)) fun d3 => oif d3 (og (isCell (proj 1 x0)) <| ob (dApp 1 x2 (.list 1 [(proj 1 x0)])) fun d4 => og (isKey false (proj 1 x0) && true) <| ob (sgMap sg x1) fun m5 => og (m5.1 == false) <| ob (dBin .add ((mGet m5.2 (proj 1 x0)).getD (.int .i64 0)) (.int .i64 1)) fun d6 => og (isKey false (proj 1 x0) && true && true) <| ob (sgMap sg x1) fun m7 => og (m7.1 == false) <| P_typ_vars_5 R x1 d4 x0 (sg.set x1 (.map false (mSet m7.2 (proj 1 x0) d6)))) (og (isKey false (proj 1 x0) && true) <| ob (sgMap sg x1) fun m8 => og (m8.1 == false) <| ob (dBin .add ((mGet m8.2 (proj 1 x0)).getD (.int .i64 0)) (.int .i64 1)) fun d9 => og (isKey false (proj 1 x0) && true && true) <| ob (sgMap sg x1) fun m10 => og (m10.1 == false) <| P_typ_vars_5 R x1 x2 x0 (sg.set x1 (.map false (mSet m10.2 (proj 1 x0) d9))))) (P_typ_vars_5 R x1 x2 x0 sg)) := evP_of [5] (by kernel_rfl)
theorem eq_typ_vars_5 (R : Orc) (t1i : Nat) (t2 b3 : DV) (sg : List SObj) : P_typ_vars_5 R t1i t2 b3 sg =
 (ob (dLen (proj 2 b3)) fun d1 => P_typ_vars_6h R t1i t2 (proj 2 b3) d1 (.int .i64 0) sg) := evP_of [5] (by kernel_rfl)
theorem eq_typ_vars_6h (R : Orc) (t1i : Nat) (t2 t28 t29 t30 : DV) (sg : List SObj) : P_typ_vars_6h R t1i t2 t28 t29 t30 sg =
 (ob (dBin .lss t30 t29) fun d1 => oif d1 (ob (dIdx 3 t28 t30) fun d2 => ob (R.r F_typ_vars [((ag3 d2), .val), (.undef, (.map t1i)), (t2, .own)] sg) fun q3 => ob (dBin .add t30 (.int .i64 1)) fun d4 => P_typ_vars_6h R t1i (q3.1.getD 0 .undef) t28 t29 d4 q3.2) (some ([t2], sg))) := headP_of [5] (by kernel_rfl)
theorem fix_typ_vars (x0 : DV) (x1 : Nat) (x2 : DV) (sg : List SObj) : (run cfg).r F_typ_vars [(x0, .val), (.undef, (.map x1)), (x2, .own)] sg = P_typ_vars (run cfg) x0 x1 x2 sg :=
 (fix_raw (C := cfg) (f := F_typ_vars) (s := sig_typ_vars) (fn := Tryz.f174) (c := code_typ_vars) (by kernel_rfl) Tryz.func174 (by kernel_rfl)).trans (by kernel_rfl)
theorem call_typ_vars (x0 : DV) (x1 : Nat) (x2 : DV) (sg : List SObj) {q : List DV × List SObj} (h : P_typ_vars (run cfg) x0 x1 x2 sg = some q) : (run cfg).r F_typ_vars [(x0, .val), (.undef, (.map x1)), (x2, .own)] sg = some q := (fix_typ_vars x0 x1 x2 sg).trans h
noncomputable def P_slices_Contains__int_int (R : Orc) (x0 x1 : DV) : Option DV := eP Tryz.f175 fl_slices_Contains__int_int R [] (initSt Tryz.f175 [(x0, .val), (x1, .val)] [])
theorem eq_slices_Contains__int_int (R : Orc) (x0 x1 : DV) : P_slices_Contains__int_int R x0 x1 =
 (ob (R.p F_slices_Index__int_int [x0, x1]) fun d1 => ob (dBin .geq d1 (.int .i64 0)) fun d2 => some d2) := evP_of [] (by kernel_rfl)
theorem call_slices_Contains__int_int (x0 x1 : DV) {d : DV} (h : P_slices_Contains__int_int (run cfg) x0 x1 = some d) : (run cfg).p F_slices_Contains__int_int [x0, x1] = some d := callE Tryz.func175 (by kernel_rfl) (by kernel_rfl) (by kernel_rfl) h
noncomputable def code_pats_bind : Code := Tryz.f176.body.getD .skip
noncomputable def P_pats_bind (R : Orc) (x0 x1 x2 : DV) (sg : List SObj) : Option (List DV × List SObj) := evP cfg R fl_pats_bind (retR cfg.P Tryz.f176 sig_pats_bind) [] code_pats_bind (initSt Tryz.f176 [(x0, .val), (x1, .val), (x2, .own)] sg)
noncomputable def P_pats_bind_16 (R : Orc) (t2 t8 b3 : DV) (sg : List SObj) : Option (List DV × List SObj) := evP cfg R fl_pats_bind (retR cfg.P Tryz.f176 sig_pats_bind) [true, true, true] code_pats_bind (mst 73 [(2, t2), (8, t8)] [(2, .own), (3, (.loc 3 0))] [(3, some (bxs b3 0 7))] sg)
noncomputable def P_pats_bind_17h (R : Orc) (t2 t8 t52 t53 t54 : DV) (sg : List SObj) : Option (List DV × List SObj) := headP cfg R fl_pats_bind (retR cfg.P Tryz.f176 sig_pats_bind) [true, true, true, false, true, false] code_pats_bind (mst 73 [(2, t2), (8, t8), (52, t52), (53, t53), (54, t54)] [(2, .own)] [] sg)
theorem eq_pats_bind (R : Orc) (x0 x1 x2 : DV) (sg : List SObj) : P_pats_bind R x0 x1 x2 sg =
 (og (isAggN 7 x0) <| og (isAggN 3 x1) <| ob (dBin .eql (proj 0 x0) (.int .i64 1)) fun d1 => oif d1 (some ([x2, (.bool true)], sg)) (ob (dBin .eql (proj 0 x0) (.int .i64 2)) fun d2 => oif d2 (og (isCell (proj 3 x0)) <| ob (dApp 4 x2 (.list 4 [(.agg [(proj 3 x0), (proj 0 x1), (proj 1 x1), (proj 2 x1)])])) fun d3 => some ([d3, (.bool true)], sg)) (ob (dBin .eql (proj 0 x0) (.int .i64 7)) fun d4 => oif d4 (ob (dBin .neq (proj 0 x1) (.int .i64 7)) fun d5 => oif d5 (some ([(.list 4 []), (.bool false)], sg)) (P_pats_bind_16 R x2 (proj 2 x1) x0 sg)) (ob (dBin .eql (proj 0 x0) (.int .i64 9)) fun d6 => oif d6 (ob (dBin .neq (proj 0 x1) (.int .i64 8)) fun d7 => oif d7 (some ([(.list 4 []), (.bool false)], sg)) (ob (dIdx 3 (proj 2 x1) (.int .i64 0)) fun d8 => P_pats_bind_16 R x2 (.list 3 [(ag3 d8), (ag3 x1)]) x0 sg)) (ob (R.p F_pats_leaf [(proj 0 x0)]) fun d9 => ob (dBin .eql (proj 0 x1) d9) fun d10 => some ([x2, d10], sg)))))) := evP_of [16] (by kernel_rfl)
theorem eq_pats_bind_16 (R : Orc) (t2 t8 b3 : DV) (sg : List SObj) : P_pats_bind_16 R t2 t8 b3 sg =
 (ob (dLen (proj 6 b3)) fun d1 => P_pats_bind_17h R t2 t8 (proj 6 b3) d1 (.int .i64 0) sg) := evP_of [16] (by kernel_rfl)
theorem eq_pats_bind_17h (R : Orc) (t2 t8 t52 t53 t54 : DV) (sg : List SObj) : P_pats_bind_17h R t2 t8 t52 t53 t54 sg =
 (ob (dBin .lss t54 t53) fun d1 => oif d1 (ob (dIdx 7 t52 t54) fun d2 => ob (dIdx 3 t8 t54) fun d3 => ob (R.r F_pats_bind [((ag7 d2), .val), ((ag3 d3), .val), (t2, .own)] sg) fun q4 => ob (dExt 0 (.tup q4.1)) fun d5 => ob (dExt 1 (.tup q4.1)) fun d6 => ob (dUn .not d6) fun d7 => oif d7 (some ([(.list 4 []), (.bool false)], q4.2)) (ob (dBin .add t54 (.int .i64 1)) fun d8 => P_pats_bind_17h R d5 t8 t52 t53 d8 q4.2)) (some ([t2, (.bool true)], sg))) := headP_of [16] (by kernel_rfl)
theorem fix_pats_bind (x0 x1 x2 : DV) (sg : List SObj) : (run cfg).r F_pats_bind [(x0, .val), (x1, .val), (x2, .own)] sg = P_pats_bind (run cfg) x0 x1 x2 sg :=
 (fix_raw (C := cfg) (f := F_pats_bind) (s := sig_pats_bind) (fn := Tryz.f176) (c := code_pats_bind) (by kernel_rfl) Tryz.func176 (by kernel_rfl)).trans (by kernel_rfl)
theorem call_pats_bind (x0 x1 x2 : DV) (sg : List SObj) {q : List DV × List SObj} (h : P_pats_bind (run cfg) x0 x1 x2 sg = some q) : (run cfg).r F_pats_bind [(x0, .val), (x1, .val), (x2, .own)] sg = some q := (fix_pats_bind x0 x1 x2 sg).trans h
noncomputable def P_agree_agrees (R : Orc) (x0 x1 : DV) : Option DV := eP Tryz.f177 fl_agree_agrees R [] (initSt Tryz.f177 [(x0, .val), (x1, .val)] [])
noncomputable def P_agree_agrees_8h (R : Orc) (t33 t34 t35 b3 : DV) : Option DV := hP Tryz.f177 fl_agree_agrees R [true, true, false, true, false] (mst 49 [(33, t33), (34, t34), (35, t35)] [(3, (.loc 3 0))] [(3, some (bxs b3 0 3))] [])
theorem eq_agree_agrees (R : Orc) (x0 x1 : DV) : P_agree_agrees R x0 x1 =
 (og (isAggN 3 x0) <| og (isAggN 3 x1) <| ob (dBin .eql (proj 0 x0) (.int .i64 5)) fun d1 => oif d1 (ob (R.p F_typ_Closed [(ag3 x1)]) fun d2 => some d2) (ob (dBin .eql (proj 0 x1) (.int .i64 5)) fun d3 => oif d3 (ob (R.p F_typ_Closed [(ag3 x0)]) fun d4 => some d4) (ob (dBin .neq (proj 0 x0) (proj 0 x1)) fun d5 => ogd d5 (some (.bool false)) (ob (dBin .neq (proj 1 x0) (proj 1 x1)) fun d6 => oif d6 (some (.bool false)) (ob (dLen (proj 2 x0)) fun d7 => P_agree_agrees_8h R (proj 2 x0) d7 (.int .i64 0) x1)) none))) := evP_of [] (by kernel_rfl)
theorem eq_agree_agrees_8h (R : Orc) (t33 t34 t35 b3 : DV) : P_agree_agrees_8h R t33 t34 t35 b3 =
 (ob (dBin .lss t35 t34) fun d1 => oif d1 (ob (dIdx 3 t33 t35) fun d2 => ob (dIdx 3 (proj 2 b3) t35) fun d3 => ob (R.p F_agree_agrees [(ag3 d2), (ag3 d3)]) fun d4 => ob (dUn .not d4) fun d5 => oif d5 (some (.bool false)) (ob (dBin .add t35 (.int .i64 1)) fun d6 => P_agree_agrees_8h R t33 t34 d6 b3)) (some (.bool true))) := headP_of [] (by kernel_rfl)
theorem call_agree_agrees (x0 x1 : DV) {d : DV} (h : P_agree_agrees (run cfg) x0 x1 = some d) : (run cfg).p F_agree_agrees [x0, x1] = some d := callE Tryz.func177 (by kernel_rfl) (by kernel_rfl) (by kernel_rfl) h
noncomputable def P_term_none (R : Orc) (x0 : DV) : Option DV := eP Tryz.f178 fl_term_none R [] (initSt Tryz.f178 [(x0, .val)] [])
theorem eq_term_none (R : Orc) (x0 : DV) : P_term_none R x0 =
 (og (isAggN 3 x0) <| ob (dBin .eql (proj 0 x0) (.int .i64 0)) fun d1 => ogd d1 (ob (dBin .eql (proj 1 x0) (.int .i64 0)) fun d2 => ogd d2 (ob (dLen (proj 2 x0)) fun d3 => ob (dBin .eql d3 (.int .i64 0)) fun d4 => some d4) (some (.bool false)) none) (some (.bool false)) none) := evP_of [] (by kernel_rfl)
theorem call_term_none (x0 : DV) {d : DV} (h : P_term_none (run cfg) x0 = some d) : (run cfg).p F_term_none [x0] = some d := callE Tryz.func178 (by kernel_rfl) (by kernel_rfl) (by kernel_rfl) h
noncomputable def code_term_patNames : Code := Tryz.f179.body.getD .skip
noncomputable def P_term_patNames (R : Orc) (x0 x1 : DV) (sg : List SObj) : Option (List DV × List SObj) := evP cfg R fl_term_patNames (retR cfg.P Tryz.f179 sig_term_patNames) [] code_term_patNames (initSt Tryz.f179 [(x0, .val), (x1, .own)] sg)
noncomputable def P_term_patNames_4h (R : Orc) (t1 t16 t17 t18 : DV) (sg : List SObj) : Option (List DV × List SObj) := headP cfg R fl_term_patNames (retR cfg.P Tryz.f179 sig_term_patNames) [true, true, false, true, false] code_term_patNames (mst 27 [(1, t1), (16, t16), (17, t17), (18, t18)] [(1, .own)] [] sg)
theorem eq_term_patNames (R : Orc) (x0 x1 : DV) (sg : List SObj) : P_term_patNames R x0 x1 sg =
 (og (isAggN 7 x0) <| ob (dBin .eql (proj 0 x0) (.int .i64 2)) fun d1 => oif d1 (og (isCell (proj 3 x0)) <| ob (dApp 1 x1 (.list 1 [(proj 3 x0)])) fun d2 => ob (dLen (proj 6 x0)) fun d3 => P_term_patNames_4h R d2 (proj 6 x0) d3 (.int .i64 0) sg) (ob (dLen (proj 6 x0)) fun d4 => P_term_patNames_4h R x1 (proj 6 x0) d4 (.int .i64 0) sg)) := evP_of [] (by kernel_rfl)
theorem eq_term_patNames_4h (R : Orc) (t1 t16 t17 t18 : DV) (sg : List SObj) : P_term_patNames_4h R t1 t16 t17 t18 sg =
 (ob (dBin .lss t18 t17) fun d1 => oif d1 (ob (dIdx 7 t16 t18) fun d2 => ob (R.r F_term_patNames [((ag7 d2), .val), (t1, .own)] sg) fun q3 => ob (dBin .add t18 (.int .i64 1)) fun d4 => P_term_patNames_4h R (q3.1.getD 0 .undef) t16 t17 d4 q3.2) (some ([t1], sg))) := headP_of [] (by kernel_rfl)
theorem fix_term_patNames (x0 x1 : DV) (sg : List SObj) : (run cfg).r F_term_patNames [(x0, .val), (x1, .own)] sg = P_term_patNames (run cfg) x0 x1 sg :=
 (fix_raw (C := cfg) (f := F_term_patNames) (s := sig_term_patNames) (fn := Tryz.f179) (c := code_term_patNames) (by kernel_rfl) Tryz.func179 (by kernel_rfl)).trans (by kernel_rfl)
theorem call_term_patNames (x0 x1 : DV) (sg : List SObj) {q : List DV × List SObj} (h : P_term_patNames (run cfg) x0 x1 sg = some q) : (run cfg).r F_term_patNames [(x0, .val), (x1, .own)] sg = some q := (fix_term_patNames x0 x1 sg).trans h
noncomputable def P_typ_right (R : Orc) (x0 : DV) : Option DV := eP Tryz.f196 fl_typ_right R [] (initSt Tryz.f196 [(x0, .val)] [])
noncomputable def P_typ_right_9h (R : Orc) (t33 t34 t35 : DV) : Option DV := hP Tryz.f196 fl_typ_right R [true, true, true, true, false, true, false] (mst 43 [(33, t33), (34, t34), (35, t35)] [] [] [])
theorem eq_typ_right (R : Orc) (x0 : DV) : P_typ_right R x0 =
 (og (isAggN 3 x0) <| ob (R.p F_typ_arity [(proj 0 x0)]) fun d1 => ob (dBin .lss d1 (.int .i64 0)) fun d2 => ogd d2 (some (.bool false)) (ob (dLen (proj 2 x0)) fun d3 => ob (dBin .neq d3 d1) fun d4 => oif d4 (some (.bool false)) (ob (dBin .eql (proj 0 x0) (.int .i64 6)) fun d5 => oif d5 (ob (dBin .geq (proj 1 x0) (.int .i64 0)) fun d6 => ogd d6 (ob (dBin .leq (proj 1 x0) (.int .i64 1048576)) fun d7 => some d7) (some (.bool false)) none) (ob (dBin .neq (proj 1 x0) (.int .i64 0)) fun d8 => oif d8 (some (.bool false)) (ob (dLen (proj 2 x0)) fun d9 => P_typ_right_9h R (proj 2 x0) d9 (.int .i64 0))))) none) := evP_of [] (by kernel_rfl)
theorem eq_typ_right_9h (R : Orc) (t33 t34 t35 : DV) : P_typ_right_9h R t33 t34 t35 =
 (ob (dBin .lss t35 t34) fun d1 => oif d1 (ob (dIdx 3 t33 t35) fun d2 => ob (R.p F_typ_right [(ag3 d2)]) fun d3 => ob (dUn .not d3) fun d4 => oif d4 (some (.bool false)) (ob (dBin .add t35 (.int .i64 1)) fun d5 => P_typ_right_9h R t33 t34 d5)) (some (.bool true))) := headP_of [] (by kernel_rfl)
theorem call_typ_right (x0 : DV) {d : DV} (h : P_typ_right (run cfg) x0 = some d) : (run cfg).p F_typ_right [x0] = some d := callE Tryz.func196 (by kernel_rfl) (by kernel_rfl) (by kernel_rfl) h
noncomputable def P_typ_without (R : Orc) (x0 x1 : DV) : Option DV := eP Tryz.f197 fl_typ_without R [] (initSt Tryz.f197 [(x0, .val), (x1, .val)] [])
noncomputable def P_typ_without_4h (R : Orc) (t1 t12 t13 t14 : DV) : Option DV := hP Tryz.f197 fl_typ_without R [true, true, false, true, false] (mst 23 [(1, t1), (12, t12), (13, t13), (14, t14)] [] [] [])
theorem eq_typ_without (R : Orc) (x0 x1 : DV) : P_typ_without R x0 x1 =
 (og (isAggN 3 x0) <| ob (dBin .eql (proj 0 x0) x1) fun d1 => oif d1 (some (.bool false)) (ob (dLen (proj 2 x0)) fun d2 => P_typ_without_4h R x1 (proj 2 x0) d2 (.int .i64 0))) := evP_of [] (by kernel_rfl)
theorem eq_typ_without_4h (R : Orc) (t1 t12 t13 t14 : DV) : P_typ_without_4h R t1 t12 t13 t14 =
 (ob (dBin .lss t14 t13) fun d1 => oif d1 (ob (dIdx 3 t12 t14) fun d2 => ob (R.p F_typ_without [(ag3 d2), t1]) fun d3 => ob (dUn .not d3) fun d4 => oif d4 (some (.bool false)) (ob (dBin .add t14 (.int .i64 1)) fun d5 => P_typ_without_4h R t1 t12 t13 d5)) (some (.bool true))) := headP_of [] (by kernel_rfl)
theorem call_typ_without (x0 x1 : DV) {d : DV} (h : P_typ_without (run cfg) x0 x1 = some d) : (run cfg).p F_typ_without [x0, x1] = some d := callE Tryz.func197 (by kernel_rfl) (by kernel_rfl) (by kernel_rfl) h
noncomputable def P_slices_Index__int_int (R : Orc) (x0 x1 : DV) : Option DV := eP Tryz.f198 fl_slices_Index__int_int R [] (initSt Tryz.f198 [(x0, .val), (x1, .val)] [])
noncomputable def P_slices_Index__int_int_2h (R : Orc) (t0 t1 t7 t8 : DV) : Option DV := hP Tryz.f198 fl_slices_Index__int_int R [true, false, true, false] (mst 19 [(0, t0), (1, t1), (7, t7), (8, t8)] [] [] [])
theorem eq_slices_Index__int_int (R : Orc) (x0 x1 : DV) : P_slices_Index__int_int R x0 x1 =
 (ob (dLen x0) fun d1 => P_slices_Index__int_int_2h R x0 x1 d1 (.int .i64 0)) := evP_of [] (by kernel_rfl)
theorem eq_slices_Index__int_int_2h (R : Orc) (t0 t1 t7 t8 : DV) : P_slices_Index__int_int_2h R t0 t1 t7 t8 =
 (ob (dBin .lss t8 t7) fun d1 => oif d1 (ob (dIdx 1 t0 t8) fun d2 => og (isLeaf d2) <| ob (dBin .eql t1 d2) fun d3 => oif d3 (some t8) (ob (dBin .add t8 (.int .i64 1)) fun d4 => P_slices_Index__int_int_2h R t0 t1 t7 d4)) (some (.int .i64 (-1)))) := headP_of [] (by kernel_rfl)
theorem call_slices_Index__int_int (x0 x1 : DV) {d : DV} (h : P_slices_Index__int_int (run cfg) x0 x1 = some d) : (run cfg).p F_slices_Index__int_int [x0, x1] = some d := callE Tryz.func198 (by kernel_rfl) (by kernel_rfl) (by kernel_rfl) h
noncomputable def P_pats_leaf (R : Orc) (x0 : DV) : Option DV := eP Tryz.f199 fl_pats_leaf R [] (initSt Tryz.f199 [(x0, .val)] [])
theorem eq_pats_leaf (R : Orc) (x0 : DV) : P_pats_leaf R x0 =
 (ob (dBin .eql x0 (.int .i64 3)) fun d1 => oif d1 (some (.int .i64 1)) (ob (dBin .eql x0 (.int .i64 4)) fun d2 => oif d2 (some (.int .i64 2)) (ob (dBin .eql x0 (.int .i64 5)) fun d3 => oif d3 (some (.int .i64 3)) (ob (dBin .eql x0 (.int .i64 6)) fun d4 => oif d4 (some (.int .i64 4)) (ob (dBin .eql x0 (.int .i64 8)) fun d5 => oif d5 (some (.int .i64 8)) (some (.int .i64 0))))))) := evP_of [] (by kernel_rfl)
theorem call_pats_leaf (x0 : DV) {d : DV} (h : P_pats_leaf (run cfg) x0 = some d) : (run cfg).p F_pats_leaf [x0] = some d := callE Tryz.func199 (by kernel_rfl) (by kernel_rfl) (by kernel_rfl) h
noncomputable def P_typ_arity (R : Orc) (x0 : DV) : Option DV := eP Tryz.f209 fl_typ_arity R [] (initSt Tryz.f209 [(x0, .val)] [])
theorem eq_typ_arity (R : Orc) (x0 : DV) : P_typ_arity R x0 =
 (ob (dBin .eql x0 (.int .i64 1)) fun d1 => oif d1 (some (.int .i64 0)) (ob (dBin .eql x0 (.int .i64 2)) fun d2 => oif d2 (some (.int .i64 0)) (ob (dBin .eql x0 (.int .i64 3)) fun d3 => oif d3 (some (.int .i64 0)) (ob (dBin .eql x0 (.int .i64 4)) fun d4 => oif d4 (some (.int .i64 0)) (ob (dBin .eql x0 (.int .i64 5)) fun d5 => oif d5 (some (.int .i64 0)) (ob (dBin .eql x0 (.int .i64 6)) fun d6 => oif d6 (some (.int .i64 0)) (ob (dBin .eql x0 (.int .i64 8)) fun d7 => oif d7 (some (.int .i64 1)) (ob (dBin .eql x0 (.int .i64 7)) fun d8 => oif d8 (some (.int .i64 2)) (ob (dBin .eql x0 (.int .i64 9)) fun d9 => oif d9 (some (.int .i64 2)) (some (.int .i64 (-1)))))))))))) := evP_of [] (by kernel_rfl)
theorem call_typ_arity (x0 : DV) {d : DV} (h : P_typ_arity (run cfg) x0 = some d) : (run cfg).p F_typ_arity [x0] = some d := callE Tryz.func209 (by kernel_rfl) (by kernel_rfl) (by kernel_rfl) h
end Go.Su

/-
 All equations.
-/
namespace Go.Su
end Go.Su
