/-
  The program's iterators keep their word: by program.
-/
import Derived.LoopNIn
import Derived.OwnWalkIn
import Derived.RangeFuncBound
import Derived.RangeFuncKeeps
import Derived.RangeFuncLeaves
import Derived.Shelf.Abstract
import Derived.TacticsInMore
import Derived.Test.YtgccmhlmdnimjaaGreatProg
import Derived.WalkKit
import Derived.Test.YtgccmhlmdnimjaaGreatP3
namespace Go.Su
open Go.Proofs Go.RowKit Go.Shelf
attribute [local go_sem] Oper.semAt_some
set_option linter.unusedSimpArgs false
set_option linter.unusedVariables false

theorem room_none {F : Fence} (hd : F.depth = none) (k : Nat) : F.room k := fun d h => by rw [hd] at h; cases h
theorem RoundIn.anyD {F : Fence} (hd : F.depth = none) {m m' : Nat} {P : Program} {l : Nat} {f : FuncId} {tmps : Array Value} {assign body : Code} {w : World} {R : Ending → World → Prop}
    (h : RoundIn F m P l f tmps assign body w R) : RoundIn F m' P l f tmps assign body w R := ⟨h.1, fun c cs _ => h.2 c cs (room_none hd _)⟩


/-! ### pats -/
set_option maxHeartbeats 1000000 in
theorem mk_pats : MkOk Tryz.prog 195 242 7 := by
  intro w vs hs
  obtain ⟨l⟩ := vs
  match l, hs with
  | [v0, v1, v2, v3, v4, v5, v6], _ =>
  refine (callsIn_wide (n := 1)).1 (callsIn_of_wp Tryz.func195 rfl trivial ?_)
  simp only [Tryz.ntmps195, List.size_toArray, List.length_cons, List.length_nil, Nat.reduceAdd, Nat.reduceSub, Array.replicate_succ, Array.replicate_zero, List.push_toArray, List.append_toArray, List.nil_append, List.cons_append]
  gi_wp2
  go_ret
  exact ⟨rfl, _, rfl⟩

set_option maxRecDepth 10000 in
set_option maxHeartbeats 4000000 in
theorem go_pats (l n0 : Nat) (ds : List DV) (J : Nat → Env → World → Prop) (Jx : World → Prop) (n : Nat)
    (hf : ∀ k E' W', J k E' W' → ∀ b o, W'.heap.size ≤ b → E'.O b o = .other)
    (hI : ∀ k E' W1 W2, J k E' W1 → ItLe n0 E' W1 W2 → J k E' W2)
    (hY : ∀ k E' W1 d v, J k E' W1 → ds[k]? = some d → RV E'.S W1.heap d v → YieldAt Fence.wide n Tryz.prog l #[v] W1 fun e W2 =>
      (e = .returned (.bool true) ∧ ∃ E2, J (k + 1) E2 W2 ∧ Pr Ours E' W1.heap E2 W2.heap) ∨ (e = .returned (.bool false) ∧ Jx W2)) :
    ∀ (m : Nat) (d : DV) (sub : List DV), flatN 7 6 m d = some sub → ∀ (k : Nat) (E : Env) (W : World) (v : Value), J k E W → RV E.S W.heap d v → (∀ j x, sub[j]? = some x → ds[k + j]? = some x) → n0 ≤ W.heap.size →
      CallsIn Fence.wide n Tryz.prog 243 #[v, .func (.yield l) #[] #[]] W fun e W' => (e = .returned (.bool true) ∧ ∃ E', J (k + sub.length) E' W' ∧ Kpt E W E' W') ∨ (e = .returned (.bool false) ∧ Jx W') := by
  intro m
  induction m with
  | zero => intro d sub h; simp [flatN] at h
  | succ m ih =>
    intro d sub hsub k E W v hJ hv hin hn0
    cases d with
    | agg cs =>
      rw [flatN] at hsub
      obtain ⟨h1, hsub⟩ := og_some hsub
      cases hk : cs.getD 6 .undef with
      | list s kds =>
        rw [hk] at hsub
        simp only at hsub
        obtain ⟨h2, hsub⟩ := og_some hsub
        obtain ⟨ks, h3, hsub⟩ := ob_some hsub
        simp only [Option.some.injEq] at hsub
        subst hsub
        simp only [beq_iff_eq, Bool.and_eq_true, decide_eq_true_eq] at h1 h2
        obtain ⟨h2, hlim⟩ := h2
        subst h2
        have hv0 := hv
        simp only [RV] at hv0
        obtain ⟨vs, rfl, hvs⟩ := hv0
        obtain ⟨hl, hvs⟩ := RLs_iff.1 hvs
        obtain ⟨l', rfl⟩ : ∃ l' : List Value, vs = l'.toArray := ⟨vs.toList, by simp⟩
        simp only at hl hvs
        match l', hl.symm.trans h1 with
        | [v0, v1, v2, v3, v4, v5, v6], _ =>
        -- the kids
        have hk5 : cs[6]? = some (.list 7 kds) := by
          have : 6 < cs.length := by omega
          rw [List.getD_eq_getElem?_getD, List.getElem?_eq_getElem this] at hk
          rw [List.getElem?_eq_getElem this]
          exact congrArg some hk
        have hkc := (hvs 6 _ v6 hk5 rfl).2
        simp only [RC] at hkc
        obtain ⟨ka, len, cap, h4, h5, h6, h7, h8, h9⟩ := hkc
        simp only [List.cons.injEq, and_true] at h4
        subst h4 h5
        have hdd : ∀ k : Nat, (Fence.wide.depth.isSome = true → 1 ≤ k) := fun k h => by cases h
        -- the round
        have ho : ∀ o, E.O W.heap.size o = .other := fun o => hf k E W hJ _ o (Nat.le_refl _)
        have key : ∀ T, ∃ fy ty ay by_, (Instr.yield l #[.agg #[v0, v1, v2, v3, v4, v5, .slice ka kds.length cap]]).run Tryz.prog (W.alloc (.cells #[v0, v1, v2, v3, v4, v5, .slice ka kds.length cap] T)) = .ok (.round l fy ty ay by_) (W.alloc (.cells #[v0, v1, v2, v3, v4, v5, .slice ka kds.length cap] T)) ∧
            RoundIn Fence.wide (n - 1) Tryz.prog l fy ty ay by_ (W.alloc (.cells #[v0, v1, v2, v3, v4, v5, .slice ka kds.length cap] T)) fun e W2 =>
              (e = .returned (.bool true) ∧ ∃ E2, J (k + 1) E2 W2 ∧ Kpt E W E2 W2 ∧ (W2.heap[W.heap.size]? = some (.cells #[v0, v1, v2, v3, v4, v5, .slice ka kds.length cap] T (0, 0)) ∧ (∀ o, E2.O W.heap.size o = .other)) ∧ W2.cell? ⟨W.heap.size, 6, none⟩ = some (.slice ka kds.length cap)) ∨ (e = .returned (.bool false) ∧ Jx W2) := by
          intro T
          have hJ1 : J k E (W.alloc (.cells #[v0, v1, v2, v3, v4, v5, .slice ka kds.length cap] T)) := hI _ _ _ _ hJ (ItLe.alloc _)
          have K1 := Kpt.alloc (E := E) (W := W) (.cells #[v0, v1, v2, v3, v4, v5, .slice ka kds.length cap] T) (hf k E W hJ)
          obtain ⟨fy, ty, ay, by_, hy, hR⟩ := hY k E _ (.agg cs) _ hJ1 (hin 0 _ rfl) (RV.mono K1.sh _ hv)
          refine ⟨fy, ty, ay, by_, hy, RoundIn.anyD rfl (RoundIn.mono hR ?_)⟩
          rintro e W2 (⟨rfl, E2, hJ2, hP2⟩ | ⟨rfl, hx⟩)
          · have K2 := Kpt.of_pr hP2 (hf _ _ _ hJ1)
            have hb := K2.blk W.heap.size (by simp) ho
            rw [World.alloc_heap_new] at hb
            refine .inl ⟨rfl, E2, hJ2, K1.trans K2, hb, ?_⟩
            simp [World.cell?, hb.1]
          · exact .inr ⟨rfl, hx⟩
        obtain ⟨fy, ty, ay, by_, hy, hR⟩ := key 109
        refine callsIn_of_wp Tryz.func243 rfl trivial ?_
        simp only [Tryz.ntmps243, List.size_toArray, List.length_cons, List.length_nil, Nat.reduceAdd, Nat.reduceSub, Array.replicate_succ, Array.replicate_zero, List.push_toArray, List.append_toArray, List.nil_append, List.cons_append]
        gi_wp2_with ((try refine ⟨hdd _, ?_⟩); refine hR.mono ?_; clear hR; rintro e W2 (⟨rfl, E2, hJ2, hK2, hb2, hc2⟩ | ⟨rfl, hx2⟩))
        · -- the kids, one by one
          refine wpIn_loop_rounds (kds.length + 1) ?_
          refine (?loop : ∀ (r i : Nat) (pre rs : List DV) (E3 : Env) (w : World) (x6 x15 x16 x17 x18 x19 x20 x21 x22 : Value), i + r = kds.length → flatL (flatN 7 6 m) (kds.drop i) = some rs → ks = pre ++ rs → J (k + 1 + pre.length) E3 w → Kpt E W E3 w →
              Code.roundsIn Fence.wide n Tryz.prog _ _ (r + 1) { tmps := #[.agg #[v0, v1, v2, v3, v4, v5, .slice ka kds.length cap], .func (.yield l) #[] #[], .pointer (some { block := W.heap.size, off := 0 }), undef, .bool false, undef, x6,
                .func (.yield l) #[] #[], .agg #[v0, v1, v2, v3, v4, v5, .slice ka kds.length cap], .bool true, .bool false, .pointer (some { block := W.heap.size, off := 6 }), .slice ka kds.length cap, .int .i64 (kds.length : Int), .int .i64 (i : Int), x15, x16, x17, x18, x19, x20, x21, x22], defers := [] } w)
            kds.length 0 [] ks E2 W2 undef undef undef undef undef undef undef undef undef (by simp) h3 rfl hJ2 hK2
          clear hJ2 hK2 hb2 hc2 hy key hJ
          intro r
          induction r with
          | zero =>
            intro i pre rs E3 w x6 x15 x16 x17 x18 x19 x20 x21 x22 hi hrs hks hJ3 hK3
            have hi' : i = kds.length := by omega
            have hi'' : (i : Int) = (kds.length : Int) := by omega
            rw [roundsIn_succ]
            rw [hi'']
            have hlt : ¬ ((kds.length : Int) < (kds.length : Int)) := by omega
            gi_wp2
            go_ret
            rw [hi', List.drop_length, flatL] at hrs
            simp only [Option.some.injEq] at hrs
            subst hrs
            refine .inl ⟨rfl, E3, ?_, hK3⟩
            rw [show k + (pre.length + ([] : List DV).length + 1) = k + 1 + pre.length by simp; omega]
            exact hJ3
          | succ r ihr =>
            intro i pre rs E3 w x6 x15 x16 x17 x18 x19 x20 x21 x22 hi hrs hks hJ3 hK3
            rw [roundsIn_succ]
            have hlt : ((i : Int) < (kds.length : Int)) := by omega
            have hil : i < kds.length := by omega
            -- the kid in memory
            obtain ⟨xa, rfl⟩ : ∃ xa, ka = some xa := by
              cases ka with
              | none => have := h7 rfl; omega
              | some xa => exact ⟨xa, rfl⟩
            obtain ⟨h10, h11⟩ := h9 xa rfl
            obtain ⟨xb, xo, xs⟩ := xa
            have h10 := h10 (by omega)
            simp only at h10 h11
            subst h10
            obtain ⟨us, hu1, hu2, hu3⟩ := RElems_iff.1 h11 i _ (List.getElem?_eq_getElem hil)
            have hu4 := hu2.mono hK3.sh
            match us, hu1 with
            | [u0, u1, u2, u3, u4, u5, u6], _ =>
            have cc : ∀ (j : Nat) (u : Value), [u0, u1, u2, u3, u4, u5, u6][j]? = some u → w.cell? ⟨xb, xo + i * 7 + j, none⟩ = some u := fun j u hj => by rw [cell_hc]; exact (hu4 j u hj).1
            have c0 : w.cell? ⟨xb, xo + i * 7, none⟩ = some u0 := cc 0 u0 rfl
            have c1 := cc 1 u1 rfl
            have c2 := cc 2 u2 rfl
            have c3 := cc 3 u3 rfl
            have c4 := cc 4 u4 rfl
            have c5 := cc 5 u5 rfl
            have c6 := cc 6 u6 rfl
            have ou : ∀ (j : Nat) (u : Value), [u0, u1, u2, u3, u4, u5, u6][j]? = some u → u.oneCell' = true := fun j u hj => (RC_proj hu3 hj).elim fun h1 h2 => RC_one h1 h2
            have e0 : u0.oneCell' = true := ou 0 u0 rfl
            have e1 : u1.oneCell' = true := ou 1 u1 rfl
            have e2 : u2.oneCell' = true := ou 2 u2 rfl
            have e3 : u3.oneCell' = true := ou 3 u3 rfl
            have e4 : u4.oneCell' = true := ou 4 u4 rfl
            have e5 : u5.oneCell' = true := ou 5 u5 rfl
            have e6 : u6.oneCell' = true := ou 6 u6 rfl
            obtain ⟨w1, s0, b0, r0, z0, o0⟩ := store_one (P := Tryz.prog) (j := 0) (World.alloc_heap_new w (.cells #[.int .i64 0, .int .i64 0, .int .i64 0, .string ⟨#[]⟩, .int .i64 0, .string ⟨#[]⟩, .slice none 0 0] 109)) (by simp) e0
            obtain ⟨w2, s1, b1, r1, z1, o1⟩ := store_one (P := Tryz.prog) (j := 1) b0 (by simp) e1
            obtain ⟨w3, s2, b2, r2, z2, o2⟩ := store_one (P := Tryz.prog) (j := 2) b1 (by simp) e2
            obtain ⟨w4, s3, b3, r3, z3, o3⟩ := store_one (P := Tryz.prog) (j := 3) b2 (by simp) e3
            obtain ⟨w5, s4, b4, r4, z4, o4⟩ := store_one (P := Tryz.prog) (j := 4) b3 (by simp) e4
            obtain ⟨w6, s5, b5, r5, z5, o5⟩ := store_one (P := Tryz.prog) (j := 5) b4 (by simp) e5
            obtain ⟨w7, s6, b6, r6, z6, o6⟩ := store_one (P := Tryz.prog) (j := 6) b5 (by simp) e6
            simp only [List.setIfInBounds_toArray, List.set_cons_zero, List.set_cons_succ] at b0 b1 b2 b3 b4 b5 b6
            have dd : ∀ (j : Nat) (u : Value), [u0, u1, u2, u3, u4, u5, u6][j]? = some u → w7.cell? ⟨w.heap.size, j, none⟩ = some u := fun j u hj => by rw [cell_hc]; simp only [hc, b6]; simpa using hj
            have d0 := dd 0 u0 rfl
            have d1 := dd 1 u1 rfl
            have d2 := dd 2 u2 rfl
            have d3 := dd 3 u3 rfl
            have d4 := dd 4 u4 rfl
            have d5 := dd 5 u5 rfl
            have d6 := dd 6 u6 rfl
            have low : ∀ b, b < w.heap.size → w7.heap[b]? = w.heap[b]? := fun b hb => by
              rw [r6 b (by omega), r5 b (by omega), r4 b (by omega), r3 b (by omega), r2 b (by omega), r1 b (by omega), r0 b (by omega)]
              exact Below.heap_alloc _ _ _ hb
            have hz : w.heap.size ≤ w7.heap.size := by rw [z6, z5, z4, z3, z2, z1, z0]; simp
            have hout : Outer w w7 := Outer.trans (b := w1) (Outer.trans (b := w.alloc (.cells #[.int .i64 0, .int .i64 0, .int .i64 0, .string ⟨#[]⟩, .int .i64 0, .string ⟨#[]⟩, .slice none 0 0] 109)) ⟨rfl, rfl, rfl⟩ o0) ((((((o1).trans o2).trans o3).trans o4).trans o5).trans o6)
            have hfr := hf _ _ _ hJ3
            have K7 : Kpt E3 w E3 w7 := Kpt.same hz low hfr
            have hJ7 := hI _ _ _ _ hJ3 (ItLe.same hz low hout)
            rw [List.drop_eq_getElem_cons hil, flatL] at hrs
            obtain ⟨sa, hsa, hrs⟩ := ob_some hrs
            obtain ⟨sb, hsb, hrs⟩ := ob_some hrs
            simp only [Option.some.injEq] at hrs
            subst hrs
            have h120 : Fence.wide.fn 243 := trivial
            have hcall : CallsIn Fence.wide (n - 1) Tryz.prog 243 _ w7 _ := callsIn_wide.2 (callsIn_wide.1 (ih _ sa hsa (k + 1 + pre.length) E3 w7 (.agg #[u0, u1, u2, u3, u4, u5, u6]) hJ7 (RV.mono (hK3.trans K7).sh _ (flat_agg hsa hu3)) (flat_at hin hks) (by have := hK3.size; omega)))
            clear ih
            gi_wp2_with ((try refine ⟨hdd _, ?_⟩); gi_at_call 243; refine hcall.mono ?_; clear hcall; rintro e wz (⟨rfl, E4, hJ4, hK4⟩ | ⟨rfl, hx⟩))
            · rw [show wrap64 ((i : Int) + 1) = ((i + 1 : Nat) : Int) by unfold lim at hlim; rw [wrap64]; omega]
              exact ihr (i + 1) (pre ++ sa) sb E4 wz _ _ _ _ _ _ _ _ _ (by omega) hsb (by rw [hks, List.append_assoc]) (by rw [List.length_append, ← Nat.add_assoc]; exact hJ4) ((hK3.trans K7).trans hK4)
            · go_ret
              exact .inr ⟨rfl, hx⟩
        · go_ret
          exact .inr ⟨rfl, hx2⟩
      | _ => rw [hk] at hsub; simp at hsub
    | _ => simp [flatN] at hsub

set_option maxHeartbeats 1000000 in
theorem it_pats : IterOk Tryz.prog 242 (flatD 7 6) := by
  intro cs ds hds n l b c T0 J Jx E W hb ho hR hf hI hY h0
  obtain ⟨m, hm⟩ := flatD_some hds
  have hlen : cs.length = 7 := by
    cases m with
    | zero => simp [flatN] at hm
    | succ m =>
      rw [flatN] at hm
      obtain ⟨h1, -⟩ := og_some hm
      simpa using h1
  have hlc := (RLs_iff.1 hR).1
  obtain ⟨l', rfl⟩ : ∃ l' : List Value, c = l'.toArray := ⟨c.toList, by simp⟩
  simp only at hR hlc
  match l', hlc.symm.trans hlen with
  | [v0, v1, v2, v3, v4, v5, v6], _ =>
  have cc : ∀ (j : Nat) (u : Value), [v0, v1, v2, v3, v4, v5, v6][j]? = some u → W.cell? ⟨b, j, none⟩ = some u := fun j u hj => by rw [cell_hc]; simp only [hc, hb]; simpa using hj
  have c0 := cc 0 v0 rfl
  have c1 := cc 1 v1 rfl
  have c2 := cc 2 v2 rfl
  have c3 := cc 3 v3 rfl
  have c4 := cc 4 v4 rfl
  have c5 := cc 5 v5 rfl
  have c6 := cc 6 v6 rfl
  have hgo : CallsIn Fence.wide (n - 1) Tryz.prog 243 _ W _ := callsIn_wide.2 (callsIn_wide.1 (go_pats l W.heap.size ds J Jx n hf hI hY m (.agg cs) ds hm 0 E W (.agg #[v0, v1, v2, v3, v4, v5, v6]) h0 (by simp only [RV]; exact ⟨_, rfl, hR⟩) (fun j x h => by rw [Nat.zero_add]; exact h) (Nat.le_refl _)))
  have h120 : Fence.wide.fn 243 := trivial
  have hdd : ∀ k : Nat, (Fence.wide.depth.isSome = true → 1 ≤ k) := fun k h => by cases h
  refine callsIn_of_wp Tryz.func242 rfl trivial ?_
  simp only [Tryz.ntmps242, List.size_toArray, List.length_cons, List.length_nil, Nat.reduceAdd, Nat.reduceSub, Array.replicate_succ, Array.replicate_zero, List.push_toArray, List.append_toArray, List.nil_append, List.cons_append]
  gi_wp2_with ((try refine ⟨hdd _, ?_⟩); gi_at_call 243; refine hgo.mono ?_; clear hgo; rintro e w2 (⟨rfl, E4, hJ4, -⟩ | ⟨rfl, hx⟩))
  · go_end0
    exact ⟨⟨_, rfl⟩, .inl ⟨E4, by simpa using hJ4⟩⟩
  · go_end0
    exact ⟨⟨_, rfl⟩, .inr hx⟩

end Go.Su
