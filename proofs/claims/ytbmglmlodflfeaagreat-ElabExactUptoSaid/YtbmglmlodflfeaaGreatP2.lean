/-
  Parts of the proof, merged: SuOp9, SuOp10, SuOp11, SuOp12, SuCall, SuOp13, SuSim, SuFrame, SuFrame2, SuFrame3, SuDraw.
-/
import Derived.RangeFuncLeaves
import Derived.RangeFuncNested
import Derived.Test.YtbmglmlodflfeaaGreatP1
set_option linter.unusedVariables false
set_option linter.unusedSimpArgs false
/-
 THE DATA MACHINE, part 14: memory written; maps read and written; parts of results.
-/
open Array renaming getElem?_eq_some_iff → z12q, getElem?_setIfInBounds_self_of_lt → z16q, getElem?_setIfInBounds_ne → z17q, getElem?_eq_getElem → z33q, getElem?_push → z38q, getElem?_eq_none → z51q, getElem?_modify → z53q, length_toList → z62q, size_push → z73q
open Bool renaming false_eq_true → z7q, and_eq_true → z13q, not_eq_true' → z44q, true_and → z50q, or_eq_true_iff → z58q, not_false → z59q, false_and → z60q, not_true → z64q
open List renaming getElem?_eq_some_iff → z0q, getElem?_set_ne → z1q, getD_eq_getElem?_getD → z2q, getElem?_eq_getElem → z3q, getElem?_set_self → z4q, getElem?_append_left → z5q, getElem?_append_right → z6q, getElem?_eq_none → z9q, flatMap_cons → z10q, mem_append → z11q, getElem?_cons_zero → z14q, mem_of_getElem? → z18q, all_eq_true → z19q, eq_nil_of_length_eq_zero → z21q, getElem?_cons_succ → z22q, mem_iff_getElem → z24q, getElem?_set_self' → z26q, set_comm → z27q, length_eq_one_iff → z28q, mem_singleton → z29q, getElem?_map → z31q, flatMap_append → z36q, length_cons → z37q, length_set → z40q, append_nil → z41q, ext_getElem? → z42q, mem_cons_self → z46q, mem_flatMap → z48q, map_cons → z52q, mem_cons_of_mem → z54q, contains_eq_mem → z55q, map_congr_left → z57q, getElem?_take → z63q, append_assoc → z67q, filter_cons → z68q, length_take → z69q, flatMap_nil → z70q, set_set → z71q
open Nat renaming mul_le_mul_right → z8q, zero_add → z15q, le_refl → z20q, lt_or_ge → z30q, add_mul → z32q, succ_mul → z34q, add_zero → z35q, le_of_not_lt → z43q, zero_mul → z45q, le_of_eq → z49q, eq_zero_or_pos → z56q, add_assoc → z61q, sub_self → z66q, le_succ → z72q
open Option renaming getD_some → z23q, map_eq_some_iff → z25q, isSome_iff_exists → z39q, isNone_iff_eq_none → z47q, map_some → z65q
namespace Go.Su
theorem A7d (w : World) {b o : Nat} {c : Array Value} {T : TypeId} {f : Nat × Nat} (h : w.heap[b]? = some (.cells c T f)) (v : Value) :
 (w.setCell ⟨b, o, none⟩ v).heap[b]? = some (.cells (c.setIfInBounds o v) T f) ∧ (∀ b', b' ≠ b → (w.setCell ⟨b, o, none⟩ v).heap[b']? = w.heap[b']?) ∧ (w.setCell ⟨b, o, none⟩ v).heap.size = w.heap.size := by
 have H7 : b < w.heap.size := (z12q.1 h).1;have hv : w.heap[b] = .cells c T f := (z12q.1 h).2;refine ⟨?_, fun b' hb => ?_, by simp⟩
 ·unfold World.setCell
  rw [z33q (by simpa using H7), Array.getElem_modify]
  simp [hv]
 ·simp [World.setCell, z53q, Ne.symm hb]
structure ah (w w' : World) (b o : Nat) (vs : List Value) (c : Array Value) (T : TypeId) (f : Nat × Nat) : Prop where
 ex : ∃ c', w'.heap[b]? = some (.cells c' T f) ∧ c'.size = c.size ∧ ∀ j, c'[j]? = if o ≤ j ∧ j < o + vs.length then vs[j - o]? else c[j]?
 rest : ∀ b', b' ≠ b → w'.heap[b']? = w.heap[b']?
 size : w'.heap.size = w.heap.size
 out : Q5 w w'
theorem Kt {P : Program} {b T : Nat} {f : Nat × Nat} (off : Nat) : ∀ (vs : List Value) (c : Array Value) (i : Nat) (w : World), w.heap[b]? = some (.cells c T f) → off + i + vs.length ≤ c.size → (∀ v ∈ vs, v.oneCell' = true) →
 (∀ o, off + i ≤ o → o < off + i + vs.length → ¬ (f.1 ≤ o ∧ o < f.2)) → ∃ w', (storeCells ⟨b, off, none⟩ vs i).run P w = .ok () w' ∧ ah w w' b (off + i) vs c T f
 | [], c, i, w, h, _, _, _ => ⟨w, rfl, ⟨c, h, rfl, fun j => by rw [if_neg (by rintro ⟨h1, h2⟩; simp at h2; omega)]⟩, fun _ _ => rfl, rfl, Q5.refl _⟩
 | v :: vs, c, i, w, h, hn, ho, hf => by
   simp only [z37q] at hn hf;have Jo : w.cell? ⟨b, off + i, none⟩ = some (c[off + i]'(by omega)) := by
    rw [KO]; unfold hc; rw [h]; exact z33q (by omega)
   have mJ : w.frozen? ⟨b, off + i, none⟩ = false := by
    unfold World.frozen?;simp only [h];have := hf (off + i) (z20q _) (by omega)
    simpa using this
   have h1 : (store ((⟨b, off, none⟩ : Addr).add i) v).run P w = .ok () (w.setCell ⟨b, off + i, none⟩ v) := by
    rw [Addr.add_lit, run_store P w _ v _ (ho v (by simp)), Jo]
    simp [mJ]
   obtain ⟨s1, s2, s3⟩ := A7d w (o := off + i) h v;obtain ⟨w', r1, ⟨c', e1, e2, e3⟩, e4, e5, e6⟩ := Kt off vs _ (i + 1) _ s1 (by simp; omega) (fun u hu => ho u (by simp [hu])) (fun o h1 h2 => hf o (by omega) (by omega))
   refine ⟨w', ?_, ⟨c', e1, by simpa using e2, fun j => ?_⟩, fun b' hb => (e4 b' hb).trans (s2 b' hb), e5.trans s3, Q5.trans (b := w.setCell ⟨b, off + i, none⟩ v) ⟨rfl, rfl, rfl⟩ e6⟩
   ·unfold storeCells
    simp only [Sem.run_bind, h1, Result.andThen_ok];exact r1
   ·rw [e3 j, z37q]
    by_cases hj : j = off + i
    ·subst hj
     rw [if_neg (by omega), if_pos (by omega), z16q (by omega)]
     simp
    ·rw [z17q (Ne.symm hj)]
     by_cases hc : off + (i + 1) ≤ j ∧ j < off + (i + 1) + vs.length
     ·rw [if_pos hc, if_pos (by omega), show j - (off + i) = (j - (off + (i + 1))) + 1 from by omega, z22q]
     ·rw [if_neg hc, if_neg (by omega)]
theorem Ku {P : Program} {t : TypeId} {z : Nat × Bool} (hz : tz P t = some z) {w : World} {b off T : Nat} {f : Nat × Nat} {c : Array Value} {v : Value} (h : w.heap[b]? = some (.cells c T f)) (hs : v.cells.size = z.1) (hn : off + z.1 ≤ c.size)
 (ho : ∀ u ∈ v.cells.toList, u.oneCell' = true) (hf : ∀ o, off ≤ o → o < off + z.1 → ¬ (f.1 ≤ o ∧ o < f.2)) : ∃ w', (storeVar t ⟨b, off, none⟩ v).run P w = .ok () w' ∧ ah w w' b off v.cells.toList c T f := by
 obtain ⟨w', r, s⟩ := Kt (P := P) off v.cells.toList c 0 w h (by simp; omega) ho (fun o h1 h2 => hf o (by omega) (by simp at h2; omega))
 refine ⟨w', ?_, by simpa using s⟩
 unfold storeVar;simp only [Sem.run_bind, Oe hz, Result.andThen_ok, Sem.run_ite];rw [if_neg (by omega)]
 exact r
theorem ah.Pr {E : Env} {w w' : World} {b o : Nat} {vs : List Value} {c : Array Value} {T : TypeId} {f : Nat × Nat} (S : ah w w' b o vs c T f) {ch : Tag → Prop} (hb : w.heap[b]? = some (.cells c T f)) (ht : ∀ j, o ≤ j → j < o + vs.length → ch (E.O b j)) :
 Pr ch E w.heap E w'.heap := by
 refine ⟨z49q S.size.symm, fun b' TC => ?_, fun _ _ _ _ => rfl, z20q _, fun _ _ => ⟨rfl, rfl, rfl⟩, fun _ _ => rfl⟩
 by_cases dJ : b' = b
 ·subst dJ
  rw [hb];obtain ⟨c', e1, e2, e3⟩ := S.ex;refine ⟨c', e1, e2, fun j hj => ?_⟩
  rw [e3 j, if_neg];rintro ⟨c1, c2⟩;exact hj (ht j c1 c2)
 ·rw [S.rest b' dJ]; exact X4.refl _ _
section
variable {X : Type} {C : X5} {R : N7} {o : Oper} {st : St} {k : St → Option X} {x : X} {E : Env} {a : Act} {w : World} {K : Act → World → Prop} {Q : Exit → Act → World → Prop}
theorem af.write {w' : World} {tg : Tag} {p q b : Nat} {cs xs : List (DV × Meta)} {off : Nat} {vs : List Value} {c : Array Value} {T : TypeId} (B : af E w.heap tg p q b cs) (hb : w.heap[b]? = some (.cells c T (0, 0))) (S : ah w w' b off vs c T (0, 0))
 (hl : xs.length = vs.length) (I9 : off + xs.length ≤ cs.length) (hx : ∀ (j : Nat) r v, xs[j]? = some r → vs[j]? = some v → DF E w.heap (.sp p q (off + j)) r v) (hs : X8 E.S w.heap E.S w'.heap)
 (hP : Pr (fun t => t = tg) E w.heap E w'.heap) (hns : ∀ k' a' b', tg ≠ .sp k' a' b') : af E w'.heap tg p q b (putAt cs off xs) := by
 obtain ⟨c0, T0, h1, h2, h3, h4⟩ := B;rw [hb] at h1;simp only [Option.some.injEq, Obj.cells.injEq] at h1;obtain ⟨rfl, rfl, -⟩ := h1;obtain ⟨c', e1, e2, e3⟩ := S.ex;have mono : ∀ {tg' : Tag} {r : DV × Meta} {v : Value}, (∃ x y z, tg' = .sp x y z) → DF E w.heap tg' r v → DF E w'.heap tg' r v := by
  rintro tg' r v ⟨x1, y1, z1, rfl⟩ ⟨a1, a2, a3, a4⟩;exact ⟨a1, a2, a3, a4.mono hP hs (fun _ => fun h => hns _ _ _ h.symm) fun s o' hm => by rw [hm] at a3; simp [X0] at a3⟩
 refine ⟨c', T, e1, by rw [e2, h2, dh I9], fun o' => ?_, fun j r v hr hv => ?_⟩
 ·rcases h3 o' with h5 | h5
  ·exact .inl h5
  ·exact .inr (by omega)
 ·rw [iM I9] at hr
  rw [e3 j] at hv
  by_cases hc : off ≤ j ∧ j < off + xs.length
  ·rw [if_pos hc] at hr
   rw [if_pos (by omega)] at hv
   have := hx (j - off) r v hr hv;rw [show off + (j - off) = j from by omega] at this
   exact mono ⟨_, _, _, rfl⟩ this
  ·rw [if_neg hc] at hr
   rw [if_neg (by omega)] at hv
   exact mono ⟨_, _, _, rfl⟩ (h4 j r v hr hv)
theorem J2.A5i {w' : World} {s off : Nat} {cs xs : List (DV × Meta)} {vs : List Value} {c : Array Value} {T : TypeId} (Rl : J2 E st a w.heap) (hbx : st.bx.getD s none = some cs) (hb : w.heap[E.blk s]? = some (.cells c T (0, 0)))
 (S : ah w w' (E.blk s) off vs c T (0, 0)) (hl : xs.length = vs.length) (I9 : off + xs.length ≤ cs.length) (hx : ∀ (j : Nat) r v, xs[j]? = some r → vs[j]? = some v → DF E w.heap (.sp 1 s (off + j)) r v) :
 J2 E { st with bx := st.bx.set s (some (putAt cs off xs)) } a w'.heap ∧ Pr (fun t => t = .SS s) E w.heap E w'.heap := by
 have B := Rl.boxes s cs hbx;have Y9 : c.size = cs.length := by
  obtain ⟨c0, T0, h1, h2, -⟩ := B;rw [hb] at h1;simp only [Option.some.injEq, Obj.cells.injEq] at h1;rw [h1.1]; exact h2
 have hP : Pr (fun t => t = .SS s) E w.heap E w'.heap := S.Pr hb fun j h1 h2 => by
  obtain ⟨c1, T1, g1, g2, g3, -⟩ := B;rw [hb] at g1;simp only [Option.some.injEq, Obj.cells.injEq] at g1;rcases g3 j with h6 | h6
  ·exact h6
  ·rw [← g1.1] at h6; omega
 have hs := hP.shut (by simp) Rl.fresh
 refine ⟨⟨Rl.size, Rl.Aq, by simpa using Rl.Cs, Rl.n, fun t v hv => ?_, fun s' cs' Dw => ?_, fun i ob hi => (Rl.Q3 i ob hi).mono hP hs (En Rl hi) (by simp) (by simp), fun b o' TC => Rl.fresh b o' (by rw [← S.size]; exact TC)⟩, hP⟩
 ·have h0 := Rl.regs t v hv
  cases hm : (st.get t).2
  case loc s' o' =>
   show RR E w'.heap 0 t (st.get t).1 (st.get t).2 v
   rw [hm] at h0 ⊢;exact h0
  all_goals
   show RR E w'.heap 0 t (st.get t).1 (st.get t).2 v
   exact h0.mono hP hs (by simp) (by rw [hm]; simp)
 ·have A1L : s < st.bx.length := by
   rcases z30q s st.bx.length with h1 | h1
   ·exact h1
   ·simp [z2q, z9q h1] at hbx
  by_cases dQ : s = s'
  ·subst dQ
   simp only [z2q, z4q A1L, z23q, Option.some.injEq] at Dw;subst Dw;exact B.write hb S hl I9 hx hs hP (by simp)
  ·simp only [z2q, z1q dQ] at Dw
   exact (Rl.boxes s' cs' (by simpa [z2q] using Dw)).mono hP hs (by simp; exact fun h => dQ h.symm) (by simp)
theorem J2.A5j {w' : World} {i off : Nat} {cs xs : List (DV × Meta)} {vs : List Value} {c : Array Value} {T : TypeId} (Rl : J2 E st a w.heap) (hsg : st.sg[i]? = some (.box cs)) (hb : w.heap[E.obj i]? = some (.cells c T (0, 0)))
 (S : ah w w' (E.obj i) off vs c T (0, 0)) (hl : xs.length = vs.length) (I9 : off + xs.length ≤ cs.length) (hx : ∀ (j : Nat) r v, xs[j]? = some r → vs[j]? = some v → DF E w.heap (.sp 2 i (off + j)) r v) :
 J2 E { st with sg := st.sg.set i (.box (putAt cs off xs)) } a w'.heap ∧ Pr (fun t => t = .obj i) E w.heap E w'.heap := by
 have B := Rl.Q3 i _ hsg;simp only [RO] at B;have Y9 : c.size = cs.length := by
  obtain ⟨c0, T0, h1, h2, -⟩ := B;rw [hb] at h1;simp only [Option.some.injEq, Obj.cells.injEq] at h1;rw [h1.1]; exact h2
 have hP : Pr (fun t => t = .obj i) E w.heap E w'.heap := S.Pr hb fun j h1 h2 => by
  obtain ⟨c1, T1, g1, g2, g3, -⟩ := B;rw [hb] at g1;simp only [Option.some.injEq, Obj.cells.injEq] at g1;rcases g3 j with h6 | h6
  ·exact h6
  ·rw [← g1.1] at h6; omega
 have hs := hP.shut (by simp) Rl.fresh
 have QI := (z0q.1 hsg).1;refine ⟨⟨Rl.size, Rl.Aq, Rl.Cs, by simpa using Rl.n, fun t v hv => (Rl.regs t v hv).mono hP hs (by simp) (by simp), fun s' cs' Dw => (Rl.boxes s' cs' Dw).mono hP hs (by simp) (by simp), fun i' ob hi => ?_, fun b o' TC => Rl.fresh b o' (by rw [← S.size]; exact TC)⟩, hP⟩
 by_cases Gf : i = i'
 ·subst Gf
  simp only [z4q QI, Option.some.injEq] at hi;subst hi;exact B.write hb S hl I9 hx hs hP (by simp)
 ·simp only [z1q Gf] at hi
  exact (Rl.Q3 i' ob hi).mono hP hs (En Rl hi) (by simp; exact fun h => Gf h.symm) (by simp)
def Bl (y : Operand) (p s off : Nat) (T : Tag) : Tag :=
 match y, T with
 | .tmp t, .sp 0 t' 0 => if t = t' then .sp p s off else .sp 0 t' 0
 | _, T => T
theorem Ev {y : Operand} {p s off : Nat} {T : Tag} (h : ∀ t b, y = .tmp t → T ≠ .sp 0 t b) : Bl y p s off T = T := by
 unfold Bl
 split
 ·split
  ·rename_i hx; subst hx; exact absurd rfl (h _ _ rfl)
  ·rfl
 ·rfl
theorem A8F {P : Program} {t : TypeId} {y : Operand} {r : DV × Meta} (hs : src P t st y = some r) {p s off : Nat} {c : DV × Meta} (hm : c.2 = r.2) (hc : DF E w.heap (.sp 0 (mW y) 0) c (a.eval y)) :
 DF (E.re (Bl y p s off)) w.heap (.sp p s off) c (a.eval y) := by
 obtain ⟨a1, a2, a3, a4⟩ := hc;refine ⟨a1, a2, a3, ?_⟩
 by_cases hy : ∃ i, y = .tmp i
 ·obtain ⟨i, rfl⟩ := hy
  exact a4.re (Ev (by simp)) (by simp [Bl, mW])
 ·have Ey : c.2 ≠ .own := by
   rw [hm];cases y with
   | tmp i => exact absurd ⟨i, rfl⟩ hy
   | const v => exact (Xi hs).1
   | func f => simp only [src, Option.some.injEq] at hs; subst hs; simp
   | global g => simp [src] at hs
  have a5 : K4 (E.re (Bl y p s off)) w.heap .other c.1 c.2 (a.eval y) := (a4.tag (tg' := .other) Ey).re (Ev (by simp)) (Ev (by simp))
  exact a5.tag Ey
theorem Ml {t : TypeId} {y v : Operand} {w' : World} {b off : Nat} (E9 : o.op = .store t y v) (he : a.eval y = .pointer (some ⟨b, off, none⟩)) (h : (storeVar t ⟨b, off, none⟩ (a.eval v)).run C.P w = .ok () w') :
 (execOp a.eval o).run C.P w = .ok .skip w' := by
 simp only [execOp, E9];refine B3F ?_;simp only [Instr.storeAt, he, Instr.sureAddr, Sem.run_bind, Sem.run_pure, Result.andThen_ok, h]
theorem cells_one {v : Value} (h : v.oneCell' = true) : v.cells = #[v] := by
 cases v <;> first | rfl | (simp [Value.oneCell'] at h)
theorem A47 {α : Type} {l : List α} {o : Nat} {y : α} (h : o < l.length) : putAt l o [y] = l.set o y := by
 apply z42q;intro j;rw [iM (by simp; omega)]
 by_cases hj : o = j
 ·subst hj; rw [if_pos (by simp), z4q h]; simp
 ·rw [if_neg (by simp; omega), z1q hj]
theorem B1G {t : TypeId} {y v : Operand} (E9 : o.op = .store t y v) (H : Eh C o t y v st k = some x) (Rl : J2 E st a w.heap) (T : Then E w k x K) : Gp C.P o a w K := by
 unfold Eh at H;obtain ⟨r, h1, H⟩ := C8 H;obtain ⟨u, h2, H⟩ := C8 H;obtain ⟨z, hz, H⟩ := C8 H;have e1 := Rl.src h1;have e2 := Rl.src h2;have Jc : z.2 = false → z.1 = 1 := by
  obtain ⟨i, d, -, -, -, h4⟩ := IU hz;exact h4
 have oJ : ∀ {E' : Env} {h' : Heap} (t0 : Nat), RR E' h' 0 t0 (.I6 []) .val undef := by
  intro E' h' t0;simp only [RR, K4, RV];exact ⟨#[], rfl, by simp [Pj]⟩
 split at H
 ·-- a private variable
  rename_i s off hm;rw [hm] at e1;simp only [RR, K4] at e1;obtain ⟨cs, hb, H⟩ := C8 H;have B := Rl.boxes s cs hb;obtain ⟨c, TT, Ew, Y9, hO, -⟩ := B
  split at H
  ·obtain ⟨xs, H, hl, AU, Ey⟩ := A04 hz e2 H
   obtain ⟨I9, H⟩ := M3 H;obtain ⟨w', hw, S⟩ := Ku (P := C.P) hz (off := off) Ew (v := a.eval v) (by have := AU.1; simp at this; omega) (by omega) (fun u hu => by
    obtain ⟨j, hj, xh⟩ := z24q.1 hu;have xq := AU.1;exact (AU.2 j _ u (z3q (by omega)) (by rw [z3q hj, xh])).2.1) (fun o _ _ => by simp)
   have R0 := Rl.release (x := v) (f := QY v s off) fun T hT => Nh hT
   have He : (st.release v).bx = st.bx := by cases v <;> rfl
   obtain ⟨R1, P1⟩ := R0.A5i (by rw [He]; exact hb) Ew S AU.1 I9 fun j r' v' hr hv =>
    (AU.2 j r' v' hr hv).box fun hy => Ey (A43 h2 hy) r' (z18q hr)
   rw [He] at R1;have Q7 : ({ st with bx := st.bx.set s (some (putAt cs off xs)) }.release v) = { st.release v with bx := st.bx.set s (some (putAt cs off xs)) } := by cases v <;> rfl
   rw [Q7] at H;have P0 : Pr J8 E w.heap (E.re (QY v s off)) w.heap := Pr.re fun T hT => Nh fun t b _ he => hT (by rw [he]; simp [J8])
   exact Sc (Ml E9 e1.2 hw) (T (E.re (QY v s off)) _ _ w' H (R1.put fun t0 _ => oJ t0) (P0.trans (P1.weaken (by rintro T rfl; simp [J8]))) S.out)
  ·rename_i hz2
   have A36 := Jc (by simpa using hz2)
   obtain ⟨cc, H, hmm, AU⟩ := fQ e2 H;obtain ⟨H7, H⟩ := M3 H;have mP := cells_one AU.2.1;obtain ⟨w', hw, S⟩ := Ku (P := C.P) hz (off := off) Ew (v := a.eval v) (by rw [mP, A36]; rfl) (by omega) (fun u hu => by
    rw [mP] at hu; simp at hu; subst hu; exact AU.2.1) (fun o _ _ => by simp)
   rw [mP] at S;have R0 := Rl.release (x := v) (f := Bl v 1 s off) fun T hT => Ev hT
   have Jo := A8F h2 (p := 1) (s := s) (off := off) hmm AU;have He : (st.release v).bx = st.bx := by cases v <;> rfl
   obtain ⟨R1, P1⟩ := R0.A5i (xs := [cc]) (by rw [He]; exact hb) Ew S rfl (by simp; omega) fun j r' v' hr hv => by
    cases j with
    | succ j => simp at hr
    | zero =>
      have CQ : r' = cc := by simpa using hr.symm
      have hv' : v' = a.eval v := by simpa using hv.symm
      rw [CQ, hv'];exact Jo
   rw [A47 H7, He] at R1;have Q7 : ({ st with bx := st.bx.set s (some (cs.set off cc)) }.release v) = { st.release v with bx := st.bx.set s (some (cs.set off cc)) } := by cases v <;> rfl
   rw [Q7] at H;have P0 : Pr J8 E w.heap (E.re (Bl v 1 s off)) w.heap := Pr.re fun T hT => Ev fun t b _ he => hT (by rw [he]; simp [J8])
   exact Sc (Ml E9 e1.2 hw) (T (E.re (Bl v 1 s off)) _ _ w' H (R1.put fun t0 _ => oJ t0) (P0.trans (P1.weaken (by rintro T rfl; simp [J8]))) S.out)
 ·-- a shared variable
  rename_i i off hm;rw [hm] at e1;simp only [RR, K4] at e1;obtain ⟨cs, hb, H⟩ := C8 H;have hb := om hb;have B := Rl.Q3 i _ hb;simp only [RO] at B;obtain ⟨c, TT, Ew, Y9, hO, -⟩ := B
  split at H
  ·obtain ⟨xs, H, hl, AU⟩ := nu hz e2 H
   obtain ⟨I9, H⟩ := M3 H;obtain ⟨w', hw, S⟩ := Ku (P := C.P) hz (off := off) Ew (v := a.eval v) (by have := AU.1; simp at this; omega) (by omega) (fun u hu => by
    obtain ⟨j, hj, xh⟩ := z24q.1 hu;have xq := AU.1;obtain ⟨⟨-, q, -, -⟩, -⟩ := AU.2 j _ u (z3q (by omega)) (by rw [z3q hj, xh])
    exact q) (fun o _ _ => by simp)
   obtain ⟨R1, P1⟩ := Rl.A5j hb Ew S AU.1 I9 fun j r' v' hr hv => let ⟨q1, q2⟩ := AU.2 j r' v' hr hv; ⟨q1.1, q1.2.1, q1.2.2.1, q1.2.2.2.tag q2⟩
   exact Sc (Ml E9 e1.2 hw) (T E _ _ w' H (R1.put fun t0 _ => oJ t0) (P1.weaken (by rintro T rfl; simp [J8])) S.out)
  ·rename_i hz2
   have A36 := Jc (by simpa using hz2)
   obtain ⟨cc, H, hmm, AU⟩ := fQ e2 H;obtain ⟨c0, hc0, H⟩ := C8 H;have H7 : off < cs.length := (z0q.1 hc0).1;have mP := cells_one AU.2.1;obtain ⟨w', hw, S⟩ := Ku (P := C.P) hz (off := off) Ew (v := a.eval v) (by rw [mP, A36]; rfl) (by omega) (fun u hu => by
    rw [mP] at hu; simp at hu; subst hu; exact AU.2.1) (fun o _ _ => by simp)
   rw [mP] at S;have R0 := Rl.release (x := v) (f := Bl v 2 i off) fun T hT => Ev hT
   have Jo := A8F h2 (p := 2) (s := i) (off := off) hmm AU;have He : (st.release v).sg = st.sg := by cases v <;> rfl
   obtain ⟨R1, P1⟩ := R0.A5j (xs := [cc]) (by rw [He]; exact hb) Ew S rfl (by simp; omega) fun j r' v' hr hv => by
    cases j with
    | succ j => simp at hr
    | zero =>
      have CQ : r' = cc := by simpa using hr.symm
      have hv' : v' = a.eval v := by simpa using hv.symm
      rw [CQ, hv'];exact Jo
   rw [A47 H7, He] at R1;have Q7 : ({ st with sg := st.sg.set i (.box (cs.set off cc)) }.release v) = { st.release v with sg := st.sg.set i (.box (cs.set off cc)) } := by cases v <;> rfl
   rw [Q7] at H;have P0 : Pr J8 E w.heap (E.re (Bl v 2 i off)) w.heap := Pr.re fun T hT => Ev fun t b _ he => hT (by rw [he]; simp [J8])
   exact Sc (Ml E9 e1.2 hw) (T (E.re (Bl v 2 i off)) _ _ w' H (R1.put fun t0 _ => oJ t0) (P0.trans (P1.weaken (by rintro T rfl; simp [J8]))) S.out)
 ·-- an element of a writable array
  rename_i i sz idx off hm;rw [hm] at e1;simp only [RR, K4] at e1;obtain ⟨p, hp, H⟩ := C8 H;obtain ⟨d, hd, H⟩ := C8 H;obtain ⟨H, Kj, hRC⟩ := nU Jc e2 H;obtain ⟨Y9, H⟩ := F8 H;obtain ⟨⟨hzz, xw⟩, H9⟩ := M3 H;clear H;subst xw;have hp := Zy hp;have Y9 : p.1 = sz := by simpa using Y9
  rw [Y9] at hp;have B := Rl.Q3 i _ hp;simp only [RO] at B;have hne : p.2 ≠ [] := by intro h; rw [h] at hd; simp at hd
  obtain ⟨c, TT, b1, b2, b3, b4, b5⟩ := B hne;have hidx : idx < p.2.length := (z0q.1 hd).1;have EZ : idx * sz + sz ≤ p.2.length * sz := by rw [← z34q]; exact z8q _ hidx
  have Jo : ∀ u ∈ (a.eval v).cells.toList, u.oneCell' = true := by
   intro q hq;obtain ⟨j, hj, xh⟩ := z24q.1 hq;obtain ⟨q1, q2⟩ := Md hRC (j := j) (v := q) (by rw [z3q hj, xh])
   exact Gx q1 q2
  obtain ⟨w', hw, S⟩ := Ku (P := C.P) hz (off := E.base i + idx * sz) b1 (v := a.eval v) Kj (by omega) Jo (fun o _ _ => by simp)
  have P1 : Pr (fun t => t = .obj i) E w.heap E w'.heap := S.Pr b1 fun j h1 h2 => b4 j (by omega) (by simp at h2; omega)
  have hs := P1.shut (by simp) Rl.fresh
  have QI := (z0q.1 hp).1;have R1 : J2 E { st with sg := st.sg.set i (.arr sz (p.2.set idx u.1)) } a w'.heap := by
   refine ⟨Rl.size, Rl.Aq, Rl.Cs, by simpa using Rl.n, fun t v hv => (Rl.regs t v hv).mono P1 hs (by simp) (by simp), fun s' cs' Dw => (Rl.boxes s' cs' Dw).mono P1 hs (by simp) (by simp), fun i' ob hi => ?_, fun b o' TC => Rl.fresh b o' (by rw [← S.size]; exact TC)⟩
   by_cases Gf : i = i'
   ·subst Gf
    simp only [z4q QI, Option.some.injEq] at hi;subst hi;simp only [RO];intro _;obtain ⟨c', e1', e2', e3'⟩ := S.ex;refine ⟨c', TT, e1', by rw [z40q, e2']; exact b2, b3, by rw [z40q]; exact b4, fun j d' Gd => ?_⟩
    by_cases hj : idx = j
    ·subst hj
     rw [z4q hidx] at Gd;simp only [Option.some.injEq] at Gd;subst Gd;refine ⟨(a.eval v).cells.toList, by simp; omega, fun y q hq => ?_, hRC.mono hs⟩
     have hy : y < sz := by have := (z0q.1 hq).1; simp at this; omega
     rw [e3', if_pos (by simp; omega), ← hq]
     congr 1
     omega
    ·rw [z1q hj] at Gd
     obtain ⟨us, u1, u2, u3⟩ := b5 j d' Gd;refine ⟨us, u1, fun y q hq => ?_, u3.mono hs⟩
     have hy : y < sz := by have := (z0q.1 hq).1; omega
     rw [e3', if_neg, u2 y q hq];rintro ⟨c1, c2⟩;simp at c2;exact hj (A7c (sz := sz) (j := j * sz + y - idx * sz) (j' := y) (by omega) hy (by omega))
   ·simp only [z1q Gf] at hi
    exact (Rl.Q3 i' ob hi).mono P1 hs (En Rl hi) (by simp; exact fun h => Gf h.symm) (by simp)
  exact Sc (Ml E9 (by rw [e1.2]; rfl) hw) (T E _ _ w' H9 (R1.put fun t0 _ => oJ t0) (P1.weaken (by rintro T rfl; simp [J8])) S.out)
 ·-- an open element
  rename_i i sz idx hm;rw [hm] at e1;simp only [RR, K4] at e1;obtain ⟨q, hq, H⟩ := C8 H;obtain ⟨H, Kj, hRC⟩ := nU Jc e2 H;obtain ⟨Y9, H⟩ := F8 H;obtain ⟨ob1, hx, H9⟩ := C8 H;clear H;simp only [z13q, beq_iff_eq] at Y9;obtain ⟨Cj, tL⟩ := Y9;obtain ⟨sz', pre, ds⟩ := q;simp only at Cj;subst Cj;have hq := oo hq;simp only [A4c] at hx;obtain ⟨⟨TD, xg⟩, hx⟩ := M3 hx;simp only [Option.some.injEq] at hx;subst hx;have B := Rl.Q3 i _ hq;simp only [RO] at B;obtain ⟨c, TT, f, b1, b2, b2', b3, b4, b5, b6⟩ := B;have A9F : pre.length * sz' ≤ idx * sz' := z8q _ TD;have EZ : idx * sz' + sz' ≤ (pre.length + ds.length) * sz' := by rw [← z34q]; exact z8q _ (by omega)
  have Jo : ∀ u ∈ (a.eval v).cells.toList, u.oneCell' = true := by
   intro q hq;obtain ⟨j, hj, xh⟩ := z24q.1 hq;obtain ⟨q1, q2⟩ := Md hRC (j := j) (v := q) (by rw [z3q hj, xh])
   exact Gx q1 q2
  obtain ⟨w', hw, S⟩ := Ku (P := C.P) hz (off := E.base i + idx * sz') b1 (v := a.eval v) Kj (by omega) Jo (fun o h1 h2 => (b4 o (by omega) (by omega)).2)
  have P1 : Pr (fun t => t = .obj i) E w.heap E w'.heap := S.Pr b1 fun j h1 h2 => (b4 j (by omega) (by simp at h2; omega)).1
  have hs := P1.shut (by simp) Rl.fresh
  have QI := (z0q.1 hq).1;have R1 : J2 E { st with sg := st.sg.set i (.opn sz' pre (ds.set (idx - pre.length) u.1)) } a w'.heap := by
   refine ⟨Rl.size, Rl.Aq, Rl.Cs, by simpa using Rl.n, fun t v hv => (Rl.regs t v hv).mono P1 hs (by simp) (by simp), fun s' cs' Dw => (Rl.boxes s' cs' Dw).mono P1 hs (by simp) (by simp), fun i' ob hi => ?_, fun b o' TC => Rl.fresh b o' (by rw [← S.size]; exact TC)⟩
   by_cases Gf : i = i'
   ·subst Gf
    simp only [z4q QI, Option.some.injEq] at hi;subst hi;simp only [RO];obtain ⟨c', e1', e2', e3'⟩ := S.ex;refine ⟨c', TT, f, e1', by rw [z40q]; exact b2, by rw [e2']; exact b2', b3, b4, fun j d' Gd => (b5 j d' Gd).mono hs, fun j d' Gd => ?_⟩
    by_cases hj : idx - pre.length = j
    ·subst hj
     rw [z4q xg] at Gd;simp only [Option.some.injEq] at Gd;subst Gd;have e4 : pre.length + (idx - pre.length) = idx := by omega
     refine ⟨(a.eval v).cells.toList, by simp; omega, fun y q hq => ?_, hRC.mono hs⟩
     have hy : y < sz' := by have := (z0q.1 hq).1; simp at this; omega
     rw [e4, e3', if_pos (by simp; omega), ← hq]
     congr 1
     omega
    ·rw [z1q hj] at Gd
     obtain ⟨us, u1, u2, u3⟩ := b6 j d' Gd;refine ⟨us, u1, fun y q hq => ?_, u3.mono hs⟩
     have hy : y < sz' := by have := (z0q.1 hq).1; omega
     rw [e3', if_neg, u2 y q hq];rintro ⟨c1, c2⟩;simp at c2;have := A7c (sz := sz') (i := idx) (i' := pre.length + j) (j := (pre.length + j) * sz' + y - idx * sz') (j' := y) (by omega) hy (by omega)
     omega
   ·simp only [z1q Gf] at hi
    exact (Rl.Q3 i' ob hi).mono P1 hs (En Rl hi) (by simp; exact fun h => Gf h.symm) (by simp)
  exact Sc (Ml E9 (by rw [e1.2]) hw) (T E _ _ w' H9 (R1.put fun t0 _ => oJ t0) (P1.weaken (by rintro T rfl; simp [J8])) S.out)
 ·simp at H
end
end Go.Su

/-
 THE DATA MACHINE, part 15: maps read and written; parts of results.
-/
namespace Go.Su
theorem yC {P : Program} {t : TypeId} {q : Bool × TypeId} (h : mapKeys P t = some q) : ∃ kt, P.underlying t = some (.map kt q.2) ∧ ((q.1 = false ∧ P.underlying kt = some (.int .i64)) ∨ (q.1 = true ∧ P.underlying kt = some .string)) := by
 unfold mapKeys at h
 split at h
 ·rename_i kt et hu
  split at h <;> simp only [Option.some.injEq, reduceCtorEq] at h <;> subst h
  ·exact ⟨kt, hu, .inl ⟨rfl, ‹_›⟩⟩
  ·exact ⟨kt, hu, .inr ⟨rfl, ‹_›⟩⟩
 ·simp at h
theorem B13 (a b : ByteArray) : (a.toList == b.toList) = (a == b) := (beq_toListBytes a b).symm
theorem A8b {S : Q6} {h : Heap} {ks : Bool} {kd : TypeDesc} (hk : (ks = false ∧ kd = .int .i64) ∨ (ks = true ∧ kd = .string)) {d e : DV} {v u : Value} (hd : isKey ks d = true) (he : isKey ks e = true) (rv : RV S h d v) (ru : RV S h e u) :
 Instr.sameNow kd v u = some (CJ d e) ∧ (CJ d e = true → v = u ∧ d = e) := by
 rcases hk with ⟨rfl, rfl⟩ | ⟨rfl, rfl⟩
 ·cases d <;> simp only [isKey, z7q, z59q, z50q, beq_iff_eq] at hd
  cases e <;> simp only [isKey, z7q, z59q, z50q, beq_iff_eq] at he;rw [B_] at rv ru;subst rv ru hd he;refine ⟨by simp [Instr.sameNow, CJ], fun hq => ?_⟩
  simp only [CJ, beq_iff_eq] at hq;subst hq;exact ⟨rfl, rfl⟩
 ·cases d <;> simp only [isKey, z7q, z64q, z60q] at hd
  cases e <;> simp only [isKey, z7q, z64q, z60q] at he;rw [Xd] at rv ru;subst rv ru;rename_i p q;refine ⟨?_, fun hq => ?_⟩
  ·simp only [Instr.sameNow, CJ, B13]
  ·simp only [CJ, beq_iff_eq, ByteArray.toList_eq] at hq
   have xx : p = q := by
    obtain ⟨⟨p⟩⟩ := p;obtain ⟨⟨q⟩⟩ := q;simpa using hq
   subst xx;exact ⟨rfl, rfl⟩
theorem ny {S : Q6} {h : Heap} {ks : Bool} {kd : TypeDesc} (hk : (ks = false ∧ kd = .int .i64) ∨ (ks = true ∧ kd = .string)) {d : DV} {v : Value} (hd : isKey ks d = true) (rv : RV S h d v) (val : DV) : ∀ (es : List (DV × DV)) (l : List MapEntry) (i : Nat),
 es.length = l.length → (∀ (j : Nat) e n, es[j]? = some e → l[j]? = some n → isKey ks e.1 = true ∧ RV S h e.1 n.key ∧ RV S h e.2 n.val) →
 (Instr.findNow kd v l i = some none ∧ Y7 es d = none ∧ Cm es d val = es ++ [(d, val)]) ∨
 ∃ j e n, es[j]? = some e ∧ l[j]? = some n ∧ Instr.findNow kd v l i = some (some (i + j, n.val)) ∧ Y7 es d = some e.2 ∧ Cm es d val = es.set j (e.1, val) ∧ n.key = v ∧ e.1 = d
 | [], [], i, _, _ => .inl ⟨rfl, rfl, rfl⟩
 | [], _ :: _, _, hl, _ => by simp at hl
 | _ :: _, [], _, hl, _ => by simp at hl
 | e :: es, n :: l, i, hl, oF => by
   obtain ⟨k1, k2, k3⟩ := oF 0 e n rfl rfl;obtain ⟨s1, s2⟩ := A8b hk hd k1 rv k2;cases hq : CJ d e.1 with
   | true =>
     rw [hq] at s1;obtain ⟨q1, q2⟩ := s2 hq;exact .inr ⟨0, e, n, rfl, rfl, by simp [Instr.findNow, s1], by simp [Y7, hq], by simp [Cm, hq], q1.symm, q2.symm⟩
   | false =>
     rw [hq] at s1;have ih := ny hk hd rv val es l (i + 1) (by simpa using hl) (fun j e' n' h1 h2 => oF (j + 1) e' n' (by simpa using h1) (by simpa using h2))
     have f1 : Instr.findNow kd v (n :: l) i = Instr.findNow kd v l (i + 1) := by simp [Instr.findNow, s1]
     have f2 : Y7 (e :: es) d = Y7 es d := by simp [Y7, hq]
     have f3 : Cm (e :: es) d val = e :: Cm es d val := by simp [Cm, hq]
     rcases ih with ⟨g1, g2, g3⟩ | ⟨j, e', n', g1, g2, g3, g4, g5, g6, g7⟩
     ·exact .inl ⟨by rw [f1, g1], by rw [f2, g2], by rw [f3, g3]; rfl⟩
     ·refine .inr ⟨j + 1, e', n', by simpa using g1, by simpa using g2, by rw [f1, g3]; congr 3; omega, by rw [f2, g4], by rw [f3, g5]; rfl, g6, g7⟩
theorem run_checkKey {P : Program} {kt : TypeId} {kd : TypeDesc} (hu : P.underlying kt = some kd) (hk : kd = .int .i64 ∨ kd = .string) (b : Bool) (v : Value) (n : Nat) (w : World) : (Instr.checkKey b (n + 1) kt v).run P w = .ok () w := by
 unfold Instr.checkKey;simp only [Sem.run_bind, run_underlying hu, Result.andThen_ok];rcases hk with rfl | rfl <;> rfl
section
variable {X : Type} {C : X5} {R : N7} {o : Oper} {st : St} {k : St → Option X} {x : X} {E : Env} {a : Act} {w : World} {K : Act → World → Prop} {Q : Exit → Act → World → Prop}
theorem A97 {t : TypeId} {y v : Operand} {ok : Bool} (E9 : o.op = .lookup t y v ok)
 (H : (ob (src C.P t st y) fun r => ob (src C.P 0 st v) fun key => ob (mapKeys C.P t) fun q =>
 ob (A11 C.P q.2) fun ze =>
  og (isKey q.1 key.1 && J3 key.2)
   (match r.2 with
     | .map i => ob (p9 st.sg i) fun p => og (p.1 == q.1)
       (if ok then k (st.put o.dst (.I6 [(Y7 p.2 key.1).getD ze, .bool (Y7 p.2 key.1).isSome]) .val)
       else k (st.put o.dst ((Y7 p.2 key.1).getD ze) .val))
     | _ => none)) = some x) (Rl : J2 E st a w.heap) (T : Then E w k x K) : Gp C.P o a w K := by
 obtain ⟨r, h1, H⟩ := C8 H;obtain ⟨key, h2, H⟩ := C8 H;obtain ⟨q, hq, H⟩ := C8 H;obtain ⟨ze, mR, H⟩ := C8 H;obtain ⟨hc, H⟩ := F8 H;simp only [z13q] at hc;obtain ⟨dM, hkd⟩ := hc;have e1 := Rl.src h1;have e2 := (Rl.src h2).data hkd
 split at H
 ·rename_i i hm
  rw [hm] at e1;simp only [RR, K4] at e1;obtain ⟨p, hp, H⟩ := C8 H;obtain ⟨xx, H⟩ := F8 H;have xx : p.1 = q.1 := by simpa using xx
  have hp := A3C hp;rw [xx] at hp;obtain ⟨ens, clk, b1, b2, ⟨b3, b4⟩, -⟩ := Rl.Q3 i _ hp;obtain ⟨kt, hu, Ja⟩ := yC hq;unfold A11 at mR;obtain ⟨inf, DN, mR⟩ := C8 mR;obtain ⟨zv, Xy, mR⟩ := C8 mR;obtain ⟨zr, hzr, mR⟩ := C8 mR;obtain ⟨hzd, mR⟩ := F8 mR;simp only [Option.some.injEq] at mR;have jZ : ∃ kd, C.P.underlying kt = some kd ∧ ((q.1 = false ∧ kd = .int .i64) ∨ (q.1 = true ∧ kd = .string)) := by
   rcases Ja with ⟨h3, h4⟩ | ⟨h3, h4⟩
   ·exact ⟨_, h4, .inl ⟨h3, rfl⟩⟩
   ·exact ⟨_, h4, .inr ⟨h3, rfl⟩⟩
  obtain ⟨kd, hku, jZ⟩ := jZ;have hz0 : RV E.S w.heap ze zv := by
   rw [← mR];exact (A2I (E := E) (h := w.heap) hzr 0 0).data hzd
  have F := ny jZ dM e2 .undef p.2 ens.toList 0 (by simpa using b3) (fun j e n g1 g2 => b4 j e n g1 (by simpa using g2))
  have fin : ∀ (d : DV) (vv : Value) (bb : Bool), (Y7 p.2 key.1).getD ze = d → (Y7 p.2 key.1).isSome = bb → RV E.S w.heap d vv → (Instr.lookup t (a.eval y) (a.eval v) ok).run C.P w = .ok (if ok then .tuple #[vv, .bool bb] else vv) w → Gp C.P o a w K := by
   intro d vv bb hd hb hR U1;rw [hd, hb] at H;have A5S : (execOp a.eval o).run C.P w = .ok (.value (if ok then .tuple #[vv, .bool bb] else vv)) w := by
    simp only [execOp, E9];exact C_ U1
   cases ok with
   | true =>
     simp only [if_true] at H A5S;refine AA A5S H Rl ?_ @T;simp only [RV];exact ⟨_, rfl, Vs.2 ⟨by simp, fun i d' v' g1 g2 => by
      match i with
      | 0 => simp at g1 g2; subst g1 g2; exact hR
      | 1 => simp at g1 g2; subst g1 g2; rw [Me]
      | n + 2 => simp at g1⟩⟩
   | false =>
     simp only [z7q, if_false] at H A5S;exact AA A5S H Rl hR @T
  have hgo : (getObj (E.obj i)).run C.P w = .ok (.map ens clk) w := by simp [getObj, Sem.run, b1]
  have A6H : kd = .int .i64 ∨ kd = .string := by rcases jZ with h3 | h3 <;> simp [h3.2]
  rcases F with ⟨g1, g2, -⟩ | ⟨j, e, n, g0, g0', g1, g2, -, -, -⟩
  ·refine fin ze zv false (by rw [g2]; rfl) (by rw [g2]; rfl) hz0 ?_
   unfold Instr.lookup;rw [e1.2];have B6Y : (zeroValue q.2).run C.P w = .ok zv w := by simp [zeroValue, typeInfo, DN, Xy]
   simp only [Sem.run_bind, run_underlying hu, Result.andThen_ok, hgo, Sem.run_pure, run_checkKey hku A6H, Instr.findKey, run_underlying hku, g1, B6Y]
  ·obtain ⟨-, -, rv⟩ := b4 j e n g0 (by simpa using g0')
   refine fin e.2 n.val true (by rw [g2]; rfl) (by rw [g2]; rfl) rv ?_
   unfold Instr.lookup;rw [e1.2];simp only [Sem.run_bind, run_underlying hu, Result.andThen_ok, hgo, Sem.run_pure, run_checkKey hku A6H, Instr.findKey, run_underlying hku, g1]
 ·simp at H
theorem A3l {α : Type} (xs : Array α) (j i : Nat) (f : α → α) : (xs.modify j f)[i]? = if j = i then xs[i]?.map f else xs[i]? := by
 rw [z53q]
theorem nE.push {ens : Array MapEntry} {clk : Nat} (h : nE ens clk) (e : MapEntry) (he : e.born = clk) : nE (ens.push e) (clk + 1) := by
 refine ⟨fun j n hn => ?_, fun i j m n hm hn hb => ?_⟩
 ·rw [z38q] at hn
  split at hn
  ·simp only [Option.some.injEq] at hn; subst hn; omega
  ·have := h.1 j n hn; omega
 ·rw [z38q] at hm hn
  split at hm <;> split at hn
  ·omega
  ·simp only [Option.some.injEq] at hm
   subst hm;have := h.1 j n hn;omega
  ·simp only [Option.some.injEq] at hn
   subst hn;have := h.1 i m hm;omega
  ·exact h.2 i j m n hm hn hb
theorem nE.modify {ens : Array MapEntry} {clk : Nat} (h : nE ens clk) (j : Nat) {f : MapEntry → MapEntry} (hf : ∀ e, (f e).born = e.born) : nE (ens.modify j f) clk := by
 have key : ∀ (i : Nat) n, (ens.modify j f)[i]? = some n → ∃ m, ens[i]? = some m ∧ m.born = n.born := by
  intro i n hn;rw [A3l] at hn
  split at hn
  ·cases hm : ens[i]? with
   | none => rw [hm] at hn; cases hn
   | some m =>
     rw [hm] at hn;simp only [z65q, Option.some.injEq] at hn;subst hn;exact ⟨m, rfl, (hf m).symm⟩
  ·exact ⟨n, hn, rfl⟩
 refine ⟨fun i n hn => ?_, fun i k m n hm hn hb => ?_⟩
 ·obtain ⟨m, h1, h2⟩ := key i n hn
  have := h.1 i m h1;omega
 ·obtain ⟨m', h1, h2⟩ := key i m hm
  obtain ⟨n', h3, h4⟩ := key k n hn;exact h.2 i k m' n' h1 h3 (by omega)
theorem A5s {t : TypeId} {y v u : Operand} (E9 : o.op = .mapUpdate t y v u)
 (H : (ob (src C.P t st y) fun r => ob (src C.P 0 st v) fun key => ob (src C.P 0 st u) fun val => ob (mapKeys C.P t) fun q =>
 og (isKey q.1 key.1 && J3 key.2 && J3 val.2)
  (match r.2 with
    | .map i => ob (p9 st.sg i) fun p => og (p.1 == q.1) (k ({ st with sg := st.sg.set i (.map q.1 (Cm p.2 key.1 val.1)) }.put o.dst (.I6 []) .val))
    | _ => none)) = some x) (Rl : J2 E st a w.heap) (T : Then E w k x K) : Gp C.P o a w K := by
 obtain ⟨r, h1, H⟩ := C8 H;obtain ⟨key, h2, H⟩ := C8 H;obtain ⟨val, h3, H⟩ := C8 H;obtain ⟨q, hq, H⟩ := C8 H;obtain ⟨hc, H⟩ := F8 H;simp only [z13q] at hc;obtain ⟨⟨dM, hkd⟩, hvd⟩ := hc;have e1 := Rl.src h1;have e2 := (Rl.src h2).data hkd;have e3 := (Rl.src h3).data hvd
 split at H
 ·rename_i i hm
  rw [hm] at e1;simp only [RR, K4] at e1;obtain ⟨p, hp, H⟩ := C8 H;obtain ⟨xx, H⟩ := F8 H;have xx : p.1 = q.1 := by simpa using xx
  have hp := A3C hp;rw [xx] at hp;obtain ⟨ens, clk, b1, b2, ⟨b3, b4⟩, b5⟩ := Rl.Q3 i _ hp;obtain ⟨kt, hu, Ja⟩ := yC hq;have jZ : ∃ kd, C.P.underlying kt = some kd ∧ ((q.1 = false ∧ kd = .int .i64) ∨ (q.1 = true ∧ kd = .string)) := by
   rcases Ja with ⟨h3, h4⟩ | ⟨h3, h4⟩
   ·exact ⟨_, h4, .inl ⟨h3, rfl⟩⟩
   ·exact ⟨_, h4, .inr ⟨h3, rfl⟩⟩
  obtain ⟨kd, hku, jZ⟩ := jZ;have A6H : kd = .int .i64 ∨ kd = .string := by rcases jZ with h3 | h3 <;> simp [h3.2]
  have F := ny jZ dM e2 val.1 p.2 ens.toList 0 (by simpa using b3) (fun j e n g1 g2 => b4 j e n g1 (by simpa using g2))
  have hgo : (getObj (E.obj i)).run C.P w = .ok (.map ens clk) w := by simp [getObj, Sem.run, b1]
  have B2y : E.obj i < w.heap.size := (z12q.1 b1).1;have QI := (z0q.1 hp).1;have fin : ∀ (ens' : Array MapEntry) (clk' : Nat), B4V E.S w.heap q.1 (Cm p.2 key.1 val.1) ens' → nE ens' clk' → (Instr.mapUpdate t (a.eval y) (a.eval v) (a.eval u)).run C.P w = .ok () { w with heap := w.heap.setIfInBounds (E.obj i) (.map ens' clk') } → Gp C.P o a w K := by
   intro ens' clk' hR hB U1;have A9G : (w.heap.setIfInBounds (E.obj i) (.map ens' clk'))[E.obj i]? = some (.map ens' clk') := z16q B2y;have hold : ∀ b, b ≠ E.obj i → (w.heap.setIfInBounds (E.obj i) (.map ens' clk'))[b]? = w.heap[b]? := fun b hb => z17q (Ne.symm hb)
   have P1 : Pr (fun t => t = .obj i) E w.heap E (w.heap.setIfInBounds (E.obj i) (.map ens' clk')) := by
    refine ⟨by simp, fun b hb => ?_, fun _ _ _ _ => rfl, z20q _, fun _ _ => ⟨rfl, rfl, rfl⟩, fun _ _ => rfl⟩
    by_cases dJ : b = E.obj i
    ·subst dJ
     rw [b1];intro h0;exact absurd (b2 0) h0
    ·rw [hold b dJ]; exact X4.refl _ _
   have hs := P1.shut (by simp) Rl.fresh
   have R1 : J2 E { st with sg := st.sg.set i (.map q.1 (Cm p.2 key.1 val.1)) } a (w.heap.setIfInBounds (E.obj i) (.map ens' clk')) := by
    refine ⟨Rl.size, Rl.Aq, Rl.Cs, by simpa using Rl.n, fun t v hv => (Rl.regs t v hv).mono P1 hs (by simp) (by simp), fun s' cs' Dw => (Rl.boxes s' cs' Dw).mono P1 hs (by simp) (by simp), fun i' ob hi => ?_, fun b o' TC => Rl.fresh b o' (by simpa using TC)⟩
    by_cases Gf : i = i'
    ·subst Gf
     simp only [z4q QI, Option.some.injEq] at hi;subst hi;refine ⟨ens', clk', A9G, b2, ⟨hR.1, fun j e n g1 g2 => ?_⟩, hB⟩
     obtain ⟨c1, c2, c3⟩ := hR.2 j e n g1 g2;exact ⟨c1, c2.mono hs, c3.mono hs⟩
    ·simp only [z1q Gf] at hi
     exact (Rl.Q3 i' ob hi).mono P1 hs (En Rl hi) (by simp; exact fun h => Gf h.symm) (by simp)
   refine Sc (w' := { w with heap := w.heap.setIfInBounds (E.obj i) (.map ens' clk') }) ?_ (T E _ _ { w with heap := w.heap.setIfInBounds (E.obj i) (.map ens' clk') } H (R1.put fun t0 _ => ?_) (P1.weaken (by rintro T rfl; simp [J8])))
   ·simp only [execOp, E9]
    exact B3F U1
   ·simp only [RR, K4, RV]
    exact ⟨#[], rfl, by simp [Pj]⟩
  have B5z : ∀ (ens' : Array MapEntry) (clk' : Nat), (setObj (E.obj i) (.map ens' clk')).run C.P w = .ok () { w with heap := w.heap.setIfInBounds (E.obj i) (.map ens' clk') } := by
   intro ens' clk';simp [setObj, Sem.run, b1]
  rcases F with ⟨g1, g2, g3⟩ | ⟨j, e, n, g0, g0', g1, g2, g3, g4, g5⟩
  ·refine fin (ens.push { key := a.eval v, val := a.eval u, born := clk }) (clk + 1) ?_ (b5.push _ rfl) ?_
   ·rw [g3]
    refine ⟨by simp [b3], fun j e n h1 h2 => ?_⟩
    by_cases hj : j < p.2.length
    ·rw [z5q hj] at h1
     rw [z38q, if_neg (by omega)] at h2
     exact b4 j e n h1 h2
    ·have Pv : j = p.2.length := by have := (z0q.1 h1).1; simp at this; omega
     subst Pv;rw [z6q (z20q _)] at h1;simp only [z66q, z14q, Option.some.injEq] at h1;rw [z38q, if_pos b3] at h2;simp only [Option.some.injEq] at h2;subst h1 h2;exact ⟨dM, e2, e3⟩
   ·unfold Instr.mapUpdate
    rw [e1.2];simp only [Sem.run_bind, run_underlying hu, Result.andThen_ok, hgo, run_checkKey hku A6H, Instr.findKey, run_underlying hku, g1, Sem.run_pure];exact B5z _ _
  ·have hjl : j < ens.size := by have := (z0q.1 g0').1; simpa using this
   have hn : ens[j]? = some n := by simpa using g0'
   refine fin (ens.modify j fun e => { e with key := a.eval v, val := a.eval u }) clk ?_ (b5.modify j fun _ => rfl) ?_
   ·rw [g3]
    refine ⟨by simp [b3], fun j' e' n' h1 h2 => ?_⟩
    rw [A3l] at h2
    by_cases hjj : j = j'
    ·subst hjj
     rw [if_pos rfl, hn] at h2;simp only [z65q, Option.some.injEq] at h2;rw [z4q (z0q.1 g0).1] at h1;simp only [Option.some.injEq] at h1;subst h1 h2;exact ⟨by rw [g5]; exact dM, by rw [g5]; exact e2, e3⟩
    ·rw [if_neg hjj] at h2
     rw [z1q hjj] at h1;exact b4 j' e' n' h1 h2
   ·unfold Instr.mapUpdate
    rw [e1.2];have B6X : (Instr.keyThatStays n.key (a.eval v)).run C.P w = .ok (a.eval v) w := by
     unfold Instr.keyThatStays;have : Instr.sameBits 10000 n.key (a.eval v) = true := by
      rw [g4];rcases jZ with ⟨h3, -⟩ | ⟨h3, -⟩
      ·rw [h3] at dM
       cases hk1 : key.1 <;> rw [hk1] at dM e2 <;> simp only [isKey, z7q, z59q, z50q] at dM;rw [B_] at e2;rw [e2];simp [Instr.sameBits]
      ·rw [h3] at dM
       cases hk1 : key.1 <;> rw [hk1] at dM e2 <;> simp only [isKey, z7q, z64q, z60q] at dM;rw [Xd] at e2;rw [e2];simp only [Instr.sameBits];rw [beq_toListBytes];simp
     rw [if_pos this];rfl
    simp only [Sem.run_bind, run_underlying hu, Result.andThen_ok, hgo, run_checkKey hku A6H, Instr.findKey, run_underlying hku, g1, Sem.run_pure, z15q, hn, z65q, z23q, B6X];exact B5z _ _
 ·simp at H
theorem J2.pG (Rl : J2 E st a w.heap) {t i : Nat} {ms : List Meta} (hm : (st.get t).2 = .Bi ms) (Hd : ms[i]? = some .own) (H7 : t < st.mt.length) {f : Tag → Tag} (hf : ∀ T, T ≠ .sp 0 t (i + 1) → f T = T) :
 J2 (E.re f) { st with mt := st.mt.set t (.Bi (ms.set i .val)) } a w.heap := by
 have FI : f .shut = .shut := hf _ (by simp)
 have OI : f .other = .other := hf _ (by simp)
 have P : Pr (fun T => T = .sp 0 t (i + 1)) E w.heap (E.re f) w.heap := Pr.re fun T hT => hf T hT
 have I9 : X8 E.S w.heap (E.re f).S w.heap := Jq FI;refine ⟨Rl.size, by simpa using Rl.Aq, Rl.Cs, Rl.n, fun u v hu => ?_, fun s cs hs => (Rl.boxes s cs hs).mono P I9 (by simp) (by simp), fun j ob hj => (Rl.Q3 j ob hj).mono P I9 (En Rl hj) (by simp) (by simp), fun b o hb => ?_⟩
 ·have h0 := Rl.regs u v hu
  by_cases hut : t = u
  ·subst hut
   have hg : St.get { st with mt := st.mt.set t (.Bi (ms.set i .val)) } t = ((st.get t).1, .Bi (ms.set i .val)) := by
    simp [St.get, z2q, z4q H7]
   rw [hg];rw [hm] at h0;simp only [RR] at h0 ⊢;obtain ⟨ds, vs, h1, h2, h3, h4, h5⟩ := h0;refine ⟨ds, vs, h1, h2, by simpa using h3, by simpa using h4, fun j m' d' u' e1 e2 e3 => ?_⟩
   by_cases hj : i = j
   ·subst hj
    have hil : i < ms.length := by have := (z0q.1 e1).1; simpa using this
    rw [z4q hil] at e1;simp only [Option.some.injEq] at e1;subst e1;obtain ⟨a0, a4⟩ := h5 i _ d' u' Hd e2 e3;exact ⟨rfl, RV.mono I9 _ a4.1⟩
   ·rw [z1q hj] at e1
    obtain ⟨a0, a4⟩ := h5 j m' d' u' e1 e2 e3;exact ⟨a0, a4.re FI (hf _ (by simp; exact fun h => hj h.symm))⟩
  ·have hg : St.get { st with mt := st.mt.set t (.Bi (ms.set i .val)) } u = st.get u := by
    simp [St.get, z2q, z1q hut]
   rw [hg];exact h0.re FI OI fun b => hf _ (by simp; intro h; exact absurd h.symm hut)
 ·simp only [Env.re]; rw [Rl.fresh b o hb, OI]
theorem A8e {fl : Flags} {y : Operand} {i : Nat} (E9 : o.op = .extract y i)
 (H : (ob (src C.P 0 st y) fun r =>
 match r.2 with
 | .val => ob (O4 i r.1) fun d => k (st.put o.dst d .val)
 | .Bi ms => ob (O4 i r.1) fun d =>
   match ms.getD i .val with
   | .own => if K8 fl.M0 o.dst then k ((st.pG y (.Bi (ms.set i .val))).put o.dst d .own) else k (st.put o.dst d .val)
   | .val => k (st.put o.dst d .val)
   | _ => none
 | _ => none) = some x) (Rl : J2 E st a w.heap) (T : Then E w k x K) : Gp C.P o a w K := by
 obtain ⟨r, h1, H⟩ := C8 H
 split at H
 ·rename_i hm
  obtain ⟨d, hd, H⟩ := C8 H;exact B4I E9 h1 hm hd rfl H Rl @T
 ·rename_i ms hm
  obtain ⟨d, hd, H⟩ := C8 H;have e1 := Rl.src h1;rw [hm] at e1;simp only [RR] at e1;obtain ⟨ds, vs, hr, hv, l1, l2, l3⟩ := e1;obtain ⟨cs, CQ, hdi⟩ := A4L hd;rw [hr] at CQ;simp only [DV.I6.injEq] at CQ;subst CQ;have hi : i < ds.length := (z0q.1 hdi).1;have hmi : ms[i]? = some (ms.getD i .val) := by simp [z2q, z3q (by omega : i < ms.length)]
  have hvi : vs[i]? = some (vs[i]'(by omega)) := z33q (by omega)
  obtain ⟨a0, a4⟩ := l3 i _ d _ hmi hdi hvi;have U1 : (execOp a.eval o).run C.P w = .ok (.value (vs[i]'(by omega))) w := by
   simp only [execOp, E9];refine C_ ?_;simp only [Instr.extract, hv, hvi, Sem.run_pure]
  split at H
  ·rename_i hmo
   rw [hmo] at a4
   by_cases Q7 : K8 fl.M0 o.dst = true
   ·rw [if_pos Q7] at H
    have H2 := H;clear H;have hy : ∃ t, y = .tmp t := by
     cases y with
     | tmp t => exact ⟨t, rfl⟩
     | const v => exact absurd hm (fun h => (Xi h1).2 ms h)
     | func f => simp only [src, Option.some.injEq] at h1; subst h1; simp at hm
     | global g => simp [src] at h1
    obtain ⟨t, rfl⟩ := hy;simp only [src, Option.some.injEq] at h1;subst h1;simp only [mW] at a4;cases II : o.dst with
    | none => rw [II] at Q7; simp [K8] at Q7
    | some t0 =>
      rw [II] at H2;refine Bv U1 ?_;rw [II];have htl : t < st.mt.length := by
       rcases z30q t st.mt.length with h1 | h1
       ·exact h1
       ·rw [gY (by rw [← Rl.Aq]; exact h1) Rl.Aq] at hm; simp at hm
      refine T (E.re (PU (.sp 0 t (i + 1)) t0)) _ _ w H2 ((Rl.pG hm (by rw [hmi, hmo]) htl fun T hT => GX hT).put fun t1 ht => ?_) (Pr.re fun T hT => GX fun he => hT (by rw [he]; simp [J8]))
      simp only [Option.some.injEq] at ht;subst ht;exact RR.Bg (a4.re (GX (by simp)) (by simp [PU]))
   ·rw [if_neg Q7] at H
    exact AA U1 H Rl a4.1 @T
  ·rename_i hmo
   rw [hmo] at a4;exact AA U1 H Rl a4 @T
  ·simp at H
 ·simp at H
end
end Go.Su

/-
 THE DATA MACHINE, part 16: append.
-/
namespace Go.Su
def Jt (S : Q6) (h : Heap) (sz : Nat) (ds : List DV) (all : List Value) : Prop :=
 all.length = ds.length * sz ∧ ∀ (i : Nat) d, ds[i]? = some d → ∃ vs : List Value, vs.length = sz ∧ (∀ (j : Nat) u, vs[j]? = some u → all[i * sz + j]? = some u) ∧ RC S h d vs
theorem Jt.mono {S S' : Q6} {h h' : Heap} (I9 : X8 S h S' h') {sz : Nat} {ds : List DV} {all : List Value} (H : Jt S h sz ds all) : Jt S' h' sz ds all :=
 ⟨H.1, fun i d hd => let ⟨vs, v1, v2, v3⟩ := H.2 i d hd; ⟨vs, v1, v2, v3.mono I9⟩⟩
theorem tJ {S : Q6} {h : Heap} {sz b : Nat} : ∀ {ds : List DV} {o : Nat}, Dh S h sz b o ds → ∃ all, Jt S h sz ds all ∧ ∀ (j : Nat) u, all[j]? = some u → hc h b (o + j) = some u ∧ S b (o + j)
 | [], o, _ => ⟨[], ⟨by simp, by simp⟩, by simp⟩
 | d :: ds, o, H => by
   simp only [Dh] at H;obtain ⟨⟨vs, v1, v2, v3⟩, H⟩ := H;obtain ⟨all, ⟨l1, l2⟩, l3⟩ := tJ H;refine ⟨vs ++ all, ⟨by simp [l1, v1, z34q]; omega, fun i d' hd => ?_⟩, fun j u hu => ?_⟩
   ·cases i with
    | zero =>
      simp only [z14q, Option.some.injEq] at hd;subst hd;refine ⟨vs, v1, fun j u hu => ?_, v3⟩
      rw [z45q, z15q, z5q (z0q.1 hu).1];exact hu
    | succ i =>
      simp only [z22q] at hd;obtain ⟨us, u1, u2, u3⟩ := l2 i d' hd;refine ⟨us, u1, fun j u hu => ?_, u3⟩
      rw [z6q (by rw [v1, z34q]; omega), v1]
      rw [show (i + 1) * sz + j - sz = i * sz + j from by rw [z34q]; omega]
      exact u2 j u hu
   ·by_cases hj : j < vs.length
    ·rw [z5q hj] at hu
     exact v2 j u hu
    ·rw [z6q (by omega)] at hu
     have := l3 _ u hu
     rwa [show o + sz + (j - vs.length) = o + j from by omega] at this
theorem qI {S : Q6} {h : Heap} {sz b o : Nat} {ds : List DV} {all : List Value} (H : Jt S h sz ds all) (hc : ∀ (j : Nat) u, all[j]? = some u → Su.hc h b (o + j) = some u ∧ S b (o + j)) : Dh S h sz b o ds := by
 refine Dc.2 fun i d hd => ?_
 obtain ⟨vs, v1, v2, v3⟩ := H.2 i d hd;refine ⟨vs, v1, fun j u hu => ?_, v3⟩
 have := hc _ u (v2 j u hu)
 rwa [← z61q] at this
theorem Jt.append {S : Q6} {h : Heap} {sz : Nat} {ds es : List DV} {A B : List Value} (H : Jt S h sz ds A) (G : Jt S h sz es B) : Jt S h sz (ds ++ es) (A ++ B) := by
 refine ⟨by simp [H.1, G.1, z32q], fun i d hd => ?_⟩
 by_cases hi : i < ds.length
 ·rw [z5q hi] at hd
  obtain ⟨vs, v1, v2, v3⟩ := H.2 i d hd;refine ⟨vs, v1, fun j u hu => ?_, v3⟩
  have hj : j < sz := by have := (z0q.1 hu).1; omega
  have := seg_lt hi hj;rw [z5q (by rw [H.1]; exact this)]
  exact v2 j u hu
 ·rw [z6q (by omega)] at hd
  obtain ⟨vs, v1, v2, v3⟩ := G.2 _ d hd;refine ⟨vs, v1, fun j u hu => ?_, v3⟩
  have e : i * sz + j = ds.length * sz + ((i - ds.length) * sz + j) := by
   rw [← z61q, ← z32q]
   congr 2
   omega
  rw [e, ← H.1, z6q (by omega), Nat.add_sub_cancel_left]
  exact v2 j u hu
theorem Jt.one {S : Q6} {h : Heap} {sz : Nat} (hs : 0 < sz) {ds : List DV} {all : List Value} (H : Jt S h sz ds all) : ∀ u ∈ all, u.oneCell' = true := by
 intro u hu;obtain ⟨j, hj, xh⟩ := z24q.1 hu;have H7 : j < ds.length * sz := by rw [← H.1]; exact hj
 have hi : j / sz < ds.length := (Nat.div_lt_iff_lt_mul hs).2 H7;obtain ⟨vs, v1, v2, v3⟩ := H.2 (j / sz) _ (z3q hi);have hm : j % sz < vs.length := by rw [v1]; exact Nat.mod_lt _ hs
 have h1 := v2 (j % sz) _ (z3q hm);rw [Nat.mul_comm, Nat.div_add_mod, z3q hj, xh] at h1;simp only [Option.some.injEq] at h1;obtain ⟨q1, q2⟩ := Md v3 (z3q hm);rw [h1];exact Gx q1 q2
theorem A4V (n : Nat) : ∀ (r c : Nat), c < n + 1 → Builtin.growBy n r c ≤ 2 * n + 192
 | 0, c, h => by simp [Builtin.growBy]; omega
 | r + 1, c, h => by
   simp only [Builtin.growBy]
   split
   ·omega
   ·rename_i H7
    by_cases h2 : c + (c + 768) / 4 < n + 1
    ·exact A4V n r _ h2
    ·cases r with
     | zero => simp only [Builtin.growBy]; omega
     | succ r =>
       simp only [Builtin.growBy];rw [if_pos (by omega)]
       omega
theorem A9R {need old : Nat} (h : old < need) : Builtin.nextslicecap need old ≤ 2 * need + 192 := by
 unfold Builtin.nextslicecap
 split
 ·omega
 ·split
  ·omega
  ·exact A4V need 4 old (by omega)
theorem A2A {P : Program} {t u : TypeId} {sz : Nat} (h : A9c P t u = some sz) : ∃ e e' z i zv, P.underlying t = some (.slice e) ∧ P.underlying u = some (.slice e') ∧ tz P e = some z ∧ z.1 = sz ∧ 0 < sz ∧ P.info? e = some i ∧ i.bytes ≤ 2 ^ 14 ∧ i.zero = some zv ∧ zv.cells.size = sz := by
 unfold A9c at h;obtain ⟨e, he, h⟩ := C8 h;obtain ⟨e', he', h⟩ := C8 h;obtain ⟨z, hz, h⟩ := C8 h;obtain ⟨i, hi, h⟩ := C8 h;obtain ⟨zs, dR, h⟩ := C8 h;obtain ⟨⟨h1, h2, h3⟩, h⟩ := M3 h;simp only [Option.some.injEq] at h;have ht : ∀ {t e : TypeId}, NK P t = some e → P.underlying t = some (.slice e) := by
  intro t e he;unfold NK at he
  split at he
  ·simp only [Option.some.injEq] at he; subst he; assumption
  ·simp at he
 obtain ⟨inf, zv, DN, Xy, AU⟩ := Qv dR;rw [hi] at DN;simp only [Option.some.injEq] at DN;subst DN;have := (AU ⟨fun _ => 0, fun _ => 0, fun _ => 0, fun _ => 0, fun _ _ => .other, 0⟩ #[]).1
 simp only [z62q] at this;exact ⟨e, e', z, i, zv, ht he, ht he', hz, h, by omega, hi, h2, Xy, by omega⟩
theorem B0B {sz : Nat} {d e r : DV} (h : R8 sz d e = some r) : ∃ ds es, d = .list sz ds ∧ e = .list sz es ∧ ds.length + es.length ≤ lim ∧ r = .list sz (ds ++ es) := by
 unfold R8 at h
 split at h
 ·obtain ⟨⟨⟨h1, h2⟩, h3⟩, h⟩ := M3 h
  simp only [Option.some.injEq] at h;subst h1 h2;exact ⟨_, _, rfl, rfl, h3, h.symm⟩
 ·simp at h
theorem B4z (st : St) (t : Nat) (d d' : DV) (m m' : Meta) : (st.put (some t) d m).put (some t) d' m' = st.put (some t) d' m' := by
 simp [St.put, z71q]
theorem A0z (a : Act) (t : Nat) (v v' : Value) : (a.put (some t) v).put (some t) v' = a.put (some t) v' := by
 have : (a.tmps.setIfInBounds t v).setIfInBounds t v' = a.tmps.setIfInBounds t v' := by
  apply Array.ext_getElem?;intro i
  by_cases h : t = i
  ·subst h
   by_cases hl : t < a.tmps.size
   ·rw [z16q (by simpa using hl), z16q hl]
   ·rw [z51q (by simpa using hl), z51q (by simpa using hl)]
  ·rw [z17q h, z17q h, z17q h]
 simp [Act.put, this]
section
variable {P : Program} {t u ty e e' : TypeId} {inf : TypeInfo} {w : World} {b : Option Addr} {len cap n sz : Nat} {v : Value} {all' : List Value}
theorem A3B (hu : P.underlying t = some (.slice e)) (Px : P.underlying u = some (.slice e')) (DN : P.info? e = some inf) (hn : Builtin.lenOf v = pure n) (hv : (Builtin.firstCells inf.size n v).run P w = .ok all'.toArray w)
 (EZ : len + n ≤ cap) : (Builtin.append_ #[t, u] ty #[.slice none len cap, v]).run P w = .ok (.slice none (len + n) cap) w := by
 unfold Builtin.append_;simp [run_underlying hu, run_underlying Px, sizeOf, typeInfo, DN, hn, EZ, hv]
theorem VM {y : Addr} {w' : World} (hu : P.underlying t = some (.slice e)) (Px : P.underlying u = some (.slice e')) (DN : P.info? e = some inf) (hn : Builtin.lenOf v = pure n) (hv : (Builtin.firstCells inf.size n v).run P w = .ok all'.toArray w)
 (EZ : len + n ≤ cap) (Q7 : (storeCells (y.add (len * inf.size)) all').run P w = .ok () w') : (Builtin.append_ #[t, u] ty #[.slice (some y) len cap, v]).run P w = .ok (.slice (some y) (len + n) cap) w' := by
 unfold Builtin.append_;simp [run_underlying hu, run_underlying Px, sizeOf, typeInfo, DN, hn, EZ, hv, Q7]
theorem run_append_grow {zv : Value} {all : List Value} (hu : P.underlying t = some (.slice e)) (Px : P.underlying u = some (.slice e')) (DN : P.info? e = some inf) (hn : Builtin.lenOf v = pure n) (hv : ∀ w' : World, w'.heap = w.heap → (Builtin.firstCells inf.size n v).run P w' = .ok all'.toArray w')
 (hs : ∀ w' : World, w'.heap = w.heap → (Builtin.firstCells inf.size len (.slice b len cap)).run P w' = .ok all.toArray w') (Xy : inf.zero = some zv) (EZ : ¬ len + n ≤ cap) (B04 : len + n ≤ 4294967296) (hb : inf.bytes ≤ 2 ^ 14) :
 ∃ nc, len + n ≤ nc ∧ (Builtin.append_ #[t, u] ty #[.slice b len cap, v]).run P w = .ok (.slice (some ⟨w.heap.size, 0, none⟩) (len + n) nc) (w.drew.alloc (.cells (all ++ all' ++ (Builtin.zeroCells zv.cells (nc - (len + n))).toList).toArray e)) := by
 refine ⟨(Question.appendCap (len + n) cap e).cut (w.tape w.drawn (Question.appendCap (len + n) cap e)), by simp only [Question.cut]; omega, ?_⟩
 have A35 : Builtin.nextslicecap (len + n) cap * inf.bytes ≤ 2 ^ 48 := by
  have h1 := A9R (need := len + n) (old := cap) (by omega)
  calc Builtin.nextslicecap (len + n) cap * inf.bytes ≤ (2 * 4294967296 + 192) * 2 ^ 14 := Nat.mul_le_mul (by omega) hb
   _ ≤ 2 ^ 48 := by decide
 have B8R : ¬ (((len + n : Nat) : Int) > IntKind.i64.max) := by rw [IntKind.max_i64]; omega
 have B6Q : ¬ (Builtin.nextslicecap (len + n) cap * inf.bytes > 2 ^ 48) := by omega
 have q1 := hs w.drew rfl;have q2 := hv w.drew rfl;unfold Builtin.append_;have B6U : ¬ ((9223372036854775807 : Int) < (len : Int) + (n : Int)) := by omega
 simp [run_underlying hu, run_underlying Px, sizeOf, typeInfo, DN, hn, EZ, B6U, B6Q, Question.forced, q1, q2, zeroValue, Xy, newRow];refine congrArg (fun z => w.drew.alloc (.cells z e)) (Array.toList_inj.1 ?_)
 simp
end
section
variable {X : Type} {C : X5} {R : N7} {o : Oper} {st : St} {k : St → Option X} {x : X} {E : Env} {a : Act} {w : World} {K : Act → World → Prop} {Q : Exit → Act → World → Prop}
theorem A4b {P : Program} {b o' : Nat} {all : List Value} (H : ∀ (j : Nat) u, all[j]? = some u → hc w.heap b (o' + j) = some u) : (loadCells ⟨b, o', none⟩ all.length).run P w = .ok all.toArray w := by
 refine run_loadCells_list w _ all fun j v hv => ?_
 rw [Addr.add_lit, KO];exact H j v hv
theorem Zc {P : Program} {S : Q6} {sz : Nat} {ds : List DV} {v : Value} (H : RV S w.heap (.list sz ds) v) : ∃ b len cap all, v = .slice b len cap ∧ len = ds.length ∧ len ≤ cap ∧ (b = none → cap = 0) ∧ Jt S w.heap sz ds all ∧
 (∀ y, b = some y → (0 < cap → y = ⟨y.block, y.off, none⟩) ∧ ∀ (j : Nat) u, all[j]? = some u → hc w.heap y.block (y.off + j) = some u ∧ S y.block (y.off + j)) ∧ (b = none → all = []) ∧
 ∀ w' : World, w'.heap = w.heap → (Builtin.firstCells sz len v).run P w' = .ok all.toArray w' := by
 obtain ⟨b, len, cap, rfl, h1, h2, h3, h4, h5⟩ := Sj H;cases b with
 | none =>
   have h0 := h3 rfl;have xe : ds = [] := z21q (by omega)
   subst xe;exact ⟨none, len, cap, [], rfl, h1, h2, h3, ⟨by simp, by simp⟩, by simp, fun _ => rfl, fun w' _ => rfl⟩
 | some y =>
   obtain ⟨s1, s2⟩ := h5 y rfl;obtain ⟨all, f1, f2⟩ := tJ s2;have hy : 0 < cap → y = ⟨y.block, y.off, none⟩ := fun hc => by have s1 := s1 hc; cases y; simp only at s1; subst s1; rfl
   refine ⟨some y, len, cap, all, rfl, h1, h2, h3, f1, fun z hz => ?_, by simp, fun w' hw => ?_⟩
   ·simp only [Option.some.injEq] at hz
    subst hz;exact ⟨hy, f2⟩
   ·have hl : len * sz = all.length := by rw [f1.1, h1]
    show (loadCells y (len * sz)).run P w' = _
    by_cases hc : 0 < cap
    ·rw [hl, hy hc]
     exact A4b (fun j u hu => by rw [hw]; exact (f2 j u hu).1)
    ·have h0 : len = 0 := by omega
     have h9 : all = [] := z21q (by rw [← hl, h0]; simp)
     rw [h9, h0, z45q];rfl
def Env.Ws (E : Env) (b lo hi : Nat) : Env := { E with O := fun b' o => if b' = b ∧ lo ≤ o ∧ o < hi then .shut else E.O b' o }
def Env.newRow (E : Env) (b lo hi : Nat) (tg : Tag) : Env := { E with O := fun b' o => if b' = b then (if o < lo then .shut else if o < hi then tg else .other) else E.O b' o }
theorem A96 {fl : Flags} {c : Call} {y v : Operand} {t u : TypeId} (E9 : o.op = .call c) (B2z : c.callee = .builtin .append) (ha : c.args.toList = [y, v]) (ht : c.argTypes.toList = [t, u]) (gm : K8 fl.opn o.dst = false) (H : JK C fl o y v t u st k = some x)
 (Rl : J2 E st a w.heap) (T : Then E w k x K) : Gp C.P o a w K := by
 unfold JK at H;obtain ⟨r, h1, H⟩ := C8 H;obtain ⟨s, h2, H⟩ := C8 H;obtain ⟨sz, Y9, H⟩ := C8 H;obtain ⟨hc, H⟩ := F8 H;rw [if_neg (by rw [gm]; simp)] at H
 obtain ⟨d, hd, H⟩ := C8 H;simp only [z13q] at hc;obtain ⟨⟨Lt, jY⟩, II⟩ := hc;obtain ⟨t0, II⟩ := z39q.1 II;obtain ⟨e, e', z, inf, zv, hu, Px, hz, Jc, hpos, DN, A6E, Xy, dR⟩ := A2A Y9;obtain ⟨ds, es, hr, hs, A1J, rfl⟩ := B0B hd;have e1 := Rl.src h1;have e2 := (Rl.src h2).data jY;have e1d : RV E.S w.heap r.1 (a.eval y) := e1.data (by revert Lt; cases r.2 <;> simp [Kk, J3])
 rw [hr] at e1d;rw [hs] at e2;obtain ⟨b, len, cap, all, ev, f1, f2, f3, f4, f5, f6, f7⟩ := Zc (P := C.P) e1d;obtain ⟨b', len', cap', all', ev', g1, g2, g3, g4, g5, g6, g7⟩ := Zc (P := C.P) e2;have OH : inf.size = sz := by
  obtain ⟨i', d', q1, -, q2, -⟩ := IU hz;rw [DN] at q1;simp only [Option.some.injEq] at q1;rw [← Jc, q2, q1]
 have U1 : ∀ v' w', (Builtin.append_ #[t, u] o.type #[a.eval y, a.eval v]).run C.P w = .ok v' w' → (execOp a.eval o).run C.P w = .ok (.value v') w' := by
  intro v' w' hv;refine KM E9 B2z ?_;rw [aA ht, show c.args.map a.eval = #[a.eval y, a.eval v] from by rw [aA ha]; simp]
  exact C_ hv
 rw [II] at H;have dN : Builtin.lenOf (a.eval v) = pure len' := by rw [ev']; rfl
 have B04 : ds.length + es.length ≤ 4294967296 := A1J;have dO := g4.one hpos
 by_cases EZ : len + len' ≤ cap
 ·-- it fits: the slice's own memory is written
  have R0 := Rl.release (x := y) (f := Bl y 0 t0 0) fun T hT => Ev hT
  have P0 : Pr J8 E w.heap (E.re (Bl y 0 t0 0)) w.heap := Pr.re fun T hT => Ev fun t b _ he => hT (by rw [he]; simp [J8])
  have oH : X8 E.S w.heap (E.re (Bl y 0 t0 0)).S w.heap := Jq (Ev (by simp))
  have hsp : ∀ p, b = some p → len < cap → ∃ cc TT f, w.heap[p.block]? = some (.cells cc TT f) ∧ p.off + cap * sz ≤ cc.size ∧
   ∀ o', p.off + len * sz ≤ o' → o' < p.off + cap * sz → (E.re (Bl y 0 t0 0)).O p.block o' = .sp 0 t0 0 ∧ ¬(f.1 ≤ o' ∧ o' < f.2) := by
   intro p hp H7;subst hp;have Hd : r.2 = .own := by
    revert Lt e1
    cases r.2 <;> intro Lt e1 <;> simp only [Kk, z7q] at Lt
    ·simp only [RR, K4] at e1
     obtain ⟨-, ⟨q, n, hq⟩, -⟩ := e1;rw [ev] at hq;simp only [Value.slice.injEq] at hq;omega
    ·rfl
   rw [Hd] at e1;simp only [RR, K4] at e1;obtain ⟨-, sz', ds', hl, hS⟩ := e1;rw [hr] at hl;simp only [DV.list.injEq] at hl;obtain ⟨cc, TT, f, c1, c2, c3⟩ := hS p len cap ev H7;rw [← hl.1] at c2 c3;refine ⟨cc, TT, f, c1, c2, fun o' h3 h4 => ?_⟩
   obtain ⟨c4, c5⟩ := c3 o' h3 h4;refine ⟨?_, c5⟩;have hy : ∃ i, y = .tmp i := by
    cases y with
    | tmp i => exact ⟨i, rfl⟩
    | const v => exact absurd Hd (Xi h1).1
    | func f => simp only [src, Option.some.injEq] at h1; subst h1; simp at Hd
    | global g => simp [src] at h1
   obtain ⟨i, rfl⟩ := hy;simp only [Env.re];rw [c4];simp [Bl, mW]
  by_cases hn : len' = 0
  ·-- nothing is appended
   have hes : es = [] := z21q (by omega)
   have B6N : all' = [] := z21q (by rw [g4.1, hes]; simp)
   have CQ : (Builtin.append_ #[t, u] o.type #[a.eval y, a.eval v]).run C.P w = .ok (.slice b (len + len') cap) w := by
    rw [ev];cases b with
    | none => exact A3B hu Px DN dN (by rw [OH]; exact g7 w rfl) EZ
    | some p => exact VM hu Px DN dN (by rw [OH]; exact g7 w rfl) EZ (by rw [B6N]; rfl)
   refine Bv (U1 _ _ CQ) (T _ _ _ w H ?_ P0);rw [II];refine R0.put fun t1 mM => ?_
   simp only [Option.some.injEq] at mM;subst mM;rw [hes, z41q, hn, z35q, ← ev];refine RR.Bg ⟨e1d.mono oH, _, _, rfl, fun p len1 cap1 hq H7 => ?_⟩
   rw [ev] at hq;simp only [Value.slice.injEq] at hq;obtain ⟨rfl, rfl, rfl⟩ := hq;exact hsp p rfl H7
  ·-- the cells behind are written, and sealed
   cases b with
   | none => have := f3 rfl; omega
   | some p =>
     obtain ⟨hp, -⟩ := f5 p rfl;have hp := hp (by omega)
     obtain ⟨cc, TT, f, c1, c2, c3⟩ := hsp p rfl (by omega)
     have B6T : all'.length = len' * sz := by rw [g4.1, g1]
     have hmul : (len + len') * sz ≤ cap * sz := z8q _ EZ;have A5R : (len + len') * sz = len * sz + len' * sz := z32q _ _ _;have B6W : 0 < len' * sz := Nat.mul_pos (by omega) hpos
     obtain ⟨w', hw, S⟩ := Kt (P := C.P) (b := p.block) (T := TT) (f := f) (p.off + len * sz) all' cc 0 w c1 (by omega) dO (fun o' h3 h4 => (c3 o' (by omega) (by omega)).2)
     have CQ : (Builtin.append_ #[t, u] o.type #[a.eval y, a.eval v]).run C.P w = .ok (.slice (some p) (len + len') cap) w' := by
      rw [ev];refine VM hu Px DN dN (by rw [OH]; exact g7 w rfl) EZ ?_
      rw [OH, hp, Addr.add_lit];exact hw
     simp only [z35q] at S;have R1 : J2 (E.re (Bl y 0 t0 0)) ((st.release y).put (some t0) .undef .val) (a.put (some t0) (.slice (some p) (len + len') cap)) w.heap := R0.put fun t1 _ => by simp only [RR, K4, RV]
     have PS : Pr (fun T => T = .sp 0 t0 0) (E.re (Bl y 0 t0 0)) w.heap ((E.re (Bl y 0 t0 0)).Ws p.block (p.off + len * sz) (p.off + len * sz + len' * sz)) w'.heap := by
      refine ⟨z49q S.size.symm, fun b1 VA => ?_, fun b1 o1 VA hT => ?_, z20q _, fun _ _ => ⟨rfl, rfl, rfl⟩, fun _ _ => rfl⟩
      ·by_cases dJ : b1 = p.block
       ·subst dJ
        rw [c1];obtain ⟨c', q1, q2, q3⟩ := S.ex;refine ⟨c', q1, q2, fun j hj => ?_⟩
        rw [q3 j, if_neg];rintro ⟨q4, q5⟩;exact hj (c3 j q4 (by omega)).1
       ·rw [S.rest b1 dJ]; exact X4.refl _ _
      ·simp only [Env.Ws]
       rw [if_neg];rintro ⟨rfl, q4, q5⟩;exact hT (c3 o1 q4 (by omega)).1
     have Cj := PS.shut (by simp) R1.fresh
     have R2 : J2 ((E.re (Bl y 0 t0 0)).Ws p.block (p.off + len * sz) (p.off + len * sz + len' * sz)) ((st.release y).put (some t0) .undef .val) (a.put (some t0) (.slice (some p) (len + len') cap)) w'.heap := by
      refine ⟨R1.size, R1.Aq, R1.Cs, R1.n, fun q vq hq => ?_, fun s' cs' Dw => (R1.boxes s' cs' Dw).mono PS Cj (by simp) (by simp), fun i' ob hi => (R1.Q3 i' ob hi).mono PS Cj (by rw [← R1.n]; exact (z0q.1 hi).1) (by simp) (by simp), fun b1 o1 VA => ?_⟩
      ·have h0 := R1.regs q vq hq
       by_cases hqt : t0 = q
       ·subst hqt
        have B2D : t0 < (st.release y).tm.length := by
         have := (z12q.1 hq).1;rw [aj] at this;rw [← R0.size]; exact this
        rw [VJ B2D R0.Aq];simp only [RR, K4, RV]
       ·exact h0.mono PS Cj (by simp; exact fun hh => absurd hh.symm hqt) (by simp)
      ·have VB : w.heap.size ≤ b1 := by rw [← S.size]; exact VA
       simp only [Env.Ws];rw [if_neg]
       ·exact R1.fresh b1 o1 VB
       ·rintro ⟨rfl, -⟩
        have := (z12q.1 c1).1;omega
     have B5r : RR ((E.re (Bl y 0 t0 0)).Ws p.block (p.off + len * sz) (p.off + len * sz + len' * sz)) w'.heap 0 t0 (.list sz (ds ++ es)) .own (.slice (some p) (len + len') cap) := by
      refine RR.Bg ⟨?_, _, _, rfl, fun p1 len1 cap1 hq H7 => ?_⟩
      ·have B8w := oH
       refine Tz (by simp; omega) EZ (by simp) (fun _ => hpos) fun p1 hp1 => ?_
       simp only [Option.some.injEq] at hp1;subst hp1;refine ⟨fun _ => by rw [hp], qI (((f4.mono oH).mono Cj).append ((g4.mono oH).mono Cj)) fun j q hq => ?_⟩
       by_cases hj : j < all.length
       ·rw [z5q hj] at hq
        obtain ⟨q1, q2⟩ := (f5 p rfl).2 j q hq;exact ⟨Cj.c _ _ _ (oH.s _ _ q2) q1, Cj.s _ _ (oH.s _ _ q2)⟩
       ·rw [z6q (by omega)] at hq
        have hal : all.length = len * sz := by rw [f4.1, f1]
        have hjl : j - all.length < all'.length := (z0q.1 hq).1;obtain ⟨c', q1, q2, q3⟩ := S.ex;constructor
        ·unfold hc
         rw [q1]
         show c'[p.off + j]? = some q
         rw [q3, if_pos (by omega), ← hq]
         congr 1
         omega
        ·simp only [Env.S, Env.Ws]
         rw [if_pos (by refine ⟨trivial, ?_, ?_⟩ <;> omega)]
      ·simp only [Value.slice.injEq, Option.some.injEq] at hq
       obtain ⟨rfl, rfl, rfl⟩ := hq;obtain ⟨c', q1, q2, q3⟩ := S.ex;refine ⟨c', TT, f, q1, by rw [q2]; exact c2, fun o' h3 h4 => ?_⟩
       rw [A5R] at h3;obtain ⟨c4, c5⟩ := c3 o' (by omega) h4
       refine ⟨?_, c5⟩;simp only [Env.Ws];rw [if_neg (by omega)]
       exact c4
     refine Bv (U1 _ _ CQ) (T _ _ _ w' H ?_ (P0.trans (PS.weaken (by rintro T rfl; simp [J8]))) S.out)
     rw [II];have R3 := R2.put (dst := some t0) (d := .list sz (ds ++ es)) (m := .own) (v := .slice (some p) (len + len') cap) fun t1 mM => by
      simp only [Option.some.injEq] at mM;subst mM;exact B5r
     rwa [B4z, A0z] at R3
 ·-- a new block
  obtain ⟨nc, hnc, CQ⟩ := run_append_grow (ty := o.type) (b := b) hu Px DN dN (by rw [OH]; exact g7) (by rw [OH, ← ev]; exact f7) Xy EZ (by omega) A6E
  rw [← ev] at CQ;have hal : all.length = len * sz := by rw [f4.1, f1]
  have B7O : all'.length = len' * sz := by rw [g4.1, g1]
  have Hf : (Builtin.zeroCells zv.cells (nc - (len + len'))).toList.length = (nc - (len + len')) * sz := by simp [Builtin.zeroCells, dR]
  have B79 : (len + len') * sz + (nc - (len + len')) * sz = nc * sz := by rw [← z32q]; congr 1; omega
  have A5R : (len + len') * sz = len * sz + len' * sz := z32q _ _ _;generalize hzc : (Builtin.zeroCells zv.cells (nc - (len + len'))).toList = zc at CQ Hf;have P1 : Pr (fun _ => False) E w.heap (E.newRow w.heap.size ((len + len') * sz) (nc * sz) (.sp 0 t0 0)) (w.heap.push (.cells (all ++ all' ++ zc).toArray e)) := by
   refine Pr.push (fun b1 o1 VA _ => ?_) (z20q _) (fun _ _ => ⟨rfl, rfl, rfl⟩) (fun _ _ => rfl)
   simp only [Env.newRow]; rw [if_neg (by omega)]
  have Cj := P1.shut (by simp) Rl.fresh
  have R0 : J2 E (st.release y) a w.heap := Rl.release (x := y) (f := id) fun _ _ => rfl
  have R1 := R0.push P1 rfl fun b1 o1 VA => by
   simp only [z73q] at VA;simp only [Env.newRow]; rw [if_neg (by omega)]
   exact Rl.fresh b1 o1 (by omega)
  refine Bv (U1 _ _ CQ) (T _ _ _ (w.drew.alloc (.cells (all ++ all' ++ zc).toArray e)) H ?_ (P1.weaken (by simp)))
  rw [II];refine R1.put fun t1 mM => ?_
  simp only [Option.some.injEq] at mM;subst mM;have Jo : ∀ (j : Nat), hc (w.heap.push (.cells (all ++ all' ++ zc).toArray e)) w.heap.size j = (all ++ all' ++ zc)[j]? := fun j => by rw [A29]; simp
  refine RR.Bg ⟨?_, _, _, rfl, fun p1 len1 cap1 hq H7 => ?_⟩
  ·refine Tz (by simp; omega) hnc (by simp) (fun _ => hpos) fun p1 hp1 => ?_
   simp only [Option.some.injEq] at hp1;subst hp1;refine ⟨fun _ => rfl, qI ((f4.mono Cj).append (g4.mono Cj)) fun j q hq => ?_⟩
   have hj : j < (all ++ all').length := (z0q.1 hq).1;have EH : j < (len + len') * sz := by simp at hj; omega
   constructor
   ·show hc _ w.heap.size (0 + j) = _
    rw [z15q, Jo, z5q hj];exact hq
   ·simp only [Env.S, Env.newRow, z15q, if_true]
    rw [if_pos EH]
  ·simp only [Value.slice.injEq, Option.some.injEq] at hq
   obtain ⟨rfl, rfl, rfl⟩ := hq;refine ⟨_, e, (0, 0), SV, by simp; omega, fun o' h3 h4 => ⟨?_, by simp⟩⟩
   simp only [z15q] at h3 h4;simp only [Env.newRow, if_true];rw [if_neg (by omega), if_pos h4]
end
end Go.Su

/-
 THE DATA MACHINE: slices whose last elements are open.
-/
namespace Go.Su
theorem A9k {sz : Nat} {d e : DV} {p : List DV × List DV} (h : A9j sz d e = some p) : ∃ ds es, d = .list sz ds ∧ e = .list sz es ∧ ds.length + es.length ≤ lim ∧ 0 < es.length ∧ p = (ds, es) := by
 unfold A9j at h
 split at h
 ·obtain ⟨⟨⟨h1, h2⟩, h3, h4⟩, h9⟩ := M3 h
  simp only [Option.some.injEq] at h9;subst h1 h2;exact ⟨_, _, rfl, rfl, h3, h4, h9.symm⟩
 ·simp at h
def Env.B5X (E : Env) (b off lo hi : Nat) : Env :=
 { E with obj := fun i => if i = E.n then b else E.obj i, base := fun i => if i = E.n then off else E.base i, top := fun i => if i = E.n then hi else E.top i, n := E.n + 1,
          O := fun b' o => if b' = b ∧ lo ≤ o ∧ o < hi then .obj E.n else E.O b' o }
def Env.B5W (E : Env) (b lo hi : Nat) : Env :=
 { E with obj := fun i => if i = E.n then b else E.obj i, base := fun i => if i = E.n then 0 else E.base i, top := fun i => if i = E.n then hi else E.top i, n := E.n + 1,
          O := fun b' o => if b' = b then (if o < lo then .shut else if o < hi then .obj E.n else .other) else E.O b' o }
section
variable {X : Type} {C : X5} {R : N7} {o : Oper} {st : St} {k : St → Option X} {x : X} {E : Env} {a : Act} {w : World} {K : Act → World → Prop} {Q : Exit → Act → World → Prop}
theorem B1n {E : Env} {h : Heap} {i b off cap sz : Nat} {ds es : List DV} {all' : List Value} {c : Array Value} {T : TypeId} {f : Nat × Nat} (ho : E.obj i = b) (hb : E.base i = off) (ht : E.top i = off + cap * sz) (hpos : 0 < sz) (hc : h[b]? = some (.cells c T f))
 (EZ : ds.length + es.length ≤ cap) (Gc : off + cap * sz ≤ c.size) (tags : ∀ o, off + ds.length * sz ≤ o → o < off + cap * sz → E.O b o = .obj i ∧ ¬(f.1 ≤ o ∧ o < f.2)) (pre : ∀ (j : Nat) d, ds[j]? = some d → Elem E.S h sz b (off + j * sz) d)
 (G : Jt E.S h sz es all') (cells : ∀ (j : Nat) u, all'[j]? = some u → c[off + ds.length * sz + j]? = some u) : RO E h i (.opn sz ds es) := by
 simp only [RO];rw [ho, hb, ht];refine ⟨c, T, f, hc, ?_, Gc, hpos, tags, pre, fun j d hd => ?_⟩
 ·have := z8q sz EZ
  omega
 ·obtain ⟨vs, v1, v2, v3⟩ := G.2 j d hd
  refine ⟨vs, v1, fun y u hu => ?_, v3⟩
  have := cells _ u (v2 y u hu);rw [z32q]
  rwa [show off + (ds.length * sz + j * sz) + y = off + ds.length * sz + (j * sz + y) by omega]
theorem A4h {fl : Flags} {c : Call} {y v : Operand} {t u : TypeId} (E9 : o.op = .call c) (B2z : c.callee = .builtin .append) (ha : c.args.toList = [y, v]) (ht : c.argTypes.toList = [t, u]) (gm : K8 fl.opn o.dst = true) (H : JK C fl o y v t u st k = some x)
 (Rl : J2 E st a w.heap) (T : Then E w k x K) : Gp C.P o a w K := by
 unfold JK at H;obtain ⟨r, h1, H⟩ := C8 H;obtain ⟨s, h2, H⟩ := C8 H;obtain ⟨sz, Y9, H⟩ := C8 H;obtain ⟨hc, H⟩ := F8 H;rw [if_pos gm] at H;obtain ⟨d2, hd, H⟩ := C8 H;simp only [z13q] at hc;obtain ⟨⟨Lt, jY⟩, II⟩ := hc;obtain ⟨t0, II⟩ := z39q.1 II;obtain ⟨e, e', z, inf, zv, hu, Px, hz, Jc, hpos, DN, A6E, Xy, dR⟩ := A2A Y9;obtain ⟨ds, es, hr, hs, A1J, hne, rfl⟩ := A9k hd;simp only at H;have e1 := Rl.src h1;have e2 := (Rl.src h2).data jY;have e1d : RV E.S w.heap r.1 (a.eval y) := e1.data (by revert Lt; cases r.2 <;> simp [Kk, J3])
 rw [hr] at e1d;rw [hs] at e2;obtain ⟨b, len, cap, all, ev, f1, f2, f3, f4, f5, f6, f7⟩ := Zc (P := C.P) e1d;obtain ⟨b', len', cap', all', ev', g1, g2, g3, g4, g5, g6, g7⟩ := Zc (P := C.P) e2;have OH : inf.size = sz := by
  obtain ⟨i', d', q1, -, q2, -⟩ := IU hz;rw [DN] at q1;simp only [Option.some.injEq] at q1;rw [← Jc, q2, q1]
 have U1 : ∀ v' w', (Builtin.append_ #[t, u] o.type #[a.eval y, a.eval v]).run C.P w = .ok v' w' → (execOp a.eval o).run C.P w = .ok (.value v') w' := by
  intro v' w' hv;refine KM E9 B2z ?_;rw [aA ht, show c.args.map a.eval = #[a.eval y, a.eval v] from by rw [aA ha]; simp]
  exact C_ hv
 rw [II] at H;have dN : Builtin.lenOf (a.eval v) = pure len' := by rw [ev']; rfl
 have B04 : ds.length + es.length ≤ 4294967296 := A1J;have dO := g4.one hpos;have hn := Rl.n
 by_cases EZ : len + len' ≤ cap
 ·-- it fits: the slice's own memory is written
  have R0 := Rl.release (x := y) (f := Bl y 0 t0 0) fun T hT => Ev hT
  have P0 : Pr J8 E w.heap (E.re (Bl y 0 t0 0)) w.heap := Pr.re fun T hT => Ev fun t b _ he => hT (by rw [he]; simp [J8])
  have oH : X8 E.S w.heap (E.re (Bl y 0 t0 0)).S w.heap := Jq (Ev (by simp))
  have hsp : ∀ p, b = some p → len < cap → ∃ cc TT f, w.heap[p.block]? = some (.cells cc TT f) ∧ p.off + cap * sz ≤ cc.size ∧
   ∀ o', p.off + len * sz ≤ o' → o' < p.off + cap * sz → (E.re (Bl y 0 t0 0)).O p.block o' = .sp 0 t0 0 ∧ ¬(f.1 ≤ o' ∧ o' < f.2) := by
   intro p hp H7;subst hp;have Hd : r.2 = .own := by
    revert Lt e1
    cases r.2 <;> intro Lt e1 <;> simp only [Kk, z7q] at Lt
    ·simp only [RR, K4] at e1
     obtain ⟨-, ⟨q, n, hq⟩, -⟩ := e1;rw [ev] at hq;simp only [Value.slice.injEq] at hq;omega
    ·rfl
   rw [Hd] at e1;simp only [RR, K4] at e1;obtain ⟨-, sz', ds', hl, hS⟩ := e1;rw [hr] at hl;simp only [DV.list.injEq] at hl;obtain ⟨cc, TT, f, c1, c2, c3⟩ := hS p len cap ev H7;rw [← hl.1] at c2 c3;refine ⟨cc, TT, f, c1, c2, fun o' h3 h4 => ?_⟩
   obtain ⟨c4, c5⟩ := c3 o' h3 h4;refine ⟨?_, c5⟩;have hy : ∃ i, y = .tmp i := by
    cases y with
    | tmp i => exact ⟨i, rfl⟩
    | const v => exact absurd Hd (Xi h1).1
    | func f => simp only [src, Option.some.injEq] at h1; subst h1; simp at Hd
    | global g => simp [src] at h1
   obtain ⟨i, rfl⟩ := hy;simp only [Env.re];rw [c4];simp [Bl, mW]
  have hln : 0 < len' := by omega
  cases b with
  | none => have := f3 rfl; omega
  | some p =>
    obtain ⟨hp, f5'⟩ := f5 p rfl;have hp := hp (by omega)
    obtain ⟨cc, TT, f, c1, c2, c3⟩ := hsp p rfl (by omega)
    have B6T : all'.length = len' * sz := by rw [g4.1, g1]
    have hmul : (len + len') * sz ≤ cap * sz := z8q _ EZ;have A5R : (len + len') * sz = len * sz + len' * sz := z32q _ _ _;have B6W : 0 < len' * sz := Nat.mul_pos hln hpos;obtain ⟨w', hw, S⟩ := Kt (P := C.P) (b := p.block) (T := TT) (f := f) (p.off + len * sz) all' cc 0 w c1 (by omega) dO (fun o' h3 h4 => (c3 o' (by omega) (by omega)).2)
    have CQ : (Builtin.append_ #[t, u] o.type #[a.eval y, a.eval v]).run C.P w = .ok (.slice (some p) (len + len') cap) w' := by
     rw [ev];refine VM hu Px DN dN (by rw [OH]; exact g7 w rfl) EZ ?_
     rw [OH, hp, Addr.add_lit];exact hw
    simp only [z35q] at S;have R1 : J2 (E.re (Bl y 0 t0 0)) ((st.release y).put (some t0) .undef .val) (a.put (some t0) (.slice (some p) (len + len') cap)) w.heap := R0.put fun t1 _ => by simp only [RR, K4, RV]
    let E2 := (E.re (Bl y 0 t0 0)).B5X p.block p.off (p.off + len * sz) (p.off + cap * sz)
    have A6D : E2.n = E.n + 1 := rfl;have PS : Pr (fun T => T = .sp 0 t0 0) (E.re (Bl y 0 t0 0)) w.heap E2 w'.heap := by
     refine ⟨z49q S.size.symm, fun b1 VA => ?_, fun b1 o1 VA hT => ?_, z72q _, fun i hi => ?_, fun _ _ => rfl⟩
     ·by_cases dJ : b1 = p.block
      ·subst dJ
       rw [c1];obtain ⟨c', q1, q2, q3⟩ := S.ex;refine ⟨c', q1, q2, fun j hj => ?_⟩
       rw [q3 j, if_neg];rintro ⟨q4, q5⟩;exact hj (c3 j q4 (by omega)).1
      ·rw [S.rest b1 dJ]; exact X4.refl _ _
     ·show (if _ then _ else _) = _
      rw [if_neg];rintro ⟨rfl, q4, q5⟩;exact hT (c3 o1 q4 q5).1
     ·have Vh : i ≠ (E.re (Bl y 0 t0 0)).n := Nat.ne_of_lt hi
      refine ⟨?_, ?_, ?_⟩ <;> (show (if _ then _ else _) = _; rw [if_neg Vh])
    have Cj := PS.shut (by simp) R1.fresh
    have oE : E2.obj E.n = p.block := if_pos rfl;have bE : E2.base E.n = p.off := if_pos rfl;have tE : E2.top E.n = p.off + cap * sz := if_pos rfl;have R2 : J2 E2 { (st.release y).put (some t0) .undef .val with sg := st.sg ++ [D7.opn sz ds es] } (a.put (some t0) (.slice (some p) (len + len') cap)) w'.heap := by
     have sgR : (st.release y).sg = st.sg := by cases y <;> rfl
     refine ⟨R1.size, R1.Aq, R1.Cs, by simp [A6D, hn], fun q vq hq => ?_, fun s' cs' Dw => (R1.boxes s' cs' Dw).mono PS Cj (by simp) (by simp), fun i' ob hi => ?_, fun b1 o1 VA => ?_⟩
     ·have h0 := R1.regs q vq hq
      by_cases hqt : t0 = q
      ·subst hqt
       have B2D : t0 < (st.release y).tm.length := by
        have := (z12q.1 hq).1;rw [aj] at this;rw [← R0.size]; exact this
       have hg : (St.get { (st.release y).put (some t0) .undef .val with sg := st.sg ++ [D7.opn sz ds es] } t0) = (.undef, .val) := VJ B2D R0.Aq
       rw [hg];simp only [RR, K4, RV]
      ·exact h0.mono PS Cj (by simp; exact fun hh => absurd hh.symm hqt) (by simp)
     ·by_cases H7 : i' < st.sg.length
      ·have hi : ((st.release y).put (some t0) .undef .val).sg[i']? = some ob := by
        have hi : (st.sg ++ [D7.opn sz ds es])[i']? = some ob := hi;rw [z5q H7] at hi;rw [yG, sgR]; exact hi
       exact (R1.Q3 i' ob hi).mono PS Cj (by rw [← R1.n]; exact (z0q.1 hi).1) (by simp) (by simp)
      ·have hi : (st.sg ++ [D7.opn sz ds es])[i']? = some ob := hi
       have TD : i' = st.sg.length := by
        have := (z0q.1 hi).1;simp at this; omega
       subst TD;simp only [z6q (z20q _), z66q, z14q, Option.some.injEq] at hi;subst hi;rw [hn];obtain ⟨c', q1, q2, q3⟩ := S.ex;have tK := f1;have hg1 := g1;subst tK;refine B1n (cap := cap) (all' := all') oE bE tE hpos q1 (by omega) (by rw [q2]; exact c2) (fun o' h3 h4 => ⟨?_, (c3 o' h3 h4).2⟩) (fun j d hd => ?_) ((g4.mono oH).mono Cj) fun j u hu => ?_
       ·show (if _ then _ else _) = _
        rw [if_pos ⟨rfl, h3, h4⟩];rfl
       ·obtain ⟨b0, len0, cap0, mO, -, -, -, hel⟩ := Sj e1d
        rw [ev] at mO;simp only [Value.slice.injEq] at mO;obtain ⟨rfl, -, -⟩ := mO;exact ((Dc.1 (hel.2 p rfl).2 j d hd).mono oH).mono Cj
       ·have hjl : j < all'.length := (z0q.1 hu).1
        rw [q3, if_pos (by omega), ← hu]
        congr 1
        omega
     ·have VB : w.heap.size ≤ b1 := by rw [← S.size]; exact VA
      show (if _ then _ else _) = _
      rw [if_neg]
      ·exact R1.fresh b1 o1 VB
      ·rintro ⟨rfl, -⟩
       have := (z12q.1 c1).1;omega
    refine Bv (U1 _ _ CQ) (T _ _ _ w' H ?_ (P0.trans (PS.weaken (by rintro T rfl; simp [J8]))) S.out)
    rw [II];have R3 := R2.put (dst := some t0) (d := .undef) (m := .arr st.sg.length sz 0 (ds.length + es.length)) (v := .slice (some p) (len + len') cap) fun t1 mM => by
     refine RR.Bg ⟨by rw [A6D, hn]; omega, some p, cap, by rw [f1, g1], fun _ => ?_, by omega, by simp, fun q hq => ?_, fun _ => ?_⟩
     ·rw [hn, oE, bE, z45q, z35q, ← hp]
     ·simp only [Option.some.injEq] at hq; rw [← hq, hp]
     ·rw [hn, bE, tE, z15q]; exact z20q _
    rw [A0z] at R3;have e3 : St.put { (st.release y).put (some t0) .undef .val with sg := st.sg ++ [D7.opn sz ds es] } (some t0) .undef (.arr st.sg.length sz 0 (ds.length + es.length)) = St.put { st.release y with sg := st.sg ++ [D7.opn sz ds es] } (some t0) .undef (.arr st.sg.length sz 0 (ds.length + es.length)) := by
     simp [St.put, z71q]
    rwa [e3] at R3
 ·-- a new block
  obtain ⟨nc, hnc, CQ⟩ := run_append_grow (ty := o.type) (b := b) hu Px DN dN (by rw [OH]; exact g7) (by rw [OH, ← ev]; exact f7) Xy EZ (by omega) A6E
  rw [← ev] at CQ;have hal : all.length = len * sz := by rw [f4.1, f1]
  have B7O : all'.length = len' * sz := by rw [g4.1, g1]
  have Hf : (Builtin.zeroCells zv.cells (nc - (len + len'))).toList.length = (nc - (len + len')) * sz := by simp [Builtin.zeroCells, dR]
  have B79 : (len + len') * sz + (nc - (len + len')) * sz = nc * sz := by rw [← z32q]; congr 1; omega
  have A5R : (len + len') * sz = len * sz + len' * sz := z32q _ _ _;generalize hzc : (Builtin.zeroCells zv.cells (nc - (len + len'))).toList = zc at CQ Hf
  let E2 := E.B5W w.heap.size (len * sz) (nc * sz)
  have A6D : E2.n = E.n + 1 := rfl;have oE : E2.obj E.n = w.heap.size := if_pos rfl;have bE : E2.base E.n = 0 := if_pos rfl;have tE : E2.top E.n = nc * sz := if_pos rfl;have P1 : Pr (fun _ => False) E w.heap E2 (w.heap.push (.cells (all ++ all' ++ zc).toArray e)) := by
   refine Pr.push (fun b1 o1 VA _ => ?_) (z72q _) (fun i hi => ?_) (fun _ _ => rfl)
   ·show (if _ then _ else _) = _
    rw [if_neg (by omega)]
   ·have Vh : i ≠ E.n := Nat.ne_of_lt hi
    refine ⟨?_, ?_, ?_⟩ <;> (show (if _ then _ else _) = _; rw [if_neg Vh])
  have Cj := P1.shut (by simp) Rl.fresh
  have R0 : J2 E (st.release y) a w.heap := Rl.release (x := y) (f := id) fun _ _ => rfl
  have sgR : (st.release y).sg = st.sg := by cases y <;> rfl
  have Jo : ∀ (j : Nat), hc (w.heap.push (.cells (all ++ all' ++ zc).toArray e)) w.heap.size j = (all ++ all' ++ zc)[j]? := fun j => by rw [A29]; simp
  have R2 : J2 E2 { st.release y with sg := st.sg ++ [D7.opn sz ds es] } a (w.heap.push (.cells (all ++ all' ++ zc).toArray e)) := by
   refine ⟨R0.size, R0.Aq, R0.Cs, by simp [A6D, hn], fun q vq hq => (R0.regs q vq hq).mono P1 Cj (by simp) (by simp), fun s' cs' Dw => (R0.boxes s' cs' Dw).mono P1 Cj (by simp) (by simp), fun i' ob hi => ?_, fun b1 o1 VA => ?_⟩
   ·by_cases H7 : i' < st.sg.length
    ·have hi : (st.release y).sg[i']? = some ob := by
      have hi : (st.sg ++ [D7.opn sz ds es])[i']? = some ob := hi;rw [z5q H7] at hi;rw [sgR]; exact hi
     exact (R0.Q3 i' ob hi).mono P1 Cj (by rw [← R0.n]; exact (z0q.1 hi).1) (by simp) (by simp)
    ·have hi : (st.sg ++ [D7.opn sz ds es])[i']? = some ob := hi
     have TD : i' = st.sg.length := by
      have := (z0q.1 hi).1;simp at this; omega
     subst TD;simp only [z6q (z20q _), z66q, z14q, Option.some.injEq] at hi;subst hi;rw [hn];have tK := f1;subst tK;refine B1n (cap := nc) (all' := all') oE bE (by rw [tE, z15q]) hpos SV (by omega) (by simp; omega) (fun o' h3 h4 => ⟨?_, by simp⟩) (fun j d hd => ?_) (g4.mono Cj) fun j u hu => ?_
     ·show (if _ then _ else _) = _
      rw [if_pos rfl, if_neg (by omega), if_pos (by omega)]
     ·obtain ⟨vs, v1, v2, v3⟩ := f4.2 j d hd
      refine ⟨vs, v1, fun y' u hu => ?_, v3.mono Cj⟩
      have hy' : y' < sz := by have := (z0q.1 hu).1; omega
      have h5 := v2 y' u hu;have h6 : j * sz + y' < all.length := (z0q.1 h5).1;refine ⟨?_, ?_⟩
      ·rw [z15q, Jo, z67q, z5q h6]
       exact h5
      ·show (if _ then _ else _) = _
       rw [if_pos rfl, z15q, if_pos (by omega)]
     ·have hjl : j < all'.length := (z0q.1 hu).1
      rw [z15q, List.getElem?_toArray, z67q, z6q (by omega), z5q (by omega), ← hu]
      congr 1
      omega
   ·simp only [z73q] at VA
    show (if _ then _ else _) = _
    rw [if_neg (by omega)]
    exact Rl.fresh b1 o1 (by omega)
  refine Bv (U1 _ _ CQ) (T _ _ _ (w.drew.alloc (.cells (all ++ all' ++ zc).toArray e)) H ?_ (P1.weaken (by simp)))
  rw [II];refine R2.put fun t1 mM => ?_
  refine RR.Bg ⟨by rw [A6D, hn]; omega, some ⟨w.heap.size, 0, none⟩, nc, by rw [f1, g1], fun _ => ?_, by omega, by simp, fun q hq => ?_, fun _ => ?_⟩
  ·rw [hn, oE, bE, z45q, z35q]
  ·simp only [Option.some.injEq] at hq; rw [← hq]
  ·rw [hn, bE, tE, z15q, z15q]; exact z20q _
def Env.mh (E : Env) (i lo : Nat) (tg : Tag) : Env := { E with O := fun b o => if E.O b o = .obj i then (if o < lo then .shut else tg) else E.O b o }
theorem ow (E : Env) (h : Heap) (i lo : Nat) (tg : Tag) : Pr (fun T => T = .obj i) E h (E.mh i lo tg) h := by
 refine ⟨z20q _, fun _ _ => X4.refl _ _, fun b o _ hT => ?_, z20q _, fun _ _ => ⟨rfl, rfl, rfl⟩, fun _ _ => rfl⟩
 show (if _ then _ else _) = _
 rw [if_neg hT]
theorem yO {h : Heap} {i sz : Nat} {pre ds : List DV} {tg : Tag} {v : Value} (hf : ∀ b o, h.size ≤ b → E.O b o = .other) (H : RO E h i (.opn sz pre ds)) (G : K4 E h tg .undef (.arr i sz 0 (pre.length + ds.length)) v) (hne : 0 < pre.length + ds.length) (tg' : Tag) :
 K4 (E.mh i (E.base i + (pre.length + ds.length) * sz) tg') h tg' (.list sz (pre ++ ds)) .own v := by
 have P := ow E h i (E.base i + (pre.length + ds.length) * sz) tg';have I9 := P.shut (by simp) hf
 simp only [RO] at H;obtain ⟨c, T, f, h1, h2, ZJ, hz, h3, h4, h5⟩ := H;simp only [K4] at G;obtain ⟨g1, b, cap, rfl, g2, g3, g4, g5, g6⟩ := G;have g2 := g2 hne;have g6 := g6 hne;subst g2;simp only [z45q, z35q, z15q] at g6 ⊢;have q0 : (pre.length + ds.length) * sz ≤ cap * sz := z8q _ g3;refine ⟨?_, sz, pre ++ ds, rfl, fun p len1 cap1 hq H7 => ?_⟩
 ·refine Tz (by simp) g3 (by simp) (fun _ => hz) fun p hp => ?_
  simp only [Option.some.injEq] at hp;subst hp;refine ⟨fun _ => rfl, Dc.2 fun j d hd => ?_⟩
  by_cases hj : j < pre.length
  ·rw [z5q hj] at hd
   exact (h4 j d hd).mono I9
  ·rw [z6q (by omega)] at hd
   have hjd : j - pre.length < ds.length := (z0q.1 hd).1;obtain ⟨vs, v1, v2, v3⟩ := h5 _ d hd;have ej : pre.length + (j - pre.length) = j := by omega
   rw [ej] at v2;refine ⟨vs, v1, fun y u hu => ?_, v3.mono I9⟩
   have hy : y < sz := by have := (z0q.1 hu).1; omega
   have q1 : pre.length * sz ≤ j * sz := z8q _ (by omega)
   have q2 : j * sz + y < (pre.length + ds.length) * sz := by
    calc j * sz + y < j * sz + sz := by omega
     _ = (j + 1) * sz := by rw [z34q]
     _ ≤ (pre.length + ds.length) * sz := z8q _ (by omega)
   refine ⟨?_, ?_⟩
   ·unfold hc
    rw [h1];exact v2 y u hu
   ·have e0 : (E.mh i (E.base i + (pre.length + ds.length) * sz) tg').O (E.obj i) (E.base i + j * sz + y) = .shut := by
     show (if _ then _ else _) = _
     rw [if_pos (h3 (E.base i + j * sz + y) (by omega) (by omega)).1, if_pos (by omega)]
    exact e0
 ·simp only [Value.slice.injEq, Option.some.injEq] at hq
  obtain ⟨rfl, rfl, rfl⟩ := hq;refine ⟨c, T, f, h1, by simp only; omega, fun o' h6 h7 => ?_⟩
  simp only at h6 h7;have q1 : pre.length * sz ≤ (pre.length + ds.length) * sz := z8q _ (by omega)
  obtain ⟨q2, q3⟩ := h3 o' (by omega) (by omega)
  refine ⟨?_, q3⟩
  show (if _ then _ else _) = _
  rw [if_pos q2, if_neg (by omega)]
theorem qG {q : Nat × List DV × List DV} {sz len : Nat} {d : DV} (h : nT q sz len = some d) : q.1 = sz ∧ q.2.1.length + q.2.2.length = len ∧ 0 < len ∧ d = .list sz (q.2.1 ++ q.2.2) := by
 unfold nT at h;obtain ⟨⟨h1, h2, h3⟩, h⟩ := M3 h;simp only [Option.some.injEq] at h;exact ⟨h1, h2, h3, h.symm⟩
theorem A9g {r : Nat} {h : Heap} (H : aC r st k = some x) (Rl : J2 E st a h) : ∃ E' st', k st' = some x ∧ J2 E' st' a h ∧ Pr J8 E h E' h := by
 unfold aC at H
 split at H
 ·rename_i i sz len hm
  obtain ⟨q, hq, H1⟩ := C8 H;obtain ⟨d, hd, H9⟩ := C8 H1;clear H H1;obtain ⟨sz', pre, ds⟩ := q;obtain ⟨c1, c2, c3, rfl⟩ := qG hd;simp only at c1 c2;subst c1 c2;have hq := oo hq;have B := Rl.Q3 i _ hq;have hi : i < E.n := by rw [← Rl.n]; exact (z0q.1 hq).1
  have QI := (z0q.1 hq).1
  let E' := E.mh i (E.base i + (pre.length + ds.length) * sz') (.sp 0 r 0)
  have P : Pr (fun T => T = .obj i) E h E' h := ow E h i _ _
  have I9 := P.shut (by simp) Rl.fresh
  refine ⟨E', _, H9, ?_, P.weaken (by rintro T rfl; simp [J8])⟩
  refine ⟨by rw [mX]; exact Rl.size, by rw [mX, B1s]; exact Rl.Aq, by rw [mX, A3w]; exact Rl.Cs, ?_, fun t v hv => ?_, fun s cs hs => ?_, fun j ob hj => ?_, fun b o hb => ?_⟩
  ·rw [yG, z40q]; exact Rl.n
  ·have h0 := Rl.regs t v hv
   by_cases ht : r = t
   ·subst ht
    have H7 : r < st.tm.length := by
     have := (z12q.1 hv).1;rw [← Rl.size]; exact this
    rw [VJ (st := { st with sg := st.sg.set i (.arr 1 []) }) H7 Rl.Aq]
    rw [hm] at h0;simp only [RR] at h0;exact RR.Bg (yO (tg := .sp 0 r 0) Rl.fresh B (by simpa only [K4] using h0) c3 _)
   ·rw [tX ht]
    exact h0.mono P I9 (by simp) (by simp)
  ·rw [A3w] at hs
   exact (Rl.boxes s cs hs).mono P I9 (by simp) (by simp)
  ·rw [yG] at hj
   by_cases Pt : i = j
   ·subst Pt
    rw [z4q QI] at hj;simp only [Option.some.injEq] at hj;subst hj;exact fun hne => absurd rfl hne
   ·rw [z1q Pt] at hj
    exact (Rl.Q3 j ob hj).mono P I9 (by rw [← Rl.n]; exact (z0q.1 hj).1) (by simp; exact fun h => Pt h.symm) (by simp)
  ·show (if _ then _ else _) = _
   rw [Rl.fresh b o hb, if_neg (by simp)]
 ·rename_i b off hm
  obtain ⟨cs, Gc, H1⟩ := C8 H;obtain ⟨q0, hca, H2⟩ := C8 H1;obtain ⟨q, hq, H3⟩ := C8 H2;obtain ⟨d, hd, H9⟩ := C8 H3;clear H H1 H2 H3;obtain ⟨i, sz, len⟩ := q0;obtain ⟨sz', pre, ds⟩ := q;obtain ⟨c1, c2, c3, rfl⟩ := qG hd;simp only at c1 c2 H9 hq;subst c1 c2;have hq := oo hq;have Gc := om Gc;have B := Rl.Q3 i _ hq;have BX := Rl.Q3 b _ Gc;have QI := (z0q.1 hq).1;have B2y := (z0q.1 Gc).1;have hib : i ≠ b := by rintro rfl; rw [hq] at Gc; cases Gc
  obtain ⟨d0, xw⟩ : ∃ d0, cs[off]? = some (d0, .arr i sz' 0 (pre.length + ds.length)) := by
   unfold A8E at hca
   split at hca
   ·rename_i d0 i0 sz0 len0 heq
    simp only [Option.some.injEq, Prod.mk.injEq] at hca;obtain ⟨rfl, rfl, rfl⟩ := hca;exact ⟨d0, heq⟩
   ·cases hca
  let E' := E.mh i (E.base i + (pre.length + ds.length) * sz') (.sp 2 b off)
  have P : Pr (fun T => T = .obj i) E h E' h := ow E h i _ _
  have I9 := P.shut (by simp) Rl.fresh
  refine ⟨E', _, H9, ?_, P.weaken (by rintro T rfl; simp [J8])⟩
  refine ⟨Rl.size, Rl.Aq, Rl.Cs, ?_, fun t v hv => (Rl.regs t v hv).mono P I9 (by simp) (by simp), fun s cs' hs => (Rl.boxes s cs' hs).mono P I9 (by simp) (by simp), fun j ob hj => ?_, fun b' o hb => ?_⟩
  ·simp only [z40q]; exact Rl.n
  ·by_cases Pt : i = j
   ·subst Pt
    rw [z4q (by simpa using QI)] at hj
    simp only [Option.some.injEq] at hj;subst hj;exact fun hne => absurd rfl hne
   ·rw [z1q Pt] at hj
    by_cases hbj : b = j
    ·subst hbj
     rw [z4q B2y] at hj;simp only [Option.some.injEq] at hj;subst hj;simp only [RO] at BX ⊢;have B5w := (z0q.1 xw).1;obtain ⟨c, T, e1, e2, e3, e4⟩ := BX.mono P I9 (by simp; exact fun h => hib h.symm) (by simp)
     refine ⟨c, T, e1, by simpa using e2, e3, fun y r' v hr hv => ?_⟩
     by_cases hy : off = y
     ·subst hy
      rw [z4q B5w] at hr;simp only [Option.some.injEq] at hr;subst hr;obtain ⟨c0, T0, f1, f2, f3, f4⟩ := BX;have Qo : c0 = c := by
       have e1' : h[E.obj b]? = some (.cells c T (0, 0)) := e1;rw [f1] at e1';simp only [Option.some.injEq, Obj.cells.injEq] at e1';exact e1'.1
      subst Qo;obtain ⟨g1, g2, g3, g4⟩ := f4 off _ v xw hv;exact ⟨rfl, g2, rfl, yO (tg := .sp 2 b off) Rl.fresh B (by simpa only [K4] using g4) c3 _⟩
     ·rw [z1q hy] at hr
      exact e4 y r' v hr hv
    ·rw [z1q hbj] at hj
     exact (Rl.Q3 j ob hj).mono P I9 (by rw [← Rl.n]; exact (z0q.1 hj).1) (by simp; exact fun h => Pt h.symm) (by simp)
  ·show (if _ then _ else _) = _
   rw [Rl.fresh b' o hb, if_neg (by simp)]
 ·cases H
theorem A2G {fl : Flags} {id : Nat} {h : Heap} (H : Fs fl id st k = some x) (Rl : J2 E st a h) : ∃ E' st', k st' = some x ∧ J2 E' st' a h ∧ Pr J8 E h E' h := by
 unfold Fs at H
 split at H
 ·exact A9g H Rl
 ·exact ⟨E, st, H, Rl, Pr.refl _ _ _⟩
end
end Go.Su

/-
 THE DATA MACHINE, part 17: calls.
-/
namespace Go.Su
structure Ext (S : Q6) (h : Heap) (S' : Q6) (h' : Heap) : Prop where
 size : h.size ≤ h'.size
 blk : ∀ b, b < h.size → h'[b]? = h[b]?
 s : ∀ b o, b < h.size → (S' b o ↔ S b o)
 fresh : ∀ b o, h'.size ≤ b → ¬ S' b o
def B0m (P : Program) (f : FuncId) (ds : List DV) (d : DV) : Prop :=
 ∀ (S : Q6) (w : World) (vs : List Value), (∀ b o, w.heap.size ≤ b → ¬ S b o) → Pj S w.heap ds vs →
   Calls P f vs.toArray w fun e w' => ∃ v S', e = .returned v ∧ Ext S w.heap S' w'.heap ∧ RV S' w'.heap d v ∧ Q5 w w'
def A86 (E : Env) (h : Heap) (i : Nat) (k : MK) (d : DV) (v : Value) : Prop :=
 match k with
 | .val => RV E.S h d v
 | .own => K4 E h (.sp 3 i 0) d .own v
 | .ptr => K4 E h .other (Kr .ptr d).1 (Kr .ptr d).2 v
 | .T_ n os => RR E h 3 i d (.Ad ((List.range n).map fun i => if os.contains i then .own else .val)) v
def A53 (E : Env) (h : Heap) (ks : List MK) (ds : List DV) (v : Value) : Prop :=
 ds.length = ks.length ∧ ∃ vs : List Value, vs.length = ks.length ∧ v = (match vs with | [u] => u | _ => .tuple vs.toArray) ∧
  ∀ (i : Nat) k d u, ks[i]? = some k → ds[i]? = some d → vs[i]? = some u → A86 E h i k d u
def A87 (P : Program) (f : FuncId) (s : AB) (rs : List (DV × Meta)) (sg : List D7) (q : List DV × List D7) : Prop :=
 ∀ (E : Env) (w : World) (vs : List Value), (∀ b o, w.heap.size ≤ b → E.O b o = .other) → sg.length = E.n → (∀ (i : Nat) ob, sg[i]? = some ob → RO E w.heap i ob) → vs.length = rs.length →
   (∀ (i : Nat) r v, rs[i]? = some r → vs[i]? = some v → RR E w.heap 0 i r.1 r.2 v) →
   Calls P f vs.toArray w fun e w' => Q5 w w' ∧ ∃ v E', e = .returned v ∧ Pr J8 E w.heap E' w'.heap ∧ (∀ b o, w'.heap.size ≤ b → E'.O b o = .other) ∧ q.2.length = E'.n ∧ (∀ (i : Nat) ob, q.2[i]? = some ob → RO E' w'.heap i ob) ∧ A53 E' w'.heap s.results q.1 v
def B0n (P : Program) (f : FuncId) (s : AB) (rs : List (DV × Meta)) (sg : List D7) (q : List DV × List D7) : Prop :=
 ∀ (E : Env) (w : World) (vs : List Value), (∀ b o, w.heap.size ≤ b → E.O b o = .other) → sg.length = E.n → (∀ (i : Nat) ob, sg[i]? = some ob → RO E w.heap i ob) → vs.length = rs.length →
   (∀ (i : Nat) r v, rs[i]? = some r → vs[i]? = some v → RR E w.heap 0 i r.1 r.2 v) →
   ∀ u, CallsDIn Fence.wide 0 P f vs.toArray u w fun e u' w' => u' = u ∧ Q5 w w' ∧ ∃ v E', e = .returned v ∧ Pr J8 E w.heap E' w'.heap ∧ (∀ b o, w'.heap.size ≤ b → E'.O b o = .other) ∧ q.2.length = E'.n ∧ (∀ (i : Nat) ob, q.2[i]? = some ob → RO E' w'.heap i ob) ∧ A53 E' w'.heap s.results q.1 v
def isGo (P : Program) (f : FuncId) : Bool :=
 match P.funcs[f]? with
 | some fn => fn.name != "runtime.NumGoroutine" && fn.body.isSome
 | none => false
def A8C (P : Program) (f : FuncId) (sz : Nat) : Prop :=
 ∀ (S : Q6) (w : World) (v : Value) (ds : List DV), ds.length ≤ lim → (∀ b o, w.heap.size ≤ b → ¬ S b o) → RV S w.heap (.list sz ds) v →
   Calls P f #[v] w fun e w' => ∃ (a : Option Addr) (b off cap : Nat), e = .returned (.slice a ds.length cap) ∧ (ds ≠ [] → a = some ⟨b, off, none⟩) ∧ ds.length ≤ cap ∧ (a = none → cap = 0) ∧ (∀ x, a = some x → x.spot = none) ∧ w.heap.size ≤ w'.heap.size ∧ Q5 w w' ∧ (∀ b', b' < w.heap.size → w'.heap[b']? = w.heap[b']?) ∧
    (ds ≠ [] → w.heap.size ≤ b ∧ ∃ c T, w'.heap[b]? = some (.cells c T (0, 0)) ∧ off + ds.length * sz ≤ c.size ∧ 0 < sz ∧
      ∀ (j : Nat) d, ds[j]? = some d → ∃ vs : List Value, vs.length = sz ∧ (∀ (x : Nat) u, vs[x]? = some u → c[off + j * sz + x]? = some u) ∧ RC S w'.heap d vs)
def A85 (P : Program) (f g : FuncId) (n : Nat) : Prop :=
 ∀ (w : World) (vs : Array Value), vs.size = n → Calls P f #[.agg vs] w fun e w' => e = .returned (.func (.func g) #[] #[.pointer (some ⟨w.heap.size, 0, none⟩)]) ∧ ∃ T, w' = w.alloc (.cells vs T)
structure Nb (n : Nat) (E : Env) (w w' : World) : Prop where
 size : w.heap.size ≤ w'.heap.size
 blk : ∀ b, b < w.heap.size → w'.heap[b]? = w.heap[b]? ∨ (n ≤ b ∧ (∃ c T f c', w.heap[b]? = some (.cells c T f) ∧ w'.heap[b]? = some (.cells c' T f) ∧ c'.size = c.size) ∧ ∀ o, E.O b o = .other)
 out : Q5 w w'
def A14 (P : Program) (g : FuncId) (it : List DV → Option (List DV)) : Prop :=
 ∀ (cs ds : List DV), it cs = some ds → ∀ (n l b : Nat) (c : Array Value) (T0 : TypeId) (J : Nat → Env → World → Prop) (Jx : World → Prop) (E : Env) (W : World),
   W.heap[b]? = some (.cells c T0 (0, 0)) → (∀ o, o < c.size → E.O b o = .other) → GJ E.S W.heap cs c.toList →
   (∀ k E' W', J k E' W' → ∀ b o, W'.heap.size ≤ b → E'.O b o = .other) →
   (∀ k E' W1 W2, J k E' W1 → Nb W.heap.size E' W1 W2 → J k E' W2) →
   (∀ k E' W1 d v, J k E' W1 → ds[k]? = some d → RV E'.S W1.heap d v → YieldAt Fence.wide n P l #[v] W1 fun e W2 =>
     (e = .returned (.bool true) ∧ ∃ E2, J (k + 1) E2 W2 ∧ Pr J8 E' W1.heap E2 W2.heap) ∨ (e = .returned (.bool false) ∧ Jx W2)) →
   J 0 E W → CallsIn Fence.wide n P g #[.func (.yield l) #[] #[], .pointer (some ⟨b, 0, none⟩)] W fun e W' => (∃ v, e = .returned v) ∧ ((∃ E', J ds.length E' W') ∨ Jx W')
structure Cv (C : X5) (R : N7) : Prop where
 p : ∀ f ds d, R.p f ds = some d → isGo C.P f = true ∧ B0m C.P f ds d
 r : ∀ f rs sg q, R.r f rs sg = some q → ∃ s, C.sig f = some s ∧ isGo C.P f = true ∧ A87 C.P f s rs sg q
 c : ∀ f, C.clone f = true → isGo C.P f = true ∧ A8C C.P f (C.qH f)
 m : ∀ f g, C.iD f = some g → isGo C.P f = true ∧ A85 C.P f g (C.qH f)
 i : ∀ g it, C.iter g = some it → isGo C.P g = true ∧ A14 C.P g it
 d : ∀ f rs sg q, C.dfn f = true → R.r f rs sg = some q → ∃ s, C.sig f = some s ∧ isGo C.P f = true ∧ B0n C.P f s rs sg q
structure zA (E E' : Env) (tg tg' : Tag) : Prop where
 hs : ∀ b o, E.O b o = .shut → E'.O b o = .shut
 ht : ∀ b o, E.O b o = tg → E'.O b o = tg'
 obj : E'.obj = E.obj
 base : E'.base = E.base
 n : E'.n = E.n
 top : E'.top = E.top
theorem zA.le {E E' : Env} {tg tg' : Tag} {h : Heap} (T : zA E E' tg tg') : X8 E.S h E'.S h := ⟨fun b o hs => T.hs b o hs, fun _ _ _ _ hv => hv⟩
theorem K4.to {E E' : Env} {h : Heap} {tg tg' : Tag} {d : DV} {m : Meta} {v : Value} (T : zA E E' tg tg') (hl : ∀ s o, m ≠ .loc s o) (R : K4 E h tg d m v) : K4 E' h tg' d m v := by
 have I9 := T.le (h := h);cases m <;> simp only [K4] at R ⊢
 case val => exact R.mono I9
 case full => exact ⟨R.1.mono I9, R.2⟩
 case own =>
  obtain ⟨r1, sz, ds, r2, r3⟩ := R;refine ⟨r1.mono I9, sz, ds, r2, fun x len cap hv H7 => ?_⟩
  obtain ⟨c, T', g, e1, e2, e3⟩ := r3 x len cap hv H7;refine ⟨c, T', g, e1, e2, fun o ho ho' => ?_⟩
  obtain ⟨e4, e5⟩ := e3 o ho ho';exact ⟨T.ht _ _ e4, e5⟩
 case loc s o => exact absurd rfl (hl s o)
 case OT ag sz o =>
  obtain ⟨b, o0, r1, r2, r3⟩ := R;exact ⟨b, o0, r1, r2.mono I9, r3⟩
 case ptr i o => rw [T.obj, T.n]; exact R
 case FT => exact R
 case map i => rw [T.obj, T.n]; exact R
 case QJ => exact R
 case arr i sz off len => rw [T.obj, T.n, T.base, T.top]; exact R
 case opt i sz idx => rw [T.obj, T.n, T.base]; exact R
 case Yw i sz idx o => rw [T.obj, T.n, T.base]; exact R
 case fn f caps => rw [T.obj, T.n]; exact R
theorem RO.to {E E' : Env} {h : Heap} {i : Nat} {ob : D7} (T : zA E E' (.obj i) (.obj i)) (hs : ∀ j b o, E.O b o = .sp 2 i j → E'.O b o = .sp 2 i j) (R : RO E h i ob) : RO E' h i ob := by
 have I9 := T.le (h := h);cases ob with
 | box cs =>
   simp only [RO] at R ⊢;obtain ⟨c, T0, h1, h2, h3, h4⟩ := R;rw [T.obj];refine ⟨c, T0, h1, h2, fun o => ?_, fun j r v hr hv => ?_⟩
   ·rcases h3 o with h5 | h5
    ·exact .inl (T.ht _ _ h5)
    ·exact .inr h5
   ·obtain ⟨a1, a2, a3, a4⟩ := h4 j r v hr hv
    exact ⟨a1, a2, a3, a4.to ⟨T.hs, hs j, T.obj, T.base, T.n, T.top⟩ fun s o hm => by rw [hm] at a3; simp [X0] at a3⟩
 | arr sz ds =>
   simp only [RO] at R ⊢;intro hne;obtain ⟨c, T0, h1, h2, h3, h4, h5⟩ := R hne;rw [T.obj, T.base];refine ⟨c, T0, h1, h2, h3, fun o q1 q2 => T.ht _ _ (h4 o q1 q2), fun j d hd => ?_⟩
   obtain ⟨vs, v1, v2, v3⟩ := h5 j d hd;exact ⟨vs, v1, v2, v3.mono I9⟩
 | opn sz pre ds =>
   simp only [RO] at R ⊢;obtain ⟨c, T0, f, h1, h2, ZJ, hz, h3, h4, h5⟩ := R;rw [T.obj, T.base, T.top];refine ⟨c, T0, f, h1, h2, ZJ, hz, fun o q1 q2 => ⟨T.ht _ _ (h3 o q1 q2).1, (h3 o q1 q2).2⟩, fun j d hd => (h4 j d hd).mono I9, fun j d hd => ?_⟩
   obtain ⟨vs, v1, v2, v3⟩ := h5 j d hd;exact ⟨vs, v1, v2, v3.mono I9⟩
 | map ks es =>
   simp only [RO] at R ⊢;obtain ⟨ens, clk, h1, h2, ⟨h3, h4⟩, h5⟩ := R;rw [T.obj];exact ⟨ens, clk, h1, fun o => T.ht _ _ (h2 o), ⟨h3, fun j e n g1 g2 => let ⟨a1, a2, a3⟩ := h4 j e n g1 g2; ⟨a1, a2.mono I9, a3.mono I9⟩⟩, h5⟩
def St.Hz (st : St) (sg : List D7) : St := { st with sg }
section
variable {X : Type} {C : X5} {R : N7} {o : Oper} {st : St} {k : St → Option X} {x : X} {E : Env} {a : Act} {w : World} {K : Act → World → Prop} {Q : Exit → Act → World → Prop}
theorem J2.ext {E' : Env} {h h' : Heap} (Rl : J2 E st a h) (P : Pr (fun _ => False) E h E' h') (hn : E'.n = E.n) (hf : ∀ b o, h'.size ≤ b → E'.O b o = .other) : J2 E' st a h' := by
 have I9 := P.shut (by simp) Rl.fresh
 exact ⟨Rl.size, Rl.Aq, Rl.Cs, by rw [hn]; exact Rl.n, fun t v hv => (Rl.regs t v hv).mono P I9 (by simp) (by simp), fun s cs hs => by rw [P.jH s (by simp)]; exact (Rl.boxes s cs hs).mono P I9 (by simp) (by simp),
  fun i ob hi => (Rl.Q3 i ob hi).mono P I9 (by rw [← Rl.n]; exact (z0q.1 hi).1) (by simp) (by simp), hf⟩
open Classical in
noncomputable def Env.after (E : Env) (n : Nat) (S' : Q6) : Env := { E with O := fun b o => if b < n then E.O b o else if S' b o then .shut else .other }
theorem B1T {h' : Heap} {S' : Q6} {h : Heap} (H : Ext E.S h S' h') : Pr (fun _ => False) E h (E.after h.size S') h' := by
 refine ⟨H.size, fun b hb => by rw [H.blk b hb]; exact X4.refl _ _, fun b o hb _ => ?_, z20q _, fun _ _ => ⟨rfl, rfl, rfl⟩, fun _ _ => rfl⟩
 simp only [Env.after]; rw [if_pos hb]
theorem B1U {h' : Heap} {S' : Q6} {h : Heap} (H : Ext E.S h S' h') : X8 S' h' (E.after h.size S').S h' := by
 refine ⟨fun b o hs => ?_, fun _ _ _ _ hv => hv⟩
 simp only [Env.S, Env.after]
 by_cases hb : b < h.size
 ·rw [if_pos hb]; exact (H.s b o hb).1 hs
 ·rw [if_neg hb, if_pos hs]
theorem pJ {f : FuncId} {args : Array Value} (hr : (execOp a.eval o).run C.P w = .ok (.enter f args) w) (hc : Calls C.P f args w fun e w' => ∃ v, e = .returned v ∧ K (a.put o.dst v) w') : Gp C.P o a w K :=
 .inr (.inr ⟨f, args, hr, hc⟩)
theorem d_ {P : Program} {f : FuncId} (h : isGo P f = true) (args : Array Value) (w : World) : (callFunc f args).run P w = .ok (.enter f args) w := by
 unfold isGo at h
 split at h
 ·rename_i fn hf
  simp only [z13q, bne_iff_ne, ne_eq] at h;unfold callFunc;obtain ⟨c, hc⟩ := z39q.1 h.2;simp [hf, h.1, hc]
 ·simp at h
theorem yf {P : Program} {ts : List TypeId} {xs : List Operand} {rs : List (DV × Meta)} (Rl : J2 E st a w.heap) (h : Hq P st ts xs = some rs) : rs.length = xs.length ∧ ∀ (i : Nat) r v, rs[i]? = some r → (xs.map a.eval)[i]? = some v →
 ∃ y t, xs[i]? = some y ∧ v = a.eval y ∧ src P t st y = some r ∧ RR E w.heap 0 (mW y) r.1 r.2 v := by
 obtain ⟨l1, l2⟩ := iQ h;refine ⟨l1, fun i r v hr hv => ?_⟩
 simp only [z31q, z25q] at hv;obtain ⟨y, hy, rfl⟩ := hv;obtain ⟨t, ht⟩ := l2 i y r hy hr;exact ⟨y, t, hy, rfl, ht, Rl.src ht⟩
theorem B3b {f : FuncId} {rs : List (DV × Meta)} {vs : List Value} (hO : Cv C R) (U1 : (execOp a.eval o).run C.P w = .ok (.enter f vs.toArray) w) (hl : rs.length = vs.length) (hrs : ∀ (i : Nat) r v, rs[i]? = some r → vs[i]? = some v → ∃ p q, RR E w.heap p q r.1 r.2 v)
 (H : og (rs.all fun r => J3 r.2) (ob (R.p f (rs.map (·.1))) fun d => k (st.put o.dst d .val)) = some x) (Rl : J2 E st a w.heap) (T : Then E w k x K) : Gp C.P o a w K := by
 obtain ⟨hd, H⟩ := F8 H;obtain ⟨d, LP, H⟩ := C8 H;refine pJ U1 (((hO.p f _ d LP).2 E.S w vs (fun b o hb hs => by have h9 := Rl.fresh b o hb; rw [show E.O b o = Tag.shut from hs] at h9; cases h9) (Vs.2 ⟨by simpa using hl, fun i d' v Gd hv => ?_⟩)).mono ?_)
 ·simp only [z31q, z25q] at Gd
  obtain ⟨r, hr, rfl⟩ := Gd;obtain ⟨p, q, h⟩ := hrs i r v hr hv;exact h.data (z19q.1 hd r (z18q hr))
 ·rintro e w' ⟨v, S', he, hE, hR, OJ⟩
  have P1 := B1T hE;refine ⟨v, he, T _ _ _ w' H ((Rl.ext P1 rfl fun b o hb => ?_).put fun t0 _ => ?_) (P1.weaken (by simp)) OJ⟩
  ·simp only [Env.after]
   have := hE.size;rw [if_neg (by omega), if_neg (hE.fresh b o hb)]
  ·exact RR.val (hR.mono (B1U hE))
def O7 : Tag → Tag
 | .shut => .shut
 | .obj i => .obj i
 | .sp 2 i j => .sp 2 i j
 | .sp 4 i b => .sp 0 i b
 | _ => .other
def KJ (t : Nat) (one : Bool) : Tag → Tag
 | .shut => .shut
 | .obj i => .obj i
 | .sp 2 i j => .sp 2 i j
 | .sp 3 i 0 => .sp 0 t (if one then 0 else i + 1)
 | .sp 3 _ (b + 1) => if one then .sp 0 t (b + 1) else .other
 | _ => .other
open Classical in
noncomputable def Env.back (E E1 : Env) (n : Nat) (t : Nat) (one : Bool) : Env :=
 { E1 with blk := E.blk, O := fun b o => if b < n ∧ O7 (E.O b o) = .other then E.O b o else KJ t one (E1.O b o) }
def ak (g : Option (Nat × Operand)) (T : Tag) : Tag :=
 match g with
 | some p => iE p.2 4 p.1 T
 | none => T
theorem tV : ∀ {ks : List MK} {xs : List Operand} {i0 : Nat} {p : Nat × Operand}, Ep i0 ks xs = some p → i0 ≤ p.1 ∧ (∃ k, ks[p.1 - i0]? = some k ∧ Cy k = true) ∧ xs[p.1 - i0]? = some p.2
 | [], xs, i0, p, h => by simp [Ep] at h
 | k :: ks, [], i0, p, h => by simp [Ep] at h
 | k :: ks, y :: xs, i0, p, h => by
   simp only [Ep] at h
   split at h
   ·rename_i hk
    simp only [Option.some.injEq] at h;subst h;exact ⟨z20q _, ⟨k, by simp, hk⟩, by simp⟩
   ·obtain ⟨h1, h2, h3⟩ := tV h
    have : p.1 - i0 = (p.1 - (i0 + 1)) + 1 := by omega
    exact ⟨by omega, by rw [this]; simpa using h2, by rw [this]; simpa using h3⟩
theorem mV : ∀ {ks : List MK} {xs : List Operand} {i0 i : Nat} {k : MK} {y : Operand}, (ks.filter Cy).length ≤ 1 → ks[i]? = some k → Cy k = true → xs[i]? = some y → Ep i0 ks xs = some (i0 + i, y)
 | [], xs, i0, i, k, y, _, h, _, _ => by simp at h
 | k0 :: ks, [], i0, i, k, y, _, _, _, h => by simp at h
 | k0 :: ks, z :: xs, i0, 0, k, y, _, h, hk, h2 => by
   simp only [z14q, Option.some.injEq] at h h2;subst h h2;simp [Ep, hk]
 | k0 :: ks, z :: xs, i0, i + 1, k, y, hl, h, hk, h2 => by
   simp only [z22q] at h h2;have oI : k ∈ ks.filter Cy := List.mem_filter.2 ⟨z18q h, hk⟩;have hpos : 0 < (ks.filter Cy).length := List.length_pos_of_mem oI;have dL : ¬ Cy k0 = true := by
    intro h0;simp only [z68q, h0, if_true, z37q] at hl;omega
   have := mV (i0 := i0 + 1) (xs := xs) (by simpa [z68q, dL] using hl) h hk h2
   simp only [Ep, if_neg dL];rw [this]
   congr 2
   omega
theorem A1w : ∀ {ks : List MK} {rs : List (DV × Meta)} {i : Nat} {r : DV × Meta}, (Gq ks rs)[i]? = some r → ∃ r0, rs[i]? = some r0 ∧ r.1 = r0.1 ∧ ((∃ k, ks[i]? = some k ∧ Cy k = true ∧ r.2 = YE r0.2 k) ∨ ((∀ k, ks[i]? = some k → Cy k = false) ∧ r.2 = Qa r0.2))
 | [], rs, i, r, h => by
   simp only [Gq, z31q, z25q] at h;obtain ⟨r0, h1, rfl⟩ := h;exact ⟨r0, h1, rfl, .inr ⟨by simp, rfl⟩⟩
 | k :: ks, [], i, r, h => by simp [Gq] at h
 | k :: ks, r0 :: rs, 0, r, h => by
   simp only [Gq, z14q, Option.some.injEq] at h;subst h;refine ⟨r0, rfl, rfl, ?_⟩;cases k
   ·exact .inr ⟨by simp [Cy], rfl⟩
   ·exact .inl ⟨_, rfl, rfl, rfl⟩
   ·exact .inr ⟨by simp [Cy], rfl⟩
   ·exact .inl ⟨_, rfl, rfl, rfl⟩
 | k :: ks, r0 :: rs, i + 1, r, h => by
   simp only [Gq, z22q] at h;obtain ⟨q, h1, h2, h3⟩ := A1w h;exact ⟨q, by simpa using h1, h2, by simpa using h3⟩
theorem mq : ∀ {ks : List MK} {rs : List (DV × Meta)}, (Gq ks rs).length = rs.length
 | [], rs => by simp [Gq]
 | k :: ks, [] => by simp [Gq]
 | k :: ks, r :: rs => by simp [Gq, mq]
theorem A53.back {E1 E' : Env} {h : Heap} {ks : List MK} {ds : List DV} {v : Value} {t : Nat} (R : A53 E1 h ks ds v) (AU : A5W ks = true) (T : ∀ i, zA E1 E' (.sp 3 i 0) (.sp 0 t (if ks.length = 1 then 0 else i + 1))) (T2 : ks.length = 1 → ∀ b, zA E1 E' (.sp 3 0 (b + 1)) (.sp 0 t (b + 1))) :
 RR E' h 0 t (Mi ks ds).1 (Mi ks ds).2 v := by
 obtain ⟨hl, vs, hv, rfl, H⟩ := R;unfold Mi
 split
 ·rename_i k
  simp only [z37q, List.length_nil, z15q] at hl hv T T2;obtain ⟨d, rfl⟩ := z28q.1 hl;obtain ⟨u, rfl⟩ := z28q.1 hv;have := H 0 k d u rfl rfl rfl;simp only [List.getD_cons_zero];cases k with
  | val => exact RV.mono (T 0).le d this
  | own => exact RR.Bg (K4.to (T 0) (m := .own) (by simp) this)
  | ptr =>
    have key : ∀ m : Meta, m ≠ .own → (∀ s o, m ≠ .loc s o) → K4 E1 h .other (Kr .ptr d).1 m u → K4 E' h (.sp 0 t 0) (Kr .ptr d).1 m u := by
     intro m h1 h2 h3;exact K4.to (T 0) h2 (h3.tag h1)
    have hm : (Kr .ptr d).2 ≠ .own ∧ ∀ s o, (Kr .ptr d).2 ≠ .loc s o := by
     unfold Kr;constructor
     ·simp only; split <;> simp
     ·intro s o; simp only; split <;> simp
    exact RR.Bg (key _ hm.1 hm.2 this)
  | T_ n os =>
    simp only [A86, RR, Kr] at this ⊢;obtain ⟨ds, us, h1, h2, h3, h4, h5⟩ := this;refine ⟨ds, us, h1, h2, h3, h4, fun i m' d' u' e1 e2 e3 => ?_⟩
    obtain ⟨a1, a2, a3, a4⟩ := h5 i m' d' u' e1 e2 e3;exact ⟨a1, a2, a3, K4.to (T2 trivial i) (fun s o hm => by rw [hm] at a3; simp [X0] at a3) a4⟩
 ·rename_i hne
  have B2E : ks.length ≠ 1 := fun h => by obtain ⟨k, hk⟩ := z28q.1 h; exact hne k hk
  have oF : ∀ k ∈ ks, k = .val ∨ k = .own := by
   intro k hk;unfold A5W at AU;simp only [Bool.or_eq_true, beq_iff_eq, B2E, false_or] at AU;have := z19q.1 AU k hk;cases k <;> simp_all
  have hvt : (match vs with | [u] => u | _ => Value.tuple vs.toArray) = .tuple vs.toArray := by
   split
   ·simp only [z37q, List.length_nil, z15q] at hv; exact absurd hv.symm B2E
   ·rfl
  rw [hvt];simp only [RR];refine ⟨ds, vs.toArray, rfl, rfl, by simp [hl], by simp [hv], fun i m' d' u e1 e2 e3 => ?_⟩
  simp only [z31q, z25q] at e1;obtain ⟨k, hk, rfl⟩ := e1;have := H i k d' u hk e2 (by simpa using e3)
  have T1 := T i;rw [if_neg B2E] at T1;rcases oF k (z18q hk) with rfl | rfl
  ·exact ⟨rfl, RV.mono T1.le d' this⟩
  ·exact ⟨rfl, K4.to T1 (m := .own) (by simp) this⟩
theorem Di {g : Option (Nat × Operand)} {T : Tag} (h : ∀ p s b, g = some p → p.2 = .tmp s → T ≠ .sp 0 s b) : ak g T = T := by
 unfold ak
 split
 ·rename_i p
  exact OM fun s b hs => h p s b rfl hs
 ·rfl
theorem A76 {g : Option (Nat × Operand)} {h : Heap} (Rl : J2 E st a h) : J2 (E.re (ak g)) (st.Gn g) a h := by
 cases g with
 | none => simp only [St.Gn]; exact (Rl.release (x := .const .nilIface) (f := ak none) fun T _ => rfl)
 | some p => exact Rl.release fun T hT => Di fun p' s b hp hs => by simp only [Option.some.injEq] at hp; subst hp; exact hT s b hs
theorem B14 (Rl : J2 E st a w.heap) : (∀ b o, w.heap.size ≤ b → (E.re O7).O b o = .other) ∧ st.sg.length = (E.re O7).n ∧ ∀ (i : Nat) ob, st.sg[i]? = some ob → RO (E.re O7) w.heap i ob := by
 refine ⟨fun b o hb => ?_, Rl.n, fun i ob hi => ?_⟩
 ·simp only [Env.re]; rw [Rl.fresh b o hb]; rfl
 ·exact RO.to (E := E) ⟨fun b o h => by simp only [Env.re]; rw [h]; rfl, fun b o h => by simp only [Env.re]; rw [h]; rfl, rfl, rfl, rfl, rfl⟩ (fun j b o h => by simp only [Env.re]; rw [h]; rfl) (Rl.Q3 i ob hi)
theorem B0v (Rl : J2 E st a w.heap) {E1 : Env} {w' : World} {sg : List D7} (P1 : Pr J8 (E.re O7) w.heap E1 w'.heap) (tK : ∀ b o, w'.heap.size ≤ b → E1.O b o = .other) (hn1 : sg.length = E1.n) (ho1 : ∀ (i : Nat) ob, sg[i]? = some ob → RO E1 w'.heap i ob) :
 ∃ E', J2 E' (st.Hz sg) a w'.heap ∧ Pr J8 E w.heap E' w'.heap := by
 let E' : Env := E.back E1 w.heap.size 0 true
 have A6U : ∀ b o, E1.O b o ≠ .other → ¬ (b < w.heap.size ∧ O7 (E.O b o) = .other) := by
  rintro b o h1 ⟨h2, h3⟩;have := P1.tags b o h2 (by simp only [Env.re]; rw [h3]; simp [J8])
  simp only [Env.re] at this;rw [h3] at this;exact h1 this
 have xc : ∀ b o T, E1.O b o = T → T ≠ .other → E'.O b o = KJ 0 true T := by
  intro b o T h1 h2
  show (if b < w.heap.size ∧ O7 (E.O b o) = .other then E.O b o else KJ 0 true (E1.O b o)) = _
  rw [if_neg (A6U b o (by rw [h1]; exact h2)), h1]
 have Pc : Pr (fun T => J8 (O7 T)) E w.heap E' w'.heap := by
  refine ⟨P1.size, fun b hb => P1.blk b hb, fun b o hb hn => ?_, P1.n, fun i hi => P1.Q3 i hi, fun _ _ => rfl⟩
  show (if b < w.heap.size ∧ O7 (E.O b o) = .other then E.O b o else KJ 0 true (E1.O b o)) = _
  by_cases hc : O7 (E.O b o) = .other
  ·rw [if_pos ⟨hb, hc⟩]
  ·rw [if_neg fun h => hc h.2]
   have VC : O7 (E.O b o) = .shut := by
    by_cases hs : O7 (E.O b o) = .shut
    ·exact hs
    ·exact absurd ⟨hc, hs⟩ hn
   have h2 := P1.tags b o hb (by simp only [Env.re]; exact hn)
   simp only [Env.re] at h2;rw [h2, VC];have : E.O b o = .shut := by
    revert VC
    unfold O7
    split <;> simp_all
   rw [this]; rfl
 have I9 := Pc.shut (by simp [J8, O7]) Rl.fresh
 refine ⟨E', ⟨Rl.size, Rl.Aq, Rl.Cs, hn1, fun u v' hu => ?_, fun s' cs' Dw => ?_, fun i ob hi => ?_, fun b o hb => ?_⟩, Pc.weaken fun T hT => ⟨fun h => ?_, fun h => ?_⟩⟩
 ·exact (Rl.regs u v' hu).mono Pc I9 (fun b => by simp [J8, O7]) (fun s o _ => by simp [J8, O7])
 ·exact (Rl.boxes s' cs' Dw).mono Pc I9 (by simp [J8, O7]) (fun j => by simp [J8, O7])
 ·exact (ho1 i ob hi).to ⟨fun b o h => xc b o _ h (by simp), fun b o h => xc b o _ h (by simp), rfl, rfl, rfl, rfl⟩ fun j b o h => xc b o _ h (by simp)
 ·show (if b < w.heap.size ∧ O7 (E.O b o) = .other then E.O b o else KJ 0 true (E1.O b o)) = _
  have := P1.size;rw [if_neg (by omega), tK b o hb]; rfl
 ·rw [h] at hT; simp [J8, O7] at hT
 ·rw [h] at hT; simp [J8, O7] at hT
theorem B3V {m : Meta} (h : J3 m = true) : J3 (dm m) = true := by
 cases m <;> first | rfl | (simp [J3] at h; done) | skip
 rename_i ms;simp only [J3, dm, List.all_map] at h ⊢;refine z19q.2 fun m hm => ?_
 have := z19q.1 h m hm;cases m <;> simp_all [Xk]
theorem B0N {E : Env} {h : Heap} {k a : Nat} {d : DV} {m : Meta} {v : Value} (R : RR E h k a d m v) : RR E h k a d (Qa m) v := by
 unfold Qa
 split
 ·rename_i hd; exact RR.val (R.data hd)
 ·exact R.dm
theorem A45 : ∀ {os : List Nat} {ms : List Meta} {i0 i : Nat} {m : Meta}, (iJ os i0 ms)[i]? = some m → ∃ m0, ms[i]? = some m0 ∧ m = if os.contains (i0 + i) then NV m0 else Qa m0
 | os, [], i0, i, m, h => by simp [iJ] at h
 | os, m0 :: ms, i0, 0, m, h => by
   simp only [iJ, z14q, Option.some.injEq] at h;exact ⟨m0, rfl, h.symm⟩
 | os, m0 :: ms, i0, i + 1, m, h => by
   simp only [iJ, z22q] at h;obtain ⟨m1, h1, h2⟩ := A45 h;exact ⟨m1, by simpa using h1, by rw [h2, z61q, Nat.add_comm 1 i]⟩
theorem dZ : ∀ {os : List Nat} {ms : List Meta} {i0 : Nat}, (iJ os i0 ms).length = ms.length
 | os, [], i0 => rfl
 | os, m :: ms, i0 => by simp [iJ, dZ]
theorem K4.NV {E : Env} {h : Heap} {tg : Tag} {d : DV} {m : Meta} {v : Value} (R : K4 E h tg d m v) : K4 E h tg d (Su.NV m) v := by
 cases m <;> first | exact R | exact R.oC
theorem K4.Qa {E : Env} {h : Heap} {tg : Tag} {d : DV} {m : Meta} {v : Value} (hm : X0 m = true) (R : K4 E h tg d m v) : K4 E h tg d (Su.Qa m) v ∧ X0 (Su.Qa m) = true := by
 unfold Su.Qa
 split
 ·rename_i hd
  refine ⟨?_, rfl⟩;have Gd : m = .val ∨ m = .full ∨ m = .own ∨ m = .FT := by
   cases m <;> simp_all [J3, X0]
  exact kF Gd R
 ·exact ⟨R.BN hm, (Su.BN hm).2.1⟩
theorem A44 {E : Env} {h : Heap} {k a : Nat} {d : DV} {m : Meta} {v : Value} {q : MK} (hq : Cy q = true) (R : RR E h k a d m v) : RR E h k a d (YE m q) v := by
 cases q with
 | val => cases hq
 | ptr => cases hq
 | own =>
   by_cases hm : m = .full
   ·subst hm
    exact RR.Bg (K4.oC (RR.yn (by simp) (by simp) R))
   ·have : YE m .own = m := by unfold YE; split <;> simp_all
    rw [this]; exact R
 | T_ n os =>
   by_cases hm : ∃ ms, m = .Ad ms
   ·obtain ⟨ms, rfl⟩ := hm
    simp only [YE, RR] at R ⊢;obtain ⟨ds, vs, h1, h2, h3, h4, h5⟩ := R;refine ⟨ds, vs, h1, h2, by rw [dZ]; exact h3, by rw [dZ]; exact h4, fun i m' d' u e1 e2 e3 => ?_⟩
    obtain ⟨m0, g1, rfl⟩ := A45 e1;obtain ⟨a1, a2, a3, a4⟩ := h5 i m0 d' u g1 e2 e3
    split
    ·exact ⟨a1, a2, by cases m0 <;> simp_all [Su.NV, X0], a4.NV⟩
    ·exact ⟨a1, a2, (a4.Qa a3).2, (a4.Qa a3).1⟩
   ·have : YE m (.T_ n os) = Qa m := by
     unfold YE
     split <;> first | rfl | (rename_i h1 h2; simp_all)
    rw [this]; exact B0N R
theorem B4N {f : FuncId} {s : AB} {ts : List TypeId} {xs : List Operand} {rs extra : List (DV × Meta)} {ev : List Value} (hO : Cv C R) (hs : C.sig f = some s)
 (U1 : (execOp a.eval o).run C.P w = .ok (.enter f (xs.map a.eval ++ ev).toArray) w) (hsr : Hq C.P st ts xs = some rs) (hel : extra.length = ev.length)
 (GM : ∀ (i : Nat) r v, extra[i]? = some r → ev[i]? = some v → ∀ p q, RR E w.heap p q r.1 r.2 v ∧ r.2 ≠ .own ∧ r.2 ≠ .full)
 (H : og (((rs ++ extra).all fun r => B3y r.2) && decide ((s.params.filter Cy).length ≤ 1) && A5W s.results)
   (ob (R.r f (Gq s.params (rs ++ extra)) st.sg) fun q =>
     dn s.results q.1 fun r => k (({ st with sg := q.2 }.Gn (Ep 0 s.params xs)).put o.dst r.1 r.2)) = some x)
 (Rl : J2 E st a w.heap) (T : Then E w k x K) : Gp C.P o a w K := by
 obtain ⟨hg, H⟩ := F8 H;obtain ⟨q, hq, H⟩ := C8 H;have H := (A1u H).1;simp only [z13q, decide_eq_true_eq] at hg;obtain ⟨⟨hgo, Hd⟩, B74⟩ := hg;obtain ⟨s', Dw, B8O, hR⟩ := hO.r f _ _ q hq;rw [hs] at Dw;cases Dw;generalize hgd : Ep 0 s.params xs = g at H;have Rl0 : J2 (E.re (ak g)) (st.Gn g) a w.heap := A76 Rl;have sg0 : (st.Gn g).sg = st.sg := by
  cases g with
  | none => rfl
  | some p => simp only [St.Gn]; cases p.2 <;> rfl
 generalize hE0 : E.re (ak g) = E0 at Rl0;have E0n : E0.n = E.n := by rw [← hE0]; rfl
 obtain ⟨l1, l2⟩ := yf Rl hsr;have Z4 : (xs.map a.eval ++ ev).length = (Gq s.params (rs ++ extra)).length := by rw [mq]; simp [l1, hel]
 have cs : O7 .shut = .shut := rfl;have co : O7 .other = .other := rfl;refine pJ U1 ((hR (E0.re O7) w (xs.map a.eval ++ ev) (fun b o hb => ?_) ?_ (fun i ob hi => ?_) Z4 (fun i r v hr hv => ?_)).mono ?_)
 ·simp only [Env.re]; rw [Rl0.fresh b o hb]; rfl
 ·rw [← sg0]; exact Rl0.n
 ·have := Rl0.Q3 i ob (by rw [sg0]; exact hi)
  exact RO.to (E := E0) ⟨fun b o h => by simp only [Env.re]; rw [h]; rfl, fun b o h => by simp only [Env.re]; rw [h]; rfl, rfl, rfl, rfl, rfl⟩ (fun j b o h => by simp only [Env.re]; rw [h]; rfl) this
 ·obtain ⟨r0, h1, h2, h3⟩ := A1w hr
  have B5T : ∀ (p q : Nat) (m : Meta), RR E w.heap p q r0.1 m v → RR (E0.re O7) w.heap 0 i r0.1 (dm m) v := by
   intro p q m hh;have h1 : RR E w.heap 2 0 r0.1 (dm m) v := hh.dm;have h2 : RR E0 w.heap 2 0 r0.1 (dm m) v := by
    rw [← hE0];exact h1.re (Di (by simp)) (Di (by simp)) fun b => Di (by simp)
   have h3 : RR (E0.re O7) w.heap 2 0 r0.1 (dm m) v := h2.re rfl rfl fun b => rfl
   exact h3.A6g
  have B3z : ∀ (p q : Nat) (m : Meta), RR E w.heap p q r0.1 m v → RR (E0.re O7) w.heap 0 i r0.1 (Qa m) v := by
   intro p q m hh;have h0 := B5T p q m hh;unfold Qa
   split
   ·rename_i hd
    exact RR.val (RR.data (B3V hd) h0)
   ·exact h0
  rw [h2]
  by_cases hi : i < rs.length
  ·rw [z5q hi] at h1
   have hv' : (xs.map a.eval)[i]? = some v := by rwa [z5q (by simpa [l1] using hi)] at hv
   obtain ⟨y, t, hy, rfl, hsy, hRy⟩ := l2 i r0 v h1 hv';rcases h3 with ⟨kk, h4, Ja, h5⟩ | ⟨h4, h5⟩
   ·rw [h5]
    have hp : Ep 0 s.params xs = some (0 + i, y) := mV Hd h4 Ja hy;rw [z15q, hgd] at hp;subst hp;have h6 : RR E0 w.heap 4 i r0.1 r0.2 (a.eval y) := by
     rw [← hE0]
     by_cases hyt : ∃ j, y = .tmp j
     ·obtain ⟨j, rfl⟩ := hyt
      exact hRy.re (Di (by simp)) (Di (by simp)) fun b => by simp [ak, iE, mW]
     ·exact (J2.A82 hsy (fun j hj => hyt ⟨j, hj⟩) 4 i).re (Di (by simp)) (Di (by simp)) fun b => Di (by simp)
    have h7 : RR (E0.re O7) w.heap 0 i r0.1 r0.2 (a.eval y) := h6.re rfl rfl fun b => rfl
    exact A44 Ja h7
   ·rw [h5]; exact B3z _ _ _ hRy
  ·have hge : rs.length ≤ i := z43q hi
   rw [z6q hge] at h1;rw [z6q (by simpa [l1] using hge)] at hv
   simp only [List.length_map, ← l1] at hv;obtain ⟨h6, h7, h8⟩ := GM _ r0 v h1 hv 2 0;have h9 := B3z 2 0 _ h6;rcases h3 with ⟨kk, h4, Ja, h5⟩ | ⟨h4, h5⟩
   ·rw [h5]
    have X9 : RR E0 w.heap 4 i r0.1 r0.2 v := by
     rw [← hE0];exact (GM _ r0 v h1 hv 4 i).1.re (Di (by simp)) (Di (by simp)) fun b => Di (by simp)
    exact A44 Ja (X9.re rfl rfl fun b => rfl)
   ·rw [h5]; exact h9
 ·rintro e w' ⟨OJ, v, E1, he, P1, tK, hn1, ho1, B75⟩
  subst he;generalize ht : o.dst.getD 0 = t
  let one : Bool := decide (s.results.length = 1)
  have dO : ∀ i : Nat, (if one = true then 0 else i + 1) = (if s.results.length = 1 then 0 else i + 1) := fun i => by simp [one]
  let E' : Env := E0.back E1 w.heap.size t one
  have A6U : ∀ b o, E1.O b o ≠ .other → ¬ (b < w.heap.size ∧ O7 (E0.O b o) = .other) := by
   rintro b o h1 ⟨h2, h3⟩;have := P1.tags b o h2 (by simp only [Env.re]; rw [h3]; simp [J8])
   simp only [Env.re] at this;rw [h3] at this;exact h1 this
  have xc : ∀ b o T, E1.O b o = T → T ≠ .other → E'.O b o = KJ t one T := by
   intro b o T h1 h2
   show (if b < w.heap.size ∧ O7 (E0.O b o) = .other then E0.O b o else KJ t one (E1.O b o)) = _
   rw [if_neg (A6U b o (by rw [h1]; exact h2)), h1]
  have Pc : Pr (fun T => J8 (O7 T)) E0 w.heap E' w'.heap := by
   refine ⟨P1.size, fun b hb => P1.blk b hb, fun b o hb hn => ?_, P1.n, fun i hi => P1.Q3 i hi, fun _ _ => rfl⟩
   show (if b < w.heap.size ∧ O7 (E0.O b o) = .other then E0.O b o else KJ t one (E1.O b o)) = _
   by_cases hc : O7 (E0.O b o) = .other
   ·rw [if_pos ⟨hb, hc⟩]
   ·rw [if_neg fun h => hc h.2]
    have VC : O7 (E0.O b o) = .shut := by
     by_cases hs : O7 (E0.O b o) = .shut
     ·exact hs
     ·exact absurd ⟨hc, hs⟩ hn
    have h2 := P1.tags b o hb (by simp only [Env.re]; exact hn)
    simp only [Env.re] at h2;rw [h2, VC];have : E0.O b o = .shut := by
     revert VC
     unfold O7
     split <;> simp_all
    rw [this]; rfl
  have I9 := Pc.shut (by simp [J8, O7]) Rl0.fresh
  have R2 : J2 E' ((st.Gn g).Hz q.2) a w'.heap := by
   refine ⟨Rl0.size, Rl0.Aq, Rl0.Cs, hn1, fun u v' hu => ?_, fun s' cs' Dw => ?_, fun i ob hi => ?_, fun b o hb => ?_⟩
   ·exact (Rl0.regs u v' hu).mono Pc I9 (fun b => by simp [J8, O7]) (fun s o _ => by simp [J8, O7])
   ·exact (Rl0.boxes s' cs' Dw).mono Pc I9 (by simp [J8, O7]) (fun j => by simp [J8, O7])
   ·exact (ho1 i ob hi).to ⟨fun b o h => xc b o _ h (by simp), fun b o h => xc b o _ h (by simp), rfl, rfl, rfl, rfl⟩ fun j b o h => xc b o _ h (by simp)
   ·show (if b < w.heap.size ∧ O7 (E0.O b o) = .other then E0.O b o else KJ t one (E1.O b o)) = _
    have := P1.size;rw [if_neg (by omega), tK b o hb]; rfl
  refine ⟨v, rfl, T E' _ _ w' ?_ (R2.put (dst := o.dst) (d := (Mi s.results q.1).1) (m := (Mi s.results q.1).2) (v := v) fun t0 ht0 => ?_) ?_ OJ⟩
  ·rw [← H]
   congr 1
   cases g with
   | none => rfl
   | some p => simp only [St.Gn]; cases p.2 <;> rfl
  ·have htt : t = t0 := by rw [← ht, ht0]; rfl
   rw [← htt];exact B75.back B74 (fun i => ⟨fun b o h => xc b o _ h (by simp), fun b o h => by rw [xc b o _ h (by simp)]; simp only [KJ]; rw [dO], rfl, rfl, rfl, rfl⟩)
    fun h1 i => ⟨fun b o h => xc b o _ h (by simp), fun b o h => by rw [xc b o _ h (by simp)]; simp [KJ, one, h1], rfl, rfl, rfl, rfl⟩
  ·have P0 : Pr J8 E w.heap E0 w.heap := by
    rw [← hE0];exact Pr.re fun T hT => Di fun p s b _ _ he => hT (by rw [he]; simp [J8])
   refine P0.trans (Pc.weaken fun T hT => ⟨fun h => ?_, fun h => ?_⟩)
   ·rw [h] at hT; simp [J8, O7] at hT
   ·rw [h] at hT; simp [J8, O7] at hT
end
end Go.Su

/-
 THE DATA MACHINE: a writable array's elements are cleared.
-/
namespace Go.Su
section
variable {X : Type} {C : X5} {R : N7} {o : Oper} {st : St} {k : St → Option X} {x : X} {E : Env} {a : Act} {w : World} {K : Act → World → Prop}
theorem B3J {E : Env} {h : Heap} {i sz n : Nat} {ds : List DV} (B : RO E h i (.arr sz ds)) : RO E h i (.arr sz (ds.take n)) := by
 simp only [RO] at B ⊢;intro hne;have hd : ds ≠ [] := by intro e; rw [e] at hne; simp at hne
 obtain ⟨c, T, b1, b2, b3, b4, b5⟩ := B hd;have I9 : (ds.take n).length * sz ≤ ds.length * sz := z8q _ (by rw [z69q]; omega)
 refine ⟨c, T, b1, by omega, b3, fun o h1 h2 => b4 o h1 (by omega), fun j d hj => b5 j d ?_⟩
 rw [z63q] at hj
 split at hj
 ·exact hj
 ·cases hj
theorem A5I (zs : Array Value) (n : Nat) : (Builtin.zeroCells zs n).size = n * zs.size := by simp [Builtin.zeroCells]
theorem A5J {zs : Array Value} {n : Nat} (h : ∀ v ∈ zs.toList, v.oneCell' = true) : ∀ v ∈ (Builtin.zeroCells zs n).toList, v.oneCell' = true := by
 intro v hv;simp only [Builtin.zeroCells, Array.toList_map, List.mem_map, Array.toList_range, List.mem_range] at hv;obtain ⟨j, hj, rfl⟩ := hv;have hz : 0 < zs.size := by
  rcases z56q zs.size with h | h
  ·rw [h] at hj; omega
  ·exact h
 have hm : j % zs.size < zs.size := Nat.mod_lt _ hz;rw [getElem!_pos zs _ hm];exact h _ (Array.getElem_mem_toList hm)
theorem B1v {P : Program} {w w' : World} {t e : TypeId} {ty : TypeId} {p : Addr} {n cap : Nat} {inf : TypeInfo} {zv : Value} (hu : P.underlying t = some (.slice e)) (hi : P.info? e = some inf) (hz : inf.zero = some zv) (hn : 0 < n)
 (h : (storeCells p (Builtin.zeroCells zv.cells n).toList).run P w = .ok () w') : (Builtin.clear_ #[t] ty #[.slice (some p) n cap]).run P w = .ok (.tuple #[]) w' := by
 unfold Builtin.clear_;obtain ⟨m, rfl⟩ : ∃ m, n = m + 1 := ⟨n - 1, by omega⟩
 simp [run_underlying hu, zeroValue, typeInfo, hi, hz, h]
theorem A93 {P : Program} {w : World} {t e : TypeId} {ty : TypeId} {p : Option Addr} {cap : Nat} (hu : P.underlying t = some (.slice e)) : (Builtin.clear_ #[t] ty #[.slice p 0 cap]).run P w = .ok (.tuple #[]) w := by
 unfold Builtin.clear_;cases p <;> simp [run_underlying hu]
theorem B1B {c : Call} {y : Operand} {t : TypeId} (E9 : o.op = .call c) (hc : c.callee = .builtin .clear) (ha : c.args.toList = [y]) (ht : c.argTypes.toList = [t]) (H : WQ C o y t st k = some x)
 (Rl : J2 E st a w.heap) (T : Then E w k x K) : Gp C.P o a w K := by
 unfold WQ at H;obtain ⟨r, h1, H⟩ := C8 H;obtain ⟨q, hq, H⟩ := C8 H;obtain ⟨A, hA, H⟩ := C8 H;obtain ⟨e, he, H⟩ := C8 H;obtain ⟨z, hz, H⟩ := C8 H;obtain ⟨zs, dR, H⟩ := C8 H;obtain ⟨hb, H9⟩ := F8 H;clear H;simp only [z13q, beq_iff_eq, decide_eq_true_eq] at hb;obtain ⟨⟨⟨s1, s2⟩, s3⟩, s4⟩ := hb;obtain ⟨i, sz, off, len⟩ := q;simp only at s1 s2 s4 hA H9;have hm := A2C hq;have e1 := Rl.src h1;rw [hm] at e1;simp only [RR, K4] at e1;obtain ⟨f0, b, cap, hv, f1, f2, f3, f4, f5⟩ := e1;have hu := A2M he;obtain ⟨inf, zv, DN, Xy, AU⟩ := Qv dR;have hA := Zy hA;rw [s1] at hA;have QI := (z0q.1 hA).1;have oJ : ∀ {E' : Env} {h' : Heap} (t0 : Nat), RR E' h' 0 t0 (.I6 []) .val undef := by
  intro E' h' t0;simp only [RR, K4, RV];exact ⟨#[], rfl, by simp [Pj]⟩
 have fin : ∀ {w'}, (Builtin.clear_ #[t] o.type #[a.eval y]).run C.P w = .ok (.tuple #[]) w' → (execOp a.eval o).run C.P w = .ok (.value (.tuple #[])) w' := by
  intro w' h;refine KM E9 hc ?_;rw [zD ht, show c.args.map a.eval = #[a.eval y] from by rw [zD ha]; simp]
  simp only [builtin];exact C_ h
 rcases z56q len with h0 | hp
 ·subst h0
  have R1 : J2 E { st with sg := st.sg.set i (.arr sz (A.2.take off)) } a w.heap := by
   refine ⟨Rl.size, Rl.Aq, Rl.Cs, by simpa using Rl.n, Rl.regs, Rl.boxes, fun i' ob hi => ?_, Rl.fresh⟩
   by_cases Gf : i = i'
   ·subst Gf
    simp only [z4q QI, Option.some.injEq] at hi;subst hi;exact B3J (Rl.Q3 i _ hA)
   ·simp only [z1q Gf] at hi
    exact Rl.Q3 i' ob hi
  exact Bv (fin (w' := w) (by rw [hv]; exact A93 hu)) (T E _ _ w H9 (R1.put fun t0 _ => oJ t0) (Pr.refl _ _ _) (Q5.refl _))
 ·have B := Rl.Q3 i _ hA
  simp only [RO] at B;have hne : A.2 ≠ [] := by intro h; rw [h] at s4; simp at s4; omega
  obtain ⟨c, TT, b1, b2, b3, b4, b5⟩ := B hne;have hmul : off * sz + len * sz ≤ A.2.length * sz := by rw [← z32q]; exact z8q _ s4
  have G := AU E w.heap;have Y9 : zv.cells.size = sz := by have := G.1; simp at this; omega
  have dO : ∀ v ∈ zv.cells.toList, v.oneCell' = true := by
   intro v hv;obtain ⟨j, hj, xh⟩ := z24q.1 hv;have hj2 : j < zs.length := by rw [G.1]; exact hj
   exact (G.2 j _ v (z3q hj2) (by rw [z3q hj, xh])).1.2.1
  have Z4 : (Builtin.zeroCells zv.cells len).toList.length = len * sz := by rw [z62q, A5I, Y9]
  obtain ⟨w', hw, S⟩ := Kt (P := C.P) (E.base i + off * sz) (Builtin.zeroCells zv.cells len).toList c 0 w b1 (by omega) (A5J dO) (fun o _ _ => by simp)
  simp only [z35q] at S;have P1 : Pr (fun t => t = .obj i) E w.heap E w'.heap := S.Pr b1 fun j h1 h2 => b4 j (by omega) (by omega)
  have hs := P1.shut (by simp) Rl.fresh
  have R1 : J2 E { st with sg := st.sg.set i (.arr sz (A.2.take off)) } a w'.heap := by
   refine ⟨Rl.size, Rl.Aq, Rl.Cs, by simpa using Rl.n, fun t v hv => (Rl.regs t v hv).mono P1 hs (by simp) (by simp), fun s' cs' Dw => (Rl.boxes s' cs' Dw).mono P1 hs (by simp) (by simp), fun i' ob hi => ?_, fun b o' TC => Rl.fresh b o' (by rw [← S.size]; exact TC)⟩
   by_cases Gf : i = i'
   ·subst Gf
    simp only [z4q QI, Option.some.injEq] at hi;subst hi;simp only [RO];intro _;obtain ⟨c', e1', e2', e3'⟩ := S.ex;have I9 : (A.2.take off).length * sz ≤ off * sz := z8q _ (by rw [z69q]; omega)
    refine ⟨c', TT, e1', by rw [e2']; omega, b3, fun o h1 h2 => b4 o h1 (by omega), fun j d hj => ?_⟩
    rw [z63q] at hj
    split at hj
    ·rename_i hjo
     obtain ⟨us, u1, u2, u3⟩ := b5 j d hj;refine ⟨us, u1, fun y q hq => ?_, u3.mono hs⟩
     have hy : y < sz := by have := (z0q.1 hq).1; omega
     have : j * sz + sz ≤ off * sz := by rw [← z34q]; exact z8q _ hjo
     rw [e3', if_neg (by omega), u2 y q hq]
    ·cases hj
   ·simp only [z1q Gf] at hi
    exact (Rl.Q3 i' ob hi).mono P1 hs (En Rl hi) (by simp; exact fun h => Gf h.symm) (by simp)
  refine Bv (fin (w' := w') ?_) (T E _ _ w' H9 (R1.put fun t0 _ => oJ t0) (P1.weaken (by rintro T rfl; simp [J8])) S.out)
  rw [hv, f1 hp];exact B1v hu DN Xy hp hw
end
end Go.Su

/-
 THE DATA MACHINE, part 18: one operation, whichever it is.
-/
namespace Go.Su
section
variable {X : Type} {C : X5} {R : N7} {o : Oper} {st : St} {k : St → Option X} {x : X} {E : Env} {a : Act} {w : World} {K : Act → World → Prop} {Q : Exit → Act → World → Prop}
open Classical in
noncomputable def Env.B5R (E : Env) (n b off m tp : Nat) : Env :=
 { E with obj := fun i => if i = E.n then b else E.obj i, base := fun i => if i = E.n then off else E.base i, top := fun i => if i = E.n then tp else E.top i, n := E.n + 1,
          O := fun b' o => if b' < n then E.O b' o else if b' = b ∧ off ≤ o ∧ o < off + m then .obj E.n else .other }
theorem B1C {f : FuncId} {v : Value} {r : DV × Meta} {sz : Nat} {ds : List DV} (hO : Cv C R) (hc : C.clone f = true) (U1 : (execOp a.eval o).run C.P w = .ok (.enter f #[v]) w)
 (hd : J3 r.2 = true) (B77 : sz = C.qH f) (hl0 : ds.length ≤ lim) (hr : r.1 = .list sz ds) {p q : Nat} (hv : RR E w.heap p q r.1 r.2 v)
 (H : k ({ st with sg := st.sg ++ [D7.arr sz ds] }.put o.dst .undef (.arr st.sg.length sz 0 ds.length)) = some x) (Rl : J2 E st a w.heap) (T : Then E w k x K) : Gp C.P o a w K := by
 have hS : ∀ b o, w.heap.size ≤ b → ¬ E.S b o := fun b o hb hs => by have h9 := Rl.fresh b o hb; rw [show E.O b o = Tag.shut from hs] at h9; cases h9
 have Vg := (hO.c f hc).2;rw [← B77] at Vg;refine pJ U1 ((Vg E.S w v ds hl0 hS (by rw [← hr]; exact hv.data hd)).mono ?_)
 rintro e w' ⟨a0, b, off, cap, he, ha0, A35, A9C, A9I, Y9, OJ, hblk, A9G⟩;subst he
 let E' := E.B5R w.heap.size b off (ds.length * sz) (off + cap * sz)
 have Pc : Pr (fun _ => False) E w.heap E' w'.heap := by
  refine ⟨Y9, fun b' hb => by rw [hblk b' hb]; exact X4.refl _ _, fun b' o hb _ => ?_, z72q _, fun i hi => ?_, fun _ _ => rfl⟩
  ·show (if b' < w.heap.size then E.O b' o else _) = _
   rw [if_pos hb]
  ·have : i ≠ E.n := by omega
   exact ⟨if_neg this, if_neg this, if_neg this⟩
 have I9 := Pc.shut (by simp) Rl.fresh
 have n0 : st.sg.length = E.n := Rl.n;have R2 : J2 E' { st with sg := st.sg ++ [D7.arr sz ds] } a w'.heap := by
  refine ⟨Rl.size, Rl.Aq, Rl.Cs, by simp [n0]; rfl, fun t v hv => (Rl.regs t v hv).mono Pc I9 (by simp) (by simp), fun s cs hs => (Rl.boxes s cs hs).mono Pc I9 (by simp) (by simp), fun i ob hi => ?_, fun b' o hb => ?_⟩
  ·by_cases De : i < st.sg.length
   ·rw [z5q De] at hi
    exact (Rl.Q3 i ob hi).mono Pc I9 (by rw [← n0]; exact De) (by simp) (by simp)
   ·rw [z6q (z43q De)] at hi
    have hi0 : i - st.sg.length = 0 := by
     have := (z0q.1 hi).1;simpa using this
    have hie : i = E.n := by omega
    rw [hi0] at hi;simp only [z14q, Option.some.injEq] at hi;subst hi hie;simp only [RO];intro hne;obtain ⟨hb, c, T0, h1, h2, h3, h4⟩ := A9G hne;have e1 : E'.obj E.n = b := if_pos rfl;have e2 : E'.base E.n = off := if_pos rfl;rw [e1, e2];refine ⟨c, T0, h1, h2, h3, fun o ho1 ho2 => ?_, fun j d hj => ?_⟩
    ·show (if b < w.heap.size then E.O b o else if b = b ∧ off ≤ o ∧ o < off + ds.length * sz then Tag.obj E.n else .other) = _
     rw [if_neg (by omega), if_pos ⟨rfl, ho1, ho2⟩]
    ·obtain ⟨vs, v1, v2, v3⟩ := h4 j d hj
     refine ⟨vs, v1, v2, v3.mono ⟨fun b' o hs => ?_, fun _ _ _ _ hv => hv⟩⟩
     exact I9.s b' o hs
  ·show (if b' < w.heap.size then E.O b' o else if b' = b ∧ off ≤ o ∧ o < off + ds.length * sz then Tag.obj E.n else .other) = _
   rw [if_neg (by omega)]
   split
   ·rename_i h
    by_cases hne : ds = []
    ·subst hne; simp at h; omega
    ·obtain ⟨-, c, T0, h1, -⟩ := A9G hne
     have := (z12q.1 h1).1;omega
   ·rfl
 refine ⟨_, rfl, T E' _ _ w' H (R2.put fun t _ => ?_) (Pc.weaken (by simp)) OJ⟩
 simp only [RR, K4];refine ⟨by rw [n0]; exact Nat.lt_succ_self _, _, _, rfl, fun hpos => ?_, A35, A9C, A9I, fun _ => by rw [n0, z15q]; exact z49q ((congrArg (· + cap * sz) (if_pos rfl)).trans (if_pos rfl).symm)⟩
 rw [n0, ha0 (fun h => by rw [h] at hpos; exact Nat.lt_irrefl 0 hpos)]
 have e1 : E'.obj E.n = b := if_pos rfl;have e2 : E'.base E.n = off := if_pos rfl;rw [e1, e2];simp
theorem B0o {d : DV} {cs : List DV} (h : B1V d = some cs) : d = .agg cs := by
 cases d <;> simp only [B1V, reduceCtorEq, Option.some.injEq] at h;rw [h]
theorem B4M {f g : FuncId} {v : Value} {r : DV × Meta} {cs : List DV} (hO : Cv C R) (hc : C.iD f = some g) (U1 : (execOp a.eval o).run C.P w = .ok (.enter f #[v]) w)
 (hd : J3 r.2 = true) (hr : r.1 = .agg cs) (hl : cs.length = C.qH f) {p q : Nat} (hv : RR E w.heap p q r.1 r.2 v)
 (H : k ({ st with sg := st.sg ++ [D7.box (cs.map fun d => (d, .val))] }.put o.dst .undef (.fn g [(st.sg.length, 0)])) = some x) (Rl : J2 E st a w.heap) (T : Then E w k x K) : Gp C.P o a w K := by
 have h1 := hv.data hd;rw [hr] at h1;simp only [RV] at h1;obtain ⟨vs, rfl, h2⟩ := h1;obtain ⟨l1, h3⟩ := EP.1 h2;have l2 : vs.size = C.qH f := by rw [← hl, l1]; simp
 refine pJ U1 (((hO.m f g hc).2 w vs l2).mono ?_);rintro e w' ⟨rfl, T0, rfl⟩;have cok : FX E w.heap (cs.map fun d => (d, Meta.val)) vs.toList := by
  refine ⟨by simp [l1], fun j r' u hj hu => ?_⟩
  simp only [z31q, z25q] at hj;obtain ⟨d, Gd, rfl⟩ := hj;obtain ⟨a1, a2⟩ := h3 j d u Gd hu;exact ⟨⟨a1, Gx a1 a2, rfl, Rx a1 a2⟩, by simp⟩
 obtain ⟨R1, P1⟩ := Rl.newObj (T0 := T0) cok;refine ⟨_, rfl, T _ _ _ (w.alloc (.cells vs T0)) H (R1.put fun t0 _ => ?_) (P1.weaken (by simp)) ⟨rfl, rfl, rfl⟩⟩
 have hn := Rl.n;simp only [RR, K4, Env.newObj];refine ⟨?_, fun c hc => ?_⟩
 ·simp [hn]
 ·simp only [z29q] at hc
  subst hc;simp [hn]
theorem B1A {f : FuncId} {ts : List TypeId} {xs : List Operand} {rs extra : List (DV × Meta)} {ev : List Value} (hO : Cv C R)
 (U1 : isGo C.P f = true → (execOp a.eval o).run C.P w = .ok (.enter f (xs.map a.eval ++ ev).toArray) w) (hsr : Hq C.P st ts xs = some rs) (hel : extra.length = ev.length)
 (GM : ∀ (i : Nat) r v, extra[i]? = some r → ev[i]? = some v → ∀ p q, RR E w.heap p q r.1 r.2 v ∧ r.2 ≠ .own ∧ r.2 ≠ .full)
 (H : Il C R o f xs (rs ++ extra) st k = some x) (Rl : J2 E st a w.heap) (T : Then E w k x K) : Gp C.P o a w K := by
 obtain ⟨l1, l2⟩ := yf Rl hsr;have all : ∀ (i : Nat) r v, (rs ++ extra)[i]? = some r → (xs.map a.eval ++ ev)[i]? = some v → ∃ p q, RR E w.heap p q r.1 r.2 v := by
  intro i r v hr hv
  by_cases hi : i < rs.length
  ·rw [z5q hi] at hr
   rw [z5q (by simpa [l1] using hi)] at hv
   obtain ⟨y, t, hy, rfl, hsy, hRy⟩ := l2 i r v hr hv;exact ⟨_, _, hRy⟩
  ·have hge : rs.length ≤ i := z43q hi
   rw [z6q hge] at hr;rw [z6q (by simpa [l1] using hge)] at hv
   simp only [List.length_map, ← l1] at hv;exact ⟨0, 0, (GM _ r v hr hv 0 0).1⟩
 have Z4 : (rs ++ extra).length = (xs.map a.eval ++ ev).length := by simp [l1, hel]
 unfold Il at H
 split at H
 ·rename_i hc
  split at H
  ·rename_i r hrs
   ·obtain ⟨p, hp, H⟩ := C8 H
    obtain ⟨sz, ds⟩ := p;have Fw : r.1 = .list sz ds := by
     cases hr : r.1 <;> rw [hr] at hp <;> simp only [A9n, reduceCtorEq, Option.some.injEq, Prod.mk.injEq] at hp;obtain ⟨rfl, rfl⟩ := hp;rfl
    obtain ⟨hd, H9⟩ := F8 H;simp only [z13q, beq_iff_eq, decide_eq_true_eq] at hd;obtain ⟨⟨hd, hz⟩, hl0⟩ := hd;simp only [← hz] at H9;rw [hrs] at Z4;obtain ⟨v, hv⟩ := z28q.1 (Z4.symm : (xs.map a.eval ++ ev).length = 1);obtain ⟨p, q, hR⟩ := all 0 r v (by rw [hrs]; rfl) (by rw [hv]; rfl)
    have := U1 (hO.c f hc).1;rw [hv] at this;exact B1C hO hc this hd hz hl0 Fw hR H9 Rl @T
  ·simp at H
 ·split at H
  ·rename_i g hg
   split at H
   ·rename_i r hrs
    obtain ⟨cs, Gc, H⟩ := C8 H;obtain ⟨hd, H9⟩ := F8 H;simp only [z13q, beq_iff_eq] at hd;rw [hrs] at Z4;obtain ⟨v, hv⟩ := z28q.1 (Z4.symm : (xs.map a.eval ++ ev).length = 1);obtain ⟨p, q, hR⟩ := all 0 r v (by rw [hrs]; rfl) (by rw [hv]; rfl)
    have := U1 (hO.m f g hg).1;rw [hv] at this;exact B4M hO hg this hd.1 (B0o Gc) hd.2 hR H9 Rl @T
   ·simp at H
  split at H
  ·have hp : isGo C.P f = true := by
    obtain ⟨_, H1⟩ := F8 H;obtain ⟨d, hd, _⟩ := C8 H1;exact (hO.p f _ d hd).1
   exact B3b hO (U1 hp) Z4 all H Rl @T
  ·rename_i s hs
   have hp : isGo C.P f = true := by
    obtain ⟨_, H1⟩ := F8 H;obtain ⟨d, hd, _⟩ := C8 H1;obtain ⟨_, _, h, _⟩ := hO.r f _ _ d hd;exact h
   exact B4N hO hs (U1 hp) hsr hel GM H Rl @T
theorem B26 {fl : Flags} {c : Call} (hO : Cv C R) (E9 : o.op = .call c) (H : Ec C R fl o c st k = some x) (Rl : J2 E st a w.heap) (T : Then E w k x K) : Gp C.P o a w K := by
 unfold Ec at H
 split at H
 ·rename_i b hb
  split at H
  ·rename_i h1 h2; exact B4J E9 hb h1 h2 H Rl @T
  ·rename_i h1 h2
   cases gm : K8 fl.opn o.dst
   ·exact A96 E9 hb h1 h2 gm H Rl @T
   ·exact A4h E9 hb h1 h2 gm H Rl @T
  ·rename_i h1 h2; exact B1B E9 hb h1 h2 H Rl @T
  ·rename_i h1 h2; exact B4K E9 hb h1 H Rl @T
  ·rename_i h1 h2; exact B4L E9 hb h1 H Rl @T
  ·simp at H
 ·rename_i fv hfv
  obtain ⟨r, h1, H1⟩ := C8 H;obtain ⟨rs, h2, H2⟩ := C8 H1
  split at H2
  ·rename_i f caps hr
   have hfn := Rl.src h1;rw [hr] at hfn;simp only [RR, K4] at hfn;refine B1A (ts := c.argTypes.toList) (ev := caps.map fun c => Value.pointer (some ⟨E.obj c.1, c.2, none⟩)) hO (fun hg => ?_) h2 (by simp) (fun i r' v CQ hv p q => ?_) H2 Rl @T
   ·simp only [execOp, E9, resolve, hfv, hfn.1, Deferred.ofValue, Sem.run_bind, Sem.run_pure, Result.andThen_ok, invoke]
    rw [d_ hg]
    congr 2
    apply Array.ext';simp
   ·simp only [z31q, z25q] at CQ hv
    obtain ⟨m, hm, rfl⟩ := CQ;obtain ⟨m', Qp, rfl⟩ := hv;rw [hm] at Qp;cases Qp;refine ⟨?_, by simp, by simp⟩
    simp only [RR, K4];exact ⟨hfn.2 m (z18q hm), trivial⟩
  ·simp at H2
 ·simp at H
theorem B6n {fl : Flags} (hO : Cv C R) (H : I4 C R fl o st k = some x) (Rl : J2 E st a w.heap) (T : Then E w k x K) : Gp C.P o a w K := by
 unfold I4 at H
 split at H
 ·rename_i y E9; exact A7i (by simp [execOp, E9]) H Rl @T
 ·rename_i y E9; exact A7i (by simp [execOp, E9]) H Rl @T
 ·rename_i E9; exact B3a E9 H Rl @T
 ·rename_i E9; exact B1y E9 H Rl @T
 ·rename_i E9; exact B4G E9 H Rl @T
 ·rename_i E9; exact B1z E9 H Rl @T
 ·rename_i E9; exact A4i E9 H Rl @T
 ·rename_i E9; exact B29 E9 H Rl @T
 ·rename_i E9; exact B1G E9 H Rl @T
 ·rename_i E9; exact A7j E9 H Rl @T
 ·rename_i E9; exact B4F E9 H Rl @T
 ·rename_i E9; exact B6o E9 H Rl @T
 ·rename_i E9; exact B27 E9 H Rl @T
 ·rename_i E9; exact A5q E9 H Rl @T
 ·rename_i E9; exact B1D E9 H Rl @T
 ·rename_i E9; exact A5r E9 H Rl @T
 ·rename_i E9; exact B1E E9 H Rl @T
 ·rename_i E9; exact B1F E9 H Rl @T
 ·rename_i E9; exact A7h E9 H Rl @T
 ·rename_i E9; obtain ⟨q, _, H9⟩ := C8 H; exact A8f E9 H9 Rl @T
 ·rename_i E9; exact A97 E9 H Rl @T
 ·rename_i E9; exact A5s E9 H Rl @T
 ·rename_i E9; exact A8e E9 H Rl @T
 ·rename_i E9; exact B26 hO E9 H Rl @T
 ·simp at H
end
end Go.Su

/-
 THE DATA MACHINE, part 19: an operation sees what its footprint says, and writes what it says.
-/
namespace Go.Su
theorem K9 {α β : Type} (a : α) (g : α → Option β) : ob (some a) g = g a := rfl
theorem W9 {β : Type} (y : Option β) : og true y = y := rfl
structure FW (f : Fp) (st st' : St) : Prop where
 lt : st'.tm.length = st.tm.length
 lm : st'.mt.length = st.mt.length
 lb : st'.bx.length = st.bx.length
 t : ∀ i ∈ f.rt, st'.tm[i]? = st.tm[i]? ∧ st'.mt[i]? = st.mt[i]?
 b : ∀ i ∈ f.rb, st'.bx[i]? = st.bx[i]?
 s : f.rs = true → st'.sg = st.sg
 n : ∀ t, f.nb = some t → Jp t st'.mt = true
structure Two (f : Fp) (st st' s s' : St) : Prop where
 l : st'.tm.length = st.tm.length ∧ st'.mt.length = st.mt.length ∧ st'.bx.length = st.bx.length
 ls : s.tm.length = st.tm.length ∧ s.mt.length = st.mt.length ∧ s.bx.length = st.bx.length
 ls' : s'.tm.length = st.tm.length ∧ s'.mt.length = st.mt.length ∧ s'.bx.length = st.bx.length
 t : ∀ i : Nat, (i ∈ f.wt ∧ s'.tm[i]? = s.tm[i]? ∧ s'.mt[i]? = s.mt[i]?) ∨ ((s'.tm[i]? = st'.tm[i]? ∧ s'.mt[i]? = st'.mt[i]?) ∧ s.tm[i]? = st.tm[i]? ∧ s.mt[i]? = st.mt[i]?)
 b : ∀ i : Nat, (i ∈ f.wb ∧ s'.bx[i]? = s.bx[i]?) ∨ (s'.bx[i]? = st'.bx[i]? ∧ s.bx[i]? = st.bx[i]?)
 s : (f.ws = true ∧ s'.sg = s.sg) ∨ (s'.sg = st'.sg ∧ s.sg = st.sg)
theorem Two.refl {f : Fp} {st st' : St} (A : FW f st st') : Two f st st' st st' :=
 ⟨⟨A.lt, A.lm, A.lb⟩, ⟨rfl, rfl, rfl⟩, ⟨A.lt, A.lm, A.lb⟩, fun _ => .inr ⟨⟨rfl, rfl⟩, rfl, rfl⟩, fun _ => .inr ⟨rfl, rfl⟩, .inr ⟨rfl, rfl⟩⟩
theorem Two.put {f : Fp} {st st' s s' : St} (A : Two f st st' s s') {dst : Option Nat} (hd : ∀ t ∈ dst.toList, t ∈ f.wt) (d : DV) (m : Meta) : Two f st st' (s.put dst d m) (s'.put dst d m) := by
 cases dst with
 | none => exact A
 | some t =>
   have ht : t ∈ f.wt := hd t (by simp)
   obtain ⟨l, ls, ls', a1, a2, a3⟩ := A;refine ⟨l, by simpa [St.put] using ls, by simpa [St.put] using ls', fun i => ?_, a2, a3⟩
   by_cases hi : t = i
   ·subst hi
    refine .inl ⟨ht, ?_, ?_⟩
    ·simp only [St.put, z26q]
     rcases z30q t st.tm.length with h | h
     ·rw [z3q (by omega), z3q (by omega)]; rfl
     ·rw [z9q (by omega), z9q (by omega)]
    ·simp only [St.put, z26q]
     rcases z30q t st.mt.length with h | h
     ·rw [z3q (by omega), z3q (by omega)]; rfl
     ·rw [z9q (by omega), z9q (by omega)]
   ·simp only [St.put, z1q hi]
    exact a1 i
theorem Two.B3G {f : Fp} {st st' s s' : St} (A : Two f st st' s s') {t : Nat} (ht : t ∈ f.wt) (he : s'.tm[t]? = s.tm[t]?) (m : Meta) : Two f st st' { s with mt := s.mt.set t m } { s' with mt := s'.mt.set t m } := by
 obtain ⟨l, ls, ls', a1, a2, a3⟩ := A;refine ⟨l, by simpa using ls, by simpa using ls', fun i => ?_, a2, a3⟩
 by_cases hi : t = i
 ·subst hi
  refine .inl ⟨ht, he, ?_⟩;simp only [z26q];rcases z30q t st.mt.length with h | h
  ·rw [z3q (by omega), z3q (by omega)]; rfl
  ·rw [z9q (by omega), z9q (by omega)]
 ·simp only [z1q hi]
  exact a1 i
theorem Kg {α : Type} {l l' : List α} {i : Nat} (h : l'[i]? = l[i]?) (d : α) : l'.getD i d = l.getD i d := by
 simp only [z2q, h]
theorem Two.release {f : Fp} {st st' s s' : St} (A : Two f st st' s s') {x : Operand} (hx : ∀ t ∈ J9 x, t ∈ f.wt) (he : ∀ t ∈ J9 x, s'.tm[t]? = s.tm[t]? ∧ s'.mt[t]? = s.mt[t]?) : Two f st st' (s.release x) (s'.release x) := by
 cases x with
 | tmp t =>
   have := A.B3G (hx t (by simp [J9])) (he t (by simp [J9])).1 (dm (s.mt.getD t .val))
   simp only [St.release];rw [Kg (he t (by simp [J9])).2]
   exact this
 | _ => exact A
theorem oZ {mt : List Meta} {x : Operand} {u : Nat} (h : u ∈ Dv mt x) : u ∈ J9 x := by
 cases x <;> simp only [Dv] at h
 ·split at h
  ·cases h
  ·exact h
 all_goals cases h
theorem mY {mt mt' : List Meta} {x : Operand} (h : ∀ u ∈ J9 x, mt'[u]? = mt[u]?) : Dv mt' x = Dv mt x := by
 cases x with
 | tmp t =>
   simp only [Dv];rw [Kg (h t (by simp [J9]))]
 | _ => rfl
theorem ol {mt : List Meta} {t i sz a n : Nat} (h : mt.getD t .val = .arr i sz a n) : mt.set t (dm (mt.getD t .val)) = mt := by
 refine z42q fun j => ?_
 by_cases hj : t = j
 ·subst hj
  rw [z2q] at h;cases hm : mt[t]? with
  | none => rw [hm] at h; simp at h
  | some m =>
    rw [hm] at h;simp only [z23q] at h;have hl : t < mt.length := by
     rcases z30q t mt.length with g | g
     ·exact g
     ·rw [z9q g] at hm; cases hm
    rw [z4q hl, z2q, hm, z23q, h];rfl
 ·rw [z1q hj]
theorem B2Z {mt : List Meta} {t : Nat} : Dv mt (.tmp t) = [t] ∨ mt.set t (dm (mt.getD t .val)) = mt := by
 cases h : mt.getD t .val
 case arr i sz a n => exact .inr (by have := ol h; rw [h] at this; exact this)
 all_goals (refine .inl ?_; simp only [Dv, h])
theorem Two.A1U {f : Fp} {st st' s s' : St} (A : Two f st st' s s') {x : Operand} (hx : ∀ t ∈ Dv s.mt x, t ∈ f.wt) (he : ∀ t ∈ J9 x, s'.tm[t]? = s.tm[t]? ∧ s'.mt[t]? = s.mt[t]?) : Two f st st' (s.release x) (s'.release x) := by
 cases x with
 | tmp t =>
   by_cases h : ∃ i sz a n, s.mt.getD t .val = .arr i sz a n
   ·obtain ⟨i, sz, a, n, h⟩ := h
    have h' : s'.mt.getD t .val = .arr i sz a n := by rw [Kg (he t (by simp [J9])).2]; exact h
    have e1 : s.release (.tmp t) = s := by simp only [St.release, ol h]
    have e2 : s'.release (.tmp t) = s' := by simp only [St.release, ol h']
    rw [e1, e2];exact A
   ·refine A.release (fun u hu => hx u ?_) he
    simp only [Dv]
    split
    ·rename_i hm; exact absurd ⟨_, _, _, _, hm⟩ h
    ·exact hu
 | _ => exact A
theorem Two.zX {f : Fp} {st st' s s' : St} (A : Two f st st' s s') {t : Nat} (ht : t ∈ f.wb) (c : Option (List (DV × Meta))) : Two f st st' { s with bx := s.bx.set t c } { s' with bx := s'.bx.set t c } := by
 obtain ⟨l, ls, ls', a1, a2, a3⟩ := A;refine ⟨l, by simpa using ls, by simpa using ls', a1, fun i => ?_, a3⟩
 by_cases hi : t = i
 ·subst hi
  refine .inl ⟨ht, ?_⟩;simp only [z26q];rcases z30q t st.bx.length with h | h
  ·rw [z3q (by omega), z3q (by omega)]; rfl
  ·rw [z9q (by omega), z9q (by omega)]
 ·simp only [z1q hi]
  exact a2 i
theorem Two.Hz {f : Fp} {st st' s s' : St} (A : Two f st st' s s') (hs : f.ws = true) (g : List D7) : Two f st st' { s with sg := g } { s' with sg := g } :=
 ⟨A.l, A.ls, A.ls', A.t, A.b, .inl ⟨hs, rfl⟩⟩
def J5 (a b : List Nat) : Prop := ∀ t ∈ a, t ∈ b
theorem FW.src {f : Fp} {st st' : St} (A : FW f st st') (P : Program) (t : TypeId) {x : Operand} (h : J5 (J9 x) f.rt) : src P t st' x = src P t st x := by
 cases x with
 | tmp i =>
   obtain ⟨h1, h2⟩ := A.t i (h i (by simp [J9]))
   simp only [Su.src, St.get, Kg h1, Kg h2]
 | _ => rfl
theorem FW.Hq {f : Fp} {st st' : St} (A : FW f st st') (P : Program) : ∀ {ts : List TypeId} {xs : List Operand}, J5 (tmpsOf xs) f.rt → Hq P st' ts xs = Hq P st ts xs
 | t :: ts, x :: xs, h => by
   simp only [Su.Hq];rw [A.src P t (fun i hi => h i (by simp [tmpsOf, hi])), FW.Hq A P fun i hi => h i (by simp only [tmpsOf, z10q, z11q]; exact .inr hi)]
 | [], x :: xs, h => by
   simp only [Su.Hq];rw [A.src P 0 (fun i hi => h i (by simp [tmpsOf, hi])), FW.Hq A P fun i hi => h i (by simp only [tmpsOf, z10q, z11q]; exact .inr hi)]
 | [], [], _ => rfl
 | _ :: _, [], _ => rfl
theorem FW.opt {f : Fp} {st st' : St} (A : FW f st st') (P : Program) {x : Option Operand} (h : J5 (tmpsOf x.toList) f.rt) : YD P st' x = YD P st x := by
 cases x with
 | none => rfl
 | some x =>
   simp only [YD];rw [A.src P 0 fun i hi => h i (by simp [tmpsOf, hi])]
theorem FW.bx {f : Fp} {st st' : St} (A : FW f st st') {i : Nat} (h : i ∈ f.rb) : st'.bx.getD i none = st.bx.getD i none := Kg (A.b i h) none
theorem Od {x y : Operand} {r : List Nat} (h : J5 (tmpsOf [x, y]) r) : J5 (J9 x) r ∧ J5 (J9 y) r :=
 ⟨fun i hi => h i (by simp [tmpsOf, hi]), fun i hi => h i (by simp [tmpsOf, hi])⟩
section
variable {X : Type} {C : X5} {R : N7} {fl : Flags} {o : Oper} {st : St} {k : St → Option X} {x : X} {f : Fp}
def Fr (C : X5) (R : N7) (fl : Flags) (o : Oper) (st : St) (k : St → Option X) (x : X) (f : Fp) : Prop :=
 ∃ s, k s = some x ∧ (∀ t, f.nb = some t → Jp t st.mt = true) ∧ ∀ st', FW f st st' → ∃ s', Two f st st' s s' ∧ ∀ (Y : Type) (k' : St → Option Y), I4 C R fl o st' k' = k' s'
theorem M6 {d : DV} {m : Meta} (hk : k (st.put o.dst d m) = some x) (hw : J5 o.dst.toList f.wt) (hn : f.nb = none)
 (h : ∀ st', FW f st st' → ∀ (Y : Type) (k' : St → Option Y), I4 C R fl o st' k' = k' (st'.put o.dst d m)) : Fr C R fl o st k x f :=
 ⟨_, hk, by rw [hn]; simp, fun st' A => ⟨_, (Two.refl A).put hw d m, fun Y k' => h st' A Y k'⟩⟩
theorem A8K {y : Operand} (E9 : o.op = .move y ∨ o.op = .assign y) (H : I4 C R fl o st k = some x) (hr : J5 (J9 y) f.rt) (hw : J5 o.dst.toList f.wt) (hs : K8 fl.M0 o.dst = true → J5 (J9 y) f.wt) (hn : f.nb = none) :
 Fr C R fl o st k x f := by
 have GM : ∀ (Y : Type) (st : St) (k : St → Option Y), I4 C R fl o st k = ob (src C.P o.type st y) fun r => if K8 fl.M0 o.dst then k ((st.release y).put o.dst r.1 r.2) else k (st.put o.dst r.1 (dm r.2)) := by
  intro Y st k;rcases E9 with h | h <;> simp only [I4, h]
 rw [GM] at H;obtain ⟨r, h1, H⟩ := C8 H
 by_cases Q7 : K8 fl.M0 o.dst = true
 ·rw [if_pos Q7] at H
  refine ⟨_, H, by rw [hn]; simp, fun st' A => ⟨_, ((Two.refl A).release (hs Q7) fun t ht => A.t t (hr t ht)).put hw r.1 r.2, fun Y k' => ?_⟩⟩
  rw [GM, A.src _ _ hr, h1];simp only [ob, if_pos Q7]
 ·rw [if_neg Q7] at H
  refine M6 H hw hn fun st' A Y k' => ?_
  rw [GM, A.src _ _ hr, h1];simp only [ob, if_neg Q7]
theorem B33 {c y z : Operand} (E9 : o.op = .pick c y z) (H : I4 C R fl o st k = some x) (hr : J5 (tmpsOf [c, y, z]) f.rt) (hw : J5 o.dst.toList f.wt) (hn : f.nb = none) : Fr C R fl o st k x f := by
 simp only [I4, E9] at H;obtain ⟨rc, h1, H⟩ := C8 H;obtain ⟨ra, h2, H⟩ := C8 H;obtain ⟨rb, h3, H⟩ := C8 H;obtain ⟨h4, H⟩ := F8 H;obtain ⟨d, h5, H⟩ := C8 H;have r1 : J5 (J9 c) f.rt := fun i hi => hr i (by simp [tmpsOf, hi])
 have r2 : J5 (J9 y) f.rt := fun i hi => hr i (by simp [tmpsOf, hi])
 have r3 : J5 (J9 z) f.rt := fun i hi => hr i (by simp [tmpsOf, hi])
 refine M6 H hw hn fun st' A Y k' => ?_
 simp only [I4, E9, A.src _ _ r1, A.src _ _ r2, A.src _ _ r3, h1, h2, h3, ob, h4, og, h5]
theorem B6L {op : UnOp} {t : TypeId} {y : Operand} (E9 : o.op = .unOp op t y) (H : I4 C R fl o st k = some x) (hr : J5 (J9 y) f.rt) (hw : J5 o.dst.toList f.wt) (hn : f.nb = none) : Fr C R fl o st k x f := by
 simp only [I4, E9] at H;obtain ⟨r, h1, H⟩ := C8 H;obtain ⟨h4, H⟩ := F8 H;obtain ⟨d, h5, H⟩ := C8 H;refine M6 H hw hn fun st' A Y k' => ?_
 simp only [I4, E9, A.src _ _ hr, h1, ob, h4, og, h5]
theorem B31 {t u : TypeId} {y : Operand} (E9 : o.op = .convert t u y) (H : I4 C R fl o st k = some x) (hr : J5 (J9 y) f.rt) (hw : J5 o.dst.toList f.wt) (hn : f.nb = none) : Fr C R fl o st k x f := by
 simp only [I4, E9] at H;obtain ⟨r, h1, H⟩ := C8 H
 split at H
 ·rename_i kd hk
  obtain ⟨h4, H⟩ := F8 H;obtain ⟨d, h5, H⟩ := C8 H;refine M6 H hw hn fun st' A Y k' => ?_
  simp only [I4, E9, A.src _ _ hr, h1, ob, hk, h4, og, h5]
 ·simp at H
theorem A6A {t : TypeId} {y : Operand} {i : Nat} (E9 : o.op = .fieldAddr t y i) (H : I4 C R fl o st k = some x) (hr : J5 (J9 y) f.rt) (hw : J5 o.dst.toList f.wt) (hn : f.nb = none) : Fr C R fl o st k x f := by
 simp only [I4, E9, Qg] at H;obtain ⟨r, h1, H⟩ := C8 H;obtain ⟨fd, h2, H⟩ := C8 H;obtain ⟨z, h3, H⟩ := C8 H
 by_cases h0 : z.1 = 0
 ·rw [if_pos h0] at H; simp at H
 ·rw [if_neg h0] at H
  split at H
  all_goals first
   | (rename_i hm
      refine M6 H hw hn fun st' A Y k' => ?_
      simp only [I4, E9, Qg, A.src _ _ hr, h1, h2, h3, ob, if_neg h0, hm])
   | simp at H
theorem A6B {t : TypeId} {y i : Operand} (E9 : o.op = .indexAddr t y i) (H : I4 C R fl o st k = some x) (hr : J5 (tmpsOf [y, i]) f.rt) (hw : J5 o.dst.toList f.wt) (hn : f.nb = none) : Fr C R fl o st k x f := by
 obtain ⟨q1, q2⟩ := Od hr;simp only [I4, E9, JM] at H;obtain ⟨r, h1, H⟩ := C8 H;obtain ⟨j, h2, H⟩ := C8 H;obtain ⟨e, h3, H⟩ := C8 H;obtain ⟨z, h4, H⟩ := C8 H
 split at H
 ·rename_i hm
  obtain ⟨h5, H⟩ := F8 H;obtain ⟨n, h6, H⟩ := C8 H;refine M6 H hw hn fun st' A Y k' => ?_
  simp only [I4, E9, JM, A.src _ _ q1, A.src _ _ q2, h1, h2, h3, h4, ob, hm, h5, og, h6]
 ·rename_i m hm
  obtain ⟨h5, H⟩ := F8 H;obtain ⟨d, h6, H⟩ := C8 H
  by_cases hz : z.2 = true
  ·rw [if_pos hz] at H
   refine M6 H hw hn fun st' A Y k' => ?_
   simp only [I4, E9, JM, A.src _ _ q1, A.src _ _ q2, h1, h2, h3, h4, ob, h5, og, h6, if_pos hz]
  ·rw [if_neg hz] at H
   obtain ⟨h8, H⟩ := F8 H;refine M6 H hw hn fun st' A Y k' => ?_
   simp only [I4, E9, JM, A.src _ _ q1, A.src _ _ q2, h1, h2, h3, h4, ob, h5, og, h6, if_neg hz, h8]
theorem B2u {t : TypeId} {y i : Operand} (E9 : o.op = .index t y i) (H : I4 C R fl o st k = some x) (hr : J5 (tmpsOf [y, i]) f.rt) (hw : J5 o.dst.toList f.wt) (hn : f.nb = none) : Fr C R fl o st k x f := by
 obtain ⟨q1, q2⟩ := Od hr;simp only [I4, E9] at H;obtain ⟨r, h1, H⟩ := C8 H;obtain ⟨j, h2, H⟩ := C8 H
 split at H
 ·rename_i hu
  obtain ⟨h5, H⟩ := F8 H;obtain ⟨d, h6, H⟩ := C8 H;refine M6 H hw hn fun st' A Y k' => ?_
  simp only [I4, E9, A.src _ _ q1, A.src _ _ q2, h1, h2, ob, hu, h5, og, h6]
 ·simp at H
theorem B2t {t : TypeId} {y : Operand} {i : Nat} (E9 : o.op = .field t y i) (H : I4 C R fl o st k = some x) (hr : J5 (J9 y) f.rt) (hw : J5 o.dst.toList f.wt) (hn : f.nb = none) : Fr C R fl o st k x f := by
 simp only [I4, E9] at H;obtain ⟨r, h1, H⟩ := C8 H;obtain ⟨fd, h2, H⟩ := C8 H;obtain ⟨z, h3, H⟩ := C8 H;obtain ⟨zt, h4, H⟩ := C8 H;obtain ⟨h5, H⟩ := F8 H;obtain ⟨h6, H⟩ := M3 H
 by_cases hz : z.2 = true
 ·rw [if_pos hz] at H
  refine M6 H hw hn fun st' A Y k' => ?_
  simp only [I4, E9, A.src _ _ hr, h1, h2, h3, h4, ob, h5, og, if_pos h6, if_pos hz]
 ·rw [if_neg hz] at H
  refine M6 H hw hn fun st' A Y k' => ?_
  simp only [I4, E9, A.src _ _ hr, h1, h2, h3, h4, ob, h5, og, if_pos h6, if_neg hz]
theorem B2v {t : TypeId} {y : Operand} {lo hi mx : Option Operand} (E9 : o.op = .slice t y lo hi mx) (H : I4 C R fl o st k = some x) (hr : J5 (tmpsOf (y :: (lo.toList ++ hi.toList ++ mx.toList))) f.rt) (hw : J5 o.dst.toList f.wt) (hn : f.nb = none) :
 Fr C R fl o st k x f := by
 have q1 : J5 (J9 y) f.rt := fun i h => hr i (by simp only [tmpsOf, z10q, z11q]; exact .inl h)
 have q2 : J5 (tmpsOf lo.toList) f.rt := fun i h => hr i (by simp only [tmpsOf, z10q, z36q, z11q] at h ⊢; exact .inr (.inl (.inl h)))
 have q3 : J5 (tmpsOf hi.toList) f.rt := fun i h => hr i (by simp only [tmpsOf, z10q, z36q, z11q] at h ⊢; exact .inr (.inl (.inr h)))
 have q4 : J5 (tmpsOf mx.toList) f.rt := fun i h => hr i (by simp only [tmpsOf, z10q, z36q, z11q] at h ⊢; exact .inr (.inr h))
 simp only [I4, E9, Sw] at H;obtain ⟨r, h1, H⟩ := C8 H;obtain ⟨l, h2, H⟩ := C8 H;obtain ⟨h, h3, H⟩ := C8 H;obtain ⟨m, h4, H⟩ := C8 H
 split at H
 ·rename_i q hq
  obtain ⟨e, g1, H⟩ := C8 H;obtain ⟨z, g2, H⟩ := C8 H;obtain ⟨g3, H⟩ := F8 H;obtain ⟨hh, g4, H⟩ := C8 H;obtain ⟨ll, g5, H⟩ := C8 H;obtain ⟨g6, H⟩ := M3 H;refine M6 H hw hn fun st' A Y k' => ?_
  simp only [I4, E9, Sw, A.src _ _ q1, A.opt _ q2, A.opt _ q3, A.opt _ q4, h1, h2, h3, h4, K9, hq, g1, g2, g3, W9, g4, g5, if_pos g6]
 rename_i hq;obtain ⟨h5, H⟩ := F8 H
 split at H
 ·rename_i e hu
  obtain ⟨z, h6, H⟩ := C8 H
  split at H
  ·obtain ⟨d, h7, H⟩ := C8 H
   refine M6 H hw hn fun st' A Y k' => ?_
   simp only [I4, E9, Sw, A.src _ _ q1, A.opt _ q2, A.opt _ q3, A.opt _ q4, h1, h2, h3, h4, K9, hq, h5, W9, hu, h7, h6]
  ·obtain ⟨d, h7, H⟩ := C8 H
   refine M6 H hw hn fun st' A Y k' => ?_
   simp only [I4, E9, Sw, A.src _ _ q1, A.opt _ q2, A.opt _ q3, A.opt _ q4, h1, h2, h3, h4, K9, hq, h5, W9, hu, h7, h6]
  ·simp at H
 ·rename_i hu
  split at H
  ·obtain ⟨d, h7, H⟩ := C8 H
   refine M6 H hw hn fun st' A Y k' => ?_
   simp only [I4, E9, Sw, A.src _ _ q1, A.opt _ q2, A.opt _ q3, A.opt _ q4, h1, h2, h3, h4, K9, hq, h5, W9, hu, h7]
  ·simp at H
 ·simp at H
theorem A75 {y : Operand} (E9 : o.op = .nilCheck y) (H : I4 C R fl o st k = some x) (hr : J5 (J9 y) f.rt) (hw : J5 o.dst.toList f.wt) (hn : f.nb = none) : Fr C R fl o st k x f := by
 simp only [I4, E9] at H;obtain ⟨r, h1, H⟩ := C8 H
 split at H
 all_goals first
  | (rename_i hm
     refine M6 H hw hn fun st' A Y k' => ?_
     simp only [I4, E9, A.src _ _ hr, h1, ob, hm]; done)
  | (simp at H; done)
  | skip
 rename_i hm;obtain ⟨q, h2, H⟩ := C8 H;obtain ⟨d, h3, H⟩ := C8 H;refine M6 H hw hn fun st' A Y k' => ?_
 simp only [I4, E9, A.src _ _ hr, h1, ob, hm, h2, h3]
theorem A74 {g : FuncId} {first caps : Array Operand} (E9 : o.op = .makeFunc (.func g) first caps) (H : I4 C R fl o st k = some x) (hr : J5 (tmpsOf caps.toList) f.rt) (hw : J5 o.dst.toList f.wt) (hn : f.nb = none) : Fr C R fl o st k x f := by
 simp only [I4, E9] at H;obtain ⟨h0, H⟩ := M3 H;obtain ⟨rs, h1, H⟩ := C8 H;obtain ⟨ms, h2, H⟩ := C8 H;refine M6 H hw hn fun st' A Y k' => ?_
 simp only [I4, E9, A.Hq _ hr, h1, ob, h2, if_pos h0]
theorem B5j {op : BinOp} {t : TypeId} {y z : Operand} {yt : TypeId} (E9 : o.op = .binOp op t y z yt) (H : I4 C R fl o st k = some x) (hr : J5 (tmpsOf [y, z]) f.rt) (hw : J5 o.dst.toList f.wt) (hn : f.nb = none) : Fr C R fl o st k x f := by
 obtain ⟨q1, q2⟩ := Od hr;simp only [I4, E9, Za] at H;obtain ⟨r, h1, H⟩ := C8 H;obtain ⟨s, h2, H⟩ := C8 H
 split at H
 ·rename_i hb
  obtain ⟨h3, H⟩ := F8 H;obtain ⟨d, h4, H⟩ := C8 H;refine M6 H hw hn fun st' A Y k' => ?_
  simp only [I4, E9, Za, A.src _ _ q1, A.src _ _ q2, h1, h2, ob, hb, h3, og, h4]
 ·rename_i hb
  obtain ⟨h3, H⟩ := F8 H;obtain ⟨d, h4, H⟩ := C8 H;obtain ⟨e, h5, H⟩ := C8 H;refine M6 H hw hn fun st' A Y k' => ?_
  simp only [I4, E9, Za, A.src _ _ q1, A.src _ _ q2, h1, h2, ob, hb, h3, og, h4, h5]
 ·rename_i hb
  obtain ⟨h3, H⟩ := F8 H;obtain ⟨d, h4, H⟩ := C8 H;obtain ⟨e, h5, H⟩ := C8 H;refine M6 H hw hn fun st' A Y k' => ?_
  simp only [I4, E9, Za, A.src _ _ q1, A.src _ _ q2, h1, h2, ob, hb, h3, og, h4, h5]
 ·rename_i hb
  obtain ⟨d, h4, H⟩ := C8 H;obtain ⟨e, h5, H⟩ := C8 H;refine M6 H hw hn fun st' A Y k' => ?_
  simp only [I4, E9, Za, A.src _ _ q1, A.src _ _ q2, h1, h2, ob, hb, h4, h5]
 ·rename_i hb
  obtain ⟨d, h4, H⟩ := C8 H;obtain ⟨e, h5, H⟩ := C8 H;refine M6 H hw hn fun st' A Y k' => ?_
  simp only [I4, E9, Za, A.src _ _ q1, A.src _ _ q2, h1, h2, ob, hb, h4, h5]
 ·simp at H
end
end Go.Su

/-
 THE DATA MACHINE, part 20: footprints, the operations that look at memory.
-/
namespace Go.Su
theorem UB {X : Type} {r : DV × Meta} {K : DV × Meta → Option X} {x : X} (H : cellOf r K = some x) : ∃ c, K c = some x ∧ ∀ (Y : Type) (K' : DV × Meta → Option Y), cellOf r K' = K' c := by
 unfold cellOf at H
 split at H
 ·rename_i hm
  obtain ⟨h, H⟩ := F8 H;exact ⟨_, H, fun Y K' => by simp only [cellOf, hm, h, W9]⟩
 ·rename_i hm; exact ⟨_, H, fun Y K' => by simp only [cellOf, hm]⟩
 ·rename_i hm; exact ⟨_, H, fun Y K' => by simp only [cellOf, hm]⟩
 ·rename_i hm; exact ⟨_, H, fun Y K' => by simp only [cellOf, hm]⟩
 ·rename_i h1 h2 h3 h4
  obtain ⟨h, H⟩ := F8 H;refine ⟨_, H, fun Y K' => ?_⟩
  unfold cellOf
  split <;> simp_all [W9]
theorem XQ {X : Type} {P : Program} {t : TypeId} {r : DV × Meta} {K : List (DV × Meta) → Option X} {x : X} (H : explode P t r K = some x) :
 ∃ cs, K cs = some x ∧ ∀ (Y : Type) (K' : List (DV × Meta) → Option Y), explode P t r K' = K' cs := by
 unfold explode at H;obtain ⟨z, hz, H⟩ := C8 H
 split at H
 ·rename_i h2
  obtain ⟨h3, H⟩ := F8 H;obtain ⟨cs, h4, H⟩ := C8 H;exact ⟨_, H, fun Y K' => by simp only [explode, hz, K9, if_pos h2, h3, W9, h4]⟩
 ·rename_i h2
  obtain ⟨c, h3, h4⟩ := UB H;exact ⟨_, h3, fun Y K' => by simp only [explode, hz, K9, if_neg h2, h4]⟩
theorem wN {X : Type} {P : Program} {t : TypeId} {r : DV × Meta} {K : List (DV × Meta) → Option X} {x : X} (H : HV P t r K = some x) :
 ∃ cs, K cs = some x ∧ ∀ (Y : Type) (K' : List (DV × Meta) → Option Y), HV P t r K' = K' cs := by
 unfold HV at H;obtain ⟨z, hz, H⟩ := C8 H
 split at H
 ·rename_i h2
  obtain ⟨h3, H⟩ := F8 H;obtain ⟨cs, h4, H⟩ := C8 H;exact ⟨cs, H, fun Y K' => by simp only [HV, hz, K9, if_pos h2, h3, W9, h4]⟩
 ·rename_i h2
  obtain ⟨c, h3, h4⟩ := UB H;exact ⟨_, h3, fun Y K' => by simp only [HV, hz, K9, if_neg h2, h4]⟩
theorem XN {X : Type} {z : Nat × Bool} {r : DV × Meta} {K : DV → Option X} {x : X} (H : Mg z r K = some x) : K r.1 = some x ∧ ∀ (Y : Type) (K' : DV → Option Y), Mg z r K' = K' r.1 := by
 unfold Mg at H;obtain ⟨h1, H⟩ := F8 H
 split at H
 ·rename_i h2
  obtain ⟨h3, H⟩ := F8 H;exact ⟨H, fun Y K' => by simp only [Mg, h1, W9, if_pos h2, h3]⟩
 ·rename_i h2
  obtain ⟨h3, H⟩ := F8 H;exact ⟨H, fun Y K' => by simp only [Mg, h1, W9, if_neg h2, h3]⟩
theorem kK {X : Type} {P : Program} {t : TypeId} {st : St} {x : X} {rt : List Nat} : ∀ {ps : List (Nat × Operand)} {cs : List (DV × Meta)} {k : List (DV × Meta) → Option X}, GU P t st ps cs k = some x → J5 (tmpsOf (ps.map (·.2))) rt →
 ∃ cs', k cs' = some x ∧ ∀ (f : Fp) st', FW f st st' → J5 rt f.rt → ∀ (Y : Type) (k' : List (DV × Meta) → Option Y), GU P t st' ps cs k' = k' cs'
 | [], cs, k, H, _ => ⟨cs, H, fun _ _ _ _ _ _ => rfl⟩
 | (i, y) :: ps, cs, k, H, hs => by
   simp only [GU] at H;obtain ⟨fd, h1, H⟩ := C8 H;obtain ⟨r, h2, H⟩ := C8 H;obtain ⟨xs, H, h3⟩ := XQ H;obtain ⟨h4, H⟩ := M3 H;have s1 : J5 (J9 y) rt := fun i h => hs i (by simp only [z52q, tmpsOf, z10q, z11q]; exact .inl h)
   have s2 : J5 (tmpsOf (ps.map (·.2))) rt := fun i h => hs i (by simp only [z52q, tmpsOf, z10q, z11q] at h ⊢; exact .inr h)
   obtain ⟨cs', h5, h6⟩ := kK H s2;refine ⟨cs', h5, fun f st' A hr Y k' => ?_⟩
   simp only [GU, h1, K9, A.src P fd.type (fun i h => hr i (s1 i h)), h2, h3, if_pos h4]
   exact h6 f st' A hr Y k'
theorem FW.ji {f : Fp} {st st' : St} (A : FW f st st') (P : Program) (t : TypeId) {x : Operand} (h : J5 (J9 x) f.rt) : ji P t st' x = ji P t st x := by
 have e := A.src P t h;unfold Su.ji
 split
 ·rfl
 ·exact e
theorem mr {X : Type} {P : Program} {e : TypeId} {z : Nat × Bool} {st : St} {x : X} {rt : List Nat} : ∀ {ps : List (Nat × Operand)} {ds : List DV} {k : List DV → Option X}, Ga P e z st ps ds k = some x → J5 (tmpsOf (ps.map (·.2))) rt →
 ∃ ds', k ds' = some x ∧ ∀ (f : Fp) st', FW f st st' → J5 rt f.rt → ∀ (Y : Type) (k' : List DV → Option Y), Ga P e z st' ps ds k' = k' ds'
 | [], ds, k, H, _ => ⟨ds, H, fun _ _ _ _ _ _ => rfl⟩
 | (i, y) :: ps, ds, k, H, hs => by
   simp only [Ga] at H;obtain ⟨r, h2, H⟩ := C8 H;obtain ⟨H, h3⟩ := XN H;obtain ⟨h4, H⟩ := M3 H;have s1 : J5 (J9 y) rt := fun i h => hs i (by simp only [z52q, tmpsOf, z10q, z11q]; exact .inl h)
   have s2 : J5 (tmpsOf (ps.map (·.2))) rt := fun i h => hs i (by simp only [z52q, tmpsOf, z10q, z11q] at h ⊢; exact .inr h)
   obtain ⟨ds', h5, h6⟩ := mr H s2;refine ⟨ds', h5, fun f st' A hr Y k' => ?_⟩
   simp only [Ga, K9, A.ji P e (fun i h => hr i (s1 i h)), h2, h3, if_pos h4]
   exact h6 f st' A hr Y k'
section
variable {X : Type} {C : X5} {R : N7} {fl : Flags} {o : Oper} {st : St} {k : St → Option X} {x : X} {f : Fp}
theorem B2r {t : TypeId} {ps : Array (Nat × Operand)} (E9 : o.op = .build t ps) (H : I4 C R fl o st k = some x) (hr : J5 (tmpsOf (ps.toList.map (·.2))) f.rt) (hw : J5 o.dst.toList f.wt) (hn : f.nb = none) : Fr C R fl o st k x f := by
 simp only [I4, E9] at H;obtain ⟨zs, h1, H⟩ := C8 H;obtain ⟨pl, h2, H⟩ := C8 H;obtain ⟨cs, H, h3⟩ := kK H hr;refine M6 H hw hn fun st' A Y k' => ?_
 simp only [I4, E9, h1, h2, K9];exact h3 f st' A (fun _ h => h) Y _
theorem A5p {t : TypeId} {n : Nat} {ps : Array (Nat × Operand)} (E9 : o.op = .buildSlice t n ps) (H : I4 C R fl o st k = some x) (hr : J5 (tmpsOf (ps.toList.map (·.2))) f.rt) (hw : J5 o.dst.toList f.wt) (hn : f.nb = none) : Fr C R fl o st k x f := by
 simp only [I4, E9] at H;obtain ⟨e, h1, H⟩ := C8 H;obtain ⟨z, h2, H⟩ := C8 H;obtain ⟨zs, h3, H⟩ := C8 H;obtain ⟨ze, h4, H⟩ := C8 H;obtain ⟨h5, H⟩ := M3 H;obtain ⟨ds, H, h6⟩ := mr H hr;refine M6 H hw hn fun st' A Y k' => ?_
 simp only [I4, E9, h1, h2, h3, h4, K9, if_pos h5];exact h6 f st' A (fun _ h => h) Y _
theorem A4U {cs : List (DV × Meta)} {sh : Bool} (hk : k (st.EL sh o.dst cs) = some x) (hb : PO sh o.dst st = true) (hw : J5 o.dst.toList f.wt)
 (h1 : sh = true → f.nb = none ∧ f.rs = true ∧ f.ws = true) (h2 : sh = false → f.nb = o.dst ∧ J5 o.dst.toList f.wb)
 (h : ∀ st', FW f st st' → ∀ (Y : Type) (k' : St → Option Y), I4 C R fl o st' k' = og (PO sh o.dst st') (k' (st'.EL sh o.dst cs))) : Fr C R fl o st k x f := by
 cases hd : o.dst with
 | none =>
   rw [hd] at hk;refine ⟨_, hk, ?_, fun st' A => ⟨_, Two.refl A, fun Y k' => by rw [h st' A Y k', hd]; rfl⟩⟩
   cases sh
   ·rw [(h2 rfl).1, hd]; simp
   ·rw [(h1 rfl).1]; simp
 | some t =>
   rw [hd] at hk hb;have hw' : ∀ u ∈ (some t : Option Nat).toList, u ∈ f.wt := by rw [← hd]; exact hw
   cases sh
   ·obtain ⟨q1, q2⟩ := h2 rfl
    have hnl : Jp t st.mt = true := by simpa [PO] using hb
    have cl : ∀ mt, Jp t mt = true → mt.map (JI t) = mt := by
     intro mt hh;simp only [Jp, z19q] at hh
     conv => rhs; rw [← List.map_id mt]
     refine z57q fun m hm => ?_
     have := hh m hm;unfold JI
     split
     ·rename_i s' o'
      simp only [bne_iff_ne, ne_eq] at this;rw [if_neg this]; rfl
     ·rfl
    refine ⟨_, hk, fun u hu => ?_, fun st' A => ⟨st'.EL false (some t) cs, ?_, fun Y k' => ?_⟩⟩
    ·rw [q1, hd] at hu; cases hu; exact hnl
    ·have A1K := A.n t (by rw [q1, hd])
     simp only [St.EL, z7q, if_false];rw [cl _ hnl, cl _ A1K];exact ((Two.refl A).zX (q2 t (by rw [hd]; simp)) (some cs)).put hw' _ _
    ·rw [h st' A Y k', hd]
     have A1K := A.n t (by rw [q1, hd])
     simp only [PO, A1K, Bool.or_true, W9]
   ·obtain ⟨q1, q2, q3⟩ := h1 rfl
    refine ⟨_, hk, by rw [q1]; simp, fun st' A => ⟨st'.EL true (some t) cs, ?_, fun Y k' => ?_⟩⟩
    ·simp only [St.EL, if_true]
     rw [A.s q2];exact ((Two.refl A).Hz q3 _).put hw' _ _
    ·rw [h st' A Y k', hd]
     simp only [PO, Bool.true_or, W9]
theorem A6z {t : TypeId} (E9 : o.op = .alloc t) (H : I4 C R fl o st k = some x) (hw : J5 o.dst.toList f.wt)
 (h1 : K8 fl.shared o.dst = true → f.nb = none ∧ f.rs = true ∧ f.ws = true) (h2 : K8 fl.shared o.dst = false → f.nb = o.dst ∧ J5 o.dst.toList f.wb) : Fr C R fl o st k x f := by
 simp only [I4, E9] at H;obtain ⟨cs, h3, H⟩ := C8 H;obtain ⟨h4, H⟩ := F8 H;exact A4U H h4 hw h1 h2 fun st' A Y k' => by simp only [I4, E9, h3, K9]
theorem B2R {m : Meta} {t : Nat} (h : (match m with | .loc s _ => s != t | _ => true) = true) : (match dm m with | .loc s _ => s != t | _ => true) = true := by
 cases m <;> first | exact h | rfl
theorem tT {st : St} {y : Operand} {t : Nat} (h : Jp t st.mt = true) : Jp t (st.release y).mt = true := by
 cases y with
 | tmp u =>
   simp only [St.release, Jp, z19q] at h ⊢;intro m hm;rcases List.mem_or_eq_of_mem_set hm with h1 | rfl
   ·exact h m h1
   ·rcases z30q u st.mt.length with hu | hu
    ·refine B2R ?_
     rw [z2q, z3q hu];exact h _ (List.getElem_mem hu)
    ·rw [z2q, z9q hu]; rfl
 | _ => exact h
theorem A0A {t : Nat} {mt : List Meta} (hh : Jp t mt = true) : mt.map (JI t) = mt := by
 simp only [Jp, z19q] at hh
 conv => rhs; rw [← List.map_id mt]
 refine z57q fun m hm => ?_
 have := hh m hm;unfold JI
 split
 ·rename_i s' o'
  simp only [bne_iff_ne, ne_eq] at this;rw [if_neg this]; rfl
 ·rfl
theorem A27 {t : TypeId} {y : Operand} (E9 : o.op = .box t y) (H : I4 C R fl o st k = some x) (hr : J5 (J9 y) f.rt) (hw : J5 o.dst.toList f.wt)
 (h0 : K8 fl.Yo o.dst = true → f.nb = none) (hs : K8 fl.Yo o.dst = false → K8 fl.M0 o.dst = true → J5 (J9 y) f.wt ∧ f.nb = o.dst ∧ J5 o.dst.toList f.wb)
 (h1 : K8 fl.Yo o.dst = false → K8 fl.M0 o.dst = false → K8 fl.shared o.dst = true → f.nb = none ∧ f.rs = true ∧ f.ws = true)
 (h2 : K8 fl.Yo o.dst = false → K8 fl.M0 o.dst = false → K8 fl.shared o.dst = false → f.nb = o.dst ∧ J5 o.dst.toList f.wb) : Fr C R fl o st k x f := by
 simp only [I4, E9] at H;obtain ⟨r, h3, H⟩ := C8 H
 by_cases He : K8 fl.Yo o.dst = true
 ·rw [if_pos He] at H
  obtain ⟨z, h4, H⟩ := C8 H;obtain ⟨h5, H⟩ := F8 H;exact M6 H hw (h0 He) fun st' A Y k' => by simp only [I4, E9, A.src _ _ hr, h3, K9, if_pos He, h4, h5, W9]
 rw [if_neg He] at H;have B2F : K8 fl.Yo o.dst = false := by simpa using He
 by_cases Q7 : K8 fl.M0 o.dst = true
 ·rw [if_pos Q7] at H
  obtain ⟨q1, q2, q3⟩ := hs B2F Q7;obtain ⟨cs, H, h4⟩ := wN H;obtain ⟨h5, H⟩ := F8 H;cases hd : o.dst with
  | none => rw [hd] at Q7; simp [K8] at Q7
  | some t0 =>
    rw [hd] at H h5 q2;have hnl : Jp t0 st.mt = true := by simpa [PO] using h5
    have hw' : ∀ u ∈ (some t0 : Option Nat).toList, u ∈ f.wt := by rw [← hd]; exact hw
    refine ⟨_, H, fun u hu => ?_, fun st' A => ⟨(st'.release y).EL false (some t0) cs, ?_, fun Y k' => ?_⟩⟩
    ·rw [q2] at hu; cases hu; exact hnl
    ·have A1K := A.n t0 q2
     simp only [St.EL, z7q, if_false];rw [A0A (tT hnl), A0A (tT A1K)];exact (((Two.refl A).release q1 fun i hi => A.t i (hr i hi)).zX (q3 t0 (by rw [hd]; simp)) (some cs)).put hw' _ _
    ·have A1K := A.n t0 q2
     rw [hd] at He Q7;simp only [I4, E9, A.src _ _ hr, h3, K9, hd, if_neg He, if_pos Q7, h4, PO, A1K, Bool.or_true, W9]
 rw [if_neg Q7] at H;have B5A : K8 fl.M0 o.dst = false := by simpa using Q7
 obtain ⟨cs, H, h4⟩ := XQ H;obtain ⟨h5, H⟩ := F8 H;exact A4U H h5 hw (h1 B2F B5A) (h2 B2F B5A) fun st' A Y k' => by simp only [I4, E9, A.src _ _ hr, h3, K9, if_neg He, if_neg Q7, h4]
theorem A7P (P P' : Program) {x : Operand} {r : DV × Meta} (h : src P 0 st x = some r) : ∃ r', src P' 0 st x = some r' ∧ r'.2 = r.2 := by
 cases x with
 | const v =>
   simp only [src] at h ⊢;unfold cst at h ⊢
   split at h <;> simp only [Option.some.injEq, reduceCtorEq] at h <;> subst h <;> exact ⟨_, rfl, rfl⟩
 | tmp t => exact ⟨r, h, rfl⟩
 | func f => exact ⟨r, h, rfl⟩
 | global g => simp [src] at h
theorem B32 {t : TypeId} {y : Operand} (E9 : o.op = .load t y) (H : I4 C R fl o st k = some x) (hr : J5 (J9 y) f.rt) (hw : J5 o.dst.toList f.wt) (hn : f.nb = none)
 (hb : ∀ r, src C.P 0 st y = some r → J5 (EE r.2).1 f.rb ∧ ((EE r.2).2 = true → f.rs = true) ∧ (K8 fl.M0 o.dst = true → J5 (EE r.2).1 f.wb ∧ ((EE r.2).2 = true → f.ws = true))) :
 Fr C R fl o st k x f := by
 simp only [I4, E9, EB] at H;obtain ⟨r, h1, H⟩ := C8 H;obtain ⟨z, h2, H⟩ := C8 H;obtain ⟨b1, b2, b3⟩ := hb r h1
 split at H
 ·rename_i s off hm
  rw [hm] at b1 b2 b3;have hs : s ∈ f.rb := b1 s (by simp [EE])
  obtain ⟨cs, h3, H⟩ := C8 H;obtain ⟨h4, H⟩ := M3 H
  by_cases hz : z.2 = true
  ·rw [if_pos hz] at H
   by_cases Q7 : K8 fl.M0 o.dst = true
   ·rw [if_pos Q7] at H
    refine ⟨_, H, by rw [hn]; simp, fun st' A => ⟨_, ((Two.refl A).zX ((b3 Q7).1 s (by simp [EE])) _).put hw _ _, fun Y k' => ?_⟩⟩
    simp only [I4, E9, EB, A.src _ _ hr, h1, h2, K9, hm, A.bx hs, h3, if_pos h4, if_pos hz, if_pos Q7]
   rw [if_neg Q7] at H;refine M6 H hw hn fun st' A Y k' => ?_
   simp only [I4, E9, EB, A.src _ _ hr, h1, h2, K9, hm, A.bx hs, h3, if_pos h4, if_pos hz, if_neg Q7]
  ·rw [if_neg hz] at H
   by_cases Q7 : K8 fl.M0 o.dst = true
   ·rw [if_pos Q7] at H
    refine ⟨_, H, by rw [hn]; simp, fun st' A => ⟨_, ((Two.refl A).zX ((b3 Q7).1 s (by simp [EE])) _).put hw _ _, fun Y k' => ?_⟩⟩
    simp only [I4, E9, EB, A.src _ _ hr, h1, h2, K9, hm, A.bx hs, h3, if_pos h4, if_neg hz, if_pos Q7]
   ·rw [if_neg Q7] at H
    refine M6 H hw hn fun st' A Y k' => ?_
    simp only [I4, E9, EB, A.src _ _ hr, h1, h2, K9, hm, A.bx hs, h3, if_pos h4, if_neg hz, if_neg Q7]
 ·rename_i ag sz off hm
  obtain ⟨h4, H⟩ := M3 H
  by_cases hz : z.2 = true
  ·rw [if_pos hz] at H
   obtain ⟨h5, H⟩ := F8 H;refine M6 H hw hn fun st' A Y k' => ?_
   simp only [I4, E9, EB, A.src _ _ hr, h1, h2, K9, hm, if_pos h4, if_pos hz, h5, W9]
  ·rw [if_neg hz] at H
   refine M6 H hw hn fun st' A Y k' => ?_
   simp only [I4, E9, EB, A.src _ _ hr, h1, h2, K9, hm, if_pos h4, if_neg hz]
 ·rename_i i off hm
  rw [hm] at b1 b2 b3;have hs := b2 rfl;obtain ⟨cs, h3, H⟩ := C8 H
  by_cases hz : z.2 = true
  ·rw [if_pos hz] at H
   obtain ⟨h5, H⟩ := F8 H;obtain ⟨ds, h6, H⟩ := C8 H;refine M6 H hw hn fun st' A Y k' => ?_
   simp only [I4, E9, EB, A.src _ _ hr, h1, h2, K9, hm, A.s hs, h3, if_pos hz, h5, W9, h6]
  ·rw [if_neg hz] at H
   split at H
   ·rename_i hc
    obtain ⟨j, h6, H⟩ := C8 H;refine M6 H hw hn fun st' A Y k' => ?_
    simp only [I4, E9, EB, A.src _ _ hr, h1, h2, K9, hm, A.s hs, h3, if_neg hz, hc, h6]
   ·rename_i hc
    obtain ⟨j, h6, H⟩ := C8 H;refine M6 H hw hn fun st' A Y k' => ?_
    simp only [I4, E9, EB, A.src _ _ hr, h1, h2, K9, hm, A.s hs, h3, if_neg hz, hc, h6]
   ·rename_i hc
    by_cases Q7 : K8 fl.M0 o.dst = true
    ·rw [if_pos Q7] at H
     obtain ⟨d, h6, H⟩ := C8 H;refine ⟨_, H, by rw [hn]; simp, fun st' A => ⟨_, ((Two.refl A).Hz ((b3 Q7).2 rfl) _).put hw _ _, fun Y k' => ?_⟩⟩
     simp only [I4, E9, EB, A.src _ _ hr, h1, h2, K9, hm, A.s hs, h3, if_neg hz, hc, if_pos Q7, h6]
    ·rw [if_neg Q7] at H
     obtain ⟨d, h6, H⟩ := C8 H;refine M6 H hw hn fun st' A Y k' => ?_
     simp only [I4, E9, EB, A.src _ _ hr, h1, h2, K9, hm, A.s hs, h3, if_neg hz, hc, if_neg Q7, h6]
 ·rename_i i sz idx off hm
  rw [hm] at b1 b2 b3;have hs := b2 rfl;obtain ⟨a, h3, H⟩ := C8 H;obtain ⟨d, h4, H⟩ := C8 H;obtain ⟨h5, H⟩ := F8 H;obtain ⟨h6, H⟩ := M3 H
  by_cases hz : z.2 = true
  ·rw [if_pos hz] at H
   refine M6 H hw hn fun st' A Y k' => ?_
   simp only [I4, E9, EB, A.src _ _ hr, h1, h2, K9, hm, A.s hs, h3, h4, h5, W9, if_pos h6, if_pos hz]
  ·rw [if_neg hz] at H
   by_cases h7 : sz = 1
   ·rw [if_pos h7] at H
    obtain ⟨h8, H⟩ := F8 H;refine M6 H hw hn fun st' A Y k' => ?_
    simp only [I4, E9, EB, A.src _ _ hr, h1, h2, K9, hm, A.s hs, h3, h4, h5, W9, if_pos h6, if_neg hz, if_pos h7, h8]
   ·rw [if_neg h7] at H
    refine M6 H hw hn fun st' A Y k' => ?_
    simp only [I4, E9, EB, A.src _ _ hr, h1, h2, K9, hm, A.s hs, h3, h4, h5, W9, if_pos h6, if_neg hz, if_neg h7]
 ·simp at H
theorem B2w {t : TypeId} {y v : Operand} (E9 : o.op = .store t y v) (H : I4 C R fl o st k = some x) (hr : J5 (tmpsOf [y, v]) f.rt) (hw : J5 o.dst.toList f.wt) (hwv : J5 (Dv st.mt v) f.wt) (hn : f.nb = none)
 (hb : ∀ r, src C.P 0 st y = some r → J5 (EE r.2).1 f.rb ∧ ((EE r.2).2 = true → f.rs = true) ∧ J5 (EE r.2).1 f.wb ∧ ((EE r.2).2 = true → f.ws = true)) :
 Fr C R fl o st k x f := by
 obtain ⟨q1, q2⟩ := Od hr;simp only [I4, E9, Eh] at H;obtain ⟨r, h1, H⟩ := C8 H;obtain ⟨u, h2, H⟩ := C8 H;obtain ⟨z, h3, H⟩ := C8 H;obtain ⟨b1, b2, b3, b4⟩ := hb r h1
 split at H
 ·rename_i s off hm
  rw [hm] at b1 b2 b3 b4;have hs : s ∈ f.rb := b1 s (by simp [EE])
  have Dw : s ∈ f.wb := b3 s (by simp [EE])
  obtain ⟨cs, h4, H⟩ := C8 H
  by_cases hz : z.2 = true
  ·rw [if_pos hz] at H
   obtain ⟨xs, H, h5⟩ := wN H;obtain ⟨h6, H⟩ := M3 H;refine ⟨_, H, by rw [hn]; simp, fun st' A => ⟨_, (((Two.refl A).zX Dw _).A1U hwv fun i hi => A.t i (q2 i hi)).put hw _ _, fun Y k' => ?_⟩⟩
   simp only [I4, E9, Eh, A.src _ _ q1, A.src _ _ q2, h1, h2, h3, K9, hm, A.bx hs, h4, if_pos hz, h5, if_pos h6]
  ·rw [if_neg hz] at H
   obtain ⟨c, H, h5⟩ := UB H;obtain ⟨h6, H⟩ := M3 H;refine ⟨_, H, by rw [hn]; simp, fun st' A => ⟨_, (((Two.refl A).zX Dw _).A1U hwv fun i hi => A.t i (q2 i hi)).put hw _ _, fun Y k' => ?_⟩⟩
   simp only [I4, E9, Eh, A.src _ _ q1, A.src _ _ q2, h1, h2, h3, K9, hm, A.bx hs, h4, if_neg hz, h5, if_pos h6]
 ·rename_i i off hm
  rw [hm] at b1 b2 b3 b4;obtain ⟨cs, h4, H⟩ := C8 H
  by_cases hz : z.2 = true
  ·rw [if_pos hz] at H
   obtain ⟨xs, H, h5⟩ := XQ H;obtain ⟨h6, H⟩ := M3 H;refine ⟨_, H, by rw [hn]; simp, fun st' A => ⟨_, ((Two.refl A).Hz (b4 rfl) _).put hw _ _, fun Y k' => ?_⟩⟩
   simp only [I4, E9, Eh, A.src _ _ q1, A.src _ _ q2, h1, h2, h3, K9, hm, A.s (b2 rfl), h4, if_pos hz, h5, if_pos h6]
  ·rw [if_neg hz] at H
   obtain ⟨c, H, h5⟩ := UB H;obtain ⟨c0, h6, H⟩ := C8 H;refine ⟨_, H, by rw [hn]; simp, fun st' A => ⟨_, (((Two.refl A).Hz (b4 rfl) (st.sg.set i (.box (cs.set off c)))).A1U hwv fun i hi => A.t i (q2 i hi)).put hw (.I6 []) .val, fun Y k' => ?_⟩⟩
   simp only [I4, E9, Eh, A.src _ _ q1, A.src _ _ q2, h1, h2, h3, K9, hm, A.s (b2 rfl), h4, if_neg hz, h5, h6]
 ·rename_i i sz idx off hm
  rw [hm] at b1 b2 b3 b4;obtain ⟨a, h4, H⟩ := C8 H;obtain ⟨d, h5, H⟩ := C8 H;obtain ⟨H, h6⟩ := XN H;obtain ⟨h7, H⟩ := F8 H;obtain ⟨h8, H⟩ := M3 H;refine ⟨_, H, by rw [hn]; simp, fun st' A => ⟨_, ((Two.refl A).Hz (b4 rfl) _).put hw _ _, fun Y k' => ?_⟩⟩
  simp only [I4, E9, Eh, A.src _ _ q1, A.src _ _ q2, h1, h2, h3, K9, hm, A.s (b2 rfl), h4, h5, h6, h7, W9, if_pos h8]
 ·rename_i i sz idx hm
  rw [hm] at b1 b2 b3 b4;obtain ⟨q, h4, H⟩ := C8 H;obtain ⟨H, h6⟩ := XN H;obtain ⟨h7, H⟩ := F8 H;obtain ⟨x', h8, H⟩ := C8 H;refine ⟨_, H, by rw [hn]; simp, fun st' A => ⟨_, ((Two.refl A).Hz (b4 rfl) _).put hw _ _, fun Y k' => ?_⟩⟩
  simp only [I4, E9, Eh, A.src _ _ q1, A.src _ _ q2, h1, h2, h3, K9, hm, A.s (b2 rfl), h4, h6, h7, W9, h8]
 ·simp at H
theorem A9z {t : TypeId} (E9 : o.op = .makeMap t none) (H : I4 C R fl o st k = some x) (hw : J5 o.dst.toList f.wt) (hn : f.nb = none) (hrs : f.rs = true) (hws : f.ws = true) : Fr C R fl o st k x f := by
 simp only [I4, E9] at H;obtain ⟨q, h1, H⟩ := C8 H;refine ⟨_, H, by rw [hn]; simp, fun st' A => ⟨_, ((Two.refl A).Hz hws _).put hw _ _, fun Y k' => ?_⟩⟩
 simp only [I4, E9, h1, K9, A.s hrs]
theorem B02 {t : TypeId} {y v : Operand} {ok : Bool} (E9 : o.op = .lookup t y v ok) (H : I4 C R fl o st k = some x) (hr : J5 (tmpsOf [y, v]) f.rt) (hw : J5 o.dst.toList f.wt) (hn : f.nb = none) (hrs : f.rs = true) : Fr C R fl o st k x f := by
 obtain ⟨q1, q2⟩ := Od hr;simp only [I4, E9] at H;obtain ⟨r, h1, H⟩ := C8 H;obtain ⟨key, h2, H⟩ := C8 H;obtain ⟨q, h3, H⟩ := C8 H;obtain ⟨ze, h4, H⟩ := C8 H;obtain ⟨h5, H⟩ := F8 H
 split at H
 ·rename_i i hm
  obtain ⟨p, h6, H⟩ := C8 H;obtain ⟨h7, H⟩ := F8 H
  by_cases AU : ok = true
  ·rw [if_pos AU] at H
   refine M6 H hw hn fun st' A Y k' => ?_
   simp only [I4, E9, A.src _ _ q1, A.src _ _ q2, h1, h2, h3, h4, K9, h5, W9, hm, A.s hrs, h6, h7, if_pos AU]
  ·rw [if_neg AU] at H
   refine M6 H hw hn fun st' A Y k' => ?_
   simp only [I4, E9, A.src _ _ q1, A.src _ _ q2, h1, h2, h3, h4, K9, h5, W9, hm, A.s hrs, h6, h7, if_neg AU]
 ·simp at H
theorem A6C {t : TypeId} {y v u : Operand} (E9 : o.op = .mapUpdate t y v u) (H : I4 C R fl o st k = some x) (hr : J5 (tmpsOf [y, v, u]) f.rt) (hw : J5 o.dst.toList f.wt) (hn : f.nb = none) (hrs : f.rs = true) (hws : f.ws = true) : Fr C R fl o st k x f := by
 have q1 : J5 (J9 y) f.rt := fun i hi => hr i (by simp [tmpsOf, hi])
 have q2 : J5 (J9 v) f.rt := fun i hi => hr i (by simp [tmpsOf, hi])
 have q3 : J5 (J9 u) f.rt := fun i hi => hr i (by simp [tmpsOf, hi])
 simp only [I4, E9] at H;obtain ⟨r, h1, H⟩ := C8 H;obtain ⟨key, h2, H⟩ := C8 H;obtain ⟨val, h3, H⟩ := C8 H;obtain ⟨q, h4, H⟩ := C8 H;obtain ⟨h5, H⟩ := F8 H
 split at H
 ·rename_i i hm
  obtain ⟨p, h6, H⟩ := C8 H;obtain ⟨h7, H⟩ := F8 H;refine ⟨_, H, by rw [hn]; simp, fun st' A => ⟨_, ((Two.refl A).Hz hws _).put hw _ _, fun Y k' => ?_⟩⟩
  simp only [I4, E9, A.src _ _ q1, A.src _ _ q2, A.src _ _ q3, h1, h2, h3, h4, K9, h5, W9, hm, A.s hrs, h6, h7]
 ·simp at H
theorem A9y {y : Operand} {i : Nat} (E9 : o.op = .extract y i) (H : I4 C R fl o st k = some x) (hr : J5 (J9 y) f.rt) (hw : J5 o.dst.toList f.wt) (hs : K8 fl.M0 o.dst = true → J5 (J9 y) f.wt) (hn : f.nb = none) : Fr C R fl o st k x f := by
 simp only [I4, E9] at H;obtain ⟨r, h1, H⟩ := C8 H
 split at H
 ·rename_i hm
  obtain ⟨d, h2, H⟩ := C8 H;refine M6 H hw hn fun st' A Y k' => ?_
  simp only [I4, E9, A.src _ _ hr, h1, K9, hm, h2]
 ·rename_i ms hm
  obtain ⟨d, h2, H⟩ := C8 H
  split at H
  ·rename_i hg
   by_cases Q7 : K8 fl.M0 o.dst = true
   ·rw [if_pos Q7] at H
    refine ⟨_, H, by rw [hn]; simp, fun st' A => ⟨(st'.pG y (.Bi (ms.set i .val))).put o.dst d .own, Two.put ?_ hw _ _, fun Y k' => ?_⟩⟩
    ·cases y with
     | tmp t =>
       have ht : t ∈ J9 (.tmp t) := by simp [J9]
       exact (Two.refl A).B3G (hs Q7 t ht) (A.t t (hr t ht)).1 _
     | _ => exact Two.refl A
    ·simp only [I4, E9, A.src _ _ hr, h1, K9, hm, h2, hg, if_pos Q7]
   ·rw [if_neg Q7] at H
    refine M6 H hw hn fun st' A Y k' => ?_
    simp only [I4, E9, A.src _ _ hr, h1, K9, hm, h2, hg, if_neg Q7]
  ·rename_i hg
   refine M6 H hw hn fun st' A Y k' => ?_
   simp only [I4, E9, A.src _ _ hr, h1, K9, hm, h2, hg]
  ·simp at H
 ·simp at H
end
end Go.Su

/-
 THE DATA MACHINE, part 21: footprints, calls; every operation.
-/
namespace Go.Su
section
variable {X : Type} {C : X5} {R : N7} {fl : Flags} {o : Oper} {st : St} {k : St → Option X} {x : X} {f : Fp}
theorem B5k {c : Call} {y : Operand} {t : TypeId} (E9 : o.op = .call c) (hc : c.callee = .builtin .len) (ha : c.args.toList = [y]) (ht : c.argTypes.toList = [t]) (H : XP C o y t st k = some x)
 (hr : J5 (J9 y) f.rt) (hw : J5 o.dst.toList f.wt) (hn : f.nb = none) (hrs : f.rs = true) : Fr C R fl o st k x f := by
 have GM : ∀ (Y : Type) (st : St) (k : St → Option Y), I4 C R fl o st k = XP C o y t st k := fun Y st k => by simp only [I4, E9, Ec, hc, ha, ht]
 unfold XP at H;obtain ⟨r, h1, H⟩ := C8 H
 split at H
 ·rename_i hu
  split at H
  ·rename_i hm
   refine M6 H hw hn fun st' A Y k' => ?_
   rw [GM];simp only [XP, A.src _ _ hr, h1, K9, hu, hm]
  ·rename_i hm
   obtain ⟨h2, H⟩ := F8 H;obtain ⟨d, h3, H⟩ := C8 H;refine M6 H hw hn fun st' A Y k' => ?_
   rw [GM];simp only [XP, A.src _ _ hr, h1, K9, hu, h2, W9, h3]
 ·rename_i hu
  obtain ⟨h2, H⟩ := F8 H;obtain ⟨d, h3, H⟩ := C8 H;refine M6 H hw hn fun st' A Y k' => ?_
  rw [GM];simp only [XP, A.src _ _ hr, h1, K9, hu, h2, W9, h3]
 ·rename_i hu
  obtain ⟨d, h3, H⟩ := C8 H;refine M6 H hw hn fun st' A Y k' => ?_
  rw [GM];simp only [XP, A.src _ _ hr, h1, K9, hu, A.s hrs, h3]
 ·simp at H
theorem B2s {c : Call} {y : Operand} {t : TypeId} (E9 : o.op = .call c) (hc : c.callee = .builtin .clear) (ha : c.args.toList = [y]) (ht : c.argTypes.toList = [t]) (H : WQ C o y t st k = some x) (hr : J5 (J9 y) f.rt) (hw : J5 o.dst.toList f.wt) (hrs : f.rs = true) (hws : f.ws = true) (hn : f.nb = none) : Fr C R fl o st k x f := by
 have GM : ∀ (Y : Type) (st : St) (k : St → Option Y), I4 C R fl o st k = WQ C o y t st k := fun Y st k => by simp only [I4, E9, Ec, hc, ha, ht]
 unfold WQ at H;obtain ⟨r, h1, H⟩ := C8 H;obtain ⟨q, h2, H⟩ := C8 H;obtain ⟨a, h3, H⟩ := C8 H;obtain ⟨e, h4, H⟩ := C8 H;obtain ⟨z, h5, H⟩ := C8 H;obtain ⟨zs, h6, H⟩ := C8 H;obtain ⟨h7, H⟩ := F8 H;refine ⟨_, H, by rw [hn]; simp, fun st' A => ⟨_, ((Two.refl A).Hz hws _).put hw _ _, fun Y k' => ?_⟩⟩
 rw [GM];simp only [WQ, A.src _ _ hr, h1, K9, h2, A.s hrs, h3, h4, h5, h6, h7, W9]
theorem B01 {c : Call} {y v : Operand} {t u : TypeId} (E9 : o.op = .call c) (hc : c.callee = .builtin .append) (ha : c.args.toList = [y, v]) (ht : c.argTypes.toList = [t, u]) (H : JK C fl o y v t u st k = some x)
 (hr : J5 (tmpsOf [y, v]) f.rt) (hw : J5 o.dst.toList f.wt) (hwy : J5 (J9 y) f.wt) (hn : f.nb = none) (hos : K8 fl.opn o.dst = true → f.rs = true ∧ f.ws = true) : Fr C R fl o st k x f := by
 obtain ⟨q1, q2⟩ := Od hr;have GM : ∀ (Y : Type) (st : St) (k : St → Option Y), I4 C R fl o st k = JK C fl o y v t u st k := fun Y st k => by simp only [I4, E9, Ec, hc, ha, ht]
 unfold JK at H;obtain ⟨r, h1, H⟩ := C8 H;obtain ⟨s, h2, H⟩ := C8 H;obtain ⟨sz, h3, H⟩ := C8 H;obtain ⟨h4, H⟩ := F8 H
 by_cases gm : K8 fl.opn o.dst = true
 ·rw [if_pos gm] at H
  obtain ⟨p, h5, H⟩ := C8 H;obtain ⟨o1, o2⟩ := hos gm;refine ⟨_, H, by rw [hn]; simp, fun st' A => ⟨_, (((Two.refl A).release hwy fun i hi => A.t i (q1 i hi)).Hz o2 (st.sg ++ [D7.opn sz p.1 p.2])).put hw _ _, fun Y k' => ?_⟩⟩
  rw [GM];simp only [JK, A.src _ _ q1, A.src _ _ q2, h1, h2, h3, K9, h4, W9, if_pos gm, h5, A.s o1]
 rw [if_neg gm] at H;obtain ⟨d, h5, H⟩ := C8 H;refine ⟨_, H, by rw [hn]; simp, fun st' A => ⟨_, ((Two.refl A).release hwy fun i hi => A.t i (q1 i hi)).put hw _ _, fun Y k' => ?_⟩⟩
 rw [GM];simp only [JK, A.src _ _ q1, A.src _ _ q2, h1, h2, h3, K9, h4, W9, if_neg gm, h5]
theorem B5l {c : Call} {y v : Operand} {t u : TypeId} (E9 : o.op = .call c) (hc : c.callee = .builtin .max) (ha : c.args.toList = [y, v]) (ht : c.argTypes.toList = [t, u]) (H : I4 C R fl o st k = some x)
 (hr : J5 (tmpsOf [y, v]) f.rt) (hw : J5 o.dst.toList f.wt) (hn : f.nb = none) : Fr C R fl o st k x f := by
 obtain ⟨q1, q2⟩ := Od hr;simp only [I4, E9, Ec, hc, ha, ht] at H;obtain ⟨r, h1, H⟩ := C8 H;obtain ⟨s, h2, H⟩ := C8 H;obtain ⟨h4, H⟩ := F8 H;obtain ⟨d, h5, H⟩ := C8 H;refine M6 H hw hn fun st' A Y k' => ?_
 simp only [I4, E9, Ec, hc, ha, ht, A.src _ _ q1, A.src _ _ q2, h1, h2, K9, h4, W9, h5]
theorem B5m {c : Call} {y v : Operand} {t u : TypeId} (E9 : o.op = .call c) (hc : c.callee = .builtin .min) (ha : c.args.toList = [y, v]) (ht : c.argTypes.toList = [t, u]) (H : I4 C R fl o st k = some x)
 (hr : J5 (tmpsOf [y, v]) f.rt) (hw : J5 o.dst.toList f.wt) (hn : f.nb = none) : Fr C R fl o st k x f := by
 obtain ⟨q1, q2⟩ := Od hr;simp only [I4, E9, Ec, hc, ha, ht] at H;obtain ⟨r, h1, H⟩ := C8 H;obtain ⟨s, h2, H⟩ := C8 H;obtain ⟨h4, H⟩ := F8 H;obtain ⟨d, h5, H⟩ := C8 H;refine M6 H hw hn fun st' A Y k' => ?_
 simp only [I4, E9, Ec, hc, ha, ht, A.src _ _ q1, A.src _ _ q2, h1, h2, K9, h4, W9, h5]
theorem B34 {c : Call} {g : FuncId} (E9 : o.op = .call c) (hc : c.callee = .value (.func g)) (h1 : C.clone g = false) (h0 : C.iD g = none) (h2 : C.sig g = none) (H : I4 C R fl o st k = some x)
 (hr : J5 (tmpsOf c.args.toList) f.rt) (hw : J5 o.dst.toList f.wt) (hn : f.nb = none) : Fr C R fl o st k x f := by
 have mF : ¬ (C.clone g = true) := by rw [h1]; simp
 simp only [I4, E9, Ec, hc, src, K9, Il, if_neg mF, h0, h2, List.map_nil, z41q] at H;obtain ⟨rs, h3, H⟩ := C8 H;obtain ⟨h4, H⟩ := F8 H;obtain ⟨d, h5, H⟩ := C8 H;refine M6 H hw hn fun st' A Y k' => ?_
 simp only [I4, E9, Ec, hc, src, K9, Il, if_neg mF, h0, h2, List.map_nil, z41q, A.Hq _ hr, h3, h4, W9, h5]
theorem Two.Gn {st' s s' : St} (A : Two f st st' s s') {g : Option (Nat × Operand)} (hx : ∀ p, g = some p → J5 (J9 p.2) f.wt) (he : ∀ p, g = some p → ∀ t ∈ J9 p.2, s'.tm[t]? = s.tm[t]? ∧ s'.mt[t]? = s.mt[t]?) :
 Two f st st' (s.Gn g) (s'.Gn g) := by
 cases g with
 | none => exact A
 | some p => exact A.release (hx p rfl) (he p rfl)
theorem B5i {c : Call} {y : Operand} (E9 : o.op = .call c) (hc : c.callee = .value y) (H : I4 C R fl o st k = some x)
 (hr : J5 (tmpsOf (y :: c.args.toList)) f.rt) (hw : J5 o.dst.toList f.wt) (hwa : J5 (tmpsOf c.args.toList) f.wt) (hn : f.nb = none) (hrs : f.rs = true) (hws : f.ws = true) : Fr C R fl o st k x f := by
 have q1 : J5 (J9 y) f.rt := fun i h => hr i (by simp only [tmpsOf, z10q, z11q]; exact .inl h)
 have q2 : J5 (tmpsOf c.args.toList) f.rt := fun i h => hr i (by simp only [tmpsOf, z10q, z11q] at h ⊢; exact .inr h)
 simp only [I4, E9, Ec, hc] at H;obtain ⟨r, h1, H⟩ := C8 H;obtain ⟨rs, h2, H⟩ := C8 H
 split at H
 ·rename_i g caps hm
  have GM : ∀ st', FW f st st' → ∀ (Y : Type) (k' : St → Option Y), I4 C R fl o st' k' = Il C R o g c.args.toList (rs ++ caps.map fun m => (.undef, .ptr m.1 m.2)) st' k' := by
   intro st' A Y k';simp only [I4, E9, Ec, hc, A.src _ _ q1, A.Hq _ q2, h1, h2, K9, hm]
  generalize rs ++ caps.map (fun m => ((.undef, .ptr m.1 m.2) : DV × Meta)) = rs' at H GM
  unfold Il at H
  by_cases Vg : C.clone g = true
  ·rw [if_pos Vg] at H
   split at H
   ·rename_i r' 
    ·obtain ⟨p, hd, H⟩ := C8 H
     obtain ⟨h3, H⟩ := F8 H;refine ⟨_, H, by rw [hn]; simp, fun st' A => ⟨_, ((Two.refl A).Hz hws _).put hw _ _, fun Y k' => ?_⟩⟩
     rw [GM st' A];simp only [Il, if_pos Vg, hd, K9, h3, W9, A.s hrs]
   ·simp at H
  ·rw [if_neg Vg] at H
   cases hmk : C.iD g with
   | some g' =>
     rw [hmk] at H;simp only at H
     split at H
     ·rename_i r'
      obtain ⟨p, hd, H⟩ := C8 H;obtain ⟨h3, H⟩ := F8 H;refine ⟨_, H, by rw [hn]; simp, fun st' A => ⟨_, ((Two.refl A).Hz hws _).put hw _ _, fun Y k' => ?_⟩⟩
      rw [GM st' A];simp only [Il, if_neg Vg, hmk, hd, K9, h3, W9, A.s hrs]
     ·simp at H
   | none =>
   rw [hmk] at H;simp only at H
   split at H
   ·rename_i hs
    obtain ⟨h3, H⟩ := F8 H;obtain ⟨d, h4, H⟩ := C8 H;refine M6 H hw hn fun st' A Y k' => ?_
    rw [GM st' A];simp only [Il, if_neg Vg, hmk, hs, h3, W9, h4, K9]
   ·rename_i s hs
    obtain ⟨h3, H⟩ := F8 H;obtain ⟨q, h4, H⟩ := C8 H;obtain ⟨H, h6⟩ := A1u H;have BV : ∀ p, Ep 0 s.params c.args.toList = some p → J5 (J9 p.2) (tmpsOf c.args.toList) := by
     intro p hp i hi;obtain ⟨_, _, h5⟩ := tV hp;exact z48q.2 ⟨p.2, z18q h5, hi⟩
    refine ⟨_, H, by rw [hn]; simp, fun st' A => ⟨_, (((Two.refl A).Hz hws q.2).Gn (fun p hp i hi => hwa i (BV p hp i hi)) fun p hp i hi => A.t i (q2 i (BV p hp i hi))).put hw _ _, fun Y k' => ?_⟩⟩
    rw [GM st' A];simp only [Il, if_neg Vg, hmk, hs, h3, W9, A.s hrs, h4, K9];exact h6 _ _
 ·simp at H
def V8 (C : X5) (fl : Flags) (o : Oper) (st : St) : Fp :=
 if Xz C o then { rt := tmpsOf o.op.operands.toList, wt := o.dst.toList } else ED fl o st
theorem J5.refl (a : List Nat) : J5 a a := fun _ h => h
theorem Oc (a b : List Nat) : J5 a (a ++ b) := fun _ h => z11q.2 (.inl h)
theorem pE (a b : List Nat) : J5 b (a ++ b) := fun _ h => z11q.2 (.inr h)
theorem A4q {c : Prop} [Decidable c] (a b : List Nat) (h : c) : J5 b (a ++ (if c then b else [])) := by rw [if_pos h]; exact pE _ _
theorem nZ (H : I4 C R fl o st k = some x) : Fr C R fl o st k x (V8 C fl o st) := by
 have np : ∀ op, o.op = op → (∀ c, op ≠ .call c) → Xz C o = false := by
  intro op h1 h2;unfold Xz
  split
  ·rename_i c hc; exact absurd (h1.symm.trans hc) (h2 c)
  ·rfl
 have H0 := H;unfold I4 at H
 split at H
 ·rename_i y E9
  have e : V8 C fl o st = { rt := J9 y, wt := o.dst.toList ++ (if K8 fl.M0 o.dst then J9 y else []) } := by simp [V8, np _ E9 (by simp), ED, E9]
  rw [e];exact A8K (.inl E9) H0 (J5.refl _) (Oc _ _) (fun h => A4q _ _ h) rfl
 ·rename_i y E9
  have e : V8 C fl o st = { rt := J9 y, wt := o.dst.toList ++ (if K8 fl.M0 o.dst then J9 y else []) } := by simp [V8, np _ E9 (by simp), ED, E9]
  rw [e];exact A8K (.inr E9) H0 (J5.refl _) (Oc _ _) (fun h => A4q _ _ h) rfl
 ·rename_i c y z E9
  have e : V8 C fl o st = { rt := tmpsOf [c, y, z], wt := o.dst.toList } := by simp [V8, np _ E9 (by simp), ED, E9]
  rw [e];exact B33 E9 H0 (J5.refl _) (J5.refl _) rfl
 ·rename_i t E9
  have e : V8 C fl o st = if K8 fl.shared o.dst then { wt := o.dst.toList, rs := true, ws := true } else { wt := o.dst.toList, wb := o.dst.toList, nb := o.dst } := by simp [V8, np _ E9 (by simp), ED, E9]
  rw [e]
  by_cases hs : K8 fl.shared o.dst = true
  ·rw [if_pos hs]
   exact A6z E9 H0 (J5.refl _) (fun _ => ⟨rfl, rfl, rfl⟩) (fun h => by rw [hs] at h; cases h)
  ·rw [if_neg hs]
   exact A6z E9 H0 (J5.refl _) (fun h => absurd h hs) (fun h => ⟨rfl, J5.refl _⟩)
 ·rename_i t y E9
  have e : V8 C fl o st = if K8 fl.Yo o.dst then { rt := J9 y, wt := o.dst.toList } else if K8 fl.M0 o.dst then { rt := J9 y, wt := o.dst.toList ++ J9 y, wb := o.dst.toList, nb := o.dst } else if K8 fl.shared o.dst then { rt := J9 y, wt := o.dst.toList, rs := true, ws := true } else { rt := J9 y, wt := o.dst.toList, wb := o.dst.toList, nb := o.dst } := by simp [V8, np _ E9 (by simp), ED, E9]
  rw [e]
  by_cases He : K8 fl.Yo o.dst = true
  ·rw [if_pos He]
   exact A27 E9 H0 (J5.refl _) (J5.refl _) (fun _ => rfl) (fun h => by rw [He] at h; cases h) (fun h => by rw [He] at h; cases h) (fun h => by rw [He] at h; cases h)
  rw [if_neg He]
  by_cases Q7 : K8 fl.M0 o.dst = true
  ·rw [if_pos Q7]
   exact A27 E9 H0 (J5.refl _) (fun t ht => List.mem_append_left _ ht) (fun h => absurd h He) (fun _ _ => ⟨fun t ht => List.mem_append_right _ ht, rfl, J5.refl _⟩) (fun _ h => by rw [Q7] at h; cases h) (fun _ h => by rw [Q7] at h; cases h)
  rw [if_neg Q7]
  by_cases hs : K8 fl.shared o.dst = true
  ·rw [if_pos hs]
   exact A27 E9 H0 (J5.refl _) (J5.refl _) (fun h => absurd h He) (fun _ h => absurd h Q7) (fun _ _ _ => ⟨rfl, rfl, rfl⟩) (fun _ _ h => by rw [hs] at h; cases h)
  ·rw [if_neg hs]
   exact A27 E9 H0 (J5.refl _) (J5.refl _) (fun h => absurd h He) (fun _ h => absurd h Q7) (fun _ _ h => absurd h hs) (fun _ _ h => ⟨rfl, J5.refl _⟩)
 ·rename_i t ps E9
  have e : V8 C fl o st = { rt := tmpsOf (ps.toList.map (·.2)), wt := o.dst.toList } := by simp [V8, np _ E9 (by simp), ED, E9]
  rw [e];exact B2r E9 H0 (J5.refl _) (J5.refl _) rfl
 ·rename_i t n ps E9
  have e : V8 C fl o st = { rt := tmpsOf (ps.toList.map (·.2)), wt := o.dst.toList } := by simp [V8, np _ E9 (by simp), ED, E9]
  rw [e];exact A5p E9 H0 (J5.refl _) (J5.refl _) rfl
 ·rename_i t y E9
  have hsr : ∃ r, src C.P 0 st y = some r := by unfold EB at H; obtain ⟨r, h, _⟩ := C8 H; exact ⟨r, h⟩
  obtain ⟨r, hr⟩ := hsr;obtain ⟨r', CQ, hm⟩ := A7P C.P default hr;have e : V8 C fl o st = { rt := J9 y, wt := o.dst.toList, rb := (EE r'.2).1, wb := if K8 fl.M0 o.dst then (EE r'.2).1 else [], rs := (EE r'.2).2, ws := K8 fl.M0 o.dst && (EE r'.2).2 } := by
   simp [V8, np _ E9 (by simp), ED, E9, CQ]
  rw [e];refine B32 E9 H0 (J5.refl _) (J5.refl _) rfl fun r0 h0 => ?_
  rw [hr] at h0;cases h0;rw [hm];refine ⟨J5.refl _, id, fun Q7 => ⟨?_, fun h => ?_⟩⟩
  ·simp only [Q7, if_true]; exact J5.refl _
  ·simp only [Q7, z50q]; exact h
 ·rename_i t y v E9
  have hsr : ∃ r, src C.P 0 st y = some r := by unfold Eh at H; obtain ⟨r, h, _⟩ := C8 H; exact ⟨r, h⟩
  obtain ⟨r, hr⟩ := hsr;obtain ⟨r', CQ, hm⟩ := A7P C.P default hr;have e : V8 C fl o st = { rt := tmpsOf [y, v], wt := o.dst.toList ++ Dv st.mt v, rb := (EE r'.2).1, wb := (EE r'.2).1, rs := (EE r'.2).2, ws := (EE r'.2).2, so := if o.dst.isNone then iH r'.2 else none } := by
   simp [V8, np _ E9 (by simp), ED, E9, CQ]
  rw [e];refine B2w E9 H0 (J5.refl _) (Oc _ _) (pE _ _) rfl fun r0 h0 => ?_
  rw [hr] at h0;cases h0;rw [hm];exact ⟨J5.refl _, id, J5.refl _, id⟩
 ·rename_i y E9
  have e : V8 C fl o st = { rt := J9 y, wt := o.dst.toList } := by simp [V8, np _ E9 (by simp), ED, E9]
  rw [e];exact A75 E9 H0 (J5.refl _) (J5.refl _) rfl
 ·rename_i op t y z yt E9
  have e : V8 C fl o st = { rt := tmpsOf [y, z], wt := o.dst.toList } := by simp [V8, np _ E9 (by simp), ED, E9]
  rw [e];exact B5j E9 H0 (J5.refl _) (J5.refl _) rfl
 ·rename_i op t y E9
  have e : V8 C fl o st = { rt := J9 y, wt := o.dst.toList } := by simp [V8, np _ E9 (by simp), ED, E9]
  rw [e];exact B6L E9 H0 (J5.refl _) (J5.refl _) rfl
 ·rename_i t u y E9
  have e : V8 C fl o st = { rt := J9 y, wt := o.dst.toList } := by simp [V8, np _ E9 (by simp), ED, E9]
  rw [e];exact B31 E9 H0 (J5.refl _) (J5.refl _) rfl
 ·rename_i t y i E9
  have e : V8 C fl o st = { rt := J9 y, wt := o.dst.toList } := by simp [V8, np _ E9 (by simp), ED, E9]
  rw [e];exact A6A E9 H0 (J5.refl _) (J5.refl _) rfl
 ·rename_i t y i E9
  have e : V8 C fl o st = { rt := J9 y, wt := o.dst.toList } := by simp [V8, np _ E9 (by simp), ED, E9]
  rw [e];exact B2t E9 H0 (J5.refl _) (J5.refl _) rfl
 ·rename_i t y i E9
  have e : V8 C fl o st = { rt := tmpsOf [y, i], wt := o.dst.toList } := by simp [V8, np _ E9 (by simp), ED, E9]
  rw [e];exact A6B E9 H0 (J5.refl _) (J5.refl _) rfl
 ·rename_i t y i E9
  have e : V8 C fl o st = { rt := tmpsOf [y, i], wt := o.dst.toList } := by simp [V8, np _ E9 (by simp), ED, E9]
  rw [e];exact B2u E9 H0 (J5.refl _) (J5.refl _) rfl
 ·rename_i t y lo hi mx E9
  have e : V8 C fl o st = { rt := tmpsOf (y :: (lo.toList ++ hi.toList ++ mx.toList)), wt := o.dst.toList } := by simp [V8, np _ E9 (by simp), ED, E9]
  rw [e];exact B2v E9 H0 (J5.refl _) (J5.refl _) rfl
 ·rename_i g first caps E9
  have e : V8 C fl o st = { rt := tmpsOf caps.toList, wt := o.dst.toList } := by simp [V8, np _ E9 (by simp), ED, E9]
  rw [e];exact A74 E9 H0 (J5.refl _) (J5.refl _) rfl
 ·rename_i t E9
  have e : V8 C fl o st = { rt := tmpsOf o.op.operands.toList, wt := o.dst.toList ++ tmpsOf o.op.operands.toList, rs := true, ws := true } := by simp [V8, np _ E9 (by simp), ED, E9]
  rw [e];exact A9z E9 H0 (Oc _ _) rfl rfl rfl
 ·rename_i t y v ok E9
  have e : V8 C fl o st = { rt := tmpsOf [y, v], wt := o.dst.toList, rs := true } := by simp [V8, np _ E9 (by simp), ED, E9]
  rw [e];exact B02 E9 H0 (J5.refl _) (J5.refl _) rfl rfl
 ·rename_i t y v u E9
  have e : V8 C fl o st = { rt := tmpsOf [y, v, u], wt := o.dst.toList ++ tmpsOf [y, v, u], rs := true, ws := true } := by simp [V8, np _ E9 (by simp), ED, E9, Op.operands]
  rw [e];exact A6C E9 H0 (J5.refl _) (Oc _ _) rfl rfl rfl
 ·rename_i y i E9
  have e : V8 C fl o st = { rt := J9 y, wt := o.dst.toList ++ (if K8 fl.M0 o.dst then J9 y else []), ex := B2k y i o.dst } := by simp [V8, np _ E9 (by simp), ED, E9]
  rw [e];exact A9y E9 H0 (J5.refl _) (Oc _ _) (fun h => A4q _ _ h) rfl
 ·rename_i c E9
  unfold Ec at H
  split at H
  ·rename_i b hb
   have np' : Xz C o = false := by simp [Xz, E9, hb]
   split at H
   ·rename_i h1 h2
    have e : V8 C fl o st = { rt := tmpsOf c.args.toList, wt := o.dst.toList, rs := true } := by simp [V8, np', ED, E9, hb]
    rw [e];exact B5k E9 hb h1 h2 H (by rw [h1]; simp only [tmpsOf, z10q, z70q, z41q]; exact J5.refl _) (J5.refl _) rfl rfl
   ·rename_i y v t u h1 h2
    have e : V8 C fl o st = { rt := tmpsOf c.args.toList, wt := o.dst.toList ++ tmpsOf c.args.toList, rs := K8 fl.opn o.dst, ws := K8 fl.opn o.dst } := by simp [V8, np', ED, E9, hb]
    rw [e];refine B01 E9 hb h1 h2 H (by rw [h1]; exact J5.refl _) (Oc _ _) ?_ rfl fun h => ⟨h, h⟩
    intro i hi;refine pE _ _ i ?_;rw [h1];simp only [tmpsOf, z10q, z11q];exact .inl hi
   ·rename_i h1 h2
    have e : V8 C fl o st = { rt := tmpsOf c.args.toList, wt := o.dst.toList, rs := true, ws := true } := by simp [V8, np', ED, E9, hb]
    rw [e];exact B2s E9 hb h1 h2 H (by rw [h1]; simp only [tmpsOf, z10q, z70q, z41q]; exact J5.refl _) (J5.refl _) rfl rfl rfl
   ·rename_i h1 h2
    have e : V8 C fl o st = { rt := tmpsOf c.args.toList, wt := o.dst.toList } := by simp [V8, np', ED, E9, hb]
    rw [e];exact B5l E9 hb h1 h2 H0 (by rw [h1]; exact J5.refl _) (J5.refl _) rfl
   ·rename_i h1 h2
    have e : V8 C fl o st = { rt := tmpsOf c.args.toList, wt := o.dst.toList } := by simp [V8, np', ED, E9, hb]
    rw [e];exact B5m E9 hb h1 h2 H0 (by rw [h1]; exact J5.refl _) (J5.refl _) rfl
   ·simp at H
  ·rename_i y hy
   by_cases hp : Xz C o = true
   ·have e : V8 C fl o st = { rt := tmpsOf o.op.operands.toList, wt := o.dst.toList } := by simp [V8, hp]
    rw [e];unfold Xz at hp;rw [E9] at hp;simp only [hy] at hp
    split at hp
    ·rename_i g hg
     simp only [Callee.value.injEq] at hg;subst hg;simp only [z13q, z44q, z47q] at hp;refine B34 E9 hy hp.1.1 hp.1.2 hp.2 H0 (fun i hi => ?_) (J5.refl _) rfl
     simp only [E9, Op.operands, Call.operands, hy, Array.toList_append, tmpsOf, z36q, z11q] at hi ⊢;exact .inr hi
    ·simp at hp
   ·have e : V8 C fl o st = { rt := tmpsOf (y :: c.args.toList), wt := o.dst.toList ++ tmpsOf c.args.toList, rs := true, ws := true } := by simp [V8, hp, ED, E9, hy]
    rw [e];exact B5i E9 hy H0 (J5.refl _) (Oc _ _) (pE _ _) rfl rfl rfl
  ·simp at H
 ·simp at H
end
end Go.Su

/-
 THE DATA MACHINE, part 22: regions, in the text's order and in any.
-/
namespace Go.Su
theorem Kn {α : Type} {l l' : List α} (h : ∀ i : Nat, l'[i]? = l[i]?) : l' = l := z42q h
theorem Two.same {f : Fp} {st s s' : St} (T : Two f st st s s') : s' = s := by
 have h1 : s'.tm = s.tm := Kn fun i => by
  rcases T.t i with ⟨_, h, _⟩ | ⟨⟨h, _⟩, h', _⟩
  ·exact h
  ·rw [h, h']
 have h2 : s'.mt = s.mt := Kn fun i => by
  rcases T.t i with ⟨_, _, h⟩ | ⟨⟨_, h⟩, _, h'⟩
  ·exact h
  ·rw [h, h']
 have h3 : s'.bx = s.bx := Kn fun i => by
  rcases T.b i with ⟨_, h⟩ | ⟨h, h'⟩
  ·exact h
  ·rw [h, h']
 have h4 : s'.sg = s.sg := by
  rcases T.s with ⟨_, h⟩ | ⟨h, h'⟩
  ·exact h
  ·rw [h, h']
 cases s; cases s'; simp_all
theorem FW.refl {f : Fp} {st : St} (h : ∀ t, f.nb = some t → Jp t st.mt = true) : FW f st st := ⟨rfl, rfl, rfl, fun _ _ => ⟨rfl, rfl⟩, fun _ _ => rfl, fun _ => rfl, h⟩
theorem ng {X : Type} {C : X5} {R : N7} {fl : Flags} {o : Oper} {st : St} {k : St → Option X} {x : X} (H : I4 C R fl o st k = some x) :
 ∃ s, k s = some x ∧ ∀ (Y : Type) (k' : St → Option Y), I4 C R fl o st k' = k' s := by
 obtain ⟨s, h1, h2, h3⟩ := nZ H;obtain ⟨s', h4, h5⟩ := h3 st (FW.refl h2);rw [h4.same] at h5;exact ⟨s, h1, h5⟩
theorem EW {st : St} {t : Nat} {d : DV} (h : (st.get t).1 = d) (hd : d ≠ .undef) : st.know t d = st := by
 unfold St.know;have ht : st.tm[t]? = some d := by
  simp only [St.get, z2q] at h;cases hx : st.tm[t]? with
  | none => rw [hx] at h; exact absurd h.symm hd
  | some e => rw [hx] at h; simp only [z23q] at h; rw [h]
 have : st.tm.set t d = st.tm := by
  apply z42q;intro i
  by_cases hi : t = i
  ·subst hi
   rw [z26q ];rw [ht]; rfl
  ·rw [z1q hi]
 rw [this]
theorem A6W {β : Type} {d : DV} {a b c : Option β} {x : β} (h : I5 d a b c = some x) : (d = .bool true ∧ a = some x) ∨ (d = .bool false ∧ b = some x) ∨ (d = .I6 [] ∧ c = some x) := by
 unfold I5 at h
 split at h
 ·exact .inl ⟨rfl, h⟩
 ·exact .inr (.inl ⟨rfl, h⟩)
 ·exact .inr (.inr ⟨rfl, h⟩)
 ·simp at h
section
variable (C : X5) (R : N7) (fl : Flags) (ops : List Oper)
def Y1 (o : Oper) (s s1 : St) : Prop :=
 match o.guard with
 | none => I4 C R fl o s some = some s1
 | some (g, want) => ∃ t, JQ ops g = some t ∧ J3 (s.get t).2 = true ∧
    (((s.get t).1 = .bool want ∧ I4 C R fl o s some = some s1) ∨ (((s.get t).1 = .bool !want ∨ (s.get t).1 = .I6 []) ∧ s1 = s.put o.dst (.I6 []) .val))
def tO (want : Bool) : DV → Bool
 | .bool b => b == want
 | _ => false
def Bq (o : Oper) (s : St) : Fp :=
 match o.guard with
 | none => V8 C fl o s
 | some (g, want) =>
   match JQ ops g with
   | none => {}
   | some t => if tO want (s.get t).1 then (V8 C fl o s).look t else { rt := [t], wt := o.dst.toList }
end
section
variable {C : X5} {R : N7} {fl : Flags} {ops : List Oper} {o : Oper}
theorem FW.weaken {f g : Fp} {st st' : St} (A : FW f st st') (h1 : J5 g.rt f.rt) (h2 : J5 g.rb f.rb) (h3 : g.rs = true → f.rs = true) (h4 : ∀ t, g.nb = some t → f.nb = some t) : FW g st st' :=
 ⟨A.lt, A.lm, A.lb, fun i hi => A.t i (h1 i hi), fun i hi => A.b i (h2 i hi), fun h => A.s (h3 h), fun t h => A.n t (h4 t h)⟩
theorem FW.get {f : Fp} {st st' : St} (A : FW f st st') {t : Nat} (h : t ∈ f.rt) : st'.get t = st.get t := by
 obtain ⟨h1, h2⟩ := A.t t h;simp only [St.get, Kg h1, Kg h2]
theorem A8J {st st' : St} (A : FW (V8 C fl o st) st st') : V8 C fl o st' = V8 C fl o st := by
 unfold V8 at A ⊢
 split
 ·rfl
 ·rename_i hp
  rw [if_neg hp] at A;unfold ED at A ⊢
  split <;> rename_i E9
  all_goals first
   | rfl
   | (rename_i y
      cases y with
      | tmp t =>
        rw [E9] at A;simp only [src] at A ⊢;rw [A.get (t := t) (by simp [J9])]
      | _ => rfl)
   | (rename_i y v
      rw [E9] at A;simp only at A ⊢;have hrt : ∀ r, src default 0 st y = some r → ∀ u ∈ J9 v, st'.mt[u]? = st.mt[u]? := fun r hr u hu => by
       rw [hr] at A;exact (A.t u (by simp [tmpsOf, hu])).2
      cases y with
      | tmp t =>
        simp only [src] at A hrt ⊢;rw [A.get (t := t) (by simp [J9, tmpsOf])]
        rw [mY (hrt _ rfl)]
      | const c =>
        simp only [src] at A hrt ⊢;cases hc : cst default 0 c with
        | none => rfl
        | some r => rw [mY (hrt _ hc)]
      | func f =>
        simp only [src] at A hrt ⊢;rw [mY (hrt _ rfl)]
      | global g => rfl)
theorem aH {want : Bool} {d : DV} : tO want d = true ↔ d = .bool want := by
 unfold tO
 split
 ·simp
 ·rename_i h
  simp only [z7q, false_iff];intro hd;exact h _ hd
theorem A3L {s s1 : St} (H : Y1 C R fl ops o s s1) : (∀ t, (Bq C fl ops o s).nb = some t → Jp t s.mt = true) ∧
 ∀ s', FW (Bq C fl ops o s) s s' → Bq C fl ops o s' = Bq C fl ops o s ∧ ∃ s1', Two (Bq C fl ops o s) s s' s1 s1' ∧ Y1 C R fl ops o s' s1' := by
 unfold Y1 at H;unfold Bq Y1
 split at H
 ·rename_i hg
  obtain ⟨s0, h1, h2, h3⟩ := nZ H;simp only [Option.some.injEq] at h1;subst h1;refine ⟨h2, fun s' A => ⟨A8J A, ?_⟩⟩
  obtain ⟨s1', h4, h5⟩ := h3 s' A;exact ⟨s1', h4, h5 _ some⟩
 ·rename_i g want hg
  obtain ⟨t, ht, hd, H⟩ := H;simp only [ht];rcases H with ⟨hb, H⟩ | ⟨hb, H⟩
  ·have hB : tO want (s.get t).1 = true := aH.2 hb
   rw [if_pos hB];obtain ⟨s0, h1, h2, h3⟩ := nZ H;simp only [Option.some.injEq] at h1;subst h1;refine ⟨h2, fun s' A => ?_⟩
   have A' : FW (V8 C fl o s) s s' := A.weaken (fun i hi => z54q _ hi) (fun _ h => h) id fun _ h => h
   have A1I : s'.get t = s.get t := A.get (z46q ..);rw [A1I, if_pos hB, A8J A'];refine ⟨rfl, ?_⟩;obtain ⟨s1', h4, h5⟩ := h3 s' A';refine ⟨s1', ⟨h4.l, h4.ls, h4.ls', h4.t, h4.b, h4.s⟩, t, rfl, by rw [A1I]; exact hd, .inl ⟨by rw [A1I]; exact hb, h5 _ some⟩⟩
  ·have hB : ¬ (tO want (s.get t).1 = true) := by
    rw [aH];rcases hb with h | h <;> rw [h] <;> cases want <;> simp
   rw [if_neg hB];refine ⟨by simp, fun s' A => ?_⟩
   have A1I : s'.get t = s.get t := A.get (z46q ..);rw [A1I, if_neg hB];refine ⟨rfl, s'.put o.dst (.I6 []) .val, ?_, t, rfl, by rw [A1I]; exact hd, .inr ⟨by rw [A1I]; exact hb, rfl⟩⟩
   rw [H];exact (Two.refl A).put (fun _ h => h) _ _
theorem Y1.det {s s1 s2 : St} (H1 : Y1 C R fl ops o s s1) (H2 : Y1 C R fl ops o s s2) : s1 = s2 := by
 unfold Y1 at H1 H2
 split at H1
 ·rename_i hg
  simp only [hg] at H2;rw [H1] at H2;simpa using H2
 ·rename_i g want hg
  simp only [hg] at H2;obtain ⟨t, ht, hd, H1⟩ := H1;obtain ⟨t', ht', Gd, H2⟩ := H2;rw [ht] at ht';cases ht';rcases H1 with ⟨a, b⟩ | ⟨a, b⟩ <;> rcases H2 with ⟨c, d⟩ | ⟨c, d⟩
  ·rw [b] at d; simpa using d
  ·rw [a] at c; cases want <;> simp at c
  ·rw [c] at a; cases want <;> simp at a
  ·rw [b, d]
theorem Io {a b : List Nat} (h : jJ a b = true) : ∀ i, i ∈ a → i ∉ b := by
 intro i hi hb;have := z19q.1 h i hi;simp [hb] at this
theorem Em {mt mt' : List Meta} {i : Nat} (h : mt'[i]? = mt[i]?) : GY mt' i = GY mt i := by
 unfold GY; rw [Kg h]
theorem AQ {α β : Type} {l : List α} {f g : α → List β} (h : ∀ x ∈ l, f x = g x) : l.flatMap f = l.flatMap g := by
 induction l with
 | nil => rfl
 | cons a l ih => rw [z10q, z10q, h a (z46q ..), ih fun x hx => h x (z54q _ hx)]
theorem Zr {t : Nat} {mt : List Meta} : Jp t mt = true ↔ ∀ (i : Nat) s o, mt[i]? = some (.loc s o) → s ≠ t := by
 unfold Jp;rw [z19q];constructor
 ·intro h i s o hi
  have := h _ (z18q hi);simpa using this
 ·intro h m hm
  obtain ⟨i, hi⟩ := List.mem_iff_getElem?.1 hm
  split
  ·rename_i s o
   simpa using h i s o hi
  ·rfl
theorem B2l {o : Oper} {x i d : Nat} {s s1 : St} (E9 : o.op = .extract (.tmp x) i) (hd : o.dst = some d) : I4 C R fl o s some = some s1 ↔
 ∃ dv, O4 i (s.get x).1 = some dv ∧ (((s.get x).2 = .val ∧ s1 = s.put (some d) dv .val) ∨ ∃ ms, (s.get x).2 = .Bi ms ∧
   ((ms.getD i .val = .own ∧ K8 fl.M0 (some d) = true ∧ s1 = { s with mt := s.mt.set x (.Bi (ms.set i .val)) }.put (some d) dv .own) ∨
    ((ms.getD i .val = .val ∨ (ms.getD i .val = .own ∧ K8 fl.M0 (some d) = false)) ∧ s1 = s.put (some d) dv .val))) := by
 simp only [I4, E9, hd, src, K9];generalize s.get x = r;obtain ⟨r1, r2⟩ := r;simp only;constructor
 ·intro H
  split at H
  ·obtain ⟨dv, h1, H⟩ := C8 H
   simp only [Option.some.injEq] at H;exact ⟨dv, h1, .inl ⟨rfl, H.symm⟩⟩
  ·rename_i ms
   obtain ⟨dv, h1, H⟩ := C8 H;refine ⟨dv, h1, .inr ⟨ms, rfl, ?_⟩⟩
   split at H
   ·rename_i hm
    split at H
    ·rename_i Q7
     simp only [Option.some.injEq, St.pG] at H;exact .inl ⟨hm, Q7, H.symm⟩
    ·rename_i Q7
     simp only [Option.some.injEq] at H;exact .inr ⟨.inr ⟨hm, by simpa using Q7⟩, H.symm⟩
   ·rename_i hm
    simp only [Option.some.injEq] at H;exact .inr ⟨.inl hm, H.symm⟩
   ·simp at H
  ·simp at H
 ·rintro ⟨dv, h1, ⟨h2, rfl⟩ | ⟨ms, h2, ⟨h3, h4, rfl⟩ | ⟨h3 | ⟨h3, h4⟩, rfl⟩⟩⟩
  ·subst h2; simp only [h1, K9]
  ·subst h2; simp only [h1, K9, h3, h4, if_true, St.pG]
  ·subst h2; simp only [h1, K9, h3]
  ·subst h2; simp only [h1, K9, h3, h4, z7q, if_false]
theorem B3q {s : St} {x i d : Nat} (h : (Bq C fl ops o s).ex = some (x, i, d)) : o.guard = none ∧ o.op = .extract (.tmp x) i ∧ o.dst = some d ∧
 (∀ s', Bq C fl ops o s' = Bq C fl ops o s) ∧ ∀ u ∈ (Bq C fl ops o s).wt, u = d ∨ u = x := by
 unfold Bq at h
 split at h
 ·rename_i hg
  unfold V8 at h
  split at h
  ·simp at h
  ·rename_i hp
   unfold ED at h
   split at h
   all_goals first
    | (simp at h; done)
    | (split at h <;> simp at h; done)
    | (split at h <;> (try (simp at h; done)) <;> split at h <;> (try (simp at h; done)) <;> split at h <;> simp at h; done)
    | skip
   ·rename_i y j E9
    simp only [B2k] at h
    split at h
    ·rename_i t u hd
     simp only [Option.some.injEq, Prod.mk.injEq] at h;obtain ⟨rfl, rfl, rfl⟩ := h;refine ⟨hg, E9, hd, fun s' => ?_, fun u hu => ?_⟩
     ·unfold Bq V8 ED
      simp only [hg, E9, hp, z7q, if_false]
     ·unfold Bq V8 ED at hu
      simp only [hg, E9, hp, z7q, if_false, hd, Option.toList_some, z11q, z29q] at hu;rcases hu with hu | hu
      ·exact .inl hu
      ·split at hu
       ·simp only [J9, z29q] at hu; exact .inr hu
       ·simp at hu
    ·simp at h
   all_goals (split at h <;> (try simp at h) <;> (try (split at h <;> simp at h)))
 ·split at h
  ·simp at h
  ·split at h <;> simp [Fp.look] at h
theorem U_ {s : St} {d x : Nat} {v : DV} {m : Meta} (h : d ≠ x) : (s.put (some d) v m).get x = s.get x := by
 simp only [St.get, St.put, z2q, z1q h]
def taken (s : St) (x i d : Nat) (dv : DV) (own : Bool) : St :=
 if own then { s with mt := s.mt.set x (match (s.get x).2 with | .Bi ms => .Bi (ms.set i .val) | m => m) }.put (some d) dv .own else s.put (some d) dv .val
def ways (fl : Flags) (d i : Nat) (m : Meta) (own : Bool) : Prop :=
 (m = .val ∧ own = false) ∨ ∃ ms, m = .Bi ms ∧ ((ms.getD i .val = .own ∧ K8 fl.M0 (some d) = true ∧ own = true) ∨ ((ms.getD i .val = .val ∨ (ms.getD i .val = .own ∧ K8 fl.M0 (some d) = false)) ∧ own = false))
theorem gG {o : Oper} {x i d : Nat} {s s1 : St} (E9 : o.op = .extract (.tmp x) i) (hd : o.dst = some d) : I4 C R fl o s some = some s1 ↔
 ∃ dv own, O4 i (s.get x).1 = some dv ∧ ways fl d i (s.get x).2 own ∧ s1 = taken s x i d dv own := by
 rw [B2l E9 hd];constructor
 ·rintro ⟨dv, h1, ⟨h2, rfl⟩ | ⟨ms, h2, ⟨h3, h4, rfl⟩ | ⟨h3, rfl⟩⟩⟩
  ·exact ⟨dv, false, h1, .inl ⟨h2, rfl⟩, rfl⟩
  ·exact ⟨dv, true, h1, .inr ⟨ms, h2, .inl ⟨h3, h4, rfl⟩⟩, by simp only [taken, if_true, h2]⟩
  ·exact ⟨dv, false, h1, .inr ⟨ms, h2, .inr ⟨h3, rfl⟩⟩, rfl⟩
 ·rintro ⟨dv, own, h1, ⟨h2, rfl⟩ | ⟨ms, h2, ⟨h3, h4, rfl⟩ | ⟨h3, rfl⟩⟩, rfl⟩
  ·exact ⟨dv, h1, .inl ⟨h2, rfl⟩⟩
  ·exact ⟨dv, h1, .inr ⟨ms, h2, .inl ⟨h3, h4, by simp only [taken, if_true, h2]⟩⟩⟩
  ·exact ⟨dv, h1, .inr ⟨ms, h2, .inr ⟨h3, rfl⟩⟩⟩
theorem eZ {d i : Nat} {m : Meta} (h : ways fl d i m true) : ∃ ms, m = .Bi ms := by
 rcases h with ⟨_, h⟩ | ⟨ms, h, _⟩
 ·cases h
 ·exact ⟨ms, h⟩
theorem Sb {mt : List Meta} {d i x : Nat} {tm : List DV} {bx sg} {own : Bool} (h : ways fl d i ((⟨tm, mt, bx, sg⟩ : St).get x).2 own) : GY mt x = [] := by
 unfold GY;rcases h with ⟨h, _⟩ | ⟨ms, h, _⟩ <;> simp only [St.get] at h <;> rw [h]
theorem pF {s : St} {x i d : Nat} {dv : DV} {own : Bool} {u : Nat} (h1 : u ≠ d) (h2 : u ≠ x) : (taken s x i d dv own).mt[u]? = s.mt[u]? := by
 unfold taken
 split
 ·simp only [St.put, z1q (Ne.symm h1), z1q (Ne.symm h2)]
 ·simp only [St.put, z1q (Ne.symm h1)]
theorem A1M {s : St} {x : Nat} {ms : List Meta} (h : (s.get x).2 = .Bi ms) : x < s.mt.length := by
 by_cases hx : x < s.mt.length
 ·exact hx
 ·simp [St.get, z2q, z9q (z43q hx)] at h
theorem A5e {s : St} {x i j d e : Nat} {dv : DV} {own own' : Bool} (Pt : i ≠ j) (Xw : d ≠ x) (hw : ways fl d i (s.get x).2 own) :
 ((taken s x i d dv own).get x).1 = (s.get x).1 ∧ (ways fl e j ((taken s x i d dv own).get x).2 own' ↔ ways fl e j (s.get x).2 own') := by
 unfold taken
 split
 ·rename_i ho
  subst ho;obtain ⟨ms, hm⟩ := eZ hw;have hx := A1M hm;have e1 : (({ s with mt := s.mt.set x (match (s.get x).2 with | .Bi ms => .Bi (ms.set i .val) | m => m) } : St).put (some d) dv .own).get x = ((s.get x).1, .Bi (ms.set i .val)) := by
   rw [U_ Xw];simp only [St.get, z2q, z4q hx, z23q] at hm ⊢;rw [hm]
  rw [e1];refine ⟨rfl, ?_⟩;unfold ways;rw [hm];simp only [reduceCtorEq, false_and, false_or, Meta.Bi.injEq, exists_eq_left', z2q, z1q Pt]
 ·rw [U_ Xw]
  exact ⟨rfl, Iff.rfl⟩
theorem A5f {s : St} {x i d : Nat} {dv : DV} {own : Bool} (Xw : d ≠ x) (hw : ways fl d i (s.get x).2 own) : GY (taken s x i d dv own).mt x = [] := by
 unfold taken
 split
 ·rename_i ho
  subst ho;obtain ⟨ms, hm⟩ := eZ hw;have hx := A1M hm;simp only [GY, St.put, z2q, z1q Xw, z4q hx, z23q, hm]
 ·have := Sb (tm := s.tm) (mt := s.mt) (bx := s.bx) (sg := s.sg) hw
  rw [← this];exact Em (by simp only [St.put, z1q Xw])
theorem B0i {s : St} {x i j d e : Nat} {dv ev : DV} {o1 o2 : Bool} (Pt : i ≠ j) (hde : d ≠ e) (Xw : d ≠ x) (hex : e ≠ x) (h1 : ways fl d i (s.get x).2 o1) (h2 : ways fl e j (s.get x).2 o2) :
 taken (taken s x i d dv o1) x j e ev o2 = taken (taken s x j e ev o2) x i d dv o1 := by
 cases o1 <;> cases o2
 ·simp only [taken, z7q, if_false, St.put, z27q _ _ hde]
 ·obtain ⟨ms, hm⟩ := eZ h2
  simp only [taken, z7q, if_false, if_true, U_ Xw, hm];simp only [St.put, z27q _ _ hde, z27q _ _ Xw]
 ·obtain ⟨ms, hm⟩ := eZ h1
  simp only [taken, z7q, if_false, if_true, U_ hex, hm];simp only [St.put, z27q _ _ hde, z27q _ _ hex]
 ·obtain ⟨ms, hm⟩ := eZ h1
  have hx := A1M hm;have g1 : ∀ (k f : Nat) (fv : DV), f ≠ x → (({ s with mt := s.mt.set x (.Bi (ms.set k .val)) } : St).put (some f) fv .own).get x = ((s.get x).1, .Bi (ms.set k .val)) := by
   intro k f fv hf;rw [U_ hf];simp only [St.get, z2q, z4q hx, z23q]
  simp only [taken, if_true, hm, g1 i d dv Xw, g1 j e ev hex];simp only [St.put, z27q _ _ hde, z27q _ _ hex, z27q _ _ Xw, z71q, z27q _ _ Pt]
theorem B2m {oi oj : Oper} {x i j d e : Nat} {s s1 s2 : St} (gi : oi.guard = none) (gj : oj.guard = none) (pi : oi.op = .extract (.tmp x) i) (pj : oj.op = .extract (.tmp x) j) (di : oi.dst = some d) (dj : oj.dst = some e)
 (Pt : i ≠ j) (hde : d ≠ e) (Xw : d ≠ x) (hex : e ≠ x) (Hj : Y1 C R fl ops oj s s1) (Hi : Y1 C R fl ops oi s1 s2) :
 ∃ s1', Y1 C R fl ops oi s s1' ∧ Y1 C R fl ops oj s1' s2 ∧ (∀ u, u = d ∨ u = x → GY s1'.mt u = GY s2.mt u ∧ GY s.mt u = GY s1.mt u) ∧ (∀ u, u = e ∨ u = x → GY s1'.mt u = GY s.mt u ∧ GY s2.mt u = GY s1.mt u) := by
 unfold Y1 at Hi Hj ⊢;simp only [gi, gj] at Hi Hj ⊢;obtain ⟨dvj, oj1, Pv, hj2, rfl⟩ := (gG pj dj).1 Hj;obtain ⟨dvi, oi1, TD, xg, rfl⟩ := (gG pi di).1 Hi;have tj := A5e (s := s) (x := x) (i := j) (j := i) (d := e) (e := d) (dv := dvj) (own' := oi1) (Ne.symm Pt) hex hj2;rw [tj.1] at TD;have hi0 := tj.2.1 xg;have ti := A5e (s := s) (x := x) (i := i) (j := j) (d := d) (e := e) (dv := dvi) (own' := oj1) Pt Xw hi0;have hj3 := ti.2.2 hj2;have cm := B0i (s := s) (dv := dvi) (ev := dvj) Pt hde Xw hex hi0 hj2;refine ⟨taken s x i d dvi oi1, (gG pi di).2 ⟨dvi, oi1, TD, hi0, rfl⟩, (gG pj dj).2 ⟨dvj, oj1, by rw [ti.1]; exact Pv, hj3, cm.symm⟩, ?_, ?_⟩
 ·rintro u (rfl | rfl)
  ·refine ⟨?_, ?_⟩
   ·rw [← cm]; exact Em (pF hde Xw).symm
   ·exact Em (pF hde Xw).symm
  ·refine ⟨(Sb hj3).trans ?_, (Sb hi0).trans (Sb xg).symm⟩
   exact (A5f Xw xg).symm
 ·rintro u (rfl | rfl)
  ·refine ⟨?_, ?_⟩
   ·exact Em (pF (Ne.symm hde) hex)
   ·exact Em (pF (Ne.symm hde) hex)
  ·exact ⟨(Sb hj3).trans (Sb hi0).symm, (A5f Xw xg).trans (Sb xg).symm⟩
theorem A6V {m : Meta} {k : Bool} (h : iH m = some k) : ∃ i, iG m = some i := by
 cases m <;> simp [iH] at h <;> exact ⟨_, rfl⟩
def A3e : D7 → Bool
 | .opn _ _ _ => true
 | _ => false
theorem B0y {P : Program} {t : TypeId} {v : Value} {r : DV × Meta} (H : cst P t v = some r) : iG r.2 = none := by
 unfold cst at H
 split at H <;> simp only [Option.some.injEq, reduceCtorEq] at H <;> subst H <;> rfl
def stored (s : St) (i : Nat) (ob : D7) (rl : Option Operand) : St :=
 match rl with
 | some v => St.release { s with sg := s.sg.set i ob } v
 | none => { s with sg := s.sg.set i ob }
theorem iR (s : St) (i : Nat) (ob : D7) (rl : Option Operand) : (stored s i ob rl).sg = s.sg.set i ob := by
 unfold stored;cases rl with
 | none => rfl
 | some v => cases v <;> rfl
theorem yh (s : St) (i : Nat) (ob : D7) (rl : Option Operand) : (stored s i ob rl).tm = s.tm := by
 unfold stored;cases rl with
 | none => rfl
 | some v => cases v <;> rfl
theorem B1K (s : St) (i : Nat) (ob : D7) (rl : Option Operand) : (stored s i ob rl).bx = s.bx := by
 unfold stored;cases rl with
 | none => rfl
 | some v => cases v <;> rfl
def Zx (mt : List Meta) (rl : Option Operand) : List Meta :=
 match rl with
 | some (.tmp t) => mt.set t (dm (mt.getD t .val))
 | _ => mt
theorem Ob (s : St) (i : Nat) (ob : D7) (rl : Option Operand) : (stored s i ob rl).mt = Zx s.mt rl := by
 unfold stored Zx;cases rl with
 | none => rfl
 | some v => cases v <;> rfl
theorem Wo {mt : List Meta} {rl : Option Operand} {u : Nat} (h : ∀ v, rl = some v → u ∉ Dv mt v) : (Zx mt rl)[u]? = mt[u]? := by
 unfold Zx
 split
 ·rename_i t
  have := h _ rfl;rcases B2Z (mt := mt) (t := t) with e | e
  ·rw [e] at this
   simp only [z29q] at this;rw [z1q (Ne.symm this)]
  ·rw [e]
 ·rfl
theorem A90 {mt : List Meta} {r1 r2 : Option Operand} : Zx (Zx mt r1) r2 = Zx (Zx mt r2) r1 := by
 cases r1 with
 | none => rfl
 | some v1 =>
   cases r2 with
   | none => rfl
   | some v2 =>
     cases v1 <;> cases v2 <;> try rfl
     rename_i t t'
     by_cases hne : t = t'
     ·subst hne; rfl
     ·simp only [Zx, z2q, z1q hne, z1q (Ne.symm hne)]
      rw [z27q _ _ hne]
theorem A7e {g g' : List D7} {i : Nat} (h : g'[i]? = g[i]?) : M7 g' i = M7 g i := by unfold M7; rw [h]
theorem B24 {g g' : List D7} {i : Nat} (h : g'[i]? = g[i]?) : Zz g' i = Zz g i := by unfold Zz; rw [h]
theorem A3M {t : TypeId} {y v : Operand} {i : Nat} {s s1 : St} (E9 : o.op = .store t y v) (hd : o.dst = none) {r : DV × Meta} (hr : src C.P 0 s y = some r) (hi : iG r.2 = some i) {kd : Bool} (hk : iH r.2 = some kd) (H : I4 C R fl o s some = some s1) :
 ∃ ob rl, (rl = none ∨ rl = some v) ∧ (A3e ob = kd ∧ ∃ old, s.sg[i]? = some old ∧ A3e old = kd) ∧ s1 = stored s i ob rl ∧ ∀ s', src C.P 0 s' y = src C.P 0 s y → src C.P t s' v = src C.P t s v → s'.sg[i]? = s.sg[i]? → I4 C R fl o s' some = some (stored s' i ob rl) := by
 simp only [I4, E9, Eh] at H;obtain ⟨r0, h1, H⟩ := C8 H;rw [hr] at h1;simp only [Option.some.injEq] at h1;subst h1;obtain ⟨u, h2, H⟩ := C8 H;obtain ⟨z, h3, H⟩ := C8 H;have pn : ∀ s : St, s.put o.dst (.I6 []) .val = s := fun s => by rw [hd]; rfl
 split at H
 ·rename_i hm; rw [hm] at hi; simp [iG] at hi
 ·rename_i i' off hm
  rw [hm] at hi;simp only [iG, Option.some.injEq] at hi;subst hi;rw [hm] at hk;simp only [iH, Option.some.injEq] at hk;subst hk;obtain ⟨cs, h4, H⟩ := C8 H;have ho : ∃ old, s.sg[i']? = some old ∧ A3e old = false := by
   unfold M7 at h4
   split at h4
   ·rename_i hq; exact ⟨_, hq, rfl⟩
   ·cases h4
  by_cases hz : z.2 = true
  ·rw [if_pos hz] at H
   obtain ⟨xs, H, h5⟩ := XQ H;obtain ⟨h6, H⟩ := M3 H;rw [pn] at H;simp only [Option.some.injEq] at H;refine ⟨_, none, .inl rfl, ⟨rfl, ho⟩, H.symm, fun s' a1 a2 a3 => ?_⟩
   simp only [I4, E9, Eh, a1, hr, a2, h2, h3, K9, hm, A7e a3, h4, if_pos hz, h5, if_pos h6, pn];rfl
  ·rw [if_neg hz] at H
   obtain ⟨c, H, h5⟩ := UB H;obtain ⟨c0, h6, H⟩ := C8 H;rw [pn] at H;simp only [Option.some.injEq] at H;refine ⟨_, some v, .inr rfl, ⟨rfl, ho⟩, H.symm, fun s' a1 a2 a3 => ?_⟩
   simp only [I4, E9, Eh, a1, hr, a2, h2, h3, K9, hm, A7e a3, h4, if_neg hz, h5, h6, pn];rfl
 ·rename_i hm; rw [hm] at hi; simp [iG] at hi
 ·rename_i i' sz idx hm
  rw [hm] at hi;simp only [iG, Option.some.injEq] at hi;subst hi;rw [hm] at hk;simp only [iH, Option.some.injEq] at hk;subst hk;obtain ⟨q, h4, H⟩ := C8 H;have ho : ∃ old, s.sg[i']? = some old ∧ A3e old = true := by
   unfold Zz at h4
   split at h4
   ·rename_i hq; exact ⟨_, hq, rfl⟩
   ·cases h4
  obtain ⟨H, h6⟩ := XN H;obtain ⟨h7, H⟩ := F8 H;obtain ⟨x', h8, H⟩ := C8 H;rw [pn] at H;simp only [Option.some.injEq] at H;have hx : A3e x' = true := by
   unfold A4c at h8
   split at h8
   ·simp only [Option.some.injEq] at h8; subst h8; rfl
   ·cases h8
  refine ⟨x', none, .inl rfl, ⟨hx, ho⟩, H.symm, fun s' a1 a2 a3 => ?_⟩
  simp only [I4, E9, Eh, a1, hr, a2, h2, h3, K9, hm, B24 a3, h4, h6, h7, W9, h8, pn];rfl
 ·simp at H
theorem B3H {s : St} {i : Bool} (h : (Bq C fl ops o s).so = some i) : o.guard = none ∧ o.dst = none ∧ ∃ t y v r, o.op = .store t y v ∧ src default 0 s y = some r ∧ iH r.2 = some i ∧
 (Bq C fl ops o s).rt = tmpsOf [y, v] ∧ (Bq C fl ops o s).wt = Dv s.mt v ∧ ∀ s', src default 0 s' y = src default 0 s y → Dv s'.mt v = Dv s.mt v → Bq C fl ops o s' = Bq C fl ops o s := by
 unfold Bq at h ⊢
 split at h
 ·rename_i hg
  simp only [hg];unfold V8 at h ⊢
  split at h
  ·simp at h
  ·rename_i hp
   unfold ED at h
   split at h
   all_goals first
    | (simp at h; done)
    | (split at h <;> simp at h; done)
    | (split at h <;> (try (simp at h; done)) <;> split at h <;> (try (simp at h; done)) <;> split at h <;> simp at h; done)
    | skip
   ·rename_i t y v E9
    split at h
    ·rename_i r hr
     simp only at h
     by_cases hd : o.dst.isNone = true
     ·rw [if_pos hd] at h
      have Gd : o.dst = none := z47q.1 hd;refine ⟨trivial, Gd, t, y, v, r, E9, hr, h, ?_, ?_, fun s' hs tL => ?_⟩
      ·rw [if_neg hp]; unfold ED; simp only [E9, hr]
      ·rw [if_neg hp]; unfold ED; simp only [E9, hr, Gd, Option.toList_none, List.nil_append]
      ·rw [if_neg hp, if_neg hp]; unfold ED; simp only [E9, hr, hs, tL]
     ·rw [if_neg hd] at h; cases h
    ·simp at h
   all_goals (split at h <;> (try simp at h) <;> (try (split at h <;> simp at h)))
 ·split at h
  ·simp at h
  ·split at h <;> simp [Fp.look] at h
theorem B4O {oi oj : Oper} {s s1 s2 : St} (Hj : Y1 C R fl ops oj s s1) (Hi : Y1 C R fl ops oi s1 s2)
 (hc : A7n ((Bq C fl ops oj s).Ae s s1) ((Bq C fl ops oi s1).Ae s1 s2) = true) :
 ∃ s1', Y1 C R fl ops oi s s1' ∧ Y1 C R fl ops oj s1' s2 ∧ (Bq C fl ops oi s).Ae s s1' = (Bq C fl ops oi s1).Ae s1 s2 ∧ (Bq C fl ops oj s1').Ae s1' s2 = (Bq C fl ops oj s).Ae s s1 := by
 unfold A7n at hc
 split at hc
 ·rename_i ka kb ha hb
  simp only [Fp.Ae] at ha hb;simp only [Fp.Ae, z13q, bne_iff_ne, ne_eq] at hc;obtain ⟨⟨⟨B7X, c1⟩, c2⟩, c3⟩ := hc;have c1 := Io c1;have c2 := Io c2;have c3 := Io c3;obtain ⟨gj, dj, tj, yj, vj, rj, pj, sj, bj, ej, wj, fj⟩ := B3H ha;obtain ⟨gi, di, ti, yi, vi, ri, pi, si, bi, ei, wi, fi⟩ := B3H hb;obtain ⟨a, ja⟩ := A6V bj;obtain ⟨b, jb⟩ := A6V bi;rw [ei, wj] at c1;rw [wi, wj] at c2;rw [ej, wi] at c3;unfold Y1 at Hi Hj;simp only [gi, gj] at Hi Hj;have real : ∀ {s : St} {y : Operand} {r : DV × Meta} {n : Nat}, src default 0 s y = some r → iG r.2 = some n → src C.P 0 s y = some r := by
   intro s y r n h1 h2;cases y with
   | tmp t => exact h1
   | const v =>
     simp only [src] at h1;have := B0y h1;rw [this] at h2; cases h2
   | func f => exact h1
   | global g => cases h1
  obtain ⟨obj, rlj, qj, ⟨oj1, old1, oj2, oj3⟩, e1, Gj⟩ := A3M pj dj (real sj ja) ja bj Hj;obtain ⟨obi, rli, qi, ⟨oi1, old2, oi2, oi3⟩, e2, Gi⟩ := A3M pi di (real si jb) jb bi Hi;have mH : a ≠ b := by
   rintro rfl;have hl : a < s.sg.length := by
    rcases z30q a s.sg.length with h | h
    ·exact h
    ·rw [z9q h] at oj2; cases oj2
   rw [e1, iR, z4q hl] at oi2;simp only [Option.some.injEq] at oi2;subst oi2;exact B7X (oj1.symm.trans oi3)
  have sj' : ∀ v, rlj = some v → v = vj := fun v h => by rcases qj with q | q <;> rw [q] at h <;> simp at h; exact h.symm
  have si' : ∀ v, rli = some v → v = vi := fun v h => by rcases qi with q | q <;> rw [q] at h <;> simp at h; exact h.symm
  have B3I : ∀ {P : Program} {t : TypeId} {st st' : St} {y : Operand}, (∀ u ∈ J9 y, st'.tm[u]? = st.tm[u]? ∧ st'.mt[u]? = st.mt[u]?) → src P t st' y = src P t st y := by
   intro P t st st' y h;cases y with
   | tmp u =>
     obtain ⟨h1, h2⟩ := h u (by simp [J9])
     simp only [src, St.get, Kg h1, Kg h2]
   | _ => rfl
  have k1 : ∀ {P : Program} {t : TypeId} {y : Operand}, (∀ u ∈ J9 y, u ∉ Dv s.mt vj) → src P t s1 y = src P t s y := by
   intro P t y h;rw [e1];exact B3I fun u hu => ⟨by rw [yh], by rw [Ob, Wo fun v hv => by rw [sj' v hv]; exact h u hu]⟩
  have y1 : ∀ u ∈ J9 yi, u ∉ Dv s.mt vj := fun u hu hv => c1 u hv (by simp [tmpsOf, hu])
  have y2 : ∀ u ∈ J9 vi, u ∉ Dv s.mt vj := fun u hu hv => c1 u hv (by simp [tmpsOf, hu])
  have mtj : ∀ u, u ∉ Dv s.mt vj → s1.mt[u]? = s.mt[u]? := fun u hu => by rw [e1, Ob, Wo fun v hv => by rw [sj' v hv]; exact hu]
  have ri1 : Dv s1.mt vi = Dv s.mt vi := mY fun u hu => mtj u (y2 u hu)
  rw [ri1] at wi c2 c3;have k2 : ∀ {P : Program} {t : TypeId} {y : Operand}, (∀ u ∈ J9 y, u ∉ Dv s.mt vi) → src P t (stored s b obi rli) y = src P t s y := by
   intro P t y h;exact B3I fun u hu => ⟨by rw [yh], by rw [Ob, Wo fun v hv => by rw [si' v hv]; exact h u hu]⟩
  have y3 : ∀ u ∈ J9 yj, u ∉ Dv s.mt vi := fun u hu hv => c3 u hv (by simp [tmpsOf, hu])
  have y4 : ∀ u ∈ J9 vj, u ∉ Dv s.mt vi := fun u hu hv => c3 u hv (by simp [tmpsOf, hu])
  have A1 := Gi s (k1 y1).symm (k1 y2).symm (by rw [e1, iR, z1q mH])
  have A2 := Gj (stored s b obi rli) (k2 y3) (k2 y4) (by rw [iR, z1q (Ne.symm mH)])
  have B5q : stored (stored s b obi rli) a obj rlj = s2 := by
   rw [e2, e1];have h1 : (stored (stored s b obi rli) a obj rlj).mt = (stored (stored s a obj rlj) b obi rli).mt := by
    simp only [Ob];exact A90
   have h2 : (stored (stored s b obi rli) a obj rlj).sg = (stored (stored s a obj rlj) b obi rli).sg := by
    simp only [iR];rw [z27q _ _ (Ne.symm mH)]
   have h3 : (stored (stored s b obi rli) a obj rlj).tm = (stored (stored s a obj rlj) b obi rli).tm := by simp only [yh]
   have h4 : (stored (stored s b obi rli) a obj rlj).bx = (stored (stored s a obj rlj) b obi rli).bx := by simp only [B1K]
   generalize stored (stored s b obi rli) a obj rlj = A at *;generalize stored (stored s a obj rlj) b obi rli = B at *;cases A; cases B; simp_all
  rw [B5q] at A2;have B5Q : ∀ u, u ∉ Dv s.mt vi → (stored s b obi rli).mt[u]? = s.mt[u]? := fun u hu => by rw [Ob, Wo fun v hv => by rw [si' v hv]; exact hu]
  have rj1 : Dv (stored s b obi rli).mt vj = Dv s.mt vj := mY fun u hu => B5Q u (y4 u hu)
  have fi' := fi s (k1 y1).symm ri1.symm;have fj' := fj (stored s b obi rli) (k2 y3) rj1;have mti : ∀ u, u ∉ Dv s.mt vi → s2.mt[u]? = s1.mt[u]? := fun u hu => by rw [e2, Ob, Wo fun v hv => by rw [si' v hv, ri1]; exact hu]
  have B8e : ∀ u, u ∉ Dv s.mt vj → s2.mt[u]? = (stored s b obi rli).mt[u]? := fun u hu => by rw [← B5q, Ob, Wo fun v hv => by rw [sj' v hv, rj1]; exact hu]
  refine ⟨stored s b obi rli, ?_, ?_, ?_, ?_⟩
  ·unfold Y1; simp only [gi]; exact A1
  ·unfold Y1; simp only [gj]; exact A2
  ·rw [fi']
   simp only [Fp.Ae, Fp.mk.injEq, true_and, and_true];rw [wi]
   congr 1
   ·exact AQ fun u hu => (Em (mtj u (y2 u (oZ hu)))).symm
   ·exact AQ fun u hu => (Em (B8e u (y2 u (oZ hu)))).symm
  ·rw [fj']
   simp only [Fp.Ae, Fp.mk.injEq, true_and, and_true];rw [wj]
   congr 1
   ·exact AQ fun u hu => Em (B5Q u (y4 u (oZ hu)))
   ·exact AQ fun u hu => Em (mti u (y4 u (oZ hu)))
 ·cases hc
theorem B0g {oi oj : Oper} {s s1 s2 : St} (Hj : Y1 C R fl ops oj s s1) (Hi : Y1 C R fl ops oi s1 s2)
 (hc : A9h ((Bq C fl ops oj s).Ae s s1) ((Bq C fl ops oi s1).Ae s1 s2) = true) :
 ∃ s1', Y1 C R fl ops oi s s1' ∧ Y1 C R fl ops oj s1' s2 ∧ (Bq C fl ops oi s).Ae s s1' = (Bq C fl ops oi s1).Ae s1 s2 ∧ (Bq C fl ops oj s1').Ae s1' s2 = (Bq C fl ops oj s).Ae s s1 := by
 obtain ⟨nj, Fj⟩ := A3L Hj;obtain ⟨ni, Fi⟩ := A3L Hi;generalize hfj : Bq C fl ops oj s = f at *;generalize hfi : Bq C fl ops oi s1 = g at *;simp only [A9h, Fp.Ae, z13q, z44q, Bool.and_eq_false_imp, Bool.or_eq_false_iff] at hc;obtain ⟨⟨⟨⟨⟨⟨⟨⟨⟨c1, c2⟩, c3⟩, c4⟩, c5⟩, c6⟩, c7⟩, c8⟩, c9⟩, c10⟩ := hc;have c1 := Io c1;have c2 := Io c2;have c3 := Io c3;have c4 := Io c4;have c5 := Io c5;have c6 := Io c6;obtain ⟨-, Tj⟩ := Fj s (FW.refl nj);obtain ⟨s1x, Tj, Rj⟩ := Tj;obtain rfl := Rj.det Hj;obtain ⟨-, Ti⟩ := Fi s1x (FW.refl ni);obtain ⟨s2x, Ti, Ri⟩ := Ti;obtain rfl := Ri.det Hi;have A9W : ∀ u : Nat, u ∉ f.wt → s1x.tm[u]? = s.tm[u]? ∧ s1x.mt[u]? = s.mt[u]? := fun u hu => by
  rcases Tj.t u with ⟨h, _⟩ | ⟨h, _⟩
  ·exact absurd h hu
  ·exact h
 have B8g : ∀ u : Nat, u ∉ g.wt → s2x.tm[u]? = s1x.tm[u]? ∧ s2x.mt[u]? = s1x.mt[u]? := fun u hu => by
  rcases Ti.t u with ⟨h, _⟩ | ⟨h, _⟩
  ·exact absurd h hu
  ·exact h
 have B69 : ∀ u : Nat, u ∉ f.wb → s1x.bx[u]? = s.bx[u]? := fun u hu => by
  rcases Tj.b u with ⟨h, _⟩ | ⟨h, _⟩
  ·exact absurd h hu
  ·exact h
 have Ai : FW g s1x s := by
  refine ⟨Tj.ls.1.symm, Tj.ls.2.1.symm, Tj.ls.2.2.symm, fun u hu => ?_, fun u hu => ?_, fun hr => ?_, fun t ht => ?_⟩
  ·have := A9W u fun h => c1 u h hu
   exact ⟨this.1.symm, this.2.symm⟩
  ·exact (B69 u fun h => c4 u h hu).symm
  ·rcases Tj.s with ⟨h, _⟩ | ⟨h, _⟩
   ·rw [(c7 h).1] at hr; cases hr
   ·exact h.symm
  ·rw [Zr]
   intro u s0 o0 hu Q7
   by_cases hw : u ∈ f.wt
   ·have X9 : zQ g (f.Ae s s1x) = true := c10
    simp only [zQ, ht, z44q, z55q, decide_eq_false_iff_not, Fp.Ae, z11q, not_or] at X9;refine X9.1 (z48q.2 ⟨u, hw, ?_⟩);simp only [GY, z2q, hu, z23q, z29q];exact Q7.symm
   ·have := Zr.1 (ni t ht) u s0 o0 (by rw [(A9W u hw).2]; exact hu)
    exact this Q7
 obtain ⟨ei, s1', Ti', Ri'⟩ := Fi s Ai;have Aj : FW f s s1' := by
  refine ⟨Ti'.ls'.1.trans Tj.ls.1, Ti'.ls'.2.1.trans Tj.ls.2.1, Ti'.ls'.2.2.trans Tj.ls.2.2, fun u hu => ?_, fun u hu => ?_, fun hr => ?_, fun t ht => ?_⟩
  ·rcases Ti'.t u with ⟨h, _⟩ | ⟨h, _⟩
   ·exact absurd hu (c3 u h)
   ·exact h
  ·rcases Ti'.b u with ⟨h, _⟩ | ⟨h, _⟩
   ·exact absurd hu (c6 u h)
   ·exact h
  ·rcases Ti'.s with ⟨h, _⟩ | ⟨h, _⟩
   ·rw [(c8 h).1] at hr; cases hr
   ·exact h
  ·rw [Zr]
   intro u s0 o0 hu Q7;rcases Ti'.t u with ⟨hw, _, h⟩ | ⟨⟨_, h⟩, _⟩
   ·have h9 : zQ f (g.Ae s1x s2x) = true := c9
    simp only [zQ, ht, z44q, z55q, decide_eq_false_iff_not, Fp.Ae, z11q, not_or] at h9;refine h9.2 (z48q.2 ⟨u, hw, ?_⟩);rw [h] at hu;simp only [GY, z2q, hu, z23q, z29q];exact Q7.symm
   ·exact Zr.1 (nj t ht) u s0 o0 (by rw [← h]; exact hu) Q7
 obtain ⟨ej, s2', Tj', Rj'⟩ := Fj s1' Aj;have hs : s2' = s2x := by
  have tt : ∀ u : Nat, s2'.tm[u]? = s2x.tm[u]? ∧ s2'.mt[u]? = s2x.mt[u]? := fun u => by
   rcases Ti'.t u with ⟨hi, h1, h2⟩ | ⟨⟨h1, h2⟩, h3, h4⟩ <;> rcases Tj'.t u with ⟨hj, h5, h6⟩ | ⟨⟨h5, h6⟩, h7, h8⟩
   ·exact absurd hi (c2 u hj)
   ·exact ⟨h5.trans h1, h6.trans h2⟩
   ·exact ⟨h5.trans h3.symm, h6.trans h4.symm⟩
   ·exact ⟨by rw [h5, h1, h3, h7], by rw [h6, h2, h4, h8]⟩
  have bb : ∀ u : Nat, s2'.bx[u]? = s2x.bx[u]? := fun u => by
   rcases Ti'.b u with ⟨hi, h1⟩ | ⟨h1, h3⟩ <;> rcases Tj'.b u with ⟨hj, h5⟩ | ⟨h5, h7⟩
   ·exact absurd hi (c5 u hj)
   ·exact h5.trans h1
   ·exact h5.trans h3.symm
   ·rw [h5, h1, h3, h7]
  have ss : s2'.sg = s2x.sg := by
   rcases Ti'.s with ⟨hi, h1⟩ | ⟨h1, h3⟩ <;> rcases Tj'.s with ⟨hj, h5⟩ | ⟨h5, h7⟩
   ·have := (c7 hj).2; rw [hi] at this; cases this
   ·exact h5.trans h1
   ·exact h5.trans h3.symm
   ·rw [h5, h1, h3, h7]
  have h1 : s2'.tm = s2x.tm := Kn fun i => (tt i).1
  have h2 : s2'.mt = s2x.mt := Kn fun i => (tt i).2
  have h3 : s2'.bx = s2x.bx := Kn bb;cases s2'; cases s2x; simp_all
 subst hs;refine ⟨s1', Ri', Rj', ?_, ?_⟩
 ·rw [ei]
  simp only [Fp.Ae, Fp.mk.injEq, true_and, and_true]
  congr 1
  ·exact AQ fun u hu => (Em (A9W u fun h => c2 u h hu).2).symm
  ·refine AQ fun u hu => Em ?_
   rcases Ti'.t u with ⟨_, _, h⟩ | ⟨⟨_, h2⟩, _, h4⟩
   ·exact h
   ·rw [h2, h4, (A9W u fun h => c2 u h hu).2]
 ·rw [ej]
  simp only [Fp.Ae, Fp.mk.injEq, true_and, and_true]
  congr 1
  ·refine AQ fun u hu => Em ?_
   rcases Ti'.t u with ⟨h, _⟩ | ⟨⟨_, h⟩, _⟩
   ·exact absurd h (c2 u hu)
   ·exact h
  ·exact AQ fun u hu => Em (B8g u fun h => c2 u hu h).2
theorem B1J {oi oj : Oper} {s s1 s2 : St} (Hj : Y1 C R fl ops oj s s1) (Hi : Y1 C R fl ops oi s1 s2)
 (hc : comm ((Bq C fl ops oj s).Ae s s1) ((Bq C fl ops oi s1).Ae s1 s2) = true) :
 ∃ s1', Y1 C R fl ops oi s s1' ∧ Y1 C R fl ops oj s1' s2 ∧ (Bq C fl ops oi s).Ae s s1' = (Bq C fl ops oi s1).Ae s1 s2 ∧ (Bq C fl ops oj s1').Ae s1' s2 = (Bq C fl ops oj s).Ae s s1 := by
 unfold comm at hc;rcases z58q.1 hc with hc | hc
 rotate_left
 ·exact B4O Hj Hi hc
 rcases z58q.1 hc with hc | hc
 ·exact B0g Hj Hi hc
 ·unfold B0T at hc
  split at hc
  ·rename_i x j e y i d h1 h2
   simp only [Fp.Ae] at h1 h2;simp only [z13q, beq_iff_eq, bne_iff_ne, ne_eq] at hc;obtain ⟨⟨⟨⟨rfl, c2⟩, c3⟩, c4⟩, c5⟩ := hc;obtain ⟨gj, pj, dj, fj, wj⟩ := B3q h1;obtain ⟨gi, pi, di, fi, wi⟩ := B3q h2;obtain ⟨s1', k1, k2, k3, k4⟩ := B2m gi gj pi pj di dj (Ne.symm c2) (Ne.symm c3) c5 c4 Hj Hi;refine ⟨s1', k1, k2, ?_, ?_⟩
   ·rw [fi s]
    simp only [Fp.Ae, Fp.mk.injEq, true_and, and_true]
    congr 1
    ·exact AQ fun u hu => (k3 u (wi u hu)).2
    ·exact AQ fun u hu => (k3 u (wi u hu)).1
   ·rw [fj s1']
    simp only [Fp.Ae, Fp.mk.injEq, true_and, and_true]
    congr 1
    ·exact AQ fun u hu => (k4 u (wj u hu)).1
    ·exact AQ fun u hu => (k4 u (wj u hu)).2
  ·cases hc
end
end Go.Su
