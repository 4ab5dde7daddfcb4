/-
  Parts of the proof, merged: SuOp9, SuOp10, SuOp11, SuOp12, SuCall, SuOp13, SuSim, SuFrame, SuFrame2, SuFrame3, SuDraw.
-/
import Derived.RangeFuncLeaves
import Derived.RangeFuncNested
import Derived.Test.YtbmglmlodflfeaaGreatP1
set_option linter.unusedVariables false
set_option linter.unusedSimpArgs false
/-
 THE DATA MACHINE, part 14: memory written; maps read and written; parts of results.
-/
namespace Go.Su
theorem A5N (w : World) {b o : Nat} {c : Array Value} {T : TypeId} {f : Nat × Nat} (h : w.heap[b]? = some (.cells c T f)) (v : Value) :
 (w.setCell ⟨b, o, none⟩ v).heap[b]? = some (.cells (c.setIfInBounds o v) T f) ∧ (∀ b', b' ≠ b → (w.setCell ⟨b, o, none⟩ v).heap[b']? = w.heap[b']?) ∧ (w.setCell ⟨b, o, none⟩ v).heap.size = w.heap.size := by
 have I4 : b < w.heap.size := (Array.getElem?_eq_some_iff.1 h).1;have hv : w.heap[b] = .cells c T f := (Array.getElem?_eq_some_iff.1 h).2;refine ⟨?_, fun b' hb => ?_, by simp⟩
 ·unfold World.setCell
  rw [Array.getElem?_eq_getElem (by simpa using I4), Array.getElem_modify]
  simp [hv]
 ·simp [World.setCell, Array.getElem?_modify, Ne.symm hb]
structure ZT (w w' : World) (b o : Nat) (vs : List Value) (c : Array Value) (T : TypeId) (f : Nat × Nat) : Prop where
 ex : ∃ c', w'.heap[b]? = some (.cells c' T f) ∧ c'.size = c.size ∧ ∀ j, c'[j]? = if o ≤ j ∧ j < o + vs.length then vs[j - o]? else c[j]?
 rest : ∀ b', b' ≠ b → w'.heap[b']? = w.heap[b']?
 size : w'.heap.size = w.heap.size
 out : P9 w w'
theorem KU {P : Program} {b T : Nat} {f : Nat × Nat} (off : Nat) : ∀ (vs : List Value) (c : Array Value) (i : Nat) (w : World), w.heap[b]? = some (.cells c T f) → off + i + vs.length ≤ c.size → (∀ v ∈ vs, v.oneCell' = true) →
 (∀ o, off + i ≤ o → o < off + i + vs.length → ¬ (f.1 ≤ o ∧ o < f.2)) → ∃ w', (storeCells ⟨b, off, none⟩ vs i).run P w = .ok () w' ∧ ZT w w' b (off + i) vs c T f
 | [], c, i, w, h, _, _, _ => ⟨w, rfl, ⟨c, h, rfl, fun j => by rw [if_neg (by rintro ⟨h1, h2⟩; simp at h2; omega)]⟩, fun _ _ => rfl, rfl, P9.refl _⟩
 | v :: vs, c, i, w, h, hn, ho, hf => by
   simp only [List.length_cons] at hn hf;have JQ : w.cell? ⟨b, off + i, none⟩ = some (c[off + i]'(by omega)) := by
    rw [Jq]; unfold hc; rw [h]; exact Array.getElem?_eq_getElem (by omega)
   have jf : w.frozen? ⟨b, off + i, none⟩ = false := by
    unfold World.frozen?;simp only [h];have := hf (off + i) (Nat.le_refl _) (by omega)
    simpa using this
   have h1 : (store ((⟨b, off, none⟩ : Addr).add i) v).run P w = .ok () (w.setCell ⟨b, off + i, none⟩ v) := by
    rw [Addr.add_lit, run_store P w _ v _ (ho v (by simp)), JQ]
    simp [jf]
   obtain ⟨s1, s2, s3⟩ := A5N w (o := off + i) h v;obtain ⟨w', r1, ⟨c', e1, e2, e3⟩, e4, e5, e6⟩ := KU off vs _ (i + 1) _ s1 (by simp; omega) (fun u hu => ho u (by simp [hu])) (fun o h1 h2 => hf o (by omega) (by omega))
   refine ⟨w', ?_, ⟨c', e1, by simpa using e2, fun j => ?_⟩, fun b' hb => (e4 b' hb).trans (s2 b' hb), e5.trans s3, P9.trans (b := w.setCell ⟨b, off + i, none⟩ v) ⟨rfl, rfl, rfl⟩ e6⟩
   ·unfold storeCells
    simp only [Sem.run_bind, h1, Result.andThen_ok];exact r1
   ·rw [e3 j, List.length_cons]
    by_cases hj : j = off + i
    ·subst hj
     rw [if_neg (by omega), if_pos (by omega), Array.getElem?_setIfInBounds_self_of_lt (by omega)]
     simp
    ·rw [Array.getElem?_setIfInBounds_ne (Ne.symm hj)]
     by_cases hc : off + (i + 1) ≤ j ∧ j < off + (i + 1) + vs.length
     ·rw [if_pos hc, if_pos (by omega), show j - (off + i) = (j - (off + (i + 1))) + 1 from by omega, List.getElem?_cons_succ]
     ·rw [if_neg hc, if_neg (by omega)]
theorem KV {P : Program} {t : TypeId} {z : Nat × Bool} (hz : tz P t = some z) {w : World} {b off T : Nat} {f : Nat × Nat} {c : Array Value} {v : Value} (h : w.heap[b]? = some (.cells c T f)) (hs : v.cells.size = z.1) (hn : off + z.1 ≤ c.size)
 (ho : ∀ u ∈ v.cells.toList, u.oneCell' = true) (hf : ∀ o, off ≤ o → o < off + z.1 → ¬ (f.1 ≤ o ∧ o < f.2)) : ∃ w', (storeVar t ⟨b, off, none⟩ v).run P w = .ok () w' ∧ ZT w w' b off v.cells.toList c T f := by
 obtain ⟨w', r, s⟩ := KU (P := P) off v.cells.toList c 0 w h (by simp; omega) ho (fun o h1 h2 => hf o (by omega) (by simp at h2; omega))
 refine ⟨w', ?_, by simpa using s⟩
 unfold storeVar;simp only [Sem.run_bind, OA hz, Result.andThen_ok, Sem.run_ite];rw [if_neg (by omega)]
 exact r
theorem ZT.Pr {E : Env} {w w' : World} {b o : Nat} {vs : List Value} {c : Array Value} {T : TypeId} {f : Nat × Nat} (S : ZT w w' b o vs c T f) {ch : Tag → Prop} (hb : w.heap[b]? = some (.cells c T f)) (ht : ∀ j, o ≤ j → j < o + vs.length → ch (E.O b j)) :
 Pr ch E w.heap E w'.heap := by
 refine ⟨Nat.le_of_eq S.size.symm, fun b' Ry => ?_, fun _ _ _ _ => rfl, Nat.le_refl _, fun _ _ => ⟨rfl, rfl, rfl⟩, fun _ _ => rfl⟩
 by_cases aS : b' = b
 ·subst aS
  rw [hb];obtain ⟨c', e1, e2, e3⟩ := S.ex;refine ⟨c', e1, e2, fun j hj => ?_⟩
  rw [e3 j, if_neg];rintro ⟨c1, c2⟩;exact hj (ht j c1 c2)
 ·rw [S.rest b' aS]; exact V4.refl _ _
section
variable {X : Type} {C : V6} {R : N7} {o : Oper} {st : St} {k : St → Option X} {x : X} {E : Env} {a : Act} {w : World} {K : Act → World → Prop} {Q : Exit → Act → World → Prop}
theorem ZR.write {w' : World} {tg : Tag} {p q b : Nat} {cs xs : List (DV × Meta)} {off : Nat} {vs : List Value} {c : Array Value} {T : TypeId} (B : ZR E w.heap tg p q b cs) (hb : w.heap[b]? = some (.cells c T (0, 0))) (S : ZT w w' b off vs c T (0, 0))
 (hl : xs.length = vs.length) (I8 : off + xs.length ≤ cs.length) (hx : ∀ (j : Nat) r v, xs[j]? = some r → vs[j]? = some v → Cn E w.heap (.sp p q (off + j)) r v) (hs : V9 E.S w.heap E.S w'.heap)
 (hP : Pr (fun t => t = tg) E w.heap E w'.heap) (hns : ∀ k' a' b', tg ≠ .sp k' a' b') : ZR E w'.heap tg p q b (putAt cs off xs) := by
 obtain ⟨c0, T0, h1, h2, h3, h4⟩ := B;rw [hb] at h1;simp only [Option.some.injEq, Obj.cells.injEq] at h1;obtain ⟨rfl, rfl, -⟩ := h1;obtain ⟨c', e1, e2, e3⟩ := S.ex;have mono : ∀ {tg' : Tag} {r : DV × Meta} {v : Value}, (∃ x y z, tg' = .sp x y z) → Cn E w.heap tg' r v → Cn E w'.heap tg' r v := by
  rintro tg' r v ⟨x1, y1, z1, rfl⟩ ⟨a1, a2, a3, a4⟩;exact ⟨a1, a2, a3, a4.mono hP hs (fun _ => fun h => hns _ _ _ h.symm) fun s o' hm => by rw [hm] at a3; simp [U8] at a3⟩
 refine ⟨c', T, e1, by rw [e2, h2, av I8], fun o' => ?_, fun j r v hr hv => ?_⟩
 ·rcases h3 o' with h5 | h5
  ·exact .inl h5
  ·exact .inr (by omega)
 ·rw [eH I8] at hr
  rw [e3 j] at hv
  by_cases hc : off ≤ j ∧ j < off + xs.length
  ·rw [if_pos hc] at hr
   rw [if_pos (by omega)] at hv
   have := hx (j - off) r v hr hv;rw [show off + (j - off) = j from by omega] at this
   exact mono ⟨_, _, _, rfl⟩ this
  ·rw [if_neg hc] at hr
   rw [if_neg (by omega)] at hv
   exact mono ⟨_, _, _, rfl⟩ (h4 j r v hr hv)
theorem I9.A3O {w' : World} {s off : Nat} {cs xs : List (DV × Meta)} {vs : List Value} {c : Array Value} {T : TypeId} (Rl : I9 E st a w.heap) (hbx : st.bx.getD s none = some cs) (hb : w.heap[E.blk s]? = some (.cells c T (0, 0)))
 (S : ZT w w' (E.blk s) off vs c T (0, 0)) (hl : xs.length = vs.length) (I8 : off + xs.length ≤ cs.length) (hx : ∀ (j : Nat) r v, xs[j]? = some r → vs[j]? = some v → Cn E w.heap (.sp 1 s (off + j)) r v) :
 I9 E { st with bx := st.bx.set s (some (putAt cs off xs)) } a w'.heap ∧ Pr (fun t => t = .RN s) E w.heap E w'.heap := by
 have B := Rl.boxes s cs hbx;have Y4 : c.size = cs.length := by
  obtain ⟨c0, T0, h1, h2, -⟩ := B;rw [hb] at h1;simp only [Option.some.injEq, Obj.cells.injEq] at h1;rw [h1.1]; exact h2
 have hP : Pr (fun t => t = .RN s) E w.heap E w'.heap := S.Pr hb fun j h1 h2 => by
  obtain ⟨c1, T1, g1, g2, g3, -⟩ := B;rw [hb] at g1;simp only [Option.some.injEq, Obj.cells.injEq] at g1;rcases g3 j with h6 | h6
  ·exact h6
  ·rw [← g1.1] at h6; omega
 have hs := hP.shut (by simp) Rl.fresh
 refine ⟨⟨Rl.size, Rl.AZ, by simpa using Rl.Ca, Rl.n, fun t v hv => ?_, fun s' cs' DZ => ?_, fun i ob hi => (Rl.P8 i ob hi).mono hP hs (EW Rl hi) (by simp) (by simp), fun b o' Ry => Rl.fresh b o' (by rw [← S.size]; exact Ry)⟩, hP⟩
 ·have h0 := Rl.regs t v hv
  cases hm : (st.get t).2
  case loc s' o' =>
   show RR E w'.heap 0 t (st.get t).1 (st.get t).2 v
   rw [hm] at h0 ⊢;exact h0
  all_goals
   show RR E w'.heap 0 t (st.get t).1 (st.get t).2 v
   exact h0.mono hP hs (by simp) (by rw [hm]; simp)
 ·have A0q : s < st.bx.length := by
   rcases Nat.lt_or_ge s st.bx.length with h1 | h1
   ·exact h1
   ·simp [List.getD_eq_getElem?_getD, List.getElem?_eq_none h1] at hbx
  by_cases aY : s = s'
  ·subst aY
   simp only [List.getD_eq_getElem?_getD, List.getElem?_set_self A0q, Option.getD_some, Option.some.injEq] at DZ;subst DZ;exact B.write hb S hl I8 hx hs hP (by simp)
  ·simp only [List.getD_eq_getElem?_getD, List.getElem?_set_ne aY] at DZ
   exact (Rl.boxes s' cs' (by simpa [List.getD_eq_getElem?_getD] using DZ)).mono hP hs (by simp; exact fun h => aY h.symm) (by simp)
theorem I9.A3P {w' : World} {i off : Nat} {cs xs : List (DV × Meta)} {vs : List Value} {c : Array Value} {T : TypeId} (Rl : I9 E st a w.heap) (hsg : st.sg[i]? = some (.box cs)) (hb : w.heap[E.obj i]? = some (.cells c T (0, 0)))
 (S : ZT w w' (E.obj i) off vs c T (0, 0)) (hl : xs.length = vs.length) (I8 : off + xs.length ≤ cs.length) (hx : ∀ (j : Nat) r v, xs[j]? = some r → vs[j]? = some v → Cn E w.heap (.sp 2 i (off + j)) r v) :
 I9 E { st with sg := st.sg.set i (.box (putAt cs off xs)) } a w'.heap ∧ Pr (fun t => t = .obj i) E w.heap E w'.heap := by
 have B := Rl.P8 i _ hsg;simp only [RO] at B;have Y4 : c.size = cs.length := by
  obtain ⟨c0, T0, h1, h2, -⟩ := B;rw [hb] at h1;simp only [Option.some.injEq, Obj.cells.injEq] at h1;rw [h1.1]; exact h2
 have hP : Pr (fun t => t = .obj i) E w.heap E w'.heap := S.Pr hb fun j h1 h2 => by
  obtain ⟨c1, T1, g1, g2, g3, -⟩ := B;rw [hb] at g1;simp only [Option.some.injEq, Obj.cells.injEq] at g1;rcases g3 j with h6 | h6
  ·exact h6
  ·rw [← g1.1] at h6; omega
 have hs := hP.shut (by simp) Rl.fresh
 have PX := (List.getElem?_eq_some_iff.1 hsg).1;refine ⟨⟨Rl.size, Rl.AZ, Rl.Ca, by simpa using Rl.n, fun t v hv => (Rl.regs t v hv).mono hP hs (by simp) (by simp), fun s' cs' DZ => (Rl.boxes s' cs' DZ).mono hP hs (by simp) (by simp), fun i' ob hi => ?_, fun b o' Ry => Rl.fresh b o' (by rw [← S.size]; exact Ry)⟩, hP⟩
 by_cases GK : i = i'
 ·subst GK
  simp only [List.getElem?_set_self PX, Option.some.injEq] at hi;subst hi;exact B.write hb S hl I8 hx hs hP (by simp)
 ·simp only [List.getElem?_set_ne GK] at hi
  exact (Rl.P8 i' ob hi).mono hP hs (EW Rl hi) (by simp; exact fun h => GK h.symm) (by simp)
def BU (y : Operand) (p s off : Nat) (T : Tag) : Tag :=
 match y, T with
 | .tmp t, .sp 0 t' 0 => if t = t' then .sp p s off else .sp 0 t' 0
 | _, T => T
theorem Ec {y : Operand} {p s off : Nat} {T : Tag} (h : ∀ t b, y = .tmp t → T ≠ .sp 0 t b) : BU y p s off T = T := by
 unfold BU
 split
 ·split
  ·rename_i hx; subst hx; exact absurd rfl (h _ _ rfl)
  ·rfl
 ·rfl
theorem A7e {P : Program} {t : TypeId} {y : Operand} {r : DV × Meta} (hs : src P t st y = some r) {p s off : Nat} {c : DV × Meta} (hm : c.2 = r.2) (hc : Cn E w.heap (.sp 0 (jw y) 0) c (a.eval y)) :
 Cn (E.re (BU y p s off)) w.heap (.sp p s off) c (a.eval y) := by
 obtain ⟨a1, a2, a3, a4⟩ := hc;refine ⟨a1, a2, a3, ?_⟩
 by_cases hy : ∃ i, y = .tmp i
 ·obtain ⟨i, rfl⟩ := hy
  exact a4.re (Ec (by simp)) (by simp [BU, jw])
 ·have Eg : c.2 ≠ .own := by
   rw [hm];cases y with
   | tmp i => exact absurd ⟨i, rfl⟩ hy
   | const v => exact (WZ hs).1
   | func f => simp only [src, Option.some.injEq] at hs; subst hs; simp
   | global g => simp [src] at hs
  have a5 : J8 (E.re (BU y p s off)) w.heap .other c.1 c.2 (a.eval y) := (a4.tag (tg' := .other) Eg).re (Ec (by simp)) (Ec (by simp))
  exact a5.tag Eg
theorem MQ {t : TypeId} {y v : Operand} {w' : World} {b off : Nat} (D8 : o.op = .store t y v) (he : a.eval y = .pointer (some ⟨b, off, none⟩)) (h : (storeVar t ⟨b, off, none⟩ (a.eval v)).run C.P w = .ok () w') :
 (execOp a.eval o).run C.P w = .ok .skip w' := by
 simp only [execOp, D8];refine B13 ?_;simp only [Instr.storeAt, he, Instr.sureAddr, Sem.run_bind, Sem.run_pure, Result.andThen_ok, h]
theorem cells_one {v : Value} (h : v.oneCell' = true) : v.cells = #[v] := by
 cases v <;> first | rfl | (simp [Value.oneCell'] at h)
theorem A3D {α : Type} {l : List α} {o : Nat} {y : α} (h : o < l.length) : putAt l o [y] = l.set o y := by
 apply List.ext_getElem?;intro j;rw [eH (by simp; omega)]
 by_cases hj : o = j
 ·subst hj; rw [if_pos (by simp), List.getElem?_set_self h]; simp
 ·rw [if_neg (by simp; omega), List.getElem?_set_ne hj]
theorem B0b {t : TypeId} {y v : Operand} (D8 : o.op = .store t y v) (H : ES C o t y v st k = some x) (Rl : I9 E st a w.heap) (T : Then E w k x K) : Gp C.P o a w K := by
 unfold ES at H;obtain ⟨r, h1, H⟩ := A9 H;obtain ⟨u, h2, H⟩ := A9 H;obtain ⟨z, hz, H⟩ := A9 H;have e1 := Rl.src h1;have e2 := Rl.src h2;have JE : z.2 = false → z.1 = 1 := by
  obtain ⟨i, d, -, -, -, h4⟩ := Hy hz;exact h4
 have lJ : ∀ {E' : Env} {h' : Heap} (t0 : Nat), RR E' h' 0 t0 (.H7 []) .val undef := by
  intro E' h' t0;simp only [RR, J8, RV];exact ⟨#[], rfl, by simp [O_]⟩
 split at H
 ·-- a private variable
  rename_i s off hm;rw [hm] at e1;simp only [RR, J8] at e1;obtain ⟨cs, hb, H⟩ := A9 H;have B := Rl.boxes s cs hb;obtain ⟨c, TT, Ef, Y4, hO, -⟩ := B
  split at H
  ·obtain ⟨xs, H, hl, p9, Eg⟩ := zF hz e2 H
   obtain ⟨I8, H⟩ := L9 H;obtain ⟨w', hw, S⟩ := KV (P := C.P) hz (off := off) Ef (v := a.eval v) (by have := p9.1; simp at this; omega) (by omega) (fun u hu => by
    obtain ⟨j, hj, uw⟩ := List.mem_iff_getElem.1 hu;have vB := p9.1;exact (p9.2 j _ u (List.getElem?_eq_getElem (by omega)) (by rw [List.getElem?_eq_getElem hj, uw])).2.1) (fun o _ _ => by simp)
   have R0 := Rl.release (x := v) (f := Pt v s off) fun T hT => NI hT
   have Gs : (st.release v).bx = st.bx := by cases v <;> rfl
   obtain ⟨R1, P1⟩ := R0.A3O (by rw [Gs]; exact hb) Ef S p9.1 I8 fun j r' v' hr hv =>
    (p9.2 j r' v' hr hv).box fun hy => Eg (A3z h2 hy) r' (List.mem_of_getElem? hr)
   rw [Gs] at R1;have Q4 : ({ st with bx := st.bx.set s (some (putAt cs off xs)) }.release v) = { st.release v with bx := st.bx.set s (some (putAt cs off xs)) } := by cases v <;> rfl
   rw [Q4] at H;have P0 : Pr J6 E w.heap (E.re (Pt v s off)) w.heap := Pr.re fun T hT => NI fun t b _ he => hT (by rw [he]; simp [J6])
   exact RY (MQ D8 e1.2 hw) (T (E.re (Pt v s off)) _ _ w' H (R1.put fun t0 _ => lJ t0) (P0.trans (P1.weaken (by rintro T rfl; simp [J6]))) S.out)
  ·rename_i hz2
   have A2A := JE (by simpa using hz2)
   obtain ⟨cc, H, hmm, p9⟩ := bn e2 H;obtain ⟨I4, H⟩ := L9 H;have jm := cells_one p9.2.1;obtain ⟨w', hw, S⟩ := KV (P := C.P) hz (off := off) Ef (v := a.eval v) (by rw [jm, A2A]; rfl) (by omega) (fun u hu => by
    rw [jm] at hu; simp at hu; subst hu; exact p9.2.1) (fun o _ _ => by simp)
   rw [jm] at S;have R0 := Rl.release (x := v) (f := BU v 1 s off) fun T hT => Ec hT
   have JQ := A7e h2 (p := 1) (s := s) (off := off) hmm p9;have Gs : (st.release v).bx = st.bx := by cases v <;> rfl
   obtain ⟨R1, P1⟩ := R0.A3O (xs := [cc]) (by rw [Gs]; exact hb) Ef S rfl (by simp; omega) fun j r' v' hr hv => by
    cases j with
    | succ j => simp at hr
    | zero =>
      have Bo : r' = cc := by simpa using hr.symm
      have zl : v' = a.eval v := by simpa using hv.symm
      rw [Bo, zl];exact JQ
   rw [A3D I4, Gs] at R1;have Q4 : ({ st with bx := st.bx.set s (some (cs.set off cc)) }.release v) = { st.release v with bx := st.bx.set s (some (cs.set off cc)) } := by cases v <;> rfl
   rw [Q4] at H;have P0 : Pr J6 E w.heap (E.re (BU v 1 s off)) w.heap := Pr.re fun T hT => Ec fun t b _ he => hT (by rw [he]; simp [J6])
   exact RY (MQ D8 e1.2 hw) (T (E.re (BU v 1 s off)) _ _ w' H (R1.put fun t0 _ => lJ t0) (P0.trans (P1.weaken (by rintro T rfl; simp [J6]))) S.out)
 ·-- a shared variable
  rename_i i off hm;rw [hm] at e1;simp only [RR, J8] at e1;obtain ⟨cs, hb, H⟩ := A9 H;have hb := lw hb;have B := Rl.P8 i _ hb;simp only [RO] at B;obtain ⟨c, TT, Ef, Y4, hO, -⟩ := B
  split at H
  ·obtain ⟨xs, H, hl, p9⟩ := ky hz e2 H
   obtain ⟨I8, H⟩ := L9 H;obtain ⟨w', hw, S⟩ := KV (P := C.P) hz (off := off) Ef (v := a.eval v) (by have := p9.1; simp at this; omega) (by omega) (fun u hu => by
    obtain ⟨j, hj, uw⟩ := List.mem_iff_getElem.1 hu;have vB := p9.1;obtain ⟨⟨-, q, -, -⟩, -⟩ := p9.2 j _ u (List.getElem?_eq_getElem (by omega)) (by rw [List.getElem?_eq_getElem hj, uw])
    exact q) (fun o _ _ => by simp)
   obtain ⟨R1, P1⟩ := Rl.A3P hb Ef S p9.1 I8 fun j r' v' hr hv => let ⟨q1, q2⟩ := p9.2 j r' v' hr hv; ⟨q1.1, q1.2.1, q1.2.2.1, q1.2.2.2.tag q2⟩
   exact RY (MQ D8 e1.2 hw) (T E _ _ w' H (R1.put fun t0 _ => lJ t0) (P1.weaken (by rintro T rfl; simp [J6])) S.out)
  ·rename_i hz2
   have A2A := JE (by simpa using hz2)
   obtain ⟨cc, H, hmm, p9⟩ := bn e2 H;obtain ⟨c0, hc0, H⟩ := A9 H;have I4 : off < cs.length := (List.getElem?_eq_some_iff.1 hc0).1;have jm := cells_one p9.2.1;obtain ⟨w', hw, S⟩ := KV (P := C.P) hz (off := off) Ef (v := a.eval v) (by rw [jm, A2A]; rfl) (by omega) (fun u hu => by
    rw [jm] at hu; simp at hu; subst hu; exact p9.2.1) (fun o _ _ => by simp)
   rw [jm] at S;have R0 := Rl.release (x := v) (f := BU v 2 i off) fun T hT => Ec hT
   have JQ := A7e h2 (p := 2) (s := i) (off := off) hmm p9;have Gs : (st.release v).sg = st.sg := by cases v <;> rfl
   obtain ⟨R1, P1⟩ := R0.A3P (xs := [cc]) (by rw [Gs]; exact hb) Ef S rfl (by simp; omega) fun j r' v' hr hv => by
    cases j with
    | succ j => simp at hr
    | zero =>
      have Bo : r' = cc := by simpa using hr.symm
      have zl : v' = a.eval v := by simpa using hv.symm
      rw [Bo, zl];exact JQ
   rw [A3D I4, Gs] at R1;have Q4 : ({ st with sg := st.sg.set i (.box (cs.set off cc)) }.release v) = { st.release v with sg := st.sg.set i (.box (cs.set off cc)) } := by cases v <;> rfl
   rw [Q4] at H;have P0 : Pr J6 E w.heap (E.re (BU v 2 i off)) w.heap := Pr.re fun T hT => Ec fun t b _ he => hT (by rw [he]; simp [J6])
   exact RY (MQ D8 e1.2 hw) (T (E.re (BU v 2 i off)) _ _ w' H (R1.put fun t0 _ => lJ t0) (P0.trans (P1.weaken (by rintro T rfl; simp [J6]))) S.out)
 ·-- an element of a writable array
  rename_i i sz idx off hm;rw [hm] at e1;simp only [RR, J8] at e1;obtain ⟨p, hp, H⟩ := A9 H;obtain ⟨d, hd, H⟩ := A9 H;obtain ⟨H, Mx, hRC⟩ := kY JE e2 H;obtain ⟨Y4, H⟩ := F6 H;obtain ⟨⟨hzz, vD⟩, H9⟩ := L9 H;clear H;subst vD;have hp := Yn hp;have Y4 : p.1 = sz := by simpa using Y4
  rw [Y4] at hp;have B := Rl.P8 i _ hp;simp only [RO] at B;have hne : p.2 ≠ [] := by intro h; rw [h] at hd; simp at hd
  obtain ⟨c, TT, b1, b2, b3, b4, b5⟩ := B hne;have hidx : idx < p.2.length := (List.getElem?_eq_some_iff.1 hd).1;have EI : idx * sz + sz ≤ p.2.length * sz := by rw [← Nat.succ_mul]; exact Nat.mul_le_mul_right _ hidx
  have JQ : ∀ u ∈ (a.eval v).cells.toList, u.oneCell' = true := by
   intro q hq;obtain ⟨j, hj, uw⟩ := List.mem_iff_getElem.1 hq;obtain ⟨q1, q2⟩ := MH hRC (j := j) (v := q) (by rw [List.getElem?_eq_getElem hj, uw])
   exact Gf q1 q2
  obtain ⟨w', hw, S⟩ := KV (P := C.P) hz (off := E.base i + idx * sz) b1 (v := a.eval v) Mx (by omega) JQ (fun o _ _ => by simp)
  have P1 : Pr (fun t => t = .obj i) E w.heap E w'.heap := S.Pr b1 fun j h1 h2 => b4 j (by omega) (by simp at h2; omega)
  have hs := P1.shut (by simp) Rl.fresh
  have PX := (List.getElem?_eq_some_iff.1 hp).1;have R1 : I9 E { st with sg := st.sg.set i (.arr sz (p.2.set idx u.1)) } a w'.heap := by
   refine ⟨Rl.size, Rl.AZ, Rl.Ca, by simpa using Rl.n, fun t v hv => (Rl.regs t v hv).mono P1 hs (by simp) (by simp), fun s' cs' DZ => (Rl.boxes s' cs' DZ).mono P1 hs (by simp) (by simp), fun i' ob hi => ?_, fun b o' Ry => Rl.fresh b o' (by rw [← S.size]; exact Ry)⟩
   by_cases GK : i = i'
   ·subst GK
    simp only [List.getElem?_set_self PX, Option.some.injEq] at hi;subst hi;simp only [RO];intro _;obtain ⟨c', e1', e2', e3'⟩ := S.ex;refine ⟨c', TT, e1', by rw [List.length_set, e2']; exact b2, b3, by rw [List.length_set]; exact b4, fun j d' GJ => ?_⟩
    by_cases hj : idx = j
    ·subst hj
     rw [List.getElem?_set_self hidx] at GJ;simp only [Option.some.injEq] at GJ;subst GJ;refine ⟨(a.eval v).cells.toList, by simp; omega, fun y q hq => ?_, hRC.mono hs⟩
     have hy : y < sz := by have := (List.getElem?_eq_some_iff.1 hq).1; simp at this; omega
     rw [e3', if_pos (by simp; omega), ← hq]
     congr 1
     omega
    ·rw [List.getElem?_set_ne hj] at GJ
     obtain ⟨us, u1, u2, u3⟩ := b5 j d' GJ;refine ⟨us, u1, fun y q hq => ?_, u3.mono hs⟩
     have hy : y < sz := by have := (List.getElem?_eq_some_iff.1 hq).1; omega
     rw [e3', if_neg, u2 y q hq];rintro ⟨c1, c2⟩;simp at c2;exact hj (A5M (sz := sz) (j := j * sz + y - idx * sz) (j' := y) (by omega) hy (by omega))
   ·simp only [List.getElem?_set_ne GK] at hi
    exact (Rl.P8 i' ob hi).mono P1 hs (EW Rl hi) (by simp; exact fun h => GK h.symm) (by simp)
  exact RY (MQ D8 (by rw [e1.2]; rfl) hw) (T E _ _ w' H9 (R1.put fun t0 _ => lJ t0) (P1.weaken (by rintro T rfl; simp [J6])) S.out)
 ·-- an open element
  rename_i i sz idx hm;rw [hm] at e1;simp only [RR, J8] at e1;obtain ⟨q, hq, H⟩ := A9 H;obtain ⟨H, Mx, hRC⟩ := kY JE e2 H;obtain ⟨Y4, H⟩ := F6 H;obtain ⟨ob1, hx, H9⟩ := A9 H;clear H;simp only [Bool.and_eq_true, beq_iff_eq] at Y4;obtain ⟨CL, p_⟩ := Y4;obtain ⟨sz', pre, ds⟩ := q;simp only at CL;subst CL;have hq := l_ hq;simp only [A2G] at hx;obtain ⟨⟨Rz, uu⟩, hx⟩ := L9 hx;simp only [Option.some.injEq] at hx;subst hx;have B := Rl.P8 i _ hq;simp only [RO] at B;obtain ⟨c, TT, f, b1, b2, b2', b3, b4, b5, b6⟩ := B;have A8b : pre.length * sz' ≤ idx * sz' := Nat.mul_le_mul_right _ Rz;have EI : idx * sz' + sz' ≤ (pre.length + ds.length) * sz' := by rw [← Nat.succ_mul]; exact Nat.mul_le_mul_right _ (by omega)
  have JQ : ∀ u ∈ (a.eval v).cells.toList, u.oneCell' = true := by
   intro q hq;obtain ⟨j, hj, uw⟩ := List.mem_iff_getElem.1 hq;obtain ⟨q1, q2⟩ := MH hRC (j := j) (v := q) (by rw [List.getElem?_eq_getElem hj, uw])
   exact Gf q1 q2
  obtain ⟨w', hw, S⟩ := KV (P := C.P) hz (off := E.base i + idx * sz') b1 (v := a.eval v) Mx (by omega) JQ (fun o h1 h2 => (b4 o (by omega) (by omega)).2)
  have P1 : Pr (fun t => t = .obj i) E w.heap E w'.heap := S.Pr b1 fun j h1 h2 => (b4 j (by omega) (by simp at h2; omega)).1
  have hs := P1.shut (by simp) Rl.fresh
  have PX := (List.getElem?_eq_some_iff.1 hq).1;have R1 : I9 E { st with sg := st.sg.set i (.opn sz' pre (ds.set (idx - pre.length) u.1)) } a w'.heap := by
   refine ⟨Rl.size, Rl.AZ, Rl.Ca, by simpa using Rl.n, fun t v hv => (Rl.regs t v hv).mono P1 hs (by simp) (by simp), fun s' cs' DZ => (Rl.boxes s' cs' DZ).mono P1 hs (by simp) (by simp), fun i' ob hi => ?_, fun b o' Ry => Rl.fresh b o' (by rw [← S.size]; exact Ry)⟩
   by_cases GK : i = i'
   ·subst GK
    simp only [List.getElem?_set_self PX, Option.some.injEq] at hi;subst hi;simp only [RO];obtain ⟨c', e1', e2', e3'⟩ := S.ex;refine ⟨c', TT, f, e1', by rw [List.length_set]; exact b2, by rw [e2']; exact b2', b3, b4, fun j d' GJ => (b5 j d' GJ).mono hs, fun j d' GJ => ?_⟩
    by_cases hj : idx - pre.length = j
    ·subst hj
     rw [List.getElem?_set_self uu] at GJ;simp only [Option.some.injEq] at GJ;subst GJ;have e4 : pre.length + (idx - pre.length) = idx := by omega
     refine ⟨(a.eval v).cells.toList, by simp; omega, fun y q hq => ?_, hRC.mono hs⟩
     have hy : y < sz' := by have := (List.getElem?_eq_some_iff.1 hq).1; simp at this; omega
     rw [e4, e3', if_pos (by simp; omega), ← hq]
     congr 1
     omega
    ·rw [List.getElem?_set_ne hj] at GJ
     obtain ⟨us, u1, u2, u3⟩ := b6 j d' GJ;refine ⟨us, u1, fun y q hq => ?_, u3.mono hs⟩
     have hy : y < sz' := by have := (List.getElem?_eq_some_iff.1 hq).1; omega
     rw [e3', if_neg, u2 y q hq];rintro ⟨c1, c2⟩;simp at c2;have := A5M (sz := sz') (i := idx) (i' := pre.length + j) (j := (pre.length + j) * sz' + y - idx * sz') (j' := y) (by omega) hy (by omega)
     omega
   ·simp only [List.getElem?_set_ne GK] at hi
    exact (Rl.P8 i' ob hi).mono P1 hs (EW Rl hi) (by simp; exact fun h => GK h.symm) (by simp)
  exact RY (MQ D8 (by rw [e1.2]) hw) (T E _ _ w' H9 (R1.put fun t0 _ => lJ t0) (P1.weaken (by rintro T rfl; simp [J6])) S.out)
 ·simp at H
end
end Go.Su

/-
 THE DATA MACHINE, part 15: maps read and written; parts of results.
-/
namespace Go.Su
theorem vP {P : Program} {t : TypeId} {q : Bool × TypeId} (h : mapKeys P t = some q) : ∃ kt, P.underlying t = some (.map kt q.2) ∧ ((q.1 = false ∧ P.underlying kt = some (.int .i64)) ∨ (q.1 = true ∧ P.underlying kt = some .string)) := by
 unfold mapKeys at h
 split at h
 ·rename_i kt et hu
  split at h <;> simp only [Option.some.injEq, reduceCtorEq] at h <;> subst h
  ·exact ⟨kt, hu, .inl ⟨rfl, ‹_›⟩⟩
  ·exact ⟨kt, hu, .inr ⟨rfl, ‹_›⟩⟩
 ·simp at h
theorem B0v (a b : ByteArray) : (a.toList == b.toList) = (a == b) := (beq_toListBytes a b).symm
theorem A6N {S : Q0} {h : Heap} {ks : Bool} {kd : TypeDesc} (hk : (ks = false ∧ kd = .int .i64) ∨ (ks = true ∧ kd = .string)) {d e : DV} {v u : Value} (hd : isKey ks d = true) (he : isKey ks e = true) (rv : RV S h d v) (ru : RV S h e u) :
 Instr.sameNow kd v u = some (Bj d e) ∧ (Bj d e = true → v = u ∧ d = e) := by
 rcases hk with ⟨rfl, rfl⟩ | ⟨rfl, rfl⟩
 ·cases d <;> simp only [isKey, Bool.false_eq_true, Bool.not_false, Bool.true_and, beq_iff_eq] at hd
  cases e <;> simp only [isKey, Bool.false_eq_true, Bool.not_false, Bool.true_and, beq_iff_eq] at he;rw [Bf] at rv ru;subst rv ru hd he;refine ⟨by simp [Instr.sameNow, Bj], fun hq => ?_⟩
  simp only [Bj, beq_iff_eq] at hq;subst hq;exact ⟨rfl, rfl⟩
 ·cases d <;> simp only [isKey, Bool.false_eq_true, Bool.not_true, Bool.false_and] at hd
  cases e <;> simp only [isKey, Bool.false_eq_true, Bool.not_true, Bool.false_and] at he;rw [WV] at rv ru;subst rv ru;rename_i p q;refine ⟨?_, fun hq => ?_⟩
  ·simp only [Instr.sameNow, Bj, B0v]
  ·simp only [Bj, beq_iff_eq, ByteArray.toList_eq] at hq
   have vE : p = q := by
    obtain ⟨⟨p⟩⟩ := p;obtain ⟨⟨q⟩⟩ := q;simpa using hq
   subst vE;exact ⟨rfl, rfl⟩
theorem kz {S : Q0} {h : Heap} {ks : Bool} {kd : TypeDesc} (hk : (ks = false ∧ kd = .int .i64) ∨ (ks = true ∧ kd = .string)) {d : DV} {v : Value} (hd : isKey ks d = true) (rv : RV S h d v) (val : DV) : ∀ (es : List (DV × DV)) (l : List MapEntry) (i : Nat),
 es.length = l.length → (∀ (j : Nat) e n, es[j]? = some e → l[j]? = some n → isKey ks e.1 = true ∧ RV S h e.1 n.key ∧ RV S h e.2 n.val) →
 (Instr.findNow kd v l i = some none ∧ Z4 es d = none ∧ Cc es d val = es ++ [(d, val)]) ∨
 ∃ j e n, es[j]? = some e ∧ l[j]? = some n ∧ Instr.findNow kd v l i = some (some (i + j, n.val)) ∧ Z4 es d = some e.2 ∧ Cc es d val = es.set j (e.1, val) ∧ n.key = v ∧ e.1 = d
 | [], [], i, _, _ => .inl ⟨rfl, rfl, rfl⟩
 | [], _ :: _, _, hl, _ => by simp at hl
 | _ :: _, [], _, hl, _ => by simp at hl
 | e :: es, n :: l, i, hl, lG => by
   obtain ⟨k1, k2, k3⟩ := lG 0 e n rfl rfl;obtain ⟨s1, s2⟩ := A6N hk hd k1 rv k2;cases hq : Bj d e.1 with
   | true =>
     rw [hq] at s1;obtain ⟨q1, q2⟩ := s2 hq;exact .inr ⟨0, e, n, rfl, rfl, by simp [Instr.findNow, s1], by simp [Z4, hq], by simp [Cc, hq], q1.symm, q2.symm⟩
   | false =>
     rw [hq] at s1;have ih := kz hk hd rv val es l (i + 1) (by simpa using hl) (fun j e' n' h1 h2 => lG (j + 1) e' n' (by simpa using h1) (by simpa using h2))
     have f1 : Instr.findNow kd v (n :: l) i = Instr.findNow kd v l (i + 1) := by simp [Instr.findNow, s1]
     have f2 : Z4 (e :: es) d = Z4 es d := by simp [Z4, hq]
     have f3 : Cc (e :: es) d val = e :: Cc es d val := by simp [Cc, hq]
     rcases ih with ⟨g1, g2, g3⟩ | ⟨j, e', n', g1, g2, g3, g4, g5, g6, g7⟩
     ·exact .inl ⟨by rw [f1, g1], by rw [f2, g2], by rw [f3, g3]; rfl⟩
     ·refine .inr ⟨j + 1, e', n', by simpa using g1, by simpa using g2, by rw [f1, g3]; congr 3; omega, by rw [f2, g4], by rw [f3, g5]; rfl, g6, g7⟩
theorem run_checkKey {P : Program} {kt : TypeId} {kd : TypeDesc} (hu : P.underlying kt = some kd) (hk : kd = .int .i64 ∨ kd = .string) (b : Bool) (v : Value) (n : Nat) (w : World) : (Instr.checkKey b (n + 1) kt v).run P w = .ok () w := by
 unfold Instr.checkKey;simp only [Sem.run_bind, run_underlying hu, Result.andThen_ok];rcases hk with rfl | rfl <;> rfl
section
variable {X : Type} {C : V6} {R : N7} {o : Oper} {st : St} {k : St → Option X} {x : X} {E : Env} {a : Act} {w : World} {K : Act → World → Prop} {Q : Exit → Act → World → Prop}
theorem A8F {t : TypeId} {y v : Operand} {ok : Bool} (D8 : o.op = .lookup t y v ok)
 (H : (ob (src C.P t st y) fun r => ob (src C.P 0 st v) fun key => ob (mapKeys C.P t) fun q =>
 ob (A0H C.P q.2) fun ze =>
  og (isKey q.1 key.1 && J2 key.2)
   (match r.2 with
     | .map i => ob (AJ st.sg i) fun p => og (p.1 == q.1)
       (if ok then k (st.put o.dst (.H7 [(Z4 p.2 key.1).getD ze, .bool (Z4 p.2 key.1).isSome]) .val)
       else k (st.put o.dst ((Z4 p.2 key.1).getD ze) .val))
     | _ => none)) = some x) (Rl : I9 E st a w.heap) (T : Then E w k x K) : Gp C.P o a w K := by
 obtain ⟨r, h1, H⟩ := A9 H;obtain ⟨key, h2, H⟩ := A9 H;obtain ⟨q, hq, H⟩ := A9 H;obtain ⟨ze, jq, H⟩ := A9 H;obtain ⟨hc, H⟩ := F6 H;simp only [Bool.and_eq_true] at hc;obtain ⟨aU, hkd⟩ := hc;have e1 := Rl.src h1;have e2 := (Rl.src h2).data hkd
 split at H
 ·rename_i i hm
  rw [hm] at e1;simp only [RR, J8] at e1;obtain ⟨p, hp, H⟩ := A9 H;obtain ⟨vE, H⟩ := F6 H;have vE : p.1 = q.1 := by simpa using vE
  have hp := A19 hp;rw [vE] at hp;obtain ⟨ens, clk, b1, b2, ⟨b3, b4⟩, -⟩ := Rl.P8 i _ hp;obtain ⟨kt, hu, JB⟩ := vP hq;unfold A0H at jq;obtain ⟨inf, Ct, jq⟩ := A9 jq;obtain ⟨zv, Wx, jq⟩ := A9 jq;obtain ⟨zr, hzr, jq⟩ := A9 jq;obtain ⟨hzd, jq⟩ := F6 jq;simp only [Option.some.injEq] at jq;have gL : ∃ kd, C.P.underlying kt = some kd ∧ ((q.1 = false ∧ kd = .int .i64) ∨ (q.1 = true ∧ kd = .string)) := by
   rcases JB with ⟨h3, h4⟩ | ⟨h3, h4⟩
   ·exact ⟨_, h4, .inl ⟨h3, rfl⟩⟩
   ·exact ⟨_, h4, .inr ⟨h3, rfl⟩⟩
  obtain ⟨kd, hku, gL⟩ := gL;have hz0 : RV E.S w.heap ze zv := by
   rw [← jq];exact (A1j (E := E) (h := w.heap) hzr 0 0).data hzd
  have F := kz gL aU e2 .undef p.2 ens.toList 0 (by simpa using b3) (fun j e n g1 g2 => b4 j e n g1 (by simpa using g2))
  have fin : ∀ (d : DV) (vv : Value) (bb : Bool), (Z4 p.2 key.1).getD ze = d → (Z4 p.2 key.1).isSome = bb → RV E.S w.heap d vv → (Instr.lookup t (a.eval y) (a.eval v) ok).run C.P w = .ok (if ok then .tuple #[vv, .bool bb] else vv) w → Gp C.P o a w K := by
   intro d vv bb hd hb hR R8;rw [hd, hb] at H;have A4t : (execOp a.eval o).run C.P w = .ok (.value (if ok then .tuple #[vv, .bool bb] else vv)) w := by
    simp only [execOp, D8];exact Ck R8
   cases ok with
   | true =>
     simp only [if_true] at H A4t;refine Z7 A4t H Rl ?_ @T;simp only [RV];exact ⟨_, rfl, VA.2 ⟨by simp, fun i d' v' g1 g2 => by
      match i with
      | 0 => simp at g1 g2; subst g1 g2; exact hR
      | 1 => simp at g1 g2; subst g1 g2; rw [MI]
      | n + 2 => simp at g1⟩⟩
   | false =>
     simp only [Bool.false_eq_true, if_false] at H A4t;exact Z7 A4t H Rl hR @T
  have hgo : (getObj (E.obj i)).run C.P w = .ok (.map ens clk) w := by simp [getObj, Sem.run, b1]
  have A5h : kd = .int .i64 ∨ kd = .string := by rcases gL with h3 | h3 <;> simp [h3.2]
  rcases F with ⟨g1, g2, -⟩ | ⟨j, e, n, g0, g0', g1, g2, -, -, -⟩
  ·refine fin ze zv false (by rw [g2]; rfl) (by rw [g2]; rfl) hz0 ?_
   unfold Instr.lookup;rw [e1.2];have B5k : (zeroValue q.2).run C.P w = .ok zv w := by simp [zeroValue, typeInfo, Ct, Wx]
   simp only [Sem.run_bind, run_underlying hu, Result.andThen_ok, hgo, Sem.run_pure, run_checkKey hku A5h, Instr.findKey, run_underlying hku, g1, B5k]
  ·obtain ⟨-, -, rv⟩ := b4 j e n g0 (by simpa using g0')
   refine fin e.2 n.val true (by rw [g2]; rfl) (by rw [g2]; rfl) rv ?_
   unfold Instr.lookup;rw [e1.2];simp only [Sem.run_bind, run_underlying hu, Result.andThen_ok, hgo, Sem.run_pure, run_checkKey hku A5h, Instr.findKey, run_underlying hku, g1]
 ·simp at H
theorem A1T {α : Type} (xs : Array α) (j i : Nat) (f : α → α) : (xs.modify j f)[i]? = if j = i then xs[i]?.map f else xs[i]? := by
 rw [Array.getElem?_modify]
theorem kK.push {ens : Array MapEntry} {clk : Nat} (h : kK ens clk) (e : MapEntry) (he : e.born = clk) : kK (ens.push e) (clk + 1) := by
 refine ⟨fun j n hn => ?_, fun i j m n hm hn hb => ?_⟩
 ·rw [Array.getElem?_push] at hn
  split at hn
  ·simp only [Option.some.injEq] at hn; subst hn; omega
  ·have := h.1 j n hn; omega
 ·rw [Array.getElem?_push] at hm hn
  split at hm <;> split at hn
  ·omega
  ·simp only [Option.some.injEq] at hm
   subst hm;have := h.1 j n hn;omega
  ·simp only [Option.some.injEq] at hn
   subst hn;have := h.1 i m hm;omega
  ·exact h.2 i j m n hm hn hb
theorem kK.modify {ens : Array MapEntry} {clk : Nat} (h : kK ens clk) (j : Nat) {f : MapEntry → MapEntry} (hf : ∀ e, (f e).born = e.born) : kK (ens.modify j f) clk := by
 have key : ∀ (i : Nat) n, (ens.modify j f)[i]? = some n → ∃ m, ens[i]? = some m ∧ m.born = n.born := by
  intro i n hn;rw [A1T] at hn
  split at hn
  ·cases hm : ens[i]? with
   | none => rw [hm] at hn; cases hn
   | some m =>
     rw [hm] at hn;simp only [Option.map_some, Option.some.injEq] at hn;subst hn;exact ⟨m, rfl, (hf m).symm⟩
  ·exact ⟨n, hn, rfl⟩
 refine ⟨fun i n hn => ?_, fun i k m n hm hn hb => ?_⟩
 ·obtain ⟨m, h1, h2⟩ := key i n hn
  have := h.1 i m h1;omega
 ·obtain ⟨m', h1, h2⟩ := key i m hm
  obtain ⟨n', h3, h4⟩ := key k n hn;exact h.2 i k m' n' h1 h3 (by omega)
theorem A32 {t : TypeId} {y v u : Operand} (D8 : o.op = .mapUpdate t y v u)
 (H : (ob (src C.P t st y) fun r => ob (src C.P 0 st v) fun key => ob (src C.P 0 st u) fun val => ob (mapKeys C.P t) fun q =>
 og (isKey q.1 key.1 && J2 key.2 && J2 val.2)
  (match r.2 with
    | .map i => ob (AJ st.sg i) fun p => og (p.1 == q.1) (k ({ st with sg := st.sg.set i (.map q.1 (Cc p.2 key.1 val.1)) }.put o.dst (.H7 []) .val))
    | _ => none)) = some x) (Rl : I9 E st a w.heap) (T : Then E w k x K) : Gp C.P o a w K := by
 obtain ⟨r, h1, H⟩ := A9 H;obtain ⟨key, h2, H⟩ := A9 H;obtain ⟨val, h3, H⟩ := A9 H;obtain ⟨q, hq, H⟩ := A9 H;obtain ⟨hc, H⟩ := F6 H;simp only [Bool.and_eq_true] at hc;obtain ⟨⟨aU, hkd⟩, hvd⟩ := hc;have e1 := Rl.src h1;have e2 := (Rl.src h2).data hkd;have e3 := (Rl.src h3).data hvd
 split at H
 ·rename_i i hm
  rw [hm] at e1;simp only [RR, J8] at e1;obtain ⟨p, hp, H⟩ := A9 H;obtain ⟨vE, H⟩ := F6 H;have vE : p.1 = q.1 := by simpa using vE
  have hp := A19 hp;rw [vE] at hp;obtain ⟨ens, clk, b1, b2, ⟨b3, b4⟩, b5⟩ := Rl.P8 i _ hp;obtain ⟨kt, hu, JB⟩ := vP hq;have gL : ∃ kd, C.P.underlying kt = some kd ∧ ((q.1 = false ∧ kd = .int .i64) ∨ (q.1 = true ∧ kd = .string)) := by
   rcases JB with ⟨h3, h4⟩ | ⟨h3, h4⟩
   ·exact ⟨_, h4, .inl ⟨h3, rfl⟩⟩
   ·exact ⟨_, h4, .inr ⟨h3, rfl⟩⟩
  obtain ⟨kd, hku, gL⟩ := gL;have A5h : kd = .int .i64 ∨ kd = .string := by rcases gL with h3 | h3 <;> simp [h3.2]
  have F := kz gL aU e2 val.1 p.2 ens.toList 0 (by simpa using b3) (fun j e n g1 g2 => b4 j e n g1 (by simpa using g2))
  have hgo : (getObj (E.obj i)).run C.P w = .ok (.map ens clk) w := by simp [getObj, Sem.run, b1]
  have B0Y : E.obj i < w.heap.size := (Array.getElem?_eq_some_iff.1 b1).1;have PX := (List.getElem?_eq_some_iff.1 hp).1;have fin : ∀ (ens' : Array MapEntry) (clk' : Nat), B3i E.S w.heap q.1 (Cc p.2 key.1 val.1) ens' → kK ens' clk' → (Instr.mapUpdate t (a.eval y) (a.eval v) (a.eval u)).run C.P w = .ok () { w with heap := w.heap.setIfInBounds (E.obj i) (.map ens' clk') } → Gp C.P o a w K := by
   intro ens' clk' hR hB R8;have A8c : (w.heap.setIfInBounds (E.obj i) (.map ens' clk'))[E.obj i]? = some (.map ens' clk') := Array.getElem?_setIfInBounds_self_of_lt B0Y;have hold : ∀ b, b ≠ E.obj i → (w.heap.setIfInBounds (E.obj i) (.map ens' clk'))[b]? = w.heap[b]? := fun b hb => Array.getElem?_setIfInBounds_ne (Ne.symm hb)
   have P1 : Pr (fun t => t = .obj i) E w.heap E (w.heap.setIfInBounds (E.obj i) (.map ens' clk')) := by
    refine ⟨by simp, fun b hb => ?_, fun _ _ _ _ => rfl, Nat.le_refl _, fun _ _ => ⟨rfl, rfl, rfl⟩, fun _ _ => rfl⟩
    by_cases aS : b = E.obj i
    ·subst aS
     rw [b1];intro h0;exact absurd (b2 0) h0
    ·rw [hold b aS]; exact V4.refl _ _
   have hs := P1.shut (by simp) Rl.fresh
   have R1 : I9 E { st with sg := st.sg.set i (.map q.1 (Cc p.2 key.1 val.1)) } a (w.heap.setIfInBounds (E.obj i) (.map ens' clk')) := by
    refine ⟨Rl.size, Rl.AZ, Rl.Ca, by simpa using Rl.n, fun t v hv => (Rl.regs t v hv).mono P1 hs (by simp) (by simp), fun s' cs' DZ => (Rl.boxes s' cs' DZ).mono P1 hs (by simp) (by simp), fun i' ob hi => ?_, fun b o' Ry => Rl.fresh b o' (by simpa using Ry)⟩
    by_cases GK : i = i'
    ·subst GK
     simp only [List.getElem?_set_self PX, Option.some.injEq] at hi;subst hi;refine ⟨ens', clk', A8c, b2, ⟨hR.1, fun j e n g1 g2 => ?_⟩, hB⟩
     obtain ⟨c1, c2, c3⟩ := hR.2 j e n g1 g2;exact ⟨c1, c2.mono hs, c3.mono hs⟩
    ·simp only [List.getElem?_set_ne GK] at hi
     exact (Rl.P8 i' ob hi).mono P1 hs (EW Rl hi) (by simp; exact fun h => GK h.symm) (by simp)
   refine RY (w' := { w with heap := w.heap.setIfInBounds (E.obj i) (.map ens' clk') }) ?_ (T E _ _ { w with heap := w.heap.setIfInBounds (E.obj i) (.map ens' clk') } H (R1.put fun t0 _ => ?_) (P1.weaken (by rintro T rfl; simp [J6])))
   ·simp only [execOp, D8]
    exact B13 R8
   ·simp only [RR, J8, RV]
    exact ⟨#[], rfl, by simp [O_]⟩
  have B3X : ∀ (ens' : Array MapEntry) (clk' : Nat), (setObj (E.obj i) (.map ens' clk')).run C.P w = .ok () { w with heap := w.heap.setIfInBounds (E.obj i) (.map ens' clk') } := by
   intro ens' clk';simp [setObj, Sem.run, b1]
  rcases F with ⟨g1, g2, g3⟩ | ⟨j, e, n, g0, g0', g1, g2, g3, g4, g5⟩
  ·refine fin (ens.push { key := a.eval v, val := a.eval u, born := clk }) (clk + 1) ?_ (b5.push _ rfl) ?_
   ·rw [g3]
    refine ⟨by simp [b3], fun j e n h1 h2 => ?_⟩
    by_cases hj : j < p.2.length
    ·rw [List.getElem?_append_left hj] at h1
     rw [Array.getElem?_push, if_neg (by omega)] at h2
     exact b4 j e n h1 h2
    ·have PM : j = p.2.length := by have := (List.getElem?_eq_some_iff.1 h1).1; simp at this; omega
     subst PM;rw [List.getElem?_append_right (Nat.le_refl _)] at h1;simp only [Nat.sub_self, List.getElem?_cons_zero, Option.some.injEq] at h1;rw [Array.getElem?_push, if_pos b3] at h2;simp only [Option.some.injEq] at h2;subst h1 h2;exact ⟨aU, e2, e3⟩
   ·unfold Instr.mapUpdate
    rw [e1.2];simp only [Sem.run_bind, run_underlying hu, Result.andThen_ok, hgo, run_checkKey hku A5h, Instr.findKey, run_underlying hku, g1, Sem.run_pure];exact B3X _ _
  ·have hjl : j < ens.size := by have := (List.getElem?_eq_some_iff.1 g0').1; simpa using this
   have hn : ens[j]? = some n := by simpa using g0'
   refine fin (ens.modify j fun e => { e with key := a.eval v, val := a.eval u }) clk ?_ (b5.modify j fun _ => rfl) ?_
   ·rw [g3]
    refine ⟨by simp [b3], fun j' e' n' h1 h2 => ?_⟩
    rw [A1T] at h2
    by_cases hjj : j = j'
    ·subst hjj
     rw [if_pos rfl, hn] at h2;simp only [Option.map_some, Option.some.injEq] at h2;rw [List.getElem?_set_self (List.getElem?_eq_some_iff.1 g0).1] at h1;simp only [Option.some.injEq] at h1;subst h1 h2;exact ⟨by rw [g5]; exact aU, by rw [g5]; exact e2, e3⟩
    ·rw [if_neg hjj] at h2
     rw [List.getElem?_set_ne hjj] at h1;exact b4 j' e' n' h1 h2
   ·unfold Instr.mapUpdate
    rw [e1.2];have B5j : (Instr.keyThatStays n.key (a.eval v)).run C.P w = .ok (a.eval v) w := by
     unfold Instr.keyThatStays;have : Instr.sameBits 10000 n.key (a.eval v) = true := by
      rw [g4];rcases gL with ⟨h3, -⟩ | ⟨h3, -⟩
      ·rw [h3] at aU
       cases hk1 : key.1 <;> rw [hk1] at aU e2 <;> simp only [isKey, Bool.false_eq_true, Bool.not_false, Bool.true_and] at aU;rw [Bf] at e2;rw [e2];simp [Instr.sameBits]
      ·rw [h3] at aU
       cases hk1 : key.1 <;> rw [hk1] at aU e2 <;> simp only [isKey, Bool.false_eq_true, Bool.not_true, Bool.false_and] at aU;rw [WV] at e2;rw [e2];simp only [Instr.sameBits];rw [beq_toListBytes];simp
     rw [if_pos this];rfl
    simp only [Sem.run_bind, run_underlying hu, Result.andThen_ok, hgo, run_checkKey hku A5h, Instr.findKey, run_underlying hku, g1, Sem.run_pure, Nat.zero_add, hn, Option.map_some, Option.getD_some, B5j];exact B3X _ _
 ·simp at H
theorem I9.mK (Rl : I9 E st a w.heap) {t i : Nat} {ms : List Meta} (hm : (st.get t).2 = .BR ms) (KM : ms[i]? = some .own) (I4 : t < st.mt.length) {f : Tag → Tag} (hf : ∀ T, T ≠ .sp 0 t (i + 1) → f T = T) :
 I9 (E.re f) { st with mt := st.mt.set t (.BR (ms.set i .val)) } a w.heap := by
 have En : f .shut = .shut := hf _ (by simp)
 have Ng : f .other = .other := hf _ (by simp)
 have P : Pr (fun T => T = .sp 0 t (i + 1)) E w.heap (E.re f) w.heap := Pr.re fun T hT => hf T hT
 have I8 : V9 E.S w.heap (E.re f).S w.heap := JU En;refine ⟨Rl.size, by simpa using Rl.AZ, Rl.Ca, Rl.n, fun u v hu => ?_, fun s cs hs => (Rl.boxes s cs hs).mono P I8 (by simp) (by simp), fun j ob hj => (Rl.P8 j ob hj).mono P I8 (EW Rl hj) (by simp) (by simp), fun b o hb => ?_⟩
 ·have h0 := Rl.regs u v hu
  by_cases hut : t = u
  ·subst hut
   have hg : St.get { st with mt := st.mt.set t (.BR (ms.set i .val)) } t = ((st.get t).1, .BR (ms.set i .val)) := by
    simp [St.get, List.getD_eq_getElem?_getD, List.getElem?_set_self I4]
   rw [hg];rw [hm] at h0;simp only [RR] at h0 ⊢;obtain ⟨ds, vs, h1, h2, h3, h4, h5⟩ := h0;refine ⟨ds, vs, h1, h2, by simpa using h3, by simpa using h4, fun j m' d' u' e1 e2 e3 => ?_⟩
   by_cases hj : i = j
   ·subst hj
    have hil : i < ms.length := by have := (List.getElem?_eq_some_iff.1 e1).1; simpa using this
    rw [List.getElem?_set_self hil] at e1;simp only [Option.some.injEq] at e1;subst e1;obtain ⟨a0, a4⟩ := h5 i _ d' u' KM e2 e3;exact ⟨rfl, RV.mono I8 _ a4.1⟩
   ·rw [List.getElem?_set_ne hj] at e1
    obtain ⟨a0, a4⟩ := h5 j m' d' u' e1 e2 e3;exact ⟨a0, a4.re En (hf _ (by simp; exact fun h => hj h.symm))⟩
  ·have hg : St.get { st with mt := st.mt.set t (.BR (ms.set i .val)) } u = st.get u := by
    simp [St.get, List.getD_eq_getElem?_getD, List.getElem?_set_ne hut]
   rw [hg];exact h0.re En Ng fun b => hf _ (by simp; intro h; exact absurd h.symm hut)
 ·simp only [Env.re]; rw [Rl.fresh b o hb, Ng]
theorem A6Q {fl : Flags} {y : Operand} {i : Nat} (D8 : o.op = .extract y i)
 (H : (ob (src C.P 0 st y) fun r =>
 match r.2 with
 | .val => ob (N8 i r.1) fun d => k (st.put o.dst d .val)
 | .BR ms => ob (N8 i r.1) fun d =>
   match ms.getD i .val with
   | .own => if J9 fl.L8 o.dst then k ((st.mK y (.BR (ms.set i .val))).put o.dst d .own) else k (st.put o.dst d .val)
   | .val => k (st.put o.dst d .val)
   | _ => none
 | _ => none) = some x) (Rl : I9 E st a w.heap) (T : Then E w k x K) : Gp C.P o a w K := by
 obtain ⟨r, h1, H⟩ := A9 H
 split at H
 ·rename_i hm
  obtain ⟨d, hd, H⟩ := A9 H;exact B25 D8 h1 hm hd rfl H Rl @T
 ·rename_i ms hm
  obtain ⟨d, hd, H⟩ := A9 H;have e1 := Rl.src h1;rw [hm] at e1;simp only [RR] at e1;obtain ⟨ds, vs, hr, hv, l1, l2, l3⟩ := e1;obtain ⟨cs, Bo, hdi⟩ := A3i hd;rw [hr] at Bo;simp only [DV.H7.injEq] at Bo;subst Bo;have hi : i < ds.length := (List.getElem?_eq_some_iff.1 hdi).1;have hmi : ms[i]? = some (ms.getD i .val) := by simp [List.getD_eq_getElem?_getD, List.getElem?_eq_getElem (by omega : i < ms.length)]
  have hvi : vs[i]? = some (vs[i]'(by omega)) := Array.getElem?_eq_getElem (by omega)
  obtain ⟨a0, a4⟩ := l3 i _ d _ hmi hdi hvi;have R8 : (execOp a.eval o).run C.P w = .ok (.value (vs[i]'(by omega))) w := by
   simp only [execOp, D8];refine Ck ?_;simp only [Instr.extract, hv, hvi, Sem.run_pure]
  split at H
  ·rename_i hmo
   rw [hmo] at a4
   by_cases Q4 : J9 fl.L8 o.dst = true
   ·rw [if_pos Q4] at H
    have H2 := H;clear H;have hy : ∃ t, y = .tmp t := by
     cases y with
     | tmp t => exact ⟨t, rfl⟩
     | const v => exact absurd hm (fun h => (WZ h1).2 ms h)
     | func f => simp only [src, Option.some.injEq] at h1; subst h1; simp at hm
     | global g => simp [src] at h1
    obtain ⟨t, rfl⟩ := hy;simp only [src, Option.some.injEq] at h1;subst h1;simp only [jw] at a4;cases Hl : o.dst with
    | none => rw [Hl] at Q4; simp [J9] at Q4
    | some t0 =>
      rw [Hl] at H2;refine Bc R8 ?_;rw [Hl];have htl : t < st.mt.length := by
       rcases Nat.lt_or_ge t st.mt.length with h1 | h1
       ·exact h1
       ·rw [dV (by rw [← Rl.AZ]; exact h1) Rl.AZ] at hm; simp at hm
      refine T (E.re (Oi (.sp 0 t (i + 1)) t0)) _ _ w H2 ((Rl.mK hm (by rw [hmi, hmo]) htl fun T hT => Fx hT).put fun t1 ht => ?_) (Pr.re fun T hT => Fx fun he => hT (by rw [he]; simp [J6]))
      simp only [Option.some.injEq] at ht;subst ht;exact RR.BP (a4.re (Fx (by simp)) (by simp [Oi]))
   ·rw [if_neg Q4] at H
    exact Z7 R8 H Rl a4.1 @T
  ·rename_i hmo
   rw [hmo] at a4;exact Z7 R8 H Rl a4 @T
  ·simp at H
 ·simp at H
end
end Go.Su

/-
 THE DATA MACHINE, part 16: append.
-/
namespace Go.Su
def JX (S : Q0) (h : Heap) (sz : Nat) (ds : List DV) (all : List Value) : Prop :=
 all.length = ds.length * sz ∧ ∀ (i : Nat) d, ds[i]? = some d → ∃ vs : List Value, vs.length = sz ∧ (∀ (j : Nat) u, vs[j]? = some u → all[i * sz + j]? = some u) ∧ RC S h d vs
theorem JX.mono {S S' : Q0} {h h' : Heap} (I8 : V9 S h S' h') {sz : Nat} {ds : List DV} {all : List Value} (H : JX S h sz ds all) : JX S' h' sz ds all :=
 ⟨H.1, fun i d hd => let ⟨vs, v1, v2, v3⟩ := H.2 i d hd; ⟨vs, v1, v2, v3.mono I8⟩⟩
theorem pu {S : Q0} {h : Heap} {sz b : Nat} : ∀ {ds : List DV} {o : Nat}, DJ S h sz b o ds → ∃ all, JX S h sz ds all ∧ ∀ (j : Nat) u, all[j]? = some u → hc h b (o + j) = some u ∧ S b (o + j)
 | [], o, _ => ⟨[], ⟨by simp, by simp⟩, by simp⟩
 | d :: ds, o, H => by
   simp only [DJ] at H;obtain ⟨⟨vs, v1, v2, v3⟩, H⟩ := H;obtain ⟨all, ⟨l1, l2⟩, l3⟩ := pu H;refine ⟨vs ++ all, ⟨by simp [l1, v1, Nat.succ_mul]; omega, fun i d' hd => ?_⟩, fun j u hu => ?_⟩
   ·cases i with
    | zero =>
      simp only [List.getElem?_cons_zero, Option.some.injEq] at hd;subst hd;refine ⟨vs, v1, fun j u hu => ?_, v3⟩
      rw [Nat.zero_mul, Nat.zero_add, List.getElem?_append_left (List.getElem?_eq_some_iff.1 hu).1];exact hu
    | succ i =>
      simp only [List.getElem?_cons_succ] at hd;obtain ⟨us, u1, u2, u3⟩ := l2 i d' hd;refine ⟨us, u1, fun j u hu => ?_, u3⟩
      rw [List.getElem?_append_right (by rw [v1, Nat.succ_mul]; omega), v1]
      rw [show (i + 1) * sz + j - sz = i * sz + j from by rw [Nat.succ_mul]; omega]
      exact u2 j u hu
   ·by_cases hj : j < vs.length
    ·rw [List.getElem?_append_left hj] at hu
     exact v2 j u hu
    ·rw [List.getElem?_append_right (by omega)] at hu
     have := l3 _ u hu
     rwa [show o + sz + (j - vs.length) = o + j from by omega] at this
theorem nI {S : Q0} {h : Heap} {sz b o : Nat} {ds : List DV} {all : List Value} (H : JX S h sz ds all) (hc : ∀ (j : Nat) u, all[j]? = some u → Su.hc h b (o + j) = some u ∧ S b (o + j)) : DJ S h sz b o ds := by
 refine C_.2 fun i d hd => ?_
 obtain ⟨vs, v1, v2, v3⟩ := H.2 i d hd;refine ⟨vs, v1, fun j u hu => ?_, v3⟩
 have := hc _ u (v2 j u hu)
 rwa [← Nat.add_assoc] at this
theorem JX.append {S : Q0} {h : Heap} {sz : Nat} {ds es : List DV} {A B : List Value} (H : JX S h sz ds A) (G : JX S h sz es B) : JX S h sz (ds ++ es) (A ++ B) := by
 refine ⟨by simp [H.1, G.1, Nat.add_mul], fun i d hd => ?_⟩
 by_cases hi : i < ds.length
 ·rw [List.getElem?_append_left hi] at hd
  obtain ⟨vs, v1, v2, v3⟩ := H.2 i d hd;refine ⟨vs, v1, fun j u hu => ?_, v3⟩
  have hj : j < sz := by have := (List.getElem?_eq_some_iff.1 hu).1; omega
  have := seg_lt hi hj;rw [List.getElem?_append_left (by rw [H.1]; exact this)]
  exact v2 j u hu
 ·rw [List.getElem?_append_right (by omega)] at hd
  obtain ⟨vs, v1, v2, v3⟩ := G.2 _ d hd;refine ⟨vs, v1, fun j u hu => ?_, v3⟩
  have e : i * sz + j = ds.length * sz + ((i - ds.length) * sz + j) := by
   rw [← Nat.add_assoc, ← Nat.add_mul]
   congr 2
   omega
  rw [e, ← H.1, List.getElem?_append_right (by omega), Nat.add_sub_cancel_left]
  exact v2 j u hu
theorem JX.one {S : Q0} {h : Heap} {sz : Nat} (hs : 0 < sz) {ds : List DV} {all : List Value} (H : JX S h sz ds all) : ∀ u ∈ all, u.oneCell' = true := by
 intro u hu;obtain ⟨j, hj, uw⟩ := List.mem_iff_getElem.1 hu;have I4 : j < ds.length * sz := by rw [← H.1]; exact hj
 have hi : j / sz < ds.length := (Nat.div_lt_iff_lt_mul hs).2 I4;obtain ⟨vs, v1, v2, v3⟩ := H.2 (j / sz) _ (List.getElem?_eq_getElem hi);have hm : j % sz < vs.length := by rw [v1]; exact Nat.mod_lt _ hs
 have h1 := v2 (j % sz) _ (List.getElem?_eq_getElem hm);rw [Nat.mul_comm, Nat.div_add_mod, List.getElem?_eq_getElem hj, uw] at h1;simp only [Option.some.injEq] at h1;obtain ⟨q1, q2⟩ := MH v3 (List.getElem?_eq_getElem hm);rw [h1];exact Gf q1 q2
theorem A3s (n : Nat) : ∀ (r c : Nat), c < n + 1 → Builtin.growBy n r c ≤ 2 * n + 192
 | 0, c, h => by simp [Builtin.growBy]; omega
 | r + 1, c, h => by
   simp only [Builtin.growBy]
   split
   ·omega
   ·rename_i I4
    by_cases h2 : c + (c + 768) / 4 < n + 1
    ·exact A3s n r _ h2
    ·cases r with
     | zero => simp only [Builtin.growBy]; omega
     | succ r =>
       simp only [Builtin.growBy];rw [if_pos (by omega)]
       omega
theorem A8o {need old : Nat} (h : old < need) : Builtin.nextslicecap need old ≤ 2 * need + 192 := by
 unfold Builtin.nextslicecap
 split
 ·omega
 ·split
  ·omega
  ·exact A3s need 4 old (by omega)
theorem A1b {P : Program} {t u : TypeId} {sz : Nat} (h : A7I P t u = some sz) : ∃ e e' z i zv, P.underlying t = some (.slice e) ∧ P.underlying u = some (.slice e') ∧ tz P e = some z ∧ z.1 = sz ∧ 0 < sz ∧ P.info? e = some i ∧ i.bytes ≤ 2 ^ 14 ∧ i.zero = some zv ∧ zv.cells.size = sz := by
 unfold A7I at h;obtain ⟨e, he, h⟩ := A9 h;obtain ⟨e', he', h⟩ := A9 h;obtain ⟨z, hz, h⟩ := A9 h;obtain ⟨i, hi, h⟩ := A9 h;obtain ⟨zs, aZ, h⟩ := A9 h;obtain ⟨⟨h1, h2, h3⟩, h⟩ := L9 h;simp only [Option.some.injEq] at h;have ht : ∀ {t e : TypeId}, Ml P t = some e → P.underlying t = some (.slice e) := by
  intro t e he;unfold Ml at he
  split at he
  ·simp only [Option.some.injEq] at he; subst he; assumption
  ·simp at he
 obtain ⟨inf, zv, Ct, Wx, p9⟩ := QS aZ;rw [hi] at Ct;simp only [Option.some.injEq] at Ct;subst Ct;have := (p9 ⟨fun _ => 0, fun _ => 0, fun _ => 0, fun _ => 0, fun _ _ => .other, 0⟩ #[]).1
 simp only [Array.length_toList] at this;exact ⟨e, e', z, i, zv, ht he, ht he', hz, h, by omega, hi, h2, Wx, by omega⟩
theorem A89 {sz : Nat} {d e r : DV} (h : R6 sz d e = some r) : ∃ ds es, d = .list sz ds ∧ e = .list sz es ∧ ds.length + es.length ≤ lim ∧ r = .list sz (ds ++ es) := by
 unfold R6 at h
 split at h
 ·obtain ⟨⟨⟨h1, h2⟩, h3⟩, h⟩ := L9 h
  simp only [Option.some.injEq] at h;subst h1 h2;exact ⟨_, _, rfl, rfl, h3, h.symm⟩
 ·simp at h
theorem B2W (st : St) (t : Nat) (d d' : DV) (m m' : Meta) : (st.put (some t) d m).put (some t) d' m' = st.put (some t) d' m' := by
 simp [St.put, List.set_set]
theorem yN (a : Act) (t : Nat) (v v' : Value) : (a.put (some t) v).put (some t) v' = a.put (some t) v' := by
 have : (a.tmps.setIfInBounds t v).setIfInBounds t v' = a.tmps.setIfInBounds t v' := by
  apply Array.ext_getElem?;intro i
  by_cases h : t = i
  ·subst h
   by_cases hl : t < a.tmps.size
   ·rw [Array.getElem?_setIfInBounds_self_of_lt (by simpa using hl), Array.getElem?_setIfInBounds_self_of_lt hl]
   ·rw [Array.getElem?_eq_none (by simpa using hl), Array.getElem?_eq_none (by simpa using hl)]
  ·rw [Array.getElem?_setIfInBounds_ne h, Array.getElem?_setIfInBounds_ne h, Array.getElem?_setIfInBounds_ne h]
 simp [Act.put, this]
section
variable {P : Program} {t u ty e e' : TypeId} {inf : TypeInfo} {w : World} {b : Option Addr} {len cap n sz : Nat} {v : Value} {all' : List Value}
theorem A18 (hu : P.underlying t = some (.slice e)) (PN : P.underlying u = some (.slice e')) (Ct : P.info? e = some inf) (hn : Builtin.lenOf v = pure n) (hv : (Builtin.firstCells inf.size n v).run P w = .ok all'.toArray w)
 (EI : len + n ≤ cap) : (Builtin.append_ #[t, u] ty #[.slice none len cap, v]).run P w = .ok (.slice none (len + n) cap) w := by
 unfold Builtin.append_;simp [run_underlying hu, run_underlying PN, sizeOf, typeInfo, Ct, hn, EI, hv]
theorem UW {y : Addr} {w' : World} (hu : P.underlying t = some (.slice e)) (PN : P.underlying u = some (.slice e')) (Ct : P.info? e = some inf) (hn : Builtin.lenOf v = pure n) (hv : (Builtin.firstCells inf.size n v).run P w = .ok all'.toArray w)
 (EI : len + n ≤ cap) (Q4 : (storeCells (y.add (len * inf.size)) all').run P w = .ok () w') : (Builtin.append_ #[t, u] ty #[.slice (some y) len cap, v]).run P w = .ok (.slice (some y) (len + n) cap) w' := by
 unfold Builtin.append_;simp [run_underlying hu, run_underlying PN, sizeOf, typeInfo, Ct, hn, EI, hv, Q4]
theorem run_append_grow {zv : Value} {all : List Value} (hu : P.underlying t = some (.slice e)) (PN : P.underlying u = some (.slice e')) (Ct : P.info? e = some inf) (hn : Builtin.lenOf v = pure n) (hv : ∀ w' : World, w'.heap = w.heap → (Builtin.firstCells inf.size n v).run P w' = .ok all'.toArray w')
 (hs : ∀ w' : World, w'.heap = w.heap → (Builtin.firstCells inf.size len (.slice b len cap)).run P w' = .ok all.toArray w') (Wx : inf.zero = some zv) (EI : ¬ len + n ≤ cap) (A9y : len + n ≤ 4294967296) (hb : inf.bytes ≤ 2 ^ 14) :
 ∃ nc, len + n ≤ nc ∧ (Builtin.append_ #[t, u] ty #[.slice b len cap, v]).run P w = .ok (.slice (some ⟨w.heap.size, 0, none⟩) (len + n) nc) (w.drew.alloc (.cells (all ++ all' ++ (Builtin.zeroCells zv.cells (nc - (len + n))).toList).toArray e)) := by
 refine ⟨(Question.appendCap (len + n) cap e).cut (w.tape w.drawn (Question.appendCap (len + n) cap e)), by simp only [Question.cut]; omega, ?_⟩
 have A2y : Builtin.nextslicecap (len + n) cap * inf.bytes ≤ 2 ^ 48 := by
  have h1 := A8o (need := len + n) (old := cap) (by omega)
  calc Builtin.nextslicecap (len + n) cap * inf.bytes ≤ (2 * 4294967296 + 192) * 2 ^ 14 := Nat.mul_le_mul (by omega) hb
   _ ≤ 2 ^ 48 := by decide
 have B68 : ¬ (((len + n : Nat) : Int) > IntKind.i64.max) := by rw [IntKind.max_i64]; omega
 have B5c : ¬ (Builtin.nextslicecap (len + n) cap * inf.bytes > 2 ^ 48) := by omega
 have q1 := hs w.drew rfl;have q2 := hv w.drew rfl;unfold Builtin.append_;have B5g : ¬ ((9223372036854775807 : Int) < (len : Int) + (n : Int)) := by omega
 simp [run_underlying hu, run_underlying PN, sizeOf, typeInfo, Ct, hn, EI, B5g, B5c, Question.forced, q1, q2, zeroValue, Wx, newRow];refine congrArg (fun z => w.drew.alloc (.cells z e)) (Array.toList_inj.1 ?_)
 simp
end
section
variable {X : Type} {C : V6} {R : N7} {o : Oper} {st : St} {k : St → Option X} {x : X} {E : Env} {a : Act} {w : World} {K : Act → World → Prop} {Q : Exit → Act → World → Prop}
theorem A2F {P : Program} {b o' : Nat} {all : List Value} (H : ∀ (j : Nat) u, all[j]? = some u → hc w.heap b (o' + j) = some u) : (loadCells ⟨b, o', none⟩ all.length).run P w = .ok all.toArray w := by
 refine run_loadCells_list w _ all fun j v hv => ?_
 rw [Addr.add_lit, Jq];exact H j v hv
theorem YV {P : Program} {S : Q0} {sz : Nat} {ds : List DV} {v : Value} (H : RV S w.heap (.list sz ds) v) : ∃ b len cap all, v = .slice b len cap ∧ len = ds.length ∧ len ≤ cap ∧ (b = none → cap = 0) ∧ JX S w.heap sz ds all ∧
 (∀ y, b = some y → (0 < cap → y = ⟨y.block, y.off, none⟩) ∧ ∀ (j : Nat) u, all[j]? = some u → hc w.heap y.block (y.off + j) = some u ∧ S y.block (y.off + j)) ∧ (b = none → all = []) ∧
 ∀ w' : World, w'.heap = w.heap → (Builtin.firstCells sz len v).run P w' = .ok all.toArray w' := by
 obtain ⟨b, len, cap, rfl, h1, h2, h3, h4, h5⟩ := Rc H;cases b with
 | none =>
   have h0 := h3 rfl;have uq : ds = [] := List.eq_nil_of_length_eq_zero (by omega)
   subst uq;exact ⟨none, len, cap, [], rfl, h1, h2, h3, ⟨by simp, by simp⟩, by simp, fun _ => rfl, fun w' _ => rfl⟩
 | some y =>
   obtain ⟨s1, s2⟩ := h5 y rfl;obtain ⟨all, f1, f2⟩ := pu s2;have hy : 0 < cap → y = ⟨y.block, y.off, none⟩ := fun hc => by have s1 := s1 hc; cases y; simp only at s1; subst s1; rfl
   refine ⟨some y, len, cap, all, rfl, h1, h2, h3, f1, fun z hz => ?_, by simp, fun w' hw => ?_⟩
   ·simp only [Option.some.injEq] at hz
    subst hz;exact ⟨hy, f2⟩
   ·have hl : len * sz = all.length := by rw [f1.1, h1]
    show (loadCells y (len * sz)).run P w' = _
    by_cases hc : 0 < cap
    ·rw [hl, hy hc]
     exact A2F (fun j u hu => by rw [hw]; exact (f2 j u hu).1)
    ·have h0 : len = 0 := by omega
     have h9 : all = [] := List.eq_nil_of_length_eq_zero (by rw [← hl, h0]; simp)
     rw [h9, h0, Nat.zero_mul];rfl
def Env.Vp (E : Env) (b lo hi : Nat) : Env := { E with O := fun b' o => if b' = b ∧ lo ≤ o ∧ o < hi then .shut else E.O b' o }
def Env.newRow (E : Env) (b lo hi : Nat) (tg : Tag) : Env := { E with O := fun b' o => if b' = b then (if o < lo then .shut else if o < hi then tg else .other) else E.O b' o }
theorem A8E {fl : Flags} {c : Call} {y v : Operand} {t u : TypeId} (D8 : o.op = .call c) (B0Z : c.callee = .builtin .append) (ha : c.args.toList = [y, v]) (ht : c.argTypes.toList = [t, u]) (dW : J9 fl.opn o.dst = false) (H : Io C fl o y v t u st k = some x)
 (Rl : I9 E st a w.heap) (T : Then E w k x K) : Gp C.P o a w K := by
 unfold Io at H;obtain ⟨r, h1, H⟩ := A9 H;obtain ⟨s, h2, H⟩ := A9 H;obtain ⟨sz, Y4, H⟩ := A9 H;obtain ⟨hc, H⟩ := F6 H;rw [if_neg (by rw [dW]; simp)] at H
 obtain ⟨d, hd, H⟩ := A9 H;simp only [Bool.and_eq_true] at hc;obtain ⟨⟨LV, gK⟩, Hl⟩ := hc;obtain ⟨t0, Hl⟩ := Option.isSome_iff_exists.1 Hl;obtain ⟨e, e', z, inf, zv, hu, PN, hz, JE, hpos, Ct, A5e, Wx, aZ⟩ := A1b Y4;obtain ⟨ds, es, hr, hs, A0o, rfl⟩ := A89 hd;have e1 := Rl.src h1;have e2 := (Rl.src h2).data gK;have e1d : RV E.S w.heap r.1 (a.eval y) := e1.data (by revert LV; cases r.2 <;> simp [KO, J2])
 rw [hr] at e1d;rw [hs] at e2;obtain ⟨b, len, cap, all, ev, f1, f2, f3, f4, f5, f6, f7⟩ := YV (P := C.P) e1d;obtain ⟨b', len', cap', all', ev', g1, g2, g3, g4, g5, g6, g7⟩ := YV (P := C.P) e2;have Nf : inf.size = sz := by
  obtain ⟨i', d', q1, -, q2, -⟩ := Hy hz;rw [Ct] at q1;simp only [Option.some.injEq] at q1;rw [← JE, q2, q1]
 have R8 : ∀ v' w', (Builtin.append_ #[t, u] o.type #[a.eval y, a.eval v]).run C.P w = .ok v' w' → (execOp a.eval o).run C.P w = .ok (.value v') w' := by
  intro v' w' hv;refine Jo D8 B0Z ?_;rw [Yp ht, show c.args.map a.eval = #[a.eval y, a.eval v] from by rw [Yp ha]; simp]
  exact Ck hv
 rw [Hl] at H;have aV : Builtin.lenOf (a.eval v) = pure len' := by rw [ev']; rfl
 have A9y : ds.length + es.length ≤ 4294967296 := A0o;have aW := g4.one hpos
 by_cases EI : len + len' ≤ cap
 ·-- it fits: the slice's own memory is written
  have R0 := Rl.release (x := y) (f := BU y 0 t0 0) fun T hT => Ec hT
  have P0 : Pr J6 E w.heap (E.re (BU y 0 t0 0)) w.heap := Pr.re fun T hT => Ec fun t b _ he => hT (by rw [he]; simp [J6])
  have lI : V9 E.S w.heap (E.re (BU y 0 t0 0)).S w.heap := JU (Ec (by simp))
  have hsp : ∀ p, b = some p → len < cap → ∃ cc TT f, w.heap[p.block]? = some (.cells cc TT f) ∧ p.off + cap * sz ≤ cc.size ∧
   ∀ o', p.off + len * sz ≤ o' → o' < p.off + cap * sz → (E.re (BU y 0 t0 0)).O p.block o' = .sp 0 t0 0 ∧ ¬(f.1 ≤ o' ∧ o' < f.2) := by
   intro p hp I4;subst hp;have KM : r.2 = .own := by
    revert LV e1
    cases r.2 <;> intro LV e1 <;> simp only [KO, Bool.false_eq_true] at LV
    ·simp only [RR, J8] at e1
     obtain ⟨-, ⟨q, n, hq⟩, -⟩ := e1;rw [ev] at hq;simp only [Value.slice.injEq] at hq;omega
    ·rfl
   rw [KM] at e1;simp only [RR, J8] at e1;obtain ⟨-, sz', ds', hl, hS⟩ := e1;rw [hr] at hl;simp only [DV.list.injEq] at hl;obtain ⟨cc, TT, f, c1, c2, c3⟩ := hS p len cap ev I4;rw [← hl.1] at c2 c3;refine ⟨cc, TT, f, c1, c2, fun o' h3 h4 => ?_⟩
   obtain ⟨c4, c5⟩ := c3 o' h3 h4;refine ⟨?_, c5⟩;have hy : ∃ i, y = .tmp i := by
    cases y with
    | tmp i => exact ⟨i, rfl⟩
    | const v => exact absurd KM (WZ h1).1
    | func f => simp only [src, Option.some.injEq] at h1; subst h1; simp at KM
    | global g => simp [src] at h1
   obtain ⟨i, rfl⟩ := hy;simp only [Env.re];rw [c4];simp [BU, jw]
  by_cases hn : len' = 0
  ·-- nothing is appended
   have hes : es = [] := List.eq_nil_of_length_eq_zero (by omega)
   have B49 : all' = [] := List.eq_nil_of_length_eq_zero (by rw [g4.1, hes]; simp)
   have Bo : (Builtin.append_ #[t, u] o.type #[a.eval y, a.eval v]).run C.P w = .ok (.slice b (len + len') cap) w := by
    rw [ev];cases b with
    | none => exact A18 hu PN Ct aV (by rw [Nf]; exact g7 w rfl) EI
    | some p => exact UW hu PN Ct aV (by rw [Nf]; exact g7 w rfl) EI (by rw [B49]; rfl)
   refine Bc (R8 _ _ Bo) (T _ _ _ w H ?_ P0);rw [Hl];refine R0.put fun t1 jh => ?_
   simp only [Option.some.injEq] at jh;subst jh;rw [hes, List.append_nil, hn, Nat.add_zero, ← ev];refine RR.BP ⟨e1d.mono lI, _, _, rfl, fun p len1 cap1 hq I4 => ?_⟩
   rw [ev] at hq;simp only [Value.slice.injEq] at hq;obtain ⟨rfl, rfl, rfl⟩ := hq;exact hsp p rfl I4
  ·-- the cells behind are written, and sealed
   cases b with
   | none => have := f3 rfl; omega
   | some p =>
     obtain ⟨hp, -⟩ := f5 p rfl;have hp := hp (by omega)
     obtain ⟨cc, TT, f, c1, c2, c3⟩ := hsp p rfl (by omega)
     have B5f : all'.length = len' * sz := by rw [g4.1, g1]
     have hmul : (len + len') * sz ≤ cap * sz := Nat.mul_le_mul_right _ EI;have A4s : (len + len') * sz = len * sz + len' * sz := Nat.add_mul _ _ _;have B5i : 0 < len' * sz := Nat.mul_pos (by omega) hpos
     obtain ⟨w', hw, S⟩ := KU (P := C.P) (b := p.block) (T := TT) (f := f) (p.off + len * sz) all' cc 0 w c1 (by omega) aW (fun o' h3 h4 => (c3 o' (by omega) (by omega)).2)
     have Bo : (Builtin.append_ #[t, u] o.type #[a.eval y, a.eval v]).run C.P w = .ok (.slice (some p) (len + len') cap) w' := by
      rw [ev];refine UW hu PN Ct aV (by rw [Nf]; exact g7 w rfl) EI ?_
      rw [Nf, hp, Addr.add_lit];exact hw
     simp only [Nat.add_zero] at S;have R1 : I9 (E.re (BU y 0 t0 0)) ((st.release y).put (some t0) .undef .val) (a.put (some t0) (.slice (some p) (len + len') cap)) w.heap := R0.put fun t1 _ => by simp only [RR, J8, RV]
     have PS : Pr (fun T => T = .sp 0 t0 0) (E.re (BU y 0 t0 0)) w.heap ((E.re (BU y 0 t0 0)).Vp p.block (p.off + len * sz) (p.off + len * sz + len' * sz)) w'.heap := by
      refine ⟨Nat.le_of_eq S.size.symm, fun b1 UJ => ?_, fun b1 o1 UJ hT => ?_, Nat.le_refl _, fun _ _ => ⟨rfl, rfl, rfl⟩, fun _ _ => rfl⟩
      ·by_cases aS : b1 = p.block
       ·subst aS
        rw [c1];obtain ⟨c', q1, q2, q3⟩ := S.ex;refine ⟨c', q1, q2, fun j hj => ?_⟩
        rw [q3 j, if_neg];rintro ⟨q4, q5⟩;exact hj (c3 j q4 (by omega)).1
       ·rw [S.rest b1 aS]; exact V4.refl _ _
      ·simp only [Env.Vp]
       rw [if_neg];rintro ⟨rfl, q4, q5⟩;exact hT (c3 o1 q4 (by omega)).1
     have CL := PS.shut (by simp) R1.fresh
     have R2 : I9 ((E.re (BU y 0 t0 0)).Vp p.block (p.off + len * sz) (p.off + len * sz + len' * sz)) ((st.release y).put (some t0) .undef .val) (a.put (some t0) (.slice (some p) (len + len') cap)) w'.heap := by
      refine ⟨R1.size, R1.AZ, R1.Ca, R1.n, fun q vq hq => ?_, fun s' cs' DZ => (R1.boxes s' cs' DZ).mono PS CL (by simp) (by simp), fun i' ob hi => (R1.P8 i' ob hi).mono PS CL (by rw [← R1.n]; exact (List.getElem?_eq_some_iff.1 hi).1) (by simp) (by simp), fun b1 o1 UJ => ?_⟩
      ·have h0 := R1.regs q vq hq
       by_cases hqt : t0 = q
       ·subst hqt
        have B03 : t0 < (st.release y).tm.length := by
         have := (Array.getElem?_eq_some_iff.1 hq).1;rw [ZV] at this;rw [← R0.size]; exact this
        rw [UU B03 R0.AZ];simp only [RR, J8, RV]
       ·exact h0.mono PS CL (by simp; exact fun hh => absurd hh.symm hqt) (by simp)
      ·have UK : w.heap.size ≤ b1 := by rw [← S.size]; exact UJ
       simp only [Env.Vp];rw [if_neg]
       ·exact R1.fresh b1 o1 UK
       ·rintro ⟨rfl, -⟩
        have := (Array.getElem?_eq_some_iff.1 c1).1;omega
     have B3P : RR ((E.re (BU y 0 t0 0)).Vp p.block (p.off + len * sz) (p.off + len * sz + len' * sz)) w'.heap 0 t0 (.list sz (ds ++ es)) .own (.slice (some p) (len + len') cap) := by
      refine RR.BP ⟨?_, _, _, rfl, fun p1 len1 cap1 hq I4 => ?_⟩
      ·have B6O := lI
       refine Sz (by simp; omega) EI (by simp) (fun _ => hpos) fun p1 hp1 => ?_
       simp only [Option.some.injEq] at hp1;subst hp1;refine ⟨fun _ => by rw [hp], nI (((f4.mono lI).mono CL).append ((g4.mono lI).mono CL)) fun j q hq => ?_⟩
       by_cases hj : j < all.length
       ·rw [List.getElem?_append_left hj] at hq
        obtain ⟨q1, q2⟩ := (f5 p rfl).2 j q hq;exact ⟨CL.c _ _ _ (lI.s _ _ q2) q1, CL.s _ _ (lI.s _ _ q2)⟩
       ·rw [List.getElem?_append_right (by omega)] at hq
        have hal : all.length = len * sz := by rw [f4.1, f1]
        have hjl : j - all.length < all'.length := (List.getElem?_eq_some_iff.1 hq).1;obtain ⟨c', q1, q2, q3⟩ := S.ex;constructor
        ·unfold hc
         rw [q1]
         show c'[p.off + j]? = some q
         rw [q3, if_pos (by omega), ← hq]
         congr 1
         omega
        ·simp only [Env.S, Env.Vp]
         rw [if_pos (by refine ⟨trivial, ?_, ?_⟩ <;> omega)]
      ·simp only [Value.slice.injEq, Option.some.injEq] at hq
       obtain ⟨rfl, rfl, rfl⟩ := hq;obtain ⟨c', q1, q2, q3⟩ := S.ex;refine ⟨c', TT, f, q1, by rw [q2]; exact c2, fun o' h3 h4 => ?_⟩
       rw [A4s] at h3;obtain ⟨c4, c5⟩ := c3 o' (by omega) h4
       refine ⟨?_, c5⟩;simp only [Env.Vp];rw [if_neg (by omega)]
       exact c4
     refine Bc (R8 _ _ Bo) (T _ _ _ w' H ?_ (P0.trans (PS.weaken (by rintro T rfl; simp [J6]))) S.out)
     rw [Hl];have R3 := R2.put (dst := some t0) (d := .list sz (ds ++ es)) (m := .own) (v := .slice (some p) (len + len') cap) fun t1 jh => by
      simp only [Option.some.injEq] at jh;subst jh;exact B3P
     rwa [B2W, yN] at R3
 ·-- a new block
  obtain ⟨nc, hnc, Bo⟩ := run_append_grow (ty := o.type) (b := b) hu PN Ct aV (by rw [Nf]; exact g7) (by rw [Nf, ← ev]; exact f7) Wx EI (by omega) A5e
  rw [← ev] at Bo;have hal : all.length = len * sz := by rw [f4.1, f1]
  have B56 : all'.length = len' * sz := by rw [g4.1, g1]
  have Gt : (Builtin.zeroCells zv.cells (nc - (len + len'))).toList.length = (nc - (len + len')) * sz := by simp [Builtin.zeroCells, aZ]
  have B6r : (len + len') * sz + (nc - (len + len')) * sz = nc * sz := by rw [← Nat.add_mul]; congr 1; omega
  have A4s : (len + len') * sz = len * sz + len' * sz := Nat.add_mul _ _ _;generalize hzc : (Builtin.zeroCells zv.cells (nc - (len + len'))).toList = zc at Bo Gt;have P1 : Pr (fun _ => False) E w.heap (E.newRow w.heap.size ((len + len') * sz) (nc * sz) (.sp 0 t0 0)) (w.heap.push (.cells (all ++ all' ++ zc).toArray e)) := by
   refine Pr.push (fun b1 o1 UJ _ => ?_) (Nat.le_refl _) (fun _ _ => ⟨rfl, rfl, rfl⟩) (fun _ _ => rfl)
   simp only [Env.newRow]; rw [if_neg (by omega)]
  have CL := P1.shut (by simp) Rl.fresh
  have R0 : I9 E (st.release y) a w.heap := Rl.release (x := y) (f := id) fun _ _ => rfl
  have R1 := R0.push P1 rfl fun b1 o1 UJ => by
   simp only [Array.size_push] at UJ;simp only [Env.newRow]; rw [if_neg (by omega)]
   exact Rl.fresh b1 o1 (by omega)
  refine Bc (R8 _ _ Bo) (T _ _ _ (w.drew.alloc (.cells (all ++ all' ++ zc).toArray e)) H ?_ (P1.weaken (by simp)))
  rw [Hl];refine R1.put fun t1 jh => ?_
  simp only [Option.some.injEq] at jh;subst jh;have JQ : ∀ (j : Nat), hc (w.heap.push (.cells (all ++ all' ++ zc).toArray e)) w.heap.size j = (all ++ all' ++ zc)[j]? := fun j => by rw [A1H]; simp
  refine RR.BP ⟨?_, _, _, rfl, fun p1 len1 cap1 hq I4 => ?_⟩
  ·refine Sz (by simp; omega) hnc (by simp) (fun _ => hpos) fun p1 hp1 => ?_
   simp only [Option.some.injEq] at hp1;subst hp1;refine ⟨fun _ => rfl, nI ((f4.mono CL).append (g4.mono CL)) fun j q hq => ?_⟩
   have hj : j < (all ++ all').length := (List.getElem?_eq_some_iff.1 hq).1;have Dq : j < (len + len') * sz := by simp at hj; omega
   constructor
   ·show hc _ w.heap.size (0 + j) = _
    rw [Nat.zero_add, JQ, List.getElem?_append_left hj];exact hq
   ·simp only [Env.S, Env.newRow, Nat.zero_add, if_true]
    rw [if_pos Dq]
  ·simp only [Value.slice.injEq, Option.some.injEq] at hq
   obtain ⟨rfl, rfl, rfl⟩ := hq;refine ⟨_, e, (0, 0), RP, by simp; omega, fun o' h3 h4 => ⟨?_, by simp⟩⟩
   simp only [Nat.zero_add] at h3 h4;simp only [Env.newRow, if_true];rw [if_neg (by omega), if_pos h4]
end
end Go.Su

/-
 THE DATA MACHINE: slices whose last elements are open.
-/
namespace Go.Su
theorem A7Q {sz : Nat} {d e : DV} {p : List DV × List DV} (h : A7P sz d e = some p) : ∃ ds es, d = .list sz ds ∧ e = .list sz es ∧ ds.length + es.length ≤ lim ∧ 0 < es.length ∧ p = (ds, es) := by
 unfold A7P at h
 split at h
 ·obtain ⟨⟨⟨h1, h2⟩, h3, h4⟩, h9⟩ := L9 h
  simp only [Option.some.injEq] at h9;subst h1 h2;exact ⟨_, _, rfl, rfl, h3, h4, h9.symm⟩
 ·simp at h
def Env.B4j (E : Env) (b off lo hi : Nat) : Env :=
 { E with obj := fun i => if i = E.n then b else E.obj i, base := fun i => if i = E.n then off else E.base i, top := fun i => if i = E.n then hi else E.top i, n := E.n + 1,
          O := fun b' o => if b' = b ∧ lo ≤ o ∧ o < hi then .obj E.n else E.O b' o }
def Env.B4i (E : Env) (b lo hi : Nat) : Env :=
 { E with obj := fun i => if i = E.n then b else E.obj i, base := fun i => if i = E.n then 0 else E.base i, top := fun i => if i = E.n then hi else E.top i, n := E.n + 1,
          O := fun b' o => if b' = b then (if o < lo then .shut else if o < hi then .obj E.n else .other) else E.O b' o }
section
variable {X : Type} {C : V6} {R : N7} {o : Oper} {st : St} {k : St → Option X} {x : X} {E : Env} {a : Act} {w : World} {K : Act → World → Prop} {Q : Exit → Act → World → Prop}
theorem A9T {E : Env} {h : Heap} {i b off cap sz : Nat} {ds es : List DV} {all' : List Value} {c : Array Value} {T : TypeId} {f : Nat × Nat} (ho : E.obj i = b) (hb : E.base i = off) (ht : E.top i = off + cap * sz) (hpos : 0 < sz) (hc : h[b]? = some (.cells c T f))
 (EI : ds.length + es.length ≤ cap) (GI : off + cap * sz ≤ c.size) (tags : ∀ o, off + ds.length * sz ≤ o → o < off + cap * sz → E.O b o = .obj i ∧ ¬(f.1 ≤ o ∧ o < f.2)) (pre : ∀ (j : Nat) d, ds[j]? = some d → Elem E.S h sz b (off + j * sz) d)
 (G : JX E.S h sz es all') (cells : ∀ (j : Nat) u, all'[j]? = some u → c[off + ds.length * sz + j]? = some u) : RO E h i (.opn sz ds es) := by
 simp only [RO];rw [ho, hb, ht];refine ⟨c, T, f, hc, ?_, GI, hpos, tags, pre, fun j d hd => ?_⟩
 ·have := Nat.mul_le_mul_right sz EI
  omega
 ·obtain ⟨vs, v1, v2, v3⟩ := G.2 j d hd
  refine ⟨vs, v1, fun y u hu => ?_, v3⟩
  have := cells _ u (v2 y u hu);rw [Nat.add_mul]
  rwa [show off + (ds.length * sz + j * sz) + y = off + ds.length * sz + (j * sz + y) by omega]
theorem A2O {fl : Flags} {c : Call} {y v : Operand} {t u : TypeId} (D8 : o.op = .call c) (B0Z : c.callee = .builtin .append) (ha : c.args.toList = [y, v]) (ht : c.argTypes.toList = [t, u]) (dW : J9 fl.opn o.dst = true) (H : Io C fl o y v t u st k = some x)
 (Rl : I9 E st a w.heap) (T : Then E w k x K) : Gp C.P o a w K := by
 unfold Io at H;obtain ⟨r, h1, H⟩ := A9 H;obtain ⟨s, h2, H⟩ := A9 H;obtain ⟨sz, Y4, H⟩ := A9 H;obtain ⟨hc, H⟩ := F6 H;rw [if_pos dW] at H;obtain ⟨d2, hd, H⟩ := A9 H;simp only [Bool.and_eq_true] at hc;obtain ⟨⟨LV, gK⟩, Hl⟩ := hc;obtain ⟨t0, Hl⟩ := Option.isSome_iff_exists.1 Hl;obtain ⟨e, e', z, inf, zv, hu, PN, hz, JE, hpos, Ct, A5e, Wx, aZ⟩ := A1b Y4;obtain ⟨ds, es, hr, hs, A0o, hne, rfl⟩ := A7Q hd;simp only at H;have e1 := Rl.src h1;have e2 := (Rl.src h2).data gK;have e1d : RV E.S w.heap r.1 (a.eval y) := e1.data (by revert LV; cases r.2 <;> simp [KO, J2])
 rw [hr] at e1d;rw [hs] at e2;obtain ⟨b, len, cap, all, ev, f1, f2, f3, f4, f5, f6, f7⟩ := YV (P := C.P) e1d;obtain ⟨b', len', cap', all', ev', g1, g2, g3, g4, g5, g6, g7⟩ := YV (P := C.P) e2;have Nf : inf.size = sz := by
  obtain ⟨i', d', q1, -, q2, -⟩ := Hy hz;rw [Ct] at q1;simp only [Option.some.injEq] at q1;rw [← JE, q2, q1]
 have R8 : ∀ v' w', (Builtin.append_ #[t, u] o.type #[a.eval y, a.eval v]).run C.P w = .ok v' w' → (execOp a.eval o).run C.P w = .ok (.value v') w' := by
  intro v' w' hv;refine Jo D8 B0Z ?_;rw [Yp ht, show c.args.map a.eval = #[a.eval y, a.eval v] from by rw [Yp ha]; simp]
  exact Ck hv
 rw [Hl] at H;have aV : Builtin.lenOf (a.eval v) = pure len' := by rw [ev']; rfl
 have A9y : ds.length + es.length ≤ 4294967296 := A0o;have aW := g4.one hpos;have hn := Rl.n
 by_cases EI : len + len' ≤ cap
 ·-- it fits: the slice's own memory is written
  have R0 := Rl.release (x := y) (f := BU y 0 t0 0) fun T hT => Ec hT
  have P0 : Pr J6 E w.heap (E.re (BU y 0 t0 0)) w.heap := Pr.re fun T hT => Ec fun t b _ he => hT (by rw [he]; simp [J6])
  have lI : V9 E.S w.heap (E.re (BU y 0 t0 0)).S w.heap := JU (Ec (by simp))
  have hsp : ∀ p, b = some p → len < cap → ∃ cc TT f, w.heap[p.block]? = some (.cells cc TT f) ∧ p.off + cap * sz ≤ cc.size ∧
   ∀ o', p.off + len * sz ≤ o' → o' < p.off + cap * sz → (E.re (BU y 0 t0 0)).O p.block o' = .sp 0 t0 0 ∧ ¬(f.1 ≤ o' ∧ o' < f.2) := by
   intro p hp I4;subst hp;have KM : r.2 = .own := by
    revert LV e1
    cases r.2 <;> intro LV e1 <;> simp only [KO, Bool.false_eq_true] at LV
    ·simp only [RR, J8] at e1
     obtain ⟨-, ⟨q, n, hq⟩, -⟩ := e1;rw [ev] at hq;simp only [Value.slice.injEq] at hq;omega
    ·rfl
   rw [KM] at e1;simp only [RR, J8] at e1;obtain ⟨-, sz', ds', hl, hS⟩ := e1;rw [hr] at hl;simp only [DV.list.injEq] at hl;obtain ⟨cc, TT, f, c1, c2, c3⟩ := hS p len cap ev I4;rw [← hl.1] at c2 c3;refine ⟨cc, TT, f, c1, c2, fun o' h3 h4 => ?_⟩
   obtain ⟨c4, c5⟩ := c3 o' h3 h4;refine ⟨?_, c5⟩;have hy : ∃ i, y = .tmp i := by
    cases y with
    | tmp i => exact ⟨i, rfl⟩
    | const v => exact absurd KM (WZ h1).1
    | func f => simp only [src, Option.some.injEq] at h1; subst h1; simp at KM
    | global g => simp [src] at h1
   obtain ⟨i, rfl⟩ := hy;simp only [Env.re];rw [c4];simp [BU, jw]
  have hln : 0 < len' := by omega
  cases b with
  | none => have := f3 rfl; omega
  | some p =>
    obtain ⟨hp, f5'⟩ := f5 p rfl;have hp := hp (by omega)
    obtain ⟨cc, TT, f, c1, c2, c3⟩ := hsp p rfl (by omega)
    have B5f : all'.length = len' * sz := by rw [g4.1, g1]
    have hmul : (len + len') * sz ≤ cap * sz := Nat.mul_le_mul_right _ EI;have A4s : (len + len') * sz = len * sz + len' * sz := Nat.add_mul _ _ _;have B5i : 0 < len' * sz := Nat.mul_pos hln hpos;obtain ⟨w', hw, S⟩ := KU (P := C.P) (b := p.block) (T := TT) (f := f) (p.off + len * sz) all' cc 0 w c1 (by omega) aW (fun o' h3 h4 => (c3 o' (by omega) (by omega)).2)
    have Bo : (Builtin.append_ #[t, u] o.type #[a.eval y, a.eval v]).run C.P w = .ok (.slice (some p) (len + len') cap) w' := by
     rw [ev];refine UW hu PN Ct aV (by rw [Nf]; exact g7 w rfl) EI ?_
     rw [Nf, hp, Addr.add_lit];exact hw
    simp only [Nat.add_zero] at S;have R1 : I9 (E.re (BU y 0 t0 0)) ((st.release y).put (some t0) .undef .val) (a.put (some t0) (.slice (some p) (len + len') cap)) w.heap := R0.put fun t1 _ => by simp only [RR, J8, RV]
    let E2 := (E.re (BU y 0 t0 0)).B4j p.block p.off (p.off + len * sz) (p.off + cap * sz)
    have A5d : E2.n = E.n + 1 := rfl;have PS : Pr (fun T => T = .sp 0 t0 0) (E.re (BU y 0 t0 0)) w.heap E2 w'.heap := by
     refine ⟨Nat.le_of_eq S.size.symm, fun b1 UJ => ?_, fun b1 o1 UJ hT => ?_, Nat.le_succ _, fun i hi => ?_, fun _ _ => rfl⟩
     ·by_cases aS : b1 = p.block
      ·subst aS
       rw [c1];obtain ⟨c', q1, q2, q3⟩ := S.ex;refine ⟨c', q1, q2, fun j hj => ?_⟩
       rw [q3 j, if_neg];rintro ⟨q4, q5⟩;exact hj (c3 j q4 (by omega)).1
      ·rw [S.rest b1 aS]; exact V4.refl _ _
     ·show (if _ then _ else _) = _
      rw [if_neg];rintro ⟨rfl, q4, q5⟩;exact hT (c3 o1 q4 q5).1
     ·have Ur : i ≠ (E.re (BU y 0 t0 0)).n := Nat.ne_of_lt hi
      refine ⟨?_, ?_, ?_⟩ <;> (show (if _ then _ else _) = _; rw [if_neg Ur])
    have CL := PS.shut (by simp) R1.fresh
    have oE : E2.obj E.n = p.block := if_pos rfl;have bE : E2.base E.n = p.off := if_pos rfl;have tE : E2.top E.n = p.off + cap * sz := if_pos rfl;have R2 : I9 E2 { (st.release y).put (some t0) .undef .val with sg := st.sg ++ [D7.opn sz ds es] } (a.put (some t0) (.slice (some p) (len + len') cap)) w'.heap := by
     have sgR : (st.release y).sg = st.sg := by cases y <;> rfl
     refine ⟨R1.size, R1.AZ, R1.Ca, by simp [A5d, hn], fun q vq hq => ?_, fun s' cs' DZ => (R1.boxes s' cs' DZ).mono PS CL (by simp) (by simp), fun i' ob hi => ?_, fun b1 o1 UJ => ?_⟩
     ·have h0 := R1.regs q vq hq
      by_cases hqt : t0 = q
      ·subst hqt
       have B03 : t0 < (st.release y).tm.length := by
        have := (Array.getElem?_eq_some_iff.1 hq).1;rw [ZV] at this;rw [← R0.size]; exact this
       have hg : (St.get { (st.release y).put (some t0) .undef .val with sg := st.sg ++ [D7.opn sz ds es] } t0) = (.undef, .val) := UU B03 R0.AZ
       rw [hg];simp only [RR, J8, RV]
      ·exact h0.mono PS CL (by simp; exact fun hh => absurd hh.symm hqt) (by simp)
     ·by_cases I4 : i' < st.sg.length
      ·have hi : ((st.release y).put (some t0) .undef .val).sg[i']? = some ob := by
        have hi : (st.sg ++ [D7.opn sz ds es])[i']? = some ob := hi;rw [List.getElem?_append_left I4] at hi;rw [vU, sgR]; exact hi
       exact (R1.P8 i' ob hi).mono PS CL (by rw [← R1.n]; exact (List.getElem?_eq_some_iff.1 hi).1) (by simp) (by simp)
      ·have hi : (st.sg ++ [D7.opn sz ds es])[i']? = some ob := hi
       have Rz : i' = st.sg.length := by
        have := (List.getElem?_eq_some_iff.1 hi).1;simp at this; omega
       subst Rz;simp only [List.getElem?_append_right (Nat.le_refl _), Nat.sub_self, List.getElem?_cons_zero, Option.some.injEq] at hi;subst hi;rw [hn];obtain ⟨c', q1, q2, q3⟩ := S.ex;have pz := f1;have hg1 := g1;subst pz;refine A9T (cap := cap) (all' := all') oE bE tE hpos q1 (by omega) (by rw [q2]; exact c2) (fun o' h3 h4 => ⟨?_, (c3 o' h3 h4).2⟩) (fun j d hd => ?_) ((g4.mono lI).mono CL) fun j u hu => ?_
       ·show (if _ then _ else _) = _
        rw [if_pos ⟨rfl, h3, h4⟩];rfl
       ·obtain ⟨b0, len0, cap0, ji, -, -, -, zf⟩ := Rc e1d
        rw [ev] at ji;simp only [Value.slice.injEq] at ji;obtain ⟨rfl, -, -⟩ := ji;exact ((C_.1 (zf.2 p rfl).2 j d hd).mono lI).mono CL
       ·have hjl : j < all'.length := (List.getElem?_eq_some_iff.1 hu).1
        rw [q3, if_pos (by omega), ← hu]
        congr 1
        omega
     ·have UK : w.heap.size ≤ b1 := by rw [← S.size]; exact UJ
      show (if _ then _ else _) = _
      rw [if_neg]
      ·exact R1.fresh b1 o1 UK
      ·rintro ⟨rfl, -⟩
       have := (Array.getElem?_eq_some_iff.1 c1).1;omega
    refine Bc (R8 _ _ Bo) (T _ _ _ w' H ?_ (P0.trans (PS.weaken (by rintro T rfl; simp [J6]))) S.out)
    rw [Hl];have R3 := R2.put (dst := some t0) (d := .undef) (m := .arr st.sg.length sz 0 (ds.length + es.length)) (v := .slice (some p) (len + len') cap) fun t1 jh => by
     refine RR.BP ⟨by rw [A5d, hn]; omega, some p, cap, by rw [f1, g1], fun _ => ?_, by omega, by simp, fun q hq => ?_, fun _ => ?_⟩
     ·rw [hn, oE, bE, Nat.zero_mul, Nat.add_zero, ← hp]
     ·simp only [Option.some.injEq] at hq; rw [← hq, hp]
     ·rw [hn, bE, tE, Nat.zero_add]; exact Nat.le_refl _
    rw [yN] at R3;have e3 : St.put { (st.release y).put (some t0) .undef .val with sg := st.sg ++ [D7.opn sz ds es] } (some t0) .undef (.arr st.sg.length sz 0 (ds.length + es.length)) = St.put { st.release y with sg := st.sg ++ [D7.opn sz ds es] } (some t0) .undef (.arr st.sg.length sz 0 (ds.length + es.length)) := by
     simp [St.put, List.set_set]
    rwa [e3] at R3
 ·-- a new block
  obtain ⟨nc, hnc, Bo⟩ := run_append_grow (ty := o.type) (b := b) hu PN Ct aV (by rw [Nf]; exact g7) (by rw [Nf, ← ev]; exact f7) Wx EI (by omega) A5e
  rw [← ev] at Bo;have hal : all.length = len * sz := by rw [f4.1, f1]
  have B56 : all'.length = len' * sz := by rw [g4.1, g1]
  have Gt : (Builtin.zeroCells zv.cells (nc - (len + len'))).toList.length = (nc - (len + len')) * sz := by simp [Builtin.zeroCells, aZ]
  have B6r : (len + len') * sz + (nc - (len + len')) * sz = nc * sz := by rw [← Nat.add_mul]; congr 1; omega
  have A4s : (len + len') * sz = len * sz + len' * sz := Nat.add_mul _ _ _;generalize hzc : (Builtin.zeroCells zv.cells (nc - (len + len'))).toList = zc at Bo Gt
  let E2 := E.B4i w.heap.size (len * sz) (nc * sz)
  have A5d : E2.n = E.n + 1 := rfl;have oE : E2.obj E.n = w.heap.size := if_pos rfl;have bE : E2.base E.n = 0 := if_pos rfl;have tE : E2.top E.n = nc * sz := if_pos rfl;have P1 : Pr (fun _ => False) E w.heap E2 (w.heap.push (.cells (all ++ all' ++ zc).toArray e)) := by
   refine Pr.push (fun b1 o1 UJ _ => ?_) (Nat.le_succ _) (fun i hi => ?_) (fun _ _ => rfl)
   ·show (if _ then _ else _) = _
    rw [if_neg (by omega)]
   ·have Ur : i ≠ E.n := Nat.ne_of_lt hi
    refine ⟨?_, ?_, ?_⟩ <;> (show (if _ then _ else _) = _; rw [if_neg Ur])
  have CL := P1.shut (by simp) Rl.fresh
  have R0 : I9 E (st.release y) a w.heap := Rl.release (x := y) (f := id) fun _ _ => rfl
  have sgR : (st.release y).sg = st.sg := by cases y <;> rfl
  have JQ : ∀ (j : Nat), hc (w.heap.push (.cells (all ++ all' ++ zc).toArray e)) w.heap.size j = (all ++ all' ++ zc)[j]? := fun j => by rw [A1H]; simp
  have R2 : I9 E2 { st.release y with sg := st.sg ++ [D7.opn sz ds es] } a (w.heap.push (.cells (all ++ all' ++ zc).toArray e)) := by
   refine ⟨R0.size, R0.AZ, R0.Ca, by simp [A5d, hn], fun q vq hq => (R0.regs q vq hq).mono P1 CL (by simp) (by simp), fun s' cs' DZ => (R0.boxes s' cs' DZ).mono P1 CL (by simp) (by simp), fun i' ob hi => ?_, fun b1 o1 UJ => ?_⟩
   ·by_cases I4 : i' < st.sg.length
    ·have hi : (st.release y).sg[i']? = some ob := by
      have hi : (st.sg ++ [D7.opn sz ds es])[i']? = some ob := hi;rw [List.getElem?_append_left I4] at hi;rw [sgR]; exact hi
     exact (R0.P8 i' ob hi).mono P1 CL (by rw [← R0.n]; exact (List.getElem?_eq_some_iff.1 hi).1) (by simp) (by simp)
    ·have hi : (st.sg ++ [D7.opn sz ds es])[i']? = some ob := hi
     have Rz : i' = st.sg.length := by
      have := (List.getElem?_eq_some_iff.1 hi).1;simp at this; omega
     subst Rz;simp only [List.getElem?_append_right (Nat.le_refl _), Nat.sub_self, List.getElem?_cons_zero, Option.some.injEq] at hi;subst hi;rw [hn];have pz := f1;subst pz;refine A9T (cap := nc) (all' := all') oE bE (by rw [tE, Nat.zero_add]) hpos RP (by omega) (by simp; omega) (fun o' h3 h4 => ⟨?_, by simp⟩) (fun j d hd => ?_) (g4.mono CL) fun j u hu => ?_
     ·show (if _ then _ else _) = _
      rw [if_pos rfl, if_neg (by omega), if_pos (by omega)]
     ·obtain ⟨vs, v1, v2, v3⟩ := f4.2 j d hd
      refine ⟨vs, v1, fun y' u hu => ?_, v3.mono CL⟩
      have hy' : y' < sz := by have := (List.getElem?_eq_some_iff.1 hu).1; omega
      have h5 := v2 y' u hu;have h6 : j * sz + y' < all.length := (List.getElem?_eq_some_iff.1 h5).1;refine ⟨?_, ?_⟩
      ·rw [Nat.zero_add, JQ, List.append_assoc, List.getElem?_append_left h6]
       exact h5
      ·show (if _ then _ else _) = _
       rw [if_pos rfl, Nat.zero_add, if_pos (by omega)]
     ·have hjl : j < all'.length := (List.getElem?_eq_some_iff.1 hu).1
      rw [Nat.zero_add, List.getElem?_toArray, List.append_assoc, List.getElem?_append_right (by omega), List.getElem?_append_left (by omega), ← hu]
      congr 1
      omega
   ·simp only [Array.size_push] at UJ
    show (if _ then _ else _) = _
    rw [if_neg (by omega)]
    exact Rl.fresh b1 o1 (by omega)
  refine Bc (R8 _ _ Bo) (T _ _ _ (w.drew.alloc (.cells (all ++ all' ++ zc).toArray e)) H ?_ (P1.weaken (by simp)))
  rw [Hl];refine R2.put fun t1 jh => ?_
  refine RR.BP ⟨by rw [A5d, hn]; omega, some ⟨w.heap.size, 0, none⟩, nc, by rw [f1, g1], fun _ => ?_, by omega, by simp, fun q hq => ?_, fun _ => ?_⟩
  ·rw [hn, oE, bE, Nat.zero_mul, Nat.add_zero]
  ·simp only [Option.some.injEq] at hq; rw [← hq]
  ·rw [hn, bE, tE, Nat.zero_add, Nat.zero_add]; exact Nat.le_refl _
def Env.kF (E : Env) (i lo : Nat) (tg : Tag) : Env := { E with O := fun b o => if E.O b o = .obj i then (if o < lo then .shut else tg) else E.O b o }
theorem mD (E : Env) (h : Heap) (i lo : Nat) (tg : Tag) : Pr (fun T => T = .obj i) E h (E.kF i lo tg) h := by
 refine ⟨Nat.le_refl _, fun _ _ => V4.refl _ _, fun b o _ hT => ?_, Nat.le_refl _, fun _ _ => ⟨rfl, rfl, rfl⟩, fun _ _ => rfl⟩
 show (if _ then _ else _) = _
 rw [if_neg hT]
theorem vo {h : Heap} {i sz : Nat} {pre ds : List DV} {tg : Tag} {v : Value} (hf : ∀ b o, h.size ≤ b → E.O b o = .other) (H : RO E h i (.opn sz pre ds)) (G : J8 E h tg .undef (.arr i sz 0 (pre.length + ds.length)) v) (hne : 0 < pre.length + ds.length) (tg' : Tag) :
 J8 (E.kF i (E.base i + (pre.length + ds.length) * sz) tg') h tg' (.list sz (pre ++ ds)) .own v := by
 have P := mD E h i (E.base i + (pre.length + ds.length) * sz) tg';have I8 := P.shut (by simp) hf
 simp only [RO] at H;obtain ⟨c, T, f, h1, h2, YG, hz, h3, h4, h5⟩ := H;simp only [J8] at G;obtain ⟨g1, b, cap, rfl, g2, g3, g4, g5, g6⟩ := G;have g2 := g2 hne;have g6 := g6 hne;subst g2;simp only [Nat.zero_mul, Nat.add_zero, Nat.zero_add] at g6 ⊢;have q0 : (pre.length + ds.length) * sz ≤ cap * sz := Nat.mul_le_mul_right _ g3;refine ⟨?_, sz, pre ++ ds, rfl, fun p len1 cap1 hq I4 => ?_⟩
 ·refine Sz (by simp) g3 (by simp) (fun _ => hz) fun p hp => ?_
  simp only [Option.some.injEq] at hp;subst hp;refine ⟨fun _ => rfl, C_.2 fun j d hd => ?_⟩
  by_cases hj : j < pre.length
  ·rw [List.getElem?_append_left hj] at hd
   exact (h4 j d hd).mono I8
  ·rw [List.getElem?_append_right (by omega)] at hd
   have hjd : j - pre.length < ds.length := (List.getElem?_eq_some_iff.1 hd).1;obtain ⟨vs, v1, v2, v3⟩ := h5 _ d hd;have ej : pre.length + (j - pre.length) = j := by omega
   rw [ej] at v2;refine ⟨vs, v1, fun y u hu => ?_, v3.mono I8⟩
   have hy : y < sz := by have := (List.getElem?_eq_some_iff.1 hu).1; omega
   have q1 : pre.length * sz ≤ j * sz := Nat.mul_le_mul_right _ (by omega)
   have q2 : j * sz + y < (pre.length + ds.length) * sz := by
    calc j * sz + y < j * sz + sz := by omega
     _ = (j + 1) * sz := by rw [Nat.succ_mul]
     _ ≤ (pre.length + ds.length) * sz := Nat.mul_le_mul_right _ (by omega)
   refine ⟨?_, ?_⟩
   ·unfold hc
    rw [h1];exact v2 y u hu
   ·have e0 : (E.kF i (E.base i + (pre.length + ds.length) * sz) tg').O (E.obj i) (E.base i + j * sz + y) = .shut := by
     show (if _ then _ else _) = _
     rw [if_pos (h3 (E.base i + j * sz + y) (by omega) (by omega)).1, if_pos (by omega)]
    exact e0
 ·simp only [Value.slice.injEq, Option.some.injEq] at hq
  obtain ⟨rfl, rfl, rfl⟩ := hq;refine ⟨c, T, f, h1, by simp only; omega, fun o' h6 h7 => ?_⟩
  simp only at h6 h7;have q1 : pre.length * sz ≤ (pre.length + ds.length) * sz := Nat.mul_le_mul_right _ (by omega)
  obtain ⟨q2, q3⟩ := h3 o' (by omega) (by omega)
  refine ⟨?_, q3⟩
  show (if _ then _ else _) = _
  rw [if_pos q2, if_neg (by omega)]
theorem nG {q : Nat × List DV × List DV} {sz len : Nat} {d : DV} (h : kW q sz len = some d) : q.1 = sz ∧ q.2.1.length + q.2.2.length = len ∧ 0 < len ∧ d = .list sz (q.2.1 ++ q.2.2) := by
 unfold kW at h;obtain ⟨⟨h1, h2, h3⟩, h⟩ := L9 h;simp only [Option.some.injEq] at h;exact ⟨h1, h2, h3, h.symm⟩
theorem A7M {r : Nat} {h : Heap} (H : Yr r st k = some x) (Rl : I9 E st a h) : ∃ E' st', k st' = some x ∧ I9 E' st' a h ∧ Pr J6 E h E' h := by
 unfold Yr at H
 split at H
 ·rename_i i sz len hm
  obtain ⟨q, hq, H1⟩ := A9 H;obtain ⟨d, hd, H9⟩ := A9 H1;clear H H1;obtain ⟨sz', pre, ds⟩ := q;obtain ⟨c1, c2, c3, rfl⟩ := nG hd;simp only at c1 c2;subst c1 c2;have hq := l_ hq;have B := Rl.P8 i _ hq;have hi : i < E.n := by rw [← Rl.n]; exact (List.getElem?_eq_some_iff.1 hq).1
  have PX := (List.getElem?_eq_some_iff.1 hq).1
  let E' := E.kF i (E.base i + (pre.length + ds.length) * sz') (.sp 0 r 0)
  have P : Pr (fun T => T = .obj i) E h E' h := mD E h i _ _
  have I8 := P.shut (by simp) Rl.fresh
  refine ⟨E', _, H9, ?_, P.weaken (by rintro T rfl; simp [J6])⟩
  refine ⟨by rw [jy]; exact Rl.size, by rw [jy, A9X]; exact Rl.AZ, by rw [jy, A14]; exact Rl.Ca, ?_, fun t v hv => ?_, fun s cs hs => ?_, fun j ob hj => ?_, fun b o hb => ?_⟩
  ·rw [vU, List.length_set]; exact Rl.n
  ·have h0 := Rl.regs t v hv
   by_cases ht : r = t
   ·subst ht
    have I4 : r < st.tm.length := by
     have := (Array.getElem?_eq_some_iff.1 hv).1;rw [← Rl.size]; exact this
    rw [UU (st := { st with sg := st.sg.set i (.arr 1 []) }) I4 Rl.AZ]
    rw [hm] at h0;simp only [RR] at h0;exact RR.BP (vo (tg := .sp 0 r 0) Rl.fresh B (by simpa only [J8] using h0) c3 _)
   ·rw [qF ht]
    exact h0.mono P I8 (by simp) (by simp)
  ·rw [A14] at hs
   exact (Rl.boxes s cs hs).mono P I8 (by simp) (by simp)
  ·rw [vU] at hj
   by_cases PL : i = j
   ·subst PL
    rw [List.getElem?_set_self PX] at hj;simp only [Option.some.injEq] at hj;subst hj;exact fun hne => absurd rfl hne
   ·rw [List.getElem?_set_ne PL] at hj
    exact (Rl.P8 j ob hj).mono P I8 (by rw [← Rl.n]; exact (List.getElem?_eq_some_iff.1 hj).1) (by simp; exact fun h => PL h.symm) (by simp)
  ·show (if _ then _ else _) = _
   rw [Rl.fresh b o hb, if_neg (by simp)]
 ·rename_i b off hm
  obtain ⟨cs, GI, H1⟩ := A9 H;obtain ⟨q0, hca, H2⟩ := A9 H1;obtain ⟨q, hq, H3⟩ := A9 H2;obtain ⟨d, hd, H9⟩ := A9 H3;clear H H1 H2 H3;obtain ⟨i, sz, len⟩ := q0;obtain ⟨sz', pre, ds⟩ := q;obtain ⟨c1, c2, c3, rfl⟩ := nG hd;simp only at c1 c2 H9 hq;subst c1 c2;have hq := l_ hq;have GI := lw GI;have B := Rl.P8 i _ hq;have BX := Rl.P8 b _ GI;have PX := (List.getElem?_eq_some_iff.1 hq).1;have B0Y := (List.getElem?_eq_some_iff.1 GI).1;have hib : i ≠ b := by rintro rfl; rw [hq] at GI; cases GI
  obtain ⟨d0, vD⟩ : ∃ d0, cs[off]? = some (d0, .arr i sz' 0 (pre.length + ds.length)) := by
   unfold A7d at hca
   split at hca
   ·rename_i d0 i0 sz0 len0 heq
    simp only [Option.some.injEq, Prod.mk.injEq] at hca;obtain ⟨rfl, rfl, rfl⟩ := hca;exact ⟨d0, heq⟩
   ·cases hca
  let E' := E.kF i (E.base i + (pre.length + ds.length) * sz') (.sp 2 b off)
  have P : Pr (fun T => T = .obj i) E h E' h := mD E h i _ _
  have I8 := P.shut (by simp) Rl.fresh
  refine ⟨E', _, H9, ?_, P.weaken (by rintro T rfl; simp [J6])⟩
  refine ⟨Rl.size, Rl.AZ, Rl.Ca, ?_, fun t v hv => (Rl.regs t v hv).mono P I8 (by simp) (by simp), fun s cs' hs => (Rl.boxes s cs' hs).mono P I8 (by simp) (by simp), fun j ob hj => ?_, fun b' o hb => ?_⟩
  ·simp only [List.length_set]; exact Rl.n
  ·by_cases PL : i = j
   ·subst PL
    rw [List.getElem?_set_self (by simpa using PX)] at hj
    simp only [Option.some.injEq] at hj;subst hj;exact fun hne => absurd rfl hne
   ·rw [List.getElem?_set_ne PL] at hj
    by_cases hbj : b = j
    ·subst hbj
     rw [List.getElem?_set_self B0Y] at hj;simp only [Option.some.injEq] at hj;subst hj;simp only [RO] at BX ⊢;have B3U := (List.getElem?_eq_some_iff.1 vD).1;obtain ⟨c, T, e1, e2, e3, e4⟩ := BX.mono P I8 (by simp; exact fun h => hib h.symm) (by simp)
     refine ⟨c, T, e1, by simpa using e2, e3, fun y r' v hr hv => ?_⟩
     by_cases hy : off = y
     ·subst hy
      rw [List.getElem?_set_self B3U] at hr;simp only [Option.some.injEq] at hr;subst hr;obtain ⟨c0, T0, f1, f2, f3, f4⟩ := BX;have QK : c0 = c := by
       have e1' : h[E.obj b]? = some (.cells c T (0, 0)) := e1;rw [f1] at e1';simp only [Option.some.injEq, Obj.cells.injEq] at e1';exact e1'.1
      subst QK;obtain ⟨g1, g2, g3, g4⟩ := f4 off _ v vD hv;exact ⟨rfl, g2, rfl, vo (tg := .sp 2 b off) Rl.fresh B (by simpa only [J8] using g4) c3 _⟩
     ·rw [List.getElem?_set_ne hy] at hr
      exact e4 y r' v hr hv
    ·rw [List.getElem?_set_ne hbj] at hj
     exact (Rl.P8 j ob hj).mono P I8 (by rw [← Rl.n]; exact (List.getElem?_eq_some_iff.1 hj).1) (by simp; exact fun h => PL h.symm) (by simp)
  ·show (if _ then _ else _) = _
   rw [Rl.fresh b' o hb, if_neg (by simp)]
 ·cases H
theorem A1h {fl : Flags} {id : Nat} {h : Heap} (H : FO fl id st k = some x) (Rl : I9 E st a h) : ∃ E' st', k st' = some x ∧ I9 E' st' a h ∧ Pr J6 E h E' h := by
 unfold FO at H
 split at H
 ·exact A7M H Rl
 ·exact ⟨E, st, H, Rl, Pr.refl _ _ _⟩
end
end Go.Su

/-
 THE DATA MACHINE, part 17: calls.
-/
namespace Go.Su
structure Ext (S : Q0) (h : Heap) (S' : Q0) (h' : Heap) : Prop where
 size : h.size ≤ h'.size
 blk : ∀ b, b < h.size → h'[b]? = h[b]?
 s : ∀ b o, b < h.size → (S' b o ↔ S b o)
 fresh : ∀ b o, h'.size ≤ b → ¬ S' b o
def A8U (P : Program) (f : FuncId) (ds : List DV) (d : DV) : Prop :=
 ∀ (S : Q0) (w : World) (vs : List Value), (∀ b o, w.heap.size ≤ b → ¬ S b o) → O_ S w.heap ds vs →
   Calls P f vs.toArray w fun e w' => ∃ v S', e = .returned v ∧ Ext S w.heap S' w'.heap ∧ RV S' w'.heap d v ∧ P9 w w'
def A7C (E : Env) (h : Heap) (i : Nat) (k : MK) (d : DV) (v : Value) : Prop :=
 match k with
 | .val => RV E.S h d v
 | .own => J8 E h (.sp 3 i 0) d .own v
 | .ptr => J8 E h .other (KT .ptr d).1 (KT .ptr d).2 v
 | .S_ n os => RR E h 3 i d (.AO ((List.range n).map fun i => if os.contains i then .own else .val)) v
def A4D (E : Env) (h : Heap) (ks : List MK) (ds : List DV) (v : Value) : Prop :=
 ds.length = ks.length ∧ ∃ vs : List Value, vs.length = ks.length ∧ v = (match vs with | [u] => u | _ => .tuple vs.toArray) ∧
  ∀ (i : Nat) k d u, ks[i]? = some k → ds[i]? = some d → vs[i]? = some u → A7C E h i k d u
def A7D (P : Program) (f : FuncId) (s : Z8) (rs : List (DV × Meta)) (sg : List D7) (q : List DV × List D7) : Prop :=
 ∀ (E : Env) (w : World) (vs : List Value), (∀ b o, w.heap.size ≤ b → E.O b o = .other) → sg.length = E.n → (∀ (i : Nat) ob, sg[i]? = some ob → RO E w.heap i ob) → vs.length = rs.length →
   (∀ (i : Nat) r v, rs[i]? = some r → vs[i]? = some v → RR E w.heap 0 i r.1 r.2 v) →
   Calls P f vs.toArray w fun e w' => P9 w w' ∧ ∃ v E', e = .returned v ∧ Pr J6 E w.heap E' w'.heap ∧ (∀ b o, w'.heap.size ≤ b → E'.O b o = .other) ∧ q.2.length = E'.n ∧ (∀ (i : Nat) ob, q.2[i]? = some ob → RO E' w'.heap i ob) ∧ A4D E' w'.heap s.results q.1 v
def A8V (P : Program) (f : FuncId) (s : Z8) (rs : List (DV × Meta)) (sg : List D7) (q : List DV × List D7) : Prop :=
 ∀ (E : Env) (w : World) (vs : List Value), (∀ b o, w.heap.size ≤ b → E.O b o = .other) → sg.length = E.n → (∀ (i : Nat) ob, sg[i]? = some ob → RO E w.heap i ob) → vs.length = rs.length →
   (∀ (i : Nat) r v, rs[i]? = some r → vs[i]? = some v → RR E w.heap 0 i r.1 r.2 v) →
   ∀ u, CallsDIn Fence.wide 0 P f vs.toArray u w fun e u' w' => u' = u ∧ P9 w w' ∧ ∃ v E', e = .returned v ∧ Pr J6 E w.heap E' w'.heap ∧ (∀ b o, w'.heap.size ≤ b → E'.O b o = .other) ∧ q.2.length = E'.n ∧ (∀ (i : Nat) ob, q.2[i]? = some ob → RO E' w'.heap i ob) ∧ A4D E' w'.heap s.results q.1 v
def isGo (P : Program) (f : FuncId) : Bool :=
 match P.funcs[f]? with
 | some fn => fn.name != "runtime.NumGoroutine" && fn.body.isSome
 | none => false
def A7b (P : Program) (f : FuncId) (sz : Nat) : Prop :=
 ∀ (S : Q0) (w : World) (v : Value) (ds : List DV), ds.length ≤ lim → (∀ b o, w.heap.size ≤ b → ¬ S b o) → RV S w.heap (.list sz ds) v →
   Calls P f #[v] w fun e w' => ∃ (a : Option Addr) (b off cap : Nat), e = .returned (.slice a ds.length cap) ∧ (ds ≠ [] → a = some ⟨b, off, none⟩) ∧ ds.length ≤ cap ∧ (a = none → cap = 0) ∧ (∀ x, a = some x → x.spot = none) ∧ w.heap.size ≤ w'.heap.size ∧ P9 w w' ∧ (∀ b', b' < w.heap.size → w'.heap[b']? = w.heap[b']?) ∧
    (ds ≠ [] → w.heap.size ≤ b ∧ ∃ c T, w'.heap[b]? = some (.cells c T (0, 0)) ∧ off + ds.length * sz ≤ c.size ∧ 0 < sz ∧
      ∀ (j : Nat) d, ds[j]? = some d → ∃ vs : List Value, vs.length = sz ∧ (∀ (x : Nat) u, vs[x]? = some u → c[off + j * sz + x]? = some u) ∧ RC S w'.heap d vs)
def A7B (P : Program) (f g : FuncId) (n : Nat) : Prop :=
 ∀ (w : World) (vs : Array Value), vs.size = n → Calls P f #[.agg vs] w fun e w' => e = .returned (.func (.func g) #[] #[.pointer (some ⟨w.heap.size, 0, none⟩)]) ∧ ∃ T, w' = w.alloc (.cells vs T)
structure NE (n : Nat) (E : Env) (w w' : World) : Prop where
 size : w.heap.size ≤ w'.heap.size
 blk : ∀ b, b < w.heap.size → w'.heap[b]? = w.heap[b]? ∨ (n ≤ b ∧ (∃ c T f c', w.heap[b]? = some (.cells c T f) ∧ w'.heap[b]? = some (.cells c' T f) ∧ c'.size = c.size) ∧ ∀ o, E.O b o = .other)
 out : P9 w w'
def A0K (P : Program) (g : FuncId) (it : List DV → Option (List DV)) : Prop :=
 ∀ (cs ds : List DV), it cs = some ds → ∀ (n l b : Nat) (c : Array Value) (T0 : TypeId) (J : Nat → Env → World → Prop) (Jx : World → Prop) (E : Env) (W : World),
   W.heap[b]? = some (.cells c T0 (0, 0)) → (∀ o, o < c.size → E.O b o = .other) → Fe E.S W.heap cs c.toList →
   (∀ k E' W', J k E' W' → ∀ b o, W'.heap.size ≤ b → E'.O b o = .other) →
   (∀ k E' W1 W2, J k E' W1 → NE W.heap.size E' W1 W2 → J k E' W2) →
   (∀ k E' W1 d v, J k E' W1 → ds[k]? = some d → RV E'.S W1.heap d v → YieldAt Fence.wide n P l #[v] W1 fun e W2 =>
     (e = .returned (.bool true) ∧ ∃ E2, J (k + 1) E2 W2 ∧ Pr J6 E' W1.heap E2 W2.heap) ∨ (e = .returned (.bool false) ∧ Jx W2)) →
   J 0 E W → CallsIn Fence.wide n P g #[.func (.yield l) #[] #[], .pointer (some ⟨b, 0, none⟩)] W fun e W' => (∃ v, e = .returned v) ∧ ((∃ E', J ds.length E' W') ∨ Jx W')
structure Ce (C : V6) (R : N7) : Prop where
 p : ∀ f ds d, R.p f ds = some d → isGo C.P f = true ∧ A8U C.P f ds d
 r : ∀ f rs sg q, R.r f rs sg = some q → ∃ s, C.sig f = some s ∧ isGo C.P f = true ∧ A7D C.P f s rs sg q
 c : ∀ f, C.clone f = true → isGo C.P f = true ∧ A7b C.P f (C.nH f)
 m : ∀ f g, C.dh f = some g → isGo C.P f = true ∧ A7B C.P f g (C.nH f)
 i : ∀ g it, C.iter g = some it → isGo C.P g = true ∧ A0K C.P g it
 d : ∀ f rs sg q, C.dfn f = true → R.r f rs sg = some q → ∃ s, C.sig f = some s ∧ isGo C.P f = true ∧ A8V C.P f s rs sg q
structure wT (E E' : Env) (tg tg' : Tag) : Prop where
 hs : ∀ b o, E.O b o = .shut → E'.O b o = .shut
 ht : ∀ b o, E.O b o = tg → E'.O b o = tg'
 obj : E'.obj = E.obj
 base : E'.base = E.base
 n : E'.n = E.n
 top : E'.top = E.top
theorem wT.le {E E' : Env} {tg tg' : Tag} {h : Heap} (T : wT E E' tg tg') : V9 E.S h E'.S h := ⟨fun b o hs => T.hs b o hs, fun _ _ _ _ hv => hv⟩
theorem J8.to {E E' : Env} {h : Heap} {tg tg' : Tag} {d : DV} {m : Meta} {v : Value} (T : wT E E' tg tg') (hl : ∀ s o, m ≠ .loc s o) (R : J8 E h tg d m v) : J8 E' h tg' d m v := by
 have I8 := T.le (h := h);cases m <;> simp only [J8] at R ⊢
 case val => exact R.mono I8
 case full => exact ⟨R.1.mono I8, R.2⟩
 case own =>
  obtain ⟨r1, sz, ds, r2, r3⟩ := R;refine ⟨r1.mono I8, sz, ds, r2, fun x len cap hv I4 => ?_⟩
  obtain ⟨c, T', g, e1, e2, e3⟩ := r3 x len cap hv I4;refine ⟨c, T', g, e1, e2, fun o ho ho' => ?_⟩
  obtain ⟨e4, e5⟩ := e3 o ho ho';exact ⟨T.ht _ _ e4, e5⟩
 case loc s o => exact absurd rfl (hl s o)
 case Nr ag sz o =>
  obtain ⟨b, o0, r1, r2, r3⟩ := R;exact ⟨b, o0, r1, r2.mono I8, r3⟩
 case ptr i o => rw [T.obj, T.n]; exact R
 case E_ => exact R
 case map i => rw [T.obj, T.n]; exact R
 case PY => exact R
 case arr i sz off len => rw [T.obj, T.n, T.base, T.top]; exact R
 case opt i sz idx => rw [T.obj, T.n, T.base]; exact R
 case Xr i sz idx o => rw [T.obj, T.n, T.base]; exact R
 case fn f caps => rw [T.obj, T.n]; exact R
theorem RO.to {E E' : Env} {h : Heap} {i : Nat} {ob : D7} (T : wT E E' (.obj i) (.obj i)) (hs : ∀ j b o, E.O b o = .sp 2 i j → E'.O b o = .sp 2 i j) (R : RO E h i ob) : RO E' h i ob := by
 have I8 := T.le (h := h);cases ob with
 | box cs =>
   simp only [RO] at R ⊢;obtain ⟨c, T0, h1, h2, h3, h4⟩ := R;rw [T.obj];refine ⟨c, T0, h1, h2, fun o => ?_, fun j r v hr hv => ?_⟩
   ·rcases h3 o with h5 | h5
    ·exact .inl (T.ht _ _ h5)
    ·exact .inr h5
   ·obtain ⟨a1, a2, a3, a4⟩ := h4 j r v hr hv
    exact ⟨a1, a2, a3, a4.to ⟨T.hs, hs j, T.obj, T.base, T.n, T.top⟩ fun s o hm => by rw [hm] at a3; simp [U8] at a3⟩
 | arr sz ds =>
   simp only [RO] at R ⊢;intro hne;obtain ⟨c, T0, h1, h2, h3, h4, h5⟩ := R hne;rw [T.obj, T.base];refine ⟨c, T0, h1, h2, h3, fun o q1 q2 => T.ht _ _ (h4 o q1 q2), fun j d hd => ?_⟩
   obtain ⟨vs, v1, v2, v3⟩ := h5 j d hd;exact ⟨vs, v1, v2, v3.mono I8⟩
 | opn sz pre ds =>
   simp only [RO] at R ⊢;obtain ⟨c, T0, f, h1, h2, YG, hz, h3, h4, h5⟩ := R;rw [T.obj, T.base, T.top];refine ⟨c, T0, f, h1, h2, YG, hz, fun o q1 q2 => ⟨T.ht _ _ (h3 o q1 q2).1, (h3 o q1 q2).2⟩, fun j d hd => (h4 j d hd).mono I8, fun j d hd => ?_⟩
   obtain ⟨vs, v1, v2, v3⟩ := h5 j d hd;exact ⟨vs, v1, v2, v3.mono I8⟩
 | map ks es =>
   simp only [RO] at R ⊢;obtain ⟨ens, clk, h1, h2, ⟨h3, h4⟩, h5⟩ := R;rw [T.obj];exact ⟨ens, clk, h1, fun o => T.ht _ _ (h2 o), ⟨h3, fun j e n g1 g2 => let ⟨a1, a2, a3⟩ := h4 j e n g1 g2; ⟨a1, a2.mono I8, a3.mono I8⟩⟩, h5⟩
def St.Ha (st : St) (sg : List D7) : St := { st with sg }
section
variable {X : Type} {C : V6} {R : N7} {o : Oper} {st : St} {k : St → Option X} {x : X} {E : Env} {a : Act} {w : World} {K : Act → World → Prop} {Q : Exit → Act → World → Prop}
theorem I9.ext {E' : Env} {h h' : Heap} (Rl : I9 E st a h) (P : Pr (fun _ => False) E h E' h') (hn : E'.n = E.n) (hf : ∀ b o, h'.size ≤ b → E'.O b o = .other) : I9 E' st a h' := by
 have I8 := P.shut (by simp) Rl.fresh
 exact ⟨Rl.size, Rl.AZ, Rl.Ca, by rw [hn]; exact Rl.n, fun t v hv => (Rl.regs t v hv).mono P I8 (by simp) (by simp), fun s cs hs => by rw [P.fV s (by simp)]; exact (Rl.boxes s cs hs).mono P I8 (by simp) (by simp),
  fun i ob hi => (Rl.P8 i ob hi).mono P I8 (by rw [← Rl.n]; exact (List.getElem?_eq_some_iff.1 hi).1) (by simp) (by simp), hf⟩
open Classical in
noncomputable def Env.after (E : Env) (n : Nat) (S' : Q0) : Env := { E with O := fun b o => if b < n then E.O b o else if S' b o then .shut else .other }
theorem B0n {h' : Heap} {S' : Q0} {h : Heap} (H : Ext E.S h S' h') : Pr (fun _ => False) E h (E.after h.size S') h' := by
 refine ⟨H.size, fun b hb => by rw [H.blk b hb]; exact V4.refl _ _, fun b o hb _ => ?_, Nat.le_refl _, fun _ _ => ⟨rfl, rfl, rfl⟩, fun _ _ => rfl⟩
 simp only [Env.after]; rw [if_pos hb]
theorem B0o {h' : Heap} {S' : Q0} {h : Heap} (H : Ext E.S h S' h') : V9 S' h' (E.after h.size S').S h' := by
 refine ⟨fun b o hs => ?_, fun _ _ _ _ hv => hv⟩
 simp only [Env.S, Env.after]
 by_cases hb : b < h.size
 ·rw [if_pos hb]; exact (H.s b o hb).1 hs
 ·rw [if_neg hb, if_pos hs]
theorem mO {f : FuncId} {args : Array Value} (hr : (execOp a.eval o).run C.P w = .ok (.enter f args) w) (hc : Calls C.P f args w fun e w' => ∃ v, e = .returned v ∧ K (a.put o.dst v) w') : Gp C.P o a w K :=
 .inr (.inr ⟨f, args, hr, hc⟩)
theorem bB {P : Program} {f : FuncId} (h : isGo P f = true) (args : Array Value) (w : World) : (callFunc f args).run P w = .ok (.enter f args) w := by
 unfold isGo at h
 split at h
 ·rename_i fn hf
  simp only [Bool.and_eq_true, bne_iff_ne, ne_eq] at h;unfold callFunc;obtain ⟨c, hc⟩ := Option.isSome_iff_exists.1 h.2;simp [hf, h.1, hc]
 ·simp at h
theorem wH {P : Program} {ts : List TypeId} {xs : List Operand} {rs : List (DV × Meta)} (Rl : I9 E st a w.heap) (h : Gx P st ts xs = some rs) : rs.length = xs.length ∧ ∀ (i : Nat) r v, rs[i]? = some r → (xs.map a.eval)[i]? = some v →
 ∃ y t, xs[i]? = some y ∧ v = a.eval y ∧ src P t st y = some r ∧ RR E w.heap 0 (jw y) r.1 r.2 v := by
 obtain ⟨l1, l2⟩ := eU h;refine ⟨l1, fun i r v hr hv => ?_⟩
 simp only [List.getElem?_map, Option.map_eq_some_iff] at hv;obtain ⟨y, hy, rfl⟩ := hv;obtain ⟨t, ht⟩ := l2 i y r hy hr;exact ⟨y, t, hy, rfl, ht, Rl.src ht⟩
theorem B1A {f : FuncId} {rs : List (DV × Meta)} {vs : List Value} (hO : Ce C R) (R8 : (execOp a.eval o).run C.P w = .ok (.enter f vs.toArray) w) (hl : rs.length = vs.length) (hrs : ∀ (i : Nat) r v, rs[i]? = some r → vs[i]? = some v → ∃ p q, RR E w.heap p q r.1 r.2 v)
 (H : og (rs.all fun r => J2 r.2) (ob (R.p f (rs.map (·.1))) fun d => k (st.put o.dst d .val)) = some x) (Rl : I9 E st a w.heap) (T : Then E w k x K) : Gp C.P o a w K := by
 obtain ⟨hd, H⟩ := F6 H;obtain ⟨d, Kk, H⟩ := A9 H;refine mO R8 (((hO.p f _ d Kk).2 E.S w vs (fun b o hb hs => by have h9 := Rl.fresh b o hb; rw [show E.O b o = Tag.shut from hs] at h9; cases h9) (VA.2 ⟨by simpa using hl, fun i d' v GJ hv => ?_⟩)).mono ?_)
 ·simp only [List.getElem?_map, Option.map_eq_some_iff] at GJ
  obtain ⟨r, hr, rfl⟩ := GJ;obtain ⟨p, q, h⟩ := hrs i r v hr hv;exact h.data (List.all_eq_true.1 hd r (List.mem_of_getElem? hr))
 ·rintro e w' ⟨v, S', he, hE, hR, Nh⟩
  have P1 := B0n hE;refine ⟨v, he, T _ _ _ w' H ((Rl.ext P1 rfl fun b o hb => ?_).put fun t0 _ => ?_) (P1.weaken (by simp)) Nh⟩
  ·simp only [Env.after]
   have := hE.size;rw [if_neg (by omega), if_neg (hE.fresh b o hb)]
  ·exact RR.val (hR.mono (B0o hE))
def O4 : Tag → Tag
 | .shut => .shut
 | .obj i => .obj i
 | .sp 2 i j => .sp 2 i j
 | .sp 4 i b => .sp 0 i b
 | _ => .other
def Jm (t : Nat) (one : Bool) : Tag → Tag
 | .shut => .shut
 | .obj i => .obj i
 | .sp 2 i j => .sp 2 i j
 | .sp 3 i 0 => .sp 0 t (if one then 0 else i + 1)
 | .sp 3 _ (b + 1) => if one then .sp 0 t (b + 1) else .other
 | _ => .other
open Classical in
noncomputable def Env.back (E E1 : Env) (n : Nat) (t : Nat) (one : Bool) : Env :=
 { E1 with blk := E.blk, O := fun b o => if b < n ∧ O4 (E.O b o) = .other then E.O b o else Jm t one (E1.O b o) }
def ZW (g : Option (Nat × Operand)) (T : Tag) : Tag :=
 match g with
 | some p => dn p.2 4 p.1 T
 | none => T
theorem qE : ∀ {ks : List MK} {xs : List Operand} {i0 : Nat} {p : Nat × Operand}, EY i0 ks xs = some p → i0 ≤ p.1 ∧ (∃ k, ks[p.1 - i0]? = some k ∧ Ci k = true) ∧ xs[p.1 - i0]? = some p.2
 | [], xs, i0, p, h => by simp [EY] at h
 | k :: ks, [], i0, p, h => by simp [EY] at h
 | k :: ks, y :: xs, i0, p, h => by
   simp only [EY] at h
   split at h
   ·rename_i hk
    simp only [Option.some.injEq] at h;subst h;exact ⟨Nat.le_refl _, ⟨k, by simp, hk⟩, by simp⟩
   ·obtain ⟨h1, h2, h3⟩ := qE h
    have : p.1 - i0 = (p.1 - (i0 + 1)) + 1 := by omega
    exact ⟨by omega, by rw [this]; simpa using h2, by rw [this]; simpa using h3⟩
theorem jv : ∀ {ks : List MK} {xs : List Operand} {i0 i : Nat} {k : MK} {y : Operand}, (ks.filter Ci).length ≤ 1 → ks[i]? = some k → Ci k = true → xs[i]? = some y → EY i0 ks xs = some (i0 + i, y)
 | [], xs, i0, i, k, y, _, h, _, _ => by simp at h
 | k0 :: ks, [], i0, i, k, y, _, _, _, h => by simp at h
 | k0 :: ks, z :: xs, i0, 0, k, y, _, h, hk, h2 => by
   simp only [List.getElem?_cons_zero, Option.some.injEq] at h h2;subst h h2;simp [EY, hk]
 | k0 :: ks, z :: xs, i0, i + 1, k, y, hl, h, hk, h2 => by
   simp only [List.getElem?_cons_succ] at h h2;have A2z : k ∈ ks.filter Ci := List.mem_filter.2 ⟨List.mem_of_getElem? h, hk⟩;have hpos : 0 < (ks.filter Ci).length := List.length_pos_of_mem A2z;have zg : ¬ Ci k0 = true := by
    intro h0;simp only [List.filter_cons, h0, if_true, List.length_cons] at hl;omega
   have := jv (i0 := i0 + 1) (xs := xs) (by simpa [List.filter_cons, zg] using hl) h hk h2
   simp only [EY, if_neg zg];rw [this]
   congr 2
   omega
theorem zy : ∀ {ks : List MK} {rs : List (DV × Meta)} {i : Nat} {r : DV × Meta}, (GX ks rs)[i]? = some r → ∃ r0, rs[i]? = some r0 ∧ r.1 = r0.1 ∧ ((∃ k, ks[i]? = some k ∧ Ci k = true ∧ r.2 = XE r0.2 k) ∨ ((∀ k, ks[i]? = some k → Ci k = false) ∧ r.2 = Px r0.2))
 | [], rs, i, r, h => by
   simp only [GX, List.getElem?_map, Option.map_eq_some_iff] at h;obtain ⟨r0, h1, rfl⟩ := h;exact ⟨r0, h1, rfl, .inr ⟨by simp, rfl⟩⟩
 | k :: ks, [], i, r, h => by simp [GX] at h
 | k :: ks, r0 :: rs, 0, r, h => by
   simp only [GX, List.getElem?_cons_zero, Option.some.injEq] at h;subst h;refine ⟨r0, rfl, rfl, ?_⟩;cases k
   ·exact .inr ⟨by simp [Ci], rfl⟩
   ·exact .inl ⟨_, rfl, rfl, rfl⟩
   ·exact .inr ⟨by simp [Ci], rfl⟩
   ·exact .inl ⟨_, rfl, rfl, rfl⟩
 | k :: ks, r0 :: rs, i + 1, r, h => by
   simp only [GX, List.getElem?_cons_succ] at h;obtain ⟨q, h1, h2, h3⟩ := zy h;exact ⟨q, by simpa using h1, h2, by simpa using h3⟩
theorem kG : ∀ {ks : List MK} {rs : List (DV × Meta)}, (GX ks rs).length = rs.length
 | [], rs => by simp [GX]
 | k :: ks, [] => by simp [GX]
 | k :: ks, r :: rs => by simp [GX, kG]
theorem A4D.back {E1 E' : Env} {h : Heap} {ks : List MK} {ds : List DV} {v : Value} {t : Nat} (R : A4D E1 h ks ds v) (p9 : A4w ks = true) (T : ∀ i, wT E1 E' (.sp 3 i 0) (.sp 0 t (if ks.length = 1 then 0 else i + 1))) (T2 : ks.length = 1 → ∀ b, wT E1 E' (.sp 3 0 (b + 1)) (.sp 0 t (b + 1))) :
 RR E' h 0 t (MO ks ds).1 (MO ks ds).2 v := by
 obtain ⟨hl, vs, hv, rfl, H⟩ := R;unfold MO
 split
 ·rename_i k
  simp only [List.length_cons, List.length_nil, Nat.zero_add] at hl hv T T2;obtain ⟨d, rfl⟩ := List.length_eq_one_iff.1 hl;obtain ⟨u, rfl⟩ := List.length_eq_one_iff.1 hv;have := H 0 k d u rfl rfl rfl;simp only [List.getD_cons_zero];cases k with
  | val => exact RV.mono (T 0).le d this
  | own => exact RR.BP (J8.to (T 0) (m := .own) (by simp) this)
  | ptr =>
    have key : ∀ m : Meta, m ≠ .own → (∀ s o, m ≠ .loc s o) → J8 E1 h .other (KT .ptr d).1 m u → J8 E' h (.sp 0 t 0) (KT .ptr d).1 m u := by
     intro m h1 h2 h3;exact J8.to (T 0) h2 (h3.tag h1)
    have hm : (KT .ptr d).2 ≠ .own ∧ ∀ s o, (KT .ptr d).2 ≠ .loc s o := by
     unfold KT;constructor
     ·simp only; split <;> simp
     ·intro s o; simp only; split <;> simp
    exact RR.BP (key _ hm.1 hm.2 this)
  | S_ n os =>
    simp only [A7C, RR, KT] at this ⊢;obtain ⟨ds, us, h1, h2, h3, h4, h5⟩ := this;refine ⟨ds, us, h1, h2, h3, h4, fun i m' d' u' e1 e2 e3 => ?_⟩
    obtain ⟨a1, a2, a3, a4⟩ := h5 i m' d' u' e1 e2 e3;exact ⟨a1, a2, a3, J8.to (T2 trivial i) (fun s o hm => by rw [hm] at a3; simp [U8] at a3) a4⟩
 ·rename_i hne
  have B04 : ks.length ≠ 1 := fun h => by obtain ⟨k, hk⟩ := List.length_eq_one_iff.1 h; exact hne k hk
  have lG : ∀ k ∈ ks, k = .val ∨ k = .own := by
   intro k hk;unfold A4w at p9;simp only [Bool.or_eq_true, beq_iff_eq, B04, false_or] at p9;have := List.all_eq_true.1 p9 k hk;cases k <;> simp_all
  have hvt : (match vs with | [u] => u | _ => Value.tuple vs.toArray) = .tuple vs.toArray := by
   split
   ·simp only [List.length_cons, List.length_nil, Nat.zero_add] at hv; exact absurd hv.symm B04
   ·rfl
  rw [hvt];simp only [RR];refine ⟨ds, vs.toArray, rfl, rfl, by simp [hl], by simp [hv], fun i m' d' u e1 e2 e3 => ?_⟩
  simp only [List.getElem?_map, Option.map_eq_some_iff] at e1;obtain ⟨k, hk, rfl⟩ := e1;have := H i k d' u hk e2 (by simpa using e3)
  have T1 := T i;rw [if_neg B04] at T1;rcases lG k (List.mem_of_getElem? hk) with rfl | rfl
  ·exact ⟨rfl, RV.mono T1.le d' this⟩
  ·exact ⟨rfl, J8.to T1 (m := .own) (by simp) this⟩
theorem DK {g : Option (Nat × Operand)} {T : Tag} (h : ∀ p s b, g = some p → p.2 = .tmp s → T ≠ .sp 0 s b) : ZW g T = T := by
 unfold ZW
 split
 ·rename_i p
  exact Nk fun s b hs => h p s b rfl hs
 ·rfl
theorem A6I {g : Option (Nat × Operand)} {h : Heap} (Rl : I9 E st a h) : I9 (E.re (ZW g)) (st.GV g) a h := by
 cases g with
 | none => simp only [St.GV]; exact (Rl.release (x := .const .nilIface) (f := ZW none) fun T _ => rfl)
 | some p => exact Rl.release fun T hT => DK fun p' s b hp hs => by simp only [Option.some.injEq] at hp; subst hp; exact hT s b hs
theorem B0w (Rl : I9 E st a w.heap) : (∀ b o, w.heap.size ≤ b → (E.re O4).O b o = .other) ∧ st.sg.length = (E.re O4).n ∧ ∀ (i : Nat) ob, st.sg[i]? = some ob → RO (E.re O4) w.heap i ob := by
 refine ⟨fun b o hb => ?_, Rl.n, fun i ob hi => ?_⟩
 ·simp only [Env.re]; rw [Rl.fresh b o hb]; rfl
 ·exact RO.to (E := E) ⟨fun b o h => by simp only [Env.re]; rw [h]; rfl, fun b o h => by simp only [Env.re]; rw [h]; rfl, rfl, rfl, rfl, rfl⟩ (fun j b o h => by simp only [Env.re]; rw [h]; rfl) (Rl.P8 i ob hi)
theorem A83 (Rl : I9 E st a w.heap) {E1 : Env} {w' : World} {sg : List D7} (P1 : Pr J6 (E.re O4) w.heap E1 w'.heap) (pz : ∀ b o, w'.heap.size ≤ b → E1.O b o = .other) (hn1 : sg.length = E1.n) (ho1 : ∀ (i : Nat) ob, sg[i]? = some ob → RO E1 w'.heap i ob) :
 ∃ E', I9 E' (st.Ha sg) a w'.heap ∧ Pr J6 E w.heap E' w'.heap := by
 let E' : Env := E.back E1 w.heap.size 0 true
 have A5u : ∀ b o, E1.O b o ≠ .other → ¬ (b < w.heap.size ∧ O4 (E.O b o) = .other) := by
  rintro b o h1 ⟨h2, h3⟩;have := P1.tags b o h2 (by simp only [Env.re]; rw [h3]; simp [J6])
  simp only [Env.re] at this;rw [h3] at this;exact h1 this
 have uo : ∀ b o T, E1.O b o = T → T ≠ .other → E'.O b o = Jm 0 true T := by
  intro b o T h1 h2
  show (if b < w.heap.size ∧ O4 (E.O b o) = .other then E.O b o else Jm 0 true (E1.O b o)) = _
  rw [if_neg (A5u b o (by rw [h1]; exact h2)), h1]
 have Pc : Pr (fun T => J6 (O4 T)) E w.heap E' w'.heap := by
  refine ⟨P1.size, fun b hb => P1.blk b hb, fun b o hb hn => ?_, P1.n, fun i hi => P1.P8 i hi, fun _ _ => rfl⟩
  show (if b < w.heap.size ∧ O4 (E.O b o) = .other then E.O b o else Jm 0 true (E1.O b o)) = _
  by_cases hc : O4 (E.O b o) = .other
  ·rw [if_pos ⟨hb, hc⟩]
  ·rw [if_neg fun h => hc h.2]
   have UL : O4 (E.O b o) = .shut := by
    by_cases hs : O4 (E.O b o) = .shut
    ·exact hs
    ·exact absurd ⟨hc, hs⟩ hn
   have h2 := P1.tags b o hb (by simp only [Env.re]; exact hn)
   simp only [Env.re] at h2;rw [h2, UL];have : E.O b o = .shut := by
    revert UL
    unfold O4
    split <;> simp_all
   rw [this]; rfl
 have I8 := Pc.shut (by simp [J6, O4]) Rl.fresh
 refine ⟨E', ⟨Rl.size, Rl.AZ, Rl.Ca, hn1, fun u v' hu => ?_, fun s' cs' DZ => ?_, fun i ob hi => ?_, fun b o hb => ?_⟩, Pc.weaken fun T hT => ⟨fun h => ?_, fun h => ?_⟩⟩
 ·exact (Rl.regs u v' hu).mono Pc I8 (fun b => by simp [J6, O4]) (fun s o _ => by simp [J6, O4])
 ·exact (Rl.boxes s' cs' DZ).mono Pc I8 (by simp [J6, O4]) (fun j => by simp [J6, O4])
 ·exact (ho1 i ob hi).to ⟨fun b o h => uo b o _ h (by simp), fun b o h => uo b o _ h (by simp), rfl, rfl, rfl, rfl⟩ fun j b o h => uo b o _ h (by simp)
 ·show (if b < w.heap.size ∧ O4 (E.O b o) = .other then E.O b o else Jm 0 true (E1.O b o)) = _
  have := P1.size;rw [if_neg (by omega), pz b o hb]; rfl
 ·rw [h] at hT; simp [J6, O4] at hT
 ·rw [h] at hT; simp [J6, O4] at hT
theorem B2k {m : Meta} (h : J2 m = true) : J2 (dm m) = true := by
 cases m <;> first | rfl | (simp [J2] at h; done) | skip
 rename_i ms;simp only [J2, dm, List.all_map] at h ⊢;refine List.all_eq_true.2 fun m hm => ?_
 have := List.all_eq_true.1 h m hm;cases m <;> simp_all [We]
theorem A9l {E : Env} {h : Heap} {k a : Nat} {d : DV} {m : Meta} {v : Value} (R : RR E h k a d m v) : RR E h k a d (Px m) v := by
 unfold Px
 split
 ·rename_i hd; exact RR.val (R.data hd)
 ·exact R.dm
theorem A3B : ∀ {os : List Nat} {ms : List Meta} {i0 i : Nat} {m : Meta}, (eD os i0 ms)[i]? = some m → ∃ m0, ms[i]? = some m0 ∧ m = if os.contains (i0 + i) then NA m0 else Px m0
 | os, [], i0, i, m, h => by simp [eD] at h
 | os, m0 :: ms, i0, 0, m, h => by
   simp only [eD, List.getElem?_cons_zero, Option.some.injEq] at h;exact ⟨m0, rfl, h.symm⟩
 | os, m0 :: ms, i0, i + 1, m, h => by
   simp only [eD, List.getElem?_cons_succ] at h;obtain ⟨m1, h1, h2⟩ := A3B h;exact ⟨m1, by simpa using h1, by rw [h2, Nat.add_assoc, Nat.add_comm 1 i]⟩
theorem ak : ∀ {os : List Nat} {ms : List Meta} {i0 : Nat}, (eD os i0 ms).length = ms.length
 | os, [], i0 => rfl
 | os, m :: ms, i0 => by simp [eD, ak]
theorem J8.NA {E : Env} {h : Heap} {tg : Tag} {d : DV} {m : Meta} {v : Value} (R : J8 E h tg d m v) : J8 E h tg d (Su.NA m) v := by
 cases m <;> first | exact R | exact R.lD
theorem J8.Px {E : Env} {h : Heap} {tg : Tag} {d : DV} {m : Meta} {v : Value} (hm : U8 m = true) (R : J8 E h tg d m v) : J8 E h tg d (Su.Px m) v ∧ U8 (Su.Px m) = true := by
 unfold Su.Px
 split
 ·rename_i hd
  refine ⟨?_, rfl⟩;have GJ : m = .val ∨ m = .full ∨ m = .own ∨ m = .E_ := by
   cases m <;> simp_all [J2, U8]
  exact g_ GJ R
 ·exact ⟨R.BC hm, (Su.BC hm).2.1⟩
theorem A3A {E : Env} {h : Heap} {k a : Nat} {d : DV} {m : Meta} {v : Value} {q : MK} (hq : Ci q = true) (R : RR E h k a d m v) : RR E h k a d (XE m q) v := by
 cases q with
 | val => cases hq
 | ptr => cases hq
 | own =>
   by_cases hm : m = .full
   ·subst hm
    exact RR.BP (J8.lD (RR.wL (by simp) (by simp) R))
   ·have : XE m .own = m := by unfold XE; split <;> simp_all
    rw [this]; exact R
 | S_ n os =>
   by_cases hm : ∃ ms, m = .AO ms
   ·obtain ⟨ms, rfl⟩ := hm
    simp only [XE, RR] at R ⊢;obtain ⟨ds, vs, h1, h2, h3, h4, h5⟩ := R;refine ⟨ds, vs, h1, h2, by rw [ak]; exact h3, by rw [ak]; exact h4, fun i m' d' u e1 e2 e3 => ?_⟩
    obtain ⟨m0, g1, rfl⟩ := A3B e1;obtain ⟨a1, a2, a3, a4⟩ := h5 i m0 d' u g1 e2 e3
    split
    ·exact ⟨a1, a2, by cases m0 <;> simp_all [Su.NA, U8], a4.NA⟩
    ·exact ⟨a1, a2, (a4.Px a3).2, (a4.Px a3).1⟩
   ·have : XE m (.S_ n os) = Px m := by
     unfold XE
     split <;> first | rfl | (rename_i h1 h2; simp_all)
    rw [this]; exact A9l R
theorem B3a {f : FuncId} {s : Z8} {ts : List TypeId} {xs : List Operand} {rs extra : List (DV × Meta)} {ev : List Value} (hO : Ce C R) (hs : C.sig f = some s)
 (R8 : (execOp a.eval o).run C.P w = .ok (.enter f (xs.map a.eval ++ ev).toArray) w) (hsr : Gx C.P st ts xs = some rs) (zf : extra.length = ev.length)
 (Fh : ∀ (i : Nat) r v, extra[i]? = some r → ev[i]? = some v → ∀ p q, RR E w.heap p q r.1 r.2 v ∧ r.2 ≠ .own ∧ r.2 ≠ .full)
 (H : og (((rs ++ extra).all fun r => B1U r.2) && decide ((s.params.filter Ci).length ≤ 1) && A4w s.results)
   (ob (R.r f (GX s.params (rs ++ extra)) st.sg) fun q =>
     az s.results q.1 fun r => k (({ st with sg := q.2 }.GV (EY 0 s.params xs)).put o.dst r.1 r.2)) = some x)
 (Rl : I9 E st a w.heap) (T : Then E w k x K) : Gp C.P o a w K := by
 obtain ⟨hg, H⟩ := F6 H;obtain ⟨q, hq, H⟩ := A9 H;have H := (zw H).1;simp only [Bool.and_eq_true, decide_eq_true_eq] at hg;obtain ⟨⟨hgo, KM⟩, B6m⟩ := hg;obtain ⟨s', DZ, B66, hR⟩ := hO.r f _ _ q hq;rw [hs] at DZ;cases DZ;generalize hgd : EY 0 s.params xs = g at H;have yM : I9 (E.re (ZW g)) (st.GV g) a w.heap := A6I Rl;have sg0 : (st.GV g).sg = st.sg := by
  cases g with
  | none => rfl
  | some p => simp only [St.GV]; cases p.2 <;> rfl
 generalize hE0 : E.re (ZW g) = E0 at yM;have E0n : E0.n = E.n := by rw [← hE0]; rfl
 obtain ⟨l1, l2⟩ := wH Rl hsr;have Z0 : (xs.map a.eval ++ ev).length = (GX s.params (rs ++ extra)).length := by rw [kG]; simp [l1, zf]
 have cs : O4 .shut = .shut := rfl;have co : O4 .other = .other := rfl;refine mO R8 ((hR (E0.re O4) w (xs.map a.eval ++ ev) (fun b o hb => ?_) ?_ (fun i ob hi => ?_) Z0 (fun i r v hr hv => ?_)).mono ?_)
 ·simp only [Env.re]; rw [yM.fresh b o hb]; rfl
 ·rw [← sg0]; exact yM.n
 ·have := yM.P8 i ob (by rw [sg0]; exact hi)
  exact RO.to (E := E0) ⟨fun b o h => by simp only [Env.re]; rw [h]; rfl, fun b o h => by simp only [Env.re]; rw [h]; rfl, rfl, rfl, rfl, rfl⟩ (fun j b o h => by simp only [Env.re]; rw [h]; rfl) this
 ·obtain ⟨r0, h1, h2, h3⟩ := zy hr
  have B4f : ∀ (p q : Nat) (m : Meta), RR E w.heap p q r0.1 m v → RR (E0.re O4) w.heap 0 i r0.1 (dm m) v := by
   intro p q m hh;have h1 : RR E w.heap 2 0 r0.1 (dm m) v := hh.dm;have h2 : RR E0 w.heap 2 0 r0.1 (dm m) v := by
    rw [← hE0];exact h1.re (DK (by simp)) (DK (by simp)) fun b => DK (by simp)
   have h3 : RR (E0.re O4) w.heap 2 0 r0.1 (dm m) v := h2.re rfl rfl fun b => rfl
   exact h3.A4P
  have B1V : ∀ (p q : Nat) (m : Meta), RR E w.heap p q r0.1 m v → RR (E0.re O4) w.heap 0 i r0.1 (Px m) v := by
   intro p q m hh;have h0 := B4f p q m hh;unfold Px
   split
   ·rename_i hd
    exact RR.val (RR.data (B2k hd) h0)
   ·exact h0
  rw [h2]
  by_cases hi : i < rs.length
  ·rw [List.getElem?_append_left hi] at h1
   have zl : (xs.map a.eval)[i]? = some v := by rwa [List.getElem?_append_left (by simpa [l1] using hi)] at hv
   obtain ⟨y, t, hy, rfl, hsy, hRy⟩ := l2 i r0 v h1 zl;rcases h3 with ⟨kk, h4, JB, h5⟩ | ⟨h4, h5⟩
   ·rw [h5]
    have hp : EY 0 s.params xs = some (0 + i, y) := jv KM h4 JB hy;rw [Nat.zero_add, hgd] at hp;subst hp;have h6 : RR E0 w.heap 4 i r0.1 r0.2 (a.eval y) := by
     rw [← hE0]
     by_cases hyt : ∃ j, y = .tmp j
     ·obtain ⟨j, rfl⟩ := hyt
      exact hRy.re (DK (by simp)) (DK (by simp)) fun b => by simp [ZW, dn, jw]
     ·exact (I9.A7y hsy (fun j hj => hyt ⟨j, hj⟩) 4 i).re (DK (by simp)) (DK (by simp)) fun b => DK (by simp)
    have h7 : RR (E0.re O4) w.heap 0 i r0.1 r0.2 (a.eval y) := h6.re rfl rfl fun b => rfl
    exact A3A JB h7
   ·rw [h5]; exact B1V _ _ _ hRy
  ·have hge : rs.length ≤ i := Nat.le_of_not_lt hi
   rw [List.getElem?_append_right hge] at h1;rw [List.getElem?_append_right (by simpa [l1] using hge)] at hv
   simp only [List.length_map, ← l1] at hv;obtain ⟨h6, h7, h8⟩ := Fh _ r0 v h1 hv 2 0;have h9 := B1V 2 0 _ h6;rcases h3 with ⟨kk, h4, JB, h5⟩ | ⟨h4, h5⟩
   ·rw [h5]
    have DY : RR E0 w.heap 4 i r0.1 r0.2 v := by
     rw [← hE0];exact (Fh _ r0 v h1 hv 4 i).1.re (DK (by simp)) (DK (by simp)) fun b => DK (by simp)
    exact A3A JB (DY.re rfl rfl fun b => rfl)
   ·rw [h5]; exact h9
 ·rintro e w' ⟨Nh, v, E1, he, P1, pz, hn1, ho1, B6n⟩
  subst he;generalize ht : o.dst.getD 0 = t
  let one : Bool := decide (s.results.length = 1)
  have aW : ∀ i : Nat, (if one = true then 0 else i + 1) = (if s.results.length = 1 then 0 else i + 1) := fun i => by simp [one]
  let E' : Env := E0.back E1 w.heap.size t one
  have A5u : ∀ b o, E1.O b o ≠ .other → ¬ (b < w.heap.size ∧ O4 (E0.O b o) = .other) := by
   rintro b o h1 ⟨h2, h3⟩;have := P1.tags b o h2 (by simp only [Env.re]; rw [h3]; simp [J6])
   simp only [Env.re] at this;rw [h3] at this;exact h1 this
  have uo : ∀ b o T, E1.O b o = T → T ≠ .other → E'.O b o = Jm t one T := by
   intro b o T h1 h2
   show (if b < w.heap.size ∧ O4 (E0.O b o) = .other then E0.O b o else Jm t one (E1.O b o)) = _
   rw [if_neg (A5u b o (by rw [h1]; exact h2)), h1]
  have Pc : Pr (fun T => J6 (O4 T)) E0 w.heap E' w'.heap := by
   refine ⟨P1.size, fun b hb => P1.blk b hb, fun b o hb hn => ?_, P1.n, fun i hi => P1.P8 i hi, fun _ _ => rfl⟩
   show (if b < w.heap.size ∧ O4 (E0.O b o) = .other then E0.O b o else Jm t one (E1.O b o)) = _
   by_cases hc : O4 (E0.O b o) = .other
   ·rw [if_pos ⟨hb, hc⟩]
   ·rw [if_neg fun h => hc h.2]
    have UL : O4 (E0.O b o) = .shut := by
     by_cases hs : O4 (E0.O b o) = .shut
     ·exact hs
     ·exact absurd ⟨hc, hs⟩ hn
    have h2 := P1.tags b o hb (by simp only [Env.re]; exact hn)
    simp only [Env.re] at h2;rw [h2, UL];have : E0.O b o = .shut := by
     revert UL
     unfold O4
     split <;> simp_all
    rw [this]; rfl
  have I8 := Pc.shut (by simp [J6, O4]) yM.fresh
  have R2 : I9 E' ((st.GV g).Ha q.2) a w'.heap := by
   refine ⟨yM.size, yM.AZ, yM.Ca, hn1, fun u v' hu => ?_, fun s' cs' DZ => ?_, fun i ob hi => ?_, fun b o hb => ?_⟩
   ·exact (yM.regs u v' hu).mono Pc I8 (fun b => by simp [J6, O4]) (fun s o _ => by simp [J6, O4])
   ·exact (yM.boxes s' cs' DZ).mono Pc I8 (by simp [J6, O4]) (fun j => by simp [J6, O4])
   ·exact (ho1 i ob hi).to ⟨fun b o h => uo b o _ h (by simp), fun b o h => uo b o _ h (by simp), rfl, rfl, rfl, rfl⟩ fun j b o h => uo b o _ h (by simp)
   ·show (if b < w.heap.size ∧ O4 (E0.O b o) = .other then E0.O b o else Jm t one (E1.O b o)) = _
    have := P1.size;rw [if_neg (by omega), pz b o hb]; rfl
  refine ⟨v, rfl, T E' _ _ w' ?_ (R2.put (dst := o.dst) (d := (MO s.results q.1).1) (m := (MO s.results q.1).2) (v := v) fun t0 zk => ?_) ?_ Nh⟩
  ·rw [← H]
   congr 1
   cases g with
   | none => rfl
   | some p => simp only [St.GV]; cases p.2 <;> rfl
  ·have htt : t = t0 := by rw [← ht, zk]; rfl
   rw [← htt];exact B6n.back B6m (fun i => ⟨fun b o h => uo b o _ h (by simp), fun b o h => by rw [uo b o _ h (by simp)]; simp only [Jm]; rw [aW], rfl, rfl, rfl, rfl⟩)
    fun h1 i => ⟨fun b o h => uo b o _ h (by simp), fun b o h => by rw [uo b o _ h (by simp)]; simp [Jm, one, h1], rfl, rfl, rfl, rfl⟩
  ·have P0 : Pr J6 E w.heap E0 w.heap := by
    rw [← hE0];exact Pr.re fun T hT => DK fun p s b _ _ he => hT (by rw [he]; simp [J6])
   refine P0.trans (Pc.weaken fun T hT => ⟨fun h => ?_, fun h => ?_⟩)
   ·rw [h] at hT; simp [J6, O4] at hT
   ·rw [h] at hT; simp [J6, O4] at hT
end
end Go.Su

/-
 THE DATA MACHINE: a writable array's elements are cleared.
-/
namespace Go.Su
section
variable {X : Type} {C : V6} {R : N7} {o : Oper} {st : St} {k : St → Option X} {x : X} {E : Env} {a : Act} {w : World} {K : Act → World → Prop}
theorem B17 {E : Env} {h : Heap} {i sz n : Nat} {ds : List DV} (B : RO E h i (.arr sz ds)) : RO E h i (.arr sz (ds.take n)) := by
 simp only [RO] at B ⊢;intro hne;have hd : ds ≠ [] := by intro e; rw [e] at hne; simp at hne
 obtain ⟨c, T, b1, b2, b3, b4, b5⟩ := B hd;have I8 : (ds.take n).length * sz ≤ ds.length * sz := Nat.mul_le_mul_right _ (by rw [List.length_take]; omega)
 refine ⟨c, T, b1, by omega, b3, fun o h1 h2 => b4 o h1 (by omega), fun j d hj => b5 j d ?_⟩
 rw [List.getElem?_take] at hj
 split at hj
 ·exact hj
 ·cases hj
theorem A4j (zs : Array Value) (n : Nat) : (Builtin.zeroCells zs n).size = n * zs.size := by simp [Builtin.zeroCells]
theorem A4k {zs : Array Value} {n : Nat} (h : ∀ v ∈ zs.toList, v.oneCell' = true) : ∀ v ∈ (Builtin.zeroCells zs n).toList, v.oneCell' = true := by
 intro v hv;simp only [Builtin.zeroCells, Array.toList_map, List.mem_map, Array.toList_range, List.mem_range] at hv;obtain ⟨j, hj, rfl⟩ := hv;have hz : 0 < zs.size := by
  rcases Nat.eq_zero_or_pos zs.size with h | h
  ·rw [h] at hj; omega
  ·exact h
 have hm : j % zs.size < zs.size := Nat.mod_lt _ hz;rw [getElem!_pos zs _ hm];exact h _ (Array.getElem_mem_toList hm)
theorem A90 {P : Program} {w w' : World} {t e : TypeId} {ty : TypeId} {p : Addr} {n cap : Nat} {inf : TypeInfo} {zv : Value} (hu : P.underlying t = some (.slice e)) (hi : P.info? e = some inf) (hz : inf.zero = some zv) (hn : 0 < n)
 (h : (storeCells p (Builtin.zeroCells zv.cells n).toList).run P w = .ok () w') : (Builtin.clear_ #[t] ty #[.slice (some p) n cap]).run P w = .ok (.tuple #[]) w' := by
 unfold Builtin.clear_;obtain ⟨m, rfl⟩ : ∃ m, n = m + 1 := ⟨n - 1, by omega⟩
 simp [run_underlying hu, zeroValue, typeInfo, hi, hz, h]
theorem A8B {P : Program} {w : World} {t e : TypeId} {ty : TypeId} {p : Option Addr} {cap : Nat} (hu : P.underlying t = some (.slice e)) : (Builtin.clear_ #[t] ty #[.slice p 0 cap]).run P w = .ok (.tuple #[]) w := by
 unfold Builtin.clear_;cases p <;> simp [run_underlying hu]
theorem A96 {c : Call} {y : Operand} {t : TypeId} (D8 : o.op = .call c) (hc : c.callee = .builtin .clear) (ha : c.args.toList = [y]) (ht : c.argTypes.toList = [t]) (H : VV C o y t st k = some x)
 (Rl : I9 E st a w.heap) (T : Then E w k x K) : Gp C.P o a w K := by
 unfold VV at H;obtain ⟨r, h1, H⟩ := A9 H;obtain ⟨q, hq, H⟩ := A9 H;obtain ⟨A, hA, H⟩ := A9 H;obtain ⟨e, he, H⟩ := A9 H;obtain ⟨z, hz, H⟩ := A9 H;obtain ⟨zs, aZ, H⟩ := A9 H;obtain ⟨hb, H9⟩ := F6 H;clear H;simp only [Bool.and_eq_true, beq_iff_eq, decide_eq_true_eq] at hb;obtain ⟨⟨⟨s1, s2⟩, s3⟩, s4⟩ := hb;obtain ⟨i, sz, off, len⟩ := q;simp only at s1 s2 s4 hA H9;have hm := A1d hq;have e1 := Rl.src h1;rw [hm] at e1;simp only [RR, J8] at e1;obtain ⟨f0, b, cap, hv, f1, f2, f3, f4, f5⟩ := e1;have hu := A1m he;obtain ⟨inf, zv, Ct, Wx, p9⟩ := QS aZ;have hA := Yn hA;rw [s1] at hA;have PX := (List.getElem?_eq_some_iff.1 hA).1;have lJ : ∀ {E' : Env} {h' : Heap} (t0 : Nat), RR E' h' 0 t0 (.H7 []) .val undef := by
  intro E' h' t0;simp only [RR, J8, RV];exact ⟨#[], rfl, by simp [O_]⟩
 have fin : ∀ {w'}, (Builtin.clear_ #[t] o.type #[a.eval y]).run C.P w = .ok (.tuple #[]) w' → (execOp a.eval o).run C.P w = .ok (.value (.tuple #[])) w' := by
  intro w' h;refine Jo D8 hc ?_;rw [wW ht, show c.args.map a.eval = #[a.eval y] from by rw [wW ha]; simp]
  simp only [builtin];exact Ck h
 rcases Nat.eq_zero_or_pos len with h0 | hp
 ·subst h0
  have R1 : I9 E { st with sg := st.sg.set i (.arr sz (A.2.take off)) } a w.heap := by
   refine ⟨Rl.size, Rl.AZ, Rl.Ca, by simpa using Rl.n, Rl.regs, Rl.boxes, fun i' ob hi => ?_, Rl.fresh⟩
   by_cases GK : i = i'
   ·subst GK
    simp only [List.getElem?_set_self PX, Option.some.injEq] at hi;subst hi;exact B17 (Rl.P8 i _ hA)
   ·simp only [List.getElem?_set_ne GK] at hi
    exact Rl.P8 i' ob hi
  exact Bc (fin (w' := w) (by rw [hv]; exact A8B hu)) (T E _ _ w H9 (R1.put fun t0 _ => lJ t0) (Pr.refl _ _ _) (P9.refl _))
 ·have B := Rl.P8 i _ hA
  simp only [RO] at B;have hne : A.2 ≠ [] := by intro h; rw [h] at s4; simp at s4; omega
  obtain ⟨c, TT, b1, b2, b3, b4, b5⟩ := B hne;have hmul : off * sz + len * sz ≤ A.2.length * sz := by rw [← Nat.add_mul]; exact Nat.mul_le_mul_right _ s4
  have G := p9 E w.heap;have Y4 : zv.cells.size = sz := by have := G.1; simp at this; omega
  have aW : ∀ v ∈ zv.cells.toList, v.oneCell' = true := by
   intro v hv;obtain ⟨j, hj, uw⟩ := List.mem_iff_getElem.1 hv;have hj2 : j < zs.length := by rw [G.1]; exact hj
   exact (G.2 j _ v (List.getElem?_eq_getElem hj2) (by rw [List.getElem?_eq_getElem hj, uw])).1.2.1
  have Z0 : (Builtin.zeroCells zv.cells len).toList.length = len * sz := by rw [Array.length_toList, A4j, Y4]
  obtain ⟨w', hw, S⟩ := KU (P := C.P) (E.base i + off * sz) (Builtin.zeroCells zv.cells len).toList c 0 w b1 (by omega) (A4k aW) (fun o _ _ => by simp)
  simp only [Nat.add_zero] at S;have P1 : Pr (fun t => t = .obj i) E w.heap E w'.heap := S.Pr b1 fun j h1 h2 => b4 j (by omega) (by omega)
  have hs := P1.shut (by simp) Rl.fresh
  have R1 : I9 E { st with sg := st.sg.set i (.arr sz (A.2.take off)) } a w'.heap := by
   refine ⟨Rl.size, Rl.AZ, Rl.Ca, by simpa using Rl.n, fun t v hv => (Rl.regs t v hv).mono P1 hs (by simp) (by simp), fun s' cs' DZ => (Rl.boxes s' cs' DZ).mono P1 hs (by simp) (by simp), fun i' ob hi => ?_, fun b o' Ry => Rl.fresh b o' (by rw [← S.size]; exact Ry)⟩
   by_cases GK : i = i'
   ·subst GK
    simp only [List.getElem?_set_self PX, Option.some.injEq] at hi;subst hi;simp only [RO];intro _;obtain ⟨c', e1', e2', e3'⟩ := S.ex;have I8 : (A.2.take off).length * sz ≤ off * sz := Nat.mul_le_mul_right _ (by rw [List.length_take]; omega)
    refine ⟨c', TT, e1', by rw [e2']; omega, b3, fun o h1 h2 => b4 o h1 (by omega), fun j d hj => ?_⟩
    rw [List.getElem?_take] at hj
    split at hj
    ·rename_i hjo
     obtain ⟨us, u1, u2, u3⟩ := b5 j d hj;refine ⟨us, u1, fun y q hq => ?_, u3.mono hs⟩
     have hy : y < sz := by have := (List.getElem?_eq_some_iff.1 hq).1; omega
     have : j * sz + sz ≤ off * sz := by rw [← Nat.succ_mul]; exact Nat.mul_le_mul_right _ hjo
     rw [e3', if_neg (by omega), u2 y q hq]
    ·cases hj
   ·simp only [List.getElem?_set_ne GK] at hi
    exact (Rl.P8 i' ob hi).mono P1 hs (EW Rl hi) (by simp; exact fun h => GK h.symm) (by simp)
  refine Bc (fin (w' := w') ?_) (T E _ _ w' H9 (R1.put fun t0 _ => lJ t0) (P1.weaken (by rintro T rfl; simp [J6])) S.out)
  rw [hv, f1 hp];exact A90 hu Ct Wx hp hw
end
end Go.Su

/-
 THE DATA MACHINE, part 18: one operation, whichever it is.
-/
namespace Go.Su
section
variable {X : Type} {C : V6} {R : N7} {o : Oper} {st : St} {k : St → Option X} {x : X} {E : Env} {a : Act} {w : World} {K : Act → World → Prop} {Q : Exit → Act → World → Prop}
open Classical in
noncomputable def Env.B4e (E : Env) (n b off m tp : Nat) : Env :=
 { E with obj := fun i => if i = E.n then b else E.obj i, base := fun i => if i = E.n then off else E.base i, top := fun i => if i = E.n then tp else E.top i, n := E.n + 1,
          O := fun b' o => if b' < n then E.O b' o else if b' = b ∧ off ≤ o ∧ o < off + m then .obj E.n else .other }
theorem A97 {f : FuncId} {v : Value} {r : DV × Meta} {sz : Nat} {ds : List DV} (hO : Ce C R) (hc : C.clone f = true) (R8 : (execOp a.eval o).run C.P w = .ok (.enter f #[v]) w)
 (hd : J2 r.2 = true) (B6p : sz = C.nH f) (hl0 : ds.length ≤ lim) (hr : r.1 = .list sz ds) {p q : Nat} (hv : RR E w.heap p q r.1 r.2 v)
 (H : k ({ st with sg := st.sg ++ [D7.arr sz ds] }.put o.dst .undef (.arr st.sg.length sz 0 ds.length)) = some x) (Rl : I9 E st a w.heap) (T : Then E w k x K) : Gp C.P o a w K := by
 have hS : ∀ b o, w.heap.size ≤ b → ¬ E.S b o := fun b o hb hs => by have h9 := Rl.fresh b o hb; rw [show E.O b o = Tag.shut from hs] at h9; cases h9
 have Uq := (hO.c f hc).2;rw [← B6p] at Uq;refine mO R8 ((Uq E.S w v ds hl0 hS (by rw [← hr]; exact hv.data hd)).mono ?_)
 rintro e w' ⟨a0, b, off, cap, he, ha0, A2y, A78, A8e, Y4, Nh, hblk, A8c⟩;subst he
 let E' := E.B4e w.heap.size b off (ds.length * sz) (off + cap * sz)
 have Pc : Pr (fun _ => False) E w.heap E' w'.heap := by
  refine ⟨Y4, fun b' hb => by rw [hblk b' hb]; exact V4.refl _ _, fun b' o hb _ => ?_, Nat.le_succ _, fun i hi => ?_, fun _ _ => rfl⟩
  ·show (if b' < w.heap.size then E.O b' o else _) = _
   rw [if_pos hb]
  ·have : i ≠ E.n := by omega
   exact ⟨if_neg this, if_neg this, if_neg this⟩
 have I8 := Pc.shut (by simp) Rl.fresh
 have n0 : st.sg.length = E.n := Rl.n;have R2 : I9 E' { st with sg := st.sg ++ [D7.arr sz ds] } a w'.heap := by
  refine ⟨Rl.size, Rl.AZ, Rl.Ca, by simp [n0]; rfl, fun t v hv => (Rl.regs t v hv).mono Pc I8 (by simp) (by simp), fun s cs hs => (Rl.boxes s cs hs).mono Pc I8 (by simp) (by simp), fun i ob hi => ?_, fun b' o hb => ?_⟩
  ·by_cases DD : i < st.sg.length
   ·rw [List.getElem?_append_left DD] at hi
    exact (Rl.P8 i ob hi).mono Pc I8 (by rw [← n0]; exact DD) (by simp) (by simp)
   ·rw [List.getElem?_append_right (Nat.le_of_not_lt DD)] at hi
    have hi0 : i - st.sg.length = 0 := by
     have := (List.getElem?_eq_some_iff.1 hi).1;simpa using this
    have hie : i = E.n := by omega
    rw [hi0] at hi;simp only [List.getElem?_cons_zero, Option.some.injEq] at hi;subst hi hie;simp only [RO];intro hne;obtain ⟨hb, c, T0, h1, h2, h3, h4⟩ := A8c hne;have e1 : E'.obj E.n = b := if_pos rfl;have e2 : E'.base E.n = off := if_pos rfl;rw [e1, e2];refine ⟨c, T0, h1, h2, h3, fun o ho1 ho2 => ?_, fun j d hj => ?_⟩
    ·show (if b < w.heap.size then E.O b o else if b = b ∧ off ≤ o ∧ o < off + ds.length * sz then Tag.obj E.n else .other) = _
     rw [if_neg (by omega), if_pos ⟨rfl, ho1, ho2⟩]
    ·obtain ⟨vs, v1, v2, v3⟩ := h4 j d hj
     refine ⟨vs, v1, v2, v3.mono ⟨fun b' o hs => ?_, fun _ _ _ _ hv => hv⟩⟩
     exact I8.s b' o hs
  ·show (if b' < w.heap.size then E.O b' o else if b' = b ∧ off ≤ o ∧ o < off + ds.length * sz then Tag.obj E.n else .other) = _
   rw [if_neg (by omega)]
   split
   ·rename_i h
    by_cases hne : ds = []
    ·subst hne; simp at h; omega
    ·obtain ⟨-, c, T0, h1, -⟩ := A8c hne
     have := (Array.getElem?_eq_some_iff.1 h1).1;omega
   ·rfl
 refine ⟨_, rfl, T E' _ _ w' H (R2.put fun t _ => ?_) (Pc.weaken (by simp)) Nh⟩
 simp only [RR, J8];refine ⟨by rw [n0]; exact Nat.lt_succ_self _, _, _, rfl, fun hpos => ?_, A2y, A78, A8e, fun _ => by rw [n0, Nat.zero_add]; exact Nat.le_of_eq ((congrArg (· + cap * sz) (if_pos rfl)).trans (if_pos rfl).symm)⟩
 rw [n0, ha0 (fun h => by rw [h] at hpos; exact Nat.lt_irrefl 0 hpos)]
 have e1 : E'.obj E.n = b := if_pos rfl;have e2 : E'.base E.n = off := if_pos rfl;rw [e1, e2];simp
theorem A8W {d : DV} {cs : List DV} (h : B0p d = some cs) : d = .agg cs := by
 cases d <;> simp only [B0p, reduceCtorEq, Option.some.injEq] at h;rw [h]
theorem B29 {f g : FuncId} {v : Value} {r : DV × Meta} {cs : List DV} (hO : Ce C R) (hc : C.dh f = some g) (R8 : (execOp a.eval o).run C.P w = .ok (.enter f #[v]) w)
 (hd : J2 r.2 = true) (hr : r.1 = .agg cs) (hl : cs.length = C.nH f) {p q : Nat} (hv : RR E w.heap p q r.1 r.2 v)
 (H : k ({ st with sg := st.sg ++ [D7.box (cs.map fun d => (d, .val))] }.put o.dst .undef (.fn g [(st.sg.length, 0)])) = some x) (Rl : I9 E st a w.heap) (T : Then E w k x K) : Gp C.P o a w K := by
 have h1 := hv.data hd;rw [hr] at h1;simp only [RV] at h1;obtain ⟨vs, rfl, h2⟩ := h1;obtain ⟨l1, h3⟩ := D_.1 h2;have l2 : vs.size = C.nH f := by rw [← hl, l1]; simp
 refine mO R8 (((hO.m f g hc).2 w vs l2).mono ?_);rintro e w' ⟨rfl, T0, rfl⟩;have cok : FE E w.heap (cs.map fun d => (d, Meta.val)) vs.toList := by
  refine ⟨by simp [l1], fun j r' u hj hu => ?_⟩
  simp only [List.getElem?_map, Option.map_eq_some_iff] at hj;obtain ⟨d, GJ, rfl⟩ := hj;obtain ⟨a1, a2⟩ := h3 j d u GJ hu;exact ⟨⟨a1, Gf a1 a2, rfl, Qy a1 a2⟩, by simp⟩
 obtain ⟨R1, P1⟩ := Rl.newObj (T0 := T0) cok;refine ⟨_, rfl, T _ _ _ (w.alloc (.cells vs T0)) H (R1.put fun t0 _ => ?_) (P1.weaken (by simp)) ⟨rfl, rfl, rfl⟩⟩
 have hn := Rl.n;simp only [RR, J8, Env.newObj];refine ⟨?_, fun c hc => ?_⟩
 ·simp [hn]
 ·simp only [List.mem_singleton] at hc
  subst hc;simp [hn]
theorem A95 {f : FuncId} {ts : List TypeId} {xs : List Operand} {rs extra : List (DV × Meta)} {ev : List Value} (hO : Ce C R)
 (R8 : isGo C.P f = true → (execOp a.eval o).run C.P w = .ok (.enter f (xs.map a.eval ++ ev).toArray) w) (hsr : Gx C.P st ts xs = some rs) (zf : extra.length = ev.length)
 (Fh : ∀ (i : Nat) r v, extra[i]? = some r → ev[i]? = some v → ∀ p q, RR E w.heap p q r.1 r.2 v ∧ r.2 ≠ .own ∧ r.2 ≠ .full)
 (H : IQ C R o f xs (rs ++ extra) st k = some x) (Rl : I9 E st a w.heap) (T : Then E w k x K) : Gp C.P o a w K := by
 obtain ⟨l1, l2⟩ := wH Rl hsr;have all : ∀ (i : Nat) r v, (rs ++ extra)[i]? = some r → (xs.map a.eval ++ ev)[i]? = some v → ∃ p q, RR E w.heap p q r.1 r.2 v := by
  intro i r v hr hv
  by_cases hi : i < rs.length
  ·rw [List.getElem?_append_left hi] at hr
   rw [List.getElem?_append_left (by simpa [l1] using hi)] at hv
   obtain ⟨y, t, hy, rfl, hsy, hRy⟩ := l2 i r v hr hv;exact ⟨_, _, hRy⟩
  ·have hge : rs.length ≤ i := Nat.le_of_not_lt hi
   rw [List.getElem?_append_right hge] at hr;rw [List.getElem?_append_right (by simpa [l1] using hge)] at hv
   simp only [List.length_map, ← l1] at hv;exact ⟨0, 0, (Fh _ r v hr hv 0 0).1⟩
 have Z0 : (rs ++ extra).length = (xs.map a.eval ++ ev).length := by simp [l1, zf]
 unfold IQ at H
 split at H
 ·rename_i hc
  split at H
  ·rename_i r hrs
   ·obtain ⟨p, hp, H⟩ := A9 H
    obtain ⟨sz, ds⟩ := p;have Km : r.1 = .list sz ds := by
     cases hr : r.1 <;> rw [hr] at hp <;> simp only [A7U, reduceCtorEq, Option.some.injEq, Prod.mk.injEq] at hp;obtain ⟨rfl, rfl⟩ := hp;rfl
    obtain ⟨hd, H9⟩ := F6 H;simp only [Bool.and_eq_true, beq_iff_eq, decide_eq_true_eq] at hd;obtain ⟨⟨hd, hz⟩, hl0⟩ := hd;simp only [← hz] at H9;rw [hrs] at Z0;obtain ⟨v, hv⟩ := List.length_eq_one_iff.1 (Z0.symm : (xs.map a.eval ++ ev).length = 1);obtain ⟨p, q, hR⟩ := all 0 r v (by rw [hrs]; rfl) (by rw [hv]; rfl)
    have := R8 (hO.c f hc).1;rw [hv] at this;exact A97 hO hc this hd hz hl0 Km hR H9 Rl @T
  ·simp at H
 ·split at H
  ·rename_i g hg
   split at H
   ·rename_i r hrs
    obtain ⟨cs, GI, H⟩ := A9 H;obtain ⟨hd, H9⟩ := F6 H;simp only [Bool.and_eq_true, beq_iff_eq] at hd;rw [hrs] at Z0;obtain ⟨v, hv⟩ := List.length_eq_one_iff.1 (Z0.symm : (xs.map a.eval ++ ev).length = 1);obtain ⟨p, q, hR⟩ := all 0 r v (by rw [hrs]; rfl) (by rw [hv]; rfl)
    have := R8 (hO.m f g hg).1;rw [hv] at this;exact B29 hO hg this hd.1 (A8W GI) hd.2 hR H9 Rl @T
   ·simp at H
  split at H
  ·have hp : isGo C.P f = true := by
    obtain ⟨_, H1⟩ := F6 H;obtain ⟨d, hd, _⟩ := A9 H1;exact (hO.p f _ d hd).1
   exact B1A hO (R8 hp) Z0 all H Rl @T
  ·rename_i s hs
   have hp : isGo C.P f = true := by
    obtain ⟨_, H1⟩ := F6 H;obtain ⟨d, hd, _⟩ := A9 H1;obtain ⟨_, _, h, _⟩ := hO.r f _ _ d hd;exact h
   exact B3a hO hs (R8 hp) hsr zf Fh H Rl @T
theorem B1v {fl : Flags} {c : Call} (hO : Ce C R) (D8 : o.op = .call c) (H : EN C R fl o c st k = some x) (Rl : I9 E st a w.heap) (T : Then E w k x K) : Gp C.P o a w K := by
 unfold EN at H
 split at H
 ·rename_i b hb
  split at H
  ·rename_i h1 h2; exact B26 D8 hb h1 h2 H Rl @T
  ·rename_i h1 h2
   cases dW : J9 fl.opn o.dst
   ·exact A8E D8 hb h1 h2 dW H Rl @T
   ·exact A2O D8 hb h1 h2 dW H Rl @T
  ·rename_i h1 h2; exact A96 D8 hb h1 h2 H Rl @T
  ·rename_i h1 h2; exact B27 D8 hb h1 H Rl @T
  ·rename_i h1 h2; exact B28 D8 hb h1 H Rl @T
  ·simp at H
 ·rename_i fv hfv
  obtain ⟨r, h1, H1⟩ := A9 H;obtain ⟨rs, h2, H2⟩ := A9 H1
  split at H2
  ·rename_i f caps hr
   have hfn := Rl.src h1;rw [hr] at hfn;simp only [RR, J8] at hfn;refine A95 (ts := c.argTypes.toList) (ev := caps.map fun c => Value.pointer (some ⟨E.obj c.1, c.2, none⟩)) hO (fun hg => ?_) h2 (by simp) (fun i r' v Bo hv p q => ?_) H2 Rl @T
   ·simp only [execOp, D8, resolve, hfv, hfn.1, Deferred.ofValue, Sem.run_bind, Sem.run_pure, Result.andThen_ok, invoke]
    rw [bB hg]
    congr 2
    apply Array.ext';simp
   ·simp only [List.getElem?_map, Option.map_eq_some_iff] at Bo hv
    obtain ⟨m, hm, rfl⟩ := Bo;obtain ⟨m', Wv, rfl⟩ := hv;rw [hm] at Wv;cases Wv;refine ⟨?_, by simp, by simp⟩
    simp only [RR, J8];exact ⟨hfn.2 m (List.mem_of_getElem? hm), trivial⟩
  ·simp at H2
 ·simp at H
theorem B4K {fl : Flags} (hO : Ce C R) (H : I1 C R fl o st k = some x) (Rl : I9 E st a w.heap) (T : Then E w k x K) : Gp C.P o a w K := by
 unfold I1 at H
 split at H
 ·rename_i y D8; exact A5T (by simp [execOp, D8]) H Rl @T
 ·rename_i y D8; exact A5T (by simp [execOp, D8]) H Rl @T
 ·rename_i D8; exact B1z D8 H Rl @T
 ·rename_i D8; exact A93 D8 H Rl @T
 ·rename_i D8; exact B23 D8 H Rl @T
 ·rename_i D8; exact A94 D8 H Rl @T
 ·rename_i D8; exact A2P D8 H Rl @T
 ·rename_i D8; exact B1y D8 H Rl @T
 ·rename_i D8; exact B0b D8 H Rl @T
 ·rename_i D8; exact A5U D8 H Rl @T
 ·rename_i D8; exact B22 D8 H Rl @T
 ·rename_i D8; exact B4L D8 H Rl @T
 ·rename_i D8; exact B1w D8 H Rl @T
 ·rename_i D8; exact A30 D8 H Rl @T
 ·rename_i D8; exact A98 D8 H Rl @T
 ·rename_i D8; exact A31 D8 H Rl @T
 ·rename_i D8; exact A99 D8 H Rl @T
 ·rename_i D8; exact B0a D8 H Rl @T
 ·rename_i D8; exact A5S D8 H Rl @T
 ·rename_i D8; obtain ⟨q, _, H9⟩ := A9 H; exact A6R D8 H9 Rl @T
 ·rename_i D8; exact A8F D8 H Rl @T
 ·rename_i D8; exact A32 D8 H Rl @T
 ·rename_i D8; exact A6Q D8 H Rl @T
 ·rename_i D8; exact B1v hO D8 H Rl @T
 ·simp at H
end
end Go.Su

/-
 THE DATA MACHINE, part 19: an operation sees what its footprint says, and writes what it says.
-/
namespace Go.Su
theorem K3 {α β : Type} (a : α) (g : α → Option β) : ob (some a) g = g a := rfl
theorem U7 {β : Type} (y : Option β) : og true y = y := rfl
structure FD (f : Fp) (st st' : St) : Prop where
 lt : st'.tm.length = st.tm.length
 lm : st'.mt.length = st.mt.length
 lb : st'.bx.length = st.bx.length
 t : ∀ i ∈ f.rt, st'.tm[i]? = st.tm[i]? ∧ st'.mt[i]? = st.mt[i]?
 b : ∀ i ∈ f.rb, st'.bx[i]? = st.bx[i]?
 s : f.rs = true → st'.sg = st.sg
 n : ∀ t, f.nb = some t → JS t st'.mt = true
structure Two (f : Fp) (st st' s s' : St) : Prop where
 l : st'.tm.length = st.tm.length ∧ st'.mt.length = st.mt.length ∧ st'.bx.length = st.bx.length
 ls : s.tm.length = st.tm.length ∧ s.mt.length = st.mt.length ∧ s.bx.length = st.bx.length
 ls' : s'.tm.length = st.tm.length ∧ s'.mt.length = st.mt.length ∧ s'.bx.length = st.bx.length
 t : ∀ i : Nat, (i ∈ f.wt ∧ s'.tm[i]? = s.tm[i]? ∧ s'.mt[i]? = s.mt[i]?) ∨ ((s'.tm[i]? = st'.tm[i]? ∧ s'.mt[i]? = st'.mt[i]?) ∧ s.tm[i]? = st.tm[i]? ∧ s.mt[i]? = st.mt[i]?)
 b : ∀ i : Nat, (i ∈ f.wb ∧ s'.bx[i]? = s.bx[i]?) ∨ (s'.bx[i]? = st'.bx[i]? ∧ s.bx[i]? = st.bx[i]?)
 s : (f.ws = true ∧ s'.sg = s.sg) ∨ (s'.sg = st'.sg ∧ s.sg = st.sg)
theorem Two.refl {f : Fp} {st st' : St} (A : FD f st st') : Two f st st' st st' :=
 ⟨⟨A.lt, A.lm, A.lb⟩, ⟨rfl, rfl, rfl⟩, ⟨A.lt, A.lm, A.lb⟩, fun _ => .inr ⟨⟨rfl, rfl⟩, rfl, rfl⟩, fun _ => .inr ⟨rfl, rfl⟩, .inr ⟨rfl, rfl⟩⟩
theorem Two.put {f : Fp} {st st' s s' : St} (A : Two f st st' s s') {dst : Option Nat} (hd : ∀ t ∈ dst.toList, t ∈ f.wt) (d : DV) (m : Meta) : Two f st st' (s.put dst d m) (s'.put dst d m) := by
 cases dst with
 | none => exact A
 | some t =>
   have ht : t ∈ f.wt := hd t (by simp)
   obtain ⟨l, ls, ls', a1, a2, a3⟩ := A;refine ⟨l, by simpa [St.put] using ls, by simpa [St.put] using ls', fun i => ?_, a2, a3⟩
   by_cases hi : t = i
   ·subst hi
    refine .inl ⟨ht, ?_, ?_⟩
    ·simp only [St.put, List.getElem?_set_self']
     rcases Nat.lt_or_ge t st.tm.length with h | h
     ·rw [List.getElem?_eq_getElem (by omega), List.getElem?_eq_getElem (by omega)]; rfl
     ·rw [List.getElem?_eq_none (by omega), List.getElem?_eq_none (by omega)]
    ·simp only [St.put, List.getElem?_set_self']
     rcases Nat.lt_or_ge t st.mt.length with h | h
     ·rw [List.getElem?_eq_getElem (by omega), List.getElem?_eq_getElem (by omega)]; rfl
     ·rw [List.getElem?_eq_none (by omega), List.getElem?_eq_none (by omega)]
   ·simp only [St.put, List.getElem?_set_ne hi]
    exact a1 i
theorem Two.B14 {f : Fp} {st st' s s' : St} (A : Two f st st' s s') {t : Nat} (ht : t ∈ f.wt) (he : s'.tm[t]? = s.tm[t]?) (m : Meta) : Two f st st' { s with mt := s.mt.set t m } { s' with mt := s'.mt.set t m } := by
 obtain ⟨l, ls, ls', a1, a2, a3⟩ := A;refine ⟨l, by simpa using ls, by simpa using ls', fun i => ?_, a2, a3⟩
 by_cases hi : t = i
 ·subst hi
  refine .inl ⟨ht, he, ?_⟩;simp only [List.getElem?_set_self'];rcases Nat.lt_or_ge t st.mt.length with h | h
  ·rw [List.getElem?_eq_getElem (by omega), List.getElem?_eq_getElem (by omega)]; rfl
  ·rw [List.getElem?_eq_none (by omega), List.getElem?_eq_none (by omega)]
 ·simp only [List.getElem?_set_ne hi]
  exact a1 i
theorem KJ {α : Type} {l l' : List α} {i : Nat} (h : l'[i]? = l[i]?) (d : α) : l'.getD i d = l.getD i d := by
 simp only [List.getD_eq_getElem?_getD, h]
theorem Two.release {f : Fp} {st st' s s' : St} (A : Two f st st' s s') {x : Operand} (hx : ∀ t ∈ J7 x, t ∈ f.wt) (he : ∀ t ∈ J7 x, s'.tm[t]? = s.tm[t]? ∧ s'.mt[t]? = s.mt[t]?) : Two f st st' (s.release x) (s'.release x) := by
 cases x with
 | tmp t =>
   have := A.B14 (hx t (by simp [J7])) (he t (by simp [J7])).1 (dm (s.mt.getD t .val))
   simp only [St.release];rw [KJ (he t (by simp [J7])).2]
   exact this
 | _ => exact A
theorem lq {mt : List Meta} {x : Operand} {u : Nat} (h : u ∈ DX mt x) : u ∈ J7 x := by
 cases x <;> simp only [DX] at h
 ·split at h
  ·cases h
  ·exact h
 all_goals cases h
theorem j_ {mt mt' : List Meta} {x : Operand} (h : ∀ u ∈ J7 x, mt'[u]? = mt[u]?) : DX mt' x = DX mt x := by
 cases x with
 | tmp t =>
   simp only [DX];rw [KJ (h t (by simp [J7]))]
 | _ => rfl
theorem lv {mt : List Meta} {t i sz a n : Nat} (h : mt.getD t .val = .arr i sz a n) : mt.set t (dm (mt.getD t .val)) = mt := by
 refine List.ext_getElem? fun j => ?_
 by_cases hj : t = j
 ·subst hj
  rw [List.getD_eq_getElem?_getD] at h;cases hm : mt[t]? with
  | none => rw [hm] at h; simp at h
  | some m =>
    rw [hm] at h;simp only [Option.getD_some] at h;have hl : t < mt.length := by
     rcases Nat.lt_or_ge t mt.length with g | g
     ·exact g
     ·rw [List.getElem?_eq_none g] at hm; cases hm
    rw [List.getElem?_set_self hl, List.getD_eq_getElem?_getD, hm, Option.getD_some, h];rfl
 ·rw [List.getElem?_set_ne hj]
theorem B1o {mt : List Meta} {t : Nat} : DX mt (.tmp t) = [t] ∨ mt.set t (dm (mt.getD t .val)) = mt := by
 cases h : mt.getD t .val
 case arr i sz a n => exact .inr (by have := lv h; rw [h] at this; exact this)
 all_goals (refine .inl ?_; simp only [DX, h])
theorem Two.A0A {f : Fp} {st st' s s' : St} (A : Two f st st' s s') {x : Operand} (hx : ∀ t ∈ DX s.mt x, t ∈ f.wt) (he : ∀ t ∈ J7 x, s'.tm[t]? = s.tm[t]? ∧ s'.mt[t]? = s.mt[t]?) : Two f st st' (s.release x) (s'.release x) := by
 cases x with
 | tmp t =>
   by_cases h : ∃ i sz a n, s.mt.getD t .val = .arr i sz a n
   ·obtain ⟨i, sz, a, n, h⟩ := h
    have h' : s'.mt.getD t .val = .arr i sz a n := by rw [KJ (he t (by simp [J7])).2]; exact h
    have e1 : s.release (.tmp t) = s := by simp only [St.release, lv h]
    have e2 : s'.release (.tmp t) = s' := by simp only [St.release, lv h']
    rw [e1, e2];exact A
   ·refine A.release (fun u hu => hx u ?_) he
    simp only [DX]
    split
    ·rename_i hm; exact absurd ⟨_, _, _, _, hm⟩ h
    ·exact hu
 | _ => exact A
theorem Two.xH {f : Fp} {st st' s s' : St} (A : Two f st st' s s') {t : Nat} (ht : t ∈ f.wb) (c : Option (List (DV × Meta))) : Two f st st' { s with bx := s.bx.set t c } { s' with bx := s'.bx.set t c } := by
 obtain ⟨l, ls, ls', a1, a2, a3⟩ := A;refine ⟨l, by simpa using ls, by simpa using ls', a1, fun i => ?_, a3⟩
 by_cases hi : t = i
 ·subst hi
  refine .inl ⟨ht, ?_⟩;simp only [List.getElem?_set_self'];rcases Nat.lt_or_ge t st.bx.length with h | h
  ·rw [List.getElem?_eq_getElem (by omega), List.getElem?_eq_getElem (by omega)]; rfl
  ·rw [List.getElem?_eq_none (by omega), List.getElem?_eq_none (by omega)]
 ·simp only [List.getElem?_set_ne hi]
  exact a2 i
theorem Two.Ha {f : Fp} {st st' s s' : St} (A : Two f st st' s s') (hs : f.ws = true) (g : List D7) : Two f st st' { s with sg := g } { s' with sg := g } :=
 ⟨A.l, A.ls, A.ls', A.t, A.b, .inl ⟨hs, rfl⟩⟩
def J5 (a b : List Nat) : Prop := ∀ t ∈ a, t ∈ b
theorem FD.src {f : Fp} {st st' : St} (A : FD f st st') (P : Program) (t : TypeId) {x : Operand} (h : J5 (J7 x) f.rt) : src P t st' x = src P t st x := by
 cases x with
 | tmp i =>
   obtain ⟨h1, h2⟩ := A.t i (h i (by simp [J7]))
   simp only [Su.src, St.get, KJ h1, KJ h2]
 | _ => rfl
theorem FD.Gx {f : Fp} {st st' : St} (A : FD f st st') (P : Program) : ∀ {ts : List TypeId} {xs : List Operand}, J5 (tmpsOf xs) f.rt → Gx P st' ts xs = Gx P st ts xs
 | t :: ts, x :: xs, h => by
   simp only [Su.Gx];rw [A.src P t (fun i hi => h i (by simp [tmpsOf, hi])), FD.Gx A P fun i hi => h i (by simp only [tmpsOf, List.flatMap_cons, List.mem_append]; exact .inr hi)]
 | [], x :: xs, h => by
   simp only [Su.Gx];rw [A.src P 0 (fun i hi => h i (by simp [tmpsOf, hi])), FD.Gx A P fun i hi => h i (by simp only [tmpsOf, List.flatMap_cons, List.mem_append]; exact .inr hi)]
 | [], [], _ => rfl
 | _ :: _, [], _ => rfl
theorem FD.opt {f : Fp} {st st' : St} (A : FD f st st') (P : Program) {x : Option Operand} (h : J5 (tmpsOf x.toList) f.rt) : XD P st' x = XD P st x := by
 cases x with
 | none => rfl
 | some x =>
   simp only [XD];rw [A.src P 0 fun i hi => h i (by simp [tmpsOf, hi])]
theorem FD.bx {f : Fp} {st st' : St} (A : FD f st st') {i : Nat} (h : i ∈ f.rb) : st'.bx.getD i none = st.bx.getD i none := KJ (A.b i h) none
theorem N_ {x y : Operand} {r : List Nat} (h : J5 (tmpsOf [x, y]) r) : J5 (J7 x) r ∧ J5 (J7 y) r :=
 ⟨fun i hi => h i (by simp [tmpsOf, hi]), fun i hi => h i (by simp [tmpsOf, hi])⟩
section
variable {X : Type} {C : V6} {R : N7} {fl : Flags} {o : Oper} {st : St} {k : St → Option X} {x : X} {f : Fp}
def Fr (C : V6) (R : N7) (fl : Flags) (o : Oper) (st : St) (k : St → Option X) (x : X) (f : Fp) : Prop :=
 ∃ s, k s = some x ∧ (∀ t, f.nb = some t → JS t st.mt = true) ∧ ∀ st', FD f st st' → ∃ s', Two f st st' s s' ∧ ∀ (Y : Type) (k' : St → Option Y), I1 C R fl o st' k' = k' s'
theorem M3 {d : DV} {m : Meta} (hk : k (st.put o.dst d m) = some x) (hw : J5 o.dst.toList f.wt) (hn : f.nb = none)
 (h : ∀ st', FD f st st' → ∀ (Y : Type) (k' : St → Option Y), I1 C R fl o st' k' = k' (st'.put o.dst d m)) : Fr C R fl o st k x f :=
 ⟨_, hk, by rw [hn]; simp, fun st' A => ⟨_, (Two.refl A).put hw d m, fun Y k' => h st' A Y k'⟩⟩
theorem A7i {y : Operand} (D8 : o.op = .move y ∨ o.op = .assign y) (H : I1 C R fl o st k = some x) (hr : J5 (J7 y) f.rt) (hw : J5 o.dst.toList f.wt) (hs : J9 fl.L8 o.dst = true → J5 (J7 y) f.wt) (hn : f.nb = none) :
 Fr C R fl o st k x f := by
 have Fh : ∀ (Y : Type) (st : St) (k : St → Option Y), I1 C R fl o st k = ob (src C.P o.type st y) fun r => if J9 fl.L8 o.dst then k ((st.release y).put o.dst r.1 r.2) else k (st.put o.dst r.1 (dm r.2)) := by
  intro Y st k;rcases D8 with h | h <;> simp only [I1, h]
 rw [Fh] at H;obtain ⟨r, h1, H⟩ := A9 H
 by_cases Q4 : J9 fl.L8 o.dst = true
 ·rw [if_pos Q4] at H
  refine ⟨_, H, by rw [hn]; simp, fun st' A => ⟨_, ((Two.refl A).release (hs Q4) fun t ht => A.t t (hr t ht)).put hw r.1 r.2, fun Y k' => ?_⟩⟩
  rw [Fh, A.src _ _ hr, h1];simp only [ob, if_pos Q4]
 ·rw [if_neg Q4] at H
  refine M3 H hw hn fun st' A Y k' => ?_
  rw [Fh, A.src _ _ hr, h1];simp only [ob, if_neg Q4]
theorem B2r {c y z : Operand} (D8 : o.op = .pick c y z) (H : I1 C R fl o st k = some x) (hr : J5 (tmpsOf [c, y, z]) f.rt) (hw : J5 o.dst.toList f.wt) (hn : f.nb = none) : Fr C R fl o st k x f := by
 simp only [I1, D8] at H;obtain ⟨rc, h1, H⟩ := A9 H;obtain ⟨ra, h2, H⟩ := A9 H;obtain ⟨rb, h3, H⟩ := A9 H;obtain ⟨h4, H⟩ := F6 H;obtain ⟨d, h5, H⟩ := A9 H;have r1 : J5 (J7 c) f.rt := fun i hi => hr i (by simp [tmpsOf, hi])
 have r2 : J5 (J7 y) f.rt := fun i hi => hr i (by simp [tmpsOf, hi])
 have r3 : J5 (J7 z) f.rt := fun i hi => hr i (by simp [tmpsOf, hi])
 refine M3 H hw hn fun st' A Y k' => ?_
 simp only [I1, D8, A.src _ _ r1, A.src _ _ r2, A.src _ _ r3, h1, h2, h3, ob, h4, og, h5]
theorem B47 {op : UnOp} {t : TypeId} {y : Operand} (D8 : o.op = .unOp op t y) (H : I1 C R fl o st k = some x) (hr : J5 (J7 y) f.rt) (hw : J5 o.dst.toList f.wt) (hn : f.nb = none) : Fr C R fl o st k x f := by
 simp only [I1, D8] at H;obtain ⟨r, h1, H⟩ := A9 H;obtain ⟨h4, H⟩ := F6 H;obtain ⟨d, h5, H⟩ := A9 H;refine M3 H hw hn fun st' A Y k' => ?_
 simp only [I1, D8, A.src _ _ hr, h1, ob, h4, og, h5]
theorem B2p {t u : TypeId} {y : Operand} (D8 : o.op = .convert t u y) (H : I1 C R fl o st k = some x) (hr : J5 (J7 y) f.rt) (hw : J5 o.dst.toList f.wt) (hn : f.nb = none) : Fr C R fl o st k x f := by
 simp only [I1, D8] at H;obtain ⟨r, h1, H⟩ := A9 H
 split at H
 ·rename_i kd hk
  obtain ⟨h4, H⟩ := F6 H;obtain ⟨d, h5, H⟩ := A9 H;refine M3 H hw hn fun st' A Y k' => ?_
  simp only [I1, D8, A.src _ _ hr, h1, ob, hk, h4, og, h5]
 ·simp at H
theorem A5a {t : TypeId} {y : Operand} {i : Nat} (D8 : o.op = .fieldAddr t y i) (H : I1 C R fl o st k = some x) (hr : J5 (J7 y) f.rt) (hw : J5 o.dst.toList f.wt) (hn : f.nb = none) : Fr C R fl o st k x f := by
 simp only [I1, D8, QD] at H;obtain ⟨r, h1, H⟩ := A9 H;obtain ⟨fd, h2, H⟩ := A9 H;obtain ⟨z, h3, H⟩ := A9 H
 by_cases h0 : z.1 = 0
 ·rw [if_pos h0] at H; simp at H
 ·rw [if_neg h0] at H
  split at H
  all_goals first
   | (rename_i hm
      refine M3 H hw hn fun st' A Y k' => ?_
      simp only [I1, D8, QD, A.src _ _ hr, h1, h2, h3, ob, if_neg h0, hm])
   | simp at H
theorem A5b {t : TypeId} {y i : Operand} (D8 : o.op = .indexAddr t y i) (H : I1 C R fl o st k = some x) (hr : J5 (tmpsOf [y, i]) f.rt) (hw : J5 o.dst.toList f.wt) (hn : f.nb = none) : Fr C R fl o st k x f := by
 obtain ⟨q1, q2⟩ := N_ hr;simp only [I1, D8, Ip] at H;obtain ⟨r, h1, H⟩ := A9 H;obtain ⟨j, h2, H⟩ := A9 H;obtain ⟨e, h3, H⟩ := A9 H;obtain ⟨z, h4, H⟩ := A9 H
 split at H
 ·rename_i hm
  obtain ⟨h5, H⟩ := F6 H;obtain ⟨n, h6, H⟩ := A9 H;refine M3 H hw hn fun st' A Y k' => ?_
  simp only [I1, D8, Ip, A.src _ _ q1, A.src _ _ q2, h1, h2, h3, h4, ob, hm, h5, og, h6]
 ·rename_i m hm
  obtain ⟨h5, H⟩ := F6 H;obtain ⟨d, h6, H⟩ := A9 H
  by_cases hz : z.2 = true
  ·rw [if_pos hz] at H
   refine M3 H hw hn fun st' A Y k' => ?_
   simp only [I1, D8, Ip, A.src _ _ q1, A.src _ _ q2, h1, h2, h3, h4, ob, h5, og, h6, if_pos hz]
  ·rw [if_neg hz] at H
   obtain ⟨h8, H⟩ := F6 H;refine M3 H hw hn fun st' A Y k' => ?_
   simp only [I1, D8, Ip, A.src _ _ q1, A.src _ _ q2, h1, h2, h3, h4, ob, h5, og, h6, if_neg hz, h8]
theorem B0U {t : TypeId} {y i : Operand} (D8 : o.op = .index t y i) (H : I1 C R fl o st k = some x) (hr : J5 (tmpsOf [y, i]) f.rt) (hw : J5 o.dst.toList f.wt) (hn : f.nb = none) : Fr C R fl o st k x f := by
 obtain ⟨q1, q2⟩ := N_ hr;simp only [I1, D8] at H;obtain ⟨r, h1, H⟩ := A9 H;obtain ⟨j, h2, H⟩ := A9 H
 split at H
 ·rename_i hu
  obtain ⟨h5, H⟩ := F6 H;obtain ⟨d, h6, H⟩ := A9 H;refine M3 H hw hn fun st' A Y k' => ?_
  simp only [I1, D8, A.src _ _ q1, A.src _ _ q2, h1, h2, ob, hu, h5, og, h6]
 ·simp at H
theorem B0T {t : TypeId} {y : Operand} {i : Nat} (D8 : o.op = .field t y i) (H : I1 C R fl o st k = some x) (hr : J5 (J7 y) f.rt) (hw : J5 o.dst.toList f.wt) (hn : f.nb = none) : Fr C R fl o st k x f := by
 simp only [I1, D8] at H;obtain ⟨r, h1, H⟩ := A9 H;obtain ⟨fd, h2, H⟩ := A9 H;obtain ⟨z, h3, H⟩ := A9 H;obtain ⟨zt, h4, H⟩ := A9 H;obtain ⟨h5, H⟩ := F6 H;obtain ⟨h6, H⟩ := L9 H
 by_cases hz : z.2 = true
 ·rw [if_pos hz] at H
  refine M3 H hw hn fun st' A Y k' => ?_
  simp only [I1, D8, A.src _ _ hr, h1, h2, h3, h4, ob, h5, og, if_pos h6, if_pos hz]
 ·rw [if_neg hz] at H
  refine M3 H hw hn fun st' A Y k' => ?_
  simp only [I1, D8, A.src _ _ hr, h1, h2, h3, h4, ob, h5, og, if_pos h6, if_neg hz]
theorem B0V {t : TypeId} {y : Operand} {lo hi mx : Option Operand} (D8 : o.op = .slice t y lo hi mx) (H : I1 C R fl o st k = some x) (hr : J5 (tmpsOf (y :: (lo.toList ++ hi.toList ++ mx.toList))) f.rt) (hw : J5 o.dst.toList f.wt) (hn : f.nb = none) :
 Fr C R fl o st k x f := by
 have q1 : J5 (J7 y) f.rt := fun i h => hr i (by simp only [tmpsOf, List.flatMap_cons, List.mem_append]; exact .inl h)
 have q2 : J5 (tmpsOf lo.toList) f.rt := fun i h => hr i (by simp only [tmpsOf, List.flatMap_cons, List.flatMap_append, List.mem_append] at h ⊢; exact .inr (.inl (.inl h)))
 have q3 : J5 (tmpsOf hi.toList) f.rt := fun i h => hr i (by simp only [tmpsOf, List.flatMap_cons, List.flatMap_append, List.mem_append] at h ⊢; exact .inr (.inl (.inr h)))
 have q4 : J5 (tmpsOf mx.toList) f.rt := fun i h => hr i (by simp only [tmpsOf, List.flatMap_cons, List.flatMap_append, List.mem_append] at h ⊢; exact .inr (.inr h))
 simp only [I1, D8, Rq] at H;obtain ⟨r, h1, H⟩ := A9 H;obtain ⟨l, h2, H⟩ := A9 H;obtain ⟨h, h3, H⟩ := A9 H;obtain ⟨m, h4, H⟩ := A9 H
 split at H
 ·rename_i q hq
  obtain ⟨e, g1, H⟩ := A9 H;obtain ⟨z, g2, H⟩ := A9 H;obtain ⟨g3, H⟩ := F6 H;obtain ⟨hh, g4, H⟩ := A9 H;obtain ⟨ll, g5, H⟩ := A9 H;obtain ⟨g6, H⟩ := L9 H;refine M3 H hw hn fun st' A Y k' => ?_
  simp only [I1, D8, Rq, A.src _ _ q1, A.opt _ q2, A.opt _ q3, A.opt _ q4, h1, h2, h3, h4, K3, hq, g1, g2, g3, U7, g4, g5, if_pos g6]
 rename_i hq;obtain ⟨h5, H⟩ := F6 H
 split at H
 ·rename_i e hu
  obtain ⟨z, h6, H⟩ := A9 H
  split at H
  ·obtain ⟨d, h7, H⟩ := A9 H
   refine M3 H hw hn fun st' A Y k' => ?_
   simp only [I1, D8, Rq, A.src _ _ q1, A.opt _ q2, A.opt _ q3, A.opt _ q4, h1, h2, h3, h4, K3, hq, h5, U7, hu, h7, h6]
  ·obtain ⟨d, h7, H⟩ := A9 H
   refine M3 H hw hn fun st' A Y k' => ?_
   simp only [I1, D8, Rq, A.src _ _ q1, A.opt _ q2, A.opt _ q3, A.opt _ q4, h1, h2, h3, h4, K3, hq, h5, U7, hu, h7, h6]
  ·simp at H
 ·rename_i hu
  split at H
  ·obtain ⟨d, h7, H⟩ := A9 H
   refine M3 H hw hn fun st' A Y k' => ?_
   simp only [I1, D8, Rq, A.src _ _ q1, A.opt _ q2, A.opt _ q3, A.opt _ q4, h1, h2, h3, h4, K3, hq, h5, U7, hu, h7]
  ·simp at H
 ·simp at H
theorem A6H {y : Operand} (D8 : o.op = .nilCheck y) (H : I1 C R fl o st k = some x) (hr : J5 (J7 y) f.rt) (hw : J5 o.dst.toList f.wt) (hn : f.nb = none) : Fr C R fl o st k x f := by
 simp only [I1, D8] at H;obtain ⟨r, h1, H⟩ := A9 H
 split at H
 all_goals first
  | (rename_i hm
     refine M3 H hw hn fun st' A Y k' => ?_
     simp only [I1, D8, A.src _ _ hr, h1, ob, hm]; done)
  | (simp at H; done)
  | skip
 rename_i hm;obtain ⟨q, h2, H⟩ := A9 H;obtain ⟨d, h3, H⟩ := A9 H;refine M3 H hw hn fun st' A Y k' => ?_
 simp only [I1, D8, A.src _ _ hr, h1, ob, hm, h2, h3]
theorem A6G {g : FuncId} {first caps : Array Operand} (D8 : o.op = .makeFunc (.func g) first caps) (H : I1 C R fl o st k = some x) (hr : J5 (tmpsOf caps.toList) f.rt) (hw : J5 o.dst.toList f.wt) (hn : f.nb = none) : Fr C R fl o st k x f := by
 simp only [I1, D8] at H;obtain ⟨h0, H⟩ := L9 H;obtain ⟨rs, h1, H⟩ := A9 H;obtain ⟨ms, h2, H⟩ := A9 H;refine M3 H hw hn fun st' A Y k' => ?_
 simp only [I1, D8, A.Gx _ hr, h1, ob, h2, if_pos h0]
theorem B3H {op : BinOp} {t : TypeId} {y z : Operand} {yt : TypeId} (D8 : o.op = .binOp op t y z yt) (H : I1 C R fl o st k = some x) (hr : J5 (tmpsOf [y, z]) f.rt) (hw : J5 o.dst.toList f.wt) (hn : f.nb = none) : Fr C R fl o st k x f := by
 obtain ⟨q1, q2⟩ := N_ hr;simp only [I1, D8, YU] at H;obtain ⟨r, h1, H⟩ := A9 H;obtain ⟨s, h2, H⟩ := A9 H
 split at H
 ·rename_i hb
  obtain ⟨h3, H⟩ := F6 H;obtain ⟨d, h4, H⟩ := A9 H;refine M3 H hw hn fun st' A Y k' => ?_
  simp only [I1, D8, YU, A.src _ _ q1, A.src _ _ q2, h1, h2, ob, hb, h3, og, h4]
 ·rename_i hb
  obtain ⟨h3, H⟩ := F6 H;obtain ⟨d, h4, H⟩ := A9 H;obtain ⟨e, h5, H⟩ := A9 H;refine M3 H hw hn fun st' A Y k' => ?_
  simp only [I1, D8, YU, A.src _ _ q1, A.src _ _ q2, h1, h2, ob, hb, h3, og, h4, h5]
 ·rename_i hb
  obtain ⟨h3, H⟩ := F6 H;obtain ⟨d, h4, H⟩ := A9 H;obtain ⟨e, h5, H⟩ := A9 H;refine M3 H hw hn fun st' A Y k' => ?_
  simp only [I1, D8, YU, A.src _ _ q1, A.src _ _ q2, h1, h2, ob, hb, h3, og, h4, h5]
 ·rename_i hb
  obtain ⟨d, h4, H⟩ := A9 H;obtain ⟨e, h5, H⟩ := A9 H;refine M3 H hw hn fun st' A Y k' => ?_
  simp only [I1, D8, YU, A.src _ _ q1, A.src _ _ q2, h1, h2, ob, hb, h4, h5]
 ·rename_i hb
  obtain ⟨d, h4, H⟩ := A9 H;obtain ⟨e, h5, H⟩ := A9 H;refine M3 H hw hn fun st' A Y k' => ?_
  simp only [I1, D8, YU, A.src _ _ q1, A.src _ _ q2, h1, h2, ob, hb, h4, h5]
 ·simp at H
end
end Go.Su

/-
 THE DATA MACHINE, part 20: footprints, the operations that look at memory.
-/
namespace Go.Su
theorem TB {X : Type} {r : DV × Meta} {K : DV × Meta → Option X} {x : X} (H : cellOf r K = some x) : ∃ c, K c = some x ∧ ∀ (Y : Type) (K' : DV × Meta → Option Y), cellOf r K' = K' c := by
 unfold cellOf at H
 split at H
 ·rename_i hm
  obtain ⟨h, H⟩ := F6 H;exact ⟨_, H, fun Y K' => by simp only [cellOf, hm, h, U7]⟩
 ·rename_i hm; exact ⟨_, H, fun Y K' => by simp only [cellOf, hm]⟩
 ·rename_i hm; exact ⟨_, H, fun Y K' => by simp only [cellOf, hm]⟩
 ·rename_i hm; exact ⟨_, H, fun Y K' => by simp only [cellOf, hm]⟩
 ·rename_i h1 h2 h3 h4
  obtain ⟨h, H⟩ := F6 H;refine ⟨_, H, fun Y K' => ?_⟩
  unfold cellOf
  split <;> simp_all [U7]
theorem WJ {X : Type} {P : Program} {t : TypeId} {r : DV × Meta} {K : List (DV × Meta) → Option X} {x : X} (H : explode P t r K = some x) :
 ∃ cs, K cs = some x ∧ ∀ (Y : Type) (K' : List (DV × Meta) → Option Y), explode P t r K' = K' cs := by
 unfold explode at H;obtain ⟨z, hz, H⟩ := A9 H
 split at H
 ·rename_i h2
  obtain ⟨h3, H⟩ := F6 H;obtain ⟨cs, h4, H⟩ := A9 H;exact ⟨_, H, fun Y K' => by simp only [explode, hz, K3, if_pos h2, h3, U7, h4]⟩
 ·rename_i h2
  obtain ⟨c, h3, h4⟩ := TB H;exact ⟨_, h3, fun Y K' => by simp only [explode, hz, K3, if_neg h2, h4]⟩
theorem tQ {X : Type} {P : Program} {t : TypeId} {r : DV × Meta} {K : List (DV × Meta) → Option X} {x : X} (H : Gn P t r K = some x) :
 ∃ cs, K cs = some x ∧ ∀ (Y : Type) (K' : List (DV × Meta) → Option Y), Gn P t r K' = K' cs := by
 unfold Gn at H;obtain ⟨z, hz, H⟩ := A9 H
 split at H
 ·rename_i h2
  obtain ⟨h3, H⟩ := F6 H;obtain ⟨cs, h4, H⟩ := A9 H;exact ⟨cs, H, fun Y K' => by simp only [Gn, hz, K3, if_pos h2, h3, U7, h4]⟩
 ·rename_i h2
  obtain ⟨c, h3, h4⟩ := TB H;exact ⟨_, h3, fun Y K' => by simp only [Gn, hz, K3, if_neg h2, h4]⟩
theorem WG {X : Type} {z : Nat × Bool} {r : DV × Meta} {K : DV → Option X} {x : X} (H : ML z r K = some x) : K r.1 = some x ∧ ∀ (Y : Type) (K' : DV → Option Y), ML z r K' = K' r.1 := by
 unfold ML at H;obtain ⟨h1, H⟩ := F6 H
 split at H
 ·rename_i h2
  obtain ⟨h3, H⟩ := F6 H;exact ⟨H, fun Y K' => by simp only [ML, h1, U7, if_pos h2, h3]⟩
 ·rename_i h2
  obtain ⟨h3, H⟩ := F6 H;exact ⟨H, fun Y K' => by simp only [ML, h1, U7, if_neg h2, h3]⟩
theorem iD {X : Type} {P : Program} {t : TypeId} {st : St} {x : X} {rt : List Nat} : ∀ {ps : List (Nat × Operand)} {cs : List (DV × Meta)} {k : List (DV × Meta) → Option X}, Fv P t st ps cs k = some x → J5 (tmpsOf (ps.map (·.2))) rt →
 ∃ cs', k cs' = some x ∧ ∀ (f : Fp) st', FD f st st' → J5 rt f.rt → ∀ (Y : Type) (k' : List (DV × Meta) → Option Y), Fv P t st' ps cs k' = k' cs'
 | [], cs, k, H, _ => ⟨cs, H, fun _ _ _ _ _ _ => rfl⟩
 | (i, y) :: ps, cs, k, H, hs => by
   simp only [Fv] at H;obtain ⟨fd, h1, H⟩ := A9 H;obtain ⟨r, h2, H⟩ := A9 H;obtain ⟨xs, H, h3⟩ := WJ H;obtain ⟨h4, H⟩ := L9 H;have s1 : J5 (J7 y) rt := fun i h => hs i (by simp only [List.map_cons, tmpsOf, List.flatMap_cons, List.mem_append]; exact .inl h)
   have s2 : J5 (tmpsOf (ps.map (·.2))) rt := fun i h => hs i (by simp only [List.map_cons, tmpsOf, List.flatMap_cons, List.mem_append] at h ⊢; exact .inr h)
   obtain ⟨cs', h5, h6⟩ := iD H s2;refine ⟨cs', h5, fun f st' A hr Y k' => ?_⟩
   simp only [Fv, h1, K3, A.src P fd.type (fun i h => hr i (s1 i h)), h2, h3, if_pos h4]
   exact h6 f st' A hr Y k'
theorem FD.gV {f : Fp} {st st' : St} (A : FD f st st') (P : Program) (t : TypeId) {x : Operand} (h : J5 (J7 x) f.rt) : gV P t st' x = gV P t st x := by
 have e := A.src P t h;unfold Su.gV
 split
 ·rfl
 ·exact e
theorem kH {X : Type} {P : Program} {e : TypeId} {z : Nat × Bool} {st : St} {x : X} {rt : List Nat} : ∀ {ps : List (Nat × Operand)} {ds : List DV} {k : List DV → Option X}, GA P e z st ps ds k = some x → J5 (tmpsOf (ps.map (·.2))) rt →
 ∃ ds', k ds' = some x ∧ ∀ (f : Fp) st', FD f st st' → J5 rt f.rt → ∀ (Y : Type) (k' : List DV → Option Y), GA P e z st' ps ds k' = k' ds'
 | [], ds, k, H, _ => ⟨ds, H, fun _ _ _ _ _ _ => rfl⟩
 | (i, y) :: ps, ds, k, H, hs => by
   simp only [GA] at H;obtain ⟨r, h2, H⟩ := A9 H;obtain ⟨H, h3⟩ := WG H;obtain ⟨h4, H⟩ := L9 H;have s1 : J5 (J7 y) rt := fun i h => hs i (by simp only [List.map_cons, tmpsOf, List.flatMap_cons, List.mem_append]; exact .inl h)
   have s2 : J5 (tmpsOf (ps.map (·.2))) rt := fun i h => hs i (by simp only [List.map_cons, tmpsOf, List.flatMap_cons, List.mem_append] at h ⊢; exact .inr h)
   obtain ⟨ds', h5, h6⟩ := kH H s2;refine ⟨ds', h5, fun f st' A hr Y k' => ?_⟩
   simp only [GA, K3, A.gV P e (fun i h => hr i (s1 i h)), h2, h3, if_pos h4]
   exact h6 f st' A hr Y k'
section
variable {X : Type} {C : V6} {R : N7} {fl : Flags} {o : Oper} {st : St} {k : St → Option X} {x : X} {f : Fp}
theorem B0R {t : TypeId} {ps : Array (Nat × Operand)} (D8 : o.op = .build t ps) (H : I1 C R fl o st k = some x) (hr : J5 (tmpsOf (ps.toList.map (·.2))) f.rt) (hw : J5 o.dst.toList f.wt) (hn : f.nb = none) : Fr C R fl o st k x f := by
 simp only [I1, D8] at H;obtain ⟨zs, h1, H⟩ := A9 H;obtain ⟨pl, h2, H⟩ := A9 H;obtain ⟨cs, H, h3⟩ := iD H hr;refine M3 H hw hn fun st' A Y k' => ?_
 simp only [I1, D8, h1, h2, K3];exact h3 f st' A (fun _ h => h) Y _
theorem A3Z {t : TypeId} {n : Nat} {ps : Array (Nat × Operand)} (D8 : o.op = .buildSlice t n ps) (H : I1 C R fl o st k = some x) (hr : J5 (tmpsOf (ps.toList.map (·.2))) f.rt) (hw : J5 o.dst.toList f.wt) (hn : f.nb = none) : Fr C R fl o st k x f := by
 simp only [I1, D8] at H;obtain ⟨e, h1, H⟩ := A9 H;obtain ⟨z, h2, H⟩ := A9 H;obtain ⟨zs, h3, H⟩ := A9 H;obtain ⟨ze, h4, H⟩ := A9 H;obtain ⟨h5, H⟩ := L9 H;obtain ⟨ds, H, h6⟩ := kH H hr;refine M3 H hw hn fun st' A Y k' => ?_
 simp only [I1, D8, h1, h2, h3, h4, K3, if_pos h5];exact h6 f st' A (fun _ h => h) Y _
theorem A3r {cs : List (DV × Meta)} {sh : Bool} (hk : k (st.Dx sh o.dst cs) = some x) (hb : Od sh o.dst st = true) (hw : J5 o.dst.toList f.wt)
 (h1 : sh = true → f.nb = none ∧ f.rs = true ∧ f.ws = true) (h2 : sh = false → f.nb = o.dst ∧ J5 o.dst.toList f.wb)
 (h : ∀ st', FD f st st' → ∀ (Y : Type) (k' : St → Option Y), I1 C R fl o st' k' = og (Od sh o.dst st') (k' (st'.Dx sh o.dst cs))) : Fr C R fl o st k x f := by
 cases hd : o.dst with
 | none =>
   rw [hd] at hk;refine ⟨_, hk, ?_, fun st' A => ⟨_, Two.refl A, fun Y k' => by rw [h st' A Y k', hd]; rfl⟩⟩
   cases sh
   ·rw [(h2 rfl).1, hd]; simp
   ·rw [(h1 rfl).1]; simp
 | some t =>
   rw [hd] at hk hb;have hw' : ∀ u ∈ (some t : Option Nat).toList, u ∈ f.wt := by rw [← hd]; exact hw
   cases sh
   ·obtain ⟨q1, q2⟩ := h2 rfl
    have hnl : JS t st.mt = true := by simpa [Od] using hb
    have cl : ∀ mt, JS t mt = true → mt.map (Il t) = mt := by
     intro mt hh;simp only [JS, List.all_eq_true] at hh
     conv => rhs; rw [← List.map_id mt]
     refine List.map_congr_left fun m hm => ?_
     have := hh m hm;unfold Il
     split
     ·rename_i s' o'
      simp only [bne_iff_ne, ne_eq] at this;rw [if_neg this]; rfl
     ·rfl
    refine ⟨_, hk, fun u hu => ?_, fun st' A => ⟨st'.Dx false (some t) cs, ?_, fun Y k' => ?_⟩⟩
    ·rw [q1, hd] at hu; cases hu; exact hnl
    ·have A0p := A.n t (by rw [q1, hd])
     simp only [St.Dx, Bool.false_eq_true, if_false];rw [cl _ hnl, cl _ A0p];exact ((Two.refl A).xH (q2 t (by rw [hd]; simp)) (some cs)).put hw' _ _
    ·rw [h st' A Y k', hd]
     have A0p := A.n t (by rw [q1, hd])
     simp only [Od, A0p, Bool.or_true, U7]
   ·obtain ⟨q1, q2, q3⟩ := h1 rfl
    refine ⟨_, hk, by rw [q1]; simp, fun st' A => ⟨st'.Dx true (some t) cs, ?_, fun Y k' => ?_⟩⟩
    ·simp only [St.Dx, if_true]
     rw [A.s q2];exact ((Two.refl A).Ha q3 _).put hw' _ _
    ·rw [h st' A Y k', hd]
     simp only [Od, Bool.true_or, U7]
theorem A49 {t : TypeId} (D8 : o.op = .alloc t) (H : I1 C R fl o st k = some x) (hw : J5 o.dst.toList f.wt)
 (h1 : J9 fl.shared o.dst = true → f.nb = none ∧ f.rs = true ∧ f.ws = true) (h2 : J9 fl.shared o.dst = false → f.nb = o.dst ∧ J5 o.dst.toList f.wb) : Fr C R fl o st k x f := by
 simp only [I1, D8] at H;obtain ⟨cs, h3, H⟩ := A9 H;obtain ⟨h4, H⟩ := F6 H;exact A3r H h4 hw h1 h2 fun st' A Y k' => by simp only [I1, D8, h3, K3]
theorem B1f {m : Meta} {t : Nat} (h : (match m with | .loc s _ => s != t | _ => true) = true) : (match dm m with | .loc s _ => s != t | _ => true) = true := by
 cases m <;> first | exact h | rfl
theorem qD {st : St} {y : Operand} {t : Nat} (h : JS t st.mt = true) : JS t (st.release y).mt = true := by
 cases y with
 | tmp u =>
   simp only [St.release, JS, List.all_eq_true] at h ⊢;intro m hm;rcases List.mem_or_eq_of_mem_set hm with h1 | rfl
   ·exact h m h1
   ·rcases Nat.lt_or_ge u st.mt.length with hu | hu
    ·refine B1f ?_
     rw [List.getD_eq_getElem?_getD, List.getElem?_eq_getElem hu];exact h _ (List.getElem_mem hu)
    ·rw [List.getD_eq_getElem?_getD, List.getElem?_eq_none hu]; rfl
 | _ => exact h
theorem yP {t : Nat} {mt : List Meta} (hh : JS t mt = true) : mt.map (Il t) = mt := by
 simp only [JS, List.all_eq_true] at hh
 conv => rhs; rw [← List.map_id mt]
 refine List.map_congr_left fun m hm => ?_
 have := hh m hm;unfold Il
 split
 ·rename_i s' o'
  simp only [bne_iff_ne, ne_eq] at this;rw [if_neg this]; rfl
 ·rfl
theorem A1G {t : TypeId} {y : Operand} (D8 : o.op = .box t y) (H : I1 C R fl o st k = some x) (hr : J5 (J7 y) f.rt) (hw : J5 o.dst.toList f.wt)
 (h0 : J9 fl.Xl o.dst = true → f.nb = none) (hs : J9 fl.Xl o.dst = false → J9 fl.L8 o.dst = true → J5 (J7 y) f.wt ∧ f.nb = o.dst ∧ J5 o.dst.toList f.wb)
 (h1 : J9 fl.Xl o.dst = false → J9 fl.L8 o.dst = false → J9 fl.shared o.dst = true → f.nb = none ∧ f.rs = true ∧ f.ws = true)
 (h2 : J9 fl.Xl o.dst = false → J9 fl.L8 o.dst = false → J9 fl.shared o.dst = false → f.nb = o.dst ∧ J5 o.dst.toList f.wb) : Fr C R fl o st k x f := by
 simp only [I1, D8] at H;obtain ⟨r, h3, H⟩ := A9 H
 by_cases Gs : J9 fl.Xl o.dst = true
 ·rw [if_pos Gs] at H
  obtain ⟨z, h4, H⟩ := A9 H;obtain ⟨h5, H⟩ := F6 H;exact M3 H hw (h0 Gs) fun st' A Y k' => by simp only [I1, D8, A.src _ _ hr, h3, K3, if_pos Gs, h4, h5, U7]
 rw [if_neg Gs] at H;have B05 : J9 fl.Xl o.dst = false := by simpa using Gs
 by_cases Q4 : J9 fl.L8 o.dst = true
 ·rw [if_pos Q4] at H
  obtain ⟨q1, q2, q3⟩ := hs B05 Q4;obtain ⟨cs, H, h4⟩ := tQ H;obtain ⟨h5, H⟩ := F6 H;cases hd : o.dst with
  | none => rw [hd] at Q4; simp [J9] at Q4
  | some t0 =>
    rw [hd] at H h5 q2;have hnl : JS t0 st.mt = true := by simpa [Od] using h5
    have hw' : ∀ u ∈ (some t0 : Option Nat).toList, u ∈ f.wt := by rw [← hd]; exact hw
    refine ⟨_, H, fun u hu => ?_, fun st' A => ⟨(st'.release y).Dx false (some t0) cs, ?_, fun Y k' => ?_⟩⟩
    ·rw [q2] at hu; cases hu; exact hnl
    ·have A0p := A.n t0 q2
     simp only [St.Dx, Bool.false_eq_true, if_false];rw [yP (qD hnl), yP (qD A0p)];exact (((Two.refl A).release q1 fun i hi => A.t i (hr i hi)).xH (q3 t0 (by rw [hd]; simp)) (some cs)).put hw' _ _
    ·have A0p := A.n t0 q2
     rw [hd] at Gs Q4;simp only [I1, D8, A.src _ _ hr, h3, K3, hd, if_neg Gs, if_pos Q4, h4, Od, A0p, Bool.or_true, U7]
 rw [if_neg Q4] at H;have B3Y : J9 fl.L8 o.dst = false := by simpa using Q4
 obtain ⟨cs, H, h4⟩ := WJ H;obtain ⟨h5, H⟩ := F6 H;exact A3r H h5 hw (h1 B05 B3Y) (h2 B05 B3Y) fun st' A Y k' => by simp only [I1, D8, A.src _ _ hr, h3, K3, if_neg Gs, if_neg Q4, h4]
theorem A6o (P P' : Program) {x : Operand} {r : DV × Meta} (h : src P 0 st x = some r) : ∃ r', src P' 0 st x = some r' ∧ r'.2 = r.2 := by
 cases x with
 | const v =>
   simp only [src] at h ⊢;unfold cst at h ⊢
   split at h <;> simp only [Option.some.injEq, reduceCtorEq] at h <;> subst h <;> exact ⟨_, rfl, rfl⟩
 | tmp t => exact ⟨r, h, rfl⟩
 | func f => exact ⟨r, h, rfl⟩
 | global g => simp [src] at h
theorem B2q {t : TypeId} {y : Operand} (D8 : o.op = .load t y) (H : I1 C R fl o st k = some x) (hr : J5 (J7 y) f.rt) (hw : J5 o.dst.toList f.wt) (hn : f.nb = none)
 (hb : ∀ r, src C.P 0 st y = some r → J5 (Dm r.2).1 f.rb ∧ ((Dm r.2).2 = true → f.rs = true) ∧ (J9 fl.L8 o.dst = true → J5 (Dm r.2).1 f.wb ∧ ((Dm r.2).2 = true → f.ws = true))) :
 Fr C R fl o st k x f := by
 simp only [I1, D8, Di] at H;obtain ⟨r, h1, H⟩ := A9 H;obtain ⟨z, h2, H⟩ := A9 H;obtain ⟨b1, b2, b3⟩ := hb r h1
 split at H
 ·rename_i s off hm
  rw [hm] at b1 b2 b3;have hs : s ∈ f.rb := b1 s (by simp [Dm])
  obtain ⟨cs, h3, H⟩ := A9 H;obtain ⟨h4, H⟩ := L9 H
  by_cases hz : z.2 = true
  ·rw [if_pos hz] at H
   by_cases Q4 : J9 fl.L8 o.dst = true
   ·rw [if_pos Q4] at H
    refine ⟨_, H, by rw [hn]; simp, fun st' A => ⟨_, ((Two.refl A).xH ((b3 Q4).1 s (by simp [Dm])) _).put hw _ _, fun Y k' => ?_⟩⟩
    simp only [I1, D8, Di, A.src _ _ hr, h1, h2, K3, hm, A.bx hs, h3, if_pos h4, if_pos hz, if_pos Q4]
   rw [if_neg Q4] at H;refine M3 H hw hn fun st' A Y k' => ?_
   simp only [I1, D8, Di, A.src _ _ hr, h1, h2, K3, hm, A.bx hs, h3, if_pos h4, if_pos hz, if_neg Q4]
  ·rw [if_neg hz] at H
   by_cases Q4 : J9 fl.L8 o.dst = true
   ·rw [if_pos Q4] at H
    refine ⟨_, H, by rw [hn]; simp, fun st' A => ⟨_, ((Two.refl A).xH ((b3 Q4).1 s (by simp [Dm])) _).put hw _ _, fun Y k' => ?_⟩⟩
    simp only [I1, D8, Di, A.src _ _ hr, h1, h2, K3, hm, A.bx hs, h3, if_pos h4, if_neg hz, if_pos Q4]
   ·rw [if_neg Q4] at H
    refine M3 H hw hn fun st' A Y k' => ?_
    simp only [I1, D8, Di, A.src _ _ hr, h1, h2, K3, hm, A.bx hs, h3, if_pos h4, if_neg hz, if_neg Q4]
 ·rename_i ag sz off hm
  obtain ⟨h4, H⟩ := L9 H
  by_cases hz : z.2 = true
  ·rw [if_pos hz] at H
   obtain ⟨h5, H⟩ := F6 H;refine M3 H hw hn fun st' A Y k' => ?_
   simp only [I1, D8, Di, A.src _ _ hr, h1, h2, K3, hm, if_pos h4, if_pos hz, h5, U7]
  ·rw [if_neg hz] at H
   refine M3 H hw hn fun st' A Y k' => ?_
   simp only [I1, D8, Di, A.src _ _ hr, h1, h2, K3, hm, if_pos h4, if_neg hz]
 ·rename_i i off hm
  rw [hm] at b1 b2 b3;have hs := b2 rfl;obtain ⟨cs, h3, H⟩ := A9 H
  by_cases hz : z.2 = true
  ·rw [if_pos hz] at H
   obtain ⟨h5, H⟩ := F6 H;obtain ⟨ds, h6, H⟩ := A9 H;refine M3 H hw hn fun st' A Y k' => ?_
   simp only [I1, D8, Di, A.src _ _ hr, h1, h2, K3, hm, A.s hs, h3, if_pos hz, h5, U7, h6]
  ·rw [if_neg hz] at H
   split at H
   ·rename_i hc
    obtain ⟨j, h6, H⟩ := A9 H;refine M3 H hw hn fun st' A Y k' => ?_
    simp only [I1, D8, Di, A.src _ _ hr, h1, h2, K3, hm, A.s hs, h3, if_neg hz, hc, h6]
   ·rename_i hc
    obtain ⟨j, h6, H⟩ := A9 H;refine M3 H hw hn fun st' A Y k' => ?_
    simp only [I1, D8, Di, A.src _ _ hr, h1, h2, K3, hm, A.s hs, h3, if_neg hz, hc, h6]
   ·rename_i hc
    by_cases Q4 : J9 fl.L8 o.dst = true
    ·rw [if_pos Q4] at H
     obtain ⟨d, h6, H⟩ := A9 H;refine ⟨_, H, by rw [hn]; simp, fun st' A => ⟨_, ((Two.refl A).Ha ((b3 Q4).2 rfl) _).put hw _ _, fun Y k' => ?_⟩⟩
     simp only [I1, D8, Di, A.src _ _ hr, h1, h2, K3, hm, A.s hs, h3, if_neg hz, hc, if_pos Q4, h6]
    ·rw [if_neg Q4] at H
     obtain ⟨d, h6, H⟩ := A9 H;refine M3 H hw hn fun st' A Y k' => ?_
     simp only [I1, D8, Di, A.src _ _ hr, h1, h2, K3, hm, A.s hs, h3, if_neg hz, hc, if_neg Q4, h6]
 ·rename_i i sz idx off hm
  rw [hm] at b1 b2 b3;have hs := b2 rfl;obtain ⟨a, h3, H⟩ := A9 H;obtain ⟨d, h4, H⟩ := A9 H;obtain ⟨h5, H⟩ := F6 H;obtain ⟨h6, H⟩ := L9 H
  by_cases hz : z.2 = true
  ·rw [if_pos hz] at H
   refine M3 H hw hn fun st' A Y k' => ?_
   simp only [I1, D8, Di, A.src _ _ hr, h1, h2, K3, hm, A.s hs, h3, h4, h5, U7, if_pos h6, if_pos hz]
  ·rw [if_neg hz] at H
   by_cases h7 : sz = 1
   ·rw [if_pos h7] at H
    obtain ⟨h8, H⟩ := F6 H;refine M3 H hw hn fun st' A Y k' => ?_
    simp only [I1, D8, Di, A.src _ _ hr, h1, h2, K3, hm, A.s hs, h3, h4, h5, U7, if_pos h6, if_neg hz, if_pos h7, h8]
   ·rw [if_neg h7] at H
    refine M3 H hw hn fun st' A Y k' => ?_
    simp only [I1, D8, Di, A.src _ _ hr, h1, h2, K3, hm, A.s hs, h3, h4, h5, U7, if_pos h6, if_neg hz, if_neg h7]
 ·simp at H
theorem B0W {t : TypeId} {y v : Operand} (D8 : o.op = .store t y v) (H : I1 C R fl o st k = some x) (hr : J5 (tmpsOf [y, v]) f.rt) (hw : J5 o.dst.toList f.wt) (hwv : J5 (DX st.mt v) f.wt) (hn : f.nb = none)
 (hb : ∀ r, src C.P 0 st y = some r → J5 (Dm r.2).1 f.rb ∧ ((Dm r.2).2 = true → f.rs = true) ∧ J5 (Dm r.2).1 f.wb ∧ ((Dm r.2).2 = true → f.ws = true)) :
 Fr C R fl o st k x f := by
 obtain ⟨q1, q2⟩ := N_ hr;simp only [I1, D8, ES] at H;obtain ⟨r, h1, H⟩ := A9 H;obtain ⟨u, h2, H⟩ := A9 H;obtain ⟨z, h3, H⟩ := A9 H;obtain ⟨b1, b2, b3, b4⟩ := hb r h1
 split at H
 ·rename_i s off hm
  rw [hm] at b1 b2 b3 b4;have hs : s ∈ f.rb := b1 s (by simp [Dm])
  have DZ : s ∈ f.wb := b3 s (by simp [Dm])
  obtain ⟨cs, h4, H⟩ := A9 H
  by_cases hz : z.2 = true
  ·rw [if_pos hz] at H
   obtain ⟨xs, H, h5⟩ := tQ H;obtain ⟨h6, H⟩ := L9 H;refine ⟨_, H, by rw [hn]; simp, fun st' A => ⟨_, (((Two.refl A).xH DZ _).A0A hwv fun i hi => A.t i (q2 i hi)).put hw _ _, fun Y k' => ?_⟩⟩
   simp only [I1, D8, ES, A.src _ _ q1, A.src _ _ q2, h1, h2, h3, K3, hm, A.bx hs, h4, if_pos hz, h5, if_pos h6]
  ·rw [if_neg hz] at H
   obtain ⟨c, H, h5⟩ := TB H;obtain ⟨h6, H⟩ := L9 H;refine ⟨_, H, by rw [hn]; simp, fun st' A => ⟨_, (((Two.refl A).xH DZ _).A0A hwv fun i hi => A.t i (q2 i hi)).put hw _ _, fun Y k' => ?_⟩⟩
   simp only [I1, D8, ES, A.src _ _ q1, A.src _ _ q2, h1, h2, h3, K3, hm, A.bx hs, h4, if_neg hz, h5, if_pos h6]
 ·rename_i i off hm
  rw [hm] at b1 b2 b3 b4;obtain ⟨cs, h4, H⟩ := A9 H
  by_cases hz : z.2 = true
  ·rw [if_pos hz] at H
   obtain ⟨xs, H, h5⟩ := WJ H;obtain ⟨h6, H⟩ := L9 H;refine ⟨_, H, by rw [hn]; simp, fun st' A => ⟨_, ((Two.refl A).Ha (b4 rfl) _).put hw _ _, fun Y k' => ?_⟩⟩
   simp only [I1, D8, ES, A.src _ _ q1, A.src _ _ q2, h1, h2, h3, K3, hm, A.s (b2 rfl), h4, if_pos hz, h5, if_pos h6]
  ·rw [if_neg hz] at H
   obtain ⟨c, H, h5⟩ := TB H;obtain ⟨c0, h6, H⟩ := A9 H;refine ⟨_, H, by rw [hn]; simp, fun st' A => ⟨_, (((Two.refl A).Ha (b4 rfl) (st.sg.set i (.box (cs.set off c)))).A0A hwv fun i hi => A.t i (q2 i hi)).put hw (.H7 []) .val, fun Y k' => ?_⟩⟩
   simp only [I1, D8, ES, A.src _ _ q1, A.src _ _ q2, h1, h2, h3, K3, hm, A.s (b2 rfl), h4, if_neg hz, h5, h6]
 ·rename_i i sz idx off hm
  rw [hm] at b1 b2 b3 b4;obtain ⟨a, h4, H⟩ := A9 H;obtain ⟨d, h5, H⟩ := A9 H;obtain ⟨H, h6⟩ := WG H;obtain ⟨h7, H⟩ := F6 H;obtain ⟨h8, H⟩ := L9 H;refine ⟨_, H, by rw [hn]; simp, fun st' A => ⟨_, ((Two.refl A).Ha (b4 rfl) _).put hw _ _, fun Y k' => ?_⟩⟩
  simp only [I1, D8, ES, A.src _ _ q1, A.src _ _ q2, h1, h2, h3, K3, hm, A.s (b2 rfl), h4, h5, h6, h7, U7, if_pos h8]
 ·rename_i i sz idx hm
  rw [hm] at b1 b2 b3 b4;obtain ⟨q, h4, H⟩ := A9 H;obtain ⟨H, h6⟩ := WG H;obtain ⟨h7, H⟩ := F6 H;obtain ⟨x', h8, H⟩ := A9 H;refine ⟨_, H, by rw [hn]; simp, fun st' A => ⟨_, ((Two.refl A).Ha (b4 rfl) _).put hw _ _, fun Y k' => ?_⟩⟩
  simp only [I1, D8, ES, A.src _ _ q1, A.src _ _ q2, h1, h2, h3, K3, hm, A.s (b2 rfl), h4, h6, h7, U7, h8]
 ·simp at H
theorem A75 {t : TypeId} (D8 : o.op = .makeMap t none) (H : I1 C R fl o st k = some x) (hw : J5 o.dst.toList f.wt) (hn : f.nb = none) (hrs : f.rs = true) (hws : f.ws = true) : Fr C R fl o st k x f := by
 simp only [I1, D8] at H;obtain ⟨q, h1, H⟩ := A9 H;refine ⟨_, H, by rw [hn]; simp, fun st' A => ⟨_, ((Two.refl A).Ha hws _).put hw _ _, fun Y k' => ?_⟩⟩
 simp only [I1, D8, h1, K3, A.s hrs]
theorem A9w {t : TypeId} {y v : Operand} {ok : Bool} (D8 : o.op = .lookup t y v ok) (H : I1 C R fl o st k = some x) (hr : J5 (tmpsOf [y, v]) f.rt) (hw : J5 o.dst.toList f.wt) (hn : f.nb = none) (hrs : f.rs = true) : Fr C R fl o st k x f := by
 obtain ⟨q1, q2⟩ := N_ hr;simp only [I1, D8] at H;obtain ⟨r, h1, H⟩ := A9 H;obtain ⟨key, h2, H⟩ := A9 H;obtain ⟨q, h3, H⟩ := A9 H;obtain ⟨ze, h4, H⟩ := A9 H;obtain ⟨h5, H⟩ := F6 H
 split at H
 ·rename_i i hm
  obtain ⟨p, h6, H⟩ := A9 H;obtain ⟨h7, H⟩ := F6 H
  by_cases p9 : ok = true
  ·rw [if_pos p9] at H
   refine M3 H hw hn fun st' A Y k' => ?_
   simp only [I1, D8, A.src _ _ q1, A.src _ _ q2, h1, h2, h3, h4, K3, h5, U7, hm, A.s hrs, h6, h7, if_pos p9]
  ·rw [if_neg p9] at H
   refine M3 H hw hn fun st' A Y k' => ?_
   simp only [I1, D8, A.src _ _ q1, A.src _ _ q2, h1, h2, h3, h4, K3, h5, U7, hm, A.s hrs, h6, h7, if_neg p9]
 ·simp at H
theorem A5c {t : TypeId} {y v u : Operand} (D8 : o.op = .mapUpdate t y v u) (H : I1 C R fl o st k = some x) (hr : J5 (tmpsOf [y, v, u]) f.rt) (hw : J5 o.dst.toList f.wt) (hn : f.nb = none) (hrs : f.rs = true) (hws : f.ws = true) : Fr C R fl o st k x f := by
 have q1 : J5 (J7 y) f.rt := fun i hi => hr i (by simp [tmpsOf, hi])
 have q2 : J5 (J7 v) f.rt := fun i hi => hr i (by simp [tmpsOf, hi])
 have q3 : J5 (J7 u) f.rt := fun i hi => hr i (by simp [tmpsOf, hi])
 simp only [I1, D8] at H;obtain ⟨r, h1, H⟩ := A9 H;obtain ⟨key, h2, H⟩ := A9 H;obtain ⟨val, h3, H⟩ := A9 H;obtain ⟨q, h4, H⟩ := A9 H;obtain ⟨h5, H⟩ := F6 H
 split at H
 ·rename_i i hm
  obtain ⟨p, h6, H⟩ := A9 H;obtain ⟨h7, H⟩ := F6 H;refine ⟨_, H, by rw [hn]; simp, fun st' A => ⟨_, ((Two.refl A).Ha hws _).put hw _ _, fun Y k' => ?_⟩⟩
  simp only [I1, D8, A.src _ _ q1, A.src _ _ q2, A.src _ _ q3, h1, h2, h3, h4, K3, h5, U7, hm, A.s hrs, h6, h7]
 ·simp at H
theorem A74 {y : Operand} {i : Nat} (D8 : o.op = .extract y i) (H : I1 C R fl o st k = some x) (hr : J5 (J7 y) f.rt) (hw : J5 o.dst.toList f.wt) (hs : J9 fl.L8 o.dst = true → J5 (J7 y) f.wt) (hn : f.nb = none) : Fr C R fl o st k x f := by
 simp only [I1, D8] at H;obtain ⟨r, h1, H⟩ := A9 H
 split at H
 ·rename_i hm
  obtain ⟨d, h2, H⟩ := A9 H;refine M3 H hw hn fun st' A Y k' => ?_
  simp only [I1, D8, A.src _ _ hr, h1, K3, hm, h2]
 ·rename_i ms hm
  obtain ⟨d, h2, H⟩ := A9 H
  split at H
  ·rename_i hg
   by_cases Q4 : J9 fl.L8 o.dst = true
   ·rw [if_pos Q4] at H
    refine ⟨_, H, by rw [hn]; simp, fun st' A => ⟨(st'.mK y (.BR (ms.set i .val))).put o.dst d .own, Two.put ?_ hw _ _, fun Y k' => ?_⟩⟩
    ·cases y with
     | tmp t =>
       have ht : t ∈ J7 (.tmp t) := by simp [J7]
       exact (Two.refl A).B14 (hs Q4 t ht) (A.t t (hr t ht)).1 _
     | _ => exact Two.refl A
    ·simp only [I1, D8, A.src _ _ hr, h1, K3, hm, h2, hg, if_pos Q4]
   ·rw [if_neg Q4] at H
    refine M3 H hw hn fun st' A Y k' => ?_
    simp only [I1, D8, A.src _ _ hr, h1, K3, hm, h2, hg, if_neg Q4]
  ·rename_i hg
   refine M3 H hw hn fun st' A Y k' => ?_
   simp only [I1, D8, A.src _ _ hr, h1, K3, hm, h2, hg]
  ·simp at H
 ·simp at H
end
end Go.Su

/-
 THE DATA MACHINE, part 21: footprints, calls; every operation.
-/
namespace Go.Su
section
variable {X : Type} {C : V6} {R : N7} {fl : Flags} {o : Oper} {st : St} {k : St → Option X} {x : X} {f : Fp}
theorem B3I {c : Call} {y : Operand} {t : TypeId} (D8 : o.op = .call c) (hc : c.callee = .builtin .len) (ha : c.args.toList = [y]) (ht : c.argTypes.toList = [t]) (H : WI C o y t st k = some x)
 (hr : J5 (J7 y) f.rt) (hw : J5 o.dst.toList f.wt) (hn : f.nb = none) (hrs : f.rs = true) : Fr C R fl o st k x f := by
 have Fh : ∀ (Y : Type) (st : St) (k : St → Option Y), I1 C R fl o st k = WI C o y t st k := fun Y st k => by simp only [I1, D8, EN, hc, ha, ht]
 unfold WI at H;obtain ⟨r, h1, H⟩ := A9 H
 split at H
 ·rename_i hu
  split at H
  ·rename_i hm
   refine M3 H hw hn fun st' A Y k' => ?_
   rw [Fh];simp only [WI, A.src _ _ hr, h1, K3, hu, hm]
  ·rename_i hm
   obtain ⟨h2, H⟩ := F6 H;obtain ⟨d, h3, H⟩ := A9 H;refine M3 H hw hn fun st' A Y k' => ?_
   rw [Fh];simp only [WI, A.src _ _ hr, h1, K3, hu, h2, U7, h3]
 ·rename_i hu
  obtain ⟨h2, H⟩ := F6 H;obtain ⟨d, h3, H⟩ := A9 H;refine M3 H hw hn fun st' A Y k' => ?_
  rw [Fh];simp only [WI, A.src _ _ hr, h1, K3, hu, h2, U7, h3]
 ·rename_i hu
  obtain ⟨d, h3, H⟩ := A9 H;refine M3 H hw hn fun st' A Y k' => ?_
  rw [Fh];simp only [WI, A.src _ _ hr, h1, K3, hu, A.s hrs, h3]
 ·simp at H
theorem B0S {c : Call} {y : Operand} {t : TypeId} (D8 : o.op = .call c) (hc : c.callee = .builtin .clear) (ha : c.args.toList = [y]) (ht : c.argTypes.toList = [t]) (H : VV C o y t st k = some x) (hr : J5 (J7 y) f.rt) (hw : J5 o.dst.toList f.wt) (hrs : f.rs = true) (hws : f.ws = true) (hn : f.nb = none) : Fr C R fl o st k x f := by
 have Fh : ∀ (Y : Type) (st : St) (k : St → Option Y), I1 C R fl o st k = VV C o y t st k := fun Y st k => by simp only [I1, D8, EN, hc, ha, ht]
 unfold VV at H;obtain ⟨r, h1, H⟩ := A9 H;obtain ⟨q, h2, H⟩ := A9 H;obtain ⟨a, h3, H⟩ := A9 H;obtain ⟨e, h4, H⟩ := A9 H;obtain ⟨z, h5, H⟩ := A9 H;obtain ⟨zs, h6, H⟩ := A9 H;obtain ⟨h7, H⟩ := F6 H;refine ⟨_, H, by rw [hn]; simp, fun st' A => ⟨_, ((Two.refl A).Ha hws _).put hw _ _, fun Y k' => ?_⟩⟩
 rw [Fh];simp only [VV, A.src _ _ hr, h1, K3, h2, A.s hrs, h3, h4, h5, h6, h7, U7]
theorem A9v {c : Call} {y v : Operand} {t u : TypeId} (D8 : o.op = .call c) (hc : c.callee = .builtin .append) (ha : c.args.toList = [y, v]) (ht : c.argTypes.toList = [t, u]) (H : Io C fl o y v t u st k = some x)
 (hr : J5 (tmpsOf [y, v]) f.rt) (hw : J5 o.dst.toList f.wt) (hwy : J5 (J7 y) f.wt) (hn : f.nb = none) (hos : J9 fl.opn o.dst = true → f.rs = true ∧ f.ws = true) : Fr C R fl o st k x f := by
 obtain ⟨q1, q2⟩ := N_ hr;have Fh : ∀ (Y : Type) (st : St) (k : St → Option Y), I1 C R fl o st k = Io C fl o y v t u st k := fun Y st k => by simp only [I1, D8, EN, hc, ha, ht]
 unfold Io at H;obtain ⟨r, h1, H⟩ := A9 H;obtain ⟨s, h2, H⟩ := A9 H;obtain ⟨sz, h3, H⟩ := A9 H;obtain ⟨h4, H⟩ := F6 H
 by_cases dW : J9 fl.opn o.dst = true
 ·rw [if_pos dW] at H
  obtain ⟨p, h5, H⟩ := A9 H;obtain ⟨o1, o2⟩ := hos dW;refine ⟨_, H, by rw [hn]; simp, fun st' A => ⟨_, (((Two.refl A).release hwy fun i hi => A.t i (q1 i hi)).Ha o2 (st.sg ++ [D7.opn sz p.1 p.2])).put hw _ _, fun Y k' => ?_⟩⟩
  rw [Fh];simp only [Io, A.src _ _ q1, A.src _ _ q2, h1, h2, h3, K3, h4, U7, if_pos dW, h5, A.s o1]
 rw [if_neg dW] at H;obtain ⟨d, h5, H⟩ := A9 H;refine ⟨_, H, by rw [hn]; simp, fun st' A => ⟨_, ((Two.refl A).release hwy fun i hi => A.t i (q1 i hi)).put hw _ _, fun Y k' => ?_⟩⟩
 rw [Fh];simp only [Io, A.src _ _ q1, A.src _ _ q2, h1, h2, h3, K3, h4, U7, if_neg dW, h5]
theorem B3J {c : Call} {y v : Operand} {t u : TypeId} (D8 : o.op = .call c) (hc : c.callee = .builtin .max) (ha : c.args.toList = [y, v]) (ht : c.argTypes.toList = [t, u]) (H : I1 C R fl o st k = some x)
 (hr : J5 (tmpsOf [y, v]) f.rt) (hw : J5 o.dst.toList f.wt) (hn : f.nb = none) : Fr C R fl o st k x f := by
 obtain ⟨q1, q2⟩ := N_ hr;simp only [I1, D8, EN, hc, ha, ht] at H;obtain ⟨r, h1, H⟩ := A9 H;obtain ⟨s, h2, H⟩ := A9 H;obtain ⟨h4, H⟩ := F6 H;obtain ⟨d, h5, H⟩ := A9 H;refine M3 H hw hn fun st' A Y k' => ?_
 simp only [I1, D8, EN, hc, ha, ht, A.src _ _ q1, A.src _ _ q2, h1, h2, K3, h4, U7, h5]
theorem B3K {c : Call} {y v : Operand} {t u : TypeId} (D8 : o.op = .call c) (hc : c.callee = .builtin .min) (ha : c.args.toList = [y, v]) (ht : c.argTypes.toList = [t, u]) (H : I1 C R fl o st k = some x)
 (hr : J5 (tmpsOf [y, v]) f.rt) (hw : J5 o.dst.toList f.wt) (hn : f.nb = none) : Fr C R fl o st k x f := by
 obtain ⟨q1, q2⟩ := N_ hr;simp only [I1, D8, EN, hc, ha, ht] at H;obtain ⟨r, h1, H⟩ := A9 H;obtain ⟨s, h2, H⟩ := A9 H;obtain ⟨h4, H⟩ := F6 H;obtain ⟨d, h5, H⟩ := A9 H;refine M3 H hw hn fun st' A Y k' => ?_
 simp only [I1, D8, EN, hc, ha, ht, A.src _ _ q1, A.src _ _ q2, h1, h2, K3, h4, U7, h5]
theorem B2s {c : Call} {g : FuncId} (D8 : o.op = .call c) (hc : c.callee = .value (.func g)) (h1 : C.clone g = false) (h0 : C.dh g = none) (h2 : C.sig g = none) (H : I1 C R fl o st k = some x)
 (hr : J5 (tmpsOf c.args.toList) f.rt) (hw : J5 o.dst.toList f.wt) (hn : f.nb = none) : Fr C R fl o st k x f := by
 have jY : ¬ (C.clone g = true) := by rw [h1]; simp
 simp only [I1, D8, EN, hc, src, K3, IQ, if_neg jY, h0, h2, List.map_nil, List.append_nil] at H;obtain ⟨rs, h3, H⟩ := A9 H;obtain ⟨h4, H⟩ := F6 H;obtain ⟨d, h5, H⟩ := A9 H;refine M3 H hw hn fun st' A Y k' => ?_
 simp only [I1, D8, EN, hc, src, K3, IQ, if_neg jY, h0, h2, List.map_nil, List.append_nil, A.Gx _ hr, h3, h4, U7, h5]
theorem Two.GV {st' s s' : St} (A : Two f st st' s s') {g : Option (Nat × Operand)} (hx : ∀ p, g = some p → J5 (J7 p.2) f.wt) (he : ∀ p, g = some p → ∀ t ∈ J7 p.2, s'.tm[t]? = s.tm[t]? ∧ s'.mt[t]? = s.mt[t]?) :
 Two f st st' (s.GV g) (s'.GV g) := by
 cases g with
 | none => exact A
 | some p => exact A.release (hx p rfl) (he p rfl)
theorem B3G {c : Call} {y : Operand} (D8 : o.op = .call c) (hc : c.callee = .value y) (H : I1 C R fl o st k = some x)
 (hr : J5 (tmpsOf (y :: c.args.toList)) f.rt) (hw : J5 o.dst.toList f.wt) (hwa : J5 (tmpsOf c.args.toList) f.wt) (hn : f.nb = none) (hrs : f.rs = true) (hws : f.ws = true) : Fr C R fl o st k x f := by
 have q1 : J5 (J7 y) f.rt := fun i h => hr i (by simp only [tmpsOf, List.flatMap_cons, List.mem_append]; exact .inl h)
 have q2 : J5 (tmpsOf c.args.toList) f.rt := fun i h => hr i (by simp only [tmpsOf, List.flatMap_cons, List.mem_append] at h ⊢; exact .inr h)
 simp only [I1, D8, EN, hc] at H;obtain ⟨r, h1, H⟩ := A9 H;obtain ⟨rs, h2, H⟩ := A9 H
 split at H
 ·rename_i g caps hm
  have Fh : ∀ st', FD f st st' → ∀ (Y : Type) (k' : St → Option Y), I1 C R fl o st' k' = IQ C R o g c.args.toList (rs ++ caps.map fun m => (.undef, .ptr m.1 m.2)) st' k' := by
   intro st' A Y k';simp only [I1, D8, EN, hc, A.src _ _ q1, A.Gx _ q2, h1, h2, K3, hm]
  generalize rs ++ caps.map (fun m => ((.undef, .ptr m.1 m.2) : DV × Meta)) = rs' at H Fh
  unfold IQ at H
  by_cases Uq : C.clone g = true
  ·rw [if_pos Uq] at H
   split at H
   ·rename_i r' 
    ·obtain ⟨p, hd, H⟩ := A9 H
     obtain ⟨h3, H⟩ := F6 H;refine ⟨_, H, by rw [hn]; simp, fun st' A => ⟨_, ((Two.refl A).Ha hws _).put hw _ _, fun Y k' => ?_⟩⟩
     rw [Fh st' A];simp only [IQ, if_pos Uq, hd, K3, h3, U7, A.s hrs]
   ·simp at H
  ·rw [if_neg Uq] at H
   cases zh : C.dh g with
   | some g' =>
     rw [zh] at H;simp only at H
     split at H
     ·rename_i r'
      obtain ⟨p, hd, H⟩ := A9 H;obtain ⟨h3, H⟩ := F6 H;refine ⟨_, H, by rw [hn]; simp, fun st' A => ⟨_, ((Two.refl A).Ha hws _).put hw _ _, fun Y k' => ?_⟩⟩
      rw [Fh st' A];simp only [IQ, if_neg Uq, zh, hd, K3, h3, U7, A.s hrs]
     ·simp at H
   | none =>
   rw [zh] at H;simp only at H
   split at H
   ·rename_i hs
    obtain ⟨h3, H⟩ := F6 H;obtain ⟨d, h4, H⟩ := A9 H;refine M3 H hw hn fun st' A Y k' => ?_
    rw [Fh st' A];simp only [IQ, if_neg Uq, zh, hs, h3, U7, h4, K3]
   ·rename_i s hs
    obtain ⟨h3, H⟩ := F6 H;obtain ⟨q, h4, H⟩ := A9 H;obtain ⟨H, h6⟩ := zw H;have BI : ∀ p, EY 0 s.params c.args.toList = some p → J5 (J7 p.2) (tmpsOf c.args.toList) := by
     intro p hp i hi;obtain ⟨_, _, h5⟩ := qE hp;exact List.mem_flatMap.2 ⟨p.2, List.mem_of_getElem? h5, hi⟩
    refine ⟨_, H, by rw [hn]; simp, fun st' A => ⟨_, (((Two.refl A).Ha hws q.2).GV (fun p hp i hi => hwa i (BI p hp i hi)) fun p hp i hi => A.t i (q2 i (BI p hp i hi))).put hw _ _, fun Y k' => ?_⟩⟩
    rw [Fh st' A];simp only [IQ, if_neg Uq, zh, hs, h3, U7, A.s hrs, h4, K3];exact h6 _ _
 ·simp at H
def U6 (C : V6) (fl : Flags) (o : Oper) (st : St) : Fp :=
 if Wy C o then { rt := tmpsOf o.op.operands.toList, wt := o.dst.toList } else Dl fl o st
theorem J5.refl (a : List Nat) : J5 a a := fun _ h => h
theorem Nz (a b : List Nat) : J5 a (a ++ b) := fun _ h => List.mem_append.2 (.inl h)
theorem mH (a b : List Nat) : J5 b (a ++ b) := fun _ h => List.mem_append.2 (.inr h)
theorem A2X {c : Prop} [Decidable c] (a b : List Nat) (h : c) : J5 b (a ++ (if c then b else [])) := by rw [if_pos h]; exact mH _ _
theorem ku (H : I1 C R fl o st k = some x) : Fr C R fl o st k x (U6 C fl o st) := by
 have np : ∀ op, o.op = op → (∀ c, op ≠ .call c) → Wy C o = false := by
  intro op h1 h2;unfold Wy
  split
  ·rename_i c hc; exact absurd (h1.symm.trans hc) (h2 c)
  ·rfl
 have H0 := H;unfold I1 at H
 split at H
 ·rename_i y D8
  have e : U6 C fl o st = { rt := J7 y, wt := o.dst.toList ++ (if J9 fl.L8 o.dst then J7 y else []) } := by simp [U6, np _ D8 (by simp), Dl, D8]
  rw [e];exact A7i (.inl D8) H0 (J5.refl _) (Nz _ _) (fun h => A2X _ _ h) rfl
 ·rename_i y D8
  have e : U6 C fl o st = { rt := J7 y, wt := o.dst.toList ++ (if J9 fl.L8 o.dst then J7 y else []) } := by simp [U6, np _ D8 (by simp), Dl, D8]
  rw [e];exact A7i (.inr D8) H0 (J5.refl _) (Nz _ _) (fun h => A2X _ _ h) rfl
 ·rename_i c y z D8
  have e : U6 C fl o st = { rt := tmpsOf [c, y, z], wt := o.dst.toList } := by simp [U6, np _ D8 (by simp), Dl, D8]
  rw [e];exact B2r D8 H0 (J5.refl _) (J5.refl _) rfl
 ·rename_i t D8
  have e : U6 C fl o st = if J9 fl.shared o.dst then { wt := o.dst.toList, rs := true, ws := true } else { wt := o.dst.toList, wb := o.dst.toList, nb := o.dst } := by simp [U6, np _ D8 (by simp), Dl, D8]
  rw [e]
  by_cases hs : J9 fl.shared o.dst = true
  ·rw [if_pos hs]
   exact A49 D8 H0 (J5.refl _) (fun _ => ⟨rfl, rfl, rfl⟩) (fun h => by rw [hs] at h; cases h)
  ·rw [if_neg hs]
   exact A49 D8 H0 (J5.refl _) (fun h => absurd h hs) (fun h => ⟨rfl, J5.refl _⟩)
 ·rename_i t y D8
  have e : U6 C fl o st = if J9 fl.Xl o.dst then { rt := J7 y, wt := o.dst.toList } else if J9 fl.L8 o.dst then { rt := J7 y, wt := o.dst.toList ++ J7 y, wb := o.dst.toList, nb := o.dst } else if J9 fl.shared o.dst then { rt := J7 y, wt := o.dst.toList, rs := true, ws := true } else { rt := J7 y, wt := o.dst.toList, wb := o.dst.toList, nb := o.dst } := by simp [U6, np _ D8 (by simp), Dl, D8]
  rw [e]
  by_cases Gs : J9 fl.Xl o.dst = true
  ·rw [if_pos Gs]
   exact A1G D8 H0 (J5.refl _) (J5.refl _) (fun _ => rfl) (fun h => by rw [Gs] at h; cases h) (fun h => by rw [Gs] at h; cases h) (fun h => by rw [Gs] at h; cases h)
  rw [if_neg Gs]
  by_cases Q4 : J9 fl.L8 o.dst = true
  ·rw [if_pos Q4]
   exact A1G D8 H0 (J5.refl _) (fun t ht => List.mem_append_left _ ht) (fun h => absurd h Gs) (fun _ _ => ⟨fun t ht => List.mem_append_right _ ht, rfl, J5.refl _⟩) (fun _ h => by rw [Q4] at h; cases h) (fun _ h => by rw [Q4] at h; cases h)
  rw [if_neg Q4]
  by_cases hs : J9 fl.shared o.dst = true
  ·rw [if_pos hs]
   exact A1G D8 H0 (J5.refl _) (J5.refl _) (fun h => absurd h Gs) (fun _ h => absurd h Q4) (fun _ _ _ => ⟨rfl, rfl, rfl⟩) (fun _ _ h => by rw [hs] at h; cases h)
  ·rw [if_neg hs]
   exact A1G D8 H0 (J5.refl _) (J5.refl _) (fun h => absurd h Gs) (fun _ h => absurd h Q4) (fun _ _ h => absurd h hs) (fun _ _ h => ⟨rfl, J5.refl _⟩)
 ·rename_i t ps D8
  have e : U6 C fl o st = { rt := tmpsOf (ps.toList.map (·.2)), wt := o.dst.toList } := by simp [U6, np _ D8 (by simp), Dl, D8]
  rw [e];exact B0R D8 H0 (J5.refl _) (J5.refl _) rfl
 ·rename_i t n ps D8
  have e : U6 C fl o st = { rt := tmpsOf (ps.toList.map (·.2)), wt := o.dst.toList } := by simp [U6, np _ D8 (by simp), Dl, D8]
  rw [e];exact A3Z D8 H0 (J5.refl _) (J5.refl _) rfl
 ·rename_i t y D8
  have hsr : ∃ r, src C.P 0 st y = some r := by unfold Di at H; obtain ⟨r, h, _⟩ := A9 H; exact ⟨r, h⟩
  obtain ⟨r, hr⟩ := hsr;obtain ⟨r', Bo, hm⟩ := A6o C.P default hr;have e : U6 C fl o st = { rt := J7 y, wt := o.dst.toList, rb := (Dm r'.2).1, wb := if J9 fl.L8 o.dst then (Dm r'.2).1 else [], rs := (Dm r'.2).2, ws := J9 fl.L8 o.dst && (Dm r'.2).2 } := by
   simp [U6, np _ D8 (by simp), Dl, D8, Bo]
  rw [e];refine B2q D8 H0 (J5.refl _) (J5.refl _) rfl fun r0 h0 => ?_
  rw [hr] at h0;cases h0;rw [hm];refine ⟨J5.refl _, id, fun Q4 => ⟨?_, fun h => ?_⟩⟩
  ·simp only [Q4, if_true]; exact J5.refl _
  ·simp only [Q4, Bool.true_and]; exact h
 ·rename_i t y v D8
  have hsr : ∃ r, src C.P 0 st y = some r := by unfold ES at H; obtain ⟨r, h, _⟩ := A9 H; exact ⟨r, h⟩
  obtain ⟨r, hr⟩ := hsr;obtain ⟨r', Bo, hm⟩ := A6o C.P default hr;have e : U6 C fl o st = { rt := tmpsOf [y, v], wt := o.dst.toList ++ DX st.mt v, rb := (Dm r'.2).1, wb := (Dm r'.2).1, rs := (Dm r'.2).2, ws := (Dm r'.2).2, so := if o.dst.isNone then d_ r'.2 else none } := by
   simp [U6, np _ D8 (by simp), Dl, D8, Bo]
  rw [e];refine B0W D8 H0 (J5.refl _) (Nz _ _) (mH _ _) rfl fun r0 h0 => ?_
  rw [hr] at h0;cases h0;rw [hm];exact ⟨J5.refl _, id, J5.refl _, id⟩
 ·rename_i y D8
  have e : U6 C fl o st = { rt := J7 y, wt := o.dst.toList } := by simp [U6, np _ D8 (by simp), Dl, D8]
  rw [e];exact A6H D8 H0 (J5.refl _) (J5.refl _) rfl
 ·rename_i op t y z yt D8
  have e : U6 C fl o st = { rt := tmpsOf [y, z], wt := o.dst.toList } := by simp [U6, np _ D8 (by simp), Dl, D8]
  rw [e];exact B3H D8 H0 (J5.refl _) (J5.refl _) rfl
 ·rename_i op t y D8
  have e : U6 C fl o st = { rt := J7 y, wt := o.dst.toList } := by simp [U6, np _ D8 (by simp), Dl, D8]
  rw [e];exact B47 D8 H0 (J5.refl _) (J5.refl _) rfl
 ·rename_i t u y D8
  have e : U6 C fl o st = { rt := J7 y, wt := o.dst.toList } := by simp [U6, np _ D8 (by simp), Dl, D8]
  rw [e];exact B2p D8 H0 (J5.refl _) (J5.refl _) rfl
 ·rename_i t y i D8
  have e : U6 C fl o st = { rt := J7 y, wt := o.dst.toList } := by simp [U6, np _ D8 (by simp), Dl, D8]
  rw [e];exact A5a D8 H0 (J5.refl _) (J5.refl _) rfl
 ·rename_i t y i D8
  have e : U6 C fl o st = { rt := J7 y, wt := o.dst.toList } := by simp [U6, np _ D8 (by simp), Dl, D8]
  rw [e];exact B0T D8 H0 (J5.refl _) (J5.refl _) rfl
 ·rename_i t y i D8
  have e : U6 C fl o st = { rt := tmpsOf [y, i], wt := o.dst.toList } := by simp [U6, np _ D8 (by simp), Dl, D8]
  rw [e];exact A5b D8 H0 (J5.refl _) (J5.refl _) rfl
 ·rename_i t y i D8
  have e : U6 C fl o st = { rt := tmpsOf [y, i], wt := o.dst.toList } := by simp [U6, np _ D8 (by simp), Dl, D8]
  rw [e];exact B0U D8 H0 (J5.refl _) (J5.refl _) rfl
 ·rename_i t y lo hi mx D8
  have e : U6 C fl o st = { rt := tmpsOf (y :: (lo.toList ++ hi.toList ++ mx.toList)), wt := o.dst.toList } := by simp [U6, np _ D8 (by simp), Dl, D8]
  rw [e];exact B0V D8 H0 (J5.refl _) (J5.refl _) rfl
 ·rename_i g first caps D8
  have e : U6 C fl o st = { rt := tmpsOf caps.toList, wt := o.dst.toList } := by simp [U6, np _ D8 (by simp), Dl, D8]
  rw [e];exact A6G D8 H0 (J5.refl _) (J5.refl _) rfl
 ·rename_i t D8
  have e : U6 C fl o st = { rt := tmpsOf o.op.operands.toList, wt := o.dst.toList ++ tmpsOf o.op.operands.toList, rs := true, ws := true } := by simp [U6, np _ D8 (by simp), Dl, D8]
  rw [e];exact A75 D8 H0 (Nz _ _) rfl rfl rfl
 ·rename_i t y v ok D8
  have e : U6 C fl o st = { rt := tmpsOf [y, v], wt := o.dst.toList, rs := true } := by simp [U6, np _ D8 (by simp), Dl, D8]
  rw [e];exact A9w D8 H0 (J5.refl _) (J5.refl _) rfl rfl
 ·rename_i t y v u D8
  have e : U6 C fl o st = { rt := tmpsOf [y, v, u], wt := o.dst.toList ++ tmpsOf [y, v, u], rs := true, ws := true } := by simp [U6, np _ D8 (by simp), Dl, D8, Op.operands]
  rw [e];exact A5c D8 H0 (J5.refl _) (Nz _ _) rfl rfl rfl
 ·rename_i y i D8
  have e : U6 C fl o st = { rt := J7 y, wt := o.dst.toList ++ (if J9 fl.L8 o.dst then J7 y else []), ex := B0K y i o.dst } := by simp [U6, np _ D8 (by simp), Dl, D8]
  rw [e];exact A74 D8 H0 (J5.refl _) (Nz _ _) (fun h => A2X _ _ h) rfl
 ·rename_i c D8
  unfold EN at H
  split at H
  ·rename_i b hb
   have np' : Wy C o = false := by simp [Wy, D8, hb]
   split at H
   ·rename_i h1 h2
    have e : U6 C fl o st = { rt := tmpsOf c.args.toList, wt := o.dst.toList, rs := true } := by simp [U6, np', Dl, D8, hb]
    rw [e];exact B3I D8 hb h1 h2 H (by rw [h1]; simp only [tmpsOf, List.flatMap_cons, List.flatMap_nil, List.append_nil]; exact J5.refl _) (J5.refl _) rfl rfl
   ·rename_i y v t u h1 h2
    have e : U6 C fl o st = { rt := tmpsOf c.args.toList, wt := o.dst.toList ++ tmpsOf c.args.toList, rs := J9 fl.opn o.dst, ws := J9 fl.opn o.dst } := by simp [U6, np', Dl, D8, hb]
    rw [e];refine A9v D8 hb h1 h2 H (by rw [h1]; exact J5.refl _) (Nz _ _) ?_ rfl fun h => ⟨h, h⟩
    intro i hi;refine mH _ _ i ?_;rw [h1];simp only [tmpsOf, List.flatMap_cons, List.mem_append];exact .inl hi
   ·rename_i h1 h2
    have e : U6 C fl o st = { rt := tmpsOf c.args.toList, wt := o.dst.toList, rs := true, ws := true } := by simp [U6, np', Dl, D8, hb]
    rw [e];exact B0S D8 hb h1 h2 H (by rw [h1]; simp only [tmpsOf, List.flatMap_cons, List.flatMap_nil, List.append_nil]; exact J5.refl _) (J5.refl _) rfl rfl rfl
   ·rename_i h1 h2
    have e : U6 C fl o st = { rt := tmpsOf c.args.toList, wt := o.dst.toList } := by simp [U6, np', Dl, D8, hb]
    rw [e];exact B3J D8 hb h1 h2 H0 (by rw [h1]; exact J5.refl _) (J5.refl _) rfl
   ·rename_i h1 h2
    have e : U6 C fl o st = { rt := tmpsOf c.args.toList, wt := o.dst.toList } := by simp [U6, np', Dl, D8, hb]
    rw [e];exact B3K D8 hb h1 h2 H0 (by rw [h1]; exact J5.refl _) (J5.refl _) rfl
   ·simp at H
  ·rename_i y hy
   by_cases hp : Wy C o = true
   ·have e : U6 C fl o st = { rt := tmpsOf o.op.operands.toList, wt := o.dst.toList } := by simp [U6, hp]
    rw [e];unfold Wy at hp;rw [D8] at hp;simp only [hy] at hp
    split at hp
    ·rename_i g hg
     simp only [Callee.value.injEq] at hg;subst hg;simp only [Bool.and_eq_true, Bool.not_eq_true', Option.isNone_iff_eq_none] at hp;refine B2s D8 hy hp.1.1 hp.1.2 hp.2 H0 (fun i hi => ?_) (J5.refl _) rfl
     simp only [D8, Op.operands, Call.operands, hy, Array.toList_append, tmpsOf, List.flatMap_append, List.mem_append] at hi ⊢;exact .inr hi
    ·simp at hp
   ·have e : U6 C fl o st = { rt := tmpsOf (y :: c.args.toList), wt := o.dst.toList ++ tmpsOf c.args.toList, rs := true, ws := true } := by simp [U6, hp, Dl, D8, hy]
    rw [e];exact B3G D8 hy H0 (J5.refl _) (Nz _ _) (mH _ _) rfl rfl rfl
  ·simp at H
 ·simp at H
end
end Go.Su

/-
 THE DATA MACHINE, part 22: regions, in the text's order and in any.
-/
namespace Go.Su
theorem KR {α : Type} {l l' : List α} (h : ∀ i : Nat, l'[i]? = l[i]?) : l' = l := List.ext_getElem? h
theorem Two.same {f : Fp} {st s s' : St} (T : Two f st st s s') : s' = s := by
 have h1 : s'.tm = s.tm := KR fun i => by
  rcases T.t i with ⟨_, h, _⟩ | ⟨⟨h, _⟩, h', _⟩
  ·exact h
  ·rw [h, h']
 have h2 : s'.mt = s.mt := KR fun i => by
  rcases T.t i with ⟨_, _, h⟩ | ⟨⟨_, h⟩, _, h'⟩
  ·exact h
  ·rw [h, h']
 have h3 : s'.bx = s.bx := KR fun i => by
  rcases T.b i with ⟨_, h⟩ | ⟨h, h'⟩
  ·exact h
  ·rw [h, h']
 have h4 : s'.sg = s.sg := by
  rcases T.s with ⟨_, h⟩ | ⟨h, h'⟩
  ·exact h
  ·rw [h, h']
 cases s; cases s'; simp_all
theorem FD.refl {f : Fp} {st : St} (h : ∀ t, f.nb = some t → JS t st.mt = true) : FD f st st := ⟨rfl, rfl, rfl, fun _ _ => ⟨rfl, rfl⟩, fun _ _ => rfl, fun _ => rfl, h⟩
theorem kv {X : Type} {C : V6} {R : N7} {fl : Flags} {o : Oper} {st : St} {k : St → Option X} {x : X} (H : I1 C R fl o st k = some x) :
 ∃ s, k s = some x ∧ ∀ (Y : Type) (k' : St → Option Y), I1 C R fl o st k' = k' s := by
 obtain ⟨s, h1, h2, h3⟩ := ku H;obtain ⟨s', h4, h5⟩ := h3 st (FD.refl h2);rw [h4.same] at h5;exact ⟨s, h1, h5⟩
theorem EF {st : St} {t : Nat} {d : DV} (h : (st.get t).1 = d) (hd : d ≠ .undef) : st.know t d = st := by
 unfold St.know;have ht : st.tm[t]? = some d := by
  simp only [St.get, List.getD_eq_getElem?_getD] at h;cases hx : st.tm[t]? with
  | none => rw [hx] at h; exact absurd h.symm hd
  | some e => rw [hx] at h; simp only [Option.getD_some] at h; rw [h]
 have : st.tm.set t d = st.tm := by
  apply List.ext_getElem?;intro i
  by_cases hi : t = i
  ·subst hi
   rw [List.getElem?_set_self' ];rw [ht]; rfl
  ·rw [List.getElem?_set_ne hi]
 rw [this]
theorem A5w {β : Type} {d : DV} {a b c : Option β} {x : β} (h : I6 d a b c = some x) : (d = .bool true ∧ a = some x) ∨ (d = .bool false ∧ b = some x) ∨ (d = .H7 [] ∧ c = some x) := by
 unfold I6 at h
 split at h
 ·exact .inl ⟨rfl, h⟩
 ·exact .inr (.inl ⟨rfl, h⟩)
 ·exact .inr (.inr ⟨rfl, h⟩)
 ·simp at h
section
variable (C : V6) (R : N7) (fl : Flags) (ops : List Oper)
def X3 (o : Oper) (s s1 : St) : Prop :=
 match o.guard with
 | none => I1 C R fl o s some = some s1
 | some (g, want) => ∃ t, Iu ops g = some t ∧ J2 (s.get t).2 = true ∧
    (((s.get t).1 = .bool want ∧ I1 C R fl o s some = some s1) ∨ (((s.get t).1 = .bool !want ∨ (s.get t).1 = .H7 []) ∧ s1 = s.put o.dst (.H7 []) .val))
def qB (want : Bool) : DV → Bool
 | .bool b => b == want
 | _ => false
def Bb (o : Oper) (s : St) : Fp :=
 match o.guard with
 | none => U6 C fl o s
 | some (g, want) =>
   match Iu ops g with
   | none => {}
   | some t => if qB want (s.get t).1 then (U6 C fl o s).look t else { rt := [t], wt := o.dst.toList }
end
section
variable {C : V6} {R : N7} {fl : Flags} {ops : List Oper} {o : Oper}
theorem FD.weaken {f g : Fp} {st st' : St} (A : FD f st st') (h1 : J5 g.rt f.rt) (h2 : J5 g.rb f.rb) (h3 : g.rs = true → f.rs = true) (h4 : ∀ t, g.nb = some t → f.nb = some t) : FD g st st' :=
 ⟨A.lt, A.lm, A.lb, fun i hi => A.t i (h1 i hi), fun i hi => A.b i (h2 i hi), fun h => A.s (h3 h), fun t h => A.n t (h4 t h)⟩
theorem FD.get {f : Fp} {st st' : St} (A : FD f st st') {t : Nat} (h : t ∈ f.rt) : st'.get t = st.get t := by
 obtain ⟨h1, h2⟩ := A.t t h;simp only [St.get, KJ h1, KJ h2]
theorem A7h {st st' : St} (A : FD (U6 C fl o st) st st') : U6 C fl o st' = U6 C fl o st := by
 unfold U6 at A ⊢
 split
 ·rfl
 ·rename_i hp
  rw [if_neg hp] at A;unfold Dl at A ⊢
  split <;> rename_i D8
  all_goals first
   | rfl
   | (rename_i y
      cases y with
      | tmp t =>
        rw [D8] at A;simp only [src] at A ⊢;rw [A.get (t := t) (by simp [J7])]
      | _ => rfl)
   | (rename_i y v
      rw [D8] at A;simp only at A ⊢;have hrt : ∀ r, src default 0 st y = some r → ∀ u ∈ J7 v, st'.mt[u]? = st.mt[u]? := fun r hr u hu => by
       rw [hr] at A;exact (A.t u (by simp [tmpsOf, hu])).2
      cases y with
      | tmp t =>
        simp only [src] at A hrt ⊢;rw [A.get (t := t) (by simp [J7, tmpsOf])]
        rw [j_ (hrt _ rfl)]
      | const c =>
        simp only [src] at A hrt ⊢;cases hc : cst default 0 c with
        | none => rfl
        | some r => rw [j_ (hrt _ hc)]
      | func f =>
        simp only [src] at A hrt ⊢;rw [j_ (hrt _ rfl)]
      | global g => rfl)
theorem Yw {want : Bool} {d : DV} : qB want d = true ↔ d = .bool want := by
 unfold qB
 split
 ·simp
 ·rename_i h
  simp only [Bool.false_eq_true, false_iff];intro hd;exact h _ hd
theorem A2j {s s1 : St} (H : X3 C R fl ops o s s1) : (∀ t, (Bb C fl ops o s).nb = some t → JS t s.mt = true) ∧
 ∀ s', FD (Bb C fl ops o s) s s' → Bb C fl ops o s' = Bb C fl ops o s ∧ ∃ s1', Two (Bb C fl ops o s) s s' s1 s1' ∧ X3 C R fl ops o s' s1' := by
 unfold X3 at H;unfold Bb X3
 split at H
 ·rename_i hg
  obtain ⟨s0, h1, h2, h3⟩ := ku H;simp only [Option.some.injEq] at h1;subst h1;refine ⟨h2, fun s' A => ⟨A7h A, ?_⟩⟩
  obtain ⟨s1', h4, h5⟩ := h3 s' A;exact ⟨s1', h4, h5 _ some⟩
 ·rename_i g want hg
  obtain ⟨t, ht, hd, H⟩ := H;simp only [ht];rcases H with ⟨hb, H⟩ | ⟨hb, H⟩
  ·have hB : qB want (s.get t).1 = true := Yw.2 hb
   rw [if_pos hB];obtain ⟨s0, h1, h2, h3⟩ := ku H;simp only [Option.some.injEq] at h1;subst h1;refine ⟨h2, fun s' A => ?_⟩
   have A' : FD (U6 C fl o s) s s' := A.weaken (fun i hi => List.mem_cons_of_mem _ hi) (fun _ h => h) id fun _ h => h
   have A0n : s'.get t = s.get t := A.get (List.mem_cons_self ..);rw [A0n, if_pos hB, A7h A'];refine ⟨rfl, ?_⟩;obtain ⟨s1', h4, h5⟩ := h3 s' A';refine ⟨s1', ⟨h4.l, h4.ls, h4.ls', h4.t, h4.b, h4.s⟩, t, rfl, by rw [A0n]; exact hd, .inl ⟨by rw [A0n]; exact hb, h5 _ some⟩⟩
  ·have hB : ¬ (qB want (s.get t).1 = true) := by
    rw [Yw];rcases hb with h | h <;> rw [h] <;> cases want <;> simp
   rw [if_neg hB];refine ⟨by simp, fun s' A => ?_⟩
   have A0n : s'.get t = s.get t := A.get (List.mem_cons_self ..);rw [A0n, if_neg hB];refine ⟨rfl, s'.put o.dst (.H7 []) .val, ?_, t, rfl, by rw [A0n]; exact hd, .inr ⟨by rw [A0n]; exact hb, rfl⟩⟩
   rw [H];exact (Two.refl A).put (fun _ h => h) _ _
theorem X3.det {s s1 s2 : St} (H1 : X3 C R fl ops o s s1) (H2 : X3 C R fl ops o s s2) : s1 = s2 := by
 unfold X3 at H1 H2
 split at H1
 ·rename_i hg
  simp only [hg] at H2;rw [H1] at H2;simpa using H2
 ·rename_i g want hg
  simp only [hg] at H2;obtain ⟨t, ht, hd, H1⟩ := H1;obtain ⟨t', ht', GJ, H2⟩ := H2;rw [ht] at ht';cases ht';rcases H1 with ⟨a, b⟩ | ⟨a, b⟩ <;> rcases H2 with ⟨c, d⟩ | ⟨c, d⟩
  ·rw [b] at d; simpa using d
  ·rw [a] at c; cases want <;> simp at c
  ·rw [c] at a; cases want <;> simp at a
  ·rw [b, d]
theorem IU {a b : List Nat} (h : fZ a b = true) : ∀ i, i ∈ a → i ∉ b := by
 intro i hi hb;have := List.all_eq_true.1 h i hi;simp [hb] at this
theorem EU {mt mt' : List Meta} {i : Nat} (h : mt'[i]? = mt[i]?) : Fy mt' i = Fy mt i := by
 unfold Fy; rw [KJ h]
theorem l6 {α β : Type} {l : List α} {f g : α → List β} (h : ∀ x ∈ l, f x = g x) : l.flatMap f = l.flatMap g := by
 induction l with
 | nil => rfl
 | cons a l ih => rw [List.flatMap_cons, List.flatMap_cons, h a (List.mem_cons_self ..), ih fun x hx => h x (List.mem_cons_of_mem _ hx)]
theorem Yh {t : Nat} {mt : List Meta} : JS t mt = true ↔ ∀ (i : Nat) s o, mt[i]? = some (.loc s o) → s ≠ t := by
 unfold JS;rw [List.all_eq_true];constructor
 ·intro h i s o hi
  have := h _ (List.mem_of_getElem? hi);simpa using this
 ·intro h m hm
  obtain ⟨i, hi⟩ := List.mem_iff_getElem?.1 hm
  split
  ·rename_i s o
   simpa using h i s o hi
  ·rfl
theorem B0L {o : Oper} {x i d : Nat} {s s1 : St} (D8 : o.op = .extract (.tmp x) i) (hd : o.dst = some d) : I1 C R fl o s some = some s1 ↔
 ∃ dv, N8 i (s.get x).1 = some dv ∧ (((s.get x).2 = .val ∧ s1 = s.put (some d) dv .val) ∨ ∃ ms, (s.get x).2 = .BR ms ∧
   ((ms.getD i .val = .own ∧ J9 fl.L8 (some d) = true ∧ s1 = { s with mt := s.mt.set x (.BR (ms.set i .val)) }.put (some d) dv .own) ∨
    ((ms.getD i .val = .val ∨ (ms.getD i .val = .own ∧ J9 fl.L8 (some d) = false)) ∧ s1 = s.put (some d) dv .val))) := by
 simp only [I1, D8, hd, src, K3];generalize s.get x = r;obtain ⟨r1, r2⟩ := r;simp only;constructor
 ·intro H
  split at H
  ·obtain ⟨dv, h1, H⟩ := A9 H
   simp only [Option.some.injEq] at H;exact ⟨dv, h1, .inl ⟨rfl, H.symm⟩⟩
  ·rename_i ms
   obtain ⟨dv, h1, H⟩ := A9 H;refine ⟨dv, h1, .inr ⟨ms, rfl, ?_⟩⟩
   split at H
   ·rename_i hm
    split at H
    ·rename_i Q4
     simp only [Option.some.injEq, St.mK] at H;exact .inl ⟨hm, Q4, H.symm⟩
    ·rename_i Q4
     simp only [Option.some.injEq] at H;exact .inr ⟨.inr ⟨hm, by simpa using Q4⟩, H.symm⟩
   ·rename_i hm
    simp only [Option.some.injEq] at H;exact .inr ⟨.inl hm, H.symm⟩
   ·simp at H
  ·simp at H
 ·rintro ⟨dv, h1, ⟨h2, rfl⟩ | ⟨ms, h2, ⟨h3, h4, rfl⟩ | ⟨h3 | ⟨h3, h4⟩, rfl⟩⟩⟩
  ·subst h2; simp only [h1, K3]
  ·subst h2; simp only [h1, K3, h3, h4, if_true, St.mK]
  ·subst h2; simp only [h1, K3, h3]
  ·subst h2; simp only [h1, K3, h3, h4, Bool.false_eq_true, if_false]
theorem B1N {s : St} {x i d : Nat} (h : (Bb C fl ops o s).ex = some (x, i, d)) : o.guard = none ∧ o.op = .extract (.tmp x) i ∧ o.dst = some d ∧
 (∀ s', Bb C fl ops o s' = Bb C fl ops o s) ∧ ∀ u ∈ (Bb C fl ops o s).wt, u = d ∨ u = x := by
 unfold Bb at h
 split at h
 ·rename_i hg
  unfold U6 at h
  split at h
  ·simp at h
  ·rename_i hp
   unfold Dl at h
   split at h
   all_goals first
    | (simp at h; done)
    | (split at h <;> simp at h; done)
    | (split at h <;> (try (simp at h; done)) <;> split at h <;> (try (simp at h; done)) <;> split at h <;> simp at h; done)
    | skip
   ·rename_i y j D8
    simp only [B0K] at h
    split at h
    ·rename_i t u hd
     simp only [Option.some.injEq, Prod.mk.injEq] at h;obtain ⟨rfl, rfl, rfl⟩ := h;refine ⟨hg, D8, hd, fun s' => ?_, fun u hu => ?_⟩
     ·unfold Bb U6 Dl
      simp only [hg, D8, hp, Bool.false_eq_true, if_false]
     ·unfold Bb U6 Dl at hu
      simp only [hg, D8, hp, Bool.false_eq_true, if_false, hd, Option.toList_some, List.mem_append, List.mem_singleton] at hu;rcases hu with hu | hu
      ·exact .inl hu
      ·split at hu
       ·simp only [J7, List.mem_singleton] at hu; exact .inr hu
       ·simp at hu
    ·simp at h
   all_goals (split at h <;> (try simp at h) <;> (try (split at h <;> simp at h)))
 ·split at h
  ·simp at h
  ·split at h <;> simp [Fp.look] at h
theorem UH {s : St} {d x : Nat} {v : DV} {m : Meta} (h : d ≠ x) : (s.put (some d) v m).get x = s.get x := by
 simp only [St.get, St.put, List.getD_eq_getElem?_getD, List.getElem?_set_ne h]
def taken (s : St) (x i d : Nat) (dv : DV) (own : Bool) : St :=
 if own then { s with mt := s.mt.set x (match (s.get x).2 with | .BR ms => .BR (ms.set i .val) | m => m) }.put (some d) dv .own else s.put (some d) dv .val
def ways (fl : Flags) (d i : Nat) (m : Meta) (own : Bool) : Prop :=
 (m = .val ∧ own = false) ∨ ∃ ms, m = .BR ms ∧ ((ms.getD i .val = .own ∧ J9 fl.L8 (some d) = true ∧ own = true) ∨ ((ms.getD i .val = .val ∨ (ms.getD i .val = .own ∧ J9 fl.L8 (some d) = false)) ∧ own = false))
theorem dF {o : Oper} {x i d : Nat} {s s1 : St} (D8 : o.op = .extract (.tmp x) i) (hd : o.dst = some d) : I1 C R fl o s some = some s1 ↔
 ∃ dv own, N8 i (s.get x).1 = some dv ∧ ways fl d i (s.get x).2 own ∧ s1 = taken s x i d dv own := by
 rw [B0L D8 hd];constructor
 ·rintro ⟨dv, h1, ⟨h2, rfl⟩ | ⟨ms, h2, ⟨h3, h4, rfl⟩ | ⟨h3, rfl⟩⟩⟩
  ·exact ⟨dv, false, h1, .inl ⟨h2, rfl⟩, rfl⟩
  ·exact ⟨dv, true, h1, .inr ⟨ms, h2, .inl ⟨h3, h4, rfl⟩⟩, by simp only [taken, if_true, h2]⟩
  ·exact ⟨dv, false, h1, .inr ⟨ms, h2, .inr ⟨h3, rfl⟩⟩, rfl⟩
 ·rintro ⟨dv, own, h1, ⟨h2, rfl⟩ | ⟨ms, h2, ⟨h3, h4, rfl⟩ | ⟨h3, rfl⟩⟩, rfl⟩
  ·exact ⟨dv, h1, .inl ⟨h2, rfl⟩⟩
  ·exact ⟨dv, h1, .inr ⟨ms, h2, .inl ⟨h3, h4, by simp only [taken, if_true, h2]⟩⟩⟩
  ·exact ⟨dv, h1, .inr ⟨ms, h2, .inr ⟨h3, rfl⟩⟩⟩
theorem bN {d i : Nat} {m : Meta} (h : ways fl d i m true) : ∃ ms, m = .BR ms := by
 rcases h with ⟨_, h⟩ | ⟨ms, h, _⟩
 ·cases h
 ·exact ⟨ms, h⟩
theorem RX {mt : List Meta} {d i x : Nat} {tm : List DV} {bx sg} {own : Bool} (h : ways fl d i ((⟨tm, mt, bx, sg⟩ : St).get x).2 own) : Fy mt x = [] := by
 unfold Fy;rcases h with ⟨h, _⟩ | ⟨ms, h, _⟩ <;> simp only [St.get] at h <;> rw [h]
theorem mJ {s : St} {x i d : Nat} {dv : DV} {own : Bool} {u : Nat} (h1 : u ≠ d) (h2 : u ≠ x) : (taken s x i d dv own).mt[u]? = s.mt[u]? := by
 unfold taken
 split
 ·simp only [St.put, List.getElem?_set_ne (Ne.symm h1), List.getElem?_set_ne (Ne.symm h2)]
 ·simp only [St.put, List.getElem?_set_ne (Ne.symm h1)]
theorem A0r {s : St} {x : Nat} {ms : List Meta} (h : (s.get x).2 = .BR ms) : x < s.mt.length := by
 by_cases hx : x < s.mt.length
 ·exact hx
 ·simp [St.get, List.getD_eq_getElem?_getD, List.getElem?_eq_none (Nat.le_of_not_lt hx)] at h
theorem A3K {s : St} {x i j d e : Nat} {dv : DV} {own own' : Bool} (PL : i ≠ j) (Wu : d ≠ x) (hw : ways fl d i (s.get x).2 own) :
 ((taken s x i d dv own).get x).1 = (s.get x).1 ∧ (ways fl e j ((taken s x i d dv own).get x).2 own' ↔ ways fl e j (s.get x).2 own') := by
 unfold taken
 split
 ·rename_i ho
  subst ho;obtain ⟨ms, hm⟩ := bN hw;have hx := A0r hm;have e1 : (({ s with mt := s.mt.set x (match (s.get x).2 with | .BR ms => .BR (ms.set i .val) | m => m) } : St).put (some d) dv .own).get x = ((s.get x).1, .BR (ms.set i .val)) := by
   rw [UH Wu];simp only [St.get, List.getD_eq_getElem?_getD, List.getElem?_set_self hx, Option.getD_some] at hm ⊢;rw [hm]
  rw [e1];refine ⟨rfl, ?_⟩;unfold ways;rw [hm];simp only [reduceCtorEq, false_and, false_or, Meta.BR.injEq, exists_eq_left', List.getD_eq_getElem?_getD, List.getElem?_set_ne PL]
 ·rw [UH Wu]
  exact ⟨rfl, Iff.rfl⟩
theorem A3L {s : St} {x i d : Nat} {dv : DV} {own : Bool} (Wu : d ≠ x) (hw : ways fl d i (s.get x).2 own) : Fy (taken s x i d dv own).mt x = [] := by
 unfold taken
 split
 ·rename_i ho
  subst ho;obtain ⟨ms, hm⟩ := bN hw;have hx := A0r hm;simp only [Fy, St.put, List.getD_eq_getElem?_getD, List.getElem?_set_ne Wu, List.getElem?_set_self hx, Option.getD_some, hm]
 ·have := RX (tm := s.tm) (mt := s.mt) (bx := s.bx) (sg := s.sg) hw
  rw [← this];exact EU (by simp only [St.put, List.getElem?_set_ne Wu])
theorem A8Q {s : St} {x i j d e : Nat} {dv ev : DV} {o1 o2 : Bool} (PL : i ≠ j) (zb : d ≠ e) (Wu : d ≠ x) (hex : e ≠ x) (h1 : ways fl d i (s.get x).2 o1) (h2 : ways fl e j (s.get x).2 o2) :
 taken (taken s x i d dv o1) x j e ev o2 = taken (taken s x j e ev o2) x i d dv o1 := by
 cases o1 <;> cases o2
 ·simp only [taken, Bool.false_eq_true, if_false, St.put, List.set_comm _ _ zb]
 ·obtain ⟨ms, hm⟩ := bN h2
  simp only [taken, Bool.false_eq_true, if_false, if_true, UH Wu, hm];simp only [St.put, List.set_comm _ _ zb, List.set_comm _ _ Wu]
 ·obtain ⟨ms, hm⟩ := bN h1
  simp only [taken, Bool.false_eq_true, if_false, if_true, UH hex, hm];simp only [St.put, List.set_comm _ _ zb, List.set_comm _ _ hex]
 ·obtain ⟨ms, hm⟩ := bN h1
  have hx := A0r hm;have g1 : ∀ (k f : Nat) (fv : DV), f ≠ x → (({ s with mt := s.mt.set x (.BR (ms.set k .val)) } : St).put (some f) fv .own).get x = ((s.get x).1, .BR (ms.set k .val)) := by
   intro k f fv hf;rw [UH hf];simp only [St.get, List.getD_eq_getElem?_getD, List.getElem?_set_self hx, Option.getD_some]
  simp only [taken, if_true, hm, g1 i d dv Wu, g1 j e ev hex];simp only [St.put, List.set_comm _ _ zb, List.set_comm _ _ hex, List.set_comm _ _ Wu, List.set_set, List.set_comm _ _ PL]
theorem B0M {oi oj : Oper} {x i j d e : Nat} {s s1 s2 : St} (gi : oi.guard = none) (gj : oj.guard = none) (pi : oi.op = .extract (.tmp x) i) (pj : oj.op = .extract (.tmp x) j) (di : oi.dst = some d) (dj : oj.dst = some e)
 (PL : i ≠ j) (zb : d ≠ e) (Wu : d ≠ x) (hex : e ≠ x) (Hj : X3 C R fl ops oj s s1) (Hi : X3 C R fl ops oi s1 s2) :
 ∃ s1', X3 C R fl ops oi s s1' ∧ X3 C R fl ops oj s1' s2 ∧ (∀ u, u = d ∨ u = x → Fy s1'.mt u = Fy s2.mt u ∧ Fy s.mt u = Fy s1.mt u) ∧ (∀ u, u = e ∨ u = x → Fy s1'.mt u = Fy s.mt u ∧ Fy s2.mt u = Fy s1.mt u) := by
 unfold X3 at Hi Hj ⊢;simp only [gi, gj] at Hi Hj ⊢;obtain ⟨dvj, oj1, PM, hj2, rfl⟩ := (dF pj dj).1 Hj;obtain ⟨dvi, oi1, Rz, uu, rfl⟩ := (dF pi di).1 Hi;have tj := A3K (s := s) (x := x) (i := j) (j := i) (d := e) (e := d) (dv := dvj) (own' := oi1) (Ne.symm PL) hex hj2;rw [tj.1] at Rz;have hi0 := tj.2.1 uu;have ti := A3K (s := s) (x := x) (i := i) (j := j) (d := d) (e := e) (dv := dvi) (own' := oj1) PL Wu hi0;have hj3 := ti.2.2 hj2;have cm := A8Q (s := s) (dv := dvi) (ev := dvj) PL zb Wu hex hi0 hj2;refine ⟨taken s x i d dvi oi1, (dF pi di).2 ⟨dvi, oi1, Rz, hi0, rfl⟩, (dF pj dj).2 ⟨dvj, oj1, by rw [ti.1]; exact PM, hj3, cm.symm⟩, ?_, ?_⟩
 ·rintro u (rfl | rfl)
  ·refine ⟨?_, ?_⟩
   ·rw [← cm]; exact EU (mJ zb Wu).symm
   ·exact EU (mJ zb Wu).symm
  ·refine ⟨(RX hj3).trans ?_, (RX hi0).trans (RX uu).symm⟩
   exact (A3L Wu uu).symm
 ·rintro u (rfl | rfl)
  ·refine ⟨?_, ?_⟩
   ·exact EU (mJ (Ne.symm zb) hex)
   ·exact EU (mJ (Ne.symm zb) hex)
  ·exact ⟨(RX hj3).trans (RX hi0).symm, (A3L Wu uu).trans (RX uu).symm⟩
theorem A5v {m : Meta} {k : Bool} (h : d_ m = some k) : ∃ i, dz m = some i := by
 cases m <;> simp [d_] at h <;> exact ⟨_, rfl⟩
def A1M : D7 → Bool
 | .opn _ _ _ => true
 | _ => false
theorem A86 {P : Program} {t : TypeId} {v : Value} {r : DV × Meta} (H : cst P t v = some r) : dz r.2 = none := by
 unfold cst at H
 split at H <;> simp only [Option.some.injEq, reduceCtorEq] at H <;> subst H <;> rfl
def stored (s : St) (i : Nat) (ob : D7) (rl : Option Operand) : St :=
 match rl with
 | some v => St.release { s with sg := s.sg.set i ob } v
 | none => { s with sg := s.sg.set i ob }
theorem eX (s : St) (i : Nat) (ob : D7) (rl : Option Operand) : (stored s i ob rl).sg = s.sg.set i ob := by
 unfold stored;cases rl with
 | none => rfl
 | some v => cases v <;> rfl
theorem wJ (s : St) (i : Nat) (ob : D7) (rl : Option Operand) : (stored s i ob rl).tm = s.tm := by
 unfold stored;cases rl with
 | none => rfl
 | some v => cases v <;> rfl
theorem B0f (s : St) (i : Nat) (ob : D7) (rl : Option Operand) : (stored s i ob rl).bx = s.bx := by
 unfold stored;cases rl with
 | none => rfl
 | some v => cases v <;> rfl
def Yl (mt : List Meta) (rl : Option Operand) : List Meta :=
 match rl with
 | some (.tmp t) => mt.set t (dm (mt.getD t .val))
 | _ => mt
theorem Ny (s : St) (i : Nat) (ob : D7) (rl : Option Operand) : (stored s i ob rl).mt = Yl s.mt rl := by
 unfold stored Yl;cases rl with
 | none => rfl
 | some v => cases v <;> rfl
theorem Vm {mt : List Meta} {rl : Option Operand} {u : Nat} (h : ∀ v, rl = some v → u ∉ DX mt v) : (Yl mt rl)[u]? = mt[u]? := by
 unfold Yl
 split
 ·rename_i t
  have := h _ rfl;rcases B1o (mt := mt) (t := t) with e | e
  ·rw [e] at this
   simp only [List.mem_singleton] at this;rw [List.getElem?_set_ne (Ne.symm this)]
  ·rw [e]
 ·rfl
theorem A8x {mt : List Meta} {r1 r2 : Option Operand} : Yl (Yl mt r1) r2 = Yl (Yl mt r2) r1 := by
 cases r1 with
 | none => rfl
 | some v1 =>
   cases r2 with
   | none => rfl
   | some v2 =>
     cases v1 <;> cases v2 <;> try rfl
     rename_i t t'
     by_cases hne : t = t'
     ·subst hne; rfl
     ·simp only [Yl, List.getD_eq_getElem?_getD, List.getElem?_set_ne hne, List.getElem?_set_ne (Ne.symm hne)]
      rw [List.set_comm _ _ hne]
theorem A5O {g g' : List D7} {i : Nat} (h : g'[i]? = g[i]?) : M4 g' i = M4 g i := by unfold M4; rw [h]
theorem B1t {g g' : List D7} {i : Nat} (h : g'[i]? = g[i]?) : Yo g' i = Yo g i := by unfold Yo; rw [h]
theorem A2k {t : TypeId} {y v : Operand} {i : Nat} {s s1 : St} (D8 : o.op = .store t y v) (hd : o.dst = none) {r : DV × Meta} (hr : src C.P 0 s y = some r) (hi : dz r.2 = some i) {kd : Bool} (hk : d_ r.2 = some kd) (H : I1 C R fl o s some = some s1) :
 ∃ ob rl, (rl = none ∨ rl = some v) ∧ (A1M ob = kd ∧ ∃ old, s.sg[i]? = some old ∧ A1M old = kd) ∧ s1 = stored s i ob rl ∧ ∀ s', src C.P 0 s' y = src C.P 0 s y → src C.P t s' v = src C.P t s v → s'.sg[i]? = s.sg[i]? → I1 C R fl o s' some = some (stored s' i ob rl) := by
 simp only [I1, D8, ES] at H;obtain ⟨r0, h1, H⟩ := A9 H;rw [hr] at h1;simp only [Option.some.injEq] at h1;subst h1;obtain ⟨u, h2, H⟩ := A9 H;obtain ⟨z, h3, H⟩ := A9 H;have pn : ∀ s : St, s.put o.dst (.H7 []) .val = s := fun s => by rw [hd]; rfl
 split at H
 ·rename_i hm; rw [hm] at hi; simp [dz] at hi
 ·rename_i i' off hm
  rw [hm] at hi;simp only [dz, Option.some.injEq] at hi;subst hi;rw [hm] at hk;simp only [d_, Option.some.injEq] at hk;subst hk;obtain ⟨cs, h4, H⟩ := A9 H;have ho : ∃ old, s.sg[i']? = some old ∧ A1M old = false := by
   unfold M4 at h4
   split at h4
   ·rename_i hq; exact ⟨_, hq, rfl⟩
   ·cases h4
  by_cases hz : z.2 = true
  ·rw [if_pos hz] at H
   obtain ⟨xs, H, h5⟩ := WJ H;obtain ⟨h6, H⟩ := L9 H;rw [pn] at H;simp only [Option.some.injEq] at H;refine ⟨_, none, .inl rfl, ⟨rfl, ho⟩, H.symm, fun s' a1 a2 a3 => ?_⟩
   simp only [I1, D8, ES, a1, hr, a2, h2, h3, K3, hm, A5O a3, h4, if_pos hz, h5, if_pos h6, pn];rfl
  ·rw [if_neg hz] at H
   obtain ⟨c, H, h5⟩ := TB H;obtain ⟨c0, h6, H⟩ := A9 H;rw [pn] at H;simp only [Option.some.injEq] at H;refine ⟨_, some v, .inr rfl, ⟨rfl, ho⟩, H.symm, fun s' a1 a2 a3 => ?_⟩
   simp only [I1, D8, ES, a1, hr, a2, h2, h3, K3, hm, A5O a3, h4, if_neg hz, h5, h6, pn];rfl
 ·rename_i hm; rw [hm] at hi; simp [dz] at hi
 ·rename_i i' sz idx hm
  rw [hm] at hi;simp only [dz, Option.some.injEq] at hi;subst hi;rw [hm] at hk;simp only [d_, Option.some.injEq] at hk;subst hk;obtain ⟨q, h4, H⟩ := A9 H;have ho : ∃ old, s.sg[i']? = some old ∧ A1M old = true := by
   unfold Yo at h4
   split at h4
   ·rename_i hq; exact ⟨_, hq, rfl⟩
   ·cases h4
  obtain ⟨H, h6⟩ := WG H;obtain ⟨h7, H⟩ := F6 H;obtain ⟨x', h8, H⟩ := A9 H;rw [pn] at H;simp only [Option.some.injEq] at H;have hx : A1M x' = true := by
   unfold A2G at h8
   split at h8
   ·simp only [Option.some.injEq] at h8; subst h8; rfl
   ·cases h8
  refine ⟨x', none, .inl rfl, ⟨hx, ho⟩, H.symm, fun s' a1 a2 a3 => ?_⟩
  simp only [I1, D8, ES, a1, hr, a2, h2, h3, K3, hm, B1t a3, h4, h6, h7, U7, h8, pn];rfl
 ·simp at H
theorem B15 {s : St} {i : Bool} (h : (Bb C fl ops o s).so = some i) : o.guard = none ∧ o.dst = none ∧ ∃ t y v r, o.op = .store t y v ∧ src default 0 s y = some r ∧ d_ r.2 = some i ∧
 (Bb C fl ops o s).rt = tmpsOf [y, v] ∧ (Bb C fl ops o s).wt = DX s.mt v ∧ ∀ s', src default 0 s' y = src default 0 s y → DX s'.mt v = DX s.mt v → Bb C fl ops o s' = Bb C fl ops o s := by
 unfold Bb at h ⊢
 split at h
 ·rename_i hg
  simp only [hg];unfold U6 at h ⊢
  split at h
  ·simp at h
  ·rename_i hp
   unfold Dl at h
   split at h
   all_goals first
    | (simp at h; done)
    | (split at h <;> simp at h; done)
    | (split at h <;> (try (simp at h; done)) <;> split at h <;> (try (simp at h; done)) <;> split at h <;> simp at h; done)
    | skip
   ·rename_i t y v D8
    split at h
    ·rename_i r hr
     simp only at h
     by_cases hd : o.dst.isNone = true
     ·rw [if_pos hd] at h
      have GJ : o.dst = none := Option.isNone_iff_eq_none.1 hd;refine ⟨trivial, GJ, t, y, v, r, D8, hr, h, ?_, ?_, fun s' hs p_ => ?_⟩
      ·rw [if_neg hp]; unfold Dl; simp only [D8, hr]
      ·rw [if_neg hp]; unfold Dl; simp only [D8, hr, GJ, Option.toList_none, List.nil_append]
      ·rw [if_neg hp, if_neg hp]; unfold Dl; simp only [D8, hr, hs, p_]
     ·rw [if_neg hd] at h; cases h
    ·simp at h
   all_goals (split at h <;> (try simp at h) <;> (try (split at h <;> simp at h)))
 ·split at h
  ·simp at h
  ·split at h <;> simp [Fp.look] at h
theorem B3b {oi oj : Oper} {s s1 s2 : St} (Hj : X3 C R fl ops oj s s1) (Hi : X3 C R fl ops oi s1 s2)
 (hc : A5Y ((Bb C fl ops oj s).AP s s1) ((Bb C fl ops oi s1).AP s1 s2) = true) :
 ∃ s1', X3 C R fl ops oi s s1' ∧ X3 C R fl ops oj s1' s2 ∧ (Bb C fl ops oi s).AP s s1' = (Bb C fl ops oi s1).AP s1 s2 ∧ (Bb C fl ops oj s1').AP s1' s2 = (Bb C fl ops oj s).AP s s1 := by
 unfold A5Y at hc
 split at hc
 ·rename_i ka kb ha hb
  simp only [Fp.AP] at ha hb;simp only [Fp.AP, Bool.and_eq_true, bne_iff_ne, ne_eq] at hc;obtain ⟨⟨⟨B6f, c1⟩, c2⟩, c3⟩ := hc;have c1 := IU c1;have c2 := IU c2;have c3 := IU c3;obtain ⟨gj, dj, tj, yj, vj, rj, pj, sj, bj, ej, wj, fj⟩ := B15 ha;obtain ⟨gi, di, ti, yi, vi, ri, pi, si, bi, ei, wi, fi⟩ := B15 hb;obtain ⟨a, ja⟩ := A5v bj;obtain ⟨b, jb⟩ := A5v bi;rw [ei, wj] at c1;rw [wi, wj] at c2;rw [ej, wi] at c3;unfold X3 at Hi Hj;simp only [gi, gj] at Hi Hj;have real : ∀ {s : St} {y : Operand} {r : DV × Meta} {n : Nat}, src default 0 s y = some r → dz r.2 = some n → src C.P 0 s y = some r := by
   intro s y r n h1 h2;cases y with
   | tmp t => exact h1
   | const v =>
     simp only [src] at h1;have := A86 h1;rw [this] at h2; cases h2
   | func f => exact h1
   | global g => cases h1
  obtain ⟨obj, rlj, qj, ⟨oj1, old1, oj2, oj3⟩, e1, Gj⟩ := A2k pj dj (real sj ja) ja bj Hj;obtain ⟨obi, rli, qi, ⟨oi1, old2, oi2, oi3⟩, e2, Gi⟩ := A2k pi di (real si jb) jb bi Hi;have jd : a ≠ b := by
   rintro rfl;have hl : a < s.sg.length := by
    rcases Nat.lt_or_ge a s.sg.length with h | h
    ·exact h
    ·rw [List.getElem?_eq_none h] at oj2; cases oj2
   rw [e1, eX, List.getElem?_set_self hl] at oi2;simp only [Option.some.injEq] at oi2;subst oi2;exact B6f (oj1.symm.trans oi3)
  have sj' : ∀ v, rlj = some v → v = vj := fun v h => by rcases qj with q | q <;> rw [q] at h <;> simp at h; exact h.symm
  have si' : ∀ v, rli = some v → v = vi := fun v h => by rcases qi with q | q <;> rw [q] at h <;> simp at h; exact h.symm
  have B16 : ∀ {P : Program} {t : TypeId} {st st' : St} {y : Operand}, (∀ u ∈ J7 y, st'.tm[u]? = st.tm[u]? ∧ st'.mt[u]? = st.mt[u]?) → src P t st' y = src P t st y := by
   intro P t st st' y h;cases y with
   | tmp u =>
     obtain ⟨h1, h2⟩ := h u (by simp [J7])
     simp only [src, St.get, KJ h1, KJ h2]
   | _ => rfl
  have k1 : ∀ {P : Program} {t : TypeId} {y : Operand}, (∀ u ∈ J7 y, u ∉ DX s.mt vj) → src P t s1 y = src P t s y := by
   intro P t y h;rw [e1];exact B16 fun u hu => ⟨by rw [wJ], by rw [Ny, Vm fun v hv => by rw [sj' v hv]; exact h u hu]⟩
  have y1 : ∀ u ∈ J7 yi, u ∉ DX s.mt vj := fun u hu hv => c1 u hv (by simp [tmpsOf, hu])
  have y2 : ∀ u ∈ J7 vi, u ∉ DX s.mt vj := fun u hu hv => c1 u hv (by simp [tmpsOf, hu])
  have mtj : ∀ u, u ∉ DX s.mt vj → s1.mt[u]? = s.mt[u]? := fun u hu => by rw [e1, Ny, Vm fun v hv => by rw [sj' v hv]; exact hu]
  have ri1 : DX s1.mt vi = DX s.mt vi := j_ fun u hu => mtj u (y2 u hu)
  rw [ri1] at wi c2 c3;have k2 : ∀ {P : Program} {t : TypeId} {y : Operand}, (∀ u ∈ J7 y, u ∉ DX s.mt vi) → src P t (stored s b obi rli) y = src P t s y := by
   intro P t y h;exact B16 fun u hu => ⟨by rw [wJ], by rw [Ny, Vm fun v hv => by rw [si' v hv]; exact h u hu]⟩
  have y3 : ∀ u ∈ J7 yj, u ∉ DX s.mt vi := fun u hu hv => c3 u hv (by simp [tmpsOf, hu])
  have y4 : ∀ u ∈ J7 vj, u ∉ DX s.mt vi := fun u hu hv => c3 u hv (by simp [tmpsOf, hu])
  have A1 := Gi s (k1 y1).symm (k1 y2).symm (by rw [e1, eX, List.getElem?_set_ne jd])
  have A2 := Gj (stored s b obi rli) (k2 y3) (k2 y4) (by rw [eX, List.getElem?_set_ne (Ne.symm jd)])
  have B3O : stored (stored s b obi rli) a obj rlj = s2 := by
   rw [e2, e1];have h1 : (stored (stored s b obi rli) a obj rlj).mt = (stored (stored s a obj rlj) b obi rli).mt := by
    simp only [Ny];exact A8x
   have h2 : (stored (stored s b obi rli) a obj rlj).sg = (stored (stored s a obj rlj) b obi rli).sg := by
    simp only [eX];rw [List.set_comm _ _ (Ne.symm jd)]
   have h3 : (stored (stored s b obi rli) a obj rlj).tm = (stored (stored s a obj rlj) b obi rli).tm := by simp only [wJ]
   have h4 : (stored (stored s b obi rli) a obj rlj).bx = (stored (stored s a obj rlj) b obi rli).bx := by simp only [B0f]
   generalize stored (stored s b obi rli) a obj rlj = A at *;generalize stored (stored s a obj rlj) b obi rli = B at *;cases A; cases B; simp_all
  rw [B3O] at A2;have B4d : ∀ u, u ∉ DX s.mt vi → (stored s b obi rli).mt[u]? = s.mt[u]? := fun u hu => by rw [Ny, Vm fun v hv => by rw [si' v hv]; exact hu]
  have rj1 : DX (stored s b obi rli).mt vj = DX s.mt vj := j_ fun u hu => B4d u (y4 u hu)
  have fi' := fi s (k1 y1).symm ri1.symm;have fj' := fj (stored s b obi rli) (k2 y3) rj1;have mti : ∀ u, u ∉ DX s.mt vi → s2.mt[u]? = s1.mt[u]? := fun u hu => by rw [e2, Ny, Vm fun v hv => by rw [si' v hv, ri1]; exact hu]
  have B6v : ∀ u, u ∉ DX s.mt vj → s2.mt[u]? = (stored s b obi rli).mt[u]? := fun u hu => by rw [← B3O, Ny, Vm fun v hv => by rw [sj' v hv, rj1]; exact hu]
  refine ⟨stored s b obi rli, ?_, ?_, ?_, ?_⟩
  ·unfold X3; simp only [gi]; exact A1
  ·unfold X3; simp only [gj]; exact A2
  ·rw [fi']
   simp only [Fp.AP, Fp.mk.injEq, true_and, and_true];rw [wi]
   congr 1
   ·exact l6 fun u hu => (EU (mtj u (y2 u (lq hu)))).symm
   ·exact l6 fun u hu => (EU (B6v u (y2 u (lq hu)))).symm
  ·rw [fj']
   simp only [Fp.AP, Fp.mk.injEq, true_and, and_true];rw [wj]
   congr 1
   ·exact l6 fun u hu => EU (B4d u (y4 u (lq hu)))
   ·exact l6 fun u hu => EU (mti u (y4 u (lq hu)))
 ·cases hc
theorem A8O {oi oj : Oper} {s s1 s2 : St} (Hj : X3 C R fl ops oj s s1) (Hi : X3 C R fl ops oi s1 s2)
 (hc : A7N ((Bb C fl ops oj s).AP s s1) ((Bb C fl ops oi s1).AP s1 s2) = true) :
 ∃ s1', X3 C R fl ops oi s s1' ∧ X3 C R fl ops oj s1' s2 ∧ (Bb C fl ops oi s).AP s s1' = (Bb C fl ops oi s1).AP s1 s2 ∧ (Bb C fl ops oj s1').AP s1' s2 = (Bb C fl ops oj s).AP s s1 := by
 obtain ⟨nj, Fj⟩ := A2j Hj;obtain ⟨ni, Fi⟩ := A2j Hi;generalize hfj : Bb C fl ops oj s = f at *;generalize hfi : Bb C fl ops oi s1 = g at *;simp only [A7N, Fp.AP, Bool.and_eq_true, Bool.not_eq_true', Bool.and_eq_false_imp, Bool.or_eq_false_iff] at hc;obtain ⟨⟨⟨⟨⟨⟨⟨⟨⟨c1, c2⟩, c3⟩, c4⟩, c5⟩, c6⟩, c7⟩, c8⟩, c9⟩, c10⟩ := hc;have c1 := IU c1;have c2 := IU c2;have c3 := IU c3;have c4 := IU c4;have c5 := IU c5;have c6 := IU c6;obtain ⟨-, Tj⟩ := Fj s (FD.refl nj);obtain ⟨s1x, Tj, Rj⟩ := Tj;obtain rfl := Rj.det Hj;obtain ⟨-, Ti⟩ := Fi s1x (FD.refl ni);obtain ⟨s2x, Ti, Ri⟩ := Ti;obtain rfl := Ri.det Hi;have A8t : ∀ u : Nat, u ∉ f.wt → s1x.tm[u]? = s.tm[u]? ∧ s1x.mt[u]? = s.mt[u]? := fun u hu => by
  rcases Tj.t u with ⟨h, _⟩ | ⟨h, _⟩
  ·exact absurd h hu
  ·exact h
 have B6y : ∀ u : Nat, u ∉ g.wt → s2x.tm[u]? = s1x.tm[u]? ∧ s2x.mt[u]? = s1x.mt[u]? := fun u hu => by
  rcases Ti.t u with ⟨h, _⟩ | ⟨h, _⟩
  ·exact absurd h hu
  ·exact h
 have B5v : ∀ u : Nat, u ∉ f.wb → s1x.bx[u]? = s.bx[u]? := fun u hu => by
  rcases Tj.b u with ⟨h, _⟩ | ⟨h, _⟩
  ·exact absurd h hu
  ·exact h
 have Ai : FD g s1x s := by
  refine ⟨Tj.ls.1.symm, Tj.ls.2.1.symm, Tj.ls.2.2.symm, fun u hu => ?_, fun u hu => ?_, fun hr => ?_, fun t ht => ?_⟩
  ·have := A8t u fun h => c1 u h hu
   exact ⟨this.1.symm, this.2.symm⟩
  ·exact (B5v u fun h => c4 u h hu).symm
  ·rcases Tj.s with ⟨h, _⟩ | ⟨h, _⟩
   ·rw [(c7 h).1] at hr; cases hr
   ·exact h.symm
  ·rw [Yh]
   intro u s0 o0 hu Q4
   by_cases hw : u ∈ f.wt
   ·have DY : xB g (f.AP s s1x) = true := c10
    simp only [xB, ht, Bool.not_eq_true', List.contains_eq_mem, decide_eq_false_iff_not, Fp.AP, List.mem_append, not_or] at DY;refine DY.1 (List.mem_flatMap.2 ⟨u, hw, ?_⟩);simp only [Fy, List.getD_eq_getElem?_getD, hu, Option.getD_some, List.mem_singleton];exact Q4.symm
   ·have := Yh.1 (ni t ht) u s0 o0 (by rw [(A8t u hw).2]; exact hu)
    exact this Q4
 obtain ⟨ei, s1', Ti', Ri'⟩ := Fi s Ai;have Aj : FD f s s1' := by
  refine ⟨Ti'.ls'.1.trans Tj.ls.1, Ti'.ls'.2.1.trans Tj.ls.2.1, Ti'.ls'.2.2.trans Tj.ls.2.2, fun u hu => ?_, fun u hu => ?_, fun hr => ?_, fun t ht => ?_⟩
  ·rcases Ti'.t u with ⟨h, _⟩ | ⟨h, _⟩
   ·exact absurd hu (c3 u h)
   ·exact h
  ·rcases Ti'.b u with ⟨h, _⟩ | ⟨h, _⟩
   ·exact absurd hu (c6 u h)
   ·exact h
  ·rcases Ti'.s with ⟨h, _⟩ | ⟨h, _⟩
   ·rw [(c8 h).1] at hr; cases hr
   ·exact h
  ·rw [Yh]
   intro u s0 o0 hu Q4;rcases Ti'.t u with ⟨hw, _, h⟩ | ⟨⟨_, h⟩, _⟩
   ·have h9 : xB f (g.AP s1x s2x) = true := c9
    simp only [xB, ht, Bool.not_eq_true', List.contains_eq_mem, decide_eq_false_iff_not, Fp.AP, List.mem_append, not_or] at h9;refine h9.2 (List.mem_flatMap.2 ⟨u, hw, ?_⟩);rw [h] at hu;simp only [Fy, List.getD_eq_getElem?_getD, hu, Option.getD_some, List.mem_singleton];exact Q4.symm
   ·exact Yh.1 (nj t ht) u s0 o0 (by rw [← h]; exact hu) Q4
 obtain ⟨ej, s2', Tj', Rj'⟩ := Fj s1' Aj;have hs : s2' = s2x := by
  have tt : ∀ u : Nat, s2'.tm[u]? = s2x.tm[u]? ∧ s2'.mt[u]? = s2x.mt[u]? := fun u => by
   rcases Ti'.t u with ⟨hi, h1, h2⟩ | ⟨⟨h1, h2⟩, h3, h4⟩ <;> rcases Tj'.t u with ⟨hj, h5, h6⟩ | ⟨⟨h5, h6⟩, h7, h8⟩
   ·exact absurd hi (c2 u hj)
   ·exact ⟨h5.trans h1, h6.trans h2⟩
   ·exact ⟨h5.trans h3.symm, h6.trans h4.symm⟩
   ·exact ⟨by rw [h5, h1, h3, h7], by rw [h6, h2, h4, h8]⟩
  have bb : ∀ u : Nat, s2'.bx[u]? = s2x.bx[u]? := fun u => by
   rcases Ti'.b u with ⟨hi, h1⟩ | ⟨h1, h3⟩ <;> rcases Tj'.b u with ⟨hj, h5⟩ | ⟨h5, h7⟩
   ·exact absurd hi (c5 u hj)
   ·exact h5.trans h1
   ·exact h5.trans h3.symm
   ·rw [h5, h1, h3, h7]
  have ss : s2'.sg = s2x.sg := by
   rcases Ti'.s with ⟨hi, h1⟩ | ⟨h1, h3⟩ <;> rcases Tj'.s with ⟨hj, h5⟩ | ⟨h5, h7⟩
   ·have := (c7 hj).2; rw [hi] at this; cases this
   ·exact h5.trans h1
   ·exact h5.trans h3.symm
   ·rw [h5, h1, h3, h7]
  have h1 : s2'.tm = s2x.tm := KR fun i => (tt i).1
  have h2 : s2'.mt = s2x.mt := KR fun i => (tt i).2
  have h3 : s2'.bx = s2x.bx := KR bb;cases s2'; cases s2x; simp_all
 subst hs;refine ⟨s1', Ri', Rj', ?_, ?_⟩
 ·rw [ei]
  simp only [Fp.AP, Fp.mk.injEq, true_and, and_true]
  congr 1
  ·exact l6 fun u hu => (EU (A8t u fun h => c2 u h hu).2).symm
  ·refine l6 fun u hu => EU ?_
   rcases Ti'.t u with ⟨_, _, h⟩ | ⟨⟨_, h2⟩, _, h4⟩
   ·exact h
   ·rw [h2, h4, (A8t u fun h => c2 u h hu).2]
 ·rw [ej]
  simp only [Fp.AP, Fp.mk.injEq, true_and, and_true]
  congr 1
  ·refine l6 fun u hu => EU ?_
   rcases Ti'.t u with ⟨h, _⟩ | ⟨⟨_, h⟩, _⟩
   ·exact absurd h (c2 u hu)
   ·exact h
  ·exact l6 fun u hu => EU (B6y u fun h => c2 u hu h).2
theorem B0e {oi oj : Oper} {s s1 s2 : St} (Hj : X3 C R fl ops oj s s1) (Hi : X3 C R fl ops oi s1 s2)
 (hc : comm ((Bb C fl ops oj s).AP s s1) ((Bb C fl ops oi s1).AP s1 s2) = true) :
 ∃ s1', X3 C R fl ops oi s s1' ∧ X3 C R fl ops oj s1' s2 ∧ (Bb C fl ops oi s).AP s s1' = (Bb C fl ops oi s1).AP s1 s2 ∧ (Bb C fl ops oj s1').AP s1' s2 = (Bb C fl ops oj s).AP s s1 := by
 unfold comm at hc;rcases Bool.or_eq_true_iff.1 hc with hc | hc
 rotate_left
 ·exact B3b Hj Hi hc
 rcases Bool.or_eq_true_iff.1 hc with hc | hc
 ·exact A8O Hj Hi hc
 ·unfold A9p at hc
  split at hc
  ·rename_i x j e y i d h1 h2
   simp only [Fp.AP] at h1 h2;simp only [Bool.and_eq_true, beq_iff_eq, bne_iff_ne, ne_eq] at hc;obtain ⟨⟨⟨⟨rfl, c2⟩, c3⟩, c4⟩, c5⟩ := hc;obtain ⟨gj, pj, dj, fj, wj⟩ := B1N h1;obtain ⟨gi, pi, di, fi, wi⟩ := B1N h2;obtain ⟨s1', k1, k2, k3, k4⟩ := B0M gi gj pi pj di dj (Ne.symm c2) (Ne.symm c3) c5 c4 Hj Hi;refine ⟨s1', k1, k2, ?_, ?_⟩
   ·rw [fi s]
    simp only [Fp.AP, Fp.mk.injEq, true_and, and_true]
    congr 1
    ·exact l6 fun u hu => (k3 u (wi u hu)).2
    ·exact l6 fun u hu => (k3 u (wi u hu)).1
   ·rw [fj s1']
    simp only [Fp.AP, Fp.mk.injEq, true_and, and_true]
    congr 1
    ·exact l6 fun u hu => (k4 u (wj u hu)).1
    ·exact l6 fun u hu => (k4 u (wj u hu)).2
  ·cases hc
end
end Go.Su
