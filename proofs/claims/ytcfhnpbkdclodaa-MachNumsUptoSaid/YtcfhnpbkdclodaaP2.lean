/-
  Parts of the proof, merged: SuOp7, SuOp8, SuOp9, SuOp10, SuOp11, SuOp12, SuCall, SuOp13, SuOp14, SuSim.
-/
import Derived.Laws.Tables
import Derived.RangeFuncLeaves
import Derived.RangeFuncNested
import Derived.Test.YtcfhnpbkdclodaaP1
set_option linter.unusedVariables false
set_option linter.unusedSimpArgs false
/-
  THE DATA MACHINE, part 12: variables made; values and slices built.
-/
namespace Go.Su

theorem push_old {h : Heap} {ob : Obj} {b : Nat} (hb : b < h.size) : (h.push ob)[b]? = h[b]? := by
  rw [Array.getElem?_push_lt hb, Array.getElem?_eq_getElem hb]

theorem push_new {h : Heap} {ob : Obj} : (h.push ob)[h.size]? = some ob := by simp

theorem Pr.push {ch : Tag → Prop} {E E' : Env} {h : Heap} {ob : Obj} (ht : ∀ b o, b < h.size → ¬ ch (E.O b o) → E'.O b o = E.O b o) (hn : E.n ≤ E'.n) (ho : ∀ i, i < E.n → E'.ver i = E.ver i → E'.obj i = E.obj i ∧ E'.base i = E.base i ∧ E'.top i = E.top i)
    (hb : ∀ s, ¬ ch (.priv s) → E'.blk s = E.blk s) (hv : VerOk ch E E') : Pr ch E h E' (h.push ob) :=
  ⟨by simp, fun b hlt => by rw [push_old hlt]; exact KeepBlk.refl _ _, ht, hn, ho, hb, hv⟩

theorem hc_new {h : Heap} {c : Array Value} {T : TypeId} {f : Nat × Nat} (o : Nat) : hc (h.push (.cells c T f)) h.size o = c[o]? := by
  unfold hc; rw [push_new]

theorem isCell_leaf {d : DV} (h : isCell d = true) : isLeaf d = true := by cases d <;> simp_all [isCell, isLeaf]

theorem isCell_one {S : Seal} {h : Heap} {d : DV} {v : Value} (hc : isCell d = true) (H : RV S h d v) : v.oneCell' = true := by
  cases d <;> simp only [isCell] at hc <;> try contradiction
  · rw [RV_int] at H; subst H; rfl
  · rw [RV_bool] at H; subst H; rfl
  · rw [RV_str] at H; subst H; rfl
  · obtain ⟨a, len, cap, rfl, -⟩ := RV_list H; rfl
  · simp only [RV] at H; subst H; rfl
  · rename_i sz d
    exact RC_one (d := .pref sz d) rfl (by simpa only [RV] using H)

/-- What a cell of a variable must be. -/
def CellOk (E : Env) (h : Heap) (tg : Tag) (r : DV × Meta) (v : Value) : Prop :=
  isLeaf r.1 = true ∧ v.oneCell' = true ∧ mayLie r.2 = true ∧ RM1 E h tg r.1 r.2 v

theorem cellOf_ok {X : Type} {E : Env} {h : Heap} {k a : Nat} {r : DV × Meta} {v : Value} {K : DV × Meta → Option X} {x : X} (R : RR E h k a r.1 r.2 v) (H : cellOf r K = some x) :
    ∃ c, K c = some x ∧ c.2 = r.2 ∧ CellOk E h (.sp k a 0) c v := by
  unfold cellOf at H
  split at H
  · rename_i hm
    rw [hm] at R
    obtain ⟨hc, H⟩ := og_some H
    exact ⟨_, H, hm.symm, isCell_leaf hc, isCell_one hc R, rfl, R⟩
  · rename_i hm
    rw [hm] at R
    simp only [RR, RM1] at R
    obtain ⟨r1, ⟨p, n, rfl⟩, sz, ds, r2⟩ := R
    exact ⟨_, H, hm.symm, by rw [r2]; rfl, rfl, rfl, r1, ⟨_, _, rfl⟩, _, _, r2⟩
  · rename_i hm
    rw [hm] at R
    simp only [RR, RM1] at R
    obtain ⟨r1, sz, ds, r2, r3⟩ := R
    refine ⟨_, H, hm.symm, by rw [r2]; rfl, ?_, rfl, r1, sz, ds, r2, r3⟩
    rw [r2] at r1
    obtain ⟨a, len, cap, rfl, -⟩ := RV_list r1
    rfl
  · rename_i hm
    rw [hm] at R
    obtain ⟨-, rfl⟩ := (R : _ ∧ _)
    exact ⟨_, H, hm.symm, rfl, rfl, rfl, rfl, rfl⟩
  · obtain ⟨hm, H⟩ := og_some H
    refine ⟨_, H, rfl, ?_⟩
    have n1 : r.2 ≠ .val := by intro h; simp_all
    have n2 : r.2 ≠ .full := by intro h; simp_all
    have n3 : r.2 ≠ .own := by intro h; simp_all
    have n4 : r.2 ≠ .nilp := by intro h; simp_all
    revert R hm n1 n2 n3 n4
    generalize r.2 = m
    intro R hm n1 n2 n3 n4
    cases m <;> simp only [mayLie] at hm <;> simp only [RR, RM1] at R <;> try contradiction
    case ptr i o => obtain ⟨r1, rfl⟩ := R; exact ⟨rfl, rfl, rfl, r1, rfl⟩
    case map i => obtain ⟨r1, rfl⟩ := R; exact ⟨rfl, rfl, rfl, r1, rfl⟩
    case nilm => subst R; exact ⟨rfl, rfl, rfl, rfl⟩
    case arr i sz off len => obtain ⟨r1, p, cap, rfl, r2⟩ := R; exact ⟨rfl, rfl, rfl, r1, _, _, rfl, r2⟩
    case vec i n sz len => obtain ⟨r1, r2, r3, p, cap, rfl, r4⟩ := R; exact ⟨rfl, rfl, rfl, r1, r2, r3, _, _, rfl, r4⟩
    case fn f caps => obtain ⟨rfl, r2⟩ := R; exact ⟨rfl, rfl, rfl, rfl, r2⟩

/-- Cells side by side. -/
def CellsOk (E : Env) (h : Heap) (cs : List (DV × Meta)) (vs : List Value) : Prop :=
  cs.length = vs.length ∧ ∀ (j : Nat) r v, cs[j]? = some r → vs[j]? = some v → CellOk E h .other r v ∧ r.2 ≠ .own

theorem zipM_get : ∀ {ds : List DV} {ms : List Meta} {j : Nat} {r : DV × Meta}, (zipM ds ms)[j]? = some r → ds[j]? = some r.1 ∧ ms[j]? = some r.2
  | d :: ds, m :: ms, 0, r, h => by simp only [zipM, List.getElem?_cons_zero, Option.some.injEq] at h; subst h; simp
  | d :: ds, m :: ms, j + 1, r, h => by simp only [zipM, List.getElem?_cons_succ] at h ⊢; exact zipM_get h
  | [], ms, j, r, h => by simp [zipM] at h
  | d :: ds, [], j, r, h => by simp [zipM] at h

theorem zipM_length : ∀ {ds : List DV} {ms : List Meta}, ds.length = ms.length → (zipM ds ms).length = ds.length
  | d :: ds, m :: ms, h => by simp only [zipM, List.length_cons]; rw [zipM_length (by simpa using h)]
  | [], [], _ => rfl

theorem cells_length (n o : Nat) (d : DV) : (cells n o d).length = n := by simp [cells]

theorem cells_get {n o j : Nat} {d e : DV} (h : (cells n o d)[j]? = some e) : j < n ∧ e = proj (o + j) d := by
  have hj : j < n := by have := (List.getElem?_eq_some_iff.1 h).1; simpa [cells] using this
  simp only [cells, List.getElem?_map, List.getElem?_range hj, Option.map_some, Option.some.injEq] at h
  exact ⟨hj, h.symm⟩

/-- Cells side by side, with what they own. -/
def CellsO (E : Env) (h : Heap) (k a : Nat) (cs : List (DV × Meta)) (vs : List Value) : Prop :=
  cs.length = vs.length ∧ ∀ (j : Nat) r v, cs[j]? = some r → vs[j]? = some v → CellOk E h (.sp k a (j + 1)) r v

theorem CellOk.strip {E : Env} {h : Heap} {tg tg' : Tag} {r : DV × Meta} {v : Value} (H : CellOk E h tg r v) : CellOk E h tg' (r.1, dm r.2) v ∧ dm r.2 ≠ .own :=
  ⟨⟨H.1, H.2.1, (Su.mayLie_dm H.2.2.1).2.1, H.2.2.2.mayLie_dm H.2.2.1⟩, (Su.mayLie_dm H.2.2.1).2.2⟩

theorem CellsO.strip {E : Env} {h : Heap} {k a : Nat} {cs : List (DV × Meta)} {vs : List Value} (H : CellsO E h k a cs vs) : CellsOk E h (cs.map fun c => (c.1, dm c.2)) vs := by
  refine ⟨by simpa using H.1, fun j r v hr hv => ?_⟩
  simp only [List.getElem?_map, Option.map_eq_some_iff] at hr
  obtain ⟨c, hc, rfl⟩ := hr
  exact (H.2 j c v hc hv).strip

theorem cellsM_ok {z : Nat} {E : Env} {h : Heap} {k a : Nat} {r : DV × Meta} {v : Value} {cs : List (DV × Meta)} (R : RR E h k a r.1 r.2 v) (hg : isAggN z r.1 = true) (hcs : cellsM z r = some cs) :
    cs.length = z ∧ CellsO E h k a cs v.cells.toList := by
  unfold cellsM at hcs
  split at hcs
  · rename_i hm
    simp only [Option.some.injEq] at hcs
    subst hcs
    rw [hm] at R
    obtain ⟨vs, rfl, hsz, hR⟩ := RV_agg_RC hg R
    refine ⟨by simp [cells_length], by simp [cells_length, Value.cells, hsz], fun j r' u hr hu => ?_⟩
    simp only [List.getElem?_map, Option.map_eq_some_iff] at hr
    obtain ⟨d, hd, rfl⟩ := hr
    obtain ⟨hj, rfl⟩ := cells_get hd
    obtain ⟨q1, q2⟩ := RC_proj hR (j := 0 + j) (v := u) (by simpa [Value.cells] using hu)
    exact ⟨q1, RC_one q1 q2, rfl, RV_of_RC q1 q2⟩
  · rename_i ms hm
    obtain ⟨hl, hcs⟩ := ite_some hcs
    simp only [Option.some.injEq] at hcs
    subst hcs
    rw [hm] at R
    simp only [RR] at R
    obtain ⟨ds, vs, hd, rfl, l1, l2, l3⟩ := R
    refine ⟨by rw [zipM_length (by rw [cells_length, hl])]; exact cells_length _ _ _, by rw [zipM_length (by rw [cells_length, hl]), cells_length]; simp [Value.cells]; omega, fun j r' u hr hu => ?_⟩
    obtain ⟨hr1, hr2⟩ := zipM_get hr
    obtain ⟨hj, hr1⟩ := cells_get hr1
    have hlt : j < ds.length := by omega
    have hdj : ds[j]? = some r'.1 := by
      rw [hr1, hd]
      simp [proj, List.getD_eq_getElem?_getD, List.getElem?_eq_getElem hlt]
    obtain ⟨a1, a2, a4, a5⟩ := l3 j r'.2 r'.1 u hr2 hdj (by simpa [Value.cells] using hu)
    exact ⟨a1, a2, a4, a5⟩
  · simp at hcs

theorem explode_ok {X : Type} {P : Program} {t : TypeId} {z : Nat × Bool} (hz : tz P t = some z) {E : Env} {h : Heap} {k a : Nat} {r : DV × Meta} {v : Value} {K : List (DV × Meta) → Option X} {x : X} (R : RR E h k a r.1 r.2 v) (H : explode P t r K = some x) :
    ∃ cs, K cs = some x ∧ cs.length = z.1 ∧ CellsOk E h cs v.cells.toList := by
  unfold explode at H
  obtain ⟨z', hz', H⟩ := ob_some H
  rw [hz] at hz'
  simp only [Option.some.injEq] at hz'
  subst hz'
  split at H
  · obtain ⟨hg, H⟩ := og_some H
    obtain ⟨cs, hcs, H⟩ := ob_some H
    obtain ⟨l1, l2⟩ := cellsM_ok R hg hcs
    exact ⟨_, H, by simpa using l1, l2.strip⟩
  · rename_i hz2
    obtain ⟨c, H, hm, hok⟩ := cellOf_ok R H
    have hz1 : z.1 = 1 := by
      obtain ⟨i, d, -, -, -, h4⟩ := tz_some hz
      exact h4 (by simpa using hz2)
    have hv : v.cells = #[v] := by
      have := hok.2.1
      cases v <;> first | rfl | (simp [Value.oneCell'] at this)
    refine ⟨_, H, hz1.symm, by simp [hv], fun j r' u hr hu => ?_⟩
    rw [hv] at hu
    cases j with
    | succ j => simp at hr
    | zero =>
      simp only [List.getElem?_cons_zero, Option.some.injEq] at hr hu
      subst hr hu
      exact hok.strip

theorem cellsM_noown {n : Nat} {r : DV × Meta} {cs : List (DV × Meta)} (h : cellsM n r = some cs) (hr : ∀ ms, r.2 ≠ .aggm ms) : ∀ c ∈ cs, c.2 ≠ .own := by
  unfold cellsM at h
  split at h
  · simp only [Option.some.injEq] at h
    subst h
    intro c hc
    obtain ⟨d, -, rfl⟩ := List.mem_map.1 hc
    simp
  · rename_i ms hm; exact absurd hm (hr ms)
  · cases h

theorem explodeO_ok {X : Type} {P : Program} {t : TypeId} {z : Nat × Bool} (hz : tz P t = some z) {E : Env} {h : Heap} {k a : Nat} {r : DV × Meta} {v : Value} {K : List (DV × Meta) → Option X} {x : X} (R : RR E h k a r.1 r.2 v) (H : explodeO P t r K = some x) :
    ∃ cs, K cs = some x ∧ cs.length = z.1 ∧ CellsO E h k a cs v.cells.toList ∧ ((∀ ms, r.2 ≠ .aggm ms) → ∀ c ∈ cs, c.2 ≠ .own) := by
  unfold explodeO at H
  obtain ⟨z', hz', H⟩ := ob_some H
  rw [hz] at hz'
  simp only [Option.some.injEq] at hz'
  subst hz'
  split at H
  · obtain ⟨hg, H⟩ := og_some H
    obtain ⟨cs, hcs, H⟩ := ob_some H
    obtain ⟨l1, l2⟩ := cellsM_ok R hg hcs
    exact ⟨_, H, l1, l2, cellsM_noown hcs⟩
  · rename_i hz2
    obtain ⟨c, H, hm, hok⟩ := cellOf_ok R H
    have hz1 : z.1 = 1 := by
      obtain ⟨i, d, -, -, -, h4⟩ := tz_some hz
      exact h4 (by simpa using hz2)
    have hv : v.cells = #[v] := by
      have := hok.2.1
      cases v <;> first | rfl | (simp [Value.oneCell'] at this)
    refine ⟨_, H, hz1.symm, ⟨by simp [hv], fun j r' u hr hu => ?_⟩, fun _ c' hc' => by simp only [List.mem_singleton] at hc'; subst hc'; exact (Su.mayLie_dm hok.2.2.1).2.2⟩
    rw [hv] at hu
    cases j with
    | succ j => simp at hr
    | zero =>
      simp only [List.getElem?_cons_zero, Option.some.injEq] at hr hu
      subst hr hu
      exact hok.strip.1

theorem cst_ok {P : Program} {t : TypeId} {v : Value} {r : DV × Meta} {E : Env} {h : Heap} (H : cst P t v = some r) : CellOk E h .other r v ∧ r.2 ≠ .own := by
  have R : RR E h 0 0 r.1 r.2 v := cst_RR H 0 0
  unfold cst at H
  split at H <;> simp only [Option.some.injEq, reduceCtorEq] at H <;> subst H <;> exact ⟨⟨rfl, rfl, rfl, R⟩, by simp⟩

theorem cstAll_ok {P : Program} {E : Env} {h : Heap} : ∀ {ts : List TypeId} {vs : List Value} {cs : List (DV × Meta)}, cstAll P ts vs = some cs → CellsOk E h cs vs
  | [], [], cs, H => by simp only [cstAll, Option.some.injEq] at H; subst H; exact ⟨rfl, by simp⟩
  | [], v :: vs, cs, H => by simp [cstAll] at H
  | t :: ts, [], cs, H => by simp [cstAll] at H
  | t :: ts, v :: vs, cs, H => by
    simp only [cstAll] at H
    obtain ⟨r, hr, H⟩ := ob_some H
    obtain ⟨rs, hrs, H⟩ := ob_some H
    simp only [Option.some.injEq] at H
    subst H
    obtain ⟨l1, l2⟩ := cstAll_ok (E := E) (h := h) hrs
    refine ⟨by simp [l1], fun j r' u h1 h2 => ?_⟩
    cases j with
    | zero => simp only [List.getElem?_cons_zero, Option.some.injEq] at h1 h2; subst h1 h2; exact cst_ok hr
    | succ j => simp only [List.getElem?_cons_succ] at h1 h2; exact l2 j r' u h1 h2

theorem zeroRegs_ok {P : Program} {t : TypeId} {cs : List (DV × Meta)} (H : zeroRegs P t = some cs) : ∃ i v, P.info? t = some i ∧ i.zero = some v ∧ ∀ E h, CellsOk E h cs v.cells.toList := by
  unfold zeroRegs at H
  obtain ⟨ts, hts, H⟩ := ob_some H
  obtain ⟨i, hi, H⟩ := ob_some H
  obtain ⟨v, hv, H⟩ := ob_some H
  exact ⟨i, v, hi, hv, fun E h => cstAll_ok H⟩

section
variable {X : Type} {C : Cfg} {R : Orc} {o : Oper} {st : St} {k : St → Option X} {x : X} {E : Env} {a : Act} {w : World} {K : Act → World → Prop} {Q : Exit → Act → World → Prop}

/-- A new private variable `t0`. -/
def Env.newPriv (E : Env) (t0 b n : Nat) : Env :=
  { E with blk := fun s => if s = t0 then b else E.blk s,
           O := fun b' o => if b' = b then (if o < n then .priv t0 else .other) else if E.O b' o = .priv t0 then .other else E.O b' o }

def Env.newObj (E : Env) (b n : Nat) : Env :=
  { E with obj := fun i => if i = E.n then b else E.obj i, base := fun i => if i = E.n then 0 else E.base i, n := E.n + 1, ver := fun i => if i = E.n then 0 else E.ver i,
           O := fun b' o => if b' = b then (if o < n then .obj E.n else .other) else E.O b' o }

theorem CellOk.mono {ch : Tag → Prop} {E E' : Env} {h h' : Heap} (H : Pr ch E h E' h') (hle : SealLe E.S h E'.S h') {r : DV × Meta} {v : Value} (hm : r.2 ≠ .own) {tg : Tag} (R : CellOk E h .other r v) : CellOk E' h' tg r v := by
  obtain ⟨a1, a2, a3, a4⟩ := R
  exact ⟨a1, a2, a3, (a4.mono H hle (fun x => absurd x hm) fun s o hl => by rw [hl] at a3; simp [mayLie] at a3).tag hm⟩

/-- A new shared variable. -/
theorem Rel.newObj {cs : List (DV × Meta)} {vs : List Value} {T0 : TypeId} (hc : CellsOk E w.heap cs vs) (Rl : Rel E st a w.heap) :
    Rel (E.newObj w.heap.size cs.length) { st with sg := st.sg ++ [.box cs] } a (w.heap.push (.cells vs.toArray T0)) ∧ Pr (fun _ => False) E w.heap (E.newObj w.heap.size cs.length) (w.heap.push (.cells vs.toArray T0)) := by
  obtain ⟨lc, hc⟩ := hc
  have P1 : Pr (fun _ => False) E w.heap (E.newObj w.heap.size cs.length) (w.heap.push (.cells vs.toArray T0)) := by
    refine Pr.push (fun b o hb _ => ?_) (by simp [Env.newObj]) (fun i hi _ => ?_) (fun _ _ => rfl) (ver_new rfl)
    · simp only [Env.newObj]; rw [if_neg (by omega)]
    · refine ⟨?_, ?_, rfl⟩ <;> simp only [Env.newObj] <;> rw [if_neg (by omega)]
  have hle := P1.shut (by simp) Rl.fresh
  refine ⟨⟨Rl.size, Rl.mlen, Rl.blen, by simp [Env.In, Env.newObj, Rl.n], fun t v hv => (Rl.regs t v hv).mono P1 hle (by simp) (by simp), fun s cs hs => (Rl.boxes s cs hs).mono P1 hle (by simp) (by simp), fun i ob hi => ?_,
          fun b o hb => ?_⟩, P1⟩
  · by_cases hlt : i < st.sg.length
    · rw [List.getElem?_append_left hlt] at hi
      exact (Rl.objs i ob hi).mono P1 hle (lt_of_sg Rl hi) (by simp) (by simp)
    · have hi1 : i = st.sg.length := by
        have := (List.getElem?_eq_some_iff.1 hi).1
        simp at this; omega
      subst hi1
      simp only [List.getElem?_append_right (Nat.le_refl _), Nat.sub_self, List.getElem?_cons_zero, Option.some.injEq] at hi
      subst hi
      have hn := Rl.n
      refine ⟨vs.toArray, T0, ?_, by simp [lc], fun o => ?_, fun j r v hr hv => ?_⟩
      · simp only [Env.newObj, hn, if_true]; exact push_new
      · by_cases ho : o < cs.length
        · left; simp only [Env.newObj, hn, if_true, if_pos ho]
        · right; simp only [List.size_toArray]; omega
      · obtain ⟨q1, q2⟩ := hc j r v hr (by simpa using hv)
        exact q1.mono P1 hle q2
  · simp only [Array.size_push] at hb
    simp only [Env.newObj]
    rw [if_neg (by omega)]
    exact Rl.fresh b o (by omega)

/-- A new private variable, with what its cells own. -/
theorem Rel.newPriv {t0 : Nat} {cs : List (DV × Meta)} {vs : List Value} {T0 : TypeId} (lc : cs.length = vs.length) (hc : ∀ (j : Nat) r v, cs[j]? = some r → vs[j]? = some v → CellOk E w.heap (.sp 1 t0 j) r v) (Rl : Rel E st a w.heap) :
    Rel (E.newPriv t0 w.heap.size cs.length) { st with mt := st.mt.map (clearLoc t0), bx := st.bx.set t0 (some cs) } a (w.heap.push (.cells vs.toArray T0)) ∧ Pr (fun T => T = .priv t0) E w.heap (E.newPriv t0 w.heap.size cs.length) (w.heap.push (.cells vs.toArray T0)) := by
  have P1 : Pr (fun T => T = .priv t0) E w.heap (E.newPriv t0 w.heap.size cs.length) (w.heap.push (.cells vs.toArray T0)) := by
    refine Pr.push (fun b o hb hn => ?_) (Nat.le_refl _) (fun i hi _ => ⟨rfl, rfl, rfl⟩) (fun s hs => ?_) (ver_same rfl)
    · simp only [Env.newPriv]; rw [if_neg (by omega), if_neg hn]
    · simp only [Env.newPriv]; rw [if_neg (by simpa using hs)]
  have hle := P1.shut (by simp) Rl.fresh
  refine ⟨?_, P1⟩
  · refine ⟨Rl.size, by simpa using Rl.mlen, by simpa using Rl.blen, Rl.n, fun t v hv => ?_, fun s cs' hs => ?_, fun i ob hi => (Rl.objs i ob hi).mono P1 hle (lt_of_sg Rl hi) (by simp) (by simp), fun b o hb => ?_⟩
    · have h0 := Rl.regs t v hv
      have hg : (St.get { st with mt := st.mt.map (clearLoc t0), bx := st.bx.set t0 (some cs) } t) = ((st.get t).1, clearLoc t0 (st.get t).2) := by
        simp only [St.get, List.getD_eq_getElem?_getD, List.getElem?_map]
        cases st.mt[t]? <;> rfl
      rw [hg]
      cases hm : (st.get t).2
      case loc s o =>
        rw [hm] at h0
        simp only [RR, RM1] at h0
        simp only [clearLoc]
        split
        · rw [h0.1]; simp only [RR, RM1, RV]
        · rename_i hne
          refine ⟨h0.1, ?_⟩
          rw [h0.2]
          simp only [Env.newPriv]; rw [if_neg hne]
      all_goals
        rw [hm] at h0
        simp only [clearLoc]
        exact h0.mono P1 hle (by simp) (by simp)
    · have hslt : t0 = s → s < st.bx.length := by
        intro hts
        rcases Nat.lt_or_ge s st.bx.length with h1 | h1
        · exact h1
        · simp [List.getD_eq_getElem?_getD, List.getElem?_eq_none (by simpa using h1 : (st.bx.set t0 (some cs)).length ≤ s)] at hs
      by_cases hss : t0 = s
      · subst hss
        simp only [List.getD_eq_getElem?_getD, List.getElem?_set_self (hslt rfl), Option.getD_some, Option.some.injEq] at hs
        subst hs
        refine ⟨vs.toArray, T0, ?_, by simp [lc], fun o => ?_, fun j r v hr hv => ?_⟩
        · simp only [Env.newPriv, if_true]; exact push_new
        · by_cases ho : o < cs.length
          · left; simp only [Env.newPriv, if_true, if_pos ho]
          · right; simp only [List.size_toArray]; omega
        · obtain ⟨q1, q2, q3, q4⟩ := hc j r v hr (by simpa using hv)
          exact ⟨q1, q2, q3, q4.mono P1 hle (fun _ => by simp) fun s o hl => by rw [hl] at q3; simp [mayLie] at q3⟩
      · simp only [List.getD_eq_getElem?_getD, List.getElem?_set_ne hss] at hs
        have B := Rl.boxes s cs' (by simpa [List.getD_eq_getElem?_getD] using hs)
        have hne : ¬ s = t0 := fun h => hss h.symm
        have := B.mono P1 hle (tg := .priv s) (by simpa using hne) (by simp)
        simp only [Env.newPriv] at this ⊢
        rw [if_neg hne]
        exact this
    · simp only [Array.size_push] at hb
      simp only [Env.newPriv]
      rw [if_neg (by omega)]
      have := Rl.fresh b o (by omega)
      rw [this]
      simp

theorem newBox_sim {sh : Bool} {cs : List (DV × Meta)} {vs : List Value} {T0 : TypeId} (hc : CellsOk E w.heap cs vs)
    (H : k (st.newBox sh o.dst cs) = some x) (hr : (execOp a.eval o).run C.P w = .ok (.value (.pointer (some ⟨w.heap.size, 0, none⟩))) (w.alloc (.cells vs.toArray T0))) (Rl : Rel E st a w.heap) (T : Then E w k x K) : Gp C.P o a w K := by
  refine wp_value hr ?_
  obtain ⟨lc, hc⟩ := hc
  cases hd : o.dst with
  | none =>
    rw [hd] at H
    simp only [St.newBox] at H
    have P1 : Pr (fun _ => False) E w.heap E (w.heap.push (.cells vs.toArray T0)) := Pr.push (fun _ _ _ _ => rfl) (Nat.le_refl _) (fun _ _ _ => ⟨rfl, rfl, rfl⟩) (fun _ _ => rfl) (ver_same rfl)
    have hle := P1.shut (by simp) Rl.fresh
    refine T E st _ (w.alloc (.cells vs.toArray T0)) H ?_ (P1.weaken (by simp))
    exact ⟨Rl.size, Rl.mlen, Rl.blen, Rl.n, fun t v hv => (Rl.regs t v hv).mono P1 hle (by simp) (by simp), fun s cs hs => (Rl.boxes s cs hs).mono P1 hle (by simp) (by simp), fun i ob hi => (Rl.objs i ob hi).mono P1 hle (lt_of_sg Rl hi) (by simp) (by simp),
      fun b o hb => Rl.fresh b o (by simp at hb; omega)⟩
  | some t0 =>
    rw [hd] at H
    cases sh with
    | true =>
      simp only [St.newBox, if_true] at H
      have P1 : Pr (fun _ => False) E w.heap (E.newObj w.heap.size cs.length) (w.heap.push (.cells vs.toArray T0)) := by
        refine Pr.push (fun b o hb _ => ?_) (by simp [Env.newObj]) (fun i hi _ => ?_) (fun _ _ => rfl) (ver_new rfl)
        · simp only [Env.newObj]; rw [if_neg (by omega)]
        · refine ⟨?_, ?_, rfl⟩ <;> simp only [Env.newObj] <;> rw [if_neg (by omega)]
      have hle := P1.shut (by simp) Rl.fresh
      have R1 : Rel (E.newObj w.heap.size cs.length) { st with sg := st.sg ++ [.box cs] } a (w.heap.push (.cells vs.toArray T0)) := by
        refine ⟨Rl.size, Rl.mlen, Rl.blen, by simp [Env.In, Env.newObj, Rl.n], fun t v hv => (Rl.regs t v hv).mono P1 hle (by simp) (by simp), fun s cs hs => (Rl.boxes s cs hs).mono P1 hle (by simp) (by simp), fun i ob hi => ?_,
          fun b o hb => ?_⟩
        · by_cases hlt : i < st.sg.length
          · rw [List.getElem?_append_left hlt] at hi
            exact (Rl.objs i ob hi).mono P1 hle (lt_of_sg Rl hi) (by simp) (by simp)
          · have hi1 : i = st.sg.length := by
              have := (List.getElem?_eq_some_iff.1 hi).1
              simp at this; omega
            subst hi1
            simp only [List.getElem?_append_right (Nat.le_refl _), Nat.sub_self, List.getElem?_cons_zero, Option.some.injEq] at hi
            subst hi
            have hn := Rl.n
            refine ⟨vs.toArray, T0, ?_, by simp [lc], fun o => ?_, fun j r v hr hv => ?_⟩
            · simp only [Env.newObj, hn, if_true]; exact push_new
            · by_cases ho : o < cs.length
              · left; simp only [Env.newObj, hn, if_true, if_pos ho]
              · right; simp only [List.size_toArray]; omega
            · obtain ⟨q1, q2⟩ := hc j r v hr (by simpa using hv)
              exact q1.mono P1 hle q2
        · simp only [Array.size_push] at hb
          simp only [Env.newObj]
          rw [if_neg (by omega)]
          exact Rl.fresh b o (by omega)
      refine T (E.newObj w.heap.size cs.length) _ _ (w.alloc (.cells vs.toArray T0)) H (R1.put fun t1 _ => ?_) (P1.weaken (by simp))
      refine RR.of_RM1 ⟨by simp [Env.In, Env.newObj, Rl.n], ?_⟩
      simp only [Env.newObj, Rl.n, if_true]
    | false =>
      simp only [St.newBox, Bool.false_eq_true, if_false] at H
      obtain ⟨R1, P1⟩ := Rl.newPriv (t0 := t0) (T0 := T0) lc fun j r v hr hv => ⟨(hc j r v hr hv).1.1, (hc j r v hr hv).1.2.1, (hc j r v hr hv).1.2.2.1, (hc j r v hr hv).1.2.2.2.tag (hc j r v hr hv).2⟩
      refine T (E.newPriv t0 w.heap.size cs.length) _ _ (w.alloc (.cells vs.toArray T0)) H (R1.put fun t1 ht => ?_) (P1.weaken (by rintro T rfl; simp [Ours]))
      simp only [Option.some.injEq] at ht
      subst ht
      refine RR.of_RM1 ⟨rfl, ?_⟩
      simp only [Env.newPriv, if_true]

end
end Go.Su

/-
  THE DATA MACHINE, part 13: new variables, structs and slices built, maps made, functions made.
-/
namespace Go.Su

theorem splice_get (vs : List Value) (off : Nat) : ∀ (cells : Array Value) (n : Nat), off + n + vs.length ≤ cells.size → ∀ j,
    ((vs.zipIdx n).foldl (fun (cs : Array Value) (p : Value × Nat) => cs.setIfInBounds (off + p.2) p.1) cells)[j]? = if off + n ≤ j ∧ j < off + n + vs.length then vs[j - (off + n)]? else cells[j]? := by
  induction vs with
  | nil =>
    intro cells n _ j
    simp only [List.zipIdx_nil, List.foldl_nil, List.length_nil, Nat.add_zero]
    rw [if_neg (by omega)]
  | cons v vs ih =>
    intro cells n hn j
    simp only [List.zipIdx_cons, List.foldl_cons, List.length_cons] at hn ⊢
    rw [ih _ (n + 1) (by simp; omega) j]
    by_cases h1 : j = off + n
    · subst h1
      rw [if_neg (by omega), if_pos (by omega)]
      simp only [Nat.sub_self, List.getElem?_cons_zero]
      rw [Array.getElem?_setIfInBounds_self_of_lt (by omega)]
    · by_cases h2 : off + (n + 1) ≤ j ∧ j < off + (n + 1) + vs.length
      · rw [if_pos h2, if_pos (by omega)]
        rw [show j - (off + n) = (j - (off + (n + 1))) + 1 from by omega, List.getElem?_cons_succ]
      · rw [if_neg h2, if_neg (by omega), Array.getElem?_setIfInBounds_ne (Ne.symm h1)]

theorem splice_size (vs : List Value) (off : Nat) : ∀ (cells : Array Value) (n : Nat), ((vs.zipIdx n).foldl (fun (cs : Array Value) (p : Value × Nat) => cs.setIfInBounds (off + p.2) p.1) cells).size = cells.size := by
  induction vs with
  | nil => intro cells n; simp
  | cons v vs ih => intro cells n; simp [List.zipIdx_cons, ih]

/-- `fill`'s one step. -/
def splice (cells : Array Value) (off : Nat) (v : Value) : Array Value := v.cells.zipIdx.foldl (fun cs (c, j) => cs.setIfInBounds (off + j) c) cells

theorem splice_eq (cells : Array Value) (off : Nat) (v : Value) : splice cells off v = (v.cells.toList.zipIdx 0).foldl (fun (cs : Array Value) (p : Value × Nat) => cs.setIfInBounds (off + p.2) p.1) cells := by
  unfold splice
  rw [← Array.foldl_toList]
  simp

theorem fill_cons (place : Nat → Option (Nat × Nat)) (cells : Array Value) (i : Nat) (v : Value) (rest : List (Nat × Value)) {off size : Nat} (h1 : place i = some (off, size)) (h2 : v.cells.size = size) (h3 : off + size ≤ cells.size) :
    Instr.fill place cells ((i, v) :: rest) = Instr.fill place (splice cells off v) rest := by
  simp only [Instr.fill, h1]
  rw [if_neg (by simp only [h2, ne_eq, not_true_eq_false, Bool.false_eq_true, false_or, decide_false, Bool.or_eq_true, decide_eq_true_eq]; omega)]
  rfl

theorem mapM_get {α β : Type} {f : α → Option β} : ∀ {l : List α} {r : List β}, l.mapM f = some r → ∀ (i : Nat) y, l[i]? = some y → ∃ z, f y = some z ∧ r[i]? = some z
  | [], r, h, i, y, hy => by simp at hy
  | u :: us, r, h, i, y, hy => by
    simp only [List.mapM_cons, Option.bind_eq_bind, Option.pure_def, Option.bind_eq_some_iff] at h
    obtain ⟨z, hz, zs, hzs, hr⟩ := h
    simp only [Option.some.injEq] at hr
    subst hr
    cases i with
    | zero => simp only [List.getElem?_cons_zero, Option.some.injEq] at hy; subst hy; exact ⟨z, hz, rfl⟩
    | succ i => simp only [List.getElem?_cons_succ] at hy ⊢; exact mapM_get hzs i y hy

section
variable {X : Type} {C : Cfg} {R : Orc} {o : Oper} {st : St} {k : St → Option X} {x : X} {E : Env} {a : Act} {w : World} {K : Act → World → Prop} {Q : Exit → Act → World → Prop}

theorem CellsOk.splice {h : Heap} {cs xs : List (DV × Meta)} {arr : Array Value} {v : Value} {off : Nat} (H : CellsOk E h cs arr.toList) (G : CellsOk E h xs v.cells.toList) (hle : off + xs.length ≤ cs.length) :
    CellsOk E h (putAt cs off xs) (Su.splice arr off v).toList := by
  obtain ⟨l1, l2⟩ := H
  obtain ⟨g1, g2⟩ := G
  have l1' : cs.length = arr.size := by simpa using l1
  have g1' : xs.length = v.cells.toList.length := g1
  rw [splice_eq]
  refine ⟨by rw [putAt_length hle]; simp [splice_size, l1'], fun j r u hr hu => ?_⟩
  rw [putAt_get hle] at hr
  have hu' := hu
  rw [Array.getElem?_toList, splice_get _ _ _ _ (by omega)] at hu'
  simp only [Nat.add_zero] at hu'
  by_cases hc : off ≤ j ∧ j < off + xs.length
  · rw [if_pos hc] at hr
    rw [if_pos (by omega)] at hu'
    exact g2 _ r u hr hu'
  · rw [if_neg hc] at hr
    rw [if_neg (by omega)] at hu'
    exact l2 j r u hr (by simpa using hu')

theorem buildParts_ok {t : TypeId} {fs : Array Field} {pl : List (Nat × Nat)} (hu : C.P.underlying t = some (.struct fs)) (hp : fs.toList.mapM (fun f => (C.P.info? f.type).map fun i => (f.offset, i.size)) = some pl) (Rl : Rel E st a w.heap)
    {F : List (DV × Meta) → Option X} : ∀ (ps : List (Nat × Operand)) (cs : List (DV × Meta)) (arr : Array Value), buildParts C.P t st ps cs F = some x → CellsOk E w.heap cs arr.toList →
    ∃ cs' arr', F cs' = some x ∧ Instr.fill (pl.toArray[·]?) arr (ps.map fun p => (p.1, a.eval p.2)) = some arr' ∧ CellsOk E w.heap cs' arr'.toList
  | [], cs, arr, H, G => ⟨cs, arr, H, rfl, G⟩
  | (i, y) :: ps, cs, arr, H, G => by
    simp only [buildParts] at H
    obtain ⟨f, hf, H⟩ := ob_some H
    obtain ⟨r, hr, H⟩ := ob_some H
    have hfi : fs.toList[i]? = some f := by
      unfold fieldOf at hf
      rw [hu] at hf
      simpa using hf
    obtain ⟨z, hz, hzi⟩ := mapM_get hp i f hfi
    simp only [Option.map_eq_some_iff] at hz
    obtain ⟨inf, hinf, rfl⟩ := hz
    have htz : ∃ z, tz C.P f.type = some z := by
      unfold explode at H
      obtain ⟨z, hz, -⟩ := ob_some H
      exact ⟨z, hz⟩
    obtain ⟨z, htz⟩ := htz
    obtain ⟨xs, H, hl, hok⟩ := explode_ok htz (Rl.src hr) H
    obtain ⟨hle, H⟩ := ite_some H
    have hsz : z.1 = inf.size := by
      obtain ⟨i', d', h1, -, h2, -⟩ := tz_some htz
      rw [hinf] at h1
      simp only [Option.some.injEq] at h1
      rw [h2, h1]
    have hcl : cs.length = arr.size := by simpa using G.1
    have hvs : (a.eval y).cells.size = inf.size := by have := hok.1; simp at this; omega
    obtain ⟨cs', arr', q1, q2, q3⟩ := buildParts_ok hu hp Rl ps _ _ H (G.splice hok hle)
    refine ⟨cs', arr', q1, ?_, q3⟩
    rw [List.map_cons, fill_cons _ _ _ _ _ (off := f.offset) (size := inf.size) (by simpa using hzi) hvs (by omega)]
    exact q2

theorem sim_build {t : TypeId} {ps : Array (Nat × Operand)} (hop : o.op = .build t ps)
    (H : (ob (zeroRegs C.P t) fun zs => ob (places C.P t) fun _ => buildParts C.P t st ps.toList zs fun cs => k (st.put o.dst (aggOf cs).1 (aggOf cs).2)) = some x)
    (Rl : Rel E st a w.heap) (T : Then E w k x K) : Gp C.P o a w K := by
  obtain ⟨zs, hzs, H⟩ := ob_some H
  obtain ⟨pl, hpl, H⟩ := ob_some H
  obtain ⟨inf, zv, hinf, hzv, hok⟩ := zeroRegs_ok hzs
  unfold places at hpl
  split at hpl
  · rename_i fs hu
    obtain ⟨cs, arr, H, hfill, hcs⟩ := buildParts_ok hu hpl Rl ps.toList zs zv.cells H (hok E w.heap)
    have hb : C.P.built t (ps.map fun (i, y) => (i, a.eval y)).toList = some arr := by
      unfold Program.built
      simp only [hinf, hu, hzv, hpl]
      rw [← hfill]
      simp
    refine sim_value (v := .agg arr) ?_ H Rl (fun t0 _ => ?_) @T
    · simp only [execOp, hop]
      exact run_v (run_build w t _ arr hb)
    · have := aggOf_RR (E := E) (w := w) (cs := cs) (vs := arr.toList) hcs.1.symm (fun j v r hv hr => let ⟨⟨a1, a2, a3, a4⟩, _⟩ := hcs.2 j r v hr hv; ⟨a1, a2, a3, _, a4⟩) 0 t0
      simpa using this
  · simp at hpl

theorem sim_alloc {fl : Flags} {t : TypeId} (hop : o.op = .alloc t) (H : (ob (zeroRegs C.P t) fun cs => og (boxOk (dstIn fl.shared o.dst) o.dst st) (k (st.newBox (dstIn fl.shared o.dst) o.dst cs))) = some x)
    (Rl : Rel E st a w.heap) (T : Then E w k x K) : Gp C.P o a w K := by
  obtain ⟨zs, hzs, H⟩ := ob_some H
  obtain ⟨inf, zv, hinf, hzv, hok⟩ := zeroRegs_ok hzs
  obtain ⟨_, H9⟩ := og_some H
  refine newBox_sim (hok E w.heap) H9 (T0 := t) ?_ Rl @T
  simp only [execOp, hop]
  refine run_v ?_
  unfold Instr.alloc
  simp [zeroValue, typeInfo, hinf, hzv, newVar, newRow]

/-- The first cells of a new block are data, element by element. -/
def SegOk (S : Seal) (h : Heap) (sz : Nat) (ds : List DV) (arr : Array Value) : Prop :=
  arr.size = ds.length * sz ∧ ∀ (i : Nat) d, ds[i]? = some d → ∃ vs : List Value, vs.length = sz ∧ (∀ (j : Nat) u, vs[j]? = some u → arr[i * sz + j]? = some u) ∧ RC S h d vs

theorem seg_lt {sz i j n : Nat} (hi : i < n) (hj : j < sz) : i * sz + j < n * sz := by
  calc i * sz + j < i * sz + sz := by omega
    _ = (i + 1) * sz := by rw [Nat.succ_mul]
    _ ≤ n * sz := Nat.mul_le_mul_right _ hi

theorem seg_ne {sz i i' j j' : Nat} (hj : j < sz) (hj' : j' < sz) (h : i * sz + j = i' * sz + j') : i = i' := by
  have hpos : 0 < sz := by omega
  have h1 : (i * sz + j) / sz = i := by rw [Nat.mul_comm, Nat.mul_add_div hpos, Nat.div_eq_of_lt hj, Nat.add_zero]
  have h2 : (i' * sz + j') / sz = i' := by rw [Nat.mul_comm, Nat.mul_add_div hpos, Nat.div_eq_of_lt hj', Nat.add_zero]
  rw [← h1, ← h2, h]

theorem elemVal_ok {z : Nat × Bool} (hz1 : z.2 = false → z.1 = 1) {h : Heap} {p q : Nat} {r : DV × Meta} {v : Value} {F : DV → Option X} (R : RR E h p q r.1 r.2 v) (H : elemVal z r F = some x) :
    F r.1 = some x ∧ v.cells.size = z.1 ∧ RC E.S h r.1 v.cells.toList := by
  unfold elemVal at H
  obtain ⟨hd, H⟩ := og_some H
  have R1 := R.data hd
  by_cases h2 : z.2 = true
  · rw [if_pos h2] at H
    obtain ⟨hg, H⟩ := og_some H
    obtain ⟨vs, rfl, hs, hR⟩ := RV_agg_RC hg R1
    exact ⟨H, hs, hR⟩
  · rw [if_neg h2] at H
    obtain ⟨hc, H⟩ := og_some H
    have ho := isCell_one hc R1
    have hv : v.cells = #[v] := by cases v <;> first | rfl | (simp [Value.oneCell'] at ho)
    refine ⟨H, by rw [hv, hz1 (by simpa using h2)]; rfl, ?_⟩
    rw [hv]
    exact RC_of_RV (isCell_leaf hc) ho R1

theorem SegOk.splice {h : Heap} {sz i : Nat} {ds : List DV} {d : DV} {arr : Array Value} {v : Value} (H : SegOk E.S h sz ds arr) (hi : i < ds.length) (hs : v.cells.size = sz) (hR : RC E.S h d v.cells.toList) :
    SegOk E.S h sz (ds.set i d) (Su.splice arr (i * sz) v) := by
  obtain ⟨l1, l2⟩ := H
  have hlen : v.cells.toList.length = sz := by simpa using hs
  have hfit : i * sz + 0 + v.cells.toList.length ≤ arr.size := by
    rw [l1, hlen, Nat.add_zero, ← Nat.succ_mul]
    exact Nat.mul_le_mul_right _ hi
  rw [splice_eq]
  refine ⟨by rw [splice_size, l1, List.length_set], fun i' d' hd' => ?_⟩
  by_cases hii : i = i'
  · subst hii
    rw [List.getElem?_set_self hi] at hd'
    simp only [Option.some.injEq] at hd'
    subst hd'
    refine ⟨v.cells.toList, hlen, fun j u hu => ?_, hR⟩
    have hj : j < sz := by have := (List.getElem?_eq_some_iff.1 hu).1; omega
    rw [splice_get _ _ _ _ hfit, if_pos (by omega)]
    rw [← hu]
    congr 1
    omega
  · rw [List.getElem?_set_ne hii] at hd'
    obtain ⟨us, u1, u2, u3⟩ := l2 i' d' hd'
    refine ⟨us, u1, fun j u hu => ?_, u3⟩
    have hj : j < sz := by have := (List.getElem?_eq_some_iff.1 hu).1; omega
    rw [splice_get _ _ _ _ hfit, if_neg, u2 j u hu]
    rintro ⟨c1, c2⟩
    exact hii (seg_ne (j := i' * sz + j - i * sz) (j' := j) (by omega) hj (by omega))

theorem Rel.srcE {P : Program} {t : TypeId} (Rl : Rel E st a w.heap) {y : Operand} {r : DV × Meta} (H : srcE P t st y = some r) : RR E w.heap 0 (plc y) r.1 r.2 (a.eval y) := by
  unfold Su.srcE at H
  split at H
  · rename_i vs
    obtain ⟨ts, h1, H⟩ := ob_some H
    obtain ⟨rs, h2, H⟩ := ob_some H
    obtain ⟨hd, H⟩ := og_some H
    simp only [Option.some.injEq] at H
    subst H
    have G := cstAll_ok (E := E) (h := w.heap) h2
    show RV E.S w.heap (.agg _) (.agg vs)
    simp only [RV]
    refine ⟨vs, rfl, RLs_iff.2 ⟨by simpa using G.1, fun j d u hj hu => ?_⟩⟩
    rw [List.getElem?_map] at hj
    cases hr : rs[j]? with
    | none => rw [hr] at hj; cases hj
    | some r =>
      rw [hr, Option.map_some, Option.some.injEq] at hj
      subst hj
      obtain ⟨⟨a1, a2, a3, a4⟩, a5⟩ := G.2 j r u hr (by simpa using hu)
      have hdat := List.all_eq_true.1 hd r (List.mem_of_getElem? hr)
      exact ⟨a1, RC_of_RV a1 a2 (RR.data (k := 9) (a := 0) hdat (RR.of_RM1 (a4.tag a5)))⟩
  · exact Rl.src H

theorem sliceParts_ok {e : TypeId} {z : Nat × Bool} (hz1 : z.2 = false → z.1 = 1) (Rl : Rel E st a w.heap) {F : List DV → Option X} : ∀ (ps : List (Nat × Operand)) (ds : List DV) (arr : Array Value), sliceParts C.P e z st ps ds F = some x → SegOk E.S w.heap z.1 ds arr →
    ∃ ds' arr', F ds' = some x ∧ ds'.length = ds.length ∧ Instr.fill (fun i => some (i * z.1, z.1)) arr (ps.map fun p => (p.1, a.eval p.2)) = some arr' ∧ SegOk E.S w.heap z.1 ds' arr'
  | [], ds, arr, H, G => ⟨ds, arr, H, rfl, rfl, G⟩
  | (i, y) :: ps, ds, arr, H, G => by
    simp only [sliceParts] at H
    obtain ⟨r, hr, H⟩ := ob_some H
    obtain ⟨H, hs, hR⟩ := elemVal_ok hz1 (Rl.srcE hr) H
    obtain ⟨hi, H⟩ := ite_some H
    obtain ⟨ds', arr', q1, q2, q3, q4⟩ := sliceParts_ok hz1 Rl ps _ _ H (G.splice hi hs hR)
    refine ⟨ds', arr', q1, by simpa using q2, ?_, q4⟩
    rw [List.map_cons, fill_cons _ _ _ _ _ (off := i * z.1) (size := z.1) rfl hs ?_]
    · exact q3
    · rw [G.1, ← Nat.succ_mul]
      exact Nat.mul_le_mul_right _ hi

/-- A new block, sealed. -/
def Env.newSeal (E : Env) (b n : Nat) : Env := { E with O := fun b' o => if b' = b then (if o < n then .shut else .other) else E.O b' o }

theorem newSeal_Pr (E : Env) (h : Heap) (ob : Obj) (n : Nat) : Pr (fun _ => False) E h (E.newSeal h.size n) (h.push ob) := by
  refine Pr.push (fun b o hb _ => ?_) (Nat.le_refl _) (fun _ _ _ => ⟨rfl, rfl, rfl⟩) (fun _ _ => rfl) (ver_same rfl)
  simp only [Env.newSeal]; rw [if_neg (by omega)]

/-- Nothing of ours is changed by a block more. -/
theorem Rel.push {E' : Env} {h : Heap} {ob : Obj} (Rl : Rel E st a h) (P : Pr (fun _ => False) E h E' (h.push ob)) (hn : E'.n = E.n) (hf : ∀ b o, (h.push ob).size ≤ b → E'.O b o = .other) : Rel E' st a (h.push ob) := by
  have hle := P.shut (by simp) Rl.fresh
  exact ⟨Rl.size, Rl.mlen, Rl.blen, by rw [hn]; exact Rl.n, fun t v hv => (Rl.regs t v hv).mono P hle (by simp) (by simp), fun s cs hs => by rw [P.blks s (by simp)]; exact (Rl.boxes s cs hs).mono P hle (by simp) (by simp),
    fun i ob hi => (Rl.objs i ob hi).mono P hle (by rw [← Rl.n]; exact (List.getElem?_eq_some_iff.1 hi).1) (by simp) (by simp), hf⟩

theorem sealed_list {h : Heap} {sz : Nat} {ds : List DV} {arr : Array Value} {T0 : TypeId} (hf : ∀ b o, h.size ≤ b → E.O b o = .other) (H : SegOk E.S h sz ds arr) (hpos : ds ≠ [] → 0 < sz) :
    RV (E.newSeal h.size arr.size).S (h.push (.cells arr T0)) (.list sz ds) (.slice (some ⟨h.size, 0, none⟩) ds.length ds.length) := by
  have P := newSeal_Pr E h (.cells arr T0) arr.size
  have hle := P.shut (by simp) hf
  refine RV_list_mk rfl (Nat.le_refl _) (by simp) hpos fun y hy => ?_
  simp only [Option.some.injEq] at hy
  subst hy
  refine ⟨fun _ => rfl, RElems_iff.2 fun i d hd => ?_⟩
  obtain ⟨vs, v1, v2, v3⟩ := H.2 i d hd
  refine ⟨vs, v1, fun j u hu => ?_, v3.mono hle⟩
  have hj : j < sz := by have := (List.getElem?_eq_some_iff.1 hu).1; omega
  have hi : i < ds.length := (List.getElem?_eq_some_iff.1 hd).1
  have hlt := seg_lt hi hj
  refine ⟨by rw [Nat.zero_add, hc_new]; exact v2 j u hu, ?_⟩
  simp only [Env.S, Env.newSeal, if_true]
  rw [if_pos (by rw [H.1]; omega)]

theorem zeroElem_ok {z : Nat × Bool} {h : Heap} {cs : List (DV × Meta)} {ze : DV} {zv : Value} (H : zeroElem z cs = some ze) (G : CellsOk E h cs zv.cells.toList) (hd : cs.all (fun c => isData c.2) = true) : RC E.S h ze zv.cells.toList := by
  have one : ∀ (j : Nat) r u, cs[j]? = some r → zv.cells.toList[j]? = some u → isLeaf r.1 = true ∧ RC E.S h r.1 [u] := by
    intro j r u hr hu
    obtain ⟨⟨a1, a2, a3, a4⟩, a5⟩ := G.2 j r u hr hu
    have hdat := List.all_eq_true.1 hd r (List.mem_of_getElem? hr)
    refine ⟨a1, RC_of_RV a1 a2 ?_⟩
    exact RR.data (k := 9) (a := 0) hdat (RR.of_RM1 (a4.tag a5))
  unfold zeroElem at H
  split at H
  · simp only [Option.some.injEq] at H
    subst H
    simp only [RC]
    refine RLs_iff.2 ⟨by simpa using G.1, fun j d u hj hu => ?_⟩
    simp only [List.getElem?_map, Option.map_eq_some_iff] at hj
    obtain ⟨r, hr, rfl⟩ := hj
    exact one j r u hr hu
  · split at H
    · rename_i c
      simp only [Option.some.injEq] at H
      subst H
      have hlen : zv.cells.toList.length = 1 := by simpa using G.1.symm
      match hz : zv.cells.toList, hlen with
      | [u], _ => exact (one 0 c u rfl (by rw [hz]; rfl)).2
    · simp at H

theorem sim_buildSlice {t : TypeId} {n : Nat} {ps : Array (Nat × Operand)} (hop : o.op = .buildSlice t n ps)
    (H : (ob (elemT C.P t) fun e => ob (tz C.P e) fun z => ob (zeroRegs C.P e) fun zs => ob (zeroElem z zs) fun ze =>
      if (n * z.1 ≤ 2 ^ 24 ∧ z.1 ≠ 0) ∧ zs.length = z.1 ∧ zs.all (fun c => isData c.2) = true then sliceParts C.P e z st ps.toList (List.replicate n ze) fun ds => k (st.put o.dst (.list z.1 ds) .full) else none) = some x)
    (Rl : Rel E st a w.heap) (T : Then E w k x K) : Gp C.P o a w K := by
  obtain ⟨e, he, H⟩ := ob_some H
  obtain ⟨z, hz, H⟩ := ob_some H
  obtain ⟨zs, hzs, H⟩ := ob_some H
  obtain ⟨ze, hze, H⟩ := ob_some H
  obtain ⟨⟨⟨hsize, hz0⟩, hzl, hdat⟩, H⟩ := ite_some H
  have hu : C.P.underlying t = some (.slice e) := by
    unfold elemT at he
    split at he
    · simp only [Option.some.injEq] at he; subst he; assumption
    · simp at he
  obtain ⟨inf, zv, hinf, hzv, hok⟩ := zeroRegs_ok hzs
  obtain ⟨inf', dsc, hinf', hue, hzz, hz1⟩ := tz_some hz
  rw [hinf] at hinf'
  simp only [Option.some.injEq] at hinf'
  subst hinf'
  have hz1' : z.1 = inf.size := by rw [hzz]
  -- the zero value's size
  have hzs' : zv.cells.size = z.1 := by have := (hok E w.heap).1; simp at this; omega
  have hRC := zeroElem_ok (E := E) (h := w.heap) hze (hok E w.heap) hdat
  have hseg : SegOk E.S w.heap z.1 (List.replicate n ze) ((Array.range (n * z.1)).map (zv.cells[· % zv.cells.size]!)) := by
    refine ⟨by simp, fun i d hd => ?_⟩
    have hi : i < n := by have := (List.getElem?_eq_some_iff.1 hd).1; simpa using this
    rw [List.getElem?_replicate, if_pos hi] at hd
    simp only [Option.some.injEq] at hd
    subst hd
    refine ⟨zv.cells.toList, by simpa using hzs', fun j u hu => ?_, hRC⟩
    have hj : j < z.1 := by have := (List.getElem?_eq_some_iff.1 hu).1; simp at this; omega
    have hlt := seg_lt hi hj
    rw [Array.getElem?_map, Array.getElem?_range, if_pos hlt]
    simp only [Option.map_some, Option.some.injEq]
    rw [hzs', Nat.mul_comm, Nat.mul_add_mod, Nat.mod_eq_of_lt hj]
    rw [getElem!_def, show zv.cells[j]? = some u from by simpa using hu]
  obtain ⟨ds, arr, H, hdl, hfill, hsg⟩ := sliceParts_ok hz1 Rl ps.toList _ _ H hseg
  have hdn : ds.length = n := by simpa using hdl
  have P1 := newSeal_Pr E w.heap (.cells arr e) arr.size
  have hrun : (execOp a.eval o).run C.P w = .ok (.value (.slice (some ⟨w.heap.size, 0, none⟩) n n)) (w.alloc (.cells arr e)) := by
    simp only [execOp, hop]
    refine run_v ?_
    unfold Instr.buildSlice
    have hfill' : Instr.fill (fun i => some (i * z.1, z.1)) ((Array.range (n * z.1)).map (zv.cells[· % zv.cells.size]!)) (ps.map fun (i, y) => (i, a.eval y)).toList = some arr := by
      rw [← hfill]; simp
    simp only [Sem.run_bind, run_underlying hu, Result.andThen_ok, tz_sizeOf hz, Sem.run_ite]
    rw [if_neg (by omega)]
    by_cases hn0 : n * z.1 = 0
    · have : ((Array.range (n * z.1)).map (zv.cells[· % zv.cells.size]!)) = ((Array.range (n * z.1)).map ((#[] : Array Value)[· % (#[] : Array Value).size]!)) := by rw [hn0]; simp
      rw [this] at hfill'
      simp only [Sem.run_pure, Result.andThen_ok, if_pos hn0, hfill']
      rfl
    · simp only [if_neg hn0, zeroValue, typeInfo, Sem.run_bind, run_program, Result.andThen_ok, hinf, Sem.run_pure, hzv, hfill']
      rfl
  refine wp_value hrun (T (E.newSeal w.heap.size arr.size) _ _ (w.alloc (.cells arr e)) H ((Rl.push P1 rfl fun b o hb => ?_).put fun t0 _ => ?_) (P1.weaken (by simp)))
  · simp only [Array.size_push] at hb
    simp only [Env.newSeal]
    rw [if_neg (by omega)]
    exact Rl.fresh b o (by omega)
  · refine ⟨?_, ⟨_, _, rfl⟩, _, _, rfl⟩
    have := sealed_list (T0 := e) Rl.fresh hsg (fun _ => by omega)
    rw [hdn] at this
    exact this

/-- The tags of what a register's cells own become those of a variable's cells. -/
def boxTag (y : Operand) (t off : Nat) (T : Tag) : Tag :=
  match y, T with
  | .tmp s', .sp 0 s (b + 1) => if s' = s then .sp 1 t (off + b) else .sp 0 s (b + 1)
  | _, T => T

theorem boxTag_id {y : Operand} {t off : Nat} {T : Tag} (h : ∀ s b, y = .tmp s → T ≠ .sp 0 s b) : boxTag y t off T = T := by
  unfold boxTag
  split
  · split
    · rename_i hx; subst hx; exact absurd rfl (h _ _ rfl)
    · rfl
  · rfl

/-- What an operand's cells own. -/
theorem CellOk.box {E : Env} {h : Heap} {y : Operand} {t off j : Nat} {r : DV × Meta} {v : Value} (hy : (∀ i, y ≠ .tmp i) → r.2 ≠ .own) (H : CellOk E h (.sp 0 (plc y) (j + 1)) r v) : CellOk (E.re (boxTag y t off)) h (.sp 1 t (off + j)) r v := by
  obtain ⟨a1, a2, a3, a4⟩ := H
  refine ⟨a1, a2, a3, ?_⟩
  by_cases hx : ∃ i, y = .tmp i
  · obtain ⟨i, rfl⟩ := hx
    exact a4.re (boxTag_id (by simp)) (by simp [boxTag, plc])
  · have hno := hy fun i hi => hx ⟨i, hi⟩
    have a5 : RM1 (E.re (boxTag y t off)) h .other r.1 r.2 v := (a4.tag hno : RM1 E h .other r.1 r.2 v).re (boxTag_id (by simp)) (boxTag_id (by simp))
    exact a5.tag hno

theorem noagg_src {P : Program} {t : TypeId} {y : Operand} {r : DV × Meta} (hs : src P t st y = some r) (hy : ∀ i, y ≠ .tmp i) : ∀ ms, r.2 ≠ .aggm ms := by
  cases y with
  | tmp i => exact absurd rfl (hy i)
  | const v => exact cst_noagg hs
  | func f => simp only [src, Option.some.injEq] at hs; subst hs; simp
  | global g => simp [src] at hs

theorem sim_box {fl : Flags} {t : TypeId} {y : Operand} (hop : o.op = .box t y) (H : (ob (src C.P t st y) fun r =>
    if dstIn fl.refb o.dst then ob (tz C.P t) fun z => og (isData r.2 && isAggN z.1 r.1 && z.2) (k (st.put o.dst (.pref z.1 r.1) .val))
    else if dstIn fl.steal o.dst then explodeO C.P t r fun cs => og (boxOk false o.dst st) (k ((st.release y).newBox false o.dst cs))
    else explode C.P t r fun cs => og (boxOk (dstIn fl.shared o.dst) o.dst st) (k (st.newBox (dstIn fl.shared o.dst) o.dst cs))) = some x)
    (Rl : Rel E st a w.heap) (T : Then E w k x K) : Gp C.P o a w K := by
  obtain ⟨r, hr, H⟩ := ob_some H
  have hrun : (execOp a.eval o).run C.P w = .ok (.value (.pointer (some ⟨w.heap.size, 0, none⟩))) (w.alloc (.cells (a.eval y).cells t)) := by
    simp only [execOp, hop]
    refine run_v ?_
    simp [Instr.box, newVar, newRow]
  have e1 := Rl.src hr
  by_cases hrb : dstIn fl.refb o.dst = true
  · -- a variable that is sealed at once
    rw [if_pos hrb] at H
    obtain ⟨z, hz, H⟩ := ob_some H
    obtain ⟨hd, H⟩ := og_some H
    simp only [Bool.and_eq_true] at hd
    obtain ⟨vs, hv, hs, hR⟩ := RV_agg_RC hd.1.2 (e1.data hd.1.1)
    have P1 := newSeal_Pr E w.heap (.cells (a.eval y).cells t) z.1
    refine wp_value hrun (T (E.newSeal w.heap.size z.1) _ _ (w.alloc (.cells (a.eval y).cells t)) H ((Rl.push P1 rfl fun b o hb => ?_).put fun t0 _ => ?_) (P1.weaken (by simp)))
    · simp only [Array.size_push] at hb
      simp only [Env.newSeal]
      rw [if_neg (by omega)]
      exact Rl.fresh b o (by omega)
    · show RV _ _ _ _
      have hle := P1.shut (by simp) Rl.fresh
      simp only [RV, RC]
      refine ⟨_, _, rfl, vs.toList, by simpa using hs, fun j v hv' => ?_, hR.mono hle⟩
      have hj : j < z.1 := by have := (List.getElem?_eq_some_iff.1 hv').1; simp at this; omega
      rw [Nat.zero_add]
      refine ⟨?_, ?_⟩
      · show hc (w.heap.push _) w.heap.size j = _
        rw [hc_new, hv]
        simpa [Value.cells] using hv'
      · simp only [Env.S, Env.newSeal, if_true]
        rw [if_pos hj]
  rw [if_neg hrb] at H
  by_cases hst : dstIn fl.steal o.dst = true
  · rw [if_pos hst] at H
    have htz : ∃ z, tz C.P t = some z := by
      unfold explodeO at H
      obtain ⟨z, hz, -⟩ := ob_some H
      exact ⟨z, hz⟩
    obtain ⟨z, htz⟩ := htz
    obtain ⟨xs, H, hl, ⟨lc, hok⟩, hno⟩ := explodeO_ok htz e1 H
    obtain ⟨_, H⟩ := og_some H
    cases hd : o.dst with
    | none => rw [hd] at hst; simp [dstIn] at hst
    | some t0 =>
      rw [hd] at H
      refine wp_value hrun ?_
      rw [hd]
      simp only [St.newBox, Bool.false_eq_true, if_false] at H
      have Rl1 := Rl.release (x := y) (f := boxTag y t0 0) fun T hT => boxTag_id hT
      have P0 : Pr Ours E w.heap (E.re (boxTag y t0 0)) w.heap := Pr.re fun T hT => boxTag_id fun s b _ he => hT (by rw [he]; simp [Ours])
      obtain ⟨R1, P1⟩ := Rl1.newPriv (t0 := t0) (T0 := t) lc fun j r' v hr' hv => by
        have := (hok j r' v hr' hv).box (t := t0) (off := 0) fun hy => hno (noagg_src hr hy) r' (List.mem_of_getElem? hr')
        rwa [Nat.zero_add] at this
      rw [Array.toArray_toList] at R1 P1
      refine T _ _ _ (w.alloc (.cells (a.eval y).cells t)) H (R1.put fun t1 ht => ?_) (P0.trans (P1.weaken (by rintro T rfl; simp [Ours])))
      simp only [Option.some.injEq] at ht
      subst ht
      refine RR.of_RM1 ⟨rfl, ?_⟩
      simp only [Env.newPriv, if_true]
  rw [if_neg hst] at H
  have htz : ∃ z, tz C.P t = some z := by
    unfold explode at H
    obtain ⟨z, hz, -⟩ := ob_some H
    exact ⟨z, hz⟩
  obtain ⟨z, htz⟩ := htz
  obtain ⟨xs, H, hl, hok⟩ := explode_ok htz e1 H
  obtain ⟨_, H9⟩ := og_some H
  exact newBox_sim hok H9 (T0 := t) (by simpa using hrun) Rl @T

def Env.newMap (E : Env) (b : Nat) : Env :=
  { E with obj := fun i => if i = E.n then b else E.obj i, base := fun i => if i = E.n then 0 else E.base i, n := E.n + 1, ver := fun i => if i = E.n then 0 else E.ver i,
           O := fun b' o => if b' = b then .obj E.n else E.O b' o }

theorem sim_makeMap {t : TypeId} (hop : o.op = .makeMap t none) {ks : Bool} (H : k ({ st with sg := st.sg ++ [SObj.map ks []] }.put o.dst .undef (.map st.sg.length)) = some x)
    (Rl : Rel E st a w.heap) (T : Then E w k x K) : Gp C.P o a w K := by
  have hrun : (execOp a.eval o).run C.P w = .ok (.value (.map (some w.heap.size))) (w.alloc (.map #[] 0)) := by
    simp only [execOp, hop]
    refine run_v ?_
    simp [Instr.makeMap]
  have P1 : Pr (fun _ => False) E w.heap (E.newMap w.heap.size) (w.heap.push (.map #[] 0)) := by
    refine Pr.push (fun b o hb _ => ?_) (by simp [Env.newMap]) (fun i hi _ => ?_) (fun _ _ => rfl) (ver_new rfl)
    · simp only [Env.newMap]; rw [if_neg (by omega)]
    · refine ⟨?_, ?_, rfl⟩ <;> simp only [Env.newMap] <;> rw [if_neg (by omega)]
  have hle := P1.shut (by simp) Rl.fresh
  have hn := Rl.n
  have R1 : Rel (E.newMap w.heap.size) { st with sg := st.sg ++ [SObj.map ks []] } a (w.heap.push (.map #[] 0)) := by
    refine ⟨Rl.size, Rl.mlen, Rl.blen, by simp [Env.In, Env.newMap, Rl.n], fun t v hv => (Rl.regs t v hv).mono P1 hle (by simp) (by simp), fun s cs hs => (Rl.boxes s cs hs).mono P1 hle (by simp) (by simp), fun i ob hi => ?_,
          fun b o hb => ?_⟩
    · by_cases hlt : i < st.sg.length
      · simp only [List.getElem?_append_left hlt] at hi
        exact (Rl.objs i ob hi).mono P1 hle (lt_of_sg Rl hi) (by simp) (by simp)
      · have hi1 : i = st.sg.length := by
          have := (List.getElem?_eq_some_iff.1 hi).1
          simp at this; omega
        subst hi1
        simp only [List.getElem?_append_right (Nat.le_refl _), Nat.sub_self, List.getElem?_cons_zero, Option.some.injEq] at hi
        subst hi
        refine ⟨#[], 0, ?_, fun o => ?_, ⟨rfl, by simp⟩, by simp [Born]⟩
        · simp only [Env.newMap, hn, if_true]; exact push_new
        · simp only [Env.newMap, hn, if_true]
    · have hb' : w.heap.size + 1 ≤ b := by simpa using hb
      simp only [Env.newMap]
      rw [if_neg (by omega)]
      exact Rl.fresh b o (by omega)
  refine wp_value hrun (T _ _ _ (w.alloc (.map #[] 0)) H (R1.put fun t0 _ => ?_) (P1.weaken (by simp)))
  refine RR.of_RM1 ⟨by simp [Env.In, Env.newMap, hn], ?_⟩
  simp only [Env.newMap, hn, if_true]

theorem srcs_some {P : Program} : ∀ {ts : List TypeId} {xs : List Operand} {rs : List (DV × Meta)}, srcs P st ts xs = some rs → rs.length = xs.length ∧ ∀ (i : Nat) y r, xs[i]? = some y → rs[i]? = some r → ∃ t, src P t st y = some r
  | ts, [], rs, H => by
    cases ts <;> simp only [srcs, Option.some.injEq] at H <;> subst H <;> simp
  | t :: ts, y :: xs, rs, H => by
    simp only [srcs] at H
    obtain ⟨r, hr, H⟩ := ob_some H
    obtain ⟨rs', hrs, H⟩ := ob_some H
    simp only [Option.some.injEq] at H
    subst H
    obtain ⟨l1, l2⟩ := srcs_some hrs
    refine ⟨by simp [l1], fun i z r' hz hr' => ?_⟩
    cases i with
    | zero => simp only [List.getElem?_cons_zero, Option.some.injEq] at hz hr'; subst hz hr'; exact ⟨t, hr⟩
    | succ i => simp only [List.getElem?_cons_succ] at hz hr'; exact l2 i z r' hz hr'
  | [], y :: xs, rs, H => by
    simp only [srcs] at H
    obtain ⟨r, hr, H⟩ := ob_some H
    obtain ⟨rs', hrs, H⟩ := ob_some H
    simp only [Option.some.injEq] at H
    subst H
    obtain ⟨l1, l2⟩ := srcs_some hrs
    refine ⟨by simp [l1], fun i z r' hz hr' => ?_⟩
    cases i with
    | zero => simp only [List.getElem?_cons_zero, Option.some.injEq] at hz hr'; subst hz hr'; exact ⟨_, hr⟩
    | succ i => simp only [List.getElem?_cons_succ] at hz hr'; exact l2 i z r' hz hr'

theorem capMetas_some : ∀ {rs : List (DV × Meta)} {ms : List (Nat × Nat)}, capMetas rs = some ms → rs.length = ms.length ∧ ∀ (i : Nat) r m, rs[i]? = some r → ms[i]? = some m → r.2 = .ptr m.1 m.2
  | [], ms, H => by simp only [capMetas, Option.some.injEq] at H; subst H; simp
  | (d, m) :: rs, ms, H => by
    unfold capMetas at H
    split at H
    · rename_i heq; simp at heq
    · rename_i heq
      simp only [List.cons.injEq, Prod.mk.injEq] at heq
      obtain ⟨⟨-, rfl⟩, rfl⟩ := heq
      obtain ⟨ms', hms, H⟩ := ob_some H
      simp only [Option.some.injEq] at H
      subst H
      obtain ⟨l1, l2⟩ := capMetas_some hms
      refine ⟨by simp [l1], fun i r m hr hm => ?_⟩
      cases i with
      | zero => simp only [List.getElem?_cons_zero, Option.some.injEq] at hr hm; subst hr hm; rfl
      | succ i => simp only [List.getElem?_cons_succ] at hr hm; exact l2 i r m hr hm
    · simp at H

theorem sim_makeFunc {f : FuncId} {first caps : Array Operand} (hop : o.op = .makeFunc (.func f) first caps)
    (H : (if first.isEmpty then ob (srcs C.P st [] caps.toList) fun rs => ob (capMetas rs) fun ms => k (st.put o.dst .undef (.fn f ms)) else none) = some x) (Rl : Rel E st a w.heap) (T : Then E w k x K) : Gp C.P o a w K := by
  obtain ⟨hf, H⟩ := ite_some H
  obtain ⟨rs, hrs, H⟩ := ob_some H
  obtain ⟨ms, hms, H⟩ := ob_some H
  obtain ⟨l1, l2⟩ := srcs_some hrs
  obtain ⟨m1, m2⟩ := capMetas_some hms
  have key : ∀ (i : Nat) y, caps.toList[i]? = some y → ∃ m, ms[i]? = some m ∧ E.In m.1 ∧ a.eval y = .pointer (some ⟨E.obj m.1, m.2, none⟩) := by
    intro i y hy
    have hi : i < caps.toList.length := (List.getElem?_eq_some_iff.1 hy).1
    have hr : rs[i]? = some (rs[i]'(by omega)) := List.getElem?_eq_getElem (by omega)
    have hm : ms[i]? = some (ms[i]'(by omega)) := List.getElem?_eq_getElem (by omega)
    obtain ⟨t, ht⟩ := l2 i y _ hy hr
    have e := Rl.src ht
    rw [m2 i _ _ hr hm] at e
    simp only [RR, RM1] at e
    exact ⟨_, hm, e⟩
  refine sim_value (v := .func (.func f) #[] (caps.map a.eval)) ?_ H Rl (fun _ _ => RR.of_RM1 ⟨?_, ?_⟩) @T
  · simp only [execOp, hop]
    refine run_v ?_
    have : first = #[] := by simpa using hf
    subst this
    simp [Instr.makeFunc]
  · congr 1
    apply Array.toList_inj.1
    simp only [Array.toList_map]
    apply List.ext_getElem?
    intro i
    simp only [List.getElem?_map]
    cases hy : caps.toList[i]? with
    | none =>
      have : ms[i]? = none := by
        rw [List.getElem?_eq_none_iff] at hy ⊢
        omega
      simp [this]
    | some y =>
      obtain ⟨m, hm, -, he⟩ := key i y hy
      simp [hm, he]
  · intro c hc
    obtain ⟨i, hi, hii⟩ := List.mem_iff_getElem.1 hc
    have hy : caps.toList[i]? = some (caps.toList[i]'(by omega)) := List.getElem?_eq_getElem (by omega)
    obtain ⟨m, hm, hlt, -⟩ := key i _ hy
    rw [List.getElem?_eq_getElem hi, hii] at hm
    simp only [Option.some.injEq] at hm
    subst hm
    exact hlt

end
end Go.Su

/-
  THE DATA MACHINE, part 14: memory written; maps read and written; parts of results.
-/
namespace Go.Su

theorem setCell_heap (w : World) {b o : Nat} {c : Array Value} {T : TypeId} {f : Nat × Nat} (h : w.heap[b]? = some (.cells c T f)) (v : Value) :
    (w.setCell ⟨b, o, none⟩ v).heap[b]? = some (.cells (c.setIfInBounds o v) T f) ∧ (∀ b', b' ≠ b → (w.setCell ⟨b, o, none⟩ v).heap[b']? = w.heap[b']?) ∧ (w.setCell ⟨b, o, none⟩ v).heap.size = w.heap.size := by
  have hlt : b < w.heap.size := (Array.getElem?_eq_some_iff.1 h).1
  have hv : w.heap[b] = .cells c T f := (Array.getElem?_eq_some_iff.1 h).2
  refine ⟨?_, fun b' hb => ?_, by simp⟩
  · unfold World.setCell
    rw [Array.getElem?_eq_getElem (by simpa using hlt), Array.getElem_modify]
    simp [hv]
  · simp [World.setCell, Array.getElem?_modify, Ne.symm hb]

/-- What a row of stores leaves. -/
structure Stored (w w' : World) (b o : Nat) (vs : List Value) (c : Array Value) (T : TypeId) (f : Nat × Nat) : Prop where
  ex : ∃ c', w'.heap[b]? = some (.cells c' T f) ∧ c'.size = c.size ∧ ∀ j, c'[j]? = if o ≤ j ∧ j < o + vs.length then vs[j - o]? else c[j]?
  rest : ∀ b', b' ≠ b → w'.heap[b']? = w.heap[b']?
  size : w'.heap.size = w.heap.size
  out : Outer w w'

theorem run_storeCells {P : Program} {b T : Nat} {f : Nat × Nat} (off : Nat) : ∀ (vs : List Value) (c : Array Value) (i : Nat) (w : World), w.heap[b]? = some (.cells c T f) → off + i + vs.length ≤ c.size → (∀ v ∈ vs, v.oneCell' = true) →
    (∀ o, off + i ≤ o → o < off + i + vs.length → ¬ (f.1 ≤ o ∧ o < f.2)) → ∃ w', (storeCells ⟨b, off, none⟩ vs i).run P w = .ok () w' ∧ Stored w w' b (off + i) vs c T f
  | [], c, i, w, h, _, _, _ => ⟨w, rfl, ⟨c, h, rfl, fun j => by rw [if_neg (by rintro ⟨h1, h2⟩; simp at h2; omega)]⟩, fun _ _ => rfl, rfl, Outer.refl _⟩
  | v :: vs, c, i, w, h, hn, ho, hf => by
    simp only [List.length_cons] at hn hf
    have hcell : w.cell? ⟨b, off + i, none⟩ = some (c[off + i]'(by omega)) := by
      rw [cell_hc]; unfold hc; rw [h]; exact Array.getElem?_eq_getElem (by omega)
    have hfr : w.frozen? ⟨b, off + i, none⟩ = false := by
      unfold World.frozen?
      simp only [h]
      have := hf (off + i) (Nat.le_refl _) (by omega)
      simpa using this
    have h1 : (store ((⟨b, off, none⟩ : Addr).add i) v).run P w = .ok () (w.setCell ⟨b, off + i, none⟩ v) := by
      rw [Addr.add_lit, run_store P w _ v _ (ho v (by simp)), hcell]
      simp [hfr]
    obtain ⟨s1, s2, s3⟩ := setCell_heap w (o := off + i) h v
    obtain ⟨w', r1, ⟨c', e1, e2, e3⟩, e4, e5, e6⟩ := run_storeCells off vs _ (i + 1) _ s1 (by simp; omega) (fun u hu => ho u (by simp [hu])) (fun o h1 h2 => hf o (by omega) (by omega))
    refine ⟨w', ?_, ⟨c', e1, by simpa using e2, fun j => ?_⟩, fun b' hb => (e4 b' hb).trans (s2 b' hb), e5.trans s3, Outer.trans (b := w.setCell ⟨b, off + i, none⟩ v) ⟨rfl, rfl, rfl⟩ e6⟩
    · unfold storeCells
      simp only [Sem.run_bind, h1, Result.andThen_ok]
      exact r1
    · rw [e3 j, List.length_cons]
      by_cases hj : j = off + i
      · subst hj
        rw [if_neg (by omega), if_pos (by omega), Array.getElem?_setIfInBounds_self_of_lt (by omega)]
        simp
      · rw [Array.getElem?_setIfInBounds_ne (Ne.symm hj)]
        by_cases hc : off + (i + 1) ≤ j ∧ j < off + (i + 1) + vs.length
        · rw [if_pos hc, if_pos (by omega), show j - (off + i) = (j - (off + (i + 1))) + 1 from by omega, List.getElem?_cons_succ]
        · rw [if_neg hc, if_neg (by omega)]

theorem run_storeVar {P : Program} {t : TypeId} {z : Nat × Bool} (hz : tz P t = some z) {w : World} {b off T : Nat} {f : Nat × Nat} {c : Array Value} {v : Value} (h : w.heap[b]? = some (.cells c T f)) (hs : v.cells.size = z.1) (hn : off + z.1 ≤ c.size)
    (ho : ∀ u ∈ v.cells.toList, u.oneCell' = true) (hf : ∀ o, off ≤ o → o < off + z.1 → ¬ (f.1 ≤ o ∧ o < f.2)) : ∃ w', (storeVar t ⟨b, off, none⟩ v).run P w = .ok () w' ∧ Stored w w' b off v.cells.toList c T f := by
  obtain ⟨w', r, s⟩ := run_storeCells (P := P) off v.cells.toList c 0 w h (by simp; omega) ho (fun o h1 h2 => hf o (by omega) (by simp at h2; omega))
  refine ⟨w', ?_, by simpa using s⟩
  unfold storeVar
  simp only [Sem.run_bind, tz_sizeOf hz, Result.andThen_ok, Sem.run_ite]
  rw [if_neg (by omega)]
  exact r

/-- The same environment; the block `b`, whose cells are `tg`'s, is written. -/
theorem Stored.Pr {E : Env} {w w' : World} {b o : Nat} {vs : List Value} {c : Array Value} {T : TypeId} {f : Nat × Nat} (S : Stored w w' b o vs c T f) {ch : Tag → Prop} (hb : w.heap[b]? = some (.cells c T f)) (ht : ∀ j, o ≤ j → j < o + vs.length → ch (E.O b j)) :
    Pr ch E w.heap E w'.heap := by
  refine ⟨Nat.le_of_eq S.size.symm, fun b' hb' => ?_, fun _ _ _ _ => rfl, Nat.le_refl _, fun _ _ _ => ⟨rfl, rfl, rfl⟩, fun _ _ => rfl, ver_same rfl⟩
  by_cases hbb : b' = b
  · subst hbb
    rw [hb]
    obtain ⟨c', e1, e2, e3⟩ := S.ex
    refine ⟨c', e1, e2, fun j hj => ?_⟩
    rw [e3 j, if_neg]
    rintro ⟨c1, c2⟩
    exact hj (ht j c1 c2)
  · rw [S.rest b' hbb]; exact KeepBlk.refl _ _

section
variable {X : Type} {C : Cfg} {R : Orc} {o : Oper} {st : St} {k : St → Option X} {x : X} {E : Env} {a : Act} {w : World} {K : Act → World → Prop} {Q : Exit → Act → World → Prop}

/-- New cells in a variable. -/
theorem RBox.write {w' : World} {tg : Tag} {p q b : Nat} {cs xs : List (DV × Meta)} {off : Nat} {vs : List Value} {c : Array Value} {T : TypeId} (B : RBox E w.heap tg p q b cs) (hb : w.heap[b]? = some (.cells c T (0, 0))) (S : Stored w w' b off vs c T (0, 0))
    (hl : xs.length = vs.length) (hle : off + xs.length ≤ cs.length) (hx : ∀ (j : Nat) r v, xs[j]? = some r → vs[j]? = some v → CellOk E w.heap (.sp p q (off + j)) r v) (hs : SealLe E.S w.heap E.S w'.heap)
    (hP : Pr (fun t => t = tg) E w.heap E w'.heap) (hns : ∀ k' a' b', tg ≠ .sp k' a' b') : RBox E w'.heap tg p q b (putAt cs off xs) := by
  obtain ⟨c0, T0, h1, h2, h3, h4⟩ := B
  rw [hb] at h1
  simp only [Option.some.injEq, Obj.cells.injEq] at h1
  obtain ⟨rfl, rfl, -⟩ := h1
  obtain ⟨c', e1, e2, e3⟩ := S.ex
  have mono : ∀ {tg' : Tag} {r : DV × Meta} {v : Value}, (∃ x y z, tg' = .sp x y z) → CellOk E w.heap tg' r v → CellOk E w'.heap tg' r v := by
    rintro tg' r v ⟨x1, y1, z1, rfl⟩ ⟨a1, a2, a3, a4⟩
    exact ⟨a1, a2, a3, a4.mono hP hs (fun _ => fun h => hns _ _ _ h.symm) fun s o' hm => by rw [hm] at a3; simp [mayLie] at a3⟩
  refine ⟨c', T, e1, by rw [e2, h2, putAt_length hle], fun o' => ?_, fun j r v hr hv => ?_⟩
  · rcases h3 o' with h5 | h5
    · exact .inl h5
    · exact .inr (by omega)
  · rw [putAt_get hle] at hr
    rw [e3 j] at hv
    by_cases hc : off ≤ j ∧ j < off + xs.length
    · rw [if_pos hc] at hr
      rw [if_pos (by omega)] at hv
      have := hx (j - off) r v hr hv
      rw [show off + (j - off) = j from by omega] at this
      exact mono ⟨_, _, _, rfl⟩ this
    · rw [if_neg hc] at hr
      rw [if_neg (by omega)] at hv
      exact mono ⟨_, _, _, rfl⟩ (h4 j r v hr hv)

/-- The relation behind a write into a private variable. -/
theorem Rel.write_box {w' : World} {s off : Nat} {cs xs : List (DV × Meta)} {vs : List Value} {c : Array Value} {T : TypeId} (Rl : Rel E st a w.heap) (hbx : st.bx.getD s none = some cs) (hb : w.heap[E.blk s]? = some (.cells c T (0, 0)))
    (S : Stored w w' (E.blk s) off vs c T (0, 0)) (hl : xs.length = vs.length) (hle : off + xs.length ≤ cs.length) (hx : ∀ (j : Nat) r v, xs[j]? = some r → vs[j]? = some v → CellOk E w.heap (.sp 1 s (off + j)) r v) :
    Rel E { st with bx := st.bx.set s (some (putAt cs off xs)) } a w'.heap ∧ Pr (fun t => t = .priv s) E w.heap E w'.heap := by
  have B := Rl.boxes s cs hbx
  have hsz : c.size = cs.length := by
    obtain ⟨c0, T0, h1, h2, -⟩ := B
    rw [hb] at h1
    simp only [Option.some.injEq, Obj.cells.injEq] at h1
    rw [h1.1]; exact h2
  have hP : Pr (fun t => t = .priv s) E w.heap E w'.heap := S.Pr hb fun j h1 h2 => by
    obtain ⟨c1, T1, g1, g2, g3, -⟩ := B
    rw [hb] at g1
    simp only [Option.some.injEq, Obj.cells.injEq] at g1
    rcases g3 j with h6 | h6
    · exact h6
    · rw [← g1.1] at h6; omega
  have hs := hP.shut (by simp) Rl.fresh
  refine ⟨⟨Rl.size, Rl.mlen, by simpa using Rl.blen, Rl.n, fun t v hv => ?_, fun s' cs' hs' => ?_, fun i ob hi => (Rl.objs i ob hi).mono hP hs (lt_of_sg Rl hi) (by simp) (by simp), fun b o' hb' => Rl.fresh b o' (by rw [← S.size]; exact hb')⟩, hP⟩
  · have h0 := Rl.regs t v hv
    cases hm : (st.get t).2
    case loc s' o' =>
      show RR E w'.heap 0 t (st.get t).1 (st.get t).2 v
      rw [hm] at h0 ⊢
      exact h0
    all_goals
      show RR E w'.heap 0 t (st.get t).1 (st.get t).2 v
      exact h0.mono hP hs (by simp) (by rw [hm]; simp)
  · have hslt : s < st.bx.length := by
      rcases Nat.lt_or_ge s st.bx.length with h1 | h1
      · exact h1
      · simp [List.getD_eq_getElem?_getD, List.getElem?_eq_none h1] at hbx
    by_cases hss : s = s'
    · subst hss
      simp only [List.getD_eq_getElem?_getD, List.getElem?_set_self hslt, Option.getD_some, Option.some.injEq] at hs'
      subst hs'
      exact B.write hb S hl hle hx hs hP (by simp)
    · simp only [List.getD_eq_getElem?_getD, List.getElem?_set_ne hss] at hs'
      exact (Rl.boxes s' cs' (by simpa [List.getD_eq_getElem?_getD] using hs')).mono hP hs (by simp; exact fun h => hss h.symm) (by simp)

theorem Rel.write_obj {w' : World} {i off : Nat} {cs xs : List (DV × Meta)} {vs : List Value} {c : Array Value} {T : TypeId} (Rl : Rel E st a w.heap) (hsg : st.sg[i]? = some (.box cs)) (hb : w.heap[E.obj i]? = some (.cells c T (0, 0)))
    (S : Stored w w' (E.obj i) off vs c T (0, 0)) (hl : xs.length = vs.length) (hle : off + xs.length ≤ cs.length) (hx : ∀ (j : Nat) r v, xs[j]? = some r → vs[j]? = some v → CellOk E w.heap (.sp 2 i (off + j)) r v) :
    Rel E { st with sg := st.sg.set i (.box (putAt cs off xs)) } a w'.heap ∧ Pr (fun t => t = .obj i) E w.heap E w'.heap := by
  have B := Rl.objs i _ hsg
  simp only [RO] at B
  have hsz : c.size = cs.length := by
    obtain ⟨c0, T0, h1, h2, -⟩ := B
    rw [hb] at h1
    simp only [Option.some.injEq, Obj.cells.injEq] at h1
    rw [h1.1]; exact h2
  have hP : Pr (fun t => t = .obj i) E w.heap E w'.heap := S.Pr hb fun j h1 h2 => by
    obtain ⟨c1, T1, g1, g2, g3, -⟩ := B
    rw [hb] at g1
    simp only [Option.some.injEq, Obj.cells.injEq] at g1
    rcases g3 j with h6 | h6
    · exact h6
    · rw [← g1.1] at h6; omega
  have hs := hP.shut (by simp) Rl.fresh
  have hilt := (List.getElem?_eq_some_iff.1 hsg).1
  refine ⟨⟨Rl.size, Rl.mlen, Rl.blen, by simpa using Rl.n, fun t v hv => (Rl.regs t v hv).mono hP hs (by simp) (by simp), fun s' cs' hs' => (Rl.boxes s' cs' hs').mono hP hs (by simp) (by simp), fun i' ob hi => ?_, fun b o' hb' => Rl.fresh b o' (by rw [← S.size]; exact hb')⟩, hP⟩
  by_cases hii : i = i'
  · subst hii
    simp only [List.getElem?_set_self hilt, Option.some.injEq] at hi
    subst hi
    exact B.write hb S hl hle hx hs hP (by simp)
  · simp only [List.getElem?_set_ne hii] at hi
    exact (Rl.objs i' ob hi).mono hP hs (lt_of_sg Rl hi) (by simp; exact fun h => hii h.symm) (by simp)

/-- `y`'s own slice goes to the place (k, s, off). -/
def toTag (y : Operand) (p s off : Nat) (T : Tag) : Tag :=
  match y, T with
  | .tmp t, .sp 0 t' 0 => if t = t' then .sp p s off else .sp 0 t' 0
  | _, T => T

theorem toTag_id {y : Operand} {p s off : Nat} {T : Tag} (h : ∀ t b, y = .tmp t → T ≠ .sp 0 t b) : toTag y p s off T = T := by
  unfold toTag
  split
  · split
    · rename_i hx; subst hx; exact absurd rfl (h _ _ rfl)
    · rfl
  · rfl

/-- A value that is stored as one cell, with what it owns. -/
theorem cell_to {P : Program} {t : TypeId} {y : Operand} {r : DV × Meta} (hs : src P t st y = some r) {p s off : Nat} {c : DV × Meta} (hm : c.2 = r.2) (hc : CellOk E w.heap (.sp 0 (plc y) 0) c (a.eval y)) :
    CellOk (E.re (toTag y p s off)) w.heap (.sp p s off) c (a.eval y) := by
  obtain ⟨a1, a2, a3, a4⟩ := hc
  refine ⟨a1, a2, a3, ?_⟩
  by_cases hy : ∃ i, y = .tmp i
  · obtain ⟨i, rfl⟩ := hy
    exact a4.re (toTag_id (by simp)) (by simp [toTag, plc])
  · have hno : c.2 ≠ .own := by
      rw [hm]
      cases y with
      | tmp i => exact absurd ⟨i, rfl⟩ hy
      | const v => exact (cst_noown hs).1
      | func f => simp only [src, Option.some.injEq] at hs; subst hs; simp
      | global g => simp [src] at hs
    have a5 : RM1 (E.re (toTag y p s off)) w.heap .other c.1 c.2 (a.eval y) := (a4.tag (tg' := .other) hno).re (toTag_id (by simp)) (toTag_id (by simp))
    exact a5.tag hno

theorem stored_skip {t : TypeId} {y v : Operand} {w' : World} {b off : Nat} (hop : o.op = .store t y v) (he : a.eval y = .pointer (some ⟨b, off, none⟩)) (h : (storeVar t ⟨b, off, none⟩ (a.eval v)).run C.P w = .ok () w') :
    (execOp a.eval o).run C.P w = .ok .skip w' := by
  simp only [execOp, hop]
  refine run_u ?_
  simp only [Instr.storeAt, he, Instr.sureAddr, Sem.run_bind, Sem.run_pure, Result.andThen_ok, h]

theorem cells_one {v : Value} (h : v.oneCell' = true) : v.cells = #[v] := by
  cases v <;> first | rfl | (simp [Value.oneCell'] at h)

theorem putAt_one {α : Type} {l : List α} {o : Nat} {y : α} (h : o < l.length) : putAt l o [y] = l.set o y := by
  apply List.ext_getElem?
  intro j
  rw [putAt_get (by simp; omega)]
  by_cases hj : o = j
  · subst hj; rw [if_pos (by simp), List.getElem?_set_self h]; simp
  · rw [if_neg (by simp; omega), List.getElem?_set_ne hj]

theorem RM1.dat {E : Env} {h : Heap} {tg : Tag} {d : DV} {m : Meta} {v : Value} (hm : isData m = true) (R : RM1 E h tg d m v) : RV E.S h d v := by
  cases m <;> simp only [isData] at hm <;> simp only [RM1] at R <;> try contradiction
  · exact R
  · exact R.1
  · exact R.1
  · obtain ⟨rfl, rfl⟩ := R
    simp only [RV]

/-- Cells of an element of a vector are written. -/
theorem vec_write {P : Program} {t : TypeId} {z : Nat × Bool} (hz : tz P t = some z) (Rl : Rel E st a w.heap) {i n sz idx off : Nat} {ds : List DV} {d e : DV} (hp : st.sg[i]? = some (.vec n sz ds)) (hd : ds[idx]? = some d) {v : Value}
    (hvs : v.cells.size = z.1) {xs : List (DV × Meta)} (hl : xs.length = v.cells.size) {tg : Nat → Tag} (hok : ∀ (j : Nat) r v', xs[j]? = some r → v.cells.toList[j]? = some v' → isLeaf r.1 = true ∧ v'.oneCell' = true ∧ RM1 E w.heap (tg j) r.1 r.2 v') (he : setPart sz off d xs = some e) :
    ∃ w', (storeVar t ⟨E.obj i, E.base i + idx * sz + off, none⟩ v).run P w = .ok () w' ∧ Rel E { st with sg := st.sg.set i (.vec n sz (ds.set idx e)) } a w'.heap ∧ Pr (fun t => t = .obj i) E w.heap E w'.heap ∧ Outer w w' := by
  unfold setPart at he
  split at he
  · rename_i cs
    obtain ⟨⟨hall, hlen, hoff⟩, he⟩ := ite_some he
    simp only [Option.some.injEq] at he
    subst he
    have B := Rl.objs i _ hp
    simp only [RO] at B
    obtain ⟨bv, b0, b3, B⟩ := B
    have hne : ds ≠ [] := by intro h; rw [h] at hd; simp at hd
    obtain ⟨c, TT, f, b1, b2, b2', b4, b5⟩ := B.resolve_left fun h => hne h.1
    have hidx : idx < ds.length := (List.getElem?_eq_some_iff.1 hd).1
    have hfit : idx * sz + sz ≤ ds.length * sz := by rw [← Nat.succ_mul]; exact Nat.mul_le_mul_right _ hidx
    have hcl : v.cells.toList.length = xs.length := by simp [hl]
    have hcell : ∀ u ∈ v.cells.toList, u.oneCell' = true := by
      intro q hq
      obtain ⟨j, hj, hju⟩ := List.mem_iff_getElem.1 hq
      exact (hok j _ q (List.getElem?_eq_getElem (by omega)) (by rw [List.getElem?_eq_getElem hj, hju])).2.1
    obtain ⟨w', hw, S⟩ := run_storeVar (P := P) hz (off := E.base i + idx * sz + off) b1 hvs (by omega) hcell (fun o h1 h2 => (b4 o (by omega) (by omega)).2)
    have P1 : Pr (fun t => t = .obj i) E w.heap E w'.heap := S.Pr b1 fun j h1 h2 => (b4 j (by omega) (by simp at h2; omega)).1
    have hs := P1.shut (by simp) Rl.fresh
    have hilt := (List.getElem?_eq_some_iff.1 hp).1
    refine ⟨w', hw, ?_, P1, S.out⟩
    refine ⟨Rl.size, Rl.mlen, Rl.blen, by simpa using Rl.n, fun t v hv => (Rl.regs t v hv).mono P1 hs (by simp) (by simp), fun s' cs' hs' => (Rl.boxes s' cs' hs').mono P1 hs (by simp) (by simp), fun i' ob hi => ?_, fun b o' hb' => Rl.fresh b o' (by rw [← S.size]; exact hb')⟩
    by_cases hii : i = i'
    · subst hii
      simp only [List.getElem?_set_self hilt, Option.some.injEq] at hi
      subst hi
      simp only [RO]
      obtain ⟨c', e1', e2', e3'⟩ := S.ex
      refine ⟨bv, b0, b3, .inr ⟨c', TT, f, e1', by rw [List.length_set]; exact b2, by rw [e2']; exact b2', b4, fun j d' hd' => ?_⟩⟩
      by_cases hj : idx = j
      · subst hj
        rw [List.getElem?_set_self hidx] at hd'
        simp only [Option.some.injEq] at hd'
        subst hd'
        obtain ⟨us, u1, u2, u3⟩ := b5 idx _ hd
        have hpl : off + v.cells.toList.length ≤ us.length := by omega
        refine ⟨putAt us off v.cells.toList, by rw [putAt_length hpl, u1], fun y q hq => ?_, ?_⟩
        · rw [putAt_get hpl] at hq
          by_cases hy : off ≤ y ∧ y < off + v.cells.toList.length
          · rw [if_pos hy] at hq
            rw [e3', if_pos (by omega), ← hq]
            congr 1
            omega
          · rw [if_neg hy] at hq
            rw [e3', if_neg (by omega), u2 y q hq]
        · simp only [RC] at u3 ⊢
          obtain ⟨k1, k2⟩ := RLs_iff.1 u3
          have hpc : off + (xs.map (·.1)).length ≤ cs.length := by simp; omega
          refine RLs_iff.2 ⟨by rw [putAt_length hpl, putAt_length hpc, k1], fun y q u hq hu => ?_⟩
          rw [putAt_get hpl] at hu
          rw [putAt_get hpc] at hq
          by_cases hy : off ≤ y ∧ y < off + v.cells.toList.length
          · rw [if_pos hy] at hu
            rw [if_pos (by simp only [List.length_map]; omega), List.getElem?_map, Option.map_eq_some_iff] at hq
            obtain ⟨r, hr, rfl⟩ := hq
            obtain ⟨g1, g2, g3⟩ := hok _ r u hr hu
            have g4 := List.all_eq_true.1 hall r (List.mem_of_getElem? hr)
            rw [Bool.and_eq_true] at g4
            exact ⟨g1, (RC_of_RV g1 g2 (g3.dat g4.1)).mono hs⟩
          · rw [if_neg hy] at hu
            rw [if_neg (by simp only [List.length_map]; omega)] at hq
            obtain ⟨g1, g2⟩ := k2 y q u hq hu
            exact ⟨g1, g2.mono hs⟩
      · rw [List.getElem?_set_ne hj] at hd'
        obtain ⟨us, u1, u2, u3⟩ := b5 j d' hd'
        refine ⟨us, u1, fun y q hq => ?_, u3.mono hs⟩
        have hy : y < sz := by have := (List.getElem?_eq_some_iff.1 hq).1; omega
        rw [e3', if_neg, u2 y q hq]
        rintro ⟨c1, c2⟩
        have := seg_ne (sz := sz) (i := idx) (i' := j) (j := j * sz + y - idx * sz) (j' := y) (by omega) hy (by omega)
        omega
    · simp only [List.getElem?_set_ne hii] at hi
      exact (Rl.objs i' ob hi).mono P1 hs (lt_of_sg Rl hi) (by simp; exact fun h => hii h.symm) (by simp)
  · simp at he

theorem sim_store {t : TypeId} {y v : Operand} (hop : o.op = .store t y v) (H : evStore C o t y v st k = some x) (Rl : Rel E st a w.heap) (T : Then E w k x K) : Gp C.P o a w K := by
  unfold evStore at H
  obtain ⟨r, h1, H⟩ := ob_some H
  obtain ⟨u, h2, H⟩ := ob_some H
  obtain ⟨z, hz, H⟩ := ob_some H
  have e1 := Rl.src h1
  have e2 := Rl.src h2
  have hz1 : z.2 = false → z.1 = 1 := by
    obtain ⟨i, d, -, -, -, h4⟩ := tz_some hz
    exact h4
  have hund : ∀ {E' : Env} {h' : Heap} (t0 : Nat), RR E' h' 0 t0 (.tup []) .val undef := by
    intro E' h' t0
    simp only [RR, RM1, RV]
    exact ⟨#[], rfl, by simp [RVs]⟩
  split at H
  · -- a private variable
    rename_i s off hm
    rw [hm] at e1
    simp only [RR, RM1] at e1
    obtain ⟨cs, hb, H⟩ := ob_some H
    have B := Rl.boxes s cs hb
    obtain ⟨c, TT, hbk, hsz, hO, -⟩ := B
    split at H
    · obtain ⟨xs, H, hl, hok, hno⟩ := explodeO_ok hz e2 H
      obtain ⟨hle, H⟩ := ite_some H
      obtain ⟨w', hw, S⟩ := run_storeVar (P := C.P) hz (off := off) hbk (v := a.eval v) (by have := hok.1; simp at this; omega) (by omega) (fun u hu => by
        obtain ⟨j, hj, hju⟩ := List.mem_iff_getElem.1 hu
        have hl2 := hok.1
        exact (hok.2 j _ u (List.getElem?_eq_getElem (by omega)) (by rw [List.getElem?_eq_getElem hj, hju])).2.1) (fun o _ _ => by simp)
      have R0 := Rl.release (x := v) (f := boxTag v s off) fun T hT => boxTag_id hT
      have hrb : (st.release v).bx = st.bx := by cases v <;> rfl
      obtain ⟨R1, P1⟩ := R0.write_box (by rw [hrb]; exact hb) hbk S hok.1 hle fun j r' v' hr hv =>
        (hok.2 j r' v' hr hv).box fun hy => hno (noagg_src h2 hy) r' (List.mem_of_getElem? hr)
      rw [hrb] at R1
      have hst : ({ st with bx := st.bx.set s (some (putAt cs off xs)) }.release v) = { st.release v with bx := st.bx.set s (some (putAt cs off xs)) } := by cases v <;> rfl
      rw [hst] at H
      have P0 : Pr Ours E w.heap (E.re (boxTag v s off)) w.heap := Pr.re fun T hT => boxTag_id fun t b _ he => hT (by rw [he]; simp [Ours])
      exact wp_skip' (stored_skip hop e1.2 hw) (T (E.re (boxTag v s off)) _ _ w' H (R1.put fun t0 _ => hund t0) (P0.trans (P1.weaken (by rintro T rfl; simp [Ours]))) S.out)
    · rename_i hz2
      have hz1' := hz1 (by simpa using hz2)
      obtain ⟨cc, H, hmm, hok⟩ := cellOf_ok e2 H
      obtain ⟨hlt, H⟩ := ite_some H
      have hv1 := cells_one hok.2.1
      obtain ⟨w', hw, S⟩ := run_storeVar (P := C.P) hz (off := off) hbk (v := a.eval v) (by rw [hv1, hz1']; rfl) (by omega) (fun u hu => by
        rw [hv1] at hu; simp at hu; subst hu; exact hok.2.1) (fun o _ _ => by simp)
      rw [hv1] at S
      -- first the tags, then the memory
      have R0 := Rl.release (x := v) (f := toTag v 1 s off) fun T hT => toTag_id hT
      have hcell := cell_to h2 (p := 1) (s := s) (off := off) hmm hok
      have hrb : (st.release v).bx = st.bx := by cases v <;> rfl
      obtain ⟨R1, P1⟩ := R0.write_box (xs := [cc]) (by rw [hrb]; exact hb) hbk S rfl (by simp; omega) fun j r' v' hr hv => by
        cases j with
        | succ j => simp at hr
        | zero =>
          have hr' : r' = cc := by simpa using hr.symm
          have hv' : v' = a.eval v := by simpa using hv.symm
          rw [hr', hv']
          exact hcell
      rw [putAt_one hlt, hrb] at R1
      have hst : ({ st with bx := st.bx.set s (some (cs.set off cc)) }.release v) = { st.release v with bx := st.bx.set s (some (cs.set off cc)) } := by cases v <;> rfl
      rw [hst] at H
      have P0 : Pr Ours E w.heap (E.re (toTag v 1 s off)) w.heap := Pr.re fun T hT => toTag_id fun t b _ he => hT (by rw [he]; simp [Ours])
      exact wp_skip' (stored_skip hop e1.2 hw) (T (E.re (toTag v 1 s off)) _ _ w' H (R1.put fun t0 _ => hund t0) (P0.trans (P1.weaken (by rintro T rfl; simp [Ours]))) S.out)
  · -- a shared variable
    rename_i i off hm
    rw [hm] at e1
    simp only [RR, RM1] at e1
    obtain ⟨cs, hb, H⟩ := ob_some H
    have hb := sgBox_some hb
    have B := Rl.objs i _ hb
    simp only [RO] at B
    obtain ⟨c, TT, hbk, hsz, hO, -⟩ := B
    split at H
    · obtain ⟨xs, H, hl, hok⟩ := explode_ok hz e2 H
      obtain ⟨hle, H⟩ := ite_some H
      obtain ⟨w', hw, S⟩ := run_storeVar (P := C.P) hz (off := off) hbk (v := a.eval v) (by have := hok.1; simp at this; omega) (by omega) (fun u hu => by
        obtain ⟨j, hj, hju⟩ := List.mem_iff_getElem.1 hu
        have hl2 := hok.1
        obtain ⟨⟨-, q, -, -⟩, -⟩ := hok.2 j _ u (List.getElem?_eq_getElem (by omega)) (by rw [List.getElem?_eq_getElem hj, hju])
        exact q) (fun o _ _ => by simp)
      obtain ⟨R1, P1⟩ := Rl.write_obj hb hbk S hok.1 hle fun j r' v' hr hv => let ⟨q1, q2⟩ := hok.2 j r' v' hr hv; ⟨q1.1, q1.2.1, q1.2.2.1, q1.2.2.2.tag q2⟩
      exact wp_skip' (stored_skip hop e1.2 hw) (T E _ _ w' H (R1.put fun t0 _ => hund t0) (P1.weaken (by rintro T rfl; simp [Ours])) S.out)
    · rename_i hz2
      have hz1' := hz1 (by simpa using hz2)
      obtain ⟨cc, H, hmm, hok⟩ := cellOf_ok e2 H
      obtain ⟨c0, hc0, H⟩ := ob_some H
      have hlt : off < cs.length := (List.getElem?_eq_some_iff.1 hc0).1
      have hv1 := cells_one hok.2.1
      obtain ⟨w', hw, S⟩ := run_storeVar (P := C.P) hz (off := off) hbk (v := a.eval v) (by rw [hv1, hz1']; rfl) (by omega) (fun u hu => by
        rw [hv1] at hu; simp at hu; subst hu; exact hok.2.1) (fun o _ _ => by simp)
      rw [hv1] at S
      have R0 := Rl.release (x := v) (f := toTag v 2 i off) fun T hT => toTag_id hT
      have hcell := cell_to h2 (p := 2) (s := i) (off := off) hmm hok
      have hrb : (st.release v).sg = st.sg := by cases v <;> rfl
      obtain ⟨R1, P1⟩ := R0.write_obj (xs := [cc]) (by rw [hrb]; exact hb) hbk S rfl (by simp; omega) fun j r' v' hr hv => by
        cases j with
        | succ j => simp at hr
        | zero =>
          have hr' : r' = cc := by simpa using hr.symm
          have hv' : v' = a.eval v := by simpa using hv.symm
          rw [hr', hv']
          exact hcell
      rw [putAt_one hlt, hrb] at R1
      have hst : ({ st with sg := st.sg.set i (.box (cs.set off cc)) }.release v) = { st.release v with sg := st.sg.set i (.box (cs.set off cc)) } := by cases v <;> rfl
      rw [hst] at H
      have P0 : Pr Ours E w.heap (E.re (toTag v 2 i off)) w.heap := Pr.re fun T hT => toTag_id fun t b _ he => hT (by rw [he]; simp [Ours])
      exact wp_skip' (stored_skip hop e1.2 hw) (T (E.re (toTag v 2 i off)) _ _ w' H (R1.put fun t0 _ => hund t0) (P0.trans (P1.weaken (by rintro T rfl; simp [Ours]))) S.out)
  · -- an element of a writable array
    rename_i i sz idx off hm
    rw [hm] at e1
    simp only [RR, RM1] at e1
    obtain ⟨p, hp, H⟩ := ob_some H
    obtain ⟨d, hd, H⟩ := ob_some H
    obtain ⟨H, hvs, hRC⟩ := elemVal_ok hz1 e2 H
    obtain ⟨hsz, H⟩ := og_some H
    obtain ⟨⟨hzz, hoff⟩, H9⟩ := ite_some H
    clear H
    subst hoff
    have hp := sgArr_some hp
    have hsz : p.1 = sz := by simpa using hsz
    rw [hsz] at hp
    have B := Rl.objs i _ hp
    simp only [RO] at B
    have hne : p.2 ≠ [] := by intro h; rw [h] at hd; simp at hd
    obtain ⟨c, TT, b1, b2, b3, b4, b5⟩ := B hne
    have hidx : idx < p.2.length := (List.getElem?_eq_some_iff.1 hd).1
    have hfit : idx * sz + sz ≤ p.2.length * sz := by rw [← Nat.succ_mul]; exact Nat.mul_le_mul_right _ hidx
    have hcell : ∀ u ∈ (a.eval v).cells.toList, u.oneCell' = true := by
      intro q hq
      obtain ⟨j, hj, hju⟩ := List.mem_iff_getElem.1 hq
      obtain ⟨q1, q2⟩ := RC_proj hRC (j := j) (v := q) (by rw [List.getElem?_eq_getElem hj, hju])
      exact RC_one q1 q2
    obtain ⟨w', hw, S⟩ := run_storeVar (P := C.P) hz (off := E.base i + idx * sz) b1 (v := a.eval v) hvs (by omega) hcell (fun o _ _ => by simp)
    have P1 : Pr (fun t => t = .obj i) E w.heap E w'.heap := S.Pr b1 fun j h1 h2 => b4 j (by omega) (by simp at h2; omega)
    have hs := P1.shut (by simp) Rl.fresh
    have hilt := (List.getElem?_eq_some_iff.1 hp).1
    have R1 : Rel E { st with sg := st.sg.set i (.arr sz (p.2.set idx u.1)) } a w'.heap := by
      refine ⟨Rl.size, Rl.mlen, Rl.blen, by simpa using Rl.n, fun t v hv => (Rl.regs t v hv).mono P1 hs (by simp) (by simp), fun s' cs' hs' => (Rl.boxes s' cs' hs').mono P1 hs (by simp) (by simp), fun i' ob hi => ?_, fun b o' hb' => Rl.fresh b o' (by rw [← S.size]; exact hb')⟩
      by_cases hii : i = i'
      · subst hii
        simp only [List.getElem?_set_self hilt, Option.some.injEq] at hi
        subst hi
        simp only [RO]
        intro _
        obtain ⟨c', e1', e2', e3'⟩ := S.ex
        refine ⟨c', TT, e1', by rw [List.length_set, e2']; exact b2, b3, by rw [List.length_set]; exact b4, fun j d' hd' => ?_⟩
        by_cases hj : idx = j
        · subst hj
          rw [List.getElem?_set_self hidx] at hd'
          simp only [Option.some.injEq] at hd'
          subst hd'
          refine ⟨(a.eval v).cells.toList, by simp; omega, fun y q hq => ?_, hRC.mono hs⟩
          have hy : y < sz := by have := (List.getElem?_eq_some_iff.1 hq).1; simp at this; omega
          rw [e3', if_pos (by simp; omega), ← hq]
          congr 1
          omega
        · rw [List.getElem?_set_ne hj] at hd'
          obtain ⟨us, u1, u2, u3⟩ := b5 j d' hd'
          refine ⟨us, u1, fun y q hq => ?_, u3.mono hs⟩
          have hy : y < sz := by have := (List.getElem?_eq_some_iff.1 hq).1; omega
          rw [e3', if_neg, u2 y q hq]
          rintro ⟨c1, c2⟩
          simp at c2
          exact hj (seg_ne (sz := sz) (j := j * sz + y - idx * sz) (j' := y) (by omega) hy (by omega))
      · simp only [List.getElem?_set_ne hii] at hi
        exact (Rl.objs i' ob hi).mono P1 hs (lt_of_sg Rl hi) (by simp; exact fun h => hii h.symm) (by simp)
    exact wp_skip' (stored_skip hop (by rw [e1.2]; rfl) hw) (T E _ _ w' H9 (R1.put fun t0 _ => hund t0) (P1.weaken (by rintro T rfl; simp [Ours])) S.out)
  · -- an open element
    rename_i i sz idx hm
    rw [hm] at e1
    simp only [RR, RM1] at e1
    obtain ⟨q, hq, H⟩ := ob_some H
    obtain ⟨H, hvs, hRC⟩ := elemVal_ok hz1 e2 H
    obtain ⟨hsz, H⟩ := og_some H
    obtain ⟨ob1, hx, H9⟩ := ob_some H
    clear H
    simp only [Bool.and_eq_true, beq_iff_eq] at hsz
    obtain ⟨hs1, hs2⟩ := hsz
    obtain ⟨sz', pre, ds⟩ := q
    simp only at hs1
    subst hs1
    have hq := sgOpn_some hq
    simp only [openSet] at hx
    obtain ⟨⟨hi1, hi2⟩, hx⟩ := ite_some hx
    simp only [Option.some.injEq] at hx
    subst hx
    have B := Rl.objs i _ hq
    simp only [RO] at B
    obtain ⟨c, TT, f, b1, b2, b2', b3, b4, b5, b6⟩ := B
    have hle1 : pre.length * sz' ≤ idx * sz' := Nat.mul_le_mul_right _ hi1
    have hfit : idx * sz' + sz' ≤ (pre.length + ds.length) * sz' := by rw [← Nat.succ_mul]; exact Nat.mul_le_mul_right _ (by omega)
    have hcell : ∀ u ∈ (a.eval v).cells.toList, u.oneCell' = true := by
      intro q hq
      obtain ⟨j, hj, hju⟩ := List.mem_iff_getElem.1 hq
      obtain ⟨q1, q2⟩ := RC_proj hRC (j := j) (v := q) (by rw [List.getElem?_eq_getElem hj, hju])
      exact RC_one q1 q2
    obtain ⟨w', hw, S⟩ := run_storeVar (P := C.P) hz (off := E.base i + idx * sz') b1 (v := a.eval v) hvs (by omega) hcell (fun o h1 h2 => (b4 o (by omega) (by omega)).2)
    have P1 : Pr (fun t => t = .obj i) E w.heap E w'.heap := S.Pr b1 fun j h1 h2 => (b4 j (by omega) (by simp at h2; omega)).1
    have hs := P1.shut (by simp) Rl.fresh
    have hilt := (List.getElem?_eq_some_iff.1 hq).1
    have R1 : Rel E { st with sg := st.sg.set i (.opn sz' pre (ds.set (idx - pre.length) u.1)) } a w'.heap := by
      refine ⟨Rl.size, Rl.mlen, Rl.blen, by simpa using Rl.n, fun t v hv => (Rl.regs t v hv).mono P1 hs (by simp) (by simp), fun s' cs' hs' => (Rl.boxes s' cs' hs').mono P1 hs (by simp) (by simp), fun i' ob hi => ?_, fun b o' hb' => Rl.fresh b o' (by rw [← S.size]; exact hb')⟩
      by_cases hii : i = i'
      · subst hii
        simp only [List.getElem?_set_self hilt, Option.some.injEq] at hi
        subst hi
        simp only [RO]
        obtain ⟨c', e1', e2', e3'⟩ := S.ex
        refine ⟨c', TT, f, e1', by rw [List.length_set]; exact b2, by rw [e2']; exact b2', b3, b4, fun j d' hd' => (b5 j d' hd').mono hs, fun j d' hd' => ?_⟩
        by_cases hj : idx - pre.length = j
        · subst hj
          rw [List.getElem?_set_self hi2] at hd'
          simp only [Option.some.injEq] at hd'
          subst hd'
          have e4 : pre.length + (idx - pre.length) = idx := by omega
          refine ⟨(a.eval v).cells.toList, by simp; omega, fun y q hq => ?_, hRC.mono hs⟩
          have hy : y < sz' := by have := (List.getElem?_eq_some_iff.1 hq).1; simp at this; omega
          rw [e4, e3', if_pos (by simp; omega), ← hq]
          congr 1
          omega
        · rw [List.getElem?_set_ne hj] at hd'
          obtain ⟨us, u1, u2, u3⟩ := b6 j d' hd'
          refine ⟨us, u1, fun y q hq => ?_, u3.mono hs⟩
          have hy : y < sz' := by have := (List.getElem?_eq_some_iff.1 hq).1; omega
          rw [e3', if_neg, u2 y q hq]
          rintro ⟨c1, c2⟩
          simp at c2
          have := seg_ne (sz := sz') (i := idx) (i' := pre.length + j) (j := (pre.length + j) * sz' + y - idx * sz') (j' := y) (by omega) hy (by omega)
          omega
      · simp only [List.getElem?_set_ne hii] at hi
        exact (Rl.objs i' ob hi).mono P1 hs (lt_of_sg Rl hi) (by simp; exact fun h => hii h.symm) (by simp)
    exact wp_skip' (stored_skip hop (by rw [e1.2]) hw) (T E _ _ w' H9 (R1.put fun t0 _ => hund t0) (P1.weaken (by rintro T rfl; simp [Ours])) S.out)
  · -- an element of a vector
    rename_i i n sz idx off hm
    rw [hm] at e1
    simp only [RR, RM1] at e1
    obtain ⟨p, hp, H⟩ := ob_some H
    obtain ⟨d, hd, H⟩ := ob_some H
    obtain ⟨hsz, H⟩ := og_some H
    have hp := sgVec_some hp
    have hsz : p.1 = sz := by simpa using hsz
    rw [hsz] at hp
    obtain ⟨-, -, -, eb, ep, ev, ex⟩ := e1
    have B := Rl.objs i _ hp
    simp only [RO] at B
    obtain ⟨rfl, rfl⟩ := ex B.1
    split at H
    · obtain ⟨xs, H, hl, hok⟩ := explode_ok hz e2 H
      obtain ⟨e, he, H9⟩ := ob_some H
      obtain ⟨w', hw, R1, P1, ho⟩ := vec_write (P := C.P) hz Rl hp hd (v := a.eval v) (by have := hok.1; simp at this; omega) (xs := xs) (by have := hok.1; simpa using this) (fun j r' v' hr hv => let ⟨q1, q2⟩ := hok.2 j r' v' hr hv; ⟨q1.1, q1.2.1, q1.2.2.2⟩) he
      exact wp_skip' (stored_skip hop ev hw) (T E _ _ w' H9 (R1.put fun t0 _ => hund t0) (P1.weaken (by rintro T rfl; simp [Ours])) ho)
    · rename_i hz2
      have hz1' := hz1 (by simpa using hz2)
      obtain ⟨cc, H, hmm, hok⟩ := cellOf_ok e2 H
      obtain ⟨e, he, H9⟩ := ob_some H
      have hv1 := cells_one hok.2.1
      obtain ⟨w', hw, R1, P1, ho⟩ := vec_write (P := C.P) hz Rl hp hd (v := a.eval v) (by rw [hv1, hz1']; rfl) (xs := [cc]) (by rw [hv1]; rfl) (fun j r' v' hr hv => by
        rw [hv1] at hv
        cases j with
        | succ j => simp at hr
        | zero =>
          have hr' : r' = cc := by simpa using hr.symm
          have hv' : v' = a.eval v := by simpa using hv.symm
          rw [hr', hv']
          exact ⟨hok.1, hok.2.1, hok.2.2.2⟩) he
      exact wp_skip' (stored_skip hop ev hw) (T E _ _ w' H9 (R1.put fun t0 _ => hund t0) (P1.weaken (by rintro T rfl; simp [Ours])) ho)
  · simp at H

end
end Go.Su

/-
  THE DATA MACHINE, part 15: maps read and written; parts of results.
-/
namespace Go.Su

theorem mapKeys_some {P : Program} {t : TypeId} {q : Bool × TypeId} (h : mapKeys P t = some q) : ∃ kt, P.underlying t = some (.map kt q.2) ∧ ((q.1 = false ∧ P.underlying kt = some (.int .i64)) ∨ (q.1 = true ∧ P.underlying kt = some .string)) := by
  unfold mapKeys at h
  split at h
  · rename_i kt et hu
    split at h <;> simp only [Option.some.injEq, reduceCtorEq] at h <;> subst h
    · exact ⟨kt, hu, .inl ⟨rfl, ‹_›⟩⟩
    · exact ⟨kt, hu, .inr ⟨rfl, ‹_›⟩⟩
  · simp at h

theorem bytes_eq (a b : ByteArray) : (a.toList == b.toList) = (a == b) := (beq_toListBytes a b).symm

theorem sameNow_key {S : Seal} {h : Heap} {ks : Bool} {kd : TypeDesc} (hk : (ks = false ∧ kd = .int .i64) ∨ (ks = true ∧ kd = .string)) {d e : DV} {v u : Value} (hd : isKey ks d = true) (he : isKey ks e = true) (rv : RV S h d v) (ru : RV S h e u) :
    Instr.sameNow kd v u = some (keyEq d e) ∧ (keyEq d e = true → v = u ∧ d = e) := by
  rcases hk with ⟨rfl, rfl⟩ | ⟨rfl, rfl⟩
  · cases d <;> simp only [isKey, Bool.false_eq_true, Bool.not_false, Bool.true_and, beq_iff_eq] at hd
    cases e <;> simp only [isKey, Bool.false_eq_true, Bool.not_false, Bool.true_and, beq_iff_eq] at he
    rw [RV_int] at rv ru
    subst rv ru hd he
    refine ⟨by simp [Instr.sameNow, keyEq], fun hq => ?_⟩
    simp only [keyEq, beq_iff_eq] at hq
    subst hq
    exact ⟨rfl, rfl⟩
  · cases d <;> simp only [isKey, Bool.false_eq_true, Bool.not_true, Bool.false_and] at hd
    cases e <;> simp only [isKey, Bool.false_eq_true, Bool.not_true, Bool.false_and] at he
    rw [RV_str] at rv ru
    subst rv ru
    rename_i p q
    refine ⟨?_, fun hq => ?_⟩
    · simp only [Instr.sameNow, keyEq, bytes_eq]
    · simp only [keyEq, beq_iff_eq, ByteArray.toList_eq] at hq
      have hpq : p = q := by
        obtain ⟨⟨p⟩⟩ := p
        obtain ⟨⟨q⟩⟩ := q
        simpa using hq
      subst hpq
      exact ⟨rfl, rfl⟩

/-- Looking for a key, in both. -/
theorem findNow_ok {S : Seal} {h : Heap} {ks : Bool} {kd : TypeDesc} (hk : (ks = false ∧ kd = .int .i64) ∨ (ks = true ∧ kd = .string)) {d : DV} {v : Value} (hd : isKey ks d = true) (rv : RV S h d v) (val : DV) : ∀ (es : List (DV × DV)) (l : List MapEntry) (i : Nat),
    es.length = l.length → (∀ (j : Nat) e n, es[j]? = some e → l[j]? = some n → isKey ks e.1 = true ∧ RV S h e.1 n.key ∧ RV S h e.2 n.val) →
    (Instr.findNow kd v l i = some none ∧ mGet es d = none ∧ mSet es d val = es ++ [(d, val)]) ∨
    ∃ j e n, es[j]? = some e ∧ l[j]? = some n ∧ Instr.findNow kd v l i = some (some (i + j, n.val)) ∧ mGet es d = some e.2 ∧ mSet es d val = es.set j (e.1, val) ∧ n.key = v ∧ e.1 = d
  | [], [], i, _, _ => .inl ⟨rfl, rfl, rfl⟩
  | [], _ :: _, _, hl, _ => by simp at hl
  | _ :: _, [], _, hl, _ => by simp at hl
  | e :: es, n :: l, i, hl, hall => by
    obtain ⟨k1, k2, k3⟩ := hall 0 e n rfl rfl
    obtain ⟨s1, s2⟩ := sameNow_key hk hd k1 rv k2
    cases hq : keyEq d e.1 with
    | true =>
      rw [hq] at s1
      obtain ⟨q1, q2⟩ := s2 hq
      exact .inr ⟨0, e, n, rfl, rfl, by simp [Instr.findNow, s1], by simp [mGet, hq], by simp [mSet, hq], q1.symm, q2.symm⟩
    | false =>
      rw [hq] at s1
      have ih := findNow_ok hk hd rv val es l (i + 1) (by simpa using hl) (fun j e' n' h1 h2 => hall (j + 1) e' n' (by simpa using h1) (by simpa using h2))
      have f1 : Instr.findNow kd v (n :: l) i = Instr.findNow kd v l (i + 1) := by simp [Instr.findNow, s1]
      have f2 : mGet (e :: es) d = mGet es d := by simp [mGet, hq]
      have f3 : mSet (e :: es) d val = e :: mSet es d val := by simp [mSet, hq]
      rcases ih with ⟨g1, g2, g3⟩ | ⟨j, e', n', g1, g2, g3, g4, g5, g6, g7⟩
      · exact .inl ⟨by rw [f1, g1], by rw [f2, g2], by rw [f3, g3]; rfl⟩
      · refine .inr ⟨j + 1, e', n', by simpa using g1, by simpa using g2, by rw [f1, g3]; congr 3; omega, by rw [f2, g4], by rw [f3, g5]; rfl, g6, g7⟩

theorem run_checkKey {P : Program} {kt : TypeId} {kd : TypeDesc} (hu : P.underlying kt = some kd) (hk : kd = .int .i64 ∨ kd = .string) (b : Bool) (v : Value) (n : Nat) (w : World) : (Instr.checkKey b (n + 1) kt v).run P w = .ok () w := by
  unfold Instr.checkKey
  simp only [Sem.run_bind, run_underlying hu, Result.andThen_ok]
  rcases hk with rfl | rfl <;> rfl

section
variable {X : Type} {C : Cfg} {R : Orc} {o : Oper} {st : St} {k : St → Option X} {x : X} {E : Env} {a : Act} {w : World} {K : Act → World → Prop} {Q : Exit → Act → World → Prop}

theorem sim_lookup {t : TypeId} {y v : Operand} {ok : Bool} (hop : o.op = .lookup t y v ok)
    (H : (ob (src C.P t st y) fun r => ob (src C.P 0 st v) fun key => ob (mapKeys C.P t) fun q =>
    ob (zeroLeaf C.P q.2) fun ze =>
      og (isKey q.1 key.1 && isData key.2)
        (match r.2 with
          | .map i => ob (sgMap st.sg i) fun p => og (p.1 == q.1)
            (if ok then k (st.put o.dst (.tup [(mGet p.2 key.1).getD ze, .bool (mGet p.2 key.1).isSome]) .val)
            else k (st.put o.dst ((mGet p.2 key.1).getD ze) .val))
          | _ => none)) = some x) (Rl : Rel E st a w.heap) (T : Then E w k x K) : Gp C.P o a w K := by
  obtain ⟨r, h1, H⟩ := ob_some H
  obtain ⟨key, h2, H⟩ := ob_some H
  obtain ⟨q, hq, H⟩ := ob_some H
  obtain ⟨ze, hze, H⟩ := ob_some H
  obtain ⟨hc, H⟩ := og_some H
  simp only [Bool.and_eq_true] at hc
  obtain ⟨hkey, hkd⟩ := hc
  have e1 := Rl.src h1
  have e2 := (Rl.src h2).data hkd
  split at H
  · rename_i i hm
    rw [hm] at e1
    simp only [RR, RM1] at e1
    obtain ⟨p, hp, H⟩ := ob_some H
    obtain ⟨hpq, H⟩ := og_some H
    have hpq : p.1 = q.1 := by simpa using hpq
    have hp := sgMap_some hp
    rw [hpq] at hp
    obtain ⟨ens, clk, b1, b2, ⟨b3, b4⟩, -⟩ := Rl.objs i _ hp
    obtain ⟨kt, hu, hkk⟩ := mapKeys_some hq
    unfold zeroLeaf at hze
    obtain ⟨inf, hinf, hze⟩ := ob_some hze
    obtain ⟨zv, hzv, hze⟩ := ob_some hze
    obtain ⟨zr, hzr, hze⟩ := ob_some hze
    obtain ⟨hzd, hze⟩ := og_some hze
    simp only [Option.some.injEq] at hze
    have hkk' : ∃ kd, C.P.underlying kt = some kd ∧ ((q.1 = false ∧ kd = .int .i64) ∨ (q.1 = true ∧ kd = .string)) := by
      rcases hkk with ⟨h3, h4⟩ | ⟨h3, h4⟩
      · exact ⟨_, h4, .inl ⟨h3, rfl⟩⟩
      · exact ⟨_, h4, .inr ⟨h3, rfl⟩⟩
    obtain ⟨kd, hku, hkk'⟩ := hkk'
    have hz0 : RV E.S w.heap ze zv := by
      rw [← hze]
      exact (cst_RR (E := E) (h := w.heap) hzr 0 0).data hzd
    have F := findNow_ok hkk' hkey e2 .undef p.2 ens.toList 0 (by simpa using b3) (fun j e n g1 g2 => b4 j e n g1 (by simpa using g2))
    have fin : ∀ (d : DV) (vv : Value) (bb : Bool), (mGet p.2 key.1).getD ze = d → (mGet p.2 key.1).isSome = bb → RV E.S w.heap d vv → (Instr.lookup t (a.eval y) (a.eval v) ok).run C.P w = .ok (if ok then .tuple #[vv, .bool bb] else vv) w → Gp C.P o a w K := by
      intro d vv bb hd hb hR hrun
      rw [hd, hb] at H
      have hrun' : (execOp a.eval o).run C.P w = .ok (.value (if ok then .tuple #[vv, .bool bb] else vv)) w := by
        simp only [execOp, hop]
        exact run_v hrun
      cases ok with
      | true =>
        simp only [if_true] at H hrun'
        refine sim_dat hrun' H Rl ?_ @T
        simp only [RV]
        exact ⟨_, rfl, RVs_iff.2 ⟨by simp, fun i d' v' g1 g2 => by
          match i with
          | 0 => simp at g1 g2; subst g1 g2; exact hR
          | 1 => simp at g1 g2; subst g1 g2; rw [RV_bool]
          | n + 2 => simp at g1⟩⟩
      | false =>
        simp only [Bool.false_eq_true, if_false] at H hrun'
        exact sim_dat hrun' H Rl hR @T
    have hgo : (getObj (E.obj i)).run C.P w = .ok (.map ens clk) w := by simp [getObj, Sem.run, b1]
    have hkd' : kd = .int .i64 ∨ kd = .string := by rcases hkk' with h3 | h3 <;> simp [h3.2]
    rcases F with ⟨g1, g2, -⟩ | ⟨j, e, n, g0, g0', g1, g2, -, -, -⟩
    · refine fin ze zv false (by rw [g2]; rfl) (by rw [g2]; rfl) hz0 ?_
      unfold Instr.lookup
      rw [e1.2]
      have hzero : (zeroValue q.2).run C.P w = .ok zv w := by simp [zeroValue, typeInfo, hinf, hzv]
      simp only [Sem.run_bind, run_underlying hu, Result.andThen_ok, hgo, Sem.run_pure, run_checkKey hku hkd', Instr.findKey, run_underlying hku, g1, hzero]
    · obtain ⟨-, -, rv⟩ := b4 j e n g0 (by simpa using g0')
      refine fin e.2 n.val true (by rw [g2]; rfl) (by rw [g2]; rfl) rv ?_
      unfold Instr.lookup
      rw [e1.2]
      simp only [Sem.run_bind, run_underlying hu, Result.andThen_ok, hgo, Sem.run_pure, run_checkKey hku hkd', Instr.findKey, run_underlying hku, g1]
  · simp at H

theorem modify_get {α : Type} (xs : Array α) (j i : Nat) (f : α → α) : (xs.modify j f)[i]? = if j = i then xs[i]?.map f else xs[i]? := by
  rw [Array.getElem?_modify]

theorem Born.push {ens : Array MapEntry} {clk : Nat} (h : Born ens clk) (e : MapEntry) (he : e.born = clk) : Born (ens.push e) (clk + 1) := by
  refine ⟨fun j n hn => ?_, fun i j m n hm hn hb => ?_⟩
  · rw [Array.getElem?_push] at hn
    split at hn
    · simp only [Option.some.injEq] at hn; subst hn; omega
    · have := h.1 j n hn; omega
  · rw [Array.getElem?_push] at hm hn
    split at hm <;> split at hn
    · omega
    · simp only [Option.some.injEq] at hm
      subst hm
      have := h.1 j n hn
      omega
    · simp only [Option.some.injEq] at hn
      subst hn
      have := h.1 i m hm
      omega
    · exact h.2 i j m n hm hn hb
theorem Born.modify {ens : Array MapEntry} {clk : Nat} (h : Born ens clk) (j : Nat) {f : MapEntry → MapEntry} (hf : ∀ e, (f e).born = e.born) : Born (ens.modify j f) clk := by
  have key : ∀ (i : Nat) n, (ens.modify j f)[i]? = some n → ∃ m, ens[i]? = some m ∧ m.born = n.born := by
    intro i n hn
    rw [modify_get] at hn
    split at hn
    · cases hm : ens[i]? with
      | none => rw [hm] at hn; cases hn
      | some m =>
        rw [hm] at hn
        simp only [Option.map_some, Option.some.injEq] at hn
        subst hn
        exact ⟨m, rfl, (hf m).symm⟩
    · exact ⟨n, hn, rfl⟩
  refine ⟨fun i n hn => ?_, fun i k m n hm hn hb => ?_⟩
  · obtain ⟨m, h1, h2⟩ := key i n hn
    have := h.1 i m h1
    omega
  · obtain ⟨m', h1, h2⟩ := key i m hm
    obtain ⟨n', h3, h4⟩ := key k n hn
    exact h.2 i k m' n' h1 h3 (by omega)

theorem sim_mapUpdate {t : TypeId} {y v u : Operand} (hop : o.op = .mapUpdate t y v u)
    (H : (ob (src C.P t st y) fun r => ob (src C.P 0 st v) fun key => ob (src C.P 0 st u) fun val => ob (mapKeys C.P t) fun q =>
    og (isKey q.1 key.1 && isData key.2 && isData val.2)
      (match r.2 with
        | .map i => ob (sgMap st.sg i) fun p => og (p.1 == q.1) (k ({ st with sg := st.sg.set i (.map q.1 (mSet p.2 key.1 val.1)) }.put o.dst (.tup []) .val))
        | _ => none)) = some x) (Rl : Rel E st a w.heap) (T : Then E w k x K) : Gp C.P o a w K := by
  obtain ⟨r, h1, H⟩ := ob_some H
  obtain ⟨key, h2, H⟩ := ob_some H
  obtain ⟨val, h3, H⟩ := ob_some H
  obtain ⟨q, hq, H⟩ := ob_some H
  obtain ⟨hc, H⟩ := og_some H
  simp only [Bool.and_eq_true] at hc
  obtain ⟨⟨hkey, hkd⟩, hvd⟩ := hc
  have e1 := Rl.src h1
  have e2 := (Rl.src h2).data hkd
  have e3 := (Rl.src h3).data hvd
  split at H
  · rename_i i hm
    rw [hm] at e1
    simp only [RR, RM1] at e1
    obtain ⟨p, hp, H⟩ := ob_some H
    obtain ⟨hpq, H⟩ := og_some H
    have hpq : p.1 = q.1 := by simpa using hpq
    have hp := sgMap_some hp
    rw [hpq] at hp
    obtain ⟨ens, clk, b1, b2, ⟨b3, b4⟩, b5⟩ := Rl.objs i _ hp
    obtain ⟨kt, hu, hkk⟩ := mapKeys_some hq
    have hkk' : ∃ kd, C.P.underlying kt = some kd ∧ ((q.1 = false ∧ kd = .int .i64) ∨ (q.1 = true ∧ kd = .string)) := by
      rcases hkk with ⟨h3, h4⟩ | ⟨h3, h4⟩
      · exact ⟨_, h4, .inl ⟨h3, rfl⟩⟩
      · exact ⟨_, h4, .inr ⟨h3, rfl⟩⟩
    obtain ⟨kd, hku, hkk'⟩ := hkk'
    have hkd' : kd = .int .i64 ∨ kd = .string := by rcases hkk' with h3 | h3 <;> simp [h3.2]
    have F := findNow_ok hkk' hkey e2 val.1 p.2 ens.toList 0 (by simpa using b3) (fun j e n g1 g2 => b4 j e n g1 (by simpa using g2))
    have hgo : (getObj (E.obj i)).run C.P w = .ok (.map ens clk) w := by simp [getObj, Sem.run, b1]
    have hblt : E.obj i < w.heap.size := (Array.getElem?_eq_some_iff.1 b1).1
    have hilt := (List.getElem?_eq_some_iff.1 hp).1
    have fin : ∀ (ens' : Array MapEntry) (clk' : Nat), RMap E.S w.heap q.1 (mSet p.2 key.1 val.1) ens' → Born ens' clk' → (Instr.mapUpdate t (a.eval y) (a.eval v) (a.eval u)).run C.P w = .ok () { w with heap := w.heap.setIfInBounds (E.obj i) (.map ens' clk') } → Gp C.P o a w K := by
      intro ens' clk' hR hB hrun
      have hnew : (w.heap.setIfInBounds (E.obj i) (.map ens' clk'))[E.obj i]? = some (.map ens' clk') := Array.getElem?_setIfInBounds_self_of_lt hblt
      have hold : ∀ b, b ≠ E.obj i → (w.heap.setIfInBounds (E.obj i) (.map ens' clk'))[b]? = w.heap[b]? := fun b hb => Array.getElem?_setIfInBounds_ne (Ne.symm hb)
      have P1 : Pr (fun t => t = .obj i) E w.heap E (w.heap.setIfInBounds (E.obj i) (.map ens' clk')) := by
        refine ⟨by simp, fun b hb => ?_, fun _ _ _ _ => rfl, Nat.le_refl _, fun _ _ _ => ⟨rfl, rfl, rfl⟩, fun _ _ => rfl, ver_same rfl⟩
        by_cases hbb : b = E.obj i
        · subst hbb
          rw [b1]
          intro h0
          exact absurd (b2 0) h0
        · rw [hold b hbb]; exact KeepBlk.refl _ _
      have hs := P1.shut (by simp) Rl.fresh
      have R1 : Rel E { st with sg := st.sg.set i (.map q.1 (mSet p.2 key.1 val.1)) } a (w.heap.setIfInBounds (E.obj i) (.map ens' clk')) := by
        refine ⟨Rl.size, Rl.mlen, Rl.blen, by simpa using Rl.n, fun t v hv => (Rl.regs t v hv).mono P1 hs (by simp) (by simp), fun s' cs' hs' => (Rl.boxes s' cs' hs').mono P1 hs (by simp) (by simp), fun i' ob hi => ?_, fun b o' hb' => Rl.fresh b o' (by simpa using hb')⟩
        by_cases hii : i = i'
        · subst hii
          simp only [List.getElem?_set_self hilt, Option.some.injEq] at hi
          subst hi
          refine ⟨ens', clk', hnew, b2, ⟨hR.1, fun j e n g1 g2 => ?_⟩, hB⟩
          obtain ⟨c1, c2, c3⟩ := hR.2 j e n g1 g2
          exact ⟨c1, c2.mono hs, c3.mono hs⟩
        · simp only [List.getElem?_set_ne hii] at hi
          exact (Rl.objs i' ob hi).mono P1 hs (lt_of_sg Rl hi) (by simp; exact fun h => hii h.symm) (by simp)
      refine wp_skip' (w' := { w with heap := w.heap.setIfInBounds (E.obj i) (.map ens' clk') }) ?_ (T E _ _ { w with heap := w.heap.setIfInBounds (E.obj i) (.map ens' clk') } H (R1.put fun t0 _ => ?_) (P1.weaken (by rintro T rfl; simp [Ours])))
      · simp only [execOp, hop]
        exact run_u hrun
      · simp only [RR, RM1, RV]
        exact ⟨#[], rfl, by simp [RVs]⟩
    have hset : ∀ (ens' : Array MapEntry) (clk' : Nat), (setObj (E.obj i) (.map ens' clk')).run C.P w = .ok () { w with heap := w.heap.setIfInBounds (E.obj i) (.map ens' clk') } := by
      intro ens' clk'
      simp [setObj, Sem.run, b1]
    rcases F with ⟨g1, g2, g3⟩ | ⟨j, e, n, g0, g0', g1, g2, g3, g4, g5⟩
    · refine fin (ens.push { key := a.eval v, val := a.eval u, born := clk }) (clk + 1) ?_ (b5.push _ rfl) ?_
      · rw [g3]
        refine ⟨by simp [b3], fun j e n h1 h2 => ?_⟩
        by_cases hj : j < p.2.length
        · rw [List.getElem?_append_left hj] at h1
          rw [Array.getElem?_push, if_neg (by omega)] at h2
          exact b4 j e n h1 h2
        · have hj1 : j = p.2.length := by have := (List.getElem?_eq_some_iff.1 h1).1; simp at this; omega
          subst hj1
          rw [List.getElem?_append_right (Nat.le_refl _)] at h1
          simp only [Nat.sub_self, List.getElem?_cons_zero, Option.some.injEq] at h1
          rw [Array.getElem?_push, if_pos b3] at h2
          simp only [Option.some.injEq] at h2
          subst h1 h2
          exact ⟨hkey, e2, e3⟩
      · unfold Instr.mapUpdate
        rw [e1.2]
        simp only [Sem.run_bind, run_underlying hu, Result.andThen_ok, hgo, run_checkKey hku hkd', Instr.findKey, run_underlying hku, g1, Sem.run_pure]
        exact hset _ _
    · have hjl : j < ens.size := by have := (List.getElem?_eq_some_iff.1 g0').1; simpa using this
      have hn : ens[j]? = some n := by simpa using g0'
      refine fin (ens.modify j fun e => { e with key := a.eval v, val := a.eval u }) clk ?_ (b5.modify j fun _ => rfl) ?_
      · rw [g3]
        refine ⟨by simp [b3], fun j' e' n' h1 h2 => ?_⟩
        rw [modify_get] at h2
        by_cases hjj : j = j'
        · subst hjj
          rw [if_pos rfl, hn] at h2
          simp only [Option.map_some, Option.some.injEq] at h2
          rw [List.getElem?_set_self (List.getElem?_eq_some_iff.1 g0).1] at h1
          simp only [Option.some.injEq] at h1
          subst h1 h2
          exact ⟨by rw [g5]; exact hkey, by rw [g5]; exact e2, e3⟩
        · rw [if_neg hjj] at h2
          rw [List.getElem?_set_ne hjj] at h1
          exact b4 j' e' n' h1 h2
      · unfold Instr.mapUpdate
        rw [e1.2]
        have hstay : (Instr.keyThatStays n.key (a.eval v)).run C.P w = .ok (a.eval v) w := by
          unfold Instr.keyThatStays
          have : Instr.sameBits 10000 n.key (a.eval v) = true := by
            rw [g4]
            rcases hkk' with ⟨h3, -⟩ | ⟨h3, -⟩
            · rw [h3] at hkey
              cases hk1 : key.1 <;> rw [hk1] at hkey e2 <;> simp only [isKey, Bool.false_eq_true, Bool.not_false, Bool.true_and] at hkey
              rw [RV_int] at e2
              rw [e2]
              simp [Instr.sameBits]
            · rw [h3] at hkey
              cases hk1 : key.1 <;> rw [hk1] at hkey e2 <;> simp only [isKey, Bool.false_eq_true, Bool.not_true, Bool.false_and] at hkey
              rw [RV_str] at e2
              rw [e2]
              simp only [Instr.sameBits]
              rw [beq_toListBytes]
              simp
          rw [if_pos this]
          rfl
        simp only [Sem.run_bind, run_underlying hu, Result.andThen_ok, hgo, run_checkKey hku hkd', Instr.findKey, run_underlying hku, g1, Sem.run_pure, Nat.zero_add, hn, Option.map_some, Option.getD_some, hstay]
        exact hset _ _
  · simp at H

/-- A part of a result gives up what it owns. -/
theorem Rel.untup (Rl : Rel E st a w.heap) {t i : Nat} {ms : List Meta} (hm : (st.get t).2 = .tupm ms) (hown : ms[i]? = some .own) (hlt : t < st.mt.length) {f : Tag → Tag} (hf : ∀ T, T ≠ .sp 0 t (i + 1) → f T = T) :
    Rel (E.re f) { st with mt := st.mt.set t (.tupm (ms.set i .val)) } a w.heap := by
  have hseal : f .shut = .shut := hf _ (by simp)
  have hoth : f .other = .other := hf _ (by simp)
  have P : Pr (fun T => T = .sp 0 t (i + 1)) E w.heap (E.re f) w.heap := Pr.re fun T hT => hf T hT
  have hle : SealLe E.S w.heap (E.re f).S w.heap := re_le hseal
  refine ⟨Rl.size, by simpa using Rl.mlen, Rl.blen, Rl.n, fun u v hu => ?_, fun s cs hs => (Rl.boxes s cs hs).mono P hle (by simp) (by simp), fun j ob hj => (Rl.objs j ob hj).mono P hle (lt_of_sg Rl hj) (by simp) (by simp), fun b o hb => ?_⟩
  · have h0 := Rl.regs u v hu
    by_cases hut : t = u
    · subst hut
      have hg : St.get { st with mt := st.mt.set t (.tupm (ms.set i .val)) } t = ((st.get t).1, .tupm (ms.set i .val)) := by
        simp [St.get, List.getD_eq_getElem?_getD, List.getElem?_set_self hlt]
      rw [hg]
      rw [hm] at h0
      simp only [RR] at h0 ⊢
      obtain ⟨ds, vs, h1, h2, h3, h4, h5⟩ := h0
      refine ⟨ds, vs, h1, h2, by simpa using h3, by simpa using h4, fun j m' d' u' e1 e2 e3 => ?_⟩
      by_cases hj : i = j
      · subst hj
        have hil : i < ms.length := by have := (List.getElem?_eq_some_iff.1 e1).1; simpa using this
        rw [List.getElem?_set_self hil] at e1
        simp only [Option.some.injEq] at e1
        subst e1
        obtain ⟨a0, a4⟩ := h5 i _ d' u' hown e2 e3
        exact ⟨rfl, RV.mono hle _ a4.1⟩
      · rw [List.getElem?_set_ne hj] at e1
        obtain ⟨a0, a4⟩ := h5 j m' d' u' e1 e2 e3
        exact ⟨a0, a4.re hseal (hf _ (by simp; exact fun h => hj h.symm))⟩
    · have hg : St.get { st with mt := st.mt.set t (.tupm (ms.set i .val)) } u = st.get u := by
        simp [St.get, List.getD_eq_getElem?_getD, List.getElem?_set_ne hut]
      rw [hg]
      exact h0.re hseal hoth fun b => hf _ (by simp; intro h; exact absurd h.symm hut)
  · simp only [Env.re]; rw [Rl.fresh b o hb, hoth]

theorem sim_extract {fl : Flags} {y : Operand} {i : Nat} (hop : o.op = .extract y i)
    (H : (ob (src C.P 0 st y) fun r =>
    match r.2 with
    | .val => ob (dExt i r.1) fun d => k (st.put o.dst d .val)
    | .tupm ms => ob (dExt i r.1) fun d =>
      match ms.getD i .val with
      | .own => if dstIn fl.steal o.dst then k ((st.untup y (.tupm (ms.set i .val))).put o.dst d .own) else k (st.put o.dst d .val)
      | .val => k (st.put o.dst d .val)
      | _ => none
    | _ => none) = some x) (Rl : Rel E st a w.heap) (T : Then E w k x K) : Gp C.P o a w K := by
  obtain ⟨r, h1, H⟩ := ob_some H
  split at H
  · rename_i hm
    obtain ⟨d, hd, H⟩ := ob_some H
    exact sim_ext hop h1 hm hd rfl H Rl @T
  · rename_i ms hm
    obtain ⟨d, hd, H⟩ := ob_some H
    have e1 := Rl.src h1
    rw [hm] at e1
    simp only [RR] at e1
    obtain ⟨ds, vs, hr, hv, l1, l2, l3⟩ := e1
    obtain ⟨cs, hr', hdi⟩ := dExt_some hd
    rw [hr] at hr'
    simp only [DV.tup.injEq] at hr'
    subst hr'
    have hi : i < ds.length := (List.getElem?_eq_some_iff.1 hdi).1
    have hmi : ms[i]? = some (ms.getD i .val) := by simp [List.getD_eq_getElem?_getD, List.getElem?_eq_getElem (by omega : i < ms.length)]
    have hvi : vs[i]? = some (vs[i]'(by omega)) := Array.getElem?_eq_getElem (by omega)
    obtain ⟨a0, a4⟩ := l3 i _ d _ hmi hdi hvi
    have hrun : (execOp a.eval o).run C.P w = .ok (.value (vs[i]'(by omega))) w := by
      simp only [execOp, hop]
      refine run_v ?_
      simp only [Instr.extract, hv, hvi, Sem.run_pure]
    split at H
    · rename_i hmo
      rw [hmo] at a4
      by_cases hst : dstIn fl.steal o.dst = true
      · rw [if_pos hst] at H
        have H2 := H
        clear H
        have hy : ∃ t, y = .tmp t := by
          cases y with
          | tmp t => exact ⟨t, rfl⟩
          | const v => exact absurd hm (fun h => (cst_noown h1).2 ms h)
          | func f => simp only [src, Option.some.injEq] at h1; subst h1; simp at hm
          | global g => simp [src] at h1
        obtain ⟨t, rfl⟩ := hy
        simp only [src, Option.some.injEq] at h1
        subst h1
        simp only [plc] at a4
        cases hdst : o.dst with
        | none => rw [hdst] at hst; simp [dstIn] at hst
        | some t0 =>
          rw [hdst] at H2
          refine wp_value hrun ?_
          rw [hdst]
          have htl : t < st.mt.length := by
            rcases Nat.lt_or_ge t st.mt.length with h1 | h1
            · exact h1
            · rw [get_of_ge (by rw [← Rl.mlen]; exact h1) Rl.mlen] at hm; simp at hm
          refine T (E.re (giveTag (.sp 0 t (i + 1)) t0)) _ _ w H2 ((Rl.untup hm (by rw [hmi, hmo]) htl fun T hT => giveTag_ne hT).put fun t1 ht => ?_) (Pr.re fun T hT => giveTag_ne fun he => hT (by rw [he]; simp [Ours]))
          simp only [Option.some.injEq] at ht
          subst ht
          exact RR.of_RM1 (a4.re (giveTag_ne (by simp)) (by simp [giveTag]))
      · rw [if_neg hst] at H
        exact sim_dat hrun H Rl a4.1 @T
    · rename_i hmo
      rw [hmo] at a4
      exact sim_dat hrun H Rl a4 @T
    · simp at H
  · simp at H

end
end Go.Su

/-
  THE DATA MACHINE, part 16: append.
-/
namespace Go.Su

/-- The cells of elements, side by side. -/
def FlatOk (S : Seal) (h : Heap) (sz : Nat) (ds : List DV) (all : List Value) : Prop :=
  all.length = ds.length * sz ∧ ∀ (i : Nat) d, ds[i]? = some d → ∃ vs : List Value, vs.length = sz ∧ (∀ (j : Nat) u, vs[j]? = some u → all[i * sz + j]? = some u) ∧ RC S h d vs

theorem FlatOk.mono {S S' : Seal} {h h' : Heap} (hle : SealLe S h S' h') {sz : Nat} {ds : List DV} {all : List Value} (H : FlatOk S h sz ds all) : FlatOk S' h' sz ds all :=
  ⟨H.1, fun i d hd => let ⟨vs, v1, v2, v3⟩ := H.2 i d hd; ⟨vs, v1, v2, v3.mono hle⟩⟩

theorem flat_of_elems {S : Seal} {h : Heap} {sz b : Nat} : ∀ {ds : List DV} {o : Nat}, RElems S h sz b o ds → ∃ all, FlatOk S h sz ds all ∧ ∀ (j : Nat) u, all[j]? = some u → hc h b (o + j) = some u ∧ S b (o + j)
  | [], o, _ => ⟨[], ⟨by simp, by simp⟩, by simp⟩
  | d :: ds, o, H => by
    simp only [RElems] at H
    obtain ⟨⟨vs, v1, v2, v3⟩, H⟩ := H
    obtain ⟨all, ⟨l1, l2⟩, l3⟩ := flat_of_elems H
    refine ⟨vs ++ all, ⟨by simp [l1, v1, Nat.succ_mul]; omega, fun i d' hd => ?_⟩, fun j u hu => ?_⟩
    · cases i with
      | zero =>
        simp only [List.getElem?_cons_zero, Option.some.injEq] at hd
        subst hd
        refine ⟨vs, v1, fun j u hu => ?_, v3⟩
        rw [Nat.zero_mul, Nat.zero_add, List.getElem?_append_left (List.getElem?_eq_some_iff.1 hu).1]
        exact hu
      | succ i =>
        simp only [List.getElem?_cons_succ] at hd
        obtain ⟨us, u1, u2, u3⟩ := l2 i d' hd
        refine ⟨us, u1, fun j u hu => ?_, u3⟩
        rw [List.getElem?_append_right (by rw [v1, Nat.succ_mul]; omega), v1]
        rw [show (i + 1) * sz + j - sz = i * sz + j from by rw [Nat.succ_mul]; omega]
        exact u2 j u hu
    · by_cases hj : j < vs.length
      · rw [List.getElem?_append_left hj] at hu
        exact v2 j u hu
      · rw [List.getElem?_append_right (by omega)] at hu
        have := l3 _ u hu
        rwa [show o + sz + (j - vs.length) = o + j from by omega] at this

theorem elems_of_flat {S : Seal} {h : Heap} {sz b o : Nat} {ds : List DV} {all : List Value} (H : FlatOk S h sz ds all) (hc : ∀ (j : Nat) u, all[j]? = some u → Su.hc h b (o + j) = some u ∧ S b (o + j)) : RElems S h sz b o ds := by
  refine RElems_iff.2 fun i d hd => ?_
  obtain ⟨vs, v1, v2, v3⟩ := H.2 i d hd
  refine ⟨vs, v1, fun j u hu => ?_, v3⟩
  have := hc _ u (v2 j u hu)
  rwa [← Nat.add_assoc] at this

theorem FlatOk.append {S : Seal} {h : Heap} {sz : Nat} {ds es : List DV} {A B : List Value} (H : FlatOk S h sz ds A) (G : FlatOk S h sz es B) : FlatOk S h sz (ds ++ es) (A ++ B) := by
  refine ⟨by simp [H.1, G.1, Nat.add_mul], fun i d hd => ?_⟩
  by_cases hi : i < ds.length
  · rw [List.getElem?_append_left hi] at hd
    obtain ⟨vs, v1, v2, v3⟩ := H.2 i d hd
    refine ⟨vs, v1, fun j u hu => ?_, v3⟩
    have hj : j < sz := by have := (List.getElem?_eq_some_iff.1 hu).1; omega
    have := seg_lt hi hj
    rw [List.getElem?_append_left (by rw [H.1]; exact this)]
    exact v2 j u hu
  · rw [List.getElem?_append_right (by omega)] at hd
    obtain ⟨vs, v1, v2, v3⟩ := G.2 _ d hd
    refine ⟨vs, v1, fun j u hu => ?_, v3⟩
    have e : i * sz + j = ds.length * sz + ((i - ds.length) * sz + j) := by
      rw [← Nat.add_assoc, ← Nat.add_mul]
      congr 2
      omega
    rw [e, ← H.1, List.getElem?_append_right (by omega), Nat.add_sub_cancel_left]
    exact v2 j u hu

theorem FlatOk.one {S : Seal} {h : Heap} {sz : Nat} (hs : 0 < sz) {ds : List DV} {all : List Value} (H : FlatOk S h sz ds all) : ∀ u ∈ all, u.oneCell' = true := by
  intro u hu
  obtain ⟨j, hj, hju⟩ := List.mem_iff_getElem.1 hu
  have hlt : j < ds.length * sz := by rw [← H.1]; exact hj
  have hi : j / sz < ds.length := (Nat.div_lt_iff_lt_mul hs).2 hlt
  obtain ⟨vs, v1, v2, v3⟩ := H.2 (j / sz) _ (List.getElem?_eq_getElem hi)
  have hm : j % sz < vs.length := by rw [v1]; exact Nat.mod_lt _ hs
  have h1 := v2 (j % sz) _ (List.getElem?_eq_getElem hm)
  rw [Nat.mul_comm, Nat.div_add_mod, List.getElem?_eq_getElem hj, hju] at h1
  simp only [Option.some.injEq] at h1
  obtain ⟨q1, q2⟩ := RC_proj v3 (List.getElem?_eq_getElem hm)
  rw [h1]
  exact RC_one q1 q2

theorem growBy_le (n : Nat) : ∀ (r c : Nat), c < n + 1 → Builtin.growBy n r c ≤ 2 * n + 192
  | 0, c, h => by simp [Builtin.growBy]; omega
  | r + 1, c, h => by
    simp only [Builtin.growBy]
    split
    · omega
    · rename_i hlt
      by_cases h2 : c + (c + 768) / 4 < n + 1
      · exact growBy_le n r _ h2
      · cases r with
        | zero => simp only [Builtin.growBy]; omega
        | succ r =>
          simp only [Builtin.growBy]
          rw [if_pos (by omega)]
          omega

theorem nextcap_le {need old : Nat} (h : old < need) : Builtin.nextslicecap need old ≤ 2 * need + 192 := by
  unfold Builtin.nextslicecap
  split
  · omega
  · split
    · omega
    · exact growBy_le need 4 old (by omega)

theorem appSz_some {P : Program} {t u : TypeId} {sz : Nat} (h : appSz P t u = some sz) : ∃ e e' z i zv, P.underlying t = some (.slice e) ∧ P.underlying u = some (.slice e') ∧ tz P e = some z ∧ z.1 = sz ∧ 0 < sz ∧ P.info? e = some i ∧ i.bytes ≤ 2 ^ 14 ∧ i.zero = some zv ∧ zv.cells.size = sz := by
  unfold appSz at h
  obtain ⟨e, he, h⟩ := ob_some h
  obtain ⟨e', he', h⟩ := ob_some h
  obtain ⟨z, hz, h⟩ := ob_some h
  obtain ⟨i, hi, h⟩ := ob_some h
  obtain ⟨zs, hzs, h⟩ := ob_some h
  obtain ⟨⟨h1, h2, h3⟩, h⟩ := ite_some h
  simp only [Option.some.injEq] at h
  have ht : ∀ {t e : TypeId}, elemT P t = some e → P.underlying t = some (.slice e) := by
    intro t e he
    unfold elemT at he
    split at he
    · simp only [Option.some.injEq] at he; subst he; assumption
    · simp at he
  obtain ⟨inf, zv, hinf, hzv, hok⟩ := zeroRegs_ok hzs
  rw [hi] at hinf
  simp only [Option.some.injEq] at hinf
  subst hinf
  have := (hok ⟨fun _ => 0, fun _ => 0, fun _ => 0, fun _ => 0, fun _ _ => .other, 0, fun _ => 0⟩ #[]).1
  simp only [Array.length_toList] at this
  exact ⟨e, e', z, i, zv, ht he, ht he', hz, h, by omega, hi, h2, hzv, by omega⟩

theorem dApp_some {sz : Nat} {d e r : DV} (h : dApp sz d e = some r) : ∃ ds es, d = .list sz ds ∧ e = .list sz es ∧ ds.length + es.length ≤ lim ∧ r = .list sz (ds ++ es) := by
  unfold dApp at h
  split at h
  · obtain ⟨⟨⟨h1, h2⟩, h3⟩, h⟩ := ite_some h
    simp only [Option.some.injEq] at h
    subst h1 h2
    exact ⟨_, _, rfl, rfl, h3, h.symm⟩
  · simp at h

theorem put_put (st : St) (t : Nat) (d d' : DV) (m m' : Meta) : (st.put (some t) d m).put (some t) d' m' = st.put (some t) d' m' := by
  simp [St.put, List.set_set]

theorem act_put_put (a : Act) (t : Nat) (v v' : Value) : (a.put (some t) v).put (some t) v' = a.put (some t) v' := by
  have : (a.tmps.setIfInBounds t v).setIfInBounds t v' = a.tmps.setIfInBounds t v' := by
    apply Array.ext_getElem?
    intro i
    by_cases h : t = i
    · subst h
      by_cases hl : t < a.tmps.size
      · rw [Array.getElem?_setIfInBounds_self_of_lt (by simpa using hl), Array.getElem?_setIfInBounds_self_of_lt hl]
      · rw [Array.getElem?_eq_none (by simpa using hl), Array.getElem?_eq_none (by simpa using hl)]
    · rw [Array.getElem?_setIfInBounds_ne h, Array.getElem?_setIfInBounds_ne h, Array.getElem?_setIfInBounds_ne h]
  simp [Act.put, this]

section
variable {P : Program} {t u ty e e' : TypeId} {inf : TypeInfo} {w : World} {b : Option Addr} {len cap n sz : Nat} {v : Value} {all' : List Value}

theorem lenOf_slice (b : Option Addr) (n c : Nat) : Builtin.lenOf (.slice b n c) = pure n := rfl

theorem run_append_none (hu : P.underlying t = some (.slice e)) (hu' : P.underlying u = some (.slice e')) (hinf : P.info? e = some inf) (hn : Builtin.lenOf v = pure n) (hv : (Builtin.firstCells inf.size n v).run P w = .ok all'.toArray w)
    (hfit : len + n ≤ cap) : (Builtin.append_ #[t, u] ty #[.slice none len cap, v]).run P w = .ok (.slice none (len + n) cap) w := by
  unfold Builtin.append_
  simp [run_underlying hu, run_underlying hu', sizeOf, typeInfo, hinf, hn, hfit, hv]

theorem run_append_some {y : Addr} {w' : World} (hu : P.underlying t = some (.slice e)) (hu' : P.underlying u = some (.slice e')) (hinf : P.info? e = some inf) (hn : Builtin.lenOf v = pure n) (hv : (Builtin.firstCells inf.size n v).run P w = .ok all'.toArray w)
    (hfit : len + n ≤ cap) (hst : (storeCells (y.add (len * inf.size)) all').run P w = .ok () w') : (Builtin.append_ #[t, u] ty #[.slice (some y) len cap, v]).run P w = .ok (.slice (some y) (len + n) cap) w' := by
  unfold Builtin.append_
  simp [run_underlying hu, run_underlying hu', sizeOf, typeInfo, hinf, hn, hfit, hv, hst]

theorem run_append_grow {zv : Value} {all : List Value} (hu : P.underlying t = some (.slice e)) (hu' : P.underlying u = some (.slice e')) (hinf : P.info? e = some inf) (hn : Builtin.lenOf v = pure n) (hv : ∀ w' : World, w'.heap = w.heap → (Builtin.firstCells inf.size n v).run P w' = .ok all'.toArray w')
    (hs : ∀ w' : World, w'.heap = w.heap → (Builtin.firstCells inf.size len (.slice b len cap)).run P w' = .ok all.toArray w') (hzv : inf.zero = some zv) (hfit : ¬ len + n ≤ cap) (hsmall : len + n ≤ 4294967296) (hb : inf.bytes ≤ 2 ^ 14) :
    ∃ nc, len + n ≤ nc ∧ (Builtin.append_ #[t, u] ty #[.slice b len cap, v]).run P w = .ok (.slice (some ⟨w.heap.size, 0, none⟩) (len + n) nc) (w.drew.alloc (.cells (all ++ all' ++ (Builtin.zeroCells zv.cells (nc - (len + n))).toList).toArray e)) := by
  refine ⟨(Question.appendCap (len + n) cap e).cut (w.tape w.drawn (Question.appendCap (len + n) cap e)), by simp only [Question.cut]; omega, ?_⟩
  have hcap : Builtin.nextslicecap (len + n) cap * inf.bytes ≤ 2 ^ 48 := by
    have h1 := nextcap_le (need := len + n) (old := cap) (by omega)
    calc Builtin.nextslicecap (len + n) cap * inf.bytes ≤ (2 * 4294967296 + 192) * 2 ^ 14 := Nat.mul_le_mul (by omega) hb
      _ ≤ 2 ^ 48 := by decide
  have hmax : ¬ (((len + n : Nat) : Int) > IntKind.i64.max) := by rw [IntKind.max_i64]; omega
  have hcap' : ¬ (Builtin.nextslicecap (len + n) cap * inf.bytes > 2 ^ 48) := by omega
  have q1 := hs w.drew rfl
  have q2 := hv w.drew rfl
  unfold Builtin.append_
  have hmax' : ¬ ((9223372036854775807 : Int) < (len : Int) + (n : Int)) := by omega
  simp [run_underlying hu, run_underlying hu', sizeOf, typeInfo, hinf, hn, hfit, hmax', hcap', Question.forced, q1, q2, zeroValue, hzv, newRow]
  refine congrArg (fun z => w.drew.alloc (.cells z e)) (Array.toList_inj.1 ?_)
  simp

end

section
variable {X : Type} {C : Cfg} {R : Orc} {o : Oper} {st : St} {k : St → Option X} {x : X} {E : Env} {a : Act} {w : World} {K : Act → World → Prop} {Q : Exit → Act → World → Prop}

theorem loadCells_flat {P : Program} {b o' : Nat} {all : List Value} (H : ∀ (j : Nat) u, all[j]? = some u → hc w.heap b (o' + j) = some u) : (loadCells ⟨b, o', none⟩ all.length).run P w = .ok all.toArray w := by
  refine run_loadCells_list w _ all fun j v hv => ?_
  rw [Addr.add_lit, cell_hc]
  exact H j v hv

/-- The cells of a slice, as append reads them. -/
theorem first_flat {P : Program} {S : Seal} {sz : Nat} {ds : List DV} {v : Value} (H : RV S w.heap (.list sz ds) v) : ∃ b len cap all, v = .slice b len cap ∧ len = ds.length ∧ len ≤ cap ∧ (b = none → cap = 0) ∧ FlatOk S w.heap sz ds all ∧
    (∀ y, b = some y → (0 < cap → y = ⟨y.block, y.off, none⟩) ∧ ∀ (j : Nat) u, all[j]? = some u → hc w.heap y.block (y.off + j) = some u ∧ S y.block (y.off + j)) ∧ (b = none → all = []) ∧
    ∀ w' : World, w'.heap = w.heap → (Builtin.firstCells sz len v).run P w' = .ok all.toArray w' := by
  obtain ⟨b, len, cap, rfl, h1, h2, h3, h4, h5⟩ := RV_list H
  cases b with
  | none =>
    have h0 := h3 rfl
    have hds : ds = [] := List.eq_nil_of_length_eq_zero (by omega)
    subst hds
    exact ⟨none, len, cap, [], rfl, h1, h2, h3, ⟨by simp, by simp⟩, by simp, fun _ => rfl, fun w' _ => rfl⟩
  | some y =>
    obtain ⟨s1, s2⟩ := h5 y rfl
    obtain ⟨all, f1, f2⟩ := flat_of_elems s2
    have hy : 0 < cap → y = ⟨y.block, y.off, none⟩ := fun hc => by have s1 := s1 hc; cases y; simp only at s1; subst s1; rfl
    refine ⟨some y, len, cap, all, rfl, h1, h2, h3, f1, fun z hz => ?_, by simp, fun w' hw => ?_⟩
    · simp only [Option.some.injEq] at hz
      subst hz
      exact ⟨hy, f2⟩
    · have hl : len * sz = all.length := by rw [f1.1, h1]
      show (loadCells y (len * sz)).run P w' = _
      by_cases hc : 0 < cap
      · rw [hl, hy hc]
        exact loadCells_flat (fun j u hu => by rw [hw]; exact (f2 j u hu).1)
      · have h0 : len = 0 := by omega
        have h9 : all = [] := List.eq_nil_of_length_eq_zero (by rw [← hl, h0]; simp)
        rw [h9, h0, Nat.zero_mul]
        rfl

/-- A place's tags, and a row of cells sealed. -/
def Env.sealRow (E : Env) (b lo hi : Nat) : Env := { E with O := fun b' o => if b' = b ∧ lo ≤ o ∧ o < hi then .shut else E.O b' o }

/-- A new block: cells sealed, and what lies behind them is `tg`'s. -/
def Env.newRow (E : Env) (b lo hi : Nat) (tg : Tag) : Env := { E with O := fun b' o => if b' = b then (if o < lo then .shut else if o < hi then tg else .other) else E.O b' o }

theorem sim_append {fl : Flags} {c : Call} {y v : Operand} {t u : TypeId} (hop : o.op = .call c) (hcal : c.callee = .builtin .append) (ha : c.args.toList = [y, v]) (ht : c.argTypes.toList = [t, u]) (hfl : dstIn fl.opn o.dst = false) (hvc : dstIn fl.vecs o.dst = false) (H : evAppend C fl o y v t u st k = some x)
    (Rl : Rel E st a w.heap) (T : Then E w k x K) : Gp C.P o a w K := by
  unfold evAppend at H
  rw [if_neg (by rw [hvc]; simp)] at H
  obtain ⟨r, h1, H⟩ := ob_some H
  obtain ⟨s, h2, H⟩ := ob_some H
  obtain ⟨sz, hsz, H⟩ := ob_some H
  obtain ⟨hc, H⟩ := og_some H
  rw [if_neg (by rw [hfl]; simp)] at H
  obtain ⟨d, hd, H⟩ := ob_some H
  simp only [Bool.and_eq_true] at hc
  obtain ⟨⟨hroom, hdat⟩, hdst⟩ := hc
  obtain ⟨t0, hdst⟩ := Option.isSome_iff_exists.1 hdst
  obtain ⟨e, e', z, inf, zv, hu, hu', hz, hz1, hpos, hinf, hbytes, hzv, hzs⟩ := appSz_some hsz
  obtain ⟨ds, es, hr, hs, hlim, rfl⟩ := dApp_some hd
  have e1 := Rl.src h1
  have e2 := (Rl.src h2).data hdat
  have e1d : RV E.S w.heap r.1 (a.eval y) := e1.data (by revert hroom; cases r.2 <;> simp [isRoom, isData])
  rw [hr] at e1d
  rw [hs] at e2
  obtain ⟨b, len, cap, all, ev, f1, f2, f3, f4, f5, f6, f7⟩ := first_flat (P := C.P) e1d
  obtain ⟨b', len', cap', all', ev', g1, g2, g3, g4, g5, g6, g7⟩ := first_flat (P := C.P) e2
  have hinfsz : inf.size = sz := by
    obtain ⟨i', d', q1, -, q2, -⟩ := tz_some hz
    rw [hinf] at q1
    simp only [Option.some.injEq] at q1
    rw [← hz1, q2, q1]
  have hrun : ∀ v' w', (Builtin.append_ #[t, u] o.type #[a.eval y, a.eval v]).run C.P w = .ok v' w' → (execOp a.eval o).run C.P w = .ok (.value v') w' := by
    intro v' w' hv
    refine call_builtin hop hcal ?_
    rw [arr_two ht, show c.args.map a.eval = #[a.eval y, a.eval v] from by rw [arr_two ha]; simp]
    exact run_v hv
  rw [hdst] at H
  have hlenOf : Builtin.lenOf (a.eval v) = pure len' := by rw [ev']; rfl
  have hsmall : ds.length + es.length ≤ 4294967296 := hlim
  have hone := g4.one hpos
  by_cases hfit : len + len' ≤ cap
  · -- it fits: the slice's own memory is written
    have R0 := Rl.release (x := y) (f := toTag y 0 t0 0) fun T hT => toTag_id hT
    have P0 : Pr Ours E w.heap (E.re (toTag y 0 t0 0)) w.heap := Pr.re fun T hT => toTag_id fun t b _ he => hT (by rw [he]; simp [Ours])
    have hle0 : SealLe E.S w.heap (E.re (toTag y 0 t0 0)).S w.heap := re_le (toTag_id (by simp))
    -- what lies behind, under its new tag
    have hsp : ∀ p, b = some p → len < cap → ∃ cc TT f, w.heap[p.block]? = some (.cells cc TT f) ∧ p.off + cap * sz ≤ cc.size ∧
        ∀ o', p.off + len * sz ≤ o' → o' < p.off + cap * sz → (E.re (toTag y 0 t0 0)).O p.block o' = .sp 0 t0 0 ∧ ¬(f.1 ≤ o' ∧ o' < f.2) := by
      intro p hp hlt
      subst hp
      have hown : r.2 = .own := by
        revert hroom e1
        cases r.2 <;> intro hroom e1 <;> simp only [isRoom, Bool.false_eq_true] at hroom
        · simp only [RR, RM1] at e1
          obtain ⟨-, ⟨q, n, hq⟩, -⟩ := e1
          rw [ev] at hq
          simp only [Value.slice.injEq] at hq
          omega
        · rfl
      rw [hown] at e1
      simp only [RR, RM1] at e1
      obtain ⟨-, sz', ds', hl, hS⟩ := e1
      rw [hr] at hl
      simp only [DV.list.injEq] at hl
      obtain ⟨cc, TT, f, c1, c2, c3⟩ := hS p len cap ev hlt
      rw [← hl.1] at c2 c3
      refine ⟨cc, TT, f, c1, c2, fun o' h3 h4 => ?_⟩
      obtain ⟨c4, c5⟩ := c3 o' h3 h4
      refine ⟨?_, c5⟩
      have hy : ∃ i, y = .tmp i := by
        cases y with
        | tmp i => exact ⟨i, rfl⟩
        | const v => exact absurd hown (cst_noown h1).1
        | func f => simp only [src, Option.some.injEq] at h1; subst h1; simp at hown
        | global g => simp [src] at h1
      obtain ⟨i, rfl⟩ := hy
      simp only [Env.re]
      rw [c4]
      simp [toTag, plc]
    by_cases hn : len' = 0
    · -- nothing is appended
      have hes : es = [] := List.eq_nil_of_length_eq_zero (by omega)
      have hall' : all' = [] := List.eq_nil_of_length_eq_zero (by rw [g4.1, hes]; simp)
      have hr' : (Builtin.append_ #[t, u] o.type #[a.eval y, a.eval v]).run C.P w = .ok (.slice b (len + len') cap) w := by
        rw [ev]
        cases b with
        | none => exact run_append_none hu hu' hinf hlenOf (by rw [hinfsz]; exact g7 w rfl) hfit
        | some p => exact run_append_some hu hu' hinf hlenOf (by rw [hinfsz]; exact g7 w rfl) hfit (by rw [hall']; rfl)
      refine wp_value (hrun _ _ hr') (T _ _ _ w H ?_ P0)
      rw [hdst]
      refine R0.put fun t1 ht1 => ?_
      simp only [Option.some.injEq] at ht1
      subst ht1
      rw [hes, List.append_nil, hn, Nat.add_zero, ← ev]
      refine RR.of_RM1 ⟨e1d.mono hle0, _, _, rfl, fun p len1 cap1 hq hlt => ?_⟩
      rw [ev] at hq
      simp only [Value.slice.injEq] at hq
      obtain ⟨rfl, rfl, rfl⟩ := hq
      exact hsp p rfl hlt
    · -- the cells behind are written, and sealed
      cases b with
      | none => have := f3 rfl; omega
      | some p =>
        obtain ⟨hp, -⟩ := f5 p rfl
        have hp := hp (by omega)
        obtain ⟨cc, TT, f, c1, c2, c3⟩ := hsp p rfl (by omega)
        have hlen' : all'.length = len' * sz := by rw [g4.1, g1]
        have hmul : (len + len') * sz ≤ cap * sz := Nat.mul_le_mul_right _ hfit
        have hmul2 : (len + len') * sz = len * sz + len' * sz := Nat.add_mul _ _ _
        have hpos' : 0 < len' * sz := Nat.mul_pos (by omega) hpos
        obtain ⟨w', hw, S⟩ := run_storeCells (P := C.P) (b := p.block) (T := TT) (f := f) (p.off + len * sz) all' cc 0 w c1 (by omega) hone (fun o' h3 h4 => (c3 o' (by omega) (by omega)).2)
        have hr' : (Builtin.append_ #[t, u] o.type #[a.eval y, a.eval v]).run C.P w = .ok (.slice (some p) (len + len') cap) w' := by
          rw [ev]
          refine run_append_some hu hu' hinf hlenOf (by rw [hinfsz]; exact g7 w rfl) hfit ?_
          rw [hinfsz, hp, Addr.add_lit]
          exact hw
        simp only [Nat.add_zero] at S
        -- the register is empty while its memory turns
        have R1 : Rel (E.re (toTag y 0 t0 0)) ((st.release y).put (some t0) .undef .val) (a.put (some t0) (.slice (some p) (len + len') cap)) w.heap := R0.put fun t1 _ => by simp only [RR, RM1, RV]
        have PS : Pr (fun T => T = .sp 0 t0 0) (E.re (toTag y 0 t0 0)) w.heap ((E.re (toTag y 0 t0 0)).sealRow p.block (p.off + len * sz) (p.off + len * sz + len' * sz)) w'.heap := by
          refine ⟨Nat.le_of_eq S.size.symm, fun b1 hb1 => ?_, fun b1 o1 hb1 hT => ?_, Nat.le_refl _, fun _ _ _ => ⟨rfl, rfl, rfl⟩, fun _ _ => rfl, ver_same rfl⟩
          · by_cases hbb : b1 = p.block
            · subst hbb
              rw [c1]
              obtain ⟨c', q1, q2, q3⟩ := S.ex
              refine ⟨c', q1, q2, fun j hj => ?_⟩
              rw [q3 j, if_neg]
              rintro ⟨q4, q5⟩
              exact hj (c3 j q4 (by omega)).1
            · rw [S.rest b1 hbb]; exact KeepBlk.refl _ _
          · simp only [Env.sealRow]
            rw [if_neg]
            rintro ⟨rfl, q4, q5⟩
            exact hT (c3 o1 q4 (by omega)).1
        have hs1 := PS.shut (by simp) R1.fresh
        have R2 : Rel ((E.re (toTag y 0 t0 0)).sealRow p.block (p.off + len * sz) (p.off + len * sz + len' * sz)) ((st.release y).put (some t0) .undef .val) (a.put (some t0) (.slice (some p) (len + len') cap)) w'.heap := by
          refine ⟨R1.size, R1.mlen, R1.blen, R1.n, fun q vq hq => ?_, fun s' cs' hs' => (R1.boxes s' cs' hs').mono PS hs1 (by simp) (by simp), fun i' ob hi => (R1.objs i' ob hi).mono PS hs1 (by rw [← R1.n]; exact (List.getElem?_eq_some_iff.1 hi).1) (by simp) (by simp), fun b1 o1 hb1 => ?_⟩
          · have h0 := R1.regs q vq hq
            by_cases hqt : t0 = q
            · subst hqt
              have hlt0 : t0 < (st.release y).tm.length := by
                have := (Array.getElem?_eq_some_iff.1 hq).1
                rw [act_put_size] at this
                rw [← R0.size]; exact this
              rw [put_get_same hlt0 R0.mlen]
              simp only [RR, RM1, RV]
            · exact h0.mono PS hs1 (by simp; exact fun hh => absurd hh.symm hqt) (by simp)
          · have hb2 : w.heap.size ≤ b1 := by rw [← S.size]; exact hb1
            simp only [Env.sealRow]
            rw [if_neg]
            · exact R1.fresh b1 o1 hb2
            · rintro ⟨rfl, -⟩
              have := (Array.getElem?_eq_some_iff.1 c1).1
              omega
        have hfinal : RR ((E.re (toTag y 0 t0 0)).sealRow p.block (p.off + len * sz) (p.off + len * sz + len' * sz)) w'.heap 0 t0 (.list sz (ds ++ es)) .own (.slice (some p) (len + len') cap) := by
          refine RR.of_RM1 ⟨?_, _, _, rfl, fun p1 len1 cap1 hq hlt => ?_⟩
          · have hleAll := hle0
            refine RV_list_mk (by simp; omega) hfit (by simp) (fun _ => hpos) fun p1 hp1 => ?_
            simp only [Option.some.injEq] at hp1
            subst hp1
            refine ⟨fun _ => by rw [hp], elems_of_flat (((f4.mono hle0).mono hs1).append ((g4.mono hle0).mono hs1)) fun j q hq => ?_⟩
            by_cases hj : j < all.length
            · rw [List.getElem?_append_left hj] at hq
              obtain ⟨q1, q2⟩ := (f5 p rfl).2 j q hq
              exact ⟨hs1.c _ _ _ (hle0.s _ _ q2) q1, hs1.s _ _ (hle0.s _ _ q2)⟩
            · rw [List.getElem?_append_right (by omega)] at hq
              have hal : all.length = len * sz := by rw [f4.1, f1]
              have hjl : j - all.length < all'.length := (List.getElem?_eq_some_iff.1 hq).1
              obtain ⟨c', q1, q2, q3⟩ := S.ex
              constructor
              · unfold hc
                rw [q1]
                show c'[p.off + j]? = some q
                rw [q3, if_pos (by omega), ← hq]
                congr 1
                omega
              · simp only [Env.S, Env.sealRow]
                rw [if_pos (by refine ⟨trivial, ?_, ?_⟩ <;> omega)]
          · simp only [Value.slice.injEq, Option.some.injEq] at hq
            obtain ⟨rfl, rfl, rfl⟩ := hq
            obtain ⟨c', q1, q2, q3⟩ := S.ex
            refine ⟨c', TT, f, q1, by rw [q2]; exact c2, fun o' h3 h4 => ?_⟩
            rw [hmul2] at h3
            obtain ⟨c4, c5⟩ := c3 o' (by omega) h4
            refine ⟨?_, c5⟩
            simp only [Env.sealRow]
            rw [if_neg (by omega)]
            exact c4
        refine wp_value (hrun _ _ hr') (T _ _ _ w' H ?_ (P0.trans (PS.weaken (by rintro T rfl; simp [Ours]))) S.out)
        rw [hdst]
        have R3 := R2.put (dst := some t0) (d := .list sz (ds ++ es)) (m := .own) (v := .slice (some p) (len + len') cap) fun t1 ht1 => by
          simp only [Option.some.injEq] at ht1
          subst ht1
          exact hfinal
        rwa [put_put, act_put_put] at R3
  · -- a new block
    obtain ⟨nc, hnc, hr'⟩ := run_append_grow (ty := o.type) (b := b) hu hu' hinf hlenOf (by rw [hinfsz]; exact g7) (by rw [hinfsz, ← ev]; exact f7) hzv hfit (by omega) hbytes
    rw [← ev] at hr'
    have hal : all.length = len * sz := by rw [f4.1, f1]
    have hal' : all'.length = len' * sz := by rw [g4.1, g1]
    have hz' : (Builtin.zeroCells zv.cells (nc - (len + len'))).toList.length = (nc - (len + len')) * sz := by simp [Builtin.zeroCells, hzs]
    have htot : (len + len') * sz + (nc - (len + len')) * sz = nc * sz := by rw [← Nat.add_mul]; congr 1; omega
    have hmul2 : (len + len') * sz = len * sz + len' * sz := Nat.add_mul _ _ _
    generalize hzc : (Builtin.zeroCells zv.cells (nc - (len + len'))).toList = zc at hr' hz'
    have P1 : Pr (fun _ => False) E w.heap (E.newRow w.heap.size ((len + len') * sz) (nc * sz) (.sp 0 t0 0)) (w.heap.push (.cells (all ++ all' ++ zc).toArray e)) := by
      refine Pr.push (fun b1 o1 hb1 _ => ?_) (Nat.le_refl _) (fun _ _ _ => ⟨rfl, rfl, rfl⟩) (fun _ _ => rfl) (ver_same rfl)
      simp only [Env.newRow]; rw [if_neg (by omega)]
    have hs1 := P1.shut (by simp) Rl.fresh
    have R0 : Rel E (st.release y) a w.heap := Rl.release (x := y) (f := id) fun _ _ => rfl
    have R1 := R0.push P1 rfl fun b1 o1 hb1 => by
      simp only [Array.size_push] at hb1
      simp only [Env.newRow]; rw [if_neg (by omega)]
      exact Rl.fresh b1 o1 (by omega)
    refine wp_value (hrun _ _ hr') (T _ _ _ (w.drew.alloc (.cells (all ++ all' ++ zc).toArray e)) H ?_ (P1.weaken (by simp)))
    rw [hdst]
    refine R1.put fun t1 ht1 => ?_
    simp only [Option.some.injEq] at ht1
    subst ht1
    have hcell : ∀ (j : Nat), hc (w.heap.push (.cells (all ++ all' ++ zc).toArray e)) w.heap.size j = (all ++ all' ++ zc)[j]? := fun j => by rw [hc_new]; simp
    refine RR.of_RM1 ⟨?_, _, _, rfl, fun p1 len1 cap1 hq hlt => ?_⟩
    · refine RV_list_mk (by simp; omega) hnc (by simp) (fun _ => hpos) fun p1 hp1 => ?_
      simp only [Option.some.injEq] at hp1
      subst hp1
      refine ⟨fun _ => rfl, elems_of_flat ((f4.mono hs1).append (g4.mono hs1)) fun j q hq => ?_⟩
      have hj : j < (all ++ all').length := (List.getElem?_eq_some_iff.1 hq).1
      have hj' : j < (len + len') * sz := by simp at hj; omega
      constructor
      · show hc _ w.heap.size (0 + j) = _
        rw [Nat.zero_add, hcell, List.getElem?_append_left hj]
        exact hq
      · simp only [Env.S, Env.newRow, Nat.zero_add, if_true]
        rw [if_pos hj']
    · simp only [Value.slice.injEq, Option.some.injEq] at hq
      obtain ⟨rfl, rfl, rfl⟩ := hq
      refine ⟨_, e, (0, 0), push_new, by simp; omega, fun o' h3 h4 => ⟨?_, by simp⟩⟩
      simp only [Nat.zero_add] at h3 h4
      simp only [Env.newRow, if_true]
      rw [if_neg (by omega), if_pos h4]

end
end Go.Su

/-
  THE DATA MACHINE: slices whose last elements are open.
-/
namespace Go.Su

theorem dApp2_some {sz : Nat} {d e : DV} {p : List DV × List DV} (h : dApp2 sz d e = some p) : ∃ ds es, d = .list sz ds ∧ e = .list sz es ∧ ds.length + es.length ≤ lim ∧ 0 < es.length ∧ p = (ds, es) := by
  unfold dApp2 at h
  split at h
  · obtain ⟨⟨⟨h1, h2⟩, h3, h4⟩, h9⟩ := ite_some h
    simp only [Option.some.injEq] at h9
    subst h1 h2
    exact ⟨_, _, rfl, rfl, h3, h4, h9.symm⟩
  · simp at h

/-- A new array: its cells and the room behind. -/
def Env.opnRow (E : Env) (b off lo hi : Nat) : Env :=
  { E with obj := fun i => if i = E.n then b else E.obj i, base := fun i => if i = E.n then off else E.base i, top := fun i => if i = E.n then hi else E.top i, n := E.n + 1, ver := fun i => if i = E.n then 0 else E.ver i,
           O := fun b' o => if b' = b ∧ lo ≤ o ∧ o < hi then .obj E.n else E.O b' o }

/-- A new block: cells sealed, an array, and its room. -/
def Env.opnNew (E : Env) (b lo hi : Nat) : Env :=
  { E with obj := fun i => if i = E.n then b else E.obj i, base := fun i => if i = E.n then 0 else E.base i, top := fun i => if i = E.n then hi else E.top i, n := E.n + 1, ver := fun i => if i = E.n then 0 else E.ver i,
           O := fun b' o => if b' = b then (if o < lo then .shut else if o < hi then .obj E.n else .other) else E.O b' o }

section
variable {X : Type} {C : Cfg} {R : Orc} {o : Oper} {st : St} {k : St → Option X} {x : X} {E : Env} {a : Act} {w : World} {K : Act → World → Prop} {Q : Exit → Act → World → Prop}

/-- The array's object, out of the cells. -/
theorem opn_RO {E : Env} {h : Heap} {i b off cap sz : Nat} {ds es : List DV} {all' : List Value} {c : Array Value} {T : TypeId} {f : Nat × Nat} (ho : E.obj i = b) (hb : E.base i = off) (ht : E.top i = off + cap * sz) (hpos : 0 < sz) (hc : h[b]? = some (.cells c T f))
    (hfit : ds.length + es.length ≤ cap) (hcs : off + cap * sz ≤ c.size) (tags : ∀ o, off + ds.length * sz ≤ o → o < off + cap * sz → E.O b o = .obj i ∧ ¬(f.1 ≤ o ∧ o < f.2)) (pre : ∀ (j : Nat) d, ds[j]? = some d → Elem E.S h sz b (off + j * sz) d)
    (G : FlatOk E.S h sz es all') (cells : ∀ (j : Nat) u, all'[j]? = some u → c[off + ds.length * sz + j]? = some u) : RO E h i (.opn sz ds es) := by
  simp only [RO]
  rw [ho, hb, ht]
  refine ⟨c, T, f, hc, ?_, hcs, hpos, tags, pre, fun j d hd => ?_⟩
  · have := Nat.mul_le_mul_right sz hfit
    omega
  · obtain ⟨vs, v1, v2, v3⟩ := G.2 j d hd
    refine ⟨vs, v1, fun y u hu => ?_, v3⟩
    have := cells _ u (v2 y u hu)
    rw [Nat.add_mul]
    rwa [show off + (ds.length * sz + j * sz) + y = off + ds.length * sz + (j * sz + y) by omega]

theorem sim_append_opn {fl : Flags} {c : Call} {y v : Operand} {t u : TypeId} (hop : o.op = .call c) (hcal : c.callee = .builtin .append) (ha : c.args.toList = [y, v]) (ht : c.argTypes.toList = [t, u]) (hfl : dstIn fl.opn o.dst = true) (hvc : dstIn fl.vecs o.dst = false) (H : evAppend C fl o y v t u st k = some x)
    (Rl : Rel E st a w.heap) (T : Then E w k x K) : Gp C.P o a w K := by
  unfold evAppend at H
  rw [if_neg (by rw [hvc]; simp)] at H
  obtain ⟨r, h1, H⟩ := ob_some H
  obtain ⟨s, h2, H⟩ := ob_some H
  obtain ⟨sz, hsz, H⟩ := ob_some H
  obtain ⟨hc, H⟩ := og_some H
  rw [if_pos hfl] at H
  obtain ⟨d2, hd, H⟩ := ob_some H
  simp only [Bool.and_eq_true] at hc
  obtain ⟨⟨hroom, hdat⟩, hdst⟩ := hc
  obtain ⟨t0, hdst⟩ := Option.isSome_iff_exists.1 hdst
  obtain ⟨e, e', z, inf, zv, hu, hu', hz, hz1, hpos, hinf, hbytes, hzv, hzs⟩ := appSz_some hsz
  obtain ⟨ds, es, hr, hs, hlim, hne, rfl⟩ := dApp2_some hd
  simp only at H
  have e1 := Rl.src h1
  have e2 := (Rl.src h2).data hdat
  have e1d : RV E.S w.heap r.1 (a.eval y) := e1.data (by revert hroom; cases r.2 <;> simp [isRoom, isData])
  rw [hr] at e1d
  rw [hs] at e2
  obtain ⟨b, len, cap, all, ev, f1, f2, f3, f4, f5, f6, f7⟩ := first_flat (P := C.P) e1d
  obtain ⟨b', len', cap', all', ev', g1, g2, g3, g4, g5, g6, g7⟩ := first_flat (P := C.P) e2
  have hinfsz : inf.size = sz := by
    obtain ⟨i', d', q1, -, q2, -⟩ := tz_some hz
    rw [hinf] at q1
    simp only [Option.some.injEq] at q1
    rw [← hz1, q2, q1]
  have hrun : ∀ v' w', (Builtin.append_ #[t, u] o.type #[a.eval y, a.eval v]).run C.P w = .ok v' w' → (execOp a.eval o).run C.P w = .ok (.value v') w' := by
    intro v' w' hv
    refine call_builtin hop hcal ?_
    rw [arr_two ht, show c.args.map a.eval = #[a.eval y, a.eval v] from by rw [arr_two ha]; simp]
    exact run_v hv
  rw [hdst] at H
  have hlenOf : Builtin.lenOf (a.eval v) = pure len' := by rw [ev']; rfl
  have hsmall : ds.length + es.length ≤ 4294967296 := hlim
  have hone := g4.one hpos
  have hn := Rl.n
  by_cases hfit : len + len' ≤ cap
  · -- it fits: the slice's own memory is written
    have R0 := Rl.release (x := y) (f := toTag y 0 t0 0) fun T hT => toTag_id hT
    have P0 : Pr Ours E w.heap (E.re (toTag y 0 t0 0)) w.heap := Pr.re fun T hT => toTag_id fun t b _ he => hT (by rw [he]; simp [Ours])
    have hle0 : SealLe E.S w.heap (E.re (toTag y 0 t0 0)).S w.heap := re_le (toTag_id (by simp))
    have hsp : ∀ p, b = some p → len < cap → ∃ cc TT f, w.heap[p.block]? = some (.cells cc TT f) ∧ p.off + cap * sz ≤ cc.size ∧
        ∀ o', p.off + len * sz ≤ o' → o' < p.off + cap * sz → (E.re (toTag y 0 t0 0)).O p.block o' = .sp 0 t0 0 ∧ ¬(f.1 ≤ o' ∧ o' < f.2) := by
      intro p hp hlt
      subst hp
      have hown : r.2 = .own := by
        revert hroom e1
        cases r.2 <;> intro hroom e1 <;> simp only [isRoom, Bool.false_eq_true] at hroom
        · simp only [RR, RM1] at e1
          obtain ⟨-, ⟨q, n, hq⟩, -⟩ := e1
          rw [ev] at hq
          simp only [Value.slice.injEq] at hq
          omega
        · rfl
      rw [hown] at e1
      simp only [RR, RM1] at e1
      obtain ⟨-, sz', ds', hl, hS⟩ := e1
      rw [hr] at hl
      simp only [DV.list.injEq] at hl
      obtain ⟨cc, TT, f, c1, c2, c3⟩ := hS p len cap ev hlt
      rw [← hl.1] at c2 c3
      refine ⟨cc, TT, f, c1, c2, fun o' h3 h4 => ?_⟩
      obtain ⟨c4, c5⟩ := c3 o' h3 h4
      refine ⟨?_, c5⟩
      have hy : ∃ i, y = .tmp i := by
        cases y with
        | tmp i => exact ⟨i, rfl⟩
        | const v => exact absurd hown (cst_noown h1).1
        | func f => simp only [src, Option.some.injEq] at h1; subst h1; simp at hown
        | global g => simp [src] at h1
      obtain ⟨i, rfl⟩ := hy
      simp only [Env.re]
      rw [c4]
      simp [toTag, plc]
    have hln : 0 < len' := by omega
    cases b with
    | none => have := f3 rfl; omega
    | some p =>
      obtain ⟨hp, f5'⟩ := f5 p rfl
      have hp := hp (by omega)
      obtain ⟨cc, TT, f, c1, c2, c3⟩ := hsp p rfl (by omega)
      have hlen' : all'.length = len' * sz := by rw [g4.1, g1]
      have hmul : (len + len') * sz ≤ cap * sz := Nat.mul_le_mul_right _ hfit
      have hmul2 : (len + len') * sz = len * sz + len' * sz := Nat.add_mul _ _ _
      have hpos' : 0 < len' * sz := Nat.mul_pos hln hpos
      obtain ⟨w', hw, S⟩ := run_storeCells (P := C.P) (b := p.block) (T := TT) (f := f) (p.off + len * sz) all' cc 0 w c1 (by omega) hone (fun o' h3 h4 => (c3 o' (by omega) (by omega)).2)
      have hr' : (Builtin.append_ #[t, u] o.type #[a.eval y, a.eval v]).run C.P w = .ok (.slice (some p) (len + len') cap) w' := by
        rw [ev]
        refine run_append_some hu hu' hinf hlenOf (by rw [hinfsz]; exact g7 w rfl) hfit ?_
        rw [hinfsz, hp, Addr.add_lit]
        exact hw
      simp only [Nat.add_zero] at S
      -- the register is empty while its memory turns
      have R1 : Rel (E.re (toTag y 0 t0 0)) ((st.release y).put (some t0) .undef .val) (a.put (some t0) (.slice (some p) (len + len') cap)) w.heap := R0.put fun t1 _ => by simp only [RR, RM1, RV]
      let E2 := (E.re (toTag y 0 t0 0)).opnRow p.block p.off (p.off + len * sz) (p.off + cap * sz)
      have hE2n : E2.n = E.n + 1 := rfl
      have PS : Pr (fun T => T = .sp 0 t0 0) (E.re (toTag y 0 t0 0)) w.heap E2 w'.heap := by
        refine ⟨Nat.le_of_eq S.size.symm, fun b1 hb1 => ?_, fun b1 o1 hb1 hT => ?_, Nat.le_succ _, fun i hi _ => ?_, fun _ _ => rfl, ver_new rfl⟩
        · by_cases hbb : b1 = p.block
          · subst hbb
            rw [c1]
            obtain ⟨c', q1, q2, q3⟩ := S.ex
            refine ⟨c', q1, q2, fun j hj => ?_⟩
            rw [q3 j, if_neg]
            rintro ⟨q4, q5⟩
            exact hj (c3 j q4 (by omega)).1
          · rw [S.rest b1 hbb]; exact KeepBlk.refl _ _
        · show (if _ then _ else _) = _
          rw [if_neg]
          rintro ⟨rfl, q4, q5⟩
          exact hT (c3 o1 q4 q5).1
        · have hi' : i ≠ (E.re (toTag y 0 t0 0)).n := Nat.ne_of_lt hi
          refine ⟨?_, ?_, ?_⟩ <;> (show (if _ then _ else _) = _; rw [if_neg hi'])
      have hs1 := PS.shut (by simp) R1.fresh
      have oE : E2.obj E.n = p.block := if_pos rfl
      have bE : E2.base E.n = p.off := if_pos rfl
      have tE : E2.top E.n = p.off + cap * sz := if_pos rfl
      have R2 : Rel E2 { (st.release y).put (some t0) .undef .val with sg := st.sg ++ [SObj.opn sz ds es] } (a.put (some t0) (.slice (some p) (len + len') cap)) w'.heap := by
        have sgR : (st.release y).sg = st.sg := by cases y <;> rfl
        refine ⟨R1.size, R1.mlen, R1.blen, by simp [hE2n, hn], fun q vq hq => ?_, fun s' cs' hs' => (R1.boxes s' cs' hs').mono PS hs1 (by simp) (by simp), fun i' ob hi => ?_, fun b1 o1 hb1 => ?_⟩
        · have h0 := R1.regs q vq hq
          by_cases hqt : t0 = q
          · subst hqt
            have hlt0 : t0 < (st.release y).tm.length := by
              have := (Array.getElem?_eq_some_iff.1 hq).1
              rw [act_put_size] at this
              rw [← R0.size]; exact this
            have hg : (St.get { (st.release y).put (some t0) .undef .val with sg := st.sg ++ [SObj.opn sz ds es] } t0) = (.undef, .val) := put_get_same hlt0 R0.mlen
            rw [hg]
            simp only [RR, RM1, RV]
          · exact h0.mono PS hs1 (by simp; exact fun hh => absurd hh.symm hqt) (by simp)
        · by_cases hlt : i' < st.sg.length
          · have hi : ((st.release y).put (some t0) .undef .val).sg[i']? = some ob := by
              have hi : (st.sg ++ [SObj.opn sz ds es])[i']? = some ob := hi
              rw [List.getElem?_append_left hlt] at hi
              rw [put_sg, sgR]; exact hi
            exact (R1.objs i' ob hi).mono PS hs1 (by rw [← R1.n]; exact (List.getElem?_eq_some_iff.1 hi).1) (by simp) (by simp)
          · have hi : (st.sg ++ [SObj.opn sz ds es])[i']? = some ob := hi
            have hi1 : i' = st.sg.length := by
              have := (List.getElem?_eq_some_iff.1 hi).1
              simp at this; omega
            subst hi1
            simp only [List.getElem?_append_right (Nat.le_refl _), Nat.sub_self, List.getElem?_cons_zero, Option.some.injEq] at hi
            subst hi
            rw [hn]
            obtain ⟨c', q1, q2, q3⟩ := S.ex
            have hf1 := f1
            have hg1 := g1
            subst hf1
            refine opn_RO (cap := cap) (all' := all') oE bE tE hpos q1 (by omega) (by rw [q2]; exact c2) (fun o' h3 h4 => ⟨?_, (c3 o' h3 h4).2⟩) (fun j d hd => ?_) ((g4.mono hle0).mono hs1) fun j u hu => ?_
            · show (if _ then _ else _) = _
              rw [if_pos ⟨rfl, h3, h4⟩]
              rfl
            · obtain ⟨b0, len0, cap0, hv0, -, -, -, hel⟩ := RV_list e1d
              rw [ev] at hv0
              simp only [Value.slice.injEq] at hv0
              obtain ⟨rfl, -, -⟩ := hv0
              exact ((RElems_iff.1 (hel.2 p rfl).2 j d hd).mono hle0).mono hs1
            · have hjl : j < all'.length := (List.getElem?_eq_some_iff.1 hu).1
              rw [q3, if_pos (by omega), ← hu]
              congr 1
              omega
        · have hb2 : w.heap.size ≤ b1 := by rw [← S.size]; exact hb1
          show (if _ then _ else _) = _
          rw [if_neg]
          · exact R1.fresh b1 o1 hb2
          · rintro ⟨rfl, -⟩
            have := (Array.getElem?_eq_some_iff.1 c1).1
            omega
      refine wp_value (hrun _ _ hr') (T _ _ _ w' H ?_ (P0.trans (PS.weaken (by rintro T rfl; simp [Ours]))) S.out)
      rw [hdst]
      have R3 := R2.put (dst := some t0) (d := .undef) (m := .arr st.sg.length sz 0 (ds.length + es.length)) (v := .slice (some p) (len + len') cap) fun t1 ht1 => by
        refine RR.of_RM1 ⟨⟨by rw [hE2n, hn]; omega, by rw [hn]; exact if_pos rfl⟩, some p, cap, by rw [f1, g1], fun _ => ?_, by omega, by simp, fun q hq => ?_, fun _ => ?_⟩
        · rw [hn, oE, bE, Nat.zero_mul, Nat.add_zero, ← hp]
        · simp only [Option.some.injEq] at hq; rw [← hq, hp]
        · rw [hn, bE, tE, Nat.zero_add]; exact Nat.le_refl _
      rw [act_put_put] at R3
      have e3 : St.put { (st.release y).put (some t0) .undef .val with sg := st.sg ++ [SObj.opn sz ds es] } (some t0) .undef (.arr st.sg.length sz 0 (ds.length + es.length)) = St.put { st.release y with sg := st.sg ++ [SObj.opn sz ds es] } (some t0) .undef (.arr st.sg.length sz 0 (ds.length + es.length)) := by
        simp [St.put, List.set_set]
      rwa [e3] at R3
  · -- a new block
    obtain ⟨nc, hnc, hr'⟩ := run_append_grow (ty := o.type) (b := b) hu hu' hinf hlenOf (by rw [hinfsz]; exact g7) (by rw [hinfsz, ← ev]; exact f7) hzv hfit (by omega) hbytes
    rw [← ev] at hr'
    have hal : all.length = len * sz := by rw [f4.1, f1]
    have hal' : all'.length = len' * sz := by rw [g4.1, g1]
    have hz' : (Builtin.zeroCells zv.cells (nc - (len + len'))).toList.length = (nc - (len + len')) * sz := by simp [Builtin.zeroCells, hzs]
    have htot : (len + len') * sz + (nc - (len + len')) * sz = nc * sz := by rw [← Nat.add_mul]; congr 1; omega
    have hmul2 : (len + len') * sz = len * sz + len' * sz := Nat.add_mul _ _ _
    generalize hzc : (Builtin.zeroCells zv.cells (nc - (len + len'))).toList = zc at hr' hz'
    let E2 := E.opnNew w.heap.size (len * sz) (nc * sz)
    have hE2n : E2.n = E.n + 1 := rfl
    have oE : E2.obj E.n = w.heap.size := if_pos rfl
    have bE : E2.base E.n = 0 := if_pos rfl
    have tE : E2.top E.n = nc * sz := if_pos rfl
    have P1 : Pr (fun _ => False) E w.heap E2 (w.heap.push (.cells (all ++ all' ++ zc).toArray e)) := by
      refine Pr.push (fun b1 o1 hb1 _ => ?_) (Nat.le_succ _) (fun i hi _ => ?_) (fun _ _ => rfl) (ver_new rfl)
      · show (if _ then _ else _) = _
        rw [if_neg (by omega)]
      · have hi' : i ≠ E.n := Nat.ne_of_lt hi
        refine ⟨?_, ?_, ?_⟩ <;> (show (if _ then _ else _) = _; rw [if_neg hi'])
    have hs1 := P1.shut (by simp) Rl.fresh
    have R0 : Rel E (st.release y) a w.heap := Rl.release (x := y) (f := id) fun _ _ => rfl
    have sgR : (st.release y).sg = st.sg := by cases y <;> rfl
    have hcell : ∀ (j : Nat), hc (w.heap.push (.cells (all ++ all' ++ zc).toArray e)) w.heap.size j = (all ++ all' ++ zc)[j]? := fun j => by rw [hc_new]; simp
    have R2 : Rel E2 { st.release y with sg := st.sg ++ [SObj.opn sz ds es] } a (w.heap.push (.cells (all ++ all' ++ zc).toArray e)) := by
      refine ⟨R0.size, R0.mlen, R0.blen, by simp [hE2n, hn], fun q vq hq => (R0.regs q vq hq).mono P1 hs1 (by simp) (by simp), fun s' cs' hs' => (R0.boxes s' cs' hs').mono P1 hs1 (by simp) (by simp), fun i' ob hi => ?_, fun b1 o1 hb1 => ?_⟩
      · by_cases hlt : i' < st.sg.length
        · have hi : (st.release y).sg[i']? = some ob := by
            have hi : (st.sg ++ [SObj.opn sz ds es])[i']? = some ob := hi
            rw [List.getElem?_append_left hlt] at hi
            rw [sgR]; exact hi
          exact (R0.objs i' ob hi).mono P1 hs1 (by rw [← R0.n]; exact (List.getElem?_eq_some_iff.1 hi).1) (by simp) (by simp)
        · have hi : (st.sg ++ [SObj.opn sz ds es])[i']? = some ob := hi
          have hi1 : i' = st.sg.length := by
            have := (List.getElem?_eq_some_iff.1 hi).1
            simp at this; omega
          subst hi1
          simp only [List.getElem?_append_right (Nat.le_refl _), Nat.sub_self, List.getElem?_cons_zero, Option.some.injEq] at hi
          subst hi
          rw [hn]
          have hf1 := f1
          subst hf1
          refine opn_RO (cap := nc) (all' := all') oE bE (by rw [tE, Nat.zero_add]) hpos push_new (by omega) (by simp; omega) (fun o' h3 h4 => ⟨?_, by simp⟩) (fun j d hd => ?_) (g4.mono hs1) fun j u hu => ?_
          · show (if _ then _ else _) = _
            rw [if_pos rfl, if_neg (by omega), if_pos (by omega)]
          · obtain ⟨vs, v1, v2, v3⟩ := f4.2 j d hd
            refine ⟨vs, v1, fun y' u hu => ?_, v3.mono hs1⟩
            have hy' : y' < sz := by have := (List.getElem?_eq_some_iff.1 hu).1; omega
            have h5 := v2 y' u hu
            have h6 : j * sz + y' < all.length := (List.getElem?_eq_some_iff.1 h5).1
            refine ⟨?_, ?_⟩
            · rw [Nat.zero_add, hcell, List.append_assoc, List.getElem?_append_left h6]
              exact h5
            · show (if _ then _ else _) = _
              rw [if_pos rfl, Nat.zero_add, if_pos (by omega)]
          · have hjl : j < all'.length := (List.getElem?_eq_some_iff.1 hu).1
            rw [Nat.zero_add, List.getElem?_toArray, List.append_assoc, List.getElem?_append_right (by omega), List.getElem?_append_left (by omega), ← hu]
            congr 1
            omega
      · simp only [Array.size_push] at hb1
        show (if _ then _ else _) = _
        rw [if_neg (by omega)]
        exact Rl.fresh b1 o1 (by omega)
    refine wp_value (hrun _ _ hr') (T _ _ _ (w.drew.alloc (.cells (all ++ all' ++ zc).toArray e)) H ?_ (P1.weaken (by simp)))
    rw [hdst]
    refine R2.put fun t1 ht1 => ?_
    refine RR.of_RM1 ⟨⟨by rw [hE2n, hn]; omega, by rw [hn]; exact if_pos rfl⟩, some ⟨w.heap.size, 0, none⟩, nc, by rw [f1, g1], fun _ => ?_, by omega, by simp, fun q hq => ?_, fun _ => ?_⟩
    · rw [hn, oE, bE, Nat.zero_mul, Nat.add_zero]
    · simp only [Option.some.injEq] at hq; rw [← hq]
    · rw [hn, bE, tE, Nat.zero_add, Nat.zero_add]; exact Nat.le_refl _

/-- Where the tags of an array go. -/
def Env.shutObj (E : Env) (i lo : Nat) (tg : Tag) : Env := { E with O := fun b o => if E.O b o = .obj i then (if o < lo then .shut else tg) else E.O b o }

theorem shutObj_Pr (E : Env) (h : Heap) (i lo : Nat) (tg : Tag) : Pr (fun T => T = .obj i) E h (E.shutObj i lo tg) h := by
  refine ⟨Nat.le_refl _, fun _ _ => KeepBlk.refl _ _, fun b o _ hT => ?_, Nat.le_refl _, fun _ _ _ => ⟨rfl, rfl, rfl⟩, fun _ _ => rfl, ver_same rfl⟩
  show (if _ then _ else _) = _
  rw [if_neg hT]

/-- What its slice holds then. -/
theorem shutObj_list {h : Heap} {i sz : Nat} {pre ds : List DV} {tg : Tag} {v : Value} (hf : ∀ b o, h.size ≤ b → E.O b o = .other) (H : RO E h i (.opn sz pre ds)) (G : RM1 E h tg .undef (.arr i sz 0 (pre.length + ds.length)) v) (hne : 0 < pre.length + ds.length) (tg' : Tag) :
    RM1 (E.shutObj i (E.base i + (pre.length + ds.length) * sz) tg') h tg' (.list sz (pre ++ ds)) .own v := by
  have P := shutObj_Pr E h i (E.base i + (pre.length + ds.length) * sz) tg'
  have hle := P.shut (by simp) hf
  simp only [RO] at H
  obtain ⟨c, T, f, h1, h2, h2', hz, h3, h4, h5⟩ := H
  simp only [RM1] at G
  obtain ⟨g1, b, cap, rfl, g2, g3, g4, g5, g6⟩ := G
  have g2 := g2 hne
  have g6 := g6 hne
  subst g2
  simp only [Nat.zero_mul, Nat.add_zero, Nat.zero_add] at g6 ⊢
  have q0 : (pre.length + ds.length) * sz ≤ cap * sz := Nat.mul_le_mul_right _ g3
  refine ⟨?_, sz, pre ++ ds, rfl, fun p len1 cap1 hq hlt => ?_⟩
  · refine RV_list_mk (by simp) g3 (by simp) (fun _ => hz) fun p hp => ?_
    simp only [Option.some.injEq] at hp
    subst hp
    refine ⟨fun _ => rfl, RElems_iff.2 fun j d hd => ?_⟩
    by_cases hj : j < pre.length
    · rw [List.getElem?_append_left hj] at hd
      exact (h4 j d hd).mono hle
    · rw [List.getElem?_append_right (by omega)] at hd
      have hjd : j - pre.length < ds.length := (List.getElem?_eq_some_iff.1 hd).1
      obtain ⟨vs, v1, v2, v3⟩ := h5 _ d hd
      have ej : pre.length + (j - pre.length) = j := by omega
      rw [ej] at v2
      refine ⟨vs, v1, fun y u hu => ?_, v3.mono hle⟩
      have hy : y < sz := by have := (List.getElem?_eq_some_iff.1 hu).1; omega
      have q1 : pre.length * sz ≤ j * sz := Nat.mul_le_mul_right _ (by omega)
      have q2 : j * sz + y < (pre.length + ds.length) * sz := by
        calc j * sz + y < j * sz + sz := by omega
          _ = (j + 1) * sz := by rw [Nat.succ_mul]
          _ ≤ (pre.length + ds.length) * sz := Nat.mul_le_mul_right _ (by omega)
      refine ⟨?_, ?_⟩
      · unfold hc
        rw [h1]
        exact v2 y u hu
      · have e0 : (E.shutObj i (E.base i + (pre.length + ds.length) * sz) tg').O (E.obj i) (E.base i + j * sz + y) = .shut := by
          show (if _ then _ else _) = _
          rw [if_pos (h3 (E.base i + j * sz + y) (by omega) (by omega)).1, if_pos (by omega)]
        exact e0
  · simp only [Value.slice.injEq, Option.some.injEq] at hq
    obtain ⟨rfl, rfl, rfl⟩ := hq
    refine ⟨c, T, f, h1, by simp only; omega, fun o' h6 h7 => ?_⟩
    simp only at h6 h7
    have q1 : pre.length * sz ≤ (pre.length + ds.length) * sz := Nat.mul_le_mul_right _ (by omega)
    obtain ⟨q2, q3⟩ := h3 o' (by omega) (by omega)
    refine ⟨?_, q3⟩
    show (if _ then _ else _) = _
    rw [if_pos q2, if_neg (by omega)]

theorem closeObj_some {q : Nat × List DV × List DV} {sz len : Nat} {d : DV} (h : closeObj q sz len = some d) : q.1 = sz ∧ q.2.1.length + q.2.2.length = len ∧ 0 < len ∧ d = .list sz (q.2.1 ++ q.2.2) := by
  unfold closeObj at h
  obtain ⟨⟨h1, h2, h3⟩, h⟩ := ite_some h
  simp only [Option.some.injEq] at h
  exact ⟨h1, h2, h3, h.symm⟩

theorem closeSt_ok {r : Nat} {h : Heap} (H : closeSt r st k = some x) (Rl : Rel E st a h) : ∃ E' st', k st' = some x ∧ Rel E' st' a h ∧ Pr Ours E h E' h := by
  unfold closeSt at H
  split at H
  · rename_i i sz len hm
    obtain ⟨q, hq, H1⟩ := ob_some H
    obtain ⟨d, hd, H9⟩ := ob_some H1
    clear H H1
    obtain ⟨sz', pre, ds⟩ := q
    obtain ⟨c1, c2, c3, rfl⟩ := closeObj_some hd
    simp only at c1 c2
    subst c1 c2
    have hq := sgOpn_some hq
    have B := Rl.objs i _ hq
    have hi : i < E.n := by rw [← Rl.n]; exact (List.getElem?_eq_some_iff.1 hq).1
    have hilt := (List.getElem?_eq_some_iff.1 hq).1
    let E' := E.shutObj i (E.base i + (pre.length + ds.length) * sz') (.sp 0 r 0)
    have P : Pr (fun T => T = .obj i) E h E' h := shutObj_Pr E h i _ _
    have hle := P.shut (by simp) Rl.fresh
    refine ⟨E', _, H9, ?_, P.weaken (by rintro T rfl; simp [Ours])⟩
    refine ⟨by rw [put_tm]; exact Rl.size, by rw [put_tm, put_mt]; exact Rl.mlen, by rw [put_tm, put_bx]; exact Rl.blen, ?_, fun t v hv => ?_, fun s cs hs => ?_, fun j ob hj => ?_, fun b o hb => ?_⟩
    · rw [put_sg, List.length_set]; exact Rl.n
    · have h0 := Rl.regs t v hv
      by_cases ht : r = t
      · subst ht
        have hlt : r < st.tm.length := by
          have := (Array.getElem?_eq_some_iff.1 hv).1
          rw [← Rl.size]; exact this
        rw [put_get_same (st := { st with sg := st.sg.set i (.arr 1 []) }) hlt Rl.mlen]
        rw [hm] at h0
        simp only [RR] at h0
        exact RR.of_RM1 (shutObj_list (tg := .sp 0 r 0) Rl.fresh B (by simpa only [RM1] using h0) c3 _)
      · rw [put_get_other ht]
        exact h0.mono P hle (by simp) (by simp)
    · rw [put_bx] at hs
      exact (Rl.boxes s cs hs).mono P hle (by simp) (by simp)
    · rw [put_sg] at hj
      by_cases hij : i = j
      · subst hij
        rw [List.getElem?_set_self hilt] at hj
        simp only [Option.some.injEq] at hj
        subst hj
        exact fun hne => absurd rfl hne
      · rw [List.getElem?_set_ne hij] at hj
        exact (Rl.objs j ob hj).mono P hle (by rw [← Rl.n]; exact (List.getElem?_eq_some_iff.1 hj).1) (by simp; exact fun h => hij h.symm) (by simp)
    · show (if _ then _ else _) = _
      rw [Rl.fresh b o hb, if_neg (by simp)]
  · rename_i b off hm
    obtain ⟨cs, hcs, H1⟩ := ob_some H
    obtain ⟨q0, hca, H2⟩ := ob_some H1
    obtain ⟨q, hq, H3⟩ := ob_some H2
    obtain ⟨d, hd, H9⟩ := ob_some H3
    clear H H1 H2 H3
    obtain ⟨i, sz, len⟩ := q0
    obtain ⟨sz', pre, ds⟩ := q
    obtain ⟨c1, c2, c3, rfl⟩ := closeObj_some hd
    simp only at c1 c2 H9 hq
    subst c1 c2
    have hq := sgOpn_some hq
    have hcs := sgBox_some hcs
    have B := Rl.objs i _ hq
    have BX := Rl.objs b _ hcs
    have hilt := (List.getElem?_eq_some_iff.1 hq).1
    have hblt := (List.getElem?_eq_some_iff.1 hcs).1
    have hib : i ≠ b := by rintro rfl; rw [hq] at hcs; cases hcs
    obtain ⟨d0, hoff⟩ : ∃ d0, cs[off]? = some (d0, .arr i sz' 0 (pre.length + ds.length)) := by
      unfold cellArr at hca
      split at hca
      · rename_i d0 i0 sz0 len0 heq
        simp only [Option.some.injEq, Prod.mk.injEq] at hca
        obtain ⟨rfl, rfl, rfl⟩ := hca
        exact ⟨d0, heq⟩
      · cases hca
    let E' := E.shutObj i (E.base i + (pre.length + ds.length) * sz') (.sp 2 b off)
    have P : Pr (fun T => T = .obj i) E h E' h := shutObj_Pr E h i _ _
    have hle := P.shut (by simp) Rl.fresh
    refine ⟨E', _, H9, ?_, P.weaken (by rintro T rfl; simp [Ours])⟩
    refine ⟨Rl.size, Rl.mlen, Rl.blen, ?_, fun t v hv => (Rl.regs t v hv).mono P hle (by simp) (by simp), fun s cs' hs => (Rl.boxes s cs' hs).mono P hle (by simp) (by simp), fun j ob hj => ?_, fun b' o hb => ?_⟩
    · simp only [List.length_set]; exact Rl.n
    · by_cases hij : i = j
      · subst hij
        rw [List.getElem?_set_self (by simpa using hilt)] at hj
        simp only [Option.some.injEq] at hj
        subst hj
        exact fun hne => absurd rfl hne
      · rw [List.getElem?_set_ne hij] at hj
        by_cases hbj : b = j
        · subst hbj
          rw [List.getElem?_set_self hblt] at hj
          simp only [Option.some.injEq] at hj
          subst hj
          simp only [RO] at BX ⊢
          have hofflt := (List.getElem?_eq_some_iff.1 hoff).1
          obtain ⟨c, T, e1, e2, e3, e4⟩ := BX.mono P hle (by simp; exact fun h => hib h.symm) (by simp)
          refine ⟨c, T, e1, by simpa using e2, e3, fun y r' v hr hv => ?_⟩
          by_cases hy : off = y
          · subst hy
            rw [List.getElem?_set_self hofflt] at hr
            simp only [Option.some.injEq] at hr
            subst hr
            obtain ⟨c0, T0, f1, f2, f3, f4⟩ := BX
            have hcc : c0 = c := by
              have e1' : h[E.obj b]? = some (.cells c T (0, 0)) := e1
              rw [f1] at e1'
              simp only [Option.some.injEq, Obj.cells.injEq] at e1'
              exact e1'.1
            subst hcc
            obtain ⟨g1, g2, g3, g4⟩ := f4 off _ v hoff hv
            exact ⟨rfl, g2, rfl, shutObj_list (tg := .sp 2 b off) Rl.fresh B (by simpa only [RM1] using g4) c3 _⟩
          · rw [List.getElem?_set_ne hy] at hr
            exact e4 y r' v hr hv
        · rw [List.getElem?_set_ne hbj] at hj
          exact (Rl.objs j ob hj).mono P hle (by rw [← Rl.n]; exact (List.getElem?_eq_some_iff.1 hj).1) (by simp; exact fun h => hij h.symm) (by simp)
    · show (if _ then _ else _) = _
      rw [Rl.fresh b' o hb, if_neg (by simp)]
  · cases H

theorem closeAt_ok {fl : Flags} {id : Nat} {h : Heap} (H : closeAt fl id st k = some x) (Rl : Rel E st a h) : ∃ E' st', k st' = some x ∧ Rel E' st' a h ∧ Pr Ours E h E' h := by
  unfold closeAt at H
  split at H
  · exact closeSt_ok H Rl
  · exact ⟨E, st, H, Rl, Pr.refl _ _ _⟩

end
end Go.Su

/-
  THE DATA MACHINE, part 17: calls.
-/
namespace Go.Su

structure Ext (S : Seal) (h : Heap) (S' : Seal) (h' : Heap) : Prop where
  size : h.size ≤ h'.size
  blk : ∀ b, b < h.size → h'[b]? = h[b]?
  s : ∀ b o, b < h.size → (S' b o ↔ S b o)
  fresh : ∀ b o, h'.size ≤ b → ¬ S' b o

/-- A plain function: data go in, data come out; nothing that was there has changed. -/
def PureOk (P : Program) (f : FuncId) (ds : List DV) (d : DV) : Prop :=
  ∀ (S : Seal) (w : World) (vs : List Value), (∀ b o, w.heap.size ≤ b → ¬ S b o) → RVs S w.heap ds vs →
    Calls P f vs.toArray w fun e w' => ∃ v S', e = .returned v ∧ Ext S w.heap S' w'.heap ∧ RV S' w'.heap d v ∧ Outer w w'

def RRes1 (E : Env) (h : Heap) (i : Nat) (k : MK) (d : DV) (v : Value) : Prop :=
  match k with
  | .val => RV E.S h d v
  | .own => RM1 E h (.sp 3 i 0) d .own v
  | .ptr => RM1 E h .other (resReg .ptr d).1 (resReg .ptr d).2 v
  | .aggo n os => RR E h 3 i d (.aggm ((List.range n).map fun i => if os.contains i then .own else .val)) v

def RRes (E : Env) (h : Heap) (ks : List MK) (ds : List DV) (v : Value) : Prop :=
  ds.length = ks.length ∧ ∃ vs : List Value, vs.length = ks.length ∧ v = (match vs with | [u] => u | _ => .tuple vs.toArray) ∧
    ∀ (i : Nat) k d u, ks[i]? = some k → ds[i]? = some d → vs[i]? = some u → RRes1 E h i k d u

/-- A function that is handed references. -/
def RawOk (P : Program) (f : FuncId) (s : Sig) (rs : List (DV × Meta)) (sg : List SObj) (q : List DV × List SObj) : Prop :=
  ∀ (E : Env) (w : World) (vs : List Value), (∀ b o, w.heap.size ≤ b → E.O b o = .other) → sg.length = E.n → (∀ (i : Nat) ob, sg[i]? = some ob → RO E w.heap i ob) → vs.length = rs.length →
    (∀ (i : Nat) r v, rs[i]? = some r → vs[i]? = some v → RR E w.heap 0 i r.1 r.2 v) →
    Calls P f vs.toArray w fun e w' => Outer w w' ∧ ∃ v E', e = .returned v ∧ Pr Ours E w.heap E' w'.heap ∧ (∀ b o, w'.heap.size ≤ b → E'.O b o = .other) ∧ q.2.length = E'.n ∧ (∀ (i : Nat) ob, q.2[i]? = some ob → RO E' w'.heap i ob) ∧ RRes E' w'.heap s.results q.1 v

/-- The same, of a deferred call. -/
def RawOkD (P : Program) (f : FuncId) (s : Sig) (rs : List (DV × Meta)) (sg : List SObj) (q : List DV × List SObj) : Prop :=
  ∀ (E : Env) (w : World) (vs : List Value), (∀ b o, w.heap.size ≤ b → E.O b o = .other) → sg.length = E.n → (∀ (i : Nat) ob, sg[i]? = some ob → RO E w.heap i ob) → vs.length = rs.length →
    (∀ (i : Nat) r v, rs[i]? = some r → vs[i]? = some v → RR E w.heap 0 i r.1 r.2 v) →
    ∀ u, CallsDIn Fence.wide 0 P f vs.toArray u w fun e u' w' => u' = u ∧ Outer w w' ∧ ∃ v E', e = .returned v ∧ Pr Ours E w.heap E' w'.heap ∧ (∀ b o, w'.heap.size ≤ b → E'.O b o = .other) ∧ q.2.length = E'.n ∧ (∀ (i : Nat) ob, q.2[i]? = some ob → RO E' w'.heap i ob) ∧ RRes E' w'.heap s.results q.1 v

/-- A function of the program that is no entry of the model's own. -/
def isGo (P : Program) (f : FuncId) : Bool :=
  match P.funcs[f]? with
  | some fn => fn.name != "runtime.NumGoroutine" && fn.body.isSome
  | none => false

/-- A function that gives its list in an array of its own. -/
def CloneOk (P : Program) (f : FuncId) (sz : Nat) : Prop :=
  ∀ (S : Seal) (w : World) (v : Value) (ds : List DV), ds.length ≤ lim → (∀ b o, w.heap.size ≤ b → ¬ S b o) → RV S w.heap (.list sz ds) v →
    Calls P f #[v] w fun e w' => ∃ (a : Option Addr) (b off cap : Nat), e = .returned (.slice a ds.length cap) ∧ (ds ≠ [] → a = some ⟨b, off, none⟩) ∧ ds.length ≤ cap ∧ (a = none → cap = 0) ∧ (∀ x, a = some x → x.spot = none) ∧ w.heap.size ≤ w'.heap.size ∧ Outer w w' ∧ (∀ b', b' < w.heap.size → w'.heap[b']? = w.heap[b']?) ∧
      (ds ≠ [] → w.heap.size ≤ b ∧ ∃ c T, w'.heap[b]? = some (.cells c T (0, 0)) ∧ off + ds.length * sz ≤ c.size ∧ 0 < sz ∧
        ∀ (j : Nat) d, ds[j]? = some d → ∃ vs : List Value, vs.length = sz ∧ (∀ (x : Nat) u, vs[x]? = some u → c[off + j * sz + x]? = some u) ∧ RC S w'.heap d vs)

/-- A function that gives an iterator over its argument: a new variable holds it. -/
def MkOk (P : Program) (f g : FuncId) (n : Nat) : Prop :=
  ∀ (w : World) (vs : Array Value), vs.size = n → Calls P f #[.agg vs] w fun e w' => e = .returned (.func (.func g) #[] #[.pointer (some ⟨w.heap.size, 0, none⟩)]) ∧ ∃ T, w' = w.alloc (.cells vs T)

/-- What an iterator does to memory: it lays variables of its own, and writes into them. -/
structure ItLe (n : Nat) (E : Env) (w w' : World) : Prop where
  size : w.heap.size ≤ w'.heap.size
  blk : ∀ b, b < w.heap.size → w'.heap[b]? = w.heap[b]? ∨ (n ≤ b ∧ (∃ c T f c', w.heap[b]? = some (.cells c T f) ∧ w'.heap[b]? = some (.cells c' T f) ∧ c'.size = c.size) ∧ ∀ o, E.O b o = .other)
  out : Outer w w'

/-- A closure that is an iterator: whatever the rounds keep of their own (`J`), it hands them its elements one by one. -/
def IterOk (P : Program) (g : FuncId) (it : List DV → Option (List DV)) : Prop :=
  ∀ (cs ds : List DV), it cs = some ds → ∀ (n l b : Nat) (c : Array Value) (T0 : TypeId) (J : Nat → Env → World → Prop) (Jx : World → Prop) (E : Env) (W : World),
    W.heap[b]? = some (.cells c T0 (0, 0)) → (∀ o, o < c.size → E.O b o = .other) → RLs E.S W.heap cs c.toList →
    (∀ k E' W', J k E' W' → ∀ b o, W'.heap.size ≤ b → E'.O b o = .other) →
    (∀ k E' W1 W2, J k E' W1 → ItLe W.heap.size E' W1 W2 → J k E' W2) →
    (∀ k E' W1 d v, J k E' W1 → ds[k]? = some d → RV E'.S W1.heap d v → YieldAt Fence.wide n P l #[v] W1 fun e W2 =>
      (e = .returned (.bool true) ∧ ∃ E2, J (k + 1) E2 W2 ∧ Pr Ours E' W1.heap E2 W2.heap) ∨ (e = .returned (.bool false) ∧ Jx W2)) →
    J 0 E W → CallsIn Fence.wide n P g #[.func (.yield l) #[] #[], .pointer (some ⟨b, 0, none⟩)] W fun e W' => (∃ v, e = .returned v) ∧ ((∃ E', J ds.length E' W') ∨ Jx W')

structure OrcOk (C : Cfg) (R : Orc) : Prop where
  p : ∀ f ds d, R.p f ds = some d → isGo C.P f = true ∧ PureOk C.P f ds d
  r : ∀ f rs sg q, R.r f rs sg = some q → ∃ s, C.sig f = some s ∧ isGo C.P f = true ∧ RawOk C.P f s rs sg q
  c : ∀ f, C.clone f = true → isGo C.P f = true ∧ CloneOk C.P f (C.csz f)
  m : ∀ f g, C.mki f = some g → isGo C.P f = true ∧ MkOk C.P f g (C.csz f)
  i : ∀ g it, C.iter g = some it → isGo C.P g = true ∧ IterOk C.P g it
  d : ∀ f rs sg q, C.dfn f = true → R.r f rs sg = some q → ∃ s, C.sig f = some s ∧ isGo C.P f = true ∧ RawOkD C.P f s rs sg q

structure TagLe (E E' : Env) (tg tg' : Tag) : Prop where
  hs : ∀ b o, E.O b o = .shut → E'.O b o = .shut
  ht : ∀ b o, E.O b o = tg → E'.O b o = tg'
  obj : E'.obj = E.obj
  base : E'.base = E.base
  n : E'.n = E.n
  top : E'.top = E.top
  ver : E'.ver = E.ver

theorem TagLe.le {E E' : Env} {tg tg' : Tag} {h : Heap} (T : TagLe E E' tg tg') : SealLe E.S h E'.S h := ⟨fun b o hs => T.hs b o hs, fun _ _ _ _ hv => hv⟩

theorem RM1.to {E E' : Env} {h : Heap} {tg tg' : Tag} {d : DV} {m : Meta} {v : Value} (T : TagLe E E' tg tg') (hl : ∀ s o, m ≠ .loc s o) (R : RM1 E h tg d m v) : RM1 E' h tg' d m v := by
  have hle := T.le (h := h)
  have hI : E'.In = E.In := by funext i; simp only [Env.In, T.n, T.ver]
  cases m <;> simp only [RM1] at R ⊢
  case val => exact R.mono hle
  case full => exact ⟨R.1.mono hle, R.2⟩
  case own =>
    obtain ⟨r1, sz, ds, r2, r3⟩ := R
    refine ⟨r1.mono hle, sz, ds, r2, fun x len cap hv hlt => ?_⟩
    obtain ⟨c, T', g, e1, e2, e3⟩ := r3 x len cap hv hlt
    refine ⟨c, T', g, e1, e2, fun o ho ho' => ?_⟩
    obtain ⟨e4, e5⟩ := e3 o ho ho'
    exact ⟨T.ht _ _ e4, e5⟩
  case loc s o => exact absurd rfl (hl s o)
  case rop ag sz o =>
    obtain ⟨b, o0, r1, r2, r3⟩ := R
    exact ⟨b, o0, r1, r2.mono hle, r3⟩
  case ptr i o => rw [T.obj, hI]; exact R
  case nilp => exact R
  case map i => rw [T.obj, hI]; exact R
  case nilm => exact R
  case arr i sz off len => rw [T.obj, hI, T.base, T.top]; exact R
  case opt i sz idx => rw [T.obj, hI, T.base]; exact R
  case ept i sz idx o => rw [T.obj, hI, T.base]; exact R
  case vec i n sz len => rw [T.obj, T.n, T.base, T.top, T.ver]; exact R
  case vpt i n sz idx o => rw [T.obj, T.n, T.base, T.ver]; exact R
  case fn f caps => rw [T.obj, hI]; exact R

theorem RO.to {E E' : Env} {h : Heap} {i : Nat} {ob : SObj} (T : TagLe E E' (.obj i) (.obj i)) (hs : ∀ j b o, E.O b o = .sp 2 i j → E'.O b o = .sp 2 i j) (R : RO E h i ob) : RO E' h i ob := by
  have hle := T.le (h := h)
  cases ob with
  | box cs =>
    simp only [RO] at R ⊢
    obtain ⟨c, T0, h1, h2, h3, h4⟩ := R
    rw [T.obj]
    refine ⟨c, T0, h1, h2, fun o => ?_, fun j r v hr hv => ?_⟩
    · rcases h3 o with h5 | h5
      · exact .inl (T.ht _ _ h5)
      · exact .inr h5
    · obtain ⟨a1, a2, a3, a4⟩ := h4 j r v hr hv
      exact ⟨a1, a2, a3, a4.to ⟨T.hs, hs j, T.obj, T.base, T.n, T.top, T.ver⟩ fun s o hm => by rw [hm] at a3; simp [mayLie] at a3⟩
  | arr sz ds =>
    simp only [RO] at R ⊢
    intro hne
    obtain ⟨c, T0, h1, h2, h3, h4, h5⟩ := R hne
    rw [T.obj, T.base]
    refine ⟨c, T0, h1, h2, h3, fun o q1 q2 => T.ht _ _ (h4 o q1 q2), fun j d hd => ?_⟩
    obtain ⟨vs, v1, v2, v3⟩ := h5 j d hd
    exact ⟨vs, v1, v2, v3.mono hle⟩
  | opn sz pre ds =>
    simp only [RO] at R ⊢
    obtain ⟨c, T0, f, h1, h2, h2', hz, h3, h4, h5⟩ := R
    rw [T.obj, T.base, T.top]
    refine ⟨c, T0, f, h1, h2, h2', hz, fun o q1 q2 => ⟨T.ht _ _ (h3 o q1 q2).1, (h3 o q1 q2).2⟩, fun j d hd => (h4 j d hd).mono hle, fun j d hd => ?_⟩
    obtain ⟨vs, v1, v2, v3⟩ := h5 j d hd
    exact ⟨vs, v1, v2, v3.mono hle⟩
  | vec n sz ds =>
    simp only [RO] at R ⊢
    obtain ⟨hv, hn, hz, R⟩ := R
    rw [T.obj, T.base, T.top, T.ver]
    refine ⟨hv, hn, hz, ?_⟩
    rcases R with R | ⟨c, T0, f, h1, h2, h2', h3, h5⟩
    · exact .inl R
    right
    refine ⟨c, T0, f, h1, h2, h2', fun o q1 q2 => ⟨T.ht _ _ (h3 o q1 q2).1, (h3 o q1 q2).2⟩, fun j d hd => ?_⟩
    obtain ⟨vs, v1, v2, v3⟩ := h5 j d hd
    exact ⟨vs, v1, v2, v3.mono hle⟩
  | map ks es =>
    simp only [RO] at R ⊢
    obtain ⟨ens, clk, h1, h2, ⟨h3, h4⟩, h5⟩ := R
    rw [T.obj]
    exact ⟨ens, clk, h1, fun o => T.ht _ _ (h2 o), ⟨h3, fun j e n g1 g2 => let ⟨a1, a2, a3⟩ := h4 j e n g1 g2; ⟨a1, a2.mono hle, a3.mono hle⟩⟩, h5⟩

/-- Other shared objects. -/
def St.setSg (st : St) (sg : List SObj) : St := { st with sg }

section
variable {X : Type} {C : Cfg} {R : Orc} {o : Oper} {st : St} {k : St → Option X} {x : X} {E : Env} {a : Act} {w : World} {K : Act → World → Prop} {Q : Exit → Act → World → Prop}

/-- Nothing of ours has changed. -/
theorem Rel.ext {E' : Env} {h h' : Heap} (Rl : Rel E st a h) (P : Pr (fun _ => False) E h E' h') (hn : E'.n = E.n) (hf : ∀ b o, h'.size ≤ b → E'.O b o = .other) : Rel E' st a h' := by
  have hle := P.shut (by simp) Rl.fresh
  exact ⟨Rl.size, Rl.mlen, Rl.blen, by rw [hn]; exact Rl.n, fun t v hv => (Rl.regs t v hv).mono P hle (by simp) (by simp), fun s cs hs => by rw [P.blks s (by simp)]; exact (Rl.boxes s cs hs).mono P hle (by simp) (by simp),
    fun i ob hi => (Rl.objs i ob hi).mono P hle (by rw [← Rl.n]; exact (List.getElem?_eq_some_iff.1 hi).1) (by simp) (by simp), hf⟩

open Classical in
/-- The caller's environment behind a plain call. -/
noncomputable def Env.after (E : Env) (n : Nat) (S' : Seal) : Env := { E with O := fun b o => if b < n then E.O b o else if S' b o then .shut else .other }

theorem after_Pr {h' : Heap} {S' : Seal} {h : Heap} (H : Ext E.S h S' h') : Pr (fun _ => False) E h (E.after h.size S') h' := by
  refine ⟨H.size, fun b hb => by rw [H.blk b hb]; exact KeepBlk.refl _ _, fun b o hb _ => ?_, Nat.le_refl _, fun _ _ _ => ⟨rfl, rfl, rfl⟩, fun _ _ => rfl, ver_same rfl⟩
  simp only [Env.after]; rw [if_pos hb]

theorem after_le {h' : Heap} {S' : Seal} {h : Heap} (H : Ext E.S h S' h') : SealLe S' h' (E.after h.size S').S h' := by
  refine ⟨fun b o hs => ?_, fun _ _ _ _ hv => hv⟩
  simp only [Env.S, Env.after]
  by_cases hb : b < h.size
  · rw [if_pos hb]; exact (H.s b o hb).1 hs
  · rw [if_neg hb, if_pos hs]

/-- An entry into a function of the program. -/
theorem wp_enter {f : FuncId} {args : Array Value} (hr : (execOp a.eval o).run C.P w = .ok (.enter f args) w) (hc : Calls C.P f args w fun e w' => ∃ v, e = .returned v ∧ K (a.put o.dst v) w') : Gp C.P o a w K :=
  .inr (.inr ⟨f, args, hr, hc⟩)

theorem run_callFunc {P : Program} {f : FuncId} (h : isGo P f = true) (args : Array Value) (w : World) : (callFunc f args).run P w = .ok (.enter f args) w := by
  unfold isGo at h
  split at h
  · rename_i fn hf
    simp only [Bool.and_eq_true, bne_iff_ne, ne_eq] at h
    unfold callFunc
    obtain ⟨c, hc⟩ := Option.isSome_iff_exists.1 h.2
    simp [hf, h.1, hc]
  · simp at h

theorem srcs_eval {P : Program} {ts : List TypeId} {xs : List Operand} {rs : List (DV × Meta)} (Rl : Rel E st a w.heap) (h : srcs P st ts xs = some rs) : rs.length = xs.length ∧ ∀ (i : Nat) r v, rs[i]? = some r → (xs.map a.eval)[i]? = some v →
    ∃ y t, xs[i]? = some y ∧ v = a.eval y ∧ src P t st y = some r ∧ RR E w.heap 0 (plc y) r.1 r.2 v := by
  obtain ⟨l1, l2⟩ := srcs_some h
  refine ⟨l1, fun i r v hr hv => ?_⟩
  simp only [List.getElem?_map, Option.map_eq_some_iff] at hv
  obtain ⟨y, hy, rfl⟩ := hv
  obtain ⟨t, ht⟩ := l2 i y r hy hr
  exact ⟨y, t, hy, rfl, ht, Rl.src ht⟩

theorem sim_pure {f : FuncId} {rs : List (DV × Meta)} {vs : List Value} (hO : OrcOk C R) (hrun : (execOp a.eval o).run C.P w = .ok (.enter f vs.toArray) w) (hl : rs.length = vs.length) (hrs : ∀ (i : Nat) r v, rs[i]? = some r → vs[i]? = some v → ∃ p q, RR E w.heap p q r.1 r.2 v)
    (H : og (rs.all fun r => isData r.2) (ob (R.p f (rs.map (·.1))) fun d => k (st.put o.dst d .val)) = some x) (Rl : Rel E st a w.heap) (T : Then E w k x K) : Gp C.P o a w K := by
  obtain ⟨hd, H⟩ := og_some H
  obtain ⟨d, hd2, H⟩ := ob_some H
  refine wp_enter hrun (((hO.p f _ d hd2).2 E.S w vs (fun b o hb hs => by have h9 := Rl.fresh b o hb; rw [show E.O b o = Tag.shut from hs] at h9; cases h9) (RVs_iff.2 ⟨by simpa using hl, fun i d' v hd' hv => ?_⟩)).mono ?_)
  · simp only [List.getElem?_map, Option.map_eq_some_iff] at hd'
    obtain ⟨r, hr, rfl⟩ := hd'
    obtain ⟨p, q, h⟩ := hrs i r v hr hv
    exact h.data (List.all_eq_true.1 hd r (List.mem_of_getElem? hr))
  · rintro e w' ⟨v, S', he, hE, hR, hout⟩
    have P1 := after_Pr hE
    refine ⟨v, he, T _ _ _ w' H ((Rl.ext P1 rfl fun b o hb => ?_).put fun t0 _ => ?_) (P1.weaken (by simp)) hout⟩
    · simp only [Env.after]
      have := hE.size
      rw [if_neg (by omega), if_neg (hE.fresh b o hb)]
    · exact RR.val (hR.mono (after_le hE))

/-- The tags as the callee sees them. -/
def callTag : Tag → Tag
  | .shut => .shut
  | .obj i => .obj i
  | .sp 2 i j => .sp 2 i j
  | .sp 4 i b => .sp 0 i b
  | _ => .other

/-- A result's tags in the caller's register. -/
def backTag (t : Nat) (one : Bool) : Tag → Tag
  | .shut => .shut
  | .obj i => .obj i
  | .sp 2 i j => .sp 2 i j
  | .sp 3 i 0 => .sp 0 t (if one then 0 else i + 1)
  | .sp 3 _ (b + 1) => if one then .sp 0 t (b + 1) else .other
  | _ => .other

open Classical in
noncomputable def Env.back (E E1 : Env) (n : Nat) (t : Nat) (one : Bool) : Env :=
  { E1 with blk := E.blk, O := fun b o => if b < n ∧ callTag (E.O b o) = .other then E.O b o else backTag t one (E1.O b o) }

def argTag (g : Option (Nat × Operand)) (T : Tag) : Tag :=
  match g with
  | some p => mvTag p.2 4 p.1 T
  | none => T

theorem ownPlace_some : ∀ {ks : List MK} {xs : List Operand} {i0 : Nat} {p : Nat × Operand}, ownPlace i0 ks xs = some p → i0 ≤ p.1 ∧ (∃ k, ks[p.1 - i0]? = some k ∧ isOwn k = true) ∧ xs[p.1 - i0]? = some p.2
  | [], xs, i0, p, h => by simp [ownPlace] at h
  | k :: ks, [], i0, p, h => by simp [ownPlace] at h
  | k :: ks, y :: xs, i0, p, h => by
    simp only [ownPlace] at h
    split at h
    · rename_i hk
      simp only [Option.some.injEq] at h
      subst h
      exact ⟨Nat.le_refl _, ⟨k, by simp, hk⟩, by simp⟩
    · obtain ⟨h1, h2, h3⟩ := ownPlace_some h
      have : p.1 - i0 = (p.1 - (i0 + 1)) + 1 := by omega
      exact ⟨by omega, by rw [this]; simpa using h2, by rw [this]; simpa using h3⟩

theorem ownPlace_first : ∀ {ks : List MK} {xs : List Operand} {i0 i : Nat} {k : MK} {y : Operand}, (ks.filter isOwn).length ≤ 1 → ks[i]? = some k → isOwn k = true → xs[i]? = some y → ownPlace i0 ks xs = some (i0 + i, y)
  | [], xs, i0, i, k, y, _, h, _, _ => by simp at h
  | k0 :: ks, [], i0, i, k, y, _, _, _, h => by simp at h
  | k0 :: ks, z :: xs, i0, 0, k, y, _, h, hk, h2 => by
    simp only [List.getElem?_cons_zero, Option.some.injEq] at h h2
    subst h h2
    simp [ownPlace, hk]
  | k0 :: ks, z :: xs, i0, i + 1, k, y, hl, h, hk, h2 => by
    simp only [List.getElem?_cons_succ] at h h2
    have hmem : k ∈ ks.filter isOwn := List.mem_filter.2 ⟨List.mem_of_getElem? h, hk⟩
    have hpos : 0 < (ks.filter isOwn).length := List.length_pos_of_mem hmem
    have hk0 : ¬ isOwn k0 = true := by
      intro h0
      simp only [List.filter_cons, h0, if_true, List.length_cons] at hl
      omega
    have := ownPlace_first (i0 := i0 + 1) (xs := xs) (by simpa [List.filter_cons, hk0] using hl) h hk h2
    simp only [ownPlace, if_neg hk0]
    rw [this]
    congr 2
    omega

theorem sigArgs_get : ∀ {ks : List MK} {rs : List (DV × Meta)} {i : Nat} {r : DV × Meta}, (sigArgs ks rs)[i]? = some r → ∃ r0, rs[i]? = some r0 ∧ r.1 = r0.1 ∧ ((∃ k, ks[i]? = some k ∧ isOwn k = true ∧ r.2 = ownArg r0.2 k) ∨ ((∀ k, ks[i]? = some k → isOwn k = false) ∧ r.2 = dmv r0.2))
  | [], rs, i, r, h => by
    simp only [sigArgs, List.getElem?_map, Option.map_eq_some_iff] at h
    obtain ⟨r0, h1, rfl⟩ := h
    exact ⟨r0, h1, rfl, .inr ⟨by simp, rfl⟩⟩
  | k :: ks, [], i, r, h => by simp [sigArgs] at h
  | k :: ks, r0 :: rs, 0, r, h => by
    simp only [sigArgs, List.getElem?_cons_zero, Option.some.injEq] at h
    subst h
    refine ⟨r0, rfl, rfl, ?_⟩
    cases k
    · exact .inr ⟨by simp [isOwn], rfl⟩
    · exact .inl ⟨_, rfl, rfl, rfl⟩
    · exact .inr ⟨by simp [isOwn], rfl⟩
    · exact .inl ⟨_, rfl, rfl, rfl⟩
  | k :: ks, r0 :: rs, i + 1, r, h => by
    simp only [sigArgs, List.getElem?_cons_succ] at h
    obtain ⟨q, h1, h2, h3⟩ := sigArgs_get h
    exact ⟨q, by simpa using h1, h2, by simpa using h3⟩

theorem sigArgs_length : ∀ {ks : List MK} {rs : List (DV × Meta)}, (sigArgs ks rs).length = rs.length
  | [], rs => by simp [sigArgs]
  | k :: ks, [] => by simp [sigArgs]
  | k :: ks, r :: rs => by simp [sigArgs, sigArgs_length]

theorem RRes.back {E1 E' : Env} {h : Heap} {ks : List MK} {ds : List DV} {v : Value} {t : Nat} (R : RRes E1 h ks ds v) (hok : okRes ks = true) (T : ∀ i, TagLe E1 E' (.sp 3 i 0) (.sp 0 t (if ks.length = 1 then 0 else i + 1))) (T2 : ks.length = 1 → ∀ b, TagLe E1 E' (.sp 3 0 (b + 1)) (.sp 0 t (b + 1))) :
    RR E' h 0 t (packRes ks ds).1 (packRes ks ds).2 v := by
  obtain ⟨hl, vs, hv, rfl, H⟩ := R
  unfold packRes
  split
  · rename_i k
    simp only [List.length_cons, List.length_nil, Nat.zero_add] at hl hv T T2
    obtain ⟨d, rfl⟩ := List.length_eq_one_iff.1 hl
    obtain ⟨u, rfl⟩ := List.length_eq_one_iff.1 hv
    have := H 0 k d u rfl rfl rfl
    simp only [List.getD_cons_zero]
    cases k with
    | val => exact RV.mono (T 0).le d this
    | own => exact RR.of_RM1 (RM1.to (T 0) (m := .own) (by simp) this)
    | ptr =>
      have key : ∀ m : Meta, m ≠ .own → (∀ s o, m ≠ .loc s o) → RM1 E1 h .other (resReg .ptr d).1 m u → RM1 E' h (.sp 0 t 0) (resReg .ptr d).1 m u := by
        intro m h1 h2 h3
        exact RM1.to (T 0) h2 (h3.tag h1)
      have hm : (resReg .ptr d).2 ≠ .own ∧ ∀ s o, (resReg .ptr d).2 ≠ .loc s o := by
        unfold resReg
        constructor
        · simp only; split <;> simp
        · intro s o; simp only; split <;> simp
      exact RR.of_RM1 (key _ hm.1 hm.2 this)
    | aggo n os =>
      simp only [RRes1, RR, resReg] at this ⊢
      obtain ⟨ds, us, h1, h2, h3, h4, h5⟩ := this
      refine ⟨ds, us, h1, h2, h3, h4, fun i m' d' u' e1 e2 e3 => ?_⟩
      obtain ⟨a1, a2, a3, a4⟩ := h5 i m' d' u' e1 e2 e3
      exact ⟨a1, a2, a3, RM1.to (T2 trivial i) (fun s o hm => by rw [hm] at a3; simp [mayLie] at a3) a4⟩
  · rename_i hne
    have hne1 : ks.length ≠ 1 := fun h => by obtain ⟨k, hk⟩ := List.length_eq_one_iff.1 h; exact hne k hk
    have hall : ∀ k ∈ ks, k = .val ∨ k = .own := by
      intro k hk
      unfold okRes at hok
      simp only [Bool.or_eq_true, beq_iff_eq, hne1, false_or] at hok
      have := List.all_eq_true.1 hok k hk
      cases k <;> simp_all
    have hvt : (match vs with | [u] => u | _ => Value.tuple vs.toArray) = .tuple vs.toArray := by
      split
      · simp only [List.length_cons, List.length_nil, Nat.zero_add] at hv; exact absurd hv.symm hne1
      · rfl
    rw [hvt]
    simp only [RR]
    refine ⟨ds, vs.toArray, rfl, rfl, by simp [hl], by simp [hv], fun i m' d' u e1 e2 e3 => ?_⟩
    simp only [List.getElem?_map, Option.map_eq_some_iff] at e1
    obtain ⟨k, hk, rfl⟩ := e1
    have := H i k d' u hk e2 (by simpa using e3)
    have T1 := T i
    rw [if_neg hne1] at T1
    rcases hall k (List.mem_of_getElem? hk) with rfl | rfl
    · exact ⟨rfl, RV.mono T1.le d' this⟩
    · exact ⟨rfl, RM1.to T1 (m := .own) (by simp) this⟩

theorem argTag_id {g : Option (Nat × Operand)} {T : Tag} (h : ∀ p s b, g = some p → p.2 = .tmp s → T ≠ .sp 0 s b) : argTag g T = T := by
  unfold argTag
  split
  · rename_i p
    exact mvTag_id fun s b hs => h p s b rfl hs
  · rfl

theorem giveArg_rel {g : Option (Nat × Operand)} {h : Heap} (Rl : Rel E st a h) : Rel (E.re (argTag g)) (st.giveArg g) a h := by
  cases g with
  | none => simp only [St.giveArg]; exact (Rl.release (x := .const .nilIface) (f := argTag none) fun T _ => rfl)
  | some p => exact Rl.release fun T hT => argTag_id fun p' s b hp hs => by simp only [Option.some.injEq] at hp; subst hp; exact hT s b hs

/-- What a callee sees that is handed nothing that is owned. -/
theorem call_pre (Rl : Rel E st a w.heap) : (∀ b o, w.heap.size ≤ b → (E.re callTag).O b o = .other) ∧ st.sg.length = (E.re callTag).n ∧ ∀ (i : Nat) ob, st.sg[i]? = some ob → RO (E.re callTag) w.heap i ob := by
  refine ⟨fun b o hb => ?_, Rl.n, fun i ob hi => ?_⟩
  · simp only [Env.re]; rw [Rl.fresh b o hb]; rfl
  · exact RO.to (E := E) ⟨fun b o h => by simp only [Env.re]; rw [h]; rfl, fun b o h => by simp only [Env.re]; rw [h]; rfl, rfl, rfl, rfl, rfl, rfl⟩ (fun j b o h => by simp only [Env.re]; rw [h]; rfl) (Rl.objs i ob hi)

/-- Behind its call. -/
theorem call_post (Rl : Rel E st a w.heap) {E1 : Env} {w' : World} {sg : List SObj} (P1 : Pr Ours (E.re callTag) w.heap E1 w'.heap) (hf1 : ∀ b o, w'.heap.size ≤ b → E1.O b o = .other) (hn1 : sg.length = E1.n) (ho1 : ∀ (i : Nat) ob, sg[i]? = some ob → RO E1 w'.heap i ob) :
    ∃ E', Rel E' (st.setSg sg) a w'.heap ∧ Pr Ours E w.heap E' w'.heap := by
  let E' : Env := E.back E1 w.heap.size 0 true
  have nototh : ∀ b o, E1.O b o ≠ .other → ¬ (b < w.heap.size ∧ callTag (E.O b o) = .other) := by
    rintro b o h1 ⟨h2, h3⟩
    have := P1.tags b o h2 (by simp only [Env.re]; rw [h3]; simp [Ours])
    simp only [Env.re] at this
    rw [h3] at this
    exact h1 this
  have hO' : ∀ b o T, E1.O b o = T → T ≠ .other → E'.O b o = backTag 0 true T := by
    intro b o T h1 h2
    show (if b < w.heap.size ∧ callTag (E.O b o) = .other then E.O b o else backTag 0 true (E1.O b o)) = _
    rw [if_neg (nototh b o (by rw [h1]; exact h2)), h1]
  have Pc : Pr (fun T => Ours (callTag T)) E w.heap E' w'.heap := by
    refine ⟨P1.size, fun b hb => P1.blk b hb, fun b o hb hn => ?_, P1.n, fun i hi hv => P1.objs i hi hv, fun _ _ => rfl, fun i hi => P1.vers i hi⟩
    show (if b < w.heap.size ∧ callTag (E.O b o) = .other then E.O b o else backTag 0 true (E1.O b o)) = _
    by_cases hc : callTag (E.O b o) = .other
    · rw [if_pos ⟨hb, hc⟩]
    · rw [if_neg fun h => hc h.2]
      have hsh : callTag (E.O b o) = .shut := by
        by_cases hs : callTag (E.O b o) = .shut
        · exact hs
        · exact absurd ⟨hc, hs⟩ hn
      have h2 := P1.tags b o hb (by simp only [Env.re]; exact hn)
      simp only [Env.re] at h2
      rw [h2, hsh]
      have : E.O b o = .shut := by
        revert hsh
        unfold callTag
        split <;> simp_all
      rw [this]; rfl
  have hle := Pc.shut (by simp [Ours, callTag]) Rl.fresh
  refine ⟨E', ⟨Rl.size, Rl.mlen, Rl.blen, hn1, fun u v' hu => ?_, fun s' cs' hs' => ?_, fun i ob hi => ?_, fun b o hb => ?_⟩, Pc.weaken fun T hT => ⟨fun h => ?_, fun h => ?_⟩⟩
  · exact (Rl.regs u v' hu).mono Pc hle (fun b => by simp [Ours, callTag]) (fun s o _ => by simp [Ours, callTag])
  · exact (Rl.boxes s' cs' hs').mono Pc hle (by simp [Ours, callTag]) (fun j => by simp [Ours, callTag])
  · exact (ho1 i ob hi).to ⟨fun b o h => hO' b o _ h (by simp), fun b o h => hO' b o _ h (by simp), rfl, rfl, rfl, rfl, rfl⟩ fun j b o h => hO' b o _ h (by simp)
  · show (if b < w.heap.size ∧ callTag (E.O b o) = .other then E.O b o else backTag 0 true (E1.O b o)) = _
    have := P1.size
    rw [if_neg (by omega), hf1 b o hb]; rfl
  · rw [h] at hT; simp [Ours, callTag] at hT
  · rw [h] at hT; simp [Ours, callTag] at hT

theorem dm_data {m : Meta} (h : isData m = true) : isData (dm m) = true := by
  cases m <;> first | rfl | (simp [isData] at h; done) | skip
  rename_i ms
  simp only [isData, dm, List.all_map] at h ⊢
  refine List.all_eq_true.2 fun m hm => ?_
  have := List.all_eq_true.1 h m hm
  cases m <;> simp_all [dm1]

theorem dmv_RR {E : Env} {h : Heap} {k a : Nat} {d : DV} {m : Meta} {v : Value} (R : RR E h k a d m v) : RR E h k a d (dmv m) v := by
  unfold dmv
  split
  · rename_i hd; exact RR.val (R.data hd)
  · exact R.dm

theorem ownMs_get : ∀ {os : List Nat} {ms : List Meta} {i0 i : Nat} {m : Meta}, (ownMs os i0 ms)[i]? = some m → ∃ m0, ms[i]? = some m0 ∧ m = if os.contains (i0 + i) then toOwn m0 else dmv m0
  | os, [], i0, i, m, h => by simp [ownMs] at h
  | os, m0 :: ms, i0, 0, m, h => by
    simp only [ownMs, List.getElem?_cons_zero, Option.some.injEq] at h
    exact ⟨m0, rfl, h.symm⟩
  | os, m0 :: ms, i0, i + 1, m, h => by
    simp only [ownMs, List.getElem?_cons_succ] at h
    obtain ⟨m1, h1, h2⟩ := ownMs_get h
    exact ⟨m1, by simpa using h1, by rw [h2, Nat.add_assoc, Nat.add_comm 1 i]⟩

theorem ownMs_length : ∀ {os : List Nat} {ms : List Meta} {i0 : Nat}, (ownMs os i0 ms).length = ms.length
  | os, [], i0 => rfl
  | os, m :: ms, i0 => by simp [ownMs, ownMs_length]

theorem RM1.toOwn {E : Env} {h : Heap} {tg : Tag} {d : DV} {m : Meta} {v : Value} (R : RM1 E h tg d m v) : RM1 E h tg d (Su.toOwn m) v := by
  cases m <;> first | exact R | exact R.full_own

theorem RM1.dmv {E : Env} {h : Heap} {tg : Tag} {d : DV} {m : Meta} {v : Value} (hm : mayLie m = true) (R : RM1 E h tg d m v) : RM1 E h tg d (Su.dmv m) v ∧ mayLie (Su.dmv m) = true := by
  unfold Su.dmv
  split
  · rename_i hd
    refine ⟨?_, rfl⟩
    have hd' : m = .val ∨ m = .full ∨ m = .own ∨ m = .nilp := by
      cases m <;> simp_all [isData, mayLie]
    exact RM1_dat hd' R
  · exact ⟨R.mayLie_dm hm, (Su.mayLie_dm hm).2.1⟩

/-- An argument that is handed with what it owns. -/
theorem ownArg_RR {E : Env} {h : Heap} {k a : Nat} {d : DV} {m : Meta} {v : Value} {q : MK} (hq : isOwn q = true) (R : RR E h k a d m v) : RR E h k a d (ownArg m q) v := by
  cases q with
  | val => cases hq
  | ptr => cases hq
  | own =>
    by_cases hm : m = .full
    · subst hm
      exact RR.of_RM1 (RM1.full_own (RR.to_RM1 (by simp) (by simp) R))
    · have : ownArg m .own = m := by unfold ownArg; split <;> simp_all
      rw [this]; exact R
  | aggo n os =>
    by_cases hm : ∃ ms, m = .aggm ms
    · obtain ⟨ms, rfl⟩ := hm
      simp only [ownArg, RR] at R ⊢
      obtain ⟨ds, vs, h1, h2, h3, h4, h5⟩ := R
      refine ⟨ds, vs, h1, h2, by rw [ownMs_length]; exact h3, by rw [ownMs_length]; exact h4, fun i m' d' u e1 e2 e3 => ?_⟩
      obtain ⟨m0, g1, rfl⟩ := ownMs_get e1
      obtain ⟨a1, a2, a3, a4⟩ := h5 i m0 d' u g1 e2 e3
      split
      · exact ⟨a1, a2, by cases m0 <;> simp_all [Su.toOwn, mayLie], a4.toOwn⟩
      · exact ⟨a1, a2, (a4.dmv a3).2, (a4.dmv a3).1⟩
    · have : ownArg m (.aggo n os) = dmv m := by
        unfold ownArg
        split <;> first | rfl | (rename_i h1 h2; simp_all)
      rw [this]; exact dmv_RR R

theorem sim_raw {f : FuncId} {s : Sig} {ts : List TypeId} {xs : List Operand} {rs extra : List (DV × Meta)} {ev : List Value} (hO : OrcOk C R) (hs : C.sig f = some s)
    (hrun : (execOp a.eval o).run C.P w = .ok (.enter f (xs.map a.eval ++ ev).toArray) w) (hsr : srcs C.P st ts xs = some rs) (hel : extra.length = ev.length)
    (hev : ∀ (i : Nat) r v, extra[i]? = some r → ev[i]? = some v → ∀ p q, RR E w.heap p q r.1 r.2 v ∧ r.2 ≠ .own ∧ r.2 ≠ .full)
    (H : og (((rs ++ extra).all fun r => mayGo r.2) && decide ((s.params.filter isOwn).length ≤ 1) && okRes s.results)
      (ob (R.r f (sigArgs s.params (rs ++ extra)) st.sg) fun q =>
        resPut s.results q.1 fun r => k (({ st with sg := q.2 }.giveArg (ownPlace 0 s.params xs)).put o.dst r.1 r.2)) = some x)
    (Rl : Rel E st a w.heap) (T : Then E w k x K) : Gp C.P o a w K := by
  obtain ⟨hg, H⟩ := og_some H
  obtain ⟨q, hq, H⟩ := ob_some H
  have H := (resPut_some H).1
  simp only [Bool.and_eq_true, decide_eq_true_eq] at hg
  obtain ⟨⟨hgo, hown⟩, hokr⟩ := hg
  obtain ⟨s', hs', hgo', hR⟩ := hO.r f _ _ q hq
  rw [hs] at hs'
  cases hs'
  generalize hgd : ownPlace 0 s.params xs = g at H
  have Rl0 : Rel (E.re (argTag g)) (st.giveArg g) a w.heap := giveArg_rel Rl
  have sg0 : (st.giveArg g).sg = st.sg := by
    cases g with
    | none => rfl
    | some p => simp only [St.giveArg]; cases p.2 <;> rfl
  generalize hE0 : E.re (argTag g) = E0 at Rl0
  have E0n : E0.n = E.n := by rw [← hE0]; rfl
  obtain ⟨l1, l2⟩ := srcs_eval Rl hsr
  have hlen : (xs.map a.eval ++ ev).length = (sigArgs s.params (rs ++ extra)).length := by rw [sigArgs_length]; simp [l1, hel]
  have cs : callTag .shut = .shut := rfl
  have co : callTag .other = .other := rfl
  refine wp_enter hrun ((hR (E0.re callTag) w (xs.map a.eval ++ ev) (fun b o hb => ?_) ?_ (fun i ob hi => ?_) hlen (fun i r v hr hv => ?_)).mono ?_)
  · simp only [Env.re]; rw [Rl0.fresh b o hb]; rfl
  · rw [← sg0]; exact Rl0.n
  · have := Rl0.objs i ob (by rw [sg0]; exact hi)
    exact RO.to (E := E0) ⟨fun b o h => by simp only [Env.re]; rw [h]; rfl, fun b o h => by simp only [Env.re]; rw [h]; rfl, rfl, rfl, rfl, rfl, rfl⟩ (fun j b o h => by simp only [Env.re]; rw [h]; rfl) this
  · obtain ⟨r0, h1, h2, h3⟩ := sigArgs_get hr
    -- the argument as it was, in any place
    have noown0 : ∀ (p q : Nat) (m : Meta), RR E w.heap p q r0.1 m v → RR (E0.re callTag) w.heap 0 i r0.1 (dm m) v := by
      intro p q m hh
      have h1 : RR E w.heap 2 0 r0.1 (dm m) v := hh.dm
      have h2 : RR E0 w.heap 2 0 r0.1 (dm m) v := by
        rw [← hE0]
        exact h1.re (argTag_id (by simp)) (argTag_id (by simp)) fun b => argTag_id (by simp)
      have h3 : RR (E0.re callTag) w.heap 2 0 r0.1 (dm m) v := h2.re rfl rfl fun b => rfl
      exact h3.dm_any
    have noown : ∀ (p q : Nat) (m : Meta), RR E w.heap p q r0.1 m v → RR (E0.re callTag) w.heap 0 i r0.1 (dmv m) v := by
      intro p q m hh
      have h0 := noown0 p q m hh
      unfold dmv
      split
      · rename_i hd
        exact RR.val (RR.data (dm_data hd) h0)
      · exact h0
    rw [h2]
    by_cases hi : i < rs.length
    · rw [List.getElem?_append_left hi] at h1
      have hv' : (xs.map a.eval)[i]? = some v := by rwa [List.getElem?_append_left (by simpa [l1] using hi)] at hv
      obtain ⟨y, t, hy, rfl, hsy, hRy⟩ := l2 i r0 v h1 hv'
      rcases h3 with ⟨kk, h4, hkk, h5⟩ | ⟨h4, h5⟩
      · rw [h5]
        have hp : ownPlace 0 s.params xs = some (0 + i, y) := ownPlace_first hown h4 hkk hy
        rw [Nat.zero_add, hgd] at hp
        subst hp
        have h6 : RR E0 w.heap 4 i r0.1 r0.2 (a.eval y) := by
          rw [← hE0]
          by_cases hyt : ∃ j, y = .tmp j
          · obtain ⟨j, rfl⟩ := hyt
            exact hRy.re (argTag_id (by simp)) (argTag_id (by simp)) fun b => by simp [argTag, mvTag, plc]
          · exact (Rel.src_any hsy (fun j hj => hyt ⟨j, hj⟩) 4 i).re (argTag_id (by simp)) (argTag_id (by simp)) fun b => argTag_id (by simp)
        have h7 : RR (E0.re callTag) w.heap 0 i r0.1 r0.2 (a.eval y) := h6.re rfl rfl fun b => rfl
        exact ownArg_RR hkk h7
      · rw [h5]; exact noown _ _ _ hRy
    · have hge : rs.length ≤ i := Nat.le_of_not_lt hi
      rw [List.getElem?_append_right hge] at h1
      rw [List.getElem?_append_right (by simpa [l1] using hge)] at hv
      simp only [List.length_map, ← l1] at hv
      obtain ⟨h6, h7, h8⟩ := hev _ r0 v h1 hv 2 0
      have h9 := noown 2 0 _ h6
      rcases h3 with ⟨kk, h4, hkk, h5⟩ | ⟨h4, h5⟩
      · rw [h5]
        have h10 : RR E0 w.heap 4 i r0.1 r0.2 v := by
          rw [← hE0]
          exact (hev _ r0 v h1 hv 4 i).1.re (argTag_id (by simp)) (argTag_id (by simp)) fun b => argTag_id (by simp)
        exact ownArg_RR hkk (h10.re rfl rfl fun b => rfl)
      · rw [h5]; exact h9
  · rintro e w' ⟨hout, v, E1, he, P1, hf1, hn1, ho1, hres⟩
    subst he
    generalize ht : o.dst.getD 0 = t
    let one : Bool := decide (s.results.length = 1)
    have hone : ∀ i : Nat, (if one = true then 0 else i + 1) = (if s.results.length = 1 then 0 else i + 1) := fun i => by simp [one]
    let E' : Env := E0.back E1 w.heap.size t one
    have nototh : ∀ b o, E1.O b o ≠ .other → ¬ (b < w.heap.size ∧ callTag (E0.O b o) = .other) := by
      rintro b o h1 ⟨h2, h3⟩
      have := P1.tags b o h2 (by simp only [Env.re]; rw [h3]; simp [Ours])
      simp only [Env.re] at this
      rw [h3] at this
      exact h1 this
    have hO' : ∀ b o T, E1.O b o = T → T ≠ .other → E'.O b o = backTag t one T := by
      intro b o T h1 h2
      show (if b < w.heap.size ∧ callTag (E0.O b o) = .other then E0.O b o else backTag t one (E1.O b o)) = _
      rw [if_neg (nototh b o (by rw [h1]; exact h2)), h1]
    have Pc : Pr (fun T => Ours (callTag T)) E0 w.heap E' w'.heap := by
      refine ⟨P1.size, fun b hb => P1.blk b hb, fun b o hb hn => ?_, P1.n, fun i hi hv => P1.objs i hi hv, fun _ _ => rfl, fun i hi => P1.vers i hi⟩
      show (if b < w.heap.size ∧ callTag (E0.O b o) = .other then E0.O b o else backTag t one (E1.O b o)) = _
      by_cases hc : callTag (E0.O b o) = .other
      · rw [if_pos ⟨hb, hc⟩]
      · rw [if_neg fun h => hc h.2]
        have hsh : callTag (E0.O b o) = .shut := by
          by_cases hs : callTag (E0.O b o) = .shut
          · exact hs
          · exact absurd ⟨hc, hs⟩ hn
        have h2 := P1.tags b o hb (by simp only [Env.re]; exact hn)
        simp only [Env.re] at h2
        rw [h2, hsh]
        have : E0.O b o = .shut := by
          revert hsh
          unfold callTag
          split <;> simp_all
        rw [this]; rfl
    have hle := Pc.shut (by simp [Ours, callTag]) Rl0.fresh
    have R2 : Rel E' ((st.giveArg g).setSg q.2) a w'.heap := by
      refine ⟨Rl0.size, Rl0.mlen, Rl0.blen, hn1, fun u v' hu => ?_, fun s' cs' hs' => ?_, fun i ob hi => ?_, fun b o hb => ?_⟩
      · exact (Rl0.regs u v' hu).mono Pc hle (fun b => by simp [Ours, callTag]) (fun s o _ => by simp [Ours, callTag])
      · exact (Rl0.boxes s' cs' hs').mono Pc hle (by simp [Ours, callTag]) (fun j => by simp [Ours, callTag])
      · exact (ho1 i ob hi).to ⟨fun b o h => hO' b o _ h (by simp), fun b o h => hO' b o _ h (by simp), rfl, rfl, rfl, rfl, rfl⟩ fun j b o h => hO' b o _ h (by simp)
      · show (if b < w.heap.size ∧ callTag (E0.O b o) = .other then E0.O b o else backTag t one (E1.O b o)) = _
        have := P1.size
        rw [if_neg (by omega), hf1 b o hb]; rfl
    refine ⟨v, rfl, T E' _ _ w' ?_ (R2.put (dst := o.dst) (d := (packRes s.results q.1).1) (m := (packRes s.results q.1).2) (v := v) fun t0 ht0 => ?_) ?_ hout⟩
    · rw [← H]
      congr 1
      cases g with
      | none => rfl
      | some p => simp only [St.giveArg]; cases p.2 <;> rfl
    · have htt : t = t0 := by rw [← ht, ht0]; rfl
      rw [← htt]
      exact hres.back hokr (fun i => ⟨fun b o h => hO' b o _ h (by simp), fun b o h => by rw [hO' b o _ h (by simp)]; simp only [backTag]; rw [hone], rfl, rfl, rfl, rfl, rfl⟩)
        fun h1 i => ⟨fun b o h => hO' b o _ h (by simp), fun b o h => by rw [hO' b o _ h (by simp)]; simp [backTag, one, h1], rfl, rfl, rfl, rfl, rfl⟩
    · have P0 : Pr Ours E w.heap E0 w.heap := by
        rw [← hE0]
        exact Pr.re fun T hT => argTag_id fun p s b _ _ he => hT (by rw [he]; simp [Ours])
      refine P0.trans (Pc.weaken fun T hT => ⟨fun h => ?_, fun h => ?_⟩)
      · rw [h] at hT; simp [Ours, callTag] at hT
      · rw [h] at hT; simp [Ours, callTag] at hT

end
end Go.Su

/-
  THE DATA MACHINE: a writable array's elements are cleared.
-/
namespace Go.Su

section
variable {X : Type} {C : Cfg} {R : Orc} {o : Oper} {st : St} {k : St → Option X} {x : X} {E : Env} {a : Act} {w : World} {K : Act → World → Prop}

/-- The first ones of an array. -/
theorem RO_take {E : Env} {h : Heap} {i sz n : Nat} {ds : List DV} (B : RO E h i (.arr sz ds)) : RO E h i (.arr sz (ds.take n)) := by
  simp only [RO] at B ⊢
  intro hne
  have hd : ds ≠ [] := by intro e; rw [e] at hne; simp at hne
  obtain ⟨c, T, b1, b2, b3, b4, b5⟩ := B hd
  have hle : (ds.take n).length * sz ≤ ds.length * sz := Nat.mul_le_mul_right _ (by rw [List.length_take]; omega)
  refine ⟨c, T, b1, by omega, b3, fun o h1 h2 => b4 o h1 (by omega), fun j d hj => b5 j d ?_⟩
  rw [List.getElem?_take] at hj
  split at hj
  · exact hj
  · cases hj

theorem zeroCells_len (zs : Array Value) (n : Nat) : (Builtin.zeroCells zs n).size = n * zs.size := by simp [Builtin.zeroCells]
theorem zeroCells_one {zs : Array Value} {n : Nat} (h : ∀ v ∈ zs.toList, v.oneCell' = true) : ∀ v ∈ (Builtin.zeroCells zs n).toList, v.oneCell' = true := by
  intro v hv
  simp only [Builtin.zeroCells, Array.toList_map, List.mem_map, Array.toList_range, List.mem_range] at hv
  obtain ⟨j, hj, rfl⟩ := hv
  have hz : 0 < zs.size := by
    rcases Nat.eq_zero_or_pos zs.size with h | h
    · rw [h] at hj; omega
    · exact h
  have hm : j % zs.size < zs.size := Nat.mod_lt _ hz
  rw [getElem!_pos zs _ hm]
  exact h _ (Array.getElem_mem_toList hm)

theorem run_clear {P : Program} {w w' : World} {t e : TypeId} {ty : TypeId} {p : Addr} {n cap : Nat} {inf : TypeInfo} {zv : Value} (hu : P.underlying t = some (.slice e)) (hi : P.info? e = some inf) (hz : inf.zero = some zv) (hn : 0 < n)
    (h : (storeCells p (Builtin.zeroCells zv.cells n).toList).run P w = .ok () w') : (Builtin.clear_ #[t] ty #[.slice (some p) n cap]).run P w = .ok (.tuple #[]) w' := by
  unfold Builtin.clear_
  obtain ⟨m, rfl⟩ : ∃ m, n = m + 1 := ⟨n - 1, by omega⟩
  simp [run_underlying hu, zeroValue, typeInfo, hi, hz, h]
theorem run_clear0 {P : Program} {w : World} {t e : TypeId} {ty : TypeId} {p : Option Addr} {cap : Nat} (hu : P.underlying t = some (.slice e)) : (Builtin.clear_ #[t] ty #[.slice p 0 cap]).run P w = .ok (.tuple #[]) w := by
  unfold Builtin.clear_
  cases p <;> simp [run_underlying hu]

theorem sim_clear {c : Call} {y : Operand} {t : TypeId} (hop : o.op = .call c) (hc : c.callee = .builtin .clear) (ha : c.args.toList = [y]) (ht : c.argTypes.toList = [t]) (H : evClear C o y t st k = some x)
    (Rl : Rel E st a w.heap) (T : Then E w k x K) : Gp C.P o a w K := by
  unfold evClear at H
  obtain ⟨r, h1, H⟩ := ob_some H
  obtain ⟨q, hq, H⟩ := ob_some H
  obtain ⟨A, hA, H⟩ := ob_some H
  obtain ⟨e, he, H⟩ := ob_some H
  obtain ⟨z, hz, H⟩ := ob_some H
  obtain ⟨zs, hzs, H⟩ := ob_some H
  obtain ⟨hb, H9⟩ := og_some H
  clear H
  simp only [Bool.and_eq_true, beq_iff_eq, decide_eq_true_eq] at hb
  obtain ⟨⟨⟨s1, s2⟩, s3⟩, s4⟩ := hb
  obtain ⟨i, sz, off, len⟩ := q
  simp only at s1 s2 s4 hA H9
  have hm := arrOf_some hq
  have e1 := Rl.src h1
  rw [hm] at e1
  simp only [RR, RM1] at e1
  obtain ⟨f0, b, cap, hv, f1, f2, f3, f4, f5⟩ := e1
  have hu := elemT_some he
  obtain ⟨inf, zv, hinf, hzv, hok⟩ := zeroRegs_ok hzs
  have hA := sgArr_some hA
  rw [s1] at hA
  have hilt := (List.getElem?_eq_some_iff.1 hA).1
  have hund : ∀ {E' : Env} {h' : Heap} (t0 : Nat), RR E' h' 0 t0 (.tup []) .val undef := by
    intro E' h' t0
    simp only [RR, RM1, RV]
    exact ⟨#[], rfl, by simp [RVs]⟩
  have fin : ∀ {w'}, (Builtin.clear_ #[t] o.type #[a.eval y]).run C.P w = .ok (.tuple #[]) w' → (execOp a.eval o).run C.P w = .ok (.value (.tuple #[])) w' := by
    intro w' h
    refine call_builtin hop hc ?_
    rw [arr_one ht, show c.args.map a.eval = #[a.eval y] from by rw [arr_one ha]; simp]
    simp only [builtin]
    exact run_v h
  rcases Nat.eq_zero_or_pos len with h0 | hp
  · subst h0
    have R1 : Rel E { st with sg := st.sg.set i (.arr sz (A.2.take off)) } a w.heap := by
      refine ⟨Rl.size, Rl.mlen, Rl.blen, by simpa using Rl.n, Rl.regs, Rl.boxes, fun i' ob hi => ?_, Rl.fresh⟩
      by_cases hii : i = i'
      · subst hii
        simp only [List.getElem?_set_self hilt, Option.some.injEq] at hi
        subst hi
        exact RO_take (Rl.objs i _ hA)
      · simp only [List.getElem?_set_ne hii] at hi
        exact Rl.objs i' ob hi
    exact wp_value (fin (w' := w) (by rw [hv]; exact run_clear0 hu)) (T E _ _ w H9 (R1.put fun t0 _ => hund t0) (Pr.refl _ _ _) (Outer.refl _))
  · have B := Rl.objs i _ hA
    simp only [RO] at B
    have hne : A.2 ≠ [] := by intro h; rw [h] at s4; simp at s4; omega
    obtain ⟨c, TT, b1, b2, b3, b4, b5⟩ := B hne
    have hmul : off * sz + len * sz ≤ A.2.length * sz := by rw [← Nat.add_mul]; exact Nat.mul_le_mul_right _ s4
    have G := hok E w.heap
    have hsz : zv.cells.size = sz := by have := G.1; simp at this; omega
    have hone : ∀ v ∈ zv.cells.toList, v.oneCell' = true := by
      intro v hv
      obtain ⟨j, hj, hju⟩ := List.mem_iff_getElem.1 hv
      have hj2 : j < zs.length := by rw [G.1]; exact hj
      exact (G.2 j _ v (List.getElem?_eq_getElem hj2) (by rw [List.getElem?_eq_getElem hj, hju])).1.2.1
    have hlen : (Builtin.zeroCells zv.cells len).toList.length = len * sz := by rw [Array.length_toList, zeroCells_len, hsz]
    obtain ⟨w', hw, S⟩ := run_storeCells (P := C.P) (E.base i + off * sz) (Builtin.zeroCells zv.cells len).toList c 0 w b1 (by omega) (zeroCells_one hone) (fun o _ _ => by simp)
    simp only [Nat.add_zero] at S
    have P1 : Pr (fun t => t = .obj i) E w.heap E w'.heap := S.Pr b1 fun j h1 h2 => b4 j (by omega) (by omega)
    have hs := P1.shut (by simp) Rl.fresh
    have R1 : Rel E { st with sg := st.sg.set i (.arr sz (A.2.take off)) } a w'.heap := by
      refine ⟨Rl.size, Rl.mlen, Rl.blen, by simpa using Rl.n, fun t v hv => (Rl.regs t v hv).mono P1 hs (by simp) (by simp), fun s' cs' hs' => (Rl.boxes s' cs' hs').mono P1 hs (by simp) (by simp), fun i' ob hi => ?_, fun b o' hb' => Rl.fresh b o' (by rw [← S.size]; exact hb')⟩
      by_cases hii : i = i'
      · subst hii
        simp only [List.getElem?_set_self hilt, Option.some.injEq] at hi
        subst hi
        simp only [RO]
        intro _
        obtain ⟨c', e1', e2', e3'⟩ := S.ex
        have hle : (A.2.take off).length * sz ≤ off * sz := Nat.mul_le_mul_right _ (by rw [List.length_take]; omega)
        refine ⟨c', TT, e1', by rw [e2']; omega, b3, fun o h1 h2 => b4 o h1 (by omega), fun j d hj => ?_⟩
        rw [List.getElem?_take] at hj
        split at hj
        · rename_i hjo
          obtain ⟨us, u1, u2, u3⟩ := b5 j d hj
          refine ⟨us, u1, fun y q hq => ?_, u3.mono hs⟩
          have hy : y < sz := by have := (List.getElem?_eq_some_iff.1 hq).1; omega
          have : j * sz + sz ≤ off * sz := by rw [← Nat.succ_mul]; exact Nat.mul_le_mul_right _ hjo
          rw [e3', if_neg (by omega), u2 y q hq]
        · cases hj
      · simp only [List.getElem?_set_ne hii] at hi
        exact (Rl.objs i' ob hi).mono P1 hs (lt_of_sg Rl hi) (by simp; exact fun h => hii h.symm) (by simp)
    refine wp_value (fin (w' := w') ?_) (T E _ _ w' H9 (R1.put fun t0 _ => hund t0) (P1.weaken (by rintro T rfl; simp [Ours])) S.out)
    rw [hv, f1 hp]
    exact run_clear hu hinf hzv hp hw

end
end Go.Su

/-
  THE DATA MACHINE, part 14: vectors grow.
-/
namespace Go.Su
section
variable {X : Type} {C : Cfg} {R : Orc} {o : Oper} {st : St} {k : St → Option X} {x : X} {E : Env} {a : Act} {w : World} {K : Act → World → Prop} {Q : Exit → Act → World → Prop}

/-- The vector `i` goes on in the state `n`, where it is. -/
def Env.vecUp (E : Env) (i n : Nat) : Env := { E with ver := fun j => if j = i then n else E.ver j }
/-- The vector `i` goes on in the state `n`, in a new block. -/
def Env.vecMove (E : Env) (i n b hi : Nat) : Env :=
  { E with obj := fun j => if j = i then b else E.obj j, base := fun j => if j = i then 0 else E.base j, top := fun j => if j = i then hi else E.top j, ver := fun j => if j = i then n else E.ver j,
           O := fun b' o => if b' = b then (if o < hi then .obj i else .other) else if E.O b' o = .obj i then .other else E.O b' o }
/-- The vector's object, out of the cells of its first elements and of those behind. -/
theorem vec_RO {E : Env} {h : Heap} {i b off top n sz : Nat} {ds es : List DV} {all all' : List Value} {c : Array Value} {T : TypeId} {f : Nat × Nat} (ho : E.obj i = b) (hb : E.base i = off) (ht : E.top i = top) (hv : E.ver i = n) (hn : 0 < n) (hpos : 0 < sz) (hc : h[b]? = some (.cells c T f))
    (hfit : off + (ds.length + es.length) * sz ≤ top) (hcs : top ≤ c.size) (tags : ∀ o, off ≤ o → o < top → E.O b o = .obj i ∧ ¬(f.1 ≤ o ∧ o < f.2))
    (F : FlatOk E.S h sz ds all) (G : FlatOk E.S h sz es all') (cells : ∀ (j : Nat) u, all[j]? = some u → c[off + j]? = some u) (cells' : ∀ (j : Nat) u, all'[j]? = some u → c[off + ds.length * sz + j]? = some u) : RO E h i (.vec n sz (ds ++ es)) := by
  simp only [RO]
  rw [ho, hb, ht]
  refine ⟨hv, hn, hpos, .inr ⟨c, T, f, hc, by rw [List.length_append]; exact hfit, hcs, tags, fun j d hd => ?_⟩⟩
  by_cases hj : j < ds.length
  · rw [List.getElem?_append_left hj] at hd
    obtain ⟨vs, v1, v2, v3⟩ := F.2 j d hd
    exact ⟨vs, v1, fun y u hu => by rw [Nat.add_assoc]; exact cells _ u (v2 y u hu), v3⟩
  · rw [List.getElem?_append_right (by omega)] at hd
    obtain ⟨vs, v1, v2, v3⟩ := G.2 _ d hd
    refine ⟨vs, v1, fun y u hu => ?_, v3⟩
    have := cells' _ u (v2 y u hu)
    have e : j * sz = ds.length * sz + (j - ds.length) * sz := by rw [← Nat.add_mul]; congr 1; omega
    rw [e]
    rwa [show off + (ds.length * sz + (j - ds.length) * sz) + y = off + ds.length * sz + ((j - ds.length) * sz + y) by omega]

/-- The cells of a vector's first elements. -/
theorem vec_flat {E : Env} {h : Heap} {i n sz m : Nat} {ds : List DV} (H : RO E h i (.vec n sz ds)) (hm : m ≤ ds.length) : ∃ all, FlatOk E.S h sz (ds.take m) all ∧ ∀ (j : Nat) u, all[j]? = some u → hc h (E.obj i) (E.base i + j) = some u := by
  simp only [RO] at H
  obtain ⟨-, -, hz, H⟩ := H
  rcases H with ⟨rfl, -⟩ | ⟨c, T, f, h1, h2, h2', h3, h5⟩
  · have : m = 0 := by simpa using hm
    subst this
    exact ⟨[], ⟨by simp, by simp⟩, by simp⟩
  have hmul : m * sz ≤ ds.length * sz := Nat.mul_le_mul_right _ hm
  have hsz : (c.toList.drop (E.base i)).take (m * sz) = (c.toList.drop (E.base i)).take (m * sz) := rfl
  refine ⟨(c.toList.drop (E.base i)).take (m * sz), ⟨?_, fun j d hd => ?_⟩, fun j u hu => ?_⟩
  · simp only [List.length_take, List.length_drop, Array.length_toList]
    rw [Nat.min_eq_left (by omega), Nat.min_eq_left hm]
  · have hj : j < m := by have := (List.getElem?_eq_some_iff.1 hd).1; simp only [List.length_take] at this; omega
    rw [List.getElem?_take_of_lt hj] at hd
    obtain ⟨vs, v1, v2, v3⟩ := h5 j d hd
    refine ⟨vs, v1, fun y u hu => ?_, v3⟩
    have hy : y < sz := by have := (List.getElem?_eq_some_iff.1 hu).1; omega
    have hlt : j * sz + y < m * sz := by
      calc j * sz + y < j * sz + sz := by omega
        _ = (j + 1) * sz := by rw [Nat.succ_mul]
        _ ≤ m * sz := Nat.mul_le_mul_right _ hj
    rw [List.getElem?_take_of_lt hlt, List.getElem?_drop, ← Nat.add_assoc, Array.getElem?_toList]
    exact v2 y u hu
  · have hj : j < m * sz := by have := (List.getElem?_eq_some_iff.1 hu).1; simp only [List.length_take] at this; omega
    rw [List.getElem?_take_of_lt hj, List.getElem?_drop, Array.getElem?_toList] at hu
    unfold hc
    rw [h1]
    exact hu

theorem sim_vapp {fl : Flags} {c : Call} {y v : Operand} {t u : TypeId} (hop : o.op = .call c) (hcal : c.callee = .builtin .append) (ha : c.args.toList = [y, v]) (ht : c.argTypes.toList = [t, u]) (hvc : dstIn fl.vecs o.dst = true) (H : evAppend C fl o y v t u st k = some x)
    (Rl : Rel E st a w.heap) (T : Then E w k x K) : Gp C.P o a w K := by
  unfold evAppend at H
  rw [if_pos hvc] at H
  unfold evVApp at H
  obtain ⟨r, h1, H⟩ := ob_some H
  obtain ⟨s, h2, H⟩ := ob_some H
  obtain ⟨sz, hsz, H⟩ := ob_some H
  obtain ⟨hc', H⟩ := og_some H
  simp only [Bool.and_eq_true] at hc'
  obtain ⟨hdat, hdst⟩ := hc'
  obtain ⟨t0, hdst⟩ := Option.isSome_iff_exists.1 hdst
  obtain ⟨e, e', z, inf, zv, hu, hu', hz, hz1, hpos, hinf, hbytes, hzv, hzs⟩ := appSz_some hsz
  have e1 := Rl.src h1
  have e2 := (Rl.src h2).data hdat
  have hinfsz : inf.size = sz := by
    obtain ⟨i', d', q1, -, q2, -⟩ := tz_some hz
    rw [hinf] at q1
    simp only [Option.some.injEq] at q1
    rw [← hz1, q2, q1]
  have hrun : ∀ v' w', (Builtin.append_ #[t, u] o.type #[a.eval y, a.eval v]).run C.P w = .ok v' w' → (execOp a.eval o).run C.P w = .ok (.value v') w' := by
    intro v' w' hv
    refine call_builtin hop hcal ?_
    rw [arr_two ht, show c.args.map a.eval = #[a.eval y, a.eval v] from by rw [arr_two ha]; simp]
    exact run_v hv
  rw [hdst] at H
  have hn := Rl.n
  obtain ⟨q, hq, H⟩ := ob_some H
  · have hm := vecOf_some hq
    rw [hm] at e1
    simp only [RR, RM1] at e1
    obtain ⟨p, hp, H⟩ := ob_some H
    obtain ⟨hg, H⟩ := og_some H
    obtain ⟨d2, hd, H⟩ := ob_some H
    simp only [Bool.and_eq_true, beq_iff_eq, decide_eq_true_eq] at hg
    obtain ⟨⟨g1, g2⟩, g3⟩ := hg
    have hpv := sgVec_some hp
    clear hp
    obtain ⟨i, n, sz', len⟩ := q
    obtain ⟨psz, ds⟩ := p
    simp only at g1 g2 g3 hpv e1 H
    have g1 := g1.symm
    have g2 := g2.symm
    subst g1
    subst g2
    obtain ⟨ds', es, hr, hs, hlim, hne, rfl⟩ := dApp2_some hd
    simp only [DV.list.injEq, true_and] at hr
    subst hr
    simp only at H
    rw [hs] at e2
    obtain ⟨b', len', cap', all', ev', k1, k2, k3, k4, k5, k6, k7⟩ := first_flat (P := C.P) e2
    obtain ⟨r1, r2, r3, b, cap, ev, f2, f3, f4, f5⟩ := e1
    have B := Rl.objs i _ hpv
    have BB := B
    simp only [RO] at BB
    obtain ⟨bv, b0, -, BB⟩ := BB
    have f5 := f5 bv
    obtain ⟨all, F, Fc⟩ := vec_flat B g3
    have hlt : (ds.take len).length = len := by rw [List.length_take]; omega
    have hlenOf : Builtin.lenOf (a.eval v) = pure len' := by rw [ev']; rfl
    have hone := k4.one hpos
    have hal : all.length = len * sz := by rw [F.1, hlt]
    have hal' : all'.length = len' * sz := by rw [k4.1, k1]
    have hilt := (List.getElem?_eq_some_iff.1 hpv).1
    have hln : 0 < len' := by omega
    have hmul2 : (len + len') * sz = len * sz + len' * sz := Nat.add_mul _ _ _
    by_cases hfit : len + len' ≤ cap
    · obtain ⟨hb, htop⟩ := f5 (by omega)
      subst hb
      have hc0 : 0 < cap * sz := Nat.mul_pos (by omega) hpos
      obtain ⟨cc, TT, f, c1, c2, c2', c3, c5⟩ := BB.resolve_left fun h => by have := h.2; omega
      have hmul : (len + len') * sz ≤ cap * sz := Nat.mul_le_mul_right _ hfit
      obtain ⟨w', hw, S⟩ := run_storeCells (P := C.P) (b := E.obj i) (T := TT) (f := f) (E.base i + len * sz) all' cc 0 w c1 (by omega) hone (fun o' h3 h4 => (c3 o' (by omega) (by omega)).2)
      have hr' : (Builtin.append_ #[t, u] o.type #[a.eval y, a.eval v]).run C.P w = .ok (.slice (some ⟨E.obj i, E.base i, none⟩) (len + len') cap) w' := by
        rw [ev]
        refine run_append_some hu hu' hinf hlenOf (by rw [hinfsz]; exact k7 w rfl) hfit ?_
        rw [hinfsz, Addr.add_lit]
        exact hw
      simp only [Nat.add_zero] at S
      have vE : (E.vecUp i (n + 1)).ver i = n + 1 := if_pos rfl
      have PS : Pr (fun T => T = .obj i) E w.heap (E.vecUp i (n + 1)) w'.heap := by
        refine ⟨Nat.le_of_eq S.size.symm, fun b1 hb1 => ?_, fun b1 o1 hb1 hT => rfl, Nat.le_refl _, fun j hj _ => ⟨rfl, rfl, rfl⟩, fun _ _ => rfl, fun j hj => ?_⟩
        · by_cases hbb : b1 = E.obj i
          · subst hbb
            rw [c1]
            obtain ⟨c', q1, q2, q3⟩ := S.ex
            refine ⟨c', q1, q2, fun j hj => ?_⟩
            rw [q3 j, if_neg]
            rintro ⟨q4, q5⟩
            exact hj (c3 j (by omega) (by omega)).1
          · rw [S.rest b1 hbb]; exact KeepBlk.refl _ _
        · by_cases hji : j = i
          · subst hji
            rw [vE]
            exact ⟨fun h => by omega, by omega, fun h => absurd rfl h⟩
          · have : (E.vecUp i (n + 1)).ver j = E.ver j := if_neg hji
            rw [this]; exact ⟨id, Nat.le_refl _, fun _ => rfl⟩
      have hs1 := PS.shut (by simp) Rl.fresh
      have R2 : Rel (E.vecUp i (n + 1)) { st with sg := st.sg.set i (.vec (n + 1) sz (ds.take len ++ es)) } a w'.heap := by
        refine ⟨Rl.size, Rl.mlen, Rl.blen, by simpa [Env.vecUp] using hn, fun q vq hq => (Rl.regs q vq hq).mono PS hs1 (by simp) (by simp), fun s' cs' hs' => (Rl.boxes s' cs' hs').mono PS hs1 (by simp) (by simp), fun i' ob hi => ?_, fun b1 o1 hb1 => Rl.fresh b1 o1 (by rw [← S.size]; exact hb1)⟩
        by_cases hii : i = i'
        · subst hii
          simp only [List.getElem?_set_self hilt, Option.some.injEq] at hi
          subst hi
          obtain ⟨c', q1, q2, q3⟩ := S.ex
          refine vec_RO (all := all) (all' := all') (off := E.base i) (top := E.top i) rfl rfl rfl vE (Nat.succ_pos _) hpos q1 (by rw [hlt]; rw [← k1]; omega) (by rw [q2]; exact c2') (fun o' h3 h4 => c3 o' h3 h4) (F.mono hs1) (k4.mono hs1) (fun j u hu => ?_) fun j u hu => ?_
          · have hjl : j < all.length := (List.getElem?_eq_some_iff.1 hu).1
            have := Fc j u hu
            unfold Su.hc at this
            rw [c1] at this
            rw [q3, if_neg (by omega)]
            exact this
          · have hjl : j < all'.length := (List.getElem?_eq_some_iff.1 hu).1
            rw [hlt, q3, if_pos (by omega), ← hu]
            congr 1
            omega
        · simp only [List.getElem?_set_ne hii] at hi
          exact (Rl.objs i' ob hi).mono PS hs1 (lt_of_sg Rl hi) (by simp; exact fun h => hii h.symm) (by simp)
      refine wp_value (hrun _ _ hr') (T _ _ _ w' H ?_ (PS.weaken (by rintro T rfl; simp [Ours])) S.out)
      rw [hdst]
      refine R2.put fun t1 ht1 => ?_
      refine RR.of_RM1 ⟨r1, Nat.succ_pos _, by rw [vE]; exact Nat.le_refl _, some ⟨E.obj i, E.base i, none⟩, cap, by rw [hlt, k1], by rw [hlt, ← k1]; exact hfit, by simp, fun _ q hq => ?_, fun _ _ => ⟨rfl, htop⟩⟩
      simp only [Option.some.injEq] at hq
      rw [← hq]
    · -- a new block
      have hfirst : ∀ w' : World, w'.heap = w.heap → (Builtin.firstCells inf.size len (.slice b len cap)).run C.P w' = .ok all.toArray w' := by
        intro w' hw'
        cases b with
        | none =>
          have h0 := f3 rfl
          have h9 : all = [] := List.eq_nil_of_length_eq_zero (by rw [hal, show len = 0 by omega]; simp)
          rw [h9, show len = 0 by omega]
          rfl
        | some y' =>
          show (loadCells y' (len * inf.size)).run C.P w' = _
          rw [hinfsz]
          by_cases h0 : 0 < cap
          · obtain ⟨hb, -⟩ := f5 h0
            simp only [Option.some.injEq] at hb
            rw [← hal, hb]
            exact loadCells_flat (fun j u hu => by rw [hw']; exact Fc j u hu)
          · have h9 : all = [] := List.eq_nil_of_length_eq_zero (by rw [hal, show len = 0 by omega]; simp)
            rw [h9, show len = 0 by omega, Nat.zero_mul]
            rfl
      obtain ⟨nc, hnc, hr'⟩ := run_append_grow (ty := o.type) (b := b) hu hu' hinf hlenOf (by rw [hinfsz]; exact k7) hfirst hzv hfit (by unfold lim at hlim; rw [hlt] at hlim; omega) hbytes
      rw [← ev] at hr'
      have hz' : (Builtin.zeroCells zv.cells (nc - (len + len'))).toList.length = (nc - (len + len')) * sz := by simp [Builtin.zeroCells, hzs]
      have htot : (len + len') * sz + (nc - (len + len')) * sz = nc * sz := by rw [← Nat.add_mul]; congr 1; omega
      generalize hzc : (Builtin.zeroCells zv.cells (nc - (len + len'))).toList = zc at hr' hz'
      let E2 := E.vecMove i (n + 1) w.heap.size (nc * sz)
      have vE : E2.ver i = n + 1 := if_pos rfl
      have oE : E2.obj i = w.heap.size := if_pos rfl
      have bE : E2.base i = 0 := if_pos rfl
      have tE : E2.top i = nc * sz := if_pos rfl
      have PS : Pr (fun T => T = .obj i) E w.heap E2 (w.heap.push (.cells (all ++ all' ++ zc).toArray e)) := by
        refine Pr.push (fun b1 o1 hb1 hT => ?_) (Nat.le_refl _) (fun j hj hvj => ?_) (fun _ _ => rfl) (fun j hj => ?_)
        · show (if _ then _ else _) = _
          rw [if_neg (by omega), if_neg hT]
        · have hji : j ≠ i := fun h => by subst h; rw [vE] at hvj; omega
          refine ⟨?_, ?_, ?_⟩ <;> (show (if _ then _ else _) = _; rw [if_neg hji])
        · by_cases hji : j = i
          · subst hji
            rw [vE]
            exact ⟨fun h => by omega, by omega, fun h => absurd rfl h⟩
          · have : E2.ver j = E.ver j := if_neg hji
            rw [this]; exact ⟨id, Nat.le_refl _, fun _ => rfl⟩
      have hs1 := PS.shut (by simp) Rl.fresh
      have hcell : ∀ (j : Nat), hc (w.heap.push (.cells (all ++ all' ++ zc).toArray e)) w.heap.size j = (all ++ all' ++ zc)[j]? := fun j => by rw [hc_new]; simp
      have R2 : Rel E2 { st with sg := st.sg.set i (.vec (n + 1) sz (ds.take len ++ es)) } a (w.heap.push (.cells (all ++ all' ++ zc).toArray e)) := by
        refine ⟨Rl.size, Rl.mlen, Rl.blen, by simpa [E2, Env.vecMove] using hn, fun q vq hq => (Rl.regs q vq hq).mono PS hs1 (by simp) (by simp), fun s' cs' hs' => (Rl.boxes s' cs' hs').mono PS hs1 (by simp) (by simp), fun i' ob hi => ?_, fun b1 o1 hb1 => ?_⟩
        · by_cases hii : i = i'
          · subst hii
            simp only [List.getElem?_set_self hilt, Option.some.injEq] at hi
            subst hi
            refine vec_RO (all := all) (all' := all') oE bE tE vE (Nat.succ_pos _) hpos push_new (by rw [hlt, ← k1]; omega) (by simp; omega) (fun o' h3 h4 => ⟨?_, by simp⟩) (F.mono hs1) (k4.mono hs1) (fun j u hu => ?_) fun j u hu => ?_
            · show (if _ then _ else _) = _
              rw [if_pos rfl, if_pos h4]
            · have hjl : j < all.length := (List.getElem?_eq_some_iff.1 hu).1
              rw [Nat.zero_add, List.getElem?_toArray, List.append_assoc, List.getElem?_append_left hjl]
              exact hu
            · have hjl : j < all'.length := (List.getElem?_eq_some_iff.1 hu).1
              rw [hlt, Nat.zero_add, List.getElem?_toArray, List.append_assoc, List.getElem?_append_right (by omega), List.getElem?_append_left (by omega), ← hu]
              congr 1
              omega
          · simp only [List.getElem?_set_ne hii] at hi
            exact (Rl.objs i' ob hi).mono PS hs1 (lt_of_sg Rl hi) (by simp; exact fun h => hii h.symm) (by simp)
        · simp only [Array.size_push] at hb1
          show (if _ then _ else _) = _
          rw [if_neg (by omega), if_neg]
          · exact Rl.fresh b1 o1 (by omega)
          · rw [Rl.fresh b1 o1 (by omega)]; simp
      refine wp_value (hrun _ _ hr') (T _ _ _ (w.drew.alloc (.cells (all ++ all' ++ zc).toArray e)) H ?_ (PS.weaken (by rintro T rfl; simp [Ours])))
      rw [hdst]
      refine R2.put fun t1 ht1 => ?_
      refine RR.of_RM1 ⟨r1, Nat.succ_pos _, by rw [vE]; exact Nat.le_refl _, some ⟨w.heap.size, 0, none⟩, nc, by rw [hlt, k1], by rw [hlt, ← k1]; exact hnc, by simp, fun _ q hq => ?_, fun _ _ => ⟨by rw [oE, bE], by rw [bE, tE, Nat.zero_add]; exact Nat.le_refl _⟩⟩
      simp only [Option.some.injEq] at hq
      rw [← hq]
end
end Go.Su

/-
  THE DATA MACHINE, part 18: one operation, whichever it is.
-/
namespace Go.Su

section
variable {X : Type} {C : Cfg} {R : Orc} {o : Oper} {st : St} {k : St → Option X} {x : X} {E : Env} {a : Act} {w : World} {K : Act → World → Prop} {Q : Exit → Act → World → Prop}

open Classical in
/-- A new array of ours. -/
noncomputable def Env.newArr (E : Env) (n b off m tp : Nat) : Env :=
  { E with obj := fun i => if i = E.n then b else E.obj i, base := fun i => if i = E.n then off else E.base i, top := fun i => if i = E.n then tp else E.top i, n := E.n + 1, ver := fun i => if i = E.n then 0 else E.ver i,
           O := fun b' o => if b' < n then E.O b' o else if b' = b ∧ off ≤ o ∧ o < off + m then .obj E.n else .other }

theorem sim_clone {f : FuncId} {v : Value} {r : DV × Meta} {sz : Nat} {ds : List DV} (hO : OrcOk C R) (hc : C.clone f = true) (hrun : (execOp a.eval o).run C.P w = .ok (.enter f #[v]) w)
    (hd : isData r.2 = true) (hsz0 : sz = C.csz f) (hl0 : ds.length ≤ lim) (hr : r.1 = .list sz ds) {p q : Nat} (hv : RR E w.heap p q r.1 r.2 v)
    (H : k ({ st with sg := st.sg ++ [SObj.arr sz ds] }.put o.dst .undef (.arr st.sg.length sz 0 ds.length)) = some x) (Rl : Rel E st a w.heap) (T : Then E w k x K) : Gp C.P o a w K := by
  have hS : ∀ b o, w.heap.size ≤ b → ¬ E.S b o := fun b o hb hs => by have h9 := Rl.fresh b o hb; rw [show E.O b o = Tag.shut from hs] at h9; cases h9
  have hcl := (hO.c f hc).2
  rw [← hsz0] at hcl
  refine wp_enter hrun ((hcl E.S w v ds hl0 hS (by rw [← hr]; exact hv.data hd)).mono ?_)
  rintro e w' ⟨a0, b, off, cap, he, ha0, hcap, hcap0, hspot, hsz, hout, hblk, hnew⟩
  subst he
  let E' := E.newArr w.heap.size b off (ds.length * sz) (off + cap * sz)
  have Pc : Pr (fun _ => False) E w.heap E' w'.heap := by
    refine ⟨hsz, fun b' hb => by rw [hblk b' hb]; exact KeepBlk.refl _ _, fun b' o hb _ => ?_, Nat.le_succ _, fun i hi _ => ?_, fun _ _ => rfl, ver_new rfl⟩
    · show (if b' < w.heap.size then E.O b' o else _) = _
      rw [if_pos hb]
    · have : i ≠ E.n := by omega
      exact ⟨if_neg this, if_neg this, if_neg this⟩
  have hle := Pc.shut (by simp) Rl.fresh
  have n0 : st.sg.length = E.n := Rl.n
  have R2 : Rel E' { st with sg := st.sg ++ [SObj.arr sz ds] } a w'.heap := by
    refine ⟨Rl.size, Rl.mlen, Rl.blen, by simp [n0]; rfl, fun t v hv => (Rl.regs t v hv).mono Pc hle (by simp) (by simp), fun s cs hs => (Rl.boxes s cs hs).mono Pc hle (by simp) (by simp), fun i ob hi => ?_, fun b' o hb => ?_⟩
    · by_cases hin : i < st.sg.length
      · rw [List.getElem?_append_left hin] at hi
        exact (Rl.objs i ob hi).mono Pc hle (by rw [← n0]; exact hin) (by simp) (by simp)
      · rw [List.getElem?_append_right (Nat.le_of_not_lt hin)] at hi
        have hi0 : i - st.sg.length = 0 := by
          have := (List.getElem?_eq_some_iff.1 hi).1
          simpa using this
        have hie : i = E.n := by omega
        rw [hi0] at hi
        simp only [List.getElem?_cons_zero, Option.some.injEq] at hi
        subst hi hie
        simp only [RO]
        intro hne
        obtain ⟨hb, c, T0, h1, h2, h3, h4⟩ := hnew hne
        have e1 : E'.obj E.n = b := if_pos rfl
        have e2 : E'.base E.n = off := if_pos rfl
        rw [e1, e2]
        refine ⟨c, T0, h1, h2, h3, fun o ho1 ho2 => ?_, fun j d hj => ?_⟩
        · show (if b < w.heap.size then E.O b o else if b = b ∧ off ≤ o ∧ o < off + ds.length * sz then Tag.obj E.n else .other) = _
          rw [if_neg (by omega), if_pos ⟨rfl, ho1, ho2⟩]
        · obtain ⟨vs, v1, v2, v3⟩ := h4 j d hj
          refine ⟨vs, v1, v2, v3.mono ⟨fun b' o hs => ?_, fun _ _ _ _ hv => hv⟩⟩
          exact hle.s b' o hs
    · show (if b' < w.heap.size then E.O b' o else if b' = b ∧ off ≤ o ∧ o < off + ds.length * sz then Tag.obj E.n else .other) = _
      rw [if_neg (by omega)]
      split
      · rename_i h
        by_cases hne : ds = []
        · subst hne; simp at h; omega
        · obtain ⟨-, c, T0, h1, -⟩ := hnew hne
          have := (Array.getElem?_eq_some_iff.1 h1).1
          omega
      · rfl
  refine ⟨_, rfl, T E' _ _ w' H (R2.put fun t _ => ?_) (Pc.weaken (by simp)) hout⟩
  simp only [RR, RM1]
  refine ⟨⟨by rw [n0]; exact Nat.lt_succ_self _, by rw [n0]; exact if_pos rfl⟩, _, _, rfl, fun hpos => ?_, hcap, hcap0, hspot, fun _ => by rw [n0, Nat.zero_add]; exact Nat.le_of_eq ((congrArg (· + cap * sz) (if_pos rfl)).trans (if_pos rfl).symm)⟩
  rw [n0, ha0 (fun h => by rw [h] at hpos; exact Nat.lt_irrefl 0 hpos)]
  have e1 : E'.obj E.n = b := if_pos rfl
  have e2 : E'.base E.n = off := if_pos rfl
  rw [e1, e2]
  simp

theorem aggD_some {d : DV} {cs : List DV} (h : aggD d = some cs) : d = .agg cs := by
  cases d <;> simp only [aggD, reduceCtorEq, Option.some.injEq] at h
  rw [h]

theorem sim_mki {f g : FuncId} {v : Value} {r : DV × Meta} {cs : List DV} (hO : OrcOk C R) (hc : C.mki f = some g) (hrun : (execOp a.eval o).run C.P w = .ok (.enter f #[v]) w)
    (hd : isData r.2 = true) (hr : r.1 = .agg cs) (hl : cs.length = C.csz f) {p q : Nat} (hv : RR E w.heap p q r.1 r.2 v)
    (H : k ({ st with sg := st.sg ++ [SObj.box (cs.map fun d => (d, .val))] }.put o.dst .undef (.fn g [(st.sg.length, 0)])) = some x) (Rl : Rel E st a w.heap) (T : Then E w k x K) : Gp C.P o a w K := by
  have h1 := hv.data hd
  rw [hr] at h1
  simp only [RV] at h1
  obtain ⟨vs, rfl, h2⟩ := h1
  obtain ⟨l1, h3⟩ := RLs_iff.1 h2
  have l2 : vs.size = C.csz f := by rw [← hl, l1]; simp
  refine wp_enter hrun (((hO.m f g hc).2 w vs l2).mono ?_)
  rintro e w' ⟨rfl, T0, rfl⟩
  have cok : CellsOk E w.heap (cs.map fun d => (d, Meta.val)) vs.toList := by
    refine ⟨by simp [l1], fun j r' u hj hu => ?_⟩
    simp only [List.getElem?_map, Option.map_eq_some_iff] at hj
    obtain ⟨d, hd', rfl⟩ := hj
    obtain ⟨a1, a2⟩ := h3 j d u hd' hu
    exact ⟨⟨a1, RC_one a1 a2, rfl, RV_of_RC a1 a2⟩, by simp⟩
  obtain ⟨R1, P1⟩ := Rl.newObj (T0 := T0) cok
  refine ⟨_, rfl, T _ _ _ (w.alloc (.cells vs T0)) H (R1.put fun t0 _ => ?_) (P1.weaken (by simp)) ⟨rfl, rfl, rfl⟩⟩
  have hn := Rl.n
  simp only [RR, RM1, Env.newObj]
  refine ⟨?_, fun c hc => ?_⟩
  · simp [hn]
  · simp only [List.mem_singleton] at hc
    subst hc
    simp [Env.In, hn]

theorem sim_callF {f : FuncId} {ts : List TypeId} {xs : List Operand} {rs extra : List (DV × Meta)} {ev : List Value} (hO : OrcOk C R)
    (hrun : isGo C.P f = true → (execOp a.eval o).run C.P w = .ok (.enter f (xs.map a.eval ++ ev).toArray) w) (hsr : srcs C.P st ts xs = some rs) (hel : extra.length = ev.length)
    (hev : ∀ (i : Nat) r v, extra[i]? = some r → ev[i]? = some v → ∀ p q, RR E w.heap p q r.1 r.2 v ∧ r.2 ≠ .own ∧ r.2 ≠ .full)
    (H : callF C R o f xs (rs ++ extra) st k = some x) (Rl : Rel E st a w.heap) (T : Then E w k x K) : Gp C.P o a w K := by
  obtain ⟨l1, l2⟩ := srcs_eval Rl hsr
  have all : ∀ (i : Nat) r v, (rs ++ extra)[i]? = some r → (xs.map a.eval ++ ev)[i]? = some v → ∃ p q, RR E w.heap p q r.1 r.2 v := by
    intro i r v hr hv
    by_cases hi : i < rs.length
    · rw [List.getElem?_append_left hi] at hr
      rw [List.getElem?_append_left (by simpa [l1] using hi)] at hv
      obtain ⟨y, t, hy, rfl, hsy, hRy⟩ := l2 i r v hr hv
      exact ⟨_, _, hRy⟩
    · have hge : rs.length ≤ i := Nat.le_of_not_lt hi
      rw [List.getElem?_append_right hge] at hr
      rw [List.getElem?_append_right (by simpa [l1] using hge)] at hv
      simp only [List.length_map, ← l1] at hv
      exact ⟨0, 0, (hev _ r v hr hv 0 0).1⟩
  have hlen : (rs ++ extra).length = (xs.map a.eval ++ ev).length := by simp [l1, hel]
  unfold callF at H
  split at H
  · rename_i hc
    split at H
    · rename_i r hrs
      · obtain ⟨p, hp, H⟩ := ob_some H
        obtain ⟨sz, ds⟩ := p
        have hr1 : r.1 = .list sz ds := by
          cases hr : r.1 <;> rw [hr] at hp <;> simp only [dList, reduceCtorEq, Option.some.injEq, Prod.mk.injEq] at hp
          obtain ⟨rfl, rfl⟩ := hp
          rfl
        obtain ⟨hd, H9⟩ := og_some H
        simp only [Bool.and_eq_true, beq_iff_eq, decide_eq_true_eq] at hd
        obtain ⟨⟨hd, hz⟩, hl0⟩ := hd
        simp only [← hz] at H9
        rw [hrs] at hlen
        obtain ⟨v, hv⟩ := List.length_eq_one_iff.1 (hlen.symm : (xs.map a.eval ++ ev).length = 1)
        obtain ⟨p, q, hR⟩ := all 0 r v (by rw [hrs]; rfl) (by rw [hv]; rfl)
        have := hrun (hO.c f hc).1
        rw [hv] at this
        exact sim_clone hO hc this hd hz hl0 hr1 hR H9 Rl @T
    · simp at H
  · split at H
    · rename_i g hg
      split at H
      · rename_i r hrs
        obtain ⟨cs, hcs, H⟩ := ob_some H
        obtain ⟨hd, H9⟩ := og_some H
        simp only [Bool.and_eq_true, beq_iff_eq] at hd
        rw [hrs] at hlen
        obtain ⟨v, hv⟩ := List.length_eq_one_iff.1 (hlen.symm : (xs.map a.eval ++ ev).length = 1)
        obtain ⟨p, q, hR⟩ := all 0 r v (by rw [hrs]; rfl) (by rw [hv]; rfl)
        have := hrun (hO.m f g hg).1
        rw [hv] at this
        exact sim_mki hO hg this hd.1 (aggD_some hcs) hd.2 hR H9 Rl @T
      · simp at H
    split at H
    · have hp : isGo C.P f = true := by
        obtain ⟨_, H1⟩ := og_some H
        obtain ⟨d, hd, _⟩ := ob_some H1
        exact (hO.p f _ d hd).1
      exact sim_pure hO (hrun hp) hlen all H Rl @T
    · rename_i s hs
      have hp : isGo C.P f = true := by
        obtain ⟨_, H1⟩ := og_some H
        obtain ⟨d, hd, _⟩ := ob_some H1
        obtain ⟨_, _, h, _⟩ := hO.r f _ _ d hd
        exact h
      exact sim_raw hO hs (hrun hp) hsr hel hev H Rl @T

theorem sim_call {fl : Flags} {c : Call} (hO : OrcOk C R) (hop : o.op = .call c) (H : evCall C R fl o c st k = some x) (Rl : Rel E st a w.heap) (T : Then E w k x K) : Gp C.P o a w K := by
  unfold evCall at H
  split at H
  · rename_i b hb
    split at H
    · rename_i h1 h2; exact sim_len hop hb h1 h2 H Rl @T
    · rename_i h1 h2
      cases hvc : dstIn fl.vecs o.dst
      · cases hfl : dstIn fl.opn o.dst
        · exact sim_append hop hb h1 h2 hfl hvc H Rl @T
        · exact sim_append_opn hop hb h1 h2 hfl hvc H Rl @T
      · exact sim_vapp hop hb h1 h2 hvc H Rl @T
    · rename_i h1 h2; exact sim_clear hop hb h1 h2 H Rl @T
    · rename_i h1 h2; exact sim_max hop hb h1 H Rl @T
    · rename_i h1 h2; exact sim_min hop hb h1 H Rl @T
    · simp at H
  · rename_i fv hfv
    obtain ⟨r, h1, H1⟩ := ob_some H
    obtain ⟨rs, h2, H2⟩ := ob_some H1
    split at H2
    · rename_i f caps hr
      have hfn := Rl.src h1
      rw [hr] at hfn
      simp only [RR, RM1] at hfn
      refine sim_callF (ts := c.argTypes.toList) (ev := caps.map fun c => Value.pointer (some ⟨E.obj c.1, c.2, none⟩)) hO (fun hg => ?_) h2 (by simp) (fun i r' v hr' hv p q => ?_) H2 Rl @T
      · simp only [execOp, hop, resolve, hfv, hfn.1, Deferred.ofValue, Sem.run_bind, Sem.run_pure, Result.andThen_ok, invoke]
        rw [run_callFunc hg]
        congr 2
        apply Array.ext'
        simp
      · simp only [List.getElem?_map, Option.map_eq_some_iff] at hr' hv
        obtain ⟨m, hm, rfl⟩ := hr'
        obtain ⟨m', hm', rfl⟩ := hv
        rw [hm] at hm'
        cases hm'
        refine ⟨?_, by simp, by simp⟩
        simp only [RR, RM1]
        exact ⟨hfn.2 m (List.mem_of_getElem? hm), trivial⟩
    · simp at H2
  · simp at H

theorem sim_op {fl : Flags} (hO : OrcOk C R) (H : evOp C R fl o st k = some x) (Rl : Rel E st a w.heap) (T : Then E w k x K) : Gp C.P o a w K := by
  unfold evOp at H
  split at H
  · rename_i y hop; exact sim_move (by simp [execOp, hop]) H Rl @T
  · rename_i y hop; exact sim_move (by simp [execOp, hop]) H Rl @T
  · rename_i hop; exact sim_pick hop H Rl @T
  · rename_i hop; exact sim_alloc hop H Rl @T
  · rename_i hop; exact sim_box hop H Rl @T
  · rename_i hop; exact sim_build hop H Rl @T
  · rename_i hop; exact sim_buildSlice hop H Rl @T
  · rename_i hop; exact sim_load hop H Rl @T
  · rename_i hop; exact sim_store hop H Rl @T
  · rename_i hop; exact sim_nilCheck hop H Rl @T
  · rename_i hop; exact sim_bin hop H Rl @T
  · rename_i hop; exact sim_un hop H Rl @T
  · rename_i hop; exact sim_conv hop H Rl @T
  · rename_i hop; exact sim_fieldAddr hop H Rl @T
  · rename_i hop; exact sim_field hop H Rl @T
  · rename_i hop; exact sim_indexAddr hop H Rl @T
  · rename_i hop; exact sim_index hop H Rl @T
  · rename_i hop; exact sim_slice hop H Rl @T
  · rename_i hop; exact sim_makeFunc hop H Rl @T
  · rename_i hop; obtain ⟨q, _, H9⟩ := ob_some H; exact sim_makeMap hop H9 Rl @T
  · rename_i hop; exact sim_lookup hop H Rl @T
  · rename_i hop; exact sim_mapUpdate hop H Rl @T
  · rename_i hop; exact sim_extract hop H Rl @T
  · rename_i hop; exact sim_call hO hop H Rl @T
  · simp at H

end
end Go.Su
