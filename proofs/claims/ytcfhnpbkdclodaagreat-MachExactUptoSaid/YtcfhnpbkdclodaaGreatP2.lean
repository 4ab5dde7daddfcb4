/-
  Parts of the proof, merged: SuOp8, SuOp9, SuOp10, SuOp11, SuOp12, SuCall, SuOp13, SuOp14, SuSim, SuFrame, SuFrame2.
-/
import Derived.Laws.Tables
import Derived.RangeFuncLeaves
import Derived.RangeFuncNested
import Derived.Test.YtcfhnpbkdclodaaGreatP1
set_option linter.unusedVariables false
set_option linter.unusedSimpArgs false
/-
 THE DATA MACHINE, part 13: new variables, structs and slices built, maps made, functions made.
-/
open Array renaming getElem?_eq_some_iff → z13q, getElem?_setIfInBounds_self_of_lt → z15q, getElem?_setIfInBounds_ne → z16q, getElem?_eq_getElem → z35q, getElem?_push → z38q, getElem?_toList → z45q, size_push → z46q, getElem?_eq_none → z56q, getElem?_modify → z59q, length_toList → z64q, toList_inj → z71q
open Bool renaming false_eq_true → z14q, and_eq_true → z19q, not_false → z62q, false_and → z63q, true_and → z66q, not_true → z67q
open List renaming getElem?_eq_some_iff → z0q, getElem?_eq_getElem → z1q, getElem?_append_left → z2q, getElem?_append_right → z3q, getElem?_set_self → z4q, getElem?_set_ne → z5q, getElem?_cons_zero → z7q, getD_eq_getElem?_getD → z8q, getElem?_eq_none → z9q, getElem?_cons_succ → z12q, eq_nil_of_length_eq_zero → z18q, mem_of_getElem? → z20q, getElem?_map → z21q, flatMap_cons → z22q, all_eq_true → z23q, mem_iff_getElem → z24q, mem_append → z25q, length_eq_one_iff → z28q, getElem?_set_self' → z31q, length_set → z32q, length_cons → z34q, getElem?_take_of_lt → z36q, map_cons → z40q, ext_getElem? → z41q, append_assoc → z43q, getElem?_toArray → z44q, length_take → z48q, flatMap_append → z49q, getElem?_eq_none_iff → z50q, length_map → z52q, length_nil → z58q, map_congr_left → z61q, getElem?_drop → z65q, zipIdx_cons → z68q, filter_cons → z69q
open Nat renaming mul_le_mul_right → z6q, le_refl → z10q, zero_add → z11q, add_zero → z26q, succ_mul → z27q, add_mul → z29q, lt_or_ge → z30q, sub_self → z39q, zero_mul → z42q, add_assoc → z47q, le_of_eq → z51q, le_of_not_lt → z54q, mul_comm → z55q, succ_pos → z57q, le_succ → z60q, mul_pos → z70q
open Option renaming map_eq_some_iff → z17q, isSome_iff_exists → z33q, map_some → z37q, getD_some → z53q
namespace Go.Su
variable (vs : List Value) (off : Nat)
theorem q_ : ∀ (cells : Array Value) (n : Nat), off + n + vs.length <= cells.size -> ∀ j,
 ((vs.zipIdx n).foldl (fun (cs : Array Value) (p : Value × Nat) => cs.setIfInBounds (off + p.2) p.1) cells)[j]? = if off + n <= j /\ j < off + n + vs.length then vs[j - (off + n)]? else cells[j]? := by
 induction vs with
 | nil =>
   intro cells n _ j;simp only [List.zipIdx_nil, List.foldl_nil, z58q, z26q];rw [if_neg (by omega)]
 | cons v vs ih =>
   intro cells n hn j;simp only [z68q, List.foldl_cons, z34q] at hn ⊢;rw [ih _ (n + 1) (by simp; omega) j]
   by_cases h1 : j = off + n
   ·subst h1
    rw [if_neg (by omega), if_pos (by omega)]
    simp only [z39q, z7q];rw [z15q (by omega)]
   ·by_cases h2 : off + (n + 1) <= j /\ j < off + (n + 1) + vs.length
    ·rw [if_pos h2, if_pos (by omega)]
     rw [show j - (off + n) = (j - (off + (n + 1))) + 1 from by omega, z12q]
    ·rw [if_neg h2, if_neg (by omega), z16q (Ne.symm h1)]
theorem A3o : ∀ (cells : Array Value) (n : Nat), ((vs.zipIdx n).foldl (fun (cs : Array Value) (p : Value × Nat) => cs.setIfInBounds (off + p.2) p.1) cells).size = cells.size := by
 induction vs with
 | nil => intro cells n; simp
 | cons v vs ih => intro cells n; simp [z68q, ih]
variable (cells : Array Value)
def splice (off : Nat) (v : Value) : Array Value := v.cells.zipIdx.foldl (fun cs (c, j) => cs.setIfInBounds (off + j) c) cells
theorem A7j (off : Nat) (v : Value) : splice cells off v = (v.cells.toList.zipIdx 0).foldl (fun (cs : Array Value) (p : Value × Nat) => cs.setIfInBounds (off + p.2) p.1) cells := by
 unfold splice;rw [<- Array.foldl_toList];simp
variable {off : Nat}
theorem A6V (place : Nat -> Option (Nat × Nat)) (cells : Array Value) (i : Nat) (v : Value) (rest : List (Nat × Value)) {size : Nat} (h1 : place i = some (off, size)) (h2 : v.cells.size = size) (h3 : off + size <= cells.size) :
 Instr.fill place cells ((i, v) :: rest) = Instr.fill place (splice cells off v) rest := by
 simp only [Instr.fill, h1];rw [if_neg (by simp only [h2, ne_eq, not_true_eq_false, z14q, false_or, decide_false, Bool.or_eq_true, decide_eq_true_eq]; omega)]
 rfl
theorem A87 {α β : Type} {f : α -> Option β} : ∀ {l : List α} {r : List β}, l.mapM f = some r -> ∀ (i : Nat) y, l[i]? = some y -> ∃ z, f y = some z /\ r[i]? = some z
 | [], r, h, i, y, hy => by simp at hy
 | u :: us, r, h, i, y, hy => by
   simp only [List.mapM_cons, Option.bind_eq_bind, Option.pure_def, Option.bind_eq_some_iff] at h;obtain ⟨z, hz, zs, ZV, hr⟩ := h;simp only [Option.some.injEq] at hr;subst hr;cases i with
   | zero => simp only [z7q, Option.some.injEq] at hy; subst hy; exact ⟨z, hz, rfl⟩
   | succ i => simp only [z12q] at hy ⊢; exact A87 ZV i y hy
section
variable {X : Type} {C : AO} {R : Q8} {o : Oper} {st : St} {k : St -> Option X} {x : X} {E : Env} {a : Act} {w : World} {K : Act -> World -> Prop} {Q : Exit -> Act -> World -> Prop} {h : Heap} {arr : Array Value} {v : Value}
theorem FW.splice {cs xs : List (DV × Meta)} (H : FW E h cs arr.toList) (G : FW E h xs v.cells.toList) (J3 : off + xs.length <= cs.length) :
 FW E h (putAt cs off xs) (Su.splice arr off v).toList := by
 obtain ⟨l1, l2⟩ := H;obtain ⟨g1, g2⟩ := G;have l1' : cs.length = arr.size := by simpa using l1
 have g1' : xs.length = v.cells.toList.length := g1;rw [A7j];refine ⟨by rw [Be J3]; simp [A3o, l1'], fun j r u hr hu => ?_⟩
 rw [Dm J3] at hr;have Iz := hu;rw [z45q, q_ _ _ _ _ (by omega)] at Iz
 simp only [z26q] at Iz
 by_cases hc : off <= j /\ j < off + xs.length
 ·rw [if_pos hc] at hr
  rw [if_pos (by omega)] at Iz
  exact g2 _ r u hr Iz
 ·rw [if_neg hc] at hr
  rw [if_neg (by omega)] at Iz
  exact l2 j r u hr (by simpa using Iz)
theorem sK {t : TypeId} {pl : Nat -> Option (Nat × Nat)} (hp : ∀ i q inf, partAt C.P t i = some q -> C.P.info? q.1 = some inf -> pl i = some (q.2, inf.size)) (Rl : K3 E st a w.heap)
 {F : List (DV × Meta) -> Option X} : ∀ (ps : List (Nat × Operand)) (cs : List (DV × Meta)) (arr : Array Value), GV C.P t st ps cs F = some x -> FW E w.heap cs arr.toList ->
 ∃ cs' arr', F cs' = some x /\ Instr.fill pl arr (ps.map fun p => (p.1, a.eval p.2)) = some arr' /\ FW E w.heap cs' arr'.toList
 | [], cs, arr, H, G => ⟨cs, arr, H, rfl, G⟩
 | (i, y) :: ps, cs, arr, H, G => by
   simp only [GV] at H;obtain ⟨f, hf, H⟩ := C8 H;obtain ⟨r, hr, H⟩ := C8 H;have wC : ∃ z, tz C.P f.1 = some z := by
    unfold explode at H;obtain ⟨z, hz, -⟩ := C8 H;exact ⟨z, hz⟩
   obtain ⟨z, wC⟩ := wC;obtain ⟨xs, H, hl, AJ⟩ := Zq wC (Rl.src hr) H;obtain ⟨J3, H⟩ := K9 H;obtain ⟨inf, d', Ac, -, h2, -⟩ := HY wC;have BF : z.1 = inf.size := by rw [h2]
   have Xx : cs.length = arr.size := by simpa using G.1
   have Vm : (a.eval y).cells.size = inf.size := by have := AJ.1; simp at this; omega
   obtain ⟨cs', arr', q1, q2, q3⟩ := sK hp Rl ps _ _ H (G.splice AJ J3);refine ⟨cs', arr', q1, ?_, q3⟩;rw [z40q, A6V _ _ _ _ _ (off := f.2) (size := inf.size) (hp i f inf hf Ac) Vm (by omega)]
   exact q2
variable {t : TypeId} {ps : Array (Nat × Operand)}
theorem B4j (F3 : o.op = .build t ps) (H : (ob (Ku C.P t) fun zs => ob (places C.P t) fun _ => GV C.P t st ps.toList zs fun cs => k (st.put o.dst (gM cs).1 (gM cs).2)) = some x) (Rl : K3 E st a w.heap) (T : Then E w k x K) : Gp C.P o a w K := by
 obtain ⟨zs, ZV, H⟩ := C8 H;obtain ⟨pl, X_, H⟩ := C8 H;obtain ⟨inf, zv, Ac, Sr, AJ⟩ := XZ ZV;have fin : ∀ (pf : Nat -> Option (Nat × Nat)), (∀ i q inf, partAt C.P t i = some q -> C.P.info? q.1 = some inf -> pf i = some (q.2, inf.size)) ->
  (∀ l, C.P.built t l = Instr.fill pf zv.cells l) -> Gp C.P o a w K := by
  intro pf hp hbl;obtain ⟨cs, arr, H, B2i, Fv⟩ := sK hp Rl ps.toList zs zv.cells H (AJ E w.heap);have hb : C.P.built t (ps.map fun (i, y) => (i, a.eval y)).toList = some arr := by
   rw [hbl, <- B2i];simp
  refine V4 (v := .agg arr) ?_ H Rl (fun t0 _ => ?_) @T
  ·simp only [execOp, F3]
   exact Bv (run_build w t _ arr hb)
  ·have := A3w (E := E) (w := w) (cs := cs) (vs := arr.toList) Fv.1.symm (fun j v r hv hr => let ⟨⟨a1, a2, a3, a4⟩, _⟩ := Fv.2 j r v hr hv; ⟨a1, a2, a3, _, a4⟩) 0 t0
   simpa using this
 unfold places at X_
 split at X_
 ·rename_i fs hu
  refine fin (pl.toArray[·]?) (fun i q inf hq Ac => ?_) (fun l => by unfold Program.built; simp only [Ac, hu, Sr, X_])
  simp only [partAt, hu, z17q] at hq;obtain ⟨f, hf, rfl⟩ := hq;obtain ⟨z, hz, hzi⟩ := A87 X_ i f (by simpa using hf)
  rw [Ac] at hz;simp only [z37q, Option.some.injEq] at hz;subst hz;simpa using hzi
 ·rename_i n e hu
  simp only [z17q] at X_;obtain ⟨ie, hie, -⟩ := X_;refine fin (fun i => some (i * ie.size, ie.size)) (fun i q inf hq Ac => ?_) (fun l => by unfold Program.built; simp only [Ac, hu, Sr, hie])
  simp only [partAt, hu, hie, z37q, Option.some.injEq] at hq;subst hq;rw [hie] at Ac;simp only [Option.some.injEq] at Ac;subst Ac;rfl
 ·simp at X_
variable {fl : Flags}
theorem B4i (F3 : o.op = .alloc t) (H : (ob (Ku C.P t) fun cs => og (OM (J4 fl.shared o.dst) o.dst st) (k (st.Am (J4 fl.shared o.dst) o.dst cs))) = some x) (Rl : K3 E st a w.heap) (T : Then E w k x K) : Gp C.P o a w K := by
 obtain ⟨zs, ZV, H⟩ := C8 H;obtain ⟨inf, zv, Ac, Sr, AJ⟩ := XZ ZV;obtain ⟨_, H9⟩ := F9 H;refine A5n (AJ E w.heap) H9 (T0 := t) ?_ Rl @T;simp only [execOp, F3];refine Bv ?_;unfold Instr.alloc;simp [zeroValue, typeInfo, Ac, Sr, newVar, newRow]
def gL (S : Z5) (h : Heap) (sz : Nat) (ds : List DV) (arr : Array Value) : Prop :=
 arr.size = ds.length * sz /\ ∀ (i : Nat) d, ds[i]? = some d -> ∃ vs : List Value, vs.length = sz /\ (∀ (j : Nat) u, vs[j]? = some u -> arr[i * sz + j]? = some u) /\ RC S h d vs
variable {sz : Nat}
theorem seg_lt {i j n : Nat} (hi : i < n) (hj : j < sz) : i * sz + j < n * sz := by
 calc i * sz + j < i * sz + sz := by omega
  _ = (i + 1) * sz := by rw [z27q]
  _ <= n * sz := z6q _ hi
theorem A5y {i i' j j' : Nat} (hj : j < sz) (DI : j' < sz) (h : i * sz + j = i' * sz + j') : i = i' := by
 have hpos : 0 < sz := by omega
 have h1 : (i * sz + j) / sz = i := by rw [z55q, Nat.mul_add_div hpos, Nat.div_eq_of_lt hj, z26q]
 have h2 : (i' * sz + j') / sz = i' := by rw [z55q, Nat.mul_add_div hpos, Nat.div_eq_of_lt DI, z26q]
 rw [<- h1, <- h2, h]
theorem qD {z : Nat × Bool} (GL : z.2 = false -> z.1 = 1) {p q : Nat} {r : DV × Meta} {F : DV -> Option X} (R : RR E h p q r.1 r.2 v) (H : Lb z r F = some x) :
 F r.1 = some x /\ v.cells.size = z.1 /\ RC E.S h r.1 v.cells.toList := by
 unfold Lb at H;obtain ⟨hd, H⟩ := F9 H;have R1 := R.data hd
 by_cases h2 : z.2 = true
 ·rw [if_pos h2] at H
  obtain ⟨hg, H⟩ := F9 H;obtain ⟨vs, rfl, hs, hR⟩ := xc hg R1;exact ⟨H, hs, hR⟩
 ·rw [if_neg h2] at H
  obtain ⟨hc, H⟩ := F9 H;have ho := A5j hc R1;have hv : v.cells = #[v] := by cases v <;> first | rfl | (simp [Value.oneCell'] at ho)
  refine ⟨H, by rw [hv, GL (by simpa using h2)]; rfl, ?_⟩
  rw [hv];exact Mr (A3e hc) ho R1
variable {ds : List DV}
theorem gL.splice {i : Nat} {d : DV} (H : gL E.S h sz ds arr) (hi : i < ds.length) (hs : v.cells.size = sz) (hR : RC E.S h d v.cells.toList) :
 gL E.S h sz (ds.set i d) (Su.splice arr (i * sz) v) := by
 obtain ⟨l1, l2⟩ := H;have JI : v.cells.toList.length = sz := by simpa using hs
 have Da : i * sz + 0 + v.cells.toList.length <= arr.size := by
  rw [l1, JI, z26q, <- z27q];exact z6q _ hi
 rw [A7j];refine ⟨by rw [A3o, l1, z32q], fun i' d' Dq => ?_⟩
 by_cases Dr : i = i'
 ·subst Dr
  rw [z4q hi] at Dq;simp only [Option.some.injEq] at Dq;subst Dq;refine ⟨v.cells.toList, JI, fun j u hu => ?_, hR⟩
  have hj : j < sz := by have := (z0q.1 hu).1; omega
  rw [q_ _ _ _ _ Da, if_pos (by omega)]
  rw [<- hu]
  congr 1
  omega
 ·rw [z5q Dr] at Dq
  obtain ⟨us, u1, u2, u3⟩ := l2 i' d' Dq;refine ⟨us, u1, fun j u hu => ?_, u3⟩
  have hj : j < sz := by have := (z0q.1 hu).1; omega
  rw [q_ _ _ _ _ Da, if_neg, u2 j u hu];rintro ⟨c1, c2⟩;exact Dr (A5y (j := i' * sz + j - i * sz) (j' := j) (by omega) hj (by omega))
variable {P : Program} {y : Operand}
theorem K3.kW (Rl : K3 E st a w.heap) {r : DV × Meta} (H : kW P t st y = some r) : RR E w.heap 0 (oM y) r.1 r.2 (a.eval y) := by
 unfold Su.kW at H
 split at H
 ·rename_i vs
  obtain ⟨ts, h1, H⟩ := C8 H;obtain ⟨rs, h2, H⟩ := C8 H;obtain ⟨hd, H⟩ := F9 H;simp only [Option.some.injEq] at H;subst H;have G := xm (E := E) (h := w.heap) h2
  show RV E.S w.heap (.agg _) (.agg vs)
  simp only [RV];refine ⟨vs, rfl, EO.2 ⟨by simpa using G.1, fun j d u hj hu => ?_⟩⟩
  rw [z21q] at hj;cases hr : rs[j]? with
  | none => rw [hr] at hj; cases hj
  | some r =>
    rw [hr, z37q, Option.some.injEq] at hj;subst hj;obtain ⟨⟨a1, a2, a3, a4⟩, a5⟩ := G.2 j r u hr (by simpa using hu)
    have Yl := z23q.1 hd r (z20q hr);exact ⟨a1, Mr a1 a2 (RR.data (k := 9) (a := 0) Yl (RR.AU (a4.tag a5)))⟩
 ·exact Rl.src H
theorem wJ {e : TypeId} {z : Nat × Bool} (GL : z.2 = false -> z.1 = 1) (Rl : K3 E st a w.heap) {F : List DV -> Option X} : ∀ (ps : List (Nat × Operand)) (ds : List DV) (arr : Array Value), Gm C.P e z st ps ds F = some x -> gL E.S w.heap z.1 ds arr ->
 ∃ ds' arr', F ds' = some x /\ ds'.length = ds.length /\ Instr.fill (fun i => some (i * z.1, z.1)) arr (ps.map fun p => (p.1, a.eval p.2)) = some arr' /\ gL E.S w.heap z.1 ds' arr'
 | [], ds, arr, H, G => ⟨ds, arr, H, rfl, rfl, G⟩
 | (i, y) :: ps, ds, arr, H, G => by
   simp only [Gm] at H;obtain ⟨r, hr, H⟩ := C8 H;obtain ⟨H, hs, hR⟩ := qD GL (Rl.kW hr) H;obtain ⟨hi, H⟩ := K9 H;obtain ⟨ds', arr', q1, q2, q3, q4⟩ := wJ GL Rl ps _ _ H (G.splice hi hs hR);refine ⟨ds', arr', q1, by simpa using q2, ?_, q4⟩
   rw [z40q, A6V _ _ _ _ _ (off := i * z.1) (size := z.1) rfl hs ?_]
   ·exact q3
   ·rw [G.1, <- z27q]
    exact z6q _ hi
def Env.Og (E : Env) (b n : Nat) : Env := { E with O := fun b' o => if b' = b then (if o < n then .shut else .other) else E.O b' o }
theorem qY (E : Env) (h : Heap) (ob : Obj) (n : Nat) : Pr (fun _ => False) E h (E.Og h.size n) (h.push ob) := by
 refine Pr.push (fun b o hb _ => ?_) (z10q _) (fun _ _ _ => ⟨rfl, rfl, rfl⟩) (fun _ _ => rfl) (Dc rfl)
 simp only [Env.Og]; rw [if_neg (by omega)]
theorem K3.push {E' : Env} {ob : Obj} (Rl : K3 E st a h) (P : Pr (fun _ => False) E h E' (h.push ob)) (hn : E'.n = E.n) (hf : ∀ b o, (h.push ob).size <= b -> E'.O b o = .other) : K3 E' st a (h.push ob) := by
 have J3 := P.shut (by simp) Rl.fresh
 exact ⟨Rl.size, Rl.Af, Rl.Ca, by rw [hn]; exact Rl.n, fun t v hv => (Rl.regs t v hv).mono P J3 (by simp) (by simp), fun s cs hs => by rw [P.jg s (by simp)]; exact (Rl.boxes s cs hs).mono P J3 (by simp) (by simp),
  fun i ob hi => (Rl.U4 i ob hi).mono P J3 (by rw [<- Rl.n]; exact (z0q.1 hi).1) (by simp) (by simp), hf⟩
variable {T0 : TypeId}
theorem B0E (hf : ∀ b o, h.size <= b -> E.O b o = .other) (H : gL E.S h sz ds arr) (hpos : ds ≠ [] -> 0 < sz) :
 RV (E.Og h.size arr.size).S (h.push (.cells arr T0)) (.list sz ds) (.slice (some ⟨h.size, 0, none⟩) ds.length ds.length) := by
 have P := qY E h (.cells arr T0) arr.size;have J3 := P.shut (by simp) hf
 refine UB rfl (z10q _) (by simp) hpos fun y hy => ?_
 simp only [Option.some.injEq] at hy;subst hy;refine ⟨fun _ => rfl, EA.2 fun i d hd => ?_⟩
 obtain ⟨vs, v1, v2, v3⟩ := H.2 i d hd;refine ⟨vs, v1, fun j u hu => ?_, v3.mono J3⟩
 have hj : j < sz := by have := (z0q.1 hu).1; omega
 have hi : i < ds.length := (z0q.1 hd).1;have L8 := seg_lt hi hj;refine ⟨by rw [z11q, A0f]; exact v2 j u hu, ?_⟩
 simp only [Env.S, Env.Og, if_true];rw [if_pos (by rw [H.1]; omega)]
theorem B05 {z : Nat × Bool} {cs : List (DV × Meta)} {ze : DV} {zv : Value} (H : rO z cs = some ze) (G : FW E h cs zv.cells.toList) (hd : cs.all (fun c => J6 c.2) = true) : RC E.S h ze zv.cells.toList := by
 have one : ∀ (j : Nat) r u, cs[j]? = some r -> zv.cells.toList[j]? = some u -> M4 r.1 = true /\ RC E.S h r.1 [u] := by
  intro j r u hr hu;obtain ⟨⟨a1, a2, a3, a4⟩, a5⟩ := G.2 j r u hr hu;have Yl := z23q.1 hd r (z20q hr);refine ⟨a1, Mr a1 a2 ?_⟩;exact RR.data (k := 9) (a := 0) Yl (RR.AU (a4.tag a5))
 unfold rO at H
 split at H
 ·simp only [Option.some.injEq] at H
  subst H;simp only [RC];refine EO.2 ⟨by simpa using G.1, fun j d u hj hu => ?_⟩
  simp only [z21q, z17q] at hj;obtain ⟨r, hr, rfl⟩ := hj;exact one j r u hr hu
 ·split at H
  ·rename_i c
   simp only [Option.some.injEq] at H;subst H;have JI : zv.cells.toList.length = 1 := by simpa using G.1.symm
   match hz : zv.cells.toList, JI with
   | [u], _ => exact (one 0 c u rfl (by rw [hz]; rfl)).2
  ·simp at H
def Env.Dk (E : Env) (b hi : Nat) : Env :=
 { E with obj := fun i => if i = E.n then b else E.obj i, base := fun i => if i = E.n then 0 else E.base i, top := fun i => if i = E.n then hi else E.top i, Aa := fun i => if i = E.n then 1 else E.Aa i, n := E.n + 1,
          O := fun b' o => if b' = b then (if o < hi then .obj E.n else .other) else E.O b' o }
theorem K3.Dk (Rl : K3 E st a h) (G : gL E.S h sz ds arr) (hz : sz ≠ 0) :
 Pr (fun _ => False) E h (E.Dk h.size arr.size) (h.push (.cells arr T0)) /\ K3 (E.Dk h.size arr.size) { st with sg := st.sg ++ [C9.M6 1 sz ds] } a (h.push (.cells arr T0)) /\
 ∀ tg, J8 (E.Dk h.size arr.size) (h.push (.cells arr T0)) tg .undef (.M6 st.sg.length 1 sz ds.length) (.slice (some ⟨h.size, 0, none⟩) ds.length ds.length) := by
 have hn := Rl.n;have vE : (E.Dk h.size arr.size).Aa E.n = 1 := if_pos rfl;have oE : (E.Dk h.size arr.size).obj E.n = h.size := if_pos rfl;have bE : (E.Dk h.size arr.size).base E.n = 0 := if_pos rfl;have tE : (E.Dk h.size arr.size).top E.n = arr.size := if_pos rfl;have P1 : Pr (fun _ => False) E h (E.Dk h.size arr.size) (h.push (.cells arr T0)) := by
  refine Pr.push (fun b o hb _ => ?_) (z60q _) (fun i hi _ => ?_) (fun _ _ => rfl) (fun i hi => ?_)
  ·simp only [Env.Dk]; rw [if_neg (by omega)]
  ·refine ⟨?_, ?_, ?_⟩ <;> simp only [Env.Dk] <;> rw [if_neg (by omega)]
  ·have : (E.Dk h.size arr.size).Aa i = E.Aa i := if_neg (by omega)
   rw [this]; exact ⟨id, z10q _, fun _ => rfl⟩
 have J3 := P1.shut (by simp) Rl.fresh
 refine ⟨P1, ⟨Rl.size, Rl.Af, Rl.Ca, by simp [Env.Dk, Rl.n], fun t v hv => (Rl.regs t v hv).mono P1 J3 (by simp) (by simp), fun s cs hs => (Rl.boxes s cs hs).mono P1 J3 (by simp) (by simp), fun i ob hi => ?_,
         fun b o hb => ?_⟩, fun tg => ⟨by rw [hn]; exact Nat.lt_succ_self _, by omega, by rw [hn, vE]; exact z10q _, _, _, rfl, z10q _, by simp, fun _ y hy => ?_, fun _ _ => ?_⟩⟩
 ·by_cases L8 : i < st.sg.length
  ·simp only [z2q L8] at hi
   exact (Rl.U4 i ob hi).mono P1 J3 (by rw [<- hn]; exact L8) (by simp) (by simp)
  ·have JR : i = st.sg.length := by
    have := (z0q.1 hi).1;simp at this; omega
   subst JR;simp only [z3q (z10q _), z39q, z7q, Option.some.injEq] at hi;subst hi;rw [hn];refine ⟨vE, by omega, by omega, .inr ⟨arr, T0, (0, 0), by rw [oE]; exact Kn, by rw [bE, tE, G.1]; omega, by rw [tE]; exact z10q _, fun o h3 h4 => ?_, fun j d hd => ?_⟩⟩
   ·rw [oE]
    rw [tE] at h4;refine ⟨?_, by omega⟩
    simp only [Env.Dk, if_true];rw [if_pos h4]
   ·obtain ⟨vs, v1, v2, v3⟩ := G.2 j d hd
    exact ⟨vs, v1, fun y u hu => by rw [bE, z11q]; exact v2 y u hu, v3.mono J3⟩
 ·have GJ : h.size + 1 <= b := by simpa using hb
  simp only [Env.Dk];rw [if_neg (by omega)]
  exact Rl.fresh b o (by omega)
 ·simp only [Option.some.injEq] at hy; rw [<- hy]
 ·rw [hn, oE, bE, tE, G.1]
  exact ⟨rfl, by omega⟩
theorem A6f {n : Nat} (F3 : o.op = .buildSlice t n ps) (H : (ob (IL C.P t) fun e => ob (tz C.P e) fun z => ob (Ku C.P e) fun zs => ob (rO z zs) fun ze =>
   if (n * z.1 <= 2 ^ 24 /\ z.1 ≠ 0) /\ zs.length = z.1 /\ zs.all (fun c => J6 c.2) = true then Gm C.P e z st ps.toList (List.replicate n ze) fun ds =>
    if J4 fl.DR o.dst then k ({ st with sg := st.sg ++ [C9.M6 1 z.1 ds] }.put o.dst .undef (.M6 st.sg.length 1 z.1 n)) else k (st.put o.dst (.list z.1 ds) .full) else none) = some x) (Rl : K3 E st a w.heap) (T : Then E w k x K) : Gp C.P o a w K := by
 obtain ⟨e, he, H⟩ := C8 H;obtain ⟨z, hz, H⟩ := C8 H;obtain ⟨zs, ZV, H⟩ := C8 H;obtain ⟨ze, eB, H⟩ := C8 H;obtain ⟨⟨⟨C1O, hz0⟩, hzl, Yl⟩, H⟩ := K9 H;have hu : C.P.underlying t = some (.slice e) := by
  unfold IL at he
  split at he
  ·simp only [Option.some.injEq] at he; subst he; assumption
  ·simp at he
 obtain ⟨inf, zv, Ac, Sr, AJ⟩ := XZ ZV;obtain ⟨inf', dsc, B2j, hue, hzz, GL⟩ := HY hz;rw [Ac] at B2j;simp only [Option.some.injEq] at B2j;subst B2j;have qR : z.1 = inf.size := by rw [hzz]
 have B81 : zv.cells.size = z.1 := by have := (AJ E w.heap).1; simp at this; omega
 have hRC := B05 (E := E) (h := w.heap) eB (AJ E w.heap) Yl;have B2m : gL E.S w.heap z.1 (List.replicate n ze) ((Array.range (n * z.1)).map (zv.cells[· % zv.cells.size]!)) := by
  refine ⟨by simp, fun i d hd => ?_⟩
  have hi : i < n := by have := (z0q.1 hd).1; simpa using this
  rw [List.getElem?_replicate, if_pos hi] at hd;simp only [Option.some.injEq] at hd;subst hd;refine ⟨zv.cells.toList, by simpa using B81, fun j u hu => ?_, hRC⟩
  have hj : j < z.1 := by have := (z0q.1 hu).1; simp at this; omega
  have L8 := seg_lt hi hj;rw [Array.getElem?_map, Array.getElem?_range, if_pos L8];simp only [z37q, Option.some.injEq];rw [B81, z55q, Nat.mul_add_mod, Nat.mod_eq_of_lt hj];rw [getElem!_def, show zv.cells[j]? = some u from by simpa using hu]
 obtain ⟨ds, arr, H, hdl, B2i, hsg⟩ := wJ GL Rl ps.toList _ _ H B2m;have hdn : ds.length = n := by simpa using hdl
 have P1 := qY E w.heap (.cells arr e) arr.size;have U1 : (execOp a.eval o).run C.P w = .ok (.value (.slice (some ⟨w.heap.size, 0, none⟩) n n)) (w.alloc (.cells arr e)) := by
  simp only [execOp, F3];refine Bv ?_;unfold Instr.buildSlice;have A8W : Instr.fill (fun i => some (i * z.1, z.1)) ((Array.range (n * z.1)).map (zv.cells[· % zv.cells.size]!)) (ps.map fun (i, y) => (i, a.eval y)).toList = some arr := by
   rw [<- B2i]; simp
  simp only [Sem.run_bind, run_underlying hu, Result.andThen_ok, Ni hz, Sem.run_ite];rw [if_neg (by omega)]
  by_cases hn0 : n * z.1 = 0
  ·have : ((Array.range (n * z.1)).map (zv.cells[· % zv.cells.size]!)) = ((Array.range (n * z.1)).map ((#[] : Array Value)[· % (#[] : Array Value).size]!)) := by rw [hn0]; simp
   rw [this] at A8W;simp only [Sem.run_pure, Result.andThen_ok, if_pos hn0, A8W];rfl
  ·simp only [if_neg hn0, zeroValue, typeInfo, Sem.run_bind, run_program, Result.andThen_ok, Ac, Sem.run_pure, Sr, A8W]
   rfl
 by_cases hq : J4 fl.DR o.dst = true
 ·rw [if_pos hq] at H
  obtain ⟨P2, R2, R3⟩ := Rl.Dk (T0 := e) hsg hz0;exact Ap U1 (T (E.Dk w.heap.size arr.size) _ _ (w.alloc (.cells arr e)) H (R2.put fun t0 _ => by rw [<- hdn]; exact RR.AU (R3 _)) (P2.weaken (by simp)))
 rw [if_neg hq] at H;refine Ap U1 (T (E.Og w.heap.size arr.size) _ _ (w.alloc (.cells arr e)) H ((Rl.push P1 rfl fun b o hb => ?_).put fun t0 _ => ?_) (P1.weaken (by simp)))
 ·simp only [z46q] at hb
  simp only [Env.Og];rw [if_neg (by omega)]
  exact Rl.fresh b o (by omega)
 ·refine ⟨?_, ⟨_, _, rfl⟩, _, _, rfl⟩
  have := B0E (T0 := e) Rl.fresh hsg (fun _ => by omega)
  rw [hdn] at this;exact this
def Ps (y : Operand) (t off : Nat) (T : Tag) : Tag :=
 match y, T with
 | .tmp s', .sp 0 s (b + 1) => if s' = s then .sp 1 t (off + b) else .sp 0 s (b + 1)
 | _, T => T
theorem Mv {t : Nat} {T : Tag} (h : ∀ s b, y = .tmp s -> T ≠ .sp 0 s b) : Ps y t off T = T := by
 unfold Ps
 split
 ·split
  ·rename_i hx; subst hx; exact absurd rfl (h _ _ rfl)
  ·rfl
 ·rfl
theorem Cv.box {E : Env} {t j : Nat} {r : DV × Meta} (hy : (∀ i, y ≠ .tmp i) -> r.2 ≠ .own) (H : Cv E h (.sp 0 (oM y) (j + 1)) r v) : Cv (E.re (Ps y t off)) h (.sp 1 t (off + j)) r v := by
 obtain ⟨a1, a2, a3, a4⟩ := H;refine ⟨a1, a2, a3, ?_⟩
 by_cases hx : ∃ i, y = .tmp i
 ·obtain ⟨i, rfl⟩ := hx
  exact a4.re (Mv (by simp)) (by simp [Ps, oM])
 ·have ZR := hy fun i hi => hx ⟨i, hi⟩
  have a5 : J8 (E.re (Ps y t off)) h .other r.1 r.2 v := (a4.tag ZR : J8 E h .other r.1 r.2 v).re (Mv (by simp)) (Mv (by simp))
  exact a5.tag ZR
theorem A68 {r : DV × Meta} (hs : src P t st y = some r) (hy : ∀ i, y ≠ .tmp i) : ∀ ms, r.2 ≠ .DZ ms := by
 cases y with
 | tmp i => exact absurd rfl (hy i)
 | const v => exact A6H hs
 | func f => simp only [src, Option.some.injEq] at hs; subst hs; simp
 | global g => simp [src] at hs
theorem B7L (F3 : o.op = .box t y) (H : (ob (src C.P t st y) fun r =>
 if J4 fl.Wp o.dst then ob (tz C.P t) fun z => og (J6 r.2 && D6 z.1 r.1 && z.2) (k (st.put o.dst (.Hz z.1 r.1) .val))
 else if J4 fl.P7 o.dst then Hw C.P t r fun cs => og (OM false o.dst st) (k ((st.release y).Am false o.dst cs))
 else explode C.P t r fun cs => og (OM (J4 fl.shared o.dst) o.dst st) (k (st.Am (J4 fl.shared o.dst) o.dst cs))) = some x) (Rl : K3 E st a w.heap) (T : Then E w k x K) : Gp C.P o a w K := by
 obtain ⟨r, hr, H⟩ := C8 H;have U1 : (execOp a.eval o).run C.P w = .ok (.value (.pointer (some ⟨w.heap.size, 0, none⟩))) (w.alloc (.cells (a.eval y).cells t)) := by
  simp only [execOp, F3];refine Bv ?_;simp [Instr.box, newVar, newRow]
 have e1 := Rl.src hr
 by_cases Iy : J4 fl.Wp o.dst = true
 ·-- a variable that is sealed at once
  rw [if_pos Iy] at H;obtain ⟨z, hz, H⟩ := C8 H;obtain ⟨hd, H⟩ := F9 H;simp only [z19q] at hd;obtain ⟨vs, hv, hs, hR⟩ := xc hd.1.2 (e1.data hd.1.1);have P1 := qY E w.heap (.cells (a.eval y).cells t) z.1;refine Ap U1 (T (E.Og w.heap.size z.1) _ _ (w.alloc (.cells (a.eval y).cells t)) H ((Rl.push P1 rfl fun b o hb => ?_).put fun t0 _ => ?_) (P1.weaken (by simp)))
  ·simp only [z46q] at hb
   simp only [Env.Og];rw [if_neg (by omega)]
   exact Rl.fresh b o (by omega)
  ·show RV _ _ _ _
   have J3 := P1.shut (by simp) Rl.fresh
   simp only [RV, RC];refine ⟨_, _, rfl, vs.toList, by simpa using hs, fun j v YA => ?_, hR.mono J3⟩
   have hj : j < z.1 := by have := (z0q.1 YA).1; simp at this; omega
   rw [z11q];refine ⟨?_, ?_⟩
   ·show hc (w.heap.push _) w.heap.size j = _
    rw [A0f, hv];simpa [Value.cells] using YA
   ·simp only [Env.S, Env.Og, if_true]
    rw [if_pos hj]
 rw [if_neg Iy] at H
 by_cases S9 : J4 fl.P7 o.dst = true
 ·rw [if_pos S9] at H
  have wC : ∃ z, tz C.P t = some z := by
   unfold Hw at H;obtain ⟨z, hz, -⟩ := C8 H;exact ⟨z, hz⟩
  obtain ⟨z, wC⟩ := wC;obtain ⟨xs, H, hl, ⟨lc, AJ⟩, ZR⟩ := A2J wC e1 H;obtain ⟨_, H⟩ := F9 H;cases hd : o.dst with
  | none => rw [hd] at S9; simp [J4] at S9
  | some t0 =>
    rw [hd] at H;refine Ap U1 ?_;rw [hd];simp only [St.Am, z14q, if_false] at H;have Rl1 := Rl.release (x := y) (f := Ps y t0 0) fun T hT => Mv hT
    have P0 : Pr O3 E w.heap (E.re (Ps y t0 0)) w.heap := Pr.re fun T hT => Mv fun s b _ he => hT (by rw [he]; simp [O3])
    obtain ⟨R1, P1⟩ := Rl1.EP (t0 := t0) (T0 := t) lc fun j r' v AR hv => by
     have := (AJ j r' v AR hv).box (t := t0) (off := 0) fun hy => ZR (A68 hr hy) r' (z20q AR)
     rwa [z11q] at this
    rw [Array.toArray_toList] at R1 P1;refine T _ _ _ (w.alloc (.cells (a.eval y).cells t)) H (R1.put fun t1 ht => ?_) (P0.trans (P1.weaken (by rintro T rfl; simp [O3])))
    simp only [Option.some.injEq] at ht;subst ht;refine RR.AU ⟨rfl, ?_⟩;simp only [Env.EP, if_true]
 rw [if_neg S9] at H;have wC : ∃ z, tz C.P t = some z := by
  unfold explode at H;obtain ⟨z, hz, -⟩ := C8 H;exact ⟨z, hz⟩
 obtain ⟨z, wC⟩ := wC;obtain ⟨xs, H, hl, AJ⟩ := Zq wC e1 H;obtain ⟨_, H9⟩ := F9 H;exact A5n AJ H9 (T0 := t) (by simpa using U1) Rl @T
def Env.NW (E : Env) (b : Nat) : Env :=
 { E with obj := fun i => if i = E.n then b else E.obj i, base := fun i => if i = E.n then 0 else E.base i, n := E.n + 1, Aa := fun i => if i = E.n then 0 else E.Aa i,
          O := fun b' o => if b' = b then .obj E.n else E.O b' o }
theorem B0H (F3 : o.op = .makeMap t none) {ks : Bool} (H : k ({ st with sg := st.sg ++ [C9.map ks []] }.put o.dst .undef (.map st.sg.length)) = some x) (Rl : K3 E st a w.heap) (T : Then E w k x K) : Gp C.P o a w K := by
 have U1 : (execOp a.eval o).run C.P w = .ok (.value (.map (some w.heap.size))) (w.alloc (.map #[] 0)) := by
  simp only [execOp, F3];refine Bv ?_;simp [Instr.makeMap]
 have P1 : Pr (fun _ => False) E w.heap (E.NW w.heap.size) (w.heap.push (.map #[] 0)) := by
  refine Pr.push (fun b o hb _ => ?_) (by simp [Env.NW]) (fun i hi _ => ?_) (fun _ _ => rfl) (aP rfl)
  ·simp only [Env.NW]; rw [if_neg (by omega)]
  ·refine ⟨?_, ?_, rfl⟩ <;> simp only [Env.NW] <;> rw [if_neg (by omega)]
 have J3 := P1.shut (by simp) Rl.fresh
 have hn := Rl.n;have R1 : K3 (E.NW w.heap.size) { st with sg := st.sg ++ [C9.map ks []] } a (w.heap.push (.map #[] 0)) := by
  refine ⟨Rl.size, Rl.Af, Rl.Ca, by simp [Env.In, Env.NW, Rl.n], fun t v hv => (Rl.regs t v hv).mono P1 J3 (by simp) (by simp), fun s cs hs => (Rl.boxes s cs hs).mono P1 J3 (by simp) (by simp), fun i ob hi => ?_,
   fun b o hb => ?_⟩
  ·by_cases L8 : i < st.sg.length
   ·simp only [z2q L8] at hi
    exact (Rl.U4 i ob hi).mono P1 J3 (CS Rl hi) (by simp) (by simp)
   ·have JR : i = st.sg.length := by
     have := (z0q.1 hi).1;simp at this; omega
    subst JR;simp only [z3q (z10q _), z39q, z7q, Option.some.injEq] at hi;subst hi;refine ⟨#[], 0, ?_, fun o => ?_, ⟨rfl, by simp⟩, by simp [pF]⟩
    ·simp only [Env.NW, hn, if_true]; exact Kn
    ·simp only [Env.NW, hn, if_true]
  ·have GJ : w.heap.size + 1 <= b := by simpa using hb
   simp only [Env.NW];rw [if_neg (by omega)]
   exact Rl.fresh b o (by omega)
 refine Ap U1 (T _ _ _ (w.alloc (.map #[] 0)) H (R1.put fun t0 _ => ?_) (P1.weaken (by simp)))
 refine RR.AU ⟨by simp [Env.In, Env.NW, hn], ?_⟩
 simp only [Env.NW, hn, if_true]
theorem jJ {P : Program} : ∀ {ts : List TypeId} {xs : List Operand} {rs : List (DV × Meta)}, IU P st ts xs = some rs -> rs.length = xs.length /\ ∀ (i : Nat) y r, xs[i]? = some y -> rs[i]? = some r -> ∃ t, src P t st y = some r
 | ts, [], rs, H => by
   cases ts <;> simp only [IU, Option.some.injEq] at H <;> subst H <;> simp
 | t :: ts, y :: xs, rs, H => by
   simp only [IU] at H;obtain ⟨r, hr, H⟩ := C8 H;obtain ⟨rs', hrs, H⟩ := C8 H;simp only [Option.some.injEq] at H;subst H;obtain ⟨l1, l2⟩ := jJ hrs;refine ⟨by simp [l1], fun i z r' hz AR => ?_⟩
   cases i with
   | zero => simp only [z7q, Option.some.injEq] at hz AR; subst hz AR; exact ⟨t, hr⟩
   | succ i => simp only [z12q] at hz AR; exact l2 i z r' hz AR
 | [], y :: xs, rs, H => by
   simp only [IU] at H;obtain ⟨r, hr, H⟩ := C8 H;obtain ⟨rs', hrs, H⟩ := C8 H;simp only [Option.some.injEq] at H;subst H;obtain ⟨l1, l2⟩ := jJ hrs;refine ⟨by simp [l1], fun i z r' hz AR => ?_⟩
   cases i with
   | zero => simp only [z7q, Option.some.injEq] at hz AR; subst hz AR; exact ⟨_, hr⟩
   | succ i => simp only [z12q] at hz AR; exact l2 i z r' hz AR
theorem sM : ∀ {rs : List (DV × Meta)} {ms : List (Nat × Nat)}, V_ rs = some ms -> rs.length = ms.length /\ ∀ (i : Nat) r m, rs[i]? = some r -> ms[i]? = some m -> r.2 = .ptr m.1 m.2
 | [], ms, H => by simp only [V_, Option.some.injEq] at H; subst H; simp
 | (d, m) :: rs, ms, H => by
   unfold V_ at H
   split at H
   ·rename_i heq; simp at heq
   ·rename_i heq
    simp only [List.cons.injEq, Prod.mk.injEq] at heq;obtain ⟨⟨-, rfl⟩, rfl⟩ := heq;obtain ⟨ms', wB, H⟩ := C8 H;simp only [Option.some.injEq] at H;subst H;obtain ⟨l1, l2⟩ := sM wB;refine ⟨by simp [l1], fun i r m hr hm => ?_⟩
    cases i with
    | zero => simp only [z7q, Option.some.injEq] at hr hm; subst hr hm; rfl
    | succ i => simp only [z12q] at hr hm; exact l2 i r m hr hm
   ·simp at H
theorem A9H {f : FuncId} {first caps : Array Operand} (F3 : o.op = .makeFunc (.func f) first caps) (H : (if first.isEmpty then ob (IU C.P st [] caps.toList) fun rs => ob (V_ rs) fun ms => k (st.put o.dst .undef (.fn f ms)) else none) = some x) (Rl : K3 E st a w.heap) (T : Then E w k x K) : Gp C.P o a w K := by
 obtain ⟨hf, H⟩ := K9 H;obtain ⟨rs, hrs, H⟩ := C8 H;obtain ⟨ms, wB, H⟩ := C8 H;obtain ⟨l1, l2⟩ := jJ hrs;obtain ⟨m1, m2⟩ := sM wB;have key : ∀ (i : Nat) y, caps.toList[i]? = some y -> ∃ m, ms[i]? = some m /\ E.In m.1 /\ a.eval y = .pointer (some ⟨E.obj m.1, m.2, none⟩) := by
  intro i y hy;have hi : i < caps.toList.length := (z0q.1 hy).1;have hr : rs[i]? = some (rs[i]'(by omega)) := z1q (by omega)
  have hm : ms[i]? = some (ms[i]'(by omega)) := z1q (by omega)
  obtain ⟨t, ht⟩ := l2 i y _ hy hr;have e := Rl.src ht;rw [m2 i _ _ hr hm] at e;simp only [RR, J8] at e;exact ⟨_, hm, e⟩
 refine V4 (v := .func (.func f) #[] (caps.map a.eval)) ?_ H Rl (fun _ _ => RR.AU ⟨?_, ?_⟩) @T
 ·simp only [execOp, F3]
  refine Bv ?_;have : first = #[] := by simpa using hf
  subst this;simp [Instr.makeFunc]
 ·congr 1
  apply z71q.1;simp only [Array.toList_map];apply z41q;intro i;simp only [z21q];cases hy : caps.toList[i]? with
  | none =>
    have : ms[i]? = none := by
     rw [z50q] at hy ⊢;omega
    simp [this]
  | some y =>
    obtain ⟨m, hm, -, he⟩ := key i y hy;simp [hm, he]
 ·intro c hc
  obtain ⟨i, hi, Dr⟩ := z24q.1 hc;have hy : caps.toList[i]? = some (caps.toList[i]'(by omega)) := z1q (by omega)
  obtain ⟨m, hm, L8, -⟩ := key i _ hy;rw [z1q hi, Dr] at hm;simp only [Option.some.injEq] at hm;subst hm;exact L8
end
end Go.Su

/-
 THE DATA MACHINE, part 14: memory written; maps read and written; parts of results.
-/
namespace Go.Su
variable {c : Array Value} {T : TypeId}
theorem A9C (w : World) {b o : Nat} {f : Nat × Nat} (h : w.heap[b]? = some (.cells c T f)) (v : Value) :
 (w.setCell ⟨b, o, none⟩ v).heap[b]? = some (.cells (c.setIfInBounds o v) T f) /\ (∀ b', b' ≠ b -> (w.setCell ⟨b, o, none⟩ v).heap[b']? = w.heap[b']?) /\ (w.setCell ⟨b, o, none⟩ v).heap.size = w.heap.size := by
 have L8 : b < w.heap.size := (z13q.1 h).1;have hv : w.heap[b] = .cells c T f := (z13q.1 h).2;refine ⟨?_, fun b' hb => ?_, by simp⟩
 ·unfold World.setCell
  rw [z35q (by simpa using L8), Array.getElem_modify]
  simp [hv]
 ·simp [World.setCell, z59q, Ne.symm hb]
structure ai (w w' : World) (b o : Nat) (vs : List Value) (c : Array Value) (T : TypeId) (f : Nat × Nat) : Prop where
 ex : ∃ c', w'.heap[b]? = some (.cells c' T f) /\ c'.size = c.size /\ ∀ j, c'[j]? = if o <= j /\ j < o + vs.length then vs[j - o]? else c[j]?
 rest : ∀ b', b' ≠ b -> w'.heap[b']? = w.heap[b']?
 size : w'.heap.size = w.heap.size
 out : Z4 w w'
theorem KF {P : Program} {b T : Nat} {f : Nat × Nat} (off : Nat) : ∀ (vs : List Value) (c : Array Value) (i : Nat) (w : World), w.heap[b]? = some (.cells c T f) -> off + i + vs.length <= c.size -> (∀ v ∈ vs, v.oneCell' = true) ->
 (∀ o, off + i <= o -> o < off + i + vs.length -> ¬ (f.1 <= o /\ o < f.2)) -> ∃ w', (storeCells ⟨b, off, none⟩ vs i).run P w = .ok () w' /\ ai w w' b (off + i) vs c T f
 | [], c, i, w, h, _, _, _ => ⟨w, rfl, ⟨c, h, rfl, fun j => by rw [if_neg (by rintro ⟨h1, h2⟩; simp at h2; omega)]⟩, fun _ _ => rfl, rfl, Z4.refl _⟩
 | v :: vs, c, i, w, h, hn, ho, hf => by
   simp only [z34q] at hn hf;have Gd : w.cell? ⟨b, off + i, none⟩ = some (c[off + i]'(by omega)) := by
    rw [SC]; unfold hc; rw [h]; exact z35q (by omega)
   have ZP : w.frozen? ⟨b, off + i, none⟩ = false := by
    unfold World.frozen?;simp only [h];have := hf (off + i) (z10q _) (by omega)
    simpa using this
   have h1 : (store ((⟨b, off, none⟩ : Addr).add i) v).run P w = .ok () (w.setCell ⟨b, off + i, none⟩ v) := by
    rw [Addr.add_lit, run_store P w _ v _ (ho v (by simp)), Gd]
    simp [ZP]
   obtain ⟨s1, s2, s3⟩ := A9C w (o := off + i) h v;obtain ⟨w', r1, ⟨c', e1, e2, e3⟩, e4, e5, e6⟩ := KF off vs _ (i + 1) _ s1 (by simp; omega) (fun u hu => ho u (by simp [hu])) (fun o h1 h2 => hf o (by omega) (by omega))
   refine ⟨w', ?_, ⟨c', e1, by simpa using e2, fun j => ?_⟩, fun b' hb => (e4 b' hb).trans (s2 b' hb), e5.trans s3, Z4.trans (b := w.setCell ⟨b, off + i, none⟩ v) ⟨rfl, rfl, rfl⟩ e6⟩
   ·unfold storeCells
    simp only [Sem.run_bind, h1, Result.andThen_ok];exact r1
   ·rw [e3 j, z34q]
    by_cases hj : j = off + i
    ·subst hj
     rw [if_neg (by omega), if_pos (by omega), z15q (by omega)]
     simp
    ·rw [z16q (Ne.symm hj)]
     by_cases hc : off + (i + 1) <= j /\ j < off + (i + 1) + vs.length
     ·rw [if_pos hc, if_pos (by omega), show j - (off + i) = (j - (off + (i + 1))) + 1 from by omega, z12q]
     ·rw [if_neg hc, if_neg (by omega)]
variable {P : Program} {t : TypeId} {off : Nat} {v : Value}
theorem IA {z : Nat × Bool} (hz : tz P t = some z) {w : World} {b T : Nat} {f : Nat × Nat} (h : w.heap[b]? = some (.cells c T f)) (hs : v.cells.size = z.1) (hn : off + z.1 <= c.size) (ho : ∀ u ∈ v.cells.toList, u.oneCell' = true) (hf : ∀ o, off <= o -> o < off + z.1 -> ¬ (f.1 <= o /\ o < f.2)) : ∃ w', (storeVar t ⟨b, off, none⟩ v).run P w = .ok () w' /\ ai w w' b off v.cells.toList c T f := by
 obtain ⟨w', r, s⟩ := KF (P := P) off v.cells.toList c 0 w h (by simp; omega) ho (fun o h1 h2 => hf o (by omega) (by simp at h2; omega))
 refine ⟨w', ?_, by simpa using s⟩
 unfold storeVar;simp only [Sem.run_bind, Ni hz, Result.andThen_ok, Sem.run_ite];rw [if_neg (by omega)]
 exact r
variable {w' : World} {vs : List Value}
theorem ai.Pr {E : Env} {w : World} {b o : Nat} {f : Nat × Nat} (S : ai w w' b o vs c T f) {ch : Tag -> Prop} (hb : w.heap[b]? = some (.cells c T f)) (ht : ∀ j, o <= j -> j < o + vs.length -> ch (E.O b j)) :
 Pr ch E w.heap E w'.heap := by
 refine ⟨z51q S.size.symm, fun b' GJ => ?_, fun _ _ _ _ => rfl, z10q _, fun _ _ _ => ⟨rfl, rfl, rfl⟩, fun _ _ => rfl, Dc rfl⟩
 by_cases ZO : b' = b
 ·subst ZO
  rw [hb];obtain ⟨c', e1, e2, e3⟩ := S.ex;refine ⟨c', e1, e2, fun j hj => ?_⟩
  rw [e3 j, if_neg];rintro ⟨c1, c2⟩;exact hj (ht j c1 c2)
 ·rw [S.rest b' ZO]; exact X8.refl _ _
section
variable {X : Type} {C : AO} {R : Q8} {o : Oper} {st : St} {k : St -> Option X} {x : X} {E : Env} {a : Act} {w : World} {K : Act -> World -> Prop} {Q : Exit -> Act -> World -> Prop}
theorem ah.write {tg : Tag} {p q b : Nat} {cs xs : List (DV × Meta)} (B : ah E w.heap tg p q b cs) (hb : w.heap[b]? = some (.cells c T (0, 0))) (S : ai w w' b off vs c T (0, 0)) (hl : xs.length = vs.length) (J3 : off + xs.length <= cs.length) (hx : ∀ (j : Nat) r v, xs[j]? = some r -> vs[j]? = some v -> Cv E w.heap (.sp p q (off + j)) r v) (hs : Z9 E.S w.heap E.S w'.heap) (hP : Pr (fun t => t = tg) E w.heap E w'.heap) (hns : ∀ k' a' b', tg ≠ .sp k' a' b') : ah E w'.heap tg p q b (putAt cs off xs) := by
 obtain ⟨c0, T0, h1, h2, h3, h4⟩ := B;rw [hb] at h1;simp only [Option.some.injEq, Obj.cells.injEq] at h1;obtain ⟨rfl, rfl, -⟩ := h1;obtain ⟨c', e1, e2, e3⟩ := S.ex;have mono : ∀ {tg' : Tag} {r : DV × Meta} {v : Value}, (∃ x y z, tg' = .sp x y z) -> Cv E w.heap tg' r v -> Cv E w'.heap tg' r v := by
  rintro tg' r v ⟨x1, y1, z1, rfl⟩ ⟨a1, a2, a3, a4⟩;exact ⟨a1, a2, a3, a4.mono hP hs (fun _ => fun h => hns _ _ _ h.symm) fun s o' hm => by rw [hm] at a3; simp [Y8] at a3⟩
 refine ⟨c', T, e1, by rw [e2, h2, Be J3], fun o' => ?_, fun j r v hr hv => ?_⟩
 ·rcases h3 o' with h5 | h5
  ·exact .inl h5
  ·exact .inr (by omega)
 ·rw [Dm J3] at hr
  rw [e3 j] at hv
  by_cases hc : off <= j /\ j < off + xs.length
  ·rw [if_pos hc] at hr
   rw [if_pos (by omega)] at hv
   have := hx (j - off) r v hr hv;rw [show off + (j - off) = j from by omega] at this
   exact mono ⟨_, _, _, rfl⟩ this
  ·rw [if_neg hc] at hr
   rw [if_neg (by omega)] at hv
   exact mono ⟨_, _, _, rfl⟩ (h4 j r v hr hv)
theorem K3.A7t {s : Nat} {cs xs : List (DV × Meta)} (Rl : K3 E st a w.heap) (hbx : st.bx.getD s none = some cs) (hb : w.heap[E.blk s]? = some (.cells c T (0, 0))) (S : ai w w' (E.blk s) off vs c T (0, 0)) (hl : xs.length = vs.length) (J3 : off + xs.length <= cs.length) (hx : ∀ (j : Nat) r v, xs[j]? = some r -> vs[j]? = some v -> Cv E w.heap (.sp 1 s (off + j)) r v) :
 K3 E { st with bx := st.bx.set s (some (putAt cs off xs)) } a w'.heap /\ Pr (fun t => t = .Rt s) E w.heap E w'.heap := by
 have B := Rl.boxes s cs hbx;have BF : c.size = cs.length := by
  obtain ⟨c0, T0, h1, h2, -⟩ := B;rw [hb] at h1;simp only [Option.some.injEq, Obj.cells.injEq] at h1;rw [h1.1]; exact h2
 have hP : Pr (fun t => t = .Rt s) E w.heap E w'.heap := S.Pr hb fun j h1 h2 => by
  obtain ⟨c1, T1, g1, g2, g3, -⟩ := B;rw [hb] at g1;simp only [Option.some.injEq, Obj.cells.injEq] at g1;rcases g3 j with h6 | h6
  ·exact h6
  ·rw [<- g1.1] at h6; omega
 have hs := hP.shut (by simp) Rl.fresh
 refine ⟨⟨Rl.size, Rl.Af, by simpa using Rl.Ca, Rl.n, fun t v hv => ?_, fun s' cs' EI => ?_, fun i ob hi => (Rl.U4 i ob hi).mono hP hs (CS Rl hi) (by simp) (by simp), fun b o' GJ => Rl.fresh b o' (by rw [<- S.size]; exact GJ)⟩, hP⟩
 ·have h0 := Rl.regs t v hv
  cases hm : (st.get t).2
  case loc s' o' =>
   show RR E w'.heap 0 t (st.get t).1 (st.get t).2 v
   rw [hm] at h0 ⊢;exact h0
  all_goals
   show RR E w'.heap 0 t (st.get t).1 (st.get t).2 v
   exact h0.mono hP hs (by simp) (by rw [hm]; simp)
 ·have A3H : s < st.bx.length := by
   rcases z30q s st.bx.length with h1 | h1
   ·exact h1
   ·simp [z8q, z9q h1] at hbx
  by_cases d_ : s = s'
  ·subst d_
   simp only [z8q, z4q A3H, z53q, Option.some.injEq] at EI;subst EI;exact B.write hb S hl J3 hx hs hP (by simp)
  ·simp only [z8q, z5q d_] at EI
   exact (Rl.boxes s' cs' (by simpa [z8q] using EI)).mono hP hs (by simp; exact fun h => d_ h.symm) (by simp)
theorem K3.A7u {i : Nat} {cs xs : List (DV × Meta)} (Rl : K3 E st a w.heap) (hsg : st.sg[i]? = some (.box cs)) (hb : w.heap[E.obj i]? = some (.cells c T (0, 0))) (S : ai w w' (E.obj i) off vs c T (0, 0)) (hl : xs.length = vs.length) (J3 : off + xs.length <= cs.length) (hx : ∀ (j : Nat) r v, xs[j]? = some r -> vs[j]? = some v -> Cv E w.heap (.sp 2 i (off + j)) r v) :
 K3 E { st with sg := st.sg.set i (.box (putAt cs off xs)) } a w'.heap /\ Pr (fun t => t = .obj i) E w.heap E w'.heap := by
 have B := Rl.U4 i _ hsg;simp only [RO] at B;have BF : c.size = cs.length := by
  obtain ⟨c0, T0, h1, h2, -⟩ := B;rw [hb] at h1;simp only [Option.some.injEq, Obj.cells.injEq] at h1;rw [h1.1]; exact h2
 have hP : Pr (fun t => t = .obj i) E w.heap E w'.heap := S.Pr hb fun j h1 h2 => by
  obtain ⟨c1, T1, g1, g2, g3, -⟩ := B;rw [hb] at g1;simp only [Option.some.injEq, Obj.cells.injEq] at g1;rcases g3 j with h6 | h6
  ·exact h6
  ·rw [<- g1.1] at h6; omega
 have hs := hP.shut (by simp) Rl.fresh
 have Jw := (z0q.1 hsg).1;refine ⟨⟨Rl.size, Rl.Af, Rl.Ca, by simpa using Rl.n, fun t v hv => (Rl.regs t v hv).mono hP hs (by simp) (by simp), fun s' cs' EI => (Rl.boxes s' cs' EI).mono hP hs (by simp) (by simp), fun i' ob hi => ?_, fun b o' GJ => Rl.fresh b o' (by rw [<- S.size]; exact GJ)⟩, hP⟩
 by_cases Dr : i = i'
 ·subst Dr
  simp only [z4q Jw, Option.some.injEq] at hi;subst hi;exact B.write hb S hl J3 hx hs hP (by simp)
 ·simp only [z5q Dr] at hi
  exact (Rl.U4 i' ob hi).mono hP hs (CS Rl hi) (by simp; exact fun h => Dr h.symm) (by simp)
def Bg (y : Operand) (p s off : Nat) (T : Tag) : Tag :=
 match y, T with
 | .tmp t, .sp 0 t' 0 => if t = t' then .sp p s off else .sp 0 t' 0
 | _, T => T
variable {y : Operand}
theorem Er {p s : Nat} {T : Tag} (h : ∀ t b, y = .tmp t -> T ≠ .sp 0 t b) : Bg y p s off T = T := by
 unfold Bg
 split
 ·split
  ·rename_i hx; subst hx; exact absurd rfl (h _ _ rfl)
  ·rfl
 ·rfl
theorem B08 {r : DV × Meta} (hs : src P t st y = some r) {p s : Nat} {c : DV × Meta} (hm : c.2 = r.2) (hc : Cv E w.heap (.sp 0 (oM y) 0) c (a.eval y)) :
 Cv (E.re (Bg y p s off)) w.heap (.sp p s off) c (a.eval y) := by
 obtain ⟨a1, a2, a3, a4⟩ := hc;refine ⟨a1, a2, a3, ?_⟩
 by_cases hy : ∃ i, y = .tmp i
 ·obtain ⟨i, rfl⟩ := hy
  exact a4.re (Er (by simp)) (by simp [Bg, oM])
 ·have ZR : c.2 ≠ .own := by
   rw [hm];cases y with
   | tmp i => exact absurd ⟨i, rfl⟩ hy
   | const v => exact (Xk hs).1
   | func f => simp only [src, Option.some.injEq] at hs; subst hs; simp
   | global g => simp [src] at hs
  have a5 : J8 (E.re (Bg y p s off)) w.heap .other c.1 c.2 (a.eval y) := (a4.tag (tg' := .other) ZR).re (Er (by simp)) (Er (by simp))
  exact a5.tag ZR
theorem Gr {v : Operand} {b : Nat} (F3 : o.op = .store t y v) (he : a.eval y = .pointer (some ⟨b, off, none⟩)) (h : (storeVar t ⟨b, off, none⟩ (a.eval v)).run C.P w = .ok () w') :
 (execOp a.eval o).run C.P w = .ok .skip w' := by
 simp only [execOp, F3];refine B6T ?_;simp only [Instr.storeAt, he, Instr.sureAddr, Sem.run_bind, Sem.run_pure, Result.andThen_ok, h]
theorem cells_one (h : v.oneCell' = true) : v.cells = #[v] := by
 cases v <;> first | rfl | (simp [Value.oneCell'] at h)
theorem A7c {α : Type} {l : List α} {o : Nat} {y : α} (h : o < l.length) : putAt l o [y] = l.set o y := by
 apply z41q;intro j;rw [Dm (by simp; omega)]
 by_cases hj : o = j
 ·subst hj; rw [if_pos (by simp), z4q h]; simp
 ·rw [if_neg (by simp; omega), z5q hj]
theorem J8.dat {E : Env} {h : Heap} {tg : Tag} {d : DV} {m : Meta} (hm : J6 m = true) (R : J8 E h tg d m v) : RV E.S h d v := by
 cases m <;> simp only [J6] at hm <;> simp only [J8] at R <;> try contradiction
 ·exact R
 ·exact R.1
 ·exact R.1
 ·obtain ⟨rfl, rfl⟩ := R
  simp only [RV]
theorem A7s {z : Nat × Bool} (hz : tz P t = some z) (Rl : K3 E st a w.heap) {i n sz idx : Nat} {ds : List DV} {d e : DV} (hp : st.sg[i]? = some (.M6 n sz ds)) (hd : ds[idx]? = some d) (Vm : v.cells.size = z.1) {xs : List (DV × Meta)} (hl : xs.length = v.cells.size) {tg : Nat -> Tag} (AJ : ∀ (j : Nat) r v', xs[j]? = some r -> v.cells.toList[j]? = some v' -> M4 r.1 = true /\ v'.oneCell' = true /\ J8 E w.heap (tg j) r.1 r.2 v') (he : IZ sz off d xs = some e) :
 ∃ w', (storeVar t ⟨E.obj i, E.base i + idx * sz + off, none⟩ v).run P w = .ok () w' /\ K3 E { st with sg := st.sg.set i (.M6 n sz (ds.set idx e)) } a w'.heap /\ Pr (fun t => t = .obj i) E w.heap E w'.heap /\ Z4 w w' := by
 unfold IZ at he
 split at he
 ·rename_i cs
  obtain ⟨⟨kI, JI, df⟩, he⟩ := K9 he;simp only [Option.some.injEq] at he;subst he;have B := Rl.U4 i _ hp;simp only [RO] at B;obtain ⟨bv, b0, b3, B⟩ := B;have hne : ds ≠ [] := by intro h; rw [h] at hd; simp at hd
  obtain ⟨c, TT, f, b1, b2, b2', b4, b5⟩ := B.resolve_left fun h => hne h.1
  have hidx : idx < ds.length := (z0q.1 hd).1;have Da : idx * sz + sz <= ds.length * sz := by rw [<- z27q]; exact z6q _ hidx
  have Xx : v.cells.toList.length = xs.length := by simp [hl]
  have Gd : ∀ u ∈ v.cells.toList, u.oneCell' = true := by
   intro q hq;obtain ⟨j, hj, hju⟩ := z24q.1 hq;exact (AJ j _ q (z1q (by omega)) (by rw [z1q hj, hju])).2.1
  obtain ⟨w', hw, S⟩ := IA (P := P) hz (off := E.base i + idx * sz + off) b1 Vm (by omega) Gd (fun o h1 h2 => (b4 o (by omega) (by omega)).2)
  have P1 : Pr (fun t => t = .obj i) E w.heap E w'.heap := S.Pr b1 fun j h1 h2 => (b4 j (by omega) (by simp at h2; omega)).1
  have hs := P1.shut (by simp) Rl.fresh
  have Jw := (z0q.1 hp).1;refine ⟨w', hw, ?_, P1, S.out⟩;refine ⟨Rl.size, Rl.Af, Rl.Ca, by simpa using Rl.n, fun t v hv => (Rl.regs t v hv).mono P1 hs (by simp) (by simp), fun s' cs' EI => (Rl.boxes s' cs' EI).mono P1 hs (by simp) (by simp), fun i' ob hi => ?_, fun b o' GJ => Rl.fresh b o' (by rw [<- S.size]; exact GJ)⟩
  by_cases Dr : i = i'
  ·subst Dr
   simp only [z4q Jw, Option.some.injEq] at hi;subst hi;simp only [RO];obtain ⟨c', e1', e2', e3'⟩ := S.ex;refine ⟨bv, b0, b3, .inr ⟨c', TT, f, e1', by rw [z32q]; exact b2, by rw [e2']; exact b2', b4, fun j d' Dq => ?_⟩⟩
   by_cases hj : idx = j
   ·subst hj
    rw [z4q hidx] at Dq;simp only [Option.some.injEq] at Dq;subst Dq;obtain ⟨us, u1, u2, u3⟩ := b5 idx _ hd;have X_ : off + v.cells.toList.length <= us.length := by omega
    refine ⟨putAt us off v.cells.toList, by rw [Be X_, u1], fun y q hq => ?_, ?_⟩
    ·rw [Dm X_] at hq
     by_cases hy : off <= y /\ y < off + v.cells.toList.length
     ·rw [if_pos hy] at hq
      rw [e3', if_pos (by omega), <- hq]
      congr 1
      omega
     ·rw [if_neg hy] at hq
      rw [e3', if_neg (by omega), u2 y q hq]
    ·simp only [RC] at u3 ⊢
     obtain ⟨k1, k2⟩ := EO.1 u3;have hpc : off + (xs.map (·.1)).length <= cs.length := by simp; omega
     refine EO.2 ⟨by rw [Be X_, Be hpc, k1], fun y q u hq hu => ?_⟩
     rw [Dm X_] at hu;rw [Dm hpc] at hq
     by_cases hy : off <= y /\ y < off + v.cells.toList.length
     ·rw [if_pos hy] at hu
      rw [if_pos (by simp only [z52q]; omega), z21q, z17q] at hq
      obtain ⟨r, hr, rfl⟩ := hq;obtain ⟨g1, g2, g3⟩ := AJ _ r u hr hu;have g4 := z23q.1 kI r (z20q hr);rw [z19q] at g4;exact ⟨g1, (Mr g1 g2 (g3.dat g4.1)).mono hs⟩
     ·rw [if_neg hy] at hu
      rw [if_neg (by simp only [z52q]; omega)] at hq
      obtain ⟨g1, g2⟩ := k2 y q u hq hu;exact ⟨g1, g2.mono hs⟩
   ·rw [z5q hj] at Dq
    obtain ⟨us, u1, u2, u3⟩ := b5 j d' Dq;refine ⟨us, u1, fun y q hq => ?_, u3.mono hs⟩
    have hy : y < sz := by have := (z0q.1 hq).1; omega
    rw [e3', if_neg, u2 y q hq];rintro ⟨c1, c2⟩;have := A5y (sz := sz) (i := idx) (i' := j) (j := j * sz + y - idx * sz) (j' := y) (by omega) hy (by omega)
    omega
  ·simp only [z5q Dr] at hi
   exact (Rl.U4 i' ob hi).mono P1 hs (CS Rl hi) (by simp; exact fun h => Dr h.symm) (by simp)
 ·simp at he
theorem B4o {v : Operand} (F3 : o.op = .store t y v) (H : Cc C o t y v st k = some x) (Rl : K3 E st a w.heap) (T : Then E w k x K) : Gp C.P o a w K := by
 unfold Cc at H;obtain ⟨r, h1, H⟩ := C8 H;obtain ⟨u, h2, H⟩ := C8 H;obtain ⟨z, hz, H⟩ := C8 H;have e1 := Rl.src h1;have e2 := Rl.src h2;have GL : z.2 = false -> z.1 = 1 := by
  obtain ⟨i, d, -, -, -, h4⟩ := HY hz;exact h4
 have A0i : ∀ {E' : Env} {h' : Heap} (t0 : Nat), RR E' h' 0 t0 (.H7 []) .val undef := by
  intro E' h' t0;simp only [RR, J8, RV];exact ⟨#[], rfl, by simp [Pq]⟩
 split at H
 ·-- a private variable
  rename_i s off hm;rw [hm] at e1;simp only [RR, J8] at e1;obtain ⟨cs, hb, H⟩ := C8 H;have B := Rl.boxes s cs hb;obtain ⟨c, TT, FM, BF, hO, -⟩ := B
  split at H
  ·obtain ⟨xs, H, hl, AJ, ZR⟩ := A2J hz e2 H
   obtain ⟨J3, H⟩ := K9 H;obtain ⟨w', hw, S⟩ := IA (P := C.P) hz (off := off) FM (v := a.eval v) (by have := AJ.1; simp at this; omega) (by omega) (fun u hu => by
    obtain ⟨j, hj, hju⟩ := z24q.1 hu;have hl2 := AJ.1;exact (AJ.2 j _ u (z1q (by omega)) (by rw [z1q hj, hju])).2.1) (fun o _ _ => by simp)
   have R0 := Rl.release (x := v) (f := Ps v s off) fun T hT => Mv hT
   have Iy : (st.release v).bx = st.bx := by cases v <;> rfl
   obtain ⟨R1, P1⟩ := R0.A7t (by rw [Iy]; exact hb) FM S AJ.1 J3 fun j r' v' hr hv =>
    (AJ.2 j r' v' hr hv).box fun hy => ZR (A68 h2 hy) r' (z20q hr)
   rw [Iy] at R1;have S9 : ({ st with bx := st.bx.set s (some (putAt cs off xs)) }.release v) = { st.release v with bx := st.bx.set s (some (putAt cs off xs)) } := by cases v <;> rfl
   rw [S9] at H;have P0 : Pr O3 E w.heap (E.re (Ps v s off)) w.heap := Pr.re fun T hT => Mv fun t b _ he => hT (by rw [he]; simp [O3])
   exact Kt (Gr F3 e1.2 hw) (T (E.re (Ps v s off)) _ _ w' H (R1.put fun t0 _ => A0i t0) (P0.trans (P1.weaken (by rintro T rfl; simp [O3]))) S.out)
  ·rename_i hz2
   have qR := GL (by simpa using hz2)
   obtain ⟨cc, H, hmm, AJ⟩ := Xh e2 H;obtain ⟨L8, H⟩ := K9 H;have YB := cells_one AJ.2.1;obtain ⟨w', hw, S⟩ := IA (P := C.P) hz (off := off) FM (v := a.eval v) (by rw [YB, qR]; rfl) (by omega) (fun u hu => by
    rw [YB] at hu; simp at hu; subst hu; exact AJ.2.1) (fun o _ _ => by simp)
   rw [YB] at S;have R0 := Rl.release (x := v) (f := Bg v 1 s off) fun T hT => Er hT
   have Gd := B08 h2 (p := 1) (s := s) (off := off) hmm AJ;have Iy : (st.release v).bx = st.bx := by cases v <;> rfl
   obtain ⟨R1, P1⟩ := R0.A7t (xs := [cc]) (by rw [Iy]; exact hb) FM S rfl (by simp; omega) fun j r' v' hr hv => by
    cases j with
    | succ j => simp at hr
    | zero =>
      have AR : r' = cc := by simpa using hr.symm
      have YA : v' = a.eval v := by simpa using hv.symm
      rw [AR, YA];exact Gd
   rw [A7c L8, Iy] at R1;have S9 : ({ st with bx := st.bx.set s (some (cs.set off cc)) }.release v) = { st.release v with bx := st.bx.set s (some (cs.set off cc)) } := by cases v <;> rfl
   rw [S9] at H;have P0 : Pr O3 E w.heap (E.re (Bg v 1 s off)) w.heap := Pr.re fun T hT => Er fun t b _ he => hT (by rw [he]; simp [O3])
   exact Kt (Gr F3 e1.2 hw) (T (E.re (Bg v 1 s off)) _ _ w' H (R1.put fun t0 _ => A0i t0) (P0.trans (P1.weaken (by rintro T rfl; simp [O3]))) S.out)
 ·-- a shared variable
  rename_i i off hm;rw [hm] at e1;simp only [RR, J8] at e1;obtain ⟨cs, hb, H⟩ := C8 H;have hb := qo hb;have B := Rl.U4 i _ hb;simp only [RO] at B;obtain ⟨c, TT, FM, BF, hO, -⟩ := B
  split at H
  ·obtain ⟨xs, H, hl, AJ⟩ := Zq hz e2 H
   obtain ⟨J3, H⟩ := K9 H;obtain ⟨w', hw, S⟩ := IA (P := C.P) hz (off := off) FM (v := a.eval v) (by have := AJ.1; simp at this; omega) (by omega) (fun u hu => by
    obtain ⟨j, hj, hju⟩ := z24q.1 hu;have hl2 := AJ.1;obtain ⟨⟨-, q, -, -⟩, -⟩ := AJ.2 j _ u (z1q (by omega)) (by rw [z1q hj, hju])
    exact q) (fun o _ _ => by simp)
   obtain ⟨R1, P1⟩ := Rl.A7u hb FM S AJ.1 J3 fun j r' v' hr hv => let ⟨q1, q2⟩ := AJ.2 j r' v' hr hv; ⟨q1.1, q1.2.1, q1.2.2.1, q1.2.2.2.tag q2⟩
   exact Kt (Gr F3 e1.2 hw) (T E _ _ w' H (R1.put fun t0 _ => A0i t0) (P1.weaken (by rintro T rfl; simp [O3])) S.out)
  ·rename_i hz2
   have qR := GL (by simpa using hz2)
   obtain ⟨cc, H, hmm, AJ⟩ := Xh e2 H;obtain ⟨c0, hc0, H⟩ := C8 H;have L8 : off < cs.length := (z0q.1 hc0).1;have YB := cells_one AJ.2.1;obtain ⟨w', hw, S⟩ := IA (P := C.P) hz (off := off) FM (v := a.eval v) (by rw [YB, qR]; rfl) (by omega) (fun u hu => by
    rw [YB] at hu; simp at hu; subst hu; exact AJ.2.1) (fun o _ _ => by simp)
   rw [YB] at S;have R0 := Rl.release (x := v) (f := Bg v 2 i off) fun T hT => Er hT
   have Gd := B08 h2 (p := 2) (s := i) (off := off) hmm AJ;have Iy : (st.release v).sg = st.sg := by cases v <;> rfl
   obtain ⟨R1, P1⟩ := R0.A7u (xs := [cc]) (by rw [Iy]; exact hb) FM S rfl (by simp; omega) fun j r' v' hr hv => by
    cases j with
    | succ j => simp at hr
    | zero =>
      have AR : r' = cc := by simpa using hr.symm
      have YA : v' = a.eval v := by simpa using hv.symm
      rw [AR, YA];exact Gd
   rw [A7c L8, Iy] at R1;have S9 : ({ st with sg := st.sg.set i (.box (cs.set off cc)) }.release v) = { st.release v with sg := st.sg.set i (.box (cs.set off cc)) } := by cases v <;> rfl
   rw [S9] at H;have P0 : Pr O3 E w.heap (E.re (Bg v 2 i off)) w.heap := Pr.re fun T hT => Er fun t b _ he => hT (by rw [he]; simp [O3])
   exact Kt (Gr F3 e1.2 hw) (T (E.re (Bg v 2 i off)) _ _ w' H (R1.put fun t0 _ => A0i t0) (P0.trans (P1.weaken (by rintro T rfl; simp [O3]))) S.out)
 ·-- an element of a writable array
  rename_i i sz idx off hm;rw [hm] at e1;simp only [RR, J8] at e1;obtain ⟨p, hp, H⟩ := C8 H;obtain ⟨d, hd, H⟩ := C8 H;obtain ⟨H, Vm, hRC⟩ := qD GL e2 H;obtain ⟨BF, H⟩ := F9 H;obtain ⟨⟨hzz, df⟩, H9⟩ := K9 H;clear H;subst df;have hp := qm hp;have BF : p.1 = sz := by simpa using BF
  rw [BF] at hp;have B := Rl.U4 i _ hp;simp only [RO] at B;have hne : p.2 ≠ [] := by intro h; rw [h] at hd; simp at hd
  obtain ⟨c, TT, b1, b2, b3, b4, b5⟩ := B hne;have hidx : idx < p.2.length := (z0q.1 hd).1;have Da : idx * sz + sz <= p.2.length * sz := by rw [<- z27q]; exact z6q _ hidx
  have Gd : ∀ u ∈ (a.eval v).cells.toList, u.oneCell' = true := by
   intro q hq;obtain ⟨j, hj, hju⟩ := z24q.1 hq;obtain ⟨q1, q2⟩ := OL hRC (j := j) (v := q) (by rw [z1q hj, hju])
   exact Ir q1 q2
  obtain ⟨w', hw, S⟩ := IA (P := C.P) hz (off := E.base i + idx * sz) b1 (v := a.eval v) Vm (by omega) Gd (fun o _ _ => by simp)
  have P1 : Pr (fun t => t = .obj i) E w.heap E w'.heap := S.Pr b1 fun j h1 h2 => b4 j (by omega) (by simp at h2; omega)
  have hs := P1.shut (by simp) Rl.fresh
  have Jw := (z0q.1 hp).1;have R1 : K3 E { st with sg := st.sg.set i (.arr sz (p.2.set idx u.1)) } a w'.heap := by
   refine ⟨Rl.size, Rl.Af, Rl.Ca, by simpa using Rl.n, fun t v hv => (Rl.regs t v hv).mono P1 hs (by simp) (by simp), fun s' cs' EI => (Rl.boxes s' cs' EI).mono P1 hs (by simp) (by simp), fun i' ob hi => ?_, fun b o' GJ => Rl.fresh b o' (by rw [<- S.size]; exact GJ)⟩
   by_cases Dr : i = i'
   ·subst Dr
    simp only [z4q Jw, Option.some.injEq] at hi;subst hi;simp only [RO];intro _;obtain ⟨c', e1', e2', e3'⟩ := S.ex;refine ⟨c', TT, e1', by rw [z32q, e2']; exact b2, b3, by rw [z32q]; exact b4, fun j d' Dq => ?_⟩
    by_cases hj : idx = j
    ·subst hj
     rw [z4q hidx] at Dq;simp only [Option.some.injEq] at Dq;subst Dq;refine ⟨(a.eval v).cells.toList, by simp; omega, fun y q hq => ?_, hRC.mono hs⟩
     have hy : y < sz := by have := (z0q.1 hq).1; simp at this; omega
     rw [e3', if_pos (by simp; omega), <- hq]
     congr 1
     omega
    ·rw [z5q hj] at Dq
     obtain ⟨us, u1, u2, u3⟩ := b5 j d' Dq;refine ⟨us, u1, fun y q hq => ?_, u3.mono hs⟩
     have hy : y < sz := by have := (z0q.1 hq).1; omega
     rw [e3', if_neg, u2 y q hq];rintro ⟨c1, c2⟩;simp at c2;exact hj (A5y (sz := sz) (j := j * sz + y - idx * sz) (j' := y) (by omega) hy (by omega))
   ·simp only [z5q Dr] at hi
    exact (Rl.U4 i' ob hi).mono P1 hs (CS Rl hi) (by simp; exact fun h => Dr h.symm) (by simp)
  exact Kt (Gr F3 (by rw [e1.2]; rfl) hw) (T E _ _ w' H9 (R1.put fun t0 _ => A0i t0) (P1.weaken (by rintro T rfl; simp [O3])) S.out)
 ·-- an open element
  rename_i i sz idx hm;rw [hm] at e1;simp only [RR, J8] at e1;obtain ⟨q, hq, H⟩ := C8 H;obtain ⟨H, Vm, hRC⟩ := qD GL e2 H;obtain ⟨BF, H⟩ := F9 H;obtain ⟨ob1, hx, H9⟩ := C8 H;clear H;simp only [z19q, beq_iff_eq] at BF;obtain ⟨ER, hs2⟩ := BF;obtain ⟨sz', pre, ds⟩ := q;simp only at ER;subst ER;have hq := qp hq;simp only [Lf] at hx;obtain ⟨⟨JR, Xz⟩, hx⟩ := K9 hx;simp only [Option.some.injEq] at hx;subst hx;have B := Rl.U4 i _ hq;simp only [RO] at B;obtain ⟨c, TT, f, b1, b2, b2', b3, b4, b5, b6⟩ := B;have B2k : pre.length * sz' <= idx * sz' := z6q _ JR;have Da : idx * sz' + sz' <= (pre.length + ds.length) * sz' := by rw [<- z27q]; exact z6q _ (by omega)
  have Gd : ∀ u ∈ (a.eval v).cells.toList, u.oneCell' = true := by
   intro q hq;obtain ⟨j, hj, hju⟩ := z24q.1 hq;obtain ⟨q1, q2⟩ := OL hRC (j := j) (v := q) (by rw [z1q hj, hju])
   exact Ir q1 q2
  obtain ⟨w', hw, S⟩ := IA (P := C.P) hz (off := E.base i + idx * sz') b1 (v := a.eval v) Vm (by omega) Gd (fun o h1 h2 => (b4 o (by omega) (by omega)).2)
  have P1 : Pr (fun t => t = .obj i) E w.heap E w'.heap := S.Pr b1 fun j h1 h2 => (b4 j (by omega) (by simp at h2; omega)).1
  have hs := P1.shut (by simp) Rl.fresh
  have Jw := (z0q.1 hq).1;have R1 : K3 E { st with sg := st.sg.set i (.opn sz' pre (ds.set (idx - pre.length) u.1)) } a w'.heap := by
   refine ⟨Rl.size, Rl.Af, Rl.Ca, by simpa using Rl.n, fun t v hv => (Rl.regs t v hv).mono P1 hs (by simp) (by simp), fun s' cs' EI => (Rl.boxes s' cs' EI).mono P1 hs (by simp) (by simp), fun i' ob hi => ?_, fun b o' GJ => Rl.fresh b o' (by rw [<- S.size]; exact GJ)⟩
   by_cases Dr : i = i'
   ·subst Dr
    simp only [z4q Jw, Option.some.injEq] at hi;subst hi;simp only [RO];obtain ⟨c', e1', e2', e3'⟩ := S.ex;refine ⟨c', TT, f, e1', by rw [z32q]; exact b2, by rw [e2']; exact b2', b3, b4, fun j d' Dq => (b5 j d' Dq).mono hs, fun j d' Dq => ?_⟩
    by_cases hj : idx - pre.length = j
    ·subst hj
     rw [z4q Xz] at Dq;simp only [Option.some.injEq] at Dq;subst Dq;have e4 : pre.length + (idx - pre.length) = idx := by omega
     refine ⟨(a.eval v).cells.toList, by simp; omega, fun y q hq => ?_, hRC.mono hs⟩
     have hy : y < sz' := by have := (z0q.1 hq).1; simp at this; omega
     rw [e4, e3', if_pos (by simp; omega), <- hq]
     congr 1
     omega
    ·rw [z5q hj] at Dq
     obtain ⟨us, u1, u2, u3⟩ := b6 j d' Dq;refine ⟨us, u1, fun y q hq => ?_, u3.mono hs⟩
     have hy : y < sz' := by have := (z0q.1 hq).1; omega
     rw [e3', if_neg, u2 y q hq];rintro ⟨c1, c2⟩;simp at c2;have := A5y (sz := sz') (i := idx) (i' := pre.length + j) (j := (pre.length + j) * sz' + y - idx * sz') (j' := y) (by omega) hy (by omega)
     omega
   ·simp only [z5q Dr] at hi
    exact (Rl.U4 i' ob hi).mono P1 hs (CS Rl hi) (by simp; exact fun h => Dr h.symm) (by simp)
  exact Kt (Gr F3 (by rw [e1.2]) hw) (T E _ _ w' H9 (R1.put fun t0 _ => A0i t0) (P1.weaken (by rintro T rfl; simp [O3])) S.out)
 ·-- an element of a vector
  rename_i i n sz idx off hm;rw [hm] at e1;simp only [RR, J8] at e1;obtain ⟨p, hp, H⟩ := C8 H;obtain ⟨d, hd, H⟩ := C8 H;obtain ⟨BF, H⟩ := F9 H;have hp := aF hp;have BF : p.1 = sz := by simpa using BF
  rw [BF] at hp;obtain ⟨-, -, -, eb, ep, ev, ex⟩ := e1;have B := Rl.U4 i _ hp;simp only [RO] at B;obtain ⟨rfl, rfl⟩ := ex B.1
  split at H
  ·obtain ⟨xs, H, hl, AJ⟩ := Zq hz e2 H
   obtain ⟨e, he, H9⟩ := C8 H;obtain ⟨w', hw, R1, P1, ho⟩ := A7s (P := C.P) hz Rl hp hd (v := a.eval v) (by have := AJ.1; simp at this; omega) (xs := xs) (by have := AJ.1; simpa using this) (fun j r' v' hr hv => let ⟨q1, q2⟩ := AJ.2 j r' v' hr hv; ⟨q1.1, q1.2.1, q1.2.2.2⟩) he
   exact Kt (Gr F3 ev hw) (T E _ _ w' H9 (R1.put fun t0 _ => A0i t0) (P1.weaken (by rintro T rfl; simp [O3])) ho)
  ·rename_i hz2
   have qR := GL (by simpa using hz2)
   obtain ⟨cc, H, hmm, AJ⟩ := Xh e2 H;obtain ⟨e, he, H9⟩ := C8 H;have YB := cells_one AJ.2.1;obtain ⟨w', hw, R1, P1, ho⟩ := A7s (P := C.P) hz Rl hp hd (v := a.eval v) (by rw [YB, qR]; rfl) (xs := [cc]) (by rw [YB]; rfl) (fun j r' v' hr hv => by
    rw [YB] at hv;cases j with
    | succ j => simp at hr
    | zero =>
      have AR : r' = cc := by simpa using hr.symm
      have YA : v' = a.eval v := by simpa using hv.symm
      rw [AR, YA];exact ⟨AJ.1, AJ.2.1, AJ.2.2.2⟩) he
   exact Kt (Gr F3 ev hw) (T E _ _ w' H9 (R1.put fun t0 _ => A0i t0) (P1.weaken (by rintro T rfl; simp [O3])) ho)
 ·simp at H
end
end Go.Su

/-
 THE DATA MACHINE, part 15: maps read and written; parts of results.
-/
namespace Go.Su
variable {P : Program} {t : TypeId}
theorem A0m {q : Bool × TypeId} (h : mapKeys P t = some q) : ∃ kt, P.underlying t = some (.map kt q.2) /\ ((q.1 = false /\ P.underlying kt = some (.int .i64)) \/ (q.1 = true /\ P.underlying kt = some .string)) := by
 unfold mapKeys at h
 split at h
 ·rename_i kt et hu
  split at h <;> simp only [Option.some.injEq, reduceCtorEq] at h <;> subst h
  ·exact ⟨kt, hu, .inl ⟨rfl, ‹_›⟩⟩
  ·exact ⟨kt, hu, .inr ⟨rfl, ‹_›⟩⟩
 ·simp at h
theorem B4X (a b : ByteArray) : (a.toList == b.toList) = (a == b) := (beq_toListBytes a b).symm
variable {kd : TypeDesc}
theorem B0D {S : Z5} {h : Heap} {ks : Bool} (hk : (ks = false /\ kd = .int .i64) \/ (ks = true /\ kd = .string)) {d e : DV} {v u : Value} (hd : isKey ks d = true) (he : isKey ks e = true) (rv : RV S h d v) (ru : RV S h e u) :
 Instr.sameNow kd v u = some (EK d e) /\ (EK d e = true -> v = u /\ d = e) := by
 rcases hk with ⟨rfl, rfl⟩ | ⟨rfl, rfl⟩
 ·cases d <;> simp only [isKey, z14q, z62q, z66q, beq_iff_eq] at hd
  cases e <;> simp only [isKey, z14q, z62q, z66q, beq_iff_eq] at he;rw [Bp] at rv ru;subst rv ru hd he;refine ⟨by simp [Instr.sameNow, EK], fun hq => ?_⟩
  simp only [EK, beq_iff_eq] at hq;subst hq;exact ⟨rfl, rfl⟩
 ·cases d <;> simp only [isKey, z14q, z67q, z63q] at hd
  cases e <;> simp only [isKey, z14q, z67q, z63q] at he;rw [Xg] at rv ru;subst rv ru;rename_i p q;refine ⟨?_, fun hq => ?_⟩
  ·simp only [Instr.sameNow, EK, B4X]
  ·simp only [EK, beq_iff_eq, ByteArray.toList_eq] at hq
   have hpq : p = q := by
    obtain ⟨⟨p⟩⟩ := p;obtain ⟨⟨q⟩⟩ := q;simpa using hq
   subst hpq;exact ⟨rfl, rfl⟩
theorem qJ {S : Z5} {h : Heap} {ks : Bool} {kd : TypeDesc} (hk : (ks = false /\ kd = .int .i64) \/ (ks = true /\ kd = .string)) {d : DV} {v : Value} (hd : isKey ks d = true) (rv : RV S h d v) (val : DV) : ∀ (es : List (DV × DV)) (l : List MapEntry) (i : Nat),
 es.length = l.length -> (∀ (j : Nat) e n, es[j]? = some e -> l[j]? = some n -> isKey ks e.1 = true /\ RV S h e.1 n.key /\ RV S h e.2 n.val) ->
 (Instr.findNow kd v l i = some none /\ FQ es d = none /\ JJ es d val = es ++ [(d, val)]) \/
 ∃ j e n, es[j]? = some e /\ l[j]? = some n /\ Instr.findNow kd v l i = some (some (i + j, n.val)) /\ FQ es d = some e.2 /\ JJ es d val = es.set j (e.1, val) /\ n.key = v /\ e.1 = d
 | [], [], i, _, _ => .inl ⟨rfl, rfl, rfl⟩
 | [], _ :: _, _, hl, _ => by simp at hl
 | _ :: _, [], _, hl, _ => by simp at hl
 | e :: es, n :: l, i, hl, kI => by
   obtain ⟨k1, k2, k3⟩ := kI 0 e n rfl rfl;obtain ⟨s1, s2⟩ := B0D hk hd k1 rv k2;cases hq : EK d e.1 with
   | true =>
     rw [hq] at s1;obtain ⟨q1, q2⟩ := s2 hq;exact .inr ⟨0, e, n, rfl, rfl, by simp [Instr.findNow, s1], by simp [FQ, hq], by simp [JJ, hq], q1.symm, q2.symm⟩
   | false =>
     rw [hq] at s1;have ih := qJ hk hd rv val es l (i + 1) (by simpa using hl) (fun j e' n' h1 h2 => kI (j + 1) e' n' (by simpa using h1) (by simpa using h2))
     have f1 : Instr.findNow kd v (n :: l) i = Instr.findNow kd v l (i + 1) := by simp [Instr.findNow, s1]
     have f2 : FQ (e :: es) d = FQ es d := by simp [FQ, hq]
     have f3 : JJ (e :: es) d val = e :: JJ es d val := by simp [JJ, hq]
     rcases ih with ⟨g1, g2, g3⟩ | ⟨j, e', n', g1, g2, g3, g4, g5, g6, g7⟩
     ·exact .inl ⟨by rw [f1, g1], by rw [f2, g2], by rw [f3, g3]; rfl⟩
     ·refine .inr ⟨j + 1, e', n', by simpa using g1, by simpa using g2, by rw [f1, g3]; congr 3; omega, by rw [f2, g4], by rw [f3, g5]; rfl, g6, g7⟩
theorem run_checkKey {kt : TypeId} (hu : P.underlying kt = some kd) (hk : kd = .int .i64 \/ kd = .string) (b : Bool) (v : Value) (n : Nat) (w : World) : (Instr.checkKey b (n + 1) kt v).run P w = .ok () w := by
 unfold Instr.checkKey;simp only [Sem.run_bind, run_underlying hu, Result.andThen_ok];rcases hk with rfl | rfl <;> rfl
section
variable {X : Type} {C : AO} {R : Q8} {o : Oper} {st : St} {k : St -> Option X} {x : X} {E : Env} {a : Act} {w : World} {K : Act -> World -> Prop} {Q : Exit -> Act -> World -> Prop}
theorem B2I {y v : Operand} {ok : Bool} (F3 : o.op = .lookup t y v ok) (H : (ob (src C.P t st y) fun r => ob (src C.P 0 st v) fun key => ob (mapKeys C.P t) fun q =>
 ob (A33 C.P q.2) fun ze =>
  og (isKey q.1 key.1 && J6 key.2)
   (match r.2 with
     | .map i => ob (Ko st.sg i) fun p => og (p.1 == q.1)
       (if ok then k (st.put o.dst (.H7 [(FQ p.2 key.1).getD ze, .bool (FQ p.2 key.1).isSome]) .val)
       else k (st.put o.dst ((FQ p.2 key.1).getD ze) .val))
     | _ => none)) = some x) (Rl : K3 E st a w.heap) (T : Then E w k x K) : Gp C.P o a w K := by
 obtain ⟨r, h1, H⟩ := C8 H;obtain ⟨key, h2, H⟩ := C8 H;obtain ⟨q, hq, H⟩ := C8 H;obtain ⟨ze, eB, H⟩ := C8 H;obtain ⟨hc, H⟩ := F9 H;simp only [z19q] at hc;obtain ⟨dZ, hkd⟩ := hc;have e1 := Rl.src h1;have e2 := (Rl.src h2).data hkd
 split at H
 ·rename_i i hm
  rw [hm] at e1;simp only [RR, J8] at e1;obtain ⟨p, hp, H⟩ := C8 H;obtain ⟨hpq, H⟩ := F9 H;have hpq : p.1 = q.1 := by simpa using hpq
  have hp := A5B hp;rw [hpq] at hp;obtain ⟨ens, clk, b1, b2, ⟨b3, b4⟩, -⟩ := Rl.U4 i _ hp;obtain ⟨kt, hu, ZQ⟩ := A0m hq;unfold A33 at eB;obtain ⟨inf, Ac, eB⟩ := C8 eB;obtain ⟨zv, Sr, eB⟩ := C8 eB;obtain ⟨zr, hzr, eB⟩ := C8 eB;obtain ⟨hzd, eB⟩ := F9 eB;simp only [Option.some.injEq] at eB;have kJ : ∃ kd, C.P.underlying kt = some kd /\ ((q.1 = false /\ kd = .int .i64) \/ (q.1 = true /\ kd = .string)) := by
   rcases ZQ with ⟨h3, h4⟩ | ⟨h3, h4⟩
   ·exact ⟨_, h4, .inl ⟨h3, rfl⟩⟩
   ·exact ⟨_, h4, .inr ⟨h3, rfl⟩⟩
  obtain ⟨kd, hku, kJ⟩ := kJ;have hz0 : RV E.S w.heap ze zv := by
   rw [<- eB];exact (A4N (E := E) (h := w.heap) hzr 0 0).data hzd
  have F := qJ kJ dZ e2 .undef p.2 ens.toList 0 (by simpa using b3) (fun j e n g1 g2 => b4 j e n g1 (by simpa using g2))
  have fin : ∀ (d : DV) (vv : Value) (bb : Bool), (FQ p.2 key.1).getD ze = d -> (FQ p.2 key.1).isSome = bb -> RV E.S w.heap d vv -> (Instr.lookup t (a.eval y) (a.eval v) ok).run C.P w = .ok (if ok then .tuple #[vv, .bool bb] else vv) w -> Gp C.P o a w K := by
   intro d vv bb hd hb hR U1;rw [hd, hb] at H;have A73 : (execOp a.eval o).run C.P w = .ok (.value (if ok then .tuple #[vv, .bool bb] else vv)) w := by
    simp only [execOp, F3];exact Bv U1
   cases ok with
   | true =>
     simp only [if_true] at H A73;refine AB A73 H Rl ?_ @T;simp only [RV];exact ⟨_, rfl, Vy.2 ⟨by simp, fun i d' v' g1 g2 => by
      match i with
      | 0 => simp at g1 g2; subst g1 g2; exact hR
      | 1 => simp at g1 g2; subst g1 g2; rw [LY]
      | n + 2 => simp at g1⟩⟩
   | false =>
     simp only [z14q, if_false] at H A73;exact AB A73 H Rl hR @T
  have hgo : (getObj (E.obj i)).run C.P w = .ok (.map ens clk) w := by simp [getObj, Sem.run, b1]
  have A8Y : kd = .int .i64 \/ kd = .string := by rcases kJ with h3 | h3 <;> simp [h3.2]
  rcases F with ⟨g1, g2, -⟩ | ⟨j, e, n, g0, g0', g1, g2, -, -, -⟩
  ·refine fin ze zv false (by rw [g2]; rfl) (by rw [g2]; rfl) hz0 ?_
   unfold Instr.lookup;rw [e1.2];have C0n : (zeroValue q.2).run C.P w = .ok zv w := by simp [zeroValue, typeInfo, Ac, Sr]
   simp only [Sem.run_bind, run_underlying hu, Result.andThen_ok, hgo, Sem.run_pure, run_checkKey hku A8Y, Instr.findKey, run_underlying hku, g1, C0n]
  ·obtain ⟨-, -, rv⟩ := b4 j e n g0 (by simpa using g0')
   refine fin e.2 n.val true (by rw [g2]; rfl) (by rw [g2]; rfl) rv ?_
   unfold Instr.lookup;rw [e1.2];simp only [Sem.run_bind, run_underlying hu, Result.andThen_ok, hgo, Sem.run_pure, run_checkKey hku A8Y, Instr.findKey, run_underlying hku, g1]
 ·simp at H
theorem A5m {α : Type} (xs : Array α) (j i : Nat) (f : α -> α) : (xs.modify j f)[i]? = if j = i then xs[i]?.map f else xs[i]? := by
 rw [z59q]
variable {ens : Array MapEntry} {clk : Nat}
theorem pF.push (h : pF ens clk) (e : MapEntry) (he : e.born = clk) : pF (ens.push e) (clk + 1) := by
 refine ⟨fun j n hn => ?_, fun i j m n hm hn hb => ?_⟩
 ·rw [z38q] at hn
  split at hn
  ·simp only [Option.some.injEq] at hn; subst hn; omega
  ·have := h.1 j n hn; omega
 ·rw [z38q] at hm hn
  split at hm <;> split at hn
  ·omega
  ·simp only [Option.some.injEq] at hm
   subst hm;have := h.1 j n hn;omega
  ·simp only [Option.some.injEq] at hn
   subst hn;have := h.1 i m hm;omega
  ·exact h.2 i j m n hm hn hb
theorem pF.modify (h : pF ens clk) (j : Nat) {f : MapEntry -> MapEntry} (hf : ∀ e, (f e).born = e.born) : pF (ens.modify j f) clk := by
 have key : ∀ (i : Nat) n, (ens.modify j f)[i]? = some n -> ∃ m, ens[i]? = some m /\ m.born = n.born := by
  intro i n hn;rw [A5m] at hn
  split at hn
  ·cases hm : ens[i]? with
   | none => rw [hm] at hn; cases hn
   | some m =>
     rw [hm] at hn;simp only [z37q, Option.some.injEq] at hn;subst hn;exact ⟨m, rfl, (hf m).symm⟩
  ·exact ⟨n, hn, rfl⟩
 refine ⟨fun i n hn => ?_, fun i k m n hm hn hb => ?_⟩
 ·obtain ⟨m, h1, h2⟩ := key i n hn
  have := h.1 i m h1;omega
 ·obtain ⟨m', h1, h2⟩ := key i m hm
  obtain ⟨n', h3, h4⟩ := key k n hn;exact h.2 i k m' n' h1 h3 (by omega)
theorem A7F {y v u : Operand} (F3 : o.op = .mapUpdate t y v u) (H : (ob (src C.P t st y) fun r => ob (src C.P 0 st v) fun key => ob (src C.P 0 st u) fun val => ob (mapKeys C.P t) fun q =>
 og (isKey q.1 key.1 && J6 key.2 && J6 val.2)
  (match r.2 with
    | .map i => ob (Ko st.sg i) fun p => og (p.1 == q.1) (k ({ st with sg := st.sg.set i (.map q.1 (JJ p.2 key.1 val.1)) }.put o.dst (.H7 []) .val))
    | _ => none)) = some x) (Rl : K3 E st a w.heap) (T : Then E w k x K) : Gp C.P o a w K := by
 obtain ⟨r, h1, H⟩ := C8 H;obtain ⟨key, h2, H⟩ := C8 H;obtain ⟨val, h3, H⟩ := C8 H;obtain ⟨q, hq, H⟩ := C8 H;obtain ⟨hc, H⟩ := F9 H;simp only [z19q] at hc;obtain ⟨⟨dZ, hkd⟩, hvd⟩ := hc;have e1 := Rl.src h1;have e2 := (Rl.src h2).data hkd;have e3 := (Rl.src h3).data hvd
 split at H
 ·rename_i i hm
  rw [hm] at e1;simp only [RR, J8] at e1;obtain ⟨p, hp, H⟩ := C8 H;obtain ⟨hpq, H⟩ := F9 H;have hpq : p.1 = q.1 := by simpa using hpq
  have hp := A5B hp;rw [hpq] at hp;obtain ⟨ens, clk, b1, b2, ⟨b3, b4⟩, b5⟩ := Rl.U4 i _ hp;obtain ⟨kt, hu, ZQ⟩ := A0m hq;have kJ : ∃ kd, C.P.underlying kt = some kd /\ ((q.1 = false /\ kd = .int .i64) \/ (q.1 = true /\ kd = .string)) := by
   rcases ZQ with ⟨h3, h4⟩ | ⟨h3, h4⟩
   ·exact ⟨_, h4, .inl ⟨h3, rfl⟩⟩
   ·exact ⟨_, h4, .inr ⟨h3, rfl⟩⟩
  obtain ⟨kd, hku, kJ⟩ := kJ;have A8Y : kd = .int .i64 \/ kd = .string := by rcases kJ with h3 | h3 <;> simp [h3.2]
  have F := qJ kJ dZ e2 val.1 p.2 ens.toList 0 (by simpa using b3) (fun j e n g1 g2 => b4 j e n g1 (by simpa using g2))
  have hgo : (getObj (E.obj i)).run C.P w = .ok (.map ens clk) w := by simp [getObj, Sem.run, b1]
  have B5s : E.obj i < w.heap.size := (z13q.1 b1).1;have Jw := (z0q.1 hp).1;have fin : ∀ (ens' : Array MapEntry) (clk' : Nat), B8k E.S w.heap q.1 (JJ p.2 key.1 val.1) ens' -> pF ens' clk' -> (Instr.mapUpdate t (a.eval y) (a.eval v) (a.eval u)).run C.P w = .ok () { w with heap := w.heap.setIfInBounds (E.obj i) (.map ens' clk') } -> Gp C.P o a w K := by
   intro ens' clk' hR hB U1;have B2l : (w.heap.setIfInBounds (E.obj i) (.map ens' clk'))[E.obj i]? = some (.map ens' clk') := z15q B5s;have hold : ∀ b, b ≠ E.obj i -> (w.heap.setIfInBounds (E.obj i) (.map ens' clk'))[b]? = w.heap[b]? := fun b hb => z16q (Ne.symm hb)
   have P1 : Pr (fun t => t = .obj i) E w.heap E (w.heap.setIfInBounds (E.obj i) (.map ens' clk')) := by
    refine ⟨by simp, fun b hb => ?_, fun _ _ _ _ => rfl, z10q _, fun _ _ _ => ⟨rfl, rfl, rfl⟩, fun _ _ => rfl, Dc rfl⟩
    by_cases ZO : b = E.obj i
    ·subst ZO
     rw [b1];intro h0;exact absurd (b2 0) h0
    ·rw [hold b ZO]; exact X8.refl _ _
   have hs := P1.shut (by simp) Rl.fresh
   have R1 : K3 E { st with sg := st.sg.set i (.map q.1 (JJ p.2 key.1 val.1)) } a (w.heap.setIfInBounds (E.obj i) (.map ens' clk')) := by
    refine ⟨Rl.size, Rl.Af, Rl.Ca, by simpa using Rl.n, fun t v hv => (Rl.regs t v hv).mono P1 hs (by simp) (by simp), fun s' cs' EI => (Rl.boxes s' cs' EI).mono P1 hs (by simp) (by simp), fun i' ob hi => ?_, fun b o' GJ => Rl.fresh b o' (by simpa using GJ)⟩
    by_cases Dr : i = i'
    ·subst Dr
     simp only [z4q Jw, Option.some.injEq] at hi;subst hi;refine ⟨ens', clk', B2l, b2, ⟨hR.1, fun j e n g1 g2 => ?_⟩, hB⟩
     obtain ⟨c1, c2, c3⟩ := hR.2 j e n g1 g2;exact ⟨c1, c2.mono hs, c3.mono hs⟩
    ·simp only [z5q Dr] at hi
     exact (Rl.U4 i' ob hi).mono P1 hs (CS Rl hi) (by simp; exact fun h => Dr h.symm) (by simp)
   refine Kt (w' := { w with heap := w.heap.setIfInBounds (E.obj i) (.map ens' clk') }) ?_ (T E _ _ { w with heap := w.heap.setIfInBounds (E.obj i) (.map ens' clk') } H (R1.put fun t0 _ => ?_) (P1.weaken (by rintro T rfl; simp [O3])))
   ·simp only [execOp, F3]
    exact B6T U1
   ·simp only [RR, J8, RV]
    exact ⟨#[], rfl, by simp [Pq]⟩
  have B8Y : ∀ (ens' : Array MapEntry) (clk' : Nat), (setObj (E.obj i) (.map ens' clk')).run C.P w = .ok () { w with heap := w.heap.setIfInBounds (E.obj i) (.map ens' clk') } := by
   intro ens' clk';simp [setObj, Sem.run, b1]
  rcases F with ⟨g1, g2, g3⟩ | ⟨j, e, n, g0, g0', g1, g2, g3, g4, g5⟩
  ·refine fin (ens.push { key := a.eval v, val := a.eval u, born := clk }) (clk + 1) ?_ (b5.push _ rfl) ?_
   ·rw [g3]
    refine ⟨by simp [b3], fun j e n h1 h2 => ?_⟩
    by_cases hj : j < p.2.length
    ·rw [z2q hj] at h1
     rw [z38q, if_neg (by omega)] at h2
     exact b4 j e n h1 h2
    ·have hj1 : j = p.2.length := by have := (z0q.1 h1).1; simp at this; omega
     subst hj1;rw [z3q (z10q _)] at h1;simp only [z39q, z7q, Option.some.injEq] at h1;rw [z38q, if_pos b3] at h2;simp only [Option.some.injEq] at h2;subst h1 h2;exact ⟨dZ, e2, e3⟩
   ·unfold Instr.mapUpdate
    rw [e1.2];simp only [Sem.run_bind, run_underlying hu, Result.andThen_ok, hgo, run_checkKey hku A8Y, Instr.findKey, run_underlying hku, g1, Sem.run_pure];exact B8Y _ _
  ·have v_ : j < ens.size := by have := (z0q.1 g0').1; simpa using this
   have hn : ens[j]? = some n := by simpa using g0'
   refine fin (ens.modify j fun e => { e with key := a.eval v, val := a.eval u }) clk ?_ (b5.modify j fun _ => rfl) ?_
   ·rw [g3]
    refine ⟨by simp [b3], fun j' e' n' h1 h2 => ?_⟩
    rw [A5m] at h2
    by_cases hjj : j = j'
    ·subst hjj
     rw [if_pos rfl, hn] at h2;simp only [z37q, Option.some.injEq] at h2;rw [z4q (z0q.1 g0).1] at h1;simp only [Option.some.injEq] at h1;subst h1 h2;exact ⟨by rw [g5]; exact dZ, by rw [g5]; exact e2, e3⟩
    ·rw [if_neg hjj] at h2
     rw [z5q hjj] at h1;exact b4 j' e' n' h1 h2
   ·unfold Instr.mapUpdate
    rw [e1.2];have C0m : (Instr.keyThatStays n.key (a.eval v)).run C.P w = .ok (a.eval v) w := by
     unfold Instr.keyThatStays;have : Instr.sameBits 10000 n.key (a.eval v) = true := by
      rw [g4];rcases kJ with ⟨h3, -⟩ | ⟨h3, -⟩
      ·rw [h3] at dZ
       cases hk1 : key.1 <;> rw [hk1] at dZ e2 <;> simp only [isKey, z14q, z62q, z66q] at dZ;rw [Bp] at e2;rw [e2];simp [Instr.sameBits]
      ·rw [h3] at dZ
       cases hk1 : key.1 <;> rw [hk1] at dZ e2 <;> simp only [isKey, z14q, z67q, z63q] at dZ;rw [Xg] at e2;rw [e2];simp only [Instr.sameBits];rw [beq_toListBytes];simp
     rw [if_pos this];rfl
    simp only [Sem.run_bind, run_underlying hu, Result.andThen_ok, hgo, run_checkKey hku A8Y, Instr.findKey, run_underlying hku, g1, Sem.run_pure, z11q, hn, z37q, z53q, C0m];exact B8Y _ _
 ·simp at H
theorem K3.rH (Rl : K3 E st a w.heap) {t i : Nat} {ms : List Meta} (hm : (st.get t).2 = .Bf ms) (dz : ms[i]? = some .own) (L8 : t < st.mt.length) {f : Tag -> Tag} (hf : ∀ T, T ≠ .sp 0 t (i + 1) -> f T = T) :
 K3 (E.re f) { st with mt := st.mt.set t (.Bf (ms.set i .val)) } a w.heap := by
 have FB : f .shut = .shut := hf _ (by simp)
 have NM : f .other = .other := hf _ (by simp)
 have P : Pr (fun T => T = .sp 0 t (i + 1)) E w.heap (E.re f) w.heap := Pr.re fun T hT => hf T hT
 have J3 : Z9 E.S w.heap (E.re f).S w.heap := Je FB;refine ⟨Rl.size, by simpa using Rl.Af, Rl.Ca, Rl.n, fun u v hu => ?_, fun s cs hs => (Rl.boxes s cs hs).mono P J3 (by simp) (by simp), fun j ob hj => (Rl.U4 j ob hj).mono P J3 (CS Rl hj) (by simp) (by simp), fun b o hb => ?_⟩
 ·have h0 := Rl.regs u v hu
  by_cases hut : t = u
  ·subst hut
   have hg : St.get { st with mt := st.mt.set t (.Bf (ms.set i .val)) } t = ((st.get t).1, .Bf (ms.set i .val)) := by
    simp [St.get, z8q, z4q L8]
   rw [hg];rw [hm] at h0;simp only [RR] at h0 ⊢;obtain ⟨ds, vs, h1, h2, h3, h4, h5⟩ := h0;refine ⟨ds, vs, h1, h2, by simpa using h3, by simpa using h4, fun j m' d' u' e1 e2 e3 => ?_⟩
   by_cases hj : i = j
   ·subst hj
    have hil : i < ms.length := by have := (z0q.1 e1).1; simpa using this
    rw [z4q hil] at e1;simp only [Option.some.injEq] at e1;subst e1;obtain ⟨a0, a4⟩ := h5 i _ d' u' dz e2 e3;exact ⟨rfl, RV.mono J3 _ a4.1⟩
   ·rw [z5q hj] at e1
    obtain ⟨a0, a4⟩ := h5 j m' d' u' e1 e2 e3;exact ⟨a0, a4.re FB (hf _ (by simp; exact fun h => hj h.symm))⟩
  ·have hg : St.get { st with mt := st.mt.set t (.Bf (ms.set i .val)) } u = st.get u := by
    simp [St.get, z8q, z5q hut]
   rw [hg];exact h0.re FB NM fun b => hf _ (by simp; intro h; exact absurd h.symm hut)
 ·simp only [Env.re]; rw [Rl.fresh b o hb, NM]
theorem B0G {fl : Flags} {y : Operand} {i : Nat} (F3 : o.op = .extract y i) (H : (ob (src C.P 0 st y) fun r =>
 match r.2 with
 | .val => ob (J5 i r.1) fun d => k (st.put o.dst d .val)
 | .Bf ms => ob (J5 i r.1) fun d =>
   match ms.getD i .val with
   | .own => if J4 fl.P7 o.dst then k ((st.rH y (.Bf (ms.set i .val))).put o.dst d .own) else k (st.put o.dst d .val)
   | .val => k (st.put o.dst d .val)
   | _ => none
 | _ => none) = some x) (Rl : K3 E st a w.heap) (T : Then E w k x K) : Gp C.P o a w K := by
 obtain ⟨r, h1, H⟩ := C8 H
 split at H
 ·rename_i hm
  obtain ⟨d, hd, H⟩ := C8 H;exact B7M F3 h1 hm hd rfl H Rl @T
 ·rename_i ms hm
  obtain ⟨d, hd, H⟩ := C8 H;have e1 := Rl.src h1;rw [hm] at e1;simp only [RR] at e1;obtain ⟨ds, vs, hr, hv, l1, l2, l3⟩ := e1;obtain ⟨cs, AR, hdi⟩ := A6I hd;rw [hr] at AR;simp only [DV.H7.injEq] at AR;subst AR;have hi : i < ds.length := (z0q.1 hdi).1;have hmi : ms[i]? = some (ms.getD i .val) := by simp [z8q, z1q (by omega : i < ms.length)]
  have hvi : vs[i]? = some (vs[i]'(by omega)) := z35q (by omega)
  obtain ⟨a0, a4⟩ := l3 i _ d _ hmi hdi hvi;have U1 : (execOp a.eval o).run C.P w = .ok (.value (vs[i]'(by omega))) w := by
   simp only [execOp, F3];refine Bv ?_;simp only [Instr.extract, hv, hvi, Sem.run_pure]
  split at H
  ·rename_i hmo
   rw [hmo] at a4
   by_cases S9 : J4 fl.P7 o.dst = true
   ·rw [if_pos S9] at H
    have H2 := H;clear H;have hy : ∃ t, y = .tmp t := by
     cases y with
     | tmp t => exact ⟨t, rfl⟩
     | const v => exact absurd hm (fun h => (Xk h1).2 ms h)
     | func f => simp only [src, Option.some.injEq] at h1; subst h1; simp at hm
     | global g => simp [src] at h1
    obtain ⟨t, rfl⟩ := hy;simp only [src, Option.some.injEq] at h1;subst h1;simp only [oM] at a4;cases FN : o.dst with
    | none => rw [FN] at S9; simp [J4] at S9
    | some t0 =>
      rw [FN] at H2;refine Ap U1 ?_;rw [FN];have htl : t < st.mt.length := by
       rcases z30q t st.mt.length with h1 | h1
       ·exact h1
       ·rw [iZ (by rw [<- Rl.Af]; exact h1) Rl.Af] at hm; simp at hm
      refine T (E.re (Oa (.sp 0 t (i + 1)) t0)) _ _ w H2 ((Rl.rH hm (by rw [hmi, hmo]) htl fun T hT => Gc hT).put fun t1 ht => ?_) (Pr.re fun T hT => Gc fun he => hT (by rw [he]; simp [O3]))
      simp only [Option.some.injEq] at ht;subst ht;exact RR.AU (a4.re (Gc (by simp)) (by simp [Oa]))
   ·rw [if_neg S9] at H
    exact AB U1 H Rl a4.1 @T
  ·rename_i hmo
   rw [hmo] at a4;exact AB U1 H Rl a4 @T
  ·simp at H
 ·simp at H
end
end Go.Su

/-
 THE DATA MACHINE, part 16: append.
-/
namespace Go.Su
def GG (S : Z5) (h : Heap) (sz : Nat) (ds : List DV) (all : List Value) : Prop :=
 all.length = ds.length * sz /\ ∀ (i : Nat) d, ds[i]? = some d -> ∃ vs : List Value, vs.length = sz /\ (∀ (j : Nat) u, vs[j]? = some u -> all[i * sz + j]? = some u) /\ RC S h d vs
variable {S : Z5} {h : Heap} {sz : Nat} {ds : List DV} {all : List Value}
theorem GG.mono {S' : Z5} {h' : Heap} (J3 : Z9 S h S' h') (H : GG S h sz ds all) : GG S' h' sz ds all :=
 ⟨H.1, fun i d hd => let ⟨vs, v1, v2, v3⟩ := H.2 i d hd; ⟨vs, v1, v2, v3.mono J3⟩⟩
theorem vo {S : Z5} {h : Heap} {sz b : Nat} : ∀ {ds : List DV} {o : Nat}, Di S h sz b o ds -> ∃ all, GG S h sz ds all /\ ∀ (j : Nat) u, all[j]? = some u -> hc h b (o + j) = some u /\ S b (o + j)
 | [], o, _ => ⟨[], ⟨by simp, by simp⟩, by simp⟩
 | d :: ds, o, H => by
   simp only [Di] at H;obtain ⟨⟨vs, v1, v2, v3⟩, H⟩ := H;obtain ⟨all, ⟨l1, l2⟩, l3⟩ := vo H;refine ⟨vs ++ all, ⟨by simp [l1, v1, z27q]; omega, fun i d' hd => ?_⟩, fun j u hu => ?_⟩
   ·cases i with
    | zero =>
      simp only [z7q, Option.some.injEq] at hd;subst hd;refine ⟨vs, v1, fun j u hu => ?_, v3⟩
      rw [z42q, z11q, z2q (z0q.1 hu).1];exact hu
    | succ i =>
      simp only [z12q] at hd;obtain ⟨us, u1, u2, u3⟩ := l2 i d' hd;refine ⟨us, u1, fun j u hu => ?_, u3⟩
      rw [z3q (by rw [v1, z27q]; omega), v1]
      rw [show (i + 1) * sz + j - sz = i * sz + j from by rw [z27q]; omega]
      exact u2 j u hu
   ·by_cases hj : j < vs.length
    ·rw [z2q hj] at hu
     exact v2 j u hu
    ·rw [z3q (by omega)] at hu
     have := l3 _ u hu
     rwa [show o + sz + (j - vs.length) = o + j from by omega] at this
theorem sO {b o : Nat} (H : GG S h sz ds all) (hc : ∀ (j : Nat) u, all[j]? = some u -> Su.hc h b (o + j) = some u /\ S b (o + j)) : Di S h sz b o ds := by
 refine EA.2 fun i d hd => ?_
 obtain ⟨vs, v1, v2, v3⟩ := H.2 i d hd;refine ⟨vs, v1, fun j u hu => ?_, v3⟩
 have := hc _ u (v2 j u hu)
 rwa [<- z47q] at this
theorem GG.append {es : List DV} {A B : List Value} (H : GG S h sz ds A) (G : GG S h sz es B) : GG S h sz (ds ++ es) (A ++ B) := by
 refine ⟨by simp [H.1, G.1, z29q], fun i d hd => ?_⟩
 by_cases hi : i < ds.length
 ·rw [z2q hi] at hd
  obtain ⟨vs, v1, v2, v3⟩ := H.2 i d hd;refine ⟨vs, v1, fun j u hu => ?_, v3⟩
  have hj : j < sz := by have := (z0q.1 hu).1; omega
  have := seg_lt hi hj;rw [z2q (by rw [H.1]; exact this)]
  exact v2 j u hu
 ·rw [z3q (by omega)] at hd
  obtain ⟨vs, v1, v2, v3⟩ := G.2 _ d hd;refine ⟨vs, v1, fun j u hu => ?_, v3⟩
  have e : i * sz + j = ds.length * sz + ((i - ds.length) * sz + j) := by
   rw [<- z47q, <- z29q]
   congr 2
   omega
  rw [e, <- H.1, z3q (by omega), Nat.add_sub_cancel_left]
  exact v2 j u hu
theorem GG.one (hs : 0 < sz) (H : GG S h sz ds all) : ∀ u ∈ all, u.oneCell' = true := by
 intro u hu;obtain ⟨j, hj, hju⟩ := z24q.1 hu;have L8 : j < ds.length * sz := by rw [<- H.1]; exact hj
 have hi : j / sz < ds.length := (Nat.div_lt_iff_lt_mul hs).2 L8;obtain ⟨vs, v1, v2, v3⟩ := H.2 (j / sz) _ (z1q hi);have hm : j % sz < vs.length := by rw [v1]; exact Nat.mod_lt _ hs
 have h1 := v2 (j % sz) _ (z1q hm);rw [z55q, Nat.div_add_mod, z1q hj, hju] at h1;simp only [Option.some.injEq] at h1;obtain ⟨q1, q2⟩ := OL v3 (z1q hm);rw [h1];exact Ir q1 q2
theorem A63 (n : Nat) : ∀ (r c : Nat), c < n + 1 -> Builtin.growBy n r c <= 2 * n + 192
 | 0, c, h => by simp [Builtin.growBy]; omega
 | r + 1, c, h => by
   simp only [Builtin.growBy]
   split
   ·omega
   ·rename_i L8
    by_cases h2 : c + (c + 768) / 4 < n + 1
    ·exact A63 n r _ h2
    ·cases r with
     | zero => simp only [Builtin.growBy]; omega
     | succ r =>
       simp only [Builtin.growBy];rw [if_pos (by omega)]
       omega
theorem B2x {need old : Nat} (h : old < need) : Builtin.nextslicecap need old <= 2 * need + 192 := by
 unfold Builtin.nextslicecap
 split
 ·omega
 ·split
  ·omega
  ·exact A63 need 4 old (by omega)
variable {P : Program}
theorem Zl {t u : TypeId} (h : A4I P t u = some sz) : ∃ e e' z i zv, P.underlying t = some (.slice e) /\ P.underlying u = some (.slice e') /\ tz P e = some z /\ z.1 = sz /\ 0 < sz /\ P.info? e = some i /\ i.bytes <= 2 ^ 14 /\ i.zero = some zv /\ zv.cells.size = sz := by
 unfold A4I at h;obtain ⟨e, he, h⟩ := C8 h;obtain ⟨e', he', h⟩ := C8 h;obtain ⟨z, hz, h⟩ := C8 h;obtain ⟨i, hi, h⟩ := C8 h;obtain ⟨zs, ZV, h⟩ := C8 h;obtain ⟨⟨h1, h2, h3⟩, h⟩ := K9 h;simp only [Option.some.injEq] at h;have ht : ∀ {t e : TypeId}, IL P t = some e -> P.underlying t = some (.slice e) := by
  intro t e he;unfold IL at he
  split at he
  ·simp only [Option.some.injEq] at he; subst he; assumption
  ·simp at he
 obtain ⟨inf, zv, Ac, Sr, AJ⟩ := XZ ZV;rw [hi] at Ac;simp only [Option.some.injEq] at Ac;subst Ac;have := (AJ ⟨fun _ => 0, fun _ => 0, fun _ => 0, fun _ => 0, fun _ _ => .other, 0, fun _ => 0⟩ #[]).1
 simp only [z64q] at this;exact ⟨e, e', z, i, zv, ht he, ht he', hz, h, by omega, hi, h2, Sr, by omega⟩
theorem B3j {d e r : DV} (h : AQ sz d e = some r) : ∃ ds es, d = .list sz ds /\ e = .list sz es /\ ds.length + es.length <= lim /\ r = .list sz (ds ++ es) := by
 unfold AQ at h
 split at h
 ·obtain ⟨⟨⟨h1, h2⟩, h3⟩, h⟩ := K9 h
  simp only [Option.some.injEq] at h;subst h1 h2;exact ⟨_, _, rfl, rfl, h3, h.symm⟩
 ·simp at h
theorem B7A (st : St) (t : Nat) (d d' : DV) (m m' : Meta) : (st.put (some t) d m).put (some t) d' m' = st.put (some t) d' m' := by
 simp [St.put, List.set_set]
theorem A14 (a : Act) (t : Nat) (v v' : Value) : (a.put (some t) v).put (some t) v' = a.put (some t) v' := by
 have : (a.tmps.setIfInBounds t v).setIfInBounds t v' = a.tmps.setIfInBounds t v' := by
  apply Array.ext_getElem?;intro i
  by_cases h : t = i
  ·subst h
   by_cases hl : t < a.tmps.size
   ·rw [z15q (by simpa using hl), z15q hl]
   ·rw [z56q (by simpa using hl), z56q (by simpa using hl)]
  ·rw [z16q h, z16q h, z16q h]
 simp [Act.put, this]
section
variable {P : Program} {t u ty e e' : TypeId} {inf : TypeInfo} {w : World} {b : Option Addr} {len cap n sz : Nat} {v : Value} {all' : List Value}
theorem A3f (b : Option Addr) (n c : Nat) : Builtin.lenOf (.slice b n c) = pure n := rfl
theorem A5w (hu : P.underlying t = some (.slice e)) (Iz : P.underlying u = some (.slice e')) (Ac : P.info? e = some inf) (hn : Builtin.lenOf v = pure n) (hv : (Builtin.firstCells inf.size n v).run P w = .ok all'.toArray w) (Da : len + n <= cap) : (Builtin.append_ #[t, u] ty #[.slice none len cap, v]).run P w = .ok (.slice none (len + n) cap) w := by
 unfold Builtin.append_;simp [run_underlying hu, run_underlying Iz, sizeOf, typeInfo, Ac, hn, Da, hv]
theorem JC {y : Addr} {w' : World} (hu : P.underlying t = some (.slice e)) (Iz : P.underlying u = some (.slice e')) (Ac : P.info? e = some inf) (hn : Builtin.lenOf v = pure n) (hv : (Builtin.firstCells inf.size n v).run P w = .ok all'.toArray w) (Da : len + n <= cap) (S9 : (storeCells (y.add (len * inf.size)) all').run P w = .ok () w') : (Builtin.append_ #[t, u] ty #[.slice (some y) len cap, v]).run P w = .ok (.slice (some y) (len + n) cap) w' := by
 unfold Builtin.append_;simp [run_underlying hu, run_underlying Iz, sizeOf, typeInfo, Ac, hn, Da, hv, S9]
theorem run_append_grow {zv : Value} (hu : P.underlying t = some (.slice e)) (Iz : P.underlying u = some (.slice e')) (Ac : P.info? e = some inf) (hn : Builtin.lenOf v = pure n) (hv : ∀ w' : World, w'.heap = w.heap -> (Builtin.firstCells inf.size n v).run P w' = .ok all'.toArray w') (hs : ∀ w' : World, w'.heap = w.heap -> (Builtin.firstCells inf.size len (.slice b len cap)).run P w' = .ok all.toArray w') (Sr : inf.zero = some zv) (Da : ¬ len + n <= cap) (B3K : len + n <= 4294967296) (hb : inf.bytes <= 2 ^ 14) :
 ∃ nc, len + n <= nc /\ (Builtin.append_ #[t, u] ty #[.slice b len cap, v]).run P w = .ok (.slice (some ⟨w.heap.size, 0, none⟩) (len + n) nc) (w.drew.alloc (.cells (all ++ all' ++ (Builtin.zeroCells zv.cells (nc - (len + n))).toList).toArray e)) := by
 refine ⟨(Question.appendCap (len + n) cap e).cut (w.tape w.drawn (Question.appendCap (len + n) cap e)), by simp only [Question.cut]; omega, ?_⟩
 have A5Z : Builtin.nextslicecap (len + n) cap * inf.bytes <= 2 ^ 48 := by
  have h1 := B2x (need := len + n) (old := cap) (by omega)
  calc Builtin.nextslicecap (len + n) cap * inf.bytes <= (2 * 4294967296 + 192) * 2 ^ 14 := Nat.mul_le_mul (by omega) hb
   _ <= 2 ^ 48 := by decide
 have C1S : ¬ (((len + n : Nat) : Int) > IntKind.i64.max) := by rw [IntKind.max_i64]; omega
 have C0g : ¬ (Builtin.nextslicecap (len + n) cap * inf.bytes > 2 ^ 48) := by omega
 have q1 := hs w.drew rfl;have q2 := hv w.drew rfl;unfold Builtin.append_;have C0j : ¬ ((9223372036854775807 : Int) < (len : Int) + (n : Int)) := by omega
 simp [run_underlying hu, run_underlying Iz, sizeOf, typeInfo, Ac, hn, Da, C0j, C0g, Question.forced, q1, q2, zeroValue, Sr, newRow];refine congrArg (fun z => w.drew.alloc (.cells z e)) (z71q.1 ?_)
 simp
end
section
variable {X : Type} {C : AO} {R : Q8} {o : Oper} {st : St} {k : St -> Option X} {x : X} {E : Env} {a : Act} {w : World} {K : Act -> World -> Prop} {Q : Exit -> Act -> World -> Prop}
theorem Wj {b o' : Nat} (H : ∀ (j : Nat) u, all[j]? = some u -> hc w.heap b (o' + j) = some u) : (loadCells ⟨b, o', none⟩ all.length).run P w = .ok all.toArray w := by
 refine run_loadCells_list w _ all fun j v hv => ?_
 rw [Addr.add_lit, SC];exact H j v hv
theorem OV {v : Value} (H : RV S w.heap (.list sz ds) v) : ∃ b len cap all, v = .slice b len cap /\ len = ds.length /\ len <= cap /\ (b = none -> cap = 0) /\ GG S w.heap sz ds all /\
 (∀ y, b = some y -> (0 < cap -> y = ⟨y.block, y.off, none⟩) /\ ∀ (j : Nat) u, all[j]? = some u -> hc w.heap y.block (y.off + j) = some u /\ S y.block (y.off + j)) /\ (b = none -> all = []) /\
 ∀ w' : World, w'.heap = w.heap -> (Builtin.firstCells sz len v).run P w' = .ok all.toArray w' := by
 obtain ⟨b, len, cap, rfl, h1, h2, h3, h4, h5⟩ := LZ H;cases b with
 | none =>
   have h0 := h3 rfl;have ic : ds = [] := z18q (by omega)
   subst ic;exact ⟨none, len, cap, [], rfl, h1, h2, h3, ⟨by simp, by simp⟩, by simp, fun _ => rfl, fun w' _ => rfl⟩
 | some y =>
   obtain ⟨s1, s2⟩ := h5 y rfl;obtain ⟨all, f1, f2⟩ := vo s2;have hy : 0 < cap -> y = ⟨y.block, y.off, none⟩ := fun hc => by have s1 := s1 hc; cases y; simp only at s1; subst s1; rfl
   refine ⟨some y, len, cap, all, rfl, h1, h2, h3, f1, fun z hz => ?_, by simp, fun w' hw => ?_⟩
   ·simp only [Option.some.injEq] at hz
    subst hz;exact ⟨hy, f2⟩
   ·have hl : len * sz = all.length := by rw [f1.1, h1]
    show (loadCells y (len * sz)).run P w' = _
    by_cases hc : 0 < cap
    ·rw [hl, hy hc]
     exact Wj (fun j u hu => by rw [hw]; exact (f2 j u hu).1)
    ·have h0 : len = 0 := by omega
     have h9 : all = [] := z18q (by rw [<- hl, h0]; simp)
     rw [h9, h0, z42q];rfl
def Env.Wu (E : Env) (b lo hi : Nat) : Env := { E with O := fun b' o => if b' = b /\ lo <= o /\ o < hi then .shut else E.O b' o }
def Env.newRow (E : Env) (b lo hi : Nat) (tg : Tag) : Env := { E with O := fun b' o => if b' = b then (if o < lo then .shut else if o < hi then tg else .other) else E.O b' o }
theorem B2H {fl : Flags} {c : Call} {y v : Operand} {t u : TypeId} (F3 : o.op = .call c) (A8V : c.callee = .builtin .append) (ha : c.args.toList = [y, v]) (ht : c.argTypes.toList = [t, u]) (Vk : J4 fl.opn o.dst = false) (QP : J4 fl.DR o.dst = false) (H : Eh C fl o y v t u st k = some x) (Rl : K3 E st a w.heap) (T : Then E w k x K) : Gp C.P o a w K := by
 unfold Eh at H;rw [if_neg (by rw [QP]; simp)] at H
 obtain ⟨r, h1, H⟩ := C8 H;obtain ⟨s, h2, H⟩ := C8 H;obtain ⟨sz, BF, H⟩ := C8 H;obtain ⟨hc, H⟩ := F9 H;rw [if_neg (by rw [Vk]; simp)] at H
 obtain ⟨d, hd, H⟩ := C8 H;simp only [z19q] at hc;obtain ⟨⟨Kj, Yl⟩, FN⟩ := hc;obtain ⟨t0, FN⟩ := z33q.1 FN;obtain ⟨e, e', z, inf, zv, hu, Iz, hz, GL, hpos, Ac, dY, Sr, ZV⟩ := Zl BF;obtain ⟨ds, es, hr, hs, A0h, rfl⟩ := B3j hd;have e1 := Rl.src h1;have e2 := (Rl.src h2).data Yl;have e1d : RV E.S w.heap r.1 (a.eval y) := e1.data (by revert Kj; cases r.2 <;> simp [Jy, J6])
 rw [hr] at e1d;rw [hs] at e2;obtain ⟨b, len, cap, all, ev, f1, f2, f3, f4, f5, f6, f7⟩ := OV (P := C.P) e1d;obtain ⟨b', len', cap', all', ev', g1, g2, g3, g4, g5, g6, g7⟩ := OV (P := C.P) e2;have EH : inf.size = sz := by
  obtain ⟨i', d', q1, -, q2, -⟩ := HY hz;rw [Ac] at q1;simp only [Option.some.injEq] at q1;rw [<- GL, q2, q1]
 have U1 : ∀ v' w', (Builtin.append_ #[t, u] o.type #[a.eval y, a.eval v]).run C.P w = .ok v' w' -> (execOp a.eval o).run C.P w = .ok (.value v') w' := by
  intro v' w' hv;refine Hq F3 A8V ?_;rw [SA ht, show c.args.map a.eval = #[a.eval y, a.eval v] from by rw [SA ha]; simp]
  exact Bv hv
 rw [FN] at H;have QO : Builtin.lenOf (a.eval v) = pure len' := by rw [ev']; rfl
 have B3K : ds.length + es.length <= 4294967296 := A0h;have A3G := g4.one hpos
 by_cases Da : len + len' <= cap
 ·-- it fits: the slice's own memory is written
  have R0 := Rl.release (x := y) (f := Bg y 0 t0 0) fun T hT => Er hT
  have P0 : Pr O3 E w.heap (E.re (Bg y 0 t0 0)) w.heap := Pr.re fun T hT => Er fun t b _ he => hT (by rw [he]; simp [O3])
  have qQ : Z9 E.S w.heap (E.re (Bg y 0 t0 0)).S w.heap := Je (Er (by simp))
  have hsp : ∀ p, b = some p -> len < cap -> ∃ cc TT f, w.heap[p.block]? = some (.cells cc TT f) /\ p.off + cap * sz <= cc.size /\
   ∀ o', p.off + len * sz <= o' -> o' < p.off + cap * sz -> (E.re (Bg y 0 t0 0)).O p.block o' = .sp 0 t0 0 /\ ¬(f.1 <= o' /\ o' < f.2) := by
   intro p hp L8;subst hp;have dz : r.2 = .own := by
    revert Kj e1
    cases r.2 <;> intro Kj e1 <;> simp only [Jy, z14q] at Kj
    ·simp only [RR, J8] at e1
     obtain ⟨-, ⟨q, n, hq⟩, -⟩ := e1;rw [ev] at hq;simp only [Value.slice.injEq] at hq;omega
    ·rfl
   rw [dz] at e1;simp only [RR, J8] at e1;obtain ⟨-, sz', ds', hl, hS⟩ := e1;rw [hr] at hl;simp only [DV.list.injEq] at hl;obtain ⟨cc, TT, f, c1, c2, c3⟩ := hS p len cap ev L8;rw [<- hl.1] at c2 c3;refine ⟨cc, TT, f, c1, c2, fun o' h3 h4 => ?_⟩
   obtain ⟨c4, c5⟩ := c3 o' h3 h4;refine ⟨?_, c5⟩;have hy : ∃ i, y = .tmp i := by
    cases y with
    | tmp i => exact ⟨i, rfl⟩
    | const v => exact absurd dz (Xk h1).1
    | func f => simp only [src, Option.some.injEq] at h1; subst h1; simp at dz
    | global g => simp [src] at h1
   obtain ⟨i, rfl⟩ := hy;simp only [Env.re];rw [c4];simp [Bg, oM]
  by_cases hn : len' = 0
  ·-- nothing is appended
   have hes : es = [] := z18q (by omega)
   have C0d : all' = [] := z18q (by rw [g4.1, hes]; simp)
   have AR : (Builtin.append_ #[t, u] o.type #[a.eval y, a.eval v]).run C.P w = .ok (.slice b (len + len') cap) w := by
    rw [ev];cases b with
    | none => exact A5w hu Iz Ac QO (by rw [EH]; exact g7 w rfl) Da
    | some p => exact JC hu Iz Ac QO (by rw [EH]; exact g7 w rfl) Da (by rw [C0d]; rfl)
   refine Ap (U1 _ _ AR) (T _ _ _ w H ?_ P0);rw [FN];refine R0.put fun t1 ZU => ?_
   simp only [Option.some.injEq] at ZU;subst ZU;rw [hes, List.append_nil, hn, z26q, <- ev];refine RR.AU ⟨e1d.mono qQ, _, _, rfl, fun p len1 cap1 hq L8 => ?_⟩
   rw [ev] at hq;simp only [Value.slice.injEq] at hq;obtain ⟨rfl, rfl, rfl⟩ := hq;exact hsp p rfl L8
  ·-- the cells behind are written, and sealed
   cases b with
   | none => have := f3 rfl; omega
   | some p =>
     obtain ⟨hp, -⟩ := f5 p rfl;have hp := hp (by omega)
     obtain ⟨cc, TT, f, c1, c2, c3⟩ := hsp p rfl (by omega)
     have C0i : all'.length = len' * sz := by rw [g4.1, g1]
     have hmul : (len + len') * sz <= cap * sz := z6q _ Da;have A5i : (len + len') * sz = len * sz + len' * sz := z29q _ _ _;have C0l : 0 < len' * sz := z70q (by omega) hpos
     obtain ⟨w', hw, S⟩ := KF (P := C.P) (b := p.block) (T := TT) (f := f) (p.off + len * sz) all' cc 0 w c1 (by omega) A3G (fun o' h3 h4 => (c3 o' (by omega) (by omega)).2)
     have AR : (Builtin.append_ #[t, u] o.type #[a.eval y, a.eval v]).run C.P w = .ok (.slice (some p) (len + len') cap) w' := by
      rw [ev];refine JC hu Iz Ac QO (by rw [EH]; exact g7 w rfl) Da ?_
      rw [EH, hp, Addr.add_lit];exact hw
     simp only [z26q] at S;have R1 : K3 (E.re (Bg y 0 t0 0)) ((st.release y).put (some t0) .undef .val) (a.put (some t0) (.slice (some p) (len + len') cap)) w.heap := R0.put fun t1 _ => by simp only [RR, J8, RV]
     have PS : Pr (fun T => T = .sp 0 t0 0) (E.re (Bg y 0 t0 0)) w.heap ((E.re (Bg y 0 t0 0)).Wu p.block (p.off + len * sz) (p.off + len * sz + len' * sz)) w'.heap := by
      refine ⟨z51q S.size.symm, fun b1 MX => ?_, fun b1 o1 MX hT => ?_, z10q _, fun _ _ _ => ⟨rfl, rfl, rfl⟩, fun _ _ => rfl, Dc rfl⟩
      ·by_cases ZO : b1 = p.block
       ·subst ZO
        rw [c1];obtain ⟨c', q1, q2, q3⟩ := S.ex;refine ⟨c', q1, q2, fun j hj => ?_⟩
        rw [q3 j, if_neg];rintro ⟨q4, q5⟩;exact hj (c3 j q4 (by omega)).1
       ·rw [S.rest b1 ZO]; exact X8.refl _ _
      ·simp only [Env.Wu]
       rw [if_neg];rintro ⟨rfl, q4, q5⟩;exact hT (c3 o1 q4 (by omega)).1
     have ER := PS.shut (by simp) R1.fresh
     have R2 : K3 ((E.re (Bg y 0 t0 0)).Wu p.block (p.off + len * sz) (p.off + len * sz + len' * sz)) ((st.release y).put (some t0) .undef .val) (a.put (some t0) (.slice (some p) (len + len') cap)) w'.heap := by
      refine ⟨R1.size, R1.Af, R1.Ca, R1.n, fun q vq hq => ?_, fun s' cs' EI => (R1.boxes s' cs' EI).mono PS ER (by simp) (by simp), fun i' ob hi => (R1.U4 i' ob hi).mono PS ER (by rw [<- R1.n]; exact (z0q.1 hi).1) (by simp) (by simp), fun b1 o1 MX => ?_⟩
      ·have h0 := R1.regs q vq hq
       by_cases hqt : t0 = q
       ·subst hqt
        have B5t : t0 < (st.release y).tm.length := by
         have := (z13q.1 hq).1;rw [aj] at this;rw [<- R0.size]; exact this
        rw [VG B5t R0.Af];simp only [RR, J8, RV]
       ·exact h0.mono PS ER (by simp; exact fun hh => absurd hh.symm hqt) (by simp)
      ·have hb2 : w.heap.size <= b1 := by rw [<- S.size]; exact MX
       simp only [Env.Wu];rw [if_neg]
       ·exact R1.fresh b1 o1 hb2
       ·rintro ⟨rfl, -⟩
        have := (z13q.1 c1).1;omega
     have B8Q : RR ((E.re (Bg y 0 t0 0)).Wu p.block (p.off + len * sz) (p.off + len * sz + len' * sz)) w'.heap 0 t0 (.list sz (ds ++ es)) .own (.slice (some p) (len + len') cap) := by
      refine RR.AU ⟨?_, _, _, rfl, fun p1 len1 cap1 hq L8 => ?_⟩
      ·have C1J := qQ
       refine UB (by simp; omega) Da (by simp) (fun _ => hpos) fun p1 hp1 => ?_
       simp only [Option.some.injEq] at hp1;subst hp1;refine ⟨fun _ => by rw [hp], sO (((f4.mono qQ).mono ER).append ((g4.mono qQ).mono ER)) fun j q hq => ?_⟩
       by_cases hj : j < all.length
       ·rw [z2q hj] at hq
        obtain ⟨q1, q2⟩ := (f5 p rfl).2 j q hq;exact ⟨ER.c _ _ _ (qQ.s _ _ q2) q1, ER.s _ _ (qQ.s _ _ q2)⟩
       ·rw [z3q (by omega)] at hq
        have hal : all.length = len * sz := by rw [f4.1, f1]
        have v_ : j - all.length < all'.length := (z0q.1 hq).1;obtain ⟨c', q1, q2, q3⟩ := S.ex;constructor
        ·unfold hc
         rw [q1]
         show c'[p.off + j]? = some q
         rw [q3, if_pos (by omega), <- hq]
         congr 1
         omega
        ·simp only [Env.S, Env.Wu]
         rw [if_pos (by refine ⟨trivial, ?_, ?_⟩ <;> omega)]
      ·simp only [Value.slice.injEq, Option.some.injEq] at hq
       obtain ⟨rfl, rfl, rfl⟩ := hq;obtain ⟨c', q1, q2, q3⟩ := S.ex;refine ⟨c', TT, f, q1, by rw [q2]; exact c2, fun o' h3 h4 => ?_⟩
       rw [A5i] at h3;obtain ⟨c4, c5⟩ := c3 o' (by omega) h4
       refine ⟨?_, c5⟩;simp only [Env.Wu];rw [if_neg (by omega)]
       exact c4
     refine Ap (U1 _ _ AR) (T _ _ _ w' H ?_ (P0.trans (PS.weaken (by rintro T rfl; simp [O3]))) S.out)
     rw [FN];have R3 := R2.put (dst := some t0) (d := .list sz (ds ++ es)) (m := .own) (v := .slice (some p) (len + len') cap) fun t1 ZU => by
      simp only [Option.some.injEq] at ZU;subst ZU;exact B8Q
     rwa [B7A, A14] at R3
 ·-- a new block
  obtain ⟨nc, hnc, AR⟩ := run_append_grow (ty := o.type) (b := b) hu Iz Ac QO (by rw [EH]; exact g7) (by rw [EH, <- ev]; exact f7) Sr Da (by omega) dY
  rw [<- ev] at AR;have hal : all.length = len * sz := by rw [f4.1, f1]
  have B8M : all'.length = len' * sz := by rw [g4.1, g1]
  have QQ : (Builtin.zeroCells zv.cells (nc - (len + len'))).toList.length = (nc - (len + len')) * sz := by simp [Builtin.zeroCells, ZV]
  have B80 : (len + len') * sz + (nc - (len + len')) * sz = nc * sz := by rw [<- z29q]; congr 1; omega
  have A5i : (len + len') * sz = len * sz + len' * sz := z29q _ _ _;generalize hzc : (Builtin.zeroCells zv.cells (nc - (len + len'))).toList = zc at AR QQ;have P1 : Pr (fun _ => False) E w.heap (E.newRow w.heap.size ((len + len') * sz) (nc * sz) (.sp 0 t0 0)) (w.heap.push (.cells (all ++ all' ++ zc).toArray e)) := by
   refine Pr.push (fun b1 o1 MX _ => ?_) (z10q _) (fun _ _ _ => ⟨rfl, rfl, rfl⟩) (fun _ _ => rfl) (Dc rfl)
   simp only [Env.newRow]; rw [if_neg (by omega)]
  have ER := P1.shut (by simp) Rl.fresh
  have R0 : K3 E (st.release y) a w.heap := Rl.release (x := y) (f := id) fun _ _ => rfl
  have R1 := R0.push P1 rfl fun b1 o1 MX => by
   simp only [z46q] at MX;simp only [Env.newRow]; rw [if_neg (by omega)]
   exact Rl.fresh b1 o1 (by omega)
  refine Ap (U1 _ _ AR) (T _ _ _ (w.drew.alloc (.cells (all ++ all' ++ zc).toArray e)) H ?_ (P1.weaken (by simp)))
  rw [FN];refine R1.put fun t1 ZU => ?_
  simp only [Option.some.injEq] at ZU;subst ZU;have Gd : ∀ (j : Nat), hc (w.heap.push (.cells (all ++ all' ++ zc).toArray e)) w.heap.size j = (all ++ all' ++ zc)[j]? := fun j => by rw [A0f]; simp
  refine RR.AU ⟨?_, _, _, rfl, fun p1 len1 cap1 hq L8 => ?_⟩
  ·refine UB (by simp; omega) hnc (by simp) (fun _ => hpos) fun p1 hp1 => ?_
   simp only [Option.some.injEq] at hp1;subst hp1;refine ⟨fun _ => rfl, sO ((f4.mono ER).append (g4.mono ER)) fun j q hq => ?_⟩
   have hj : j < (all ++ all').length := (z0q.1 hq).1;have DI : j < (len + len') * sz := by simp at hj; omega
   constructor
   ·show hc _ w.heap.size (0 + j) = _
    rw [z11q, Gd, z2q hj];exact hq
   ·simp only [Env.S, Env.newRow, z11q, if_true]
    rw [if_pos DI]
  ·simp only [Value.slice.injEq, Option.some.injEq] at hq
   obtain ⟨rfl, rfl, rfl⟩ := hq;refine ⟨_, e, (0, 0), Kn, by simp; omega, fun o' h3 h4 => ⟨?_, by simp⟩⟩
   simp only [z11q] at h3 h4;simp only [Env.newRow, if_true];rw [if_neg (by omega), if_pos h4]
end
end Go.Su

/-
 THE DATA MACHINE: slices whose last elements are open.
-/
namespace Go.Su
theorem A4O {sz : Nat} {d e : DV} {p : List DV × List DV} (h : Kb sz d e = some p) : ∃ ds es, d = .list sz ds /\ e = .list sz es /\ ds.length + es.length <= lim /\ 0 < es.length /\ p = (ds, es) := by
 unfold Kb at h
 split at h
 ·obtain ⟨⟨⟨h1, h2⟩, h3, h4⟩, h9⟩ := K9 h
  simp only [Option.some.injEq] at h9;subst h1 h2;exact ⟨_, _, rfl, rfl, h3, h4, h9.symm⟩
 ·simp at h
variable (E : Env)
def Env.B9i (b off lo hi : Nat) : Env :=
 { E with obj := fun i => if i = E.n then b else E.obj i, base := fun i => if i = E.n then off else E.base i, top := fun i => if i = E.n then hi else E.top i, n := E.n + 1, Aa := fun i => if i = E.n then 0 else E.Aa i,
          O := fun b' o => if b' = b /\ lo <= o /\ o < hi then .obj E.n else E.O b' o }
def Env.B9h (b lo hi : Nat) : Env :=
 { E with obj := fun i => if i = E.n then b else E.obj i, base := fun i => if i = E.n then 0 else E.base i, top := fun i => if i = E.n then hi else E.top i, n := E.n + 1, Aa := fun i => if i = E.n then 0 else E.Aa i,
          O := fun b' o => if b' = b then (if o < lo then .shut else if o < hi then .obj E.n else .other) else E.O b' o }
section
variable {X : Type} {C : AO} {R : Q8} {o : Oper} {st : St} {k : St -> Option X} {x : X} {E : Env} {a : Act} {w : World} {K : Act -> World -> Prop} {Q : Exit -> Act -> World -> Prop} {h : Heap}
theorem B30 {E : Env} {i b off cap sz : Nat} {ds es : List DV} {all' : List Value} {c : Array Value} {T : TypeId} {f : Nat × Nat} (ho : E.obj i = b) (hb : E.base i = off) (ht : E.top i = off + cap * sz) (hpos : 0 < sz) (hc : h[b]? = some (.cells c T f)) (Da : ds.length + es.length <= cap) (Fv : off + cap * sz <= c.size) (tags : ∀ o, off + ds.length * sz <= o -> o < off + cap * sz -> E.O b o = .obj i /\ ¬(f.1 <= o /\ o < f.2)) (pre : ∀ (j : Nat) d, ds[j]? = some d -> Elem E.S h sz b (off + j * sz) d) (G : GG E.S h sz es all') (cells : ∀ (j : Nat) u, all'[j]? = some u -> c[off + ds.length * sz + j]? = some u) : RO E h i (.opn sz ds es) := by
 simp only [RO];rw [ho, hb, ht];refine ⟨c, T, f, hc, ?_, Fv, hpos, tags, pre, fun j d hd => ?_⟩
 ·have := z6q sz Da
  omega
 ·obtain ⟨vs, v1, v2, v3⟩ := G.2 j d hd
  refine ⟨vs, v1, fun y u hu => ?_, v3⟩
  have := cells _ u (v2 y u hu);rw [z29q]
  rwa [show off + (ds.length * sz + j * sz) + y = off + ds.length * sz + (j * sz + y) by omega]
variable {fl : Flags}
theorem A6e {c : Call} {y v : Operand} {t u : TypeId} (F3 : o.op = .call c) (A8V : c.callee = .builtin .append) (ha : c.args.toList = [y, v]) (ht : c.argTypes.toList = [t, u]) (Vk : J4 fl.opn o.dst = true) (QP : J4 fl.DR o.dst = false) (H : Eh C fl o y v t u st k = some x) (Rl : K3 E st a w.heap) (T : Then E w k x K) : Gp C.P o a w K := by
 unfold Eh at H;rw [if_neg (by rw [QP]; simp)] at H
 obtain ⟨r, h1, H⟩ := C8 H;obtain ⟨s, h2, H⟩ := C8 H;obtain ⟨sz, BF, H⟩ := C8 H;obtain ⟨hc, H⟩ := F9 H;rw [if_pos Vk] at H;obtain ⟨d2, hd, H⟩ := C8 H;simp only [z19q] at hc;obtain ⟨⟨Kj, Yl⟩, FN⟩ := hc;obtain ⟨t0, FN⟩ := z33q.1 FN;obtain ⟨e, e', z, inf, zv, hu, Iz, hz, GL, hpos, Ac, dY, Sr, ZV⟩ := Zl BF;obtain ⟨ds, es, hr, hs, A0h, hne, rfl⟩ := A4O hd;simp only at H;have e1 := Rl.src h1;have e2 := (Rl.src h2).data Yl;have e1d : RV E.S w.heap r.1 (a.eval y) := e1.data (by revert Kj; cases r.2 <;> simp [Jy, J6])
 rw [hr] at e1d;rw [hs] at e2;obtain ⟨b, len, cap, all, ev, f1, f2, f3, f4, f5, f6, f7⟩ := OV (P := C.P) e1d;obtain ⟨b', len', cap', all', ev', g1, g2, g3, g4, g5, g6, g7⟩ := OV (P := C.P) e2;have EH : inf.size = sz := by
  obtain ⟨i', d', q1, -, q2, -⟩ := HY hz;rw [Ac] at q1;simp only [Option.some.injEq] at q1;rw [<- GL, q2, q1]
 have U1 : ∀ v' w', (Builtin.append_ #[t, u] o.type #[a.eval y, a.eval v]).run C.P w = .ok v' w' -> (execOp a.eval o).run C.P w = .ok (.value v') w' := by
  intro v' w' hv;refine Hq F3 A8V ?_;rw [SA ht, show c.args.map a.eval = #[a.eval y, a.eval v] from by rw [SA ha]; simp]
  exact Bv hv
 rw [FN] at H;have QO : Builtin.lenOf (a.eval v) = pure len' := by rw [ev']; rfl
 have B3K : ds.length + es.length <= 4294967296 := A0h;have A3G := g4.one hpos;have hn := Rl.n
 by_cases Da : len + len' <= cap
 ·-- it fits: the slice's own memory is written
  have R0 := Rl.release (x := y) (f := Bg y 0 t0 0) fun T hT => Er hT
  have P0 : Pr O3 E w.heap (E.re (Bg y 0 t0 0)) w.heap := Pr.re fun T hT => Er fun t b _ he => hT (by rw [he]; simp [O3])
  have qQ : Z9 E.S w.heap (E.re (Bg y 0 t0 0)).S w.heap := Je (Er (by simp))
  have hsp : ∀ p, b = some p -> len < cap -> ∃ cc TT f, w.heap[p.block]? = some (.cells cc TT f) /\ p.off + cap * sz <= cc.size /\
   ∀ o', p.off + len * sz <= o' -> o' < p.off + cap * sz -> (E.re (Bg y 0 t0 0)).O p.block o' = .sp 0 t0 0 /\ ¬(f.1 <= o' /\ o' < f.2) := by
   intro p hp L8;subst hp;have dz : r.2 = .own := by
    revert Kj e1
    cases r.2 <;> intro Kj e1 <;> simp only [Jy, z14q] at Kj
    ·simp only [RR, J8] at e1
     obtain ⟨-, ⟨q, n, hq⟩, -⟩ := e1;rw [ev] at hq;simp only [Value.slice.injEq] at hq;omega
    ·rfl
   rw [dz] at e1;simp only [RR, J8] at e1;obtain ⟨-, sz', ds', hl, hS⟩ := e1;rw [hr] at hl;simp only [DV.list.injEq] at hl;obtain ⟨cc, TT, f, c1, c2, c3⟩ := hS p len cap ev L8;rw [<- hl.1] at c2 c3;refine ⟨cc, TT, f, c1, c2, fun o' h3 h4 => ?_⟩
   obtain ⟨c4, c5⟩ := c3 o' h3 h4;refine ⟨?_, c5⟩;have hy : ∃ i, y = .tmp i := by
    cases y with
    | tmp i => exact ⟨i, rfl⟩
    | const v => exact absurd dz (Xk h1).1
    | func f => simp only [src, Option.some.injEq] at h1; subst h1; simp at dz
    | global g => simp [src] at h1
   obtain ⟨i, rfl⟩ := hy;simp only [Env.re];rw [c4];simp [Bg, oM]
  have hln : 0 < len' := by omega
  cases b with
  | none => have := f3 rfl; omega
  | some p =>
    obtain ⟨hp, f5'⟩ := f5 p rfl;have hp := hp (by omega)
    obtain ⟨cc, TT, f, c1, c2, c3⟩ := hsp p rfl (by omega)
    have C0i : all'.length = len' * sz := by rw [g4.1, g1]
    have hmul : (len + len') * sz <= cap * sz := z6q _ Da;have A5i : (len + len') * sz = len * sz + len' * sz := z29q _ _ _;have C0l : 0 < len' * sz := z70q hln hpos;obtain ⟨w', hw, S⟩ := KF (P := C.P) (b := p.block) (T := TT) (f := f) (p.off + len * sz) all' cc 0 w c1 (by omega) A3G (fun o' h3 h4 => (c3 o' (by omega) (by omega)).2)
    have AR : (Builtin.append_ #[t, u] o.type #[a.eval y, a.eval v]).run C.P w = .ok (.slice (some p) (len + len') cap) w' := by
     rw [ev];refine JC hu Iz Ac QO (by rw [EH]; exact g7 w rfl) Da ?_
     rw [EH, hp, Addr.add_lit];exact hw
    simp only [z26q] at S;have R1 : K3 (E.re (Bg y 0 t0 0)) ((st.release y).put (some t0) .undef .val) (a.put (some t0) (.slice (some p) (len + len') cap)) w.heap := R0.put fun t1 _ => by simp only [RR, J8, RV]
    let E2 := (E.re (Bg y 0 t0 0)).B9i p.block p.off (p.off + len * sz) (p.off + cap * sz)
    have A8U : E2.n = E.n + 1 := rfl;have PS : Pr (fun T => T = .sp 0 t0 0) (E.re (Bg y 0 t0 0)) w.heap E2 w'.heap := by
     refine ⟨z51q S.size.symm, fun b1 MX => ?_, fun b1 o1 MX hT => ?_, z60q _, fun i hi _ => ?_, fun _ _ => rfl, aP rfl⟩
     ·by_cases ZO : b1 = p.block
      ·subst ZO
       rw [c1];obtain ⟨c', q1, q2, q3⟩ := S.ex;refine ⟨c', q1, q2, fun j hj => ?_⟩
       rw [q3 j, if_neg];rintro ⟨q4, q5⟩;exact hj (c3 j q4 (by omega)).1
      ·rw [S.rest b1 ZO]; exact X8.refl _ _
     ·show (if _ then _ else _) = _
      rw [if_neg];rintro ⟨rfl, q4, q5⟩;exact hT (c3 o1 q4 q5).1
     ·have hi' : i ≠ (E.re (Bg y 0 t0 0)).n := Nat.ne_of_lt hi
      refine ⟨?_, ?_, ?_⟩ <;> (show (if _ then _ else _) = _; rw [if_neg hi'])
    have ER := PS.shut (by simp) R1.fresh
    have oE : E2.obj E.n = p.block := if_pos rfl;have bE : E2.base E.n = p.off := if_pos rfl;have tE : E2.top E.n = p.off + cap * sz := if_pos rfl;have R2 : K3 E2 { (st.release y).put (some t0) .undef .val with sg := st.sg ++ [C9.opn sz ds es] } (a.put (some t0) (.slice (some p) (len + len') cap)) w'.heap := by
     have sgR : (st.release y).sg = st.sg := by cases y <;> rfl
     refine ⟨R1.size, R1.Af, R1.Ca, by simp [A8U, hn], fun q vq hq => ?_, fun s' cs' EI => (R1.boxes s' cs' EI).mono PS ER (by simp) (by simp), fun i' ob hi => ?_, fun b1 o1 MX => ?_⟩
     ·have h0 := R1.regs q vq hq
      by_cases hqt : t0 = q
      ·subst hqt
       have B5t : t0 < (st.release y).tm.length := by
        have := (z13q.1 hq).1;rw [aj] at this;rw [<- R0.size]; exact this
       have hg : (St.get { (st.release y).put (some t0) .undef .val with sg := st.sg ++ [C9.opn sz ds es] } t0) = (.undef, .val) := VG B5t R0.Af
       rw [hg];simp only [RR, J8, RV]
      ·exact h0.mono PS ER (by simp; exact fun hh => absurd hh.symm hqt) (by simp)
     ·by_cases L8 : i' < st.sg.length
      ·have hi : ((st.release y).put (some t0) .undef .val).sg[i']? = some ob := by
        have hi : (st.sg ++ [C9.opn sz ds es])[i']? = some ob := hi;rw [z2q L8] at hi;rw [A0z, sgR]; exact hi
       exact (R1.U4 i' ob hi).mono PS ER (by rw [<- R1.n]; exact (z0q.1 hi).1) (by simp) (by simp)
      ·have hi : (st.sg ++ [C9.opn sz ds es])[i']? = some ob := hi
       have JR : i' = st.sg.length := by
        have := (z0q.1 hi).1;simp at this; omega
       subst JR;simp only [z3q (z10q _), z39q, z7q, Option.some.injEq] at hi;subst hi;rw [hn];obtain ⟨c', q1, q2, q3⟩ := S.ex;have hf1 := f1;have hg1 := g1;subst hf1;refine B30 (cap := cap) (all' := all') oE bE tE hpos q1 (by omega) (by rw [q2]; exact c2) (fun o' h3 h4 => ⟨?_, (c3 o' h3 h4).2⟩) (fun j d hd => ?_) ((g4.mono qQ).mono ER) fun j u hu => ?_
       ·show (if _ then _ else _) = _
        rw [if_pos ⟨rfl, h3, h4⟩];rfl
       ·obtain ⟨b0, A84, cap0, wD, -, -, -, hel⟩ := LZ e1d
        rw [ev] at wD;simp only [Value.slice.injEq] at wD;obtain ⟨rfl, -, -⟩ := wD;exact ((EA.1 (hel.2 p rfl).2 j d hd).mono qQ).mono ER
       ·have v_ : j < all'.length := (z0q.1 hu).1
        rw [q3, if_pos (by omega), <- hu]
        congr 1
        omega
     ·have hb2 : w.heap.size <= b1 := by rw [<- S.size]; exact MX
      show (if _ then _ else _) = _
      rw [if_neg]
      ·exact R1.fresh b1 o1 hb2
      ·rintro ⟨rfl, -⟩
       have := (z13q.1 c1).1;omega
    refine Ap (U1 _ _ AR) (T _ _ _ w' H ?_ (P0.trans (PS.weaken (by rintro T rfl; simp [O3]))) S.out)
    rw [FN];have R3 := R2.put (dst := some t0) (d := .undef) (m := .arr st.sg.length sz 0 (ds.length + es.length)) (v := .slice (some p) (len + len') cap) fun t1 ZU => by
     refine RR.AU ⟨⟨by rw [A8U, hn]; omega, by rw [hn]; exact if_pos rfl⟩, some p, cap, by rw [f1, g1], fun _ => ?_, by omega, by simp, fun q hq => ?_, fun _ => ?_⟩
     ·rw [hn, oE, bE, z42q, z26q, <- hp]
     ·simp only [Option.some.injEq] at hq; rw [<- hq, hp]
     ·rw [hn, bE, tE, z11q]; exact z10q _
    rw [A14] at R3;have e3 : St.put { (st.release y).put (some t0) .undef .val with sg := st.sg ++ [C9.opn sz ds es] } (some t0) .undef (.arr st.sg.length sz 0 (ds.length + es.length)) = St.put { st.release y with sg := st.sg ++ [C9.opn sz ds es] } (some t0) .undef (.arr st.sg.length sz 0 (ds.length + es.length)) := by
     simp [St.put, List.set_set]
    rwa [e3] at R3
 ·-- a new block
  obtain ⟨nc, hnc, AR⟩ := run_append_grow (ty := o.type) (b := b) hu Iz Ac QO (by rw [EH]; exact g7) (by rw [EH, <- ev]; exact f7) Sr Da (by omega) dY
  rw [<- ev] at AR;have hal : all.length = len * sz := by rw [f4.1, f1]
  have B8M : all'.length = len' * sz := by rw [g4.1, g1]
  have QQ : (Builtin.zeroCells zv.cells (nc - (len + len'))).toList.length = (nc - (len + len')) * sz := by simp [Builtin.zeroCells, ZV]
  have B80 : (len + len') * sz + (nc - (len + len')) * sz = nc * sz := by rw [<- z29q]; congr 1; omega
  have A5i : (len + len') * sz = len * sz + len' * sz := z29q _ _ _;generalize hzc : (Builtin.zeroCells zv.cells (nc - (len + len'))).toList = zc at AR QQ
  let E2 := E.B9h w.heap.size (len * sz) (nc * sz)
  have A8U : E2.n = E.n + 1 := rfl;have oE : E2.obj E.n = w.heap.size := if_pos rfl;have bE : E2.base E.n = 0 := if_pos rfl;have tE : E2.top E.n = nc * sz := if_pos rfl;have P1 : Pr (fun _ => False) E w.heap E2 (w.heap.push (.cells (all ++ all' ++ zc).toArray e)) := by
   refine Pr.push (fun b1 o1 MX _ => ?_) (z60q _) (fun i hi _ => ?_) (fun _ _ => rfl) (aP rfl)
   ·show (if _ then _ else _) = _
    rw [if_neg (by omega)]
   ·have hi' : i ≠ E.n := Nat.ne_of_lt hi
    refine ⟨?_, ?_, ?_⟩ <;> (show (if _ then _ else _) = _; rw [if_neg hi'])
  have ER := P1.shut (by simp) Rl.fresh
  have R0 : K3 E (st.release y) a w.heap := Rl.release (x := y) (f := id) fun _ _ => rfl
  have sgR : (st.release y).sg = st.sg := by cases y <;> rfl
  have Gd : ∀ (j : Nat), hc (w.heap.push (.cells (all ++ all' ++ zc).toArray e)) w.heap.size j = (all ++ all' ++ zc)[j]? := fun j => by rw [A0f]; simp
  have R2 : K3 E2 { st.release y with sg := st.sg ++ [C9.opn sz ds es] } a (w.heap.push (.cells (all ++ all' ++ zc).toArray e)) := by
   refine ⟨R0.size, R0.Af, R0.Ca, by simp [A8U, hn], fun q vq hq => (R0.regs q vq hq).mono P1 ER (by simp) (by simp), fun s' cs' EI => (R0.boxes s' cs' EI).mono P1 ER (by simp) (by simp), fun i' ob hi => ?_, fun b1 o1 MX => ?_⟩
   ·by_cases L8 : i' < st.sg.length
    ·have hi : (st.release y).sg[i']? = some ob := by
      have hi : (st.sg ++ [C9.opn sz ds es])[i']? = some ob := hi;rw [z2q L8] at hi;rw [sgR]; exact hi
     exact (R0.U4 i' ob hi).mono P1 ER (by rw [<- R0.n]; exact (z0q.1 hi).1) (by simp) (by simp)
    ·have hi : (st.sg ++ [C9.opn sz ds es])[i']? = some ob := hi
     have JR : i' = st.sg.length := by
      have := (z0q.1 hi).1;simp at this; omega
     subst JR;simp only [z3q (z10q _), z39q, z7q, Option.some.injEq] at hi;subst hi;rw [hn];have hf1 := f1;subst hf1;refine B30 (cap := nc) (all' := all') oE bE (by rw [tE, z11q]) hpos Kn (by omega) (by simp; omega) (fun o' h3 h4 => ⟨?_, by simp⟩) (fun j d hd => ?_) (g4.mono ER) fun j u hu => ?_
     ·show (if _ then _ else _) = _
      rw [if_pos rfl, if_neg (by omega), if_pos (by omega)]
     ·obtain ⟨vs, v1, v2, v3⟩ := f4.2 j d hd
      refine ⟨vs, v1, fun y' u hu => ?_, v3.mono ER⟩
      have hy' : y' < sz := by have := (z0q.1 hu).1; omega
      have h5 := v2 y' u hu;have h6 : j * sz + y' < all.length := (z0q.1 h5).1;refine ⟨?_, ?_⟩
      ·rw [z11q, Gd, z43q, z2q h6]
       exact h5
      ·show (if _ then _ else _) = _
       rw [if_pos rfl, z11q, if_pos (by omega)]
     ·have v_ : j < all'.length := (z0q.1 hu).1
      rw [z11q, z44q, z43q, z3q (by omega), z2q (by omega), <- hu]
      congr 1
      omega
   ·simp only [z46q] at MX
    show (if _ then _ else _) = _
    rw [if_neg (by omega)]
    exact Rl.fresh b1 o1 (by omega)
  refine Ap (U1 _ _ AR) (T _ _ _ (w.drew.alloc (.cells (all ++ all' ++ zc).toArray e)) H ?_ (P1.weaken (by simp)))
  rw [FN];refine R2.put fun t1 ZU => ?_
  refine RR.AU ⟨⟨by rw [A8U, hn]; omega, by rw [hn]; exact if_pos rfl⟩, some ⟨w.heap.size, 0, none⟩, nc, by rw [f1, g1], fun _ => ?_, by omega, by simp, fun q hq => ?_, fun _ => ?_⟩
  ·rw [hn, oE, bE, z42q, z26q]
  ·simp only [Option.some.injEq] at hq; rw [<- hq]
  ·rw [hn, bE, tE, z11q, z11q]; exact z10q _
def Env.oW (E : Env) (i lo : Nat) (tg : Tag) : Env := { E with O := fun b o => if E.O b o = .obj i then (if o < lo then .shut else tg) else E.O b o }
theorem qw (E : Env) (h : Heap) (i lo : Nat) (tg : Tag) : Pr (fun T => T = .obj i) E h (E.oW i lo tg) h := by
 refine ⟨z10q _, fun _ _ => X8.refl _ _, fun b o _ hT => ?_, z10q _, fun _ _ _ => ⟨rfl, rfl, rfl⟩, fun _ _ => rfl, Dc rfl⟩
 show (if _ then _ else _) = _
 rw [if_neg hT]
theorem A0H {i sz : Nat} {pre ds : List DV} {tg : Tag} {v : Value} (hf : ∀ b o, h.size <= b -> E.O b o = .other) (H : RO E h i (.opn sz pre ds)) (G : J8 E h tg .undef (.arr i sz 0 (pre.length + ds.length)) v) (hne : 0 < pre.length + ds.length) (tg' : Tag) :
 J8 (E.oW i (E.base i + (pre.length + ds.length) * sz) tg') h tg' (.list sz (pre ++ ds)) .own v := by
 have P := qw E h i (E.base i + (pre.length + ds.length) * sz) tg';have J3 := P.shut (by simp) hf
 simp only [RO] at H;obtain ⟨c, T, f, h1, h2, vw, hz, h3, h4, h5⟩ := H;simp only [J8] at G;obtain ⟨g1, b, cap, rfl, g2, g3, g4, g5, g6⟩ := G;have g2 := g2 hne;have g6 := g6 hne;subst g2;simp only [z42q, z26q, z11q] at g6 ⊢;have q0 : (pre.length + ds.length) * sz <= cap * sz := z6q _ g3;refine ⟨?_, sz, pre ++ ds, rfl, fun p len1 cap1 hq L8 => ?_⟩
 ·refine UB (by simp) g3 (by simp) (fun _ => hz) fun p hp => ?_
  simp only [Option.some.injEq] at hp;subst hp;refine ⟨fun _ => rfl, EA.2 fun j d hd => ?_⟩
  by_cases hj : j < pre.length
  ·rw [z2q hj] at hd
   exact (h4 j d hd).mono J3
  ·rw [z3q (by omega)] at hd
   have hjd : j - pre.length < ds.length := (z0q.1 hd).1;obtain ⟨vs, v1, v2, v3⟩ := h5 _ d hd;have ej : pre.length + (j - pre.length) = j := by omega
   rw [ej] at v2;refine ⟨vs, v1, fun y u hu => ?_, v3.mono J3⟩
   have hy : y < sz := by have := (z0q.1 hu).1; omega
   have q1 : pre.length * sz <= j * sz := z6q _ (by omega)
   have q2 : j * sz + y < (pre.length + ds.length) * sz := by
    calc j * sz + y < j * sz + sz := by omega
     _ = (j + 1) * sz := by rw [z27q]
     _ <= (pre.length + ds.length) * sz := z6q _ (by omega)
   refine ⟨?_, ?_⟩
   ·unfold hc
    rw [h1];exact v2 y u hu
   ·have e0 : (E.oW i (E.base i + (pre.length + ds.length) * sz) tg').O (E.obj i) (E.base i + j * sz + y) = .shut := by
     show (if _ then _ else _) = _
     rw [if_pos (h3 (E.base i + j * sz + y) (by omega) (by omega)).1, if_pos (by omega)]
    exact e0
 ·simp only [Value.slice.injEq, Option.some.injEq] at hq
  obtain ⟨rfl, rfl, rfl⟩ := hq;refine ⟨c, T, f, h1, by simp only; omega, fun o' h6 h7 => ?_⟩
  simp only at h6 h7;have q1 : pre.length * sz <= (pre.length + ds.length) * sz := z6q _ (by omega)
  obtain ⟨q2, q3⟩ := h3 o' (by omega) (by omega)
  refine ⟨?_, q3⟩
  show (if _ then _ else _) = _
  rw [if_pos q2, if_neg (by omega)]
theorem sN {q : Nat × List DV × List DV} {sz len : Nat} {d : DV} (h : Hr q sz len = some d) : q.1 = sz /\ q.2.1.length + q.2.2.length = len /\ 0 < len /\ d = .list sz (q.2.1 ++ q.2.2) := by
 unfold Hr at h;obtain ⟨⟨h1, h2, h3⟩, h⟩ := K9 h;simp only [Option.some.injEq] at h;exact ⟨h1, h2, h3, h.symm⟩
theorem B1V {r : Nat} (H : aI r st k = some x) (Rl : K3 E st a h) : ∃ E' st', k st' = some x /\ K3 E' st' a h /\ Pr O3 E h E' h := by
 unfold aI at H
 split at H
 ·rename_i i sz len hm
  obtain ⟨q, hq, H1⟩ := C8 H;obtain ⟨d, hd, H9⟩ := C8 H1;clear H H1;obtain ⟨sz', pre, ds⟩ := q;obtain ⟨c1, c2, c3, rfl⟩ := sN hd;simp only at c1 c2;subst c1 c2;have hq := qp hq;have B := Rl.U4 i _ hq;have hi : i < E.n := by rw [<- Rl.n]; exact (z0q.1 hq).1
  have Jw := (z0q.1 hq).1
  let E' := E.oW i (E.base i + (pre.length + ds.length) * sz') (.sp 0 r 0)
  have P : Pr (fun T => T = .obj i) E h E' h := qw E h i _ _
  have J3 := P.shut (by simp) Rl.fresh
  refine ⟨E', _, H9, ?_, P.weaken (by rintro T rfl; simp [O3])⟩
  refine ⟨by rw [oP]; exact Rl.size, by rw [oP, B4c]; exact Rl.Af, by rw [oP, A5r]; exact Rl.Ca, ?_, fun t v hv => ?_, fun s cs hs => ?_, fun j ob hj => ?_, fun b o hb => ?_⟩
  ·rw [A0z, z32q]; exact Rl.n
  ·have h0 := Rl.regs t v hv
   by_cases ht : r = t
   ·subst ht
    have L8 : r < st.tm.length := by
     have := (z13q.1 hv).1;rw [<- Rl.size]; exact this
    rw [VG (st := { st with sg := st.sg.set i (.arr 1 []) }) L8 Rl.Af]
    rw [hm] at h0;simp only [RR] at h0;exact RR.AU (A0H (tg := .sp 0 r 0) Rl.fresh B (by simpa only [J8] using h0) c3 _)
   ·rw [wI ht]
    exact h0.mono P J3 (by simp) (by simp)
  ·rw [A5r] at hs
   exact (Rl.boxes s cs hs).mono P J3 (by simp) (by simp)
  ·rw [A0z] at hj
   by_cases PH : i = j
   ·subst PH
    rw [z4q Jw] at hj;simp only [Option.some.injEq] at hj;subst hj;exact fun hne => absurd rfl hne
   ·rw [z5q PH] at hj
    exact (Rl.U4 j ob hj).mono P J3 (by rw [<- Rl.n]; exact (z0q.1 hj).1) (by simp; exact fun h => PH h.symm) (by simp)
  ·show (if _ then _ else _) = _
   rw [Rl.fresh b o hb, if_neg (by simp)]
 ·rename_i b off hm
  obtain ⟨cs, Fv, H1⟩ := C8 H;obtain ⟨q0, hca, H2⟩ := C8 H1;obtain ⟨q, hq, H3⟩ := C8 H2;obtain ⟨d, hd, H9⟩ := C8 H3;clear H H1 H2 H3;obtain ⟨i, sz, len⟩ := q0;obtain ⟨sz', pre, ds⟩ := q;obtain ⟨c1, c2, c3, rfl⟩ := sN hd;simp only at c1 c2 H9 hq;subst c1 c2;have hq := qp hq;have Fv := qo Fv;have B := Rl.U4 i _ hq;have BX := Rl.U4 b _ Fv;have Jw := (z0q.1 hq).1;have B5s := (z0q.1 Fv).1;have hib : i ≠ b := by rintro rfl; rw [hq] at Fv; cases Fv
  obtain ⟨d0, df⟩ : ∃ d0, cs[off]? = some (d0, .arr i sz' 0 (pre.length + ds.length)) := by
   unfold OP at hca
   split at hca
   ·rename_i d0 i0 sz0 A84 heq
    simp only [Option.some.injEq, Prod.mk.injEq] at hca;obtain ⟨rfl, rfl, rfl⟩ := hca;exact ⟨d0, heq⟩
   ·cases hca
  let E' := E.oW i (E.base i + (pre.length + ds.length) * sz') (.sp 2 b off)
  have P : Pr (fun T => T = .obj i) E h E' h := qw E h i _ _
  have J3 := P.shut (by simp) Rl.fresh
  refine ⟨E', _, H9, ?_, P.weaken (by rintro T rfl; simp [O3])⟩
  refine ⟨Rl.size, Rl.Af, Rl.Ca, ?_, fun t v hv => (Rl.regs t v hv).mono P J3 (by simp) (by simp), fun s cs' hs => (Rl.boxes s cs' hs).mono P J3 (by simp) (by simp), fun j ob hj => ?_, fun b' o hb => ?_⟩
  ·simp only [z32q]; exact Rl.n
  ·by_cases PH : i = j
   ·subst PH
    rw [z4q (by simpa using Jw)] at hj
    simp only [Option.some.injEq] at hj;subst hj;exact fun hne => absurd rfl hne
   ·rw [z5q PH] at hj
    by_cases hbj : b = j
    ·subst hbj
     rw [z4q B5s] at hj;simp only [Option.some.injEq] at hj;subst hj;simp only [RO] at BX ⊢;have B8W := (z0q.1 df).1;obtain ⟨c, T, e1, e2, e3, e4⟩ := BX.mono P J3 (by simp; exact fun h => hib h.symm) (by simp)
     refine ⟨c, T, e1, by simpa using e2, e3, fun y r' v hr hv => ?_⟩
     by_cases hy : off = y
     ·subst hy
      rw [z4q B8W] at hr;simp only [Option.some.injEq] at hr;subst hr;obtain ⟨c0, T0, f1, f2, f3, f4⟩ := BX;have QM : c0 = c := by
       have e1' : h[E.obj b]? = some (.cells c T (0, 0)) := e1;rw [f1] at e1';simp only [Option.some.injEq, Obj.cells.injEq] at e1';exact e1'.1
      subst QM;obtain ⟨g1, g2, g3, g4⟩ := f4 off _ v df hv;exact ⟨rfl, g2, rfl, A0H (tg := .sp 2 b off) Rl.fresh B (by simpa only [J8] using g4) c3 _⟩
     ·rw [z5q hy] at hr
      exact e4 y r' v hr hv
    ·rw [z5q hbj] at hj
     exact (Rl.U4 j ob hj).mono P J3 (by rw [<- Rl.n]; exact (z0q.1 hj).1) (by simp; exact fun h => PH h.symm) (by simp)
  ·show (if _ then _ else _) = _
   rw [Rl.fresh b' o hb, if_neg (by simp)]
 ·cases H
theorem A4M {id : Nat} (H : Ff fl id st k = some x) (Rl : K3 E st a h) : ∃ E' st', k st' = some x /\ K3 E' st' a h /\ Pr O3 E h E' h := by
 unfold Ff at H
 split at H
 ·exact B1V H Rl
 ·exact ⟨E, st, H, Rl, Pr.refl _ _ _⟩
end
end Go.Su

/-
 THE DATA MACHINE, part 17: calls.
-/
namespace Go.Su
structure Ext (S : Z5) (h : Heap) (S' : Z5) (h' : Heap) : Prop where
 size : h.size <= h'.size
 blk : ∀ b, b < h.size -> h'[b]? = h[b]?
 s : ∀ b o, b < h.size -> (S' b o ↔ S b o)
 fresh : ∀ b o, h'.size <= b -> ¬ S' b o
variable (P : Program) (f : FuncId) (ds : List DV)
def B24 (d : DV) : Prop :=
 ∀ (S : Z5) (w : World) (vs : List Value), (∀ b o, w.heap.size <= b -> ¬ S b o) -> Pq S w.heap ds vs ->
   Calls P f vs.toArray w fun e w' => ∃ v S', e = .returned v /\ Ext S w.heap S' w'.heap /\ RV S' w'.heap d v /\ Z4 w w'
def B1O (E : Env) (h : Heap) (i : Nat) (k : MK) (d : DV) (v : Value) : Prop :=
 match k with
 | .val => RV E.S h d v
 | .own => J8 E h (.sp 3 i 0) d .own v
 | .ptr => J8 E h .other (KD .ptr d).1 (KD .ptr d).2 v
 | .YT n os => RR E h 3 i d (.DZ ((List.range n).map fun i => if os.contains i then .own else .val)) v
def B1N (E : Env) (h : Heap) (ks : List MK) (ds : List DV) (v : Value) : Prop :=
 ds.length = ks.length /\ ∃ vs : List Value, vs.length = ks.length /\ v = (match vs with | [u] => u | _ => .tuple vs.toArray) /\
  ∀ (i : Nat) k d u, ks[i]? = some k -> ds[i]? = some d -> vs[i]? = some u -> B1O E h i k d u
def B6y (s : Ag) (rs : List (DV × Meta)) (sg : List C9) (q : List DV × List C9) : Prop :=
 ∀ (E : Env) (w : World) (vs : List Value), (∀ b o, w.heap.size <= b -> E.O b o = .other) -> sg.length = E.n -> (∀ (i : Nat) ob, sg[i]? = some ob -> RO E w.heap i ob) -> vs.length = rs.length ->
   (∀ (i : Nat) r v, rs[i]? = some r -> vs[i]? = some v -> RR E w.heap 0 i r.1 r.2 v) ->
   Calls P f vs.toArray w fun e w' => Z4 w w' /\ ∃ v E', e = .returned v /\ Pr O3 E w.heap E' w'.heap /\ (∀ b o, w'.heap.size <= b -> E'.O b o = .other) /\ q.2.length = E'.n /\ (∀ (i : Nat) ob, q.2[i]? = some ob -> RO E' w'.heap i ob) /\ B1N E' w'.heap s.results q.1 v
def isGo : Bool :=
 match P.funcs[f]? with
 | some fn => fn.name != "runtime.NumGoroutine" && fn.body.isSome
 | none => false
def aG (sz : Nat) : Prop :=
 ∀ (S : Z5) (w : World) (v : Value) (ds : List DV), ds.length <= lim -> (∀ b o, w.heap.size <= b -> ¬ S b o) -> RV S w.heap (.list sz ds) v ->
   Calls P f #[v] w fun e w' => ∃ (a : Option Addr) (b off cap : Nat), e = .returned (.slice a ds.length cap) /\ (ds ≠ [] -> a = some ⟨b, off, none⟩) /\ ds.length <= cap /\ (a = none -> cap = 0) /\ (∀ x, a = some x -> x.spot = none) /\ w.heap.size <= w'.heap.size /\ Z4 w w' /\ (∀ b', b' < w.heap.size -> w'.heap[b']? = w.heap[b']?) /\
    (ds ≠ [] -> w.heap.size <= b /\ ∃ c T, w'.heap[b]? = some (.cells c T (0, 0)) /\ off + ds.length * sz <= c.size /\ 0 < sz /\
      ∀ (j : Nat) d, ds[j]? = some d -> ∃ vs : List Value, vs.length = sz /\ (∀ (x : Nat) u, vs[x]? = some u -> c[off + j * sz + x]? = some u) /\ RC S w'.heap d vs)
def B4P (g : FuncId) (n : Nat) : Prop :=
 ∀ (w : World) (vs : Array Value), vs.size = n -> Calls P f #[.agg vs] w fun e w' => e = .returned (.func (.func g) #[] #[.pointer (some ⟨w.heap.size, 0, none⟩)]) /\ ∃ T, w' = w.alloc (.cells vs T)
structure Ta (n : Nat) (E : Env) (w w' : World) : Prop where
 size : w.heap.size <= w'.heap.size
 blk : ∀ b, b < w.heap.size -> w'.heap[b]? = w.heap[b]? \/ (n <= b /\ (∃ c T f c', w.heap[b]? = some (.cells c T f) /\ w'.heap[b]? = some (.cells c' T f) /\ c'.size = c.size) /\ ∀ o, E.O b o = .other)
 out : Z4 w w'
def A8a (g : FuncId) (it : List DV -> Option (List DV)) : Prop :=
 ∀ (cs ds : List DV), it cs = some ds -> ∀ (n l b : Nat) (c : Array Value) (T0 : TypeId) (J : Nat -> Env -> World -> Prop) (Jx : World -> Prop) (E : Env) (W : World),
   W.heap[b]? = some (.cells c T0 (0, 0)) -> (∀ o, o < c.size -> E.O b o = .other) -> GI E.S W.heap cs c.toList ->
   (∀ k E' W', J k E' W' -> ∀ b o, W'.heap.size <= b -> E'.O b o = .other) ->
   (∀ k E' W1 W2, J k E' W1 -> Ta W.heap.size E' W1 W2 -> J k E' W2) ->
   (∀ k E' W1 d v, J k E' W1 -> ds[k]? = some d -> RV E'.S W1.heap d v -> YieldAt Fence.wide n P l #[v] W1 fun e W2 =>
     (e = .returned (.bool true) /\ ∃ E2, J (k + 1) E2 W2 /\ Pr O3 E' W1.heap E2 W2.heap) \/ (e = .returned (.bool false) /\ Jx W2)) ->
   J 0 E W -> CallsIn Fence.wide n P g #[.func (.yield l) #[] #[], .pointer (some ⟨b, 0, none⟩)] W fun e W' => (∃ v, e = .returned v) /\ ((∃ E', J ds.length E' W') \/ Jx W')
structure GU (C : AO) (R : Q8) : Prop where
 p : ∀ f ds d, R.p f ds = some d -> isGo C.P f = true /\ B24 C.P f ds d
 r : ∀ f rs sg q, R.r f rs sg = some q -> ∃ s, C.sig f = some s /\ isGo C.P f = true /\ B6y C.P f s rs sg q
 c : ∀ f, C.clone f = true -> isGo C.P f = true /\ aG C.P f (C.lV f)
 m : ∀ f g, C.jA f = some g -> isGo C.P f = true /\ B4P C.P f g (C.lV f)
 i : ∀ g it, C.iter g = some it -> isGo C.P g = true /\ A8a C.P g it
structure A0Z (E E' : Env) (tg tg' : Tag) : Prop where
 hs : ∀ b o, E.O b o = .shut -> E'.O b o = .shut
 ht : ∀ b o, E.O b o = tg -> E'.O b o = tg'
 obj : E'.obj = E.obj
 base : E'.base = E.base
 n : E'.n = E.n
 top : E'.top = E.top
 Aa : E'.Aa = E.Aa
variable {E : Env} {E' : Env} {tg : Tag} {h : Heap}
theorem A0Z.le {tg' : Tag} (T : A0Z E E' tg tg') : Z9 E.S h E'.S h := ⟨fun b o hs => T.hs b o hs, fun _ _ _ _ hv => hv⟩
variable {d : DV} {m : Meta} {v : Value}
theorem J8.to {tg' : Tag} (T : A0Z E E' tg tg') (hl : ∀ s o, m ≠ .loc s o) (R : J8 E h tg d m v) : J8 E' h tg' d m v := by
 have J3 := T.le (h := h);have hI : E'.In = E.In := by funext i; simp only [Env.In, T.n, T.Aa]
 cases m <;> simp only [J8] at R ⊢
 case val => exact R.mono J3
 case full => exact ⟨R.1.mono J3, R.2⟩
 case own =>
  obtain ⟨r1, sz, ds, r2, r3⟩ := R;refine ⟨r1.mono J3, sz, ds, r2, fun x len cap hv L8 => ?_⟩
  obtain ⟨c, T', g, e1, e2, e3⟩ := r3 x len cap hv L8;refine ⟨c, T', g, e1, e2, fun o ho ho' => ?_⟩
  obtain ⟨e4, e5⟩ := e3 o ho ho';exact ⟨T.ht _ _ e4, e5⟩
 case loc s o => exact absurd rfl (hl s o)
 case Na ag sz o =>
  obtain ⟨b, o0, r1, r2, r3⟩ := R;exact ⟨b, o0, r1, r2.mono J3, r3⟩
 case ptr i o => rw [T.obj, hI]; exact R
 case Ba => exact R
 case map i => rw [T.obj, hI]; exact R
 case PX => exact R
 case arr i sz off len => rw [T.obj, hI, T.base, T.top]; exact R
 case opt i sz idx => rw [T.obj, hI, T.base]; exact R
 case Yy i sz idx o => rw [T.obj, hI, T.base]; exact R
 case M6 i n sz len => rw [T.obj, T.n, T.base, T.top, T.Aa]; exact R
 case o_ i n sz idx o => rw [T.obj, T.n, T.base, T.Aa]; exact R
 case fn f caps => rw [T.obj, hI]; exact R
theorem RO.to {i : Nat} {ob : C9} (T : A0Z E E' (.obj i) (.obj i)) (hs : ∀ j b o, E.O b o = .sp 2 i j -> E'.O b o = .sp 2 i j) (R : RO E h i ob) : RO E' h i ob := by
 have J3 := T.le (h := h);cases ob with
 | box cs =>
   simp only [RO] at R ⊢;obtain ⟨c, T0, h1, h2, h3, h4⟩ := R;rw [T.obj];refine ⟨c, T0, h1, h2, fun o => ?_, fun j r v hr hv => ?_⟩
   ·rcases h3 o with h5 | h5
    ·exact .inl (T.ht _ _ h5)
    ·exact .inr h5
   ·obtain ⟨a1, a2, a3, a4⟩ := h4 j r v hr hv
    exact ⟨a1, a2, a3, a4.to ⟨T.hs, hs j, T.obj, T.base, T.n, T.top, T.Aa⟩ fun s o hm => by rw [hm] at a3; simp [Y8] at a3⟩
 | arr sz ds =>
   simp only [RO] at R ⊢;intro hne;obtain ⟨c, T0, h1, h2, h3, h4, h5⟩ := R hne;rw [T.obj, T.base];refine ⟨c, T0, h1, h2, h3, fun o q1 q2 => T.ht _ _ (h4 o q1 q2), fun j d hd => ?_⟩
   obtain ⟨vs, v1, v2, v3⟩ := h5 j d hd;exact ⟨vs, v1, v2, v3.mono J3⟩
 | opn sz pre ds =>
   simp only [RO] at R ⊢;obtain ⟨c, T0, f, h1, h2, vw, hz, h3, h4, h5⟩ := R;rw [T.obj, T.base, T.top];refine ⟨c, T0, f, h1, h2, vw, hz, fun o q1 q2 => ⟨T.ht _ _ (h3 o q1 q2).1, (h3 o q1 q2).2⟩, fun j d hd => (h4 j d hd).mono J3, fun j d hd => ?_⟩
   obtain ⟨vs, v1, v2, v3⟩ := h5 j d hd;exact ⟨vs, v1, v2, v3.mono J3⟩
 | M6 n sz ds =>
   simp only [RO] at R ⊢;obtain ⟨hv, hn, hz, R⟩ := R;rw [T.obj, T.base, T.top, T.Aa];refine ⟨hv, hn, hz, ?_⟩;rcases R with R | ⟨c, T0, f, h1, h2, vw, h3, h5⟩
   ·exact .inl R
   right
   refine ⟨c, T0, f, h1, h2, vw, fun o q1 q2 => ⟨T.ht _ _ (h3 o q1 q2).1, (h3 o q1 q2).2⟩, fun j d hd => ?_⟩
   obtain ⟨vs, v1, v2, v3⟩ := h5 j d hd;exact ⟨vs, v1, v2, v3.mono J3⟩
 | map ks es =>
   simp only [RO] at R ⊢;obtain ⟨ens, clk, h1, h2, ⟨h3, h4⟩, h5⟩ := R;rw [T.obj];exact ⟨ens, clk, h1, fun o => T.ht _ _ (h2 o), ⟨h3, fun j e n g1 g2 => let ⟨a1, a2, a3⟩ := h4 j e n g1 g2; ⟨a1, a2.mono J3, a3.mono J3⟩⟩, h5⟩
def St.FE (st : St) (sg : List C9) : St := { st with sg }
section
variable {X : Type} {C : AO} {R : Q8} {o : Oper} {st : St} {k : St -> Option X} {x : X} {E : Env} {a : Act} {w : World} {K : Act -> World -> Prop} {Q : Exit -> Act -> World -> Prop} {h' : Heap}
theorem K3.ext (Rl : K3 E st a h) (P : Pr (fun _ => False) E h E' h') (hn : E'.n = E.n) (hf : ∀ b o, h'.size <= b -> E'.O b o = .other) : K3 E' st a h' := by
 have J3 := P.shut (by simp) Rl.fresh
 exact ⟨Rl.size, Rl.Af, Rl.Ca, by rw [hn]; exact Rl.n, fun t v hv => (Rl.regs t v hv).mono P J3 (by simp) (by simp), fun s cs hs => by rw [P.jg s (by simp)]; exact (Rl.boxes s cs hs).mono P J3 (by simp) (by simp),
  fun i ob hi => (Rl.U4 i ob hi).mono P J3 (by rw [<- Rl.n]; exact (z0q.1 hi).1) (by simp) (by simp), hf⟩
open Classical in
noncomputable def Env.after (E : Env) (n : Nat) (S' : Z5) : Env := { E with O := fun b o => if b < n then E.O b o else if S' b o then .shut else .other }
variable {S' : Z5}
theorem B4Q (H : Ext E.S h S' h') : Pr (fun _ => False) E h (E.after h.size S') h' := by
 refine ⟨H.size, fun b hb => by rw [H.blk b hb]; exact X8.refl _ _, fun b o hb _ => ?_, z10q _, fun _ _ _ => ⟨rfl, rfl, rfl⟩, fun _ _ => rfl, Dc rfl⟩
 simp only [Env.after]; rw [if_pos hb]
theorem B4R (H : Ext E.S h S' h') : Z9 S' h' (E.after h.size S').S h' := by
 refine ⟨fun b o hs => ?_, fun _ _ _ _ hv => hv⟩
 simp only [Env.S, Env.after]
 by_cases hb : b < h.size
 ·rw [if_pos hb]; exact (H.s b o hb).1 hs
 ·rw [if_neg hb, if_pos hs]
variable {f : FuncId}
theorem rM {args : Array Value} (hr : (execOp a.eval o).run C.P w = .ok (.enter f args) w) (hc : Calls C.P f args w fun e w' => ∃ v, e = .returned v /\ K (a.put o.dst v) w') : Gp C.P o a w K :=
 .inr (.inr ⟨f, args, hr, hc⟩)
variable {P : Program}
theorem A0E (h : isGo P f = true) (args : Array Value) (w : World) : (callFunc f args).run P w = .ok (.enter f args) w := by
 unfold isGo at h
 split at h
 ·rename_i fn hf
  simp only [z19q, bne_iff_ne, ne_eq] at h;unfold callFunc;obtain ⟨c, hc⟩ := z33q.1 h.2;simp [hf, h.1, hc]
 ·simp at h
variable {ts : List TypeId} {xs : List Operand} {rs : List (DV × Meta)}
theorem A7k (Rl : K3 E st a w.heap) (h : IU P st ts xs = some rs) : rs.length = xs.length /\ ∀ (i : Nat) r v, rs[i]? = some r -> (xs.map a.eval)[i]? = some v ->
 ∃ y t, xs[i]? = some y /\ v = a.eval y /\ src P t st y = some r /\ RR E w.heap 0 (oM y) r.1 r.2 v := by
 obtain ⟨l1, l2⟩ := jJ h;refine ⟨l1, fun i r v hr hv => ?_⟩
 simp only [z21q, z17q] at hv;obtain ⟨y, hy, rfl⟩ := hv;obtain ⟨t, ht⟩ := l2 i y r hy hr;exact ⟨y, t, hy, rfl, ht, Rl.src ht⟩
theorem B6b {vs : List Value} (hO : GU C R) (U1 : (execOp a.eval o).run C.P w = .ok (.enter f vs.toArray) w) (hl : rs.length = vs.length) (hrs : ∀ (i : Nat) r v, rs[i]? = some r -> vs[i]? = some v -> ∃ p q, RR E w.heap p q r.1 r.2 v) (H : og (rs.all fun r => J6 r.2) (ob (R.p f (rs.map (·.1))) fun d => k (st.put o.dst d .val)) = some x) (Rl : K3 E st a w.heap) (T : Then E w k x K) : Gp C.P o a w K := by
 obtain ⟨hd, H⟩ := F9 H;obtain ⟨d, NL, H⟩ := C8 H;refine rM U1 (((hO.p f _ d NL).2 E.S w vs (fun b o hb hs => by have h9 := Rl.fresh b o hb; rw [show E.O b o = Tag.shut from hs] at h9; cases h9) (Vy.2 ⟨by simpa using hl, fun i d' v Dq hv => ?_⟩)).mono ?_)
 ·simp only [z21q, z17q] at Dq
  obtain ⟨r, hr, rfl⟩ := Dq;obtain ⟨p, q, h⟩ := hrs i r v hr hv;exact h.data (z23q.1 hd r (z20q hr))
 ·rintro e w' ⟨v, S', he, hE, hR, dw⟩
  have P1 := B4Q hE;refine ⟨v, he, T _ _ _ w' H ((Rl.ext P1 rfl fun b o hb => ?_).put fun t0 _ => ?_) (P1.weaken (by simp)) dw⟩
  ·simp only [Env.after]
   have := hE.size;rw [if_neg (by omega), if_neg (hE.fresh b o hb)]
  ·exact RR.val (hR.mono (B4R hE))
def Aq : Tag -> Tag
 | .shut => .shut
 | .obj i => .obj i
 | .sp 2 i j => .sp 2 i j
 | .sp 4 i b => .sp 0 i b
 | _ => .other
def Vz (t : Nat) (one : Bool) : Tag -> Tag
 | .shut => .shut
 | .obj i => .obj i
 | .sp 2 i j => .sp 2 i j
 | .sp 3 i 0 => .sp 0 t (if one then 0 else i + 1)
 | .sp 3 _ (b + 1) => if one then .sp 0 t (b + 1) else .other
 | _ => .other
open Classical in
noncomputable def Env.back (E E1 : Env) (n : Nat) (t : Nat) (one : Bool) : Env :=
 { E1 with blk := E.blk, O := fun b o => if b < n /\ Aq (E.O b o) = .other then E.O b o else Vz t one (E1.O b o) }
def au (g : Option (Nat × Operand)) (T : Tag) : Tag :=
 match g with
 | some p => jB p.2 4 p.1 T
 | none => T
theorem wH : ∀ {ks : List MK} {xs : List Operand} {i0 : Nat} {p : Nat × Operand}, En i0 ks xs = some p -> i0 <= p.1 /\ (∃ k, ks[p.1 - i0]? = some k /\ Co k = true) /\ xs[p.1 - i0]? = some p.2
 | [], xs, i0, p, h => by simp [En] at h
 | k :: ks, [], i0, p, h => by simp [En] at h
 | k :: ks, y :: xs, i0, p, h => by
   simp only [En] at h
   split at h
   ·rename_i hk
    simp only [Option.some.injEq] at h;subst h;exact ⟨z10q _, ⟨k, by simp, hk⟩, by simp⟩
   ·obtain ⟨h1, h2, h3⟩ := wH h
    have : p.1 - i0 = (p.1 - (i0 + 1)) + 1 := by omega
    exact ⟨by omega, by rw [this]; simpa using h2, by rw [this]; simpa using h3⟩
theorem oK : ∀ {ks : List MK} {xs : List Operand} {i0 i : Nat} {k : MK} {y : Operand}, (ks.filter Co).length <= 1 -> ks[i]? = some k -> Co k = true -> xs[i]? = some y -> En i0 ks xs = some (i0 + i, y)
 | [], xs, i0, i, k, y, _, h, _, _ => by simp at h
 | k0 :: ks, [], i0, i, k, y, _, _, _, h => by simp at h
 | k0 :: ks, z :: xs, i0, 0, k, y, _, h, hk, h2 => by
   simp only [z7q, Option.some.injEq] at h h2;subst h h2;simp [En, hk]
 | k0 :: ks, z :: xs, i0, i + 1, k, y, hl, h, hk, h2 => by
   simp only [z12q] at h h2;have C1p : k ∈ ks.filter Co := List.mem_filter.2 ⟨z20q h, hk⟩;have hpos : 0 < (ks.filter Co).length := List.length_pos_of_mem C1p;have hk0 : ¬ Co k0 = true := by
    intro h0;simp only [z69q, h0, if_true, z34q] at hl;omega
   have := oK (i0 := i0 + 1) (xs := xs) (by simpa [z69q, hk0] using hl) h hk h2
   simp only [En, if_neg hk0];rw [this]
   congr 2
   omega
theorem A3l : ∀ {ks : List MK} {rs : List (DV × Meta)} {i : Nat} {r : DV × Meta}, (Gz ks rs)[i]? = some r -> ∃ r0, rs[i]? = some r0 /\ r.1 = r0.1 /\ ((∃ k, ks[i]? = some k /\ Co k = true /\ r.2 = YH r0.2 k) \/ ((∀ k, ks[i]? = some k -> Co k = false) /\ r.2 = Yx r0.2))
 | [], rs, i, r, h => by
   simp only [Gz, z21q, z17q] at h;obtain ⟨r0, h1, rfl⟩ := h;exact ⟨r0, h1, rfl, .inr ⟨by simp, rfl⟩⟩
 | k :: ks, [], i, r, h => by simp [Gz] at h
 | k :: ks, r0 :: rs, 0, r, h => by
   simp only [Gz, z7q, Option.some.injEq] at h;subst h;refine ⟨r0, rfl, rfl, ?_⟩;cases k
   ·exact .inr ⟨by simp [Co], rfl⟩
   ·exact .inl ⟨_, rfl, rfl, rfl⟩
   ·exact .inr ⟨by simp [Co], rfl⟩
   ·exact .inl ⟨_, rfl, rfl, rfl⟩
 | k :: ks, r0 :: rs, i + 1, r, h => by
   simp only [Gz, z12q] at h;obtain ⟨q, h1, h2, h3⟩ := A3l h;exact ⟨q, by simpa using h1, h2, by simpa using h3⟩
theorem oZ : ∀ {ks : List MK} {rs : List (DV × Meta)}, (Gz ks rs).length = rs.length
 | [], rs => by simp [Gz]
 | k :: ks, [] => by simp [Gz]
 | k :: ks, r :: rs => by simp [Gz, oZ]
theorem B1N.back {E1 : Env} {ks : List MK} {ds : List DV} {t : Nat} (R : B1N E1 h ks ds v) (AJ : A75 ks = true) (T : ∀ i, A0Z E1 E' (.sp 3 i 0) (.sp 0 t (if ks.length = 1 then 0 else i + 1))) (T2 : ks.length = 1 -> ∀ b, A0Z E1 E' (.sp 3 0 (b + 1)) (.sp 0 t (b + 1))) :
 RR E' h 0 t (Lg ks ds).1 (Lg ks ds).2 v := by
 obtain ⟨hl, vs, hv, rfl, H⟩ := R;unfold Lg
 split
 ·rename_i k
  simp only [z34q, z58q, z11q] at hl hv T T2;obtain ⟨d, rfl⟩ := z28q.1 hl;obtain ⟨u, rfl⟩ := z28q.1 hv;have := H 0 k d u rfl rfl rfl;simp only [List.getD_cons_zero];cases k with
  | val => exact RV.mono (T 0).le d this
  | own => exact RR.AU (J8.to (T 0) (m := .own) (by simp) this)
  | ptr =>
    have key : ∀ m : Meta, m ≠ .own -> (∀ s o, m ≠ .loc s o) -> J8 E1 h .other (KD .ptr d).1 m u -> J8 E' h (.sp 0 t 0) (KD .ptr d).1 m u := by
     intro m h1 h2 h3;exact J8.to (T 0) h2 (h3.tag h1)
    have hm : (KD .ptr d).2 ≠ .own /\ ∀ s o, (KD .ptr d).2 ≠ .loc s o := by
     unfold KD;constructor
     ·simp only; split <;> simp
     ·intro s o; simp only; split <;> simp
    exact RR.AU (key _ hm.1 hm.2 this)
  | YT n os =>
    simp only [B1O, RR, KD] at this ⊢;obtain ⟨ds, us, h1, h2, h3, h4, h5⟩ := this;refine ⟨ds, us, h1, h2, h3, h4, fun i m' d' u' e1 e2 e3 => ?_⟩
    obtain ⟨a1, a2, a3, a4⟩ := h5 i m' d' u' e1 e2 e3;exact ⟨a1, a2, a3, J8.to (T2 trivial i) (fun s o hm => by rw [hm] at a3; simp [Y8] at a3) a4⟩
 ·rename_i hne
  have B5u : ks.length ≠ 1 := fun h => by obtain ⟨k, hk⟩ := z28q.1 h; exact hne k hk
  have kI : ∀ k ∈ ks, k = .val \/ k = .own := by
   intro k hk;unfold A75 at AJ;simp only [Bool.or_eq_true, beq_iff_eq, B5u, false_or] at AJ;have := z23q.1 AJ k hk;cases k <;> simp_all
  have hvt : (match vs with | [u] => u | _ => Value.tuple vs.toArray) = .tuple vs.toArray := by
   split
   ·simp only [z34q, z58q, z11q] at hv; exact absurd hv.symm B5u
   ·rfl
  rw [hvt];simp only [RR];refine ⟨ds, vs.toArray, rfl, rfl, by simp [hl], by simp [hv], fun i m' d' u e1 e2 e3 => ?_⟩
  simp only [z21q, z17q] at e1;obtain ⟨k, hk, rfl⟩ := e1;have := H i k d' u hk e2 (by simpa using e3)
  have T1 := T i;rw [if_neg B5u] at T1;rcases kI k (z20q hk) with rfl | rfl
  ·exact ⟨rfl, RV.mono T1.le d' this⟩
  ·exact ⟨rfl, J8.to T1 (m := .own) (by simp) this⟩
variable {g : Option (Nat × Operand)}
theorem Dj {T : Tag} (h : ∀ p s b, g = some p -> p.2 = .tmp s -> T ≠ .sp 0 s b) : au g T = T := by
 unfold au
 split
 ·rename_i p
  exact NV fun s b hs => h p s b rfl hs
 ·rfl
theorem B0y (Rl : K3 E st a h) : K3 (E.re (au g)) (st.Gy g) a h := by
 cases g with
 | none => simp only [St.Gy]; exact (Rl.release (x := .const .nilIface) (f := au none) fun T _ => rfl)
 | some p => exact Rl.release fun T hT => Dj fun p' s b hp hs => by simp only [Option.some.injEq] at hp; subst hp; exact hT s b hs
theorem B7a (h : J6 m = true) : J6 (dm m) = true := by
 cases m <;> first | rfl | (simp [J6] at h; done) | skip
 rename_i ms;simp only [J6, dm, List.all_map] at h ⊢;refine z23q.2 fun m hm => ?_
 have := z23q.1 h m hm;cases m <;> simp_all [Xm]
theorem B8z {E : Env} {k a : Nat} (R : RR E h k a d m v) : RR E h k a d (Yx m) v := by
 unfold Yx
 split
 ·rename_i hd; exact RR.val (R.data hd)
 ·exact R.dm
theorem A7a : ∀ {os : List Nat} {ms : List Meta} {i0 i : Nat} {m : Meta}, (jD os i0 ms)[i]? = some m -> ∃ m0, ms[i]? = some m0 /\ m = if os.contains (i0 + i) then Mg m0 else Yx m0
 | os, [], i0, i, m, h => by simp [jD] at h
 | os, m0 :: ms, i0, 0, m, h => by
   simp only [jD, z7q, Option.some.injEq] at h;exact ⟨m0, rfl, h.symm⟩
 | os, m0 :: ms, i0, i + 1, m, h => by
   simp only [jD, z12q] at h;obtain ⟨m1, h1, h2⟩ := A7a h;exact ⟨m1, by simpa using h1, by rw [h2, z47q, Nat.add_comm 1 i]⟩
theorem eU : ∀ {os : List Nat} {ms : List Meta} {i0 : Nat}, (jD os i0 ms).length = ms.length
 | os, [], i0 => rfl
 | os, m :: ms, i0 => by simp [jD, eU]
theorem J8.Mg {E : Env} (R : J8 E h tg d m v) : J8 E h tg d (Su.Mg m) v := by
 cases m <;> first | exact R | exact R.qN
theorem J8.Yx {E : Env} (hm : Y8 m = true) (R : J8 E h tg d m v) : J8 E h tg d (Su.Yx m) v /\ Y8 (Su.Yx m) = true := by
 unfold Su.Yx
 split
 ·rename_i hd
  refine ⟨?_, rfl⟩;have Dq : m = .val \/ m = .full \/ m = .own \/ m = .Ba := by
   cases m <;> simp_all [J6, Y8]
  exact lJ Dq R
 ·exact ⟨R.BO hm, (Su.BO hm).2.1⟩
theorem A69 {E : Env} {k a : Nat} {q : MK} (hq : Co q = true) (R : RR E h k a d m v) : RR E h k a d (YH m q) v := by
 cases q with
 | val => cases hq
 | ptr => cases hq
 | own =>
   by_cases hm : m = .full
   ·subst hm
    exact RR.AU (J8.qN (RR.A0T (by simp) (by simp) R))
   ·have : YH m .own = m := by unfold YH; split <;> simp_all
    rw [this]; exact R
 | YT n os =>
   by_cases hm : ∃ ms, m = .DZ ms
   ·obtain ⟨ms, rfl⟩ := hm
    simp only [YH, RR] at R ⊢;obtain ⟨ds, vs, h1, h2, h3, h4, h5⟩ := R;refine ⟨ds, vs, h1, h2, by rw [eU]; exact h3, by rw [eU]; exact h4, fun i m' d' u e1 e2 e3 => ?_⟩
    obtain ⟨m0, g1, rfl⟩ := A7a e1;obtain ⟨a1, a2, a3, a4⟩ := h5 i m0 d' u g1 e2 e3
    split
    ·exact ⟨a1, a2, by cases m0 <;> simp_all [Su.Mg, Y8], a4.Mg⟩
    ·exact ⟨a1, a2, (a4.Yx a3).2, (a4.Yx a3).1⟩
   ·have : YH m (.YT n os) = Yx m := by
     unfold YH
     split <;> first | rfl | (rename_i h1 h2; simp_all)
    rw [this]; exact B8z R
theorem B7R {s : Ag} {extra : List (DV × Meta)} {ev : List Value} (hO : GU C R) (hs : C.sig f = some s) (U1 : (execOp a.eval o).run C.P w = .ok (.enter f (xs.map a.eval ++ ev).toArray) w) (hsr : IU C.P st ts xs = some rs) (hel : extra.length = ev.length) (GK : ∀ (i : Nat) r v, extra[i]? = some r -> ev[i]? = some v -> ∀ p q, RR E w.heap p q r.1 r.2 v /\ r.2 ≠ .own /\ r.2 ≠ .full) (H : og (((rs ++ extra).all fun r => B6I r.2) && decide ((s.params.filter Co).length <= 1) && A75 s.results)
   (ob (R.r f (Gz s.params (rs ++ extra)) st.sg) fun q =>
     ed s.results q.1 fun r => k (({ st with sg := q.2 }.Gy (En 0 s.params xs)).put o.dst r.1 r.2)) = some x) (Rl : K3 E st a w.heap) (T : Then E w k x K) : Gp C.P o a w K := by
 obtain ⟨hg, H⟩ := F9 H;obtain ⟨q, hq, H⟩ := C8 H;have H := (A3j H).1;simp only [z19q, decide_eq_true_eq] at hg;obtain ⟨⟨hgo, dz⟩, C1t⟩ := hg;obtain ⟨s', EI, C1Q, hR⟩ := hO.r f _ _ q hq;rw [hs] at EI;cases EI;generalize hgd : En 0 s.params xs = g at H;have Rl0 : K3 (E.re (au g)) (st.Gy g) a w.heap := B0y Rl;have sg0 : (st.Gy g).sg = st.sg := by
  cases g with
  | none => rfl
  | some p => simp only [St.Gy]; cases p.2 <;> rfl
 generalize hE0 : E.re (au g) = E0 at Rl0;have E0n : E0.n = E.n := by rw [<- hE0]; rfl
 obtain ⟨l1, l2⟩ := A7k Rl hsr;have JI : (xs.map a.eval ++ ev).length = (Gz s.params (rs ++ extra)).length := by rw [oZ]; simp [l1, hel]
 have cs : Aq .shut = .shut := rfl;have co : Aq .other = .other := rfl;refine rM U1 ((hR (E0.re Aq) w (xs.map a.eval ++ ev) (fun b o hb => ?_) ?_ (fun i ob hi => ?_) JI (fun i r v hr hv => ?_)).mono ?_)
 ·simp only [Env.re]; rw [Rl0.fresh b o hb]; rfl
 ·rw [<- sg0]; exact Rl0.n
 ·have := Rl0.U4 i ob (by rw [sg0]; exact hi)
  exact RO.to (E := E0) ⟨fun b o h => by simp only [Env.re]; rw [h]; rfl, fun b o h => by simp only [Env.re]; rw [h]; rfl, rfl, rfl, rfl, rfl, rfl⟩ (fun j b o h => by simp only [Env.re]; rw [h]; rfl) this
 ·obtain ⟨r0, h1, h2, h3⟩ := A3l hr
  have B9c : ∀ (p q : Nat) (m : Meta), RR E w.heap p q r0.1 m v -> RR (E0.re Aq) w.heap 0 i r0.1 (dm m) v := by
   intro p q m hh;have h1 : RR E w.heap 2 0 r0.1 (dm m) v := hh.dm;have h2 : RR E0 w.heap 2 0 r0.1 (dm m) v := by
    rw [<- hE0];exact h1.re (Dj (by simp)) (Dj (by simp)) fun b => Dj (by simp)
   have h3 : RR (E0.re Aq) w.heap 2 0 r0.1 (dm m) v := h2.re rfl rfl fun b => rfl
   exact h3.A8s
  have B6K : ∀ (p q : Nat) (m : Meta), RR E w.heap p q r0.1 m v -> RR (E0.re Aq) w.heap 0 i r0.1 (Yx m) v := by
   intro p q m hh;have h0 := B9c p q m hh;unfold Yx
   split
   ·rename_i hd
    exact RR.val (RR.data (B7a hd) h0)
   ·exact h0
  rw [h2]
  by_cases hi : i < rs.length
  ·rw [z2q hi] at h1
   have YA : (xs.map a.eval)[i]? = some v := by rwa [z2q (by simpa [l1] using hi)] at hv
   obtain ⟨y, t, hy, rfl, hsy, hRy⟩ := l2 i r0 v h1 YA;rcases h3 with ⟨kk, h4, ZQ, h5⟩ | ⟨h4, h5⟩
   ·rw [h5]
    have hp : En 0 s.params xs = some (0 + i, y) := oK dz h4 ZQ hy;rw [z11q, hgd] at hp;subst hp;have h6 : RR E0 w.heap 4 i r0.1 r0.2 (a.eval y) := by
     rw [<- hE0]
     by_cases hyt : ∃ j, y = .tmp j
     ·obtain ⟨j, rfl⟩ := hyt
      exact hRy.re (Dj (by simp)) (Dj (by simp)) fun b => by simp [au, jB, oM]
     ·exact (K3.B1G hsy (fun j hj => hyt ⟨j, hj⟩) 4 i).re (Dj (by simp)) (Dj (by simp)) fun b => Dj (by simp)
    have h7 : RR (E0.re Aq) w.heap 0 i r0.1 r0.2 (a.eval y) := h6.re rfl rfl fun b => rfl
    exact A69 ZQ h7
   ·rw [h5]; exact B6K _ _ _ hRy
  ·have hge : rs.length <= i := z54q hi
   rw [z3q hge] at h1;rw [z3q (by simpa [l1] using hge)] at hv
   simp only [z52q, <- l1] at hv;obtain ⟨h6, h7, h8⟩ := GK _ r0 v h1 hv 2 0;have h9 := B6K 2 0 _ h6;rcases h3 with ⟨kk, h4, ZQ, h5⟩ | ⟨h4, h5⟩
   ·rw [h5]
    have dV : RR E0 w.heap 4 i r0.1 r0.2 v := by
     rw [<- hE0];exact (GK _ r0 v h1 hv 4 i).1.re (Dj (by simp)) (Dj (by simp)) fun b => Dj (by simp)
    exact A69 ZQ (dV.re rfl rfl fun b => rfl)
   ·rw [h5]; exact h9
 ·rintro e w' ⟨dw, v, E1, he, P1, hf1, hn1, ho1, B5x⟩
  subst he;generalize ht : o.dst.getD 0 = t
  let one : Bool := decide (s.results.length = 1)
  have A3G : ∀ i : Nat, (if one = true then 0 else i + 1) = (if s.results.length = 1 then 0 else i + 1) := fun i => by simp [one]
  let E' : Env := E0.back E1 w.heap.size t one
  have B9e : ∀ b o, E1.O b o ≠ .other -> ¬ (b < w.heap.size /\ Aq (E0.O b o) = .other) := by
   rintro b o h1 ⟨h2, h3⟩;have := P1.tags b o h2 (by simp only [Env.re]; rw [h3]; simp [O3])
   simp only [Env.re] at this;rw [h3] at this;exact h1 this
  have hO' : ∀ b o T, E1.O b o = T -> T ≠ .other -> E'.O b o = Vz t one T := by
   intro b o T h1 h2
   show (if b < w.heap.size /\ Aq (E0.O b o) = .other then E0.O b o else Vz t one (E1.O b o)) = _
   rw [if_neg (B9e b o (by rw [h1]; exact h2)), h1]
  have Pc : Pr (fun T => O3 (Aq T)) E0 w.heap E' w'.heap := by
   refine ⟨P1.size, fun b hb => P1.blk b hb, fun b o hb hn => ?_, P1.n, fun i hi hv => P1.U4 i hi hv, fun _ _ => rfl, fun i hi => P1.Nj i hi⟩
   show (if b < w.heap.size /\ Aq (E0.O b o) = .other then E0.O b o else Vz t one (E1.O b o)) = _
   by_cases hc : Aq (E0.O b o) = .other
   ·rw [if_pos ⟨hb, hc⟩]
   ·rw [if_neg fun h => hc h.2]
    have hsh : Aq (E0.O b o) = .shut := by
     by_cases hs : Aq (E0.O b o) = .shut
     ·exact hs
     ·exact absurd ⟨hc, hs⟩ hn
    have h2 := P1.tags b o hb (by simp only [Env.re]; exact hn)
    simp only [Env.re] at h2;rw [h2, hsh];have : E0.O b o = .shut := by
     revert hsh
     unfold Aq
     split <;> simp_all
    rw [this]; rfl
  have J3 := Pc.shut (by simp [O3, Aq]) Rl0.fresh
  have R2 : K3 E' ((st.Gy g).FE q.2) a w'.heap := by
   refine ⟨Rl0.size, Rl0.Af, Rl0.Ca, hn1, fun u v' hu => ?_, fun s' cs' EI => ?_, fun i ob hi => ?_, fun b o hb => ?_⟩
   ·exact (Rl0.regs u v' hu).mono Pc J3 (fun b => by simp [O3, Aq]) (fun s o _ => by simp [O3, Aq])
   ·exact (Rl0.boxes s' cs' EI).mono Pc J3 (by simp [O3, Aq]) (fun j => by simp [O3, Aq])
   ·exact (ho1 i ob hi).to ⟨fun b o h => hO' b o _ h (by simp), fun b o h => hO' b o _ h (by simp), rfl, rfl, rfl, rfl, rfl⟩ fun j b o h => hO' b o _ h (by simp)
   ·show (if b < w.heap.size /\ Aq (E0.O b o) = .other then E0.O b o else Vz t one (E1.O b o)) = _
    have := P1.size;rw [if_neg (by omega), hf1 b o hb]; rfl
  refine ⟨v, rfl, T E' _ _ w' ?_ (R2.put (dst := o.dst) (d := (Lg s.results q.1).1) (m := (Lg s.results q.1).2) (v := v) fun t0 ht0 => ?_) ?_ dw⟩
  ·rw [<- H]
   congr 1
   cases g with
   | none => rfl
   | some p => simp only [St.Gy]; cases p.2 <;> rfl
  ·have htt : t = t0 := by rw [<- ht, ht0]; rfl
   rw [<- htt];exact B5x.back C1t (fun i => ⟨fun b o h => hO' b o _ h (by simp), fun b o h => by rw [hO' b o _ h (by simp)]; simp only [Vz]; rw [A3G], rfl, rfl, rfl, rfl, rfl⟩)
    fun h1 i => ⟨fun b o h => hO' b o _ h (by simp), fun b o h => by rw [hO' b o _ h (by simp)]; simp [Vz, one, h1], rfl, rfl, rfl, rfl, rfl⟩
  ·have P0 : Pr O3 E w.heap E0 w.heap := by
    rw [<- hE0];exact Pr.re fun T hT => Dj fun p s b _ _ he => hT (by rw [he]; simp [O3])
   refine P0.trans (Pc.weaken fun T hT => ⟨fun h => ?_, fun h => ?_⟩)
   ·rw [h] at hT; simp [O3, Aq] at hT
   ·rw [h] at hT; simp [O3, Aq] at hT
end
end Go.Su

/-
 THE DATA MACHINE: a writable array's elements are cleared.
-/
namespace Go.Su
section
variable {X : Type} {C : AO} {R : Q8} {o : Oper} {st : St} {k : St -> Option X} {x : X} {E : Env} {a : Act} {w : World} {K : Act -> World -> Prop}
end
end Go.Su

/-
 THE DATA MACHINE, part 14: vectors grow.
-/
namespace Go.Su
section
variable {X : Type} {C : AO} {R : Q8} {o : Oper} {st : St} {k : St -> Option X} {x : X} {E : Env} {a : Act} {w : World} {K : Act -> World -> Prop} {Q : Exit -> Act -> World -> Prop}
def Env.A5T (E : Env) (i n : Nat) : Env := { E with Aa := fun j => if j = i then n else E.Aa j }
def Env.B1M (E : Env) (i n b hi : Nat) : Env :=
 { E with obj := fun j => if j = i then b else E.obj j, base := fun j => if j = i then 0 else E.base j, top := fun j => if j = i then hi else E.top j, Aa := fun j => if j = i then n else E.Aa j,
          O := fun b' o => if b' = b then (if o < hi then .obj i else .other) else if E.O b' o = .obj i then .other else E.O b' o }
theorem B4L {E : Env} {h : Heap} {i b off top n sz : Nat} {ds es : List DV} {all all' : List Value} {c : Array Value} {T : TypeId} {f : Nat × Nat} (ho : E.obj i = b) (hb : E.base i = off) (ht : E.top i = top) (hv : E.Aa i = n) (hn : 0 < n) (hpos : 0 < sz) (hc : h[b]? = some (.cells c T f)) (Da : off + (ds.length + es.length) * sz <= top) (Fv : top <= c.size) (tags : ∀ o, off <= o -> o < top -> E.O b o = .obj i /\ ¬(f.1 <= o /\ o < f.2)) (F : GG E.S h sz ds all) (G : GG E.S h sz es all') (cells : ∀ (j : Nat) u, all[j]? = some u -> c[off + j]? = some u) (cells' : ∀ (j : Nat) u, all'[j]? = some u -> c[off + ds.length * sz + j]? = some u) : RO E h i (.M6 n sz (ds ++ es)) := by
 simp only [RO];rw [ho, hb, ht];refine ⟨hv, hn, hpos, .inr ⟨c, T, f, hc, by rw [List.length_append]; exact Da, Fv, tags, fun j d hd => ?_⟩⟩
 by_cases hj : j < ds.length
 ·rw [z2q hj] at hd
  obtain ⟨vs, v1, v2, v3⟩ := F.2 j d hd;exact ⟨vs, v1, fun y u hu => by rw [z47q]; exact cells _ u (v2 y u hu), v3⟩
 ·rw [z3q (by omega)] at hd
  obtain ⟨vs, v1, v2, v3⟩ := G.2 _ d hd;refine ⟨vs, v1, fun y u hu => ?_, v3⟩
  have := cells' _ u (v2 y u hu);have e : j * sz = ds.length * sz + (j - ds.length) * sz := by rw [<- z29q]; congr 1; omega
  rw [e]
  rwa [show off + (ds.length * sz + (j - ds.length) * sz) + y = off + ds.length * sz + ((j - ds.length) * sz + y) by omega]
theorem B6t {E : Env} {h : Heap} {i n sz m : Nat} {ds : List DV} (H : RO E h i (.M6 n sz ds)) (hm : m <= ds.length) : ∃ all, GG E.S h sz (ds.take m) all /\ ∀ (j : Nat) u, all[j]? = some u -> hc h (E.obj i) (E.base i + j) = some u := by
 simp only [RO] at H;obtain ⟨-, -, hz, H⟩ := H;rcases H with ⟨rfl, -⟩ | ⟨c, T, f, h1, h2, vw, h3, h5⟩
 ·have : m = 0 := by simpa using hm
  subst this;exact ⟨[], ⟨by simp, by simp⟩, by simp⟩
 have hmul : m * sz <= ds.length * sz := z6q _ hm;have BF : (c.toList.drop (E.base i)).take (m * sz) = (c.toList.drop (E.base i)).take (m * sz) := rfl;refine ⟨(c.toList.drop (E.base i)).take (m * sz), ⟨?_, fun j d hd => ?_⟩, fun j u hu => ?_⟩
 ·simp only [z48q, List.length_drop, z64q]
  rw [Nat.min_eq_left (by omega), Nat.min_eq_left hm]
 ·have hj : j < m := by have := (z0q.1 hd).1; simp only [z48q] at this; omega
  rw [z36q hj] at hd;obtain ⟨vs, v1, v2, v3⟩ := h5 j d hd;refine ⟨vs, v1, fun y u hu => ?_, v3⟩
  have hy : y < sz := by have := (z0q.1 hu).1; omega
  have L8 : j * sz + y < m * sz := by
   calc j * sz + y < j * sz + sz := by omega
    _ = (j + 1) * sz := by rw [z27q]
    _ <= m * sz := z6q _ hj
  rw [z36q L8, z65q, <- z47q, z45q];exact v2 y u hu
 ·have hj : j < m * sz := by have := (z0q.1 hu).1; simp only [z48q] at this; omega
  rw [z36q hj, z65q, z45q] at hu;unfold hc;rw [h1];exact hu
theorem B6d {fl : Flags} {c : Call} {y v : Operand} {t u : TypeId} (F3 : o.op = .call c) (A8V : c.callee = .builtin .append) (ha : c.args.toList = [y, v]) (ht : c.argTypes.toList = [t, u]) (QP : J4 fl.DR o.dst = true) (H : Eh C fl o y v t u st k = some x) (Rl : K3 E st a w.heap) (T : Then E w k x K) : Gp C.P o a w K := by
 unfold Eh at H;rw [if_pos QP] at H;unfold A45 at H;obtain ⟨r, h1, H⟩ := C8 H;obtain ⟨s, h2, H⟩ := C8 H;obtain ⟨sz, BF, H⟩ := C8 H;obtain ⟨hc', H⟩ := F9 H;simp only [z19q] at hc';obtain ⟨Yl, FN⟩ := hc';obtain ⟨t0, FN⟩ := z33q.1 FN;obtain ⟨e, e', z, inf, zv, hu, Iz, hz, GL, hpos, Ac, dY, Sr, ZV⟩ := Zl BF;have e1 := Rl.src h1;have e2 := (Rl.src h2).data Yl;have EH : inf.size = sz := by
  obtain ⟨i', d', q1, -, q2, -⟩ := HY hz;rw [Ac] at q1;simp only [Option.some.injEq] at q1;rw [<- GL, q2, q1]
 have U1 : ∀ v' w', (Builtin.append_ #[t, u] o.type #[a.eval y, a.eval v]).run C.P w = .ok v' w' -> (execOp a.eval o).run C.P w = .ok (.value v') w' := by
  intro v' w' hv;refine Hq F3 A8V ?_;rw [SA ht, show c.args.map a.eval = #[a.eval y, a.eval v] from by rw [SA ha]; simp]
  exact Bv hv
 rw [FN] at H;have hn := Rl.n;obtain ⟨q, hq, H⟩ := C8 H
 ·have hm := A5S hq
  rw [hm] at e1;simp only [RR, J8] at e1;obtain ⟨p, hp, H⟩ := C8 H;obtain ⟨hg, H⟩ := F9 H;obtain ⟨d2, hd, H⟩ := C8 H;simp only [z19q, beq_iff_eq, decide_eq_true_eq] at hg;obtain ⟨⟨g1, g2⟩, g3⟩ := hg;have hpv := aF hp;clear hp;obtain ⟨i, n, sz', len⟩ := q;obtain ⟨psz, ds⟩ := p;simp only at g1 g2 g3 hpv e1 H;have g1 := g1.symm;have g2 := g2.symm;subst g1;subst g2;obtain ⟨ds', es, hr, hs, A0h, hne, rfl⟩ := A4O hd;simp only [DV.list.injEq, true_and] at hr;subst hr;simp only at H;rw [hs] at e2;obtain ⟨b', len', cap', all', ev', k1, k2, k3, k4, k5, k6, k7⟩ := OV (P := C.P) e2;obtain ⟨r1, r2, r3, b, cap, ev, f2, f3, f4, f5⟩ := e1;have B := Rl.U4 i _ hpv;have BB := B;simp only [RO] at BB;obtain ⟨bv, b0, -, BB⟩ := BB;have f5 := f5 bv;obtain ⟨all, F, Fc⟩ := B6t B g3;have L8 : (ds.take len).length = len := by rw [z48q]; omega
  have QO : Builtin.lenOf (a.eval v) = pure len' := by rw [ev']; rfl
  have A3G := k4.one hpos;have hal : all.length = len * sz := by rw [F.1, L8]
  have B8M : all'.length = len' * sz := by rw [k4.1, k1]
  have Jw := (z0q.1 hpv).1;have hln : 0 < len' := by omega
  have A5i : (len + len') * sz = len * sz + len' * sz := z29q _ _ _
  by_cases Da : len + len' <= cap
  ·obtain ⟨hb, B2o⟩ := f5 (by omega)
   subst hb;have hc0 : 0 < cap * sz := z70q (by omega) hpos
   obtain ⟨cc, TT, f, c1, c2, c2', c3, c5⟩ := BB.resolve_left fun h => by have := h.2; omega
   have hmul : (len + len') * sz <= cap * sz := z6q _ Da;obtain ⟨w', hw, S⟩ := KF (P := C.P) (b := E.obj i) (T := TT) (f := f) (E.base i + len * sz) all' cc 0 w c1 (by omega) A3G (fun o' h3 h4 => (c3 o' (by omega) (by omega)).2)
   have AR : (Builtin.append_ #[t, u] o.type #[a.eval y, a.eval v]).run C.P w = .ok (.slice (some ⟨E.obj i, E.base i, none⟩) (len + len') cap) w' := by
    rw [ev];refine JC hu Iz Ac QO (by rw [EH]; exact k7 w rfl) Da ?_
    rw [EH, Addr.add_lit];exact hw
   simp only [z26q] at S;have vE : (E.A5T i (n + 1)).Aa i = n + 1 := if_pos rfl;have PS : Pr (fun T => T = .obj i) E w.heap (E.A5T i (n + 1)) w'.heap := by
    refine ⟨z51q S.size.symm, fun b1 MX => ?_, fun b1 o1 MX hT => rfl, z10q _, fun j hj _ => ⟨rfl, rfl, rfl⟩, fun _ _ => rfl, fun j hj => ?_⟩
    ·by_cases ZO : b1 = E.obj i
     ·subst ZO
      rw [c1];obtain ⟨c', q1, q2, q3⟩ := S.ex;refine ⟨c', q1, q2, fun j hj => ?_⟩
      rw [q3 j, if_neg];rintro ⟨q4, q5⟩;exact hj (c3 j (by omega) (by omega)).1
     ·rw [S.rest b1 ZO]; exact X8.refl _ _
    ·by_cases hji : j = i
     ·subst hji
      rw [vE];exact ⟨fun h => by omega, by omega, fun h => absurd rfl h⟩
     ·have : (E.A5T i (n + 1)).Aa j = E.Aa j := if_neg hji
      rw [this]; exact ⟨id, z10q _, fun _ => rfl⟩
   have ER := PS.shut (by simp) Rl.fresh
   have R2 : K3 (E.A5T i (n + 1)) { st with sg := st.sg.set i (.M6 (n + 1) sz (ds.take len ++ es)) } a w'.heap := by
    refine ⟨Rl.size, Rl.Af, Rl.Ca, by simpa [Env.A5T] using hn, fun q vq hq => (Rl.regs q vq hq).mono PS ER (by simp) (by simp), fun s' cs' EI => (Rl.boxes s' cs' EI).mono PS ER (by simp) (by simp), fun i' ob hi => ?_, fun b1 o1 MX => Rl.fresh b1 o1 (by rw [<- S.size]; exact MX)⟩
    by_cases Dr : i = i'
    ·subst Dr
     simp only [z4q Jw, Option.some.injEq] at hi;subst hi;obtain ⟨c', q1, q2, q3⟩ := S.ex;refine B4L (all := all) (all' := all') (off := E.base i) (top := E.top i) rfl rfl rfl vE (z57q _) hpos q1 (by rw [L8]; rw [<- k1]; omega) (by rw [q2]; exact c2') (fun o' h3 h4 => c3 o' h3 h4) (F.mono ER) (k4.mono ER) (fun j u hu => ?_) fun j u hu => ?_
     ·have v_ : j < all.length := (z0q.1 hu).1
      have := Fc j u hu;unfold Su.hc at this;rw [c1] at this;rw [q3, if_neg (by omega)]
      exact this
     ·have v_ : j < all'.length := (z0q.1 hu).1
      rw [L8, q3, if_pos (by omega), <- hu]
      congr 1
      omega
    ·simp only [z5q Dr] at hi
     exact (Rl.U4 i' ob hi).mono PS ER (CS Rl hi) (by simp; exact fun h => Dr h.symm) (by simp)
   refine Ap (U1 _ _ AR) (T _ _ _ w' H ?_ (PS.weaken (by rintro T rfl; simp [O3])) S.out)
   rw [FN];refine R2.put fun t1 ZU => ?_
   refine RR.AU ⟨r1, z57q _, by rw [vE]; exact z10q _, some ⟨E.obj i, E.base i, none⟩, cap, by rw [L8, k1], by rw [L8, <- k1]; exact Da, by simp, fun _ q hq => ?_, fun _ _ => ⟨rfl, B2o⟩⟩
   simp only [Option.some.injEq] at hq;rw [<- hq]
  ·-- a new block
   have B8R : ∀ w' : World, w'.heap = w.heap -> (Builtin.firstCells inf.size len (.slice b len cap)).run C.P w' = .ok all.toArray w' := by
    intro w' hw';cases b with
    | none =>
      have h0 := f3 rfl;have h9 : all = [] := z18q (by rw [hal, show len = 0 by omega]; simp)
      rw [h9, show len = 0 by omega]
      rfl
    | some y' =>
      show (loadCells y' (len * inf.size)).run C.P w' = _
      rw [EH]
      by_cases h0 : 0 < cap
      ·obtain ⟨hb, -⟩ := f5 h0
       simp only [Option.some.injEq] at hb;rw [<- hal, hb];exact Wj (fun j u hu => by rw [hw']; exact Fc j u hu)
      ·have h9 : all = [] := z18q (by rw [hal, show len = 0 by omega]; simp)
       rw [h9, show len = 0 by omega, z42q]
       rfl
   obtain ⟨nc, hnc, AR⟩ := run_append_grow (ty := o.type) (b := b) hu Iz Ac QO (by rw [EH]; exact k7) B8R Sr Da (by unfold lim at A0h; rw [L8] at A0h; omega) dY
   rw [<- ev] at AR;have QQ : (Builtin.zeroCells zv.cells (nc - (len + len'))).toList.length = (nc - (len + len')) * sz := by simp [Builtin.zeroCells, ZV]
   have B80 : (len + len') * sz + (nc - (len + len')) * sz = nc * sz := by rw [<- z29q]; congr 1; omega
   generalize hzc : (Builtin.zeroCells zv.cells (nc - (len + len'))).toList = zc at AR QQ
   let E2 := E.B1M i (n + 1) w.heap.size (nc * sz)
   have vE : E2.Aa i = n + 1 := if_pos rfl;have oE : E2.obj i = w.heap.size := if_pos rfl;have bE : E2.base i = 0 := if_pos rfl;have tE : E2.top i = nc * sz := if_pos rfl;have PS : Pr (fun T => T = .obj i) E w.heap E2 (w.heap.push (.cells (all ++ all' ++ zc).toArray e)) := by
    refine Pr.push (fun b1 o1 MX hT => ?_) (z10q _) (fun j hj hvj => ?_) (fun _ _ => rfl) (fun j hj => ?_)
    ·show (if _ then _ else _) = _
     rw [if_neg (by omega), if_neg hT]
    ·have hji : j ≠ i := fun h => by subst h; rw [vE] at hvj; omega
     refine ⟨?_, ?_, ?_⟩ <;> (show (if _ then _ else _) = _; rw [if_neg hji])
    ·by_cases hji : j = i
     ·subst hji
      rw [vE];exact ⟨fun h => by omega, by omega, fun h => absurd rfl h⟩
     ·have : E2.Aa j = E.Aa j := if_neg hji
      rw [this]; exact ⟨id, z10q _, fun _ => rfl⟩
   have ER := PS.shut (by simp) Rl.fresh
   have Gd : ∀ (j : Nat), hc (w.heap.push (.cells (all ++ all' ++ zc).toArray e)) w.heap.size j = (all ++ all' ++ zc)[j]? := fun j => by rw [A0f]; simp
   have R2 : K3 E2 { st with sg := st.sg.set i (.M6 (n + 1) sz (ds.take len ++ es)) } a (w.heap.push (.cells (all ++ all' ++ zc).toArray e)) := by
    refine ⟨Rl.size, Rl.Af, Rl.Ca, by simpa [E2, Env.B1M] using hn, fun q vq hq => (Rl.regs q vq hq).mono PS ER (by simp) (by simp), fun s' cs' EI => (Rl.boxes s' cs' EI).mono PS ER (by simp) (by simp), fun i' ob hi => ?_, fun b1 o1 MX => ?_⟩
    ·by_cases Dr : i = i'
     ·subst Dr
      simp only [z4q Jw, Option.some.injEq] at hi;subst hi;refine B4L (all := all) (all' := all') oE bE tE vE (z57q _) hpos Kn (by rw [L8, <- k1]; omega) (by simp; omega) (fun o' h3 h4 => ⟨?_, by simp⟩) (F.mono ER) (k4.mono ER) (fun j u hu => ?_) fun j u hu => ?_
      ·show (if _ then _ else _) = _
       rw [if_pos rfl, if_pos h4]
      ·have v_ : j < all.length := (z0q.1 hu).1
       rw [z11q, z44q, z43q, z2q v_];exact hu
      ·have v_ : j < all'.length := (z0q.1 hu).1
       rw [L8, z11q, z44q, z43q, z3q (by omega), z2q (by omega), <- hu]
       congr 1
       omega
     ·simp only [z5q Dr] at hi
      exact (Rl.U4 i' ob hi).mono PS ER (CS Rl hi) (by simp; exact fun h => Dr h.symm) (by simp)
    ·simp only [z46q] at MX
     show (if _ then _ else _) = _
     rw [if_neg (by omega), if_neg]
     ·exact Rl.fresh b1 o1 (by omega)
     ·rw [Rl.fresh b1 o1 (by omega)]; simp
   refine Ap (U1 _ _ AR) (T _ _ _ (w.drew.alloc (.cells (all ++ all' ++ zc).toArray e)) H ?_ (PS.weaken (by rintro T rfl; simp [O3])))
   rw [FN];refine R2.put fun t1 ZU => ?_
   refine RR.AU ⟨r1, z57q _, by rw [vE]; exact z10q _, some ⟨w.heap.size, 0, none⟩, nc, by rw [L8, k1], by rw [L8, <- k1]; exact hnc, by simp, fun _ q hq => ?_, fun _ _ => ⟨by rw [oE, bE], by rw [bE, tE, z11q]; exact z10q _⟩⟩
   simp only [Option.some.injEq] at hq;rw [<- hq]
end
end Go.Su

/-
 THE DATA MACHINE, part 18: one operation, whichever it is.
-/
namespace Go.Su
section
variable {X : Type} {C : AO} {R : Q8} {o : Oper} {st : St} {k : St -> Option X} {x : X} {E : Env} {a : Act} {w : World} {K : Act -> World -> Prop} {Q : Exit -> Act -> World -> Prop}
open Classical in
noncomputable def Env.B9a (E : Env) (n b off m tp : Nat) : Env :=
 { E with obj := fun i => if i = E.n then b else E.obj i, base := fun i => if i = E.n then off else E.base i, top := fun i => if i = E.n then tp else E.top i, n := E.n + 1, Aa := fun i => if i = E.n then 0 else E.Aa i,
          O := fun b' o => if b' < n then E.O b' o else if b' = b /\ off <= o /\ o < off + m then .obj E.n else .other }
variable {f : FuncId} {v : Value}
theorem B4l {r : DV × Meta} {sz : Nat} {ds : List DV} (hO : GU C R) (hc : C.clone f = true) (U1 : (execOp a.eval o).run C.P w = .ok (.enter f #[v]) w) (hd : J6 r.2 = true) (C1u : sz = C.lV f) (hl0 : ds.length <= lim) (hr : r.1 = .list sz ds) {p q : Nat} (hv : RR E w.heap p q r.1 r.2 v) (H : k ({ st with sg := st.sg ++ [C9.arr sz ds] }.put o.dst .undef (.arr st.sg.length sz 0 ds.length)) = some x) (Rl : K3 E st a w.heap) (T : Then E w k x K) : Gp C.P o a w K := by
 have hS : ∀ b o, w.heap.size <= b -> ¬ E.S b o := fun b o hb hs => by have h9 := Rl.fresh b o hb; rw [show E.O b o = Tag.shut from hs] at h9; cases h9
 have Xx := (hO.c f hc).2;rw [<- C1u] at Xx;refine rM U1 ((Xx E.S w v ds hl0 hS (by rw [<- hr]; exact hv.data hd)).mono ?_)
 rintro e w' ⟨a0, b, off, cap, he, ha0, A5Z, B2h, B2n, BF, dw, hblk, B2l⟩;subst he
 let E' := E.B9a w.heap.size b off (ds.length * sz) (off + cap * sz)
 have Pc : Pr (fun _ => False) E w.heap E' w'.heap := by
  refine ⟨BF, fun b' hb => by rw [hblk b' hb]; exact X8.refl _ _, fun b' o hb _ => ?_, z60q _, fun i hi _ => ?_, fun _ _ => rfl, aP rfl⟩
  ·show (if b' < w.heap.size then E.O b' o else _) = _
   rw [if_pos hb]
  ·have : i ≠ E.n := by omega
   exact ⟨if_neg this, if_neg this, if_neg this⟩
 have J3 := Pc.shut (by simp) Rl.fresh
 have n0 : st.sg.length = E.n := Rl.n;have R2 : K3 E' { st with sg := st.sg ++ [C9.arr sz ds] } a w'.heap := by
  refine ⟨Rl.size, Rl.Af, Rl.Ca, by simp [n0]; rfl, fun t v hv => (Rl.regs t v hv).mono Pc J3 (by simp) (by simp), fun s cs hs => (Rl.boxes s cs hs).mono Pc J3 (by simp) (by simp), fun i ob hi => ?_, fun b' o hb => ?_⟩
  ·by_cases oF : i < st.sg.length
   ·rw [z2q oF] at hi
    exact (Rl.U4 i ob hi).mono Pc J3 (by rw [<- n0]; exact oF) (by simp) (by simp)
   ·rw [z3q (z54q oF)] at hi
    have hi0 : i - st.sg.length = 0 := by
     have := (z0q.1 hi).1;simpa using this
    have hie : i = E.n := by omega
    rw [hi0] at hi;simp only [z7q, Option.some.injEq] at hi;subst hi hie;simp only [RO];intro hne;obtain ⟨hb, c, T0, h1, h2, h3, h4⟩ := B2l hne;have e1 : E'.obj E.n = b := if_pos rfl;have e2 : E'.base E.n = off := if_pos rfl;rw [e1, e2];refine ⟨c, T0, h1, h2, h3, fun o ho1 ho2 => ?_, fun j d hj => ?_⟩
    ·show (if b < w.heap.size then E.O b o else if b = b /\ off <= o /\ o < off + ds.length * sz then Tag.obj E.n else .other) = _
     rw [if_neg (by omega), if_pos ⟨rfl, ho1, ho2⟩]
    ·obtain ⟨vs, v1, v2, v3⟩ := h4 j d hj
     refine ⟨vs, v1, v2, v3.mono ⟨fun b' o hs => ?_, fun _ _ _ _ hv => hv⟩⟩
     exact J3.s b' o hs
  ·show (if b' < w.heap.size then E.O b' o else if b' = b /\ off <= o /\ o < off + ds.length * sz then Tag.obj E.n else .other) = _
   rw [if_neg (by omega)]
   split
   ·rename_i h
    by_cases hne : ds = []
    ·subst hne; simp at h; omega
    ·obtain ⟨-, c, T0, h1, -⟩ := B2l hne
     have := (z13q.1 h1).1;omega
   ·rfl
 refine ⟨_, rfl, T E' _ _ w' H (R2.put fun t _ => ?_) (Pc.weaken (by simp)) dw⟩
 simp only [RR, J8];refine ⟨⟨by rw [n0]; exact Nat.lt_succ_self _, by rw [n0]; exact if_pos rfl⟩, _, _, rfl, fun hpos => ?_, A5Z, B2h, B2n, fun _ => by rw [n0, z11q]; exact z51q ((congrArg (· + cap * sz) (if_pos rfl)).trans (if_pos rfl).symm)⟩
 rw [n0, ha0 (fun h => by rw [h] at hpos; exact Nat.lt_irrefl 0 hpos)]
 have e1 : E'.obj E.n = b := if_pos rfl;have e2 : E'.base E.n = off := if_pos rfl;rw [e1, e2];simp
variable {cs : List DV}
theorem B27 {d : DV} (h : B4S d = some cs) : d = .agg cs := by
 cases d <;> simp only [B4S, reduceCtorEq, Option.some.injEq] at h;rw [h]
theorem B7Q {g : FuncId} {r : DV × Meta} (hO : GU C R) (hc : C.jA f = some g) (U1 : (execOp a.eval o).run C.P w = .ok (.enter f #[v]) w) (hd : J6 r.2 = true) (hr : r.1 = .agg cs) (hl : cs.length = C.lV f) {p q : Nat} (hv : RR E w.heap p q r.1 r.2 v) (H : k ({ st with sg := st.sg ++ [C9.box (cs.map fun d => (d, .val))] }.put o.dst .undef (.fn g [(st.sg.length, 0)])) = some x) (Rl : K3 E st a w.heap) (T : Then E w k x K) : Gp C.P o a w K := by
 have h1 := hv.data hd;rw [hr] at h1;simp only [RV] at h1;obtain ⟨vs, rfl, h2⟩ := h1;obtain ⟨l1, h3⟩ := EO.1 h2;have l2 : vs.size = C.lV f := by rw [<- hl, l1]; simp
 refine rM U1 (((hO.m f g hc).2 w vs l2).mono ?_);rintro e w' ⟨rfl, T0, rfl⟩;have cok : FW E w.heap (cs.map fun d => (d, Meta.val)) vs.toList := by
  refine ⟨by simp [l1], fun j r' u hj hu => ?_⟩
  simp only [z21q, z17q] at hj;obtain ⟨d, Dq, rfl⟩ := hj;obtain ⟨a1, a2⟩ := h3 j d u Dq hu;exact ⟨⟨a1, Ir a1 a2, rfl, Ms a1 a2⟩, by simp⟩
 obtain ⟨R1, P1⟩ := Rl.newObj (T0 := T0) cok;refine ⟨_, rfl, T _ _ _ (w.alloc (.cells vs T0)) H (R1.put fun t0 _ => ?_) (P1.weaken (by simp)) ⟨rfl, rfl, rfl⟩⟩
 have hn := Rl.n;simp only [RR, J8, Env.newObj];refine ⟨?_, fun c hc => ?_⟩
 ·simp [hn]
 ·simp only [List.mem_singleton] at hc
  subst hc;simp [Env.In, hn]
theorem B4k {ts : List TypeId} {xs : List Operand} {rs extra : List (DV × Meta)} {ev : List Value} (hO : GU C R) (U1 : isGo C.P f = true -> (execOp a.eval o).run C.P w = .ok (.enter f (xs.map a.eval ++ ev).toArray) w) (hsr : IU C.P st ts xs = some rs) (hel : extra.length = ev.length) (GK : ∀ (i : Nat) r v, extra[i]? = some r -> ev[i]? = some v -> ∀ p q, RR E w.heap p q r.1 r.2 v /\ r.2 ≠ .own /\ r.2 ≠ .full) (H : Iu C R o f xs (rs ++ extra) st k = some x) (Rl : K3 E st a w.heap) (T : Then E w k x K) : Gp C.P o a w K := by
 obtain ⟨l1, l2⟩ := A7k Rl hsr;have all : ∀ (i : Nat) r v, (rs ++ extra)[i]? = some r -> (xs.map a.eval ++ ev)[i]? = some v -> ∃ p q, RR E w.heap p q r.1 r.2 v := by
  intro i r v hr hv
  by_cases hi : i < rs.length
  ·rw [z2q hi] at hr
   rw [z2q (by simpa [l1] using hi)] at hv
   obtain ⟨y, t, hy, rfl, hsy, hRy⟩ := l2 i r v hr hv;exact ⟨_, _, hRy⟩
  ·have hge : rs.length <= i := z54q hi
   rw [z3q hge] at hr;rw [z3q (by simpa [l1] using hge)] at hv
   simp only [z52q, <- l1] at hv;exact ⟨0, 0, (GK _ r v hr hv 0 0).1⟩
 have JI : (rs ++ extra).length = (xs.map a.eval ++ ev).length := by simp [l1, hel]
 unfold Iu at H
 split at H
 ·rename_i hc
  split at H
  ·rename_i r hrs
   ·obtain ⟨p, hp, H⟩ := C8 H
    obtain ⟨sz, ds⟩ := p;have NN : r.1 = .list sz ds := by
     cases hr : r.1 <;> rw [hr] at hp <;> simp only [qB, reduceCtorEq, Option.some.injEq, Prod.mk.injEq] at hp;obtain ⟨rfl, rfl⟩ := hp;rfl
    obtain ⟨hd, H9⟩ := F9 H;simp only [z19q, beq_iff_eq, decide_eq_true_eq] at hd;obtain ⟨⟨hd, hz⟩, hl0⟩ := hd;simp only [<- hz] at H9;rw [hrs] at JI;obtain ⟨v, hv⟩ := z28q.1 (JI.symm : (xs.map a.eval ++ ev).length = 1);obtain ⟨p, q, hR⟩ := all 0 r v (by rw [hrs]; rfl) (by rw [hv]; rfl)
    have := U1 (hO.c f hc).1;rw [hv] at this;exact B4l hO hc this hd hz hl0 NN hR H9 Rl @T
  ·simp at H
 ·split at H
  ·rename_i g hg
   split at H
   ·rename_i r hrs
    obtain ⟨cs, Fv, H⟩ := C8 H;obtain ⟨hd, H9⟩ := F9 H;simp only [z19q, beq_iff_eq] at hd;rw [hrs] at JI;obtain ⟨v, hv⟩ := z28q.1 (JI.symm : (xs.map a.eval ++ ev).length = 1);obtain ⟨p, q, hR⟩ := all 0 r v (by rw [hrs]; rfl) (by rw [hv]; rfl)
    have := U1 (hO.m f g hg).1;rw [hv] at this;exact B7Q hO hg this hd.1 (B27 Fv) hd.2 hR H9 Rl @T
   ·simp at H
  split at H
  ·have hp : isGo C.P f = true := by
    obtain ⟨_, H1⟩ := F9 H;obtain ⟨d, hd, _⟩ := C8 H1;exact (hO.p f _ d hd).1
   exact B6b hO (U1 hp) JI all H Rl @T
  ·rename_i s hs
   have hp : isGo C.P f = true := by
    obtain ⟨_, H1⟩ := F9 H;obtain ⟨d, hd, _⟩ := C8 H1;obtain ⟨_, _, h, _⟩ := hO.r f _ _ d hd;exact h
   exact B7R hO hs (U1 hp) hsr hel GK H Rl @T
variable {fl : Flags}
theorem B57 {c : Call} (hO : GU C R) (F3 : o.op = .call c) (H : FK C R fl o c st k = some x) (Rl : K3 E st a w.heap) (T : Then E w k x K) : Gp C.P o a w K := by
 unfold FK at H
 split at H
 ·rename_i b hb
  split at H
  ·rename_i h1 h2; exact B7N F3 hb h1 h2 H Rl @T
  ·rename_i h1 h2
   cases QP : J4 fl.DR o.dst
   ·cases Vk : J4 fl.opn o.dst
    ·exact B2H F3 hb h1 h2 Vk QP H Rl @T
    ·exact A6e F3 hb h1 h2 Vk QP H Rl @T
   ·exact B6d F3 hb h1 h2 QP H Rl @T
  ·rename_i h1 h2; exact B7O F3 hb h1 H Rl @T
  ·rename_i h1 h2; exact B7P F3 hb h1 H Rl @T
  ·simp at H
 ·rename_i fv hfv
  obtain ⟨r, h1, H1⟩ := C8 H;obtain ⟨rs, h2, H2⟩ := C8 H1
  split at H2
  ·rename_i f caps hr
   have hfn := Rl.src h1;rw [hr] at hfn;simp only [RR, J8] at hfn;refine B4k (ts := c.argTypes.toList) (ev := caps.map fun c => Value.pointer (some ⟨E.obj c.1, c.2, none⟩)) hO (fun hg => ?_) h2 (by simp) (fun i r' v AR hv p q => ?_) H2 Rl @T
   ·simp only [execOp, F3, resolve, hfv, hfn.1, Deferred.ofValue, Sem.run_bind, Sem.run_pure, Result.andThen_ok, invoke]
    rw [A0E hg]
    congr 2
    apply Array.ext';simp
   ·simp only [z21q, z17q] at AR hv
    obtain ⟨m, hm, rfl⟩ := AR;obtain ⟨m', hm', rfl⟩ := hv;rw [hm] at hm';cases hm';refine ⟨?_, by simp, by simp⟩
    simp only [RR, J8];exact ⟨hfn.2 m (z20q hm), trivial⟩
  ·simp at H2
 ·simp at H
theorem B9C (hO : GU C R) (H : I4 C R fl o st k = some x) (Rl : K3 E st a w.heap) (T : Then E w k x K) : Gp C.P o a w K := by
 unfold I4 at H
 split at H
 ·rename_i y F3; exact A9I (by simp [execOp, F3]) H Rl @T
 ·rename_i y F3; exact A9I (by simp [execOp, F3]) H Rl @T
 ·rename_i F3; exact B6a F3 H Rl @T
 ·rename_i F3; exact B4i F3 H Rl @T
 ·rename_i F3; exact B7L F3 H Rl @T
 ·rename_i F3; exact B4j F3 H Rl @T
 ·rename_i F3; exact A6f F3 H Rl @T
 ·rename_i F3; exact B59 F3 H Rl @T
 ·rename_i F3; exact B4o F3 H Rl @T
 ·rename_i F3; exact A9J F3 H Rl @T
 ·rename_i F3; exact B7K F3 H Rl @T
 ·rename_i F3; exact B9D F3 H Rl @T
 ·rename_i F3; exact A7D F3 H Rl @T
 ·rename_i F3; exact A7E F3 H Rl @T
 ·rename_i F3; exact B4m F3 H Rl @T
 ·rename_i F3; exact B4n F3 H Rl @T
 ·rename_i F3; exact A9H F3 H Rl @T
 ·rename_i F3; obtain ⟨q, _, H9⟩ := C8 H; exact B0H F3 H9 Rl @T
 ·rename_i F3; exact B2I F3 H Rl @T
 ·rename_i F3; exact A7F F3 H Rl @T
 ·rename_i F3; exact B0G F3 H Rl @T
 ·rename_i F3; exact B57 hO F3 H Rl @T
 ·simp at H
end
end Go.Su

/-
 THE DATA MACHINE, part 19: an operation sees what its footprint says, and writes what it says.
-/
namespace Go.Su
theorem K4 {α β : Type} (a : α) (g : α -> Option β) : ob (some a) g = g a := rfl
theorem V7 {β : Type} (y : Option β) : og true y = y := rfl
structure FV (f : Fp) (st st' : St) : Prop where
 lt : st'.tm.length = st.tm.length
 lm : st'.mt.length = st.mt.length
 lb : st'.bx.length = st.bx.length
 t : ∀ i ∈ f.rt, st'.tm[i]? = st.tm[i]? /\ st'.mt[i]? = st.mt[i]?
 b : ∀ i ∈ f.rb, st'.bx[i]? = st.bx[i]?
 s : f.rs = true -> st'.sg = st.sg
 n : ∀ t, f.nb = some t -> Jc t st'.mt = true
structure Two (f : Fp) (st st' s s' : St) : Prop where
 l : st'.tm.length = st.tm.length /\ st'.mt.length = st.mt.length /\ st'.bx.length = st.bx.length
 ls : s.tm.length = st.tm.length /\ s.mt.length = st.mt.length /\ s.bx.length = st.bx.length
 ls' : s'.tm.length = st.tm.length /\ s'.mt.length = st.mt.length /\ s'.bx.length = st.bx.length
 t : ∀ i : Nat, (i ∈ f.wt /\ s'.tm[i]? = s.tm[i]? /\ s'.mt[i]? = s.mt[i]?) \/ ((s'.tm[i]? = st'.tm[i]? /\ s'.mt[i]? = st'.mt[i]?) /\ s.tm[i]? = st.tm[i]? /\ s.mt[i]? = st.mt[i]?)
 b : ∀ i : Nat, (i ∈ f.wb /\ s'.bx[i]? = s.bx[i]?) \/ (s'.bx[i]? = st'.bx[i]? /\ s.bx[i]? = st.bx[i]?)
 s : (f.ws = true /\ s'.sg = s.sg) \/ (s'.sg = st'.sg /\ s.sg = st.sg)
variable {f : Fp} {st : St} {st' : St}
theorem Two.refl (A : FV f st st') : Two f st st' st st' :=
 ⟨⟨A.lt, A.lm, A.lb⟩, ⟨rfl, rfl, rfl⟩, ⟨A.lt, A.lm, A.lb⟩, fun _ => .inr ⟨⟨rfl, rfl⟩, rfl, rfl⟩, fun _ => .inr ⟨rfl, rfl⟩, .inr ⟨rfl, rfl⟩⟩
theorem Two.put {s s' : St} (A : Two f st st' s s') {dst : Option Nat} (hd : ∀ t ∈ dst.toList, t ∈ f.wt) (d : DV) (m : Meta) : Two f st st' (s.put dst d m) (s'.put dst d m) := by
 cases dst with
 | none => exact A
 | some t =>
   have ht : t ∈ f.wt := hd t (by simp)
   obtain ⟨l, ls, ls', a1, a2, a3⟩ := A;refine ⟨l, by simpa [St.put] using ls, by simpa [St.put] using ls', fun i => ?_, a2, a3⟩
   by_cases hi : t = i
   ·subst hi
    refine .inl ⟨ht, ?_, ?_⟩
    ·simp only [St.put, z31q]
     rcases z30q t st.tm.length with h | h
     ·rw [z1q (by omega), z1q (by omega)]; rfl
     ·rw [z9q (by omega), z9q (by omega)]
    ·simp only [St.put, z31q]
     rcases z30q t st.mt.length with h | h
     ·rw [z1q (by omega), z1q (by omega)]; rfl
     ·rw [z9q (by omega), z9q (by omega)]
   ·simp only [St.put, z5q hi]
    exact a1 i
variable {t : Nat}
theorem Two.B6U {s s' : St} (A : Two f st st' s s') (ht : t ∈ f.wt) (he : s'.tm[t]? = s.tm[t]?) (m : Meta) : Two f st st' { s with mt := s.mt.set t m } { s' with mt := s'.mt.set t m } := by
 obtain ⟨l, ls, ls', a1, a2, a3⟩ := A;refine ⟨l, by simpa using ls, by simpa using ls', fun i => ?_, a2, a3⟩
 by_cases hi : t = i
 ·subst hi
  refine .inl ⟨ht, he, ?_⟩;simp only [z31q];rcases z30q t st.mt.length with h | h
  ·rw [z1q (by omega), z1q (by omega)]; rfl
  ·rw [z9q (by omega), z9q (by omega)]
 ·simp only [z5q hi]
  exact a1 i
variable {i : Nat}
theorem Ju {α : Type} {l l' : List α} (h : l'[i]? = l[i]?) (d : α) : l'.getD i d = l.getD i d := by
 simp only [z8q, h]
variable {x : Operand}
theorem Two.release {s s' : St} (A : Two f st st' s s') (hx : ∀ t ∈ M3 x, t ∈ f.wt) (he : ∀ t ∈ M3 x, s'.tm[t]? = s.tm[t]? /\ s'.mt[t]? = s.mt[t]?) : Two f st st' (s.release x) (s'.release x) := by
 cases x with
 | tmp t =>
   have := A.B6U (hx t (by simp [M3])) (he t (by simp [M3])).1 (dm (s.mt.getD t .val))
   simp only [St.release];rw [Ju (he t (by simp [M3])).2]
   exact this
 | _ => exact A
variable {mt : List Meta}
theorem qc {u : Nat} (h : u ∈ EM mt x) : u ∈ M3 x := by
 cases x <;> simp only [EM] at h
 ·split at h
  ·cases h
  ·cases h
  ·exact h
 all_goals cases h
theorem oQ {mt' : List Meta} (h : ∀ u ∈ M3 x, mt'[u]? = mt[u]?) : EM mt' x = EM mt x := by
 cases x with
 | tmp t =>
   simp only [EM];rw [Ju (h t (by simp [M3]))]
 | _ => rfl
theorem A5A {m : Meta} (h : mt.getD t .val = m) (hd : dm m = m) : mt.set t (dm (mt.getD t .val)) = mt := by
 refine z41q fun j => ?_
 by_cases hj : t = j
 ·subst hj
  rw [z8q] at h;cases hm : mt[t]? with
  | none => rw [z9q (by simpa using hm)]
  | some m =>
    rw [hm] at h;simp only [z53q] at h;have hl : t < mt.length := by
     rcases z30q t mt.length with g | g
     ·exact g
     ·rw [z9q g] at hm; cases hm
    rw [z4q hl, z8q, hm, z53q, h, hd]
 ·rw [z5q hj]
theorem A9u : EM mt (.tmp t) = [t] \/ mt.set t (dm (mt.getD t .val)) = mt := by
 cases h : mt.getD t .val
 case arr i sz a n => exact .inr (by have := A5A h rfl; rw [h] at this; exact this)
 case M6 i sz a n => exact .inr (by have := A5A h rfl; rw [h] at this; exact this)
 all_goals (refine .inl ?_; simp only [EM, h])
theorem Two.A3S {s s' : St} (A : Two f st st' s s') (hx : ∀ t ∈ EM s.mt x, t ∈ f.wt) (he : ∀ t ∈ M3 x, s'.tm[t]? = s.tm[t]? /\ s'.mt[t]? = s.mt[t]?) : Two f st st' (s.release x) (s'.release x) := by
 cases x with
 | tmp t =>
   have em : s'.mt.getD t .val = s.mt.getD t .val := Ju (he t (by simp [M3])).2 _
   rcases A9u (mt := s.mt) (t := t) with h | h
   ·exact A.release (fun u hu => hx u (by rw [h]; simpa [M3] using hu)) he
   ·have h' : s'.mt.set t (dm (s'.mt.getD t .val)) = s'.mt := by
     refine z41q fun j => ?_
     by_cases hj : t = j
     ·subst hj
      have e := (he t (by simp [M3])).2
      have q : (s.mt.set t (dm (s.mt.getD t .val)))[t]? = s.mt[t]? := by rw [h]
      rw [em];rcases z30q t s'.mt.length with g | g
      ·rcases z30q t s.mt.length with g' | g'
       ·rw [z4q g, e, <- q, z4q g']
       ·rw [z9q g', z50q] at e; omega
      ·rw [z9q g, z9q (by simpa using g)]
     ·rw [z5q hj]
    have e1 : s.release (.tmp t) = s := by simp only [St.release, h]
    have e2 : s'.release (.tmp t) = s' := by simp only [St.release, h']
    rw [e1, e2];exact A
 | _ => exact A
theorem Two.A1m {s s' : St} (A : Two f st st' s s') (ht : t ∈ f.wb) (c : Option (List (DV × Meta))) : Two f st st' { s with bx := s.bx.set t c } { s' with bx := s'.bx.set t c } := by
 obtain ⟨l, ls, ls', a1, a2, a3⟩ := A;refine ⟨l, by simpa using ls, by simpa using ls', a1, fun i => ?_, a3⟩
 by_cases hi : t = i
 ·subst hi
  refine .inl ⟨ht, ?_⟩;simp only [z31q];rcases z30q t st.bx.length with h | h
  ·rw [z1q (by omega), z1q (by omega)]; rfl
  ·rw [z9q (by omega), z9q (by omega)]
 ·simp only [z5q hi]
  exact a2 i
theorem Two.FE {s s' : St} (A : Two f st st' s s') (hs : f.ws = true) (g : List C9) : Two f st st' { s with sg := g } { s' with sg := g } :=
 ⟨A.l, A.ls, A.ls', A.t, A.b, .inl ⟨hs, rfl⟩⟩
def K5 (a b : List Nat) : Prop := ∀ t ∈ a, t ∈ b
theorem FV.src (A : FV f st st') (P : Program) (t : TypeId) (h : K5 (M3 x) f.rt) : src P t st' x = src P t st x := by
 cases x with
 | tmp i =>
   obtain ⟨h1, h2⟩ := A.t i (h i (by simp [M3]))
   simp only [Su.src, St.get, Ju h1, Ju h2]
 | _ => rfl
theorem FV.IU {f : Fp} {st st' : St} (A : FV f st st') (P : Program) : ∀ {ts : List TypeId} {xs : List Operand}, K5 (tmpsOf xs) f.rt -> IU P st' ts xs = IU P st ts xs
 | t :: ts, x :: xs, h => by
   simp only [Su.IU];rw [A.src P t (fun i hi => h i (by simp [tmpsOf, hi])), FV.IU A P fun i hi => h i (by simp only [tmpsOf, z22q, z25q]; exact .inr hi)]
 | [], x :: xs, h => by
   simp only [Su.IU];rw [A.src P 0 (fun i hi => h i (by simp [tmpsOf, hi])), FV.IU A P fun i hi => h i (by simp only [tmpsOf, z22q, z25q]; exact .inr hi)]
 | [], [], _ => rfl
 | _ :: _, [], _ => rfl
theorem FV.opt (A : FV f st st') (P : Program) {x : Option Operand} (h : K5 (tmpsOf x.toList) f.rt) : YG P st' x = YG P st x := by
 cases x with
 | none => rfl
 | some x =>
   simp only [YG];rw [A.src P 0 fun i hi => h i (by simp [tmpsOf, hi])]
theorem FV.bx (A : FV f st st') (h : i ∈ f.rb) : st'.bx.getD i none = st.bx.getD i none := Ju (A.b i h) none
variable {y : Operand}
theorem Nh {r : List Nat} (h : K5 (tmpsOf [x, y]) r) : K5 (M3 x) r /\ K5 (M3 y) r :=
 ⟨fun i hi => h i (by simp [tmpsOf, hi]), fun i hi => h i (by simp [tmpsOf, hi])⟩
section
variable {X : Type} {C : AO} {R : Q8} {fl : Flags} {o : Oper} {st : St} {k : St -> Option X} {x : X} {f : Fp}
def Fr (C : AO) (R : Q8) (fl : Flags) (o : Oper) (st : St) (k : St -> Option X) (x : X) (f : Fp) : Prop :=
 ∃ s, k s = some x /\ (∀ t, f.nb = some t -> Jc t st.mt = true) /\ ∀ st', FV f st st' -> ∃ s', Two f st st' s s' /\ ∀ (Y : Type) (k' : St -> Option Y), I4 C R fl o st' k' = k' s'
theorem M0 {d : DV} {m : Meta} (hk : k (st.put o.dst d m) = some x) (hw : K5 o.dst.toList f.wt) (hn : f.nb = none) (h : ∀ st', FV f st st' -> ∀ (Y : Type) (k' : St -> Option Y), I4 C R fl o st' k' = k' (st'.put o.dst d m)) : Fr C R fl o st k x f :=
 ⟨_, hk, by rw [hn]; simp, fun st' A => ⟨_, (Two.refl A).put hw d m, fun Y k' => h st' A Y k'⟩⟩
theorem B1c (F3 : o.op = .move y \/ o.op = .assign y) (H : I4 C R fl o st k = some x) (hr : K5 (M3 y) f.rt) (hw : K5 o.dst.toList f.wt) (hs : J4 fl.P7 o.dst = true -> K5 (M3 y) f.wt) (hn : f.nb = none) :
 Fr C R fl o st k x f := by
 have GK : ∀ (Y : Type) (st : St) (k : St -> Option Y), I4 C R fl o st k = ob (src C.P o.type st y) fun r => if J4 fl.P7 o.dst then k ((st.release y).put o.dst r.1 r.2) else k (st.put o.dst r.1 (dm r.2)) := by
  intro Y st k;rcases F3 with h | h <;> simp only [I4, h]
 rw [GK] at H;obtain ⟨r, h1, H⟩ := C8 H
 by_cases S9 : J4 fl.P7 o.dst = true
 ·rw [if_pos S9] at H
  refine ⟨_, H, by rw [hn]; simp, fun st' A => ⟨_, ((Two.refl A).release (hs S9) fun t ht => A.t t (hr t ht)).put hw r.1 r.2, fun Y k' => ?_⟩⟩
  rw [GK, A.src _ _ hr, h1];simp only [ob, if_pos S9]
 ·rw [if_neg S9] at H
  refine M0 H hw hn fun st' A Y k' => ?_
  rw [GK, A.src _ _ hr, h1];simp only [ob, if_neg S9]
theorem B7i {c z : Operand} (F3 : o.op = .pick c y z) (H : I4 C R fl o st k = some x) (hr : K5 (tmpsOf [c, y, z]) f.rt) (hw : K5 o.dst.toList f.wt) (hn : f.nb = none) : Fr C R fl o st k x f := by
 simp only [I4, F3] at H;obtain ⟨rc, h1, H⟩ := C8 H;obtain ⟨ra, h2, H⟩ := C8 H;obtain ⟨rb, h3, H⟩ := C8 H;obtain ⟨h4, H⟩ := F9 H;obtain ⟨d, h5, H⟩ := C8 H;have r1 : K5 (M3 c) f.rt := fun i hi => hr i (by simp [tmpsOf, hi])
 have r2 : K5 (M3 y) f.rt := fun i hi => hr i (by simp [tmpsOf, hi])
 have r3 : K5 (M3 z) f.rt := fun i hi => hr i (by simp [tmpsOf, hi])
 refine M0 H hw hn fun st' A Y k' => ?_
 simp only [I4, F3, A.src _ _ r1, A.src _ _ r2, A.src _ _ r3, h1, h2, h3, ob, h4, og, h5]
variable {t : TypeId}
theorem C0b {op : UnOp} (F3 : o.op = .unOp op t y) (H : I4 C R fl o st k = some x) (hr : K5 (M3 y) f.rt) (hw : K5 o.dst.toList f.wt) (hn : f.nb = none) : Fr C R fl o st k x f := by
 simp only [I4, F3] at H;obtain ⟨r, h1, H⟩ := C8 H;obtain ⟨h4, H⟩ := F9 H;obtain ⟨d, h5, H⟩ := C8 H;refine M0 H hw hn fun st' A Y k' => ?_
 simp only [I4, F3, A.src _ _ hr, h1, ob, h4, og, h5]
theorem A8O (F3 : o.op = .fieldAddr t y i) (H : I4 C R fl o st k = some x) (hr : K5 (M3 y) f.rt) (hw : K5 o.dst.toList f.wt) (hn : f.nb = none) : Fr C R fl o st k x f := by
 simp only [I4, F3, QC] at H;obtain ⟨r, h1, H⟩ := C8 H;obtain ⟨fd, h2, H⟩ := C8 H;obtain ⟨z, h3, H⟩ := C8 H
 by_cases h0 : z.1 = 0
 ·rw [if_pos h0] at H; simp at H
 ·rw [if_neg h0] at H
  split at H
  all_goals first
   | (rename_i hm
      refine M0 H hw hn fun st' A Y k' => ?_
      simp only [I4, F3, QC, A.src _ _ hr, h1, h2, h3, ob, if_neg h0, hm])
   | simp at H
theorem A8P {i : Operand} (F3 : o.op = .indexAddr t y i) (H : I4 C R fl o st k = some x) (hr : K5 (tmpsOf [y, i]) f.rt) (hw : K5 o.dst.toList f.wt) (hn : f.nb = none) : Fr C R fl o st k x f := by
 obtain ⟨q1, q2⟩ := Nh hr;simp only [I4, F3, E_] at H;obtain ⟨r, h1, H⟩ := C8 H;obtain ⟨j, h2, H⟩ := C8 H;cases h3 : IL C.P t with
 | none =>
   rw [h3] at H;simp only [qG] at H;obtain ⟨q, h4, H⟩ := C8 H;obtain ⟨z, h5, H⟩ := C8 H
   split at H
   ·rename_i hm
    obtain ⟨h6, H⟩ := F9 H;obtain ⟨n, h7, H⟩ := C8 H;refine M0 H hw hn fun st' A Y k' => ?_
    simp only [I4, F3, E_, A.src _ _ q1, A.src _ _ q2, h1, h2, h3, qG, h4, h5, ob, hm, h6, og, h7]
   ·cases H
 | some e =>
 rw [h3] at H;simp only at H;obtain ⟨z, h4, H⟩ := C8 H
 split at H
 ·rename_i hm
  obtain ⟨h5, H⟩ := F9 H;obtain ⟨n, h6, H⟩ := C8 H;refine M0 H hw hn fun st' A Y k' => ?_
  simp only [I4, F3, E_, A.src _ _ q1, A.src _ _ q2, h1, h2, h3, h4, ob, hm, h5, og, h6]
 ·rename_i hm
  obtain ⟨h5, H⟩ := F9 H;obtain ⟨n, h6, H⟩ := C8 H;refine M0 H hw hn fun st' A Y k' => ?_
  simp only [I4, F3, E_, A.src _ _ q1, A.src _ _ q2, h1, h2, h3, h4, ob, hm, h5, og, h6]
 ·rename_i m hm
  obtain ⟨h5, H⟩ := F9 H;obtain ⟨d, h6, H⟩ := C8 H
  by_cases hz : z.2 = true
  ·rw [if_pos hz] at H
   refine M0 H hw hn fun st' A Y k' => ?_
   simp only [I4, F3, E_, A.src _ _ q1, A.src _ _ q2, h1, h2, h3, h4, ob, h5, og, h6, if_pos hz]
  ·rw [if_neg hz] at H
   obtain ⟨h8, H⟩ := F9 H;refine M0 H hw hn fun st' A Y k' => ?_
   simp only [I4, F3, E_, A.src _ _ q1, A.src _ _ q2, h1, h2, h3, h4, ob, h5, og, h6, if_neg hz, h8]
theorem B5o {i : Operand} (F3 : o.op = .index t y i) (H : I4 C R fl o st k = some x) (hr : K5 (tmpsOf [y, i]) f.rt) (hw : K5 o.dst.toList f.wt) (hn : f.nb = none) : Fr C R fl o st k x f := by
 obtain ⟨q1, q2⟩ := Nh hr;simp only [I4, F3] at H;obtain ⟨r, h1, H⟩ := C8 H;obtain ⟨j, h2, H⟩ := C8 H
 split at H
 ·rename_i hu
  obtain ⟨h5, H⟩ := F9 H;obtain ⟨d, h6, H⟩ := C8 H;refine M0 H hw hn fun st' A Y k' => ?_
  simp only [I4, F3, A.src _ _ q1, A.src _ _ q2, h1, h2, ob, hu, h5, og, h6]
 ·simp at H
theorem B5p {lo hi mx : Option Operand} (F3 : o.op = .slice t y lo hi mx) (H : I4 C R fl o st k = some x) (hr : K5 (tmpsOf (y :: (lo.toList ++ hi.toList ++ mx.toList))) f.rt) (hw : K5 o.dst.toList f.wt) (hn : f.nb = none) :
 Fr C R fl o st k x f := by
 have q1 : K5 (M3 y) f.rt := fun i h => hr i (by simp only [tmpsOf, z22q, z25q]; exact .inl h)
 have q2 : K5 (tmpsOf lo.toList) f.rt := fun i h => hr i (by simp only [tmpsOf, z22q, z49q, z25q] at h ⊢; exact .inr (.inl (.inl h)))
 have q3 : K5 (tmpsOf hi.toList) f.rt := fun i h => hr i (by simp only [tmpsOf, z22q, z49q, z25q] at h ⊢; exact .inr (.inl (.inr h)))
 have q4 : K5 (tmpsOf mx.toList) f.rt := fun i h => hr i (by simp only [tmpsOf, z22q, z49q, z25q] at h ⊢; exact .inr (.inr h))
 simp only [I4, F3, OU] at H;obtain ⟨r, h1, H⟩ := C8 H;obtain ⟨l, h2, H⟩ := C8 H;obtain ⟨h, h3, H⟩ := C8 H;obtain ⟨m, h4, H⟩ := C8 H
 split at H
 ·rename_i q hq
  obtain ⟨e, g1, H⟩ := C8 H;obtain ⟨z, g2, H⟩ := C8 H;obtain ⟨g3, H⟩ := F9 H;obtain ⟨hh, g4, H⟩ := C8 H;obtain ⟨ll, g5, H⟩ := C8 H;obtain ⟨g6, H⟩ := K9 H;refine M0 H hw hn fun st' A Y k' => ?_
  simp only [I4, F3, OU, A.src _ _ q1, A.opt _ q2, A.opt _ q3, A.opt _ q4, h1, h2, h3, h4, K4, hq, g1, g2, g3, V7, g4, g5, if_pos g6]
 rename_i hq
 split at H
 ·rename_i q il
  obtain ⟨e, g1, H⟩ := C8 H;obtain ⟨z, g2, H⟩ := C8 H;obtain ⟨g3, H⟩ := F9 H;obtain ⟨hh, g4, H⟩ := C8 H;obtain ⟨g6, H⟩ := K9 H;refine M0 H hw hn fun st' A Y k' => ?_
  simp only [I4, F3, OU, A.src _ _ q1, A.opt _ q2, A.opt _ q3, A.opt _ q4, h1, h2, h3, h4, K4, hq, il, g1, g2, g3, V7, g4, if_pos g6]
 rename_i il;obtain ⟨h5, H⟩ := F9 H
 split at H
 ·rename_i e hu
  obtain ⟨z, h6, H⟩ := C8 H
  split at H
  ·obtain ⟨d, h7, H⟩ := C8 H
   refine M0 H hw hn fun st' A Y k' => ?_
   simp only [I4, F3, OU, A.src _ _ q1, A.opt _ q2, A.opt _ q3, A.opt _ q4, h1, h2, h3, h4, K4, hq, il, h5, V7, hu, h7, h6]
  ·obtain ⟨d, h7, H⟩ := C8 H
   refine M0 H hw hn fun st' A Y k' => ?_
   simp only [I4, F3, OU, A.src _ _ q1, A.opt _ q2, A.opt _ q3, A.opt _ q4, h1, h2, h3, h4, K4, hq, il, h5, V7, hu, h7, h6]
  ·simp at H
 ·rename_i hu
  split at H
  ·obtain ⟨d, h7, H⟩ := C8 H
   refine M0 H hw hn fun st' A Y k' => ?_
   simp only [I4, F3, OU, A.src _ _ q1, A.opt _ q2, A.opt _ q3, A.opt _ q4, h1, h2, h3, h4, K4, hq, il, h5, V7, hu, h7]
  ·simp at H
 ·simp at H
theorem B0w (F3 : o.op = .nilCheck y) (H : I4 C R fl o st k = some x) (hr : K5 (M3 y) f.rt) (hw : K5 o.dst.toList f.wt) (hn : f.nb = none) : Fr C R fl o st k x f := by
 simp only [I4, F3] at H;obtain ⟨r, h1, H⟩ := C8 H
 split at H
 all_goals first
  | (rename_i hm
     refine M0 H hw hn fun st' A Y k' => ?_
     simp only [I4, F3, A.src _ _ hr, h1, ob, hm]; done)
  | (simp at H; done)
  | skip
 rename_i hm;obtain ⟨q, h2, H⟩ := C8 H;obtain ⟨d, h3, H⟩ := C8 H;refine M0 H hw hn fun st' A Y k' => ?_
 simp only [I4, F3, A.src _ _ hr, h1, ob, hm, h2, h3]
theorem B0v {g : FuncId} {first caps : Array Operand} (F3 : o.op = .makeFunc (.func g) first caps) (H : I4 C R fl o st k = some x) (hr : K5 (tmpsOf caps.toList) f.rt) (hw : K5 o.dst.toList f.wt) (hn : f.nb = none) : Fr C R fl o st k x f := by
 simp only [I4, F3] at H;obtain ⟨h0, H⟩ := K9 H;obtain ⟨rs, h1, H⟩ := C8 H;obtain ⟨ms, h2, H⟩ := C8 H;refine M0 H hw hn fun st' A Y k' => ?_
 simp only [I4, F3, A.IU _ hr, h1, ob, h2, if_pos h0]
theorem B8G {op : BinOp} {z : Operand} {yt : TypeId} (F3 : o.op = .binOp op t y z yt) (H : I4 C R fl o st k = some x) (hr : K5 (tmpsOf [y, z]) f.rt) (hw : K5 o.dst.toList f.wt) (hn : f.nb = none) : Fr C R fl o st k x f := by
 obtain ⟨q1, q2⟩ := Nh hr;simp only [I4, F3, Zo] at H;obtain ⟨r, h1, H⟩ := C8 H;obtain ⟨s, h2, H⟩ := C8 H
 split at H
 ·rename_i hb
  obtain ⟨h3, H⟩ := F9 H;obtain ⟨d, h4, H⟩ := C8 H;refine M0 H hw hn fun st' A Y k' => ?_
  simp only [I4, F3, Zo, A.src _ _ q1, A.src _ _ q2, h1, h2, ob, hb, h3, og, h4]
 ·rename_i hb
  obtain ⟨h3, H⟩ := F9 H;obtain ⟨d, h4, H⟩ := C8 H;obtain ⟨e, h5, H⟩ := C8 H;refine M0 H hw hn fun st' A Y k' => ?_
  simp only [I4, F3, Zo, A.src _ _ q1, A.src _ _ q2, h1, h2, ob, hb, h3, og, h4, h5]
 ·rename_i hb
  obtain ⟨h3, H⟩ := F9 H;obtain ⟨d, h4, H⟩ := C8 H;obtain ⟨e, h5, H⟩ := C8 H;refine M0 H hw hn fun st' A Y k' => ?_
  simp only [I4, F3, Zo, A.src _ _ q1, A.src _ _ q2, h1, h2, ob, hb, h3, og, h4, h5]
 ·rename_i hb
  obtain ⟨d, h4, H⟩ := C8 H;obtain ⟨e, h5, H⟩ := C8 H;refine M0 H hw hn fun st' A Y k' => ?_
  simp only [I4, F3, Zo, A.src _ _ q1, A.src _ _ q2, h1, h2, ob, hb, h4, h5]
 ·rename_i hb
  obtain ⟨d, h4, H⟩ := C8 H;obtain ⟨e, h5, H⟩ := C8 H;refine M0 H hw hn fun st' A Y k' => ?_
  simp only [I4, F3, Zo, A.src _ _ q1, A.src _ _ q2, h1, h2, ob, hb, h4, h5]
 ·simp at H
end
end Go.Su

/-
 THE DATA MACHINE, part 20: footprints, the operations that look at memory.
-/
namespace Go.Su
variable {X : Type} {x : X}
theorem Ka {r : DV × Meta} {K : DV × Meta -> Option X} (H : cellOf r K = some x) : ∃ c, K c = some x /\ ∀ (Y : Type) (K' : DV × Meta -> Option Y), cellOf r K' = K' c := by
 unfold cellOf at H
 split at H
 ·rename_i hm
  obtain ⟨h, H⟩ := F9 H;exact ⟨_, H, fun Y K' => by simp only [cellOf, hm, h, V7]⟩
 ·rename_i hm; exact ⟨_, H, fun Y K' => by simp only [cellOf, hm]⟩
 ·rename_i hm; exact ⟨_, H, fun Y K' => by simp only [cellOf, hm]⟩
 ·rename_i hm; exact ⟨_, H, fun Y K' => by simp only [cellOf, hm]⟩
 ·rename_i h1 h2 h3 h4
  obtain ⟨h, H⟩ := F9 H;refine ⟨_, H, fun Y K' => ?_⟩
  unfold cellOf
  split <;> simp_all [V7]
variable {P : Program} {t : TypeId}
theorem Lc {r : DV × Meta} {K : List (DV × Meta) -> Option X} (H : explode P t r K = some x) :
 ∃ cs, K cs = some x /\ ∀ (Y : Type) (K' : List (DV × Meta) -> Option Y), explode P t r K' = K' cs := by
 unfold explode at H;obtain ⟨z, hz, H⟩ := C8 H
 split at H
 ·rename_i h2
  obtain ⟨h3, H⟩ := F9 H;obtain ⟨cs, h4, H⟩ := C8 H;exact ⟨_, H, fun Y K' => by simp only [explode, hz, K4, if_pos h2, h3, V7, h4]⟩
 ·rename_i h2
  obtain ⟨c, h3, h4⟩ := Ka H;exact ⟨_, h3, fun Y K' => by simp only [explode, hz, K4, if_neg h2, h4]⟩
theorem yo {r : DV × Meta} {K : List (DV × Meta) -> Option X} (H : Hw P t r K = some x) :
 ∃ cs, K cs = some x /\ ∀ (Y : Type) (K' : List (DV × Meta) -> Option Y), Hw P t r K' = K' cs := by
 unfold Hw at H;obtain ⟨z, hz, H⟩ := C8 H
 split at H
 ·rename_i h2
  obtain ⟨h3, H⟩ := F9 H;obtain ⟨cs, h4, H⟩ := C8 H;exact ⟨cs, H, fun Y K' => by simp only [Hw, hz, K4, if_pos h2, h3, V7, h4]⟩
 ·rename_i h2
  obtain ⟨c, h3, h4⟩ := Ka H;exact ⟨_, h3, fun Y K' => by simp only [Hw, hz, K4, if_neg h2, h4]⟩
theorem XP {z : Nat × Bool} {r : DV × Meta} {K : DV -> Option X} (H : Lb z r K = some x) : K r.1 = some x /\ ∀ (Y : Type) (K' : DV -> Option Y), Lb z r K' = K' r.1 := by
 unfold Lb at H;obtain ⟨h1, H⟩ := F9 H
 split at H
 ·rename_i h2
  obtain ⟨h3, H⟩ := F9 H;exact ⟨H, fun Y K' => by simp only [Lb, h1, V7, if_pos h2, h3]⟩
 ·rename_i h2
  obtain ⟨h3, H⟩ := F9 H;exact ⟨H, fun Y K' => by simp only [Lb, h1, V7, if_neg h2, h3]⟩
theorem lN {X : Type} {P : Program} {t : TypeId} {st : St} {x : X} {rt : List Nat} : ∀ {ps : List (Nat × Operand)} {cs : List (DV × Meta)} {k : List (DV × Meta) -> Option X}, GV P t st ps cs k = some x -> K5 (tmpsOf (ps.map (·.2))) rt ->
 ∃ cs', k cs' = some x /\ ∀ (f : Fp) st', FV f st st' -> K5 rt f.rt -> ∀ (Y : Type) (k' : List (DV × Meta) -> Option Y), GV P t st' ps cs k' = k' cs'
 | [], cs, k, H, _ => ⟨cs, H, fun _ _ _ _ _ _ => rfl⟩
 | (i, y) :: ps, cs, k, H, hs => by
   simp only [GV] at H;obtain ⟨fd, h1, H⟩ := C8 H;obtain ⟨r, h2, H⟩ := C8 H;obtain ⟨xs, H, h3⟩ := Lc H;obtain ⟨h4, H⟩ := K9 H;have s1 : K5 (M3 y) rt := fun i h => hs i (by simp only [z40q, tmpsOf, z22q, z25q]; exact .inl h)
   have s2 : K5 (tmpsOf (ps.map (·.2))) rt := fun i h => hs i (by simp only [z40q, tmpsOf, z22q, z25q] at h ⊢; exact .inr h)
   obtain ⟨cs', h5, h6⟩ := lN H s2;refine ⟨cs', h5, fun f st' A hr Y k' => ?_⟩
   simp only [GV, h1, K4, A.src P fd.1 (fun i h => hr i (s1 i h)), h2, h3, if_pos h4]
   exact h6 f st' A hr Y k'
variable {x : Operand}
theorem FV.kW {f : Fp} {st st' : St} (A : FV f st st') (P : Program) (t : TypeId) (h : K5 (M3 x) f.rt) : kW P t st' x = kW P t st x := by
 have e := A.src P t h;unfold Su.kW
 split
 ·rfl
 ·exact e
theorem oh {X : Type} {P : Program} {e : TypeId} {z : Nat × Bool} {st : St} {x : X} {rt : List Nat} : ∀ {ps : List (Nat × Operand)} {ds : List DV} {k : List DV -> Option X}, Gm P e z st ps ds k = some x -> K5 (tmpsOf (ps.map (·.2))) rt ->
 ∃ ds', k ds' = some x /\ ∀ (f : Fp) st', FV f st st' -> K5 rt f.rt -> ∀ (Y : Type) (k' : List DV -> Option Y), Gm P e z st' ps ds k' = k' ds'
 | [], ds, k, H, _ => ⟨ds, H, fun _ _ _ _ _ _ => rfl⟩
 | (i, y) :: ps, ds, k, H, hs => by
   simp only [Gm] at H;obtain ⟨r, h2, H⟩ := C8 H;obtain ⟨H, h3⟩ := XP H;obtain ⟨h4, H⟩ := K9 H;have s1 : K5 (M3 y) rt := fun i h => hs i (by simp only [z40q, tmpsOf, z22q, z25q]; exact .inl h)
   have s2 : K5 (tmpsOf (ps.map (·.2))) rt := fun i h => hs i (by simp only [z40q, tmpsOf, z22q, z25q] at h ⊢; exact .inr h)
   obtain ⟨ds', h5, h6⟩ := oh H s2;refine ⟨ds', h5, fun f st' A hr Y k' => ?_⟩
   simp only [Gm, K4, A.kW P e (fun i h => hr i (s1 i h)), h2, h3, if_pos h4]
   exact h6 f st' A hr Y k'
section
variable {X : Type} {C : AO} {R : Q8} {fl : Flags} {o : Oper} {st : St} {k : St -> Option X} {x : X} {f : Fp} {ps : Array (Nat × Operand)}
theorem B5n (F3 : o.op = .build t ps) (H : I4 C R fl o st k = some x) (hr : K5 (tmpsOf (ps.toList.map (·.2))) f.rt) (hw : K5 o.dst.toList f.wt) (hn : f.nb = none) : Fr C R fl o st k x f := by
 simp only [I4, F3] at H;obtain ⟨zs, h1, H⟩ := C8 H;obtain ⟨pl, h2, H⟩ := C8 H;obtain ⟨cs, H, h3⟩ := lN H hr;refine M0 H hw hn fun st' A Y k' => ?_
 simp only [I4, F3, h1, h2, K4];exact h3 f st' A (fun _ h => h) Y _
theorem A7z {n : Nat} (F3 : o.op = .buildSlice t n ps) (H : I4 C R fl o st k = some x) (hr : K5 (tmpsOf (ps.toList.map (·.2))) f.rt) (hw : K5 o.dst.toList f.wt) (hn : f.nb = none) (hv : J4 fl.DR o.dst = true -> f.rs = true /\ f.ws = true) : Fr C R fl o st k x f := by
 simp only [I4, F3] at H;obtain ⟨e, h1, H⟩ := C8 H;obtain ⟨z, h2, H⟩ := C8 H;obtain ⟨zs, h3, H⟩ := C8 H;obtain ⟨ze, h4, H⟩ := C8 H;obtain ⟨h5, H⟩ := K9 H;obtain ⟨ds, H, h6⟩ := oh H hr
 by_cases hq : J4 fl.DR o.dst = true
 ·rw [if_pos hq] at H
  obtain ⟨hrs, hws⟩ := hv hq;refine ⟨_, H, by rw [hn]; simp, fun st' A => ⟨_, ((Two.refl A).FE hws _).put hw _ _, fun Y k' => ?_⟩⟩
  simp only [I4, F3, h1, h2, h3, h4, K4, if_pos h5];rw [h6 f st' A (fun _ h => h) Y _, if_pos hq, A.s hrs]
 ·rw [if_neg hq] at H
  refine M0 H hw hn fun st' A Y k' => ?_
  simp only [I4, F3, h1, h2, h3, h4, K4, if_pos h5];rw [h6 f st' A (fun _ h => h) Y _, if_neg hq]
theorem A61 {cs : List (DV × Meta)} {sh : Bool} (hk : k (st.Am sh o.dst cs) = some x) (hb : OM sh o.dst st = true) (hw : K5 o.dst.toList f.wt) (h1 : sh = true -> f.nb = none /\ f.rs = true /\ f.ws = true) (h2 : sh = false -> f.nb = o.dst /\ K5 o.dst.toList f.wb) (h : ∀ st', FV f st st' -> ∀ (Y : Type) (k' : St -> Option Y), I4 C R fl o st' k' = og (OM sh o.dst st') (k' (st'.Am sh o.dst cs))) : Fr C R fl o st k x f := by
 cases hd : o.dst with
 | none =>
   rw [hd] at hk;refine ⟨_, hk, ?_, fun st' A => ⟨_, Two.refl A, fun Y k' => by rw [h st' A Y k', hd]; rfl⟩⟩
   cases sh
   ·rw [(h2 rfl).1, hd]; simp
   ·rw [(h1 rfl).1]; simp
 | some t =>
   rw [hd] at hk hb;have hw' : ∀ u ∈ (some t : Option Nat).toList, u ∈ f.wt := by rw [<- hd]; exact hw
   cases sh
   ·obtain ⟨q1, q2⟩ := h2 rfl
    have hnl : Jc t st.mt = true := by simpa [OM] using hb
    have cl : ∀ mt, Jc t mt = true -> mt.map (JE t) = mt := by
     intro mt hh;simp only [Jc, z23q] at hh
     conv => rhs; rw [<- List.map_id mt]
     refine z61q fun m hm => ?_
     have := hh m hm;unfold JE
     split
     ·rename_i s' o'
      simp only [bne_iff_ne, ne_eq] at this;rw [if_neg this]; rfl
     ·rfl
    refine ⟨_, hk, fun u hu => ?_, fun st' A => ⟨st'.Am false (some t) cs, ?_, fun Y k' => ?_⟩⟩
    ·rw [q1, hd] at hu; cases hu; exact hnl
    ·have A3E := A.n t (by rw [q1, hd])
     simp only [St.Am, z14q, if_false];rw [cl _ hnl, cl _ A3E];exact ((Two.refl A).A1m (q2 t (by rw [hd]; simp)) (some cs)).put hw' _ _
    ·rw [h st' A Y k', hd]
     have A3E := A.n t (by rw [q1, hd])
     simp only [OM, A3E, Bool.or_true, V7]
   ·obtain ⟨q1, q2, q3⟩ := h1 rfl
    refine ⟨_, hk, by rw [q1]; simp, fun st' A => ⟨st'.Am true (some t) cs, ?_, fun Y k' => ?_⟩⟩
    ·simp only [St.Am, if_true]
     rw [A.s q2];exact ((Two.refl A).FE q3 _).put hw' _ _
    ·rw [h st' A Y k', hd]
     simp only [OM, Bool.true_or, V7]
theorem A8N (F3 : o.op = .alloc t) (H : I4 C R fl o st k = some x) (hw : K5 o.dst.toList f.wt) (h1 : J4 fl.shared o.dst = true -> f.nb = none /\ f.rs = true /\ f.ws = true) (h2 : J4 fl.shared o.dst = false -> f.nb = o.dst /\ K5 o.dst.toList f.wb) : Fr C R fl o st k x f := by
 simp only [I4, F3] at H;obtain ⟨cs, h3, H⟩ := C8 H;obtain ⟨h4, H⟩ := F9 H;exact A61 H h4 hw h1 h2 fun st' A Y k' => by simp only [I4, F3, h3, K4]
variable {t : Nat}
theorem B5H {m : Meta} (h : (match m with | .loc s _ => s != t | _ => true) = true) : (match dm m with | .loc s _ => s != t | _ => true) = true := by
 cases m <;> first | exact h | rfl
variable {y : Operand}
theorem wG {st : St} (h : Jc t st.mt = true) : Jc t (st.release y).mt = true := by
 cases y with
 | tmp u =>
   simp only [St.release, Jc, z23q] at h ⊢;intro m hm;rcases List.mem_or_eq_of_mem_set hm with h1 | rfl
   ·exact h m h1
   ·rcases z30q u st.mt.length with hu | hu
    ·refine B5H ?_
     rw [z8q, z1q hu];exact h _ (List.getElem_mem hu)
    ·rw [z8q, z9q hu]; rfl
 | _ => exact h
theorem A15 {mt : List Meta} (hh : Jc t mt = true) : mt.map (JE t) = mt := by
 simp only [Jc, z23q] at hh
 conv => rhs; rw [<- List.map_id mt]
 refine z61q fun m hm => ?_
 have := hh m hm;unfold JE
 split
 ·rename_i s' o'
  simp only [bne_iff_ne, ne_eq] at this;rw [if_neg this]; rfl
 ·rfl
variable {t : TypeId}
theorem A5g (F3 : o.op = .box t y) (H : I4 C R fl o st k = some x) (hr : K5 (M3 y) f.rt) (hw : K5 o.dst.toList f.wt) (h0 : J4 fl.Wp o.dst = true -> f.nb = none) (hs : J4 fl.Wp o.dst = false -> J4 fl.P7 o.dst = true -> K5 (M3 y) f.wt /\ f.nb = o.dst /\ K5 o.dst.toList f.wb) (h1 : J4 fl.Wp o.dst = false -> J4 fl.P7 o.dst = false -> J4 fl.shared o.dst = true -> f.nb = none /\ f.rs = true /\ f.ws = true) (h2 : J4 fl.Wp o.dst = false -> J4 fl.P7 o.dst = false -> J4 fl.shared o.dst = false -> f.nb = o.dst /\ K5 o.dst.toList f.wb) : Fr C R fl o st k x f := by
 simp only [I4, F3] at H;obtain ⟨r, h3, H⟩ := C8 H
 by_cases Iy : J4 fl.Wp o.dst = true
 ·rw [if_pos Iy] at H
  obtain ⟨z, h4, H⟩ := C8 H;obtain ⟨h5, H⟩ := F9 H;exact M0 H hw (h0 Iy) fun st' A Y k' => by simp only [I4, F3, A.src _ _ hr, h3, K4, if_pos Iy, h4, h5, V7]
 rw [if_neg Iy] at H;have B5w : J4 fl.Wp o.dst = false := by simpa using Iy
 by_cases S9 : J4 fl.P7 o.dst = true
 ·rw [if_pos S9] at H
  obtain ⟨q1, q2, q3⟩ := hs B5w S9;obtain ⟨cs, H, h4⟩ := yo H;obtain ⟨h5, H⟩ := F9 H;cases hd : o.dst with
  | none => rw [hd] at S9; simp [J4] at S9
  | some t0 =>
    rw [hd] at H h5 q2;have hnl : Jc t0 st.mt = true := by simpa [OM] using h5
    have hw' : ∀ u ∈ (some t0 : Option Nat).toList, u ∈ f.wt := by rw [<- hd]; exact hw
    refine ⟨_, H, fun u hu => ?_, fun st' A => ⟨(st'.release y).Am false (some t0) cs, ?_, fun Y k' => ?_⟩⟩
    ·rw [q2] at hu; cases hu; exact hnl
    ·have A3E := A.n t0 q2
     simp only [St.Am, z14q, if_false];rw [A15 (wG hnl), A15 (wG A3E)];exact (((Two.refl A).release q1 fun i hi => A.t i (hr i hi)).A1m (q3 t0 (by rw [hd]; simp)) (some cs)).put hw' _ _
    ·have A3E := A.n t0 q2
     rw [hd] at Iy S9;simp only [I4, F3, A.src _ _ hr, h3, K4, hd, if_neg Iy, if_pos S9, h4, OM, A3E, Bool.or_true, V7]
 rw [if_neg S9] at H;have B8Z : J4 fl.P7 o.dst = false := by simpa using S9
 obtain ⟨cs, H, h4⟩ := Lc H;obtain ⟨h5, H⟩ := F9 H;exact A61 H h5 hw (h1 B5w B8Z) (h2 B5w B8Z) fun st' A Y k' => by simp only [I4, F3, A.src _ _ hr, h3, K4, if_neg Iy, if_neg S9, h4]
theorem A96 (P P' : Program) {x : Operand} {r : DV × Meta} (h : src P 0 st x = some r) : ∃ r', src P' 0 st x = some r' /\ r'.2 = r.2 := by
 cases x with
 | const v =>
   simp only [src] at h ⊢;unfold cst at h ⊢
   split at h <;> simp only [Option.some.injEq, reduceCtorEq] at h <;> subst h <;> exact ⟨_, rfl, rfl⟩
 | tmp t => exact ⟨r, h, rfl⟩
 | func f => exact ⟨r, h, rfl⟩
 | global g => simp [src] at h
theorem B7h (F3 : o.op = .load t y) (H : I4 C R fl o st k = some x) (hr : K5 (M3 y) f.rt) (hw : K5 o.dst.toList f.wt) (hn : f.nb = none) (hb : ∀ r, src C.P 0 st y = some r -> K5 (Dp r.2).1 f.rb /\ ((Dp r.2).2 = true -> f.rs = true) /\ (J4 fl.P7 o.dst = true -> K5 (Dp r.2).1 f.wb /\ ((Dp r.2).2 = true -> f.ws = true)) /\ (J4 fl.DR o.dst = true -> (Dp r.2).2 = true -> f.ws = true)) :
 Fr C R fl o st k x f := by
 simp only [I4, F3, Br] at H;obtain ⟨r, h1, H⟩ := C8 H;obtain ⟨z, h2, H⟩ := C8 H;obtain ⟨b1, b2, b3, b4⟩ := hb r h1
 split at H
 ·rename_i s off hm
  rw [hm] at b1 b2 b3 b4;have hs : s ∈ f.rb := b1 s (by simp [Dp])
  obtain ⟨cs, h3, H⟩ := C8 H;obtain ⟨h4, H⟩ := K9 H
  by_cases hz : z.2 = true
  ·rw [if_pos hz] at H
   by_cases S9 : J4 fl.P7 o.dst = true
   ·rw [if_pos S9] at H
    refine ⟨_, H, by rw [hn]; simp, fun st' A => ⟨_, ((Two.refl A).A1m ((b3 S9).1 s (by simp [Dp])) _).put hw _ _, fun Y k' => ?_⟩⟩
    simp only [I4, F3, Br, A.src _ _ hr, h1, h2, K4, hm, A.bx hs, h3, if_pos h4, if_pos hz, if_pos S9]
   rw [if_neg S9] at H;refine M0 H hw hn fun st' A Y k' => ?_
   simp only [I4, F3, Br, A.src _ _ hr, h1, h2, K4, hm, A.bx hs, h3, if_pos h4, if_pos hz, if_neg S9]
  ·rw [if_neg hz] at H
   by_cases S9 : J4 fl.P7 o.dst = true
   ·rw [if_pos S9] at H
    refine ⟨_, H, by rw [hn]; simp, fun st' A => ⟨_, ((Two.refl A).A1m ((b3 S9).1 s (by simp [Dp])) _).put hw _ _, fun Y k' => ?_⟩⟩
    simp only [I4, F3, Br, A.src _ _ hr, h1, h2, K4, hm, A.bx hs, h3, if_pos h4, if_neg hz, if_pos S9]
   ·rw [if_neg S9] at H
    refine M0 H hw hn fun st' A Y k' => ?_
    simp only [I4, F3, Br, A.src _ _ hr, h1, h2, K4, hm, A.bx hs, h3, if_pos h4, if_neg hz, if_neg S9]
 ·rename_i ag sz off hm
  obtain ⟨h4, H⟩ := K9 H
  by_cases hz : z.2 = true
  ·rw [if_pos hz] at H
   obtain ⟨h5, H⟩ := F9 H;refine M0 H hw hn fun st' A Y k' => ?_
   simp only [I4, F3, Br, A.src _ _ hr, h1, h2, K4, hm, if_pos h4, if_pos hz, h5, V7]
  ·rw [if_neg hz] at H
   refine M0 H hw hn fun st' A Y k' => ?_
   simp only [I4, F3, Br, A.src _ _ hr, h1, h2, K4, hm, if_pos h4, if_neg hz]
 ·rename_i i off hm
  rw [hm] at b1 b2 b3 b4;have hs := b2 rfl;obtain ⟨cs, h3, H⟩ := C8 H
  by_cases hz : z.2 = true
  ·rw [if_pos hz] at H
   obtain ⟨h5, H⟩ := F9 H;obtain ⟨ds, h6, H⟩ := C8 H;refine M0 H hw hn fun st' A Y k' => ?_
   simp only [I4, F3, Br, A.src _ _ hr, h1, h2, K4, hm, A.s hs, h3, if_pos hz, h5, V7, h6]
  ·rw [if_neg hz] at H
   split at H
   ·rename_i hc
    obtain ⟨j, h6, H⟩ := C8 H;refine M0 H hw hn fun st' A Y k' => ?_
    simp only [I4, F3, Br, A.src _ _ hr, h1, h2, K4, hm, A.s hs, h3, if_neg hz, hc, h6]
   ·rename_i hc
    obtain ⟨j, h6, H⟩ := C8 H;refine M0 H hw hn fun st' A Y k' => ?_
    simp only [I4, F3, Br, A.src _ _ hr, h1, h2, K4, hm, A.s hs, h3, if_neg hz, hc, h6]
   ·rename_i hc
    by_cases hq0 : J4 fl.B20 o.dst = true
    ·rw [if_pos hq0] at H
     obtain ⟨e, h6, H⟩ := C8 H;obtain ⟨ze, h7, H⟩ := C8 H;obtain ⟨q, h8, H⟩ := C8 H;refine M0 H hw hn fun st' A Y k' => ?_
     simp only [I4, F3, Br, A.src _ _ hr, h1, h2, K4, hm, A.s hs, h3, if_neg hz, hc, if_pos hq0, h6, h7, h8]
    rw [if_neg hq0] at H
    by_cases hq : J4 fl.DR o.dst = true
    ·rw [if_pos hq] at H
     obtain ⟨e, h6, H⟩ := C8 H;obtain ⟨ze, h7, H⟩ := C8 H;obtain ⟨q, h8, H⟩ := C8 H;refine ⟨_, H, by rw [hn]; simp, fun st' A => ⟨_, ((Two.refl A).FE (b4 hq rfl) _).put hw _ _, fun Y k' => ?_⟩⟩
     simp only [I4, F3, Br, A.src _ _ hr, h1, h2, K4, hm, A.s hs, h3, if_neg hz, hc, if_neg hq0, if_pos hq, h6, h7, h8]
    ·rw [if_neg hq] at H
     by_cases S9 : J4 fl.P7 o.dst = true
     ·rw [if_pos S9] at H
      obtain ⟨d, h6, H⟩ := C8 H;refine ⟨_, H, by rw [hn]; simp, fun st' A => ⟨_, ((Two.refl A).FE ((b3 S9).2 rfl) _).put hw _ _, fun Y k' => ?_⟩⟩
      simp only [I4, F3, Br, A.src _ _ hr, h1, h2, K4, hm, A.s hs, h3, if_neg hz, hc, if_neg hq0, if_neg hq, if_pos S9, h6]
     ·rw [if_neg S9] at H
      obtain ⟨d, h6, H⟩ := C8 H;refine M0 H hw hn fun st' A Y k' => ?_
      simp only [I4, F3, Br, A.src _ _ hr, h1, h2, K4, hm, A.s hs, h3, if_neg hz, hc, if_neg hq0, if_neg hq, if_neg S9, h6]
 ·rename_i i sz idx off hm
  rw [hm] at b1 b2 b3 b4;have hs := b2 rfl;obtain ⟨a, h3, H⟩ := C8 H;obtain ⟨d, h4, H⟩ := C8 H;obtain ⟨h5, H⟩ := F9 H;obtain ⟨h6, H⟩ := K9 H
  by_cases hz : z.2 = true
  ·rw [if_pos hz] at H
   refine M0 H hw hn fun st' A Y k' => ?_
   simp only [I4, F3, Br, A.src _ _ hr, h1, h2, K4, hm, A.s hs, h3, h4, h5, V7, if_pos h6, if_pos hz]
  ·rw [if_neg hz] at H
   by_cases h7 : sz = 1
   ·rw [if_pos h7] at H
    obtain ⟨h8, H⟩ := F9 H;refine M0 H hw hn fun st' A Y k' => ?_
    simp only [I4, F3, Br, A.src _ _ hr, h1, h2, K4, hm, A.s hs, h3, h4, h5, V7, if_pos h6, if_neg hz, if_pos h7, h8]
   ·rw [if_neg h7] at H
    refine M0 H hw hn fun st' A Y k' => ?_
    simp only [I4, F3, Br, A.src _ _ hr, h1, h2, K4, hm, A.s hs, h3, h4, h5, V7, if_pos h6, if_neg hz, if_neg h7]
 ·rename_i i n sz idx off hm
  rw [hm] at b1 b2 b3 b4;have hs := b2 rfl;obtain ⟨a, h3, H⟩ := C8 H;obtain ⟨d, h4, H⟩ := C8 H;obtain ⟨h5, H⟩ := F9 H;obtain ⟨h6, H⟩ := K9 H
  by_cases hz : z.2 = true
  ·rw [if_pos hz] at H
   refine M0 H hw hn fun st' A Y k' => ?_
   simp only [I4, F3, Br, A.src _ _ hr, h1, h2, K4, hm, A.s hs, h3, h4, h5, V7, if_pos h6, if_pos hz]
  ·rw [if_neg hz] at H
   by_cases h7 : sz = 1
   ·rw [if_pos h7] at H
    obtain ⟨h8, H⟩ := F9 H;refine M0 H hw hn fun st' A Y k' => ?_
    simp only [I4, F3, Br, A.src _ _ hr, h1, h2, K4, hm, A.s hs, h3, h4, h5, V7, if_pos h6, if_neg hz, if_pos h7, h8]
   ·rw [if_neg h7] at H
    refine M0 H hw hn fun st' A Y k' => ?_
    simp only [I4, F3, Br, A.src _ _ hr, h1, h2, K4, hm, A.s hs, h3, h4, h5, V7, if_pos h6, if_neg hz, if_neg h7]
 ·simp at H
theorem B5q {v : Operand} (F3 : o.op = .store t y v) (H : I4 C R fl o st k = some x) (hr : K5 (tmpsOf [y, v]) f.rt) (hw : K5 o.dst.toList f.wt) (hwv : K5 (EM st.mt v) f.wt) (hn : f.nb = none) (hb : ∀ r, src C.P 0 st y = some r -> K5 (Dp r.2).1 f.rb /\ ((Dp r.2).2 = true -> f.rs = true) /\ K5 (Dp r.2).1 f.wb /\ ((Dp r.2).2 = true -> f.ws = true)) :
 Fr C R fl o st k x f := by
 obtain ⟨q1, q2⟩ := Nh hr;simp only [I4, F3, Cc] at H;obtain ⟨r, h1, H⟩ := C8 H;obtain ⟨u, h2, H⟩ := C8 H;obtain ⟨z, h3, H⟩ := C8 H;obtain ⟨b1, b2, b3, b4⟩ := hb r h1
 split at H
 ·rename_i s off hm
  rw [hm] at b1 b2 b3 b4;have hs : s ∈ f.rb := b1 s (by simp [Dp])
  have EI : s ∈ f.wb := b3 s (by simp [Dp])
  obtain ⟨cs, h4, H⟩ := C8 H
  by_cases hz : z.2 = true
  ·rw [if_pos hz] at H
   obtain ⟨xs, H, h5⟩ := yo H;obtain ⟨h6, H⟩ := K9 H;refine ⟨_, H, by rw [hn]; simp, fun st' A => ⟨_, (((Two.refl A).A1m EI _).A3S hwv fun i hi => A.t i (q2 i hi)).put hw _ _, fun Y k' => ?_⟩⟩
   simp only [I4, F3, Cc, A.src _ _ q1, A.src _ _ q2, h1, h2, h3, K4, hm, A.bx hs, h4, if_pos hz, h5, if_pos h6]
  ·rw [if_neg hz] at H
   obtain ⟨c, H, h5⟩ := Ka H;obtain ⟨h6, H⟩ := K9 H;refine ⟨_, H, by rw [hn]; simp, fun st' A => ⟨_, (((Two.refl A).A1m EI _).A3S hwv fun i hi => A.t i (q2 i hi)).put hw _ _, fun Y k' => ?_⟩⟩
   simp only [I4, F3, Cc, A.src _ _ q1, A.src _ _ q2, h1, h2, h3, K4, hm, A.bx hs, h4, if_neg hz, h5, if_pos h6]
 ·rename_i i off hm
  rw [hm] at b1 b2 b3 b4;obtain ⟨cs, h4, H⟩ := C8 H
  by_cases hz : z.2 = true
  ·rw [if_pos hz] at H
   obtain ⟨xs, H, h5⟩ := Lc H;obtain ⟨h6, H⟩ := K9 H;refine ⟨_, H, by rw [hn]; simp, fun st' A => ⟨_, ((Two.refl A).FE (b4 rfl) _).put hw _ _, fun Y k' => ?_⟩⟩
   simp only [I4, F3, Cc, A.src _ _ q1, A.src _ _ q2, h1, h2, h3, K4, hm, A.s (b2 rfl), h4, if_pos hz, h5, if_pos h6]
  ·rw [if_neg hz] at H
   obtain ⟨c, H, h5⟩ := Ka H;obtain ⟨c0, h6, H⟩ := C8 H;refine ⟨_, H, by rw [hn]; simp, fun st' A => ⟨_, (((Two.refl A).FE (b4 rfl) (st.sg.set i (.box (cs.set off c)))).A3S hwv fun i hi => A.t i (q2 i hi)).put hw (.H7 []) .val, fun Y k' => ?_⟩⟩
   simp only [I4, F3, Cc, A.src _ _ q1, A.src _ _ q2, h1, h2, h3, K4, hm, A.s (b2 rfl), h4, if_neg hz, h5, h6]
 ·rename_i i sz idx off hm
  rw [hm] at b1 b2 b3 b4;obtain ⟨a, h4, H⟩ := C8 H;obtain ⟨d, h5, H⟩ := C8 H;obtain ⟨H, h6⟩ := XP H;obtain ⟨h7, H⟩ := F9 H;obtain ⟨h8, H⟩ := K9 H;refine ⟨_, H, by rw [hn]; simp, fun st' A => ⟨_, ((Two.refl A).FE (b4 rfl) _).put hw _ _, fun Y k' => ?_⟩⟩
  simp only [I4, F3, Cc, A.src _ _ q1, A.src _ _ q2, h1, h2, h3, K4, hm, A.s (b2 rfl), h4, h5, h6, h7, V7, if_pos h8]
 ·rename_i i sz idx hm
  rw [hm] at b1 b2 b3 b4;obtain ⟨q, h4, H⟩ := C8 H;obtain ⟨H, h6⟩ := XP H;obtain ⟨h7, H⟩ := F9 H;obtain ⟨x', h8, H⟩ := C8 H;refine ⟨_, H, by rw [hn]; simp, fun st' A => ⟨_, ((Two.refl A).FE (b4 rfl) _).put hw _ _, fun Y k' => ?_⟩⟩
  simp only [I4, F3, Cc, A.src _ _ q1, A.src _ _ q2, h1, h2, h3, K4, hm, A.s (b2 rfl), h4, h6, h7, V7, h8]
 ·rename_i i n sz idx off hm
  rw [hm] at b1 b2 b3 b4;obtain ⟨a, h4, H⟩ := C8 H;obtain ⟨d, h5, H⟩ := C8 H;obtain ⟨h7, H⟩ := F9 H
  by_cases hz : z.2 = true
  ·rw [if_pos hz] at H
   obtain ⟨xs, H, h6⟩ := Lc H;obtain ⟨e, h8, H⟩ := C8 H;refine ⟨_, H, by rw [hn]; simp, fun st' A => ⟨_, ((Two.refl A).FE (b4 rfl) _).put hw _ _, fun Y k' => ?_⟩⟩
   simp only [I4, F3, Cc, A.src _ _ q1, A.src _ _ q2, h1, h2, h3, K4, hm, A.s (b2 rfl), h4, h5, h7, V7, if_pos hz, h6, h8]
  ·rw [if_neg hz] at H
   obtain ⟨c, H, h6⟩ := Ka H;obtain ⟨e, h8, H⟩ := C8 H;refine ⟨_, H, by rw [hn]; simp, fun st' A => ⟨_, ((Two.refl A).FE (b4 rfl) _).put hw _ _, fun Y k' => ?_⟩⟩
   simp only [I4, F3, Cc, A.src _ _ q1, A.src _ _ q2, h1, h2, h3, K4, hm, A.s (b2 rfl), h4, h5, h7, V7, if_neg hz, h6, h8]
 ·simp at H
theorem B2d (F3 : o.op = .makeMap t none) (H : I4 C R fl o st k = some x) (hw : K5 o.dst.toList f.wt) (hn : f.nb = none) (hrs : f.rs = true) (hws : f.ws = true) : Fr C R fl o st k x f := by
 simp only [I4, F3] at H;obtain ⟨q, h1, H⟩ := C8 H;refine ⟨_, H, by rw [hn]; simp, fun st' A => ⟨_, ((Two.refl A).FE hws _).put hw _ _, fun Y k' => ?_⟩⟩
 simp only [I4, F3, h1, K4, A.s hrs]
theorem B3H {v : Operand} {ok : Bool} (F3 : o.op = .lookup t y v ok) (H : I4 C R fl o st k = some x) (hr : K5 (tmpsOf [y, v]) f.rt) (hw : K5 o.dst.toList f.wt) (hn : f.nb = none) (hrs : f.rs = true) : Fr C R fl o st k x f := by
 obtain ⟨q1, q2⟩ := Nh hr;simp only [I4, F3] at H;obtain ⟨r, h1, H⟩ := C8 H;obtain ⟨key, h2, H⟩ := C8 H;obtain ⟨q, h3, H⟩ := C8 H;obtain ⟨ze, h4, H⟩ := C8 H;obtain ⟨h5, H⟩ := F9 H
 split at H
 ·rename_i i hm
  obtain ⟨p, h6, H⟩ := C8 H;obtain ⟨h7, H⟩ := F9 H
  by_cases AJ : ok = true
  ·rw [if_pos AJ] at H
   refine M0 H hw hn fun st' A Y k' => ?_
   simp only [I4, F3, A.src _ _ q1, A.src _ _ q2, h1, h2, h3, h4, K4, h5, V7, hm, A.s hrs, h6, h7, if_pos AJ]
  ·rw [if_neg AJ] at H
   refine M0 H hw hn fun st' A Y k' => ?_
   simp only [I4, F3, A.src _ _ q1, A.src _ _ q2, h1, h2, h3, h4, K4, h5, V7, hm, A.s hrs, h6, h7, if_neg AJ]
 ·simp at H
theorem A8Q {v u : Operand} (F3 : o.op = .mapUpdate t y v u) (H : I4 C R fl o st k = some x) (hr : K5 (tmpsOf [y, v, u]) f.rt) (hw : K5 o.dst.toList f.wt) (hn : f.nb = none) (hrs : f.rs = true) (hws : f.ws = true) : Fr C R fl o st k x f := by
 have q1 : K5 (M3 y) f.rt := fun i hi => hr i (by simp [tmpsOf, hi])
 have q2 : K5 (M3 v) f.rt := fun i hi => hr i (by simp [tmpsOf, hi])
 have q3 : K5 (M3 u) f.rt := fun i hi => hr i (by simp [tmpsOf, hi])
 simp only [I4, F3] at H;obtain ⟨r, h1, H⟩ := C8 H;obtain ⟨key, h2, H⟩ := C8 H;obtain ⟨val, h3, H⟩ := C8 H;obtain ⟨q, h4, H⟩ := C8 H;obtain ⟨h5, H⟩ := F9 H
 split at H
 ·rename_i i hm
  obtain ⟨p, h6, H⟩ := C8 H;obtain ⟨h7, H⟩ := F9 H;refine ⟨_, H, by rw [hn]; simp, fun st' A => ⟨_, ((Two.refl A).FE hws _).put hw _ _, fun Y k' => ?_⟩⟩
  simp only [I4, F3, A.src _ _ q1, A.src _ _ q2, A.src _ _ q3, h1, h2, h3, h4, K4, h5, V7, hm, A.s hrs, h6, h7]
 ·simp at H
theorem B2c {i : Nat} (F3 : o.op = .extract y i) (H : I4 C R fl o st k = some x) (hr : K5 (M3 y) f.rt) (hw : K5 o.dst.toList f.wt) (hs : J4 fl.P7 o.dst = true -> K5 (M3 y) f.wt) (hn : f.nb = none) : Fr C R fl o st k x f := by
 simp only [I4, F3] at H;obtain ⟨r, h1, H⟩ := C8 H
 split at H
 ·rename_i hm
  obtain ⟨d, h2, H⟩ := C8 H;refine M0 H hw hn fun st' A Y k' => ?_
  simp only [I4, F3, A.src _ _ hr, h1, K4, hm, h2]
 ·rename_i ms hm
  obtain ⟨d, h2, H⟩ := C8 H
  split at H
  ·rename_i hg
   by_cases S9 : J4 fl.P7 o.dst = true
   ·rw [if_pos S9] at H
    refine ⟨_, H, by rw [hn]; simp, fun st' A => ⟨(st'.rH y (.Bf (ms.set i .val))).put o.dst d .own, Two.put ?_ hw _ _, fun Y k' => ?_⟩⟩
    ·cases y with
     | tmp t =>
       have ht : t ∈ M3 (.tmp t) := by simp [M3]
       exact (Two.refl A).B6U (hs S9 t ht) (A.t t (hr t ht)).1 _
     | _ => exact Two.refl A
    ·simp only [I4, F3, A.src _ _ hr, h1, K4, hm, h2, hg, if_pos S9]
   ·rw [if_neg S9] at H
    refine M0 H hw hn fun st' A Y k' => ?_
    simp only [I4, F3, A.src _ _ hr, h1, K4, hm, h2, hg, if_neg S9]
  ·rename_i hg
   refine M0 H hw hn fun st' A Y k' => ?_
   simp only [I4, F3, A.src _ _ hr, h1, K4, hm, h2, hg]
  ·simp at H
 ·simp at H
end
end Go.Su
