/-
  Parts of the proof, merged: TJ8, TJ9, TJ10, TJ11, TJ12, TJ13, TJ14, TJ15, TJ16, TJ17, TJ18, TE1, TE2, TE3, LHeavy1, W18, LElabExact.
-/
import Derived.Test.YtbmglmlodflfeaaGreatP4
import Derived.Test.YtbmglmlodflfeaaGreatP5
import Derived.Test.YtbmglmlodflfeaaGreatP6
set_option linter.unusedVariables false
set_option linter.unusedSimpArgs false
/-
 What the program's judging does: an expression.
-/
open Bool renaming not_eq_true → z7q
open Int renaming cast_ofNat_Int → z0q, natCast_zero → z1q, ofNat_zero → z4q, natCast_one → z6q
open List renaming getElem?_eq_getElem → z2q, getD_eq_getElem?_getD → z3q, getElem_mem → z5q, map_cons → z8q, mem_append → z9q, drop_eq_getElem_cons → z10q, mem_singleton → z11q, map_nil → z12q, mem_map_of_mem → z13q, take_succ_eq_append_getElem → z14q, nil_append → z15q, drop_of_length_le → z16q, singleton_append → z17q, append_assoc → z18q, mem_of_getElem? → z19q, drop_zero → z21q, getElem?_append_right → z22q, append_nil → z23q, getElem?_eq_some_iff → z24q, getElem?_set_self → z25q, length_cons → z26q, getElem?_eq_none → z27q, reverse_append → z28q, sum_cons → z29q, mem_cons → z30q
open Option renaming getD_some → z20q
namespace Go.Su
section
variable {sg : List D7} {p mi : Nat} (h : JP sg p mi) {st : Bool} {e : Ex} {d : A9} {l : List Nm} (c : JC st e d l) (ih : ∀ k ∈ e.kids, fB st k) {S : List Int} (ho : DT st e d l S = 0)
 {es : List (DV × DV)} {L : List Q9} {m : Meta} (hs : AP es S) (hm : Roomy m) (hL : L.length + 2 * e.size ≤ 1048576)
include h c ih ho hs hm hL
theorem B5e (hk : 7 ≤ e.kind) (z0 z1 z2 z3 z4 z5 z6 z7 z8 z9 z10 z11 z12 z13 z14 z15 YK z17 z18 z19 z20 z21 z22 : DV) : L6 sg p mi st S 23 (IC (run cfg) p (H8 l) (.int .i64 e.kind) e.enc d.enc z0 z1 z2 z3 z4 z5 z6 z7 z8 z9 z10 z11 z12 z13 z14 z15 YK z17 z18 z19 z20 z21 z22 (R5 sg p mi st es L m 0)) (jW e d L (jt st e d l S)) := by
 have own := Ex.S9 c.hr;have Z4 := c.len;obtain ⟨o1, o2, o3, o4⟩ := CG ho;have i0 : 0 < d.types.length → E8 3 (.list 3 (d.types.map Ty.enc)) (.int .i64 0) = some d.t0.enc := fun ht0 => by
  have : d.t0 = d.types[0] := by simp only [A9.t0, z3q, z2q ht0, z20q]
  rw [this];exact F3 (e := Ty.enc) (sz := 3) (k := .i64) (i := 0) ht0
 rw [Nr]
 by_cases h7 : e.kind = 7
 ·have hn : e.kids.length = 0 := by have := own.kids; simp [K3, h7] at this; simp [this]
  have IA : 0 < d.types.length := by rw [o1]; simp [M8, h7]
  rw [EJ ho, h_ h7, JD, WP hn];simp [h7, i0 IA, Ty.D8, Ty.ag, tq];refine L6.ok ?_ rfl hs hm;simp [Z0, V3, h7, K6, F7]
 by_cases h8 : e.kind = 8
 ·have hn : e.kids.length = 2 := by have := own.kids; simp [K3, h8] at this; omega
  have h0 : 0 < e.kids.length := by omega
  have h1 : 1 < e.kids.length := by omega
  have m0 := Ex.O5 (c.BZ h0);have m1 := Ex.O5 (c.BZ h1);have Y9 := eG hn;have IA : 0 < d.types.length := by rw [o1]; simp [M8, h8]
  have Co := A9.Bb c.dr (by omega)
  have hrl := XX Co;have hj : jt st e d l S = (N8 d.t0 (jk st e d 0 l S)).bind fun a => (N8 (j3 d.t0) (jk st e d 1 l S)).bind fun b => .ok (.mk (j3 d.t0) [a, b]) := by
   rw [EJ ho, Zm h8, U5 h0];simp only [U5 h1]
  rw [hj];have hl := tq d.t0;simp [Ex.D8, Ex.ag, A9.D8, A9.ag];simp [h8, i0 IA, Ty.D8, Ty.ag, hl];refine L6.then (AX (L := L) h c ih h0 c.nl (by omega) hs hm (by omega) Co) (fun v es L1 m hr hs hm => ?_) (fun z v es L1 m hr hz hn hs hm => ?_)
  rotate_left
  ·rw [JB hr, R6]
   have fb := fun i => QM h st es L1 m hz e d i (H8 l) (j3 d.t0)
   simp [hn, fb];exact L6.err rfl hz rfl hs hm
  obtain ⟨a, hA, rfl, rfl⟩ := NU hr;have Vj := Im (e.kid 0) (d.kid 0) d.t0 a L;rw [hA, P5];generalize hLa : Am (e.kid 0) (d.kid 0) d.t0 a L = ca at Vj;simp;refine L6.then (AX (L := ca.2) h c ih h1 c.nl (by omega) hs hm (by omega) hrl) (fun v es L1 m hr hs hm => ?_) (fun z v es L1 m hr hz hn hs hm => ?_)
  rotate_left
  ·rw [JB hr, R6]
   simp [hn];exact L6.err rfl hz rfl hs hm
  obtain ⟨b, hB, rfl, rfl⟩ := NU hr;have OL : (K5 e d (.mk (j3 d.t0) [a, b])).getD 0 F7 = d.t0 := by simp [K5, h8]
  have Xx : (K5 e d (.mk (j3 d.t0) [a, b])).getD 1 F7 = j3 d.t0 := by simp [K5, h8]
  rw [hB, P5, JD, OB hn, Ee OL (Ty.k0 Co), Ee Xx (Ty.k0 hrl)];simp only [A38, A8O, hLa];simp [Tm.D8, Tm.ag];refine L6.ok ?_ rfl hs hm;simp [Z0, V3, h8, K6, F7]
 by_cases h9 : e.kind = 9
 ·have hn : e.kids.length = 1 := by have := own.kids; simp [K3, h9] at this; omega
  have h0 : 0 < e.kids.length := by omega
  have m0 := Ex.O5 (c.BZ h0);have Y9 := B1H hn;have OQ := VT e.a d.types fun h0 => by rw [o1]; simp [M8, h9, h0]
  have hPe : J6 e.a (d.types.getD 0 F7) = J6 e.a d.t0 := rfl;rw [hPe] at OQ;have mK : (J6 e.a d.t0).right = true := Dx own.a fun h0 => A9.Bb c.dr (by rw [o1]; simp [M8, h9, h0])
  have hj : jt st e d l S = (jk st e d 0 (l ++ [⟨e.name, J6 e.a d.t0, []⟩]) S).bind fun a => .ok (.mk (V4 (J6 e.a d.t0) a.ty) [a]) := by
   rw [EJ ho, gz h9, U5 h0]
  have nm1 : Aa (l ++ [⟨e.name, J6 e.a d.t0, []⟩]) := c.nl.app fun x hx => by
   simp only [z11q] at hx;subst hx;exact ⟨mK, by simp, by simp⟩
  have hw := LA l [⟨e.name, J6 e.a d.t0, []⟩] (R5 sg p mi st es L m 0) (by simp; omega)
  simp only [z8q, z12q] at hw;have n1 : DV.agg [.str e.name, .int .i64 (J6 e.a d.t0).kind, .int .i64 (J6 e.a d.t0).n, .list 3 ((J6 e.a d.t0).kids.map Ty.enc), .list 1 []] = (Nm.mk e.name (J6 e.a d.t0) []).enc := rfl;rw [hj];simp [Ex.D8, Ex.ag, A9.D8, A9.ag, Ty.D8, Ty.ag];rw [OQ];simp [h9, n1, hw, Ty.D8, Ty.ag];refine L6.then (EO (L := L) h c ih h0 nm1 (by simp; omega) hs hm (by omega)) (fun v es L1 m hr hs hm => ?_) (fun z v es L1 m hr hz hn hs hm => ?_)
  rotate_left
  ·rw [VE hr, R6]
   have hf : (run cfg).p MV [(J6 e.a d.t0).enc, .agg [A7 0 v, A7 1 v, A7 2 v]] = some (.agg [.int .i64 9, .int .i64 0, .list 3 [(J6 e.a d.t0).enc, .agg [A7 0 v, A7 1 v, A7 2 v]]]) := by
    refine (Yc _ _).trans ?_;rw [bA];simp [Ty.D8, Ty.ag];rfl
   simp [hn, hf];exact L6.err rfl hz rfl hs hm
  obtain ⟨a, hA, rfl, rfl⟩ := Zp hr;have OL : ((K5 e d (.mk (V4 (J6 e.a d.t0) a.ty) [a])).getD 0 F7).kind = 0 := by simp [K5, h9]; rfl
  rw [hA, P5, JD, A6k hn, Nj OL];have hf := eH (J6 e.a d.t0) a.ty;simp [Tm.D8, Tm.ag, Ty.D8, Ty.ag, hf];refine L6.ok ?_ rfl hs hm;simp [Z0, V3, h9, K6, F7, V4]
 ·have := A5x h c ih ho hs hm hL (by omega)
  simp [Ex.D8, Ex.ag, A9.D8, A9.ag];simp [h7, h8, h9];exact this.pass fun v s hv => by simp [hv, zB hv]
end
theorem B3r {sg : List D7} {p mi : Nat} (h : JP sg p mi) {st : Bool} {e : Ex} {d : A9} {l : List Nm} (hr : e.right = true) (hf : e.fit) (dr : d.AO = true) (ds : d.DC) (nl : Aa l) (Z4 : l.length + 2 * e.J4 ≤ lim) (ih : ∀ k ∈ e.kids, fB st k) {S : List Int}
 {es : List (DV × DV)} {L : List Q9} {m : Meta} (hs : AP es S) (hm : Roomy m) (hL : L.length + 2 * e.size ≤ 1048576) (hx : e.kind = 1 → BD l e.name ≠ none) (z0 z1 z2 z3 z4 z5 z6 z7 z8 z9 z10 z11 z12 z13 z14 z15 YK z17 z18 z19 z20 z21 z22 : DV) :
 L6 sg p mi st S 23 (FB (run cfg) p (H8 l) (.bool true) e.enc d.enc z0 z1 z2 z3 z4 z5 z6 z7 z8 z9 z10 z11 z12 z13 z14 z15 YK z17 z18 z19 z20 z21 z22 (.str (Vl e l).name) (.int .i64 (Vl e l).ty.kind) (.int .i64 (Vl e l).ty.n) (.list 3 ((Vl e l).ty.kids.map Ty.enc)) (F4 (Vl e l).vars) (R5 sg p mi st es L m 0)) (jW e d L (jt st e d l S)) := by
 have own := Ex.S9 hr;obtain ⟨es1, hc, Cj⟩ := A1Z h st L m 0 hs e hr hf d ds l hx;rw [IE];simp [Ex.D8, Ex.ag, A9.D8, A9.ag, Nm.A1F, hc]
 by_cases ho : DT st e d l S = 0
 rotate_left
 ·have sf := Gr h st es1 L m 0 (DT st e d l S)
  rw [if_pos rfl] at sf;rw [A6M ho];simp [ho, sf, YL];exact L6.err rfl ho rfl Cj hm
 obtain ⟨o1, o2, o3, o4⟩ := CG ho;have c : JC st e d l := ⟨hr, hf, dr, ds, nl, Z4, o2⟩;have k1 := own.k1;simp [ho]
 by_cases h1 : e.kind = 1
 ·cases hl : BD l e.name with
  | none => exact absurd hl (hx h1)
  | some x =>
    have hxo : Vl e l = x := by simp [Vl, h1, hl]
    have := A5y h c ho Cj hm (L := L) h1 hl;simp [h1, hxo];exact this.pass fun v s hv => by simp [hv, zB hv]
 by_cases h2 : e.kind = 2
 ·have hn : e.kids.length = 0 := by have := own.kids; simp [K3, h2] at this; simp [this]
  rw [EJ ho, Lu (by omega), JD, WP hn]
  simp [h2];refine L6.ok ?_ rfl Cj hm;simp [Z0, V3, h2, K6, F7, T9]
 by_cases h3 : e.kind = 3
 ·have hn : e.kids.length = 0 := by have := own.kids; simp [K3, h3] at this; simp [this]
  rw [EJ ho, Lu (by omega), JD, WP hn]
  simp [h3];refine L6.ok ?_ rfl Cj hm;simp [Z0, V3, h3, K6, F7, T9]
 by_cases h4 : e.kind = 4
 ·have hn : e.kids.length = 0 := by have := own.kids; simp [K3, h4] at this; simp [this]
  rw [EJ ho, Lu (by omega), JD, WP hn]
  simp [h4];refine L6.ok ?_ rfl Cj hm;simp [Z0, V3, h4, K6, F7, T9]
 by_cases h5 : e.kind = 5
 ·have hn : e.kids.length = 0 := by have := own.kids; simp [K3, h5] at this; simp [this]
  rw [EJ ho, Lu (by omega), JD, WP hn]
  simp [h5];refine L6.ok ?_ rfl Cj hm;simp [Z0, V3, h5, K6, F7, T9]
 by_cases h6 : e.kind = 6
 ·have hn : e.kids.length = 2 := by have := own.kids; simp [K3, h6] at this; omega
  have h0 : 0 < e.kids.length := by omega
  have h1 : 1 < e.kids.length := by omega
  have m0 := Ex.O5 (c.BZ h0);have m1 := Ex.O5 (c.BZ h1);have Y9 := eG hn;have hj : jt st e d l S = (jk st e d 0 l S).bind fun a => (jk st e d 1 l S).bind fun b => .ok (.mk (.mk 7 0 [a.ty, b.ty]) [a, b]) := by
   rw [EJ ho, Zo h6, U5 h0];simp only [U5 h1]
  rw [hj];simp [h6];refine L6.then (EO (L := L) h c ih h0 c.nl (by omega) Cj hm (by omega)) (fun v es L1 m hr hs hm => ?_) (fun z v es L1 m hr hz hn hs hm => ?_)
  rotate_left
  ·rw [VE hr, R6]
   have kb := fun i => Hm h st es L1 m hz e d i (H8 l)
   simp [hn, kb];exact L6.err rfl hz rfl hs hm
  obtain ⟨a, hA, rfl, rfl⟩ := Zp hr;have Vj := nY (e.kid 0) (d.kid 0) a L;rw [hA, P5];simp;refine L6.then (EO (L := (M4 (e.kid 0) (d.kid 0) a L).2) h c ih h1 c.nl (by omega) hs hm (by omega)) (fun v es L1 m hr hs hm => ?_) (fun z v es L1 m hr hz hn hs hm => ?_)
  rotate_left
  ·rw [VE hr, R6]
   simp [hn];exact L6.err rfl hz rfl hs hm
  obtain ⟨b, hB, rfl, rfl⟩ := Zp hr;have OL : ((K5 e d (.mk (.mk 7 0 [a.ty, b.ty]) [a, b])).getD 0 F7).kind = 0 := by simp [K5, h6]; rfl
  have Xx : ((K5 e d (.mk (.mk 7 0 [a.ty, b.ty]) [a, b])).getD 1 F7).kind = 0 := by simp [K5, h6]; rfl
  rw [hB, P5, JD, OB hn, Nj OL, Nj Xx];simp [Tm.D8, Tm.ag, Ty.D8, Ty.ag];refine L6.ok ?_ rfl hs hm;simp [Z0, V3, h6, K6, F7]
 ·have := B5e h c ih ho Cj hm hL (by omega) z0 z1 z2 z3 z4 z5 z6 z7 z8 z9 z10 z11 z12 z13 z14 z15 YK z17 z18 z19 z20 z21 z22
  simp [h1, h2, h3, h4, h5, h6];exact this
theorem A5u (st : Bool) (e : Ex) : fB st e := by
 induction e using Ex.ind with
 | h e ih =>
   intro hr hf d l S dr ds nl Z4 sg p mi h es L m hs hm hL;have hmp := Ex.EK e;have A5P := A5v l (by omega) e.name
   refine L6.map ?_ (Qi p e.enc d.enc (H8 l) _);rw [Sq];simp [Ex.D8, Ex.ag, A9.D8, A9.ag]
   by_cases h1 : e.kind = 1
   ·cases hl : BD l e.name with
    | none =>
      rw [hl] at A5P;have Hd : DT st e d l S = 6 := by simp [DT, h1, hl]
      have sf := Gr h st es L m 0 6;rw [if_pos rfl] at sf;rw [A6M (by rw [Hd]; omega), Hd]
      simp [h1, A5P, O4, IE, sf, YL];exact L6.err rfl (by omega) rfl hs hm
    | some x =>
      rw [hl] at A5P;have := B3r h hr hf dr ds nl Z4 ih hs hm hL (fun _ => by rw [hl]; simp) (.int .i64 0) (.int .i64 0) (.list 3 []) (.int .i64 0) (.int .i64 0) (.int .i64 0) (.str ⟨#[]⟩) (.str ⟨#[]⟩) (.int .i64 0) (.str ⟨#[]⟩) (.int .i64 0) (.int .i64 0) (.bool false) (.list 1 []) (.int .i64 0) (.int .i64 0) (.list 3 []) (.int .i64 0) (.int .i64 0) (.list 3 []) (.list 3 []) (.list 7 []) (.list 20 [])
      have hxo : Vl e l = x := by simp [Vl, h1, hl]
      rw [hxo] at this;simp [h1, A5P, O4];exact this
   ·have := B3r h hr hf dr ds nl Z4 ih hs hm hL (fun h => absurd h h1) (.int .i64 0) (.int .i64 0) (.list 3 []) (.int .i64 0) (.int .i64 0) (.int .i64 0) (.str ⟨#[]⟩) (.str ⟨#[]⟩) (.int .i64 0) (.str ⟨#[]⟩) (.int .i64 0) (.int .i64 0) (.bool false) (.list 1 []) (.int .i64 0) (.int .i64 0) (.list 3 []) (.int .i64 0) (.int .i64 0) (.list 3 []) (.list 3 []) (.list 7 []) (.list 20 [])
    have hxo : Vl e l = zNm := by simp [Vl, h1]
    rw [hxo] at this;simp [h1];exact this
end Go.Su

/-
 What the program's judging does: right derivations, the whole.
-/
namespace Go.Su
theorem A4l (d : A9) : d.DC → (run cfg).p Qw [d.enc] = some (.bool d.AO) := by
 induction d using A9.ind with
 | h d ih =>
   intro hd;obtain ⟨d1, d2, d3, d4⟩ := hd.all;have b1 := big d1;have b2 := big d2;have b3 := big d3;have l3 := Lx (l := d.kids) (f := A9.AO) (P := fun j => GH (run cfg) (.list 3 (d.kids.map A9.enc)) (.int .i64 d.kids.length) (.int .i64 j)) (y := DV.bool true) (n := DV.bool false)
    (by rw [Nt]; simp)
    (fun j hj => by
      rw [Nt];have hk := ih _ (z5q hj) (hd.kid (z5q hj));cases hr : d.kids[j].AO <;> rw [hr] at hk <;> simp [hj, F3 hj, A9.D8, A9.ag, hk, hr, J7 (show j < 9223372036854775807 by omega)])
   have l2 := TG (l := d.vars) (f := fun v => decide (0 ≤ v) && decide (v ≤ 1048576)) (P := fun j => Gs (run cfg) (F4 d.vars) (.int .i64 d.vars.length) (.int .i64 j) d.enc) (y := GH (run cfg) (.list 3 (d.kids.map A9.enc)) (.int .i64 d.kids.length) (.int .i64 0)) (n := some (DV.bool false))
    (by rw [QA]; simp)
    (fun j hj => by
      rw [QA]
      by_cases h1 : d.vars[j] < 0
      ·have : ¬ 0 ≤ d.vars[j] := by omega
       simp [hj, U0 hj, h1, this]
      ·have mF : 0 ≤ d.vars[j] := by omega
       by_cases h2 : 1048576 < d.vars[j]
       ·have : ¬ d.vars[j] ≤ 1048576 := by omega
        simp [hj, U0 hj, h1, mF, h2, this]
       ·have ZJ : d.vars[j] ≤ 1048576 := by omega
        simp [hj, U0 hj, h1, mF, h2, ZJ, J7 (show j < 9223372036854775807 by omega)])
   have l1 := TG (l := d.types) (f := Ty.right) (P := fun j => LW (run cfg) (.list 3 (d.types.map Ty.enc)) (.int .i64 d.types.length) (.int .i64 j) d.enc) (y := Gs (run cfg) (F4 d.vars) (.int .i64 d.vars.length) (.int .i64 0) d.enc) (n := some (DV.bool false))
    (by rw [P_]; simp)
    (fun j hj => by
      rw [P_];have hk := Ce _ (d4 _ (z5q hj)).1;cases hr : d.types[j].right <;> rw [hr] at hk <;> simp [hj, F3 hj, Ty.D8, Ty.ag, hk, hr, J7 (show j < 9223372036854775807 by omega)])
   refine (gI _).trans ?_;rw [kT, A9.iN];simp;refine l1.trans ?_;rw [l2, l3]
   by_cases a1 : d.types.all Ty.right = true
   ·by_cases a2 : (d.vars.all fun v => decide (0 ≤ v) && decide (v ≤ 1048576)) = true
    ·rw [if_pos a1, if_pos a2, a1, a2]
     cases d.kids.all A9.AO <;> rfl
    ·rw [if_pos a1, if_neg a2]
     simp only [z7q] at a2;rw [a1, a2];rfl
   ·rw [if_neg a1]
    simp only [z7q] at a1;rw [a1];rfl
def xy (st : Bool) (e : Ex) (d : A9) : Except Int JT := if e.right = true ∧ d.AO = true then jt st e d [] [] else .error 1
theorem A5t (e : Ex) (d : A9) (hf : e.fit) (ds : d.DC) (hm : 2 * e.J4 ≤ lim) (hs : 2 * e.size ≤ 1048576) (st : Bool) :
 (run cfg).p aL [e.enc, d.enc, .bool st] = some (.I6 (match xy st e d with
   | .ok T => [(M4 e d T []).1.enc, V6 (M4 e d T []).2, T.ty.enc, .int .i64 0]
   | .error z => [Py.enc, .list 8 [], F7.enc, .int .i64 z])) := by
 have hc := t_ e hf;have hr := A4l d ds;have zT : DV.agg [.int .i64 0, .int .i64 0, .list 3 []] = F7.enc := by rw [Ty.F9]; rfl
 refine (lH _ _ _).trans ?_;rw [qJ];unfold xy
 by_cases h1 : e.right = true
 rotate_left
 ·rw [if_neg h1] at hc
  rw [if_neg fun h => h1 h.1]
  simp [Ex.D8, Ex.ag, A9.D8, A9.ag, hc, nD, zT]
 rw [if_pos h1] at hc
 by_cases h2 : d.AO = true
 rotate_left
 ·rw [if_neg fun h => h2 h.2]
  simp only [z7q] at h2;rw [h2] at hr;simp [Ex.D8, Ex.ag, A9.D8, A9.ag, hc, hr, nD, zT]
 rw [if_pos ⟨h1, h2⟩];rw [h2] at hr;have jp : JP [.map false [], .box (X_ st 0 [] .full 0)] 1 0 := ⟨by simp, by simp, by omega⟩
 have sp := A5u st e h1 hf d [] [] h2 ds (fun x hx => by simp at hx) (by simpa using hm) [.map false [], .box (X_ st 0 [] .full 0)] 1 0 jp [] [] .full AP.nil (.inl rfl) (by simpa using hs)
 have e0 : R5 [.map false [], .box (X_ st 0 [] .full 0)] 1 0 st [] [] .full 0 = [D7.map false [], .box [(.bool st, .val), (.undef, .map 0), (.list 8 [], .full), (.int .i64 0, .val)]] := rfl;rw [e0] at sp;obtain ⟨v, es, L, m, er, q1, q2, q3, q4, q5⟩ := sp;have nl : H8 [] = .list 5 [] := rfl;rw [nl] at q1;have AU := BI jp st es L m er;cases hj : jt st e d [] [] with
 | ok T =>
   rw [hj] at q5;simp only [jW] at q5;obtain ⟨rfl, rfl, rfl⟩ := q5;simp [Ex.D8, Ex.ag, A9.D8, A9.ag, hc, hr, q1, AU, CR jp, B5G q4, Tm.D8, Tm.ag, Ty.D8, Ty.ag]
 | error z =>
   rw [hj] at q5;simp only [jW] at q5;obtain ⟨rfl, hz⟩ := q5;simp [Ex.D8, Ex.ag, A9.D8, A9.ag, hc, hr, q1, q2, AU, hz, CR jp, nD, zT]
end Go.Su

/-
 What the reference's judging does: the small functions, a derivation's own part.
-/
namespace Go.Su
def ZL (lax : Bool) (er : Int) : List (DV × Meta) := [(.int .i64 er, .val), (.bool lax, .val)]
def V9 (sg : List D7) (p : Nat) (lax : Bool) (er : Int) : List D7 := sg.set p (.box (ZL lax er))
@[simp] theorem B6e (lax : Bool) (er : Int) : U4 (ZL lax er) 0 = some (.int .i64 er) := rfl
@[simp] theorem B86 (lax : Bool) (er : Int) : U4 (ZL lax er) 1 = some (.bool lax) := rfl
@[simp] theorem B8B (lax : Bool) (er : Int) : (ZL lax er)[0]? = some (.int .i64 er, .val) := rfl
@[simp] theorem B8C (lax : Bool) (er z : Int) : (ZL lax er).set 0 (.int .i64 z, .val) = ZL lax z := rfl
section
variable {sg : List D7} {p : Nat} (h : p < sg.length) (lax : Bool) (er : Int)
include h
theorem DD : M7 (V9 sg p lax er) p = some (ZL lax er) := by
 simp [M7, V9, z25q h]
omit h in
theorem A8Z (z : Int) : (V9 sg p lax er).set p (.box (ZL lax z)) = V9 sg p lax z := by
 unfold V9;rw [List.set_set]
theorem Ho (z : Int) : (run cfg).r Bd [(.undef, .ptr p 0), (.int .i64 z, .val)] (V9 sg p lax er) = some ([], V9 sg p lax (if er = 0 then z else er)) := by
 refine (gQ _ _ _).trans ?_;rw [ku]
 by_cases h0 : er = 0
 ·simp [DD h, h0, A8Z]
 ·simp [DD h, h0]
theorem FN (a b : Ty) (ha : a.right = true) (hb : b.right = true) : (run cfg).r Bc [(.undef, .ptr p 0), (a.enc, .val), (b.enc, .val)] (V9 sg p lax 0) = some ([], V9 sg p lax (if a.agrees b = true then 0 else 4)) := by
 have hg := A7G a ha b hb;refine (WU _ _ _ _).trans ?_;rw [Yb];cases mH : a.agrees b <;> rw [mH] at hg <;> simp [DD h, Ty.D8, Ty.ag, hg, A8Z]
theorem Au (hz : er ≠ 0) (x y z : DV) (b : Ty) : (run cfg).r Bc [(.undef, .ptr p 0), (.agg [x, y, z], .val), (b.enc, .val)] (V9 sg p lax er) = some ([], V9 sg p lax er) := by
 refine (WU _ _ _ _).trans ?_;rw [Yb];have : C9 3 (.agg [x, y, z]) = true := rfl;simp [DD h, hz, this]
end
theorem yV (a : Ty) (ha : a.none = true ∨ a.right = true) (ts : List Ty) (h : a.kind = 0 → 0 < ts.length) : (run cfg).p XG [a.enc, .list 3 (ts.map Ty.enc)] = some (J6 a (ts.getD 0 F7)).enc := by
 refine (sH _ _).trans ?_;rw [wD];have hn := Dy a
 by_cases h0 : a.kind = 0
 ·have hl := h h0
  have Ey : a.none = true := by
   rcases ha with ha | ha
   ·exact ha
   ·exact absurd h0 (Ty.k0 ha)
  rw [Ey] at hn;have e1 : E8 3 (.list 3 (ts.map Ty.enc)) (.int .i64 (0 : Int)) = some (ts.getD 0 F7).enc := by
   have := F3 (e := Ty.enc) (sz := 3) (k := .i64) (i := 0) hl;rw [z3q, z2q hl];exact this
  simp [Ty.D8, Ty.ag];simp [hn, e1, J6, h0, Ty.D8, Ty.ag]
 ·have Ey : a.none = false := by
   cases hx : a.none with
   | false => rfl
   | true => exact absurd (Ty.Dn hx) h0
  rw [Ey] at hn;simp [Ty.D8, Ty.ag, hn, J6, h0]
theorem eU (l : List Nm) (s : ByteArray) (t : Ty) (hl : l.length < lim) : (run cfg).p QU [H8 l, .str s, t.enc] = some (H8 (l ++ [⟨s, t, []⟩])) := by
 refine (sI _ _ _).trans ?_;rw [wE];have e1 : R8 5 (.list 5 []) (H8 l) = some (H8 l) := by
  have := Dj (sz := 5) (a := []) (b := l.map Nm.enc) (by simp; omega)
  rw [z15q] at this;exact this
 have e2 := l6 (e := Nm.enc) (sz := 5) (l := l) (x := ⟨s, t, []⟩) hl;have e2' : R8 5 (H8 l) (.list 5 [.agg [.str s, .int .i64 t.kind, .int .i64 t.n, .list 3 (t.kids.map Ty.enc), .list 1 []]]) = some (H8 (l ++ [⟨s, t, []⟩])) := e2;simp [e1, e2']
theorem A1A (l : List Nm) (hl : l.length ≤ lim) (n : ByteArray) : ∃ i : Int, (run cfg).p ZV [H8 l, .str n] = some (.int .i64 i) ∧ (match BD l n with
 | none => i < 0
 | some x => 0 ≤ i ∧ E8 5 (H8 l) (.int .i64 i) = some x.enc) := by
 have hb := big hl;have loop : ∀ (m : Nat), m ≤ l.length → ∃ i : Int, RN (run cfg) (H8 l) (.str n) (.int .i64 ((m : Int) - 1)) = some (.int .i64 i) ∧ (match BD (l.take m) n with
  | none => i < 0
  | some x => 0 ≤ i ∧ E8 5 (H8 l) (.int .i64 i) = some x.enc) := by
  intro m
  induction m with
  | zero =>
    intro _;refine ⟨-1, ?_, by simp [BD]⟩
    rw [PQ];simp
  | succ m ih =>
    intro Jb;have h : m < l.length := by omega
    obtain ⟨i, h1, h2⟩ := ih (by omega)
    have e1 : ((m + 1 : Nat) : Int) - 1 = (m : Int) := by omega
    have e2 : E8 5 (H8 l) (.int .i64 (m : Int)) = some l[m].enc := F3 h;have e3 : A8 .sub (.int .i64 (m : Int)) (.int .i64 1) = some (.int .i64 ((m : Int) - 1)) := by rw [BU, A_ (by omega) (by omega)]
    rw [e1]
    by_cases hn : l[m].name = n
    ·subst hn
     refine ⟨m, ?_, ?_⟩
     ·rw [PQ]
      simp [e2]
     ·unfold BD
      rw [z14q h, z28q];simp [e2]
    ·refine ⟨i, ?_, ?_⟩
     ·rw [PQ]
      simp [e2, hn, e3, h1]
     ·unfold BD at h2 ⊢
      rw [z14q h, z28q];simpa [hn] using h2
 obtain ⟨i, h1, h2⟩ := loop l.length (Nat.le_refl _);rw [List.take_length] at h2;refine ⟨i, (w_ _ _).trans ?_, h2⟩;rw [A0U];have e3 : A8 .sub (.int .i64 (l.length : Int)) (.int .i64 1) = some (.int .i64 ((l.length : Int) - 1)) := by rw [BU, A_ (by omega) (by omega)]
 simp [e3, h1]
theorem A3H (e : Ex) (hr : e.right = true) (hf : e.fit) : (run cfg).p uH [e.enc] = some (.I6 [.int .i64 (M8 e []), .bool (Ay e)]) := by
 have own := Ex.S9 hr;have k1 := own.k1;have na := Dy e.a;have nb := Dy e.b;have hna : e.a.none = decide (e.a.kind = 0) := by
  rcases own.a with h | h
  ·rw [h]; simp [Ty.Dn h]
  ·have := Ty.k0 h
   cases hx : e.a.none with
   | true => exact absurd (Ty.Dn hx) this
   | false => simp [this]
 have hnb : e.b.none = decide (e.b.kind = 0) := by
  rcases own.b with h | h
  ·rw [h]; simp [Ty.Dn h]
  ·have := Ty.k0 h
   cases hx : e.b.none with
   | true => exact absurd (Ty.Dn hx) this
   | false => simp [this]
 rw [hna] at na;rw [hnb] at nb;have a00 : A8 .add (.int .i64 0) (.int .i64 0) = some (.int .i64 0) := Ck (by omega) (by omega)
 have a01 : A8 .add (.int .i64 0) (.int .i64 1) = some (.int .i64 1) := Ck (by omega) (by omega)
 have ai : A8 .add (.int .i64 1) (.int .i64 0) = some (.int .i64 1) := Ck (by omega) (by omega)
 have VZ : A8 .add (.int .i64 1) (.int .i64 1) = some (.int .i64 2) := Ck (by omega) (by omega)
 refine (A1a _).trans ?_;rw [A2V];have h6 : ∀ x y : Int, (x = if e.a.kind = 0 then 1 else 0) → (y = if e.b.kind = 0 then 1 else 0) → XL (run cfg) (.int .i64 x) (.int .i64 y) e.enc = some (.I6 [.int .i64 (M8 e []), .bool (Ay e)]) := by
  intro x y hx hy;rw [wC]
  by_cases h7 : e.kind = 7
  ·simp [h7, M8, Ay]
  by_cases h8 : e.kind = 8
  ·simp [h8, M8, Ay]
  by_cases Fv : e.kind = 13
  ·simp [Fv, M8, Ay]
  by_cases h9 : e.kind = 9
  ·by_cases ha : e.a.kind = 0 <;> simp [h9, M8, Ay, hx, ha]
  by_cases Af : e.kind = 11
  ·by_cases ha : e.a.kind = 0
   ·have hk : 0 < e.kids.length := own.CK (i := 0) (by simp [K3, Af])
    have e1 : E8 16 (.list 16 (e.kids.map Ex.enc)) (.int .i64 (0 : Int)) = some (e.kid 0).enc := by
     rw [Z9 hk];exact F3 (e := Ex.enc) (sz := 16) (k := .i64) (i := 0) hk
    have hm : e.kid 0 ∈ e.kids := by rw [Z9 hk]; exact z5q hk
    have hv := A7D (e.kid 0) (hf.kid hm) (Ex.Q0 hr hm);simp [Af, ha, hx, e1, Ex.D8, Ex.ag, hv, M8, Ay]
   ·simp [Af, ha, hx, M8, Ay]
  by_cases AZ : e.kind = 12
  ·by_cases ha : e.a.kind = 0 <;> by_cases hb : e.b.kind = 0 <;> simp [AZ, ha, hb, hx, hy, M8, Ay, a00, a01, ai, VZ]
  by_cases EF : e.kind = 14
  ·simp [EF, M8, Ay]
  ·by_cases h1 : e.kind = 1
   ·simp [h1, M8, Ay, BD]
   ·simp [h1, h7, h8, Fv, EF, Af, h9, AZ, M8, Ay]
 by_cases ha : e.a.kind = 0 <;> by_cases hb : e.b.kind = 0
 all_goals
  have := h6 (if e.a.kind = 0 then 1 else 0) (if e.b.kind = 0 then 1 else 0) rfl rfl
  simp only [ha, hb, if_true, if_false, decide_true, decide_false] at this na nb;simp [Ty.D8, Ty.ag, na, nb, wB, this]
end Go.Su

/-
 What the reference's judging does: a derivation's own part, right derivations.
-/
namespace Go.Su
theorem A9.types_size {d : A9} {t : Ty} (h : t ∈ d.types) : t.size < d.J4 := by
 have := Ap (z13q (f := Ty.size) h);have := A9.VH d;omega
theorem A9.TJ (d : A9) : d.types.length < d.J4 := by
 have : ∀ l : List Ty, l.length ≤ (l.map Ty.size).sum := by
  intro l
  induction l with
  | nil => simp
  | cons x l ih => have := Ty.OZ x; simp only [z26q, z8q, z29q]; omega
 have := this d.types;have := A9.VH d;omega
def iU (er z : Int) : Int := if er = 0 then z else er
theorem A3Q (er : Int) : iU er 0 = er := by unfold iU; split <;> omega
section
variable {sg : List D7} {p : Nat} (h : p < sg.length) (lax : Bool)
include h
theorem B1q (out : List Int) (hl : out.length ≤ lim) (d : A9) (i : Nat) (hi : i < d.types.length) (TE : (d.types.length : Int) < 4294967297) (vs : List Int) (hv : vs.length ≤ lim) : ∀ (m k : Nat) (er : Int), k + m = vs.length →
 Ii (run cfg) p (F4 out) (.int .i64 i) (F4 vs) (.int .i64 k) d.enc (V9 sg p lax er) = Fb (run cfg) p (F4 out) (.int .i64 ((i : Int) + 1)) d.enc (V9 sg p lax (iU er (if (vs.drop k).all (fun v => decide (v ∈ out)) = true then 0 else 6))) := by
 have hb := big hv;intro m
 induction m with
 | zero =>
   intro k er hk;rw [SI, z16q (by omega)]
   have : ¬ k < vs.length := by omega
   simp [this, A3Q, J7 (show i < 9223372036854775807 by omega)]
 | succ m ih =>
   intro k er hk;have H7 : k < vs.length := by omega
   have nx := ih (k + 1);push_cast at nx;have De := yQ out hl vs[k];rw [SI, z10q H7, List.all_cons]
   by_cases hm : vs[k] ∈ out
   ·simp only [hm, decide_true] at De
    simp [H7, U0 H7, De, J7 (show k < 9223372036854775807 by omega), nx er (by omega), hm]
   ·simp only [hm, decide_false] at De
    have sw := Ho h lax er 6;simp [H7, U0 H7, De, sw, J7 (show k < 9223372036854775807 by omega), nx _ (by omega), hm]
    congr 1
    congr 1
    simp only [iU]
    by_cases h0 : er = 0
    ·simp only [h0, if_true]; simp
    ·simp [h0]
theorem B1p (out : List Int) (hl : out.length ≤ lim) (d : A9) (hd : d.J4 ≤ lim) : ∀ (m k : Nat) (er : Int), k + m = d.types.length →
 Fb (run cfg) p (F4 out) (.int .i64 k) d.enc (V9 sg p lax er) = some ([F4 out], V9 sg p lax (iU er (Lv (!lax) out (d.types.drop k)))) := by
 have htl := A9.TJ d;have hb : d.types.length < 4294967297 := big (by omega)
 intro m
 induction m with
 | zero =>
   intro k er hk;rw [SH, z16q (by omega)]
   have : ¬ k < d.types.length := by omega
   simp [this, Lv, A3Q]
 | succ m ih =>
   intro k er hk;have H7 : k < d.types.length := by omega
   have nx := fun er => ih (k + 1) er (by omega)
   push_cast at nx;have Y9 := A9.types_size (z5q H7);have TE : d.types[k].thin = true := Ty.DW (by omega)
   have hw := Pg 5 d.types[k] TE;have hv := A1y d.types[k] (by omega)
   have hvl : d.types[k].vars.length ≤ lim := by
    have := Ty.A3N d.types[k] [];simp at this;unfold Ty.vars;omega
   have inner := fun er => B1q h lax out hl d k H7 (by omega) d.types[k].vars hvl d.types[k].vars.length 0 er (by omega)
   have e23 : ∀ er, KF (run cfg) p (F4 out) (.int .i64 k) d.enc (V9 sg p lax er) = some ([F4 out], V9 sg p lax (iU (iU er (if dU out d.types[k] = true then 0 else 6)) (Lv (!lax) out (d.types.drop (k + 1))))) := by
    intro er;rw [gB];have := inner er;have hi : d.types[k].vars.all (fun v => decide (v ∈ out)) = dU out d.types[k] := rfl
    rw [z21q, hi] at this;simp only [z1q, z4q, z0q] at this;simp [F3 H7, Ty.D8, Ty.ag, hv, this, nx]
   rw [SH, z10q H7, Lv];cases lax with
   | true =>
     simp [H7, DD h, e23]
     congr 1
     by_cases De : dU out d.types[k] = true
     ·simp [De, A3Q]
     ·simp only [z7q] at De
      simp only [De, iU]
      by_cases h0 : er = 0 <;> simp [h0]
   | false =>
     cases h5 : d.types[k].without 5 with
     | true =>
       rw [h5] at hw;simp [H7, DD h, F3 H7, Ty.D8, Ty.ag, hw, e23]
       congr 1
       by_cases De : dU out d.types[k] = true
       ·simp [De, A3Q]
       ·simp only [z7q] at De
        simp only [De, iU]
        by_cases h0 : er = 0 <;> simp [h0]
     | false =>
       rw [h5] at hw;have sw := Ho h false er 9;simp [H7, DD h, F3 H7, Ty.D8, Ty.ag, hw, sw, e23]
       congr 1
       simp only [iU]
       by_cases h0 : er = 0 <;> simp [h0]
theorem B2T (S : List Int) (d : A9) (hd : S.length + d.J4 ≤ lim) : ∀ (m k : Nat) (er : Int), k + m = d.vars.length →
 Ih (run cfg) p (F4 (S ++ d.vars.take k)) (.int .i64 k) d.enc (V9 sg p lax er) = Fb (run cfg) p (F4 (S ++ d.vars)) (.int .i64 0) d.enc (V9 sg p lax (iU er (if (∀ j (h : j < d.vars.length), k ≤ j → d.vars[j] ∉ S ∧ d.vars[j] ∉ d.vars.take j) then 0 else 6))) := by
 have hvl := A9.YC d;have hb : d.vars.length < 4294967297 := big (by omega)
 intro m
 induction m with
 | zero =>
   intro k er hk;rw [SG, List.take_of_length_le (by omega)]
   have : ¬ k < d.vars.length := by omega
   have h2 : ∀ j (h : j < d.vars.length), k ≤ j → d.vars[j] ∉ S ∧ d.vars[j] ∉ d.vars.take j := fun j h h' => by omega
   rw [if_pos h2, A3Q];simp [this]
 | succ m ih =>
   intro k er hk;have H7 : k < d.vars.length := by omega
   have nx := fun er => ih (k + 1) er (by omega)
   push_cast at nx;have hl : (S ++ d.vars.take k).length ≤ lim := by simp; omega
   have De := yQ (S ++ d.vars.take k) hl d.vars[k];have Kh := l6 (e := fun n : Int => DV.int .i64 n) (sz := 1) (l := S ++ d.vars.take k) (x := d.vars[k]) (by simp; omega)
   have oG : R8 1 (F4 (S ++ d.vars.take k)) (.list 1 [.int .i64 d.vars[k]]) = some (F4 (S ++ d.vars.take (k + 1))) := by
    rw [z14q H7, ← z18q];exact Kh
   have e17 : ∀ er, PH (run cfg) p (F4 (S ++ d.vars.take k)) (.int .i64 k) d.enc (V9 sg p lax er) = Ih (run cfg) p (F4 (S ++ d.vars.take (k + 1))) (.int .i64 ((k : Int) + 1)) d.enc (V9 sg p lax er) := by
    intro er;rw [f_];simp [U0 H7, oG, J7 (show k < 9223372036854775807 by omega)]
   rw [SG]
   by_cases hv : d.vars[k] ∈ S ++ d.vars.take k
   ·simp only [hv, decide_true] at De
    have : ¬ ∀ j (h : j < d.vars.length), k ≤ j → d.vars[j] ∉ S ∧ d.vars[j] ∉ d.vars.take j := fun hh => by
     obtain ⟨a, b⟩ := hh k H7 (Nat.le_refl _);rcases z9q.1 hv with hv | hv
     ·exact a hv
     ·exact b hv
    rw [if_neg this];have sw := Ho h lax er 6;simp [H7, U0 H7, De, sw, e17, nx]
    congr 1
    congr 1
    simp only [iU]
    by_cases h0 : er = 0 <;> simp [h0]
   ·simp only [hv, decide_false] at De
    have e1 : (∀ j (h : j < d.vars.length), k ≤ j → d.vars[j] ∉ S ∧ d.vars[j] ∉ d.vars.take j) ↔ ∀ j (h : j < d.vars.length), k + 1 ≤ j → d.vars[j] ∉ S ∧ d.vars[j] ∉ d.vars.take j := by
     constructor
     ·intro hh j hj hkj; exact hh j hj (by omega)
     ·intro hh j hj hkj
      rcases Nat.lt_or_ge k j with h1 | h1
      ·exact hh j hj h1
      ·have : k = j := by omega
       subst this;exact ⟨fun h => hv (z9q.2 (.inl h)), fun h => hv (z9q.2 (.inr h))⟩
    rw [ifc e1];simp [H7, U0 H7, De, e17, nx]
end
theorem B2H {S S' : List Int} (h : ∀ v, v ∈ S ↔ v ∈ S') (t : Ty) : dU S t = dU S' t := by
 rw [Bool.eq_iff_iff, A8M, A8M];exact ⟨fun g v hv => (h v).1 (g v hv), fun g v hv => (h v).2 (g v hv)⟩
theorem xz (st : Bool) {S S' : List Int} (h : ∀ v, v ∈ S ↔ v ∈ S') : ∀ ts, Lv st S ts = Lv st S' ts
 | [] => rfl
 | t :: ts => by simp only [Lv, B2H h, xz st h ts]
theorem B0j {S S' : List Int} (h : ∀ v, v ∈ S ↔ v ∈ S') (l : List Int) : takes S l = takes S' l := by
 rw [Bool.eq_iff_iff, TI, TI];exact ⟨fun g => ⟨g.1, fun v hv hS => g.2 v hv ((h v).2 hS)⟩, fun g => ⟨g.1, fun v hv hS => g.2 v hv ((h v).1 hS)⟩⟩
section
variable {sg : List D7} {p : Nat} (h : p < sg.length) (lax : Bool)
include h
theorem B5Y (e : Ex) (d : A9) (l : List Nm) (hx : e.kind = 1 → BD l e.name ≠ none) {S S' : List Int} (hS : ∀ v, v ∈ S ↔ v ∈ S') (hd : S'.length + d.J4 ≤ lim) :
 ∃ out, RL (run cfg) p (F4 S') (.int .i64 (M8 e l)) (.bool (Ay e)) e.enc d.enc (V9 sg p lax 0) = some ([F4 out], V9 sg p lax (DT (!lax) e d l S)) ∧ (DT (!lax) e d l S = 0 → out = S' ++ d.vars) := by
 have h0 : ¬ (e.kind = 1 ∧ BD l e.name = none) := fun hh => hx hh.1 hh.2
 have sw := Ho h lax 0 8;rw [if_pos rfl] at sw;unfold DT;rw [if_neg h0, ko]
 by_cases s2 : d.kids.length = e.kids.length
 rotate_left
 ·have s2' : ¬ ((d.kids.length : Int) = (e.kids.length : Int)) := by omega
  have VC : Hl e d l = false := by simp [Hl, s2]
  rw [if_pos VC];exact ⟨[], by simp [s2', sw], by omega⟩
 by_cases s1 : d.types.length = M8 e l
 rotate_left
 ·have s1' : ¬ ((d.types.length : Int) = (M8 e l : Int)) := by omega
  have VC : Hl e d l = false := by simp [Hl, s1]
  rw [if_pos VC];exact ⟨[], by simp [s1, s1', s2, sw], by omega⟩
 by_cases s3 : d.vars = [] ∨ Ay e = true
 rotate_left
 ·simp only [not_or, z7q] at s3
  have s3' : 0 < d.vars.length := List.length_pos_iff.2 s3.1;have VC : Hl e d l = false := by simp [Hl, s1, s2, s3.1, s3.2]
  rw [if_pos VC];exact ⟨[], by simp [s1, s2, s3.1, s3.2, s3', sw], by omega⟩
 have VC : Hl e d l = true := by
  unfold Hl;simp only [s1, s2, decide_true, Bool.true_and, Bool.or_eq_true, decide_eq_true_eq];exact s3
 rw [if_neg (by rw [VC]; simp)]
 have e11 : KE (run cfg) p (F4 S') d.enc (V9 sg p lax 0) = some ([F4 (S' ++ d.vars)], V9 sg p lax (iU (if takes S d.vars = true then 0 else 6) (Lv (!lax) (S' ++ d.vars) d.types))) := by
  have e1 : R8 1 (.list 1 []) (F4 S') = some (F4 S') := by
   have := Dj (sz := 1) (a := []) (b := S'.map fun n : Int => DV.int .i64 n) (by simp; omega)
   rw [z15q] at this;exact this
  have hvl := A9.YC d;have lp := B2T h lax S' d hd d.vars.length 0 0 (by omega)
  have lt := B1p h lax (S' ++ d.vars) (by simp; omega) d (by omega) d.types.length 0
  simp only [List.take_zero, z23q, z21q, z1q, z4q, z0q] at lp lt;rw [fw];simp [e1];rw [lp, lt _ (by omega)]
  have : (∀ j (h : j < d.vars.length), 0 ≤ j → d.vars[j] ∉ S' ∧ d.vars[j] ∉ d.vars.take j) ↔ takes S d.vars = true := by
   rw [B0j hS, TI, ← oU];constructor
   ·intro hh
    refine ⟨fun j hj => (hh j hj (Nat.zero_le _)).2, fun v hv => ?_⟩
    obtain ⟨j, hj, rfl⟩ := List.getElem_of_mem hv;exact (hh j hj (Nat.zero_le _)).1
   ·rintro ⟨h1, h2⟩ j hj -
    exact ⟨h2 _ (z5q hj), h1 j hj⟩
  rw [ifc this]
  congr 3
 have hty : Lv (!lax) (S' ++ d.vars) d.types = Lv (!lax) (if e.kind = 12 then d.vars ++ S else S) d.types := by
  by_cases AZ : e.kind = 12
  ·rw [if_pos AZ]
   refine xz _ (fun v => ?_) _
   rw [z9q, z9q, hS v, or_comm]
  ·rw [if_neg AZ]
   rcases s3 with s3 | s3
   ·rw [s3, z23q]
    exact xz _ (fun v => (hS v).symm) _
   ·have : e.kind = 11 := by
     simp only [Ay, AZ] at s3;simp at s3;exact s3.1.1
    have : d.types = [] := List.eq_nil_of_length_eq_zero (by rw [s1]; simp [M8, this])
    rw [this];rfl
 refine ⟨S' ++ d.vars, ?_, fun _ => rfl⟩
 have e8 : KE (run cfg) p (F4 S') d.enc (V9 sg p lax 0) = some ([F4 (S' ++ d.vars)], V9 sg p lax (if takes S d.vars = false then 6 else Lv (!lax) (if e.kind = 12 then d.vars ++ S else S) d.types)) := by
  rw [e11, hty];cases takes S d.vars <;> simp [iU]
 rcases s3 with s3 | s3
 ·have mO : ¬ (0 : Int) < (d.vars.length : Int) := by rw [s3]; simp
  simp [s1, s2, s3];rw [s3] at e8;simpa using e8
 ·by_cases hv : 0 < d.vars.length
  ·simp [s1, s2, s3, hv]
   simpa using e8
  ·simp [s1, s2, s3, hv]
   simpa using e8
theorem B0f (e : Ex) (hr : e.right = true) (hf : e.fit) (d : A9) (l : List Nm) (hl : l.length ≤ lim) {S S' : List Int} (hS : ∀ v, v ∈ S ↔ v ∈ S') (hd : S'.length + d.J4 ≤ lim) :
 ∃ out, (run cfg).r QT [(.undef, .ptr p 0), (e.enc, .val), (d.enc, .val), (H8 l, .val), (F4 S', .val)] (V9 sg p lax 0) = some ([F4 out], V9 sg p lax (DT (!lax) e d l S)) ∧ (DT (!lax) e d l S = 0 → out = S' ++ d.vars) := by
 have key : ∀ {q}, XK (run cfg) p e.enc d.enc (H8 l) (F4 S') (V9 sg p lax 0) = some q → (run cfg).r QT [(.undef, .ptr p 0), (e.enc, .val), (d.enc, .val), (H8 l, .val), (F4 S', .val)] (V9 sg p lax 0) = some q := fun hq => A3R _ _ _ _ _ _ hq
 have e0 := v_ (run cfg) p e.enc d.enc (H8 l) (F4 S') (V9 sg p lax 0)
 by_cases h1 : e.kind = 1
 ·have hm := A3H e hr hf
  have hjo : Ay e = false := by simp [Ay, h1]
  obtain ⟨i, i1, i2⟩ := A1A l hl e.name;cases hx : BD l e.name with
  | none =>
    rw [hx] at i2;have Hd : DT (!lax) e d l S = 6 := by simp [DT, h1, hx]
    have sw := Ho h lax 0 6;rw [if_pos rfl] at sw;have i3 : i < 0 := i2;refine ⟨[], key ?_, by rw [Hd]; omega⟩
    rw [e0, Hd];simp [Ex.D8, Ex.ag, hm, O4, i1];simp [h1, i3, sw]
  | some x =>
    rw [hx] at i2;obtain ⟨i3, i4⟩ := i2;have i5 : ¬ i < 0 := by omega
    obtain ⟨out, o1, o2⟩ := B5Y h lax e d l (fun _ => by rw [hx]; simp) hS hd
    have hj : M8 e l = x.vars.length := by simp [M8, h1, hx]
    rw [hj, hjo] at o1;refine ⟨out, key ?_, o2⟩;rw [e0];simp [Ex.D8, Ex.ag, hm, O4, i1];simp [h1, i4, i5, hjo, o1]
 ·have hm := A3H e hr hf
  obtain ⟨out, o1, o2⟩ := B5Y h lax e d l (fun h => absurd h h1) hS hd
  have hj : M8 e l = M8 e [] := by simp [M8, h1]
  rw [hj] at o1;refine ⟨out, key ?_, o2⟩;rw [e0];simp [Ex.D8, Ex.ag, hm, O4, h1, o1]
end
end Go.Su

/-
 What the reference's judging does: kids, and what a call comes to.
-/
namespace Go.Su
def JT.enc : JT → DV
 | .mk t ks => .agg [.int .i64 t.kind, .int .i64 t.n, .list 3 (t.kids.map Ty.enc), .list 4 (ks.map JT.enc)]
theorem JT.F9 (T : JT) : T.enc = .agg [.int .i64 T.ty.kind, .int .i64 T.ty.n, .list 3 (T.ty.kids.map Ty.enc), .list 4 (T.kids.map JT.enc)] := by
 cases T;rw [JT.enc];rfl
def Nn (t : Ty) (ks : List DV) : DV := .agg [.int .i64 t.kind, .int .i64 t.n, .list 3 (t.kids.map Ty.enc), .list 4 ks]
theorem JT.Nn (t : Ty) (ks : List JT) : (JT.mk t ks).enc = Go.Su.Nn t (ks.map JT.enc) := JT.F9 _
def Ag (v : DV) : Prop := ∃ a b c ks, v = .agg [a, b, c, .list 4 ks]
theorem Ag.of (a b c : DV) (ks : List DV) : Ag (.agg [a, b, c, .list 4 ks]) := ⟨a, b, c, ks, rfl⟩
theorem Ag.T (t : Ty) (ks : List DV) : Ag (Nn t ks) := ⟨_, _, _, _, rfl⟩
theorem Ag.enc (T : JT) : Ag T.enc := by rw [JT.F9]; exact ⟨_, _, _, _, rfl⟩
theorem BJ (a b c : DV) (ks : List DV) (i : Nat) (T : JT) (h : ks[i]? = some T.enc) : (run cfg).p AC [.agg [a, b, c, .list 4 ks], .int .i64 (i : Int)] = some T.ty.enc := by
 refine (bV _ _).trans ?_;rw [jK];have hl : i < ks.length := by
  rcases Nat.lt_or_ge i ks.length with h1 | h1
  ·exact h1
  ·rw [z27q h1] at h; cases h
 have e1 : E8 4 (.list 4 ks) (.int .i64 (i : Int)) = some T.enc := by rw [u_, h]
 have e2 : C9 4 (.agg [a, b, c, .list 4 ks]) = true := rfl;have e3 : A7 3 (.agg [a, b, c, .list 4 ks]) = .list 4 ks := rfl;have e4 : dLen (.list 4 ks) = some (.int .i64 ks.length) := rfl;rw [e2, e3, e4, O6, I1, e1];simp [hl, JT.F9];exact Ty.D8 _
theorem V5 {v : DV} (hv : Ag v) (i : Nat) : ∃ x y z, (run cfg).p AC [v, .int .i64 (i : Int)] = some (.agg [x, y, z]) := by
 obtain ⟨a, b, c, ks, rfl⟩ := hv;have e2 : C9 4 (.agg [a, b, c, .list 4 ks]) = true := rfl;have e3 : A7 3 (.agg [a, b, c, .list 4 ks]) = .list 4 ks := rfl;have e4 : dLen (.list 4 ks) = some (.int .i64 ks.length) := rfl;have e0 := jK (run cfg) (.agg [a, b, c, .list 4 ks]) (.int .i64 (i : Int));rw [e2, e3, e4, O6, I1] at e0
 by_cases hl : i < ks.length
 ·have e1 : E8 4 (.list 4 ks) (.int .i64 (i : Int)) = some ks[i] := by rw [u_, z2q hl]
  rw [e1] at e0;simp [hl] at e0;exact ⟨_, _, _, qE _ _ e0⟩
 ·simp [hl] at e0
  exact ⟨_, _, _, qE _ _ e0⟩
def O3 (sg : List D7) (p : Nat) (lax : Bool) (q : Option (List DV × List D7)) (r : Except Int DV) : Prop :=
 ∃ v er, q = some ([v], V9 sg p lax er) ∧ Ag v ∧ (match r with
   | .ok w => er = 0 ∧ v = w
   | .error z => er = z ∧ z ≠ 0)
def jE : JR → Except Int DV
 | .ok T => .ok T.enc
 | .error z => .error z
theorem VD (T : JT) : jE (.ok T) = .ok T.enc := rfl
theorem EI (z : Int) : jE (.error z) = .error z := rfl
section
variable {sg : List D7} {p : Nat} {lax : Bool}
theorem O3.ok {v : DV} {q : Option (List DV × List D7)} (h : q = some ([v], V9 sg p lax 0)) (hv : Ag v) : O3 sg p lax q (.ok v) := ⟨v, 0, h, hv, rfl, rfl⟩
theorem O3.err {v : DV} {z : Int} {q : Option (List DV × List D7)} (h : q = some ([v], V9 sg p lax z)) (hz : z ≠ 0) (hv : Ag v) : O3 sg p lax q (.error z) := ⟨v, z, h, hv, rfl, hz⟩
theorem O3.then {qa : Option (List DV × List D7)} {ra r : Except Int DV} {k : List DV × List D7 → Option (List DV × List D7)} (h : O3 sg p lax qa ra)
 (AU : ∀ v, ra = .ok v → Ag v → O3 sg p lax (k ([v], V9 sg p lax 0)) r) (B2B : ∀ z a b c ks, ra = .error z → z ≠ 0 → O3 sg p lax (k ([.agg [a, b, c, .list 4 ks]], V9 sg p lax z)) r) : O3 sg p lax (ob qa k) r := by
 obtain ⟨v, er, h1, h2, h3⟩ := h;rw [h1];cases hr : ra with
 | ok w =>
   rw [hr] at h3;obtain ⟨rfl, rfl⟩ := h3;exact AU _ hr h2
 | error z =>
   rw [hr] at h3;obtain ⟨rfl, hz⟩ := h3;obtain ⟨a, b, c, ks, rfl⟩ := h2;exact B2B _ a b c ks hr hz
theorem O3.map {q q' : Option (List DV × List D7)} {r : Except Int DV} (h : O3 sg p lax q r) (e : q' = q) : O3 sg p lax q' r := e ▸ h
theorem O3.pass {qa : Option (List DV × List D7)} {r : Except Int DV} (h : O3 sg p lax qa r) {k : List DV × List D7 → Option (List DV × List D7)} (hk : ∀ a b c ks s, k ([.agg [a, b, c, .list 4 ks]], s) = some ([.agg [a, b, c, .list 4 ks]], s)) : O3 sg p lax (ob qa k) r := by
 obtain ⟨v, er, h1, h2, h3⟩ := h;obtain ⟨a, b, c, ks, rfl⟩ := h2;exact ⟨_, er, by rw [h1]; exact hk .., ⟨a, b, c, ks, rfl⟩, h3⟩
end
def yw (lax : Bool) (e : Ex) : Prop := e.right = true → e.fit → ∀ (d : A9) (l : List Nm) (S S' : List Int), d.AO = true → d.DC → Aa l → l.length + 2 * e.J4 ≤ lim → (∀ v, v ∈ S ↔ v ∈ S') → S'.length + d.J4 ≤ lim →
 ∀ (sg : List D7) (p : Nat), p < sg.length → O3 sg p lax ((run cfg).r TP [(.undef, .ptr p 0), (e.enc, .val), (d.enc, .val), (H8 l, .val), (F4 S', .val)] (V9 sg p lax 0)) (jE (jt (!lax) e d l S))
abbrev mT : Meta := .Ad [.val, .val, .val, .own]
theorem A9.B1c {d : A9} {i : Nat} (h : i < d.kids.length) : d.kid i ∈ d.kids := by
 have : d.kid i = d.kids[i] := by simp only [A9.kid, z3q, z2q h, z20q]
 rw [this];exact z5q h
theorem A9.Wi {d : A9} {i : Nat} (h : i < d.kids.length) : d.vars.length + (d.kid i).J4 < d.J4 := by
 rw [A9.U9 d];have := Ap (z13q (f := A9.J4) (A9.B1c h));omega
def A9b (a b c : DV) (ks : List DV) : JR → Except Int DV
 | .ok T => .ok (.agg [a, b, c, .list 4 (ks ++ [T.enc])])
 | .error z => .error z
theorem Fh {a b c v : DV} {ks : List DV} {r : JR} (h : A9b a b c ks r = .ok v) : ∃ T, r = .ok T ∧ v = .agg [a, b, c, .list 4 (ks ++ [T.enc])] := by
 cases r with
 | error z => cases h
 | ok T => cases h; exact ⟨T, rfl, rfl⟩
theorem Fg {a b c : DV} {ks : List DV} {r : JR} {z : Int} (h : A9b a b c ks r = .error z) : r = .error z := by
 cases r with
 | error z => cases h; rfl
 | ok T => cases h
section
variable {sg : List D7} {p : Nat} (h : p < sg.length) {lax : Bool}
include h
theorem Eu {z : Int} (hz : z ≠ 0) (e : Ex) (d : A9) (i l s a b c : DV) (ks : List DV) :
 (run cfg).r AJ [(.undef, .ptr p 0), (e.enc, .val), (d.enc, .val), (i, .val), (l, .val), (s, .val), (.agg [a, b, c, .list 4 ks], mT)] (V9 sg p lax z) = some ([.agg [a, b, c, .list 4 ks]], V9 sg p lax z) := by
 refine (Yd _ _ _ _ _ _ _ _).trans ?_;rw [bI];have e1 : C9 4 (.agg [a, b, c, .list 4 ks]) = true := rfl;simp only [Ao, Hg, O6, e1, DD h, I1, B6e];simp [hz];exact ⟨rfl, rfl, rfl, rfl⟩
theorem ME {e : Ex} {d : A9} {l : List Nm} (c : JC (!lax) e d l) (ih : ∀ k ∈ e.kids, yw lax k) {i : Nat} (hi : i < e.kids.length) {l' : List Nm} {S S' : List Int} (nl : Aa l') (xn : l'.length + 2 * (e.kid i).J4 ≤ lim) (hS : ∀ v, v ∈ S ↔ v ∈ S') (hd : S'.length + (d.kid i).J4 ≤ lim) (x y z : DV) (ks : List DV) (hk : ks.length < lim) :
 O3 sg p lax ((run cfg).r AJ [(.undef, .ptr p 0), (e.enc, .val), (d.enc, .val), (.int .i64 (i : Int), .val), (H8 l', .val), (F4 S', .val), (.agg [x, y, z, .list 4 ks], mT)] (V9 sg p lax 0)) (A9b x y z ks (jk (!lax) e d i l' S)) := by
 have xm := c.BZ hi;have sp := ih _ xm (Ex.Q0 c.hr xm) (c.hf.kid xm) (d.kid i) l' S S' (A9.Dm c.dr i) (A9.El c.ds i) nl xn hS hd sg p h;obtain ⟨v, er, h1, h2, h3⟩ := sp;obtain ⟨a1, a2, a3, ks2, rfl⟩ := h2;have e1 : E8 16 (.list 16 (e.kids.map Ex.enc)) (.int .i64 (i : Int)) = some (e.kid i).enc := by rw [Z9 hi]; exact F3 hi
 have Vh : i < d.kids.length := by rw [c.kl]; exact hi
 have e2 : E8 3 (.list 3 (d.kids.map A9.enc)) (.int .i64 (i : Int)) = some (d.kid i).enc := by
  have : d.kid i = d.kids[i] := by simp only [A9.kid, z3q, z2q Vh, z20q]
  rw [this]; exact F3 Vh
 have e3 : C9 4 (.agg [x, y, z, .list 4 ks]) = true := rfl;have e4 : C9 4 (.agg [a1, a2, a3, .list 4 ks2]) = true := rfl;have Kh : R8 4 (.list 4 ks) (.list 4 [.agg [a1, a2, a3, .list 4 ks2]]) = some (.list 4 (ks ++ [.agg [a1, a2, a3, .list 4 ks2]])) := Dj (by simp; omega)
 have p0 : A7 0 (.agg [x, y, z, .list 4 ks]) = x := rfl;have p1 : A7 1 (.agg [x, y, z, .list 4 ks]) = y := rfl;have p2 : A7 2 (.agg [x, y, z, .list 4 ks]) = z := rfl;have p3 : A7 3 (.agg [x, y, z, .list 4 ks]) = .list 4 ks := rfl;have q : (run cfg).r AJ [(.undef, .ptr p 0), (e.enc, .val), (d.enc, .val), (.int .i64 (i : Int), .val), (H8 l', .val), (F4 S', .val), (.agg [x, y, z, .list 4 ks], mT)] (V9 sg p lax 0) = some ([.agg [x, y, z, .list 4 (ks ++ [.agg [a1, a2, a3, .list 4 ks2]])]], V9 sg p lax er) := by
  refine (Yd _ _ _ _ _ _ _ _).trans ?_;rw [bI];simp only [Ao, Hg, O6, e3, DD h, I1, B6e, p0, p1, p2, p3];simp [e1, e2, Ex.D8, Ex.ag, A9.D8, A9.ag, h1, e4, Kh]
 refine ⟨_, er, q, Ag.of .., ?_⟩;cases hj : jk (!lax) e d i l' S with
 | error w =>
   unfold jk at hj;rw [hj] at h3;exact h3
 | ok T =>
   unfold jk at hj;rw [hj] at h3;obtain ⟨g1, g2⟩ := h3;exact ⟨g1, by rw [g2]⟩
end
end Go.Su

/-
 What the reference's judging does: pairs, lists, functions, applications.
-/
namespace Go.Su
section
variable (a b c k : DV)
@[simp] theorem B82 : A7 0 (.agg [a, b, c, k]) = a := rfl
@[simp] theorem B83 : A7 1 (.agg [a, b, c, k]) = b := rfl
@[simp] theorem B84 : A7 2 (.agg [a, b, c, k]) = c := rfl
@[simp] theorem B85 : A7 3 (.agg [a, b, c, k]) = k := rfl
@[simp] theorem g4 : C9 4 (.agg [a, b, c, k]) = true := rfl
@[simp] theorem B8Z : A7 0 (.agg [a, b, c]) = a := rfl
@[simp] theorem B80 : A7 1 (.agg [a, b, c]) = b := rfl
@[simp] theorem B81 : A7 2 (.agg [a, b, c]) = c := rfl
@[simp] theorem g3 : C9 3 (.agg [a, b, c]) = true := rfl
end
theorem B6t : DV.agg [.int .i64 0, .int .i64 0, .list 3 []] = F7.enc := by rw [Ty.F9]; rfl
structure RJC (lax : Bool) (e : Ex) (d : A9) (l : List Nm) (S S' : List Int) : Prop extends JC (!lax) e d l where
 hS : ∀ v, v ∈ S ↔ v ∈ S'
 hd : S'.length + d.J4 ≤ lim
 ho : DT (!lax) e d l S = 0
theorem A9.A6J {d : A9} (h : 0 < d.types.length) : E8 3 (.list 3 (d.types.map Ty.enc)) (.int .i64 0) = some d.t0.enc := by
 have : d.t0 = d.types[0] := by simp only [A9.t0, z3q, z2q h, z20q]
 rw [this];exact F3 (e := Ty.enc) (sz := 3) (k := .i64) (i := 0) h
theorem A9.B5D {d : A9} (h : 1 < d.types.length) : E8 3 (.list 3 (d.types.map Ty.enc)) (.int .i64 1) = some d.t1.enc := by
 have : d.t1 = d.types[1] := by simp only [A9.t1, z3q, z2q h, z20q]
 rw [this];exact F3 (e := Ty.enc) (sz := 3) (k := .i64) (i := 1) h
section
variable {sg : List D7} {p : Nat} (h : p < sg.length) {lax : Bool} {e : Ex} {d : A9} {l : List Nm} {S S' : List Int} (c : RJC lax e d l S S') (ih : ∀ k ∈ e.kids, yw lax k)
include h c ih
theorem yK {i : Nat} (hi : i < e.kids.length) (x y z : DV) (ks : List DV) (hk : ks.length < lim) :
 O3 sg p lax ((run cfg).r AJ [(.undef, .ptr p 0), (e.enc, .val), (d.enc, .val), (.int .i64 (i : Int), .val), (H8 l, .val), (F4 S', .val), (.agg [x, y, z, .list 4 ks], mT)] (V9 sg p lax 0)) (A9b x y z ks (jk (!lax) e d i l S)) := by
 have hm := Ex.O5 (c.BZ hi);have Z4 := c.len;have xm := A9.Wi (d := d) (i := i) (by rw [c.kl]; exact hi)
 have hd := c.hd;exact ME h c.toJC ih hi c.nl (by omega) c.hS (by omega) x y z ks hk
omit h ih in
theorem mf {i : Nat} (hi : i < e.kids.length) {T : JT} (hT : jk (!lax) e d i l S = .ok T) : T.ty.right = true :=
 JU (!lax) _ (Ex.Q0 c.hr (c.BZ hi)) _ _ _ T (A9.Dm c.dr i) (A9.El c.ds i) c.nl hT
theorem B0e (hk : e.kind = 10) : O3 sg p lax ((run cfg).r il [(.undef, .ptr p 0), (e.enc, .val), (d.enc, .val), (H8 l, .val), (F4 S', .val)] (V9 sg p lax 0)) (jE (jt (!lax) e d l S)) := by
 have own := Ex.S9 c.hr;have hn : e.kids.length = 2 := by have := own.kids; simp [K3, hk] at this; omega
 have h0 : 0 < e.kids.length := by omega
 have h1 : 1 < e.kids.length := by omega
 have hj : jt (!lax) e d l S = (jk (!lax) e d 0 l S).bind fun a => (jk (!lax) e d 1 l S).bind fun b =>
  if a.ty.kind = 5 then if b.ty.agrees CL = true then .ok (.mk CL [a, b]) else .error 4
  else if a.ty.kind = 9 then if b.ty.agrees (a.ty.kids.getD 0 F7) = true then .ok (.mk (a.ty.kids.getD 1 F7) [a, b]) else .error 4
  else .error 4 := by
  rw [EJ c.ho, gu hk, U5 h0];simp only [U5 h1]
 refine O3.map ?_ (sF p e.enc d.enc (H8 l) (F4 S') _);rw [vz, hj];simp [Ex.D8, Ex.ag, A9.D8, A9.ag];refine O3.then (yK h c ih h0 _ _ _ [] (by simp [lim])) (fun v hr hv => ?_) (fun z a b c' ks hr hz => ?_)
 rotate_left
 ·rw [Fg hr, R6, EI]
  have kb := Eu h (lax := lax) hz e d (.int .i64 1) (H8 l) (F4 S') a b c' ks;simp [kb, DD h, hz];exact O3.err rfl hz (Ag.of ..)
 obtain ⟨a, hA, rfl⟩ := Fh hr;have H_ := mf c h0 hA;rw [hA, P5];simp;refine O3.then (yK h c ih h1 _ _ _ [a.enc] (by simp [lim])) (fun v hr hv => ?_) (fun z a b c' ks hr hz => ?_)
 rotate_left
 ·rw [Fg hr, R6, EI]
  simp [DD h, hz];exact O3.err rfl hz (Ag.of ..)
 obtain ⟨b, hB, rfl⟩ := Fh hr;have hBr := mf c h1 hB;have t0 := BJ (.int .i64 0) (.int .i64 0) (.list 3 []) [a.enc, b.enc] 0 a rfl;have t1 := BJ (.int .i64 0) (.int .i64 0) (.list 3 []) [a.enc, b.enc] 1 b rfl;simp only [z1q, z6q, z4q, z0q] at t0 t1;rw [hB, P5];simp [DD h, t0]
 by_cases k5 : a.ty.kind = 5
 ·have hdy := Ty.B0O H_ k5
  have hf := FN h lax b.ty a.ty hBr H_;rw [hdy] at hf;have hd5 : CL.kind = 5 := rfl;simp [hdy, Ty.D8, Ty.ag, t1, hf];simp [hd5]
  by_cases LM : b.ty.agrees CL = true
  ·simp [LM, VD]
   refine O3.ok ?_ (Ag.enc _);rw [JT.Nn];rfl
  ·simp only [z7q] at LM
   simp [LM, EI];exact O3.err rfl (by omega) (Ag.of ..)
 by_cases k9 : a.ty.kind = 9
 ·have DR : a.ty.kids.length = 2 := by
   have := (Ty.X6.1 H_).1;simp [arity, k9] at this;omega
  have dL : 0 < a.ty.kids.length := by omega
  have hk1 : 1 < a.ty.kids.length := by omega
  have g0 : a.ty.kids[0]?.getD F7 = a.ty.kids[0] := by rw [z2q dL]; rfl
  have g1 : a.ty.kids[1]?.getD F7 = a.ty.kids[1] := by rw [z2q hk1]; rfl
  have i0 : E8 3 (.list 3 (a.ty.kids.map Ty.enc)) (.int .i64 0) = some (a.ty.kids[0]?.getD F7).enc := by rw [g0]; exact F3 (e := Ty.enc) (sz := 3) (k := .i64) (i := 0) dL
  have i1 : E8 3 (.list 3 (a.ty.kids.map Ty.enc)) (.int .i64 1) = some (a.ty.kids[1]?.getD F7).enc := by rw [g1]; exact F3 (e := Ty.enc) (sz := 3) (k := .i64) (i := 1) hk1
  have r0 : (a.ty.kids[0]?.getD F7).right = true := by rw [g0]; exact (Ty.X6.1 H_).2.2.2.2 _ (z5q dL)
  simp only [if_neg k5, if_pos k9];generalize hA' : a.ty.kids[0]?.getD F7 = A at i0 r0 ⊢;generalize hB' : a.ty.kids[1]?.getD F7 = B at i1 ⊢;have hf := FN h lax b.ty A hBr r0;simp [k5, k9, t1, i0, i1, Ty.D8, Ty.ag, hf]
  by_cases LM : b.ty.agrees A = true
  ·simp [LM, VD]
   refine O3.ok ?_ (Ag.enc _);rw [JT.Nn];rfl
  ·simp only [z7q] at LM
   simp [LM, EI];exact O3.err rfl (by omega) (Ag.of ..)
 ·have sw := Ho h lax 0 4
  rw [if_pos rfl] at sw;simp [k5, k9, sw, EI];exact O3.err rfl (by omega) (Ag.of ..)
end
end Go.Su

/-
 What the reference's judging does: let and rec.
-/
namespace Go.Su
theorem A6S {a : Ty} (ha : a.none = true ∨ a.right = true) : a.none = decide (a.kind = 0) := by
 rcases ha with h | h
 ·rw [h]; simp [Ty.Dn h]
 ·have := Ty.k0 h
  cases hx : a.none with
  | true => exact absurd (Ty.Dn hx) this
  | false => simp [this]
section
variable {sg : List D7} {p : Nat} (h : p < sg.length) {lax : Bool} {e : Ex} {d : A9} {l : List Nm} {S S' : List Int} (c : RJC lax e d l S S') (ih : ∀ k ∈ e.kids, yw lax k)
include h c
theorem YA {z : Int} (hz : z ≠ 0) (w0 w1 w2 w3 u0 u1 u2 u3 u4 x0 x1 x2 : DV) (ks : List DV) : ∃ v, Gm (run cfg) p (H8 l) (F4 S') e.enc d.enc w0 w1 w2 w3 u0 u1 u2 u3 u4 x0 x1 x2 (.list 4 ks) (V9 sg p lax z) = some ([v], V9 sg p lax z) ∧ Ag v := by
 have Z4 := c.len;have hmp := Ex.EK e;have e1 : R8 5 (.list 5 []) (H8 l) = some (H8 l) := by
  have := Dj (sz := 5) (a := []) (b := l.map Nm.enc) (by simp; omega)
  rw [z15q] at this;exact this
 have e2 : R8 5 (H8 l) (.list 5 [.agg [u0, u1, u2, u3, u4]]) = some (.list 5 (l.map Nm.enc ++ [.agg [u0, u1, u2, u3, u4]])) := Dj (by simp; omega)
 have kb := Eu h (lax := lax) hz e d (.int .i64 1) (.list 5 (l.map Nm.enc ++ [.agg [u0, u1, u2, u3, u4]])) (F4 S') x0 x1 x2 ks;obtain ⟨x, y, w, t1⟩ := V5 (Ag.of x0 x1 x2 ks) 1;simp only [z6q, z4q, z0q] at t1;have e0 := Ue (run cfg) p (H8 l) (F4 S') e.enc d.enc w0 w1 w2 w3 u0 u1 u2 u3 u4 x0 x1 x2 (.list 4 ks) (V9 sg p lax z);rw [e1, I1, e2, I1] at e0;simp [Ex.D8, Ex.ag, A9.D8, A9.ag, kb, t1] at e0;exact ⟨_, e0, Ag.of ..⟩
include ih
theorem A9O (hn : e.kids.length = 2) {a : JT} {ty : Ty} (nl : Aa (l ++ [⟨e.name, ty, d.vars⟩])) (w0 w1 w2 w3 x0 x1 x2 : DV) :
 O3 sg p lax (Gm (run cfg) p (H8 l) (F4 S') e.enc d.enc w0 w1 w2 w3 (.str e.name) (.int .i64 ty.kind) (.int .i64 ty.n) (.list 3 (ty.kids.map Ty.enc)) (F4 d.vars) x0 x1 x2 (.list 4 [a.enc]) (V9 sg p lax 0))
  (jE ((jk (!lax) e d 1 (l ++ [⟨e.name, ty, d.vars⟩]) S).bind fun b => .ok (.mk b.ty [a, b]))) := by
 have h1 : 1 < e.kids.length := by omega
 have Z4 := c.len;have hmp := Ex.EK e;have m1 := Ex.O5 (c.BZ h1);have hd := c.hd;have xm := A9.Wi (d := d) (i := 1) (by rw [c.kl]; exact h1)
 have e1 : R8 5 (.list 5 []) (H8 l) = some (H8 l) := by
  have := Dj (sz := 5) (a := []) (b := l.map Nm.enc) (by simp; omega)
  rw [z15q] at this;exact this
 have e2 := l6 (e := Nm.enc) (sz := 5) (l := l) (x := ⟨e.name, ty, d.vars⟩) (by omega)
 have e2' : R8 5 (H8 l) (.list 5 [.agg [.str e.name, .int .i64 ty.kind, .int .i64 ty.n, .list 3 (ty.kids.map Ty.enc), F4 d.vars]]) = some (H8 (l ++ [⟨e.name, ty, d.vars⟩])) := e2;rw [Ue];simp [e1, e2', Ex.D8, Ex.ag, A9.D8, A9.ag];refine O3.then (ME h c.toJC ih h1 nl (by simp; omega) c.hS (by omega) _ _ _ [a.enc] (by simp [lim])) (fun v hr hv => ?_) (fun z a b c' ks hr hz => ?_)
 rotate_left
 ·rw [Fg hr, R6, EI]
  obtain ⟨x, y, w, t1⟩ := V5 (Ag.of a b c' ks) 1;simp only [z6q, z4q, z0q] at t1;simp [t1];exact O3.err rfl hz (Ag.of ..)
 obtain ⟨b, hB, rfl⟩ := Fh hr;have t1 := BJ x0 x1 x2 [a.enc, b.enc] 1 b rfl;simp only [z6q, z4q, z0q] at t1;rw [hB, P5, VD];simp [t1];refine O3.ok ?_ (Ag.enc _);rw [JT.Nn];rfl
theorem A7J (hk : e.kind = 11) : O3 sg p lax ((run cfg).r QS [(.undef, .ptr p 0), (e.enc, .val), (d.enc, .val), (H8 l, .val), (F4 S', .val), (F4 (S' ++ d.vars), .val)] (V9 sg p lax 0)) (jE (jt (!lax) e d l S)) := by
 have own := Ex.S9 c.hr;have hn : e.kids.length = 2 := by have := own.kids; simp [K3, hk] at this; omega
 have h0 : 0 < e.kids.length := by omega
 have h1 : 1 < e.kids.length := by omega
 have m0 := Ex.O5 (c.BZ h0);have Z4 := c.len;have hd := c.hd;have xm := A9.Wi (d := d) (i := 0) (by rw [c.kl]; exact h0)
 obtain ⟨o1, o2, o3, o4⟩ := CG c.ho;have hj : jt (!lax) e d l S = (if e.a.kind = 0 then jk (!lax) e d 0 l (d.vars ++ S) else N8 e.a (jk (!lax) e d 0 l S)).bind fun a =>
  (jk (!lax) e d 1 (l ++ [⟨e.name, J6 e.a a.ty, d.vars⟩]) S).bind fun b => .ok (.mk b.ty [a, b]) := by
  rw [EJ c.ho, g_ hk, U5 h0, U5 h0];simp only [U5 h1]
 have A6R : ∀ a : JT, a.ty.right = true → Aa (l ++ [⟨e.name, J6 e.a a.ty, d.vars⟩]) := fun a ha => c.nl.app fun x hx => by
  simp only [z11q] at hx;subst hx;exact ⟨Dx own.a fun _ => ha, by have := c.ds.vars; simpa using this, fun v hv => (A9.EM.1 c.dr).2.1 v hv⟩
 have Ey := Dy e.a;rw [A6S own.a] at Ey;have hS2 : ∀ v, v ∈ d.vars ++ S ↔ v ∈ S' ++ d.vars := fun v => by rw [z9q, z9q, c.hS v, or_comm]
 refine O3.map ?_ (Ye p e.enc d.enc (H8 l) (F4 S') (F4 (S' ++ d.vars)) _);rw [bJ, hj];simp [hk, Ud]
 try simp only [← hk]
 try simp [Ex.D8, Ex.ag, A9.D8, A9.ag]
 by_cases ha : e.a.kind = 0
 ·rw [if_pos ha]
  refine O3.then (ME h c.toJC ih h0 c.nl (by omega) hS2 (by simp; omega) _ _ _ [] (by simp [lim])) (fun v hr hv => ?_) (fun z a b c' ks hr hz => ?_)
  rotate_left
  ·rw [Fg hr, R6, EI]
   obtain ⟨x, y, w, t1⟩ := V5 (Ag.of a b c' ks) 0;simp only [z1q, z4q, z0q] at t1;obtain ⟨v2, Vk, mQ⟩ := YA h c hz (.int .i64 0) (.int .i64 0) (.list 3 []) (.list 4 []) (.str e.name) x y w (F4 d.vars) a b c' ks;simp [Ty.D8, Ty.ag];simp [Ey, ha, hk, t1, Vk];exact O3.err rfl hz mQ
  obtain ⟨a, hA, rfl⟩ := Fh hr;have H_ : a.ty.right = true := JU (!lax) _ (Ex.Q0 c.hr (c.BZ h0)) _ _ _ a (A9.Dm c.dr 0) (A9.El c.ds 0) c.nl hA;have t0 := BJ (.int .i64 0) (.int .i64 0) (.list 3 []) [a.enc] 0 a rfl;simp only [z1q, z4q, z0q] at t0;have hg : J6 e.a a.ty = a.ty := by simp [J6, ha]
  have nx := A9O h c ih hn (a := a) (A6R a H_) (.int .i64 0) (.int .i64 0) (.list 3 []) (.list 4 []) (.int .i64 0) (.int .i64 0) (.list 3 []);rw [hA, P5];rw [hg] at nx ⊢;simp [Ty.D8, Ty.ag];simp [Ey, ha, hk, t0];exact nx
 ·have hdv : d.vars = [] := by
   rcases o3 with o3 | o3
   ·exact o3
   ·simp [Ay, hk, ha] at o3
  have har : e.a.right = true := by
   rcases own.a with h' | h'
   ·exact absurd (Ty.Dn h') ha
   ·exact h'
  have LM : ∀ t : Ty, J6 e.a t = e.a := fun t => by simp [J6, ha]
  rw [if_neg ha];refine O3.then (ME (S := S) h c.toJC ih h0 c.nl (by omega) (by rw [hdv, z23q]; exact c.hS) (by simp; omega) _ _ _ [] (by simp [lim])) (fun v hr hv => ?_) (fun z a b c' ks hr hz => ?_)
  rotate_left
  ·rw [Fg hr, show N8 e.a (.error z) = .error z from rfl, R6, EI]
   obtain ⟨x, y, w, t1⟩ := V5 (Ag.of a b c' ks) 0;simp only [z1q, z4q, z0q] at t1;have fb := Au h lax z hz x y w e.a;obtain ⟨v2, Vk, mQ⟩ := YA h c hz (.int .i64 0) (.int .i64 0) (.list 3 []) (.list 4 []) (.str e.name) (.int .i64 e.a.kind) (.int .i64 e.a.n) (.list 3 (e.a.kids.map Ty.enc)) (F4 d.vars) a b c' ks;simp [Ty.D8, Ty.ag];simp [Ey, ha, hk, t1, fb, Vk];exact O3.err rfl hz mQ
  obtain ⟨a, hA, rfl⟩ := Fh hr;have H_ : a.ty.right = true := JU (!lax) _ (Ex.Q0 c.hr (c.BZ h0)) _ _ _ a (A9.Dm c.dr 0) (A9.El c.ds 0) c.nl hA;have t0 := BJ (.int .i64 0) (.int .i64 0) (.list 3 []) [a.enc] 0 a rfl;simp only [z1q, z4q, z0q] at t0;have hf := FN h lax a.ty e.a H_ har;rw [hA];simp [Ty.D8, Ty.ag]
  by_cases mK : a.ty.agrees e.a = true
  ·have nx := A9O h c ih hn (a := a) (A6R a H_) (.int .i64 0) (.int .i64 0) (.list 3 []) (.list 4 []) (.int .i64 0) (.int .i64 0) (.list 3 [])
   rw [show N8 e.a (.ok a) = .ok a by simp [N8, P5, mK], P5]
   rw [if_pos mK] at hf;rw [LM] at nx ⊢;simp [Ey, ha, hk, t0, hf];exact nx
  ·obtain ⟨v2, Vk, mQ⟩ := YA h c (z := 4) (by omega) (.int .i64 0) (.int .i64 0) (.list 3 []) (.list 4 []) (.str e.name) (.int .i64 e.a.kind) (.int .i64 e.a.n) (.list 3 (e.a.kids.map Ty.enc)) (F4 d.vars) (.int .i64 0) (.int .i64 0) (.list 3 []) [a.enc]
   rw [show N8 e.a (.ok a) = .error 4 by simp [N8, P5, mK], R6, EI]
   rw [if_neg mK] at hf;simp [Ey, ha, hk, t0, hf, Vk];exact O3.err rfl (by omega) mQ
end
end Go.Su

/-
 What the reference's judging does: rec, the rest.
-/
namespace Go.Su
def PV (g : Nat → JR) : List Ty → Nat → Except Int (List JT)
 | [], _ => .ok []
 | w :: ws, i => (N8 w (g i)).bind fun a => (PV g ws (i + 1)).bind fun q => .ok (a :: q)
section
variable {sg : List D7} {p : Nat} (h : p < sg.length) {lax : Bool} {e : Ex} {d : A9} {l : List Nm} {S S' : List Int} (c : RJC lax e d l S S') (ih : ∀ k ∈ e.kids, yw lax k)
include h c
theorem A67 {z : Int} (hz : z ≠ 0) (ws : List Ty) (hw : ws.length ≤ lim) (w0 w1 w2 w3 x0 x1 x2 : DV) (ks : List DV) : ∀ (m j : Nat), j + m = ws.length → Gv (run cfg) p (H8 l) (F4 S') (.list 3 (ws.map Ty.enc)) (.int .i64 j) e.enc d.enc w0 w1 w2 w3 x0 x1 x2 (.list 4 ks) (V9 sg p lax z) = some ([.agg [x0, x1, x2, .list 4 ks]], V9 sg p lax z) := by
 have _ := c;have hb := big hw;intro m
 induction m with
 | zero =>
   intro j hj;rw [GL];have : ¬ j < ws.length := by omega
   simp [this]
 | succ m ihm =>
   intro j hj;have H7 : j < ws.length := by omega
   have nx := ihm (j + 1) (by omega)
   push_cast at nx;have kb := Eu h (lax := lax) hz e d (.int .i64 j) (H8 l) (F4 S') x0 x1 x2 ks;obtain ⟨x, y, w, t1⟩ := V5 (Ag.of x0 x1 x2 ks) j;have fb := Au h lax z hz x y w ws[j];rw [GL];simp [H7, Ex.D8, Ex.ag, A9.D8, A9.ag, Ty.D8, Ty.ag, kb, t1, F3 H7, fb, J7 (show j < 9223372036854775807 by omega), nx]
include ih
theorem B4C (ws : List Ty) (hw : ws.length = e.kids.length) (hrs : ∀ w ∈ ws, w.right = true) (w0 w1 w2 w3 x0 x1 x2 : DV) : ∀ (m j : Nat) (done : List JT), j + m = ws.length → done.length = j →
 O3 sg p lax (Gv (run cfg) p (H8 l) (F4 S') (.list 3 (ws.map Ty.enc)) (.int .i64 j) e.enc d.enc w0 w1 w2 w3 x0 x1 x2 (.list 4 (done.map JT.enc)) (V9 sg p lax 0))
  (match PV (fun i => jk (!lax) e d i l S) (ws.drop j) j with
    | .ok q => .ok (.agg [x0, x1, x2, .list 4 ((done ++ q).map JT.enc)])
    | .error z => .error z) := by
 have DR := c.hf.one.kids;have hb : ws.length < 4294967297 := big (by omega)
 intro m
 induction m with
 | zero =>
   intro j done hj hd;rw [GL, z16q (by omega)]
   have : ¬ j < ws.length := by omega
   simp [this, PV];exact O3.ok rfl (Ag.of ..)
 | succ m ihm =>
   intro j done hj hd;have H7 : j < ws.length := by omega
   have hjk : j < e.kids.length := by omega
   rw [GL, z10q H7, PV];simp [H7, Ex.D8, Ex.ag, A9.D8, A9.ag, Ty.D8, Ty.ag];refine O3.then (yK h c ih hjk _ _ _ (done.map JT.enc) (by simp; omega)) (fun v hr hv => ?_) (fun z a b c' ks hr hz => ?_)
   rotate_left
   ·rw [Fg hr, show N8 ws[j] (.error z) = .error z from rfl, R6]
    obtain ⟨x, y, w, t1⟩ := V5 (Ag.of a b c' ks) j;have fb := Au h lax z hz x y w ws[j];have rb := A67 h c hz ws (by omega) w0 w1 w2 w3 a b c' ks m (j + 1) (by omega)
    push_cast at rb;simp [t1, F3 H7, Ty.D8, Ty.ag, fb, J7 (show j < 9223372036854775807 by omega), rb]
    exact O3.err rfl hz (Ag.of ..)
   obtain ⟨a, hA, rfl⟩ := Fh hr;have H_ := mf c hjk hA;have hrw := hrs ws[j] (z5q H7);have t1 := BJ x0 x1 x2 (done.map JT.enc ++ [a.enc]) j a (by rw [← hd, z22q (by simp)]; simp)
   have hf := FN h lax a.ty ws[j] H_ hrw;rw [hA]
   by_cases hg : a.ty.agrees ws[j] = true
   ·rw [if_pos hg] at hf
    rw [show N8 ws[j] (.ok a) = .ok a by simp [N8, P5, hg], P5]
    have nx := ihm (j + 1) (done ++ [a]) (by omega) (by simp [hd])
    push_cast at nx;simp [t1, F3 H7, Ty.D8, Ty.ag, hf, J7 (show j < 9223372036854775807 by omega)]
    simp only [List.map_append, z8q, z12q] at nx;cases Vi : PV (fun i => jk (!lax) e d i l S) (ws.drop (j + 1)) (j + 1) with
    | error z => rw [Vi] at nx; rw [R6]; exact nx
    | ok q => rw [Vi] at nx; rw [P5]; simpa using nx
   ·rw [if_neg hg] at hf
    rw [show N8 ws[j] (.ok a) = .error 4 by simp [N8, P5, hg], R6]
    have rb := A67 h c (z := 4) (by omega) ws (by omega) w0 w1 w2 w3 x0 x1 x2 (done.map JT.enc ++ [a.enc]) m (j + 1) (by omega)
    push_cast at rb;simp [t1, F3 H7, Ty.D8, Ty.ag, hf, J7 (show j < 9223372036854775807 by omega), rb]
    exact O3.err rfl (by omega) (Ag.of ..)
theorem yJ {ws : List Ty} {out : Ty} (hw : ws.length = e.kids.length) (hrs : ∀ w ∈ ws, w.right = true) (w0 w1 w2 w3 : DV) (hj : jt (!lax) e d l S = (PV (fun i => jk (!lax) e d i l S) ws 0).bind fun q => .ok (.mk out q)) :
 O3 sg p lax (Ij (run cfg) p (H8 l) (F4 S') (.list 3 (ws.map Ty.enc)) e.enc d.enc w0 w1 w2 w3 (.int .i64 out.kind) (.int .i64 out.n) (.list 3 (out.kids.map Ty.enc)) (V9 sg p lax 0)) (jE (jt (!lax) e d l S)) := by
 have nx := B4C h c ih ws hw hrs w0 w1 w2 w3 (.int .i64 out.kind) (.int .i64 out.n) (.list 3 (out.kids.map Ty.enc)) ws.length 0 [] (by omega) rfl
 rw [bL, hj];simp only [z12q, z21q, z15q, z1q, z4q, z0q] at nx;cases Vi : PV (fun i => jk (!lax) e d i l S) ws 0 with
 | error z => rw [Vi] at nx; rw [R6, EI]; exact nx
 | ok q =>
   rw [Vi] at nx;rw [P5, VD, JT.Nn];exact nx
theorem A8s (hk : e.kind = 13 ∨ e.kind = 15 ∨ e.kind = 16) : O3 sg p lax ((run cfg).r aR [(.undef, .ptr p 0), (e.enc, .val), (d.enc, .val), (H8 l, .val), (F4 S', .val)] (V9 sg p lax 0)) (jE (jt (!lax) e d l S)) := by
 have own := Ex.S9 c.hr;obtain ⟨o1, o2, o3, o4⟩ := CG c.ho;refine O3.map ?_ (lU p e.enc d.enc (H8 l) (F4 S') _);rw [qX];rcases hk with hk | hk | hk
 ·have hn : e.kids.length = 3 := by have := own.kids; simp [K3, hk] at this; omega
  have IA : d.types.length = 1 := by rw [o1]; simp [M8, hk]
  have Co := A9.Bb c.dr (by omega)
  have i0 := A9.A6J (d := d) (by omega)
  have xq : (run cfg).p BC [.int .i64 2] = some (T9 2).enc := Mk 2;have hbr : (T9 2).right = true := EN (by omega)
  have hj : jt (!lax) e d l S = (PV (fun i => jk (!lax) e d i l S) [T9 2, d.t0, d.t0] 0).bind fun q => .ok (.mk d.t0 q) := by
   rw [EJ c.ho, oM hk, U5 (by omega), U5 (by omega), U5 (by omega)]
   simp only [PV];cases N8 (T9 2) (jk (!lax) e d 0 l S) with
   | error z => rfl
   | ok a =>
     rw [P5, P5];cases N8 d.t0 (jk (!lax) e d (0 + 1) l S) with
     | error z => rfl
     | ok b =>
       rw [P5, P5];cases N8 d.t0 (jk (!lax) e d (0 + 1 + 1) l S) with
       | error z => rfl
       | ok c => rfl
  have nx := yJ h c ih (ws := [T9 2, d.t0, d.t0]) (out := d.t0) (by simp [hn]) (by simp [hbr, Co]) (.int .i64 0) (.int .i64 0) (.list 3 []) (.list 4 []) hj
  simp only [z8q, z12q] at nx;simp [hk, i0, xq, Ty.D8, Ty.ag];rw [NQ];simp [hk];exact nx
 ·have hn : e.kids.length = 1 := by have := own.kids; simp [K3, hk] at this; omega
  have har := own.Yv hk;have hj : jt (!lax) e d l S = (PV (fun i => jk (!lax) e d i l S) [e.a] 0).bind fun q => .ok (.mk e.a q) := by
   rw [EJ c.ho, gy hk, U5 (by omega)]
   simp only [PV];cases N8 e.a (jk (!lax) e d 0 l S) with
   | error z => rfl
   | ok a => rfl
  have nx := yJ h c ih (ws := [e.a]) (out := e.a) (by simp [hn]) (by simp [har]) (.int .i64 0) (.int .i64 0) (.list 3 []) (.list 4 []) hj
  simp only [z8q, z12q] at nx;simp [hk, Ty.D8, Ty.ag];rw [NQ];simp [hk];exact nx
 ·have hn : e.kids.length = 2 := by have := own.kids; simp [K3, hk] at this; omega
  have E9 := own.op hk;have Vj : (run cfg).p BC [.int .i64 1] = some (T9 1).enc := Mk 1;have xq : (run cfg).p BC [.int .i64 2] = some (T9 2).enc := Mk 2;have hl3 : (run cfg).p BC [.int .i64 3] = some (T9 3).enc := Mk 3;have Fw : (T9 1).right = true := EN (by omega)
  have hr3 : (T9 3).right = true := EN (by omega)
  have hj : ∀ lo hi, Ko e = lo → PX e = hi → jt (!lax) e d l S = (PV (fun i => jk (!lax) e d i l S) [lo, lo] 0).bind fun q => .ok (.mk hi q) := by
   rintro lo hi rfl rfl;rw [EJ c.ho, oN hk, U5 (by omega), U5 (by omega)]
   simp only [PV];cases N8 (Ko e) (jk (!lax) e d 0 l S) with
   | error z => rfl
   | ok a =>
     rw [P5, P5];cases N8 (Ko e) (jk (!lax) e d (0 + 1) l S) with
     | error z => rfl
     | ok b => rfl
  simp [hk, Ty.D8, Ty.ag];rw [NQ];simp [hk, Vj, xq]
  by_cases h7 : e.op = 7
  ·have h5 : 5 ≤ e.op := by omega
   have nx := yJ h c ih (ws := [T9 3, T9 3]) (out := T9 2) (by simp [hn]) (by simp [hr3]) (.int .i64 0) (.int .i64 0) (.list 3 []) (.list 4 []) (hj _ _ (by simp [Ko, h7]) (by simp [PX, h5]))
   simp only [z8q, z12q] at nx;simp [h5, Ll, h7, hl3, Ty.D8, Ty.ag];exact nx
  by_cases h5 : 5 ≤ e.op
  ·have nx := yJ h c ih (ws := [T9 1, T9 1]) (out := T9 2) (by simp [hn]) (by simp [Fw]) (.int .i64 0) (.int .i64 0) (.list 3 []) (.list 4 []) (hj _ _ (by simp [Ko, h7]) (by simp [PX, h5]))
   simp only [z8q, z12q] at nx;simp [h5, Ll, h7, Ty.D8, Ty.ag];exact nx
  ·have nx := yJ h c ih (ws := [T9 1, T9 1]) (out := T9 1) (by simp [hn]) (by simp [Fw]) (.int .i64 0) (.int .i64 0) (.list 3 []) (.list 4 []) (hj _ _ (by simp [Ko, h7]) (by simp [PX, h5]))
   simp only [z8q, z12q] at nx;simp [h5, Ll, h7, Ty.D8, Ty.ag];exact nx
theorem A7K (hk : e.kind = 12) : O3 sg p lax ((run cfg).r QS [(.undef, .ptr p 0), (e.enc, .val), (d.enc, .val), (H8 l, .val), (F4 S', .val), (F4 (S' ++ d.vars), .val)] (V9 sg p lax 0)) (jE (jt (!lax) e d l S)) := by
 have own := Ex.S9 c.hr;have hn : e.kids.length = 2 := by have := own.kids; simp [K3, hk] at this; omega
 have h0 : 0 < e.kids.length := by omega
 have h1 : 1 < e.kids.length := by omega
 have m0 := Ex.O5 (c.BZ h0);have km1 := Ex.EK (e.kid 1);have hms : (e.kid 0).J4 + (e.kid 1).J4 < e.J4 := by
  rw [Ex.U9 e, A3f hn];simp;omega
 have Z4 := c.len;have hd := c.hd;have xm := A9.Wi (d := d) (i := 0) (by rw [c.kl]; exact h0)
 obtain ⟨o1, o2, o3, o4⟩ := CG c.ho;have hP := Zw own hk c.dr o1;have hR := VK own hk c.dr o1;have hF := Pd hP hR;have hj : jt (!lax) e d l S = (N8 (Q4 e d) (jk (!lax) e d 0 (l ++ [⟨e.name, V4 (U6 e d) (Q4 e d), []⟩, ⟨e.arg, U6 e d, []⟩]) (d.vars ++ S))).bind fun a =>
  (jk (!lax) e d 1 (l ++ [⟨e.name, V4 (U6 e d) (Q4 e d), d.vars⟩]) S).bind fun b => .ok (.mk b.ty [a, b]) := by
  rw [EJ c.ho, iA hk, U5 h0];simp only [U5 h1]
 have nm1 : Aa (l ++ [⟨e.name, V4 (U6 e d) (Q4 e d), []⟩, ⟨e.arg, U6 e d, []⟩]) := c.nl.app fun x hx => by
  simp only [z30q, List.not_mem_nil, or_false] at hx;rcases hx with rfl | rfl
  ·exact ⟨hF, by simp, by simp⟩
  ·exact ⟨hP, by simp, by simp⟩
 have nm2 : Aa (l ++ [⟨e.name, V4 (U6 e d) (Q4 e d), d.vars⟩]) := c.nl.app fun x hx => by
  simp only [z11q] at hx;subst hx;exact ⟨hF, c.ds.vars, (A9.EM.1 c.dr).2.1⟩
 have OQ := yV e.a own.a d.types fun h0 => by rw [o1]; simp [M8, hk, h0]; omega
 have hPe : J6 e.a (d.types.getD 0 F7) = U6 e d := rfl;rw [hPe] at OQ;have Ey := Dy e.b;rw [A6S own.b] at Ey;have hS2 : ∀ v, v ∈ d.vars ++ S ↔ v ∈ S' ++ d.vars := fun v => by rw [z9q, z9q, c.hS v, or_comm]
 have A1H : (run cfg).p IX [.int .i64 9, (U6 e d).enc, (Q4 e d).enc] = some (V4 (U6 e d) (Q4 e d)).enc := Z_ 9 _ _;have pl1 := eU l e.name (V4 (U6 e d) (Q4 e d)) (by omega)
 have pl2 := eU (l ++ [⟨e.name, V4 (U6 e d) (Q4 e d), []⟩]) e.arg (U6 e d) (by simp; omega)
 rw [z18q, z17q] at pl2;have meet : jA (run cfg) p e.enc d.enc (H8 l) (F4 S') (F4 (S' ++ d.vars)) (V9 sg p lax 0) = PG (run cfg) p (H8 l) (F4 S') (F4 (S' ++ d.vars)) (H8 (l ++ [⟨e.name, V4 (U6 e d) (Q4 e d), []⟩, ⟨e.arg, U6 e d, []⟩])) e.enc d.enc (.str e.name) (.int .i64 (V4 (U6 e d) (Q4 e d)).kind) (.int .i64 (V4 (U6 e d) (Q4 e d)).n) (.list 3 ((V4 (U6 e d) (Q4 e d)).kids.map Ty.enc)) (F4 d.vars) (.int .i64 (Q4 e d).kind) (.int .i64 (Q4 e d).n) (.list 3 ((Q4 e d).kids.map Ty.enc)) (V9 sg p lax 0) := by
  rw [bJ];simp [Ty.D8, Ty.ag];rw [OQ]
  by_cases hb : e.b.kind = 0
  ·have Vj : 1 ≤ d.types.length := by rw [o1]; simp [M8, hk, hb]
   have hi : E8 3 (.list 3 (d.types.map Ty.enc)) (.int .i64 ((d.types.length : Int) - 1)) = some (Q4 e d).enc := by
    have H7 : d.types.length - 1 < d.types.length := by omega
    have e1 : ((d.types.length : Int) - 1) = ((d.types.length - 1 : Nat) : Int) := by omega
    rw [e1, F3 H7]
    congr 2
    unfold Q4 J6;rw [if_pos hb]
    by_cases ha : e.a.kind = 0
    ·have : d.types.length = 2 := by rw [o1]; simp [M8, hk, ha, hb]
     simp [ha, A9.t1, this]
    ·have : d.types.length = 1 := by rw [o1]; simp [M8, hk, ha, hb]
     simp [ha, A9.t0, this]
   have htl := A9.TJ d;have BV : A8 .sub (.int .i64 (d.types.length : Int)) (.int .i64 1) = some (.int .i64 ((d.types.length : Int) - 1)) := by rw [BU, A_ (by omega) (by unfold lim at hd; omega)]
   simp [hk, Ey, hb, BV, hi, WL, Ty.D8, Ty.ag, A1H, pl1, pl2]
  ·have hre : Q4 e d = e.b := by simp [Q4, J6, hb]
   rw [hre] at A1H pl1 pl2 ⊢;simp [hk, Ey, hb, WL, Ty.D8, Ty.ag, A1H, pl1, pl2]
 refine O3.map ?_ ((Ye p e.enc d.enc (H8 l) (F4 S') (F4 (S' ++ d.vars)) _).trans meet);rw [Ud, hj];simp [Ex.D8, Ex.ag, A9.D8, A9.ag];refine O3.then (ME h c.toJC ih h0 nm1 (by simp; omega) hS2 (by simp; omega) _ _ _ [] (by simp [lim])) (fun v hr hv => ?_) (fun z a b c' ks hr hz => ?_)
 rotate_left
 ·rw [Fg hr, show N8 (Q4 e d) (.error z) = .error z from rfl, R6, EI]
  obtain ⟨x, y, w, t1⟩ := V5 (Ag.of a b c' ks) 0;simp only [z1q, z4q, z0q] at t1;have fb := Au h lax z hz x y w (Q4 e d);obtain ⟨v2, Vk, mQ⟩ := YA h c hz (.int .i64 0) (.int .i64 0) (.list 3 []) (.list 4 []) (.str e.name) (.int .i64 (V4 (U6 e d) (Q4 e d)).kind) (.int .i64 (V4 (U6 e d) (Q4 e d)).n) (.list 3 ((V4 (U6 e d) (Q4 e d)).kids.map Ty.enc)) (F4 d.vars) a b c' ks;simp [hk, t1, Ty.D8, Ty.ag, fb, Vk];exact O3.err rfl hz mQ
 obtain ⟨a, hA, rfl⟩ := Fh hr;have H_ : a.ty.right = true := JU (!lax) _ (Ex.Q0 c.hr (c.BZ h0)) _ _ _ a (A9.Dm c.dr 0) (A9.El c.ds 0) nm1 hA;have t0 := BJ (.int .i64 0) (.int .i64 0) (.list 3 []) [a.enc] 0 a rfl;simp only [z1q, z4q, z0q] at t0;have hf := FN h lax a.ty (Q4 e d) H_ hR;rw [hA]
 by_cases mK : a.ty.agrees (Q4 e d) = true
 ·have nx := A9O h c ih hn (a := a) nm2 (.int .i64 0) (.int .i64 0) (.list 3 []) (.list 4 []) (.int .i64 0) (.int .i64 0) (.list 3 [])
  rw [show N8 (Q4 e d) (.ok a) = .ok a by simp [N8, P5, mK], P5]
  rw [if_pos mK] at hf;simp [hk, t0, Ty.D8, Ty.ag, hf];exact nx
 ·obtain ⟨v2, Vk, mQ⟩ := YA h c (z := 4) (by omega) (.int .i64 0) (.int .i64 0) (.list 3 []) (.list 4 []) (.str e.name) (.int .i64 (V4 (U6 e d) (Q4 e d)).kind) (.int .i64 (V4 (U6 e d) (Q4 e d)).n) (.list 3 ((V4 (U6 e d) (Q4 e d)).kids.map Ty.enc)) (F4 d.vars) (.int .i64 0) (.int .i64 0) (.list 3 []) [a.enc]
  rw [show N8 (Q4 e d) (.ok a) = .error 4 by simp [N8, P5, mK], R6, EI]
  rw [if_neg mK] at hf;simp [hk, t0, Ty.D8, Ty.ag, hf, Vk];exact O3.err rfl (by omega) mQ
end
end Go.Su

/-
 What the reference's judging does: match.
-/
namespace Go.Su
section
variable {sg : List D7} {p : Nat} (h : p < sg.length) {lax : Bool} {e : Ex} {d : A9} {l : List Nm} {S S' : List Int} (c : RJC lax e d l S S') (ih : ∀ k ∈ e.kids, yw lax k)
include h
theorem VL {z : Int} (hz : z ≠ 0) (j : Nat) (h1 : 1 < d.types.length) (s t w0 w1 w2 w3 x0 x1 x2 : DV) (ks : List DV) : Gu (run cfg) p s t (.int .i64 j) e.enc d.enc w0 w1 w2 w3 x0 x1 x2 (.list 4 ks) (V9 sg p lax z) = some ([Nn d.t1 ks], V9 sg p lax z) := by
 have i1 := A9.B5D (d := d) h1;rw [Jj]
 by_cases H7 : j < e.F6.length
 ·simp [H7, DD h, hz, i1]
  rfl
 ·simp [H7, i1]
  rfl
omit h in
theorem yL (sg : List D7) (l : List Nm) (b : List (ByteArray × Ty)) (hl : l.length + b.length ≤ lim) (t w0 w1 w2 w3 x0 x1 x2 x3 j : DV) :
 NH (run cfg) p (H8 l) t j (O8 b) e.enc d.enc w0 w1 w2 w3 x0 x1 x2 x3 sg = Cr (run cfg) p (H8 l) t j (O8 b) (H8 (l ++ b.map Du)) (.int .i64 b.length) e.enc d.enc w0 w1 w2 w3 x0 x1 x2 x3 sg := by
 have dJ : l.length + b.length < 4294967297 := big hl;have A1Q : dLen (O8 b) = some (.int .i64 b.length) := by simp [O8, dLen]
 have e1 : R8 5 (.list 5 []) (H8 l) = some (H8 l) := by
  have := Dj (sz := 5) (a := []) (b := l.map Nm.enc) (by simp; omega)
  rw [z15q] at this;exact this
 have l11 := FR (l := b) (P := fun q (a : List Nm) => Cr (run cfg) p (H8 l) t j (O8 b) (H8 a) (.int .i64 q) e.enc d.enc w0 w1 w2 w3 x0 x1 x2 x3 sg)
  (g := fun a e => a ++ [Du e]) (fin := fun a => Cr (run cfg) p (H8 l) t j (O8 b) (H8 a) (.int .i64 b.length) e.enc d.enc w0 w1 w2 w3 x0 x1 x2 x3 sg)
  (I := fun q a => a.length = l.length + q) (fun a _ => rfl)
  (fun q hq a ha => by
    refine ⟨?_, by simp [ha]; omega⟩
    rw [Iw];have Kh := l6 (e := Nm.enc) (sz := 5) (l := a) (x := Du b[q]) (by omega)
    have oG : R8 5 (H8 a) (.list 5 [.agg [.str b[q].1, .int .i64 b[q].2.kind, .int .i64 b[q].2.n, .list 3 (b[q].2.kids.map Ty.enc), .list 1 []]]) = some (H8 (a ++ [Du b[q]])) := Kh;have e1 : E8 4 (O8 b) (.int .i64 (q : Int)) = some (Nl b[q]) := F3 hq;simp [A1Q, hq, e1, oG, J7 (show q < 9223372036854775807 by omega)]) l rfl
 have A3b : ∀ (m : List (ByteArray × Ty)) (a : List Nm), m.foldl (fun a e => a ++ [Du e]) a = a ++ m.map Du := by
  intro m
  induction m with
  | nil => intro a; simp
  | cons x m ih => intro a; simp [ih]
 rw [A3b] at l11;rw [bK];simp [e1];exact l11
include c ih
theorem B4D (hk : e.kind = 14) (hp : e.F6.length + 1 = e.kids.length) (h2 : d.types.length = 2) (w0 w1 w2 w3 x0 x1 x2 : DV) : ∀ (m j : Nat) (done : List JT), j + m = e.F6.length → done.length = j + 1 →
 O3 sg p lax (Gu (run cfg) p (H8 l) (F4 S') (.int .i64 j) e.enc d.enc w0 w1 w2 w3 x0 x1 x2 (.list 4 (done.map JT.enc)) (V9 sg p lax 0))
  (match Hy (fK (!lax) e d) d.t0 d.t1 l S (j + 1) (e.F6.drop j) with
    | .ok q => .ok (Nn d.t1 ((done ++ q).map JT.enc))
    | .error z => .error z) := by
 have own := Ex.S9 c.hr;have dP := c.hf.one.F6;have DR := c.hf.one.kids;have hbp : e.F6.length < 4294967296 := by unfold lim at dP; omega
 have Co := A9.Bb c.dr (by omega)
 have Fw := A9.eY c.dr (by omega)
 have i0 := A9.A6J (d := d) (by omega)
 have i1 := A9.B5D (d := d) (by omega)
 intro m
 induction m with
 | zero =>
   intro j done hj hdn;rw [Jj, z16q (by omega)]
   have : ¬ j < e.F6.length := by omega
   simp [this, Hy, i1];exact O3.ok rfl (Ag.T ..)
 | succ m ihm =>
   intro j done hj hdn;have H7 : j < e.F6.length := by omega
   have Pv : j + 1 < e.kids.length := by omega
   have hpm := z5q H7;have hpr := own.F6 _ hpm;have m1 := Ex.O5 (c.BZ Pv);have Z4 := c.len;have hd := c.hd;have xm := A9.Wi (d := d) (i := j + 1) (by rw [c.kl]; exact Pv)
   have B7S := D5.OY e.F6[j];have hmm : e.F6[j].J4 + (e.kid (j + 1)).J4 < e.J4 := by
    rw [Ex.U9 e];have a1 := Ap (z13q (f := D5.J4) hpm);have a2 := Ap (z13q (f := Ex.J4) (c.BZ Pv));omega
   have EG : A8 .add (.int .i64 (j : Int)) (.int .i64 1) = some (.int .i64 ((j + 1 : Nat) : Int)) := J7 (by omega)
   have EZ := A8p e.F6[j] (D5.A5b hpr) d.t0 (V9 sg p lax 0) [] Co (by simp; omega)
   rw [z10q H7, Hy];rw [Jj];cases hbd : e.F6[j].binds d.t0 with
   | none =>
     rw [hbd] at EZ;obtain ⟨b, VA, VB⟩ := EZ;have hb3 : (run cfg).r DY [(e.F6[j].enc, .val), (d.t0.enc, .val), (.list 4 [], .own)] (V9 sg p lax 0) = some ([O8 b, .bool false], V9 sg p lax 0) := VB;have sw := Ho h lax 0 4;rw [if_pos rfl] at sw;have xu := yL (p := p) (e := e) (d := d) (V9 sg p lax 4) l b (by omega) (F4 S') w0 w1 w2 w3 x0 x1 x2 (.list 4 (done.map JT.enc)) (.int .i64 j)
     have kb := Eu h (lax := lax) (z := 4) (by omega) e d (.int .i64 ((j + 1 : Nat) : Int)) (H8 (l ++ b.map Du)) (F4 S') x0 x1 x2 (done.map JT.enc)
     obtain ⟨x, y, w, t1⟩ := V5 (Ag.of x0 x1 x2 (done.map JT.enc)) (j + 1);have fb := Au h lax 4 (by omega) x y w d.t1
     have rb := VL h (lax := lax) (e := e) (z := 4) (by omega) (j + 1) (d := d) (by omega) (H8 l) (F4 S') w0 w1 w2 w3 x0 x1 x2 (done.map JT.enc)
     have A1Q : dLen (O8 b) = some (.int .i64 b.length) := by simp [O8, dLen]
     have e11 : Cr (run cfg) p (H8 l) (F4 S') (.int .i64 j) (O8 b) (H8 (l ++ b.map Du)) (.int .i64 b.length) e.enc d.enc w0 w1 w2 w3 x0 x1 x2 (.list 4 (done.map JT.enc)) (V9 sg p lax 4) = some ([Nn d.t1 (done.map JT.enc)], V9 sg p lax 4) := by
      rw [Iw];push_cast at kb t1 rb EG;simp [A1Q, EG, Ex.D8, Ex.ag, A9.D8, A9.ag, kb, t1, i1, Ty.D8, Ty.ag, fb, rb]
     simp [H7, DD h, F3 H7, D5.D8, D5.ag, i0, Ty.D8, Ty.ag, hb3, O4, sw, xu, e11];exact O3.err rfl (by omega) (Ag.T ..)
   | some b =>
     rw [hbd] at EZ;have hb3 : (run cfg).r DY [(e.F6[j].enc, .val), (d.t0.enc, .val), (.list 4 [], .own)] (V9 sg p lax 0) = some ([O8 b, .bool true], V9 sg p lax 0) := by
      have : (run cfg).r DY [(e.F6[j].enc, .val), (d.t0.enc, .val), (O8 [], .own)] (V9 sg p lax 0) = some ([O8 ([] ++ b), .bool true], V9 sg p lax 0) := EZ;exact this
     have mI := D5.Sk _ _ _ hbd;have hbr := D5.jG _ _ _ Co hbd;have nb : Aa (l ++ b.map Du) := c.nl.app (Aa.B2d hbr);have xu := yL (p := p) (e := e) (d := d) (V9 sg p lax 0) l b (by omega) (F4 S') w0 w1 w2 w3 x0 x1 x2 (.list 4 (done.map JT.enc)) (.int .i64 j)
     have A1Q : dLen (O8 b) = some (.int .i64 b.length) := by simp [O8, dLen]
     simp [H7, DD h, F3 H7, D5.D8, D5.ag, i0, Ty.D8, Ty.ag, hb3, O4, xu];rw [Iw];have hkf : fK (!lax) e d (j + 1) (l ++ b.map Du) S = jk (!lax) e d (j + 1) (l ++ b.map Du) S := B0V Pv d _ S;simp [A1Q, EG, Ex.D8, Ex.ag, A9.D8, A9.ag];rw [hkf];rw [← Int.natCast_succ];refine O3.then (ME h c.toJC ih Pv nb (by simp; omega) c.hS (by omega) _ _ _ (done.map JT.enc) (by simp; omega)) (fun v hr hv => ?_) (fun z a b' c' ks hr hz => ?_)
     rotate_left
     ·rw [Fg hr, show N8 d.t1 (.error z) = .error z from rfl, R6]
      obtain ⟨x, y, w, t1⟩ := V5 (Ag.of a b' c' ks) (j + 1);have fb := Au h lax z hz x y w d.t1;have rb := VL h (lax := lax) (e := e) hz (j + 1) (d := d) (by omega) (H8 l) (F4 S') w0 w1 w2 w3 a b' c' ks
      push_cast at t1 rb;simp [t1, i1, Ty.D8, Ty.ag, fb, rb];exact O3.err rfl hz (Ag.T ..)
     obtain ⟨a, hA, rfl⟩ := Fh hr;have H_ : a.ty.right = true := JU (!lax) _ (Ex.Q0 c.hr (c.BZ Pv)) _ _ _ a (A9.Dm c.dr (j + 1)) (A9.El c.ds (j + 1)) nb hA;have t1 := BJ x0 x1 x2 (done.map JT.enc ++ [a.enc]) (j + 1) a (by rw [← hdn, z22q (by simp)]; simp)
     have hf := FN h lax a.ty d.t1 H_ Fw;rw [hA]
     by_cases hg : a.ty.agrees d.t1 = true
     ·rw [if_pos hg] at hf
      rw [show N8 d.t1 (.ok a) = .ok a by simp [N8, P5, hg], P5]
      have nx := ihm (j + 1) (done ++ [a]) (by omega) (by simp [hdn])
      push_cast at nx t1;simp [t1, i1, Ty.D8, Ty.ag, hf];simp only [List.map_append, z8q, z12q] at nx;cases Vi : Hy (fK (!lax) e d) d.t0 d.t1 l S (j + 1 + 1) (e.F6.drop (j + 1)) with
      | error z => rw [Vi] at nx; rw [R6]; exact nx
      | ok q => rw [Vi] at nx; rw [P5]; simpa using nx
     ·rw [if_neg hg] at hf
      rw [show N8 d.t1 (.ok a) = .error 4 by simp [N8, P5, hg], R6]
      have rb := VL h (lax := lax) (e := e) (z := 4) (by omega) (j + 1) (d := d) (by omega) (H8 l) (F4 S') w0 w1 w2 w3 x0 x1 x2 (done.map JT.enc ++ [a.enc])
      push_cast at rb t1;simp [t1, i1, Ty.D8, Ty.ag, hf, rb];exact O3.err rfl (by omega) (Ag.T ..)
theorem A7L (hk : e.kind = 14) : O3 sg p lax ((run cfg).r YQ [(.undef, .ptr p 0), (e.enc, .val), (d.enc, .val), (H8 l, .val), (F4 S', .val)] (V9 sg p lax 0)) (jE (jt (!lax) e d l S)) := by
 have own := Ex.S9 c.hr;have hp : e.F6.length + 1 = e.kids.length := by have := own.kids; simp [K3, hk] at this; omega
 have h0 : 0 < e.kids.length := by omega
 obtain ⟨o1, o2, o3, o4⟩ := CG c.ho;have h2 : d.types.length = 2 := by rw [o1]; simp [M8, hk]
 have Co := A9.Bb c.dr (by omega)
 have i0 := A9.A6J (d := d) (by omega)
 have hj : jt (!lax) e d l S = (N8 d.t0 (jk (!lax) e d 0 l S)).bind fun a => (Hy (fK (!lax) e d) d.t0 d.t1 l S 1 e.F6).bind fun q => .ok (.mk d.t1 (a :: q)) := by
  rw [EJ c.ho, XV hk, U5 h0];rfl
 refine O3.map ?_ (gP p e.enc d.enc (H8 l) (F4 S') _);rw [kg, hj];simp [Ex.D8, Ex.ag, A9.D8, A9.ag];refine O3.then (yK h c ih h0 _ _ _ [] (by simp [lim])) (fun v hr hv => ?_) (fun z a b c' ks hr hz => ?_)
 rotate_left
 ·rw [Fg hr, show N8 d.t0 (.error z) = .error z from rfl, R6, EI]
  obtain ⟨x, y, w, t1⟩ := V5 (Ag.of a b c' ks) 0;have fb := Au h lax z hz x y w d.t0;have rb := VL h (lax := lax) (e := e) hz 0 (d := d) (by omega) (H8 l) (F4 S') (.int .i64 0) (.int .i64 0) (.list 3 []) (.list 4 []) a b c' ks
  simp only [z1q, z4q, z0q] at t1 rb;simp [t1, i0, Ty.D8, Ty.ag, fb, rb];exact O3.err rfl hz (Ag.T ..)
 obtain ⟨a, hA, rfl⟩ := Fh hr;have H_ := mf c h0 hA;have t0 := BJ (.int .i64 0) (.int .i64 0) (.list 3 []) [a.enc] 0 a rfl;have hf := FN h lax a.ty d.t0 H_ Co;simp only [z1q, z4q, z0q] at t0;rw [hA]
 by_cases hg : a.ty.agrees d.t0 = true
 ·rw [if_pos hg] at hf
  rw [show N8 d.t0 (.ok a) = .ok a by simp [N8, P5, hg], P5]
  have nx := B4D h c ih hk hp h2 (.int .i64 0) (.int .i64 0) (.list 3 []) (.list 4 []) (.int .i64 0) (.int .i64 0) (.list 3 []) e.F6.length 0 [a] (by omega) rfl
  simp only [z8q, z12q, z21q, Nat.zero_add, z1q, z4q, z0q] at nx;simp [t0, i0, Ty.D8, Ty.ag, hf];cases Vi : Hy (fK (!lax) e d) d.t0 d.t1 l S 1 e.F6 with
  | error z => rw [Vi] at nx; rw [R6, EI]; exact nx
  | ok q => rw [Vi] at nx; rw [P5, VD, JT.Nn]; exact nx
 ·rw [if_neg hg] at hf
  rw [show N8 d.t0 (.ok a) = .error 4 by simp [N8, P5, hg], R6, EI]
  have rb := VL h (lax := lax) (e := e) (z := 4) (by omega) 0 (d := d) (by omega) (H8 l) (F4 S') (.int .i64 0) (.int .i64 0) (.list 3 []) (.list 4 []) (.int .i64 0) (.int .i64 0) (.list 3 []) [a.enc]
  simp only [z1q, z4q, z0q] at rb;simp [t0, i0, Ty.D8, Ty.ag, hf, rb];exact O3.err rfl (by omega) (Ag.T ..)
end
end Go.Su

/-
 What the reference's judging does: every expression; the whole.
-/
namespace Go.Su
theorem A8r (lax : Bool) (e : Ex) : yw lax e := by
 induction e using Ex.ind with
 | h e ih =>
   intro hr hf d l S S' dr ds nl Z4 hS hd sg p h;have own := Ex.S9 hr;have hmp := Ex.EK e;obtain ⟨out, ow1, ow2⟩ := B0f h lax e hr hf d l (by omega) hS hd
   refine O3.map ?_ (lT p e.enc d.enc (H8 l) (F4 S') _);rw [qW];simp [Ex.D8, Ex.ag, A9.D8, A9.ag, ow1, DD h]
   by_cases ho : DT (!lax) e d l S = 0
   rotate_left
   ·rw [A6M ho, EI]
    simp [ho];exact O3.err rfl ho (Ag.of ..)
   have OJ := ow2 ho;subst OJ;obtain ⟨o1, o2, o3, o4⟩ := CG ho;have c : RJC lax e d l S S' := ⟨⟨hr, hf, dr, ds, nl, Z4, o2⟩, hS, hd, ho⟩;have k1 := own.k1;simp only [ho];have leaf : ∀ n : Int, e.kind = n → 2 ≤ n → n ≤ 5 → O3 sg p lax (Fa (run cfg) e.enc (V9 sg p lax 0)) (jE (jt (!lax) e d l S)) := by
    intro n hk hn1 hn2;rw [EJ ho, Lu (by omega), VD, JT.Nn, bG]
    have s1 : A8 .sub (.int .i64 e.kind) (.int .i64 2) = some (.int .i64 (e.kind - 2)) := by rw [BU, A_ (by omega) (by omega)]
    have s2 : A8 .add (.int .i64 (e.kind - 2)) (.int .i64 1) = some (.int .i64 (e.kind - 2 + 1)) := Ck (by omega) (by omega)
    have hlf : (run cfg).p BC [.int .i64 (e.kind - 2 + 1)] = some (T9 (e.kind - 1)).enc := by
     rw [show e.kind - 2 + 1 = e.kind - 1 by omega]
     exact Mk _
    simp [s1, s2, hlf];exact O3.ok rfl (Ag.T ..)
   by_cases h1 : e.kind = 1
   ·obtain ⟨i, i1, i2⟩ := A1A l (by omega) e.name
    cases hx : BD l e.name with
    | none =>
      have : DT (!lax) e d l S = 6 := by simp [DT, h1, hx]
      rw [this] at ho;cases ho
    | some x =>
      rw [hx] at i2;obtain ⟨i3, i4⟩ := i2;have hj : jt (!lax) e d l S = .ok (.mk (x.ty.put (x.vars.zip d.types)) []) := by
       rw [EJ ho, Zn h1, hx]
      have gp : M8 e l = x.vars.length := by simp [M8, h1, hx]
      obtain ⟨x1, x2, x3⟩ := nl x (yA hx);have hb := A7H x.vars d.types (by omega) x2
      have hp := B0d (x.vars.zip d.types) (by simp; omega) x.ty x1
      rw [hj, VD, JT.Nn];simp [h1, i1, i4, hb, Ty.D8, Ty.ag, hp];exact O3.ok rfl (Ag.T ..)
   by_cases h2 : e.kind = 2
   ·simp [h2]
    exact leaf 2 h2 (by omega) (by omega)
   by_cases h3 : e.kind = 3
   ·simp [h3]
    exact leaf 3 h3 (by omega) (by omega)
   by_cases h4 : e.kind = 4
   ·simp [h4]
    exact leaf 4 h4 (by omega) (by omega)
   by_cases h5 : e.kind = 5
   ·simp [h5]
    exact leaf 5 h5 (by omega) (by omega)
   have B7N : ∀ k x y z x2 y2 z2 : DV, (run cfg).p IX [k, .agg [x, y, z], .agg [x2, y2, z2]] = some (.agg [k, .int .i64 0, .list 3 [.agg [x, y, z], .agg [x2, y2, z2]]]) ∨ I7 k = false := fun k x y z x2 y2 z2 => by
    cases hc : I7 k with
    | false => exact .inr rfl
    | true =>
      refine .inl ((jL _ _ _).trans ?_);rw [nX];simp [hc]
   have A9B : ∀ (k : Int) (x y z x2 y2 z2 : DV), (run cfg).p IX [.int .i64 k, .agg [x, y, z], .agg [x2, y2, z2]] = some (.agg [.int .i64 k, .int .i64 0, .list 3 [.agg [x, y, z], .agg [x2, y2, z2]]]) := fun k x y z x2 y2 z2 => by
    rcases B7N (.int .i64 k) x y z x2 y2 z2 with h | h
    ·exact h
    ·cases h
   by_cases h6 : e.kind = 6
   ·have hn : e.kids.length = 2 := by have := own.kids; simp [K3, h6] at this; omega
    have h0 : 0 < e.kids.length := by omega
    have h1 : 1 < e.kids.length := by omega
    have hj : jt (!lax) e d l S = (jk (!lax) e d 0 l S).bind fun a => (jk (!lax) e d 1 l S).bind fun b => .ok (.mk (.mk 7 0 [a.ty, b.ty]) [a, b]) := by
     rw [EJ ho, Zo h6, U5 h0];simp only [U5 h1]
    rw [hj];simp [h6];refine O3.then (yK h c ih h0 _ _ _ [] (by simp [lim])) (fun v hr hv => ?_) (fun z a b c' ks hr hz => ?_)
    rotate_left
    ·rw [Fg hr, R6, EI]
     have kb := Eu h (lax := lax) hz e d (.int .i64 1) (H8 l) (F4 S') a b c' ks;obtain ⟨x, y, z', t0⟩ := V5 (Ag.of a b c' ks) 0;obtain ⟨x2, y2, z2, t1⟩ := V5 (Ag.of a b c' ks) 1;simp only [z1q, z6q, z4q, z0q] at t0 t1;simp [kb, t0, t1, A9B];exact O3.err rfl hz (Ag.of ..)
    obtain ⟨a, hA, rfl⟩ := Fh hr;rw [hA, P5];simp;refine O3.then (yK h c ih h1 _ _ _ [a.enc] (by simp [lim])) (fun v hr hv => ?_) (fun z a b c' ks hr hz => ?_)
    rotate_left
    ·rw [Fg hr, R6, EI]
     obtain ⟨x, y, z', t0⟩ := V5 (Ag.of a b c' ks) 0;obtain ⟨x2, y2, z2, t1⟩ := V5 (Ag.of a b c' ks) 1;simp only [z1q, z6q, z4q, z0q] at t0 t1;simp [t0, t1, A9B];exact O3.err rfl hz (Ag.of ..)
    obtain ⟨b, hB, rfl⟩ := Fh hr;have t0 := BJ (.int .i64 0) (.int .i64 0) (.list 3 []) [a.enc, b.enc] 0 a rfl;have t1 := BJ (.int .i64 0) (.int .i64 0) (.list 3 []) [a.enc, b.enc] 1 b rfl;have two := Z_ 7 a.ty b.ty;simp only [z1q, z6q, z4q, z0q] at t0 t1;rw [hB, P5, VD, JT.Nn];simp [t0, t1, two];exact O3.ok rfl (Ag.T ..)
   by_cases h7 : e.kind = 7
   ·have hn : e.kids.length = 0 := by have := own.kids; simp [K3, h7] at this; simp [this]
    have i0 := A9.A6J (d := d) (by rw [o1]; simp [M8, h7])
    have hl := A1x d.t0;rw [EJ ho, h_ h7, VD, JT.Nn];simp [h7, i0, Ty.D8, Ty.ag, hl];exact O3.ok rfl (Ag.T ..)
   have h21 : ∀ w0 w1 w2 w3, O3 sg p lax (Tt (run cfg) p (H8 l) (F4 S') (F4 (S' ++ d.vars)) (.int .i64 e.kind) e.enc d.enc w0 w1 w2 w3 (V9 sg p lax 0)) (jE (jt (!lax) e d l S)) := by
    intro w0 w1 w2 w3;rw [bH]
    by_cases h8 : e.kind = 8
    ·have hn : e.kids.length = 2 := by have := own.kids; simp [K3, h8] at this; omega
     have h0 : 0 < e.kids.length := by omega
     have h1 : 1 < e.kids.length := by omega
     have hty : 0 < d.types.length := by rw [o1]; simp [M8, h8]
     have i0 := A9.A6J (d := d) hty;have Co := A9.Bb dr hty;have hrl := XX Co;have hli : (run cfg).p TN [d.t0.enc] = some (j3 d.t0).enc := A1x d.t0;have hj : jt (!lax) e d l S = (N8 d.t0 (jk (!lax) e d 0 l S)).bind fun a => (N8 (j3 d.t0) (jk (!lax) e d 1 l S)).bind fun b => .ok (.mk (j3 d.t0) [a, b]) := by
      rw [EJ ho, Zm h8, U5 h0];simp only [U5 h1]
     rw [hj];simp [Ex.D8, Ex.ag, A9.D8, A9.ag];simp [h8];refine O3.then (yK h c ih h0 _ _ _ [] (by simp [lim])) (fun v hr hv => ?_) (fun z a b c' ks hr hz => ?_)
     rotate_left
     ·rw [Fg hr, show N8 d.t0 (.error z) = .error z from rfl, R6, EI]
      have kb := Eu h (lax := lax) hz e d (.int .i64 1) (H8 l) (F4 S') a b c' ks;obtain ⟨x, y, w, t0⟩ := V5 (Ag.of a b c' ks) 0;obtain ⟨x2, y2, z2, t1⟩ := V5 (Ag.of (.int .i64 (j3 d.t0).kind) (.int .i64 (j3 d.t0).n) (.list 3 ((j3 d.t0).kids.map Ty.enc)) ks) 1;have fb := Au h lax z hz x y w d.t0;have fb2 := Au h lax z hz x2 y2 z2 (j3 d.t0);simp only [z1q, z6q, z4q, z0q] at t0 t1;simp [kb, t0, t1, i0, Ty.D8, Ty.ag, fb, hli, fb2];exact O3.err rfl hz (Ag.of ..)
     obtain ⟨a, hA, rfl⟩ := Fh hr;have H_ := mf c h0 hA;have t0 := BJ (.int .i64 0) (.int .i64 0) (.list 3 []) [a.enc] 0 a rfl;have hf0 := FN h lax a.ty d.t0 H_ Co;simp only [z1q, z4q, z0q] at t0;rw [hA]
     by_cases hg : a.ty.agrees d.t0 = true
     ·rw [if_pos hg] at hf0
      rw [show N8 d.t0 (.ok a) = .ok a by simp [N8, P5, hg], P5]
      simp [t0, i0, Ty.D8, Ty.ag, hf0];refine O3.then (yK h c ih h1 _ _ _ [a.enc] (by simp [lim])) (fun v hr hv => ?_) (fun z a b c' ks hr hz => ?_)
      rotate_left
      ·rw [Fg hr, show N8 (j3 d.t0) (.error z) = .error z from rfl, R6, EI]
       obtain ⟨x2, y2, z2, t1⟩ := V5 (Ag.of (.int .i64 (j3 d.t0).kind) (.int .i64 (j3 d.t0).n) (.list 3 ((j3 d.t0).kids.map Ty.enc)) ks) 1;have fb2 := Au h lax z hz x2 y2 z2 (j3 d.t0);simp only [z1q, z6q, z4q, z0q] at t1;simp [t1, i0, Ty.D8, Ty.ag, hli, fb2];exact O3.err rfl hz (Ag.of ..)
      obtain ⟨b, hB, rfl⟩ := Fh hr;have hBr := mf c h1 hB;have t1 := BJ (.int .i64 (j3 d.t0).kind) (.int .i64 (j3 d.t0).n) (.list 3 ((j3 d.t0).kids.map Ty.enc)) [a.enc, b.enc] 1 b rfl;have tK := FN h lax b.ty (j3 d.t0) hBr hrl;simp only [z1q, z6q, z4q, z0q] at t1;rw [hB]
      by_cases hg2 : b.ty.agrees (j3 d.t0) = true
      ·rw [if_pos hg2] at tK
       rw [show N8 (j3 d.t0) (.ok b) = .ok b by simp [N8, P5, hg2], P5, VD, JT.Nn]
       simp [t1, i0, Ty.D8, Ty.ag, hli, tK];exact O3.ok rfl (Ag.T ..)
      ·rw [if_neg hg2] at tK
       rw [show N8 (j3 d.t0) (.ok b) = .error 4 by simp [N8, P5, hg2], R6, EI]
       simp [t1, i0, Ty.D8, Ty.ag, hli, tK];exact O3.err rfl (by omega) (Ag.of ..)
     ·rw [if_neg hg] at hf0
      rw [show N8 d.t0 (.ok a) = .error 4 by simp [N8, P5, hg], R6, EI]
      have kb := Eu h (lax := lax) (z := 4) (by omega) e d (.int .i64 1) (H8 l) (F4 S') (.int .i64 0) (.int .i64 0) (.list 3 []) [a.enc]
      obtain ⟨x2, y2, z2, t1⟩ := V5 (Ag.of (.int .i64 (j3 d.t0).kind) (.int .i64 (j3 d.t0).n) (.list 3 ((j3 d.t0).kids.map Ty.enc)) [a.enc]) 1;have fb2 := Au h lax 4 (by omega) x2 y2 z2 (j3 d.t0)
      simp only [z1q, z6q, z4q, z0q] at t1;simp [t0, i0, Ty.D8, Ty.ag, hf0, kb, t1, hli, fb2];exact O3.err rfl (by omega) (Ag.of ..)
    by_cases h9 : e.kind = 9
    ·have hn : e.kids.length = 1 := by have := own.kids; simp [K3, h9] at this; omega
     have h0 : 0 < e.kids.length := by omega
     have m0 := Ex.O5 (c.BZ h0);have xm := A9.Wi (d := d) (i := 0) (by rw [o2]; exact h0)
     have OQ := yV e.a own.a d.types fun h0 => by rw [o1]; simp [M8, h9, h0]
     have hPe : J6 e.a (d.types.getD 0 F7) = J6 e.a d.t0 := rfl;rw [hPe] at OQ;have mK : (J6 e.a d.t0).right = true := Dx own.a fun h0 => A9.Bb dr (by rw [o1]; simp [M8, h9, h0])
     have hj : jt (!lax) e d l S = (jk (!lax) e d 0 (l ++ [⟨e.name, J6 e.a d.t0, []⟩]) S).bind fun a => .ok (.mk (V4 (J6 e.a d.t0) a.ty) [a]) := by
      rw [EJ ho, gz h9, U5 h0]
     have nm1 : Aa (l ++ [⟨e.name, J6 e.a d.t0, []⟩]) := nl.app fun x hx => by
      simp only [z11q] at hx;subst hx;exact ⟨mK, by simp, by simp⟩
     have pl := eU l e.name (J6 e.a d.t0) (by omega)
     rw [hj];simp [Ex.D8, Ex.ag, A9.D8, A9.ag, Ty.D8, Ty.ag];rw [OQ];simp [h9, pl, Ty.D8, Ty.ag];refine O3.then (ME h c.toJC ih h0 nm1 (by simp; omega) hS (by omega) _ _ _ [] (by simp [lim])) (fun v hr hv => ?_) (fun z a b c' ks hr hz => ?_)
     rotate_left
     ·rw [Fg hr, R6, EI]
      obtain ⟨x, y, w, t0⟩ := V5 (Ag.of a b c' ks) 0;simp only [z1q, z4q, z0q] at t0;have h2 := A9B 9 (.int .i64 (J6 e.a d.t0).kind) (.int .i64 (J6 e.a d.t0).n) (.list 3 ((J6 e.a d.t0).kids.map Ty.enc)) x y w;rw [Ty.D8] at h2;simp [t0, Ty.D8, Ty.ag, h2];exact O3.err rfl hz (Ag.of ..)
     obtain ⟨a, hA, rfl⟩ := Fh hr;have t0 := BJ (.int .i64 0) (.int .i64 0) (.list 3 []) [a.enc] 0 a rfl;have two := Z_ 9 (J6 e.a d.t0) a.ty;simp only [z1q, z4q, z0q] at t0;rw [hA, P5, VD, JT.Nn];simp [t0, Ty.D8, Ty.ag, two];exact O3.ok rfl (Ag.T ..)
    have k16 := own.k16;simp [Ex.D8, Ex.ag, A9.D8, A9.ag]
    by_cases X9 : e.kind = 10
    ·have := B0e h c ih X9
     simp [X9];exact this.pass fun a b c ks s => by simp
    by_cases Af : e.kind = 11
    ·have := A7J h c ih Af
     simp [Af];exact this.pass fun a b c ks s => by simp
    by_cases AZ : e.kind = 12
    ·have := A7K h c ih AZ
     simp [AZ];exact this.pass fun a b c ks s => by simp
    by_cases EF : e.kind = 14
    ·have := A7L h c ih EF
     simp [EF];exact this.pass fun a b c ks s => by simp
    ·have := A8s h c ih (by omega)
     simp [h8, h9, X9, Af, AZ, EF];exact this.pass fun a b c ks s => by simp
   simp [h1, h2, h3, h4, h5, h6, h7];exact h21 _ _ _ _
end Go.Su

/-
 Which derivations are tame: that there is an answer.
-/
namespace Go.Su
def AY (sg : List D7) (i : Nat) (q : Option (List DV × List D7)) : Prop := ∃ (m : Int) (c : Bool), q = some ([.int .i64 m], CU sg i c) ∧ Room m
theorem AY.mk {sg : List D7} {i : Nat} {m : Int} {c : Bool} (h : Room m) : AY sg i (some ([.int .i64 m], CU sg i c)) := ⟨m, c, rfl, h⟩
theorem AY.then {sg : List D7} {i : Nat} {qa : Option (List DV × List D7)} {k : List DV × List D7 → Option (List DV × List D7)} (h : AY sg i qa) (hk : ∀ (m : Int) (c : Bool), Room m → AY sg i (k ([.int .i64 m], CU sg i c))) : AY sg i (ob qa k) := by
 obtain ⟨m, c, h1, h2⟩ := h;rw [h1];exact hk m c h2
theorem AY.map {sg : List D7} {i : Nat} {q q' : Option (List DV × List D7)} (h : AY sg i q) (e : q' = q) : AY sg i q' := e ▸ h
theorem B3m (c : Bool) : U4 [(.bool c, .val)] 0 = some (.bool c) := rfl
theorem Pe : Room 1 := by unfold Room; omega
theorem Room.add {a b : Int} (ha : Room a) (hb : Room b) : A8 .add (.int .i64 a) (.int .i64 b) = some (.int .i64 (a + b)) := by unfold Room at ha hb; exact Ck (by omega) (by omega)
theorem Qu (l : List (ByteArray × Int)) (s : ByteArray) (n : Int) (hl : l.length < lim) : (run cfg).p LV [l7 l, .str s, .int .i64 n] = some (l7 (l ++ [(s, n)])) := by
 refine (xA _ _ _).trans ?_;rw [A0V];have e1 : R8 2 (.list 2 []) (l7 l) = some (l7 l) := by
  have := Dj (sz := 2) (a := []) (b := l.map aG) (by simp; omega)
  rw [z15q] at this;exact this
 have e2 := l6 (e := aG) (sz := 2) (l := l) (x := (s, n)) hl;have e2' : R8 2 (l7 l) (.list 2 [.agg [.str s, .int .i64 n]]) = some (l7 (l ++ [(s, n)])) := e2;simp [e1, e2']
theorem yx.app {l : List (ByteArray × Int)} (h : PN l) {s : ByteArray} {n : Int} (hn : Room n) : PN (l ++ [(s, n)]) := fun x hx => by
 rcases z9q.1 hx with hx | hx
 ·exact h x hx
 ·simp only [z11q] at hx
  subst hx;exact hn
section
variable {sg : List D7} {i : Nat} (h : i < sg.length) (b : Bool)
include h
theorem uo {n : Int} (hn : 0 ≤ n) : AY sg i ((run cfg).r Ah [(.undef, .ptr i 0), (.int .i64 n, .val)] (CU sg i b)) := yU h b n hn
theorem aB (ts : List Ty) (hz : ∀ t ∈ ts, t.size ≤ lim) : AY sg i ((run cfg).r CW [(.undef, .ptr i 0), (.list 3 (ts.map Ty.enc), .val)] (CU sg i b)) := by
 refine AY.map ?_ (Xr i _ _);rw [Yy];cases ts with
 | nil =>
   simp [dLen];exact AY.mk Pe
 | cons t ts =>
   have hs := Qt t (hz t (List.mem_cons_self ..));have e1 : E8 3 (.list 3 ((t :: ts).map Ty.enc)) (.int .i64 0) = some t.enc := F3 (e := Ty.enc) (sz := 3) (k := .i64) (i := 0) (l := t :: ts) (by simp)
   have e2 : ¬ ((ts.length : Int) + 1 = 0) := by omega
   simp only [z8q] at e1;simp [e2, e1, Ty.D8, Ty.ag, hs];refine (uo h b (by omega)).then fun m c hm => ?_
   simp;exact AY.mk hm
theorem B0p (ts : List Ty) (hl : ts.length ≤ lim) (hz : ∀ t ∈ ts, t.size ≤ lim) : AY sg i ((run cfg).r IY [(.undef, .ptr i 0), (.list 3 (ts.map Ty.enc), .val)] (CU sg i b)) := by
 have hb := big hl;refine AY.map ?_ (ZC i _ _);rw [bD]
 by_cases h0 : ts.length = 0
 ·simp [h0]
  exact AY.mk Pe
 ·have H7 : ts.length - 1 < ts.length := by omega
  have e1 : ((ts.length : Int) - 1) = ((ts.length - 1 : Nat) : Int) := by omega
  have hs := Qt _ (hz _ (z5q H7));have BV : A8 .sub (.int .i64 (ts.length : Int)) (.int .i64 1) = some (.int .i64 ((ts.length - 1 : Nat) : Int)) := by rw [BU, A_ (by omega) (by omega), e1]
  have Iz : ¬ (ts = []) := fun hh => h0 (by rw [hh]; rfl)
  simp [Iz, BV, F3 H7, Ty.D8, Ty.ag, hs];refine (uo h b (by omega)).then fun m c hm => ?_
  simp;exact AY.mk hm
theorem A2D (t : Ty) (hz : t.size ≤ lim) {n : Int} (hn : Room n) : AY sg i ((run cfg).r Ed [(.undef, .ptr i 0), (t.enc, .val), (.int .i64 n, .val)] (CU sg i b)) := by
 have hs := Qt t hz;have Ey := Dy t;refine AY.map ?_ (bU i _ _ _);rw [fu];cases ht : t.none with
 | true =>
   rw [ht] at Ey;simp [Ty.D8, Ty.ag, Ey];exact AY.mk hn
 | false =>
   rw [ht] at Ey;simp [Ty.D8, Ty.ag, Ey, hs];refine (uo h b (by omega)).then fun m c hm => ?_
   simp;exact AY.mk hm
end
def B3k (e : Ex) : Prop := e.right = true → e.fit → ∀ (d : A9), d.J4 ≤ lim → ∀ (sg : List D7) (i : Nat) (l : List (ByteArray × Int)) (b : Bool), i < sg.length → PN l → l.length + 2 * e.J4 ≤ lim →
 AY sg i ((run cfg).r Z6 [(.undef, .ptr i 0), (e.enc, .val), (d.enc, .val), (l7 l, .val)] (CU sg i b))
section
variable {sg : List D7} {i : Nat} (h : i < sg.length) {e : Ex} (hr : e.right = true) (hf : e.fit) (ih : ∀ k ∈ e.kids, B3k k) {d : A9} (hd : d.J4 ≤ lim) (DR : d.kids.length = e.kids.length)
include h hr hf ih hd DR
theorem ZZ (b : Bool) {j : Nat} (hj : j < e.kids.length) {l : List (ByteArray × Int)} (ho : PN l) (hl : l.length + 2 * (e.kid j).J4 ≤ lim) :
 AY sg i ((run cfg).r Z6 [(.undef, .ptr i 0), ((e.kid j).enc, .val), ((d.kid j).enc, .val), (l7 l, .val)] (CU sg i b)) := by
 have hm : e.kid j ∈ e.kids := by rw [Z9 hj]; exact z5q hj
 have hdm := A9.O5 (A9.B1c (d := d) (i := j) (by omega))
 exact ih _ hm (Ex.Q0 hr hm) (hf.kid hm) (d.kid j) (by omega) sg i l b h ho hl
omit h hr hf ih hd in
theorem ZY {j : Nat} (hj : j < e.kids.length) : E8 16 (.list 16 (e.kids.map Ex.enc)) (.int .i64 (j : Int)) = some (e.kid j).enc ∧ E8 3 (.list 3 (d.kids.map A9.enc)) (.int .i64 (j : Int)) = some (d.kid j).enc := by
 have Vh : j < d.kids.length := by omega
 refine ⟨by rw [Z9 hj]; exact F3 hj, ?_⟩
 have : d.kid j = d.kids[j] := by simp only [A9.kid, z3q, z2q Vh, z20q]
 rw [this]; exact F3 Vh
theorem B3M {l : List (ByteArray × Int)} (ho : PN l) (hl : l.length + 2 * e.J4 ≤ lim) (b : Bool) (hk : e.kind = 14) : AY sg i ((run cfg).r Rt [(.undef, .ptr i 0), (e.enc, .val), (d.enc, .val), (l7 l, .val)] (CU sg i b)) := by
 have own := Ex.S9 hr;have hp : e.F6.length + 1 = e.kids.length := by have := own.kids; simp [K3, hk] at this; omega
 have h0 : 0 < e.kids.length := by omega
 obtain ⟨i0, i1⟩ := ZY (d := d) DR h0;simp only [z1q, z4q, z0q] at i0 i1;have hm0 := Ex.O5 (show e.kid 0 ∈ e.kids by rw [Z9 h0]; exact z5q h0)
 have hml := Ex.dW e;have hbp : e.F6.length < 4294967296 := by have := hf.one.F6; unfold lim at this; omega
 have tz : ∀ t ∈ d.types, t.size ≤ lim := fun t ht => by have := A9.types_size ht; omega
 have tl := A9.TJ d;have loop : ∀ (m j : Nat) (b : Bool), j + m = e.F6.length → AY sg i (Hu (run cfg) i (l7 l) (.int .i64 j) e.enc d.enc (CU sg i b)) := by
  intro m
  induction m with
  | zero =>
    intro j b hj;rw [Li];have : ¬ j < e.F6.length := by omega
    simp [this];refine (B0p h b d.types (by omega) tz).then fun m c hm => ?_
    simp;exact AY.mk hm
  | succ m ihm =>
    intro j b hj;have H7 : j < e.F6.length := by omega
    have Pv : j + 1 < e.kids.length := by omega
    have hpm := z5q H7;have hps := D5.OY e.F6[j];have xm : e.kid (j + 1) ∈ e.kids := by rw [Z9 Pv]; exact z5q Pv
    have hmm : e.F6[j].J4 + (e.kid (j + 1)).J4 < e.J4 := by
     rw [Ex.U9 e];have a1 := Ap (z13q (f := D5.J4) hpm);have a2 := Ap (z13q (f := Ex.J4) xm);omega
    have xu := yS e.F6[j] (by omega)
    have hnl : e.F6[j].names.length ≤ e.F6[j].size := by have := D5.je e.F6[j] []; simp at this; unfold D5.names; omega
    have hnb : e.F6[j].names.length < 4294967297 := big (by omega)
    have EG : A8 .add (.int .i64 (j : Int)) (.int .i64 1) = some (.int .i64 ((j + 1 : Nat) : Int)) := J7 (by omega)
    obtain ⟨k0, k1⟩ := ZY (d := d) DR Pv;have l8 : ∀ (n q : Nat) (a : List (ByteArray × Int)) (b : Bool), q + n = e.F6[j].names.length → PN a → a.length = l.length + q → AY sg i (Hw (run cfg) i (l7 l) (.int .i64 j) (l7 a) (CP e.F6[j].names) (.int .i64 q) e.enc d.enc (CU sg i b)) := by
     intro n
     induction n with
     | zero =>
       intro q a b hq hoa hal;rw [Lj];have : ¬ q < e.F6[j].names.length := by omega
       push_cast at EG k0 k1;simp [this, EG, k0, k1, Ex.D8, Ex.ag, A9.D8, A9.ag];refine (ZZ h hr hf ih hd DR b Pv hoa (by omega)).then fun m2 c hm => ?_
       have := ihm (j + 1) c (by omega)
       push_cast at this;simp;exact this
     | succ n ihn =>
       intro q a b hq hoa hal;have B5y : q < e.F6[j].names.length := by omega
       rw [Lj];simp [B5y, vB B5y];refine (aB h b d.types tz).then fun m2 c hm => ?_
       have mo := Qu a e.F6[j].names[q] m2 (by omega)
       have := ihn (q + 1) (a ++ [(e.F6[j].names[q], m2)]) c (by omega) (yx.app hoa hm) (by simp [hal]; omega)
       push_cast at this;simp [mo, J7 (show q < 9223372036854775807 by omega)]
       exact this
    have := l8 e.F6[j].names.length 0 l b (by omega) ho (by omega)
    simp only [z1q, z4q, z0q] at this;have B7Y : (j : Int) + 1 < (e.kids.length : Int) := by omega
    push_cast at EG;rw [Li];simp [H7, EG, B7Y, F3 H7, D5.D8, D5.ag, xu];exact this
 refine AY.map ?_ (Xu i e.enc d.enc (l7 l) _);rw [Y_];simp [i0, i1, Ex.D8, Ex.ag, A9.D8, A9.ag];refine (ZZ h hr hf ih hd DR b h0 ho (by omega)).then fun m c hm => ?_
 have := loop e.F6.length 0 c (by omega)
 simp only [z1q, z4q, z0q] at this;simp;exact this
theorem B7p {l : List (ByteArray × Int)} (ho : PN l) (hl : l.length + 2 * e.J4 ≤ lim) (b : Bool) : AY sg i (Nf (run cfg) i (l7 l) (.int .i64 e.kind) e.enc d.enc (CU sg i b)) := by
 have own := Ex.S9 hr;have tz : ∀ t ∈ d.types, t.size ≤ lim := fun t ht => by have := A9.types_size ht; omega
 have tl := A9.TJ d;have B70 := Ex.U9 e;rw [Vd]
 by_cases AZ : e.kind = 12
 ·have hn : e.kids.length = 2 := by have := own.kids; simp [K3, AZ] at this; omega
  have h0 : 0 < e.kids.length := by omega
  have h1 : 1 < e.kids.length := by omega
  obtain ⟨i0, i0'⟩ := ZY (d := d) DR h0;obtain ⟨i1, i1'⟩ := ZY (d := d) DR h1;simp only [z1q, z6q, z4q, z0q] at i0 i0' i1 i1';have hms : (e.kid 0).J4 + (e.kid 1).J4 < e.J4 := by
   rw [Ex.U9 e, A3f hn];simp;omega
  have p0 := Ex.EK (e.kid 0);have p1 := Ex.EK (e.kid 1);simp [AZ];refine (aB h b d.types tz).then fun m1 c1 Jb => ?_
  simp [Ty.D8, Ty.ag];refine (A2D h c1 e.a (by omega) Jb).then fun m2 c2 IA => ?_
  simp [Room.add IA Pe];refine (B0p h c2 d.types (by omega) tz).then fun m3 c3 hm3 => ?_
  simp [Ty.D8, Ty.ag];refine (A2D h c3 e.b (by omega) hm3).then fun m4 c4 hm4 => ?_
  have a1 : A8 .add (.int .i64 (m2 + 1)) (.int .i64 m4) = some (.int .i64 (m2 + 1 + m4)) := by unfold Room at IA hm4; exact Ck (by omega) (by omega)
  simp [a1];refine (uo h c4 (by unfold Room at IA hm4; omega)).then fun m5 c5 hm5 => ?_
  have mo := Qu l e.name m5 (by omega)
  have mo2 := Qu (l ++ [(e.name, m5)]) e.arg m2 (by simp; omega)
  simp only [← AZ];simp [mo, mo2, i0, i0', Ex.D8, Ex.ag, A9.D8, A9.ag];have := ZZ h hr hf ih hd DR c5 h0 (l := l ++ [(e.name, m5)] ++ [(e.arg, m2)]) (yx.app (yx.app ho hm5) IA) (by simp; omega)
  rw [z18q, z17q] at this mo2;refine this.then fun m6 c6 hm6 => ?_
  simp [i1, i1', Ex.D8, Ex.ag, A9.D8, A9.ag];refine (ZZ h hr hf ih hd DR c6 h1 (l := l ++ [(e.name, m5)]) (yx.app ho hm5) (by simp; omega)).then fun m7 c7 hm7 => ?_
  simp;exact AY.mk hm7
 by_cases Fv : e.kind = 13
 ·simp [Fv]
  refine (aB h b d.types tz).then fun m1 c1 Jb => ?_
  simp;exact AY.mk Jb
 by_cases EF : e.kind = 14
 ·simp [Ex.D8, Ex.ag, A9.D8, A9.ag]
  simp [EF];refine (B3M h hr hf ih hd DR ho hl b EF).then fun m1 c1 Jb => ?_
  simp;exact AY.mk Jb
 by_cases Ps : e.kind = 15
 ·simp [Ps, Ty.D8, Ty.ag]
  refine (A2D h b e.a (by omega) Pe).then fun m1 c1 Jb => ?_
  simp;exact AY.mk Jb
 ·simp [AZ, Fv, EF, Ps]
  exact AY.mk Pe
theorem B4Y {l : List (ByteArray × Int)} (ho : PN l) (hl : l.length + 2 * e.J4 ≤ lim) (b : Bool) {x y : Int} (hx : Room x) (hy : Room y) : AY sg i (BM (run cfg) i (l7 l) (.int .i64 x) (.int .i64 y) e.enc d.enc (CU sg i b)) := by
 have own := Ex.S9 hr;have tz : ∀ t ∈ d.types, t.size ≤ lim := fun t ht => by have := A9.types_size ht; omega
 have tl := A9.TJ d;have B70 := Ex.U9 e;rw [Vb]
 by_cases h1 : e.kind = 1
 ·obtain ⟨m, c, hm, IA⟩ := A7I h b l (by omega) ho e.name d.types (by omega) tz
  simp [h1, hm];exact AY.mk IA
 by_cases h6 : e.kind = 6
 ·have a1 : A8 .add (.int .i64 (x + y)) (.int .i64 1) = some (.int .i64 (x + y + 1)) := by unfold Room at hx hy; exact Ck (by omega) (by omega)
  simp [h6, Room.add hx hy, a1];refine (uo h b (by unfold Room at hx hy; omega)).then fun m1 c1 Jb => ?_
  simp;exact AY.mk Jb
 by_cases h7 : e.kind = 7
 ·simp [h7]
  refine (aB h b d.types tz).then fun m1 c1 Jb => ?_
  simp [Room.add Jb Pe];refine (uo h c1 (by unfold Room at Jb; omega)).then fun m2 c2 IA => ?_
  simp;exact AY.mk IA
 by_cases h8 : e.kind = 8
 ·simp [h8]
  refine (aB h b d.types tz).then fun m1 c1 Jb => ?_
  simp [Room.add Jb Pe];refine (uo h c1 (by unfold Room at Jb; omega)).then fun m2 c2 IA => ?_
  simp;exact AY.mk IA
 by_cases h9 : e.kind = 9
 ·have hn : e.kids.length = 1 := by have := own.kids; simp [K3, h9] at this; omega
  have h0 : 0 < e.kids.length := by omega
  obtain ⟨i0, i0'⟩ := ZY (d := d) DR h0;simp only [z1q, z4q, z0q] at i0 i0';have m0 := Ex.O5 (show e.kid 0 ∈ e.kids by rw [Z9 h0]; exact z5q h0)
  simp [h9];refine (aB h b d.types tz).then fun m1 c1 Jb => ?_
  simp [Ty.D8, Ty.ag];refine (A2D h c1 e.a (by omega) Jb).then fun m2 c2 IA => ?_
  have mo := Qu l e.name m2 (by omega)
  simp [Room.add IA Pe, i0, i0', mo, Ex.D8, Ex.ag, A9.D8, A9.ag];refine (ZZ h hr hf ih hd DR c2 h0 (l := l ++ [(e.name, m2)]) (yx.app ho IA) (by simp; omega)).then fun m3 c3 hm3 => ?_
  have a1 : A8 .add (.int .i64 (m2 + 1)) (.int .i64 m3) = some (.int .i64 (m2 + 1 + m3)) := by unfold Room at IA hm3; exact Ck (by omega) (by omega)
  simp [a1];refine (uo h c3 (by unfold Room at IA hm3; omega)).then fun m4 c4 hm4 => ?_
  simp;exact AY.mk hm4
 by_cases X9 : e.kind = 10
 ·simp [X9]
  exact AY.mk hx
 by_cases Af : e.kind = 11
 ·have hn : e.kids.length = 2 := by have := own.kids; simp [K3, Af] at this; omega
  have h0 : 0 < e.kids.length := by omega
  have h1 : 1 < e.kids.length := by omega
  obtain ⟨i0, i0'⟩ := ZY (d := d) DR h0;obtain ⟨i1, i1'⟩ := ZY (d := d) DR h1;simp only [z1q, z6q, z4q, z0q] at i0 i0' i1 i1';have m0 := Ex.O5 (show e.kid 0 ∈ e.kids by rw [Z9 h0]; exact z5q h0)
  have m1 := Ex.O5 (show e.kid 1 ∈ e.kids by rw [Z9 h1]; exact z5q h1)
  simp [Af, i0, i0', Ex.D8, Ex.ag, A9.D8, A9.ag];refine (ZZ h hr hf ih hd DR b h0 ho (by omega)).then fun m1 c1 Jb => ?_
  simp [Ty.D8, Ty.ag];refine (A2D h c1 e.a (by omega) Jb).then fun m2 c2 IA => ?_
  have mo := Qu l e.name m2 (by omega)
  simp [i1, i1', mo, Ex.D8, Ex.ag, A9.D8, A9.ag];refine (ZZ h hr hf ih hd DR c2 h1 (l := l ++ [(e.name, m2)]) (yx.app ho IA) (by simp; omega)).then fun m3 c3 hm3 => ?_
  simp;exact AY.mk hm3
 ·have := B7p h hr hf ih hd DR ho hl b
  simp [h1, h6, h7, h8, h9, X9, Af];exact this
end
theorem A8q (e : Ex) : B3k e := by
 induction e using Ex.ind with
 | h e ih =>
   intro hr hf d hd sg i l b h ho hl;have hkb : e.kids.length < 4294967297 := by have := hf.one.kids; exact big (by omega)
   refine AY.map ?_ (ZE i e.enc d.enc (l7 l) _);rw [bF];simp [Ex.D8, Ex.ag, A9.D8, A9.ag, uq h];cases b with
   | true => exact AY.mk Pe
   | false =>
   simp [B3m]
   by_cases DR : d.kids.length = e.kids.length
   rotate_left
   ·have xk : ¬ (e.kids.length : Int) = (d.kids.length : Int) := by omega
    simp [xk];exact AY.mk Pe
   have xk : (e.kids.length : Int) = (d.kids.length : Int) := by omega
   have yl := B4Y h hr hf ih hd DR ho hl false Pe Pe;have t7 : ∀ (m j : Nat) (x y : Int) (b : Bool), j + m = e.kids.length → Room x → Room y → AY sg i (Ig (run cfg) i (l7 l) (.int .i64 x) (.int .i64 y) (.int .i64 j) e.enc d.enc (CU sg i b)) := by
    intro m
    induction m with
    | zero =>
      intro j x y b hj hx hy;rw [Mv];have : ¬ j < e.kids.length := by omega
      simp [this];exact B4Y h hr hf ih hd DR ho hl b hx hy
    | succ m ihm =>
      intro j x y b hj hx hy;have H7 : j < e.kids.length := by omega
      obtain ⟨i0, i0'⟩ := ZY (d := d) DR H7;have m0 := Ex.O5 (show e.kid j ∈ e.kids by rw [Z9 H7]; exact z5q H7)
      rw [Mv];simp [H7, i0, i0', Ex.D8, Ex.ag, A9.D8, A9.ag];refine (ZZ h hr hf ih hd DR b H7 ho (by omega)).then fun m1 c1 Jb => ?_
      have := ihm (j + 1) x m1 c1 (by omega) hx Jb
      push_cast at this;simp [J7 (show j < 9223372036854775807 by omega)]
      exact this
   by_cases h0 : 0 < e.kids.length
   rotate_left
   ·simp [xk, h0]
    exact yl
   have Iz : 0 < d.kids.length := by omega
   by_cases h9 : e.kind = 9
   ·simp [xk, h0, Iz, h9]
    exact yl
   by_cases Af : e.kind = 11
   ·simp [xk, h0, Iz, Af]
    exact yl
   by_cases AZ : e.kind = 12
   ·simp [xk, h0, Iz, AZ]
    exact yl
   by_cases EF : e.kind = 14
   ·simp [xk, h0, Iz, EF]
    exact yl
   obtain ⟨i0, i0'⟩ := ZY (d := d) DR h0;simp only [z1q, z4q, z0q] at i0 i0';have m0 := Ex.O5 (show e.kid 0 ∈ e.kids by rw [Z9 h0]; exact z5q h0)
   simp [xk, h0, Iz, h9, Af, AZ, EF, i0, i0', Ex.D8, Ex.ag, A9.D8, A9.ag];refine (ZZ h hr hf ih hd DR false h0 ho (by omega)).then fun m1 c1 Jb => ?_
   have := t7 (e.kids.length - 1) 1 m1 1 c1 (by omega) Jb Pe
   simp only [z6q, z0q] at this;simp;exact this
theorem A10 (e : Ex) (d : A9) (hf : e.fit) (hm : 2 * e.J4 ≤ lim) (hd : d.J4 ≤ lim) : ∃ b : Bool, (run cfg).p Mx [e.enc, d.enc] = some (.bool b) := by
 have hc := yT e hf;have e0 := bM (run cfg) e.enc d.enc;cases hr : e.right with
 | false =>
   rw [hr] at hc;simp [Ex.D8, Ex.ag, A9.D8, A9.ag, hc] at e0;exact ⟨_, Xe _ _ e0⟩
 | true =>
   rw [hr] at hc;have jp : 0 < [D7.box [(.bool false, .val)]].length := by simp
   obtain ⟨m, c, q, -⟩ := A8q e hr hf d hd [.box [(.bool false, .val)]] 0 [] false jp (fun x hx => by simp at hx) (by simpa using hm)
   have e1 : CU [.box [(.bool false, .val)]] 0 false = [D7.box [(.bool false, .val)]] := rfl;have e2 : l7 [] = .list 2 [] := rfl;rw [e1, e2] at q;simp [Ex.D8, Ex.ag, A9.D8, A9.ag, hc, q, uq jp, B3m] at e0;exact ⟨_, Xe _ _ e0⟩
end Go.Su

/-
 What a judged expression is like; its term and its labels.
-/
namespace Go.Su
structure JL (e : Ex) (d : A9) : Prop where
 er : e.right = true
 dk : d.kids.length = e.kids.length
 d1 : e.kind = 7 ∨ e.kind = 8 ∨ e.kind = 13 ∨ e.kind = 14 → 0 < d.types.length
 d2 : e.kind = 14 → 1 < d.types.length
 Z7 : e.kind = 12 → d.types.length = (if e.a.kind = 0 then 1 else 0) + (if e.b.kind = 0 then 1 else 0)
 dr : d.AO = true
inductive JS : Ex → A9 → JT → Prop where
 | mk (e : Ex) (d : A9) (T : JT) : JL e d → T.ty.right = true → T.kids.length = e.kids.length → (e.kind = 9 → 0 < T.ty.kids.length) →
   (e.kind = 10 → (T.kid 0).ty.kind ≠ 5 → 0 < (T.kid 0).ty.kids.length) → (∀ i, i < e.kids.length → JS (e.kid i) (d.kid i) (T.kid i)) → JS e d T
namespace JS
variable {e : Ex} {d : A9} {T : JT} (h : JS e d T)
include h
theorem jl : JL e d := by cases h; assumption
theorem ty : T.ty.right = true := by cases h; assumption
theorem len : T.kids.length = e.kids.length := by cases h; assumption
theorem k9 : e.kind = 9 → 0 < T.ty.kids.length := by cases h; assumption
theorem k10 : e.kind = 10 → (T.kid 0).ty.kind ≠ 5 → 0 < (T.kid 0).ty.kids.length := by cases h; assumption
theorem kid {i : Nat} (hi : i < e.kids.length) : JS (e.kid i) (d.kid i) (T.kid i) := by cases h with | mk _ _ _ _ _ _ _ _ g => exact g i hi
omit h
theorem of0 {t : Ty} (hL : JL e d) (ht : t.right = true) (h : e.kids.length = 0) (h9 : e.kind ≠ 9 ∧ e.kind ≠ 10) : JS e d (.mk t []) :=
 .mk _ _ _ hL ht h.symm (fun h => absurd h h9.1) (fun h => absurd h h9.2) fun i hi => by omega
theorem of1 {t : Ty} {a : JT} (hL : JL e d) (ht : t.right = true) (h : e.kids.length = 1) (h9 : e.kind = 9 → 0 < t.kids.length) (X9 : e.kind ≠ 10) (ha : JS (e.kid 0) (d.kid 0) a) : JS e d (.mk t [a]) :=
 .mk _ _ _ hL ht h.symm h9 (fun h => absurd h X9) fun i hi => by
  obtain rfl : i = 0 := by omega
  exact ha
theorem of2 {t : Ty} {a b : JT} (hL : JL e d) (ht : t.right = true) (h : e.kids.length = 2) (h9 : e.kind ≠ 9) (X9 : e.kind = 10 → a.ty.kind ≠ 5 → 0 < a.ty.kids.length) (ha : JS (e.kid 0) (d.kid 0) a) (hb : JS (e.kid 1) (d.kid 1) b) : JS e d (.mk t [a, b]) :=
 .mk _ _ _ hL ht h.symm (fun h => absurd h h9) X9 fun i hi => by
  match i, hi with
  | 0, _ => exact ha
  | 1, _ => exact hb
  | i + 2, hi => omega
theorem of3 {t : Ty} {a b c : JT} (hL : JL e d) (ht : t.right = true) (h : e.kids.length = 3) (h9 : e.kind = 13) (ha : JS (e.kid 0) (d.kid 0) a) (hb : JS (e.kid 1) (d.kid 1) b) (hc : JS (e.kid 2) (d.kid 2) c) : JS e d (.mk t [a, b, c]) :=
 .mk _ _ _ hL ht h.symm (fun h => by omega) (fun h => by omega) fun i hi => by
  match i, hi with
  | 0, _ => exact ha
  | 1, _ => exact hb
  | 2, _ => exact hc
  | i + 3, hi => omega
end JS
theorem B3v (st : Bool) (e : Ex) : e.right = true → ∀ (d : A9) (l : List Nm) (S : List Int) (T : JT), d.AO = true → d.DC → Aa l → jt st e d l S = .ok T → JS e d T := by
 induction e using Ex.ind with
 | h e ih =>
   intro he d l S T hd hv hl h;have o := Ex.S9 he;have hT := JU st e he d l S T hd hv hl h;have Kj := (A9.EM.1 hd).2.1;rw [A5U] at h;have Hd := A4W h;obtain ⟨hn, DR, B8a, htk⟩ := CG Hd;unfold gq at h;rw [if_pos Hd] at h;have hL : JL e d := ⟨he, DR, fun h => by rw [hn]; rcases h with h | h | h | h <;> simp [M8, h], fun h => by rw [hn]; simp [M8, h], fun h => by rw [hn]; simp [M8, h], hd⟩
   have kid : ∀ (i : Nat) l S T, i < e.kids.length → Aa l → ((e.kids.map (jt st)).getD i fun _ _ _ => .error 4) (d.kid i) l S = .ok T → JS (e.kid i) (d.kid i) T := by
    intro i l S T H7 hl h;rw [U5 H7] at h;exact ih _ (by rw [Z9 H7]; exact z5q H7) (Ex.Q0 he (by rw [Z9 H7]; exact z5q H7)) _ _ _ _ (A9.Dm hd i) (A9.El hv i) hl h
   have one : ∀ {s : ByteArray} {t : Ty} {vs : List Int}, t.right = true → (∀ v ∈ vs, 0 ≤ v ∧ v ≤ 1048576) → vs.length ≤ lim → Aa (l ++ [⟨s, t, vs⟩]) := fun h1 h2 h3 => hl.app (.one ⟨h1, h3, h2⟩)
   have two : ∀ {s s' : ByteArray} {t t' : Ty}, t.right = true → t'.right = true → Aa (l ++ [⟨s, t, []⟩, ⟨s', t', []⟩]) := fun h1 h2 => hl.app fun x hx => by
    rcases z30q.1 hx with rfl | hx
    ·exact ⟨h1, by simp, by simp⟩
    ·obtain rfl := z11q.1 hx
     exact ⟨h2, by simp, by simp⟩
   have k1 := o.k1;have k16 := o.k16;have kk := o.kids;unfold K3 at kk;have A3S : e.kind = 1 ∨ (e.kind = 2 ∨ e.kind = 3 ∨ e.kind = 4 ∨ e.kind = 5) ∨ e.kind = 6 ∨ e.kind = 7 ∨ e.kind = 8 ∨ e.kind = 9 ∨ e.kind = 10 ∨ e.kind = 11 ∨ e.kind = 12 ∨ e.kind = 13 ∨ e.kind = 14 ∨ e.kind = 15 ∨ e.kind = 16 := by omega
   rcases A3S with hk | hk | hk | hk | hk | hk | hk | hk | hk | hk | hk | hk | hk
   ·have n : e.kids.length = 0 := by simp [hk] at kk; simp [kk]
    rw [Zn hk] at h;cases hx : BD l e.name with
    | none => rw [hx] at h; cases h
    | some x =>
      rw [hx] at h;cases h;exact .of0 hL hT n (by omega)
   ·have n : e.kids.length = 0 := by rcases hk with hk | hk | hk | hk <;> simp [hk] at kk <;> simp [kk]
    rw [Lu hk] at h;cases h; exact .of0 hL hT n (by omega)
   ·have n : e.kids.length = 2 := by simp [hk] at kk; omega
    rw [Zo hk] at h;obtain ⟨a, h1, h⟩ := U3 h;obtain ⟨b, h2, h⟩ := U3 h;cases h;exact .of2 hL hT n (by omega) (by omega) (kid 0 _ _ _ (by omega) hl h1) (kid 1 _ _ _ (by omega) hl h2)
   ·have n : e.kids.length = 0 := by simp [hk] at kk; simp [kk]
    rw [h_ hk] at h;cases h;exact .of0 hL hT n (by omega)
   ·have n : e.kids.length = 2 := by simp [hk] at kk; omega
    rw [Zm hk] at h;obtain ⟨a, h1, h⟩ := U3 h;obtain ⟨b, h2, h⟩ := U3 h;cases h;exact .of2 hL hT n (by omega) (by omega) (kid 0 _ _ _ (by omega) hl (Ej h1).1) (kid 1 _ _ _ (by omega) hl (Ej h2).1)
   ·have n : e.kids.length = 1 := by simp [hk] at kk; omega
    rw [gz hk] at h;obtain ⟨a, h1, h⟩ := U3 h;cases h;have hg : (J6 e.a d.t0).right = true := Dx o.a fun h => A9.Bb hd (by rw [hn]; simp [M8, hk, h])
    exact .of1 hL hT n (fun _ => by simp [V4, Ty.kids]) (by omega) (kid 0 _ _ _ (by omega) (one hg (by simp) (by simp)) h1)
   ·have n : e.kids.length = 2 := by simp [hk] at kk; omega
    rw [gu hk] at h;obtain ⟨a, h1, h⟩ := U3 h;obtain ⟨b, h2, h⟩ := U3 h;have ja := kid 0 _ _ _ (by omega) hl h1
    have jb := kid 1 _ _ _ (by omega) hl h2
    split at h
    ·rename_i h5
     split at h
     ·cases h; exact .of2 hL hT n (by omega) (fun _ h => absurd h5 h) ja jb
     ·cases h
    ·split at h
     ·rename_i h9
      split at h
      ·cases h
       obtain ⟨q1, -, -, -, q5⟩ := Ty.X6.1 ja.ty;rw [h9] at q1;have Z4 : a.ty.kids.length = 2 := by simp [arity] at q1; omega
       exact .of2 hL hT n (by omega) (fun _ _ => by omega) ja jb
      ·cases h
     ·cases h
   ·have n : e.kids.length = 2 := by simp [hk] at kk; omega
    rw [g_ hk] at h;obtain ⟨a, h1, h⟩ := U3 h;obtain ⟨b, h2, h⟩ := U3 h;cases h;have ja : JS (e.kid 0) (d.kid 0) a := by
     split at h1
     ·exact kid 0 _ _ _ (by omega) hl h1
     ·exact kid 0 _ _ _ (by omega) hl (Ej h1).1
    have ra : (J6 e.a a.ty).right = true := Dx o.a fun h0 => ja.ty
    exact .of2 hL hT n (by omega) (by omega) ja (kid 1 _ _ _ (by omega) (one ra Kj hv.vars) h2)
   ·have n : e.kids.length = 2 := by simp [hk] at kk; omega
    rw [iA hk] at h;obtain ⟨a, h1, h⟩ := U3 h;obtain ⟨b, h2, h⟩ := U3 h;cases h;have rp := Zw o hk hd hn;have rf := Pd rp (VK o hk hd hn);exact .of2 hL hT n (by omega) (by omega) (kid 0 _ _ _ (by omega) (two rf rp) (Ej h1).1) (kid 1 _ _ _ (by omega) (one rf Kj hv.vars) h2)
   ·have n : e.kids.length = 3 := by simp [hk] at kk; omega
    rw [oM hk] at h;obtain ⟨a, h1, h⟩ := U3 h;obtain ⟨b, h2, h⟩ := U3 h;obtain ⟨c, h3, h⟩ := U3 h;cases h;exact .of3 hL hT n hk (kid 0 _ _ _ (by omega) hl (Ej h1).1) (kid 1 _ _ _ (by omega) hl (Ej h2).1) (kid 2 _ _ _ (by omega) hl (Ej h3).1)
   ·have n : e.kids.length = e.F6.length + 1 := by simp [hk] at kk; omega
    rw [XV hk] at h;obtain ⟨a, h1, h⟩ := U3 h;obtain ⟨us, h2, h⟩ := U3 h;cases h;have t0 := A9.Bb hd (hL.d1 (by omega))
    obtain ⟨g1, g2⟩ := A1O h2;refine .mk _ _ _ hL hT (by simp [JT.kids, g1, n]) (by omega) (by omega) fun i hi => ?_
    cases i with
    | zero => exact kid 0 _ _ _ (by omega) hl (Ej h1).1
    | succ i =>
      have hp : i < e.F6.length := by omega
      obtain ⟨b, x, q1, q2, q3, -⟩ := g2 i e.F6[i] (z2q hp);have hx : (JT.mk d.t1 (a :: us)).kid (i + 1) = x := by
       show (a :: us).getD (i + 1) B5S = x
       simp [z3q, q3]
      rw [hx];rw [show 1 + i = i + 1 by omega] at q2
      exact kid (i + 1) _ _ _ hi (hl.app (Aa.B2d (D5.jG _ _ _ t0 q1))) q2
   ·have n : e.kids.length = 1 := by simp [hk] at kk; omega
    rw [gy hk] at h;obtain ⟨a, h1, h⟩ := U3 h;cases h;exact .of1 hL hT n (by omega) (by omega) (kid 0 _ _ _ (by omega) hl (Ej h1).1)
   ·have n : e.kids.length = 2 := by simp [hk] at kk; omega
    rw [oN hk] at h;obtain ⟨a, h1, h⟩ := U3 h;obtain ⟨b, h2, h⟩ := U3 h;cases h;exact .of2 hL hT n (by omega) (by omega) (kid 0 _ _ _ (by omega) hl (Ej h1).1) (kid 1 _ _ _ (by omega) hl (Ej h2).1)
theorem Mo : F7.thin = true := by rw [Ty.LC]; simp [F7, lim]
theorem A9.B1L {d : A9} (h : d.fit) (i : Nat) : (d.types.getD i F7).thin = true := by
 rw [z3q]
 by_cases hi : i < d.types.length
 ·rw [z2q hi]
  exact ((A9.bQ d).1 h).2.2.2.1 _ (z5q hi)
 ·rw [z27q (by omega)]
  exact Mo
theorem A9.A8P {d : A9} (h : d.fit) {i : Nat} (hi : i < d.kids.length) : (d.kid i).fit := by
 have : d.kid i = d.kids[i] := by simp [A9.kid, z3q, z2q hi]
 rw [this];exact ((A9.bQ d).1 h).2.2.2.2 _ (z5q hi)
theorem A28 {a b : Ty} (ha : a.thin = true) (hb : b.thin = true) : (J6 a b).thin = true := by unfold J6; split <;> assumption
structure fC (x : Q9) : Prop where
 frm : x.frm.thin = true
 to : x.to.thin = true
section
variable {e : Ex} {d : A9} {T : JT} (h : JS e d T) (hf : e.fit) (hd : d.fit)
include h hf hd
omit hf hd in
theorem A7T (i : Nat) : ((K5 e d T).getD i F7).none = true ∨ ((K5 e d T).getD i F7).right = true := by
 have z : F7.none = true := rfl;have key : ∀ w ∈ K5 e d T, w.none = true ∨ w.right = true := by
  intro w hw;have o := Ex.S9 h.jl.er;have kk := o.kids;unfold K3 at kk;unfold K5 at hw
  split at hw
  ·rename_i h8
   simp at hw; rcases hw with rfl | rfl
   ·exact .inr (A9.Bb h.jl.dr (h.jl.d1 (by omega)))
   ·exact .inr h.ty
  split at hw
  ·rename_i X9
   have k0 := (h.kid (i := 0) (by simp [X9] at kk; omega)).ty
   split at hw
   ·simp at hw; rcases hw with rfl | rfl
    ·exact .inr (Pd k0 k0)
    ·exact .inr k0
   ·rename_i h5
    have g0 := h.k10 X9 h5;simp at hw; rcases hw with rfl | rfl
    ·exact .inl z
    ·rw [z2q g0]
     exact .inr ((Ty.X6.1 k0).2.2.2.2 _ (z5q g0))
  split at hw
  ·simp at hw; rcases hw with rfl | rfl
   ·exact o.a
   ·exact .inl z
  split at hw
  ·rename_i AZ
   simp at hw; rcases hw with rfl | rfl
   ·exact .inr (VK o AZ h.jl.dr (l := []) (by rw [h.jl.Z7 AZ]; simp [M8, AZ]))
   ·exact .inl z
  split at hw
  ·simp at hw; rcases hw with rfl | rfl
   ·exact .inr (EN (by omega))
   ·exact .inr h.ty
  split at hw
  ·rename_i EF
   simp at hw; rcases hw with rfl | ⟨_, rfl⟩
   ·exact .inr (A9.Bb h.jl.dr (h.jl.d1 (by omega)))
   ·exact .inr (A9.eY h.jl.dr (h.jl.d2 EF))
  split at hw
  ·simp at hw; subst hw; exact o.a
  split at hw
  ·simp at hw; subst hw
   unfold Ko T9
   split <;> exact .inr (EN (by omega))
  ·simp at hw
 rw [z3q];cases hx : (K5 e d T)[i]? with
 | none => exact .inl z
 | some x => exact key x (z19q hx)
omit h hf hd in
theorem B4f {w : Ty} (h : w.none = true ∨ w.right = true) : w.thin = true := by
 rcases h with h | h
 ·rw [Ty.A6T.1 h]; exact Mo
 ·exact Ty.U8 h
omit h hf hd in
theorem A8T {w : Ty} (h : w.none = true ∨ w.right = true) : w.none = decide (w.kind = 0) := by
 rcases h with h | h
 ·rw [h, Ty.Dn h]; rfl
 ·have := Ty.A3A h
  cases hn : w.none with
  | false => simp; omega
  | true => have := Ty.Dn hn; omega
theorem B0Q (ks : List Tm) (hk : ks.length < lim) (Ha : ∀ k ∈ ks, k.Mw) : (V3 e d T ks).Mw := by
 have z := Mo;have l0 : 0 < lim := by unfold lim; omega
 obtain ⟨f1, f2, f3, f4, f5⟩ := (A9.bQ d).1 hd;have t0 : d.t0.thin = true := A9.B1L hd 0;have t1 : d.t1.thin = true := A9.B1L hd 1;have plain : ∀ (k lo hi : Int) (s s' : ByteArray) (n : Int) (s'' : ByteArray) (op lab : Int) (b : Bool) (vs : List Int) (x y : Ty) (us : List Ty) (ps : List D5), vs.length < lim → x.thin = true → y.thin = true → us.length < lim → (∀ y ∈ us, y.thin = true) → ps.length < lim → (∀ p ∈ ps, p.fit) → (Tm.mk k lo hi s s' n s'' op lab b vs x y us ps ks).Mw :=
  fun _ _ _ _ _ _ _ _ _ _ _ _ _ _ _ a b c d e f g => .mk _ ⟨a, b, c, d, e, f, g⟩ hk Ha
 have nop : ∀ p ∈ ([] : List D5), p.fit := fun p hp => by simp at hp
 have not : ∀ y ∈ ([] : List Ty), y.thin = true := fun p hp => by simp at hp
 have a0 : (T.ty.kids.getD 0 F7).thin = true := by
  rw [z3q];cases hx : T.ty.kids[0]? with
  | none => exact z
  | some x => exact Ty.Bu (Ty.U8 h.ty) (z19q hx)
 unfold V3
 split
 ·exact plain _ _ _ _ _ _ _ _ _ _ _ _ _ _ _ l0 z z f1 f4 l0 nop
 split
 ·exact plain _ _ _ _ _ _ _ _ _ _ _ _ _ _ _ l0 z z l0 not l0 nop
 split
 ·exact plain _ _ _ _ _ _ _ _ _ _ _ _ _ _ _ l0 z z l0 not l0 nop
 split
 ·exact plain _ _ _ _ _ _ _ _ _ _ _ _ _ _ _ l0 t0 z l0 not l0 nop
 split
 ·exact plain _ _ _ _ _ _ _ _ _ _ _ _ _ _ _ l0 a0 z l0 not l0 nop
 split
 ·exact plain _ _ _ _ _ _ _ _ _ _ _ _ _ _ _ f2 z z l0 not l0 nop
 split
 ·exact plain _ _ _ _ _ _ _ _ _ _ _ _ _ _ _ f2 (A28 hf.one.a t0) (A28 hf.one.b (by split <;> assumption)) l0 not l0 nop
 split
 ·exact plain _ _ _ _ _ _ _ _ _ _ _ _ _ _ _ l0 z z l0 not hf.one.F6 hf.one.pat
 split
 ·rw [z3q]
  cases hx : ks[0]? with
  | none => exact .mk _ ⟨l0, z, z, l0, not, l0, nop⟩ l0 fun k hk => by simp [Tm.kids] at hk
  | some x => exact Ha x (z19q hx)
 split
 ·exact plain _ _ _ _ _ _ _ _ _ _ _ _ _ _ _ l0 z z l0 not l0 nop
 ·exact plain _ _ _ _ _ _ _ _ _ _ _ _ _ _ _ l0 z z l0 not l0 nop
end
theorem A2W (e : Ex) (d : A9) (T : JT) (h : JS e d T) (hf : e.fit) (hd : d.fit) : ∀ (fs : List Et) (i : Nat) (L : List Q9), i + fs.length = e.kids.length → (∀ (j : Nat) f, fs[j]? = some f → ∀ L, (∀ x ∈ L, fC x) → (f (d.kid (i + j)) (T.kid (i + j)) L).1.Mw ∧ ∀ x ∈ (f (d.kid (i + j)) (T.kid (i + j)) L).2, fC x) → (∀ x ∈ L, fC x) →
 (Dk e d T i fs L).1.length = fs.length ∧ (∀ k ∈ (Dk e d T i fs L).1, k.Mw) ∧ ∀ x ∈ (Dk e d T i fs L).2, fC x
 | [], i, L, _, _, hL => ⟨rfl, fun k hk => by simp [Dk] at hk, hL⟩
 | f :: fs, i, L, hi, hF, hL => by
   have l1 : (1 : Nat) < lim := by unfold lim; omega
   obtain ⟨g1, g2⟩ := hF 0 f rfl L hL;simp only [Nat.add_zero] at g1 g2;have H7 : i < e.kids.length := by simp at hi; omega
   have hk : (FE e d T i f L).1.Mw ∧ ∀ x ∈ (FE e d T i f L).2, fC x := by
    unfold FE;simp only
    split
    ·exact ⟨g1, g2⟩
    ·have tk := Ty.U8 (h.kid H7).ty
     have tw := B4f (A7T h i);refine ⟨.mk _ ⟨by simp [FC, Tm.vars, lim], tk, tw, by simp [FC, Tm.args, lim], fun y hy => by simp [FC, Tm.args] at hy, by simp [FC, Tm.F6, lim], fun y hy => by simp [FC, Tm.F6] at hy⟩ (by simp [FC, Tm.kids, lim]) fun k hk => ?_, fun x hx => ?_⟩
     ·simp [FC, Tm.kids] at hk; subst hk; exact g1
     ·simp only [FC] at hx
      rcases z9q.1 hx with hx | hx
      ·exact g2 x hx
      ·obtain rfl := z11q.1 hx
       exact ⟨tk, tw⟩
   obtain ⟨q1, q2, q3⟩ := A2W e d T h hf hd fs (i + 1) (FE e d T i f L).2 (by simp at hi; omega) (fun j f' hj => by
    have := hF (j + 1) f' (by simpa using hj)
    rw [show i + (j + 1) = i + 1 + j by omega] at this
    exact this) hk.2
   refine ⟨by simp only [Dk, z26q, q1], fun k Cx => ?_, q3⟩
   simp only [Dk] at Cx;rcases z30q.1 Cx with rfl | Cx
   ·exact hk.1
   ·exact q2 k Cx
theorem B0R (e : Ex) : ∀ (d : A9) (T : JT), JS e d T → e.fit → d.fit → ∀ L, (∀ x ∈ L, fC x) → (M4 e d T L).1.Mw ∧ ∀ x ∈ (M4 e d T L).2, fC x := by
 induction e using Ex.ind with
 | h e ih =>
   intro d T h hf hd L hL;rw [OA];obtain ⟨q1, q2, q3⟩ := A2W e d T h hf hd (e.kids.map M4) 0 L (by simp) (fun j f hj L hL => by
    simp only [List.getElem?_map, Option.map_eq_some_iff] at hj;obtain ⟨k, hk, rfl⟩ := hj;have H7 : j < e.kids.length := (z24q.1 hk).1;have e1 : e.kid j = k := by rw [Z9 H7]; exact (z24q.1 hk).2
    have hm := z19q hk;rw [Nat.zero_add];exact ih k hm _ _ (e1 ▸ h.kid H7) (hf.kid hm) (A9.A8P hd (by rw [h.jl.dk]; exact H7)) L hL) hL
   exact ⟨B0Q h hf hd _ (by rw [q1]; simpa using hf.one.kids) q2, q3⟩
end Go.Su

/-
 What the reference's making of a term does; the whole of it, and the program's.
-/
namespace Go.Su
def qz (sg : List D7) (p : Nat) (L : List Q9) (m : Meta) : List D7 := sg.set p (.box [(V6 L, m)])
section
variable {sg : List D7} {p : Nat} (h : p < sg.length)
include h
theorem A8H (L : List Q9) (m : Meta) : M7 (qz sg p L m) p = some [(V6 L, m)] := by simp [M7, qz, z25q h]
omit h in
theorem B3W (L L' : List Q9) (m m' : Meta) : (qz sg p L m).set p (.box [(V6 L', m')]) = qz sg p L' m' := by unfold qz; rw [List.set_set]
theorem A8u {L : List Q9} (hL : L.length < lim) {m : Meta} (hm : Roomy m) (x : Tm) (a w : Ty) (lo hi : Int) :
 (run cfg).r aS [(.undef, .ptr p 0), (x.enc, .val), (a.enc, .val), (w.enc, .val), (.agg [.int .i64 lo, .int .i64 hi], .val)] (qz sg p L m) = some ([(FC x a w lo hi L).1.enc], qz sg p (FC x a w lo hi L).2 .own) := by
 refine (lV _ _ _ _ _ _).trans ?_;have Kh : R8 8 (V6 L) (.list 8 [.agg [.int .i64 lo, .int .i64 hi, .int .i64 a.kind, .int .i64 a.n, .list 3 (a.kids.map Ty.enc), .int .i64 w.kind, .int .i64 w.n, .list 3 (w.kids.map Ty.enc)]]) = some (V6 (L ++ [⟨lo, hi, a, w⟩])) := l6 (e := Q9.enc) (sz := 8) (l := L) (x := ⟨lo, hi, a, w⟩) hL;have c0 : Vu [(V6 L, m)] 0 = some (V6 L) := by rcases hm with rfl | rfl <;> rfl
 have c1 : ∀ (L : List Q9), U4 [(V6 L, Meta.own)] 0 = some (V6 L) := fun _ => rfl
 have s0 : [(V6 L, m)].set 0 (V6 L, Meta.val) = [(V6 L, Meta.val)] := rfl;have s1 : ∀ d, [(V6 L, Meta.val)].set 0 d = [d] := fun _ => rfl
 have e2 : C9 2 (.agg [.int .i64 lo, .int .i64 hi]) = true := rfl;have p0 : A7 0 (.agg [.int .i64 lo, .int .i64 hi]) = .int .i64 lo := rfl;have p1 : A7 1 (.agg [.int .i64 lo, .int .i64 hi]) = .int .i64 hi := rfl;have sb : A8 .sub (.int .i64 ((L.length : Int) + 1)) (.int .i64 1) = some (.int .i64 (L.length : Int)) := by
  rw [BU, A_ (by unfold lim at hL; omega) (by unfold lim at hL; omega)]
  congr 2; omega
 rw [qY];simp [e2, p0, p1, A8H h, c0, c1, s0, s1, B3W, Kh, sb, Tm.D8, Tm.ag, FC];rw [Tm.F9 (.mk 16 0 0 K6 K6 0 K6 0 L.length false [] a w [] [] [x])];rfl
end
def GN (e : Ex) (d : A9) (T : JT) : List Ty := if e.kind = 8 ∨ e.kind = 10 ∨ e.kind = 11 ∨ e.kind = 12 ∨ e.kind = 13 ∨ e.kind = 14 ∨ e.kind = 15 ∨ e.kind = 16 then K5 e d T else [F7, F7, F7]
theorem zTy : DV.agg [.int .i64 0, .int .i64 0, .list 3 []] = F7.enc := by rw [Ty.F9]; rfl
theorem JT.AV (T : JT) : A7 2 T.enc = .list 3 (T.ty.kids.map Ty.enc) := by rw [JT.F9]; rfl
theorem JT.Bj (T : JT) : A7 3 T.enc = .list 4 (T.kids.map JT.enc) := by rw [JT.F9]; rfl
theorem JT.Y3 (T : JT) : A7 0 T.enc = .int .i64 T.ty.kind := by rw [JT.F9]; rfl
theorem JT.Ar (T : JT) : A7 1 T.enc = .int .i64 T.ty.n := by rw [JT.F9]; rfl
theorem aqT (T : JT) : H6 T.enc = T.ty.enc := by rw [JT.F9, Ty.F9]; rfl
theorem Bt (T : JT) : C9 4 T.enc = true := by rw [JT.F9]; rfl
theorem JT.idx (T : JT) {i : Nat} (h : i < T.kids.length) : E8 4 (.list 4 (T.kids.map JT.enc)) (.int .i64 (i : Int)) = some (T.kid i).enc := by
 rw [F3 h];simp [JT.kid, z3q, z2q h]
theorem A9.B2G (d : A9) {i : Nat} (h : i < d.types.length) : E8 3 (.list 3 (d.types.map Ty.enc)) (.int .i64 (i : Int)) = some (d.types.getD i F7).enc := by
 rw [F3 h];simp [z3q, z2q h]
theorem JT.D8 (T : JT) : DV.agg [.int .i64 T.ty.kind, .int .i64 T.ty.n, .list 3 (T.ty.kids.map Ty.enc), .list 4 (T.kids.map JT.enc)] = T.enc := (JT.F9 T).symm
theorem yY {e : Ex} {d : A9} {T : JT} (h : JS e d T) (hf : e.fit) : (run cfg).p XH [e.enc, d.enc, T.enc] = some (.list 3 ((GN e d T).map Ty.enc)) := by
 have o := Ex.S9 h.jl.er;have kk := o.kids;have k1 := o.k1;have k16 := o.k16;unfold K3 at kk;have hp := hf.one.F6;refine (sJ _ _ _).trans ?_;rw [wF];have i0 : 0 < d.types.length → E8 3 (.list 3 (d.types.map Ty.enc)) (.int .i64 0) = some d.t0.enc := fun hl => A9.B2G d hl
 have i1 : 1 < d.types.length → E8 3 (.list 3 (d.types.map Ty.enc)) (.int .i64 1) = some d.t1.enc := fun hl => A9.B2G d hl
 have lf := Mk
 by_cases h8 : e.kind = 8
 ·simp [JT.Y3, aqT, JT.Ar, JT.AV, JT.Bj, Bt, h8, i0 (h.jl.d1 (by omega)), Ty.D8, Ty.ag, GN, K5]
 by_cases X9 : e.kind = 10
 ·have hl : 0 < T.kids.length := by rw [h.len]; simp [X9] at kk; omega
  have j0 := JT.idx T hl;simp only [z1q] at j0
  by_cases h5 : (T.kid 0).ty.kind = 5
  ·have e5 : DV.agg [.int .i64 5, .int .i64 (T.kid 0).ty.n, .list 3 ((T.kid 0).ty.kids.map Ty.enc)] = (T.kid 0).ty.enc := by rw [← h5]; exact Ty.D8 _
   simp [JT.Y3, aqT, JT.Ar, JT.AV, JT.Bj, Bt, h8, X9, j0, h5, e5, GN, K5, Z_, V4]
  ·have g0 := h.k10 X9 h5
   have d0 := F3 (e := Ty.enc) (sz := 3) (k := .i64) g0;simp only [z1q] at d0;simp [JT.Y3, aqT, JT.Ar, JT.AV, JT.Bj, Bt, h8, X9, j0, h5, Ty.D8, Ty.ag, GN, K5, zTy, d0, z2q g0]
 by_cases Af : e.kind = 11
 ·simp [JT.Y3, aqT, JT.Ar, JT.AV, JT.Bj, Bt, h8, X9, Af, Ty.D8, Ty.ag, GN, K5, zTy]
 by_cases AZ : e.kind = 12
 ·have hl := h.jl.Z7 AZ
  have hn := Dy e.b
  by_cases hb : e.b.kind = 0
  ·have hbn : e.b.none = true := by
    rcases o.b with h' | h'
    ·exact h'
    ·exact absurd hb (Ty.k0 h')
   rw [hbn] at hn;have e5 : DV.agg [.int .i64 0, .int .i64 e.b.n, .list 3 (e.b.kids.map Ty.enc)] = e.b.enc := by rw [← hb]; exact Ty.D8 _
   by_cases ha : e.a.kind = 0
   ·simp [ha, hb] at hl
    simp [JT.Y3, aqT, JT.Ar, JT.AV, JT.Bj, Bt, h8, X9, Af, AZ, Ty.D8, Ty.ag, e5, hn, GN, K5, zTy, Q4, J6, hb, hl, ha, i1, BU, A_]
   ·simp [ha, hb] at hl
    simp [JT.Y3, aqT, JT.Ar, JT.AV, JT.Bj, Bt, h8, X9, Af, AZ, Ty.D8, Ty.ag, e5, hn, GN, K5, zTy, Q4, J6, hb, hl, ha, i0, BU, A_]
  ·have hbn : e.b.none = false := by
    cases hx : e.b.none with
    | false => rfl
    | true => exact absurd (Ty.Dn hx) hb
   rw [hbn] at hn;simp [JT.Y3, aqT, JT.Ar, JT.AV, JT.Bj, Bt, h8, X9, Af, AZ, Ty.D8, Ty.ag, hn, GN, K5, zTy, Q4, J6, hb]
 by_cases Fv : e.kind = 13
 ·simp [JT.Y3, aqT, JT.Ar, JT.AV, JT.Bj, Bt, h8, X9, Af, AZ, Fv, Ty.D8, Ty.ag, GN, K5, lf, T9]
 by_cases EF : e.kind = 14
 ·have loop := FR (l := e.F6) (P := fun i (a : List Ty) => NI (run cfg) (.list 3 (a.map Ty.enc)) (.int .i64 i) e.enc d.enc) (g := fun a _ => a ++ [d.t1]) (fin := fun a => some (.list 3 (a.map Ty.enc)))
   (I := fun i a => a.length = i + 1)
   (fun a _ => by rw [SN]; simp)
   (fun i hi a ha => by
     have Kh := l6 (e := Ty.enc) (sz := 3) (l := a) (x := d.t1) (by unfold lim at hp ⊢; omega)
     refine ⟨?_, by simp [ha]⟩
     rw [SN];simp [hi, i1 (h.jl.d2 EF), Ty.D8, Ty.ag, Kh, J7 (show i < 9223372036854775807 by unfold lim at hp; omega)]) [d.t0] rfl
  have fold : ∀ (l : List D5) (a : List Ty), l.foldl (fun a _ => a ++ [d.t1]) a = a ++ l.map fun _ => d.t1 := by
   intro l
   induction l with
   | nil => intro a; simp
   | cons x l ih => intro a; simp [ih]
  rw [fold] at loop;simp at loop;simp [JT.Y3, aqT, JT.Ar, JT.AV, JT.Bj, Bt, h8, X9, Af, AZ, Fv, EF, i0 (h.jl.d1 (by omega)), Ty.D8, Ty.ag, GN, K5, loop]
 by_cases Ps : e.kind = 15
 ·simp [JT.Y3, aqT, JT.Ar, JT.AV, JT.Bj, Bt, h8, X9, Af, AZ, Fv, EF, Ps, Ty.D8, Ty.ag, GN, K5]
 by_cases gZ : e.kind = 16
 ·by_cases h7 : e.op = 7
  ·simp [JT.Y3, aqT, JT.Ar, JT.AV, JT.Bj, Bt, h8, X9, Af, AZ, Fv, EF, Ps, gZ, h7, Ty.D8, Ty.ag, GN, K5, lf, Ko, T9]
   all_goals (rw [Ty.F9]; rfl)
  ·simp [JT.Y3, aqT, JT.Ar, JT.AV, JT.Bj, Bt, h8, X9, Af, AZ, Fv, EF, Ps, gZ, h7, Ty.D8, Ty.ag, GN, K5, lf, Ko, T9]
   all_goals (rw [Ty.F9]; rfl)
 ·simp [JT.Y3, aqT, JT.Ar, JT.AV, JT.Bj, Bt, h8, X9, Af, AZ, Fv, EF, Ps, gZ, Ty.D8, Ty.ag, GN, zTy]
theorem A3O {e : Ex} {d : A9} {T : JT} (h : JS e d T) {i : Nat} (hi : i < e.kids.length) : E8 3 (.list 3 ((GN e d T).map Ty.enc)) (.int .i64 (i : Int)) = some ((K5 e d T).getD i F7).enc := by
 have o := Ex.S9 h.jl.er;have kk := o.kids;unfold K3 at kk;have key : ∀ l : List Ty, i < l.length → E8 3 (.list 3 (l.map Ty.enc)) (.int .i64 (i : Int)) = some (l.getD i F7).enc := fun l hl => by
  rw [F3 hl];simp [z3q, z2q hl]
 unfold GN
 split
 ·refine key _ ?_
  rename_i hk;unfold K5;rcases hk with hk | hk | hk | hk | hk | hk | hk | hk <;> simp [hk] at kk ⊢ <;> try omega
  split <;> simp <;> omega
 ·rename_i hk
  have hw : K5 e d T = [] := by unfold K5; simp at hk; simp [hk]
  have h3 : e.kids.length ≤ 3 := by
   have k1 := o.k1;have k16 := o.k16
   by_cases h6 : e.kind = 6
   ·simp [h6] at kk; omega
   by_cases h9 : e.kind = 9
   ·simp [h9] at kk; omega
   ·have : ¬ (e.kind = 6 ∨ e.kind = 8 ∨ e.kind = 10 ∨ e.kind = 11 ∨ e.kind = 12 ∨ e.kind = 16) := by omega
    rw [if_neg this, if_neg (by omega), if_neg (by omega), if_neg (by omega)] at kk
    omega
  rw [key [F7, F7, F7] (by simp; omega), hw]
  match i, (show i < 3 by omega) with
  | 0, _ => rfl
  | 1, _ => rfl
  | 2, _ => rfl
def B3l (e : Ex) : Prop := ∀ (d : A9) (T : JT), JS e d T → e.fit → d.fit → ∀ (sg : List D7) (p : Nat), p < sg.length → ∀ (L : List Q9) (m : Meta), Roomy m → L.length + 2 * e.size ≤ 2097152 →
 ∃ m', Roomy m' ∧ (run cfg).r TQ [(.undef, .ptr p 0), (e.enc, .val), (d.enc, .val), (T.enc, .val)] (qz sg p L m) = some ([(M4 e d T L).1.enc], qz sg p (M4 e d T L).2 m')
theorem B3e {e : Ex} {d : A9} {T : JT} (h : JS e d T) (hf : e.fit) {sg : List D7} {p : Nat} (ks : List Tm) (hk : ks.length = e.kids.length) :
 Fe (run cfg) p (.list 20 (ks.map Tm.enc)) (.int .i64 e.kids.length) e.enc d.enc T.enc sg = some ([(V3 e d T ks).enc], sg) := by
 have o := Ex.S9 h.jl.er;have kk := o.kids;have k1 := o.k1;have k16 := o.k16;unfold K3 at kk;have i0 : 0 < d.types.length → E8 3 (.list 3 (d.types.map Ty.enc)) (.int .i64 0) = some d.t0.enc := fun hl => A9.B2G d hl
 have hw := yY h hf;rw [SL]
 by_cases h1 : e.kind = 1
 ·simp [JT.Y3, aqT, JT.Ar, JT.AV, JT.Bj, Bt, h1, V3, Tm.F9, K6, F7]
 by_cases h2 : e.kind = 2
 ·simp [h1, h2, V3, SK, Vv, BU, A_, Tm.F9, K6, F7]
 by_cases h3 : e.kind = 3
 ·simp [h1, h2, h3, V3, SK, Vv, BU, A_, Tm.F9, K6, F7]
 by_cases h4 : e.kind = 4
 ·simp [h1, h2, h3, h4, V3, Tm.F9, K6, F7]
 by_cases h5 : e.kind = 5
 ·simp [h1, h2, h3, h4, h5, V3, Tm.F9, K6, F7]
 by_cases h6 : e.kind = 6
 ·simp [h1, h2, h3, h4, h5, h6, V3, Tm.F9, K6, F7]
 by_cases h7 : e.kind = 7
 ·simp [h1, h2, h3, h4, h5, h6, h7, V3, i0 (h.jl.d1 (by omega)), Tm.F9, K6, F7]
 by_cases h8 : e.kind = 8
 ·simp [h1, h2, h3, h4, h5, h6, h7, h8, V3, Tm.F9, K6, F7]
 by_cases h9 : e.kind = 9
 ·have g0 := h.k9 h9
  have d0 := F3 (e := Ty.enc) (sz := 3) (k := .i64) g0;simp only [z1q] at d0;simp [JT.AV, h1, h2, h3, h4, h5, h6, h7, h8, h9, d0, z2q g0, V3, Tm.F9, K6, F7]
 by_cases X9 : e.kind = 10
 ·simp [h1, h2, h3, h4, h5, h6, h7, h8, h9, X9, V3, Tm.F9, K6, F7]
 by_cases Af : e.kind = 11
 ·simp [h1, h2, h3, h4, h5, h6, h7, h8, h9, X9, Af, V3, Tm.F9, K6, F7]
 by_cases AZ : e.kind = 12
 ·have w0 := A3O h (i := 0) (by simp [AZ] at kk; omega)
  have OL : (K5 e d T).getD 0 F7 = Q4 e d := by unfold K5; simp [AZ]
  rw [OL] at w0;simp only [z1q] at w0;have hn := Dy e.a;rw [A8T o.a] at hn;have hl := h.jl.Z7 AZ
  by_cases ha : e.a.kind = 0
  ·have l0 : 0 < d.types.length := by rw [hl]; simp [ha]; omega
   have e5 : DV.agg [.int .i64 0, .int .i64 e.a.n, .list 3 (e.a.kids.map Ty.enc)] = e.a.enc := by rw [← ha]; exact Ty.D8 _
   have ex : DV.agg [.int .i64 12, .int .i64 e.lo, .int .i64 e.hi, .str e.name, .str e.arg, .int .i64 e.n, .str e.s, .int .i64 e.op, .int .i64 0, .int .i64 e.a.n, .list 3 (e.a.kids.map Ty.enc), .int .i64 e.b.kind, .int .i64 e.b.n, .list 3 (e.b.kids.map Ty.enc), .list 7 (e.F6.map D5.enc), .list 16 (e.kids.map Ex.enc)] = e.enc := by rw [← AZ, ← ha]; exact Ex.D8 _
   simp [JT.Y3, aqT, JT.Ar, JT.AV, JT.Bj, JT.D8, Bt, h1, h2, h3, h4, h5, h6, h7, h8, h9, X9, Af, AZ, ex, A9.D8, A9.ag, e5, hn, hw, w0, i0 l0, Ty.D8, Ty.ag, V3, U6, J6, ha, Tm.F9, K6, F7]
  ·have ex : DV.agg [.int .i64 12, .int .i64 e.lo, .int .i64 e.hi, .str e.name, .str e.arg, .int .i64 e.n, .str e.s, .int .i64 e.op, .int .i64 e.a.kind, .int .i64 e.a.n, .list 3 (e.a.kids.map Ty.enc), .int .i64 e.b.kind, .int .i64 e.b.n, .list 3 (e.b.kids.map Ty.enc), .list 7 (e.F6.map D5.enc), .list 16 (e.kids.map Ex.enc)] = e.enc := by rw [← AZ]; exact Ex.D8 _
   simp [JT.Y3, aqT, JT.Ar, JT.AV, JT.Bj, JT.D8, Bt, h1, h2, h3, h4, h5, h6, h7, h8, h9, X9, Af, AZ, ex, A9.D8, A9.ag, hn, hw, w0, Ty.D8, Ty.ag, V3, U6, J6, ha, Tm.F9, K6, F7]
 by_cases Fv : e.kind = 13
 ·simp [h1, h2, h3, h4, h5, h6, h7, h8, h9, X9, Af, AZ, Fv, V3, Tm.F9, K6, F7]
 by_cases EF : e.kind = 14
 ·simp [h1, h2, h3, h4, h5, h6, h7, h8, h9, X9, Af, AZ, Fv, EF, V3, Tm.F9, K6, F7]
 by_cases Ps : e.kind = 15
 ·have g0 : 0 < ks.length := by rw [hk]; simp [Ps] at kk; omega
  have d0 := F3 (e := Tm.enc) (sz := 20) (k := .i64) g0;simp only [z1q] at d0;simp [h1, h2, h3, h4, h5, h6, h7, h8, h9, X9, Af, AZ, Fv, EF, Ps, d0, Tm.D8, Tm.ag, V3, z2q g0]
 ·have gZ : e.kind = 16 := by omega
  simp [h1, h2, h3, h4, h5, h6, h7, h8, h9, X9, Af, AZ, Fv, EF, Ps, gZ, V3, Tm.F9, K6, F7]
end Go.Su

/-
 What the reference's making of a term does: the whole.
-/
namespace Go.Su
theorem B2f (e : Ex) (d : A9) (T : JT) {i : Nat} (L : List Q9) : (FE e d T i (M4 (e.kid i)) L).2.length ≤ L.length + 2 * (e.kid i).size := by
 have h := OC (e.kid i) (d.kid i) (T.kid i) L;unfold FE;simp only
 split
 ·omega
 ·simp only [FC, List.length_append, z26q, List.length_nil]; omega
theorem ym {e : Ex} {d : A9} {T : JT} (h : JS e d T) (hf : e.fit) (hd : d.fit) (ih : ∀ k ∈ e.kids, B3l k) {sg : List D7} {p : Nat} (hp : p < sg.length) :
 ∀ (n i : Nat) (done : List Tm) (L : List Q9) (m : Meta), i + n = e.kids.length → done.length = i → Roomy m → L.length + ((e.kids.drop i).map fun k => 2 * k.size).sum ≤ 2097152 →
 ∃ m', Roomy m' ∧ Fe (run cfg) p (.list 20 (done.map Tm.enc)) (.int .i64 i) e.enc d.enc T.enc (qz sg p L m) =
   some ([(V3 e d T (done ++ (Dk e d T i ((e.kids.drop i).map M4) L).1)).enc], qz sg p (Dk e d T i ((e.kids.drop i).map M4) L).2 m')
 | 0, i, done, L, m, hi, hl, hm, hL => by
   obtain rfl : i = e.kids.length := by omega
   refine ⟨m, hm, ?_⟩;have e0 : e.kids.drop e.kids.length = [] := List.drop_length;simp only [e0, z12q, Dk, z23q];exact B3e h hf done hl
 | n + 1, i, done, L, m, hi, hl, hm, hL => by
   have H7 : i < e.kids.length := by omega
   have DR : e.kids.length < lim := hf.one.kids;have hdr : e.kids.drop i = e.kid i :: e.kids.drop (i + 1) := by rw [Z9 H7]; exact z10q H7
   have oI : e.kid i ∈ e.kids := by rw [Z9 H7]; exact z5q H7
   rw [hdr] at hL ⊢;simp only [z8q, z29q] at hL;simp only [z8q, Dk];have jk := h.kid H7;have hdl : i < d.kids.length := by rw [h.jl.dk]; exact H7
   have i1 : E8 16 (.list 16 (e.kids.map Ex.enc)) (.int .i64 (i : Int)) = some (e.kid i).enc := by rw [Z9 H7]; exact F3 H7
   have i2 : E8 3 (.list 3 (d.kids.map A9.enc)) (.int .i64 (i : Int)) = some (d.kid i).enc := by
    rw [F3 hdl];simp [A9.kid, z3q, z2q hdl]
   have i3 := JT.idx T (i := i) (by rw [h.len]; exact H7)
   have hw := yY h hf;have w0 := A3O h H7;have hn := Dy ((K5 e d T).getD i F7);rw [A8T (A7T h i)] at hn;obtain ⟨w, hwd⟩ : ∃ w, (K5 e d T).getD i F7 = w := ⟨_, rfl⟩;rw [hwd] at w0 hn;obtain ⟨m1, Jb, q1⟩ := ih _ oI (d.kid i) (T.kid i) jk (hf.kid oI) (A9.A8P hd hdl) sg p hp L m hm (by omega)
   have I9 := nY (e.kid i) (d.kid i) (T.kid i) L;have B8P := B2f e d T (i := i) L;have add := J7 (show i < 9223372036854775807 by unfold lim at DR; omega)
   rw [SL]
   by_cases dL : w.kind = 0
   ·have ek : FE e d T i (M4 (e.kid i)) L = M4 (e.kid i) (d.kid i) (T.kid i) L := by unfold FE; simp only [hwd, dL, if_true]
    have Kh := l6 (e := Tm.enc) (sz := 20) (l := done) (x := (M4 (e.kid i) (d.kid i) (T.kid i) L).1) (by omega)
    obtain ⟨m2, IA, q2⟩ := ym h hf hd ih hp n (i + 1) (done ++ [(M4 (e.kid i) (d.kid i) (T.kid i) L).1]) (M4 (e.kid i) (d.kid i) (T.kid i) L).2 m1 (by omega) (by simp [hl]) Jb (by omega)
    simp only [dL, decide_true] at hn;refine ⟨m2, IA, ?_⟩;rw [ek];rw [z18q, z17q] at q2;rw [← q2];simp [JT.Y3, aqT, JT.Ar, JT.AV, JT.Bj, JT.D8, H7, i1, i2, i3, Ex.D8, Ex.ag, A9.D8, A9.ag, q1, hw, w0, Ty.D8, Ty.ag, hn, Tm.D8, Tm.ag, Kh, add]
   ·have ek : FE e d T i (M4 (e.kid i)) L = FC (M4 (e.kid i) (d.kid i) (T.kid i) L).1 (T.kid i).ty w (e.kid i).lo (e.kid i).hi (M4 (e.kid i) (d.kid i) (T.kid i) L).2 := by unfold FE; simp only [hwd, dL, if_false]
    have hc := A8u hp (L := (M4 (e.kid i) (d.kid i) (T.kid i) L).2) (by unfold lim; omega) Jb (M4 (e.kid i) (d.kid i) (T.kid i) L).1 (T.kid i).ty w (e.kid i).lo (e.kid i).hi
    rw [← ek] at hc;have Kh := l6 (e := Tm.enc) (sz := 20) (l := done) (x := (FE e d T i (M4 (e.kid i)) L).1) (by omega)
    obtain ⟨m2, IA, q2⟩ := ym h hf hd ih hp n (i + 1) (done ++ [(FE e d T i (M4 (e.kid i)) L).1]) (FE e d T i (M4 (e.kid i)) L).2 .own (by omega) (by simp [hl]) (.inr rfl) (by omega)
    refine ⟨m2, IA, ?_⟩;rw [z18q, z17q] at q2;rw [← q2];simp [JT.Y3, aqT, JT.Ar, JT.AV, JT.Bj, JT.D8, H7, i1, i2, i3, Ex.D8, Ex.ag, A9.D8, A9.ag, q1, hw, w0, Ty.D8, Ty.ag, hn, dL, Tm.D8, Tm.ag, hc, Kh, add]
theorem A8v (e : Ex) : B3l e := by
 induction e using Ex.ind with
 | h e ih =>
   intro d T h hf hd sg p hp L m hm hL;have Y9 := Ex.size_eq e;have B5B : ((e.kids.map fun k => 2 * k.size).sum) = 2 * (e.kids.map Ex.size).sum := by
    induction e.kids with
    | nil => rfl
    | cons x l ih => simp only [z8q, z29q, ih]; omega
   obtain ⟨m', Qp, q⟩ := ym h hf hd ih hp e.kids.length 0 [] L m (by omega) rfl hm (by rw [z21q, B5B]; omega)
   refine ⟨m', Qp, (lW _ _ _ _ _).trans ?_⟩;rw [qZ, OA];simp only [z12q, z15q, z21q, z1q] at q;simp only [Ao, Hg, Bt, O6];exact q
theorem A8t (e : Ex) (d : A9) (hf : e.fit) (ds : d.DC) (fd : d.fit) (hm : 2 * e.J4 ≤ lim) (hd : d.J4 ≤ lim) (hs : 2 * e.size ≤ 1048576) (h1 : e.right = true) (h2 : d.AO = true) :
 (run cfg).p nL [e.enc, d.enc] = some (.I6 (match jt false e d [] [] with
   | .ok T => [(M4 e d T []).1.enc, V6 (M4 e d T []).2, T.ty.enc, .int .i64 0]
   | .error z => [Py.enc, .list 8 [], F7.enc, .int .i64 z])) := by
 refine (xB _ _).trans ?_;rw [A0W];have sp := A8r true e h1 hf d [] [] [] h2 ds (fun x hx => by simp at hx) (by simpa using hm) (fun v => Iff.rfl) (by simpa using hd) [.box (ZL true 0)] 0 (by simp)
 have e0 : V9 [.box (ZL true 0)] 0 true 0 = [D7.box [(.int .i64 0, .val), (.bool true, .val)]] := rfl;rw [e0] at sp;obtain ⟨v, er, q1, q2, q3⟩ := sp;have nl : H8 [] = .list 5 [] := rfl;have ni : F4 [] = .list 1 [] := rfl;rw [nl, ni] at q1;have jp : 0 < [D7.box (ZL true 0)].length := by simp
 have rl : ∀ er, (V9 [D7.box (ZL true 0)] 0 true er).length = 1 := fun _ => rfl
 simp only [Bool.not_true] at q3;cases hj : jt false e d [] [] with
 | ok T =>
   rw [hj] at q3;simp only [jE] at q3;obtain ⟨rfl, rfl⟩ := q3;have js := B3v false e h1 d [] [] T h2 ds (fun x hx => by simp at hx) hj
   obtain ⟨m, Qp, t1⟩ := A8v e d T js hf fd [.box (ZL true 0), .box [(.list 8 [], .full)]] 1 (by simp) [] .full (.inl rfl) (by simp; omega)
   have e1 : qz [.box (ZL true 0), .box [(.list 8 [], .full)]] 1 [] .full = V9 [D7.box (ZL true 0)] 0 true 0 ++ [D7.box [(.list 8 [], .full)]] := rfl;rw [e1] at t1;have I9 := OC e d T [];have bx := A8H (sg := [.box (ZL true 0), .box [(.list 8 [], .full)]]) (p := 1) (by simp) (M4 e d T []).2 m
   have cd : U4 [(V6 (M4 e d T []).2, m)] 0 = some (V6 (M4 e d T []).2) := by rcases Qp with rfl | rfl <;> rfl
   have gt : ¬ ((1048577 : Int) < ((M4 e d T []).2.length : Int)) := by simp at I9; omega
   simp [Ex.D8, Ex.ag, A9.D8, A9.ag, q1, DD jp, JT.Y3, JT.Ar, JT.AV, JT.Bj, JT.D8, Bt, rl, t1, bx, cd, gt, Tm.D8, Tm.ag, Ty.D8, Ty.ag]
 | error z =>
   rw [hj] at q3;simp only [jE] at q3;obtain ⟨rfl, hz⟩ := q3;obtain ⟨a, b, c, ks, rfl⟩ := q2;simp [Ex.D8, Ex.ag, A9.D8, A9.ag, q1, DD jp, hz, B6t, nD]
theorem A7o (e : Ex) (d : A9) (hf : e.fit) (ds : d.DC) (hm : 2 * e.J4 ≤ lim) (hs : 2 * e.size ≤ 1048576) :
 (run cfg).p Ww [e.enc, d.enc] = some (.I6 (match xy false e d with
   | .ok T => [(M4 e d T []).1.enc, V6 (M4 e d T []).2, T.ty.enc, .int .i64 0]
   | .error z => [Py.enc, .list 8 [], F7.enc, .int .i64 z])) := by
 have hc := A5t e d hf ds hm hs false;refine (q_ _ _).trans ?_;rw [vD];cases hj : xy false e d with
 | ok T => rw [hj] at hc; simp [Ex.D8, Ex.ag, A9.D8, A9.ag, hc, O4, Ty.D8, Ty.ag, Tm.D8, Tm.ag]
 | error z => rw [hj] at hc; simp [Ex.D8, Ex.ag, A9.D8, A9.ag, hc, O4, Ty.D8, Ty.ag, Tm.D8, Tm.ag]
theorem A7z (d : A9) : d.DC → (run cfg).p XA [d.enc] = some (.bool d.AO) := by
 induction d using A9.ind with
 | h d ih =>
   intro hd;obtain ⟨d1, d2, d3, d4⟩ := hd.all;have b1 := big d1;have b2 := big d2;have b3 := big d3;have l3 := Lx (l := d.kids) (f := A9.AO) (P := fun j => Ic (run cfg) (.int .i64 j) d.enc) (y := DV.bool true) (n := DV.bool false)
    (by rw [SA]; simp)
    (fun j hj => by
      rw [SA];have hk := ih _ (z5q hj) (hd.kid (z5q hj));cases hr : d.kids[j].AO <;> rw [hr] at hk <;> simp [hj, F3 hj, A9.D8, A9.ag, hk, hr, J7 (show j < 9223372036854775807 by omega)])
   have l2 := TG (l := d.vars) (f := fun v => decide (0 ≤ v) && decide (v ≤ 1048576)) (P := fun j => KA (run cfg) (.int .i64 j) d.enc) (y := Ic (run cfg) (.int .i64 0) d.enc) (n := some (DV.bool false))
    (by rw [UV]; simp)
    (fun j hj => by
      rw [UV]
      by_cases h1 : d.vars[j] < 0
      ·have : ¬ 0 ≤ d.vars[j] := by omega
       simp [hj, U0 hj, h1, this]
      ·have mF : 0 ≤ d.vars[j] := by omega
       by_cases h2 : 1048576 < d.vars[j]
       ·have : ¬ d.vars[j] ≤ 1048576 := by omega
        simp [hj, U0 hj, h1, mF, h2, this]
       ·have ZJ : d.vars[j] ≤ 1048576 := by omega
        simp [hj, U0 hj, h1, mF, h2, ZJ, J7 (show j < 9223372036854775807 by omega)])
   have l1 := TG (l := d.types) (f := Ty.right) (P := fun j => Ox (run cfg) (.int .i64 j) d.enc) (y := KA (run cfg) (.int .i64 0) d.enc) (n := some (DV.bool false))
    (by rw [UU]; simp)
    (fun j hj => by
      rw [UU];have hk := yR _ (d4 _ (z5q hj)).1;cases hr : d.types[j].right <;> rw [hr] at hk <;> simp [hj, F3 hj, Ty.D8, Ty.ag, hk, hr, J7 (show j < 9223372036854775807 by omega)])
   refine (rQ _).trans ?_;rw [vP, A9.iN];simp;refine l1.trans ?_;rw [l2, l3]
   by_cases a1 : d.types.all Ty.right = true
   ·by_cases a2 : (d.vars.all fun v => decide (0 ≤ v) && decide (v ≤ 1048576)) = true
    ·rw [if_pos a1, if_pos a2, a1, a2]
     cases d.kids.all A9.AO <;> rfl
    ·rw [if_pos a1, if_neg a2]
     simp only [z7q] at a2;rw [a1, a2];rfl
   ·rw [if_neg a1]
    simp only [z7q] at a1;rw [a1];rfl
theorem m_ (L : List Q9) (hl : L.length ≤ lim) (h : ∀ x ∈ L, fC x) : (run cfg).p YO [V6 L, V6 L] = some (.bool true) := by
 have hb := big hl;have loop := Lx (l := L) (f := fun _ => true) (P := fun j => LY (run cfg) (V6 L) (V6 L) (.int .i64 j)) (y := DV.bool true) (n := DV.bool false)
  (by rw [QC]; simp)
  (fun j hj => by
    have ok := h _ (z5q hj);have i1 : E8 8 (V6 L) (.int .i64 (j : Int)) = some L[j].enc := F3 (e := Q9.enc) hj;have s1 := Oa _ ok.frm L[j].frm;have s2 := Oa _ ok.to L[j].to;rw [QC];have p0 : A7 0 L[j].enc = .int .i64 L[j].lo := rfl;have p1 : A7 1 L[j].enc = .int .i64 L[j].hi := rfl;have p2 : DV.agg [A7 2 L[j].enc, A7 3 L[j].enc, A7 4 L[j].enc] = L[j].frm.enc := by rw [Ty.F9]; rfl
    have p5 : DV.agg [A7 5 L[j].enc, A7 6 L[j].enc, A7 7 L[j].enc] = L[j].to.enc := by rw [Ty.F9]; rfl
    simp [hj, i1, p0, p1, p2, p5, s1, s2, J7 (show j < 9223372036854775807 by omega)]
    )
 refine (gK _ _).trans ?_;rw [kV];simp;simpa using loop
end Go.Su

/-
 When an expression is heavy; derivations that are slim.
-/
namespace Go.Su
theorem A5C (e : Ex) (hf : e.fit) (hm : e.J4 ≤ 1048576) : ∃ b : Bool, (run cfg).p Wz [.list 16 [e.enc]] = some (.bool b) ∧ (b = false → e.size ≤ 90) := by
 obtain ⟨b1, h1, h2⟩ := A7v [e] (by simp) (by simp [hf])
 simp only [z8q, z12q] at h1;have hs := A8l e hf (by unfold lim; omega)
 have hsm : e.size ≤ e.J4 := Ex.OY e;have e0 := vN (run cfg) (.list 16 [e.enc]);rw [h1] at e0;cases b1 with
 | true =>
   simp at e0;exact ⟨true, kM _ e0, by simp⟩
 | false =>
   have i0 : E8 16 (.list 16 [e.enc]) (.int .i64 0) = some e.enc := rfl;have l0 : dLen (.list 16 [e.enc]) = some (.int .i64 1) := rfl;have a0 : A8 .add (.int .i64 0) (.int .i64 (e.size : Int)) = some (.int .i64 (e.size : Int)) := by
    rw [Ck (by omega) (by omega)]
    simp
   have a1 : A8 .add (.int .i64 0) (.int .i64 1) = some (.int .i64 1) := Ck (by omega) (by omega)
   have e1 : Jz (run cfg) (.list 16 [e.enc]) (.int .i64 (e.size : Int)) (.int .i64 1) = some (.bool (decide ((90 : Int) < (e.size : Int)))) := by
    rw [UT];simp [l0]
   have e2 : Jz (run cfg) (.list 16 [e.enc]) (.int .i64 0) (.int .i64 0) = some (.bool (decide ((90 : Int) < (e.size : Int)))) := by
    rw [UT];simp [l0, i0, Ex.D8, Ex.ag, hs, a0, a1];simpa using e1
   simp [e2] at e0;refine ⟨_, kM _ e0, ?_⟩;intro h;simp at h;omega
theorem A7m (d : A9) : d.J4 ≤ lim → d.DC := by
 induction d using A9.ind with
 | h d ih =>
   intro hm;have h1 := A9.YC d;have h2 := A9.TJ d;have h3 := A9.dW d;refine .mk d ⟨by omega, by omega, by omega, fun t ht => ?_⟩ fun k hk => ih k hk (by have := A9.O5 hk; omega)
   have hs := A9.types_size ht;exact ⟨Ty.DW (by omega), by have := Ty.jo t; omega⟩
end Go.Su

/-
 What the closed call of l18_wakes gives: by rewriting.
-/
namespace Go.Su
attribute [local congr] B65 B66 B68 B5V B5U B5F
set_option maxHeartbeats 40000000 in
set_option maxRecDepth 100000 in
theorem jq : (run cfg).p XB [] = some (.bool true) := by
 simp (maxSteps := 200000) (implicitDefEqProofs := false) [B67, bJ, WL, Ud, Ue, Ye, kg, Jj, bK, Iw, gP, qX, NQ, Ll, bL, GL, lU, A0K, WB, wW, kY, QF, gN, gD, Nz, bW, qU, SE, lS, A0Q, wo, A0E, WA, wQ, qW, bG, bH, lT, A0O, qR, WF, UZ, wh, vk, Ub, rz, fV, Nu, bS, vG, UI, rD, A0H, wT, nX, jL, A2S, ve, vg, A07, fo, Ny, bT, vV, UW, rW, A5m, A30, A0W, xB, A0X, WM, xC, kV, QC, gK, vL, UN, rJ, A0P, WG, wm, vO, Iu, NP, rP, bF, Mv, Vb, Vd, ZE, vI, UK, rF, A0D, Vz, wP, qP, R_, lN, qJ, lH, A00, xF, kS, gH, Sn, Pk, Qh, UD, Sy, UE, FD, Sz, UF, Qf, S_, Qe, CB, GD, Pq, vY, fq, rZ, A0S, ww, A0T, wy, vT, rU, A01, xG, qy, lv, A4M, bC, A22, kX, QE, gM, vo, SF, r_, Bo, kZ, Bf, qc, QG, lX, vU, rV, A0F, wR, A2Q, YX, YY, A05, vZ, Ua, rq, A5n, A2O, A31, vK, UM, rH, A0N, Ra, WE, wZ, gF, bX, wK, Ui, sP, wG, sK, kv, gT, bN, Ve, Sm, KR, NL, Xo, ZG, wJ, Uh, sO, qM, Ld, Le, Gz, lK, LH, KV, Qc, GV, Pn, qw, lu, qZ, SL, SK, lW, A0Y, qb, WN, Uf, xD, UO, Iq, V_, Ir, UQ, Rb, vM, UR, rM, A0L, WC, wX, Yz, Lg, Lh, Xt, WK, Uk, Yy, Xr, fu, bU, A0V, xA, bD, ZC, Y_, Li, Lj, Xu, qd, bO, Xm, NM, Qb, lY, kT, P_, QA, Nt, gI, Sq, IE, Nr, Qi, Va, Uj, v_, ko, fw, SG, f_, SH, gB, SI, sG, A0U, PQ, w_, A2U, Ya, WJ, A09, vw, Uc, sD, bI, Yd, jK, bV, A0I, wU, Yb, WU, wD, sH, wE, sI, vz, sF, Nq, MO, FO, LF, LG, KS, Ef, EX, Eg, EY, NR, Sv, Gy, Qk, Lc, KU, qL, lJ, KT, IG, JN, vE, rA, qN, lL, bA, Yc, Sr, Ns, Qj, A2V, wB, wC, A1a, ku, gQ, bB, Xn, Nw, ZB, vN, UT, rO, Yx, Xq, bM, ZF, vF, UG, UH, rC, qO, Rz, lM, vH, UJ, rE, qQ, SB, SC, lQ, kU, QB, gJ, vD, q_, vX, UX, UY, rY, vP, UU, UV, SA, rQ, A6i, A3Z, A5o, qp, lq, kw, ZA, gU, wI, sN, qf, lZ, N_, FP, NS, lF, QH, gV, XO, qx, WO, Ul, fU, Np, bR, vQ, rR, qo, bP, lh, Cb, fZ, G_, Be, vR, rT, A2T, qV, WH, A08, vW, rX, A2R, YZ, A06, A0G, wS, A3Y, zZ, za, A21, A71, A3W, A3X, A6n, wF, SN, sJ, A0J, wV, qY, lV, kW, QD, gL, Lf, Eb, Jk, NN, Nv, Lm, vJ, UL, rG, A0R, WI, wu, A0M, wY, A0Z, qg, ql, qm, ky, kz, k_, lC, lD, Ug, xE, wH, sM, qK, Ry, lI, Qd, Po, QX, Ph, VV, TV,
  B2n, flatK, A9w, A1p, B2W, A9K, B3P, B3n, B09, B1a, B7s, B7t, B7u, B7v, B7w, B7x, B7y, B7z, B7A, B7B, B6B, B6C, B6D, B6E, B6F, B6G, B7C, B7D, B7E, B7F, B7G, B7H, B7I, B7J, M7, p9, VO, U4, KN, Ik, B5L, B5K, B5N, B5M, Ck, BU, A_, lim, B49, B43, B19, B0L, B6z, B6A, isKey, M9, B44, B48, B1m, B6m, B6k, B6l, B6j, A91, B8i, B22, pack, Vu, A3T, B47, B46, B45, B3S, -I1, -N9, -X3, ↓I1, ↓B2S, ↓O6, ↓B1l, ↓B3E, ↓B3D, ↓B3C, ↓B3B, I1, B3E, B3D, B3C, B3B]
end Go.Su

/-
 The law ElabExact answers true on data.
-/
namespace Go.Su
theorem B2L (e : Ex) (d : A9) (hm : e.J4 + d.J4 ≤ 1048576) : (run cfg).p ed [e.enc, d.enc] = some (.bool true) := by
 have fe : e.fit := Ex.WS (by omega)
 have fd : d.fit := A9.WS (by unfold lim; omega)
 have ds : d.DC := A7m d (by unfold lim; omega)
 have me : 2 * e.J4 ≤ lim := by unfold lim; omega
 have md : d.J4 ≤ lim := by unfold lim; omega
 obtain ⟨b1, h1, h1s⟩ := A5C e fe (by omega)
 obtain ⟨b2, h2⟩ := zh d (by omega)
 obtain ⟨b3, h3⟩ := A10 e d fe me md;have hk := A7s e fe (by unfold lim; omega)
 have hkd := A5z d fd;refine (ZB _ _).trans ?_;rw [bB];cases b1 with
 | true => simp [Ex.D8, Ex.ag, A9.D8, A9.ag, h1]
 | false =>
 cases b2 with
 | true => simp [Ex.D8, Ex.ag, A9.D8, A9.ag, h1, h2]
 | false =>
 cases b3 with
 | false => simp [Ex.D8, Ex.ag, A9.D8, A9.ag, h1, h2, h3]
 | true =>
 have Y9 := h1s rfl;have hc := A7o e d fe ds me (by omega)
 have Fw := yT e fe;have hr2 := A7z d ds;have six : Jh (run cfg) (.list 8 []) (.int .i64 1) Py.enc = some (.bool true) := by
  rw [Xn];simp [Py, jq]
 unfold xy at hc
 by_cases r1 : e.right = true
 rotate_left
 ·rw [if_neg fun h => r1 h.1] at hc
  simp only [z7q] at r1;rw [r1] at Fw;simp [Ex.D8, Ex.ag, A9.D8, A9.ag, h1, h2, h3, hk, hkd, hc, O4, Fw, six]
 by_cases r2 : d.AO = true
 rotate_left
 ·rw [if_neg fun h => r2 h.2] at hc
  simp only [z7q] at r2;rw [r1] at Fw;rw [r2] at hr2;simp [Ex.D8, Ex.ag, A9.D8, A9.ag, h1, h2, h3, hk, hkd, hc, O4, Fw, hr2, six]
 rw [if_pos ⟨r1, r2⟩] at hc;rw [r1] at Fw;rw [r2] at hr2;have hm := A8t e d fe ds fd me md (by omega) r1 r2
 have hsa := tu e fe e;have hsd := A4m d fd d;cases hj : jt false e d [] [] with
 | ok T =>
   rw [hj] at hc hm;have js := B3v false e r1 d [] [] T r2 ds (fun x hx => by simp at hx) hj
   obtain ⟨ft, fl⟩ := B0R e d T js fe fd [] (fun x hx => by simp at hx)
   have hs := Oa T.ty (Ty.U8 js.ty) T.ty;have ht := yX _ ft (M4 e d T []).1;have hL := m_ (M4 e d T []).2 (by have := OC e d T []; simp at this; unfold lim; omega) fl
   simp [Ex.D8, Ex.ag, A9.D8, A9.ag, h1, h2, h3, hk, hkd, hc, O4, Fw, hr2];rw [Nw];simp [Ex.D8, Ex.ag, A9.D8, A9.ag, hm, O4, Ty.D8, Ty.ag, Tm.D8, Tm.ag, hs, ht, hL, hsa, hsd, jq]
 | error z =>
   rw [hj] at hc hm;have hs := Oa F7 Mo F7;have fz : Py.Mw := .mk _ ⟨by simp [Py, lim], Mo, Mo, by simp [Py, lim], fun y hy => by simp [Py] at hy, by simp [Py, lim], fun y hy => by simp [Py] at hy⟩ (by simp [Py, lim]) fun k hk => by simp [Py] at hk
   have ht := yX _ fz Py;have hL := m_ [] (by simp) (fun x hx => by simp at hx)
   have e8 : V6 [] = .list 8 [] := rfl;rw [e8] at hL;simp [Ex.D8, Ex.ag, A9.D8, A9.ag, h1, h2, h3, hk, hkd, hc, O4, Fw, hr2];rw [Nw];simp [Ex.D8, Ex.ag, A9.D8, A9.ag, hm, O4, Ty.D8, Ty.ag, Tm.D8, Tm.ag, hs, ht, hL, hsa, hsd, jq]
end Go.Su
