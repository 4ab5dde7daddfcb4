/-
  Parts of the proof, merged: TJ2, TJ3, TJ4, TJ5, TJ6, TJ7, TJ8, TJ9, TJ10, TJ11, TJ12, TJ13, TJ14, TJ15, TJ16, TJ17, TJ18, W16, LJudgeExact.
-/
import Derived.Test.YtbmglmlodflfeaaGreatP4
import Derived.Test.YtbmglmlodflfeaaGreatP5
set_option linter.unusedVariables false
set_option linter.unusedSimpArgs false
/-
 What the program's judging does: finding a name, a derivation's own part.
-/
namespace Go.Su
theorem Qt (t : Ty) (ht : t.thin = true) : (run cfg).p SS [t.enc] = some (.bool (t.without 5)) := by
 refine (jQ _).trans ?_;rw [nz];simp [Ty.E8, Ty.ag, kJ 5 t ht]
@[simp] theorem A9z (x : Nm) : D5 5 x.enc = true := rfl
theorem Nm.A0i (x : Nm) : DV.agg [.str x.name, .int .i64 x.ty.kind, .int .i64 x.ty.n, .list 3 (x.ty.kids.map Ty.enc), E9 x.vars] = x.enc := rfl
theorem ifc {α : Type} {p q : Prop} [Decidable p] [Decidable q] (h : p ↔ q) (a b : α) : (if p then a else b) = if q then a else b := by
 by_cases hp : p
 ·rw [if_pos hp, if_pos (h.1 hp)]
 ·rw [if_neg hp, if_neg fun hq => hp (h.2 hq)]
def zNm : Nm := ⟨N9, F8, []⟩
theorem B3f : DV.agg [.str ⟨#[]⟩, .int .i64 0, .int .i64 0, .list 3 [], .list 1 []] = zNm.enc := rfl
theorem A35 (l : List Nm) (hl : l.length ≤ lim) (n : ByteArray) : (run cfg).p ZA [F9 l, .str n] = some (.H7 [((Av l n).getD zNm).enc, .bool (Av l n).isSome]) := by
 have hb := big hl;refine (i_ _ _).trans ?_;have loop : ∀ (m : Nat) (a b c d e : DV), m ≤ l.length → Md (run cfg) (F9 l) (.str n) (.int .i64 ((m : Int) - 1)) a b c d e = some (.H7 [((Av (l.take m) n).getD zNm).enc, .bool (Av (l.take m) n).isSome]) := by
  intro m a b c d e
  induction m with
  | zero =>
    intro _;rw [Qz];simp [Av, B3f]
  | succ m ih =>
    intro Lt;have h : m < l.length := by omega
    have nx := ih (by omega)
    rw [Qz];have e1 : ((m + 1 : Nat) : Int) - 1 = (m : Int) := by omega
    have e2 : F3 5 (F9 l) (.int .i64 (m : Int)) = some l[m].enc := F4 h;have e3 : A8 .sub (.int .i64 (m : Int)) (.int .i64 1) = some (.int .i64 ((m : Int) - 1)) := by rw [Df, CS (by omega) (by omega)]
    rw [e1];unfold Av at nx ⊢;rw [List.take_succ_eq_append_getElem h, List.reverse_append];simp only [List.reverse_singleton, List.singleton_append, List.find?_cons]
    by_cases hn : l[m].name = n
    ·subst hn
     simp [e2];rfl
    ·simp [e2, hn, e3, nx]
 rw [nK];have e3 : A8 .sub (.int .i64 (l.length : Int)) (.int .i64 1) = some (.int .i64 ((l.length : Int) - 1)) := by rw [Df, CS (by omega) (by omega)]
 have := loop l.length (.str ⟨#[]⟩) (.int .i64 0) (.int .i64 0) (.list 3 []) (.list 1 []) (Nat.le_refl _);rw [List.take_length] at this;simp [e3, this]
def Uv (e : Ex) (l : List Nm) : Nm := if e.kind = 1 then (Av l e.name).getD zNm else zNm
theorem A36 (e : Ex) (hr : e.right = true) (hf : e.fit) (l : List Nm) (hl : e.kind = 1 → Av l e.name ≠ none) : (run cfg).p ZB [e.enc, (Uv e l).enc] = some (.H7 [.int .i64 (M8 e l), .bool (Af e)]) := by
 have own := Ex.V7 hr;refine (jB _ _).trans ?_;rw [nM];have k1 := own.k1;have k16 := own.k16
 by_cases h1 : e.kind = 1
 ·cases hx : Av l e.name with
  | none => exact absurd hx (hl h1)
  | some x => simp [h1, Uv, hx, M8, Af]
 by_cases h7 : e.kind = 7
 ·simp [h7, M8, Af]
 by_cases h8 : e.kind = 8
 ·simp [h8, M8, Af]
 by_cases PK : e.kind = 13
 ·simp [PK, M8, Af]
 by_cases Ki : e.kind = 14
 ·simp [Ki, M8, Af]
 by_cases Dn : e.kind = 11
 ·by_cases ha : e.a.kind = 0
  ·have hk : 0 < e.kids.length := own.CX (i := 0) (by simp [K8, Dn])
   have e1 : F3 16 (.list 16 (e.kids.map Ex.enc)) (.int .i64 (0 : Int)) = some (e.kid 0).enc := by
    rw [Ar hk];exact F4 (e := Ex.enc) (sz := 16) (k := .i64) (i := 0) hk
   have hm : e.kid 0 ∈ e.kids := by rw [Ar hk]; exact List.getElem_mem hk
   have hv := A4g (e.kid 0) (hf.kid hm);rw [Ex.P5 hr hm, Bool.true_and] at hv;simp [Dn, ha, e1, Ex.E8, Ex.ag, hv, M8, Af]
  ·simp [Dn, ha, M8, Af]
 have h16 : IE (run cfg) (.int .i64 0) e.enc = some (.H7 [.int .i64 0, .bool (decide (e.kind = 12))]) := by
  rw [Gl]; simp
 have a01 : A8 .add (.int .i64 0) (.int .i64 1) = some (.int .i64 1) := CO (by omega) (by omega)
 have Uj : A8 .add (.int .i64 1) (.int .i64 1) = some (.int .i64 2) := CO (by omega) (by omega)
 by_cases h9 : e.kind = 9
 ·by_cases ha : e.a.kind = 0
  ·simp [h9, ha, K_, LA, Gl, M8, Af, a01, Uj]
  ·simp [h9, ha, K_, LA, Gl, M8, Af, a01, Uj]
 by_cases Ee : e.kind = 12
 ·by_cases ha : e.a.kind = 0 <;> by_cases hb : e.b.kind = 0 <;> simp [Ee, ha, hb, K_, LA, Gl, M8, Af, a01, Uj]
 ·simp [h1, h7, h8, PK, Ki, Dn, h9, Ee, M8, Af]
theorem j6.get {es : List (DV × DV)} {S : List Int} (h : j6 es S) (v : Int) : (Z4 es (.int .i64 v)).getD (.int .i64 0) = .int .i64 (if v ∈ S then 1 else 0) := h v
section
variable {sg : List D7} {p mi : Nat} (h : JP sg p mi) (st : Bool) {es : List (DV × DV)} (L : List S9) (m : Meta) (er : Int) {S : List Int} (hs : j6 es S)
include h hs
theorem A6x (ts : List Ty) (hl : ts.length ≤ lim) (ht : ∀ t ∈ ts, t.thin = true ∧ t.BS ≤ lim) : ∀ (m0 k : Nat), k + m0 = ts.length →
 Az (run cfg) p (.list 3 (ts.map Ty.enc)) (.int .i64 ts.length) (.int .i64 k) (Q7 sg p mi st es L m er) = some ([.int .i64 (LW st S (ts.drop k))], Q7 sg p mi st es L m er) := by
 have hb := big hl;intro m0
 induction m0 with
 | zero =>
   intro k hk;rw [EQ, List.drop_of_length_le (by omega)]
   have : ¬ k < ts.length := by omega
   simp [this, LW]
 | succ m0 ih =>
   intro k hk;have I4 : k < ts.length := by omega
   have nx := ih (k + 1) (by omega)
   push_cast at nx;obtain ⟨R_, Y4⟩ := ht _ (List.getElem_mem I4);have hvl : ts[k].vars.length ≤ lim + 1 := by have := Ty.gW ts[k] []; simp at this; unfold Ty.vars; omega
   have hvb : ts[k].vars.length < 4294967299 := by unfold lim at hvl; omega
   have inner := SB (l := ts[k].vars) (f := fun v => decide (v ∈ S)) (P := fun j => A_ (run cfg) p (.list 3 (ts.map Ty.enc)) (.int .i64 ts.length) (.int .i64 k) (E9 ts[k].vars) (.int .i64 ts[k].vars.length) (.int .i64 j) (Q7 sg p mi st es L m er))
    (y := Az (run cfg) p (.list 3 (ts.map Ty.enc)) (.int .i64 ts.length) (.int .i64 ((k : Int) + 1)) (Q7 sg p mi st es L m er)) (n := some ([.int .i64 6], Q7 sg p mi st es L m er))
    (by rw [ER]; simp [K6 (show k < 9223372036854775807 by omega)])
    (fun j hj => by
      rw [ER];have hc := hs.get ts[k].vars[j]
      by_cases hv : ts[k].vars[j] ∈ S
      ·simp only [hv, if_true] at hc
       simp [hj, U3 hj, Bp h, SA h, hc, hv, K6 (show j < 9223372036854775807 by omega)]
      ·simp only [hv, if_false] at hc
       simp [hj, U3 hj, Bp h, SA h, hc, hv])
   have hi : ts[k].vars.all (fun v => decide (v ∈ S)) = ae S ts[k] := rfl
   rw [hi] at inner;rw [EQ, List.drop_eq_getElem_cons I4, LW];cases st with
   | false =>
     simp only [Bool.false_and, Bool.false_eq_true, if_false]
     by_cases DD : ae S ts[k] = true <;> simp [I4, F4 I4, Ty.E8, Ty.ag, Bp h, WR _ R_ Y4, inner, DD, nx]
   | true =>
     by_cases h5 : ts[k].without 5 = true
     ·simp only [h5, Bool.not_true, Bool.and_false, Bool.false_eq_true, if_false]
      by_cases DD : ae S ts[k] = true <;> simp [I4, F4 I4, Ty.E8, Ty.ag, Bp h, Qt _ R_, h5, WR _ R_ Y4, inner, DD, nx]
     ·simp only [Bool.not_eq_true] at h5
      simp [I4, F4 I4, Ty.E8, Ty.ag, Bp h, Qt _ R_, h5]
theorem A4H (dq : FuncId × List (DV × Meta)) (ts : List Ty) (hl : ts.length ≤ lim) (ht : ∀ t ∈ ts, t.thin = true ∧ t.BS ≤ lim) : ∀ (m0 k : Nat), k + m0 = ts.length →
 Am (run cfg) dq p (.list 3 (ts.map Ty.enc)) (.int .i64 ts.length) (.int .i64 k) (Q7 sg p mi st es L m er) = ob ((run cfg).r dq.1 dq.2 (Q7 sg p mi st es L m er)) fun q => some ([.int .i64 (LW st S (ts.drop k))], q.2) := by
 have hb := big hl;intro m0
 induction m0 with
 | zero =>
   intro k hk;rw [EG, List.drop_of_length_le (by omega)]
   have : ¬ k < ts.length := by omega
   simp [this, LW]
 | succ m0 ih =>
   intro k hk;have I4 : k < ts.length := by omega
   have nx := ih (k + 1) (by omega)
   push_cast at nx;obtain ⟨R_, Y4⟩ := ht _ (List.getElem_mem I4);have hvl : ts[k].vars.length ≤ lim + 1 := by have := Ty.gW ts[k] []; simp at this; unfold Ty.vars; omega
   have hvb : ts[k].vars.length < 4294967299 := by unfold lim at hvl; omega
   have inner := SB (l := ts[k].vars) (f := fun v => decide (v ∈ S)) (P := fun j => Ao (run cfg) dq p (.list 3 (ts.map Ty.enc)) (.int .i64 ts.length) (.int .i64 k) (E9 ts[k].vars) (.int .i64 ts[k].vars.length) (.int .i64 j) (Q7 sg p mi st es L m er))
    (y := Am (run cfg) dq p (.list 3 (ts.map Ty.enc)) (.int .i64 ts.length) (.int .i64 ((k : Int) + 1)) (Q7 sg p mi st es L m er)) (n := ob ((run cfg).r dq.1 dq.2 (Q7 sg p mi st es L m er)) fun q => some ([.int .i64 6], q.2))
    (by rw [EH]; simp [K6 (show k < 9223372036854775807 by omega)])
    (fun j hj => by
      rw [EH];have hc := hs.get ts[k].vars[j]
      by_cases hv : ts[k].vars[j] ∈ S
      ·simp only [hv, if_true] at hc
       simp [hj, U3 hj, Bp h, SA h, hc, hv, K6 (show j < 9223372036854775807 by omega)]
      ·simp only [hv, if_false] at hc
       simp [hj, U3 hj, Bp h, SA h, hc, hv])
   have hi : ts[k].vars.all (fun v => decide (v ∈ S)) = ae S ts[k] := rfl
   rw [hi] at inner;rw [EG, List.drop_eq_getElem_cons I4, LW];cases st with
   | false =>
     simp only [Bool.false_and, Bool.false_eq_true, if_false]
     by_cases DD : ae S ts[k] = true <;> simp [I4, F4 I4, Ty.E8, Ty.ag, Bp h, WR _ R_ Y4, inner, DD, nx]
   | true =>
     by_cases h5 : ts[k].without 5 = true
     ·simp only [h5, Bool.not_true, Bool.and_false, Bool.false_eq_true, if_false]
      by_cases DD : ae S ts[k] = true <;> simp [I4, F4 I4, Ty.E8, Ty.ag, Bp h, Qt _ R_, h5, WR _ R_ Y4, inner, DD, nx]
     ·simp only [Bool.not_eq_true] at h5
      simp [I4, F4 I4, Ty.E8, Ty.ag, Bp h, Qt _ R_, h5]
theorem A4I (e : Ex) (d : C8) (hl : d.vars.length ≤ lim) : AR (run cfg) p (E9 d.vars) (.int .i64 d.vars.length) (.int .i64 0) e.enc d.enc (Q7 sg p mi st es L m er) =
 if takes S d.vars = true then (if e.kind = 12 then Cx (run cfg) p d.enc (Q7 sg p mi st es L m er) else Cy (run cfg) p d.enc (Q7 sg p mi st es L m er)) else some ([.int .i64 6], Q7 sg p mi st es L m er) := by
 have hb := big hl;generalize u_ : d.vars = l at hl hb ⊢;have loop : ∀ (m0 k : Nat), k + m0 = l.length → AR (run cfg) p (E9 l) (.int .i64 l.length) (.int .i64 k) e.enc d.enc (Q7 sg p mi st es L m er) =
  if (∀ j (h : j < l.length), k ≤ j → l[j] ∉ S ∧ l[j] ∉ l.take j) then (if e.kind = 12 then Cx (run cfg) p d.enc (Q7 sg p mi st es L m er) else Cy (run cfg) p d.enc (Q7 sg p mi st es L m er)) else some ([.int .i64 6], Q7 sg p mi st es L m er) := by
  intro m0
  induction m0 with
  | zero =>
    intro k hk;rw [Ew];have : ¬ k < l.length := by omega
    have h2 : ∀ j (h : j < l.length), k ≤ j → l[j] ∉ S ∧ l[j] ∉ l.take j := fun j h h' => by omega
    rw [if_pos h2]
    by_cases B6e : e.kind = 12 <;> simp [this, B6e]
  | succ m0 ih =>
    intro k hk;have I4 : k < l.length := by omega
    have nx := ih (k + 1) (by omega)
    push_cast at nx;have hc := hs.get l[k];have sl : Dh 1 (E9 l) none (some (.int .i64 (k : Int))) = some (E9 (l.take k)) := A1k (by omega) 1
    have ct := wF (l.take k) (by simp; omega) l[k]
    rw [Ew]
    by_cases hv : l[k] ∈ S
    ·simp only [hv, if_true] at hc
     have : ¬ ∀ j (h : j < l.length), k ≤ j → l[j] ∉ S ∧ l[j] ∉ l.take j := fun hh => (hh k I4 (Nat.le_refl _)).1 hv
     rw [if_neg this];simp [I4, u_, U3 I4, Bp h, SA h, hc]
    ·simp only [hv, if_false] at hc
     by_cases hd : l[k] ∈ l.take k
     ·have : ¬ ∀ j (h : j < l.length), k ≤ j → l[j] ∉ S ∧ l[j] ∉ l.take j := fun hh => (hh k I4 (Nat.le_refl _)).2 hd
      rw [if_neg this];simp only [hd, decide_true] at ct;simp [I4, u_, U3 I4, Bp h, SA h, hc, sl, ct]
     ·simp only [hd, decide_false] at ct
      have e1 : (∀ j (h : j < l.length), k ≤ j → l[j] ∉ S ∧ l[j] ∉ l.take j) ↔ ∀ j (h : j < l.length), k + 1 ≤ j → l[j] ∉ S ∧ l[j] ∉ l.take j := by
       constructor
       ·intro hh j hj hkj; exact hh j hj (by omega)
       ·intro hh j hj hkj
        rcases Nat.lt_or_ge k j with h1 | h1
        ·exact hh j hj h1
        ·have : k = j := by omega
         subst this;exact ⟨hv, hd⟩
      rw [ifc e1, ← nx];simp [I4, u_, U3 I4, Bp h, SA h, hc, sl, ct, K6 (show k < 9223372036854775807 by omega)]
 have l0 := loop l.length 0 (by omega)
 simp only [Int.natCast_zero, Int.ofNat_zero, Int.cast_ofNat_Int] at l0;refine l0.trans (ifc ?_ _ _);rw [SC, ← lW];constructor
 ·intro hh
  refine ⟨fun j hj => (hh j hj (Nat.zero_le _)).2, fun v hv => ?_⟩
  obtain ⟨j, hj, rfl⟩ := List.getElem_of_mem hv;exact (hh j hj (Nat.zero_le _)).1
 ·rintro ⟨h1, h2⟩ j hj -
  exact ⟨h2 _ (List.getElem_mem hj), h1 j hj⟩
end
theorem A0F {sg : List D7} {p mi : Nat} (h : JP sg p mi) (st : Bool) {es : List (DV × DV)} (L : List S9) (m : Meta) (er : Int) {S : List Int} (hs : j6 es S) (e : Ex) (hr : e.right = true) (hf : e.fit) (d : C8) (hd : d.DC) (l : List Nm) (hl : e.kind = 1 → Av l e.name ≠ none) :
 ∃ es', (run cfg).r BF [(.undef, .ptr p 0), (e.enc, .val), (d.enc, .val), ((Uv e l).enc, .val)] (Q7 sg p mi st es L m er) = some ([.int .i64 (Cu st e d l S)], Q7 sg p mi st es' L m er) ∧ j6 es' S := by
 obtain ⟨d1, d2, d3, d4⟩ := hd.all;have dX := A36 e hr hf l hl;have h0 : ¬ (e.kind = 1 ∧ Av l e.name = none) := fun hh => hl hh.1 hh.2
 have key : ∀ {q}, CU (run cfg) p e.enc d.enc (Uv e l).enc (Q7 sg p mi st es L m er) = some q → (run cfg).r BF [(.undef, .ptr p 0), (e.enc, .val), (d.enc, .val), ((Uv e l).enc, .val)] (Q7 sg p mi st es L m er) = some q := fun hq => XQ _ _ _ _ _ hq
 unfold Cu;rw [if_neg h0];have e0 := NQ (run cfg) p e.enc d.enc (Uv e l).enc (Q7 sg p mi st es L m er)
 by_cases s1 : d.types.length = M8 e l
 rotate_left
 ·refine ⟨es, key ?_, hs⟩
  have s1' : ¬ ((d.types.length : Int) = (M8 e l : Int)) := by omega
  rw [e0];simp [Ex.E8, Ex.ag, Nm.A0i, dX, s1, s1', Gu, N8]
 by_cases s2 : d.kids.length = e.kids.length
 rotate_left
 ·refine ⟨es, key ?_, hs⟩
  have s2' : ¬ ((d.kids.length : Int) = (e.kids.length : Int)) := by omega
  rw [e0];simp [Ex.E8, Ex.ag, Nm.A0i, dX, s1, s2, s2', Gu, N8]
 by_cases s3 : d.vars = [] ∨ Af e = true
 rotate_left
 ·refine ⟨es, key ?_, hs⟩
  simp only [not_or, Bool.not_eq_true] at s3;have s3' : (0 : Int) < (d.vars.length : Int) := by have := List.length_pos_iff.2 s3.1; omega
  rw [e0];simp [Ex.E8, Ex.ag, Nm.A0i, dX, s1, s2, s3.1, s3.2, s3', Gu, N8]
 have UL : Gu e d l = true := by
  unfold Gu;simp only [s1, s2, decide_true, Bool.true_and, Bool.or_eq_true, decide_eq_true_eq];exact s3
 have e1 : CU (run cfg) p e.enc d.enc (Uv e l).enc (Q7 sg p mi st es L m er) = Bd (run cfg) p e.enc d.enc (Q7 sg p mi st es L m er) := by
  rw [e0];rcases s3 with s3 | s3
  ·simp [Ex.E8, Ex.ag, Nm.A0i, dX, s1, s2, s3, N8]
  ·by_cases hv : (0 : Int) < (d.vars.length : Int)
   ·simp [Ex.E8, Ex.ag, Nm.A0i, dX, s1, s2, s3, N8, hv]
   ·simp [Ex.E8, Ex.ag, Nm.A0i, dX, s1, s2, s3, N8, hv]
 have e2 : Bd (run cfg) p e.enc d.enc (Q7 sg p mi st es L m er) = AR (run cfg) p (E9 d.vars) (.int .i64 d.vars.length) (.int .i64 0) e.enc d.enc (Q7 sg p mi st es L m er) := by
  rw [Lm];simp
 have e3 := e1.trans (e2.trans (A4I h st L m er hs e d d1));rw [if_neg (by rw [UL]; simp)]
 by_cases ht : takes S d.vars = true
 rotate_left
 ·refine ⟨es, key ?_, hs⟩
  rw [e3, if_neg ht];simp only [Bool.not_eq_true] at ht;rw [if_pos ht]
 rw [if_neg (by rw [ht]; simp)]
 rw [if_pos ht] at e3
 by_cases Ee : e.kind = 12
 rotate_left
 ·refine ⟨es, key ?_, hs⟩
  rw [e3, if_neg Ee, if_neg Ee, Ke];have := A6x h st L m er hs d.types d2 d4 d.types.length 0 (by omega)
  simp only [List.drop_zero, Int.ofNat_zero, Int.natCast_zero, Int.cast_ofNat_Int] at this;simp [this]
 rw [if_pos Ee] at e3 ⊢;obtain ⟨es1, q1, c1⟩ := DR h st L m er 1 (.inl rfl) d.vars d1 es _ hs (fun v => by split <;> omega)
 have CL := A0D ht c1;obtain ⟨es2, q2, c2⟩ := DR h st L m er (-1) (.inr rfl) d.vars d1 es1 _ CL (fun v => by split <;> omega)
 have p_ := XH ht c2;refine ⟨es2, key ?_, p_⟩;rw [e3, Kc];have := A4H h st L m er CL (Y1, [(.undef, .ptr p 0), (E9 d.vars, .val), (.int .i64 (-1), .val)]) d.types d2 d4 d.types.length 0 (by omega)
 simp only [List.drop_zero, Int.ofNat_zero, Int.natCast_zero, Int.cast_ofNat_Int] at this;simp [q1, Jv, this, q2]
end Go.Su

/-
 What the program's judging does: a cast, a kid, a kid that fits, a name.
-/
namespace Go.Su
def zTm : Tm := .mk 0 0 0 N9 N9 0 N9 0 0 false [] F8 F8 [] [] []
theorem xI : DV.agg [.int .i64 0, .int .i64 0, .int .i64 0, .str ⟨#[]⟩, .str ⟨#[]⟩, .int .i64 0, .str ⟨#[]⟩, .int .i64 0, .int .i64 0, .bool false, .list 1 [], .int .i64 0, .int .i64 0, .list 3 [], .int .i64 0, .int .i64 0, .list 3 [], .list 3 [], .list 7 [], .list 20 []] = zTm.enc := by rw [Tm.I5]; rfl
theorem XL : DV.agg [.int .i64 0, .int .i64 0, .list 3 [], .int .i64 0, .int .i64 0, .int .i64 0, .str ⟨#[]⟩, .str ⟨#[]⟩, .int .i64 0, .str ⟨#[]⟩, .int .i64 0, .int .i64 0, .bool false, .list 1 [], .int .i64 0, .int .i64 0, .list 3 [], .int .i64 0, .int .i64 0, .list 3 [], .list 3 [], .list 7 [], .list 20 []] = Y0 F8 zTm := rfl
def K5 (sg : List D7) (p mi : Nat) (st : Bool) (S : List Int) (N : Nat) (q : Option (List DV × List D7)) (r : Except Int (DV × List S9)) : Prop :=
 ∃ v es L m er, q = some ([v], Q7 sg p mi st es L m er) ∧ D5 N v = true ∧ j6 es S ∧ Roomy m ∧ (match r with
   | .ok w => er = 0 ∧ v = w.1 ∧ L = w.2
   | .error z => er = z ∧ z ≠ 0)
section
variable {sg : List D7} {p mi : Nat} {st : Bool} {S : List Int} {N : Nat}
theorem K5.ok {v : DV} {es : List (DV × DV)} {L : List S9} {m : Meta} {q : Option (List DV × List D7)} (h : q = some ([v], Q7 sg p mi st es L m 0)) (hn : D5 N v = true) (hs : j6 es S) (hm : Roomy m) : K5 sg p mi st S N q (.ok (v, L)) :=
 ⟨v, es, L, m, 0, h, hn, hs, hm, rfl, rfl, rfl⟩
theorem K5.err {v : DV} {es : List (DV × DV)} {L : List S9} {m : Meta} {z : Int} {q : Option (List DV × List D7)} (h : q = some ([v], Q7 sg p mi st es L m z)) (hz : z ≠ 0) (hn : D5 N v = true) (hs : j6 es S) (hm : Roomy m) : K5 sg p mi st S N q (.error z) :=
 ⟨v, es, L, m, z, h, hn, hs, hm, rfl, hz⟩
theorem K5.then {M : Nat} {S2 : List Int} {qa : Option (List DV × List D7)} {ra r : Except Int (DV × List S9)} {k : List DV × List D7 → Option (List DV × List D7)} (h : K5 sg p mi st S N qa ra)
 (p9 : ∀ v es L m, ra = .ok (v, L) → j6 es S → Roomy m → K5 sg p mi st S2 M (k ([v], Q7 sg p mi st es L m 0)) r)
 (B01 : ∀ z v es L m, ra = .error z → z ≠ 0 → D5 N v = true → j6 es S → Roomy m → K5 sg p mi st S2 M (k ([v], Q7 sg p mi st es L m z)) r) : K5 sg p mi st S2 M (ob qa k) r := by
 obtain ⟨v, es, L, m, er, h1, h2, h3, h4, h5⟩ := h;rw [h1];cases hr : ra with
 | ok w =>
   rw [hr] at h5;obtain ⟨rfl, rfl, rfl⟩ := h5;exact p9 _ es _ m hr h3 h4
 | error z =>
   rw [hr] at h5;obtain ⟨rfl, hz⟩ := h5;exact B01 _ v es L m hr hz h2 h3 h4
theorem K5.map {q q' : Option (List DV × List D7)} {r : Except Int (DV × List S9)} (h : K5 sg p mi st S N q r) (e : q' = q) : K5 sg p mi st S N q' r := e ▸ h
end
def jW (e : Ex) (d : C8) (L : List S9) : JR → Except Int (DV × List S9)
 | .ok T => .ok (Y0 T.ty (R9 e d T L).1, (R9 e d T L).2)
 | .error z => .error z
theorem Yf {e : Ex} {d : C8} {L L' : List S9} {r : JR} {v : DV} (h : jW e d L r = .ok (v, L')) : ∃ T, r = .ok T ∧ v = Y0 T.ty (R9 e d T L).1 ∧ L' = (R9 e d T L).2 := by
 cases r with
 | error z => cases h
 | ok T => cases h; exact ⟨T, rfl, rfl, rfl⟩
theorem UN {e : Ex} {d : C8} {L : List S9} {r : JR} {z : Int} (h : jW e d L r = .error z) : r = .error z := by
 cases r with
 | error z => cases h; rfl
 | ok T => cases h
def AX (e : Ex) (d : C8) (to : Ty) (T : JT) (L : List S9) : Tm × List S9 := bg (R9 e d T L).1 T.ty to e.lo e.hi (R9 e d T L).2
def jF (e : Ex) (d : C8) (L : List S9) (to : Ty) : JR → Except Int (DV × List S9)
 | .ok T => .ok ((AX e d to T L).1.enc, (AX e d to T L).2)
 | .error z => .error z
theorem M_ {e : Ex} {d : C8} {L L' : List S9} {to : Ty} {r : JR} {v : DV} (h : jF e d L to r = .ok (v, L')) : ∃ T, r = .ok T ∧ v = (AX e d to T L).1.enc ∧ L' = (AX e d to T L).2 := by
 cases r with
 | error z => cases h
 | ok T => cases h; exact ⟨T, rfl, rfl, rfl⟩
theorem Ig {e : Ex} {d : C8} {L : List S9} {to : Ty} {r : JR} {z : Int} (h : jF e d L to r = .error z) : r = .error z := by
 cases r with
 | error z => cases h; rfl
 | ok T => cases h
def bQ (st : Bool) (e : Ex) : Prop := e.right = true → e.fit → ∀ (d : C8) (l : List Nm) (S : List Int), d.Aa = true → d.DC → Au l → l.length + 2 * e.J3 ≤ lim →
 ∀ (sg : List D7) (p mi : Nat), JP sg p mi → ∀ (es : List (DV × DV)) (L : List S9) (m : Meta), j6 es S → Roomy m → L.length + 2 * e.size ≤ 1048576 →
 K5 sg p mi st S 23 ((run cfg).r Fs [(.undef, .ptr p 0), (e.enc, .val), (d.enc, .val), (F9 l, .val)] (Q7 sg p mi st es L m 0)) (jW e d L (jt st e d l S))
section
variable {sg : List D7} {p mi : Nat} (h : JP sg p mi) (st : Bool)
include h
theorem qH (es : List (DV × DV)) {L : List S9} (hL : L.length ≤ 1048576) {m : Meta} (hm : Roomy m) (er : Int) (t : Ty) (x : Tm) (k : Ex) (w : Ty) :
 (run cfg).r Fq [(.undef, .ptr p 0), (Y0 t x, .val), (k.enc, .val), (w.enc, .val)] (Q7 sg p mi st es L m er) = some ([(bg x t w k.lo k.hi L).1.enc], Q7 sg p mi st es (bg x t w k.lo k.hi L).2 .own er) := by
 refine (QE _ _ _ _ _).trans ?_;have UI := Ac (e := S9.enc) (sz := 8) (l := L) (x := ⟨k.lo, k.hi, t, w⟩) (by unfold lim; omega)
 have lH : R6 8 (MM L) (.list 8 [.agg [.int .i64 k.lo, .int .i64 k.hi, .int .i64 t.kind, .int .i64 t.n, .list 3 (t.kids.map Ty.enc), .int .i64 w.kind, .int .i64 w.n, .list 3 (w.kids.map Ty.enc)]]) = some (MM (L ++ [⟨k.lo, k.hi, t, w⟩])) := UI;have hgt : ¬ ((1048576 : Int) < (L.length : Int)) := by omega
 rw [Rk];simp only [A5l, Al, Ie, O8, Bp h, H6, B33 hm, A9e, Cb];simp [hgt, PD, Bp h, B5p hm, B34, A7l h, lH, Tm.E8, bg];rw [Tm.I5 (.mk 16 0 0 N9 N9 0 N9 0 L.length false [] t w [] [] [x])];rfl
theorem Gv (es : List (DV × DV)) (L : List S9) (m : Meta) {er : Int} (he : er ≠ 0) (e : Ex) (d : C8) (i : Int) (l : DV) :
 (run cfg).r T9 [(.undef, .ptr p 0), (e.enc, .val), (d.enc, .val), (.int .i64 i, .val), (l, .val)] (Q7 sg p mi st es L m er) = some ([Y0 F8 zTm], Q7 sg p mi st es L m er) := by
 refine (Jz _ _ _ _ _ _).trans ?_;rw [Kz];simp [Aw h, he, XL]
theorem tT (es : List (DV × DV)) (L : List S9) (m : Meta) {er : Int} (he : er ≠ 0) (a b c v : DV) :
 Cq (run cfg) p a b c v (Q7 sg p mi st es L m er) = some ([zTm.enc], Q7 sg p mi st es L m er) := by
 rw [Hg];simp [Aw h, he, xI]
theorem Pe (es : List (DV × DV)) (L : List S9) (m : Meta) {er : Int} (he : er ≠ 0) (e : Ex) (d : C8) (i : Int) (l : DV) (w : Ty) :
 (run cfg).r M6 [(.undef, .ptr p 0), (e.enc, .val), (d.enc, .val), (.int .i64 i, .val), (l, .val), (w.enc, .val)] (Q7 sg p mi st es L m er) = some ([zTm.enc], Q7 sg p mi st es L m er) := by
 refine (Iq _ _ _ _ _ _ _).trans ?_;rw [Jw];have kb := fun i => Gv h st es L m he e d i l
 simp [Ex.E8, Ex.ag, C8.E8, C8.ag, kb, Aw h, he, tT h]
end
structure JC (st : Bool) (e : Ex) (d : C8) (l : List Nm) : Prop where
 hr : e.right = true
 hf : e.fit
 dr : d.Aa = true
 ds : d.DC
 nl : Au l
 len : l.length + 2 * e.J3 ≤ lim
 kl : d.kids.length = e.kids.length
theorem JC.BJ {st : Bool} {e : Ex} {d : C8} {l : List Nm} (c : JC st e d l) {i : Nat} (hi : i < e.kids.length) : e.kid i ∈ e.kids := by rw [Ar hi]; exact List.getElem_mem hi
section
variable {sg : List D7} {p mi : Nat} (h : JP sg p mi) {st : Bool} {e : Ex} {d : C8} {l : List Nm} (c : JC st e d l) (ih : ∀ k ∈ e.kids, bQ st k)
include h c ih
theorem Dz {i : Nat} (hi : i < e.kids.length) {l' : List Nm} {S : List Int} (nl : Au l') (u_ : l'.length + 2 * (e.kid i).J3 ≤ lim) {es : List (DV × DV)} {L : List S9} {m : Meta} (hs : j6 es S) (hm : Roomy m) (hL : L.length + 2 * (e.kid i).size ≤ 1048576) :
 K5 sg p mi st S 23 ((run cfg).r T9 [(.undef, .ptr p 0), (e.enc, .val), (d.enc, .val), (.int .i64 (i : Int), .val), (F9 l', .val)] (Q7 sg p mi st es L m 0)) (jW (e.kid i) (d.kid i) L (jk st e d i l' S)) := by
 have hk := c.BJ hi;have sp := ih _ hk (Ex.P5 c.hr hk) (c.hf.kid hk) (d.kid i) l' S (C8.EE c.dr i) (C8.FY c.ds i) nl u_ sg p mi h es L m hs hm hL;obtain ⟨v, es1, L1, m1, er1, h1, h2, h3, h4, h5⟩ := sp;refine ⟨v, es1, L1, m1, er1, ?_, h2, h3, h4, h5⟩;refine (Jz _ _ _ _ _ _).trans ?_;have e1 : F3 16 (.list 16 (e.kids.map Ex.enc)) (.int .i64 (i : Int)) = some (e.kid i).enc := by rw [Ar hi]; exact F4 hi
 have Ur : i < d.kids.length := by rw [c.kl]; exact hi
 have e2 : F3 3 (.list 3 (d.kids.map C8.enc)) (.int .i64 (i : Int)) = some (d.kid i).enc := by
  have : d.kid i = d.kids[i] := by simp only [C8.kid, List.getD_eq_getElem?_getD, List.getElem?_eq_getElem Ur, Option.getD_some]
  rw [this]; exact F4 Ur
 rw [Kz];obtain ⟨w, rfl⟩ : ∃ w, v = .agg w := by
  cases v with
  | agg w => exact ⟨w, rfl⟩
  | _ => cases h2
 have hw : w.length = 23 := by simpa [D5] using h2
 have jY := h1;simp [Aw h, e1, e2, Ex.E8, Ex.ag, C8.E8, C8.ag, h1, h2]
 match w, hw with
 | [a0, a1, a2, a3, a4, a5, a6, a7, a8, a9, ZU, Uj, a12, a13, a14, Xq, a16, a17, a18, a19, a20, a21, a22], _ => rfl
theorem AA {i : Nat} (hi : i < e.kids.length) {l' : List Nm} {S : List Int} (nl : Au l') (u_ : l'.length + 2 * (e.kid i).J3 ≤ lim) {es : List (DV × DV)} {L : List S9} {m : Meta} (hs : j6 es S) (hm : Roomy m) (hL : L.length + 2 * (e.kid i).size ≤ 1048576) {w : Ty} (hw : w.right = true) :
 K5 sg p mi st S 20 ((run cfg).r M6 [(.undef, .ptr p 0), (e.enc, .val), (d.enc, .val), (.int .i64 (i : Int), .val), (F9 l', .val), (w.enc, .val)] (Q7 sg p mi st es L m 0)) (jF (e.kid i) (d.kid i) L w (M5 w (jk st e d i l' S))) := by
 have hk := c.BJ hi;have fx := Iq p e.enc d.enc (.int .i64 (i : Int)) (F9 l') w.enc (Q7 sg p mi st es L m 0);refine K5.map ?_ fx;rw [Jw];have e1 : F3 16 (.list 16 (e.kids.map Ex.enc)) (.int .i64 (i : Int)) = some (e.kid i).enc := by rw [Ar hi]; exact F4 hi
 simp only [Al, KN, Ie, O8, exx, Ex.E8, Ex.ag, C8.Dy, C8.LY, C8.Ij, C8.E8, C8.ag];refine K5.then (Dz h c ih hi nl u_ hs hm hL) (fun v es L1 m hr hs hm => ?_) (fun z v es L1 m hr hz hn hs hm => ?_)
 ·obtain ⟨T, hT, rfl, rfl⟩ := Yf hr
  have GH : T.ty.right = true := Iw st _ (Ex.P5 c.hr hk) _ _ _ T (C8.EE c.dr i) (C8.FY c.ds i) nl hT;have Kj := A2Q T.ty w (Ty.Z5 GH) (Ty.Z5 hw);rw [GH, hw, Bool.true_and, Bool.true_and] at Kj
  by_cases ha : T.ty.agrees w = true
  ·have Z0 := dE (e.kid i) (d.kid i) T L
   have hc := qH h st es (L := (R9 (e.kid i) (d.kid i) T L).2) (by omega) hm 0 T.ty (R9 (e.kid i) (d.kid i) T L).1 (e.kid i) w
   have : jF (e.kid i) (d.kid i) L w (M5 w (jk st e d i l' S)) = .ok ((AX (e.kid i) (d.kid i) w T L).1.enc, (AX (e.kid i) (d.kid i) w T L).2) := by
    rw [hT];simp [M5, Except.bind, ha, jF]
   rw [this];refine K5.ok (es := es) (m := .own) ?_ (by simp) hs (.inr rfl)
   simp [Aw h, A7F, Ty.E8, Ty.ag, Kj, ha, Hg, e1, hc, Ex.E8, Ex.ag, Tm.E8, AX]
  ·have : jF (e.kid i) (d.kid i) L w (M5 w (jk st e d i l' S)) = .error 4 := by
    rw [hT];simp [M5, Except.bind, ha, jF]
   rw [this];simp only [Bool.not_eq_true] at ha;have sf := GY h st es (R9 (e.kid i) (d.kid i) T L).2 m 0 4;refine K5.err (v := zTm.enc) (es := es) (L := (R9 (e.kid i) (d.kid i) T L).2) (m := m) ?_ (by omega) (by simp) hs hm
   simp [Aw h, A7F, Ty.E8, Ty.ag, Kj, ha, sf, tT h]
 ·have Gt := UN hr
  have : jF (e.kid i) (d.kid i) L w (M5 w (jk st e d i l' S)) = .error z := by
   rw [Gt];simp [M5, Except.bind, jF]
  rw [this];refine K5.err (v := zTm.enc) (es := es) (L := L1) (m := m) ?_ hz (by simp) hs hm
  simp [hn, Aw h, hz, tT h]
end
end Go.Su

/-
 What the program's judging does: names, applications, let, rec, the rest.
-/
namespace Go.Su
def eK (e : Ex) (d : C8) (T : JT) (i : Nat) (L : List S9) : Tm × List S9 := dD e d T i (R9 (e.kid i)) L
theorem NK {e : Ex} {d : C8} {T : JT} {i : Nat} {L : List S9} (hw : ((Q3 e d T).getD i F8).kind = 0) : eK e d T i L = R9 (e.kid i) (d.kid i) (T.kid i) L := by
 unfold eK dD;simp only [hw, if_true]
theorem EP {e : Ex} {d : C8} {T : JT} {i : Nat} {L : List S9} {w : Ty} (hw : (Q3 e d T).getD i F8 = w) (h0 : w.kind ≠ 0) : eK e d T i L = AX (e.kid i) (d.kid i) w (T.kid i) L := by
 unfold eK dD AX;simp only [hw, h0, if_false]
theorem B1S {e : Ex} (h : e.kids.length = 1) : e.kids = [e.kid 0] := by
 match hk : e.kids, h with
 | [a], _ => simp [Ex.kid, hk]
theorem A1N {e : Ex} (h : e.kids.length = 2) : e.kids = [e.kid 0, e.kid 1] := by
 match hk : e.kids, h with
 | [a, b], _ => simp [Ex.kid, hk]
theorem B1T {e : Ex} (h : e.kids.length = 3) : e.kids = [e.kid 0, e.kid 1, e.kid 2] := by
 match hk : e.kids, h with
 | [a, b, c], _ => simp [Ex.kid, hk]
theorem VU {e : Ex} (h : e.kids.length = 0) (d : C8) (T : JT) (L : List S9) : R9 e d T L = (Cg e d T [], L) := by
 rw [VT, List.eq_nil_of_length_eq_zero h];rfl
theorem A4V {e : Ex} (h : e.kids.length = 1) (d : C8) (T : JT) (L : List S9) : R9 e d T L = (Cg e d T [(eK e d T 0 L).1], (eK e d T 0 L).2) := by
 rw [VT, B1S h];rfl
theorem Na {e : Ex} (h : e.kids.length = 2) (d : C8) (T : JT) (L : List S9) : R9 e d T L = (Cg e d T [(eK e d T 0 L).1, (eK e d T 1 (eK e d T 0 L).2).1], (eK e d T 1 (eK e d T 0 L).2).2) := by
 rw [VT, A1N h];rfl
theorem B0G {e : Ex} (h : e.kids.length = 3) (d : C8) (T : JT) (L : List S9) : R9 e d T L = (Cg e d T [(eK e d T 0 L).1, (eK e d T 1 (eK e d T 0 L).2).1, (eK e d T 2 (eK e d T 1 (eK e d T 0 L).2).2).1], (eK e d T 2 (eK e d T 1 (eK e d T 0 L).2).2).2) := by
 rw [VT, B1T h];rfl
theorem bF {e : Ex} (h : e.kids.length = 2) : e.size = 1 + (e.kid 0).size + (e.kid 1).size := by
 rw [Ex.size_eq, A1N h];simp;omega
theorem B0c {e : Ex} (h : e.kids.length = 1) : e.size = 1 + (e.kid 0).size := by
 rw [Ex.size_eq, B1S h];simp
theorem B4M {e : Ex} (h : e.kids.length = 3) : e.size = 1 + (e.kid 0).size + (e.kid 1).size + (e.kid 2).size := by
 rw [Ex.size_eq, B1T h];simp;omega
theorem Dv {st : Bool} {e : Ex} {d : C8} {l : List Nm} {S : List Int} (ho : Cu st e d l S = 0) : jt st e d l S = Bi e (fun i l S => ((e.kids.map (jt st)).getD i fun _ _ _ => .error 4) (d.kid i) l S) d l S := B2x ho
@[simp] theorem A2C (a : Ty) (x : JT) (xs : List JT) : (JT.mk a (x :: xs)).kid 0 = x := rfl
@[simp] theorem A7m (a : Ty) (x y : JT) (xs : List JT) : (JT.mk a (x :: y :: xs)).kid 1 = y := rfl
@[simp] theorem B2w (a : Ty) (x y z : JT) (xs : List JT) : (JT.mk a (x :: y :: z :: xs)).kid 2 = z := rfl
theorem Ty.k0 {t : Ty} (h : t.right = true) : t.kind ≠ 0 := by have := Ty.A8z h; omega
theorem IR (e : Ex) (d : C8) (w : Ty) (T : JT) (L : List S9) : (AX e d w T L).2.length ≤ L.length + 2 * e.size := by
 have := dE e d T L;simp only [AX, bg, List.length_append, List.length_cons, List.length_nil];omega
theorem A0j (e : Ex) (d : C8) (T : JT) (L : List S9) : (R9 e d T L).2.length ≤ L.length + 2 * e.size := by have := dE e d T L; omega
theorem Ih (e : Ex) (d : C8) (L : List S9) (T : JT) : jW e d L (.ok T) = .ok (Y0 T.ty (R9 e d T L).1, (R9 e d T L).2) := rfl
theorem Q8 {α β : Type} (z : Int) (f : α → Except Int β) : (Except.error z : Except Int α).bind f = .error z := rfl
theorem O6 {α β : Type} (a : α) (f : α → Except Int β) : (Except.ok a : Except Int α).bind f = f a := rfl
@[simp] theorem B3z : E9 [] = .list 1 [] := rfl
theorem Ty.A9m {t : Ty} (h : t.right = true) (hk : t.kind = 5) : t = Bl := by
 obtain ⟨h1, h2, h3, h4, h5⟩ := Ty.Z6.1 h;cases t with
 | mk k n ks =>
   simp only [Ty.KQ] at hk;subst hk;simp [arity] at h1 h4;have : ks = [] := List.eq_nil_of_length_eq_zero (by omega)
   simp [Bl, this, h4]
section
variable {sg : List D7} {p mi : Nat} (h : JP sg p mi) {st : Bool} {e : Ex} {d : C8} {l : List Nm} (c : JC st e d l) (ih : ∀ k ∈ e.kids, bQ st k) {S : List Int} (ho : Cu st e d l S = 0)
 {es : List (DV × DV)} {L : List S9} {m : Meta} (hs : j6 es S) (hm : Roomy m) (hL : L.length + 2 * e.size ≤ 1048576)
include h c ih ho hs hm hL
theorem A5Z (hk : e.kind = 10) : K5 sg p mi st S 23 ((run cfg).r MS [(.undef, .ptr p 0), (e.enc, .val), (d.enc, .val), (F9 l, .val)] (Q7 sg p mi st es L m 0)) (jW e d L (jt st e d l S)) := by
 have own := Ex.V7 c.hr;have hn : e.kids.length = 2 := by have := own.kids; simp [K8, hk] at this; omega
 have h0 : 0 < e.kids.length := by omega
 have h1 : 1 < e.kids.length := by omega
 have m0 := Ex.O3 (c.BJ h0);have m1 := Ex.O3 (c.BJ h1);have Y4 := bF hn;have Z0 := c.len;have hj : jt st e d l S = (jk st e d 0 l S).bind fun a => (jk st e d 1 l S).bind fun b =>
  if a.ty.kind = 5 then if b.ty.agrees Bl = true then .ok (.mk Bl [a, b]) else .error 4
  else if a.ty.kind = 9 then if b.ty.agrees (a.ty.kids.getD 0 F8) = true then .ok (.mk (a.ty.kids.getD 1 F8) [a, b]) else .error 4
  else .error 4 := by
  rw [Dv ho, vF hk, U0 h0];simp only [U0 h1]
 have e1 : F3 16 (.list 16 (e.kids.map Ex.enc)) (.int .i64 0) = some (e.kid 0).enc := by rw [Ar h0]; exact F4 (e := Ex.enc) (sz := 16) (k := .i64) (i := 0) h0
 refine K5.map ?_ (Rt p e.enc d.enc (F9 l) _);rw [TD];simp only [Al, KN, O8, exx, Ex.E8, Ex.ag, C8.Dy, C8.LY, C8.Ij, C8.E8, C8.ag];refine K5.then (Dz h c ih h0 c.nl (by omega) hs hm (by omega)) (fun v es L1 m hr hs hm => ?_) (fun z v es L1 m hr hz hn hs hm => ?_)
 rotate_left
 ·rw [hj, UN hr, Q8]
  simp only [List.getD_cons_zero, hn, O8, Aw h, H6];simp [hz, XL];exact K5.err rfl hz rfl hs hm
 obtain ⟨T, hT, rfl, rfl⟩ := Yf hr;have GH : T.ty.right = true := Iw st _ (Ex.P5 c.hr (c.BJ h0)) _ _ _ T (C8.EE c.dr 0) (C8.FY c.ds 0) c.nl hT;have Ut := A0j (e.kid 0) (d.kid 0) T L;rw [hj, hT, O6];simp only [List.getD_cons_zero, A5l, O8, Aw h, H6, B4p, B4q, B4r, B4s, B4t, B4u, B4v, B4w, B4x, B4y, B2I, B2J, B2K, B2L, B2M, B2N, B2O, B2P, B2Q, B2R, B2S, B2T, B2U, A7F]
 by_cases k5 : T.ty.kind = 5
 ·have hdy := Ty.A9m GH k5
  have B5d := qH h st es (L := (R9 (e.kid 0) (d.kid 0) T L).2) (by have := dE (e.kid 0) (d.kid 0) T L; omega) hm 0 T.ty (R9 (e.kid 0) (d.kid 0) T L).1 (e.kid 0) (U9 Bl Bl)
  have A0m := bG Bl Bl;have JA : DV.agg [.int .i64 5, .int .i64 0, .list 3 []] = Bl.enc := by rw [Ty.I5]; rfl
  simp only [if_pos k5];simp [k5, e1, JA, A0m, B5d, Ex.E8, Ex.ag, Tm.E8, Ty.E8, Ty.ag];have vB : (bg (R9 (e.kid 0) (d.kid 0) T L).1 T.ty (U9 Bl Bl) (e.kid 0).lo (e.kid 0).hi (R9 (e.kid 0) (d.kid 0) T L).2).2.length ≤ L.length + 2 * (e.kid 0).size := IR (e.kid 0) (d.kid 0) (U9 Bl Bl) T L;refine K5.then (AA h c ih h1 c.nl (by omega) hs (.inr rfl) (by omega) A3F) (fun v es L2 m hr hs hm => ?_) (fun z v es L2 m hr hz hn hs hm => ?_)
  rotate_left
  ·have Gt := Ig hr
   have : ((jk st e d 1 l S).bind fun b => if b.ty.agrees Bl = true then (.ok (.mk Bl [T, b]) : JR) else .error 4) = .error z := by
    cases hx : jk st e d 1 l S with
    | error y => rw [hx] at Gt; exact Gt
    | ok b => rw [hx] at Gt; simp only [M5, O6] at Gt ⊢; split at Gt <;> rename_i Kj
              ·cases Gt
              ·simp only [Kj, if_false]; exact Gt
   rw [this];simp [hn];exact K5.err rfl hz rfl hs hm
  obtain ⟨T1, hT1, rfl, rfl⟩ := M_ hr;obtain ⟨hT1, Kj⟩ := ww hT1;rw [hT1, O6, if_pos Kj];have QL : (Q3 e d (.mk Bl [T, T1])).getD 0 F8 = U9 Bl Bl := by simp [Q3, hk, hdy, show Bl.kind = 5 from rfl]
  have Ww : (Q3 e d (.mk Bl [T, T1])).getD 1 F8 = Bl := by simp [Q3, hk, hdy, show Bl.kind = 5 from rfl]
  have hd0 : (U9 Bl Bl).kind ≠ 0 := by simp [U9]
  have hd1 : Bl.kind ≠ 0 := by simp [Bl]
  rw [Ih, Na hn, EP QL hd0, EP Ww hd1];simp [Tm.E8];refine K5.ok ?_ rfl hs hm;simp [Y0, Cg, hk, AX, Bl, N9, F8]
 simp only [if_neg k5]
 by_cases k9 : T.ty.kind = 9
 ·have Dt : T.ty.kids.length = 2 := by
   have := (Ty.Z6.1 GH).1;simp [arity, k9] at this;omega
  have zg : 0 < T.ty.kids.length := by omega
  have hk1 : 1 < T.ty.kids.length := by omega
  have g0 : T.ty.kids.getD 0 F8 = T.ty.kids[0] := by rw [List.getD_eq_getElem?_getD, List.getElem?_eq_getElem zg]; rfl
  have g1 : T.ty.kids.getD 1 F8 = T.ty.kids[1] := by rw [List.getD_eq_getElem?_getD, List.getElem?_eq_getElem hk1]; rfl
  have i0 : F3 3 (.list 3 (T.ty.kids.map Ty.enc)) (.int .i64 0) = some (T.ty.kids.getD 0 F8).enc := by rw [g0]; exact F4 (e := Ty.enc) (sz := 3) (k := .i64) (i := 0) zg
  have i1 : F3 3 (.list 3 (T.ty.kids.map Ty.enc)) (.int .i64 1) = some (T.ty.kids.getD 1 F8).enc := by rw [g1]; exact F4 (e := Ty.enc) (sz := 3) (k := .i64) (i := 1) hk1
  have r0 : (T.ty.kids.getD 0 F8).right = true := by rw [g0]; exact (Ty.Z6.1 GH).2.2.2.2 _ (List.getElem_mem zg)
  simp only [if_pos k9];generalize hA : T.ty.kids.getD 0 F8 = A at i0 r0 ⊢;generalize hB : T.ty.kids.getD 1 F8 = B at i1 ⊢;simp [k9, i0, i1, Ty.E8, Ty.ag];refine K5.then (AA h c ih h1 c.nl (by omega) hs hm (by omega) r0) (fun v es L2 m hr hs hm => ?_) (fun z v es L2 m hr hz hn hs hm => ?_)
  rotate_left
  ·have Gt := Ig hr
   have : ((jk st e d 1 l S).bind fun b => if b.ty.agrees A = true then (.ok (.mk B [T, b]) : JR) else .error 4) = .error z := by
    cases hx : jk st e d 1 l S with
    | error y => rw [hx] at Gt; exact Gt
    | ok b => rw [hx] at Gt; simp only [M5, O6] at Gt ⊢; split at Gt <;> rename_i Kj
              ·cases Gt
              ·simp only [Kj, if_false]; exact Gt
   rw [this];simp [hn];exact K5.err rfl hz rfl hs hm
  obtain ⟨T1, hT1, rfl, rfl⟩ := M_ hr;obtain ⟨hT1, Kj⟩ := ww hT1;rw [hT1, O6, if_pos Kj];have QL : ((Q3 e d (.mk B [T, T1])).getD 0 F8).kind = 0 := by simp [Q3, hk, k9]; rfl
  have Ww : (Q3 e d (.mk B [T, T1])).getD 1 F8 = A := by rw [← hA]; simp [Q3, hk, k9]
  rw [Ih, Na hn, NK QL, EP Ww (Ty.k0 r0)];simp [Tm.E8];refine K5.ok ?_ rfl hs hm;simp [Y0, Cg, hk, N9, F8]
 ·simp only [if_neg k9]
  simp [k5, k9];refine K5.then (Dz h c ih h1 c.nl (by omega) hs hm (by omega)) (fun v es L2 m hr hs hm => ?_) (fun z v es L2 m hr hz hn hs hm => ?_)
  rotate_left
  ·rw [UN hr, Q8]
   have sf := GY h st es L2 m z 4;rw [if_neg hz] at sf;simp [sf, XL];exact K5.err rfl hz rfl hs hm
  ·obtain ⟨T1, hT1, rfl, rfl⟩ := Yf hr
   rw [hT1, O6];have sf := GY h st es (R9 (e.kid 1) (d.kid 1) T1 (R9 (e.kid 0) (d.kid 0) T L).2).2 m 0 4;rw [if_pos rfl] at sf;simp [sf, XL];exact K5.err rfl (by omega) rfl hs hm
omit hs hm hL in
theorem B36 (hk : e.kind = 11) {a : JT} {x : Tm} (ha : Au (l ++ [⟨e.name, K4 e.a a.ty, d.vars⟩])) {L1 : List S9} {L0 : List S9}
 (Ut : L1.length ≤ L0.length + 2 * (e.kid 0).size) (hL0 : L0.length + 2 * e.size ≤ 1048576)
 (hx : ∀ b, R9 e d (.mk b.ty [a, b]) L0 = (.mk 11 0 0 e.name N9 0 N9 0 0 false d.vars F8 F8 [] [] [x, (R9 (e.kid 1) (d.kid 1) b L1).1], (R9 (e.kid 1) (d.kid 1) b L1).2)) {es : List (DV × DV)} {m : Meta} (hs : j6 es S) (hm : Roomy m) (z0 z1 z2 z3 z4 z5 z6 z7 z8 z9 z10 z11 z12 z13 z14 z15 XK z17 z18 z19 z20 z21 z22 : DV) :
 K5 sg p mi st S 23 (FF (run cfg) p (F9 l) e.enc d.enc z0 z1 z2 z3 z4 z5 z6 z7 z8 z9 z10 z11 z12 z13 z14 z15 XK z17 z18 z19 z20 z21 z22 (.str e.name) (.int .i64 (K4 e.a a.ty).kind) (.int .i64 (K4 e.a a.ty).n) (.list 3 ((K4 e.a a.ty).kids.map Ty.enc)) (E9 d.vars) (.int .i64 x.kind) (.int .i64 x.lo) (.int .i64 x.hi) (.str x.name) (.str x.arg) (.int .i64 x.n) (.str x.s) (.int .i64 x.op) (.int .i64 x.label) (.bool x.neg) (E9 x.vars) (.int .i64 x.a.kind) (.int .i64 x.a.n) (.list 3 (x.a.kids.map Ty.enc)) (.int .i64 x.b.kind) (.int .i64 x.b.n) (.list 3 (x.b.kids.map Ty.enc)) (.list 3 (x.args.map Ty.enc)) (.list 7 (x.F7.map C9.enc)) (.list 20 (x.kids.map Tm.enc)) (Q7 sg p mi st es L1 m 0))
  (jW e d L0 ((jk st e d 1 (l ++ [⟨e.name, K4 e.a a.ty, d.vars⟩]) S).bind fun b => .ok (.mk b.ty [a, b]))) := by
 have _ := ho;have own := Ex.V7 c.hr;have hn : e.kids.length = 2 := by have := own.kids; simp [K8, hk] at this; omega
 have h1 : 1 < e.kids.length := by omega
 have m1 := Ex.O3 (c.BJ h1);have Y4 := bF hn;have Z0 := c.len;have hwi := KZ l [⟨e.name, K4 e.a a.ty, d.vars⟩] (Q7 sg p mi st es L1 m 0) (by simp; omega)
 have vC : DV.agg [.str e.name, .int .i64 (K4 e.a a.ty).kind, .int .i64 (K4 e.a a.ty).n, .list 3 ((K4 e.a a.ty).kids.map Ty.enc), E9 d.vars] = (Nm.mk e.name (K4 e.a a.ty) d.vars).enc := rfl;rw [Ej];simp only [List.map_cons, List.map_nil] at hwi;rw [vC];simp [hwi, Ex.E8, Ex.ag, C8.E8, C8.ag];refine K5.then (Dz h c ih h1 ha (by simp; omega) hs hm (by omega)) (fun v es L2 m hr hs hm => ?_) (fun z v es L2 m hr hz hn hs hm => ?_)
 rotate_left
 ·rw [UN hr, Q8]
  simp [hn];exact K5.err rfl hz rfl hs hm
 obtain ⟨b, hb, rfl, rfl⟩ := Yf hr;rw [hb, O6];rw [Ih, hx b];simp [Tm.E8];refine K5.ok ?_ rfl hs hm;simp [Y0, N9, F8]
theorem A50 (hk : e.kind = 11) : K5 sg p mi st S 23 ((run cfg).r MU [(.undef, .ptr p 0), (e.enc, .val), (d.enc, .val), (F9 l, .val)] (Q7 sg p mi st es L m 0)) (jW e d L (jt st e d l S)) := by
 have own := Ex.V7 c.hr;have hn : e.kids.length = 2 := by have := own.kids; simp [K8, hk] at this; omega
 have h0 : 0 < e.kids.length := by omega
 have h1 : 1 < e.kids.length := by omega
 have m0 := Ex.O3 (c.BJ h0);have m1 := Ex.O3 (c.BJ h1);have Y4 := bF hn;have Z0 := c.len;obtain ⟨o1, o2, o3, o4⟩ := CQ ho;have hj : jt st e d l S = (if e.a.kind = 0 then jk st e d 0 l (d.vars ++ S) else M5 e.a (jk st e d 0 l S)).bind fun a =>
  (jk st e d 1 (l ++ [⟨e.name, K4 e.a a.ty, d.vars⟩]) S).bind fun b => .ok (.mk b.ty [a, b]) := by
  rw [Dv ho, vI hk, U0 h0, U0 h0];simp only [U0 h1]
 refine K5.map ?_ (Ru p e.enc d.enc (F9 l) _);rw [TE, hj];have A5s : ∀ a : JT, a.ty.right = true → Au (l ++ [⟨e.name, K4 e.a a.ty, d.vars⟩]) := fun a ha => c.nl.app fun x hx => by
  simp only [List.mem_singleton] at hx;subst hx;exact ⟨GG own.a fun _ => ha, by have := c.ds.vars; simpa using this, fun v hv => (C8.Eo.1 c.dr).2.1 v hv⟩
 by_cases ha : e.a.kind = 0
 ·obtain ⟨es1, q1, c1⟩ := DR h st L m 0 1 (.inl rfl) d.vars c.ds.vars es _ hs (fun v => by split <;> omega)
  have CL := A0D o4 c1;rw [if_pos ha];simp [Ex.E8, Ex.ag, C8.E8, C8.ag];simp [ha, q1];refine K5.then (Dz (L := L) h c ih h0 c.nl (by omega) CL hm (by omega)) (fun v es L1 m hr hs hm => ?_) (fun z v es L1 m hr hz hn hs hm => ?_)
  ·obtain ⟨a, hA, rfl, rfl⟩ := Yf hr
   have GH : a.ty.right = true := Iw st _ (Ex.P5 c.hr (c.BJ h0)) _ _ _ a (C8.EE c.dr 0) (C8.FY c.ds 0) c.nl hA;obtain ⟨es2, q2, c2⟩ := DR h st (R9 (e.kid 0) (d.kid 0) a L).2 m 0 (-1) (.inr rfl) d.vars c.ds.vars es _ hs (fun v => by split <;> omega)
   have p_ := XH o4 c2;rw [hA, O6];have hg : K4 e.a a.ty = a.ty := by simp [K4, ha]
   have := B36 h c ih ho hk (a := a) (x := (R9 (e.kid 0) (d.kid 0) a L).1) (L1 := (R9 (e.kid 0) (d.kid 0) a L).2) (A5s a GH) (A0j _ _ _ _) hL (fun b => by
    have QL : ((Q3 e d (.mk b.ty [a, b])).getD 0 F8).kind = 0 := by simp [Q3, hk, ha]
    have Ww : ((Q3 e d (.mk b.ty [a, b])).getD 1 F8).kind = 0 := by simp [Q3, hk]; rfl
    rw [Na hn, NK QL, NK Ww];simp [Cg, hk]) p_ hm (.int .i64 0) (.int .i64 0) (.list 3 []) (.int .i64 0) (.int .i64 0) (.int .i64 0) (.str ⟨#[]⟩) (.str ⟨#[]⟩) (.int .i64 0) (.str ⟨#[]⟩) (.int .i64 0) (.int .i64 0) (.bool false) (.list 1 []) (.int .i64 0) (.int .i64 0) (.list 3 []) (.int .i64 0) (.int .i64 0) (.list 3 []) (.list 3 []) (.list 7 []) (.list 20 [])
   simp [q2];rw [hg] at this ⊢;exact this
  ·obtain ⟨es2, q2, c2⟩ := DR h st L1 m z (-1) (.inr rfl) d.vars c.ds.vars es _ hs (fun v => by split <;> omega)
   have p_ := XH o4 c2;rw [UN hr, Q8];have wx : ∀ ds : List DV, ∃ x, (run cfg).r Br [(F9 l, .val), (.list 5 [.agg ds], .val)] (Q7 sg p mi st es2 L1 m z) = some ([x], Q7 sg p mi st es2 L1 m z) := fun ds => ⟨_, Qs (l.map Nm.enc) [.agg ds] _ (by simp; omega)⟩
   simp [hn, q2, Ej];obtain ⟨x, hx⟩ := wx [.str e.name, A7 0 v, A7 1 v, A7 2 v, E9 d.vars];simp [hx, Ex.E8, Ex.ag, C8.E8, C8.ag, Gv h st es2 L1 m hz];exact K5.err rfl hz rfl p_ hm
 ·have hdv : d.vars = [] := by
   rcases o3 with o3 | o3
   ·exact o3
   ·simp [Af, hk, ha] at o3
  have har : e.a.right = true := by
   rcases own.a with h' | h'
   ·exact absurd (Ty.GM h') ha
   ·exact h'
  rw [if_neg ha];have Kj : ∀ t : Ty, K4 e.a t = e.a := fun t => by simp [K4, ha]
  simp [Ex.E8, Ex.ag, C8.E8, C8.ag];simp [ha, Ty.E8, Ty.ag];refine K5.then (AA (L := L) h c ih h0 c.nl (by omega) hs hm (by omega) har) (fun v es L1 m hr hs hm => ?_) (fun z v es L1 m hr hz hn hs hm => ?_)
  ·obtain ⟨a, hA, rfl, rfl⟩ := M_ hr
   have GH : a.ty.right = true := Iw st _ (Ex.P5 c.hr (c.BJ h0)) _ _ _ a (C8.EE c.dr 0) (C8.FY c.ds 0) c.nl (ww hA).1;rw [hA, O6];have := B36 h c ih ho hk (a := a) (x := (AX (e.kid 0) (d.kid 0) e.a a L).1) (L1 := (AX (e.kid 0) (d.kid 0) e.a a L).2) (A5s a GH) (IR _ _ _ _ _) hL (fun b => by
    have QL : (Q3 e d (.mk b.ty [a, b])).getD 0 F8 = e.a := by simp [Q3, hk]
    have Ww : ((Q3 e d (.mk b.ty [a, b])).getD 1 F8).kind = 0 := by simp [Q3, hk]; rfl
    rw [Na hn, EP QL ha, NK Ww];simp [Cg, hk]) hs hm (.int .i64 0) (.int .i64 0) (.list 3 []) (.int .i64 0) (.int .i64 0) (.int .i64 0) (.str ⟨#[]⟩) (.str ⟨#[]⟩) (.int .i64 0) (.str ⟨#[]⟩) (.int .i64 0) (.int .i64 0) (.bool false) (.list 1 []) (.int .i64 0) (.int .i64 0) (.list 3 []) (.int .i64 0) (.int .i64 0) (.list 3 []) (.list 3 []) (.list 7 []) (.list 20 [])
   rw [Kj, hdv] at this ⊢;simp;exact this
  ·rw [Ig hr, Q8]
   have wx : ∀ ds : List DV, ∃ x, (run cfg).r Br [(F9 l, .val), (.list 5 [.agg ds], .val)] (Q7 sg p mi st es L1 m z) = some ([x], Q7 sg p mi st es L1 m z) := fun ds => ⟨_, Qs (l.map Nm.enc) [.agg ds] _ (by simp; omega)⟩
   simp [hn, Ej];obtain ⟨x, hx⟩ := wx [.str e.name, .int .i64 e.a.kind, .int .i64 e.a.n, .list 3 (e.a.kids.map Ty.enc), .list 1 []];simp [hx, Ex.E8, Ex.ag, C8.E8, C8.ag, Gv h st es L1 m hz];exact K5.err rfl hz rfl hs hm
end
end Go.Su

/-
 What the program's judging does: rec, conditions, operations, names.
-/
namespace Go.Su
theorem A4N (ts : List Ty) (h : 0 < ts.length) : Dh 3 (.list 3 (ts.map Ty.enc)) (some (.int .i64 1)) none = some (.list 3 ((ts.drop 1).map Ty.enc)) := by
 cases ts with
 | nil => simp at h
 | cons x l =>
   simp [Dh, bnd];rw [List.take_of_length_le (by simp)]
section
variable {sg : List D7} {p mi : Nat} (h : JP sg p mi) {st : Bool} {e : Ex} {d : C8} {l : List Nm} (c : JC st e d l) (ih : ∀ k ∈ e.kids, bQ st k) {S : List Int} (ho : Cu st e d l S = 0)
 {es : List (DV × DV)} {L : List S9} {m : Meta} (hs : j6 es S) (hm : Roomy m) (hL : L.length + 2 * e.size ≤ 1048576)
include h c ih ho hs hm hL
theorem A51 (hk : e.kind = 12) : K5 sg p mi st S 23 ((run cfg).r MV [(.undef, .ptr p 0), (e.enc, .val), (d.enc, .val), (F9 l, .val)] (Q7 sg p mi st es L m 0)) (jW e d L (jt st e d l S)) := by
 have own := Ex.V7 c.hr;have hn : e.kids.length = 2 := by have := own.kids; simp [K8, hk] at this; omega
 have h0 : 0 < e.kids.length := by omega
 have h1 : 1 < e.kids.length := by omega
 have m0 := Ex.O3 (c.BJ h0);have m1 := Ex.O3 (c.BJ h1);have Y4 := bF hn;have Z0 := c.len;have km := Ex.Dw (e.kid 0);have km1 := Ex.Dw (e.kid 1);have zi : (e.kid 0).J3 + (e.kid 1).J3 < e.J3 := by
  rw [Ex.U2 e, A1N hn];simp;omega
 obtain ⟨o1, o2, o3, o4⟩ := CQ ho;have hP := lZ own hk c.dr o1;have hR := lh own hk c.dr o1;have hF := Ym hP hR;have hj : jt st e d l S = (M5 (Q9 e d) (jk st e d 0 (l ++ [⟨e.name, U9 (U4 e d) (Q9 e d), []⟩, ⟨e.arg, U4 e d, []⟩]) (d.vars ++ S))).bind fun a =>
  (jk st e d 1 (l ++ [⟨e.name, U9 (U4 e d) (Q9 e d), d.vars⟩]) S).bind fun b => .ok (.mk b.ty [a, b]) := by
  rw [Dv ho, vK hk, U0 h0];simp only [U0 h1]
 have nm1 : Au (l ++ [⟨e.name, U9 (U4 e d) (Q9 e d), []⟩, ⟨e.arg, U4 e d, []⟩]) := c.nl.app fun x hx => by
  simp only [List.mem_cons, List.not_mem_nil, or_false] at hx;rcases hx with rfl | rfl
  ·exact ⟨hF, by simp, by simp⟩
  ·exact ⟨hP, by simp, by simp⟩
 have nm2 : Au (l ++ [⟨e.name, U9 (U4 e d) (Q9 e d), d.vars⟩]) := c.nl.app fun x hx => by
  simp only [List.mem_singleton] at hx;subst hx;exact ⟨hF, c.ds.vars, (C8.Eo.1 c.dr).2.1⟩
 have Np := Ud e.a d.types fun h0 => by rw [o1]; simp [M8, hk, h0]; omega
 have hPe : K4 e.a (d.types.getD 0 F8) = U4 e d := rfl;rw [hPe] at Np;obtain ⟨wK, A8f, hR2⟩ : ∃ ts : List Ty, (if e.a.kind = 0 then Dh 3 (.list 3 (d.types.map Ty.enc)) (some (.int .i64 1)) none else some (.list 3 (d.types.map Ty.enc))) = some (.list 3 (ts.map Ty.enc)) ∧ (run cfg).p L_ [e.b.enc, .list 3 (ts.map Ty.enc)] = some (Q9 e d).enc := by
  by_cases ha : e.a.kind = 0
  ·have h1 : 0 < d.types.length := by rw [o1]; simp [M8, hk, ha]; omega
   refine ⟨d.types.drop 1, by rw [if_pos ha]; exact A4N _ h1, ?_⟩
   have := Ud e.b (d.types.drop 1) fun h0 => by rw [List.length_drop, o1]; simp [M8, hk, ha, h0]
   rw [this];have : K4 e.b ((d.types.drop 1).getD 0 F8) = Q9 e d := by
    unfold Q9;rw [if_pos ha];simp [C8.t1]
   rw [this]
  ·refine ⟨d.types, by rw [if_neg ha], ?_⟩
   have := Ud e.b d.types fun h0 => by rw [o1]; simp [M8, hk, ha, h0]
   rw [this];have : K4 e.b (d.types.getD 0 F8) = Q9 e d := by
    unfold Q9;rw [if_neg ha];rfl
   rw [this]
 have e5 : MW (run cfg) p e.enc d.enc (F9 l) (Q7 sg p mi st es L m 0) = FH (run cfg) p (F9 l) (.list 3 (wK.map Ty.enc)) e.enc d.enc (U4 e d).enc (Q7 sg p mi st es L m 0) := by
  rw [TF];simp [Ex.E8, Ex.ag, C8.E8, C8.ag, Ty.E8, Ty.ag];rw [Np]
  by_cases ha : e.a.kind = 0
  ·rw [if_pos ha] at A8f
   simp [ha, A8f]
  ·rw [if_neg ha] at A8f
   have h' : DV.list 3 (d.types.map Ty.enc) = .list 3 (wK.map Ty.enc) := Option.some.inj A8f;rw [← h'];simp [ha]
 refine K5.map ?_ ((Rv p e.enc d.enc (F9 l) _).trans e5);rw [QB, hj];obtain ⟨es1, q1, c1⟩ := DR h st L m 0 1 (.inl rfl) d.vars c.ds.vars es _ hs (fun v => by split <;> omega)
 have CL := A0D o4 c1;have A0m := bG (U4 e d) (Q9 e d);have hw := KZ l [⟨e.name, U9 (U4 e d) (Q9 e d), []⟩, ⟨e.arg, U4 e d, []⟩] (Q7 sg p mi st es1 L m 0) (by simp; omega)
 simp only [List.map_cons, List.map_nil] at hw;have n1 : DV.agg [.str e.name, .int .i64 (U9 (U4 e d) (Q9 e d)).kind, .int .i64 (U9 (U4 e d) (Q9 e d)).n, .list 3 ((U9 (U4 e d) (Q9 e d)).kids.map Ty.enc), .list 1 []] = (Nm.mk e.name (U9 (U4 e d) (Q9 e d)) []).enc := rfl;have n2 : DV.agg [.str e.arg, .int .i64 (U4 e d).kind, .int .i64 (U4 e d).n, .list 3 ((U4 e d).kids.map Ty.enc), .list 1 []] = (Nm.mk e.arg (U4 e d) []).enc := rfl;simp [Ex.E8, Ex.ag, C8.E8, C8.ag, Ty.E8, Ty.ag, hR2, A0m, q1, n1, n2, hw];refine K5.then (AA (L := L) h c ih h0 nm1 (by simp; omega) CL hm (by omega) hR) (fun v es L1 m hr hs hm => ?_) (fun z v es L1 m hr hz hn hs hm => ?_)
 rotate_left
 ·obtain ⟨es2, q2, c2⟩ := DR h st L1 m z (-1) (.inr rfl) d.vars c.ds.vars es _ hs (fun v => by split <;> omega)
  have p_ := XH o4 c2;rw [Ig hr, Q8];obtain ⟨x, hx⟩ : ∃ x, (run cfg).r Br [(F9 l, .val), (.list 5 [.agg [.str e.name, .int .i64 (U9 (U4 e d) (Q9 e d)).kind, .int .i64 (U9 (U4 e d) (Q9 e d)).n, .list 3 ((U9 (U4 e d) (Q9 e d)).kids.map Ty.enc), E9 d.vars]], .val)] (Q7 sg p mi st es2 L1 m z) = some ([x], Q7 sg p mi st es2 L1 m z) := ⟨_, Qs (l.map Nm.enc) [.agg _] _ (by simp; omega)⟩
  simp [hn, q2, hx, Gv h st es2 L1 m hz];exact K5.err rfl hz rfl p_ hm
 obtain ⟨a, hA, rfl, rfl⟩ := M_ hr;have Ut := IR (e.kid 0) (d.kid 0) (Q9 e d) a L;obtain ⟨es2, q2, c2⟩ := DR h st (AX (e.kid 0) (d.kid 0) (Q9 e d) a L).2 m 0 (-1) (.inr rfl) d.vars c.ds.vars es _ hs (fun v => by split <;> omega)
 have p_ := XH o4 c2;have hw2 := KZ l [⟨e.name, U9 (U4 e d) (Q9 e d), d.vars⟩] (Q7 sg p mi st es2 (AX (e.kid 0) (d.kid 0) (Q9 e d) a L).2 m 0) (by simp; omega)
 simp only [List.map_cons, List.map_nil] at hw2;have n3 : DV.agg [.str e.name, .int .i64 (U9 (U4 e d) (Q9 e d)).kind, .int .i64 (U9 (U4 e d) (Q9 e d)).n, .list 3 ((U9 (U4 e d) (Q9 e d)).kids.map Ty.enc), E9 d.vars] = (Nm.mk e.name (U9 (U4 e d) (Q9 e d)) d.vars).enc := rfl;rw [hA, O6];simp [q2, n3, hw2];refine K5.then (Dz (L := (AX (e.kid 0) (d.kid 0) (Q9 e d) a L).2) h c ih h1 nm2 (by simp; omega) p_ hm (by omega)) (fun v es L1 m hr hs hm => ?_) (fun z v es L1 m hr hz hn hs hm => ?_)
 rotate_left
 ·rw [UN hr, Q8]
  simp [hn];exact K5.err rfl hz rfl hs hm
 obtain ⟨b, hb, rfl, rfl⟩ := Yf hr;have QL : (Q3 e d (.mk b.ty [a, b])).getD 0 F8 = Q9 e d := by simp [Q3, hk]
 have Ww : ((Q3 e d (.mk b.ty [a, b])).getD 1 F8).kind = 0 := by simp [Q3, hk]; rfl
 rw [hb, O6, Ih, Na hn, EP QL (Ty.k0 hR), NK Ww];simp [Tm.E8];refine K5.ok ?_ rfl hs hm;simp [Y0, Cg, hk, N9, F8]
theorem A1U (hk : e.kind = 16) (z0 z1 z2 z3 z4 z5 z6 z7 z8 z9 z10 z11 z12 z13 z14 z15 XK z17 z18 z19 z20 z21 z22 : DV) {lo hi : Ty} (Rz : Nq e = lo) (uu : Oo e = hi) (hlo : lo.right = true) :
 K5 sg p mi st S 23 (BG (run cfg) p (F9 l) e.enc d.enc z0 z1 z2 z3 z4 z5 z6 z7 z8 z9 z10 z11 z12 z13 z14 z15 XK z17 z18 z19 z20 z21 z22 (.int .i64 lo.kind) (.int .i64 lo.n) (.list 3 (lo.kids.map Ty.enc)) (.int .i64 hi.kind) (.int .i64 hi.n) (.list 3 (hi.kids.map Ty.enc)) (Q7 sg p mi st es L m 0)) (jW e d L (jt st e d l S)) := by
 have own := Ex.V7 c.hr;have hn : e.kids.length = 2 := by have := own.kids; simp [K8, hk] at this; omega
 have h0 : 0 < e.kids.length := by omega
 have h1 : 1 < e.kids.length := by omega
 have m0 := Ex.O3 (c.BJ h0);have m1 := Ex.O3 (c.BJ h1);have Y4 := bF hn;have Z0 := c.len;have hj : jt st e d l S = (M5 lo (jk st e d 0 l S)).bind fun a => (M5 lo (jk st e d 1 l S)).bind fun b => .ok (.mk hi [a, b]) := by
  rw [Dv ho, A0u hk, U0 h0, Rz, uu];simp only [U0 h1]
 rw [NS, hj];simp [Ex.E8, Ex.ag, C8.E8, C8.ag, Ty.E8, Ty.ag];refine K5.then (AA (L := L) h c ih h0 c.nl (by omega) hs hm (by omega) hlo) (fun v es L1 m hr hs hm => ?_) (fun z v es L1 m hr hz hn hs hm => ?_)
 rotate_left
 ·rw [Ig hr, Q8]
  simp [hn];have := Pe h st es L1 m hz e d 1 (F9 l) lo;simp [this];exact K5.err rfl hz rfl hs hm
 obtain ⟨a, hA, rfl, rfl⟩ := M_ hr;have Ut := IR (e.kid 0) (d.kid 0) lo a L;rw [hA, O6];simp;refine K5.then (AA (L := (AX (e.kid 0) (d.kid 0) lo a L).2) h c ih h1 c.nl (by omega) hs hm (by omega) hlo) (fun v es L1 m hr hs hm => ?_) (fun z v es L1 m hr hz hn hs hm => ?_)
 rotate_left
 ·rw [Ig hr, Q8]
  simp [hn];exact K5.err rfl hz rfl hs hm
 obtain ⟨b, hb, rfl, rfl⟩ := M_ hr;have QL : (Q3 e d (.mk hi [a, b])).getD 0 F8 = lo := by simp [Q3, hk, Rz]
 have Ww : (Q3 e d (.mk hi [a, b])).getD 1 F8 = lo := by simp [Q3, hk, Rz]
 rw [hb, O6, Ih, Na hn, EP QL (Ty.k0 hlo), EP Ww (Ty.k0 hlo)];simp [Tm.E8];refine K5.ok ?_ rfl hs hm;simp [Y0, Cg, hk, N9, F8]
omit ih hL in
theorem A38 (hk : e.kind = 1) {x : Nm} (hx : Av l e.name = some x) : K5 sg p mi st S 23 ((run cfg).r Ko [(.undef, .ptr p 0), (e.enc, .val), (d.enc, .val), (x.enc, .val)] (Q7 sg p mi st es L m 0)) (jW e d L (jt st e d l S)) := by
 have _ := h;have own := Ex.V7 c.hr;have hn : e.kids.length = 0 := by have := own.kids; simp [K8, hk] at this; simp [this]
 obtain ⟨o1, o2, o3, o4⟩ := CQ ho;have hj : jt st e d l S = .ok (.mk (x.ty.put (x.vars.zip d.types)) []) := by
  rw [Dv ho, lQ hk, hx]
 have dX : M8 e l = x.vars.length := by simp [M8, hk, hx]
 obtain ⟨x1, x2, x3⟩ := c.nl x (vN hx);have hbx := big x2;have hdr := (C8.Eo.1 c.dr).1;refine K5.map ?_ (QH p e.enc d.enc x.enc _);rw [Ro, hj, Ih, VU hn];simp only [Al, KN, A9z, O8]
 by_cases h0 : x.vars.length = 0
 ·have ji : x.vars = [] := List.eq_nil_of_length_eq_zero h0
  have hg : ¬ ((0 : Int) < (x.vars.length : Int)) := by omega
  rw [ji, List.zip_nil_left, Ty.B2V];simp [hg, ji];refine K5.ok ?_ rfl hs hm;simp [Y0, Cg, hk, N9, F8]
 ·have hg : (0 : Int) < (x.vars.length : Int) := by omega
  have hv : x.vars.length = d.types.length := by omega
  have lp := GL (l := x.vars) (P := fun k (a : List (Int × Ty)) => BH (run cfg) (Ae a) (E9 x.vars) (.int .i64 x.vars.length) (.int .i64 k) e.enc d.enc (.int .i64 x.ty.kind) (.int .i64 x.ty.n) (.list 3 (x.ty.kids.map Ty.enc)) (Q7 sg p mi st es L m 0))
   (g := fun a v => a ++ [(v, d.types.getD a.length F8)]) (fin := fun a => BH (run cfg) (Ae a) (E9 x.vars) (.int .i64 x.vars.length) (.int .i64 x.vars.length) e.enc d.enc (.int .i64 x.ty.kind) (.int .i64 x.ty.n) (.list 3 (x.ty.kids.map Ty.enc)) (Q7 sg p mi st es L m 0))
   (I := fun k a => a = (x.vars.take k).zip (d.types.take k)) (fun a _ => rfl)
   (fun k h' a ha => by
     have Dr : k < d.types.length := by omega
     have hal : a.length = k := by rw [ha]; simp; omega
     have hga : d.types.getD a.length F8 = d.types[k] := by rw [hal, List.getD_eq_getElem?_getD, List.getElem?_eq_getElem Dr]; rfl
     refine ⟨?_, by rw [A3Q _ _ _ h' Dr, hga, ← ha]⟩
     rw [hga, Gh];have UI := Ac (e := NL) (sz := 4) (l := a) (x := (x.vars[k], d.types[k])) (by omega)
     have lH : R6 4 (Ae a) (.list 4 [.agg [.int .i64 x.vars[k], .int .i64 d.types[k].kind, .int .i64 d.types[k].n, .list 3 (d.types[k].kids.map Ty.enc)]]) = some (Ae (a ++ [(x.vars[k], d.types[k])])) := UI;simp [h', U3 h', F4 Dr, lH, K6 (show k < 9223372036854775807 by omega)]) [] rfl
  have A1J : ∀ (vs : List Int) (a : List (Int × Ty)) (k : Nat), a.length = k → k + vs.length = d.types.length → vs.foldl (fun a v => a ++ [(v, d.types.getD a.length F8)]) a = a ++ vs.zip (d.types.drop k) := by
   intro vs
   induction vs with
   | nil => intro a k _ _; simp
   | cons v vs ihv =>
     intro a k hak Dt;have Dr : k < d.types.length := by simp at Dt; omega
     rw [List.foldl_cons, ihv _ (k + 1) (by simp [hak]) (by simp at Dt; omega), List.drop_eq_getElem_cons Dr]
     simp only [hak, List.getD_eq_getElem?_getD, List.getElem?_eq_getElem Dr, Option.getD_some, List.zip_cons_cons, List.append_assoc, List.singleton_append]
  rw [A1J _ [] 0 rfl (by simpa using hv)] at lp
  simp only [List.nil_append, List.drop_zero] at lp;have Gs : LZ (x.vars.zip d.types) = true := by
   rw [kC];intro b hb;have h1 := x3 _ (List.of_mem_zip hb).1;exact ⟨h1.1, h1.2, hdr _ (List.of_mem_zip hb).2⟩
  have BI := A2g x.ty (x.vars.zip d.types) (Ty.Z5 x1) (by simp; omega) (fun b hb => Ty.Z5 (hdr _ (List.of_mem_zip hb).2))
  simp only [x1, Gs, and_self, if_true] at BI;have lp' : BH (run cfg) (.list 4 []) (E9 x.vars) (.int .i64 x.vars.length) (.int .i64 0) e.enc d.enc (.int .i64 x.ty.kind) (.int .i64 x.ty.n) (.list 3 (x.ty.kids.map Ty.enc)) (Q7 sg p mi st es L m 0) = some ([Y0 (x.ty.put (x.vars.zip d.types)) (Cg e d (.mk (x.ty.put (x.vars.zip d.types)) []) [])], Q7 sg p mi st es L m 0) := by
   refine lp.trans ?_;rw [Gh];simp [Ty.E8, Ty.ag, BI];simp [Y0, Cg, hk, N9, F8]
  have hgn : 0 < x.vars.length := by omega
  simp [hgn, lp'];exact K5.ok rfl rfl hs hm
end
end Go.Su

/-
 What the program's judging does: match; all kinds.
-/
namespace Go.Su
def WF (e : Ex) (d : C8) : Nat → List JT → List S9 → List Tm × List S9
 | _, [], L => ([], L)
 | i, a :: aa, L => ((AX (e.kid i) (d.kid i) d.t1 a L).1 :: (WF e d (i + 1) aa (AX (e.kid i) (d.kid i) d.t1 a L).2).1, (WF e d (i + 1) aa (AX (e.kid i) (d.kid i) d.t1 a L).2).2)
def fK (st : Bool) (e : Ex) (d : C8) : Nat → List Nm → List Int → JR := fun i l S => ((e.kids.map (jt st)).getD i fun _ _ _ => .error 4) (d.kid i) l S
theorem A9q {st : Bool} {e : Ex} {i : Nat} (h : i < e.kids.length) (d : C8) (l : List Nm) (S : List Int) : fK st e d i l S = jk st e d i l S := U0 h d l S
def A8s (e : Ex) (ks : List Tm) : Tm := .mk 14 e.lo e.hi N9 N9 0 N9 0 0 false [] F8 F8 [] e.F7 ks
theorem zC {e : Ex} (hk : e.kind = 14) {d : C8} (h1 : d.t1.kind ≠ 0) {T : JT} : ∀ (ks : List Ex) (aa : List JT) (i : Nat) (L : List S9), 1 ≤ i → i + ks.length = e.kids.length → i + aa.length = e.kids.length → e.F7.length + 1 = e.kids.length →
 (∀ (j : Nat) k, ks[j]? = some k → e.kid (i + j) = k) → (∀ (j : Nat) a, aa[j]? = some a → T.kid (i + j) = a) → QC e d T i (ks.map R9) L = WF e d i aa L
 | [], aa, i, L, hi, JD, has, hp, gk, ga => by
   have : aa = [] := List.eq_nil_of_length_eq_zero (by simp at JD; omega)
   subst this;rfl
 | k :: ks, aa, i, L, hi, JD, has, hp, gk, ga => by
   cases aa with
   | nil => simp at JD has; omega
   | cons a aa =>
     simp at JD has;have e0 : e.kid i = k := gk 0 k (by simp)
     have a0 : T.kid i = a := ga 0 a (by simp)
     have hw : (Q3 e d T).getD i F8 = d.t1 := by
      obtain ⟨j, rfl⟩ : ∃ j, i = j + 1 := ⟨i - 1, by omega⟩
      have hj : j < e.F7.length := by omega
      simp [Q3, hk, hj]
     have e1 : dD e d T i (R9 k) L = AX (e.kid i) (d.kid i) d.t1 a L := by
      have := EP (L := L) hw h1;unfold eK at this;rw [e0, a0] at this;rw [this, e0]
     simp only [List.map_cons, QC, WF, e1];have := zC hk h1 (T := T) ks aa (i + 1) (AX (e.kid i) (d.kid i) d.t1 a L).2 (by omega) (by omega) (by omega) hp
      (fun j x hx => by have := gk (j + 1) x (by simpa using hx); rwa [show i + 1 + j = i + (j + 1) by omega])
      (fun j x hx => by have := ga (j + 1) x (by simpa using hx); rwa [show i + 1 + j = i + (j + 1) by omega])
     rw [this]
theorem A6A {e : Ex} (hk : e.kind = 14) {d : C8} (h0 : d.t0.kind ≠ 0) (h1 : d.t1.kind ≠ 0) (hp : e.F7.length + 1 = e.kids.length) {a : JT} {aa : List JT} (hl : aa.length = e.F7.length) (L : List S9) :
 R9 e d (.mk d.t1 (a :: aa)) L = (A8s e ((AX (e.kid 0) (d.kid 0) d.t0 a L).1 :: (WF e d 1 aa (AX (e.kid 0) (d.kid 0) d.t0 a L).2).1), (WF e d 1 aa (AX (e.kid 0) (d.kid 0) d.t0 a L).2).2) := by
 have hw : (Q3 e d (.mk d.t1 (a :: aa))).getD 0 F8 = d.t0 := by simp [Q3, hk]
 have e0 := EP (L := L) hw h0;rw [VT];cases JD : e.kids with
 | nil => rw [JD] at hp; simp at hp
 | cons k ks =>
   have k0 : e.kid 0 = k := by simp [Ex.kid, JD]
   have hw2 := zC hk h1 (T := .mk d.t1 (a :: aa)) ks aa 1 (AX (e.kid 0) (d.kid 0) d.t0 a L).2 (by omega) (by rw [JD]; simp; omega) (by rw [JD]; rw [JD] at hp; simp at hp ⊢; omega) hp
    (fun j x hx => by
      have : e.kids[1 + j]? = some x := by rw [JD, Nat.add_comm]; simpa using hx
      simp [Ex.kid, this])
    (fun j x hx => by
      have : (a :: aa)[1 + j]? = some x := by rw [Nat.add_comm]; simpa using hx
      simp [JT.kid, this])
   unfold eK at e0;rw [k0] at e0;simp only [List.map_cons, QC];rw [e0];rw [← k0];simp only [A2C];rw [hw2];simp [Cg, hk, A8s]
section
variable {sg : List D7} {p mi : Nat} (h : JP sg p mi) {st : Bool} {e : Ex} {d : C8} {l : List Nm} (c : JC st e d l) (ih : ∀ k ∈ e.kids, bQ st k) {S : List Int}
include h
theorem A1Q (es : List (DV × DV)) (L : List S9) (m : Meta) {z : Int} (hz : z ≠ 0) (t : DV) (j : Nat) (hj : j < 4294967297) (x y : DV) (z0 z1 z2 z3 z4 z5 z6 z7 z8 z9 z10 z11 z12 z13 z14 z15 XK z17 z18 z19 z20 z21 z22 : DV) : ∃ v, Bu (run cfg) p (F9 l) t (.list 7 (e.F7.map C9.enc)) (.int .i64 e.F7.length) (.int .i64 j) e.enc d.enc z0 z1 z2 z3 z4 z5 z6 z7 z8 z9 z10 z11 z12 z13 z14 z15 XK z17 z18 z19 z20 z21 z22 x y (Q7 sg p mi st es L m z) = some ([v], Q7 sg p mi st es L m z) ∧ D5 23 v = true := by
 by_cases I4 : j < e.F7.length
 ·refine ⟨Y0 F8 zTm, ?_, rfl⟩
  rw [Bg];simp [I4, F4 I4, Aw h, hz, XL]
 ·have e0 := Bg (run cfg) p (F9 l) t (.list 7 (e.F7.map C9.enc)) (.int .i64 e.F7.length) (.int .i64 j) e.enc d.enc z0 z1 z2 z3 z4 z5 z6 z7 z8 z9 z10 z11 z12 z13 z14 z15 XK z17 z18 z19 z20 z21 z22 x y (Q7 sg p mi st es L m z)
  simp [I4] at e0;exact ⟨_, e0, rfl⟩
include c ih
theorem B4b (hk : e.kind = 14) (ho : Cu st e d l S = 0) (hp : e.F7.length + 1 = e.kids.length) (CW : d.t0.right = true) (Km : d.t1.right = true) (z0 z1 z2 z3 z4 z5 z6 z7 z8 z9 z10 z11 z12 z13 z14 z15 XK z17 z18 z19 z20 z21 z22 : DV) : ∀ (k0 j : Nat) (ts : List Tm) (es : List (DV × DV)) (L : List S9) (m : Meta), j + k0 = e.F7.length → ts.length = j + 1 → j6 es S → Roomy m → L.length + 2 * ((e.kids.drop (j + 1)).map Ex.size).sum ≤ 1048576 →
 K5 sg p mi st S 23 (Bu (run cfg) p (F9 l) (.list 20 (ts.map Tm.enc)) (.list 7 (e.F7.map C9.enc)) (.int .i64 e.F7.length) (.int .i64 j) e.enc d.enc z0 z1 z2 z3 z4 z5 z6 z7 z8 z9 z10 z11 z12 z13 z14 z15 XK z17 z18 z19 z20 z21 z22 d.t0.enc d.t1.enc (Q7 sg p mi st es L m 0))
  (match HZ (fK st e d) d.t0 d.t1 l S (j + 1) (e.F7.drop j) with
    | .ok aa => .ok (Y0 d.t1 (A8s e (ts ++ (WF e d (j + 1) aa L).1)), (WF e d (j + 1) aa L).2)
    | .error z => .error z) := by
 have own := Ex.V7 c.hr;have aX := c.hf.one.F7;have hbp : e.F7.length < 4294967296 := by unfold lim at aX; omega
 intro k0
 induction k0 with
 | zero =>
   intro j ts es L m hj hts hs hm hL;rw [List.drop_of_length_le (by omega)]
   simp only [HZ, WF, List.append_nil];rw [Bg];have : ¬ j < e.F7.length := by omega
   simp [this];refine K5.ok ?_ rfl hs hm;simp [Y0, A8s, N9, F8]
 | succ k0 ih2 =>
   intro j ts es L m hj hts hs hm hL;have I4 : j < e.F7.length := by omega
   have PM : j + 1 < e.kids.length := by omega
   have hpm := List.getElem_mem I4;have hb := A59 e.F7[j] d.t0 (c.hf.one.pat _ hpm) (own.F7 _ hpm) CW;have m1 := Ex.O3 (c.BJ PM);have Z0 := c.len;rw [List.drop_eq_getElem_cons I4, HZ];rw [Bg];cases hbd : e.F7[j].binds d.t0 with
   | none =>
     rw [hbd] at hb;have sf := GY h st es L m 0 4;simp [I4, F4 I4, Aw h, C9.E8, C9.ag, Ty.E8, Ty.ag, hb, N8, sf, XL];exact K5.err rfl (by omega) rfl hs hm
   | some b =>
     rw [hbd] at hb;have je := C9.Re _ _ _ hbd;have hbr := C9.yO _ _ _ CW hbd;have hwi := KZ l [] (Q7 sg p mi st es L m 0) (by simp; omega)
     simp only [List.map_nil, List.append_nil] at hwi;have B6a := C9.Nv e.F7[j];have hmm : e.F7[j].J3 + (e.kid (j + 1)).J3 < e.J3 := by
      rw [Ex.U2 e];have a1 := AY (List.mem_map_of_mem (f := C9.J3) hpm);have a2 := AY (List.mem_map_of_mem (f := Ex.J3) (c.BJ PM));omega
     have hll : l.length + b.length ≤ lim := by omega
     have aS : l.length + b.length < 4294967297 := big hll;have l14 := GL (l := b) (P := fun q (a : List Nm) => Be (run cfg) p (F9 l) (.list 20 (ts.map Tm.enc)) (.int .i64 j) (F9 a) (.list 7 (e.F7.map C9.enc)) (.int .i64 e.F7.length) (.int .i64 j) (O5 b) (.int .i64 b.length) (.int .i64 q) e.enc d.enc z0 z1 z2 z3 z4 z5 z6 z7 z8 z9 z10 z11 z12 z13 z14 z15 XK z17 z18 z19 z20 z21 z22 d.t0.enc d.t1.enc (Q7 sg p mi st es L m 0))
      (g := fun a e => a ++ [DW e]) (fin := fun a => Be (run cfg) p (F9 l) (.list 20 (ts.map Tm.enc)) (.int .i64 j) (F9 a) (.list 7 (e.F7.map C9.enc)) (.int .i64 e.F7.length) (.int .i64 j) (O5 b) (.int .i64 b.length) (.int .i64 b.length) e.enc d.enc z0 z1 z2 z3 z4 z5 z6 z7 z8 z9 z10 z11 z12 z13 z14 z15 XK z17 z18 z19 z20 z21 z22 d.t0.enc d.t1.enc (Q7 sg p mi st es L m 0))
      (I := fun q a => a.length = l.length + q) (fun a _ => rfl)
      (fun q hq a ha => by
        refine ⟨?_, by simp [ha]; omega⟩
        rw [FX];have UI := Ac (e := Nm.enc) (sz := 5) (l := a) (x := DW b[q]) (by omega)
        have lH : R6 5 (F9 a) (.list 5 [.agg [.str b[q].1, .int .i64 b[q].2.kind, .int .i64 b[q].2.n, .list 3 (b[q].2.kids.map Ty.enc), .list 1 []]]) = some (F9 (a ++ [DW b[q]])) := UI;have e1 : F3 4 (O5 b) (.int .i64 (q : Int)) = some (NM b[q]) := F4 hq;simp [hq, e1, lH, K6 (show q < 9223372036854775807 by omega)]) l rfl
     have A1J : ∀ (m : List (ByteArray × Ty)) (a : List Nm), m.foldl (fun a e => a ++ [DW e]) a = a ++ m.map DW := by
      intro m
      induction m with
      | nil => intro a; simp
      | cons x m ih => intro a; simp [ih]
     rw [A1J] at l14;have nb : Au (l ++ b.map DW) := c.nl.app (Au.B3A hbr);have A0w : dLen (O5 b) = some (.int .i64 b.length) := by simp [O5, dLen]
     simp [I4, F4 I4, Aw h, C9.E8, C9.ag, Ty.E8, Ty.ag, hb, N8, hwi, A0w];refine K5.map ?_ l14;rw [FX];have Dp : A8 .add (.int .i64 (j : Int)) (.int .i64 1) = some (.int .i64 ((j + 1 : Nat) : Int)) := K6 (by omega)
     simp [Dp, Ex.E8, Ex.ag, C8.E8, C8.ag, Ty.E8, Ty.ag];rw [← Int.natCast_succ];have B69 : ((e.kids.drop (j + 1)).map Ex.size).sum = (e.kid (j + 1)).size + ((e.kids.drop (j + 1 + 1)).map Ex.size).sum := by
      rw [List.drop_eq_getElem_cons PM, Ar PM, List.map_cons, List.sum_cons]
     have hkf : fK st e d (j + 1) (l ++ b.map DW) S = jk st e d (j + 1) (l ++ b.map DW) S := A9q PM d _ S;have htl : ts.length < lim := by have := c.hf.one.kids; omega
     refine K5.then (AA (L := L) h c ih PM nb (by simp; omega) hs hm (by omega) Km) (fun v es L1 m hr hs hm => ?_) (fun z v es L1 m hr hz hn hs hm => ?_)
     rotate_left
     ·have Gt := Ig hr
      rw [hkf, Gt, Q8];obtain ⟨v2, Uu, jo⟩ := A1Q h (e := e) (d := d) (l := l) (st := st) es L1 m hz (.list 20 (ts.map Tm.enc ++ [v])) (j + 1) (by omega) d.t0.enc d.t1.enc z0 z1 z2 z3 z4 z5 z6 z7 z8 z9 z10 z11 z12 z13 z14 z15 XK z17 z18 z19 z20 z21 z22
      have UI : R6 20 (.list 20 (ts.map Tm.enc)) (.list 20 [v]) = some (.list 20 (ts.map Tm.enc ++ [v])) := DL (by simp; omega)
      simp [hn, UI, Dp];refine K5.err (v := v2) (L := L1) (es := es) (m := m) ?_ hz jo hs hm;exact Uu
     ·obtain ⟨a, hA, rfl, rfl⟩ := M_ hr
      have Ut := IR (e.kid (j + 1)) (d.kid (j + 1)) d.t1 a L;have nx := ih2 (j + 1) (ts ++ [(AX (e.kid (j + 1)) (d.kid (j + 1)) d.t1 a L).1]) es (AX (e.kid (j + 1)) (d.kid (j + 1)) d.t1 a L).2 m (by omega) (by simp; omega) hs hm (by omega)
      have UI := Ac (e := Tm.enc) (sz := 20) (l := ts) (x := (AX (e.kid (j + 1)) (d.kid (j + 1)) d.t1 a L).1) htl;rw [hkf, hA, O6];simp [UI, Dp];cases Us : HZ (fK st e d) d.t0 d.t1 l S (j + 1 + 1) (e.F7.drop (j + 1)) with
      | error z => rw [Us] at nx; simpa [Q8] using nx
      | ok aa => rw [Us] at nx; simpa [O6, WF] using nx
theorem A2S (ho : Cu st e d l S = 0) {es : List (DV × DV)} {L : List S9} {m : Meta} (hs : j6 es S) (hm : Roomy m) (hL : L.length + 2 * e.size ≤ 1048576) (hk : e.kind = 14) : K5 sg p mi st S 23 ((run cfg).r JV [(.undef, .ptr p 0), (e.enc, .val), (d.enc, .val), (F9 l, .val)] (Q7 sg p mi st es L m 0)) (jW e d L (jt st e d l S)) := by
 have own := Ex.V7 c.hr;have hp : e.F7.length + 1 = e.kids.length := by have := own.kids; simp [K8, hk] at this; omega
 have h0 : 0 < e.kids.length := by omega
 have m0 := Ex.O3 (c.BJ h0);have Z0 := c.len;obtain ⟨o1, o2, o3, o4⟩ := CQ ho;have Kl : d.types.length = 2 := by rw [o1]; simp [M8, hk]
 have CW := C8.DF c.dr (by omega)
 have Km := C8.mI c.dr (by omega)
 have zk : 0 < d.types.length := by omega
 have jh : 1 < d.types.length := by omega
 have i0 : F3 3 (.list 3 (d.types.map Ty.enc)) (.int .i64 0) = some d.t0.enc := by
  have : d.t0 = d.types[0] := by simp only [C8.t0, List.getD_eq_getElem?_getD, List.getElem?_eq_getElem zk, Option.getD_some]
  rw [this];exact F4 (e := Ty.enc) (sz := 3) (k := .i64) (i := 0) zk
 have i1 : F3 3 (.list 3 (d.types.map Ty.enc)) (.int .i64 1) = some d.t1.enc := by
  have : d.t1 = d.types[1] := by simp only [C8.t1, List.getD_eq_getElem?_getD, List.getElem?_eq_getElem jh, Option.getD_some]
  rw [this];exact F4 (e := Ty.enc) (sz := 3) (k := .i64) (i := 1) jh
 have hj : jt st e d l S = (M5 d.t0 (jk st e d 0 l S)).bind fun a => (HZ (fK st e d) d.t0 d.t1 l S 1 e.F7).bind fun aa => .ok (.mk d.t1 (a :: aa)) := by
  rw [Dv ho, gM hk, U0 h0];rfl
 have Y4 : e.size = 1 + (e.kid 0).size + ((e.kids.drop 1).map Ex.size).sum := by
  rw [Ex.size_eq]
  conv => lhs; rw [← List.drop_zero (l := e.kids), List.drop_eq_getElem_cons h0]
  rw [Ar h0];simp;omega
 refine K5.map ?_ (PI p e.enc d.enc (F9 l) _);rw [QA, hj];simp [Ex.E8, Ex.ag, C8.E8, C8.ag, i0, i1, Ty.E8, Ty.ag];refine K5.then (AA (L := L) h c ih h0 c.nl (by omega) hs hm (by omega) CW) (fun v es L1 m hr hs hm => ?_) (fun z v es L1 m hr hz hn hs hm => ?_)
 rotate_left
 ·rw [Ig hr, Q8]
  obtain ⟨v2, Uu, jo⟩ := A1Q h (e := e) (d := d) (l := l) (st := st) es L1 m hz (.list 20 [v]) 0 (by omega) d.t0.enc d.t1.enc (.int .i64 0) (.int .i64 0) (.list 3 []) (.int .i64 0) (.int .i64 0) (.int .i64 0) (.str ⟨#[]⟩) (.str ⟨#[]⟩) (.int .i64 0) (.str ⟨#[]⟩) (.int .i64 0) (.int .i64 0) (.bool false) (.list 1 []) (.int .i64 0) (.int .i64 0) (.list 3 []) (.int .i64 0) (.int .i64 0) (.list 3 []) (.list 3 []) (.list 7 []) (.list 20 [])
  simp [hn];refine K5.err (v := v2) (L := L1) (es := es) (m := m) ?_ hz jo hs hm;exact Uu
 obtain ⟨a, hA, rfl, rfl⟩ := M_ hr;have Ut := IR (e.kid 0) (d.kid 0) d.t0 a L;have nx := B4b h c ih hk ho hp CW Km (.int .i64 0) (.int .i64 0) (.list 3 []) (.int .i64 0) (.int .i64 0) (.int .i64 0) (.str ⟨#[]⟩) (.str ⟨#[]⟩) (.int .i64 0) (.str ⟨#[]⟩) (.int .i64 0) (.int .i64 0) (.bool false) (.list 1 []) (.int .i64 0) (.int .i64 0) (.list 3 []) (.int .i64 0) (.int .i64 0) (.list 3 []) (.list 3 []) (.list 7 []) (.list 20 []) e.F7.length 0 [(AX (e.kid 0) (d.kid 0) d.t0 a L).1] es (AX (e.kid 0) (d.kid 0) d.t0 a L).2 m (by omega) rfl hs hm (by simp at Y4 ⊢; omega)
 rw [hA, O6];simp [Tm.E8];simp only [List.map_cons, List.map_nil, List.drop_zero, Nat.zero_add] at nx;cases Us : HZ (fK st e d) d.t0 d.t1 l S 1 e.F7 with
 | error z => rw [Us] at nx; rw [Q8]; exact nx
 | ok aa =>
   rw [Us] at nx;rw [O6, Ih, A6A hk (Ty.k0 CW) (Ty.k0 Km) hp (A5m Us).1];exact nx
end
end Go.Su

/-
 What the program's judging does: all kinds together.
-/
namespace Go.Su
theorem B3j {n : Nat} {v : DV} (h : D5 n v = true) : ∃ w, v = .agg w ∧ w.length = n := by
 cases v with
 | agg w => exact ⟨w, rfl, by simpa [D5] using h⟩
 | _ => cases h
theorem wU {v : DV} (h : D5 23 v = true) : DV.agg [A7 0 v, A7 1 v, A7 2 v, A7 3 v, A7 4 v, A7 5 v, A7 6 v, A7 7 v, A7 8 v, A7 9 v, A7 10 v, A7 11 v, A7 12 v, A7 13 v, A7 14 v, A7 15 v, A7 16 v, A7 17 v, A7 18 v, A7 19 v, A7 20 v, A7 21 v, A7 22 v] = v := by
 obtain ⟨w, rfl, hw⟩ := B3j h
 match w, hw with
 | [a0, a1, a2, a3, a4, a5, a6, a7, a8, a9, ZU, Uj, a12, a13, a14, Xq, a16, a17, a18, a19, a20, a21, a22], _ => rfl
section
variable {sg : List D7} {p mi : Nat} {st : Bool} {S : List Int}
theorem K5.pass {qa : Option (List DV × List D7)} {r : Except Int (DV × List S9)} (h : K5 sg p mi st S 23 qa r) {k : List DV × List D7 → Option (List DV × List D7)} (hk : ∀ v s, D5 23 v = true → k ([v], s) = some ([v], s)) : K5 sg p mi st S 23 (ob qa k) r := by
 obtain ⟨v, es, L, m, er, h1, h2, h3, h4, h5⟩ := h;exact ⟨v, es, L, m, er, by rw [h1]; exact hk v _ h2, h2, h3, h4, h5⟩
end
section
variable {sg : List D7} {p mi : Nat} (h : JP sg p mi) {st : Bool} {e : Ex} {d : C8} {l : List Nm} (c : JC st e d l) (ih : ∀ k ∈ e.kids, bQ st k) {S : List Int} (ho : Cu st e d l S = 0)
 {es : List (DV × DV)} {L : List S9} {m : Meta} (hs : j6 es S) (hm : Roomy m) (hL : L.length + 2 * e.size ≤ 1048576)
include h c ih ho hs hm hL
theorem A37 (hk : 10 ≤ e.kind) : K5 sg p mi st S 23 ((run cfg).r Kn [(.undef, .ptr p 0), (e.enc, .val), (d.enc, .val), (F9 l, .val)] (Q7 sg p mi st es L m 0)) (jW e d L (jt st e d l S)) := by
 have own := Ex.V7 c.hr;have Z0 := c.len;have k16 := own.k16;obtain ⟨o1, o2, o3, o4⟩ := CQ ho;refine K5.map ?_ (QG p e.enc d.enc (F9 l) _);rw [Rn];simp only [Al, KN, O8, exx, Ex.E8, Ex.ag, C8.Dy, C8.LY, C8.Ij, C8.E8, C8.ag, Bw, H6]
 by_cases DY : e.kind = 10
 ·simp [DY]
  exact (A5Z h c ih ho hs hm hL DY).pass fun v s hv => by simp [hv, wU hv]
 by_cases Dn : e.kind = 11
 ·simp [Dn]
  exact (A50 h c ih ho hs hm hL Dn).pass fun v s hv => by simp [hv, wU hv]
 by_cases Ee : e.kind = 12
 ·simp [Ee]
  exact (A51 h c ih ho hs hm hL Ee).pass fun v s hv => by simp [hv, wU hv]
 by_cases PK : e.kind = 13
 ·have hn : e.kids.length = 3 := by have := own.kids; simp [K8, PK] at this; omega
  have h0 : 0 < e.kids.length := by omega
  have h1 : 1 < e.kids.length := by omega
  have h2 : 2 < e.kids.length := by omega
  have m0 := Ex.O3 (c.BJ h0);have m1 := Ex.O3 (c.BJ h1);have m2 := Ex.O3 (c.BJ h2);have Y4 := B4M hn;have Kl : d.types.length = 1 := by rw [o1]; simp [M8, PK]
  have CW := C8.DF c.dr (by omega)
  have zk : 0 < d.types.length := by omega
  have i0 : F3 3 (.list 3 (d.types.map Ty.enc)) (.int .i64 0) = some d.t0.enc := by
   have : d.t0 = d.types[0] := by simp only [C8.t0, List.getD_eq_getElem?_getD, List.getElem?_eq_getElem zk, Option.getD_some]
   rw [this];exact F4 (e := Ty.enc) (sz := 3) (k := .i64) (i := 0) zk
  have hbo : DV.agg [.int .i64 2, .int .i64 0, .list 3 []] = (U1 2).enc := by rw [Ty.I5]; rfl
  have hbr : (U1 2).right = true := F_ (by omega)
  have hj : jt st e d l S = (M5 (U1 2) (jk st e d 0 l S)).bind fun a => (M5 d.t0 (jk st e d 1 l S)).bind fun b => (M5 d.t0 (jk st e d 2 l S)).bind fun c => .ok (.mk d.t0 [a, b, c]) := by
   rw [Dv ho, A0t PK, U0 h0];simp only [U0 h1, U0 h2]
  rw [hj];simp [DY, Dn, Ee, PK, i0, Ty.E8, Ty.ag, hbo];have fb := fun i es L1 m z (hz : z ≠ 0) => Pe h st es L1 m hz e d i (F9 l) d.t0
  refine K5.then (AA (L := L) h c ih h0 c.nl (by omega) hs hm (by omega) hbr) (fun v es L1 m hr hs hm => ?_) (fun z v es L1 m hr hz hn hs hm => ?_)
  rotate_left
  ·rw [Ig hr, Q8]
   simp [hn, fb _ _ _ _ _ hz];exact K5.err rfl hz rfl hs hm
  obtain ⟨a, hA, rfl, rfl⟩ := M_ hr;have Ut := IR (e.kid 0) (d.kid 0) (U1 2) a L;rw [hA, O6];generalize hLa : AX (e.kid 0) (d.kid 0) (U1 2) a L = ca at Ut;simp;refine K5.then (AA (L := ca.2) h c ih h1 c.nl (by omega) hs hm (by omega) CW) (fun v es L1 m hr hs hm => ?_) (fun z v es L1 m hr hz hn hs hm => ?_)
  rotate_left
  ·rw [Ig hr, Q8]
   simp [hn, fb _ _ _ _ _ hz];exact K5.err rfl hz rfl hs hm
  obtain ⟨b, hB, rfl, rfl⟩ := M_ hr;have vB := IR (e.kid 1) (d.kid 1) d.t0 b ca.2;rw [hB, O6];generalize hLb : AX (e.kid 1) (d.kid 1) d.t0 b ca.2 = cb at vB;simp;refine K5.then (AA (L := cb.2) h c ih h2 c.nl (by omega) hs hm (by omega) CW) (fun v es L1 m hr hs hm => ?_) (fun z v es L1 m hr hz hn hs hm => ?_)
  rotate_left
  ·rw [Ig hr, Q8]
   simp [hn];exact K5.err rfl hz rfl hs hm
  obtain ⟨x, hX, rfl, rfl⟩ := M_ hr;have QL : (Q3 e d (.mk d.t0 [a, b, x])).getD 0 F8 = U1 2 := by simp [Q3, PK]
  have Ww : (Q3 e d (.mk d.t0 [a, b, x])).getD 1 F8 = d.t0 := by simp [Q3, PK]
  have hw2 : (Q3 e d (.mk d.t0 [a, b, x])).getD 2 F8 = d.t0 := by simp [Q3, PK]
  rw [hX, O6, Ih, B0G hn, EP QL (Ty.k0 hbr), EP Ww (Ty.k0 CW), EP hw2 (Ty.k0 CW)];simp only [A2C, A7m, B2w, hLa, hLb];simp [Tm.E8];refine K5.ok ?_ rfl hs hm;simp [Y0, Cg, PK, N9, F8]
 by_cases Ki : e.kind = 14
 ·simp [Ki]
  exact (A2S h c ih ho hs hm hL Ki).pass fun v s hv => by simp [hv, wU hv]
 by_cases jZ : e.kind = 15
 ·have hn : e.kids.length = 1 := by have := own.kids; simp [K8, jZ] at this; omega
  have h0 : 0 < e.kids.length := by omega
  have m0 := Ex.O3 (c.BJ h0);have Y4 := B0c hn;have har := own.Xq jZ;have hj : jt st e d l S = (M5 e.a (jk st e d 0 l S)).bind fun a => .ok (.mk e.a [a]) := by
   rw [Dv ho, vG jZ, U0 h0]
  rw [hj];simp [DY, Dn, Ee, PK, Ki, jZ, Ty.E8, Ty.ag];refine K5.then (AA (L := L) h c ih h0 c.nl (by omega) hs hm (by omega) har) (fun v es L1 m hr hs hm => ?_) (fun z v es L1 m hr hz hn hs hm => ?_)
  rotate_left
  ·rw [Ig hr, Q8]
   simp [hn];exact K5.err rfl hz rfl hs hm
  obtain ⟨a, hA, rfl, rfl⟩ := M_ hr;have QL : (Q3 e d (.mk e.a [a])).getD 0 F8 = e.a := by simp [Q3, jZ]
  rw [hA, O6, Ih, A4V hn, EP QL (Ty.k0 har)];simp;refine K5.ok ?_ rfl hs hm;simp [Y0, Cg, jZ]
 have h16 : e.kind = 16 := by omega
 have B00 : (U1 1).right = true := F_ (by omega)
 have B6d : (U1 3).right = true := F_ (by omega)
 by_cases p5 : e.op = 5
 ·have := A1U h c ih ho hs hm hL h16 (.int .i64 0) (.int .i64 0) (.list 3 []) (.int .i64 0) (.int .i64 0) (.int .i64 0) (.str ⟨#[]⟩) (.str ⟨#[]⟩) (.int .i64 0) (.str ⟨#[]⟩) (.int .i64 0) (.int .i64 0) (.bool false) (.list 1 []) (.int .i64 0) (.int .i64 0) (.list 3 []) (.int .i64 0) (.int .i64 0) (.list 3 []) (.list 3 []) (.list 7 []) (.list 20 []) (lo := U1 1) (hi := U1 2) (by simp [Nq, p5]) (by simp [Oo, p5]) B00
  simp [DY, Dn, Ee, PK, Ki, jZ, p5];exact this
 by_cases p6 : e.op = 6
 ·have := A1U h c ih ho hs hm hL h16 (.int .i64 0) (.int .i64 0) (.list 3 []) (.int .i64 0) (.int .i64 0) (.int .i64 0) (.str ⟨#[]⟩) (.str ⟨#[]⟩) (.int .i64 0) (.str ⟨#[]⟩) (.int .i64 0) (.int .i64 0) (.bool false) (.list 1 []) (.int .i64 0) (.int .i64 0) (.list 3 []) (.int .i64 0) (.int .i64 0) (.list 3 []) (.list 3 []) (.list 7 []) (.list 20 []) (lo := U1 1) (hi := U1 2) (by simp [Nq, p6]) (by simp [Oo, p6]) B00
  simp [DY, Dn, Ee, PK, Ki, jZ, p5, p6];exact this
 by_cases p7 : e.op = 7
 ·have := A1U h c ih ho hs hm hL h16 (.int .i64 0) (.int .i64 0) (.list 3 []) (.int .i64 0) (.int .i64 0) (.int .i64 0) (.str ⟨#[]⟩) (.str ⟨#[]⟩) (.int .i64 0) (.str ⟨#[]⟩) (.int .i64 0) (.int .i64 0) (.bool false) (.list 1 []) (.int .i64 0) (.int .i64 0) (.list 3 []) (.int .i64 0) (.int .i64 0) (.list 3 []) (.list 3 []) (.list 7 []) (.list 20 []) (lo := U1 3) (hi := U1 2) (by simp [Nq, p7]) (by simp [Oo, p7]) B6d
  simp [DY, Dn, Ee, PK, Ki, jZ, p5, p6, p7];exact this
 ·have D8 := own.op h16
  have := A1U h c ih ho hs hm hL h16 (.int .i64 0) (.int .i64 0) (.list 3 []) (.int .i64 0) (.int .i64 0) (.int .i64 0) (.str ⟨#[]⟩) (.str ⟨#[]⟩) (.int .i64 0) (.str ⟨#[]⟩) (.int .i64 0) (.int .i64 0) (.bool false) (.list 1 []) (.int .i64 0) (.int .i64 0) (.list 3 []) (.int .i64 0) (.int .i64 0) (.list 3 []) (.list 3 []) (.list 7 []) (.list 20 []) (lo := U1 1) (hi := U1 1) (by simp [Nq, p7]) (by simp only [Oo]; rw [if_neg (by omega)]) B00
  simp [DY, Dn, Ee, PK, Ki, jZ, p5, p6, p7];exact this
end
end Go.Su

/-
 What the program's judging does: an expression.
-/
namespace Go.Su
section
variable {sg : List D7} {p mi : Nat} (h : JP sg p mi) {st : Bool} {e : Ex} {d : C8} {l : List Nm} (c : JC st e d l) (ih : ∀ k ∈ e.kids, bQ st k) {S : List Int} (ho : Cu st e d l S = 0)
 {es : List (DV × DV)} {L : List S9} {m : Meta} (hs : j6 es S) (hm : Roomy m) (hL : L.length + 2 * e.size ≤ 1048576)
include h c ih ho hs hm hL
theorem B3C (hk : 7 ≤ e.kind) (z0 z1 z2 z3 z4 z5 z6 z7 z8 z9 z10 z11 z12 z13 z14 z15 XK z17 z18 z19 z20 z21 z22 : DV) : K5 sg p mi st S 23 (He (run cfg) p (F9 l) (.int .i64 e.kind) e.enc d.enc z0 z1 z2 z3 z4 z5 z6 z7 z8 z9 z10 z11 z12 z13 z14 z15 XK z17 z18 z19 z20 z21 z22 (Q7 sg p mi st es L m 0)) (jW e d L (jt st e d l S)) := by
 have own := Ex.V7 c.hr;have Z0 := c.len;obtain ⟨o1, o2, o3, o4⟩ := CQ ho;have i0 : 0 < d.types.length → F3 3 (.list 3 (d.types.map Ty.enc)) (.int .i64 0) = some d.t0.enc := fun zk => by
  have : d.t0 = d.types[0] := by simp only [C8.t0, List.getD_eq_getElem?_getD, List.getElem?_eq_getElem zk, Option.getD_some]
  rw [this];exact F4 (e := Ty.enc) (sz := 3) (k := .i64) (i := 0) zk
 rw [NR]
 by_cases h7 : e.kind = 7
 ·have hn : e.kids.length = 0 := by have := own.kids; simp [K8, h7] at this; simp [this]
  have Kl : 0 < d.types.length := by rw [o1]; simp [M8, h7]
  rw [Dv ho, vJ h7, Ih, VU hn];simp [h7, i0 Kl, Ty.E8, Ty.ag, qI];refine K5.ok ?_ rfl hs hm;simp [Y0, Cg, h7, N9, F8]
 by_cases h8 : e.kind = 8
 ·have hn : e.kids.length = 2 := by have := own.kids; simp [K8, h8] at this; omega
  have h0 : 0 < e.kids.length := by omega
  have h1 : 1 < e.kids.length := by omega
  have m0 := Ex.O3 (c.BJ h0);have m1 := Ex.O3 (c.BJ h1);have Y4 := bF hn;have Kl : 0 < d.types.length := by rw [o1]; simp [M8, h8]
  have CW := C8.DF c.dr (by omega)
  have hrl := WO CW;have hj : jt st e d l S = (M5 d.t0 (jk st e d 0 l S)).bind fun a => (M5 (Y5 d.t0) (jk st e d 1 l S)).bind fun b => .ok (.mk (Y5 d.t0) [a, b]) := by
   rw [Dv ho, lN h8, U0 h0];simp only [U0 h1]
  rw [hj];have hl := qI d.t0;simp [Ex.E8, Ex.ag, C8.E8, C8.ag];simp [h8, i0 Kl, Ty.E8, Ty.ag, hl];refine K5.then (AA (L := L) h c ih h0 c.nl (by omega) hs hm (by omega) CW) (fun v es L1 m hr hs hm => ?_) (fun z v es L1 m hr hz hn hs hm => ?_)
  rotate_left
  ·rw [Ig hr, Q8]
   have fb := fun i => Pe h st es L1 m hz e d i (F9 l) (Y5 d.t0)
   simp [hn, fb];exact K5.err rfl hz rfl hs hm
  obtain ⟨a, hA, rfl, rfl⟩ := M_ hr;have Ut := IR (e.kid 0) (d.kid 0) d.t0 a L;rw [hA, O6];generalize hLa : AX (e.kid 0) (d.kid 0) d.t0 a L = ca at Ut;simp;refine K5.then (AA (L := ca.2) h c ih h1 c.nl (by omega) hs hm (by omega) hrl) (fun v es L1 m hr hs hm => ?_) (fun z v es L1 m hr hz hn hs hm => ?_)
  rotate_left
  ·rw [Ig hr, Q8]
   simp [hn];exact K5.err rfl hz rfl hs hm
  obtain ⟨b, hB, rfl, rfl⟩ := M_ hr;have QL : (Q3 e d (.mk (Y5 d.t0) [a, b])).getD 0 F8 = d.t0 := by simp [Q3, h8]
  have Ww : (Q3 e d (.mk (Y5 d.t0) [a, b])).getD 1 F8 = Y5 d.t0 := by simp [Q3, h8]
  rw [hB, O6, Ih, Na hn, EP QL (Ty.k0 CW), EP Ww (Ty.k0 hrl)];simp only [A2C, A7m, hLa];simp [Tm.E8];refine K5.ok ?_ rfl hs hm;simp [Y0, Cg, h8, N9, F8]
 by_cases h9 : e.kind = 9
 ·have hn : e.kids.length = 1 := by have := own.kids; simp [K8, h9] at this; omega
  have h0 : 0 < e.kids.length := by omega
  have m0 := Ex.O3 (c.BJ h0);have Y4 := B0c hn;have Np := Ud e.a d.types fun h0 => by rw [o1]; simp [M8, h9, h0]
  have hPe : K4 e.a (d.types.getD 0 F8) = K4 e.a d.t0 := rfl;rw [hPe] at Np;have jg : (K4 e.a d.t0).right = true := GG own.a fun h0 => C8.DF c.dr (by rw [o1]; simp [M8, h9, h0])
  have hj : jt st e d l S = (jk st e d 0 (l ++ [⟨e.name, K4 e.a d.t0, []⟩]) S).bind fun a => .ok (.mk (U9 (K4 e.a d.t0) a.ty) [a]) := by
   rw [Dv ho, vH h9, U0 h0]
  have nm1 : Au (l ++ [⟨e.name, K4 e.a d.t0, []⟩]) := c.nl.app fun x hx => by
   simp only [List.mem_singleton] at hx;subst hx;exact ⟨jg, by simp, by simp⟩
  have hw := KZ l [⟨e.name, K4 e.a d.t0, []⟩] (Q7 sg p mi st es L m 0) (by simp; omega)
  simp only [List.map_cons, List.map_nil] at hw;have n1 : DV.agg [.str e.name, .int .i64 (K4 e.a d.t0).kind, .int .i64 (K4 e.a d.t0).n, .list 3 ((K4 e.a d.t0).kids.map Ty.enc), .list 1 []] = (Nm.mk e.name (K4 e.a d.t0) []).enc := rfl;rw [hj];simp [Ex.E8, Ex.ag, C8.E8, C8.ag, Ty.E8, Ty.ag];rw [Np];simp [h9, n1, hw, Ty.E8, Ty.ag];refine K5.then (Dz (L := L) h c ih h0 nm1 (by simp; omega) hs hm (by omega)) (fun v es L1 m hr hs hm => ?_) (fun z v es L1 m hr hz hn hs hm => ?_)
  rotate_left
  ·rw [UN hr, Q8]
   have hf : (run cfg).p Lx [(K4 e.a d.t0).enc, .agg [A7 0 v, A7 1 v, A7 2 v]] = some (.agg [.int .i64 9, .int .i64 0, .list 3 [(K4 e.a d.t0).enc, .agg [A7 0 v, A7 1 v, A7 2 v]]]) := by
    refine (XY _ _).trans ?_;rw [Zb];simp [Ty.E8, Ty.ag];rfl
   simp [hn, hf];exact K5.err rfl hz rfl hs hm
  obtain ⟨a, hA, rfl, rfl⟩ := Yf hr;have QL : ((Q3 e d (.mk (U9 (K4 e.a d.t0) a.ty) [a])).getD 0 F8).kind = 0 := by simp [Q3, h9]; rfl
  rw [hA, O6, Ih, A4V hn, NK QL];have hf := bG (K4 e.a d.t0) a.ty;simp [Tm.E8, Ty.E8, Ty.ag, hf];refine K5.ok ?_ rfl hs hm;simp [Y0, Cg, h9, N9, F8, U9]
 ·have := A37 h c ih ho hs hm hL (by omega)
  simp [Ex.E8, Ex.ag, C8.E8, C8.ag];simp [h7, h8, h9];exact this.pass fun v s hv => by simp [hv, wU hv]
end
theorem B1O {sg : List D7} {p mi : Nat} (h : JP sg p mi) {st : Bool} {e : Ex} {d : C8} {l : List Nm} (hr : e.right = true) (hf : e.fit) (dr : d.Aa = true) (ds : d.DC) (nl : Au l) (Z0 : l.length + 2 * e.J3 ≤ lim) (ih : ∀ k ∈ e.kids, bQ st k) {S : List Int}
 {es : List (DV × DV)} {L : List S9} {m : Meta} (hs : j6 es S) (hm : Roomy m) (hL : L.length + 2 * e.size ≤ 1048576) (hx : e.kind = 1 → Av l e.name ≠ none) (z0 z1 z2 z3 z4 z5 z6 z7 z8 z9 z10 z11 z12 z13 z14 z15 XK z17 z18 z19 z20 z21 z22 : DV) :
 K5 sg p mi st S 23 (Ei (run cfg) p (F9 l) (.bool true) e.enc d.enc z0 z1 z2 z3 z4 z5 z6 z7 z8 z9 z10 z11 z12 z13 z14 z15 XK z17 z18 z19 z20 z21 z22 (.str (Uv e l).name) (.int .i64 (Uv e l).ty.kind) (.int .i64 (Uv e l).ty.n) (.list 3 ((Uv e l).ty.kids.map Ty.enc)) (E9 (Uv e l).vars) (Q7 sg p mi st es L m 0)) (jW e d L (jt st e d l S)) := by
 have own := Ex.V7 hr;obtain ⟨es1, hc, CL⟩ := A0F h st L m 0 hs e hr hf d ds l hx;rw [Hf];simp [Ex.E8, Ex.ag, C8.E8, C8.ag, Nm.A0i, hc]
 by_cases ho : Cu st e d l S = 0
 rotate_left
 ·have sf := GY h st es1 L m 0 (Cu st e d l S)
  rw [if_pos rfl] at sf;rw [A5n ho];simp [ho, sf, XL];exact K5.err rfl ho rfl CL hm
 obtain ⟨o1, o2, o3, o4⟩ := CQ ho;have c : JC st e d l := ⟨hr, hf, dr, ds, nl, Z0, o2⟩;have k1 := own.k1;simp [ho]
 by_cases h1 : e.kind = 1
 ·cases hl : Av l e.name with
  | none => exact absurd hl (hx h1)
  | some x =>
    have hxo : Uv e l = x := by simp [Uv, h1, hl]
    have := A38 h c ho CL hm (L := L) h1 hl;simp [h1, hxo];exact this.pass fun v s hv => by simp [hv, wU hv]
 by_cases h2 : e.kind = 2
 ·have hn : e.kids.length = 0 := by have := own.kids; simp [K8, h2] at this; simp [this]
  rw [Dv ho, Ol (by omega), Ih, VU hn]
  simp [h2];refine K5.ok ?_ rfl CL hm;simp [Y0, Cg, h2, N9, F8, U1]
 by_cases h3 : e.kind = 3
 ·have hn : e.kids.length = 0 := by have := own.kids; simp [K8, h3] at this; simp [this]
  rw [Dv ho, Ol (by omega), Ih, VU hn]
  simp [h3];refine K5.ok ?_ rfl CL hm;simp [Y0, Cg, h3, N9, F8, U1]
 by_cases h4 : e.kind = 4
 ·have hn : e.kids.length = 0 := by have := own.kids; simp [K8, h4] at this; simp [this]
  rw [Dv ho, Ol (by omega), Ih, VU hn]
  simp [h4];refine K5.ok ?_ rfl CL hm;simp [Y0, Cg, h4, N9, F8, U1]
 by_cases h5 : e.kind = 5
 ·have hn : e.kids.length = 0 := by have := own.kids; simp [K8, h5] at this; simp [this]
  rw [Dv ho, Ol (by omega), Ih, VU hn]
  simp [h5];refine K5.ok ?_ rfl CL hm;simp [Y0, Cg, h5, N9, F8, U1]
 by_cases h6 : e.kind = 6
 ·have hn : e.kids.length = 2 := by have := own.kids; simp [K8, h6] at this; omega
  have h0 : 0 < e.kids.length := by omega
  have h1 : 1 < e.kids.length := by omega
  have m0 := Ex.O3 (c.BJ h0);have m1 := Ex.O3 (c.BJ h1);have Y4 := bF hn;have hj : jt st e d l S = (jk st e d 0 l S).bind fun a => (jk st e d 1 l S).bind fun b => .ok (.mk (.mk 7 0 [a.ty, b.ty]) [a, b]) := by
   rw [Dv ho, lS h6, U0 h0];simp only [U0 h1]
  rw [hj];simp [h6];refine K5.then (Dz (L := L) h c ih h0 c.nl (by omega) CL hm (by omega)) (fun v es L1 m hr hs hm => ?_) (fun z v es L1 m hr hz hn hs hm => ?_)
  rotate_left
  ·rw [UN hr, Q8]
   have kb := fun i => Gv h st es L1 m hz e d i (F9 l)
   simp [hn, kb];exact K5.err rfl hz rfl hs hm
  obtain ⟨a, hA, rfl, rfl⟩ := Yf hr;have Ut := A0j (e.kid 0) (d.kid 0) a L;rw [hA, O6];simp;refine K5.then (Dz (L := (R9 (e.kid 0) (d.kid 0) a L).2) h c ih h1 c.nl (by omega) hs hm (by omega)) (fun v es L1 m hr hs hm => ?_) (fun z v es L1 m hr hz hn hs hm => ?_)
  rotate_left
  ·rw [UN hr, Q8]
   simp [hn];exact K5.err rfl hz rfl hs hm
  obtain ⟨b, hB, rfl, rfl⟩ := Yf hr;have QL : ((Q3 e d (.mk (.mk 7 0 [a.ty, b.ty]) [a, b])).getD 0 F8).kind = 0 := by simp [Q3, h6]; rfl
  have Ww : ((Q3 e d (.mk (.mk 7 0 [a.ty, b.ty]) [a, b])).getD 1 F8).kind = 0 := by simp [Q3, h6]; rfl
  rw [hB, O6, Ih, Na hn, NK QL, NK Ww];simp [Tm.E8, Ty.E8, Ty.ag];refine K5.ok ?_ rfl hs hm;simp [Y0, Cg, h6, N9, F8]
 ·have := B3C h c ih ho CL hm hL (by omega) z0 z1 z2 z3 z4 z5 z6 z7 z8 z9 z10 z11 z12 z13 z14 z15 XK z17 z18 z19 z20 z21 z22
  simp [h1, h2, h3, h4, h5, h6];exact this
theorem A34 (st : Bool) (e : Ex) : bQ st e := by
 induction e using Ex.ind with
 | h e ih =>
   intro hr hf d l S dr ds nl Z0 sg p mi h es L m hs hm hL;have hmp := Ex.Dw e;have A4q := A35 l (by omega) e.name
   refine K5.map ?_ (QF p e.enc d.enc (F9 l) _);rw [Rm];simp [Ex.E8, Ex.ag, C8.E8, C8.ag]
   by_cases h1 : e.kind = 1
   ·cases hl : Av l e.name with
    | none =>
      rw [hl] at A4q;have KM : Cu st e d l S = 6 := by simp [Cu, h1, hl]
      have sf := GY h st es L m 0 6;rw [if_pos rfl] at sf;rw [A5n (by rw [KM]; omega), KM]
      simp [h1, A4q, N8, Hf, sf, XL];exact K5.err rfl (by omega) rfl hs hm
    | some x =>
      rw [hl] at A4q;have := B1O h hr hf dr ds nl Z0 ih hs hm hL (fun _ => by rw [hl]; simp) (.int .i64 0) (.int .i64 0) (.list 3 []) (.int .i64 0) (.int .i64 0) (.int .i64 0) (.str ⟨#[]⟩) (.str ⟨#[]⟩) (.int .i64 0) (.str ⟨#[]⟩) (.int .i64 0) (.int .i64 0) (.bool false) (.list 1 []) (.int .i64 0) (.int .i64 0) (.list 3 []) (.int .i64 0) (.int .i64 0) (.list 3 []) (.list 3 []) (.list 7 []) (.list 20 [])
      have hxo : Uv e l = x := by simp [Uv, h1, hl]
      rw [hxo] at this;simp [h1, A4q, N8];exact this
   ·have := B1O h hr hf dr ds nl Z0 ih hs hm hL (fun h => absurd h h1) (.int .i64 0) (.int .i64 0) (.list 3 []) (.int .i64 0) (.int .i64 0) (.int .i64 0) (.str ⟨#[]⟩) (.str ⟨#[]⟩) (.int .i64 0) (.str ⟨#[]⟩) (.int .i64 0) (.int .i64 0) (.bool false) (.list 1 []) (.int .i64 0) (.int .i64 0) (.list 3 []) (.int .i64 0) (.int .i64 0) (.list 3 []) (.list 3 []) (.list 7 []) (.list 20 [])
    have hxo : Uv e l = zNm := by simp [Uv, h1]
    rw [hxo] at this;simp [h1];exact this
end Go.Su

/-
 What the program's judging does: right derivations, the whole.
-/
namespace Go.Su
theorem A2T (d : C8) : d.DC → (run cfg).p QT [d.enc] = some (.bool d.Aa) := by
 induction d using C8.ind with
 | h d ih =>
   intro hd;obtain ⟨d1, d2, d3, d4⟩ := hd.all;have b1 := big d1;have b2 := big d2;have b3 := big d3;have l3 := Ni (l := d.kids) (f := C8.Aa) (P := fun j => Fa (run cfg) (.list 3 (d.kids.map C8.enc)) (.int .i64 d.kids.length) (.int .i64 j)) (y := DV.bool true) (n := DV.bool false)
    (by rw [NT]; simp)
    (fun j hj => by
      rw [NT];have hk := ih _ (List.getElem_mem hj) (hd.kid (List.getElem_mem hj));cases hr : d.kids[j].Aa <;> rw [hr] at hk <;> simp [hj, F4 hj, C8.E8, C8.ag, hk, hr, K6 (show j < 9223372036854775807 by omega)])
   have l2 := SB (l := d.vars) (f := fun v => decide (0 ≤ v) && decide (v ≤ 1048576)) (P := fun j => GZ (run cfg) (E9 d.vars) (.int .i64 d.vars.length) (.int .i64 j) d.enc) (y := Fa (run cfg) (.list 3 (d.kids.map C8.enc)) (.int .i64 d.kids.length) (.int .i64 0)) (n := some (DV.bool false))
    (by rw [PQ]; simp)
    (fun j hj => by
      rw [PQ]
      by_cases h1 : d.vars[j] < 0
      ·have : ¬ 0 ≤ d.vars[j] := by omega
       simp [hj, U3 hj, h1, this]
      ·have jY : 0 ≤ d.vars[j] := by omega
       by_cases h2 : 1048576 < d.vars[j]
       ·have : ¬ d.vars[j] ≤ 1048576 := by omega
        simp [hj, U3 hj, h1, jY, h2, this]
       ·have YG : d.vars[j] ≤ 1048576 := by omega
        simp [hj, U3 hj, h1, jY, h2, YG, K6 (show j < 9223372036854775807 by omega)])
   have l1 := SB (l := d.types) (f := Ty.right) (P := fun j => Ku (run cfg) (.list 3 (d.types.map Ty.enc)) (.int .i64 d.types.length) (.int .i64 j) d.enc) (y := GZ (run cfg) (E9 d.vars) (.int .i64 d.vars.length) (.int .i64 0) d.enc) (n := some (DV.bool false))
    (by rw [PP]; simp)
    (fun j hj => by
      rw [PP];have hk := CE _ (d4 _ (List.getElem_mem hj)).1;cases hr : d.types[j].right <;> rw [hr] at hk <;> simp [hj, F4 hj, Ty.E8, Ty.ag, hk, hr, K6 (show j < 9223372036854775807 by omega)])
   refine (dI _).trans ?_;rw [iO, C8.eO];simp;refine l1.trans ?_;rw [l2, l3]
   by_cases a1 : d.types.all Ty.right = true
   ·by_cases a2 : (d.vars.all fun v => decide (0 ≤ v) && decide (v ≤ 1048576)) = true
    ·rw [if_pos a1, if_pos a2, a1, a2]
     cases d.kids.all C8.Aa <;> rfl
    ·rw [if_pos a1, if_neg a2]
     simp only [Bool.not_eq_true] at a2;rw [a1, a2];rfl
   ·rw [if_neg a1]
    simp only [Bool.not_eq_true] at a1;rw [a1];rfl
def Wz (st : Bool) (e : Ex) (d : C8) : Except Int JT := if e.right = true ∧ d.Aa = true then jt st e d [] [] else .error 1
theorem A33 (e : Ex) (d : C8) (hf : e.fit) (ds : d.DC) (hm : 2 * e.J3 ≤ lim) (hs : 2 * e.size ≤ 1048576) (st : Bool) :
 (run cfg).p Y_ [e.enc, d.enc, .bool st] = some (.H7 (match Wz st e d with
   | .ok T => [(R9 e d T []).1.enc, MM (R9 e d T []).2, T.ty.enc, .int .i64 0]
   | .error z => [zTm.enc, .list 8 [], F8.enc, .int .i64 z])) := by
 have hc := qJ e hf;have hr := A2T d ds;have zT : DV.agg [.int .i64 0, .int .i64 0, .list 3 []] = F8.enc := by rw [Ty.I5]; rfl
 refine (iy _ _ _).trans ?_;rw [nJ];unfold Wz
 by_cases h1 : e.right = true
 rotate_left
 ·rw [if_neg h1] at hc
  rw [if_neg fun h => h1 h.1]
  simp [Ex.E8, Ex.ag, C8.E8, C8.ag, hc, xI, zT]
 rw [if_pos h1] at hc
 by_cases h2 : d.Aa = true
 rotate_left
 ·rw [if_neg fun h => h2 h.2]
  simp only [Bool.not_eq_true] at h2;rw [h2] at hr;simp [Ex.E8, Ex.ag, C8.E8, C8.ag, hc, hr, xI, zT]
 rw [if_pos ⟨h1, h2⟩];rw [h2] at hr;have jp : JP [.map false [], .box (W_ st 0 [] .full 0)] 1 0 := ⟨by simp, by simp, by omega⟩
 have sp := A34 st e h1 hf d [] [] h2 ds (fun x hx => by simp at hx) (by simpa using hm) [.map false [], .box (W_ st 0 [] .full 0)] 1 0 jp [] [] .full j6.nil (.inl rfl) (by simpa using hs)
 have e0 : Q7 [.map false [], .box (W_ st 0 [] .full 0)] 1 0 st [] [] .full 0 = [D7.map false [], .box [(.bool st, .val), (.undef, .map 0), (.list 8 [], .full), (.int .i64 0, .val)]] := rfl;rw [e0] at sp;obtain ⟨v, es, L, m, er, q1, q2, q3, q4, q5⟩ := sp;have nl : F9 [] = .list 5 [] := rfl;rw [nl] at q1;have p9 := Aw jp st es L m er;cases hj : jt st e d [] [] with
 | ok T =>
   rw [hj] at q5;simp only [jW] at q5;obtain ⟨rfl, rfl, rfl⟩ := q5;simp [Ex.E8, Ex.ag, C8.E8, C8.ag, hc, hr, q1, p9, Bp jp, B33 q4, Tm.E8, Ty.E8, Ty.ag]
 | error z =>
   rw [hj] at q5;simp only [jW] at q5;obtain ⟨rfl, hz⟩ := q5;simp [Ex.E8, Ex.ag, C8.E8, C8.ag, hc, hr, q1, q2, p9, hz, Bp jp, xI, zT]
theorem A2R (e : Ex) (d : C8) (hf : e.fit) (ds : d.DC) (hm : 2 * e.J3 ≤ lim) (hs : 2 * e.size ≤ 1048576) :
 (run cfg).p Lc [e.enc, d.enc] = some (match Wz true e d with
   | .ok T => .H7 [T.ty.enc, .int .i64 0]
   | .error z => .H7 [F8.enc, .int .i64 z]) := by
 have hc := A33 e d hf ds hm hs true;refine (dH _ _).trans ?_;rw [iN];cases hj : Wz true e d with
 | ok T => rw [hj] at hc; simp [Ex.E8, Ex.ag, C8.E8, C8.ag, hc, N8, Ty.E8, Ty.ag]
 | error z => rw [hj] at hc; simp [Ex.E8, Ex.ag, C8.E8, C8.ag, hc, N8, Ty.E8, Ty.ag]
end Go.Su

/-
 What the reference's judging does: the small functions, a derivation's own part.
-/
namespace Go.Su
def vV (lax : Bool) (er : Int) : List (DV × Meta) := [(.int .i64 er, .val), (.bool lax, .val)]
def V5 (sg : List D7) (p : Nat) (lax : Bool) (er : Int) : List D7 := sg.set p (.box (vV lax er))
@[simp] theorem B4B (lax : Bool) (er : Int) : X5 (vV lax er) 0 = some (.int .i64 er) := rfl
@[simp] theorem B7s (lax : Bool) (er : Int) : X5 (vV lax er) 1 = some (.bool lax) := rfl
@[simp] theorem B6T (lax : Bool) (er : Int) : (vV lax er)[0]? = some (.int .i64 er, .val) := rfl
@[simp] theorem B6U (lax : Bool) (er z : Int) : (vV lax er).set 0 (.int .i64 z, .val) = vV lax z := rfl
section
variable {sg : List D7} {p : Nat} (h : p < sg.length) (lax : Bool) (er : Int)
include h
theorem Cm : M4 (V5 sg p lax er) p = some (vV lax er) := by
 simp [M4, V5, List.getElem?_set_self h]
omit h in
theorem A7v (z : Int) : (V5 sg p lax er).set p (.box (vV lax z)) = V5 sg p lax z := by
 unfold V5;rw [List.set_set]
theorem Gw (z : Int) : (run cfg).r BM [(.undef, .ptr p 0), (.int .i64 z, .val)] (V5 sg p lax er) = some ([], V5 sg p lax (if er = 0 then z else er)) := by
 refine (dN _ _ _).trans ?_;rw [iW]
 by_cases h0 : er = 0
 ·simp [Cm h, h0, A7v]
 ·simp [Cm h, h0]
theorem Ev (a b : Ty) (ha : a.right = true) (hb : b.right = true) : (run cfg).r BL [(.undef, .ptr p 0), (a.enc, .val), (b.enc, .val)] (V5 sg p lax 0) = some ([], V5 sg p lax (if a.agrees b = true then 0 else 4)) := by
 have hg := A6f a ha b hb;refine (VZ _ _ _ _).trans ?_;rw [XX];cases jd : a.agrees b <;> rw [jd] at hg <;> simp [Cm h, Ty.E8, Ty.ag, hg, A7v]
theorem Ab (hz : er ≠ 0) (x y z : DV) (b : Ty) : (run cfg).r BL [(.undef, .ptr p 0), (.agg [x, y, z], .val), (b.enc, .val)] (V5 sg p lax er) = some ([], V5 sg p lax er) := by
 refine (VZ _ _ _ _).trans ?_;rw [XX];have : D5 3 (.agg [x, y, z]) = true := rfl;simp [Cm h, hz, this]
end
theorem wE (a : Ty) (ha : a.none = true ∨ a.right = true) (ts : List Ty) (h : a.kind = 0 → 0 < ts.length) : (run cfg).p V_ [a.enc, .list 3 (ts.map Ty.enc)] = some (K4 a (ts.getD 0 F8)).enc := by
 refine (pG _ _).trans ?_;rw [su];have hn := Iz a
 by_cases h0 : a.kind = 0
 ·have hl := h h0
  have Eg : a.none = true := by
   rcases ha with ha | ha
   ·exact ha
   ·exact absurd h0 (Ty.k0 ha)
  rw [Eg] at hn;have e1 : F3 3 (.list 3 (ts.map Ty.enc)) (.int .i64 (0 : Int)) = some (ts.getD 0 F8).enc := by
   have := F4 (e := Ty.enc) (sz := 3) (k := .i64) (i := 0) hl;rw [List.getD_eq_getElem?_getD, List.getElem?_eq_getElem hl];exact this
  simp [Ty.E8, Ty.ag];simp [hn, e1, K4, h0, Ty.E8, Ty.ag]
 ·have Eg : a.none = false := by
   cases hx : a.none with
   | false => rfl
   | true => exact absurd (Ty.GM hx) h0
  rw [Eg] at hn;simp [Ty.E8, Ty.ag, hn, K4, h0]
theorem bL (l : List Nm) (s : ByteArray) (t : Ty) (hl : l.length < lim) : (run cfg).p Pn [F9 l, .str s, t.enc] = some (F9 (l ++ [⟨s, t, []⟩])) := by
 refine (pI _ _ _).trans ?_;rw [tC];have e1 : R6 5 (.list 5 []) (F9 l) = some (F9 l) := by
  have := DL (sz := 5) (a := []) (b := l.map Nm.enc) (by simp; omega)
  rw [List.nil_append] at this;exact this
 have e2 := Ac (e := Nm.enc) (sz := 5) (l := l) (x := ⟨s, t, []⟩) hl;have e2' : R6 5 (F9 l) (.list 5 [.agg [.str s, .int .i64 t.kind, .int .i64 t.n, .list 3 (t.kids.map Ty.enc), .list 1 []]]) = some (F9 (l ++ [⟨s, t, []⟩])) := e2;simp [e1, e2']
theorem A0b (l : List Nm) (hl : l.length ≤ lim) (n : ByteArray) : ∃ i : Int, (run cfg).p YQ [F9 l, .str n] = some (.int .i64 i) ∧ (match Av l n with
 | none => i < 0
 | some x => 0 ≤ i ∧ F3 5 (F9 l) (.int .i64 i) = some x.enc) := by
 have hb := big hl;have loop : ∀ (m : Nat), m ≤ l.length → ∃ i : Int, Qh (run cfg) (F9 l) (.str n) (.int .i64 ((m : Int) - 1)) = some (.int .i64 i) ∧ (match Av (l.take m) n with
  | none => i < 0
  | some x => 0 ≤ i ∧ F3 5 (F9 l) (.int .i64 i) = some x.enc) := by
  intro m
  induction m with
  | zero =>
    intro _;refine ⟨-1, ?_, by simp [Av]⟩
    rw [Og];simp
  | succ m ih =>
    intro Lt;have h : m < l.length := by omega
    obtain ⟨i, h1, h2⟩ := ih (by omega)
    have e1 : ((m + 1 : Nat) : Int) - 1 = (m : Int) := by omega
    have e2 : F3 5 (F9 l) (.int .i64 (m : Int)) = some l[m].enc := F4 h;have e3 : A8 .sub (.int .i64 (m : Int)) (.int .i64 1) = some (.int .i64 ((m : Int) - 1)) := by rw [Df, CS (by omega) (by omega)]
    rw [e1]
    by_cases hn : l[m].name = n
    ·subst hn
     refine ⟨m, ?_, ?_⟩
     ·rw [Og]
      simp [e2]
     ·unfold Av
      rw [List.take_succ_eq_append_getElem h, List.reverse_append];simp [e2]
    ·refine ⟨i, ?_, ?_⟩
     ·rw [Og]
      simp [e2, hn, e3, h1]
     ·unfold Av at h2 ⊢
      rw [List.take_succ_eq_append_getElem h, List.reverse_append];simpa [hn] using h2
 obtain ⟨i, h1, h2⟩ := loop l.length (Nat.le_refl _);rw [List.take_length] at h2;refine ⟨i, (uK _ _).trans ?_, h2⟩;rw [yx];have e3 : A8 .sub (.int .i64 (l.length : Int)) (.int .i64 1) = some (.int .i64 ((l.length : Int) - 1)) := by rw [Df, CS (by omega) (by omega)]
 simp [e3, h1]
theorem A2f (e : Ex) (hr : e.right = true) (hf : e.fit) : (run cfg).p qP [e.enc] = some (.H7 [.int .i64 (M8 e []), .bool (Af e)]) := by
 have own := Ex.V7 hr;have k1 := own.k1;have na := Iz e.a;have nb := Iz e.b;have hna : e.a.none = decide (e.a.kind = 0) := by
  rcases own.a with h | h
  ·rw [h]; simp [Ty.GM h]
  ·have := Ty.k0 h
   cases hx : e.a.none with
   | true => exact absurd (Ty.GM hx) this
   | false => simp [this]
 have hnb : e.b.none = decide (e.b.kind = 0) := by
  rcases own.b with h | h
  ·rw [h]; simp [Ty.GM h]
  ·have := Ty.k0 h
   cases hx : e.b.none with
   | true => exact absurd (Ty.GM hx) this
   | false => simp [this]
 rw [hna] at na;rw [hnb] at nb;have a00 : A8 .add (.int .i64 0) (.int .i64 0) = some (.int .i64 0) := CO (by omega) (by omega)
 have a01 : A8 .add (.int .i64 0) (.int .i64 1) = some (.int .i64 1) := CO (by omega) (by omega)
 have ZU : A8 .add (.int .i64 1) (.int .i64 0) = some (.int .i64 1) := CO (by omega) (by omega)
 have Uj : A8 .add (.int .i64 1) (.int .i64 1) = some (.int .i64 2) := CO (by omega) (by omega)
 refine (zL _).trans ?_;rw [A1v];have h6 : ∀ x y : Int, (x = if e.a.kind = 0 then 1 else 0) → (y = if e.b.kind = 0 then 1 else 0) → WE (run cfg) (.int .i64 x) (.int .i64 y) e.enc = some (.H7 [.int .i64 (M8 e []), .bool (Af e)]) := by
  intro x y hx hy;rw [sZ]
  by_cases h7 : e.kind = 7
  ·simp [h7, M8, Af]
  by_cases h8 : e.kind = 8
  ·simp [h8, M8, Af]
  by_cases PK : e.kind = 13
  ·simp [PK, M8, Af]
  by_cases h9 : e.kind = 9
  ·by_cases ha : e.a.kind = 0 <;> simp [h9, M8, Af, hx, ha]
  by_cases Dn : e.kind = 11
  ·by_cases ha : e.a.kind = 0
   ·have hk : 0 < e.kids.length := own.CX (i := 0) (by simp [K8, Dn])
    have e1 : F3 16 (.list 16 (e.kids.map Ex.enc)) (.int .i64 (0 : Int)) = some (e.kid 0).enc := by
     rw [Ar hk];exact F4 (e := Ex.enc) (sz := 16) (k := .i64) (i := 0) hk
    have hm : e.kid 0 ∈ e.kids := by rw [Ar hk]; exact List.getElem_mem hk
    have hv := A6c (e.kid 0) (hf.kid hm) (Ex.P5 hr hm);simp [Dn, ha, hx, e1, Ex.E8, Ex.ag, hv, M8, Af]
   ·simp [Dn, ha, hx, M8, Af]
  by_cases Ee : e.kind = 12
  ·by_cases ha : e.a.kind = 0 <;> by_cases hb : e.b.kind = 0 <;> simp [Ee, ha, hb, hx, hy, M8, Af, a00, a01, ZU, Uj]
  by_cases Ki : e.kind = 14
  ·simp [Ki, M8, Af]
  ·by_cases h1 : e.kind = 1
   ·simp [h1, M8, Af, Av]
   ·simp [h1, h7, h8, PK, Ki, Dn, h9, Ee, M8, Af]
 by_cases ha : e.a.kind = 0 <;> by_cases hb : e.b.kind = 0
 all_goals
  have := h6 (if e.a.kind = 0 then 1 else 0) (if e.b.kind = 0 then 1 else 0) rfl rfl
  simp only [ha, hb, if_true, if_false, decide_true, decide_false] at this na nb;simp [Ty.E8, Ty.ag, na, nb, sW, this]
end Go.Su

/-
 What the reference's judging does: a derivation's own part, right derivations.
-/
namespace Go.Su
theorem C8.types_size {d : C8} {t : Ty} (h : t ∈ d.types) : t.size < d.J3 := by
 have := AY (List.mem_map_of_mem (f := Ty.size) h);have := C8.UR d;omega
theorem C8.SE (d : C8) : d.types.length < d.J3 := by
 have : ∀ l : List Ty, l.length ≤ (l.map Ty.size).sum := by
  intro l
  induction l with
  | nil => simp
  | cons x l ih => have := Ty.Nw x; simp only [List.length_cons, List.map_cons, List.sum_cons]; omega
 have := this d.types;have := C8.UR d;omega
def eY (er z : Int) : Int := if er = 0 then z else er
theorem A2n (er : Int) : eY er 0 = er := by unfold eY; split <;> omega
section
variable {sg : List D7} {p : Nat} (h : p < sg.length) (lax : Bool)
include h
theorem A9W (out : List Int) (hl : out.length ≤ lim) (d : C8) (i : Nat) (hi : i < d.types.length) (R_ : (d.types.length : Int) < 4294967297) (vs : List Int) (hv : vs.length ≤ lim) : ∀ (m k : Nat) (er : Int), k + m = vs.length →
 IL (run cfg) p (E9 out) (.int .i64 i) (E9 vs) (.int .i64 k) d.enc (V5 sg p lax er) = FJ (run cfg) p (E9 out) (.int .i64 ((i : Int) + 1)) d.enc (V5 sg p lax (eY er (if (vs.drop k).all (fun v => decide (v ∈ out)) = true then 0 else 6))) := by
 have hb := big hv;intro m
 induction m with
 | zero =>
   intro k er hk;rw [RJ, List.drop_of_length_le (by omega)]
   have : ¬ k < vs.length := by omega
   simp [this, A2n, K6 (show i < 9223372036854775807 by omega)]
 | succ m ih =>
   intro k er hk;have I4 : k < vs.length := by omega
   have nx := ih (k + 1);push_cast at nx;have DD := vz out hl vs[k];rw [RJ, List.drop_eq_getElem_cons I4, List.all_cons]
   by_cases hm : vs[k] ∈ out
   ·simp only [hm, decide_true] at DD
    simp [I4, U3 I4, DD, K6 (show k < 9223372036854775807 by omega), nx er (by omega), hm]
   ·simp only [hm, decide_false] at DD
    have sw := Gw h lax er 6;simp [I4, U3 I4, DD, sw, K6 (show k < 9223372036854775807 by omega), nx _ (by omega), hm]
    congr 1
    congr 1
    simp only [eY]
    by_cases h0 : er = 0
    ·simp only [h0, if_true]; simp
    ·simp [h0]
theorem A9V (out : List Int) (hl : out.length ≤ lim) (d : C8) (hd : d.J3 ≤ lim) : ∀ (m k : Nat) (er : Int), k + m = d.types.length →
 FJ (run cfg) p (E9 out) (.int .i64 k) d.enc (V5 sg p lax er) = some ([E9 out], V5 sg p lax (eY er (LW (!lax) out (d.types.drop k)))) := by
 have htl := C8.SE d;have hb : d.types.length < 4294967297 := big (by omega)
 intro m
 induction m with
 | zero =>
   intro k er hk;rw [RI, List.drop_of_length_le (by omega)]
   have : ¬ k < d.types.length := by omega
   simp [this, LW, A2n]
 | succ m ih =>
   intro k er hk;have I4 : k < d.types.length := by omega
   have nx := fun er => ih (k + 1) er (by omega)
   push_cast at nx;have Y4 := C8.types_size (List.getElem_mem I4);have R_ : d.types[k].thin = true := Ty.CG (by omega)
   have hw := Ow 5 d.types[k] R_;have hv := z_ d.types[k] (by omega)
   have hvl : d.types[k].vars.length ≤ lim := by
    have := Ty.A2l d.types[k] [];simp at this;unfold Ty.vars;omega
   have inner := fun er => A9W h lax out hl d k I4 (by omega) d.types[k].vars hvl d.types[k].vars.length 0 er (by omega)
   have e23 : ∀ er, Ji (run cfg) p (E9 out) (.int .i64 k) d.enc (V5 sg p lax er) = some ([E9 out], V5 sg p lax (eY (eY er (if ae out d.types[k] = true then 0 else 6)) (LW (!lax) out (d.types.drop (k + 1))))) := by
    intro er;rw [cz];have := inner er;have hi : d.types[k].vars.all (fun v => decide (v ∈ out)) = ae out d.types[k] := rfl
    rw [List.drop_zero, hi] at this;simp only [Int.natCast_zero, Int.ofNat_zero, Int.cast_ofNat_Int] at this;simp [F4 I4, Ty.E8, Ty.ag, hv, this, nx]
   rw [RI, List.drop_eq_getElem_cons I4, LW];cases lax with
   | true =>
     simp [I4, Cm h, e23]
     congr 1
     by_cases DD : ae out d.types[k] = true
     ·simp [DD, A2n]
     ·simp only [Bool.not_eq_true] at DD
      simp only [DD, eY]
      by_cases h0 : er = 0 <;> simp [h0]
   | false =>
     cases h5 : d.types[k].without 5 with
     | true =>
       rw [h5] at hw;simp [I4, Cm h, F4 I4, Ty.E8, Ty.ag, hw, e23]
       congr 1
       by_cases DD : ae out d.types[k] = true
       ·simp [DD, A2n]
       ·simp only [Bool.not_eq_true] at DD
        simp only [DD, eY]
        by_cases h0 : er = 0 <;> simp [h0]
     | false =>
       rw [h5] at hw;have sw := Gw h false er 9;simp [I4, Cm h, F4 I4, Ty.E8, Ty.ag, hw, sw, e23]
       congr 1
       simp only [eY]
       by_cases h0 : er = 0 <;> simp [h0]
theorem B1i (S : List Int) (d : C8) (hd : S.length + d.J3 ≤ lim) : ∀ (m k : Nat) (er : Int), k + m = d.vars.length →
 IK (run cfg) p (E9 (S ++ d.vars.take k)) (.int .i64 k) d.enc (V5 sg p lax er) = FJ (run cfg) p (E9 (S ++ d.vars)) (.int .i64 0) d.enc (V5 sg p lax (eY er (if (∀ j (h : j < d.vars.length), k ≤ j → d.vars[j] ∉ S ∧ d.vars[j] ∉ d.vars.take j) then 0 else 6))) := by
 have hvl := C8.XC d;have hb : d.vars.length < 4294967297 := big (by omega)
 intro m
 induction m with
 | zero =>
   intro k er hk;rw [RH, List.take_of_length_le (by omega)]
   have : ¬ k < d.vars.length := by omega
   have h2 : ∀ j (h : j < d.vars.length), k ≤ j → d.vars[j] ∉ S ∧ d.vars[j] ∉ d.vars.take j := fun j h h' => by omega
   rw [if_pos h2, A2n];simp [this]
 | succ m ih =>
   intro k er hk;have I4 : k < d.vars.length := by omega
   have nx := fun er => ih (k + 1) er (by omega)
   push_cast at nx;have hl : (S ++ d.vars.take k).length ≤ lim := by simp; omega
   have DD := vz (S ++ d.vars.take k) hl d.vars[k];have UI := Ac (e := fun n : Int => DV.int .i64 n) (sz := 1) (l := S ++ d.vars.take k) (x := d.vars[k]) (by simp; omega)
   have lH : R6 1 (E9 (S ++ d.vars.take k)) (.list 1 [.int .i64 d.vars[k]]) = some (E9 (S ++ d.vars.take (k + 1))) := by
    rw [List.take_succ_eq_append_getElem I4, ← List.append_assoc];exact UI
   have e17 : ∀ er, OY (run cfg) p (E9 (S ++ d.vars.take k)) (.int .i64 k) d.enc (V5 sg p lax er) = IK (run cfg) p (E9 (S ++ d.vars.take (k + 1))) (.int .i64 ((k : Int) + 1)) d.enc (V5 sg p lax er) := by
    intro er;rw [cu];simp [U3 I4, lH, K6 (show k < 9223372036854775807 by omega)]
   rw [RH]
   by_cases hv : d.vars[k] ∈ S ++ d.vars.take k
   ·simp only [hv, decide_true] at DD
    have : ¬ ∀ j (h : j < d.vars.length), k ≤ j → d.vars[j] ∉ S ∧ d.vars[j] ∉ d.vars.take j := fun hh => by
     obtain ⟨a, b⟩ := hh k I4 (Nat.le_refl _);rcases List.mem_append.1 hv with hv | hv
     ·exact a hv
     ·exact b hv
    rw [if_neg this];have sw := Gw h lax er 6;simp [I4, U3 I4, DD, sw, e17, nx]
    congr 1
    congr 1
    simp only [eY]
    by_cases h0 : er = 0 <;> simp [h0]
   ·simp only [hv, decide_false] at DD
    have e1 : (∀ j (h : j < d.vars.length), k ≤ j → d.vars[j] ∉ S ∧ d.vars[j] ∉ d.vars.take j) ↔ ∀ j (h : j < d.vars.length), k + 1 ≤ j → d.vars[j] ∉ S ∧ d.vars[j] ∉ d.vars.take j := by
     constructor
     ·intro hh j hj hkj; exact hh j hj (by omega)
     ·intro hh j hj hkj
      rcases Nat.lt_or_ge k j with h1 | h1
      ·exact hh j hj h1
      ·have : k = j := by omega
       subst this;exact ⟨fun h => hv (List.mem_append.2 (.inl h)), fun h => hv (List.mem_append.2 (.inr h))⟩
    rw [ifc e1];simp [I4, U3 I4, DD, e17, nx]
end
theorem B06 {S S' : List Int} (h : ∀ v, v ∈ S ↔ v ∈ S') (t : Ty) : ae S t = ae S' t := by
 rw [Bool.eq_iff_iff, A7k, A7k];exact ⟨fun g v hv => (h v).1 (g v hv), fun g v hv => (h v).2 (g v hv)⟩
theorem vL (st : Bool) {S S' : List Int} (h : ∀ v, v ∈ S ↔ v ∈ S') : ∀ ts, LW st S ts = LW st S' ts
 | [] => rfl
 | t :: ts => by simp only [LW, B06 h, vL st h ts]
theorem A8R {S S' : List Int} (h : ∀ v, v ∈ S ↔ v ∈ S') (l : List Int) : takes S l = takes S' l := by
 rw [Bool.eq_iff_iff, SC, SC];exact ⟨fun g => ⟨g.1, fun v hv hS => g.2 v hv ((h v).2 hS)⟩, fun g => ⟨g.1, fun v hv hS => g.2 v hv ((h v).1 hS)⟩⟩
section
variable {sg : List D7} {p : Nat} (h : p < sg.length) (lax : Bool)
include h
theorem B4k (e : Ex) (d : C8) (l : List Nm) (hx : e.kind = 1 → Av l e.name ≠ none) {S S' : List Int} (hS : ∀ v, v ∈ S ↔ v ∈ S') (hd : S'.length + d.J3 ≤ lim) :
 ∃ out, Qg (run cfg) p (E9 S') (.int .i64 (M8 e l)) (.bool (Af e)) e.enc d.enc (V5 sg p lax 0) = some ([E9 out], V5 sg p lax (Cu (!lax) e d l S)) ∧ (Cu (!lax) e d l S = 0 → out = S' ++ d.vars) := by
 have h0 : ¬ (e.kind = 1 ∧ Av l e.name = none) := fun hh => hx hh.1 hh.2
 have sw := Gw h lax 0 8;rw [if_pos rfl] at sw;unfold Cu;rw [if_neg h0, iV]
 by_cases s2 : d.kids.length = e.kids.length
 rotate_left
 ·have s2' : ¬ ((d.kids.length : Int) = (e.kids.length : Int)) := by omega
  have UL : Gu e d l = false := by simp [Gu, s2]
  rw [if_pos UL];exact ⟨[], by simp [s2', sw], by omega⟩
 by_cases s1 : d.types.length = M8 e l
 rotate_left
 ·have s1' : ¬ ((d.types.length : Int) = (M8 e l : Int)) := by omega
  have UL : Gu e d l = false := by simp [Gu, s1]
  rw [if_pos UL];exact ⟨[], by simp [s1, s1', s2, sw], by omega⟩
 by_cases s3 : d.vars = [] ∨ Af e = true
 rotate_left
 ·simp only [not_or, Bool.not_eq_true] at s3
  have s3' : 0 < d.vars.length := List.length_pos_iff.2 s3.1;have UL : Gu e d l = false := by simp [Gu, s1, s2, s3.1, s3.2]
  rw [if_pos UL];exact ⟨[], by simp [s1, s2, s3.1, s3.2, s3', sw], by omega⟩
 have UL : Gu e d l = true := by
  unfold Gu;simp only [s1, s2, decide_true, Bool.true_and, Bool.or_eq_true, decide_eq_true_eq];exact s3
 rw [if_neg (by rw [UL]; simp)]
 have e11 : Jh (run cfg) p (E9 S') d.enc (V5 sg p lax 0) = some ([E9 (S' ++ d.vars)], V5 sg p lax (eY (if takes S d.vars = true then 0 else 6) (LW (!lax) (S' ++ d.vars) d.types))) := by
  have e1 : R6 1 (.list 1 []) (E9 S') = some (E9 S') := by
   have := DL (sz := 1) (a := []) (b := S'.map fun n : Int => DV.int .i64 n) (by simp; omega)
   rw [List.nil_append] at this;exact this
  have hvl := C8.XC d;have lp := B1i h lax S' d hd d.vars.length 0 0 (by omega)
  have lt := A9V h lax (S' ++ d.vars) (by simp; omega) d (by omega) d.types.length 0
  simp only [List.take_zero, List.append_nil, List.drop_zero, Int.natCast_zero, Int.ofNat_zero, Int.cast_ofNat_Int] at lp lt;rw [cZ];simp [e1];rw [lp, lt _ (by omega)]
  have : (∀ j (h : j < d.vars.length), 0 ≤ j → d.vars[j] ∉ S' ∧ d.vars[j] ∉ d.vars.take j) ↔ takes S d.vars = true := by
   rw [A8R hS, SC, ← lW];constructor
   ·intro hh
    refine ⟨fun j hj => (hh j hj (Nat.zero_le _)).2, fun v hv => ?_⟩
    obtain ⟨j, hj, rfl⟩ := List.getElem_of_mem hv;exact (hh j hj (Nat.zero_le _)).1
   ·rintro ⟨h1, h2⟩ j hj -
    exact ⟨h2 _ (List.getElem_mem hj), h1 j hj⟩
  rw [ifc this]
  congr 3
 have hty : LW (!lax) (S' ++ d.vars) d.types = LW (!lax) (if e.kind = 12 then d.vars ++ S else S) d.types := by
  by_cases Ee : e.kind = 12
  ·rw [if_pos Ee]
   refine vL _ (fun v => ?_) _
   rw [List.mem_append, List.mem_append, hS v, or_comm]
  ·rw [if_neg Ee]
   rcases s3 with s3 | s3
   ·rw [s3, List.append_nil]
    exact vL _ (fun v => (hS v).symm) _
   ·have : e.kind = 11 := by
     simp only [Af, Ee] at s3;simp at s3;exact s3.1.1
    have : d.types = [] := List.eq_nil_of_length_eq_zero (by rw [s1]; simp [M8, this])
    rw [this];rfl
 refine ⟨S' ++ d.vars, ?_, fun _ => rfl⟩
 have e8 : Jh (run cfg) p (E9 S') d.enc (V5 sg p lax 0) = some ([E9 (S' ++ d.vars)], V5 sg p lax (if takes S d.vars = false then 6 else LW (!lax) (if e.kind = 12 then d.vars ++ S else S) d.types)) := by
  rw [e11, hty];cases takes S d.vars <;> simp [eY]
 rcases s3 with s3 | s3
 ·have ji : ¬ (0 : Int) < (d.vars.length : Int) := by rw [s3]; simp
  simp [s1, s2, s3];rw [s3] at e8;simpa using e8
 ·by_cases hv : 0 < d.vars.length
  ·simp [s1, s2, s3, hv]
   simpa using e8
  ·simp [s1, s2, s3, hv]
   simpa using e8
theorem A8N (e : Ex) (hr : e.right = true) (hf : e.fit) (d : C8) (l : List Nm) (hl : l.length ≤ lim) {S S' : List Int} (hS : ∀ v, v ∈ S ↔ v ∈ S') (hd : S'.length + d.J3 ≤ lim) :
 ∃ out, (run cfg).r Pm [(.undef, .ptr p 0), (e.enc, .val), (d.enc, .val), (F9 l, .val), (E9 S', .val)] (V5 sg p lax 0) = some ([E9 out], V5 sg p lax (Cu (!lax) e d l S)) ∧ (Cu (!lax) e d l S = 0 → out = S' ++ d.vars) := by
 have key : ∀ {q}, WC (run cfg) p e.enc d.enc (F9 l) (E9 S') (V5 sg p lax 0) = some q → (run cfg).r Pm [(.undef, .ptr p 0), (e.enc, .val), (d.enc, .val), (F9 l, .val), (E9 S', .val)] (V5 sg p lax 0) = some q := fun hq => A2o _ _ _ _ _ _ hq
 have e0 := sV (run cfg) p e.enc d.enc (F9 l) (E9 S') (V5 sg p lax 0)
 by_cases h1 : e.kind = 1
 ·have hm := A2f e hr hf
  have hjo : Af e = false := by simp [Af, h1]
  obtain ⟨i, i1, i2⟩ := A0b l hl e.name;cases hx : Av l e.name with
  | none =>
    rw [hx] at i2;have KM : Cu (!lax) e d l S = 6 := by simp [Cu, h1, hx]
    have sw := Gw h lax 0 6;rw [if_pos rfl] at sw;have i3 : i < 0 := i2;refine ⟨[], key ?_, by rw [KM]; omega⟩
    rw [e0, KM];simp [Ex.E8, Ex.ag, hm, N8, i1];simp [h1, i3, sw]
  | some x =>
    rw [hx] at i2;obtain ⟨i3, i4⟩ := i2;have i5 : ¬ i < 0 := by omega
    obtain ⟨out, o1, o2⟩ := B4k h lax e d l (fun _ => by rw [hx]; simp) hS hd
    have hj : M8 e l = x.vars.length := by simp [M8, h1, hx]
    rw [hj, hjo] at o1;refine ⟨out, key ?_, o2⟩;rw [e0];simp [Ex.E8, Ex.ag, hm, N8, i1];simp [h1, i4, i5, hjo, o1]
 ·have hm := A2f e hr hf
  obtain ⟨out, o1, o2⟩ := B4k h lax e d l (fun h => absurd h h1) hS hd
  have hj : M8 e l = M8 e [] := by simp [M8, h1]
  rw [hj] at o1;refine ⟨out, key ?_, o2⟩;rw [e0];simp [Ex.E8, Ex.ag, hm, N8, h1, o1]
end
end Go.Su

/-
 What the reference's judging does: kids, and what a call comes to.
-/
namespace Go.Su
def JT.enc : JT → DV
 | .mk t ks => .agg [.int .i64 t.kind, .int .i64 t.n, .list 3 (t.kids.map Ty.enc), .list 4 (ks.map JT.enc)]
theorem JT.I5 (T : JT) : T.enc = .agg [.int .i64 T.ty.kind, .int .i64 T.ty.n, .list 3 (T.ty.kids.map Ty.enc), .list 4 (T.kids.map JT.enc)] := by
 cases T;rw [JT.enc];rfl
def NN (t : Ty) (ks : List DV) : DV := .agg [.int .i64 t.kind, .int .i64 t.n, .list 3 (t.kids.map Ty.enc), .list 4 ks]
theorem JT.NN (t : Ty) (ks : List JT) : (JT.mk t ks).enc = Go.Su.NN t (ks.map JT.enc) := JT.I5 _
def Ag (v : DV) : Prop := ∃ a b c ks, v = .agg [a, b, c, .list 4 ks]
theorem Ag.of (a b c : DV) (ks : List DV) : Ag (.agg [a, b, c, .list 4 ks]) := ⟨a, b, c, ks, rfl⟩
theorem Ag.T (t : Ty) (ks : List DV) : Ag (NN t ks) := ⟨_, _, _, _, rfl⟩
theorem Ag.enc (T : JT) : Ag T.enc := by rw [JT.I5]; exact ⟨_, _, _, _, rfl⟩
theorem Ay (a b c : DV) (ks : List DV) (i : Nat) (T : JT) (h : ks[i]? = some T.enc) : (run cfg).p Z9 [.agg [a, b, c, .list 4 ks], .int .i64 (i : Int)] = some T.ty.enc := by
 refine (Zu _ _).trans ?_;rw [fo];have hl : i < ks.length := by
  rcases Nat.lt_or_ge i ks.length with h1 | h1
  ·exact h1
  ·rw [List.getElem?_eq_none h1] at h; cases h
 have e1 : F3 4 (.list 4 ks) (.int .i64 (i : Int)) = some T.enc := by rw [rM, h]
 have e2 : D5 4 (.agg [a, b, c, .list 4 ks]) = true := rfl;have e3 : A7 3 (.agg [a, b, c, .list 4 ks]) = .list 4 ks := rfl;have e4 : dLen (.list 4 ks) = some (.int .i64 ks.length) := rfl;rw [e2, e3, e4, O8, H6, e1];simp [hl, JT.I5];exact Ty.E8 _
theorem U5 {v : DV} (hv : Ag v) (i : Nat) : ∃ x y z, (run cfg).p Z9 [v, .int .i64 (i : Int)] = some (.agg [x, y, z]) := by
 obtain ⟨a, b, c, ks, rfl⟩ := hv;have e2 : D5 4 (.agg [a, b, c, .list 4 ks]) = true := rfl;have e3 : A7 3 (.agg [a, b, c, .list 4 ks]) = .list 4 ks := rfl;have e4 : dLen (.list 4 ks) = some (.int .i64 ks.length) := rfl;have e0 := fo (run cfg) (.agg [a, b, c, .list 4 ks]) (.int .i64 (i : Int));rw [e2, e3, e4, O8, H6] at e0
 by_cases hl : i < ks.length
 ·have e1 : F3 4 (.list 4 ks) (.int .i64 (i : Int)) = some ks[i] := by rw [rM, List.getElem?_eq_getElem hl]
  rw [e1] at e0;simp [hl] at e0;exact ⟨_, _, _, nD _ _ e0⟩
 ·simp [hl] at e0
  exact ⟨_, _, _, nD _ _ e0⟩
def O0 (sg : List D7) (p : Nat) (lax : Bool) (q : Option (List DV × List D7)) (r : Except Int DV) : Prop :=
 ∃ v er, q = some ([v], V5 sg p lax er) ∧ Ag v ∧ (match r with
   | .ok w => er = 0 ∧ v = w
   | .error z => er = z ∧ z ≠ 0)
def jE : JR → Except Int DV
 | .ok T => .ok T.enc
 | .error z => .error z
theorem UM (T : JT) : jE (.ok T) = .ok T.enc := rfl
theorem Du (z : Int) : jE (.error z) = .error z := rfl
section
variable {sg : List D7} {p : Nat} {lax : Bool}
theorem O0.ok {v : DV} {q : Option (List DV × List D7)} (h : q = some ([v], V5 sg p lax 0)) (hv : Ag v) : O0 sg p lax q (.ok v) := ⟨v, 0, h, hv, rfl, rfl⟩
theorem O0.err {v : DV} {z : Int} {q : Option (List DV × List D7)} (h : q = some ([v], V5 sg p lax z)) (hz : z ≠ 0) (hv : Ag v) : O0 sg p lax q (.error z) := ⟨v, z, h, hv, rfl, hz⟩
theorem O0.then {qa : Option (List DV × List D7)} {ra r : Except Int DV} {k : List DV × List D7 → Option (List DV × List D7)} (h : O0 sg p lax qa ra)
 (p9 : ∀ v, ra = .ok v → Ag v → O0 sg p lax (k ([v], V5 sg p lax 0)) r) (B01 : ∀ z a b c ks, ra = .error z → z ≠ 0 → O0 sg p lax (k ([.agg [a, b, c, .list 4 ks]], V5 sg p lax z)) r) : O0 sg p lax (ob qa k) r := by
 obtain ⟨v, er, h1, h2, h3⟩ := h;rw [h1];cases hr : ra with
 | ok w =>
   rw [hr] at h3;obtain ⟨rfl, rfl⟩ := h3;exact p9 _ hr h2
 | error z =>
   rw [hr] at h3;obtain ⟨rfl, hz⟩ := h3;obtain ⟨a, b, c, ks, rfl⟩ := h2;exact B01 _ a b c ks hr hz
theorem O0.map {q q' : Option (List DV × List D7)} {r : Except Int DV} (h : O0 sg p lax q r) (e : q' = q) : O0 sg p lax q' r := e ▸ h
theorem O0.pass {qa : Option (List DV × List D7)} {r : Except Int DV} (h : O0 sg p lax qa r) {k : List DV × List D7 → Option (List DV × List D7)} (hk : ∀ a b c ks s, k ([.agg [a, b, c, .list 4 ks]], s) = some ([.agg [a, b, c, .list 4 ks]], s)) : O0 sg p lax (ob qa k) r := by
 obtain ⟨v, er, h1, h2, h3⟩ := h;obtain ⟨a, b, c, ks, rfl⟩ := h2;exact ⟨_, er, by rw [h1]; exact hk .., ⟨a, b, c, ks, rfl⟩, h3⟩
end
def wP (lax : Bool) (e : Ex) : Prop := e.right = true → e.fit → ∀ (d : C8) (l : List Nm) (S S' : List Int), d.Aa = true → d.DC → Au l → l.length + 2 * e.J3 ≤ lim → (∀ v, v ∈ S ↔ v ∈ S') → S'.length + d.J3 ≤ lim →
 ∀ (sg : List D7) (p : Nat), p < sg.length → O0 sg p lax ((run cfg).r SL [(.undef, .ptr p 0), (e.enc, .val), (d.enc, .val), (F9 l, .val), (E9 S', .val)] (V5 sg p lax 0)) (jE (jt (!lax) e d l S))
abbrev mT : Meta := .AO [.val, .val, .val, .own]
theorem C8.A9H {d : C8} {i : Nat} (h : i < d.kids.length) : d.kid i ∈ d.kids := by
 have : d.kid i = d.kids[i] := by simp only [C8.kid, List.getD_eq_getElem?_getD, List.getElem?_eq_getElem h, Option.getD_some]
 rw [this];exact List.getElem_mem h
theorem C8.Vh {d : C8} {i : Nat} (h : i < d.kids.length) : d.vars.length + (d.kid i).J3 < d.J3 := by
 rw [C8.U2 d];have := AY (List.mem_map_of_mem (f := C8.J3) (C8.A9H h));omega
def A7H (a b c : DV) (ks : List DV) : JR → Except Int DV
 | .ok T => .ok (.agg [a, b, c, .list 4 (ks ++ [T.enc])])
 | .error z => .error z
theorem FM {a b c v : DV} {ks : List DV} {r : JR} (h : A7H a b c ks r = .ok v) : ∃ T, r = .ok T ∧ v = .agg [a, b, c, .list 4 (ks ++ [T.enc])] := by
 cases r with
 | error z => cases h
 | ok T => cases h; exact ⟨T, rfl, rfl⟩
theorem FL {a b c : DV} {ks : List DV} {r : JR} {z : Int} (h : A7H a b c ks r = .error z) : r = .error z := by
 cases r with
 | error z => cases h; rfl
 | ok T => cases h
section
variable {sg : List D7} {p : Nat} (h : p < sg.length) {lax : Bool}
include h
theorem Eb {z : Int} (hz : z ≠ 0) (e : Ex) (d : C8) (i l s a b c : DV) (ks : List DV) :
 (run cfg).r j4 [(.undef, .ptr p 0), (e.enc, .val), (d.enc, .val), (i, .val), (l, .val), (s, .val), (.agg [a, b, c, .list 4 ks], mT)] (V5 sg p lax z) = some ([.agg [a, b, c, .list 4 ks]], V5 sg p lax z) := by
 refine (XZ _ _ _ _ _ _ _ _).trans ?_;rw [Zh];have e1 : D5 4 (.agg [a, b, c, .list 4 ks]) = true := rfl;simp only [Al, KN, O8, e1, Cm h, H6, B4B];simp [hz];exact ⟨rfl, rfl, rfl, rfl⟩
theorem Lb {e : Ex} {d : C8} {l : List Nm} (c : JC (!lax) e d l) (ih : ∀ k ∈ e.kids, wP lax k) {i : Nat} (hi : i < e.kids.length) {l' : List Nm} {S S' : List Int} (nl : Au l') (u_ : l'.length + 2 * (e.kid i).J3 ≤ lim) (hS : ∀ v, v ∈ S ↔ v ∈ S') (hd : S'.length + (d.kid i).J3 ≤ lim) (x y z : DV) (ks : List DV) (hk : ks.length < lim) :
 O0 sg p lax ((run cfg).r j4 [(.undef, .ptr p 0), (e.enc, .val), (d.enc, .val), (.int .i64 (i : Int), .val), (F9 l', .val), (E9 S', .val), (.agg [x, y, z, .list 4 ks], mT)] (V5 sg p lax 0)) (A7H x y z ks (jk (!lax) e d i l' S)) := by
 have uz := c.BJ hi;have sp := ih _ uz (Ex.P5 c.hr uz) (c.hf.kid uz) (d.kid i) l' S S' (C8.EE c.dr i) (C8.FY c.ds i) nl u_ hS hd sg p h;obtain ⟨v, er, h1, h2, h3⟩ := sp;obtain ⟨a1, a2, a3, ks2, rfl⟩ := h2;have e1 : F3 16 (.list 16 (e.kids.map Ex.enc)) (.int .i64 (i : Int)) = some (e.kid i).enc := by rw [Ar hi]; exact F4 hi
 have Ur : i < d.kids.length := by rw [c.kl]; exact hi
 have e2 : F3 3 (.list 3 (d.kids.map C8.enc)) (.int .i64 (i : Int)) = some (d.kid i).enc := by
  have : d.kid i = d.kids[i] := by simp only [C8.kid, List.getD_eq_getElem?_getD, List.getElem?_eq_getElem Ur, Option.getD_some]
  rw [this]; exact F4 Ur
 have e3 : D5 4 (.agg [x, y, z, .list 4 ks]) = true := rfl;have e4 : D5 4 (.agg [a1, a2, a3, .list 4 ks2]) = true := rfl;have UI : R6 4 (.list 4 ks) (.list 4 [.agg [a1, a2, a3, .list 4 ks2]]) = some (.list 4 (ks ++ [.agg [a1, a2, a3, .list 4 ks2]])) := DL (by simp; omega)
 have p0 : A7 0 (.agg [x, y, z, .list 4 ks]) = x := rfl;have p1 : A7 1 (.agg [x, y, z, .list 4 ks]) = y := rfl;have p2 : A7 2 (.agg [x, y, z, .list 4 ks]) = z := rfl;have p3 : A7 3 (.agg [x, y, z, .list 4 ks]) = .list 4 ks := rfl;have q : (run cfg).r j4 [(.undef, .ptr p 0), (e.enc, .val), (d.enc, .val), (.int .i64 (i : Int), .val), (F9 l', .val), (E9 S', .val), (.agg [x, y, z, .list 4 ks], mT)] (V5 sg p lax 0) = some ([.agg [x, y, z, .list 4 (ks ++ [.agg [a1, a2, a3, .list 4 ks2]])]], V5 sg p lax er) := by
  refine (XZ _ _ _ _ _ _ _ _).trans ?_;rw [Zh];simp only [Al, KN, O8, e3, Cm h, H6, B4B, p0, p1, p2, p3];simp [e1, e2, Ex.E8, Ex.ag, C8.E8, C8.ag, h1, e4, UI]
 refine ⟨_, er, q, Ag.of .., ?_⟩;cases hj : jk (!lax) e d i l' S with
 | error w =>
   unfold jk at hj;rw [hj] at h3;exact h3
 | ok T =>
   unfold jk at hj;rw [hj] at h3;obtain ⟨g1, g2⟩ := h3;exact ⟨g1, by rw [g2]⟩
end
end Go.Su

/-
 What the reference's judging does: pairs, lists, functions, applications.
-/
namespace Go.Su
section
variable (a b c k : DV)
@[simp] theorem B7o : A7 0 (.agg [a, b, c, k]) = a := rfl
@[simp] theorem B7p : A7 1 (.agg [a, b, c, k]) = b := rfl
@[simp] theorem B7q : A7 2 (.agg [a, b, c, k]) = c := rfl
@[simp] theorem B7r : A7 3 (.agg [a, b, c, k]) = k := rfl
@[simp] theorem g4 : D5 4 (.agg [a, b, c, k]) = true := rfl
@[simp] theorem B7l : A7 0 (.agg [a, b, c]) = a := rfl
@[simp] theorem B7m : A7 1 (.agg [a, b, c]) = b := rfl
@[simp] theorem B7n : A7 2 (.agg [a, b, c]) = c := rfl
@[simp] theorem g3 : D5 3 (.agg [a, b, c]) = true := rfl
end
theorem A6s : DV.agg [.int .i64 0, .int .i64 0, .list 3 []] = F8.enc := by rw [Ty.I5]; rfl
structure RJC (lax : Bool) (e : Ex) (d : C8) (l : List Nm) (S S' : List Int) : Prop extends JC (!lax) e d l where
 hS : ∀ v, v ∈ S ↔ v ∈ S'
 hd : S'.length + d.J3 ≤ lim
 ho : Cu (!lax) e d l S = 0
theorem C8.A5j {d : C8} (h : 0 < d.types.length) : F3 3 (.list 3 (d.types.map Ty.enc)) (.int .i64 0) = some d.t0.enc := by
 have : d.t0 = d.types[0] := by simp only [C8.t0, List.getD_eq_getElem?_getD, List.getElem?_eq_getElem h, Option.getD_some]
 rw [this];exact F4 (e := Ty.enc) (sz := 3) (k := .i64) (i := 0) h
theorem C8.B30 {d : C8} (h : 1 < d.types.length) : F3 3 (.list 3 (d.types.map Ty.enc)) (.int .i64 1) = some d.t1.enc := by
 have : d.t1 = d.types[1] := by simp only [C8.t1, List.getD_eq_getElem?_getD, List.getElem?_eq_getElem h, Option.getD_some]
 rw [this];exact F4 (e := Ty.enc) (sz := 3) (k := .i64) (i := 1) h
section
variable {sg : List D7} {p : Nat} (h : p < sg.length) {lax : Bool} {e : Ex} {d : C8} {l : List Nm} {S S' : List Int} (c : RJC lax e d l S S') (ih : ∀ k ∈ e.kids, wP lax k)
include h c ih
theorem vZ {i : Nat} (hi : i < e.kids.length) (x y z : DV) (ks : List DV) (hk : ks.length < lim) :
 O0 sg p lax ((run cfg).r j4 [(.undef, .ptr p 0), (e.enc, .val), (d.enc, .val), (.int .i64 (i : Int), .val), (F9 l, .val), (E9 S', .val), (.agg [x, y, z, .list 4 ks], mT)] (V5 sg p lax 0)) (A7H x y z ks (jk (!lax) e d i l S)) := by
 have hm := Ex.O3 (c.BJ hi);have Z0 := c.len;have uz := C8.Vh (d := d) (i := i) (by rw [c.kl]; exact hi)
 have hd := c.hd;exact Lb h c.toJC ih hi c.nl (by omega) c.hS (by omega) x y z ks hk
omit h ih in
theorem kD {i : Nat} (hi : i < e.kids.length) {T : JT} (hT : jk (!lax) e d i l S = .ok T) : T.ty.right = true :=
 Iw (!lax) _ (Ex.P5 c.hr (c.BJ hi)) _ _ _ T (C8.EE c.dr i) (C8.FY c.ds i) c.nl hT
theorem A8M (hk : e.kind = 10) : O0 sg p lax ((run cfg).r fI [(.undef, .ptr p 0), (e.enc, .val), (d.enc, .val), (F9 l, .val), (E9 S', .val)] (V5 sg p lax 0)) (jE (jt (!lax) e d l S)) := by
 have own := Ex.V7 c.hr;have hn : e.kids.length = 2 := by have := own.kids; simp [K8, hk] at this; omega
 have h0 : 0 < e.kids.length := by omega
 have h1 : 1 < e.kids.length := by omega
 have hj : jt (!lax) e d l S = (jk (!lax) e d 0 l S).bind fun a => (jk (!lax) e d 1 l S).bind fun b =>
  if a.ty.kind = 5 then if b.ty.agrees Bl = true then .ok (.mk Bl [a, b]) else .error 4
  else if a.ty.kind = 9 then if b.ty.agrees (a.ty.kids.getD 0 F8) = true then .ok (.mk (a.ty.kids.getD 1 F8) [a, b]) else .error 4
  else .error 4 := by
  rw [Dv c.ho, vF hk, U0 h0];simp only [U0 h1]
 refine O0.map ?_ (pE p e.enc d.enc (F9 l) (E9 S') _);rw [sU, hj];simp [Ex.E8, Ex.ag, C8.E8, C8.ag];refine O0.then (vZ h c ih h0 _ _ _ [] (by simp [lim])) (fun v hr hv => ?_) (fun z a b c' ks hr hz => ?_)
 rotate_left
 ·rw [FL hr, Q8, Du]
  have kb := Eb h (lax := lax) hz e d (.int .i64 1) (F9 l) (E9 S') a b c' ks;simp [kb, Cm h, hz];exact O0.err rfl hz (Ag.of ..)
 obtain ⟨a, hA, rfl⟩ := FM hr;have GH := kD c h0 hA;rw [hA, O6];simp;refine O0.then (vZ h c ih h1 _ _ _ [a.enc] (by simp [lim])) (fun v hr hv => ?_) (fun z a b c' ks hr hz => ?_)
 rotate_left
 ·rw [FL hr, Q8, Du]
  simp [Cm h, hz];exact O0.err rfl hz (Ag.of ..)
 obtain ⟨b, hB, rfl⟩ := FM hr;have hBr := kD c h1 hB;have t0 := Ay (.int .i64 0) (.int .i64 0) (.list 3 []) [a.enc, b.enc] 0 a rfl;have t1 := Ay (.int .i64 0) (.int .i64 0) (.list 3 []) [a.enc, b.enc] 1 b rfl;simp only [Int.natCast_zero, Int.natCast_one, Int.ofNat_zero, Int.cast_ofNat_Int] at t0 t1;rw [hB, O6];simp [Cm h, t0]
 by_cases k5 : a.ty.kind = 5
 ·have hdy := Ty.A9m GH k5
  have hf := Ev h lax b.ty a.ty hBr GH;rw [hdy] at hf;have hd5 : Bl.kind = 5 := rfl;simp [hdy, Ty.E8, Ty.ag, t1, hf];simp [hd5]
  by_cases Kj : b.ty.agrees Bl = true
  ·simp [Kj, UM]
   refine O0.ok ?_ (Ag.enc _);rw [JT.NN];rfl
  ·simp only [Bool.not_eq_true] at Kj
   simp [Kj, Du];exact O0.err rfl (by omega) (Ag.of ..)
 by_cases k9 : a.ty.kind = 9
 ·have Dt : a.ty.kids.length = 2 := by
   have := (Ty.Z6.1 GH).1;simp [arity, k9] at this;omega
  have zg : 0 < a.ty.kids.length := by omega
  have hk1 : 1 < a.ty.kids.length := by omega
  have g0 : a.ty.kids[0]?.getD F8 = a.ty.kids[0] := by rw [List.getElem?_eq_getElem zg]; rfl
  have g1 : a.ty.kids[1]?.getD F8 = a.ty.kids[1] := by rw [List.getElem?_eq_getElem hk1]; rfl
  have i0 : F3 3 (.list 3 (a.ty.kids.map Ty.enc)) (.int .i64 0) = some (a.ty.kids[0]?.getD F8).enc := by rw [g0]; exact F4 (e := Ty.enc) (sz := 3) (k := .i64) (i := 0) zg
  have i1 : F3 3 (.list 3 (a.ty.kids.map Ty.enc)) (.int .i64 1) = some (a.ty.kids[1]?.getD F8).enc := by rw [g1]; exact F4 (e := Ty.enc) (sz := 3) (k := .i64) (i := 1) hk1
  have r0 : (a.ty.kids[0]?.getD F8).right = true := by rw [g0]; exact (Ty.Z6.1 GH).2.2.2.2 _ (List.getElem_mem zg)
  simp only [if_neg k5, if_pos k9];generalize hA' : a.ty.kids[0]?.getD F8 = A at i0 r0 ⊢;generalize hB' : a.ty.kids[1]?.getD F8 = B at i1 ⊢;have hf := Ev h lax b.ty A hBr r0;simp [k5, k9, t1, i0, i1, Ty.E8, Ty.ag, hf]
  by_cases Kj : b.ty.agrees A = true
  ·simp [Kj, UM]
   refine O0.ok ?_ (Ag.enc _);rw [JT.NN];rfl
  ·simp only [Bool.not_eq_true] at Kj
   simp [Kj, Du];exact O0.err rfl (by omega) (Ag.of ..)
 ·have sw := Gw h lax 0 4
  rw [if_pos rfl] at sw;simp [k5, k9, sw, Du];exact O0.err rfl (by omega) (Ag.of ..)
end
end Go.Su

/-
 What the reference's judging does: let and rec.
-/
namespace Go.Su
theorem A5t {a : Ty} (ha : a.none = true ∨ a.right = true) : a.none = decide (a.kind = 0) := by
 rcases ha with h | h
 ·rw [h]; simp [Ty.GM h]
 ·have := Ty.k0 h
  cases hx : a.none with
  | true => exact absurd (Ty.GM hx) this
  | false => simp [this]
section
variable {sg : List D7} {p : Nat} (h : p < sg.length) {lax : Bool} {e : Ex} {d : C8} {l : List Nm} {S S' : List Int} (c : RJC lax e d l S S') (ih : ∀ k ∈ e.kids, wP lax k)
include h c
theorem XA {z : Int} (hz : z ≠ 0) (w0 w1 w2 w3 u0 u1 u2 u3 u4 x0 x1 x2 : DV) (ks : List DV) : ∃ v, GU (run cfg) p (F9 l) (E9 S') e.enc d.enc w0 w1 w2 w3 u0 u1 u2 u3 u4 x0 x1 x2 (.list 4 ks) (V5 sg p lax z) = some ([v], V5 sg p lax z) ∧ Ag v := by
 have Z0 := c.len;have hmp := Ex.Dw e;have e1 : R6 5 (.list 5 []) (F9 l) = some (F9 l) := by
  have := DL (sz := 5) (a := []) (b := l.map Nm.enc) (by simp; omega)
  rw [List.nil_append] at this;exact this
 have e2 : R6 5 (F9 l) (.list 5 [.agg [u0, u1, u2, u3, u4]]) = some (.list 5 (l.map Nm.enc ++ [.agg [u0, u1, u2, u3, u4]])) := DL (by simp; omega)
 have kb := Eb h (lax := lax) hz e d (.int .i64 1) (.list 5 (l.map Nm.enc ++ [.agg [u0, u1, u2, u3, u4]])) (E9 S') x0 x1 x2 ks;obtain ⟨x, y, w, t1⟩ := U5 (Ag.of x0 x1 x2 ks) 1;simp only [Int.natCast_one, Int.ofNat_zero, Int.cast_ofNat_Int] at t1;have e0 := Te (run cfg) p (F9 l) (E9 S') e.enc d.enc w0 w1 w2 w3 u0 u1 u2 u3 u4 x0 x1 x2 (.list 4 ks) (V5 sg p lax z);rw [e1, H6, e2, H6] at e0;simp [Ex.E8, Ex.ag, C8.E8, C8.ag, kb, t1] at e0;exact ⟨_, e0, Ag.of ..⟩
include ih
theorem A8l (hn : e.kids.length = 2) {a : JT} {ty : Ty} (nl : Au (l ++ [⟨e.name, ty, d.vars⟩])) (w0 w1 w2 w3 x0 x1 x2 : DV) :
 O0 sg p lax (GU (run cfg) p (F9 l) (E9 S') e.enc d.enc w0 w1 w2 w3 (.str e.name) (.int .i64 ty.kind) (.int .i64 ty.n) (.list 3 (ty.kids.map Ty.enc)) (E9 d.vars) x0 x1 x2 (.list 4 [a.enc]) (V5 sg p lax 0))
  (jE ((jk (!lax) e d 1 (l ++ [⟨e.name, ty, d.vars⟩]) S).bind fun b => .ok (.mk b.ty [a, b]))) := by
 have h1 : 1 < e.kids.length := by omega
 have Z0 := c.len;have hmp := Ex.Dw e;have m1 := Ex.O3 (c.BJ h1);have hd := c.hd;have uz := C8.Vh (d := d) (i := 1) (by rw [c.kl]; exact h1)
 have e1 : R6 5 (.list 5 []) (F9 l) = some (F9 l) := by
  have := DL (sz := 5) (a := []) (b := l.map Nm.enc) (by simp; omega)
  rw [List.nil_append] at this;exact this
 have e2 := Ac (e := Nm.enc) (sz := 5) (l := l) (x := ⟨e.name, ty, d.vars⟩) (by omega)
 have e2' : R6 5 (F9 l) (.list 5 [.agg [.str e.name, .int .i64 ty.kind, .int .i64 ty.n, .list 3 (ty.kids.map Ty.enc), E9 d.vars]]) = some (F9 (l ++ [⟨e.name, ty, d.vars⟩])) := e2;rw [Te];simp [e1, e2', Ex.E8, Ex.ag, C8.E8, C8.ag];refine O0.then (Lb h c.toJC ih h1 nl (by simp; omega) c.hS (by omega) _ _ _ [a.enc] (by simp [lim])) (fun v hr hv => ?_) (fun z a b c' ks hr hz => ?_)
 rotate_left
 ·rw [FL hr, Q8, Du]
  obtain ⟨x, y, w, t1⟩ := U5 (Ag.of a b c' ks) 1;simp only [Int.natCast_one, Int.ofNat_zero, Int.cast_ofNat_Int] at t1;simp [t1];exact O0.err rfl hz (Ag.of ..)
 obtain ⟨b, hB, rfl⟩ := FM hr;have t1 := Ay x0 x1 x2 [a.enc, b.enc] 1 b rfl;simp only [Int.natCast_one, Int.ofNat_zero, Int.cast_ofNat_Int] at t1;rw [hB, O6, UM];simp [t1];refine O0.ok ?_ (Ag.enc _);rw [JT.NN];rfl
theorem A6j (hk : e.kind = 11) : O0 sg p lax ((run cfg).r Pk [(.undef, .ptr p 0), (e.enc, .val), (d.enc, .val), (F9 l, .val), (E9 S', .val), (E9 (S' ++ d.vars), .val)] (V5 sg p lax 0)) (jE (jt (!lax) e d l S)) := by
 have own := Ex.V7 c.hr;have hn : e.kids.length = 2 := by have := own.kids; simp [K8, hk] at this; omega
 have h0 : 0 < e.kids.length := by omega
 have h1 : 1 < e.kids.length := by omega
 have m0 := Ex.O3 (c.BJ h0);have Z0 := c.len;have hd := c.hd;have uz := C8.Vh (d := d) (i := 0) (by rw [c.kl]; exact h0)
 obtain ⟨o1, o2, o3, o4⟩ := CQ c.ho;have hj : jt (!lax) e d l S = (if e.a.kind = 0 then jk (!lax) e d 0 l (d.vars ++ S) else M5 e.a (jk (!lax) e d 0 l S)).bind fun a =>
  (jk (!lax) e d 1 (l ++ [⟨e.name, K4 e.a a.ty, d.vars⟩]) S).bind fun b => .ok (.mk b.ty [a, b]) := by
  rw [Dv c.ho, vI hk, U0 h0, U0 h0];simp only [U0 h1]
 have A5s : ∀ a : JT, a.ty.right = true → Au (l ++ [⟨e.name, K4 e.a a.ty, d.vars⟩]) := fun a ha => c.nl.app fun x hx => by
  simp only [List.mem_singleton] at hx;subst hx;exact ⟨GG own.a fun _ => ha, by have := c.ds.vars; simpa using this, fun v hv => (C8.Eo.1 c.dr).2.1 v hv⟩
 have Eg := Iz e.a;rw [A5t own.a] at Eg;have hS2 : ∀ v, v ∈ d.vars ++ S ↔ v ∈ S' ++ d.vars := fun v => by rw [List.mem_append, List.mem_append, c.hS v, or_comm]
 refine O0.map ?_ (Xa p e.enc d.enc (F9 l) (E9 S') (E9 (S' ++ d.vars)) _);rw [Zi, hj];simp [hk, Td]
 try simp only [← hk]
 try simp [Ex.E8, Ex.ag, C8.E8, C8.ag]
 by_cases ha : e.a.kind = 0
 ·rw [if_pos ha]
  refine O0.then (Lb h c.toJC ih h0 c.nl (by omega) hS2 (by simp; omega) _ _ _ [] (by simp [lim])) (fun v hr hv => ?_) (fun z a b c' ks hr hz => ?_)
  rotate_left
  ·rw [FL hr, Q8, Du]
   obtain ⟨x, y, w, t1⟩ := U5 (Ag.of a b c' ks) 0;simp only [Int.natCast_zero, Int.ofNat_zero, Int.cast_ofNat_Int] at t1;obtain ⟨v2, Uu, jo⟩ := XA h c hz (.int .i64 0) (.int .i64 0) (.list 3 []) (.list 4 []) (.str e.name) x y w (E9 d.vars) a b c' ks;simp [Ty.E8, Ty.ag];simp [Eg, ha, hk, t1, Uu];exact O0.err rfl hz jo
  obtain ⟨a, hA, rfl⟩ := FM hr;have GH : a.ty.right = true := Iw (!lax) _ (Ex.P5 c.hr (c.BJ h0)) _ _ _ a (C8.EE c.dr 0) (C8.FY c.ds 0) c.nl hA;have t0 := Ay (.int .i64 0) (.int .i64 0) (.list 3 []) [a.enc] 0 a rfl;simp only [Int.natCast_zero, Int.ofNat_zero, Int.cast_ofNat_Int] at t0;have hg : K4 e.a a.ty = a.ty := by simp [K4, ha]
  have nx := A8l h c ih hn (a := a) (A5s a GH) (.int .i64 0) (.int .i64 0) (.list 3 []) (.list 4 []) (.int .i64 0) (.int .i64 0) (.list 3 []);rw [hA, O6];rw [hg] at nx ⊢;simp [Ty.E8, Ty.ag];simp [Eg, ha, hk, t0];exact nx
 ·have hdv : d.vars = [] := by
   rcases o3 with o3 | o3
   ·exact o3
   ·simp [Af, hk, ha] at o3
  have har : e.a.right = true := by
   rcases own.a with h' | h'
   ·exact absurd (Ty.GM h') ha
   ·exact h'
  have Kj : ∀ t : Ty, K4 e.a t = e.a := fun t => by simp [K4, ha]
  rw [if_neg ha];refine O0.then (Lb (S := S) h c.toJC ih h0 c.nl (by omega) (by rw [hdv, List.append_nil]; exact c.hS) (by simp; omega) _ _ _ [] (by simp [lim])) (fun v hr hv => ?_) (fun z a b c' ks hr hz => ?_)
  rotate_left
  ·rw [FL hr, show M5 e.a (.error z) = .error z from rfl, Q8, Du]
   obtain ⟨x, y, w, t1⟩ := U5 (Ag.of a b c' ks) 0;simp only [Int.natCast_zero, Int.ofNat_zero, Int.cast_ofNat_Int] at t1;have fb := Ab h lax z hz x y w e.a;obtain ⟨v2, Uu, jo⟩ := XA h c hz (.int .i64 0) (.int .i64 0) (.list 3 []) (.list 4 []) (.str e.name) (.int .i64 e.a.kind) (.int .i64 e.a.n) (.list 3 (e.a.kids.map Ty.enc)) (E9 d.vars) a b c' ks;simp [Ty.E8, Ty.ag];simp [Eg, ha, hk, t1, fb, Uu];exact O0.err rfl hz jo
  obtain ⟨a, hA, rfl⟩ := FM hr;have GH : a.ty.right = true := Iw (!lax) _ (Ex.P5 c.hr (c.BJ h0)) _ _ _ a (C8.EE c.dr 0) (C8.FY c.ds 0) c.nl hA;have t0 := Ay (.int .i64 0) (.int .i64 0) (.list 3 []) [a.enc] 0 a rfl;simp only [Int.natCast_zero, Int.ofNat_zero, Int.cast_ofNat_Int] at t0;have hf := Ev h lax a.ty e.a GH har;rw [hA];simp [Ty.E8, Ty.ag]
  by_cases jg : a.ty.agrees e.a = true
  ·have nx := A8l h c ih hn (a := a) (A5s a GH) (.int .i64 0) (.int .i64 0) (.list 3 []) (.list 4 []) (.int .i64 0) (.int .i64 0) (.list 3 [])
   rw [show M5 e.a (.ok a) = .ok a by simp [M5, O6, jg], O6]
   rw [if_pos jg] at hf;rw [Kj] at nx ⊢;simp [Eg, ha, hk, t0, hf];exact nx
  ·obtain ⟨v2, Uu, jo⟩ := XA h c (z := 4) (by omega) (.int .i64 0) (.int .i64 0) (.list 3 []) (.list 4 []) (.str e.name) (.int .i64 e.a.kind) (.int .i64 e.a.n) (.list 3 (e.a.kids.map Ty.enc)) (E9 d.vars) (.int .i64 0) (.int .i64 0) (.list 3 []) [a.enc]
   rw [show M5 e.a (.ok a) = .error 4 by simp [M5, O6, jg], Q8, Du]
   rw [if_neg jg] at hf;simp [Eg, ha, hk, t0, hf, Uu];exact O0.err rfl (by omega) jo
end
end Go.Su

/-
 What the reference's judging does: rec, the rest.
-/
namespace Go.Su
def Oj (g : Nat → JR) : List Ty → Nat → Except Int (List JT)
 | [], _ => .ok []
 | w :: ws, i => (M5 w (g i)).bind fun a => (Oj g ws (i + 1)).bind fun q => .ok (a :: q)
section
variable {sg : List D7} {p : Nat} (h : p < sg.length) {lax : Bool} {e : Ex} {d : C8} {l : List Nm} {S S' : List Int} (c : RJC lax e d l S S') (ih : ∀ k ∈ e.kids, wP lax k)
include h c
theorem A5H {z : Int} (hz : z ≠ 0) (ws : List Ty) (hw : ws.length ≤ lim) (w0 w1 w2 w3 x0 x1 x2 : DV) (ks : List DV) : ∀ (m j : Nat), j + m = ws.length → Gc (run cfg) p (F9 l) (E9 S') (.list 3 (ws.map Ty.enc)) (.int .i64 j) e.enc d.enc w0 w1 w2 w3 x0 x1 x2 (.list 4 ks) (V5 sg p lax z) = some ([.agg [x0, x1, x2, .list 4 ks]], V5 sg p lax z) := by
 have _ := c;have hb := big hw;intro m
 induction m with
 | zero =>
   intro j hj;rw [Ff];have : ¬ j < ws.length := by omega
   simp [this]
 | succ m ihm =>
   intro j hj;have I4 : j < ws.length := by omega
   have nx := ihm (j + 1) (by omega)
   push_cast at nx;have kb := Eb h (lax := lax) hz e d (.int .i64 j) (F9 l) (E9 S') x0 x1 x2 ks;obtain ⟨x, y, w, t1⟩ := U5 (Ag.of x0 x1 x2 ks) j;have fb := Ab h lax z hz x y w ws[j];rw [Ff];simp [I4, Ex.E8, Ex.ag, C8.E8, C8.ag, Ty.E8, Ty.ag, kb, t1, F4 I4, fb, K6 (show j < 9223372036854775807 by omega), nx]
include ih
theorem B2Z (ws : List Ty) (hw : ws.length = e.kids.length) (hrs : ∀ w ∈ ws, w.right = true) (w0 w1 w2 w3 x0 x1 x2 : DV) : ∀ (m j : Nat) (done : List JT), j + m = ws.length → done.length = j →
 O0 sg p lax (Gc (run cfg) p (F9 l) (E9 S') (.list 3 (ws.map Ty.enc)) (.int .i64 j) e.enc d.enc w0 w1 w2 w3 x0 x1 x2 (.list 4 (done.map JT.enc)) (V5 sg p lax 0))
  (match Oj (fun i => jk (!lax) e d i l S) (ws.drop j) j with
    | .ok q => .ok (.agg [x0, x1, x2, .list 4 ((done ++ q).map JT.enc)])
    | .error z => .error z) := by
 have Dt := c.hf.one.kids;have hb : ws.length < 4294967297 := big (by omega)
 intro m
 induction m with
 | zero =>
   intro j done hj hd;rw [Ff, List.drop_of_length_le (by omega)]
   have : ¬ j < ws.length := by omega
   simp [this, Oj];exact O0.ok rfl (Ag.of ..)
 | succ m ihm =>
   intro j done hj hd;have I4 : j < ws.length := by omega
   have hjk : j < e.kids.length := by omega
   rw [Ff, List.drop_eq_getElem_cons I4, Oj];simp [I4, Ex.E8, Ex.ag, C8.E8, C8.ag, Ty.E8, Ty.ag];refine O0.then (vZ h c ih hjk _ _ _ (done.map JT.enc) (by simp; omega)) (fun v hr hv => ?_) (fun z a b c' ks hr hz => ?_)
   rotate_left
   ·rw [FL hr, show M5 ws[j] (.error z) = .error z from rfl, Q8]
    obtain ⟨x, y, w, t1⟩ := U5 (Ag.of a b c' ks) j;have fb := Ab h lax z hz x y w ws[j];have rb := A5H h c hz ws (by omega) w0 w1 w2 w3 a b c' ks m (j + 1) (by omega)
    push_cast at rb;simp [t1, F4 I4, Ty.E8, Ty.ag, fb, K6 (show j < 9223372036854775807 by omega), rb]
    exact O0.err rfl hz (Ag.of ..)
   obtain ⟨a, hA, rfl⟩ := FM hr;have GH := kD c hjk hA;have hrw := hrs ws[j] (List.getElem_mem I4);have t1 := Ay x0 x1 x2 (done.map JT.enc ++ [a.enc]) j a (by rw [← hd, List.getElem?_append_right (by simp)]; simp)
   have hf := Ev h lax a.ty ws[j] GH hrw;rw [hA]
   by_cases hg : a.ty.agrees ws[j] = true
   ·rw [if_pos hg] at hf
    rw [show M5 ws[j] (.ok a) = .ok a by simp [M5, O6, hg], O6]
    have nx := ihm (j + 1) (done ++ [a]) (by omega) (by simp [hd])
    push_cast at nx;simp [t1, F4 I4, Ty.E8, Ty.ag, hf, K6 (show j < 9223372036854775807 by omega)]
    simp only [List.map_append, List.map_cons, List.map_nil] at nx;cases Us : Oj (fun i => jk (!lax) e d i l S) (ws.drop (j + 1)) (j + 1) with
    | error z => rw [Us] at nx; rw [Q8]; exact nx
    | ok q => rw [Us] at nx; rw [O6]; simpa using nx
   ·rw [if_neg hg] at hf
    rw [show M5 ws[j] (.ok a) = .error 4 by simp [M5, O6, hg], Q8]
    have rb := A5H h c (z := 4) (by omega) ws (by omega) w0 w1 w2 w3 x0 x1 x2 (done.map JT.enc ++ [a.enc]) m (j + 1) (by omega)
    push_cast at rb;simp [t1, F4 I4, Ty.E8, Ty.ag, hf, K6 (show j < 9223372036854775807 by omega), rb]
    exact O0.err rfl (by omega) (Ag.of ..)
theorem vY {ws : List Ty} {out : Ty} (hw : ws.length = e.kids.length) (hrs : ∀ w ∈ ws, w.right = true) (w0 w1 w2 w3 : DV) (hj : jt (!lax) e d l S = (Oj (fun i => jk (!lax) e d i l S) ws 0).bind fun q => .ok (.mk out q)) :
 O0 sg p lax (IM (run cfg) p (F9 l) (E9 S') (.list 3 (ws.map Ty.enc)) e.enc d.enc w0 w1 w2 w3 (.int .i64 out.kind) (.int .i64 out.n) (.list 3 (out.kids.map Ty.enc)) (V5 sg p lax 0)) (jE (jt (!lax) e d l S)) := by
 have nx := B2Z h c ih ws hw hrs w0 w1 w2 w3 (.int .i64 out.kind) (.int .i64 out.n) (.list 3 (out.kids.map Ty.enc)) ws.length 0 [] (by omega) rfl
 rw [Zk, hj];simp only [List.map_nil, List.drop_zero, List.nil_append, Int.natCast_zero, Int.ofNat_zero, Int.cast_ofNat_Int] at nx;cases Us : Oj (fun i => jk (!lax) e d i l S) ws 0 with
 | error z => rw [Us] at nx; rw [Q8, Du]; exact nx
 | ok q =>
   rw [Us] at nx;rw [O6, UM, JT.NN];exact nx
theorem A64 (hk : e.kind = 13 ∨ e.kind = 15 ∨ e.kind = 16) : O0 sg p lax ((run cfg).r ZH [(.undef, .ptr p 0), (e.enc, .val), (d.enc, .val), (F9 l, .val), (E9 S', .val)] (V5 sg p lax 0)) (jE (jt (!lax) e d l S)) := by
 have own := Ex.V7 c.hr;obtain ⟨o1, o2, o3, o4⟩ := CQ c.ho;refine O0.map ?_ (jK p e.enc d.enc (F9 l) (E9 S') _);rw [nV];rcases hk with hk | hk | hk
 ·have hn : e.kids.length = 3 := by have := own.kids; simp [K8, hk] at this; omega
  have Kl : d.types.length = 1 := by rw [o1]; simp [M8, hk]
  have CW := C8.DF c.dr (by omega)
  have i0 := C8.A5j (d := d) (by omega)
  have vB : (run cfg).p AV [.int .i64 2] = some (U1 2).enc := QP 2;have hbr : (U1 2).right = true := F_ (by omega)
  have hj : jt (!lax) e d l S = (Oj (fun i => jk (!lax) e d i l S) [U1 2, d.t0, d.t0] 0).bind fun q => .ok (.mk d.t0 q) := by
   rw [Dv c.ho, A0t hk, U0 (by omega), U0 (by omega), U0 (by omega)]
   simp only [Oj];cases M5 (U1 2) (jk (!lax) e d 0 l S) with
   | error z => rfl
   | ok a =>
     rw [O6, O6];cases M5 d.t0 (jk (!lax) e d (0 + 1) l S) with
     | error z => rfl
     | ok b =>
       rw [O6, O6];cases M5 d.t0 (jk (!lax) e d (0 + 1 + 1) l S) with
       | error z => rfl
       | ok c => rfl
  have nx := vY h c ih (ws := [U1 2, d.t0, d.t0]) (out := d.t0) (by simp [hn]) (by simp [hbr, CW]) (.int .i64 0) (.int .i64 0) (.list 3 []) (.list 4 []) hj
  simp only [List.map_cons, List.map_nil] at nx;simp [hk, i0, vB, Ty.E8, Ty.ag];rw [Ms];simp [hk];exact nx
 ·have hn : e.kids.length = 1 := by have := own.kids; simp [K8, hk] at this; omega
  have har := own.Xq hk;have hj : jt (!lax) e d l S = (Oj (fun i => jk (!lax) e d i l S) [e.a] 0).bind fun q => .ok (.mk e.a q) := by
   rw [Dv c.ho, vG hk, U0 (by omega)]
   simp only [Oj];cases M5 e.a (jk (!lax) e d 0 l S) with
   | error z => rfl
   | ok a => rfl
  have nx := vY h c ih (ws := [e.a]) (out := e.a) (by simp [hn]) (by simp [har]) (.int .i64 0) (.int .i64 0) (.list 3 []) (.list 4 []) hj
  simp only [List.map_cons, List.map_nil] at nx;simp [hk, Ty.E8, Ty.ag];rw [Ms];simp [hk];exact nx
 ·have hn : e.kids.length = 2 := by have := own.kids; simp [K8, hk] at this; omega
  have D8 := own.op hk;have Ut : (run cfg).p AV [.int .i64 1] = some (U1 1).enc := QP 1;have vB : (run cfg).p AV [.int .i64 2] = some (U1 2).enc := QP 2;have hl3 : (run cfg).p AV [.int .i64 3] = some (U1 3).enc := QP 3;have Km : (U1 1).right = true := F_ (by omega)
  have hr3 : (U1 3).right = true := F_ (by omega)
  have hj : ∀ lo hi, Nq e = lo → Oo e = hi → jt (!lax) e d l S = (Oj (fun i => jk (!lax) e d i l S) [lo, lo] 0).bind fun q => .ok (.mk hi q) := by
   rintro lo hi rfl rfl;rw [Dv c.ho, A0u hk, U0 (by omega), U0 (by omega)]
   simp only [Oj];cases M5 (Nq e) (jk (!lax) e d 0 l S) with
   | error z => rfl
   | ok a =>
     rw [O6, O6];cases M5 (Nq e) (jk (!lax) e d (0 + 1) l S) with
     | error z => rfl
     | ok b => rfl
  simp [hk, Ty.E8, Ty.ag];rw [Ms];simp [hk, Ut, vB]
  by_cases h7 : e.op = 7
  ·have h5 : 5 ≤ e.op := by omega
   have nx := vY h c ih (ws := [U1 3, U1 3]) (out := U1 2) (by simp [hn]) (by simp [hr3]) (.int .i64 0) (.int .i64 0) (.list 3 []) (.list 4 []) (hj _ _ (by simp [Nq, h7]) (by simp [Oo, h5]))
   simp only [List.map_cons, List.map_nil] at nx;simp [h5, LH, h7, hl3, Ty.E8, Ty.ag];exact nx
  by_cases h5 : 5 ≤ e.op
  ·have nx := vY h c ih (ws := [U1 1, U1 1]) (out := U1 2) (by simp [hn]) (by simp [Km]) (.int .i64 0) (.int .i64 0) (.list 3 []) (.list 4 []) (hj _ _ (by simp [Nq, h7]) (by simp [Oo, h5]))
   simp only [List.map_cons, List.map_nil] at nx;simp [h5, LH, h7, Ty.E8, Ty.ag];exact nx
  ·have nx := vY h c ih (ws := [U1 1, U1 1]) (out := U1 1) (by simp [hn]) (by simp [Km]) (.int .i64 0) (.int .i64 0) (.list 3 []) (.list 4 []) (hj _ _ (by simp [Nq, h7]) (by simp [Oo, h5]))
   simp only [List.map_cons, List.map_nil] at nx;simp [h5, LH, h7, Ty.E8, Ty.ag];exact nx
theorem A6k (hk : e.kind = 12) : O0 sg p lax ((run cfg).r Pk [(.undef, .ptr p 0), (e.enc, .val), (d.enc, .val), (F9 l, .val), (E9 S', .val), (E9 (S' ++ d.vars), .val)] (V5 sg p lax 0)) (jE (jt (!lax) e d l S)) := by
 have own := Ex.V7 c.hr;have hn : e.kids.length = 2 := by have := own.kids; simp [K8, hk] at this; omega
 have h0 : 0 < e.kids.length := by omega
 have h1 : 1 < e.kids.length := by omega
 have m0 := Ex.O3 (c.BJ h0);have km1 := Ex.Dw (e.kid 1);have zi : (e.kid 0).J3 + (e.kid 1).J3 < e.J3 := by
  rw [Ex.U2 e, A1N hn];simp;omega
 have Z0 := c.len;have hd := c.hd;have uz := C8.Vh (d := d) (i := 0) (by rw [c.kl]; exact h0)
 obtain ⟨o1, o2, o3, o4⟩ := CQ c.ho;have hP := lZ own hk c.dr o1;have hR := lh own hk c.dr o1;have hF := Ym hP hR;have hj : jt (!lax) e d l S = (M5 (Q9 e d) (jk (!lax) e d 0 (l ++ [⟨e.name, U9 (U4 e d) (Q9 e d), []⟩, ⟨e.arg, U4 e d, []⟩]) (d.vars ++ S))).bind fun a =>
  (jk (!lax) e d 1 (l ++ [⟨e.name, U9 (U4 e d) (Q9 e d), d.vars⟩]) S).bind fun b => .ok (.mk b.ty [a, b]) := by
  rw [Dv c.ho, vK hk, U0 h0];simp only [U0 h1]
 have nm1 : Au (l ++ [⟨e.name, U9 (U4 e d) (Q9 e d), []⟩, ⟨e.arg, U4 e d, []⟩]) := c.nl.app fun x hx => by
  simp only [List.mem_cons, List.not_mem_nil, or_false] at hx;rcases hx with rfl | rfl
  ·exact ⟨hF, by simp, by simp⟩
  ·exact ⟨hP, by simp, by simp⟩
 have nm2 : Au (l ++ [⟨e.name, U9 (U4 e d) (Q9 e d), d.vars⟩]) := c.nl.app fun x hx => by
  simp only [List.mem_singleton] at hx;subst hx;exact ⟨hF, c.ds.vars, (C8.Eo.1 c.dr).2.1⟩
 have Np := wE e.a own.a d.types fun h0 => by rw [o1]; simp [M8, hk, h0]; omega
 have hPe : K4 e.a (d.types.getD 0 F8) = U4 e d := rfl;rw [hPe] at Np;have Eg := Iz e.b;rw [A5t own.b] at Eg;have hS2 : ∀ v, v ∈ d.vars ++ S ↔ v ∈ S' ++ d.vars := fun v => by rw [List.mem_append, List.mem_append, c.hS v, or_comm]
 have A0m : (run cfg).p IA [.int .i64 9, (U4 e d).enc, (Q9 e d).enc] = some (U9 (U4 e d) (Q9 e d)).enc := mE 9 _ _;have pl1 := bL l e.name (U9 (U4 e d) (Q9 e d)) (by omega)
 have pl2 := bL (l ++ [⟨e.name, U9 (U4 e d) (Q9 e d), []⟩]) e.arg (U4 e d) (by simp; omega)
 rw [List.append_assoc, List.singleton_append] at pl2;have meet : fQ (run cfg) p e.enc d.enc (F9 l) (E9 S') (E9 (S' ++ d.vars)) (V5 sg p lax 0) = OX (run cfg) p (F9 l) (E9 S') (E9 (S' ++ d.vars)) (F9 (l ++ [⟨e.name, U9 (U4 e d) (Q9 e d), []⟩, ⟨e.arg, U4 e d, []⟩])) e.enc d.enc (.str e.name) (.int .i64 (U9 (U4 e d) (Q9 e d)).kind) (.int .i64 (U9 (U4 e d) (Q9 e d)).n) (.list 3 ((U9 (U4 e d) (Q9 e d)).kids.map Ty.enc)) (E9 d.vars) (.int .i64 (Q9 e d).kind) (.int .i64 (Q9 e d).n) (.list 3 ((Q9 e d).kids.map Ty.enc)) (V5 sg p lax 0) := by
  rw [Zi];simp [Ty.E8, Ty.ag];rw [Np]
  by_cases hb : e.b.kind = 0
  ·have Ut : 1 ≤ d.types.length := by rw [o1]; simp [M8, hk, hb]
   have hi : F3 3 (.list 3 (d.types.map Ty.enc)) (.int .i64 ((d.types.length : Int) - 1)) = some (Q9 e d).enc := by
    have I4 : d.types.length - 1 < d.types.length := by omega
    have e1 : ((d.types.length : Int) - 1) = ((d.types.length - 1 : Nat) : Int) := by omega
    rw [e1, F4 I4]
    congr 2
    unfold Q9 K4;rw [if_pos hb]
    by_cases ha : e.a.kind = 0
    ·have : d.types.length = 2 := by rw [o1]; simp [M8, hk, ha, hb]
     simp [ha, C8.t1, this]
    ·have : d.types.length = 1 := by rw [o1]; simp [M8, hk, ha, hb]
     simp [ha, C8.t0, this]
   have htl := C8.SE d;have BI : A8 .sub (.int .i64 (d.types.length : Int)) (.int .i64 1) = some (.int .i64 ((d.types.length : Int) - 1)) := by rw [Df, CS (by omega) (by unfold lim at hd; omega)]
   simp [hk, Eg, hb, BI, hi, VR, Ty.E8, Ty.ag, A0m, pl1, pl2]
  ·have hre : Q9 e d = e.b := by simp [Q9, K4, hb]
   rw [hre] at A0m pl1 pl2 ⊢;simp [hk, Eg, hb, VR, Ty.E8, Ty.ag, A0m, pl1, pl2]
 refine O0.map ?_ ((Xa p e.enc d.enc (F9 l) (E9 S') (E9 (S' ++ d.vars)) _).trans meet);rw [Td, hj];simp [Ex.E8, Ex.ag, C8.E8, C8.ag];refine O0.then (Lb h c.toJC ih h0 nm1 (by simp; omega) hS2 (by simp; omega) _ _ _ [] (by simp [lim])) (fun v hr hv => ?_) (fun z a b c' ks hr hz => ?_)
 rotate_left
 ·rw [FL hr, show M5 (Q9 e d) (.error z) = .error z from rfl, Q8, Du]
  obtain ⟨x, y, w, t1⟩ := U5 (Ag.of a b c' ks) 0;simp only [Int.natCast_zero, Int.ofNat_zero, Int.cast_ofNat_Int] at t1;have fb := Ab h lax z hz x y w (Q9 e d);obtain ⟨v2, Uu, jo⟩ := XA h c hz (.int .i64 0) (.int .i64 0) (.list 3 []) (.list 4 []) (.str e.name) (.int .i64 (U9 (U4 e d) (Q9 e d)).kind) (.int .i64 (U9 (U4 e d) (Q9 e d)).n) (.list 3 ((U9 (U4 e d) (Q9 e d)).kids.map Ty.enc)) (E9 d.vars) a b c' ks;simp [hk, t1, Ty.E8, Ty.ag, fb, Uu];exact O0.err rfl hz jo
 obtain ⟨a, hA, rfl⟩ := FM hr;have GH : a.ty.right = true := Iw (!lax) _ (Ex.P5 c.hr (c.BJ h0)) _ _ _ a (C8.EE c.dr 0) (C8.FY c.ds 0) nm1 hA;have t0 := Ay (.int .i64 0) (.int .i64 0) (.list 3 []) [a.enc] 0 a rfl;simp only [Int.natCast_zero, Int.ofNat_zero, Int.cast_ofNat_Int] at t0;have hf := Ev h lax a.ty (Q9 e d) GH hR;rw [hA]
 by_cases jg : a.ty.agrees (Q9 e d) = true
 ·have nx := A8l h c ih hn (a := a) nm2 (.int .i64 0) (.int .i64 0) (.list 3 []) (.list 4 []) (.int .i64 0) (.int .i64 0) (.list 3 [])
  rw [show M5 (Q9 e d) (.ok a) = .ok a by simp [M5, O6, jg], O6]
  rw [if_pos jg] at hf;simp [hk, t0, Ty.E8, Ty.ag, hf];exact nx
 ·obtain ⟨v2, Uu, jo⟩ := XA h c (z := 4) (by omega) (.int .i64 0) (.int .i64 0) (.list 3 []) (.list 4 []) (.str e.name) (.int .i64 (U9 (U4 e d) (Q9 e d)).kind) (.int .i64 (U9 (U4 e d) (Q9 e d)).n) (.list 3 ((U9 (U4 e d) (Q9 e d)).kids.map Ty.enc)) (E9 d.vars) (.int .i64 0) (.int .i64 0) (.list 3 []) [a.enc]
  rw [show M5 (Q9 e d) (.ok a) = .error 4 by simp [M5, O6, jg], Q8, Du]
  rw [if_neg jg] at hf;simp [hk, t0, Ty.E8, Ty.ag, hf, Uu];exact O0.err rfl (by omega) jo
end
end Go.Su

/-
 What the reference's judging does: match.
-/
namespace Go.Su
section
variable {sg : List D7} {p : Nat} (h : p < sg.length) {lax : Bool} {e : Ex} {d : C8} {l : List Nm} {S S' : List Int} (c : RJC lax e d l S S') (ih : ∀ k ∈ e.kids, wP lax k)
include h
theorem UV {z : Int} (hz : z ≠ 0) (j : Nat) (h1 : 1 < d.types.length) (s t w0 w1 w2 w3 x0 x1 x2 : DV) (ks : List DV) : Gb (run cfg) p s t (.int .i64 j) e.enc d.enc w0 w1 w2 w3 x0 x1 x2 (.list 4 ks) (V5 sg p lax z) = some ([NN d.t1 ks], V5 sg p lax z) := by
 have i1 := C8.B30 (d := d) h1;rw [JJ]
 by_cases I4 : j < e.F7.length
 ·simp [I4, Cm h, hz, i1]
  rfl
 ·simp [I4, i1]
  rfl
omit h in
theorem ve (sg : List D7) (l : List Nm) (b : List (ByteArray × Ty)) (hl : l.length + b.length ≤ lim) (t w0 w1 w2 w3 x0 x1 x2 x3 j : DV) :
 Mj (run cfg) p (F9 l) t j (O5 b) e.enc d.enc w0 w1 w2 w3 x0 x1 x2 x3 sg = CZ (run cfg) p (F9 l) t j (O5 b) (F9 (l ++ b.map DW)) (.int .i64 b.length) e.enc d.enc w0 w1 w2 w3 x0 x1 x2 x3 sg := by
 have aS : l.length + b.length < 4294967297 := big hl;have A0w : dLen (O5 b) = some (.int .i64 b.length) := by simp [O5, dLen]
 have e1 : R6 5 (.list 5 []) (F9 l) = some (F9 l) := by
  have := DL (sz := 5) (a := []) (b := l.map Nm.enc) (by simp; omega)
  rw [List.nil_append] at this;exact this
 have l11 := GL (l := b) (P := fun q (a : List Nm) => CZ (run cfg) p (F9 l) t j (O5 b) (F9 a) (.int .i64 q) e.enc d.enc w0 w1 w2 w3 x0 x1 x2 x3 sg)
  (g := fun a e => a ++ [DW e]) (fin := fun a => CZ (run cfg) p (F9 l) t j (O5 b) (F9 a) (.int .i64 b.length) e.enc d.enc w0 w1 w2 w3 x0 x1 x2 x3 sg)
  (I := fun q a => a.length = l.length + q) (fun a _ => rfl)
  (fun q hq a ha => by
    refine ⟨?_, by simp [ha]; omega⟩
    rw [IZ];have UI := Ac (e := Nm.enc) (sz := 5) (l := a) (x := DW b[q]) (by omega)
    have lH : R6 5 (F9 a) (.list 5 [.agg [.str b[q].1, .int .i64 b[q].2.kind, .int .i64 b[q].2.n, .list 3 (b[q].2.kids.map Ty.enc), .list 1 []]]) = some (F9 (a ++ [DW b[q]])) := UI;have e1 : F3 4 (O5 b) (.int .i64 (q : Int)) = some (NM b[q]) := F4 hq;simp [A0w, hq, e1, lH, K6 (show q < 9223372036854775807 by omega)]) l rfl
 have A1J : ∀ (m : List (ByteArray × Ty)) (a : List Nm), m.foldl (fun a e => a ++ [DW e]) a = a ++ m.map DW := by
  intro m
  induction m with
  | nil => intro a; simp
  | cons x m ih => intro a; simp [ih]
 rw [A1J] at l11;rw [Zj];simp [e1];exact l11
include c ih
theorem B20 (hk : e.kind = 14) (hp : e.F7.length + 1 = e.kids.length) (h2 : d.types.length = 2) (w0 w1 w2 w3 x0 x1 x2 : DV) : ∀ (m j : Nat) (done : List JT), j + m = e.F7.length → done.length = j + 1 →
 O0 sg p lax (Gb (run cfg) p (F9 l) (E9 S') (.int .i64 j) e.enc d.enc w0 w1 w2 w3 x0 x1 x2 (.list 4 (done.map JT.enc)) (V5 sg p lax 0))
  (match HZ (fK (!lax) e d) d.t0 d.t1 l S (j + 1) (e.F7.drop j) with
    | .ok q => .ok (NN d.t1 ((done ++ q).map JT.enc))
    | .error z => .error z) := by
 have own := Ex.V7 c.hr;have aX := c.hf.one.F7;have Dt := c.hf.one.kids;have hbp : e.F7.length < 4294967296 := by unfold lim at aX; omega
 have CW := C8.DF c.dr (by omega)
 have Km := C8.mI c.dr (by omega)
 have i0 := C8.A5j (d := d) (by omega)
 have i1 := C8.B30 (d := d) (by omega)
 intro m
 induction m with
 | zero =>
   intro j done hj hdn;rw [JJ, List.drop_of_length_le (by omega)]
   have : ¬ j < e.F7.length := by omega
   simp [this, HZ, i1];exact O0.ok rfl (Ag.T ..)
 | succ m ihm =>
   intro j done hj hdn;have I4 : j < e.F7.length := by omega
   have PM : j + 1 < e.kids.length := by omega
   have hpm := List.getElem_mem I4;have hpr := own.F7 _ hpm;have m1 := Ex.O3 (c.BJ PM);have Z0 := c.len;have hd := c.hd;have uz := C8.Vh (d := d) (i := j + 1) (by rw [c.kl]; exact PM)
   have B6a := C9.Nv e.F7[j];have hmm : e.F7[j].J3 + (e.kid (j + 1)).J3 < e.J3 := by
    rw [Ex.U2 e];have a1 := AY (List.mem_map_of_mem (f := C9.J3) hpm);have a2 := AY (List.mem_map_of_mem (f := Ex.J3) (c.BJ PM));omega
   have Dp : A8 .add (.int .i64 (j : Int)) (.int .i64 1) = some (.int .i64 ((j + 1 : Nat) : Int)) := K6 (by omega)
   have EI := A61 e.F7[j] (C9.A3H hpr) d.t0 (V5 sg p lax 0) [] CW (by simp; omega)
   rw [List.drop_eq_getElem_cons I4, HZ];rw [JJ];cases hbd : e.F7[j].binds d.t0 with
   | none =>
     rw [hbd] at EI;obtain ⟨b, UJ, UK⟩ := EI;have hb3 : (run cfg).r Cw [(e.F7[j].enc, .val), (d.t0.enc, .val), (.list 4 [], .own)] (V5 sg p lax 0) = some ([O5 b, .bool false], V5 sg p lax 0) := UK;have sw := Gw h lax 0 4;rw [if_pos rfl] at sw;have vC := ve (p := p) (e := e) (d := d) (V5 sg p lax 4) l b (by omega) (E9 S') w0 w1 w2 w3 x0 x1 x2 (.list 4 (done.map JT.enc)) (.int .i64 j)
     have kb := Eb h (lax := lax) (z := 4) (by omega) e d (.int .i64 ((j + 1 : Nat) : Int)) (F9 (l ++ b.map DW)) (E9 S') x0 x1 x2 (done.map JT.enc)
     obtain ⟨x, y, w, t1⟩ := U5 (Ag.of x0 x1 x2 (done.map JT.enc)) (j + 1);have fb := Ab h lax 4 (by omega) x y w d.t1
     have rb := UV h (lax := lax) (e := e) (z := 4) (by omega) (j + 1) (d := d) (by omega) (F9 l) (E9 S') w0 w1 w2 w3 x0 x1 x2 (done.map JT.enc)
     have A0w : dLen (O5 b) = some (.int .i64 b.length) := by simp [O5, dLen]
     have e11 : CZ (run cfg) p (F9 l) (E9 S') (.int .i64 j) (O5 b) (F9 (l ++ b.map DW)) (.int .i64 b.length) e.enc d.enc w0 w1 w2 w3 x0 x1 x2 (.list 4 (done.map JT.enc)) (V5 sg p lax 4) = some ([NN d.t1 (done.map JT.enc)], V5 sg p lax 4) := by
      rw [IZ];push_cast at kb t1 rb Dp;simp [A0w, Dp, Ex.E8, Ex.ag, C8.E8, C8.ag, kb, t1, i1, Ty.E8, Ty.ag, fb, rb]
     simp [I4, Cm h, F4 I4, C9.E8, C9.ag, i0, Ty.E8, Ty.ag, hb3, N8, sw, vC, e11];exact O0.err rfl (by omega) (Ag.T ..)
   | some b =>
     rw [hbd] at EI;have hb3 : (run cfg).r Cw [(e.F7[j].enc, .val), (d.t0.enc, .val), (.list 4 [], .own)] (V5 sg p lax 0) = some ([O5 b, .bool true], V5 sg p lax 0) := by
      have : (run cfg).r Cw [(e.F7[j].enc, .val), (d.t0.enc, .val), (O5 [], .own)] (V5 sg p lax 0) = some ([O5 ([] ++ b), .bool true], V5 sg p lax 0) := EI;exact this
     have je := C9.Re _ _ _ hbd;have hbr := C9.yO _ _ _ CW hbd;have nb : Au (l ++ b.map DW) := c.nl.app (Au.B3A hbr);have vC := ve (p := p) (e := e) (d := d) (V5 sg p lax 0) l b (by omega) (E9 S') w0 w1 w2 w3 x0 x1 x2 (.list 4 (done.map JT.enc)) (.int .i64 j)
     have A0w : dLen (O5 b) = some (.int .i64 b.length) := by simp [O5, dLen]
     simp [I4, Cm h, F4 I4, C9.E8, C9.ag, i0, Ty.E8, Ty.ag, hb3, N8, vC];rw [IZ];have hkf : fK (!lax) e d (j + 1) (l ++ b.map DW) S = jk (!lax) e d (j + 1) (l ++ b.map DW) S := A9q PM d _ S;simp [A0w, Dp, Ex.E8, Ex.ag, C8.E8, C8.ag];rw [hkf];rw [← Int.natCast_succ];refine O0.then (Lb h c.toJC ih PM nb (by simp; omega) c.hS (by omega) _ _ _ (done.map JT.enc) (by simp; omega)) (fun v hr hv => ?_) (fun z a b' c' ks hr hz => ?_)
     rotate_left
     ·rw [FL hr, show M5 d.t1 (.error z) = .error z from rfl, Q8]
      obtain ⟨x, y, w, t1⟩ := U5 (Ag.of a b' c' ks) (j + 1);have fb := Ab h lax z hz x y w d.t1;have rb := UV h (lax := lax) (e := e) hz (j + 1) (d := d) (by omega) (F9 l) (E9 S') w0 w1 w2 w3 a b' c' ks
      push_cast at t1 rb;simp [t1, i1, Ty.E8, Ty.ag, fb, rb];exact O0.err rfl hz (Ag.T ..)
     obtain ⟨a, hA, rfl⟩ := FM hr;have GH : a.ty.right = true := Iw (!lax) _ (Ex.P5 c.hr (c.BJ PM)) _ _ _ a (C8.EE c.dr (j + 1)) (C8.FY c.ds (j + 1)) nb hA;have t1 := Ay x0 x1 x2 (done.map JT.enc ++ [a.enc]) (j + 1) a (by rw [← hdn, List.getElem?_append_right (by simp)]; simp)
     have hf := Ev h lax a.ty d.t1 GH Km;rw [hA]
     by_cases hg : a.ty.agrees d.t1 = true
     ·rw [if_pos hg] at hf
      rw [show M5 d.t1 (.ok a) = .ok a by simp [M5, O6, hg], O6]
      have nx := ihm (j + 1) (done ++ [a]) (by omega) (by simp [hdn])
      push_cast at nx t1;simp [t1, i1, Ty.E8, Ty.ag, hf];simp only [List.map_append, List.map_cons, List.map_nil] at nx;cases Us : HZ (fK (!lax) e d) d.t0 d.t1 l S (j + 1 + 1) (e.F7.drop (j + 1)) with
      | error z => rw [Us] at nx; rw [Q8]; exact nx
      | ok q => rw [Us] at nx; rw [O6]; simpa using nx
     ·rw [if_neg hg] at hf
      rw [show M5 d.t1 (.ok a) = .error 4 by simp [M5, O6, hg], Q8]
      have rb := UV h (lax := lax) (e := e) (z := 4) (by omega) (j + 1) (d := d) (by omega) (F9 l) (E9 S') w0 w1 w2 w3 x0 x1 x2 (done.map JT.enc ++ [a.enc])
      push_cast at rb t1;simp [t1, i1, Ty.E8, Ty.ag, hf, rb];exact O0.err rfl (by omega) (Ag.T ..)
theorem A6l (hk : e.kind = 14) : O0 sg p lax ((run cfg).r XN [(.undef, .ptr p 0), (e.enc, .val), (d.enc, .val), (F9 l, .val), (E9 S', .val)] (V5 sg p lax 0)) (jE (jt (!lax) e d l S)) := by
 have own := Ex.V7 c.hr;have hp : e.F7.length + 1 = e.kids.length := by have := own.kids; simp [K8, hk] at this; omega
 have h0 : 0 < e.kids.length := by omega
 obtain ⟨o1, o2, o3, o4⟩ := CQ c.ho;have h2 : d.types.length = 2 := by rw [o1]; simp [M8, hk]
 have CW := C8.DF c.dr (by omega)
 have i0 := C8.A5j (d := d) (by omega)
 have hj : jt (!lax) e d l S = (M5 d.t0 (jk (!lax) e d 0 l S)).bind fun a => (HZ (fK (!lax) e d) d.t0 d.t1 l S 1 e.F7).bind fun q => .ok (.mk d.t1 (a :: q)) := by
  rw [Dv c.ho, gM hk, U0 h0];rfl
 refine O0.map ?_ (dM p e.enc d.enc (F9 l) (E9 S') _);rw [iU, hj];simp [Ex.E8, Ex.ag, C8.E8, C8.ag];refine O0.then (vZ h c ih h0 _ _ _ [] (by simp [lim])) (fun v hr hv => ?_) (fun z a b c' ks hr hz => ?_)
 rotate_left
 ·rw [FL hr, show M5 d.t0 (.error z) = .error z from rfl, Q8, Du]
  obtain ⟨x, y, w, t1⟩ := U5 (Ag.of a b c' ks) 0;have fb := Ab h lax z hz x y w d.t0;have rb := UV h (lax := lax) (e := e) hz 0 (d := d) (by omega) (F9 l) (E9 S') (.int .i64 0) (.int .i64 0) (.list 3 []) (.list 4 []) a b c' ks
  simp only [Int.natCast_zero, Int.ofNat_zero, Int.cast_ofNat_Int] at t1 rb;simp [t1, i0, Ty.E8, Ty.ag, fb, rb];exact O0.err rfl hz (Ag.T ..)
 obtain ⟨a, hA, rfl⟩ := FM hr;have GH := kD c h0 hA;have t0 := Ay (.int .i64 0) (.int .i64 0) (.list 3 []) [a.enc] 0 a rfl;have hf := Ev h lax a.ty d.t0 GH CW;simp only [Int.natCast_zero, Int.ofNat_zero, Int.cast_ofNat_Int] at t0;rw [hA]
 by_cases hg : a.ty.agrees d.t0 = true
 ·rw [if_pos hg] at hf
  rw [show M5 d.t0 (.ok a) = .ok a by simp [M5, O6, hg], O6]
  have nx := B20 h c ih hk hp h2 (.int .i64 0) (.int .i64 0) (.list 3 []) (.list 4 []) (.int .i64 0) (.int .i64 0) (.list 3 []) e.F7.length 0 [a] (by omega) rfl
  simp only [List.map_cons, List.map_nil, List.drop_zero, Nat.zero_add, Int.natCast_zero, Int.ofNat_zero, Int.cast_ofNat_Int] at nx;simp [t0, i0, Ty.E8, Ty.ag, hf];cases Us : HZ (fK (!lax) e d) d.t0 d.t1 l S 1 e.F7 with
  | error z => rw [Us] at nx; rw [Q8, Du]; exact nx
  | ok q => rw [Us] at nx; rw [O6, UM, JT.NN]; exact nx
 ·rw [if_neg hg] at hf
  rw [show M5 d.t0 (.ok a) = .error 4 by simp [M5, O6, hg], Q8, Du]
  have rb := UV h (lax := lax) (e := e) (z := 4) (by omega) 0 (d := d) (by omega) (F9 l) (E9 S') (.int .i64 0) (.int .i64 0) (.list 3 []) (.list 4 []) (.int .i64 0) (.int .i64 0) (.list 3 []) [a.enc]
  simp only [Int.natCast_zero, Int.ofNat_zero, Int.cast_ofNat_Int] at rb;simp [t0, i0, Ty.E8, Ty.ag, hf, rb];exact O0.err rfl (by omega) (Ag.T ..)
end
end Go.Su

/-
 What the reference's judging does: every expression; the whole.
-/
namespace Go.Su
theorem A63 (lax : Bool) (e : Ex) : wP lax e := by
 induction e using Ex.ind with
 | h e ih =>
   intro hr hf d l S S' dr ds nl Z0 hS hd sg p h;have own := Ex.V7 hr;have hmp := Ex.Dw e;obtain ⟨out, ow1, ow2⟩ := A8N h lax e hr hf d l (by omega) hS hd
   refine O0.map ?_ (jJ p e.enc d.enc (F9 l) (E9 S') _);rw [nU];simp [Ex.E8, Ex.ag, C8.E8, C8.ag, ow1, Cm h]
   by_cases ho : Cu (!lax) e d l S = 0
   rotate_left
   ·rw [A5n ho, Du]
    simp [ho];exact O0.err rfl ho (Ag.of ..)
   have Nh := ow2 ho;subst Nh;obtain ⟨o1, o2, o3, o4⟩ := CQ ho;have c : RJC lax e d l S S' := ⟨⟨hr, hf, dr, ds, nl, Z0, o2⟩, hS, hd, ho⟩;have k1 := own.k1;simp only [ho];have leaf : ∀ n : Int, e.kind = n → 2 ≤ n → n ≤ 5 → O0 sg p lax (FI (run cfg) e.enc (V5 sg p lax 0)) (jE (jt (!lax) e d l S)) := by
    intro n hk hn1 hn2;rw [Dv ho, Ol (by omega), UM, JT.NN, Zf]
    have s1 : A8 .sub (.int .i64 e.kind) (.int .i64 2) = some (.int .i64 (e.kind - 2)) := by rw [Df, CS (by omega) (by omega)]
    have s2 : A8 .add (.int .i64 (e.kind - 2)) (.int .i64 1) = some (.int .i64 (e.kind - 2 + 1)) := CO (by omega) (by omega)
    have hlf : (run cfg).p AV [.int .i64 (e.kind - 2 + 1)] = some (U1 (e.kind - 1)).enc := by
     rw [show e.kind - 2 + 1 = e.kind - 1 by omega]
     exact QP _
    simp [s1, s2, hlf];exact O0.ok rfl (Ag.T ..)
   by_cases h1 : e.kind = 1
   ·obtain ⟨i, i1, i2⟩ := A0b l (by omega) e.name
    cases hx : Av l e.name with
    | none =>
      have : Cu (!lax) e d l S = 6 := by simp [Cu, h1, hx]
      rw [this] at ho;cases ho
    | some x =>
      rw [hx] at i2;obtain ⟨i3, i4⟩ := i2;have hj : jt (!lax) e d l S = .ok (.mk (x.ty.put (x.vars.zip d.types)) []) := by
       rw [Dv ho, lQ h1, hx]
      have dX : M8 e l = x.vars.length := by simp [M8, h1, hx]
      obtain ⟨x1, x2, x3⟩ := nl x (vN hx);have hb := A6g x.vars d.types (by omega) x2
      have hp := A8L (x.vars.zip d.types) (by simp; omega) x.ty x1
      rw [hj, UM, JT.NN];simp [h1, i1, i4, hb, Ty.E8, Ty.ag, hp];exact O0.ok rfl (Ag.T ..)
   by_cases h2 : e.kind = 2
   ·simp [h2]
    exact leaf 2 h2 (by omega) (by omega)
   by_cases h3 : e.kind = 3
   ·simp [h3]
    exact leaf 3 h3 (by omega) (by omega)
   by_cases h4 : e.kind = 4
   ·simp [h4]
    exact leaf 4 h4 (by omega) (by omega)
   by_cases h5 : e.kind = 5
   ·simp [h5]
    exact leaf 5 h5 (by omega) (by omega)
   have B55 : ∀ k x y z x2 y2 z2 : DV, (run cfg).p IA [k, .agg [x, y, z], .agg [x2, y2, z2]] = some (.agg [k, .int .i64 0, .list 3 [.agg [x, y, z], .agg [x2, y2, z2]]]) ∨ J4 k = false := fun k x y z x2 y2 z2 => by
    cases hc : J4 k with
    | false => exact .inr rfl
    | true =>
      refine .inl ((fq _ _ _).trans ?_);rw [ko];simp [hc]
   have A77 : ∀ (k : Int) (x y z x2 y2 z2 : DV), (run cfg).p IA [.int .i64 k, .agg [x, y, z], .agg [x2, y2, z2]] = some (.agg [.int .i64 k, .int .i64 0, .list 3 [.agg [x, y, z], .agg [x2, y2, z2]]]) := fun k x y z x2 y2 z2 => by
    rcases B55 (.int .i64 k) x y z x2 y2 z2 with h | h
    ·exact h
    ·cases h
   by_cases h6 : e.kind = 6
   ·have hn : e.kids.length = 2 := by have := own.kids; simp [K8, h6] at this; omega
    have h0 : 0 < e.kids.length := by omega
    have h1 : 1 < e.kids.length := by omega
    have hj : jt (!lax) e d l S = (jk (!lax) e d 0 l S).bind fun a => (jk (!lax) e d 1 l S).bind fun b => .ok (.mk (.mk 7 0 [a.ty, b.ty]) [a, b]) := by
     rw [Dv ho, lS h6, U0 h0];simp only [U0 h1]
    rw [hj];simp [h6];refine O0.then (vZ h c ih h0 _ _ _ [] (by simp [lim])) (fun v hr hv => ?_) (fun z a b c' ks hr hz => ?_)
    rotate_left
    ·rw [FL hr, Q8, Du]
     have kb := Eb h (lax := lax) hz e d (.int .i64 1) (F9 l) (E9 S') a b c' ks;obtain ⟨x, y, z', t0⟩ := U5 (Ag.of a b c' ks) 0;obtain ⟨x2, y2, z2, t1⟩ := U5 (Ag.of a b c' ks) 1;simp only [Int.natCast_zero, Int.natCast_one, Int.ofNat_zero, Int.cast_ofNat_Int] at t0 t1;simp [kb, t0, t1, A77];exact O0.err rfl hz (Ag.of ..)
    obtain ⟨a, hA, rfl⟩ := FM hr;rw [hA, O6];simp;refine O0.then (vZ h c ih h1 _ _ _ [a.enc] (by simp [lim])) (fun v hr hv => ?_) (fun z a b c' ks hr hz => ?_)
    rotate_left
    ·rw [FL hr, Q8, Du]
     obtain ⟨x, y, z', t0⟩ := U5 (Ag.of a b c' ks) 0;obtain ⟨x2, y2, z2, t1⟩ := U5 (Ag.of a b c' ks) 1;simp only [Int.natCast_zero, Int.natCast_one, Int.ofNat_zero, Int.cast_ofNat_Int] at t0 t1;simp [t0, t1, A77];exact O0.err rfl hz (Ag.of ..)
    obtain ⟨b, hB, rfl⟩ := FM hr;have t0 := Ay (.int .i64 0) (.int .i64 0) (.list 3 []) [a.enc, b.enc] 0 a rfl;have t1 := Ay (.int .i64 0) (.int .i64 0) (.list 3 []) [a.enc, b.enc] 1 b rfl;have two := mE 7 a.ty b.ty;simp only [Int.natCast_zero, Int.natCast_one, Int.ofNat_zero, Int.cast_ofNat_Int] at t0 t1;rw [hB, O6, UM, JT.NN];simp [t0, t1, two];exact O0.ok rfl (Ag.T ..)
   by_cases h7 : e.kind = 7
   ·have hn : e.kids.length = 0 := by have := own.kids; simp [K8, h7] at this; simp [this]
    have i0 := C8.A5j (d := d) (by rw [o1]; simp [M8, h7])
    have hl := zz d.t0;rw [Dv ho, vJ h7, UM, JT.NN];simp [h7, i0, Ty.E8, Ty.ag, hl];exact O0.ok rfl (Ag.T ..)
   have h21 : ∀ w0 w1 w2 w3, O0 sg p lax (Sr (run cfg) p (F9 l) (E9 S') (E9 (S' ++ d.vars)) (.int .i64 e.kind) e.enc d.enc w0 w1 w2 w3 (V5 sg p lax 0)) (jE (jt (!lax) e d l S)) := by
    intro w0 w1 w2 w3;rw [Zg]
    by_cases h8 : e.kind = 8
    ·have hn : e.kids.length = 2 := by have := own.kids; simp [K8, h8] at this; omega
     have h0 : 0 < e.kids.length := by omega
     have h1 : 1 < e.kids.length := by omega
     have hty : 0 < d.types.length := by rw [o1]; simp [M8, h8]
     have i0 := C8.A5j (d := d) hty;have CW := C8.DF dr hty;have hrl := WO CW;have hli : (run cfg).p SI [d.t0.enc] = some (Y5 d.t0).enc := zz d.t0;have hj : jt (!lax) e d l S = (M5 d.t0 (jk (!lax) e d 0 l S)).bind fun a => (M5 (Y5 d.t0) (jk (!lax) e d 1 l S)).bind fun b => .ok (.mk (Y5 d.t0) [a, b]) := by
      rw [Dv ho, lN h8, U0 h0];simp only [U0 h1]
     rw [hj];simp [Ex.E8, Ex.ag, C8.E8, C8.ag];simp [h8];refine O0.then (vZ h c ih h0 _ _ _ [] (by simp [lim])) (fun v hr hv => ?_) (fun z a b c' ks hr hz => ?_)
     rotate_left
     ·rw [FL hr, show M5 d.t0 (.error z) = .error z from rfl, Q8, Du]
      have kb := Eb h (lax := lax) hz e d (.int .i64 1) (F9 l) (E9 S') a b c' ks;obtain ⟨x, y, w, t0⟩ := U5 (Ag.of a b c' ks) 0;obtain ⟨x2, y2, z2, t1⟩ := U5 (Ag.of (.int .i64 (Y5 d.t0).kind) (.int .i64 (Y5 d.t0).n) (.list 3 ((Y5 d.t0).kids.map Ty.enc)) ks) 1;have fb := Ab h lax z hz x y w d.t0;have fb2 := Ab h lax z hz x2 y2 z2 (Y5 d.t0);simp only [Int.natCast_zero, Int.natCast_one, Int.ofNat_zero, Int.cast_ofNat_Int] at t0 t1;simp [kb, t0, t1, i0, Ty.E8, Ty.ag, fb, hli, fb2];exact O0.err rfl hz (Ag.of ..)
     obtain ⟨a, hA, rfl⟩ := FM hr;have GH := kD c h0 hA;have t0 := Ay (.int .i64 0) (.int .i64 0) (.list 3 []) [a.enc] 0 a rfl;have hf0 := Ev h lax a.ty d.t0 GH CW;simp only [Int.natCast_zero, Int.ofNat_zero, Int.cast_ofNat_Int] at t0;rw [hA]
     by_cases hg : a.ty.agrees d.t0 = true
     ·rw [if_pos hg] at hf0
      rw [show M5 d.t0 (.ok a) = .ok a by simp [M5, O6, hg], O6]
      simp [t0, i0, Ty.E8, Ty.ag, hf0];refine O0.then (vZ h c ih h1 _ _ _ [a.enc] (by simp [lim])) (fun v hr hv => ?_) (fun z a b c' ks hr hz => ?_)
      rotate_left
      ·rw [FL hr, show M5 (Y5 d.t0) (.error z) = .error z from rfl, Q8, Du]
       obtain ⟨x2, y2, z2, t1⟩ := U5 (Ag.of (.int .i64 (Y5 d.t0).kind) (.int .i64 (Y5 d.t0).n) (.list 3 ((Y5 d.t0).kids.map Ty.enc)) ks) 1;have fb2 := Ab h lax z hz x2 y2 z2 (Y5 d.t0);simp only [Int.natCast_zero, Int.natCast_one, Int.ofNat_zero, Int.cast_ofNat_Int] at t1;simp [t1, i0, Ty.E8, Ty.ag, hli, fb2];exact O0.err rfl hz (Ag.of ..)
      obtain ⟨b, hB, rfl⟩ := FM hr;have hBr := kD c h1 hB;have t1 := Ay (.int .i64 (Y5 d.t0).kind) (.int .i64 (Y5 d.t0).n) (.list 3 ((Y5 d.t0).kids.map Ty.enc)) [a.enc, b.enc] 1 b rfl;have pz := Ev h lax b.ty (Y5 d.t0) hBr hrl;simp only [Int.natCast_zero, Int.natCast_one, Int.ofNat_zero, Int.cast_ofNat_Int] at t1;rw [hB]
      by_cases hg2 : b.ty.agrees (Y5 d.t0) = true
      ·rw [if_pos hg2] at pz
       rw [show M5 (Y5 d.t0) (.ok b) = .ok b by simp [M5, O6, hg2], O6, UM, JT.NN]
       simp [t1, i0, Ty.E8, Ty.ag, hli, pz];exact O0.ok rfl (Ag.T ..)
      ·rw [if_neg hg2] at pz
       rw [show M5 (Y5 d.t0) (.ok b) = .error 4 by simp [M5, O6, hg2], Q8, Du]
       simp [t1, i0, Ty.E8, Ty.ag, hli, pz];exact O0.err rfl (by omega) (Ag.of ..)
     ·rw [if_neg hg] at hf0
      rw [show M5 d.t0 (.ok a) = .error 4 by simp [M5, O6, hg], Q8, Du]
      have kb := Eb h (lax := lax) (z := 4) (by omega) e d (.int .i64 1) (F9 l) (E9 S') (.int .i64 0) (.int .i64 0) (.list 3 []) [a.enc]
      obtain ⟨x2, y2, z2, t1⟩ := U5 (Ag.of (.int .i64 (Y5 d.t0).kind) (.int .i64 (Y5 d.t0).n) (.list 3 ((Y5 d.t0).kids.map Ty.enc)) [a.enc]) 1;have fb2 := Ab h lax 4 (by omega) x2 y2 z2 (Y5 d.t0)
      simp only [Int.natCast_zero, Int.natCast_one, Int.ofNat_zero, Int.cast_ofNat_Int] at t1;simp [t0, i0, Ty.E8, Ty.ag, hf0, kb, t1, hli, fb2];exact O0.err rfl (by omega) (Ag.of ..)
    by_cases h9 : e.kind = 9
    ·have hn : e.kids.length = 1 := by have := own.kids; simp [K8, h9] at this; omega
     have h0 : 0 < e.kids.length := by omega
     have m0 := Ex.O3 (c.BJ h0);have uz := C8.Vh (d := d) (i := 0) (by rw [o2]; exact h0)
     have Np := wE e.a own.a d.types fun h0 => by rw [o1]; simp [M8, h9, h0]
     have hPe : K4 e.a (d.types.getD 0 F8) = K4 e.a d.t0 := rfl;rw [hPe] at Np;have jg : (K4 e.a d.t0).right = true := GG own.a fun h0 => C8.DF dr (by rw [o1]; simp [M8, h9, h0])
     have hj : jt (!lax) e d l S = (jk (!lax) e d 0 (l ++ [⟨e.name, K4 e.a d.t0, []⟩]) S).bind fun a => .ok (.mk (U9 (K4 e.a d.t0) a.ty) [a]) := by
      rw [Dv ho, vH h9, U0 h0]
     have nm1 : Au (l ++ [⟨e.name, K4 e.a d.t0, []⟩]) := nl.app fun x hx => by
      simp only [List.mem_singleton] at hx;subst hx;exact ⟨jg, by simp, by simp⟩
     have pl := bL l e.name (K4 e.a d.t0) (by omega)
     rw [hj];simp [Ex.E8, Ex.ag, C8.E8, C8.ag, Ty.E8, Ty.ag];rw [Np];simp [h9, pl, Ty.E8, Ty.ag];refine O0.then (Lb h c.toJC ih h0 nm1 (by simp; omega) hS (by omega) _ _ _ [] (by simp [lim])) (fun v hr hv => ?_) (fun z a b c' ks hr hz => ?_)
     rotate_left
     ·rw [FL hr, Q8, Du]
      obtain ⟨x, y, w, t0⟩ := U5 (Ag.of a b c' ks) 0;simp only [Int.natCast_zero, Int.ofNat_zero, Int.cast_ofNat_Int] at t0;have h2 := A77 9 (.int .i64 (K4 e.a d.t0).kind) (.int .i64 (K4 e.a d.t0).n) (.list 3 ((K4 e.a d.t0).kids.map Ty.enc)) x y w;rw [Ty.E8] at h2;simp [t0, Ty.E8, Ty.ag, h2];exact O0.err rfl hz (Ag.of ..)
     obtain ⟨a, hA, rfl⟩ := FM hr;have t0 := Ay (.int .i64 0) (.int .i64 0) (.list 3 []) [a.enc] 0 a rfl;have two := mE 9 (K4 e.a d.t0) a.ty;simp only [Int.natCast_zero, Int.ofNat_zero, Int.cast_ofNat_Int] at t0;rw [hA, O6, UM, JT.NN];simp [t0, Ty.E8, Ty.ag, two];exact O0.ok rfl (Ag.T ..)
    have k16 := own.k16;simp [Ex.E8, Ex.ag, C8.E8, C8.ag]
    by_cases DY : e.kind = 10
    ·have := A8M h c ih DY
     simp [DY];exact this.pass fun a b c ks s => by simp
    by_cases Dn : e.kind = 11
    ·have := A6j h c ih Dn
     simp [Dn];exact this.pass fun a b c ks s => by simp
    by_cases Ee : e.kind = 12
    ·have := A6k h c ih Ee
     simp [Ee];exact this.pass fun a b c ks s => by simp
    by_cases Ki : e.kind = 14
    ·have := A6l h c ih Ki
     simp [Ki];exact this.pass fun a b c ks s => by simp
    ·have := A64 h c ih (by omega)
     simp [h8, h9, DY, Dn, Ee, Ki];exact this.pass fun a b c ks s => by simp
   simp [h1, h2, h3, h4, h5, h6, h7];exact h21 _ _ _ _
theorem xM (d : C8) : d.DC → (run cfg).p Kr [d.enc] = some (.bool d.Aa) := by
 induction d using C8.ind with
 | h d ih =>
   intro hd;obtain ⟨d1, d2, d3, d4⟩ := hd.all;have b1 := big d1;have b2 := big d2;have b3 := big d3;have l3 := Ni (l := d.kids) (f := C8.Aa) (P := fun j => De (run cfg) (.int .i64 j) d.enc) (y := DV.bool true) (n := DV.bool false)
    (by rw [Jy]; simp)
    (fun j hj => by
      rw [Jy];have hk := ih _ (List.getElem_mem hj) (hd.kid (List.getElem_mem hj));cases hr : d.kids[j].Aa <;> rw [hr] at hk <;> simp [hj, F4 hj, C8.E8, C8.ag, hk, hr, K6 (show j < 9223372036854775807 by omega)])
   have l2 := SB (l := d.vars) (f := fun v => decide (0 ≤ v) && decide (v ≤ 1048576)) (P := fun j => EK (run cfg) (.int .i64 j) d.enc) (y := De (run cfg) (.int .i64 0) d.enc) (n := some (DV.bool false))
    (by rw [LM]; simp)
    (fun j hj => by
      rw [LM]
      by_cases h1 : d.vars[j] < 0
      ·have : ¬ 0 ≤ d.vars[j] := by omega
       simp [hj, U3 hj, h1, this]
      ·have jY : 0 ≤ d.vars[j] := by omega
       by_cases h2 : 1048576 < d.vars[j]
       ·have : ¬ d.vars[j] ≤ 1048576 := by omega
        simp [hj, U3 hj, h1, jY, h2, this]
       ·have YG : d.vars[j] ≤ 1048576 := by omega
        simp [hj, U3 hj, h1, jY, h2, YG, K6 (show j < 9223372036854775807 by omega)])
   have l1 := SB (l := d.types) (f := Ty.right) (P := fun j => HY (run cfg) (.int .i64 j) d.enc) (y := EK (run cfg) (.int .i64 0) d.enc) (n := some (DV.bool false))
    (by rw [LJ]; simp)
    (fun j hj => by
      rw [LJ];have hk := v_ _ (d4 _ (List.getElem_mem hj)).1;cases hr : d.types[j].right <;> rw [hr] at hk <;> simp [hj, F4 hj, Ty.E8, Ty.ag, hk, hr, K6 (show j < 9223372036854775807 by omega)])
   refine (Ws _).trans ?_;rw [Xy, C8.eO];simp;refine l1.trans ?_;rw [l2, l3]
   by_cases a1 : d.types.all Ty.right = true
   ·by_cases a2 : (d.vars.all fun v => decide (0 ≤ v) && decide (v ≤ 1048576)) = true
    ·rw [if_pos a1, if_pos a2, a1, a2]
     cases d.kids.all C8.Aa <;> rfl
    ·rw [if_pos a1, if_neg a2]
     simp only [Bool.not_eq_true] at a2;rw [a1, a2];rfl
   ·rw [if_neg a1]
    simp only [Bool.not_eq_true] at a1;rw [a1];rfl
theorem A6h (e : Ex) (d : C8) (hf : e.fit) (ds : d.DC) (hm : 2 * e.J3 ≤ lim) (hd : d.J3 ≤ lim) :
 (run cfg).p fH [e.enc, d.enc] = some (match Wz true e d with
   | .ok T => .H7 [T.ty.enc, .int .i64 0]
   | .error z => .H7 [F8.enc, .int .i64 z]) := by
 have hc := wC e hf;have hr := xM d ds;refine (o_ _ _).trans ?_;rw [sS];unfold Wz
 by_cases h1 : e.right = true
 rotate_left
 ·simp only [Bool.not_eq_true] at h1
  rw [h1] at hc;rw [if_neg fun h => by rw [h1] at h; simp at h]
  simp [Ex.E8, Ex.ag, C8.E8, C8.ag, hc, A6s]
 rw [h1] at hc
 by_cases h2 : d.Aa = true
 rotate_left
 ·rw [if_neg fun h => h2 h.2]
  simp only [Bool.not_eq_true] at h2;rw [h2] at hr;simp [Ex.E8, Ex.ag, C8.E8, C8.ag, hc, hr, A6s]
 rw [if_pos ⟨h1, h2⟩];rw [h2] at hr;have sp := A63 false e h1 hf d [] [] [] h2 ds (fun x hx => by simp at hx) (by simpa using hm) (fun v => Iff.rfl) (by simpa using hd) [.box (vV false 0)] 0 (by simp)
 have e0 : V5 [.box (vV false 0)] 0 false 0 = [D7.box [(.int .i64 0, .val), (.bool false, .val)]] := rfl;rw [e0] at sp;obtain ⟨v, er, q1, q2, q3⟩ := sp;have nl : F9 [] = .list 5 [] := rfl;have ni : E9 [] = .list 1 [] := rfl;rw [nl, ni] at q1;have jp : 0 < [D7.box (vV false 0)].length := by simp
 simp only [Bool.not_false] at q3;cases hj : jt true e d [] [] with
 | ok T =>
   rw [hj] at q3;simp only [jE] at q3;obtain ⟨rfl, rfl⟩ := q3;have ea : D5 4 T.enc = true := by rw [JT.I5]; rfl
   simp [Ex.E8, Ex.ag, C8.E8, C8.ag, hc, hr, q1, Cm jp, ea];rw [JT.I5];simp [Ty.E8, Ty.ag]
 | error z =>
   rw [hj] at q3;simp only [jE] at q3;obtain ⟨rfl, hz⟩ := q3;obtain ⟨a, b, c, ks, rfl⟩ := q2;simp [Ex.E8, Ex.ag, C8.E8, C8.ag, hc, hr, q1, Cm jp, hz, A6s]
end Go.Su

/-
 Which derivations are tame: that there is an answer.
-/
namespace Go.Su
def AB (sg : List D7) (i : Nat) (q : Option (List DV × List D7)) : Prop := ∃ (m : Int) (c : Bool), q = some ([.int .i64 m], Bq sg i c) ∧ Room m
theorem AB.mk {sg : List D7} {i : Nat} {m : Int} {c : Bool} (h : Room m) : AB sg i (some ([.int .i64 m], Bq sg i c)) := ⟨m, c, rfl, h⟩
theorem AB.then {sg : List D7} {i : Nat} {qa : Option (List DV × List D7)} {k : List DV × List D7 → Option (List DV × List D7)} (h : AB sg i qa) (hk : ∀ (m : Int) (c : Bool), Room m → AB sg i (k ([.int .i64 m], Bq sg i c))) : AB sg i (ob qa k) := by
 obtain ⟨m, c, h1, h2⟩ := h;rw [h1];exact hk m c h2
theorem AB.map {sg : List D7} {i : Nat} {q q' : Option (List DV × List D7)} (h : AB sg i q) (e : q' = q) : AB sg i q' := e ▸ h
theorem B1J (c : Bool) : X5 [(.bool c, .val)] 0 = some (.bool c) := rfl
theorem Ou : Room 1 := by unfold Room; omega
theorem Room.add {a b : Int} (ha : Room a) (hb : Room b) : A8 .add (.int .i64 a) (.int .i64 b) = some (.int .i64 (a + b)) := by unfold Room at ha hb; exact CO (by omega) (by omega)
theorem QR (l : List (ByteArray × Int)) (s : ByteArray) (n : Int) (hl : l.length < lim) : (run cfg).p Kt [Y9 l, .str s, .int .i64 n] = some (Y9 (l ++ [(s, n)])) := by
 refine (uL _ _ _).trans ?_;rw [yz];have e1 : R6 2 (.list 2 []) (Y9 l) = some (Y9 l) := by
  have := DL (sz := 2) (a := []) (b := l.map Yv) (by simp; omega)
  rw [List.nil_append] at this;exact this
 have e2 := Ac (e := Yv) (sz := 2) (l := l) (x := (s, n)) hl;have e2' : R6 2 (Y9 l) (.list 2 [.agg [.str s, .int .i64 n]]) = some (Y9 (l ++ [(s, n)])) := e2;simp [e1, e2']
theorem wQ.app {l : List (ByteArray × Int)} (h : Oc l) {s : ByteArray} {n : Int} (hn : Room n) : Oc (l ++ [(s, n)]) := fun x hx => by
 rcases List.mem_append.1 hx with hx | hx
 ·exact h x hx
 ·simp only [List.mem_singleton] at hx
  subst hx;exact hn
section
variable {sg : List D7} {i : Nat} (h : i < sg.length) (b : Bool)
include h
theorem rA {n : Int} (hn : 0 ≤ n) : AB sg i ((run cfg).r AQ [(.undef, .ptr i 0), (.int .i64 n, .val)] (Bq sg i b)) := wD h b n hn
theorem Yq (ts : List Ty) (hz : ∀ t ∈ ts, t.size ≤ lim) : AB sg i ((run cfg).r Bt [(.undef, .ptr i 0), (.list 3 (ts.map Ty.enc), .val)] (Bq sg i b)) := by
 refine AB.map ?_ (Wo i _ _);rw [Xv];cases ts with
 | nil =>
   simp [dLen];exact AB.mk Ou
 | cons t ts =>
   have hs := QQ t (hz t (List.mem_cons_self ..));have e1 : F3 3 (.list 3 ((t :: ts).map Ty.enc)) (.int .i64 0) = some t.enc := F4 (e := Ty.enc) (sz := 3) (k := .i64) (i := 0) (l := t :: ts) (by simp)
   have e2 : ¬ ((ts.length : Int) + 1 = 0) := by omega
   simp only [List.map_cons] at e1;simp [e2, e1, Ty.E8, Ty.ag, hs];refine (rA h b (by omega)).then fun m c hm => ?_
   simp;exact AB.mk hm
theorem A8X (ts : List Ty) (hl : ts.length ≤ lim) (hz : ∀ t ∈ ts, t.size ≤ lim) : AB sg i ((run cfg).r IB [(.undef, .ptr i 0), (.list 3 (ts.map Ty.enc), .val)] (Bq sg i b)) := by
 have hb := big hl;refine AB.map ?_ (X_ i _ _);rw [Zd]
 by_cases h0 : ts.length = 0
 ·simp [h0]
  exact AB.mk Ou
 ·have I4 : ts.length - 1 < ts.length := by omega
  have e1 : ((ts.length : Int) - 1) = ((ts.length - 1 : Nat) : Int) := by omega
  have hs := QQ _ (hz _ (List.getElem_mem I4));have BI : A8 .sub (.int .i64 (ts.length : Int)) (.int .i64 1) = some (.int .i64 ((ts.length - 1 : Nat) : Int)) := by rw [Df, CS (by omega) (by omega), e1]
  have Ib : ¬ (ts = []) := fun hh => h0 (by rw [hh]; rfl)
  simp [Ib, BI, F4 I4, Ty.E8, Ty.ag, hs];refine (rA h b (by omega)).then fun m c hm => ?_
  simp;exact AB.mk hm
theorem A1e (t : Ty) (hz : t.size ≤ lim) {n : Int} (hn : Room n) : AB sg i ((run cfg).r EO [(.undef, .ptr i 0), (t.enc, .val), (.int .i64 n, .val)] (Bq sg i b)) := by
 have hs := QQ t hz;have Eg := Iz t;refine AB.map ?_ (Zt i _ _ _);rw [cO];cases ht : t.none with
 | true =>
   rw [ht] at Eg;simp [Ty.E8, Ty.ag, Eg];exact AB.mk hn
 | false =>
   rw [ht] at Eg;simp [Ty.E8, Ty.ag, Eg, hs];refine (rA h b (by omega)).then fun m c hm => ?_
   simp;exact AB.mk hm
end
def B1I (e : Ex) : Prop := e.right = true → e.fit → ∀ (d : C8), d.J3 ≤ lim → ∀ (sg : List D7) (i : Nat) (l : List (ByteArray × Int)) (b : Bool), i < sg.length → Oc l → l.length + 2 * e.J3 ≤ lim →
 AB sg i ((run cfg).r Y2 [(.undef, .ptr i 0), (e.enc, .val), (d.enc, .val), (Y9 l, .val)] (Bq sg i b))
section
variable {sg : List D7} {i : Nat} (h : i < sg.length) {e : Ex} (hr : e.right = true) (hf : e.fit) (ih : ∀ k ∈ e.kids, B1I k) {d : C8} (hd : d.J3 ≤ lim) (Dt : d.kids.length = e.kids.length)
include h hr hf ih hd Dt
theorem YT (b : Bool) {j : Nat} (hj : j < e.kids.length) {l : List (ByteArray × Int)} (ho : Oc l) (hl : l.length + 2 * (e.kid j).J3 ≤ lim) :
 AB sg i ((run cfg).r Y2 [(.undef, .ptr i 0), ((e.kid j).enc, .val), ((d.kid j).enc, .val), (Y9 l, .val)] (Bq sg i b)) := by
 have hm : e.kid j ∈ e.kids := by rw [Ar hj]; exact List.getElem_mem hj
 have hdm := C8.O3 (C8.A9H (d := d) (i := j) (by omega))
 exact ih _ hm (Ex.P5 hr hm) (hf.kid hm) (d.kid j) (by omega) sg i l b h ho hl
omit h hr hf ih hd in
theorem YS {j : Nat} (hj : j < e.kids.length) : F3 16 (.list 16 (e.kids.map Ex.enc)) (.int .i64 (j : Int)) = some (e.kid j).enc ∧ F3 3 (.list 3 (d.kids.map C8.enc)) (.int .i64 (j : Int)) = some (d.kid j).enc := by
 have Ur : j < d.kids.length := by omega
 refine ⟨by rw [Ar hj]; exact F4 hj, ?_⟩
 have : d.kid j = d.kids[j] := by simp only [C8.kid, List.getD_eq_getElem?_getD, List.getElem?_eq_getElem Ur, Option.getD_some]
 rw [this]; exact F4 Ur
theorem B2a {l : List (ByteArray × Int)} (ho : Oc l) (hl : l.length + 2 * e.J3 ≤ lim) (b : Bool) (hk : e.kind = 14) : AB sg i ((run cfg).r Qw [(.undef, .ptr i 0), (e.enc, .val), (d.enc, .val), (Y9 l, .val)] (Bq sg i b)) := by
 have own := Ex.V7 hr;have hp : e.F7.length + 1 = e.kids.length := by have := own.kids; simp [K8, hk] at this; omega
 have h0 : 0 < e.kids.length := by omega
 obtain ⟨i0, i1⟩ := YS (d := d) Dt h0;simp only [Int.natCast_zero, Int.ofNat_zero, Int.cast_ofNat_Int] at i0 i1;have hm0 := Ex.O3 (show e.kid 0 ∈ e.kids by rw [Ar h0]; exact List.getElem_mem h0)
 have hml := Ex.ah e;have hbp : e.F7.length < 4294967296 := by have := hf.one.F7; unfold lim at this; omega
 have tz : ∀ t ∈ d.types, t.size ≤ lim := fun t ht => by have := C8.types_size ht; omega
 have tl := C8.SE d;have loop : ∀ (m j : Nat) (b : Bool), j + m = e.F7.length → AB sg i (G_ (run cfg) i (Y9 l) (.int .i64 j) e.enc d.enc (Bq sg i b)) := by
  intro m
  induction m with
  | zero =>
    intro j b hj;rw [LF];have : ¬ j < e.F7.length := by omega
    simp [this];refine (A8X h b d.types (by omega) tz).then fun m c hm => ?_
    simp;exact AB.mk hm
  | succ m ihm =>
    intro j b hj;have I4 : j < e.F7.length := by omega
    have PM : j + 1 < e.kids.length := by omega
    have hpm := List.getElem_mem I4;have hps := C9.Nv e.F7[j];have uz : e.kid (j + 1) ∈ e.kids := by rw [Ar PM]; exact List.getElem_mem PM
    have hmm : e.F7[j].J3 + (e.kid (j + 1)).J3 < e.J3 := by
     rw [Ex.U2 e];have a1 := AY (List.mem_map_of_mem (f := C9.J3) hpm);have a2 := AY (List.mem_map_of_mem (f := Ex.J3) uz);omega
    have vC := wB e.F7[j] (by omega)
    have hnl : e.F7[j].names.length ≤ e.F7[j].size := by have := C9.gP e.F7[j] []; simp at this; unfold C9.names; omega
    have hnb : e.F7[j].names.length < 4294967297 := big (by omega)
    have Dp : A8 .add (.int .i64 (j : Int)) (.int .i64 1) = some (.int .i64 ((j + 1 : Nat) : Int)) := K6 (by omega)
    obtain ⟨k0, k1⟩ := YS (d := d) Dt PM;have l8 : ∀ (n q : Nat) (a : List (ByteArray × Int)) (b : Bool), q + n = e.F7[j].names.length → Oc a → a.length = l.length + q → AB sg i (HV (run cfg) i (Y9 l) (.int .i64 j) (Y9 a) (Bn e.F7[j].names) (.int .i64 q) e.enc d.enc (Bq sg i b)) := by
     intro n
     induction n with
     | zero =>
       intro q a b hq hoa hal;rw [LG];have : ¬ q < e.F7[j].names.length := by omega
       push_cast at Dp k0 k1;simp [this, Dp, k0, k1, Ex.E8, Ex.ag, C8.E8, C8.ag];refine (YT h hr hf ih hd Dt b PM hoa (by omega)).then fun m2 c hm => ?_
       have := ihm (j + 1) c (by omega)
       push_cast at this;simp;exact this
     | succ n ihn =>
       intro q a b hq hoa hal;have B3W : q < e.F7[j].names.length := by omega
       rw [LG];simp [B3W, rO B3W];refine (Yq h b d.types tz).then fun m2 c hm => ?_
       have mo := QR a e.F7[j].names[q] m2 (by omega)
       have := ihn (q + 1) (a ++ [(e.F7[j].names[q], m2)]) c (by omega) (wQ.app hoa hm) (by simp [hal]; omega)
       push_cast at this;simp [mo, K6 (show q < 9223372036854775807 by omega)]
       exact this
    have := l8 e.F7[j].names.length 0 l b (by omega) ho (by omega)
    simp only [Int.natCast_zero, Int.ofNat_zero, Int.cast_ofNat_Int] at this;have B6g : (j : Int) + 1 < (e.kids.length : Int) := by omega
    push_cast at Dp;rw [LF];simp [I4, Dp, B6g, F4 I4, C9.E8, C9.ag, vC];exact this
 refine AB.map ?_ (Wq i e.enc d.enc (Y9 l) _);rw [Xx];simp [i0, i1, Ex.E8, Ex.ag, C8.E8, C8.ag];refine (YT h hr hf ih hd Dt b h0 ho (by omega)).then fun m c hm => ?_
 have := loop e.F7.length 0 c (by omega)
 simp only [Int.natCast_zero, Int.ofNat_zero, Int.cast_ofNat_Int] at this;simp;exact this
theorem B5H {l : List (ByteArray × Int)} (ho : Oc l) (hl : l.length + 2 * e.J3 ≤ lim) (b : Bool) : AB sg i (NG (run cfg) i (Y9 l) (.int .i64 e.kind) e.enc d.enc (Bq sg i b)) := by
 have own := Ex.V7 hr;have tz : ∀ t ∈ d.types, t.size ≤ lim := fun t ht => by have := C8.types_size ht; omega
 have tl := C8.SE d;have B6i := Ex.U2 e;rw [Um]
 by_cases Ee : e.kind = 12
 ·have hn : e.kids.length = 2 := by have := own.kids; simp [K8, Ee] at this; omega
  have h0 : 0 < e.kids.length := by omega
  have h1 : 1 < e.kids.length := by omega
  obtain ⟨i0, i0'⟩ := YS (d := d) Dt h0;obtain ⟨i1, i1'⟩ := YS (d := d) Dt h1;simp only [Int.natCast_zero, Int.natCast_one, Int.ofNat_zero, Int.cast_ofNat_Int] at i0 i0' i1 i1';have zi : (e.kid 0).J3 + (e.kid 1).J3 < e.J3 := by
   rw [Ex.U2 e, A1N hn];simp;omega
  have p0 := Ex.Dw (e.kid 0);have p1 := Ex.Dw (e.kid 1);simp [Ee];refine (Yq h b d.types tz).then fun m1 c1 Lt => ?_
  simp [Ty.E8, Ty.ag];refine (A1e h c1 e.a (by omega) Lt).then fun m2 c2 Kl => ?_
  simp [Room.add Kl Ou];refine (A8X h c2 d.types (by omega) tz).then fun m3 c3 hm3 => ?_
  simp [Ty.E8, Ty.ag];refine (A1e h c3 e.b (by omega) hm3).then fun m4 c4 hm4 => ?_
  have a1 : A8 .add (.int .i64 (m2 + 1)) (.int .i64 m4) = some (.int .i64 (m2 + 1 + m4)) := by unfold Room at Kl hm4; exact CO (by omega) (by omega)
  simp [a1];refine (rA h c4 (by unfold Room at Kl hm4; omega)).then fun m5 c5 hm5 => ?_
  have mo := QR l e.name m5 (by omega)
  have mo2 := QR (l ++ [(e.name, m5)]) e.arg m2 (by simp; omega)
  simp only [← Ee];simp [mo, mo2, i0, i0', Ex.E8, Ex.ag, C8.E8, C8.ag];have := YT h hr hf ih hd Dt c5 h0 (l := l ++ [(e.name, m5)] ++ [(e.arg, m2)]) (wQ.app (wQ.app ho hm5) Kl) (by simp; omega)
  rw [List.append_assoc, List.singleton_append] at this mo2;refine this.then fun m6 c6 hm6 => ?_
  simp [i1, i1', Ex.E8, Ex.ag, C8.E8, C8.ag];refine (YT h hr hf ih hd Dt c6 h1 (l := l ++ [(e.name, m5)]) (wQ.app ho hm5) (by simp; omega)).then fun m7 c7 hm7 => ?_
  simp;exact AB.mk hm7
 by_cases PK : e.kind = 13
 ·simp [PK]
  refine (Yq h b d.types tz).then fun m1 c1 Lt => ?_
  simp;exact AB.mk Lt
 by_cases Ki : e.kind = 14
 ·simp [Ex.E8, Ex.ag, C8.E8, C8.ag]
  simp [Ki];refine (B2a h hr hf ih hd Dt ho hl b Ki).then fun m1 c1 Lt => ?_
  simp;exact AB.mk Lt
 by_cases jZ : e.kind = 15
 ·simp [jZ, Ty.E8, Ty.ag]
  refine (A1e h b e.a (by omega) Ou).then fun m1 c1 Lt => ?_
  simp;exact AB.mk Lt
 ·simp [Ee, PK, Ki, jZ]
  exact AB.mk Ou
theorem B3l {l : List (ByteArray × Int)} (ho : Oc l) (hl : l.length + 2 * e.J3 ≤ lim) (b : Bool) {x y : Int} (hx : Room x) (hy : Room y) : AB sg i (BA (run cfg) i (Y9 l) (.int .i64 x) (.int .i64 y) e.enc d.enc (Bq sg i b)) := by
 have own := Ex.V7 hr;have tz : ∀ t ∈ d.types, t.size ≤ lim := fun t ht => by have := C8.types_size ht; omega
 have tl := C8.SE d;have B6i := Ex.U2 e;rw [Ul]
 by_cases h1 : e.kind = 1
 ·obtain ⟨m, c, hm, Kl⟩ := A6i h b l (by omega) ho e.name d.types (by omega) tz
  simp [h1, hm];exact AB.mk Kl
 by_cases h6 : e.kind = 6
 ·have a1 : A8 .add (.int .i64 (x + y)) (.int .i64 1) = some (.int .i64 (x + y + 1)) := by unfold Room at hx hy; exact CO (by omega) (by omega)
  simp [h6, Room.add hx hy, a1];refine (rA h b (by unfold Room at hx hy; omega)).then fun m1 c1 Lt => ?_
  simp;exact AB.mk Lt
 by_cases h7 : e.kind = 7
 ·simp [h7]
  refine (Yq h b d.types tz).then fun m1 c1 Lt => ?_
  simp [Room.add Lt Ou];refine (rA h c1 (by unfold Room at Lt; omega)).then fun m2 c2 Kl => ?_
  simp;exact AB.mk Kl
 by_cases h8 : e.kind = 8
 ·simp [h8]
  refine (Yq h b d.types tz).then fun m1 c1 Lt => ?_
  simp [Room.add Lt Ou];refine (rA h c1 (by unfold Room at Lt; omega)).then fun m2 c2 Kl => ?_
  simp;exact AB.mk Kl
 by_cases h9 : e.kind = 9
 ·have hn : e.kids.length = 1 := by have := own.kids; simp [K8, h9] at this; omega
  have h0 : 0 < e.kids.length := by omega
  obtain ⟨i0, i0'⟩ := YS (d := d) Dt h0;simp only [Int.natCast_zero, Int.ofNat_zero, Int.cast_ofNat_Int] at i0 i0';have m0 := Ex.O3 (show e.kid 0 ∈ e.kids by rw [Ar h0]; exact List.getElem_mem h0)
  simp [h9];refine (Yq h b d.types tz).then fun m1 c1 Lt => ?_
  simp [Ty.E8, Ty.ag];refine (A1e h c1 e.a (by omega) Lt).then fun m2 c2 Kl => ?_
  have mo := QR l e.name m2 (by omega)
  simp [Room.add Kl Ou, i0, i0', mo, Ex.E8, Ex.ag, C8.E8, C8.ag];refine (YT h hr hf ih hd Dt c2 h0 (l := l ++ [(e.name, m2)]) (wQ.app ho Kl) (by simp; omega)).then fun m3 c3 hm3 => ?_
  have a1 : A8 .add (.int .i64 (m2 + 1)) (.int .i64 m3) = some (.int .i64 (m2 + 1 + m3)) := by unfold Room at Kl hm3; exact CO (by omega) (by omega)
  simp [a1];refine (rA h c3 (by unfold Room at Kl hm3; omega)).then fun m4 c4 hm4 => ?_
  simp;exact AB.mk hm4
 by_cases DY : e.kind = 10
 ·simp [DY]
  exact AB.mk hx
 by_cases Dn : e.kind = 11
 ·have hn : e.kids.length = 2 := by have := own.kids; simp [K8, Dn] at this; omega
  have h0 : 0 < e.kids.length := by omega
  have h1 : 1 < e.kids.length := by omega
  obtain ⟨i0, i0'⟩ := YS (d := d) Dt h0;obtain ⟨i1, i1'⟩ := YS (d := d) Dt h1;simp only [Int.natCast_zero, Int.natCast_one, Int.ofNat_zero, Int.cast_ofNat_Int] at i0 i0' i1 i1';have m0 := Ex.O3 (show e.kid 0 ∈ e.kids by rw [Ar h0]; exact List.getElem_mem h0)
  have m1 := Ex.O3 (show e.kid 1 ∈ e.kids by rw [Ar h1]; exact List.getElem_mem h1)
  simp [Dn, i0, i0', Ex.E8, Ex.ag, C8.E8, C8.ag];refine (YT h hr hf ih hd Dt b h0 ho (by omega)).then fun m1 c1 Lt => ?_
  simp [Ty.E8, Ty.ag];refine (A1e h c1 e.a (by omega) Lt).then fun m2 c2 Kl => ?_
  have mo := QR l e.name m2 (by omega)
  simp [i1, i1', mo, Ex.E8, Ex.ag, C8.E8, C8.ag];refine (YT h hr hf ih hd Dt c2 h1 (l := l ++ [(e.name, m2)]) (wQ.app ho Kl) (by simp; omega)).then fun m3 c3 hm3 => ?_
  simp;exact AB.mk hm3
 ·have := B5H h hr hf ih hd Dt ho hl b
  simp [h1, h6, h7, h8, h9, DY, Dn];exact this
end
theorem A62 (e : Ex) : B1I e := by
 induction e using Ex.ind with
 | h e ih =>
   intro hr hf d hd sg i l b h ho hl;have hkb : e.kids.length < 4294967297 := by have := hf.one.kids; exact big (by omega)
   refine AB.map ?_ (YA i e.enc d.enc (Y9 l) _);rw [Ze];simp [Ex.E8, Ex.ag, C8.E8, C8.ag, rC h];cases b with
   | true => exact AB.mk Ou
   | false =>
   simp [B1J]
   by_cases Dt : d.kids.length = e.kids.length
   rotate_left
   ·have uy : ¬ (e.kids.length : Int) = (d.kids.length : Int) := by omega
    simp [uy];exact AB.mk Ou
   have uy : (e.kids.length : Int) = (d.kids.length : Int) := by omega
   have wK := B3l h hr hf ih hd Dt ho hl false Ou Ou;have t7 : ∀ (m j : Nat) (x y : Int) (b : Bool), j + m = e.kids.length → Room x → Room y → AB sg i (IJ (run cfg) i (Y9 l) (.int .i64 x) (.int .i64 y) (.int .i64 j) e.enc d.enc (Bq sg i b)) := by
    intro m
    induction m with
    | zero =>
      intro j x y b hj hx hy;rw [MX];have : ¬ j < e.kids.length := by omega
      simp [this];exact B3l h hr hf ih hd Dt ho hl b hx hy
    | succ m ihm =>
      intro j x y b hj hx hy;have I4 : j < e.kids.length := by omega
      obtain ⟨i0, i0'⟩ := YS (d := d) Dt I4;have m0 := Ex.O3 (show e.kid j ∈ e.kids by rw [Ar I4]; exact List.getElem_mem I4)
      rw [MX];simp [I4, i0, i0', Ex.E8, Ex.ag, C8.E8, C8.ag];refine (YT h hr hf ih hd Dt b I4 ho (by omega)).then fun m1 c1 Lt => ?_
      have := ihm (j + 1) x m1 c1 (by omega) hx Lt
      push_cast at this;simp [K6 (show j < 9223372036854775807 by omega)]
      exact this
   by_cases h0 : 0 < e.kids.length
   rotate_left
   ·simp [uy, h0]
    exact wK
   have Ib : 0 < d.kids.length := by omega
   by_cases h9 : e.kind = 9
   ·simp [uy, h0, Ib, h9]
    exact wK
   by_cases Dn : e.kind = 11
   ·simp [uy, h0, Ib, Dn]
    exact wK
   by_cases Ee : e.kind = 12
   ·simp [uy, h0, Ib, Ee]
    exact wK
   by_cases Ki : e.kind = 14
   ·simp [uy, h0, Ib, Ki]
    exact wK
   obtain ⟨i0, i0'⟩ := YS (d := d) Dt h0;simp only [Int.natCast_zero, Int.ofNat_zero, Int.cast_ofNat_Int] at i0 i0';have m0 := Ex.O3 (show e.kid 0 ∈ e.kids by rw [Ar h0]; exact List.getElem_mem h0)
   simp [uy, h0, Ib, h9, Dn, Ee, Ki, i0, i0', Ex.E8, Ex.ag, C8.E8, C8.ag];refine (YT h hr hf ih hd Dt false h0 ho (by omega)).then fun m1 c1 Lt => ?_
   have := t7 (e.kids.length - 1) 1 m1 1 c1 (by omega) Lt Ou
   simp only [Int.natCast_one, Int.cast_ofNat_Int] at this;simp;exact this
theorem A0G (e : Ex) (d : C8) (hf : e.fit) (hm : 2 * e.J3 ≤ lim) (hd : d.J3 ≤ lim) : ∃ b : Bool, (run cfg).p MZ [e.enc, d.enc] = some (.bool b) := by
 have hc := wC e hf;have e0 := Zl (run cfg) e.enc d.enc;cases hr : e.right with
 | false =>
   rw [hr] at hc;simp [Ex.E8, Ex.ag, C8.E8, C8.ag, hc] at e0;exact ⟨_, WW _ _ e0⟩
 | true =>
   rw [hr] at hc;have jp : 0 < [D7.box [(.bool false, .val)]].length := by simp
   obtain ⟨m, c, q, -⟩ := A62 e hr hf d hd [.box [(.bool false, .val)]] 0 [] false jp (fun x hx => by simp at hx) (by simpa using hm)
   have e1 : Bq [.box [(.bool false, .val)]] 0 false = [D7.box [(.bool false, .val)]] := rfl;have e2 : Y9 [] = .list 2 [] := rfl;rw [e1, e2] at q;simp [Ex.E8, Ex.ag, C8.E8, C8.ag, hc, q, rC jp, B1J] at e0;exact ⟨_, WW _ _ e0⟩
end Go.Su

/-
 What the closed call of l16_wakes gives: by rewriting.
-/
namespace Go.Su
attribute [local congr] B5r B5s B5u B4h B4g B32
set_option maxHeartbeats 40000000 in
set_option maxRecDepth 100000 in
theorem A0d : (run cfg).p fC [] = some (.bool true) := by
 simp (maxSteps := 200000) (implicitDefEqProofs := false) [B5t, Zi, VR, Td, Te, Xa, iU, JJ, Zj, IZ, dM, nV, Ms, LH, Zk, Ff, jK, yc, VI, uA, iR, PU, dL, dB, NY, Zv, A4S, A1o, A0h, A3T, nS, RF, jI, yn, uG, yT, VH, tX, nU, Zf, Zg, jJ, yl, nR, VL, TY, uE, sO, Ta, oo, bz, NU, Zq, rT, TI, oG, yX, tq, A4R, A3S, ko, fq, A1s, sM, sN, zI, cB, NW, Zr, sG, TU, oW, rY, TN, oL, ym, VM, uF, rq, IY, Mr, oO, Ze, MX, Ul, Um, YA, rV, TK, oI, yS, VF, tV, nP, RA, jG, nJ, iy, Xy, LJ, LM, Jy, Ws, zA, uN, iM, dG, Rk, PD, QE, TD, Rt, TE, Ej, Ru, TF, QB, Rv, QA, Bg, FX, PI, sJ, cK, ol, yu, uI, yw, uJ, sD, oU, zB, uO, oC, jR, A3j, Zc, A1B, iQ, PT, dK, sP, RG, ow, BZ, iT, BO, nW, PV, jL, sF, oV, yU, tY, A1q, XT, XU, zG, sK, TZ, om, rX, TM, oK, yh, Qn, VK, uD, dC, Zw, tL, Tk, pQ, tF, pJ, iX, dO, Zm, Un, Rh, Ju, Mm, Wj, YC, tK, Tg, pO, nM, K_, LA, Gl, jB, Kg, J_, Pz, Fw, PG, nz, jQ, TP, IW, VG, IX, TQ, Qo, rZ, TR, oM, yf, VJ, uB, Xw, LC, LD, Wp, VQ, Tp, Xv, Wo, cO, Zt, yz, uL, Zd, X_, Xx, LF, LG, Wq, nX, Zn, Wi, Mo, Py, jM, iO, PP, PQ, NT, dI, Rm, Hf, NR, QF, Uk, Tn, sV, iV, cZ, RH, cu, RI, cz, RJ, pF, yx, Og, uK, A1u, XW, VP, zK, sQ, Tc, oz, Zh, XZ, fo, Zu, yY, tu, XX, VZ, su, pG, tC, pI, sU, pE, NQ, Lm, Ew, Kc, Ke, Jv, EQ, EG, ER, EH, Mt, Ro, Gh, QH, Kz, Jz, nL, jA, Jw, Hg, Iq, rQ, oD, nN, jC, Zb, XY, Rn, NS, QG, A1v, sW, sZ, zL, iW, dN, Xu, Wn, rf, TS, oN, Xt, Wm, Zl, YB, rR, TG, TH, oF, nO, Q_, jD, iN, dH, sS, o_, rU, TJ, oH, nQ, RB, RD, jH, iP, PR, dJ, A4T, A2s, A3U, sI, TV, TW, oh, ny, jP, iY, Xz, dP, tJ, pM, nY, jN, NZ, Ey, Mv, iq, PW, dQ, WH, n_, VS, Tq, bu, NP, Zp, rz, oP, nu, Zo, jO, B_, b_, Gm, BN, r_, oQ, A1t, nT, VN, zJ, sH, oZ, A1r, XV, zH, yV, tZ, yZ, t_, LB, EM, JK, Mq, NV, LP, rW, TL, oJ, yo, VO, uH, yg, uC, y_, nZ, ng, nk, iZ, ib, ic, ig, il, Tf, uM, tH, pK, nK, Qz, i_, P_, PH, Ps, Oy, Uf, SV,
  B0N, flatK, A72, za, B1l, A8g, B2d, B1K, A9E, A9F, B5K, B5L, B5M, B5N, B5O, B5P, B5Q, B5R, B5S, B5T, B4X, B4Y, B4Z, B40, B41, B42, B5U, B5V, B5W, B5X, B5Y, B5Z, B50, B51, M4, AJ, UY, X5, Jp, IP, B38, B37, B4a, B39, CO, Df, CS, lim, B3w, B3q, B0B, A9j, B4V, B4W, isKey, M7, B3r, B3v, A9S, B4J, B4H, B4I, B4G, A8y, B6A, B1r, pack, iG, A2p, B3u, B3t, B3s, B2h, -H6, -M9, -V3, ↓H6, ↓B1h, ↓O8, ↓A9R, ↓B12, ↓B1Z, ↓B1Y, ↓B1X, H6, B12, B1Z, B1Y, B1X]
end Go.Su

/-
 The law JudgeExact answers true on data.
-/
namespace Go.Su
theorem A4c (e : Ex) (hf : e.fit) (hm : e.J3 ≤ 1048576) : ∃ b : Bool, (run cfg).p Vu [.list 16 [e.enc]] = some (.bool b) ∧ (b = false → e.size ≤ 90) := by
 obtain ⟨b1, h1, h2⟩ := A55 [e] (by simp) (by simp [hf])
 simp only [List.map_cons, List.map_nil] at h1;have hs := A6X e hf (by unfold lim; omega)
 have hsm : e.size ≤ e.J3 := Ex.Nv e;have e0 := rf (run cfg) (.list 16 [e.enc]);rw [h1] at e0;cases b1 with
 | true =>
   simp at e0;exact ⟨true, iF _ e0, by simp⟩
 | false =>
   have i0 : F3 16 (.list 16 [e.enc]) (.int .i64 0) = some e.enc := rfl;have l0 : dLen (.list 16 [e.enc]) = some (.int .i64 1) := rfl;have a0 : A8 .add (.int .i64 0) (.int .i64 (e.size : Int)) = some (.int .i64 (e.size : Int)) := by
    rw [CO (by omega) (by omega)]
    simp
   have a1 : A8 .add (.int .i64 0) (.int .i64 1) = some (.int .i64 1) := CO (by omega) (by omega)
   have e1 : Jc (run cfg) (.list 16 [e.enc]) (.int .i64 (e.size : Int)) (.int .i64 1) = some (.bool (decide ((90 : Int) < (e.size : Int)))) := by
    rw [TS];simp [l0]
   have e2 : Jc (run cfg) (.list 16 [e.enc]) (.int .i64 0) (.int .i64 0) = some (.bool (decide ((90 : Int) < (e.size : Int)))) := by
    rw [TS];simp [l0, i0, Ex.E8, Ex.ag, hs, a0, a1];simpa using e1
   simp [e2] at e0;refine ⟨_, iF _ e0, ?_⟩;intro h;simp at h;omega
theorem A5X (d : C8) : d.J3 ≤ lim → d.DC := by
 induction d using C8.ind with
 | h d ih =>
   intro hm;have h1 := C8.XC d;have h2 := C8.SE d;have h3 := C8.ah d;refine .mk d ⟨by omega, by omega, by omega, fun t ht => ?_⟩ fun k hk => ih k hk (by have := C8.O3 hk; omega)
   have hs := C8.types_size ht;exact ⟨Ty.CG (by omega), by have := Ty.gX t; omega⟩
theorem A9J (e : Ex) (d : C8) (hm : e.J3 + d.J3 ≤ 1048576) : (run cfg).p ZE [e.enc, d.enc] = some (.bool true) := by
 have fe : e.fit := Ex.VX (by omega)
 have fd : d.fit := C8.VX (by unfold lim; omega)
 have ds : d.DC := A5X d (by unfold lim; omega)
 have me : 2 * e.J3 ≤ lim := by unfold lim; omega
 have md : d.J3 ≤ lim := by unfold lim; omega
 obtain ⟨b1, h1, h1s⟩ := A4c e fe (by omega)
 obtain ⟨b2, h2⟩ := xL d (by omega)
 obtain ⟨b3, h3⟩ := A0G e d fe me md;have hk := A52 e fe (by unfold lim; omega)
 have hkd := A39 d fd;refine (Wn _ _).trans ?_;rw [Xu];cases b1 with
 | true => simp [Ex.E8, Ex.ag, C8.E8, C8.ag, h1]
 | false =>
 cases b2 with
 | true => simp [Ex.E8, Ex.ag, C8.E8, C8.ag, h1, h2]
 | false =>
 cases b3 with
 | false => simp [Ex.E8, Ex.ag, C8.E8, C8.ag, h1, h2, h3]
 | true =>
 have Y4 := h1s rfl;have hc := A2R e d fe ds me (by omega)
 have hr := A6h e d fe ds me md;have hsa := A4d e fe e;have hsd := A2U d fd d;cases hj : Wz true e d with
 | ok T =>
   rw [hj] at hc hr;have GH : T.ty.right = true := by
    unfold Wz at hj
    split at hj
    ·rename_i hh
     exact Iw true e hh.1 d [] [] T hh.2 ds (fun x hx => by simp at hx) hj
    ·cases hj
   have hs := bH T.ty (Ty.Z5 GH) T.ty;simp [Ex.E8, Ex.ag, C8.E8, C8.ag, h1, h2, h3, hk, hkd, hc, hr, N8, Ty.E8, Ty.ag, hs, hsa, hsd, A0d]
 | error z =>
   rw [hj] at hc hr;have hs := bH F8 (Ty.CG (by rw [Ty.size_eq]; simp [F8, lim])) F8
   simp [Ex.E8, Ex.ag, C8.E8, C8.ag, h1, h2, h3, hk, hkd, hc, hr, N8, Ty.E8, Ty.ag, hs, hsa, hsd, A0d]
end Go.Su
