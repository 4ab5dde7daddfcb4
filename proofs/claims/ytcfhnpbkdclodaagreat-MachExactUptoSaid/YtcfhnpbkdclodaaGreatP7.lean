/-
  Parts of the proof, merged: TM11, TM12, TM13, TM14, TM15, TR1, TR2, TR3, TR4, TR5, TR6, TR7, TR8, TR10, TR9, TR11, W24, LMachExact.
-/
import Derived.Test.YtcfhnpbkdclodaaGreatP4
import Derived.Test.YtcfhnpbkdclodaaGreatP5
import Derived.Test.YtcfhnpbkdclodaaGreatP6
set_option linter.unusedVariables false
set_option linter.unusedSimpArgs false
/-
 The program's machine: reading, a step.
-/
open Bool renaming false_eq_true → z0q, not_true → z6q, not_eq_true' → z7q, not_false → z23q, true_and → z47q, and_self → z51q
open Int renaming ofNat_lt → z34q, lt_irrefl → z38q
open List renaming getElem_mem → z1q, length_map → z2q, getElem?_eq_getElem → z3q, getElem?_set_self → z4q, getElem?_set_ne → z5q, length_reverse → z8q, length_cons → z9q, take_succ_eq_append_getElem → z11q, mem_cons_of_mem → z12q, getElem?_append_left → z13q, getElem?_eq_some_iff → z14q, take_of_length_le → z15q, getElem?_append_right → z16q, reverse_cons → z17q, set_set → z18q, mem_singleton → z19q, getElem?_map → z20q, mem_cons_self → z21q, eq_nil_of_length_eq_zero → z22q, length_set → z24q, getD_cons_zero → z27q, length_nil → z28q, mem_append → z29q, filter_cons → z30q, map_append → z32q, filter_nil → z33q, length_append → z35q, getElem?_take_of_lt → z37q, getElem?_cons_zero → z39q, map_nil → z40q, length_take → z41q, all_eq_true → z42q, set_append_right → z44q, length_filter_le → z46q, mem_append_left → z48q, filter_append → z49q, set_cons_zero → z50q, map_cons → z52q, mem_cons → z53q, mem_map → z54q
open Nat renaming le_of_ble_eq_true → z10q, le_refl → z25q, zero_add → z26q, add_sub_cancel → z31q, add_sub_cancel_left → z36q, sub_self → z43q, le_trans → z45q
open Option renaming map_some → z55q
namespace Go.Su
theorem I9 {α β : Type} (a : α) (f : α -> Option β) : ob (some a) f = f a := by first | (simp only [ob]; done) | (simp only [ob]; rfl)
variable {i : Nat} {G : List (Nat × C9)} {sg : List C9}
theorem PM.other {S T : MS} (h : PM S i G sg) (hr : S.done = true \/ S.reads = true) (hT : T = { S with todo := T.todo }) : PM T i G sg := by
 obtain ⟨cs, c, h1, h2, h3, h4⟩ := h.h;have hf : X0 T = X0 S := by rw [hT]; rfl
 refine ⟨⟨cs, c, h1, ?_, h3, by rw [hf]; exact h4⟩, h.g⟩
 rw [hT];refine ⟨h2.len, h2.t, h2.env, h2.v, h2.has, h2.U3, h2.fuel, h2.steps, h2.done, h2.res, h2.reads, ?_, h2.out⟩;intro a b;simp only at a b;rcases hr with hr | hr
 ·rw [b] at hr; cases hr
 ·rw [a] at hr; cases hr
theorem Ig.last {X : Option (List DV × List C9)} {r r' : List DV} {T : MS} (h : Ig X r T i G) : Ig (ob X fun q => some (r', q.2)) r' T i G := by
 obtain ⟨sg', rfl, h2⟩ := h;exact ⟨sg', rfl, h2⟩
theorem A7g (v : Val) : IZ 9 0 R5.enc (X3 v.enc []) = some v.enc := by
 rw [Val.F8 v, Val.F8 R5]; rfl
theorem B6l {L : List DV} {n : Nat} (hn : L.length = n) (z a b : DV) : (L ++ [z, z])[n]? = some z /\ ((L ++ [z, z]).set n b)[n + 1]? = some z /\ ((L ++ [z, z]).set n b).set (n + 1) a = L ++ [b, a] := by
 subst hn;refine ⟨?_, ?_, ?_⟩
 ·rw [z16q (z25q _), z43q]; rfl
 ·rw [z5q (by omega), z16q (by omega), z36q]; rfl
 ·rw [z44q _ _ (z25q _), z43q, z44q _ _ (by omega), z36q]; rfl
variable {ds : List DV} {cs : List (DV × Meta)}
theorem B5U {S : MS} {k m : Nat} (h : RD S i k m ds cs G sg) (hr : S.reads = true) (hd : S.done = false) (hl : S.todo.length < 50000) (ho : S.out.length < 50000) (ig : ∀ w ∈ S.out, w.c = F6 /\ w.kids = []) {w : Val} (hw : w.ok) :
 Ig (Dh (run cfg) i (.int .i64 w.kind) (.int .i64 w.n) (.str w.s) (.int .i64 w.c.kind) (.int .i64 w.c.head) (.int .i64 w.c.label) (.bool w.c.neg) (.list 5 (w.c.kids.map A9.enc)) (.list 9 (w.kids.map Val.enc)) sg) []
  (match w.two with | .stuck => S.ends X7 | .X5 l n => S.ends (LC l n) | .ok a b => { S with todo := a :: b :: S.todo, out := S.out ++ [w.L6] }) i G := by
 rw [Pz, show DV.agg [.int .i64 w.kind, .int .i64 w.n, .str w.s, .int .i64 w.c.kind, .int .i64 w.c.head, .int .i64 w.c.label, .bool w.c.neg, .list 5 (w.c.kids.map A9.enc), .list 9 (w.kids.map Val.enc)] = w.enc from (Val.F8 w).symm, A5K hw]
 cases w.two with
 | stuck =>
   simp only [TR.four, I9, Q9, R4, Fh, MN, I1, Q3, E5, J7, show (!decide ((8 : Int) = 0)) = true from rfl, D8, if_true]
   exact (EF h.pm.less).last.done rfl
 | X5 l n =>
   simp only [TR.four, I9, Q9, R4, Fh, MN, I1, Q3, E5, J7, decide_true, z6q, D8, z0q, if_false, rk, show (!decide ((Bq l n).kind = 0)) = true from rfl, if_true]
   exact (Sn h.pm.less (Bq l n)).last.done rfl
 | ok a b =>
   have e := h.ds;have ll : (ds.take S.todo.length).length = S.todo.length := by rw [e]; simp
   have dl := h.len;obtain ⟨t1, t2, t3⟩ := B6l ll R5.enc a.enc b.enc;have hk := h.lk;have hk1 : ∀ o, k < (sg.set k o).length := fun o => by simpa using hk
   have ll2 : (ds.take S.todo.length ++ [R5.enc, R5.enc]).length = S.todo.length + 2 := by rw [z35q, ll]; rfl
   simp only [TR.four, I9, Q9, R4, Fh, MN, I1, Q3, E5, J7, decide_true, z6q, D8, z0q, if_false, rk, show (!decide (Cr.kind = 0)) = false from rfl, h.box, h.vin, KQ, h.M6, dl, beq_self_eq_true, z51q]
   rw [l9, A5V (by rw [ll]; simp [lim]; omega) (by simp)]
   simp only [I9, ll, z9q, z28q, z26q];rw [Mt (show S.todo.length < S.todo.length + (1 + 1) by omega)]
   simp only [I9, jH hk, t1, beq_self_eq_true, E5, A7g];rw [Bo, BS (by omega) (by omega)]
   simp only [I9];rw [show (S.todo.length : Int) + 1 = ((S.todo.length + 1 : Nat) : Int) by omega, Mt (show S.todo.length + 1 < S.todo.length + (1 + 1) by omega)]
   simp only [I9, z18q, jH hk, t2, beq_self_eq_true, E5, A7g, t3, IB h.nk, h.box, h.c52];rw [show S.todo.length + (1 + 1) = (a :: b :: S.todo).length from rfl]
   have rd := h.cut (T := { S with todo := a :: b :: S.todo }) (h.pm.swap (o' := .M6 (m + 1) 9 (ds.take S.todo.length ++ [b.enc, a.enc])) h.ne) (by rw [IB h.nk]; exact h.box) hr rfl (by
    rw [z15q (by rw [z35q, ll]; simp), e]
    simp)
   obtain ⟨sg', g1, g2⟩ := B1p rd hd ho w (fun h => by cases h) ig
   rw [if_neg (by simp)] at g2
   exact ⟨sg', g1, g2⟩
theorem B2X (v : Val) : v.Fx.L6 = v.L6 := by
 unfold Val.Fx
 split
 ·split <;> rfl
 ·rfl
theorem B1r {S : MS} {k m : Nat} (h : RD S i k m ds cs G sg) (hd : S.done = false) (hr : S.reads = true) {L : Nat} (I : MInv L S) (hL : L <= 4000) :
 Ig ((run cfg).r IG [(.undef, .ptr i 0)] sg) [] S.read i G := by
 have l := h.mc.len;rw [Sa, UU];unfold MS.read;cases ht : S.todo with
 | nil => exact absurd ht (I.rd hr)
 | cons v rest =>
   have tl := I.tl;have ol := I.ol;have hv := I.td v (by rw [ht]; exact z21q ..)
   have li := I.li hr;rw [ht] at tl li;simp only [z9q] at tl li;have e := h.ds;have dl := h.len;have vn := h.vin;rw [ht] at e dl vn;simp only [z9q, z17q, z32q, z52q, z40q] at e dl vn;have top : ds[rest.length]? = some v.enc := by
    have : (ds.take (rest.length + 1))[rest.length]? = some v.enc := by
     rw [e, z16q (by simp)]
     simp
    rw [z37q (by omega)] at this
    exact this
   have tk : ds.take rest.length = rest.reverse.map Val.enc := by
    have : (ds.take (rest.length + 1)).take rest.length = rest.reverse.map Val.enc := by rw [e, List.take_left' (by simp)]
    rw [List.take_take, Nat.min_eq_left (by omega)] at this
    exact this
   have rd := h.cut (T := { S with todo := rest }) h.pm h.box hr rfl tk
   have b1 : bnd (rest.length + 1) (some (.int .i64 (((rest.length + 1 : Nat) : Int) - 1))) = some rest.length := by
    unfold bnd;simp only;rw [if_pos (by omega)]
    congr 1
    omega
   simp only [h.box, D5, vn, KQ, A30 (show rest.length + 1 < 9223372036854775807 by omega), p_ (show 0 < rest.length + 1 by omega), z31q, h.M6, top, beq_self_eq_true, E5, b1]
   rw [if_pos (by omega), h.c52]
   simp only [D5, Val.pj, V3, X3, R8, I5, I6, D8, decide_eq_true_eq];have four : (v.kind = 5 \/ v.kind = 7) -> Ig (Fb (run cfg) i v.enc (sg.set i (.box (cs.set 52 (.undef, .M6 k m 9 rest.length))))) []
    (match v.Fx.two with | .stuck => S.ends X7 | .X5 l n => S.ends (LC l n) | .ok a b => { S with todo := a :: b :: rest, out := S.out ++ [v.L6] }) i G := by
    intro hk;obtain ⟨uo, -⟩ := hv.Fx hk;obtain ⟨sg', g1, g2⟩ := B5U rd hr hd (by simp only; omega) (by simp only; omega) I.ob uo
    refine ⟨sg', ?_, ?_⟩
    ·rw [<- g1, Py]
     simp only [Val.pj, V3, X3, R8, I5, D5, D8, decide_eq_true_eq];unfold Val.Fx
     by_cases k5 : v.c.kind = 5
     ·rw [if_pos k5, if_pos k5]
      have hn : v.c ≠ F6 := fun h => by rw [h, QS] at k5; omega
      have l1 := A9.A_ (hv.coR hn) (.inr (.inl k5));rw [l7 (by omega)]
      simp only [D5, A9.K8, A9.Q0, A9.Q4, A9.Q5, A9.Q7, I5, D8, decide_eq_true_eq]
      by_cases k1 : (v.c.kid 0).kind = 1
      ·rw [if_pos k1, if_pos k1]; rfl
      ·rw [if_neg k1, if_neg k1]; rfl
     ·rw [if_neg k5, if_neg k5]
    ·rw [B2X] at g2
     cases hx : v.Fx.two with
     | stuck => rw [hx] at g2; exact ⟨g2.1.other (.inl rfl) rfl, fun _ h => by cases h⟩
     | X5 l n => rw [hx] at g2; exact ⟨g2.1.other (.inl rfl) rfl, fun _ h => by cases h⟩
     | ok a b => rw [hx] at g2; exact g2
   have note : ¬(v.kind = 5 \/ v.kind = 7) -> Ig (DC (run cfg) i (.int .i64 v.kind) (.int .i64 v.n) (.str v.s) (.int .i64 v.c.kind) (.int .i64 v.c.head) (.int .i64 v.c.label) (.bool v.c.neg) (.list 5 (v.c.kids.map A9.enc)) (.list 9 (v.kids.map Val.enc)) (sg.set i (.box (cs.set 52 (.undef, .M6 k m 9 rest.length))))) []
    (if rest = [] then { S with todo := [], out := S.out ++ [v.L6] }.ends ⟨1, (AY (S.out.length + 1) (S.out ++ [v.L6])).1, 0, false, 0, 0, 0⟩ else { S with todo := rest, out := S.out ++ [v.L6] }) i G := by
    intro hk;have g := B1p rd hd (by simp only; omega) v (fun hn => by
     simp only at hn;refine li _ ?_;rw [hn, z28q, z26q, listing, show v.L6.ar = if v.kind = 5 \/ v.kind = 7 then 2 else 0 from rfl, if_neg hk]
     rfl) I.ob
    simp only at g
    by_cases hn : rest = []
    ·subst hn
     rw [if_pos rfl] at g ⊢;exact g
    ·rw [if_neg hn] at g ⊢
     exact g
   by_cases k5 : v.kind = 5
   ·rw [if_pos k5, if_pos (.inl k5)]
    exact four (.inl k5)
   by_cases k7 : v.kind = 7
   ·rw [if_neg k5, if_pos k7, if_pos (.inr k7)]
    exact four (.inr k7)
   ·rw [if_neg k5, if_neg k7, if_neg (by omega)]
    exact note (by omega)
end Go.Su

/-
 The program's machine: a step; what it shows.
-/
namespace Go.Su
variable (S : MS)
def MS.key : Bool × Nat × Nat := (S.reads, S.steps, S.fuel)
theorem A59 (c : A9) : (S.put c).key = S.key := by
 unfold MS.put MS.push MS.ends
 repeat' split
 all_goals rfl
theorem A6M (f v : Val) : (S.enter f v).key = S.key := by
 unfold MS.enter MS.go
 split <;> rfl
theorem A3q (v : Val) (c : A9) (k : Val -> MS) (h : ∀ w, (k w).key = S.key) : (S.wrapped v c k).key = S.key := by
 unfold MS.wrapped MS.ends
 split
 ·rfl
 ·rfl
 ·exact h _
theorem B4Y (f : Val) : (S.call f).key = S.key := by
 unfold MS.call
 split
 ·rfl
 split
 ·exact A6M ..
 split
 ·rfl
 ·refine A3q _ _ _ _ fun w => ?_
  split
  ·exact A59 ..
  ·rw [A6M, A59]
theorem A8h (S : MS) (f : CL) : ∀ (ps : List D9) (i : Nat), (S.arms f i ps).key = S.key
 | [], i => rfl
 | p :: ps, i => by
   rw [MS.arms]
   split
   ·rfl
   ·rfl
   ·rfl
   ·exact A8h S f ps _
theorem A97 : S.term.key = S.key := by
 unfold MS.term
 by_cases h1 : S.t.kind = 1
 ·rw [if_pos h1]; split <;> rfl
 rw [if_neg h1]
 by_cases h2 : S.t.kind = 2 \/ S.t.kind = 3 \/ S.t.kind = 4 \/ S.t.kind = 5
 ·rw [if_pos h2]; rfl
 rw [if_neg h2]
 by_cases h3 : S.t.kind = 7
 ·rw [if_pos h3]; rfl
 rw [if_neg h3]
 by_cases h4 : S.t.kind = 9
 ·rw [if_pos h4]; rfl
 rw [if_neg h4]
 by_cases h5 : S.t.kind = 6
 ·rw [if_pos h5]; rfl
 rw [if_neg h5]
 by_cases h6 : S.t.kind = 8
 ·rw [if_pos h6]; rfl
 rw [if_neg h6]
 by_cases h7 : S.t.kind = 10
 ·rw [if_pos h7]; rfl
 rw [if_neg h7]
 by_cases h8 : S.t.kind = 11
 ·rw [if_pos h8]; rfl
 rw [if_neg h8]
 by_cases h9 : S.t.kind = 13
 ·rw [if_pos h9]; rfl
 rw [if_neg h9]
 by_cases ha : S.t.kind = 14
 ·rw [if_pos ha]; rfl
 rw [if_neg ha]
 by_cases hb : S.t.kind = 15
 ·rw [if_pos hb]; rfl
 rw [if_neg hb]
 by_cases hc : S.t.kind = 12
 ·rw [if_pos hc]; rfl
 rw [if_neg hc]
 split
 ·exact A59 ..
 ·rfl
theorem A62 (f : CL) : (S.frame f).key = S.key := by
 unfold MS.frame
 by_cases h1 : f.kind = 1 \/ f.kind = 3 \/ f.kind = 5
 ·rw [if_pos h1]; rfl
 rw [if_neg h1]
 by_cases h2 : f.kind = 10
 ·rw [if_pos h2]; rfl
 rw [if_neg h2]
 by_cases h3 : f.kind = 2
 ·rw [if_pos h3]; rfl
 rw [if_neg h3]
 by_cases h4 : f.kind = 4
 ·rw [if_pos h4]; split <;> rfl
 rw [if_neg h4]
 by_cases h5 : f.kind = 6
 ·rw [if_pos h5]; exact B4Y ..
 rw [if_neg h5]
 by_cases h6 : f.kind = 7
 ·rw [if_pos h6]; rfl
 rw [if_neg h6]
 by_cases h7 : f.kind = 8
 ·rw [if_pos h7]; split <;> rfl
 rw [if_neg h7]
 by_cases h8 : f.kind = 9
 ·rw [if_pos h8]; exact A8h ..
 rw [if_neg h8]
 by_cases h9 : f.kind = 11
 ·rw [if_pos h9]; split <;> rfl
 rw [if_neg h9];exact A3q _ _ _ _ fun w => rfl
theorem B2U : S.term.reads = S.reads := congrArg (·.1) (A97 S)
theorem B0x (f : CL) : (S.frame f).reads = S.reads := congrArg (·.1) (A62 S f)
theorem A9t : S.read.key = S.key := by
 unfold MS.read
 split
 ·rfl
 split
 ·split <;> rfl
 ·split <;> rfl
theorem B5G : S.next.key.2 = S.key.2 := by
 unfold MS.next
 split
 ·rw [A9t]
 split
 ·rw [A97]
 split
 ·rw [A62]; rfl
 ·rw [A9t]; rfl
variable {G : List (Nat × C9)}
theorem Goes.quiet {X : Option (List DV × List C9)} {r : List DV} {T : MS} {i : Nat} (h : Goes X r T i G) (hd : T.reads = false) : Ig X r T i G := by
 obtain ⟨sg', h1, h2⟩ := h;exact ⟨sg', h1, h2, fun h => by rw [hd] at h; cases h⟩
variable {cs : List (DV × Meta)} {S : MS}
theorem MC.C0D (h : MC cs S) (n : Nat) : MC (cs.set 34 (.int .i64 (n : Int), .val)) { S with steps := n } := by
 have l := h.len;constructor
 ·simpa using l
 ·rw [X6 (by omega)]; exact h.t
 ·rw [N7 (by omega)]; exact h.env
 ·rw [X6 (by omega)]; exact h.v
 ·rw [N7 (by omega)]; exact h.has
 ·rw [Dl (by omega)]; exact h.U3
 ·rw [N7 (by omega)]; exact h.fuel
 ·rw [aH (by omega)]
 ·rw [N7 (by omega)]; exact h.done
 ·rw [X6 (by omega)]; exact h.res
 ·rw [N7 (by omega)]; exact h.reads
 ·rw [z5q (by omega)]; exact h.todo
 ·rw [Dl (by omega)]; exact h.out
theorem MC.reading (h : MC cs S) (l : List Val) (c : DV × Meta) : MC ((cs.set 51 (.bool true, .val)).set 52 c) { S with reads := true, todo := l } := by
 have ln := h.len;have l1 : (cs.set 51 (.bool true, .val)).length = 54 := by simpa using ln
 constructor
 ·simpa using ln
 ·rw [X6 (by omega), X6 (by omega)]; exact h.t
 ·rw [N7 (by omega), N7 (by omega)]; exact h.env
 ·rw [X6 (by omega), X6 (by omega)]; exact h.v
 ·rw [N7 (by omega), N7 (by omega)]; exact h.has
 ·rw [Dl (by omega), Dl (by omega)]; exact h.U3
 ·rw [N7 (by omega), N7 (by omega)]; exact h.fuel
 ·rw [N7 (by omega), N7 (by omega)]; exact h.steps
 ·rw [N7 (by omega), N7 (by omega)]; exact h.done
 ·rw [X6 (by omega), X6 (by omega)]; exact h.res
 ·rw [N7 (by omega), aH (by omega)]
 ·intro h; cases h
 ·rw [Dl (by omega), Dl (by omega)]; exact h.out
theorem A9v : DV.agg ((.int .i64 5)::(P9 (Bz []))) = (kP 5).enc := rfl
theorem A1i {i : Nat} {sg : List C9} (h : PK S i G sg) {L : Nat} (I : AV L S) (hL : L <= 4000) (hs : S.steps < 1000000) :
 Ig ((run cfg).r Bn [(.undef, .ptr i 0)] sg) [.bool S.step.2] S.step.1 i G := by
 obtain ⟨hp, hk⟩ := h;obtain ⟨cs, h1, h2⟩ := hp.get;have hi := X4 h1;have l := h2.len;rw [SQ, UN];simp only [h1, I9, h2.done, D8];unfold MS.step
 by_cases vz : S.done = true
 ·rw [if_pos vz, if_pos vz]
  exact ⟨_, rfl, hp, fun _ h => by simp only at h; rw [vz] at h; cases h⟩
 ·have hd : S.done = false := by simpa using vz
  have I := I hd;rw [if_neg vz, if_neg vz];simp only [h2.steps, h2.fuel, I9, I5, D8, decide_eq_true_eq]
  by_cases hf : S.steps = S.fuel
  ·rw [if_pos (by rw [hf]), if_pos hf, A9v]
   exact (Sn hp (kP 5)).last.done rfl
  rw [if_neg (by omega), if_neg hf, Bo, BS (by omega) (by omega)]
  simp only [I9, P5, E5];rw [z3q (by omega)]
  have m1 : MC (cs.set 34 (.int .i64 ((S.steps : Int) + 1), .val)) { S with steps := S.steps + 1 } := by
   have := h2.C0D (S.steps + 1)
   rwa [show ((S.steps + 1 : Nat) : Int) = (S.steps : Int) + 1 by omega] at this
  have p1 : PM { S with steps := S.steps + 1 } i G (sg.set i (.box (cs.set 34 (.int .i64 ((S.steps : Int) + 1), .val)))) := hp.cells h1 m1 (by rw [z5q (by omega)]) rfl
  have b1 := P8 hi (cs.set 34 (.int .i64 ((S.steps : Int) + 1), .val));have J : MInv L { S with steps := S.steps + 1 } := { I with }
  have k1 : S.reads = true -> ∃ k m ds cs1, RD { S with steps := S.steps + 1 } i k m ds cs1 G (sg.set i (.box (cs.set 34 (.int .i64 ((S.steps : Int) + 1), .val)))) := by
   intro hr;obtain ⟨k, m, ds, cs', rd⟩ := hk hr hd;have e := rd.box;rw [h1] at e;cases e;exact ⟨k, m, ds, _, rd.pm.cells h1 m1 (by rw [z5q (by omega)]) rfl, b1, by rw [z5q (by omega)]; exact rd.c52, rd.ds, rd.ne⟩
  simp only [I9, b1, m1.reads, m1.has, D8];unfold MS.next;simp only
  by_cases NN : S.reads = true
  ·obtain ⟨k, m, ds, cs1, rd⟩ := k1 NN
   rw [if_pos NN, if_pos NN];exact (B1r rd hd NN J hL).last
  ·have hr : S.reads = false := by simpa using NN
   rw [if_neg NN, if_neg NN];simp only [K6, I9, D8, z7q]
   by_cases hh0 : S.has = false
   ·rw [if_pos hh0, if_pos hh0]
    exact (B7z p1 hd J hL).last.quiet (by rw [B2U]; exact hr)
   ·have hh : S.has = true := by simpa using hh0
    rw [if_neg hh0, if_neg hh0];have hv := I.v hh;obtain ⟨j, n, ds, Az, cs1, e1, pv⟩ := p1.M6 b1;have fr : X0 { S with steps := S.steps + 1 } = S.frames := A5h hd
    have fl := I.fl;have l1 := pv.mc.len;have JR := X4 pv.box;simp only [e1, fr, I9, KQ, BZ, D8, decide_eq_true_eq];cases ZP : S.frames with
    | cons f fs =>
      have len : S.frames.length = fs.length + 1 := by rw [ZP]; rfl
      rw [if_pos (by simp only [z9q]; omega)]
      simp only [z9q];obtain ⟨top, tk⟩ := pv.top (f := f) (fs := fs) (by rw [fr, ZP])
      have cell := pv.cell;rw [fr] at cell top;have fl2 := fl;rw [ZP] at cell top fl2;simp only [z9q, z31q] at cell top fl2;have b2 : bnd (fs.length + 1) (some (.int .i64 (((fs.length + 1 : Nat) : Int) - 1))) = some fs.length := by
       unfold bnd;simp only;rw [if_pos (by omega)]
       congr 1
       omega
      simp only [pv.box, I9, cell, KQ, A30 (show fs.length + 1 < 9223372036854775807 by omega), p_ (show 0 < fs.length + 1 by omega), z31q, pv.mv.M6, top, beq_self_eq_true, E5, b2, A8A]
      rw [if_pos (by omega), z3q (by omega)]
      simp only [I9];have p2 : PM { S with steps := S.steps + 1, frames := fs } i G (Az.set i (.box (cs1.set 31 (.undef, .M6 j n 57 fs.length)))) := by
       refine ⟨⟨_, _, P8 JR _, pv.mc.A5z _ rfl, z4q (by omega), .inr ⟨j, n, ds, ?_⟩⟩, fun p hp => ?_⟩
       ·have : X0 { S with steps := S.steps + 1, frames := fs } = fs := A5h hd
        exact MV.box ⟨by rw [this], pv.mv.M6, by rw [this]; exact tk, pv.mv.ne, pv.mv.g⟩ _
       ·obtain ⟨a, b⟩ := pv.g p hp
        exact ⟨by rw [z5q (Ne.symm b)]; exact a, b⟩
      have J2 : MInv L { S with steps := S.steps + 1, frames := fs } := { I with fr := fun g hg => I.fr g (by rw [ZP]; exact z12q _ hg), fl := by simp only; omega }
      exact (B5Q p2 hd J2 hL hv (I.fr f (by rw [ZP]; exact z21q ..))).last.quiet (by rw [B0x]; exact hr)
    | nil =>
      rw [if_neg (by simp)]
      have bx : E9 (Az ++ [C9.M6 1 9 [S.v.enc]]) i = some cs1 := by
       have := pv.box;unfold E9 at this ⊢;rw [z13q JR];exact this
      have Xz : i < (Az ++ [C9.M6 1 9 [S.v.enc]]).length := by simp; omega
      simp only [pv.box, I9, pv.mc.v, Bw, I1, E5, bx];rw [z3q (by omega)]
      simp only [I9, P8 Xz];rw [z3q (by simp only [z24q]; omega)]
      simp only [I9, z18q];have nr := I.nr hr;have hj := Ru pv.mv.M6;have rd : RD { S with steps := S.steps + 1, reads := true, todo := [S.v] } i Az.length 1 [S.v.enc] ((cs1.set 51 (.bool true, .val)).set 52 (.undef, .M6 Az.length 1 9 1)) G ((Az ++ [C9.M6 1 9 [S.v.enc]]).set i (.box ((cs1.set 51 (.bool true, .val)).set 52 (.undef, .M6 Az.length 1 9 1)))) := by
       refine ⟨⟨⟨_, _, P8 Xz _, pv.mc.reading _ _, by rw [z5q (by omega), z5q (by omega)]; exact pv.c31, .inr ⟨j, n, ds, ⟨rfl, ?_, ?_, pv.mv.ne, ?_⟩⟩⟩, fun p hp => ?_⟩, P8 Xz _, z4q (by simp; omega), rfl, fun p hp => ?_⟩
       ·rw [VJ (Ne.symm pv.mv.ne)]
        have := pv.mv.M6;unfold AX at this ⊢;rw [z13q hj];exact this
       ·exact pv.mv.ds
       ·intro p hp
        rcases z53q.1 hp with rfl | hp
        ·simp only; omega
        ·exact pv.mv.g p hp
       ·rcases z53q.1 hp with rfl | hp
        ·exact ⟨by rw [z5q (by simp only; omega)]; simp, by simp only; omega⟩
        ·obtain ⟨a, b⟩ := pv.g p hp
         have := We (G := G) a;exact ⟨by rw [z5q (Ne.symm b), z13q this]; exact a, b⟩
       ·have := We (G := G) (pv.g p hp).1
        omega
      have J2 : MInv L { S with steps := S.steps + 1, reads := true, todo := [S.v] } := { J with td := by simpa using hv, tl := by simp, rd := fun _ => by simp, nr := fun h => (by cases h), li := fun _ l hl => (by
       rw [nr.2];exact hl) }
      have q := (B1r rd hd rfl J2 hL).last (r' := [.bool true]);rw [ZP] at q;exact q
end Go.Su

/-
 The program's machine: what it shows.
-/
namespace Go.Su
def Ci.at (r : Ci) (n : Nat) : Ci := { r with steps := n }
def MS.shown (S : MS) : Ci := if S.done = true then S.res.at S.steps else kP 0
theorem B5Y : DV.agg ((.int .i64 0)::(P9 (Bz []))) = (kP 0).enc := rfl
variable {S : MS} {i : Nat} {G : List (Nat × C9)} {sg : List C9}
theorem A0t (h : PM S i G sg) : (run cfg).r De [(.undef, .ptr i 0)] sg = some ([S.shown.enc, .bool S.done], sg) := by
 obtain ⟨cs, h1, h2⟩ := h.get;rw [PG, Px];simp only [h1, I9, h2.done, h2.res, h2.steps, K6, D8, z7q, aC, Q3, E5, P5];unfold MS.shown
 by_cases hd : S.done = false
 ·rw [if_pos hd, if_neg (by rw [hd]; simp), hd, B5Y]
 ·have : S.done = true := by simpa using hd
  rw [if_neg hd, if_pos this, this];rfl
def MS.kY (S : MS) : Bool := !S.done && !S.reads && S.has
theorem B5V (h : PM S i G sg) : (run cfg).r KR [(.undef, .ptr i 0)] sg = some ([(if S.kY = true then S.v else R5).enc, .bool S.kY], sg) := by
 obtain ⟨cs, h1, h2⟩ := h.get;rw [QD, SG];simp only [h1, I9, h2.done, h2.reads, h2.has, h2.v, K6, D8, I6, z7q, Bw, I1, E5, l9];unfold MS.kY;have ev := (Val.F8 S.v).symm;cases S.done <;> cases S.reads <;> cases S.has <;> simp [ev]
variable {cs : List (DV × Meta)}
theorem PK.M6 (h : PK S i G sg) (hb : E9 sg i = some cs) :
 ∃ j n ds sg' cs', CG sg i 31 cs 57 = some (sg', j, n, (X0 S).length) /\ YQ S i j n ds cs' G sg' /\ PK S i G sg' := by
 by_cases hr : S.reads = true /\ S.done = false
 ·obtain ⟨k, m, es, cs1, rd⟩ := h.2 hr.1 hr.2
  have e := rd.box;rw [hb] at e;cases e;obtain ⟨j, n, ds, sg', cs', e1, pv⟩ := rd.pm.M6 hb;refine ⟨j, n, ds, sg', cs', e1, ⟨pv.box, pv.mc, pv.c31, ⟨pv.mv.c, pv.mv.M6, pv.mv.ds, pv.mv.ne, fun p hp => pv.mv.g p (z12q _ hp)⟩, fun p hp => pv.g p (z12q _ hp)⟩, pv.pm.less, fun _ _ => ⟨k, m, es, cs', pv.pm, pv.box, ?_, rd.ds, rd.ne⟩⟩
  have hi := X4 hb;unfold CG at e1
  split at e1
  ·split at e1
   ·simp only [Option.some.injEq, Prod.mk.injEq] at e1
    have := pv.box;rw [<- e1.1, hb] at this;cases this;exact rd.c52
   ·cases e1
  ·split at e1
   ·simp only [Option.some.injEq, Prod.mk.injEq] at e1
    have := pv.box;rw [<- e1.1] at this;unfold E9 at this;rw [z13q (by simpa using hi), z4q hi] at this
    simp only [Option.some.injEq] at this;rw [<- this, z5q (by omega)]
    exact rd.c52
   ·cases e1
  ·cases e1
 ·obtain ⟨j, n, ds, sg', cs', e1, pv⟩ := h.1.M6 hb
  exact ⟨j, n, ds, sg', cs', e1, pv, pv.pm, fun a b => absurd ⟨a, b⟩ hr⟩
theorem YQ.at {j n : Nat} {ds : List DV} (h : YQ S i j n ds cs G sg) {q : Nat} {f : CL} (hq : (X0 S).reverse[q]? = some f) : ds[q]? = some (V9 f) := by
 have e := h.mv.ds;have hl : q < (X0 S).length := by have := (z14q.1 hq).1; simpa using this
 have : (ds.take (X0 S).length)[q]? = some (V9 f) := by rw [e, z20q, hq]; rfl
 rw [z37q hl] at this;exact this
theorem B33 (h : PK S i G sg) (hl : (X0 S).length < 100000) :
 Ig ((run cfg).r FY [(.undef, .ptr i 0)] sg) [M8 ((X0 S).reverse.map (·.kind))] S i G := by
 obtain ⟨cs, h1, h2⟩ := h.1.get;rw [PE, Pv];obtain ⟨j, n, ds, Az, cs1, e1, pv, pk⟩ := h.M6 h1;simp only [h1, I9, e1, KQ];have loop : ∀ (r : Nat) (q : Nat) (l : List Int), q + r = (X0 S).length -> l = ((X0 S).reverse.take q).map (·.kind) ->
  Dz (run cfg) (M8 l) j n (X0 S).length (.int .i64 (X0 S).length) (.int .i64 q) Az = some ([M8 ((X0 S).reverse.map (·.kind))], Az) := by
  intro r
  induction r with
  | zero =>
    intro q l hq Sq;rw [GY, L9];simp only [I9, D8, decide_eq_true_eq];rw [if_neg (by omega), Sq, z15q (by simp; omega)]
  | succ r ih =>
    intro q l hq Sq;rw [GY, L9];simp only [I9, D8, decide_eq_true_eq];rw [if_pos (by omega)]
    have L8 : q < (X0 S).reverse.length := by simp; omega
    have hg := pv.at (z3q L8);have fr0 : ∀ f : CL, A7 0 (V9 f) = .int .i64 f.kind := fun f => rfl
    have ll : l.length = q := by rw [Sq]; simp; omega
    rw [Mt (show q < (X0 S).length by omega)]
    simp only [I9, pv.mv.M6, hg, beq_self_eq_true, E5, fr0, P5];rw [show AQ 1 (M8 l) (DV.list 1 [.int .i64 (X0 S).reverse[q].kind]) = some (M8 (l ++ [(X0 S).reverse[q].kind])) from Ee (e := fun n => .int .i64 n) (by unfold lim; omega)]
    simp only [I9];rw [Bo, BS (by omega) (by omega)]
    simp only [I9];have := ih (q + 1) (l ++ [(X0 S).reverse[q].kind]) (by omega) (by rw [Sq, z11q L8]; simp)
    rwa [show ((q + 1 : Nat) : Int) = (q : Int) + 1 by omega] at this
 refine ⟨Az, ?_, pk⟩;have := loop (X0 S).length 0 [] (by omega) (by simp)
 exact this
def Fg (l : List CL) : List A9 := (l.filter fun f => decide (f.kind = 12)).map (·.c)
theorem B5P (h : PK S i G sg) (hl : (X0 S).length < 100000) :
 Ig ((run cfg).r HZ [(.undef, .ptr i 0)] sg) [.list 5 ((Fg (X0 S).reverse).map A9.enc)] S i G := by
 obtain ⟨cs, h1, h2⟩ := h.1.get;rw [LG, MU];obtain ⟨j, n, ds, Az, cs1, e1, pv, pk⟩ := h.M6 h1;simp only [h1, I9, e1, KQ];have loop : ∀ (r : Nat) (q : Nat) (l : List A9), q + r = (X0 S).length -> l = Fg ((X0 S).reverse.take q) ->
  BK (run cfg) (.list 5 (l.map A9.enc)) j n (X0 S).length (.int .i64 (X0 S).length) (.int .i64 q) Az = some ([.list 5 ((Fg (X0 S).reverse).map A9.enc)], Az) := by
  intro r
  induction r with
  | zero =>
    intro q l hq Sq;rw [Eg, L9];simp only [I9, D8, decide_eq_true_eq];rw [if_neg (by omega), Sq, z15q (by simp; omega)]
  | succ r ih =>
    intro q l hq Sq;rw [Eg, L9];simp only [I9, D8, decide_eq_true_eq];rw [if_pos (by omega)]
    have L8 : q < (X0 S).reverse.length := by simp; omega
    have hg := pv.at (z3q L8);have fr0 : ∀ f : CL, A7 0 (V9 f) = .int .i64 f.kind := fun f => rfl
    have ll : l.length <= q := by
     rw [Sq];unfold Fg;rw [z2q];refine z45q (z46q _ _) ?_;rw [z41q]; omega
    rw [Mt (show q < (X0 S).length by omega)]
    simp only [I9, pv.mv.M6, hg, beq_self_eq_true, E5, fr0, I5, D8, decide_eq_true_eq];have fc : ∀ f : CL, DV.agg (oN (V9 f) []) = f.c.enc := fun f => by rw [A9.F8]; rfl
    have tk : Fg ((X0 S).reverse.take (q + 1)) = Fg ((X0 S).reverse.take q) ++ (if (X0 S).reverse[q].kind = 12 then [(X0 S).reverse[q].c] else []) := by
     rw [z11q L8];unfold Fg;rw [z49q, z32q]
     by_cases k : (X0 S).reverse[q].kind = 12
     ·rw [if_pos k]; simp only [z30q, k, decide_true, if_true, z33q, z52q, z40q]
     ·rw [if_neg k]; simp only [z30q, k, decide_false, z0q, if_false, z33q, z40q]
    by_cases k : (X0 S).reverse[q].kind = 12
    ·rw [if_pos k, fc, Ee (by unfold lim; omega)]
     simp only [I9];rw [Bo, BS (by omega) (by omega)]
     simp only [I9];have := ih (q + 1) (l ++ [(X0 S).reverse[q].c]) (by omega) (by rw [tk, Sq, if_pos k])
     rwa [show ((q + 1 : Nat) : Int) = (q : Int) + 1 by omega] at this
    ·rw [if_neg k, Bo, BS (by omega) (by omega)]
     simp only [I9];have := ih (q + 1) l (by omega) (by rw [tk, Sq, if_neg k, List.append_nil])
     rwa [show ((q + 1 : Nat) : Int) = (q : Int) + 1 by omega] at this
 refine ⟨Az, ?_, pk⟩;have := loop (X0 S).length 0 [] (by omega) (by simp [Fg])
 exact this
end Go.Su

/-
 The program's machine: copies of terms, a new machine, a run.
-/
namespace Go.Su
variable {j : Nat}
theorem Zm {n : Nat} (h : j < n) : AF 0 n (.int .i64 (j : Int)) = some j := Mt h
variable {α : Type}
theorem qg (e : α -> DV) {sz i n : Nat} {sg : List C9} (l : List α) (hg : DX sg i = some (sz, l.map e)) (h : l.length = n) : Z0 sg (.undef, .arr i sz 0 n) = some (.list sz (l.map e)) := by
 simp only [Z0, hg, D5, BEq.rfl, E5, z26q, z2q, h, z25q, if_true, List.drop_zero];rw [z15q (by simp [h])]
theorem A3U (sg : List C9) (d : DV) : Z0 sg (d, .val) = some d := rfl
theorem B5K {e : α -> DV} {g : α -> α} {l : List α} (h : j < l.length) : ((part g l j).map e)[j]? = some (e l[j]) := by rw [z20q, B5L h]; rfl
theorem B5M {e : α -> DV} {g : α -> α} {l : List α} (h : j < l.length) : ((part g l j).map e).set j (e (g l[j])) = (part g l (j + 1)).map e := by rw [<- List.map_set, B5N h]
theorem A54 {e : α -> DV} {l : List α} (h : j < l.length) : (l.map e)[j]? = some (e l[j]) := by rw [z20q, z3q h]; rfl
theorem kL {e : α -> DV} {l : List α} (h : j < l.length) : (l.map e).set j (e l[j]) = l.map e := by rw [<- List.map_set, List.set_getElem_self]
theorem C1D (k : Ty) : (DV.agg [A7 0 k.enc, A7 1 k.enc, A7 2 k.enc]) = k.enc := by simp [Ty.J9, Ty.ag]
theorem B9j (k : D9) : (DV.agg [A7 0 k.enc, A7 1 k.enc, A7 2 k.enc, A7 3 k.enc, A7 4 k.enc, A7 5 k.enc, A7 6 k.enc]) = k.enc := by simp [D9.J9, D9.ag]
theorem B6g (k : Tm) : (DV.agg (Y9 k.enc [])) = k.enc := by simp [Tm.J9, Tm.ag]
theorem ZW (t : Ty) : t.size <= 1048576 -> (run cfg).p Ha [t.enc] = some t.enc := by
 induction t using Ty.ind with
 | h t ih =>
   intro hs;have J3 := t.oH;refine (Xt _).trans ?_;have loop : ∀ (n j : Nat), j + n = t.kids.length -> IJ (run cfg) t.kids.length (.int .i64 t.kids.length) (.int .i64 (j : Int)) (.int .i64 t.kind) (.int .i64 t.n) t.kids.length [.arr 3 (t.kids.map Ty.enc)] = some t.enc := by
    intro n;have sg0 : DX [C9.arr 3 (t.kids.map Ty.enc)] 0 = some (3, t.kids.map Ty.enc) := rfl
    induction n with
    | zero =>
      intro j hj;have e : j = t.kids.length := by omega
      subst e;rw [Kg, Ty.F8 t];have sa := qg Ty.enc (sz := 3) (i := 0) (n := t.kids.length) t.kids sg0 rfl;simp only [L9, z38q, decide_false, D5, D8, z0q, if_false, Y4, sa, A3U, A3T, A6d];rfl
    | succ n ihn =>
      intro j hj;have h : j < t.kids.length := by omega
      have nx := ihn (j + 1) (by omega)
      have hk := Ty.IC (z1q h);rw [Kg];simp only [L9, z34q, h, decide_true, D5, D8, if_true, Zm h, sg0, A54 h, BEq.rfl, E5, C1D, ih _ (z1q h) (by omega), CR, O5 (show j < 9223372036854775807 by omega), z50q, kL h]
      exact nx
   rw [Yz];simp only [CR, E5, Ty.K8, Ty.Q0, Ty.Q4, qC, D5, BEq.rfl, z47q, z2q, show t.kids.length <= lim by unfold lim; omega, decide_true]
   exact loop t.kids.length 0 (by omega)
theorem A3V (t : D9) : t.size <= 1048576 -> (run cfg).p Lm [t.enc] = some t.enc := by
 induction t using D9.ind with
 | h t ih =>
   intro hs;have J3 := t.oH;refine (ZG _).trans ?_;have loop : ∀ (n j : Nat), j + n = t.kids.length -> Il (run cfg) t.kids.length (.int .i64 t.kids.length) (.int .i64 (j : Int)) (.int .i64 t.kind) (.int .i64 t.lo) (.int .i64 t.hi) (.str t.name) (.int .i64 t.n) (.str t.s) t.kids.length [.arr 7 (t.kids.map D9.enc)] = some t.enc := by
    intro n;have sg0 : DX [C9.arr 7 (t.kids.map D9.enc)] 0 = some (7, t.kids.map D9.enc) := rfl
    induction n with
    | zero =>
      intro j hj;have e : j = t.kids.length := by omega
      subst e;rw [Ll, D9.F8 t];have sa := qg D9.enc (sz := 7) (i := 0) (n := t.kids.length) t.kids sg0 rfl;simp only [L9, z38q, decide_false, D5, D8, z0q, if_false, Y4, sa, A3U, A3T, A6d];rfl
    | succ n ihn =>
      intro j hj;have h : j < t.kids.length := by omega
      have nx := ihn (j + 1) (by omega)
      have hk := D9.IC (z1q h);rw [Ll];simp only [L9, z34q, h, decide_true, D5, D8, if_true, Zm h, sg0, A54 h, BEq.rfl, E5, B9j, ih _ (z1q h) (by omega), EJ, O5 (show j < 9223372036854775807 by omega), z50q, kL h]
      exact nx
   rw [bJ];simp only [EJ, E5, D9.pj, qC, D5, BEq.rfl, z47q, z2q, show t.kids.length <= lim by unfold lim; omega, decide_true]
   exact loop t.kids.length 0 (by omega)
theorem A7J (t : Tm) : t.Y0 <= 1048576 -> (run cfg).p TH [t.enc] = some t.strip.enc := by
 induction t using Tm.ind with
 | h t ih =>
   intro hs;have ha := Tm.A0n t;have hb := Tm.A0o t;have hk := Tm.NU t;have mp := Tm.A0q t;have hp : ∀ p ∈ t.H8, p.size <= 1048576 := fun p hp => by
    have h1 := Wl (f := D9.Y0) hp;have h2 := p.A0I;omega
   have X_ := (Tm.WU (t := t) (by omega)).one.H8
   have hK : t.kids.length <= lim := by unfold lim; omega
   have hP : t.H8.length <= lim := Nat.le_of_lt X_;refine (mr _).trans ?_;have l10 : ∀ (n j : Nat), j + n = t.kids.length -> KV (run cfg) t.kids.length (.int .i64 t.kids.length) (.int .i64 (j : Int)) (.int .i64 t.kind) (.int .i64 t.lo) (.int .i64 t.hi) (.str t.name) (.str t.arg) (.int .i64 t.n) (.str t.s) (.int .i64 t.op) (.int .i64 t.label) (.bool t.neg) (.int .i64 t.a.kind) (.int .i64 t.a.n) (.list 3 (t.a.kids.map Ty.enc)) (.int .i64 t.b.kind) (.int .i64 t.b.n) (.list 3 (t.b.kids.map Ty.enc)) t.H8.length t.kids.length [.arr 7 (t.H8.map D9.enc), .arr 20 ((part Tm.strip t.kids j).map Tm.enc)] = some t.strip.enc := by
    intro n
    induction n with
    | zero =>
      intro j hj;have e : j = t.kids.length := by omega
      subst e;rw [PO, B5J, Tm.F8 t.strip];have sa := qg D9.enc (sz := 7) (i := 0) (n := t.H8.length) (sg := [.arr 7 (t.H8.map D9.enc), .arr 20 ((t.kids.map Tm.strip).map Tm.enc)]) t.H8 rfl rfl;have sb := qg Tm.enc (sz := 20) (i := 1) (n := t.kids.length) (sg := [.arr 7 (t.H8.map D9.enc), .arr 20 ((t.kids.map Tm.strip).map Tm.enc)]) (t.kids.map Tm.strip) rfl (by simp)
      simp only [L9, z38q, decide_false, D5, D8, z0q, if_false, Y4, sa, sb, A3U, A3T, A6d, rC t, A3Y t, A3X t, VO t, A7m t, B1K t, B1L t, A3Z t, A3p t, A7n t, B1I t, B1J t, A5O t, A5N t];rw [Tm.CW t];rfl
    | succ n ihn =>
      intro j hj;have h : j < t.kids.length := by omega
      have nx := ihn (j + 1) (by omega)
      have hm := Tm.NT (z1q h);have Az : ∀ x, DX [x, C9.arr 20 ((part Tm.strip t.kids j).map Tm.enc)] 1 = some (20, (part Tm.strip t.kids j).map Tm.enc) := fun _ => rfl
      have st1 : ∀ x y z : C9, [x, y].set 1 z = [x, z] := fun _ _ _ => rfl
      rw [PO];simp only [L9, z34q, h, decide_true, D5, D8, if_true, Zm h, Az, B5K h, BEq.rfl, E5, B6g, ih _ (z1q h) (by omega), Al, O5 (show j < 9223372036854775807 by omega), st1, B5M h]
      exact nx
   have l5 : ∀ (n j : Nat), j + n = t.H8.length -> Lt (run cfg) t.H8.length (.int .i64 t.H8.length) (.int .i64 (j : Int)) (.int .i64 t.kind) (.int .i64 t.lo) (.int .i64 t.hi) (.str t.name) (.str t.arg) (.int .i64 t.n) (.str t.s) (.int .i64 t.op) (.int .i64 t.label) (.bool t.neg) (.int .i64 t.a.kind) (.int .i64 t.a.n) (.list 3 (t.a.kids.map Ty.enc)) (.int .i64 t.b.kind) (.int .i64 t.b.n) (.list 3 (t.b.kids.map Ty.enc)) t.H8.length t.kids.length [.arr 7 (t.H8.map D9.enc), .arr 20 (t.kids.map Tm.enc)] = some t.strip.enc := by
    intro n;have sg0 : ∀ y, DX [C9.arr 7 (t.H8.map D9.enc), y] 0 = some (7, t.H8.map D9.enc) := fun _ => rfl
    have st0 : ∀ x y z : C9, [x, y].set 0 z = [z, y] := fun _ _ _ => rfl
    induction n with
    | zero =>
      intro j hj;have e : j = t.H8.length := by omega
      subst e;have := l10 t.kids.length 0 (by omega)
      rw [B32] at this;rw [RP];simp only [L9, z38q, decide_false, D5, D8, z0q, if_false];exact this
    | succ n ihn =>
      intro j hj;have h : j < t.H8.length := by omega
      have nx := ihn (j + 1) (by omega)
      have hP2 : t.H8.length < 9223372036854775807 := Nat.lt_of_le_of_lt hP (by unfold lim; omega)
      rw [RP];simp only [L9, z34q, h, decide_true, D5, D8, if_true, Zm h, sg0, A54 h, BEq.rfl, E5, B9j, A3V _ (hp _ (z1q h)), EJ, O5 (show j < 9223372036854775807 by omega), st0, kL h]
      exact nx
   rw [sV];simp only [Al, E5, Tm.pj, Y9, V6, Q6, Ty.J9, Ty.ag, ZW _ (show t.a.size <= 1048576 by omega), ZW _ (show t.b.size <= 1048576 by omega), CR, Ty.K8, Ty.Q0, Ty.Q4, qC, D5, BEq.rfl, z47q, z2q, hK, hP, decide_true]
   exact l5 t.H8.length 0 (by omega)
end Go.Su

/-
 The program's machine: a new one, a run.
-/
namespace Go.Su
structure IQ (S : MS) : Prop where
 good : AV (S.steps + 1) S
 le : S.steps <= S.fuel
 small : S.fuel <= 300
theorem IQ.step {S : MS} (h : IQ S) : IQ S.step.1 /\ (S.step.2 = true -> S.step.1.steps = S.steps + 1 /\ S.step.1.fuel = S.fuel /\ S.steps < S.fuel) /\ (S.step.2 = false -> S.step.1.done = true) := by
 have J3 := h.le;have hs := h.small;unfold MS.step
 by_cases hd : S.done = true
 ·rw [if_pos hd]; exact ⟨h, fun h => (by cases h), fun _ => hd⟩
 rw [if_neg hd]
 by_cases hf : S.steps = S.fuel
 ·rw [if_pos hf]
  exact ⟨⟨AV.ends _, J3, hs⟩, fun h => (by cases h), fun _ => rfl⟩
 rw [if_neg hf];have k := B5G { S with steps := S.steps + 1 }
 have k1 : ({ S with steps := S.steps + 1 }.next).steps = S.steps + 1 := congrArg (·.1) k
 have k2 : ({ S with steps := S.steps + 1 }.next).fuel = S.fuel := congrArg (·.2) k
 have I : MInv (S.steps + 1) { S with steps := S.steps + 1 } := { h.good (by simpa using hd) with }
 exact ⟨⟨by rw [k1]; exact I.next, by rw [k1, k2]; omega, by rw [k2]; exact hs⟩, fun _ => ⟨k1, k2, by omega⟩, fun h => by cases h⟩
variable {t : Tm}
theorem IQ.new (ht : t.Y0 <= 1048576) {fuel : Int} (hf : fuel <= 300) : IQ (MS.new t fuel) := by
 have e : Bt fuel <= 300 := by unfold Bt; omega
 refine ⟨fun hd => ?_, Nat.zero_le _, e⟩
 have hr : t.right = true := by simpa [MS.new] using hd
 have et : (MS.new t fuel).t = t := by unfold MS.new; simp only; rw [if_pos hr]
 refine ⟨by rw [et]; exact ⟨hr, ht⟩, JS.nil _, fun h => (by cases h), fun f hf => (by cases hf), by simp [MS.new], fun f hf => (by cases hf), by simp [MS.new], fun f hf => (by cases hf), by simp [MS.new], by simp [MS.new], fun h => (by cases h), fun _ => ⟨rfl, rfl⟩, fun h => (by cases h), fun f hf => (by cases hf)⟩
noncomputable def MS.fin : Nat -> MS -> MS
 | 0, S => S
 | n + 1, S => if S.step.2 = true then MS.fin n S.step.1 else S.step.1
theorem IQ.A1i {S : MS} (r : IQ S) {i : Nat} {G : List (Nat × C9)} {sg : List C9} (h : PK S i G sg) : Ig ((run cfg).r Bn [(.undef, .ptr i 0)] sg) [.bool S.step.2] S.step.1 i G :=
 Go.Su.A1i h r.good (by have := r.le; have := r.small; omega) (by have := r.le; have := r.small; omega)
def Am (n : Int) : List (DV × Meta) := (zz4 ((.B_, .Ba)::(TD (A6q ((.int .i64 n, .val)::(A0W (TD (zz8 [((.list 9 []), .full), ((.list 9 []), .full)]))))))))
variable (fuel : Int)
theorem B88 : (ob (UF (.int .i64 fuel) (.int .i64 0)) fun d1 => YU d1 (.int .i64 65536)) = some (.int .i64 (Bt fuel : Nat)) := by
 have e : ((Bt fuel : Nat) : Int) = min (max fuel 0) 65536 := by unfold Bt; omega
 rw [e];have h1 : UF (.int .i64 fuel) (.int .i64 0) = some (.int .i64 (max fuel 0)) := by
  unfold UF;simp only;rw [if_pos trivial]
  congr 2
  by_cases h : (0 : Int) > fuel
  ·rw [if_pos h]; omega
  ·rw [if_neg h]; omega
 rw [h1, I9];unfold YU;simp only;rw [if_pos trivial]
 congr 2
 by_cases h : (65536 : Int) < max fuel 0
 ·rw [if_pos h]; omega
 ·rw [if_neg h]; omega
theorem B1n : ∃ d, UF (.int .i64 fuel) (.int .i64 0) = some d /\ YU d (.int .i64 65536) = some (.int .i64 (Bt fuel : Nat)) := by
 have h := B88 fuel;cases hd : UF (.int .i64 fuel) (.int .i64 0) with
 | none => rw [hd] at h; cases h
 | some d => rw [hd] at h; exact ⟨d, rfl, h⟩
def MS.blank (n : Nat) (t : Tm) : MS := { fuel := n, steps := 0, done := false, res := kP 0, has := false, t := t, env := [], v := R5, frames := [], U3 := [], reads := false, todo := [], out := [] }
theorem A67 (n : Nat) : MC (Am n) (MS.blank n KC) := by
 have e : KC.strip = KC := by rw [Tm.CW]; rfl
 exact ⟨rfl, by rw [show (MS.blank n KC).t = KC from rfl, e]; rfl, rfl, rfl, rfl, rfl, rfl, rfl, rfl, rfl, rfl, fun _ _ => rfl, fun _ => rfl⟩
theorem A5P : DV.agg ((.int .i64 6)::(P9 (Bz []))) = X7.enc := rfl
theorem B34 (ht : t.Y0 <= 1048576) (fuel : Int) (G : List (Nat × C9)) (sg : List C9) (hG : ∀ p ∈ G, sg[p.1]? = some p.2) :
 ∃ sg', (run cfg).r TG [(t.enc, .val), (.int .i64 fuel, .val)] sg = some ([.int .u64 (sg.length : Nat)], sg') /\ PK (MS.new t fuel) sg.length G sg' := by
 obtain ⟨d, m1, m2⟩ := B1n fuel;have ft : t.fit := Tm.WU (by omega)
 rw [yu, A18];simp only [Al, E5, m1, m2, I9, P5, B6g, A7M t ft, J7, D8, z7q, decide_eq_false_iff_not];have bx : E9 (sg ++ [C9.box (Am (Bt fuel : Nat))]) sg.length = some (Am (Bt fuel : Nat)) := by
  unfold E9;rw [z16q (z25q _), z43q];rfl
 have p0 : PM (MS.blank (Bt fuel) KC) sg.length G (sg ++ [C9.box (Am (Bt fuel : Nat))]) := by
  refine ⟨⟨_, _, bx, A67 _, rfl, .inl ⟨rfl, rfl⟩⟩, fun p hp => ?_⟩
  have h := hG p hp;have hl := (z14q.1 h).1;exact ⟨by rw [z13q hl]; exact h, by omega⟩
 by_cases hr : t.right = true
 ·rw [if_pos hr, if_neg (by simp)]
  rw [show (C9.box (zz4 ((.B_, .Ba)::(TD (A6q ((.int .i64 (Bt fuel : Nat), .val)::(A0W (TD (zz8 [((.list 9 []), .full), ((.list 9 []), .full)]))))))))) = C9.box (Am (Bt fuel : Nat)) from rfl]
  simp only [A7J t ht, I9, bx, Al, E5];rw [if_pos (show 0 + 20 <= (Am (Bt fuel : Nat)).length from z10q rfl)]
  refine ⟨_, rfl, ?_, fun h => by cases h⟩
  have vl : (vals (BH t.strip)).length = 20 := rfl;have nl : (Am (Bt fuel : Nat)).length = 54 := rfl;have ex : ∀ k, (V6 t.strip.enc []) = k -> k = vals (BH t.strip) := by
   rintro k rfl;rw [Tm.F8];rfl
  rw [ex _ rfl];have mc := A67 (Bt fuel);have pl : (putAt (Am (Bt fuel : Nat)) 0 (vals (BH t.strip))).length = 54 := by rw [Be (by omega)]; exact nl
  have e : MS.new t fuel = MS.blank (Bt fuel) t := by unfold MS.new MS.blank; rw [hr]; rfl
  rw [e];refine p0.cells bx ?_ (by rw [get_put (by omega) (by omega)]) rfl
  constructor
  ·exact pl
  ·exact ql (ds := BH t.strip) (n := 20) rfl (by omega)
  ·rw [DD (by omega) (by omega)]; exact mc.env
  ·rw [TB (by omega) (by omega)]; exact mc.v
  ·rw [DD (by omega) (by omega)]; exact mc.has
  ·rw [a_ (by omega) (by omega)]; exact mc.U3
  ·rw [DD (by omega) (by omega)]; exact mc.fuel
  ·rw [DD (by omega) (by omega)]; exact mc.steps
  ·rw [DD (by omega) (by omega)]; exact mc.done
  ·rw [TB (by omega) (by omega)]; exact mc.res
  ·rw [DD (by omega) (by omega)]; exact mc.reads
  ·rw [get_put (by omega) (by omega)]; exact mc.todo
  ·rw [a_ (by omega) (by omega)]; exact mc.out
 ·rw [if_neg hr, if_pos (by omega), A5P]
  rw [show (C9.box (zz4 ((.B_, .Ba)::(TD (A6q ((.int .i64 (Bt fuel : Nat), .val)::(A0W (TD (zz8 [((.list 9 []), .full), ((.list 9 []), .full)]))))))))) = C9.box (Am (Bt fuel : Nat)) from rfl]
  obtain ⟨sg', e1, e2⟩ := A58 p0 X7;refine ⟨sg', by rw [e1]; rfl, ?_, fun h => by cases h⟩
  have e : MS.new t fuel = (MS.blank (Bt fuel) KC).ends X7 := by
   have AR : t.right = false := by simpa using hr
   unfold MS.new MS.blank MS.ends;rw [AR];rfl
  rw [e];exact e2
theorem A6a (r : Ci) : DV.agg (A9k r.enc []) = r.enc := rfl
theorem B0I (ht : t.Y0 <= 1048576) {fuel : Int} (hf : fuel <= 300) : (run cfg).p Nn [t.enc, .int .i64 fuel] = some (MS.fin 301 (MS.new t fuel)).shown.enc := by
 refine (yw _ _).trans ?_;obtain ⟨Az, e1, e2⟩ := B34 ht fuel [] [] (by simp)
 rw [A19];simp only [Al, E5, B6g, e1, I9];have dp : PL (([DV.int .u64 (([] : List C9).length : Nat)] : List DV).getD 0 .undef) = some 0 := rfl;rw [dp];simp only [I9];have loop : ∀ (n : Nat) (S : MS) (sg : List C9), IQ S -> S.fuel < S.steps + n -> PK S 0 [] sg -> Qb (run cfg) 0 sg = some (MS.fin n S).shown.enc := by
  intro n
  induction n with
  | zero => intro S sg r h; have := r.le; omega
  | succ n ih =>
    intro S sg r hn pk;obtain ⟨sg2, g1, g2⟩ := r.A1i pk;obtain ⟨r1, r2, r3⟩ := r.step;rw [mD, g1];simp only [I9];rw [show (([DV.bool S.step.2] : List DV).getD 0 .undef) = .bool S.step.2 from rfl, MS.fin]
    simp only [D8]
    by_cases hg : S.step.2 = true
    ·obtain ⟨a, b, c⟩ := r2 hg
     rw [if_pos hg, if_pos hg];exact ih _ _ r1 (by omega) g2
    ·rw [if_neg hg, if_neg hg, A0t g2.1]
     simp only [I9, Q9, R4, Q3, E5, A6a]
 refine loop 301 _ _ (IQ.new ht hf) ?_ e2;have : (MS.new t fuel).fuel <= 300 := (IQ.new ht hf).small;have h0 : (MS.new t fuel).steps = 0 := rfl;omega
end Go.Su

/-
 The reference's machine in memory; its smallest functions.
-/
namespace Go.Su
structure Holds (cs : List (DV × Meta)) (ds : List DV) (own : List Nat) : Prop where
 len : cs.length = ds.length
 at' : ∀ (j : Nat) d, ds[j]? = some d -> ∃ m, cs[j]? = some (d, m) /\ (m = .val \/ m = .full \/ m = .own) /\ (j ∈ own -> m ≠ .val)
variable {cs : List (DV × Meta)} {ds : List DV} {own : List Nat} {j : Nat} {d : DV}
theorem Holds.cd (h : Holds cs ds own) (hd : ds[j]? = some d) : H5 cs j = some d := by
 obtain ⟨m, h1, h2, -⟩ := h.at' j d hd;unfold H5;rw [h1];rcases h2 with rfl | rfl | rfl <;> rfl
theorem Holds.co (h : Holds cs ds own) (hd : ds[j]? = some d) (ho : j ∈ own) : X9 cs j = some d := by
 obtain ⟨m, h1, h2, h3⟩ := h.at' j d hd;unfold X9;rw [h1];rcases h2 with rfl | rfl | rfl
 ·exact absurd rfl (h3 ho)
 ·rfl
 ·rfl
theorem Holds.get (h : Holds cs ds own) (hd : ds[j]? = some d) : ∃ c, cs[j]? = some c := by
 obtain ⟨m, h1, -⟩ := h.at' j d hd;exact ⟨_, h1⟩
theorem Holds.oV {cs : List (DV × Meta)} {ds : List DV} {own : List Nat} (h : Holds cs ds own) : ∀ (n o : Nat) (es : List DV), es.length = n -> (∀ j, j < n -> ds[o + j]? = es[j]?) -> O8 o n cs = some es
 | 0, o, es, hl, _ => by
   have : es = [] := z22q hl;subst this; rfl
 | n + 1, o, [], hl, _ => by cases hl
 | n + 1, o, e :: es, hl, hj => by
   have h0 := hj 0 (by omega)
   simp only [Nat.add_zero, z39q] at h0;simp only [O8, h.cd h0, D5];rw [h.oV n (o + 1) es (by simpa using hl) fun j DI => by
    have := hj (j + 1) (by omega)
    rw [show o + 1 + j = o + (j + 1) by omega, this]
    rfl]
   rfl
theorem Holds.set (h : Holds cs ds own) (j : Nat) (d : DV) {m : Meta} (hm : m = .val \/ m = .full \/ m = .own) (ho : own.contains j = false \/ m ≠ .val) : Holds (cs.set j (d, m)) (ds.set j d) own := by
 refine ⟨by simpa using h.len, fun k e he => ?_⟩
 by_cases hk : j = k
 ·subst hk
  have hl : j < ds.length := by have := (z14q.1 he).1; simpa using this
  rw [z4q hl] at he;cases he;exact ⟨m, z4q (by rw [h.len]; exact hl), hm, fun hj => ho.resolve_left (by simpa using hj)⟩
 ·rw [z5q hk] at he ⊢
  exact h.at' k e he
theorem Holds.put (h : Holds cs ds own) (o : Nat) (xs : List DV) (n : Nat) (hn : xs.length = n) (hl : o + n <= ds.length) (ho : (own.all fun j => decide (j < o) || decide (o + n <= j)) = true) : Holds (putAt cs o (vals xs)) (putAt ds o xs) own := by
 subst hn;have vl := B0d xs;have Sq : o + (vals xs).length <= cs.length := by rw [vl, h.len]; exact hl
 refine ⟨by rw [Be Sq, Be hl]; exact h.len, fun k e he => ?_⟩
 rw [Dm hl] at he;rw [Dm Sq, vl]
 by_cases hk : o <= k /\ k < o + xs.length
 ·rw [if_pos hk] at he ⊢
  refine ⟨.val, by unfold vals; rw [z20q, he]; rfl, .inl rfl, fun hj => ?_⟩
  have := z42q.1 ho k hj;simp only [Bool.or_eq_true, decide_eq_true_eq] at this;omega
 ·rw [if_neg hk] at he ⊢
  exact h.at' k e he
def encR (l : List Cell) : DV := .list 10 (l.map GX)
def U5 (f : CL) : DV := .agg ([.int .i64 f.kind] ++ BH (if f.kind = 2 \/ f.kind = 4 \/ f.kind = 6 then KC else f.t) ++ [encR f.env] ++ Ad f.v ++ xh f.c)
def NB (c : fK) : DV := .agg ([.str c.name, .str c.arg] ++ BH c.body ++ [encR c.env])
variable (S : MS)
def MS.Ws : Ci := { (if S.done = true then S.res else kP 0) with steps := S.steps }
variable (td : List Val × List Val)
def Me : List DV :=
 [.int .i64 S.fuel, .bool S.done] ++ GM S.Ws ++ [.bool S.has] ++ BH S.t ++ [encR S.env] ++ Ad S.v ++ [.list 36 (S.frames.reverse.map U5), .list 23 (S.U3.map NB), .bool S.reads, .list 9 (td.1.map Val.enc), .list 9 (td.2.map Val.enc)]
structure RB (S : MS) (td : List Val × List Val) (i : Nat) (cs : List (DV × Meta)) (sg : List C9) : Prop where
 box : E9 sg i = some cs
 h : Holds cs (Me S td) [49, 52]
 td : S.done = false -> td = (S.todo, S.out)
variable (i : Nat) (sg : List C9)
def RM : Prop := ∃ td cs, RB S td i cs sg
theorem Gq : (Me S td).length = 53 := rfl
structure FH (i : Nat) (sg sg' : List C9) : Prop where
 len : sg.length <= sg'.length
 rest : ∀ k, k ≠ i -> k < sg.length -> sg'[k]? = sg[k]?
theorem FH.refl : FH i sg sg := ⟨z25q _, fun _ _ _ => rfl⟩
variable {i : Nat}
theorem FH.trans {a b c : List C9} (h : FH i a b) (k : FH i b c) : FH i a c := ⟨z45q h.len k.len, fun j h1 h2 => (k.rest j h1 (Nat.lt_of_lt_of_le h2 h.len)).trans (h.rest j h1 h2)⟩
theorem FH.set (i : Nat) (sg : List C9) (o : C9) : FH i sg (sg.set i o) := ⟨by simp, fun k h _ => z5q (Ne.symm h)⟩
def BI (X : Option (List DV × List C9)) (r : List DV) (T : MS) (i : Nat) (sg : List C9) : Prop := ∃ sg', X = some (r, sg') /\ RM T i sg' /\ FH i sg sg'
variable {X : Option (List DV × List C9)} {sg : List C9}
theorem BI.then {F : List DV × List C9 -> Option (List DV × List C9)} {r r' : List DV} {T T' : MS} (h : BI X r T i sg) (k : ∀ sg', RM T i sg' -> BI (F (r, sg')) r' T' i sg') : BI (ob X F) r' T' i sg := by
 obtain ⟨sg', rfl, h2, h3⟩ := h;obtain ⟨sg2, k1, k2, k3⟩ := k sg' h2;exact ⟨sg2, k1, k2, h3.trans k3⟩
theorem BI.ok {S : MS} (h : RM S i sg) (r : List DV) : BI (some (r, sg)) r S i sg := ⟨sg, rfl, h, FH.refl _ _⟩
theorem BI.last {r r' : List DV} {T : MS} (h : BI X r T i sg) : BI (ob X fun q => some (r', q.2)) r' T i sg := h.then fun sg' h => BI.ok h _
theorem RB.to {S T : MS} {td td' : List Val × List Val} {es : List (DV × Meta)} (h : RB S td i cs sg) (he : Holds es (Me T td') [49, 52]) (ht : T.done = false -> td' = (T.todo, T.out)) : RM T i (sg.set i (.box es)) /\ FH i sg (sg.set i (.box es)) :=
 ⟨⟨td', es, P8 (X4 h.box) _, he, ht⟩, FH.set _ _ _⟩
theorem RB.go {S T : MS} {td td' : List Val × List Val} {es : List (DV × Meta)} (h : RB S td i cs sg) (he : Holds es (Me T td') [49, 52]) (ht : T.done = false -> td' = (T.todo, T.out)) (r : List DV) : BI (some (r, sg.set i (.box es))) r T i sg :=
 ⟨_, rfl, (h.to he ht).1, (h.to he ht).2⟩
theorem C1E (v : Val) : (X3 v.enc []) = vals (Ad v) := by rw [Val.F8]; rfl
theorem rG (t : Tm) : (V6 t.enc []) = vals (BH t) := by rw [Tm.F8]; rfl
section
variable {S : MS} {i : Nat} {sg : List C9} (h : RM S i sg)
include h
theorem VH (r : Ci) : BI ((run cfg).r CZ [(.undef, .ptr i 0), (r.enc, .val)] sg) [] (S.ends r) i sg := by
 obtain ⟨td, cs, b, hh, ht⟩ := h;have hi := X4 b;have l := hh.len.trans (Gq S td);obtain ⟨c1, e1⟩ := hh.get (j := 1) rfl;rw [uq, yP];simp only [Q3, E5, b, I9, hh.cd (j := 16) rfl, P5, e1, P8 hi, z18q, z24q, l];rw [if_pos (by omega), show (B1u r.enc [(.int .i64 S.Ws.steps, .val)]) = vals (GM (S.ends r).Ws) from rfl]
 exact RB.go ⟨b, hh, ht⟩ (T := S.ends r) (td' := td) ((hh.set 1 (.bool true) (.inl rfl) (.inl rfl)).put 2 (GM (S.ends r).Ws) 15 rfl (z10q rfl) rfl) (fun h => by cases h) []
theorem Cj : BI ((run cfg).r Y2 [(.undef, .ptr i 0)] sg) [] (S.ends X7) i sg := by
 rw [iT, mU, rD];exact (VH h X7).last
theorem NZ (hd : S.done = false) (v : Val) : BI ((run cfg).r DU [(.undef, .ptr i 0), (v.enc, .val)] sg) [] (S.give v) i sg := by
 obtain ⟨td, cs, b, hh, ht⟩ := h;have hi := X4 b;have l := hh.len.trans (Gq S td);obtain ⟨c1, e1⟩ := hh.get (j := 17) rfl;rw [iU, mV];simp only [I1, E5, b, I9, e1, P8 hi, z18q, z24q, l, C1E];rw [if_pos (by omega)]
 exact RB.go ⟨b, hh, ht⟩ (T := S.give v) (td' := td) ((hh.set 17 (.bool true) (.inl rfl) (.inl rfl)).put 39 (Ad v) 9 rfl (z10q rfl) rfl) (fun h => ht h) []
theorem TA (t : Tm) (e : List Cell) : BI ((run cfg).r Cy [(.undef, .ptr i 0), (t.enc, .val), (encR e, .val)] sg) [] (S.go t e) i sg := by
 obtain ⟨td, cs, b, hh, ht⟩ := h;have hi := X4 b;have l := hh.len.trans (Gq S td);obtain ⟨c1, e1⟩ := hh.get (j := 17) rfl;have h2 := (hh.set 17 (.bool false) (m := .val) (.inl rfl) (.inl rfl)).put 18 (BH t) 20 rfl (z10q rfl) rfl;obtain ⟨c2, e2⟩ := h2.get (j := 38) (d := encR S.env) rfl;rw [nN, tY];simp only [Al, E5, b, I9, e1, P8 hi, z18q, z24q, l, rG];rw [if_pos (by omega)]
 simp only [I9, show H6 (encR e) = true from rfl, E5, e2]
 exact RB.go ⟨b, hh, ht⟩ (T := S.go t e) (td' := td) (h2.set 38 (encR e) (.inl rfl) (.inl rfl)) (fun h => ht h) []
end
end Go.Su

/-
 The reference's machine: its frames, what a step of a term does.
-/
namespace Go.Su
theorem VP (k : Tm) : (DV.agg (Y9 k.enc [])) = k.enc := by rw [Tm.F8]; rfl
theorem C0B {k : Int} (hk : ¬(k = 2 \/ k = 4 \/ k = 6)) (t : Tm) (e : List Cell) : DV.agg ((.int .i64 k)::(Y9 t.enc ((encR e)::(P9 (Ab []))))) = U5 ⟨k, t, e, R5, F6⟩ := by
 unfold U5;simp only;rw [if_neg hk, Tm.F8];rfl
theorem A8n (c : A9) : DV.agg ((.int .i64 12)::(.int .i64 0)::(Mh ((.list 10 [])::(P9 [A7 0 c.enc, A7 1 c.enc, A7 2 c.enc, A7 3 c.enc, A7 4 c.enc])))) = U5 (DW c) := by
 unfold U5 DW;simp only;rw [if_neg (by omega), A9.F8]
 rfl
theorem B8u (c : A9) : DV.agg ((.int .i64 12)::(.int .i64 0)::(Mh ((.list 10 [])::(P9 [.int .i64 c.kind, A7 1 c.enc, A7 2 c.enc, A7 3 c.enc, A7 4 c.enc])))) = U5 (DW c) := by rw [<- A9.K8, A8n]
theorem app0 {α : Type} {e : α -> DV} (sz : Nat) (l : List α) (h : l.length <= lim) : AQ sz (.list sz []) (.list sz (l.map e)) = some (.list sz (l.map e)) := xn (e := e) (l := []) (m := l) (by simpa using h)
variable (fs : List CL) (f : CL)
theorem B9I : F5 36 (.list 36 ((fs.reverse ++ [f]).map U5)) (.int .i64 (((fs.length + 1 : Nat) : Int) - 1)) = some (U5 f) := by
 rw [show (((fs.length + 1 : Nat) : Int) - 1) = ((fs.length : Nat) : Int) by omega, I8 (by simp)]
 congr 2
 rw [List.getElem_append_right (by simp)]
 simp
theorem B9J : Ak 36 (.list 36 ((fs.reverse ++ [f]).map U5)) none (some (.int .i64 (((fs.length + 1 : Nat) : Int) - 1))) = some (.list 36 (fs.reverse.map U5)) := by
 rw [show (((fs.length + 1 : Nat) : Int) - 1) = ((fs.length : Nat) : Int) by omega]
 simp [Ak, bnd]
theorem B3y : DV.agg (A0v (U5 f) []) = f.c.enc := by rw [A9.F8]; rfl
theorem A8x : A7 0 (U5 f) = .int .i64 f.kind := rfl
section
variable {S : MS} {i : Nat} {sg : List C9} (h : RM S i sg) (hd : S.done = false)
include h
theorem B7I (hl : S.frames.length < 4294967000) {k : Int} (hk : ¬(k = 2 \/ k = 4 \/ k = 6)) (t : Tm) : BI ((run cfg).r Cx [(.undef, .ptr i 0), (.int .i64 k, .val), (t.enc, .val)] sg) [] (S.push ⟨k, t, S.env, R5, F6⟩) i sg := by
 obtain ⟨td, cs, b, hh, ht⟩ := h;have hi := X4 b;obtain ⟨c1, e1⟩ := hh.get (j := 48) rfl;rw [nL, tV];simp only [Al, E5, b, I9, hh.cd (j := 48) rfl, hh.cd (j := 38) rfl, e1, app0 36 S.frames.reverse (by simp [lim]; omega), P5, show H6 (encR S.env) = true from rfl, C0B hk]
 rw [Ee (by simp [lim]; omega)]
 simp only [I9];exact RB.go ⟨b, hh, ht⟩ (T := S.push ⟨k, t, S.env, R5, F6⟩) (td' := td) (by
  have := hh.set 48 (.list 36 ((S.frames.reverse ++ [(⟨k, t, S.env, R5, F6⟩ : CL)]).map U5)) (m := .own) (.inr (.inr rfl)) (.inl rfl);rw [<- z17q] at this ⊢;exact this) (fun h => ht h) []
theorem B6S (hl : S.frames.length < 4294967000) (ZP : ∀ f ∈ S.frames, f.kind = 12 -> f.c.right = true /\ f = DW f.c) {c : A9} (hc : c.right = true) :
 BI ((run cfg).r Zh [(.undef, .ptr i 0), (c.enc, .val)] sg) [] (S.put c) i sg := by
 have h0 := h;obtain ⟨td, cs, b, hh, ht⟩ := h;have hi := X4 b;obtain ⟨c1, e1⟩ := hh.get (j := 48) rfl;rw [zT, A2v];simp only [M9, E5, b, I9, hh.cd (j := 48) rfl, M7, z2q, z8q, A9.K8, I5, D8, I6, decide_eq_true_eq];unfold MS.put
 by_cases k1 : c.kind = 1
 ·rw [if_pos k1, if_pos k1]
  exact BI.ok h0 []
 rw [if_neg k1, if_neg k1];have pushed : BI (Tw (run cfg) i c.enc sg) [] (S.push (DW c)) i sg := by
  rw [tT];simp only [b, I9, hh.cd (j := 48) rfl, e1, app0 36 S.frames.reverse (by simp [lim]; omega), A8n]
  rw [Ee (by simp [lim]; omega)]
  simp only [I9];exact RB.go ⟨b, hh, ht⟩ (T := S.push (DW c)) (td' := td) (by
   have := hh.set 48 (.list 36 ((S.frames.reverse ++ [DW c]).map U5)) (m := .own) (.inr (.inr rfl)) (.inl rfl);rw [<- z17q] at this ⊢;exact this) (fun h => ht h) []
 cases hf : S.frames with
 | nil =>
   rw [if_pos (show ((([] : List CL).length : Nat) : Int) = 0 from rfl)]
   exact pushed
 | cons f fs =>
   have Sq := hl;rw [hf] at Sq;simp only [z9q] at Sq ⊢;rw [if_neg (by omega)]
   have e48 : (Me S td)[48]? = some (.list 36 ((fs.reverse ++ [f]).map U5)) := by
    rw [<- z17q, <- hf]; rfl
   simp only [z17q, b, I9, hh.cd e48, A30 (show fs.length + 1 < 9223372036854775807 by omega), B9I, B9J, A8x, J7, D8, z7q, decide_eq_false_iff_not, A8n]
   by_cases k12 : f.kind = 12
   ·obtain ⟨cr, -⟩ := ZP f (by rw [hf]; exact z21q ..) k12
    rw [if_neg (fun h => h k12), if_pos k12]
    have cx : DV.agg [.int .i64 c.kind, A7 1 c.enc, A7 2 c.enc, A7 3 c.enc, A7 4 c.enc] = c.enc := by rw [A9.F8]; rfl
    simp only [cx, aJ, B3y, A3m hc cr, I9];cases hJ : c.join f.c with
    | none =>
      simp only [Q9, R4, M9, E5, I9, K6, D8, z23q, if_true];exact (Cj h0).last
    | some y =>
      simp only [Q9, R4, M9, E5, I9, K6, D8, z6q, z0q, if_false, app0 36 fs.reverse (by simp [lim]; omega), e1, A9.K8, J7, z7q, decide_eq_false_iff_not]
      by_cases y1 : y.kind = 1
      ·rw [if_neg (fun h => h y1), if_pos y1]
       exact RB.go ⟨b, hh, ht⟩ (T := { S with frames := fs }) (td' := td) (hh.set 48 (.list 36 (fs.reverse.map U5)) (.inr (.inr rfl)) (.inl rfl)) (fun h => ht h) []
      ·have l := hh.len.trans (Gq S td)
       have l48 : 48 < cs.length := by omega
       rw [if_pos y1, if_neg y1];simp only [P8 hi, I9, A04 l48, B8u, z18q];rw [Ee (by simp [lim]; omega)]
       simp only [I9];rw [z4q (by omega)]
       simp only [I9, z18q];exact RB.go ⟨b, hh, ht⟩ (T := { S with frames := DW y :: fs }) (td' := td) (by
        have := hh.set 48 (.list 36 ((fs.reverse ++ [DW y]).map U5)) (m := .own) (.inr (.inr rfl)) (.inl rfl);rw [<- z17q] at this ⊢;exact this) (fun h => ht h) []
   ·rw [if_pos k12, if_neg k12]
    exact pushed
theorem A5v {v : Val} (hv : v.ok) {c : A9} (hc : c.right = true) :
 (∃ w, v.wrap c = .ok w /\ (run cfg).r Ie [(.undef, .ptr i 0), (v.enc, .val), (c.enc, .val)] sg = some ([w.enc, .bool true], sg)) \/
 (∃ T, (∀ k, S.wrapped v c k = T) /\ BI ((run cfg).r Ie [(.undef, .ptr i 0), (v.enc, .val), (c.enc, .val)] sg) [R5.enc, .bool false] T i sg) := by
 rw [ZJ, bV];simp only [I1, M9, E5, Ao, aJ, kT hv hc, I9];cases hw : v.wrap c with
 | ok w =>
   refine .inl ⟨w, rfl, ?_⟩;simp only [WR.DN, Q9, R4, Fh, I1, Q3, E5, I9, J7, decide_true, z6q, D8, z0q, if_false, rk, show (!decide (Cr.kind = 0)) = false from rfl, Ao]
 | stuck =>
   refine .inr ⟨S.ends X7, fun k => by unfold MS.wrapped; rw [hw], ?_⟩
   simp only [WR.DN, Q9, R4, Fh, I1, Q3, E5, I9, J7, show (!decide ((8 : Int) = 0)) = true from rfl, D8, if_true, Ao]
   exact (Cj h).last
 | X5 l n =>
   refine .inr ⟨S.ends (LC l n), fun k => by unfold MS.wrapped; rw [hw], ?_⟩
   simp only [WR.DN, Q9, R4, Fh, I1, Q3, E5, I9, J7, decide_true, z6q, D8, z0q, if_false, rk, show (!decide ((Bq l n).kind = 0)) = true from rfl, if_true, Ao]
   exact (VH h (Bq l n)).last
theorem A5u (hl : S.U3.length < 4294967000) (c : fK) : BI ((run cfg).r Lp [(.undef, .ptr i 0), (NB c, .val)] sg) [(A3C S.U3.length).enc] (S.make c) i sg := by
 obtain ⟨td, cs, b, hh, ht⟩ := h;have hi := X4 b;have l := hh.len.trans (Gq S td);obtain ⟨c1, e1⟩ := hh.get (j := 49) rfl;have ek : DV.agg (B36 (NB c) []) = NB c := rfl;rw [ZI, bT];simp only [show D6 23 (NB c) = true from rfl, E5, b, I9, hh.co (j := 49) rfl (by simp), ek]
 rw [Ee (by unfold lim; omega)]
 have h2 := hh.set 49 (.list 23 ((S.U3 ++ [c]).map NB)) (m := .own) (.inr (.inr rfl)) (.inr (by simp))
 simp only [I9, P8 hi];rw [z4q (by omega)]
 have Xz : i < (sg.set i (.box (cs.set 49 (.list 23 (S.U3.map NB), .val)))).length := by simpa using hi
 simp only [I9, z18q, P8 hi, h2.cd (j := 49) (d := .list 23 ((S.U3 ++ [c]).map NB)) rfl, M7, z2q, z35q, z9q, z28q, z26q, A30 (show S.U3.length + 1 < 9223372036854775807 by omega), P5, E5]
 have e : (DV.agg ((.int .i64 8)::(.int .i64 (((S.U3.length + 1 : Nat) : Int) - 1))::(.str ⟨#[]⟩)::(Ab [.list 9 []]))) = (A3C S.U3.length).enc := by
  rw [Val.F8, show (((S.U3.length + 1 : Nat) : Int) - 1) = (S.U3.length : Int) by omega]; rfl
 rw [e];exact RB.go ⟨b, hh, ht⟩ (T := S.make c) (td' := td) h2 (fun h => ht h) _
end
theorem XX (e : List Cell) (s : ByteArray) (v : Val) (hl : e.length < lim) : (run cfg).p Nq [encR e, .str s, v.enc] = some (encR (e ++ [(s, v)])) := by
 refine (zW _ _ _).trans ?_;rw [A2y];unfold encR;simp only [I1, E5, app0 10 e (Nat.le_of_lt hl), I9, Cf, Val.pj, V3, X3, R8];exact (congrArg (fun x => ob x _) (Ee (e := GX) (x := ((s, v) : Cell)) hl)).trans rfl
theorem B1x (S : MS) (td : List Val × List Val) (t : Tm) (hh : S.has = false) : putAt (Me S td) 18 (BH t) = Me (S.go t S.env) td := by
 cases S;simp only at hh;subst hh;rfl
theorem B2s (s : ByteArray) (l : List Cell) (q : Nat) (hq : q < l.length) : Qz s (l.take (q + 1)) = if l[q].1 = s then some l[q].2 else Qz s (l.take q) := by
 rw [z11q hq, A65]
theorem B7H {S : MS} {i : Nat} {sg : List C9} (h : RM S i sg) (hd : S.done = false) (t : Tm) (hl : S.env.length < 9223372036854775807) : ∀ (n : Nat), n <= S.env.length ->
 BI (OD (run cfg) i (.int .i64 ((n : Int) - 1)) t.enc sg) [] (match Qz t.name (S.env.take n) with | some v => S.give v | none => S.ends X7) i sg := by
 intro n
 induction n with
 | zero =>
   intro _;rw [Ug, Ef];simp only [I9, I6, decide_eq_true_eq];rw [if_neg (by omega), Uf, L9]
   simp only [I9, D8, decide_eq_true_eq];rw [if_pos (by omega)]
   exact (Cj h).last
 | succ n ih =>
   intro hn;have hq : n < S.env.length := by omega
   obtain ⟨td, cs, b, hh, ht⟩ := h;have ix : F5 10 (encR S.env) (.int .i64 (((n + 1 : Nat) : Int) - 1)) = some (GX S.env[n]) := by
    rw [show (((n + 1 : Nat) : Int) - 1) = (n : Int) by omega]
    exact I8 hq
   have c0 : ∀ c : Cell, A7 0 (GX c) = .str c.1 := fun c => rfl
   rw [Ug, Ef];simp only [I9, I6, decide_eq_true_eq];rw [if_pos (by omega)]
   simp only [b, I9, hh.cd (j := 38) rfl, ix, c0, Tm.Q5, Xl, D8, z7q, decide_eq_false_iff_not];rw [B2s _ _ _ hq]
   by_cases hs : S.env[n].1 = t.name
   ·rw [if_neg (fun h => h hs), if_pos hs, Uf, L9]
    simp only [I9, D8, decide_eq_true_eq];rw [if_neg (by omega)]
    have ce : ∀ c : Cell, DV.agg (aB (GX c) []) = c.2.enc := fun c => by rw [Val.F8]; rfl
    simp only [b, I9, hh.cd (j := 38) rfl, ix, ce];exact (NZ ⟨td, cs, b, hh, ht⟩ hd _).last
   ·rw [if_pos hs, if_neg hs, Fy, BS (by omega) (by omega)]
    simp only [I9];have := ih (by omega)
    rwa [show (((n + 1 : Nat) : Int) - 1 - 1) = (n : Int) - 1 by omega]
end Go.Su

/-
 The reference's machine: a step of a term.
-/
namespace Go.Su
variable (t : Tm)
theorem C0R (d : Tm) (e : List Cell) : DV.agg ((.str ⟨#[]⟩)::(A7 3 t.enc)::(Y9 d.enc [encR e])) = NB ⟨N9, t.name, d, e⟩ := by rw [Tm.Q5, Tm.F8 d]; rfl
theorem C0S (d : Tm) (e : List Cell) : DV.agg ((A7 3 t.enc)::(A7 4 t.enc)::(Y9 d.enc [encR e])) = NB ⟨t.name, t.arg, d, e⟩ := by rw [Tm.Q5, Tm.Q7, Tm.F8 d]; rfl
theorem tyA : DV.agg [A7 11 t.enc, A7 12 t.enc, A7 13 t.enc] = t.a.enc := by rw [Tm.F8, Ty.F8 t.a]; rfl
theorem tyB : DV.agg [A7 14 t.enc, A7 15 t.enc, A7 16 t.enc] = t.b.enc := by rw [Tm.F8, Ty.F8 t.b]; rfl
variable {t : Tm}
theorem tkd {i : Nat} (h : i < t.kids.length) : F5 20 (A7 19 t.enc) (.int .i64 (i : Int)) = some (t.kd i).enc := by rw [Tm.H_, I8 h, Tm.QR h]
theorem kX (h : 0 < t.kids.length) : F5 20 (A7 19 t.enc) (.int .i64 0) = some (t.kd 0).enc := tkd h
theorem B2V (h : 1 < t.kids.length) : F5 20 (A7 19 t.enc) (.int .i64 1) = some (t.kd 1).enc := tkd h
variable (t : Tm)
theorem B6Z (k : Int) : A8 .eql (A7 0 t.enc) (.int .i64 k) = some (.bool (decide (t.kind = k))) := by rw [Tm.K8, I5]
theorem B4u : H6 (A7 3 t.enc) = true := by rw [Tm.Q5]; rfl
theorem B9G : H6 (A7 4 t.enc) = true := by rw [Tm.Q7]; rfl
theorem B9o (S : MS) (t : Tm) (e : List Cell) (c : A9) : (S.go t e).put c = (S.put c).go t e := by
 unfold MS.put
 by_cases h : c.kind = 1
 ·rw [if_pos h, if_pos h]
 rw [if_neg h, if_neg h];rw [show (S.go t e).frames = S.frames from rfl]
 cases S.frames with
 | nil => rfl
 | cons f fs =>
   simp only
   by_cases k : f.kind = 12
   ·rw [if_pos k, if_pos k]
    cases c.join f.c with
    | none => rfl
    | some j =>
      simp only
      split <;> rfl
   ·rw [if_neg k, if_neg k]; rfl
theorem B9t {S : MS} {i : Nat} {sg : List C9} (h : RM S i sg) (hd : S.done = false) (hs : S.has = false) {L : Nat} (I : MInv L S) (hL : L <= 4000) : BI ((run cfg).r jU [(.undef, .ptr i 0)] sg) [] S.term i sg := by
 have h0 := h;obtain ⟨td, cs, b, hh, ht⟩ := h;have l := hh.len.trans (Gq S td);have tr := I.t.1;have tk := Tm.Gl tr;have tn := Tm.CV tr;have fl := I.fl;have ul := I.ul;have el := I.env.2;have tl : S.t.kids.length <= 1048576 := by have := S.t.BQ; have := I.t.2; have := S.t.NU; omega
 have ec : H6 (encR S.env) = true := rfl;rw [ut, yQ];have C1B : O8 18 20 cs = some (BH S.t) := hh.oV 20 18 _ rfl (fun j hj => by
  match j, hj with
  | 0, _ => rfl | 1, _ => rfl | 2, _ => rfl | 3, _ => rfl | 4, _ => rfl | 5, _ => rfl | 6, _ => rfl | 7, _ => rfl | 8, _ => rfl | 9, _ => rfl
  | 10, _ => rfl | 11, _ => rfl | 12, _ => rfl | 13, _ => rfl | 14, _ => rfl | 15, _ => rfl | 16, _ => rfl | 17, _ => rfl | 18, _ => rfl | 19, _ => rfl
  | n + 20, h => omega)
 simp only [b, I9, C1B, Oq, Al, E5, B6Z, D8, decide_eq_true_eq, hh.cd (j := 38) rfl];have pg : ∀ (k : Int) (t' : Tm), ¬(k = 2 \/ k = 4 \/ k = 6) -> BI (ob ((run cfg).r Cx [(.undef, .ptr i 0), (.int .i64 k, .val), (t'.enc, .val)] sg) fun q => ob (E9 q.2 i) fun c => if 18 + 20 <= c.length then some ([], q.2.set i (.box (putAt c 18 (vals (BH (S.t.kd 0)))))) else none) []
  ((S.push ⟨k, t', S.env, R5, F6⟩).go (S.t.kd 0) S.env) i sg := by
  intro k t' hk;refine (B7I h0 (by omega) hk t').then fun Az p1 => ?_
  obtain ⟨td1, cs1, b1, hh1, ZU⟩ := p1;have l1 := hh1.len.trans (Gq _ td1);simp only [b1, I9, l1];rw [if_pos (by omega)]
  refine RB.go ⟨b1, hh1, ZU⟩ (T := (S.push ⟨k, t', S.env, R5, F6⟩).go (S.t.kd 0) S.env) (td' := td1) ?_ (fun h => ZU h) []
  have := hh1.put 18 (BH (S.t.kd 0)) 20 rfl (z10q rfl) rfl
  rwa [B1x _ _ _ (show (S.push ⟨k, t', S.env, R5, F6⟩).has = false from hs)] at this
 unfold MS.term;unfold O9 at tn
 by_cases k1 : S.t.kind = 1
 ·rw [if_pos k1, if_pos k1]
  unfold encR;simp only [M7, z2q, I9];rw [A30 (by omega)]
  simp only [I9];have := B7H h0 hd S.t (by omega) S.env.length (z25q _)
  rwa [List.take_length] at this
 rw [if_neg k1, if_neg k1];have Sz : ∀ k : Int, S.t.kind = k -> 2 <= k -> k <= 5 -> BI (Gw (run cfg) i S.t.enc sg) [] (S.give (.mk (S.t.kind - 1) S.t.n S.t.s F6 [])) i sg := by
  intro k hk h2 h5;rw [gy];have s1 : A8 .sub (.int .i64 S.t.kind) (.int .i64 2) = some (.int .i64 (S.t.kind - 2)) := by rw [Fy, BS (by omega) (by omega)]
  have s2 : A8 .add (.int .i64 (S.t.kind - 2)) (.int .i64 1) = some (.int .i64 (S.t.kind - 1)) := by rw [Bo, BS (by omega) (by omega)]; congr 2; omega
  simp only [Tm.K8, Tm.Jd, Tm.Md, s1, s2, I9, P5, Cf, E5, FP];exact (NZ h0 hd _).last
 by_cases k2 : S.t.kind = 2
 ·rw [if_pos k2, if_pos (.inl k2)]; exact Sz 2 k2 (by omega) (by omega)
 rw [if_neg k2]
 by_cases k3 : S.t.kind = 3
 ·rw [if_pos k3, if_pos (.inr (.inl k3))]; exact Sz 3 k3 (by omega) (by omega)
 rw [if_neg k3]
 by_cases k4 : S.t.kind = 4
 ·rw [if_pos k4, if_pos (.inr (.inr (.inl k4)))]; exact Sz 4 k4 (by omega) (by omega)
 rw [if_neg k4]
 by_cases k5 : S.t.kind = 5
 ·rw [if_pos k5, if_pos (.inr (.inr (.inr k5)))]; exact Sz 5 k5 (by omega) (by omega)
 rw [if_neg k5, if_neg (show ¬ (S.t.kind = 2 \/ S.t.kind = 3 \/ S.t.kind = 4 \/ S.t.kind = 5) by omega)]
 by_cases k7 : S.t.kind = 7
 ·rw [if_pos k7, if_pos k7, FP]
  exact (NZ h0 hd _).last
 rw [if_neg k7, if_neg k7]
 by_cases k9 : S.t.kind = 9
 ·rw [if_neg (by omega), if_pos (by omega)] at tn
  rw [if_pos k9, if_pos k9];simp only [kX (show 0 < S.t.kids.length by omega), I9, B4u, ec, E5, C0R]
  refine (A5u h0 (by omega) ⟨N9, S.t.name, S.t.kd 0, S.env⟩).then fun Az p1 => ?_
  exact (NZ p1 hd _).last
 rw [if_neg k9, if_neg k9]
 by_cases k6 : S.t.kind = 6
 ·rw [if_pos (by omega)] at tn
  rw [if_pos k6, if_pos k6];simp only [kX (show 0 < S.t.kids.length by omega), B2V (show 1 < S.t.kids.length by omega), I9, VP, rG]
  exact pg 1 (S.t.kd 1) (by omega)
 rw [if_neg k6, if_neg k6]
 by_cases k8 : S.t.kind = 8
 ·rw [if_pos (by omega)] at tn
  rw [if_pos k8, if_pos k8];simp only [kX (show 0 < S.t.kids.length by omega), B2V (show 1 < S.t.kids.length by omega), I9, VP, rG]
  exact pg 3 (S.t.kd 1) (by omega)
 rw [if_neg k8, if_neg k8]
 by_cases k10 : S.t.kind = 10
 ·rw [if_pos (by omega)] at tn
  rw [if_pos k10, if_pos k10];simp only [kX (show 0 < S.t.kids.length by omega), B2V (show 1 < S.t.kids.length by omega), I9, VP, rG]
  exact pg 5 (S.t.kd 1) (by omega)
 rw [if_neg k10, if_neg k10, gz];simp only [B6Z, I9, D8, decide_eq_true_eq, VP, tyA, tyB]
 by_cases k11 : S.t.kind = 11
 ·rw [if_pos (by omega)] at tn
  rw [if_pos k11, if_pos k11];simp only [kX (show 0 < S.t.kids.length by omega), I9, rG]
  exact pg 7 S.t (by omega)
 rw [if_neg k11, if_neg k11]
 by_cases k13 : S.t.kind = 13
 ·rw [if_neg (by omega), if_neg (by omega), if_pos (by omega)] at tn
  rw [if_pos k13, if_pos k13];simp only [kX (show 0 < S.t.kids.length by omega), I9, rG]
  exact pg 8 S.t (by omega)
 rw [if_neg k13, if_neg k13]
 by_cases k14 : S.t.kind = 14
 ·rw [if_neg (by omega), if_neg (by omega), if_neg (by omega), if_pos (by omega)] at tn
  rw [if_pos k14, if_pos k14];simp only [kX (show 0 < S.t.kids.length by omega), I9, rG]
  exact pg 9 S.t (by omega)
 rw [if_neg k14, if_neg k14]
 by_cases k15 : S.t.kind = 15
 ·rw [if_pos (by omega)] at tn
  rw [if_pos k15, if_pos k15];simp only [kX (show 0 < S.t.kids.length by omega), I9, rG]
  exact pg 10 S.t (by omega)
 rw [if_neg k15, if_neg k15]
 by_cases k12 : S.t.kind = 12
 ·rw [if_pos (by omega)] at tn
  rw [if_pos k12, if_pos k12];simp only [kX (show 0 < S.t.kids.length by omega), B2V (show 1 < S.t.kids.length by omega), I9, b, hh.cd (j := 38) rfl, B4u, B9G, ec, E5, C0S]
  refine (A5u h0 (by omega) ⟨S.t.name, S.t.arg, S.t.kd 0, S.env⟩).then fun Az p1 => ?_
  have p2 := p1;obtain ⟨td1, cs1, b1, hh1, ZU⟩ := p1;simp only [z27q, I1, E5, b1, I9, hh1.cd (j := 38) rfl, Ao, VP];rw [Tm.Q5, show (S.make ⟨S.t.name, S.t.arg, S.t.kd 0, S.env⟩).env = S.env from rfl, XX _ _ _ (by unfold lim; omega)]
  simp only [I9];exact (TA p2 _ _).last
 rw [if_neg k12, if_neg k12];have k16 : S.t.kind = 16 := by omega
 rw [if_neg (by omega), if_pos (by omega)] at tn
 obtain ⟨a1, a2, a3⟩ := Tm.qf tr k16;simp only [A9W _ a1 _ a2, I9, K6, D8, z7q]
 by_cases ag : S.t.a.agrees S.t.b = true
 ·rw [if_neg (by rw [ag]; simp), if_pos ag]
  simp only [kX (show 0 < S.t.kids.length by omega), I9, b, l, rG]
  rw [if_pos (by omega), Tm.RA, Tm.A5q, B0T _ _ _ _ _ (.of a1 a2 ag)]
  simp only [I9];obtain ⟨p1, kp⟩ := RB.to ⟨b, hh, ht⟩ (T := S.go (S.t.kd 0) S.env) (td' := td) (by
   have := hh.put 18 (BH (S.t.kd 0)) 20 rfl (z10q rfl) rfl
   rwa [B1x _ _ _ hs] at this) (fun h => ht h)
  have := (B6S p1 (show S.frames.length < 4294967000 by omega) (fun f hf k => by
   obtain ⟨-, hf⟩ := I.fr f hf;rcases hf with h | h | h | h | h | h | h | h
   all_goals first | exact ⟨h.2.1, h.2.2.2⟩ | omega) (jh (l := S.t.label) (q := S.t.neg) a1 a2 ag a3)).last (r' := [])
  rw [B9o] at this;obtain ⟨sg', e1, e2, e3⟩ := this;exact ⟨sg', e1, e2, kp.trans e3⟩
 ·rw [if_pos (by simpa using ag), if_neg ag]
  exact (Cj h0).last
end Go.Su

/-
 The reference's machine: calls, operators, patterns.
-/
namespace Go.Su
theorem B8B (c : fK) : DV.agg (B39 (NB c) []) = c.body.enc := by rw [Tm.F8]; rfl
theorem coV (v : Val) : DV.agg [A7 3 v.enc, A7 4 v.enc, A7 5 v.enc, A7 6 v.enc, A7 7 v.enc] = v.c.enc := by rw [Val.F8, A9.F8 v.c]; rfl
theorem A8l {L : Nat} {e : List Cell} (h : JS L e) (hL : L <= 4000) : e.length <= 4194304000 := by have := h.2; omega
variable {S : MS} {i : Nat} {sg : List C9}
theorem A9y (h : RM S i sg) {f : Val} {c : fK} (hc : S.U3[f.n.toNat]? = some c) (h0 : 0 <= f.n) (he : c.env.length <= 4194304000) (v : Val) :
 BI (OC (run cfg) i (.int .i64 f.kind) (.int .i64 f.n) (.str f.s) (.int .i64 f.c.kind) (.int .i64 f.c.head) (.int .i64 f.c.label) (.bool f.c.neg) (.list 5 (f.c.kids.map A9.enc)) (.list 9 (f.kids.map Val.enc)) v.enc sg) [] (if S.done = true then S else S.enter f v) i sg := by
 have hm := h;obtain ⟨td, cs, b, hh, ht⟩ := h;rw [gu];have ix : F5 23 (.list 23 (S.U3.map NB)) (.int .i64 f.n) = some (NB c) := by
  unfold F5;simp only;rw [if_pos ⟨trivial, h0⟩, z20q, hc];rfl
 simp only [b, I9, hh.cd (j := 49) rfl, ix, show A7 0 (NB c) = .str c.name from rfl, show A7 22 (NB c) = encR c.env from rfl, Xl, D8, z7q, decide_eq_false_iff_not, Val.J9, Val.ag]
 have p13 : ∀ e : List Cell, e.length <= 4194304001 -> BI (MH (run cfg) i (encR e) v.enc (NB c) sg) [] (if S.done = true then S else S.go c.body (e ++ [(c.arg, v)])) i sg := by
  intro e hl;rw [bS];simp only [b, I9, hh.cd (j := 1) rfl, K6, D8, z7q, show A7 1 (NB c) = .str c.arg from rfl, Ao]
  by_cases hd : S.done = true
  ·rw [if_neg (by rw [hd]; simp), if_pos hd]
   exact BI.ok hm _
  ·rw [if_pos (by simpa using hd), if_neg hd, XX _ _ _ (by unfold lim; omega)]
   simp only [I9, B8B];exact (TA hm _ _).last
 unfold MS.enter;rw [hc]
 by_cases hn : c.name = N9
 ·rw [if_neg (show ¬¬ c.name = ⟨#[]⟩ from fun h => h hn)]
  simp only [hn, if_true];exact p13 c.env (by omega)
 ·rw [if_pos (show ¬ c.name = ⟨#[]⟩ from hn)]
  simp only [hn, if_false];rw [XX _ _ _ (by unfold lim; omega)]
  simp only [I9];exact p13 _ (by simp; omega)
theorem B7G (h : RM S i sg) (hd : S.done = false) {L : Nat} (I : MInv L S) (hL : L <= 4000) (hv : S.v.ok) {f : Val} (hf : f.ok) :
 BI ((run cfg).r aR [(.undef, .ptr i 0), (f.enc, .val), (S.v.enc, .val)] sg) [] (S.call f) i sg := by
 have hm := h;obtain ⟨td, cs, b, hh, ht⟩ := h;have fl := I.fl;rw [nK, tQ];simp only [I1, E5, b, I9, hh.cd (j := 49) rfl, M7, z2q, A9.J9, A9.ag, JQ, Val.pj, V3, X3, R8, J7, Ef, I6, D8, K6, z7q, decide_eq_true_eq, decide_eq_false_iff_not, ge_iff_le];unfold MS.call
 by_cases k8 : ¬ f.kind = 8
 ·rw [if_pos k8, if_pos (.inl k8)]
  exact (Cj hm).last
 rw [if_neg k8];rw [Classical.not_not] at k8
 by_cases hn : (S.U3.length : Int) <= f.n
 ·rw [if_pos hn, if_pos (.inr hn)]
  exact (Cj hm).last
 rw [if_neg hn, if_neg (show ¬ (f.kind ≠ 8 \/ (S.U3.length : Int) <= f.n) by omega)]
 have f0 := hf.fields.2.2.2.2.1 k8;have L8 : f.n.toNat < S.U3.length := by omega
 have hg : S.U3[f.n.toNat]? = some (S.U3[f.n.toNat]) := z3q L8;have ce := A8l (I.fu _ (z1q L8)).2 hL
 by_cases h0 : f.c = F6
 ·rw [if_neg (fun hx => hx h0), if_pos h0, Ue]
  simp only [Val.pj, V3, X3, R8, I5, I9, D8, decide_eq_true_eq];rw [if_neg (by rw [h0, QS]; omega)]
  have := A9y hm hg f0 ce S.v
  rwa [if_neg (by rw [hd]; simp)] at this
 rw [if_pos h0, if_neg h0]
 by_cases k2 : ¬ f.c.kind = 2
 ·rw [if_pos k2, if_pos k2]
  exact (Cj hm).last
 rw [if_neg k2, if_neg k2, Ue];rw [Classical.not_not] at k2;have cr := hf.coR h0;have cl := A9.JB cr (.inl k2);have r0 := A9.O4 cr (show 0 < f.c.kids.length by omega)
 have r1 := A9.O4 cr (show 1 < f.c.kids.length by omega)
 simp only [Val.Q5 f, Val.Oj f, I5, I9, D8, decide_eq_true_eq];rw [if_pos k2, l7 (show 0 < f.c.kids.length by omega)]
 simp only [I9, aJ, Ao];rcases A5v hm hv r0 with ⟨w, hw, hq⟩ | ⟨T, hT, hq⟩
 ·simp only [hq, I9, Q9, R4, I1, E5, K6, z6q, D8, z0q, if_false, NQ (show 1 < f.c.kids.length by omega), aJ]
  unfold MS.wrapped;rw [hw];simp only;have pp := B6S hm (show S.frames.length < 4294967000 by omega) (fun f hf k => by
   obtain ⟨-, hf⟩ := I.fr f hf;rcases hf with h | h | h | h | h | h | h | h
   all_goals first | exact ⟨h.2.1, h.2.2.2⟩ | omega) r1
  obtain ⟨e1, -⟩ := A3R S (f.c.kid 1);refine BI.then (T := S.put (f.c.kid 1)) (r := []) pp fun Az p1 => ?_
  have := A9y p1 (f := f.CJ F6) (c := S.U3[f.n.toNat]) (by rw [e1]; exact hg) f0 ce w
  simp only [Val.pj, V3, X3, R8];exact this
 ·rw [hT]
  obtain ⟨sg', g1, g2, g3⟩ := hq;simp only [g1, I9, Q9, R4, I1, E5, K6, z23q, D8, if_true];exact ⟨sg', rfl, g2, g3⟩
theorem B9u (h : RM S i sg) (hd : S.done = false) (t : Tm) (h1 : 1 <= t.op /\ t.op <= 7) (a b : Val) :
 BI ((run cfg).r jV [(.undef, .ptr i 0), (t.enc, .val), (a.enc, .val), (b.enc, .val)] sg) [] (match oJ t a b with | .stuck => S.ends X7 | .div lo hi => S.ends (atR 3 lo hi) | .ok v => S.give v) i sg := by
 rw [uu, yR];simp only [Al, I1, E5, Tm.Oj, I5, I9, D8, decide_eq_true_eq];have p9 : ∀ k : Int, BI (LB (run cfg) i t.enc a.enc b.enc (.int .i64 k) sg) []
  (if t.op = 7 then S.give (.mk k (if a.s = b.s then 1 else 0) N9 F6 []) else match Q_ t.op a.n b.n with | some n => S.give (.mk k n N9 F6 []) | none => S.ends (atR 3 t.lo t.hi)) i sg := by
  intro k;have fin : ∀ n : Int, BI (OE (run cfg) i (.int .i64 n) (.bool true) t.enc (.int .i64 k) sg) [] (S.give (.mk k n N9 F6 [])) i sg := by
   intro n;rw [Uh];simp only [K6, I9, D8, z6q, z0q, if_false, P5, E5, FP];exact (NZ h hd _).last
  rw [mR];simp only [Tm.Oj, Val.Q0, Val.Q4, B4q, I9, I5, KP, A0O, D8, decide_eq_true_eq]
  by_cases h7 : t.op = 7
  ·have e : opN t.op a.n b.n = some (if a.n = b.n then 1 else 0) := by unfold opN; rw [h7]; rfl
   rw [e, if_pos h7];simp only [Q9, R4, I9];rw [if_pos h7];exact fin _
  ·rw [if_neg h7, show Q_ t.op a.n b.n = opN t.op a.n b.n from rfl]
   cases opN t.op a.n b.n with
   | some n =>
     simp only [Q9, R4, I9];rw [if_neg h7];exact fin n
   | none =>
     simp only [Q9, R4, I9];rw [if_neg h7, Uh];simp only [K6, I9, D8, z23q, if_true, Tm.Q0, Tm.Q4, A02];exact (VH h _).last
 have p4 : ∀ q : Int, q = (if t.op = 7 then 3 else 1) -> BI (Qp (run cfg) i (.int .i64 q) t.enc a.enc b.enc sg) [] (match oJ t a b with | .stuck => S.ends X7 | .div lo hi => S.ends (atR 3 lo hi) | .ok v => S.give v) i sg := by
  intro q hq;rw [mQ];simp only [coV, JQ, Val.K8, Tm.Oj, J7, Ef, K6, I9, I6, D8, z7q, decide_eq_false_iff_not, decide_eq_true_eq];unfold oJ;rw [<- hq]
  by_cases ak : ¬ a.kind = q
  ·rw [if_pos ak, if_neg (fun h => ak h.1)]; exact (Cj h).last
  rw [if_neg ak]
  by_cases bk : ¬ b.kind = q
  ·rw [if_pos bk, if_neg (fun h => bk h.2.1)]; exact (Cj h).last
  rw [if_neg bk]
  by_cases ac : ¬ a.c = F6
  ·rw [if_pos ac, if_neg (fun h => ac h.2.2.1)]; exact (Cj h).last
  rw [if_neg ac]
  by_cases bc : ¬ b.c = F6
  ·rw [if_pos bc, if_neg (fun h => bc h.2.2.2)]; exact (Cj h).last
  have hc : a.kind = q /\ b.kind = q /\ a.c = F6 /\ b.c = F6 := ⟨Classical.not_not.1 ak, Classical.not_not.1 bk, Classical.not_not.1 ac, Classical.not_not.1 bc⟩;rw [if_neg bc, if_pos hc]
  by_cases h7 : t.op = 7
  ·have := p9 2
   rw [if_pos h7] at this;rw [if_pos (by omega), if_pos h7]
   exact this
  ·rw [if_neg h7]
   have fin : ∀ k : Int, k = (if 5 <= t.op then 2 else 1) -> BI (LB (run cfg) i t.enc a.enc b.enc (.int .i64 k) sg) []
    (match (match Q_ t.op a.n b.n with | some n => OR.ok (.mk (if 5 <= t.op then 2 else 1) n N9 F6 []) | none => OR.div t.lo t.hi) with | .stuck => S.ends X7 | .div lo hi => S.ends (atR 3 lo hi) | .ok v => S.give v) i sg := by
    intro k hk;have := p9 k;rw [if_neg h7] at this;rw [<- hk];cases hx : Q_ t.op a.n b.n with
    | some n => rw [hx] at this; exact this
    | none => rw [hx] at this; exact this
   by_cases h5 : 5 <= t.op
   ·rw [if_pos h5]
    exact fin 2 (by rw [if_pos h5])
   ·rw [if_neg h5]
    exact fin 1 (by rw [if_neg h5])
 by_cases h7 : t.op = 7
 ·rw [if_pos h7]; exact p4 3 (by rw [if_pos h7])
 ·rw [if_neg h7]; exact p4 1 (by rw [if_neg h7])
end Go.Su

/-
 The reference's machine: patterns, a step of a value.
-/
namespace Go.Su
variable (f : CL)
def eX : Tm := if f.kind = 2 \/ f.kind = 4 \/ f.kind = 6 then KC else f.t
theorem A8y : DV.agg (JA (U5 f) []) = (eX f).enc := by rw [Tm.F8]; rfl
theorem A8z : DV.agg (A0u (U5 f) []) = f.v.enc := by rw [Val.F8]; rfl
theorem A4R : A7 21 (U5 f) = encR f.env := rfl
theorem B5a : DV.agg (B38 (U5 f) []) = U5 f := rfl
theorem B7e : D6 36 (U5 f) = true := rfl
theorem A7Z (k : Int) : A8 .eql (A7 0 (U5 f)) (.int .i64 k) = some (.bool (decide (f.kind = k))) := by rw [A8x, I5]
theorem B9Q (k : Int) (v : Val) (hk : k = 2 \/ k = 4 \/ k = 6) (t : Tm) : DV.agg ((.int .i64 k)::(.int .i64 0)::(Mh ((.list 10 [])::(V3 v.enc (Ab []))))) = U5 ⟨k, t, [], v, F6⟩ := by
 unfold U5;simp only;rw [if_pos hk, Val.F8];rfl
theorem opF (v : Val) (hp : eX f = f.t) : DV.agg ((.int .i64 11)::(JA (U5 f) ((.list 10 [])::(V3 v.enc (Ab []))))) = U5 ⟨11, f.t, [], v, F6⟩ := by
 have e : U5 ⟨11, f.t, [], v, F6⟩ = DV.agg ([.int .i64 11] ++ BH (eX f) ++ [.list 10 []] ++ Ad v ++ xh F6) := by
  unfold U5;simp only;rw [if_neg (show ¬((11 : Int) = 2 \/ (11 : Int) = 4 \/ (11 : Int) = 6) by omega), hp]
  rfl
 rw [e, Val.F8 v];rfl
theorem eY {f : CL} (h : ¬(f.kind = 2 \/ f.kind = 4 \/ f.kind = 6)) : eX f = f.t := by unfold eX; rw [if_neg h]
variable {cs : List (DV × Meta)} {ds : List DV}
theorem Holds.C0z {own : List Nat} (h : Holds cs ds own) (k : Nat) (d : DV) : Holds (cs.set k (d, .own)) (ds.set k d) (k :: own) := by
 refine ⟨by simpa using h.len, fun j e he => ?_⟩
 by_cases hk : k = j
 ·subst hk
  have hl : k < ds.length := by have := (z14q.1 he).1; simpa using this
  rw [z4q hl] at he;cases he;exact ⟨.own, z4q (by rw [h.len]; exact hl), .inr (.inr rfl), fun _ => by simp⟩
 ·rw [z5q hk] at he ⊢
  obtain ⟨m, h1, h2, h3⟩ := h.at' j e he;refine ⟨m, h1, h2, fun hj => h3 ?_⟩
  rcases z53q.1 hj with h | h
  ·exact absurd h.symm hk
  ·exact h
theorem Holds.less {own own' : List Nat} (h : Holds cs ds own) (hs : ∀ j ∈ own', j ∈ own) : Holds cs ds own' :=
 ⟨h.len, fun j d hd => let ⟨m, h1, h2, h3⟩ := h.at' j d hd; ⟨m, h1, h2, fun hj => h3 (hs j hj)⟩⟩
theorem B7E {S : MS} {i : Nat} {sg : List C9} (h : RM S i sg) (hv : S.v.ok) {f : CL} (k9 : f.kind = 9) (he : f.env.length <= 4194304000) (hl : f.t.kids.length <= 1048576) :
 ∀ (ps : List D9) (j : Nat), (∀ x, x < ps.length -> f.t.H8[j + x]? = ps[x]?) -> j + ps.length = f.t.H8.length -> j + ps.length + 1 <= f.t.kids.length -> (∀ p ∈ ps, p.pat = true /\ p.size <= 1048576) ->
   BI (ME (run cfg) i (.int .i64 j) (U5 f) S.v.enc sg) [] (S.arms f j ps) i sg := by
 have pt : eX f = f.t := eY (by omega)
 have e2 : A7 2 (U5 f) = .int .i64 f.t.lo := by rw [show A7 2 (U5 f) = .int .i64 (eX f).lo from rfl, pt]
 have e3 : A7 3 (U5 f) = .int .i64 f.t.hi := by rw [show A7 3 (U5 f) = .int .i64 (eX f).hi from rfl, pt]
 have e19 : A7 19 (U5 f) = .list 7 (f.t.H8.map D9.enc) := by rw [show A7 19 (U5 f) = .list 7 ((eX f).H8.map D9.enc) from rfl, pt]
 have e20 : A7 20 (U5 f) = .list 20 (f.t.kids.map Tm.enc) := by rw [show A7 20 (U5 f) = .list 20 ((eX f).kids.map Tm.enc) from rfl, pt]
 intro ps
 induction ps with
 | nil =>
   intro j _ hj _ _;rw [RZ];have : ¬ (j : Int) < (f.t.H8.length : Int) := by simp at hj; omega
   simp only [e19, M7, z2q, L9, this, decide_false, I9, D8, z0q, if_false, e2, e3, A02];exact (VH h (atR 4 f.t.lo f.t.hi)).last
 | cons p ps ih =>
   intro j hx hj hk hp;simp only [z9q] at hj hk;have L8 : j < f.t.H8.length := by omega
   have h0 := hx 0 (by simp)
   rw [Nat.add_zero, z3q L8, z39q, Option.some.injEq] at h0;have hp0 := hp p (z21q ..);rw [RZ];simp only [e19, M7, z2q, L9, z34q, L8, decide_true, I9, D8, if_true, I8 L8, h0, A9h, Ao, A90 hp0.1 hv (z45q hp0.2 (by unfold lim; omega)), MR.four, Q9, R4, Fh, MN, Q3, E5, J7, rk]
   unfold MS.arms;cases hh : p.holds S.v with
   | stuck =>
     simp only [MR.err, show (!decide ((8 : Int) = 0)) = true from rfl, if_true]
     exact (Cj h).last
   | X5 l n =>
     simp only [MR.err, MR.res, decide_true, z6q, z0q, if_false, show (!decide ((Bq l n).kind = 0)) = true from rfl, if_true, FT]
     exact (VH h (Bq l n)).last
   | no =>
     simp only [MR.err, MR.res, MR.eD, decide_true, z6q, z0q, if_false, show (!decide (Cr.kind = 0)) = false from rfl, O5 (show j < 9223372036854775807 by omega), I9]
     exact ih (j + 1) (fun x hx' => by have := hx (x + 1) (by simp; omega); rw [List.getElem?_cons_succ] at this; rw [<- this]; congr 1; omega) (by omega) (by omega) fun q hq => hp q (z12q _ hq)
   | ok l =>
     have ll := (D9.dh p hp0.1 hv hh).2;have BF := hp0.2;simp only [MR.err, MR.res, MR.eD, MR.cells, decide_true, z6q, z0q, if_false, show (!decide (Cr.kind = 0)) = false from rfl, if_true, O5 (show j < 9223372036854775807 by omega), I9, e20, A4R]
     rw [I8 (show j + 1 < f.t.kids.length by omega), Tm.QR (show j + 1 < f.t.kids.length by omega)]
     unfold encR;simp only [I9, app0 10 f.env (by unfold lim; omega)]
     rw [xn (by unfold lim; omega)]
     simp only [I9, VP];exact (TA h _ _).last
theorem B7T (a b : Val) : (run cfg).p Rw [(Val.mk 5 0 N9 F6 [a, b]).enc] = some (.bool true) := by
 have hf : (Val.mk 5 0 N9 F6 [a, b]).fields := ⟨by simp, by simp, by simp, by simp, by simp, by simp, z10q rfl, by simp⟩
 rw [qz _ hf (.inl rfl)]
 congr 2
 rw [decide_eq_true_eq];exact .inl rfl
theorem B1F (a b : Val) : (run cfg).p Rw [(Val.mk 7 0 N9 F6 [a, b]).enc] = some (.bool (decide ((b.kind = 6 \/ b.kind = 7) /\ b.c.kind ≠ 5))) := by
 by_cases h : (b.kind = 6 \/ b.kind = 7) /\ b.c.kind ≠ 5
 ·have hf : (Val.mk 7 0 N9 F6 [a, b]).fields := ⟨by simp, by simp, by simp, by simp, by simp, by simp, z10q rfl, fun _ => h⟩
  rw [qz _ hf (.inl rfl)]
  congr 2
  rw [decide_eq_true h, decide_eq_true_eq];exact .inl rfl
 ·rw [decide_eq_false h]
  refine (jk _).trans ?_;have e1 : F5 9 (A7 8 (Val.mk 7 0 N9 F6 [a, b]).enc) (.int .i64 1) = some b.enc := by rw [Val.RA]; rfl
  have e0 : A7 0 (Val.mk 7 0 N9 F6 [a, b]).enc = .int .i64 7 := by rw [Val.K8]; rfl
  have e2 : A7 1 (Val.mk 7 0 N9 F6 [a, b]).enc = .int .i64 0 := by rw [Val.Q0]; rfl
  have e3 : A7 2 (Val.mk 7 0 N9 F6 [a, b]).enc = .str ⟨#[]⟩ := by rw [Val.Q4]; rfl
  have e4 : dLen (A7 8 (Val.mk 7 0 N9 F6 [a, b]).enc) = some (.int .i64 2) := by rw [Val.RA]; rfl
  have p21 : Hm (run cfg) (Val.mk 7 0 N9 F6 [a, b]).enc = some (.bool false) := by
   rw [Yb, e0, I5];simp only [I9, I6, e1, Ao, kU, K6, decide_true, if_true, z7q, decide_eq_false_iff_not]
   by_cases hk : b.kind = 6 \/ b.kind = 7
   ·rw [if_neg (fun h => h hk), Val.Q5, I5]
    simp only [I9, D8];rw [if_pos (by rw [decide_eq_true_eq]; exact Classical.not_not.1 fun hc => h ⟨hk, hc⟩)]
   ·rw [if_pos hk]
  have Sz : CP (run cfg) (.int .i64 2) (Val.mk 7 0 N9 F6 [a, b]).enc = some (.bool false) := by
   rw [YZ, e4, Ya, e0, e2, e3, p21];simp [Cn, show ((⟨#[]⟩ : ByteArray).size) = 0 from rfl]
  rw [qF, e0];simp only [I1, E5, I5, I9, D8, Int.reduceEq, decide_false, decide_true, z0q, if_false, if_true];exact Sz
end Go.Su

/-
 The reference's machine: reading.
-/
namespace Go.Su
theorem A9Z : ∀ (n : Nat) (l : List Val) (k : Nat), l.length <= n -> n <= 100000 -> listing (k + 1) l -> (∀ v ∈ l, v.c = F6 /\ v.kids = []) ->
 (run cfg).p Pj [.list 9 (l.map Val.enc)] = some (.H7 [(AY n l).1.enc, .list 9 ((AY n l).2.map Val.enc)]) /\ (∀ v ∈ (AY n l).2, v ∈ l) := by
 intro n
 induction n with
 | zero =>
   intro l k hl _ h;have : l = [] := z22q (by omega)
   subst this;cases h
 | succ n ih =>
   intro l k hl hn h hb;cases l with
   | nil => cases h
   | cons v l =>
     simp only [z9q] at hl;rw [listing] at h;have GJ : ∀ w ∈ l, w.c = F6 /\ w.kids = [] := fun w hw => hb w (z12q _ hw)
     have d0 : F5 9 (.list 9 ((v :: l).map Val.enc)) (.int .i64 0) = some v.enc := rfl;have ds : Ak 9 (.list 9 ((v :: l).map Val.enc)) (some (.int .i64 1)) none = some (.list 9 (l.map Val.enc)) := by
      simp [Ak, bnd, z15q]
     rw [AY]
     by_cases hk : v.kind = 5 \/ v.kind = 7
     ·rw [if_pos hk]
      rw [Val.ar, if_pos hk] at h;obtain ⟨a1, a2⟩ := ih l (k + 1) (by omega) (by omega) h GJ
      obtain ⟨b1, b2⟩ := A99 n l (k + 1) (by omega) h
      obtain ⟨c1, c2⟩ := ih _ k (by omega) (by omega) b1 fun w hw => GJ w (a2 w hw)
      refine ⟨?_, fun w hw => z12q _ (a2 w (c2 w hw))⟩
      refine (Ye _).trans ?_;have four : Qo (run cfg) (.list 9 (l.map Val.enc)) v.enc = some (.H7 [(Val.mk v.kind v.n v.s v.c [(AY n l).1, (AY n (AY n l).2).1]).enc, .list 9 ((AY n (AY n l).2).2.map Val.enc)]) := by
       rw [mP];simp only [a1, I9, Q9, R4, I1, E5, c1, Val.J9, Val.ag, Val.pj, V3, X3, R8];rw [Val.F8 (Val.mk _ _ _ _ _)];rfl
      rw [bO];simp only [d0, ds, I9, Val.K8, I5, I6, D8, decide_eq_true_eq]
      by_cases h5 : v.kind = 5
      ·rw [if_pos h5]; exact four
      ·rw [if_neg h5, if_pos (by omega)]; exact four
     ·rw [if_neg hk]
      refine ⟨?_, fun w hw => z12q _ hw⟩
      refine (Ye _).trans ?_;rw [bO];simp only [d0, ds, I9, Val.K8, I5, I6, D8, decide_eq_true_eq];rw [if_neg (by omega), if_neg (by omega)]
      simp only [Val.J9, Val.ag, Val.pj, V3, X3, R8]
variable {S : MS} {i : Nat} {sg : List C9}
theorem A7f (h : RM S i sg) (hd : S.done = false) (ho : S.out.length < 60000) (hl : S.todo = [] -> listing 1 S.out) (ig : ∀ w ∈ S.out, w.c = F6 /\ w.kids = []) :
 BI (MI (run cfg) i sg) [] (if S.todo = [] then S.ends ⟨1, (AY S.out.length S.out).1, 0, false, 0, 0, 0⟩ else S) i sg := by
 have hm := h;obtain ⟨td, cs, b, hh, ht⟩ := h;have e := ht hd;subst e;rw [bU];simp only [b, I9, hh.cd (j := 51) rfl, M7, z2q, I5, D8, decide_eq_true_eq, hh.cd (j := 52) rfl]
 by_cases hn : S.todo = []
 ·rw [if_pos (by rw [hn]; rfl), if_pos hn]
  obtain ⟨t1, -⟩ := A9Z S.out.length S.out 0 (z25q _) (by omega) (hl hn) ig
  simp only [t1, I9, Q9, R4, I1, E5, A7q];exact (VH hm _).last
 ·rw [if_neg (fun h => hn (z22q (by omega))), if_neg hn]
  exact BI.ok hm _
theorem RM.other {T : MS} (h : RM S i sg) (hd : S.done = true) (hT : T = { S with todo := T.todo, out := T.out }) : RM T i sg := by
 obtain ⟨td, cs, b, hh, -⟩ := h;refine ⟨td, cs, b, ?_, fun h => ?_⟩
 ·rw [hT]; exact hh
 ·rw [hT] at h; simp only at h; rw [hd] at h; cases h
variable {X : Option (List DV × List C9)} {r : List DV}
theorem BI.other {T : MS} (h : BI X r S i sg) (hd : S.done = true) (hT : T = { S with todo := T.todo, out := T.out }) : BI X r T i sg := by
 obtain ⟨sg', h1, h2, h3⟩ := h;exact ⟨sg', h1, h2.other hd hT, h3⟩
theorem BI.from {T : MS} {sg' : List C9} (h : BI X r T i sg') (k : FH i sg sg') : BI X r T i sg := by
 obtain ⟨sg2, h1, h2, h3⟩ := h;exact ⟨sg2, h1, h2, k.trans h3⟩
theorem B52 (h : RM S i sg) (hd : S.done = false) (ho : S.out.length < 50000) (ig : ∀ w ∈ S.out, w.c = F6 /\ w.kids = []) {w : Val} (hw : w.kind = 5 \/ w.kind = 7 -> w.ok) (lk : w.kids.length = if w.kind = 5 \/ w.kind = 7 then 2 else 0) {rest : List Val} (hr : rest.length < 50000) (hl : ¬(w.kind = 5 \/ w.kind = 7) -> rest = [] -> listing 1 (S.out ++ [w.L6])) :
 BI (Jj (run cfg) i (.list 9 (rest.map Val.enc)) (.int .i64 w.kind) (.int .i64 w.n) (.str w.s) (.int .i64 w.c.kind) (.int .i64 w.c.head) (.int .i64 w.c.label) (.bool w.c.neg) (.list 5 (w.c.kids.map A9.enc)) (.list 9 (w.kids.map Val.enc)) (.int .i64 w.L6.kind) (.int .i64 w.L6.n) (.str w.L6.s) sg) []
  (if w.kind = 5 \/ w.kind = 7 then (match w.two with | .stuck => S.ends X7 | .X5 l n => S.ends (LC l n) | .ok a b => { S with todo := a :: b :: rest, out := S.out ++ [w.L6] })
  else if rest = [] then { S with todo := [], out := S.out ++ [w.L6] }.ends ⟨1, (AY (S.out.length + 1) (S.out ++ [w.L6])).1, 0, false, 0, 0, 0⟩ else { S with todo := rest, out := S.out ++ [w.L6] }) i sg := by
 obtain ⟨td, cs, b, hh, ht⟩ := h;have etd := ht hd;subst etd;have l := hh.len.trans (Gq S _);have hi := X4 b;rw [h_];have e0 : DV.agg ((.int .i64 w.L6.kind)::(.int .i64 w.L6.n)::(.str w.L6.s)::(Ab [.list 9 []])) = w.L6.enc := by rw [FP]; rfl
 have ew : DV.agg [.int .i64 w.kind, .int .i64 w.n, .str w.s, .int .i64 w.c.kind, .int .i64 w.c.head, .int .i64 w.c.label, .bool w.c.neg, .list 5 (w.c.kids.map A9.enc), .list 9 (w.kids.map Val.enc)] = w.enc := (Val.F8 w).symm;obtain ⟨g1, g2, g3⟩ := B3I (k := 52) (l := S.out.map Val.enc) b (by omega) R5.enc w.L6.enc
 obtain ⟨g4, g5, g6, g7, g8⟩ := B3J (k := 52) (l := S.out.map Val.enc) (m := [w.L6.enc]) b (by omega) (.opn 9 (S.out.map Val.enc) [R5.enc]) (by simp) (S.out.length + 1) (by simp)
 have el : (S.out.map Val.enc).length = S.out.length := by simp
 rw [el] at g2;simp only [b, I9, hh.co (j := 52) (d := .list 9 (S.out.map Val.enc)) rfl (by simp), M7, z2q, e0, ew, l9, A5V (l := S.out.map Val.enc) (m := [R5.enc]) (by simp [lim]; omega) (by simp), z9q, z28q, z26q, Mt (show S.out.length < S.out.length + 1 by omega), g1, beq_self_eq_true, z51q, E5, g2, g3]
 rw [z3q (show 52 < (cs.set 52 (DV.list 9 (S.out.map Val.enc), Meta.val)).length by simp only [z24q]; omega)]
 simp only [I9, g4, g5, g6, g7, g8.box, show H6 (DV.list 9 (rest.map Val.enc)) = true from rfl, E5]
 rw [z3q (show 51 < (cs.set 52 (DV.list 9 (S.out.map Val.enc ++ [w.L6.enc]), Meta.own)).length by simp only [z24q]; omega)]
 simp only [I9, I5, D8, decide_eq_true_eq];generalize hG : ((((((sg.set i (C9.box (cs.set 52 (.list 9 (S.out.map Val.enc), .val)))) ++ [C9.opn 9 (S.out.map Val.enc) [R5.enc]]).set ((sg.set i (C9.box (cs.set 52 (.list 9 (S.out.map Val.enc), .val))))).length (.opn 9 (S.out.map Val.enc) [w.L6.enc])).set i (C9.box ((cs.set 52 (.list 9 (S.out.map Val.enc), .val)).set 52 (.undef, .arr ((sg.set i (C9.box (cs.set 52 (.list 9 (S.out.map Val.enc), .val))))).length 9 0 (S.out.length + 1))))).set i (C9.box (((cs.set 52 (.list 9 (S.out.map Val.enc), .val)).set 52 (.undef, .arr ((sg.set i (C9.box (cs.set 52 (.list 9 (S.out.map Val.enc), .val))))).length 9 0 (S.out.length + 1))).set 52 (.list 9 (S.out.map Val.enc ++ [w.L6.enc]), .own)))).set ((sg.set i (C9.box (cs.set 52 (.list 9 (S.out.map Val.enc), .val))))).length (.arr 1 [])) = sgG at *;have eo : (S.out ++ [w.L6]).map Val.enc = S.out.map Val.enc ++ [w.L6.enc] := by simp
 have kG : FH i sg sgG := by
  refine ⟨?_, g8.keep⟩;rw [<- hG]; simp
 have Xz := X4 g8.box;have hS1 : Holds ((cs.set 52 (.list 9 (S.out.map Val.enc ++ [w.L6.enc]), .own)).set 51 (.list 9 (rest.map Val.enc), .val)) (Me { S with todo := rest, out := S.out ++ [w.L6] } (rest, S.out ++ [w.L6])) [49, 52] := by
  have := (hh.set 52 (.list 9 ((S.out ++ [w.L6]).map Val.enc)) (m := .own) (.inr (.inr rfl)) (.inr (by simp))).set 51 (.list 9 (rest.map Val.enc)) (m := .val) (.inl rfl) (.inl rfl)
  rw [<- eo];exact this
 have bS1 := P8 Xz ((cs.set 52 (.list 9 (S.out.map Val.enc ++ [w.L6.enc]), .own)).set 51 (.list 9 (rest.map Val.enc), .val));have rS1 : RM { S with todo := rest, out := S.out ++ [w.L6] } i (sgG.set i (.box ((cs.set 52 (.list 9 (S.out.map Val.enc ++ [w.L6.enc]), .own)).set 51 (.list 9 (rest.map Val.enc), .val)))) := ⟨_, _, bS1, hS1, fun _ => rfl⟩
 have kS1 : FH i sg (sgG.set i (.box ((cs.set 52 (.list 9 (S.out.map Val.enc ++ [w.L6.enc]), .own)).set 51 (.list 9 (rest.map Val.enc), .val)))) := kG.trans (FH.set _ _ _);have B8V : ∀ v ∈ S.out ++ [w.L6], v.c = F6 /\ v.kids = [] := fun v hv => by
  rcases z29q.1 hv with hv | hv
  ·exact ig v hv
  ·rw [z19q.1 hv]; exact ⟨rfl, rfl⟩
 have l1 : (S.out ++ [w.L6]).length = S.out.length + 1 := by simp
 by_cases hk : w.kind = 5 \/ w.kind = 7
 ·rw [if_pos hk] at lk
  rw [if_pos (show (w.kids.length : Int) = 2 by omega), if_pos hk, A0N (hw hk)]
  cases w.two with
  | stuck =>
    simp only [TR.four, I9, Q9, R4, Fh, MN, I1, Q3, E5, J7, show (!decide ((8 : Int) = 0)) = true from rfl, D8, if_true]
    exact ((Cj rS1).last.other rfl rfl).from kS1
  | X5 a n =>
    simp only [TR.four, I9, Q9, R4, Fh, MN, I1, Q3, E5, J7, decide_true, z6q, D8, z0q, if_false, rk, show (!decide ((Bq a n).kind = 0)) = true from rfl, if_true]
    exact ((VH rS1 (Bq a n)).last.other (T := S.ends (LC a n)) rfl rfl).from kS1
  | ok x y =>
    simp only [TR.four, I9, Q9, R4, Fh, MN, I1, Q3, E5, J7, decide_true, z6q, D8, z0q, if_false, rk, show (!decide (Cr.kind = 0)) = false from rfl, Ao]
    rw [show DV.list 9 [x.enc, y.enc] = .list 9 (([x, y] : List Val).map Val.enc) from rfl, xn (by simp [lim]; omega)]
    simp only [I9, bS1];rw [z4q (by simp; omega)]
    simp only [I9, z18q];have hS2 : Holds ((cs.set 52 (.list 9 (S.out.map Val.enc ++ [w.L6.enc]), .own)).set 51 (.list 9 (([x, y] ++ rest).map Val.enc), .own)) (Me { S with todo := x :: y :: rest, out := S.out ++ [w.L6] } (x :: y :: rest, S.out ++ [w.L6])) [49, 52] := by
     have := (hh.set 52 (.list 9 ((S.out ++ [w.L6]).map Val.enc)) (m := .own) (.inr (.inr rfl)) (.inr (by simp))).set 51 (.list 9 (([x, y] ++ rest).map Val.enc)) (m := .own) (.inr (.inr rfl)) (.inl rfl)
     rw [<- eo];exact this
    have q := A7f (S := { S with todo := x :: y :: rest, out := S.out ++ [w.L6] }) ⟨_, _, P8 Xz _, hS2, fun _ => rfl⟩ hd (by simp only [l1]; omega) (fun h => by cases h) B8V
    rw [if_neg (by simp)] at q
    exact q.from (kG.trans (FH.set _ _ _))
 ·rw [if_neg hk] at lk
  rw [if_neg (show ¬ (w.kids.length : Int) = 2 by omega), if_neg hk]
  have q := A7f rS1 hd (by simp only [l1]; omega) (fun hn => hl hk hn) B8V
  simp only [l1] at q
  by_cases hn : rest = []
  ·subst hn
   rw [if_pos rfl] at q ⊢;exact q.from kS1
  ·rw [if_neg hn] at q ⊢
   exact q.from kS1
theorem B1B (h : RM S i sg) (hd : S.done = false) (hr : S.reads = true) {L : Nat} (I : MInv L S) (hL : L <= 4000) :
 BI ((run cfg).r TL [(.undef, .ptr i 0)] sg) [] S.read i sg := by
 have hm := h;obtain ⟨td, cs, b, hh, ht⟩ := h;have etd := ht hd;subst etd;rw [nM, tX];unfold MS.read;cases htd : S.todo with
 | nil => exact absurd htd (I.rd hr)
 | cons v rest =>
   have tl := I.tl;have ol := I.ol;have hv := I.td v (by rw [htd]; exact z21q ..)
   have li := I.li hr;rw [htd] at tl li;simp only [z9q] at tl li;have d51 : H5 cs 51 = some (.list 9 ((v :: rest).map Val.enc)) := by rw [<- htd]; exact hh.cd rfl
   have d0 : F5 9 (.list 9 ((v :: rest).map Val.enc)) (.int .i64 0) = some v.enc := rfl;have ds : Ak 9 (.list 9 ((v :: rest).map Val.enc)) (some (.int .i64 1)) none = some (.list 9 (rest.map Val.enc)) := by
    simp [Ak, bnd, z15q]
   simp only [b, I9, d51, d0, ds, Val.pj, V3, X3, R8, I5, D8, decide_eq_true_eq];have p6 : ∀ w : Val, (w.kind = 5 \/ w.kind = 7 -> w.ok) -> w.kids = v.kids -> w.kind = v.kind -> w.L6 = v.L6 -> (w.kind = 5 \/ w.kind = 7 -> w = v.Fx) -> BI (Ji (run cfg) i (.list 9 (rest.map Val.enc)) (.int .i64 w.kind) (.int .i64 w.n) (.str w.s) (.int .i64 w.c.kind) (.int .i64 w.c.head) (.int .i64 w.c.label) (.bool w.c.neg) (.list 5 (w.c.kids.map A9.enc)) (.list 9 (w.kids.map Val.enc)) sg) []
    (if v.kind = 5 \/ v.kind = 7 then (match v.Fx.two with | .stuck => S.ends X7 | .X5 l n => S.ends (LC l n) | .ok a b => { S with todo := a :: b :: rest, out := S.out ++ [v.L6] })
    else if rest = [] then { S with todo := [], out := S.out ++ [v.L6] }.ends ⟨1, (AY (S.out.length + 1) (S.out ++ [v.L6])).1, 0, false, 0, 0, 0⟩ else { S with todo := rest, out := S.out ++ [v.L6] }) i sg := by
    intro w hw hwi hwk hwb hwu;have q := B52 hm hd (by omega) I.ob hw (by rw [hwi, hwk]; exact hv.fields.2.1) (rest := rest) (by omega) (fun hk hn => by
     refine li _ ?_;rw [hn, z28q, z26q, listing, show w.L6.ar = if w.kind = 5 \/ w.kind = 7 then 2 else 0 from rfl, if_neg hk]
     rfl)
    have q2 : BI (Jj (run cfg) i (.list 9 (rest.map Val.enc)) (.int .i64 w.kind) (.int .i64 w.n) (.str w.s) (.int .i64 w.c.kind) (.int .i64 w.c.head) (.int .i64 w.c.label) (.bool w.c.neg) (.list 5 (w.c.kids.map A9.enc)) (.list 9 (w.kids.map Val.enc)) (.int .i64 w.L6.kind) (.int .i64 w.L6.n) (.str w.L6.s) sg) []
     (if v.kind = 5 \/ v.kind = 7 then (match v.Fx.two with | .stuck => S.ends X7 | .X5 l n => S.ends (LC l n) | .ok a b => { S with todo := a :: b :: rest, out := S.out ++ [v.L6] })
     else if rest = [] then { S with todo := [], out := S.out ++ [v.L6] }.ends ⟨1, (AY (S.out.length + 1) (S.out ++ [v.L6])).1, 0, false, 0, 0, 0⟩ else { S with todo := rest, out := S.out ++ [v.L6] }) i sg := by
     rw [<- hwb, <- hwk]
     by_cases hk : w.kind = 5 \/ w.kind = 7
     ·rw [if_pos hk] at q ⊢
      rw [<- hwu hk];exact q
     ·rw [if_neg hk] at q ⊢
      exact q
    rw [g_];simp only [P5, Cf, E5, I5, I9, D8, decide_eq_true_eq]
    by_cases h8 : w.kind = 8
    ·rw [if_pos h8]
     have e : w.L6 = .mk w.kind 0 w.s F6 [] := by unfold Val.L6; rw [if_pos h8]
     rw [e] at q2;exact q2
    ·rw [if_neg h8]
     have e : w.L6 = .mk w.kind w.n w.s F6 [] := by unfold Val.L6; rw [if_neg h8]
     rw [e] at q2;exact q2
   by_cases k5 : v.c.kind = 5
   ·rw [if_pos k5]
    have hn : v.c ≠ F6 := fun h => by rw [h, QS] at k5; omega
    have l1 := A9.A_ (hv.coR hn) (.inr (.inl k5));rw [l7 (by omega)]
    simp only [I9, A9.K8, A9.Q0, A9.Q4, A9.Q5, A9.Q7, I5, D8, decide_eq_true_eq];have eu : v.Fx = if (v.c.kid 0).kind = 1 then v.CJ F6 else v.CJ (v.c.kid 0) := by unfold Val.Fx; rw [if_pos k5]
    by_cases k1 : (v.c.kid 0).kind = 1
    ·rw [if_pos k1] at eu ⊢
     exact p6 (v.CJ F6) (fun hk => by rw [<- eu]; exact (hv.Fx hk).1) rfl rfl rfl fun _ => eu.symm
    ·rw [if_neg k1] at eu ⊢
     exact p6 (v.CJ (v.c.kid 0)) (fun hk => by rw [<- eu]; exact (hv.Fx hk).1) rfl rfl rfl fun _ => eu.symm
   ·rw [if_neg k5]
    exact p6 v (fun _ => hv) rfl rfl rfl fun _ => by unfold Val.Fx; rw [if_neg k5]
end Go.Su

/-
 The reference's machine: a step; a new machine.
-/
namespace Go.Su
theorem C1x {t : Tm} {n : Int} (h : 2 < t.kids.length) (hn : n = 0 \/ n = 1) : ∀ d, A8 .sub (.int .i64 2) (.int .i64 n) = some d -> F5 20 (.list 20 (t.kids.map Tm.enc)) d = some (t.kd (if n = 1 then 1 else 2)).enc := by
 intro d hd;rw [Fy, BS (by omega) (by omega)] at hd
 cases hd;rcases hn with rfl | rfl
 ·rw [if_neg (by omega)]
  have := tkd (t := t) (i := 2) h;rw [Tm.H_] at this;exact this
 ·rw [if_pos rfl]
  have := tkd (t := t) (i := 1) (by omega)
  rw [Tm.H_] at this;exact this
theorem B7F {S : MS} {i : Nat} {sg : List C9} (h : RM S i sg) (hd : S.done = false) (hr : S.reads = false) (hv : S.v.ok) {L : Nat} (I : MInv L S) (hL : L <= 4000) :
 BI ((run cfg).r aQ [(.undef, .ptr i 0)] sg) [] (match S.frames with | f :: fs => { S with frames := fs }.frame f | [] => { S with reads := true, todo := [S.v] }.read) i sg := by
 have hm := h;obtain ⟨td, cs, b, hh, ht⟩ := h;have etd := ht hd;subst etd;have l := hh.len.trans (Gq S _);have hi := X4 b;have fl := I.fl;have sv : O8 39 9 cs = some (Ad S.v) := hh.oV 9 39 _ rfl (fun j hj => by
  match j, hj with
  | 0, _ => rfl | 1, _ => rfl | 2, _ => rfl | 3, _ => rfl | 4, _ => rfl | 5, _ => rfl | 6, _ => rfl | 7, _ => rfl | 8, _ => rfl
  | n + 9, h => omega)
 rw [nJ, tO];simp only [b, I9, hh.cd (j := 48) rfl, M7, z2q, z8q, I5, D8, decide_eq_true_eq];cases hf : S.frames with
 | nil =>
   rw [if_pos (show ((([] : List CL).length : Nat) : Int) = 0 from rfl)]
   obtain ⟨c1, e1⟩ := hh.get (j := 50) rfl;have h2 := hh.set 50 (.bool true) (m := .val) (.inl rfl) (.inl rfl);obtain ⟨c2, e2⟩ := h2.get (j := 51) (d := .list 9 (S.todo.map Val.enc)) rfl;have sv2 : O8 39 9 (cs.set 50 (.bool true, .val)) = some (Ad S.v) := by rw [X6 (by omega)]; exact sv
   simp only [e1, I9, P8 hi, sv2, Bw, I1, E5, e2, z18q];have nr := I.nr hr;have p1 : RM { S with reads := true, todo := [S.v] } i (sg.set i (.box ((cs.set 50 (.bool true, .val)).set 51 (.list 9 [S.v.enc], .full)))) :=
    (RB.to ⟨b, hh, ht⟩ (T := { S with reads := true, todo := [S.v] }) (td' := ([S.v], S.out)) (h2.set 51 (.list 9 [S.v.enc]) (m := .full) (.inr (.inl rfl)) (.inl rfl)) (fun _ => rfl)).1
   have J2 : MInv L { S with reads := true, todo := [S.v] } := { I with td := by simpa using hv, tl := by simp, rd := fun _ => by simp, nr := fun h => (by cases h), li := fun _ l hl => (by
    rw [nr.2];exact hl) }
   have q := (B1B p1 hd rfl J2 hL).last (r' := []);rw [hf] at q;exact q.from (FH.set _ _ _)
 | cons f fs =>
   have hff := I.fr f (by rw [hf]; exact z21q ..)
   obtain ⟨he, hff⟩ := hff;have el := A8l he hL;rw [hf] at fl;simp only [z9q] at fl ⊢;rw [if_neg (by omega)]
   obtain ⟨c1, e1⟩ := hh.get (j := 48) rfl;simp only [z17q, A30 (show fs.length + 1 < 9223372036854775807 by omega), I9, B9I, B9J, sv, Bw, I1, E5, e1, app0 36 fs.reverse (by simp [lim]; omega), A7Z, D8, decide_eq_true_eq]
   have hS1 : Holds (cs.set 48 (.list 36 (fs.reverse.map U5), .own)) (Me { S with frames := fs } (S.todo, S.out)) [48, 49, 52] := hh.C0z 48 (.list 36 (fs.reverse.map U5))
   have l48 : 48 < cs.length := by omega
   have bS1 := P8 hi (cs.set 48 (.list 36 (fs.reverse.map U5), .own));have JR : i < (sg.set i (.box (cs.set 48 (.list 36 (fs.reverse.map U5), .own)))).length := by simpa using hi
   have p1 : RM { S with frames := fs } i (sg.set i (.box (cs.set 48 (.list 36 (fs.reverse.map U5), .own)))) := ⟨_, _, bS1, hS1.less (by simp), fun _ => rfl⟩
   have k1 : FH i sg (sg.set i (.box (cs.set 48 (.list 36 (fs.reverse.map U5), .own)))) := FH.set _ _ _;have J1 : MInv L { S with frames := fs } := { I with fr := fun g hg => I.fr g (by rw [hf]; exact z12q _ hg), fl := by simp only; omega }
   have pg : ∀ g : CL, RM ({ S with frames := fs }.push g) i ((sg.set i (.box (cs.set 48 (.list 36 (fs.reverse.map U5), .own)))).set i (.box ((cs.set 48 (.list 36 (fs.reverse.map U5), .own)).set 48 (.list 36 ((fs.reverse ++ [g]).map U5), .own)))) := fun g =>
    ⟨_, _, P8 JR _, by
      have := (hS1.set 48 (.list 36 ((fs.reverse ++ [g]).map U5)) (m := .own) (.inr (.inr rfl)) (.inr (by simp))).less (own' := [49, 52]) (by simp)
      rw [<- z17q] at this ⊢;exact this, fun _ => rfl⟩
   have kg : ∀ g : CL, FH i sg ((sg.set i (.box (cs.set 48 (.list 36 (fs.reverse.map U5), .own)))).set i (.box ((cs.set 48 (.list 36 (fs.reverse.map U5), .own)).set 48 (.list 36 ((fs.reverse ++ [g]).map U5), .own)))) := fun g => k1.trans (FH.set _ _ _)
   have ap : ∀ g : CL, AQ 36 (.list 36 (fs.reverse.map U5)) (.list 36 [U5 g]) = some (.list 36 ((fs.reverse ++ [g]).map U5)) := fun g => Ee (by simp [lim]; omega)
   generalize C1T : sg.set i (.box (cs.set 48 (.list 36 (fs.reverse.map U5), .own))) = Az at *;generalize C1j : cs.set 48 (.list 36 (fs.reverse.map U5), .own) = cs1 at *;have lc1 : 48 < cs1.length := by rw [<- C1j]; simpa using l48
   have co1 : X9 cs1 48 = some (.list 36 (fs.reverse.map U5)) := hS1.co (d := .list 36 (fs.reverse.map U5)) rfl (by simp)
   unfold MS.frame;have p13 : f.kind = 1 \/ f.kind = 3 -> eX f = f.t -> BI (MF (run cfg) i (U5 f) S.v.enc Az) [] (({ S with frames := fs }.push ⟨f.kind + 1, f.t, [], S.v, F6⟩).go f.t f.env) i sg := by
    intro hk hp;rw [bP, A8x, Bo, BS (by omega) (by omega)]
    simp only [bS1, I9, co1, P5, E5, B9Q (f.kind + 1) S.v (by omega) f.t, ap, P8 JR]
    rw [z4q lc1];simp only [I9, z18q, A8y, A4R, hp];have q := (TA (pg ⟨f.kind + 1, f.t, [], S.v, F6⟩) f.t f.env).last (r' := []);exact q.from (kg _)
   by_cases f1 : f.kind = 1
   ·rw [if_pos f1, if_pos (.inl f1)]
    exact p13 (.inl f1) (eY (by omega))
   rw [if_neg f1]
   by_cases f3 : f.kind = 3
   ·rw [if_pos f3, if_pos (.inr (.inl f3))]
    exact p13 (.inr f3) (eY (by omega))
   rw [if_neg f3];have p20 : ∀ k : Int, k = 5 \/ k = 7 -> BI (MG (run cfg) i (.int .i64 k) (.list 9 [f.v.enc, S.v.enc]) Az) [] (if (k = 5 \/ k = 7 /\ (S.v.kind = 6 \/ S.v.kind = 7) /\ S.v.c.kind ≠ 5) then { S with frames := fs }.give (.mk k 0 N9 F6 [f.v, S.v]) else { S with frames := fs }.ends X7) i sg := by
    intro k hk57;have e : DV.agg ((.int .i64 k)::(.int .i64 0)::(.str ⟨#[]⟩)::(Ab [.list 9 [f.v.enc, S.v.enc]])) = (Val.mk k 0 N9 F6 [f.v, S.v]).enc := by rw [Val.F8 (Val.mk _ _ _ _ _)]; rfl
    rw [bQ, e]
    by_cases h5 : k = 5
    ·subst h5
     rw [if_pos (.inl rfl), B7T];simp only [I9, K6, D8, z6q, z0q, if_false];exact (NZ p1 hd _).last.from k1
    by_cases h7 : k = 7
    ·subst h7
     by_cases hc : (S.v.kind = 6 \/ S.v.kind = 7) /\ S.v.c.kind ≠ 5
     ·rw [if_pos (.inr ⟨rfl, hc⟩), B1F, decide_eq_true hc]
      simp only [I9, K6, D8, z6q, z0q, if_false];exact (NZ p1 hd _).last.from k1
     ·rw [if_neg (fun h => by rcases h with h | h; exact h5 h; exact hc h.2), B1F, decide_eq_false hc]
      simp only [I9, K6, D8, z23q, if_true];exact (Cj p1).last.from k1
    ·omega
   by_cases f2 : f.kind = 2
   ·rw [if_pos f2, if_neg (by omega), if_neg (by omega), if_pos f2, Ra]
    simp only [A7Z, I9, D8, decide_eq_true_eq, A8z, Ao];rw [if_neg (by omega)]
    have q := p20 5 (.inl rfl)
    rwa [if_pos (.inl rfl)] at q
   rw [if_neg f2]
   by_cases f4 : f.kind = 4
   ·rw [if_pos f4, if_neg (by omega), if_neg (by omega), if_neg f2, if_pos f4, Ra]
    simp only [A7Z, I9, D8, decide_eq_true_eq, A8z, Ao];rw [if_pos f4];have q := p20 7 (.inr rfl)
    by_cases hc : (S.v.kind = 6 \/ S.v.kind = 7) /\ S.v.c.kind ≠ 5
    ·rw [if_pos (.inr ⟨rfl, hc⟩)] at q
     rw [if_pos hc];exact q
    ·rw [if_neg (by omega)] at q
     rw [if_neg hc];exact q
   rw [if_neg f4]
   by_cases f5 : f.kind = 5
   ·rw [if_pos f5, if_pos (.inr (.inr f5))]
    simp only [bS1, I9, co1, B9Q 6 S.v (by omega) f.t, ap, P8 JR]
    rw [z4q lc1];simp only [I9, z18q, A8y, A4R, eY (show ¬(f.kind = 2 \/ f.kind = 4 \/ f.kind = 6) by omega), f5]
    have q := (TA (pg ⟨6, f.t, [], S.v, F6⟩) f.t f.env).last (r' := []);exact q.from (kg _)
   rw [if_neg f5, if_neg (show ¬(f.kind = 1 \/ f.kind = 3 \/ f.kind = 5) by omega), bR]
   simp only [A7Z, I9, D8, I6, decide_eq_true_eq, A8z, A8y, A4R, B3y, B5a, Ao, coV, JQ, K6, z7q, decide_eq_false_iff_not];have tkk : ∀ (j : Nat), eX f = f.t -> j < f.t.kids.length -> F5 20 (A7 20 (U5 f)) (.int .i64 (j : Int)) = some (f.t.kd j).enc := fun j hp hj => by
    rw [show A7 20 (U5 f) = .list 20 ((eX f).kids.map Tm.enc) from rfl, hp, <- Tm.H_]
    exact tkd hj
   by_cases f6 : f.kind = 6
   ·have vf : f.v.ok := by
     rcases hff with h | h | h | h | h | h | h | h
     all_goals first | exact h.2 | omega
    rw [if_pos f6, if_neg (show ¬ f.kind = 10 by omega), if_neg f2, if_neg f4, if_pos f6]
    exact (B7G p1 hd J1 hL hv vf).last.from k1
   rw [if_neg f6];have hp := eY (f := f) (by omega)
   by_cases f7 : f.kind = 7
   ·have tt : JD f.t /\ f.t.kind = 11 := by
     rcases hff with h | h | h | h | h | h | h | h
     all_goals first | exact h.2 | omega
    have tn := Tm.CV tt.1.1;rw [tt.2, O9, if_pos (by omega)] at tn
    rw [if_pos f7, if_neg (show ¬ f.kind = 10 by omega), if_neg f2, if_neg f4, if_neg f6, if_pos f7]
    rw [show F5 20 (A7 20 (U5 f)) (DV.int .i64 1) = some (f.t.kd 1).enc from tkk 1 hp (by omega)]
    simp only [I9, show A7 4 (U5 f) = .str (eX f).name from rfl, hp, VP]
    rw [XX _ _ _ (by unfold lim; omega)]
    simp only [I9];exact (TA p1 _ _).last.from k1
   rw [if_neg f7]
   by_cases f8 : f.kind = 8
   ·have tt : JD f.t /\ f.t.kind = 13 := by
     rcases hff with h | h | h | h | h | h | h | h
     all_goals first | exact h.2 | omega
    have tn := Tm.CV tt.1.1;rw [tt.2, O9, if_neg (by omega), if_neg (by omega), if_pos (by omega)] at tn
    rw [if_pos f8, if_neg (show ¬ f.kind = 10 by omega), if_neg f2, if_neg f4, if_neg f6, if_neg f7, if_pos f8, Val.K8, J7]
    simp only [I9, I6, z7q, decide_eq_false_iff_not]
    by_cases v2 : S.v.kind = 2
    ·rw [if_neg (fun h => h v2)]
     by_cases vc : S.v.c = F6
     ·rw [if_neg (fun h => h vc), if_pos ⟨v2, vc⟩, Val.Q0]
      have nn := hv.fields.2.2.2.1 v2;have sb : A8 .sub (.int .i64 2) (.int .i64 S.v.n) = some (.int .i64 (2 - S.v.n)) := by rw [Fy, BS (by omega) (by omega)]
      have ix := C1x (t := f.t) (by omega) nn _ sb
      rw [sb];simp only [I9];rw [show A7 20 (U5 f) = .list 20 ((eX f).kids.map Tm.enc) from rfl, hp, ix]
      simp only [I9, VP];exact (TA p1 _ _).last.from k1
     ·rw [if_pos vc, if_neg (fun h => vc h.2)]
      exact (Cj p1).last.from k1
    ·rw [if_pos v2, if_neg (fun h => v2 h.1)]
     exact (Cj p1).last.from k1
   rw [if_neg f8]
   by_cases f9 : f.kind = 9
   ·have tt : JD f.t /\ f.t.kind = 14 := by
     rcases hff with h | h | h | h | h | h | h | h
     all_goals first | exact h.2 | omega
    have tn := Tm.CV tt.1.1;rw [tt.2, O9, if_neg (by omega), if_neg (by omega), if_neg (by omega), if_pos (by omega)] at tn
    have tl : f.t.kids.length <= 1048576 := by have := tt.1.2; have := f.t.NU; omega
    rw [if_pos f9, if_neg (show ¬ f.kind = 10 by omega), if_neg f2, if_neg f4, if_neg f6, if_neg f7, if_neg f8, if_pos f9, nI, tN]
    simp only [B7e, I1, E5];exact (B7E p1 hv f9 el tl f.t.H8 0 (fun x _ => by rw [z26q]) (by omega) (by omega) tt.1.H8).last.from k1
   rw [if_neg f9]
   by_cases f10 : f.kind = 10
   ·have tt : JD f.t /\ f.t.kind = 15 := by
     rcases hff with h | h | h | h | h | h | h | h
     all_goals first | exact h.2 | omega
    have tn := Tm.CV tt.1.1;rw [tt.2, O9, if_pos (by omega)] at tn
    rw [if_pos f10, if_pos f10];simp only [bS1, I9, co1, opF f S.v hp, ap, P8 JR];rw [z4q lc1, show F5 20 (A7 20 (U5 f)) (DV.int .i64 1) = some (f.t.kd 1).enc from tkk 1 hp (by omega)]
    simp only [I9, z18q, VP];have q := (TA (pg ⟨11, f.t, [], S.v, F6⟩) (f.t.kd 1) f.env).last (r' := []);exact q.from (kg _)
   rw [if_neg f10, if_neg f10, if_neg f2, if_neg f4, if_neg f6, if_neg f7, if_neg f8, if_neg f9]
   by_cases f11 : f.kind = 11
   ·have tt : JD f.t /\ f.t.kind = 15 := by
     rcases hff with h | h | h | h | h | h | h | h
     all_goals first | exact ⟨h.2.1, h.2.2.1⟩ | omega
    rw [if_pos f11, if_pos f11, hp];exact (B9u p1 hd f.t (Tm.A9w tt.1.1 tt.2) f.v S.v).last.from k1
   rw [if_neg f11, if_neg f11];have fc : f.c.right = true := by
    rcases hff with h | h | h | h | h | h | h | h
    all_goals first | exact h.2.1 | omega
   rcases A5v p1 hv fc with ⟨w, hw, hq⟩ | ⟨T, hT, hq⟩
   ·simp only [hq, I9, Q9, R4, I1, E5, D8, if_true, Ao]
    unfold MS.wrapped;rw [hw];exact (NZ p1 hd w).last.from k1
   ·have hT' : ∀ k, MS.wrapped { S with frames := fs } S.v f.c k = T := hT
    rw [hT'];obtain ⟨sg', g1, g2, g3⟩ := hq;simp only [g1, I9, Q9, R4, I1, E5, D8, z0q, if_false];exact ⟨sg', rfl, g2, k1.trans g3⟩
end Go.Su

/-
 The reference's machine: a step; a new machine.
-/
namespace Go.Su
theorem A6c {S : MS} {i : Nat} {sg : List C9} (h : RM S i sg) (R : IQ S) : BI ((run cfg).r Ml [(.undef, .ptr i 0)] sg) [.bool S.step.2] S.step.1 i sg := by
 have hm := h;obtain ⟨td, cs, b, hh, ht⟩ := h;have hi := X4 b;have l := hh.len.trans (Gq S td);have J3 := R.le;have hsm := R.small;rw [nH, tL];simp only [b, I9, hh.cd (j := 1) rfl, D8];unfold MS.step
 by_cases vz : S.done = true
 ·rw [if_pos vz, if_pos vz]
  exact BI.ok hm _
 have hd : S.done = false := by simpa using vz
 have I : MInv (S.steps + 1) S := R.good hd;rw [if_neg vz, if_neg vz];simp only [hh.cd (j := 16) (d := .int .i64 S.steps) rfl, hh.cd (j := 0) (d := .int .i64 S.fuel) rfl, I9, Ef, D8, decide_eq_true_eq]
 by_cases hf : S.steps = S.fuel
 ·rw [if_pos (by omega), if_pos hf, A9v]
  exact (VH hm (kP 5)).last
 rw [if_neg (by omega), if_neg hf, Bo, BS (by omega) (by omega)]
 obtain ⟨c1, e1⟩ := hh.get (j := 16) (d := .int .i64 S.steps) rfl;have h2 : Holds (cs.set 16 (.int .i64 ((S.steps : Int) + 1), .val)) (Me { S with steps := S.steps + 1 } td) [49, 52] := by
  have := hh.set 16 (.int .i64 ((S.steps : Int) + 1)) (m := .val) (.inl rfl) (.inl rfl);rw [show ((S.steps : Int) + 1) = ((S.steps + 1 : Nat) : Int) by omega] at this ⊢
  exact this
 have b2 := P8 hi (cs.set 16 (.int .i64 ((S.steps : Int) + 1), .val));have p1 : RM { S with steps := S.steps + 1 } i (sg.set i (.box (cs.set 16 (.int .i64 ((S.steps : Int) + 1), .val)))) := ⟨td, _, b2, h2, ht⟩
 have k1 : FH i sg (sg.set i (.box (cs.set 16 (.int .i64 ((S.steps : Int) + 1), .val)))) := FH.set _ _ _;have J : MInv (S.steps + 1) { S with steps := S.steps + 1 } := { I with }
 simp only [I9, P5, E5, e1, b2, h2.cd (j := 50) (d := .bool S.reads) rfl, h2.cd (j := 17) (d := .bool S.has) rfl, D8];unfold MS.next;simp only
 by_cases NN : S.reads = true
 ·rw [if_pos NN, if_pos NN]
  exact (B1B p1 hd NN J (by omega)).last.from k1
 have hr : S.reads = false := by simpa using NN
 rw [if_neg NN, if_neg NN]
 by_cases hh1 : S.has = true
 ·rw [if_pos hh1, if_neg (by rw [hh1]; simp)]
  exact (B7F p1 hd hr (I.v hh1) J (by omega)).last.from k1
 ·have hz : S.has = false := by simpa using hh1
  rw [if_neg hh1, if_pos hz];exact (B9t p1 hd hz J (by omega)).last.from k1
def okM : Meta -> Bool
 | .val => true
 | .full => true
 | .own => true
 | _ => false
def B9d : Option Meta -> Bool
 | some .val => false
 | _ => true
theorem Holds.of {cs : List (DV × Meta)} {ds : List DV} {own : List Nat} (h1 : cs.map (·.1) = ds) (h2 : (cs.map (·.2)).all okM = true) (h3 : (own.all fun j => B9d (cs.map (·.2))[j]?) = true) : Holds cs ds own := by
 refine ⟨by rw [<- h1]; simp, fun j d hd => ?_⟩
 rw [<- h1, z20q] at hd;cases hc : cs[j]? with
 | none => rw [hc] at hd; cases hd
 | some c =>
   rw [hc] at hd;simp only [z55q, Option.some.injEq] at hd;refine ⟨c.2, by rw [<- hd], ?_, fun hj => ?_⟩
   ·have := z42q.1 h2 c.2 (List.mem_map_of_mem (List.mem_of_getElem? hc))
    cases hm : c.2 <;> rw [hm] at this <;> simp [okM] at this ⊢
   ·intro hm
    have := z42q.1 h3 j hj;rw [z20q, hc, z55q, hm] at this;cases this
def A0B (n : Int) (t : Tm) : List (DV × Meta) := ((.int .i64 n, .val)::((.bool false), .val)::((.int .i64 0), .val)::(TD (zz8 (V6 t.enc (((.list 10 []), .full)::(TD (B6w [])))))))
theorem B4f {t : Tm} (ht : t.Y0 <= 1048576) (fuel : Int) (sg : List C9) :
 ∃ sg', (run cfg).r fU [(t.enc, .val), (.int .i64 fuel, .val)] sg = some ([.int .u64 (sg.length : Nat)], sg') /\ RM { MS.new t fuel with t := t } sg.length sg' /\ ∀ k, k < sg.length -> sg'[k]? = sg[k]? := by
 obtain ⟨d, m1, m2⟩ := B1n fuel;have ft : t.fit := Tm.WU (by omega)
 rw [A2P, A4Z];simp only [Al, E5, m1, m2, I9, P5, VP, A9X t ft, K6, D8, z7q];have hb : Holds (A0B (Bt fuel : Nat) t) (Me { MS.blank (Bt fuel) KC with t := t } ([], [])) [49, 52] := by
  refine Holds.of ?_ rfl rfl;unfold A0B;simp only [Tm.F8 t];rfl
 have p0 : RM { MS.blank (Bt fuel) KC with t := t } sg.length (sg ++ [C9.box (A0B (Bt fuel : Nat) t)]) := by
  refine ⟨([], []), _, ?_, hb, fun _ => rfl⟩
  unfold E9;rw [z16q (z25q _), z43q];rfl
 have k0 : ∀ k, k < sg.length -> (sg ++ [C9.box (A0B (Bt fuel : Nat) t)])[k]? = sg[k]? := fun k hk => z13q hk
 by_cases hr : t.right = true
 ·rw [if_neg (by rw [hr]; simp)]
  refine ⟨_, rfl, ?_, k0⟩;have e : { MS.new t fuel with t := t } = { MS.blank (Bt fuel) KC with t := t } := by unfold MS.new MS.blank; rw [hr]; rfl
  rw [e];exact p0
 ·have AR : t.right = false := by simpa using hr
  rw [if_pos AR, A5P];obtain ⟨sg', e1, e2, e3⟩ := VH p0 X7;have e4 : (ob ((run cfg).r CZ [(.undef, .ptr sg.length 0), (X7.enc, .val)] (sg ++ [C9.box (A0B (Bt fuel : Nat) t)])) fun q5 => some ([DV.int .u64 (sg.length : Nat)], q5.2)) = some ([DV.int .u64 (sg.length : Nat)], sg') := by rw [e1]; rfl
  refine ⟨sg', e4, ?_, fun k hk => ?_⟩
  ·have e : { MS.new t fuel with t := t } = ({ MS.blank (Bt fuel) KC with t := t }).ends X7 := by
    unfold MS.new MS.blank MS.ends;rw [AR];rfl
   rw [e];exact e2
  ·rw [e3.rest k (by omega) (by simp; omega)]
   exact k0 k hk
end Go.Su

/-
 The two machines beside one another.
-/
namespace Go.Su
variable {S : MS} {i : Nat} {w : Nat} {o : C9} {G : List (Nat × C9)} {sg : List C9}
theorem PM.keep {o' : C9} {sg' : List C9} (h : PM S i (G ++ [(w, o)]) sg) (hG : ∀ p ∈ G, p.1 ≠ w) (k : FH w sg sg') (e : sg'[w]? = some o') : PM S i (G ++ [(w, o')]) sg' := by
 obtain ⟨cs, c, h1, h2, h3, h4⟩ := h.h;have hw : w ≠ i := (h.g (w, o) (by simp)).2
 refine ⟨⟨cs, c, ?_, h2, h3, ?_⟩, fun p hp => ?_⟩
 ·have hi := X4 h1
  unfold E9 at h1 ⊢;rw [k.rest i (Ne.symm hw) hi];exact h1
 ·rcases h4 with h4 | ⟨j, n, ds, h4⟩
  ·exact .inl h4
  ·refine .inr ⟨j, n, ds, h4.c, ?_, h4.ds, h4.ne, fun p hp => ?_⟩
   ·have hv := h4.M6
    have hj := Ru hv;unfold AX at hv ⊢;rw [k.rest j (Ne.symm (h4.g (w, o) (by simp))) hj]
    exact hv
   ·rcases z29q.1 hp with hp | hp
    ·exact h4.g p (z48q _ hp)
    ·rw [z19q.1 hp]; exact h4.g (w, o) (by simp)
 ·rcases z29q.1 hp with hp | hp
  ·obtain ⟨a, b⟩ := h.g p (z48q _ hp)
   exact ⟨by rw [k.rest _ (hG p hp) (z14q.1 a).1]; exact a, b⟩
  ·rw [z19q.1 hp]; exact ⟨e, hw⟩
theorem PK.keep {o' : C9} {sg' : List C9} (h : PK S i [(w, o)] sg) (k : FH w sg sg') (e : sg'[w]? = some o') : PK S i [(w, o')] sg' := by
 refine ⟨PM.keep (G := []) h.1 (by simp) k e, fun a b => ?_⟩
 obtain ⟨k', m, ds, cs, rd⟩ := h.2 a b;have nw : w ≠ k' := rd.ne (w, o) (by simp)
 have wi : w ≠ i := (h.1.g (w, o) (by simp)).2
 refine ⟨k', m, ds, cs, PM.keep (G := [(k', .M6 m 9 ds)]) rd.pm (by simpa using Ne.symm nw) k e, ?_, rd.c52, rd.ds, fun p hp => ?_⟩
 ·have hb := rd.box
  have hi := X4 hb;unfold E9 at hb ⊢;rw [k.rest i (Ne.symm wi) hi];exact hb
 ·rw [z19q.1 hp]; exact nw
theorem PM.more {sg' : List C9} (h : PM S i G sg) (k : ∀ j, j < sg.length -> sg'[j]? = sg[j]?) (e : sg'[sg.length]? = some o) : PM S i (G ++ [(sg.length, o)]) sg' := by
 obtain ⟨cs, c, h1, h2, h3, h4⟩ := h.h;have hi := X4 h1;refine ⟨⟨cs, c, ?_, h2, h3, ?_⟩, fun p hp => ?_⟩
 ·unfold E9 at h1 ⊢
  rw [k i hi];exact h1
 ·rcases h4 with h4 | ⟨j, n, ds, h4⟩
  ·exact .inl h4
  ·have hv := h4.M6
   have hj := Ru hv;refine .inr ⟨j, n, ds, h4.c, ?_, h4.ds, h4.ne, fun p hp => ?_⟩
   ·unfold AX at hv ⊢
    rw [k j hj];exact hv
   ·rcases z29q.1 hp with hp | hp
    ·exact h4.g p hp
    ·rw [z19q.1 hp]; simp only; omega
 ·rcases z29q.1 hp with hp | hp
  ·obtain ⟨a, b⟩ := h.g p hp
   exact ⟨by rw [k _ (z14q.1 a).1]; exact a, b⟩
  ·rw [z19q.1 hp]
   refine ⟨e, ?_⟩;simp only;omega
theorem PK.more {sg' : List C9} (h : PK S i [] sg) (k : ∀ j, j < sg.length -> sg'[j]? = sg[j]?) (e : sg'[sg.length]? = some o) : PK S i [(sg.length, o)] sg' := by
 refine ⟨PM.more h.1 k e, fun a b => ?_⟩
 obtain ⟨k', m, ds, cs, rd⟩ := h.2 a b;have lk := rd.lk;refine ⟨k', m, ds, cs, PM.more rd.pm k e, ?_, rd.c52, rd.ds, fun p hp => ?_⟩
 ·have hb := rd.box
  have hi := X4 hb;unfold E9 at hb ⊢;rw [k i hi];exact hb
 ·rw [z19q.1 hp]; simp only; omega
structure Both (S : MS) (x : Tm) (i w : Nat) (sg : List C9) : Prop where
 pk : ∃ o, PK S i [(w, o)] sg
 rm : RM { S with t := x } w sg
theorem RM.lt (h : RM S w sg) : w < sg.length := by
 obtain ⟨td, cs, b⟩ := h;exact X4 b.box
theorem RM.same {sg' : List C9} (h : RM S w sg) (e : sg'[w]? = sg[w]?) : RM S w sg' := by
 obtain ⟨td, cs, b⟩ := h;refine ⟨td, cs, ?_, b.h, b.td⟩;have := b.box;unfold E9 at this ⊢;rw [e];exact this
variable {x : Tm} {X : Option (List DV × List C9)} {r : List DV}
theorem Both.left {T : MS} (h : Both S x i w sg) (g : ∀ o, PK S i [(w, o)] sg -> Ig X r T i [(w, o)]) :
 ∃ sg', X = some (r, sg') /\ (∃ o, PK T i [(w, o)] sg') /\ RM { S with t := x } w sg' := by
 obtain ⟨o, pk⟩ := h.pk;obtain ⟨sg', e, pk'⟩ := g o pk;refine ⟨sg', e, ⟨o, pk'⟩, h.rm.same ?_⟩;rw [(pk'.1.g (w, o) (by simp)).1, (pk.1.g (w, o) (by simp)).1]
theorem Both.B6V (h : Both S x i w sg) (g : ∀ o, PK S i [(w, o)] sg -> Ig X r S i [(w, o)]) :
 ∃ sg', X = some (r, sg') /\ Both S x i w sg' := by
 obtain ⟨sg', e, pk, rm⟩ := h.left g;exact ⟨sg', e, pk, rm⟩
theorem Both.right {T : MS} (pk : ∃ o, PK S i [(w, o)] sg) (g : BI X r T w sg) :
 ∃ sg', X = some (r, sg') /\ (∃ o, PK S i [(w, o)] sg') /\ RM T w sg' := by
 obtain ⟨o, pk⟩ := pk;obtain ⟨sg', e, rm, k⟩ := g;have hl := rm.lt;exact ⟨sg', e, ⟨_, pk.keep k (z3q hl)⟩, rm⟩
theorem Both.step (h : Both S x i w sg) (R : IQ S) (hx : x = S.t \/ S.done = true) :
 ∃ Az, (run cfg).r Bn [(.undef, .ptr i 0)] sg = some ([.bool S.step.2], Az) /\ ∃ sg2, (run cfg).r Ml [(.undef, .ptr w 0)] Az = some ([.bool S.step.2], sg2) /\ ∃ y, Both S.step.1 y i w sg2 /\ (y = S.step.1.t \/ S.step.1.done = true) := by
 obtain ⟨Az, e1, pk1, rm1⟩ := h.left fun o pk => R.A1i pk
 refine ⟨Az, e1, ?_⟩
 by_cases hd : S.done = true
 ·have st : S.step = (S, false) := by unfold MS.step; rw [if_pos hd]
  have st' : MS.step { S with t := x } = ({ S with t := x }, false) := by unfold MS.step; rw [if_pos hd]
  have R' : IQ { S with t := x } := ⟨fun h => (by rw [show S.done = false from h] at hd; cases hd), R.le, R.small⟩
  have g := A6c rm1 R';rw [st'] at g;obtain ⟨sg2, e2, pk2, rm2⟩ := Both.right pk1 g;rw [st] at pk2 ⊢;exact ⟨sg2, e2, x, ⟨pk2, rm2⟩, .inr hd⟩
 ·have ex : x = S.t := hx.resolve_right hd
  subst ex;obtain ⟨sg2, e2, pk2, rm2⟩ := Both.right pk1 (A6c rm1 R);exact ⟨sg2, e2, S.step.1.t, ⟨pk2, rm2⟩, .inl rfl⟩
end Go.Su

/-
 Results held against one another; what is small.
-/
namespace Go.Su
theorem YD {X : Type} {n : Nat} {P : Int -> Option X} {y : X} (stop : P n = some y) (step : ∀ i : Nat, i < n -> P i = P ((i : Int) + 1)) : P 0 = some y := by
 have key : ∀ (k i : Nat), i + k = n -> P i = some y := by
  intro k
  induction k with
  | zero => intro i hi; rw [show i = n by omega]; exact stop
  | succ k ih =>
    intro i hi;rw [step i (by omega)]
    exact ih (i + 1) (by omega)
 exact key n 0 (by omega)
theorem eO {n : Nat} {P : Int -> Int -> Option DV} (step : ∀ (i : Nat) (a : Int), i <= n -> (∃ m : Int, P i a = some (.int .i64 m)) \/ i < n /\ ∃ b, P i a = P ((i : Int) + 1) b) : ∀ a, ∃ m : Int, P 0 a = some (.int .i64 m) := by
 have key : ∀ (k i : Nat) (a : Int), i + k = n -> ∃ m : Int, P i a = some (.int .i64 m) := by
  intro k
  induction k with
  | zero =>
    intro i a hi;rcases step i a (by omega) with h | h
    ·exact h
    ·omega
  | succ k ih =>
    intro i a hi;rcases step i a (by omega) with h | ⟨h, b, e⟩
    ·exact h
    ·rw [e]
     exact ih (i + 1) b (by omega)
 exact fun a => key n 0 a (by omega)
theorem lU (c : A9) : c.sc -> (run cfg).p Pf [c.enc, c.enc] = some (.bool true) := by
 induction c using A9.ind with
 | h c ih =>
   intro hc;have hl := hc.len;refine (uO _ _).trans ?_;rw [xx];have loop := YD (n := c.kids.length) (P := fun i => R9 (run cfg) (.list 5 (c.kids.map A9.enc)) (.list 5 (c.kids.map A9.enc)) (.int .i64 c.kids.length) (.int .i64 i) []) (y := ([.bool true], []))
    (by rw [Y7]; simp)
    (fun i h => by
      rw [Y7];simp [h, I8 h, A9.J9, A9.ag, ih _ (z1q h) (hc.mem (z1q h)), O5 (show i < 9223372036854775807 by omega)])
   simp [Au, Ay];simp [loop]
theorem A7B (c : A9) : c.sc -> (run cfg).p Ze [c.enc, c.enc] = some (.bool true) := by
 induction c using A9.ind with
 | h c ih =>
   intro hc;have hl := hc.len;refine (zP _ _).trans ?_;rw [A2r];have loop := YD (n := c.kids.length) (P := fun i => Qn (run cfg) (.int .i64 i) c.enc c.enc) (y := .bool true)
    (by rw [WP]; simp)
    (fun i h => by
      rw [WP];simp [h, I8 h, A9.J9, A9.ag, ih _ (z1q h) (hc.mem (z1q h)), O5 (show i < 9223372036854775807 by omega)])
   simp;simp [loop]
variable (v : Val)
theorem A7S : v.sv -> (run cfg).p TW [v.enc, v.enc] = some (.bool true) := by
 induction v using Val.ind with
 | h v ih =>
   intro hv;have hl := hv.len;refine (zf _ _).trans ?_;rw [A2E];have loop := YD (n := v.kids.length) (P := fun i => V5 (run cfg) (.list 9 (v.kids.map Val.enc)) (.list 9 (v.kids.map Val.enc)) (.int .i64 v.kids.length) (.int .i64 i) []) (y := ([.bool true], []))
    (by rw [Z7]; simp)
    (fun i h => by
      rw [Z7];simp [h, I8 h, Val.J9, Val.ag, ih _ (z1q h) (hv.mem (z1q h)), O5 (show i < 9223372036854775807 by omega)])
   have cs := lU v.c hv.co;rw [A9.F8] at cs;simp [BN, Bb, cs];simp [loop]
theorem A7C : v.sv -> (run cfg).p Zi [v.enc, v.enc] = some (.bool true) := by
 induction v using Val.ind with
 | h v ih =>
   intro hv;have hl := hv.len;refine (zU _ _).trans ?_;rw [A2w];have loop := YD (n := v.kids.length) (P := fun i => Qr (run cfg) (.int .i64 i) v.enc v.enc) (y := .bool true)
    (by rw [WQ]; simp)
    (fun i h => by
      rw [WQ];simp [h, I8 h, Val.J9, Val.ag, ih _ (z1q h) (hv.mem (z1q h)), O5 (show i < 9223372036854775807 by omega)])
   have cs := A7B v.c hv.co;rw [A9.F8] at cs;simp [cs];simp [loop]
theorem wK (r : Ci) (hv : r.val.sv) : (run cfg).p He [r.enc, r.enc] = some (.bool true) := by
 refine (Xu _ _).trans ?_;rw [ZB];have A : WA [.int, .int] (.agg [.int .i64 r.lo, .int .i64 r.hi]) (.agg [.int .i64 r.lo, .int .i64 r.hi]) = some true := by simp [B3k, B3o, B3p, B3n]
 have V : DV.agg (aB r.enc []) = r.val.enc := by rw [Val.F8]; rfl
 simp only [Q3, E5, V, A7C r.val hv, show A7 0 r.enc = .int .i64 r.kind from rfl, show A7 10 r.enc = .int .i64 r.label from rfl, show A7 11 r.enc = .bool r.neg from rfl, show A7 12 r.enc = .int .i64 r.lo from rfl, show A7 13 r.enc = .int .i64 r.hi from rfl, I5, I9, I6, decide_true, if_true, gP, A, beq_self_eq_true]
theorem bg (t : Ty) : t.size <= 1048576 -> ∀ n : Int, ∃ m : Int, (run cfg).p FZ [t.enc, .int .i64 n] = some (.int .i64 m) := by
 induction t using Ty.ind with
 | h t ih =>
   intro ht n;have hl : t.kids.length <= 1048576 := by have := A5Q (t.kids.map Ty.size) fun n hn => (by simp only [z54q] at hn; obtain ⟨k, -, rfl⟩ := hn; exact Ty.Db k); have := t.size_eq; rw [z2q] at *; omega
   rw [ZL, bX];simp [Bo];refine eO (n := t.kids.length) (P := fun i a => Ip (run cfg) (.int .i64 a) (.int .i64 i) t.enc) (fun i a hi => ?_) _
   rw [Vf]
   by_cases h : i < t.kids.length
   ·by_cases ha : a <= 20000
    ·obtain ⟨m, hm⟩ := ih _ (z1q h) (by have := Ty.IC (z1q h); omega) a
     refine .inr ⟨h, m, ?_⟩;simp [h, ha, I8 h, Ty.J9, Ty.ag, hm, O5 (show i < 9223372036854775807 by omega)]
    ·exact .inl ⟨a, by simp [h, ha]⟩
   ·exact .inl ⟨a, by simp [h]⟩
theorem B0s (t : Val) : t.sv -> ∀ n : Int, ∃ m : Int, (run cfg).p Nr [t.enc, .int .i64 n] = some (.int .i64 m) := by
 induction t using Val.ind with
 | h t ih =>
   intro ht n;have hl := ht.len;rw [cK, iC];simp [Bo];refine eO (n := t.kids.length) (P := fun i a => JZ (run cfg) (.int .i64 a) (.int .i64 i) t.enc) (fun i a hi => ?_) _
   rw [Xq]
   by_cases h : i < t.kids.length
   ·by_cases ha : a <= 1200
    ·obtain ⟨m, hm⟩ := ih _ (z1q h) (ht.mem (z1q h)) a
     refine .inr ⟨h, m, ?_⟩;simp [h, ha, I8 h, Val.J9, Val.ag, hm, O5 (show i < 9223372036854775807 by omega)]
    ·exact .inl ⟨a, by simp [h, ha]⟩
   ·exact .inl ⟨a, by simp [h]⟩
variable (t : Tm)
theorem A8F : t.Y0 <= 1048576 -> ∀ n : Int, ∃ m : Int, (run cfg).p Lr [t.enc, .int .i64 n] = some (.int .i64 m) := by
 induction t using Tm.ind with
 | h t ih =>
   intro ht n;have hl : t.kids.length <= 1048576 := by have := t.NU; omega
   rw [ZK, bW];simp [Bo];refine eO (n := t.kids.length) (P := fun i a => Io (run cfg) (.int .i64 a) (.int .i64 i) t.enc) (fun i a hi => ?_) _
   rw [Ve]
   by_cases h : i < t.kids.length
   ·by_cases ha : a <= 1200
    ·obtain ⟨m, hm⟩ := ih _ (z1q h) (by have := Tm.NT (z1q h); omega) a
     refine .inr ⟨h, m, ?_⟩;simp [h, ha, I8 h, Tm.J9, Tm.ag, hm, O5 (show i < 9223372036854775807 by omega)]
    ·exact .inl ⟨a, by simp [h, ha]⟩
   ·exact .inl ⟨a, by simp [h]⟩
theorem A7x : t.Y0 <= 1048576 -> ∀ n : Int, ∃ m : Int, (run cfg).p KU [t.enc, .int .i64 n] = some (.int .i64 m) := by
 induction t using Tm.ind with
 | h t ih =>
   intro ht n;have hl : t.kids.length <= 1048576 := by have := t.NU; omega
   have ha : t.a.size <= 1048576 := by have := t.A0n; omega
   have hb : t.b.size <= 1048576 := by have := t.A0o; omega
   have hs := t.YF;have hal : t.args.length <= 1048576 := by
    have := A5Q (t.args.map Ty.size) fun n hn => by
     simp only [z54q] at hn;obtain ⟨k, -, rfl⟩ := hn;exact Ty.Db k
    rw [z2q] at this;omega
   obtain ⟨m1, e1⟩ := bg t.a ha n;obtain ⟨m2, e2⟩ := bg t.b hb m1;rw [Ty.F8] at e1 e2;rw [Xv, ZC];simp [e1, e2];have last : ∀ a, ∃ m : Int, Ct (run cfg) (.int .i64 a) (.int .i64 0) t.enc = some (.int .i64 m) := by
    refine eO (n := t.kids.length) (P := fun i a => Ct (run cfg) (.int .i64 a) (.int .i64 i) t.enc) fun i a hi => ?_
    rw [Uj]
    by_cases h : i < t.kids.length
    ·by_cases ha : a <= 20000
     ·obtain ⟨m, hm⟩ := ih _ (z1q h) (by have := Tm.NT (z1q h); omega) a
      refine .inr ⟨h, m, ?_⟩;simp [h, ha, I8 h, Tm.J9, Tm.ag, hm, O5 (show i < 9223372036854775807 by omega)]
     ·exact .inl ⟨a, by simp [h, ha]⟩
    ·exact .inl ⟨a, by simp [h]⟩
   refine eO (n := t.args.length) (P := fun i a => IK (run cfg) (.int .i64 a) (.int .i64 i) t.enc) (fun i a hi => ?_) _
   rw [Ui];obtain ⟨mm, em⟩ := last a
   by_cases h : i < t.args.length
   ·by_cases ha : a <= 20000
    ·obtain ⟨m, hm⟩ := bg t.args[i] (by have := Wl (f := Ty.size) (z1q h); omega) a
     refine .inr ⟨h, m, ?_⟩;simp [h, ha, I8 h, Ty.J9, Ty.ag, hm, O5 (show i < 9223372036854775807 by omega)]
    ·exact .inl ⟨mm, by simp [h, ha, em]⟩
   ·exact .inl ⟨mm, by simp [h, em]⟩
theorem B5h (ht : t.Y0 <= 1048576) : ∃ b, (run cfg).p jX [t.enc] = some (.bool b) := by
 obtain ⟨m1, e1⟩ := A8F t ht 0;obtain ⟨m2, e2⟩ := A7x t ht 0;rw [u_, yV]
 by_cases h : m1 <= 1200
 ·exact ⟨decide (m2 <= 20000), by simp [Tm.J9, Tm.ag, e1, e2, h]⟩
 ·exact ⟨false, by simp [Tm.J9, Tm.ag, e1, e2, h]⟩
theorem B0q (hv : v.sv) : ∃ b, (run cfg).p Vr [v.enc] = some (.bool b) := by
 obtain ⟨m1, e1⟩ := B0s v hv 0;rw [b_, iA];exact ⟨decide (m1 <= 1200), by simp [Val.J9, Val.ag, e1]⟩
theorem B0r {t : Tm} (ht : t.Y0 <= 1048576) {fuel : Int} (hf : fuel <= 300) : ∃ b, (run cfg).p Vs [t.enc, .int .i64 fuel] = some (.bool b) := by
 obtain ⟨b, eb⟩ := B5h t ht;rw [cB, iB];simp only [Al, E5, VP, eb, I9, K6, D8];cases b with
 | false => exact ⟨false, rfl⟩
 | true =>
   rw [if_neg (by simp)]
   obtain ⟨Az, e1, rm, -⟩ := B4f ht fuel [];rw [e1];simp only [I9];rw [show PL (([DV.int .u64 (([] : List C9).length : Nat)] : List DV).getD 0 .undef) = some 0 from rfl]
   simp only [I9];have loop : ∀ (n : Nat) (S : MS) (sg : List C9), IQ S -> R7 S -> S.fuel < S.steps + n -> RM S 0 sg -> ∃ b, GH (run cfg) 0 sg = some (.bool b) := by
    intro n
    induction n with
    | zero => intro S sg R _ h; have := R.le; omega
    | succ n ih =>
      intro S sg R I hn h;obtain ⟨sg2, g1, g2, -⟩ := A6c h R;obtain ⟨r1, r2, r3⟩ := R.step;have I2 := I.step R.good;rw [Xp, g1];simp only [I9];rw [show (([DV.bool S.step.2] : List DV).getD 0 .undef) = .bool S.step.2 from rfl]
      simp only [D8]
      by_cases hg : S.step.2 = true
      ·rw [if_pos hg]
       obtain ⟨a, b, c⟩ := r2 hg;obtain ⟨b', e'⟩ := ih _ sg2 r1 I2 (by omega) g2
       obtain ⟨td, cs, rb⟩ := g2;simp only [rb.box, I9, rb.h.cd (j := 17) (d := .bool S.step.1.has) rfl, I6]
       by_cases hh : S.step.1.has = true
       ·rw [if_pos hh, rb.h.oV 9 39 (Ad S.step.1.v) rfl (fun j hj => by
         match j, hj with
         | 0, _ => rfl
         | 1, _ => rfl
         | 2, _ => rfl
         | 3, _ => rfl
         | 4, _ => rfl
         | 5, _ => rfl
         | 6, _ => rfl
         | 7, _ => rfl
         | 8, _ => rfl)]
        obtain ⟨q, hq⟩ := B0q S.step.1.v (I2.v hh);simp only [I9, show DV.agg (Ad S.step.1.v) = S.step.1.v.enc from (Val.F8 _).symm, hq, K6, D8]
        cases q with
        | false => exact ⟨false, rfl⟩
        | true => rw [if_neg (by simp)]; exact ⟨b', e'⟩
       ·rw [if_neg hh]; exact ⟨b', e'⟩
      ·rw [if_neg hg]; exact ⟨true, rfl⟩
   have R0 := IQ.new ht hf;have h0 : (MS.new t fuel).steps = 0 := rfl;have f0 := R0.small
   by_cases hr : t.right = true
   ·have e : { MS.new t fuel with t := t } = MS.new t fuel := by unfold MS.new; simp only [hr, if_true]
    rw [e] at rm;exact loop 301 _ _ R0 (R7.new t fuel) (by omega) rm
   ·have AR : t.right = false := by simpa using hr
    have hd : (MS.new t fuel).done = true := by unfold MS.new; rw [AR]; rfl
    exact loop 301 { MS.new t fuel with t := t } _ ⟨fun h => (by rw [show (MS.new t fuel).done = false from h] at hd; cases hd), R0.le, R0.small⟩ ⟨(R7.new t fuel).v, (R7.new t fuel).r⟩ (by show (MS.new t fuel).fuel < (MS.new t fuel).steps + 301; omega) rm
end Go.Su

/-
 The two machines show the same.
-/
namespace Go.Su
theorem C1F (S : MS) (td : List Val × List Val) : ∀ j, j < 9 -> (Me S td)[39 + j]? = (Ad S.v)[j]?
 | 0, _ => rfl
 | 1, _ => rfl
 | 2, _ => rfl
 | 3, _ => rfl
 | 4, _ => rfl
 | 5, _ => rfl
 | 6, _ => rfl
 | 7, _ => rfl
 | 8, _ => rfl
theorem B9v (S : MS) (td : List Val × List Val) : ∀ j, j < 15 -> (Me S td)[2 + j]? = (GM S.Ws)[j]?
 | 0, _ => rfl
 | 1, _ => rfl
 | 2, _ => rfl
 | 3, _ => rfl
 | 4, _ => rfl
 | 5, _ => rfl
 | 6, _ => rfl
 | 7, _ => rfl
 | 8, _ => rfl
 | 9, _ => rfl
 | 10, _ => rfl
 | 11, _ => rfl
 | 12, _ => rfl
 | 13, _ => rfl
 | 14, _ => rfl
theorem A5C {S : MS} (hd : S.done = true) : S.shown = S.res.at S.steps /\ S.Ws = S.res.at S.steps := by
 unfold MS.shown MS.Ws;rw [if_pos hd, if_pos hd];exact ⟨rfl, rfl⟩
section
variable {S : MS} {x : Tm} {i w : Nat} {sg : List C9}
theorem B9W (h : Both S x i w sg) (I : R7 S) : Jh (run cfg) w (.bool S.kY) (.bool S.kY) (if S.kY = true then S.v else R5).enc sg = some ([.bool true], sg) := by
 obtain ⟨td, cs, rb⟩ := h.rm;have sg9 := rb.h.oV 9 39 (Ad S.v) rfl (C1F { S with t := x } td)
 rw [gY];simp only [gP, I9, I6, K6, if_true, beq_self_eq_true]
 by_cases hv : S.kY = true
 ·have hh : S.has = true := by
   unfold MS.kY at hv;simp only [Bool.and_eq_true] at hv;exact hv.2
  simp only [hv, if_true, z6q, z0q, if_false, rb.box, I9, sg9, Bw, Ao, A7S S.v (I.v hh)]
 ·have YA : S.kY = false := by simpa using hv
  simp only [YA, z0q, if_false, z23q, if_true, Val.K8, show R5.kind = 0 from rfl, I5, decide_true, I9, I6]
theorem B9V (h : Both S x i w sg) (I : R7 S) (l : List A9) (hl : l.length <= 100000) (hs : ∀ c ∈ l, c.sc) :
 Ik (run cfg) i w (.list 5 (l.map A9.enc)) (.list 5 (l.map A9.enc)) (.int .i64 0) sg = some ([.bool true], sg) := by
 refine YD (n := l.length) (P := fun q => Ik (run cfg) i w (.list 5 (l.map A9.enc)) (.list 5 (l.map A9.enc)) (.int .i64 q) sg) ?_ fun q hq => ?_
 ·obtain ⟨o, pk⟩ := h.pk
  obtain ⟨td, cs, rb⟩ := h.rm;have fin := B9W h I;have pv := B5V pk.1;rw [RN];simp only [M7, z2q, z8q, I9, L9, D8, decide_eq_true_eq];rw [if_neg (by omega), pv]
  simp only [I9, Q9, R4, I1, E5, rb.box, rb.h.cd (j := 17) (d := .bool S.has) rfl, rb.h.cd (j := 1) (d := .bool S.done) rfl, rb.h.cd (j := 50) (d := .bool S.reads) rfl, I6, K6, Ao];have e : S.kY = (!S.done && !S.reads && S.has) := rfl;cases h1 : S.has <;> cases h2 : S.done <;> cases h3 : S.reads <;> simp only [h1, h2, h3, z6q, z23q, z51q, Bool.and_false, Bool.and_true, Bool.false_and, z47q] at e <;> rw [e] at fin <;> simp only [z6q, z23q, if_true, z0q, if_false, e] at fin ⊢ <;> exact fin
 ·rw [RN]
  simp only [M7, z2q, z8q, I9, L9, D8, decide_eq_true_eq];rw [if_pos (by omega), I8 hq]
  simp only [I9, aJ, lU _ (hs _ (z1q hq)), K6, D8, z6q, z0q, if_false, Bo];rw [BS (by omega) (by omega)]
theorem B1d (R : IQ S) : (X0 S).length <= 301 := by
 unfold X0
 split
 ·simp
 ·have := (R.good (by simpa using ‹¬ S.done = true›)).fl
  have := R.le;have := R.small;omega
theorem A6F (l : List CL) : (Fg l).length <= l.length := by
 unfold Fg;rw [z2q];exact z46q _ _
theorem B8L (R : IQ S) : ∀ c ∈ Fg (X0 S).reverse, c.sc := by
 intro c hc;unfold Fg at hc;simp only [z54q, List.mem_filter, List.mem_reverse, decide_eq_true_eq] at hc;obtain ⟨f, ⟨hf, k⟩, rfl⟩ := hc;unfold X0 at hf
 split at hf
 ·cases hf
 ·have fo := (R.good (by simpa using ‹¬ S.done = true›)).fr f hf
  rcases fo.2 with h | h | h | h | h | h | h | h
  all_goals first | exact A9.A9x _ h.2.1 | omega
theorem B9U (h : Both S x i w sg) (R : IQ S) (I : R7 S) :
 ∃ sg', Gs (run cfg) i w (M8 ((X0 S).reverse.map (·.kind))) (.list 5 ((Fg (X0 S).reverse).map A9.enc)) sg = some ([.bool true], sg') /\ Both S x i w sg' := by
 have fl := B1d R;have cl := A6F (X0 S).reverse;rw [z8q] at cl;obtain ⟨Az, e1, h1⟩ := h.B6V fun o pk => B5P pk (by omega)
 obtain ⟨sg2, e2, h2⟩ := h1.B6V fun o pk => B33 pk (by omega)
 refine ⟨sg2, ?_, h2⟩;rw [gX, e1];simp only [I9];rw [e2];simp only [I9, z27q, A9N _ _ (show ((X0 S).reverse.map (·.kind)).length <= lim by rw [z2q, z8q]; unfold lim; omega), decide_true, K6, I6, z6q, z0q, if_false, M7, z2q, z8q, J7, D8, ne_eq, not_true]
 exact B9V h2 I _ (by omega) (B8L R)
theorem C0L (h : Both S x i w sg) (R : IQ S) : Gt (run cfg) i w (.list 1 []) (.list 5 []) (.int .i64 0) sg = Gs (run cfg) i w (M8 ((X0 S).reverse.map (·.kind))) (.list 5 ((Fg (X0 S).reverse).map A9.enc)) sg := by
 obtain ⟨td, cs, rb⟩ := h.rm;have fl := B1d R;have c48 := rb.h.cd (j := 48) (d := .list 36 (S.frames.reverse.map U5)) rfl;have c1 := rb.h.cd (j := 1) (d := .bool S.done) rfl
 by_cases hd : S.done = true
 ·have e : X0 S = [] := by unfold X0; rw [if_pos hd]
  rw [e, MQ];simp only [rb.box, I9, c48, c1, M7, z2q, z8q, L9, I6, hd, K6, D8, z6q, z0q, if_false, ite_self];rfl
 ·have Dq : S.done = false := by simpa using hd
  have e : X0 S = S.frames := by unfold X0; rw [if_neg hd]
  rw [e] at fl ⊢;have loop : ∀ (r : Nat) (q : Nat) (l : List Int) (m : List A9), q + r = S.frames.length -> l = (S.frames.reverse.take q).map (·.kind) -> m = Fg (S.frames.reverse.take q) ->
   Gt (run cfg) i w (M8 l) (.list 5 (m.map A9.enc)) (.int .i64 q) sg = Gs (run cfg) i w (M8 (S.frames.reverse.map (·.kind))) (.list 5 ((Fg S.frames.reverse).map A9.enc)) sg := by
   intro r
   induction r with
   | zero =>
     intro q l m hq hl hm;rw [MQ];simp only [rb.box, I9, c48, M7, z2q, z8q, L9, I6, decide_eq_true_eq];rw [if_neg (by omega), hl, hm, z15q (by rw [z8q]; omega)]
   | succ r ih =>
     intro q l m hq hl hm;have L8 : q < S.frames.reverse.length := by rw [z8q]; omega
     have ll : l.length = q := by rw [hl, z2q, z41q]; omega
     have ml : m.length <= q := by
      rw [hm];refine z45q (A6F _) ?_;rw [z41q]; omega
     have fr0 : ∀ f : CL, A7 0 (U5 f) = .int .i64 f.kind := fun f => rfl
     have fc : ∀ f : CL, DV.agg (A0v (U5 f) []) = f.c.enc := fun f => by rw [A9.F8]; rfl
     have tk : Fg (S.frames.reverse.take (q + 1)) = Fg (S.frames.reverse.take q) ++ (if S.frames.reverse[q].kind = 12 then [S.frames.reverse[q].c] else []) := by
      rw [z11q L8];unfold Fg;rw [z49q, z32q]
      by_cases k : S.frames.reverse[q].kind = 12
      ·rw [if_pos k]; simp only [z30q, k, decide_true, if_true, z33q, z52q, z40q]
      ·rw [if_neg k]; simp only [z30q, k, decide_false, z0q, if_false, z33q, z40q]
     rw [MQ];simp only [rb.box, I9, c48, M7, z2q, z8q, L9, I6, decide_eq_true_eq];rw [if_pos (by omega), c1]
     simp only [Dq, I9, K6, D8, z23q, if_true];rw [I8 L8];simp only [I9, fr0, P5, E5, fc];rw [show AQ 1 (M8 l) (DV.list 1 [.int .i64 S.frames.reverse[q].kind]) = some (M8 (l ++ [S.frames.reverse[q].kind])) from Ee (e := fun n => .int .i64 n) (by unfold lim; omega)]
     simp only [I9, I5, D8, decide_eq_true_eq];have nx : A8 .add (.int .i64 (q : Int)) (.int .i64 1) = some (.int .i64 ((q + 1 : Nat) : Int)) := by
      rw [Bo, BS (by omega) (by omega)]
      rfl
     have el : l ++ [S.frames.reverse[q].kind] = (S.frames.reverse.take (q + 1)).map (·.kind) := by rw [hl, z11q L8, z32q]; rfl
     by_cases k : S.frames.reverse[q].kind = 12
     ·rw [if_pos k, Ee (by unfold lim; omega)]
      simp only [I9, nx];exact ih (q + 1) _ (m ++ [S.frames.reverse[q].c]) (by omega) el (by rw [tk, hm, if_pos k])
     ·rw [if_neg k]
      simp only [nx, I9];exact ih (q + 1) _ m (by omega) el (by rw [tk, hm, if_neg k, List.append_nil])
  exact loop S.frames.length 0 [] [] (by omega) (by simp) (by simp [Fg])
theorem B6e (h : Both S x i w sg) (R : IQ S) (I : R7 S) :
 ∃ sg', (run cfg).r jQ [(.undef, .ptr i 0), (.undef, .ptr w 0)] sg = some ([.bool true], sg') /\ Both S x i w sg' := by
 obtain ⟨sg', e, h'⟩ := B9U h R I;refine ⟨sg', ?_, h'⟩;rw [uW, yE];obtain ⟨o, pk⟩ := h.pk;obtain ⟨td, cs, rb⟩ := h.rm;have p4 : Qa (run cfg) i w sg = some ([.bool true], sg') := by rw [l_, C0L h R, e]
 rw [A0t pk.1];simp only [I9, Q9, R4, Q3, E5, rb.box, rb.h.cd (j := 1) (d := .bool S.done) rfl, gP, beq_self_eq_true, z6q, I6, z0q, if_false]
 by_cases hd : S.done = true
 ·obtain ⟨e1, e2⟩ := A5C hd
  have es := rb.h.oV 15 2 (GM (MS.Ws { S with t := x })) rfl (B9v { S with t := x } td)
  rw [show MS.Ws { S with t := x } = S.Ws from rfl, e2] at es
  have c16 := rb.h.cd (j := 16) (d := .int .i64 S.steps) rfl;have Vn : A8 .neq (A7 14 (S.res.at S.steps).enc) (.int .i64 S.steps) = some (.bool false) := by rw [show A7 14 (S.res.at S.steps).enc = .int .i64 S.steps from rfl, J7]; simp
  have same := wK (S.res.at S.steps) I.r;rw [if_pos hd];simp only [e1, c16, Vn, I9, J7, ne_eq, not_true, decide_false, I6, z0q, if_false, es, aC, A6a, same, K6, z6q, D8, decide_true];exact p4
 ·rw [if_neg hd]
  exact p4
end
end Go.Su

/-
 What the closed call of l24_wakes gives: by rewriting.
-/
namespace Go.Su
attribute [local congr] C0t C0u C0x B9g B9f B82
set_option maxHeartbeats 40000000 in
set_option maxRecDepth 100000 in
theorem B03 : (run cfg).p jR [] = some (.bool true) := by
 simp (maxSteps := 2000000) (implicitDefEqProofs := false) [C0v, uH, nU, Vd, Un, UW, Sc, UO, Ov, Ow, SS, sW, m_, gZ, Y_, Xo, bu, SL, Hu, GZ, QH, UX, Sd, yT, mW, uy, mU, iT, bO, mP, Ye, UV, EZ, Oz, O_, Sb, SH, NE, NF, QE, tX, g_, h_, bU, nM, Ht, UL, RJ, RL, Fz, yV, u_, iA, b_, t_, nP, UQ, SV, sV, RP, PO, mr, yP, uq, MU, Eg, LG, x_, UG, uR, Pv, GY, PE, xx, uO, SG, QD, A2E, zf, UU, Py, Ox, Pz, Oy, Sa, A4X, tC, WK, A2N, yI, uf, yG, uY, A2b, yz, A4V, YV, YW, A2L, A2C, WT, za, mF, ZA, NG, iO, yA, UH, uS, A2j, WL, zH, A2g, zD, iE, cO, uB, nR, uG, nT, uA, Rb, Rc, PT, nQ, yl, vH, uM, nY, yf, Uk, vG, gT, NC, bq, A2B, zZ, sP, mh, xz, gW, uQ, uI, bY, PU, nV, xy, uP, sZ, nA, A2D, zb, A2x, tZ, WS, zV, A2z, zX, yN, mK, mM, mO, gp, gq, RX, uk, A2u, zS, tH, nD, tq, nO, yS, uw, A6Q, A49, yX, vB, mH, PQ, iQ, A2k, zI, A2l, zJ, A2p, zN, A2e, WG, zB, A6P, A48, A6O, bN, A47, tK, RY, nG, mG, PP, iP, su, RQ, RS, nC, A2c, y_, sS, gU, gV, bF, bG, mo, sU, mq, lw, Bj, Ke, iN, tJ, nE, mI, PR, iR, A6N, bM, A46, A2H, zi, uN, nZ, mZ, ZE, iV, ma, PV, iW, sQ, mi, lu, iL, lv, iM, lh, bD, PN, iJ, A4T, A2K, lq, iK, tO, bP, Ra, bR, bQ, nJ, yQ, Ug, gy, gz, Uf, ut, A2w, WQ, zU, B15, B0t, B0p, A8G, A4Y, YY, WN, WO, A2O, bH, Yc, MP, ND, Kh, bW, Ve, ZK, ZC, Ui, Uj, Xv, iC, Xq, cK, uF, Re, nS, Yz, Kg, Xt, bJ, Ll, ZG, Ay, Y7, Au, Bb, Z7, BN, A40, yg, yh, uL, mf, mg, A2Q, SN, QI, bL, mE, Yd, SI, QF, SK, QG, UT, SY, UR, SX, bK, ZH, A2m, mJ, zK, A2n, tF, WM, Ud, zL, yH, UY, uZ, gm, NH, bz, A2a, WF, yx, A4W, YX, A2M, yC, UJ, uU, A2f, WH, zC, bX, Vf, ZL, A2A, uC, uD, uE, mX, mY, zY, A2G, zh, uK, iF, nX, yZ, vD, lZ, iH, bI, Xn, UM, Va, Vb, ZF, yD, UK, uV, iB, Xp, cB, A18, yu, A4Z, A2P, yE, l_, MQ, gX, RN, gY, uW, UN, SQ, tL, nH, A19, mD, yw, Px, PG, ZB, Xu, A8B, A5W, A7y, yM, Uc, uj, Vh, P_, QA, QB, Uo, A2s, zQ, yO, um, yU, iD, uz, A2t, Fq, OT, zR, A2i, sw, WJ, UZ, zG, yK, Ub, uh, yJ, Ua, ug, yF, uX, yB, UI, uT, A2h, Qu, WI, zF, ym, Ul, vI, yY, vC, bZ, Vg, SF, Jr, MO, Xr, ZM, A2F, zg, yc, vF, uJ, nW, tY, nN, qF, YZ, Ya, Yb, tu, jk, mV, iU, tQ, Ue, gu, bS, nK, A2y, zW, A2q, zO, tN, RZ, nI, yR, mQ, mR, Uh, uu, bV, ZJ, bT, ZI, tV, nL, yL, RU, ui, A2v, tT, zT, A2o, zM, A2r, WP, zP, A2d, zA, Pn, Ot,
  B5k, flatK, B19, A3c, B5W, B2p, B64, B6A, B3O, B3P, C0T, C0U, C0V, C0W, C0X, C0Y, C0Z, C00, C01, C02, B92, B93, B94, B95, B96, B97, C03, C04, C05, C06, C07, C08, C09, C1a, B85, B84, B87, B86, Mx, Bo, B42, Fy, BS, lim, B8y, B8w, B44, B3w, B9Y, B9Z, isKey, B3k, B3p, B3Y, B9B, B9z, B9A, B9y, B2E, A3T, A6d, pack, B6n, B8c, B8b, B8d, B8e, B8f, B4C, B4E, B4D, B4F, B4G, B8h, B9P, B4I, B4J, B0b, B0c, B4x, B4A, B4y, B4z, B9O, B9N, B9L, B9M, B74, B73, B4H, B4K, B7X, B7W, B71, B7Y, B7Z, B70, B76, B75, B8a, B77, B78, B79, B72, B9K, B2W, B4B, B6o, B6p, B6q, B6r, B8g, putAt, J6, B3o, B3n, B8x, B67, -D5, -D8, -I6, ↓D5, ↓B5I, ↓E5, ↓B3X, ↓B6O, ↓B6N, ↓B6M, ↓B6L, D5, B6O, B6N, B6M, B6L]
end Go.Su

/-
 The law MachExact answers true on data.
-/
namespace Go.Su
theorem B0o (n : Int) : A8 .rem (.int .i64 n) (.int .i64 300) = some (.int .i64 (n.tmod 300)) := rfl
theorem B99 {S : MS} {x t : Tm} {i w : Nat} {sg : List C9} {fuel : Int} (h : Both S x i w sg) (I : R7 S) (hd : S.done = true) (ht : t.Y0 <= 1048576) (hf : fuel <= 300) (hF : MS.fin 301 (MS.new t fuel) = S) :
 Ij (run cfg) (.int .i64 fuel) i w t.enc sg = some (.bool true) := by
 obtain ⟨o, pk⟩ := h.pk;obtain ⟨td, cs, rb⟩ := h.rm;obtain ⟨e1, e2⟩ := A5C hd;have es := rb.h.oV 15 2 (GM (MS.Ws { S with t := x })) rfl (B9v { S with t := x } td)
 rw [show MS.Ws { S with t := x } = S.Ws from rfl, e2] at es
 have c16 := rb.h.cd (j := 16) (d := .int .i64 S.steps) rfl;have Vn : A8 .eql (A7 14 (S.res.at S.steps).enc) (.int .i64 S.steps) = some (.bool true) := by rw [show A7 14 (S.res.at S.steps).enc = .int .i64 S.steps from rfl, I5]; simp
 have p15 : A8 .eql (A7 14 (S.res.at S.steps).enc) (A7 14 (S.res.at S.steps).enc) = some (.bool true) := by rw [show A7 14 (S.res.at S.steps).enc = .int .i64 S.steps from rfl, I5]; simp
 have same := wK (S.res.at S.steps) I.r;rw [Va];simp only [VP, B0I ht hf, hF, I9, Q3, E5];rw [A0t pk.1];simp only [I9, Q9, R4, Q3, E5, hd];rw [Vb];simp only [e1, I6, if_true, Vn, p15, I9, decide_true, A6a, same, rb.box, es, aC, c16, B03]
theorem B3R (t : Tm) (fuel : Int) (ht : t.Y0 <= 1048576) : (run cfg).p fP [t.enc, .int .i64 fuel] = some (.bool true) := by
 refine (ZF _ _).trans ?_;have ft : t.fit := Tm.WU (by omega)
 obtain ⟨b, hb⟩ := A7I t ft (Tm.B2K (by omega))
 have core : ∀ f : Int, f <= 300 -> JW (run cfg) (.int .i64 f) t.enc = some (.bool true) := by
  intro f hf;obtain ⟨c, hc⟩ := B0r ht hf;rw [Xn];simp only [VP, hc, I9, K6, D8];cases c with
  | false => rfl
  | true =>
    rw [if_neg (by simp)]
    obtain ⟨Az, e1, pk1⟩ := B34 ht f [] [] (by simp)
    obtain ⟨sg2, e2, rm2, k2⟩ := B4f ht f Az;rw [e1];simp only [I9];rw [show PL (([DV.int .u64 (([] : List C9).length : Nat)] : List DV).getD 0 .undef) = some 0 from rfl]
    simp only [I9];rw [e2];simp only [I9];rw [show PL (([DV.int .u64 (Az.length : Nat)] : List DV).getD 0 .undef) = some Az.length by simp [PL]]
    simp only [I9];have l2 := rm2.lt;have both : Both (MS.new t f) t 0 Az.length sg2 := ⟨⟨_, pk1.more k2 (z3q l2)⟩, rm2⟩;have loop : ∀ (n : Nat) (S : MS) (x : Tm) (sg : List C9), IQ S -> R7 S -> Both S x 0 Az.length sg -> (x = S.t \/ S.done = true) -> S.fuel < S.steps + n -> MS.fin n S = MS.fin 301 (MS.new t f) ->
     II (run cfg) (.int .i64 f) 0 Az.length (.int .i64 S.steps) t.enc sg = some (.bool true) := by
     intro n
     induction n with
     | zero => intro S x sg R I h hx hn hF; have := R.le; omega
     | succ n ih =>
       intro S x sg R I h hx hn hF;have J3 := R.le;have hsm := R.small;obtain ⟨sg3, e3, h3⟩ := B6e h R I;obtain ⟨sg4, e4, sg5, e5, y, h5, hy⟩ := h3.step R hx;obtain ⟨r1, r2, r3⟩ := R.step;have I2 := I.step R.good;rw [UM];simp only [Kc, I9, D8, decide_eq_true_eq];rw [if_pos (by omega), e3]
       simp only [I9, z27q, K6, z6q, D8, z0q, if_false];rw [e4];simp only [I9];rw [e5];simp only [I9, z27q, gP, beq_self_eq_true, z6q, D8, z0q, if_false, K6];rw [MS.fin] at hF
       by_cases hg : S.step.2 = true
       ·obtain ⟨a, b, c⟩ := r2 hg
        rw [hg, if_neg (by simp), Bo, BS (by omega) (by omega)]
        simp only [I9];rw [show ((S.steps : Int) + 1) = (S.step.1.steps : Int) by rw [a]; rfl]
        refine ih _ y sg5 r1 I2 h5 hy (by omega) ?_
        rw [if_pos hg] at hF;exact hF
       ·have hg' : S.step.2 = false := by simpa using hg
        rw [hg', if_pos (by simp)]
        rw [if_neg hg] at hF;exact B99 h5 I2 (r3 hg') ht hf hF.symm
    have R0 := IQ.new ht hf;have f0 := R0.small;have s0 : (MS.new t f).steps = 0 := rfl;have hx : t = (MS.new t f).t \/ (MS.new t f).done = true := by
     by_cases hr : t.right = true
     ·left; unfold MS.new; simp only [hr, if_true]
     ·right; unfold MS.new; simp only [hr]; rfl
    exact loop 301 _ t sg2 R0 (R7.new t f) both hx (by omega) rfl
 rw [bI];simp only [Al, E5, VP, hb, I9, D8];cases b with
 | true => rfl
 | false =>
   rw [if_neg (by simp)]
   simp only [BZ, I9, D8, decide_eq_true_eq]
   by_cases h : 300 < fuel
   ·rw [if_pos h, B0o]
    simp only [I9];exact core _ (by have := Int.tmod_lt_of_pos fuel (show (0 : Int) < 300 by omega); omega)
   ·rw [if_neg h]
    exact core _ (by omega)
end Go.Su
