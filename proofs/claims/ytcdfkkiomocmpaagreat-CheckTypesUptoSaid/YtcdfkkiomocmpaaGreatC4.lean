/-
  Parts of the proof, merged: SuM2, SuM3, SuM4, SuM5, SuRd2, SuFix, SuKeys, SuClone, SuMp, SuM6, SuM7, SuM8, SuM9, SuM10, SuM11, SuM12, SuX1, SuX2, SuX3, SuE1, SuE2, SuC1, SuT1, SuT2, SuC2, SuE3, SuE4, SuE5, SuE6, SuE7, SuE8, SuT3, SuT4, Cfg, It, K0, J0.
-/
import Derived.ChangeShapes
import Derived.Handy
import Derived.KernelRfl
import Derived.Lib.SliceRun
import Derived.LoopNIn
import Derived.Maps.RangeRun
import Derived.OwnWalkIn
import Derived.RangeFuncBound
import Derived.RangeFuncKeeps
import Derived.RangeFuncLeaves
import Derived.Shelf.Abstract
import Derived.Shelf.Sort.Plain
import Derived.Sort.KeysCollected
import Derived.Sort.OwnSorted
import Derived.TacticsInMore
import Derived.Test.YtcdfkkiomocmpaaGreatProg
import Derived.Test.YtcdfkkiomocmpaaGreatRows
import Derived.WalkKit
import Derived.Test.YtcdfkkiomocmpaaGreatC3
set_option linter.unusedVariables false
set_option linter.unusedSimpArgs false
/-
 NAMES and PATTERNS: what is said of them.
-/
namespace Go.Su
def bts (s : ByteArray) : List Int := s.data.toList.map fun b => (b.toNat : Int)
theorem bts_len (s : ByteArray) : (bts s).length = s.size := by simp [bts]
theorem dStr_idx {s : ByteArray} {k : IntKind} {i : Nat} (h : i < (bts s).length) : dStrIdx (.str s) (.int k (i : Int)) = some (.int .u8 (bts s)[i]) := by
 have h' : i < s.data.size := by simpa [bts] using h
 have e : s.data[i]? = some s.data[i] := Array.getElem?_eq_getElem h'
 simp only [dStrIdx, Int.natCast_nonneg, if_true, Int.toNat_natCast, e, Option.map_some, bts, List.getElem_map, Array.getElem_toList]
def lowerB (c : Int) : Bool := decide (97 ≤ c) && decide (c ≤ 122)
def digitB (c : Int) : Bool := decide (48 ≤ c) && decide (c ≤ 57)
def partB (c : Int) : Bool := lowerB c || digitB c || (decide (65 ≤ c) && decide (c ≤ 90)) || decide (c = 95) || decide (c = 39)
def keyL : List (List UInt8) := [[108, 101, 116], [114, 101, 99], [105, 110], [102, 117, 110], [105, 102], [116, 104, 101, 110], [101, 108, 115, 101], [109, 97, 116, 99, 104], [119, 105, 116, 104], [101, 110, 100], [116, 114, 117, 101],
 [102, 97, 108, 115, 101], [105, 110, 116], [98, 111, 111, 108], [115, 116, 114, 105, 110, 103], [117, 110, 105, 116], [108, 105, 115, 116]]
def keyB (s : ByteArray) : Bool := decide (s.data.toList ∈ keyL)
def nameB (s : ByteArray) : Bool :=
 decide (1 ≤ s.size) && decide (s.size ≤ 32) && lowerB ((bts s).getD 0 0) && (bts s).all partB && !keyB s
def wordsL : List UInt8 := [32, 108, 101, 116, 32, 114, 101, 99, 32, 105, 110, 32, 102, 117, 110, 32, 105, 102, 32, 116, 104, 101, 110, 32, 101, 108, 115, 101, 32, 109, 97, 116, 99, 104, 32, 119, 105, 116, 104, 32, 101, 110, 100, 32, 116, 114, 117, 101, 32, 102, 97, 108, 115, 101, 32, 105, 110, 116, 32, 98, 111, 111, 108, 32, 115, 116, 114, 105, 110, 103, 32, 117, 110, 105, 116, 32, 108, 105, 115, 116, 32]
def low8 (c : UInt8) : Bool := decide (97 ≤ c) && decide (c ≤ 122)
theorem words_scan : (List.range 81).all (fun j => (List.range 80).all fun n =>
 !(decide (j + n + 2 ≤ 81) && ((wordsL.drop j).take 1 == [32]) && ((wordsL.drop (j + n + 1)).take 1 == [32]) && ((wordsL.drop (j + 1)).take n).all low8 && decide (0 < n)) || decide ((wordsL.drop (j + 1)).take n ∈ keyL)) = true := by
 decide +kernel
theorem keys_scan : keyL.all (fun x => decide (0 < x.length) && x.all low8 && (List.range 81).any fun j => decide (j + (x.length + 2) ≤ 81) && (wordsL.drop j).take (x.length + 2) == 32 :: x ++ [32]) = true := by
 decide +kernel
theorem words_len : wordsL.length = 81 := rfl
theorem words_key (x : List UInt8) : (x.all low8 = true ∧ 0 < x.length ∧ ∃ j : Nat, j + (x.length + 2) ≤ 81 ∧ (wordsL.drop j).take (x.length + 2) = 32 :: x ++ [32]) ↔ x ∈ keyL := by
 constructor
 ·rintro ⟨h1, h2, j, h3, h4⟩
  have h5 := List.all_eq_true.1 (List.all_eq_true.1 words_scan j (by simp; omega)) x.length (by simp; omega)
  have e : (wordsL.drop (j + 1)).take x.length = x := by
   have := congrArg (fun l => (l.drop 1).take x.length) h4
   simp only [List.drop_take, List.drop_drop] at this
   simpa [List.take_take] using this
  have e1 : (wordsL.drop j).take 1 = [32] := by
   have := congrArg (fun l => l.take 1) h4
   simpa [List.take_take] using this
  have e2 : (wordsL.drop (j + x.length + 1)).take 1 = [32] := by
   have := congrArg (fun l => (l.drop (x.length + 1)).take 1) h4
   simp only [List.drop_take, List.drop_drop] at this
   simpa [List.take_take, Nat.add_assoc, Nat.add_sub_cancel_left, show x.length + 2 - (x.length + 1) = 1 by omega] using this
  rw [e, e1, e2] at h5
  simpa [h1, h2, show j + x.length + 2 ≤ 81 by omega] using h5
 ·intro h
  have h5 := List.all_eq_true.1 keys_scan x h
  simp only [Bool.and_eq_true, decide_eq_true_eq, List.any_eq_true, beq_iff_eq, List.mem_range] at h5
  obtain ⟨⟨h1, h2⟩, j, h3, h4, h6⟩ := h5
  exact ⟨h2, h1, j, h4, h6⟩
theorem keyEq_str (a b : ByteArray) : keyEq (.str a) (.str b) = decide (a = b) := by
 simp only [keyEq]; exact bytes_dec a b
theorem keyEq_int (k k' : IntKind) (a b : Int) : keyEq (.int k a) (.int k' b) = decide (a = b) := by
 simp only [keyEq]; rfl
theorem keyEq_strD {a : ByteArray} {d : DV} (h : keyEq (.str a) d = true) : d = .str a := by
 cases d <;> simp only [keyEq] at h <;> try cases h
 rename_i s
 have := bytes_ext (a := a) (b := s) (by simpa using h)
 rw [this]
theorem mGet_set (es : List (DV × DV)) (a b : ByteArray) (v : DV) : mGet (mSet es (.str a) v) (.str b) = if a = b then some v else mGet es (.str b) := by
 induction es with
 | nil => by_cases h : a = b <;> simp [mSet, mGet, keyEq_str, h, eq_comm]
 | cons e es ih =>
   unfold mSet
   by_cases h1 : keyEq (.str a) e.1 = true
   ·rw [if_pos h1]
    have := keyEq_strD h1
    simp only [mGet, List.find?_cons, this, keyEq_str]
    by_cases h : a = b
    ·subst h; simp
    ·have : ¬ b = a := fun h' => h h'.symm
     simp [h, this]
   ·rw [if_neg h1]
    simp only [mGet, List.find?_cons] at ih ⊢
    by_cases h2 : keyEq (.str b) e.1 = true
    ·simp only [h2]
     by_cases h : a = b
     ·subst h; exact absurd h2 h1
     ·simp [h]
    ·simp only [h2]
     exact ih
theorem keyEq_intD {k : IntKind} {a : Int} {d : DV} (h : keyEq (.int k a) d = true) : ∃ k', d = .int k' a := by
 cases d <;> simp only [keyEq] at h <;> try cases h
 rename_i k' n
 exact ⟨k', by rw [show a = n by simpa using h]⟩
theorem mGet_setI (es : List (DV × DV)) (a b : Int) (v : DV) : mGet (mSet es (.int .i64 a) v) (.int .i64 b) = if a = b then some v else mGet es (.int .i64 b) := by
 induction es with
 | nil => by_cases h : a = b <;> simp [mSet, mGet, keyEq_int, h, eq_comm]
 | cons e es ih =>
   unfold mSet
   by_cases h1 : keyEq (.int .i64 a) e.1 = true
   ·rw [if_pos h1]
    obtain ⟨k', this⟩ := keyEq_intD h1
    simp only [mGet, List.find?_cons, this, keyEq_int]
    by_cases h : a = b
    ·subst h; simp
    ·have : ¬ b = a := fun h' => h h'.symm
     simp [h, this]
   ·rw [if_neg h1]
    simp only [mGet, List.find?_cons] at ih ⊢
    by_cases h2 : keyEq (.int .i64 b) e.1 = true
    ·simp only [h2]
     by_cases h : a = b
     ·subst h; exact absurd h2 h1
     ·simp [h]
    ·simp only [h2]
     exact ih
def nil8 : ByteArray := ⟨#[]⟩
def Pat.one (p : Pat) : Bool :=
 if p.kind = 1 ∨ p.kind = 6 ∨ p.kind = 8 then decide (p.kids.length = 0) && decide (p.name = nil8) && decide (p.n = 0) && decide (p.s = nil8)
 else if p.kind = 2 then nameB p.name && decide (p.kids.length = 0) && decide (p.n = 0) && decide (p.s = nil8)
 else if p.kind = 3 then decide (p.kids.length = 0) && decide (p.name = nil8) && decide (p.s = nil8)
 else if p.kind = 4 then decide (p.n = 0 ∨ p.n = 1) && decide (p.kids.length = 0) && decide (p.name = nil8) && decide (p.s = nil8)
 else if p.kind = 5 then decide (p.s.size ≤ 200) && decide (p.kids.length = 0) && decide (p.name = nil8) && decide (p.n = 0)
 else if p.kind = 7 ∨ p.kind = 9 then decide (p.kids.length = 2) && decide (p.name = nil8) && decide (p.n = 0) && decide (p.s = nil8)
 else false
def Pat.thin : Pat → Bool
 | .mk _ _ _ _ _ _ ks => decide (ks.length ≤ lim) && (ks.map Pat.thin).all id
theorem Pat.thin_eq (t : Pat) : t.thin = (decide (t.kids.length ≤ lim) && t.kids.all Pat.thin) := by
 cases t
 rw [Pat.thin]
 simp [List.all_map]
 rfl
theorem Pat.thin_len (t : Pat) (h : t.thin = true) : t.kids.length < 4294967297 := by
 rw [Pat.thin_eq] at h
 simp only [Bool.and_eq_true, decide_eq_true_eq] at h
 have := h.1
 unfold lim at this
 omega
theorem Pat.thin_kid {t k : Pat} (h : t.thin = true) (hk : k ∈ t.kids) : k.thin = true := by
 rw [Pat.thin_eq] at h
 simp only [Bool.and_eq_true, List.all_eq_true] at h
 exact h.2 k hk
theorem Pat.thin_of_size {t : Pat} : t.size ≤ lim → t.thin = true := by
 induction t using Pat.ind with
 | h t ih =>
   intro h
   rw [Pat.thin_eq]
   simp only [Bool.and_eq_true, decide_eq_true_eq, List.all_eq_true]
   refine ⟨by have := t.len_lt; omega, fun k hk => ih k hk (by have := Pat.size_kid hk; omega)⟩
def Pat.pat : Pat → Bool
 | .mk a b c d e f ks => Pat.one (.mk a b c d e f ks) && (ks.map Pat.pat).all id
theorem Pat.pat_eq (t : Pat) : t.pat = (t.one && t.kids.all Pat.pat) := by
 cases t
 rw [Pat.pat]
 simp [List.all_map]
def Pat.namesOn : Pat → List ByteArray → List ByteArray
 | .mk k _ _ nm _ _ ks, l => ks.foldl (fun l k => Pat.namesOn k l) (if k = 2 then l ++ [nm] else l)
theorem Pat.namesOn_eq (t : Pat) (l : List ByteArray) : t.namesOn l = t.kids.foldl (fun l k => k.namesOn l) (if t.kind = 2 then l ++ [t.name] else l) := by
 cases t
 rw [Pat.namesOn]
 rfl
def Pat.names (t : Pat) : List ByteArray := t.namesOn []
theorem Pat.namesOn_len (t : Pat) : ∀ l : List ByteArray, (t.namesOn l).length ≤ l.length + t.size := by
 induction t using Pat.ind with
 | h t ih =>
   intro l
   rw [Pat.namesOn_eq]
   have key : ∀ (ks : List Pat), (∀ k ∈ ks, ∀ l : List ByteArray, (k.namesOn l).length ≤ l.length + k.size) → ∀ l : List ByteArray, (ks.foldl (fun l k => k.namesOn l) l).length ≤ l.length + (ks.map Pat.size).sum := by
    intro ks
    induction ks with
    | nil => intro _ l; simp
    | cons k ks ihk =>
      intro h l
      simp only [List.foldl_cons, List.map_cons, List.sum_cons]
      have h1 := ihk (fun k' hk' => h k' (List.mem_cons_of_mem _ hk')) (k.namesOn l)
      have h2 := h k (List.mem_cons_self ..) l
      omega
   have h1 := key t.kids ih (if t.kind = 2 then l ++ [t.name] else l)
   rw [Pat.size_eq]
   have h2 : (if t.kind = 2 then l ++ [t.name] else l).length ≤ l.length + 1 := by split <;> simp
   omega
def Pat.subs : Pat → List Pat
 | .mk a b c d e f ks => .mk a b c d e f ks :: (ks.map Pat.subs).flatten
theorem Pat.subs_eq (t : Pat) : t.subs = t :: t.kids.flatMap Pat.subs := by
 cases t
 rw [Pat.subs]
 rfl
def nmOf (p : Pat) : List ByteArray := if p.kind = 2 then [p.name] else []
theorem Pat.namesOn_subs (t : Pat) : ∀ l : List ByteArray, t.namesOn l = l ++ t.subs.flatMap nmOf := by
 induction t using Pat.ind with
 | h t ih =>
   intro l
   have key : ∀ (ks : List Pat), (∀ k ∈ ks, ∀ l : List ByteArray, k.namesOn l = l ++ k.subs.flatMap nmOf) → ∀ l : List ByteArray, ks.foldl (fun l k => k.namesOn l) l = l ++ (ks.flatMap Pat.subs).flatMap nmOf := by
    intro ks
    induction ks with
    | nil => intro _ l; simp
    | cons k ks ihk =>
      intro h l
      simp only [List.foldl_cons, List.flatMap_cons, List.flatMap_append]
      rw [ihk (fun k' hk' => h k' (List.mem_cons_of_mem _ hk')), h k (List.mem_cons_self ..)]
      simp
   rw [Pat.namesOn_eq, key t.kids ih, Pat.subs_eq]
   simp only [List.flatMap_cons, nmOf]
   by_cases h : t.kind = 2 <;> simp [h, nmOf]
theorem Pat.pat_subs (t : Pat) : t.pat = t.subs.all Pat.one := by
 induction t using Pat.ind with
 | h t ih =>
   rw [Pat.pat_eq, Pat.subs_eq]
   simp only [List.all_cons, List.all_flatMap]
   congr 1
   rw [Bool.eq_iff_iff]
   simp only [List.all_eq_true]
   constructor
   ·intro h k hk x hx
    have := h k hk
    rw [ih k hk] at this
    exact List.all_eq_true.1 this x hx
   ·intro h k hk
    rw [ih k hk]
    exact List.all_eq_true.2 (h k hk)
def Pat.right (t : Pat) : Bool := t.pat && decide t.names.Nodup
theorem flat_Pat (t : Pat) : t.thin = true → ∃ n, flatN 7 6 n t.enc = some (t.subs.map Pat.enc) := by
 induction t using Pat.ind with
 | h t ih =>
   intro ht
   have key : ∀ ks : List Pat, (∀ k ∈ ks, ∃ n, flatN 7 6 n k.enc = some (k.subs.map Pat.enc)) → ∃ n, flatL (flatN 7 6 n) (ks.map Pat.enc) = some ((ks.flatMap Pat.subs).map Pat.enc) := by
    intro ks
    induction ks with
    | nil => intro _; exact ⟨0, rfl⟩
    | cons k ks ihk =>
      intro h
      obtain ⟨n, hn⟩ := h k (List.mem_cons_self ..)
      obtain ⟨m, hm⟩ := ihk fun k' hk' => h k' (List.mem_cons_of_mem _ hk')
      refine ⟨n + m, ?_⟩
      simp only [List.map_cons, flatL, flatN_le (Nat.le_add_right n m) hn, flatL_mono (fun d l h => flatN_le (Nat.le_add_left m n) h) hm, ob_some']
      simp
   obtain ⟨n, hn⟩ := key t.kids fun k hk => ih k hk (Pat.thin_kid ht hk)
   refine ⟨n + 1, ?_⟩
   rw [Pat.thin_eq] at ht
   simp only [Bool.and_eq_true, decide_eq_true_eq] at ht
   rw [Pat.enc_eq, flatN]
   simp only [List.length_cons, List.length_nil, List.getD_cons_succ, List.getD_cons_zero, List.length_map, hn, ob_some', Pat.subs_eq t, List.map_cons]
   simp [ht.1, Pat.enc_eq]
def Pat.texts (p : Pat) : Prop := p.name.size ≤ 4294967000 ∧ p.s.size ≤ 4294967000
def Pat.txt (p : Pat) : Prop := ∀ q ∈ p.subs, q.texts
theorem Pat.self_sub (p : Pat) : p ∈ p.subs := by rw [Pat.subs_eq]; exact List.mem_cons_self ..
theorem Pat.kid_sub {p k q : Pat} (h : k ∈ p.kids) (hq : q ∈ k.subs) : q ∈ p.subs := by
 rw [Pat.subs_eq]
 exact List.mem_cons_of_mem _ (List.mem_flatMap.2 ⟨k, h, hq⟩)
theorem Pat.txt_kid {p k : Pat} (h : p.txt) (hk : k ∈ p.kids) : k.txt := fun q hq => h q (Pat.kid_sub hk hq)
end Go.Su

/-
 TERMS and EXPRESSIONS: what is said of them.
-/
namespace Go.Su
structure Pat.fit (p : Pat) : Prop where
 size : p.size ≤ lim
 txt : p.txt
theorem Pat.fit_thin {p : Pat} (h : p.fit) : p.thin = true := Pat.thin_of_size h.size
def Pat.bare : Pat → Pat
 | .mk k _ _ nm n s ks => .mk k 0 0 nm n s (ks.map Pat.bare)
@[simp] theorem Pat.bare_kind (p : Pat) : p.bare.kind = p.kind := by cases p; rw [Pat.bare]; rfl
@[simp] theorem Pat.bare_lo (p : Pat) : p.bare.lo = 0 := by cases p; rw [Pat.bare]; rfl
@[simp] theorem Pat.bare_hi (p : Pat) : p.bare.hi = 0 := by cases p; rw [Pat.bare]; rfl
@[simp] theorem Pat.bare_name (p : Pat) : p.bare.name = p.name := by cases p; rw [Pat.bare]; rfl
@[simp] theorem Pat.bare_n (p : Pat) : p.bare.n = p.n := by cases p; rw [Pat.bare]; rfl
@[simp] theorem Pat.bare_s (p : Pat) : p.bare.s = p.s := by cases p; rw [Pat.bare]; rfl
@[simp] theorem Pat.bare_kids (p : Pat) : p.bare.kids = p.kids.map Pat.bare := by cases p; rw [Pat.bare]; rfl
def Ex.bare : Ex → Ex
 | .mk k _ _ nm ar n s op a b ps ks => .mk k 0 0 nm ar n s op a b (ps.map Pat.bare) (ks.map Ex.bare)
@[simp] theorem Ex.bare_kind (p : Ex) : p.bare.kind = p.kind := by cases p; rw [Ex.bare]; rfl
@[simp] theorem Ex.bare_lo (p : Ex) : p.bare.lo = 0 := by cases p; rw [Ex.bare]; rfl
@[simp] theorem Ex.bare_hi (p : Ex) : p.bare.hi = 0 := by cases p; rw [Ex.bare]; rfl
@[simp] theorem Ex.bare_name (p : Ex) : p.bare.name = p.name := by cases p; rw [Ex.bare]; rfl
@[simp] theorem Ex.bare_arg (p : Ex) : p.bare.arg = p.arg := by cases p; rw [Ex.bare]; rfl
@[simp] theorem Ex.bare_n (p : Ex) : p.bare.n = p.n := by cases p; rw [Ex.bare]; rfl
@[simp] theorem Ex.bare_s (p : Ex) : p.bare.s = p.s := by cases p; rw [Ex.bare]; rfl
@[simp] theorem Ex.bare_op (p : Ex) : p.bare.op = p.op := by cases p; rw [Ex.bare]; rfl
@[simp] theorem Ex.bare_a (p : Ex) : p.bare.a = p.a := by cases p; rw [Ex.bare]; rfl
@[simp] theorem Ex.bare_b (p : Ex) : p.bare.b = p.b := by cases p; rw [Ex.bare]; rfl
@[simp] theorem Ex.bare_pats (p : Ex) : p.bare.pats = p.pats.map Pat.bare := by cases p; rw [Ex.bare]; rfl
@[simp] theorem Ex.bare_kids (p : Ex) : p.bare.kids = p.kids.map Ex.bare := by cases p; rw [Ex.bare]; rfl
structure Ex.fit1 (t : Ex) : Prop where
 name : t.name.size ≤ 4294967000
 arg : t.arg.size ≤ 4294967000
 s : t.s.size ≤ 4294967000
 a : t.a.thin = true
 b : t.b.thin = true
 avc : t.a.vcount ≤ lim
 bvc : t.b.vcount ≤ lim
 pats : t.pats.length < lim
 pat : ∀ p ∈ t.pats, p.fit
 kids : t.kids.length < lim
inductive Ex.fit : Ex → Prop where
 | mk (t : Ex) : t.fit1 → (∀ k ∈ t.kids, k.fit) → t.fit
theorem Ex.fit.one {t : Ex} (h : t.fit) : t.fit1 := by cases h; assumption
theorem Ex.fit.kid {t k : Ex} (h : t.fit) (hk : k ∈ t.kids) : k.fit := by cases h with | mk _ _ g => exact g k hk
structure Tm.fit1 (t : Tm) : Prop where
 name : t.name.size ≤ 4294967000
 arg : t.arg.size ≤ 4294967000
 s : t.s.size ≤ 4294967000
 vars : t.vars.length < lim
 a : t.a.thin = true
 b : t.b.thin = true
 avc : t.a.vcount ≤ lim
 bvc : t.b.vcount ≤ lim
 args : t.args.length < lim
 arg1 : ∀ y ∈ t.args, y.thin = true
 argvc : ∀ y ∈ t.args, y.vcount ≤ lim
 pats : t.pats.length < lim
 pat : ∀ p ∈ t.pats, p.fit
 kids : t.kids.length < lim
inductive Tm.fit : Tm → Prop where
 | mk (t : Tm) : t.fit1 → (∀ k ∈ t.kids, k.fit) → t.fit
theorem Tm.fit.one {t : Tm} (h : t.fit) : t.fit1 := by cases h; assumption
theorem Tm.fit.kid {t k : Tm} (h : t.fit) (hk : k ∈ t.kids) : k.fit := by cases h with | mk _ _ g => exact g k hk
theorem Pat.size_mass (p : Pat) : p.size ≤ p.mass := by
 induction p using Pat.ind with
 | h p ih =>
   rw [Pat.size_eq, Pat.mass_eq]
   have key : ∀ ks : List Pat, (∀ k ∈ ks, k.size ≤ k.mass) → (ks.map Pat.size).sum ≤ (ks.map Pat.mass).sum := by
    intro ks
    induction ks with
    | nil => simp
    | cons k ks ihk =>
      intro h
      simp only [List.map_cons, List.sum_cons]
      have := h k (List.mem_cons_self ..)
      have := ihk fun k' hk' => h k' (List.mem_cons_of_mem _ hk')
      omega
   have := key p.kids ih
   omega
theorem Pat.sub_mass {p : Pat} : ∀ q ∈ p.subs, q.mass ≤ p.mass := by
 induction p using Pat.ind with
 | h p ih =>
   intro q hq
   rw [Pat.subs_eq] at hq
   rcases List.mem_cons.1 hq with rfl | hq
   ·exact Nat.le_refl _
   ·obtain ⟨k, hk, hq⟩ := List.mem_flatMap.1 hq
    have := ih k hk q hq
    have := Pat.mass_kid hk
    omega
theorem Pat.fit_mass {p : Pat} (h : p.mass ≤ 4294967000) : p.fit := by
 refine ⟨by have := p.size_mass; unfold lim; omega, fun q hq => ?_⟩
 have := Pat.sub_mass q hq
 exact ⟨by have := q.mass_name; omega, by have := q.mass_s; omega⟩
theorem sum_len {l : List Nat} (h : ∀ a ∈ l, 0 < a) : l.length ≤ l.sum := by
 induction l with
 | nil => simp
 | cons a l ih =>
   have := h a (List.mem_cons_self ..)
   have := ih fun b hb => h b (List.mem_cons_of_mem _ hb)
   simp only [List.length_cons, List.sum_cons]
   omega
theorem len_sum {α : Type} {l : List α} {f : α → Nat} (h : ∀ a, 0 < f a) : l.length ≤ (l.map f).sum := by
 have := sum_len (l := l.map f) (by intro a ha; obtain ⟨x, _, rfl⟩ := List.mem_map.1 ha; exact h x)
 simpa using this
theorem mem_sum {α : Type} {l : List α} {f : α → Nat} {a : α} (h : a ∈ l) : f a ≤ (l.map f).sum := le_sum_mem (List.mem_map_of_mem (f := f) h)
theorem Tm.fit_mass {t : Tm} : t.mass ≤ 4294967000 → t.fit := by
 induction t using Tm.ind with
 | h t ih =>
   intro h
   refine .mk t ⟨by have := t.mass_name; omega, by have := t.mass_arg; omega, by have := t.mass_s; omega, by have := t.mass_vars; unfold lim; omega, Ty.thin_of_size (by have := t.mass_a; unfold lim; omega), Ty.thin_of_size (by have := t.mass_b; unfold lim; omega), by have := t.mass_a; have := t.a.vcount_size; unfold lim; omega, by have := t.mass_b; have := t.b.vcount_size; unfold lim; omega, ?_, fun p hp => ?_, fun p hp => ?_, ?_, fun p hp => ?_, ?_⟩ fun k hk => ih k hk (by have := Tm.mass_kid hk; omega)
   ·have := t.mass_args; have := len_sum (l := t.args) Ty.size_pos; unfold lim; omega
   ·have := t.mass_args; have := mem_sum (f := Ty.size) hp; exact Ty.thin_of_size (by unfold lim; omega)
   ·have := t.mass_args; have := mem_sum (f := Ty.size) hp; have := p.vcount_size; unfold lim; omega
   ·have := t.mass_pats; have := len_sum (l := t.pats) Pat.mass_pos; unfold lim; omega
   ·have := t.mass_pats; have := mem_sum (f := Pat.mass) hp; exact Pat.fit_mass (by omega)
   ·have := t.mass_len; unfold lim; omega
inductive Tm.sized : Tm → Prop where
 | mk (t : Tm) : t.a.size ≤ lim → t.b.size ≤ lim → (∀ y ∈ t.args, y.size ≤ lim) → (∀ k ∈ t.kids, k.sized) → t.sized
theorem Tm.sized.a {t : Tm} (h : t.sized) : t.a.size ≤ lim := by cases h; assumption
theorem Tm.sized.b {t : Tm} (h : t.sized) : t.b.size ≤ lim := by cases h; assumption
theorem Tm.sized.args {t : Tm} (h : t.sized) : ∀ y ∈ t.args, y.size ≤ lim := by cases h; assumption
theorem Tm.sized.kid {t k : Tm} (h : t.sized) (hk : k ∈ t.kids) : k.sized := by cases h with | mk _ _ _ _ g => exact g k hk
theorem Tm.sized_mass {t : Tm} : t.mass ≤ 4294967000 → t.sized := by
 induction t using Tm.ind with
 | h t ih =>
   intro h
   refine .mk t (by have := t.mass_a; unfold lim; omega) (by have := t.mass_b; unfold lim; omega) (fun y hy => ?_) fun k hk => ih k hk (by have := Tm.mass_kid hk; omega)
   have := t.mass_args; have := mem_sum (f := Ty.size) hy; unfold lim; omega
def Ty.none (t : Ty) : Bool := decide (t.kind = 0) && decide (t.n = 0) && decide (t.kids.length = 0)
theorem Ty.none_iff {t : Ty} : t.none = true ↔ t = .mk 0 0 [] := by
 unfold Ty.none
 rw [Ty.ext_iff']
 simp [and_assoc]
def kName (k : Int) : Bool := decide (k = 1 ∨ k = 9 ∨ k = 11 ∨ k = 12)
def kArg (k : Int) : Bool := decide (k = 12)
def kN (k : Int) : Bool := decide (k = 2 ∨ k = 3)
def kS (k : Int) : Bool := decide (k = 4)
def kOp (k : Int) : Bool := decide (k = 15)
def kAt (k : Int) : Bool := decide (k = 14 ∨ k = 15)
def kVars (k : Int) : Bool := decide (k = 11 ∨ k = 12)
def kArgs (k : Int) : Bool := decide (k = 1)
def kPats (k : Int) : Bool := decide (k = 14)
def kA (k : Int) : Bool := decide (k = 7 ∨ k = 9 ∨ k = 12 ∨ k = 16)
def kB (k : Int) : Bool := decide (k = 12 ∨ k = 16)
def kLabel (k : Int) : Bool := decide (k = 16)
def kOk (k : Int) (np : Nat) : Bool := decide (1 ≤ k) && decide (k ≤ 16) && (!decide (k = 14) || decide (0 < np))
def kKids (k : Int) (np : Nat) : Int :=
 if k = 6 ∨ k = 8 ∨ k = 10 ∨ k = 11 ∨ k = 12 ∨ k = 15 then 2 else if k = 9 ∨ k = 16 then 1 else if k = 13 then 3 else if k = 14 then np + 1 else 0
def namedB (h : Bool) (s : ByteArray) : Bool := if h = true then nameB s else decide (s = nil8)
def typedB (h : Bool) (t : Ty) : Bool := if h = true then t.right else t.none
def Tm.lists (t : Tm) : Bool := t.vars.all (fun v => decide (0 ≤ v) && decide (v ≤ 1048576)) && t.args.all Ty.right && t.pats.all Pat.right
def Tm.one5 (t : Tm) : Bool := (kVars t.kind || decide (t.vars.length = 0)) && (kArgs t.kind || decide (t.args.length = 0)) && (kPats t.kind || decide (t.pats.length = 0)) && t.lists
def Tm.one4 (t : Tm) : Bool := (kLabel t.kind || (decide (t.label = 0) && !t.neg)) && (decide (0 ≤ t.label) && decide (t.label ≤ 1048576)) && t.one5
def Tm.one3 (t : Tm) : Bool := (!kOp t.kind || (decide (1 ≤ t.op) && decide (t.op ≤ 7))) && (kOp t.kind || decide (t.op = 0)) && t.one4
def Tm.one2 (t : Tm) : Bool := (kS t.kind || decide (t.s = nil8)) && decide (t.s.size ≤ 200) && (kAt t.kind || (decide (t.lo = 0) && decide (t.hi = 0))) && t.one3
def Tm.one1 (t : Tm) : Bool := (kN t.kind || decide (t.n = 0)) && (!decide (t.kind = 3) || decide (t.n = 0) || decide (t.n = 1)) && t.one2
def Tm.one (t : Tm) : Bool := kOk t.kind t.pats.length && decide ((t.kids.length : Int) = kKids t.kind t.pats.length) && namedB (kName t.kind) t.name && namedB (kArg t.kind) t.arg && typedB (kA t.kind) t.a && typedB (kB t.kind) t.b && t.one1
def Tm.right : Tm → Bool
 | .mk a b c d e f g h i j k l m n o ks => Tm.one (.mk a b c d e f g h i j k l m n o ks) && (ks.map Tm.right).all id
theorem Tm.right_eq (t : Tm) : t.right = (t.one && t.kids.all Tm.right) := by
 cases t
 rw [Tm.right]
 simp [List.all_map]
end Go.Su

/-
 TERMS, as the reference has them.
-/
namespace Go.Su
def Tm.bareF (t : Tm) : Tm :=
 .mk t.kind (if kAt t.kind = true then t.lo else 0) (if kAt t.kind = true then t.hi else 0) (if kName t.kind = true then t.name else nil8) (if kArg t.kind = true then t.arg else nil8) (if kN t.kind = true then t.n else 0)
  (if kS t.kind = true then t.s else nil8) (if kOp t.kind = true then t.op else 0) (if kLabel t.kind = true then t.label else 0) (if kLabel t.kind = true then t.neg else false) (if kVars t.kind = true then t.vars else [])
  (if kA t.kind = true then t.a else .mk 0 0 []) (if kB t.kind = true then t.b else .mk 0 0 []) (if kArgs t.kind = true then t.args else []) (if kPats t.kind = true then t.pats else []) []
def Tm.bareN (t : Tm) : Int := if 1 ≤ t.kind ∧ t.kind ≤ 16 then kKids t.kind t.pats.length else -1
noncomputable def Tm.flatB (a b : Tm) : Bool :=
 decide (a.kind = b.kind) && (decide (a.lo = b.lo) && decide (a.hi = b.hi)) && decide (a.name = b.name) && decide (a.arg = b.arg) && decide (a.n = b.n) && decide (a.s = b.s) && decide (a.op = b.op) && decide (a.label = b.label) && decide (a.neg = b.neg) &&
  decide (a.args = b.args) && decide (a.a = b.a) && decide (a.b = b.b) && decide (a.vars = b.vars) && decide (a.pats = b.pats)
theorem Tm.bareF_fit {t : Tm} (h : t.fit1) : t.bareF.fit1 := by
 have t0 : (Ty.mk 0 0 []).thin = true := by rw [Ty.thin_eq]; simp [lim]
 obtain ⟨a1, a2, a3, a4, a5, a6, b1, b2, a7, a8, b3, a9, a10, a11⟩ := h
 have t1 : (Ty.mk 0 0 []).vcount ≤ lim := by rw [Ty.vcount_eq]; simp [lim]
 have n0 : nil8.size = 0 := rfl
 constructor <;> simp only [Tm.bareF, Tm.name_mk, Tm.arg_mk, Tm.s_mk, Tm.vars_mk, Tm.a_mk, Tm.b_mk, Tm.args_mk, Tm.pats_mk, Tm.kids_mk] <;> (try split) <;> simp_all [lim]
def Tm.ownC (t : Tm) : Bool :=
 if t.kind = 1 then nameB t.name
 else if t.kind = 11 then nameB t.name
 else if t.kind = 3 then decide (t.n = 0) || decide (t.n = 1)
 else if t.kind = 4 then decide (t.s.size ≤ 200)
 else if t.kind = 7 then t.a.right
 else if t.kind = 9 then nameB t.name && t.a.right
 else if t.kind = 12 then nameB t.name && nameB t.arg && t.a.right && t.b.right
 else if t.kind = 14 then decide (0 < t.pats.length)
 else if t.kind = 15 then decide (1 ≤ t.op) && decide (t.op ≤ 7)
 else if t.kind = 16 then decide (0 ≤ t.label) && decide (t.label ≤ 1048576) && t.a.right && t.b.right
 else true
theorem nil8_size : nil8.size = 0 := rfl
theorem none_eq {t : Ty} : t.none = true ↔ Ty.mk 0 0 [] = t := by rw [Ty.none_iff]; exact eq_comm
set_option maxHeartbeats 2000000 in
theorem Tm.own_one (t : Tm) : (decide (t.bareN = (t.kids.length : Int)) && t.bareF.flatB t && t.lists && t.ownC) = t.one := by
 have e8 : ∀ s : ByteArray, (nil8 = s) ↔ (s = nil8) := fun s => eq_comm
 have e0 : ∀ n : Int, (0 = n) ↔ (n = 0) := fun s => eq_comm
 have eb : ∀ n : Bool, (false = n) ↔ (n = false) := fun s => eq_comm
 have ek : ∀ n : Int, (n = (t.kids.length : Int)) ↔ ((t.kids.length : Int) = n) := fun s => eq_comm
 have el : ∀ {α : Type} (l : List α), ([] = l) ↔ (l.length = 0) := fun l => by cases l <;> simp
 have es : t.s = nil8 → t.s.size ≤ 200 := fun h => by rw [h, nil8_size]; omega
 rw [Bool.eq_iff_iff]
 simp only [Tm.flatB, Tm.bareF, Tm.kind_mk, Tm.lo_mk, Tm.hi_mk, Tm.name_mk, Tm.arg_mk, Tm.n_mk, Tm.s_mk, Tm.op_mk, Tm.label_mk, Tm.neg_mk, Tm.args_mk, Tm.a_mk, Tm.b_mk, Tm.vars_mk, Tm.pats_mk, Tm.bareN, Tm.one, Tm.one1, Tm.one2, Tm.one3, Tm.one4, Tm.one5]
 generalize t.lists = LL
 by_cases k1 : t.kind = 1
 ·simp [k1, Tm.ownC, kOk, kName, kArg, kN, kS, kOp, kAt, kVars, kArgs, kPats, kA, kB, kLabel, kKids, namedB, typedB, none_eq, e8, e0, eb, ek, el]; grind
 by_cases k2 : t.kind = 2
 ·simp [k2, Tm.ownC, kOk, kName, kArg, kN, kS, kOp, kAt, kVars, kArgs, kPats, kA, kB, kLabel, kKids, namedB, typedB, none_eq, e8, e0, eb, ek, el]; grind
 by_cases k3 : t.kind = 3
 ·simp [k3, Tm.ownC, kOk, kName, kArg, kN, kS, kOp, kAt, kVars, kArgs, kPats, kA, kB, kLabel, kKids, namedB, typedB, none_eq, e8, e0, eb, ek, el]; grind
 by_cases k4 : t.kind = 4
 ·simp [k4, Tm.ownC, kOk, kName, kArg, kN, kS, kOp, kAt, kVars, kArgs, kPats, kA, kB, kLabel, kKids, namedB, typedB, none_eq, e8, e0, eb, ek, el]; grind
 by_cases k5 : t.kind = 5
 ·simp [k5, Tm.ownC, kOk, kName, kArg, kN, kS, kOp, kAt, kVars, kArgs, kPats, kA, kB, kLabel, kKids, namedB, typedB, none_eq, e8, e0, eb, ek, el]; grind
 by_cases k6 : t.kind = 6
 ·simp [k6, Tm.ownC, kOk, kName, kArg, kN, kS, kOp, kAt, kVars, kArgs, kPats, kA, kB, kLabel, kKids, namedB, typedB, none_eq, e8, e0, eb, ek, el]; grind
 by_cases k7 : t.kind = 7
 ·simp [k7, Tm.ownC, kOk, kName, kArg, kN, kS, kOp, kAt, kVars, kArgs, kPats, kA, kB, kLabel, kKids, namedB, typedB, none_eq, e8, e0, eb, ek, el]; grind
 by_cases k8 : t.kind = 8
 ·simp [k8, Tm.ownC, kOk, kName, kArg, kN, kS, kOp, kAt, kVars, kArgs, kPats, kA, kB, kLabel, kKids, namedB, typedB, none_eq, e8, e0, eb, ek, el]; grind
 by_cases k9 : t.kind = 9
 ·simp [k9, Tm.ownC, kOk, kName, kArg, kN, kS, kOp, kAt, kVars, kArgs, kPats, kA, kB, kLabel, kKids, namedB, typedB, none_eq, e8, e0, eb, ek, el]; grind
 by_cases k10 : t.kind = 10
 ·simp [k10, Tm.ownC, kOk, kName, kArg, kN, kS, kOp, kAt, kVars, kArgs, kPats, kA, kB, kLabel, kKids, namedB, typedB, none_eq, e8, e0, eb, ek, el]; grind
 by_cases k11 : t.kind = 11
 ·simp [k11, Tm.ownC, kOk, kName, kArg, kN, kS, kOp, kAt, kVars, kArgs, kPats, kA, kB, kLabel, kKids, namedB, typedB, none_eq, e8, e0, eb, ek, el]; grind
 by_cases k12 : t.kind = 12
 ·simp [k12, Tm.ownC, kOk, kName, kArg, kN, kS, kOp, kAt, kVars, kArgs, kPats, kA, kB, kLabel, kKids, namedB, typedB, none_eq, e8, e0, eb, ek, el]; grind
 by_cases k13 : t.kind = 13
 ·simp [k13, Tm.ownC, kOk, kName, kArg, kN, kS, kOp, kAt, kVars, kArgs, kPats, kA, kB, kLabel, kKids, namedB, typedB, none_eq, e8, e0, eb, ek, el]; grind
 by_cases k14 : t.kind = 14
 ·simp [k14, Tm.ownC, kOk, kName, kArg, kN, kS, kOp, kAt, kVars, kArgs, kPats, kA, kB, kLabel, kKids, namedB, typedB, none_eq, e8, e0, eb, ek, el]; grind
 by_cases k15 : t.kind = 15
 ·simp [k15, Tm.ownC, kOk, kName, kArg, kN, kS, kOp, kAt, kVars, kArgs, kPats, kA, kB, kLabel, kKids, namedB, typedB, none_eq, e8, e0, eb, ek, el]; grind
 by_cases k16 : t.kind = 16
 ·simp [k16, Tm.ownC, kOk, kName, kArg, kN, kS, kOp, kAt, kVars, kArgs, kPats, kA, kB, kLabel, kKids, namedB, typedB, none_eq, e8, e0, eb, ek, el]; grind
 have hk : ¬ (1 ≤ t.kind ∧ t.kind ≤ 16) := by omega
 have hk' : ¬ ((-1 : Int) = (t.kids.length : Int)) := by omega
 have hk2 : kOk t.kind t.pats.length = false := by
  unfold kOk
  rw [Bool.eq_false_iff]
  intro h
  simp only [Bool.and_eq_true, decide_eq_true_eq] at h
  omega
 simp [hk, hk', hk2]
end Go.Su

/-
 TYPES put for variables, types that agree, and the CHECKER of terms: what is said of them, without any program.
-/
namespace Go.Su
def look (l : List (Int × Ty)) (n : Int) : Option Ty := (l.find? fun e => decide (e.1 = n)).map (·.2)
def Ty.put (l : List (Int × Ty)) : Ty → Ty
 | .mk k n ks => if k = 6 then (look l n).getD (.mk k n ks) else .mk k n (ks.map (Ty.put l))
theorem Ty.put_eq (l : List (Int × Ty)) (t : Ty) : t.put l = if t.kind = 6 then (look l t.n).getD t else .mk t.kind t.n (t.kids.map (Ty.put l)) := by
 cases t
 rw [Ty.put]
 rfl
def rightBinds (l : List (Int × Ty)) : Bool := l.all fun e => decide (0 ≤ e.1) && decide (e.1 ≤ 1048576) && e.2.right
def zeroTy : Ty := .mk 0 0 []
def encBnd (e : Int × Ty) : DV := .agg [.int .i64 e.1, .int .i64 e.2.kind, .int .i64 e.2.n, .list 3 (e.2.kids.map Ty.enc)]
def encBnds (l : List (Int × Ty)) : DV := .list 4 (l.map encBnd)
theorem look_mem {l : List (Int × Ty)} {n : Int} {t : Ty} (h : look l n = some t) : (n, t) ∈ l := by
 unfold look at h
 cases hf : l.find? fun e => decide (e.1 = n) with
 | none => rw [hf] at h; cases h
 | some e =>
   rw [hf] at h
   simp only [Option.map_some, Option.some.injEq] at h
   have h1 := List.find?_some hf
   simp only [decide_eq_true_eq] at h1
   have h2 := List.mem_of_find?_eq_some hf
   rw [← h, ← h1]
   exact h2
theorem Ty.right_iff {t : Ty} : t.right = true ↔ arity t.kind = t.kids.length ∧ 0 ≤ t.n ∧ t.n ≤ 1048576 ∧ (t.kind = 6 ∨ t.n = 0) ∧ ∀ k ∈ t.kids, k.right = true := by
 rw [Ty.right_eq]
 simp only [Bool.and_eq_true, Bool.or_eq_true, decide_eq_true_eq, List.all_eq_true, and_assoc]
theorem Ty.right_mk {k n : Int} {ks : List Ty} : (Ty.mk k n ks).right = true ↔ arity k = ks.length ∧ 0 ≤ n ∧ n ≤ 1048576 ∧ (k = 6 ∨ n = 0) ∧ ∀ t ∈ ks, t.right = true :=
 Ty.right_iff (t := .mk k n ks)
theorem Ty.right_kid {t k : Ty} (h : t.right = true) (hk : k ∈ t.kids) : k.right = true := (Ty.right_iff.1 h).2.2.2.2 k hk
theorem rightBinds_iff {l : List (Int × Ty)} : rightBinds l = true ↔ ∀ e ∈ l, 0 ≤ e.1 ∧ e.1 ≤ 1048576 ∧ e.2.right = true := by
 unfold rightBinds
 simp [and_assoc]
theorem Ty.right_put {l : List (Int × Ty)} (hl : ∀ e ∈ l, e.2.right = true) (t : Ty) : t.right = true → (t.put l).right = true := by
 induction t using Ty.ind with
 | h t ih =>
   intro h
   rw [Ty.put_eq]
   split
   ·cases hk : look l t.n with
    | none => exact h
    | some u => exact hl _ (look_mem hk)
   ·rw [Ty.right_mk]
    rw [Ty.right_iff] at h
    obtain ⟨h1, h2, h3, h4, h5⟩ := h
    refine ⟨by simpa using h1, h2, h3, h4, fun k hk => ?_⟩
    obtain ⟨k', hk', rfl⟩ := List.mem_map.1 hk
    exact ih k' hk' (h5 k' hk')
theorem Ty.put_nil (t : Ty) : t.put [] = t := by
 induction t using Ty.ind with
 | h t ih =>
   rw [Ty.put_eq]
   split
   ·rfl
   ·rw [Ty.ext_iff']
    refine ⟨rfl, rfl, ?_⟩
    simp only [Ty.kids_mk]
    conv => rhs; rw [← List.map_id t.kids]
    exact List.map_congr_left fun k hk => ih k hk
def Ty.agrees (a b : Ty) : Bool :=
 if a.kind = 5 then b.without 6 else if b.kind = 5 then a.without 6 else
  decide (a.kind = b.kind) && decide (a.n = b.n) && ((a.kids.attach.zip b.kids).map fun p => Ty.agrees p.1.1 p.2).all id
termination_by SizeOf.sizeOf a
decreasing_by exact Ty.kid_lt p.1.2
theorem Ty.agrees_eq (a b : Ty) : a.agrees b = if a.kind = 5 then b.without 6 else if b.kind = 5 then a.without 6 else decide (a.kind = b.kind) && decide (a.n = b.n) && (a.kids.zip b.kids).all fun p => p.1.agrees p.2 := by
 rw [Ty.agrees]
 congr 3
 have e : a.kids.attach.zip b.kids = (a.kids.attach.zip b.kids) := rfl
 have key : ∀ (l : List { x // x ∈ a.kids }) (m : List Ty), ((l.zip m).map fun p => Ty.agrees p.1.1 p.2).all id = ((l.map (·.1)).zip m).all fun p => p.1.agrees p.2 := by
  intro l
  induction l with
  | nil => intro m; simp
  | cons x l ih => intro m; cases m <;> simp_all
 rw [key]
 simp
def patLeaf (k : Int) : Int := if k = 3 then 1 else if k = 4 then 2 else if k = 5 then 3 else if k = 6 then 4 else if k = 8 then 8 else 0
def comb : List (Ty → Option (List (ByteArray × Ty))) → List Ty → Option (List (ByteArray × Ty))
 | [], _ => some []
 | _ :: _, [] => none
 | f :: fs, t :: ts => (f t).bind fun a => (comb fs ts).bind fun b => some (a ++ b)
def patBody (p : Pat) (fs : List (Ty → Option (List (ByteArray × Ty)))) (t : Ty) : Option (List (ByteArray × Ty)) :=
 if p.kind = 1 then some []
 else if p.kind = 2 then some [(p.name, t)]
 else if p.kind = 7 then if t.kind = 7 then comb fs t.kids else none
 else if p.kind = 9 then if t.kind = 8 then comb fs [t.kids.getD 0 zeroTy, t] else none
 else if t.kind = patLeaf p.kind then some [] else none
def Pat.binds (p : Pat) : Ty → Option (List (ByteArray × Ty)) := patBody p (p.kids.attach.map fun k => Pat.binds k.1)
termination_by SizeOf.sizeOf p
decreasing_by exact Pat.kid_lt k.2
theorem Pat.binds_eq (p : Pat) (t : Ty) : p.binds t = patBody p (p.kids.map Pat.binds) t := by
 rw [Pat.binds]
 congr 1
 exact List.attach_map_val (f := Pat.binds) ..
structure Nm where
 name : ByteArray
 ty : Ty
 vars : List Int
def Nm.enc (x : Nm) : DV := .agg [.str x.name, .int .i64 x.ty.kind, .int .i64 x.ty.n, .list 3 (x.ty.kids.map Ty.enc), encInts x.vars]
def encNms (l : List Nm) : DV := .list 5 (l.map Nm.enc)
abbrev Res := Except Int Ty
def inS (S : List Int) (t : Ty) : Bool := t.vars.all fun v => decide (v ∈ S)
def takes (S : List Int) (l : List Int) : Bool := decide (l.Nodup) && l.all fun v => !decide (v ∈ S)
abbrev Chk := List Nm → List Int → Res
def ckKids (l : List Nm) (S : List Int) : List Chk → Except Int (List Ty)
 | [] => .ok []
 | f :: fs => (f l S).bind fun y => (ckKids l S fs).bind fun ys => .ok (y :: ys)
noncomputable def ckOf (t : Tm) (S : List Int) (k : List Ty) : Res :=
 let x := k.getD 0 zeroTy
 let y := k.getD 1 zeroTy
 let z := k.getD 2 zeroTy
 if t.kind = 6 then .ok (.mk 7 0 k)
 else if t.kind = 8 then if y.kind = 8 ∧ y.kids.getD 0 zeroTy = x then .ok y else .error 4
 else if t.kind = 10 then if x.kind = 9 ∧ x.kids.getD 0 zeroTy = y then .ok (x.kids.getD 1 zeroTy) else .error 4
 else if t.kind = 13 then if x.kind = 2 ∧ y = z then .ok y else .error 4
 else if t.kind = 15 then
  if t.op = 7 then if x.kind = 3 ∧ y.kind = 3 then .ok (.mk 2 0 []) else .error 4
  else if x.kind = 1 ∧ y.kind = 1 then .ok (.mk (if t.op = 5 ∨ t.op = 6 then 2 else 1) 0 []) else .error 4
 else if t.kind = 16 then
  if inS S t.a && inS S t.b then if x = t.a ∧ t.a.agrees t.b = true then .ok t.b else .error 4 else .error 6
 else .error 4
def nmOfE (e : ByteArray × Ty) : Nm := ⟨e.1, e.2, []⟩
open Classical in
noncomputable def ckArms (y : Ty) (l : List Nm) (S : List Int) : List (Pat × Chk) → Option Ty → Res
 | [], out => .ok (out.getD zeroTy)
 | (p, f) :: r, out =>
   match p.binds y with
   | none => .error 4
   | some b => (f (l ++ b.map nmOfE) S).bind fun a =>
     match out with
     | none => ckArms y l S r (some a)
     | some o => if a = o then ckArms y l S r (some o) else .error 4
noncomputable def ckBody (t : Tm) (fs : List Chk) (l : List Nm) (S : List Int) : Res :=
 let f : Nat → Chk := fun i => fs.getD i fun _ _ => .error 4
 if t.kind = 1 then
  match l.reverse.find? fun x => decide (x.name = t.name) with
  | none => .error 6
  | some x => if x.vars.length = t.args.length then if t.args.all (inS S) = true then .ok (x.ty.put (x.vars.zip t.args)) else .error 6 else .error 8
 else if t.kind = 2 ∨ t.kind = 3 ∨ t.kind = 4 ∨ t.kind = 5 then .ok (.mk (t.kind - 1) 0 [])
 else if t.kind = 7 then if inS S t.a = true then .ok (.mk 8 0 [t.a]) else .error 6
 else if t.kind = 9 then if inS S t.a = true then (f 0 (l ++ [⟨t.name, t.a, []⟩]) S).bind fun y => .ok (.mk 9 0 [t.a, y]) else .error 6
 else if t.kind = 11 then if takes S t.vars = true then (f 0 l (t.vars ++ S)).bind fun y => f 1 (l ++ [⟨t.name, y, t.vars⟩]) S else .error 6
 else if t.kind = 12 then
  if takes S t.vars = true then
   if inS (t.vars ++ S) t.a = true ∧ inS (t.vars ++ S) t.b = true then
    (f 0 (l ++ [⟨t.name, .mk 9 0 [t.a, t.b], []⟩, ⟨t.arg, t.a, []⟩]) (t.vars ++ S)).bind fun y =>
      if y = t.b then f 1 (l ++ [⟨t.name, .mk 9 0 [t.a, t.b], t.vars⟩]) S else .error 4
   else .error 6
  else .error 6
 else if t.kind = 14 then (f 0 l S).bind fun y => ckArms y l S (t.pats.zip (fs.drop 1)) none
 else (ckKids l S fs).bind fun k => ckOf t S k
noncomputable def ck (t : Tm) : Chk := ckBody t (t.kids.attach.map fun k => ck k.1)
termination_by SizeOf.sizeOf t
decreasing_by exact Tm.kid_lt k.2
theorem ck_eq (t : Tm) : ck t = ckBody t (t.kids.map ck) := by
 rw [ck]
 congr 1
 exact List.attach_map_val (f := ck) ..
end Go.Su

/-
 FROM A READING TO DATA: binds, numbers, slices.
-/
namespace Go.Su
set_option linter.unusedSimpArgs false
set_option linter.unusedVariables false
section
variable {H : Type} {enc : TypeId × Value → H} {P : Program} {w : World} {held : Bool}
def BndAt (P : Program) (t : TypeId) : Prop := ∃ f0 f1 : Field, P.underlying t = some (.struct #[f0, f1]) ∧ P.cellsOf t = 4 ∧ (IntAt P f0.type ∧ f0.offset = 0) ∧ (TyAt P f1.type ∧ f1.offset = 1)
theorem BndAt.cells {t : TypeId} (A : BndAt P t) : P.cellsOf t = 4 := by obtain ⟨_, _, _, h, _⟩ := A; exact h
theorem rd_Bnd {t : TypeId} (A : BndAt P t) (fuel : Nat) (cs : List Value) (x : DataW H × List MemPlace) (hr : Rd enc P w held fuel t cs = some x) : ∃ a : Int × Ty, RC (Old w) w.heap (encBnd a) cs ∧ a.2.size ≤ bulkW x.1 := by
 obtain ⟨f0, f1, hu, hc, ⟨t0, o0⟩, t1, o1⟩ := A
 obtain ⟨n, ds, rfl, hb, hl, hd, hf⟩ := rd_struct hu hr
 rw [hc] at hl
 obtain ⟨y0, r0, d0⟩ := hf 0 f0 rfl
 rw [o0, t0.2] at r0
 obtain ⟨v0, q0, -, b0⟩ := rd_int t0.1 r0
 obtain ⟨y1, r1, d1⟩ := hf 1 f1 rfl
 rw [o1, t1.cells] at r1
 obtain ⟨v1, q1, b1⟩ := rd_Ty t1 _ _ _ r1
 rw [Ty.enc_eq] at q1
 simp only [RC] at q1
 refine ⟨(v0, v1), ?_, ?_⟩
 ·simp only [encBnd, RC]
  have e : cs = (cs.drop 0).take 1 ++ (cs.drop 1).take 3 := by
   match cs, hl with
   | [c0, c1, c2, c3], _ => rfl
  rw [e]
  exact RLs_append (a := [_]) (RLs_one rfl q0) q1
 ·rw [hb]
  have hs : ds = [y0.1, y1.1] := by
   have hd : ds.length = 2 := hd
   match ds, hd, d0, d1 with
   | [a0, a1], _, d0, d1 => simp_all
  rw [hs]
  simp only [bulkAll]
  omega
theorem bnds_size {l : List (Int × Ty)} {n : Nat} (h : (l.map fun e => e.2.size).sum + 1 ≤ n) : (∀ e ∈ l, e.2.size ≤ n) ∧ l.length ≤ n := by
 constructor
 ·intro e he
  have := le_sum_mem (List.mem_map_of_mem (f := fun e : Int × Ty => e.2.size) he)
  omega
 ·have : ∀ l : List (Int × Ty), l.length ≤ (l.map fun e => e.2.size).sum := by
   intro l
   induction l with
   | nil => simp
   | cons x l ih => have := Ty.size_pos x.2; simp only [List.length_cons, List.map_cons, List.sum_cons]; omega
  have := this l
  omega
end
theorem RV_of_slice {P : Program} {w : World} {r : Reach} {b : Nat} {t el : TypeId} {v : Value} {S : Seal} {h' : Heap} {sz : Nat} {ds : List DV} (ht : P.underlying t = some (.slice el)) (h : Value.okWide P w r b t v) (hr : RC S h' (.list sz ds) v.cells.toList) : RV S h' (.list sz ds) v := by
 unfold Value.okWide at h
 rw [ht] at h
 have hv : v.cells = #[v] := by
  cases v <;> first | rfl | (exfalso; revert h; simp [Cell.okWide, Cell.ok, ht])
 rw [hv] at hr
 simpa [RV] using hr
section
variable {H : Type} {enc : TypeId × Value → H} {P : Program} {w : World} {base : Nat} {spare : Nat → Bool} {held : Bool}
end
end Go.Su

/-
 THE DATA MACHINE: the program's functions are what one step makes of them: as an equation; runs on closed data by rewriting.
-/
namespace Go.Su
theorem run_fix {C : Cfg} : OLe (run C) (stepOrc C (run C)) := by
 constructor
 ·intro f ds d H
  obtain ⟨n, hn⟩ := run_lim.p f ds d H
  cases n with
  | zero => simp [orcN] at hn
  | succ n => exact (step_mono (orc_run n)).p _ _ _ hn
 ·intro f rs sg q H
  obtain ⟨n, hn⟩ := run_lim.r f rs sg q H
  cases n with
  | zero => simp [orcN] at hn
  | succ n => exact (step_mono (orc_run n)).r _ _ _ _ hn
theorem eq_of_le {α : Type} {x y : Option α} (h : ∀ a, x = some a → y = some a) (h' : ∀ a, y = some a → x = some a) : x = y := by
 cases hx : x with
 | some a => exact (h a hx).symm
 | none =>
   cases hy : y with
   | none => rfl
   | some b => have := h' b hy; rw [hx] at this; cases this
theorem fix_pure {C : Cfg} {f : FuncId} {fn : Func} {c : Code} {ds : List DV} (hp : C.prim f = none) (hf : C.P.funcs[f]? = some fn) (hb : fn.body = some c) :
 (run C).p f ds = evP C (run C) (C.fl f) (retP C.P fn) [] c (initSt fn (ds.map fun d => (d, .val)) []) := by
 rw [evP_nil]
 have e : (stepOrc C (run C)).p f ds = evK C (run C) (C.fl f) c (retP C.P fn) (initSt fn (ds.map fun d => (d, .val)) []) := by simp only [stepOrc, evBody, hp, hf, hb, ob_mk]
 rw [← e]
 exact eq_of_le (fun a h => run_fix.p _ _ _ h) (fun a h => run_step.p _ _ _ h)
theorem fix_raw {C : Cfg} {f : FuncId} {fn : Func} {c : Code} {s : Sig} {rs : List (DV × Meta)} {sg : List SObj} (hs : C.sig f = some s) (hf : C.P.funcs[f]? = some fn) (hb : fn.body = some c) :
 (run C).r f rs sg = evP C (run C) (C.fl f) (retR C.P fn s) [] c (initSt fn rs sg) := by
 rw [evP_nil]
 have e : (stepOrc C (run C)).r f rs sg = evK C (run C) (C.fl f) c (retR C.P fn s) (initSt fn rs sg) := by simp only [stepOrc, hs, hf, hb, ob_mk]
 rw [← e]
 exact eq_of_le (fun a h => run_fix.r _ _ _ _ h) (fun a h => run_step.r _ _ _ _ h)
end Go.Su

/-
 THE DATA MACHINE, part 36: a map's keys, collected by a loop and sorted.
-/
namespace Go.Su
open Go.Sort
def mkeyB : DV → List UInt8
 | .str s => s.data.toList
 | _ => []
def strD (l : List UInt8) : DV := .str ⟨l.toArray⟩
def sortB (l : List (List UInt8)) : List (List UInt8) := l.mergeSort fun x y => decide (x ≤ y)
def sortKeys (es : List (DV × DV)) : DV := .list 1 ((sortB (es.map fun e => mkeyB e.1)).map strD)
def blank (n k : Nat) : St := { tm := List.replicate n .undef, mt := List.replicate n .val, bx := List.replicate n none, sg := List.replicate k (.arr 1 []) }
structure OpR where
 type : TypeId
 pos : String
 after : Array Edge
def OpR.mk' (r : OpR) (dst : Option Nat) (op : Op) : Oper := ⟨dst, op, r.type, r.pos, r.after, none⟩
structure KP where
 pre6 : List Oper
 rRange : OpR
 rNext : OpR
 rExt : OpR
 rEntry : OpR
 rExt2 : OpR
 rAsg : OpR
 rMv : OpR
 rMv2 : OpR
 rBs : OpR
 rApp : OpR
 rAsg2 : OpR
 rMv3 : OpR
 rCall : OpR
 i6 : Nat
 b0 : Nat
 i7 : Nat
 b1 : Nat
 i8 : Nat
 i9 : Nat
 i10 : Nat
 it : Nat
 mm : Nat
 t21 : Nat
 t22 : Nat
 t23 : Nat
 t24 : Nat
 tk : Nat
 t25 : Nat
 t26 : Nat
 t27 : Nat
 t28 : Nat
 tl : Nat
 t29 : Nat
 t30 : Nat
 tm : TypeId
 ts : TypeId
 te : TypeId
 kt : TypeId
 vt : TypeId
 f : FuncId
def KP.code (q : KP) (post : Code) : Code :=
 .seq (.seq (.region q.i6 (q.pre6 ++ [q.rRange.mk' (some q.it) (.range q.tm (.tmp q.mm))]).toArray false)
  (.block q.b0 (.loop (.seq (.region q.i7 #[q.rNext.mk' (some q.t21) (.next (.tmp q.it) false), q.rExt.mk' (some q.t22) (.extract (.tmp q.t21) 0)] false)
    (.seq (.cond (.tmp q.t22) .skip (.exit q.b0))
      (.block q.b1 (.seq (.region q.i8 #[q.rEntry.mk' (some q.t23) (.entry (.tmp q.it)), q.rExt2.mk' (some q.t24) (.extract (.tmp q.t23) 0), q.rAsg.mk' (some q.tk) (.assign (.tmp q.t24))] false)
        (.region q.i9 #[q.rMv.mk' (some q.t25) (.move (.tmp q.tl)), q.rMv2.mk' (some q.t26) (.move (.tmp q.tk)), q.rBs.mk' (some q.t27) (.buildSlice q.ts 1 #[(0, .tmp q.t26)]),
          q.rApp.mk' (some q.t28) (.call { callee := .builtin .append, args := #[.tmp q.t25, .tmp q.t27], argTypes := #[q.ts, q.ts] }), q.rAsg2.mk' (some q.tl) (.assign (.tmp q.t28))] false))))))))
  (.seq (.region q.i10 #[q.rMv3.mk' (some q.t29) (.move (.tmp q.tl)), q.rCall.mk' (some q.t30) (.call { callee := .value (.func q.f), args := #[.tmp q.t29], argTypes := #[q.ts] })] false) post)
def dumC (P : Program) : Cfg := { P := P, fl := fun _ => {}, sig := fun _ => none, prim := fun _ => none, clone := fun _ => false, csz := fun _ => 0 }
def dumR : Orc := { p := fun _ _ => none, r := fun _ _ _ => none }
theorem dum_ok (P : Program) : OrcOk (dumC P) dumR := ⟨fun _ _ _ h => by simp [dumR] at h, fun _ _ _ _ h => by simp [dumR] at h, fun _ h => by simp [dumC] at h, fun _ _ h => by simp [dumC] at h, fun _ _ h => by simp [dumC] at h⟩
def isNilSl : DV × Meta → Bool
 | (.list _ [], .full) => true
 | _ => false
def KP.regs (q : KP) : List Nat := [q.it, q.t21, q.t22, q.t23, q.t24, q.tk, q.t25, q.t26, q.t27, q.t28, q.tl, q.t29, q.t30]
def mapIx : Meta → Option Nat
 | .map i => some i
 | _ => none
def evPre {X : Type} (C : Cfg) (R : Orc) : List Oper → St → (St → Option X) → Option X
 | [], st, k => k st
 | o :: os, st, k =>
   match o.guard with
   | none => evOp C R {} o st fun st => evPre C R os st k
   | some _ => none
def KP.midK {X : Type} (P : Program) (q : KP) (st : St) (k : St → Option X) : Option X :=
 evPre (dumC P) dumR q.pre6 st fun st1 =>
  ob (mapIx (st1.get q.mm).2) fun i => ob (sgMap st1.sg i) fun p => og (p.1 && isNilSl (st1.get q.tl) && q.regs.all (fun t => decide (t < st1.tm.length)))
   (if p.2.length ≤ lim then k ((blank st1.tm.length st1.sg.length).put (some q.tl) (sortKeys p.2) .val) else none)
def KP.mid (P : Program) (q : KP) (st : St) : Option St := q.midK P st some
theorem evPre_ops {X : Type} {C : Cfg} {R : Orc} {ops : List Oper} {k : St → Option X} {x : X} : ∀ {os : List Oper} {st : St}, evPre C R os st k = some x → evOps C R {} ops os st k = some x
 | [], st, H => H
 | o :: os, st, H => by
   simp only [evPre] at H
   simp only [evOps, forceSt_eq]
   cases hg : o.guard with
   | none =>
     rw [hg] at H
     simp only at H ⊢
     obtain ⟨s, h1, h2⟩ := evOp_nat H
     rw [h2]
     exact evPre_ops h1
   | some g => rw [hg] at H; cases H
structure KP.Ok (P : Program) (q : KP) : Prop where
 nodup : q.regs.Nodup
 hm : P.underlying q.tm = some (.map q.kt q.vt)
 hs : P.underlying q.ts = some (.slice q.te)
 info : ∃ i z, P.info? q.te = some i ∧ i.zero = some z ∧ z.cells.size = 1 ∧ i.size = 1 ∧ i.bytes = 16
 go : isGo P q.f = true
 sort : ∀ (blk off cap : Nat) (ss : List (List UInt8)) (w : World), Holds Go.Proofs.encStr w blk off ss.toArray → blk < w.heap.size → ss.length < 4611686018427387904 →
  Calls P q.f #[.slice (some ⟨blk, off, none⟩) ss.length cap] w fun e w' => e = .returned (.tuple #[]) ∧ ∃ n os, w' = grow (putRow Go.Proofs.encStr (Sort.ahead w n) blk off (ss.mergeSort fun x y => decide (x ≤ y)).toArray) os
 sort0 : ∀ (p : Option Addr) (cap : Nat) (w : World), Calls P q.f #[.slice p 0 cap] w fun e w' => e = .returned (.tuple #[]) ∧ w' = w
theorem eval_same {a : Act} {t : Nat} {v : Value} (h : t < a.tmps.size) : (a.put (some t) v).eval (.tmp t) = v := by
 simp [Act.put, Act.eval, Array.getD_eq_getD_getElem?, Array.getElem?_setIfInBounds_self_of_lt h]
theorem eval_other {a : Act} {t u : Nat} {v : Value} (h : t ≠ u) : (a.put (some t) v).eval (.tmp u) = a.eval (.tmp u) := by
 simp [Act.put, Act.eval, Array.getD_eq_getD_getElem?, Array.getElem?_setIfInBounds_ne h]
section
variable {P : Program} {n : Nat} {ops : Array Oper} {Q : Exit → Act → World → Prop} {a : Act} {w w' : World} {o : Oper} {rest : List Oper} {v : Value}
theorem step_value (hg : o.guard = none) (hd : ∀ c, o.op ≠ .defer c) (hr : (execOp a.eval o).run P w = .ok (.value v) w') (hk : wpListIn (rnd none) n P ops Q rest (a.put o.dst v) w') : wpListIn (rnd none) n P ops Q (o :: rest) a w :=
 wpListIn_plain hg fun K hK => Gp.wpIn hd (wp_value hr (hK _ _ hk))
theorem step_move {r : OpR} {t u : Nat} (hk : wpListIn (rnd none) n P ops Q rest (a.put (some t) (a.eval (.tmp u))) w) : wpListIn (rnd none) n P ops Q (r.mk' (some t) (.move (.tmp u)) :: rest) a w :=
 step_value rfl (fun c h => by cases h) (by simp [OpR.mk', execOp]) hk
theorem step_assign {r : OpR} {t u : Nat} (hk : wpListIn (rnd none) n P ops Q rest (a.put (some t) (a.eval (.tmp u))) w) : wpListIn (rnd none) n P ops Q (r.mk' (some t) (.assign (.tmp u)) :: rest) a w :=
 step_value rfl (fun c h => by cases h) (by simp [OpR.mk', execOp]) hk
theorem step_extract {r : OpR} {t u : Nat} {vs : Array Value} {x : Value} (hv : a.eval (.tmp u) = .tuple vs) (hx : vs[0]? = some x) (hk : wpListIn (rnd none) n P ops Q rest (a.put (some t) x) w) :
 wpListIn (rnd none) n P ops Q (r.mk' (some t) (.extract (.tmp u) 0) :: rest) a w := by
 refine step_value (v := x) rfl (fun c h => by cases h) ?_ hk
 simp [OpR.mk', execOp, hv, Instr.extract, hx]
theorem step_buildOne {r : OpR} {t u : Nat} {ts te : TypeId} {i : TypeInfo} {z : Value} {l : List UInt8} (hs : P.underlying ts = some (.slice te)) (hi : P.info? te = some i) (hz : i.zero = some z) (hz1 : z.cells.size = 1) (hi1 : i.size = 1) (hv : a.eval (.tmp u) = Go.Proofs.encStr l)
 (hk : wpListIn (rnd none) n P ops Q rest (a.put (some t) (.slice (some ⟨w.heap.size, 0, none⟩) 1 1)) (w.alloc (.cells #[Go.Proofs.encStr l] te))) :
 wpListIn (rnd none) n P ops Q (r.mk' (some t) (.buildSlice ts 1 #[(0, .tmp u)]) :: rest) a w := by
 refine step_value (v := .slice (some ⟨w.heap.size, 0, none⟩) 1 1) rfl (fun c h => by cases h) ?_ hk
 simp only [OpR.mk', execOp]
 refine run_v ?_
 obtain ⟨c, hc⟩ : ∃ c, z.cells = #[c] := Array.size_eq_one_iff.1 hz1
 have hf : Instr.fill (fun i => some (i * 1, 1)) ((Array.range (1 * 1)).map (z.cells[· % z.cells.size]!)) [(0, Go.Proofs.encStr l)] = some #[Go.Proofs.encStr l] := by
  have h1 : (Array.range (1 * 1)).map (z.cells[· % z.cells.size]!) = #[c] := by
   apply Array.ext (by simp)
   intro i h1 h2
   have : i = 0 := by simp at h2; omega
   subst this
   simp [hc]
  rw [h1]
  rfl
 unfold Instr.buildSlice
 have hsz : (sizeOf te).run P w = .ok 1 w := by simp [sizeOf, typeInfo, hi, hi1]
 simp only [Sem.run_bind, run_underlying hs, Result.andThen_ok, hsz, Sem.run_ite]
 rw [if_neg (by omega), if_neg (by omega)]
 simp only [zeroValue, typeInfo, Sem.run_bind, run_program, Result.andThen_ok, hi, Sem.run_pure, hz]
 have : (Array.map (fun x => (x.1, a.eval x.2)) #[(0, Operand.tmp u)]).toList = [(0, Go.Proofs.encStr l)] := by simp [hv]
 simp only [this, hf]
 rfl
def Row (w : World) (base : Nat) (te : TypeId) (v : Value) (ss : List (List UInt8)) : Prop :=
 (ss = [] ∧ ∃ p, v = .slice p 0 0) ∨ w.ownsRow base te 1 v ss.length (ss.map Go.Proofs.encStr)
theorem append_nil {ts te ty : TypeId} {i : TypeInfo} (hs : P.underlying ts = some (.slice te)) (hi : P.info? te = some i) (hi1 : i.size = 1) (hb : i.bytes = 16) (p : Option Addr) (y : Addr) (w : World) :
 (Builtin.append_ #[ts, ts] ty #[.slice p 0 0, .slice (some y) 1 1]).run P w = (Builtin.append_ #[ts, ts] ty #[.slice none 0 0, .slice (some y) 1 1]).run P w := by
 have hcap : ¬ (281474976710656 < Builtin.nextslicecap 1 0 * 16) := by decide
 cases p with
 | none => rfl
 | some q =>
   have hl : ∀ w', (loadCells q 0).run P w' = .ok #[] w' := fun w' => rfl
   unfold Builtin.append_
   simp [run_underlying hs, sizeOf, typeInfo, hi, hi1, hb, Builtin.lenOf, Builtin.firstCells, hcap, hl]
theorem step_append {r : OpR} {t s x : Nat} {ts te : TypeId} {i : TypeInfo} {z : Value} {base : Nat} {ss : List (List UInt8)} {l : List UInt8} {g : Nat} (hs : P.underlying ts = some (.slice te)) (hi : P.info? te = some i) (hz : i.zero = some z) (hz1 : z.cells.size = 1) (hi1 : i.size = 1) (hb : i.bytes = 16)
 (hrow : Row w base te (a.eval (.tmp s)) ss) (hx : a.eval (.tmp x) = .slice (some ⟨g, 0, none⟩) 1 1) (hg : w.heap[g]? = some (.cells #[Go.Proofs.encStr l] te (0, 0))) (hl : ss.length + 1 ≤ lim) (hbase : base ≤ w.heap.size)
 (hk : ∀ v' w', Row w' base te v' (ss ++ [l]) → (∃ row, w.grownBy w' row ∧ ∀ k, row = some k → base ≤ k ∧ ∃ c T f, w.heap[k]? = some (.cells c T f)) → wpListIn (rnd none) n P ops Q rest (a.put (some t) v') w') :
 wpListIn (rnd none) n P ops Q (r.mk' (some t) (.call { callee := .builtin .append, args := #[.tmp s, .tmp x], argTypes := #[ts, ts] }) :: rest) a w := by
 have hl' : ss.length + 1 ≤ 4294967296 := hl
 have hcell : ∀ (j : Nat) u, [Go.Proofs.encStr l][j]? = some u → w.cell? ((⟨g, 0, none⟩ : Addr).add j) = some u := by
  intro j u hu
  cases j with
  | zero =>
    simp only [List.getElem?_cons_zero, Option.some.injEq] at hu
    subst hu
    simp [World.cell?, Addr.add, hg]
  | succ j => simp at hu
 have fin : ∀ (v0 : Value), w.ownsRow base te 1 v0 ss.length (ss.map Go.Proofs.encStr) → (Builtin.append_ #[ts, ts] r.type #[a.eval (.tmp s), .slice (some ⟨g, 0, none⟩) 1 1]).run P w = (Builtin.append_ #[ts, ts] r.type #[v0, .slice (some ⟨g, 0, none⟩) 1 1]).run P w →
  wpListIn (rnd none) n P ops Q (r.mk' (some t) (.call { callee := .builtin .append, args := #[.tmp s, .tmp x], argTypes := #[ts, ts] }) :: rest) a w := by
  intro v0 hrow he
  obtain ⟨v', w', h1, h2, h3, -⟩ := run_append_own (P := P) w base ts r.type te i z 1 16 hs hi hz hi1 hb hz1 (by omega) v0 _ _ hrow ⟨g, 0, none⟩ 1 1 [Go.Proofs.encStr l] rfl hcell (by simp [Value.oneCell']) (by unfold maxLen; omega) (by omega) hbase
  refine step_value (v := v') (w' := w') rfl (fun c h => by cases h) ?_ (hk v' w' (.inr (by simpa using h2)) ⟨_, h3, fun k hk => ?_⟩)
  ·refine call_builtin (C := dumC P) (b := .append) rfl rfl ?_
   simp only [List.map_toArray, List.map_cons, List.map_nil, hx]
   exact run_v (he.trans h1)
  ·rcases hrow.2 with ⟨rfl, _⟩ | ⟨g', cap, cur, rfl, e1, e2, -⟩
   ·simp [Value.ownBlock] at hk
   ·simp only [Value.ownBlock, Option.some.injEq] at hk
    subst hk
    exact ⟨e1, _, _, _, e2⟩
 rcases hrow with ⟨hss, p, hv⟩ | hrow
 ·subst hss
  exact fin (.slice none 0 0) ⟨rfl, .inl ⟨rfl, rfl⟩⟩ (by rw [hv]; exact append_nil hs hi hi1 hb _ _ _)
 ·exact fin _ hrow rfl
end
section
variable {C : Cfg} {R : Orc} {X : Type} {fl : Flags} {Q : Exit → Act → World → Prop} {ops : List Oper}
theorem sim_pre {k : St → Option X} {x : X} {ro : Option Nat} {n : Nat} {rest : List Nat} (hO : OrcOk C R) : ∀ {os : List Oper} {i : Nat} {st : St} {E : Env} {a : Act} {w : World}, (∀ (j : Nat) o, os[j]? = some o → ops[i + j]? = some o) → evOps C R fl ops os st k = some x → Rel E st a w.heap →
 (∀ E' t a' w', k t = some x → a'.defers = a.defers → Rel E' t a' w'.heap → Pr Ours E w.heap E' w'.heap → Outer w w' → wpOpsIn (rnd ro) n C.P ops.toArray Q rest a' w') → wpOpsIn (rnd ro) n C.P ops.toArray Q (List.range' i os.length ++ rest) a w
 | [], i, st, E, a, w, _, H, Rl, T => T E st a w H rfl Rl (Pr.refl _ _ _) (Outer.refl _)
 | o :: os, i, st, E, a, w, hs, H, Rl, T => by
   obtain ⟨s1, h1, h2⟩ := evOps_step H
   have hs' : ∀ (j : Nat) o, os[j]? = some o → ops[i + 1 + j]? = some o := fun j o ho => by
    rw [show i + 1 + j = i + (j + 1) by omega]
    exact hs (j + 1) o (by simpa using ho)
   simp only [List.length_cons, List.range'_succ, List.cons_append]
   rw [wpOpsIn_cons]
   refine sim_G hO (by simpa using hs 0 o rfl) h1 Rl fun E' a' w' D1 R1 P1 O1 => ?_
   exact sim_pre hO hs' h2 R1 fun E2 t a2 w2 k1 k0 k2 k3 k4 => T E2 t a2 w2 k1 (k0.trans D1) k2 (P1.trans k3) (O1.trans k4)
end
def keyV (e : MapEntry) : List UInt8 :=
 match e.key with
 | .string s => s.data.toList
 | _ => []
structure Und (q : KP) (a1 : Act) (w1 : World) (ens : Array MapEntry) (clk bm : Nat) (m : Nat) (got : List MapEntry) (a : Act) (w : World) : Prop where
 size : a.tmps.size = a1.tmps.size
 defers : a.defers = a1.defers
 it : a.eval (.tmp q.it) = .pointer (some ⟨w1.heap.size, 0, none⟩)
 row : Row w w1.heap.size q.te (a.eval (.tmp q.tl)) (got.map keyV)
 iter : w.heap[w1.heap.size]? = some (.mapIter (some bm) clk (got.map (·.born)).toArray clk)
 mem : ∀ e ∈ got, e ∈ ens.toList
 nodup : (got.map (·.born)).Nodup
 len : (leftOf ens (got.map (·.born)).toArray).size ≤ m
 grown : w1.grownBy w none
theorem grown_row {w0 w w' : World} {row : Option Nat} (h : w0.grownBy w none) (g : w.grownBy w' row) (hb : ∀ k, row = some k → w0.heap.size ≤ k) : w0.grownBy w' none := by
 refine ⟨g.os.trans h.os, g.tape.trans h.tape, g.output.trans h.output, Nat.le_trans h.size g.size, fun k hk _ => ?_⟩
 have h1 := h.block k hk (by simp)
 rw [← h1]
 refine g.block k (Nat.lt_of_lt_of_le hk h.size) fun he => ?_
 have := hb k he.symm
 omega
theorem grown_heap {w w' : World} (h : w'.heap = w.heap) (o : Outer w w') : w.grownBy w' none := ⟨o.os, o.tape, o.output, by rw [h]; exact Nat.le_refl _, fun k _ _ => by rw [h]⟩
theorem grown_set {w : World} {b : Nat} {o : Obj} {w0 : World} (h : w0.grownBy w none) (hb : w0.heap.size ≤ b) : w0.grownBy (Go.ChangeMaps.setBlock w b o) none :=
 ⟨h.os, h.tape, h.output, by simpa [Go.ChangeMaps.setBlock] using h.size, fun k hk _ => by
   simp only [Go.ChangeMaps.setBlock]
   rw [Array.getElem?_setIfInBounds_ne (by omega)]
   exact h.block k hk (by simp)⟩
theorem Row.kept {w w' : World} {base : Nat} {te : TypeId} {v : Value} {ss : List (List UInt8)} (h : Row w base te v ss) (hk : ∀ (b : Nat) c T f, w.heap[b]? = some (Obj.cells c T f) → w'.heap[b]? = some (Obj.cells c T f)) : Row w' base te v ss := by
 rcases h with h | ⟨h1, h2⟩
 ·exact .inl h
 ·refine .inr ⟨h1, ?_⟩
  rcases h2 with h2 | ⟨g, cap, cur, e1, e2, e3, e4⟩
  ·exact .inl h2
  ·exact .inr ⟨g, cap, cur, e1, e2, hk _ _ _ _ e3, e4⟩
theorem nodup_of_map {α β : Type} (f : α → β) {l : List α} (h : (l.map f).Nodup) : l.Nodup := List.Pairwise.of_map f (fun a b hn he => hn (by rw [he])) h
theorem len_of_subset {α : Type} [DecidableEq α] : ∀ {l m : List α}, l.Nodup → (∀ x ∈ l, x ∈ m) → l.length ≤ m.length
 | [], m, _, _ => Nat.zero_le _
 | a :: l, m, hn, hs => by
   obtain ⟨h1, h2⟩ := List.nodup_cons.1 hn
   have h3 := len_of_subset (m := m.erase a) h2 fun x hx => (List.mem_erase_of_ne (fun h : x = a => h1 (by rw [← h]; exact hx))).2 (hs x (List.mem_cons_of_mem _ hx))
   have h4 := hs a (List.mem_cons_self ..)
   have h5 := List.length_pos_of_mem h4
   rw [List.length_erase_of_mem h4] at h3
   simp only [List.length_cons]
   omega
theorem left_less {es : Array MapEntry} {l : List Nat} {e : MapEntry} (he : e ∈ (leftOf es l.toArray).toList) : (leftOf es (l ++ [e.born]).toArray).size < (leftOf es l.toArray).size := by
 unfold leftOf at he ⊢
 rw [Array.toList_filter] at he
 have hsz : ∀ p : MapEntry → Bool, (es.filter p).size = (es.toList.filter p).length := fun p => by rw [← Array.toList_filter, Array.length_toList]
 rw [hsz, hsz]
 have h1 : es.toList.filter (fun x => !(l ++ [e.born]).toArray.contains x.born) = (es.toList.filter fun x => !l.toArray.contains x.born).filter fun x => x.born != e.born := by
  rw [List.filter_filter]
  refine List.filter_congr fun x _ => ?_
  simp only [List.contains_toArray, List.contains_append, Bool.not_or]
  rw [Bool.and_comm]
  congr 1
  by_cases h : x.born = e.born <;> simp [h]
 rw [h1]
 refine Nat.lt_of_not_le fun hle => ?_
 have h2 := List.length_filter_le (fun x : MapEntry => x.born != e.born) (es.toList.filter fun x => !l.toArray.contains x.born)
 have h3 := List.length_filter_eq_length_iff.1 (Nat.le_antisymm h2 hle) e he
 simp at h3
set_option maxHeartbeats 2000000 in
theorem keys_ok {P : Program} {q : KP} (ok : q.Ok P) {post : Code} {n : Nat} {E : Env} {st st2 : St} {a : Act} {w : World} {Q : Exit → Act → World → Prop} (Rl : Rel E st a w.heap) (H : q.mid P st = some st2)
 (K : ∀ E' a' w', a'.defers = a.defers → Rel E' st2 a' w'.heap → Pr Ours E w.heap E' w'.heap → Outer w w' → post.wpIn (rnd none) n P Q a' w') : (q.code post).wpIn (rnd none) n P Q a w := by
 unfold KP.mid KP.midK at H
 refine wpIn_seq (wpIn_seq (wpIn_region ?_))
 have hr : List.range (q.pre6 ++ [q.rRange.mk' (some q.it) (.range q.tm (.tmp q.mm))]).toArray.size = List.range' 0 q.pre6.length ++ [q.pre6.length] := by
  simp [List.range_succ, List.range_eq_range']
 rw [hr]
 refine sim_pre (C := dumC P) (R := dumR) (ops := q.pre6 ++ [q.rRange.mk' (some q.it) (.range q.tm (.tmp q.mm))]) (dum_ok P) (fun j o ho => ?_) (evPre_ops H) Rl fun E1 st1 a1 w1 h1 d1 R1 P1 O1 => ?_
 ·rw [Nat.zero_add, List.getElem?_append_left (List.getElem?_eq_some_iff.1 ho).1]
  exact ho
 obtain ⟨i, hi, h1⟩ := ob_some h1
 obtain ⟨p, hp, h1⟩ := ob_some h1
 obtain ⟨hc, h1⟩ := og_some h1
 obtain ⟨hlim, h1⟩ := ite_some h1
 simp only [Option.some.injEq] at h1
 subst h1
 simp only [Bool.and_eq_true] at hc
 obtain ⟨⟨hks, hnil⟩, hregs⟩ := hc
 have hreg : ∀ t ∈ q.regs, t < a1.tmps.size := fun t ht => by
  have := List.all_eq_true.1 hregs t ht
  rw [R1.size]
  simpa using this
 have em := R1.src (P := P) (t := 0) (x := .tmp q.mm) rfl
 have hmm : (st1.get q.mm).2 = .map i := by
  revert hi
  cases (st1.get q.mm).2 <;> simp [mapIx]
 rw [hmm] at em
 simp only [RR, RM1] at em
 obtain ⟨hin, em⟩ := em
 have hsg : st1.sg[i]? = some (.map p.1 p.2) := by
  unfold sgMap at hp
  split at hp
  ·rename_i h; simp only [Option.some.injEq] at hp; subst hp; exact h
  ·cases hp
 have hRO := R1.objs i _ hsg
 simp only [RO] at hRO
 obtain ⟨ens, clk, b1, b2, ⟨b3, b4⟩, b5, b6⟩ := hRO
 have el := R1.src (P := P) (t := 0) (x := .tmp q.tl) rfl
 have hv0 : ∃ p, a1.eval (.tmp q.tl) = .slice p 0 0 := by
  revert el hnil
  cases (st1.get q.tl) with
  | mk d m =>
    intro hnil el
    unfold isNilSl at hnil
    split at hnil
    ·rename_i sz heq
     simp only [Prod.mk.injEq] at heq
     obtain ⟨rfl, rfl⟩ := heq
     simp only [RR, RM1, RV, RC] at el
     obtain ⟨⟨a0, len, cap, h1, h2, -⟩, ⟨a1', n1, h3⟩, -⟩ := el
     simp only [List.cons.injEq, and_true] at h1
     rw [h1] at h3
     simp only [Value.slice.injEq] at h3
     obtain ⟨-, rfl, rfl⟩ := h3
     simp only [List.length_nil] at h2
     subst h2
     exact ⟨a0, h1⟩
    ·cases hnil
 obtain ⟨inf, z, t1, t2, t3, t4, t5⟩ := ok.info
 have hkey : ∀ (j : Nat) e, ens[j]? = some e → ∃ d, p.2[j]? = some d ∧ e.key = Go.Proofs.encStr (keyV e) ∧ keyV e = mkeyB d.1 := by
  intro j e he
  have hj : j < p.2.length := by rw [b3]; exact (Array.getElem?_eq_some_iff.1 he).1
  obtain ⟨c1, c2, -⟩ := b4 j p.2[j] e (List.getElem?_eq_getElem hj) he
  refine ⟨_, List.getElem?_eq_getElem hj, ?_⟩
  rw [hks] at c1
  revert c1 c2
  cases p.2[j].1 <;> simp only [isKey, RV, Bool.not_true, Bool.false_and, Bool.false_eq_true, false_implies, imp_false] <;> try (intro h; cases h)
  rename_i s
  all_goals (intro hk; simp [keyV, mkeyB, hk, Go.Proofs.encStr])
 have hkey' : ∀ e ∈ ens.toList, e.key = Go.Proofs.encStr (keyV e) := fun e he => by
  obtain ⟨j, hj, hje⟩ := List.mem_iff_getElem.1 he
  obtain ⟨_, _, h, _⟩ := hkey j e (by rw [Array.getElem?_eq_getElem (by simpa using hj)]; simpa using hje)
  exact h
 have hkeys : ens.toList.map keyV = p.2.map fun e => mkeyB e.1 := by
  apply List.ext_getElem?
  intro j
  simp only [List.getElem?_map, Array.getElem?_toList]
  cases he : ens[j]? with
  | none =>
    have : p.2[j]? = none := by
     rw [List.getElem?_eq_none_iff, b3]
     exact Array.getElem?_eq_none_iff.1 he
    rw [this]; rfl
  | some e =>
    obtain ⟨d, h1, -, h2⟩ := hkey j e he
    rw [h1]
    simp [h2]
 have hborn : (ens.toList.map (·.born)).Nodup := by
  rw [List.nodup_iff_pairwise_ne, List.pairwise_iff_getElem]
  intro i j hi hj hij he
  simp only [List.length_map] at hi hj
  simp only [List.getElem_map] at he
  have := b6 i j _ _ (by rw [← Array.getElem?_toList]; exact List.getElem?_eq_getElem hi) (by rw [← Array.getElem?_toList]; exact List.getElem?_eq_getElem hj) he
  omega
 have hmemborn : ∀ x ∈ ens.toList, ∀ y ∈ ens.toList, x.born = y.born → x = y := by
  intro x hx y hy he
  obtain ⟨i, hi, rfl⟩ := List.mem_iff_getElem.1 hx
  obtain ⟨j, hj, rfl⟩ := List.mem_iff_getElem.1 hy
  have := b6 i j _ _ (by rw [← Array.getElem?_toList]; exact List.getElem?_eq_getElem hi) (by rw [← Array.getElem?_toList]; exact List.getElem?_eq_getElem hj) he
  subst this
  rfl
 have hbm : E1.obj i < w1.heap.size := (Array.getElem?_eq_some_iff.1 b1).1
 have hens : ens.size ≤ lim := by rw [← b3]; exact hlim
 rw [wpOpsIn_cons]
 unfold wpOpIn
 have ho : (q.pre6 ++ [q.rRange.mk' (some q.it) (.range q.tm (.tmp q.mm))]).toArray[q.pre6.length]? = some (q.rRange.mk' (some q.it) (.range q.tm (.tmp q.mm))) := by simp
 simp only [ho]
 rw [if_pos (by simp [Region.wanted, OpR.mk'])]
 refine Gp.wpIn (fun c h => by cases h) (wp_value (v := .pointer (some ⟨w1.heap.size, 0, none⟩)) (w' := w1.alloc (.mapIter (some (E1.obj i)) clk #[] clk)) ?_ ?_)
 ·simp only [OpR.mk', execOp]
  refine run_v ?_
  rw [em]
  exact run_range_map w1 _ _ _ _ _ _ ok.hm b1
 show Code.wpIn _ _ _ _ _ _ _
 have hn := ok.nodup
 simp only [KP.regs, List.nodup_cons, List.mem_cons, List.not_mem_nil, or_false, not_or, List.nodup_nil, and_true] at hn
 obtain ⟨⟨n1, n2, n3, n4, n5, n6, n7, n8, n9, n10, n11, n12⟩, ⟨-, m2, m3, m4, m5, m6, m7, m8, m9, m10, m11⟩, ⟨l1, l2, l3, l4, l5, l6, l7, l8, l9, l10⟩, ⟨k1, k2, k3, k4, k5, k6, k7, k8, k9⟩, ⟨-, j2, j3, j4, j5, j6, j7, j8⟩, ⟨i1, i2, i3, i4, i5, i6, i7⟩, ⟨g1, g2, g3, g4, g5, g6⟩, ⟨-, f2, f3, f4, f5⟩, ⟨-, e2, e3, e4⟩, ⟨d1', d2, d3⟩, ⟨c1, c2⟩, _⟩ := hn
 have regs_tl := hreg q.tl (by simp [KP.regs])
 have regs_it := hreg q.it (by simp [KP.regs])
 have regs_21 := hreg q.t21 (by simp [KP.regs])
 have regs_22 := hreg q.t22 (by simp [KP.regs])
 have regs_23 := hreg q.t23 (by simp [KP.regs])
 have regs_24 := hreg q.t24 (by simp [KP.regs])
 have regs_k := hreg q.tk (by simp [KP.regs])
 have regs_25 := hreg q.t25 (by simp [KP.regs])
 have regs_26 := hreg q.t26 (by simp [KP.regs])
 have regs_27 := hreg q.t27 (by simp [KP.regs])
 have regs_28 := hreg q.t28 (by simp [KP.regs])
 have regs_29 := hreg q.t29 (by simp [KP.regs])
 have r21i : q.t21 ≠ q.it := fun h => n1 h.symm
 have r22i : q.t22 ≠ q.it := fun h => n2 h.symm
 have r23i : q.t23 ≠ q.it := fun h => n3 h.symm
 have r24i : q.t24 ≠ q.it := fun h => n4 h.symm
 have rki : q.tk ≠ q.it := fun h => n5 h.symm
 have r25i : q.t25 ≠ q.it := fun h => n6 h.symm
 have r26i : q.t26 ≠ q.it := fun h => n7 h.symm
 have r27i : q.t27 ≠ q.it := fun h => n8 h.symm
 have r28i : q.t28 ≠ q.it := fun h => n9 h.symm
 have rli : q.tl ≠ q.it := fun h => n10 h.symm
 have r25k : q.t25 ≠ q.tk := fun h => i1 h.symm
 have r2625 : q.t26 ≠ q.t25 := fun h => g1 h.symm
 have r2725 : q.t27 ≠ q.t25 := fun h => g2 h.symm
 have r29l : q.t29 ≠ q.tl := fun h => c1 h.symm
 have r30l : q.t30 ≠ q.tl := fun h => c2 h.symm
 have done : ∀ (O' : Nat → Nat → Tag) (a3 : Act) (w3 : World) (v : Value), a3.tmps.size = a1.tmps.size → a3.defers = a1.defers → a3.eval (.tmp q.tl) = v → w1.grownBy w3 none → (∀ b o, b < w1.heap.size → O' b o = E1.O b o) →
  (∀ b o, w3.heap.size ≤ b → O' b o = .other) → RV (Env.S { E1 with O := O' }) w3.heap (sortKeys p.2) v → post.wpIn (rnd none) n P Q a3 w3 := by
  intro O' a3 w3 v s1 s2 s3 s4 s5 s6 s7
  have hblk : ∀ b, b < w1.heap.size → w3.heap[b]? = w1.heap[b]? := fun b hb => s4.block b hb (by simp)
  refine K { E1 with O := O' } a3 w3 (s2.trans d1) ⟨?_, ?_, ?_, ?_, fun t u hu => ?_, fun s cs hs => ?_, fun j ob hj => ?_, s6⟩ (P1.trans ⟨s4.size, fun b hb => by rw [hblk b hb]; exact KeepBlk.refl _ _, fun b o hb _ => s5 b o hb, Nat.le_refl _, fun _ _ => ⟨rfl, rfl, rfl⟩, fun _ _ => rfl⟩) (O1.trans ⟨s4.os, s4.tape, s4.output⟩)
  ·rw [put_tm]; simp [blank, s1, R1.size]
  ·rw [put_mt, put_tm]; simp [blank]
  ·rw [put_bx, put_tm]; simp [blank]
  ·rw [put_sg]; simp only [blank, List.length_replicate]; exact R1.n
  ·have hget : ∀ u, (blank st1.tm.length st1.sg.length).get u = (.undef, .val) := fun u => by
    simp only [St.get, blank, List.getD_eq_getElem?_getD, List.getElem?_replicate]
    split <;> rfl
   by_cases ht : q.tl = t
   ·subst ht
    rw [put_get_same (by simp [blank]; rw [← R1.size]; exact regs_tl) (by simp [blank])]
    have : u = v := by
     rw [← s3]
     simp [Act.eval, Array.getD_eq_getD_getElem?, hu]
    rw [this]
    exact s7
   ·rw [put_get_other ht, hget]
    simp only [RR, RM1, RV]
  ·simp only [put_bx, blank, List.getD_eq_getElem?_getD, List.getElem?_replicate] at hs
   split at hs <;> simp at hs
  ·simp only [put_sg, blank, List.getElem?_replicate] at hj
   split at hj <;> simp at hj
   subst hj
   simp [RO]
 have fin : ∀ m got a2 w2, Und q a1 w1 ens clk (E1.obj i) m got a2 w2 → (∀ e ∈ ens.toList, e ∈ got) → (Code.seq (.region q.i10 #[q.rMv3.mk' (some q.t29) (.move (.tmp q.tl)), q.rCall.mk' (some q.t30) (.call { callee := .value (.func q.f), args := #[.tmp q.t29], argTypes := #[q.ts] })] false) post).wpIn (rnd none) n P Q a2 w2 := by
  intro m got a2 w2 U hall
  have hperm : got.Perm ens.toList := (List.perm_ext_iff_of_nodup (nodup_of_map _ U.nodup) (nodup_of_map _ hborn)).2 fun e => ⟨U.mem e, hall e⟩
  have hpermK : (got.map keyV).Perm (p.2.map fun e => mkeyB e.1) := by rw [← hkeys]; exact hperm.map _
  have hlen : (got.map keyV).length ≤ lim := by rw [hpermK.length_eq, List.length_map]; exact hlim
  have hlen' : (got.map keyV).length ≤ 4294967296 := hlen
  have hsort : sortKeys p.2 = .list 1 ((sortB (got.map keyV)).map strD) := by
   unfold sortKeys
   rw [show sortB (p.2.map fun e => mkeyB e.1) = sortB (got.map keyV) from mergeSort_of_perm hpermK.symm]
  refine wpIn_seq (wpIn_region_list (show wpListIn _ _ _ _ _ [_, _] _ _ from step_move (wpListIn_plain rfl fun K' hK' => Gp.wpIn (fun c h => by cases h) ?_)))
  have size2 := U.size
  have hrun : (execOp (a2.put (some q.t29) (a2.eval (.tmp q.tl))).eval (q.rCall.mk' (some q.t30) (.call { callee := .value (.func q.f), args := #[.tmp q.t29], argTypes := #[q.ts] }))).run P w2 = .ok (.enter q.f #[a2.eval (.tmp q.tl)]) w2 := by
   have h29 : (a2.put (some q.t29) (a2.eval (.tmp q.tl))).eval (.tmp q.t29) = a2.eval (.tmp q.tl) := eval_same (by rw [size2]; exact regs_29)
   have hf : ∀ a : Act, a.eval (.func q.f) = .func (.func q.f) #[] #[] := fun a => rfl
   simp only [OpR.mk', execOp, resolve, hf, h29, Deferred.ofValue, Sem.run_bind, Sem.run_pure, Result.andThen_ok, invoke, List.map_toArray, List.map_cons, List.map_nil]
   rw [run_callFunc ok.go]
   rfl
  have e3 : ∀ u, (((a2.put (some q.t29) (a2.eval (.tmp q.tl))).put (some q.t30) u).eval (.tmp q.tl)) = a2.eval (.tmp q.tl) := fun u => by
   rw [eval_other r30l, eval_other r29l]
  refine wp_enter (C := dumC P) hrun ?_
  have row := U.row
  have nil : ∀ p0, got.map keyV = [] → a2.eval (.tmp q.tl) = .slice p0 0 0 → Calls P q.f #[a2.eval (.tmp q.tl)] w2 fun e w' => ∃ v, e = .returned v ∧ K' (((a2.put (some q.t29) (a2.eval (.tmp q.tl)))).put (some q.t30) v) w' := by
   intro p0 h0 hv
   rw [hv]
   refine (ok.sort0 p0 0 w2).mono ?_
   rintro e w' ⟨rfl, rfl⟩
   refine ⟨_, rfl, hK' _ _ ?_⟩
   rw [← hv]
   refine done (fun b o => if b < w1.heap.size then E1.O b o else .other) _ _ _ (by rw [act_put_size, act_put_size, size2]) U.defers (e3 _) U.grown (fun b o hb => if_pos hb) (fun b o hb => if_neg (by have := U.grown.size; omega)) ?_
   rw [hsort, h0, hv, show sortB [] = [] by simp [sortB]]
   exact RV_list_mk rfl (Nat.le_refl _) (fun _ => rfl) (fun h => absurd rfl h) fun x hx => ⟨fun h => absurd h (Nat.lt_irrefl _), by simp only [List.map_nil, RElems]⟩
  rcases row with ⟨h0, p0, hv⟩ | ⟨-, ⟨hv, h0⟩ | ⟨g, cap, cur, hv, hbase, hb, hc1, hc2, hc3, hc4⟩⟩
  ·exact nil p0 h0 hv
  ·exact nil none (List.eq_nil_of_length_eq_zero h0) hv
  ·have hH : Holds Go.Proofs.encStr w2 g 0 (got.map keyV).toArray := Go.holds_of_block hb (by simpa using hc4)
   have hgl : g < w2.heap.size := (Array.getElem?_eq_some_iff.1 hb).1
   show Calls P q.f #[a2.eval (.tmp q.tl)] w2 _
   rw [hv]
   refine (ok.sort g 0 cap (got.map keyV) w2 hH hgl (by omega)).mono ?_
   rintro e w' ⟨rfl, nn, os, rfl⟩
   refine ⟨_, rfl, hK' _ _ ?_⟩
   rw [← hv]
   have hs := Go.heap_sorted (n := nn) (os := os) ((got.map keyV).mergeSort fun x y => decide (x ≤ y)).toArray hb
   have hg := Go.grownBy_sorted (w := w2) (g := g) (n := nn) (os := os) ((got.map keyV).mergeSort fun x y => decide (x ≤ y)).toArray
   refine done (fun b o => if b < w1.heap.size then E1.O b o else if b = g ∧ o < (got.map keyV).length then .shut else .other) _ _ _ (by rw [act_put_size, act_put_size, size2]) U.defers (e3 _) (grown_row U.grown hg fun k hk => by cases hk; exact hbase) (fun b o hb => if_pos hb) (fun b o hb => ?_) ?_
   ·have h1 := U.grown.size
    have h2 := hg.size
    rw [if_neg (by omega), if_neg (by omega)]
   ·rw [hsort, hv]
    have hl : (sortB (got.map keyV)).length = (got.map keyV).length := (List.mergeSort_perm _ _).length_eq
    refine RV_list_mk ((show ((sortB (got.map keyV)).map strD).length = (sortB (got.map keyV)).length by simp).trans hl).symm hc1 (fun h => by cases h) (fun _ => Nat.one_pos) fun x hx => ?_
    simp only [Option.some.injEq] at hx
    subst hx
    refine ⟨fun _ => rfl, RElems_iff.2 fun j d hd => ?_⟩
    simp only [List.getElem?_map, Option.map_eq_some_iff] at hd
    obtain ⟨l, hl1, rfl⟩ := hd
    refine ⟨[.string ⟨l.toArray⟩], rfl, fun x u hu => ?_, rfl⟩
    have hj : j < (got.map keyV).length := by rw [← hl]; exact (List.getElem?_eq_some_iff.1 hl1).1
    cases x with
    | succ x => simp at hu
    | zero =>
      simp only [List.getElem?_cons_zero, Option.some.injEq] at hu
      subst hu
      constructor
      ·have hcs : (got.map keyV).length ≤ cur.size := by rw [hc3]; omega
       have ht := Go.take_putCells cur (sortB (got.map keyV)) (by rw [hl]; exact hcs)
       have h1 : ((putCells Go.Proofs.encStr 0 (sortB (got.map keyV)).toArray cur).toList.take (sortB (got.map keyV)).length)[j]? = ((sortB (got.map keyV)).map Go.Proofs.encStr)[j]? := by rw [ht]
       rw [List.getElem?_take_of_lt (by rw [hl]; exact hj), List.getElem?_map, hl1] at h1
       have h2 : (putCells Go.Proofs.encStr 0 (sortB (got.map keyV)).toArray cur)[j]? = some (Go.Proofs.encStr l) := by simpa using h1
       unfold hc
       rw [hs]
       show (putCells Go.Proofs.encStr 0 (sortB (got.map keyV)).toArray cur)[0 + j * 1 + 0]? = _
       rw [show 0 + j * 1 + 0 = j by omega]
       exact h2
      ·simp only [Env.S]
       rw [if_neg (by omega), if_pos (by simp; exact by simpa using hj)]
 refine wpIn_block (wpIn_loop_rounds (ens.size + 1) ?_)
 have round : ∀ (Kn : Act → World → Prop) m got a2 w2, Und q a1 w1 ens clk (E1.obj i) m got a2 w2 → (∀ got' a3 w3, 0 < m → Und q a1 w1 ens clk (E1.obj i) (m - 1) got' a3 w3 → Kn a3 w3) → Code.wpIn (rnd none) n P
  (.seq (.region q.i7 #[q.rNext.mk' (some q.t21) (.next (.tmp q.it) false), q.rExt.mk' (some q.t22) (.extract (.tmp q.t21) 0)] false)
    (.seq (.cond (.tmp q.t22) .skip (.exit q.b0))
      (.block q.b1 (.seq (.region q.i8 #[q.rEntry.mk' (some q.t23) (.entry (.tmp q.it)), q.rExt2.mk' (some q.t24) (.extract (.tmp q.t23) 0), q.rAsg.mk' (some q.tk) (.assign (.tmp q.t24))] false)
        (.region q.i9 #[q.rMv.mk' (some q.t25) (.move (.tmp q.tl)), q.rMv2.mk' (some q.t26) (.move (.tmp q.tk)), q.rBs.mk' (some q.t27) (.buildSlice q.ts 1 #[(0, .tmp q.t26)]),
          q.rApp.mk' (some q.t28) (.call { callee := .builtin .append, args := #[.tmp q.t25, .tmp q.t27], argTypes := #[q.ts, q.ts] }), q.rAsg2.mk' (some q.tl) (.assign (.tmp q.t28))] false)))))
  (Exit.then Kn (Exit.inBlock q.b0 (Exit.then ((Code.seq (.region q.i10 #[q.rMv3.mk' (some q.t29) (.move (.tmp q.tl)), q.rCall.mk' (some q.t30) (.call { callee := .value (.func q.f), args := #[.tmp q.t29], argTypes := #[q.ts] })] false) post).wpIn (rnd none) n P Q) Q))) a2 w2 := by
  intro Kn m got a2 w2 U hK
  have size2 := U.size
  have hb2 : w2.heap[E1.obj i]? = some (.map ens clk) := by rw [U.grown.block _ hbm (by simp)]; exact b1
  have hold : ∀ x ∈ ens.toList, x.born < clk := fun x hx => by
   obtain ⟨j, hj, rfl⟩ := List.mem_iff_getElem.1 hx
   exact b5 j _ (by rw [← Array.getElem?_toList]; exact List.getElem?_eq_getElem hj)
  refine wpIn_seq (wpIn_region_list (show wpListIn _ _ _ _ _ [_, _] _ _ from ?_))
  rcases run_next_at (P := P) w2 q.rNext.type _ _ clk clk _ ens clk U.iter hb2 hold (Nat.le_refl _) with ⟨h0, hrun⟩ | ⟨e, he, w3, hw3, hrun⟩
  ·-- nothing is left
   refine step_value (v := .tuple #[.bool false]) rfl (fun c h => by cases h) (by simp only [OpR.mk', execOp, U.it]; exact run_v hrun) ?_
   refine step_extract (eval_same (by rw [size2]; exact regs_21)) (x := .bool false) rfl ?_
   show Code.wpIn _ _ _ _ _ _ _
   refine wpIn_seq (wpIn_cond_false (eval_same (by rw [act_put_size, size2]; exact regs_22)) (wpIn_exit ?_))
   show Exit.inBlock q.b0 _ (.exit q.b0) _ _
   simp only [Exit.inBlock, if_true]
   refine fin m got _ _ ⟨by rw [act_put_size, act_put_size, size2], U.defers, by rw [eval_other r22i]; exact (eval_other r21i).trans U.it, ?_, U.iter, U.mem, U.nodup, U.len, U.grown⟩ fun x hx => ?_
   ·have : ((a2.put (some q.t21) (.tuple #[.bool false])).put (some q.t22) (.bool false)).eval (.tmp q.tl) = a2.eval (.tmp q.tl) := by rw [eval_other l8, eval_other m9]
    show Row w2 _ _ (((a2.put (some q.t21) (.tuple #[.bool false])).put (some q.t22) (.bool false)).eval (.tmp q.tl)) _
    rw [this]
    exact U.row
   ·have h1 : leftOf ens (got.map (·.born)).toArray = #[] := Array.eq_empty_of_size_eq_zero h0
    unfold leftOf at h1
    rw [Array.filter_eq_empty_iff] at h1
    have h2 := h1 x (by simpa using hx)
    simp only [Bool.not_eq_true', Bool.not_eq_false] at h2
    have h3 : x.born ∈ got.map (·.born) := by simpa using h2
    obtain ⟨y, hy, hyx⟩ := List.mem_map.1 h3
    rwa [hmemborn y (U.mem y hy) x hx hyx] at hy
  ·-- an entry has come
   have hex : e ∈ ens.toList ∧ e.born ∉ got.map (·.born) := by
    unfold leftOf at he
    simpa using he
   obtain ⟨hee, heb⟩ := hex
   have hw3h : w3.heap = w2.heap := by rcases hw3 with rfl | rfl <;> rfl
   have hw3o : Outer w2 w3 := by rcases hw3 with rfl | rfl <;> exact ⟨rfl, rfl, rfl⟩
   obtain ⟨w4, hw4⟩ : ∃ w4, Go.ChangeMaps.setBlock w3 w1.heap.size (.mapIter (some (E1.obj i)) clk ((got.map (·.born)).toArray.push e.born) clk) = w4 := ⟨_, rfl⟩
   rw [hw4] at hrun
   have hrlt : w1.heap.size < w3.heap.size := by rw [hw3h]; exact (Array.getElem?_eq_some_iff.1 U.iter).1
   have hit4 : w4.heap[w1.heap.size]? = some (.mapIter (some (E1.obj i)) clk ((got.map (·.born)).toArray.push e.born) clk) := by
    rw [← hw4]
    exact Array.getElem?_setIfInBounds_self_of_lt hrlt
   have hkeep4 : ∀ b, b ≠ w1.heap.size → w4.heap[b]? = w2.heap[b]? := fun b hb => by
    rw [← hw4, ← hw3h]
    exact Array.getElem?_setIfInBounds_ne (fun h => hb h.symm)
   have hsz4 : w4.heap.size = w2.heap.size := by rw [← hw4, ← hw3h]; simp [Go.ChangeMaps.setBlock]
   have hgr4 : w1.grownBy w4 none := by
    rw [← hw4]
    exact grown_set (grown_row U.grown (grown_heap hw3h hw3o) (by simp)) (Nat.le_refl _)
   have hb4 : w4.heap[E1.obj i]? = some (.map ens clk) := by rw [hkeep4 _ (by omega)]; exact hb2
   have hrow4 : Row w4 w1.heap.size q.te (a2.eval (.tmp q.tl)) (got.map keyV) := U.row.kept fun b c T f hb => by
    rw [hkeep4 b]
    ·exact hb
    ·rintro rfl
     rw [U.iter] at hb
     cases hb
   refine step_value (v := .tuple #[.bool true, e.key, e.val]) (w' := w4) rfl (fun c h => by cases h) (by simp only [OpR.mk', execOp, U.it]; exact run_v hrun) ?_
   refine step_extract (eval_same (by rw [size2]; exact regs_21)) (x := .bool true) rfl ?_
   show Code.wpIn _ _ _ _ _ _ _
   refine wpIn_seq (wpIn_cond_true (eval_same (by rw [act_put_size, size2]; exact regs_22)) (wpIn_skip ?_))
   show Code.wpIn _ _ _ _ _ _ _
   obtain ⟨a3, ha3⟩ : ∃ a3, ((a2.put (some q.t21) (.tuple #[.bool true, e.key, e.val])).put (some q.t22) (.bool true)) = a3 := ⟨_, rfl⟩
   have s3 : a3.tmps.size = a1.tmps.size := by rw [← ha3, act_put_size, act_put_size, size2]
   have it3 : a3.eval (.tmp q.it) = .pointer (some ⟨w1.heap.size, 0, none⟩) := by rw [← ha3, eval_other r22i, eval_other r21i]; exact U.it
   have tl3 : a3.eval (.tmp q.tl) = a2.eval (.tmp q.tl) := by rw [← ha3, eval_other l8, eval_other m9]
   have df3 : a3.defers = a1.defers := by rw [← ha3]; exact U.defers
   show Code.wpIn _ _ _ _ _ ((a2.put (some q.t21) (.tuple #[.bool true, e.key, e.val])).put (some q.t22) (.bool true)) _
   rw [ha3]
   clear hrun
   refine wpIn_block (wpIn_seq (wpIn_region_list (show wpListIn _ _ _ _ _ [_, _, _] _ _ from ?_)))
   refine step_value (v := .tuple #[e.key, e.val]) (w' := w4) rfl (fun c h => by cases h) (by simp only [OpR.mk', execOp, it3]; exact run_v (run_entry_at w4 _ _ clk _ ens clk e hit4 hb4 hee hborn)) ?_
   refine step_extract (eval_same (by rw [s3]; exact regs_23)) (x := e.key) rfl (step_assign ?_)
   show Code.wpIn _ _ _ _ _ _ _
   have hk24 : (((a3.put (some q.t23) (.tuple #[e.key, e.val])).put (some q.t24) e.key).eval (.tmp q.t24)) = e.key := eval_same (by rw [act_put_size, s3]; exact regs_24)
   obtain ⟨a4, ha4⟩ : ∃ a4, (((a3.put (some q.t23) (.tuple #[e.key, e.val])).put (some q.t24) e.key).put (some q.tk) e.key) = a4 := ⟨_, rfl⟩
   have s4 : a4.tmps.size = a1.tmps.size := by rw [← ha4, act_put_size, act_put_size, act_put_size, s3]
   have it4 : a4.eval (.tmp q.it) = .pointer (some ⟨w1.heap.size, 0, none⟩) := by rw [← ha4, eval_other rki, eval_other r24i, eval_other r23i]; exact it3
   have tl4 : a4.eval (.tmp q.tl) = a2.eval (.tmp q.tl) := by rw [← ha4, eval_other i5, eval_other j6, eval_other k7]; exact tl3
   have tk4 : a4.eval (.tmp q.tk) = Go.Proofs.encStr (keyV e) := by rw [← ha4, eval_same (by rw [act_put_size, act_put_size, s3]; exact regs_k)]; exact hkey' e hee
   have df4 : a4.defers = a1.defers := by rw [← ha4]; exact df3
   show Code.wpIn _ _ _ _ _ (((a3.put (some q.t23) (.tuple #[e.key, e.val])).put (some q.t24) e.key).put (some q.tk) (((a3.put (some q.t23) (.tuple #[e.key, e.val])).put (some q.t24) e.key).eval (.tmp q.t24))) _
   rw [hk24, ha4]
   refine wpIn_region_list (show wpListIn _ _ _ _ _ [_, _, _, _, _] _ _ from step_move (step_move ?_))
   rw [tl4, eval_other r25k, tk4]
   refine step_buildOne ok.hs t1 t2 t3 t4 (l := keyV e) (eval_same (by rw [act_put_size, s4]; exact regs_26)) ?_
   have hnd' : (got.map (·.born) ++ [e].map (·.born)).Nodup := List.nodup_append.2 ⟨U.nodup, by simp, fun x hx y hy => by simp at hy; subst hy; rintro rfl; exact heb hx⟩
   have hless := left_less (es := ens) (l := got.map (·.born)) (e := e) he
   have hlt4 : w1.heap.size < w4.heap.size := by rw [hsz4, ← hw3h]; exact hrlt
   have hgotlen : (got.map keyV).length + 1 ≤ lim := by
    have h1 : ((got ++ [e]).map (·.born)).length ≤ (ens.toList.map (·.born)).length := by
     refine len_of_subset (by rw [List.map_append]; exact hnd') fun x hx => ?_
     obtain ⟨y, hy, rfl⟩ := List.mem_map.1 hx
     rcases List.mem_append.1 hy with hy | hy
     ·exact List.mem_map_of_mem (U.mem y hy)
     ·rw [List.mem_singleton.1 hy]; exact List.mem_map_of_mem hee
    simp at h1
    simp
    omega
   refine step_append (base := w1.heap.size) (g := w4.heap.size) (l := keyV e) ok.hs t1 t2 t3 t4 t5 (ss := got.map keyV) ?_ (eval_same (by rw [act_put_size, act_put_size, s4]; exact regs_27)) (World.alloc_heap_new _ _) hgotlen (by have := hgr4.size; simp; omega) ?_
   ·have : (((a4.put (some q.t25) (a2.eval (.tmp q.tl))).put (some q.t26) (Go.Proofs.encStr (keyV e))).put (some q.t27) (.slice (some ⟨w4.heap.size, 0, none⟩) 1 1)).eval (.tmp q.t25) = a2.eval (.tmp q.tl) := by
     rw [eval_other r2725, eval_other r2625, eval_same (by rw [s4]; exact regs_25)]
    rw [this]
    exact hrow4.kept fun b c T f hb => (Go.RowKit.Below.heap_alloc _ _ _ (Array.getElem?_eq_some_iff.1 hb).1).trans hb
   ·rintro v' w6 hrow6 ⟨row, hg6, hrow⟩
    refine step_assign ?_
    have hr6 : some w1.heap.size ≠ row := fun h => by
     obtain ⟨-, c, T, f, h1⟩ := hrow _ h.symm
     rw [Go.RowKit.Below.heap_alloc _ _ _ (by omega), hit4] at h1
     cases h1
    show Kn _ _
    refine hK (got ++ [e]) _ _ ?_ ?_
    ·have := U.len
     omega
    ·refine ⟨by simp only [act_put_size]; exact s4, by simp only [act_put_defers]; exact df4, ?_, ?_, ?_, ?_, ?_, ?_, ?_⟩
     ·rw [eval_other rli, eval_other r28i, eval_other r27i, eval_other r26i, eval_other r25i]; exact it4
     ·rw [eval_same (by simp only [act_put_size]; rw [s4]; exact regs_tl), eval_same (by simp only [act_put_size]; rw [s4]; exact regs_28), List.map_append]
      exact hrow6
     ·rw [hg6.block _ (by simp; omega) hr6, Go.RowKit.Below.heap_alloc _ _ _ (by omega), hit4]
      simp
     ·intro x hx
      rcases List.mem_append.1 hx with hx | hx
      ·exact U.mem x hx
      ·rw [List.mem_singleton.1 hx]; exact hee
     ·rw [List.map_append]
      exact hnd'
     ·have := U.len
      rw [List.map_append]
      show (leftOf ens (got.map (·.born) ++ [e.born]).toArray).size ≤ _
      omega
     ·refine grown_row (row := row) (grown_row (w' := w4.alloc (.cells #[Go.Proofs.encStr (keyV e)] q.te)) (row := none) hgr4 ⟨rfl, rfl, rfl, by simp, fun k hk _ => Go.RowKit.Below.heap_alloc _ _ _ hk⟩ (by simp)) hg6 fun k hk => (hrow k hk).1
 have rounds : ∀ m got a2 w2, Und q a1 w1 ens clk (E1.obj i) m got a2 w2 → Code.roundsIn (rnd none) n P
  (.seq (.region q.i7 #[q.rNext.mk' (some q.t21) (.next (.tmp q.it) false), q.rExt.mk' (some q.t22) (.extract (.tmp q.t21) 0)] false)
    (.seq (.cond (.tmp q.t22) .skip (.exit q.b0))
      (.block q.b1 (.seq (.region q.i8 #[q.rEntry.mk' (some q.t23) (.entry (.tmp q.it)), q.rExt2.mk' (some q.t24) (.extract (.tmp q.t23) 0), q.rAsg.mk' (some q.tk) (.assign (.tmp q.t24))] false)
        (.region q.i9 #[q.rMv.mk' (some q.t25) (.move (.tmp q.tl)), q.rMv2.mk' (some q.t26) (.move (.tmp q.tk)), q.rBs.mk' (some q.t27) (.buildSlice q.ts 1 #[(0, .tmp q.t26)]),
          q.rApp.mk' (some q.t28) (.call { callee := .builtin .append, args := #[.tmp q.t25, .tmp q.t27], argTypes := #[q.ts, q.ts] }), q.rAsg2.mk' (some q.tl) (.assign (.tmp q.t28))] false)))))
  (Exit.inBlock q.b0 (Exit.then ((Code.seq (.region q.i10 #[q.rMv3.mk' (some q.t29) (.move (.tmp q.tl)), q.rCall.mk' (some q.t30) (.call { callee := .value (.func q.f), args := #[.tmp q.t29], argTypes := #[q.ts] })] false) post).wpIn (rnd none) n P Q) Q)) (m + 1) a2 w2 := by
  intro m
  induction m with
  | zero => exact fun got a2 w2 U => round _ 0 got a2 w2 U fun _ _ _ h => absurd h (Nat.lt_irrefl _)
  | succ m ih => exact fun got a2 w2 U => round _ (m + 1) got a2 w2 U fun got' a3 w3 _ U' => ih got' a3 w3 U'
 refine rounds ens.size [] _ _ ⟨by rw [act_put_size], rfl, eval_same regs_it, ?_, ?_, by simp, by simp, ?_, ?_⟩
 ·obtain ⟨p0, hp0⟩ := hv0
  have : (a1.put (some q.it) (.pointer (some ⟨w1.heap.size, 0, none⟩))).eval (.tmp q.tl) = a1.eval (.tmp q.tl) := eval_other n10
  exact .inl ⟨rfl, _, this.trans hp0⟩
 ·rw [World.alloc_heap_new]; rfl
 ·unfold leftOf; exact Array.size_filter_le
 ·exact ⟨rfl, rfl, rfl, by simp, fun k hk _ => Go.RowKit.Below.heap_alloc _ _ _ hk⟩
end Go.Su

/-
 THE DATA MACHINE, part 37: the library's copy of a slice.
-/
namespace Go.Su
def regL (c : Code) (p : List Bool) : List Oper :=
 match (sub p c []).1 with
 | .region _ ops _ => ops.toList
 | _ => []
def opR (c : Code) (p : List Bool) (j : Nat) : OpR :=
 match (regL c p)[j]? with
 | some o => ⟨o.type, o.pos, o.after⟩
 | none => ⟨0, "", #[]⟩
def ytOf (c : Code) (p : List Bool) (j : Nat) : TypeId :=
 match (regL c p)[j]? with
 | some o =>
   match o.op with
   | .binOp _ _ _ _ t => t
   | _ => 0
 | none => 0
def takeSeq : Nat → Code → List Code
 | n + 1, .seq a b => a :: takeSeq n b
 | _, _ => []
def dropSeq : Nat → Code → Code
 | n + 1, .seq _ b => dropSeq n b
 | _, c => c
structure ClP where
 i0 : Nat
 i1 : Nat
 i2 : Nat
 i3 : Nat
 r0 : OpR
 r1 : OpR
 r2 : OpR
 r3 : OpR
 r4 : OpR
 r5 : OpR
 r6 : OpR
 r7 : OpR
 ts : TypeId
 ty : TypeId
def ClP.code (q : ClP) : Code :=
 .seq (.region q.i0 #[q.r0.mk' (some 2) (.assign (.const (.slice none 0 0)))] false)
  (.seq (.seq (.region q.i1 #[q.r1.mk' (some 3) (.move (.tmp 0)), q.r2.mk' (some 4) (.binOp .eql q.ts (.tmp 3) (.const (.slice none 0 0)) q.ty)] false)
    (.cond (.tmp 4) (.seq (.region q.i2 #[q.r3.mk' (some 2) (.assign (.const (.slice none 0 0)))] false) .ret) .skip))
    (.seq (.region q.i3 #[q.r4.mk' (some 5) (.buildSlice q.ts 0 #[]), q.r5.mk' (some 6) (.move (.tmp 0)),
      q.r6.mk' (some 7) (.call { callee := .builtin .append, args := #[.tmp 5, .tmp 6], argTypes := #[q.ts, q.ts] }), q.r7.mk' (some 2) (.assign (.tmp 7))] false) .ret))
section
variable {P : Program} {n : Nat} {ops : Array Oper} {Q : Exit → Act → World → Prop} {a : Act} {w : World} {rest : List Oper}
theorem step_assignC {r : OpR} {t : Nat} {v : Value} (hk : wpListIn (rnd none) n P ops Q rest (a.put (some t) v) w) : wpListIn (rnd none) n P ops Q (r.mk' (some t) (.assign (.const v)) :: rest) a w :=
 step_value rfl (fun c h => by cases h) (by simp [OpR.mk', execOp, Act.eval]) hk
theorem step_eqlNil {r : OpR} {t u : Nat} {ts te ty : TypeId} {b : Option Addr} {l c : Nat} (hs : P.underlying ts = some (.slice te)) (hv : a.eval (.tmp u) = .slice b l c)
 (hk : wpListIn (rnd none) n P ops Q rest (a.put (some t) (.bool b.isNone)) w) : wpListIn (rnd none) n P ops Q (r.mk' (some t) (.binOp .eql ts (.tmp u) (.const (.slice none 0 0)) ty) :: rest) a w := by
 refine step_value (v := .bool b.isNone) rfl (fun c h => by cases h) ?_ hk
 simp only [OpR.mk', execOp, hv]
 exact run_v (Go.Lib.run_eql_slice_nil w ts te b l c 0 0 hs)
theorem step_buildNone {r : OpR} {t : Nat} {ts te : TypeId} {i : TypeInfo} (hs : P.underlying ts = some (.slice te)) (hi : P.info? te = some i)
 (hk : wpListIn (rnd none) n P ops Q rest (a.put (some t) (.slice (some ⟨w.heap.size, 0, none⟩) 0 0)) (w.alloc (.cells #[] te))) :
 wpListIn (rnd none) n P ops Q (r.mk' (some t) (.buildSlice ts 0 #[]) :: rest) a w := by
 refine step_value (v := .slice (some ⟨w.heap.size, 0, none⟩) 0 0) rfl (fun c h => by cases h) ?_ hk
 simp only [OpR.mk', execOp]
 refine run_v ?_
 unfold Instr.buildSlice
 have hsz : (sizeOf te).run P w = .ok i.size w := by simp [sizeOf, typeInfo, hi]
 simp only [Sem.run_bind, run_underlying hs, Result.andThen_ok, hsz, Sem.run_ite]
 rw [if_neg (by simp), if_pos (by simp)]
 simp only [Sem.run_pure, Result.andThen_ok]
 have : Instr.fill (fun j => some (j * i.size, i.size)) ((Array.range (0 * i.size)).map ((#[] : Array Value)[· % (#[] : Array Value).size]!)) (Array.map (fun x : Nat × Operand => (x.1, a.eval x.2)) #[]).toList = some #[] := by
  rw [Nat.zero_mul]
  simp [Instr.fill]
 simp only [this]
 rfl
end
theorem clone_ok {P : Program} {f : FuncId} {fn : Func} {q : ClP} {sz : Nat} (hsz : appSz P q.ts q.ts = some sz) (hf : P.funcs[f]? = some fn) (hb : fn.body = some q.code) (hres : fn.results = #[.tmp 2]) (hnt : fn.ntmps = 8) : CloneOk P f sz := by
 intro S w v ds hl hS hv
 obtain ⟨e, e', z, inf, zv, hu, hu', hz, hz1, hpos, hinf, hbytes, hzv, hzs⟩ := appSz_some hsz
 rw [hu] at hu'
 simp only [Option.some.injEq, TypeDesc.slice.injEq] at hu'
 subst hu'
 have hinfsz : inf.size = sz := by
  obtain ⟨i', d', q1, -, q2, -⟩ := tz_some hz
  rw [hinf] at q1
  simp only [Option.some.injEq] at q1
  rw [← hz1, q2, q1]
 obtain ⟨b, len, cap, all, rfl, f1, f2, f3, f4, f5, f6, f7⟩ := first_flat (P := P) hv
 have fin : ∀ (a : Act) (v : Value) (w1 : World), a.defers = [] → a.tmps.getD 2 undef = v → ∀ R : Ending → World → Prop, R (.returned v) w1 → bodyPost P fn R .ret a w1 := by
  intro a v w1 h1 h2 R h3
  refine ⟨h1, v, ?_, h3⟩
  rw [results_eq, hres, ← h2]
  simp [resRun]
 refine (callsIn_wide (n := 0)).1 (callsIn_of_wp hf hb trivial ?_)
 rw [hnt]
 show Code.wpIn (rnd none) 0 P _ _ _ _
 have hlit : (#[Value.slice b len cap] ++ Array.replicate (8 - #[Value.slice b len cap].size) undef : Array Value) = #[.slice b len cap, undef, undef, undef, undef, undef, undef, undef] := by rfl
 rw [hlit]
 refine wpIn_seq (wpIn_region_list (show wpListIn _ _ _ _ _ [_] _ _ from step_assignC ?_))
 refine wpIn_seq (wpIn_seq (wpIn_region_list (show wpListIn _ _ _ _ _ [_, _] _ _ from step_move (step_eqlNil (b := b) (l := len) (c := cap) hu rfl ?_))))
 cases b with
 | none =>
   have h0 := f3 rfl
   have hds : ds = [] := List.eq_nil_of_length_eq_zero (by omega)
   subst hds
   refine wpIn_cond_true rfl (wpIn_seq (wpIn_region_list (show wpListIn _ _ _ _ _ [_] _ _ from step_assignC ?_)))
   show Code.wpIn _ _ _ Code.ret _ _ _
   refine wpIn_ret ?_
   dsimp only [Exit.then]
   exact fin _ _ _ rfl rfl _ ⟨none, 0, 0, 0, rfl, by simp, by simp, by simp, by simp, Nat.le_refl _, Outer.refl _, fun _ _ => rfl, by simp⟩
 | some p =>
   refine wpIn_cond_false rfl (wpIn_skip ?_)
   refine wpIn_seq (wpIn_region_list (show wpListIn _ _ _ _ _ [_, _, _, _] _ _ from step_buildNone hu hinf (step_move ?_)))
   have hw1 : ∀ w' : World, w'.heap = (w.alloc (.cells #[] e)).heap → (Builtin.firstCells sz len (Value.slice (some p) len cap)).run P w' = .ok all.toArray w' := by
    intro w' hw'
    show (loadCells p (len * sz)).run P w' = _
    obtain ⟨hp, hc⟩ := f5 p rfl
    have hl2 : len * sz = all.length := by rw [f4.1, f1]
    by_cases h0 : 0 < cap
    ·rw [hl2, hp h0]
     refine loadCells_flat fun j u hu => ?_
     rw [hw']
     have h3 := (hc j u hu).1
     have h4 : w.heap[p.block]? ≠ none := fun h => by simp [Su.hc, h] at h3
     have h5 : p.block < w.heap.size := by
      rcases Nat.lt_or_ge p.block w.heap.size with h | h
      ·exact h
      ·exact absurd (Array.getElem?_eq_none h) h4
     unfold Su.hc at h3 ⊢
     rw [show (w.alloc (.cells #[] e)).heap[p.block]? = w.heap[p.block]? from Go.RowKit.Below.heap_alloc _ _ _ h5]
     exact h3
    ·have h0 : len = 0 := by omega
     have h9 : all = [] := List.eq_nil_of_length_eq_zero (by rw [← hl2, h0]; simp)
     rw [h9, h0, Nat.zero_mul]
     rfl
   have go : ∀ (v' : Value) (w' : World), (Builtin.append_ #[q.ts, q.ts] q.r6.type #[.slice (some ⟨w.heap.size, 0, none⟩) 0 0, .slice (some p) len cap]).run P (w.alloc (.cells #[] e)) = .ok v' w' → ∀ R : Ending → World → Prop, R (.returned v') w' →
    wpListIn (rnd none) 0 P #[q.r4.mk' (some 5) (.buildSlice q.ts 0 #[]), q.r5.mk' (some 6) (.move (.tmp 0)), q.r6.mk' (some 7) (.call { callee := .builtin .append, args := #[.tmp 5, .tmp 6], argTypes := #[q.ts, q.ts] }), q.r7.mk' (some 2) (.assign (.tmp 7))]
     (Exit.then (Code.ret.wpIn (rnd none) 0 P (bodyPost P fn R)) (bodyPost P fn R)) [q.r6.mk' (some 7) (.call { callee := .builtin .append, args := #[.tmp 5, .tmp 6], argTypes := #[q.ts, q.ts] }), q.r7.mk' (some 2) (.assign (.tmp 7))]
     { tmps := #[.slice (some p) len cap, undef, .slice none 0 0, .slice (some p) len cap, .bool false, .slice (some ⟨w.heap.size, 0, none⟩) 0 0, .slice (some p) len cap, undef], defers := [] } (w.alloc (.cells #[] e)) := by
    intro v' w' hr R hR
    refine step_value (v := v') (w' := w') rfl (fun c h => by cases h) ?_ (step_assign ?_)
    ·refine call_builtin (C := dumC P) (b := .append) rfl rfl ?_
     simp only [List.map_toArray, List.map_cons, List.map_nil]
     exact run_v hr
    ·show Code.wpIn _ _ _ Code.ret _ _ _
     refine wpIn_ret ?_
     show bodyPost P fn R .ret _ _
     exact fin _ _ _ rfl rfl _ hR
   by_cases hds : ds = []
   ·subst hds
    have h0 : len = 0 := f1
    have h9 : all = [] := List.eq_nil_of_length_eq_zero (by rw [f4.1]; simp)
    refine go _ (w.alloc (.cells #[] e)) (run_append_some (n := len) hu hu hinf (lenOf_slice _ _ _) (by rw [hinfsz]; exact hw1 _ rfl) (by omega) (by rw [h9]; simp [storeCells])) _ ⟨some ⟨w.heap.size, 0, none⟩, 0, 0, 0, ?_, by simp, by simp, by simp, by simp, by simp, ⟨rfl, rfl, rfl⟩, fun b' hb' => Go.RowKit.Below.heap_alloc _ _ _ hb', by simp⟩
    simp [h0]
   ·have hlen : 0 < len := by rw [f1]; exact List.length_pos_iff.2 hds
    obtain ⟨nc, hnc, hr⟩ := run_append_grow (P := P) (t := q.ts) (u := q.ts) (ty := q.r6.type) (b := some ⟨w.heap.size, 0, none⟩) (len := 0) (cap := 0) (n := len) (all := []) (all' := all) (v := .slice (some p) len cap) (w := w.alloc (.cells #[] e)) hu hu hinf (lenOf_slice _ _ _) (by rw [hinfsz]; exact hw1) (fun w' _ => by show (loadCells _ (0 * inf.size)).run P w' = _; rw [Nat.zero_mul]; rfl) hzv (by omega) (by unfold lim at hl; omega) hbytes
    simp only [Nat.zero_add, List.nil_append] at hr
    have hsz1 : (w.alloc (.cells #[] e)).heap.size = w.heap.size + 1 := by simp
    refine go _ _ hr _ ⟨_, w.heap.size + 1, 0, nc, by rw [f1, hsz1], fun _ => rfl, by omega, by simp, fun x hx => ?_, ?_, ⟨rfl, rfl, rfl⟩, fun b' hb' => ?_, fun _ => ⟨by omega, (all ++ (Builtin.zeroCells zv.cells (nc - len)).toList).toArray, e, ?_, ?_, hpos, fun j d hj => ?_⟩⟩
    ·simp only [Option.some.injEq] at hx
     subst hx
     rfl
    ·simp; omega
    ·refine (Go.RowKit.Below.heap_alloc _ _ _ (by show b' < (w.alloc (.cells #[] e)).heap.size; omega)).trans ?_
     exact Go.RowKit.Below.heap_alloc _ _ _ hb'
    ·rw [← hsz1]
     exact World.alloc_heap_new _ _
    ·simp [f4.1]
    ·obtain ⟨vs, v1, v2, v3⟩ := f4.2 j d hj
     refine ⟨vs, v1, fun x u hx => ?_, v3.mono ⟨fun _ _ h => h, fun b o v hs hv => ?_⟩⟩
     ·have h1 := v2 x u hx
      have h2 := (List.getElem?_eq_some_iff.1 h1).1
      rw [Nat.zero_add, List.getElem?_toArray, List.getElem?_append_left h2]
      exact h1
     ·have hb : b < w.heap.size := by
       rcases Nat.lt_or_ge b w.heap.size with h | h
       ·exact h
       ·exact absurd hs (hS b o h)
      unfold Su.hc at hv ⊢
      have e1 : ((w.alloc (.cells #[] e)).drew.alloc (.cells (all ++ (Builtin.zeroCells zv.cells (nc - len)).toList).toArray e)).heap[b]? = w.heap[b]? :=
       (Go.RowKit.Below.heap_alloc _ _ _ (by show b < (w.alloc (.cells #[] e)).heap.size; omega)).trans (Go.RowKit.Below.heap_alloc _ _ _ hb)
      rw [e1]
      exact hv
end Go.Su

/-
 MAPS of numbers and texts in the shared part, cells of the shared part.
-/
namespace Go.Su
def CntIs (es : List (DV × DV)) (c : Int → Int) : Prop := ∀ v, (mGet es (.int .i64 v)).getD (.int .i64 0) = .int .i64 (c v)
theorem CntIs.nil : CntIs [] fun _ => 0 := fun _ => rfl
theorem CntIs.set {es : List (DV × DV)} {c : Int → Int} (h : CntIs es c) (a n : Int) : CntIs (mSet es (.int .i64 a) (.int .i64 n)) fun v => if a = v then n else c v := by
 intro v
 rw [mGet_setI]
 by_cases e : a = v
 ·simp [e]
 ·simp [e, h v]
theorem sgMap_lt {sg : List SObj} {i : Nat} {x : Bool × List (DV × DV)} (h : sgMap sg i = some x) : i < sg.length := by
 unfold sgMap at h
 cases hi : sg[i]? with
 | none => rw [hi] at h; cases h
 | some o => exact (List.getElem?_eq_some_iff.1 hi).1
theorem sgMap_set {sg : List SObj} {i : Nat} (h : i < sg.length) (ks : Bool) (es : List (DV × DV)) : sgMap (sg.set i (.map ks es)) i = some (ks, es) := by
 unfold sgMap
 rw [List.getElem?_set_self h]
theorem sgMap_eq {sg : List SObj} {i : Nat} {ks : Bool} {es : List (DV × DV)} (h : sgMap sg i = some (ks, es)) : sg.set i (.map ks es) = sg := by
 have hl := sgMap_lt h
 unfold sgMap at h
 have hg : sg[i]? = some sg[i] := List.getElem?_eq_getElem hl
 rw [hg] at h
 have e : sg[i] = .map ks es := by
  cases hx : sg[i] with
  | map a b => rw [hx] at h; simp at h; rw [h.1, h.2]
  | box _ => rw [hx] at h; cases h
  | arr _ _ => rw [hx] at h; cases h
  | opn _ _ _ => rw [hx] at h; cases h
 rw [← e]
 exact List.set_getElem_self hl
theorem sgBox_set {sg : List SObj} {i : Nat} (h : i < sg.length) (cs : List (DV × Meta)) : sgBox (sg.set i (.box cs)) i = some cs := by
 unfold sgBox
 rw [List.getElem?_set_self h]
@[simp] theorem dExt0 (a : DV) (l : List DV) : dExt 0 (.tup (a :: l)) = some a := rfl
@[simp] theorem dExt1 (a b : DV) (l : List DV) : dExt 1 (.tup (a :: b :: l)) = some b := rfl
@[simp] theorem dExt2 (a b c : DV) (l : List DV) : dExt 2 (.tup (a :: b :: c :: l)) = some c := rfl
@[simp] theorem dExt3 (a b c d : DV) (l : List DV) : dExt 3 (.tup (a :: b :: c :: d :: l)) = some d := rfl
theorem dApp_map {α : Type} {e : α → DV} {sz : Nat} {l : List α} {x : α} (h : l.length < lim) : dApp sz (.list sz (l.map e)) (.list sz [e x]) = some (.list sz ((l ++ [x]).map e)) := by
 rw [dApp_list (by simp; omega)]
 simp
theorem dApp_maps {α : Type} {e : α → DV} {sz : Nat} {l m : List α} (h : l.length + m.length ≤ lim) : dApp sz (.list sz (l.map e)) (.list sz (m.map e)) = some (.list sz ((l ++ m).map e)) := by
 rw [dApp_list (by simpa using h)]
 simp
end Go.Su

/-
 PATTERNS and types: what is bound.
-/
namespace Go.Su
def encEnt (e : ByteArray × Ty) : DV := .agg [.str e.1, .int .i64 e.2.kind, .int .i64 e.2.n, .list 3 (e.2.kids.map Ty.enc)]
def encEnts (l : List (ByteArray × Ty)) : DV := .list 4 (l.map encEnt)
@[simp] theorem encEnt0 (e : ByteArray × Ty) : proj 0 (encEnt e) = .str e.1 := rfl
@[simp] theorem encEnt1 (e : ByteArray × Ty) : proj 1 (encEnt e) = .int .i64 e.2.kind := rfl
@[simp] theorem encEnt2 (e : ByteArray × Ty) : proj 2 (encEnt e) = .int .i64 e.2.n := rfl
@[simp] theorem encEnt3 (e : ByteArray × Ty) : proj 3 (encEnt e) = .list 3 (e.2.kids.map Ty.enc) := rfl
@[simp] theorem Nm.proj0 (e : Nm) : proj 0 e.enc = .str e.name := rfl
@[simp] theorem Nm.proj1 (e : Nm) : proj 1 e.enc = .int .i64 e.ty.kind := rfl
@[simp] theorem Nm.proj2 (e : Nm) : proj 2 e.enc = .int .i64 e.ty.n := rfl
@[simp] theorem Nm.proj3 (e : Nm) : proj 3 e.enc = .list 3 (e.ty.kids.map Ty.enc) := rfl
@[simp] theorem Nm.proj4 (e : Nm) : proj 4 e.enc = encInts e.vars := rfl
@[simp] theorem dLen_encEnts (l : List (ByteArray × Ty)) : dLen (encEnts l) = some (.int .i64 l.length) := by simp [encEnts]
@[simp] theorem dLen_encNms (l : List Nm) : dLen (encNms l) = some (.int .i64 l.length) := by simp [encNms]
@[simp] theorem dLen_encBnds (l : List (Int × Ty)) : dLen (encBnds l) = some (.int .i64 l.length) := by simp [encBnds]
theorem comb_len {ks : List Pat} : (∀ k ∈ ks, ∀ t b, k.binds t = some b → b.length ≤ k.size) → ∀ ts b, comb (ks.map Pat.binds) ts = some b → b.length ≤ (ks.map Pat.size).sum := by
 induction ks with
 | nil => intro _ ts b h; simp only [List.map_nil, comb, Option.some.injEq] at h; subst h; simp
 | cons k ks ih =>
   intro hk ts b h
   cases ts with
   | nil => simp [comb] at h
   | cons t ts =>
     simp only [List.map_cons, comb, Option.bind_eq_some_iff, Option.some.injEq] at h
     obtain ⟨a, h1, c, h2, rfl⟩ := h
     have := hk k (List.mem_cons_self ..) t a h1
     have := ih (fun k' hk' => hk k' (List.mem_cons_of_mem _ hk')) ts c h2
     simp only [List.length_append, List.map_cons, List.sum_cons]
     omega
theorem Pat.binds_len (p : Pat) : ∀ t b, p.binds t = some b → b.length ≤ p.size := by
 induction p using Pat.ind with
 | h p ih =>
   intro t b h
   rw [Pat.binds_eq] at h
   rw [Pat.size_eq]
   unfold patBody at h
   split at h
   ·simp only [Option.some.injEq] at h; subst h; simp
   split at h
   ·simp only [Option.some.injEq] at h; subst h; simp
   split at h
   ·split at h
    ·have := comb_len ih _ _ h; omega
    ·cases h
   split at h
   ·split at h
    ·have := comb_len ih _ _ h; omega
    ·cases h
   split at h
   ·simp only [Option.some.injEq] at h; subst h; simp
   ·cases h
theorem comb_right {ks : List Pat} : (∀ k ∈ ks, ∀ t b, t.right = true → k.binds t = some b → ∀ e ∈ b, e.2.right = true) → ∀ ts b, (∀ t ∈ ts, t.right = true) → comb (ks.map Pat.binds) ts = some b → ∀ e ∈ b, e.2.right = true := by
 induction ks with
 | nil => intro _ ts b _ h; simp only [List.map_nil, comb, Option.some.injEq] at h; subst h; simp
 | cons k ks ih =>
   intro hk ts b ht h
   cases ts with
   | nil => simp [comb] at h
   | cons t ts =>
     simp only [List.map_cons, comb, Option.bind_eq_some_iff, Option.some.injEq] at h
     obtain ⟨a, h1, c, h2, rfl⟩ := h
     have a1 := hk k (List.mem_cons_self ..) t a (ht t (List.mem_cons_self ..)) h1
     have a2 := ih (fun k' hk' => hk k' (List.mem_cons_of_mem _ hk')) ts c (fun t' ht' => ht t' (List.mem_cons_of_mem _ ht')) h2
     intro e he
     rcases List.mem_append.1 he with he | he
     ·exact a1 e he
     ·exact a2 e he
theorem zero_arity {t : Ty} (h : t.right = true) (hk : t.kind = 8) : ∃ a, t.kids = [a] := by
 have := (Ty.right_iff.1 h).1
 rw [hk] at this
 have h1 : t.kids.length = 1 := by have : arity 8 = 1 := rfl; omega
 exact List.length_eq_one_iff.1 h1
theorem two_arity {t : Ty} (h : t.right = true) (hk : t.kind = 7 ∨ t.kind = 9) : ∃ a b, t.kids = [a, b] := by
 have := (Ty.right_iff.1 h).1
 have h1 : t.kids.length = 2 := by
  rcases hk with hk | hk <;> rw [hk] at this
  ·have : arity 7 = 2 := rfl; omega
  ·have : arity 9 = 2 := rfl; omega
 match hx : t.kids, h1 with
 | [a, b], _ => exact ⟨a, b, rfl⟩
theorem Pat.binds_right (p : Pat) : ∀ t b, t.right = true → p.binds t = some b → ∀ e ∈ b, e.2.right = true := by
 induction p using Pat.ind with
 | h p ih =>
   intro t b ht h
   rw [Pat.binds_eq] at h
   unfold patBody at h
   split at h
   ·simp only [Option.some.injEq] at h; subst h; simp
   split at h
   ·simp only [Option.some.injEq] at h; subst h; simpa using ht
   split at h
   ·split at h
    ·exact comb_right ih _ _ (fun k hk => Ty.right_kid ht hk) h
    ·cases h
   split at h
   ·split at h
    ·rename_i h8
     obtain ⟨a, ha⟩ := zero_arity ht h8
     refine comb_right ih _ _ ?_ h
     intro k hk
     rw [ha] at hk
     simp at hk
     rcases hk with rfl | rfl
     ·exact Ty.right_kid ht (by rw [ha]; exact List.mem_cons_self ..)
     ·exact ht
    ·cases h
   split at h
   ·simp only [Option.some.injEq] at h; subst h; simp
   ·cases h
theorem Pat.one_kids {p : Pat} (h : p.one = true) : p.kids.length = if p.kind = 7 ∨ p.kind = 9 then 2 else 0 := by
 unfold Pat.one at h
 grind
theorem Pat.pat_one {p : Pat} (h : p.pat = true) : p.one = true := by
 rw [Pat.pat_eq] at h
 simp only [Bool.and_eq_true] at h
 exact h.1
theorem Pat.pat_kid {p k : Pat} (h : p.pat = true) (hk : k ∈ p.kids) : k.pat = true := by
 rw [Pat.pat_eq] at h
 simp only [Bool.and_eq_true, List.all_eq_true] at h
 exact h.2 k hk
theorem Pat.right_pat {p : Pat} (h : p.right = true) : p.pat = true := by
 unfold Pat.right at h
 simp only [Bool.and_eq_true] at h
 exact h.1
end Go.Su

/-
 The CHECKER of terms, kind by kind.
-/
namespace Go.Su
structure Tm.Own (t : Tm) : Prop where
 lo : 1 ≤ t.kind
 hi : t.kind ≤ 16
 match1 : t.kind = 14 → 0 < t.pats.length
 kids : (t.kids.length : Int) = kKids t.kind t.pats.length
 name : kName t.kind = true → nameB t.name = true
 arg : kArg t.kind = true → nameB t.arg = true
 a : kA t.kind = true → t.a.right = true
 b : kB t.kind = true → t.b.right = true
 a0 : kA t.kind = false → t.a = zeroTy
 b0 : kB t.kind = false → t.b = zeroTy
 op : kOp t.kind = true → 1 ≤ t.op ∧ t.op ≤ 7
 vars0 : kVars t.kind = false → t.vars = []
 args0 : kArgs t.kind = false → t.args = []
 pats0 : kPats t.kind = false → t.pats = []
 vars : ∀ v ∈ t.vars, 0 ≤ v ∧ v ≤ 1048576
 args : ∀ y ∈ t.args, y.right = true
 pats : ∀ p ∈ t.pats, p.right = true
theorem Tm.own_of {t : Tm} (h : t.one = true) : t.Own := by
 simp only [Tm.one, Tm.one1, Tm.one2, Tm.one3, Tm.one4, Tm.one5, Tm.lists, kOk, namedB, typedB, Bool.and_eq_true, Bool.or_eq_true, Bool.not_eq_true', decide_eq_true_eq, decide_eq_false_iff_not, List.all_eq_true] at h
 obtain ⟨⟨⟨⟨⟨⟨⟨⟨k1, k2⟩, k3⟩, k4⟩, k5⟩, k6⟩, k7⟩, k8⟩, ⟨k9, k10⟩, ⟨⟨k11, k12⟩, k13⟩, ⟨k14, k15⟩, ⟨k16, k17⟩, ⟨⟨k18, k19⟩, k20⟩, ⟨k21, k22⟩, k23⟩ := h
 refine ⟨k1, k2, fun h => ?_, k4, fun h => ?_, fun h => ?_, fun h => ?_, fun h => ?_, fun h => ?_, fun h => ?_, fun h => ?_, fun h => ?_, fun h => ?_, fun h => ?_, k21, k22, k23⟩
 ·rcases k3 with k3 | k3
  ·exact absurd h k3
  ·exact k3
 ·simpa [h] using k5
 ·simpa [h] using k6
 ·simpa [h] using k7
 ·simpa [h] using k8
 ·rw [h] at k7; exact Ty.none_iff.1 (by simpa using k7)
 ·rw [h] at k8; exact Ty.none_iff.1 (by simpa using k8)
 ·simpa [h] using k14
 ·rw [h] at k18; exact List.eq_nil_of_length_eq_zero (by simpa using k18)
 ·rw [h] at k19; exact List.eq_nil_of_length_eq_zero (by simpa using k19)
 ·rw [h] at k20; exact List.eq_nil_of_length_eq_zero (by simpa using k20)
theorem Tm.right_own {t : Tm} (h : t.right = true) : t.Own := by
 rw [Tm.right_eq] at h
 simp only [Bool.and_eq_true] at h
 exact Tm.own_of h.1
theorem Tm.right_kid {t k : Tm} (h : t.right = true) (hk : k ∈ t.kids) : k.right = true := by
 rw [Tm.right_eq] at h
 simp only [Bool.and_eq_true, List.all_eq_true] at h
 exact h.2 k hk
theorem Tm.kids1 {t : Tm} (h : t.right = true) (hk : t.kind = 9 ∨ t.kind = 16) : ∃ a, t.kids = [a] := by
 have := (Tm.right_own h).kids
 have h1 : t.kids.length = 1 := by
  rcases hk with hk | hk <;> (rw [hk] at this; simp [kKids] at this; omega)
 exact List.length_eq_one_iff.1 h1
theorem Tm.kids2 {t : Tm} (h : t.right = true) (hk : t.kind = 6 ∨ t.kind = 8 ∨ t.kind = 10 ∨ t.kind = 11 ∨ t.kind = 12 ∨ t.kind = 15) : ∃ a b, t.kids = [a, b] := by
 have := (Tm.right_own h).kids
 have h1 : t.kids.length = 2 := by
  rcases hk with hk | hk | hk | hk | hk | hk <;> (rw [hk] at this; simp [kKids] at this; omega)
 match hx : t.kids, h1 with
 | [a, b], _ => exact ⟨a, b, rfl⟩
theorem Tm.kids3 {t : Tm} (h : t.right = true) (hk : t.kind = 13) : ∃ a b c, t.kids = [a, b, c] := by
 have := (Tm.right_own h).kids
 have h1 : t.kids.length = 3 := by rw [hk] at this; simp [kKids] at this; omega
 match hx : t.kids, h1 with
 | [a, b, c], _ => exact ⟨a, b, c, rfl⟩
theorem Tm.kidsM {t : Tm} (h : t.right = true) (hk : t.kind = 14) : ∃ a l, t.kids = a :: l ∧ l.length = t.pats.length := by
 have := (Tm.right_own h).kids
 have h1 : t.kids.length = t.pats.length + 1 := by rw [hk] at this; simp [kKids] at this; omega
 match hx : t.kids, h1 with
 | a :: l, h1 => exact ⟨a, l, rfl, by simpa using h1⟩
theorem Tm.kinds {t : Tm} (h : t.right = true) : t.kind = 1 ∨ (t.kind = 2 ∨ t.kind = 3 ∨ t.kind = 4 ∨ t.kind = 5) ∨ t.kind = 6 ∨ t.kind = 7 ∨ t.kind = 8 ∨ t.kind = 9 ∨ t.kind = 10 ∨ t.kind = 11 ∨ t.kind = 12 ∨ t.kind = 13 ∨ t.kind = 14 ∨ t.kind = 15 ∨ t.kind = 16 := by
 have := (Tm.right_own h).lo
 have := (Tm.right_own h).hi
 omega
theorem ck_name {t : Tm} (h : t.kind = 1) (l : List Nm) (S : List Int) : ck t l S = match l.reverse.find? fun x => decide (x.name = t.name) with
 | none => .error 6
 | some x => if x.vars.length = t.args.length then if t.args.all (inS S) = true then .ok (x.ty.put (x.vars.zip t.args)) else .error 6 else .error 8 := by
 rw [ck_eq]; unfold ckBody; simp only [h, if_true]; try rfl
theorem ck_leaf {t : Tm} (h : t.kind = 2 ∨ t.kind = 3 ∨ t.kind = 4 ∨ t.kind = 5) (l : List Nm) (S : List Int) : ck t l S = .ok (.mk (t.kind - 1) 0 []) := by
 rw [ck_eq]; unfold ckBody; rw [if_neg (by omega), if_pos h]
theorem ck_nil {t : Tm} (h : t.kind = 7) (l : List Nm) (S : List Int) : ck t l S = if inS S t.a = true then .ok (.mk 8 0 [t.a]) else .error 6 := by
 rw [ck_eq]; unfold ckBody; simp [h]
theorem ck_fun {t k : Tm} (h : t.kind = 9) (hk : t.kids = [k]) (l : List Nm) (S : List Int) : ck t l S = if inS S t.a = true then (ck k (l ++ [⟨t.name, t.a, []⟩]) S).bind fun y => .ok (.mk 9 0 [t.a, y]) else .error 6 := by
 rw [ck_eq]; unfold ckBody; simp [h, hk]
theorem ck_let {t k m : Tm} (h : t.kind = 11) (hk : t.kids = [k, m]) (l : List Nm) (S : List Int) : ck t l S = if takes S t.vars = true then (ck k l (t.vars ++ S)).bind fun y => ck m (l ++ [⟨t.name, y, t.vars⟩]) S else .error 6 := by
 rw [ck_eq]; unfold ckBody; simp [h, hk]
theorem ck_rec {t k m : Tm} (h : t.kind = 12) (hk : t.kids = [k, m]) (l : List Nm) (S : List Int) : ck t l S = if takes S t.vars = true then
 if inS (t.vars ++ S) t.a = true ∧ inS (t.vars ++ S) t.b = true then
  (ck k (l ++ [⟨t.name, .mk 9 0 [t.a, t.b], []⟩, ⟨t.arg, t.a, []⟩]) (t.vars ++ S)).bind fun y =>
    if y = t.b then ck m (l ++ [⟨t.name, .mk 9 0 [t.a, t.b], t.vars⟩]) S else .error 4
 else .error 6
 else .error 6 := by
 rw [ck_eq]; unfold ckBody; simp [h, hk]
theorem ck_match {t k : Tm} {ks : List Tm} (h : t.kind = 14) (hk : t.kids = k :: ks) (l : List Nm) (S : List Int) : ck t l S = (ck k l S).bind fun y => ckArms y l S (t.pats.zip (ks.map ck)) none := by
 rw [ck_eq]; unfold ckBody; simp [h, hk]
theorem ck_rest {t : Tm} (h : t.kind = 6 ∨ t.kind = 8 ∨ t.kind = 10 ∨ t.kind = 13 ∨ t.kind = 15 ∨ t.kind = 16) (l : List Nm) (S : List Int) : ck t l S = (ckKids l S (t.kids.map ck)).bind fun k => ckOf t S k := by
 rw [ck_eq]; unfold ckBody
 rw [if_neg (by omega), if_neg (by omega), if_neg (by omega), if_neg (by omega), if_neg (by omega), if_neg (by omega), if_neg (by omega)]
def Nm.ok (x : Nm) : Prop := x.ty.right = true ∧ x.vars.length ≤ lim ∧ ∀ v ∈ x.vars, 0 ≤ v ∧ v ≤ 1048576
def NmsOk (l : List Nm) : Prop := ∀ x ∈ l, x.ok
theorem NmsOk.app {l m : List Nm} (h : NmsOk l) (h' : NmsOk m) : NmsOk (l ++ m) := fun x hx => by
 rcases List.mem_append.1 hx with hx | hx
 ·exact h x hx
 ·exact h' x hx
theorem NmsOk.one {x : Nm} (h : x.ok) : NmsOk [x] := fun y hy => by simp at hy; subst hy; exact h
theorem NmsOk.two {x y : Nm} (h : x.ok) (h' : y.ok) : NmsOk [x, y] := fun z hz => by
 simp at hz; rcases hz with rfl | rfl
 ·exact h
 ·exact h'
theorem NmsOk.ents {b : List (ByteArray × Ty)} (h : ∀ e ∈ b, e.2.right = true) : NmsOk (b.map nmOfE) := fun x hx => by
 obtain ⟨e, he, rfl⟩ := List.mem_map.1 hx
 exact ⟨h e he, by simp [nmOfE], by simp [nmOfE]⟩
theorem Nm.ok_nil {n : ByteArray} {t : Ty} (h : t.right = true) : (⟨n, t, []⟩ : Nm).ok := ⟨h, by simp, by simp⟩
theorem right_fun {a b : Ty} (ha : a.right = true) (hb : b.right = true) : (Ty.mk 9 0 [a, b]).right = true := by
 rw [Ty.right_mk]
 refine ⟨rfl, by omega, by omega, .inr rfl, ?_⟩
 simp [ha, hb]
theorem right_pair {a b : Ty} (ha : a.right = true) (hb : b.right = true) : (Ty.mk 7 0 [a, b]).right = true := by
 rw [Ty.right_mk]
 refine ⟨rfl, by omega, by omega, .inr rfl, ?_⟩
 simp [ha, hb]
theorem right_list {a : Ty} (ha : a.right = true) : (Ty.mk 8 0 [a]).right = true := by
 rw [Ty.right_mk]
 refine ⟨rfl, by omega, by omega, .inr rfl, ?_⟩
 simp [ha]
theorem right_leaf {k : Int} (h : 1 ≤ k ∧ k ≤ 5) : (Ty.mk k 0 []).right = true := by
 rw [Ty.right_mk]
 refine ⟨?_, by omega, by omega, .inr rfl, by simp⟩
 unfold arity
 rw [if_pos (by omega)]
 rfl
theorem getD_right {l : List Ty} (h : ∀ t ∈ l, t.right = true) {i : Nat} (hi : i < l.length) : (l.getD i zeroTy).right = true := by
 rw [List.getD_eq_getElem?_getD, List.getElem?_eq_getElem hi]
 exact h _ (List.getElem_mem hi)
theorem ckKids_ok {l : List Nm} {S : List Int} : ∀ {ks : List Tm} {ys : List Ty}, ckKids l S (ks.map ck) = .ok ys → ys.length = ks.length ∧ ∀ y ∈ ys, ∃ k ∈ ks, ck k l S = .ok y
 | [], ys, h => by simp only [List.map_nil, ckKids, Except.ok.injEq] at h; subst h; simp
 | k :: ks, ys, h => by
   simp only [List.map_cons, ckKids] at h
   cases hk : ck k l S with
   | error e => rw [hk] at h; cases h
   | ok y =>
     rw [hk] at h
     simp only [Except.bind] at h
     cases hr : ckKids l S (ks.map ck) with
     | error e => rw [hr] at h; cases h
     | ok r =>
       rw [hr] at h
       simp only [Except.ok.injEq] at h
       subst h
       obtain ⟨h1, h2⟩ := ckKids_ok hr
       refine ⟨by simp [h1], fun z hz => ?_⟩
       rcases List.mem_cons.1 hz with rfl | hz
       ·exact ⟨k, List.mem_cons_self .., hk⟩
       ·obtain ⟨k', a, b⟩ := h2 z hz
        exact ⟨k', List.mem_cons_of_mem _ a, b⟩
theorem ckOf_right {t : Tm} (ht : t.right = true) (hk : t.kind = 6 ∨ t.kind = 8 ∨ t.kind = 10 ∨ t.kind = 13 ∨ t.kind = 15 ∨ t.kind = 16) {S : List Int} {ys : List Ty} (hl : ys.length = t.kids.length) (hy : ∀ y ∈ ys, y.right = true) {y : Ty} (h : ckOf t S ys = .ok y) : y.right = true := by
 have own := Tm.right_own ht
 unfold ckOf at h
 simp only at h
 split at h
 ·rename_i h6
  obtain ⟨a, b, e⟩ := Tm.kids2 ht (.inl h6)
  rw [e] at hl
  match ys, hl with
  | [a, b], _ => cases h; exact right_pair (hy _ (by simp)) (hy _ (by simp))
 split at h
 ·rename_i h8
  obtain ⟨a, b, e⟩ := Tm.kids2 ht (by omega)
  split at h
  ·cases h; exact getD_right hy (by rw [hl, e]; simp)
  ·cases h
 split at h
 ·rename_i h8
  obtain ⟨a, b, e⟩ := Tm.kids2 ht (by omega)
  split at h
  ·rename_i hx
   cases h
   have hr := getD_right hy (i := 0) (by rw [hl, e]; simp)
   obtain ⟨p, q, e2⟩ := two_arity hr (.inr hx.1)
   refine getD_right (fun u hu => Ty.right_kid hr hu) (by rw [e2]; simp)
  ·cases h
 split at h
 ·rename_i h8
  obtain ⟨a, b, c, e⟩ := Tm.kids3 ht h8
  split at h
  ·cases h; exact getD_right hy (by rw [hl, e]; simp)
  ·cases h
 split at h
 ·split at h
  ·split at h
   ·cases h; exact right_leaf (by omega)
   ·cases h
  ·split at h
   ·cases h; refine right_leaf ?_; split <;> omega
   ·cases h
 split at h
 ·rename_i h16
  split at h
  ·split at h
   ·cases h; exact own.b (by rw [h16]; rfl)
   ·cases h
  ·cases h
 ·cases h
theorem ckArms_right {y : Ty} (hy : y.right = true) {l : List Nm} (hl : NmsOk l) {S : List Int} : ∀ {r : List (Pat × Chk)} {out : Option Ty} {z : Ty},
 (∀ p ∈ r, ∀ m : List Nm, NmsOk m → ∀ u, p.2 m S = .ok u → u.right = true) → (∀ o, out = some o → o.right = true) → (r = [] → out ≠ none) → ckArms y l S r out = .ok z → z.right = true
 | [], out, z, _, ho, hn, h => by
   simp only [ckArms, Except.ok.injEq] at h
   cases out with
   | none => exact absurd rfl (hn rfl)
   | some o => simp only [Option.getD_some] at h; subst h; exact ho o rfl
 | (p, f) :: r, out, z, hr, ho, hn, h => by
   simp only [ckArms] at h
   cases hb : p.binds y with
   | none => rw [hb] at h; cases h
   | some b =>
     rw [hb] at h
     simp only at h
     cases hf : f (l ++ b.map nmOfE) S with
     | error e => rw [hf] at h; cases h
     | ok a =>
       rw [hf] at h
       simp only [Except.bind] at h
       have ha : a.right = true := hr (p, f) (List.mem_cons_self ..) _ (hl.app (NmsOk.ents (Pat.binds_right p y b hy hb))) a hf
       cases out with
       | none => exact ckArms_right hy hl (fun p' hp' => hr p' (List.mem_cons_of_mem _ hp')) (fun o h => by cases h; exact ha) (by simp) h
       | some o =>
         simp only at h
         split at h
         ·exact ckArms_right hy hl (fun p' hp' => hr p' (List.mem_cons_of_mem _ hp')) ho (by simp) h
         ·cases h
theorem ck_right (t : Tm) : t.right = true → t.fit → ∀ (l : List Nm) (S : List Int) (y : Ty), NmsOk l → ck t l S = .ok y → y.right = true := by
 induction t using Tm.ind with
 | h t ih =>
   intro ht hfit l S y hl h
   have own := Tm.right_own ht
   have hvars : ∀ v ∈ t.vars, 0 ≤ v ∧ v ≤ 1048576 := own.vars
   have hvl := Nat.le_of_lt hfit.one.vars
   rcases Tm.kinds ht with hk | hk | hk | hk | hk | hk | hk | hk | hk | hk | hk | hk | hk
   ·rw [ck_name hk] at h
    cases hf : l.reverse.find? fun x => decide (x.name = t.name) with
    | none => rw [hf] at h; cases h
    | some x =>
      rw [hf] at h
      simp only at h
      have hx := hl x (List.mem_reverse.1 (List.mem_of_find?_eq_some hf))
      split at h
      ·split at h
       ·cases h
        refine Ty.right_put (fun e he => ?_) _ hx.1
        exact own.args _ (List.of_mem_zip he).2
       ·cases h
      ·cases h
   ·rw [ck_leaf hk] at h
    cases h
    exact right_leaf (by omega)
   ·rw [ck_rest (by omega)] at h
    cases hr : ckKids l S (t.kids.map ck) with
    | error e => rw [hr] at h; cases h
    | ok ys =>
      rw [hr] at h
      obtain ⟨h1, h2⟩ := ckKids_ok hr
      exact ckOf_right ht (by omega) h1 (fun y hy => by obtain ⟨k, a, b⟩ := h2 y hy; exact ih k a (Tm.right_kid ht a) (hfit.kid a) l S y hl b) h
   ·rw [ck_nil hk] at h
    split at h
    ·cases h; exact right_list (own.a (by rw [hk]; rfl))
    ·cases h
   ·rw [ck_rest (by omega)] at h
    cases hr : ckKids l S (t.kids.map ck) with
    | error e => rw [hr] at h; cases h
    | ok ys =>
      rw [hr] at h
      obtain ⟨h1, h2⟩ := ckKids_ok hr
      exact ckOf_right ht (by omega) h1 (fun y hy => by obtain ⟨k, a, b⟩ := h2 y hy; exact ih k a (Tm.right_kid ht a) (hfit.kid a) l S y hl b) h
   ·obtain ⟨k, hkk⟩ := Tm.kids1 ht (.inl hk)
    have hm : k ∈ t.kids := by rw [hkk]; simp
    have ha := own.a (by rw [hk]; rfl)
    rw [ck_fun hk hkk] at h
    split at h
    ·cases hc : ck k (l ++ [⟨t.name, t.a, []⟩]) S with
     | error e => rw [hc] at h; cases h
     | ok z =>
       rw [hc] at h
       cases h
       exact right_fun ha (ih k hm (Tm.right_kid ht hm) (hfit.kid hm) _ _ _ (hl.app (.one (Nm.ok_nil ha))) hc)
    ·cases h
   ·rw [ck_rest (by omega)] at h
    cases hr : ckKids l S (t.kids.map ck) with
    | error e => rw [hr] at h; cases h
    | ok ys =>
      rw [hr] at h
      obtain ⟨h1, h2⟩ := ckKids_ok hr
      exact ckOf_right ht (by omega) h1 (fun y hy => by obtain ⟨k, a, b⟩ := h2 y hy; exact ih k a (Tm.right_kid ht a) (hfit.kid a) l S y hl b) h
   ·obtain ⟨k, m, hkk⟩ := Tm.kids2 ht (by omega)
    have hm1 : k ∈ t.kids := by rw [hkk]; simp
    have hm2 : m ∈ t.kids := by rw [hkk]; simp
    rw [ck_let hk hkk] at h
    split at h
    ·cases hc : ck k l (t.vars ++ S) with
     | error e => rw [hc] at h; cases h
     | ok z =>
       rw [hc] at h
       have hz := ih k hm1 (Tm.right_kid ht hm1) (hfit.kid hm1) _ _ _ hl hc
       exact ih m hm2 (Tm.right_kid ht hm2) (hfit.kid hm2) _ _ _ (hl.app (.one ⟨hz, hvl, hvars⟩)) h
    ·cases h
   ·obtain ⟨k, m, hkk⟩ := Tm.kids2 ht (by omega)
    have hm1 : k ∈ t.kids := by rw [hkk]; simp
    have hm2 : m ∈ t.kids := by rw [hkk]; simp
    have ha := own.a (by rw [hk]; rfl)
    have hb := own.b (by rw [hk]; rfl)
    rw [ck_rec hk hkk] at h
    split at h
    ·split at h
     ·cases hc : ck k (l ++ [⟨t.name, .mk 9 0 [t.a, t.b], []⟩, ⟨t.arg, t.a, []⟩]) (t.vars ++ S) with
      | error e => rw [hc] at h; cases h
      | ok z =>
        rw [hc] at h
        simp only [Except.bind] at h
        split at h
        ·exact ih m hm2 (Tm.right_kid ht hm2) (hfit.kid hm2) _ _ _ (hl.app (.one ⟨right_fun ha hb, hvl, hvars⟩)) h
        ·cases h
     ·cases h
    ·cases h
   ·rw [ck_rest (by omega)] at h
    cases hr : ckKids l S (t.kids.map ck) with
    | error e => rw [hr] at h; cases h
    | ok ys =>
      rw [hr] at h
      obtain ⟨h1, h2⟩ := ckKids_ok hr
      exact ckOf_right ht (by omega) h1 (fun y hy => by obtain ⟨k, a, b⟩ := h2 y hy; exact ih k a (Tm.right_kid ht a) (hfit.kid a) l S y hl b) h
   ·obtain ⟨k, ks, hkk, hlen⟩ := Tm.kidsM ht hk
    have hm1 : k ∈ t.kids := by rw [hkk]; simp
    rw [ck_match hk hkk] at h
    cases hc : ck k l S with
    | error e => rw [hc] at h; cases h
    | ok z =>
      rw [hc] at h
      have hz := ih k hm1 (Tm.right_kid ht hm1) (hfit.kid hm1) _ _ _ hl hc
      refine ckArms_right hz hl (fun p hp m hm u hu => ?_) (fun o h => by cases h) (fun hn => ?_) h
      ·obtain ⟨k', hk', e⟩ := List.mem_map.1 (List.of_mem_zip hp).2
       have hm2 : k' ∈ t.kids := by rw [hkk]; exact List.mem_cons_of_mem _ hk'
       exact ih k' hm2 (Tm.right_kid ht hm2) (hfit.kid hm2) m S u hm (by rw [e]; exact hu)
      ·have := own.match1 hk
       have h1 := congrArg List.length hn
       rw [List.length_zip, List.length_map, hlen, Nat.min_self, List.length_nil] at h1
       omega
   ·rw [ck_rest (by omega)] at h
    cases hr : ckKids l S (t.kids.map ck) with
    | error e => rw [hr] at h; cases h
    | ok ys =>
      rw [hr] at h
      obtain ⟨h1, h2⟩ := ckKids_ok hr
      exact ckOf_right ht (by omega) h1 (fun y hy => by obtain ⟨k, a, b⟩ := h2 y hy; exact ih k a (Tm.right_kid ht a) (hfit.kid a) l S y hl b) h
   ·rw [ck_rest (by omega)] at h
    cases hr : ckKids l S (t.kids.map ck) with
    | error e => rw [hr] at h; cases h
    | ok ys =>
      rw [hr] at h
      obtain ⟨h1, h2⟩ := ckKids_ok hr
      exact ckOf_right ht (by omega) h1 (fun y hy => by obtain ⟨k, a, b⟩ := h2 y hy; exact ih k a (Tm.right_kid ht a) (hfit.kid a) l S y hl b) h
end Go.Su

/-
 The CHECKER: which errors there are; how many names stand at once; scopes as maps of counters.
-/
namespace Go.Su
def errOk (e : Int) : Prop := e = 4 ∨ e = 6 ∨ e = 8
theorem bind_err {α β : Type} {x : Except Int α} {f : α → Except Int β} {e : Int} (h : x.bind f = .error e) : x = .error e ∨ ∃ a, x = .ok a ∧ f a = .error e := by
 cases x with
 | error e' => left; simpa [Except.bind] using h
 | ok a => right; exact ⟨a, rfl, h⟩
theorem bind_ok {α β : Type} {x : Except Int α} {f : α → Except Int β} {y : β} (h : x.bind f = .ok y) : ∃ a, x = .ok a ∧ f a = .ok y := by
 cases x with
 | error e' => cases h
 | ok a => exact ⟨a, rfl, h⟩
theorem ckKids_err {l : List Nm} {S : List Int} : ∀ {ks : List Tm} {e : Int}, ckKids l S (ks.map ck) = .error e → ∃ k ∈ ks, ck k l S = .error e
 | [], e, h => by cases h
 | k :: ks, e, h => by
   simp only [List.map_cons, ckKids] at h
   rcases bind_err h with h | ⟨a, h1, h⟩
   ·exact ⟨k, List.mem_cons_self .., h⟩
   ·rcases bind_err h with h | ⟨a, h1, h⟩
    ·obtain ⟨k', a, b⟩ := ckKids_err h; exact ⟨k', List.mem_cons_of_mem _ a, b⟩
    ·cases h
theorem ckOf_err {t : Tm} {S : List Int} {ys : List Ty} {e : Int} (h : ckOf t S ys = .error e) : errOk e := by
 unfold ckOf at h
 simp only at h
 repeat' (split at h)
 all_goals first | (cases h; done) | (cases h; simp [errOk])
theorem ckArms_err {y : Ty} {l : List Nm} {S : List Int} : ∀ {r : List (Pat × Chk)} {out : Option Ty} {e : Int}, (∀ p ∈ r, ∀ (m : List Nm) e, p.2 m S = .error e → errOk e) → ckArms y l S r out = .error e → errOk e
 | [], out, e, _, h => by cases h
 | (p, f) :: r, out, e, hr, h => by
   simp only [ckArms] at h
   cases hb : p.binds y with
   | none => rw [hb] at h; cases h; simp [errOk]
   | some b =>
     rw [hb] at h
     rcases bind_err h with h | ⟨a, h1, h⟩
     ·exact hr _ (List.mem_cons_self ..) _ _ h
     ·cases out with
      | none => exact ckArms_err (fun p' hp' => hr p' (List.mem_cons_of_mem _ hp')) h
      | some o =>
        simp only at h
        split at h
        ·exact ckArms_err (fun p' hp' => hr p' (List.mem_cons_of_mem _ hp')) h
        ·cases h; simp [errOk]
theorem ck_err (t : Tm) : ∀ (l : List Nm) (S : List Int) (e : Int), ck t l S = .error e → errOk e := by
 induction t using Tm.ind with
 | h t ih =>
   intro l S e h
   have hd : ∀ (i : Nat) l S e, ((t.kids.map ck).getD i fun _ _ => .error 4) l S = .error e → errOk e := by
    intro i l S e h
    rw [List.getD_eq_getElem?_getD] at h
    rcases Nat.lt_or_ge i t.kids.length with hi | hi
    ·rw [List.getElem?_eq_getElem (by simpa using hi)] at h
     simp only [Option.getD_some, List.getElem_map] at h
     exact ih _ (List.getElem_mem hi) _ _ _ h
    ·rw [List.getElem?_eq_none (by simpa using hi)] at h
     cases h; simp [errOk]
   rw [ck_eq] at h
   unfold ckBody at h
   simp only at h
   split at h
   ·split at h
    ·cases h; simp [errOk]
    ·split at h
     ·split at h
      ·cases h
      ·cases h; simp [errOk]
     ·cases h; simp [errOk]
   split at h
   ·cases h
   split at h
   ·split at h
    ·cases h
    ·cases h; simp [errOk]
   split at h
   ·split at h
    ·rcases bind_err h with h | ⟨a, h1, h⟩
     ·exact hd _ _ _ _ h
     ·cases h
    ·cases h; simp [errOk]
   split at h
   ·split at h
    ·rcases bind_err h with h | ⟨a, h1, h⟩
     ·exact hd _ _ _ _ h
     ·exact hd _ _ _ _ h
    ·cases h; simp [errOk]
   split at h
   ·split at h
    ·split at h
     ·rcases bind_err h with h | ⟨a, h1, h⟩
      ·exact hd _ _ _ _ h
      ·split at h
       ·exact hd _ _ _ _ h
       ·cases h; simp [errOk]
     ·cases h; simp [errOk]
    ·cases h; simp [errOk]
   split at h
   ·rcases bind_err h with h | ⟨a, h1, h⟩
    ·exact hd _ _ _ _ h
    ·refine ckArms_err (fun p hp m e he => ?_) h
     have := (List.of_mem_zip hp).2
     obtain ⟨k', hk', e'⟩ := List.mem_map.1 (List.mem_of_mem_drop this)
     rw [← e'] at he
     exact ih k' hk' _ _ _ he
   ·rcases bind_err h with h | ⟨a, h1, h⟩
    ·obtain ⟨k, hk, h⟩ := ckKids_err h
     exact ih k hk _ _ _ h
    ·exact ckOf_err h
def Tm.wide (t : Tm) : Nat := 2 + (t.pats.map Pat.size).sum + (t.kids.attach.map fun k => Tm.wide k.1).sum
termination_by SizeOf.sizeOf t
decreasing_by exact Tm.kid_lt k.2
theorem Tm.wide_eq (t : Tm) : t.wide = 2 + (t.pats.map Pat.size).sum + (t.kids.map Tm.wide).sum := by
 rw [Tm.wide]
 congr 2
 exact List.attach_map_val (f := Tm.wide) ..
theorem Tm.wide_kid {t k : Tm} (h : k ∈ t.kids) : k.wide + 2 + (t.pats.map Pat.size).sum ≤ t.wide := by
 rw [Tm.wide_eq t]
 have := mem_sum (f := Tm.wide) h
 omega
theorem loop_allK {α X : Type} {l : List α} {P : Int → Option X} {f : α → Bool} {y n : Option X} (stop : P l.length = y)
 (step : ∀ (i : Nat) (h : i < l.length), P i = if f l[i] = true then P ((i : Int) + 1) else n) : P 0 = if l.all f = true then y else n := by
 have key : ∀ (m i : Nat), i + m = l.length → P i = if (l.drop i).all f = true then y else n := by
  intro m
  induction m with
  | zero => intro i hi; rw [List.drop_of_length_le (by omega), show i = l.length by omega, stop]; rfl
  | succ m ih =>
    intro i hi
    have h : i < l.length := by omega
    have := ih (i + 1) (by omega)
    push_cast at this
    rw [step i h, List.drop_eq_getElem_cons h, List.all_cons, this]
    by_cases h3 : f l[i] = true <;> simp [h3]
 have := key l.length 0 (by omega)
 simpa using this
def ScopeIs (es : List (DV × DV)) (S : List Int) : Prop := CntIs es fun v => if v ∈ S then 1 else 0
theorem ScopeIs.nil : ScopeIs [] [] := by
 have : (fun v : Int => if v ∈ ([] : List Int) then (1 : Int) else 0) = fun _ => 0 := by funext v; simp
 unfold ScopeIs; rw [this]; exact CntIs.nil
theorem CntIs.congr {es : List (DV × DV)} {c d : Int → Int} (h : CntIs es c) (e : ∀ v, c v = d v) : CntIs es d := fun v => by rw [h v, e v]
theorem takes_iff {S l : List Int} : takes S l = true ↔ l.Nodup ∧ ∀ v ∈ l, v ∉ S := by
 unfold takes
 simp
theorem scope_in {S l : List Int} (h : takes S l = true) {es : List (DV × DV)} (k : CntIs es fun v => (if v ∈ S then 1 else 0) + 1 * (l.count v : Int)) : ScopeIs es (l ++ S) := by
 obtain ⟨h1, h2⟩ := takes_iff.1 h
 refine k.congr fun v => ?_
 by_cases hv : v ∈ l
 ·have : l.count v = 1 := by have a := (List.nodup_iff_count.1 h1) v; have b := List.count_pos_iff.2 hv; omega
  simp [hv, h2 v hv, this]
 ·have : l.count v = 0 := List.count_eq_zero_of_not_mem hv
  simp [hv, this]
theorem scope_out {S l : List Int} (h : takes S l = true) {es : List (DV × DV)} (k : CntIs es fun v => (if v ∈ l ++ S then 1 else 0) + (-1) * (l.count v : Int)) : ScopeIs es S := by
 obtain ⟨h1, h2⟩ := takes_iff.1 h
 refine k.congr fun v => ?_
 by_cases hv : v ∈ l
 ·have : l.count v = 1 := by have a := (List.nodup_iff_count.1 h1) v; have b := List.count_pos_iff.2 hv; omega
  simp [hv, h2 v hv, this]
 ·have : l.count v = 0 := List.count_eq_zero_of_not_mem hv
  simp [hv, this]
def resL : Res → List DV
 | .ok y => [y.enc, .int .i64 0]
 | .error e => [zeroTy.enc, .int .i64 e]
noncomputable def ckType (t : Tm) : Res := if t.right = true then ck t [] [] else .error 1
end Go.Su

/-
 The CHECKER: a term's type has no variables but those in scope.
-/
namespace Go.Su
inductive Ty.Occ (v : Int) : Ty → Prop where
 | here (t : Ty) : t.kind = 6 → t.n = v → Ty.Occ v t
 | kid (t k : Ty) : k ∈ t.kids → Ty.Occ v k → Ty.Occ v t
theorem Ty.occ_iff {v : Int} {t : Ty} : t.Occ v ↔ (t.kind = 6 ∧ t.n = v) ∨ ∃ k ∈ t.kids, k.Occ v := by
 constructor
 ·intro h
  cases h with
  | here _ a b => exact .inl ⟨a, b⟩
  | kid _ k a b => exact .inr ⟨k, a, b⟩
 ·rintro (⟨a, b⟩ | ⟨k, a, b⟩)
  ·exact .here t a b
  ·exact .kid t k a b
theorem Ty.mem_varsOn {v : Int} (t : Ty) : ∀ l : List Int, v ∈ t.varsOn l ↔ v ∈ l ∨ t.Occ v := by
 induction t using Ty.ind with
 | h t ih =>
   intro l
   rw [Ty.varsOn_eq, Ty.occ_iff]
   have key : ∀ (ks : List Ty), (∀ k ∈ ks, ∀ l : List Int, v ∈ k.varsOn l ↔ v ∈ l ∨ k.Occ v) → ∀ l : List Int, v ∈ ks.foldl (fun l k => k.varsOn l) l ↔ v ∈ l ∨ ∃ k ∈ ks, k.Occ v := by
    intro ks
    induction ks with
    | nil => intro _ l; simp
    | cons k ks ihk =>
      intro h l
      simp only [List.foldl_cons]
      rw [ihk (fun k' hk' => h k' (List.mem_cons_of_mem _ hk')), h k (List.mem_cons_self ..)]
      simp only [List.mem_cons, exists_eq_or_imp, or_assoc]
   rw [key t.kids ih]
   by_cases h6 : t.kind = 6
   ·by_cases hn : t.n ∈ l
    ·simp only [h6, hn, not_true, and_false, if_false, true_and]
     constructor
     ·rintro (h | h)
      ·exact .inl h
      ·exact .inr (.inr h)
     ·rintro (h | h | h)
      ·exact .inl h
      ·subst h; exact .inl hn
      ·exact .inr h
    ·simp only [h6, hn, not_false_eq_true, and_self, if_true, List.mem_append, List.mem_singleton, true_and, or_assoc]
     have : v = t.n ↔ t.n = v := eq_comm
     rw [this]
   ·simp [h6]
theorem inS_iff {S : List Int} {t : Ty} : inS S t = true ↔ ∀ v, t.Occ v → v ∈ S := by
 unfold inS Ty.vars
 simp only [List.all_eq_true, decide_eq_true_eq, Ty.mem_varsOn, List.not_mem_nil, false_or]
theorem Ty.closed_iff {t : Ty} : t.without 6 = true ↔ ∀ v, ¬ t.Occ v := by
 induction t using Ty.ind with
 | h t ih =>
   rw [Ty.without_eq]
   simp only [Bool.and_eq_true, Bool.not_eq_true', decide_eq_false_iff_not, List.all_eq_true]
   constructor
   ·rintro ⟨h1, h2⟩ v hv
    rcases Ty.occ_iff.1 hv with ⟨a, -⟩ | ⟨k, a, b⟩
    ·exact h1 a
    ·exact (ih k a).1 (h2 k a) v b
   ·intro h
    refine ⟨fun h6 => h t.n (.here t h6 rfl), fun k hk => (ih k hk).2 fun v hv => h v (.kid t k hk hv)⟩
theorem Ty.var_kids {t : Ty} (h : t.right = true) (h6 : t.kind = 6) : t.kids = [] := by
 have := (Ty.right_iff.1 h).1
 rw [h6] at this
 have e : arity 6 = 0 := rfl
 exact List.eq_nil_of_length_eq_zero (by omega)
theorem Ty.occ_put {v : Int} {l : List (Int × Ty)} {t : Ty} : t.right = true → (t.put l).Occ v → (∃ n u, t.Occ n ∧ look l n = some u ∧ u.Occ v) ∨ (t.Occ v ∧ look l v = Option.none) := by
 induction t using Ty.ind with
 | h t ih =>
   intro hr h
   rw [Ty.put_eq] at h
   by_cases h6 : t.kind = 6
   ·rw [if_pos h6] at h
    cases hl : look l t.n with
    | none =>
      rw [hl] at h
      simp only [Option.getD_none] at h
      rcases Ty.occ_iff.1 h with ⟨a, b⟩ | ⟨k, a, b⟩
      ·exact .inr ⟨h, by rw [← b]; exact hl⟩
      ·rw [Ty.var_kids hr h6] at a; cases a
    | some u =>
      rw [hl] at h
      exact .inl ⟨t.n, u, .here t h6 rfl, hl, h⟩
   ·rw [if_neg h6] at h
    rcases Ty.occ_iff.1 h with ⟨a, -⟩ | ⟨k, a, b⟩
    ·exact absurd a h6
    ·obtain ⟨k', hk', rfl⟩ := List.mem_map.1 a
     rcases ih k' hk' (Ty.right_kid hr hk') b with ⟨n, u, c, d⟩ | ⟨c, d⟩
     ·exact .inl ⟨n, u, .kid t k' hk' c, d⟩
     ·exact .inr ⟨.kid t k' hk' c, d⟩
theorem look_zip_none {vs : List Int} {ts : List Ty} (h : vs.length = ts.length) {v : Int} (hl : look (vs.zip ts) v = none) : v ∉ vs := by
 intro hv
 obtain ⟨i, hi, rfl⟩ := List.getElem_of_mem hv
 unfold look at hl
 simp only [Option.map_eq_none_iff, List.find?_eq_none, decide_eq_true_eq] at hl
 have hz : i < (vs.zip ts).length := by rw [List.length_zip]; omega
 exact hl _ (List.getElem_mem hz) (by simp)
def NmsIn (S : List Int) (l : List Nm) : Prop := ∀ x ∈ l, ∀ v, x.ty.Occ v → v ∈ S ∨ v ∈ x.vars
theorem NmsIn.app {S : List Int} {l m : List Nm} (h : NmsIn S l) (h' : NmsIn S m) : NmsIn S (l ++ m) := fun x hx => by
 rcases List.mem_append.1 hx with hx | hx
 ·exact h x hx
 ·exact h' x hx
theorem NmsIn.more {S : List Int} {l : List Nm} (h : NmsIn S l) (vs : List Int) : NmsIn (vs ++ S) l := fun x hx v hv => by
 rcases h x hx v hv with h | h
 ·exact .inl (List.mem_append_right _ h)
 ·exact .inr h
theorem comb_occ {S : List Int} {ks : List Pat} : (∀ k ∈ ks, ∀ t b, (∀ v, t.Occ v → v ∈ S) → k.binds t = some b → ∀ e ∈ b, ∀ v, e.2.Occ v → v ∈ S) → ∀ ts b, (∀ t ∈ ts, ∀ v, t.Occ v → v ∈ S) → comb (ks.map Pat.binds) ts = some b → ∀ e ∈ b, ∀ v, e.2.Occ v → v ∈ S := by
 induction ks with
 | nil => intro _ ts b _ h; simp only [List.map_nil, comb, Option.some.injEq] at h; subst h; simp
 | cons k ks ih =>
   intro hk ts b ht h
   cases ts with
   | nil => simp [comb] at h
   | cons t ts =>
     simp only [List.map_cons, comb, Option.bind_eq_some_iff, Option.some.injEq] at h
     obtain ⟨a, h1, c, h2, rfl⟩ := h
     have a1 := hk k (List.mem_cons_self ..) t a (ht t (List.mem_cons_self ..)) h1
     have a2 := ih (fun k' hk' => hk k' (List.mem_cons_of_mem _ hk')) ts c (fun t' ht' => ht t' (List.mem_cons_of_mem _ ht')) h2
     intro e he
     rcases List.mem_append.1 he with he | he
     ·exact a1 e he
     ·exact a2 e he
theorem occ_zero (v : Int) : ¬ zeroTy.Occ v := by
 intro h
 rcases Ty.occ_iff.1 h with ⟨a, -⟩ | ⟨k, a, -⟩
 ·cases a
 ·cases a
theorem getD_occ {S : List Int} {l : List Ty} (h : ∀ t ∈ l, ∀ v, t.Occ v → v ∈ S) (i : Nat) : ∀ v, (l.getD i zeroTy).Occ v → v ∈ S := by
 intro v hv
 rw [List.getD_eq_getElem?_getD] at hv
 rcases Nat.lt_or_ge i l.length with hi | hi
 ·rw [List.getElem?_eq_getElem hi] at hv
  exact h _ (List.getElem_mem hi) v hv
 ·rw [List.getElem?_eq_none hi] at hv
  exact absurd hv (occ_zero v)
theorem kids_occ {S : List Int} {t : Ty} (h : ∀ v, t.Occ v → v ∈ S) : ∀ k ∈ t.kids, ∀ v, k.Occ v → v ∈ S := fun k hk v hv => h v (.kid t k hk hv)
theorem Pat.binds_occ {S : List Int} (p : Pat) : ∀ t b, (∀ v, t.Occ v → v ∈ S) → p.binds t = some b → ∀ e ∈ b, ∀ v, e.2.Occ v → v ∈ S := by
 induction p using Pat.ind with
 | h p ih =>
   intro t b ht h
   rw [Pat.binds_eq] at h
   unfold patBody at h
   split at h
   ·simp only [Option.some.injEq] at h; subst h; simp
   split at h
   ·simp only [Option.some.injEq] at h; subst h; simpa using ht
   split at h
   ·split at h
    ·exact comb_occ ih _ _ (kids_occ ht) h
    ·cases h
   split at h
   ·split at h
    ·refine comb_occ ih _ _ ?_ h
     intro k hk
     simp at hk
     rcases hk with rfl | rfl
     ·have := getD_occ (kids_occ ht) 0
      simpa [List.getD_eq_getElem?_getD] using this
     ·exact ht
    ·cases h
   split at h
   ·simp only [Option.some.injEq] at h; subst h; simp
   ·cases h
theorem occ_mk {S : List Int} {k n : Int} (hk : k ≠ 6) {ks : List Ty} (h : ∀ t ∈ ks, ∀ v, t.Occ v → v ∈ S) : ∀ v, (Ty.mk k n ks).Occ v → v ∈ S := by
 intro v hv
 rcases Ty.occ_iff.1 hv with ⟨a, -⟩ | ⟨k', a, b⟩
 ·exact absurd a hk
 ·exact h k' a v b
theorem ckOf_occ {t : Tm} {S : List Int} {ys : List Ty} (hy : ∀ y ∈ ys, ∀ v, y.Occ v → v ∈ S) {y : Ty} (h : ckOf t S ys = .ok y) : ∀ v, y.Occ v → v ∈ S := by
 unfold ckOf at h
 simp only at h
 split at h
 ·cases h; exact occ_mk (by omega) hy
 split at h
 ·split at h
  ·cases h; exact getD_occ hy 1
  ·cases h
 split at h
 ·split at h
  ·cases h; exact getD_occ (kids_occ (getD_occ hy 0)) 1
  ·cases h
 split at h
 ·split at h
  ·cases h; exact getD_occ hy 1
  ·cases h
 split at h
 ·split at h
  ·split at h
   ·cases h; exact occ_mk (by omega) (by simp)
   ·cases h
  ·split at h
   ·cases h; exact occ_mk (by split <;> omega) (by simp)
   ·cases h
 split at h
 ·split at h
  ·rename_i hin
   split at h
   ·cases h
    simp only [Bool.and_eq_true] at hin
    exact inS_iff.1 hin.2
   ·cases h
  ·cases h
 ·cases h
theorem ckArms_occ {y : Ty} {l : List Nm} {S : List Int} (hy : ∀ v, y.Occ v → v ∈ S) (hl : NmsIn S l) : ∀ {r : List (Pat × Chk)} {out : Option Ty} {z : Ty},
 (∀ p ∈ r, ∀ m : List Nm, NmsIn S m → ∀ u, p.2 m S = .ok u → ∀ v, u.Occ v → v ∈ S) → (∀ o, out = some o → ∀ v, o.Occ v → v ∈ S) → ckArms y l S r out = .ok z → ∀ v, z.Occ v → v ∈ S
 | [], out, z, _, ho, h => by
   simp only [ckArms, Except.ok.injEq] at h
   cases out with
   | none => subst h; exact fun v hv => absurd hv (occ_zero v)
   | some o => simp only [Option.getD_some] at h; subst h; exact ho o rfl
 | (p, f) :: r, out, z, hr, ho, h => by
   simp only [ckArms] at h
   cases hb : p.binds y with
   | none => rw [hb] at h; cases h
   | some b =>
     rw [hb] at h
     obtain ⟨a, hf, h⟩ := bind_ok h
     have nb : NmsIn S (b.map nmOfE) := fun x hx v hv => by
      obtain ⟨e, he, rfl⟩ := List.mem_map.1 hx
      exact .inl (Pat.binds_occ p y b hy hb e he v hv)
     have ha := hr (p, f) (List.mem_cons_self ..) _ (hl.app nb) a hf
     cases out with
     | none => exact ckArms_occ hy hl (fun p' hp' => hr p' (List.mem_cons_of_mem _ hp')) (fun o h => by cases h; exact ha) h
     | some o =>
       simp only at h
       split at h
       ·exact ckArms_occ hy hl (fun p' hp' => hr p' (List.mem_cons_of_mem _ hp')) ho h
       ·cases h
theorem ck_occ (t : Tm) : t.right = true → t.fit → ∀ (l : List Nm) (S : List Int) (y : Ty), NmsOk l → NmsIn S l → ck t l S = .ok y → ∀ v, y.Occ v → v ∈ S := by
 induction t using Tm.ind with
 | h t ih =>
   intro ht hfit l S y hl hn h
   have own := Tm.right_own ht
   have hvl := Nat.le_of_lt hfit.one.vars
   have rest : (t.kind = 6 ∨ t.kind = 8 ∨ t.kind = 10 ∨ t.kind = 13 ∨ t.kind = 15 ∨ t.kind = 16) → ∀ v, y.Occ v → v ∈ S := by
    intro hk
    rw [ck_rest hk] at h
    obtain ⟨ys, hr, h⟩ := bind_ok h
    obtain ⟨h1, h2⟩ := ckKids_ok hr
    exact ckOf_occ (fun y hy => by obtain ⟨k, a, b⟩ := h2 y hy; exact ih k a (Tm.right_kid ht a) (hfit.kid a) l S y hl hn b) h
   rcases Tm.kinds ht with hk | hk | hk | hk | hk | hk | hk | hk | hk | hk | hk | hk | hk
   ·rw [ck_name hk] at h
    cases hf : l.reverse.find? fun x => decide (x.name = t.name) with
    | none => rw [hf] at h; cases h
    | some x =>
      rw [hf] at h
      simp only at h
      have hm := List.mem_reverse.1 (List.mem_of_find?_eq_some hf)
      split at h
      ·rename_i hlen
       split at h
       ·rename_i hin
        cases h
        intro v hv
        rcases Ty.occ_put (hl x hm).1 hv with ⟨n, u, a, b, c⟩ | ⟨a, b⟩
        ·have hu := (List.of_mem_zip (look_mem b)).2
         exact inS_iff.1 (List.all_eq_true.1 hin u hu) v c
        ·rcases hn x hm v a with c | c
         ·exact c
         ·exact absurd c (look_zip_none hlen b)
       ·cases h
      ·cases h
   ·rw [ck_leaf hk] at h
    cases h
    exact occ_mk (by omega) (by simp)
   ·exact rest (by omega)
   ·rw [ck_nil hk] at h
    split at h
    ·rename_i hin
     cases h; exact occ_mk (by omega) (by simpa using inS_iff.1 hin)
    ·cases h
   ·exact rest (by omega)
   ·obtain ⟨k, hkk⟩ := Tm.kids1 ht (.inl hk)
    have hm : k ∈ t.kids := by rw [hkk]; simp
    rw [ck_fun hk hkk] at h
    split at h
    ·rename_i hin
     have hin := inS_iff.1 hin
     obtain ⟨z, hc, h⟩ := bind_ok h
     cases h
     have hz := ih k hm (Tm.right_kid ht hm) (hfit.kid hm) _ _ _ (hl.app (.one (Nm.ok_nil (own.a (by rw [hk]; rfl))))) (hn.app (fun x hx => by simp at hx; subst hx; exact fun v hv => .inl (hin v hv))) hc
     refine occ_mk (by omega) ?_
     intro u hu
     simp at hu
     rcases hu with rfl | rfl
     ·exact hin
     ·exact hz
    ·cases h
   ·exact rest (by omega)
   ·obtain ⟨k, m, hkk⟩ := Tm.kids2 ht (by omega)
    have hm1 : k ∈ t.kids := by rw [hkk]; simp
    have hm2 : m ∈ t.kids := by rw [hkk]; simp
    rw [ck_let hk hkk] at h
    split at h
    ·obtain ⟨z, hc, h⟩ := bind_ok h
     have rz := ck_right k (Tm.right_kid ht hm1) (hfit.kid hm1) _ _ _ hl hc
     have hz := ih k hm1 (Tm.right_kid ht hm1) (hfit.kid hm1) _ _ _ hl (hn.more t.vars) hc
     exact ih m hm2 (Tm.right_kid ht hm2) (hfit.kid hm2) _ _ _ (hl.app (.one ⟨rz, hvl, own.vars⟩)) (hn.app (fun x hx => by
      simp at hx; subst hx; intro v hv
      rcases List.mem_append.1 (hz v hv) with a | a
      ·exact .inr a
      ·exact .inl a)) h
    ·cases h
   ·obtain ⟨k, m, hkk⟩ := Tm.kids2 ht (by omega)
    have hm1 : k ∈ t.kids := by rw [hkk]; simp
    have hm2 : m ∈ t.kids := by rw [hkk]; simp
    have ha := own.a (by rw [hk]; rfl)
    have hb := own.b (by rw [hk]; rfl)
    rw [ck_rec hk hkk] at h
    split at h
    ·split at h
     ·rename_i hin
      have i1 := inS_iff.1 hin.1
      have i2 := inS_iff.1 hin.2
      have i3 : ∀ v, (Ty.mk 9 0 [t.a, t.b]).Occ v → v ∈ t.vars ++ S := occ_mk (by omega) (by
       intro u hu
       simp at hu
       rcases hu with rfl | rfl
       ·exact i1
       ·exact i2)
      obtain ⟨z, hc, h⟩ := bind_ok h
      split at h
      ·exact ih m hm2 (Tm.right_kid ht hm2) (hfit.kid hm2) _ _ _ (hl.app (.one ⟨right_fun ha hb, hvl, own.vars⟩)) (hn.app (fun x hx => by
        simp at hx; subst hx; intro v hv
        rcases List.mem_append.1 (i3 v hv) with a | a
        ·exact .inr a
        ·exact .inl a)) h
      ·cases h
     ·cases h
    ·cases h
   ·exact rest (by omega)
   ·obtain ⟨k, ks, hkk, hlen⟩ := Tm.kidsM ht hk
    have hm1 : k ∈ t.kids := by rw [hkk]; simp
    rw [ck_match hk hkk] at h
    obtain ⟨z, hc, h⟩ := bind_ok h
    have rz := ck_right k (Tm.right_kid ht hm1) (hfit.kid hm1) _ _ _ hl hc
    have hz := ih k hm1 (Tm.right_kid ht hm1) (hfit.kid hm1) _ _ _ hl hn hc
    have key : ∀ {r : List (Pat × Chk)} {out : Option Ty} {w : Ty}, (∀ p ∈ r, ∀ m : List Nm, NmsOk m → NmsIn S m → ∀ u, p.2 m S = .ok u → ∀ v, u.Occ v → v ∈ S) → (∀ o, out = some o → ∀ v, o.Occ v → v ∈ S) → ckArms z l S r out = .ok w → ∀ v, w.Occ v → v ∈ S := by
     intro r
     induction r with
     | nil =>
       intro out w _ ho h
       exact ckArms_occ hz hn (r := []) (fun p hp => by cases hp) ho h
     | cons q r ihr =>
       intro out w hr ho h
       obtain ⟨p, f⟩ := q
       simp only [ckArms] at h
       cases hb : p.binds z with
       | none => rw [hb] at h; cases h
       | some b =>
         rw [hb] at h
         obtain ⟨a, hf, h⟩ := bind_ok h
         have nb : NmsIn S (b.map nmOfE) := fun x hx v hv => by
          obtain ⟨e, he, rfl⟩ := List.mem_map.1 hx
          exact .inl (Pat.binds_occ p z b hz hb e he v hv)
         have ha := hr (p, f) (List.mem_cons_self ..) _ (hl.app (NmsOk.ents (Pat.binds_right p z b rz hb))) (hn.app nb) a hf
         cases out with
         | none => exact ihr (fun p' hp' => hr p' (List.mem_cons_of_mem _ hp')) (fun o h => by cases h; exact ha) h
         | some o =>
           simp only at h
           split at h
           ·exact ihr (fun p' hp' => hr p' (List.mem_cons_of_mem _ hp')) ho h
           ·cases h
    refine key (fun p hp m hm hmi u hu => ?_) (fun o h => by cases h) h
    obtain ⟨k', hk', e⟩ := List.mem_map.1 (List.of_mem_zip hp).2
    have hm2 : k' ∈ t.kids := by rw [hkk]; exact List.mem_cons_of_mem _ hk'
    exact ih k' hm2 (Tm.right_kid ht hm2) (hfit.kid hm2) m S u hm hmi (by rw [e]; exact hu)
   ·exact rest (by omega)
   ·exact rest (by omega)
theorem Tm.wide_mass (t : Tm) : t.wide ≤ 2 * t.mass := by
 induction t using Tm.ind with
 | h t ih =>
   rw [Tm.wide_eq, Tm.mass_eq]
   have h1 := sum_le_sum ih
   have h2 := sum_le_sum (l := t.pats) (f := Pat.size) (g := Pat.mass) fun p _ => p.size_mass
   have h3 : (t.kids.map fun k => 2 * k.mass).sum = 2 * (t.kids.map Tm.mass).sum := by
    have : ∀ l : List Tm, (l.map fun k => 2 * k.mass).sum = 2 * (l.map Tm.mass).sum := by
     intro l
     induction l with
     | nil => rfl
     | cons a l ih => simp only [List.map_cons, List.sum_cons, ih]; omega
    exact this _
   omega
def castTm (a b : Ty) (t : Tm) : Tm := .mk 16 0 0 nil8 nil8 0 nil8 0 0 false [] a b [] [] [t]
theorem cast_right {a b : Ty} {t : Tm} (ha : a.right = true) (hb : b.right = true) (ht : t.right = true) : (castTm a b t).right = true := by
 have n0 : (0 : Nat) ≤ 200 := by omega
 rw [Tm.right_eq]
 simp [castTm, Tm.one, Tm.one1, Tm.one2, Tm.one3, Tm.one4, Tm.one5, Tm.lists, kOk, kKids, kName, kArg, kN, kS, kOp, kAt, kVars, kArgs, kPats, kA, kB, kLabel, namedB, typedB, nil8_size, ha, hb, ht]
theorem cast_fit {a b : Ty} {t : Tm} (ha : a.thin = true) (hb : b.thin = true) (va : a.vcount ≤ lim) (vb : b.vcount ≤ lim) (ht : t.fit) : (castTm a b t).fit := by
 refine .mk _ ⟨?_, ?_, ?_, ?_, ha, hb, va, vb, ?_, ?_, ?_, ?_, ?_, ?_⟩ fun k hk => ?_
 ·show nil8.size ≤ _; rw [nil8_size]; omega
 ·show nil8.size ≤ _; rw [nil8_size]; omega
 ·show nil8.size ≤ _; rw [nil8_size]; omega
 ·simp [castTm, lim]
 ·simp [castTm, lim]
 ·simp [castTm]
 ·simp [castTm]
 ·simp [castTm, lim]
 ·simp [castTm]
 ·simp [castTm, lim]
 ·simp [castTm] at hk; subst hk; exact ht
theorem cast_wide (a b : Ty) (t : Tm) : (castTm a b t).wide = t.wide + 2 := by rw [Tm.wide_eq]; simp [castTm]; omega
theorem ck_cast {a b : Ty} {t : Tm} (ht : t.right = true) (ha : a.right = true) (hb : b.right = true) : ckType (castTm a b t) = (ck t [] []).bind fun y =>
 if inS [] a && inS [] b then if y = a ∧ a.agrees b = true then .ok b else .error 4 else .error 6 := by
 unfold ckType
 rw [if_pos (cast_right ha hb ht), ck_rest (.inr (.inr (.inr (.inr (.inr rfl)))))]
 have : (castTm a b t).kids = [t] := rfl
 rw [this]
 simp only [List.map_cons, List.map_nil, ckKids]
 cases ck t [] [] with
 | error e => rfl
 | ok y =>
   simp only [Except.bind]
   unfold ckOf
   have k : (castTm a b t).kind = 16 := rfl
   rw [if_neg (by rw [k]; omega), if_neg (by rw [k]; omega), if_neg (by rw [k]; omega), if_neg (by rw [k]; omega), if_neg (by rw [k]; omega), if_pos k]
   rfl
theorem inS_nil {t : Ty} : inS [] t = t.without 6 := by
 rw [Bool.eq_iff_iff, inS_iff, Ty.closed_iff]
 simp
end Go.Su

/-
 NAMES THAT ARE FREE: rows that rise, what a term binds, which names are free in it.
-/
namespace Go.Su
theorem bytesLt_iff (x y : List UInt8) : bytesLt x y = decide (x < y) := by
 induction x generalizing y with
 | nil => cases y <;> simp [bytesLt]
 | cons a x ih =>
   cases y with
   | nil => simp [bytesLt]
   | cons b y =>
     simp only [bytesLt, ih, List.cons_lt_cons_iff]
     by_cases h : a < b <;> by_cases h' : a = b <;> simp [h, h']
def key8 (s : ByteArray) : List UInt8 := s.data.toList
theorem key8_inj {a b : ByteArray} (h : key8 a = key8 b) : a = b := bytes_ext (by rw [bytes_toList, bytes_toList]; exact h)
theorem key8_ne {a b : ByteArray} (h : a ≠ b) : key8 a ≠ key8 b := fun h' => h (key8_inj h')
def strLt (a b : ByteArray) : Bool := decide (key8 a < key8 b)
@[simp] theorem dBin_slss (a b : ByteArray) : dBin .lss (.str a) (.str b) = some (.bool (strLt a b)) := by
  show some (DV.bool (bytesLt a.toList b.toList)) = _
  rw [bytesLt_iff, bytes_toList, bytes_toList]
  rfl
theorem lt8_irrefl (a : List UInt8) : ¬ a < a := List.lt_irrefl a
def rise : List ByteArray → ByteArray → List ByteArray
 | [], s => [s]
 | x :: l, s => if strLt x s = true then x :: rise l s else if x = s then x :: l else s :: x :: l
def Rises (l : List ByteArray) : Prop := l.Pairwise fun a b => key8 a < key8 b
theorem Rises.nodup {l : List ByteArray} (h : Rises l) : (l.map key8).Nodup := by
 rw [List.nodup_iff_pairwise_ne, List.pairwise_map]
 exact List.Pairwise.imp (fun {a b} (hab : key8 a < key8 b) (he : key8 a = key8 b) => lt8_irrefl (key8 b) (by rw [he] at hab; exact hab)) h
structure KeysAre (es : List (DV × DV)) (P : ByteArray → Prop) : Prop where
 str : ∀ e ∈ es, ∃ s n, e = (.str s, .int .i64 n)
 nodup : (es.map fun e => mkeyB e.1).Nodup
 mem : ∀ s, key8 s ∈ es.map (fun e => mkeyB e.1) ↔ P s
theorem KeysAre.nil : KeysAre [] fun _ => False := ⟨by simp, by simp, by simp⟩
theorem mkeyB_str (s : ByteArray) : mkeyB (.str s) = key8 s := rfl
theorem KeysAre.get {es : List (DV × DV)} {P : ByteArray → Prop} (h : KeysAre es P) (s : ByteArray) : ∃ n, (mGet es (.str s)).getD (.int .i64 0) = .int .i64 n := by
 unfold mGet
 cases hf : es.find? fun e => keyEq (.str s) e.1 with
 | none => exact ⟨0, rfl⟩
 | some e =>
   obtain ⟨s', n, rfl⟩ := h.str e (List.mem_of_find?_eq_some hf)
   exact ⟨n, rfl⟩
theorem mSet_keys (es : List (DV × DV)) (s : ByteArray) (v : DV) (h : ∀ e ∈ es, ∃ s n, e = (DV.str s, DV.int .i64 n)) :
 (mSet es (.str s) v).map (fun e => mkeyB e.1) = if key8 s ∈ es.map (fun e => mkeyB e.1) then es.map (fun e => mkeyB e.1) else es.map (fun e => mkeyB e.1) ++ [key8 s] := by
 induction es with
 | nil => simp [mSet, mkeyB_str]
 | cons e es ih =>
   obtain ⟨s', n, rfl⟩ := h e (List.mem_cons_self ..)
   have ih := ih fun e he => h e (List.mem_cons_of_mem _ he)
   unfold mSet
   rw [keyEq_str]
   by_cases hs : s = s'
   ·subst hs
    simp [mkeyB_str]
   ·have hk := key8_ne hs
    simp only [hs, decide_false, Bool.false_eq_true, if_false, List.map_cons, ih, mkeyB_str, List.mem_cons]
    by_cases hm : key8 s ∈ es.map fun e => mkeyB e.1
    ·simp [hm]
    ·simp [hm, hk]
theorem mSet_str (es : List (DV × DV)) (s : ByteArray) (n : Int) (h : ∀ e ∈ es, ∃ s n, e = (DV.str s, DV.int .i64 n)) : ∀ e ∈ mSet es (.str s) (.int .i64 n), ∃ s n, e = (DV.str s, DV.int .i64 n) := by
 induction es with
 | nil => intro e he; simp only [mSet, List.mem_singleton] at he; exact ⟨s, n, he⟩
 | cons x es ih =>
   obtain ⟨s', n', rfl⟩ := h x (List.mem_cons_self ..)
   have ih := ih fun e he => h e (List.mem_cons_of_mem _ he)
   unfold mSet
   intro e he
   split at he
   ·rcases List.mem_cons.1 he with rfl | he
    ·exact ⟨s', n, rfl⟩
    ·exact h e (List.mem_cons_of_mem _ he)
   ·rcases List.mem_cons.1 he with rfl | he
    ·exact ⟨s', n', rfl⟩
    ·exact ih e he
theorem KeysAre.set {es : List (DV × DV)} {P : ByteArray → Prop} (h : KeysAre es P) (s : ByteArray) (n : Int) : KeysAre (mSet es (.str s) (.int .i64 n)) fun x => x = s ∨ P x := by
 refine ⟨mSet_str es s n h.str, ?_, fun x => ?_⟩
 ·rw [mSet_keys es s _ h.str]
  split
  ·exact h.nodup
  ·rename_i hs
   refine List.nodup_append.2 ⟨h.nodup, by simp, fun a ha b hb => ?_⟩
   rw [List.mem_singleton.1 hb]
   rintro rfl
   exact hs ha
 ·rw [mSet_keys es s _ h.str]
  split
  ·rename_i hs
   rw [h.mem x]
   constructor
   ·exact fun hp => .inr hp
   ·rintro (rfl | hp)
    ·exact (h.mem _).1 hs
    ·exact hp
  ·rw [List.mem_append, h.mem x, List.mem_singleton]
   constructor
   ·rintro (hp | hp)
    ·exact .inr hp
    ·exact .inl (key8_inj hp)
   ·rintro (rfl | hp)
    ·exact .inr rfl
    ·exact .inl hp
theorem KeysAre.congr {es : List (DV × DV)} {P Q : ByteArray → Prop} (h : KeysAre es P) (hq : ∀ s, P s ↔ Q s) : KeysAre es Q := ⟨h.str, h.nodup, fun s => (h.mem s).trans (hq s)⟩
def CntS (es : List (DV × DV)) (c : ByteArray → Int) : Prop := ∀ v, (mGet es (.str v)).getD (.int .i64 0) = .int .i64 (c v)
theorem CntS.nil : CntS [] fun _ => 0 := fun _ => rfl
theorem CntS.set {es : List (DV × DV)} {c : ByteArray → Int} (h : CntS es c) (a : ByteArray) (n : Int) : CntS (mSet es (.str a) (.int .i64 n)) fun v => if a = v then n else c v := by
 intro v
 rw [mGet_set]
 by_cases e : a = v
 ·simp [e]
 ·simp [e, h v]
def Tm.binds (t : Tm) (i : Nat) : List ByteArray :=
 if t.kind = 9 ∨ (t.kind = 11 ∧ i = 1) ∨ (t.kind = 12 ∧ i = 1) then [t.name]
 else if t.kind = 12 then [t.name, t.arg]
 else if t.kind = 14 ∧ 0 < i then match t.pats[i - 1]? with
  | some p => p.names
  | none => []
 else []
mutual
def Tm.fr : Tm → List ByteArray → List ByteArray
 | .mk k lo hi nm ar n s op lb ng vs a b ys ps ks, B => (if k = 1 ∧ (B.any fun x => decide (x = nm)) = false then [nm] else []) ++ Tm.frL (Tm.binds (.mk k lo hi nm ar n s op lb ng vs a b ys ps ks)) 0 ks B
def Tm.frL : (Nat → List ByteArray) → Nat → List Tm → List ByteArray → List ByteArray
 | _, _, [], _ => []
 | b, i, k :: ks, B => Tm.fr k (B ++ b i) ++ Tm.frL b (i + 1) ks B
end
def Tm.free (t : Tm) : List ByteArray := (t.fr []).foldl rise []
theorem Tm.size_mass (t : Tm) : t.size ≤ t.mass := by
 induction t using Tm.ind with
 | h t ih =>
   rw [Tm.size_eq, Tm.mass_eq]
   have key : ∀ ks : List Tm, (∀ k ∈ ks, k.size ≤ k.mass) → (ks.map Tm.size).sum ≤ (ks.map Tm.mass).sum := by
    intro ks
    induction ks with
    | nil => simp
    | cons k ks ihk =>
      intro h
      simp only [List.map_cons, List.sum_cons]
      have := h k (List.mem_cons_self ..)
      have := ihk fun k' hk' => h k' (List.mem_cons_of_mem _ hk')
      omega
   have := key t.kids ih
   omega
theorem Tm.right_one {t : Tm} (h : t.right = true) : t.one = true := by rw [Tm.right_eq, Bool.and_eq_true] at h; exact h.1
end Go.Su

/-
 A closed term put for a name that has no variables.
-/
namespace Go.Su
def Tm.withKids (t : Tm) (ks : List Tm) : Tm := .mk t.kind t.lo t.hi t.name t.arg t.n t.s t.op t.label t.neg t.vars t.a t.b t.args t.pats ks
@[simp] theorem Tm.withKids_kind (t : Tm) (ks : List Tm) : (t.withKids ks).kind = t.kind := rfl
@[simp] theorem Tm.withKids_kids (t : Tm) (ks : List Tm) : (t.withKids ks).kids = ks := rfl
@[simp] theorem Tm.withKids_name (t : Tm) (ks : List Tm) : (t.withKids ks).name = t.name := rfl
@[simp] theorem Tm.withKids_args (t : Tm) (ks : List Tm) : (t.withKids ks).args = t.args := rfl
@[simp] theorem Tm.withKids_pats (t : Tm) (ks : List Tm) : (t.withKids ks).pats = t.pats := rfl
@[simp] theorem Tm.withKids_binds (t : Tm) (ks : List Tm) : (t.withKids ks).binds = t.binds := rfl
@[simp] theorem Tm.withKids_with (t : Tm) (ks ks' : List Tm) : (t.withKids ks).withKids ks' = t.withKids ks' := rfl
end Go.Su

/-
 A closed term put for a name: what it makes of free names, in which order two are put.
-/
namespace Go.Su
end Go.Su

/-
 EXPRESSIONS: what is right, what is free, what is put for a name.
-/
namespace Go.Su
def eName (k : Int) : Bool := decide (k = 1 ∨ k = 9 ∨ k = 11 ∨ k = 12)
def eArg (k : Int) : Bool := decide (k = 12)
def eN (k : Int) : Bool := decide (k = 2 ∨ k = 3)
def eS (k : Int) : Bool := decide (k = 4)
def eOp (k : Int) : Bool := decide (k = 16)
def eA (k : Int) : Bool := decide (k = 9 ∨ k = 11 ∨ k = 12 ∨ k = 15)
def eB (k : Int) : Bool := decide (k = 12)
def eMust (k : Int) : Bool := decide (k = 15)
def eOk (k : Int) (np : Nat) : Bool := decide (1 ≤ k) && decide (k ≤ 16) && (!decide (k = 14) || decide (0 < np))
def eKids (k : Int) (np : Nat) : Int :=
 if k = 6 ∨ k = 8 ∨ k = 10 ∨ k = 11 ∨ k = 12 ∨ k = 16 then 2 else if k = 9 ∨ k = 15 then 1 else if k = 13 then 3 else if k = 14 then np + 1 else 0
def Ty.closed (t : Ty) : Bool := t.right && t.without 6
def noteB (has must : Bool) (t : Ty) : Bool := if t.none = true then !must else has && t.closed
def Ex.one8 (t : Ex) : Bool := t.pats.all Pat.right
def Ex.one7 (t : Ex) : Bool := noteB (eB t.kind) false t.b && t.one8
def Ex.one6 (t : Ex) : Bool := noteB (eA t.kind) (eMust t.kind) t.a && t.one7
def Ex.one5 (t : Ex) : Bool := (!eOp t.kind || (decide (1 ≤ t.op) && decide (t.op ≤ 7))) && (eOp t.kind || decide (t.op = 0)) && t.one6
def Ex.one4 (t : Ex) : Bool := (eS t.kind || decide (t.s = nil8)) && decide (t.s.size ≤ 200) && t.one5
def Ex.one3 (t : Ex) : Bool := (eN t.kind || decide (t.n = 0)) && (!decide (t.kind = 3) || decide (t.n = 0) || decide (t.n = 1)) && t.one4
def Ex.one2 (t : Ex) : Bool := namedB (eArg t.kind) t.arg && t.one3
def Ex.one1 (t : Ex) : Bool := namedB (eName t.kind) t.name && t.one2
def Ex.one (t : Ex) : Bool := eOk t.kind t.pats.length && decide ((t.kids.length : Int) = eKids t.kind t.pats.length) && (decide (t.kind = 14) || decide (t.pats.length = 0)) && t.one1
def Ex.right : Ex → Bool
 | .mk a b c d e f g h i j k ks => Ex.one (.mk a b c d e f g h i j k ks) && (ks.map Ex.right).all id
def Ex.subs : Ex → List Ex
 | .mk a b c d e f g h i j k ks => .mk a b c d e f g h i j k ks :: (ks.map Ex.subs).flatten
theorem Ex.subs_eq (t : Ex) : t.subs = t :: t.kids.flatMap Ex.subs := by
 cases t
 rw [Ex.subs]
 rfl
theorem Ex.self_sub (p : Ex) : p ∈ p.subs := by rw [Ex.subs_eq]; exact List.mem_cons_self ..
theorem Ex.size_mass (t : Ex) : t.size ≤ t.mass := by
 induction t using Ex.ind with
 | h t ih =>
   rw [Ex.size_eq, Ex.mass_eq]
   have key : ∀ ks : List Ex, (∀ k ∈ ks, k.size ≤ k.mass) → (ks.map Ex.size).sum ≤ (ks.map Ex.mass).sum := by
    intro ks
    induction ks with
    | nil => simp
    | cons k ks ihk =>
      intro h
      simp only [List.map_cons, List.sum_cons]
      have := h k (List.mem_cons_self ..)
      have := ihk fun k' hk' => h k' (List.mem_cons_of_mem _ hk')
      omega
   have := key t.kids ih
   omega
def Ex.value : Ex → Bool
 | .mk k _ _ _ _ _ _ _ _ _ _ ks => if k = 1 ∨ k = 2 ∨ k = 3 ∨ k = 4 ∨ k = 5 ∨ k = 7 ∨ k = 9 then true else if k = 6 ∨ k = 8 then ((ks.map Ex.value).take 2).all id else false
def Ex.val : Ex → Bool
 | .mk k _ _ _ _ _ _ _ _ _ _ ks => if k = 2 ∨ k = 3 ∨ k = 4 ∨ k = 5 ∨ k = 7 ∨ k = 9 then true else if k = 6 ∨ k = 8 then ((ks.map Ex.val).take 2).all id else false
def Ex.binds (t : Ex) (i : Nat) : List ByteArray :=
 if t.kind = 9 ∨ (t.kind = 11 ∧ i = 1) ∨ (t.kind = 12 ∧ i = 1) then [t.name]
 else if t.kind = 12 then [t.name, t.arg]
 else if t.kind = 14 ∧ 0 < i then match t.pats[i - 1]? with
  | some p => p.names
  | none => []
 else []
mutual
def Ex.fr : Ex → List ByteArray → List ByteArray
 | .mk k lo hi nm ar n s op a b ps ks, B => (if k = 1 ∧ (B.any fun x => decide (x = nm)) = false then [nm] else []) ++ Ex.frL (Ex.binds (.mk k lo hi nm ar n s op a b ps ks)) 0 ks B
def Ex.frL : (Nat → List ByteArray) → Nat → List Ex → List ByteArray → List ByteArray
 | _, _, [], _ => []
 | b, i, k :: ks, B => Ex.fr k (B ++ b i) ++ Ex.frL b (i + 1) ks B
end
def Ex.free (t : Ex) : List ByteArray := (t.fr []).foldl rise []
def Ex.withKids (t : Ex) (ks : List Ex) : Ex := .mk t.kind t.lo t.hi t.name t.arg t.n t.s t.op t.a t.b t.pats ks
@[simp] theorem Ex.withKids_kind (t : Ex) (ks : List Ex) : (t.withKids ks).kind = t.kind := rfl
@[simp] theorem Ex.withKids_kids (t : Ex) (ks : List Ex) : (t.withKids ks).kids = ks := rfl
@[simp] theorem Ex.withKids_name (t : Ex) (ks : List Ex) : (t.withKids ks).name = t.name := rfl
@[simp] theorem Ex.withKids_pats (t : Ex) (ks : List Ex) : (t.withKids ks).pats = t.pats := rfl
@[simp] theorem Ex.withKids_binds (t : Ex) (ks : List Ex) : (t.withKids ks).binds = t.binds := rfl
@[simp] theorem Ex.withKids_with (t : Ex) (ks ks' : List Ex) : (t.withKids ks).withKids ks' = t.withKids ks' := rfl
mutual
def Ex.put : Ex → ByteArray → Ex → Ex
 | .mk k lo hi nm ar n ss op a b ps ks, s, v =>
   if k = 1 ∧ nm = s then v
   else .mk k lo hi nm ar n ss op a b ps (Ex.putL (Ex.binds (.mk k lo hi nm ar n ss op a b ps ks)) 0 ks s v)
def Ex.putL : (Nat → List ByteArray) → Nat → List Ex → ByteArray → Ex → List Ex
 | _, _, [], _, _ => []
 | b, i, k :: ks, s, v => (if ((b i).any fun x => decide (x = s)) = true then k else Ex.put k s v) :: Ex.putL b (i + 1) ks s v
end
end Go.Su

/-
 EXPRESSIONS: how deep, how great, without places, their annotations.
-/
namespace Go.Su
def most {α : Type} (f : α → Nat) (l : List α) (n : Nat) : Nat := l.foldl (fun a k => max a (f k)) n
def Pat.depth : Pat → Nat
 | .mk _ _ _ _ _ _ ks => (ks.map Pat.depth).foldl max 0 + 1
def Ty.dep (t : Ty) (n : Nat) : Nat := if t.none = true then n else max n t.depth
def Ex.depth : Ex → Nat
 | .mk _ _ _ _ _ _ _ _ a b ps ks => b.dep (a.dep (most Pat.depth ps ((ks.map Ex.depth).foldl max 0))) + 1
end Go.Su

/-
 EXPRESSIONS: other annotations in the places of its own.
-/
namespace Go.Su
def part {α : Type} (g : α → α) (l : List α) (j : Nat) : List α := (l.take j).map g ++ l.drop j
end Go.Su

/-
 EXPRESSIONS WITHOUT TYPES: what a step comes to.
-/
namespace Go.Su
def Pat.fits : Pat → Ex → Option (List (ByteArray × Ex))
 | .mk k _ _ nm n s ks, v =>
   if k = 1 then some []
   else if k = 2 then some [(nm, v)]
   else if k = 3 then (if v.kind = 2 ∧ v.n = n then some [] else none)
   else if k = 4 then (if v.kind = 3 ∧ v.n = n then some [] else none)
   else if k = 5 then (if v.kind = 4 ∧ v.s = s then some [] else none)
   else if k = 6 then (if v.kind = 5 then some [] else none)
   else if k = 8 then (if v.kind = 7 then some [] else none)
   else if k = 7 ∧ v.kind = 6 ∨ k = 9 ∧ v.kind = 8 then
    match ks.map Pat.fits, v.kids with
    | [f, g], [a, b] => (f a).bind fun l => (g b).map fun m => l ++ m
    | _, _ => none
   else none
def Ex.putAll (x : Ex) (l : List (ByteArray × Ex)) : Ex := l.foldl (fun x b => x.put b.1 b.2) x
structure R3 where
 kind : Int
 lo : Int
 hi : Int
def R3.ok : R3 := ⟨0, 0, 0⟩
def R3.stuck : R3 := ⟨6, 0, 0⟩
def R3.enc (r : R3) : DV := .agg [.int .i64 r.kind, .int .i64 0, .int .i64 0, .str ⟨#[]⟩, .int .i64 0, .int .i64 0, .int .i64 0, .bool false, .list 5 [], .list 9 [], .int .i64 0, .bool false, .int .i64 r.lo, .int .i64 r.hi, .int .i64 0]
def noEx : Ex := .mk 0 0 0 nil8 nil8 0 nil8 0 (.mk 0 0 []) (.mk 0 0 []) [] []
def Ex.num (k lo hi n : Int) : Ex := .mk k lo hi nil8 nil8 n nil8 0 (.mk 0 0 []) (.mk 0 0 []) [] []
noncomputable def Ex.opE (t a b : Ex) : Ex × R3 :=
 if ¬ (a.kind = (if t.op = 7 then 4 else 2) ∧ b.kind = (if t.op = 7 then 4 else 2)) then (noEx, .stuck)
 else if t.op = 1 then (.num 2 t.lo t.hi (IntKind.i64.wrap (a.n + b.n)), .ok)
 else if t.op = 2 then (.num 2 t.lo t.hi (IntKind.i64.wrap (a.n - b.n)), .ok)
 else if t.op = 3 then (.num 2 t.lo t.hi (IntKind.i64.wrap (a.n * b.n)), .ok)
 else if t.op = 4 then (if b.n = 0 then (noEx, ⟨3, t.lo, t.hi⟩) else (.num 2 t.lo t.hi (IntKind.i64.wrap (a.n.tdiv b.n)), .ok))
 else if t.op = 5 then (.num 3 t.lo t.hi (if a.n < b.n then 1 else 0), .ok)
 else if t.op = 6 then (.num 3 t.lo t.hi (if a.n = b.n then 1 else 0), .ok)
 else (.num 3 t.lo t.hi (if a.s = b.s then 1 else 0), .ok)
def Ex.armE (v : Ex) : List Pat → List Ex → Option Ex
 | p :: ps, k :: ks => match p.fits v with
   | some l => some (k.putAll l)
   | none => Ex.armE v ps ks
 | _, _ => none
noncomputable def Ex.recE (t k : Ex) : Ex :=
 let b : Ex := if t.name = t.arg then k else .mk 12 0 0 t.name t.arg 0 nil8 0 (.mk 0 0 []) (.mk 0 0 []) [] [k, k]
 .mk 9 0 0 t.arg nil8 0 nil8 0 (.mk 0 0 []) (.mk 0 0 []) [] [b]
def Ex.kid (t : Ex) (i : Nat) : Ex := t.kids.getD i noEx
def manyK (k : Int) : Nat := if k = 6 ∨ k = 8 ∨ k = 10 ∨ k = 16 then 2 else if k = 11 ∨ k = 13 ∨ k = 14 ∨ k = 15 then 1 else 0
def Ex.due (t : Ex) : Option Nat :=
 if 0 < manyK t.kind ∧ (t.kid 0).val = false then some 0 else if 1 < manyK t.kind ∧ (t.kid 1).val = false then some 1 else none
noncomputable def Ex.redE (t : Ex) : Ex × R3 :=
 if t.kind = 10 then (if (t.kid 0).kind = 9 then (((t.kid 0).kid 0).put (t.kid 0).name (t.kid 1), .ok) else (noEx, .stuck))
 else if t.kind = 11 then ((t.kid 1).put t.name (t.kid 0), .ok)
 else if t.kind = 12 then ((t.kid 1).put t.name (t.recE (t.kid 0)), .ok)
 else if t.kind = 13 then (if (t.kid 0).kind = 3 then (t.kid (2 - (t.kid 0).n).toNat, .ok) else (noEx, .stuck))
 else if t.kind = 16 then t.opE (t.kid 0) (t.kid 1)
 else if t.kind = 14 then (match (t.kid 0).armE t.pats (t.kids.drop 1) with
  | some x => (x, .ok)
  | none => (noEx, ⟨4, t.lo, t.hi⟩))
 else if t.kind = 15 then (t.kid 0, .ok)
 else (noEx, .stuck)
noncomputable def Ex.stepE : Ex → Ex × R3
 | .mk k lo hi nm ar n s op a b ps ks =>
   let t : Ex := .mk k lo hi nm ar n s op a b ps ks
   let ss := ks.map Ex.stepE
   match t.due with
   | some i => if (ss.getD i (noEx, .stuck)).2.kind ≠ 0 then (noEx, (ss.getD i (noEx, .stuck)).2) else (t.withKids (ks.set i (ss.getD i (noEx, .stuck)).1), .ok)
   | none => t.redE
def Ex.cl (t : Ex) : Prop := t.right = true ∧ t.free = []
end Go.Su

/-
 EXPRESSIONS WITHOUT TYPES: a step leaves closed what is closed.
-/
namespace Go.Su
theorem Pat.names_kids (p : Pat) : p.names = nmOf p ++ p.kids.flatMap Pat.names := by
 have h : ∀ q : Pat, q.names = q.subs.flatMap nmOf := fun q => by unfold Pat.names; rw [Pat.namesOn_subs]; simp
 rw [h, Pat.subs_eq, List.flatMap_cons, List.flatMap_assoc]
 congr 1
 have e : Pat.names = fun k => k.subs.flatMap nmOf := funext h
 rw [e]
theorem Pat.kids0 {p : Pat} (h : p.pat = true) (hk : ¬ (p.kind = 7 ∨ p.kind = 9)) : p.kids = [] := by
 rw [Pat.pat_eq, Bool.and_eq_true] at h
 have h1 := h.1
 unfold Pat.one at h1
 simp only [hk, if_false] at h1
 have : p.kids.length = 0 := by
  split at h1
  ·simp only [Bool.and_eq_true, decide_eq_true_eq] at h1; exact h1.1.1.1
  ·split at h1
   ·simp only [Bool.and_eq_true, decide_eq_true_eq] at h1; exact h1.1.1.2
   ·split at h1
    ·simp only [Bool.and_eq_true, decide_eq_true_eq] at h1; exact h1.1.1
    ·split at h1
     ·simp only [Bool.and_eq_true, decide_eq_true_eq] at h1; exact h1.1.1.2
     ·split at h1
      ·simp only [Bool.and_eq_true, decide_eq_true_eq] at h1; exact h1.1.1.2
      ·cases h1
 exact List.length_eq_zero_iff.1 this
end Go.Su

/-
 THE CHECKER: what a type hangs on; a closed term put for a name.
-/
namespace Go.Su
theorem comb_names {ks : List Pat} : (∀ k ∈ ks, ∀ t b, k.binds t = some b → b.map Prod.fst = k.names) → ∀ ts b, comb (ks.map Pat.binds) ts = some b → b.map Prod.fst = ks.flatMap Pat.names := by
 induction ks with
 | nil => intro _ ts b h; simp only [List.map_nil, comb, Option.some.injEq] at h; subst h; simp
 | cons k ks ih =>
   intro hk ts b h
   cases ts with
   | nil => simp [comb] at h
   | cons t ts =>
     simp only [List.map_cons, comb, Option.bind_eq_some_iff, Option.some.injEq] at h
     obtain ⟨a, h1, c, h2, rfl⟩ := h
     rw [List.map_append, hk k (List.mem_cons_self ..) t a h1, ih (fun k' hk' => hk k' (List.mem_cons_of_mem _ hk')) ts c h2]
     rfl
theorem Pat.binds_names (p : Pat) : p.pat = true → ∀ t b, p.binds t = some b → b.map Prod.fst = p.names := by
 induction p using Pat.ind with
 | h p ih =>
   intro hp t b h
   rw [Pat.binds_eq] at h
   rw [Pat.names_kids]
   have hpo := hp
   rw [Pat.pat_eq, Bool.and_eq_true, List.all_eq_true] at hpo
   have ih' : ∀ k ∈ p.kids, ∀ t b, k.binds t = some b → b.map Prod.fst = k.names := fun k hk t b h => ih k hk (hpo.2 k hk) t b h
   have no : p.kind ≠ 2 → nmOf p = [] := fun h => if_neg h
   unfold patBody at h
   split at h
   ·rename_i c
    simp only [Option.some.injEq] at h; subst h
    rw [no (by omega), Pat.kids0 hp (by omega)]; rfl
   split at h
   ·rename_i c
    simp only [Option.some.injEq] at h; subst h
    rw [Pat.kids0 hp (by omega)]
    unfold nmOf; rw [if_pos c]; rfl
   split at h
   ·split at h
    ·rw [no (by omega)]; exact comb_names ih' _ _ h
    ·cases h
   split at h
   ·split at h
    ·rw [no (by omega)]; exact comb_names ih' _ _ h
    ·cases h
   split at h
   ·rename_i c1 c2 c3 c4 _
    simp only [Option.some.injEq] at h; subst h
    rw [no c2, Pat.kids0 hp (by omega)]; rfl
   ·cases h
def namesAre (m : List Nm) (b : List ByteArray) : Prop := ∀ n, n ∈ m.map Nm.name ↔ n ∈ b
section
variable {t : Tm} {ks : List Tm} {fs gs : List Chk} {L M : List Nm} {S Q : List Int}
end
def Tm.vs : Tm → List Int
 | .mk _ _ _ _ _ _ _ _ _ _ vs _ _ _ _ ks => vs ++ (ks.map Tm.vs).flatten
theorem Tm.vs_eq (t : Tm) : t.vs = t.vars ++ t.kids.flatMap Tm.vs := by
 cases t
 rw [Tm.vs]
 rfl
theorem Tm.vs_kid {t k : Tm} (hk : k ∈ t.kids) {x : Int} (h : x ∈ k.vs) : x ∈ t.vs := by
 rw [Tm.vs_eq]
 exact List.mem_append.2 (.inr (List.mem_flatMap.2 ⟨k, hk, h⟩))
theorem Tm.vs_own {t : Tm} {x : Int} (h : x ∈ t.vars) : x ∈ t.vs := by
 rw [Tm.vs_eq]
 exact List.mem_append.2 (.inl h)
theorem Tm.right_pats {t : Tm} (h : t.right = true) : ∀ p ∈ t.pats, p.pat = true := by
 intro p hp
 have h1 := Tm.right_one h
 unfold Tm.one Tm.one1 Tm.one2 Tm.one3 Tm.one4 Tm.one5 Tm.lists at h1
 simp only [Bool.and_eq_true, List.all_eq_true] at h1
 have := h1.2.2.2.2.2.2.2 p hp
 unfold Pat.right at this
 rw [Bool.and_eq_true] at this
 exact this.1
theorem Except.bind_ok {α β : Type} {r : Except Int α} {f : α → Except Int β} {B : β} (h : r.bind f = .ok B) : ∃ y, r = .ok y ∧ f y = .ok B := by
 cases r with
 | error e => cases h
 | ok y => exact ⟨y, rfl, h⟩
theorem if_ok {c : Prop} [Decidable c] {r : Res} {e : Int} {B : Ty} (h : (if c then r else .error e) = .ok B) : c ∧ r = .ok B := by
 by_cases hc : c
 ·rw [if_pos hc] at h; exact ⟨hc, h⟩
 ·rw [if_neg hc] at h; cases h
theorem ckKids_each {L : List Nm} {S : List Int} : ∀ (fs : List Chk) (ys : List Ty), ckKids L S fs = .ok ys → ∀ (j : Nat) f, fs[j]? = some f → ∃ Y, f L S = .ok Y
 | [], _, _, j, f, hf => by simp at hf
 | g :: fs, ys, h, j, f, hf => by
   unfold ckKids at h
   obtain ⟨y, h1, h⟩ := Except.bind_ok h
   obtain ⟨zs, h2, _⟩ := Except.bind_ok h
   cases j with
   | zero =>
     simp only [List.getElem?_cons_zero, Option.some.injEq] at hf
     subst hf
     exact ⟨y, h1⟩
   | succ j => exact ckKids_each fs zs h2 j f (by simpa using hf)
theorem ckArms_ok {L : List Nm} {S : List Int} (y : Ty) : ∀ (ps : List Pat) (fs : List Chk) (out : Option Ty) (B : Ty), ckArms y L S (ps.zip fs) out = .ok B → ∀ (j : Nat) p f, ps[j]? = some p → fs[j]? = some f → ∃ b Y, p.binds y = some b ∧ f (L ++ b.map nmOfE) S = .ok Y
 | [], _, _, _, _, j, p, f, hp, _ => by simp at hp
 | _ :: _, [], _, _, _, j, p, f, _, hf => by simp at hf
 | q :: ps, g :: fs, out, B, h, j, p, f, hp, hf => by
   rw [List.zip_cons_cons, ckArms] at h
   cases hb : q.binds y with
   | none => rw [hb] at h; cases h
   | some b =>
     rw [hb] at h
     obtain ⟨a, h1, h⟩ := Except.bind_ok h
     cases j with
     | zero =>
       simp only [List.getElem?_cons_zero, Option.some.injEq] at hp hf
       subst hp hf
       exact ⟨b, a, hb, h1⟩
     | succ j =>
       have hp' : ps[j]? = some p := by simpa using hp
       have hf' : fs[j]? = some f := by simpa using hf
       cases out with
       | none => exact ckArms_ok y ps fs _ B h j p f hp' hf'
       | some o => exact ckArms_ok y ps fs _ B (if_ok h).2 j p f hp' hf'
theorem ckBody_kids {t : Tm} {fs : List Chk} {L : List Nm} {S : List Int} {B : Ty} (rt : t.right = true) (hl : fs.length = t.kids.length) (h : ckBody t fs L S = .ok B) (j : Nat) (f : Chk) (hf : fs[j]? = some f) :
 ∃ (m : List Nm) (V : List Int) (Y : Ty), namesAre m (t.binds j) ∧ (V = [] ∨ takes S t.vars = true ∧ V = t.vars) ∧ f (L ++ m) (V ++ S) = .ok Y := by
 have hj : j < fs.length := (List.getElem?_eq_some_iff.1 hf).1
 have hk : (t.kids.length : Int) = kKids t.kind t.pats.length := by
  have h1 := Tm.right_one rt
  unfold Tm.one at h1
  simp only [Bool.and_eq_true, decide_eq_true_eq] at h1
  exact h1.1.1.1.1.1.2
 have gd : fs.getD j (fun _ _ => .error 4) = f := by rw [List.getD_eq_getElem?_getD, hf]; rfl
 have plain : ∀ (V : List Int) (Y : Ty), t.binds j = [] → (V = [] ∨ takes S t.vars = true ∧ V = t.vars) → f L (V ++ S) = .ok Y → ∃ (m : List Nm) (V : List Int) (Y : Ty), namesAre m (t.binds j) ∧ (V = [] ∨ takes S t.vars = true ∧ V = t.vars) ∧ f (L ++ m) (V ++ S) = .ok Y :=
  fun V Y hb hV hY => ⟨[], V, Y, by rw [hb]; intro n; simp, hV, by simpa using hY⟩
 unfold kKids at hk
 unfold ckBody at h
 simp only [] at h
 by_cases k1 : t.kind = 1
 ·have : t.kids.length = 0 := by simp [k1] at hk; simp [hk]
  omega
 rw [if_neg k1] at h
 by_cases c2 : t.kind = 2 ∨ t.kind = 3 ∨ t.kind = 4 ∨ t.kind = 5
 ·have : t.kids.length = 0 := by rcases c2 with c | c | c | c <;> simp [c] at hk <;> simp [hk]
  omega
 rw [if_neg c2] at h
 by_cases c7 : t.kind = 7
 ·have : t.kids.length = 0 := by simp [c7] at hk; simp [hk]
  omega
 rw [if_neg c7] at h
 by_cases c9 : t.kind = 9
 ·have j0 : j = 0 := by simp [c9] at hk; omega
  subst j0
  rw [if_pos c9] at h
  obtain ⟨y, h1, _⟩ := Except.bind_ok (if_ok h).2
  rw [gd] at h1
  exact ⟨[⟨t.name, t.a, []⟩], [], y, by unfold Tm.binds; rw [if_pos (.inl c9)]; intro n; simp, .inl rfl, h1⟩
 rw [if_neg c9] at h
 by_cases c11 : t.kind = 11
 ·have j1 : j = 0 ∨ j = 1 := by simp [c11] at hk; omega
  rw [if_pos c11] at h
  obtain ⟨ht, h⟩ := if_ok h
  obtain ⟨y, h1, h2⟩ := Except.bind_ok h
  rcases j1 with rfl | rfl
  ·rw [gd] at h1
   exact plain t.vars y (by unfold Tm.binds; rw [if_neg (by omega), if_neg (by omega), if_neg (by omega)]) (.inr ⟨ht, rfl⟩) h1
  ·rw [gd] at h2
   exact ⟨[⟨t.name, y, t.vars⟩], [], B, by unfold Tm.binds; rw [if_pos (.inr (.inl ⟨c11, rfl⟩))]; intro n; simp, .inl rfl, h2⟩
 rw [if_neg c11] at h
 by_cases c12 : t.kind = 12
 ·have j1 : j = 0 ∨ j = 1 := by simp [c12] at hk; omega
  rw [if_pos c12] at h
  obtain ⟨ht, h⟩ := if_ok h
  obtain ⟨y, h1, h2⟩ := Except.bind_ok (if_ok h).2
  rcases j1 with rfl | rfl
  ·rw [gd] at h1
   exact ⟨[⟨t.name, .mk 9 0 [t.a, t.b], []⟩, ⟨t.arg, t.a, []⟩], t.vars, y, by unfold Tm.binds; rw [if_neg (by omega), if_pos c12]; intro n; simp, .inr ⟨ht, rfl⟩, h1⟩
  ·have h2 := (if_ok h2).2
   rw [gd] at h2
   exact ⟨[⟨t.name, .mk 9 0 [t.a, t.b], t.vars⟩], [], B, by unfold Tm.binds; rw [if_pos (.inr (.inr ⟨c12, rfl⟩))]; intro n; simp, .inl rfl, h2⟩
 rw [if_neg c12] at h
 have nob : t.kind ≠ 14 → t.binds j = [] := fun h => by unfold Tm.binds; rw [if_neg (by omega), if_neg (by omega), if_neg (by omega)]
 by_cases c14 : t.kind = 14
 ·rw [if_pos c14] at h
  obtain ⟨y, h1, h2⟩ := Except.bind_ok h
  have hlen : t.kids.length = t.pats.length + 1 := by simp [c14] at hk; omega
  cases j with
  | zero =>
    rw [gd] at h1
    exact plain [] y (by unfold Tm.binds; rw [if_neg (by omega), if_neg (by omega), if_neg (by omega)]) (.inl rfl) h1
  | succ j =>
    have hp : j < t.pats.length := by omega
    obtain ⟨b, Y, hb, hY⟩ := ckArms_ok y t.pats (fs.drop 1) none B h2 j t.pats[j] f (List.getElem?_eq_getElem hp) (by rw [List.getElem?_drop, Nat.add_comm]; exact hf)
    refine ⟨b.map nmOfE, [], Y, fun n => ?_, .inl rfl, hY⟩
    have hn := Pat.binds_names _ (Tm.right_pats rt _ (List.getElem_mem hp)) y b hb
    have hb2 : t.binds (j + 1) = t.pats[j].names := by
     unfold Tm.binds
     rw [if_neg (by omega), if_neg (by omega), if_pos ⟨c14, by omega⟩, show j + 1 - 1 = j by omega, List.getElem?_eq_getElem hp]
    rw [hb2, ← hn, List.map_map]
    rfl
 ·rw [if_neg c14] at h
  obtain ⟨k, h1, _⟩ := Except.bind_ok h
  obtain ⟨Y, hY⟩ := ckKids_each fs k h1 j f hf
  exact plain [] Y (nob c14) (.inl rfl) hY
end Go.Su

/-
 TERMS: types put for variables.
-/
namespace Go.Su
abbrev Bds := List (Int × Ty)
def bOut (l : Bds) (vs : List Int) : Bds := l.filter fun b => !decide (b.1 ∈ vs)
theorem bOut_nil (l : Bds) : bOut l [] = l := by simp [bOut]
theorem bOut_len (l : Bds) (vs : List Int) : (bOut l vs).length ≤ l.length := List.length_filter_le ..
theorem bOut_mem {l : Bds} {vs : List Int} {b : Int × Ty} (h : b ∈ bOut l vs) : b ∈ l := (List.mem_filter.1 h).1
def Ty.putN (l : Bds) (t : Ty) : Ty := if t.kind = 0 then t else t.put l
mutual
def Tm.typs : Tm → Bds → Tm
 | .mk k lo hi nm ar n s op lb ng vs a b ys ps ks, l =>
   .mk k lo hi nm ar n s op lb ng vs (a.putN (if k = 12 then bOut l vs else l)) (b.putN (if k = 12 then bOut l vs else l)) (ys.map (Ty.putN l)) ps (Tm.typsL ks (bOut l vs) l)
def Tm.typsL : List Tm → Bds → Bds → List Tm
 | [], _, _ => []
 | k :: ks, i, l => k.typs i :: Tm.typsL ks l l
end
theorem Tm.typs_eq (t : Tm) (l : Bds) : t.typs l = .mk t.kind t.lo t.hi t.name t.arg t.n t.s t.op t.label t.neg t.vars (t.a.putN (if t.kind = 12 then bOut l t.vars else l)) (t.b.putN (if t.kind = 12 then bOut l t.vars else l)) (t.args.map (Ty.putN l)) t.pats (Tm.typsL t.kids (bOut l t.vars) l) := by
 cases t
 rw [Tm.typs]
 rfl
theorem Tm.typsL_nil (i l : Bds) : Tm.typsL [] i l = [] := by rw [Tm.typsL]
theorem Tm.typsL_cons (k : Tm) (ks : List Tm) (i l : Bds) : Tm.typsL (k :: ks) i l = k.typs i :: Tm.typsL ks l l := by rw [Tm.typsL]
theorem Tm.typsL_same (l : Bds) : ∀ ks : List Tm, Tm.typsL ks l l = ks.map fun k => k.typs l
 | [] => Tm.typsL_nil ..
 | k :: ks => by rw [Tm.typsL_cons, Tm.typsL_same l ks, List.map_cons]
theorem Tm.typsL_len (i l : Bds) : ∀ ks : List Tm, (Tm.typsL ks i l).length = ks.length
 | [] => by rw [Tm.typsL_nil]
 | k :: ks => by rw [Tm.typsL_cons, List.length_cons, List.length_cons, Tm.typsL_same, List.length_map]
def bKid (j : Nat) (i l : Bds) : Bds := if j = 0 then i else l
theorem Tm.typsL_get (i l : Bds) (ks : List Tm) (j : Nat) : (Tm.typsL ks i l)[j]? = (ks[j]?).map fun k => k.typs (bKid j i l) := by
 cases ks with
 | nil => rw [Tm.typsL_nil]; simp
 | cons k ks =>
   rw [Tm.typsL_cons]
   cases j with
   | zero => simp [bKid]
   | succ j => simp [bKid, Tm.typsL_same]
theorem rightBinds_out {l : Bds} (h : rightBinds l = true) (vs : List Int) : rightBinds (bOut l vs) = true := by
 unfold rightBinds at h ⊢
 rw [List.all_eq_true] at h ⊢
 exact fun b hb => h b (bOut_mem hb)
end Go.Su

/-
 TERMS: types put for variables leave a right term right.
-/
namespace Go.Su
theorem Ty.putN_nil (t : Ty) : t.putN [] = t := by
 unfold Ty.putN
 rw [Ty.put_nil, ite_self]
theorem map_same {α : Type} {f : α → α} {l : List α} (h : ∀ x ∈ l, f x = x) : l.map f = l := by
 conv => rhs; rw [← List.map_id l]
 exact List.map_congr_left h
theorem bOut_nil' (vs : List Int) : bOut [] vs = [] := rfl
theorem Tm.typs_nil (t : Tm) : t.typs [] = t := by
 induction t using Tm.ind with
 | h t ih =>
   rw [Tm.typs_eq, bOut_nil', ite_self, Ty.putN_nil, Ty.putN_nil, Tm.typsL_same, map_same ih, map_same fun y _ => Ty.putN_nil y]
   cases t
   rfl
end Go.Su

/-
 THE CHECKER OF TERMS: what has a type is turned by no types put for variables that it neither binds nor has in scope.
-/
namespace Go.Su
theorem Ty.put_off {l : Bds} (t : Ty) : (∀ v, t.Occ v → ∀ b ∈ l, b.1 ≠ v) → t.put l = t := by
 induction t using Ty.ind with
 | h t ih =>
   intro h
   rw [Ty.put_eq]
   split
   ·next h6 =>
    have : look l t.n = Option.none := by
     unfold look
     rw [List.find?_eq_none.2 fun b hb => by
      have := h t.n (Ty.occ_iff.2 (.inl ⟨h6, rfl⟩)) b hb
      simpa using this]
     rfl
    rw [this]
    rfl
   ·rw [map_same fun k hk => ih k hk fun v hv => h v (Ty.occ_iff.2 (.inr ⟨k, hk, hv⟩))]
    cases t
    rfl
theorem Ty.putN_off {l : Bds} {t : Ty} (h : ∀ v, t.Occ v → ∀ b ∈ l, b.1 ≠ v) : t.putN l = t := by
 unfold Ty.putN
 split
 ·rfl
 ·exact Ty.put_off t h
theorem Ty.none_occ {t : Ty} (h : t.none = true) (v : Int) : ¬ t.Occ v := by
 rw [Ty.none_iff.1 h, Ty.occ_iff]
 rintro (h | h)
 ·have := h.1
  simp at this
 ·simp at h
theorem ckBody_occ {t : Tm} {fs : List Chk} {L : List Nm} {S : List Int} {B : Ty} (rt : t.right = true) (h : ckBody t fs L S = .ok B) :
 (∀ v, t.a.Occ v → v ∈ t.vars ++ S) ∧ (∀ v, t.b.Occ v → v ∈ t.vars ++ S) ∧ ∀ y ∈ t.args, ∀ v, y.Occ v → v ∈ t.vars ++ S := by
 have o := Tm.right_one rt
 unfold Tm.one Tm.one1 Tm.one2 Tm.one3 Tm.one4 Tm.one5 Tm.lists at o
 simp only [Bool.and_eq_true] at o
 have oa : typedB (kA t.kind) t.a = true := o.1.1.2
 have ob : typedB (kB t.kind) t.b = true := o.1.2
 have oy : (kArgs t.kind || decide (t.args.length = 0)) = true := o.2.2.2.2.2.1.1.2
 have noA : kA t.kind = false → ∀ v, t.a.Occ v → v ∈ t.vars ++ S := fun e v hv => by
  rw [e] at oa
  exact absurd hv (Ty.none_occ oa v)
 have noB : kB t.kind = false → ∀ v, t.b.Occ v → v ∈ t.vars ++ S := fun e v hv => by
  rw [e] at ob
  exact absurd hv (Ty.none_occ ob v)
 have noY : kArgs t.kind = false → ∀ y ∈ t.args, ∀ v, y.Occ v → v ∈ t.vars ++ S := fun e y hy => by
  rw [e, Bool.false_or, decide_eq_true_eq] at oy
  rw [List.eq_nil_of_length_eq_zero oy] at hy
  cases hy
 have inn : ∀ {y : Ty}, inS S y = true → ∀ v, y.Occ v → v ∈ t.vars ++ S := fun h v hv => List.mem_append.2 (.inr (inS_iff.1 h v hv))
 unfold ckBody at h
 simp only [] at h
 split at h
 ·next h1 =>
  refine ⟨noA (by rw [h1]; rfl), noB (by rw [h1]; rfl), fun y hy => ?_⟩
  split at h
  ·cases h
  ·split at h
   ·split at h
    ·next hin => exact inn (List.all_eq_true.1 hin y hy)
    ·cases h
   ·cases h
 split at h
 ·next h1 =>
  rcases h1 with h1 | h1 | h1 | h1 <;> exact ⟨noA (by rw [h1]; rfl), noB (by rw [h1]; rfl), noY (by rw [h1]; rfl)⟩
 split at h
 ·next h1 =>
  obtain ⟨hin, -⟩ := if_ok h
  exact ⟨inn hin, noB (by rw [h1]; rfl), noY (by rw [h1]; rfl)⟩
 split at h
 ·next h1 =>
  obtain ⟨hin, -⟩ := if_ok h
  exact ⟨inn hin, noB (by rw [h1]; rfl), noY (by rw [h1]; rfl)⟩
 split at h
 ·next h1 => exact ⟨noA (by rw [h1]; rfl), noB (by rw [h1]; rfl), noY (by rw [h1]; rfl)⟩
 split at h
 ·next h1 =>
  obtain ⟨-, h⟩ := if_ok h
  obtain ⟨hin, -⟩ := if_ok h
  exact ⟨fun v hv => inS_iff.1 hin.1 v hv, fun v hv => inS_iff.1 hin.2 v hv, noY (by rw [h1]; rfl)⟩
 split at h
 ·next h1 => exact ⟨noA (by rw [h1]; rfl), noB (by rw [h1]; rfl), noY (by rw [h1]; rfl)⟩
 obtain ⟨k, hk, h⟩ : ∃ k, ckKids L S fs = .ok k ∧ ckOf t S k = .ok B := by
  cases hk : ckKids L S fs with
  | error e => rw [hk] at h; cases h
  | ok k => rw [hk] at h; exact ⟨k, rfl, h⟩
 unfold ckOf at h
 simp only [] at h
 split at h
 ·next h1 => exact ⟨noA (by rw [h1]; rfl), noB (by rw [h1]; rfl), noY (by rw [h1]; rfl)⟩
 split at h
 ·next h1 => exact ⟨noA (by rw [h1]; rfl), noB (by rw [h1]; rfl), noY (by rw [h1]; rfl)⟩
 split at h
 ·next h1 => exact ⟨noA (by rw [h1]; rfl), noB (by rw [h1]; rfl), noY (by rw [h1]; rfl)⟩
 split at h
 ·next h1 => exact ⟨noA (by rw [h1]; rfl), noB (by rw [h1]; rfl), noY (by rw [h1]; rfl)⟩
 split at h
 ·next h1 => exact ⟨noA (by rw [h1]; rfl), noB (by rw [h1]; rfl), noY (by rw [h1]; rfl)⟩
 split at h
 ·next h1 =>
  obtain ⟨hin, -⟩ := if_ok h
  rw [Bool.and_eq_true] at hin
  exact ⟨inn hin.1, inn hin.2, noY (by rw [h1]; rfl)⟩
 ·cases h
theorem Tm.typs_off (t : Tm) : t.right = true → ∀ (L : List Nm) (S : List Int) (B : Ty), ck t L S = .ok B → ∀ l : Bds, (∀ b ∈ l, b.1 ∉ t.vs ∧ b.1 ∉ S) → t.typs l = t := by
 induction t using Tm.ind with
 | h t ih =>
   intro rt L S B h l hl
   rw [ck_eq] at h
   obtain ⟨ha, hb, hy⟩ := ckBody_occ rt h
   have hv : ∀ b ∈ l, b.1 ∉ t.vars := fun b hb hv => (hl b hb).1 (Tm.vs_own hv)
   have off : ∀ v, v ∈ t.vars ++ S → ∀ b ∈ l, b.1 ≠ v := fun v hv' b hb e => by
    rcases List.mem_append.1 hv' with g | g
    ·exact hv b hb (e ▸ g)
    ·exact (hl b hb).2 (e ▸ g)
   have ho : bOut l t.vars = l := by
    unfold bOut
    rw [List.filter_eq_self]
    intro b hb
    simpa using hv b hb
   rw [Tm.typs_eq, ho, ite_self, Ty.putN_off fun v h => off v (ha v h), Ty.putN_off fun v h => off v (hb v h), map_same fun y h => Ty.putN_off fun v h' => off v (hy y h v h'), Tm.typsL_same, map_same]
   ·cases t
    rfl
   ·intro k hk
    obtain ⟨j, hj, rfl⟩ := List.mem_iff_getElem.1 hk
    obtain ⟨m, V, Y, -, hV, hY⟩ := ckBody_kids rt (by simp) h j (ck t.kids[j]) (by rw [List.getElem?_map, List.getElem?_eq_getElem hj]; rfl)
    refine ih _ hk (Tm.right_kid rt hk) _ _ Y hY l fun b hb => ⟨fun g => (hl b hb).1 (Tm.vs_kid hk g), fun g => ?_⟩
    rcases List.mem_append.1 g with g | g
    ·rcases hV with rfl | ⟨-, rfl⟩
     ·cases g
     ·exact hv b hb g
    ·exact (hl b hb).2 g
end Go.Su

/-
 EXPRESSIONS WITHOUT TYPES: a step leaves closed what is closed.
-/
namespace Go.Su
end Go.Su

/-
 EXPRESSIONS WITHOUT TYPES: a step leaves closed what is closed.
-/
namespace Go.Su
end Go.Su

/-
 EXPRESSIONS WITHOUT TYPES: how great what stands at one place may become.
-/
namespace Go.Su
def Ex.own1 (t : Ex) : Nat := 1 + t.name.size + t.arg.size + t.s.size + t.a.size + t.b.size + (t.pats.map Pat.mass).sum
inductive Ex.lean (B : Nat) : Ex → Prop where
 | mk (t : Ex) : t.own1 ≤ B → (∀ k ∈ t.kids, k.lean B) → t.lean B
theorem Ex.lean.own {B : Nat} {t : Ex} (h : t.lean B) : t.own1 ≤ B := by cases h; assumption
theorem Ex.lean.kid {B : Nat} {t k : Ex} (h : t.lean B) (hk : k ∈ t.kids) : k.lean B := by cases h with | mk _ _ g => exact g k hk
theorem Ex.lean.le {B C : Nat} (hBC : B ≤ C) {t : Ex} : t.lean B → t.lean C := by
 induction t using Ex.ind with
 | h t ih => exact fun h => .mk t (Nat.le_trans h.own hBC) fun k hk => ih k hk (h.kid hk)
end Go.Su

/-
 EXPRESSIONS WITHOUT TYPES: a run, and what it tells.
-/
namespace Go.Su
def noCoer : Coer := .mk 0 0 0 false []
structure Rslt where
 kind : Int
 val : Val
 label : Int
 neg : Bool
 lo : Int
 hi : Int
 steps : Int
def Rslt.enc (r : Rslt) : DV := .agg [.int .i64 r.kind, .int .i64 r.val.kind, .int .i64 r.val.n, .str r.val.s, .int .i64 r.val.c.kind, .int .i64 r.val.c.head, .int .i64 r.val.c.label, .bool r.val.c.neg, .list 5 (r.val.c.kids.map Coer.enc), .list 9 (r.val.kids.map Val.enc), .int .i64 r.label, .bool r.neg, .int .i64 r.lo, .int .i64 r.hi, .int .i64 r.steps]
@[simp] theorem isAggN_Res (r : Rslt) : isAggN 15 r.enc = true := rfl
end Go.Su

/-
 EXPRESSIONS WITHOUT TYPES: a run is its steps, and then reading.
-/
namespace Go.Su
inductive Ex.steps : Nat → Ex → Ex → Prop where
 | zero (t : Ex) : Ex.steps 0 t t
 | succ {n : Nat} {t u : Ex} : t.val = false → t.stepE.2.kind = 0 → Ex.steps n t.stepE.1 u → Ex.steps (n + 1) t u
end Go.Su

/-
 EXPRESSIONS WITHOUT TYPES: annotations turn nothing of a run.
-/
namespace Go.Su
def Ex.strip : Ex → Ex
 | .mk k lo hi nm ar n s op _ _ ps ks => .mk k lo hi nm ar n s op (.mk 0 0 []) (.mk 0 0 []) ps (ks.map Ex.strip)
theorem Ex.strip_eq (t : Ex) : t.strip = .mk t.kind t.lo t.hi t.name t.arg t.n t.s t.op (.mk 0 0 []) (.mk 0 0 []) t.pats (t.kids.map Ex.strip) := by
 cases t
 rw [Ex.strip]
 rfl
@[simp] theorem Ex.strip_kind (t : Ex) : t.strip.kind = t.kind := by rw [Ex.strip_eq]; rfl
@[simp] theorem Ex.strip_lo (t : Ex) : t.strip.lo = t.lo := by rw [Ex.strip_eq]; rfl
@[simp] theorem Ex.strip_hi (t : Ex) : t.strip.hi = t.hi := by rw [Ex.strip_eq]; rfl
@[simp] theorem Ex.strip_name (t : Ex) : t.strip.name = t.name := by rw [Ex.strip_eq]; rfl
@[simp] theorem Ex.strip_arg (t : Ex) : t.strip.arg = t.arg := by rw [Ex.strip_eq]; rfl
@[simp] theorem Ex.strip_n (t : Ex) : t.strip.n = t.n := by rw [Ex.strip_eq]; rfl
@[simp] theorem Ex.strip_s (t : Ex) : t.strip.s = t.s := by rw [Ex.strip_eq]; rfl
@[simp] theorem Ex.strip_op (t : Ex) : t.strip.op = t.op := by rw [Ex.strip_eq]; rfl
@[simp] theorem Ex.strip_pats (t : Ex) : t.strip.pats = t.pats := by rw [Ex.strip_eq]; rfl
@[simp] theorem Ex.strip_kids (t : Ex) : t.strip.kids = t.kids.map Ex.strip := by rw [Ex.strip_eq]; rfl
end Go.Su

/-
 TERMS: a term put for a name, its variables for the name's types.
-/
namespace Go.Su
end Go.Su

/-
 TERMS: what a substitution with variables leaves is within bounds.
-/
namespace Go.Su
inductive Tm.slim : Tm → Prop where
 | mk (t : Tm) : (t.a.size ≤ 60 ∧ t.b.size ≤ 60 ∧ ∀ y ∈ t.args, y.size ≤ 60) → (∀ k ∈ t.kids, k.slim) → t.slim
theorem Tm.slim.one {t : Tm} (h : t.slim) : t.a.size ≤ 60 ∧ t.b.size ≤ 60 ∧ ∀ y ∈ t.args, y.size ≤ 60 := by cases h; assumption
theorem Tm.slim.kid {t k : Tm} (h : t.slim) (hk : k ∈ t.kids) : k.slim := by cases h with | mk _ _ g => exact g k hk
end Go.Su

/-
 The settings of the data machine for this seat: by program.
-/
namespace Go.Su
open Go.Proofs
def spread {α : Type} (d : α) : Nat → Nat → List (Nat × α) → List α
 | 0, _, _ => []
 | n + 1, i, [] => d :: spread d n (i + 1) []
 | n + 1, i, (j, x) :: l => match Nat.beq i j with
   | true => x :: spread d n (i + 1) l
   | false => d :: spread d n (i + 1) ((j, x) :: l)
def bxs (d : DV) : Nat → Nat → List (DV × Meta)
 | _, 0 => []
 | i, n + 1 => (proj i d, .val) :: bxs d (i + 1) n
def mst (n : Nat) (a : List (Nat × DV)) (b : List (Nat × Meta)) (c : List (Nat × Option (List (DV × Meta)))) (g : List SObj) : St := ⟨spread .undef n 0 a, spread .val n 0 b, spread none n 0 c, g⟩
abbrev zA0 : DV := .agg [(.bool false), (.bool false), (.bool false), (.bool false), (.bool false), (.bool false), (.bool false), (.bool false), (.bool false), (.bool false), (.bool false), (.bool false), (.int .i64 0)]
abbrev zA1 : DV := .agg [(.bool false), (.bool false), (.bool false), (.bool false), (.bool false), (.bool false), (.bool false), (.bool false), (.bool false), (.bool false), (.bool false), (.bool false), (.int .i64 2)]
abbrev zA2 : DV := .agg [(.bool false), (.bool false), (.bool true), (.bool false), (.bool false), (.bool false), (.bool false), (.bool false), (.bool false), (.bool false), (.bool false), (.bool false), (.int .i64 0)]
abbrev zA3 : DV := .agg [(.int .i64 0), (.int .i64 0), (.int .i64 0), (.str ⟨#[]⟩), (.str ⟨#[]⟩), (.int .i64 0), (.str ⟨#[]⟩), (.int .i64 0), (.int .i64 0), (.bool false), (.list 1 []), (.int .i64 0), (.int .i64 0), (.list 3 []), (.int .i64 0), (.int .i64 0), (.list 3 []), (.list 3 []), (.list 7 []), (.list 20 [])]
abbrev zA4 : DV := .agg [(.int .i64 2), (.int .i64 0), (.int .i64 0), (.str ⟨#[]⟩), (.str ⟨#[]⟩), (.int .i64 5), (.str ⟨#[]⟩), (.int .i64 0), (.int .i64 0), (.bool false), (.list 1 []), (.int .i64 0), (.int .i64 0), (.list 3 []), (.int .i64 0), (.int .i64 0), (.list 3 []), (.list 3 []), (.list 7 []), (.list 20 [])]
abbrev F_l19_CheckTypes : FuncId := 3
abbrev F_l17_Heavy : FuncId := 6
abbrev F_r17_Right : FuncId := 7
abbrev F_r17_TameTerm : FuncId := 8
abbrev F_l19_vars : FuncId := 9
abbrev F_l11_Small : FuncId := 10
abbrev F_r03_Right : FuncId := 11
abbrev F_r03_Without : FuncId := 12
abbrev F_r03_In : FuncId := 13
abbrev F_r03_Size : FuncId := 14
abbrev F_check_Type : FuncId := 15
abbrev F_l19_wakes : FuncId := 16
abbrev F_term_Types : FuncId := 17
abbrev F_scheme_Subst : FuncId := 18
abbrev F_keep_Same : FuncId := 19
abbrev F_l17_light : FuncId := 24
abbrev F_term_Check : FuncId := 27
abbrev F_l17_weigh : FuncId := 28
abbrev F_r17_own : FuncId := 29
abbrev F_r17_bulk : FuncId := 30
abbrev F_l03_Heavy : FuncId := 31
abbrev F_r08_Deep : FuncId := 32
abbrev F_r03_Vars : FuncId := 33
abbrev F_r03_Kids : FuncId := 34
abbrev F_check_scope_term : FuncId := 35
abbrev F_l19_cast : FuncId := 36
abbrev F_term_right : FuncId := 37
abbrev F_term_bindsRight : FuncId := 38
abbrev F_term_types : FuncId := 39
abbrev F_typ_Check : FuncId := 40
abbrev F_scheme_put : FuncId := 41
abbrev F_word_Name : FuncId := 42
abbrev F_r01_Name : FuncId := 45
abbrev F_r17_flat : FuncId := 49
abbrev F_r03_Leaf : FuncId := 50
abbrev F_l17_weighPat : FuncId := 57
abbrev F_r17_bare : FuncId := 58
abbrev F_r05_RightPat : FuncId := 59
abbrev F_r17_more : FuncId := 60
abbrev F_r16_Bulk_Of : FuncId := 61
abbrev F_r05_Names : FuncId := 62
abbrev F_r16_Bulk_Named : FuncId := 63
abbrev F_l03_count : FuncId := 64
abbrev F_r03_vars : FuncId := 65
abbrev F_check_scope_name : FuncId := 66
abbrev F_check_scope_has : FuncId := 67
abbrev F_check_with : FuncId := 68
abbrev F_check_fun : FuncId := 69
abbrev F_check_scope_let : FuncId := 70
abbrev F_check_scope_rec : FuncId := 71
abbrev F_check_scope_match : FuncId := 72
abbrev F_check_scope_kids : FuncId := 73
abbrev F_check_scope_of : FuncId := 74
abbrev F_term_one : FuncId := 75
abbrev F_term_put : FuncId := 78
abbrev F_term_outside : FuncId := 79
abbrev F_typ_right : FuncId := 80
abbrev F_word_Key : FuncId := 81
abbrev F_word_inner : FuncId := 82
abbrev F_r01_lower : FuncId := 86
abbrev F_r01_part : FuncId := 87
abbrev F_r01_Key : FuncId := 88
abbrev F_r05_Has : FuncId := 90
abbrev F_r03_SameAll : FuncId := 93
abbrev F_r03_Same : FuncId := 94
abbrev F_r05_SameAt : FuncId := 95
abbrev F_typ_Same : FuncId := 97
abbrev F_r05_pat : FuncId := 104
abbrev F_r05_names : FuncId := 105
abbrev F_typ_Vars : FuncId := 106
abbrev F_check_scope_takes : FuncId := 107
abbrev F_check_scope_enter : FuncId := 108
abbrev F_pats_Bind : FuncId := 109
abbrev F_agree_Agree : FuncId := 110
abbrev F_term_shapeOf : FuncId := 111
abbrev F_term_named : FuncId := 112
abbrev F_term_typed : FuncId := 113
abbrev F_term_lists : FuncId := 114
abbrev F_slices_DeleteFunc__api_Bind_api_Bind : FuncId := 115
abbrev F_term_outside_1 : FuncId := 117
abbrev F_slices_Contains__int_int : FuncId := 118
abbrev F_typ_arity : FuncId := 119
abbrev F_r01_digit : FuncId := 124
abbrev F_r05_Same : FuncId := 126
abbrev F_r05_patAt : FuncId := 127
abbrev F_typ_vars : FuncId := 128
abbrev F_tree_CheckPat : FuncId := 129
abbrev F_pats_bind : FuncId := 130
abbrev F_agree_agrees : FuncId := 131
abbrev F_term_none : FuncId := 132
abbrev F_slices_IndexFunc__api_Bind_api_Bind : FuncId := 133
abbrev F_slices_Index__int_int : FuncId := 134
abbrev F_r05_SamePat : FuncId := 148
abbrev F_tree_onePat : FuncId := 150
abbrev F_pats_leaf : FuncId := 151
abbrev F_typ_Closed : FuncId := 152
abbrev F_typ_without : FuncId := 161
def fl_l19_CheckTypes : Flags := { steal := [5], keep := [(5, [1, 2, 5, 6], [2], [], [1, 2, 5, 6])] }
def fl_l17_TermPut : Flags := {}
def fl_l17_TermTypes : Flags := { keep := [(4, [1, 2, 5], [2], [], [1, 2, 5]), (10, [6, 7], [6], [], [6, 7])] }
def fl_l17_Heavy : Flags := { keep := [(3, [0, 3, 4], [], [], [0, 3, 4])] }
def fl_r17_Right : Flags := { keep := [(4, [1, 3], [1], [], [1, 3])] }
def fl_r17_TameTerm : Flags := { shared := [8] }
def fl_l19_vars : Flags := { steal := [1, 4, 6, 22, 24], keep := [(3, [1, 2, 5], [2], [1], [2, 5])] }
def sig_l19_vars : Sig := { params := [.val, .own], results := [.own] }
def fl_l11_Small : Flags := { keep := [(2, [0, 3], [], [], [0, 3])] }
def fl_r03_Right : Flags := { keep := [(4, [1, 3], [1], [], [1, 3])] }
def fl_r03_Without : Flags := { keep := [(4, [1, 2, 5], [2], [], [1, 2, 5])] }
def fl_r03_In : Flags := { keep := [(2, [0, 1, 5], [], [], [0, 1, 5])] }
def fl_r03_Size : Flags := { keep := [(3, [1, 3, 4], [1], [], [1, 3, 4])] }
def fl_check_Type : Flags := {}
def fl_l19_wakes : Flags := {}
def fl_term_Types : Flags := {}
def fl_scheme_Subst : Flags := { keep := [(5, [1, 2, 4, 6, 16, 17, 18], [2, 4], [], [1, 2, 4, 6, 16, 17, 18])] }
def fl_keep_Same : Flags := { keep := [(4, [2, 3, 5], [2, 3], [], [2, 3, 5])] }
def fl_term_Put : Flags := { keep := [(4, [1, 2, 4, 7, 8, 32, 33, 34], [4, 7, 8], [], [1, 2, 4, 7, 8, 32, 33, 34])] }
def fl_r17_Put : Flags := { keep := [(4, [1, 2, 4, 7, 8, 10], [4, 7, 8], [], [1, 2, 4, 7, 8, 10])] }
def fl_r17_Same : Flags := { keep := [(4, [2, 3, 5], [2, 3], [], [2, 3, 5])] }
def fl_l17_wakes : Flags := { keep := [(4, [1, 2, 3, 4, 5], [1, 2, 4], [], [1, 2, 3, 4, 5])] }
def fl_l17_light : Flags := {}
def fl_r08_RightBinds : Flags := { keep := [(2, [0, 3], [], [], [0, 3])] }
def fl_r17_Types : Flags := { steal := [7, 9, 37, 56, 66, 77], keep := [(4, [1, 2, 4, 5, 6], [2, 4], [], [1, 2, 4, 5, 6]), (7, [1, 2, 4, 5, 7, 8], [2, 4], [7], [1, 2, 4, 5, 8]), (12, [1, 2, 4, 5, 7, 9, 10], [2, 4], [9], [1, 2, 4, 5, 7, 10])] }
def fl_term_Check : Flags := {}
def fl_l17_weigh : Flags := { keep := [(5, [1, 2, 5], [2], [], [1, 2, 5]), (11, [1, 2, 6], [2], [], [1, 2, 6]), (15, [1, 2, 7], [2], [], [1, 2, 7])] }
def fl_r17_own : Flags := { keep := [(5, [1, 5], [1], [], [1, 5]), (10, [1, 6], [1], [], [1, 6]), (15, [1, 7], [1], [], [1, 7])] }
def fl_r17_bulk : Flags := { steal := [7, 120], keep := [(5, [0, 2, 4, 7, 8], [4], [7], [0, 2, 4, 8]), (12, [0, 2, 4, 7, 8, 9], [4], [7], [0, 2, 4, 8, 9]), (19, [0, 2, 4, 7, 8, 9, 10, 11], [4], [7], [0, 2, 4, 8, 9, 10, 11]), (22, [0, 2, 4, 7, 8, 9], [4], [7], [0, 2, 4, 8, 9]), (25, [0, 2, 4, 7, 12, 13], [4], [], [0, 2, 4, 7, 12, 13])] }
def sig_r17_bulk : Sig := { params := [.val, .val, .val], results := [.val] }
def fl_l03_Heavy : Flags := { keep := [(3, [0, 3, 4], [], [], [0, 3, 4])] }
def fl_r08_Deep : Flags := { keep := [(4, [1, 2, 5], [2], [], [1, 2, 5])] }
def fl_r03_Vars : Flags := { steal := [2] }
def fl_r03_Kids : Flags := {}
def fl_check_scope_term : Flags := { keep := [(8, [4, 6], [4, 6], [], [4, 6])] }
def sig_check_scope_term : Sig := { params := [.val, .val, .val], results := [.val, .val] }
def fl_l19_cast : Flags := {}
def fl_term_right : Flags := { keep := [(4, [9, 10, 11], [], [], [9, 10, 11])] }
def fl_term_bindsRight : Flags := {}
def fl_term_types : Flags := { hide := [45, 55], keep := [(3, [1, 2, 4, 18, 19, 20], [2, 4], [], [1, 2, 4, 18, 19, 20]), (8, [1, 2, 4, 34, 35, 36], [2, 4], [], [1, 2, 4, 34, 35, 36]), (14, [1, 2, 4], [2, 4], [], [1, 2, 4])] }
def fl_typ_Check : Flags := {}
def fl_scheme_put : Flags := { steal := [45], keep := [(10, [1, 2, 6, 9, 38, 39, 40], [6, 9], [9], [1, 2, 6, 38, 39, 40])] }
def sig_scheme_put : Sig := { params := [.val, .val, .val], results := [.val] }
def fl_word_Name : Flags := { keep := [(4, [0, 3], [], [], [0, 3])] }
def fl_term_Free : Flags := {}
def fl_term_For : Flags := { shared := [17] }
def fl_r01_Name : Flags := { keep := [(4, [0, 3], [], [], [0, 3])] }
def fl_r17_Free : Flags := {}
def fl_r17_counts : Flags := { keep := [(4, [1, 2, 3, 7], [3], [], [1, 2, 3, 7])] }
def fl_r17_replaced : Flags := { steal := [9, 38, 46, 58], keep := [(3, [1, 2, 4, 7, 8], [4, 7, 8], [], [1, 2, 4, 7, 8]), (5, [1, 2, 4, 7, 8, 9, 10], [4, 7, 8], [9], [1, 2, 4, 7, 8, 10])] }
def fl_r17_flat : Flags := { keep := [(3, [2, 3], [2, 3], [], [2, 3]), (6, [2, 3, 5], [2, 3], [], [2, 3, 5]), (11, [2, 3, 6], [2, 3], [], [2, 3, 6])] }
def fl_r03_Leaf : Flags := {}
def fl_l17_name : Flags := {}
def fl_term_Size : Flags := { keep := [(3, [3, 7, 8, 9], [], [], [3, 7, 8, 9])] }
def fl_keep_Texts : Flags := { keep := [(4, [0, 1, 5], [], [], [0, 1, 5])] }
def fl_term_Same : Flags := { keep := [(3, [2, 3], [2, 3], [], [2, 3])] }
def fl_r17_without : Flags := { steal := [4, 5, 21, 28], keep := [(3, [0, 1, 5, 6], [], [5], [0, 1, 6])] }
def fl_r17_put : Flags := {}
def fl_l17_weighPat : Flags := { keep := [(5, [1, 2, 5], [2], [], [1, 2, 5])] }
def fl_r17_bare : Flags := { keep := [(25, [1, 2, 4, 9], [1, 2, 4], [], [1, 2, 4, 9])] }
def fl_r05_RightPat : Flags := { keep := [(5, [3, 4], [], [], [3, 4])] }
def fl_r17_more : Flags := { steal := [6] }
def fl_r16_Bulk_Of : Flags := {}
def sig_r16_Bulk_Of : Sig := { params := [.val, .val], results := [.val] }
def fl_r05_Names : Flags := { steal := [2] }
def fl_r16_Bulk_Named : Flags := { keep := [(3, [0, 1, 2, 3, 9, 10], [], [], [0, 1, 2, 3, 9, 10]), (7, [0, 1, 2, 9, 11], [], [], [0, 1, 2, 9, 11])] }
def sig_r16_Bulk_Named : Sig := { params := [.val, .val, .val, .val], results := [.val] }
def fl_l03_count : Flags := { keep := [(3, [1, 2, 5], [2], [], [1, 2, 5])] }
def fl_r03_vars : Flags := { steal := [1, 4, 16, 33, 35], keep := [(3, [1, 2], [2], [1], [2]), (4, [1, 2, 5], [2], [1], [2, 5])] }
def sig_r03_vars : Sig := { params := [.val, .own], results := [.own] }
def fl_check_scope_name : Flags := { steal := [10, 61, 74], keep := [(2, [0, 2, 4, 6, 8], [4, 6], [], [0, 2, 4, 6, 8]), (14, [4, 6, 9, 10, 54, 55, 56], [4, 6, 9], [10], [4, 6, 9, 54, 55, 56])] }
def sig_check_scope_name : Sig := { params := [.val, .val, .val], results := [.val, .val] }
def fl_check_scope_has : Flags := { keep := [(2, [0, 9, 10, 11], [], [], [0, 9, 10, 11]), (5, [0, 9, 10, 11, 16, 17, 18], [], [], [0, 9, 10, 11, 16, 17, 18])] }
def sig_check_scope_has : Sig := { params := [.val, .val], results := [.val] }
def fl_check_with : Flags := { steal := [4] }
def sig_check_with : Sig := { params := [.val, .val], results := [.own] }
def fl_check_fun : Flags := {}
def fl_check_scope_let : Flags := {}
def sig_check_scope_let : Sig := { params := [.val, .val, .val], results := [.val, .val] }
def fl_check_scope_rec : Flags := { keep := [(10, [0, 2, 4, 6, 9, 10, 11], [4, 6, 9, 10], [], [0, 2, 4, 6, 9, 10, 11])] }
def sig_check_scope_rec : Sig := { params := [.val, .val, .val], results := [.val, .val] }
def fl_check_scope_match : Flags := { steal := [15, 59, 76], keep := [(6, [0, 2, 4, 6, 8, 10, 34, 35, 36], [4, 6, 8, 10], [], [0, 2, 4, 6, 8, 10, 34, 35, 36]), (13, [0, 2, 4, 6, 8, 10, 11, 15, 34, 35, 36, 53, 54, 55], [4, 6, 8, 10], [15], [0, 2, 4, 6, 8, 10, 11, 34, 35, 36, 53, 54, 55])] }
def sig_check_scope_match : Sig := { params := [.val, .val, .val], results := [.val, .val] }
def fl_check_scope_kids : Flags := { steal := [6, 8, 30, 35], keep := [(3, [0, 2, 8, 14, 15, 16], [], [8], [0, 2, 14, 15, 16])] }
def sig_check_scope_kids : Sig := { params := [.val, .val, .val], results := [.val, .val] }
def fl_check_scope_of : Flags := { keep := [(13, [0, 2, 4, 6, 11], [4, 6], [], [0, 2, 4, 6, 11]), (21, [2, 6, 8, 9], [6], [], [2, 6, 8, 9])] }
def sig_check_scope_of : Sig := { params := [.val, .val, .val], results := [.val, .val] }
def fl_term_one : Flags := { keep := [(4, [1, 3], [1, 3], [], [1, 3]), (6, [1, 3], [1, 3], [], [1, 3]), (8, [1, 3], [1, 3], [], [1, 3]), (10, [1, 3], [1, 3], [], [1, 3]), (12, [1, 3], [1, 3], [], [1, 3])] }
def fl_term_put : Flags := {}
def fl_term_outside : Flags := { shared := [3] }
def fl_typ_right : Flags := { keep := [(9, [33, 34, 35], [], [], [33, 34, 35])] }
def fl_word_Key : Flags := {}
def fl_word_inner : Flags := {}
def fl_term_free : Flags := { keep := [(3, [1, 2, 3], [3], [], [1, 2, 3]), (4, [1, 2, 3, 29, 30, 31], [3], [], [1, 2, 3, 29, 30, 31]), (8, [1, 2, 3, 7, 8, 29, 30, 31, 39, 40, 41], [3, 7], [], [1, 2, 3, 7, 8, 29, 30, 31, 39, 40, 41]), (14, [1, 2, 3, 29, 30, 31, 54, 55, 56], [3], [], [1, 2, 3, 29, 30, 31, 54, 55, 56])] }
def sig_term_free : Sig := { params := [.val, .val, .val], results := [] }
def fl_term_putting_in : Flags := { steal := [6, 58, 73], keep := [(10, [0, 3, 4, 6, 51, 52, 53], [3, 4], [6], [0, 3, 4, 51, 52, 53]), (19, [0, 3, 4, 9, 83, 84, 85], [3, 4], [], [0, 3, 4, 9, 83, 84, 85])] }
def sig_term_putting_in : Sig := { params := [.val, .val], results := [.val, .val], lock := true }
def fl_r01_lower : Flags := {}
def fl_r01_part : Flags := {}
def fl_r01_Key : Flags := { keep := [(2, [0, 3], [], [], [0, 3]), (8, [0, 4, 5], [], [], [0, 4, 5])] }
def fl_r17_free : Flags := { keep := [(3, [1, 2, 3], [3], [], [1, 2, 3]), (4, [1, 2, 3, 7], [3], [], [1, 2, 3, 7])] }
def fl_r05_Has : Flags := { keep := [(2, [0, 1, 5], [], [], [0, 1, 5])] }
def fl_r17_Binds : Flags := { keep := [(5, [1, 2], [2], [], [1, 2])] }
def fl_r16_Binds : Flags := { steal := [4, 5, 13, 25], keep := [(3, [0, 1, 5, 6], [], [5], [0, 1, 6])] }
def fl_r03_SameAll : Flags := { keep := [(4, [0, 1, 5], [], [], [0, 1, 5])] }
def fl_r03_Same : Flags := { keep := [(4, [2, 3, 5], [2, 3], [], [2, 3, 5])] }
def fl_r05_SameAt : Flags := { keep := [(4, [2, 3, 5], [2, 3], [], [2, 3, 5]), (9, [2, 3, 6], [2, 3], [], [2, 3, 6])] }
def fl_slices_Equal__int_int : Flags := { keep := [(4, [0, 1, 12, 13], [], [], [0, 1, 12, 13])] }
def fl_typ_Same : Flags := { keep := [(4, [3, 29, 30, 31], [3], [], [3, 29, 30, 31])] }
def fl_slices_EqualFunc__api_Type__api_Type_api_Type_api_Type : Flags := { keep := [(4, [1, 2, 15, 16, 17], [], [], [1, 2, 15, 16, 17])] }
def sig_slices_EqualFunc__api_Type__api_Type_api_Type_api_Type : Sig := { params := [.val, .val, .val], results := [.val] }
def fl_slices_EqualFunc__api_Pat__api_Pat_api_Pat_api_Pat : Flags := { keep := [(4, [1, 2, 15, 16, 17], [], [], [1, 2, 15, 16, 17])] }
def sig_slices_EqualFunc__api_Pat__api_Pat_api_Pat_api_Pat : Sig := { params := [.val, .val, .val], results := [.val] }
def fl_term_samePat : Flags := {}
def fl_slices_EqualFunc__api_Term__api_Term_api_Term_api_Term : Flags := { keep := [(4, [1, 2, 15, 16, 17], [], [], [1, 2, 15, 16, 17])] }
def sig_slices_EqualFunc__api_Term__api_Term_api_Term_api_Term : Sig := { params := [.val, .val, .val], results := [.val] }
def fl_r03_None : Flags := {}
def fl_r08_Put : Flags := { steal := [42], keep := [(3, [1, 2, 4, 5], [2, 4], [], [1, 2, 4, 5]), (10, [1, 2, 4, 6, 7], [2, 4, 6], [6], [1, 2, 4, 7])] }
def fl_r05_pat : Flags := { keep := [(25, [1, 3, 4], [1, 4], [], [1, 3, 4]), (28, [1, 3, 5], [1], [], [1, 3, 5])] }
def fl_r05_names : Flags := { steal := [1, 4, 9, 26, 28], keep := [(4, [1, 2, 5], [2], [1], [2, 5])] }
def sig_r05_names : Sig := { params := [.val, .own], results := [.own] }
def fl_typ_Vars : Flags := { steal := [2] }
def fl_check_scope_takes : Flags := { keep := [(2, [0, 1, 7, 8, 9], [], [], [0, 1, 7, 8, 9])] }
def sig_check_scope_takes : Sig := { params := [.val, .val], results := [.val] }
def fl_check_scope_enter : Flags := { keep := [(1, [0, 2, 8, 9, 10], [], [], [0, 2, 8, 9, 10])] }
def sig_check_scope_enter : Sig := { params := [.val, .val, .val], results := [] }
def fl_pats_Bind : Flags := { steal := [4, 6, 16, 20, 24] }
def fl_agree_Agree : Flags := {}
def fl_term_shapeOf : Flags := {}
def fl_term_named : Flags := {}
def fl_term_typed : Flags := {}
def fl_term_lists : Flags := { keep := [(2, [1, 10, 11, 12], [1], [], [1, 10, 11, 12]), (8, [1, 24, 25, 26], [1], [], [1, 24, 25, 26]), (14, [35, 36, 37], [], [], [35, 36, 37])] }
def fl_slices_DeleteFunc__api_Bind_api_Bind : Flags := { keep := [(5, [0, 1, 5, 6], [], [], [0, 1, 5, 6])] }
def sig_slices_DeleteFunc__api_Bind_api_Bind : Sig := { params := [.val, .val], results := [.val], lock := true }
def fl_term_outside_1 : Flags := {}
def sig_term_outside_1 : Sig := { params := [.val, .val], results := [.val] }
def fl_slices_Contains__int_int : Flags := {}
def fl_typ_arity : Flags := {}
def fl_term_binds : Flags := { steal := [4], keep := [(5, [1, 2], [2], [], [1, 2])] }
def fl_slices_Contains__string_string : Flags := {}
def fl_r01_digit : Flags := {}
def fl_r05_Rise : Flags := { steal := [4, 6, 39], keep := [(2, [0, 1, 5], [], [], [0, 1, 5]), (4, [0, 1, 5], [], [], [0, 1, 5]), (6, [0, 1, 5], [], [], [0, 1, 5])] }
def fl_r05_Same : Flags := { keep := [(3, [2, 3], [2, 3], [], [2, 3]), (6, [2, 3, 5], [2, 3], [], [2, 3, 5]), (11, [2, 3, 6], [2, 3], [], [2, 3, 6])] }
def fl_r05_patAt : Flags := { keep := [(4, [2, 3, 5], [2, 3], [], [2, 3, 5])] }
def fl_typ_vars : Flags := { steal := [2, 6, 17, 36, 39], keep := [(5, [1, 2, 3], [3], [2], [1, 3]), (6, [1, 2, 28, 29, 30], [], [2], [1, 28, 29, 30])] }
def sig_typ_vars : Sig := { params := [.val, .val, .own], results := [.own] }
def fl_tree_CheckPat : Flags := { shared := [1, 2, 3], keep := [(3, [2, 3, 8], [], [], [2, 3, 8]), (6, [3, 4], [4], [], [3, 4])] }
def fl_pats_bind : Flags := { steal := [2, 6, 14, 23, 26, 59, 65, 67, 72], keep := [(16, [2, 3, 8], [3], [2], [3, 8]), (17, [2, 8, 52, 53, 54], [], [2], [8, 52, 53, 54])] }
def sig_pats_bind : Sig := { params := [.val, .val, .own], results := [.own, .val] }
def fl_agree_agrees : Flags := { keep := [(8, [3, 33, 34, 35], [3], [], [3, 33, 34, 35])] }
def fl_term_none : Flags := {}
def fl_slices_IndexFunc__api_Bind_api_Bind : Flags := { keep := [(2, [0, 1, 7, 8], [], [], [0, 1, 7, 8])] }
def sig_slices_IndexFunc__api_Bind_api_Bind : Sig := { params := [.val, .val], results := [.val] }
def fl_slices_Index__int_int : Flags := { keep := [(2, [0, 1, 7, 8], [], [], [0, 1, 7, 8])] }
def fl_term_patNames : Flags := { steal := [1, 4, 10, 23, 26], keep := [(4, [1, 16, 17, 18], [], [1], [16, 17, 18])] }
def sig_term_patNames : Sig := { params := [.val, .own], results := [.own] }
def fl_slices_Index__string_string : Flags := { keep := [(2, [0, 1, 7, 8], [], [], [0, 1, 7, 8])] }
def fl_r05_SamePat : Flags := { keep := [(4, [2, 3, 5], [2, 3], [], [2, 3, 5])] }
def fl_tree_onePat : Flags := { keep := [(24, [1, 3, 4], [1, 3], [], [1, 3, 4])] }
def fl_pats_leaf : Flags := {}
def fl_typ_Closed : Flags := {}
def fl_typ_without : Flags := { keep := [(4, [1, 12, 13, 14], [], [], [1, 12, 13, 14])] }
def flL : List Flags := [{}, {}, {}, fl_l19_CheckTypes, fl_l17_TermPut, fl_l17_TermTypes, fl_l17_Heavy, fl_r17_Right, fl_r17_TameTerm, fl_l19_vars, fl_l11_Small, fl_r03_Right, fl_r03_Without, fl_r03_In, fl_r03_Size, fl_check_Type, fl_l19_wakes, fl_term_Types, fl_scheme_Subst, fl_keep_Same, fl_term_Put, fl_r17_Put, fl_r17_Same, fl_l17_wakes, fl_l17_light, fl_r08_RightBinds, fl_r17_Types, fl_term_Check, fl_l17_weigh, fl_r17_own, fl_r17_bulk, fl_l03_Heavy, fl_r08_Deep, fl_r03_Vars, fl_r03_Kids, fl_check_scope_term, fl_l19_cast, fl_term_right, fl_term_bindsRight, fl_term_types, fl_typ_Check, fl_scheme_put, fl_word_Name, fl_term_Free, fl_term_For, fl_r01_Name, fl_r17_Free, fl_r17_counts, fl_r17_replaced, fl_r17_flat, fl_r03_Leaf, fl_l17_name, fl_term_Size, fl_keep_Texts, fl_term_Same, fl_r17_without, fl_r17_put, fl_l17_weighPat, fl_r17_bare, fl_r05_RightPat, fl_r17_more, fl_r16_Bulk_Of, fl_r05_Names, fl_r16_Bulk_Named, fl_l03_count, fl_r03_vars, fl_check_scope_name, fl_check_scope_has, fl_check_with, fl_check_fun, fl_check_scope_let, fl_check_scope_rec, fl_check_scope_match, fl_check_scope_kids, fl_check_scope_of, fl_term_one, {}, {}, fl_term_put, fl_term_outside, fl_typ_right, fl_word_Key, fl_word_inner, fl_term_free, {}, fl_term_putting_in, fl_r01_lower, fl_r01_part, fl_r01_Key, fl_r17_free, fl_r05_Has, fl_r17_Binds, fl_r16_Binds, fl_r03_SameAll, fl_r03_Same, fl_r05_SameAt, fl_slices_Equal__int_int, fl_typ_Same, fl_slices_EqualFunc__api_Type__api_Type_api_Type_api_Type, fl_slices_EqualFunc__api_Pat__api_Pat_api_Pat_api_Pat, fl_term_samePat, fl_slices_EqualFunc__api_Term__api_Term_api_Term_api_Term, fl_r03_None, fl_r08_Put, fl_r05_pat, fl_r05_names, fl_typ_Vars, fl_check_scope_takes, fl_check_scope_enter, fl_pats_Bind, fl_agree_Agree, fl_term_shapeOf, fl_term_named, fl_term_typed, fl_term_lists, fl_slices_DeleteFunc__api_Bind_api_Bind, {}, fl_term_outside_1, fl_slices_Contains__int_int, fl_typ_arity, fl_term_binds, {}, {}, fl_slices_Contains__string_string, fl_r01_digit, fl_r05_Rise, fl_r05_Same, fl_r05_patAt, fl_typ_vars, fl_tree_CheckPat, fl_pats_bind, fl_agree_agrees, fl_term_none, fl_slices_IndexFunc__api_Bind_api_Bind, fl_slices_Index__int_int, fl_term_patNames, {}, {}, {}, {}, {}, {}, {}, {}, {}, {}, {}, fl_slices_Index__string_string, fl_r05_SamePat, {}, fl_tree_onePat, fl_pats_leaf, fl_typ_Closed, {}, {}, {}, {}, {}, {}, {}, {}, fl_typ_without, {}, {}, {}, {}, {}, {}, {}, {}, {}, {}, {}, {}, {}, {}, {}, {}, {}, {}]
def sigL : List (Option Sig) := [none, none, none, none, none, none, none, none, none, some sig_l19_vars, none, none, none, none, none, none, none, none, none, none, none, none, none, none, none, none, none, none, none, none, some sig_r17_bulk, none, none, none, none, some sig_check_scope_term, none, none, none, none, none, some sig_scheme_put, none, none, none, none, none, none, none, none, none, none, none, none, none, none, none, none, none, none, none, some sig_r16_Bulk_Of, none, some sig_r16_Bulk_Named, none, some sig_r03_vars, some sig_check_scope_name, some sig_check_scope_has, some sig_check_with, none, some sig_check_scope_let, some sig_check_scope_rec, some sig_check_scope_match, some sig_check_scope_kids, some sig_check_scope_of, none, none, none, none, none, none, none, none, some sig_term_free, none, some sig_term_putting_in, none, none, none, none, none, none, none, none, none, none, none, none, some sig_slices_EqualFunc__api_Type__api_Type_api_Type_api_Type, some sig_slices_EqualFunc__api_Pat__api_Pat_api_Pat_api_Pat, none, some sig_slices_EqualFunc__api_Term__api_Term_api_Term_api_Term, none, none, none, some sig_r05_names, none, some sig_check_scope_takes, some sig_check_scope_enter, none, none, none, none, none, none, some sig_slices_DeleteFunc__api_Bind_api_Bind, none, some sig_term_outside_1, none, none, none, none, none, none, none, none, none, none, some sig_typ_vars, none, some sig_pats_bind, none, none, some sig_slices_IndexFunc__api_Bind_api_Bind, none, some sig_term_patNames, none, none, none, none, none, none, none, none, none, none, none, none, none, none, none, none, none, none, none, none, none, none, none, none, none, none, none, none, none, none, none, none, none, none, none, none, none, none, none, none, none, none, none, none]
def clL : List FuncId := [76, 77, 116]
def csL : List (FuncId × Nat) := [(76, 3), (77, 20), (116, 4), (149, 7)]
def mkL : List (FuncId × FuncId) := [(149, 159)]
noncomputable def itF (f : FuncId) : Option (List DV → Option (List DV)) := if f = 159 then some (flatD 7 6) else none
noncomputable def kc_term_Free : Code := Tryz.f43.body.getD .skip
noncomputable def kp_term_Free : KP where
 pre6 := (regL kc_term_Free [true, true, true, true, true, false, false]).take 1
 rRange := opR kc_term_Free [true, true, true, true, true, false, false] 1
 rNext := opR kc_term_Free [true, true, true, true, true, false, true, false, false, false] 0
 rExt := opR kc_term_Free [true, true, true, true, true, false, true, false, false, false] 1
 rEntry := opR kc_term_Free [true, true, true, true, true, false, true, false, false, true, true, false, false] 0
 rExt2 := opR kc_term_Free [true, true, true, true, true, false, true, false, false, true, true, false, false] 1
 rAsg := opR kc_term_Free [true, true, true, true, true, false, true, false, false, true, true, false, false] 2
 rMv := opR kc_term_Free [true, true, true, true, true, false, true, false, false, true, true, false, true] 0
 rMv2 := opR kc_term_Free [true, true, true, true, true, false, true, false, false, true, true, false, true] 1
 rBs := opR kc_term_Free [true, true, true, true, true, false, true, false, false, true, true, false, true] 2
 rApp := opR kc_term_Free [true, true, true, true, true, false, true, false, false, true, true, false, true] 3
 rAsg2 := opR kc_term_Free [true, true, true, true, true, false, true, false, false, true, true, false, true] 4
 rMv3 := opR kc_term_Free [true, true, true, true, true, true, false] 0
 rCall := opR kc_term_Free [true, true, true, true, true, true, false] 1
 i6 := 6
 b0 := 0
 i7 := 7
 b1 := 1
 i8 := 8
 i9 := 9
 i10 := 10
 it := 15
 mm := 14
 t21 := 16
 t22 := 17
 t23 := 18
 t24 := 19
 tk := 5
 t25 := 20
 t26 := 21
 t27 := 22
 t28 := 23
 tl := 4
 t29 := 24
 t30 := 25
 tm := 107
 ts := 73
 te := 9
 kt := 9
 vt := 3
 f := 84
noncomputable def cut_term_Free : Cut where
 pre := takeSeq 5 kc_term_Free
 mid := kp_term_Free.mid Tryz.prog
 post := dropSeq 7 kc_term_Free
noncomputable def primL : List (FuncId × Cut) := [(43, cut_term_Free)]
noncomputable def cfg : Cfg where
 P := Tryz.prog
 fl f := flL.getD f {}
 sig f := sigL.getD f none
 prim f := primL.lookup f
 clone f := clL.contains f
 csz f := (csL.lookup f).getD 0
 mki f := mkL.lookup f
 iter f := itF f
def zb0 : List (DV × Meta) := [((.int .i64 0), .val), ((.int .i64 0), .val), ((.int .i64 0), .val), ((.str ⟨#[]⟩), .val), ((.str ⟨#[]⟩), .val), ((.int .i64 0), .val), ((.str ⟨#[]⟩), .val), ((.int .i64 0), .val), ((.int .i64 0), .val), ((.bool false), .val), ((.list 1 []), .val), ((.int .i64 0), .val), ((.int .i64 0), .val), ((.list 3 []), .val), ((.int .i64 0), .val), ((.int .i64 0), .val), ((.list 3 []), .val), ((.list 3 []), .val), ((.list 7 []), .val), ((.list 20 []), .val)]
def zb1 : List (DV × Meta) := [((.int .i64 0), .val), ((.int .i64 0), .val), ((.list 3 []), .val)]
noncomputable def hP (fn : Func) (fl : Flags) (R : Orc) (l : List Bool) (s : St) := headP cfg R fl (retP cfg.P fn) l (fn.body.getD .skip) s
noncomputable def eP (fn : Func) (fl : Flags) (R : Orc) (l : List Bool) (s : St) := evP cfg R fl (retP cfg.P fn) l (fn.body.getD .skip) s
theorem callE {f : FuncId} {fn : Func} {ds : List DV} {X : Option DV} {d : DV} (hf : cfg.P.funcs[f]? = some fn) (hp : cfg.prim f = none) (hb : fn.body = some (fn.body.getD .skip)) (hX : evP cfg (run cfg) (cfg.fl f) (retP cfg.P fn) [] (fn.body.getD .skip) (initSt fn (ds.map fun d => (d, .val)) []) = X) (h : X = some d) : (run cfg).p f ds = some d := (fix_pure hp hf hb).trans (hX.trans h)
end Go.Su

/-
 The program's iterators keep their word: by program.
-/
namespace Go.Su
open Go.Proofs Go.RowKit Go.Shelf
attribute [local go_sem] Oper.semAt_some
set_option linter.unusedSimpArgs false
set_option linter.unusedVariables false
theorem room_none {F : Fence} (hd : F.depth = none) (k : Nat) : F.room k := fun d h => by rw [hd] at h; cases h
theorem RoundIn.anyD {F : Fence} (hd : F.depth = none) {m m' : Nat} {P : Program} {l : Nat} {f : FuncId} {tmps : Array Value} {assign body : Code} {w : World} {R : Ending → World → Prop}
 (h : RoundIn F m P l f tmps assign body w R) : RoundIn F m' P l f tmps assign body w R := ⟨h.1, fun c cs _ => h.2 c cs (room_none hd _)⟩
set_option maxHeartbeats 1000000 in
theorem mk_pats : MkOk Tryz.prog 149 159 7 := by
 intro w vs hs
 obtain ⟨l⟩ := vs
 match l, hs with
 | [v0, v1, v2, v3, v4, v5, v6], _ =>
 refine (callsIn_wide (n := 1)).1 (callsIn_of_wp Tryz.func149 rfl trivial ?_)
 simp only [Tryz.ntmps149, List.size_toArray, List.length_cons, List.length_nil, Nat.reduceAdd, Nat.reduceSub, Array.replicate_succ, Array.replicate_zero, List.push_toArray, List.append_toArray, List.nil_append, List.cons_append]
 gi_wp2
 go_ret
 exact ⟨rfl, _, rfl⟩
set_option maxRecDepth 10000 in
set_option maxHeartbeats 4000000 in
theorem go_pats (l n0 : Nat) (ds : List DV) (J : Nat → Env → World → Prop) (Jx : World → Prop) (n : Nat)
 (hf : ∀ k E' W', J k E' W' → ∀ b o, W'.heap.size ≤ b → E'.O b o = .other)
 (hI : ∀ k E' W1 W2, J k E' W1 → ItLe n0 E' W1 W2 → J k E' W2)
 (hY : ∀ k E' W1 d v, J k E' W1 → ds[k]? = some d → RV E'.S W1.heap d v → YieldAt Fence.wide n Tryz.prog l #[v] W1 fun e W2 =>
   (e = .returned (.bool true) ∧ ∃ E2, J (k + 1) E2 W2 ∧ Pr Ours E' W1.heap E2 W2.heap) ∨ (e = .returned (.bool false) ∧ Jx W2)) :
 ∀ (m : Nat) (d : DV) (sub : List DV), flatN 7 6 m d = some sub → ∀ (k : Nat) (E : Env) (W : World) (v : Value), J k E W → RV E.S W.heap d v → (∀ j x, sub[j]? = some x → ds[k + j]? = some x) → n0 ≤ W.heap.size →
   CallsIn Fence.wide n Tryz.prog 160 #[v, .func (.yield l) #[] #[]] W fun e W' => (e = .returned (.bool true) ∧ ∃ E', J (k + sub.length) E' W' ∧ Kpt E W E' W') ∨ (e = .returned (.bool false) ∧ Jx W') := by
 intro m
 induction m with
 | zero => intro d sub h; simp [flatN] at h
 | succ m ih =>
   intro d sub hsub k E W v hJ hv hin hn0
   cases d with
   | agg cs =>
     rw [flatN] at hsub
     obtain ⟨h1, hsub⟩ := og_some hsub
     cases hk : cs.getD 6 .undef with
     | list s kds =>
       rw [hk] at hsub
       simp only at hsub
       obtain ⟨h2, hsub⟩ := og_some hsub
       obtain ⟨ks, h3, hsub⟩ := ob_some hsub
       simp only [Option.some.injEq] at hsub
       subst hsub
       simp only [beq_iff_eq, Bool.and_eq_true, decide_eq_true_eq] at h1 h2
       obtain ⟨h2, hlim⟩ := h2
       subst h2
       have hv0 := hv
       simp only [RV] at hv0
       obtain ⟨vs, rfl, hvs⟩ := hv0
       obtain ⟨hl, hvs⟩ := RLs_iff.1 hvs
       obtain ⟨l', rfl⟩ : ∃ l' : List Value, vs = l'.toArray := ⟨vs.toList, by simp⟩
       simp only at hl hvs
       match l', hl.symm.trans h1 with
       | [v0, v1, v2, v3, v4, v5, v6], _ =>
       have hk5 : cs[6]? = some (.list 7 kds) := by
        have : 6 < cs.length := by omega
        rw [List.getD_eq_getElem?_getD, List.getElem?_eq_getElem this] at hk
        rw [List.getElem?_eq_getElem this]
        exact congrArg some hk
       have hkc := (hvs 6 _ v6 hk5 rfl).2
       simp only [RC] at hkc
       obtain ⟨ka, len, cap, h4, h5, h6, h7, h8, h9⟩ := hkc
       simp only [List.cons.injEq, and_true] at h4
       subst h4 h5
       have hdd : ∀ k : Nat, (Fence.wide.depth.isSome = true → 1 ≤ k) := fun k h => by cases h
       have ho : ∀ o, E.O W.heap.size o = .other := fun o => hf k E W hJ _ o (Nat.le_refl _)
       have key : ∀ T, ∃ fy ty ay by_, (Instr.yield l #[.agg #[v0, v1, v2, v3, v4, v5, .slice ka kds.length cap]]).run Tryz.prog (W.alloc (.cells #[v0, v1, v2, v3, v4, v5, .slice ka kds.length cap] T)) = .ok (.round l fy ty ay by_) (W.alloc (.cells #[v0, v1, v2, v3, v4, v5, .slice ka kds.length cap] T)) ∧
        RoundIn Fence.wide (n - 1) Tryz.prog l fy ty ay by_ (W.alloc (.cells #[v0, v1, v2, v3, v4, v5, .slice ka kds.length cap] T)) fun e W2 =>
         (e = .returned (.bool true) ∧ ∃ E2, J (k + 1) E2 W2 ∧ Kpt E W E2 W2 ∧ (W2.heap[W.heap.size]? = some (.cells #[v0, v1, v2, v3, v4, v5, .slice ka kds.length cap] T (0, 0)) ∧ (∀ o, E2.O W.heap.size o = .other)) ∧ W2.cell? ⟨W.heap.size, 6, none⟩ = some (.slice ka kds.length cap)) ∨ (e = .returned (.bool false) ∧ Jx W2) := by
        intro T
        have hJ1 : J k E (W.alloc (.cells #[v0, v1, v2, v3, v4, v5, .slice ka kds.length cap] T)) := hI _ _ _ _ hJ (ItLe.alloc _)
        have K1 := Kpt.alloc (E := E) (W := W) (.cells #[v0, v1, v2, v3, v4, v5, .slice ka kds.length cap] T) (hf k E W hJ)
        obtain ⟨fy, ty, ay, by_, hy, hR⟩ := hY k E _ (.agg cs) _ hJ1 (hin 0 _ rfl) (RV.mono K1.sh _ hv)
        refine ⟨fy, ty, ay, by_, hy, RoundIn.anyD rfl (RoundIn.mono hR ?_)⟩
        rintro e W2 (⟨rfl, E2, hJ2, hP2⟩ | ⟨rfl, hx⟩)
        ·have K2 := Kpt.of_pr hP2 (hf _ _ _ hJ1)
         have hb := K2.blk W.heap.size (by simp) ho
         rw [World.alloc_heap_new] at hb
         refine .inl ⟨rfl, E2, hJ2, K1.trans K2, hb, ?_⟩
         simp [World.cell?, hb.1]
        ·exact .inr ⟨rfl, hx⟩
       obtain ⟨fy, ty, ay, by_, hy, hR⟩ := key 85
       refine callsIn_of_wp Tryz.func160 rfl trivial ?_
       simp only [Tryz.ntmps160, List.size_toArray, List.length_cons, List.length_nil, Nat.reduceAdd, Nat.reduceSub, Array.replicate_succ, Array.replicate_zero, List.push_toArray, List.append_toArray, List.nil_append, List.cons_append]
       gi_wp2_with ((try refine ⟨hdd _, ?_⟩); refine hR.mono ?_; clear hR; rintro e W2 (⟨rfl, E2, hJ2, hK2, hb2, hc2⟩ | ⟨rfl, hx2⟩))
       ·-- the kids, one by one
        refine wpIn_loop_rounds (kds.length + 1) ?_
        refine (?loop : ∀ (r i : Nat) (pre rs : List DV) (E3 : Env) (w : World) (x6 x15 x16 x17 x18 x19 x20 x21 x22 : Value), i + r = kds.length → flatL (flatN 7 6 m) (kds.drop i) = some rs → ks = pre ++ rs → J (k + 1 + pre.length) E3 w → Kpt E W E3 w →
         Code.roundsIn Fence.wide n Tryz.prog _ _ (r + 1) { tmps := #[.agg #[v0, v1, v2, v3, v4, v5, .slice ka kds.length cap], .func (.yield l) #[] #[], .pointer (some { block := W.heap.size, off := 0 }), undef, .bool false, undef, x6,
          .func (.yield l) #[] #[], .agg #[v0, v1, v2, v3, v4, v5, .slice ka kds.length cap], .bool true, .bool false, .pointer (some { block := W.heap.size, off := 6 }), .slice ka kds.length cap, .int .i64 (kds.length : Int), .int .i64 (i : Int), x15, x16, x17, x18, x19, x20, x21, x22], defers := [] } w)
         kds.length 0 [] ks E2 W2 undef undef undef undef undef undef undef undef undef (by simp) h3 rfl hJ2 hK2
        clear hJ2 hK2 hb2 hc2 hy key hJ
        intro r
        induction r with
        | zero =>
          intro i pre rs E3 w x6 x15 x16 x17 x18 x19 x20 x21 x22 hi hrs hks hJ3 hK3
          have hi' : i = kds.length := by omega
          have hi'' : (i : Int) = (kds.length : Int) := by omega
          rw [roundsIn_succ]
          rw [hi'']
          have hlt : ¬ ((kds.length : Int) < (kds.length : Int)) := by omega
          gi_wp2
          go_ret
          rw [hi', List.drop_length, flatL] at hrs
          simp only [Option.some.injEq] at hrs
          subst hrs
          refine .inl ⟨rfl, E3, ?_, hK3⟩
          rw [show k + (pre.length + ([] : List DV).length + 1) = k + 1 + pre.length by simp; omega]
          exact hJ3
        | succ r ihr =>
          intro i pre rs E3 w x6 x15 x16 x17 x18 x19 x20 x21 x22 hi hrs hks hJ3 hK3
          rw [roundsIn_succ]
          have hlt : ((i : Int) < (kds.length : Int)) := by omega
          have hil : i < kds.length := by omega
          obtain ⟨xa, rfl⟩ : ∃ xa, ka = some xa := by
           cases ka with
           | none => have := h7 rfl; omega
           | some xa => exact ⟨xa, rfl⟩
          obtain ⟨h10, h11⟩ := h9 xa rfl
          obtain ⟨xb, xo, xs⟩ := xa
          have h10 := h10 (by omega)
          simp only at h10 h11
          subst h10
          obtain ⟨us, hu1, hu2, hu3⟩ := RElems_iff.1 h11 i _ (List.getElem?_eq_getElem hil)
          have hu4 := hu2.mono hK3.sh
          match us, hu1 with
          | [u0, u1, u2, u3, u4, u5, u6], _ =>
          have cc : ∀ (j : Nat) (u : Value), [u0, u1, u2, u3, u4, u5, u6][j]? = some u → w.cell? ⟨xb, xo + i * 7 + j, none⟩ = some u := fun j u hj => by rw [cell_hc]; exact (hu4 j u hj).1
          have c0 : w.cell? ⟨xb, xo + i * 7, none⟩ = some u0 := cc 0 u0 rfl
          have c1 := cc 1 u1 rfl
          have c2 := cc 2 u2 rfl
          have c3 := cc 3 u3 rfl
          have c4 := cc 4 u4 rfl
          have c5 := cc 5 u5 rfl
          have c6 := cc 6 u6 rfl
          have ou : ∀ (j : Nat) (u : Value), [u0, u1, u2, u3, u4, u5, u6][j]? = some u → u.oneCell' = true := fun j u hj => (RC_proj hu3 hj).elim fun h1 h2 => RC_one h1 h2
          have e0 : u0.oneCell' = true := ou 0 u0 rfl
          have e1 : u1.oneCell' = true := ou 1 u1 rfl
          have e2 : u2.oneCell' = true := ou 2 u2 rfl
          have e3 : u3.oneCell' = true := ou 3 u3 rfl
          have e4 : u4.oneCell' = true := ou 4 u4 rfl
          have e5 : u5.oneCell' = true := ou 5 u5 rfl
          have e6 : u6.oneCell' = true := ou 6 u6 rfl
          obtain ⟨w1, s0, b0, r0, z0, o0⟩ := store_one (P := Tryz.prog) (j := 0) (World.alloc_heap_new w (.cells #[.int .i64 0, .int .i64 0, .int .i64 0, .string ⟨#[]⟩, .int .i64 0, .string ⟨#[]⟩, .slice none 0 0] 85)) (by simp) e0
          obtain ⟨w2, s1, b1, r1, z1, o1⟩ := store_one (P := Tryz.prog) (j := 1) b0 (by simp) e1
          obtain ⟨w3, s2, b2, r2, z2, o2⟩ := store_one (P := Tryz.prog) (j := 2) b1 (by simp) e2
          obtain ⟨w4, s3, b3, r3, z3, o3⟩ := store_one (P := Tryz.prog) (j := 3) b2 (by simp) e3
          obtain ⟨w5, s4, b4, r4, z4, o4⟩ := store_one (P := Tryz.prog) (j := 4) b3 (by simp) e4
          obtain ⟨w6, s5, b5, r5, z5, o5⟩ := store_one (P := Tryz.prog) (j := 5) b4 (by simp) e5
          obtain ⟨w7, s6, b6, r6, z6, o6⟩ := store_one (P := Tryz.prog) (j := 6) b5 (by simp) e6
          simp only [List.setIfInBounds_toArray, List.set_cons_zero, List.set_cons_succ] at b0 b1 b2 b3 b4 b5 b6
          have dd : ∀ (j : Nat) (u : Value), [u0, u1, u2, u3, u4, u5, u6][j]? = some u → w7.cell? ⟨w.heap.size, j, none⟩ = some u := fun j u hj => by rw [cell_hc]; simp only [hc, b6]; simpa using hj
          have d0 := dd 0 u0 rfl
          have d1 := dd 1 u1 rfl
          have d2 := dd 2 u2 rfl
          have d3 := dd 3 u3 rfl
          have d4 := dd 4 u4 rfl
          have d5 := dd 5 u5 rfl
          have d6 := dd 6 u6 rfl
          have low : ∀ b, b < w.heap.size → w7.heap[b]? = w.heap[b]? := fun b hb => by
           rw [r6 b (by omega), r5 b (by omega), r4 b (by omega), r3 b (by omega), r2 b (by omega), r1 b (by omega), r0 b (by omega)]
           exact Below.heap_alloc _ _ _ hb
          have hz : w.heap.size ≤ w7.heap.size := by rw [z6, z5, z4, z3, z2, z1, z0]; simp
          have hout : Outer w w7 := Outer.trans (b := w1) (Outer.trans (b := w.alloc (.cells #[.int .i64 0, .int .i64 0, .int .i64 0, .string ⟨#[]⟩, .int .i64 0, .string ⟨#[]⟩, .slice none 0 0] 85)) ⟨rfl, rfl, rfl⟩ o0) ((((((o1).trans o2).trans o3).trans o4).trans o5).trans o6)
          have hfr := hf _ _ _ hJ3
          have K7 : Kpt E3 w E3 w7 := Kpt.same hz low hfr
          have hJ7 := hI _ _ _ _ hJ3 (ItLe.same hz low hout)
          rw [List.drop_eq_getElem_cons hil, flatL] at hrs
          obtain ⟨sa, hsa, hrs⟩ := ob_some hrs
          obtain ⟨sb, hsb, hrs⟩ := ob_some hrs
          simp only [Option.some.injEq] at hrs
          subst hrs
          have h120 : Fence.wide.fn 160 := trivial
          have hcall : CallsIn Fence.wide (n - 1) Tryz.prog 160 _ w7 _ := callsIn_wide.2 (callsIn_wide.1 (ih _ sa hsa (k + 1 + pre.length) E3 w7 (.agg #[u0, u1, u2, u3, u4, u5, u6]) hJ7 (RV.mono (hK3.trans K7).sh _ (flat_agg hsa hu3)) (flat_at hin hks) (by have := hK3.size; omega)))
          clear ih
          gi_wp2_with ((try refine ⟨hdd _, ?_⟩); gi_at_call 160; refine hcall.mono ?_; clear hcall; rintro e wz (⟨rfl, E4, hJ4, hK4⟩ | ⟨rfl, hx⟩))
          ·rw [show wrap64 ((i : Int) + 1) = ((i + 1 : Nat) : Int) by unfold lim at hlim; rw [wrap64]; omega]
           exact ihr (i + 1) (pre ++ sa) sb E4 wz _ _ _ _ _ _ _ _ _ (by omega) hsb (by rw [hks, List.append_assoc]) (by rw [List.length_append, ← Nat.add_assoc]; exact hJ4) ((hK3.trans K7).trans hK4)
          ·go_ret
           exact .inr ⟨rfl, hx⟩
       ·go_ret
        exact .inr ⟨rfl, hx2⟩
     | _ => rw [hk] at hsub; simp at hsub
   | _ => simp [flatN] at hsub
set_option maxHeartbeats 1000000 in
theorem it_pats : IterOk Tryz.prog 159 (flatD 7 6) := by
 intro cs ds hds n l b c T0 J Jx E W hb ho hR hf hI hY h0
 obtain ⟨m, hm⟩ := flatD_some hds
 have hlen : cs.length = 7 := by
  cases m with
  | zero => simp [flatN] at hm
  | succ m =>
    rw [flatN] at hm
    obtain ⟨h1, -⟩ := og_some hm
    simpa using h1
 have hlc := (RLs_iff.1 hR).1
 obtain ⟨l', rfl⟩ : ∃ l' : List Value, c = l'.toArray := ⟨c.toList, by simp⟩
 simp only at hR hlc
 match l', hlc.symm.trans hlen with
 | [v0, v1, v2, v3, v4, v5, v6], _ =>
 have cc : ∀ (j : Nat) (u : Value), [v0, v1, v2, v3, v4, v5, v6][j]? = some u → W.cell? ⟨b, j, none⟩ = some u := fun j u hj => by rw [cell_hc]; simp only [hc, hb]; simpa using hj
 have c0 := cc 0 v0 rfl
 have c1 := cc 1 v1 rfl
 have c2 := cc 2 v2 rfl
 have c3 := cc 3 v3 rfl
 have c4 := cc 4 v4 rfl
 have c5 := cc 5 v5 rfl
 have c6 := cc 6 v6 rfl
 have hgo : CallsIn Fence.wide (n - 1) Tryz.prog 160 _ W _ := callsIn_wide.2 (callsIn_wide.1 (go_pats l W.heap.size ds J Jx n hf hI hY m (.agg cs) ds hm 0 E W (.agg #[v0, v1, v2, v3, v4, v5, v6]) h0 (by simp only [RV]; exact ⟨_, rfl, hR⟩) (fun j x h => by rw [Nat.zero_add]; exact h) (Nat.le_refl _)))
 have h120 : Fence.wide.fn 160 := trivial
 have hdd : ∀ k : Nat, (Fence.wide.depth.isSome = true → 1 ≤ k) := fun k h => by cases h
 refine callsIn_of_wp Tryz.func159 rfl trivial ?_
 simp only [Tryz.ntmps159, List.size_toArray, List.length_cons, List.length_nil, Nat.reduceAdd, Nat.reduceSub, Array.replicate_succ, Array.replicate_zero, List.push_toArray, List.append_toArray, List.nil_append, List.cons_append]
 gi_wp2_with ((try refine ⟨hdd _, ?_⟩); gi_at_call 160; refine hgo.mono ?_; clear hgo; rintro e w2 (⟨rfl, E4, hJ4, -⟩ | ⟨rfl, hx⟩))
 ·go_end0
  exact ⟨⟨_, rfl⟩, .inl ⟨E4, by simpa using hJ4⟩⟩
 ·go_end0
  exact ⟨⟨_, rfl⟩, .inr hx⟩
noncomputable def cl_76 : ClP where
 i0 := 0
 i1 := 1
 i2 := 2
 i3 := 3
 r0 := (opR (Tryz.f76.body.getD .skip) [false] 0)
 r1 := (opR (Tryz.f76.body.getD .skip) [true, false, false] 0)
 r2 := (opR (Tryz.f76.body.getD .skip) [true, false, false] 1)
 r3 := (opR (Tryz.f76.body.getD .skip) [true, false, true, false, false] 0)
 r4 := (opR (Tryz.f76.body.getD .skip) [true, true, false] 0)
 r5 := (opR (Tryz.f76.body.getD .skip) [true, true, false] 1)
 r6 := (opR (Tryz.f76.body.getD .skip) [true, true, false] 2)
 r7 := (opR (Tryz.f76.body.getD .skip) [true, true, false] 3)
 ts := 25
 ty := ytOf (Tryz.f76.body.getD .skip) [true, false, false] 1
theorem clone_76 : CloneOk Tryz.prog 76 3 := clone_ok (q := cl_76) (by kernel_rfl) Tryz.func76 (by kernel_rfl) (by kernel_rfl) (by kernel_rfl)
noncomputable def cl_77 : ClP where
 i0 := 0
 i1 := 1
 i2 := 2
 i3 := 3
 r0 := (opR (Tryz.f77.body.getD .skip) [false] 0)
 r1 := (opR (Tryz.f77.body.getD .skip) [true, false, false] 0)
 r2 := (opR (Tryz.f77.body.getD .skip) [true, false, false] 1)
 r3 := (opR (Tryz.f77.body.getD .skip) [true, false, true, false, false] 0)
 r4 := (opR (Tryz.f77.body.getD .skip) [true, true, false] 0)
 r5 := (opR (Tryz.f77.body.getD .skip) [true, true, false] 1)
 r6 := (opR (Tryz.f77.body.getD .skip) [true, true, false] 2)
 r7 := (opR (Tryz.f77.body.getD .skip) [true, true, false] 3)
 ts := 29
 ty := ytOf (Tryz.f77.body.getD .skip) [true, false, false] 1
theorem clone_77 : CloneOk Tryz.prog 77 20 := clone_ok (q := cl_77) (by kernel_rfl) Tryz.func77 (by kernel_rfl) (by kernel_rfl) (by kernel_rfl)
noncomputable def cl_116 : ClP where
 i0 := 0
 i1 := 1
 i2 := 2
 i3 := 3
 r0 := (opR (Tryz.f116.body.getD .skip) [false] 0)
 r1 := (opR (Tryz.f116.body.getD .skip) [true, false, false] 0)
 r2 := (opR (Tryz.f116.body.getD .skip) [true, false, false] 1)
 r3 := (opR (Tryz.f116.body.getD .skip) [true, false, true, false, false] 0)
 r4 := (opR (Tryz.f116.body.getD .skip) [true, true, false] 0)
 r5 := (opR (Tryz.f116.body.getD .skip) [true, true, false] 1)
 r6 := (opR (Tryz.f116.body.getD .skip) [true, true, false] 2)
 r7 := (opR (Tryz.f116.body.getD .skip) [true, true, false] 3)
 ts := 32
 ty := ytOf (Tryz.f116.body.getD .skip) [true, false, false] 1
theorem clone_116 : CloneOk Tryz.prog 116 4 := clone_ok (q := cl_116) (by kernel_rfl) Tryz.func116 (by kernel_rfl) (by kernel_rfl) (by kernel_rfl)
end Go.Su

/-
 A map's keys, collected and sorted: the program's code and the library's sort keep their word.
-/
namespace Go.Su
open Go.Proofs Go.RowKit Go.Shelf
set_option linter.unusedSimpArgs false
set_option linter.unusedVariables false
def sortRen : Ren where
 f x := match x with
   | 190 => 84
   | 125 => 122
   | 258 => 121
   | 128 => 145
   | 129 => 146
   | 302 => 136
   | 303 => 137
   | 304 => 138
   | 305 => 139
   | 306 => 140
   | 307 => 141
   | 308 => 142
   | 309 => 143
   | 310 => 144
   | 333 => 153
   | 329 => 154
   | 330 => 155
   | 334 => 156
   | 335 => 157
   | 336 => 158
   | 344 => 162
   | n => n
 t x := match x with
   | 31 => 73
   | 9 => 9
   | 3 => 3
   | 46 => 150
   | 0 => 0
   | 51 => 167
   | 53 => 169
   | 4 => 4
   | 183 => 160
   | 182 => 159
   | 131 => 70
   | 5 => 5
   | 218 => 174
   | 222 => 178
   | 228 => 181
   | 229 => 182
   | n => n
 g x := x
theorem sortLays : Lays.n190 Tryz.prog sortRen where
 mixed := by kernel_rfl
 f125 := Tryz.func122.trans (by kernel_rfl)
 f128 := Tryz.func145.trans (by kernel_rfl)
 f129 := Tryz.func146.trans (by kernel_rfl)
 f190 := Tryz.func84.trans (by kernel_rfl)
 f258 := Tryz.func121.trans (by kernel_rfl)
 f302 := Tryz.func136.trans (by kernel_rfl)
 f303 := Tryz.func137.trans (by kernel_rfl)
 f304 := Tryz.func138.trans (by kernel_rfl)
 f305 := Tryz.func139.trans (by kernel_rfl)
 f306 := Tryz.func140.trans (by kernel_rfl)
 f307 := Tryz.func141.trans (by kernel_rfl)
 f308 := Tryz.func142.trans (by kernel_rfl)
 f309 := Tryz.func143.trans (by kernel_rfl)
 f310 := Tryz.func144.trans (by kernel_rfl)
 f329 := Tryz.func154.trans (by kernel_rfl)
 f330 := Tryz.func155.trans (by kernel_rfl)
 f333 := Tryz.func153.trans (by kernel_rfl)
 f334 := Tryz.func156.trans (by kernel_rfl)
 f335 := Tryz.func157.trans (by kernel_rfl)
 f336 := Tryz.func158.trans (by kernel_rfl)
 f344 := Tryz.func162.trans (by kernel_rfl)
 t0 := Tryz.underlying0
 a0 := Tryz.isAgg0
 z0 := Tryz.sizeOf0
 v0 := Tryz.zeroValue0
 t3 := Tryz.underlying3
 a3 := Tryz.isAgg3
 z3 := Tryz.sizeOf3
 v3 := Tryz.zeroValue3
 t4 := Tryz.underlying4
 a4 := Tryz.isAgg4
 z4 := Tryz.sizeOf4
 v4 := Tryz.zeroValue4
 t5 := Tryz.underlying5
 a5 := Tryz.isAgg5
 z5 := Tryz.sizeOf5
 v5 := Tryz.zeroValue5
 t9 := Tryz.underlying9
 a9 := Tryz.isAgg9
 z9 := Tryz.sizeOf9
 v9 := Tryz.zeroValue9
 t31 := Tryz.underlying73
 a31 := Tryz.isAgg73
 z31 := Tryz.sizeOf73
 v31 := Tryz.zeroValue73
 t46 := Tryz.underlying150
 a46 := Tryz.isAgg150
 z46 := Tryz.sizeOf150
 v46 := Tryz.zeroValue150
 t51 := Tryz.underlying167
 a51 := Tryz.isAgg167
 z51 := Tryz.sizeOf167
 v51 := Tryz.zeroValue167
 t53 := Tryz.underlying169
 a53 := Tryz.isAgg169
 z53 := Tryz.sizeOf169
 v53 := Tryz.zeroValue169
 t131 := Tryz.underlying70
 a131 := Tryz.isAgg70
 z131 := Tryz.sizeOf70
 v131 := Tryz.zeroValue70
 t182 := Tryz.underlying159
 a182 := Tryz.isAgg159
 z182 := Tryz.sizeOf159
 v182 := Tryz.zeroValue159
 t183 := Tryz.underlying160
 a183 := Tryz.isAgg160
 z183 := Tryz.sizeOf160
 v183 := Tryz.zeroValue160
 t218 := Tryz.underlying174
 a218 := Tryz.isAgg174
 z218 := Tryz.sizeOf174
 v218 := Tryz.zeroValue174
 t222 := Tryz.underlying178
 a222 := Tryz.isAgg178
 z222 := Tryz.sizeOf178
 v222 := Tryz.zeroValue178
 t228 := Tryz.underlying181
 a228 := Tryz.isAgg181
 z228 := Tryz.sizeOf181
 v228 := Tryz.zeroValue181
 t229 := Tryz.underlying182
 a229 := Tryz.isAgg182
 z229 := Tryz.sizeOf182
 v229 := Tryz.zeroValue182
theorem len8_0 : Lib.len8 0 = 0 := by kernel_rfl
theorem len64_0 (w : World) : Calls Tryz.prog 146 #[.int .u64 0] w fun e w' => e = .returned (.int .i64 0) ∧ w' = w := by
 go_enter Tryz.func146, Tryz.ntmps146
 go_wp2
 go_ret
 exact ⟨congrArg Ending.returned (show Value.int .i64 (wrap64 (wrap64 (Lib.len8 0))) = .int .i64 0 by rw [len8_0]; simp [wrap64]), rfl⟩
theorem len_0 (w : World) : Calls Tryz.prog 122 #[.int .u64 0] w fun e w' => e = .returned (.int .i64 0) ∧ w' = w := by
 go_enter Tryz.func122, Tryz.ntmps122
 go_wp2_with (go_at_call 146; refine (len64_0 _).mono ?_; rintro e w1 ⟨rfl, rfl⟩)
 go_ret
 exact ⟨rfl, rfl⟩
theorem ins_0 (p : Option Addr) (cap : Nat) (w : World) : Calls Tryz.prog 136 #[.slice p 0 cap, .int .i64 0, .int .i64 0] w fun e w' => e = .returned (.tuple #[]) ∧ w' = w := by
 go_enter Tryz.func136, Tryz.ntmps136
 go_wp2
 refine wp_loop (fun a' w' => a' = _ ∧ w' = _) (fun _ _ => 0) ⟨rfl, rfl⟩ ?_
 rintro _ _ ⟨rfl, rfl⟩
 go_wp2
 go_returns
 exact ⟨rfl, rfl⟩
theorem pdq_0 (p : Option Addr) (cap : Nat) (w : World) : Calls Tryz.prog 121 #[.slice p 0 cap, .int .i64 0, .int .i64 0, .int .i64 0] w fun e w' => e = .returned (.tuple #[]) ∧ w' = w := by
 go_enter Tryz.func121, Tryz.ntmps121
 go_wp2
 refine wp_loop (fun a' w' => a' = _ ∧ w' = _) (fun _ _ => 0) ⟨rfl, rfl⟩ ?_
 rintro _ _ ⟨rfl, rfl⟩
 go_wp2_with (go_at_call 136; refine (ins_0 _ _ _).mono ?_; rintro e w1 ⟨rfl, rfl⟩)
 go_returns
 exact ⟨rfl, rfl⟩
theorem sort_0 (p : Option Addr) (cap : Nat) (w : World) : Calls Tryz.prog 84 #[.slice p 0 cap] w fun e w' => e = .returned (.tuple #[]) ∧ w' = w := by
 go_enter Tryz.func84, Tryz.ntmps84
 go_wp2_with (first | (go_at_call 122; refine (len_0 _).mono ?_; rintro e w1 ⟨rfl, rfl⟩) | (go_at_call 121; refine (pdq_0 _ _ _).mono ?_; rintro e w1 ⟨rfl, rfl⟩))
 go_returns
 exact ⟨rfl, rfl⟩
theorem kp_ok_term_Free : KP.Ok Tryz.prog kp_term_Free where
 nodup := by decide
 hm := by kernel_rfl
 hs := by kernel_rfl
 info := ⟨Tryz.t9, .string ⟨#[]⟩, by kernel_rfl, by kernel_rfl, by kernel_rfl, by kernel_rfl, by kernel_rfl⟩
 go := by kernel_rfl
 sort blk off cap ss w h1 h2 h3 := Any.slices_Sort_string sortLays blk off cap ss w h1 h2 h3
 sort0 p cap w := sort_0 p cap w
theorem cut_ok_term_Free : CutOk Tryz.prog kc_term_Free cut_term_Free :=
 ⟨kp_term_Free.code cut_term_Free.post, by kernel_rfl, fun _ => by kernel_rfl, fun R H K => keys_ok kp_ok_term_Free R H K⟩
end Go.Su

/-
 The settings are right.
-/
namespace Go.Su
open Go.Proofs
theorem names_ok : Tryz.prog.funcs.toList.all (fun fn => fn.name != "runtime.NumGoroutine") = true := by kernel_rfl
theorem lookup_mem {β : Type} {l : List (FuncId × β)} {f : FuncId} {g : β} (h : l.lookup f = some g) : (f, g) ∈ l := by
 induction l with
 | nil => cases h
 | cons x l ih =>
   obtain ⟨a, b⟩ := x
   simp only [List.lookup_cons] at h
   by_cases e : f == a
   ·rw [e] at h; simp only [Option.some.injEq] at h; rw [h]; rw [eq_of_beq e]; exact List.mem_cons_self ..
   ·simp only [e] at h; exact List.mem_cons_of_mem _ (ih h)
theorem cfg_ok : CfgOk cfg where
 mixed := by kernel_rfl
 go f fn h := by
  have h1 : fn ∈ Tryz.prog.funcs.toList := by
   have : Tryz.prog.funcs[f]? = some fn := h
   rw [← Array.getElem?_toList] at this
   exact List.mem_of_getElem? this
  have := List.all_eq_true.1 names_ok fn h1
  simpa using this
 prim f g h fn c hf hb := by
  have h1 : (f, g) ∈ primL := lookup_mem h
  simp only [primL, List.mem_cons, List.not_mem_nil, or_false, Prod.mk.injEq] at h1
  obtain ⟨rfl, rfl⟩ := h1
  ·have e1 : Tryz.prog.funcs[(43 : Nat)]? = some fn := hf
   rw [Tryz.func43] at e1
   simp only [Option.some.injEq] at e1
   subst e1
   have e2 : Tryz.f43.body = some kc_term_Free := by kernel_rfl
   rw [e2] at hb
   simp only [Option.some.injEq] at hb
   subst hb
   exact cut_ok_term_Free
 clone f h := by
  have h0 : clL.contains f = true := h
  have h1 : f ∈ clL := by simpa using h0
  simp only [clL, List.mem_cons, List.not_mem_nil, or_false] at h1
  rcases h1 with rfl | rfl | rfl
  ·exact ⟨by kernel_rfl, clone_76⟩
  ·exact ⟨by kernel_rfl, clone_77⟩
  ·exact ⟨by kernel_rfl, clone_116⟩
 mki f g h := by
  have h1 : (f, g) ∈ mkL := lookup_mem h
  simp only [mkL, List.mem_cons, List.not_mem_nil, or_false, Prod.mk.injEq] at h1
  rcases h1 with ⟨rfl, rfl⟩
  ·exact ⟨by kernel_rfl, mk_pats⟩
 iter g it h := by
  have h1 : itF g = some it := h
  unfold itF at h1
  split at h1
  ·rename_i e
   subst e
   cases h1
   exact ⟨by kernel_rfl, it_pats⟩
  ·cases h1
end Go.Su
