import PyProof.Rows.All
import Wide.All
import OpenK.AllK
import Wide.FinOn
import PyProof.EqAt
import PyProof.EqKinds
import PyProof.TupleCall
import Open.SpecLaws
import KE.OsGo
import KE.KAssignIn
import HandS.ForSpec
import HandS.Comp
import HandS.Iter
import HandS.Deep
import HandS.ExcInit
import HandS.ExcField
import HandS.Evl
import PySem.Challenge.RW_foldview_s01_answers
set_option Elab.async false
set_option linter.all false
set_option maxRecDepth 100000
set_option maxHeartbeats 4000000
/-! Plain Lean: columns, blanks, fits, rows of one line, places. -/
namespace Fv
open Ue07

theorem drop_cons {w : List Nat} {i : Nat} {b : Nat} (h : w[i]? = some b) : w.drop i = b :: w.drop (i + 1) := by
  obtain ⟨hi, e⟩ := List.getElem?_eq_some_iff.mp h
  rw [← e]
  exact List.drop_eq_getElem_cons hi
theorem take_snoc {α : Type} {w : List α} {i : Nat} {b : α} (h : w[i]? = some b) : w.take (i + 1) = w.take i ++ [b] := by
  rw [List.take_add_one, h]
  rfl
theorem getD_of {w : List Nat} {i : Nat} {b d : Nat} (h : w[i]? = some b) : w.getD i d = b := by
  rw [List.getD_eq_getElem?_getD, h]
  rfl

/-! ### columns -/
theorem cost_pos {k : Look} (ht : 1 ≤ k.tab) (c b : Nat) : 1 ≤ cost k c b := by
  unfold cost
  have h := Nat.mod_lt c (show 0 < k.tab by omega)
  split
  · omega
  · split <;> omega
theorem behind_cons {k : Look} {c b : Nat} {w : List Nat} : behind k c (b :: w) = behind k (c + cost k c b) w := rfl
theorem behind_append {k : Look} {c : Nat} {u v : List Nat} : behind k c (u ++ v) = behind k (behind k c u) v := List.foldl_append
theorem behind_more {k : Look} {c i b : Nat} {w : List Nat} (h : w[i]? = some b) : behind k c (w.take (i + 1)) = behind k c (w.take i) + cost k (behind k c (w.take i)) b := by
  rw [take_snoc h, behind_append]
  rfl
theorem behind_mono {k : Look} (ht : 1 ≤ k.tab) : ∀ (w : List Nat) (c : Nat), c + w.length ≤ behind k c w
  | [], c => Nat.le_refl _
  | b :: w, c => by
    have h := behind_mono ht w (c + cost k c b)
    have h2 := cost_pos ht c b
    rw [behind_cons, List.length_cons]
    omega

/-! ### blanks -/
theorem blanks_go {p : Nat → Bool} {w : List Nat} {i b m : Nat} (h : w[i]? = some b) (hp : p b = true) (e : m = i + ((w.drop i).takeWhile p).length) : m = (i + 1) + ((w.drop (i + 1)).takeWhile p).length := by
  rw [drop_cons h, List.takeWhile_cons, if_pos hp, List.length_cons] at e
  omega
theorem blanks_stop {p : Nat → Bool} {w : List Nat} {i b m : Nat} (h : w[i]? = some b) (hp : p b = false) (e : m = i + ((w.drop i).takeWhile p).length) : m = i := by
  rw [drop_cons h, List.takeWhile_cons, if_neg (by rw [hp]; decide)] at e
  exact e
theorem blanks_end {p : Nat → Bool} {w : List Nat} {i m : Nat} (h : w.length ≤ i) (e : m = i + ((w.drop i).takeWhile p).length) : m = i := by
  rw [List.drop_eq_nil_of_le h] at e
  exact e
theorem takeWhile_le {p : Nat → Bool} (w : List Nat) : (w.takeWhile p).length ≤ w.length := (List.takeWhile_sublist p).length_le
theorem takeWhile_take {p : Nat → Bool} (w : List Nat) : w.take (w.takeWhile p).length = w.takeWhile p := by
  induction w with
  | nil => rfl
  | cons b w ih =>
    rw [List.takeWhile_cons]
    split
    · rw [List.length_cons, List.take_succ_cons, ih]
    · rfl

/-! ### what fits -/
theorem fits_go {k : Look} {c i b : Nat} {w : List Nat} {m : Nat} (h : w[i]? = some b) (hf : ¬ k.wide < c + cost k c b) (e : m = i + fits k c (w.drop i)) : m = (i + 1) + fits k (c + cost k c b) (w.drop (i + 1)) := by
  rw [drop_cons h] at e
  unfold fits at e
  rw [if_neg hf] at e
  omega
theorem fits_stop {k : Look} {c i b : Nat} {w : List Nat} {m : Nat} (h : w[i]? = some b) (hf : k.wide < c + cost k c b) (e : m = i + fits k c (w.drop i)) : m = i := by
  rw [drop_cons h] at e
  unfold fits at e
  rw [if_pos hf] at e
  exact e
theorem fits_end {k : Look} {c i : Nat} {w : List Nat} {m : Nat} (h : w.length ≤ i) (e : m = i + fits k c (w.drop i)) : m = i := by
  rw [List.drop_eq_nil_of_le h] at e
  exact e
theorem fits_le {k : Look} : ∀ (w : List Nat) (c : Nat), fits k c w ≤ w.length
  | [], c => Nat.le_refl _
  | b :: w, c => by
    unfold fits
    split
    · omega
    · have h := fits_le (k := k) w (c + cost k c b)
      rw [List.length_cons]
      omega

/-! ### where a row is cut -/
def blanksAhead (w : List Nat) (n : Nat) : List Nat := (List.range n).filter fun j => isBlank (w.getD j 0)
theorem cut_last (w : List Nat) : ∀ n, n ≤ w.length → ((w.take n).reverse.dropWhile fun b => !isBlank b).length = match (blanksAhead w n).getLast? with
    | none => 0
    | some j => j + 1
  | 0, _ => rfl
  | n + 1, h => by
    have hn : w[n]? = some (w[n]'h) := List.getElem?_eq_getElem h
    have ih := cut_last w n (by omega)
    rw [take_snoc hn, List.reverse_append]
    show (List.dropWhile (fun b => !isBlank b) (w[n] :: (w.take n).reverse)).length = _
    rw [List.dropWhile_cons]
    have eD : w.getD n 0 = w[n] := getD_of hn
    have eF : blanksAhead w (n + 1) = blanksAhead w n ++ (if isBlank w[n] = true then [n] else []) := by
      unfold blanksAhead
      rw [List.range_succ, List.filter_append, List.filter_cons, eD]
      rfl
    rw [eF]
    cases hb : isBlank w[n] with
    | true =>
      rw [if_neg (by decide), if_pos rfl, List.getLast?_append]
      show (w[n] :: (w.take n).reverse).length = n + 1
      rw [List.length_cons, List.length_reverse, List.length_take]
      omega
    | false =>
      rw [if_pos (by decide), if_neg (by decide), List.append_nil]
      exact ih
theorem cutAt_none {w : List Nat} {n : Nat} (h : n ≤ w.length) (e : blanksAhead w n = []) : cutAt w n = n := by
  have q := cut_last w n h
  rw [e] at q
  unfold cutAt
  simp only [q]
  rfl
theorem cutAt_some {w : List Nat} {n : Nat} (h : n ≤ w.length) {l : List Nat} {j : Nat} (e : blanksAhead w n = l ++ [j]) : cutAt w n = j + 1 := by
  have q := cut_last w n h
  rw [e, List.getLast?_append] at q
  unfold cutAt
  simp only [q]
  show (if j + 1 = 0 then n else j + 1) = j + 1
  rw [if_neg (by omega)]
theorem cutAt_le {w : List Nat} {n : Nat} (h : n ≤ w.length) : cutAt w n ≤ n := by
  unfold cutAt
  have q : ((w.take n).reverse.dropWhile fun b => !isBlank b).length ≤ (w.take n).reverse.length := (List.dropWhile_sublist _).length_le
  rw [List.length_reverse, List.length_take] at q
  simp only
  split <;> omega
theorem cutAt_pos {w : List Nat} {n : Nat} (h : 1 ≤ n) : 1 ≤ cutAt w n := by
  unfold cutAt
  simp only
  split <;> omega

/-! ### how much a row takes -/
theorem rowLength_bounds {k : Look} {c : Nat} {w : List Nat} (h : w ≠ []) : 1 ≤ rowLength k c w ∧ rowLength k c w ≤ w.length := by
  have hp : 0 < w.length := List.length_pos_iff.mpr h
  unfold rowLength
  simp only
  split
  · omega
  · rename_i hn
    split
    · omega
    · split
      · have q := takeWhile_le (p := isBlank) (w.drop (max 1 (fits k c w)))
        rw [List.length_drop] at q
        omega
      · have q1 := cutAt_le (w := w) (n := max 1 (fits k c w)) (by omega)
        have q2 := cutAt_pos (w := w) (n := max 1 (fits k c w)) (by omega)
        omega
theorem rowLength_all {k : Look} {c n : Nat} {w : List Nat} (en : n = max 1 (fits k c w)) (h : w.length ≤ n) : rowLength k c w = w.length := by
  unfold rowLength
  simp only
  rw [← en, if_pos h]
theorem rowLength_plain {k : Look} {c n : Nat} {w : List Nat} (en : n = max 1 (fits k c w)) (h : n < w.length) (hw : k.words = false) : rowLength k c w = n := by
  unfold rowLength
  simp only
  rw [← en, if_neg (by omega), if_pos hw]
def wordsTake (w : List Nat) (n : Nat) : Nat := if isBlank (w.getD n 0) = true then n + ((w.drop n).takeWhile isBlank).length else cutAt w n
theorem rowLength_words {k : Look} {c n : Nat} {w : List Nat} (en : n = max 1 (fits k c w)) (h : n < w.length) (hw : k.words = true) : rowLength k c w = wordsTake w n := by
  unfold rowLength wordsTake
  simp only
  rw [← en, if_neg (by omega), if_neg (by rw [hw]; decide)]

/-! ### rows -/
theorem rowsFrom_end {k : Look} {next f a c : Nat} {w : List Nat} (h : w.length ≤ rowLength k c w) : rowsFrom k next (f + 1) a c w = [⟨a, a + w.length, c⟩] := by
  unfold rowsFrom
  simp only
  rw [if_pos h]
theorem rowsFrom_go {k : Look} {next f a c : Nat} {w : List Nat} (h : rowLength k c w < w.length) :
    rowsFrom k next (f + 1) a c w = ⟨a, a + rowLength k c w, c⟩ :: rowsFrom k next f (a + rowLength k c w) next (w.drop (rowLength k c w)) := by
  conv => lhs; unfold rowsFrom
  simp only
  rw [if_neg (by omega)]
/-- rows_of's loop: what it has, where it stands -/
structure RowsSo (k : Look) (w : List Nat) (acc : List Row) (at_ col : Nat) : Prop where
  le : at_ ≤ w.length
  go : at_ < w.length → ∃ f, w.length - at_ < f ∧ rows k w = acc ++ rowsFrom k (inset k w) f at_ col (w.drop at_)
  fin : at_ = w.length → rows k w = acc
theorem RowsSo.start {k : Look} {w : List Nat} (h : w ≠ []) : RowsSo k w [] 0 0 := by
  have hp : 0 < w.length := List.length_pos_iff.mpr h
  exact ⟨Nat.zero_le _, fun _ => ⟨w.length + 1, by omega, rfl⟩, fun e => by omega⟩
theorem RowsSo.turn {k : Look} {w : List Nat} {acc : List Row} {a c : Nat} (h : RowsSo k w acc a c) (hl : a < w.length) :
    RowsSo k w (acc ++ [⟨a, a + rowLength k c (w.drop a), c⟩]) (a + rowLength k c (w.drop a)) (inset k w) := by
  obtain ⟨f, hf, e⟩ := h.go hl
  have ne : w.drop a ≠ [] := by
    intro z
    have z2 := congrArg List.length z
    rw [List.length_drop] at z2
    simp at z2
    omega
  obtain ⟨b1, b2⟩ := rowLength_bounds (k := k) (c := c) ne
  rw [List.length_drop] at b2
  obtain ⟨f', rfl⟩ : ∃ f', f = f' + 1 := ⟨f - 1, by omega⟩
  refine ⟨by omega, fun q => ⟨f', by omega, ?_⟩, fun q => ?_⟩
  · rw [e, rowsFrom_go (by rw [List.length_drop]; omega), List.append_assoc, List.drop_drop]
    rfl
  · rw [e, rowsFrom_end (by rw [List.length_drop]; omega), List.length_drop]
    have e2 : a + (w.length - a) = a + rowLength k c (w.drop a) := by omega
    rw [e2]
/-- rows one behind another, from a up to the end of n bytes -/
inductive Parts (n : Nat) : Nat → List Row → Prop
  | last {a c : Nat} (h : a ≤ n) : Parts n a [⟨a, n, c⟩]
  | more {a b c : Nat} {l : List Row} (h1 : a < b) (h2 : b < n) (r : Parts n b l) : Parts n a (⟨a, b, c⟩ :: l)
theorem parts_from {k : Look} {next : Nat} {n : Nat} : ∀ (f a c : Nat) (w : List Nat), w.length < f → w ≠ [] ∨ n = a → n = a + w.length → Parts n a (rowsFrom k next f a c w)
  | 0, a, c, w, h, _, _ => absurd h (by omega)
  | f + 1, a, c, w, h, hw, e => by
    by_cases hn : w.length ≤ rowLength k c w
    · rw [rowsFrom_end hn, ← e]
      exact .last (by omega)
    · have ne : w ≠ [] := by
        intro z
        rw [z] at hn
        exact hn (Nat.zero_le _)
      obtain ⟨b1, b2⟩ := rowLength_bounds (k := k) (c := c) ne
      rw [rowsFrom_go (by omega)]
      refine .more (by omega) (by omega) (parts_from f _ _ _ (by rw [List.length_drop]; omega) (Or.inl fun z => ?_) (by rw [List.length_drop]; omega))
      have z2 := congrArg List.length z
      rw [List.length_drop] at z2
      simp at z2
      omega
theorem rows_parts (k : Look) (w : List Nat) : Parts w.length 0 (rows k w) := by
  unfold rows
  refine parts_from _ _ _ _ (by omega) ?_ (by omega)
  cases w with
  | nil => exact .inr rfl
  | cons b w => exact .inl (by intro z; cases z)
theorem Parts.pos {n a : Nat} {l : List Row} (h : Parts n a l) : 0 < l.length := by
  cases h <;> simp
theorem Parts.len {n a : Nat} {l : List Row} (h : Parts n a l) : l.length ≤ n - a + 1 := by
  induction h with
  | last h => simp
  | more h1 h2 r ih =>
    rw [List.length_cons]
    omega
theorem Parts.each {n a : Nat} {l : List Row} (h : Parts n a l) : ∀ r ∈ l, a ≤ r.a ∧ r.a ≤ r.b ∧ r.b ≤ n ∧ (r.b < n → r.a < r.b) := by
  induction h with
  | last h =>
    intro r hr
    have e := List.mem_singleton.mp hr
    rw [e]
    exact ⟨Nat.le_refl _, h, Nat.le_refl _, fun q => absurd q (Nat.lt_irrefl _)⟩
  | more h1 h2 r ih =>
    intro q hq
    rcases List.mem_cons.mp hq with e | hq
    · rw [e]
      exact ⟨Nat.le_refl _, Nat.le_of_lt h1, Nat.le_of_lt h2, fun _ => h1⟩
    · obtain ⟨i1, i2, i3, i4⟩ := ih q hq
      exact ⟨by omega, i2, i3, i4⟩
/-- how many rows end at a place or ahead of it -/
def rowNo (n : Nat) (l : List Row) (p : Nat) : Nat := (l.takeWhile fun r => decide (r.b ≤ p) && decide (r.b < n)).length
theorem rowAt_no (k : Look) (w : List Nat) (p : Nat) : rowAt k w p = (rowNo w.length (rows k w) p, (rows k w).getD (rowNo w.length (rows k w) p) ⟨0, 0, 0⟩) := rfl
def hit (n : Nat) (r : Row) (p : Nat) : Bool := decide (r.a ≤ p) && (decide (p < r.b) || decide (r.b = n))
theorem Parts.no_lt {n a : Nat} {l : List Row} (h : Parts n a l) (p : Nat) : rowNo n l p < l.length := by
  unfold rowNo
  induction h with
  | last h =>
    rw [List.takeWhile_cons, if_neg (by simp)]
    simp
  | more h1 h2 r ih =>
    rw [List.takeWhile_cons]
    split
    · rw [List.length_cons, List.length_cons]
      omega
    · simp
theorem Parts.hit_ge {n a : Nat} {l : List Row} (h : Parts n a l) {p : Nat} (hp : p < a) : ∀ r ∈ l, hit n r p = false := by
  intro r hr
  obtain ⟨i1, _⟩ := h.each r hr
  unfold hit
  rw [decide_eq_false (by omega), Bool.false_and]
theorem Parts.hit_iff {n a : Nat} {l : List Row} (h : Parts n a l) {p : Nat} (hp : a ≤ p) : ∀ (i : Nat) (r : Row), l[i]? = some r → (hit n r p = true ↔ i = rowNo n l p) := by
  induction h with
  | @last a c h =>
    intro i r hr
    have e0 : rowNo n [(⟨a, n, c⟩ : Row)] p = 0 := by
      unfold rowNo
      rw [List.takeWhile_cons, if_neg (by simp)]
      rfl
    rw [e0]
    cases i with
    | zero =>
      have e : (⟨a, n, c⟩ : Row) = r := Option.some.inj hr
      subst e
      refine ⟨fun _ => rfl, fun _ => ?_⟩
      unfold hit
      rw [decide_eq_true hp, decide_eq_true (show n = n from rfl)]
      simp
    | succ i => simp at hr
  | @more a b c l h1 h2 r ih =>
    intro i q hq
    by_cases hb : b ≤ p
    · have e0 : rowNo n ((⟨a, b, c⟩ : Row) :: l) p = rowNo n l p + 1 := by
        unfold rowNo
        rw [List.takeWhile_cons, if_pos (by simp [hb, h2]), List.length_cons]
      rw [e0]
      cases i with
      | zero =>
        have e : (⟨a, b, c⟩ : Row) = q := Option.some.inj hq
        subst e
        refine ⟨fun z => ?_, fun z => by omega⟩
        unfold hit at z
        simp at z
        omega
      | succ i =>
        have := ih hb i q hq
        rw [this]
        omega
    · have e0 : rowNo n ((⟨a, b, c⟩ : Row) :: l) p = 0 := by
        unfold rowNo
        rw [List.takeWhile_cons, if_neg (by simp [hb])]
        rfl
      rw [e0]
      cases i with
      | zero =>
        have e : (⟨a, b, c⟩ : Row) = q := Option.some.inj hq
        subst e
        refine ⟨fun _ => rfl, fun _ => ?_⟩
        unfold hit
        rw [decide_eq_true hp, decide_eq_true (show p < b by omega)]
        rfl
      | succ i =>
        refine ⟨fun z => ?_, fun z => by omega⟩
        have hm := List.mem_of_getElem? (show l[i]? = some q from hq)
        rw [r.hit_ge (show p < b by omega) q hm] at z
        cases z
theorem Parts.at_no {n a : Nat} {l : List Row} (h : Parts n a l) (p : Nat) : ∃ r, l[rowNo n l p]? = some r ∧ r ∈ l := by
  have q := h.no_lt p
  exact ⟨l[rowNo n l p]'q, List.getElem?_eq_getElem q, List.getElem_mem q⟩

/-! ### the place for a column -/
/-- how many bytes end at a column or ahead of it -/
def upTo (k : Look) (want : Nat) : Nat → List Nat → Nat
  | _, [] => 0
  | c, b :: w => if want < c + cost k c b then 0 else upTo k want (c + cost k c b) w + 1
theorem placeFrom_upTo {k : Look} {want : Nat} : ∀ (w : List Nat) (f p c : Nat), w.length ≤ f → placeFrom k want f p c w = p + upTo k want c w
  | [], 0, p, c, _ => rfl
  | [], f + 1, p, c, _ => rfl
  | b :: w, 0, p, c, h => absurd h (by simp)
  | b :: w, f + 1, p, c, h => by
    unfold placeFrom upTo
    split
    · rfl
    · rw [placeFrom_upTo w f (p + 1) (c + cost k c b) (by rw [List.length_cons] at h; omega)]
      omega
theorem upTo_le {k : Look} {want : Nat} : ∀ (w : List Nat) (c : Nat), upTo k want c w ≤ w.length
  | [], c => Nat.le_refl _
  | b :: w, c => by
    unfold upTo
    split
    · omega
    · have := upTo_le (k := k) (want := want) w (c + cost k c b)
      rw [List.length_cons]
      omega
theorem upTo_iff {k : Look} (ht : 1 ≤ k.tab) {want : Nat} : ∀ (w : List Nat) (c i : Nat), 1 ≤ i → i ≤ w.length → (behind k c (w.take i) ≤ want ↔ i ≤ upTo k want c w)
  | [], c, i, h1, h2 => absurd h2 (by simp; omega)
  | b :: w, c, 0, h1, _ => absurd h1 (by omega)
  | b :: w, c, i + 1, _, h2 => by
    rw [List.take_succ_cons, behind_cons]
    have m := behind_mono ht (w.take i) (c + cost k c b)
    conv => rhs; unfold upTo
    by_cases hw : want < c + cost k c b
    · rw [if_pos hw]
      omega
    · rw [if_neg hw]
      by_cases hi : i = 0
      · subst hi
        show behind k (c + cost k c b) [] ≤ want ↔ _
        have : behind k (c + cost k c b) [] = c + cost k c b := rfl
        rw [this]
        omega
      · have := upTo_iff ht (want := want) w (c + cost k c b) i (by omega) (by rw [List.length_cons] at h2; omega)
        rw [this]
        omega
def lastOf (n : Nat) (r : Row) : Nat := if r.b < n then r.b - 1 else r.b
theorem placeIn_upTo {k : Look} {w : List Nat} {r : Row} {want : Nat} (hb : r.b ≤ w.length) : placeIn k w r want = min (lastOf w.length r) (r.a + upTo k want r.col ((w.take r.b).drop r.a)) := by
  unfold placeIn
  rw [placeFrom_upTo _ _ _ _ (by rw [List.length_drop, List.length_take]; omega)]
  rfl
/-- a place of the row: its bytes ahead -/
theorem cut_row {w : List Nat} {a b i : Nat} (hi : a + i ≤ b) : (w.take (a + i)).drop a = ((w.take b).drop a).take i := by
  rw [List.drop_take, List.drop_take, List.take_take]
  congr 1
  omega
/-- place_for's loop behind i turns (found, i the turns) -/
theorem place_turn {k : Look} (ht : 1 ≤ k.tab) {w : List Nat} {r : Row} {want i : Nat} (hb : r.b ≤ w.length) (hi : r.a + i ≤ r.b) :
    (if behind k r.col ((w.take (r.a + i)).drop r.a) ≤ want then r.a + i else r.a + min (i - 1) (upTo k want r.col ((w.take r.b).drop r.a))) = r.a + min i (upTo k want r.col ((w.take r.b).drop r.a)) := by
  by_cases h0 : i = 0
  · subst h0
    split
    · omega
    · omega
  · rw [cut_row hi]
    have q := upTo_iff ht (want := want) ((w.take r.b).drop r.a) r.col i (by omega) (by rw [List.length_drop, List.length_take]; omega)
    split
    · rename_i h
      have := q.mp h
      omega
    · rename_i h
      have : ¬ i ≤ upTo k want r.col ((w.take r.b).drop r.a) := fun z => h (q.mpr z)
      omega
theorem place_end {k : Look} {w : List Nat} {r : Row} {want : Nat} (hb : r.b ≤ w.length) (ha : r.a ≤ lastOf w.length r) :
    r.a + min (lastOf w.length r - r.a) (upTo k want r.col ((w.take r.b).drop r.a)) = placeIn k w r want := by
  rw [placeIn_upTo hb]
  omega
theorem lastOf_ge {n : Nat} {r : Row} (h : r.a ≤ r.b) (h2 : r.b < n → r.a < r.b) : r.a ≤ lastOf n r := by
  unfold lastOf
  split
  · have := h2 (by assumption)
    omega
  · exact h
theorem lastOf_le {n : Nat} {r : Row} : lastOf n r ≤ r.b := by
  unfold lastOf
  split <;> omega
/-- the place is in its row -/
theorem placeIn_in {k : Look} {w : List Nat} {r : Row} {want : Nat} (hb : r.b ≤ w.length) (ha : r.a ≤ r.b) (h2 : r.b < w.length → r.a < r.b) :
    r.a ≤ placeIn k w r want ∧ placeIn k w r want ≤ w.length ∧ hit w.length r (placeIn k w r want) = true := by
  rw [placeIn_upTo hb]
  have g := lastOf_ge (n := w.length) ha h2
  have l := lastOf_le (n := w.length) (r := r)
  refine ⟨by omega, by omega, ?_⟩
  unfold hit
  rw [decide_eq_true (show r.a ≤ min (lastOf w.length r) (r.a + upTo k want r.col ((w.take r.b).drop r.a)) by omega), Bool.true_and]
  by_cases q : r.b = w.length
  · rw [decide_eq_true q, Bool.or_true]
  · rw [decide_eq_true, Bool.true_or]
    have : lastOf w.length r = r.b - 1 := if_pos (by omega)
    have := h2 (by omega)
    omega
end Fv
/-! Plain Lean: folds, all rows, the point. -/
namespace Fv
open Ue07

/-! ### which line is seen for one -/
def IsTop (l : List Fold) (n s : Nat) : Prop := s ≤ n ∧ hidden l s = false ∧ ∀ j, s < j → j ≤ n → hidden l j = true
theorem IsTop.uniq {l : List Fold} {n s t : Nat} (a : IsTop l n s) (b : IsTop l n t) : s = t := by
  obtain ⟨a1, a2, a3⟩ := a
  obtain ⟨b1, b2, b3⟩ := b
  rcases Nat.lt_trichotomy s t with h | h | h
  · rw [a3 t h b1] at b2
    cases b2
  · exact h
  · rw [b3 s h a1] at a2
    cases a2
theorem hides_iff {f : Fold} {n : Nat} : hides f n = true ↔ f.1 < n ∧ n < f.2 := by
  unfold hides
  simp
theorem hidden_iff {l : List Fold} {n : Nat} : hidden l n = true ↔ ∃ f ∈ l, hides f n = true := by
  unfold hidden
  exact List.any_eq_true
theorem hidden_zero (l : List Fold) : hidden l 0 = false := by
  cases h : hidden l 0 with
  | false => rfl
  | true =>
    obtain ⟨f, _, q⟩ := hidden_iff.mp h
    have := (hides_iff.mp q).1
    omega
theorem hidden_of {l : List Fold} {f : Fold} {n : Nat} (h : f ∈ l) (q : hides f n = true) : hidden l n = true := hidden_iff.mpr ⟨f, h, q⟩
/-- from a hidden line to a fold's first one: what lies between is hidden -/
theorem hidden_between {l : List Fold} {f : Fold} {n j : Nat} (h : f ∈ l) (q : hides f n = true) (h1 : f.1 < j) (h2 : j ≤ n) : hidden l j = true :=
  hidden_of h (hides_iff.mpr ⟨h1, by have := (hides_iff.mp q).2; omega⟩)
def below (l : List Fold) (n : Nat) : Nat := (l.filter fun f => decide (f.1 < n)).length
theorem below_append (l m : List Fold) (n : Nat) : below (l ++ m) n = below l n + below m n := by
  unfold below
  rw [List.filter_append, List.length_append]
theorem below_mono {m n : Nat} (h : m ≤ n) : ∀ l : List Fold, below l m ≤ below l n
  | [] => Nat.le_refl _
  | f :: l => by
    have ih := below_mono h l
    unfold below at ih ⊢
    rw [List.filter_cons, List.filter_cons]
    by_cases h1 : f.1 < m
    · rw [if_pos (by simp [h1]), if_pos (by simp; omega), List.length_cons, List.length_cons]
      omega
    · rw [if_neg (by simp [h1])]
      split
      · rw [List.length_cons]
        omega
      · exact ih
theorem below_lt {l : List Fold} {x : Fold} {n : Nat} (hx : x ∈ l) (h : x.1 < n) : below l x.1 < below l n := by
  obtain ⟨l1, l2, rfl⟩ := List.append_of_mem hx
  have e : ∀ k, below (l1 ++ x :: l2) k = below l1 k + (below [x] k + below l2 k) := fun k => by
    rw [below_append, show x :: l2 = [x] ++ l2 from rfl, below_append]
  rw [e, e]
  have h1 := below_mono (Nat.le_of_lt h) l1
  have h2 := below_mono (Nat.le_of_lt h) l2
  have h3 : below [x] x.1 = 0 := by
    unfold below
    rw [List.filter_cons, if_neg (by simp)]
    rfl
  have h4 : below [x] n = 1 := by
    unfold below
    rw [List.filter_cons, if_pos (by simp [h])]
    rfl
  omega
theorem below_le (l : List Fold) (n : Nat) : below l n ≤ l.length := List.length_filter_le _ _
theorem seenFor_top : ∀ (f : Nat) (l : List Fold) (n : Nat), below l n < f → IsTop l n (seenFor f l n)
  | 0, l, n, h => absurd h (by omega)
  | f + 1, l, n, h => by
    unfold seenFor
    cases e : l.find? fun x => hides x n with
    | none =>
      show IsTop l n n
      refine ⟨Nat.le_refl _, ?_, fun j h1 h2 => absurd h1 (by omega)⟩
      cases q : hidden l n with
      | false => rfl
      | true =>
        obtain ⟨x, hx, hh⟩ := hidden_iff.mp q
        have := List.find?_eq_none.mp e x hx
        exact absurd hh this
    | some x =>
      show IsTop l n (seenFor f l x.1)
      have hx := List.mem_of_find?_eq_some e
      have hh : hides x n = true := by
        have := List.find?_some e
        exact this
      have lt := (hides_iff.mp hh).1
      have b := below_lt hx lt
      obtain ⟨t1, t2, t3⟩ := seenFor_top f l x.1 (by omega)
      refine ⟨by omega, t2, fun j h1 h2 => ?_⟩
      by_cases hj : j ≤ x.1
      · exact t3 j h1 hj
      · exact hidden_between hx hh (by omega) h2
def seenAt (l : List Fold) (n : Nat) : Nat := seenFor (l.length + 1) l n
theorem seenAt_top (l : List Fold) (n : Nat) : IsTop l n (seenAt l n) := seenFor_top _ _ _ (by have := below_le l n; omega)
theorem seenAt_self {l : List Fold} {n : Nat} (h : hidden l n = false) : seenAt l n = n :=
  (seenAt_top l n).uniq ⟨Nat.le_refl _, h, fun j h1 h2 => absurd h1 (by omega)⟩
/-- seen_for's loop -/
def SeenSo (l : List Fold) (n s : Nat) : Prop := s ≤ n ∧ ∀ j, s < j → j ≤ n → hidden l j = true
theorem SeenSo.start (l : List Fold) (n : Nat) : SeenSo l n n := ⟨Nat.le_refl _, fun j h1 h2 => absurd h1 (by omega)⟩
theorem SeenSo.turn {l : List Fold} {n s : Nat} {x : Fold} (h : SeenSo l n s) (hx : x ∈ l) (hh : hides x s = true) : SeenSo l n x.1 := by
  have lt := (hides_iff.mp hh).1
  refine ⟨by have := h.1; omega, fun j h1 h2 => ?_⟩
  by_cases hj : j ≤ s
  · exact hidden_between hx hh h1 hj
  · exact h.2 j (by omega) h2
theorem SeenSo.fin {l : List Fold} {n s : Nat} (h : SeenSo l n s) (hs : hidden l s = false) : s = seenAt l n :=
  IsTop.uniq (l := l) (n := n) ⟨h.1, hs, h.2⟩ (seenAt_top l n)

/-! ### folds behind a change -/
def behindOf (a b n : Nat) (f : Fold) : Option Fold := if f.2 ≤ a then some f else if b ≤ f.1 then some (f.1 + n - (b - a), f.2 + n - (b - a)) else if f.1 < a ∧ b ≤ f.2 ∧ a < f.2 then (if f.2 + n - (b - a) ≤ f.1 + 1 then none else some (f.1, f.2 + n - (b - a))) else none
def addOnce (m : List Fold) : Option Fold → List Fold
  | none => m
  | some y => if m.contains y = true then m else m ++ [y]
theorem once_go (g : Fold → Option Fold) : ∀ (l : List Fold) (m : List Fold), (l.filterMap g).foldl (fun m f => if m.contains f = true then m else m ++ [f]) m = l.foldl (fun m f => addOnce m (g f)) m
  | [], m => rfl
  | f :: l, m => by
    rw [List.filterMap_cons, List.foldl_cons]
    cases e : g f with
    | none => exact once_go g l m
    | some y =>
      show ((y :: l.filterMap g).foldl _ m) = _
      rw [List.foldl_cons]
      exact once_go g l _
def behindTo (a b n : Nat) (l : List Fold) : List Fold := l.foldl (fun m f => addOnce m (behindOf a b n f)) []
theorem foldsBehind_to (l : List Fold) (a b n : Nat) : foldsBehind l a b n = behindTo a b n l := once_go _ l []
theorem behindTo_more {a b n i : Nat} {l : List Fold} {f : Fold} (h : l[i]? = some f) : behindTo a b n (l.take (i + 1)) = addOnce (behindTo a b n (l.take i)) (behindOf a b n f) := by
  unfold behindTo
  rw [take_snoc h, List.foldl_append]
  rfl
theorem addOnce_len (m : List Fold) (o : Option Fold) : (addOnce m o).length ≤ m.length + 1 := by
  cases o with
  | none => exact Nat.le_succ _
  | some y =>
    unfold addOnce
    simp only
    split
    · omega
    · simp
theorem behindTo_len (a b n : Nat) (l : List Fold) : (behindTo a b n l).length ≤ l.length := by
  have key : ∀ (l m : List Fold), (l.foldl (fun m f => addOnce m (behindOf a b n f)) m).length ≤ m.length + l.length := by
    intro l
    induction l with
    | nil => intro m; exact Nat.le_refl _
    | cons f l ih =>
      intro m
      have h1 := ih (addOnce m (behindOf a b n f))
      have h2 := addOnce_len m (behindOf a b n f)
      rw [List.foldl_cons, List.length_cons]
      omega
  have := key l []
  unfold behindTo
  simpa using this

/-! ### all rows -/
def rowsTo (k : Look) (lines : List Bytes) (l : List Fold) (i : Nat) : List (Nat × Row) := (seen l i).flatMap fun n => (rows k (lines.getD n [])).map fun r => (n, r)
theorem allRows_to (g : St) : allRows g = rowsTo g.look g.lines g.folds g.lines.length := rfl
theorem seen_more (l : List Fold) (i : Nat) : seen l (i + 1) = seen l i ++ (if hidden l i = true then [] else [i]) := by
  unfold seen
  rw [List.range_succ, List.filter_append, List.filter_cons]
  cases hidden l i <;> rfl
theorem rowsTo_seen {k : Look} {lines : List Bytes} {l : List Fold} {i : Nat} {w : Bytes} (hw : lines[i]? = some w) (h : hidden l i = false) : rowsTo k lines l (i + 1) = rowsTo k lines l i ++ (rows k w).map fun r => (i, r) := by
  unfold rowsTo
  have e : lines.getD i [] = w := by
    rw [List.getD_eq_getElem?_getD, hw]
    rfl
  rw [seen_more, h, if_neg (by decide), List.flatMap_append, List.flatMap_singleton, e]
theorem rowsTo_hidden {k : Look} {lines : List Bytes} {l : List Fold} {i : Nat} (h : hidden l i = true) : rowsTo k lines l (i + 1) = rowsTo k lines l i := by
  unfold rowsTo
  rw [seen_more, h, if_pos rfl, List.append_nil]
theorem rows_len (k : Look) (w : Bytes) : (rows k w).length ≤ w.length + 1 := by
  have := (rows_parts k w).len
  omega
theorem getD_len {lines : List Bytes} {m : Nat} (h : ∀ w ∈ lines, w.length ≤ m) (i : Nat) : (lines.getD i []).length ≤ m := by
  rw [List.getD_eq_getElem?_getD]
  cases e : lines[i]? with
  | none => exact Nat.zero_le _
  | some w => exact h w (List.mem_of_getElem? e)
theorem rowsTo_len {k : Look} {lines : List Bytes} {l : List Fold} {m : Nat} (h : ∀ w ∈ lines, w.length ≤ m) : ∀ i, (rowsTo k lines l i).length ≤ i * (m + 1)
  | 0 => Nat.zero_le _
  | i + 1 => by
    have ih := rowsTo_len (k := k) (l := l) h i
    have q := Nat.le_trans (rows_len k (lines.getD i [])) (Nat.succ_le_succ (getD_len h i))
    have e : (i + 1) * (m + 1) = i * (m + 1) + (m + 1) := Nat.succ_mul i (m + 1)
    unfold rowsTo at ih ⊢
    rw [seen_more, List.flatMap_append, List.length_append, e]
    split
    · simp only [List.flatMap_nil, List.length_nil]
      omega
    · rw [List.flatMap_singleton, List.length_map]
      omega
/-- a row, by its number -/
theorem rowsTo_at {k : Look} {lines : List Bytes} {l : List Fold} : ∀ {m i : Nat} {x : Nat × Row}, (rowsTo k lines l m)[i]? = some x →
    x.1 < m ∧ hidden l x.1 = false ∧ ∃ j, (rows k (lines.getD x.1 []))[j]? = some x.2 ∧ i = (rowsTo k lines l x.1).length + j
  | 0, i, x, h => by
    have e : rowsTo k lines l 0 = [] := rfl
    rw [e] at h
    simp at h
  | m + 1, i, x, h => by
    cases hh : hidden l m with
    | true =>
      rw [rowsTo_hidden hh] at h
      obtain ⟨h1, h2⟩ := rowsTo_at h
      exact ⟨by omega, h2⟩
    | false =>
      have e : rowsTo k lines l (m + 1) = rowsTo k lines l m ++ (rows k (lines.getD m [])).map fun r => (m, r) := by
        unfold rowsTo
        rw [seen_more, hh, if_neg (by decide), List.flatMap_append, List.flatMap_singleton]
      rw [e] at h
      by_cases hi : i < (rowsTo k lines l m).length
      · rw [List.getElem?_append_left hi] at h
        obtain ⟨h1, h2⟩ := rowsTo_at h
        exact ⟨by omega, h2⟩
      · rw [List.getElem?_append_right (by omega), List.getElem?_map] at h
        cases q : (rows k (lines.getD m []))[i - (rowsTo k lines l m).length]? with
        | none =>
          rw [q] at h
          cases h
        | some r =>
          rw [q] at h
          have e2 : (m, r) = x := Option.some.inj h
          subst e2
          exact ⟨by show m < m + 1; omega, hh, _, q, by show i = (rowsTo k lines l m).length + _; omega⟩
/-- .. and back -/
theorem rowsTo_get {k : Look} {lines : List Bytes} {l : List Fold} {n j : Nat} {r : Row} (hn : hidden l n = false) (hr : (rows k (lines.getD n []))[j]? = some r) : ∀ {m : Nat}, n < m →
    (rowsTo k lines l m)[(rowsTo k lines l n).length + j]? = some (n, r)
  | 0, h => absurd h (by omega)
  | m + 1, h => by
    have hj : j < (rows k (lines.getD n [])).length := (List.getElem?_eq_some_iff.mp hr).1
    by_cases e : n = m
    · subst e
      have e2 : rowsTo k lines l (n + 1) = rowsTo k lines l n ++ (rows k (lines.getD n [])).map fun r => (n, r) := by
        unfold rowsTo
        rw [seen_more, hn, if_neg (by decide), List.flatMap_append, List.flatMap_singleton]
      rw [e2, List.getElem?_append_right (by omega), List.getElem?_map, Nat.add_sub_cancel_left, hr]
      rfl
    · have ih := rowsTo_get hn hr (m := m) (by omega)
      cases hh : hidden l m with
      | true =>
        rw [rowsTo_hidden hh]
        exact ih
      | false =>
        have e2 : rowsTo k lines l (m + 1) = rowsTo k lines l m ++ (rows k (lines.getD m [])).map fun r => (m, r) := by
          unfold rowsTo
          rw [seen_more, hh, if_neg (by decide), List.flatMap_append, List.flatMap_singleton]
        rw [e2]
        have hl := (List.getElem?_eq_some_iff.mp ih).1
        rw [List.getElem?_append_left hl]
        exact ih
theorem seen_below {l : List Fold} {n m : Nat} (h : n ≤ m) : (seen l m).filter (fun i => decide (i < n)) = seen l n := by
  induction m with
  | zero =>
    have : n = 0 := by omega
    subst this
    rfl
  | succ m ih =>
    by_cases e : n = m + 1
    · subst e
      refine List.filter_eq_self.mpr fun i hi => ?_
      have := List.mem_range.mp (List.mem_filter.mp hi).1
      simp
      omega
    · rw [seen_more, List.filter_append, ih (by omega)]
      split
      · exact List.append_nil _
      · rw [List.filter_cons, if_neg (by simp; omega)]
        exact List.append_nil _
theorem foldl_add (l : List Nat) : ∀ s, l.foldl (fun a b => a + b) s = s + l.foldl (fun a b => a + b) 0 := by
  induction l with
  | nil => intro s; rfl
  | cons x l ih =>
    intro s
    rw [List.foldl_cons, List.foldl_cons, ih (s + x), ih (0 + x)]
    omega
theorem sum_flat (F : Nat → List (Nat × Row)) : ∀ L : List Nat, (L.map fun i => (F i).length).foldl (fun a b => a + b) 0 = (L.flatMap F).length
  | [] => rfl
  | x :: L => by
    rw [List.map_cons, List.foldl_cons, foldl_add, sum_flat F L, List.flatMap_cons, List.length_append]
    omega
theorem rowsAhead_to {g : St} {n : Nat} (h : n ≤ g.lines.length) : rowsAhead g n = (rowsTo g.look g.lines g.folds n).length := by
  unfold rowsAhead rowsTo
  rw [seen_below h, ← sum_flat]
  simp only [List.length_map]
  rfl
/-- the rows of lines ahead of one, of all -/
theorem rowsTo_ahead {k : Look} {lines : List Bytes} {l : List Fold} {n m : Nat} (h : n ≤ m) : ((rowsTo k lines l m).filter fun x => decide (x.1 < n)) = rowsTo k lines l n := by
  unfold rowsTo
  rw [← seen_below (l := l) h]
  generalize seen l m = L
  induction L with
  | nil => rfl
  | cons i L ih =>
    rw [List.flatMap_cons, List.filter_append, ih, List.filter_cons]
    by_cases hi : i < n
    · rw [if_pos (by simp [hi]), List.flatMap_cons]
      congr 1
      refine List.filter_eq_self.mpr fun x hx => ?_
      obtain ⟨r, _, e⟩ := List.mem_map.mp hx
      rw [← e]
      simp [hi]
    · rw [if_neg (by simp [hi])]
      have : ((rows k (lines.getD i [])).map fun r => (i, r)).filter (fun x => decide (x.1 < n)) = [] := by
        refine List.filter_eq_nil_iff.mpr fun x hx => ?_
        obtain ⟨r, _, e⟩ := List.mem_map.mp hx
        rw [← e]
        simp [hi]
      rw [this]
      rfl
theorem rowsTo_mono {k : Look} {lines : List Bytes} {l : List Fold} {n m : Nat} (h : n ≤ m) : (rowsTo k lines l n).length ≤ (rowsTo k lines l m).length := by
  rw [← rowsTo_ahead h]
  exact List.length_filter_le _ _

/-! ### the point's row -/
/-- the row in which a place is, among all -/
theorem place_row {g : St} {n : Nat} (p : Nat) (hn : n < g.lines.length) (hs : hidden g.folds n = false) : ∃ r, (allRows g)[rowsAhead g n + (rowAt g.look (lineAt g n) p).1]? = some (n, r) ∧ (rowAt g.look (lineAt g n) p).2 = r := by
  obtain ⟨r, hr, _⟩ := (rows_parts g.look (lineAt g n)).at_no p
  refine ⟨r, ?_, ?_⟩
  · rw [rowsAhead_to (by omega), allRows_to]
    exact rowsTo_get hs hr hn
  · rw [rowAt_no]
    show (rows g.look (lineAt g n)).getD _ _ = r
    rw [List.getD_eq_getElem?_getD, hr]
    rfl
theorem pointRow_lt {g : St} (hn : g.line < g.lines.length) (hs : hidden g.folds g.line = false) : pointRow g < rowCount g := by
  obtain ⟨r, h, _⟩ := place_row g.place hn hs
  exact (List.getElem?_eq_some_iff.mp h).1
/-- the point put into a row is in it -/
theorem put_row {g : St} {i : Nat} {x : Nat × Row} {want : Nat} (h : (allRows g)[i]? = some x) :
    x.1 < g.lines.length ∧ hidden g.folds x.1 = false ∧ placeIn g.look (lineAt g x.1) x.2 want ≤ (lineAt g x.1).length ∧
      rowsAhead g x.1 + (rowAt g.look (lineAt g x.1) (placeIn g.look (lineAt g x.1) x.2 want)).1 = i := by
  rw [allRows_to] at h
  obtain ⟨h1, h2, j, hj, e⟩ := rowsTo_at h
  have P := rows_parts g.look (lineAt g x.1)
  obtain ⟨i1, i2, i3, i4⟩ := P.each x.2 (List.mem_of_getElem? hj)
  obtain ⟨p1, p2, p3⟩ := placeIn_in (k := g.look) (want := want) i3 i2 i4
  refine ⟨h1, h2, p2, ?_⟩
  rw [rowsAhead_to (by omega), rowAt_no]
  show _ + rowNo (lineAt g x.1).length (rows g.look (lineAt g x.1)) _ = i
  have q := (P.hit_iff (p := placeIn g.look (lineAt g x.1) x.2 want) (Nat.zero_le _) j x.2 hj).mp p3
  rw [← q, e]
end Fv
/-! Plain Lean: what holds between the calls; each call's step. -/
namespace Fv
open Ue07

theorem behindTo_ord {l : List Fold} {a b n : Nat} (h : ∀ f ∈ l, f.1 ≤ f.2) : ∀ f ∈ behindTo a b n l, f.1 ≤ f.2 := by
  have key : ∀ (l m : List Fold), (∀ f ∈ l, f.1 ≤ f.2) → (∀ f ∈ m, f.1 ≤ f.2) → ∀ f ∈ l.foldl (fun m f => addOnce m (behindOf a b n f)) m, f.1 ≤ f.2 := by
    intro l
    induction l with
    | nil => intro m _ hm; exact hm
    | cons x l ih =>
      intro m hl hm
      rw [List.foldl_cons]
      refine ih _ (fun f hf => hl f (List.mem_cons_of_mem _ hf)) ?_
      have hx := hl x List.mem_cons_self
      cases e : behindOf a b n x with
      | none => exact hm
      | some y =>
        have hy : y.1 ≤ y.2 := by
          unfold behindOf at e
          split at e
          · cases e; exact hx
          · split at e
            · cases e
              show x.1 + n - (b - a) ≤ x.2 + n - (b - a)
              omega
            · split at e
              · split at e
                · cases e
                · cases e
                  show x.1 ≤ x.2 + n - (b - a)
                  omega
              · cases e
        unfold addOnce
        simp only
        split
        · exact hm
        · intro f hf
          rcases List.mem_append.mp hf with z | z
          · exact hm f z
          · rw [List.mem_singleton.mp z]
            exact hy
  exact key l [] h (fun f hf => nomatch hf)
structure Text (g : St) : Prop where
  wide : 4 ≤ g.look.wide
  tab : 1 ≤ g.look.tab
  len : ∀ w ∈ g.lines, w.length ≤ 120
  some : 0 < g.lines.length
  many : g.lines.length ≤ 30
  folds : g.folds.length ≤ 12 ∧ ∀ f ∈ g.folds, f.1 ≤ f.2
  high : 1 ≤ g.high
structure Pt (g : St) : Prop where
  line : g.line < g.lines.length
  seen : hidden g.folds g.line = false
  place : g.place ≤ (lineAt g g.line).length
structure Good (g : St) : Prop where
  text : Text g
  pt : Pt g
  top : g.top ≤ rowCount g - g.high
  topP : g.top ≤ pointRow g
theorem Good.init : Good Ue07.init := by
  refine ⟨⟨by decide, by decide, ?_, by decide, by decide, ⟨by decide, fun f hf => nomatch hf⟩, by decide⟩, ⟨by decide, by decide, by decide⟩, Nat.zero_le _, Nat.zero_le _⟩
  intro w hw
  have e : w = [] := List.mem_singleton.mp hw
  rw [e]
  decide

theorem Text.rowCount {g : St} (h : Text g) : (allRows g).length ≤ 3630 := by
  rw [allRows_to]
  have h1 := rowsTo_len (k := g.look) (l := g.folds) h.len g.lines.length
  have h2 : g.lines.length * 121 ≤ 30 * 121 := Nat.mul_le_mul_right _ h.many
  omega
theorem lineAt_get {g : St} {n : Nat} (h : n < g.lines.length) : g.lines[n]? = some (lineAt g n) := by
  unfold lineAt
  rw [List.getD_eq_getElem?_getD, List.getElem?_eq_getElem h]
  rfl
theorem lineAt_len {g : St} (h : Text g) (n : Nat) : (lineAt g n).length ≤ 120 := getD_len h.len n

/-! ### scrolled, settled -/
theorem pointRow_scrolled (g : St) : pointRow (scrolled g) = pointRow g := rfl
theorem rowCount_scrolled (g : St) : rowCount (scrolled g) = rowCount g := rfl
theorem good_scrolled {g : St} (t : Text g) (p : Pt g) : Good (scrolled g) := by
  refine ⟨⟨t.wide, t.tab, t.len, t.some, t.many, t.folds, t.high⟩, ⟨p.line, p.seen, p.place⟩, ?_, ?_⟩
  · show min (max (pointRow g + min g.margin ((g.high - 1) / 2) + 1 - g.high) (min g.top (pointRow g - min g.margin ((g.high - 1) / 2)))) (rowCount g - g.high) ≤ rowCount g - g.high
    omega
  · show min (max (pointRow g + min g.margin ((g.high - 1) / 2) + 1 - g.high) (min g.top (pointRow g - min g.margin ((g.high - 1) / 2)))) (rowCount g - g.high) ≤ pointRow g
    have := t.high
    omega
/-- the program's way to settle -/
def settledP (g : St) : St :=
  scrolled { g with wish := none, line := seenAt g.folds g.line, place := min g.place (lineAt g (seenAt g.folds g.line)).length }
theorem settledP_of {g : St} (p : Pt g) : settledP g = scrolled { g with wish := none } := by
  have e1 := seenAt_self p.seen
  have e2 : min g.place (lineAt g g.line).length = g.place := Nat.min_eq_left p.place
  unfold settledP
  rw [e1, e2]
theorem good_settledP {g : St} (t : Text g) (h : g.line < g.lines.length) : Good (settledP g) := by
  have q := seenAt_top g.folds g.line
  refine good_scrolled ⟨t.wide, t.tab, t.len, t.some, t.many, t.folds, t.high⟩ ⟨?_, q.2.1, Nat.min_le_right _ _⟩
  have := q.1
  show seenAt g.folds g.line < g.lines.length
  omega

/-! ### look, window, text -/
def lookOkN (wide tab more : Nat) : Bool := decide (4 ≤ wide ∧ wide ≤ 100 ∧ 1 ≤ tab ∧ tab ≤ 16 ∧ more ≤ 100)
theorem lookOk_is (k : Look) : lookOk k = lookOkN k.wide k.tab k.more := by
  unfold lookOk lookOkN
  simp [Bool.decide_and]
theorem step_look_no {g : St} {k : Look} (h : lookOkN k.wide k.tab k.more = false) : Ue07.step g (.look k) = (g, [-1]) := by
  show (if lookOk k = false then _ else _) = _
  rw [lookOk_is, if_pos h]
theorem look_text {g : St} {k : Look} (G : Good g) (h : lookOkN k.wide k.tab k.more = true) : Text { g with look := k } ∧ Pt { g with look := k } := by
  have q := of_decide_eq_true h
  exact ⟨⟨q.1, q.2.2.1, G.text.len, G.text.some, G.text.many, G.text.folds, G.text.high⟩, ⟨G.pt.line, G.pt.seen, G.pt.place⟩⟩
theorem step_look {g : St} {k : Look} (G : Good g) (h : lookOkN k.wide k.tab k.more = true) : Ue07.step g (.look k) = answers (settledP { g with look := k }) := by
  show (if lookOk k = false then _ else _) = _
  rw [lookOk_is, if_neg (by rw [h]; decide), settledP_of (look_text G h).2]
def windowOk (h m : Nat) : Bool := decide (1 ≤ h ∧ h ≤ 60 ∧ m ≤ 60)
theorem step_window_no {g : St} {h m : Nat} (q : windowOk h m = false) : Ue07.step g (.window h m) = (g, [-1]) := by
  have q2 := of_decide_eq_false q
  show (if h = 0 ∨ 60 < h ∨ 60 < m then _ else _) = _
  rw [if_pos (by omega)]
theorem step_window {g : St} {h m : Nat} (q : windowOk h m = true) : Ue07.step g (.window h m) = answers (scrolled { g with high := h, margin := m }) := by
  have q2 := of_decide_eq_true q
  show (if h = 0 ∨ 60 < h ∨ 60 < m then _ else _) = _
  rw [if_neg (by omega)]
theorem window_text {g : St} {h m : Nat} (G : Good g) (q : windowOk h m = true) : Text { g with high := h, margin := m } ∧ Pt { g with high := h, margin := m } := by
  have q2 := of_decide_eq_true q
  exact ⟨⟨G.text.wide, G.text.tab, G.text.len, G.text.some, G.text.many, G.text.folds, q2.1⟩, ⟨G.pt.line, G.pt.seen, G.pt.place⟩⟩
theorem isLines_len {l : List Bytes} (h : isLines l = true) : ∀ w ∈ l, w.length ≤ 120 := fun w hw => by
  have q := List.all_eq_true.mp h w hw
  rw [Bool.and_eq_true] at q
  exact of_decide_eq_true q.1
def textOk (l : List Bytes) : Bool := decide (l ≠ []) && (decide (l.length ≤ 30) && isLines l)
theorem step_text_no {g : St} {l : List Bytes} (q : textOk l = false) : Ue07.step g (.text l) = (g, [-1]) := by
  show (if isLines l = false ∨ l = [] ∨ 30 < l.length then _ else _) = _
  rw [if_pos]
  unfold textOk at q
  cases h : isLines l with
  | false => exact .inl rfl
  | true =>
    rw [h] at q
    refine .inr ?_
    by_cases e : l = []
    · exact .inl e
    · right
      simp [e] at q
      exact q
def withText (g : St) (l : List Bytes) : St := { g with lines := l, folds := [], line := 0, place := 0, top := 0 }
theorem text_ok {l : List Bytes} (q : textOk l = true) : isLines l = true ∧ l ≠ [] ∧ l.length ≤ 30 := by
  unfold textOk at q
  rw [Bool.and_eq_true, Bool.and_eq_true] at q
  exact ⟨q.2.2, of_decide_eq_true q.1, of_decide_eq_true q.2.1⟩
theorem text_text {g : St} {l : List Bytes} (G : Good g) (q : textOk l = true) : Text (withText g l) ∧ Pt (withText g l) := by
  obtain ⟨h1, h2, h3⟩ := text_ok q
  have hp : 0 < l.length := List.length_pos_iff.mpr h2
  exact ⟨⟨G.text.wide, G.text.tab, isLines_len h1, hp, h3, ⟨Nat.zero_le _, fun f hf => nomatch hf⟩, G.text.high⟩, ⟨hp, rfl, Nat.zero_le _⟩⟩
theorem step_text {g : St} {l : List Bytes} (G : Good g) (q : textOk l = true) : Ue07.step g (.text l) = answers (settledP (withText g l)) := by
  obtain ⟨h1, h2, h3⟩ := text_ok q
  show (if isLines l = false ∨ l = [] ∨ 30 < l.length then _ else _) = _
  rw [if_neg, settledP_of (text_text G q).2]
  · rfl
  · rintro (z | z | z)
    · rw [h1] at z
      cases z
    · exact h2 z
    · omega

/-! ### edit -/
def editOk (g : St) (a b : Nat) (l : List Bytes) : Bool := decide (a ≤ b) && (decide (b ≤ g.lines.length) && isLines l)
def editLen (g : St) (a b : Nat) (l : List Bytes) : Nat := g.lines.length + l.length - (b - a)
def editLines (g : St) (a b : Nat) (l : List Bytes) : List Bytes := g.lines.take a ++ (l ++ g.lines.drop b)
theorem edit_ok {g : St} {a b : Nat} {l : List Bytes} (q : editOk g a b l = true) : a ≤ b ∧ b ≤ g.lines.length ∧ isLines l = true := by
  unfold editOk at q
  rw [Bool.and_eq_true, Bool.and_eq_true] at q
  exact ⟨of_decide_eq_true q.1, of_decide_eq_true q.2.1, q.2.2⟩
theorem editLines_len {g : St} {a b : Nat} {l : List Bytes} (h : a ≤ b) (h2 : b ≤ g.lines.length) : (editLines g a b l).length = editLen g a b l := by
  unfold editLines editLen
  rw [List.length_append, List.length_append, List.length_take, List.length_drop]
  omega
theorem step_edit_no {g : St} {a b : Nat} {l : List Bytes} (q : editOk g a b l = false) : Ue07.step g (.edit a b l) = (g, [-1]) := by
  show (if b < a ∨ g.lines.length < b ∨ isLines l = false then _ else _) = _
  rw [if_pos]
  unfold editOk at q
  cases h : isLines l with
  | false => exact .inr (.inr rfl)
  | true =>
    rw [h] at q
    simp at q
    by_cases e : b < a
    · exact .inl e
    · exact .inr (.inl (q (by omega)))
theorem step_edit_many {g : St} {a b : Nat} {l : List Bytes} (q : editOk g a b l = true) (h : ¬ (0 < editLen g a b l ∧ editLen g a b l ≤ 30)) : Ue07.step g (.edit a b l) = (g, [-5]) := by
  obtain ⟨h1, h2, h3⟩ := edit_ok q
  show (if b < a ∨ g.lines.length < b ∨ isLines l = false then _ else if editLen g a b l = 0 ∨ 30 < editLen g a b l then _ else _) = _
  rw [if_neg (by rw [h3]; simp; omega), if_pos (by omega)]
/-- the line and the place of the point behind an edit, the program's -/
def editLine (g : St) (a b : Nat) (l : List Bytes) : Nat := if b ≤ g.line then g.line + l.length - (b - a) else if a ≤ g.line then min a (editLen g a b l - 1) else g.line
def editPlace (g : St) (a b : Nat) : Nat := if b ≤ g.line then g.place else if a ≤ g.line then 0 else g.place
def edited (g : St) (a b : Nat) (l : List Bytes) : St := { g with lines := editLines g a b l, folds := foldsBehind g.folds a b l.length, line := editLine g a b l, place := editPlace g a b }
theorem edit_text {g : St} {a b : Nat} {l : List Bytes} (G : Good g) (q : editOk g a b l = true) (h : 0 < editLen g a b l ∧ editLen g a b l ≤ 30) : Text (edited g a b l) ∧ (edited g a b l).line < (edited g a b l).lines.length := by
  obtain ⟨h1, h2, h3⟩ := edit_ok q
  have el := editLines_len (g := g) (l := l) h1 h2
  refine ⟨⟨G.text.wide, G.text.tab, fun w hw => ?_, ?_, ?_, ?_, G.text.high⟩, ?_⟩
  · have hw' : w ∈ g.lines.take a ++ (l ++ g.lines.drop b) := hw
    rcases List.mem_append.mp hw' with z | z
    · exact G.text.len w (List.mem_of_mem_take z)
    · rcases List.mem_append.mp z with z | z
      · exact isLines_len h3 w z
      · exact G.text.len w (List.mem_of_mem_drop z)
  · show 0 < (editLines g a b l).length
    omega
  · show (editLines g a b l).length ≤ 30
    omega
  · show (foldsBehind g.folds a b l.length).length ≤ 12 ∧ ∀ f ∈ foldsBehind g.folds a b l.length, f.1 ≤ f.2
    rw [foldsBehind_to]
    exact ⟨Nat.le_trans (behindTo_len _ _ _ _) G.text.folds.1, behindTo_ord G.text.folds.2⟩
  · show editLine g a b l < (editLines g a b l).length
    rw [el]
    have := G.pt.line
    unfold editLine
    unfold editLen at h ⊢
    split
    · omega
    · split <;> omega
theorem step_edit {g : St} {a b : Nat} {l : List Bytes} (G : Good g) (q : editOk g a b l = true) (h : 0 < editLen g a b l ∧ editLen g a b l ≤ 30) : Ue07.step g (.edit a b l) = answers (settledP (edited g a b l)) := by
  obtain ⟨h1, h2, h3⟩ := edit_ok q
  have el := editLines_len (g := g) (l := l) h1 h2
  have hl := G.pt.line
  have e1 : min (if g.line < a then g.line else if b ≤ g.line then g.line + l.length - (b - a) else a) ((editLines g a b l).length - 1) = editLine g a b l := by
    rw [el]
    unfold editLine
    unfold editLen at h ⊢
    by_cases c1 : g.line < a
    · rw [if_pos c1]
      by_cases c2 : b ≤ g.line
      · omega
      · rw [if_neg c2, if_neg (by omega)]
        omega
    · rw [if_neg c1]
      by_cases c2 : b ≤ g.line
      · rw [if_pos c2, if_pos c2]
        omega
      · rw [if_neg c2, if_neg c2, if_pos (by omega)]
  have e2 : (if a ≤ g.line ∧ g.line < b then 0 else g.place) = editPlace g a b := by
    unfold editPlace
    by_cases c1 : b ≤ g.line
    · rw [if_pos c1, if_neg (by omega)]
    · rw [if_neg c1]
      by_cases c2 : a ≤ g.line
      · rw [if_pos c2, if_pos (by omega)]
      · rw [if_neg c2, if_neg (by omega)]
  show (if b < a ∨ g.lines.length < b ∨ isLines l = false then _ else if editLen g a b l = 0 ∨ 30 < editLen g a b l then _ else
    answers (settled { g with lines := editLines g a b l, folds := foldsBehind g.folds a b l.length, line := if g.line < a then g.line else if b ≤ g.line then g.line + l.length - (b - a) else a, place := if a ≤ g.line ∧ g.line < b then 0 else g.place, wish := none })) = _
  rw [if_neg (by rw [h3]; simp; omega), if_neg (by omega)]
  refine congrArg answers ?_
  rw [e2]
  unfold settled settledP edited seenAt
  simp only
  rw [e1]
  rfl

/-! ### fold, unfold, goto -/
def wellP (x y : Fold) : Bool := !decide (x = y) && (decide (x.2 ≤ y.1) || decide (y.2 ≤ x.1) || (decide (y.1 ≤ x.1) && decide (x.2 ≤ y.2)) || (decide (x.1 ≤ y.1) && decide (y.2 ≤ x.2)))
theorem wells_is (l : List Fold) (a b : Nat) : (l.contains (a, b) || l.any fun f => !nests f (a, b)) = !(l.all fun f => wellP (a, b) f) := by
  induction l with
  | nil => rfl
  | cons f l ih =>
    rw [List.contains_cons, List.any_cons, List.all_cons, Bool.not_and, ← ih]
    have e : (((a, b) == f) || !nests f (a, b)) = !wellP (a, b) f := by
      unfold wellP nests
      rw [Bool.eq_iff_iff]
      simp only [Bool.or_eq_true, Bool.not_eq_true', Bool.and_eq_false_iff, Bool.or_eq_false_iff, decide_eq_false_iff_not, beq_iff_eq, Bool.not_eq_false', decide_eq_true_eq]
      constructor
      · rintro (h | h)
        · exact .inl h
        · right
          omega
      · rintro (h | h)
        · exact .inl h
        · right
          omega
    rw [← e]
    generalize ((a, b) == f) = u
    generalize (!nests f (a, b)) = v
    generalize l.contains (a, b) = x
    generalize (l.any fun f => !nests f (a, b)) = y
    cases u <;> cases v <;> cases x <;> cases y <;> rfl
theorem step_fold_no {g : St} {a b : Nat} (h : ¬ (a + 2 ≤ b ∧ b ≤ g.lines.length)) : Ue07.step g (.fold a b) = (g, [-1]) := by
  show (if b < a + 2 ∨ g.lines.length < b then _ else _) = _
  rw [if_pos (by omega)]
theorem step_fold_unfit {g : St} {a b : Nat} (h : a + 2 ≤ b ∧ b ≤ g.lines.length) (q : (g.folds.all fun f => wellP (a, b) f) = false) : Ue07.step g (.fold a b) = (g, [-4]) := by
  show (if b < a + 2 ∨ g.lines.length < b then _ else if (g.folds.contains (a, b) || g.folds.any fun f => !nests f (a, b)) = true then _ else _) = _
  rw [if_neg (by omega), wells_is, q, if_pos (by decide)]
theorem step_fold_many {g : St} {a b : Nat} (h : a + 2 ≤ b ∧ b ≤ g.lines.length) (q : (g.folds.all fun f => wellP (a, b) f) = true) (hm : ¬ g.folds.length < 12) : Ue07.step g (.fold a b) = (g, [-5]) := by
  show (if b < a + 2 ∨ g.lines.length < b then _ else if (g.folds.contains (a, b) || g.folds.any fun f => !nests f (a, b)) = true then _ else if 12 ≤ g.folds.length then _ else _) = _
  rw [if_neg (by omega), wells_is, q, if_neg (by decide), if_pos (by omega)]
def folded (g : St) (a b : Nat) : St := { g with folds := g.folds ++ [(a, b)] }
theorem fold_text {g : St} {a b : Nat} (G : Good g) (h : a + 2 ≤ b ∧ b ≤ g.lines.length) (hm : g.folds.length < 12) : Text (folded g a b) ∧ (folded g a b).line < (folded g a b).lines.length := by
  refine ⟨⟨G.text.wide, G.text.tab, G.text.len, G.text.some, G.text.many, ⟨?_, fun f hf => ?_⟩, G.text.high⟩, G.pt.line⟩
  · show (g.folds ++ [(a, b)]).length ≤ 12
    rw [List.length_append]
    exact hm
  · have hf' : f ∈ g.folds ++ [(a, b)] := hf
    rcases List.mem_append.mp hf' with z | z
    · exact G.text.folds.2 f z
    · rw [List.mem_singleton.mp z]
      show a ≤ b
      omega
theorem step_fold {g : St} {a b : Nat} (G : Good g) (h : a + 2 ≤ b ∧ b ≤ g.lines.length) (q : (g.folds.all fun f => wellP (a, b) f) = true) (hm : g.folds.length < 12) : Ue07.step g (.fold a b) = answers (settledP (folded g a b)) := by
  show (if b < a + 2 ∨ g.lines.length < b then _ else if (g.folds.contains (a, b) || g.folds.any fun f => !nests f (a, b)) = true then _ else if 12 ≤ g.folds.length then _ else answers (settled { g with folds := g.folds ++ [(a, b)], wish := none })) = _
  rw [if_neg (by omega), wells_is, q, if_neg (by decide), if_neg (by omega)]
  refine congrArg answers ?_
  have e : min g.line (g.lines.length - 1) = g.line := by
    have := G.pt.line
    omega
  unfold settled settledP folded seenAt
  simp only
  rw [e]
  rfl
def hasP (f : Fold) (n : Nat) : Bool := decide (f.1 ≤ n) && decide (n < f.2)
def unfolded (g : St) (n : Nat) : St := { g with folds := g.folds.filter fun f => !hasP f n }
theorem step_unfold_no {g : St} {n : Nat} (h : ¬ n < g.lines.length) : Ue07.step g (.unfold_ n) = (g, [-1]) := by
  show (if g.lines.length ≤ n then _ else _) = _
  rw [if_pos (by omega)]
theorem step_unfold_none {g : St} {n : Nat} (h : n < g.lines.length) (q : ¬ (g.folds.filter fun f => !hasP f n).length < g.folds.length) : Ue07.step g (.unfold_ n) = (g, [-6]) := by
  show (if g.lines.length ≤ n then _ else if (g.folds.filter fun f => !hasP f n).length = g.folds.length then _ else _) = _
  have := List.length_filter_le (fun f => !hasP f n) g.folds
  rw [if_neg (by omega), if_pos (by omega)]
theorem hidden_filter {l : List Fold} {p : Fold → Bool} {n : Nat} (h : hidden l n = false) : hidden (l.filter p) n = false := by
  cases q : hidden (l.filter p) n with
  | false => rfl
  | true =>
    obtain ⟨f, hf, hh⟩ := hidden_iff.mp q
    rw [hidden_of (List.mem_filter.mp hf).1 hh] at h
    cases h
theorem unfold_text {g : St} {n : Nat} (G : Good g) : Text (unfolded g n) ∧ Pt (unfolded g n) :=
  ⟨⟨G.text.wide, G.text.tab, G.text.len, G.text.some, G.text.many, ⟨Nat.le_trans (List.length_filter_le _ _) G.text.folds.1, fun f hf => G.text.folds.2 f (List.mem_filter.mp hf).1⟩, G.text.high⟩, ⟨G.pt.line, hidden_filter G.pt.seen, G.pt.place⟩⟩
theorem step_unfold {g : St} {n : Nat} (G : Good g) (h : n < g.lines.length) (q : (g.folds.filter fun f => !hasP f n).length < g.folds.length) : Ue07.step g (.unfold_ n) = answers (settledP (unfolded g n)) := by
  show (if g.lines.length ≤ n then _ else if (g.folds.filter fun f => !hasP f n).length = g.folds.length then _ else answers (scrolled { g with folds := g.folds.filter fun f => !hasP f n, wish := none })) = _
  rw [if_neg (by omega), if_neg (by omega), settledP_of (unfold_text G).2]
  rfl
theorem step_goto_no {g : St} {n p : Nat} (h : ¬ (n < g.lines.length ∧ p ≤ (lineAt g n).length)) : Ue07.step g (.goto n p) = (g, [-1]) := by
  show (if g.lines.length ≤ n ∨ (lineAt g n).length < p then _ else _) = _
  rw [if_pos (by omega)]
def gone (g : St) (n p : Nat) : St := { g with folds := g.folds.filter fun f => !hides f n, line := n, place := p }
theorem goto_text {g : St} {n p : Nat} (G : Good g) (h : n < g.lines.length ∧ p ≤ (lineAt g n).length) : Text (gone g n p) ∧ Pt (gone g n p) := by
  refine ⟨⟨G.text.wide, G.text.tab, G.text.len, G.text.some, G.text.many, ⟨Nat.le_trans (List.length_filter_le _ _) G.text.folds.1, fun f hf => G.text.folds.2 f (List.mem_filter.mp hf).1⟩, G.text.high⟩, ⟨h.1, ?_, h.2⟩⟩
  show hidden (g.folds.filter fun f => !hides f n) n = false
  cases q : hidden (g.folds.filter fun f => !hides f n) n with
  | false => rfl
  | true =>
    obtain ⟨f, hf, hh⟩ := hidden_iff.mp q
    have := (List.mem_filter.mp hf).2
    rw [hh] at this
    cases this
theorem step_goto {g : St} {n p : Nat} (G : Good g) (h : n < g.lines.length ∧ p ≤ (lineAt g n).length) : Ue07.step g (.goto n p) = answers (settledP (gone g n p)) := by
  show (if g.lines.length ≤ n ∨ (lineAt g n).length < p then _ else answers (moves { g with folds := g.folds.filter fun f => !hides f n } n p none)) = _
  rw [if_neg (by omega), settledP_of (goto_text G h).2]
  rfl

/-! ### up, down: the point into a row -/
def putTo (g : St) (x : Nat × Row) : St := { g with line := x.1, place := placeIn g.look (lineAt g x.1) x.2 (g.wish.getD (pointCol g)), wish := some (g.wish.getD (pointCol g)) }
theorem toRow_is {g : St} {i : Nat} {x : Nat × Row} (h : (allRows g)[i]? = some x) : toRow g i = scrolled (putTo g x) := by
  unfold toRow
  simp only
  rw [h]
  rfl
theorem put_text {g : St} {i : Nat} {x : Nat × Row} (t : Text g) (h : (allRows g)[i]? = some x) : Text (putTo g x) ∧ Pt (putTo g x) ∧ pointRow (putTo g x) = i ∧ rowCount (putTo g x) = rowCount g := by
  obtain ⟨h1, h2, h3, h4⟩ := put_row (want := g.wish.getD (pointCol g)) h
  exact ⟨⟨t.wide, t.tab, t.len, t.some, t.many, t.folds, t.high⟩, ⟨h1, h2, h3⟩, h4, rfl⟩
theorem step_up_no {g : St} {k : Nat} (h : ¬ k ≤ 100) : Ue07.step g (.up k) = (g, [-1]) := if_pos (by omega)
theorem step_down_no {g : St} {k : Nat} (h : ¬ k ≤ 100) : Ue07.step g (.down k) = (g, [-1]) := if_pos (by omega)
theorem step_up {g : St} {k : Nat} {x : Nat × Row} (h : k ≤ 100) (hx : (allRows g)[pointRow g - k]? = some x) : Ue07.step g (.up k) = answers (scrolled (putTo g x)) := by
  show (if 100 < k then _ else answers (toRow g (pointRow g - k))) = _
  rw [if_neg (by omega), toRow_is hx]
theorem step_down {g : St} {k : Nat} {x : Nat × Row} (h : k ≤ 100) (hx : (allRows g)[min (pointRow g + k) (rowCount g - 1)]? = some x) : Ue07.step g (.down k) = answers (scrolled (putTo g x)) := by
  show (if 100 < k then _ else answers (toRow g (min (pointRow g + k) (rowCount g - 1)))) = _
  rw [if_neg (by omega), toRow_is hx]
theorem row_get {g : St} {i : Nat} (h : i < rowCount g) : ∃ x, (allRows g)[i]? = some x := ⟨_, List.getElem?_eq_getElem h⟩

/-! ### left, right -/
theorem left_text {g : St} (t : Text g) (p : Pt g) : Text (oneLeft g) ∧ Pt (oneLeft g) := by
  unfold oneLeft
  by_cases h : 0 < g.place
  · rw [if_pos h]
    have := p.place
    exact ⟨⟨t.wide, t.tab, t.len, t.some, t.many, t.folds, t.high⟩, ⟨p.line, p.seen, by show g.place - 1 ≤ (lineAt g g.line).length; omega⟩⟩
  · rw [if_neg h]
    cases e : ((seen g.folds g.lines.length).filter fun i => decide (i < g.line)).getLast? with
    | none => exact ⟨t, p⟩
    | some n =>
      have hn := List.mem_filter.mp (List.mem_filter.mp (List.mem_of_getLast? e)).1
      refine ⟨⟨t.wide, t.tab, t.len, t.some, t.many, t.folds, t.high⟩, ⟨List.mem_range.mp hn.1, ?_, Nat.le_refl _⟩⟩
      have := hn.2
      show hidden g.folds n = false
      cases q : hidden g.folds n with
      | false => rfl
      | true =>
        rw [q] at this
        cases this
theorem right_text {g : St} (t : Text g) (p : Pt g) : Text (oneRight g) ∧ Pt (oneRight g) := by
  unfold oneRight
  by_cases h : g.place < (lineAt g g.line).length
  · rw [if_pos h]
    exact ⟨⟨t.wide, t.tab, t.len, t.some, t.many, t.folds, t.high⟩, ⟨p.line, p.seen, by show g.place + 1 ≤ (lineAt g g.line).length; omega⟩⟩
  · rw [if_neg h]
    cases e : (seen g.folds g.lines.length).find? fun i => decide (g.line < i) with
    | none => exact ⟨t, p⟩
    | some n =>
      have hn := List.mem_filter.mp (List.mem_of_find?_eq_some e)
      refine ⟨⟨t.wide, t.tab, t.len, t.some, t.many, t.folds, t.high⟩, ⟨List.mem_range.mp hn.1, ?_, Nat.zero_le _⟩⟩
      have := hn.2
      show hidden g.folds n = false
      cases q : hidden g.folds n with
      | false => rfl
      | true =>
        rw [q] at this
        cases this
theorem several_more (f : St → St) (k : Nat) (g : St) : several f (k + 1) g = f (several f k g) := by
  unfold several
  rw [List.range_succ, List.foldl_append]
  rfl
theorem several_text {f : St → St} (hf : ∀ g, Text g → Pt g → Text (f g) ∧ Pt (f g)) {g : St} (t : Text g) (p : Pt g) : ∀ k, Text (several f k g) ∧ Pt (several f k g)
  | 0 => ⟨t, p⟩
  | k + 1 => by
    rw [several_more]
    obtain ⟨h1, h2⟩ := several_text hf t p k
    exact hf _ h1 h2
theorem step_left_no {g : St} {k : Nat} (h : ¬ k ≤ 100) : Ue07.step g (.left k) = (g, [-1]) := if_pos (by omega)
theorem step_right_no {g : St} {k : Nat} (h : ¬ k ≤ 100) : Ue07.step g (.right k) = (g, [-1]) := if_pos (by omega)
theorem step_left {g : St} {k : Nat} (G : Good g) (h : k ≤ 100) : Ue07.step g (.left k) = answers (settledP (several oneLeft k g)) := by
  show (if 100 < k then _ else answers (scrolled { several oneLeft k g with wish := none })) = _
  rw [if_neg (by omega), settledP_of (several_text (fun _ => left_text) G.text G.pt k).2]
theorem step_right {g : St} {k : Nat} (G : Good g) (h : k ≤ 100) : Ue07.step g (.right k) = answers (settledP (several oneRight k g)) := by
  show (if 100 < k then _ else answers (scrolled { several oneRight k g with wish := none })) = _
  rw [if_neg (by omega), settledP_of (several_text (fun _ => right_text) G.text G.pt k).2]
/-- the program's lists of seen lines -/
theorem seen_ahead {l : List Fold} {n m : Nat} (h : n ≤ m) : (seen l m).filter (fun i => decide (i < n)) = (List.range n).filter fun i => !hidden l i := seen_below h
theorem seen_behind {l : List Fold} {n m : Nat} (h : n < m) : (seen l m).find? (fun i => decide (n < i)) = (((List.range (m - (n + 1))).map fun i => n + 1 + i).filter fun i => !hidden l i).head? := by
  have e : List.range m = List.range (n + 1) ++ (List.range (m - (n + 1))).map fun i => n + 1 + i := by
    have : m = (n + 1) + (m - (n + 1)) := by omega
    conv => lhs; rw [this]
    exact List.range_add
  unfold seen
  rw [e, List.filter_append, List.find?_append]
  have e1 : ((List.range (n + 1)).filter fun i => !hidden l i).find? (fun i => decide (n < i)) = none := by
    refine List.find?_eq_none.mpr fun x hx => ?_
    have := List.mem_range.mp (List.mem_filter.mp hx).1
    simp
    omega
  rw [e1, Option.none_or]
  generalize hL : ((List.range (m - (n + 1))).map fun i => n + 1 + i).filter (fun i => !hidden l i) = L
  have hall : ∀ x ∈ L, n < x := fun x hx => by
    rw [← hL] at hx
    obtain ⟨i, _, ei⟩ := List.mem_map.mp (List.mem_filter.mp hx).1
    omega
  cases L with
  | nil => rfl
  | cons x L =>
    rw [List.find?_cons_of_pos (by simp [hall x List.mem_cons_self])]
    rfl

/-! ### scroll -/
def scrollTop (g : St) (back : Bool) (k : Nat) : Nat := if back = true then g.top - k else min (g.top + k) (rowCount g - g.high)
def marginOf (g : St) : Nat := min g.margin ((g.high - 1) / 2)
def firstFree (g : St) : Nat := if g.top = 0 then 0 else g.top + marginOf g
def lastFree (g : St) : Nat := if rowCount g ≤ g.top + g.high then rowCount g - 1 else g.top + g.high - 1 - marginOf g
def withTop (g : St) (t : Nat) : St := { g with top := t }
theorem step_scroll_no {g : St} {b : Bool} {k : Nat} (h : ¬ k ≤ 100) : Ue07.step g (.scroll b k) = (g, [-1]) := if_pos (by omega)
theorem scroll_arm (g : St) (back : Bool) (k : Nat) : Ue07.step g (.scroll back k) = if 100 < k then (g, [-1]) else
    if pointRow g < firstFree (withTop g (scrollTop g back k)) then answers { toRow (withTop g (scrollTop g back k)) (firstFree (withTop g (scrollTop g back k))) with top := scrollTop g back k }
    else if lastFree (withTop g (scrollTop g back k)) < pointRow g then answers { toRow (withTop g (scrollTop g back k)) (lastFree (withTop g (scrollTop g back k))) with top := scrollTop g back k }
    else answers (withTop g (scrollTop g back k)) := rfl
theorem step_scroll_up {g : St} {b : Bool} {k : Nat} {x : Nat × Row} (h : k ≤ 100) (c : pointRow g < firstFree (withTop g (scrollTop g b k))) (hx : (allRows g)[firstFree (withTop g (scrollTop g b k))]? = some x) :
    Ue07.step g (.scroll b k) = answers (putTo (withTop g (scrollTop g b k)) x) := by
  rw [scroll_arm, if_neg (by omega), if_pos c, toRow_is (g := withTop g (scrollTop g b k)) hx]
  rfl
theorem step_scroll_down {g : St} {b : Bool} {k : Nat} {x : Nat × Row} (h : k ≤ 100) (c : ¬ pointRow g < firstFree (withTop g (scrollTop g b k))) (c2 : lastFree (withTop g (scrollTop g b k)) < pointRow g)
    (hx : (allRows g)[lastFree (withTop g (scrollTop g b k))]? = some x) : Ue07.step g (.scroll b k) = answers (putTo (withTop g (scrollTop g b k)) x) := by
  rw [scroll_arm, if_neg (by omega), if_neg c, if_pos c2, toRow_is (g := withTop g (scrollTop g b k)) hx]
  rfl
theorem step_scroll_stay {g : St} {b : Bool} {k : Nat} (h : k ≤ 100) (c : ¬ pointRow g < firstFree (withTop g (scrollTop g b k))) (c2 : ¬ lastFree (withTop g (scrollTop g b k)) < pointRow g) :
    Ue07.step g (.scroll b k) = answers (withTop g (scrollTop g b k)) := by
  rw [scroll_arm, if_neg (by omega), if_neg c, if_neg c2]
theorem scrollTop_le {g : St} (G : Good g) (b : Bool) (k : Nat) : scrollTop g b k ≤ rowCount g - g.high := by
  have := G.top
  unfold scrollTop
  split <;> omega
theorem firstFree_lt {g : St} {t : Nat} (hh : 1 ≤ g.high) (hn : 0 < rowCount g) (ht : t ≤ rowCount g - g.high) : firstFree (withTop g t) < rowCount g ∧ t ≤ firstFree (withTop g t) := by
  show (if t = 0 then 0 else t + min g.margin ((g.high - 1) / 2)) < rowCount g ∧ t ≤ (if t = 0 then 0 else t + min g.margin ((g.high - 1) / 2))
  split <;> omega
theorem lastFree_ge {g : St} {t : Nat} (hh : 1 ≤ g.high) (hn : 0 < rowCount g) (ht : t ≤ rowCount g - g.high) : t ≤ lastFree (withTop g t) := by
  show t ≤ (if rowCount g ≤ t + g.high then rowCount g - 1 else t + g.high - 1 - min g.margin ((g.high - 1) / 2))
  split <;> omega
theorem good_top {g : St} {t : Nat} (tx : Text g) (p : Pt g) (h1 : t ≤ rowCount g - g.high) (h2 : t ≤ pointRow g) : Good (withTop g t) :=
  ⟨⟨tx.wide, tx.tab, tx.len, tx.some, tx.many, tx.folds, tx.high⟩, ⟨p.line, p.seen, p.place⟩, h1, h2⟩
theorem good_put_top {g : St} {t i : Nat} {x : Nat × Row} (tx : Text g) (hx : (allRows g)[i]? = some x) (h1 : t ≤ rowCount g - g.high) (h2 : t ≤ i) : Good (putTo (withTop g t) x) := by
  obtain ⟨a, b, c, d⟩ := put_text (g := withTop g t) ⟨tx.wide, tx.tab, tx.len, tx.some, tx.many, tx.folds, tx.high⟩ hx
  refine ⟨a, b, h1, ?_⟩
  rw [c]
  exact h2

/-! ### a step keeps what is good -/
theorem Good.count {g : St} (G : Good g) : 0 < rowCount g := by
  have := pointRow_lt G.pt.line G.pt.seen
  omega
theorem good_step {g : St} (G : Good g) (c : Call) : Good (Ue07.step g c).1 := by
  have hp := pointRow_lt G.pt.line G.pt.seen
  cases c with
  | look k =>
    cases h : lookOkN k.wide k.tab k.more with
    | false => rw [step_look_no h]; exact G
    | true => rw [step_look G h]; exact good_settledP (look_text G h).1 (look_text G h).2.line
  | window h m =>
    cases q : windowOk h m with
    | false => rw [step_window_no q]; exact G
    | true => rw [step_window q]; exact good_scrolled (window_text G q).1 (window_text G q).2
  | text l =>
    cases q : textOk l with
    | false => rw [step_text_no q]; exact G
    | true => rw [step_text G q]; exact good_settledP (text_text G q).1 (text_text G q).2.line
  | edit a b l =>
    cases q : editOk g a b l with
    | false => rw [step_edit_no q]; exact G
    | true =>
      by_cases h : 0 < editLen g a b l ∧ editLen g a b l ≤ 30
      · rw [step_edit G q h]; exact good_settledP (edit_text G q h).1 (edit_text G q h).2
      · rw [step_edit_many q h]; exact G
  | fold a b =>
    by_cases h : a + 2 ≤ b ∧ b ≤ g.lines.length
    · cases q : (g.folds.all fun f => wellP (a, b) f) with
      | false => rw [step_fold_unfit h q]; exact G
      | true =>
        by_cases hm : g.folds.length < 12
        · rw [step_fold G h q hm]; exact good_settledP (fold_text G h hm).1 (fold_text G h hm).2
        · rw [step_fold_many h q hm]; exact G
    · rw [step_fold_no h]; exact G
  | unfold_ n =>
    by_cases h : n < g.lines.length
    · by_cases q : (g.folds.filter fun f => !hasP f n).length < g.folds.length
      · rw [step_unfold G h q]; exact good_settledP (unfold_text G).1 (unfold_text (n := n) G).2.line
      · rw [step_unfold_none h q]; exact G
    · rw [step_unfold_no h]; exact G
  | goto n p =>
    by_cases h : n < g.lines.length ∧ p ≤ (lineAt g n).length
    · rw [step_goto G h]; exact good_settledP (goto_text G h).1 (goto_text G h).2.line
    · rw [step_goto_no h]; exact G
  | up k =>
    by_cases h : k ≤ 100
    · obtain ⟨x, hx⟩ := row_get (g := g) (i := pointRow g - k) (by omega)
      rw [step_up h hx]
      exact good_scrolled (put_text G.text hx).1 (put_text G.text hx).2.1
    · rw [step_up_no h]; exact G
  | down k =>
    by_cases h : k ≤ 100
    · obtain ⟨x, hx⟩ := row_get (g := g) (i := min (pointRow g + k) (rowCount g - 1)) (by omega)
      rw [step_down h hx]
      exact good_scrolled (put_text G.text hx).1 (put_text G.text hx).2.1
    · rw [step_down_no h]; exact G
  | left k =>
    by_cases h : k ≤ 100
    · rw [step_left G h]
      have q := several_text (fun _ => left_text) G.text G.pt k
      exact good_settledP q.1 q.2.line
    · rw [step_left_no h]; exact G
  | right k =>
    by_cases h : k ≤ 100
    · rw [step_right G h]
      have q := several_text (fun _ => right_text) G.text G.pt k
      exact good_settledP q.1 q.2.line
    · rw [step_right_no h]; exact G
  | scroll b k =>
    by_cases h : k ≤ 100
    · have ht := scrollTop_le G b k
      have f1 := firstFree_lt (g := g) G.text.high G.count ht
      have f2 := lastFree_ge (g := g) G.text.high G.count ht
      by_cases c : pointRow g < firstFree (withTop g (scrollTop g b k))
      · obtain ⟨x, hx⟩ := row_get (g := g) f1.1
        rw [step_scroll_up h c hx]
        exact good_put_top G.text hx ht f1.2
      · by_cases c2 : lastFree (withTop g (scrollTop g b k)) < pointRow g
        · obtain ⟨x, hx⟩ := row_get (g := g) (i := lastFree (withTop g (scrollTop g b k))) (by omega)
          rw [step_scroll_down h c c2 hx]
          exact good_put_top G.text hx ht f2
        · rw [step_scroll_stay h c c2]
          exact good_top G.text G.pt ht (by omega)
    · rw [step_scroll_no h]; exact G
  | point => exact G
  | shows => exact G
  | rows n => exact G
  | at_ r c => exact G
  | where_ n p => exact G

/-! ### what is asked -/
theorem point_answer {g : St} (h : g.top ≤ pointRow g) : pointAnswer g = [(g.line : Int), (g.place : Int), (pointRow g : Int) - (g.top : Int), (pointCol g : Int)] := by
  show [((g.line : Nat) : Int), ((g.place : Nat) : Int), ((pointRow g - g.top : Nat) : Int), ((pointCol g : Nat) : Int)] = _
  rw [Int.ofNat_sub h]
end Fv
/-! Plain Lean: a call from its numbers. -/
namespace Fv
theorem bit_some {n : Nat} {b : Bool} (h : Ue07Neutral.bit n = some b) : n = b.toNat := by
  unfold Ue07Neutral.bit at h
  by_cases h0 : n = 0
  · rw [if_pos h0] at h
    cases h
    exact h0
  · rw [if_neg h0] at h
    by_cases h1 : n = 1
    · rw [if_pos h1] at h
      cases h
      exact h1
    · rw [if_neg h1] at h
      cases h
theorem in_look {x0 x1 x2 x3 x4 : Nat} {call : Ue07.Call} (e : Ue07Neutral.callIn [0, x0, x1, x2, x3, x4] = some call) : ∃ (y0 y1 y2 : Nat) (b3 b4 : Bool), [x0, x1, x2, x3, x4] = [y0, y1, y2, b3.toNat, b4.toNat] ∧ call = .look ⟨y0, y1, y2, b3, b4⟩ := by
  have e2 : (Ue07Neutral.bit x3).bind (fun h => (Ue07Neutral.bit x4).map fun x => Ue07.Call.look ⟨x0, x1, x2, h, x⟩) = some call := e
  cases h3 : Ue07Neutral.bit x3 with
  | none =>
    rw [h3] at e2
    cases e2
  | some b3 =>
    cases h4 : Ue07Neutral.bit x4 with
    | none =>
      rw [h3, h4] at e2
      cases e2
    | some b4 =>
      rw [h3, h4] at e2
      rw [bit_some h3, bit_some h4]
      exact ⟨x0, x1, x2, b3, b4, rfl, (Option.some.inj e2).symm⟩
theorem in_scroll {x0 x1 : Nat} {call : Ue07.Call} (e : Ue07Neutral.callIn [11, x0, x1] = some call) : ∃ (b0 : Bool) (y1 : Nat), [x0, x1] = [b0.toNat, y1] ∧ call = .scroll b0 y1 := by
  have e2 : (Ue07Neutral.bit x0).map (fun b => Ue07.Call.scroll b x1) = some call := e
  cases h : Ue07Neutral.bit x0 with
  | none =>
    rw [h] at e2
    cases e2
  | some b =>
    rw [h] at e2
    rw [bit_some h]
    exact ⟨b, x1, rfl, (Option.some.inj e2).symm⟩
theorem in_0 : ∀ {w : List Nat} {call : Ue07.Call}, Ue07Neutral.callIn (0 :: w) = some call → ∃ (x0 x1 x2 : Nat) (b3 b4 : Bool), w = [x0, x1, x2, b3.toNat, b4.toNat] ∧ call = .look ⟨x0, x1, x2, b3, b4⟩
  | [], _ => fun e => nomatch e
  | [_], _ => fun e => nomatch e
  | [_, _], _ => fun e => nomatch e
  | [_, _, _], _ => fun e => nomatch e
  | [_, _, _, _], _ => fun e => nomatch e
  | [x0, x1, x2, x3, x4], _ => fun e => in_look e
  | _ :: _ :: _ :: _ :: _ :: _ :: _, _ => fun e => nomatch e
theorem in_1 : ∀ {w : List Nat} {call : Ue07.Call}, Ue07Neutral.callIn (1 :: w) = some call → ∃ x0 x1 : Nat, w = [x0, x1] ∧ call = .window x0 x1
  | [], _ => fun e => nomatch e
  | [_], _ => fun e => nomatch e
  | [x0, x1], _ => fun e => ⟨x0, x1, rfl, (Option.some.inj e).symm⟩
  | _ :: _ :: _ :: _, _ => fun e => nomatch e
theorem in_4 : ∀ {w : List Nat} {call : Ue07.Call}, Ue07Neutral.callIn (4 :: w) = some call → ∃ x0 x1 : Nat, w = [x0, x1] ∧ call = .fold x0 x1
  | [], _ => fun e => nomatch e
  | [_], _ => fun e => nomatch e
  | [x0, x1], _ => fun e => ⟨x0, x1, rfl, (Option.some.inj e).symm⟩
  | _ :: _ :: _ :: _, _ => fun e => nomatch e
theorem in_5 : ∀ {w : List Nat} {call : Ue07.Call}, Ue07Neutral.callIn (5 :: w) = some call → ∃ x0 : Nat, w = [x0] ∧ call = .unfold_ x0
  | [], _ => fun e => nomatch e
  | [x0], _ => fun e => ⟨x0, rfl, (Option.some.inj e).symm⟩
  | _ :: _ :: _, _ => fun e => nomatch e
theorem in_6 : ∀ {w : List Nat} {call : Ue07.Call}, Ue07Neutral.callIn (6 :: w) = some call → ∃ x0 x1 : Nat, w = [x0, x1] ∧ call = .goto x0 x1
  | [], _ => fun e => nomatch e
  | [_], _ => fun e => nomatch e
  | [x0, x1], _ => fun e => ⟨x0, x1, rfl, (Option.some.inj e).symm⟩
  | _ :: _ :: _ :: _, _ => fun e => nomatch e
theorem in_7 : ∀ {w : List Nat} {call : Ue07.Call}, Ue07Neutral.callIn (7 :: w) = some call → ∃ x0 : Nat, w = [x0] ∧ call = .up x0
  | [], _ => fun e => nomatch e
  | [x0], _ => fun e => ⟨x0, rfl, (Option.some.inj e).symm⟩
  | _ :: _ :: _, _ => fun e => nomatch e
theorem in_8 : ∀ {w : List Nat} {call : Ue07.Call}, Ue07Neutral.callIn (8 :: w) = some call → ∃ x0 : Nat, w = [x0] ∧ call = .down x0
  | [], _ => fun e => nomatch e
  | [x0], _ => fun e => ⟨x0, rfl, (Option.some.inj e).symm⟩
  | _ :: _ :: _, _ => fun e => nomatch e
theorem in_9 : ∀ {w : List Nat} {call : Ue07.Call}, Ue07Neutral.callIn (9 :: w) = some call → ∃ x0 : Nat, w = [x0] ∧ call = .left x0
  | [], _ => fun e => nomatch e
  | [x0], _ => fun e => ⟨x0, rfl, (Option.some.inj e).symm⟩
  | _ :: _ :: _, _ => fun e => nomatch e
theorem in_10 : ∀ {w : List Nat} {call : Ue07.Call}, Ue07Neutral.callIn (10 :: w) = some call → ∃ x0 : Nat, w = [x0] ∧ call = .right x0
  | [], _ => fun e => nomatch e
  | [x0], _ => fun e => ⟨x0, rfl, (Option.some.inj e).symm⟩
  | _ :: _ :: _, _ => fun e => nomatch e
theorem in_11 : ∀ {w : List Nat} {call : Ue07.Call}, Ue07Neutral.callIn (11 :: w) = some call → ∃ (b0 : Bool) (x1 : Nat), w = [b0.toNat, x1] ∧ call = .scroll b0 x1
  | [], _ => fun e => nomatch e
  | [_], _ => fun e => nomatch e
  | [x0, x1], _ => fun e => in_scroll e
  | _ :: _ :: _ :: _, _ => fun e => nomatch e
theorem in_12 : ∀ {w : List Nat} {call : Ue07.Call}, Ue07Neutral.callIn (12 :: w) = some call → w = [] ∧ call = .point
  | [], _ => fun e => ⟨rfl, (Option.some.inj e).symm⟩
  | _ :: _, _ => fun e => nomatch e
theorem in_13 : ∀ {w : List Nat} {call : Ue07.Call}, Ue07Neutral.callIn (13 :: w) = some call → w = [] ∧ call = .shows
  | [], _ => fun e => ⟨rfl, (Option.some.inj e).symm⟩
  | _ :: _, _ => fun e => nomatch e
theorem in_14 : ∀ {w : List Nat} {call : Ue07.Call}, Ue07Neutral.callIn (14 :: w) = some call → ∃ x0 : Nat, w = [x0] ∧ call = .rows x0
  | [], _ => fun e => nomatch e
  | [x0], _ => fun e => ⟨x0, rfl, (Option.some.inj e).symm⟩
  | _ :: _ :: _, _ => fun e => nomatch e
theorem in_15 : ∀ {w : List Nat} {call : Ue07.Call}, Ue07Neutral.callIn (15 :: w) = some call → ∃ x0 x1 : Nat, w = [x0, x1] ∧ call = .at_ x0 x1
  | [], _ => fun e => nomatch e
  | [_], _ => fun e => nomatch e
  | [x0, x1], _ => fun e => ⟨x0, x1, rfl, (Option.some.inj e).symm⟩
  | _ :: _ :: _ :: _, _ => fun e => nomatch e
theorem in_16 : ∀ {w : List Nat} {call : Ue07.Call}, Ue07Neutral.callIn (16 :: w) = some call → ∃ x0 x1 : Nat, w = [x0, x1] ∧ call = .where_ x0 x1
  | [], _ => fun e => nomatch e
  | [_], _ => fun e => nomatch e
  | [x0, x1], _ => fun e => ⟨x0, x1, rfl, (Option.some.inj e).symm⟩
  | _ :: _ :: _ :: _, _ => fun e => nomatch e
theorem in_2 {w : List Nat} {call : Ue07.Call} (e : Ue07Neutral.callIn (2 :: w) = some call) : ∃ ls, Ue07Neutral.linesIn (w.length + 1) w = some ls ∧ call = .text ls := by
  have e2 : (Ue07Neutral.linesIn (w.length + 1) w).map Ue07.Call.text = some call := e
  cases h : Ue07Neutral.linesIn (w.length + 1) w with
  | none =>
    rw [h] at e2
    cases e2
  | some ls =>
    rw [h] at e2
    exact ⟨ls, rfl, (Option.some.inj e2).symm⟩
theorem in_3 : ∀ {w : List Nat} {call : Ue07.Call}, Ue07Neutral.callIn (3 :: w) = some call → ∃ (a b : Nat) (r : List Nat) (ls : List (List Nat)), w = a :: b :: r ∧ Ue07Neutral.linesIn (r.length + 1) r = some ls ∧ call = .edit a b ls
  | [], _ => fun e => nomatch e
  | [_], _ => fun e => nomatch e
  | a :: b :: r, call => fun e => by
    have e2 : (Ue07Neutral.linesIn (r.length + 1) r).map (fun x => Ue07.Call.edit a b x) = some call := e
    cases h : Ue07Neutral.linesIn (r.length + 1) r with
    | none =>
      rw [h] at e2
      cases e2
    | some ls =>
      rw [h] at e2
      exact ⟨a, b, r, ls, rfl, h, (Option.some.inj e2).symm⟩
theorem in_nil {call : Ue07.Call} : ¬ Ue07Neutral.callIn [] = some call := fun e => nomatch e
theorem in_le {k : Nat} {w : List Nat} {call : Ue07.Call} (e : Ue07Neutral.callIn (k :: w) = some call) : k ≤ 16 := by
  unfold Ue07Neutral.callIn at e
  split at e <;> rename_i h <;> first | (injection h with h1 h2; omega) | cases e
theorem in_lines : ∀ {f : Nat} {w : List Nat} {ls : List (List Nat)}, Ue07Neutral.linesIn f w = some ls → ls.length ≤ w.length ∧ ∀ x ∈ ls, x.length ≤ w.length
  | f, [], ls, e => by
    have e2 : some [] = some ls := by cases f <;> exact e
    cases e2
    exact ⟨Nat.le_refl _, fun x hx => nomatch hx⟩
  | 0, n :: l, ls, e => nomatch e
  | f + 1, n :: l, ls, e => by
    have e2 : (if l.length < n then none else (Ue07Neutral.linesIn f (l.drop n)).map fun y => l.take n :: y) = some ls := e
    by_cases h : l.length < n
    · rw [if_pos h] at e2
      cases e2
    · rw [if_neg h] at e2
      cases h2 : Ue07Neutral.linesIn f (l.drop n) with
      | none =>
        rw [h2] at e2
        cases e2
      | some y =>
        rw [h2] at e2
        have e3 : l.take n :: y = ls := Option.some.inj e2
        obtain ⟨i1, i2⟩ := in_lines h2
        rw [List.length_drop] at i1 i2
        rw [← e3, List.length_cons, List.length_cons]
        refine ⟨by omega, fun x hx => ?_⟩
        rcases List.mem_cons.mp hx with z | z
        · rw [z, List.length_take]
          omega
        · have := i2 x z
          omega
/-- the program's loop over lines -/
theorem lines_turn {f b : Nat} {l : List Nat} {ls : List (List Nat)} (e : Ue07Neutral.linesIn f (b :: l) = some ls) : ∃ f' r, b ≤ l.length ∧ Ue07Neutral.linesIn f' (l.drop b) = some r ∧ ls = l.take b :: r := by
  cases f with
  | zero => exact nomatch e
  | succ f =>
    have e2 : (if l.length < b then none else (Ue07Neutral.linesIn f (l.drop b)).map fun y => l.take b :: y) = some ls := e
    by_cases h : l.length < b
    · rw [if_pos h] at e2
      cases e2
    · rw [if_neg h] at e2
      cases h2 : Ue07Neutral.linesIn f (l.drop b) with
      | none =>
        rw [h2] at e2
        cases e2
      | some y =>
        rw [h2] at e2
        exact ⟨f, y, by omega, h2, (Option.some.inj e2).symm⟩
theorem lines_end {f : Nat} {ls : List (List Nat)} (e : Ue07Neutral.linesIn f [] = some ls) : ls = [] := by
  have e2 : some [] = some ls := by cases f <;> exact e
  exact (Option.some.inj e2).symm
end Fv
/-! Plain Lean: the list of calls, and what's answered over it. -/
namespace Fv
open Ue07 (St)
/-- calls as one list: each with 0 and its length ahead -/
def wire (cs : List (List Nat)) : List Nat := cs.flatMap fun c => 0 :: c.length :: c
def run : St → List (List Nat) → List Int
  | _, [] => []
  | g, c :: r => match Ue07Neutral.callIn c with
    | none => []
    | some x => ((Ue07.step g x).2.length : Int) :: ((Ue07.step g x).2 ++ run (Ue07.step g x).1 r)
theorem run_some {g : St} {c : List Nat} {r : List (List Nat)} {x : Ue07.Call} (h : Ue07Neutral.callIn c = some x) : run g (c :: r) = ((Ue07.step g x).2.length : Int) :: ((Ue07.step g x).2 ++ run (Ue07.step g x).1 r) := by
  show (match Ue07Neutral.callIn c with
    | none => []
    | some x => ((Ue07.step g x).2.length : Int) :: ((Ue07.step g x).2 ++ run (Ue07.step g x).1 r)) = _
  rw [h]
theorem wire_cons (c : List Nat) (r : List (List Nat)) : wire (c :: r) = 0 :: c.length :: (c ++ wire r) := rfl
theorem wire_app (u v : List (List Nat)) : wire (u ++ v) = wire u ++ wire v := List.flatMap_append ..
theorem wire_at (u : List (List Nat)) (c : List Nat) (r : List (List Nat)) : (wire (u ++ c :: r))[(wire u).length + 1]? = some c.length := by
  rw [wire_app, List.getElem?_append_right (by omega), wire_cons]
  have e : (wire u).length + 1 - (wire u).length = 1 := by omega
  rw [e]
  rfl
theorem wire_cut (u : List (List Nat)) (c : List Nat) (r : List (List Nat)) : ((wire (u ++ c :: r)).take ((wire u).length + 2 + c.length)).drop ((wire u).length + 2) = c := by
  rw [List.drop_take, Nat.add_sub_cancel_left, wire_app, wire_cons, List.drop_append]
  have e1 : List.drop ((wire u).length + 2) (wire u) = [] := List.drop_eq_nil_of_le (by omega)
  have e2 : (wire u).length + 2 - (wire u).length = 2 := by omega
  rw [e1, e2]
  show List.take c.length (c ++ wire r) = c
  rw [List.take_left]
theorem wire_more (u : List (List Nat)) (c : List Nat) : (wire (u ++ [c])).length = (wire u).length + 2 + c.length := by
  rw [wire_app, List.length_append]
  show (wire u).length + (0 :: c.length :: (c ++ [])).length = _
  rw [List.append_nil, List.length_cons, List.length_cons]
  omega
theorem wire_lt (u : List (List Nat)) (c : List Nat) (r : List (List Nat)) : (wire u).length < (wire (u ++ c :: r)).length := by
  rw [wire_app, List.length_append, wire_cons, List.length_cons]
  omega

/-! ### the list taken apart -/
def wireI (cs : List (List Int)) : List Int := cs.flatMap fun c => 0 :: (c.length : Int) :: c
theorem row_some {l x s : List Int} (h : PyFlat.row l = some (x, s)) : l = (x.length : Int) :: (x ++ s) := by
  cases l with
  | nil => cases h
  | cons n r =>
    have h2 : (if 0 ≤ n ∧ n.toNat ≤ r.length then some (r.take n.toNat, r.drop n.toNat) else none) = some (x, s) := h
    by_cases hc : 0 ≤ n ∧ n.toNat ≤ r.length
    · rw [if_pos hc] at h2
      have h3 := Option.some.inj h2
      have e1 : r.take n.toNat = x := congrArg Prod.fst h3
      have e2 : r.drop n.toNat = s := congrArg Prod.snd h3
      rw [← e1, ← e2, List.take_append_drop, List.length_take, Nat.min_eq_left hc.2, Int.toNat_of_nonneg hc.1]
    · rw [if_neg hc] at h2
      cases h2
theorem call_some {l t : List Int} {c : List (List Int)} (h : PyFlat.call PyUe07.shape l = some (c, t)) : ∃ x : List Int, c = [[0], x] ∧ l = 0 :: (x.length : Int) :: (x ++ t) := by
  cases l with
  | nil => cases h
  | cons p r =>
    by_cases hp : p = 0
    · subst hp
      have h2 : (if r.length < 0 then none else match PyFlat.rows 1 (r.drop 0) with
        | none => none
        | some (xs, t) => some ((0 :: r.take 0) :: xs, t)) = some (c, t) := h
      rw [if_neg (by omega), List.drop_zero, List.take_zero] at h2
      have e : PyFlat.rows 1 r = match PyFlat.row r with
        | none => none
        | some (x, s) => some ([x], s) := rfl
      rw [e] at h2
      cases hr : PyFlat.row r with
      | none =>
        rw [hr] at h2
        cases h2
      | some v =>
        obtain ⟨x, s⟩ := v
        rw [hr] at h2
        have h3 := Option.some.inj h2
        have e1 : [[0], x] = c := congrArg Prod.fst h3
        have e2 : s = t := congrArg Prod.snd h3
        refine ⟨x, e1.symm, ?_⟩
        rw [row_some hr, e2]
    · have hs : PyUe07.shape p = none := if_neg hp
      have h2 : (match PyUe07.shape p with
        | none => none
        | some (n, k) => if r.length < n then none else match PyFlat.rows k (r.drop n) with
          | none => none
          | some (xs, t) => some ((p :: r.take n) :: xs, t)) = some (c, t) := h
      rw [hs] at h2
      cases h2
theorem calls_some : ∀ {f : Nat} {l : List Int} {raw : List (List (List Int))}, PyFlat.calls PyUe07.shape f l = some raw → ∃ cs : List (List Int), l = wireI cs ∧ raw = cs.map fun c => [[0], c]
  | f, [], raw, h => by
    have h2 : some [] = some raw := by cases f <;> exact h
    cases h2
    exact ⟨[], rfl, rfl⟩
  | 0, _ :: _, raw, h => nomatch h
  | f + 1, p :: r, raw, h => by
    have h2 : (match PyFlat.call PyUe07.shape (p :: r) with
      | none => none
      | some (c, t) => match PyFlat.calls PyUe07.shape f t with
        | none => none
        | some cs => some (c :: cs)) = some raw := h
    cases hc : PyFlat.call PyUe07.shape (p :: r) with
    | none =>
      rw [hc] at h2
      cases h2
    | some v =>
      obtain ⟨c, t⟩ := v
      rw [hc] at h2
      obtain ⟨x, ec, el⟩ := call_some hc
      cases hr : PyFlat.calls PyUe07.shape f t with
      | none =>
        simp only [hr] at h2
        cases h2
      | some cs =>
        simp only [hr] at h2
        obtain ⟨ds, e1, e2⟩ := calls_some hr
        have e3 : c :: cs = raw := Option.some.inj h2
        refine ⟨x :: ds, ?_, ?_⟩
        · rw [el, e1]
          rfl
        · rw [← e3, ec, e2]
          rfl
theorem whole_of (cs : List (List Int)) : (cs.map fun c => [[0], c]).map PyUe07.whole = cs.map fun c => [c] := by
  rw [List.map_map]
  rfl
theorem heads_of (cs : List (List Int)) : (((cs.map fun c => [[0], c]).map PyUe07.whole).map fun c => c.headD []) = cs := by
  rw [whole_of, List.map_map]
  exact List.map_id _
theorem nat_cast {c : List Int} (h : c.all Ue07Neutral.nat = true) : (c.map Int.toNat).map (fun (n : Nat) => (n : Int)) = c := by
  rw [List.map_map]
  conv => rhs; rw [← List.map_id c]
  refine List.map_congr_left fun z hz => ?_
  have := List.all_eq_true.mp h z hz
  unfold Ue07Neutral.nat at this
  rw [Bool.and_eq_true] at this
  have h1 := of_decide_eq_true this.1
  exact Int.toNat_of_nonneg h1
theorem wireI_cast {cs : List (List Int)} (h : ∀ c ∈ cs, c.all Ue07Neutral.nat = true) : (wire (cs.map fun c => c.map Int.toNat)).map (fun (n : Nat) => (n : Int)) = wireI cs := by
  induction cs with
  | nil => rfl
  | cons c cs ih =>
    rw [List.map_cons, wire_cons, List.map_cons, List.map_cons, List.map_append, nat_cast (h c List.mem_cons_self), ih fun x hx => h x (List.mem_cons_of_mem _ hx), List.length_map]
    rfl
theorem callOf_some {c : List Int} (h : Ue07Neutral.asked1 c = true) : c.all Ue07Neutral.nat = true ∧ ∃ x, Ue07Neutral.callIn (c.map Int.toNat) = some x ∧ Ue07Neutral.callOf c = some x := by
  have h2 : (Ue07Neutral.callOf c).isSome = true := h
  obtain ⟨x, hx⟩ := Option.isSome_iff_exists.mp h2
  have h3 : (if c.all Ue07Neutral.nat = false then none else Ue07Neutral.callIn (c.map Int.toNat)) = some x := hx
  cases q : c.all Ue07Neutral.nat with
  | false =>
    rw [q, if_pos rfl] at h3
    cases h3
  | true =>
    rw [q, if_neg (by decide)] at h3
    exact ⟨rfl, x, h3, hx⟩
theorem told_run : ∀ {cs : List (List Int)} (g : St), (∀ c ∈ cs, Ue07Neutral.asked1 c = true) → PyFlat.told (PyFlat.played (fun s c => Ue07Neutral.step s (c.headD [])) g (cs.map fun c => [c])) = run g (cs.map fun c => c.map Int.toNat)
  | [], g, _ => rfl
  | c :: cs, g, h => by
    obtain ⟨_, x, h1, h2⟩ := callOf_some (h c List.mem_cons_self)
    have hs : Ue07Neutral.step g c = Ue07.step g x := by
      unfold Ue07Neutral.step
      rw [h2]
    have ih := told_run (cs := cs) (Ue07.step g x).1 fun y hy => h y (List.mem_cons_of_mem _ hy)
    rw [List.map_cons, List.map_cons, run_some h1, ← ih]
    show PyFlat.told ((Ue07Neutral.step g c).2 :: PyFlat.played _ (Ue07Neutral.step g c).1 (cs.map fun c => [c])) = _
    rw [hs]
    show (((Ue07.step g x).2.length : Int) :: (Ue07.step g x).2) ++ PyFlat.told _ = _
    rfl
/-- what is asked, taken apart -/
theorem asked_wire {l : List Int} (h : PyUe07.answers_asked l = true) : ∃ cs : List (List Nat), l = (wire cs).map (fun (n : Nat) => (n : Int)) ∧ (∀ c ∈ cs, (Ue07Neutral.callIn c).isSome = true ∧ c.length ≤ 4000) ∧ PyUe07.answers l = run Ue07.init cs ∧ (run Ue07.init cs).length ≤ 1000050 := by
  unfold PyUe07.answers_asked at h
  cases hc : PyFlat.calls PyUe07.shape l.length l with
  | none =>
    rw [hc] at h
    cases h
  | some raw =>
    rw [hc] at h
    simp only [Bool.and_eq_true] at h
    obtain ⟨⟨⟨⟨_, hmost⟩, hin⟩, hask⟩, _⟩ := h
    obtain ⟨cs, e1, e2⟩ := calls_some hc
    have ha : PyUe07.answers l = PyFlat.told (PyFlat.played (fun s c => Ue07Neutral.step s (c.headD [])) Ue07Neutral.start (raw.map PyUe07.whole)) := by
      unfold PyUe07.answers PyUe07.calls
      rw [hc]
    rw [e2, heads_of] at hask
    rw [e2, whole_of] at ha
    unfold Ue07Neutral.asked at hask
    simp only [Bool.and_eq_true] at hask
    obtain ⟨hall, _, h50, hmany⟩ := hask
    have hall2 := List.all_eq_true.mp hall
    have hrun := told_run Ue07Neutral.start hall2
    refine ⟨cs.map fun c => c.map Int.toNat, ?_, fun c hcm => ?_, ?_, ?_⟩
    · rw [wireI_cast fun c hcm => (callOf_some (hall2 c hcm)).1]
      exact e1
    · obtain ⟨d, hd, rfl⟩ := List.mem_map.mp hcm
      obtain ⟨_, x, hx, _⟩ := callOf_some (hall2 d hd)
      refine ⟨by rw [hx]; rfl, ?_⟩
      rw [List.length_map]
      rw [e2] at hin
      have q := List.all_eq_true.mp hin [[0], d] (List.mem_map.mpr ⟨d, hd, rfl⟩)
      have q2 : (true && (decide (1 ≤ d.length) && decide (d.length ≤ 4000) && d.all (PyInside.within 0 4294967295) && true)) = true := q
      simp only [Bool.and_eq_true] at q2
      exact of_decide_eq_true q2.2.1.1.2
    · rw [ha, hrun]
      rfl
    · have hm := of_decide_eq_true hmany
      have h5 := of_decide_eq_true h50
      have len : ∀ (ds : List (List Int)) (g : St), (∀ c ∈ ds, Ue07Neutral.asked1 c = true) → (run g (ds.map fun c => c.map Int.toNat)).length = Ue07Neutral.many g ds + ds.length := by
        intro ds
        induction ds with
        | nil => intro g _; rfl
        | cons d ds ih =>
          intro g hd
          obtain ⟨_, x, h1, h2⟩ := callOf_some (hd d List.mem_cons_self)
          have hs : Ue07Neutral.step g d = Ue07.step g x := by
            unfold Ue07Neutral.step
            rw [h2]
          rw [List.map_cons, run_some h1, List.length_cons, List.length_append, ih _ fun y hy => hd y (List.mem_cons_of_mem _ hy), List.length_cons]
          show _ = (Ue07Neutral.step g d).2.length + Ue07Neutral.many (Ue07Neutral.step g d).1 ds + (ds.length + 1)
          rw [hs]
          omega
      have := len cs Ue07.init hall2
      have hm2 : Ue07Neutral.many Ue07.init cs ≤ 1000000 := hm
      omega
end Fv
/-! Rules that the layer lacks; calls of the text's own defs in short. -/
namespace Fw
open PySem PySem.Spec PyProof.Rows L2 Evl

/-! ### own defs -/
section
variable (P : Program) (w : World) (K : PySem.W.Frag) (mg : Str → Option Value) (base : Heap) (CX : CXT) (k : Nat)
/-- a def of the module keeps its promise, by its name -/
structure Cal (x : Str) (ps : List Str) (sp : Sp) : Prop where
  ex : ∃ (f : Addr) (fd : FuncData), FnOk P w K mg base CX k f fd ps sp ∧ mg x = some (.ref f) ∧ PySem.W.keepIn K (.ref f) = true ∧ Binds K fd ps []
/-- a method of the class at C -/
structure MCal (C : Addr) (m : Str) (ps : List Str) (sp : Sp) : Prop where
  ex : ∃ (f : Addr) (fd : FuncData), FnOk P w K mg base CX k f fd ps sp ∧ Meth K C m f ∧ Binds K fd ps []
/-- a class is made: its __init__ -/
structure KCal (C : Addr) (x : Str) (ps : List Str) (sp : Sp) : Prop where
  ex : ∃ (f : Addr) (fd : FuncData), FnOk P w K mg base CX k f fd ps sp ∧ Mk K C f ∧ mg x = some (.ref C) ∧ Binds K fd ps []
end
section
variable {X : Cx} {CX : CXT} {k j : Nat} {C : Addr} {ps : List Str} {sp : Sp} {E : XK} {x m : Str} {p pos apos : Pos} {e o : Expr} {es : List Expr} {ta : TE} {t : TA}
theorem pe_cal (F : Cal X.prog X.w X.K X.mg X.base CX k x ps sp) (hr : Room j X.A) (hk : k ≤ j) (hx : Passes CX X E) (ha : PA X (e :: es) t) (hg : Gl X x := by rfl) (hdb : (x == ("__debug__" : Str)) = false := by decide)
    (he : starEach (e :: es) X.env = (false, eval e X.env) :: starEach es X.env := by rfl) (hpl : (backTo pos (starEach es X.env)).any (·.1) = false := by rfl) : PE X (.Call (.Name x p) (e :: es) [] pos) (tCall sp [] E t) := by
  obtain ⟨f, fd, G, mf, kp, b⟩ := F.ex
  exact pe_call G (hr.mono hk) hg mf kp b .nil hx ha hdb he hpl
theorem pe_mcal {pl : Sem Bool} (he : PE X o ta) (c : Cls X.K C) (F : MCal X.prog X.w X.K X.mg X.base CX k C m ps sp) (hr : Room j X.A) (hk : k ≤ j) (hx : Passes CX X E) (ha : PA X (e :: es) t)
    (hst : starEach (e :: es) X.env = (false, eval e X.env) :: starEach es X.env := by rfl) (hpl : (backTo pos (starEach es X.env)).any (·.1) = false := by rfl)
    (ht : eval (.Call (.Attribute o m apos) (e :: es) [] pos) X.env = (do
      let ov ← eval o X.env
      standAt apos.atName
      let (f, first) ← holding [ov] (getMethod ov m pl)
      callWith pos f first (backTo pos (starEach (e :: es) X.env)) (backToKw pos (keywordEach [] X.env))) := by rfl) :
    PE X (.Call (.Attribute o m apos) (e :: es) [] pos) (tMeth C m sp [] E ta t) := by
  obtain ⟨f, fd, G, mf, b⟩ := F.ex
  exact pe_meth he c mf G (hr.mono hk) b .nil hx ha hst hpl ht
theorem pe_mcal0 {pl : Sem Bool} (he : PE X o ta) (c : Cls X.K C) (F : MCal X.prog X.w X.K X.mg X.base CX k C m ps sp) (hr : Room j X.A) (hk : k ≤ j) (hx : Passes CX X E)
    (ht : eval (.Call (.Attribute o m apos) [] [] pos) X.env = (do
      let ov ← eval o X.env
      standAt apos.atName
      let (f, first) ← holding [ov] (getMethod ov m pl)
      callWith pos f first (backTo pos (starEach [] X.env)) (backToKw pos (keywordEach [] X.env))) := by rfl) :
    PE X (.Call (.Attribute o m apos) [] [] pos) (tMeth C m sp [] E ta tNil) := by
  obtain ⟨f, fd, G, mf, b⟩ := F.ex
  exact pe_meth0 he c mf G (hr.mono hk) b .nil hx ht
theorem pe_kcal (F : KCal X.prog X.w X.K X.mg X.base CX k C x ps sp) (hr : Room j X.A) (hk : k + 1 ≤ j) (hx : Passes CX X E) (ha : PA X (e :: es) t) (hg : Gl X x := by rfl) (hdb : (x == ("__debug__" : Str)) = false := by decide)
    (he : starEach (e :: es) X.env = (false, eval e X.env) :: starEach es X.env := by rfl) (hpl : (backTo pos (starEach es X.env)).any (·.1) = false := by rfl) : PE X (.Call (.Name x p) (e :: es) [] pos) (tMake C sp [] E t) := by
  obtain ⟨f, fd, G, M, mf, b⟩ := F.ex
  exact pe_make M G (hr.mono hk) hg mf b .nil hx ha hdb he hpl
theorem pe_kcal0 (F : KCal X.prog X.w X.K X.mg X.base CX k C x ps sp) (hr : Room j X.A) (hk : k + 1 ≤ j) (hx : Passes CX X E) (hg : Gl X x := by rfl) (hdb : (x == ("__debug__" : Str)) = false := by decide) : PE X (.Call (.Name x p) [] [] pos) (tMake C sp [] E tNil) := by
  obtain ⟨f, fd, G, M, mf, b⟩ := F.ex
  exact pe_make0 M G (hr.mono hk) hg mf b .nil hx hdb
/-- a call within a try's body -/
theorem pe_calS {E : L2.St → XK} (F : Cal X.prog X.w X.K X.mg X.base CX k x ps sp) (hr : Room j X.A) (hk : k ≤ j) (hx : ∀ σ, PassesAt CX X σ (E σ)) (ha : PA X (e :: es) t) (hg : Gl X x := by rfl) (hdb : (x == ("__debug__" : Str)) = false := by decide)
    (he : starEach (e :: es) X.env = (false, eval e X.env) :: starEach es X.env := by rfl) (hpl : (backTo pos (starEach es X.env)).any (·.1) = false := by rfl) : PE X (.Call (.Name x p) (e :: es) [] pos) (tCallS sp E t) := by
  obtain ⟨f, fd, G, mf, kp, b⟩ := F.ex
  exact pe_callS G (hr.mono hk) hg mf kp b hx ha hdb he hpl
end

/-! ### operators on whole numbers -/
section
variable {X : Cx}
abbrev rAddI : R2 := rI0 fun i j => .int (i + j)
abbrev rSubI : R2 := rI0 fun i j => .int (i - j)
abbrev rModI : R2 := rI (fun _ j => 0 < j) fun i j => .int (i % j)
abbrev rDivI : R2 := rI CDiv fun i j => .int (i / j)
abbrev rLtI : R2 := rI0 fun i j => .bl (decide (i < j))
abbrev rLeI : R2 := rI0 fun i j => .bl (decide (i ≤ j))
abbrev rGtI : R2 := rI0 fun i j => .bl (decide (j < i))
abbrev rGeI : R2 := rI0 fun i j => .bl (decide (j ≤ i))
abbrev rEqI : R2 := rI0 fun i j => .bl (decide (i = j))
abbrev rIsN : R2 := fun x y H Q => y = .non ∧ Q (.bl (decide (x = .non))) H
abbrev rNotN : R2 := fun x y H Q => y = .non ∧ Q (.bl (!decide (x = .non))) H
theorem hu65 {A : Around} {k : Nat} (hr : Room k A) : A.units + 65 < cLine := by
  have := hr.un
  omega
theorem op_eqI : OpR X (compareOp .Eq) rEqI := opB0 fun _ _ _ _ _ _ _ q => PyProof.Rows.eq_int (by rw [Bool.beq_eq_decide_eq]; exact q)
/-- a number of the module -/
theorem pe_const {x : Str} {i : Int} {pos : Pos} (h : ∃ t, X.mg x = some (.int i t)) (hg : Gl X x := by rfl) (hd : (x == ("__debug__" : Str)) = false := by decide) : PE X (.Name x pos) (tC (.int i)) := by
  obtain ⟨t, h⟩ := h
  exact pe_glob hg h ⟨t, rfl⟩ hd
end
/-! ### built-in functions in short -/
section
variable {X : Cx} {p pos : Pos} {a b : Expr} {ta tb : TE}
theorem pe_len (hm : X.mg "len" = none) (ha : PE X a ta) (hg : Gl X "len" := by rfl) (hs : starEach [a] X.env = (false, eval a X.env) :: starEach [] X.env := by rfl) (hpl : (backTo pos (starEach [] X.env)).any (·.1) = false := by rfl) : PE X (.Call (.Name "len" p) [a] [] pos) (tCB (rLenS X.K) (tCons ta tNil)) :=
  pe_callB call_len_seq hg hm PySem.boot_len (pa_cons ha pa_nil hs) (by decide) (by decide) hs hpl
theorem pe_any (hc : X.calm = true) (hm : X.mg "any" = none) (ha : PE X a ta) (hg : Gl X "any" := by rfl) (hs : starEach [a] X.env = (false, eval a X.env) :: starEach [] X.env := by rfl) (hpl : (backTo pos (starEach [] X.env)).any (·.1) = false := by rfl) : PE X (.Call (.Name "any" p) [a] [] pos) (tCB (rAny X.K) (tCons ta tNil)) :=
  pe_callB (cr_any hc) hg hm (by decide +kernel) (pa_cons ha pa_nil hs) (by decide) (by decide) hs hpl
theorem pe_all (hc : X.calm = true) (hm : X.mg "all" = none) (ha : PE X a ta) (hg : Gl X "all" := by rfl) (hs : starEach [a] X.env = (false, eval a X.env) :: starEach [] X.env := by rfl) (hpl : (backTo pos (starEach [] X.env)).any (·.1) = false := by rfl) : PE X (.Call (.Name "all" p) [a] [] pos) (tCB (rAll X.K) (tCons ta tNil)) :=
  pe_callB (cr_all hc) hg hm (by decide +kernel) (pa_cons ha pa_nil hs) (by decide) (by decide) hs hpl
theorem pe_minL (hc : X.calm = true) (hm : X.mg "min" = none) (ha : PE X a ta) (hg : Gl X "min" := by rfl) (hs : starEach [a] X.env = (false, eval a X.env) :: starEach [] X.env := by rfl) (hpl : (backTo pos (starEach [] X.env)).any (·.1) = false := by rfl) : PE X (.Call (.Name "min" p) [a] [] pos) (tCB (rMin X.K) (tCons ta tNil)) :=
  pe_callB (cr_min hc) hg hm (by decide +kernel) (pa_cons ha pa_nil hs) (by decide) (by decide) hs hpl
def rMin2 : List V → Hp → VK → Prop := fun xs H Q => ∃ i j, xs = [.int i, .int j] ∧ Q (.int (if j < i then j else i)) H
theorem pe_min (hc : X.calm = true) (hm : X.mg "min" = none) (ha : PE X a ta) (hb : PE X b tb) (hg : Gl X "min" := by rfl) (hs : starEach [a, b] X.env = (false, eval a X.env) :: starEach [b] X.env := by rfl) (hs2 : starEach [b] X.env = (false, eval b X.env) :: starEach [] X.env := by rfl) (hpl : (backTo pos (starEach [b] X.env)).any (·.1) = false := by rfl) :
    PE X (.Call (.Name "min" p) [a, b] [] pos) (tCB rMin2 (tCons ta (tCons tb tNil))) :=
  pe_callB (call_min2 hc) hg hm (by decide +kernel) (pa_cons ha (pa_cons hb pa_nil hs2) hs) (by decide) (by decide) hs hpl
theorem pe_max (hc : X.calm = true) (hm : X.mg "max" = none) (ha : PE X a ta) (hb : PE X b tb) (hg : Gl X "max" := by rfl) (hs : starEach [a, b] X.env = (false, eval a X.env) :: starEach [b] X.env := by rfl) (hs2 : starEach [b] X.env = (false, eval b X.env) :: starEach [] X.env := by rfl) (hpl : (backTo pos (starEach [b] X.env)).any (·.1) = false := by rfl) :
    PE X (.Call (.Name "max" p) [a, b] [] pos) (tCB rMax2 (tCons ta (tCons tb tNil))) :=
  pe_callB (call_max2 hc) hg hm (by decide +kernel) (pa_cons ha (pa_cons hb pa_nil hs2) hs) (by decide) (by decide) hs hpl
/-- xs.append(e), xs.extend(e) -/
theorem pe_append {o e : Expr} {to te : TE} {apos : Pos} (ho : PE X o to) (he : PE X e te)
    (hbase : attributeBase o "append" X.env (eval o X.env) = eval o X.env := by rfl)
    (hfew : ((backTo pos (starEach (e :: []) X.env)).all (fun x => !x.1) && (backToKw pos (keywordEach [] X.env)).all (fun x => x.1.isSome)
      && decide ((e :: []).length + ([] : List Keyword).length + (if ([] : List Keyword).isEmpty then 0 else 1) < 30)) = true := by rfl)
    (hline : (apos.endLine == pos.line) = true := by rfl) (hs : starEach (e :: []) X.env = (false, eval e X.env) :: starEach [] X.env := by rfl) (hplain : (backTo pos (starEach [] X.env)).any (·.1) = false := by rfl) :
    PE X (.Call (.Attribute o "append" apos) [e] [] pos) (tBM X.K "list" rAppend to (tCons te tNil)) :=
  pe_bm PySem.F.plainAttrs_list PySem.F.slot_list_append PySem.F.type_list_append mt_append ho (pa_cons he pa_nil hs) hbase hfew hline hs hplain
theorem pe_extend1 {o e : Expr} {to te : TE} {apos : Pos} (ho : PE X o to) (he : PE X e te)
    (hbase : attributeBase o "extend" X.env (eval o X.env) = eval o X.env := by rfl)
    (hfew : ((backTo pos (starEach (e :: []) X.env)).all (fun x => !x.1) && (backToKw pos (keywordEach [] X.env)).all (fun x => x.1.isSome)
      && decide ((e :: []).length + ([] : List Keyword).length + (if ([] : List Keyword).isEmpty then 0 else 1) < 30)) = true := by rfl)
    (hline : (apos.endLine == pos.line) = true := by rfl) (hs : starEach (e :: []) X.env = (false, eval e X.env) :: starEach [] X.env := by rfl) (hplain : (backTo pos (starEach [] X.env)).any (·.1) = false := by rfl) :
    PE X (.Call (.Attribute o "extend" apos) [e] [] pos) (tBM X.K "list" rExtend to (tCons te tNil)) :=
  pe_bm PySem.F.plainAttrs_list PySem.F.slot_list_extend PySem.F.type_list_extend mt_extend ho (pa_cons he pa_nil hs) hbase hfew hline hs hplain
end
theorem list_extend_tup (l : Addr) (items : Array Value) (n : Nat) (b : Addr) (items2 : Array Value) (n2 : Nat) (d2 : Option Addr) (sl2 : Array (Option Value)) (hs0 : ¬(!items.isEmpty && Builtin.List.listTooLong (items.size + items2.size)) = true) (hs1 : items.size ≤ sizeLine) (hs2 : items.size + items2.size ≤ sizeLine + 1) :
    Meets (Builtin.«list.extend» ⟨[.ref l, .ref b], []⟩) (fun _ R s => s.heap.get? l = some { cls := .type "list", dict := none, data := .seq items n, slots := #[] } ∧ s.heap.get? b = some { cls := .type "tuple", dict := d2, data := .seq items2 n2, slots := sl2 } ∧ R (.ok (.ret Value.none)) { s with heap := s.heap.update l (Obj.mapSeq fun x => x ++ items2), toks := s.toks }) :=
  .of_wp fun prog w A R s h => by
    obtain ⟨hp, g, d, tk, os⟩ := s; obtain ⟨hl, hb, h⟩ := h; have f1 := @AutoSeq1.idx_int; have f2 := @AutoSeq1.sub_tuple_tuple; have f3 := @AutoSeq1.sub_list_list; have f4 := @AutoSeq1.sub_tuple_list; have f5 := @AutoSeq1.sub_list_tuple
    have hz' : (items ++ items2).size ≤ sizeLine + 1 := by rw [Array.size_append]; exact hs2
    wp_walk using (wpAny_updateSeq hl rfl (hz := hs1) (_hz' := hz')), wpAny_loadPart' hl, wpAny_loadPart' hb; exact ⟨_, rfl, h⟩
section
variable {X : Cx}
/-- a tuple at the end of a list -/
def rExtT (K : PySem.W.Frag) : V → List V → Hp → VK → Prop := fun x vs H Q => ∃ l b xs zs, x = .ref l ∧ vs = [.ref b] ∧ H l = some (.lst xs) ∧ SqT K H b zs ∧ xs.length + zs.length ≤ sizeLine ∧ Q .non (upd H l (.lst (xs ++ zs)))
theorem mt_extT : MtM X "list.extend" (rExtT X.K) := by
  intro pins s σ H x vs v us Q I rx rv h
  obtain ⟨l, b, xs, zs, rfl, rfl, hH, hB, hz, q⟩ := h
  cases rx
  obtain ⟨u, rfl, ru⟩ := rv.one
  cases ru
  obtain ⟨z, its, n, r, hl, e⟩ := I.lstM hH
  obtain ⟨its2, r2, ⟨o2, e2, c2, n2, d2⟩, hz2⟩ := I.tuple hB
  have hl2 := r2.length
  obtain ⟨oc, od, odt, osl⟩ := o2
  simp only at c2 d2
  subst c2 d2
  have hsz : its.toArray.size + its2.toArray.size ≤ sizeLine := by rw [List.size_toArray, List.size_toArray]; omega
  have hlong : ¬ (!its.toArray.isEmpty && Builtin.List.listTooLong (its.toArray.size + its2.toArray.size)) = true := by
    rw [notLongL hsz, Bool.and_false]
    exact Bool.false_ne_true
  refine call_meets F.slot_list_extend ⟨_, e, rfl⟩ F.entry_list_extend (F.args_list_extend_2 _ _)
    (list_extend_tup l its.toArray n b its2.toArray n2 od osl hlong (by rw [List.size_toArray]; omega) (by omega)) ⟨e, e2, ?_⟩
  refine ⟨.non, _, I.lset (its' := its ++ its2) hH e (by simp) (r.append r2) ?_, rfl, q⟩
  rw [List.length_append]
  omega
variable {p pos : Pos}
theorem pe_extendT {o e : Expr} {to te : TE} {apos : Pos} (ho : PE X o to) (he : PE X e te)
    (hbase : attributeBase o "extend" X.env (eval o X.env) = eval o X.env := by rfl)
    (hfew : ((backTo pos (starEach (e :: []) X.env)).all (fun x => !x.1) && (backToKw pos (keywordEach [] X.env)).all (fun x => x.1.isSome)
      && decide ((e :: []).length + ([] : List Keyword).length + (if ([] : List Keyword).isEmpty then 0 else 1) < 30)) = true := by rfl)
    (hline : (apos.endLine == pos.line) = true := by rfl) (hs : starEach (e :: []) X.env = (false, eval e X.env) :: starEach [] X.env := by rfl) (hplain : (backTo pos (starEach [] X.env)).any (·.1) = false := by rfl) :
    PE X (.Call (.Attribute o "extend" apos) [e] [] pos) (tBM X.K "list" (rExtT X.K) to (tCons te tNil)) :=
  pe_bm PySem.F.plainAttrs_list PySem.F.slot_list_extend PySem.F.type_list_extend mt_extT ho (pa_cons he pa_nil hs) hbase hfew hline hs hplain
/-- o.f as a target -/
def gFld (K : PySem.W.Frag) (f : Str) (to : TE) : TG := fun v σ H Q => to σ H fun x H1 => ∃ a C dx fs, x = .ref a ∧ H1 a = some (.ins C dx fs) ∧ Cls K C ∧ NoAttr K C f ∧ fs.length < 1000 ∧ Q σ (upd H1 a (.ins C dx (putF f v fs)))
theorem pg_fld {o : Expr} {f : Str} {to : TE} {pos : Pos} (ho : PE X o to) : PG X (.Attribute o f pos) (gFld X.K f to) := by
  refine ⟨fun pins s σ H v u Q I r h => ?_⟩
  refine PySem.W.kas_attr (thn (ho.run pins s σ H _ I h) fun ov s1 ⟨x, H1, I1, rx, a, C, dx, fs, ex, ea, c, n, l, q⟩ => ?_)
  subst ex
  obtain rfl : ov = Value.ref a := rx
  exact setattr_ok I1 ea c n l r fun s2 I2 => ⟨σ, _, I2, q⟩
end
end Fw
/-! What lies in the heap; what evaluates to what, further. -/
namespace Fw
open PySem PySem.Spec PyProof.Rows L2 Evl

/-! ### things in the heap -/
abbrev nV (n : Nat) : V := .int (n : Int)
def nums (w : List Nat) : List V := w.map fun (n : Nat) => V.int (n : Int)
abbrev RelH (α : Type) := Hp → V → α → Prop
structure Items {α : Type} (R : RelH α) (H : Hp) (xs : List V) (ws : List α) : Prop where
  len : xs.length = ws.length
  at_ : ∀ (i : Nat) (x : V) (w : α), xs[i]? = some x → ws[i]? = some w → R H x w
def ListAt {α : Type} (R : RelH α) (H : Hp) (q : Addr) (ws : List α) : Prop := ∃ xs, H q = some (.lst xs) ∧ Items R H xs ws
def Steady {α : Type} (R : RelH α) : Prop := ∀ (H H' : Hp) (x : V) (w : α), Ex H H' → R H x w → R H' x w
def FoldR : RelH Ue07.Fold := fun H x f => ∃ q, x = .ref q ∧ H q = some (.tup [nV f.1, nV f.2])
def LineR : RelH (List Nat) := fun H x w => ∃ q, x = .ref q ∧ H q = some (.lst (nums w))
def RowR : RelH Ue07.Row := fun H x r => ∃ q, x = .ref q ∧ H q = some (.tup [nV r.a, nV r.b, nV r.col])
def NRowR : RelH (Nat × Ue07.Row) := fun H x r => ∃ q y, x = .ref q ∧ H q = some (.tup [nV r.1, y]) ∧ RowR H y r.2
def IntR : RelH Nat := fun _ x n => x = nV n
def BoolR : RelH Bool := fun _ x b => x = .bl b
theorem FoldR.steady : Steady FoldR := fun H H' x w e ⟨q, h1, h2⟩ => ⟨q, h1, e q _ h2⟩
theorem LineR.steady : Steady LineR := fun H H' x w e ⟨q, h1, h2⟩ => ⟨q, h1, e q _ h2⟩
theorem RowR.steady : Steady RowR := fun H H' x w e ⟨q, h1, h2⟩ => ⟨q, h1, e q _ h2⟩
theorem NRowR.steady : Steady NRowR := fun H H' x w e ⟨q, y, h1, h2, h3⟩ => ⟨q, y, h1, e q _ h2, RowR.steady H H' y _ e h3⟩
theorem IntR.steady : Steady IntR := fun H H' x w e h => h
theorem BoolR.steady : Steady BoolR := fun H H' x w e h => h
section
variable {α : Type} {R : RelH α} {H H' : Hp} {xs ys : List V} {ws us : List α}
theorem Items.mono (st : Steady R) (e : Ex H H') (h : Items R H xs ws) : Items R H' xs ws := ⟨h.len, fun i x w h1 h2 => st H H' x w e (h.at_ i x w h1 h2)⟩
theorem ListAt.mono {q : Addr} (st : Steady R) (e : Ex H H') (h : ListAt R H q ws) : ListAt R H' q ws := by
  obtain ⟨xs, h1, h2⟩ := h
  exact ⟨xs, e q _ h1, h2.mono st e⟩
theorem Items.nil : Items R H [] [] := ⟨rfl, fun i x w h _ => by simp at h⟩
theorem Items.get {i : Nat} {w : α} (h : Items R H xs ws) (hw : ws[i]? = some w) : ∃ x, xs[i]? = some x ∧ R H x w := by
  have hi := (List.getElem?_eq_some_iff.mp hw).1
  have hx : xs[i]? = some (xs[i]'(by rw [h.len]; exact hi)) := List.getElem?_eq_getElem _
  exact ⟨_, hx, h.at_ i _ w hx hw⟩
theorem Items.get' {i : Nat} {x : V} (h : Items R H xs ws) (hx : xs[i]? = some x) : ∃ w, ws[i]? = some w ∧ R H x w := by
  have hi := (List.getElem?_eq_some_iff.mp hx).1
  have hw : ws[i]? = some (ws[i]'(by rw [← h.len]; exact hi)) := List.getElem?_eq_getElem _
  exact ⟨_, hw, h.at_ i x _ hx hw⟩
theorem Items.append (h : Items R H xs ws) (k : Items R H ys us) : Items R H (xs ++ ys) (ws ++ us) := by
  refine ⟨by rw [List.length_append, List.length_append, h.len, k.len], fun i x w h1 h2 => ?_⟩
  by_cases hi : i < xs.length
  · rw [List.getElem?_append_left hi] at h1
    rw [List.getElem?_append_left (by rw [← h.len]; exact hi)] at h2
    exact h.at_ i x w h1 h2
  · rw [List.getElem?_append_right (by omega)] at h1
    rw [List.getElem?_append_right (by rw [← h.len]; omega), ← h.len] at h2
    exact k.at_ _ x w h1 h2
theorem Items.one {x : V} {w : α} (h : R H x w) : Items R H [x] [w] := ⟨rfl, fun i x' w' h1 h2 => by
  cases i with
  | zero =>
    have e1 : x = x' := Option.some.inj h1
    have e2 : w = w' := Option.some.inj h2
    rw [← e1, ← e2]
    exact h
  | succ i => simp at h1⟩
theorem Items.snoc {x : V} {w : α} (h : Items R H xs ws) (r : R H x w) : Items R H (xs ++ [x]) (ws ++ [w]) := h.append (Items.one r)
theorem Items.take (h : Items R H xs ws) (n : Nat) : Items R H (xs.take n) (ws.take n) := by
  refine ⟨by rw [List.length_take, List.length_take, h.len], fun i x w h1 h2 => ?_⟩
  rw [List.getElem?_take] at h1 h2
  split at h1
  · rename_i hi
    rw [if_pos hi] at h2
    exact h.at_ i x w h1 h2
  · cases h1
theorem Items.drop (h : Items R H xs ws) (n : Nat) : Items R H (xs.drop n) (ws.drop n) := by
  refine ⟨by rw [List.length_drop, List.length_drop, h.len], fun i x w h1 h2 => ?_⟩
  rw [List.getElem?_drop] at h1 h2
  exact h.at_ _ x w h1 h2
theorem Items.vals {f : α → V} (h : Items (fun _ x w => x = f w) H xs ws) : xs = ws.map f := by
  refine List.ext_getElem? fun i => ?_
  rw [List.getElem?_map]
  cases e : xs[i]? with
  | none =>
    rw [List.getElem?_eq_none_iff] at e
    rw [List.getElem?_eq_none_iff.mpr (by rw [← h.len]; exact e)]
    rfl
  | some x =>
    obtain ⟨w, hw, r⟩ := h.get' e
    rw [hw]
    exact congrArg some r
theorem Items.of_map {f : α → V} (hf : ∀ w ∈ ws, R H (f w) w) : Items R H (ws.map f) ws := by
  refine ⟨List.length_map .., fun i x w h1 h2 => ?_⟩
  rw [List.getElem?_map, h2] at h1
  have e : f w = x := Option.some.inj h1
  rw [← e]
  exact hf w (List.mem_of_getElem? h2)
end
theorem nums_len (w : List Nat) : (nums w).length = w.length := List.length_map ..
theorem nums_get {w : List Nat} {i b : Nat} (h : w[i]? = some b) : (nums w)[i]? = some (nV b) := by
  unfold nums
  rw [List.getElem?_map, h]
  rfl
theorem nums_get' {w : List Nat} {i : Nat} {x : V} (h : (nums w)[i]? = some x) : ∃ b, w[i]? = some b ∧ x = nV b := by
  unfold nums at h
  rw [List.getElem?_map] at h
  cases e : w[i]? with
  | none =>
    rw [e] at h
    cases h
  | some b =>
    rw [e] at h
    exact ⟨b, rfl, (Option.some.inj h).symm⟩
theorem nums_items (w : List Nat) (H : Hp) : Items IntR H (nums w) w := ⟨nums_len w, fun i x b h1 h2 => by
  rw [nums_get h2] at h1
  exact (Option.some.inj h1).symm⟩
/-- slices -/
theorem sIx_some (n d k : Nat) : HT.sIx n d (some (k : Int)) = min k n := HT.sIx_nat n d k
theorem cutV_both (xs : List V) (a b : Nat) : cutV xs (some (a : Int)) (some (b : Int)) = (xs.take b).drop a := by
  unfold cutV
  rw [sIx_some, sIx_some, List.drop_take]
  by_cases ha : a ≤ xs.length
  · rw [Nat.min_eq_left ha]
    by_cases hb : b ≤ xs.length
    · rw [Nat.min_eq_left hb]
    · rw [Nat.min_eq_right (by omega), List.take_of_length_le (i := xs.length - a) (by rw [List.length_drop]; omega), List.take_of_length_le (i := b - a) (by rw [List.length_drop]; omega)]
  · have e : min a xs.length = xs.length := by omega
    rw [e, List.drop_eq_nil_of_le (i := a) (by omega), List.drop_eq_nil_of_le (i := xs.length) (Nat.le_refl _)]
    simp
theorem cutV_from (xs : List V) (a : Nat) : cutV xs (some (a : Int)) none = xs.drop a := by
  unfold cutV
  rw [sIx_some, HT.sIx_none]
  by_cases ha : a ≤ xs.length
  · rw [Nat.min_eq_left ha, List.take_of_length_le (by rw [List.length_drop]; omega)]
  · have e : min a xs.length = xs.length := by omega
    rw [e, List.drop_eq_nil_of_le (i := a) (by omega), List.drop_eq_nil_of_le (i := xs.length) (Nat.le_refl _)]
    simp
theorem cutV_to (xs : List V) (b : Nat) : cutV xs none (some (b : Int)) = xs.take b := by
  unfold cutV
  rw [sIx_some, HT.sIx_none, List.drop_zero, Nat.sub_zero]
  by_cases hb : b ≤ xs.length
  · rw [Nat.min_eq_left hb]
  · rw [Nat.min_eq_right (by omega), List.take_of_length_le (Nat.le_refl _), List.take_of_length_le (by omega)]
theorem nums_drop (w : List Nat) (a : Nat) : (nums w).drop a = nums (w.drop a) := (List.map_drop ..).symm
theorem nums_take (w : List Nat) (a : Nat) : (nums w).take a = nums (w.take a) := (List.map_take ..).symm

/-! ### what evaluates, further -/
def EvR (te : TE) (σ : L2.St) (H : Hp) (S : V → Hp → Prop) : Prop := ∀ H1, Ex H H1 → ∀ Q : VK, (∀ v H2, Ex H1 H2 → S v H2 → Q v H2) → te σ H1 Q
/-- a new object -/
def EvN (te : TE) (σ : L2.St) (H : Hp) (S : Addr → Hp → Prop) : Prop := ∀ H1, Ex H H1 → ∀ Q : VK, (∀ q H2, H1 q = none → Ex H1 H2 → S q H2 → Q (.ref q) H2) → te σ H1 Q
def SpR (sp : Sp) (vs : List V) (H : Hp) (S : V → Hp → Prop) : Prop := ∀ H1, Ex H H1 → ∀ Q : VK, (∀ v H2, Ex H1 H2 → S v H2 → Q v H2) → ∀ E : XK, sp vs H1 Q E
def SpN (sp : Sp) (vs : List V) (H : Hp) (S : Addr → Hp → Prop) : Prop := ∀ H1, Ex H H1 → ∀ Q : VK, (∀ q H2, H1 q = none → Ex H1 H2 → S q H2 → Q (.ref q) H2) → ∀ E : XK, sp vs H1 Q E
def RetR (S : V → Hp → Prop) (H : Hp) (Q : VK) : Prop := ∀ v H2, Ex H H2 → S v H2 → Q v H2
def RetN (S : Addr → Hp → Prop) (H : Hp) (Q : VK) : Prop := ∀ q H2, H q = none → Ex H H2 → S q H2 → Q (.ref q) H2
section
variable {K : PySem.W.Frag} {σ : L2.St} {H H' : Hp} {ta tb te : TE} {x y z v : V} {r : R2} {S : V → Hp → Prop} {SN : Addr → Hp → Prop} {D : Ends} {tz : TS}
theorem EvR.mono (e : Ex H H') (h : EvR te σ H S) : EvR te σ H' S := fun H1 a Q q => h H1 (e.trans a) Q q
theorem EvN.mono (e : Ex H H') (h : EvN te σ H SN) : EvN te σ H' SN := fun H1 a Q q => h H1 (e.trans a) Q q
theorem RetR.go {Q : VK} (k : RetR S H Q) (e : Ex H H') : RetR S H' Q := fun v H2 e2 s => k v H2 (e.trans e2) s
theorem RetN.go {Q : VK} (k : RetN SN H Q) (e : Ex H H') : RetN SN H' Q := fun q H2 n e2 s => k q H2 (fresh_back e n) (e.trans e2) s
theorem en_call {sp : Sp} {vs : List V} {E : XK} {ta : TA} (h : EvA ta σ H vs) (hs : SpN sp (vs ++ []) H SN) : EvN (tCall sp [] E ta) σ H SN := fun H1 e Q q =>
  h H1 e _ fun H2 e2 => hs H2 (e.trans e2) Q (fun p H3 n e3 s => q p H3 (fresh_back e2 n) (e2.trans e3) s) E
theorem er_call {sp : Sp} {vs : List V} {E : XK} {ta : TA} (h : EvA ta σ H vs) (hs : SpR sp (vs ++ []) H S) : EvR (tCall sp [] E ta) σ H S := fun H1 e Q q =>
  h H1 e _ fun H2 e2 => hs H2 (e.trans e2) Q (fun p H3 e3 s => q p H3 (e2.trans e3) s) E
theorem ev_fld {a C dx : Addr} {fs : List (Str × V)} {f : Str} (ha : Ev ta σ H (.ref a)) (h : H a = some (.ins C dx fs)) (c : Cls K C) (n : NoAttr K C f) (l : fs.lookup f = some v) : Ev (tFld K ta f) σ H v := fun H1 e Q q =>
  ha H1 e _ fun H2 e2 => ⟨a, C, dx, fs, v, rfl, e2 a _ (e a _ h), c, n, l, q H2 e2⟩
theorem ev_meth {a C dx : Addr} {fs : List (Str × V)} {m : Str} {sp : Sp} {E : XK} {ta : TA} {vs : List V} (ho : Ev te σ H (.ref a)) (h : H a = some (.ins C dx fs)) (l : fs.lookup m = none) (ha : EvA ta σ H vs) (hs : SpV sp (.ref a :: (vs ++ [])) H z) :
    Ev (tMeth C m sp [] E te ta) σ H z := fun H1 e Q q =>
  ho H1 e _ fun H2 e2 => ⟨a, dx, fs, rfl, e2 a _ (e a _ h), l, ha H2 (e.trans e2) _ fun H3 e3 => hs H3 ((e.trans e2).trans e3) Q (fun H4 e4 => q H4 ((e2.trans e3).trans e4)) E⟩
theorem en_meth {a C dx : Addr} {fs : List (Str × V)} {m : Str} {sp : Sp} {E : XK} {ta : TA} {vs : List V} (ho : Ev te σ H (.ref a)) (h : H a = some (.ins C dx fs)) (l : fs.lookup m = none) (ha : EvA ta σ H vs) (hs : SpN sp (.ref a :: (vs ++ [])) H SN) :
    EvN (tMeth C m sp [] E te ta) σ H SN := fun H1 e Q q =>
  ho H1 e _ fun H2 e2 => ⟨a, dx, fs, rfl, e2 a _ (e a _ h), l, ha H2 (e.trans e2) _ fun H3 e3 => hs H3 ((e.trans e2).trans e3) Q (fun p H4 n e4 s => q p H4 (fresh_back (e2.trans e3) n) ((e2.trans e3).trans e4) s) E⟩
/-- an operation, an operand a new object -/
theorem ev_opN {q : V} (ha : Ev ta σ H x) (hb : EvN tb σ H SN) (hr : ∀ p H1, SN p H1 → Ex H H1 → RV r x (.ref p) H1 z) : Ev (tOp r ta tb) σ H z := fun H1 e Q q =>
  ha H1 e _ fun H2 e2 => hb H2 (e.trans e2) _ fun p H3 _ e3 hp => hr p H3 hp ((e.trans e2).trans e3) H3 (Ex.refl H3) Q fun H4 e4 => q H4 ((e2.trans e3).trans e4)
/-- the first operand a new object -/
theorem ev_opN1 (ha : EvN ta σ H SN) (hb : ∀ p H1, SN p H1 → Ex H H1 → ∃ y, Ev tb σ H1 y ∧ ∀ H2, Ex H1 H2 → RV r (.ref p) y H2 z) : Ev (tOp r ta tb) σ H z := fun H1 e Q q =>
  ha H1 e _ fun p H2 _ e2 hp => by
    obtain ⟨y, h1, h2⟩ := hb p H2 hp (e.trans e2)
    exact h1 H2 (Ex.refl H2) _ fun H3 e3 => h2 H3 e3 H3 (Ex.refl H3) Q fun H4 e4 => q H4 ((e2.trans e3).trans e4)
theorem er_opN1 (ha : EvN ta σ H SN) (hb : ∀ p H1, SN p H1 → Ex H H1 → ∃ y z, Ev tb σ H1 y ∧ ∀ H2, Ex H1 H2 → RV r (.ref p) y H2 z ∧ S z H2) (st : ∀ z H1 H2, Ex H1 H2 → S z H1 → S z H2) : EvR (tOp r ta tb) σ H S := fun H1 e Q q =>
  ha H1 e _ fun p H2 _ e2 hp => by
    obtain ⟨y, z, h1, h2⟩ := hb p H2 hp (e.trans e2)
    exact h1 H2 (Ex.refl H2) _ fun H3 e3 => (h2 H3 e3).1 H3 (Ex.refl H3) Q fun H4 e4 => q z H4 ((e2.trans e3).trans e4) (st z H3 H4 e4 (h2 H3 e3).2)
theorem rv_isN : RV (fun x y H Q => y = .non ∧ Q (.bl (decide (x = .non))) H) x .non H (.bl (decide (x = .non))) := fun H1 _ _ q => ⟨rfl, q H1 (Ex.refl H1)⟩
theorem rv_notN : RV (fun x y H Q => y = .non ∧ Q (.bl (!decide (x = .non))) H) x .non H (.bl (!decide (x = .non))) := fun H1 _ _ q => ⟨rfl, q H1 (Ex.refl H1)⟩
theorem rv_fdiv {i j : Int} (hc : CDiv i j) : RV (rI CDiv fun i j => .int (i / j)) (.int i) (.int j) H (.int (i / j)) := rv_I hc
theorem ev_min2 {i j : Int} (ha : Ev ta σ H (.int i)) (hb : Ev tb σ H (.int j)) : Ev (tCB rMin2 (tCons ta (tCons tb tNil))) σ H (.int (if j < i then j else i)) := fun H1 e Q q =>
  ha H1 e _ fun H2 e2 => hb H2 (e.trans e2) _ fun H3 e3 => ⟨i, j, rfl, q H3 (e2.trans e3)⟩
theorem ev_minN {a b : Nat} (ha : Ev ta σ H (nV a)) (hb : Ev tb σ H (nV b)) : Ev (tCB rMin2 (tCons ta (tCons tb tNil))) σ H (nV (min a b)) := ev_is (ev_min2 ha hb) (by
  refine congrArg V.int ?_
  split <;> omega)
theorem ev_maxN {a b : Nat} (ha : Ev ta σ H (nV a)) (hb : Ev tb σ H (nV b)) : Ev (tCB rMax2 (tCons ta (tCons tb tNil))) σ H (nV (max a b)) := ev_is (ev_max2 ha hb) (by
  refine congrArg V.int ?_
  split <;> omega)
/-- len of a new list; of a tuple -/
theorem ev_lenX {q : Addr} {n : Nat} {S : Addr → Hp → Prop} (ha : EvN ta σ H S) (hn : ∀ p H1, S p H1 → ∃ xs, H1 p = some (.lst xs) ∧ xs.length = n) : Ev (tCB (rLenS K) (tCons ta tNil)) σ H (nV n) := fun H1 e Q k =>
  ha H1 e _ fun p H2 _ e2 hp => by
    obtain ⟨xs, h1, h2⟩ := hn p H2 hp
    refine ⟨p, xs, rfl, Or.inl (sq_of h1), ?_⟩
    rw [h2]
    exact k H2 e2
theorem ev_lenL {p : Addr} {xs : List V} {n : Nat} (ha : Ev ta σ H (.ref p)) (h : H p = some (.lst xs)) (hn : xs.length = n) : Ev (tCB (rLenS K) (tCons ta tNil)) σ H (nV n) := by
  rw [← hn]
  exact ev_len ha (sq_of h)
theorem ev_anyL {bs : List Bool} {S : Addr → Hp → Prop} (ha : EvN ta σ H S) (hn : ∀ p H1, S p H1 → H1 p = some (.lst (bs.map V.bl))) : Ev (tCB (rAny K) (tCons ta tNil)) σ H (.bl (bs.any id)) := fun H1 e Q k =>
  ha H1 e _ fun p H2 _ e2 hp => ⟨p, bs, rfl, sq_of (hn p H2 hp), k H2 e2⟩
theorem ev_allL {bs : List Bool} {S : Addr → Hp → Prop} (ha : EvN ta σ H S) (hn : ∀ p H1, S p H1 → H1 p = some (.lst (bs.map V.bl))) : Ev (tCB (rAll K) (tCons ta tNil)) σ H (.bl (bs.all id)) := fun H1 e Q k =>
  ha H1 e _ fun p H2 _ e2 hp => ⟨p, bs, rfl, sq_of (hn p H2 hp), k H2 e2⟩
theorem er_minL {ns : List Int} {S : Addr → Hp → Prop} (ha : EvN ta σ H S) (hn : ∀ p H1, S p H1 → H1 p = some (.lst (ns.map V.int))) (h0 : 0 < ns.length) : EvR (tCB (rMin K) (tCons ta tNil)) σ H (fun v _ => ∃ m, v = .int m ∧ m ∈ ns) := fun H1 e Q k =>
  ha H1 e _ fun p H2 _ e2 hp => ⟨p, ns, rfl, sq_of (hn p H2 hp), h0, fun m hm _ => k _ H2 e2 ⟨m, rfl, hm⟩⟩
/-- a slice of a list, new -/
theorem en_slice {tl th : TO} {a : Addr} {xs : List V} {lo hi : Option Int} (h : Ev te σ H (.ref a)) (h1 : EvO tl σ H lo) (h2 : EvO th σ H hi) (hs : H a = some (.lst xs)) : EvN (tSl (rSlL K) te tl th) σ H (fun q H2 => H2 q = some (.lst (cutV xs lo hi))) := fun H1 e Q k =>
  el_sl h h1 h2 (sq_of hs) H1 e Q fun p H2 n e2 q => k p H2 n e2 q
theorem en_tup {ta : TA} {vs : List V} (h : EvA ta σ H vs) (hl : vs.length ≤ 100000) : EvN (tTup ta) σ H (fun q H2 => H2 q = some (.tup vs)) := fun H1 e Q k => eu_tup h hl H1 e Q fun p H2 n e2 q => k p H2 n e2 q
theorem en_lst {ta : TA} {vs : List V} (h : EvA ta σ H vs) (hl : vs.length ≤ 100000) : EvN (tLst ta) σ H (fun q H2 => H2 q = some (.lst vs)) := fun H1 e Q k => el_lst h hl H1 e Q fun p H2 n e2 q => k p H2 n e2 q
theorem EvN.imp {S S' : Addr → Hp → Prop} (h : EvN te σ H S) (k : ∀ q H1, Ex H H1 → S q H1 → S' q H1) : EvN te σ H S' := fun H1 e Q c => h H1 e Q fun q H2 n e2 s => c q H2 n e2 (k q H2 (e.trans e2) s)
theorem EvR.imp {S S' : V → Hp → Prop} (h : EvR te σ H S) (k : ∀ q H1, Ex H H1 → S q H1 → S' q H1) : EvR te σ H S' := fun H1 e Q c => h H1 e Q fun q H2 e2 s => c q H2 e2 (k q H2 (e.trans e2) s)
theorem EvN.toR {S : Addr → Hp → Prop} (h : EvN te σ H S) : EvR te σ H (fun v H1 => ∃ q, v = .ref q ∧ S q H1) := fun H1 e Q c => h H1 e Q fun q H2 n e2 s => c _ H2 e2 ⟨q, rfl, s⟩
theorem EvR.of {v : V} (h : Ev te σ H v) : EvR te σ H (fun x _ => x = v) := fun H1 e Q c => h H1 e Q fun H2 e2 => c v H2 e2 rfl
theorem Ev.ofR {v : V} {S : V → Hp → Prop} (h : EvR te σ H S) (k : ∀ x H1, S x H1 → x = v) : Ev te σ H v := fun H1 e Q c => h H1 e Q fun x H2 e2 s => by
  rw [k x H2 s]
  exact c H2 e2
/-- arguments one of which is new, or but told -/
def EvAS (ta : TA) (σ : L2.St) (H : Hp) (S : List V → Hp → Prop) : Prop := ∀ H1, Ex H H1 → ∀ Q : List V → Hp → Prop, (∀ vs H2, Ex H1 H2 → S vs H2 → Q vs H2) → ta σ H1 Q
theorem eas_of {ta : TA} {vs : List V} (h : EvA ta σ H vs) : EvAS ta σ H (fun us _ => us = vs) := fun H1 e Q q => h H1 e Q fun H2 e2 => q vs H2 e2 rfl
theorem eas_cons {ta : TA} {S : V → Hp → Prop} {S2 : List V → Hp → Prop} (st : ∀ x H1 H2, Ex H1 H2 → S x H1 → S x H2) (h : EvR te σ H S) (hr : EvAS ta σ H S2) : EvAS (tCons te ta) σ H (fun us H1 => ∃ x vs, us = x :: vs ∧ S x H1 ∧ S2 vs H1) := fun H1 e Q q =>
  h H1 e _ fun x H2 e2 s => hr H2 (e.trans e2) _ fun vs H3 e3 s3 => q _ H3 (e2.trans e3) ⟨x, vs, rfl, st x H2 H3 e3 s, s3⟩
theorem er_callS {sp : Sp} {E : XK} {ta : TA} {SA : List V → Hp → Prop} (h : EvAS ta σ H SA) (hs : ∀ vs H1, Ex H H1 → SA vs H1 → SpR sp (vs ++ []) H1 S) : EvR (tCall sp [] E ta) σ H S := fun H1 e Q q =>
  h H1 e _ fun vs H2 e2 s => hs vs H2 (e.trans e2) s H2 (Ex.refl H2) Q (fun v H3 e3 s3 => q v H3 (e2.trans e3) s3) E
theorem ev_callS {sp : Sp} {E : XK} {ta : TA} {SA : List V → Hp → Prop} (h : EvAS ta σ H SA) (hs : ∀ vs H1, Ex H H1 → SA vs H1 → SpV sp (vs ++ []) H1 z) : Ev (tCall sp [] E ta) σ H z := fun H1 e Q q =>
  h H1 e _ fun vs H2 e2 s => hs vs H2 (e.trans e2) s H2 (Ex.refl H2) Q (fun H3 e3 => q H3 (e2.trans e3)) E

/-! ### statements -/
theorem s_asgR {i : Nat} (h : EvR te σ H S) (k : ∀ v H1, Ex H H1 → S v H1 → D.nx (σ.set i (some v)) H1) : tAsg te (gName i) D σ H := h H (Ex.refl H) _ k
theorem s_asgN {i : Nat} (h : EvN te σ H SN) (k : ∀ q H1, H q = none → Ex H H1 → SN q H1 → D.nx (σ.set i (some (.ref q))) H1) : tAsg te (gName i) D σ H := h H (Ex.refl H) _ k
theorem s_retR (h : EvR te σ H S) (k : RetR S H D.rt) : tRet te D σ H := h H (Ex.refl H) _ k
theorem s_retN (h : EvN te σ H SN) (k : RetN SN H D.rt) : tRet te D σ H := h H (Ex.refl H) _ k
theorem q_asgR {i : Nat} (h : EvR te σ H S) (k : ∀ v H1, Ex H H1 → S v H1 → tz D (σ.set i (some v)) H1) : tSeq (tAsg te (gName i)) tz D σ H := s_asgR (D := { D with nx := tz D }) h k
theorem q_asgN {i : Nat} (h : EvN te σ H SN) (k : ∀ q H1, H q = none → Ex H H1 → SN q H1 → tz D (σ.set i (some (.ref q))) H1) : tSeq (tAsg te (gName i)) tz D σ H := s_asgN (D := { D with nx := tz D }) h k
/-- xs.append(e) -/
theorem s_appR {l : Addr} {xs : List V} (hl : H l = some (.lst xs)) (ha : Ev ta σ H (.ref l)) (h : EvR te σ H S) (hz : xs.length < 100000) (k : ∀ v H1, Ex H H1 → S v H1 → D.nx σ (upd H1 l (.lst (xs ++ [v])))) :
    tDrop (tBM K "list" rAppend ta (tCons te tNil)) D σ H := ha H (Ex.refl H) _ fun H1 e1 =>
  ⟨Or.inl ⟨rfl, xs, sq_of (e1 l _ hl)⟩, h H1 e1 _ fun v H2 e2 s => ⟨l, xs, v, rfl, rfl, e2 l _ (e1 l _ hl), sz_lt hz, k v H2 (e1.trans e2) s⟩⟩
theorem q_appR {l : Addr} {xs : List V} (hl : H l = some (.lst xs)) (ha : Ev ta σ H (.ref l)) (h : EvR te σ H S) (hz : xs.length < 100000) (k : ∀ v H1, Ex H H1 → S v H1 → tz D σ (upd H1 l (.lst (xs ++ [v])))) :
    tSeq (tDrop (tBM K "list" rAppend ta (tCons te tNil))) tz D σ H := s_appR (D := { D with nx := tz D }) hl ha h hz k
/-- xs.extend(a list that is no other's) -/
theorem s_extN {l : Addr} {xs : List V} {n : Nat} (hl : H l = some (.lst xs)) (ha : Ev ta σ H (.ref l)) (h : EvN te σ H SN) (hn : ∀ p H1, SN p H1 → ∃ ys, H1 p = some (.lst ys) ∧ xs.length + ys.length ≤ 100000) (k : ∀ p ys H1, H p = none → Ex H H1 → SN p H1 → H1 p = some (.lst ys) → D.nx σ (upd H1 l (.lst (xs ++ ys)))) :
    tDrop (tBM K "list" rExtend ta (tCons te tNil)) D σ H := ha H (Ex.refl H) _ fun H1 e1 =>
  ⟨Or.inl ⟨rfl, xs, sq_of (e1 l _ hl)⟩, h H1 e1 _ fun p H2 n e2 s => by
    obtain ⟨ys, h1, h2⟩ := hn p H2 s
    exact ⟨l, p, xs, ys, rfl, rfl, e2 l _ (e1 l _ hl), h1, sz_of h2, k p ys H2 (fresh_back e1 n) (e1.trans e2) s h1⟩⟩
/-- xs.extend(a tuple) -/
theorem s_extT {l b : Addr} {xs zs : List V} (hl : H l = some (.lst xs)) (ha : Ev ta σ H (.ref l)) (h : Ev te σ H (.ref b)) (hb : H b = some (.tup zs)) (hz : xs.length + zs.length ≤ 100000) (k : ∀ H1, Ex H H1 → D.nx σ (upd H1 l (.lst (xs ++ zs)))) :
    tDrop (tBM K "list" (rExtT K) ta (tCons te tNil)) D σ H := ha H (Ex.refl H) _ fun H1 e1 =>
  ⟨Or.inl ⟨rfl, xs, sq_of (e1 l _ hl)⟩, h H1 e1 _ fun H2 e2 => ⟨l, b, xs, zs, rfl, rfl, e2 l _ (e1 l _ hl), st_of (e2 b _ (e1 b _ hb)), sz_of hz, k H2 (e1.trans e2)⟩⟩
/-- o.f = e -/
theorem s_fldR {a C dx : Addr} {fs : List (Str × V)} {f : Str} (ha : Ev ta σ H (.ref a)) (hv : EvR te σ H S) (h : H a = some (.ins C dx fs)) (c : Cls K C) (n : NoAttr K C f) (hl : fs.length < 1000) (k : ∀ v H1, Ex H H1 → S v H1 → D.nx σ (upd H1 a (.ins C dx (putF f v fs)))) (st : ∀ x H1 H2, Ex H1 H2 → S x H1 → S x H2) : sFld K ta te f D σ H :=
  hv H (Ex.refl H) _ fun v H1 e1 s => ha H1 e1 _ fun H2 e2 => ⟨a, C, dx, fs, rfl, e2 a _ (e1 a _ h), c, n, hl, k v H2 (e1.trans e2) (st v H1 H2 e2 s)⟩
theorem s_fld {a C dx : Addr} {fs : List (Str × V)} {f : Str} (ha : Ev ta σ H (.ref a)) (hv : Ev te σ H v) (h : H a = some (.ins C dx fs)) (c : Cls K C) (n : NoAttr K C f) (hl : fs.length < 1000) (k : ∀ H1, Ex H H1 → D.nx σ (upd H1 a (.ins C dx (putF f v fs)))) : sFld K ta te f D σ H :=
  hv H (Ex.refl H) _ fun H1 e1 => ha H1 e1 _ fun H2 e2 => ⟨a, C, dx, fs, rfl, e2 a _ (e1 a _ h), c, n, hl, k H2 (e1.trans e2)⟩
theorem s_fldAug {a C dx : Addr} {fs : List (Str × V)} {f : Str} {i j : Int} {z : V} {rd : V → V → Hp → VK → Prop} (ha : Ev ta σ H (.ref a)) (hv : Ev te σ H y) (h : H a = some (.ins C dx fs)) (c : Cls K C) (n : NoAttr K C f) (l : fs.lookup f = some x) (hr : ∀ H1 Q, Q z H1 → rd x y H1 Q) (hl : fs.length < 1000) (k : ∀ H1, Ex H H1 → D.nx σ (upd H1 a (.ins C dx (putF f z fs)))) : sFldAug K ta te rd f D σ H :=
  ha H (Ex.refl H) _ fun H1 e1 => ⟨a, C, dx, fs, x, rfl, e1 a _ h, c, n, l, hv H1 e1 _ fun H2 e2 => hr H2 _ ⟨dx, fs, e2 a _ (e1 a _ h), hl, k H2 (e1.trans e2)⟩⟩
theorem ra_add {i j : Int} (H : Hp) (Q : VK) (q : Q (.int (i + j)) H) : rAdd (.int i) (.int j) H Q := ⟨i, j, rfl, rfl, q⟩
theorem ra_sub {i j : Int} (H : Hp) (Q : VK) (q : Q (.int (i - j)) H) : rSub (.int i) (.int j) H Q := ⟨i, j, rfl, rfl, q⟩
end

/-! ### a comprehension over a list whose items are known -/
section
variable {α β : Type} {K : PySem.W.Frag} {σ : L2.St} {H : Hp} {tl te : TE} {t : TT} {g : TG} {R : RelH α} {R2 : RelH β}
theorem filter_snoc {p : α → Bool} {ws : List α} {i : Nat} {w : α} (h : ws[i]? = some w) : (ws.take (i + 1)).filter p = (ws.take i).filter p ++ (if p w = true then [w] else []) := by
  rw [Fv.take_snoc h, List.filter_append, List.filter_cons]
  rfl
/-- what is said stands when a list is changed -/
def Firm (R : RelH β) : Prop := ∀ (H : Hp) (D : Addr) (xs ys : List V) (x : V) (w : β), H D = some (.lst xs) → R H x w → R (upd H D (.lst ys)) x w
theorem Items.firm {xs zs ys : List V} {ws : List β} {D : Addr} (fm : Firm R2) (h : H D = some (.lst zs)) (it : Items R2 H xs ws) : Items R2 (upd H D (.lst ys)) xs ws := ⟨it.len, fun i x w h1 h2 => fm H D zs ys x w h (it.at_ i x w h1 h2)⟩
theorem lc_main {xs : List V} {ws : List α} {vs : List Nat} (p : α → Bool) (f : α → β) (st : Steady R) (st2 : Steady R2) (fm : Firm R2) (hz : xs.length ≤ 40000)
    (hs : ∀ (i : Nat) (x : V) (w : α) (H1 : Hp), Ex H H1 → xs[i]? = some x → ws[i]? = some w → R H1 x w → ∀ Q : L2.St → Hp → Prop, (∀ σ2 H2, wipe σ2 vs = wipe σ vs → EvT t σ2 H2 (p w) → (p w = true → EvR te σ2 H2 (fun y H3 => R2 H3 y (f w))) → Ex H1 H2 → Q σ2 H2) → g x (wipe σ vs) H1 Q)
    (q : Addr) (H1 : Hp) (e1 : Ex H H1) (hq : H1 q = some (.lst xs)) (it : Items R H1 xs ws) (Q : VK) (k : ∀ D H2, H1 D = none → Ex H1 H2 → ListAt R2 H2 D ((ws.filter p).map f) → Q (.ref D) H2) (D : Addr) (hD : H1 D = none) :
    ∃ W : Nat → Nat → Hp → Prop, (∃ m, W 0 m (upd H1 D (.lst []))) ∧ ∀ i m H, W i m H →
        ((Itl K q).stop i H ∧ Q (.ref D) H) ∨ ((Itl K q).go i H ∧ ∃ Nx : Hp → Prop, (∀ H', Nx H' → ∃ m', m' < m ∧ W (i + 1) m' H') ∧ ∀ x H', (Itl K q).yld i H x H' → g x (wipe σ vs) H' fun σ2 H2 => wipe σ2 vs = wipe σ vs ∧ t σ2 H2 fun b H3 =>
          if b = true then te σ2 H3 fun y H4 => ∃ acc, H4 D = some (.lst acc) ∧ acc.length < sizeLine ∧ Nx (upd H4 D (.lst (acc ++ [y]))) else Nx H3) := by
  refine lc_list (xs := xs) (fun i H' => Ex H1 H' ∧ ∃ ys, H' D = some (.lst ys) ∧ Items R2 H' ys (((ws.take i).filter p).map f)) ⟨Ex.new hD, [], upd_same, Items.nil⟩ (fun i H' _ ⟨e, _⟩ => sq_of (e q _ hq)) (fun i x H' hx ⟨e, ys, hy, iy⟩ => ?_) (fun H' ⟨e, ys, hy, iy⟩ => ?_)
  · obtain ⟨w, hw, rw1⟩ := it.get' hx
    have hi : i < xs.length := (List.getElem?_eq_some_iff.mp hx).1
    have hly : ys.length ≤ i := by
      rw [iy.len, List.length_map]
      refine Nat.le_trans (List.length_filter_le _ _) ?_
      rw [List.length_take]
      omega
    refine hs i x w H' (e1.trans e) hx hw (st _ _ _ _ e rw1) _ fun σ2 H2 hw2 ht he e2 => ⟨hw2, ht H2 (Ex.refl H2) _ fun H3 e3 => ?_⟩
    have e23 := e2.trans e3
    cases hp : p w with
    | true =>
      rw [if_pos rfl]
      refine he hp H3 e3 _ fun y H4 e4 s => ⟨ys, e4 D _ (e23 D _ hy), sz_lt (by omega), Ex.mut ((e.trans e23).trans e4) hD, ys ++ [y], upd_same, ?_⟩
      rw [filter_snoc hw, if_pos hp, List.map_append]
      have h4 := e4 D _ (e23 D _ hy)
      exact ((iy.mono st2 (e23.trans e4)).firm fm h4).snoc (fm H4 D ys _ y _ h4 s)
    | false =>
      rw [if_neg (by decide)]
      refine ⟨e.trans e23, ys, e23 D _ hy, ?_⟩
      rw [filter_snoc hw, hp, if_neg (by decide), List.append_nil]
      exact iy.mono st2 e23
  · refine k D H' hD e ⟨ys, hy, ?_⟩
    have e2 : ws.take xs.length = ws := List.take_of_length_le (by rw [it.len]; exact Nat.le_refl _)
    rw [e2] at iy
    exact iy
/-- over a list that stands -/
theorem en_lcE {a : Addr} {xs : List V} {ws : List α} {vs : List Nat} (p : α → Bool) (f : α → β) (st : Steady R) (st2 : Steady R2) (fm : Firm R2) (h : Ev tl σ H (.ref a)) (ha : H a = some (.lst xs)) (it : Items R H xs ws) (hz : xs.length ≤ 40000)
    (hs : ∀ (i : Nat) (x : V) (w : α) (H1 : Hp), Ex H H1 → xs[i]? = some x → ws[i]? = some w → R H1 x w → ∀ Q : L2.St → Hp → Prop, (∀ σ2 H2, wipe σ2 vs = wipe σ vs → EvT t σ2 H2 (p w) → (p w = true → EvR te σ2 H2 (fun y H3 => R2 H3 y (f w))) → Ex H1 H2 → Q σ2 H2) → g x (wipe σ vs) H1 Q) :
    EvN (tLc (iList K tl) g t te vs) σ H (fun q H1 => ListAt R2 H1 q ((ws.filter p).map f)) := fun H1 e Q k => h H1 e _ fun H2 e2 =>
  ⟨a, rfl, ⟨xs, sq_of (e2 a _ (e a _ ha))⟩, fun D hD => lc_main p f st st2 fm hz hs a H2 (e.trans e2) (e2 a _ (e a _ ha)) (it.mono st (e.trans e2)) Q (fun D H3 n e3 s => k D H3 (fresh_back e2 n) (e2.trans e3) s) D hD⟩
/-- over a list made on the way -/
theorem en_lcN {ws : List α} {vs : List Nat} (p : α → Bool) (f : α → β) (st : Steady R) (st2 : Steady R2) (fm : Firm R2) (h : EvN tl σ H (fun q H1 => ListAt R H1 q ws)) (hz : ws.length ≤ 40000)
    (hs : ∀ (x : V) (w : α) (H1 : Hp), Ex H H1 → w ∈ ws → R H1 x w → ∀ Q : L2.St → Hp → Prop, (∀ σ2 H2, wipe σ2 vs = wipe σ vs → EvT t σ2 H2 (p w) → (p w = true → EvR te σ2 H2 (fun y H3 => R2 H3 y (f w))) → Ex H1 H2 → Q σ2 H2) → g x (wipe σ vs) H1 Q) :
    EvN (tLc (iList K tl) g t te vs) σ H (fun q H1 => ListAt R2 H1 q ((ws.filter p).map f)) := fun H1 e Q k => h H1 e _ fun a H2 n2 e2 s => by
  obtain ⟨xs, hx, it⟩ := s
  exact ⟨a, rfl, ⟨xs, sq_of hx⟩, fun D hD => lc_main p f st st2 fm (by rw [it.len]; exact hz) (fun i x w H3 e3 h1 h2 r => hs x w H3 e3 (List.mem_of_getElem? h2) r) a H2 (e.trans e2) hx it Q (fun D H3 n e3 s => k D H3 (fresh_back e2 n) (e2.trans e3) s) D hD⟩
/-- the target a name -/
theorem hs_name {xs : List V} {ws : List α} {vs : List Nat} {j : Nat} (p : α → Bool) (f : α → β) (hw : ∀ x, wipe ((wipe σ vs).set j (some x)) vs = wipe σ vs)
    (ht : ∀ (x : V) (w : α) (H1 : Hp), Ex H H1 → w ∈ ws → R H1 x w → EvT t ((wipe σ vs).set j (some x)) H1 (p w)) (he : ∀ (x : V) (w : α) (H1 : Hp), Ex H H1 → w ∈ ws → p w = true → R H1 x w → EvR te ((wipe σ vs).set j (some x)) H1 (fun y H3 => R2 H3 y (f w))) :
    ∀ (x : V) (w : α) (H1 : Hp), Ex H H1 → w ∈ ws → R H1 x w → ∀ Q : L2.St → Hp → Prop, (∀ σ2 H2, wipe σ2 vs = wipe σ vs → EvT t σ2 H2 (p w) → (p w = true → EvR te σ2 H2 (fun y H3 => R2 H3 y (f w))) → Ex H1 H2 → Q σ2 H2) → gName j x (wipe σ vs) H1 Q :=
  fun x w H1 e hm r Q k => k _ H1 (hw x) (ht x w H1 e hm r) (fun hp => he x w H1 e hm hp r) (Ex.refl H1)
theorem en_lcEn {a : Addr} {xs : List V} {ws : List α} {vs : List Nat} {j : Nat} (p : α → Bool) (f : α → β) (st : Steady R) (st2 : Steady R2) (fm : Firm R2) (h : Ev tl σ H (.ref a)) (ha : H a = some (.lst xs)) (it : Items R H xs ws) (hz : xs.length ≤ 40000) (hw : ∀ x, wipe ((wipe σ vs).set j (some x)) vs = wipe σ vs)
    (ht : ∀ (x : V) (w : α) (H1 : Hp), Ex H H1 → w ∈ ws → R H1 x w → EvT t ((wipe σ vs).set j (some x)) H1 (p w)) (he : ∀ (x : V) (w : α) (H1 : Hp), Ex H H1 → w ∈ ws → p w = true → R H1 x w → EvR te ((wipe σ vs).set j (some x)) H1 (fun y H3 => R2 H3 y (f w))) :
    EvN (tLc (iList K tl) (gName j) t te vs) σ H (fun q H1 => ListAt R2 H1 q ((ws.filter p).map f)) :=
  en_lcE p f st st2 fm h ha it hz fun i x w H1 e1 _ h2 r => hs_name (xs := xs) (ws := ws) p f hw ht he x w H1 e1 (List.mem_of_getElem? h2) r
theorem en_lcNn {ws : List α} {vs : List Nat} {j : Nat} (p : α → Bool) (f : α → β) (st : Steady R) (st2 : Steady R2) (fm : Firm R2) (h : EvN tl σ H (fun q H1 => ListAt R H1 q ws)) (hz : ws.length ≤ 40000) (hw : ∀ x, wipe ((wipe σ vs).set j (some x)) vs = wipe σ vs)
    (ht : ∀ (x : V) (w : α) (H1 : Hp), Ex H H1 → w ∈ ws → R H1 x w → EvT t ((wipe σ vs).set j (some x)) H1 (p w)) (he : ∀ (x : V) (w : α) (H1 : Hp), Ex H H1 → w ∈ ws → p w = true → R H1 x w → EvR te ((wipe σ vs).set j (some x)) H1 (fun y H3 => R2 H3 y (f w))) :
    EvN (tLc (iList K tl) (gName j) t te vs) σ H (fun q H1 => ListAt R2 H1 q ((ws.filter p).map f)) :=
  en_lcN p f st st2 fm h hz (hs_name (xs := []) p f hw ht he)
/-- over a range -/
theorem en_lcR {ta : TA} {vs : List Nat} {j n : Nat} (p : Nat → Bool) (h : EvA ta σ H [nV n]) (hn : n ≤ 40000) (hw : ∀ x, wipe ((wipe σ vs).set j (some x)) vs = wipe σ vs)
    (ht : ∀ (i : Nat) H1, Ex H H1 → i < n → EvT t ((wipe σ vs).set j (some (nV i))) H1 (p i)) (he : ∀ (i : Nat) H1, Ex H H1 → i < n → Ev te ((wipe σ vs).set j (some (nV i))) H1 (nV i)) :
    EvN (tLc (iRng1 ta) (gName j) t te vs) σ H (fun q H1 => H1 q = some (.lst (nums ((List.range n).filter p)))) := fun H1 e Q k =>
  el_lcR1 p (fun i => nV i) h (by omega) hw (fun i H1 e hi => ht i H1 e (by omega)) (fun i H1 e hi _ => he i H1 e (by omega)) H1 e Q fun q H2 n2 e2 s => k q H2 n2 e2 (by
    have e3 : ((n : Nat) : Int).toNat = n := Int.toNat_natCast n
    rw [e3] at s
    exact s)
end
theorem FoldR.firm : Firm FoldR := fun H D xs ys x w h ⟨q, h1, h2⟩ => ⟨q, h1, by rw [upd_ne (ne_of h2 h (by intro z; cases z))]; exact h2⟩
theorem RowR.firm : Firm RowR := fun H D xs ys x w h ⟨q, h1, h2⟩ => ⟨q, h1, by rw [upd_ne (ne_of h2 h (by intro z; cases z))]; exact h2⟩
theorem NRowR.firm : Firm NRowR := fun H D xs ys x w h ⟨q, y, h1, h2, h3⟩ => ⟨q, y, h1, by rw [upd_ne (ne_of h2 h (by intro z; cases z))]; exact h2, RowR.firm H D xs ys y _ h h3⟩
theorem IntR.firm : Firm IntR := fun H D xs ys x w h r => r
theorem BoolR.firm : Firm BoolR := fun H D xs ys x w h r => r
theorem bools_of {H : Hp} {q : Addr} {bs : List Bool} (h : ListAt BoolR H q bs) : H q = some (.lst (bs.map V.bl)) := by
  obtain ⟨xs, h1, h2⟩ := h
  have e : xs = bs.map V.bl := Items.vals (H := H) (f := V.bl) ⟨h2.len, h2.at_⟩
  rw [← e]
  exact h1
theorem nums_of {H : Hp} {q : Addr} {w : List Nat} (h : ListAt IntR H q w) : H q = some (.lst (nums w)) := by
  obtain ⟨xs, h1, h2⟩ := h
  have e : xs = nums w := Items.vals (H := H) (f := nV) ⟨h2.len, h2.at_⟩
  rw [← e]
  exact h1
end Fw
/-! What each def promises. -/
namespace Fw
open PySem PySem.Spec PyProof.Rows L2 Evl


/-- the classes: Page, Look, Refused -/
structure Cc where
  CP : Addr
  CL : Addr
  CR : Addr
  /-- a list that is none of the page's -/
  FD : Option Addr

/-! ### objects -/
def lF (w t m h x : Nat) : List (Str × V) := [("wide", nV w), ("tab", nV t), ("more", nV m), ("hang", nV h), ("words", nV x)]
def LookAt (c : Cc) (H : Hp) (p : Addr) (k : Ue07.Look) : Prop := ∃ dx, H p = some (.ins c.CL dx (lF k.wide k.tab k.more k.hang.toNat k.words.toNat))
def wV : Option Nat → V
  | none => .non
  | some n => nV n
def pF (pl ps pf : Addr) (g : Ue07.St) : List (Str × V) :=
  [("lines", .ref pl), ("shape", .ref ps), ("folds", .ref pf), ("line", nV g.line), ("place", nV g.place), ("wished", wV g.wish), ("top", nV g.top), ("high", nV g.high), ("told_margin", nV g.margin)]
/-- the heap without one object, and without the list that is none of the page's -/
def hide (c : Cc) (H : Hp) (D : Addr) : Hp := fun b => if b = D ∨ c.FD = some b then none else H b
def hid (c : Cc) (H : Hp) : Hp := fun b => if c.FD = some b then none else H b
def Fk (c : Cc) (H : Hp) : Prop := ∀ D, c.FD = some D → ∃ o, H D = some o
def c0 (c : Cc) : Cc := { c with FD := none }
def PageAt (c : Cc) (H : Hp) (p pf : Addr) (g : Ue07.St) : Prop :=
  ∃ dx pl ps, H p = some (.ins c.CP dx (pF pl ps pf g)) ∧ LookAt c H ps g.look ∧ ListAt LineR (hide c H pf) pl g.lines ∧ ListAt FoldR H pf g.folds
/-- all but the page and its list of folds stands -/
def Kp (p pf : Addr) (H H' : Hp) : Prop := ∀ b o, H b = some o → b ≠ p → b ≠ pf → H' b = some o
/-- a new list of whole numbers -/
def NewL (H : Hp) (v : V) (H' : Hp) (l : List Int) : Prop := ∃ q, v = .ref q ∧ H q = none ∧ H' q = some (.lst (l.map V.int))
def pAns (g : Ue07.St) : List Int := [(g.line : Int), (g.place : Int), (Ue07.pointRow g : Int) - (g.top : Int), (Ue07.pointCol g : Int)]
/-- what follows where the page came to be g' -/
def RetG (c : Cc) (p pf : Addr) (H : Hp) (S : V → Hp → Prop) (g' : Ue07.St) (Q : VK) : Prop := ∀ v H' pf', Kp p pf H H' → (∀ b, H' b = none → H b = none) → (pf' = pf ∨ H pf' = none) → PageAt c H' p pf' g' → S v H' → Q v H'
def Refuses (c : Cc) (H : Hp) (n : Int) (E : XK) : Prop := ∀ d H', Ex H H' → H d = none → H' d = some (.xd [("code", .int n)]) → E (.ref c.CR) (some d) H'
/-- a call by the specification -/
def Does (c : Cc) (call : Ue07.Call) (p pf : Addr) (g : Ue07.St) (H : Hp) (Q : VK) (E : XK) : Prop :=
  (∀ n : Int, n < 0 → Ue07.step g call = (g, [n]) → Refuses c H n E) ∧ RetG c p pf H (fun v H' => NewL H v H' (Ue07.step g call).2) (Ue07.step g call).1 Q

/-! ### folds -/
def sp_hides (c : Cc) : Sp := fun vs H Q _ => ∃ (x : V) (f : Ue07.Fold) (n : Nat), vs = [x, nV n] ∧ FoldR H x f ∧ RetV (.bl (Ue07.hides f n)) H Q
def sp_has (c : Cc) : Sp := fun vs H Q _ => ∃ (x : V) (f : Ue07.Fold) (n : Nat), vs = [x, nV n] ∧ FoldR H x f ∧ RetV (.bl (Fv.hasP f n)) H Q
def sp_is_seen (c : Cc) : Sp := fun vs H Q _ => ∃ (q : Addr) (l : List Ue07.Fold) (n : Nat), vs = [.ref q, nV n] ∧ ListAt FoldR H q l ∧ l.length ≤ 100 ∧ RetV (.bl (!Ue07.hidden l n)) H Q
def sp_are_well (c : Cc) : Sp := fun vs H Q _ => ∃ (x y : V) (f g : Ue07.Fold), vs = [x, y] ∧ FoldR H x f ∧ FoldR H y g ∧ RetV (.bl (Fv.wellP f g)) H Q
def sp_seen_for (c : Cc) : Sp := fun vs H Q _ => ∃ (q : Addr) (l : List Ue07.Fold) (n : Nat), vs = [.ref q, nV n] ∧ ListAt FoldR H q l ∧ l.length ≤ 100 ∧ RetV (nV (Fv.seenAt l n)) H Q
def BehindR (H : Hp) (v : V) : Option Ue07.Fold → Prop
  | none => v = .non
  | some f => FoldR H v f
def sp_fold_behind (c : Cc) : Sp := fun vs H Q _ => ∃ (x : V) (f : Ue07.Fold) (a b n : Nat), vs = [x, nV a, nV b, .int ((n : Int) - ((b : Int) - (a : Int)))] ∧ a ≤ b ∧ f.1 ≤ f.2 ∧ FoldR H x f ∧ RetR (fun v H' => BehindR H' v (Fv.behindOf a b n f)) H Q
def sp_folds_behind (c : Cc) : Sp := fun vs H Q _ => ∃ (q : Addr) (l : List Ue07.Fold) (a b n : Nat), vs = [.ref q, nV a, nV b, .int ((n : Int) - ((b : Int) - (a : Int)))] ∧ a ≤ b ∧ ListAt FoldR H q l ∧ l.length ≤ 100 ∧ (∀ f ∈ l, f.1 ≤ f.2) ∧
  RetN (fun q' H' => ListAt FoldR H' q' (Fv.behindTo a b n l)) H Q

/-! ### looks -/
def sp_Look_init (c : Cc) : Sp := fun vs H Q _ => ∃ (p dx : Addr) (w t m h x : Nat), vs = [.ref p, nV w, nV t, nV m, nV h, nV x] ∧ H p = some (.ins c.CL dx []) ∧
  ∀ H', H' p = some (.ins c.CL dx (lF w t m h x)) → (∀ b o, H b = some o → b ≠ p → H' b = some o) → Q .non H'
def sp_is_look (c : Cc) : Sp := fun vs H Q _ => ∃ (w t m : Nat), vs = [nV w, nV t, nV m] ∧ RetV (.bl (Fv.lookOkN w t m)) H Q
def sp_is_blank (c : Cc) : Sp := fun vs H Q _ => ∃ b : Nat, vs = [nV b] ∧ RetV (.bl (Ue07.isBlank b)) H Q
def sp_column_behind (c : Cc) : Sp := fun vs H Q _ => ∃ (p : Addr) (k : Ue07.Look) (b n : Nat), vs = [.ref p, nV b, nV n] ∧ LookAt c H p k ∧ 1 ≤ k.tab ∧ RetV (nV (n + Ue07.cost k n b)) H Q
def sp_columns_behind (c : Cc) : Sp := fun vs H Q _ => ∃ (p q : Addr) (k : Ue07.Look) (w : List Nat) (n : Nat), vs = [.ref p, .ref q, nV n] ∧ LookAt c H p k ∧ 1 ≤ k.tab ∧ H q = some (.lst (nums w)) ∧ RetV (nV (Ue07.behind k n w)) H Q
def sp_many_blanks (c : Cc) : Sp := fun vs H Q _ => ∃ (q : Addr) (w : List Nat), vs = [.ref q] ∧ H q = some (.lst (nums w)) ∧ RetV (nV (w.takeWhile Ue07.isBlank).length) H Q
def sp_inset_of (c : Cc) : Sp := fun vs H Q _ => ∃ (p q : Addr) (k : Ue07.Look) (w : List Nat), vs = [.ref p, .ref q] ∧ LookAt c H p k ∧ 1 ≤ k.tab ∧ H q = some (.lst (nums w)) ∧ RetV (nV (Ue07.inset k w)) H Q
def sp_many_fit (c : Cc) : Sp := fun vs H Q _ => ∃ (p q : Addr) (k : Ue07.Look) (w : List Nat) (n : Nat), vs = [.ref p, .ref q, nV n] ∧ LookAt c H p k ∧ 1 ≤ k.tab ∧ H q = some (.lst (nums w)) ∧ w ≠ [] ∧ RetV (nV (max 1 (Ue07.fits k n w))) H Q
def sp_by_words (c : Cc) : Sp := fun vs H Q _ => ∃ (q : Addr) (w : List Nat) (n : Nat), vs = [.ref q, nV n] ∧ H q = some (.lst (nums w)) ∧ n < w.length ∧ w.length ≤ 1000 ∧ RetV (nV (Fv.wordsTake w n)) H Q
def sp_many_taken (c : Cc) : Sp := fun vs H Q _ => ∃ (p q : Addr) (k : Ue07.Look) (w : List Nat) (n : Nat), vs = [.ref p, .ref q, nV n] ∧ LookAt c H p k ∧ 1 ≤ k.tab ∧ H q = some (.lst (nums w)) ∧ w ≠ [] ∧ w.length ≤ 1000 ∧ RetV (nV (Ue07.rowLength k n w)) H Q
def sp_rows_of (c : Cc) : Sp := fun vs H Q _ => ∃ (p q : Addr) (k : Ue07.Look) (w : List Nat), vs = [.ref p, .ref q] ∧ LookAt c H p k ∧ 1 ≤ k.tab ∧ H q = some (.lst (nums w)) ∧ w.length ≤ 1000 ∧ RetN (fun q' H' => ListAt RowR H' q' (Ue07.rows k w)) H Q
def sp_is_in (c : Cc) : Sp := fun vs H Q _ => ∃ (q : Addr) (x : V) (w : List Nat) (r : Ue07.Row) (n : Nat), vs = [.ref q, x, nV n] ∧ H q = some (.lst (nums w)) ∧ RowR H x r ∧ RetV (.bl (decide (n < r.b) || decide (r.b = w.length))) H Q
def sp_row_with (c : Cc) : Sp := fun vs H Q _ => ∃ (p q : Addr) (k : Ue07.Look) (w : List Nat) (n : Nat), vs = [.ref p, .ref q, nV n] ∧ LookAt c H p k ∧ 1 ≤ k.tab ∧ H q = some (.lst (nums w)) ∧ w.length ≤ 1000 ∧ RetV (nV (Ue07.rowAt k w n).1) H Q
def sp_column_in (c : Cc) : Sp := fun vs H Q _ => ∃ (p q : Addr) (x : V) (k : Ue07.Look) (w : List Nat) (r : Ue07.Row) (n : Nat), vs = [.ref p, .ref q, x, nV n] ∧ LookAt c H p k ∧ 1 ≤ k.tab ∧ H q = some (.lst (nums w)) ∧ RowR H x r ∧
  RetV (nV (Ue07.behind k r.col ((w.take n).drop r.a))) H Q
def sp_place_for (c : Cc) : Sp := fun vs H Q _ => ∃ (p q : Addr) (x : V) (k : Ue07.Look) (w : List Nat) (r : Ue07.Row) (n : Nat), vs = [.ref p, .ref q, x, nV n] ∧ LookAt c H p k ∧ 1 ≤ k.tab ∧ H q = some (.lst (nums w)) ∧ w.length ≤ 1000 ∧ RowR H x r ∧
  (r.a ≤ r.b ∧ r.b ≤ w.length ∧ (r.b < w.length → r.a < r.b)) ∧ RetV (nV (Ue07.placeIn k w r n)) H Q

/-! ### page: refusals, lines -/
def sp_want (c : Cc) : Sp := fun vs H Q E => ∃ (b : Bool) (n : Int), vs = [.bl b, .int n] ∧ (b = true → RetV .non H Q) ∧ (b = false → Refuses c H n E)
def sp_is_line (c : Cc) : Sp := fun vs H Q _ => ∃ (q : Addr) (w : List Nat), vs = [.ref q] ∧ H q = some (.lst (nums w)) ∧ w.length ≤ 5000 ∧ RetV (.bl (decide (w.length ≤ 120) && w.all fun b => decide (b ≤ 255) && b != 10)) H Q
def sp_are_lines (c : Cc) : Sp := fun vs H Q _ => ∃ (q : Addr) (ls : List (List Nat)), vs = [.ref q] ∧ ListAt LineR H q ls ∧ ls.length ≤ 5000 ∧ (∀ w ∈ ls, w.length ≤ 5000) ∧ RetV (.bl (Ue07.isLines ls)) H Q

/-! ### the page's methods -/
def sp_Page_init (c : Cc) : Sp := fun vs H Q _ => ∃ (p dx : Addr), vs = [.ref p] ∧ H p = some (.ins c.CP dx []) ∧
  ∀ H' pf, H pf = none → (∀ b o, H b = some o → b ≠ p → H' b = some o) → PageAt (c0 c) H' p pf Ue07.init → Q .non H'
def sp_margin (c : Cc) : Sp := fun vs H Q _ => ∃ (p pf : Addr) (g : Ue07.St), vs = [.ref p] ∧ PageAt c H p pf g ∧ 1 ≤ g.high ∧ RetV (nV (Fv.marginOf g)) H Q
def sp_rows (c : Cc) : Sp := fun vs H Q _ => ∃ (p pf : Addr) (g : Ue07.St), vs = [.ref p] ∧ PageAt c H p pf g ∧ Fv.Text g ∧ RetN (fun q H' => ListAt NRowR H' q (Ue07.allRows g)) H Q
def sp_row_at (c : Cc) : Sp := fun vs H Q _ => ∃ (p pf : Addr) (g : Ue07.St) (n m : Nat), vs = [.ref p, nV n, nV m] ∧ PageAt c H p pf g ∧ Fv.Text g ∧ n < g.lines.length ∧ RetV (nV (Ue07.rowsAhead g n + (Ue07.rowAt g.look (Ue07.lineAt g n) m).1)) H Q
def sp_own_row (c : Cc) : Sp := fun vs H Q _ => ∃ (p pf : Addr) (g : Ue07.St), vs = [.ref p] ∧ PageAt c H p pf g ∧ Fv.Text g ∧ g.line < g.lines.length ∧ RetV (nV (Ue07.pointRow g)) H Q
def sp_column_at (c : Cc) : Sp := fun vs H Q _ => ∃ (p pf : Addr) (g : Ue07.St) (n m : Nat), vs = [.ref p, nV n, nV m] ∧ PageAt c H p pf g ∧ Fv.Text g ∧ n < g.lines.length ∧ RetV (nV (Ue07.colAt g.look (Ue07.lineAt g n) m)) H Q
def sp_told (c : Cc) : Sp := fun vs H Q _ => ∃ (p pf : Addr) (g : Ue07.St), vs = [.ref p] ∧ PageAt c H p pf g ∧ Fv.Text g ∧ g.line < g.lines.length ∧ RetN (fun q H' => H' q = some (.lst ((pAns g).map V.int))) H Q
def sp_scrolled (c : Cc) : Sp := fun vs H Q _ => ∃ (p pf : Addr) (g : Ue07.St), vs = [.ref p] ∧ PageAt c H p pf g ∧ Fv.Text g ∧ g.line < g.lines.length ∧ RetG c p pf H (fun v H' => NewL H v H' (pAns (Ue07.scrolled g))) (Ue07.scrolled g) Q
def sp_last_top (c : Cc) : Sp := fun vs H Q _ => ∃ (p pf : Addr) (g : Ue07.St), vs = [.ref p] ∧ PageAt c H p pf g ∧ Fv.Text g ∧ RetV (nV (Ue07.rowCount g - g.high)) H Q
def sp_settled (c : Cc) : Sp := fun vs H Q _ => ∃ (p pf : Addr) (g : Ue07.St), vs = [.ref p] ∧ PageAt c H p pf g ∧ Fv.Text g ∧ g.line < g.lines.length ∧ RetG c p pf H (fun v H' => NewL H v H' (pAns (Fv.settledP g))) (Fv.settledP g) Q
def sp_put_into (c : Cc) : Sp := fun vs H Q _ => ∃ (p pf : Addr) (g : Ue07.St) (i : Nat) (x : Nat × Ue07.Row), vs = [.ref p, nV i] ∧ PageAt c H p pf g ∧ Fv.Text g ∧ g.line < g.lines.length ∧ (Ue07.allRows g)[i]? = some x ∧ RetG c p pf H (fun v _ => v = .non) (Fv.putTo g x) Q
def sp_look (c : Cc) : Sp := fun vs H Q E => ∃ (p pf : Addr) (g : Ue07.St) (k : Ue07.Look), vs = [.ref p, nV k.wide, nV k.tab, nV k.more, nV k.hang.toNat, nV k.words.toNat] ∧ PageAt c H p pf g ∧ Fv.Good g ∧ Does c (.look k) p pf g H Q E
def sp_window (c : Cc) : Sp := fun vs H Q E => ∃ (p pf : Addr) (g : Ue07.St) (h m : Nat), vs = [.ref p, nV h, nV m] ∧ PageAt c H p pf g ∧ Fv.Good g ∧ Does c (.window h m) p pf g H Q E
def SomeLines (ls : List (List Nat)) : Prop := ls.length ≤ 5000 ∧ ∀ w ∈ ls, w.length ≤ 5000
def sp_text (c : Cc) : Sp := fun vs H Q E => ∃ (p pf q : Addr) (g : Ue07.St) (ls : List (List Nat)), vs = [.ref p, .ref q] ∧ PageAt c H p pf g ∧ Fv.Good g ∧ ListAt LineR (hid c H) q ls ∧ SomeLines ls ∧ Does c (.text ls) p pf g H Q E
def sp_edit (c : Cc) : Sp := fun vs H Q E => ∃ (p pf q : Addr) (g : Ue07.St) (a b : Nat) (ls : List (List Nat)), vs = [.ref p, nV a, nV b, .ref q] ∧ Fk c H ∧ PageAt c H p pf g ∧ Fv.Good g ∧ ListAt LineR (hid c H) q ls ∧ SomeLines ls ∧ Does c (.edit a b ls) p pf g H Q E
def sp_fold (c : Cc) : Sp := fun vs H Q E => ∃ (p pf : Addr) (g : Ue07.St) (a b : Nat), vs = [.ref p, nV a, nV b] ∧ PageAt c H p pf g ∧ Fv.Good g ∧ Does c (.fold a b) p pf g H Q E
def sp_unfold (c : Cc) : Sp := fun vs H Q E => ∃ (p pf : Addr) (g : Ue07.St) (n : Nat), vs = [.ref p, nV n] ∧ PageAt c H p pf g ∧ Fv.Good g ∧ Does c (.unfold_ n) p pf g H Q E
def sp_want_place (c : Cc) : Sp := fun vs H Q E => ∃ (p pf : Addr) (g : Ue07.St) (n m : Nat), vs = [.ref p, nV n, nV m] ∧ PageAt c H p pf g ∧ (n < g.lines.length ∧ m ≤ (Ue07.lineAt g n).length → RetV .non H Q) ∧ (¬ (n < g.lines.length ∧ m ≤ (Ue07.lineAt g n).length) → Refuses c H (-1) E)
def sp_goto (c : Cc) : Sp := fun vs H Q E => ∃ (p pf : Addr) (g : Ue07.St) (n m : Nat), vs = [.ref p, nV n, nV m] ∧ PageAt c H p pf g ∧ Fv.Good g ∧ Does c (.goto n m) p pf g H Q E
def sp_up (c : Cc) : Sp := fun vs H Q E => ∃ (p pf : Addr) (g : Ue07.St) (n : Nat), vs = [.ref p, nV n] ∧ PageAt c H p pf g ∧ Fv.Good g ∧ Does c (.up n) p pf g H Q E
def sp_down (c : Cc) : Sp := fun vs H Q E => ∃ (p pf : Addr) (g : Ue07.St) (n : Nat), vs = [.ref p, nV n] ∧ PageAt c H p pf g ∧ Fv.Good g ∧ Does c (.down n) p pf g H Q E
def sp_step_left (c : Cc) : Sp := fun vs H Q _ => ∃ (p pf : Addr) (g : Ue07.St), vs = [.ref p] ∧ PageAt c H p pf g ∧ Fv.Text g ∧ Fv.Pt g ∧ RetG c p pf H (fun v _ => v = .non) (Ue07.oneLeft g) Q
def sp_step_right (c : Cc) : Sp := fun vs H Q _ => ∃ (p pf : Addr) (g : Ue07.St), vs = [.ref p] ∧ PageAt c H p pf g ∧ Fv.Text g ∧ Fv.Pt g ∧ RetG c p pf H (fun v _ => v = .non) (Ue07.oneRight g) Q
def sp_left (c : Cc) : Sp := fun vs H Q E => ∃ (p pf : Addr) (g : Ue07.St) (n : Nat), vs = [.ref p, nV n] ∧ PageAt c H p pf g ∧ Fv.Good g ∧ Does c (.left n) p pf g H Q E
def sp_right (c : Cc) : Sp := fun vs H Q E => ∃ (p pf : Addr) (g : Ue07.St) (n : Nat), vs = [.ref p, nV n] ∧ PageAt c H p pf g ∧ Fv.Good g ∧ Does c (.right n) p pf g H Q E
def sp_first_free (c : Cc) : Sp := fun vs H Q _ => ∃ (p pf : Addr) (g : Ue07.St), vs = [.ref p] ∧ PageAt c H p pf g ∧ 1 ≤ g.high ∧ RetV (nV (Fv.firstFree g)) H Q
def sp_last_free (c : Cc) : Sp := fun vs H Q _ => ∃ (p pf : Addr) (g : Ue07.St), vs = [.ref p] ∧ PageAt c H p pf g ∧ Fv.Text g ∧ 0 < Ue07.rowCount g ∧ RetV (nV (Fv.lastFree g)) H Q
def sp_scroll (c : Cc) : Sp := fun vs H Q E => ∃ (p pf : Addr) (g : Ue07.St) (b : Bool) (n : Nat), vs = [.ref p, nV b.toNat, nV n] ∧ PageAt c H p pf g ∧ Fv.Good g ∧ Does c (.scroll b n) p pf g H Q E
def sp_shows (c : Cc) : Sp := fun vs H Q E => ∃ (p pf : Addr) (g : Ue07.St), vs = [.ref p] ∧ PageAt c H p pf g ∧ Fv.Good g ∧ Does c .shows p pf g H Q E
def sp_rows_told (c : Cc) : Sp := fun vs H Q E => ∃ (p pf : Addr) (g : Ue07.St) (n : Nat), vs = [.ref p, nV n] ∧ PageAt c H p pf g ∧ Fv.Good g ∧ Does c (.rows n) p pf g H Q E
def sp_at (c : Cc) : Sp := fun vs H Q E => ∃ (p pf : Addr) (g : Ue07.St) (n m : Nat), vs = [.ref p, nV n, nV m] ∧ PageAt c H p pf g ∧ Fv.Good g ∧ Does c (.at_ n m) p pf g H Q E
def sp_where (c : Cc) : Sp := fun vs H Q E => ∃ (p pf : Addr) (g : Ue07.St) (n m : Nat), vs = [.ref p, nV n, nV m] ∧ PageAt c H p pf g ∧ Fv.Good g ∧ Does c (.where_ n m) p pf g H Q E

/-! ### view -/
def sp_lines_in (c : Cc) : Sp := fun vs H Q _ => ∃ (q : Addr) (w : List Nat) (ls : List (List Nat)), vs = [.ref q] ∧ Fk c H ∧ H q = some (.lst (nums w)) ∧ w.length ≤ 5000 ∧ Ue07Neutral.linesIn (w.length + 1) w = some ls ∧ RetN (fun q' H' => ListAt LineR (hid c H') q' ls) H Q
def spPart (c : Cc) (lo hi : Nat) : Sp := fun vs H Q E => ∃ (p pf q : Addr) (g : Ue07.St) (k : Nat) (w : List Nat) (call : Ue07.Call), vs = [.ref p, nV k, .ref q] ∧ lo ≤ k ∧ k ≤ hi ∧ Fk c H ∧ PageAt c H p pf g ∧ Fv.Good g ∧ H q = some (.lst (nums w)) ∧ w.length ≤ 4000 ∧
  Ue07Neutral.callIn (k :: w) = some call ∧ Does c call p pf g H Q E
def sp_changed (c : Cc) : Sp := spPart c 0 5
def sp_moved (c : Cc) : Sp := spPart c 6 11
def sp_looked (c : Cc) : Sp := spPart c 12 16
def sp_asked (c : Cc) : Sp := spPart c 0 16
def sp_answered (c : Cc) : Sp := fun vs H Q _ => ∃ (p pf q : Addr) (g : Ue07.St) (w : List Nat) (call : Ue07.Call), vs = [.ref p, .ref q] ∧ Fk c H ∧ PageAt c H p pf g ∧ Fv.Good g ∧ H q = some (.lst (nums w)) ∧ w.length ≤ 4001 ∧
  Ue07Neutral.callIn w = some call ∧ RetG c p pf H (fun v H' => NewL H v H' (Ue07.step g call).2) (Ue07.step g call).1 Q
end Fw
/-! What the top has written: the facts that the walk leans on. -/
namespace Fw
open PySem PySem.Spec PyProof.Rows L2 Evl

def topS (i : Nat) : Stmt := PySem.Challenge.pw_foldview_s01_answers.main.body.getD i (.Pass ⟨0, 0, 0, 0⟩)
section
variable (K : PySem.W.Frag) (mg : Str → Option Value)
structure DefAt (x : Str) (st : Stmt) (ps : List Str) : Prop where
  ex : ∃ (f : Addr) (fd : FuncData), Fun K x x st f fd ∧ mg x = some (.ref f) ∧ Binds K fd ps []
structure MethAt (C : Addr) (x qual : Str) (st : Stmt) (ps : List Str) : Prop where
  ex : ∃ (f : Addr) (fd : FuncData), Fun K x qual st f fd ∧ Meth K C x f ∧ Binds K fd ps []
structure InitAt (C : Addr) (x qual : Str) (st : Stmt) (ps : List Str) : Prop where
  ex : ∃ (f : Addr) (fd : FuncData), Fun K "__init__" qual st f fd ∧ Mk K C f ∧ mg x = some (.ref C) ∧ Binds K fd ps []
/-- names, numbers, classes -/
structure Txt (c : Cc) : Prop where
  n_len : mg "len" = none
  n_any : mg "any" = none
  n_all : mg "all" = none
  n_min : mg "min" = none
  n_max : mg "max" = none
  n_range : mg "range" = none
  n_enumerate : mg "enumerate" = none
  n_ValueError : mg "ValueError" = none
  c_TAB : ∃ t, mg "TAB" = some (.int 9 t)
  c_BLANK : ∃ t, mg "BLANK" = some (.int 32 t)
  c_DELETE : ∃ t, mg "DELETE" = some (.int 127 t)
  c_NOT_SO : ∃ t, mg "NOT_SO" = some (.int (-1) t)
  c_UNFIT : ∃ t, mg "UNFIT" = some (.int (-4) t)
  c_TOO_MANY : ∃ t, mg "TOO_MANY" = some (.int (-5) t)
  c_NONE_THERE : ∃ t, mg "NONE_THERE" = some (.int (-6) t)
  c_NOT_SHOWN : ∃ t, mg "NOT_SHOWN" = some (.int (-7) t)
  c_MOST_LINES : ∃ t, mg "MOST_LINES" = some (.int 30 t)
  c_MOST_BYTES : ∃ t, mg "MOST_BYTES" = some (.int 120 t)
  c_MOST_FOLDS : ∃ t, mg "MOST_FOLDS" = some (.int 12 t)
  c_MOST_HIGH : ∃ t, mg "MOST_HIGH" = some (.int 60 t)
  c_MOST_STEPS : ∃ t, mg "MOST_STEPS" = some (.int 100 t)
  c_LINE_FEED : ∃ t, mg "LINE_FEED" = some (.int 10 t)
  c_MOST_BYTE : ∃ t, mg "MOST_BYTE" = some (.int 255 t)
  c_TEXT : ∃ t, mg "TEXT" = some (.int 2 t)
  c_EDIT : ∃ t, mg "EDIT" = some (.int 3 t)
  clsP : Cls K c.CP
  clsL : Cls K c.CL
  p_lines : NoAttr K c.CP "lines"
  p_shape : NoAttr K c.CP "shape"
  p_folds : NoAttr K c.CP "folds"
  p_line : NoAttr K c.CP "line"
  p_place : NoAttr K c.CP "place"
  p_wished : NoAttr K c.CP "wished"
  p_top : NoAttr K c.CP "top"
  p_high : NoAttr K c.CP "high"
  p_told_margin : NoAttr K c.CP "told_margin"
  l_wide : NoAttr K c.CL "wide"
  l_tab : NoAttr K c.CL "tab"
  l_more : NoAttr K c.CL "more"
  l_hang : NoAttr K c.CL "hang"
  l_words : NoAttr K c.CL "words"
  gR : mg "Refused" = some (.ref c.CR)
  oR : OexC K c.CR
  xR : XfC K c.CR
  r_code : PySem.W.findIn K (.ref c.CR) "code" = some none
  vV : PySem.W.findCls K (.type "ValueError") (.type "type") "__init__" = some (.val (.builtin "ValueError.__init__"))
  eR : PySem.W.exmOne K (.ref c.CR) (.ref c.CR) = some true
  iR : ∃ (f : Addr) (fd : FuncData), Fun K "__init__" "Refused.__init__" (inClass (topS 40) 0) f fd ∧ PySem.W.findIn K (.ref c.CR) "__init__" = some (some (.ref f)) ∧ PySem.W.typeIn K (.ref f) = some (.type "function") ∧ Binds K fd ["self", "code"] []
end
end Fw
/-! Readings and derivations, printed by gen.py. -/
namespace Fw
open PySem PySem.Spec PyProof.Rows L2 Evl
section
variable {P : Program} {w : World} {K : PySem.W.Frag} {mg : Str → Option Value} {base : Heap} {c : Cc}
abbrev s_hides : Stmt := topS 1
abbrev N_hides : List Str := ["fold", "line"]
abbrev P_hides : List Str := ["fold", "line"]
theorem sc_hides : FnScope N_hides P_hides (defScope s_hides) := ⟨rfl, rfl, rfl, by decide +kernel, rfl, by decide +kernel, by decide +kernel⟩
def t_hides (K : PySem.W.Frag) (c : Cc) (E : XK) : TS :=
    (tRet (tAndV (tOp rLtI (tOp (rIxT K) (tVar 0) (tC (.int 0))) (tVar 1)) (tOp rLtI (tVar 1) (tOp (rIxT K) (tVar 0) (tC (.int 1))))))
theorem b_hides (T : Txt K mg c)  {f : Addr} {cdv : Value} {A : Around} {outer : List Env} {s : Shared} {H : Hp} {E : XK} (hr : Room 0 (A.deeper (envOfC "hides" (defScope s_hides) s.heap.objs.size f cdv))) :
    PSs (cxOf CX0 P w K mg base N_hides "hides" (defScope s_hides) f cdv A outer s H E).nox (defBody s_hides) (t_hides K c E) := by
  exact (pss_one (ps_ret (pe_and (pe_cmpR op_lt (pe_ix ix_tup (pv 0) pe_int (fun _ _ => rfl)) (pv 1) (nomark _)) (pe_one (pe_cmpR op_lt (pv 1) (pe_ix ix_tup (pv 0) pe_int (fun _ _ => rfl)) (nomark _))))))
theorem ok_hides (D : DefAt K mg "hides" s_hides P_hides) (T : Txt K mg c)  (pure : ∀ vs H Q E, sp_hides c vs H Q E → t_hides K c E { nx := fun _ H' => Q .non H', rt := Q } (start N_hides vs) H) : Cal P w K mg base CX0 1 "hides" P_hides (sp_hides c) := by
  obtain ⟨f, fd, F, m, b⟩ := D.ex
  refine ⟨⟨f, fd, ?_, m, F.kp, b⟩⟩
  refine F.ok sc_hides (fun vs H Q E h => ?_) (fun cdv A outer s H vs Q E hr h => ⟨t_hides K c E, b_hides T  hr, pure vs H Q E h⟩)
  obtain ⟨_, _, _, rfl, _⟩ := h
  rfl
abbrev s_has : Stmt := topS 2
abbrev N_has : List Str := ["fold", "line"]
abbrev P_has : List Str := ["fold", "line"]
theorem sc_has : FnScope N_has P_has (defScope s_has) := ⟨rfl, rfl, rfl, by decide +kernel, rfl, by decide +kernel, by decide +kernel⟩
def t_has (K : PySem.W.Frag) (c : Cc) (E : XK) : TS :=
    (tRet (tAndV (tOp rLeI (tOp (rIxT K) (tVar 0) (tC (.int 0))) (tVar 1)) (tOp rLtI (tVar 1) (tOp (rIxT K) (tVar 0) (tC (.int 1))))))
theorem b_has (T : Txt K mg c)  {f : Addr} {cdv : Value} {A : Around} {outer : List Env} {s : Shared} {H : Hp} {E : XK} (hr : Room 0 (A.deeper (envOfC "has" (defScope s_has) s.heap.objs.size f cdv))) :
    PSs (cxOf CX0 P w K mg base N_has "has" (defScope s_has) f cdv A outer s H E).nox (defBody s_has) (t_has K c E) := by
  exact (pss_one (ps_ret (pe_and (pe_cmpR op_le (pe_ix ix_tup (pv 0) pe_int (fun _ _ => rfl)) (pv 1) (nomark _)) (pe_one (pe_cmpR op_lt (pv 1) (pe_ix ix_tup (pv 0) pe_int (fun _ _ => rfl)) (nomark _))))))
theorem ok_has (D : DefAt K mg "has" s_has P_has) (T : Txt K mg c)  (pure : ∀ vs H Q E, sp_has c vs H Q E → t_has K c E { nx := fun _ H' => Q .non H', rt := Q } (start N_has vs) H) : Cal P w K mg base CX0 1 "has" P_has (sp_has c) := by
  obtain ⟨f, fd, F, m, b⟩ := D.ex
  refine ⟨⟨f, fd, ?_, m, F.kp, b⟩⟩
  refine F.ok sc_has (fun vs H Q E h => ?_) (fun cdv A outer s H vs Q E hr h => ⟨t_has K c E, b_has T  hr, pure vs H Q E h⟩)
  obtain ⟨_, _, _, rfl, _⟩ := h
  rfl
abbrev s_is_seen : Stmt := topS 3
abbrev N_is_seen : List Str := ["folds", "line", "fold"]
abbrev P_is_seen : List Str := ["folds", "line"]
theorem sc_is_seen : FnScope N_is_seen P_is_seen (defScope s_is_seen) := ⟨rfl, rfl, rfl, by decide +kernel, rfl, by decide +kernel, by decide +kernel⟩
def t_is_seen (K : PySem.W.Frag) (c : Cc) (E : XK) : TS :=
    (tRet (tNotV (tCB (rAny K) (tCons (tLc (iList K (tVar 0)) (gName 2) tYes (tCall (sp_hides c) [] E0 (tCons (tVar 2) (tCons (tVar 1) tNil))) [2]) tNil))))
theorem b_is_seen (T : Txt K mg c) (C_hides : Cal P w K mg base CX0 1 "hides" ["fold", "line"] (sp_hides c)) {f : Addr} {cdv : Value} {A : Around} {outer : List Env} {s : Shared} {H : Hp} {E : XK} (hr : Room 1 (A.deeper (envOfC "is_seen" (defScope s_is_seen) s.heap.objs.size f cdv))) :
    PSs (cxOf CX0 P w K mg base N_is_seen "is_seen" (defScope s_is_seen) f cdv A outer s H E).nox (defBody s_is_seen) (t_is_seen K c E) := by
  exact (pss_one (ps_ret (pe_not (pe_any rfl T.n_any (pe_lc (own := [("fold", 2)]) (g := (gName 2)) (tt := tYes) (te := (tCall (sp_hides c) [] E0 (tCons (tVar 2) (tCons (tVar 1) tNil)))) rfl sc_is_seen.nd (pi_list (pv 0)) (blkOk_by (N := N_is_seen) (sc := defScope s_is_seen) (by decide +kernel)) (fun _ _ _ _ _ => (pg_name (i := 2) sc_is_seen.nd rfl (Or.inl rfl))) (fun _ _ _ _ _ => pts_nil) (fun _ _ _ _ _ => (pe_cal C_hides hr (by decide) pass0 (pa_cons (pv 2) (pa_cons (pv 1) pa_nil)))))))))
theorem ok_is_seen (D : DefAt K mg "is_seen" s_is_seen P_is_seen) (T : Txt K mg c) (C_hides : Cal P w K mg base CX0 1 "hides" ["fold", "line"] (sp_hides c)) (pure : ∀ vs H Q E, sp_is_seen c vs H Q E → t_is_seen K c E { nx := fun _ H' => Q .non H', rt := Q } (start N_is_seen vs) H) : Cal P w K mg base CX0 2 "is_seen" P_is_seen (sp_is_seen c) := by
  obtain ⟨f, fd, F, m, b⟩ := D.ex
  refine ⟨⟨f, fd, ?_, m, F.kp, b⟩⟩
  refine F.ok sc_is_seen (fun vs H Q E h => ?_) (fun cdv A outer s H vs Q E hr h => ⟨t_is_seen K c E, b_is_seen T C_hides hr, pure vs H Q E h⟩)
  obtain ⟨_, _, _, rfl, _⟩ := h
  rfl
abbrev s_are_well : Stmt := topS 4
abbrev N_are_well : List Str := ["one", "other", "apart", "within", "around"]
abbrev P_are_well : List Str := ["one", "other"]
theorem sc_are_well : FnScope N_are_well P_are_well (defScope s_are_well) := ⟨rfl, rfl, rfl, by decide +kernel, rfl, by decide +kernel, by decide +kernel⟩
def t_are_well (K : PySem.W.Frag) (c : Cc) (E : XK) : TS :=
    (tSeq (tIfS (tTest (tOp (rEqD K) (tVar 0) (tVar 1))) (tRet (tC (.bl false))) tNext)
    (tSeq (tAsg (tOrV (tOp rLeI (tOp (rIxT K) (tVar 0) (tC (.int 1))) (tOp (rIxT K) (tVar 1) (tC (.int 0)))) (tOp rLeI (tOp (rIxT K) (tVar 1) (tC (.int 1))) (tOp (rIxT K) (tVar 0) (tC (.int 0))))) (gName 2))
    (tSeq (tAsg (tAndV (tOp rLeI (tOp (rIxT K) (tVar 1) (tC (.int 0))) (tOp (rIxT K) (tVar 0) (tC (.int 0)))) (tOp rLeI (tOp (rIxT K) (tVar 0) (tC (.int 1))) (tOp (rIxT K) (tVar 1) (tC (.int 1))))) (gName 3))
    (tSeq (tAsg (tAndV (tOp rLeI (tOp (rIxT K) (tVar 0) (tC (.int 0))) (tOp (rIxT K) (tVar 1) (tC (.int 0)))) (tOp rLeI (tOp (rIxT K) (tVar 1) (tC (.int 1))) (tOp (rIxT K) (tVar 0) (tC (.int 1))))) (gName 4))
    (tRet (tOrV (tVar 2) (tOrV (tVar 3) (tVar 4))))))))
theorem b_are_well (T : Txt K mg c)  {f : Addr} {cdv : Value} {A : Around} {outer : List Env} {s : Shared} {H : Hp} {E : XK} (hr : Room 0 (A.deeper (envOfC "are_well" (defScope s_are_well) s.heap.objs.size f cdv))) :
    PSs (cxOf CX0 P w K mg base N_are_well "are_well" (defScope s_are_well) f cdv A outer s H E).nox (defBody s_are_well) (t_are_well K c E) := by
  exact (pss_cons (ps_if (pt_cmpR (op_eqD hr.units) (pv 0) (pv 1) (nomark _)) (pss_one (ps_ret pe_bl)) pss_nil)
      (pss_cons (ps_set (i := 2) sc_are_well.nd rfl (Or.inl rfl) (pe_or (pe_cmpR op_le (pe_ix ix_tup (pv 0) pe_int (fun _ _ => rfl)) (pe_ix ix_tup (pv 1) pe_int (fun _ _ => rfl)) (nomark _)) (pe_one (pe_cmpR op_le (pe_ix ix_tup (pv 1) pe_int (fun _ _ => rfl)) (pe_ix ix_tup (pv 0) pe_int (fun _ _ => rfl)) (nomark _)))))
      (pss_cons (ps_set (i := 3) sc_are_well.nd rfl (Or.inl rfl) (pe_and (pe_cmpR op_le (pe_ix ix_tup (pv 1) pe_int (fun _ _ => rfl)) (pe_ix ix_tup (pv 0) pe_int (fun _ _ => rfl)) (nomark _)) (pe_one (pe_cmpR op_le (pe_ix ix_tup (pv 0) pe_int (fun _ _ => rfl)) (pe_ix ix_tup (pv 1) pe_int (fun _ _ => rfl)) (nomark _)))))
      (pss_cons (ps_set (i := 4) sc_are_well.nd rfl (Or.inl rfl) (pe_and (pe_cmpR op_le (pe_ix ix_tup (pv 0) pe_int (fun _ _ => rfl)) (pe_ix ix_tup (pv 1) pe_int (fun _ _ => rfl)) (nomark _)) (pe_one (pe_cmpR op_le (pe_ix ix_tup (pv 1) pe_int (fun _ _ => rfl)) (pe_ix ix_tup (pv 0) pe_int (fun _ _ => rfl)) (nomark _)))))
      (pss_one (ps_ret (pe_or (pv 2) (pe_or (pv 3) (pe_one (pv 4))))))))))
theorem ok_are_well (D : DefAt K mg "are_well" s_are_well P_are_well) (T : Txt K mg c)  (pure : ∀ vs H Q E, sp_are_well c vs H Q E → t_are_well K c E { nx := fun _ H' => Q .non H', rt := Q } (start N_are_well vs) H) : Cal P w K mg base CX0 1 "are_well" P_are_well (sp_are_well c) := by
  obtain ⟨f, fd, F, m, b⟩ := D.ex
  refine ⟨⟨f, fd, ?_, m, F.kp, b⟩⟩
  refine F.ok sc_are_well (fun vs H Q E h => ?_) (fun cdv A outer s H vs Q E hr h => ⟨t_are_well K c E, b_are_well T  hr, pure vs H Q E h⟩)
  obtain ⟨_, _, _, _, rfl, _⟩ := h
  rfl
abbrev s_seen_for : Stmt := topS 5
abbrev N_seen_for : List Str := ["folds", "line", "fold"]
abbrev P_seen_for : List Str := ["folds", "line"]
theorem sc_seen_for : FnScope N_seen_for P_seen_for (defScope s_seen_for) := ⟨rfl, rfl, rfl, by decide +kernel, rfl, by decide +kernel, by decide +kernel⟩
def t_seen_for (K : PySem.W.Frag) (c : Cc) (E : XK) : TS :=
    (tSeq (tWhile (tNot (tB (tCall (sp_is_seen c) [] E0 (tCons (tVar 0) (tCons (tVar 1) tNil))))) (tAsg (tCB (rMin K) (tCons (tLc (iList K (tVar 0)) (gName 2) (tB (tCall (sp_hides c) [] E0 (tCons (tVar 2) (tCons (tVar 1) tNil)))) (tOp (rIxT K) (tVar 2) (tC (.int 0))) [2]) tNil)) (gName 1)))
    (tRet (tVar 1)))
theorem b_seen_for (T : Txt K mg c) (C_is_seen : Cal P w K mg base CX0 2 "is_seen" ["folds", "line"] (sp_is_seen c)) (C_hides : Cal P w K mg base CX0 1 "hides" ["fold", "line"] (sp_hides c)) {f : Addr} {cdv : Value} {A : Around} {outer : List Env} {s : Shared} {H : Hp} {E : XK} (hr : Room 2 (A.deeper (envOfC "seen_for" (defScope s_seen_for) s.heap.objs.size f cdv))) :
    PSs (cxOf CX0 P w K mg base N_seen_for "seen_for" (defScope s_seen_for) f cdv A outer s H E).nox (defBody s_seen_for) (t_seen_for K c E) := by
  exact (pss_cons (ps_while PassesOwn.never (pt_not (pt_val (pe_cal C_is_seen hr (by decide) pass0 (pa_cons (pv 0) (pa_cons (pv 1) pa_nil))))) (pss_one (ps_set (i := 1) sc_seen_for.nd rfl (Or.inr rfl) (pe_minL rfl T.n_min (pe_lc (own := [("fold", 2)]) (g := (gName 2)) (tt := (tB (tCall (sp_hides c) [] E0 (tCons (tVar 2) (tCons (tVar 1) tNil))))) (te := (tOp (rIxT K) (tVar 2) (tC (.int 0)))) rfl sc_seen_for.nd (pi_list (pv 0)) (blkOk_by (N := N_seen_for) (sc := defScope s_seen_for) (by decide +kernel)) (fun _ _ _ _ _ => (pg_name (i := 2) sc_seen_for.nd rfl (Or.inl rfl))) (fun _ _ _ _ _ => pts_one (pt_val (pe_cal C_hides hr (by decide) pass0 (pa_cons (pv 2) (pa_cons (pv 1) pa_nil))))) (fun _ _ _ _ _ => (pe_ix ix_tup (pv 2) pe_int (fun _ _ => rfl))))))))
      (pss_one (ps_ret (pv 1))))
theorem ok_seen_for (D : DefAt K mg "seen_for" s_seen_for P_seen_for) (T : Txt K mg c) (C_is_seen : Cal P w K mg base CX0 2 "is_seen" ["folds", "line"] (sp_is_seen c)) (C_hides : Cal P w K mg base CX0 1 "hides" ["fold", "line"] (sp_hides c)) (pure : ∀ vs H Q E, sp_seen_for c vs H Q E → t_seen_for K c E { nx := fun _ H' => Q .non H', rt := Q } (start N_seen_for vs) H) : Cal P w K mg base CX0 3 "seen_for" P_seen_for (sp_seen_for c) := by
  obtain ⟨f, fd, F, m, b⟩ := D.ex
  refine ⟨⟨f, fd, ?_, m, F.kp, b⟩⟩
  refine F.ok sc_seen_for (fun vs H Q E h => ?_) (fun cdv A outer s H vs Q E hr h => ⟨t_seen_for K c E, b_seen_for T C_is_seen C_hides hr, pure vs H Q E h⟩)
  obtain ⟨_, _, _, rfl, _⟩ := h
  rfl
abbrev s_fold_behind : Stmt := topS 6
abbrev N_fold_behind : List Str := ["fold", "begin", "end", "more"]
abbrev P_fold_behind : List Str := ["fold", "begin", "end", "more"]
theorem sc_fold_behind : FnScope N_fold_behind P_fold_behind (defScope s_fold_behind) := ⟨rfl, rfl, rfl, by decide +kernel, rfl, by decide +kernel, by decide +kernel⟩
def t_fold_behind (K : PySem.W.Frag) (c : Cc) (E : XK) : TS :=
    (tSeq (tIfS (tTest (tOp rLeI (tOp (rIxT K) (tVar 0) (tC (.int 1))) (tVar 1))) (tRet (tVar 0)) tNext)
    (tSeq (tIfS (tTest (tOp rGeI (tOp (rIxT K) (tVar 0) (tC (.int 0))) (tVar 2))) (tRet (tTup (tCons (tOp rAddI (tOp (rIxT K) (tVar 0) (tC (.int 0))) (tVar 3)) (tCons (tOp rAddI (tOp (rIxT K) (tVar 0) (tC (.int 1))) (tVar 3)) tNil)))) tNext)
    (tSeq (tIfS (tAnd (tTest (tOp rLtI (tOp (rIxT K) (tVar 0) (tC (.int 0))) (tVar 1))) (tAnd (tTest (tOp rGeI (tOp (rIxT K) (tVar 0) (tC (.int 1))) (tVar 2))) (tTest (tOp rGeI (tOp rSubI (tOp rAddI (tOp (rIxT K) (tVar 0) (tC (.int 1))) (tVar 3)) (tOp (rIxT K) (tVar 0) (tC (.int 0)))) (tC (.int 2)))))) (tRet (tTup (tCons (tOp (rIxT K) (tVar 0) (tC (.int 0))) (tCons (tOp rAddI (tOp (rIxT K) (tVar 0) (tC (.int 1))) (tVar 3)) tNil)))) tNext)
    (tRet (tC .non)))))
theorem b_fold_behind (T : Txt K mg c)  {f : Addr} {cdv : Value} {A : Around} {outer : List Env} {s : Shared} {H : Hp} {E : XK} (hr : Room 0 (A.deeper (envOfC "fold_behind" (defScope s_fold_behind) s.heap.objs.size f cdv))) :
    PSs (cxOf CX0 P w K mg base N_fold_behind "fold_behind" (defScope s_fold_behind) f cdv A outer s H E).nox (defBody s_fold_behind) (t_fold_behind K c E) := by
  exact (pss_cons (ps_if (pt_cmpR op_le (pe_ix ix_tup (pv 0) pe_int (fun _ _ => rfl)) (pv 1) (nomark _)) (pss_one (ps_ret (pv 0))) pss_nil)
      (pss_cons (ps_if (pt_cmpR op_ge (pe_ix ix_tup (pv 0) pe_int (fun _ _ => rfl)) (pv 2) (nomark _)) (pss_one (ps_ret (pe_tup (pa_cons (pe_op op_add (pe_ix ix_tup (pv 0) pe_int (fun _ _ => rfl)) (pv 3)) (pa_cons (pe_op op_add (pe_ix ix_tup (pv 0) pe_int (fun _ _ => rfl)) (pv 3)) pa_nil))))) pss_nil)
      (pss_cons (ps_if (PW.pt (pw_and (pt_cmpR op_lt (pe_ix ix_tup (pv 0) pe_int (fun _ _ => rfl)) (pv 1) (nomark _)) (pw_and (pt_cmpR op_ge (pe_ix ix_tup (pv 0) pe_int (fun _ _ => rfl)) (pv 2) (nomark _)) (pw_and1 (pt_cmpR op_ge (pe_op op_sub (pe_op op_add (pe_ix ix_tup (pv 0) pe_int (fun _ _ => rfl)) (pv 3)) (pe_ix ix_tup (pv 0) pe_int (fun _ _ => rfl))) pe_int (nomark _)))))) (pss_one (ps_ret (pe_tup (pa_cons (pe_ix ix_tup (pv 0) pe_int (fun _ _ => rfl)) (pa_cons (pe_op op_add (pe_ix ix_tup (pv 0) pe_int (fun _ _ => rfl)) (pv 3)) pa_nil))))) pss_nil)
      (pss_one (ps_ret pe_non)))))
theorem ok_fold_behind (D : DefAt K mg "fold_behind" s_fold_behind P_fold_behind) (T : Txt K mg c)  (pure : ∀ vs H Q E, sp_fold_behind c vs H Q E → t_fold_behind K c E { nx := fun _ H' => Q .non H', rt := Q } (start N_fold_behind vs) H) : Cal P w K mg base CX0 1 "fold_behind" P_fold_behind (sp_fold_behind c) := by
  obtain ⟨f, fd, F, m, b⟩ := D.ex
  refine ⟨⟨f, fd, ?_, m, F.kp, b⟩⟩
  refine F.ok sc_fold_behind (fun vs H Q E h => ?_) (fun cdv A outer s H vs Q E hr h => ⟨t_fold_behind K c E, b_fold_behind T  hr, pure vs H Q E h⟩)
  obtain ⟨_, _, _, _, _, rfl, _⟩ := h
  rfl
abbrev s_folds_behind : Stmt := topS 7
abbrev N_folds_behind : List Str := ["folds", "begin", "end", "more", "found", "fold", "changed"]
abbrev P_folds_behind : List Str := ["folds", "begin", "end", "more"]
theorem sc_folds_behind : FnScope N_folds_behind P_folds_behind (defScope s_folds_behind) := ⟨rfl, rfl, rfl, by decide +kernel, rfl, by decide +kernel, by decide +kernel⟩
def t_folds_behind (K : PySem.W.Frag) (c : Cc) (E : XK) : TS :=
    (tSeq (tAsg (tLst tNil) (gName 4))
    (tSeq (tFor (iList K (tVar 0)) (gName 5) (tSeq (tAsg (tCall (sp_fold_behind c) [] E0 (tCons (tVar 5) (tCons (tVar 1) (tCons (tVar 2) (tCons (tVar 3) tNil))))) (gName 6))
    (tIfS (tAnd (tTest (tOp rNotN (tVar 6) (tC .non))) (tTest (tOp (rNotInD K) (tVar 6) (tVar 4)))) (tDrop (tBM K "list" rAppend (tVar 4) (tCons (tVar 6) tNil))) tNext)))
    (tRet (tVar 4))))
theorem b_folds_behind (T : Txt K mg c) (C_fold_behind : Cal P w K mg base CX0 1 "fold_behind" ["fold", "begin", "end", "more"] (sp_fold_behind c)) {f : Addr} {cdv : Value} {A : Around} {outer : List Env} {s : Shared} {H : Hp} {E : XK} (hr : Room 1 (A.deeper (envOfC "folds_behind" (defScope s_folds_behind) s.heap.objs.size f cdv))) :
    PSs (cxOf CX0 P w K mg base N_folds_behind "folds_behind" (defScope s_folds_behind) f cdv A outer s H E).nox (defBody s_folds_behind) (t_folds_behind K c E) := by
  exact (pss_cons (ps_set (i := 4) sc_folds_behind.nd rfl (Or.inl rfl) (pe_lst pa_nil))
      (pss_cons (ps_for PassesOwn.never rfl (pi_list (pv 0)) (pg_name (i := 5) sc_folds_behind.nd rfl (Or.inl rfl)) (pss_cons (ps_set (i := 6) sc_folds_behind.nd rfl (Or.inl rfl) (pe_cal C_fold_behind hr (by decide) pass0 (pa_cons (pv 5) (pa_cons (pv 1) (pa_cons (pv 2) (pa_cons (pv 3) pa_nil))))))
      (pss_one (ps_if (PW.pt (pw_and (pt_cmpR op_notN (pv 6) pe_non (nomark _)) (pw_and1 (pt_cmpR (op_notInD (hu65 hr)) (pv 6) (pv 4) (by rfl))))) (pss_one (ps_expr (pe_append (pv 4) (pv 6)))) pss_nil))))
      (pss_one (ps_ret (pv 4)))))
theorem ok_folds_behind (D : DefAt K mg "folds_behind" s_folds_behind P_folds_behind) (T : Txt K mg c) (C_fold_behind : Cal P w K mg base CX0 1 "fold_behind" ["fold", "begin", "end", "more"] (sp_fold_behind c)) (pure : ∀ vs H Q E, sp_folds_behind c vs H Q E → t_folds_behind K c E { nx := fun _ H' => Q .non H', rt := Q } (start N_folds_behind vs) H) : Cal P w K mg base CX0 2 "folds_behind" P_folds_behind (sp_folds_behind c) := by
  obtain ⟨f, fd, F, m, b⟩ := D.ex
  refine ⟨⟨f, fd, ?_, m, F.kp, b⟩⟩
  refine F.ok sc_folds_behind (fun vs H Q E h => ?_) (fun cdv A outer s H vs Q E hr h => ⟨t_folds_behind K c E, b_folds_behind T C_fold_behind hr, pure vs H Q E h⟩)
  obtain ⟨_, _, _, _, _, rfl, _⟩ := h
  rfl
abbrev s_Look_init : Stmt := inClass (topS 12) 0
abbrev N_Look_init : List Str := ["self", "wide", "tab", "more", "hang", "words"]
abbrev P_Look_init : List Str := ["self", "wide", "tab", "more", "hang", "words"]
theorem sc_Look_init : FnScope N_Look_init P_Look_init (defScope s_Look_init) := ⟨rfl, rfl, rfl, by decide +kernel, rfl, by decide +kernel, by decide +kernel⟩
def t_Look_init (K : PySem.W.Frag) (c : Cc) (E : XK) : TS :=
    (tSeq (sFld K (tVar 0) (tVar 1) "wide")
    (tSeq (sFld K (tVar 0) (tVar 2) "tab")
    (tSeq (sFld K (tVar 0) (tVar 3) "more")
    (tSeq (sFld K (tVar 0) (tVar 4) "hang")
    (sFld K (tVar 0) (tVar 5) "words")))))
theorem b_Look_init (T : Txt K mg c)  {f : Addr} {cdv : Value} {A : Around} {outer : List Env} {s : Shared} {H : Hp} {E : XK} (hr : Room 0 (A.deeper (envOfC "Look.__init__" (defScope s_Look_init) s.heap.objs.size f cdv))) :
    PSs (cxOf CX0 P w K mg base N_Look_init "Look.__init__" (defScope s_Look_init) f cdv A outer s H E).nox (defBody s_Look_init) (t_Look_init K c E) := by
  exact (pss_cons (ps_fld (pv 0) (pv 1) rfl)
      (pss_cons (ps_fld (pv 0) (pv 2) rfl)
      (pss_cons (ps_fld (pv 0) (pv 3) rfl)
      (pss_cons (ps_fld (pv 0) (pv 4) rfl)
      (pss_one (ps_fld (pv 0) (pv 5) rfl))))))
theorem ok_Look_init (D : InitAt K mg c.CL "Look" "Look.__init__" s_Look_init P_Look_init) (T : Txt K mg c)  (pure : ∀ vs H Q E, sp_Look_init c vs H Q E → t_Look_init K c E { nx := fun _ H' => Q .non H', rt := Q } (start N_Look_init vs) H) : KCal P w K mg base CX0 1 c.CL "Look" P_Look_init (sp_Look_init c) := by
  obtain ⟨f, fd, F, M, m, b⟩ := D.ex
  refine ⟨⟨f, fd, ?_, M, m, b⟩⟩
  refine F.ok sc_Look_init (fun vs H Q E h => ?_) (fun cdv A outer s H vs Q E hr h => ⟨t_Look_init K c E, b_Look_init T  hr, pure vs H Q E h⟩)
  obtain ⟨_, _, _, _, _, _, _, rfl, _⟩ := h
  rfl
abbrev s_is_look : Stmt := topS 13
abbrev N_is_look : List Str := ["wide", "tab", "more"]
abbrev P_is_look : List Str := ["wide", "tab", "more"]
theorem sc_is_look : FnScope N_is_look P_is_look (defScope s_is_look) := ⟨rfl, rfl, rfl, by decide +kernel, rfl, by decide +kernel, by decide +kernel⟩
def t_is_look (K : PySem.W.Frag) (c : Cc) (E : XK) : TS :=
    (tRet (tAndV (tOp rLeI (tC (.int 4)) (tVar 0)) (tAndV (tOp rLeI (tVar 0) (tC (.int 100))) (tAndV (tOp rLeI (tC (.int 1)) (tVar 1)) (tAndV (tOp rLeI (tVar 1) (tC (.int 16))) (tOp rLeI (tVar 2) (tC (.int 100))))))))
theorem b_is_look (T : Txt K mg c)  {f : Addr} {cdv : Value} {A : Around} {outer : List Env} {s : Shared} {H : Hp} {E : XK} (hr : Room 0 (A.deeper (envOfC "is_look" (defScope s_is_look) s.heap.objs.size f cdv))) :
    PSs (cxOf CX0 P w K mg base N_is_look "is_look" (defScope s_is_look) f cdv A outer s H E).nox (defBody s_is_look) (t_is_look K c E) := by
  exact (pss_one (ps_ret (pe_and (pe_cmpR op_le pe_int (pv 0) (nomark _)) (pe_and (pe_cmpR op_le (pv 0) pe_int (nomark _)) (pe_and (pe_cmpR op_le pe_int (pv 1) (nomark _)) (pe_and (pe_cmpR op_le (pv 1) pe_int (nomark _)) (pe_one (pe_cmpR op_le (pv 2) pe_int (nomark _)))))))))
theorem ok_is_look (D : DefAt K mg "is_look" s_is_look P_is_look) (T : Txt K mg c)  (pure : ∀ vs H Q E, sp_is_look c vs H Q E → t_is_look K c E { nx := fun _ H' => Q .non H', rt := Q } (start N_is_look vs) H) : Cal P w K mg base CX0 1 "is_look" P_is_look (sp_is_look c) := by
  obtain ⟨f, fd, F, m, b⟩ := D.ex
  refine ⟨⟨f, fd, ?_, m, F.kp, b⟩⟩
  refine F.ok sc_is_look (fun vs H Q E h => ?_) (fun cdv A outer s H vs Q E hr h => ⟨t_is_look K c E, b_is_look T  hr, pure vs H Q E h⟩)
  obtain ⟨_, _, _, rfl, _⟩ := h
  rfl
abbrev s_is_blank : Stmt := topS 14
abbrev N_is_blank : List Str := ["byte"]
abbrev P_is_blank : List Str := ["byte"]
theorem sc_is_blank : FnScope N_is_blank P_is_blank (defScope s_is_blank) := ⟨rfl, rfl, rfl, by decide +kernel, rfl, by decide +kernel, by decide +kernel⟩
def t_is_blank (K : PySem.W.Frag) (c : Cc) (E : XK) : TS :=
    (tRet (tOrV (tOp rEqI (tVar 0) (tC (.int (32)))) (tOp rEqI (tVar 0) (tC (.int (9))))))
theorem b_is_blank (T : Txt K mg c)  {f : Addr} {cdv : Value} {A : Around} {outer : List Env} {s : Shared} {H : Hp} {E : XK} (hr : Room 0 (A.deeper (envOfC "is_blank" (defScope s_is_blank) s.heap.objs.size f cdv))) :
    PSs (cxOf CX0 P w K mg base N_is_blank "is_blank" (defScope s_is_blank) f cdv A outer s H E).nox (defBody s_is_blank) (t_is_blank K c E) := by
  exact (pss_one (ps_ret (pe_or (pe_cmpR op_eqI (pv 0) (pe_const T.c_BLANK) (nomark _)) (pe_one (pe_cmpR op_eqI (pv 0) (pe_const T.c_TAB) (nomark _))))))
theorem ok_is_blank (D : DefAt K mg "is_blank" s_is_blank P_is_blank) (T : Txt K mg c)  (pure : ∀ vs H Q E, sp_is_blank c vs H Q E → t_is_blank K c E { nx := fun _ H' => Q .non H', rt := Q } (start N_is_blank vs) H) : Cal P w K mg base CX0 1 "is_blank" P_is_blank (sp_is_blank c) := by
  obtain ⟨f, fd, F, m, b⟩ := D.ex
  refine ⟨⟨f, fd, ?_, m, F.kp, b⟩⟩
  refine F.ok sc_is_blank (fun vs H Q E h => ?_) (fun cdv A outer s H vs Q E hr h => ⟨t_is_blank K c E, b_is_blank T  hr, pure vs H Q E h⟩)
  obtain ⟨_, rfl, _⟩ := h
  rfl
abbrev s_column_behind : Stmt := topS 15
abbrev N_column_behind : List Str := ["look", "byte", "column"]
abbrev P_column_behind : List Str := ["look", "byte", "column"]
theorem sc_column_behind : FnScope N_column_behind P_column_behind (defScope s_column_behind) := ⟨rfl, rfl, rfl, by decide +kernel, rfl, by decide +kernel, by decide +kernel⟩
def t_column_behind (K : PySem.W.Frag) (c : Cc) (E : XK) : TS :=
    (tSeq (tIfS (tTest (tOp rEqI (tVar 1) (tC (.int (9))))) (tRet (tOp rSubI (tOp rAddI (tVar 2) (tFld K (tVar 0) "tab")) (tOp rModI (tVar 2) (tFld K (tVar 0) "tab")))) tNext)
    (tSeq (tIfS (tOr (tTest (tOp rLtI (tVar 1) (tC (.int (32))))) (tTest (tOp rEqI (tVar 1) (tC (.int (127)))))) (tRet (tOp rAddI (tVar 2) (tC (.int 2)))) tNext)
    (tRet (tOp rAddI (tVar 2) (tC (.int 1))))))
theorem b_column_behind (T : Txt K mg c)  {f : Addr} {cdv : Value} {A : Around} {outer : List Env} {s : Shared} {H : Hp} {E : XK} (hr : Room 0 (A.deeper (envOfC "column_behind" (defScope s_column_behind) s.heap.objs.size f cdv))) :
    PSs (cxOf CX0 P w K mg base N_column_behind "column_behind" (defScope s_column_behind) f cdv A outer s H E).nox (defBody s_column_behind) (t_column_behind K c E) := by
  exact (pss_cons (ps_if (pt_cmpR op_eqI (pv 1) (pe_const T.c_TAB) (nomark _)) (pss_one (ps_ret (pe_op op_sub (pe_op op_add (pv 2) (pe_fld (pv 0) rfl)) (pe_op op_mod (pv 2) (pe_fld (pv 0) rfl))))) pss_nil)
      (pss_cons (ps_if (PW.pt (pw_or (pt_cmpR op_lt (pv 1) (pe_const T.c_BLANK) (nomark _)) (pw_or1 (pt_cmpR op_eqI (pv 1) (pe_const T.c_DELETE) (nomark _))))) (pss_one (ps_ret (pe_op op_add (pv 2) pe_int))) pss_nil)
      (pss_one (ps_ret (pe_op op_add (pv 2) pe_int)))))
theorem ok_column_behind (D : DefAt K mg "column_behind" s_column_behind P_column_behind) (T : Txt K mg c)  (pure : ∀ vs H Q E, sp_column_behind c vs H Q E → t_column_behind K c E { nx := fun _ H' => Q .non H', rt := Q } (start N_column_behind vs) H) : Cal P w K mg base CX0 1 "column_behind" P_column_behind (sp_column_behind c) := by
  obtain ⟨f, fd, F, m, b⟩ := D.ex
  refine ⟨⟨f, fd, ?_, m, F.kp, b⟩⟩
  refine F.ok sc_column_behind (fun vs H Q E h => ?_) (fun cdv A outer s H vs Q E hr h => ⟨t_column_behind K c E, b_column_behind T  hr, pure vs H Q E h⟩)
  obtain ⟨_, _, _, _, rfl, _⟩ := h
  rfl
abbrev s_columns_behind : Stmt := topS 16
abbrev N_columns_behind : List Str := ["look", "some", "column", "byte"]
abbrev P_columns_behind : List Str := ["look", "some", "column"]
theorem sc_columns_behind : FnScope N_columns_behind P_columns_behind (defScope s_columns_behind) := ⟨rfl, rfl, rfl, by decide +kernel, rfl, by decide +kernel, by decide +kernel⟩
def t_columns_behind (K : PySem.W.Frag) (c : Cc) (E : XK) : TS :=
    (tSeq (tFor (iList K (tVar 1)) (gName 3) (tAsg (tCall (sp_column_behind c) [] E0 (tCons (tVar 0) (tCons (tVar 3) (tCons (tVar 2) tNil)))) (gName 2)))
    (tRet (tVar 2)))
theorem b_columns_behind (T : Txt K mg c) (C_column_behind : Cal P w K mg base CX0 1 "column_behind" ["look", "byte", "column"] (sp_column_behind c)) {f : Addr} {cdv : Value} {A : Around} {outer : List Env} {s : Shared} {H : Hp} {E : XK} (hr : Room 1 (A.deeper (envOfC "columns_behind" (defScope s_columns_behind) s.heap.objs.size f cdv))) :
    PSs (cxOf CX0 P w K mg base N_columns_behind "columns_behind" (defScope s_columns_behind) f cdv A outer s H E).nox (defBody s_columns_behind) (t_columns_behind K c E) := by
  exact (pss_cons (ps_for PassesOwn.never rfl (pi_list (pv 1)) (pg_name (i := 3) sc_columns_behind.nd rfl (Or.inl rfl)) (pss_one (ps_set (i := 2) sc_columns_behind.nd rfl (Or.inl rfl) (pe_cal C_column_behind hr (by decide) pass0 (pa_cons (pv 0) (pa_cons (pv 3) (pa_cons (pv 2) pa_nil)))))))
      (pss_one (ps_ret (pv 2))))
theorem ok_columns_behind (D : DefAt K mg "columns_behind" s_columns_behind P_columns_behind) (T : Txt K mg c) (C_column_behind : Cal P w K mg base CX0 1 "column_behind" ["look", "byte", "column"] (sp_column_behind c)) (pure : ∀ vs H Q E, sp_columns_behind c vs H Q E → t_columns_behind K c E { nx := fun _ H' => Q .non H', rt := Q } (start N_columns_behind vs) H) : Cal P w K mg base CX0 2 "columns_behind" P_columns_behind (sp_columns_behind c) := by
  obtain ⟨f, fd, F, m, b⟩ := D.ex
  refine ⟨⟨f, fd, ?_, m, F.kp, b⟩⟩
  refine F.ok sc_columns_behind (fun vs H Q E h => ?_) (fun cdv A outer s H vs Q E hr h => ⟨t_columns_behind K c E, b_columns_behind T C_column_behind hr, pure vs H Q E h⟩)
  obtain ⟨_, _, _, _, _, rfl, _⟩ := h
  rfl
abbrev s_many_blanks : Stmt := topS 17
abbrev N_many_blanks : List Str := ["some", "found"]
abbrev P_many_blanks : List Str := ["some"]
theorem sc_many_blanks : FnScope N_many_blanks P_many_blanks (defScope s_many_blanks) := ⟨rfl, rfl, rfl, by decide +kernel, rfl, by decide +kernel, by decide +kernel⟩
def t_many_blanks (K : PySem.W.Frag) (c : Cc) (E : XK) : TS :=
    (tSeq (tAsg (tC (.int 0)) (gName 1))
    (tSeq (tWhile (tAnd (tTest (tOp rLtI (tVar 1) (tCB (rLenS K) (tCons (tVar 0) tNil)))) (tB (tCall (sp_is_blank c) [] E0 (tCons (tOp (rIxL K) (tVar 0) (tVar 1)) tNil)))) (tAug 1 (tC (.int 1)) (ipI fun i j => i + j)))
    (tRet (tVar 1))))
theorem b_many_blanks (T : Txt K mg c) (C_is_blank : Cal P w K mg base CX0 1 "is_blank" ["byte"] (sp_is_blank c)) {f : Addr} {cdv : Value} {A : Around} {outer : List Env} {s : Shared} {H : Hp} {E : XK} (hr : Room 1 (A.deeper (envOfC "many_blanks" (defScope s_many_blanks) s.heap.objs.size f cdv))) :
    PSs (cxOf CX0 P w K mg base N_many_blanks "many_blanks" (defScope s_many_blanks) f cdv A outer s H E).nox (defBody s_many_blanks) (t_many_blanks K c E) := by
  exact (pss_cons (ps_set (i := 1) sc_many_blanks.nd rfl (Or.inl rfl) pe_int)
      (pss_cons (ps_while PassesOwn.never (PW.pt (pw_and (pt_cmpR op_lt (pv 1) (pe_len T.n_len (pv 0)) (nomark _)) (pw_and1 (pt_val (pe_cal C_is_blank hr (by decide) pass0 (pa_cons (pe_ix ix_list (pv 0) (pv 1) (fun _ _ => rfl)) pa_nil)))))) (pss_one (ps_aug (i := 1) sc_many_blanks.nd rfl (Or.inl rfl) pe_int ip_add)))
      (pss_one (ps_ret (pv 1)))))
theorem ok_many_blanks (D : DefAt K mg "many_blanks" s_many_blanks P_many_blanks) (T : Txt K mg c) (C_is_blank : Cal P w K mg base CX0 1 "is_blank" ["byte"] (sp_is_blank c)) (pure : ∀ vs H Q E, sp_many_blanks c vs H Q E → t_many_blanks K c E { nx := fun _ H' => Q .non H', rt := Q } (start N_many_blanks vs) H) : Cal P w K mg base CX0 2 "many_blanks" P_many_blanks (sp_many_blanks c) := by
  obtain ⟨f, fd, F, m, b⟩ := D.ex
  refine ⟨⟨f, fd, ?_, m, F.kp, b⟩⟩
  refine F.ok sc_many_blanks (fun vs H Q E h => ?_) (fun cdv A outer s H vs Q E hr h => ⟨t_many_blanks K c E, b_many_blanks T C_is_blank hr, pure vs H Q E h⟩)
  obtain ⟨_, _, rfl, _⟩ := h
  rfl
abbrev s_inset_of : Stmt := topS 18
abbrev N_inset_of : List Str := ["look", "line", "found"]
abbrev P_inset_of : List Str := ["look", "line"]
theorem sc_inset_of : FnScope N_inset_of P_inset_of (defScope s_inset_of) := ⟨rfl, rfl, rfl, by decide +kernel, rfl, by decide +kernel, by decide +kernel⟩
def t_inset_of (K : PySem.W.Frag) (c : Cc) (E : XK) : TS :=
    (tSeq (tAsg (tFld K (tVar 0) "more") (gName 2))
    (tSeq (tIfS (tTest (tOp rEqI (tFld K (tVar 0) "hang") (tC (.int 1)))) (tAug 2 (tCall (sp_columns_behind c) [] E0 (tCons (tVar 0) (tCons (tSl (rSlL K) (tVar 1) tNoPart (tPart (tCall (sp_many_blanks c) [] E0 (tCons (tVar 1) tNil)))) (tCons (tC (.int 0)) tNil)))) (ipI fun i j => i + j)) tNext)
    (tSeq (tIfS (tTest (tOp rLtI (tOp rAddI (tVar 2) (tC (.int 1))) (tFld K (tVar 0) "wide"))) (tRet (tVar 2)) tNext)
    (tRet (tC (.int 0))))))
theorem b_inset_of (T : Txt K mg c) (C_columns_behind : Cal P w K mg base CX0 2 "columns_behind" ["look", "some", "column"] (sp_columns_behind c)) (C_many_blanks : Cal P w K mg base CX0 2 "many_blanks" ["some"] (sp_many_blanks c)) {f : Addr} {cdv : Value} {A : Around} {outer : List Env} {s : Shared} {H : Hp} {E : XK} (hr : Room 2 (A.deeper (envOfC "inset_of" (defScope s_inset_of) s.heap.objs.size f cdv))) :
    PSs (cxOf CX0 P w K mg base N_inset_of "inset_of" (defScope s_inset_of) f cdv A outer s H E).nox (defBody s_inset_of) (t_inset_of K c E) := by
  exact (pss_cons (ps_set (i := 2) sc_inset_of.nd rfl (Or.inl rfl) (pe_fld (pv 0) rfl))
      (pss_cons (ps_if (pt_cmpR op_eqI (pe_fld (pv 0) rfl) pe_int (nomark _)) (pss_one (ps_aug (i := 2) sc_inset_of.nd rfl (Or.inl rfl) (pe_cal C_columns_behind hr (by decide) pass0 (pa_cons (pv 0) (pa_cons (pe_slice sl_list (pv 1) po_none (po_some (pe_cal C_many_blanks hr (by decide) pass0 (pa_cons (pv 1) pa_nil)))) (pa_cons pe_int pa_nil)))) ip_add)) pss_nil)
      (pss_cons (ps_if (pt_cmpR op_lt (pe_op op_add (pv 2) pe_int) (pe_fld (pv 0) rfl) (nomark _)) (pss_one (ps_ret (pv 2))) pss_nil)
      (pss_one (ps_ret pe_int)))))
theorem ok_inset_of (D : DefAt K mg "inset_of" s_inset_of P_inset_of) (T : Txt K mg c) (C_columns_behind : Cal P w K mg base CX0 2 "columns_behind" ["look", "some", "column"] (sp_columns_behind c)) (C_many_blanks : Cal P w K mg base CX0 2 "many_blanks" ["some"] (sp_many_blanks c)) (pure : ∀ vs H Q E, sp_inset_of c vs H Q E → t_inset_of K c E { nx := fun _ H' => Q .non H', rt := Q } (start N_inset_of vs) H) : Cal P w K mg base CX0 3 "inset_of" P_inset_of (sp_inset_of c) := by
  obtain ⟨f, fd, F, m, b⟩ := D.ex
  refine ⟨⟨f, fd, ?_, m, F.kp, b⟩⟩
  refine F.ok sc_inset_of (fun vs H Q E h => ?_) (fun cdv A outer s H vs Q E hr h => ⟨t_inset_of K c E, b_inset_of T C_columns_behind C_many_blanks hr, pure vs H Q E h⟩)
  obtain ⟨_, _, _, _, rfl, _⟩ := h
  rfl
abbrev s_many_fit : Stmt := topS 19
abbrev N_many_fit : List Str := ["look", "some", "column", "found", "byte"]
abbrev P_many_fit : List Str := ["look", "some", "column"]
theorem sc_many_fit : FnScope N_many_fit P_many_fit (defScope s_many_fit) := ⟨rfl, rfl, rfl, by decide +kernel, rfl, by decide +kernel, by decide +kernel⟩
def t_many_fit (K : PySem.W.Frag) (c : Cc) (E : XK) : TS :=
    (tSeq (tAsg (tC (.int 0)) (gName 3))
    (tSeq (tFor (iList K (tVar 1)) (gName 4) (tSeq (tAsg (tCall (sp_column_behind c) [] E0 (tCons (tVar 0) (tCons (tVar 4) (tCons (tVar 2) tNil)))) (gName 2))
    (tSeq (tIfS (tTest (tOp rGtI (tVar 2) (tFld K (tVar 0) "wide"))) (tRet (tCB rMax2 (tCons (tC (.int 1)) (tCons (tVar 3) tNil)))) tNext)
    (tAug 3 (tC (.int 1)) (ipI fun i j => i + j)))))
    (tRet (tVar 3))))
theorem b_many_fit (T : Txt K mg c) (C_column_behind : Cal P w K mg base CX0 1 "column_behind" ["look", "byte", "column"] (sp_column_behind c)) {f : Addr} {cdv : Value} {A : Around} {outer : List Env} {s : Shared} {H : Hp} {E : XK} (hr : Room 1 (A.deeper (envOfC "many_fit" (defScope s_many_fit) s.heap.objs.size f cdv))) :
    PSs (cxOf CX0 P w K mg base N_many_fit "many_fit" (defScope s_many_fit) f cdv A outer s H E).nox (defBody s_many_fit) (t_many_fit K c E) := by
  exact (pss_cons (ps_set (i := 3) sc_many_fit.nd rfl (Or.inl rfl) pe_int)
      (pss_cons (ps_for PassesOwn.never rfl (pi_list (pv 1)) (pg_name (i := 4) sc_many_fit.nd rfl (Or.inl rfl)) (pss_cons (ps_set (i := 2) sc_many_fit.nd rfl (Or.inl rfl) (pe_cal C_column_behind hr (by decide) pass0 (pa_cons (pv 0) (pa_cons (pv 4) (pa_cons (pv 2) pa_nil)))))
      (pss_cons (ps_if (pt_cmpR op_gt (pv 2) (pe_fld (pv 0) rfl) (nomark _)) (pss_one (ps_ret (pe_max rfl T.n_max pe_int (pv 3)))) pss_nil)
      (pss_one (ps_aug (i := 3) sc_many_fit.nd rfl (Or.inl rfl) pe_int ip_add)))))
      (pss_one (ps_ret (pv 3)))))
theorem ok_many_fit (D : DefAt K mg "many_fit" s_many_fit P_many_fit) (T : Txt K mg c) (C_column_behind : Cal P w K mg base CX0 1 "column_behind" ["look", "byte", "column"] (sp_column_behind c)) (pure : ∀ vs H Q E, sp_many_fit c vs H Q E → t_many_fit K c E { nx := fun _ H' => Q .non H', rt := Q } (start N_many_fit vs) H) : Cal P w K mg base CX0 2 "many_fit" P_many_fit (sp_many_fit c) := by
  obtain ⟨f, fd, F, m, b⟩ := D.ex
  refine ⟨⟨f, fd, ?_, m, F.kp, b⟩⟩
  refine F.ok sc_many_fit (fun vs H Q E h => ?_) (fun cdv A outer s H vs Q E hr h => ⟨t_many_fit K c E, b_many_fit T C_column_behind hr, pure vs H Q E h⟩)
  obtain ⟨_, _, _, _, _, rfl, _⟩ := h
  rfl
abbrev s_by_words : Stmt := topS 20
abbrev N_by_words : List Str := ["some", "many", "blanks", "k"]
abbrev P_by_words : List Str := ["some", "many"]
theorem sc_by_words : FnScope N_by_words P_by_words (defScope s_by_words) := ⟨rfl, rfl, rfl, by decide +kernel, rfl, by decide +kernel, by decide +kernel⟩
def t_by_words (K : PySem.W.Frag) (c : Cc) (E : XK) : TS :=
    (tSeq (tIfS (tB (tCall (sp_is_blank c) [] E0 (tCons (tOp (rIxL K) (tVar 0) (tVar 1)) tNil))) (tRet (tOp rAddI (tVar 1) (tCall (sp_many_blanks c) [] E0 (tCons (tSl (rSlL K) (tVar 0) (tPart (tVar 1)) tNoPart) tNil)))) tNext)
    (tSeq (tAsg (tLc (iRng1 (tCons (tVar 1) tNil)) (gName 3) (tB (tCall (sp_is_blank c) [] E0 (tCons (tOp (rIxL K) (tVar 0) (tVar 3)) tNil))) (tVar 3) [3]) (gName 2))
    (tSeq (tIfS (tTest (tOp (rEqD K) (tVar 2) (tLst tNil))) (tRet (tVar 1)) tNext)
    (tRet (tOp rAddI (tOp (rIxL K) (tVar 2) (tUn (rU fun i => .int (-i)) (tC (.int 1)))) (tC (.int 1)))))))
theorem b_by_words (T : Txt K mg c) (C_is_blank : Cal P w K mg base CX0 1 "is_blank" ["byte"] (sp_is_blank c)) (C_many_blanks : Cal P w K mg base CX0 2 "many_blanks" ["some"] (sp_many_blanks c)) {f : Addr} {cdv : Value} {A : Around} {outer : List Env} {s : Shared} {H : Hp} {E : XK} (hr : Room 2 (A.deeper (envOfC "by_words" (defScope s_by_words) s.heap.objs.size f cdv))) :
    PSs (cxOf CX0 P w K mg base N_by_words "by_words" (defScope s_by_words) f cdv A outer s H E).nox (defBody s_by_words) (t_by_words K c E) := by
  exact (pss_cons (ps_if (pt_val (pe_cal C_is_blank hr (by decide) pass0 (pa_cons (pe_ix ix_list (pv 0) (pv 1) (fun _ _ => rfl)) pa_nil))) (pss_one (ps_ret (pe_op op_add (pv 1) (pe_cal C_many_blanks hr (by decide) pass0 (pa_cons (pe_slice sl_list (pv 0) (po_some (pv 1)) po_none) pa_nil))))) pss_nil)
      (pss_cons (ps_setLc (i := 2) (own := [("k", 3)]) (g := (gName 3)) (tt := (tB (tCall (sp_is_blank c) [] E0 (tCons (tOp (rIxL K) (tVar 0) (tVar 3)) tNil)))) (te := (tVar 3)) rfl sc_by_words.nd rfl rfl (sw_true rfl rfl rfl (by decide +kernel)) (pi_range1 rfl T.n_range (pa_cons (pv 1) pa_nil)) (blkOk_by (N := N_by_words) (sc := defScope s_by_words) (by decide +kernel)) (fun _ _ _ _ _ => (pg_name (i := 3) sc_by_words.nd rfl (Or.inl rfl))) (fun _ _ _ _ _ => pts_one (pt_val (pe_cal C_is_blank hr (by decide) pass0 (pa_cons (pe_ix ix_list (pv 0) (pv 3) (fun _ _ => rfl)) pa_nil)))) (fun _ _ _ _ _ => (pv 3)))
      (pss_cons (ps_if (pt_cmpR (op_eqD hr.units) (pv 2) (pe_lst pa_nil) (nomark _)) (pss_one (ps_ret (pv 1))) pss_nil)
      (pss_one (ps_ret (pe_op op_add (pe_ix ix_list (pv 2) (pe_un un_neg pe_int) (fun _ _ => rfl)) pe_int))))))
theorem ok_by_words (D : DefAt K mg "by_words" s_by_words P_by_words) (T : Txt K mg c) (C_is_blank : Cal P w K mg base CX0 1 "is_blank" ["byte"] (sp_is_blank c)) (C_many_blanks : Cal P w K mg base CX0 2 "many_blanks" ["some"] (sp_many_blanks c)) (pure : ∀ vs H Q E, sp_by_words c vs H Q E → t_by_words K c E { nx := fun _ H' => Q .non H', rt := Q } (start N_by_words vs) H) : Cal P w K mg base CX0 3 "by_words" P_by_words (sp_by_words c) := by
  obtain ⟨f, fd, F, m, b⟩ := D.ex
  refine ⟨⟨f, fd, ?_, m, F.kp, b⟩⟩
  refine F.ok sc_by_words (fun vs H Q E h => ?_) (fun cdv A outer s H vs Q E hr h => ⟨t_by_words K c E, b_by_words T C_is_blank C_many_blanks hr, pure vs H Q E h⟩)
  obtain ⟨_, _, _, rfl, _⟩ := h
  rfl
abbrev s_many_taken : Stmt := topS 21
abbrev N_many_taken : List Str := ["look", "some", "column", "many"]
abbrev P_many_taken : List Str := ["look", "some", "column"]
theorem sc_many_taken : FnScope N_many_taken P_many_taken (defScope s_many_taken) := ⟨rfl, rfl, rfl, by decide +kernel, rfl, by decide +kernel, by decide +kernel⟩
def t_many_taken (K : PySem.W.Frag) (c : Cc) (E : XK) : TS :=
    (tSeq (tAsg (tCall (sp_many_fit c) [] E0 (tCons (tVar 0) (tCons (tVar 1) (tCons (tVar 2) tNil)))) (gName 3))
    (tSeq (tIfS (tAnd (tTest (tOp rLtI (tVar 3) (tCB (rLenS K) (tCons (tVar 1) tNil)))) (tTest (tOp rEqI (tFld K (tVar 0) "words") (tC (.int 1))))) (tRet (tCall (sp_by_words c) [] E0 (tCons (tVar 1) (tCons (tVar 3) tNil)))) tNext)
    (tRet (tVar 3))))
theorem b_many_taken (T : Txt K mg c) (C_many_fit : Cal P w K mg base CX0 2 "many_fit" ["look", "some", "column"] (sp_many_fit c)) (C_by_words : Cal P w K mg base CX0 3 "by_words" ["some", "many"] (sp_by_words c)) {f : Addr} {cdv : Value} {A : Around} {outer : List Env} {s : Shared} {H : Hp} {E : XK} (hr : Room 3 (A.deeper (envOfC "many_taken" (defScope s_many_taken) s.heap.objs.size f cdv))) :
    PSs (cxOf CX0 P w K mg base N_many_taken "many_taken" (defScope s_many_taken) f cdv A outer s H E).nox (defBody s_many_taken) (t_many_taken K c E) := by
  exact (pss_cons (ps_set (i := 3) sc_many_taken.nd rfl (Or.inl rfl) (pe_cal C_many_fit hr (by decide) pass0 (pa_cons (pv 0) (pa_cons (pv 1) (pa_cons (pv 2) pa_nil)))))
      (pss_cons (ps_if (PW.pt (pw_and (pt_cmpR op_lt (pv 3) (pe_len T.n_len (pv 1)) (nomark _)) (pw_and1 (pt_cmpR op_eqI (pe_fld (pv 0) rfl) pe_int (nomark _))))) (pss_one (ps_ret (pe_cal C_by_words hr (by decide) pass0 (pa_cons (pv 1) (pa_cons (pv 3) pa_nil))))) pss_nil)
      (pss_one (ps_ret (pv 3)))))
theorem ok_many_taken (D : DefAt K mg "many_taken" s_many_taken P_many_taken) (T : Txt K mg c) (C_many_fit : Cal P w K mg base CX0 2 "many_fit" ["look", "some", "column"] (sp_many_fit c)) (C_by_words : Cal P w K mg base CX0 3 "by_words" ["some", "many"] (sp_by_words c)) (pure : ∀ vs H Q E, sp_many_taken c vs H Q E → t_many_taken K c E { nx := fun _ H' => Q .non H', rt := Q } (start N_many_taken vs) H) : Cal P w K mg base CX0 4 "many_taken" P_many_taken (sp_many_taken c) := by
  obtain ⟨f, fd, F, m, b⟩ := D.ex
  refine ⟨⟨f, fd, ?_, m, F.kp, b⟩⟩
  refine F.ok sc_many_taken (fun vs H Q E h => ?_) (fun cdv A outer s H vs Q E hr h => ⟨t_many_taken K c E, b_many_taken T C_many_fit C_by_words hr, pure vs H Q E h⟩)
  obtain ⟨_, _, _, _, _, rfl, _⟩ := h
  rfl
abbrev s_rows_of : Stmt := topS 22
abbrev N_rows_of : List Str := ["look", "line", "found", "at", "column", "end"]
abbrev P_rows_of : List Str := ["look", "line"]
theorem sc_rows_of : FnScope N_rows_of P_rows_of (defScope s_rows_of) := ⟨rfl, rfl, rfl, by decide +kernel, rfl, by decide +kernel, by decide +kernel⟩
def t_rows_of (K : PySem.W.Frag) (c : Cc) (E : XK) : TS :=
    (tSeq (tIfS (tTest (tOp (rEqD K) (tVar 1) (tLst tNil))) (tRet (tLst (tCons (tTup (tCons (tC (.int 0)) (tCons (tC (.int 0)) (tCons (tC (.int 0)) tNil)))) tNil))) tNext)
    (tSeq (tAsg (tLst tNil) (gName 2))
    (tSeq (tAsg (tC (.int 0)) (gName 3))
    (tSeq (tAsg (tC (.int 0)) (gName 4))
    (tSeq (tWhile (tTest (tOp rLtI (tVar 3) (tCB (rLenS K) (tCons (tVar 1) tNil)))) (tSeq (tAsg (tOp rAddI (tVar 3) (tCall (sp_many_taken c) [] E0 (tCons (tVar 0) (tCons (tSl (rSlL K) (tVar 1) (tPart (tVar 3)) tNoPart) (tCons (tVar 4) tNil))))) (gName 5))
    (tSeq (tDrop (tBM K "list" rAppend (tVar 2) (tCons (tTup (tCons (tVar 3) (tCons (tVar 5) (tCons (tVar 4) tNil)))) tNil)))
    (tSeq (tAsg (tVar 5) (gName 3))
    (tAsg (tCall (sp_inset_of c) [] E0 (tCons (tVar 0) (tCons (tVar 1) tNil))) (gName 4))))))
    (tRet (tVar 2)))))))
theorem b_rows_of (T : Txt K mg c) (C_many_taken : Cal P w K mg base CX0 4 "many_taken" ["look", "some", "column"] (sp_many_taken c)) (C_inset_of : Cal P w K mg base CX0 3 "inset_of" ["look", "line"] (sp_inset_of c)) {f : Addr} {cdv : Value} {A : Around} {outer : List Env} {s : Shared} {H : Hp} {E : XK} (hr : Room 4 (A.deeper (envOfC "rows_of" (defScope s_rows_of) s.heap.objs.size f cdv))) :
    PSs (cxOf CX0 P w K mg base N_rows_of "rows_of" (defScope s_rows_of) f cdv A outer s H E).nox (defBody s_rows_of) (t_rows_of K c E) := by
  exact (pss_cons (ps_if (pt_cmpR (op_eqD hr.units) (pv 1) (pe_lst pa_nil) (nomark _)) (pss_one (ps_ret (pe_lst (pa_cons (pe_tup (pa_cons pe_int (pa_cons pe_int (pa_cons pe_int pa_nil)))) pa_nil)))) pss_nil)
      (pss_cons (ps_set (i := 2) sc_rows_of.nd rfl (Or.inl rfl) (pe_lst pa_nil))
      (pss_cons (ps_set (i := 3) sc_rows_of.nd rfl (Or.inl rfl) pe_int)
      (pss_cons (ps_set (i := 4) sc_rows_of.nd rfl (Or.inl rfl) pe_int)
      (pss_cons (ps_while PassesOwn.never (pt_cmpR op_lt (pv 3) (pe_len T.n_len (pv 1)) (nomark _)) (pss_cons (ps_set (i := 5) sc_rows_of.nd rfl (Or.inl rfl) (pe_op op_add (pv 3) (pe_cal C_many_taken hr (by decide) pass0 (pa_cons (pv 0) (pa_cons (pe_slice sl_list (pv 1) (po_some (pv 3)) po_none) (pa_cons (pv 4) pa_nil))))))
      (pss_cons (ps_expr (pe_append (pv 2) (pe_tup (pa_cons (pv 3) (pa_cons (pv 5) (pa_cons (pv 4) pa_nil))))))
      (pss_cons (ps_set (i := 3) sc_rows_of.nd rfl (Or.inl rfl) (pv 5))
      (pss_one (ps_set (i := 4) sc_rows_of.nd rfl (Or.inl rfl) (pe_cal C_inset_of hr (by decide) pass0 (pa_cons (pv 0) (pa_cons (pv 1) pa_nil)))))))))
      (pss_one (ps_ret (pv 2))))))))
theorem ok_rows_of (D : DefAt K mg "rows_of" s_rows_of P_rows_of) (T : Txt K mg c) (C_many_taken : Cal P w K mg base CX0 4 "many_taken" ["look", "some", "column"] (sp_many_taken c)) (C_inset_of : Cal P w K mg base CX0 3 "inset_of" ["look", "line"] (sp_inset_of c)) (pure : ∀ vs H Q E, sp_rows_of c vs H Q E → t_rows_of K c E { nx := fun _ H' => Q .non H', rt := Q } (start N_rows_of vs) H) : Cal P w K mg base CX0 5 "rows_of" P_rows_of (sp_rows_of c) := by
  obtain ⟨f, fd, F, m, b⟩ := D.ex
  refine ⟨⟨f, fd, ?_, m, F.kp, b⟩⟩
  refine F.ok sc_rows_of (fun vs H Q E h => ?_) (fun cdv A outer s H vs Q E hr h => ⟨t_rows_of K c E, b_rows_of T C_many_taken C_inset_of hr, pure vs H Q E h⟩)
  obtain ⟨_, _, _, _, rfl, _⟩ := h
  rfl
abbrev s_is_in : Stmt := topS 23
abbrev N_is_in : List Str := ["line", "row", "place"]
abbrev P_is_in : List Str := ["line", "row", "place"]
theorem sc_is_in : FnScope N_is_in P_is_in (defScope s_is_in) := ⟨rfl, rfl, rfl, by decide +kernel, rfl, by decide +kernel, by decide +kernel⟩
def t_is_in (K : PySem.W.Frag) (c : Cc) (E : XK) : TS :=
    (tRet (tOrV (tOp rLtI (tVar 2) (tOp (rIxT K) (tVar 1) (tC (.int 1)))) (tOp rEqI (tOp (rIxT K) (tVar 1) (tC (.int 1))) (tCB (rLenS K) (tCons (tVar 0) tNil)))))
theorem b_is_in (T : Txt K mg c)  {f : Addr} {cdv : Value} {A : Around} {outer : List Env} {s : Shared} {H : Hp} {E : XK} (hr : Room 0 (A.deeper (envOfC "is_in" (defScope s_is_in) s.heap.objs.size f cdv))) :
    PSs (cxOf CX0 P w K mg base N_is_in "is_in" (defScope s_is_in) f cdv A outer s H E).nox (defBody s_is_in) (t_is_in K c E) := by
  exact (pss_one (ps_ret (pe_or (pe_cmpR op_lt (pv 2) (pe_ix ix_tup (pv 1) pe_int (fun _ _ => rfl)) (nomark _)) (pe_one (pe_cmpR op_eqI (pe_ix ix_tup (pv 1) pe_int (fun _ _ => rfl)) (pe_len T.n_len (pv 0)) (nomark _))))))
theorem ok_is_in (D : DefAt K mg "is_in" s_is_in P_is_in) (T : Txt K mg c)  (pure : ∀ vs H Q E, sp_is_in c vs H Q E → t_is_in K c E { nx := fun _ H' => Q .non H', rt := Q } (start N_is_in vs) H) : Cal P w K mg base CX0 1 "is_in" P_is_in (sp_is_in c) := by
  obtain ⟨f, fd, F, m, b⟩ := D.ex
  refine ⟨⟨f, fd, ?_, m, F.kp, b⟩⟩
  refine F.ok sc_is_in (fun vs H Q E h => ?_) (fun cdv A outer s H vs Q E hr h => ⟨t_is_in K c E, b_is_in T  hr, pure vs H Q E h⟩)
  obtain ⟨_, _, _, _, _, rfl, _⟩ := h
  rfl
abbrev s_row_with : Stmt := topS 24
abbrev N_row_with : List Str := ["look", "line", "place", "found", "number", "row"]
abbrev P_row_with : List Str := ["look", "line", "place"]
theorem sc_row_with : FnScope N_row_with P_row_with (defScope s_row_with) := ⟨rfl, rfl, rfl, by decide +kernel, rfl, by decide +kernel, by decide +kernel⟩
def t_row_with (K : PySem.W.Frag) (c : Cc) (E : XK) : TS :=
    (tSeq (tAsg (tC (.int 0)) (gName 3))
    (tSeq (tFor (iEnum K (tCons (tCall (sp_rows_of c) [] E0 (tCons (tVar 0) (tCons (tVar 1) tNil))) tNil)) (gTup K 2 (gCons (gName 4) (gCons (gName 5) gNil))) (tIfS (tAnd (tTest (tOp rLeI (tOp (rIxT K) (tVar 5) (tC (.int 0))) (tVar 2))) (tB (tCall (sp_is_in c) [] E0 (tCons (tVar 1) (tCons (tVar 5) (tCons (tVar 2) tNil)))))) (tAsg (tVar 4) (gName 3)) tNext))
    (tRet (tVar 3))))
theorem b_row_with (T : Txt K mg c) (C_rows_of : Cal P w K mg base CX0 5 "rows_of" ["look", "line"] (sp_rows_of c)) (C_is_in : Cal P w K mg base CX0 1 "is_in" ["line", "row", "place"] (sp_is_in c)) {f : Addr} {cdv : Value} {A : Around} {outer : List Env} {s : Shared} {H : Hp} {E : XK} (hr : Room 5 (A.deeper (envOfC "row_with" (defScope s_row_with) s.heap.objs.size f cdv))) :
    PSs (cxOf CX0 P w K mg base N_row_with "row_with" (defScope s_row_with) f cdv A outer s H E).nox (defBody s_row_with) (t_row_with K c E) := by
  exact (pss_cons (ps_set (i := 3) sc_row_with.nd rfl (Or.inl rfl) pe_int)
      (pss_cons (ps_for PassesOwn.never rfl (pi_enum (by rfl) T.n_enumerate (pa_cons (pe_cal C_rows_of hr (by decide) pass0 (pa_cons (pv 0) (pa_cons (pv 1) pa_nil))) pa_nil)) (pg_tup rfl (pgs_cons (pg_name (i := 4) sc_row_with.nd rfl (Or.inl rfl)) (pgs_cons (pg_name (i := 5) sc_row_with.nd rfl (Or.inl rfl)) pgs_nil))) (pss_one (ps_if (PW.pt (pw_and (pt_cmpR op_le (pe_ix ix_tup (pv 5) pe_int (fun _ _ => rfl)) (pv 2) (nomark _)) (pw_and1 (pt_val (pe_cal C_is_in hr (by decide) pass0 (pa_cons (pv 1) (pa_cons (pv 5) (pa_cons (pv 2) pa_nil)))))))) (pss_one (ps_set (i := 3) sc_row_with.nd rfl (Or.inl rfl) (pv 4))) pss_nil)))
      (pss_one (ps_ret (pv 3)))))
theorem ok_row_with (D : DefAt K mg "row_with" s_row_with P_row_with) (T : Txt K mg c) (C_rows_of : Cal P w K mg base CX0 5 "rows_of" ["look", "line"] (sp_rows_of c)) (C_is_in : Cal P w K mg base CX0 1 "is_in" ["line", "row", "place"] (sp_is_in c)) (pure : ∀ vs H Q E, sp_row_with c vs H Q E → t_row_with K c E { nx := fun _ H' => Q .non H', rt := Q } (start N_row_with vs) H) : Cal P w K mg base CX0 6 "row_with" P_row_with (sp_row_with c) := by
  obtain ⟨f, fd, F, m, b⟩ := D.ex
  refine ⟨⟨f, fd, ?_, m, F.kp, b⟩⟩
  refine F.ok sc_row_with (fun vs H Q E h => ?_) (fun cdv A outer s H vs Q E hr h => ⟨t_row_with K c E, b_row_with T C_rows_of C_is_in hr, pure vs H Q E h⟩)
  obtain ⟨_, _, _, _, _, rfl, _⟩ := h
  rfl
abbrev s_column_in : Stmt := topS 25
abbrev N_column_in : List Str := ["look", "line", "row", "place"]
abbrev P_column_in : List Str := ["look", "line", "row", "place"]
theorem sc_column_in : FnScope N_column_in P_column_in (defScope s_column_in) := ⟨rfl, rfl, rfl, by decide +kernel, rfl, by decide +kernel, by decide +kernel⟩
def t_column_in (K : PySem.W.Frag) (c : Cc) (E : XK) : TS :=
    (tRet (tCall (sp_columns_behind c) [] E0 (tCons (tVar 0) (tCons (tSl (rSlL K) (tVar 1) (tPart (tOp (rIxT K) (tVar 2) (tC (.int 0)))) (tPart (tVar 3))) (tCons (tOp (rIxT K) (tVar 2) (tC (.int 2))) tNil)))))
theorem b_column_in (T : Txt K mg c) (C_columns_behind : Cal P w K mg base CX0 2 "columns_behind" ["look", "some", "column"] (sp_columns_behind c)) {f : Addr} {cdv : Value} {A : Around} {outer : List Env} {s : Shared} {H : Hp} {E : XK} (hr : Room 2 (A.deeper (envOfC "column_in" (defScope s_column_in) s.heap.objs.size f cdv))) :
    PSs (cxOf CX0 P w K mg base N_column_in "column_in" (defScope s_column_in) f cdv A outer s H E).nox (defBody s_column_in) (t_column_in K c E) := by
  exact (pss_one (ps_ret (pe_cal C_columns_behind hr (by decide) pass0 (pa_cons (pv 0) (pa_cons (pe_slice sl_list (pv 1) (po_some (pe_ix ix_tup (pv 2) pe_int (fun _ _ => rfl))) (po_some (pv 3))) (pa_cons (pe_ix ix_tup (pv 2) pe_int (fun _ _ => rfl)) pa_nil))))))
theorem ok_column_in (D : DefAt K mg "column_in" s_column_in P_column_in) (T : Txt K mg c) (C_columns_behind : Cal P w K mg base CX0 2 "columns_behind" ["look", "some", "column"] (sp_columns_behind c)) (pure : ∀ vs H Q E, sp_column_in c vs H Q E → t_column_in K c E { nx := fun _ H' => Q .non H', rt := Q } (start N_column_in vs) H) : Cal P w K mg base CX0 3 "column_in" P_column_in (sp_column_in c) := by
  obtain ⟨f, fd, F, m, b⟩ := D.ex
  refine ⟨⟨f, fd, ?_, m, F.kp, b⟩⟩
  refine F.ok sc_column_in (fun vs H Q E h => ?_) (fun cdv A outer s H vs Q E hr h => ⟨t_column_in K c E, b_column_in T C_columns_behind hr, pure vs H Q E h⟩)
  obtain ⟨_, _, _, _, _, _, _, rfl, _⟩ := h
  rfl
abbrev s_place_for : Stmt := topS 26
abbrev N_place_for : List Str := ["look", "line", "row", "column", "last", "found", "place"]
abbrev P_place_for : List Str := ["look", "line", "row", "column"]
theorem sc_place_for : FnScope N_place_for P_place_for (defScope s_place_for) := ⟨rfl, rfl, rfl, by decide +kernel, rfl, by decide +kernel, by decide +kernel⟩
def t_place_for (K : PySem.W.Frag) (c : Cc) (E : XK) : TS :=
    (tSeq (tAsg (tOp (rIxT K) (tVar 2) (tC (.int 1))) (gName 4))
    (tSeq (tIfS (tTest (tOp rLtI (tVar 4) (tCB (rLenS K) (tCons (tVar 1) tNil)))) (tAsg (tOp rSubI (tOp (rIxT K) (tVar 2) (tC (.int 1))) (tC (.int 1))) (gName 4)) tNext)
    (tSeq (tAsg (tOp (rIxT K) (tVar 2) (tC (.int 0))) (gName 5))
    (tSeq (tFor (iRng2 (tCons (tOp (rIxT K) (tVar 2) (tC (.int 0))) (tCons (tOp rAddI (tVar 4) (tC (.int 1))) tNil))) (gName 6) (tIfS (tTest (tOp rLeI (tCall (sp_column_in c) [] E0 (tCons (tVar 0) (tCons (tVar 1) (tCons (tVar 2) (tCons (tVar 6) tNil))))) (tVar 3))) (tAsg (tVar 6) (gName 5)) tNext))
    (tRet (tVar 5))))))
theorem b_place_for (T : Txt K mg c) (C_column_in : Cal P w K mg base CX0 3 "column_in" ["look", "line", "row", "place"] (sp_column_in c)) {f : Addr} {cdv : Value} {A : Around} {outer : List Env} {s : Shared} {H : Hp} {E : XK} (hr : Room 3 (A.deeper (envOfC "place_for" (defScope s_place_for) s.heap.objs.size f cdv))) :
    PSs (cxOf CX0 P w K mg base N_place_for "place_for" (defScope s_place_for) f cdv A outer s H E).nox (defBody s_place_for) (t_place_for K c E) := by
  exact (pss_cons (ps_set (i := 4) sc_place_for.nd rfl (Or.inl rfl) (pe_ix ix_tup (pv 2) pe_int (fun _ _ => rfl)))
      (pss_cons (ps_if (pt_cmpR op_lt (pv 4) (pe_len T.n_len (pv 1)) (nomark _)) (pss_one (ps_set (i := 4) sc_place_for.nd rfl (Or.inl rfl) (pe_op op_sub (pe_ix ix_tup (pv 2) pe_int (fun _ _ => rfl)) pe_int))) pss_nil)
      (pss_cons (ps_set (i := 5) sc_place_for.nd rfl (Or.inl rfl) (pe_ix ix_tup (pv 2) pe_int (fun _ _ => rfl)))
      (pss_cons (ps_for PassesOwn.never rfl (pi_range2 rfl T.n_range (pa_cons (pe_ix ix_tup (pv 2) pe_int (fun _ _ => rfl)) (pa_cons (pe_op op_add (pv 4) pe_int) pa_nil))) (pg_name (i := 6) sc_place_for.nd rfl (Or.inl rfl)) (pss_one (ps_if (pt_cmpR op_le (pe_cal C_column_in hr (by decide) pass0 (pa_cons (pv 0) (pa_cons (pv 1) (pa_cons (pv 2) (pa_cons (pv 6) pa_nil))))) (pv 3) (nomark _)) (pss_one (ps_set (i := 5) sc_place_for.nd rfl (Or.inl rfl) (pv 6))) pss_nil)))
      (pss_one (ps_ret (pv 5)))))))
theorem ok_place_for (D : DefAt K mg "place_for" s_place_for P_place_for) (T : Txt K mg c) (C_column_in : Cal P w K mg base CX0 3 "column_in" ["look", "line", "row", "place"] (sp_column_in c)) (pure : ∀ vs H Q E, sp_place_for c vs H Q E → t_place_for K c E { nx := fun _ H' => Q .non H', rt := Q } (start N_place_for vs) H) : Cal P w K mg base CX0 4 "place_for" P_place_for (sp_place_for c) := by
  obtain ⟨f, fd, F, m, b⟩ := D.ex
  refine ⟨⟨f, fd, ?_, m, F.kp, b⟩⟩
  refine F.ok sc_place_for (fun vs H Q E h => ?_) (fun cdv A outer s H vs Q E hr h => ⟨t_place_for K c E, b_place_for T C_column_in hr, pure vs H Q E h⟩)
  obtain ⟨_, _, _, _, _, _, _, rfl, _⟩ := h
  rfl
end
end Fw
/-! Readings and derivations, printed by gen.py. -/
namespace Fw
open PySem PySem.Spec PyProof.Rows L2 Evl
section
variable {P : Program} {w : World} {K : PySem.W.Frag} {mg : Str → Option Value} {base : Heap} {c : Cc}
abbrev s_Refused_init : Stmt := inClass (topS 40) 0
abbrev N_Refused_init : List Str := ["self", "code"]
abbrev P_Refused_init : List Str := ["self", "code"]
theorem sc_Refused_init : FnScope N_Refused_init P_Refused_init (defScope s_Refused_init) := ⟨rfl, rfl, rfl, by decide +kernel, rfl, by decide +kernel, by decide +kernel⟩
abbrev s_want : Stmt := topS 41
abbrev N_want : List Str := ["is_so", "code"]
abbrev P_want : List Str := ["is_so", "code"]
theorem sc_want : FnScope N_want P_want (defScope s_want) := ⟨rfl, rfl, rfl, by decide +kernel, rfl, by decide +kernel, by decide +kernel⟩
abbrev s_is_line : Stmt := topS 42
abbrev N_is_line : List Str := ["line", "byte"]
abbrev P_is_line : List Str := ["line"]
theorem sc_is_line : FnScope N_is_line P_is_line (defScope s_is_line) := ⟨rfl, rfl, rfl, by decide +kernel, rfl, by decide +kernel, by decide +kernel⟩
def t_is_line (K : PySem.W.Frag) (c : Cc) (E : XK) : TS :=
    (tRet (tAndV (tOp rLeI (tCB (rLenS K) (tCons (tVar 0) tNil)) (tC (.int (120)))) (tAndV (tOp (rIn K true) (tC (.int (10))) (tVar 0)) (tCB (rAll K) (tCons (tLc (iList K (tVar 0)) (gName 1) tYes (tOp rLeI (tVar 1) (tC (.int (255)))) [1]) tNil)))))
theorem b_is_line (T : Txt K mg c)  {f : Addr} {cdv : Value} {A : Around} {outer : List Env} {s : Shared} {H : Hp} {E : XK} (hr : Room 0 (A.deeper (envOfC "is_line" (defScope s_is_line) s.heap.objs.size f cdv))) :
    PSs (cxOf CX0 P w K mg base N_is_line "is_line" (defScope s_is_line) f cdv A outer s H E).nox (defBody s_is_line) (t_is_line K c E) := by
  exact (pss_one (ps_ret (pe_and (pe_cmpR op_le (pe_len T.n_len (pv 0)) (pe_const T.c_MOST_BYTES) (nomark _)) (pe_and (pe_cmpR op_notIn_seq (pe_const T.c_LINE_FEED) (pv 0) (by rfl)) (pe_one (pe_all rfl T.n_all (pe_lc (own := [("byte", 1)]) (g := (gName 1)) (tt := tYes) (te := (tOp rLeI (tVar 1) (tC (.int (255))))) rfl sc_is_line.nd (pi_list (pv 0)) (blkOk_by (N := N_is_line) (sc := defScope s_is_line) (by decide +kernel)) (fun _ _ _ _ _ => (pg_name (i := 1) sc_is_line.nd rfl (Or.inl rfl))) (fun _ _ _ _ _ => pts_nil) (fun _ _ _ _ _ => (pe_cmpR op_le (pv 1) (pe_const T.c_MOST_BYTE) (nomark _))))))))))
theorem ok_is_line (D : DefAt K mg "is_line" s_is_line P_is_line) (T : Txt K mg c)  (pure : ∀ vs H Q E, sp_is_line c vs H Q E → t_is_line K c E { nx := fun _ H' => Q .non H', rt := Q } (start N_is_line vs) H) : Cal P w K mg base CX0 1 "is_line" P_is_line (sp_is_line c) := by
  obtain ⟨f, fd, F, m, b⟩ := D.ex
  refine ⟨⟨f, fd, ?_, m, F.kp, b⟩⟩
  refine F.ok sc_is_line (fun vs H Q E h => ?_) (fun cdv A outer s H vs Q E hr h => ⟨t_is_line K c E, b_is_line T  hr, pure vs H Q E h⟩)
  obtain ⟨_, _, rfl, _⟩ := h
  rfl
abbrev s_are_lines : Stmt := topS 43
abbrev N_are_lines : List Str := ["lines", "line"]
abbrev P_are_lines : List Str := ["lines"]
theorem sc_are_lines : FnScope N_are_lines P_are_lines (defScope s_are_lines) := ⟨rfl, rfl, rfl, by decide +kernel, rfl, by decide +kernel, by decide +kernel⟩
def t_are_lines (K : PySem.W.Frag) (c : Cc) (E : XK) : TS :=
    (tRet (tCB (rAll K) (tCons (tLc (iList K (tVar 0)) (gName 1) tYes (tCall (sp_is_line c) [] E0 (tCons (tVar 1) tNil)) [1]) tNil)))
theorem b_are_lines (T : Txt K mg c) (C_is_line : Cal P w K mg base CX0 1 "is_line" ["line"] (sp_is_line c)) {f : Addr} {cdv : Value} {A : Around} {outer : List Env} {s : Shared} {H : Hp} {E : XK} (hr : Room 1 (A.deeper (envOfC "are_lines" (defScope s_are_lines) s.heap.objs.size f cdv))) :
    PSs (cxOf CX0 P w K mg base N_are_lines "are_lines" (defScope s_are_lines) f cdv A outer s H E).nox (defBody s_are_lines) (t_are_lines K c E) := by
  exact (pss_one (ps_ret (pe_all rfl T.n_all (pe_lc (own := [("line", 1)]) (g := (gName 1)) (tt := tYes) (te := (tCall (sp_is_line c) [] E0 (tCons (tVar 1) tNil))) rfl sc_are_lines.nd (pi_list (pv 0)) (blkOk_by (N := N_are_lines) (sc := defScope s_are_lines) (by decide +kernel)) (fun _ _ _ _ _ => (pg_name (i := 1) sc_are_lines.nd rfl (Or.inl rfl))) (fun _ _ _ _ _ => pts_nil) (fun _ _ _ _ _ => (pe_cal C_is_line hr (by decide) pass0 (pa_cons (pv 1) pa_nil)))))))
theorem ok_are_lines (D : DefAt K mg "are_lines" s_are_lines P_are_lines) (T : Txt K mg c) (C_is_line : Cal P w K mg base CX0 1 "is_line" ["line"] (sp_is_line c)) (pure : ∀ vs H Q E, sp_are_lines c vs H Q E → t_are_lines K c E { nx := fun _ H' => Q .non H', rt := Q } (start N_are_lines vs) H) : Cal P w K mg base CX0 2 "are_lines" P_are_lines (sp_are_lines c) := by
  obtain ⟨f, fd, F, m, b⟩ := D.ex
  refine ⟨⟨f, fd, ?_, m, F.kp, b⟩⟩
  refine F.ok sc_are_lines (fun vs H Q E h => ?_) (fun cdv A outer s H vs Q E hr h => ⟨t_are_lines K c E, b_are_lines T C_is_line hr, pure vs H Q E h⟩)
  obtain ⟨_, _, rfl, _⟩ := h
  rfl
abbrev s_Page_init : Stmt := inClass (topS 44) 0
abbrev N_Page_init : List Str := ["self"]
abbrev P_Page_init : List Str := ["self"]
theorem sc_Page_init : FnScope N_Page_init P_Page_init (defScope s_Page_init) := ⟨rfl, rfl, rfl, by decide +kernel, rfl, by decide +kernel, by decide +kernel⟩
def t_Page_init (K : PySem.W.Frag) (c : Cc) (E : XK) : TS :=
    (tSeq (sFld K (tVar 0) (tLst (tCons (tLst tNil) tNil)) "lines")
    (tSeq (sFld K (tVar 0) (tMake c.CL (sp_Look_init c) [] E0 (tCons (tC (.int 20)) (tCons (tC (.int 8)) (tCons (tC (.int 0)) (tCons (tC (.int 0)) (tCons (tC (.int 1)) tNil)))))) "shape")
    (tSeq (sFld K (tVar 0) (tLst tNil) "folds")
    (tSeq (sFld K (tVar 0) (tC (.int 0)) "line")
    (tSeq (sFld K (tVar 0) (tC (.int 0)) "place")
    (tSeq (sFld K (tVar 0) (tC .non) "wished")
    (tSeq (sFld K (tVar 0) (tC (.int 0)) "top")
    (tSeq (sFld K (tVar 0) (tC (.int 10)) "high")
    (sFld K (tVar 0) (tC (.int 0)) "told_margin")))))))))
theorem b_Page_init (T : Txt K mg c) (C_Look_init : KCal P w K mg base CX0 1 c.CL "Look" ["self", "wide", "tab", "more", "hang", "words"] (sp_Look_init c)) {f : Addr} {cdv : Value} {A : Around} {outer : List Env} {s : Shared} {H : Hp} {E : XK} (hr : Room 2 (A.deeper (envOfC "Page.__init__" (defScope s_Page_init) s.heap.objs.size f cdv))) :
    PSs (cxOf CX0 P w K mg base N_Page_init "Page.__init__" (defScope s_Page_init) f cdv A outer s H E).nox (defBody s_Page_init) (t_Page_init K c E) := by
  exact (pss_cons (ps_fld (pv 0) (pe_lst (pa_cons (pe_lst pa_nil) pa_nil)) rfl)
      (pss_cons (ps_fld (pv 0) (pe_kcal C_Look_init hr (by decide) pass0 (pa_cons pe_int (pa_cons pe_int (pa_cons pe_int (pa_cons pe_int (pa_cons pe_int pa_nil)))))) rfl)
      (pss_cons (ps_fld (pv 0) (pe_lst pa_nil) rfl)
      (pss_cons (ps_fld (pv 0) pe_int rfl)
      (pss_cons (ps_fld (pv 0) pe_int rfl)
      (pss_cons (ps_fld (pv 0) pe_non rfl)
      (pss_cons (ps_fld (pv 0) pe_int rfl)
      (pss_cons (ps_fld (pv 0) pe_int rfl)
      (pss_one (ps_fld (pv 0) pe_int rfl))))))))))
theorem ok_Page_init (D : InitAt K mg c.CP "Page" "Page.__init__" s_Page_init P_Page_init) (T : Txt K mg c) (C_Look_init : KCal P w K mg base CX0 1 c.CL "Look" ["self", "wide", "tab", "more", "hang", "words"] (sp_Look_init c)) (pure : ∀ vs H Q E, sp_Page_init c vs H Q E → t_Page_init K c E { nx := fun _ H' => Q .non H', rt := Q } (start N_Page_init vs) H) : KCal P w K mg base CX0 3 c.CP "Page" P_Page_init (sp_Page_init c) := by
  obtain ⟨f, fd, F, M, m, b⟩ := D.ex
  refine ⟨⟨f, fd, ?_, M, m, b⟩⟩
  refine F.ok sc_Page_init (fun vs H Q E h => ?_) (fun cdv A outer s H vs Q E hr h => ⟨t_Page_init K c E, b_Page_init T C_Look_init hr, pure vs H Q E h⟩)
  obtain ⟨_, _, rfl, _⟩ := h
  rfl
abbrev s_margin : Stmt := inClass (topS 44) 1
abbrev N_margin : List Str := ["self"]
abbrev P_margin : List Str := ["self"]
theorem sc_margin : FnScope N_margin P_margin (defScope s_margin) := ⟨rfl, rfl, rfl, by decide +kernel, rfl, by decide +kernel, by decide +kernel⟩
def t_margin (K : PySem.W.Frag) (c : Cc) (E : XK) : TS :=
    (tRet (tCB rMin2 (tCons (tFld K (tVar 0) "told_margin") (tCons (tOp rDivI (tOp rSubI (tFld K (tVar 0) "high") (tC (.int 1))) (tC (.int 2))) tNil))))
theorem b_margin (T : Txt K mg c)  {f : Addr} {cdv : Value} {A : Around} {outer : List Env} {s : Shared} {H : Hp} {E : XK} (hr : Room 0 (A.deeper (envOfC "Page.margin" (defScope s_margin) s.heap.objs.size f cdv))) :
    PSs (cxOf CX0 P w K mg base N_margin "Page.margin" (defScope s_margin) f cdv A outer s H E).nox (defBody s_margin) (t_margin K c E) := by
  exact (pss_one (ps_ret (pe_min rfl T.n_min (pe_fld (pv 0) rfl) (pe_op op_fdiv (pe_op op_sub (pe_fld (pv 0) rfl) pe_int) pe_int))))
theorem ok_margin (D : MethAt K c.CP "margin" "Page.margin" s_margin P_margin) (T : Txt K mg c)  (pure : ∀ vs H Q E, sp_margin c vs H Q E → t_margin K c E { nx := fun _ H' => Q .non H', rt := Q } (start N_margin vs) H) : MCal P w K mg base CX0 1 c.CP "margin" P_margin (sp_margin c) := by
  obtain ⟨f, fd, F, m, b⟩ := D.ex
  refine ⟨⟨f, fd, ?_, m, b⟩⟩
  refine F.ok sc_margin (fun vs H Q E h => ?_) (fun cdv A outer s H vs Q E hr h => ⟨t_margin K c E, b_margin T  hr, pure vs H Q E h⟩)
  obtain ⟨_, _, _, rfl, _⟩ := h
  rfl
abbrev s_rows : Stmt := inClass (topS 44) 2
abbrev N_rows : List Str := ["self", "found", "number", "line", "row"]
abbrev P_rows : List Str := ["self"]
theorem sc_rows : FnScope N_rows P_rows (defScope s_rows) := ⟨rfl, rfl, rfl, by decide +kernel, rfl, by decide +kernel, by decide +kernel⟩
def t_rows (K : PySem.W.Frag) (c : Cc) (E : XK) : TS :=
    (tSeq (tAsg (tLst tNil) (gName 1))
    (tSeq (tFor (iEnum K (tCons (tFld K (tVar 0) "lines") tNil)) (gTup K 2 (gCons (gName 2) (gCons (gName 3) gNil))) (tIfS (tB (tCall (sp_is_seen c) [] E0 (tCons (tFld K (tVar 0) "folds") (tCons (tVar 2) tNil)))) (tDrop (tBM K "list" rExtend (tVar 1) (tCons (tLc (iList K (tCall (sp_rows_of c) [] E0 (tCons (tFld K (tVar 0) "shape") (tCons (tVar 3) tNil)))) (gName 4) tYes (tTup (tCons (tVar 2) (tCons (tVar 4) tNil))) [4]) tNil))) tNext))
    (tRet (tVar 1))))
theorem b_rows (T : Txt K mg c) (C_is_seen : Cal P w K mg base CX0 2 "is_seen" ["folds", "line"] (sp_is_seen c)) (C_rows_of : Cal P w K mg base CX0 5 "rows_of" ["look", "line"] (sp_rows_of c)) {f : Addr} {cdv : Value} {A : Around} {outer : List Env} {s : Shared} {H : Hp} {E : XK} (hr : Room 5 (A.deeper (envOfC "Page.rows" (defScope s_rows) s.heap.objs.size f cdv))) :
    PSs (cxOf CX0 P w K mg base N_rows "Page.rows" (defScope s_rows) f cdv A outer s H E).nox (defBody s_rows) (t_rows K c E) := by
  exact (pss_cons (ps_set (i := 1) sc_rows.nd rfl (Or.inl rfl) (pe_lst pa_nil))
      (pss_cons (ps_for PassesOwn.never rfl (pi_enum (by rfl) T.n_enumerate (pa_cons (pe_fld (pv 0) rfl) pa_nil)) (pg_tup rfl (pgs_cons (pg_name (i := 2) sc_rows.nd rfl (Or.inr rfl)) (pgs_cons (pg_name (i := 3) sc_rows.nd rfl (Or.inl rfl)) pgs_nil))) (pss_one (ps_if (pt_val (pe_cal C_is_seen hr (by decide) pass0 (pa_cons (pe_fld (pv 0) rfl) (pa_cons (pv 2) pa_nil)))) (pss_one (ps_expr (pe_extend1 (pv 1) (pe_lc (own := [("row", 4)]) (g := (gName 4)) (tt := tYes) (te := (tTup (tCons (tVar 2) (tCons (tVar 4) tNil)))) rfl sc_rows.nd (pi_list (pe_cal C_rows_of hr (by decide) pass0 (pa_cons (pe_fld (pv 0) rfl) (pa_cons (pv 3) pa_nil)))) (blkOk_by (N := N_rows) (sc := defScope s_rows) (by decide +kernel)) (fun _ _ _ _ _ => (pg_name (i := 4) sc_rows.nd rfl (Or.inl rfl))) (fun _ _ _ _ _ => pts_nil) (fun _ _ _ _ _ => (pe_tup (pa_cons (pv 2) (pa_cons (pv 4) pa_nil)))))))) pss_nil)))
      (pss_one (ps_ret (pv 1)))))
theorem ok_rows (D : MethAt K c.CP "rows" "Page.rows" s_rows P_rows) (T : Txt K mg c) (C_is_seen : Cal P w K mg base CX0 2 "is_seen" ["folds", "line"] (sp_is_seen c)) (C_rows_of : Cal P w K mg base CX0 5 "rows_of" ["look", "line"] (sp_rows_of c)) (pure : ∀ vs H Q E, sp_rows c vs H Q E → t_rows K c E { nx := fun _ H' => Q .non H', rt := Q } (start N_rows vs) H) : MCal P w K mg base CX0 6 c.CP "rows" P_rows (sp_rows c) := by
  obtain ⟨f, fd, F, m, b⟩ := D.ex
  refine ⟨⟨f, fd, ?_, m, b⟩⟩
  refine F.ok sc_rows (fun vs H Q E h => ?_) (fun cdv A outer s H vs Q E hr h => ⟨t_rows K c E, b_rows T C_is_seen C_rows_of hr, pure vs H Q E h⟩)
  obtain ⟨_, _, _, rfl, _⟩ := h
  rfl
abbrev s_row_at : Stmt := inClass (topS 44) 3
abbrev N_row_at : List Str := ["self", "line", "place", "ahead", "number", "row"]
abbrev P_row_at : List Str := ["self", "line", "place"]
theorem sc_row_at : FnScope N_row_at P_row_at (defScope s_row_at) := ⟨rfl, rfl, rfl, by decide +kernel, rfl, by decide +kernel, by decide +kernel⟩
def t_row_at (K : PySem.W.Frag) (c : Cc) (E : XK) : TS :=
    (tSeq (tAsg (tLc (iList K (tMeth c.CP "rows" (sp_rows c) [] E0 (tVar 0) tNil)) (gTup K 2 (gCons (gName 4) (gCons (gName 5) gNil))) (tTest (tOp rLtI (tVar 4) (tVar 1))) (tVar 4) [4, 5]) (gName 3))
    (tRet (tOp rAddI (tCB (rLenS K) (tCons (tVar 3) tNil)) (tCall (sp_row_with c) [] E0 (tCons (tFld K (tVar 0) "shape") (tCons (tOp (rIxL K) (tFld K (tVar 0) "lines") (tVar 1)) (tCons (tVar 2) tNil)))))))
theorem b_row_at (T : Txt K mg c) (C_rows : MCal P w K mg base CX0 6 c.CP "rows" ["self"] (sp_rows c)) (C_row_with : Cal P w K mg base CX0 6 "row_with" ["look", "line", "place"] (sp_row_with c)) {f : Addr} {cdv : Value} {A : Around} {outer : List Env} {s : Shared} {H : Hp} {E : XK} (hr : Room 6 (A.deeper (envOfC "Page.row_at" (defScope s_row_at) s.heap.objs.size f cdv))) :
    PSs (cxOf CX0 P w K mg base N_row_at "Page.row_at" (defScope s_row_at) f cdv A outer s H E).nox (defBody s_row_at) (t_row_at K c E) := by
  exact (pss_cons (ps_setLc (i := 3) (own := [("number", 4), ("row", 5)]) (g := (gTup K 2 (gCons (gName 4) (gCons (gName 5) gNil)))) (tt := (tTest (tOp rLtI (tVar 4) (tVar 1)))) (te := (tVar 4)) rfl sc_row_at.nd rfl rfl (sw_true rfl rfl rfl (by decide +kernel)) (pi_list (pe_mcal0 (pv 0) T.clsP C_rows hr (by decide) pass0)) (blkOk_by (N := N_row_at) (sc := defScope s_row_at) (by decide +kernel)) (fun _ _ _ _ _ => (pg_tup rfl (pgs_cons (pg_name (i := 4) sc_row_at.nd rfl (Or.inl rfl)) (pgs_cons (pg_name (i := 5) sc_row_at.nd rfl (Or.inl rfl)) pgs_nil)))) (fun _ _ _ _ _ => pts_one (pt_cmpR op_lt (pv 4) (pv 1) (nomark _))) (fun _ _ _ _ _ => (pv 4)))
      (pss_one (ps_ret (pe_op op_add (pe_len T.n_len (pv 3)) (pe_cal C_row_with hr (by decide) pass0 (pa_cons (pe_fld (pv 0) rfl) (pa_cons (pe_ix ix_list (pe_fld (pv 0) rfl) (pv 1) (fun _ _ => rfl)) (pa_cons (pv 2) pa_nil))))))))
theorem ok_row_at (D : MethAt K c.CP "row_at" "Page.row_at" s_row_at P_row_at) (T : Txt K mg c) (C_rows : MCal P w K mg base CX0 6 c.CP "rows" ["self"] (sp_rows c)) (C_row_with : Cal P w K mg base CX0 6 "row_with" ["look", "line", "place"] (sp_row_with c)) (pure : ∀ vs H Q E, sp_row_at c vs H Q E → t_row_at K c E { nx := fun _ H' => Q .non H', rt := Q } (start N_row_at vs) H) : MCal P w K mg base CX0 7 c.CP "row_at" P_row_at (sp_row_at c) := by
  obtain ⟨f, fd, F, m, b⟩ := D.ex
  refine ⟨⟨f, fd, ?_, m, b⟩⟩
  refine F.ok sc_row_at (fun vs H Q E h => ?_) (fun cdv A outer s H vs Q E hr h => ⟨t_row_at K c E, b_row_at T C_rows C_row_with hr, pure vs H Q E h⟩)
  obtain ⟨_, _, _, _, _, rfl, _⟩ := h
  rfl
abbrev s_own_row : Stmt := inClass (topS 44) 4
abbrev N_own_row : List Str := ["self"]
abbrev P_own_row : List Str := ["self"]
theorem sc_own_row : FnScope N_own_row P_own_row (defScope s_own_row) := ⟨rfl, rfl, rfl, by decide +kernel, rfl, by decide +kernel, by decide +kernel⟩
def t_own_row (K : PySem.W.Frag) (c : Cc) (E : XK) : TS :=
    (tRet (tMeth c.CP "row_at" (sp_row_at c) [] E0 (tVar 0) (tCons (tFld K (tVar 0) "line") (tCons (tFld K (tVar 0) "place") tNil))))
theorem b_own_row (T : Txt K mg c) (C_row_at : MCal P w K mg base CX0 7 c.CP "row_at" ["self", "line", "place"] (sp_row_at c)) {f : Addr} {cdv : Value} {A : Around} {outer : List Env} {s : Shared} {H : Hp} {E : XK} (hr : Room 7 (A.deeper (envOfC "Page.own_row" (defScope s_own_row) s.heap.objs.size f cdv))) :
    PSs (cxOf CX0 P w K mg base N_own_row "Page.own_row" (defScope s_own_row) f cdv A outer s H E).nox (defBody s_own_row) (t_own_row K c E) := by
  exact (pss_one (ps_ret (pe_mcal (pv 0) T.clsP C_row_at hr (by decide) pass0 (pa_cons (pe_fld (pv 0) rfl) (pa_cons (pe_fld (pv 0) rfl) pa_nil)))))
theorem ok_own_row (D : MethAt K c.CP "own_row" "Page.own_row" s_own_row P_own_row) (T : Txt K mg c) (C_row_at : MCal P w K mg base CX0 7 c.CP "row_at" ["self", "line", "place"] (sp_row_at c)) (pure : ∀ vs H Q E, sp_own_row c vs H Q E → t_own_row K c E { nx := fun _ H' => Q .non H', rt := Q } (start N_own_row vs) H) : MCal P w K mg base CX0 8 c.CP "own_row" P_own_row (sp_own_row c) := by
  obtain ⟨f, fd, F, m, b⟩ := D.ex
  refine ⟨⟨f, fd, ?_, m, b⟩⟩
  refine F.ok sc_own_row (fun vs H Q E h => ?_) (fun cdv A outer s H vs Q E hr h => ⟨t_own_row K c E, b_own_row T C_row_at hr, pure vs H Q E h⟩)
  obtain ⟨_, _, _, rfl, _⟩ := h
  rfl
abbrev s_column_at : Stmt := inClass (topS 44) 5
abbrev N_column_at : List Str := ["self", "line", "place", "some", "row"]
abbrev P_column_at : List Str := ["self", "line", "place"]
theorem sc_column_at : FnScope N_column_at P_column_at (defScope s_column_at) := ⟨rfl, rfl, rfl, by decide +kernel, rfl, by decide +kernel, by decide +kernel⟩
def t_column_at (K : PySem.W.Frag) (c : Cc) (E : XK) : TS :=
    (tSeq (tAsg (tOp (rIxL K) (tFld K (tVar 0) "lines") (tVar 1)) (gName 3))
    (tSeq (tAsg (tOp (rIxL K) (tCall (sp_rows_of c) [] E0 (tCons (tFld K (tVar 0) "shape") (tCons (tVar 3) tNil))) (tCall (sp_row_with c) [] E0 (tCons (tFld K (tVar 0) "shape") (tCons (tVar 3) (tCons (tVar 2) tNil))))) (gName 4))
    (tRet (tCB rMin2 (tCons (tCall (sp_column_in c) [] E0 (tCons (tFld K (tVar 0) "shape") (tCons (tVar 3) (tCons (tVar 4) (tCons (tVar 2) tNil))))) (tCons (tOp rSubI (tFld K (tFld K (tVar 0) "shape") "wide") (tC (.int 1))) tNil))))))
theorem b_column_at (T : Txt K mg c) (C_rows_of : Cal P w K mg base CX0 5 "rows_of" ["look", "line"] (sp_rows_of c)) (C_row_with : Cal P w K mg base CX0 6 "row_with" ["look", "line", "place"] (sp_row_with c)) (C_column_in : Cal P w K mg base CX0 3 "column_in" ["look", "line", "row", "place"] (sp_column_in c)) {f : Addr} {cdv : Value} {A : Around} {outer : List Env} {s : Shared} {H : Hp} {E : XK} (hr : Room 6 (A.deeper (envOfC "Page.column_at" (defScope s_column_at) s.heap.objs.size f cdv))) :
    PSs (cxOf CX0 P w K mg base N_column_at "Page.column_at" (defScope s_column_at) f cdv A outer s H E).nox (defBody s_column_at) (t_column_at K c E) := by
  exact (pss_cons (ps_set (i := 3) sc_column_at.nd rfl (Or.inl rfl) (pe_ix ix_list (pe_fld (pv 0) rfl) (pv 1) (fun _ _ => rfl)))
      (pss_cons (ps_set (i := 4) sc_column_at.nd rfl (Or.inl rfl) (pe_ix ix_list (pe_cal C_rows_of hr (by decide) pass0 (pa_cons (pe_fld (pv 0) rfl) (pa_cons (pv 3) pa_nil))) (pe_cal C_row_with hr (by decide) pass0 (pa_cons (pe_fld (pv 0) rfl) (pa_cons (pv 3) (pa_cons (pv 2) pa_nil)))) (fun _ _ => rfl)))
      (pss_one (ps_ret (pe_min rfl T.n_min (pe_cal C_column_in hr (by decide) pass0 (pa_cons (pe_fld (pv 0) rfl) (pa_cons (pv 3) (pa_cons (pv 4) (pa_cons (pv 2) pa_nil))))) (pe_op op_sub (pe_fld (pe_fld (pv 0) rfl) rfl) pe_int))))))
theorem ok_column_at (D : MethAt K c.CP "column_at" "Page.column_at" s_column_at P_column_at) (T : Txt K mg c) (C_rows_of : Cal P w K mg base CX0 5 "rows_of" ["look", "line"] (sp_rows_of c)) (C_row_with : Cal P w K mg base CX0 6 "row_with" ["look", "line", "place"] (sp_row_with c)) (C_column_in : Cal P w K mg base CX0 3 "column_in" ["look", "line", "row", "place"] (sp_column_in c)) (pure : ∀ vs H Q E, sp_column_at c vs H Q E → t_column_at K c E { nx := fun _ H' => Q .non H', rt := Q } (start N_column_at vs) H) : MCal P w K mg base CX0 7 c.CP "column_at" P_column_at (sp_column_at c) := by
  obtain ⟨f, fd, F, m, b⟩ := D.ex
  refine ⟨⟨f, fd, ?_, m, b⟩⟩
  refine F.ok sc_column_at (fun vs H Q E h => ?_) (fun cdv A outer s H vs Q E hr h => ⟨t_column_at K c E, b_column_at T C_rows_of C_row_with C_column_in hr, pure vs H Q E h⟩)
  obtain ⟨_, _, _, _, _, rfl, _⟩ := h
  rfl
abbrev s_told : Stmt := inClass (topS 44) 6
abbrev N_told : List Str := ["self", "column"]
abbrev P_told : List Str := ["self"]
theorem sc_told : FnScope N_told P_told (defScope s_told) := ⟨rfl, rfl, rfl, by decide +kernel, rfl, by decide +kernel, by decide +kernel⟩
def t_told (K : PySem.W.Frag) (c : Cc) (E : XK) : TS :=
    (tSeq (tAsg (tMeth c.CP "column_at" (sp_column_at c) [] E0 (tVar 0) (tCons (tFld K (tVar 0) "line") (tCons (tFld K (tVar 0) "place") tNil))) (gName 1))
    (tRet (tLst (tCons (tFld K (tVar 0) "line") (tCons (tFld K (tVar 0) "place") (tCons (tOp rSubI (tMeth c.CP "own_row" (sp_own_row c) [] E0 (tVar 0) tNil) (tFld K (tVar 0) "top")) (tCons (tVar 1) tNil)))))))
theorem b_told (T : Txt K mg c) (C_column_at : MCal P w K mg base CX0 7 c.CP "column_at" ["self", "line", "place"] (sp_column_at c)) (C_own_row : MCal P w K mg base CX0 8 c.CP "own_row" ["self"] (sp_own_row c)) {f : Addr} {cdv : Value} {A : Around} {outer : List Env} {s : Shared} {H : Hp} {E : XK} (hr : Room 8 (A.deeper (envOfC "Page.told" (defScope s_told) s.heap.objs.size f cdv))) :
    PSs (cxOf CX0 P w K mg base N_told "Page.told" (defScope s_told) f cdv A outer s H E).nox (defBody s_told) (t_told K c E) := by
  exact (pss_cons (ps_set (i := 1) sc_told.nd rfl (Or.inl rfl) (pe_mcal (pv 0) T.clsP C_column_at hr (by decide) pass0 (pa_cons (pe_fld (pv 0) rfl) (pa_cons (pe_fld (pv 0) rfl) pa_nil))))
      (pss_one (ps_ret (pe_lst (pa_cons (pe_fld (pv 0) rfl) (pa_cons (pe_fld (pv 0) rfl) (pa_cons (pe_op op_sub (pe_mcal0 (pv 0) T.clsP C_own_row hr (by decide) pass0) (pe_fld (pv 0) rfl)) (pa_cons (pv 1) pa_nil))))))))
theorem ok_told (D : MethAt K c.CP "told" "Page.told" s_told P_told) (T : Txt K mg c) (C_column_at : MCal P w K mg base CX0 7 c.CP "column_at" ["self", "line", "place"] (sp_column_at c)) (C_own_row : MCal P w K mg base CX0 8 c.CP "own_row" ["self"] (sp_own_row c)) (pure : ∀ vs H Q E, sp_told c vs H Q E → t_told K c E { nx := fun _ H' => Q .non H', rt := Q } (start N_told vs) H) : MCal P w K mg base CX0 9 c.CP "told" P_told (sp_told c) := by
  obtain ⟨f, fd, F, m, b⟩ := D.ex
  refine ⟨⟨f, fd, ?_, m, b⟩⟩
  refine F.ok sc_told (fun vs H Q E h => ?_) (fun cdv A outer s H vs Q E hr h => ⟨t_told K c E, b_told T C_column_at C_own_row hr, pure vs H Q E h⟩)
  obtain ⟨_, _, _, rfl, _⟩ := h
  rfl
abbrev s_scrolled : Stmt := inClass (topS 44) 7
abbrev N_scrolled : List Str := ["self", "top", "row", "margin"]
abbrev P_scrolled : List Str := ["self"]
theorem sc_scrolled : FnScope N_scrolled P_scrolled (defScope s_scrolled) := ⟨rfl, rfl, rfl, by decide +kernel, rfl, by decide +kernel, by decide +kernel⟩
def t_scrolled (K : PySem.W.Frag) (c : Cc) (E : XK) : TS :=
    (tSeq (tPar 2 3 (tCons (tMeth c.CP "own_row" (sp_own_row c) [] E0 (tVar 0) tNil) (tCons (tMeth c.CP "margin" (sp_margin c) [] E0 (tVar 0) tNil) tNil)))
    (tSeq (tAsg (tCB rMin2 (tCons (tFld K (tVar 0) "top") (tCons (tCB rMax2 (tCons (tC (.int 0)) (tCons (tOp rSubI (tVar 2) (tVar 3)) tNil))) tNil))) (gName 1))
    (tSeq (tAsg (tCB rMax2 (tCons (tVar 1) (tCons (tOp rSubI (tOp rAddI (tOp rAddI (tVar 2) (tVar 3)) (tC (.int 1))) (tFld K (tVar 0) "high")) tNil))) (gName 1))
    (tSeq (sFld K (tVar 0) (tCB rMin2 (tCons (tVar 1) (tCons (tMeth c.CP "last_top" (sp_last_top c) [] E0 (tVar 0) tNil) tNil))) "top")
    (tRet (tMeth c.CP "told" (sp_told c) [] E0 (tVar 0) tNil))))))
theorem b_scrolled (T : Txt K mg c) (C_margin : MCal P w K mg base CX0 1 c.CP "margin" ["self"] (sp_margin c)) (C_own_row : MCal P w K mg base CX0 8 c.CP "own_row" ["self"] (sp_own_row c)) (C_last_top : MCal P w K mg base CX0 7 c.CP "last_top" ["self"] (sp_last_top c)) (C_told : MCal P w K mg base CX0 9 c.CP "told" ["self"] (sp_told c)) {f : Addr} {cdv : Value} {A : Around} {outer : List Env} {s : Shared} {H : Hp} {E : XK} (hr : Room 9 (A.deeper (envOfC "Page.scrolled" (defScope s_scrolled) s.heap.objs.size f cdv))) :
    PSs (cxOf CX0 P w K mg base N_scrolled "Page.scrolled" (defScope s_scrolled) f cdv A outer s H E).nox (defBody s_scrolled) (t_scrolled K c E) := by
  exact (pss_cons (ps_par (i := 2) (j := 3) rfl sc_scrolled.nd rfl rfl (by decide) rfl rfl (pa_cons (pe_mcal0 (pv 0) T.clsP C_own_row hr (by decide) pass0) (pa_cons (pe_mcal0 (pv 0) T.clsP C_margin hr (by decide) pass0) pa_nil)) (by rfl))
      (pss_cons (ps_set (i := 1) sc_scrolled.nd rfl (Or.inl rfl) (pe_min rfl T.n_min (pe_fld (pv 0) rfl) (pe_max rfl T.n_max pe_int (pe_op op_sub (pv 2) (pv 3)))))
      (pss_cons (ps_set (i := 1) sc_scrolled.nd rfl (Or.inl rfl) (pe_max rfl T.n_max (pv 1) (pe_op op_sub (pe_op op_add (pe_op op_add (pv 2) (pv 3)) pe_int) (pe_fld (pv 0) rfl))))
      (pss_cons (ps_fld (pv 0) (pe_min rfl T.n_min (pv 1) (pe_mcal0 (pv 0) T.clsP C_last_top hr (by decide) pass0)) rfl)
      (pss_one (ps_ret (pe_mcal0 (pv 0) T.clsP C_told hr (by decide) pass0)))))))
theorem ok_scrolled (D : MethAt K c.CP "scrolled" "Page.scrolled" s_scrolled P_scrolled) (T : Txt K mg c) (C_margin : MCal P w K mg base CX0 1 c.CP "margin" ["self"] (sp_margin c)) (C_own_row : MCal P w K mg base CX0 8 c.CP "own_row" ["self"] (sp_own_row c)) (C_last_top : MCal P w K mg base CX0 7 c.CP "last_top" ["self"] (sp_last_top c)) (C_told : MCal P w K mg base CX0 9 c.CP "told" ["self"] (sp_told c)) (pure : ∀ vs H Q E, sp_scrolled c vs H Q E → t_scrolled K c E { nx := fun _ H' => Q .non H', rt := Q } (start N_scrolled vs) H) : MCal P w K mg base CX0 10 c.CP "scrolled" P_scrolled (sp_scrolled c) := by
  obtain ⟨f, fd, F, m, b⟩ := D.ex
  refine ⟨⟨f, fd, ?_, m, b⟩⟩
  refine F.ok sc_scrolled (fun vs H Q E h => ?_) (fun cdv A outer s H vs Q E hr h => ⟨t_scrolled K c E, b_scrolled T C_margin C_own_row C_last_top C_told hr, pure vs H Q E h⟩)
  obtain ⟨_, _, _, rfl, _⟩ := h
  rfl
abbrev s_last_top : Stmt := inClass (topS 44) 8
abbrev N_last_top : List Str := ["self"]
abbrev P_last_top : List Str := ["self"]
theorem sc_last_top : FnScope N_last_top P_last_top (defScope s_last_top) := ⟨rfl, rfl, rfl, by decide +kernel, rfl, by decide +kernel, by decide +kernel⟩
def t_last_top (K : PySem.W.Frag) (c : Cc) (E : XK) : TS :=
    (tRet (tCB rMax2 (tCons (tC (.int 0)) (tCons (tOp rSubI (tCB (rLenS K) (tCons (tMeth c.CP "rows" (sp_rows c) [] E0 (tVar 0) tNil) tNil)) (tFld K (tVar 0) "high")) tNil))))
theorem b_last_top (T : Txt K mg c) (C_rows : MCal P w K mg base CX0 6 c.CP "rows" ["self"] (sp_rows c)) {f : Addr} {cdv : Value} {A : Around} {outer : List Env} {s : Shared} {H : Hp} {E : XK} (hr : Room 6 (A.deeper (envOfC "Page.last_top" (defScope s_last_top) s.heap.objs.size f cdv))) :
    PSs (cxOf CX0 P w K mg base N_last_top "Page.last_top" (defScope s_last_top) f cdv A outer s H E).nox (defBody s_last_top) (t_last_top K c E) := by
  exact (pss_one (ps_ret (pe_max rfl T.n_max pe_int (pe_op op_sub (pe_len T.n_len (pe_mcal0 (pv 0) T.clsP C_rows hr (by decide) pass0)) (pe_fld (pv 0) rfl)))))
theorem ok_last_top (D : MethAt K c.CP "last_top" "Page.last_top" s_last_top P_last_top) (T : Txt K mg c) (C_rows : MCal P w K mg base CX0 6 c.CP "rows" ["self"] (sp_rows c)) (pure : ∀ vs H Q E, sp_last_top c vs H Q E → t_last_top K c E { nx := fun _ H' => Q .non H', rt := Q } (start N_last_top vs) H) : MCal P w K mg base CX0 7 c.CP "last_top" P_last_top (sp_last_top c) := by
  obtain ⟨f, fd, F, m, b⟩ := D.ex
  refine ⟨⟨f, fd, ?_, m, b⟩⟩
  refine F.ok sc_last_top (fun vs H Q E h => ?_) (fun cdv A outer s H vs Q E hr h => ⟨t_last_top K c E, b_last_top T C_rows hr, pure vs H Q E h⟩)
  obtain ⟨_, _, _, rfl, _⟩ := h
  rfl
abbrev s_settled : Stmt := inClass (topS 44) 9
abbrev N_settled : List Str := ["self"]
abbrev P_settled : List Str := ["self"]
theorem sc_settled : FnScope N_settled P_settled (defScope s_settled) := ⟨rfl, rfl, rfl, by decide +kernel, rfl, by decide +kernel, by decide +kernel⟩
def t_settled (K : PySem.W.Frag) (c : Cc) (E : XK) : TS :=
    (tSeq (sFld K (tVar 0) (tC .non) "wished")
    (tSeq (sFld K (tVar 0) (tCall (sp_seen_for c) [] E0 (tCons (tFld K (tVar 0) "folds") (tCons (tFld K (tVar 0) "line") tNil))) "line")
    (tSeq (sFld K (tVar 0) (tCB rMin2 (tCons (tFld K (tVar 0) "place") (tCons (tCB (rLenS K) (tCons (tOp (rIxL K) (tFld K (tVar 0) "lines") (tFld K (tVar 0) "line")) tNil)) tNil))) "place")
    (tRet (tMeth c.CP "scrolled" (sp_scrolled c) [] E0 (tVar 0) tNil)))))
theorem b_settled (T : Txt K mg c) (C_seen_for : Cal P w K mg base CX0 3 "seen_for" ["folds", "line"] (sp_seen_for c)) (C_scrolled : MCal P w K mg base CX0 10 c.CP "scrolled" ["self"] (sp_scrolled c)) {f : Addr} {cdv : Value} {A : Around} {outer : List Env} {s : Shared} {H : Hp} {E : XK} (hr : Room 10 (A.deeper (envOfC "Page.settled" (defScope s_settled) s.heap.objs.size f cdv))) :
    PSs (cxOf CX0 P w K mg base N_settled "Page.settled" (defScope s_settled) f cdv A outer s H E).nox (defBody s_settled) (t_settled K c E) := by
  exact (pss_cons (ps_fld (pv 0) pe_non rfl)
      (pss_cons (ps_fld (pv 0) (pe_cal C_seen_for hr (by decide) pass0 (pa_cons (pe_fld (pv 0) rfl) (pa_cons (pe_fld (pv 0) rfl) pa_nil))) rfl)
      (pss_cons (ps_fld (pv 0) (pe_min rfl T.n_min (pe_fld (pv 0) rfl) (pe_len T.n_len (pe_ix ix_list (pe_fld (pv 0) rfl) (pe_fld (pv 0) rfl) (fun _ _ => rfl)))) rfl)
      (pss_one (ps_ret (pe_mcal0 (pv 0) T.clsP C_scrolled hr (by decide) pass0))))))
theorem ok_settled (D : MethAt K c.CP "settled" "Page.settled" s_settled P_settled) (T : Txt K mg c) (C_seen_for : Cal P w K mg base CX0 3 "seen_for" ["folds", "line"] (sp_seen_for c)) (C_scrolled : MCal P w K mg base CX0 10 c.CP "scrolled" ["self"] (sp_scrolled c)) (pure : ∀ vs H Q E, sp_settled c vs H Q E → t_settled K c E { nx := fun _ H' => Q .non H', rt := Q } (start N_settled vs) H) : MCal P w K mg base CX0 11 c.CP "settled" P_settled (sp_settled c) := by
  obtain ⟨f, fd, F, m, b⟩ := D.ex
  refine ⟨⟨f, fd, ?_, m, b⟩⟩
  refine F.ok sc_settled (fun vs H Q E h => ?_) (fun cdv A outer s H vs Q E hr h => ⟨t_settled K c E, b_settled T C_seen_for C_scrolled hr, pure vs H Q E h⟩)
  obtain ⟨_, _, _, rfl, _⟩ := h
  rfl
abbrev s_put_into : Stmt := inClass (topS 44) 10
abbrev N_put_into : List Str := ["self", "row", "part"]
abbrev P_put_into : List Str := ["self", "row"]
theorem sc_put_into : FnScope N_put_into P_put_into (defScope s_put_into) := ⟨rfl, rfl, rfl, by decide +kernel, rfl, by decide +kernel, by decide +kernel⟩
def t_put_into (K : PySem.W.Frag) (c : Cc) (E : XK) : TS :=
    (tSeq (tIfS (tTest (tOp rIsN (tFld K (tVar 0) "wished") (tC .non))) (sFld K (tVar 0) (tMeth c.CP "column_at" (sp_column_at c) [] E0 (tVar 0) (tCons (tFld K (tVar 0) "line") (tCons (tFld K (tVar 0) "place") tNil))) "wished") tNext)
    (tSeq (tAsg (tOp (rIxL K) (tMeth c.CP "rows" (sp_rows c) [] E0 (tVar 0) tNil) (tVar 1)) (gTup K 2 (gCons (gFld K "line" (tVar 0)) (gCons (gName 2) gNil))))
    (sFld K (tVar 0) (tCall (sp_place_for c) [] E0 (tCons (tFld K (tVar 0) "shape") (tCons (tOp (rIxL K) (tFld K (tVar 0) "lines") (tFld K (tVar 0) "line")) (tCons (tVar 2) (tCons (tFld K (tVar 0) "wished") tNil))))) "place")))
theorem b_put_into (T : Txt K mg c) (C_column_at : MCal P w K mg base CX0 7 c.CP "column_at" ["self", "line", "place"] (sp_column_at c)) (C_rows : MCal P w K mg base CX0 6 c.CP "rows" ["self"] (sp_rows c)) (C_place_for : Cal P w K mg base CX0 4 "place_for" ["look", "line", "row", "column"] (sp_place_for c)) {f : Addr} {cdv : Value} {A : Around} {outer : List Env} {s : Shared} {H : Hp} {E : XK} (hr : Room 7 (A.deeper (envOfC "Page.put_into" (defScope s_put_into) s.heap.objs.size f cdv))) :
    PSs (cxOf CX0 P w K mg base N_put_into "Page.put_into" (defScope s_put_into) f cdv A outer s H E).nox (defBody s_put_into) (t_put_into K c E) := by
  exact (pss_cons (ps_if (pt_cmpR op_isN (pe_fld (pv 0) rfl) pe_non (nomark _)) (pss_one (ps_fld (pv 0) (pe_mcal (pv 0) T.clsP C_column_at hr (by decide) pass0 (pa_cons (pe_fld (pv 0) rfl) (pa_cons (pe_fld (pv 0) rfl) pa_nil))) rfl)) pss_nil)
      (pss_cons (ps_asg (pe_ix ix_list (pe_mcal0 (pv 0) T.clsP C_rows hr (by decide) pass0) (pv 1) (fun _ _ => rfl)) (pg_tup rfl (pgs_cons (pg_fld (pv 0)) (pgs_cons (pg_name (i := 2) sc_put_into.nd rfl (Or.inl rfl)) pgs_nil))))
      (pss_one (ps_fld (pv 0) (pe_cal C_place_for hr (by decide) pass0 (pa_cons (pe_fld (pv 0) rfl) (pa_cons (pe_ix ix_list (pe_fld (pv 0) rfl) (pe_fld (pv 0) rfl) (fun _ _ => rfl)) (pa_cons (pv 2) (pa_cons (pe_fld (pv 0) rfl) pa_nil))))) rfl))))
theorem ok_put_into (D : MethAt K c.CP "put_into" "Page.put_into" s_put_into P_put_into) (T : Txt K mg c) (C_column_at : MCal P w K mg base CX0 7 c.CP "column_at" ["self", "line", "place"] (sp_column_at c)) (C_rows : MCal P w K mg base CX0 6 c.CP "rows" ["self"] (sp_rows c)) (C_place_for : Cal P w K mg base CX0 4 "place_for" ["look", "line", "row", "column"] (sp_place_for c)) (pure : ∀ vs H Q E, sp_put_into c vs H Q E → t_put_into K c E { nx := fun _ H' => Q .non H', rt := Q } (start N_put_into vs) H) : MCal P w K mg base CX0 8 c.CP "put_into" P_put_into (sp_put_into c) := by
  obtain ⟨f, fd, F, m, b⟩ := D.ex
  refine ⟨⟨f, fd, ?_, m, b⟩⟩
  refine F.ok sc_put_into (fun vs H Q E h => ?_) (fun cdv A outer s H vs Q E hr h => ⟨t_put_into K c E, b_put_into T C_column_at C_rows C_place_for hr, pure vs H Q E h⟩)
  obtain ⟨_, _, _, _, _, rfl, _⟩ := h
  rfl
end
end Fw
/-! Readings and derivations, printed by gen.py. -/
namespace Fw
open PySem PySem.Spec PyProof.Rows L2 Evl
section
variable {P : Program} {w : World} {K : PySem.W.Frag} {mg : Str → Option Value} {base : Heap} {c : Cc}
abbrev s_look : Stmt := inClass (topS 44) 11
abbrev N_look : List Str := ["self", "wide", "tab", "more", "hang", "words"]
abbrev P_look : List Str := ["self", "wide", "tab", "more", "hang", "words"]
theorem sc_look : FnScope N_look P_look (defScope s_look) := ⟨rfl, rfl, rfl, by decide +kernel, rfl, by decide +kernel, by decide +kernel⟩
def t_look (K : PySem.W.Frag) (c : Cc) (E : XK) : TS :=
    (tSeq (tDrop (tCall (sp_want c) [] E (tCons (tCall (sp_is_look c) [] E0 (tCons (tVar 1) (tCons (tVar 2) (tCons (tVar 3) tNil)))) (tCons (tC (.int (-1))) tNil))))
    (tSeq (sFld K (tVar 0) (tMake c.CL (sp_Look_init c) [] E0 (tCons (tVar 1) (tCons (tVar 2) (tCons (tVar 3) (tCons (tVar 4) (tCons (tVar 5) tNil)))))) "shape")
    (tRet (tMeth c.CP "settled" (sp_settled c) [] E0 (tVar 0) tNil))))
theorem b_look (T : Txt K mg c) (C_want : Cal P w K mg base (L2.CX P w) 3 "want" ["is_so", "code"] (sp_want c)) (C_is_look : Cal P w K mg base CX0 1 "is_look" ["wide", "tab", "more"] (sp_is_look c)) (C_Look_init : KCal P w K mg base CX0 1 c.CL "Look" ["self", "wide", "tab", "more", "hang", "words"] (sp_Look_init c)) (C_settled : MCal P w K mg base CX0 11 c.CP "settled" ["self"] (sp_settled c)) {f : Addr} {cdv : Value} {A : Around} {outer : List Env} {s : Shared} {H : Hp} {E : XK} (hr : Room 11 (A.deeper (envOfC "Page.look" (defScope s_look) s.heap.objs.size f cdv))) :
    PSs (cxOf (L2.CX P w) P w K mg base N_look "Page.look" (defScope s_look) f cdv A outer s H E) (defBody s_look) (t_look K c E) := by
  exact (pss_cons (ps_expr (pe_cal C_want hr (by decide) (passes_call (takes_of rfl rfl rfl rfl) (fun _ _ _ _ h => h)) (pa_cons (pe_cal C_is_look hr (by decide) pass0 (pa_cons (pv 1) (pa_cons (pv 2) (pa_cons (pv 3) pa_nil)))) (pa_cons (pe_const T.c_NOT_SO) pa_nil))))
      (pss_cons (ps_fld (pv 0) (pe_kcal C_Look_init hr (by decide) pass0 (pa_cons (pv 1) (pa_cons (pv 2) (pa_cons (pv 3) (pa_cons (pv 4) (pa_cons (pv 5) pa_nil)))))) rfl)
      (pss_one (ps_ret (pe_mcal0 (pv 0) T.clsP C_settled hr (by decide) pass0)))))
theorem ok_look (D : MethAt K c.CP "look" "Page.look" s_look P_look) (T : Txt K mg c) (C_want : Cal P w K mg base (L2.CX P w) 3 "want" ["is_so", "code"] (sp_want c)) (C_is_look : Cal P w K mg base CX0 1 "is_look" ["wide", "tab", "more"] (sp_is_look c)) (C_Look_init : KCal P w K mg base CX0 1 c.CL "Look" ["self", "wide", "tab", "more", "hang", "words"] (sp_Look_init c)) (C_settled : MCal P w K mg base CX0 11 c.CP "settled" ["self"] (sp_settled c)) (pure : ∀ vs H Q E, sp_look c vs H Q E → t_look K c E { nx := fun _ H' => Q .non H', rt := Q } (start N_look vs) H) : MCal P w K mg base (L2.CX P w) 12 c.CP "look" P_look (sp_look c) := by
  obtain ⟨f, fd, F, m, b⟩ := D.ex
  refine ⟨⟨f, fd, ?_, m, b⟩⟩
  refine F.okX sc_look (fun vs H Q E h => ?_) (fun cdv A outer s H vs Q E hr h => ⟨t_look K c E, b_look T C_want C_is_look C_Look_init C_settled hr, pure vs H Q E h⟩)
  obtain ⟨_, _, _, _, rfl, _⟩ := h
  rfl
abbrev s_window : Stmt := inClass (topS 44) 12
abbrev N_window : List Str := ["self", "high", "margin"]
abbrev P_window : List Str := ["self", "high", "margin"]
theorem sc_window : FnScope N_window P_window (defScope s_window) := ⟨rfl, rfl, rfl, by decide +kernel, rfl, by decide +kernel, by decide +kernel⟩
def t_window (K : PySem.W.Frag) (c : Cc) (E : XK) : TS :=
    (tSeq (tDrop (tCall (sp_want c) [] E (tCons (tAndV (tOp rLeI (tC (.int 1)) (tVar 1)) (tAndV (tOp rLeI (tVar 1) (tC (.int (60)))) (tOp rLeI (tVar 2) (tC (.int (60)))))) (tCons (tC (.int (-1))) tNil))))
    (tSeq (sFld K (tVar 0) (tVar 1) "high")
    (tSeq (sFld K (tVar 0) (tVar 2) "told_margin")
    (tRet (tMeth c.CP "scrolled" (sp_scrolled c) [] E0 (tVar 0) tNil)))))
theorem b_window (T : Txt K mg c) (C_want : Cal P w K mg base (L2.CX P w) 3 "want" ["is_so", "code"] (sp_want c)) (C_scrolled : MCal P w K mg base CX0 10 c.CP "scrolled" ["self"] (sp_scrolled c)) {f : Addr} {cdv : Value} {A : Around} {outer : List Env} {s : Shared} {H : Hp} {E : XK} (hr : Room 10 (A.deeper (envOfC "Page.window" (defScope s_window) s.heap.objs.size f cdv))) :
    PSs (cxOf (L2.CX P w) P w K mg base N_window "Page.window" (defScope s_window) f cdv A outer s H E) (defBody s_window) (t_window K c E) := by
  exact (pss_cons (ps_expr (pe_cal C_want hr (by decide) (passes_call (takes_of rfl rfl rfl rfl) (fun _ _ _ _ h => h)) (pa_cons (pe_and (pe_cmpR op_le pe_int (pv 1) (nomark _)) (pe_and (pe_cmpR op_le (pv 1) (pe_const T.c_MOST_HIGH) (nomark _)) (pe_one (pe_cmpR op_le (pv 2) (pe_const T.c_MOST_HIGH) (nomark _))))) (pa_cons (pe_const T.c_NOT_SO) pa_nil))))
      (pss_cons (ps_fld (pv 0) (pv 1) rfl)
      (pss_cons (ps_fld (pv 0) (pv 2) rfl)
      (pss_one (ps_ret (pe_mcal0 (pv 0) T.clsP C_scrolled hr (by decide) pass0))))))
theorem ok_window (D : MethAt K c.CP "window" "Page.window" s_window P_window) (T : Txt K mg c) (C_want : Cal P w K mg base (L2.CX P w) 3 "want" ["is_so", "code"] (sp_want c)) (C_scrolled : MCal P w K mg base CX0 10 c.CP "scrolled" ["self"] (sp_scrolled c)) (pure : ∀ vs H Q E, sp_window c vs H Q E → t_window K c E { nx := fun _ H' => Q .non H', rt := Q } (start N_window vs) H) : MCal P w K mg base (L2.CX P w) 11 c.CP "window" P_window (sp_window c) := by
  obtain ⟨f, fd, F, m, b⟩ := D.ex
  refine ⟨⟨f, fd, ?_, m, b⟩⟩
  refine F.okX sc_window (fun vs H Q E h => ?_) (fun cdv A outer s H vs Q E hr h => ⟨t_window K c E, b_window T C_want C_scrolled hr, pure vs H Q E h⟩)
  obtain ⟨_, _, _, _, _, rfl, _⟩ := h
  rfl
abbrev s_text : Stmt := inClass (topS 44) 13
abbrev N_text : List Str := ["self", "lines"]
abbrev P_text : List Str := ["self", "lines"]
theorem sc_text : FnScope N_text P_text (defScope s_text) := ⟨rfl, rfl, rfl, by decide +kernel, rfl, by decide +kernel, by decide +kernel⟩
def t_text (K : PySem.W.Frag) (c : Cc) (E : XK) : TS :=
    (tSeq (tDrop (tCall (sp_want c) [] E (tCons (tAndV (tOp (rNeD K) (tVar 1) (tLst tNil)) (tAndV (tOp rLeI (tCB (rLenS K) (tCons (tVar 1) tNil)) (tC (.int (30)))) (tCall (sp_are_lines c) [] E0 (tCons (tVar 1) tNil)))) (tCons (tC (.int (-1))) tNil))))
    (tSeq (sFld K (tVar 0) (tVar 1) "lines")
    (tSeq (sFld K (tVar 0) (tLst tNil) "folds")
    (tSeq (sFld K (tVar 0) (tC (.int 0)) "line")
    (tSeq (sFld K (tVar 0) (tC (.int 0)) "place")
    (tSeq (sFld K (tVar 0) (tC (.int 0)) "top")
    (tRet (tMeth c.CP "settled" (sp_settled c) [] E0 (tVar 0) tNil))))))))
theorem b_text (T : Txt K mg c) (C_want : Cal P w K mg base (L2.CX P w) 3 "want" ["is_so", "code"] (sp_want c)) (C_are_lines : Cal P w K mg base CX0 2 "are_lines" ["lines"] (sp_are_lines c)) (C_settled : MCal P w K mg base CX0 11 c.CP "settled" ["self"] (sp_settled c)) {f : Addr} {cdv : Value} {A : Around} {outer : List Env} {s : Shared} {H : Hp} {E : XK} (hr : Room 11 (A.deeper (envOfC "Page.text" (defScope s_text) s.heap.objs.size f cdv))) :
    PSs (cxOf (L2.CX P w) P w K mg base N_text "Page.text" (defScope s_text) f cdv A outer s H E) (defBody s_text) (t_text K c E) := by
  exact (pss_cons (ps_expr (pe_cal C_want hr (by decide) (passes_call (takes_of rfl rfl rfl rfl) (fun _ _ _ _ h => h)) (pa_cons (pe_and (pe_cmpR (op_neD hr.units) (pv 1) (pe_lst pa_nil) (nomark _)) (pe_and (pe_cmpR op_le (pe_len T.n_len (pv 1)) (pe_const T.c_MOST_LINES) (nomark _)) (pe_one (pe_cal C_are_lines hr (by decide) pass0 (pa_cons (pv 1) pa_nil))))) (pa_cons (pe_const T.c_NOT_SO) pa_nil))))
      (pss_cons (ps_fld (pv 0) (pv 1) rfl)
      (pss_cons (ps_fld (pv 0) (pe_lst pa_nil) rfl)
      (pss_cons (ps_fld (pv 0) pe_int rfl)
      (pss_cons (ps_fld (pv 0) pe_int rfl)
      (pss_cons (ps_fld (pv 0) pe_int rfl)
      (pss_one (ps_ret (pe_mcal0 (pv 0) T.clsP C_settled hr (by decide) pass0)))))))))
theorem ok_text (D : MethAt K c.CP "text" "Page.text" s_text P_text) (T : Txt K mg c) (C_want : Cal P w K mg base (L2.CX P w) 3 "want" ["is_so", "code"] (sp_want c)) (C_are_lines : Cal P w K mg base CX0 2 "are_lines" ["lines"] (sp_are_lines c)) (C_settled : MCal P w K mg base CX0 11 c.CP "settled" ["self"] (sp_settled c)) (pure : ∀ vs H Q E, sp_text c vs H Q E → t_text K c E { nx := fun _ H' => Q .non H', rt := Q } (start N_text vs) H) : MCal P w K mg base (L2.CX P w) 12 c.CP "text" P_text (sp_text c) := by
  obtain ⟨f, fd, F, m, b⟩ := D.ex
  refine ⟨⟨f, fd, ?_, m, b⟩⟩
  refine F.okX sc_text (fun vs H Q E h => ?_) (fun cdv A outer s H vs Q E hr h => ⟨t_text K c E, b_text T C_want C_are_lines C_settled hr, pure vs H Q E h⟩)
  obtain ⟨_, _, _, _, _, rfl, _⟩ := h
  rfl
abbrev s_edit : Stmt := inClass (topS 44) 14
abbrev N_edit : List Str := ["self", "begin", "end", "lines", "after", "more"]
abbrev P_edit : List Str := ["self", "begin", "end", "lines"]
theorem sc_edit : FnScope N_edit P_edit (defScope s_edit) := ⟨rfl, rfl, rfl, by decide +kernel, rfl, by decide +kernel, by decide +kernel⟩
def t_edit (K : PySem.W.Frag) (c : Cc) (E : XK) : TS :=
    (tSeq (tDrop (tCall (sp_want c) [] E (tCons (tAndV (tOp rLeI (tVar 1) (tVar 2)) (tAndV (tOp rLeI (tVar 2) (tCB (rLenS K) (tCons (tFld K (tVar 0) "lines") tNil))) (tCall (sp_are_lines c) [] E0 (tCons (tVar 3) tNil)))) (tCons (tC (.int (-1))) tNil))))
    (tSeq (tAsg (tOp rCat (tOp rCat (tSl (rSlL K) (tFld K (tVar 0) "lines") tNoPart (tPart (tVar 1))) (tVar 3)) (tSl (rSlL K) (tFld K (tVar 0) "lines") (tPart (tVar 2)) tNoPart)) (gName 4))
    (tSeq (tDrop (tCall (sp_want c) [] E (tCons (tAndV (tOp (rNeD K) (tVar 4) (tLst tNil)) (tOp rLeI (tCB (rLenS K) (tCons (tVar 4) tNil)) (tC (.int (30))))) (tCons (tC (.int (-5))) tNil))))
    (tSeq (tAsg (tOp rSubI (tCB (rLenS K) (tCons (tVar 4) tNil)) (tCB (rLenS K) (tCons (tFld K (tVar 0) "lines") tNil))) (gName 5))
    (tSeq (sFld K (tVar 0) (tVar 4) "lines")
    (tSeq (sFld K (tVar 0) (tCall (sp_folds_behind c) [] E0 (tCons (tFld K (tVar 0) "folds") (tCons (tVar 1) (tCons (tVar 2) (tCons (tVar 5) tNil))))) "folds")
    (tSeq (tIfS (tTest (tOp rGeI (tFld K (tVar 0) "line") (tVar 2))) (sFldAug K (tVar 0) (tVar 5) rAdd "line") (tIfS (tTest (tOp rGeI (tFld K (tVar 0) "line") (tVar 1))) (tSeq (sFld K (tVar 0) (tCB rMin2 (tCons (tVar 1) (tCons (tOp rSubI (tCB (rLenS K) (tCons (tVar 4) tNil)) (tC (.int 1))) tNil))) "line")
    (sFld K (tVar 0) (tC (.int 0)) "place")) tNext))
    (tRet (tMeth c.CP "settled" (sp_settled c) [] E0 (tVar 0) tNil)))))))))
theorem b_edit (T : Txt K mg c) (C_want : Cal P w K mg base (L2.CX P w) 3 "want" ["is_so", "code"] (sp_want c)) (C_are_lines : Cal P w K mg base CX0 2 "are_lines" ["lines"] (sp_are_lines c)) (C_folds_behind : Cal P w K mg base CX0 2 "folds_behind" ["folds", "begin", "end", "more"] (sp_folds_behind c)) (C_settled : MCal P w K mg base CX0 11 c.CP "settled" ["self"] (sp_settled c)) {f : Addr} {cdv : Value} {A : Around} {outer : List Env} {s : Shared} {H : Hp} {E : XK} (hr : Room 11 (A.deeper (envOfC "Page.edit" (defScope s_edit) s.heap.objs.size f cdv))) :
    PSs (cxOf (L2.CX P w) P w K mg base N_edit "Page.edit" (defScope s_edit) f cdv A outer s H E) (defBody s_edit) (t_edit K c E) := by
  exact (pss_cons (ps_expr (pe_cal C_want hr (by decide) (passes_call (takes_of rfl rfl rfl rfl) (fun _ _ _ _ h => h)) (pa_cons (pe_and (pe_cmpR op_le (pv 1) (pv 2) (nomark _)) (pe_and (pe_cmpR op_le (pv 2) (pe_len T.n_len (pe_fld (pv 0) rfl)) (nomark _)) (pe_one (pe_cal C_are_lines hr (by decide) pass0 (pa_cons (pv 3) pa_nil))))) (pa_cons (pe_const T.c_NOT_SO) pa_nil))))
      (pss_cons (ps_set (i := 4) sc_edit.nd rfl (Or.inl rfl) (pe_op op_cat (pe_op op_cat (pe_slice sl_list (pe_fld (pv 0) rfl) po_none (po_some (pv 1))) (pv 3)) (pe_slice sl_list (pe_fld (pv 0) rfl) (po_some (pv 2)) po_none)))
      (pss_cons (ps_expr (pe_cal C_want hr (by decide) (passes_call (takes_of rfl rfl rfl rfl) (fun _ _ _ _ h => h)) (pa_cons (pe_and (pe_cmpR (op_neD hr.units) (pv 4) (pe_lst pa_nil) (nomark _)) (pe_one (pe_cmpR op_le (pe_len T.n_len (pv 4)) (pe_const T.c_MOST_LINES) (nomark _)))) (pa_cons (pe_const T.c_TOO_MANY) pa_nil))))
      (pss_cons (ps_set (i := 5) sc_edit.nd rfl (Or.inl rfl) (pe_op op_sub (pe_len T.n_len (pv 4)) (pe_len T.n_len (pe_fld (pv 0) rfl))))
      (pss_cons (ps_fld (pv 0) (pv 4) rfl)
      (pss_cons (ps_fld (pv 0) (pe_cal C_folds_behind hr (by decide) pass0 (pa_cons (pe_fld (pv 0) rfl) (pa_cons (pv 1) (pa_cons (pv 2) (pa_cons (pv 5) pa_nil))))) rfl)
      (pss_cons (ps_if (pt_cmpR op_ge (pe_fld (pv 0) rfl) (pv 2) (nomark _)) (pss_one (ps_fldaug (pv 0) (pv 5) in_add)) (pss_one (ps_if (pt_cmpR op_ge (pe_fld (pv 0) rfl) (pv 1) (nomark _)) (pss_cons (ps_fld (pv 0) (pe_min rfl T.n_min (pv 1) (pe_op op_sub (pe_len T.n_len (pv 4)) pe_int)) rfl)
      (pss_one (ps_fld (pv 0) pe_int rfl))) pss_nil)))
      (pss_one (ps_ret (pe_mcal0 (pv 0) T.clsP C_settled hr (by decide) pass0))))))))))
theorem ok_edit (D : MethAt K c.CP "edit" "Page.edit" s_edit P_edit) (T : Txt K mg c) (C_want : Cal P w K mg base (L2.CX P w) 3 "want" ["is_so", "code"] (sp_want c)) (C_are_lines : Cal P w K mg base CX0 2 "are_lines" ["lines"] (sp_are_lines c)) (C_folds_behind : Cal P w K mg base CX0 2 "folds_behind" ["folds", "begin", "end", "more"] (sp_folds_behind c)) (C_settled : MCal P w K mg base CX0 11 c.CP "settled" ["self"] (sp_settled c)) (pure : ∀ vs H Q E, sp_edit c vs H Q E → t_edit K c E { nx := fun _ H' => Q .non H', rt := Q } (start N_edit vs) H) : MCal P w K mg base (L2.CX P w) 12 c.CP "edit" P_edit (sp_edit c) := by
  obtain ⟨f, fd, F, m, b⟩ := D.ex
  refine ⟨⟨f, fd, ?_, m, b⟩⟩
  refine F.okX sc_edit (fun vs H Q E h => ?_) (fun cdv A outer s H vs Q E hr h => ⟨t_edit K c E, b_edit T C_want C_are_lines C_folds_behind C_settled hr, pure vs H Q E h⟩)
  obtain ⟨_, _, _, _, _, _, _, rfl, _⟩ := h
  rfl
abbrev s_fold : Stmt := inClass (topS 44) 15
abbrev N_fold : List Str := ["self", "begin", "end", "other"]
abbrev P_fold : List Str := ["self", "begin", "end"]
theorem sc_fold : FnScope N_fold P_fold (defScope s_fold) := ⟨rfl, rfl, rfl, by decide +kernel, rfl, by decide +kernel, by decide +kernel⟩
def t_fold (K : PySem.W.Frag) (c : Cc) (E : XK) : TS :=
    (tSeq (tDrop (tCall (sp_want c) [] E (tCons (tAndV (tOp rLeI (tOp rAddI (tVar 1) (tC (.int 2))) (tVar 2)) (tOp rLeI (tVar 2) (tCB (rLenS K) (tCons (tFld K (tVar 0) "lines") tNil)))) (tCons (tC (.int (-1))) tNil))))
    (tSeq (tDrop (tCall (sp_want c) [] E (tCons (tCB (rAll K) (tCons (tLc (iList K (tFld K (tVar 0) "folds")) (gName 3) tYes (tCall (sp_are_well c) [] E0 (tCons (tTup (tCons (tVar 1) (tCons (tVar 2) tNil))) (tCons (tVar 3) tNil))) [3]) tNil)) (tCons (tC (.int (-4))) tNil))))
    (tSeq (tDrop (tCall (sp_want c) [] E (tCons (tOp rLtI (tCB (rLenS K) (tCons (tFld K (tVar 0) "folds") tNil)) (tC (.int (12)))) (tCons (tC (.int (-5))) tNil))))
    (tSeq (tDrop (tBM K "list" rAppend (tFld K (tVar 0) "folds") (tCons (tTup (tCons (tVar 1) (tCons (tVar 2) tNil))) tNil)))
    (tRet (tMeth c.CP "settled" (sp_settled c) [] E0 (tVar 0) tNil))))))
theorem b_fold (T : Txt K mg c) (C_want : Cal P w K mg base (L2.CX P w) 3 "want" ["is_so", "code"] (sp_want c)) (C_are_well : Cal P w K mg base CX0 1 "are_well" ["one", "other"] (sp_are_well c)) (C_settled : MCal P w K mg base CX0 11 c.CP "settled" ["self"] (sp_settled c)) {f : Addr} {cdv : Value} {A : Around} {outer : List Env} {s : Shared} {H : Hp} {E : XK} (hr : Room 11 (A.deeper (envOfC "Page.fold" (defScope s_fold) s.heap.objs.size f cdv))) :
    PSs (cxOf (L2.CX P w) P w K mg base N_fold "Page.fold" (defScope s_fold) f cdv A outer s H E) (defBody s_fold) (t_fold K c E) := by
  exact (pss_cons (ps_expr (pe_cal C_want hr (by decide) (passes_call (takes_of rfl rfl rfl rfl) (fun _ _ _ _ h => h)) (pa_cons (pe_and (pe_cmpR op_le (pe_op op_add (pv 1) pe_int) (pv 2) (nomark _)) (pe_one (pe_cmpR op_le (pv 2) (pe_len T.n_len (pe_fld (pv 0) rfl)) (nomark _)))) (pa_cons (pe_const T.c_NOT_SO) pa_nil))))
      (pss_cons (ps_expr (pe_cal C_want hr (by decide) (passes_call (takes_of rfl rfl rfl rfl) (fun _ _ _ _ h => h)) (pa_cons (pe_all rfl T.n_all (pe_lc (own := [("other", 3)]) (g := (gName 3)) (tt := tYes) (te := (tCall (sp_are_well c) [] E0 (tCons (tTup (tCons (tVar 1) (tCons (tVar 2) tNil))) (tCons (tVar 3) tNil)))) rfl sc_fold.nd (pi_list (pe_fld (pv 0) rfl)) (blkOk_by (N := N_fold) (sc := defScope s_fold) (by decide +kernel)) (fun _ _ _ _ _ => (pg_name (i := 3) sc_fold.nd rfl (Or.inl rfl))) (fun _ _ _ _ _ => pts_nil) (fun _ _ _ _ _ => (pe_cal C_are_well hr (by decide) pass0 (pa_cons (pe_tup (pa_cons (pv 1) (pa_cons (pv 2) pa_nil))) (pa_cons (pv 3) pa_nil)))))) (pa_cons (pe_const T.c_UNFIT) pa_nil))))
      (pss_cons (ps_expr (pe_cal C_want hr (by decide) (passes_call (takes_of rfl rfl rfl rfl) (fun _ _ _ _ h => h)) (pa_cons (pe_cmpR op_lt (pe_len T.n_len (pe_fld (pv 0) rfl)) (pe_const T.c_MOST_FOLDS) (nomark _)) (pa_cons (pe_const T.c_TOO_MANY) pa_nil))))
      (pss_cons (ps_expr (pe_append (pe_fld (pv 0) rfl) (pe_tup (pa_cons (pv 1) (pa_cons (pv 2) pa_nil)))))
      (pss_one (ps_ret (pe_mcal0 (pv 0) T.clsP C_settled hr (by decide) pass0)))))))
theorem ok_fold (D : MethAt K c.CP "fold" "Page.fold" s_fold P_fold) (T : Txt K mg c) (C_want : Cal P w K mg base (L2.CX P w) 3 "want" ["is_so", "code"] (sp_want c)) (C_are_well : Cal P w K mg base CX0 1 "are_well" ["one", "other"] (sp_are_well c)) (C_settled : MCal P w K mg base CX0 11 c.CP "settled" ["self"] (sp_settled c)) (pure : ∀ vs H Q E, sp_fold c vs H Q E → t_fold K c E { nx := fun _ H' => Q .non H', rt := Q } (start N_fold vs) H) : MCal P w K mg base (L2.CX P w) 12 c.CP "fold" P_fold (sp_fold c) := by
  obtain ⟨f, fd, F, m, b⟩ := D.ex
  refine ⟨⟨f, fd, ?_, m, b⟩⟩
  refine F.okX sc_fold (fun vs H Q E h => ?_) (fun cdv A outer s H vs Q E hr h => ⟨t_fold K c E, b_fold T C_want C_are_well C_settled hr, pure vs H Q E h⟩)
  obtain ⟨_, _, _, _, _, rfl, _⟩ := h
  rfl
abbrev s_unfold : Stmt := inClass (topS 44) 16
abbrev N_unfold : List Str := ["self", "line", "left", "fold"]
abbrev P_unfold : List Str := ["self", "line"]
theorem sc_unfold : FnScope N_unfold P_unfold (defScope s_unfold) := ⟨rfl, rfl, rfl, by decide +kernel, rfl, by decide +kernel, by decide +kernel⟩
def t_unfold (K : PySem.W.Frag) (c : Cc) (E : XK) : TS :=
    (tSeq (tDrop (tCall (sp_want c) [] E (tCons (tOp rLtI (tVar 1) (tCB (rLenS K) (tCons (tFld K (tVar 0) "lines") tNil))) (tCons (tC (.int (-1))) tNil))))
    (tSeq (tAsg (tLc (iList K (tFld K (tVar 0) "folds")) (gName 3) (tNot (tB (tCall (sp_has c) [] E0 (tCons (tVar 3) (tCons (tVar 1) tNil))))) (tVar 3) [3]) (gName 2))
    (tSeq (tDrop (tCall (sp_want c) [] E (tCons (tOp rLtI (tCB (rLenS K) (tCons (tVar 2) tNil)) (tCB (rLenS K) (tCons (tFld K (tVar 0) "folds") tNil))) (tCons (tC (.int (-6))) tNil))))
    (tSeq (sFld K (tVar 0) (tVar 2) "folds")
    (tRet (tMeth c.CP "settled" (sp_settled c) [] E0 (tVar 0) tNil))))))
theorem b_unfold (T : Txt K mg c) (C_want : Cal P w K mg base (L2.CX P w) 3 "want" ["is_so", "code"] (sp_want c)) (C_has : Cal P w K mg base CX0 1 "has" ["fold", "line"] (sp_has c)) (C_settled : MCal P w K mg base CX0 11 c.CP "settled" ["self"] (sp_settled c)) {f : Addr} {cdv : Value} {A : Around} {outer : List Env} {s : Shared} {H : Hp} {E : XK} (hr : Room 11 (A.deeper (envOfC "Page.unfold" (defScope s_unfold) s.heap.objs.size f cdv))) :
    PSs (cxOf (L2.CX P w) P w K mg base N_unfold "Page.unfold" (defScope s_unfold) f cdv A outer s H E) (defBody s_unfold) (t_unfold K c E) := by
  exact (pss_cons (ps_expr (pe_cal C_want hr (by decide) (passes_call (takes_of rfl rfl rfl rfl) (fun _ _ _ _ h => h)) (pa_cons (pe_cmpR op_lt (pv 1) (pe_len T.n_len (pe_fld (pv 0) rfl)) (nomark _)) (pa_cons (pe_const T.c_NOT_SO) pa_nil))))
      (pss_cons (ps_setLc (i := 2) (own := [("fold", 3)]) (g := (gName 3)) (tt := (tNot (tB (tCall (sp_has c) [] E0 (tCons (tVar 3) (tCons (tVar 1) tNil)))))) (te := (tVar 3)) rfl sc_unfold.nd rfl rfl (sw_true rfl rfl rfl (by decide +kernel)) (pi_list (pe_fld (pv 0) rfl)) (blkOk_by (N := N_unfold) (sc := defScope s_unfold) (by decide +kernel)) (fun _ _ _ _ _ => (pg_name (i := 3) sc_unfold.nd rfl (Or.inl rfl))) (fun _ _ _ _ _ => pts_one (pt_not (pt_val (pe_cal C_has hr (by decide) pass0 (pa_cons (pv 3) (pa_cons (pv 1) pa_nil)))))) (fun _ _ _ _ _ => (pv 3)))
      (pss_cons (ps_expr (pe_cal C_want hr (by decide) (passes_call (takes_of rfl rfl rfl rfl) (fun _ _ _ _ h => h)) (pa_cons (pe_cmpR op_lt (pe_len T.n_len (pv 2)) (pe_len T.n_len (pe_fld (pv 0) rfl)) (nomark _)) (pa_cons (pe_const T.c_NONE_THERE) pa_nil))))
      (pss_cons (ps_fld (pv 0) (pv 2) rfl)
      (pss_one (ps_ret (pe_mcal0 (pv 0) T.clsP C_settled hr (by decide) pass0)))))))
theorem ok_unfold (D : MethAt K c.CP "unfold" "Page.unfold" s_unfold P_unfold) (T : Txt K mg c) (C_want : Cal P w K mg base (L2.CX P w) 3 "want" ["is_so", "code"] (sp_want c)) (C_has : Cal P w K mg base CX0 1 "has" ["fold", "line"] (sp_has c)) (C_settled : MCal P w K mg base CX0 11 c.CP "settled" ["self"] (sp_settled c)) (pure : ∀ vs H Q E, sp_unfold c vs H Q E → t_unfold K c E { nx := fun _ H' => Q .non H', rt := Q } (start N_unfold vs) H) : MCal P w K mg base (L2.CX P w) 12 c.CP "unfold" P_unfold (sp_unfold c) := by
  obtain ⟨f, fd, F, m, b⟩ := D.ex
  refine ⟨⟨f, fd, ?_, m, b⟩⟩
  refine F.okX sc_unfold (fun vs H Q E h => ?_) (fun cdv A outer s H vs Q E hr h => ⟨t_unfold K c E, b_unfold T C_want C_has C_settled hr, pure vs H Q E h⟩)
  obtain ⟨_, _, _, _, rfl, _⟩ := h
  rfl
abbrev s_want_place : Stmt := inClass (topS 44) 17
abbrev N_want_place : List Str := ["self", "line", "place"]
abbrev P_want_place : List Str := ["self", "line", "place"]
theorem sc_want_place : FnScope N_want_place P_want_place (defScope s_want_place) := ⟨rfl, rfl, rfl, by decide +kernel, rfl, by decide +kernel, by decide +kernel⟩
def t_want_place (K : PySem.W.Frag) (c : Cc) (E : XK) : TS :=
    (tSeq (tDrop (tCall (sp_want c) [] E (tCons (tOp rLtI (tVar 1) (tCB (rLenS K) (tCons (tFld K (tVar 0) "lines") tNil))) (tCons (tC (.int (-1))) tNil))))
    (tDrop (tCall (sp_want c) [] E (tCons (tOp rLeI (tVar 2) (tCB (rLenS K) (tCons (tOp (rIxL K) (tFld K (tVar 0) "lines") (tVar 1)) tNil))) (tCons (tC (.int (-1))) tNil)))))
theorem b_want_place (T : Txt K mg c) (C_want : Cal P w K mg base (L2.CX P w) 3 "want" ["is_so", "code"] (sp_want c)) {f : Addr} {cdv : Value} {A : Around} {outer : List Env} {s : Shared} {H : Hp} {E : XK} (hr : Room 3 (A.deeper (envOfC "Page.want_place" (defScope s_want_place) s.heap.objs.size f cdv))) :
    PSs (cxOf (L2.CX P w) P w K mg base N_want_place "Page.want_place" (defScope s_want_place) f cdv A outer s H E) (defBody s_want_place) (t_want_place K c E) := by
  exact (pss_cons (ps_expr (pe_cal C_want hr (by decide) (passes_call (takes_of rfl rfl rfl rfl) (fun _ _ _ _ h => h)) (pa_cons (pe_cmpR op_lt (pv 1) (pe_len T.n_len (pe_fld (pv 0) rfl)) (nomark _)) (pa_cons (pe_const T.c_NOT_SO) pa_nil))))
      (pss_one (ps_expr (pe_cal C_want hr (by decide) (passes_call (takes_of rfl rfl rfl rfl) (fun _ _ _ _ h => h)) (pa_cons (pe_cmpR op_le (pv 2) (pe_len T.n_len (pe_ix ix_list (pe_fld (pv 0) rfl) (pv 1) (fun _ _ => rfl))) (nomark _)) (pa_cons (pe_const T.c_NOT_SO) pa_nil))))))
theorem ok_want_place (D : MethAt K c.CP "want_place" "Page.want_place" s_want_place P_want_place) (T : Txt K mg c) (C_want : Cal P w K mg base (L2.CX P w) 3 "want" ["is_so", "code"] (sp_want c)) (pure : ∀ vs H Q E, sp_want_place c vs H Q E → t_want_place K c E { nx := fun _ H' => Q .non H', rt := Q } (start N_want_place vs) H) : MCal P w K mg base (L2.CX P w) 4 c.CP "want_place" P_want_place (sp_want_place c) := by
  obtain ⟨f, fd, F, m, b⟩ := D.ex
  refine ⟨⟨f, fd, ?_, m, b⟩⟩
  refine F.okX sc_want_place (fun vs H Q E h => ?_) (fun cdv A outer s H vs Q E hr h => ⟨t_want_place K c E, b_want_place T C_want hr, pure vs H Q E h⟩)
  obtain ⟨_, _, _, _, _, rfl, _⟩ := h
  rfl
abbrev s_goto : Stmt := inClass (topS 44) 18
abbrev N_goto : List Str := ["self", "line", "place", "fold"]
abbrev P_goto : List Str := ["self", "line", "place"]
theorem sc_goto : FnScope N_goto P_goto (defScope s_goto) := ⟨rfl, rfl, rfl, by decide +kernel, rfl, by decide +kernel, by decide +kernel⟩
def t_goto (K : PySem.W.Frag) (c : Cc) (E : XK) : TS :=
    (tSeq (tDrop (tMeth c.CP "want_place" (sp_want_place c) [] E (tVar 0) (tCons (tVar 1) (tCons (tVar 2) tNil))))
    (tSeq (sFld K (tVar 0) (tLc (iList K (tFld K (tVar 0) "folds")) (gName 3) (tNot (tB (tCall (sp_hides c) [] E0 (tCons (tVar 3) (tCons (tVar 1) tNil))))) (tVar 3) [3]) "folds")
    (tSeq (sFld K (tVar 0) (tVar 1) "line")
    (tSeq (sFld K (tVar 0) (tVar 2) "place")
    (tRet (tMeth c.CP "settled" (sp_settled c) [] E0 (tVar 0) tNil))))))
theorem b_goto (T : Txt K mg c) (C_want_place : MCal P w K mg base (L2.CX P w) 4 c.CP "want_place" ["self", "line", "place"] (sp_want_place c)) (C_hides : Cal P w K mg base CX0 1 "hides" ["fold", "line"] (sp_hides c)) (C_settled : MCal P w K mg base CX0 11 c.CP "settled" ["self"] (sp_settled c)) {f : Addr} {cdv : Value} {A : Around} {outer : List Env} {s : Shared} {H : Hp} {E : XK} (hr : Room 11 (A.deeper (envOfC "Page.goto" (defScope s_goto) s.heap.objs.size f cdv))) :
    PSs (cxOf (L2.CX P w) P w K mg base N_goto "Page.goto" (defScope s_goto) f cdv A outer s H E) (defBody s_goto) (t_goto K c E) := by
  exact (pss_cons (ps_expr (pe_mcal (pv 0) T.clsP C_want_place hr (by decide) (passes_call (takes_of rfl rfl rfl rfl) (fun _ _ _ _ h => h)) (pa_cons (pv 1) (pa_cons (pv 2) pa_nil))))
      (pss_cons (ps_fld (pv 0) (pe_lc (own := [("fold", 3)]) (g := (gName 3)) (tt := (tNot (tB (tCall (sp_hides c) [] E0 (tCons (tVar 3) (tCons (tVar 1) tNil)))))) (te := (tVar 3)) rfl sc_goto.nd (pi_list (pe_fld (pv 0) rfl)) (blkOk_by (N := N_goto) (sc := defScope s_goto) (by decide +kernel)) (fun _ _ _ _ _ => (pg_name (i := 3) sc_goto.nd rfl (Or.inl rfl))) (fun _ _ _ _ _ => pts_one (pt_not (pt_val (pe_cal C_hides hr (by decide) pass0 (pa_cons (pv 3) (pa_cons (pv 1) pa_nil)))))) (fun _ _ _ _ _ => (pv 3))) rfl)
      (pss_cons (ps_fld (pv 0) (pv 1) rfl)
      (pss_cons (ps_fld (pv 0) (pv 2) rfl)
      (pss_one (ps_ret (pe_mcal0 (pv 0) T.clsP C_settled hr (by decide) pass0)))))))
theorem ok_goto (D : MethAt K c.CP "goto" "Page.goto" s_goto P_goto) (T : Txt K mg c) (C_want_place : MCal P w K mg base (L2.CX P w) 4 c.CP "want_place" ["self", "line", "place"] (sp_want_place c)) (C_hides : Cal P w K mg base CX0 1 "hides" ["fold", "line"] (sp_hides c)) (C_settled : MCal P w K mg base CX0 11 c.CP "settled" ["self"] (sp_settled c)) (pure : ∀ vs H Q E, sp_goto c vs H Q E → t_goto K c E { nx := fun _ H' => Q .non H', rt := Q } (start N_goto vs) H) : MCal P w K mg base (L2.CX P w) 12 c.CP "goto" P_goto (sp_goto c) := by
  obtain ⟨f, fd, F, m, b⟩ := D.ex
  refine ⟨⟨f, fd, ?_, m, b⟩⟩
  refine F.okX sc_goto (fun vs H Q E h => ?_) (fun cdv A outer s H vs Q E hr h => ⟨t_goto K c E, b_goto T C_want_place C_hides C_settled hr, pure vs H Q E h⟩)
  obtain ⟨_, _, _, _, _, rfl, _⟩ := h
  rfl
abbrev s_up : Stmt := inClass (topS 44) 19
abbrev N_up : List Str := ["self", "many"]
abbrev P_up : List Str := ["self", "many"]
theorem sc_up : FnScope N_up P_up (defScope s_up) := ⟨rfl, rfl, rfl, by decide +kernel, rfl, by decide +kernel, by decide +kernel⟩
def t_up (K : PySem.W.Frag) (c : Cc) (E : XK) : TS :=
    (tSeq (tDrop (tCall (sp_want c) [] E (tCons (tOp rLeI (tVar 1) (tC (.int (100)))) (tCons (tC (.int (-1))) tNil))))
    (tSeq (tDrop (tMeth c.CP "put_into" (sp_put_into c) [] E0 (tVar 0) (tCons (tCB rMax2 (tCons (tC (.int 0)) (tCons (tOp rSubI (tMeth c.CP "own_row" (sp_own_row c) [] E0 (tVar 0) tNil) (tVar 1)) tNil))) tNil)))
    (tRet (tMeth c.CP "scrolled" (sp_scrolled c) [] E0 (tVar 0) tNil))))
theorem b_up (T : Txt K mg c) (C_want : Cal P w K mg base (L2.CX P w) 3 "want" ["is_so", "code"] (sp_want c)) (C_put_into : MCal P w K mg base CX0 8 c.CP "put_into" ["self", "row"] (sp_put_into c)) (C_own_row : MCal P w K mg base CX0 8 c.CP "own_row" ["self"] (sp_own_row c)) (C_scrolled : MCal P w K mg base CX0 10 c.CP "scrolled" ["self"] (sp_scrolled c)) {f : Addr} {cdv : Value} {A : Around} {outer : List Env} {s : Shared} {H : Hp} {E : XK} (hr : Room 10 (A.deeper (envOfC "Page.up" (defScope s_up) s.heap.objs.size f cdv))) :
    PSs (cxOf (L2.CX P w) P w K mg base N_up "Page.up" (defScope s_up) f cdv A outer s H E) (defBody s_up) (t_up K c E) := by
  exact (pss_cons (ps_expr (pe_cal C_want hr (by decide) (passes_call (takes_of rfl rfl rfl rfl) (fun _ _ _ _ h => h)) (pa_cons (pe_cmpR op_le (pv 1) (pe_const T.c_MOST_STEPS) (nomark _)) (pa_cons (pe_const T.c_NOT_SO) pa_nil))))
      (pss_cons (ps_expr (pe_mcal (pv 0) T.clsP C_put_into hr (by decide) pass0 (pa_cons (pe_max rfl T.n_max pe_int (pe_op op_sub (pe_mcal0 (pv 0) T.clsP C_own_row hr (by decide) pass0) (pv 1))) pa_nil)))
      (pss_one (ps_ret (pe_mcal0 (pv 0) T.clsP C_scrolled hr (by decide) pass0)))))
theorem ok_up (D : MethAt K c.CP "up" "Page.up" s_up P_up) (T : Txt K mg c) (C_want : Cal P w K mg base (L2.CX P w) 3 "want" ["is_so", "code"] (sp_want c)) (C_put_into : MCal P w K mg base CX0 8 c.CP "put_into" ["self", "row"] (sp_put_into c)) (C_own_row : MCal P w K mg base CX0 8 c.CP "own_row" ["self"] (sp_own_row c)) (C_scrolled : MCal P w K mg base CX0 10 c.CP "scrolled" ["self"] (sp_scrolled c)) (pure : ∀ vs H Q E, sp_up c vs H Q E → t_up K c E { nx := fun _ H' => Q .non H', rt := Q } (start N_up vs) H) : MCal P w K mg base (L2.CX P w) 11 c.CP "up" P_up (sp_up c) := by
  obtain ⟨f, fd, F, m, b⟩ := D.ex
  refine ⟨⟨f, fd, ?_, m, b⟩⟩
  refine F.okX sc_up (fun vs H Q E h => ?_) (fun cdv A outer s H vs Q E hr h => ⟨t_up K c E, b_up T C_want C_put_into C_own_row C_scrolled hr, pure vs H Q E h⟩)
  obtain ⟨_, _, _, _, rfl, _⟩ := h
  rfl
abbrev s_down : Stmt := inClass (topS 44) 20
abbrev N_down : List Str := ["self", "many"]
abbrev P_down : List Str := ["self", "many"]
theorem sc_down : FnScope N_down P_down (defScope s_down) := ⟨rfl, rfl, rfl, by decide +kernel, rfl, by decide +kernel, by decide +kernel⟩
def t_down (K : PySem.W.Frag) (c : Cc) (E : XK) : TS :=
    (tSeq (tDrop (tCall (sp_want c) [] E (tCons (tOp rLeI (tVar 1) (tC (.int (100)))) (tCons (tC (.int (-1))) tNil))))
    (tSeq (tDrop (tMeth c.CP "put_into" (sp_put_into c) [] E0 (tVar 0) (tCons (tCB rMin2 (tCons (tOp rSubI (tCB (rLenS K) (tCons (tMeth c.CP "rows" (sp_rows c) [] E0 (tVar 0) tNil) tNil)) (tC (.int 1))) (tCons (tOp rAddI (tMeth c.CP "own_row" (sp_own_row c) [] E0 (tVar 0) tNil) (tVar 1)) tNil))) tNil)))
    (tRet (tMeth c.CP "scrolled" (sp_scrolled c) [] E0 (tVar 0) tNil))))
theorem b_down (T : Txt K mg c) (C_want : Cal P w K mg base (L2.CX P w) 3 "want" ["is_so", "code"] (sp_want c)) (C_put_into : MCal P w K mg base CX0 8 c.CP "put_into" ["self", "row"] (sp_put_into c)) (C_rows : MCal P w K mg base CX0 6 c.CP "rows" ["self"] (sp_rows c)) (C_own_row : MCal P w K mg base CX0 8 c.CP "own_row" ["self"] (sp_own_row c)) (C_scrolled : MCal P w K mg base CX0 10 c.CP "scrolled" ["self"] (sp_scrolled c)) {f : Addr} {cdv : Value} {A : Around} {outer : List Env} {s : Shared} {H : Hp} {E : XK} (hr : Room 10 (A.deeper (envOfC "Page.down" (defScope s_down) s.heap.objs.size f cdv))) :
    PSs (cxOf (L2.CX P w) P w K mg base N_down "Page.down" (defScope s_down) f cdv A outer s H E) (defBody s_down) (t_down K c E) := by
  exact (pss_cons (ps_expr (pe_cal C_want hr (by decide) (passes_call (takes_of rfl rfl rfl rfl) (fun _ _ _ _ h => h)) (pa_cons (pe_cmpR op_le (pv 1) (pe_const T.c_MOST_STEPS) (nomark _)) (pa_cons (pe_const T.c_NOT_SO) pa_nil))))
      (pss_cons (ps_expr (pe_mcal (pv 0) T.clsP C_put_into hr (by decide) pass0 (pa_cons (pe_min rfl T.n_min (pe_op op_sub (pe_len T.n_len (pe_mcal0 (pv 0) T.clsP C_rows hr (by decide) pass0)) pe_int) (pe_op op_add (pe_mcal0 (pv 0) T.clsP C_own_row hr (by decide) pass0) (pv 1))) pa_nil)))
      (pss_one (ps_ret (pe_mcal0 (pv 0) T.clsP C_scrolled hr (by decide) pass0)))))
theorem ok_down (D : MethAt K c.CP "down" "Page.down" s_down P_down) (T : Txt K mg c) (C_want : Cal P w K mg base (L2.CX P w) 3 "want" ["is_so", "code"] (sp_want c)) (C_put_into : MCal P w K mg base CX0 8 c.CP "put_into" ["self", "row"] (sp_put_into c)) (C_rows : MCal P w K mg base CX0 6 c.CP "rows" ["self"] (sp_rows c)) (C_own_row : MCal P w K mg base CX0 8 c.CP "own_row" ["self"] (sp_own_row c)) (C_scrolled : MCal P w K mg base CX0 10 c.CP "scrolled" ["self"] (sp_scrolled c)) (pure : ∀ vs H Q E, sp_down c vs H Q E → t_down K c E { nx := fun _ H' => Q .non H', rt := Q } (start N_down vs) H) : MCal P w K mg base (L2.CX P w) 11 c.CP "down" P_down (sp_down c) := by
  obtain ⟨f, fd, F, m, b⟩ := D.ex
  refine ⟨⟨f, fd, ?_, m, b⟩⟩
  refine F.okX sc_down (fun vs H Q E h => ?_) (fun cdv A outer s H vs Q E hr h => ⟨t_down K c E, b_down T C_want C_put_into C_rows C_own_row C_scrolled hr, pure vs H Q E h⟩)
  obtain ⟨_, _, _, _, rfl, _⟩ := h
  rfl
end
end Fw
/-! Readings and derivations, printed by gen.py. -/
namespace Fw
open PySem PySem.Spec PyProof.Rows L2 Evl
section
variable {P : Program} {w : World} {K : PySem.W.Frag} {mg : Str → Option Value} {base : Heap} {c : Cc}
abbrev s_step_left : Stmt := inClass (topS 44) 21
abbrev N_step_left : List Str := ["self", "ahead", "line"]
abbrev P_step_left : List Str := ["self"]
theorem sc_step_left : FnScope N_step_left P_step_left (defScope s_step_left) := ⟨rfl, rfl, rfl, by decide +kernel, rfl, by decide +kernel, by decide +kernel⟩
def t_step_left (K : PySem.W.Frag) (c : Cc) (E : XK) : TS :=
    (tSeq (tIfS (tTest (tOp rGtI (tFld K (tVar 0) "place") (tC (.int 0)))) (tSeq (sFldAug K (tVar 0) (tC (.int 1)) rSub "place")
    tRetN) tNext)
    (tSeq (tAsg (tLc (iRng1 (tCons (tFld K (tVar 0) "line") tNil)) (gName 2) (tB (tCall (sp_is_seen c) [] E0 (tCons (tFld K (tVar 0) "folds") (tCons (tVar 2) tNil)))) (tVar 2) [2]) (gName 1))
    (tIfS (tTest (tOp (rNeD K) (tVar 1) (tLst tNil))) (tSeq (sFld K (tVar 0) (tOp (rIxL K) (tVar 1) (tUn (rU fun i => .int (-i)) (tC (.int 1)))) "line")
    (sFld K (tVar 0) (tCB (rLenS K) (tCons (tOp (rIxL K) (tFld K (tVar 0) "lines") (tFld K (tVar 0) "line")) tNil)) "place")) tNext)))
theorem b_step_left (T : Txt K mg c) (C_is_seen : Cal P w K mg base CX0 2 "is_seen" ["folds", "line"] (sp_is_seen c)) {f : Addr} {cdv : Value} {A : Around} {outer : List Env} {s : Shared} {H : Hp} {E : XK} (hr : Room 2 (A.deeper (envOfC "Page.step_left" (defScope s_step_left) s.heap.objs.size f cdv))) :
    PSs (cxOf CX0 P w K mg base N_step_left "Page.step_left" (defScope s_step_left) f cdv A outer s H E).nox (defBody s_step_left) (t_step_left K c E) := by
  exact (pss_cons (ps_if (pt_cmpR op_gt (pe_fld (pv 0) rfl) pe_int (nomark _)) (pss_cons (ps_fldaug (pv 0) pe_int in_sub)
      (pss_one ps_retN)) pss_nil)
      (pss_cons (ps_setLc (i := 1) (own := [("line", 2)]) (g := (gName 2)) (tt := (tB (tCall (sp_is_seen c) [] E0 (tCons (tFld K (tVar 0) "folds") (tCons (tVar 2) tNil))))) (te := (tVar 2)) rfl sc_step_left.nd rfl rfl (sw_true rfl rfl rfl (by decide +kernel)) (pi_range1 rfl T.n_range (pa_cons (pe_fld (pv 0) rfl) pa_nil)) (blkOk_by (N := N_step_left) (sc := defScope s_step_left) (by decide +kernel)) (fun _ _ _ _ _ => (pg_name (i := 2) sc_step_left.nd rfl (Or.inl rfl))) (fun _ _ _ _ _ => pts_one (pt_val (pe_cal C_is_seen hr (by decide) pass0 (pa_cons (pe_fld (pv 0) rfl) (pa_cons (pv 2) pa_nil))))) (fun _ _ _ _ _ => (pv 2)))
      (pss_one (ps_if (pt_cmpR (op_neD hr.units) (pv 1) (pe_lst pa_nil) (nomark _)) (pss_cons (ps_fld (pv 0) (pe_ix ix_list (pv 1) (pe_un un_neg pe_int) (fun _ _ => rfl)) rfl)
      (pss_one (ps_fld (pv 0) (pe_len T.n_len (pe_ix ix_list (pe_fld (pv 0) rfl) (pe_fld (pv 0) rfl) (fun _ _ => rfl))) rfl))) pss_nil))))
theorem ok_step_left (D : MethAt K c.CP "step_left" "Page.step_left" s_step_left P_step_left) (T : Txt K mg c) (C_is_seen : Cal P w K mg base CX0 2 "is_seen" ["folds", "line"] (sp_is_seen c)) (pure : ∀ vs H Q E, sp_step_left c vs H Q E → t_step_left K c E { nx := fun _ H' => Q .non H', rt := Q } (start N_step_left vs) H) : MCal P w K mg base CX0 3 c.CP "step_left" P_step_left (sp_step_left c) := by
  obtain ⟨f, fd, F, m, b⟩ := D.ex
  refine ⟨⟨f, fd, ?_, m, b⟩⟩
  refine F.ok sc_step_left (fun vs H Q E h => ?_) (fun cdv A outer s H vs Q E hr h => ⟨t_step_left K c E, b_step_left T C_is_seen hr, pure vs H Q E h⟩)
  obtain ⟨_, _, _, rfl, _⟩ := h
  rfl
abbrev s_step_right : Stmt := inClass (topS 44) 22
abbrev N_step_right : List Str := ["self", "behind", "line"]
abbrev P_step_right : List Str := ["self"]
theorem sc_step_right : FnScope N_step_right P_step_right (defScope s_step_right) := ⟨rfl, rfl, rfl, by decide +kernel, rfl, by decide +kernel, by decide +kernel⟩
def t_step_right (K : PySem.W.Frag) (c : Cc) (E : XK) : TS :=
    (tSeq (tIfS (tTest (tOp rLtI (tFld K (tVar 0) "place") (tCB (rLenS K) (tCons (tOp (rIxL K) (tFld K (tVar 0) "lines") (tFld K (tVar 0) "line")) tNil)))) (tSeq (sFldAug K (tVar 0) (tC (.int 1)) rAdd "place")
    tRetN) tNext)
    (tSeq (tAsg (tLc (iRng2 (tCons (tOp rAddI (tFld K (tVar 0) "line") (tC (.int 1))) (tCons (tCB (rLenS K) (tCons (tFld K (tVar 0) "lines") tNil)) tNil))) (gName 2) (tB (tCall (sp_is_seen c) [] E0 (tCons (tFld K (tVar 0) "folds") (tCons (tVar 2) tNil)))) (tVar 2) [2]) (gName 1))
    (tIfS (tTest (tOp (rNeD K) (tVar 1) (tLst tNil))) (tSeq (sFld K (tVar 0) (tOp (rIxL K) (tVar 1) (tC (.int 0))) "line")
    (sFld K (tVar 0) (tC (.int 0)) "place")) tNext)))
theorem b_step_right (T : Txt K mg c) (C_is_seen : Cal P w K mg base CX0 2 "is_seen" ["folds", "line"] (sp_is_seen c)) {f : Addr} {cdv : Value} {A : Around} {outer : List Env} {s : Shared} {H : Hp} {E : XK} (hr : Room 2 (A.deeper (envOfC "Page.step_right" (defScope s_step_right) s.heap.objs.size f cdv))) :
    PSs (cxOf CX0 P w K mg base N_step_right "Page.step_right" (defScope s_step_right) f cdv A outer s H E).nox (defBody s_step_right) (t_step_right K c E) := by
  exact (pss_cons (ps_if (pt_cmpR op_lt (pe_fld (pv 0) rfl) (pe_len T.n_len (pe_ix ix_list (pe_fld (pv 0) rfl) (pe_fld (pv 0) rfl) (fun _ _ => rfl))) (nomark _)) (pss_cons (ps_fldaug (pv 0) pe_int in_add)
      (pss_one ps_retN)) pss_nil)
      (pss_cons (ps_setLc (i := 1) (own := [("line", 2)]) (g := (gName 2)) (tt := (tB (tCall (sp_is_seen c) [] E0 (tCons (tFld K (tVar 0) "folds") (tCons (tVar 2) tNil))))) (te := (tVar 2)) rfl sc_step_right.nd rfl rfl (sw_true rfl rfl rfl (by decide +kernel)) (pi_range2 rfl T.n_range (pa_cons (pe_op op_add (pe_fld (pv 0) rfl) pe_int) (pa_cons (pe_len T.n_len (pe_fld (pv 0) rfl)) pa_nil))) (blkOk_by (N := N_step_right) (sc := defScope s_step_right) (by decide +kernel)) (fun _ _ _ _ _ => (pg_name (i := 2) sc_step_right.nd rfl (Or.inl rfl))) (fun _ _ _ _ _ => pts_one (pt_val (pe_cal C_is_seen hr (by decide) pass0 (pa_cons (pe_fld (pv 0) rfl) (pa_cons (pv 2) pa_nil))))) (fun _ _ _ _ _ => (pv 2)))
      (pss_one (ps_if (pt_cmpR (op_neD hr.units) (pv 1) (pe_lst pa_nil) (nomark _)) (pss_cons (ps_fld (pv 0) (pe_ix ix_list (pv 1) pe_int (fun _ _ => rfl)) rfl)
      (pss_one (ps_fld (pv 0) pe_int rfl))) pss_nil))))
theorem ok_step_right (D : MethAt K c.CP "step_right" "Page.step_right" s_step_right P_step_right) (T : Txt K mg c) (C_is_seen : Cal P w K mg base CX0 2 "is_seen" ["folds", "line"] (sp_is_seen c)) (pure : ∀ vs H Q E, sp_step_right c vs H Q E → t_step_right K c E { nx := fun _ H' => Q .non H', rt := Q } (start N_step_right vs) H) : MCal P w K mg base CX0 3 c.CP "step_right" P_step_right (sp_step_right c) := by
  obtain ⟨f, fd, F, m, b⟩ := D.ex
  refine ⟨⟨f, fd, ?_, m, b⟩⟩
  refine F.ok sc_step_right (fun vs H Q E h => ?_) (fun cdv A outer s H vs Q E hr h => ⟨t_step_right K c E, b_step_right T C_is_seen hr, pure vs H Q E h⟩)
  obtain ⟨_, _, _, rfl, _⟩ := h
  rfl
abbrev s_left : Stmt := inClass (topS 44) 23
abbrev N_left : List Str := ["self", "many", "turn"]
abbrev P_left : List Str := ["self", "many"]
theorem sc_left : FnScope N_left P_left (defScope s_left) := ⟨rfl, rfl, rfl, by decide +kernel, rfl, by decide +kernel, by decide +kernel⟩
def t_left (K : PySem.W.Frag) (c : Cc) (E : XK) : TS :=
    (tSeq (tDrop (tCall (sp_want c) [] E (tCons (tOp rLeI (tVar 1) (tC (.int (100)))) (tCons (tC (.int (-1))) tNil))))
    (tSeq (tFor (iRng1 (tCons (tVar 1) tNil)) (gName 2) (tDrop (tMeth c.CP "step_left" (sp_step_left c) [] E0 (tVar 0) tNil)))
    (tRet (tMeth c.CP "settled" (sp_settled c) [] E0 (tVar 0) tNil))))
theorem b_left (T : Txt K mg c) (C_want : Cal P w K mg base (L2.CX P w) 3 "want" ["is_so", "code"] (sp_want c)) (C_step_left : MCal P w K mg base CX0 3 c.CP "step_left" ["self"] (sp_step_left c)) (C_settled : MCal P w K mg base CX0 11 c.CP "settled" ["self"] (sp_settled c)) {f : Addr} {cdv : Value} {A : Around} {outer : List Env} {s : Shared} {H : Hp} {E : XK} (hr : Room 11 (A.deeper (envOfC "Page.left" (defScope s_left) s.heap.objs.size f cdv))) :
    PSs (cxOf (L2.CX P w) P w K mg base N_left "Page.left" (defScope s_left) f cdv A outer s H E) (defBody s_left) (t_left K c E) := by
  exact (pss_cons (ps_expr (pe_cal C_want hr (by decide) (passes_call (takes_of rfl rfl rfl rfl) (fun _ _ _ _ h => h)) (pa_cons (pe_cmpR op_le (pv 1) (pe_const T.c_MOST_STEPS) (nomark _)) (pa_cons (pe_const T.c_NOT_SO) pa_nil))))
      (pss_cons (ps_for (passes_of rfl) rfl (pi_range1 rfl T.n_range (pa_cons (pv 1) pa_nil)) (pg_name (i := 2) sc_left.nd rfl (Or.inl rfl)) (pss_one (ps_expr (pe_mcal0 (pv 0) T.clsP C_step_left hr (by decide) pass0))))
      (pss_one (ps_ret (pe_mcal0 (pv 0) T.clsP C_settled hr (by decide) pass0)))))
theorem ok_left (D : MethAt K c.CP "left" "Page.left" s_left P_left) (T : Txt K mg c) (C_want : Cal P w K mg base (L2.CX P w) 3 "want" ["is_so", "code"] (sp_want c)) (C_step_left : MCal P w K mg base CX0 3 c.CP "step_left" ["self"] (sp_step_left c)) (C_settled : MCal P w K mg base CX0 11 c.CP "settled" ["self"] (sp_settled c)) (pure : ∀ vs H Q E, sp_left c vs H Q E → t_left K c E { nx := fun _ H' => Q .non H', rt := Q } (start N_left vs) H) : MCal P w K mg base (L2.CX P w) 12 c.CP "left" P_left (sp_left c) := by
  obtain ⟨f, fd, F, m, b⟩ := D.ex
  refine ⟨⟨f, fd, ?_, m, b⟩⟩
  refine F.okX sc_left (fun vs H Q E h => ?_) (fun cdv A outer s H vs Q E hr h => ⟨t_left K c E, b_left T C_want C_step_left C_settled hr, pure vs H Q E h⟩)
  obtain ⟨_, _, _, _, rfl, _⟩ := h
  rfl
abbrev s_right : Stmt := inClass (topS 44) 24
abbrev N_right : List Str := ["self", "many", "turn"]
abbrev P_right : List Str := ["self", "many"]
theorem sc_right : FnScope N_right P_right (defScope s_right) := ⟨rfl, rfl, rfl, by decide +kernel, rfl, by decide +kernel, by decide +kernel⟩
def t_right (K : PySem.W.Frag) (c : Cc) (E : XK) : TS :=
    (tSeq (tDrop (tCall (sp_want c) [] E (tCons (tOp rLeI (tVar 1) (tC (.int (100)))) (tCons (tC (.int (-1))) tNil))))
    (tSeq (tFor (iRng1 (tCons (tVar 1) tNil)) (gName 2) (tDrop (tMeth c.CP "step_right" (sp_step_right c) [] E0 (tVar 0) tNil)))
    (tRet (tMeth c.CP "settled" (sp_settled c) [] E0 (tVar 0) tNil))))
theorem b_right (T : Txt K mg c) (C_want : Cal P w K mg base (L2.CX P w) 3 "want" ["is_so", "code"] (sp_want c)) (C_step_right : MCal P w K mg base CX0 3 c.CP "step_right" ["self"] (sp_step_right c)) (C_settled : MCal P w K mg base CX0 11 c.CP "settled" ["self"] (sp_settled c)) {f : Addr} {cdv : Value} {A : Around} {outer : List Env} {s : Shared} {H : Hp} {E : XK} (hr : Room 11 (A.deeper (envOfC "Page.right" (defScope s_right) s.heap.objs.size f cdv))) :
    PSs (cxOf (L2.CX P w) P w K mg base N_right "Page.right" (defScope s_right) f cdv A outer s H E) (defBody s_right) (t_right K c E) := by
  exact (pss_cons (ps_expr (pe_cal C_want hr (by decide) (passes_call (takes_of rfl rfl rfl rfl) (fun _ _ _ _ h => h)) (pa_cons (pe_cmpR op_le (pv 1) (pe_const T.c_MOST_STEPS) (nomark _)) (pa_cons (pe_const T.c_NOT_SO) pa_nil))))
      (pss_cons (ps_for (passes_of rfl) rfl (pi_range1 rfl T.n_range (pa_cons (pv 1) pa_nil)) (pg_name (i := 2) sc_right.nd rfl (Or.inl rfl)) (pss_one (ps_expr (pe_mcal0 (pv 0) T.clsP C_step_right hr (by decide) pass0))))
      (pss_one (ps_ret (pe_mcal0 (pv 0) T.clsP C_settled hr (by decide) pass0)))))
theorem ok_right (D : MethAt K c.CP "right" "Page.right" s_right P_right) (T : Txt K mg c) (C_want : Cal P w K mg base (L2.CX P w) 3 "want" ["is_so", "code"] (sp_want c)) (C_step_right : MCal P w K mg base CX0 3 c.CP "step_right" ["self"] (sp_step_right c)) (C_settled : MCal P w K mg base CX0 11 c.CP "settled" ["self"] (sp_settled c)) (pure : ∀ vs H Q E, sp_right c vs H Q E → t_right K c E { nx := fun _ H' => Q .non H', rt := Q } (start N_right vs) H) : MCal P w K mg base (L2.CX P w) 12 c.CP "right" P_right (sp_right c) := by
  obtain ⟨f, fd, F, m, b⟩ := D.ex
  refine ⟨⟨f, fd, ?_, m, b⟩⟩
  refine F.okX sc_right (fun vs H Q E h => ?_) (fun cdv A outer s H vs Q E hr h => ⟨t_right K c E, b_right T C_want C_step_right C_settled hr, pure vs H Q E h⟩)
  obtain ⟨_, _, _, _, rfl, _⟩ := h
  rfl
abbrev s_first_free : Stmt := inClass (topS 44) 25
abbrev N_first_free : List Str := ["self"]
abbrev P_first_free : List Str := ["self"]
theorem sc_first_free : FnScope N_first_free P_first_free (defScope s_first_free) := ⟨rfl, rfl, rfl, by decide +kernel, rfl, by decide +kernel, by decide +kernel⟩
def t_first_free (K : PySem.W.Frag) (c : Cc) (E : XK) : TS :=
    (tSeq (tIfS (tTest (tOp rEqI (tFld K (tVar 0) "top") (tC (.int 0)))) (tRet (tC (.int 0))) tNext)
    (tRet (tOp rAddI (tFld K (tVar 0) "top") (tMeth c.CP "margin" (sp_margin c) [] E0 (tVar 0) tNil))))
theorem b_first_free (T : Txt K mg c) (C_margin : MCal P w K mg base CX0 1 c.CP "margin" ["self"] (sp_margin c)) {f : Addr} {cdv : Value} {A : Around} {outer : List Env} {s : Shared} {H : Hp} {E : XK} (hr : Room 1 (A.deeper (envOfC "Page.first_free" (defScope s_first_free) s.heap.objs.size f cdv))) :
    PSs (cxOf CX0 P w K mg base N_first_free "Page.first_free" (defScope s_first_free) f cdv A outer s H E).nox (defBody s_first_free) (t_first_free K c E) := by
  exact (pss_cons (ps_if (pt_cmpR op_eqI (pe_fld (pv 0) rfl) pe_int (nomark _)) (pss_one (ps_ret pe_int)) pss_nil)
      (pss_one (ps_ret (pe_op op_add (pe_fld (pv 0) rfl) (pe_mcal0 (pv 0) T.clsP C_margin hr (by decide) pass0)))))
theorem ok_first_free (D : MethAt K c.CP "first_free" "Page.first_free" s_first_free P_first_free) (T : Txt K mg c) (C_margin : MCal P w K mg base CX0 1 c.CP "margin" ["self"] (sp_margin c)) (pure : ∀ vs H Q E, sp_first_free c vs H Q E → t_first_free K c E { nx := fun _ H' => Q .non H', rt := Q } (start N_first_free vs) H) : MCal P w K mg base CX0 2 c.CP "first_free" P_first_free (sp_first_free c) := by
  obtain ⟨f, fd, F, m, b⟩ := D.ex
  refine ⟨⟨f, fd, ?_, m, b⟩⟩
  refine F.ok sc_first_free (fun vs H Q E h => ?_) (fun cdv A outer s H vs Q E hr h => ⟨t_first_free K c E, b_first_free T C_margin hr, pure vs H Q E h⟩)
  obtain ⟨_, _, _, rfl, _⟩ := h
  rfl
abbrev s_last_free : Stmt := inClass (topS 44) 26
abbrev N_last_free : List Str := ["self", "many"]
abbrev P_last_free : List Str := ["self"]
theorem sc_last_free : FnScope N_last_free P_last_free (defScope s_last_free) := ⟨rfl, rfl, rfl, by decide +kernel, rfl, by decide +kernel, by decide +kernel⟩
def t_last_free (K : PySem.W.Frag) (c : Cc) (E : XK) : TS :=
    (tSeq (tAsg (tCB (rLenS K) (tCons (tMeth c.CP "rows" (sp_rows c) [] E0 (tVar 0) tNil) tNil)) (gName 1))
    (tSeq (tIfS (tTest (tOp rGeI (tOp rAddI (tFld K (tVar 0) "top") (tFld K (tVar 0) "high")) (tVar 1))) (tRet (tOp rSubI (tVar 1) (tC (.int 1)))) tNext)
    (tRet (tOp rSubI (tOp rSubI (tOp rAddI (tFld K (tVar 0) "top") (tFld K (tVar 0) "high")) (tC (.int 1))) (tMeth c.CP "margin" (sp_margin c) [] E0 (tVar 0) tNil)))))
theorem b_last_free (T : Txt K mg c) (C_rows : MCal P w K mg base CX0 6 c.CP "rows" ["self"] (sp_rows c)) (C_margin : MCal P w K mg base CX0 1 c.CP "margin" ["self"] (sp_margin c)) {f : Addr} {cdv : Value} {A : Around} {outer : List Env} {s : Shared} {H : Hp} {E : XK} (hr : Room 6 (A.deeper (envOfC "Page.last_free" (defScope s_last_free) s.heap.objs.size f cdv))) :
    PSs (cxOf CX0 P w K mg base N_last_free "Page.last_free" (defScope s_last_free) f cdv A outer s H E).nox (defBody s_last_free) (t_last_free K c E) := by
  exact (pss_cons (ps_set (i := 1) sc_last_free.nd rfl (Or.inl rfl) (pe_len T.n_len (pe_mcal0 (pv 0) T.clsP C_rows hr (by decide) pass0)))
      (pss_cons (ps_if (pt_cmpR op_ge (pe_op op_add (pe_fld (pv 0) rfl) (pe_fld (pv 0) rfl)) (pv 1) (nomark _)) (pss_one (ps_ret (pe_op op_sub (pv 1) pe_int))) pss_nil)
      (pss_one (ps_ret (pe_op op_sub (pe_op op_sub (pe_op op_add (pe_fld (pv 0) rfl) (pe_fld (pv 0) rfl)) pe_int) (pe_mcal0 (pv 0) T.clsP C_margin hr (by decide) pass0))))))
theorem ok_last_free (D : MethAt K c.CP "last_free" "Page.last_free" s_last_free P_last_free) (T : Txt K mg c) (C_rows : MCal P w K mg base CX0 6 c.CP "rows" ["self"] (sp_rows c)) (C_margin : MCal P w K mg base CX0 1 c.CP "margin" ["self"] (sp_margin c)) (pure : ∀ vs H Q E, sp_last_free c vs H Q E → t_last_free K c E { nx := fun _ H' => Q .non H', rt := Q } (start N_last_free vs) H) : MCal P w K mg base CX0 7 c.CP "last_free" P_last_free (sp_last_free c) := by
  obtain ⟨f, fd, F, m, b⟩ := D.ex
  refine ⟨⟨f, fd, ?_, m, b⟩⟩
  refine F.ok sc_last_free (fun vs H Q E h => ?_) (fun cdv A outer s H vs Q E hr h => ⟨t_last_free K c E, b_last_free T C_rows C_margin hr, pure vs H Q E h⟩)
  obtain ⟨_, _, _, rfl, _⟩ := h
  rfl
abbrev s_scroll : Stmt := inClass (topS 44) 27
abbrev N_scroll : List Str := ["self", "back", "many", "row"]
abbrev P_scroll : List Str := ["self", "back", "many"]
theorem sc_scroll : FnScope N_scroll P_scroll (defScope s_scroll) := ⟨rfl, rfl, rfl, by decide +kernel, rfl, by decide +kernel, by decide +kernel⟩
def t_scroll (K : PySem.W.Frag) (c : Cc) (E : XK) : TS :=
    (tSeq (tDrop (tCall (sp_want c) [] E (tCons (tOp rLeI (tVar 2) (tC (.int (100)))) (tCons (tC (.int (-1))) tNil))))
    (tSeq (tIfS (tTest (tOp rEqI (tVar 1) (tC (.int 1)))) (sFld K (tVar 0) (tCB rMax2 (tCons (tC (.int 0)) (tCons (tOp rSubI (tFld K (tVar 0) "top") (tVar 2)) tNil))) "top") (sFld K (tVar 0) (tCB rMin2 (tCons (tOp rAddI (tFld K (tVar 0) "top") (tVar 2)) (tCons (tMeth c.CP "last_top" (sp_last_top c) [] E0 (tVar 0) tNil) tNil))) "top"))
    (tSeq (tAsg (tMeth c.CP "own_row" (sp_own_row c) [] E0 (tVar 0) tNil) (gName 3))
    (tSeq (tIfS (tTest (tOp rLtI (tVar 3) (tMeth c.CP "first_free" (sp_first_free c) [] E0 (tVar 0) tNil))) (tDrop (tMeth c.CP "put_into" (sp_put_into c) [] E0 (tVar 0) (tCons (tMeth c.CP "first_free" (sp_first_free c) [] E0 (tVar 0) tNil) tNil))) (tIfS (tTest (tOp rGtI (tVar 3) (tMeth c.CP "last_free" (sp_last_free c) [] E0 (tVar 0) tNil))) (tDrop (tMeth c.CP "put_into" (sp_put_into c) [] E0 (tVar 0) (tCons (tMeth c.CP "last_free" (sp_last_free c) [] E0 (tVar 0) tNil) tNil))) tNext))
    (tRet (tMeth c.CP "told" (sp_told c) [] E0 (tVar 0) tNil))))))
theorem b_scroll (T : Txt K mg c) (C_want : Cal P w K mg base (L2.CX P w) 3 "want" ["is_so", "code"] (sp_want c)) (C_last_top : MCal P w K mg base CX0 7 c.CP "last_top" ["self"] (sp_last_top c)) (C_own_row : MCal P w K mg base CX0 8 c.CP "own_row" ["self"] (sp_own_row c)) (C_first_free : MCal P w K mg base CX0 2 c.CP "first_free" ["self"] (sp_first_free c)) (C_put_into : MCal P w K mg base CX0 8 c.CP "put_into" ["self", "row"] (sp_put_into c)) (C_last_free : MCal P w K mg base CX0 7 c.CP "last_free" ["self"] (sp_last_free c)) (C_told : MCal P w K mg base CX0 9 c.CP "told" ["self"] (sp_told c)) {f : Addr} {cdv : Value} {A : Around} {outer : List Env} {s : Shared} {H : Hp} {E : XK} (hr : Room 9 (A.deeper (envOfC "Page.scroll" (defScope s_scroll) s.heap.objs.size f cdv))) :
    PSs (cxOf (L2.CX P w) P w K mg base N_scroll "Page.scroll" (defScope s_scroll) f cdv A outer s H E) (defBody s_scroll) (t_scroll K c E) := by
  exact (pss_cons (ps_expr (pe_cal C_want hr (by decide) (passes_call (takes_of rfl rfl rfl rfl) (fun _ _ _ _ h => h)) (pa_cons (pe_cmpR op_le (pv 2) (pe_const T.c_MOST_STEPS) (nomark _)) (pa_cons (pe_const T.c_NOT_SO) pa_nil))))
      (pss_cons (ps_if (pt_cmpR op_eqI (pv 1) pe_int (nomark _)) (pss_one (ps_fld (pv 0) (pe_max rfl T.n_max pe_int (pe_op op_sub (pe_fld (pv 0) rfl) (pv 2))) rfl)) (pss_one (ps_fld (pv 0) (pe_min rfl T.n_min (pe_op op_add (pe_fld (pv 0) rfl) (pv 2)) (pe_mcal0 (pv 0) T.clsP C_last_top hr (by decide) pass0)) rfl)))
      (pss_cons (ps_set (i := 3) sc_scroll.nd rfl (Or.inl rfl) (pe_mcal0 (pv 0) T.clsP C_own_row hr (by decide) pass0))
      (pss_cons (ps_if (pt_cmpR op_lt (pv 3) (pe_mcal0 (pv 0) T.clsP C_first_free hr (by decide) pass0) (nomark _)) (pss_one (ps_expr (pe_mcal (pv 0) T.clsP C_put_into hr (by decide) pass0 (pa_cons (pe_mcal0 (pv 0) T.clsP C_first_free hr (by decide) pass0) pa_nil)))) (pss_one (ps_if (pt_cmpR op_gt (pv 3) (pe_mcal0 (pv 0) T.clsP C_last_free hr (by decide) pass0) (nomark _)) (pss_one (ps_expr (pe_mcal (pv 0) T.clsP C_put_into hr (by decide) pass0 (pa_cons (pe_mcal0 (pv 0) T.clsP C_last_free hr (by decide) pass0) pa_nil)))) pss_nil)))
      (pss_one (ps_ret (pe_mcal0 (pv 0) T.clsP C_told hr (by decide) pass0)))))))
theorem ok_scroll (D : MethAt K c.CP "scroll" "Page.scroll" s_scroll P_scroll) (T : Txt K mg c) (C_want : Cal P w K mg base (L2.CX P w) 3 "want" ["is_so", "code"] (sp_want c)) (C_last_top : MCal P w K mg base CX0 7 c.CP "last_top" ["self"] (sp_last_top c)) (C_own_row : MCal P w K mg base CX0 8 c.CP "own_row" ["self"] (sp_own_row c)) (C_first_free : MCal P w K mg base CX0 2 c.CP "first_free" ["self"] (sp_first_free c)) (C_put_into : MCal P w K mg base CX0 8 c.CP "put_into" ["self", "row"] (sp_put_into c)) (C_last_free : MCal P w K mg base CX0 7 c.CP "last_free" ["self"] (sp_last_free c)) (C_told : MCal P w K mg base CX0 9 c.CP "told" ["self"] (sp_told c)) (pure : ∀ vs H Q E, sp_scroll c vs H Q E → t_scroll K c E { nx := fun _ H' => Q .non H', rt := Q } (start N_scroll vs) H) : MCal P w K mg base (L2.CX P w) 10 c.CP "scroll" P_scroll (sp_scroll c) := by
  obtain ⟨f, fd, F, m, b⟩ := D.ex
  refine ⟨⟨f, fd, ?_, m, b⟩⟩
  refine F.okX sc_scroll (fun vs H Q E h => ?_) (fun cdv A outer s H vs Q E hr h => ⟨t_scroll K c E, b_scroll T C_want C_last_top C_own_row C_first_free C_put_into C_last_free C_told hr, pure vs H Q E h⟩)
  obtain ⟨_, _, _, _, _, rfl, _⟩ := h
  rfl
abbrev s_shows : Stmt := inClass (topS 44) 28
abbrev N_shows : List Str := ["self", "some", "found", "line", "row"]
abbrev P_shows : List Str := ["self"]
theorem sc_shows : FnScope N_shows P_shows (defScope s_shows) := ⟨rfl, rfl, rfl, by decide +kernel, rfl, by decide +kernel, by decide +kernel⟩
def t_shows (K : PySem.W.Frag) (c : Cc) (E : XK) : TS :=
    (tSeq (tAsg (tSl (rSlL K) (tMeth c.CP "rows" (sp_rows c) [] E0 (tVar 0) tNil) (tPart (tFld K (tVar 0) "top")) (tPart (tOp rAddI (tFld K (tVar 0) "top") (tFld K (tVar 0) "high")))) (gName 1))
    (tSeq (tAsg (tLst (tCons (tCB (rLenS K) (tCons (tVar 1) tNil)) tNil)) (gName 2))
    (tSeq (tFor (iList K (tVar 1)) (gTup K 2 (gCons (gName 3) (gCons (gName 4) gNil))) (tSeq (tDrop (tBM K "list" rAppend (tVar 2) (tCons (tVar 3) tNil)))
    (tDrop (tBM K "list" (rExtT K) (tVar 2) (tCons (tVar 4) tNil)))))
    (tRet (tVar 2)))))
theorem b_shows (T : Txt K mg c) (C_rows : MCal P w K mg base CX0 6 c.CP "rows" ["self"] (sp_rows c)) {f : Addr} {cdv : Value} {A : Around} {outer : List Env} {s : Shared} {H : Hp} {E : XK} (hr : Room 6 (A.deeper (envOfC "Page.shows" (defScope s_shows) s.heap.objs.size f cdv))) :
    PSs (cxOf CX0 P w K mg base N_shows "Page.shows" (defScope s_shows) f cdv A outer s H E).nox (defBody s_shows) (t_shows K c E) := by
  exact (pss_cons (ps_set (i := 1) sc_shows.nd rfl (Or.inl rfl) (pe_slice sl_list (pe_mcal0 (pv 0) T.clsP C_rows hr (by decide) pass0) (po_some (pe_fld (pv 0) rfl)) (po_some (pe_op op_add (pe_fld (pv 0) rfl) (pe_fld (pv 0) rfl)))))
      (pss_cons (ps_set (i := 2) sc_shows.nd rfl (Or.inl rfl) (pe_lst (pa_cons (pe_len T.n_len (pv 1)) pa_nil)))
      (pss_cons (ps_for PassesOwn.never rfl (pi_list (pv 1)) (pg_tup rfl (pgs_cons (pg_name (i := 3) sc_shows.nd rfl (Or.inl rfl)) (pgs_cons (pg_name (i := 4) sc_shows.nd rfl (Or.inl rfl)) pgs_nil))) (pss_cons (ps_expr (pe_append (pv 2) (pv 3)))
      (pss_one (ps_expr (pe_extendT (pv 2) (pv 4))))))
      (pss_one (ps_ret (pv 2))))))
theorem ok_shows (D : MethAt K c.CP "shows" "Page.shows" s_shows P_shows) (T : Txt K mg c) (C_rows : MCal P w K mg base CX0 6 c.CP "rows" ["self"] (sp_rows c)) (pure : ∀ vs H Q E, sp_shows c vs H Q E → t_shows K c E { nx := fun _ H' => Q .non H', rt := Q } (start N_shows vs) H) : MCal P w K mg base CX0 7 c.CP "shows" P_shows (sp_shows c) := by
  obtain ⟨f, fd, F, m, b⟩ := D.ex
  refine ⟨⟨f, fd, ?_, m, b⟩⟩
  refine F.ok sc_shows (fun vs H Q E h => ?_) (fun cdv A outer s H vs Q E hr h => ⟨t_shows K c E, b_shows T C_rows hr, pure vs H Q E h⟩)
  obtain ⟨_, _, _, rfl, _⟩ := h
  rfl
abbrev s_rows_told : Stmt := inClass (topS 44) 29
abbrev N_rows_told : List Str := ["self", "line", "some", "found", "row"]
abbrev P_rows_told : List Str := ["self", "line"]
theorem sc_rows_told : FnScope N_rows_told P_rows_told (defScope s_rows_told) := ⟨rfl, rfl, rfl, by decide +kernel, rfl, by decide +kernel, by decide +kernel⟩
def t_rows_told (K : PySem.W.Frag) (c : Cc) (E : XK) : TS :=
    (tSeq (tDrop (tCall (sp_want c) [] E (tCons (tOp rLtI (tVar 1) (tCB (rLenS K) (tCons (tFld K (tVar 0) "lines") tNil))) (tCons (tC (.int (-1))) tNil))))
    (tSeq (tAsg (tCall (sp_rows_of c) [] E0 (tCons (tFld K (tVar 0) "shape") (tCons (tOp (rIxL K) (tFld K (tVar 0) "lines") (tVar 1)) tNil))) (gName 2))
    (tSeq (tAsg (tLst (tCons (tCB (rLenS K) (tCons (tVar 2) tNil)) tNil)) (gName 3))
    (tSeq (tFor (iList K (tVar 2)) (gName 4) (tDrop (tBM K "list" (rExtT K) (tVar 3) (tCons (tVar 4) tNil))))
    (tRet (tVar 3))))))
theorem b_rows_told (T : Txt K mg c) (C_want : Cal P w K mg base (L2.CX P w) 3 "want" ["is_so", "code"] (sp_want c)) (C_rows_of : Cal P w K mg base CX0 5 "rows_of" ["look", "line"] (sp_rows_of c)) {f : Addr} {cdv : Value} {A : Around} {outer : List Env} {s : Shared} {H : Hp} {E : XK} (hr : Room 5 (A.deeper (envOfC "Page.rows_told" (defScope s_rows_told) s.heap.objs.size f cdv))) :
    PSs (cxOf (L2.CX P w) P w K mg base N_rows_told "Page.rows_told" (defScope s_rows_told) f cdv A outer s H E) (defBody s_rows_told) (t_rows_told K c E) := by
  exact (pss_cons (ps_expr (pe_cal C_want hr (by decide) (passes_call (takes_of rfl rfl rfl rfl) (fun _ _ _ _ h => h)) (pa_cons (pe_cmpR op_lt (pv 1) (pe_len T.n_len (pe_fld (pv 0) rfl)) (nomark _)) (pa_cons (pe_const T.c_NOT_SO) pa_nil))))
      (pss_cons (ps_set (i := 2) sc_rows_told.nd rfl (Or.inl rfl) (pe_cal C_rows_of hr (by decide) pass0 (pa_cons (pe_fld (pv 0) rfl) (pa_cons (pe_ix ix_list (pe_fld (pv 0) rfl) (pv 1) (fun _ _ => rfl)) pa_nil))))
      (pss_cons (ps_set (i := 3) sc_rows_told.nd rfl (Or.inl rfl) (pe_lst (pa_cons (pe_len T.n_len (pv 2)) pa_nil)))
      (pss_cons (ps_for (passes_of rfl) rfl (pi_list (pv 2)) (pg_name (i := 4) sc_rows_told.nd rfl (Or.inl rfl)) (pss_one (ps_expr (pe_extendT (pv 3) (pv 4)))))
      (pss_one (ps_ret (pv 3)))))))
theorem ok_rows_told (D : MethAt K c.CP "rows_told" "Page.rows_told" s_rows_told P_rows_told) (T : Txt K mg c) (C_want : Cal P w K mg base (L2.CX P w) 3 "want" ["is_so", "code"] (sp_want c)) (C_rows_of : Cal P w K mg base CX0 5 "rows_of" ["look", "line"] (sp_rows_of c)) (pure : ∀ vs H Q E, sp_rows_told c vs H Q E → t_rows_told K c E { nx := fun _ H' => Q .non H', rt := Q } (start N_rows_told vs) H) : MCal P w K mg base (L2.CX P w) 6 c.CP "rows_told" P_rows_told (sp_rows_told c) := by
  obtain ⟨f, fd, F, m, b⟩ := D.ex
  refine ⟨⟨f, fd, ?_, m, b⟩⟩
  refine F.okX sc_rows_told (fun vs H Q E h => ?_) (fun cdv A outer s H vs Q E hr h => ⟨t_rows_told K c E, b_rows_told T C_want C_rows_of hr, pure vs H Q E h⟩)
  obtain ⟨_, _, _, _, rfl, _⟩ := h
  rfl
abbrev s_at : Stmt := inClass (topS 44) 30
abbrev N_at : List Str := ["self", "number", "column", "some", "line", "row"]
abbrev P_at : List Str := ["self", "number", "column"]
theorem sc_at : FnScope N_at P_at (defScope s_at) := ⟨rfl, rfl, rfl, by decide +kernel, rfl, by decide +kernel, by decide +kernel⟩
def t_at (K : PySem.W.Frag) (c : Cc) (E : XK) : TS :=
    (tSeq (tDrop (tCall (sp_want c) [] E (tCons (tAndV (tOp rLtI (tVar 1) (tFld K (tVar 0) "high")) (tOp rLtI (tVar 2) (tFld K (tFld K (tVar 0) "shape") "wide"))) (tCons (tC (.int (-1))) tNil))))
    (tSeq (tAsg (tMeth c.CP "rows" (sp_rows c) [] E0 (tVar 0) tNil) (gName 3))
    (tSeq (tDrop (tCall (sp_want c) [] E (tCons (tOp rLtI (tOp rAddI (tFld K (tVar 0) "top") (tVar 1)) (tCB (rLenS K) (tCons (tVar 3) tNil))) (tCons (tC (.int (-6))) tNil))))
    (tSeq (tAsg (tOp (rIxL K) (tVar 3) (tOp rAddI (tFld K (tVar 0) "top") (tVar 1))) (gTup K 2 (gCons (gName 4) (gCons (gName 5) gNil))))
    (tRet (tLst (tCons (tVar 4) (tCons (tCall (sp_place_for c) [] E0 (tCons (tFld K (tVar 0) "shape") (tCons (tOp (rIxL K) (tFld K (tVar 0) "lines") (tVar 4)) (tCons (tVar 5) (tCons (tVar 2) tNil))))) tNil))))))))
theorem b_at (T : Txt K mg c) (C_want : Cal P w K mg base (L2.CX P w) 3 "want" ["is_so", "code"] (sp_want c)) (C_rows : MCal P w K mg base CX0 6 c.CP "rows" ["self"] (sp_rows c)) (C_place_for : Cal P w K mg base CX0 4 "place_for" ["look", "line", "row", "column"] (sp_place_for c)) {f : Addr} {cdv : Value} {A : Around} {outer : List Env} {s : Shared} {H : Hp} {E : XK} (hr : Room 6 (A.deeper (envOfC "Page.at" (defScope s_at) s.heap.objs.size f cdv))) :
    PSs (cxOf (L2.CX P w) P w K mg base N_at "Page.at" (defScope s_at) f cdv A outer s H E) (defBody s_at) (t_at K c E) := by
  exact (pss_cons (ps_expr (pe_cal C_want hr (by decide) (passes_call (takes_of rfl rfl rfl rfl) (fun _ _ _ _ h => h)) (pa_cons (pe_and (pe_cmpR op_lt (pv 1) (pe_fld (pv 0) rfl) (nomark _)) (pe_one (pe_cmpR op_lt (pv 2) (pe_fld (pe_fld (pv 0) rfl) rfl) (nomark _)))) (pa_cons (pe_const T.c_NOT_SO) pa_nil))))
      (pss_cons (ps_set (i := 3) sc_at.nd rfl (Or.inl rfl) (pe_mcal0 (pv 0) T.clsP C_rows hr (by decide) pass0))
      (pss_cons (ps_expr (pe_cal C_want hr (by decide) (passes_call (takes_of rfl rfl rfl rfl) (fun _ _ _ _ h => h)) (pa_cons (pe_cmpR op_lt (pe_op op_add (pe_fld (pv 0) rfl) (pv 1)) (pe_len T.n_len (pv 3)) (nomark _)) (pa_cons (pe_const T.c_NONE_THERE) pa_nil))))
      (pss_cons (ps_asg (pe_ix ix_list (pv 3) (pe_op op_add (pe_fld (pv 0) rfl) (pv 1)) (fun _ _ => rfl)) (pg_tup rfl (pgs_cons (pg_name (i := 4) sc_at.nd rfl (Or.inl rfl)) (pgs_cons (pg_name (i := 5) sc_at.nd rfl (Or.inl rfl)) pgs_nil))))
      (pss_one (ps_ret (pe_lst (pa_cons (pv 4) (pa_cons (pe_cal C_place_for hr (by decide) pass0 (pa_cons (pe_fld (pv 0) rfl) (pa_cons (pe_ix ix_list (pe_fld (pv 0) rfl) (pv 4) (fun _ _ => rfl)) (pa_cons (pv 5) (pa_cons (pv 2) pa_nil))))) pa_nil)))))))))
theorem ok_at (D : MethAt K c.CP "at" "Page.at" s_at P_at) (T : Txt K mg c) (C_want : Cal P w K mg base (L2.CX P w) 3 "want" ["is_so", "code"] (sp_want c)) (C_rows : MCal P w K mg base CX0 6 c.CP "rows" ["self"] (sp_rows c)) (C_place_for : Cal P w K mg base CX0 4 "place_for" ["look", "line", "row", "column"] (sp_place_for c)) (pure : ∀ vs H Q E, sp_at c vs H Q E → t_at K c E { nx := fun _ H' => Q .non H', rt := Q } (start N_at vs) H) : MCal P w K mg base (L2.CX P w) 7 c.CP "at" P_at (sp_at c) := by
  obtain ⟨f, fd, F, m, b⟩ := D.ex
  refine ⟨⟨f, fd, ?_, m, b⟩⟩
  refine F.okX sc_at (fun vs H Q E h => ?_) (fun cdv A outer s H vs Q E hr h => ⟨t_at K c E, b_at T C_want C_rows C_place_for hr, pure vs H Q E h⟩)
  obtain ⟨_, _, _, _, _, rfl, _⟩ := h
  rfl
abbrev s_where : Stmt := inClass (topS 44) 31
abbrev N_where : List Str := ["self", "line", "place", "row"]
abbrev P_where : List Str := ["self", "line", "place"]
theorem sc_where : FnScope N_where P_where (defScope s_where) := ⟨rfl, rfl, rfl, by decide +kernel, rfl, by decide +kernel, by decide +kernel⟩
def t_where (K : PySem.W.Frag) (c : Cc) (E : XK) : TS :=
    (tSeq (tDrop (tMeth c.CP "want_place" (sp_want_place c) [] E (tVar 0) (tCons (tVar 1) (tCons (tVar 2) tNil))))
    (tSeq (tDrop (tCall (sp_want c) [] E (tCons (tCall (sp_is_seen c) [] E0 (tCons (tFld K (tVar 0) "folds") (tCons (tVar 1) tNil))) (tCons (tC (.int (-6))) tNil))))
    (tSeq (tAsg (tMeth c.CP "row_at" (sp_row_at c) [] E0 (tVar 0) (tCons (tVar 1) (tCons (tVar 2) tNil))) (gName 3))
    (tSeq (tDrop (tCall (sp_want c) [] E (tCons (tAndV (tOp rLeI (tFld K (tVar 0) "top") (tVar 3)) (tOp rLtI (tVar 3) (tOp rAddI (tFld K (tVar 0) "top") (tFld K (tVar 0) "high")))) (tCons (tC (.int (-7))) tNil))))
    (tRet (tLst (tCons (tOp rSubI (tVar 3) (tFld K (tVar 0) "top")) (tCons (tMeth c.CP "column_at" (sp_column_at c) [] E0 (tVar 0) (tCons (tVar 1) (tCons (tVar 2) tNil))) tNil))))))))
theorem b_where (T : Txt K mg c) (C_want_place : MCal P w K mg base (L2.CX P w) 4 c.CP "want_place" ["self", "line", "place"] (sp_want_place c)) (C_want : Cal P w K mg base (L2.CX P w) 3 "want" ["is_so", "code"] (sp_want c)) (C_is_seen : Cal P w K mg base CX0 2 "is_seen" ["folds", "line"] (sp_is_seen c)) (C_row_at : MCal P w K mg base CX0 7 c.CP "row_at" ["self", "line", "place"] (sp_row_at c)) (C_column_at : MCal P w K mg base CX0 7 c.CP "column_at" ["self", "line", "place"] (sp_column_at c)) {f : Addr} {cdv : Value} {A : Around} {outer : List Env} {s : Shared} {H : Hp} {E : XK} (hr : Room 7 (A.deeper (envOfC "Page.where" (defScope s_where) s.heap.objs.size f cdv))) :
    PSs (cxOf (L2.CX P w) P w K mg base N_where "Page.where" (defScope s_where) f cdv A outer s H E) (defBody s_where) (t_where K c E) := by
  exact (pss_cons (ps_expr (pe_mcal (pv 0) T.clsP C_want_place hr (by decide) (passes_call (takes_of rfl rfl rfl rfl) (fun _ _ _ _ h => h)) (pa_cons (pv 1) (pa_cons (pv 2) pa_nil))))
      (pss_cons (ps_expr (pe_cal C_want hr (by decide) (passes_call (takes_of rfl rfl rfl rfl) (fun _ _ _ _ h => h)) (pa_cons (pe_cal C_is_seen hr (by decide) pass0 (pa_cons (pe_fld (pv 0) rfl) (pa_cons (pv 1) pa_nil))) (pa_cons (pe_const T.c_NONE_THERE) pa_nil))))
      (pss_cons (ps_set (i := 3) sc_where.nd rfl (Or.inl rfl) (pe_mcal (pv 0) T.clsP C_row_at hr (by decide) pass0 (pa_cons (pv 1) (pa_cons (pv 2) pa_nil))))
      (pss_cons (ps_expr (pe_cal C_want hr (by decide) (passes_call (takes_of rfl rfl rfl rfl) (fun _ _ _ _ h => h)) (pa_cons (pe_and (pe_cmpR op_le (pe_fld (pv 0) rfl) (pv 3) (nomark _)) (pe_one (pe_cmpR op_lt (pv 3) (pe_op op_add (pe_fld (pv 0) rfl) (pe_fld (pv 0) rfl)) (nomark _)))) (pa_cons (pe_const T.c_NOT_SHOWN) pa_nil))))
      (pss_one (ps_ret (pe_lst (pa_cons (pe_op op_sub (pv 3) (pe_fld (pv 0) rfl)) (pa_cons (pe_mcal (pv 0) T.clsP C_column_at hr (by decide) pass0 (pa_cons (pv 1) (pa_cons (pv 2) pa_nil))) pa_nil)))))))))
theorem ok_where (D : MethAt K c.CP "where" "Page.where" s_where P_where) (T : Txt K mg c) (C_want_place : MCal P w K mg base (L2.CX P w) 4 c.CP "want_place" ["self", "line", "place"] (sp_want_place c)) (C_want : Cal P w K mg base (L2.CX P w) 3 "want" ["is_so", "code"] (sp_want c)) (C_is_seen : Cal P w K mg base CX0 2 "is_seen" ["folds", "line"] (sp_is_seen c)) (C_row_at : MCal P w K mg base CX0 7 c.CP "row_at" ["self", "line", "place"] (sp_row_at c)) (C_column_at : MCal P w K mg base CX0 7 c.CP "column_at" ["self", "line", "place"] (sp_column_at c)) (pure : ∀ vs H Q E, sp_where c vs H Q E → t_where K c E { nx := fun _ H' => Q .non H', rt := Q } (start N_where vs) H) : MCal P w K mg base (L2.CX P w) 8 c.CP "where" P_where (sp_where c) := by
  obtain ⟨f, fd, F, m, b⟩ := D.ex
  refine ⟨⟨f, fd, ?_, m, b⟩⟩
  refine F.okX sc_where (fun vs H Q E h => ?_) (fun cdv A outer s H vs Q E hr h => ⟨t_where K c E, b_where T C_want_place C_want C_is_seen C_row_at C_column_at hr, pure vs H Q E h⟩)
  obtain ⟨_, _, _, _, _, rfl, _⟩ := h
  rfl
end
end Fw
/-! Readings and derivations, printed by gen.py. -/
namespace Fw
open PySem PySem.Spec PyProof.Rows L2 Evl
section
variable {P : Program} {w : World} {K : PySem.W.Frag} {mg : Str → Option Value} {base : Heap} {c : Cc}
abbrev s_lines_in : Stmt := topS 48
abbrev N_lines_in : List Str := ["numbers", "found", "at", "end"]
abbrev P_lines_in : List Str := ["numbers"]
theorem sc_lines_in : FnScope N_lines_in P_lines_in (defScope s_lines_in) := ⟨rfl, rfl, rfl, by decide +kernel, rfl, by decide +kernel, by decide +kernel⟩
def t_lines_in (K : PySem.W.Frag) (c : Cc) (E : XK) : TS :=
    (tSeq (tAsg (tLst tNil) (gName 1))
    (tSeq (tAsg (tC (.int 0)) (gName 2))
    (tSeq (tWhile (tTest (tOp rLtI (tVar 2) (tCB (rLenS K) (tCons (tVar 0) tNil)))) (tSeq (tAsg (tOp rAddI (tOp rAddI (tVar 2) (tC (.int 1))) (tOp (rIxL K) (tVar 0) (tVar 2))) (gName 3))
    (tSeq (tDrop (tBM K "list" rAppend (tVar 1) (tCons (tSl (rSlL K) (tVar 0) (tPart (tOp rAddI (tVar 2) (tC (.int 1)))) (tPart (tVar 3))) tNil)))
    (tAsg (tVar 3) (gName 2)))))
    (tRet (tVar 1)))))
theorem b_lines_in (T : Txt K mg c)  {f : Addr} {cdv : Value} {A : Around} {outer : List Env} {s : Shared} {H : Hp} {E : XK} (hr : Room 0 (A.deeper (envOfC "lines_in" (defScope s_lines_in) s.heap.objs.size f cdv))) :
    PSs (cxOf CX0 P w K mg base N_lines_in "lines_in" (defScope s_lines_in) f cdv A outer s H E).nox (defBody s_lines_in) (t_lines_in K c E) := by
  exact (pss_cons (ps_set (i := 1) sc_lines_in.nd rfl (Or.inl rfl) (pe_lst pa_nil))
      (pss_cons (ps_set (i := 2) sc_lines_in.nd rfl (Or.inl rfl) pe_int)
      (pss_cons (ps_while PassesOwn.never (pt_cmpR op_lt (pv 2) (pe_len T.n_len (pv 0)) (nomark _)) (pss_cons (ps_set (i := 3) sc_lines_in.nd rfl (Or.inl rfl) (pe_op op_add (pe_op op_add (pv 2) pe_int) (pe_ix ix_list (pv 0) (pv 2) (fun _ _ => rfl))))
      (pss_cons (ps_expr (pe_append (pv 1) (pe_slice sl_list (pv 0) (po_some (pe_op op_add (pv 2) pe_int)) (po_some (pv 3)))))
      (pss_one (ps_set (i := 2) sc_lines_in.nd rfl (Or.inl rfl) (pv 3))))))
      (pss_one (ps_ret (pv 1))))))
theorem ok_lines_in (D : DefAt K mg "lines_in" s_lines_in P_lines_in) (T : Txt K mg c)  (pure : ∀ vs H Q E, sp_lines_in c vs H Q E → t_lines_in K c E { nx := fun _ H' => Q .non H', rt := Q } (start N_lines_in vs) H) : Cal P w K mg base CX0 1 "lines_in" P_lines_in (sp_lines_in c) := by
  obtain ⟨f, fd, F, m, b⟩ := D.ex
  refine ⟨⟨f, fd, ?_, m, F.kp, b⟩⟩
  refine F.ok sc_lines_in (fun vs H Q E h => ?_) (fun cdv A outer s H vs Q E hr h => ⟨t_lines_in K c E, b_lines_in T  hr, pure vs H Q E h⟩)
  obtain ⟨_, _, _, rfl, _⟩ := h
  rfl
abbrev s_changed : Stmt := topS 49
abbrev N_changed : List Str := ["page", "call", "n"]
abbrev P_changed : List Str := ["page", "call", "n"]
theorem sc_changed : FnScope N_changed P_changed (defScope s_changed) := ⟨rfl, rfl, rfl, by decide +kernel, rfl, by decide +kernel, by decide +kernel⟩
def t_changed (K : PySem.W.Frag) (c : Cc) (E : XK) : TS :=
    (tSeq (tIfS (tTest (tOp rEqI (tVar 1) (tC (.int 0)))) (tRet (tMeth c.CP "look" (sp_look c) [] E (tVar 0) (tCons (tOp (rIxL K) (tVar 2) (tC (.int 0))) (tCons (tOp (rIxL K) (tVar 2) (tC (.int 1))) (tCons (tOp (rIxL K) (tVar 2) (tC (.int 2))) (tCons (tOp (rIxL K) (tVar 2) (tC (.int 3))) (tCons (tOp (rIxL K) (tVar 2) (tC (.int 4))) tNil))))))) tNext)
    (tSeq (tIfS (tTest (tOp rEqI (tVar 1) (tC (.int 1)))) (tRet (tMeth c.CP "window" (sp_window c) [] E (tVar 0) (tCons (tOp (rIxL K) (tVar 2) (tC (.int 0))) (tCons (tOp (rIxL K) (tVar 2) (tC (.int 1))) tNil)))) tNext)
    (tSeq (tIfS (tTest (tOp rEqI (tVar 1) (tC (.int (2))))) (tRet (tMeth c.CP "text" (sp_text c) [] E (tVar 0) (tCons (tCall (sp_lines_in c) [] E0 (tCons (tVar 2) tNil)) tNil))) tNext)
    (tSeq (tIfS (tTest (tOp rEqI (tVar 1) (tC (.int (3))))) (tRet (tMeth c.CP "edit" (sp_edit c) [] E (tVar 0) (tCons (tOp (rIxL K) (tVar 2) (tC (.int 0))) (tCons (tOp (rIxL K) (tVar 2) (tC (.int 1))) (tCons (tCall (sp_lines_in c) [] E0 (tCons (tSl (rSlL K) (tVar 2) (tPart (tC (.int 2))) tNoPart) tNil)) tNil))))) tNext)
    (tSeq (tIfS (tTest (tOp rEqI (tVar 1) (tC (.int 4)))) (tRet (tMeth c.CP "fold" (sp_fold c) [] E (tVar 0) (tCons (tOp (rIxL K) (tVar 2) (tC (.int 0))) (tCons (tOp (rIxL K) (tVar 2) (tC (.int 1))) tNil)))) tNext)
    (tRet (tMeth c.CP "unfold" (sp_unfold c) [] E (tVar 0) (tCons (tOp (rIxL K) (tVar 2) (tC (.int 0))) tNil))))))))
theorem b_changed (T : Txt K mg c) (C_look : MCal P w K mg base (L2.CX P w) 12 c.CP "look" ["self", "wide", "tab", "more", "hang", "words"] (sp_look c)) (C_window : MCal P w K mg base (L2.CX P w) 11 c.CP "window" ["self", "high", "margin"] (sp_window c)) (C_text : MCal P w K mg base (L2.CX P w) 12 c.CP "text" ["self", "lines"] (sp_text c)) (C_lines_in : Cal P w K mg base CX0 1 "lines_in" ["numbers"] (sp_lines_in c)) (C_edit : MCal P w K mg base (L2.CX P w) 12 c.CP "edit" ["self", "begin", "end", "lines"] (sp_edit c)) (C_fold : MCal P w K mg base (L2.CX P w) 12 c.CP "fold" ["self", "begin", "end"] (sp_fold c)) (C_unfold : MCal P w K mg base (L2.CX P w) 12 c.CP "unfold" ["self", "line"] (sp_unfold c)) {f : Addr} {cdv : Value} {A : Around} {outer : List Env} {s : Shared} {H : Hp} {E : XK} (hr : Room 12 (A.deeper (envOfC "changed" (defScope s_changed) s.heap.objs.size f cdv))) :
    PSs (cxOf (L2.CX P w) P w K mg base N_changed "changed" (defScope s_changed) f cdv A outer s H E) (defBody s_changed) (t_changed K c E) := by
  exact (pss_cons (ps_if (pt_cmpR op_eqI (pv 1) pe_int (nomark _)) (pss_one (ps_ret (pe_mcal (pv 0) T.clsP C_look hr (by decide) (passes_call (takes_of rfl rfl rfl rfl) (fun _ _ _ _ h => h)) (pa_cons (pe_ix ix_list (pv 2) pe_int (fun _ _ => rfl)) (pa_cons (pe_ix ix_list (pv 2) pe_int (fun _ _ => rfl)) (pa_cons (pe_ix ix_list (pv 2) pe_int (fun _ _ => rfl)) (pa_cons (pe_ix ix_list (pv 2) pe_int (fun _ _ => rfl)) (pa_cons (pe_ix ix_list (pv 2) pe_int (fun _ _ => rfl)) pa_nil)))))))) pss_nil)
      (pss_cons (ps_if (pt_cmpR op_eqI (pv 1) pe_int (nomark _)) (pss_one (ps_ret (pe_mcal (pv 0) T.clsP C_window hr (by decide) (passes_call (takes_of rfl rfl rfl rfl) (fun _ _ _ _ h => h)) (pa_cons (pe_ix ix_list (pv 2) pe_int (fun _ _ => rfl)) (pa_cons (pe_ix ix_list (pv 2) pe_int (fun _ _ => rfl)) pa_nil))))) pss_nil)
      (pss_cons (ps_if (pt_cmpR op_eqI (pv 1) (pe_const T.c_TEXT) (nomark _)) (pss_one (ps_ret (pe_mcal (pv 0) T.clsP C_text hr (by decide) (passes_call (takes_of rfl rfl rfl rfl) (fun _ _ _ _ h => h)) (pa_cons (pe_cal C_lines_in hr (by decide) pass0 (pa_cons (pv 2) pa_nil)) pa_nil)))) pss_nil)
      (pss_cons (ps_if (pt_cmpR op_eqI (pv 1) (pe_const T.c_EDIT) (nomark _)) (pss_one (ps_ret (pe_mcal (pv 0) T.clsP C_edit hr (by decide) (passes_call (takes_of rfl rfl rfl rfl) (fun _ _ _ _ h => h)) (pa_cons (pe_ix ix_list (pv 2) pe_int (fun _ _ => rfl)) (pa_cons (pe_ix ix_list (pv 2) pe_int (fun _ _ => rfl)) (pa_cons (pe_cal C_lines_in hr (by decide) pass0 (pa_cons (pe_slice sl_list (pv 2) (po_some pe_int) po_none) pa_nil)) pa_nil)))))) pss_nil)
      (pss_cons (ps_if (pt_cmpR op_eqI (pv 1) pe_int (nomark _)) (pss_one (ps_ret (pe_mcal (pv 0) T.clsP C_fold hr (by decide) (passes_call (takes_of rfl rfl rfl rfl) (fun _ _ _ _ h => h)) (pa_cons (pe_ix ix_list (pv 2) pe_int (fun _ _ => rfl)) (pa_cons (pe_ix ix_list (pv 2) pe_int (fun _ _ => rfl)) pa_nil))))) pss_nil)
      (pss_one (ps_ret (pe_mcal (pv 0) T.clsP C_unfold hr (by decide) (passes_call (takes_of rfl rfl rfl rfl) (fun _ _ _ _ h => h)) (pa_cons (pe_ix ix_list (pv 2) pe_int (fun _ _ => rfl)) pa_nil)))))))))
theorem ok_changed (D : DefAt K mg "changed" s_changed P_changed) (T : Txt K mg c) (C_look : MCal P w K mg base (L2.CX P w) 12 c.CP "look" ["self", "wide", "tab", "more", "hang", "words"] (sp_look c)) (C_window : MCal P w K mg base (L2.CX P w) 11 c.CP "window" ["self", "high", "margin"] (sp_window c)) (C_text : MCal P w K mg base (L2.CX P w) 12 c.CP "text" ["self", "lines"] (sp_text c)) (C_lines_in : Cal P w K mg base CX0 1 "lines_in" ["numbers"] (sp_lines_in c)) (C_edit : MCal P w K mg base (L2.CX P w) 12 c.CP "edit" ["self", "begin", "end", "lines"] (sp_edit c)) (C_fold : MCal P w K mg base (L2.CX P w) 12 c.CP "fold" ["self", "begin", "end"] (sp_fold c)) (C_unfold : MCal P w K mg base (L2.CX P w) 12 c.CP "unfold" ["self", "line"] (sp_unfold c)) (pure : ∀ vs H Q E, sp_changed c vs H Q E → t_changed K c E { nx := fun _ H' => Q .non H', rt := Q } (start N_changed vs) H) : Cal P w K mg base (L2.CX P w) 13 "changed" P_changed (sp_changed c) := by
  obtain ⟨f, fd, F, m, b⟩ := D.ex
  refine ⟨⟨f, fd, ?_, m, F.kp, b⟩⟩
  refine F.okX sc_changed (fun vs H Q E h => ?_) (fun cdv A outer s H vs Q E hr h => ⟨t_changed K c E, b_changed T C_look C_window C_text C_lines_in C_edit C_fold C_unfold hr, pure vs H Q E h⟩)
  obtain ⟨_, _, _, _, _, _, _, rfl, _⟩ := h
  rfl
abbrev s_moved : Stmt := topS 50
abbrev N_moved : List Str := ["page", "call", "n"]
abbrev P_moved : List Str := ["page", "call", "n"]
theorem sc_moved : FnScope N_moved P_moved (defScope s_moved) := ⟨rfl, rfl, rfl, by decide +kernel, rfl, by decide +kernel, by decide +kernel⟩
def t_moved (K : PySem.W.Frag) (c : Cc) (E : XK) : TS :=
    (tSeq (tIfS (tTest (tOp rEqI (tVar 1) (tC (.int 6)))) (tRet (tMeth c.CP "goto" (sp_goto c) [] E (tVar 0) (tCons (tOp (rIxL K) (tVar 2) (tC (.int 0))) (tCons (tOp (rIxL K) (tVar 2) (tC (.int 1))) tNil)))) tNext)
    (tSeq (tIfS (tTest (tOp rEqI (tVar 1) (tC (.int 7)))) (tRet (tMeth c.CP "up" (sp_up c) [] E (tVar 0) (tCons (tOp (rIxL K) (tVar 2) (tC (.int 0))) tNil))) tNext)
    (tSeq (tIfS (tTest (tOp rEqI (tVar 1) (tC (.int 8)))) (tRet (tMeth c.CP "down" (sp_down c) [] E (tVar 0) (tCons (tOp (rIxL K) (tVar 2) (tC (.int 0))) tNil))) tNext)
    (tSeq (tIfS (tTest (tOp rEqI (tVar 1) (tC (.int 9)))) (tRet (tMeth c.CP "left" (sp_left c) [] E (tVar 0) (tCons (tOp (rIxL K) (tVar 2) (tC (.int 0))) tNil))) tNext)
    (tSeq (tIfS (tTest (tOp rEqI (tVar 1) (tC (.int 10)))) (tRet (tMeth c.CP "right" (sp_right c) [] E (tVar 0) (tCons (tOp (rIxL K) (tVar 2) (tC (.int 0))) tNil))) tNext)
    (tRet (tMeth c.CP "scroll" (sp_scroll c) [] E (tVar 0) (tCons (tOp (rIxL K) (tVar 2) (tC (.int 0))) (tCons (tOp (rIxL K) (tVar 2) (tC (.int 1))) tNil)))))))))
theorem b_moved (T : Txt K mg c) (C_goto : MCal P w K mg base (L2.CX P w) 12 c.CP "goto" ["self", "line", "place"] (sp_goto c)) (C_up : MCal P w K mg base (L2.CX P w) 11 c.CP "up" ["self", "many"] (sp_up c)) (C_down : MCal P w K mg base (L2.CX P w) 11 c.CP "down" ["self", "many"] (sp_down c)) (C_left : MCal P w K mg base (L2.CX P w) 12 c.CP "left" ["self", "many"] (sp_left c)) (C_right : MCal P w K mg base (L2.CX P w) 12 c.CP "right" ["self", "many"] (sp_right c)) (C_scroll : MCal P w K mg base (L2.CX P w) 10 c.CP "scroll" ["self", "back", "many"] (sp_scroll c)) {f : Addr} {cdv : Value} {A : Around} {outer : List Env} {s : Shared} {H : Hp} {E : XK} (hr : Room 12 (A.deeper (envOfC "moved" (defScope s_moved) s.heap.objs.size f cdv))) :
    PSs (cxOf (L2.CX P w) P w K mg base N_moved "moved" (defScope s_moved) f cdv A outer s H E) (defBody s_moved) (t_moved K c E) := by
  exact (pss_cons (ps_if (pt_cmpR op_eqI (pv 1) pe_int (nomark _)) (pss_one (ps_ret (pe_mcal (pv 0) T.clsP C_goto hr (by decide) (passes_call (takes_of rfl rfl rfl rfl) (fun _ _ _ _ h => h)) (pa_cons (pe_ix ix_list (pv 2) pe_int (fun _ _ => rfl)) (pa_cons (pe_ix ix_list (pv 2) pe_int (fun _ _ => rfl)) pa_nil))))) pss_nil)
      (pss_cons (ps_if (pt_cmpR op_eqI (pv 1) pe_int (nomark _)) (pss_one (ps_ret (pe_mcal (pv 0) T.clsP C_up hr (by decide) (passes_call (takes_of rfl rfl rfl rfl) (fun _ _ _ _ h => h)) (pa_cons (pe_ix ix_list (pv 2) pe_int (fun _ _ => rfl)) pa_nil)))) pss_nil)
      (pss_cons (ps_if (pt_cmpR op_eqI (pv 1) pe_int (nomark _)) (pss_one (ps_ret (pe_mcal (pv 0) T.clsP C_down hr (by decide) (passes_call (takes_of rfl rfl rfl rfl) (fun _ _ _ _ h => h)) (pa_cons (pe_ix ix_list (pv 2) pe_int (fun _ _ => rfl)) pa_nil)))) pss_nil)
      (pss_cons (ps_if (pt_cmpR op_eqI (pv 1) pe_int (nomark _)) (pss_one (ps_ret (pe_mcal (pv 0) T.clsP C_left hr (by decide) (passes_call (takes_of rfl rfl rfl rfl) (fun _ _ _ _ h => h)) (pa_cons (pe_ix ix_list (pv 2) pe_int (fun _ _ => rfl)) pa_nil)))) pss_nil)
      (pss_cons (ps_if (pt_cmpR op_eqI (pv 1) pe_int (nomark _)) (pss_one (ps_ret (pe_mcal (pv 0) T.clsP C_right hr (by decide) (passes_call (takes_of rfl rfl rfl rfl) (fun _ _ _ _ h => h)) (pa_cons (pe_ix ix_list (pv 2) pe_int (fun _ _ => rfl)) pa_nil)))) pss_nil)
      (pss_one (ps_ret (pe_mcal (pv 0) T.clsP C_scroll hr (by decide) (passes_call (takes_of rfl rfl rfl rfl) (fun _ _ _ _ h => h)) (pa_cons (pe_ix ix_list (pv 2) pe_int (fun _ _ => rfl)) (pa_cons (pe_ix ix_list (pv 2) pe_int (fun _ _ => rfl)) pa_nil))))))))))
theorem ok_moved (D : DefAt K mg "moved" s_moved P_moved) (T : Txt K mg c) (C_goto : MCal P w K mg base (L2.CX P w) 12 c.CP "goto" ["self", "line", "place"] (sp_goto c)) (C_up : MCal P w K mg base (L2.CX P w) 11 c.CP "up" ["self", "many"] (sp_up c)) (C_down : MCal P w K mg base (L2.CX P w) 11 c.CP "down" ["self", "many"] (sp_down c)) (C_left : MCal P w K mg base (L2.CX P w) 12 c.CP "left" ["self", "many"] (sp_left c)) (C_right : MCal P w K mg base (L2.CX P w) 12 c.CP "right" ["self", "many"] (sp_right c)) (C_scroll : MCal P w K mg base (L2.CX P w) 10 c.CP "scroll" ["self", "back", "many"] (sp_scroll c)) (pure : ∀ vs H Q E, sp_moved c vs H Q E → t_moved K c E { nx := fun _ H' => Q .non H', rt := Q } (start N_moved vs) H) : Cal P w K mg base (L2.CX P w) 13 "moved" P_moved (sp_moved c) := by
  obtain ⟨f, fd, F, m, b⟩ := D.ex
  refine ⟨⟨f, fd, ?_, m, F.kp, b⟩⟩
  refine F.okX sc_moved (fun vs H Q E h => ?_) (fun cdv A outer s H vs Q E hr h => ⟨t_moved K c E, b_moved T C_goto C_up C_down C_left C_right C_scroll hr, pure vs H Q E h⟩)
  obtain ⟨_, _, _, _, _, _, _, rfl, _⟩ := h
  rfl
abbrev s_looked : Stmt := topS 51
abbrev N_looked : List Str := ["page", "call", "n"]
abbrev P_looked : List Str := ["page", "call", "n"]
theorem sc_looked : FnScope N_looked P_looked (defScope s_looked) := ⟨rfl, rfl, rfl, by decide +kernel, rfl, by decide +kernel, by decide +kernel⟩
def t_looked (K : PySem.W.Frag) (c : Cc) (E : XK) : TS :=
    (tSeq (tIfS (tTest (tOp rEqI (tVar 1) (tC (.int 12)))) (tRet (tMeth c.CP "told" (sp_told c) [] E0 (tVar 0) tNil)) tNext)
    (tSeq (tIfS (tTest (tOp rEqI (tVar 1) (tC (.int 13)))) (tRet (tMeth c.CP "shows" (sp_shows c) [] E0 (tVar 0) tNil)) tNext)
    (tSeq (tIfS (tTest (tOp rEqI (tVar 1) (tC (.int 14)))) (tRet (tMeth c.CP "rows_told" (sp_rows_told c) [] E (tVar 0) (tCons (tOp (rIxL K) (tVar 2) (tC (.int 0))) tNil))) tNext)
    (tSeq (tIfS (tTest (tOp rEqI (tVar 1) (tC (.int 15)))) (tRet (tMeth c.CP "at" (sp_at c) [] E (tVar 0) (tCons (tOp (rIxL K) (tVar 2) (tC (.int 0))) (tCons (tOp (rIxL K) (tVar 2) (tC (.int 1))) tNil)))) tNext)
    (tRet (tMeth c.CP "where" (sp_where c) [] E (tVar 0) (tCons (tOp (rIxL K) (tVar 2) (tC (.int 0))) (tCons (tOp (rIxL K) (tVar 2) (tC (.int 1))) tNil))))))))
theorem b_looked (T : Txt K mg c) (C_told : MCal P w K mg base CX0 9 c.CP "told" ["self"] (sp_told c)) (C_shows : MCal P w K mg base CX0 7 c.CP "shows" ["self"] (sp_shows c)) (C_rows_told : MCal P w K mg base (L2.CX P w) 6 c.CP "rows_told" ["self", "line"] (sp_rows_told c)) (C_at : MCal P w K mg base (L2.CX P w) 7 c.CP "at" ["self", "number", "column"] (sp_at c)) (C_where : MCal P w K mg base (L2.CX P w) 8 c.CP "where" ["self", "line", "place"] (sp_where c)) {f : Addr} {cdv : Value} {A : Around} {outer : List Env} {s : Shared} {H : Hp} {E : XK} (hr : Room 9 (A.deeper (envOfC "looked" (defScope s_looked) s.heap.objs.size f cdv))) :
    PSs (cxOf (L2.CX P w) P w K mg base N_looked "looked" (defScope s_looked) f cdv A outer s H E) (defBody s_looked) (t_looked K c E) := by
  exact (pss_cons (ps_if (pt_cmpR op_eqI (pv 1) pe_int (nomark _)) (pss_one (ps_ret (pe_mcal0 (pv 0) T.clsP C_told hr (by decide) pass0))) pss_nil)
      (pss_cons (ps_if (pt_cmpR op_eqI (pv 1) pe_int (nomark _)) (pss_one (ps_ret (pe_mcal0 (pv 0) T.clsP C_shows hr (by decide) pass0))) pss_nil)
      (pss_cons (ps_if (pt_cmpR op_eqI (pv 1) pe_int (nomark _)) (pss_one (ps_ret (pe_mcal (pv 0) T.clsP C_rows_told hr (by decide) (passes_call (takes_of rfl rfl rfl rfl) (fun _ _ _ _ h => h)) (pa_cons (pe_ix ix_list (pv 2) pe_int (fun _ _ => rfl)) pa_nil)))) pss_nil)
      (pss_cons (ps_if (pt_cmpR op_eqI (pv 1) pe_int (nomark _)) (pss_one (ps_ret (pe_mcal (pv 0) T.clsP C_at hr (by decide) (passes_call (takes_of rfl rfl rfl rfl) (fun _ _ _ _ h => h)) (pa_cons (pe_ix ix_list (pv 2) pe_int (fun _ _ => rfl)) (pa_cons (pe_ix ix_list (pv 2) pe_int (fun _ _ => rfl)) pa_nil))))) pss_nil)
      (pss_one (ps_ret (pe_mcal (pv 0) T.clsP C_where hr (by decide) (passes_call (takes_of rfl rfl rfl rfl) (fun _ _ _ _ h => h)) (pa_cons (pe_ix ix_list (pv 2) pe_int (fun _ _ => rfl)) (pa_cons (pe_ix ix_list (pv 2) pe_int (fun _ _ => rfl)) pa_nil)))))))))
theorem ok_looked (D : DefAt K mg "looked" s_looked P_looked) (T : Txt K mg c) (C_told : MCal P w K mg base CX0 9 c.CP "told" ["self"] (sp_told c)) (C_shows : MCal P w K mg base CX0 7 c.CP "shows" ["self"] (sp_shows c)) (C_rows_told : MCal P w K mg base (L2.CX P w) 6 c.CP "rows_told" ["self", "line"] (sp_rows_told c)) (C_at : MCal P w K mg base (L2.CX P w) 7 c.CP "at" ["self", "number", "column"] (sp_at c)) (C_where : MCal P w K mg base (L2.CX P w) 8 c.CP "where" ["self", "line", "place"] (sp_where c)) (pure : ∀ vs H Q E, sp_looked c vs H Q E → t_looked K c E { nx := fun _ H' => Q .non H', rt := Q } (start N_looked vs) H) : Cal P w K mg base (L2.CX P w) 10 "looked" P_looked (sp_looked c) := by
  obtain ⟨f, fd, F, m, b⟩ := D.ex
  refine ⟨⟨f, fd, ?_, m, F.kp, b⟩⟩
  refine F.okX sc_looked (fun vs H Q E h => ?_) (fun cdv A outer s H vs Q E hr h => ⟨t_looked K c E, b_looked T C_told C_shows C_rows_told C_at C_where hr, pure vs H Q E h⟩)
  obtain ⟨_, _, _, _, _, _, _, rfl, _⟩ := h
  rfl
abbrev s_asked : Stmt := topS 52
abbrev N_asked : List Str := ["page", "call", "n"]
abbrev P_asked : List Str := ["page", "call", "n"]
theorem sc_asked : FnScope N_asked P_asked (defScope s_asked) := ⟨rfl, rfl, rfl, by decide +kernel, rfl, by decide +kernel, by decide +kernel⟩
def t_asked (K : PySem.W.Frag) (c : Cc) (E : XK) : TS :=
    (tSeq (tIfS (tTest (tOp rLeI (tVar 1) (tC (.int 5)))) (tRet (tCall (sp_changed c) [] E (tCons (tVar 0) (tCons (tVar 1) (tCons (tVar 2) tNil))))) tNext)
    (tSeq (tIfS (tTest (tOp rLeI (tVar 1) (tC (.int 11)))) (tRet (tCall (sp_moved c) [] E (tCons (tVar 0) (tCons (tVar 1) (tCons (tVar 2) tNil))))) tNext)
    (tRet (tCall (sp_looked c) [] E (tCons (tVar 0) (tCons (tVar 1) (tCons (tVar 2) tNil)))))))
theorem b_asked (T : Txt K mg c) (C_changed : Cal P w K mg base (L2.CX P w) 13 "changed" ["page", "call", "n"] (sp_changed c)) (C_moved : Cal P w K mg base (L2.CX P w) 13 "moved" ["page", "call", "n"] (sp_moved c)) (C_looked : Cal P w K mg base (L2.CX P w) 10 "looked" ["page", "call", "n"] (sp_looked c)) {f : Addr} {cdv : Value} {A : Around} {outer : List Env} {s : Shared} {H : Hp} {E : XK} (hr : Room 13 (A.deeper (envOfC "asked" (defScope s_asked) s.heap.objs.size f cdv))) :
    PSs (cxOf (L2.CX P w) P w K mg base N_asked "asked" (defScope s_asked) f cdv A outer s H E) (defBody s_asked) (t_asked K c E) := by
  exact (pss_cons (ps_if (pt_cmpR op_le (pv 1) pe_int (nomark _)) (pss_one (ps_ret (pe_cal C_changed hr (by decide) (passes_call (takes_of rfl rfl rfl rfl) (fun _ _ _ _ h => h)) (pa_cons (pv 0) (pa_cons (pv 1) (pa_cons (pv 2) pa_nil)))))) pss_nil)
      (pss_cons (ps_if (pt_cmpR op_le (pv 1) pe_int (nomark _)) (pss_one (ps_ret (pe_cal C_moved hr (by decide) (passes_call (takes_of rfl rfl rfl rfl) (fun _ _ _ _ h => h)) (pa_cons (pv 0) (pa_cons (pv 1) (pa_cons (pv 2) pa_nil)))))) pss_nil)
      (pss_one (ps_ret (pe_cal C_looked hr (by decide) (passes_call (takes_of rfl rfl rfl rfl) (fun _ _ _ _ h => h)) (pa_cons (pv 0) (pa_cons (pv 1) (pa_cons (pv 2) pa_nil))))))))
theorem ok_asked (D : DefAt K mg "asked" s_asked P_asked) (T : Txt K mg c) (C_changed : Cal P w K mg base (L2.CX P w) 13 "changed" ["page", "call", "n"] (sp_changed c)) (C_moved : Cal P w K mg base (L2.CX P w) 13 "moved" ["page", "call", "n"] (sp_moved c)) (C_looked : Cal P w K mg base (L2.CX P w) 10 "looked" ["page", "call", "n"] (sp_looked c)) (pure : ∀ vs H Q E, sp_asked c vs H Q E → t_asked K c E { nx := fun _ H' => Q .non H', rt := Q } (start N_asked vs) H) : Cal P w K mg base (L2.CX P w) 14 "asked" P_asked (sp_asked c) := by
  obtain ⟨f, fd, F, m, b⟩ := D.ex
  refine ⟨⟨f, fd, ?_, m, F.kp, b⟩⟩
  refine F.okX sc_asked (fun vs H Q E h => ?_) (fun cdv A outer s H vs Q E hr h => ⟨t_asked K c E, b_asked T C_changed C_moved C_looked hr, pure vs H Q E h⟩)
  obtain ⟨_, _, _, _, _, _, _, rfl, _⟩ := h
  rfl
abbrev s_answered : Stmt := topS 53
abbrev N_answered : List Str := ["page", "numbers", "e", "found"]
abbrev P_answered : List Str := ["page", "numbers"]
theorem sc_answered : FnScope N_answered P_answered (defScope s_answered) := ⟨rfl, rfl, rfl, by decide +kernel, rfl, by decide +kernel, by decide +kernel⟩
abbrev s_answers : Stmt := topS 54
abbrev N_answers : List Str := ["calls", "page", "found", "at", "end", "told"]
abbrev P_answers : List Str := ["calls"]
theorem sc_answers : FnScope N_answers P_answers (defScope s_answers) := ⟨rfl, rfl, rfl, by decide +kernel, rfl, by decide +kernel, by decide +kernel⟩
def t_answers (K : PySem.W.Frag) (c : Cc) (E : XK) : TS :=
    (tSeq (tAsg (tMake c.CP (sp_Page_init c) [] E0 tNil) (gName 1))
    (tSeq (tAsg (tLst tNil) (gName 2))
    (tSeq (tAsg (tC (.int 0)) (gName 3))
    (tSeq (tWhile (tTest (tOp rLtI (tVar 3) (tCB (rLenS K) (tCons (tVar 0) tNil)))) (tSeq (tAsg (tOp rAddI (tOp rAddI (tVar 3) (tC (.int 2))) (tOp (rIxL K) (tVar 0) (tOp rAddI (tVar 3) (tC (.int 1))))) (gName 4))
    (tSeq (tAsg (tCall (sp_answered c) [] E0 (tCons (tVar 1) (tCons (tSl (rSlL K) (tVar 0) (tPart (tOp rAddI (tVar 3) (tC (.int 2)))) (tPart (tVar 4))) tNil))) (gName 5))
    (tSeq (tDrop (tBM K "list" rAppend (tVar 2) (tCons (tCB (rLenS K) (tCons (tVar 5) tNil)) tNil)))
    (tSeq (tDrop (tBM K "list" rExtend (tVar 2) (tCons (tVar 5) tNil)))
    (tAsg (tVar 4) (gName 3)))))))
    (tRet (tVar 2))))))
theorem b_answers (T : Txt K mg c) (C_Page_init : KCal P w K mg base CX0 3 c.CP "Page" ["self"] (sp_Page_init c)) (C_answered : Cal P w K mg base CX0 15 "answered" ["page", "numbers"] (sp_answered c)) {f : Addr} {cdv : Value} {A : Around} {outer : List Env} {s : Shared} {H : Hp} {E : XK} (hr : Room 15 (A.deeper (envOfC "answers" (defScope s_answers) s.heap.objs.size f cdv))) :
    PSs (cxOf CX0 P w K mg base N_answers "answers" (defScope s_answers) f cdv A outer s H E).nox (defBody s_answers) (t_answers K c E) := by
  exact (pss_cons (ps_set (i := 1) sc_answers.nd rfl (Or.inl rfl) (pe_kcal0 C_Page_init hr (by decide) pass0))
      (pss_cons (ps_set (i := 2) sc_answers.nd rfl (Or.inl rfl) (pe_lst pa_nil))
      (pss_cons (ps_set (i := 3) sc_answers.nd rfl (Or.inl rfl) pe_int)
      (pss_cons (ps_while PassesOwn.never (pt_cmpR op_lt (pv 3) (pe_len T.n_len (pv 0)) (nomark _)) (pss_cons (ps_set (i := 4) sc_answers.nd rfl (Or.inl rfl) (pe_op op_add (pe_op op_add (pv 3) pe_int) (pe_ix ix_list (pv 0) (pe_op op_add (pv 3) pe_int) (fun _ _ => rfl))))
      (pss_cons (ps_set (i := 5) sc_answers.nd rfl (Or.inl rfl) (pe_cal C_answered hr (by decide) pass0 (pa_cons (pv 1) (pa_cons (pe_slice sl_list (pv 0) (po_some (pe_op op_add (pv 3) pe_int)) (po_some (pv 4))) pa_nil))))
      (pss_cons (ps_expr (pe_append (pv 2) (pe_len T.n_len (pv 5))))
      (pss_cons (ps_expr (pe_extend1 (pv 2) (pv 5)))
      (pss_one (ps_set (i := 3) sc_answers.nd rfl (Or.inl rfl) (pv 4))))))))
      (pss_one (ps_ret (pv 2)))))))
end
end Fw
/-! Short words for the readings. -/
namespace Fw
open PySem PySem.Spec PyProof.Rows L2 Evl
section
variable {K : PySem.W.Frag} {mg : Str → Option Value} {c : Cc} {σ : L2.St} {H H' : Hp} {ta tb te : TE} {x y z v : V}

/-! ### items of tuples and lists -/
theorem at0 {α : Type} {x : α} {r : List α} : atI (x :: r) (0 : Int) = some x := atI_nat (j := 0) rfl
theorem at1 {α : Type} {x y : α} {r : List α} : atI (x :: y :: r) (1 : Int) = some y := atI_nat (j := 1) rfl
theorem at2 {α : Type} {x y z : α} {r : List α} : atI (x :: y :: z :: r) (2 : Int) = some z := atI_nat (j := 2) rfl
theorem ev_t0 {q : Addr} {r : List V} (h : Ev ta σ H (.ref q)) (hq : H q = some (.tup (x :: r))) : Ev (tOp (rIxT K) ta (tC (.int 0))) σ H x := ev_op h ev_c (rv_ixT (st_of hq) at0)
theorem ev_t1 {q : Addr} {r : List V} (h : Ev ta σ H (.ref q)) (hq : H q = some (.tup (y :: x :: r))) : Ev (tOp (rIxT K) ta (tC (.int 1))) σ H x := ev_op h ev_c (rv_ixT (st_of hq) at1)
theorem ev_t2 {q : Addr} {r : List V} (h : Ev ta σ H (.ref q)) (hq : H q = some (.tup (y :: z :: x :: r))) : Ev (tOp (rIxT K) ta (tC (.int 2))) σ H x := ev_op h ev_c (rv_ixT (st_of hq) at2)
theorem ev_n0 {q : Addr} {b : Nat} {r : List Nat} (h : Ev ta σ H (.ref q)) (hq : H q = some (.lst (nums (b :: r)))) : Ev (tOp (rIxL K) ta (tC (.int 0))) σ H (nV b) := ev_op h ev_c (rv_ixL (sq_of hq) at0)
theorem ev_ixN {q : Addr} {w : List Nat} {i b : Nat} (h : Ev ta σ H (.ref q)) (hi : Ev tb σ H (nV i)) (hq : H q = some (.lst (nums w))) (e : w[i]? = some b) : Ev (tOp (rIxL K) ta tb) σ H (nV b) := ev_op h hi (rv_ixL (sq_of hq) (atI_nat (nums_get e)))
theorem ev_ixL {q : Addr} {xs : List V} {i : Nat} (h : Ev ta σ H (.ref q)) (hi : Ev tb σ H (nV i)) (hq : H q = some (.lst xs)) (e : xs[i]? = some x) : Ev (tOp (rIxL K) ta tb) σ H x := ev_op h hi (rv_ixL (sq_of hq) (atI_nat e))

/-! ### whole numbers that are not negative -/
theorem ev_addN {a b : Nat} (ha : Ev ta σ H (nV a)) (hb : Ev tb σ H (nV b)) : Ev (tOp rAddI ta tb) σ H (nV (a + b)) := ev_is (ev_op ha hb rv_I0) (by simp [nV])
theorem ev_ltN {a b : Nat} (ha : Ev ta σ H (nV a)) (hb : Ev tb σ H (nV b)) : Ev (tOp rLtI ta tb) σ H (.bl (decide (a < b))) := ev_is (ev_op ha hb rv_I0) (by simp)
theorem ev_leN {a b : Nat} (ha : Ev ta σ H (nV a)) (hb : Ev tb σ H (nV b)) : Ev (tOp rLeI ta tb) σ H (.bl (decide (a ≤ b))) := ev_is (ev_op ha hb rv_I0) (by simp)
theorem ev_gtN {a b : Nat} (ha : Ev ta σ H (nV a)) (hb : Ev tb σ H (nV b)) : Ev (tOp rGtI ta tb) σ H (.bl (decide (b < a))) := ev_is (ev_op ha hb rv_I0) (by simp)
theorem ev_geN {a b : Nat} (ha : Ev ta σ H (nV a)) (hb : Ev tb σ H (nV b)) : Ev (tOp rGeI ta tb) σ H (.bl (decide (b ≤ a))) := ev_is (ev_op ha hb rv_I0) (by simp)
theorem ev_eqN {a b : Nat} (ha : Ev ta σ H (nV a)) (hb : Ev tb σ H (nV b)) : Ev (tOp rEqI ta tb) σ H (.bl (decide (a = b))) := ev_is (ev_op ha hb rv_I0) (by simp [Int.ofNat_inj])
theorem ev_subN {a b : Nat} (ha : Ev ta σ H (nV a)) (hb : Ev tb σ H (nV b)) (h : b ≤ a) : Ev (tOp rSubI ta tb) σ H (nV (a - b)) := ev_is (ev_op ha hb rv_I0) (by simp [nV]; omega)
theorem ev_subI {a b : Int} (ha : Ev ta σ H (.int a)) (hb : Ev tb σ H (.int b)) : Ev (tOp rSubI ta tb) σ H (.int (a - b)) := ev_op ha hb rv_I0
theorem ev_addI {a b : Int} (ha : Ev ta σ H (.int a)) (hb : Ev tb σ H (.int b)) : Ev (tOp rAddI ta tb) σ H (.int (a + b)) := ev_op ha hb rv_I0
theorem ev_num {n : Nat} {i : Int} (e : i = (n : Int)) : Ev (tC (.int i)) σ H (nV n) := by
  subst e
  exact ev_c

/-! ### fields -/
theorem lkN {k g : Str} {v : V} {r : List (Str × V)} (h : (k == g) = false) : List.lookup k ((g, v) :: r) = List.lookup k r := by
  simp only [List.lookup, h]
theorem lkY {k : Str} {v : V} {r : List (Str × V)} : List.lookup k ((k, v) :: r) = some v := by
  simp [List.lookup]
theorem ptN {f g : Str} {v x : V} {r : List (Str × V)} (h : ¬ g = f) : putF f v ((g, x) :: r) = (g, x) :: putF f v r := if_neg h
theorem ptY {f : Str} {v x : V} {r : List (Str × V)} : putF f v ((f, x) :: r) = (f, v) :: r := if_pos rfl
theorem lf_wide {w t m h x : Nat} : (lF w t m h x).lookup ("wide" : Str) = some (nV w) := lkY
theorem lf_tab {w t m h x : Nat} : (lF w t m h x).lookup ("tab" : Str) = some (nV t) := (lkN (by decide +kernel)).trans lkY
theorem lf_more {w t m h x : Nat} : (lF w t m h x).lookup ("more" : Str) = some (nV m) := (lkN (by decide +kernel)).trans ((lkN (by decide +kernel)).trans lkY)
theorem lf_hang {w t m h x : Nat} : (lF w t m h x).lookup ("hang" : Str) = some (nV h) := (lkN (by decide +kernel)).trans ((lkN (by decide +kernel)).trans ((lkN (by decide +kernel)).trans lkY))
theorem lf_words {w t m h x : Nat} : (lF w t m h x).lookup ("words" : Str) = some (nV x) := (lkN (by decide +kernel)).trans ((lkN (by decide +kernel)).trans ((lkN (by decide +kernel)).trans ((lkN (by decide +kernel)).trans lkY)))
section
variable {p : Addr} {k : Ue07.Look}
theorem ev_wide (T : Txt K mg c) (ha : Ev ta σ H (.ref p)) (h : LookAt c H p k) : Ev (tFld K ta "wide") σ H (nV k.wide) := by
  obtain ⟨dx, h⟩ := h
  exact ev_fld ha h T.clsL T.l_wide lf_wide
theorem ev_tab (T : Txt K mg c) (ha : Ev ta σ H (.ref p)) (h : LookAt c H p k) : Ev (tFld K ta "tab") σ H (nV k.tab) := by
  obtain ⟨dx, h⟩ := h
  exact ev_fld ha h T.clsL T.l_tab lf_tab
theorem ev_more (T : Txt K mg c) (ha : Ev ta σ H (.ref p)) (h : LookAt c H p k) : Ev (tFld K ta "more") σ H (nV k.more) := by
  obtain ⟨dx, h⟩ := h
  exact ev_fld ha h T.clsL T.l_more lf_more
theorem ev_hang (T : Txt K mg c) (ha : Ev ta σ H (.ref p)) (h : LookAt c H p k) : Ev (tFld K ta "hang") σ H (nV k.hang.toNat) := by
  obtain ⟨dx, h⟩ := h
  exact ev_fld ha h T.clsL T.l_hang lf_hang
theorem ev_words (T : Txt K mg c) (ha : Ev ta σ H (.ref p)) (h : LookAt c H p k) : Ev (tFld K ta "words") σ H (nV k.words.toNat) := by
  obtain ⟨dx, h⟩ := h
  exact ev_fld ha h T.clsL T.l_words lf_words
theorem LookAt.mono (e : Ex H H') (h : LookAt c H p k) : LookAt c H' p k := by
  obtain ⟨dx, h⟩ := h
  exact ⟨dx, e p _ h⟩
end

/-! ### more statements -/
section
variable {D : Ends} {tz tu : TS} {S : V → Hp → Prop}
theorem q_fld {a C dx : Addr} {fs : List (Str × V)} {f : Str} (ha : Ev ta σ H (.ref a)) (hv : Ev te σ H v) (h : H a = some (.ins C dx fs)) (cl : Cls K C) (n : NoAttr K C f) (hl : fs.length < 1000) (k : ∀ H1, Ex H H1 → tz D σ (upd H1 a (.ins C dx (putF f v fs)))) : tSeq (sFld K ta te f) tz D σ H :=
  s_fld (D := { D with nx := tz D }) ha hv h cl n hl k
theorem ev_modN {a b : Nat} (ha : Ev ta σ H (nV a)) (hb : Ev tb σ H (nV b)) (h : 0 < b) : Ev (tOp rModI ta tb) σ H (nV (a % b)) := ev_is (ev_op ha hb (rv_I (by omega))) (by simp [nV])
theorem ev_divN {a b : Nat} (ha : Ev ta σ H (nV a)) (hb : Ev tb σ H (nV b)) (h : 0 < b) (h2 : b < 1000) : Ev (tOp rDivI ta tb) σ H (nV (a / b)) := ev_is (ev_op ha hb (rv_I ⟨by omega, by omega⟩)) (by simp [nV])
theorem en_lstS {t : TA} {SA : List V → Hp → Prop} (h : EvAS t σ H SA) (hl : ∀ vs H1, SA vs H1 → vs.length ≤ 100000) (st : ∀ vs H1 H2, Ex H1 H2 → SA vs H1 → SA vs H2) : EvN (tLst t) σ H (fun q H1 => ∃ vs, H1 q = some (.lst vs) ∧ SA vs H1) := fun H1 e Q k =>
  h H1 e _ fun vs H2 e2 s => ⟨sz_of (hl vs H2 s), fun p hp => k p _ (fresh_back e2 hp) (e2.trans (Ex.new hp)) ⟨vs, upd_same, st vs _ _ (Ex.new hp) s⟩⟩
theorem q_ret {T : TS} (h : tRet te D σ H) : tSeq (tRet te) T D σ H := h

/-! ### enumerate -/
theorem for_enum {a : Addr} {xs : List V} {g : TG} {tb : TS} {σ : L2.St} {H : Hp} (Pv : Nat → L2.St → Hp → Prop) (h0 : Pv 0 σ H) (hl : ∀ i σ H, i ≤ xs.length → Pv i σ H → SqL K H a xs)
    (hs : ∀ (i : Nat) x σ H (T : Addr), xs[i]? = some x → Pv i σ H → H T = none → g (.ref T) σ (upd H T (.tup [nV i, x])) fun σ2 H2 => tb { D with nx := Pv (i + 1), ct := Pv (i + 1), bk := D.nx } σ2 H2) (hd : ∀ σ H, Pv xs.length σ H → D.nx σ H) :
    ∃ W : Nat → Nat → L2.St → Hp → Prop, (∃ m, W 0 m σ H) ∧ ∀ i m σ H, W i m σ H →
      ((Ite K a).stop i H ∧ D.nx σ H) ∨ ((Ite K a).go i H ∧ ∃ N : L2.St → Hp → Prop, (∀ σ' H', N σ' H' → ∃ m', m' < m ∧ W (i + 1) m' σ' H') ∧ ∀ x H', (Ite K a).yld i H x H' → g x σ H' fun σ2 H2 => tb { D with nx := N, ct := N, bk := D.nx } σ2 H2) := by
  refine ⟨fun i m σ H => m = xs.length - i ∧ i ≤ xs.length ∧ Pv i σ H, ⟨xs.length, by simp, Nat.zero_le _, h0⟩, ?_⟩
  rintro i m σ H ⟨hm, hi, p⟩
  have q := hl i σ H hi p
  by_cases hlt : i < xs.length
  · refine .inr ⟨⟨xs, xs[i], q, by simp [hlt]⟩, Pv (i + 1), fun σ' H' p' => ⟨xs.length - (i + 1), by omega, rfl, hlt, p'⟩, fun v H' y => ?_⟩
    obtain ⟨T, x, rfl, hT, rfl, hx⟩ := y
    exact hs i x σ H T (hx xs q) p hT
  · have e : i = xs.length := by omega
    subst e
    exact .inl ⟨⟨xs, q, Nat.le_refl _⟩, hd σ H p⟩
/-- a pair into two names -/
theorem g_two {i j : Nat} {T : Addr} {x y : V} {Q : L2.St → Hp → Prop} (hT : H T = some (.tup [x, y])) (h : Q ((σ.set i (some x)).set j (some y)) H) : gTup K 2 (gCons (gName i) (gCons (gName j) gNil)) (.ref T) σ H Q :=
  ⟨T, [x, y], rfl, st_of hT, rfl, x, [y], rfl, y, [], rfl, rfl, h⟩
end
end
end Fw
/-! The page in the heap: how it is read, how it changes. -/
namespace Fw
open PySem PySem.Spec PyProof.Rows L2 Evl
section
variable {K : PySem.W.Frag} {mg : Str → Option Value} {c : Cc} {σ : L2.St} {H H' H1 : Hp} {ta tb te : TE} {x y z v : V} {p pf pl ps dx : Addr} {g g' : Ue07.St}

theorem hide_some {D b : Addr} {o : HO} (h : hide c H D b = some o) : H b = some o ∧ b ≠ D ∧ c.FD ≠ some b := by
  unfold hide at h
  by_cases hb : b = D ∨ c.FD = some b
  · rw [if_pos hb] at h
    cases h
  · rw [if_neg hb] at h
    exact ⟨h, fun z => hb (.inl z), fun z => hb (.inr z)⟩
theorem hide_at {D b : Addr} {o : HO} (h : H b = some o) (ne : b ≠ D) (nf : c.FD ≠ some b) : hide c H D b = some o := by
  unfold hide
  rw [if_neg (fun z => z.elim ne nf)]
  exact h
theorem hid_some {b : Addr} {o : HO} (h : hid c H b = some o) : H b = some o ∧ c.FD ≠ some b := by
  unfold hid at h
  by_cases hb : c.FD = some b
  · rw [if_pos hb] at h
    cases h
  · rw [if_neg hb] at h
    exact ⟨h, hb⟩
theorem hid_at {b : Addr} {o : HO} (h : H b = some o) (nf : c.FD ≠ some b) : hid c H b = some o := by
  unfold hid
  rw [if_neg nf]
  exact h
theorem hide_ex {D : Addr} (e : Ex H H') : Ex (hide c H D) (hide c H' D) := fun b o h => by
  obtain ⟨h1, h2, h3⟩ := hide_some h
  exact hide_at (e b o h1) h2 h3
theorem hid_ex (e : Ex H H') : Ex (hid c H) (hid c H') := fun b o h => by
  obtain ⟨h1, h3⟩ := hid_some h
  exact hid_at (e b o h1) h3
theorem hide_le {D : Addr} : Ex (hide c H D) H := fun b o h => (hide_some h).1
theorem hid_le : Ex (hid c H) H := fun b o h => (hid_some h).1
theorem hide_hid {D : Addr} : Ex (hide c H D) (hid c H) := fun b o h => by
  obtain ⟨h1, h2, h3⟩ := hide_some h
  exact hid_at h1 h3
theorem hid_hide {D : Addr} (n : H D = none) : Ex (hid c H) (hide c H D) := fun b o h => by
  obtain ⟨h1, h3⟩ := hid_some h
  exact hide_at h1 (ne_of_none h1 n) h3
theorem hide_upd {D : Addr} {o : HO} : Ex (hide c H D) (hide c (upd H D o) D) := fun b u h => by
  obtain ⟨h1, h2, h3⟩ := hide_some h
  exact hide_at (by rw [upd_ne h2]; exact h1) h2 h3
theorem Fk.mono (e : Ex H H') (h : Fk c H) : Fk c H' := fun D hD => by
  obtain ⟨o, ho⟩ := h D hD
  exact ⟨o, e _ _ ho⟩
theorem Fk.ne {b : Addr} (h : Fk c H) (n : H b = none) : c.FD ≠ some b := fun z => by
  obtain ⟨o, ho⟩ := h b z
  rw [n] at ho
  cases ho

structure PageIn (c : Cc) (H : Hp) (p pf dx pl ps : Addr) (g : Ue07.St) : Prop where
  obj : H p = some (.ins c.CP dx (pF pl ps pf g))
  look : LookAt c H ps g.look
  lines : ListAt LineR (hide c H pf) pl g.lines
  folds : ListAt FoldR H pf g.folds
theorem PageAt.get (h : PageAt c H p pf g) : ∃ dx pl ps, PageIn c H p pf dx pl ps g := by
  obtain ⟨dx, pl, ps, h1, h2, h3, h4⟩ := h
  exact ⟨dx, pl, ps, h1, h2, h3, h4⟩
theorem PageIn.at_ (h : PageIn c H p pf dx pl ps g) : PageAt c H p pf g := ⟨dx, pl, ps, h.obj, h.look, h.lines, h.folds⟩
theorem PageIn.mono (h : PageIn c H p pf dx pl ps g) (e : Ex H H') : PageIn c H' p pf dx pl ps g := ⟨e _ _ h.obj, h.look.mono e, h.lines.mono LineR.steady (hide_ex e), h.folds.mono FoldR.steady e⟩
theorem PageAt.mono (h : PageAt c H p pf g) (e : Ex H H') : PageAt c H' p pf g := by
  obtain ⟨dx, pl, ps, i⟩ := h.get
  exact (i.mono e).at_
theorem PageIn.line (h : PageIn c H p pf dx pl ps g) {n : Nat} (hn : n < g.lines.length) : ∃ xs q, H pl = some (.lst xs) ∧ xs[n]? = some (.ref q) ∧ H q = some (.lst (nums (Ue07.lineAt g n))) := by
  obtain ⟨xs, h1, it⟩ := h.lines
  obtain ⟨x, hx, q, rfl, hq⟩ := it.get (Fv.lineAt_get hn)
  exact ⟨xs, q, hide_le _ _ h1, hx, hide_le _ _ hq⟩
/-- all else stands when an instance changes -/
theorem upd_ins {C C' d d' : Addr} {fs fs' : List (Str × V)} {b : Addr} {o : HO} (hp : H p = some (.ins C d fs)) (hb : H b = some o) (ne : o ≠ .ins C d fs) : upd H p (.ins C' d' fs') b = some o := by
  rw [upd_ne]
  · exact hb
  · intro z
    rw [z, hp] at hb
    exact ne (Option.some.inj hb).symm
theorem LineR.ins {C C' d d' : Addr} {fs fs' : List (Str × V)} {D : Addr} {w : List Nat} (hp : H p = some (.ins C d fs)) (h : LineR (hide c H D) x w) : LineR (hide c (upd H p (.ins C' d' fs')) D) x w := by
  obtain ⟨q, rfl, hq⟩ := h
  obtain ⟨h1, h2, h3⟩ := hide_some hq
  exact ⟨q, rfl, hide_at (upd_ins hp h1 (by intro z; cases z)) h2 h3⟩
theorem lines_ins {C C' d d' : Addr} {fs fs' : List (Str × V)} {D q : Addr} {ls : List (List Nat)} (hp : H p = some (.ins C d fs)) (h : ListAt LineR (hide c H D) q ls) : ListAt LineR (hide c (upd H p (.ins C' d' fs')) D) q ls := by
  obtain ⟨xs, hq, it⟩ := h
  obtain ⟨h1, h2, h3⟩ := hide_some hq
  exact ⟨xs, hide_at (upd_ins hp h1 (by intro z; cases z)) h2 h3, it.len, fun i x w a b => LineR.ins hp (it.at_ i x w a b)⟩
theorem lines_insD {C C' d d' : Addr} {fs fs' : List (Str × V)} {q : Addr} {ls : List (List Nat)} (hp : H p = some (.ins C d fs)) (h : ListAt LineR (hid c H) q ls) : ListAt LineR (hid c (upd H p (.ins C' d' fs'))) q ls := by
  obtain ⟨xs, hq, it⟩ := h
  obtain ⟨h1, h3⟩ := hid_some hq
  refine ⟨xs, hid_at (upd_ins hp h1 (by intro z; cases z)) h3, it.len, fun i x w a b => ?_⟩
  obtain ⟨r, rfl, hr⟩ := it.at_ i x w a b
  obtain ⟨h1, h3⟩ := hid_some hr
  exact ⟨r, rfl, hid_at (upd_ins hp h1 (by intro z; cases z)) h3⟩
theorem folds_ins {C C' d d' : Addr} {fs fs' : List (Str × V)} {q : Addr} {l : List Ue07.Fold} (hp : H p = some (.ins C d fs)) (h : ListAt FoldR H q l) : ListAt FoldR (upd H p (.ins C' d' fs')) q l := by
  obtain ⟨xs, h1, it⟩ := h
  refine ⟨xs, upd_ins hp h1 (by intro z; cases z), it.len, fun i x w a b => ?_⟩
  obtain ⟨r, rfl, hr⟩ := it.at_ i x w a b
  exact ⟨r, rfl, upd_ins hp hr (by intro z; cases z)⟩
theorem look_ins {C' d d' : Addr} {fs' : List (Str × V)} {k : Ue07.Look} (hp : H p = some (.ins c.CP d (pF pl ps pf g))) {q : Addr} (h : LookAt c H q k) : LookAt c (upd H p (.ins C' d' fs')) q k := by
  obtain ⟨dl, h⟩ := h
  refine ⟨dl, upd_ins hp h ?_⟩
  intro z
  have z2 := (HO.ins.inj z).2.2
  have z3 := congrArg List.length z2
  exact absurd z3 (by show ¬ (5 = 9); decide)
theorem page_put {f : Str} (h : PageIn c H p pf dx pl ps g) (e : putF f v (pF pl ps pf g) = pF pl ps pf g') (e1 : g'.look = g.look) (e2 : g'.lines = g.lines) (e3 : g'.folds = g.folds) : PageIn c (upd H p (.ins c.CP dx (putF f v (pF pl ps pf g)))) p pf dx pl ps g' := by
  rw [e]
  refine ⟨upd_same, ?_, ?_, ?_⟩
  · rw [e1]
    exact look_ins h.obj h.look
  · rw [e2]
    exact lines_ins h.obj h.lines
  · rw [e3]
    exact folds_ins h.obj h.folds

/-! ### what stands -/
/-- all but one object stands -/
def K1 (p : Addr) (H H' : Hp) : Prop := ∀ b o, H b = some o → b ≠ p → H' b = some o
theorem K1.of (e : Ex H H') : K1 p H H' := fun b o h _ => e b o h
theorem K1.upd {o : HO} : K1 p H (L2.upd H p o) := fun b o h ne => by rw [upd_ne ne]; exact h
theorem K1.trans {H2 : Hp} (a : K1 p H H1) (b : K1 p H1 H2) : K1 p H H2 := fun c o h ne => b c o (a c o h ne) ne
theorem K1.kp (a : K1 p H H') : Kp p pf H H' := fun b o h ne _ => a b o h ne
/-- what is new behind was new ahead -/
def Dm (H H' : Hp) : Prop := ∀ b, H' b = none → H b = none
theorem Dm.of (e : Ex H H') : Dm H H' := fun b h => fresh_back e h
theorem Dm.k1 {o : HO} (a : K1 p H H') (h : H' p = some o) : Dm H H' := fun b hb => by
  cases e : H b with
  | none => rfl
  | some u =>
    by_cases hbp : b = p
    · rw [hbp, h] at hb
      cases hb
    · rw [a b u e hbp] at hb
      cases hb
theorem NewL.back {l : List Int} (d : Dm H H1) (h : NewL H1 v H' l) : NewL H v H' l := by
  obtain ⟨q, h1, h2, h3⟩ := h
  exact ⟨q, h1, d q h2, h3⟩
theorem RetG.go {S S' : V → Hp → Prop} {Q : VK} {pf1 : Addr} (k : RetG c p pf H S g Q) (kp : Kp p pf H H1) (d : Dm H H1) (hpf : pf1 = pf ∨ H pf1 = none) (s : ∀ v H', S' v H' → S v H') : RetG c p pf1 H1 S' g Q := by
  intro v H' pf' k' d' hpf' P sv
  refine k v H' pf' (fun b o hb n1 n2 => k' b o (kp b o hb n1 n2) n1 ?_) (fun b hb => d b (d' b hb)) ?_ P (s v H' sv)
  · rintro rfl
    rcases hpf with z | z
    · exact n2 z
    · rw [z] at hb
      cases hb
  · rcases hpf' with z | z
    · rw [z]
      exact hpf
    · exact .inr (d _ z)
theorem Refuses.go {n : Int} {E : XK} (h : Refuses c H n E) (e : Ex H H1) : Refuses c H1 n E := fun d H' e' hd hx => h d H' (e.trans e') (fresh_back e hd) hx
theorem q_want {n : Int} {b : Bool} {E : XK} {D : Ends} {tz : TS} (h : Ev te σ H (.bl b)) (ht : b = true → ∀ H1, Ex H H1 → tz D σ H1) (hf : b = false → Refuses c H n E) : tSeq (tDrop (tCall (sp_want c) [] E (tCons te (tCons (tC (.int n)) tNil)))) tz D σ H :=
  h H (Ex.refl H) _ fun H1 e1 => ⟨b, n, rfl, fun hb H2 e2 => ht hb H2 (e1.trans e2), fun hb => (hf hb).go e1⟩
theorem st_want {n : Int} {b : Bool} {E : XK} {D : Ends} (h : Ev te σ H (.bl b)) (ht : b = true → ∀ H1, Ex H H1 → D.nx σ H1) (hf : b = false → Refuses c H n E) : tDrop (tCall (sp_want c) [] E (tCons te (tCons (tC (.int n)) tNil))) D σ H :=
  h H (Ex.refl H) _ fun H1 e1 => ⟨b, n, rfl, fun hb H2 e2 => ht hb H2 (e1.trans e2), fun hb => (hf hb).go e1⟩

/-! ### stores in the page; things made -/
section
variable {D : Ends} {tz : TS} {S : V → Hp → Prop} {SN : Addr → Hp → Prop} {C a : Addr} {fs : List (Str × V)} {f : Str}
theorem q_fldR (ha : Ev ta σ H (.ref a)) (hv : EvR te σ H S) (h : H a = some (.ins C dx fs)) (cl : Cls K C) (n : NoAttr K C f) (hl : fs.length < 1000) (st : ∀ x H1 H2, Ex H1 H2 → S x H1 → S x H2) (k : ∀ v H1, Ex H H1 → S v H1 → tz D σ (upd H1 a (.ins C dx (putF f v fs)))) : tSeq (sFld K ta te f) tz D σ H :=
  s_fldR (D := { D with nx := tz D }) ha hv h cl n hl k st
theorem s_fldN (ha : Ev ta σ H (.ref a)) (hv : EvN te σ H SN) (h : H a = some (.ins C dx fs)) (cl : Cls K C) (n : NoAttr K C f) (hl : fs.length < 1000) (st : ∀ x H1 H2, Ex H1 H2 → SN x H1 → SN x H2) (k : ∀ q H1, H q = none → Ex H H1 → SN q H1 → D.nx σ (upd H1 a (.ins C dx (putF f (.ref q) fs)))) : sFld K ta te f D σ H :=
  hv H (Ex.refl H) _ fun q H1 n1 e1 s => ha H1 e1 _ fun H2 e2 => ⟨a, C, dx, fs, rfl, e2 a _ (e1 a _ h), cl, n, hl, k q H2 n1 (e1.trans e2) (st q H1 H2 e2 s)⟩
theorem q_fldN (ha : Ev ta σ H (.ref a)) (hv : EvN te σ H SN) (h : H a = some (.ins C dx fs)) (cl : Cls K C) (n : NoAttr K C f) (hl : fs.length < 1000) (st : ∀ x H1 H2, Ex H1 H2 → SN x H1 → SN x H2) (k : ∀ q H1, H q = none → Ex H H1 → SN q H1 → tz D σ (upd H1 a (.ins C dx (putF f (.ref q) fs)))) : tSeq (sFld K ta te f) tz D σ H :=
  s_fldN (D := { D with nx := tz D }) ha hv h cl n hl st k
theorem en_Look {t : TA} {w tb' m h x : Nat} (ha : EvA t σ H [nV w, nV tb', nV m, nV h, nV x]) : EvN (tMake c.CL (sp_Look_init c) [] E0 t) σ H (fun q H1 => ∃ dl, H1 q = some (.ins c.CL dl (lF w tb' m h x))) := fun H1 e Q k =>
  ha H1 e _ fun H2 e2 y dy hy hdy ne => ⟨y, dy, w, tb', m, h, x, rfl, upd_same, fun H3 h3 keep => ⟨rfl, k y H3 (fresh_back e2 hy) (e2.trans fun b o hb => keep b o (by rw [upd_ne (ne_of_none hb hy), upd_ne (ne_of_none hb hdy)]; exact hb) (ne_of_none hb hy)) ⟨dy, h3⟩⟩⟩
theorem q_par {i j : Nat} (ha : Ev ta σ H x) (hb : Ev tb σ H y) (k : ∀ H1, Ex H H1 → tz D ((σ.set i (some x)).set j (some y)) H1) : tSeq (tPar i j (tCons ta (tCons tb tNil))) tz D σ H :=
  ha H (Ex.refl H) _ fun H1 e1 => hb H1 e1 _ fun H2 e2 => ⟨x, y, rfl, k H2 (e1.trans e2)⟩
end
theorem RowR.ins {C C' d d' : Addr} {fs fs' : List (Str × V)} {r : Ue07.Row} (hp : H p = some (.ins C d fs)) (h : RowR H x r) : RowR (upd H p (.ins C' d' fs')) x r := by
  obtain ⟨q, rfl, hq⟩ := h
  exact ⟨q, rfl, upd_ins hp hq (by intro z; cases z)⟩

/-! ### a call whose promise says what follows -/
section
variable {D : Ends} {tz : TS} {C a d : Addr} {fs : List (Str × V)} {m : Str} {sp : Sp} {E : XK} {t : TA} {vs : List V}
theorem r_meth (ho : Ev te σ H (.ref a)) (h : H a = some (.ins C d fs)) (l : fs.lookup m = none) (ha : EvA t σ H vs) (k : ∀ H1, Ex H H1 → sp (.ref a :: (vs ++ [])) H1 D.rt E) : tRet (tMeth C m sp [] E te t) D σ H :=
  ho H (Ex.refl H) _ fun H1 e1 => ⟨a, d, fs, rfl, e1 a _ h, l, ha H1 e1 _ fun H2 e2 => k H2 (e1.trans e2)⟩
theorem d_meth (ho : Ev te σ H (.ref a)) (h : H a = some (.ins C d fs)) (l : fs.lookup m = none) (ha : EvA t σ H vs) (k : ∀ H1, Ex H H1 → sp (.ref a :: (vs ++ [])) H1 (fun _ H2 => D.nx σ H2) E) : tDrop (tMeth C m sp [] E te t) D σ H :=
  ho H (Ex.refl H) _ fun H1 e1 => ⟨a, d, fs, rfl, e1 a _ h, l, ha H1 e1 _ fun H2 e2 => k H2 (e1.trans e2)⟩
theorem qd_meth (ho : Ev te σ H (.ref a)) (h : H a = some (.ins C d fs)) (l : fs.lookup m = none) (ha : EvA t σ H vs) (k : ∀ H1, Ex H H1 → sp (.ref a :: (vs ++ [])) H1 (fun _ H2 => tz D σ H2) E) : tSeq (tDrop (tMeth C m sp [] E te t)) tz D σ H :=
  d_meth (D := { D with nx := tz D }) ho h l ha k
theorem r_call (ha : EvA t σ H vs) (k : ∀ H1, Ex H H1 → sp (vs ++ []) H1 D.rt E) : tRet (tCall sp [] E t) D σ H := ha H (Ex.refl H) _ k
theorem r_methS {SA : List V → Hp → Prop} (ho : Ev te σ H (.ref a)) (h : H a = some (.ins C d fs)) (l : fs.lookup m = none) (ha : EvAS t σ H SA) (k : ∀ us H1, Ex H H1 → SA us H1 → sp (.ref a :: (us ++ [])) H1 D.rt E) : tRet (tMeth C m sp [] E te t) D σ H :=
  ho H (Ex.refl H) _ fun H1 e1 => ⟨a, d, fs, rfl, e1 a _ h, l, ha H1 e1 _ fun us H2 e2 s => k us H2 (e1.trans e2) s⟩
end

/-! ### a store in the page -/
section
variable {D : Ends} {tz : TS} {f : Str}
theorem s_pset (g' : Ue07.St) (T : Txt K mg c) (ha : Ev ta σ H (.ref p)) (I : PageIn c H p pf dx pl ps g) (hv : Ev te σ H v) (n : NoAttr K c.CP f) (e : putF f v (pF pl ps pf g) = pF pl ps pf g') (e1 : g'.look = g.look) (e2 : g'.lines = g.lines) (e3 : g'.folds = g.folds)
    (k : ∀ H2, PageIn c H2 p pf dx pl ps g' → K1 p H H2 → D.nx σ H2) : sFld K ta te f D σ H :=
  s_fld ha hv I.obj T.clsP n (by show 9 < 1000; decide) fun H1 h1 => k _ (page_put (I.mono h1) e e1 e2 e3) ((K1.of h1).trans K1.upd)
theorem q_pset (g' : Ue07.St) (T : Txt K mg c) (ha : Ev ta σ H (.ref p)) (I : PageIn c H p pf dx pl ps g) (hv : Ev te σ H v) (n : NoAttr K c.CP f) (e : putF f v (pF pl ps pf g) = pF pl ps pf g') (e1 : g'.look = g.look) (e2 : g'.lines = g.lines) (e3 : g'.folds = g.folds)
    (k : ∀ H2, PageIn c H2 p pf dx pl ps g' → K1 p H H2 → tz D σ H2) : tSeq (sFld K ta te f) tz D σ H :=
  s_pset (D := { D with nx := tz D }) g' T ha I hv n e e1 e2 e3 k
end
theorem PageIn.dm (I : PageIn c H' p pf dx pl ps g) (k : K1 p H H') : Dm H H' := Dm.k1 k I.obj
theorem RetG.go1 {S S' : V → Hp → Prop} {Q : VK} (k : RetG c p pf H S g Q) (k1 : K1 p H H1) (I : PageIn c H1 p pf dx pl ps g') (s : ∀ v H', S' v H' → S v H') : RetG c p pf H1 S' g Q := k.go k1.kp (I.dm k1) (.inl rfl) s
end
end Fw
/-! The readings hold: folds. -/
namespace Fw
open PySem PySem.Spec PyProof.Rows L2 Evl
section
variable {K : PySem.W.Frag} {mg : Str → Option Value} {c : Cc} {σ : L2.St} {H H' : Hp}

theorem pure_hides : ∀ vs H Q E, sp_hides c vs H Q E → t_hides K c E { nx := fun _ H' => Q .non H', rt := Q } (start N_hides vs) H := by
  rintro vs H Q E ⟨x, f, n, rfl, ⟨q, rfl, hq⟩, k⟩
  exact s_ret (ev_is (ev_andV (ev_ltN (ev_t0 (ev_var rfl) hq) (ev_var rfl)) fun _ => ev_ltN (ev_var rfl) (ev_t1 (ev_var rfl) hq)) rfl) k
theorem pure_has : ∀ vs H Q E, sp_has c vs H Q E → t_has K c E { nx := fun _ H' => Q .non H', rt := Q } (start N_has vs) H := by
  rintro vs H Q E ⟨x, f, n, rfl, ⟨q, rfl, hq⟩, k⟩
  exact s_ret (ev_is (ev_andV (ev_leN (ev_t0 (ev_var rfl) hq) (ev_var rfl)) fun _ => ev_ltN (ev_var rfl) (ev_t1 (ev_var rfl) hq)) rfl) k
theorem sv_hides {x : V} {f : Ue07.Fold} {n : Nat} (h : FoldR H x f) : SpV (sp_hides c) [x, nV n] H (.bl (Ue07.hides f n)) := fun H1 e Q k _ => ⟨x, f, n, rfl, FoldR.steady _ _ _ _ e h, k⟩
theorem sv_has {x : V} {f : Ue07.Fold} {n : Nat} (h : FoldR H x f) : SpV (sp_has c) [x, nV n] H (.bl (Fv.hasP f n)) := fun H1 e Q k _ => ⟨x, f, n, rfl, FoldR.steady _ _ _ _ e h, k⟩

theorem filter_all {α β : Type} (l : List α) (f : α → β) : (l.filter fun _ => true).map f = l.map f := by
  rw [List.filter_eq_self.mpr fun _ _ => rfl]
theorem pure_is_seen : ∀ vs H Q E, sp_is_seen c vs H Q E → t_is_seen K c E { nx := fun _ H' => Q .non H', rt := Q } (start N_is_seen vs) H := by
  rintro vs H Q E ⟨q, l, n, rfl, ⟨xs, hq, it⟩, hl, k⟩
  refine s_ret (ev_is (ev_notV (ev_anyL (en_lcEn (R := FoldR) (R2 := BoolR) (fun _ => true) (fun f => Ue07.hides f n) FoldR.steady BoolR.steady BoolR.firm (ev_var rfl) hq it (by rw [it.len]; omega) (fun _ => rfl)
    (fun x w H1 e hm r => fun H2 e2 Q q => q H2 (Ex.refl H2))
    (fun x w H1 e hm _ r => (EvR.of (ev_call (ea_cons (ev_var rfl) (ea_cons (ev_var rfl) ea_nil)) (sv_hides r))).imp fun v H2 _ s => s)) fun p H1 s => bools_of s)) ?_) k
  rw [filter_all, List.any_map]
  rfl
theorem sv_is_seen {q : Addr} {l : List Ue07.Fold} {n : Nat} (h : ListAt FoldR H q l) (hl : l.length ≤ 100) : SpV (sp_is_seen c) [.ref q, nV n] H (.bl (!Ue07.hidden l n)) := fun H1 e Q k _ => ⟨q, l, n, rfl, h.mono FoldR.steady e, hl, k⟩

/-! ### data: folds as tuples -/
def fD (f : Ue07.Fold) : PyData := .tuple [.int f.1, .int f.2]
theorem fold_dp {x : V} {f : Ue07.Fold} (h : FoldR H x f) : Dp K H x (fD f) := by
  obtain ⟨q, rfl, hq⟩ := h
  exact .tup (st_of hq) (.cons (.int _) (.cons (.int _) .nil))
theorem fD_lay (f : Ue07.Fold) : (fD f).canLay0 = true := by simp [fD, PyData.canLay0, PyData.canLayAll0]
theorem fD_depth (f : Ue07.Fold) : (fD f).depth = 1 := by simp [fD, PyData.depth, PyData.depthAll]
theorem fD_shaped (f : Ue07.Fold) : SeqAt.shaped (fD f) = true := by
  have h1 := fD_lay f
  have h2 := fD_depth f
  unfold SeqAt.shaped
  simp [h1, h2]
theorem fD_eqv (f g : Ue07.Fold) : PyData.eqv (fD f) (fD g) = decide (f = g) := by
  obtain ⟨a, b⟩ := f
  obtain ⟨a', b'⟩ := g
  have e : PyData.eqv (fD (a, b)) (fD (a', b')) = (((a : Int) == (a' : Int)) && (((b : Int) == (b' : Int)) && true)) := by simp only [fD, PyData.eqv, PyData.eqvAll]
  rw [e, Bool.and_true, Bool.eq_iff_iff]
  simp only [Bool.and_eq_true, beq_iff_eq, decide_eq_true_eq, Prod.mk.injEq]
  omega
theorem fDs_lay : ∀ l : List Ue07.Fold, PyData.canLayAll0 (l.map fD) = true
  | [] => by simp [PyData.canLayAll0]
  | f :: l => by simp [PyData.canLayAll0, fD_lay f, fDs_lay l]
theorem fDs_depth : ∀ l : List Ue07.Fold, PyData.depthAll (l.map fD) ≤ 1
  | [] => by simp [PyData.depthAll]
  | f :: l => by
    have h1 := fDs_depth l
    have h2 := fD_depth f
    simp only [List.map_cons, PyData.depthAll]
    omega
theorem shaped_of {d : PyData} (h1 : d.canLay0 = true) (h2 : d.depth ≤ 64) : SeqAt.shaped d = true := Bool.and_eq_true_iff.mpr ⟨h1, decide_eq_true h2⟩
theorem fDs_shaped (l : List Ue07.Fold) : SeqAt.shaped (.list (l.map fD)) = true := by
  refine shaped_of ?_ ?_
  · simp only [PyData.canLay0]
    exact fDs_lay l
  · have h1 := fDs_depth l
    simp only [PyData.depth]
    omega
theorem items_dp {α : Type} {R : RelH α} {d : α → PyData} (hd : ∀ x w, R H x w → Dp K H x (d w)) : ∀ {xs : List V} {ws : List α}, Items R H xs ws → DpAll K H xs (ws.map d)
  | [], [], _ => .nil
  | [], w :: ws, h => by
    have := h.len
    simp at this
  | x :: xs, [], h => by
    have := h.len
    simp at this
  | x :: xs, w :: ws, h => .cons (hd x w (h.at_ 0 x w rfl rfl)) (items_dp hd ⟨by have := h.len; simpa using this, fun i y v h1 h2 => h.at_ (i + 1) y v h1 h2⟩)
theorem folds_dp {q : Addr} {l : List Ue07.Fold} (h : ListAt FoldR H q l) : Dp K H (.ref q) (.list (l.map fD)) := by
  obtain ⟨xs, hq, it⟩ := h
  exact .lst (sq_of hq) (items_dp (fun x w r => fold_dp r) it)

theorem pure_are_well : ∀ vs H Q E, sp_are_well c vs H Q E → t_are_well K c E { nx := fun _ H' => Q .non H', rt := Q } (start N_are_well vs) H := by
  rintro vs H Q E ⟨x, y, f, g, rfl, hx, hy, k⟩
  have dx : ∀ H1, Ex H H1 → Dp K H1 x (fD f) := fun H1 e => fold_dp (FoldR.steady _ _ _ _ e hx)
  have dy : ∀ H1, Ex H H1 → Dp K H1 y (fD g) := fun H1 e => fold_dp (FoldR.steady _ _ _ _ e hy)
  refine q_when (et_test (ev_op (ev_var rfl) (ev_var rfl) (z := .bl (decide (f = g))) (rv_val fun H1 e Q q => ⟨_, _, dx H1 e, dy H1 e, fD_shaped _, fD_shaped _, by rw [fD_eqv]; exact q⟩))) (fun h H1 e1 => ?_) (fun h H1 e1 => ?_)
  · refine s_ret (v := .bl false) ev_c fun H2 e2 => ?_
    have q := k H2 (e1.trans e2)
    unfold Fv.wellP at q
    rw [h] at q
    exact q
  · obtain ⟨q, rfl, hq⟩ := FoldR.steady _ _ _ _ e1 hx
    obtain ⟨q', rfl, hq'⟩ := FoldR.steady _ _ _ _ e1 hy
    refine q_asg (ev_orV (ev_leN (ev_t1 (ev_var rfl) hq) (ev_t0 (ev_var rfl) hq')) fun _ => ev_leN (ev_t1 (ev_var rfl) hq') (ev_t0 (ev_var rfl) hq)) fun H2 e2 => ?_
    refine q_asg (ev_andV (ev_leN (ev_t0 (ev_var rfl) (e2 _ _ hq')) (ev_t0 (ev_var rfl) (e2 _ _ hq))) fun _ => ev_leN (ev_t1 (ev_var rfl) (e2 _ _ hq)) (ev_t1 (ev_var rfl) (e2 _ _ hq'))) fun H3 e3 => ?_
    have e23 := e2.trans e3
    refine q_asg (ev_andV (ev_leN (ev_t0 (ev_var rfl) (e23 _ _ hq)) (ev_t0 (ev_var rfl) (e23 _ _ hq'))) fun _ => ev_leN (ev_t1 (ev_var rfl) (e23 _ _ hq')) (ev_t1 (ev_var rfl) (e23 _ _ hq))) fun H4 e4 => ?_
    refine s_ret (ev_is (ev_orV (ev_var rfl) fun _ => ev_orV (ev_var rfl) fun _ => ev_var rfl) ?_) (fun H5 e5 => k H5 ((e1.trans e23).trans (e4.trans e5)))
    unfold Fv.wellP
    rw [h]
    simp only [Bool.not_false, Bool.true_and, Bool.or_assoc]
theorem sv_are_well {x y : V} {f g : Ue07.Fold} (h : FoldR H x f) (h2 : FoldR H y g) : SpV (sp_are_well c) [x, y] H (.bl (Fv.wellP f g)) := fun H1 e Q k _ => ⟨x, y, f, g, rfl, FoldR.steady _ _ _ _ e h, FoldR.steady _ _ _ _ e h2, k⟩

theorem pure_seen_for : ∀ vs H Q E, sp_seen_for c vs H Q E → t_seen_for K c E { nx := fun _ H' => Q .non H', rt := Q } (start N_seen_for vs) H := by
  rintro vs H Q E ⟨q, l, n, rfl, hq, hl, k⟩
  refine q_while (fun m σ' H' => ∃ s, m = s ∧ σ' = [some (.ref q), some (nV s), none] ∧ Ex H H' ∧ Fv.SeenSo l n s) n ⟨n, rfl, rfl, Ex.refl H, Fv.SeenSo.start l n⟩ ?_
  rintro m σ' H' ⟨s, rfl, rfl, e, so⟩
  have hq' := hq.mono FoldR.steady e
  refine ⟨_, et_not (et_B (ev_call (ea_cons (ev_var rfl) (ea_cons (ev_var rfl) ea_nil)) (sv_is_seen hq' hl))), fun h H1 e1 => ?_, fun h H1 e1 => ?_⟩
  · have hh : Ue07.hidden l m = true := by simpa using h
    obtain ⟨f0, hf0, hf1⟩ := Fv.hidden_iff.mp hh
    refine ⟨fun σ2 H2 => ∃ f ∈ l, Ue07.hides f m = true ∧ σ2 = [some (.ref q), some (nV f.1), none] ∧ Ex H H2, ?_, ?_⟩
    · rintro σ2 H2 ⟨f, hf, hh2, rfl, e2⟩
      exact ⟨f.1, (Fv.hides_iff.mp hh2).1, f.1, rfl, rfl, e2, so.turn hf hh2⟩
    · obtain ⟨xs, hx, it⟩ := hq'.mono FoldR.steady e1
      refine s_asgR (er_minL (ns := (l.filter fun f => Ue07.hides f m).map fun f => (f.1 : Int)) (en_lcEn (R := FoldR) (R2 := fun _ x (f : Ue07.Fold) => x = nV f.1) (fun f => Ue07.hides f m) id FoldR.steady (fun _ _ _ _ _ h => h) (fun _ _ _ _ _ _ _ h => h) (ev_var rfl) hx it (by rw [it.len]; omega) (fun _ => rfl)
        (fun x w H2 e2 hm r => et_B (ev_call (ea_cons (ev_var rfl) (ea_cons (ev_var rfl) ea_nil)) (sv_hides r)))
        (fun x w H2 e2 hm _ r => by
          obtain ⟨q2, rfl, hq2⟩ := r
          exact EvR.of (ev_t0 (ev_var rfl) hq2))) (fun p H2 s => ?_) ?_) fun v H2 e2 ⟨z, hv, hz⟩ => ?_
      · obtain ⟨ys, h1, h2⟩ := s
        rw [h1]
        refine congrArg (fun z => some (HO.lst z)) ?_
        rw [List.map_id] at h2
        rw [List.map_map]
        exact Items.vals (H := H2) ⟨h2.len, h2.at_⟩
      · rw [List.length_map]
        exact List.length_pos_of_mem (List.mem_filter.mpr ⟨hf0, hf1⟩)
      · obtain ⟨f, hf, rfl⟩ := List.mem_map.mp hz
        obtain ⟨hf2, hf3⟩ := List.mem_filter.mp hf
        subst hv
        exact ⟨f, hf2, hf3, rfl, (e.trans e1).trans e2⟩
  · have hh : Ue07.hidden l m = false := by simpa using h
    refine s_ret (ev_var (v := nV m) rfl) fun H2 e2 => ?_
    rw [so.fin hh]
    exact k H2 ((e.trans e1).trans e2)
theorem sv_seen_for {q : Addr} {l : List Ue07.Fold} {n : Nat} (h : ListAt FoldR H q l) (hl : l.length ≤ 100) : SpV (sp_seen_for c) [.ref q, nV n] H (nV (Fv.seenAt l n)) := fun H1 e Q k _ => ⟨q, l, n, rfl, h.mono FoldR.steady e, hl, k⟩

theorem pure_fold_behind : ∀ vs H Q E, sp_fold_behind c vs H Q E → t_fold_behind K c E { nx := fun _ H' => Q .non H', rt := Q } (start N_fold_behind vs) H := by
  rintro vs H Q E ⟨x, f, a, b, n, rfl, hab, hord, hx, k⟩
  have hx0 := hx
  obtain ⟨q, rfl, hq⟩ := hx
  refine q_when (et_test (ev_leN (ev_t1 (ev_var rfl) hq) (ev_var rfl))) (fun h H1 e1 => ?_) (fun h H1 e1 => ?_)
  · refine s_ret (ev_var rfl) fun H2 e2 => k _ H2 (e1.trans e2) ?_
    unfold Fv.behindOf
    rw [if_pos (of_decide_eq_true h)]
    exact FoldR.steady _ _ _ _ (e1.trans e2) hx0
  have h1 := of_decide_eq_false h
  have hq1 := e1 _ _ hq
  refine q_when (et_test (ev_geN (ev_t0 (ev_var rfl) hq1) (ev_var rfl))) (fun h H2 e2 => ?_) (fun h H2 e2 => ?_)
  · have h2 := of_decide_eq_true h
    have hq2 := e2 _ _ hq1
    refine s_retN (en_tup (ea_cons (ev_is (ev_addI (ev_t0 (ev_var rfl) hq2) (ev_var rfl)) (w := nV (f.1 + n - (b - a))) ?_) (ea_cons (ev_is (ev_addI (ev_t1 (ev_var rfl) hq2) (ev_var rfl)) (w := nV (f.2 + n - (b - a))) ?_) ea_nil)) (by simp)) fun p H3 _ e3 s => ?_
    · refine congrArg V.int ?_
      omega
    · refine congrArg V.int ?_
      omega
    · refine k _ H3 ((e1.trans e2).trans e3) ?_
      unfold Fv.behindOf
      rw [if_neg h1, if_pos h2]
      exact ⟨p, rfl, s⟩
  have h2 := of_decide_eq_false h
  have hq2 := e2 _ _ hq1
  refine q_when (et_and (et_test (ev_ltN (ev_t0 (ev_var rfl) hq2) (ev_var rfl))) fun _ => et_and (et_test (ev_geN (ev_t1 (ev_var rfl) hq2) (ev_var rfl))) fun _ =>
    et_test (ev_op (ev_subI (ev_addI (ev_t1 (ev_var rfl) hq2) (ev_var rfl)) (ev_t0 (ev_var rfl) hq2)) ev_c rv_I0)) (fun h H3 e3 => ?_) (fun h H3 e3 => ?_)
  · rw [Bool.and_eq_true, Bool.and_eq_true] at h
    have h3 := of_decide_eq_true h.1
    have h4 := of_decide_eq_true h.2.1
    have h5 := of_decide_eq_true h.2.2
    have hq3 := e3 _ _ hq2
    refine s_retN (en_tup (ea_cons (ev_t0 (ev_var rfl) hq3) (ea_cons (ev_is (ev_addI (ev_t1 (ev_var rfl) hq3) (ev_var rfl)) (w := nV (f.2 + n - (b - a))) ?_) ea_nil)) (by simp)) fun p H4 _ e4 s => ?_
    · refine congrArg V.int ?_
      omega
    · refine k _ H4 (((e1.trans e2).trans e3).trans e4) ?_
      unfold Fv.behindOf
      rw [if_neg h1, if_neg h2, if_pos ⟨h3, h4, by omega⟩, if_neg (by omega)]
      exact ⟨p, rfl, s⟩
  · refine s_ret (v := .non) ev_c fun H4 e4 => k _ H4 (((e1.trans e2).trans e3).trans e4) ?_
    have e : Fv.behindOf a b n f = none := by
      unfold Fv.behindOf
      rw [if_neg h1, if_neg h2]
      by_cases h3 : f.1 < a ∧ b ≤ f.2 ∧ a < f.2
      · rw [if_pos h3]
        by_cases h4 : f.2 + n - (b - a) ≤ f.1 + 1
        · rw [if_pos h4]
        · rw [decide_eq_true h3.1, decide_eq_true h3.2.1] at h
          have h5 := of_decide_eq_false h
          omega
      · rw [if_neg h3]
    rw [e]
    exact rfl
theorem sr_fold_behind {x : V} {f : Ue07.Fold} {a b n : Nat} (hab : a ≤ b) (ho : f.1 ≤ f.2) (h : FoldR H x f) : SpR (sp_fold_behind c) [x, nV a, nV b, .int ((n : Int) - ((b : Int) - (a : Int)))] H (fun v H' => BehindR H' v (Fv.behindOf a b n f)) :=
  fun H1 e Q k _ => ⟨x, f, a, b, n, rfl, hab, ho, FoldR.steady _ _ _ _ e h, k⟩
theorem BehindR.steady {o : Option Ue07.Fold} {v : V} (e : Ex H H') (h : BehindR H v o) : BehindR H' v o := by
  cases o with
  | none => exact h
  | some f => exact FoldR.steady _ _ _ _ e h

theorem pure_folds_behind : ∀ vs H Q E, sp_folds_behind c vs H Q E → t_folds_behind K c E { nx := fun _ H' => Q .non H', rt := Q } (start N_folds_behind vs) H := by
  rintro vs H Q E ⟨q, l, a, b, n, rfl, hab, ⟨xs, hq, it⟩, hl, hord, k⟩
  refine q_asgN (en_lst ea_nil (by decide)) fun D H1 n1 e1 h1 => ?_
  have nD : q ≠ D := ne_of_none hq n1
  refine q_forLn (xs := xs) (ev_var rfl) (sq_of (e1 _ _ hq)) (fun i σ' H' => ∃ y z ys, σ' = [some (.ref q), some (nV a), some (nV b), some (.int ((n : Int) - ((b : Int) - (a : Int)))), some (.ref D), y, z] ∧ Ex H H' ∧ H' D = some (.lst ys) ∧ Items FoldR H' ys (Fv.behindTo a b n (l.take i)))
    (fun H2 e2 => ⟨none, none, [], rfl, e1.trans e2, e2 _ _ h1, Items.nil⟩) (fun i σ' H' _ ⟨_, _, _, _, e, _⟩ => sq_of (e _ _ hq)) ?_ ?_
  · rintro i x σ' H' hx ⟨y, z, ys, rfl, e, hD, iy⟩
    obtain ⟨f, hf, rf⟩ := it.get' hx
    have hi := (List.getElem?_eq_some_iff.mp hf).1
    have rf' := FoldR.steady _ _ _ _ e rf
    refine q_asgR (er_call (ea_cons (ev_var rfl) (ea_cons (ev_var rfl) (ea_cons (ev_var rfl) (ea_cons (ev_var rfl) ea_nil)))) (sr_fold_behind (n := n) hab (hord f (List.mem_of_getElem? hf)) rf')) fun v H2 e2 s => ?_
    have hD2 := e2 _ _ hD
    have iy2 := iy.mono FoldR.steady e2
    have more := Fv.behindTo_more (a := a) (b := b) (n := n) hf
    have hlen : ys.length ≤ 100 := by
      rw [iy.len]
      refine Nat.le_trans (Fv.behindTo_len a b n _) ?_
      rw [List.length_take]
      omega
    cases ho : Fv.behindOf a b n f with
    | none =>
      rw [ho] at s more
      have s' : v = .non := s
      subst s'
      refine s_when (b := false) (et_and (a := false) (b := false) (et_test (ev_is (ev_op (x := .non) (ev_var rfl) ev_c rv_notN) rfl)) fun h => absurd h (by decide)) (fun h => absurd h (by decide)) (fun _ H3 e3 => ?_)
      exact ⟨_, _, ys, rfl, (e.trans e2).trans e3, e3 _ _ hD2, by rw [more]; exact iy2.mono FoldR.steady e3⟩
    | some g =>
      rw [ho] at s more
      have s' : FoldR H2 v g := s
      have hv : decide (v = .non) = false := by
        obtain ⟨p, rfl, _⟩ := s'
        rfl
      have tst : EvT (tAnd (tTest (tOp rNotN (tVar 6) (tC .non))) (tTest (tOp (rNotInD K) (tVar 6) (tVar 4)))) [some (.ref q), some (nV a), some (nV b), some (.int ((n : Int) - ((b : Int) - (a : Int)))), some (.ref D), some x, some v] H2 (!(Fv.behindTo a b n (l.take i)).contains g) := by
        refine et_is (et_and (et_test (ev_op (ev_var rfl) ev_c rv_notN)) fun _ => et_test (ev_op (ev_var rfl) (ev_var rfl) (z := .bl (!(Fv.behindTo a b n (l.take i)).contains g)) (rv_val fun H3 e3 Q q => ⟨_, _, fold_dp (FoldR.steady _ _ _ _ e3 s'), folds_dp ⟨ys, e3 _ _ hD2, iy2.mono FoldR.steady e3⟩, fD_shaped _, fDs_shaped _, ?_⟩))) ?_
        · have e4 : (List.map fD (Fv.behindTo a b n (List.take i l))).any (fun z => PyData.eqv z (fD g)) = (Fv.behindTo a b n (l.take i)).contains g := by
            generalize Fv.behindTo a b n (l.take i) = m
            induction m with
            | nil => rfl
            | cons u m ih =>
              rw [List.map_cons, List.any_cons, ih, List.contains_cons, fD_eqv]
              congr 1
              by_cases hu : u = g
              · rw [hu]
                simp
              · rw [decide_eq_false hu]
                exact (beq_eq_false_iff_ne.mpr (Ne.symm hu)).symm
          rw [e4]
          exact q
        · rw [hv]
          rfl
      refine s_when tst (fun h H3 e3 => ?_) (fun h H3 e3 => ?_)
      · have hn : (Fv.behindTo a b n (l.take i)).contains g = false := by simpa using h
        refine s_appR (e3 _ _ hD2) (ev_var rfl) (EvR.of (ev_var rfl)) (by omega) fun v2 H4 e4 hv2 => ?_
        subst hv2
        refine ⟨_, _, _, rfl, Ex.mut (((e.trans e2).trans e3).trans e4) (fresh_back (Ex.refl H) n1), upd_same, ?_⟩
        have h4 := e4 _ _ (e3 _ _ hD2)
        have e34 := e3.trans e4
        rw [more]
        unfold Fv.addOnce
        simp only
        rw [hn, if_neg (by decide)]
        exact ((iy2.mono FoldR.steady e34).firm FoldR.firm h4).snoc (FoldR.firm H4 D ys _ _ _ h4 (FoldR.steady _ _ _ _ e34 s'))
      · have hn : (Fv.behindTo a b n (l.take i)).contains g = true := by simpa using h
        refine ⟨_, _, ys, rfl, (e.trans e2).trans e3, e3 _ _ hD2, ?_⟩
        rw [more]
        unfold Fv.addOnce
        simp only
        rw [hn, if_pos rfl]
        exact iy2.mono FoldR.steady e3
  · rintro σ' H' ⟨y, z, ys, rfl, e, hD, iy⟩
    have e2 : l.take xs.length = l := List.take_of_length_le (by rw [it.len]; exact Nat.le_refl _)
    rw [e2] at iy
    exact s_ret (ev_var rfl) fun H2 e2 => k D H2 n1 (e.trans e2) ⟨ys, e2 _ _ hD, iy.mono FoldR.steady e2⟩
theorem sn_folds_behind {q : Addr} {l : List Ue07.Fold} {a b n : Nat} (hab : a ≤ b) (h : ListAt FoldR H q l) (hl : l.length ≤ 100) (ho : ∀ f ∈ l, f.1 ≤ f.2) : SpN (sp_folds_behind c) [.ref q, nV a, nV b, .int ((n : Int) - ((b : Int) - (a : Int)))] H (fun q' H' => ListAt FoldR H' q' (Fv.behindTo a b n l)) :=
  fun H1 e Q k _ => ⟨q, l, a, b, n, rfl, hab, h.mono FoldR.steady e, hl, ho, k⟩
end
end Fw
/-! The readings hold: looks. -/
namespace Fw
open PySem PySem.Spec PyProof.Rows L2 Evl
section
variable {K : PySem.W.Frag} {mg : Str → Option Value} {c : Cc} {σ : L2.St} {H H' : Hp}

theorem pure_Look_init (T : Txt K mg c) : ∀ vs H Q E, sp_Look_init c vs H Q E → t_Look_init K c E { nx := fun _ H' => Q .non H', rt := Q } (start N_Look_init vs) H := by
  rintro vs H Q E ⟨p, dx, w, t, m, h, x, rfl, hp, k⟩
  refine q_fld (ev_var rfl) (ev_var rfl) hp T.clsL T.l_wide (by decide) fun H1 e1 => ?_
  refine q_fld (ev_var rfl) (ev_var rfl) upd_same T.clsL T.l_tab (by show 1 < 1000; decide) fun H2 e2 => ?_
  refine q_fld (ev_var rfl) (ev_var rfl) upd_same T.clsL T.l_more (by show 2 < 1000; decide) fun H3 e3 => ?_
  refine q_fld (ev_var rfl) (ev_var rfl) upd_same T.clsL T.l_hang (by show 3 < 1000; decide) fun H4 e4 => ?_
  refine s_fld (ev_var rfl) (ev_var rfl) upd_same T.clsL T.l_words (by show 4 < 1000; decide) fun H5 e5 => ?_
  refine k _ upd_same fun b o hb ne => ?_
  rw [upd_ne ne]
  refine e5 b o ?_
  rw [upd_ne ne]
  refine e4 b o ?_
  rw [upd_ne ne]
  refine e3 b o ?_
  rw [upd_ne ne]
  refine e2 b o ?_
  rw [upd_ne ne]
  exact e1 b o hb

theorem pure_is_look : ∀ vs H Q E, sp_is_look c vs H Q E → t_is_look K c E { nx := fun _ H' => Q .non H', rt := Q } (start N_is_look vs) H := by
  rintro vs H Q E ⟨w, t, m, rfl, k⟩
  refine s_ret (ev_is (ev_andV (ev_leN (ev_num (n := 4) rfl) (ev_var rfl)) fun _ => ev_andV (ev_leN (ev_var rfl) (ev_num (n := 100) rfl)) fun _ => ev_andV (ev_leN (ev_num (n := 1) rfl) (ev_var rfl)) fun _ => ev_andV (ev_leN (ev_var rfl) (ev_num (n := 16) rfl)) fun _ => ev_leN (ev_var rfl) (ev_num (n := 100) rfl)) ?_) k
  unfold Fv.lookOkN
  simp [Bool.decide_and]
theorem sv_is_look {w t m : Nat} : SpV (sp_is_look c) [nV w, nV t, nV m] H (.bl (Fv.lookOkN w t m)) := fun H1 e Q k _ => ⟨w, t, m, rfl, k⟩

theorem pure_is_blank : ∀ vs H Q E, sp_is_blank c vs H Q E → t_is_blank K c E { nx := fun _ H' => Q .non H', rt := Q } (start N_is_blank vs) H := by
  rintro vs H Q E ⟨b, rfl, k⟩
  refine s_ret (ev_is (ev_orV (ev_eqN (ev_var rfl) (ev_num (n := 32) rfl)) fun _ => ev_eqN (ev_var rfl) (ev_num (n := 9) rfl)) ?_) k
  unfold Ue07.isBlank
  refine congrArg V.bl ?_
  rw [Bool.eq_iff_iff]
  simp
theorem sv_is_blank {b : Nat} : SpV (sp_is_blank c) [nV b] H (.bl (Ue07.isBlank b)) := fun H1 e Q k _ => ⟨b, rfl, k⟩

theorem pure_column_behind (T : Txt K mg c) : ∀ vs H Q E, sp_column_behind c vs H Q E → t_column_behind K c E { nx := fun _ H' => Q .non H', rt := Q } (start N_column_behind vs) H := by
  rintro vs H Q E ⟨p, l, b, n, rfl, hl, ht, k⟩
  have hm := Nat.mod_lt n (show 0 < l.tab by omega)
  refine q_when (et_test (ev_eqN (ev_var rfl) (ev_num (n := 9) rfl))) (fun h H1 e1 => ?_) (fun h H1 e1 => ?_)
  · refine s_ret (ev_is (ev_subN (ev_addN (ev_var rfl) (ev_tab T (ev_var rfl) (hl.mono e1))) (ev_modN (ev_var rfl) (ev_tab T (ev_var rfl) (hl.mono e1)) (by omega)) (by omega)) ?_) fun H2 e2 => k H2 (e1.trans e2)
    unfold Ue07.cost
    rw [if_pos (of_decide_eq_true h)]
    refine congrArg nV ?_
    omega
  have h9 := of_decide_eq_false h
  refine q_when (et_or (et_test (ev_ltN (ev_var rfl) (ev_num (n := 32) rfl))) fun _ => et_test (ev_eqN (ev_var rfl) (ev_num (n := 127) rfl))) (fun h H2 e2 => ?_) (fun h H2 e2 => ?_)
  · refine s_ret (ev_is (ev_addN (ev_var rfl) (ev_num (n := 2) rfl)) ?_) fun H3 e3 => k H3 ((e1.trans e2).trans e3)
    unfold Ue07.cost
    rw [if_neg h9, if_pos (by simpa using h)]
  · refine s_ret (ev_is (ev_addN (ev_var rfl) (ev_num (n := 1) rfl)) ?_) fun H3 e3 => k H3 ((e1.trans e2).trans e3)
    unfold Ue07.cost
    rw [if_neg h9, if_neg (by simpa using h)]
theorem sv_column_behind {p : Addr} {l : Ue07.Look} {b n : Nat} (h : LookAt c H p l) (ht : 1 ≤ l.tab) : SpV (sp_column_behind c) [.ref p, nV b, nV n] H (nV (n + Ue07.cost l n b)) := fun H1 e Q k _ => ⟨p, l, b, n, rfl, h.mono e, ht, k⟩

theorem pure_columns_behind : ∀ vs H Q E, sp_columns_behind c vs H Q E → t_columns_behind K c E { nx := fun _ H' => Q .non H', rt := Q } (start N_columns_behind vs) H := by
  rintro vs H Q E ⟨p, q, l, w, n, rfl, hl, ht, hq, k⟩
  refine q_forLn (xs := nums w) (ev_var rfl) (sq_of hq) (fun i σ' H' => ∃ y, σ' = [some (.ref p), some (.ref q), some (nV (Ue07.behind l n (w.take i))), y] ∧ Ex H H') (fun H1 e1 => ⟨none, rfl, e1⟩) (fun i σ' H' _ ⟨_, _, e⟩ => sq_of (e _ _ hq)) ?_ ?_
  · rintro i x σ' H' hx ⟨y, rfl, e⟩
    obtain ⟨b, hb, rfl⟩ := nums_get' hx
    refine s_asg (ev_call (ea_cons (ev_var rfl) (ea_cons (ev_var rfl) (ea_cons (ev_var rfl) ea_nil))) (sv_column_behind (hl.mono e) ht)) fun H1 e1 => ⟨some (nV b), ?_, e.trans e1⟩
    rw [Fv.behind_more hb]
    rfl
  · rintro σ' H' ⟨y, rfl, e⟩
    refine s_ret (ev_is (ev_var rfl) ?_) fun H1 e1 => k H1 (e.trans e1)
    rw [nums_len, List.take_length]
theorem sv_columns_behind {p q : Addr} {l : Ue07.Look} {w : List Nat} {n : Nat} (h : LookAt c H p l) (ht : 1 ≤ l.tab) (hq : H q = some (.lst (nums w))) : SpV (sp_columns_behind c) [.ref p, .ref q, nV n] H (nV (Ue07.behind l n w)) := fun H1 e Q k _ => ⟨p, q, l, w, n, rfl, h.mono e, ht, e _ _ hq, k⟩

theorem pure_many_blanks : ∀ vs H Q E, sp_many_blanks c vs H Q E → t_many_blanks K c E { nx := fun _ H' => Q .non H', rt := Q } (start N_many_blanks vs) H := by
  rintro vs H Q E ⟨q, w, rfl, hq, k⟩
  refine q_asg (ev_num (n := 0) rfl) fun H1 e1 => ?_
  refine q_while (fun m σ' H' => ∃ i, m = w.length - i ∧ i ≤ w.length ∧ σ' = [some (.ref q), some (nV i)] ∧ Ex H H' ∧ (w.takeWhile Ue07.isBlank).length = i + ((w.drop i).takeWhile Ue07.isBlank).length) w.length ⟨0, rfl, Nat.zero_le _, rfl, e1, by simp⟩ ?_
  rintro m σ' H' ⟨i, rfl, hi, rfl, e, so⟩
  have hq' := e _ _ hq
  by_cases hlt : i < w.length
  · have hb : w[i]? = some w[i] := List.getElem?_eq_getElem hlt
    refine ⟨_, et_and (et_test (ev_ltN (ev_var rfl) (ev_lenL (ev_var rfl) hq' (nums_len w)))) fun _ => et_B (ev_call (ea_cons (ev_ixN (ev_var rfl) (ev_var rfl) hq' hb) ea_nil) sv_is_blank), fun h H2 e2 => ?_, fun h H2 e2 => ?_⟩
    · rw [decide_eq_true hlt, Bool.true_and] at h
      refine ⟨fun σ2 H3 => σ2 = [some (.ref q), some (nV (i + 1))] ∧ Ex H H3, ?_, s_aug rfl ev_c fun H3 e3 => ⟨rfl, (e.trans e2).trans e3⟩⟩
      rintro σ2 H3 ⟨rfl, e3⟩
      exact ⟨w.length - (i + 1), by omega, i + 1, rfl, hlt, rfl, e3, Fv.blanks_go hb h so⟩
    · rw [decide_eq_true hlt, Bool.true_and] at h
      refine s_ret (ev_is (ev_var rfl) ?_) fun H3 e3 => k H3 ((e.trans e2).trans e3)
      rw [Fv.blanks_stop hb h so]
  · refine ⟨false, et_and (a := false) (b := false) (et_is (et_test (ev_ltN (ev_var rfl) (ev_lenL (ev_var rfl) hq' (nums_len w)))) (decide_eq_false hlt)) fun h => absurd h (by decide), fun h => absurd h (by decide), fun _ H2 e2 => ?_⟩
    refine s_ret (ev_is (ev_var rfl) ?_) fun H3 e3 => k H3 ((e.trans e2).trans e3)
    rw [Fv.blanks_end (by omega) so]
theorem sv_many_blanks {q : Addr} {w : List Nat} (hq : H q = some (.lst (nums w))) : SpV (sp_many_blanks c) [.ref q] H (nV (w.takeWhile Ue07.isBlank).length) := fun H1 e Q k _ => ⟨q, w, rfl, e _ _ hq, k⟩

/-- a call whose last argument but so many is a slice -/
theorem pure_inset_of (T : Txt K mg c) : ∀ vs H Q E, sp_inset_of c vs H Q E → t_inset_of K c E { nx := fun _ H' => Q .non H', rt := Q } (start N_inset_of vs) H := by
  rintro vs H Q E ⟨p, q, l, w, rfl, hl, ht, hq, k⟩
  refine q_asg (ev_more T (ev_var rfl) hl) fun H1 e1 => ?_
  have last : ∀ H2, Ex H H2 → ∀ n, n = l.more + (if l.hang = true then Ue07.behind l 0 (w.takeWhile Ue07.isBlank) else 0) →
      tSeq (tIfS (tTest (tOp rLtI (tOp rAddI (tVar 2) (tC (.int 1))) (tFld K (tVar 0) "wide"))) (tRet (tVar 2)) tNext) (tRet (tC (.int 0))) { nx := fun _ H' => Q .non H', rt := Q } [some (.ref p), some (.ref q), some (nV n)] H2 := by
    intro H2 e2 n hn
    refine q_when (et_test (ev_ltN (ev_addN (ev_var rfl) (ev_num (n := 1) rfl)) (ev_wide T (ev_var rfl) (hl.mono e2)))) (fun h H3 e3 => ?_) (fun h H3 e3 => ?_)
    · refine s_ret (ev_is (ev_var rfl) ?_) fun H4 e4 => k H4 ((e2.trans e3).trans e4)
      have h' := of_decide_eq_true h
      unfold Ue07.inset
      simp only
      rw [← hn, if_neg (by omega)]
    · refine s_ret (ev_num (n := Ue07.inset l w) ?_) fun H4 e4 => k H4 ((e2.trans e3).trans e4)
      have h' := of_decide_eq_false h
      unfold Ue07.inset
      simp only
      rw [← hn, if_pos (by omega)]
      rfl
  refine q_when (et_test (ev_eqN (ev_hang T (ev_var rfl) (hl.mono e1)) (ev_num (n := 1) rfl))) (fun h H2 e2 => ?_) (fun h H2 e2 => ?_)
  · have hh : l.hang = true := by
      cases e : l.hang with
      | true => rfl
      | false =>
        rw [e] at h
        exact absurd h (by decide)
    have e12 := e1.trans e2
    have hq2 := e12 _ _ hq
    refine s_aug (b := ((Ue07.behind l 0 (w.takeWhile Ue07.isBlank) : Nat) : Int)) rfl (ev_callS (eas_cons (S := fun v _ => v = .ref p) (fun _ _ _ _ h => h) (EvR.of (ev_var rfl)) (eas_cons (fun x Ha Hb ea => by
      rintro ⟨q', rfl, h⟩
      exact ⟨q', rfl, ea _ _ h⟩) (en_slice (ev_var rfl) eo_none (eo_some (ev_call (ea_cons (ev_var rfl) ea_nil) (sv_many_blanks hq2))) hq2).toR (eas_of (ea_cons (ev_num (n := 0) rfl) ea_nil)))) ?_) fun H3 e3 => last H3 (e12.trans e3) _ ?_
    · rintro vs H3 e3 ⟨x, vs2, rfl, rfl, y, vs3, rfl, ⟨q', rfl, hq'⟩, rfl⟩
      rw [cutV_to, nums_take, Fv.takeWhile_take] at hq'
      exact sv_columns_behind (hl.mono (e12.trans e3)) ht hq'
    · rw [if_pos hh]
  · have hh : l.hang = false := by
      cases e : l.hang with
      | false => rfl
      | true =>
        rw [e] at h
        exact absurd h (by decide)
    refine last H2 (e1.trans e2) _ ?_
    rw [hh]
    simp
theorem sv_inset_of {p q : Addr} {l : Ue07.Look} {w : List Nat} (h : LookAt c H p l) (ht : 1 ≤ l.tab) (hq : H q = some (.lst (nums w))) : SpV (sp_inset_of c) [.ref p, .ref q] H (nV (Ue07.inset l w)) := fun H1 e Q k _ => ⟨p, q, l, w, rfl, h.mono e, ht, e _ _ hq, k⟩
end
end Fw
/-! The readings hold: rows of a line. -/
namespace Fw
open PySem PySem.Spec PyProof.Rows L2 Evl
section
variable {K : PySem.W.Frag} {mg : Str → Option Value} {c : Cc} {σ : L2.St} {H H' : Hp}

theorem pure_many_fit (T : Txt K mg c) : ∀ vs H Q E, sp_many_fit c vs H Q E → t_many_fit K c E { nx := fun _ H' => Q .non H', rt := Q } (start N_many_fit vs) H := by
  rintro vs H Q E ⟨p, q, l, w, n, rfl, hl, ht, hq, hne, k⟩
  refine q_asg (ev_num (n := 0) rfl) fun H1 e1 => ?_
  refine q_forLn (xs := nums w) (ev_var rfl) (sq_of (e1 _ _ hq)) (fun i σ' H' => ∃ col y, σ' = [some (.ref p), some (.ref q), some (nV col), some (nV i), y] ∧ Ex H H' ∧ Ue07.fits l n w = i + Ue07.fits l col (w.drop i)) (fun H2 e2 => ⟨n, none, rfl, e1.trans e2, by simp⟩) (fun i σ' H' _ ⟨_, _, _, e, _⟩ => sq_of (e _ _ hq)) ?_ ?_
  · rintro i x σ' H' hx ⟨col, y, rfl, e, so⟩
    obtain ⟨b, hb, rfl⟩ := nums_get' hx
    refine q_asg (ev_call (ea_cons (ev_var rfl) (ea_cons (ev_var rfl) (ea_cons (ev_var rfl) ea_nil))) (sv_column_behind (hl.mono e) ht)) fun H2 e2 => ?_
    refine q_when (et_test (ev_gtN (ev_var rfl) (ev_wide T (ev_var rfl) (hl.mono (e.trans e2))))) (fun h H3 e3 => ?_) (fun h H3 e3 => ?_)
    · refine s_ret (ev_is (ev_maxN (ev_num (n := 1) rfl) (ev_var rfl)) ?_) fun H4 e4 => k H4 (((e.trans e2).trans e3).trans e4)
      rw [Fv.fits_stop hb (of_decide_eq_true h) so]
    · exact s_aug rfl ev_c fun H4 e4 => ⟨_, some (nV b), rfl, ((e.trans e2).trans e3).trans e4, Fv.fits_go hb (of_decide_eq_false h) so⟩
  · rintro σ' H' ⟨col, y, rfl, e, so⟩
    refine s_ret (ev_is (ev_var rfl) ?_) fun H2 e2 => k H2 (e.trans e2)
    rw [nums_len] at so ⊢
    have hp : 0 < w.length := List.length_pos_iff.mpr hne
    have := Fv.fits_end (Nat.le_refl _) so
    rw [this, Nat.max_eq_right hp]
theorem sv_many_fit {p q : Addr} {l : Ue07.Look} {w : List Nat} {n : Nat} (h : LookAt c H p l) (ht : 1 ≤ l.tab) (hq : H q = some (.lst (nums w))) (hne : w ≠ []) : SpV (sp_many_fit c) [.ref p, .ref q, nV n] H (nV (max 1 (Ue07.fits l n w))) := fun H1 e Q k _ => ⟨p, q, l, w, n, rfl, h.mono e, ht, e _ _ hq, hne, k⟩

/-! ### data: whole numbers -/
def nD (n : Nat) : PyData := .int (n : Int)
theorem nDs_lay : ∀ l : List Nat, PyData.canLayAll0 (l.map nD) = true
  | [] => by simp [PyData.canLayAll0]
  | f :: l => by simp [PyData.canLayAll0, nD, PyData.canLay0, nDs_lay l]
theorem nDs_depth : ∀ l : List Nat, PyData.depthAll (l.map nD) ≤ 1
  | [] => by simp [PyData.depthAll]
  | f :: l => by
    have h1 := nDs_depth l
    simp only [List.map_cons, PyData.depthAll, nD, PyData.depth]
    omega
theorem nDs_shaped (w : List Nat) : SeqAt.shaped (.list (w.map nD)) = true := by
  refine shaped_of ?_ ?_
  · simp only [PyData.canLay0]
    exact nDs_lay w
  · have h1 := nDs_depth w
    simp only [PyData.depth]
    omega
theorem nums_dpA : ∀ w : List Nat, DpAll K H (nums w) (w.map nD)
  | [] => .nil
  | n :: w => .cons (.int _) (nums_dpA w)
theorem nums_dp {q : Addr} {w : List Nat} (h : H q = some (.lst (nums w))) : Dp K H (.ref q) (.list (w.map nD)) := .lst (sq_of h) (nums_dpA w)
theorem nil_shaped : SeqAt.shaped (.list []) = true := by
  refine shaped_of ?_ ?_
  · simp [PyData.canLay0, PyData.canLayAll0]
  · simp [PyData.depth, PyData.depthAll]
theorem eqv_nil (ds : List PyData) : PyData.eqv (.list ds) (.list []) = ds.isEmpty := by
  cases ds <;> simp [PyData.eqv, PyData.eqvAll]
theorem ev_isNil {ta : TE} {v : V} {ds : List PyData} (ha : Ev ta σ H v) (hd : ∀ H1, Ex H H1 → Dp K H1 v (.list ds)) (hs : SeqAt.shaped (.list ds) = true) : Ev (tOp (rEqD K) ta (tLst tNil)) σ H (.bl ds.isEmpty) :=
  ev_opN (q := v) ha (en_lst ea_nil (by decide)) fun p H1 hp e => rv_val fun H2 e2 Q q => ⟨_, _, hd H2 (e.trans e2), .lst (sq_of (e2 _ _ hp)) .nil, hs, nil_shaped, by rw [eqv_nil]; exact q⟩
theorem ev_notNil {ta : TE} {v : V} {ds : List PyData} (ha : Ev ta σ H v) (hd : ∀ H1, Ex H H1 → Dp K H1 v (.list ds)) (hs : SeqAt.shaped (.list ds) = true) : Ev (tOp (rNeD K) ta (tLst tNil)) σ H (.bl (!ds.isEmpty)) :=
  ev_opN (q := v) ha (en_lst ea_nil (by decide)) fun p H1 hp e => rv_val fun H2 e2 Q q => ⟨_, _, hd H2 (e.trans e2), .lst (sq_of (e2 _ _ hp)) .nil, hs, nil_shaped, by rw [eqv_nil]; exact q⟩
theorem ev_neg {ta : TE} {i : Int} (ha : Ev ta σ H (.int i)) : Ev (tUn (rU fun i => .int (-i)) ta) σ H (.int (-i)) := ev_un ha ru_neg

theorem pure_by_words : ∀ vs H Q E, sp_by_words c vs H Q E → t_by_words K c E { nx := fun _ H' => Q .non H', rt := Q } (start N_by_words vs) H := by
  rintro vs H Q E ⟨q, w, n, rfl, hq, hn, hz, k⟩
  have hb : w[n]? = some w[n] := List.getElem?_eq_getElem hn
  have hD : w.getD n 0 = w[n] := Fv.getD_of hb
  refine q_when (et_B (ev_call (ea_cons (ev_ixN (ev_var rfl) (ev_var rfl) hq hb) ea_nil) sv_is_blank)) (fun h H1 e1 => ?_) (fun h H1 e1 => ?_)
  · refine s_ret (ev_is (ev_addN (ev_var rfl) (ev_callS (z := nV ((w.drop n).takeWhile Ue07.isBlank).length) (eas_cons (fun x Ha Hb ea => by
      rintro ⟨q', rfl, h⟩
      exact ⟨q', rfl, ea _ _ h⟩) (en_slice (ev_var rfl) (eo_some (ev_var rfl)) eo_none (e1 _ _ hq)).toR (eas_of ea_nil)) ?_)) ?_) fun H2 e2 => k H2 (e1.trans e2)
    · rintro vs H2 e2 ⟨y, vs3, rfl, ⟨q', rfl, hq'⟩, rfl⟩
      rw [cutV_from, nums_drop] at hq'
      exact sv_many_blanks hq'
    · unfold Fv.wordsTake
      rw [hD, if_pos h]
  have hw : Fv.wordsTake w n = Ue07.cutAt w n := by
    unfold Fv.wordsTake
    rw [hD, if_neg (by rw [h]; decide)]
  refine q_asgN (en_lcR (fun j => Ue07.isBlank (w.getD j 0)) (ea_cons (ev_var rfl) ea_nil) (by omega) (fun _ => rfl) (fun i H2 e2 hi => et_B (ev_call (ea_cons (ev_ixN (ev_var rfl) (ev_var rfl) ((e1.trans e2) _ _ hq) (List.getElem?_eq_getElem (by omega))) ea_nil) ?_)) (fun i H2 e2 hi => ev_var rfl)) fun D H2 n2 e2 hD2 => ?_
  · have hb2 : w[i]? = some (w[i]'(by omega)) := List.getElem?_eq_getElem (by omega)
    rw [Fv.getD_of hb2]
    exact sv_is_blank
  have hD2' : H2 D = some (.lst (nums (Fv.blanksAhead w n))) := hD2
  refine q_when (et_test (ev_isNil (ev_var rfl) (fun H3 e3 => nums_dp (e3 _ _ hD2')) (nDs_shaped _))) (fun h H3 e3 => ?_) (fun h H3 e3 => ?_)
  · have he : Fv.blanksAhead w n = [] := by simpa using h
    refine s_ret (ev_is (ev_var rfl) ?_) fun H4 e4 => k H4 ((e1.trans e2).trans (e3.trans e4))
    rw [hw, Fv.cutAt_none (by omega) he]
  · have he : Fv.blanksAhead w n ≠ [] := by simpa using h
    have hl := List.dropLast_concat_getLast he
    refine s_ret (ev_is (ev_addN (ev_op (z := nV ((Fv.blanksAhead w n).getLast he)) (ev_var rfl) (ev_neg ev_c) (rv_ixL (sq_of (e3 _ _ hD2')) ?_)) (ev_num (n := 1) rfl)) ?_) fun H4 e4 => k H4 ((e1.trans e2).trans (e3.trans e4))
    · have e5 : nums (Fv.blanksAhead w n) = nums (Fv.blanksAhead w n).dropLast ++ [nV ((Fv.blanksAhead w n).getLast he)] := by
        conv => lhs; rw [← hl]
        unfold nums
        rw [List.map_append]
        rfl
      rw [e5]
      exact atI_last _ _
    · rw [hw, Fv.cutAt_some (by omega) hl.symm]
theorem sv_by_words {q : Addr} {w : List Nat} {n : Nat} (hq : H q = some (.lst (nums w))) (hn : n < w.length) (hz : w.length ≤ 1000) : SpV (sp_by_words c) [.ref q, nV n] H (nV (Fv.wordsTake w n)) := fun H1 e Q k _ => ⟨q, w, n, rfl, e _ _ hq, hn, hz, k⟩

theorem pure_many_taken (T : Txt K mg c) : ∀ vs H Q E, sp_many_taken c vs H Q E → t_many_taken K c E { nx := fun _ H' => Q .non H', rt := Q } (start N_many_taken vs) H := by
  rintro vs H Q E ⟨p, q, l, w, n, rfl, hl, ht, hq, hne, hz, k⟩
  have hfl := Fv.fits_le (k := l) w n
  have hp : 0 < w.length := List.length_pos_iff.mpr hne
  refine q_asg (ev_call (ea_cons (ev_var rfl) (ea_cons (ev_var rfl) (ea_cons (ev_var rfl) ea_nil))) (sv_many_fit hl ht hq hne)) fun H1 e1 => ?_
  refine q_when (et_and (et_test (ev_ltN (ev_var rfl) (ev_lenL (ev_var rfl) (e1 _ _ hq) (nums_len w)))) fun _ => et_test (ev_eqN (ev_words T (ev_var rfl) (hl.mono e1)) (ev_num (n := 1) rfl))) (fun h H2 e2 => ?_) (fun h H2 e2 => ?_)
  · rw [Bool.and_eq_true] at h
    have h1 := of_decide_eq_true h.1
    have h2 : l.words = true := by
      cases e : l.words with
      | true => rfl
      | false =>
        rw [e] at h
        exact absurd h.2 (by decide)
    refine s_ret (ev_is (ev_call (ea_cons (ev_var rfl) (ea_cons (ev_var rfl) ea_nil)) (sv_by_words ((e1.trans e2) _ _ hq) h1 hz)) ?_) fun H3 e3 => k H3 ((e1.trans e2).trans e3)
    rw [Fv.rowLength_words rfl h1 h2]
  · refine s_ret (ev_is (ev_var rfl) ?_) fun H3 e3 => k H3 ((e1.trans e2).trans e3)
    by_cases h1 : max 1 (Ue07.fits l n w) < w.length
    · have h2 : l.words = false := by
        cases e : l.words with
        | false => rfl
        | true =>
          rw [e, decide_eq_true h1] at h
          exact absurd h (by decide)
      rw [Fv.rowLength_plain rfl h1 h2]
    · rw [Fv.rowLength_all rfl (by omega)]
      refine congrArg nV ?_
      omega
theorem sv_many_taken {p q : Addr} {l : Ue07.Look} {w : List Nat} {n : Nat} (h : LookAt c H p l) (ht : 1 ≤ l.tab) (hq : H q = some (.lst (nums w))) (hne : w ≠ []) (hz : w.length ≤ 1000) : SpV (sp_many_taken c) [.ref p, .ref q, nV n] H (nV (Ue07.rowLength l n w)) := fun H1 e Q k _ => ⟨p, q, l, w, n, rfl, h.mono e, ht, e _ _ hq, hne, hz, k⟩

theorem pure_rows_of : ∀ vs H Q E, sp_rows_of c vs H Q E → t_rows_of K c E { nx := fun _ H' => Q .non H', rt := Q } (start N_rows_of vs) H := by
  rintro vs H Q E ⟨p, q, l, w, rfl, hl, ht, hq, hz, k⟩
  refine q_when (et_test (ev_isNil (ev_var rfl) (fun H1 e1 => nums_dp (e1 _ _ hq)) (nDs_shaped _))) (fun h H1 e1 => ?_) (fun h H1 e1 => ?_)
  · have he : w = [] := by simpa using h
    subst he
    refine s_retN (en_lstS (eas_cons (S := fun v H1 => ∃ t, v = .ref t ∧ H1 t = some (.tup [nV 0, nV 0, nV 0])) (fun x Ha Hb ea => by
      rintro ⟨t, rfl, h⟩
      exact ⟨t, rfl, ea _ _ h⟩) ((en_tup (ea_cons (ev_num (n := 0) rfl) (ea_cons (ev_num (n := 0) rfl) (ea_cons (ev_num (n := 0) rfl) ea_nil))) (by simp)).toR.imp fun v H2 _ s => s) (eas_of ea_nil)) (fun vs H2 s => ?_) (fun vs Ha Hb ea => ?_)) fun D H2 n2 e2 s => ?_
    · obtain ⟨x, vs2, rfl, _, rfl⟩ := s
      show 1 ≤ 100000
      decide
    · rintro ⟨x, vs2, rfl, ⟨t, rfl, h2⟩, rfl⟩
      exact ⟨_, _, rfl, ⟨t, rfl, ea _ _ h2⟩, rfl⟩
    · obtain ⟨vs, hD, x, vs2, rfl, ⟨t, rfl, h2⟩, rfl⟩ := s
      exact k D H2 (fresh_back e1 n2) (e1.trans e2) ⟨_, hD, Items.one ⟨t, rfl, h2⟩⟩
  have hne : w ≠ [] := by simpa using h
  refine q_asgN (en_lst ea_nil (by decide)) fun D H2 n2 e2 hD => ?_
  have nD : H D = none := fresh_back e1 n2
  refine q_asg (ev_num (n := 0) rfl) fun H3 e3 => ?_
  refine q_asg (ev_num (n := 0) rfl) fun H4 e4 => ?_
  refine q_while (fun m σ' H' => ∃ at_ col y acc ys, m = w.length - at_ ∧ σ' = [some (.ref p), some (.ref q), some (.ref D), some (nV at_), some (nV col), y] ∧ Ex H H' ∧ H' D = some (.lst ys) ∧ Items RowR H' ys acc ∧ acc.length ≤ at_ ∧ Fv.RowsSo l w acc at_ col) w.length
    ⟨0, 0, none, [], [], rfl, rfl, ((e1.trans e2).trans e3).trans e4, e4 _ _ (e3 _ _ hD), Items.nil, Nat.le_refl _, Fv.RowsSo.start hne⟩ ?_
  rintro m σ' H' ⟨a, col, y, acc, ys, rfl, rfl, e, hD', it, hacc, so⟩
  refine ⟨_, et_test (ev_ltN (ev_var rfl) (ev_lenL (ev_var rfl) (e _ _ hq) (nums_len w))), fun h H5 e5 => ?_, fun h H5 e5 => ?_⟩
  · have ha := of_decide_eq_true h
    have hne2 : w.drop a ≠ [] := by
      intro z
      have z2 := congrArg List.length z
      rw [List.length_drop] at z2
      simp at z2
      omega
    have rb := Fv.rowLength_bounds (k := l) (c := col) hne2
    rw [List.length_drop] at rb
    have eh := e.trans e5
    refine ⟨fun σ2 H6 => ∃ y acc ys, σ2 = [some (.ref p), some (.ref q), some (.ref D), some (nV (a + Ue07.rowLength l col (w.drop a))), some (nV (Ue07.inset l w)), y] ∧ Ex H H6 ∧ H6 D = some (.lst ys) ∧ Items RowR H6 ys acc ∧ acc.length ≤ a + Ue07.rowLength l col (w.drop a) ∧ Fv.RowsSo l w acc (a + Ue07.rowLength l col (w.drop a)) (Ue07.inset l w), ?_, ?_⟩
    · rintro σ2 H6 ⟨y, acc, ys, rfl, h2, h3, h4, h5, h6⟩
      exact ⟨_, by omega, _, _, y, acc, ys, rfl, rfl, h2, h3, h4, h5, h6⟩
    · refine q_asg (ev_addN (ev_var rfl) (ev_callS (z := nV (Ue07.rowLength l col (w.drop a))) (eas_cons (S := fun v _ => v = .ref p) (fun _ _ _ _ h => h) (EvR.of (ev_var rfl)) (eas_cons (fun x Ha Hb ea => by
        rintro ⟨q', rfl, h⟩
        exact ⟨q', rfl, ea _ _ h⟩) (en_slice (ev_var rfl) (eo_some (ev_var rfl)) eo_none (eh _ _ hq)).toR (eas_of (ea_cons (ev_var rfl) ea_nil)))) ?_)) fun H6 e6 => ?_
      · rintro vs H6 e6 ⟨x, vs2, rfl, rfl, y, vs3, rfl, ⟨q', rfl, hq'⟩, rfl⟩
        rw [cutV_from, nums_drop] at hq'
        exact sv_many_taken (hl.mono (eh.trans e6)) ht hq' hne2 (by rw [List.length_drop]; omega)
      have e56 := e5.trans e6
      refine q_appR (e56 _ _ hD') (ev_var rfl) (en_tup (ea_cons (ev_var rfl) (ea_cons (ev_var rfl) (ea_cons (ev_var rfl) ea_nil))) (by simp)).toR (by rw [it.len]; omega) fun v H7 e7 s => ?_
      obtain ⟨t, rfl, ht7⟩ := s
      have e57 := e56.trans e7
      have hD7 := e57 _ _ hD'
      have it7 := it.mono RowR.steady e57
      have rr : RowR H7 (.ref t) ⟨a, a + Ue07.rowLength l col (w.drop a), col⟩ := ⟨t, rfl, ht7⟩
      have it8 : Items RowR (upd H7 D (.lst (ys ++ [.ref t]))) (ys ++ [.ref t]) (acc ++ [⟨a, a + Ue07.rowLength l col (w.drop a), col⟩]) := (it7.firm RowR.firm hD7).snoc (RowR.firm H7 D ys _ _ _ hD7 rr)
      have e8 : Ex H (upd H7 D (.lst (ys ++ [.ref t]))) := Ex.mut (e.trans e57) nD
      refine q_asg (ev_var rfl) fun H9 e9 => ?_
      have e10 := e8.trans e9
      refine s_asg (ev_call (ea_cons (ev_var rfl) (ea_cons (ev_var rfl) ea_nil)) (sv_inset_of (hl.mono e10) ht (e10 _ _ hq))) fun H11 e11 => ?_
      exact ⟨_, _, _, rfl, e10.trans e11, e11 _ _ (e9 _ _ upd_same), it8.mono RowR.steady (e9.trans e11), by rw [List.length_append]; show acc.length + 1 ≤ _; omega, so.turn ha⟩
  · have ha := of_decide_eq_false h
    have hal := so.le
    refine s_ret (ev_var rfl) fun H6 e6 => k D H6 nD ((e.trans e5).trans e6) ⟨ys, (e5.trans e6) _ _ hD', ?_⟩
    rw [so.fin (by omega)]
    exact it.mono RowR.steady (e5.trans e6)
theorem sn_rows_of {p q : Addr} {l : Ue07.Look} {w : List Nat} (h : LookAt c H p l) (ht : 1 ≤ l.tab) (hq : H q = some (.lst (nums w))) (hz : w.length ≤ 1000) : SpN (sp_rows_of c) [.ref p, .ref q] H (fun q' H' => ListAt RowR H' q' (Ue07.rows l w)) := fun H1 e Q k _ => ⟨p, q, l, w, rfl, h.mono e, ht, e _ _ hq, hz, k⟩
end
end Fw
/-! The readings hold: places in rows. -/
namespace Fw
open PySem PySem.Spec PyProof.Rows L2 Evl
section
variable {K : PySem.W.Frag} {mg : Str → Option Value} {c : Cc} {σ : L2.St} {H H' : Hp}

theorem pure_is_in : ∀ vs H Q E, sp_is_in c vs H Q E → t_is_in K c E { nx := fun _ H' => Q .non H', rt := Q } (start N_is_in vs) H := by
  rintro vs H Q E ⟨q, x, w, r, n, rfl, hq, ⟨q2, rfl, hr⟩, k⟩
  exact s_ret (ev_orV (ev_ltN (ev_var rfl) (ev_t1 (ev_var rfl) hr)) fun _ => ev_eqN (ev_t1 (ev_var rfl) hr) (ev_lenL (ev_var rfl) hq (nums_len w))) k
theorem sv_is_in {q : Addr} {x : V} {w : List Nat} {r : Ue07.Row} {n : Nat} (hq : H q = some (.lst (nums w))) (h : RowR H x r) : SpV (sp_is_in c) [.ref q, x, nV n] H (.bl (decide (n < r.b) || decide (r.b = w.length))) := fun H1 e Q k _ => ⟨q, x, w, r, n, rfl, e _ _ hq, RowR.steady _ _ _ _ e h, k⟩

theorem pure_row_with : ∀ vs H Q E, sp_row_with c vs H Q E → t_row_with K c E { nx := fun _ H' => Q .non H', rt := Q } (start N_row_with vs) H := by
  rintro vs H Q E ⟨p, q, l, w, n, rfl, hl, ht, hq, hz, k⟩
  refine q_asg (ev_num (n := 0) rfl) fun H1 e1 => ?_
  have P := Fv.rows_parts l w
  show tFor _ _ _ _ _ _
  refine (en_call (ea_cons (ev_var rfl) (ea_cons (ev_var rfl) ea_nil)) (sn_rows_of (hl.mono e1) ht (e1 _ _ hq) hz)) H1 (Ex.refl H1) _ fun a H2 n2 e2 ⟨xs, ha, it⟩ => ?_
  refine ⟨a, xs, rfl, sq_of ha, for_enum (K := K) (xs := xs) (fun i σ' H' => ∃ y z, σ' = [some (.ref p), some (.ref q), some (nV n), some (nV (if Fv.rowNo w.length (Ue07.rows l w) n < i then Fv.rowNo w.length (Ue07.rows l w) n else 0)), y, z] ∧ Ex H2 H') ⟨none, none, rfl, Ex.refl H2⟩ (fun i σ' H' _ ⟨_, _, _, e⟩ => sq_of (e _ _ ha)) ?_ ?_⟩
  · rintro i x σ' H' Tt hx ⟨y, z, rfl, e⟩ hT
    obtain ⟨r, hr, rr⟩ := it.get' hx
    refine g_two upd_same ?_
    have eT : Ex H2 (upd H' Tt (.tup [nV i, x])) := e.trans (Ex.new hT)
    have eH := (e1.trans e2).trans eT
    have rr' := RowR.steady _ _ _ _ eT rr
    obtain ⟨q2, rfl, hq2⟩ := id rr'
    have hit := P.hit_iff (p := n) (Nat.zero_le _) i r hr
    refine s_when (et_and (et_test (ev_leN (ev_t0 (ev_var rfl) hq2) (ev_var rfl))) fun _ => et_B (ev_call (ea_cons (ev_var rfl) (ea_cons (ev_var rfl) (ea_cons (ev_var rfl) ea_nil))) (sv_is_in (eH _ _ hq) rr'))) (fun h H3 e3 => ?_) (fun h H3 e3 => ?_)
    · have hi := hit.mp h
      refine s_asg (ev_var rfl) fun H4 e4 => ⟨some (nV i), some (.ref q2), ?_, (eT.trans e3).trans e4⟩
      have e5 : (if Fv.rowNo w.length (Ue07.rows l w) n < i + 1 then Fv.rowNo w.length (Ue07.rows l w) n else 0) = i := by
        rw [if_pos (by omega)]
        exact hi.symm
      rw [e5]
      rfl
    · have hi : ¬ i = Fv.rowNo w.length (Ue07.rows l w) n := fun z => by
        have h2 := hit.mpr z
        have h3 : Fv.hit w.length r n = false := h
        rw [h3] at h2
        cases h2
      refine ⟨some (nV i), some (.ref q2), ?_, eT.trans e3⟩
      by_cases hlt : Fv.rowNo w.length (Ue07.rows l w) n < i
      · rw [if_pos hlt, if_pos (by omega)]
        rfl
      · rw [if_neg hlt, if_neg (by omega)]
        rfl
  · rintro σ' H' ⟨y, z, rfl, e⟩
    have hlt := P.no_lt n
    refine s_ret (ev_is (ev_var rfl) ?_) fun H3 e3 => k H3 (((e1.trans e2).trans e).trans e3)
    rw [it.len, if_pos hlt]
    rfl
theorem sv_row_with {p q : Addr} {l : Ue07.Look} {w : List Nat} {n : Nat} (h : LookAt c H p l) (ht : 1 ≤ l.tab) (hq : H q = some (.lst (nums w))) (hz : w.length ≤ 1000) : SpV (sp_row_with c) [.ref p, .ref q, nV n] H (nV (Ue07.rowAt l w n).1) := fun H1 e Q k _ => ⟨p, q, l, w, n, rfl, h.mono e, ht, e _ _ hq, hz, k⟩

theorem pure_column_in : ∀ vs H Q E, sp_column_in c vs H Q E → t_column_in K c E { nx := fun _ H' => Q .non H', rt := Q } (start N_column_in vs) H := by
  rintro vs H Q E ⟨p, q, x, l, w, r, n, rfl, hl, ht, hq, ⟨q2, rfl, hr⟩, k⟩
  refine s_ret (ev_callS (eas_cons (S := fun v _ => v = .ref p) (fun _ _ _ _ h => h) (EvR.of (ev_var rfl)) (eas_cons (fun x Ha Hb ea => by
        rintro ⟨q', rfl, h⟩
        exact ⟨q', rfl, ea _ _ h⟩) (en_slice (ev_var rfl) (eo_some (ev_t0 (ev_var rfl) hr)) (eo_some (ev_var rfl)) hq).toR (eas_of (ea_cons (ev_t2 (ev_var rfl) hr) ea_nil)))) ?_) k
  rintro vs H6 e6 ⟨x, vs2, rfl, rfl, y, vs3, rfl, ⟨q', rfl, hq'⟩, rfl⟩
  rw [cutV_both, nums_take, nums_drop] at hq'
  exact sv_columns_behind (hl.mono e6) ht hq'
theorem sv_column_in {p q : Addr} {x : V} {l : Ue07.Look} {w : List Nat} {r : Ue07.Row} {n : Nat} (h : LookAt c H p l) (ht : 1 ≤ l.tab) (hq : H q = some (.lst (nums w))) (hr : RowR H x r) : SpV (sp_column_in c) [.ref p, .ref q, x, nV n] H (nV (Ue07.behind l r.col ((w.take n).drop r.a))) :=
  fun H1 e Q k _ => ⟨p, q, x, l, w, r, n, rfl, h.mono e, ht, e _ _ hq, RowR.steady _ _ _ _ e hr, k⟩

theorem pure_place_for : ∀ vs H Q E, sp_place_for c vs H Q E → t_place_for K c E { nx := fun _ H' => Q .non H', rt := Q } (start N_place_for vs) H := by
  rintro vs H Q E ⟨p, q, x, l, w, r, n, rfl, hl, ht, hq, hz, hr0, ⟨hab, hbl, hb⟩, k⟩
  obtain ⟨q2, rfl, hr⟩ := id hr0
  have ge := Fv.lastOf_ge (n := w.length) hab hb
  have le := Fv.lastOf_le (n := w.length) (r := r)
  refine q_asg (ev_t1 (ev_var rfl) hr) fun H1 e1 => ?_
  have rest : ∀ H2, Ex H H2 → tSeq (tAsg (tOp (rIxT K) (tVar 2) (tC (.int 0))) (gName 5))
      (tSeq (tFor (iRng2 (tCons (tOp (rIxT K) (tVar 2) (tC (.int 0))) (tCons (tOp rAddI (tVar 4) (tC (.int 1))) tNil))) (gName 6) (tIfS (tTest (tOp rLeI (tCall (sp_column_in c) [] E0 (tCons (tVar 0) (tCons (tVar 1) (tCons (tVar 2) (tCons (tVar 6) tNil))))) (tVar 3))) (tAsg (tVar 6) (gName 5)) tNext))
      (tRet (tVar 5))) { nx := fun _ H' => Q .non H', rt := Q } [some (.ref p), some (.ref q), some (.ref q2), some (nV n), some (nV (Fv.lastOf w.length r)), none, none] H2 := by
    intro H2 e2
    refine q_asg (ev_t0 (ev_var rfl) (e2 _ _ hr)) fun H3 e3 => ?_
    have e23 := e2.trans e3
    refine q_forR2 (lo := (r.a : Int)) (n := ((Fv.lastOf w.length r + 1 : Nat) : Int)) (ea_cons (ev_t0 (ev_var rfl) (e23 _ _ hr)) (ea_cons (ev_addN (ev_var rfl) (ev_num (n := 1) rfl)) ea_nil)) (by omega)
      (fun i σ' H' => ∃ y, σ' = [some (.ref p), some (.ref q), some (.ref q2), some (nV n), some (nV (Fv.lastOf w.length r)), some (nV (r.a + min (i - 1) (Fv.upTo l n r.col ((w.take r.b).drop r.a)))), y] ∧ Ex H H') (fun H4 e4 => ⟨none, by simp, e23.trans e4⟩) ?_ ?_
    · rintro i σ' H' hi ⟨y, rfl, e⟩
      have hi2 : r.a + i ≤ r.b := by omega
      have pt := Fv.place_turn ht (w := w) (r := r) (want := n) (i := i) hbl hi2
      refine s_when (et_test (ev_leN (ev_call (ea_cons (ev_var rfl) (ea_cons (ev_var rfl) (ea_cons (ev_var rfl) (ea_cons (ev_is (ev_var rfl) (w := nV (r.a + i)) (by simp [nV])) ea_nil)))) (sv_column_in (hl.mono e) ht (e _ _ hq) (RowR.steady _ _ _ _ e hr0))) (ev_var rfl))) (fun h H4 e4 => ?_) (fun h H4 e4 => ?_)
      · rw [if_pos (of_decide_eq_true h)] at pt
        refine s_asg (ev_is (ev_var rfl) (w := nV (r.a + i)) (by simp [nV])) fun H5 e5 => ⟨some (.int ((r.a : Int) + (i : Int))), ?_, (e.trans e4).trans e5⟩
        rw [Nat.add_sub_cancel, ← pt]
        rfl
      · rw [if_neg (of_decide_eq_false h)] at pt
        refine ⟨some (.int ((r.a : Int) + (i : Int))), ?_, e.trans e4⟩
        rw [Nat.add_sub_cancel, ← pt]
        rfl
    · rintro σ' H' ⟨y, rfl, e⟩
      refine s_ret (ev_is (ev_var rfl) ?_) fun H4 e4 => k H4 (e.trans e4)
      have e5 : (((Fv.lastOf w.length r + 1 : Nat) : Int) - (r.a : Int)).toNat - 1 = Fv.lastOf w.length r - r.a := by omega
      rw [e5, Fv.place_end hbl ge]
  refine q_when (et_test (ev_ltN (ev_var rfl) (ev_lenL (ev_var rfl) (e1 _ _ hq) (nums_len w)))) (fun h H2 e2 => ?_) (fun h H2 e2 => ?_)
  · have h' := of_decide_eq_true h
    have e12 := e1.trans e2
    refine s_asg (ev_subN (ev_t1 (ev_var rfl) (e12 _ _ hr)) (ev_num (n := 1) rfl) (by have := hb h'; omega)) fun H3 e3 => ?_
    have eL : Fv.lastOf w.length r = r.b - 1 := if_pos h'
    have R := rest H3 (e12.trans e3)
    rw [eL] at R
    exact R
  · have h' := of_decide_eq_false h
    have eL : Fv.lastOf w.length r = r.b := if_neg h'
    have R := rest H2 (e1.trans e2)
    rw [eL] at R
    exact R
theorem sv_place_for {p q : Addr} {x : V} {l : Ue07.Look} {w : List Nat} {r : Ue07.Row} {n : Nat} (h : LookAt c H p l) (ht : 1 ≤ l.tab) (hq : H q = some (.lst (nums w))) (hz : w.length ≤ 1000) (hr : RowR H x r) (hb : r.a ≤ r.b ∧ r.b ≤ w.length ∧ (r.b < w.length → r.a < r.b)) : SpV (sp_place_for c) [.ref p, .ref q, x, nV n] H (nV (Ue07.placeIn l w r n)) :=
  fun H1 e Q k _ => ⟨p, q, x, l, w, r, n, rfl, h.mono e, ht, e _ _ hq, hz, RowR.steady _ _ _ _ e hr, hb, k⟩
end
end Fw
/-! The readings hold: the page, what only looks. -/
namespace Fw
open PySem PySem.Spec PyProof.Rows L2 Evl
section
variable {K : PySem.W.Frag} {mg : Str → Option Value} {c : Cc} {σ : L2.St} {H H' : Hp} {p pf : Addr} {g : Ue07.St}

theorem pure_Page_init (T : Txt K mg c) : ∀ vs H Q E, sp_Page_init c vs H Q E → t_Page_init K c E { nx := fun _ H' => Q .non H', rt := Q } (start N_Page_init vs) H := by
  rintro vs H Q E ⟨p, dx, rfl, hp, k⟩
  refine q_fldN (ev_var rfl) (en_lstS (eas_cons (S := fun v H1 => ∃ q, v = .ref q ∧ H1 q = some (.lst [])) (fun x Ha Hb ea => by
      rintro ⟨t, rfl, h⟩
      exact ⟨t, rfl, ea _ _ h⟩) (en_lst ea_nil (by decide)).toR (eas_of ea_nil)) (fun vs H2 s => ?_) (fun vs Ha Hb ea => ?_)) hp T.clsP T.p_lines (by decide) (fun q Ha Hb ea => ?_) fun pl H1 n1 e1 s1 => ?_
  · obtain ⟨x, vs2, rfl, _, rfl⟩ := s
    show 1 ≤ 100000
    decide
  · rintro ⟨x, vs2, rfl, ⟨t, rfl, h2⟩, rfl⟩
    exact ⟨_, _, rfl, ⟨t, rfl, ea _ _ h2⟩, rfl⟩
  · rintro ⟨vs, h0, x, vs2, rfl, ⟨t, rfl, h2⟩, rfl⟩
    exact ⟨_, ea _ _ h0, _, _, rfl, ⟨t, rfl, ea _ _ h2⟩, rfl⟩
  obtain ⟨vs, hpl, x, vs2, rfl, ⟨q, rfl, hq⟩, rfl⟩ := s1
  have k1 : K1 p H1 (upd H1 p (.ins c.CP dx (putF "lines" (.ref pl) []))) := K1.upd
  refine q_fldN (ev_var rfl) (en_Look (w := 20) (tb' := 8) (m := 0) (h := 0) (x := 1) (ea_cons (ev_num rfl) (ea_cons (ev_num rfl) (ea_cons (ev_num rfl) (ea_cons (ev_num rfl) (ea_cons (ev_num rfl) ea_nil)))))) upd_same T.clsP T.p_shape (by show 1 < 1000; decide) (fun q Ha Hb ea => ?_) fun ps H2 n2 e2 s2 => ?_
  · rintro ⟨dl, h⟩
    exact ⟨dl, ea _ _ h⟩
  obtain ⟨dl, hps⟩ := s2
  have nps : ps ≠ p := fun z => by
    rw [z, upd_same] at n2
    cases n2
  have npl : pl ≠ p := (ne_of_none hp n1).symm
  have nq : q ≠ p := fun z => by
    rw [z, e1 _ _ hp] at hq
    cases hq
  have k2 := k1.trans (K1.of e2)
  refine q_fldN (ev_var rfl) (en_lst ea_nil (by decide)) upd_same T.clsP T.p_folds (by show 2 < 1000; decide) (fun q Ha Hb ea h => ea _ _ h) fun pf H3 n3 e3 hpf => ?_
  have npf : pf ≠ p := fun z => by
    rw [z, upd_same] at n3
    cases n3
  have k3 : K1 p H2 H3 := K1.upd.trans (K1.of e3)
  refine q_fld (ev_var rfl) (ev_num (n := 0) rfl) upd_same T.clsP T.p_line (by show 3 < 1000; decide) fun H4 e4 => ?_
  refine q_fld (ev_var rfl) (ev_num (n := 0) rfl) upd_same T.clsP T.p_place (by show 4 < 1000; decide) fun H5 e5 => ?_
  refine q_fld (ev_var rfl) ev_c upd_same T.clsP T.p_wished (by show 5 < 1000; decide) fun H6 e6 => ?_
  refine q_fld (ev_var rfl) (ev_num (n := 0) rfl) upd_same T.clsP T.p_top (by show 6 < 1000; decide) fun H7 e7 => ?_
  refine q_fld (ev_var rfl) (ev_num (n := 10) rfl) upd_same T.clsP T.p_high (by show 7 < 1000; decide) fun H8 e8 => ?_
  refine s_fld (ev_var rfl) (ev_num (n := 0) rfl) upd_same T.clsP T.p_told_margin (by show 8 < 1000; decide) fun H9 e9 => ?_
  have k9 : ∀ o, K1 p H3 (upd H9 p o) := fun o => (((((((K1.upd.trans (K1.of e4)).trans K1.upd).trans (K1.of e5)).trans K1.upd).trans (K1.of e6)).trans K1.upd).trans (K1.of e7)).trans ((K1.upd.trans (K1.of e8)).trans ((K1.upd.trans (K1.of e9)).trans K1.upd))
  have n3' : ∀ {b : Addr} {o : HO}, H2 b = some o → b ≠ p → b ≠ pf := fun {b o} hb ne z => by
    rw [z] at hb ne
    rw [upd_ne ne] at n3
    rw [hb] at n3
    cases n3
  have a1 : ∀ {b : Addr} {o : HO}, H1 b = some o → b ≠ p → H2 b = some o := fun {b o} hb ne => k2 b o hb ne
  have hfree : H pf = none := by
    cases e : H pf with
    | none => rfl
    | some o =>
      have := a1 (e1 _ _ e) npf
      exact absurd rfl (n3' this npf)
  refine k _ pf hfree (fun b o hb ne => k9 _ b o (k3 b o (a1 (e1 b o hb) ne) ne) ne) ⟨dx, pl, ps, upd_same, ⟨dl, k9 _ _ _ (k3 _ _ hps nps) nps⟩, ?_, ⟨[], k9 _ _ _ hpf npf, Items.nil⟩⟩
  refine ⟨[.ref q], hide_at (k9 _ _ _ (k3 _ _ (a1 hpl npl) npl) npl) (n3' (a1 hpl npl) npl) (by intro z; cases z), Items.one ⟨q, rfl, hide_at (k9 _ _ _ (k3 _ _ (a1 hq nq) nq) nq) (n3' (a1 hq nq) nq) (by intro z; cases z)⟩⟩

theorem pure_margin (T : Txt K mg c) : ∀ vs H Q E, sp_margin c vs H Q E → t_margin K c E { nx := fun _ H' => Q .non H', rt := Q } (start N_margin vs) H := by
  rintro vs H Q E ⟨p, pf, g, rfl, P, hh, k⟩
  obtain ⟨dx, pl, ps, I⟩ := P.get
  exact s_ret (ev_minN (ev_fld (ev_var rfl) I.obj T.clsP T.p_told_margin rfl) (ev_divN (ev_subN (ev_fld (ev_var rfl) I.obj T.clsP T.p_high rfl) (ev_num (n := 1) rfl) hh) (ev_num (n := 2) rfl) (by omega) (by omega))) k
theorem sv_margin (P : PageAt c H p pf g) (hh : 1 ≤ g.high) : SpV (sp_margin c) [.ref p] H (nV (Fv.marginOf g)) := fun H1 e Q k _ => ⟨p, pf, g, rfl, P.mono e, hh, k⟩

theorem pure_rows (T : Txt K mg c) : ∀ vs H Q E, sp_rows c vs H Q E → t_rows K c E { nx := fun _ H' => Q .non H', rt := Q } (start N_rows vs) H := by
  rintro vs H Q E ⟨p, pf, g, rfl, P, tx, k⟩
  obtain ⟨dx, pl, ps, I⟩ := P.get
  refine q_asgN (en_lst ea_nil (by decide)) fun D H1 n1 e1 hD => ?_
  obtain ⟨xs, hxs, it⟩ := I.lines
  have hxs' := hide_le _ _ hxs
  show tFor _ _ _ _ _ _
  refine (ev_fld (ev_var rfl) (e1 _ _ I.obj) T.clsP T.p_lines rfl) H1 (Ex.refl H1) _ fun H2 e2 => ?_
  have e12 := e1.trans e2
  refine ⟨pl, xs, rfl, sq_of (e12 _ _ hxs'), for_enum (K := K) (xs := xs) (fun i σ' H' => ∃ y z ys, σ' = [some (.ref p), some (.ref D), y, z, none] ∧ Ex H H' ∧ H' D = some (.lst ys) ∧ Items NRowR H' ys (Fv.rowsTo g.look g.lines g.folds i)) ⟨none, none, [], rfl, e12, e2 _ _ hD, Items.nil⟩ (fun i σ' H' _ ⟨_, _, _, _, e, _⟩ => sq_of (e _ _ hxs')) ?_ ?_⟩
  · rintro i x σ' H' Tt hx ⟨y, z, ys, rfl, e, hD', iy⟩ hT
    obtain ⟨w, hw, q, rfl, hq⟩ := it.get' hx
    have hi := (List.getElem?_eq_some_iff.mp hw).1
    have hq' := hide_le _ _ hq
    have hwl := tx.len w (List.mem_of_getElem? hw)
    refine g_two upd_same ?_
    have eT := e.trans (Ex.new (o := .tup [nV i, .ref q]) hT)
    have IT := I.mono eT
    have hDT := Ex.new (o := .tup [nV i, .ref q]) hT _ _ hD'
    have iyT := iy.mono NRowR.steady (Ex.new (o := .tup [nV i, .ref q]) hT)
    have hlen : ys.length ≤ 30 * 121 := by
      rw [iy.len]
      refine Nat.le_trans (Fv.rowsTo_len (k := g.look) (l := g.folds) tx.len i) ?_
      exact Nat.mul_le_mul_right 121 (by have := tx.many; omega)
    refine s_when (et_B (ev_call (ea_cons (ev_fld (ev_var rfl) IT.obj T.clsP T.p_folds rfl) (ea_cons (ev_var rfl) ea_nil)) (sv_is_seen IT.folds (by have := tx.folds.1; omega)))) (fun h H3 e3 => ?_) (fun h H3 e3 => ?_)
    · have hh : Ue07.hidden g.folds i = false := by simpa using h
      have I3 := IT.mono e3
      have e30 := eT.trans e3
      refine s_extN (n := 0) (SN := fun q H1 => ListAt NRowR H1 q (((Ue07.rows g.look w).filter fun _ => true).map fun r => (i, r))) (e3 _ _ hDT) (ev_var rfl) (en_lcNn (R := RowR) (R2 := NRowR) (fun _ => true) (fun r => (i, r)) RowR.steady NRowR.steady NRowR.firm (en_call (ea_cons (ev_fld (ev_var rfl) I3.obj T.clsP T.p_shape rfl) (ea_cons (ev_var rfl) ea_nil)) (sn_rows_of I3.look tx.tab (e30 _ _ hq') (by omega))) (by have := Fv.rows_len g.look w; omega) (fun _ => rfl)
        (fun x r H4 e4 hm rr => fun H5 e5 Q q => q H5 (Ex.refl H5)) (fun x r H4 e4 hm _ rr => ?_)) (fun q4 H4 s => ?_) fun q4 zs H4 n4 e4 s hzs => ?_
      · intro H5 e5 Q kq
        exact en_tup (ea_cons (ev_var rfl) (ea_cons (ev_var rfl) ea_nil)) (by simp) H5 e5 Q fun t H6 n6 e6 h6 => kq _ H6 e6 ⟨t, _, rfl, h6, RowR.steady _ _ _ _ (e5.trans e6) rr⟩
      · obtain ⟨zs, h1, h2⟩ := s
        refine ⟨zs, h1, ?_⟩
        have := h2.len
        rw [filter_all, List.length_map] at this
        have := Fv.rows_len g.look w
        omega
      · obtain ⟨zs', h1, h2⟩ := s
        rw [hzs] at h1
        cases h1
        have hD4 := e4 _ _ (e3 _ _ hDT)
        refine ⟨some (nV i), some (.ref q), _, rfl, Ex.mut (e30.trans e4) n1, upd_same, ?_⟩
        rw [Fv.rowsTo_seen hw hh]
        rw [filter_all] at h2
        exact ((iyT.mono NRowR.steady (e3.trans e4)).firm NRowR.firm hD4).append (h2.firm NRowR.firm hD4)
    · have hh : Ue07.hidden g.folds i = true := by simpa using h
      refine ⟨some (nV i), some (.ref q), ys, rfl, eT.trans e3, e3 _ _ hDT, ?_⟩
      rw [Fv.rowsTo_hidden hh]
      exact iyT.mono NRowR.steady e3
  · rintro σ' H' ⟨y, z, ys, rfl, e, hD', iy⟩
    refine s_ret (ev_var rfl) fun H3 e3 => k D H3 n1 (e.trans e3) ⟨ys, e3 _ _ hD', ?_⟩
    rw [it.len] at iy
    exact iy.mono NRowR.steady e3
theorem sn_rows (P : PageAt c H p pf g) (tx : Fv.Text g) : SpN (sp_rows c) [.ref p] H (fun q H' => ListAt NRowR H' q (Ue07.allRows g)) := fun H1 e Q k _ => ⟨p, pf, g, rfl, P.mono e, tx, k⟩
end
end Fw
/-! The readings hold: the page, rows and columns of places; scrolled, settled, put_into. -/
namespace Fw
open PySem PySem.Spec PyProof.Rows L2 Evl
section
variable {K : PySem.W.Frag} {mg : Str → Option Value} {c : Cc} {σ : L2.St} {H H' : Hp} {p pf : Addr} {g : Ue07.St}

theorem pure_row_at (T : Txt K mg c) : ∀ vs H Q E, sp_row_at c vs H Q E → t_row_at K c E { nx := fun _ H' => Q .non H', rt := Q } (start N_row_at vs) H := by
  rintro vs H Q E ⟨p, pf, g, n, m, rfl, P, tx, hn, k⟩
  obtain ⟨dx, pl, ps, I⟩ := P.get
  refine q_asgN (SN := fun q H1 => ListAt IntR H1 q (((Ue07.allRows g).filter fun x => decide (x.1 < n)).map (·.1))) (en_lcN (R := NRowR) (R2 := IntR) (fun x => decide (x.1 < n)) (·.1) NRowR.steady IntR.steady IntR.firm (en_meth (ev_var rfl) I.obj rfl ea_nil (sn_rows P tx)) (by have := tx.rowCount; omega) (fun x r H1 e1 hm rr Q k => ?_)) fun D H1 n1 e1 hD => ?_
  · obtain ⟨q, y, rfl, hq, rr⟩ := rr
    exact g_two hq (k _ H1 rfl (et_test (ev_ltN (ev_var rfl) (ev_var rfl))) (fun _ => EvR.of (ev_var rfl)) (Ex.refl H1))
  have hD1 := nums_of hD
  have I1 := I.mono e1
  obtain ⟨xs, q, hpl, hx, hq⟩ := I1.line hn
  have eL : (((Ue07.allRows g).filter fun x => decide (x.1 < n)).map (·.1)).length = Ue07.rowsAhead g n := by
    rw [List.length_map, Fv.allRows_to, Fv.rowsTo_ahead (by omega), Fv.rowsAhead_to (by omega)]
  refine s_ret (ev_addN (ev_lenL (ev_var rfl) hD1 (by rw [nums_len]; exact eL)) (ev_call (ea_cons (ev_fld (ev_var rfl) I1.obj T.clsP T.p_shape rfl) (ea_cons (ev_ixL (ev_fld (ev_var rfl) I1.obj T.clsP T.p_lines rfl) (ev_var rfl) hpl hx) (ea_cons (ev_var rfl) ea_nil))) (sv_row_with I1.look tx.tab hq (by have := Fv.lineAt_len tx n; omega)))) fun H2 e2 => k H2 (e1.trans e2)
theorem sv_row_at {n m : Nat} (P : PageAt c H p pf g) (tx : Fv.Text g) (hn : n < g.lines.length) : SpV (sp_row_at c) [.ref p, nV n, nV m] H (nV (Ue07.rowsAhead g n + (Ue07.rowAt g.look (Ue07.lineAt g n) m).1)) := fun H1 e Q k _ => ⟨p, pf, g, n, m, rfl, P.mono e, tx, hn, k⟩

theorem pure_own_row (T : Txt K mg c) : ∀ vs H Q E, sp_own_row c vs H Q E → t_own_row K c E { nx := fun _ H' => Q .non H', rt := Q } (start N_own_row vs) H := by
  rintro vs H Q E ⟨p, pf, g, rfl, P, tx, hn, k⟩
  obtain ⟨dx, pl, ps, I⟩ := P.get
  exact s_ret (ev_meth (ev_var rfl) I.obj rfl (ea_cons (ev_fld (ev_var rfl) I.obj T.clsP T.p_line rfl) (ea_cons (ev_fld (ev_var rfl) I.obj T.clsP T.p_place rfl) ea_nil)) (sv_row_at P tx hn)) k
theorem sv_own_row (P : PageAt c H p pf g) (tx : Fv.Text g) (hn : g.line < g.lines.length) : SpV (sp_own_row c) [.ref p] H (nV (Ue07.pointRow g)) := fun H1 e Q k _ => ⟨p, pf, g, rfl, P.mono e, tx, hn, k⟩

theorem pure_column_at (T : Txt K mg c) : ∀ vs H Q E, sp_column_at c vs H Q E → t_column_at K c E { nx := fun _ H' => Q .non H', rt := Q } (start N_column_at vs) H := by
  rintro vs H Q E ⟨p, pf, g, n, m, rfl, P, tx, hn, k⟩
  obtain ⟨dx, pl, ps, I⟩ := P.get
  obtain ⟨xs, q, hpl, hx, hq⟩ := I.line hn
  have hw := Fv.lineAt_len tx n
  refine q_asg (ev_ixL (ev_fld (ev_var rfl) I.obj T.clsP T.p_lines rfl) (ev_var rfl) hpl hx) fun H1 e1 => ?_
  have I1 := I.mono e1
  have hq1 := e1 _ _ hq
  obtain ⟨r, hr, _⟩ := (Fv.rows_parts g.look (Ue07.lineAt g n)).at_no m
  refine q_asgR (S := fun v H1 => RowR H1 v r) (er_opN1 (en_call (ea_cons (ev_fld (ev_var rfl) I1.obj T.clsP T.p_shape rfl) (ea_cons (ev_var rfl) ea_nil)) (sn_rows_of I1.look tx.tab hq1 (by omega))) (fun a H2 s e2 => ?_) (fun z Ha Hb e h => RowR.steady _ _ _ _ e h)) fun v H2 e2 rr => ?_
  · obtain ⟨ys, hy, it⟩ := s
    obtain ⟨y, hy2, ry⟩ := it.get hr
    have I2 := I1.mono e2
    exact ⟨nV (Ue07.rowAt g.look (Ue07.lineAt g n) m).1, y, ev_call (ea_cons (ev_fld (ev_var rfl) I2.obj T.clsP T.p_shape rfl) (ea_cons (ev_var rfl) (ea_cons (ev_var rfl) ea_nil))) (sv_row_with I2.look tx.tab (e2 _ _ hq1) (by omega)), fun H3 e3 => ⟨rv_ixL (sq_of (e3 _ _ hy)) (atI_nat hy2), RowR.steady _ _ _ _ e3 ry⟩⟩
  have I2 := I1.mono e2
  have wide := tx.wide
  refine s_ret (ev_is (ev_minN (ev_call (ea_cons (ev_fld (ev_var rfl) I2.obj T.clsP T.p_shape rfl) (ea_cons (ev_var rfl) (ea_cons (ev_var rfl) (ea_cons (ev_var rfl) ea_nil)))) (sv_column_in I2.look tx.tab (e2 _ _ hq1) rr)) (ev_subN (ev_wide T (ev_fld (ev_var rfl) I2.obj T.clsP T.p_shape rfl) I2.look) (ev_num (n := 1) rfl) (by omega))) ?_) fun H3 e3 => k H3 ((e1.trans e2).trans e3)
  have eR : (Ue07.rowAt g.look (Ue07.lineAt g n) m).2 = r := by
    rw [Fv.rowAt_no]
    show (Ue07.rows g.look (Ue07.lineAt g n)).getD _ _ = r
    rw [List.getD_eq_getElem?_getD, hr]
    rfl
  unfold Ue07.colAt
  simp only
  rw [eR]
theorem sv_column_at {n m : Nat} (P : PageAt c H p pf g) (tx : Fv.Text g) (hn : n < g.lines.length) : SpV (sp_column_at c) [.ref p, nV n, nV m] H (nV (Ue07.colAt g.look (Ue07.lineAt g n) m)) := fun H1 e Q k _ => ⟨p, pf, g, n, m, rfl, P.mono e, tx, hn, k⟩

theorem pure_told (T : Txt K mg c) : ∀ vs H Q E, sp_told c vs H Q E → t_told K c E { nx := fun _ H' => Q .non H', rt := Q } (start N_told vs) H := by
  rintro vs H Q E ⟨p, pf, g, rfl, P, tx, hn, k⟩
  obtain ⟨dx, pl, ps, I⟩ := P.get
  refine q_asg (ev_meth (ev_var rfl) I.obj rfl (ea_cons (ev_fld (ev_var rfl) I.obj T.clsP T.p_line rfl) (ea_cons (ev_fld (ev_var rfl) I.obj T.clsP T.p_place rfl) ea_nil)) (sv_column_at P tx hn)) fun H1 e1 => ?_
  have I1 := I.mono e1
  exact s_retN (en_lst (ea_cons (ev_fld (ev_var rfl) I1.obj T.clsP T.p_line rfl) (ea_cons (ev_fld (ev_var rfl) I1.obj T.clsP T.p_place rfl) (ea_cons (ev_subI (ev_meth (ev_var rfl) I1.obj rfl ea_nil (sv_own_row I1.at_ tx hn)) (ev_fld (ev_var rfl) I1.obj T.clsP T.p_top rfl)) (ea_cons (ev_var rfl) ea_nil)))) (by simp)) (k.go e1)
theorem sn_told (P : PageAt c H p pf g) (tx : Fv.Text g) (hn : g.line < g.lines.length) : SpN (sp_told c) [.ref p] H (fun q H' => H' q = some (.lst ((pAns g).map V.int))) := fun H1 e Q k _ => ⟨p, pf, g, rfl, P.mono e, tx, hn, k⟩

theorem pure_last_top (T : Txt K mg c) : ∀ vs H Q E, sp_last_top c vs H Q E → t_last_top K c E { nx := fun _ H' => Q .non H', rt := Q } (start N_last_top vs) H := by
  rintro vs H Q E ⟨p, pf, g, rfl, P, tx, k⟩
  obtain ⟨dx, pl, ps, I⟩ := P.get
  refine s_ret (ev_is (ev_max2 (i := 0) ev_c (ev_subI (ev_lenX (K := K) (q := p) (n := Ue07.rowCount g) (en_meth (ev_var rfl) I.obj rfl ea_nil (sn_rows P tx)) (fun q H1 s => ?_)) (ev_fld (ev_var rfl) I.obj T.clsP T.p_high rfl))) ?_) k
  · obtain ⟨xs, h1, h2⟩ := s
    exact ⟨xs, h1, h2.len⟩
  · refine congrArg V.int ?_
    split <;> omega
theorem sv_last_top (P : PageAt c H p pf g) (tx : Fv.Text g) : SpV (sp_last_top c) [.ref p] H (nV (Ue07.rowCount g - g.high)) := fun H1 e Q k _ => ⟨p, pf, g, rfl, P.mono e, tx, k⟩

theorem pure_scrolled (T : Txt K mg c) : ∀ vs H Q E, sp_scrolled c vs H Q E → t_scrolled K c E { nx := fun _ H' => Q .non H', rt := Q } (start N_scrolled vs) H := by
  rintro vs H Q E ⟨p, pf, g, rfl, P, tx, hn, k⟩
  obtain ⟨dx, pl, ps, I⟩ := P.get
  refine q_par (ev_meth (ev_var rfl) I.obj rfl ea_nil (sv_own_row P tx hn)) (ev_meth (ev_var rfl) I.obj rfl ea_nil (sv_margin P tx.high)) fun H1 e1 => ?_
  have I1 := I.mono e1
  refine q_asg (v := nV (min g.top (Ue07.pointRow g - Fv.marginOf g))) (ev_minN (ev_fld (ev_var rfl) I1.obj T.clsP T.p_top rfl) (ev_is (ev_max2 (i := 0) ev_c (ev_subI (ev_var rfl) (ev_var rfl))) ?_)) fun H2 e2 => ?_
  · refine congrArg V.int ?_
    split <;> omega
  have I2 := I1.mono e2
  refine q_asg (v := nV (max (Ue07.pointRow g + Fv.marginOf g + 1 - g.high) (min g.top (Ue07.pointRow g - Fv.marginOf g)))) (ev_is (ev_max2 (ev_var rfl) (ev_subI (ev_addN (ev_addN (ev_var rfl) (ev_var rfl)) (ev_num (n := 1) rfl)) (ev_fld (ev_var rfl) I2.obj T.clsP T.p_high rfl))) ?_) fun H3 e3 => ?_
  · refine congrArg V.int ?_
    split <;> omega
  have I3 := I2.mono e3
  have tx4 : Fv.Text (Ue07.scrolled g) := ⟨tx.wide, tx.tab, tx.len, tx.some, tx.many, tx.folds, tx.high⟩
  refine q_pset (Ue07.scrolled g) T (ev_var rfl) I3 (ev_minN (ev_var rfl) (ev_meth (ev_var rfl) I3.obj rfl ea_nil (sv_last_top I3.at_ tx))) T.p_top rfl rfl rfl rfl fun H4 I4 k4 => ?_
  have k4' : K1 p H H4 := (K1.of ((e1.trans e2).trans e3)).trans k4
  refine r_meth (ev_var rfl) I4.obj rfl ea_nil fun H5 e5 => ?_
  exact ⟨p, pf, Ue07.scrolled g, rfl, (I4.mono e5).at_, tx4, hn, fun q H6 n6 e6 h6 => k _ H6 pf (k4'.trans (K1.of (e5.trans e6))).kp ((I4.mono (e5.trans e6)).dm (k4'.trans (K1.of (e5.trans e6)))) (.inl rfl) ((I4.mono (e5.trans e6)).at_) ⟨q, rfl, (I4.mono e5).dm (k4'.trans (K1.of e5)) q n6, h6⟩⟩

theorem pure_settled (T : Txt K mg c) : ∀ vs H Q E, sp_settled c vs H Q E → t_settled K c E { nx := fun _ H' => Q .non H', rt := Q } (start N_settled vs) H := by
  rintro vs H Q E ⟨p, pf, g, rfl, P, tx, hn, k⟩
  obtain ⟨dx, pl, ps, I⟩ := P.get
  have hs := (Fv.seenAt_top g.folds g.line).1
  have hn2 : Fv.seenAt g.folds g.line < g.lines.length := by omega
  refine q_pset { g with wish := none } T (ev_var rfl) I ev_c T.p_wished rfl rfl rfl rfl fun H1 I1 k1 => ?_
  refine q_pset { g with wish := none, line := Fv.seenAt g.folds g.line } T (ev_var rfl) I1 (ev_call (ea_cons (ev_fld (ev_var rfl) I1.obj T.clsP T.p_folds rfl) (ea_cons (ev_fld (ev_var rfl) I1.obj T.clsP T.p_line rfl) ea_nil)) (sv_seen_for I1.folds (by have := tx.folds.1; show g.folds.length ≤ 100; omega))) T.p_line rfl rfl rfl rfl fun H2 I2 k2 => ?_
  obtain ⟨xs, q, hpl, hx, hq⟩ := I2.line (n := Fv.seenAt g.folds g.line) hn2
  refine q_pset { g with wish := none, line := Fv.seenAt g.folds g.line, place := min g.place (Ue07.lineAt g (Fv.seenAt g.folds g.line)).length } T (ev_var rfl) I2 (ev_minN (ev_fld (ev_var rfl) I2.obj T.clsP T.p_place rfl) (ev_lenL (ev_ixL (ev_fld (ev_var rfl) I2.obj T.clsP T.p_lines rfl) (ev_fld (ev_var rfl) I2.obj T.clsP T.p_line rfl) hpl hx) hq (nums_len _))) T.p_place rfl rfl rfl rfl fun H3 I3 k3 => ?_
  have k' := (k1.trans k2).trans k3
  refine r_meth (ev_var rfl) I3.obj rfl ea_nil fun H4 e4 => ?_
  exact ⟨p, pf, _, rfl, (I3.mono e4).at_, ⟨tx.wide, tx.tab, tx.len, tx.some, tx.many, tx.folds, tx.high⟩, hn2, RetG.go1 k (k'.trans (K1.of e4)) (I3.mono e4) fun v H' s => NewL.back ((I3.mono e4).dm (k'.trans (K1.of e4))) s⟩

theorem pure_put_into (T : Txt K mg c) : ∀ vs H Q E, sp_put_into c vs H Q E → t_put_into K c E { nx := fun _ H' => Q .non H', rt := Q } (start N_put_into vs) H := by
  rintro vs H Q E ⟨p, pf, g, i, x, rfl, P, tx, hn, hx, k⟩
  obtain ⟨dx, pl, ps, I⟩ := P.get
  obtain ⟨h1, h2, j, hj, _⟩ := Fv.rowsTo_at (show (Fv.rowsTo g.look g.lines g.folds g.lines.length)[i]? = some x from hx)
  have rb := (Fv.rows_parts g.look (Ue07.lineAt g x.1)).each x.2 (List.mem_of_getElem? hj)
  have hw := Fv.lineAt_len tx x.1
  have rest : ∀ (H1 : Hp) (W : Nat), K1 p H H1 → PageIn c H1 p pf dx pl ps { g with wish := some W } → W = g.wish.getD (Ue07.pointCol g) →
      tSeq (tAsg (tOp (rIxL K) (tMeth c.CP "rows" (sp_rows c) [] E0 (tVar 0) tNil) (tVar 1)) (gTup K 2 (gCons (gFld K "line" (tVar 0)) (gCons (gName 2) gNil))))
        (sFld K (tVar 0) (tCall (sp_place_for c) [] E0 (tCons (tFld K (tVar 0) "shape") (tCons (tOp (rIxL K) (tFld K (tVar 0) "lines") (tFld K (tVar 0) "line")) (tCons (tVar 2) (tCons (tFld K (tVar 0) "wished") tNil))))) "place") { nx := fun _ H' => Q .non H', rt := Q } [some (.ref p), some (nV i), none] H1 := by
    intro H1 W k1 I1 eW
    have tx1 : Fv.Text { g with wish := some W } := ⟨tx.wide, tx.tab, tx.len, tx.some, tx.many, tx.folds, tx.high⟩
    have er : EvR (tOp (rIxL K) (tMeth c.CP "rows" (sp_rows c) [] E0 (tVar 0) tNil) (tVar 1)) [some (.ref p), some (nV i), none] H1 (fun v H2 => NRowR H2 v x) := by
      refine er_opN1 (en_meth (ev_var rfl) I1.obj rfl ea_nil (sn_rows I1.at_ tx1)) (fun a H2 s e2 => ?_) (fun z Ha Hb e h => NRowR.steady _ _ _ _ e h)
      obtain ⟨ys, hy, it⟩ := s
      obtain ⟨y, hy2, ry⟩ := it.get hx
      exact ⟨nV i, y, ev_var rfl, fun H3 e3 => ⟨rv_ixL (sq_of (e3 _ _ hy)) (atI_nat hy2), NRowR.steady _ _ _ _ e3 ry⟩⟩
    refine er H1 (Ex.refl H1) _ fun v H2 e2 rv => ?_
    obtain ⟨q2, y, rfl, hq2, ry⟩ := rv
    have I2 := I1.mono e2
    have I3 := page_put (f := "line") (v := nV x.1) (g' := { g with wish := some W, line := x.1 }) I2 rfl rfl rfl rfl
    refine ⟨q2, [nV x.1, y], rfl, st_of hq2, rfl, nV x.1, [y], rfl, ⟨_, rfl, p, c.CP, dx, _, rfl, I2.obj, T.clsP, T.p_line, by show 9 < 1000; decide, y, [], rfl, rfl, ?_⟩⟩
    have ry3 : RowR (upd H2 p (.ins c.CP dx (putF "line" (nV x.1) (pF pl ps pf { g with wish := some W })))) y x.2 := RowR.ins I2.obj ry
    obtain ⟨xs, q, hpl, hxx, hq⟩ := I3.line (n := x.1) h1
    refine s_pset (Fv.putTo g x) T (ev_var rfl) I3 (ev_call (ea_cons (ev_fld (ev_var rfl) I3.obj T.clsP T.p_shape rfl) (ea_cons (ev_ixL (ev_fld (ev_var rfl) I3.obj T.clsP T.p_lines rfl) (ev_fld (ev_var rfl) I3.obj T.clsP T.p_line rfl) hpl hxx) (ea_cons (ev_var rfl) (ea_cons (ev_fld (v := nV W) (ev_var rfl) I3.obj T.clsP T.p_wished rfl) ea_nil)))) (sv_place_for (n := W) I3.look tx.tab hq (by show (Ue07.lineAt g x.1).length ≤ 1000; omega) ry3 ⟨rb.2.1, rb.2.2.1, rb.2.2.2⟩)) T.p_place ?_ rfl rfl rfl fun H4 I4 k4 => ?_
    · subst eW
      rfl
    · have k5 := ((k1.trans (K1.of e2)).trans (K1.upd (o := .ins c.CP dx (putF "line" (nV x.1) (pF pl ps pf { g with wish := some W }))))).trans k4
      exact k .non H4 pf k5.kp (I4.dm k5) (.inl rfl) I4.at_ rfl
  refine q_when (b := decide (wV g.wish = .non)) (et_test (ev_op (ev_fld (ev_var rfl) I.obj T.clsP T.p_wished rfl) ev_c rv_isN)) (fun h H1 e1 => ?_) (fun h H1 e1 => ?_)
  · have hw2 : g.wish = none := by
      cases e : g.wish with
      | none => rfl
      | some n =>
        rw [e] at h
        exact absurd h (by simp [wV, nV])
    have I1 := I.mono e1
    refine s_pset { g with wish := some (Ue07.pointCol g) } T (ev_var rfl) I1 (ev_meth (ev_var rfl) I1.obj rfl (ea_cons (ev_fld (ev_var rfl) I1.obj T.clsP T.p_line rfl) (ea_cons (ev_fld (ev_var rfl) I1.obj T.clsP T.p_place rfl) ea_nil)) (sv_column_at I1.at_ tx hn)) T.p_wished rfl rfl rfl rfl fun H2 I2 k2 => ?_
    exact rest H2 _ ((K1.of e1).trans k2) I2 (by rw [hw2]; rfl)
  · cases e : g.wish with
    | none =>
      rw [e] at h
      exact absurd h (by simp [wV])
    | some n =>
      have I1 := I.mono e1
      have eg : { g with wish := some n } = g := by
        rw [← e]
      refine rest H1 n (K1.of e1) ?_ (by rw [e]; rfl)
      rw [eg]
      exact I1
end
end Fw
/-! Refusals; lines. -/
namespace Fw
open PySem PySem.Spec PyProof.Rows L2 Evl
section
variable {P : Program} {w : World} {K : PySem.W.Frag} {mg : Str → Option Value} {base : Heap} {c : Cc} {σ : L2.St} {H H' : Hp}

/-! ### Refused(code) -/
def sp_Refused_init (c : Cc) : Sp := fun vs H Q _ => ∃ (a : Addr) (n : Int), vs = [.ref a, .int n] ∧ H a = some (exo a c.CR none) ∧ ∀ d, H d = none → d ≠ a → Q .non (upd (upd H d (exd d [("code", .int n)])) a (exo a c.CR (some d)))
def t_Refused_init (K : PySem.W.Frag) : TS := tSeq (tDrop (tVeI K (tCons (tVar 0) (tCons (tC (.str "refused")) tNil)))) (tOst K "code" (tVar 0) (tVar 1))
theorem ok_Refused_init (T : Txt K mg c) {f : Addr} {fd : FuncData} (F : Fun K "__init__" "Refused.__init__" s_Refused_init f fd) : FnOk P w K mg base CX0 1 f fd P_Refused_init (sp_Refused_init c) := by
  refine F.ok sc_Refused_init (fun vs H Q E h => ?_) (fun cdv A outer s H vs Q E hr h => ⟨t_Refused_init K, ?_, ?_⟩)
  · obtain ⟨_, _, rfl, _⟩ := h
    rfl
  · exact pss_cons (ps_expr (pe_veinit (by rfl) T.n_ValueError T.vV (pa_cons (pv 0) (pa_cons pe_str pa_nil)))) (pss_one (ps_ost (pv 0) (pv 1)))
  · obtain ⟨a, n, rfl, ha, k⟩ := h
    refine ⟨_, rfl, a, c.CR, _, rfl, by show 1 ≤ 1000; decide, T.oR, ha, ?_⟩
    exact ⟨_, rfl, _, rfl, a, c.CR, rfl, T.oR, T.r_code, .inl ⟨ha, fun d hd ne => k d hd ne⟩⟩
def t_want (K : PySem.W.Frag) (c : Cc) (E : XK) : TS := tIfS (tNot (tB (tVar 0))) (fun _ σ H => tMkO c.CR (sp_Refused_init c) [] (tCons (tVar 1) tNil) σ H fun cls d H' => E cls d H') tNext
theorem ok_want (D : DefAt K mg "want" s_want P_want) (T : Txt K mg c) : Cal P w K mg base (L2.CX P w) 3 "want" P_want (sp_want c) := by
  obtain ⟨f, fd, F, m, b⟩ := D.ex
  obtain ⟨fI, fdI, FI, iC, tI, bI⟩ := T.iR
  have GI : FnOk P w K mg base CX0 1 fI fdI P_Refused_init (sp_Refused_init c) := ok_Refused_init T FI
  refine ⟨⟨f, fd, ?_, m, F.kp, b⟩⟩
  refine F.okX sc_want (fun vs H Q E h => ?_) (fun cdv A outer s H vs Q E hr h => ⟨t_want K c E, ?_, ?_⟩)
  · obtain ⟨_, _, rfl, _⟩ := h
    rfl
  · exact pss_one (ps_if (pt_not (pt_val (pv 0))) (pss_one (ps_raise rfl (takes_of rfl rfl rfl rfl) (pmk_oex T.oR iC tI GI hr bI .nil pass0 (by rfl) T.gR (pa_cons (pv 1) pa_nil)))) pss_nil)
  · obtain ⟨bb, n, rfl, h1, h2⟩ := h
    refine ⟨_, rfl, bb, rfl, ?_⟩
    cases bb with
    | true => exact h1 rfl H (Ex.refl H)
    | false =>
      refine ⟨_, rfl, by show 1 ≤ 1000; decide, fun a ha => ⟨a, n, rfl, upd_same, fun d hd ne => ⟨rfl, d, [("code", .int n)], upd_same, ?_, ?_, ?_⟩⟩⟩
      · rw [upd_ne ne, upd_same]
      · rw [upd_ne ne] at hd
        exact hd
      · have hd' : H d = none := by
          rw [upd_ne ne] at hd
          exact hd
        refine h2 rfl d _ (fun b o hb => ?_) hd' upd_same
        have nb : b ≠ d := ne_of_none hb hd'
        have nb2 : b ≠ a := ne_of_none hb ha
        rw [upd_ne nb, del_ne nb2, upd_ne nb2, upd_ne nb, upd_ne nb2]
        exact hb

/-! ### lines -/
theorem inV_nums (w : List Nat) (k : Nat) : inV (nV k) (nums w) = w.contains k := by
  unfold inV nums
  rw [List.any_map]
  induction w with
  | nil => rfl
  | cons b w ih =>
    rw [List.any_cons, List.contains_cons, ih]
    congr 1
    show eqV (nV b) (nV k) = (k == b)
    unfold eqV
    by_cases h : b = k
    · subst h
      simp
    · have h2 : ¬ (b : Int) = (k : Int) := by omega
      have h3 : ¬ k = b := fun z => h z.symm
      have e1 : ((b : Int) == (k : Int)) = false := beq_eq_false_iff_ne.mpr h2
      have e2 : (k == b) = false := beq_eq_false_iff_ne.mpr h3
      simp [e1, e2]
theorem flat_nums (w : List Nat) : (nums w).all flatV = true := by
  unfold nums
  rw [List.all_map]
  exact List.all_eq_true.mpr fun _ _ => rfl
theorem line_ok (w : List Nat) : (!w.contains 10 && w.all fun b => decide (b ≤ 255)) = w.all fun b => decide (b ≤ 255) && b != 10 := by
  induction w with
  | nil => rfl
  | cons b w ih =>
    rw [List.all_cons, List.all_cons, ← ih, List.contains_cons]
    have e : (b != 10) = !((10 : Nat) == b) := by
      rw [Bool.eq_iff_iff]
      simp
      omega
    rw [e]
    generalize ((10 : Nat) == b) = u
    generalize decide (b ≤ 255) = v
    generalize w.contains 10 = x
    generalize (w.all fun b => decide (b ≤ 255)) = y
    cases u <;> cases v <;> cases x <;> cases y <;> rfl
theorem pure_is_line (T : Txt K mg c) : ∀ vs H Q E, sp_is_line c vs H Q E → t_is_line K c E { nx := fun _ H' => Q .non H', rt := Q } (start N_is_line vs) H := by
  rintro vs H Q E ⟨q, w, rfl, hq, hz, k⟩
  refine s_ret (ev_is (ev_andV (ev_leN (ev_lenL (ev_var rfl) hq (nums_len w)) (ev_num (n := 120) rfl)) fun _ => ev_andV (ev_op (ev_num (n := 10) rfl) (ev_var rfl) (rv_niL (sq_of hq) rfl (flat_nums w))) fun _ =>
    ev_allL (en_lcEn (R := IntR) (R2 := BoolR) (fun _ => true) (fun b => decide (b ≤ 255)) IntR.steady BoolR.steady BoolR.firm (ev_var rfl) hq (nums_items w H) (by rw [nums_len]; omega) (fun _ => rfl) (fun x w H1 e hm r => fun H2 e2 Q q => q H2 (Ex.refl H2)) (fun x b H1 e hm _ r => ?_)) fun p H1 s => bools_of s) ?_) k
  · have r' : x = nV b := r
    subst r'
    exact EvR.of (ev_leN (ev_var rfl) (ev_num (n := 255) rfl))
  · rw [inV_nums, filter_all, List.all_map, ← line_ok]
    rfl
theorem sv_is_line {q : Addr} {w : List Nat} (hq : H q = some (.lst (nums w))) (hz : w.length ≤ 5000) : SpV (sp_is_line c) [.ref q] H (.bl (decide (w.length ≤ 120) && w.all fun b => decide (b ≤ 255) && b != 10)) := fun H1 e Q k _ => ⟨q, w, rfl, e _ _ hq, hz, k⟩
theorem pure_are_lines : ∀ vs H Q E, sp_are_lines c vs H Q E → t_are_lines K c E { nx := fun _ H' => Q .non H', rt := Q } (start N_are_lines vs) H := by
  rintro vs H Q E ⟨q, ls, rfl, ⟨xs, hq, it⟩, hz, hz2, k⟩
  refine s_ret (ev_is (ev_allL (en_lcEn (R := LineR) (R2 := BoolR) (fun _ => true) (fun w => decide (w.length ≤ 120) && w.all fun b => decide (b ≤ 255) && b != 10) LineR.steady BoolR.steady BoolR.firm (ev_var rfl) hq it (by rw [it.len]; omega) (fun _ => rfl) (fun x w H1 e hm r => fun H2 e2 Q q => q H2 (Ex.refl H2)) (fun x w H1 e hm _ r => ?_)) fun p H1 s => bools_of s) ?_) k
  · obtain ⟨q2, rfl, hq2⟩ := r
    exact EvR.of (ev_call (ea_cons (ev_var rfl) ea_nil) (sv_is_line hq2 (hz2 w hm)))
  · rw [filter_all, List.all_map]
    rfl
theorem sv_are_lines {q : Addr} {ls : List (List Nat)} (h : ListAt LineR H q ls) (hz : SomeLines ls) : SpV (sp_are_lines c) [.ref q] H (.bl (Ue07.isLines ls)) := fun H1 e Q k _ => ⟨q, ls, rfl, h.mono LineR.steady e, hz.1, hz.2, k⟩
end
end Fw
/-! Words for the page's deeds. -/
namespace Fw
open PySem PySem.Spec PyProof.Rows L2 Evl
section
variable {K : PySem.W.Frag} {mg : Str → Option Value} {c : Cc} {σ : L2.St} {H0 H H' H1 : Hp} {ta tb te : TE} {x y z v : V} {p pf pf1 pl ps dx : Addr} {g g1 g' : Ue07.St} {Q : VK} {D : Ends} {E : XK} {tz : TS}

/-! ### the ends -/
theorem r_settled (T : Txt K mg c) (ho : Ev te σ H (.ref p)) (I : PageIn c H p pf1 dx pl ps g1) (tx : Fv.Text g1) (hn : g1.line < g1.lines.length) (k : RetG c p pf H0 (fun v H' => NewL H0 v H' (pAns (Fv.settledP g1))) (Fv.settledP g1) D.rt) (kp : Kp p pf H0 H) (dm : Dm H0 H) (hpf : pf1 = pf ∨ H0 pf1 = none) :
    tRet (tMeth c.CP "settled" (sp_settled c) [] E0 te tNil) D σ H :=
  r_meth ho I.obj rfl ea_nil fun H1 e1 => ⟨p, pf1, g1, rfl, (I.mono e1).at_, tx, hn, k.go (fun b o hb n1 n2 => e1 _ _ (kp b o hb n1 n2)) (fun b hb => dm b (fresh_back e1 hb)) hpf fun v H' s => NewL.back (fun b hb => dm b (fresh_back e1 hb)) s⟩
theorem r_scrolled (T : Txt K mg c) (ho : Ev te σ H (.ref p)) (I : PageIn c H p pf1 dx pl ps g1) (tx : Fv.Text g1) (hn : g1.line < g1.lines.length) (k : RetG c p pf H0 (fun v H' => NewL H0 v H' (pAns (Ue07.scrolled g1))) (Ue07.scrolled g1) D.rt) (kp : Kp p pf H0 H) (dm : Dm H0 H) (hpf : pf1 = pf ∨ H0 pf1 = none) :
    tRet (tMeth c.CP "scrolled" (sp_scrolled c) [] E0 te tNil) D σ H :=
  r_meth ho I.obj rfl ea_nil fun H1 e1 => ⟨p, pf1, g1, rfl, (I.mono e1).at_, tx, hn, k.go (fun b o hb n1 n2 => e1 _ _ (kp b o hb n1 n2)) (fun b hb => dm b (fresh_back e1 hb)) hpf fun v H' s => NewL.back (fun b hb => dm b (fresh_back e1 hb)) s⟩
theorem r_told (T : Txt K mg c) (ho : Ev te σ H (.ref p)) (I : PageIn c H p pf1 dx pl ps g1) (tx : Fv.Text g1) (hn : g1.line < g1.lines.length) (k : RetG c p pf H0 (fun v H' => NewL H0 v H' (pAns g1)) g1 D.rt) (kp : Kp p pf H0 H) (dm : Dm H0 H) (hpf : pf1 = pf ∨ H0 pf1 = none) :
    tRet (tMeth c.CP "told" (sp_told c) [] E0 te tNil) D σ H :=
  r_meth ho I.obj rfl ea_nil fun H1 e1 => ⟨p, pf1, g1, rfl, (I.mono e1).at_, tx, hn, fun q H2 n2 e2 h2 => k _ H2 pf1 (fun b o hb n1 n2 => (e1.trans e2) _ _ (kp b o hb n1 n2)) (fun b hb => dm b (fresh_back (e1.trans e2) hb)) hpf (I.mono (e1.trans e2)).at_ ⟨q, rfl, dm q (fresh_back e1 n2), h2⟩⟩
theorem does_of {call : Ue07.Call} (h : Does c call p pf g H Q E) (e : Ue07.step g call = Ue07.answers g') (G : Fv.Good g') : RetG c p pf H (fun v H' => NewL H v H' (pAns g')) g' Q := by
  have h2 := h.2
  rw [e] at h2
  have e2 : (Ue07.answers g').2 = pAns g' := Fv.point_answer G.topP
  rw [e2] at h2
  exact h2

/-! ### the page changed -/
theorem lines_ins0 {C C' d d' : Addr} {fs fs' : List (Str × V)} {q : Addr} {ls : List (List Nat)} (hp : H p = some (.ins C d fs)) (h : ListAt LineR H q ls) : ListAt LineR (upd H p (.ins C' d' fs')) q ls := by
  obtain ⟨xs, h1, it⟩ := h
  refine ⟨xs, upd_ins hp h1 (by intro z; cases z), it.len, fun i x w a b => ?_⟩
  obtain ⟨r, rfl, hr⟩ := it.at_ i x w a b
  exact ⟨r, rfl, upd_ins hp hr (by intro z; cases z)⟩
theorem page_newfolds {l : List Ue07.Fold} {F : Addr} (I0 : PageIn c H0 p pf dx pl ps g) (e : Ex H0 H1) (n : H0 F = none) (hf : ListAt FoldR H1 F l) : PageIn c (upd H1 p (.ins c.CP dx (putF "folds" (.ref F) (pF pl ps pf g)))) p F dx pl ps { g with folds := l } :=
  ⟨upd_same, look_ins (e _ _ I0.obj) (I0.look.mono e), lines_ins (e _ _ I0.obj) (((I0.lines.mono LineR.steady hide_hid).mono LineR.steady (hid_hide n)).mono LineR.steady (hide_ex e)), folds_ins (e _ _ I0.obj) hf⟩
/-- other lines, then other folds -/
theorem page_newlines {l : List Ue07.Fold} {ls : List (List Nat)} {q F : Addr} {H2 : Hp} (I0 : PageIn c H0 p pf dx pl ps g) (hl : ListAt LineR (hid c H0) q ls) (e : Ex (upd H0 p (.ins c.CP dx (putF "lines" (.ref q) (pF pl ps pf g)))) H2) (n : upd H0 p (.ins c.CP dx (putF "lines" (.ref q) (pF pl ps pf g))) F = none) (hf : ListAt FoldR H2 F l) :
    PageIn c (upd H2 p (.ins c.CP dx (putF "folds" (.ref F) (putF "lines" (.ref q) (pF pl ps pf g))))) p F dx q ps { g with lines := ls, folds := l } := by
  have hp2 := e _ _ upd_same
  have lk := (look_ins (C' := c.CP) (d' := dx) (fs' := putF "lines" (.ref q) (pF pl ps pf g)) I0.obj I0.look).mono e
  refine ⟨upd_same, look_ins (g := { g with lines := ls }) (pl := q) (ps := ps) (pf := pf) hp2 lk, lines_ins hp2 (((lines_insD I0.obj hl).mono LineR.steady (hid_hide n)).mono LineR.steady (hide_ex e)), folds_ins hp2 hf⟩
theorem page_shape {k : Ue07.Look} {s : Addr} (I0 : PageIn c H0 p pf dx pl ps g) (e : Ex H0 H1) (hk : LookAt c H1 s k) : PageIn c (upd H1 p (.ins c.CP dx (putF "shape" (.ref s) (pF pl ps pf g)))) p pf dx pl s { g with look := k } :=
  ⟨upd_same, look_ins (e _ _ I0.obj) hk, lines_ins (e _ _ I0.obj) (I0.lines.mono LineR.steady (hide_ex e)), folds_ins (e _ _ I0.obj) (I0.folds.mono FoldR.steady e)⟩
theorem page_fold {f : Ue07.Fold} {ys : List V} (I : PageIn c H p pf dx pl ps g) (hy : H pf = some (.lst ys)) (it : Items FoldR H ys g.folds) (r : FoldR H x f) : PageIn c (upd H pf (.lst (ys ++ [x]))) p pf dx pl ps { g with folds := g.folds ++ [f] } := by
  have np : p ≠ pf := ne_of I.obj hy (by intro z; cases z)
  obtain ⟨dl, hl⟩ := I.look
  have nl : ps ≠ pf := ne_of hl hy (by intro z; cases z)
  refine ⟨by rw [upd_ne np]; exact I.obj, ⟨dl, by rw [upd_ne nl]; exact hl⟩, I.lines.mono LineR.steady hide_upd, ys ++ [x], upd_same, ?_⟩
  exact (it.firm FoldR.firm hy).snoc (FoldR.firm H pf ys _ x f hy r)

/-! ### lists put together -/
theorem en_catE {b : Addr} {xs ys : List V} (ha : EvN ta σ H (fun q H1 => H1 q = some (.lst xs))) (hb : Ev tb σ H (.ref b)) (hB : H b = some (.lst ys)) (hz : xs.length + ys.length ≤ 100000) : EvN (tOp rCat ta tb) σ H (fun q H1 => H1 q = some (.lst (xs ++ ys))) := fun H1 e Q k =>
  ha H1 e _ fun q H2 n2 e2 h2 => hb H2 (e.trans e2) _ fun H3 e3 => ⟨q, b, xs, ys, rfl, rfl, e3 _ _ h2, e3 _ _ (e2 _ _ (e _ _ hB)), sz_of hz, fun D hD => k D _ (fresh_back (e2.trans e3) hD) ((e2.trans e3).trans (Ex.new hD)) upd_same⟩
theorem en_catN {xs ys : List V} (ha : EvN ta σ H (fun q H1 => H1 q = some (.lst xs))) (hb : EvN tb σ H (fun q H1 => H1 q = some (.lst ys))) (hz : xs.length + ys.length ≤ 100000) : EvN (tOp rCat ta tb) σ H (fun q H1 => H1 q = some (.lst (xs ++ ys))) := fun H1 e Q k =>
  ha H1 e _ fun q H2 n2 e2 h2 => hb H2 (e.trans e2) _ fun b H3 n3 e3 h3 => ⟨q, b, xs, ys, rfl, rfl, e3 _ _ h2, h3, sz_of hz, fun D hD => k D _ (fresh_back (e2.trans e3) hD) ((e2.trans e3).trans (Ex.new hD)) upd_same⟩

/-! ### data: lines -/
def lD (w : List Nat) : PyData := .list (w.map nD)
theorem lDs_lay : ∀ l : List (List Nat), PyData.canLayAll0 (l.map lD) = true
  | [] => by simp [PyData.canLayAll0]
  | w :: l => by
    have h1 := nDs_lay w
    simp [PyData.canLayAll0, lD, PyData.canLay0, h1, lDs_lay l]
theorem lDs_depth : ∀ l : List (List Nat), PyData.depthAll (l.map lD) ≤ 2
  | [] => by simp [PyData.depthAll]
  | w :: l => by
    have h1 := lDs_depth l
    have h2 := nDs_depth w
    simp only [List.map_cons, PyData.depthAll, lD, PyData.depth]
    omega
theorem lDs_shaped (l : List (List Nat)) : SeqAt.shaped (.list (l.map lD)) = true := by
  refine shaped_of ?_ ?_
  · simp only [PyData.canLay0]
    exact lDs_lay l
  · have h1 := lDs_depth l
    simp only [PyData.depth]
    omega
theorem lines_dp {q : Addr} {ls : List (List Nat)} (h : ListAt LineR H q ls) : Dp K H (.ref q) (.list (ls.map lD)) := by
  obtain ⟨xs, hq, it⟩ := h
  refine .lst (sq_of hq) (items_dp (fun x w r => ?_) it)
  obtain ⟨q2, rfl, h2⟩ := r
  exact nums_dp h2
theorem map_empty {α β : Type} (l : List α) (f : α → β) : (l.map f).isEmpty = decide (l = []) := by
  cases l <;> simp
end
end Fw
/-! The readings hold: the page's deeds. -/
namespace Fw
open PySem PySem.Spec PyProof.Rows L2 Evl
section
variable {K : PySem.W.Frag} {mg : Str → Option Value} {c : Cc} {σ : L2.St} {H H' : Hp} {p pf : Addr} {g : Ue07.St}

theorem pure_look (T : Txt K mg c) : ∀ vs H Q E, sp_look c vs H Q E → t_look K c E { nx := fun _ H' => Q .non H', rt := Q } (start N_look vs) H := by
  rintro vs H Q E ⟨p, pf, g, k, rfl, P, G, hd⟩
  obtain ⟨dx, pl, ps, I⟩ := P.get
  refine q_want (ev_call (ea_cons (ev_var rfl) (ea_cons (ev_var rfl) (ea_cons (ev_var rfl) ea_nil))) sv_is_look) (fun hb H1 e1 => ?_) (fun hb => hd.1 _ (by decide) (Fv.step_look_no hb))
  have tx := Fv.look_text G hb
  have I1 := I.mono e1
  refine q_fldN (ev_var rfl) (en_Look (w := k.wide) (tb' := k.tab) (m := k.more) (h := k.hang.toNat) (x := k.words.toNat) (ea_cons (ev_var rfl) (ea_cons (ev_var rfl) (ea_cons (ev_var rfl) (ea_cons (ev_var rfl) (ea_cons (ev_var rfl) ea_nil)))))) I1.obj T.clsP T.p_shape (by show 9 < 1000; decide) (fun q Ha Hb ea => ?_) fun s H2 n2 e2 hs => ?_
  · rintro ⟨dl, h⟩
    exact ⟨dl, ea _ _ h⟩
  have I2 := page_shape (k := k) I1 e2 hs
  have k2 : K1 p H _ := (K1.of (e1.trans e2)).trans (K1.upd (o := .ins c.CP dx (putF "shape" (.ref s) (pF pl ps pf g))))
  exact r_settled T (ev_var rfl) I2 tx.1 tx.2.line (does_of hd (Fv.step_look G hb) (Fv.good_settledP tx.1 tx.2.line)) k2.kp (I2.dm k2) (.inl rfl)

theorem pure_window (T : Txt K mg c) : ∀ vs H Q E, sp_window c vs H Q E → t_window K c E { nx := fun _ H' => Q .non H', rt := Q } (start N_window vs) H := by
  rintro vs H Q E ⟨p, pf, g, h, m, rfl, P, G, hd⟩
  obtain ⟨dx, pl, ps, I⟩ := P.get
  refine q_want (b := Fv.windowOk h m) (ev_is (ev_andV (ev_leN (ev_num (n := 1) rfl) (ev_var rfl)) fun _ => ev_andV (ev_leN (ev_var rfl) (ev_num (n := 60) rfl)) fun _ => ev_leN (ev_var rfl) (ev_num (n := 60) rfl)) ?_) (fun hb H1 e1 => ?_) (fun hb => hd.1 _ (by decide) (Fv.step_window_no hb))
  · unfold Fv.windowOk
    simp [Bool.decide_and]
  have tx := Fv.window_text G hb
  refine q_pset { g with high := h } T (ev_var rfl) (I.mono e1) (ev_var rfl) T.p_high rfl rfl rfl rfl fun H2 I2 k2 => ?_
  refine q_pset { g with high := h, margin := m } T (ev_var rfl) I2 (ev_var rfl) T.p_told_margin rfl rfl rfl rfl fun H3 I3 k3 => ?_
  have k' := ((K1.of e1).trans k2).trans k3
  exact r_scrolled T (ev_var rfl) I3 tx.1 tx.2.line (does_of hd (Fv.step_window hb) (Fv.good_scrolled tx.1 tx.2)) k'.kp (I3.dm k') (.inl rfl)

theorem pure_text (T : Txt K mg c) : ∀ vs H Q E, sp_text c vs H Q E → t_text K c E { nx := fun _ H' => Q .non H', rt := Q } (start N_text vs) H := by
  rintro vs H Q E ⟨p, pf, q, g, ls, rfl, P, G, hlsD, hz, hd⟩
  have hls := hlsD.mono LineR.steady hid_le
  obtain ⟨dx, pl, ps, I⟩ := P.get
  obtain ⟨xs, hq, it⟩ := id hls
  refine q_want (b := Fv.textOk ls) (ev_is (ev_andV (ev_notNil (ev_var rfl) (fun H1 e1 => lines_dp (hls.mono LineR.steady e1)) (lDs_shaped ls)) fun _ => ev_andV (ev_leN (ev_lenL (ev_var rfl) hq it.len) (ev_num (n := 30) rfl)) fun _ => ev_call (ea_cons (ev_var rfl) ea_nil) (sv_are_lines hls hz)) ?_) (fun hb H1 e1 => ?_) (fun hb => hd.1 _ (by decide) (Fv.step_text_no hb))
  · unfold Fv.textOk
    rw [map_empty]
    simp
  have tx := Fv.text_text G hb
  have I1 := I.mono e1
  refine q_fld (v := .ref q) (ev_var rfl) (ev_var rfl) I1.obj T.clsP T.p_lines (by show 9 < 1000; decide) fun H2 e2 => ?_
  have I2 := I1.mono e2
  refine q_fldN (ev_var rfl) (en_lst ea_nil (by decide)) upd_same T.clsP T.p_folds (by show 9 < 1000; decide) (fun q Ha Hb ea h => ea _ _ h) fun F H3 n3 e3 hF => ?_
  have I3 := page_newlines (l := []) I2 (hlsD.mono LineR.steady (hid_ex (e1.trans e2))) e3 n3 ⟨[], hF, Items.nil⟩
  have k3 : K1 p H _ := (((K1.of (e1.trans e2)).trans (K1.upd (o := .ins c.CP dx (putF "lines" (.ref q) (pF pl ps pf g))))).trans (K1.of e3)).trans (K1.upd (o := .ins c.CP dx (putF "folds" (.ref F) (putF "lines" (.ref q) (pF pl ps pf g)))))
  have nF : H F = none := (Dm.k1 (((K1.of (e1.trans e2)).trans (K1.upd (o := .ins c.CP dx (putF "lines" (.ref q) (pF pl ps pf g)))))) upd_same) F n3
  refine q_pset { g with lines := ls, folds := [], line := 0 } T (ev_var rfl) I3 (ev_num (n := 0) rfl) T.p_line rfl rfl rfl rfl fun H4 I4 k4 => ?_
  refine q_pset { g with lines := ls, folds := [], line := 0, place := 0 } T (ev_var rfl) I4 (ev_num (n := 0) rfl) T.p_place rfl rfl rfl rfl fun H5 I5 k5 => ?_
  refine q_pset (Fv.withText g ls) T (ev_var rfl) I5 (ev_num (n := 0) rfl) T.p_top rfl rfl rfl rfl fun H6 I6 k6 => ?_
  have k' := ((k3.trans k4).trans k5).trans k6
  exact r_settled T (ev_var rfl) I6 tx.1 tx.2.line (does_of hd (Fv.step_text G hb) (Fv.good_settledP tx.1 tx.2.line)) k'.kp (I6.dm k') (.inr nF)

theorem pure_edit (T : Txt K mg c) : ∀ vs H Q E, sp_edit c vs H Q E → t_edit K c E { nx := fun _ H' => Q .non H', rt := Q } (start N_edit vs) H := by
  rintro vs H Q E ⟨p, pf, q, g, a, b, ls, rfl, fk, P, G, hlsD, hz, hd⟩
  have hls := hlsD.mono LineR.steady hid_le
  obtain ⟨dx, pl, ps, I⟩ := P.get
  obtain ⟨zs, hqD, itzD⟩ := id hlsD
  obtain ⟨xs, hxsD, itxD⟩ := I.lines.mono LineR.steady hide_hid
  have hq := hid_le _ _ hqD
  have hxs := hid_le _ _ hxsD
  have itz := itzD.mono LineR.steady hid_le
  have itx := itxD.mono LineR.steady hid_le
  have hmany := G.text.many
  refine q_want (b := Fv.editOk g a b ls) (ev_andV (ev_leN (ev_var rfl) (ev_var rfl)) fun _ => ev_andV (ev_leN (ev_var rfl) (ev_lenL (ev_fld (ev_var rfl) I.obj T.clsP T.p_lines rfl) hxs itx.len)) fun _ => ev_call (ea_cons (ev_var rfl) ea_nil) (sv_are_lines hls hz)) (fun hb H1 e1 => ?_) (fun hb => hd.1 _ (by decide) (Fv.step_edit_no hb))
  obtain ⟨hab, hbl, hok⟩ := Fv.edit_ok hb
  have eL := Fv.editLines_len (g := g) (l := ls) hab hbl
  have I1 := I.mono e1
  have hxl := itx.len
  have hzl := itz.len
  have hz1 := hz.1
  refine q_asgN (en_catN (en_catE (en_slice (ev_fld (ev_var rfl) I1.obj T.clsP T.p_lines rfl) eo_none (eo_some (ev_var rfl)) (e1 _ _ hxs)) (ev_var rfl) (e1 _ _ hq) (by rw [cutV_to, List.length_take]; omega)) (en_slice (ev_fld (ev_var rfl) I1.obj T.clsP T.p_lines rfl) (eo_some (ev_var rfl)) eo_none (e1 _ _ hxs)) (by rw [cutV_to, cutV_from, List.length_append, List.length_take, List.length_drop]; omega)) fun A H2 n2 e2 hA => ?_
  have e12 := e1.trans e2
  have I2 := I1.mono e2
  have lsAD : ListAt LineR (hid c H2) A (Fv.editLines g a b ls) := by
    refine ⟨_, hid_at hA ((fk.mono e1).ne n2), ?_⟩
    rw [cutV_to, cutV_from]
    have i1 := (itxD.mono LineR.steady (hid_ex e12)).take a
    have i2 := itzD.mono LineR.steady (hid_ex e12)
    have i3 := (itxD.mono LineR.steady (hid_ex e12)).drop b
    have e := (i1.append i2).append i3
    rw [List.append_assoc] at e
    rw [List.append_assoc]
    unfold Fv.editLines
    rw [List.append_assoc] at e
    exact e
  have lsA := lsAD.mono LineR.steady hid_le
  obtain ⟨as_, hA2, itA⟩ := id lsA
  refine q_want (b := decide (0 < Fv.editLen g a b ls ∧ Fv.editLen g a b ls ≤ 30)) (ev_is (ev_andV (ev_notNil (ev_var rfl) (fun H3 e3 => lines_dp (lsA.mono LineR.steady e3)) (lDs_shaped _)) fun _ => ev_leN (ev_lenL (ev_var rfl) hA2 (by rw [itA.len, eL])) (ev_num (n := 30) rfl)) ?_) (fun hb2 H3 e3 => ?_) (fun hb2 => (hd.1 _ (by decide) (Fv.step_edit_many hb (of_decide_eq_false hb2))).go e12)
  · rw [map_empty]
    refine congrArg V.bl ?_
    rw [Bool.eq_iff_iff]
    simp only [Bool.and_eq_true, Bool.not_eq_true', decide_eq_false_iff_not, decide_eq_true_eq]
    constructor
    · rintro ⟨h1, h2⟩
      refine ⟨?_, h2⟩
      rw [← eL]
      exact List.length_pos_iff.mpr h1
    · rintro ⟨h1, h2⟩
      refine ⟨fun z => ?_, h2⟩
      rw [z] at eL
      simp at eL
      omega
  have hlen := of_decide_eq_true hb2
  have tx := Fv.edit_text G hb hlen
  have e123 := e12.trans e3
  have I3 := I2.mono e3
  refine q_asg (v := .int ((ls.length : Int) - ((b : Int) - (a : Int)))) (ev_is (ev_subI (ev_lenL (ev_var rfl) (e3 _ _ hA2) (by rw [itA.len, eL])) (ev_lenL (ev_fld (ev_var rfl) I3.obj T.clsP T.p_lines rfl) (e123 _ _ hxs) itx.len)) ?_) fun H4 e4 => ?_
  · refine congrArg V.int ?_
    unfold Fv.editLen
    omega
  have I4 := I3.mono e4
  refine q_fld (v := .ref A) (ev_var rfl) (ev_var rfl) I4.obj T.clsP T.p_lines (by show 9 < 1000; decide) fun H5 e5 => ?_
  have I5 := I4.mono e5
  have lsA5 := lsA.mono LineR.steady ((e3.trans e4).trans e5)
  have lsA5D := lsAD.mono LineR.steady (hid_ex ((e3.trans e4).trans e5))
  have hfo := folds_ins (C' := c.CP) (d' := dx) (fs' := putF "lines" (.ref A) (pF pl ps pf g)) I5.obj I5.folds
  refine q_fldN (ev_var rfl) (en_call (ea_cons (ev_fld (v := .ref pf) (ev_var rfl) upd_same T.clsP T.p_folds rfl) (ea_cons (ev_var rfl) (ea_cons (ev_var rfl) (ea_cons (ev_var rfl) ea_nil)))) (sn_folds_behind (n := ls.length) hab hfo (by have := G.text.folds.1; omega) G.text.folds.2)) upd_same T.clsP T.p_folds (by show 9 < 1000; decide) (fun q Ha Hb ea h => h.mono FoldR.steady ea) fun F H6 n6 e6 hF => ?_
  have I6 := page_newlines I5 lsA5D e6 n6 hF
  have kk := ((K1.of ((e123.trans e4).trans e5)).trans (K1.upd (p := p) (o := .ins c.CP dx (putF "lines" (.ref A) (pF pl ps pf g)))))
  have k6 : K1 p H _ := (kk.trans (K1.of e6)).trans (K1.upd (o := .ins c.CP dx (putF "folds" (.ref F) (putF "lines" (.ref A) (pF pl ps pf g)))))
  have nF : H F = none := (Dm.k1 kk upd_same) F n6
  rw [← Fv.foldsBehind_to] at I6
  have hl0 := G.pt.line
  have last : ∀ (H7 : Hp), K1 p H H7 → PageIn c H7 p F dx A ps (Fv.edited g a b ls) → tRet (tMeth c.CP "settled" (sp_settled c) [] E0 (tVar 0) tNil) { nx := fun _ H' => Q .non H', rt := Q } [some (.ref p), some (nV a), some (nV b), some (.ref q), some (.ref A), some (.int ((ls.length : Int) - ((b : Int) - (a : Int))))] H7 := fun H7 k7 I7 =>
    r_settled T (ev_var rfl) I7 tx.1 tx.2 (does_of hd (Fv.step_edit G hb hlen) (Fv.good_settledP tx.1 tx.2)) k7.kp (I7.dm k7) (.inr nF)
  refine q_if (et_test (ev_geN (ev_fld (ev_var rfl) I6.obj T.clsP T.p_line rfl) (ev_var rfl))) (fun h H7 e7 => ?_) (fun h H7 e7 => ?_)
  · have hge := of_decide_eq_true h
    have hge' : b ≤ g.line := hge
    have I7 := I6.mono e7
    have eLine : (g.line : Int) + ((ls.length : Int) - ((b : Int) - (a : Int))) = ((Fv.editLine g a b ls : Nat) : Int) := by
      unfold Fv.editLine
      rw [if_pos hge']
      omega
    refine s_fldAug (i := (g.line : Int)) (j := (ls.length : Int) - ((b : Int) - (a : Int))) (z := nV (Fv.editLine g a b ls)) (ev_var rfl) (ev_var rfl) I7.obj T.clsP T.p_line rfl (fun H1 Q q => ?_) (by show 9 < 1000; decide) fun H8 e8 => ?_
    · refine ra_add H1 Q ?_
      rw [eLine]
      exact q
    · have I8 := page_put (f := "line") (v := nV (Fv.editLine g a b ls)) (g' := Fv.edited g a b ls) (I7.mono e8) (by
        have : Fv.editPlace g a b = g.place := if_pos hge'
        unfold Fv.edited
        rw [this]
        rfl) rfl rfl rfl
      exact last _ (((k6.trans (K1.of e7)).trans (K1.of e8)).trans K1.upd) I8
  · have hlt := of_decide_eq_false h
    have hlt' : ¬ b ≤ g.line := hlt
    have I7 := I6.mono e7
    refine s_if (et_test (ev_geN (ev_fld (ev_var rfl) I7.obj T.clsP T.p_line rfl) (ev_var rfl))) (fun h2 H8 e8 => ?_) (fun h2 H8 e8 => ?_)
    · have hge := of_decide_eq_true h2
      have hge' : a ≤ g.line := hge
      have I8 := I7.mono e8
      have eLine : Fv.editLine g a b ls = min a (Fv.editLen g a b ls - 1) := by
        unfold Fv.editLine
        rw [if_neg hlt', if_pos hge']
      have ePlace : Fv.editPlace g a b = 0 := by
        unfold Fv.editPlace
        rw [if_neg hlt', if_pos hge']
      have hA8 : H8 A = some (.lst as_) := by
        have nA : A ≠ p := by
          intro z
          have h5 := lsA5
          obtain ⟨ws, h5, _⟩ := h5
          rw [z, I5.obj] at h5
          cases h5
        exact e8 _ _ (e7 _ _ ((((K1.upd (p := p)).trans (K1.of e6)).trans K1.upd) A _ (((e3.trans e4).trans e5) _ _ hA2) nA))
      refine q_pset { g with lines := Fv.editLines g a b ls, folds := Ue07.foldsBehind g.folds a b ls.length, line := Fv.editLine g a b ls } T (ev_var rfl) I8 (ev_is (ev_minN (ev_var rfl) (ev_subN (ev_lenL (ev_var rfl) hA8 (by rw [itA.len, eL])) (ev_num (n := 1) rfl) hlen.1)) (by rw [eLine])) T.p_line rfl rfl rfl rfl fun H9 I9 k9 => ?_
      refine s_pset (Fv.edited g a b ls) T (ev_var rfl) I9 (ev_num (n := 0) rfl) T.p_place (by
        unfold Fv.edited
        rw [ePlace]
        rfl) rfl rfl rfl fun H10 I10 k10 => ?_
      exact last _ ((((k6.trans (K1.of e7)).trans (K1.of e8)).trans k9).trans k10) I10
    · have hge := of_decide_eq_false h2
      have hge' : ¬ a ≤ g.line := hge
      have I8 := I7.mono e8
      have eE : Fv.edited g a b ls = { g with lines := Fv.editLines g a b ls, folds := Ue07.foldsBehind g.folds a b ls.length } := by
        unfold Fv.edited Fv.editLine Fv.editPlace
        rw [if_neg hlt', if_neg hge', if_neg hlt', if_neg hge']
      refine last H8 ((k6.trans (K1.of e7)).trans (K1.of e8)) ?_
      rw [eE]
      exact I8

theorem pure_fold (T : Txt K mg c) : ∀ vs H Q E, sp_fold c vs H Q E → t_fold K c E { nx := fun _ H' => Q .non H', rt := Q } (start N_fold vs) H := by
  rintro vs H Q E ⟨p, pf, g, a, b, rfl, P, G, hd⟩
  obtain ⟨dx, pl, ps, I⟩ := P.get
  obtain ⟨xs, hxs, itx⟩ := I.lines.mono LineR.steady hide_le
  obtain ⟨ys, hys, ity⟩ := I.folds
  have hf := G.text.folds.1
  refine q_want (b := decide (a + 2 ≤ b ∧ b ≤ g.lines.length)) (ev_is (ev_andV (ev_leN (ev_addN (ev_var rfl) (ev_num (n := 2) rfl)) (ev_var rfl)) fun _ => ev_leN (ev_var rfl) (ev_lenL (ev_fld (ev_var rfl) I.obj T.clsP T.p_lines rfl) hxs itx.len)) (by simp [Bool.decide_and])) (fun hb H1 e1 => ?_) (fun hb => hd.1 _ (by decide) (Fv.step_fold_no (of_decide_eq_false hb)))
  have h1 := of_decide_eq_true hb
  have I1 := I.mono e1
  refine q_want (b := g.folds.all fun f => Fv.wellP (a, b) f) (ev_is (ev_allL (en_lcEn (R := FoldR) (R2 := BoolR) (fun _ => true) (fun f => Fv.wellP (a, b) f) FoldR.steady BoolR.steady BoolR.firm (ev_fld (ev_var rfl) I1.obj T.clsP T.p_folds rfl) (e1 _ _ hys) (ity.mono FoldR.steady e1) (by rw [ity.len]; omega) (fun _ => rfl) (fun x w H2 e hm r => fun H3 e2 Q q => q H3 (Ex.refl H3)) (fun x w H2 e hm _ r => ?_)) fun p H1 s => bools_of s) ?_) (fun hb2 H2 e2 => ?_) (fun hb2 => (hd.1 _ (by decide) (Fv.step_fold_unfit h1 hb2)).go e1)
  · refine (EvR.of (ev_callS (z := .bl (Fv.wellP (a, b) w)) (eas_cons (S := fun v H1 => ∃ t, v = .ref t ∧ H1 t = some (.tup [nV a, nV b])) (fun x Ha Hb ea => by
      rintro ⟨t, rfl, h⟩
      exact ⟨t, rfl, ea _ _ h⟩) ((en_tup (ea_cons (ev_var rfl) (ea_cons (ev_var rfl) ea_nil)) (by simp)).toR.imp fun v H2 _ s => s) (eas_of (ea_cons (ev_var rfl) ea_nil))) ?_)).imp fun v H3 _ s => s
    rintro vs H3 e3 ⟨y, vs2, rfl, ⟨t, rfl, ht⟩, rfl⟩
    exact sv_are_well (f := (a, b)) ⟨t, rfl, ht⟩ (FoldR.steady _ _ _ _ e3 r)
  · rw [filter_all, List.all_map]
    rfl
  have e12 := e1.trans e2
  have I2 := I1.mono e2
  refine q_want (b := decide (g.folds.length < 12)) (ev_ltN (ev_lenL (ev_fld (ev_var rfl) I2.obj T.clsP T.p_folds rfl) (e12 _ _ hys) ity.len) (ev_num (n := 12) rfl)) (fun hb3 H3 e3 => ?_) (fun hb3 => (hd.1 _ (by decide) (Fv.step_fold_many h1 hb2 (of_decide_eq_false hb3))).go e12)
  have h3 := of_decide_eq_true hb3
  have e123 := e12.trans e3
  have I3 := I2.mono e3
  have tx := Fv.fold_text G h1 h3
  refine q_appR (e123 _ _ hys) (ev_fld (ev_var rfl) I3.obj T.clsP T.p_folds rfl) (en_tup (ea_cons (ev_var rfl) (ea_cons (ev_var rfl) ea_nil)) (by simp)).toR (by rw [ity.len]; omega) fun v H4 e4 s => ?_
  obtain ⟨t, rfl, ht⟩ := s
  have I4 := I3.mono e4
  have e14 := e123.trans e4
  have I5 := page_fold (f := (a, b)) (x := .ref t) I4 (e14 _ _ hys) (ity.mono FoldR.steady e14) ⟨t, rfl, ht⟩
  refine r_settled (H0 := H) (pf := pf) T (ev_var rfl) I5 tx.1 tx.2 (does_of hd (Fv.step_fold G h1 hb2 h3) (Fv.good_settledP tx.1 tx.2)) (fun b' o hb' n1 n2 => ?_) (fun b' hb' => ?_) (.inl rfl)
  · rw [upd_ne n2]
    exact e14 _ _ hb'
  · by_cases z : b' = pf
    · rw [z, upd_same] at hb'
      cases hb'
    · rw [upd_ne z] at hb'
      exact fresh_back e14 hb'

theorem pure_unfold (T : Txt K mg c) : ∀ vs H Q E, sp_unfold c vs H Q E → t_unfold K c E { nx := fun _ H' => Q .non H', rt := Q } (start N_unfold vs) H := by
  rintro vs H Q E ⟨p, pf, g, n, rfl, P, G, hd⟩
  obtain ⟨dx, pl, ps, I⟩ := P.get
  obtain ⟨xs, hxs, itx⟩ := I.lines.mono LineR.steady hide_le
  obtain ⟨ys, hys, ity⟩ := I.folds
  have hf := G.text.folds.1
  refine q_want (ev_ltN (ev_var rfl) (ev_lenL (ev_fld (ev_var rfl) I.obj T.clsP T.p_lines rfl) hxs itx.len)) (fun hb H1 e1 => ?_) (fun hb => hd.1 _ (by decide) (Fv.step_unfold_no (of_decide_eq_false hb)))
  have h1 := of_decide_eq_true hb
  have I1 := I.mono e1
  refine q_asgN (en_lcEn (R := FoldR) (R2 := FoldR) (fun f => !Fv.hasP f n) id FoldR.steady FoldR.steady FoldR.firm (ev_fld (ev_var rfl) I1.obj T.clsP T.p_folds rfl) (e1 _ _ hys) (ity.mono FoldR.steady e1) (by rw [ity.len]; omega) (fun _ => rfl) (fun x w H2 e hm r => et_not (et_B (ev_call (ea_cons (ev_var rfl) (ea_cons (ev_var rfl) ea_nil)) (sv_has r)))) (fun x w H2 e hm _ r => fun H3 e3 Q k => ev_var rfl H3 e3 Q fun H4 e4 => k x H4 e4 (FoldR.steady _ _ _ _ (e3.trans e4) r))) fun F H2 n2 e2 hF => ?_
  rw [List.map_id] at hF
  obtain ⟨zs, hzs, itz⟩ := id hF
  have e12 := e1.trans e2
  have I2 := I1.mono e2
  refine q_want (ev_ltN (ev_lenL (ev_var rfl) hzs itz.len) (ev_lenL (ev_fld (ev_var rfl) I2.obj T.clsP T.p_folds rfl) (e12 _ _ hys) ity.len)) (fun hb2 H3 e3 => ?_) (fun hb2 => (hd.1 _ (by decide) (Fv.step_unfold_none h1 (of_decide_eq_false hb2))).go e12)
  have h2 := of_decide_eq_true hb2
  have tx := Fv.unfold_text (n := n) G
  refine q_fld (v := .ref F) (ev_var rfl) (ev_var rfl) (I2.mono e3).obj T.clsP T.p_folds (by show 9 < 1000; decide) fun H4 e4 => ?_
  have I4 := page_newfolds (l := g.folds.filter fun f => !Fv.hasP f n) I1 ((e2.trans e3).trans e4) n2 (hF.mono FoldR.steady (e3.trans e4))
  have k4 : K1 p H _ := (K1.of ((e12.trans e3).trans e4)).trans (K1.upd (o := .ins c.CP dx (putF "folds" (.ref F) (pF pl ps pf g))))
  exact r_settled T (ev_var rfl) I4 tx.1 tx.2.line (does_of hd (Fv.step_unfold G h1 h2) (Fv.good_settledP tx.1 tx.2.line)) k4.kp (I4.dm k4) (.inr (fresh_back e1 n2))

theorem pure_want_place (T : Txt K mg c) : ∀ vs H Q E, sp_want_place c vs H Q E → t_want_place K c E { nx := fun _ H' => Q .non H', rt := Q } (start N_want_place vs) H := by
  rintro vs H Q E ⟨p, pf, g, n, m, rfl, P, hy, hn⟩
  obtain ⟨dx, pl, ps, I⟩ := P.get
  obtain ⟨xs, hxs, itx⟩ := I.lines.mono LineR.steady hide_le
  refine q_want (ev_ltN (ev_var rfl) (ev_lenL (ev_fld (ev_var rfl) I.obj T.clsP T.p_lines rfl) hxs itx.len)) (fun hb H1 e1 => ?_) (fun hb => hn fun z => (of_decide_eq_false hb) z.1)
  have h1 := of_decide_eq_true hb
  have I1 := I.mono e1
  obtain ⟨ws, q, hpl, hx, hq⟩ := I1.line h1
  refine st_want (ev_leN (ev_var rfl) (ev_lenL (ev_ixL (ev_fld (ev_var rfl) I1.obj T.clsP T.p_lines rfl) (ev_var rfl) hpl hx) hq (nums_len _))) (fun hb2 H2 e2 => ?_) (fun hb2 => (hn fun z => (of_decide_eq_false hb2) z.2).go e1)
  exact hy ⟨h1, of_decide_eq_true hb2⟩ H2 (e1.trans e2)

theorem pure_goto (T : Txt K mg c) : ∀ vs H Q E, sp_goto c vs H Q E → t_goto K c E { nx := fun _ H' => Q .non H', rt := Q } (start N_goto vs) H := by
  rintro vs H Q E ⟨p, pf, g, n, m, rfl, P, G, hd⟩
  obtain ⟨dx, pl, ps, I⟩ := P.get
  obtain ⟨ys, hys, ity⟩ := I.folds
  have hf := G.text.folds.1
  refine qd_meth (ev_var rfl) I.obj rfl (ea_cons (ev_var rfl) (ea_cons (ev_var rfl) ea_nil)) fun H1 e1 => ⟨p, pf, g, n, m, rfl, (I.mono e1).at_, fun h1 H2 e2 => ?_, fun h1 => (hd.1 _ (by decide) (Fv.step_goto_no h1)).go e1⟩
  have e12 := e1.trans e2
  have I2 := I.mono e12
  have tx := Fv.goto_text G h1
  refine q_fldN (ev_var rfl) (en_lcEn (R := FoldR) (R2 := FoldR) (fun f => !Ue07.hides f n) id FoldR.steady FoldR.steady FoldR.firm (ev_fld (ev_var rfl) I2.obj T.clsP T.p_folds rfl) (e12 _ _ hys) (ity.mono FoldR.steady e12) (by rw [ity.len]; omega) (fun _ => rfl) (fun x w H2 e hm r => et_not (et_B (ev_call (ea_cons (ev_var rfl) (ea_cons (ev_var rfl) ea_nil)) (sv_hides r)))) (fun x w H2 e hm _ r => fun H3 e3 Q k => ev_var rfl H3 e3 Q fun H4 e4 => k x H4 e4 (FoldR.steady _ _ _ _ (e3.trans e4) r))) I2.obj T.clsP T.p_folds (by show 9 < 1000; decide) (fun q Ha Hb ea h => h.mono FoldR.steady ea) fun F H3 n3 e3 hF => ?_
  rw [List.map_id] at hF
  have I3 := page_newfolds I2 e3 n3 hF
  have k3 : K1 p H _ := (K1.of (e12.trans e3)).trans (K1.upd (o := .ins c.CP dx (putF "folds" (.ref F) (pF pl ps pf g))))
  refine q_pset { g with folds := g.folds.filter fun f => !Ue07.hides f n, line := n } T (ev_var rfl) I3 (ev_var rfl) T.p_line rfl rfl rfl rfl fun H4 I4 k4 => ?_
  refine q_pset (Fv.gone g n m) T (ev_var rfl) I4 (ev_var rfl) T.p_place rfl rfl rfl rfl fun H5 I5 k5 => ?_
  have k' := (k3.trans k4).trans k5
  exact r_settled T (ev_var rfl) I5 tx.1 tx.2.line (does_of hd (Fv.step_goto G h1) (Fv.good_settledP tx.1 tx.2.line)) k'.kp (I5.dm k') (.inr (fresh_back e12 n3))

theorem pure_up (T : Txt K mg c) : ∀ vs H Q E, sp_up c vs H Q E → t_up K c E { nx := fun _ H' => Q .non H', rt := Q } (start N_up vs) H := by
  rintro vs H Q E ⟨p, pf, g, n, rfl, P, G, hd⟩
  obtain ⟨dx, pl, ps, I⟩ := P.get
  refine q_want (ev_leN (ev_var rfl) (ev_num (n := 100) rfl)) (fun hb H1 e1 => ?_) (fun hb => hd.1 _ (by decide) (Fv.step_up_no (of_decide_eq_false hb)))
  have h1 := of_decide_eq_true hb
  have I1 := I.mono e1
  have hp := Fv.pointRow_lt G.pt.line G.pt.seen
  obtain ⟨x, hx⟩ := Fv.row_get (g := g) (i := Ue07.pointRow g - n) (by omega)
  have tx := Fv.put_text G.text hx
  refine qd_meth (vs := [nV (Ue07.pointRow g - n)]) (ev_var rfl) I1.obj rfl (ea_cons (ev_is (ev_max2 (i := 0) ev_c (ev_subI (ev_meth (ev_var rfl) I1.obj rfl ea_nil (sv_own_row I1.at_ G.text G.pt.line)) (ev_var rfl))) ?_) ea_nil) fun H2 e2 => ⟨p, pf, g, _, x, rfl, (I1.mono e2).at_, G.text, G.pt.line, hx, fun v H3 pf3 kp3 dm3 hpf3 P3 hv => ?_⟩
  · refine congrArg V.int ?_
    split <;> omega
  obtain ⟨dx3, pl3, ps3, I3⟩ := P3.get
  have e12 := e1.trans e2
  refine r_scrolled (H0 := H) (pf := pf) T (ev_var rfl) I3 tx.1 tx.2.1.line (does_of hd (Fv.step_up h1 hx) (Fv.good_scrolled tx.1 tx.2.1)) (fun b o hb n1 n2 => kp3 b o (e12 _ _ hb) n1 n2) (fun b hb => fresh_back e12 (dm3 b hb)) (hpf3.imp id (fresh_back e12))

theorem pure_down (T : Txt K mg c) : ∀ vs H Q E, sp_down c vs H Q E → t_down K c E { nx := fun _ H' => Q .non H', rt := Q } (start N_down vs) H := by
  rintro vs H Q E ⟨p, pf, g, n, rfl, P, G, hd⟩
  obtain ⟨dx, pl, ps, I⟩ := P.get
  refine q_want (ev_leN (ev_var rfl) (ev_num (n := 100) rfl)) (fun hb H1 e1 => ?_) (fun hb => hd.1 _ (by decide) (Fv.step_down_no (of_decide_eq_false hb)))
  have h1 := of_decide_eq_true hb
  have I1 := I.mono e1
  have hp := Fv.pointRow_lt G.pt.line G.pt.seen
  obtain ⟨x, hx⟩ := Fv.row_get (g := g) (i := min (Ue07.pointRow g + n) (Ue07.rowCount g - 1)) (by omega)
  have tx := Fv.put_text G.text hx
  refine qd_meth (vs := [nV (min (Ue07.pointRow g + n) (Ue07.rowCount g - 1))]) (ev_var rfl) I1.obj rfl (ea_cons (ev_is (ev_minN (ev_subN (ev_lenX (K := K) (q := p) (n := Ue07.rowCount g) (en_meth (ev_var rfl) I1.obj rfl ea_nil (sn_rows I1.at_ G.text)) (fun q H1 s => ?_)) (ev_num (n := 1) rfl) (by omega)) (ev_addN (ev_meth (ev_var rfl) I1.obj rfl ea_nil (sv_own_row I1.at_ G.text G.pt.line)) (ev_var rfl))) (congrArg nV (Nat.min_comm _ _))) ea_nil) fun H2 e2 => ⟨p, pf, g, _, x, rfl, (I1.mono e2).at_, G.text, G.pt.line, hx, fun v H3 pf3 kp3 dm3 hpf3 P3 hv => ?_⟩
  · obtain ⟨xs, h1, h2⟩ := s
    exact ⟨xs, h1, h2.len⟩
  obtain ⟨dx3, pl3, ps3, I3⟩ := P3.get
  have e12 := e1.trans e2
  exact r_scrolled (H0 := H) (pf := pf) T (ev_var rfl) I3 tx.1 tx.2.1.line (does_of hd (Fv.step_down h1 hx) (Fv.good_scrolled tx.1 tx.2.1)) (fun b o hb n1 n2 => kp3 b o (e12 _ _ hb) n1 n2) (fun b hb => fresh_back e12 (dm3 b hb)) (hpf3.imp id (fresh_back e12))
end
end Fw
/-! The readings hold: left, right, scroll; what is asked. -/
namespace Fw
open PySem PySem.Spec PyProof.Rows L2 Evl
section
variable {K : PySem.W.Frag} {mg : Str → Option Value} {c : Cc} {σ : L2.St} {H H' H1 : Hp} {p pf : Addr} {g : Ue07.St} {ta tb te : TE} {x y z v : V}

/-! ### words -/
theorem q_fldAug {D : Ends} {tz : TS} {a C dx : Addr} {fs : List (Str × V)} {f : Str} {rd : V → V → Hp → VK → Prop} (ha : Ev ta σ H (.ref a)) (hv : Ev te σ H y) (h : H a = some (.ins C dx fs)) (cl : Cls K C) (n : NoAttr K C f) (l : fs.lookup f = some x) (hr : ∀ H1 Q, Q z H1 → rd x y H1 Q) (hl : fs.length < 1000) (k : ∀ H1, Ex H H1 → tz D σ (upd H1 a (.ins C dx (putF f z fs)))) : tSeq (sFldAug K ta te rd f) tz D σ H :=
  s_fldAug (i := 0) (j := 0) (D := { D with nx := tz D }) ha hv h cl n l hr hl k
/-- where the page has come to -/
def Rch (c : Cc) (p pf : Addr) (H H' : Hp) (g' : Ue07.St) : Prop := ∃ pf', Kp p pf H H' ∧ Dm H H' ∧ (pf' = pf ∨ H pf' = none) ∧ PageAt c H' p pf' g'
theorem Rch.more {pf1 pf2 : Addr} {H2 : Hp} {g2 : Ue07.St} (k1 : Kp p pf H H1) (d1 : Dm H H1) (h1 : pf1 = pf ∨ H pf1 = none) (k2 : Kp p pf1 H1 H2) (d2 : Dm H1 H2) (h2 : pf2 = pf1 ∨ H1 pf2 = none) (P : PageAt c H2 p pf2 g2) : Rch c p pf H H2 g2 := by
  refine ⟨pf2, fun b o hb n1 n2 => k2 b o (k1 b o hb n1 n2) n1 ?_, fun b hb => d1 b (d2 b hb), ?_, P⟩
  · rintro rfl
    rcases h1 with z | z
    · exact n2 z
    · rw [z] at hb
      cases hb
  · rcases h2 with z | z
    · rw [z]
      exact h1
    · exact .inr (d1 _ z)
/-- over a range from a number on -/
theorem en_lcR2 {t : TT} {ta : TA} {vs : List Nat} {j lo hi : Nat} (p : Nat → Bool) (h : EvA ta σ H [nV lo, nV hi]) (hn : lo ≤ 40000 ∧ hi ≤ 40000) (hw : ∀ x, wipe ((wipe σ vs).set j (some x)) vs = wipe σ vs)
    (ht : ∀ (i : Nat) H1, Ex H H1 → i < hi - lo → EvT t ((wipe σ vs).set j (some (nV (lo + i)))) H1 (p (lo + i))) (he : ∀ (i : Nat) H1, Ex H H1 → i < hi - lo → Ev te ((wipe σ vs).set j (some (nV (lo + i)))) H1 (nV (lo + i))) :
    EvN (tLc (iRng2 ta) (gName j) t te vs) σ H (fun q H1 => H1 q = some (.lst (nums (((List.range (hi - lo)).map fun i => lo + i).filter p)))) := fun H0 e Q k =>
  h H0 e _ fun H1 e1 => ⟨(lo : Int), (hi : Int), rfl, ⟨by omega, by omega, by omega, by omega⟩, fun D hD => by
    have en : ((hi : Int) - (lo : Int)).toNat = hi - lo := by omega
    rw [en]
    refine lc_range (lo := (lo : Int)) (n := hi - lo) (fun i H' => Ex H1 H' ∧ H' D = some (.lst (nums (((List.range i).map fun i => lo + i).filter p)))) ⟨Ex.new hD, upd_same⟩ (fun i H' hi' ⟨ee, hd⟩ => ?_) (fun H' ⟨ee, hd⟩ => k D H' (fresh_back e1 hD) (e1.trans ee) hd)
    have e0 : (V.int ((lo : Int) + (i : Int))) = nV (lo + i) := by simp [nV]
    rw [e0]
    have eh := (e.trans e1).trans ee
    have em : ((List.range (i + 1)).map fun i => lo + i).filter p = ((List.range i).map fun i => lo + i).filter p ++ (if p (lo + i) = true then [lo + i] else []) := by
      rw [List.range_succ, List.map_append, List.filter_append, List.map_singleton, List.filter_cons]
      rfl
    refine ⟨hw _, ht i H' eh hi' H' (Ex.refl H') _ fun H3 e3 => ?_⟩
    cases hp : p (lo + i) with
    | true =>
      rw [if_pos rfl]
      refine he i H3 (eh.trans e3) hi' H3 (Ex.refl H3) _ fun H4 e4 => ⟨_, e4 D _ (e3 D _ hd), sz_lt ?_, Ex.mut ((ee.trans e3).trans e4) hD, ?_⟩
      · rw [nums_len]
        have := List.length_filter_le p ((List.range i).map fun i => lo + i)
        rw [List.length_map, List.length_range] at this
        omega
      · rw [em, if_pos hp, upd_same]
        unfold nums
        rw [List.map_append]
        rfl
    | false =>
      rw [if_neg (by decide)]
      refine ⟨ee.trans e3, ?_⟩
      rw [em, hp, if_neg (by decide), List.append_nil]
      exact e3 D _ hd⟩
/-- a slice of a list made on the way -/
theorem en_sliceN {α : Type} {R : RelH α} {ws : List α} {tl th : TO} {a b : Nat} (st : Steady R) (h : EvN te σ H (fun q H1 => ListAt R H1 q ws)) (h1 : EvO tl σ H (some (a : Int))) (h2 : EvO th σ H (some (b : Int))) : EvN (tSl (rSlL K) te tl th) σ H (fun q H2 => ListAt R H2 q ((ws.take b).drop a)) := fun H1 e Q k =>
  h H1 e _ fun q H2 n2 e2 s => h1 H2 (e.trans e2) _ fun H3 e3 => h2 H3 ((e.trans e2).trans e3) _ fun H4 e4 => by
    obtain ⟨xs, hx, it⟩ := s
    refine ⟨q, xs, rfl, sq_of (e4 _ _ (e3 _ _ hx)), fun D hD => k D _ (fresh_back ((e2.trans e3).trans e4) hD) (((e2.trans e3).trans e4).trans (Ex.new hD)) ⟨_, upd_same, ?_⟩⟩
    rw [cutV_both]
    exact ((it.mono st ((e3.trans e4).trans (Ex.new hD))).take b).drop a
theorem does_same {call : Ue07.Call} {l : List Int} {Q : VK} {E : XK} (h : Does c call p pf g H Q E) (P : PageAt c H p pf g) (e : Ue07.step g call = (g, l)) : RetN (fun q H' => H' q = some (.lst (l.map V.int))) H Q := by
  have h2 := h.2
  rw [e] at h2
  exact fun q H' n e' hq => h2 _ H' pf (K1.of (p := p) e').kp (fun b hb => fresh_back e' hb) (.inl rfl) (P.mono e') ⟨q, rfl, n, hq⟩

/-! ### one place on -/
theorem pure_step_left (T : Txt K mg c) : ∀ vs H Q E, sp_step_left c vs H Q E → t_step_left K c E { nx := fun _ H' => Q .non H', rt := Q } (start N_step_left vs) H := by
  rintro vs H Q E ⟨p, pf, g, rfl, P, tx, pt, k⟩
  obtain ⟨dx, pl, ps, I⟩ := P.get
  have hl := pt.line
  have hm := tx.many
  refine q_when (et_test (ev_gtN (ev_fld (ev_var rfl) I.obj T.clsP T.p_place rfl) (ev_num (n := 0) rfl))) (fun h H1 e1 => ?_) (fun h H1 e1 => ?_)
  · have h1 := of_decide_eq_true h
    have e : Ue07.oneLeft g = { g with place := g.place - 1 } := if_pos h1
    rw [e] at k
    have I1 := I.mono e1
    refine q_fldAug (z := nV (g.place - 1)) (ev_var rfl) (ev_num (n := 1) rfl) I1.obj T.clsP T.p_place rfl (fun H1 Q q => ra_sub (i := (g.place : Int)) (j := 1) H1 Q ?_) (by show 9 < 1000; decide) fun H2 e2 => ?_
    · have e5 : (g.place : Int) - 1 = ((g.place - 1 : Nat) : Int) := by omega
      rw [e5]
      exact q
    · have I3 := page_put (f := "place") (v := nV (g.place - 1)) (g' := { g with place := g.place - 1 }) (I1.mono e2) rfl rfl rfl rfl
      have k3 : K1 p H _ := (K1.of (e1.trans e2)).trans (K1.upd (o := .ins c.CP dx (putF "place" (nV (g.place - 1)) (pF pl ps pf g))))
      exact k .non _ pf k3.kp (I3.dm k3) (.inl rfl) I3.at_ rfl
  have h1 := of_decide_eq_false h
  have I1 := I.mono e1
  have eO : Ue07.oneLeft g = match ((List.range g.line).filter fun i => !Ue07.hidden g.folds i).getLast? with
      | none => g
      | some n => { g with line := n, place := (Ue07.lineAt g n).length } := by
    unfold Ue07.oneLeft
    rw [if_neg h1, Fv.seen_ahead (by omega)]
    rfl
  refine q_asgN (en_lcR (fun i => !Ue07.hidden g.folds i) (ea_cons (ev_fld (ev_var rfl) I1.obj T.clsP T.p_line rfl) ea_nil) (by omega) (fun _ => rfl) (fun i H2 e2 hi => et_B (ev_call (ea_cons (ev_fld (ev_var rfl) (I1.mono e2).obj T.clsP T.p_folds rfl) (ea_cons (ev_var rfl) ea_nil)) (sv_is_seen (I1.mono e2).folds (by have := tx.folds.1; omega)))) (fun i H2 e2 hi => ev_var rfl)) fun A H2 n2 e2 hA => ?_
  have I2 := I1.mono e2
  have hmem : ∀ n ∈ ((List.range g.line).filter fun i => !Ue07.hidden g.folds i), n < g.line := fun n hn => List.mem_range.mp (List.mem_filter.mp hn).1
  generalize hL : ((List.range g.line).filter fun i => !Ue07.hidden g.folds i) = L at hA eO hmem
  refine s_when (et_test (ev_notNil (ev_var rfl) (fun H3 e3 => nums_dp (e3 _ _ hA)) (nDs_shaped _))) (fun h3 H3 e3 => ?_) (fun h3 H3 e3 => ?_)
  · have hne : L ≠ [] := by simpa using h3
    have hcat := List.dropLast_concat_getLast hne
    have hlt : L.getLast hne < g.line := hmem _ (List.getLast_mem hne)
    have hget : L.getLast? = some (L.getLast hne) := List.getLast?_eq_some_getLast hne
    rw [hget] at eO
    have I3 := I2.mono e3
    have e5 : nums L = nums L.dropLast ++ [nV (L.getLast hne)] := by
      conv => lhs; rw [← hcat]
      unfold nums
      rw [List.map_append]
      rfl
    refine q_pset { g with line := L.getLast hne } T (ev_var rfl) I3 (ev_op (z := nV (L.getLast hne)) (ev_var rfl) (ev_neg ev_c) (rv_ixL (sq_of (e3 _ _ hA)) (by rw [e5]; exact atI_last _ _))) T.p_line rfl rfl rfl rfl fun H4 I4 k4 => ?_
    obtain ⟨xs, q, hpl, hx, hq⟩ := I4.line (n := L.getLast hne) (by show L.getLast hne < g.lines.length; omega)
    refine s_pset { g with line := L.getLast hne, place := (Ue07.lineAt g (L.getLast hne)).length } T (ev_var rfl) I4 (ev_lenL (ev_ixL (ev_fld (ev_var rfl) I4.obj T.clsP T.p_lines rfl) (ev_fld (ev_var rfl) I4.obj T.clsP T.p_line rfl) hpl hx) hq (nums_len _)) T.p_place rfl rfl rfl rfl fun H5 I5 k5 => ?_
    have k' := ((K1.of ((e1.trans e2).trans e3)).trans k4).trans k5
    rw [eO] at k
    exact k .non H5 pf k'.kp (I5.dm k') (.inl rfl) I5.at_ rfl
  · have hn : L = [] := by simpa using h3
    have ee := (e1.trans e2).trans e3
    rw [eO, hn] at k
    exact k .non H3 pf (K1.of (p := p) ee).kp (fun b hb => fresh_back ee hb) (.inl rfl) (I2.mono e3).at_ rfl

theorem pure_step_right (T : Txt K mg c) : ∀ vs H Q E, sp_step_right c vs H Q E → t_step_right K c E { nx := fun _ H' => Q .non H', rt := Q } (start N_step_right vs) H := by
  rintro vs H Q E ⟨p, pf, g, rfl, P, tx, pt, k⟩
  obtain ⟨dx, pl, ps, I⟩ := P.get
  have hl := pt.line
  have hm := tx.many
  obtain ⟨xs, q, hpl, hx, hq⟩ := I.line hl
  refine q_when (et_test (ev_ltN (ev_fld (ev_var rfl) I.obj T.clsP T.p_place rfl) (ev_lenL (ev_ixL (ev_fld (ev_var rfl) I.obj T.clsP T.p_lines rfl) (ev_fld (ev_var rfl) I.obj T.clsP T.p_line rfl) hpl hx) hq (nums_len _)))) (fun h H1 e1 => ?_) (fun h H1 e1 => ?_)
  · have h1 := of_decide_eq_true h
    have e : Ue07.oneRight g = { g with place := g.place + 1 } := if_pos h1
    rw [e] at k
    have I1 := I.mono e1
    refine q_fldAug (z := nV (g.place + 1)) (ev_var rfl) (ev_num (n := 1) rfl) I1.obj T.clsP T.p_place rfl (fun H1 Q q => ra_add (i := (g.place : Int)) (j := 1) H1 Q ?_) (by show 9 < 1000; decide) fun H2 e2 => ?_
    · exact q
    · have I3 := page_put (f := "place") (v := nV (g.place + 1)) (g' := { g with place := g.place + 1 }) (I1.mono e2) rfl rfl rfl rfl
      have k3 : K1 p H _ := (K1.of (e1.trans e2)).trans (K1.upd (o := .ins c.CP dx (putF "place" (nV (g.place + 1)) (pF pl ps pf g))))
      exact k .non _ pf k3.kp (I3.dm k3) (.inl rfl) I3.at_ rfl
  have h1 := of_decide_eq_false h
  have I1 := I.mono e1
  have eO : Ue07.oneRight g = match (((List.range (g.lines.length - (g.line + 1))).map fun i => g.line + 1 + i).filter fun i => !Ue07.hidden g.folds i).head? with
      | none => g
      | some n => { g with line := n, place := 0 } := by
    unfold Ue07.oneRight
    rw [if_neg h1, Fv.seen_behind hl]
    rfl
  obtain ⟨zs, hzs, itz⟩ := I1.lines.mono LineR.steady hide_le
  refine q_asgN (en_lcR2 (fun i => !Ue07.hidden g.folds i) (ea_cons (ev_addN (ev_fld (ev_var rfl) I1.obj T.clsP T.p_line rfl) (ev_num (n := 1) rfl)) (ea_cons (ev_lenL (ev_fld (ev_var rfl) I1.obj T.clsP T.p_lines rfl) hzs itz.len) ea_nil)) (by omega) (fun _ => rfl) (fun i H2 e2 hi => et_B (ev_call (ea_cons (ev_fld (ev_var rfl) (I1.mono e2).obj T.clsP T.p_folds rfl) (ea_cons (ev_var rfl) ea_nil)) (sv_is_seen (I1.mono e2).folds (by have := tx.folds.1; omega)))) (fun i H2 e2 hi => ev_var rfl)) fun A H2 n2 e2 hA => ?_
  have I2 := I1.mono e2
  have hmem : ∀ n ∈ (((List.range (g.lines.length - (g.line + 1))).map fun i => g.line + 1 + i).filter fun i => !Ue07.hidden g.folds i), n < g.lines.length := fun n hn => by
    obtain ⟨i, hi, e⟩ := List.mem_map.mp (List.mem_filter.mp hn).1
    have := List.mem_range.mp hi
    omega
  generalize hL : (((List.range (g.lines.length - (g.line + 1))).map fun i => g.line + 1 + i).filter fun i => !Ue07.hidden g.folds i) = L at hA eO hmem
  refine s_when (et_test (ev_notNil (ev_var rfl) (fun H3 e3 => nums_dp (e3 _ _ hA)) (nDs_shaped _))) (fun h3 H3 e3 => ?_) (fun h3 H3 e3 => ?_)
  · cases L with
    | nil => simp at h3
    | cons n L =>
      have hlt := hmem n List.mem_cons_self
      have I3 := I2.mono e3
      refine q_pset { g with line := n } T (ev_var rfl) I3 (ev_n0 (ev_var rfl) (e3 _ _ hA)) T.p_line rfl rfl rfl rfl fun H4 I4 k4 => ?_
      refine s_pset { g with line := n, place := 0 } T (ev_var rfl) I4 (ev_num (n := 0) rfl) T.p_place rfl rfl rfl rfl fun H5 I5 k5 => ?_
      have k' := ((K1.of ((e1.trans e2).trans e3)).trans k4).trans k5
      rw [eO] at k
      exact k .non H5 pf k'.kp (I5.dm k') (.inl rfl) I5.at_ rfl
  · have hn : L = [] := by simpa using h3
    have ee := (e1.trans e2).trans e3
    rw [eO, hn] at k
    exact k .non H3 pf (K1.of (p := p) ee).kp (fun b hb => fresh_back ee hb) (.inl rfl) (I2.mono e3).at_ rfl

theorem pure_left (T : Txt K mg c) : ∀ vs H Q E, sp_left c vs H Q E → t_left K c E { nx := fun _ H' => Q .non H', rt := Q } (start N_left vs) H := by
  rintro vs H Q E ⟨p, pf, g, n, rfl, P, G, hd⟩
  refine q_want (ev_leN (ev_var rfl) (ev_num (n := 100) rfl)) (fun hb H1 e1 => ?_) (fun hb => hd.1 _ (by decide) (Fv.step_left_no (of_decide_eq_false hb)))
  have h1 := of_decide_eq_true hb
  refine q_forR1 (n := (n : Int)) (ea_cons (ev_var rfl) ea_nil) (by omega) (fun i σ' H' => ∃ y, σ' = [some (.ref p), some (nV n), y] ∧ Rch c p pf H H' (Ue07.several Ue07.oneLeft i g)) (fun H2 e2 => ⟨none, rfl, pf, (K1.of (p := p) (e1.trans e2)).kp, Dm.of (e1.trans e2), .inl rfl, P.mono (e1.trans e2)⟩) ?_ ?_
  · rintro i σ' H' hi ⟨y, rfl, pf1, k1, d1, hp1, P1⟩
    obtain ⟨dx, pl, ps, I1⟩ := P1.get
    have q := Fv.several_text (fun _ => Fv.left_text) G.text G.pt i
    refine d_meth (ev_var rfl) I1.obj rfl ea_nil fun H2 e2 => ⟨p, pf1, _, rfl, (I1.mono e2).at_, q.1, q.2, fun v H3 pf3 k3 d3 h3 P3 hv => ⟨some (.int (i : Int)), rfl, ?_⟩⟩
    rw [Fv.several_more]
    exact Rch.more k1 d1 hp1 (fun b o hb n1 n2 => k3 b o (e2 _ _ hb) n1 n2) (fun b hb => fresh_back e2 (d3 b hb)) (h3.imp id (fresh_back e2)) P3
  · rintro σ' H' ⟨y, rfl, pf1, k1, d1, hp1, P1⟩
    have q := Fv.several_text (fun _ => Fv.left_text) G.text G.pt n
    rw [Int.toNat_natCast] at P1
    obtain ⟨dx, pl, ps, I1⟩ := P1.get
    exact r_settled T (ev_var rfl) I1 q.1 q.2.line (does_of hd (Fv.step_left G h1) (Fv.good_settledP q.1 q.2.line)) k1 d1 hp1
theorem pure_right (T : Txt K mg c) : ∀ vs H Q E, sp_right c vs H Q E → t_right K c E { nx := fun _ H' => Q .non H', rt := Q } (start N_right vs) H := by
  rintro vs H Q E ⟨p, pf, g, n, rfl, P, G, hd⟩
  refine q_want (ev_leN (ev_var rfl) (ev_num (n := 100) rfl)) (fun hb H1 e1 => ?_) (fun hb => hd.1 _ (by decide) (Fv.step_right_no (of_decide_eq_false hb)))
  have h1 := of_decide_eq_true hb
  refine q_forR1 (n := (n : Int)) (ea_cons (ev_var rfl) ea_nil) (by omega) (fun i σ' H' => ∃ y, σ' = [some (.ref p), some (nV n), y] ∧ Rch c p pf H H' (Ue07.several Ue07.oneRight i g)) (fun H2 e2 => ⟨none, rfl, pf, (K1.of (p := p) (e1.trans e2)).kp, Dm.of (e1.trans e2), .inl rfl, P.mono (e1.trans e2)⟩) ?_ ?_
  · rintro i σ' H' hi ⟨y, rfl, pf1, k1, d1, hp1, P1⟩
    obtain ⟨dx, pl, ps, I1⟩ := P1.get
    have q := Fv.several_text (fun _ => Fv.right_text) G.text G.pt i
    refine d_meth (ev_var rfl) I1.obj rfl ea_nil fun H2 e2 => ⟨p, pf1, _, rfl, (I1.mono e2).at_, q.1, q.2, fun v H3 pf3 k3 d3 h3 P3 hv => ⟨some (.int (i : Int)), rfl, ?_⟩⟩
    rw [Fv.several_more]
    exact Rch.more k1 d1 hp1 (fun b o hb n1 n2 => k3 b o (e2 _ _ hb) n1 n2) (fun b hb => fresh_back e2 (d3 b hb)) (h3.imp id (fresh_back e2)) P3
  · rintro σ' H' ⟨y, rfl, pf1, k1, d1, hp1, P1⟩
    have q := Fv.several_text (fun _ => Fv.right_text) G.text G.pt n
    rw [Int.toNat_natCast] at P1
    obtain ⟨dx, pl, ps, I1⟩ := P1.get
    exact r_settled T (ev_var rfl) I1 q.1 q.2.line (does_of hd (Fv.step_right G h1) (Fv.good_settledP q.1 q.2.line)) k1 d1 hp1

/-! ### where the point may stay -/
theorem pure_first_free (T : Txt K mg c) : ∀ vs H Q E, sp_first_free c vs H Q E → t_first_free K c E { nx := fun _ H' => Q .non H', rt := Q } (start N_first_free vs) H := by
  rintro vs H Q E ⟨p, pf, g, rfl, P, hh, k⟩
  obtain ⟨dx, pl, ps, I⟩ := P.get
  refine q_when (et_test (ev_eqN (ev_fld (ev_var rfl) I.obj T.clsP T.p_top rfl) (ev_num (n := 0) rfl))) (fun h H1 e1 => ?_) (fun h H1 e1 => ?_)
  · refine s_ret (ev_num (n := Fv.firstFree g) ?_) fun H2 e2 => k H2 (e1.trans e2)
    unfold Fv.firstFree
    rw [if_pos (of_decide_eq_true h)]
    rfl
  · have I1 := I.mono e1
    refine s_ret (ev_is (ev_addN (ev_fld (ev_var rfl) I1.obj T.clsP T.p_top rfl) (ev_meth (ev_var rfl) I1.obj rfl ea_nil (sv_margin I1.at_ hh))) ?_) fun H2 e2 => k H2 (e1.trans e2)
    unfold Fv.firstFree
    rw [if_neg (of_decide_eq_false h)]
theorem sv_first_free (P : PageAt c H p pf g) (hh : 1 ≤ g.high) : SpV (sp_first_free c) [.ref p] H (nV (Fv.firstFree g)) := fun H1 e Q k _ => ⟨p, pf, g, rfl, P.mono e, hh, k⟩
theorem pure_last_free (T : Txt K mg c) : ∀ vs H Q E, sp_last_free c vs H Q E → t_last_free K c E { nx := fun _ H' => Q .non H', rt := Q } (start N_last_free vs) H := by
  rintro vs H Q E ⟨p, pf, g, rfl, P, tx, hn, k⟩
  obtain ⟨dx, pl, ps, I⟩ := P.get
  have hh := tx.high
  have hmg : Fv.marginOf g ≤ (g.high - 1) / 2 := Nat.min_le_right _ _
  refine q_asg (ev_lenX (K := K) (q := p) (n := Ue07.rowCount g) (en_meth (ev_var rfl) I.obj rfl ea_nil (sn_rows P tx)) (fun q H1 s => ?_)) fun H1 e1 => ?_
  · obtain ⟨xs, h1, h2⟩ := s
    exact ⟨xs, h1, h2.len⟩
  have I1 := I.mono e1
  refine q_when (et_test (ev_geN (ev_addN (ev_fld (ev_var rfl) I1.obj T.clsP T.p_top rfl) (ev_fld (ev_var rfl) I1.obj T.clsP T.p_high rfl)) (ev_var rfl))) (fun h H2 e2 => ?_) (fun h H2 e2 => ?_)
  · refine s_ret (ev_is (ev_subN (ev_var rfl) (ev_num (n := 1) rfl) hn) ?_) fun H3 e3 => k H3 ((e1.trans e2).trans e3)
    unfold Fv.lastFree
    rw [if_pos (of_decide_eq_true h)]
  · have I2 := I1.mono e2
    refine s_ret (ev_is (ev_subN (ev_subN (ev_addN (ev_fld (ev_var rfl) I2.obj T.clsP T.p_top rfl) (ev_fld (ev_var rfl) I2.obj T.clsP T.p_high rfl)) (ev_num (n := 1) rfl) (by omega)) (ev_meth (ev_var rfl) I2.obj rfl ea_nil (sv_margin I2.at_ hh)) (by omega)) ?_) fun H3 e3 => k H3 ((e1.trans e2).trans e3)
    unfold Fv.lastFree
    rw [if_neg (of_decide_eq_false h)]
theorem sv_last_free (P : PageAt c H p pf g) (tx : Fv.Text g) (hn : 0 < Ue07.rowCount g) : SpV (sp_last_free c) [.ref p] H (nV (Fv.lastFree g)) := fun H1 e Q k _ => ⟨p, pf, g, rfl, P.mono e, tx, hn, k⟩

theorem pure_scroll (T : Txt K mg c) : ∀ vs H Q E, sp_scroll c vs H Q E → t_scroll K c E { nx := fun _ H' => Q .non H', rt := Q } (start N_scroll vs) H := by
  rintro vs H Q E ⟨p, pf, g, b, n, rfl, P, G, hd⟩
  obtain ⟨dx, pl, ps, I⟩ := P.get
  refine q_want (ev_leN (ev_var rfl) (ev_num (n := 100) rfl)) (fun hb H1 e1 => ?_) (fun hb => hd.1 _ (by decide) (Fv.step_scroll_no (of_decide_eq_false hb)))
  have h1 := of_decide_eq_true hb
  have I1 := I.mono e1
  have ht := Fv.scrollTop_le G b n
  have f1 := Fv.firstFree_lt (g := g) G.text.high G.count ht
  have f2 := Fv.lastFree_ge (g := g) G.text.high G.count ht
  have tx : Fv.Text (Fv.withTop g (Fv.scrollTop g b n)) := ⟨G.text.wide, G.text.tab, G.text.len, G.text.some, G.text.many, G.text.folds, G.text.high⟩
  have rest : ∀ H2, K1 p H H2 → PageIn c H2 p pf dx pl ps (Fv.withTop g (Fv.scrollTop g b n)) →
      tSeq (tAsg (tMeth c.CP "own_row" (sp_own_row c) [] E0 (tVar 0) tNil) (gName 3))
        (tSeq (tIfS (tTest (tOp rLtI (tVar 3) (tMeth c.CP "first_free" (sp_first_free c) [] E0 (tVar 0) tNil))) (tDrop (tMeth c.CP "put_into" (sp_put_into c) [] E0 (tVar 0) (tCons (tMeth c.CP "first_free" (sp_first_free c) [] E0 (tVar 0) tNil) tNil))) (tIfS (tTest (tOp rGtI (tVar 3) (tMeth c.CP "last_free" (sp_last_free c) [] E0 (tVar 0) tNil))) (tDrop (tMeth c.CP "put_into" (sp_put_into c) [] E0 (tVar 0) (tCons (tMeth c.CP "last_free" (sp_last_free c) [] E0 (tVar 0) tNil) tNil))) tNext))
        (tRet (tMeth c.CP "told" (sp_told c) [] E0 (tVar 0) tNil))) { nx := fun _ H' => Q .non H', rt := Q } [some (.ref p), some (nV b.toNat), some (nV n), none] H2 := by
    intro H2 k2 I2
    refine q_asg (ev_meth (ev_var rfl) I2.obj rfl ea_nil (sv_own_row I2.at_ tx G.pt.line)) fun H3 e3 => ?_
    have I3 := I2.mono e3
    have k3 := k2.trans (K1.of (p := p) e3)
    refine q_if (et_test (ev_ltN (ev_var rfl) (ev_meth (ev_var rfl) I3.obj rfl ea_nil (sv_first_free I3.at_ tx.high)))) (fun h H4 e4 => ?_) (fun h H4 e4 => ?_)
    · have hc := of_decide_eq_true h
      obtain ⟨x, hx⟩ := Fv.row_get (g := g) f1.1
      have I4 := I3.mono e4
      have k4 := k3.trans (K1.of (p := p) e4)
      have tp := Fv.put_text (g := Fv.withTop g (Fv.scrollTop g b n)) tx hx
      refine d_meth (ev_var rfl) I4.obj rfl (ea_cons (ev_meth (ev_var rfl) I4.obj rfl ea_nil (sv_first_free I4.at_ tx.high)) ea_nil) fun H5 e5 => ⟨p, pf, _, _, x, rfl, (I4.mono e5).at_, tx, G.pt.line, hx, fun v H6 pf6 k6 d6 h6 P6 hv => ?_⟩
      obtain ⟨dx6, pl6, ps6, I6⟩ := P6.get
      have k5 := k4.trans (K1.of (p := p) e5)
      have d5 := (I4.mono e5).dm k5
      obtain ⟨pf7, r1, r2, r3, _⟩ := Rch.more (c := c) k5.kp d5 (.inl rfl) k6 d6 h6 P6
      exact r_told T (ev_var rfl) I6 tp.1 tp.2.1.line (does_of hd (Fv.step_scroll_up h1 hc hx) (Fv.good_put_top G.text hx ht f1.2)) r1 r2 (h6.imp id (d5 _))
    · have hc := of_decide_eq_false h
      have I4 := I3.mono e4
      have k4 := k3.trans (K1.of (p := p) e4)
      refine s_if (et_test (ev_gtN (ev_var rfl) (ev_meth (ev_var rfl) I4.obj rfl ea_nil (sv_last_free I4.at_ tx G.count)))) (fun h2 H5 e5 => ?_) (fun h2 H5 e5 => ?_)
      · have hc2 := of_decide_eq_true h2
        have hp := Fv.pointRow_lt G.pt.line G.pt.seen
        obtain ⟨x, hx⟩ := Fv.row_get (g := g) (i := Fv.lastFree (Fv.withTop g (Fv.scrollTop g b n))) (Nat.lt_trans hc2 hp)
        have I5 := I4.mono e5
        have k5 := k4.trans (K1.of (p := p) e5)
        have tp := Fv.put_text (g := Fv.withTop g (Fv.scrollTop g b n)) tx hx
        refine d_meth (ev_var rfl) I5.obj rfl (ea_cons (ev_meth (ev_var rfl) I5.obj rfl ea_nil (sv_last_free I5.at_ tx G.count)) ea_nil) fun H6 e6 => ⟨p, pf, _, _, x, rfl, (I5.mono e6).at_, tx, G.pt.line, hx, fun v H7 pf7 k7 d7 h7 P7 hv => ?_⟩
        obtain ⟨dx7, pl7, ps7, I7⟩ := P7.get
        have k6 := k5.trans (K1.of (p := p) e6)
        have d6 := (I5.mono e6).dm k6
        obtain ⟨pf8, r1, r2, r3, _⟩ := Rch.more (c := c) k6.kp d6 (.inl rfl) k7 d7 h7 P7
        exact r_told T (ev_var rfl) I7 tp.1 tp.2.1.line (does_of hd (Fv.step_scroll_down h1 hc hc2 hx) (Fv.good_put_top G.text hx ht f2)) r1 r2 (h7.imp id (d6 _))
      · have hc2 := of_decide_eq_false h2
        have I5 := I4.mono e5
        have k5 := k4.trans (K1.of (p := p) e5)
        have hge : Fv.firstFree (Fv.withTop g (Fv.scrollTop g b n)) ≤ Ue07.pointRow g := Nat.le_of_not_lt hc
        exact r_told T (ev_var rfl) I5 tx G.pt.line (does_of hd (Fv.step_scroll_stay h1 hc hc2) (Fv.good_top G.text G.pt ht (Nat.le_trans f1.2 hge))) k5.kp (I5.dm k5) (.inl rfl)
  refine q_if (et_test (ev_eqN (ev_var rfl) (ev_num (n := 1) rfl))) (fun h H2 e2 => ?_) (fun h H2 e2 => ?_)
  · have hbk : b = true := by
      cases b with
      | true => rfl
      | false => exact absurd h (by decide)
    have I2 := I1.mono e2
    refine s_pset (Fv.withTop g (Fv.scrollTop g b n)) T (ev_var rfl) I2 (v := nV (Fv.scrollTop g b n)) (ev_is (ev_max2 (i := 0) ev_c (ev_subI (ev_fld (ev_var rfl) I2.obj T.clsP T.p_top rfl) (ev_var rfl))) ?_) T.p_top rfl rfl rfl rfl fun H3 I3 k3 => rest H3 ((K1.of (e1.trans e2)).trans k3) I3
    refine congrArg V.int ?_
    unfold Fv.scrollTop
    rw [if_pos hbk]
    split <;> omega
  · have hbk : ¬ b = true := by
      cases b with
      | false => decide
      | true => exact absurd h (by decide)
    have I2 := I1.mono e2
    refine s_pset (Fv.withTop g (Fv.scrollTop g b n)) T (ev_var rfl) I2 (v := nV (Fv.scrollTop g b n)) (ev_is (ev_minN (ev_addN (ev_fld (ev_var rfl) I2.obj T.clsP T.p_top rfl) (ev_var rfl)) (ev_meth (ev_var rfl) I2.obj rfl ea_nil (sv_last_top I2.at_ G.text))) ?_) T.p_top rfl rfl rfl rfl fun H3 I3 k3 => rest H3 ((K1.of (e1.trans e2)).trans k3) I3
    unfold Fv.scrollTop
    rw [if_neg hbk]
end
end Fw
/-! The readings hold: what is asked. -/
namespace Fw
open PySem PySem.Spec PyProof.Rows L2 Evl
theorem nums_ints (w : List Nat) : (Ue07.ints w).map V.int = nums w := by
  unfold Ue07.ints nums
  rw [List.map_map]
  rfl
theorem nums_app (u w : List Nat) : nums (u ++ w) = nums u ++ nums w := List.map_append ..
theorem flat_snoc {α : Type} {l : List α} (f : α → List Nat) {i : Nat} {x : α} (h : l[i]? = some x) : (l.take (i + 1)).flatMap f = (l.take i).flatMap f ++ f x := by
  rw [Fv.take_snoc h, List.flatMap_append, List.flatMap_cons, List.flatMap_nil, List.append_nil]
theorem flat_len {α : Type} {f : α → List Nat} {k : Nat} (hk : ∀ x, (f x).length = k) : ∀ l : List α, (l.flatMap f).length = l.length * k
  | [] => by simp
  | x :: l => by
    rw [List.flatMap_cons, List.length_append, flat_len hk l, hk, List.length_cons, Nat.succ_mul]
    omega
section
variable {K : PySem.W.Frag} {mg : Str → Option Value} {c : Cc} {σ : L2.St} {H H' H1 : Hp} {p pf : Addr} {g : Ue07.St}

theorem pure_shows (T : Txt K mg c) : ∀ vs H Q E, sp_shows c vs H Q E → t_shows K c E { nx := fun _ H' => Q .non H', rt := Q } (start N_shows vs) H := by
  rintro vs H Q E ⟨p, pf, g, rfl, P, G, hd⟩
  obtain ⟨dx, pl, ps, I⟩ := P.get
  have k := does_same hd P rfl
  have eL : ((Ue07.allRows g).take (g.top + g.high)).drop g.top = ((Ue07.allRows g).drop g.top).take g.high := by rw [List.drop_take, Nat.add_sub_cancel_left]
  have hlen : (((Ue07.allRows g).drop g.top).take g.high).length ≤ 3630 := by
    have := G.text.rowCount
    rw [List.length_take, List.length_drop]
    omega
  refine q_asgN (en_sliceN (R := NRowR) NRowR.steady (en_meth (ev_var rfl) I.obj rfl ea_nil (sn_rows P G.text)) (eo_some (ev_fld (v := nV g.top) (ev_var rfl) I.obj T.clsP T.p_top rfl)) (eo_some (ev_addN (ev_fld (ev_var rfl) I.obj T.clsP T.p_top rfl) (ev_fld (ev_var rfl) I.obj T.clsP T.p_high rfl)))) fun A H1 n1 e1 hA => ?_
  rw [eL] at hA
  generalize hL : ((Ue07.allRows g).drop g.top).take g.high = L at hA hlen k
  obtain ⟨xs, hx, it⟩ := hA
  refine q_asgN (en_lst (ea_cons (ev_lenL (ev_var rfl) hx it.len) ea_nil) (by simp)) fun D H2 n2 e2 hD => ?_
  refine q_forL (ev_var rfl) (sq_of (e2 _ _ hx)) (fun i σ' H' => ∃ y z, σ' = [some (.ref p), some (.ref A), some (.ref D), y, z] ∧ Ex H1 H' ∧ H' D = some (.lst (nums (L.length :: (L.take i).flatMap Ue07.rowAnswer)))) (fun H3 e3 => ⟨none, none, rfl, e2.trans e3, e3 _ _ hD⟩) (fun i σ' H' _ ⟨_, _, _, e, _⟩ => sq_of (e _ _ hx)) ?_ ?_
  · rintro i x σ' H' hi ⟨y, z, rfl, e, hD'⟩
    obtain ⟨r, hr, q, yy, rfl, hq, q2, rfl, hq2⟩ := it.get' hi
    have hlt : i < L.length := (List.getElem?_eq_some_iff.mp hr).1
    have hfl : ((L.take i).flatMap Ue07.rowAnswer).length ≤ 14520 := by
      rw [flat_len (k := 4) (fun x => rfl), List.length_take]
      omega
    refine g_two (e _ _ hq) ?_
    refine q_appR hD' (ev_var rfl) (EvR.of (ev_var rfl)) (by rw [nums_len, List.length_cons]; omega) fun v H3 e3 s => ?_
    subst s
    have e4 : Ex H1 (upd H3 D (.lst (nums (L.length :: (L.take i).flatMap Ue07.rowAnswer) ++ [nV r.1]))) := Ex.mut (e.trans e3) n2
    refine s_extT upd_same (ev_var rfl) (ev_var rfl) (e4 _ _ hq2) (by rw [List.length_append, nums_len, List.length_cons]; show _ + 1 + 3 ≤ 100000; omega) fun H5 e5 => ?_
    refine ⟨_, _, rfl, Ex.mut (e4.trans e5) n2, ?_⟩
    rw [upd_same, flat_snoc _ hr]
    refine congrArg (fun l => some (HO.lst l)) ?_
    show _ = nums ((L.length :: (L.take i).flatMap Ue07.rowAnswer) ++ [r.1, r.2.a, r.2.b, r.2.col])
    rw [nums_app, List.append_assoc]
    rfl
  · rintro σ' H' ⟨y, z, rfl, e, hD'⟩
    refine s_ret (ev_var rfl) fun H5 e5 => k D H5 (fresh_back e1 n2) ((e1.trans e).trans e5) ?_
    have e6 : L.take xs.length = L := List.take_of_length_le (by rw [it.len]; exact Nat.le_refl _)
    rw [e6] at hD'
    refine (e5 _ _ hD').trans ?_
    show _ = some (HO.lst (List.map V.int ((L.length : Int) :: Ue07.ints (L.flatMap Ue07.rowAnswer))))
    rw [List.map_cons, nums_ints]
    rfl

theorem pure_rows_told (T : Txt K mg c) : ∀ vs H Q E, sp_rows_told c vs H Q E → t_rows_told K c E { nx := fun _ H' => Q .non H', rt := Q } (start N_rows_told vs) H := by
  rintro vs H Q E ⟨p, pf, g, n, rfl, P, G, hd⟩
  obtain ⟨dx, pl, ps, I⟩ := P.get
  obtain ⟨zs, hzs, itz⟩ := I.lines.mono LineR.steady hide_le
  refine q_want (ev_ltN (ev_var rfl) (ev_lenL (ev_fld (ev_var rfl) I.obj T.clsP T.p_lines rfl) hzs itz.len)) (fun hb H1 e1 => ?_) (fun hb => hd.1 _ (by decide) ?_)
  · have hn := of_decide_eq_true hb
    have I1 := I.mono e1
    have hz := Fv.lineAt_len G.text n
    have es : Ue07.step g (.rows n) = (g, ((Ue07.rows g.look (Ue07.lineAt g n)).length : Int) :: Ue07.ints ((Ue07.rows g.look (Ue07.lineAt g n)).flatMap fun r => [r.a, r.b, r.col])) := by
      show (g, if g.lines.length ≤ n then [-1] else _) = _
      rw [if_neg (by omega)]
    have k := does_same hd P es
    have hlen := Fv.rows_len g.look (Ue07.lineAt g n)
    obtain ⟨xs, q, hpl, hx, hq⟩ := I1.line hn
    refine q_asgN (en_call (ea_cons (ev_fld (ev_var rfl) I1.obj T.clsP T.p_shape rfl) (ea_cons (ev_ixL (ev_fld (ev_var rfl) I1.obj T.clsP T.p_lines rfl) (ev_var rfl) hpl hx) ea_nil)) (sn_rows_of I1.look G.text.tab hq (by omega))) fun A H2 n2 e2 hA => ?_
    generalize hL : Ue07.rows g.look (Ue07.lineAt g n) = L at hA hlen k
    obtain ⟨xs, hx, it⟩ := hA
    refine q_asgN (en_lst (ea_cons (ev_lenL (ev_var rfl) hx it.len) ea_nil) (by simp)) fun D H3 n3 e3 hD => ?_
    refine q_forL (ev_var rfl) (sq_of (e3 _ _ hx)) (fun i σ' H' => ∃ y, σ' = [some (.ref p), some (nV n), some (.ref A), some (.ref D), y] ∧ Ex H2 H' ∧ H' D = some (.lst (nums (L.length :: (L.take i).flatMap fun r => [r.a, r.b, r.col])))) (fun H4 e4 => ⟨none, rfl, e3.trans e4, e4 _ _ hD⟩) (fun i σ' H' _ ⟨_, _, e, _⟩ => sq_of (e _ _ hx)) ?_ ?_
    · rintro i x σ' H' hi ⟨y, rfl, e, hD'⟩
      obtain ⟨r, hr, q2, rfl, hq2⟩ := it.get' hi
      have hlt : i < L.length := (List.getElem?_eq_some_iff.mp hr).1
      have hfl : ((L.take i).flatMap fun r => [r.a, r.b, r.col]).length ≤ 400 := by
        rw [flat_len (k := 3) (fun x => rfl), List.length_take]
        omega
      refine s_extT hD' (ev_var rfl) (ev_var rfl) (e _ _ hq2) (by rw [nums_len, List.length_cons]; show _ + 1 + 3 ≤ 100000; omega) fun H5 e5 => ?_
      refine ⟨_, rfl, Ex.mut (e.trans e5) n3, ?_⟩
      rw [upd_same, flat_snoc _ hr]
      refine congrArg (fun l => some (HO.lst l)) ?_
      show _ = nums ((L.length :: (L.take i).flatMap fun r => [r.a, r.b, r.col]) ++ [r.a, r.b, r.col])
      rw [nums_app]
      rfl
    · rintro σ' H' ⟨y, rfl, e, hD'⟩
      have e12 := e1.trans e2
      refine s_ret (ev_var rfl) fun H5 e5 => k D H5 (fresh_back e12 n3) ((e12.trans e).trans e5) ?_
      have e6 : L.take xs.length = L := List.take_of_length_le (by rw [it.len]; exact Nat.le_refl _)
      rw [e6] at hD'
      refine (e5 _ _ hD').trans ?_
      show _ = some (HO.lst (List.map V.int ((L.length : Int) :: Ue07.ints (L.flatMap fun r => [r.a, r.b, r.col]))))
      rw [List.map_cons, nums_ints]
      rfl
  · have hn := of_decide_eq_false hb
    show (g, if g.lines.length ≤ n then [-1] else _) = _
    rw [if_pos (by omega)]

theorem pure_at (T : Txt K mg c) : ∀ vs H Q E, sp_at c vs H Q E → t_at K c E { nx := fun _ H' => Q .non H', rt := Q } (start N_at vs) H := by
  rintro vs H Q E ⟨p, pf, g, n, m, rfl, P, G, hd⟩
  obtain ⟨dx, pl, ps, I⟩ := P.get
  refine q_want (ev_andV (ev_ltN (ev_var rfl) (ev_fld (v := nV g.high) (ev_var rfl) I.obj T.clsP T.p_high rfl)) fun _ => ev_ltN (ev_var rfl) (ev_wide T (ev_fld (ev_var rfl) I.obj T.clsP T.p_shape rfl) I.look)) (fun hb H1 e1 => ?_) (fun hb => hd.1 _ (by decide) ?_)
  · rw [Bool.and_eq_true] at hb
    have h1 := of_decide_eq_true hb.1
    have h2 := of_decide_eq_true hb.2
    have I1 := I.mono e1
    have es : Ue07.step g (.at_ n m) = (g, match (Ue07.allRows g)[g.top + n]? with
      | none => [-6]
      | some x => Ue07.ints [x.1, Ue07.placeIn g.look (Ue07.lineAt g x.1) x.2 m]) := by
      show (g, if g.high ≤ n ∨ g.look.wide ≤ m then [-1] else _) = _
      rw [if_neg (by omega)]
      rfl
    refine q_asgN (en_meth (ev_var rfl) I1.obj rfl ea_nil (sn_rows I1.at_ G.text)) fun A H2 n2 e2 hA => ?_
    have I2 := I1.mono e2
    obtain ⟨xs, hx, it⟩ := hA
    refine q_want (ev_ltN (ev_addN (ev_fld (ev_var rfl) I2.obj T.clsP T.p_top rfl) (ev_var rfl)) (ev_lenL (ev_var rfl) hx it.len)) (fun hb2 H3 e3 => ?_) (fun hb2 => (hd.1 _ (by decide) ?_).go (e1.trans e2))
    · have hlt := of_decide_eq_true hb2
      obtain ⟨x, hxx⟩ := Fv.row_get (g := g) hlt
      rw [hxx] at es
      have k := does_same hd P es
      obtain ⟨r1, r2, j, hj, _⟩ := Fv.rowsTo_at (show (Fv.rowsTo g.look g.lines g.folds g.lines.length)[g.top + n]? = some x from hxx)
      have rb := (Fv.rows_parts g.look (Ue07.lineAt g x.1)).each x.2 (List.mem_of_getElem? hj)
      have hw := Fv.lineAt_len G.text x.1
      obtain ⟨v, hv, q, y, rfl, hq, ry⟩ := it.get hxx
      have I3 := I2.mono e3
      refine (ev_ixL (ev_var rfl) (ev_addN (ev_fld (ev_var rfl) I3.obj T.clsP T.p_top rfl) (ev_var rfl)) (e3 _ _ hx) hv) H3 (Ex.refl H3) _ fun H4 e4 => g_two (e4 _ _ (e3 _ _ hq)) ?_
      have I4 := I3.mono e4
      obtain ⟨xs2, q2, hpl, hx2, hq2⟩ := I4.line (n := x.1) r1
      have ry4 := RowR.steady _ _ _ _ (e3.trans e4) ry
      have ee := ((e1.trans e2).trans e3).trans e4
      refine s_retN (en_lst (ea_cons (ev_var rfl) (ea_cons (ev_call (ea_cons (ev_fld (ev_var rfl) I4.obj T.clsP T.p_shape rfl) (ea_cons (ev_ixL (ev_fld (ev_var rfl) I4.obj T.clsP T.p_lines rfl) (ev_var rfl) hpl hx2) (ea_cons (ev_var rfl) (ea_cons (ev_var rfl) ea_nil)))) (sv_place_for (n := m) I4.look G.text.tab hq2 (by omega) ry4 ⟨rb.2.1, rb.2.2.1, rb.2.2.2⟩)) ea_nil)) (by simp)) (RetN.go (fun q5 H5 n5 e5 s => k q5 H5 n5 e5 ?_) ee)
      refine s.trans ?_
      show _ = some (HO.lst (List.map V.int (Ue07.ints [x.1, Ue07.placeIn g.look (Ue07.lineAt g x.1) x.2 m])))
      rw [nums_ints]
      rfl
    · have hlt := of_decide_eq_false hb2
      rw [es, List.getElem?_eq_none (by omega)]
  · show (g, if g.high ≤ n ∨ g.look.wide ≤ m then [-1] else _) = _
    rw [Bool.and_eq_false_iff] at hb
    rw [if_pos]
    rcases hb with h | h
    · exact .inl (by have := of_decide_eq_false h; omega)
    · exact .inr (by have := of_decide_eq_false h; omega)

theorem pure_where (T : Txt K mg c) : ∀ vs H Q E, sp_where c vs H Q E → t_where K c E { nx := fun _ H' => Q .non H', rt := Q } (start N_where vs) H := by
  rintro vs H Q E ⟨p, pf, g, n, m, rfl, P, G, hd⟩
  obtain ⟨dx, pl, ps, I⟩ := P.get
  refine qd_meth (ev_var rfl) I.obj rfl (ea_cons (ev_var rfl) (ea_cons (ev_var rfl) ea_nil)) fun H1 e1 => ⟨p, pf, g, n, m, rfl, P.mono e1, fun hok H2 e2 => ?_, fun hno => (hd.1 _ (by decide) ?_).go e1⟩
  · have I2 := (I.mono e1).mono e2
    have e12 := e1.trans e2
    have es : Ue07.step g (.where_ n m) = (g, if Ue07.hidden g.folds n = true then [-6] else if Ue07.rowsAhead g n + (Ue07.rowAt g.look (Ue07.lineAt g n) m).1 < g.top ∨ g.top + g.high ≤ Ue07.rowsAhead g n + (Ue07.rowAt g.look (Ue07.lineAt g n) m).1 then [-7] else Ue07.ints [Ue07.rowsAhead g n + (Ue07.rowAt g.look (Ue07.lineAt g n) m).1 - g.top, Ue07.colAt g.look (Ue07.lineAt g n) m]) := by
      show (g, if g.lines.length ≤ n ∨ (Ue07.lineAt g n).length < m then [-1] else _) = _
      rw [if_neg (by omega)]
    refine q_want (ev_call (ea_cons (ev_fld (ev_var rfl) I2.obj T.clsP T.p_folds rfl) (ea_cons (ev_var rfl) ea_nil)) (sv_is_seen I2.folds (by have := G.text.folds.1; omega))) (fun hb H3 e3 => ?_) (fun hb => (hd.1 _ (by decide) ?_).go e12)
    · have hh : ¬ Ue07.hidden g.folds n = true := by
        intro z
        rw [z] at hb
        cases hb
      rw [if_neg hh] at es
      have I3 := I2.mono e3
      refine q_asg (ev_meth (ev_var rfl) I3.obj rfl (ea_cons (ev_var rfl) (ea_cons (ev_var rfl) ea_nil)) (sv_row_at I3.at_ G.text hok.1)) fun H4 e4 => ?_
      have I4 := I3.mono e4
      generalize Ue07.rowsAhead g n + (Ue07.rowAt g.look (Ue07.lineAt g n) m).1 = r at es
      refine q_want (ev_andV (ev_leN (ev_fld (v := nV g.top) (ev_var rfl) I4.obj T.clsP T.p_top rfl) (ev_var rfl)) fun _ => ev_ltN (ev_var rfl) (ev_addN (ev_fld (ev_var rfl) I4.obj T.clsP T.p_top rfl) (ev_fld (ev_var rfl) I4.obj T.clsP T.p_high rfl))) (fun hb2 H5 e5 => ?_) (fun hb2 => (hd.1 _ (by decide) ?_).go ((e12.trans e3).trans e4))
      · rw [Bool.and_eq_true] at hb2
        have h1 := of_decide_eq_true hb2.1
        have h2 := of_decide_eq_true hb2.2
        rw [if_neg (by omega)] at es
        have k := does_same hd P es
        have I5 := I4.mono e5
        refine s_retN (en_lst (ea_cons (ev_subN (ev_var rfl) (ev_fld (ev_var rfl) I5.obj T.clsP T.p_top rfl) h1) (ea_cons (ev_meth (ev_var rfl) I5.obj rfl (ea_cons (ev_var rfl) (ea_cons (ev_var rfl) ea_nil)) (sv_column_at I5.at_ G.text hok.1)) ea_nil)) (by simp)) (RetN.go (fun q5 H5 n5 e5 s => k q5 H5 n5 e5 ?_) (((e12.trans e3).trans e4).trans e5))
        refine s.trans ?_
        show _ = some (HO.lst (List.map V.int (Ue07.ints [r - g.top, Ue07.colAt g.look (Ue07.lineAt g n) m])))
        rw [nums_ints]
        rfl
      · rw [es, if_pos]
        rw [Bool.and_eq_false_iff] at hb2
        rcases hb2 with h | h
        · exact .inl (by have := of_decide_eq_false h; omega)
        · exact .inr (by have := of_decide_eq_false h; omega)
    · have hh : Ue07.hidden g.folds n = true := by
        cases q : Ue07.hidden g.folds n with
        | true => rfl
        | false =>
          rw [q] at hb
          cases hb
      rw [es, if_pos hh]
  · show (g, if g.lines.length ≤ n ∨ (Ue07.lineAt g n).length < m then [-1] else _) = _
    rw [if_pos (by omega)]
end
end Fw
/-! The readings hold: view. -/
namespace Fw
open PySem PySem.Spec PyProof.Rows L2 Evl
section
variable {P : Program} {w : World} {K : PySem.W.Frag} {mg : Str → Option Value} {base : Heap} {c : Cc} {σ : L2.St} {H H' H1 : Hp} {p pf : Addr} {g : Ue07.St} {ta te : TE} {D : Ends} {tz : TS} {SN : Addr → Hp → Prop}

/-- xs.append(a new object) -/
theorem q_appN {l : Addr} {xs : List V} (hl : H l = some (.lst xs)) (ha : Ev ta σ H (.ref l)) (h : EvN te σ H SN) (hz : xs.length < 100000) (k : ∀ q H1, H q = none → Ex H H1 → SN q H1 → tz D σ (upd H1 l (.lst (xs ++ [.ref q])))) :
    tSeq (tDrop (tBM K "list" rAppend ta (tCons te tNil))) tz D σ H := ha H (Ex.refl H) _ fun H1 e1 =>
  ⟨Or.inl ⟨rfl, xs, sq_of (e1 l _ hl)⟩, h H1 e1 _ fun q H2 n e2 s => ⟨l, xs, .ref q, rfl, rfl, e2 l _ (e1 l _ hl), sz_lt hz, k q H2 (fresh_back e1 n) (e1.trans e2) s⟩⟩

theorem pure_lines_in (T : Txt K mg c) : ∀ vs H Q E, sp_lines_in c vs H Q E → t_lines_in K c E { nx := fun _ H' => Q .non H', rt := Q } (start N_lines_in vs) H := by
  rintro vs H Q E ⟨q, w, ls, rfl, fk, hq, hz, hls, k⟩
  refine q_asgN (en_lst ea_nil (by decide)) fun L H1 n1 e1 hL => ?_
  refine q_asg (ev_num (n := 0) rfl) fun H2 e2 => ?_
  have e12 := e1.trans e2
  refine q_while (fun m σ' H' => ∃ at_ y acc rest f ys, m = w.length - at_ ∧ σ' = [some (.ref q), some (.ref L), some (nV at_), y] ∧ Ex H H' ∧ H' L = some (.lst ys) ∧ Items LineR (hide c H' L) ys acc ∧ acc.length ≤ at_ ∧ at_ ≤ w.length ∧ Ue07Neutral.linesIn f (w.drop at_) = some rest ∧ ls = acc ++ rest) w.length
    ⟨0, none, [], ls, w.length + 1, [], rfl, rfl, e12, e2 _ _ hL, Items.nil, Nat.le_refl _, Nat.zero_le _, by rw [List.drop_zero]; exact hls, rfl⟩ ?_
  rintro m σ' H' ⟨a, y, acc, rest, f, ys, rfl, rfl, e, hL', it, hacc, ha, hr, hcat⟩
  refine ⟨_, et_test (ev_ltN (ev_var rfl) (ev_lenL (ev_var rfl) (e _ _ hq) (nums_len w))), fun h H3 e3 => ?_, fun h H3 e3 => ?_⟩
  · have hlt := of_decide_eq_true h
    obtain ⟨b, hb⟩ : ∃ b, w[a]? = some b := ⟨_, List.getElem?_eq_getElem hlt⟩
    rw [Fv.drop_cons hb] at hr
    obtain ⟨f', r, hbl, hr', hc⟩ := Fv.lines_turn hr
    rw [List.length_drop] at hbl
    have e03 := e.trans e3
    have hcut : ((nums w).take (a + 1 + b)).drop (a + 1) = nums ((w.drop (a + 1)).take b) := by
      rw [nums_take, nums_drop, List.drop_take, Nat.add_sub_cancel_left]
    refine ⟨fun σ2 H6 => ∃ y ys, σ2 = [some (.ref q), some (.ref L), some (nV (a + 1 + b)), y] ∧ Ex H H6 ∧ H6 L = some (.lst ys) ∧ Items LineR (hide c H6 L) ys (acc ++ [(w.drop (a + 1)).take b]), ?_, ?_⟩
    · rintro σ2 H6 ⟨y, ys, rfl, h2, h3, h4⟩
      refine ⟨w.length - (a + 1 + b), by omega, a + 1 + b, y, _, r, f', ys, rfl, rfl, h2, h3, h4, by rw [List.length_append]; show acc.length + 1 ≤ _; omega, by omega, ?_, ?_⟩
      · rw [List.drop_drop] at hr'
        exact hr'
      · rw [hcat, hc, List.append_assoc]
        rfl
    · refine q_asg (ev_addN (ev_addN (ev_var rfl) (ev_num (n := 1) rfl)) (ev_ixN (ev_var rfl) (ev_var rfl) (e03 _ _ hq) hb)) fun H4 e4 => ?_
      have e34 := e3.trans e4
      refine q_appN (e34 _ _ hL') (ev_var rfl) (en_slice (ev_var rfl) (eo_some (ev_addN (ev_var rfl) (ev_num (n := 1) rfl))) (eo_some (ev_var rfl)) (e4 _ _ (e03 _ _ hq))) (by rw [it.len]; omega) fun q5 H5 n5 e5 s => ?_
      rw [cutV_both, hcut] at s
      have e35 := e34.trans e5
      have nL : q5 ≠ L := (ne_of_none (e34 _ _ hL') n5).symm
      have nF : c.FD ≠ some q5 := ((fk.mono e).mono e34).ne n5
      have it5 : Items LineR (hide c (upd H5 L (.lst (ys ++ [.ref q5]))) L) (ys ++ [.ref q5]) (acc ++ [(w.drop (a + 1)).take b]) :=
        (it.mono LineR.steady (fun b o hb => hide_upd _ _ (hide_ex e35 b o hb))).snoc ⟨q5, rfl, hide_upd _ _ (hide_at s nL nF)⟩
      have e6 : Ex H (upd H5 L (.lst (ys ++ [.ref q5]))) := Ex.mut (e.trans e35) n1
      refine s_asg (ev_var rfl) fun H7 e7 => ⟨_, _, rfl, e6.trans e7, e7 _ _ upd_same, it5.mono LineR.steady (hide_ex e7)⟩
  · have hge := of_decide_eq_false h
    refine s_ret (ev_var rfl) fun H4 e4 => k L H4 n1 ((e.trans e3).trans e4) ?_
    rw [List.drop_eq_nil_of_le (by omega)] at hr
    have hrest := Fv.lines_end hr
    rw [hcat, hrest, List.append_nil]
    have e34 := e3.trans e4
    exact ⟨ys, hid_at (e34 _ _ hL') (fk.ne n1), it.mono LineR.steady (fun b o hb => hide_hid _ _ (hide_ex e34 b o hb))⟩
theorem sn_lines_in {q : Addr} {w : List Nat} {ls : List (List Nat)} (fk : Fk c H) (hq : H q = some (.lst (nums w))) (hz : w.length ≤ 5000) (hls : Ue07Neutral.linesIn (w.length + 1) w = some ls) : SpN (sp_lines_in c) [.ref q] H (fun q' H' => ListAt LineR (hid c H') q' ls) :=
  fun H1 e Q k _ => ⟨q, w, ls, rfl, fk.mono e, e _ _ hq, hz, hls, k⟩

theorem Does.go {call : Ue07.Call} {Q : VK} {E : XK} (h : Does c call p pf g H Q E) (e : Ex H H1) : Does c call p pf g H1 Q E :=
  ⟨fun n hn hs => (h.1 n hn hs).go e, h.2.go (fun b o hb _ _ => e b o hb) (Dm.of e) (.inl rfl) fun v H' s => NewL.back (Dm.of e) s⟩
theorem SpN.toR {sp : Sp} {vs : List V} {S : Addr → Hp → Prop} (h : SpN sp vs H S) : SpR sp vs H (fun v H1 => ∃ q, v = .ref q ∧ S q H1) := fun H1 e Q k E => h H1 e Q (fun q H2 n e2 s => k _ H2 e2 ⟨q, rfl, s⟩) E
theorem some_lines {w : List Nat} {ls : List (List Nat)} {f : Nat} (e : Ue07Neutral.linesIn f w = some ls) (hz : w.length ≤ 5000) : SomeLines ls := by
  obtain ⟨h1, h2⟩ := Fv.in_lines e
  exact ⟨by omega, fun x hx => by have := h2 x hx; omega⟩

theorem pure_changed (T : Txt K mg c) : ∀ vs H Q E, sp_changed c vs H Q E → t_changed K c E { nx := fun _ H' => Q .non H', rt := Q } (start N_changed vs) H := by
  rintro vs H Q E ⟨p, pf, q, g, k, w, call, rfl, hlo, hhi, fk, P, G, hq, hz, hc, hd⟩
  obtain ⟨dx, pl, ps, I⟩ := P.get
  refine q_when (et_test (ev_eqN (ev_var rfl) (ev_num (n := 0) rfl))) (fun h H1 e1 => ?_) (fun h H1 e1 => ?_)
  · have hk := of_decide_eq_true h
    subst hk
    obtain ⟨x0, x1, x2, b3, b4, rfl, rfl⟩ := Fv.in_0 hc
    have h1 := e1 _ _ hq
    exact r_meth (ev_var rfl) (I.mono e1).obj rfl (ea_cons (ev_n0 (ev_var rfl) h1) (ea_cons (ev_ixN (i := 1) (ev_var rfl) (ev_num rfl) h1 rfl) (ea_cons (ev_ixN (i := 2) (ev_var rfl) (ev_num rfl) h1 rfl) (ea_cons (ev_ixN (i := 3) (ev_var rfl) (ev_num rfl) h1 rfl) (ea_cons (ev_ixN (i := 4) (ev_var rfl) (ev_num rfl) h1 rfl) ea_nil))))) fun H2 e2 => ⟨p, pf, g, ⟨x0, x1, x2, b3, b4⟩, rfl, P.mono (e1.trans e2), G, hd.go (e1.trans e2)⟩
  have k0 := of_decide_eq_false h
  refine q_when (et_test (ev_eqN (ev_var rfl) (ev_num (n := 1) rfl))) (fun h H2 e2 => ?_) (fun h H2 e2 => ?_)
  · have hk := of_decide_eq_true h
    subst hk
    obtain ⟨x0, x1, rfl, rfl⟩ := Fv.in_1 hc
    have e := e1.trans e2
    exact r_meth (ev_var rfl) (I.mono e).obj rfl (ea_cons (ev_n0 (ev_var rfl) (e _ _ hq)) (ea_cons (ev_ixN (i := 1) (ev_var rfl) (ev_num rfl) (e _ _ hq) rfl) ea_nil)) fun H3 e3 => ⟨p, pf, g, x0, x1, rfl, P.mono (e.trans e3), G, hd.go (e.trans e3)⟩
  have k1 := of_decide_eq_false h
  refine q_when (et_test (ev_eqN (ev_var rfl) (ev_num (n := 2) rfl))) (fun h H3 e3 => ?_) (fun h H3 e3 => ?_)
  · have hk := of_decide_eq_true h
    subst hk
    obtain ⟨ls, hls, rfl⟩ := Fv.in_2 hc
    have e := (e1.trans e2).trans e3
    refine r_methS (ev_var rfl) (I.mono e).obj rfl (eas_cons (S := fun v H1 => ∃ t, v = .ref t ∧ ListAt LineR (hid c H1) t ls) (fun x Ha Hb ea => by
        rintro ⟨t, rfl, h⟩
        exact ⟨t, rfl, h.mono LineR.steady (hid_ex ea)⟩) (en_call (ea_cons (ev_var rfl) ea_nil) (sn_lines_in (fk.mono e) (e _ _ hq) (by omega) hls)).toR (eas_of ea_nil)) fun us H4 e4 s => ?_
    obtain ⟨x, vs2, rfl, ⟨t, rfl, ht⟩, rfl⟩ := s
    exact ⟨p, pf, t, g, ls, rfl, P.mono (e.trans e4), G, ht, some_lines hls (by omega), hd.go (e.trans e4)⟩
  have k2 := of_decide_eq_false h
  refine q_when (et_test (ev_eqN (ev_var rfl) (ev_num (n := 3) rfl))) (fun h H4 e4 => ?_) (fun h H4 e4 => ?_)
  · have hk := of_decide_eq_true h
    subst hk
    obtain ⟨a, b, r, ls, rfl, hls, rfl⟩ := Fv.in_3 hc
    have e := ((e1.trans e2).trans e3).trans e4
    have hzr : r.length ≤ 5000 := by
      simp only [List.length_cons] at hz
      omega
    refine r_methS (ev_var rfl) (I.mono e).obj rfl (eas_cons (S := fun v _ => v = nV a) (fun _ _ _ _ h => h) (EvR.of (ev_n0 (ev_var rfl) (e _ _ hq))) (eas_cons (S := fun v _ => v = nV b) (fun _ _ _ _ h => h) (EvR.of (ev_ixN (i := 1) (ev_var rfl) (ev_num rfl) (e _ _ hq) rfl)) (eas_cons (S := fun v H1 => ∃ t, v = .ref t ∧ ListAt LineR (hid c H1) t ls) (fun x Ha Hb ea => by
        rintro ⟨t, rfl, h⟩
        exact ⟨t, rfl, h.mono LineR.steady (hid_ex ea)⟩) (er_callS (eas_cons (S := fun v H1 => ∃ t, v = .ref t ∧ H1 t = some (.lst (nums r))) (fun x Ha Hb ea => by
        rintro ⟨t, rfl, h⟩
        exact ⟨t, rfl, ea _ _ h⟩) ((en_slice (ev_var rfl) (eo_some (i := ((2 : Nat) : Int)) ev_c) eo_none (e _ _ hq)).toR.imp fun v Hx _ s => ?_) (eas_of ea_nil)) ?_) (eas_of ea_nil)))) fun us H5 e5 s => ?_
    · obtain ⟨t, rfl, ht⟩ := s
      rw [cutV_from, nums_drop] at ht
      exact ⟨t, rfl, ht⟩
    · rintro vs2 Hx ex ⟨x, vs3, rfl, ⟨t, rfl, ht⟩, rfl⟩
      exact (sn_lines_in ((fk.mono e).mono ex) ht hzr hls).toR
    · obtain ⟨x, vs2, rfl, rfl, x2, vs3, rfl, rfl, x3, vs4, rfl, ⟨t, rfl, ht⟩, rfl⟩ := s
      exact ⟨p, pf, t, g, a, b, ls, rfl, fk.mono (e.trans e5), P.mono (e.trans e5), G, ht, some_lines hls hzr, hd.go (e.trans e5)⟩
  have k3 := of_decide_eq_false h
  refine q_when (et_test (ev_eqN (ev_var rfl) (ev_num (n := 4) rfl))) (fun h H5 e5 => ?_) (fun h H5 e5 => ?_)
  · have hk := of_decide_eq_true h
    subst hk
    obtain ⟨x0, x1, rfl, rfl⟩ := Fv.in_4 hc
    have e := (((e1.trans e2).trans e3).trans e4).trans e5
    exact r_meth (ev_var rfl) (I.mono e).obj rfl (ea_cons (ev_n0 (ev_var rfl) (e _ _ hq)) (ea_cons (ev_ixN (i := 1) (ev_var rfl) (ev_num rfl) (e _ _ hq) rfl) ea_nil)) fun H3 e3 => ⟨p, pf, g, x0, x1, rfl, P.mono (e.trans e3), G, hd.go (e.trans e3)⟩
  have k4 := of_decide_eq_false h
  have hk : k = 5 := by omega
  subst hk
  obtain ⟨x0, rfl, rfl⟩ := Fv.in_5 hc
  have e := (((e1.trans e2).trans e3).trans e4).trans e5
  exact r_meth (ev_var rfl) (I.mono e).obj rfl (ea_cons (ev_n0 (ev_var rfl) (e _ _ hq)) ea_nil) fun H3 e3 => ⟨p, pf, g, x0, rfl, P.mono (e.trans e3), G, hd.go (e.trans e3)⟩

theorem pure_moved (T : Txt K mg c) : ∀ vs H Q E, sp_moved c vs H Q E → t_moved K c E { nx := fun _ H' => Q .non H', rt := Q } (start N_moved vs) H := by
  rintro vs H Q E ⟨p, pf, q, g, k, w, call, rfl, hlo, hhi, fk, P, G, hq, hz, hc, hd⟩
  obtain ⟨dx, pl, ps, I⟩ := P.get
  refine q_when (et_test (ev_eqN (ev_var rfl) (ev_num (n := 6) rfl))) (fun h H1 e1 => ?_) (fun h H1 e1 => ?_)
  · have hk := of_decide_eq_true h
    subst hk
    obtain ⟨x0, x1, rfl, rfl⟩ := Fv.in_6 hc
    exact r_meth (ev_var rfl) (I.mono e1).obj rfl (ea_cons (ev_n0 (ev_var rfl) (e1 _ _ hq)) (ea_cons (ev_ixN (i := 1) (ev_var rfl) (ev_num rfl) (e1 _ _ hq) rfl) ea_nil)) fun H3 e3 => ⟨p, pf, g, x0, x1, rfl, P.mono (e1.trans e3), G, hd.go (e1.trans e3)⟩
  have k0 := of_decide_eq_false h
  refine q_when (et_test (ev_eqN (ev_var rfl) (ev_num (n := 7) rfl))) (fun h H2 e2 => ?_) (fun h H2 e2 => ?_)
  · have hk := of_decide_eq_true h
    subst hk
    obtain ⟨x0, rfl, rfl⟩ := Fv.in_7 hc
    have e := e1.trans e2
    exact r_meth (ev_var rfl) (I.mono e).obj rfl (ea_cons (ev_n0 (ev_var rfl) (e _ _ hq)) ea_nil) fun H3 e3 => ⟨p, pf, g, x0, rfl, P.mono (e.trans e3), G, hd.go (e.trans e3)⟩
  have k1 := of_decide_eq_false h
  refine q_when (et_test (ev_eqN (ev_var rfl) (ev_num (n := 8) rfl))) (fun h H3 e3 => ?_) (fun h H3 e3 => ?_)
  · have hk := of_decide_eq_true h
    subst hk
    obtain ⟨x0, rfl, rfl⟩ := Fv.in_8 hc
    have e := (e1.trans e2).trans e3
    exact r_meth (ev_var rfl) (I.mono e).obj rfl (ea_cons (ev_n0 (ev_var rfl) (e _ _ hq)) ea_nil) fun H3 e3 => ⟨p, pf, g, x0, rfl, P.mono (e.trans e3), G, hd.go (e.trans e3)⟩
  have k2 := of_decide_eq_false h
  refine q_when (et_test (ev_eqN (ev_var rfl) (ev_num (n := 9) rfl))) (fun h H4 e4 => ?_) (fun h H4 e4 => ?_)
  · have hk := of_decide_eq_true h
    subst hk
    obtain ⟨x0, rfl, rfl⟩ := Fv.in_9 hc
    have e := ((e1.trans e2).trans e3).trans e4
    exact r_meth (ev_var rfl) (I.mono e).obj rfl (ea_cons (ev_n0 (ev_var rfl) (e _ _ hq)) ea_nil) fun H3 e3 => ⟨p, pf, g, x0, rfl, P.mono (e.trans e3), G, hd.go (e.trans e3)⟩
  have k3 := of_decide_eq_false h
  refine q_when (et_test (ev_eqN (ev_var rfl) (ev_num (n := 10) rfl))) (fun h H5 e5 => ?_) (fun h H5 e5 => ?_)
  · have hk := of_decide_eq_true h
    subst hk
    obtain ⟨x0, rfl, rfl⟩ := Fv.in_10 hc
    have e := (((e1.trans e2).trans e3).trans e4).trans e5
    exact r_meth (ev_var rfl) (I.mono e).obj rfl (ea_cons (ev_n0 (ev_var rfl) (e _ _ hq)) ea_nil) fun H3 e3 => ⟨p, pf, g, x0, rfl, P.mono (e.trans e3), G, hd.go (e.trans e3)⟩
  have k4 := of_decide_eq_false h
  have hk : k = 11 := by omega
  subst hk
  obtain ⟨b0, x1, rfl, rfl⟩ := Fv.in_11 hc
  have e := (((e1.trans e2).trans e3).trans e4).trans e5
  exact r_meth (ev_var rfl) (I.mono e).obj rfl (ea_cons (ev_n0 (ev_var rfl) (e _ _ hq)) (ea_cons (ev_ixN (i := 1) (ev_var rfl) (ev_num rfl) (e _ _ hq) rfl) ea_nil)) fun H3 e3 => ⟨p, pf, g, b0, x1, rfl, P.mono (e.trans e3), G, hd.go (e.trans e3)⟩

theorem pure_looked (T : Txt K mg c) : ∀ vs H Q E, sp_looked c vs H Q E → t_looked K c E { nx := fun _ H' => Q .non H', rt := Q } (start N_looked vs) H := by
  rintro vs H Q E ⟨p, pf, q, g, k, w, call, rfl, hlo, hhi, fk, P, G, hq, hz, hc, hd⟩
  obtain ⟨dx, pl, ps, I⟩ := P.get
  refine q_when (et_test (ev_eqN (ev_var rfl) (ev_num (n := 12) rfl))) (fun h H1 e1 => ?_) (fun h H1 e1 => ?_)
  · have hk := of_decide_eq_true h
    subst hk
    obtain ⟨rfl, rfl⟩ := Fv.in_12 hc
    exact r_told T (ev_var rfl) (I.mono e1) G.text G.pt.line (does_of hd rfl G) (K1.of (p := p) e1).kp (Dm.of e1) (.inl rfl)
  have k0 := of_decide_eq_false h
  refine q_when (et_test (ev_eqN (ev_var rfl) (ev_num (n := 13) rfl))) (fun h H2 e2 => ?_) (fun h H2 e2 => ?_)
  · have hk := of_decide_eq_true h
    subst hk
    obtain ⟨rfl, rfl⟩ := Fv.in_13 hc
    have e := e1.trans e2
    exact r_meth (ev_var rfl) (I.mono e).obj rfl ea_nil fun H3 e3 => ⟨p, pf, g, rfl, P.mono (e.trans e3), G, ⟨fun n hn hs => by
      have h2 := (List.cons.inj (congrArg Prod.snd hs)).1
      omega, (hd.go (e.trans e3)).2⟩⟩
  have k1 := of_decide_eq_false h
  refine q_when (et_test (ev_eqN (ev_var rfl) (ev_num (n := 14) rfl))) (fun h H3 e3 => ?_) (fun h H3 e3 => ?_)
  · have hk := of_decide_eq_true h
    subst hk
    obtain ⟨x0, rfl, rfl⟩ := Fv.in_14 hc
    have e := (e1.trans e2).trans e3
    exact r_meth (ev_var rfl) (I.mono e).obj rfl (ea_cons (ev_n0 (ev_var rfl) (e _ _ hq)) ea_nil) fun H3 e3 => ⟨p, pf, g, x0, rfl, P.mono (e.trans e3), G, hd.go (e.trans e3)⟩
  have k2 := of_decide_eq_false h
  refine q_when (et_test (ev_eqN (ev_var rfl) (ev_num (n := 15) rfl))) (fun h H4 e4 => ?_) (fun h H4 e4 => ?_)
  · have hk := of_decide_eq_true h
    subst hk
    obtain ⟨x0, x1, rfl, rfl⟩ := Fv.in_15 hc
    have e := ((e1.trans e2).trans e3).trans e4
    exact r_meth (ev_var rfl) (I.mono e).obj rfl (ea_cons (ev_n0 (ev_var rfl) (e _ _ hq)) (ea_cons (ev_ixN (i := 1) (ev_var rfl) (ev_num rfl) (e _ _ hq) rfl) ea_nil)) fun H3 e3 => ⟨p, pf, g, x0, x1, rfl, P.mono (e.trans e3), G, hd.go (e.trans e3)⟩
  have k3 := of_decide_eq_false h
  have hk : k = 16 := by omega
  subst hk
  obtain ⟨x0, x1, rfl, rfl⟩ := Fv.in_16 hc
  have e := ((e1.trans e2).trans e3).trans e4
  exact r_meth (ev_var rfl) (I.mono e).obj rfl (ea_cons (ev_n0 (ev_var rfl) (e _ _ hq)) (ea_cons (ev_ixN (i := 1) (ev_var rfl) (ev_num rfl) (e _ _ hq) rfl) ea_nil)) fun H3 e3 => ⟨p, pf, g, x0, x1, rfl, P.mono (e.trans e3), G, hd.go (e.trans e3)⟩

theorem pure_asked (T : Txt K mg c) : ∀ vs H Q E, sp_asked c vs H Q E → t_asked K c E { nx := fun _ H' => Q .non H', rt := Q } (start N_asked vs) H := by
  rintro vs H Q E ⟨p, pf, q, g, k, w, call, rfl, hlo, hhi, fk, P, G, hq, hz, hc, hd⟩
  refine q_when (et_test (ev_leN (ev_var rfl) (ev_num (n := 5) rfl))) (fun h H1 e1 => ?_) (fun h H1 e1 => ?_)
  · have hk := of_decide_eq_true h
    exact r_call (ea_cons (ev_var rfl) (ea_cons (ev_var rfl) (ea_cons (ev_var rfl) ea_nil))) fun H2 e2 => ⟨p, pf, q, g, k, w, call, rfl, hlo, hk, fk.mono (e1.trans e2), P.mono (e1.trans e2), G, (e1.trans e2) _ _ hq, hz, hc, hd.go (e1.trans e2)⟩
  have k0 := of_decide_eq_false h
  refine q_when (et_test (ev_leN (ev_var rfl) (ev_num (n := 11) rfl))) (fun h H2 e2 => ?_) (fun h H2 e2 => ?_)
  · have hk := of_decide_eq_true h
    have e := e1.trans e2
    exact r_call (ea_cons (ev_var rfl) (ea_cons (ev_var rfl) (ea_cons (ev_var rfl) ea_nil))) fun H2 e2 => ⟨p, pf, q, g, k, w, call, rfl, by omega, hk, fk.mono (e.trans e2), P.mono (e.trans e2), G, (e.trans e2) _ _ hq, hz, hc, hd.go (e.trans e2)⟩
  have k1 := of_decide_eq_false h
  have e := e1.trans e2
  exact r_call (ea_cons (ev_var rfl) (ea_cons (ev_var rfl) (ea_cons (ev_var rfl) ea_nil))) fun H2 e2 => ⟨p, pf, q, g, k, w, call, rfl, by omega, hhi, fk.mono (e.trans e2), P.mono (e.trans e2), G, (e.trans e2) _ _ hq, hz, hc, hd.go (e.trans e2)⟩

/-! ### answered: what is refused is told -/
def t_code (c : Cc) : Addr → Value → Option Addr → TS := fun a cls d => tRet (tLst (tCons (tXf a cls d c.CR "code" (tVar 2)) tNil))
def t_try (K : PySem.W.Frag) (c : Cc) : TS := fun D σ H =>
  tAsg (tCallS (sp_asked c) (WE (wAs K (.ref c.CR) 2 (t_code c) (fun _ _ _ _ => False) D)) (tCons (tVar 0) (tCons (tOp (rIxL K) (tVar 1) (tC (.int 0))) (tCons (tSl (rSlL K) (tVar 1) (tPart (tC (.int 1))) tNoPart) tNil)))) (gName 3) D σ H
def t_answered (K : PySem.W.Frag) (c : Cc) : TS := tSeq (t_try K c) (tRet (tVar 3))
theorem pure_answered (T : Txt K mg c) : ∀ vs H Q E, sp_answered c vs H Q E → t_answered K c { nx := fun _ H' => Q .non H', rt := Q } (start N_answered vs) H := by
  rintro vs H Q E ⟨p, pf, q, g, w, call, rfl, fk, P, G, hq, hz, hc, kk⟩
  cases w with
  | nil => exact absurd hc Fv.in_nil
  | cons k w =>
    have args : EvAS (tCons (tVar 0) (tCons (tOp (rIxL K) (tVar 1) (tC (.int 0))) (tCons (tSl (rSlL K) (tVar 1) (tPart (tC (.int 1))) tNoPart) tNil))) [some (.ref p), some (.ref q), none, none] H (fun us H1 => ∃ t, us = [.ref p, nV k, .ref t] ∧ H1 t = some (.lst (nums w))) := fun Ha ea Q2 k2 => by
      refine (eas_cons (S := fun v _ => v = .ref p) (fun _ _ _ _ h => h) (EvR.of (ev_var rfl)) (eas_cons (S := fun v _ => v = nV k) (fun _ _ _ _ h => h) (EvR.of (ev_n0 (ev_var rfl) hq)) (eas_cons (S := fun v H1 => ∃ t, v = .ref t ∧ H1 t = some (.lst (nums w))) (fun x Ha Hb ea => by
        rintro ⟨t, rfl, h⟩
        exact ⟨t, rfl, ea _ _ h⟩) ((en_slice (ev_var rfl) (eo_some (i := ((1 : Nat) : Int)) ev_c) eo_none hq).toR.imp fun v Hx _ s => ?_) (eas_of ea_nil)))) Ha ea Q2 fun vs Hb eb s => k2 vs Hb eb ?_
      · obtain ⟨t, rfl, ht⟩ := s
        rw [cutV_from, nums_drop] at ht
        exact ⟨t, rfl, ht⟩
      · obtain ⟨x, vs2, rfl, rfl, x2, vs3, rfl, rfl, x3, vs4, rfl, ⟨t, rfl, ht⟩, rfl⟩ := s
        exact ⟨t, rfl, ht⟩
    unfold t_answered tSeq t_try tAsg tCallS
    refine args H (Ex.refl H) _ fun us H1 e1 s => ?_
    obtain ⟨t, rfl, ht⟩ := s
    refine ⟨p, pf, t, g, k, w, call, rfl, Nat.zero_le _, Fv.in_le hc, fk.mono e1, P.mono e1, G, ht, by simp only [List.length_cons] at hz; omega, hc, fun n hn hs => ?_, ?_⟩
    · intro d H2 e2 hd hx
      refine ⟨true, T.eR, fun _ a ha => ?_, fun z => nomatch z⟩
      refine ⟨_, rfl, rfl, rfl, d, _, _, rfl, hx, lkY, sz_of (by show 1 ≤ 100000; decide), fun p2 hp2 => ?_⟩
      rw [hs] at kk
      have e12 := e1.trans e2
      have e3 : Ex H2 (upd H2 p2 (.lst [.int n])) := Ex.new hp2
      exact kk _ _ pf (fun b o hb _ _ => (e12.trans e3) b o hb) (fun b hb => fresh_back (e12.trans e3) hb) (.inl rfl) (P.mono (e12.trans e3)) ⟨p2, rfl, fresh_back e12 hp2, upd_same⟩
    · intro v H2 pf2 k2 d2 h2 P2 s2
      refine ⟨_, rfl, ?_⟩
      exact kk v H2 pf2 (fun b o hb n1 n2 => k2 b o (e1 _ _ hb) n1 n2) (fun b hb => fresh_back e1 (d2 b hb)) (h2.imp id (fresh_back e1)) P2 (NewL.back (Dm.of e1) s2)
theorem ok_answeredF {f : Addr} {fd : FuncData} (F : Fun K "answered" "answered" s_answered f fd) (T : Txt K mg c) (C_asked : Cal P w K mg base (L2.CX P w) 14 "asked" ["page", "call", "n"] (sp_asked c)) : FnOk P w K mg base CX0 15 f fd P_answered (sp_answered c) := by
  refine F.ok sc_answered (fun vs H Q E h => ?_) (fun cdv A outer s H vs Q E hr h => ⟨t_answered K c, ?_, pure_answered T vs H Q E h⟩)
  · obtain ⟨_, _, _, _, _, _, rfl, _⟩ := h
    rfl
  · exact pss_cons (ps_try_as (i := 2) (tb := fun W => tAsg (tCallS (sp_asked c) (WE W) (tCons (tVar 0) (tCons (tOp (rIxL K) (tVar 1) (tC (.int 0))) (tCons (tSl (rSlL K) (tVar 1) (tPart (tC (.int 1))) tNoPart) tNil)))) (gName 3)) (ts := t_code c) (Wout := fun _ _ _ _ => False) rfl rfl sc_answered.nd rfl rfl ⟨rfl, by decide, Or.inl T.gR⟩ takes0
        (fun W pn xe tk _ => pss_one (ps_set (i := 3) sc_answered.nd rfl (Or.inl rfl) (by exact (pe_calS C_asked hr (by decide) (fun σ => passAt tk σ) (pa_cons (pv 0) (pa_cons (pe_ix ix_list (pv 1) pe_int (fun _ _ => rfl)) (pa_cons (pe_slice sl_list (pv 1) (po_some pe_int) po_none) pa_nil)))))))
        (fun a oe cls d pn hz hf => pss_one (ps_ret (pe_lst (pa_cons (by exact (pe_xf T.xR T.r_code hz hf (pv 2))) pa_nil)))))
      (pss_one (ps_ret (pv 3)))
end
end Fw
/-! The readings hold: answers. -/
namespace Fw
open PySem PySem.Spec PyProof.Rows L2 Evl
/-- the same classes, another list kept apart -/
def cD (c : Cc) (D : Option Addr) : Cc := { c with FD := D }
def sp_answeredD (c : Cc) : Sp := fun vs H Q E => ∃ D, sp_answered (cD c D) vs H Q E
def sp_answers (K : PySem.W.Frag) : Sp := fun vs H Q _ => ∃ (a : Addr) (cs : List (List Nat)), vs = [.ref a] ∧ SqL K H a (nums (Fv.wire cs)) ∧ (∀ x ∈ cs, (Ue07Neutral.callIn x).isSome = true ∧ x.length ≤ 4000) ∧ (Fv.run Ue07.init cs).length ≤ 1000050 ∧
  ∀ H' q, H' q = some (.lst ((Fv.run Ue07.init cs).map V.int)) → Q (.ref q) H'
theorem sz_big {n : Nat} (h : n ≤ 1000050) : n ≤ sizeLine := Nat.le_trans h (by decide)
theorem sz_bigl {n : Nat} (h : n < 1000050) : n < sizeLine := Nat.lt_of_lt_of_le h (by decide)
section
variable {P : Program} {w : World} {K : PySem.W.Frag} {mg : Str → Option Value} {base : Heap} {c : Cc} {σ : L2.St} {H H' H1 : Hp} {p pf : Addr} {g : Ue07.St} {ta te : TE} {D : Ends} {tz : TS} {SN : Addr → Hp → Prop} {v : V}

theorem q_appB {l : Addr} {xs : List V} (hl : H l = some (.lst xs)) (ha : Ev ta σ H (.ref l)) (h : Ev te σ H v) (hz : xs.length < 1000050) (k : ∀ H1, Ex H H1 → tz D σ (upd H1 l (.lst (xs ++ [v])))) :
    tSeq (tDrop (tBM K "list" rAppend ta (tCons te tNil))) tz D σ H := ha H (Ex.refl H) _ fun H1 e1 =>
  ⟨Or.inl ⟨rfl, xs, sq_of (e1 l _ hl)⟩, h H1 e1 _ fun H2 e2 => ⟨l, xs, v, rfl, rfl, e2 l _ (e1 l _ hl), sz_bigl hz, k H2 (e1.trans e2)⟩⟩
theorem q_extB {l r : Addr} {xs ys : List V} (hl : H l = some (.lst xs)) (ha : Ev ta σ H (.ref l)) (h : Ev te σ H (.ref r)) (hr : H r = some (.lst ys)) (hz : xs.length + ys.length ≤ 1000050) (k : ∀ H1, Ex H H1 → tz D σ (upd H1 l (.lst (xs ++ ys)))) :
    tSeq (tDrop (tBM K "list" rExtend ta (tCons te tNil))) tz D σ H := ha H (Ex.refl H) _ fun H1 e1 =>
  ⟨Or.inl ⟨rfl, xs, sq_of (e1 l _ hl)⟩, h H1 e1 _ fun H2 e2 => ⟨l, r, xs, ys, rfl, rfl, e2 l _ (e1 l _ hl), e2 _ _ (e1 _ _ hr), sz_big hz, k H2 (e1.trans e2)⟩⟩
theorem en_sliceS {tl th : TO} {a : Addr} {xs : List V} {lo hi : Option Int} (h : Ev te σ H (.ref a)) (h1 : EvO tl σ H lo) (h2 : EvO th σ H hi) (hs : SqL K H a xs) : EvN (tSl (rSlL K) te tl th) σ H (fun q H2 => H2 q = some (.lst (cutV xs lo hi))) := fun H1 e Q k =>
  el_sl h h1 h2 hs H1 e Q fun p H2 n e2 q => k p H2 n e2 q
theorem q_callAS {SA : List V → Hp → Prop} {sp : Sp} {E : XK} {t : TA} {i : Nat} (h : EvAS t σ H SA) (k : ∀ us H1, Ex H H1 → SA us H1 → sp (us ++ []) H1 (fun v H2 => tz D (σ.set i (some v)) H2) E) : tSeq (tAsg (tCall sp [] E t) (gName i)) tz D σ H := h H (Ex.refl H) _ k
theorem page_apart {L : Addr} (h : PageAt (c0 c) H p pf g) (n : H L = none) (e : Ex H H') : PageAt (cD c (some L)) H' p pf g := by
  obtain ⟨dx, pl, ps, h1, ⟨dl, h2⟩, h3, h4⟩ := h
  refine ⟨dx, pl, ps, e _ _ h1, ⟨dl, e _ _ h2⟩, h3.mono LineR.steady fun b o hb => ?_, h4.mono FoldR.steady e⟩
  obtain ⟨a1, a2, _⟩ := hide_some hb
  refine hide_at (e _ _ a1) a2 fun z => ?_
  have z2 : L = b := Option.some.inj z
  rw [← z2, n] at a1
  cases a1
theorem page_found {L : Addr} {xs ys : List V} (h : PageAt (cD c (some L)) H p pf g) (hL : H L = some (.lst xs)) (ne : pf ≠ L) : PageAt (cD c (some L)) (upd H L (.lst ys)) p pf g := by
  obtain ⟨dx, pl, ps, h1, ⟨dl, h2⟩, h3, zs, h4, it⟩ := h
  refine ⟨dx, pl, ps, by rw [upd_ne (ne_of h1 hL (by intro z; cases z))]; exact h1, ⟨dl, by rw [upd_ne (ne_of h2 hL (by intro z; cases z))]; exact h2⟩, h3.mono LineR.steady fun b o hb => ?_, zs, by rw [upd_ne ne]; exact h4, it.firm FoldR.firm hL⟩
  obtain ⟨a1, a2, a3⟩ := hide_some hb
  have nb : b ≠ L := fun z => a3 (congrArg some z.symm)
  exact hide_at (by rw [upd_ne nb]; exact a1) a2 a3

def t_answersD (K : PySem.W.Frag) (c : Cc) : TS :=
    (tSeq (tAsg (tMake c.CP (sp_Page_init c) [] E0 tNil) (gName 1))
    (tSeq (tAsg (tLst tNil) (gName 2))
    (tSeq (tAsg (tC (.int 0)) (gName 3))
    (tSeq (tWhile (tTest (tOp rLtI (tVar 3) (tCB (rLenS K) (tCons (tVar 0) tNil)))) (tSeq (tAsg (tOp rAddI (tOp rAddI (tVar 3) (tC (.int 2))) (tOp (rIxL K) (tVar 0) (tOp rAddI (tVar 3) (tC (.int 1))))) (gName 4))
    (tSeq (tAsg (tCall (sp_answeredD c) [] E0 (tCons (tVar 1) (tCons (tSl (rSlL K) (tVar 0) (tPart (tOp rAddI (tVar 3) (tC (.int 2)))) (tPart (tVar 4))) tNil))) (gName 5))
    (tSeq (tDrop (tBM K "list" rAppend (tVar 2) (tCons (tCB (rLenS K) (tCons (tVar 5) tNil)) tNil)))
    (tSeq (tDrop (tBM K "list" rExtend (tVar 2) (tCons (tVar 5) tNil)))
    (tAsg (tVar 4) (gName 3)))))))
    (tRet (tVar 2))))))
theorem pure_answers (T : Txt K mg c) : ∀ vs H Q E, sp_answers K vs H Q E → t_answersD K c { nx := fun _ H' => Q .non H', rt := Q } (start N_answers vs) H := by
  rintro vs H Q E ⟨a, cs, rfl, hS, hcs, hlen, k⟩
  intro p dx hp hdx hne
  have ex0 : Ex H (upd (upd H dx (.own p)) p (.ins c.CP dx [])) := fun b o hb => by
    rw [upd_ne (ne_of_none hb hp), upd_ne (ne_of_none hb hdx)]
    exact hb
  refine ⟨p, dx, rfl, upd_same, fun H1 pf hpf keep P => ⟨rfl, ?_⟩⟩
  have ex1 : Ex H H1 := fun b o hb => keep b o (ex0 b o hb) (ne_of_none hb hp)
  have npf : H pf = none := fresh_back ex0 hpf
  refine q_asgN (en_lst ea_nil (by decide)) fun L H2 n2 e2 hL => ?_
  have P2 : PageAt (cD c (some L)) H2 p pf Ue07.init := page_apart P n2 e2
  have nL : H L = none := fresh_back ex1 n2
  have nfL : pf ≠ L := by
    obtain ⟨_, _, _, _, _, _, zs, hz, _⟩ := P
    exact ne_of_none hz n2
  refine q_asg (ev_num (n := 0) rfl) fun H3 e3 => ?_
  refine q_while (fun m σ' H' => ∃ y z done rest pf g F, m = rest.length ∧ σ' = [some (.ref a), some (.ref p), some (.ref L), some (nV (Fv.wire done).length), y, z] ∧ cs = done ++ rest ∧ F ++ Fv.run g rest = Fv.run Ue07.init cs ∧ Ex H H' ∧ H' L = some (.lst (F.map V.int)) ∧ PageAt (cD c (some L)) H' p pf g ∧ Fv.Good g ∧ H pf = none ∧ pf ≠ L) cs.length
    ⟨none, none, [], cs, pf, Ue07.init, [], rfl, rfl, rfl, rfl, (ex1.trans e2).trans e3, e3 _ _ hL, P2.mono e3, Fv.Good.init, npf, nfL⟩ ?_
  rintro m σ' H4 ⟨y, z, done, rest, pf, g, F, rfl, rfl, hcat, htot, ex4, hL4, P4, G, npf, nfL⟩
  refine ⟨decide ((Fv.wire done).length < (Fv.wire cs).length), et_test (ev_is (ev_op (ev_var rfl) (ev_len (ev_var rfl) (ex_l ex4 hS)) rv_I0) (by rw [nums_len]; simp)), fun h H5 e5 => ?_, fun h H5 e5 => ?_⟩
  · have hlt := of_decide_eq_true h
    cases rest with
    | nil =>
      rw [hcat, List.append_nil] at hlt
      exact absurd hlt (Nat.lt_irrefl _)
    | cons d rest =>
      have hd := hcs d (by rw [hcat]; exact List.mem_append_right _ List.mem_cons_self)
      obtain ⟨call, hc⟩ := Option.isSome_iff_exists.mp hd.1
      have hat : (Fv.wire cs)[(Fv.wire done).length + 1]? = some d.length := by
        rw [hcat]
        exact Fv.wire_at done d rest
      have hcut : ((nums (Fv.wire cs)).take ((Fv.wire done).length + 2 + d.length)).drop ((Fv.wire done).length + 2) = nums d := by
        rw [nums_take, nums_drop, hcat, Fv.wire_cut]
      have ex5 := ex4.trans e5
      rw [Fv.run_some hc] at htot
      have hrl := congrArg List.length htot
      rw [List.length_append, List.length_cons, List.length_append] at hrl
      refine ⟨fun σ2 H9 => ∃ y z pf2 F2, σ2 = [some (.ref a), some (.ref p), some (.ref L), some (nV (Fv.wire (done ++ [d])).length), y, z] ∧ F2 ++ Fv.run (Ue07.step g call).1 rest = Fv.run Ue07.init cs ∧ Ex H H9 ∧ H9 L = some (.lst (F2.map V.int)) ∧ PageAt (cD c (some L)) H9 p pf2 (Ue07.step g call).1 ∧ H pf2 = none ∧ pf2 ≠ L, ?_, ?_⟩
      · rintro σ2 H9 ⟨y, z, pf2, F2, rfl, h2, h3, h4, h5, h6, h7⟩
        exact ⟨rest.length, Nat.lt_succ_self _, y, z, done ++ [d], rest, pf2, _, F2, rfl, rfl, by rw [hcat, List.append_assoc]; rfl, h2, h3, h4, h5, Fv.good_step G call, h6, h7⟩
      refine q_asg (v := nV (Fv.wire (done ++ [d])).length) (ev_is (ev_addN (ev_addN (ev_var rfl) (ev_num (n := 2) rfl)) (ev_op (z := nV d.length) (ev_var rfl) (ev_addN (ev_var rfl) (ev_num (n := 1) rfl)) (rv_ixL (ex_l ex5 hS) (atI_nat (nums_get hat))))) (by rw [Fv.wire_more])) fun H6 e6 => ?_
      have ex6 := ex5.trans e6
      have e46 := e5.trans e6
      have args : EvAS (tCons (tVar 1) (tCons (tSl (rSlL K) (tVar 0) (tPart (tOp rAddI (tVar 3) (tC (.int 2)))) (tPart (tVar 4))) tNil)) [some (.ref a), some (.ref p), some (.ref L), some (nV (Fv.wire done).length), some (nV (Fv.wire (done ++ [d])).length), z] H6 (fun us Hx => ∃ t, us = [.ref p, .ref t] ∧ Hx t = some (.lst (nums d))) := fun Ha ea Q2 k2 => by
        refine (eas_cons (S := fun v _ => v = .ref p) (fun _ _ _ _ h => h) (EvR.of (ev_var rfl)) (eas_cons (S := fun v H1 => ∃ t, v = .ref t ∧ H1 t = some (.lst (nums d))) (fun x Ha Hb ea => by
          rintro ⟨t, rfl, h⟩
          exact ⟨t, rfl, ea _ _ h⟩) ((en_sliceS (ev_var rfl) (eo_some (ev_addN (ev_var rfl) (ev_num (n := 2) rfl))) (eo_some (ev_var rfl)) (ex_l ex6 hS)).toR.imp fun v Hx _ s => ?_) (eas_of ea_nil))) Ha ea Q2 fun vs Hb eb s => k2 vs Hb eb ?_
        · obtain ⟨t, rfl, ht⟩ := s
          rw [cutV_both, Fv.wire_more, hcut] at ht
          exact ⟨t, rfl, ht⟩
        · obtain ⟨x, vs2, rfl, rfl, x2, vs3, rfl, ⟨t, rfl, ht⟩, rfl⟩ := s
          exact ⟨t, rfl, ht⟩
      refine q_callAS args fun us H7 e7 s => ?_
      obtain ⟨t, rfl, ht⟩ := s
      have e47 := e46.trans e7
      have ex7 := ex4.trans e47
      have hL7 := e47 _ _ hL4
      have P7 := P4.mono e47
      refine ⟨some L, p, pf, t, g, d, call, rfl, fun D' hD' => ?_, P7, G, ht, by have := hd.2; omega, hc, fun v H8 pf2 k8 d8 h8 P8 s8 => ?_⟩
      · cases hD'
        exact ⟨_, hL7⟩
      obtain ⟨r, rfl, nr, hr⟩ := s8
      have npL : p ≠ L := by
        obtain ⟨_, _, _, hz, _⟩ := P7
        exact ne_of hz hL7 (by intro z; cases z)
      have nrL : r ≠ L := (ne_of_none hL7 nr).symm
      have hL8 : H8 L = some (.lst (F.map V.int)) := k8 _ _ hL7 npL.symm nfL.symm
      have ex8 : Ex H H8 := fun b o hb => k8 b o (ex7 b o hb) (ne_of_none hb hp) (ne_of_none hb npf)
      have npf2 : H pf2 = none := h8.elim (fun z => by rw [z]; exact npf) fun z => fresh_back ex7 z
      have nf2L : pf2 ≠ L := h8.elim (fun z => by rw [z]; exact nfL) fun z => (ne_of_none hL7 z).symm
      have hF : (F.map V.int).length = F.length := List.length_map _
      have hA : ((Ue07.step g call).2.map V.int).length = (Ue07.step g call).2.length := List.length_map _
      refine q_appB hL8 (ev_var rfl) (ev_lenL (n := (Ue07.step g call).2.length) (ev_var rfl) hr hA) (by omega) fun H9 e9 => ?_
      have P9 := page_found (ys := F.map V.int ++ [nV (Ue07.step g call).2.length]) (P8.mono e9) (e9 _ _ hL8) nf2L
      have ex9 : Ex H (upd H9 L (.lst (F.map V.int ++ [nV (Ue07.step g call).2.length]))) := Ex.mut (ex8.trans e9) nL
      refine q_extB upd_same (ev_var rfl) (ev_var rfl) (by rw [upd_ne nrL]; exact e9 _ _ hr) (by rw [List.length_append, hF, hA]; show F.length + 1 + _ ≤ _; omega) fun H10 e10 => ?_
      have P10 := page_found (ys := (F.map V.int ++ [nV (Ue07.step g call).2.length]) ++ (Ue07.step g call).2.map V.int) (P9.mono e10) (e10 _ _ upd_same) nf2L
      have ex10 := Ex.mut (o := .lst ((F.map V.int ++ [nV (Ue07.step g call).2.length]) ++ (Ue07.step g call).2.map V.int)) (ex9.trans e10) nL
      refine s_asg (ev_var rfl) fun H11 e11 => ⟨_, _, pf2, F ++ (((Ue07.step g call).2.length : Int) :: (Ue07.step g call).2), rfl, ?_, ex10.trans e11, ?_, P10.mono e11, npf2, nf2L⟩
      · rw [List.append_assoc]
        exact htot
      · rw [e11 _ _ upd_same, List.map_append, List.append_assoc]
        rfl
  · have hge := of_decide_eq_false h
    cases rest with
    | cons d rest =>
      refine absurd ?_ hge
      rw [hcat]
      exact Fv.wire_lt done d rest
    | nil =>
      refine s_ret (ev_var rfl) fun H6 e6 => k H6 L ?_
      rw [(e5.trans e6) _ _ hL4, ← htot]
      show _ = some (HO.lst ((F ++ []).map V.int))
      rw [List.append_nil]
theorem ok_answeredD (D : DefAt K mg "answered" s_answered P_answered) (T : ∀ F, Txt K mg (cD c F)) (C_asked : ∀ F, Cal P w K mg base (L2.CX P w) 14 "asked" ["page", "call", "n"] (sp_asked (cD c F))) : Cal P w K mg base CX0 15 "answered" P_answered (sp_answeredD c) := by
  obtain ⟨f, fd, F, m, b⟩ := D.ex
  refine ⟨⟨f, fd, ⟨fun vs H Q E h => ?_, fun A outer s H args us vs Q E hr he hb hv h => ?_⟩, m, F.kp, b⟩⟩
  · obtain ⟨_, _, _, _, _, _, _, rfl, _⟩ := h
    rfl
  · obtain ⟨D1, h⟩ := h
    exact (ok_answeredF F (T D1) (C_asked D1)).run A outer s H args us vs Q E hr he hb hv h
/- theorem ok_answers: see ok_answersF -/
theorem ok_answersF {f : Addr} {fd : FuncData} (F : Fun K "answers" "answers" s_answers f fd) (T : Txt K mg c) (C_Page_init : KCal P w K mg base CX0 3 c.CP "Page" ["self"] (sp_Page_init c)) (C_answered : Cal P w K mg base CX0 15 "answered" ["page", "numbers"] (sp_answeredD c)) : FnOk P w K mg base CX0 16 f fd P_answers (sp_answers K) := by
  refine F.ok sc_answers (fun vs H Q E h => ?_) (fun cdv A outer s H vs Q E hr h => ⟨t_answersD K c, ?_, pure_answers T vs H Q E h⟩)
  · obtain ⟨_, _, rfl, _⟩ := h
    rfl
  · exact (pss_cons (ps_set (i := 1) sc_answers.nd rfl (Or.inl rfl) (pe_kcal0 C_Page_init hr (by decide) pass0))
      (pss_cons (ps_set (i := 2) sc_answers.nd rfl (Or.inl rfl) (pe_lst pa_nil))
      (pss_cons (ps_set (i := 3) sc_answers.nd rfl (Or.inl rfl) pe_int)
      (pss_cons (ps_while PassesOwn.never (pt_cmpR op_lt (pv 3) (pe_len T.n_len (pv 0)) (nomark _)) (pss_cons (ps_set (i := 4) sc_answers.nd rfl (Or.inl rfl) (pe_op op_add (pe_op op_add (pv 3) pe_int) (pe_ix ix_list (pv 0) (pe_op op_add (pv 3) pe_int) (fun _ _ => rfl))))
      (pss_cons (ps_set (i := 5) sc_answers.nd rfl (Or.inl rfl) (pe_cal C_answered hr (by decide) pass0 (pa_cons (pv 1) (pa_cons (pe_slice sl_list (pv 0) (po_some (pe_op op_add (pv 3) pe_int)) (po_some (pv 4))) pa_nil))))
      (pss_cons (ps_expr (pe_append (pv 2) (pe_len T.n_len (pv 5))))
      (pss_cons (ps_expr (pe_extend1 (pv 2) (pv 5)))
      (pss_one (ps_set (i := 3) sc_answers.nd rfl (Or.inl rfl) (pv 4))))))))
      (pss_one (ps_ret (pv 2)))))))
end
end Fw
/-! What the top has written, and the defs one behind another; printed by gen_end.py. -/
namespace Fw
open PySem PySem.Spec PyProof.Rows L2 Evl
section
variable {K : PySem.W.Frag} {mg : Str → Option Value} {h : Heap}
abbrev BindOk (x qual : Str) (st : Stmt) (ps : List Str) : Prop := ∀ (kV doc pm : Value) (an : Option Addr) (cdv ct : Value) (us : List Value), us.length = ps.length → bindArgs (PySem.W.fnOf x qual (defArgs st) (defBody st) (defScope st) .none kV doc pm an cdv ct) ⟨us, []⟩ = pure (ps.zip us)
theorem def_mk {x : Str} {st : Stmt} {ps : List Str} {f : Addr} {oc : Value} {od an : Option Addr} {osl : Array (Option Value)} {kV doc pm cdv ct : Value} (b : BindOk x x st ps) (X : K.In h) (G : h.Ns mainGlobals mg)
    (a : PySem.W.nsIn K mainGlobals x = some (some (.ref f))) (l : K.lookup f = some ⟨oc, od, .func (PySem.W.fnOf x x (defArgs st) (defBody st) (defScope st) .none kV doc pm an cdv ct), osl⟩) (c : PySem.W.codeIn K cdv x = true) (k : PySem.W.keepIn K (.ref f) = true) : DefAt K mg x st ps :=
  ⟨⟨f, _, fun_mk l c k, PySem.W.mg_of X G a, (fun_mk l c k).binds b⟩⟩
theorem meth_mk {C : Addr} {x qual : Str} {st : Stmt} {ps : List Str} {f : Addr} {oc : Value} {od an : Option Addr} {osl : Array (Option Value)} {kV doc pm cdv ct : Value} (b : BindOk x qual st ps)
    (a : PySem.W.findIn K (.ref C) x = some (some (.ref f))) (i : PySem.W.isFn K (.ref f) = true) (l : K.lookup f = some ⟨oc, od, .func (PySem.W.fnOf x qual (defArgs st) (defBody st) (defScope st) .none kV doc pm an cdv ct), osl⟩) (c : PySem.W.codeIn K cdv qual = true) (k : PySem.W.keepIn K (.ref f) = true) : MethAt K C x qual st ps :=
  ⟨⟨f, _, fun_mk l c k, ⟨a, i, k⟩, (fun_mk l c k).binds b⟩⟩
theorem init_mk {C : Addr} {x qual : Str} {st : Stmt} {ps : List Str} {f : Addr} {oc : Value} {od an : Option Addr} {osl : Array (Option Value)} {kV doc pm cdv ct : Value} (b : BindOk "__init__" qual st ps) (X : K.In h) (G : h.Ns mainGlobals mg)
    (g : PySem.W.nsIn K mainGlobals x = some (some (.ref C))) (mk : PySem.W.makesIn K C = true) (kc : PySem.W.keepIn K (.ref C) = true)
    (a : PySem.W.findIn K (.ref C) "__init__" = some (some (.ref f))) (i : PySem.W.isFn K (.ref f) = true) (l : K.lookup f = some ⟨oc, od, .func (PySem.W.fnOf "__init__" qual (defArgs st) (defBody st) (defScope st) .none kV doc pm an cdv ct), osl⟩) (c : PySem.W.codeIn K cdv qual = true) (k : PySem.W.keepIn K (.ref f) = true) : InitAt K mg C x qual st ps :=
  ⟨⟨f, _, fun_mk l c k, ⟨mk, a, i, kc⟩, PySem.W.mg_of X G g, (fun_mk l c k).binds b⟩⟩
structure ClsOk (K : PySem.W.Frag) (C : Addr) : Prop where
  cls : Cls K C
theorem cls_mk {C : Addr} (pg : PySem.W.plainGet K C Str.empty = true) (hd : PySem.W.hasDictIn K C = true) (po : PySem.W.plainOver K C = true) (sa : PySem.W.findIn K (.ref C) "__setattr__" = some (some (.builtin "object.__setattr__"))) : Cls K C := ⟨pg, hd, po, sa⟩
theorem const_mk {x : Str} {i : Int} {t : Nat} (X : K.In h) (G : h.Ns mainGlobals mg) (e : PySem.W.nsIn K mainGlobals x = some (some (.int i t))) : ∃ t, mg x = some (.int i t) := ⟨t, PySem.W.mg_of X G e⟩
/-- an error of the class at S is what «except S» names -/
theorem exm_self {S : Addr} (h1 : PySem.W.subIn K (.ref S) (.type "BaseException") = some true) (h2 : PySem.W.isClsIn K S = true) (h3 : PySem.W.typeIn K (.ref S) = some (.type "type")) (h4 : PySem.W.subIn K (.ref S) (.ref S) = some true) :
    PySem.W.exmOne K (.ref S) (.ref S) = some true := by
  have e1 : (PySem.W.subIn K (.ref S) (.type "BaseException") == some true) = true := by rw [h1] <;> rfl
  have e2 : ((PySem.W.clsIn K S).isSome && PySem.W.typeIn K (.ref S) == some (.type "type")) = true := by
    have h2' : (PySem.W.clsIn K S).isSome = true := h2
    rw [h2', h3] <;> rfl
  show (if (PySem.W.subIn K (.ref S) (.type "BaseException") == some true) = true then (if ((PySem.W.clsIn K S).isSome && PySem.W.typeIn K (.ref S) == some (.type "type")) = true then PySem.W.subIn K (.ref S) (.ref S) else none) else none) = some true
  rw [if_pos e1, if_pos e2]
  exact h4
theorem oex_mk {C : Addr} {nm q : Str} {N : Addr} {bs : List Value} {sn : List Str} {sub : List Value} {ab : Bool} {col : Option Bool} {dd : Option Addr} {m0 m1 m2 m3 m5 : Option Value}
    (xL : K.lookup C = some (excClassObj nm q C N bs [.type "ValueError", .type "Exception", .type "BaseException", .type "object"] true sn sub ab col dd m0 m1 m2 m3 m5 "ValueError.__new__"))
    (sa : PySem.W.findIn K (.ref C) "__setattr__" = some (some (.builtin "object.__setattr__"))) (eC : PySem.W.subIn K (.ref C) (.type "BaseException") = some true) (tC : PySem.W.typeIn K (.ref C) = some (.type "type")) (kC : PySem.W.keepIn K (.ref C) = true) : OexC K C :=
  ⟨⟨nm, q, N, bs, _, sn, sub, ab, col, dd, m0, m1, m2, m3, m5, xL, by decide +kernel⟩, sa, eC, tC, kC⟩
theorem bd_Refused_init : BindOk "__init__" "Refused.__init__" (inClass (topS 40) 0) ["self", "code"] := fun _ _ _ _ _ _ us hl => match us, hl with | [_, _], _ => rfl
theorem refused_mk {C f : Addr} {oc : Value} {od an : Option Addr} {osl : Array (Option Value)} {kV doc pm cdv ct : Value}
    (a : PySem.W.findIn K (.ref C) "__init__" = some (some (.ref f))) (t : PySem.W.typeIn K (.ref f) = some (.type "function")) (l : K.lookup f = some ⟨oc, od, .func (PySem.W.fnOf "__init__" "Refused.__init__" (defArgs (inClass (topS 40) 0)) (defBody (inClass (topS 40) 0)) (defScope (inClass (topS 40) 0)) .none kV doc pm an cdv ct), osl⟩) (c : PySem.W.codeIn K cdv "Refused.__init__" = true) (k : PySem.W.keepIn K (.ref f) = true) :
    ∃ (f : Addr) (fd : FuncData), Fun K "__init__" "Refused.__init__" (inClass (topS 40) 0) f fd ∧ PySem.W.findIn K (.ref C) "__init__" = some (some (.ref f)) ∧ PySem.W.typeIn K (.ref f) = some (.type "function") ∧ Binds K fd ["self", "code"] [] :=
  ⟨f, _, fun_mk l c k, a, t, (fun_mk l c k).binds bd_Refused_init⟩

theorem txt_mk {CP CL CR f N : Addr} {t_TAB t_BLANK t_DELETE t_NOT_SO t_UNFIT t_TOO_MANY t_NONE_THERE t_NOT_SHOWN t_MOST_LINES t_MOST_BYTES t_MOST_FOLDS t_MOST_HIGH t_MOST_STEPS t_LINE_FEED t_MOST_BYTE t_TEXT t_EDIT : Nat} {nm q : Str} {bs : List Value} {sn : List Str} {sub : List Value} {ab : Bool} {col : Option Bool} {dd : Option Addr} {m0 m1 m2 m3 m5 : Option Value} {oc : Value} {od an : Option Addr} {osl : Array (Option Value)} {kV doc pm cdv ct : Value} (X : K.In h) (G : h.Ns mainGlobals mg)
    (n_len : PySem.W.nsIn K mainGlobals "len" = some none)
    (n_any : PySem.W.nsIn K mainGlobals "any" = some none)
    (n_all : PySem.W.nsIn K mainGlobals "all" = some none)
    (n_min : PySem.W.nsIn K mainGlobals "min" = some none)
    (n_max : PySem.W.nsIn K mainGlobals "max" = some none)
    (n_range : PySem.W.nsIn K mainGlobals "range" = some none)
    (n_enumerate : PySem.W.nsIn K mainGlobals "enumerate" = some none)
    (n_ValueError : PySem.W.nsIn K mainGlobals "ValueError" = some none)
    (c_TAB : PySem.W.nsIn K mainGlobals "TAB" = some (some (.int 9 t_TAB)))
    (c_BLANK : PySem.W.nsIn K mainGlobals "BLANK" = some (some (.int 32 t_BLANK)))
    (c_DELETE : PySem.W.nsIn K mainGlobals "DELETE" = some (some (.int 127 t_DELETE)))
    (c_NOT_SO : PySem.W.nsIn K mainGlobals "NOT_SO" = some (some (.int (-1) t_NOT_SO)))
    (c_UNFIT : PySem.W.nsIn K mainGlobals "UNFIT" = some (some (.int (-4) t_UNFIT)))
    (c_TOO_MANY : PySem.W.nsIn K mainGlobals "TOO_MANY" = some (some (.int (-5) t_TOO_MANY)))
    (c_NONE_THERE : PySem.W.nsIn K mainGlobals "NONE_THERE" = some (some (.int (-6) t_NONE_THERE)))
    (c_NOT_SHOWN : PySem.W.nsIn K mainGlobals "NOT_SHOWN" = some (some (.int (-7) t_NOT_SHOWN)))
    (c_MOST_LINES : PySem.W.nsIn K mainGlobals "MOST_LINES" = some (some (.int 30 t_MOST_LINES)))
    (c_MOST_BYTES : PySem.W.nsIn K mainGlobals "MOST_BYTES" = some (some (.int 120 t_MOST_BYTES)))
    (c_MOST_FOLDS : PySem.W.nsIn K mainGlobals "MOST_FOLDS" = some (some (.int 12 t_MOST_FOLDS)))
    (c_MOST_HIGH : PySem.W.nsIn K mainGlobals "MOST_HIGH" = some (some (.int 60 t_MOST_HIGH)))
    (c_MOST_STEPS : PySem.W.nsIn K mainGlobals "MOST_STEPS" = some (some (.int 100 t_MOST_STEPS)))
    (c_LINE_FEED : PySem.W.nsIn K mainGlobals "LINE_FEED" = some (some (.int 10 t_LINE_FEED)))
    (c_MOST_BYTE : PySem.W.nsIn K mainGlobals "MOST_BYTE" = some (some (.int 255 t_MOST_BYTE)))
    (c_TEXT : PySem.W.nsIn K mainGlobals "TEXT" = some (some (.int 2 t_TEXT)))
    (c_EDIT : PySem.W.nsIn K mainGlobals "EDIT" = some (some (.int 3 t_EDIT)))
    (g_R : PySem.W.nsIn K mainGlobals "Refused" = some (some (.ref CR)))
    (g_P : PySem.W.nsIn K mainGlobals "Page" = some (some (.ref CP)))
    (g_L : PySem.W.nsIn K mainGlobals "Look" = some (some (.ref CL)))
    (pg_P : PySem.W.plainGet K CP Str.empty = true)
    (hd_P : PySem.W.hasDictIn K CP = true)
    (po_P : PySem.W.plainOver K CP = true)
    (sa_P : PySem.W.findIn K (.ref CP) "__setattr__" = some (some (.builtin "object.__setattr__")))
    (pg_L : PySem.W.plainGet K CL Str.empty = true)
    (hd_L : PySem.W.hasDictIn K CL = true)
    (po_L : PySem.W.plainOver K CL = true)
    (sa_L : PySem.W.findIn K (.ref CL) "__setattr__" = some (some (.builtin "object.__setattr__")))
    (p_lines : PySem.W.findIn K (.ref CP) "lines" = some none)
    (p_shape : PySem.W.findIn K (.ref CP) "shape" = some none)
    (p_folds : PySem.W.findIn K (.ref CP) "folds" = some none)
    (p_line : PySem.W.findIn K (.ref CP) "line" = some none)
    (p_place : PySem.W.findIn K (.ref CP) "place" = some none)
    (p_wished : PySem.W.findIn K (.ref CP) "wished" = some none)
    (p_top : PySem.W.findIn K (.ref CP) "top" = some none)
    (p_high : PySem.W.findIn K (.ref CP) "high" = some none)
    (p_told_margin : PySem.W.findIn K (.ref CP) "told_margin" = some none)
    (l_wide : PySem.W.findIn K (.ref CL) "wide" = some none)
    (l_tab : PySem.W.findIn K (.ref CL) "tab" = some none)
    (l_more : PySem.W.findIn K (.ref CL) "more" = some none)
    (l_hang : PySem.W.findIn K (.ref CL) "hang" = some none)
    (l_words : PySem.W.findIn K (.ref CL) "words" = some none)
    (x_L : K.lookup CR = some (excClassObj nm q CR N bs [.type "ValueError", .type "Exception", .type "BaseException", .type "object"] true sn sub ab col dd m0 m1 m2 m3 m5 "ValueError.__new__"))
    (x_sa : PySem.W.findIn K (.ref CR) "__setattr__" = some (some (.builtin "object.__setattr__")))
    (x_eC : PySem.W.subIn K (.ref CR) (.type "BaseException") = some true)
    (x_tC : PySem.W.typeIn K (.ref CR) = some (.type "type"))
    (x_kC : PySem.W.keepIn K (.ref CR) = true)
    (x_ga : PySem.W.findIn K (.ref CR) "__getattribute__" = some (some (.builtin "BaseException.__getattribute__")))
    (x_gg : PySem.W.findIn K (.ref CR) "__getattr__" = some none)
    (x_hd : PySem.W.hasDictIn K CR = true)
    (x_code : PySem.W.findIn K (.ref CR) "code" = some none)
    (x_vV : PySem.W.findCls K (.type "ValueError") (.type "type") "__init__" = some (.val (.builtin "ValueError.__init__")))
    (x_iC : PySem.W.isClsIn K CR = true)
    (x_sC : PySem.W.subIn K (.ref CR) (.ref CR) = some true)
    (x_a : PySem.W.findIn K (.ref CR) "__init__" = some (some (.ref f)))
    (x_t : PySem.W.typeIn K (.ref f) = some (.type "function"))
    (x_l : K.lookup f = some ⟨oc, od, .func (PySem.W.fnOf "__init__" "Refused.__init__" (defArgs (inClass (topS 40) 0)) (defBody (inClass (topS 40) 0)) (defScope (inClass (topS 40) 0)) .none kV doc pm an cdv ct), osl⟩)
    (x_c : PySem.W.codeIn K cdv "Refused.__init__" = true)
    (x_k : PySem.W.keepIn K (.ref f) = true)
    : ∀ F, Txt K mg (cD ⟨CP, CL, CR, none⟩ F) := fun F => { n_len := PySem.W.mg_none_of X G n_len, n_any := PySem.W.mg_none_of X G n_any, n_all := PySem.W.mg_none_of X G n_all, n_min := PySem.W.mg_none_of X G n_min, n_max := PySem.W.mg_none_of X G n_max, n_range := PySem.W.mg_none_of X G n_range, n_enumerate := PySem.W.mg_none_of X G n_enumerate, n_ValueError := PySem.W.mg_none_of X G n_ValueError, c_TAB := const_mk X G c_TAB, c_BLANK := const_mk X G c_BLANK, c_DELETE := const_mk X G c_DELETE, c_NOT_SO := const_mk X G c_NOT_SO, c_UNFIT := const_mk X G c_UNFIT, c_TOO_MANY := const_mk X G c_TOO_MANY, c_NONE_THERE := const_mk X G c_NONE_THERE, c_NOT_SHOWN := const_mk X G c_NOT_SHOWN, c_MOST_LINES := const_mk X G c_MOST_LINES, c_MOST_BYTES := const_mk X G c_MOST_BYTES, c_MOST_FOLDS := const_mk X G c_MOST_FOLDS, c_MOST_HIGH := const_mk X G c_MOST_HIGH, c_MOST_STEPS := const_mk X G c_MOST_STEPS, c_LINE_FEED := const_mk X G c_LINE_FEED, c_MOST_BYTE := const_mk X G c_MOST_BYTE, c_TEXT := const_mk X G c_TEXT, c_EDIT := const_mk X G c_EDIT, gR := PySem.W.mg_of X G g_R, clsP := ⟨pg_P, hd_P, po_P, sa_P⟩, clsL := ⟨pg_L, hd_L, po_L, sa_L⟩, p_lines := p_lines, p_shape := p_shape, p_folds := p_folds, p_line := p_line, p_place := p_place, p_wished := p_wished, p_top := p_top, p_high := p_high, p_told_margin := p_told_margin, l_wide := l_wide, l_tab := l_tab, l_more := l_more, l_hang := l_hang, l_words := l_words, oR := oex_mk x_L x_sa x_eC x_tC x_kC, xR := ⟨x_ga, x_gg, x_eC, x_hd⟩, r_code := x_code, vV := x_vV, eR := exm_self x_eC x_iC x_tC x_sC, iR := refused_mk x_a x_t x_l x_c x_k }
end
theorem bd_hides : BindOk "hides" "hides" s_hides P_hides := fun _ _ _ _ _ _ us hl => match us, hl with | [_, _], _ => rfl
theorem bd_has : BindOk "has" "has" s_has P_has := fun _ _ _ _ _ _ us hl => match us, hl with | [_, _], _ => rfl
theorem bd_is_seen : BindOk "is_seen" "is_seen" s_is_seen P_is_seen := fun _ _ _ _ _ _ us hl => match us, hl with | [_, _], _ => rfl
theorem bd_are_well : BindOk "are_well" "are_well" s_are_well P_are_well := fun _ _ _ _ _ _ us hl => match us, hl with | [_, _], _ => rfl
theorem bd_seen_for : BindOk "seen_for" "seen_for" s_seen_for P_seen_for := fun _ _ _ _ _ _ us hl => match us, hl with | [_, _], _ => rfl
theorem bd_fold_behind : BindOk "fold_behind" "fold_behind" s_fold_behind P_fold_behind := fun _ _ _ _ _ _ us hl => match us, hl with | [_, _, _, _], _ => rfl
theorem bd_folds_behind : BindOk "folds_behind" "folds_behind" s_folds_behind P_folds_behind := fun _ _ _ _ _ _ us hl => match us, hl with | [_, _, _, _], _ => rfl
theorem bd_Look_init : BindOk "__init__" "Look.__init__" s_Look_init P_Look_init := fun _ _ _ _ _ _ us hl => match us, hl with | [_, _, _, _, _, _], _ => rfl
theorem bd_is_look : BindOk "is_look" "is_look" s_is_look P_is_look := fun _ _ _ _ _ _ us hl => match us, hl with | [_, _, _], _ => rfl
theorem bd_is_blank : BindOk "is_blank" "is_blank" s_is_blank P_is_blank := fun _ _ _ _ _ _ us hl => match us, hl with | [_], _ => rfl
theorem bd_column_behind : BindOk "column_behind" "column_behind" s_column_behind P_column_behind := fun _ _ _ _ _ _ us hl => match us, hl with | [_, _, _], _ => rfl
theorem bd_columns_behind : BindOk "columns_behind" "columns_behind" s_columns_behind P_columns_behind := fun _ _ _ _ _ _ us hl => match us, hl with | [_, _, _], _ => rfl
theorem bd_many_blanks : BindOk "many_blanks" "many_blanks" s_many_blanks P_many_blanks := fun _ _ _ _ _ _ us hl => match us, hl with | [_], _ => rfl
theorem bd_inset_of : BindOk "inset_of" "inset_of" s_inset_of P_inset_of := fun _ _ _ _ _ _ us hl => match us, hl with | [_, _], _ => rfl
theorem bd_many_fit : BindOk "many_fit" "many_fit" s_many_fit P_many_fit := fun _ _ _ _ _ _ us hl => match us, hl with | [_, _, _], _ => rfl
theorem bd_by_words : BindOk "by_words" "by_words" s_by_words P_by_words := fun _ _ _ _ _ _ us hl => match us, hl with | [_, _], _ => rfl
theorem bd_many_taken : BindOk "many_taken" "many_taken" s_many_taken P_many_taken := fun _ _ _ _ _ _ us hl => match us, hl with | [_, _, _], _ => rfl
theorem bd_rows_of : BindOk "rows_of" "rows_of" s_rows_of P_rows_of := fun _ _ _ _ _ _ us hl => match us, hl with | [_, _], _ => rfl
theorem bd_is_in : BindOk "is_in" "is_in" s_is_in P_is_in := fun _ _ _ _ _ _ us hl => match us, hl with | [_, _, _], _ => rfl
theorem bd_row_with : BindOk "row_with" "row_with" s_row_with P_row_with := fun _ _ _ _ _ _ us hl => match us, hl with | [_, _, _], _ => rfl
theorem bd_column_in : BindOk "column_in" "column_in" s_column_in P_column_in := fun _ _ _ _ _ _ us hl => match us, hl with | [_, _, _, _], _ => rfl
theorem bd_place_for : BindOk "place_for" "place_for" s_place_for P_place_for := fun _ _ _ _ _ _ us hl => match us, hl with | [_, _, _, _], _ => rfl
theorem bd_is_line : BindOk "is_line" "is_line" s_is_line P_is_line := fun _ _ _ _ _ _ us hl => match us, hl with | [_], _ => rfl
theorem bd_are_lines : BindOk "are_lines" "are_lines" s_are_lines P_are_lines := fun _ _ _ _ _ _ us hl => match us, hl with | [_], _ => rfl
theorem bd_Page_init : BindOk "__init__" "Page.__init__" s_Page_init P_Page_init := fun _ _ _ _ _ _ us hl => match us, hl with | [_], _ => rfl
theorem bd_margin : BindOk "margin" "Page.margin" s_margin P_margin := fun _ _ _ _ _ _ us hl => match us, hl with | [_], _ => rfl
theorem bd_rows : BindOk "rows" "Page.rows" s_rows P_rows := fun _ _ _ _ _ _ us hl => match us, hl with | [_], _ => rfl
theorem bd_row_at : BindOk "row_at" "Page.row_at" s_row_at P_row_at := fun _ _ _ _ _ _ us hl => match us, hl with | [_, _, _], _ => rfl
theorem bd_own_row : BindOk "own_row" "Page.own_row" s_own_row P_own_row := fun _ _ _ _ _ _ us hl => match us, hl with | [_], _ => rfl
theorem bd_column_at : BindOk "column_at" "Page.column_at" s_column_at P_column_at := fun _ _ _ _ _ _ us hl => match us, hl with | [_, _, _], _ => rfl
theorem bd_told : BindOk "told" "Page.told" s_told P_told := fun _ _ _ _ _ _ us hl => match us, hl with | [_], _ => rfl
theorem bd_last_top : BindOk "last_top" "Page.last_top" s_last_top P_last_top := fun _ _ _ _ _ _ us hl => match us, hl with | [_], _ => rfl
theorem bd_scrolled : BindOk "scrolled" "Page.scrolled" s_scrolled P_scrolled := fun _ _ _ _ _ _ us hl => match us, hl with | [_], _ => rfl
theorem bd_settled : BindOk "settled" "Page.settled" s_settled P_settled := fun _ _ _ _ _ _ us hl => match us, hl with | [_], _ => rfl
theorem bd_put_into : BindOk "put_into" "Page.put_into" s_put_into P_put_into := fun _ _ _ _ _ _ us hl => match us, hl with | [_, _], _ => rfl
theorem bd_want : BindOk "want" "want" s_want P_want := fun _ _ _ _ _ _ us hl => match us, hl with | [_, _], _ => rfl
theorem bd_look : BindOk "look" "Page.look" s_look P_look := fun _ _ _ _ _ _ us hl => match us, hl with | [_, _, _, _, _, _], _ => rfl
theorem bd_window : BindOk "window" "Page.window" s_window P_window := fun _ _ _ _ _ _ us hl => match us, hl with | [_, _, _], _ => rfl
theorem bd_text : BindOk "text" "Page.text" s_text P_text := fun _ _ _ _ _ _ us hl => match us, hl with | [_, _], _ => rfl
theorem bd_edit : BindOk "edit" "Page.edit" s_edit P_edit := fun _ _ _ _ _ _ us hl => match us, hl with | [_, _, _, _], _ => rfl
theorem bd_fold : BindOk "fold" "Page.fold" s_fold P_fold := fun _ _ _ _ _ _ us hl => match us, hl with | [_, _, _], _ => rfl
theorem bd_unfold : BindOk "unfold" "Page.unfold" s_unfold P_unfold := fun _ _ _ _ _ _ us hl => match us, hl with | [_, _], _ => rfl
theorem bd_want_place : BindOk "want_place" "Page.want_place" s_want_place P_want_place := fun _ _ _ _ _ _ us hl => match us, hl with | [_, _, _], _ => rfl
theorem bd_goto : BindOk "goto" "Page.goto" s_goto P_goto := fun _ _ _ _ _ _ us hl => match us, hl with | [_, _, _], _ => rfl
theorem bd_up : BindOk "up" "Page.up" s_up P_up := fun _ _ _ _ _ _ us hl => match us, hl with | [_, _], _ => rfl
theorem bd_down : BindOk "down" "Page.down" s_down P_down := fun _ _ _ _ _ _ us hl => match us, hl with | [_, _], _ => rfl
theorem bd_step_left : BindOk "step_left" "Page.step_left" s_step_left P_step_left := fun _ _ _ _ _ _ us hl => match us, hl with | [_], _ => rfl
theorem bd_step_right : BindOk "step_right" "Page.step_right" s_step_right P_step_right := fun _ _ _ _ _ _ us hl => match us, hl with | [_], _ => rfl
theorem bd_left : BindOk "left" "Page.left" s_left P_left := fun _ _ _ _ _ _ us hl => match us, hl with | [_, _], _ => rfl
theorem bd_right : BindOk "right" "Page.right" s_right P_right := fun _ _ _ _ _ _ us hl => match us, hl with | [_, _], _ => rfl
theorem bd_first_free : BindOk "first_free" "Page.first_free" s_first_free P_first_free := fun _ _ _ _ _ _ us hl => match us, hl with | [_], _ => rfl
theorem bd_last_free : BindOk "last_free" "Page.last_free" s_last_free P_last_free := fun _ _ _ _ _ _ us hl => match us, hl with | [_], _ => rfl
theorem bd_scroll : BindOk "scroll" "Page.scroll" s_scroll P_scroll := fun _ _ _ _ _ _ us hl => match us, hl with | [_, _, _], _ => rfl
theorem bd_shows : BindOk "shows" "Page.shows" s_shows P_shows := fun _ _ _ _ _ _ us hl => match us, hl with | [_], _ => rfl
theorem bd_rows_told : BindOk "rows_told" "Page.rows_told" s_rows_told P_rows_told := fun _ _ _ _ _ _ us hl => match us, hl with | [_, _], _ => rfl
theorem bd_at : BindOk "at" "Page.at" s_at P_at := fun _ _ _ _ _ _ us hl => match us, hl with | [_, _, _], _ => rfl
theorem bd_where : BindOk "where" "Page.where" s_where P_where := fun _ _ _ _ _ _ us hl => match us, hl with | [_, _, _], _ => rfl
theorem bd_lines_in : BindOk "lines_in" "lines_in" s_lines_in P_lines_in := fun _ _ _ _ _ _ us hl => match us, hl with | [_], _ => rfl
theorem bd_changed : BindOk "changed" "changed" s_changed P_changed := fun _ _ _ _ _ _ us hl => match us, hl with | [_, _, _], _ => rfl
theorem bd_moved : BindOk "moved" "moved" s_moved P_moved := fun _ _ _ _ _ _ us hl => match us, hl with | [_, _, _], _ => rfl
theorem bd_looked : BindOk "looked" "looked" s_looked P_looked := fun _ _ _ _ _ _ us hl => match us, hl with | [_, _, _], _ => rfl
theorem bd_asked : BindOk "asked" "asked" s_asked P_asked := fun _ _ _ _ _ _ us hl => match us, hl with | [_, _, _], _ => rfl
theorem bd_answered : BindOk "answered" "answered" s_answered P_answered := fun _ _ _ _ _ _ us hl => match us, hl with | [_, _], _ => rfl
theorem bd_answers : BindOk "answers" "answers" s_answers P_answers := fun _ _ _ _ _ _ us hl => match us, hl with | [_], _ => rfl
section
variable {P : Program} {w : World} {K : PySem.W.Frag} {mg : Str → Option Value} {h : Heap} {CP CL CR fa : Addr}
/-- the chain -/
theorem the_end (T : ∀ F, Txt K mg (cD ⟨CP, CL, CR, none⟩ F))
    (D_hides : DefAt K mg "hides" s_hides P_hides)
    (D_has : DefAt K mg "has" s_has P_has)
    (D_is_seen : DefAt K mg "is_seen" s_is_seen P_is_seen)
    (D_are_well : DefAt K mg "are_well" s_are_well P_are_well)
    (D_seen_for : DefAt K mg "seen_for" s_seen_for P_seen_for)
    (D_fold_behind : DefAt K mg "fold_behind" s_fold_behind P_fold_behind)
    (D_folds_behind : DefAt K mg "folds_behind" s_folds_behind P_folds_behind)
    (D_Look_init : InitAt K mg CL "Look" "Look.__init__" s_Look_init P_Look_init)
    (D_is_look : DefAt K mg "is_look" s_is_look P_is_look)
    (D_is_blank : DefAt K mg "is_blank" s_is_blank P_is_blank)
    (D_column_behind : DefAt K mg "column_behind" s_column_behind P_column_behind)
    (D_columns_behind : DefAt K mg "columns_behind" s_columns_behind P_columns_behind)
    (D_many_blanks : DefAt K mg "many_blanks" s_many_blanks P_many_blanks)
    (D_inset_of : DefAt K mg "inset_of" s_inset_of P_inset_of)
    (D_many_fit : DefAt K mg "many_fit" s_many_fit P_many_fit)
    (D_by_words : DefAt K mg "by_words" s_by_words P_by_words)
    (D_many_taken : DefAt K mg "many_taken" s_many_taken P_many_taken)
    (D_rows_of : DefAt K mg "rows_of" s_rows_of P_rows_of)
    (D_is_in : DefAt K mg "is_in" s_is_in P_is_in)
    (D_row_with : DefAt K mg "row_with" s_row_with P_row_with)
    (D_column_in : DefAt K mg "column_in" s_column_in P_column_in)
    (D_place_for : DefAt K mg "place_for" s_place_for P_place_for)
    (D_is_line : DefAt K mg "is_line" s_is_line P_is_line)
    (D_are_lines : DefAt K mg "are_lines" s_are_lines P_are_lines)
    (D_Page_init : InitAt K mg CP "Page" "Page.__init__" s_Page_init P_Page_init)
    (D_margin : MethAt K CP "margin" "Page.margin" s_margin P_margin)
    (D_rows : MethAt K CP "rows" "Page.rows" s_rows P_rows)
    (D_row_at : MethAt K CP "row_at" "Page.row_at" s_row_at P_row_at)
    (D_own_row : MethAt K CP "own_row" "Page.own_row" s_own_row P_own_row)
    (D_column_at : MethAt K CP "column_at" "Page.column_at" s_column_at P_column_at)
    (D_told : MethAt K CP "told" "Page.told" s_told P_told)
    (D_last_top : MethAt K CP "last_top" "Page.last_top" s_last_top P_last_top)
    (D_scrolled : MethAt K CP "scrolled" "Page.scrolled" s_scrolled P_scrolled)
    (D_settled : MethAt K CP "settled" "Page.settled" s_settled P_settled)
    (D_put_into : MethAt K CP "put_into" "Page.put_into" s_put_into P_put_into)
    (D_want : DefAt K mg "want" s_want P_want)
    (D_look : MethAt K CP "look" "Page.look" s_look P_look)
    (D_window : MethAt K CP "window" "Page.window" s_window P_window)
    (D_text : MethAt K CP "text" "Page.text" s_text P_text)
    (D_edit : MethAt K CP "edit" "Page.edit" s_edit P_edit)
    (D_fold : MethAt K CP "fold" "Page.fold" s_fold P_fold)
    (D_unfold : MethAt K CP "unfold" "Page.unfold" s_unfold P_unfold)
    (D_want_place : MethAt K CP "want_place" "Page.want_place" s_want_place P_want_place)
    (D_goto : MethAt K CP "goto" "Page.goto" s_goto P_goto)
    (D_up : MethAt K CP "up" "Page.up" s_up P_up)
    (D_down : MethAt K CP "down" "Page.down" s_down P_down)
    (D_step_left : MethAt K CP "step_left" "Page.step_left" s_step_left P_step_left)
    (D_step_right : MethAt K CP "step_right" "Page.step_right" s_step_right P_step_right)
    (D_left : MethAt K CP "left" "Page.left" s_left P_left)
    (D_right : MethAt K CP "right" "Page.right" s_right P_right)
    (D_first_free : MethAt K CP "first_free" "Page.first_free" s_first_free P_first_free)
    (D_last_free : MethAt K CP "last_free" "Page.last_free" s_last_free P_last_free)
    (D_scroll : MethAt K CP "scroll" "Page.scroll" s_scroll P_scroll)
    (D_shows : MethAt K CP "shows" "Page.shows" s_shows P_shows)
    (D_rows_told : MethAt K CP "rows_told" "Page.rows_told" s_rows_told P_rows_told)
    (D_at : MethAt K CP "at" "Page.at" s_at P_at)
    (D_where : MethAt K CP "where" "Page.where" s_where P_where)
    (D_lines_in : DefAt K mg "lines_in" s_lines_in P_lines_in)
    (D_changed : DefAt K mg "changed" s_changed P_changed)
    (D_moved : DefAt K mg "moved" s_moved P_moved)
    (D_looked : DefAt K mg "looked" s_looked P_looked)
    (D_asked : DefAt K mg "asked" s_asked P_asked)
    (D_answered : DefAt K mg "answered" s_answered P_answered)
    (D_answers : DefAt K mg "answers" s_answers P_answers)
    (hfa : mg "answers" = some (.ref fa)) :
    ∃ fd : FuncData, (∀ (s : Shared) (us : List Value), us.length = (["calls"] : List Str).length → BindsTo s fd ⟨us, []⟩ ((["calls"] : List Str).zip us)) ∧ ∀ base : Heap, K.In base → base.Ns mainGlobals mg → FnOk P w K mg base CX0 16 fa fd ["calls"] (sp_answers K) := by
  obtain ⟨f, fd, FA, m, b⟩ := D_answers.ex
  have e := hfa.symm.trans m
  cases e
  obtain ⟨oc, od, kV, doc, pm, an, cdv, ct, osl, rfl, l, hcd⟩ := FA.ex
  refine ⟨_, fun s us hu => .of_eq (bd_answers kV doc pm an cdv ct us hu), fun base _ _ => ?_⟩
  have C_hides := fun F => ok_hides (P := P) (w := w) (base := base) (c := cD ⟨CP, CL, CR, none⟩ F) D_hides (T F)  pure_hides
  have C_has := fun F => ok_has (P := P) (w := w) (base := base) (c := cD ⟨CP, CL, CR, none⟩ F) D_has (T F)  pure_has
  have C_is_seen := fun F => ok_is_seen (P := P) (w := w) (base := base) (c := cD ⟨CP, CL, CR, none⟩ F) D_is_seen (T F) (C_hides F) pure_is_seen
  have C_are_well := fun F => ok_are_well (P := P) (w := w) (base := base) (c := cD ⟨CP, CL, CR, none⟩ F) D_are_well (T F)  pure_are_well
  have C_seen_for := fun F => ok_seen_for (P := P) (w := w) (base := base) (c := cD ⟨CP, CL, CR, none⟩ F) D_seen_for (T F) (C_is_seen F) (C_hides F) pure_seen_for
  have C_fold_behind := fun F => ok_fold_behind (P := P) (w := w) (base := base) (c := cD ⟨CP, CL, CR, none⟩ F) D_fold_behind (T F)  pure_fold_behind
  have C_folds_behind := fun F => ok_folds_behind (P := P) (w := w) (base := base) (c := cD ⟨CP, CL, CR, none⟩ F) D_folds_behind (T F) (C_fold_behind F) pure_folds_behind
  have C_Look_init := fun F => ok_Look_init (P := P) (w := w) (base := base) (c := cD ⟨CP, CL, CR, none⟩ F) D_Look_init (T F)  (pure_Look_init (T F))
  have C_is_look := fun F => ok_is_look (P := P) (w := w) (base := base) (c := cD ⟨CP, CL, CR, none⟩ F) D_is_look (T F)  pure_is_look
  have C_is_blank := fun F => ok_is_blank (P := P) (w := w) (base := base) (c := cD ⟨CP, CL, CR, none⟩ F) D_is_blank (T F)  pure_is_blank
  have C_column_behind := fun F => ok_column_behind (P := P) (w := w) (base := base) (c := cD ⟨CP, CL, CR, none⟩ F) D_column_behind (T F)  (pure_column_behind (T F))
  have C_columns_behind := fun F => ok_columns_behind (P := P) (w := w) (base := base) (c := cD ⟨CP, CL, CR, none⟩ F) D_columns_behind (T F) (C_column_behind F) pure_columns_behind
  have C_many_blanks := fun F => ok_many_blanks (P := P) (w := w) (base := base) (c := cD ⟨CP, CL, CR, none⟩ F) D_many_blanks (T F) (C_is_blank F) pure_many_blanks
  have C_inset_of := fun F => ok_inset_of (P := P) (w := w) (base := base) (c := cD ⟨CP, CL, CR, none⟩ F) D_inset_of (T F) (C_columns_behind F) (C_many_blanks F) (pure_inset_of (T F))
  have C_many_fit := fun F => ok_many_fit (P := P) (w := w) (base := base) (c := cD ⟨CP, CL, CR, none⟩ F) D_many_fit (T F) (C_column_behind F) (pure_many_fit (T F))
  have C_by_words := fun F => ok_by_words (P := P) (w := w) (base := base) (c := cD ⟨CP, CL, CR, none⟩ F) D_by_words (T F) (C_is_blank F) (C_many_blanks F) pure_by_words
  have C_many_taken := fun F => ok_many_taken (P := P) (w := w) (base := base) (c := cD ⟨CP, CL, CR, none⟩ F) D_many_taken (T F) (C_many_fit F) (C_by_words F) (pure_many_taken (T F))
  have C_rows_of := fun F => ok_rows_of (P := P) (w := w) (base := base) (c := cD ⟨CP, CL, CR, none⟩ F) D_rows_of (T F) (C_many_taken F) (C_inset_of F) pure_rows_of
  have C_is_in := fun F => ok_is_in (P := P) (w := w) (base := base) (c := cD ⟨CP, CL, CR, none⟩ F) D_is_in (T F)  pure_is_in
  have C_row_with := fun F => ok_row_with (P := P) (w := w) (base := base) (c := cD ⟨CP, CL, CR, none⟩ F) D_row_with (T F) (C_rows_of F) (C_is_in F) pure_row_with
  have C_column_in := fun F => ok_column_in (P := P) (w := w) (base := base) (c := cD ⟨CP, CL, CR, none⟩ F) D_column_in (T F) (C_columns_behind F) pure_column_in
  have C_place_for := fun F => ok_place_for (P := P) (w := w) (base := base) (c := cD ⟨CP, CL, CR, none⟩ F) D_place_for (T F) (C_column_in F) pure_place_for
  have C_is_line := fun F => ok_is_line (P := P) (w := w) (base := base) (c := cD ⟨CP, CL, CR, none⟩ F) D_is_line (T F)  (pure_is_line (T F))
  have C_are_lines := fun F => ok_are_lines (P := P) (w := w) (base := base) (c := cD ⟨CP, CL, CR, none⟩ F) D_are_lines (T F) (C_is_line F) pure_are_lines
  have C_Page_init := fun F => ok_Page_init (P := P) (w := w) (base := base) (c := cD ⟨CP, CL, CR, none⟩ F) D_Page_init (T F) (C_Look_init F) (pure_Page_init (T F))
  have C_margin := fun F => ok_margin (P := P) (w := w) (base := base) (c := cD ⟨CP, CL, CR, none⟩ F) D_margin (T F)  (pure_margin (T F))
  have C_rows := fun F => ok_rows (P := P) (w := w) (base := base) (c := cD ⟨CP, CL, CR, none⟩ F) D_rows (T F) (C_is_seen F) (C_rows_of F) (pure_rows (T F))
  have C_row_at := fun F => ok_row_at (P := P) (w := w) (base := base) (c := cD ⟨CP, CL, CR, none⟩ F) D_row_at (T F) (C_rows F) (C_row_with F) (pure_row_at (T F))
  have C_own_row := fun F => ok_own_row (P := P) (w := w) (base := base) (c := cD ⟨CP, CL, CR, none⟩ F) D_own_row (T F) (C_row_at F) (pure_own_row (T F))
  have C_column_at := fun F => ok_column_at (P := P) (w := w) (base := base) (c := cD ⟨CP, CL, CR, none⟩ F) D_column_at (T F) (C_rows_of F) (C_row_with F) (C_column_in F) (pure_column_at (T F))
  have C_told := fun F => ok_told (P := P) (w := w) (base := base) (c := cD ⟨CP, CL, CR, none⟩ F) D_told (T F) (C_column_at F) (C_own_row F) (pure_told (T F))
  have C_last_top := fun F => ok_last_top (P := P) (w := w) (base := base) (c := cD ⟨CP, CL, CR, none⟩ F) D_last_top (T F) (C_rows F) (pure_last_top (T F))
  have C_scrolled := fun F => ok_scrolled (P := P) (w := w) (base := base) (c := cD ⟨CP, CL, CR, none⟩ F) D_scrolled (T F) (C_margin F) (C_own_row F) (C_last_top F) (C_told F) (pure_scrolled (T F))
  have C_settled := fun F => ok_settled (P := P) (w := w) (base := base) (c := cD ⟨CP, CL, CR, none⟩ F) D_settled (T F) (C_seen_for F) (C_scrolled F) (pure_settled (T F))
  have C_put_into := fun F => ok_put_into (P := P) (w := w) (base := base) (c := cD ⟨CP, CL, CR, none⟩ F) D_put_into (T F) (C_column_at F) (C_rows F) (C_place_for F) (pure_put_into (T F))
  have C_want := fun F => ok_want (P := P) (w := w) (base := base) (c := cD ⟨CP, CL, CR, none⟩ F) D_want (T F) 
  have C_look := fun F => ok_look (P := P) (w := w) (base := base) (c := cD ⟨CP, CL, CR, none⟩ F) D_look (T F) (C_want F) (C_is_look F) (C_Look_init F) (C_settled F) (pure_look (T F))
  have C_window := fun F => ok_window (P := P) (w := w) (base := base) (c := cD ⟨CP, CL, CR, none⟩ F) D_window (T F) (C_want F) (C_scrolled F) (pure_window (T F))
  have C_text := fun F => ok_text (P := P) (w := w) (base := base) (c := cD ⟨CP, CL, CR, none⟩ F) D_text (T F) (C_want F) (C_are_lines F) (C_settled F) (pure_text (T F))
  have C_edit := fun F => ok_edit (P := P) (w := w) (base := base) (c := cD ⟨CP, CL, CR, none⟩ F) D_edit (T F) (C_want F) (C_are_lines F) (C_folds_behind F) (C_settled F) (pure_edit (T F))
  have C_fold := fun F => ok_fold (P := P) (w := w) (base := base) (c := cD ⟨CP, CL, CR, none⟩ F) D_fold (T F) (C_want F) (C_are_well F) (C_settled F) (pure_fold (T F))
  have C_unfold := fun F => ok_unfold (P := P) (w := w) (base := base) (c := cD ⟨CP, CL, CR, none⟩ F) D_unfold (T F) (C_want F) (C_has F) (C_settled F) (pure_unfold (T F))
  have C_want_place := fun F => ok_want_place (P := P) (w := w) (base := base) (c := cD ⟨CP, CL, CR, none⟩ F) D_want_place (T F) (C_want F) (pure_want_place (T F))
  have C_goto := fun F => ok_goto (P := P) (w := w) (base := base) (c := cD ⟨CP, CL, CR, none⟩ F) D_goto (T F) (C_want_place F) (C_hides F) (C_settled F) (pure_goto (T F))
  have C_up := fun F => ok_up (P := P) (w := w) (base := base) (c := cD ⟨CP, CL, CR, none⟩ F) D_up (T F) (C_want F) (C_put_into F) (C_own_row F) (C_scrolled F) (pure_up (T F))
  have C_down := fun F => ok_down (P := P) (w := w) (base := base) (c := cD ⟨CP, CL, CR, none⟩ F) D_down (T F) (C_want F) (C_put_into F) (C_rows F) (C_own_row F) (C_scrolled F) (pure_down (T F))
  have C_step_left := fun F => ok_step_left (P := P) (w := w) (base := base) (c := cD ⟨CP, CL, CR, none⟩ F) D_step_left (T F) (C_is_seen F) (pure_step_left (T F))
  have C_step_right := fun F => ok_step_right (P := P) (w := w) (base := base) (c := cD ⟨CP, CL, CR, none⟩ F) D_step_right (T F) (C_is_seen F) (pure_step_right (T F))
  have C_left := fun F => ok_left (P := P) (w := w) (base := base) (c := cD ⟨CP, CL, CR, none⟩ F) D_left (T F) (C_want F) (C_step_left F) (C_settled F) (pure_left (T F))
  have C_right := fun F => ok_right (P := P) (w := w) (base := base) (c := cD ⟨CP, CL, CR, none⟩ F) D_right (T F) (C_want F) (C_step_right F) (C_settled F) (pure_right (T F))
  have C_first_free := fun F => ok_first_free (P := P) (w := w) (base := base) (c := cD ⟨CP, CL, CR, none⟩ F) D_first_free (T F) (C_margin F) (pure_first_free (T F))
  have C_last_free := fun F => ok_last_free (P := P) (w := w) (base := base) (c := cD ⟨CP, CL, CR, none⟩ F) D_last_free (T F) (C_rows F) (C_margin F) (pure_last_free (T F))
  have C_scroll := fun F => ok_scroll (P := P) (w := w) (base := base) (c := cD ⟨CP, CL, CR, none⟩ F) D_scroll (T F) (C_want F) (C_last_top F) (C_own_row F) (C_first_free F) (C_put_into F) (C_last_free F) (C_told F) (pure_scroll (T F))
  have C_shows := fun F => ok_shows (P := P) (w := w) (base := base) (c := cD ⟨CP, CL, CR, none⟩ F) D_shows (T F) (C_rows F) (pure_shows (T F))
  have C_rows_told := fun F => ok_rows_told (P := P) (w := w) (base := base) (c := cD ⟨CP, CL, CR, none⟩ F) D_rows_told (T F) (C_want F) (C_rows_of F) (pure_rows_told (T F))
  have C_at := fun F => ok_at (P := P) (w := w) (base := base) (c := cD ⟨CP, CL, CR, none⟩ F) D_at (T F) (C_want F) (C_rows F) (C_place_for F) (pure_at (T F))
  have C_where := fun F => ok_where (P := P) (w := w) (base := base) (c := cD ⟨CP, CL, CR, none⟩ F) D_where (T F) (C_want_place F) (C_want F) (C_is_seen F) (C_row_at F) (C_column_at F) (pure_where (T F))
  have C_lines_in := fun F => ok_lines_in (P := P) (w := w) (base := base) (c := cD ⟨CP, CL, CR, none⟩ F) D_lines_in (T F)  (pure_lines_in (T F))
  have C_changed := fun F => ok_changed (P := P) (w := w) (base := base) (c := cD ⟨CP, CL, CR, none⟩ F) D_changed (T F) (C_look F) (C_window F) (C_text F) (C_lines_in F) (C_edit F) (C_fold F) (C_unfold F) (pure_changed (T F))
  have C_moved := fun F => ok_moved (P := P) (w := w) (base := base) (c := cD ⟨CP, CL, CR, none⟩ F) D_moved (T F) (C_goto F) (C_up F) (C_down F) (C_left F) (C_right F) (C_scroll F) (pure_moved (T F))
  have C_looked := fun F => ok_looked (P := P) (w := w) (base := base) (c := cD ⟨CP, CL, CR, none⟩ F) D_looked (T F) (C_told F) (C_shows F) (C_rows_told F) (C_at F) (C_where F) (pure_looked (T F))
  have C_asked := fun F => ok_asked (P := P) (w := w) (base := base) (c := cD ⟨CP, CL, CR, none⟩ F) D_asked (T F) (C_changed F) (C_moved F) (C_looked F) (pure_asked (T F))
  have C_answered := ok_answeredD (P := P) (w := w) (base := base) (c := ⟨CP, CL, CR, none⟩) D_answered T C_asked
  exact ok_answersF (c := ⟨CP, CL, CR, none⟩) FA (T none) (C_Page_init none) C_answered
end
end Fw
/-! What is asked, what is handed back. -/
namespace Fw
open PySem PySem.Spec PyProof.Rows L2 Evl
open PySem.W (Codec)
theorem the_ask : ∀ (K : PySem.W.Frag) (H : L2.Hp) (xs : List L2.V) (a : Codec.denoteAll PySem.Challenge.rw_foldview_s01_answers.args), L2.OnlyF H → Codec.withinAll PySem.Challenge.rw_foldview_s01_answers.args a = true →
    Codec.app PySem.Challenge.rw_foldview_s01_answers.args PySem.Challenge.rw_foldview_s01_answers.asked a = true → L2.DwAll K H xs (Codec.encAll PySem.Challenge.rw_foldview_s01_answers.args a) →
    sp_answers K xs H (fun v H' => L2.Dw K H' v (PySem.Challenge.rw_foldview_s01_answers.ret.enc (Codec.app PySem.Challenge.rw_foldview_s01_answers.args PySem.Challenge.rw_foldview_s01_answers.f a))) fun _ _ _ => False := by
  intro K H xs a hO hwi hask hx
  cases hx with
  | cons h1 h2 =>
    cases h2
    cases h1 with
    | lst hs ha =>
      have e := L2.ints_dw a.1 _ ha
      subst e
      obtain ⟨cs, e1, e2, e3, e4⟩ := Fv.asked_wire (l := a.1) hask
      refine ⟨_, cs, rfl, ?_, e2, e4, fun H' p hp => ?_⟩
      · have e5 : nums (Fv.wire cs) = a.1.map V.int := by
          rw [e1, List.map_map]
          rfl
        rw [e5]
        exact hs
      · rw [← e3] at hp
        exact .lst (L2.SqL.of hp) (L2.dw_ints _)
end Fw
open PySem PySem.W PyProof.Rows
set_option maxRecDepth 100000 in
set_option maxHeartbeats 40000000 in
theorem PySem.Challenge.cw_foldview_s01_answers_holds : PySem.Challenge.rw_foldview_s01_answers.Holds := by
  w_on; k_headS; (case hw => exact ⟨[.list [.int 0, .int 1, .int 12]], by decide +kernel, by decide +kernel⟩)
  k_fillS
  refine L2.walk_specK (r := PySem.Challenge.rw_foldview_s01_answers) (k := 16) (CX := L2.CX0) (ps := ["calls"]) (sp := Fw.sp_answers) (by decide +kernel) rfl rfl ⟨rfl, by decide, by decide⟩ (fun w h Y => PySem.W.kIn_of Y) ?F ?S (fun _ _ _ _ z => z)
  case F =>
    intro w mg fa h Y KX G hmg
    refine' Fw.the_end (Fw.txt_mk KX G ?n_len ?n_any ?n_all ?n_min ?n_max ?n_range ?n_enumerate ?n_ValueError ?c_TAB ?c_BLANK ?c_DELETE ?c_NOT_SO ?c_UNFIT ?c_TOO_MANY ?c_NONE_THERE ?c_NOT_SHOWN ?c_MOST_LINES ?c_MOST_BYTES ?c_MOST_FOLDS ?c_MOST_HIGH ?c_MOST_STEPS ?c_LINE_FEED ?c_MOST_BYTE ?c_TEXT ?c_EDIT ?g_R ?g_P ?g_L ?pg_P ?hd_P ?po_P ?sa_P ?pg_L ?hd_L ?po_L ?sa_L ?p_lines ?p_shape ?p_folds ?p_line ?p_place ?p_wished ?p_top ?p_high ?p_told_margin ?l_wide ?l_tab ?l_more ?l_hang ?l_words ?x_L ?x_sa ?x_eC ?x_tC ?x_kC ?x_ga ?x_gg ?x_hd ?x_code ?x_vV ?x_iC ?x_sC ?x_a ?x_t ?x_l ?x_c ?x_k)
      (Fw.def_mk Fw.bd_hides KX G ?hides_a ?hides_l ?hides_c ?hides_k)
      (Fw.def_mk Fw.bd_has KX G ?has_a ?has_l ?has_c ?has_k)
      (Fw.def_mk Fw.bd_is_seen KX G ?is_seen_a ?is_seen_l ?is_seen_c ?is_seen_k)
      (Fw.def_mk Fw.bd_are_well KX G ?are_well_a ?are_well_l ?are_well_c ?are_well_k)
      (Fw.def_mk Fw.bd_seen_for KX G ?seen_for_a ?seen_for_l ?seen_for_c ?seen_for_k)
      (Fw.def_mk Fw.bd_fold_behind KX G ?fold_behind_a ?fold_behind_l ?fold_behind_c ?fold_behind_k)
      (Fw.def_mk Fw.bd_folds_behind KX G ?folds_behind_a ?folds_behind_l ?folds_behind_c ?folds_behind_k)
      (Fw.init_mk Fw.bd_Look_init KX G ?Look_init_g ?Look_init_mk ?Look_init_kc ?Look_init_a ?Look_init_i ?Look_init_l ?Look_init_c ?Look_init_k)
      (Fw.def_mk Fw.bd_is_look KX G ?is_look_a ?is_look_l ?is_look_c ?is_look_k)
      (Fw.def_mk Fw.bd_is_blank KX G ?is_blank_a ?is_blank_l ?is_blank_c ?is_blank_k)
      (Fw.def_mk Fw.bd_column_behind KX G ?column_behind_a ?column_behind_l ?column_behind_c ?column_behind_k)
      (Fw.def_mk Fw.bd_columns_behind KX G ?columns_behind_a ?columns_behind_l ?columns_behind_c ?columns_behind_k)
      (Fw.def_mk Fw.bd_many_blanks KX G ?many_blanks_a ?many_blanks_l ?many_blanks_c ?many_blanks_k)
      (Fw.def_mk Fw.bd_inset_of KX G ?inset_of_a ?inset_of_l ?inset_of_c ?inset_of_k)
      (Fw.def_mk Fw.bd_many_fit KX G ?many_fit_a ?many_fit_l ?many_fit_c ?many_fit_k)
      (Fw.def_mk Fw.bd_by_words KX G ?by_words_a ?by_words_l ?by_words_c ?by_words_k)
      (Fw.def_mk Fw.bd_many_taken KX G ?many_taken_a ?many_taken_l ?many_taken_c ?many_taken_k)
      (Fw.def_mk Fw.bd_rows_of KX G ?rows_of_a ?rows_of_l ?rows_of_c ?rows_of_k)
      (Fw.def_mk Fw.bd_is_in KX G ?is_in_a ?is_in_l ?is_in_c ?is_in_k)
      (Fw.def_mk Fw.bd_row_with KX G ?row_with_a ?row_with_l ?row_with_c ?row_with_k)
      (Fw.def_mk Fw.bd_column_in KX G ?column_in_a ?column_in_l ?column_in_c ?column_in_k)
      (Fw.def_mk Fw.bd_place_for KX G ?place_for_a ?place_for_l ?place_for_c ?place_for_k)
      (Fw.def_mk Fw.bd_is_line KX G ?is_line_a ?is_line_l ?is_line_c ?is_line_k)
      (Fw.def_mk Fw.bd_are_lines KX G ?are_lines_a ?are_lines_l ?are_lines_c ?are_lines_k)
      (Fw.init_mk Fw.bd_Page_init KX G ?Page_init_g ?Page_init_mk ?Page_init_kc ?Page_init_a ?Page_init_i ?Page_init_l ?Page_init_c ?Page_init_k)
      (Fw.meth_mk Fw.bd_margin ?margin_a ?margin_i ?margin_l ?margin_c ?margin_k)
      (Fw.meth_mk Fw.bd_rows ?rows_a ?rows_i ?rows_l ?rows_c ?rows_k)
      (Fw.meth_mk Fw.bd_row_at ?row_at_a ?row_at_i ?row_at_l ?row_at_c ?row_at_k)
      (Fw.meth_mk Fw.bd_own_row ?own_row_a ?own_row_i ?own_row_l ?own_row_c ?own_row_k)
      (Fw.meth_mk Fw.bd_column_at ?column_at_a ?column_at_i ?column_at_l ?column_at_c ?column_at_k)
      (Fw.meth_mk Fw.bd_told ?told_a ?told_i ?told_l ?told_c ?told_k)
      (Fw.meth_mk Fw.bd_last_top ?last_top_a ?last_top_i ?last_top_l ?last_top_c ?last_top_k)
      (Fw.meth_mk Fw.bd_scrolled ?scrolled_a ?scrolled_i ?scrolled_l ?scrolled_c ?scrolled_k)
      (Fw.meth_mk Fw.bd_settled ?settled_a ?settled_i ?settled_l ?settled_c ?settled_k)
      (Fw.meth_mk Fw.bd_put_into ?put_into_a ?put_into_i ?put_into_l ?put_into_c ?put_into_k)
      (Fw.def_mk Fw.bd_want KX G ?want_a ?want_l ?want_c ?want_k)
      (Fw.meth_mk Fw.bd_look ?look_a ?look_i ?look_l ?look_c ?look_k)
      (Fw.meth_mk Fw.bd_window ?window_a ?window_i ?window_l ?window_c ?window_k)
      (Fw.meth_mk Fw.bd_text ?text_a ?text_i ?text_l ?text_c ?text_k)
      (Fw.meth_mk Fw.bd_edit ?edit_a ?edit_i ?edit_l ?edit_c ?edit_k)
      (Fw.meth_mk Fw.bd_fold ?fold_a ?fold_i ?fold_l ?fold_c ?fold_k)
      (Fw.meth_mk Fw.bd_unfold ?unfold_a ?unfold_i ?unfold_l ?unfold_c ?unfold_k)
      (Fw.meth_mk Fw.bd_want_place ?want_place_a ?want_place_i ?want_place_l ?want_place_c ?want_place_k)
      (Fw.meth_mk Fw.bd_goto ?goto_a ?goto_i ?goto_l ?goto_c ?goto_k)
      (Fw.meth_mk Fw.bd_up ?up_a ?up_i ?up_l ?up_c ?up_k)
      (Fw.meth_mk Fw.bd_down ?down_a ?down_i ?down_l ?down_c ?down_k)
      (Fw.meth_mk Fw.bd_step_left ?step_left_a ?step_left_i ?step_left_l ?step_left_c ?step_left_k)
      (Fw.meth_mk Fw.bd_step_right ?step_right_a ?step_right_i ?step_right_l ?step_right_c ?step_right_k)
      (Fw.meth_mk Fw.bd_left ?left_a ?left_i ?left_l ?left_c ?left_k)
      (Fw.meth_mk Fw.bd_right ?right_a ?right_i ?right_l ?right_c ?right_k)
      (Fw.meth_mk Fw.bd_first_free ?first_free_a ?first_free_i ?first_free_l ?first_free_c ?first_free_k)
      (Fw.meth_mk Fw.bd_last_free ?last_free_a ?last_free_i ?last_free_l ?last_free_c ?last_free_k)
      (Fw.meth_mk Fw.bd_scroll ?scroll_a ?scroll_i ?scroll_l ?scroll_c ?scroll_k)
      (Fw.meth_mk Fw.bd_shows ?shows_a ?shows_i ?shows_l ?shows_c ?shows_k)
      (Fw.meth_mk Fw.bd_rows_told ?rows_told_a ?rows_told_i ?rows_told_l ?rows_told_c ?rows_told_k)
      (Fw.meth_mk Fw.bd_at ?at_a ?at_i ?at_l ?at_c ?at_k)
      (Fw.meth_mk Fw.bd_where ?where_a ?where_i ?where_l ?where_c ?where_k)
      (Fw.def_mk Fw.bd_lines_in KX G ?lines_in_a ?lines_in_l ?lines_in_c ?lines_in_k)
      (Fw.def_mk Fw.bd_changed KX G ?changed_a ?changed_l ?changed_c ?changed_k)
      (Fw.def_mk Fw.bd_moved KX G ?moved_a ?moved_l ?moved_c ?moved_k)
      (Fw.def_mk Fw.bd_looked KX G ?looked_a ?looked_l ?looked_c ?looked_k)
      (Fw.def_mk Fw.bd_asked KX G ?asked_a ?asked_l ?asked_c ?asked_k)
      (Fw.def_mk Fw.bd_answered KX G ?answered_a ?answered_l ?answered_c ?answered_k)
      (Fw.def_mk Fw.bd_answers KX G ?answers_a ?answers_l ?answers_c ?answers_k)
      hmg
    (case n_len => k_is); (case n_any => k_is); (case n_all => k_is); (case n_min => k_is); (case n_max => k_is); (case n_range => k_is); (case n_enumerate => k_is); (case n_ValueError => k_is)
    (case c_TAB => k_is); (case c_BLANK => k_is); (case c_DELETE => k_is); (case c_NOT_SO => k_is); (case c_UNFIT => k_is); (case c_TOO_MANY => k_is); (case c_NONE_THERE => k_is); (case c_NOT_SHOWN => k_is)
    (case c_MOST_LINES => k_is); (case c_MOST_BYTES => k_is); (case c_MOST_FOLDS => k_is); (case c_MOST_HIGH => k_is); (case c_MOST_STEPS => k_is); (case c_LINE_FEED => k_is); (case c_MOST_BYTE => k_is); (case c_TEXT => k_is)
    (case c_EDIT => k_is); (case g_R => k_is); (case g_P => k_is); (case g_L => k_is); (case pg_P => k_is); (case hd_P => k_is); (case po_P => k_is); (case sa_P => k_is)
    (case pg_L => k_is); (case hd_L => k_is); (case po_L => k_is); (case sa_L => k_is); (case p_lines => k_is); (case p_shape => k_is); (case p_folds => k_is); (case p_line => k_is)
    (case p_place => k_is); (case p_wished => k_is); (case p_top => k_is); (case p_high => k_is); (case p_told_margin => k_is); (case l_wide => k_is); (case l_tab => k_is); (case l_more => k_is)
    (case l_hang => k_is); (case l_words => k_is); (case x_L => k_is); (case x_sa => k_is); (case x_eC => k_is); (case x_tC => k_is); (case x_kC => k_is); (case x_ga => k_is)
    (case x_gg => k_is); (case x_hd => k_is); (case x_code => k_is); (case x_vV => k_is); (case x_iC => k_is); (case x_sC => first | rfl | k_is); (case x_a => k_is); (case x_t => k_is)
    (case x_l => k_is); (case x_c => k_is); (case x_k => k_is)
    (case hides_a => k_is); (case hides_l => k_is); (case hides_c => k_is); (case hides_k => k_is); (case has_a => k_is); (case has_l => k_is); (case has_c => k_is); (case has_k => k_is)
    (case is_seen_a => k_is); (case is_seen_l => k_is); (case is_seen_c => k_is); (case is_seen_k => k_is); (case are_well_a => k_is); (case are_well_l => k_is); (case are_well_c => k_is); (case are_well_k => k_is)
    (case seen_for_a => k_is); (case seen_for_l => k_is); (case seen_for_c => k_is); (case seen_for_k => k_is); (case fold_behind_a => k_is); (case fold_behind_l => k_is); (case fold_behind_c => k_is); (case fold_behind_k => k_is)
    (case folds_behind_a => k_is); (case folds_behind_l => k_is); (case folds_behind_c => k_is); (case folds_behind_k => k_is); (case Look_init_g => k_is); (case Look_init_mk => k_is); (case Look_init_kc => k_is); (case Look_init_a => k_is)
    (case Look_init_i => k_is); (case Look_init_l => k_is); (case Look_init_c => k_is); (case Look_init_k => k_is); (case is_look_a => k_is); (case is_look_l => k_is); (case is_look_c => k_is); (case is_look_k => k_is)
    (case is_blank_a => k_is); (case is_blank_l => k_is); (case is_blank_c => k_is); (case is_blank_k => k_is); (case column_behind_a => k_is); (case column_behind_l => k_is); (case column_behind_c => k_is); (case column_behind_k => k_is)
    (case columns_behind_a => k_is); (case columns_behind_l => k_is); (case columns_behind_c => k_is); (case columns_behind_k => k_is); (case many_blanks_a => k_is); (case many_blanks_l => k_is); (case many_blanks_c => k_is); (case many_blanks_k => k_is)
    (case inset_of_a => k_is); (case inset_of_l => k_is); (case inset_of_c => k_is); (case inset_of_k => k_is); (case many_fit_a => k_is); (case many_fit_l => k_is); (case many_fit_c => k_is); (case many_fit_k => k_is)
    (case by_words_a => k_is); (case by_words_l => k_is); (case by_words_c => k_is); (case by_words_k => k_is); (case many_taken_a => k_is); (case many_taken_l => k_is); (case many_taken_c => k_is); (case many_taken_k => k_is)
    (case rows_of_a => k_is); (case rows_of_l => k_is); (case rows_of_c => k_is); (case rows_of_k => k_is); (case is_in_a => k_is); (case is_in_l => k_is); (case is_in_c => k_is); (case is_in_k => k_is)
    (case row_with_a => k_is); (case row_with_l => k_is); (case row_with_c => k_is); (case row_with_k => k_is); (case column_in_a => k_is); (case column_in_l => k_is); (case column_in_c => k_is); (case column_in_k => k_is)
    (case place_for_a => k_is); (case place_for_l => k_is); (case place_for_c => k_is); (case place_for_k => k_is); (case is_line_a => k_is); (case is_line_l => k_is); (case is_line_c => k_is); (case is_line_k => k_is)
    (case are_lines_a => k_is); (case are_lines_l => k_is); (case are_lines_c => k_is); (case are_lines_k => k_is); (case Page_init_g => k_is); (case Page_init_mk => k_is); (case Page_init_kc => k_is); (case Page_init_a => k_is)
    (case Page_init_i => k_is); (case Page_init_l => k_is); (case Page_init_c => k_is); (case Page_init_k => k_is); (case margin_a => k_is); (case margin_i => k_is); (case margin_l => k_is); (case margin_c => k_is)
    (case margin_k => k_is); (case rows_a => k_is); (case rows_i => k_is); (case rows_l => k_is); (case rows_c => k_is); (case rows_k => k_is); (case row_at_a => k_is); (case row_at_i => k_is)
    (case row_at_l => k_is); (case row_at_c => k_is); (case row_at_k => k_is); (case own_row_a => k_is); (case own_row_i => k_is); (case own_row_l => k_is); (case own_row_c => k_is); (case own_row_k => k_is)
    (case column_at_a => k_is); (case column_at_i => k_is); (case column_at_l => k_is); (case column_at_c => k_is); (case column_at_k => k_is); (case told_a => k_is); (case told_i => k_is); (case told_l => k_is)
    (case told_c => k_is); (case told_k => k_is); (case last_top_a => k_is); (case last_top_i => k_is); (case last_top_l => k_is); (case last_top_c => k_is); (case last_top_k => k_is); (case scrolled_a => k_is)
    (case scrolled_i => k_is); (case scrolled_l => k_is); (case scrolled_c => k_is); (case scrolled_k => k_is); (case settled_a => k_is); (case settled_i => k_is); (case settled_l => k_is); (case settled_c => k_is)
    (case settled_k => k_is); (case put_into_a => k_is); (case put_into_i => k_is); (case put_into_l => k_is); (case put_into_c => k_is); (case put_into_k => k_is); (case want_a => k_is); (case want_l => k_is)
    (case want_c => k_is); (case want_k => k_is); (case look_a => k_is); (case look_i => k_is); (case look_l => k_is); (case look_c => k_is); (case look_k => k_is); (case window_a => k_is)
    (case window_i => k_is); (case window_l => k_is); (case window_c => k_is); (case window_k => k_is); (case text_a => k_is); (case text_i => k_is); (case text_l => k_is); (case text_c => k_is)
    (case text_k => k_is); (case edit_a => k_is); (case edit_i => k_is); (case edit_l => k_is); (case edit_c => k_is); (case edit_k => k_is); (case fold_a => k_is); (case fold_i => k_is)
    (case fold_l => k_is); (case fold_c => k_is); (case fold_k => k_is); (case unfold_a => k_is); (case unfold_i => k_is); (case unfold_l => k_is); (case unfold_c => k_is); (case unfold_k => k_is)
    (case want_place_a => k_is); (case want_place_i => k_is); (case want_place_l => k_is); (case want_place_c => k_is); (case want_place_k => k_is); (case goto_a => k_is); (case goto_i => k_is); (case goto_l => k_is)
    (case goto_c => k_is); (case goto_k => k_is); (case up_a => k_is); (case up_i => k_is); (case up_l => k_is); (case up_c => k_is); (case up_k => k_is); (case down_a => k_is)
    (case down_i => k_is); (case down_l => k_is); (case down_c => k_is); (case down_k => k_is); (case step_left_a => k_is); (case step_left_i => k_is); (case step_left_l => k_is); (case step_left_c => k_is)
    (case step_left_k => k_is); (case step_right_a => k_is); (case step_right_i => k_is); (case step_right_l => k_is); (case step_right_c => k_is); (case step_right_k => k_is); (case left_a => k_is); (case left_i => k_is)
    (case left_l => k_is); (case left_c => k_is); (case left_k => k_is); (case right_a => k_is); (case right_i => k_is); (case right_l => k_is); (case right_c => k_is); (case right_k => k_is)
    (case first_free_a => k_is); (case first_free_i => k_is); (case first_free_l => k_is); (case first_free_c => k_is); (case first_free_k => k_is); (case last_free_a => k_is); (case last_free_i => k_is); (case last_free_l => k_is)
    (case last_free_c => k_is); (case last_free_k => k_is); (case scroll_a => k_is); (case scroll_i => k_is); (case scroll_l => k_is); (case scroll_c => k_is); (case scroll_k => k_is); (case shows_a => k_is)
    (case shows_i => k_is); (case shows_l => k_is); (case shows_c => k_is); (case shows_k => k_is); (case rows_told_a => k_is); (case rows_told_i => k_is); (case rows_told_l => k_is); (case rows_told_c => k_is)
    (case rows_told_k => k_is); (case at_a => k_is); (case at_i => k_is); (case at_l => k_is); (case at_c => k_is); (case at_k => k_is); (case where_a => k_is); (case where_i => k_is)
    (case where_l => k_is); (case where_c => k_is); (case where_k => k_is); (case lines_in_a => k_is); (case lines_in_l => k_is); (case lines_in_c => k_is); (case lines_in_k => k_is); (case changed_a => k_is)
    (case changed_l => k_is); (case changed_c => k_is); (case changed_k => k_is); (case moved_a => k_is); (case moved_l => k_is); (case moved_c => k_is); (case moved_k => k_is); (case looked_a => k_is)
    (case looked_l => k_is); (case looked_c => k_is); (case looked_k => k_is); (case asked_a => k_is); (case asked_l => k_is); (case asked_c => k_is); (case asked_k => k_is); (case answered_a => k_is)
    (case answered_l => k_is); (case answered_c => k_is); (case answered_k => k_is); (case answers_a => k_is); (case answers_l => k_is); (case answers_c => k_is); (case answers_k => k_is)
  case S => exact Fw.the_ask
